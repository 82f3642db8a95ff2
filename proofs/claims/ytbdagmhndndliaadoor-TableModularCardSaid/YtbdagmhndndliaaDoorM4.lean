/- Part 4 of the proof: lemmas. -/
import Derived.Test.YtbdagmhndndliaaDoorM3
namespace Go.Avm.Pack
open Go Go.Avm Go.Proofs
open Go.IntKind (i64 u64)
open Go.Avm.AV (int bool any fz fp sl ow ref fn ifc val agg tup)
open Go.Avm.AObj (cells dead)
open Go.Avm.Oc (ret)
set_option maxRecDepth 4000
theorem yp {P:Program}{R:Res}{o:Oper}{ev ev':Operand->AV}{hp hp':List AObj}{g g':R.σ}{v:AV}(h:OpOk P R o ev' hp g v hp' g')(hle:∀x,x∈o.op.operands->Le (ev x) (ev' x)):OpOk P R o ev hp g v hp' g':=
 ⟨fun FM Z w evc okw hop=>h.h FM Z w evc okw (fun x hx=>hle x hx _ _ _ (hop x hx))⟩
theorem yq (R:Res)(r:Int)(n N:Nat)(c:Nat->AV)(hc:∀j,j<N->Below 1 (c j))(hr:decide (r = -1)=true)(g:R.σ):Does Tryd.prog R 68 [.agg 2 (nth [.int .i64 r,.ow true 0 n 1])] [cO N c] g (.ret (.ifc 148 (.agg 2 (nth [.int .i64 r,.ow true 0 n 1])))) [cO N c] g:=by
 have hr:=of_decide_eq_true hr
 subst hr
 refine spW (nt:=12) (rs:=[.tmp 2]) (k0:=1) ?_
 refine vcR [[1,0,1,1]] (lkL [(0,[1]),(1,[1,5]),(2,[2])]) (fun _=>[]) (fun Q=>(fun (u1:List AObj)=>1<=2/\(true=true->2<=2/\Q AEx.ret (St.mk [(2,ifc 148 (agg 2 (nth [i6 (-1),ow true 0 n 1])))] u1 g))/\(true=false->WpC Tryd.prog R 12 1 68 [1,0,1,1] Q [Kont.seq [1,1]] (St.mk [(1,ref 1 0),(5,AV.bool true)] u1 g))) ([cO N c,cO 2 (nth [i6 (-1),ow true 0 n 1])])) ⟨omg,fun _=>⟨omg,?_⟩,fun h=>(nomatch h)⟩
 refine(av (bZ 1 _ _ rfl trivial omg ⟨⟨trivial,trivial⟩,(show 1<=1 by omega)⟩ ⟨(fun _ _=>?_),trivial⟩ krf rfl rfl) (AM _))
 exact hc _ (by assumption)
theorem yr (R:Res)(r:Int)(n N:Nat)(c:Nat->AV)(hc:∀j,j<N->Below 1 (c j))(hr:decide (r = -1)=false)(g:R.σ):Does Tryd.prog R 68 [.agg 2 (nth [.int .i64 r,.ow true 0 n 1])] [cO N c] g (.ret (.ifc 149 (.agg 2 (nth [.int .i64 r,.ow true 0 n 1])))) [cO N c] g:=by
 refine spW (nt:=12) (rs:=[.tmp 2]) (k0:=1) ?_
 refine vcR [] (lkL [(0,[1]),(1,[1,5]),(2,[2]),(3,[2])]) (fun _=>[]) (fun Q=>(fun (u1:List AV)=>1<=2/\((r == -1)=true->2<=2/\Q AEx.ret (St.mk [(2,ifc 148 (agg 2 (nth u1)))] [cO N c,cO 2 (nth u1)] g))/\((r == -1)=false->2<=2/\Q AEx.ret (St.mk [(2,ifc 149 (agg 2 (nth u1)))] [cO N c,cO 2 (nth u1)] g))) ([i6 r,ow true 0 n 1])) ⟨omg,fun c1=>have c1:r = -1:=(beq_iff_eq.mp c1);⟨omg,?_⟩,fun c1=>have c1:¬r = -1:=(beq_eq_false_iff_ne.mp c1);⟨omg,?_⟩⟩
 ·exact absurd c1 (of_decide_eq_false hr)
 ·refine(av (bZ 1 _ _ rfl trivial omg ⟨⟨trivial,trivial⟩,(show 1<=1 by omega)⟩ ⟨(fun _ _=>?_),trivial⟩ krf rfl rfl) (AM _))
  exact hc _ (by assumption)
theorem b9 {f:Nat->Nat}{p:Prg}{v:Nat->Int}{j m:Nat}(h:f 1=m):aI f (ad p v (.mp 1) j)=ad p v (.mp m) j:=by
 unfold ad
 split
 ·rfl
 ·split
  ·rfl
  ·split
   ·rfl
   ·show AV.mp (f 1)=_
    rw[h]
theorem lW (R:Res)(p:Prg)(o:AObj)(hl:p.rules.l.length<1000000)(hr:∀r,r∈p.rules.l->aE r)(g:R.σ):Does Tryd.prog R 66 [aw p] [o] g (.ret (.ref 1 0)) [o,cO 27 (ad p (fun _=>3) (.mp 2)),.map (esF p.rules.l)] g:=
 fB [] 1 (fun R g=>xX R p hl hr g) rfl rfl rfl trivial trivial ⟨bp (by exact⟨⟨trivial,trivial⟩,trivial⟩),trivial⟩ (AM _) ⟨AP _,AY (fun j hj=>b9 rfl),rfl,trivial⟩
theorem dZ {k:Nat}(l:List Int)(j:Nat):Below k (af l j):=trivial
theorem fG {f:Nat->Nat}(h:True){l:List Int}{j:Nat}:aI f (af l j)=af l j:=rfl
def bV (l:List Stp):Nat->AV:=fun c=>bif Nat.beq (c%2) 0 then .int .i64 (l.getD (c/2) default).rule else .ow true (3+c/2) (l.getD (c/2) default).atoms.length 1
def ab (l:List Stp)(j:Nat):AObj:=cO ((l.getD j default).atoms.length*1) (af (l.getD j default).atoms)
def j6 (p:Prg)(v:Nat->Int)(l:List Stp):List AObj:=cO 27 (ad p v (.mp 1))::.map (esF p.rules.l)::cO (l.length*2) (bV l)::bJ (ab l) []
theorem sf {f:Nat->AV}{g:Nat->AV}:LeO (cO 0 f) (cO 0 g):=⟨rfl,Nat.le_refl _,fun j hj=>absurd hj (Nat.not_lt_zero j)⟩
theorem yu (p:Prg):leH ([cO 27 (ad p (fun _=>3) (.mp 1)),.map (esF p.rules.l)]++List.replicate 25 (cO 0 (fun _=>.any))) (j6 p (fun _=>3) []):=
 ⟨AP _,rfl,sf,rS (f:=fun _=>cO 0 (fun _=>.any)) (fun j hj=>sf) trivial⟩
def ez (l:List Stp)(s:Stp):Nat->AV:=fun c=>bif Nat.blt c (l.length*2) then bV l c else nth [.int .i64 s.rule,.ow true 28 s.atoms.length 1] (c-l.length*2)
def dG (m:Nat):List Nat:=[0,1,31,(bif Nat.beq 0 m then 28 else 3),(bif Nat.beq 1 m then 28 else 4),(bif Nat.beq 2 m then 28 else 5),(bif Nat.beq 3 m then 28 else 6),(bif Nat.beq 4 m then 28 else 7),(bif Nat.beq 5 m then 28 else 8),(bif Nat.beq 6 m then 28 else 9),(bif Nat.beq 7 m then 28 else 10),(bif Nat.beq 8 m then 28 else 11),(bif Nat.beq 9 m then 28 else 12),(bif Nat.beq 10 m then 28 else 13),(bif Nat.beq 11 m then 28 else 14),(bif Nat.beq 12 m then 28 else 15),(bif Nat.beq 13 m then 28 else 16),(bif Nat.beq 14 m then 28 else 17),(bif Nat.beq 15 m then 28 else 18),(bif Nat.beq 16 m then 28 else 19),(bif Nat.beq 17 m then 28 else 20),(bif Nat.beq 18 m then 28 else 21),(bif Nat.beq 19 m then 28 else 22),(bif Nat.beq 20 m then 28 else 23),(bif Nat.beq 21 m then 28 else 24),(bif Nat.beq 22 m then 28 else 25),(bif Nat.beq 23 m then 28 else 26)]
theorem j7 {m:Nat}(hm:m<24):bF (dG m) 32=true/\cN (dG m)=true/\∀b,b<24->au (dG m) 32 (3+b)=(bif Nat.beq b m then 28 else b+3):=by
 have h:(List.range 24).all (fun m=>bF (dG m) 32&&(cN (dG m)&&(List.range 24).all (fun b=>au (dG m) 32 (3+b)==(bif Nat.beq b m then 28 else b+3))))=true:=by decide +kernel
 have h:=(List.all_eq_true.1 h) m (List.mem_range.2 hm)
 simp only[Bool.and_eq_true] at h
 exact⟨h.1,h.2.1,fun b hb=>by simpa using (List.all_eq_true.1 h.2.2) b (List.mem_range.2 hb)⟩
theorem yv {f:Nat->Nat}{hp:List AObj}{m:Nat}{g:Nat->AObj}{x0 x1 x2:AObj}(h:∀j,j<24->LeO (ag hp (bif Nat.beq j m then 28 else j+3)) (bW f (g j)))(h0:LeO (ag hp 0) (bW f x0))(h1:LeO (ag hp 1) (bW f x1))(h2:LeO (ag hp 31) (bW f x2)):dd f hp (dG m) (x0::x1::x2::bJ g []):=
 ⟨h0,h1,h2,h 0 dcd,h 1 dcd,h 2 dcd,h 3 dcd,h 4 dcd,h 5 dcd,h 6 dcd,h 7 dcd,h 8 dcd,h 9 dcd,h 10 dcd,h 11 dcd,h 12 dcd,h 13 dcd,h 14 dcd,h 15 dcd,h 16 dcd,h 17 dcd,h 18 dcd,h 19 dcd,h 20 dcd,h 21 dcd,h 22 dcd,h 23 dcd,trivial⟩
theorem oq {j m:Nat}(h:j≠m):Nat.beq j m=false:=by
 cases hx:Nat.beq j m with
 |false=>rfl
 |true=>exact absurd (Nat.eq_of_beq_eq_true hx) h
theorem sg (m:Nat):Nat.beq m m=true:=by simp
theorem sh {l:List Stp}{s:Stp}{z:Nat->AV}{c:Nat}(hc:c<(l.length+1)*2):ez l s c=bb 2 l.length (fun i j=>bV l (i*2+j)) (fun i j=>ao z 0 2 (nth [.int .i64 s.rule,.ow true 28 s.atoms.length 1]) (0+i*2+j)) c:=by
 unfold bb ez
 by_cases h:c<l.length*2
 ·rw[if_pos h,show Nat.blt c (l.length*2)=true by rw[Nat.blt_eq];exact h]
  show bV l c=bV l (c/2*2+c%2)
  rw[show c/2*2+c%2=c by omega]
 ·rw[if_neg h,show Nat.blt c (l.length*2)=false from by
   cases hx:Nat.blt c (l.length*2) with
   |false=>rfl
   |true=>exact absurd (by rw[Nat.blt_eq] at hx;exact hx) h]
  show nth _ (c-l.length*2)=ao z 0 2 _ (0+(c-l.length*2)/2*2+(c-l.length*2)%2)
  rw[eD,if_pos omg]
  congr 1
  omega
theorem ot {l:List Stp}{s:Stp}{j:Nat}:(l++[s]).getD j default=if j=l.length then s else l.getD j default:=by
 rw[List.getD_eq_getElem?_getD,List.getD_eq_getElem?_getD]
 rcases Nat.lt_trichotomy j l.length with h|h|h
 ·rw[List.getElem?_append_left h,if_neg omg]
 ·subst h
  rw[List.getElem?_append_right (Nat.le_refl _),Nat.sub_self,if_pos rfl]
  rfl
 ·rw[if_neg omg,List.getElem?_eq_none (by simp;omega),List.getElem?_eq_none omg]
theorem sj {p:Prg}{v':Nat->Int}{l:List Stp}{s:Stp}{o27 o29 o30:AObj}(hm:l.length<24):dd (au (dG l.length) 32) (cO 27 (ad p v' (.mp 1))::.map (esF p.rules.l)::.dead::bJ (ab l) [o27,cO (s.atoms.length*1) (af s.atoms),o29,o30,cO ((l.length+1)*2) (ez l s)]) (dG l.length) (j6 p v' (l++[s])):=by
 have hf:=(j7 hm).2.2
 refine yv (fun j hj=>?_) (AY (fun j hj=>(cz (f:=au (dG l.length) 32) rfl).symm)) rfl ?_
 ·by_cases hjm:j=l.length
  ·subst hjm
   rw[sg]
   show LeO (cO (s.atoms.length*1) (af s.atoms)) (bW _ (ab (l++[s]) l.length))
   unfold ab
   rw[ot,if_pos rfl]
   exact AP _
  ·rw[oq hjm]
   have e:=lM (f:=ab l) (r:=[o27,cO (s.atoms.length*1) (af s.atoms),o29,o30,cO ((l.length+1)*2) (ez l s)]) hj
   show LeO (ag (bJ (ab l) _) j) _
   rw[e]
   unfold ab
   rw[ot,if_neg hjm]
   exact AP _
 ·show LeO (cO ((l.length+1)*2) (ez l s)) (cO ((l++[s]).length*2) (fun c=>aI (au (dG l.length) 32) (bV (l++[s]) c)))
  rw[List.length_append,List.length_singleton]
  refine AY (fun c hc=>?_)
  unfold ez bV
  rw[ot]
  by_cases h:c<l.length*2
  ·rw[show Nat.blt c (l.length*2)=true by rw[Nat.blt_eq];exact h,if_neg omg]
   show(bif Nat.beq (c%2) 0 then _ else _)=aI _ (bif Nat.beq (c%2) 0 then _ else _)
   cases Nat.beq (c%2) 0 with
   |true=>rfl
   |false=>
    show AV.ow true (3+c/2) _ 1=AV.ow true (au (dG l.length) 32 (3+c/2)) _ 1
    rw[hf (c/2) omg,oq omg]
    congr 1
    show 3+c/2=c/2+3
    omega
  ·rw[show Nat.blt c (l.length*2)=false from by
    cases hx:Nat.blt c (l.length*2) with
    |false=>rfl
    |true=>exact absurd (by rw[Nat.blt_eq] at hx;exact hx) h,if_pos omg]
   have h2:c=l.length*2∨c=l.length*2+1:=by omega
   rcases h2 with rfl|rfl
   ·rw[show l.length*2%2=0 by omega,Nat.sub_self]
    rfl
   ·rw[show(l.length*2+1)%2=1 by omega,show l.length*2+1-l.length*2=1 by omega,show(l.length*2+1)/2=l.length by omega]
    show AV.ow true 28 _ 1=AV.ow true (au (dG l.length) 32 (3+l.length)) _ 1
    rw[hf l.length hm,sg]
    rfl
theorem ou {R:Res}{o:Oper}{ev:Operand->AV}{hp:List AObj}{g:R.σ}{x y:Operand}(a b:Nat->Int)(r:Bool)(ho:o.op=.binOp .eql 95 x y 95)(hne:x≠y)(hx:Le (ev x) (.agg 24 (fun j=>.int .i64 (a j))))(hy:Le (ev y) (.agg 24 (fun j=>.int .i64 (b j))))(hr:r=true↔∀j,j<24->a j=b j):OpOk Tryd.prog R o ev hp g (.bool r) hp g:=by
 classical
 have h:=wm (P:=Tryd.prog) (R:=R) (hp:=hp) (g:=g) (n:=24) (ev:=fun z=>if z=x then .agg 24 (fun j=>.int .i64 (a j)) else if z=y then .agg 24 (fun j=>.int .i64 (b j)) else .any) (e:=43) (k:=.i64) (a:=a) (b:=b) ho (if_pos rfl) ((if_neg (Ne.symm hne)).trans (if_pos rfl)) krf krf krf krf krf
 have e:∀d:Bool,(d=true↔∀j,j<24->a j=b j)->d=r:=fun d hd=>by
  rw[Bool.eq_iff_iff,hd,hr]
 rw[e _ decide_eq_true_iff] at h
 refine yp h (fun z _=>?_)
 by_cases h1:z=x
 ·subst h1;simp only[if_true];exact hx
 ·by_cases h2:z=y
  ·subst h2;simp only[h1,if_false,if_true];exact hy
  ·simp only[h1,h2,if_false];exact Le.any _
theorem ov {p:Prg}{v:Nat->Int}{m:AV}:Le (.agg 24 (fun j=>ad p v m (j+2))) (.agg 24 (fun j=>.int .i64 (v j))):=
 AS (fun j hj=>AN (d5 rfl hj))
theorem ox {p:Prg}{v:Nat->Int}{m:AV}{z:Nat->AV}:Le (.agg 24 (ao z 0 24 (fun j=>ad p v m (j+2)))) (.agg 24 (fun j=>.int .i64 (v j))):=
 AS (fun j hj=>AN (by rw[eD,if_pos omg,Nat.sub_zero];exact d5 rfl hj))
theorem sk {p:Prg}{v:Nat->Int}(hp:bA p)(hr:∀r,r∈p.rules.l->aE r)(hh:cl p)(hb:aS p v=true):false=true↔∀j,j<24->ba v (aj p v) j=v j:=by
 obtain⟨_,a,h1,h2,h3⟩:=sd hp hr hh hb
 have:=hp.2
 exact⟨fun h=>(by cases h),fun h=>absurd ((h a omg).trans h2) h3⟩
theorem yw {l:List Stp}(hl:l.length<=24){c:Nat}(hc:c<l.length*2):Below 27 (bV l c):=by
 unfold bV
 cases Nat.beq (c%2) 0 with
 |true=>trivial
 |false=>show 3+c/2<27;omega
theorem sm {p:Prg}{v:Nat->Int}{l:List Stp}{f:Nat}(hb:aS p v=true)(hlt:cq p (ba v (aj p v))<cq p v)(h1:cq p v+l.length<=p.atoms.toNat)(h2:cq p v<f)(h3:cI p f v l=am p):cq p (ba v (aj p v))+(l++[aj p v]).length<=p.atoms.toNat/\∃f,cq p (ba v (aj p v))<f/\cI p f (ba v (aj p v)) (l++[aj p v])=am p:=by
 refine⟨?_,?_⟩
 ·rw[List.length_append,List.length_singleton];omega
 ·obtain⟨f,rfl⟩:∃k,f=k+1:=⟨f-1,omg⟩
  refine⟨f,omg,?_⟩
  rw[<-h3]
  show _=(if aS p v then _ else _)
  rw[if_pos hb]
theorem sn (R:Res)[Tab LT R](p:Prg)(hl:p.rules.l.length<1000000)(hr:∀r,r∈p.rules.l->aE r)(hp:bA p)(hh:cl p)(g:R.σ):Does Tryd.prog R 60 [aw p] [] g (.ret (.tup 2 (nth [.ow true 2 (am p).1.length 2,.ref 0 0]))) (j6 p (am p).2 (am p).1) g:=by
 refine spW (nt:=37) (rs:=[.tmp 2,.tmp 3]) (k0:=0) ?_
 refine vcR [] (lkL [(0,[1]),(1,[4]),(2,[4,5])]) (lkL [(1,[(1,ROrc.call (ref 1 0) [cO 2 (nth [i6 p.atoms,ae p.rules]),cO 27 (ad p (fun (x:Nat)=>3) (AV.mp 2)),AObj.map (esF p.rules.l)] g)])]) (fun Q=>(fun (u1:List AObj)=>2<=2/\(true=true/\Does Tryd.prog R 66 [aw p] [cO 2 (nth [i6 p.atoms,ae p.rules])] g (ret (ref 1 0)) u1 g)/\WpC Tryd.prog R 37 0 60 [1,1,1,0] Q [Kont.blk 0] (St.mk [(4,ref 1 0),(5,fz Fz.nil 0 0 fun x x_1=>any)] u1 g)) ([cO 2 (nth [i6 p.atoms,ae p.rules]),cO 27 (ad p (fun (x:Nat)=>3) (AV.mp 2)),AObj.map (esF p.rules.l)])) ⟨omg,⟨rfl,(lW _ _ _ omg omg _)⟩,?_⟩
 refine cp (toS (s':=⟨[(4,.ref 0 0),(5,.fz .nil 0 0 fun _ _=>.any)],[cO 27 (ad p (fun _=>3) (.mp 1)),.map (esF p.rules.l)],g⟩) [1,2] 3 (hob:=⟨AY (fun j hj=>(b9 (f:=au [1,2] 3) rfl).symm),rfl,trivial⟩)) ?_
 refine cp (gg (fun _=>.any) 25) ?_
 refine cp (toL (s':=⟨[(4,.ref 0 0),(5,.ow true 2 0 2)],j6 p (fun _=>3) [],g⟩) (h1:=⟨AM _,Le.nil_ow,trivial⟩) (h2:=yu p)) ?_
 refine(bi krf (fun (x:(Nat->Int) × List Stp)=>⟨[(4,ref 0 0),(5,.ow true 2 x.2.length 2)],(j6 p x.1 x.2),g⟩) (fun (x:(Nat->Int) × List Stp)=>(cq p x.1+x.2.length<=p.atoms.toNat/\∃f,cq p x.1<f/\cI p f x.1 x.2=am p)) (fun (x:(Nat->Int) × List Stp)=>(cq p x.1)) ((fun _=>3,[]):(Nat->Int) × List Stp) (aY ⟨AM _,AM _,trivial⟩ rfl rfl) ?_ (fun x hi=>?_))
 ·refine⟨j5 p _,25,?_,rfl⟩
  have:=j5 p (fun _=>3)
  have:=hp.2
  show cq p (fun _=>3)<25
  omega
 ·obtain⟨v,l⟩:=x
  obtain⟨h1,f,h2,h3⟩:=hi
  simp only at h1 h2 h3
  have hes:=n7 hr
  have hp':1<=p.atoms/\p.atoms<=24:=hp
  have hroom:aN=140737488355328:=rfl
  have hat:=se (v:=v) hp hr hh
  cases hb:aS p v with
  |true=>
   by_cases hf:0<=a9 p v
   ·obtain⟨k1,k2,k3,_⟩:=ol hr hf
    have hal:0<(aj p v).atoms.length:=by rw[show aj p v=_ from if_pos hf];exact Nat.zero_lt_one
    have k4:decide ((aj p v).rule = -1)=false:=decide_eq_false omg
    refine vcR [[1,1,1,0,0,0,1,1,1,0],[1,1,1,0,0,0,1,0,1,1,1]] (lkL [(3,[4,5,6]),(4,[4,5,6,7,8]),(5,[4,5,6,7,20]),(6,[4,5,6,7]),(7,[4,5,6]),(8,[4,5,34])]) (lkL [(4,[(1,ROrc.call (tup 2 (nth [agg 2 (nth [i6 (aj p v).rule,ow true 28 (List.length (aj p v).atoms) 1]),AV.bool (aS p v)])) [cO 27 (ad p v (AV.mp 1)),AObj.map (esF p.rules.l),cO (List.length l*2) (bV l),ab l 0,ab l 1,ab l 2,ab l 3,ab l 4,ab l 5,ab l 6,ab l 7,ab l 8,ab l 9,ab l 10,ab l 11,ab l 12,ab l 13,ab l 14,ab l 15,ab l 16,ab l 17,ab l 18,ab l 19,ab l 20,ab l 21,ab l 22,ab l 23,cO 24 (ao (nth [i6 0,i6 0,i6 0,i6 0,i6 0,i6 0,i6 0,i6 0,i6 0,i6 0,i6 0,i6 0,i6 0,i6 0,i6 0,i6 0,i6 0,i6 0,i6 0,i6 0,i6 0,i6 0,i6 0,i6 0]) 0 24 fun (j:Nat)=>ad p v (AV.mp 1) (j+2)),cO (List.length (aj p v).atoms*1) (af (aj p v).atoms)] g),(6,ROrc.val (Orc.obj (nth [i6 (aj p v).rule,ow true 28 (List.length (aj p v).atoms) 1])))]),(6,[(1,ROrc.kcall (ifc 149 (agg 2 (nth [i6 (aj p v).rule,ow true 28 (List.length (aj p v).atoms) 1])))),(3,ROrc.inv (tup 0 (nth [])) [cO 27 (ad p (er p v (eJ (aj p v))) (AV.mp 1)),AObj.map (esF p.rules.l),cO (List.length l*2) (bV l),ab l 0,ab l 1,ab l 2,ab l 3,ab l 4,ab l 5,ab l 6,ab l 7,ab l 8,ab l 9,ab l 10,ab l 11,ab l 12,ab l 13,ab l 14,ab l 15,ab l 16,ab l 17,ab l 18,ab l 19,ab l 20,ab l 21,ab l 22,ab l 23,cO 24 (ao (nth [i6 0,i6 0,i6 0,i6 0,i6 0,i6 0,i6 0,i6 0,i6 0,i6 0,i6 0,i6 0,i6 0,i6 0,i6 0,i6 0,i6 0,i6 0,i6 0,i6 0,i6 0,i6 0,i6 0,i6 0]) 0 24 fun (j:Nat)=>ad p v (AV.mp 1) (j+2)),cO (List.length (aj p v).atoms*1) fun (a:Nat)=>af (aj p v).atoms a,cO 2 (nth [i6 (aj p v).rule,ow true 28 (List.length (aj p v).atoms) 1])] g)]),(7,[(3,ROrc.val (Orc.obj (ez l (aj p v))))]),(8,[(5,ROrc.kop (AV.bool false))])]) (fun Q=>(fun (u1:List AObj)=>(fun (u2:List AObj)=>(fun (u3:List AV)=>(fun (u4:List AV)=>(fun (u5:AObj)=>(fun (u6:St R.σ)=>(fun (u7:AObj)=>26<=27/\24<=24/\(true=true/\Does Tryd.prog R 96 [ref 0 0] [u5,AObj.map (esF p.rules.l),cO (List.length l*2) (bV l),ab l 0,ab l 1,ab l 2,ab l 3,ab l 4,ab l 5,ab l 6,ab l 7,ab l 8,ab l 9,ab l 10,ab l 11,ab l 12,ab l 13,ab l 14,ab l 15,ab l 16,ab l 17,ab l 18,ab l 19,ab l 20,ab l 21,ab l 22,ab l 23,u7] g (ret (tup 2 (nth [agg 2 (nth u4),AV.bool (aS p v)]))) [u5,AObj.map (esF p.rules.l),cO (List.length l*2) (bV l),ab l 0,ab l 1,ab l 2,ab l 3,ab l 4,ab l 5,ab l 6,ab l 7,ab l 8,ab l 9,ab l 10,ab l 11,ab l 12,ab l 13,ab l 14,ab l 15,ab l 16,ab l 17,ab l 18,ab l 19,ab l 20,ab l 21,ab l 22,ab l 23,u7,cO (List.length (aj p v).atoms*1) fun a=>af (aj p v).atoms a] g)/\2<=2/\(∀(c:Nat),c<2->nth u4 c=ao (nth [i6 0,fz Fz.nil 0 0 fun x x_1=>any]) 0 2 (List.brecOn (motive:=fun (x:List AV)=>Nat->AV) u4 nth._f) c)/\(aS p v=true->2<=2/\(true=true/\Does Tryd.prog R 68 [agg 2 (nth u4)] (u5::u2) g (ret (ifc 149 (agg 2 (nth u4)))) (u5::u2) g)/\(true=true/\true=true/\Does Tryd.prog R 141 [agg 2 (nth u4),ref 0 0] (u5::u2) g (ret (tup 0 (nth []))) (cO 27 (ad p (er p v (eJ (aj p v))) (AV.mp 1))::u2) g)/\2<=2/\0<2/\(List.length l+1)*32<=aN/\List.length l+1<=aN/\2<=2/\List.length l*2<=List.length l*2/\(∀(c:Nat),c<(List.length l+1)*2->ez l (aj p v) c=bb 2 (List.length l) (fun (i j:Nat)=>bV l (i*2+j)) (fun (i j:Nat)=>ao (fun (j:Nat)=>nth [i6 0,fz Fz.nil 0 0 fun x x_1=>any] (j%2)) 0 2 (List.brecOn (motive:=fun (x:List AV)=>Nat->AV) u4 nth._f) (0+i*2+j)) c)/\Flw Tryd.prog/\26<=27/\24<=24/\OpOk Tryd.prog R (Oper.mk (some 34) (Op.binOp BinOp.eql 95 (Operand.tmp 32) (Operand.tmp 33) 95) 4 "table.go:195" #[Edge.mk 3 Ground.data,Edge.mk 4 Ground.data] none) (evO [Row.mk (some 33) none (agg 24 (ao (nth u3) 0 24 fun j=>ad p v (AV.mp 1) (j+2))) false (some []) [27],Row.mk (some 32) none (agg 24 fun j=>ad p (er p v (eJ (aj p v))) (AV.mp 1) (j+2)) false (some []) [0],Row.mk (some 31) none (ref 0 2) false (some []) [],Row.mk (some 30) none (ref 0 0) false (some []) [],Row.mk (some 29) none (ref 0 0) false (some []) []] [(4,ref 0 0),(5,ow true 31 (List.length l+1) 2),(6,ref 27 0)] []) u1 g (AV.bool false) u1 g/\(false=true->WpC Tryd.prog R 37 0 60 [1,1,1,0,0,0,1,1,1,0] Q [Kont.blk 1] u6)/\(false=false->Q AEx.normal u6))/\(aS p v=false->WpC Tryd.prog R 37 0 60 [1,1,1,0,0,0,1,0,1,1,1] Q [Kont.seq [1,1,1,0,0,0,1,1],Kont.blk 1] (St.mk [(4,ref 0 0),(5,ow true 2 (List.length l) 2),(6,ref 27 0),(7,ref 29 0),(20,AV.bool (aS p v))] (u5::u2) g))) (cO 24 (ao (nth u3) 0 24 fun j=>ad p v (AV.mp 1) (j+2)))) (St.mk [(4,ref 0 0),(5,ow true 31 (List.length l+1) 2),(34,AV.bool false)] u1 g)) (cO 27 (ad p v (AV.mp 1)))) ([i6 (aj p v).rule,ow true 28 (List.length (aj p v).atoms) 1])) ([i6 0,i6 0,i6 0,i6 0,i6 0,i6 0,i6 0,i6 0,i6 0,i6 0,i6 0,i6 0,i6 0,i6 0,i6 0,i6 0,i6 0,i6 0,i6 0,i6 0,i6 0,i6 0,i6 0,i6 0])) ([AObj.map (esF p.rules.l),cO (List.length l*2) (bV l),ab l 0,ab l 1,ab l 2,ab l 3,ab l 4,ab l 5,ab l 6,ab l 7,ab l 8,ab l 9,ab l 10,ab l 11,ab l 12,ab l 13,ab l 14,ab l 15,ab l 16,ab l 17,ab l 18,ab l 19,ab l 20,ab l 21,ab l 22,ab l 23,cO 24 (ao (nth [i6 0,i6 0,i6 0,i6 0,i6 0,i6 0,i6 0,i6 0,i6 0,i6 0,i6 0,i6 0,i6 0,i6 0,i6 0,i6 0,i6 0,i6 0,i6 0,i6 0,i6 0,i6 0,i6 0,i6 0]) 0 24 fun j=>ad p v (AV.mp 1) (j+2)),cO (List.length (aj p v).atoms*1) fun a=>af (aj p v).atoms a,cO 2 (nth [i6 (aj p v).rule,ow true 28 (List.length (aj p v).atoms) 1])])) ([cO 27 (ad p (er p v (eJ (aj p v))) (AV.mp 1)),AObj.map (esF p.rules.l),dead,ab l 0,ab l 1,ab l 2,ab l 3,ab l 4,ab l 5,ab l 6,ab l 7,ab l 8,ab l 9,ab l 10,ab l 11,ab l 12,ab l 13,ab l 14,ab l 15,ab l 16,ab l 17,ab l 18,ab l 19,ab l 20,ab l 21,ab l 22,ab l 23,cO 24 (ao (nth [i6 0,i6 0,i6 0,i6 0,i6 0,i6 0,i6 0,i6 0,i6 0,i6 0,i6 0,i6 0,i6 0,i6 0,i6 0,i6 0,i6 0,i6 0,i6 0,i6 0,i6 0,i6 0,i6 0,i6 0]) 0 24 fun j=>ad p v (AV.mp 1) (j+2)),cO (List.length (aj p v).atoms*1) fun a=>af (aj p v).atoms a,cO 2 (nth [i6 (aj p v).rule,ow true 28 (List.length (aj p v).atoms) 1]),cO 2 (ao (fun (j:Nat)=>nth [i6 0,fz Fz.nil 0 0 fun x x_1=>any] (j%2)) 0 2 (List.brecOn (motive:=fun (x:List AV)=>Nat->AV) [i6 (aj p v).rule,ow true 28 (List.length (aj p v).atoms) 1] nth._f)),cO ((List.length l+1)*2) (ez l (aj p v))])) ⟨omg,omg,⟨rfl,(doT (T:=LT) [0,1] 28 (fun R _ g=>og R (p) (v) (esF p.rules.l) omg omg omg omg g) (e3:=by exact⟨⟨rfl,Nat.le_refl _,fun j hj=>(by first|exact bO (by first|exact trivial|apply aZ)|exact AN (cz rfl)|exact AN (b9 (by rfl)))⟩,rfl,AO,AO,AO,AO,AO,AO,AO,AO,AO,AO,AO,AO,AO,AO,AO,AO,AO,AO,AO,AO,AO,AO,AO,AO,AO,AO,⟨rfl,Nat.le_refl _,fun j hj=>(by first|exact bO (by first|exact trivial|apply dZ)|exact AN (fG rfl))⟩,trivial⟩))⟩,omg,(fun c hc=>match c,hc with|0,_=>krf|1,_=>krf ),fun _=>⟨omg,⟨rfl,(doT (T:=LT) [28] 30 (fun R _ g=>yr R ((aj p v).rule) (List.length (aj p v).atoms) (List.length (aj p v).atoms*1) (fun (a:Nat)=>af (aj p v).atoms a) ?_ omg g) (e2:=by exact(Le.ifc (AS (fun i hi=>match i,hi with|0,_=>(AM _)|1,_=>(AM _) )))) (e3:=by exact⟨AO,rfl,AO,AO,AO,AO,AO,AO,AO,AO,AO,AO,AO,AO,AO,AO,AO,AO,AO,AO,AO,AO,AO,AO,AO,AO,AO,AO,⟨rfl,Nat.le_refl _,fun j hj=>(by first|exact bO (by first|exact trivial|apply dZ)|exact AN (fG rfl))⟩,AO,trivial⟩))⟩,⟨krf,rfl,(doT (T:=LT) [0,1,28] 30 (fun R _ g=>yi R (p) (v) (esF p.rules.l) (aj p v) omg omg omg g) (e3:=by exact⟨⟨rfl,Nat.le_refl _,fun j hj=>(by first|exact bO (by first|exact trivial|apply aZ)|exact AN (cz rfl)|exact AN (b9 (by rfl)))⟩,rfl,AO,AO,AO,AO,AO,AO,AO,AO,AO,AO,AO,AO,AO,AO,AO,AO,AO,AO,AO,AO,AO,AO,AO,AO,AO,AO,⟨rfl,Nat.le_refl _,fun j hj=>(by first|exact bO (by first|exact trivial|apply dZ)|exact AN (fG rfl))⟩,AO,trivial⟩))⟩,omg,omg,omg,omg,omg,omg,?_,krf,omg,omg,?_,fun h=>(nomatch h),fun _=>?_⟩,fun hcc=>(nomatch (hb.symm.trans hcc))⟩
    ·exact fun j _=>dZ _ _
    ·exact fun c hc=>(sh (z:=fun j=>nth [.int .i64 0,.fz .nil 0 0 fun _ _=>.any] (j%2)) hc).trans krf
    ·rw[<-k2]
     exact ou (x:=.tmp 32) (y:=.tmp 33) (ba v (aj p v)) v false rfl (by intro h;cases h) ov ox (sk hp hr hh hb)
    ·rw[<-k2]
     have hlt:=lV hp hr hh hb
     refine aW (ba v (aj p v),l++[aj p v]) (ej (dG l.length) 32 rfl (j7 omg).1 (j7 omg).2.1 rfl rfl ⟨AM _,AN (by show _=AV.ow true 31 (l++[aj p v]).length 2;rw[List.length_append];rfl),trivial⟩ (by exact sj omg)) (sm hb hlt h1 h2 h3) hlt
   ·obtain⟨k0,k1,k2,k3,_⟩:=iN hp hf hb
    have k4:decide ((aj p v).rule = -1)=true:=decide_eq_true (by rw[k0])
    have hal:0<(aj p v).atoms.length:=by
     unfold cV at k1
     rw[Bool.and_eq_true] at k1
     exact of_decide_eq_true k1.1
    refine vcR [[1,1,1,0,0,0,1,1,1,0],[1,1,1,0,0,0,1,0,1,1,1]] (lkL [(3,[4,5,6]),(4,[4,5,6,7,8]),(5,[4,5,6,7,20]),(6,[4,5,6,7]),(7,[4,5,6]),(8,[4,5,34])]) (lkL [(4,[(1,ROrc.call (tup 2 (nth [agg 2 (nth [i6 (aj p v).rule,ow true 28 (List.length (aj p v).atoms) 1]),AV.bool (aS p v)])) [cO 27 (ad p v (AV.mp 1)),AObj.map (esF p.rules.l),cO (List.length l*2) (bV l),ab l 0,ab l 1,ab l 2,ab l 3,ab l 4,ab l 5,ab l 6,ab l 7,ab l 8,ab l 9,ab l 10,ab l 11,ab l 12,ab l 13,ab l 14,ab l 15,ab l 16,ab l 17,ab l 18,ab l 19,ab l 20,ab l 21,ab l 22,ab l 23,cO 24 (ao (nth [i6 0,i6 0,i6 0,i6 0,i6 0,i6 0,i6 0,i6 0,i6 0,i6 0,i6 0,i6 0,i6 0,i6 0,i6 0,i6 0,i6 0,i6 0,i6 0,i6 0,i6 0,i6 0,i6 0,i6 0]) 0 24 fun (j:Nat)=>ad p v (AV.mp 1) (j+2)),cO (List.length (aj p v).atoms*1) (af (aj p v).atoms)] g),(6,ROrc.val (Orc.obj (nth [i6 (aj p v).rule,ow true 28 (List.length (aj p v).atoms) 1])))]),(6,[(1,ROrc.kcall (ifc 148 (agg 2 (nth [i6 (aj p v).rule,ow true 28 (List.length (aj p v).atoms) 1])))),(3,ROrc.inv (tup 0 (nth [])) [cO 27 (ad p (bI v (aH (aj p v).atoms)) (AV.mp 1)),AObj.map (esF p.rules.l),cO (List.length l*2) (bV l),ab l 0,ab l 1,ab l 2,ab l 3,ab l 4,ab l 5,ab l 6,ab l 7,ab l 8,ab l 9,ab l 10,ab l 11,ab l 12,ab l 13,ab l 14,ab l 15,ab l 16,ab l 17,ab l 18,ab l 19,ab l 20,ab l 21,ab l 22,ab l 23,cO 24 (ao (nth [i6 0,i6 0,i6 0,i6 0,i6 0,i6 0,i6 0,i6 0,i6 0,i6 0,i6 0,i6 0,i6 0,i6 0,i6 0,i6 0,i6 0,i6 0,i6 0,i6 0,i6 0,i6 0,i6 0,i6 0]) 0 24 fun (j:Nat)=>ad p v (AV.mp 1) (j+2)),cO (List.length (aj p v).atoms*1) fun (a:Nat)=>af (aj p v).atoms a,cO 2 (nth [i6 (aj p v).rule,ow true 28 (List.length (aj p v).atoms) 1])] g)]),(7,[(3,ROrc.val (Orc.obj (ez l (aj p v))))]),(8,[(5,ROrc.kop (AV.bool false))])]) (fun Q=>(fun (u1:List AObj)=>(fun (u2:List AObj)=>(fun (u3:List AV)=>(fun (u4:List AV)=>(fun (u5:AObj)=>(fun (u6:St R.σ)=>(fun (u7:AObj)=>26<=27/\24<=24/\(true=true/\Does Tryd.prog R 96 [ref 0 0] [u5,AObj.map (esF p.rules.l),cO (List.length l*2) (bV l),ab l 0,ab l 1,ab l 2,ab l 3,ab l 4,ab l 5,ab l 6,ab l 7,ab l 8,ab l 9,ab l 10,ab l 11,ab l 12,ab l 13,ab l 14,ab l 15,ab l 16,ab l 17,ab l 18,ab l 19,ab l 20,ab l 21,ab l 22,ab l 23,u7] g (ret (tup 2 (nth [agg 2 (nth u4),AV.bool (aS p v)]))) [u5,AObj.map (esF p.rules.l),cO (List.length l*2) (bV l),ab l 0,ab l 1,ab l 2,ab l 3,ab l 4,ab l 5,ab l 6,ab l 7,ab l 8,ab l 9,ab l 10,ab l 11,ab l 12,ab l 13,ab l 14,ab l 15,ab l 16,ab l 17,ab l 18,ab l 19,ab l 20,ab l 21,ab l 22,ab l 23,u7,cO (List.length (aj p v).atoms*1) fun a=>af (aj p v).atoms a] g)/\2<=2/\(∀(c:Nat),c<2->nth u4 c=ao (nth [i6 0,fz Fz.nil 0 0 fun x x_1=>any]) 0 2 (List.brecOn (motive:=fun (x:List AV)=>Nat->AV) u4 nth._f) c)/\(aS p v=true->2<=2/\(true=true/\Does Tryd.prog R 68 [agg 2 (nth u4)] (u5::u2) g (ret (ifc 148 (agg 2 (nth u4)))) (u5::u2) g)/\(true=true/\true=true/\Does Tryd.prog R 139 [agg 2 (nth u4),ref 0 0] (u5::u2) g (ret (tup 0 (nth []))) (cO 27 (ad p (bI v (aH (aj p v).atoms)) (AV.mp 1))::u2) g)/\2<=2/\0<2/\(List.length l+1)*32<=aN/\List.length l+1<=aN/\2<=2/\List.length l*2<=List.length l*2/\(∀(c:Nat),c<(List.length l+1)*2->ez l (aj p v) c=bb 2 (List.length l) (fun (i j:Nat)=>bV l (i*2+j)) (fun (i j:Nat)=>ao (fun (j:Nat)=>nth [i6 0,fz Fz.nil 0 0 fun x x_1=>any] (j%2)) 0 2 (List.brecOn (motive:=fun (x:List AV)=>Nat->AV) u4 nth._f) (0+i*2+j)) c)/\Flw Tryd.prog/\26<=27/\24<=24/\OpOk Tryd.prog R (Oper.mk (some 34) (Op.binOp BinOp.eql 95 (Operand.tmp 32) (Operand.tmp 33) 95) 4 "table.go:195" #[Edge.mk 3 Ground.data,Edge.mk 4 Ground.data] none) (evO [Row.mk (some 33) none (agg 24 (ao (nth u3) 0 24 fun j=>ad p v (AV.mp 1) (j+2))) false (some []) [27],Row.mk (some 32) none (agg 24 fun j=>ad p (bI v (aH (aj p v).atoms)) (AV.mp 1) (j+2)) false (some []) [0],Row.mk (some 31) none (ref 0 2) false (some []) [],Row.mk (some 30) none (ref 0 0) false (some []) [],Row.mk (some 29) none (ref 0 0) false (some []) []] [(4,ref 0 0),(5,ow true 31 (List.length l+1) 2),(6,ref 27 0)] []) u1 g (AV.bool false) u1 g/\(false=true->WpC Tryd.prog R 37 0 60 [1,1,1,0,0,0,1,1,1,0] Q [Kont.blk 1] u6)/\(false=false->Q AEx.normal u6))/\(aS p v=false->WpC Tryd.prog R 37 0 60 [1,1,1,0,0,0,1,0,1,1,1] Q [Kont.seq [1,1,1,0,0,0,1,1],Kont.blk 1] (St.mk [(4,ref 0 0),(5,ow true 2 (List.length l) 2),(6,ref 27 0),(7,ref 29 0),(20,AV.bool (aS p v))] (u5::u2) g))) (cO 24 (ao (nth u3) 0 24 fun j=>ad p v (AV.mp 1) (j+2)))) (St.mk [(4,ref 0 0),(5,ow true 31 (List.length l+1) 2),(34,AV.bool false)] u1 g)) (cO 27 (ad p v (AV.mp 1)))) ([i6 (aj p v).rule,ow true 28 (List.length (aj p v).atoms) 1])) ([i6 0,i6 0,i6 0,i6 0,i6 0,i6 0,i6 0,i6 0,i6 0,i6 0,i6 0,i6 0,i6 0,i6 0,i6 0,i6 0,i6 0,i6 0,i6 0,i6 0,i6 0,i6 0,i6 0,i6 0])) ([AObj.map (esF p.rules.l),cO (List.length l*2) (bV l),ab l 0,ab l 1,ab l 2,ab l 3,ab l 4,ab l 5,ab l 6,ab l 7,ab l 8,ab l 9,ab l 10,ab l 11,ab l 12,ab l 13,ab l 14,ab l 15,ab l 16,ab l 17,ab l 18,ab l 19,ab l 20,ab l 21,ab l 22,ab l 23,cO 24 (ao (nth [i6 0,i6 0,i6 0,i6 0,i6 0,i6 0,i6 0,i6 0,i6 0,i6 0,i6 0,i6 0,i6 0,i6 0,i6 0,i6 0,i6 0,i6 0,i6 0,i6 0,i6 0,i6 0,i6 0,i6 0]) 0 24 fun j=>ad p v (AV.mp 1) (j+2)),cO (List.length (aj p v).atoms*1) fun a=>af (aj p v).atoms a,cO 2 (nth [i6 (aj p v).rule,ow true 28 (List.length (aj p v).atoms) 1])])) ([cO 27 (ad p (bI v (aH (aj p v).atoms)) (AV.mp 1)),AObj.map (esF p.rules.l),dead,ab l 0,ab l 1,ab l 2,ab l 3,ab l 4,ab l 5,ab l 6,ab l 7,ab l 8,ab l 9,ab l 10,ab l 11,ab l 12,ab l 13,ab l 14,ab l 15,ab l 16,ab l 17,ab l 18,ab l 19,ab l 20,ab l 21,ab l 22,ab l 23,cO 24 (ao (nth [i6 0,i6 0,i6 0,i6 0,i6 0,i6 0,i6 0,i6 0,i6 0,i6 0,i6 0,i6 0,i6 0,i6 0,i6 0,i6 0,i6 0,i6 0,i6 0,i6 0,i6 0,i6 0,i6 0,i6 0]) 0 24 fun j=>ad p v (AV.mp 1) (j+2)),cO (List.length (aj p v).atoms*1) fun a=>af (aj p v).atoms a,cO 2 (nth [i6 (aj p v).rule,ow true 28 (List.length (aj p v).atoms) 1]),cO 2 (ao (fun (j:Nat)=>nth [i6 0,fz Fz.nil 0 0 fun x x_1=>any] (j%2)) 0 2 (List.brecOn (motive:=fun (x:List AV)=>Nat->AV) [i6 (aj p v).rule,ow true 28 (List.length (aj p v).atoms) 1] nth._f)),cO ((List.length l+1)*2) (ez l (aj p v))])) ⟨omg,omg,⟨rfl,(doT (T:=LT) [0,1] 28 (fun R _ g=>og R (p) (v) (esF p.rules.l) omg omg omg omg g) (e3:=by exact⟨⟨rfl,Nat.le_refl _,fun j hj=>(by first|exact bO (by first|exact trivial|apply aZ)|exact AN (cz rfl)|exact AN (b9 (by rfl)))⟩,rfl,AO,AO,AO,AO,AO,AO,AO,AO,AO,AO,AO,AO,AO,AO,AO,AO,AO,AO,AO,AO,AO,AO,AO,AO,AO,AO,⟨rfl,Nat.le_refl _,fun j hj=>(by first|exact bO (by first|exact trivial|apply dZ)|exact AN (fG rfl))⟩,trivial⟩))⟩,omg,(fun c hc=>match c,hc with|0,_=>krf|1,_=>krf ),fun _=>⟨omg,⟨rfl,(doT (T:=LT) [28] 30 (fun R _ g=>yq R ((aj p v).rule) (List.length (aj p v).atoms) (List.length (aj p v).atoms*1) (fun (a:Nat)=>af (aj p v).atoms a) ?_ omg g) (e2:=by exact(Le.ifc (AS (fun i hi=>match i,hi with|0,_=>(AM _)|1,_=>(AM _) )))) (e3:=by exact⟨AO,rfl,AO,AO,AO,AO,AO,AO,AO,AO,AO,AO,AO,AO,AO,AO,AO,AO,AO,AO,AO,AO,AO,AO,AO,AO,AO,AO,⟨rfl,Nat.le_refl _,fun j hj=>(by first|exact bO (by first|exact trivial|apply dZ)|exact AN (fG rfl))⟩,AO,trivial⟩))⟩,⟨krf,rfl,(doT (T:=LT) [0,1,28] 30 (fun R _ g=>yj R (p) (v) (esF p.rules.l) (aj p v) omg omg omg omg omg omg omg g) (e3:=by exact⟨⟨rfl,Nat.le_refl _,fun j hj=>(by first|exact bO (by first|exact trivial|apply aZ)|exact AN (cz rfl)|exact AN (b9 (by rfl)))⟩,rfl,AO,AO,AO,AO,AO,AO,AO,AO,AO,AO,AO,AO,AO,AO,AO,AO,AO,AO,AO,AO,AO,AO,AO,AO,AO,AO,⟨rfl,Nat.le_refl _,fun j hj=>(by first|exact bO (by first|exact trivial|apply dZ)|exact AN (fG rfl))⟩,AO,trivial⟩))⟩,omg,omg,omg,omg,omg,omg,?_,krf,omg,omg,?_,fun h=>(nomatch h),fun _=>?_⟩,fun hcc=>(nomatch (hb.symm.trans hcc))⟩
    ·exact fun j _=>dZ _ _
    ·exact fun c hc=>(sh (z:=fun j=>nth [.int .i64 0,.fz .nil 0 0 fun _ _=>.any] (j%2)) hc).trans krf
    ·rw[<-k3]
     exact ou (x:=.tmp 32) (y:=.tmp 33) (ba v (aj p v)) v false rfl (by intro h;cases h) ov ox (sk hp hr hh hb)
    ·rw[<-k3]
     have hlt:=lV hp hr hh hb
     refine aW (ba v (aj p v),l++[aj p v]) (ej (dG l.length) 32 rfl (j7 omg).1 (j7 omg).2.1 rfl rfl ⟨AM _,AN (by show _=AV.ow true 31 (l++[aj p v]).length 2;rw[List.length_append];rfl),trivial⟩ (by exact sj omg)) (sm hb hlt h1 h2 h3) hlt
  |false=>
   have e:am p=(l,v):=by
    obtain⟨f,rfl⟩:∃k,f=k+1:=⟨f-1,omg⟩
    rw[<-h3]
    show(if aS p v then _ else _)=_
    rw[if_neg (by rw[hb];decide)]
   rw[e]
   refine vcR [[1,1,1,0,0,0,1,0,1,1,0],[1,1,1,0,0,0,1,1,1,1]] (lkL [(3,[4,5,6]),(4,[4,5,6,7,8]),(5,[4,5,6,7,20]),(8,[4,5,34]),(9,[2,3])]) (lkL [(4,[(1,ROrc.call (tup 2 (nth [agg 2 (nth [i6 (aj p v).rule,ow true 28 (List.length (aj p v).atoms) 1]),AV.bool (aS p v)])) [cO 27 (ad p v (AV.mp 1)),AObj.map (esF p.rules.l),cO (List.length l*2) (bV l),ab l 0,ab l 1,ab l 2,ab l 3,ab l 4,ab l 5,ab l 6,ab l 7,ab l 8,ab l 9,ab l 10,ab l 11,ab l 12,ab l 13,ab l 14,ab l 15,ab l 16,ab l 17,ab l 18,ab l 19,ab l 20,ab l 21,ab l 22,ab l 23,cO 24 (ao (nth [i6 0,i6 0,i6 0,i6 0,i6 0,i6 0,i6 0,i6 0,i6 0,i6 0,i6 0,i6 0,i6 0,i6 0,i6 0,i6 0,i6 0,i6 0,i6 0,i6 0,i6 0,i6 0,i6 0,i6 0]) 0 24 fun (j:Nat)=>ad p v (AV.mp 1) (j+2)),cO (List.length (aj p v).atoms*1) (af (aj p v).atoms)] g),(6,ROrc.val (Orc.obj (nth [i6 (aj p v).rule,ow true 28 (List.length (aj p v).atoms) 1])))]),(8,[(5,ROrc.kop (AV.bool true))])]) (fun Q=>(fun (u1:List AObj)=>(fun (u2:List AV)=>(fun (u3:List AV)=>(fun (u4:List (Nat × AV))=>(fun (u5:AObj)=>26<=27/\24<=24/\(true=true/\Does Tryd.prog R 96 [ref 0 0] [cO 27 (ad p v (AV.mp 1)),AObj.map (esF p.rules.l),cO (List.length l*2) (bV l),ab l 0,ab l 1,ab l 2,ab l 3,ab l 4,ab l 5,ab l 6,ab l 7,ab l 8,ab l 9,ab l 10,ab l 11,ab l 12,ab l 13,ab l 14,ab l 15,ab l 16,ab l 17,ab l 18,ab l 19,ab l 20,ab l 21,ab l 22,ab l 23,u5] g (ret (tup 2 (nth [agg 2 (nth u3),AV.bool (aS p v)]))) [cO 27 (ad p v (AV.mp 1)),AObj.map (esF p.rules.l),cO (List.length l*2) (bV l),ab l 0,ab l 1,ab l 2,ab l 3,ab l 4,ab l 5,ab l 6,ab l 7,ab l 8,ab l 9,ab l 10,ab l 11,ab l 12,ab l 13,ab l 14,ab l 15,ab l 16,ab l 17,ab l 18,ab l 19,ab l 20,ab l 21,ab l 22,ab l 23,u5,cO (List.length (aj p v).atoms*1) fun a=>af (aj p v).atoms a] g)/\2<=2/\(∀(c:Nat),c<2->nth u3 c=ao (nth [i6 0,fz Fz.nil 0 0 fun x x_1=>any]) 0 2 (List.brecOn (motive:=fun (x:List AV)=>Nat->AV) u3 nth._f) c)/\(aS p v=true->WpC Tryd.prog R 37 0 60 [1,1,1,0,0,0,1,0,1,1,0] Q [Kont.seq [1,1,1,0,0,0,1,1],Kont.blk 1] (St.mk u4 u1 g))/\(aS p v=false->Flw Tryd.prog/\26<=27/\24<=24/\OpOk Tryd.prog R (Oper.mk (some 34) (Op.binOp BinOp.eql 95 (Operand.tmp 32) (Operand.tmp 33) 95) 4 "table.go:195" #[Edge.mk 3 Ground.data,Edge.mk 4 Ground.data] none) (evO [Row.mk (some 33) none (agg 24 (ao (nth u2) 0 24 fun j=>ad p v (AV.mp 1) (j+2))) false (some []) [27],Row.mk (some 32) none (agg 24 fun j=>ad p v (AV.mp 1) (j+2)) false (some []) [0],Row.mk (some 31) none (ref 0 2) false (some []) [],Row.mk (some 30) none (ref 0 0) false (some []) [],Row.mk (some 29) none (ref 0 0) false (some []) []] u4 []) u1 g (AV.bool true) u1 g/\(true=true->Q AEx.ret (St.mk [(2,ow true 2 (List.length l) 2),(3,ref 0 0)] u1 g))/\(true=false->WpC Tryd.prog R 37 0 60 [1,1,1,0,0,0,1,1,1,1] Q [Kont.blk 1] (St.mk [(4,ref 0 0),(5,ow true 2 (List.length l) 2),(34,AV.bool true)] u1 g)))) (cO 24 (ao (nth u2) 0 24 fun j=>ad p v (AV.mp 1) (j+2)))) ([(4,ref 0 0),(5,ow true 2 (List.length l) 2),(6,ref 27 0),(7,ref 29 0),(20,AV.bool (aS p v))])) ([i6 (aj p v).rule,ow true 28 (List.length (aj p v).atoms) 1])) ([i6 0,i6 0,i6 0,i6 0,i6 0,i6 0,i6 0,i6 0,i6 0,i6 0,i6 0,i6 0,i6 0,i6 0,i6 0,i6 0,i6 0,i6 0,i6 0,i6 0,i6 0,i6 0,i6 0,i6 0])) ([cO 27 (ad p v (AV.mp 1)),AObj.map (esF p.rules.l),cO (List.length l*2) (bV l),ab l 0,ab l 1,ab l 2,ab l 3,ab l 4,ab l 5,ab l 6,ab l 7,ab l 8,ab l 9,ab l 10,ab l 11,ab l 12,ab l 13,ab l 14,ab l 15,ab l 16,ab l 17,ab l 18,ab l 19,ab l 20,ab l 21,ab l 22,ab l 23,cO 24 (ao (nth [i6 0,i6 0,i6 0,i6 0,i6 0,i6 0,i6 0,i6 0,i6 0,i6 0,i6 0,i6 0,i6 0,i6 0,i6 0,i6 0,i6 0,i6 0,i6 0,i6 0,i6 0,i6 0,i6 0,i6 0]) 0 24 fun j=>ad p v (AV.mp 1) (j+2)),cO (List.length (aj p v).atoms*1) fun a=>af (aj p v).atoms a,cO 2 (nth [i6 (aj p v).rule,ow true 28 (List.length (aj p v).atoms) 1])])) ⟨omg,omg,⟨rfl,(doT (T:=LT) [0,1] 28 (fun R _ g=>og R (p) (v) (esF p.rules.l) omg omg omg omg g) (e3:=by exact⟨⟨rfl,Nat.le_refl _,fun j hj=>(by first|exact bO (by first|exact trivial|apply aZ)|exact AN (cz rfl)|exact AN (b9 (by rfl)))⟩,rfl,AO,AO,AO,AO,AO,AO,AO,AO,AO,AO,AO,AO,AO,AO,AO,AO,AO,AO,AO,AO,AO,AO,AO,AO,AO,AO,⟨rfl,Nat.le_refl _,fun j hj=>(by first|exact bO (by first|exact trivial|apply dZ)|exact AN (fG rfl))⟩,trivial⟩))⟩,omg,(fun c hc=>match c,hc with|0,_=>krf|1,_=>krf ),fun hcc=>(nomatch (hb.symm.trans hcc)),fun _=>⟨krf,omg,omg,?_,fun _=>?_,fun h=>(nomatch h)⟩⟩
   ·exact ou (x:=.tmp 32) (y:=.tmp 33) v v true rfl (by intro h;cases h) ov ox (by simp)
   ·refine⟨_,A0 _,(av (bZ 27 _ _ rfl trivial omg ⟨⟨trivial,(show 3<=27 by omega)⟩,(show 1<=27 by omega)⟩ ⟨(fun _ _=>(by first|exact trivial|apply aZ)),(fun _ _=>?_),(fun _ _=>trivial),(fun _ _=>trivial),(fun _ _=>trivial),(fun _ _=>trivial),(fun _ _=>trivial),(fun _ _=>trivial),(fun _ _=>trivial),(fun _ _=>trivial),(fun _ _=>trivial),(fun _ _=>trivial),(fun _ _=>trivial),(fun _ _=>trivial),(fun _ _=>trivial),(fun _ _=>trivial),(fun _ _=>trivial),(fun _ _=>trivial),(fun _ _=>trivial),(fun _ _=>trivial),(fun _ _=>trivial),(fun _ _=>trivial),(fun _ _=>trivial),(fun _ _=>trivial),(fun _ _=>trivial),(fun _ _=>trivial),trivial⟩ krf rfl rfl) (AM _))⟩
    exact yw omg (by assumption)
def aP (v:Nat->Int):Nat->AV:=fun j=>if 2<=j/\j<26 then .int .i64 (v (j-2)) else .any
theorem ls {k:Nat}(v:Nat->Int)(j:Nat):Below k (aP v j):=by
 unfold aP
 split <;> trivial
theorem dt {f:Nat->Nat}(h:True){v:Nat->Int}{j:Nat}:aI f (aP v j)=aP v j:=by
 unfold aP
 split <;> rfl
theorem oy {v:Nat->Int}{k j:Nat}(e:k=j+2)(h:j<24):aP v k=.int .i64 (v j):=by
 subst e
 unfold aP
 rw[if_pos omg]
 rfl
theorem so {p:Prg}{v:Nat->Int}{m:AV}{j:Nat}:Le (ad p v m j) (aP v j):=by
 unfold aP
 split
 ·rename_i h
  exact AN (d5 omg omg)
 ·exact Le.any _
def cJ (s:Stp):Step:=⟨s.rule,s.atoms,.auto⟩
def bv (l:List Stp):KL Step:=⟨l.map cJ,.auto⟩
theorem sq (l:List Stp):(bv l).l.length=l.length:=by unfold bv;rw[List.length_map]
theorem yx {l:List Stp}{i:Nat}(hi:i<l.length):(bv l).l.getD i default=cJ (l.getD i default):=by
 unfold bv
 rw[List.getD_eq_getElem?_getD,List.getD_eq_getElem?_getD,List.getElem?_map,List.getElem?_eq_getElem hi]
 rfl
theorem yy {hp:List AObj}{k m o:Nat}{s:Stp}(ho:ag hp o=cO (s.atoms.length*1) (af s.atoms))(hk:k<=o):aB hp k m (.ow true o s.atoms.length 1) (ah ⟨s.atoms,.auto⟩):=
 (aB.ow ho hk (Nat.le_refl _) dcd (fun j _=>AU (dZ _ _))).le (AT rfl (fun i j hi hj=>by
  show AV.int .i64 _=_
  rw[show i*1+j=i by omega]))
theorem oz (R:Res)[Tab LT R](p:Prg)(hl:p.rules.l.length<1000000)(hr:∀r,r∈p.rules.l->aE r)(hp:bA p)(hh:cl p)(g:R.σ):Does Tryd.prog R 60 [aw p] [] g (.ret (.tup 2 (nth [ax (bv (am p).1),.ref 0 0]))) [cO 27 (aP (am p).2)] g:=by
 refine iy (sn R p hl hr hp hh g) ?_
 have hlen:∀i,i<(am p).1.length->i<24:=fun i hi=>by have:=oo hp hr hh;omega
 refine To.trans (jP 2 [(0,.tup 2 (nth [ax (bv (am p).1),.ref 0 0]))] (Nat.zero_le _) (by show 2<=27;omega) (fun i hi=>?_) ⟨aB.tup (fun j hj=>?_),trivial⟩) ?_
 ·match i,hi with
  |0,_=>exact fun j hj=>aZ p _ 0 j
  |1,_=>trivial
 ·match j,hj with
  |0,_=>
   refine aB.le (aB.ow (o:=2) (N:=(am p).1.length*2) (c:=bV (am p).1) (get:=fun c=>bif Nat.beq (c%2) 0 then .int .i64 ((am p).1.getD (c/2) default).rule else ah ⟨((am p).1.getD (c/2) default).atoms,.auto⟩) (fr:=false) rfl (Nat.le_refl _) (Nat.le_refl _) dcd (fun c hc=>?_)) ?_
   ·unfold bV
    cases Nat.beq (c%2) 0 with
    |true=>exact AU trivial
    |false=>exact yy ((lN (hlen _ omg)).trans rfl) omg
   ·refine AT (sq _).symm (fun i j hi hj=>?_)
    show _=eF _ j
    rw[yx hi]
    show(bif Nat.beq ((i*2+j)%2) 0 then _ else _)=_
    rw[show(i*2+j)%2=j by omega,show(i*2+j)/2=i by omega]
    match j,hj with
    |0,_=>rfl
    |1,_=>rfl
  |1,_=>exact AU (show 0<2 by omega)
 ·exact ej [0] 2 rfl rfl rfl rfl rfl ⟨AR (fun j hj=>match j,hj with|0,_=>AN rfl|1,_=>AM _),trivial⟩ ⟨⟨rfl,Nat.le_refl _,fun j hj=>by
   show Le (ad p _ (.mp 1) j) (aI _ (aP _ j))
   rw[dt trivial]
   exact so⟩,trivial⟩
theorem yz (R:Res)(v:Nat->Int)(n:Nat)(hn:0<n/\n<=24)(g:R.σ):Does Tryd.prog R 61 [.sl 0 2 n 24 true 1] [cO 27 (aP v)] g (.ret (.sl 1 0 n n false 1)) [cO 27 (aP v),cO (n*1) (fun j=>.int .i64 (v j))] g:=by
 have hroom:aN=140737488355328:=rfl
 refine spW (nt:=8) (rs:=[.tmp 2]) (k0:=1) ?_
 refine vcR [[1,0,1,0]] (lkL [(0,[0]),(1,[0,4]),(3,[2])]) (fun _=>[]) (fun Q=>(false=true->WpC Tryd.prog R 8 1 61 [1,0,1,0] Q [Kont.seq [1,1]] (St.mk [(0,sl 0 2 n 24 true 1),(4,AV.bool false)] [cO 27 (aP v)] g))/\(false=false->0<0+n/\0<n/\0<1/\(0+n)*8<=aN/\0+n<=aN/\2+n*1<=27/\0<=0/\Q AEx.ret (St.mk [(2,sl 2 0 (0+n) (0+n) false 1)] [cO 27 (aP v),cO 0 fun j=>i6 0,cO ((0+n)*1) (bb 1 0 (fun (i j:Nat)=>i6 0) fun i j=>aP v (2+i*1+j))] g))) ⟨fun h=>(nomatch h),fun _=>⟨omg,omg,omg,omg,omg,omg,omg,?_⟩⟩
 refine fA (.sl 2 0 (0+n) (0+n) false 1) _ rfl trivial (toS [0,2] 3 (hfr:=⟨AN (by show AV.sl 2 0 (0+n) (0+n) false 1=AV.sl 2 0 n n false 1;rw[Nat.zero_add]),trivial⟩) (hob:=⟨AY (fun j hj=>(dt trivial).symm),⟨rfl,by rw[Nat.zero_add];exact Nat.le_refl _,fun c hc=>AN ?_⟩,trivial⟩))
 show bb 1 0 _ _ c=AV.int .i64 (v c)
 unfold bb
 rw[if_neg omg]
 show aP v (2+(c-0*1)/1*1+(c-0*1)%1)=_
 exact oy omg omg
def cK (p:Prg)(v:Nat->Int):KL Int:=⟨(List.range p.atoms.toNat).map v,.opn⟩
theorem yA (p:Prg)(v:Nat->Int):(cK p v).l.length=p.atoms.toNat:=by unfold cK;rw[List.length_map,List.length_range]
theorem yB {p:Prg}{v:Nat->Int}{i:Nat}(hi:i<p.atoms.toNat):(cK p v).l.getD i 0=v i:=by
 unfold cK
 rw[List.getD_eq_getElem?_getD,List.getElem?_map,List.getElem?_range hi]
 rfl
theorem eK {p:Prg}(h:aD p=true):p.rules.l.length<1000000/\(∀r,r∈p.rules.l->aE r)/\bA p/\cl p/\(∀r,r∈p.rules.l->∀l,l∈r.body.l->0<=l.atom/\l.atom<p.atoms):=by
 unfold aD at h
 simp only[Bool.and_eq_true,decide_eq_true_eq,List.all_eq_true] at h
 obtain⟨h1,h2,h3⟩:=h
 have hr:∀r,r∈p.rules.l->(0<=r.head/\r.head<=p.atoms-1)/\r.body.l.length<=4/\∀l,l∈r.body.l->0<=l.atom/\l.atom<=p.atoms-1:=fun r hm=>by
  have:=h3 r hm
  unfold dF at this
  simp only[Bool.and_eq_true,decide_eq_true_eq,List.all_eq_true] at this
  refine⟨this.1,this.2.1,fun l hl=>?_⟩
  have:=this.2.2 l hl
  unfold eo at this
  exact of_decide_eq_true this
 refine⟨omg,fun r hm=>?_,h1,fun r hm=>?_,fun r hm l hl=>?_⟩
 ·obtain⟨a1,a2,a3⟩:=hr r hm
  refine⟨⟨omg,fun l hl=>?_⟩,a1.1,omg⟩
  have:=a3 l hl
  omega
 ·have:=(hr r hm).1;omega
 ·have:=(hr r hm).2.2 l hl;omega
theorem gl {p:Prg}(h:aD p=true):em p:=by
 obtain⟨h1,h2,_⟩:=eK h
 refine⟨h1,fun i=>?_⟩
 rcases Nat.lt_or_ge i p.rules.l.length with hi|hi
 ·exact(h2 _ (bx _ default hi)).1.1
 ·rw[List.getD_eq_getElem?_getD,List.getElem?_eq_none hi]
  exact(by decide:(0:Nat)<1000000)
theorem oA (R:Res)[Tab LT R](p:Prg)(hb:aD p=true)(g:R.σ):Does Tryd.prog R 17 [aw p] [] g (.ret (.tup 3 (nth [ax (bv (am p).1),ah (cK p (am p).2),.int .i64 0]))) [] g:=by
 obtain⟨hl,hr,hp,hh,hx⟩:=eK hb
 have hs:em p:=gl hb
 have hp':1<=p.atoms/\p.atoms<=24:=hp
 refine spW (nt:=23) (rs:=[.tmp 2,.tmp 3,.tmp 4]) (k0:=0) ?_
 have hc:((if aD p then(0:Int) else 2) != 0)=false:=by rw[hb];rfl
 refine vcR [[1,0,1,0]] (lkL [(0,[1]),(1,[1,9]),(3,[1,5,6]),(4,[2,3,4])]) (lkL [(1,[(1,ROrc.pcall (i6 (if aD p=true then 0 else 2)))]),(3,[(1,ROrc.call (tup 2 (nth [fz Fz.auto 2 (List.length (bv (am p).fst).l) fun (i:Nat)=>eF (List.getD (bv (am p).fst).l i default),ref 1 0])) [cO 2 (nth [i6 p.atoms,ae p.rules]),cO 27 (aP (am p).snd)] g)]),(4,[(7,ROrc.callN (sl 2 0 (Int.toNat p.atoms-0) (Int.toNat p.atoms-0) false 1) [] [cO ((Int.toNat p.atoms-0)*1) fun (j:Nat)=>i6 ((am p).snd j)] g)])]) (fun Q=>(fun (u1:AObj)=>(fun (u2:List AObj)=>(fun (u3:AV)=>(fun (u4:Int)=>(fun (u5:Nat)=>2<=2/\(∀(hp:List AObj) (g:R.σ),true=true/\Does Tryd.prog R 16 [aw p] hp g (ret (i6 u4)) hp g)/\((u4 != 0)=true->WpC Tryd.prog R 23 0 17 [1,0,1,0] Q [Kont.seq [1,1]] (St.mk [(1,ref 0 0),(9,AV.bool (u4 != 0))] [u1] g))/\((u4 != 0)=false->2<=2/\(true=true/\Does Tryd.prog R 60 [aw p] [u1] g (ret (tup 2 (nth [u3,ref 1 0]))) [u1,cO 27 (aP (am p).snd)] g)/\Flw Tryd.prog/\1<=2/\(0<=p.atoms/\p.atoms<=(↑24:Int))/\0<24/\26<=27/\0<27/\(true=true/\Does Tryd.prog R 61 [sl 1 2 u5 24 true 1] [u1,cO 27 (aP (am p).snd)] g (ret (sl 2 0 u5 u5 false 1)) u2 g)/\Q AEx.ret (St.mk [(2,u3),(3,sl 2 0 u5 u5 false 1),(4,i6 0)] u2 g))) (Int.toNat p.atoms-0)) (if aD p=true then 0 else 2)) (fz Fz.auto 2 (List.length (bv (am p).fst).l) fun i=>eF (List.getD (bv (am p).fst).l i default))) ([u1,cO 27 (aP (am p).snd),cO ((Int.toNat p.atoms-0)*1) fun j=>i6 ((am p).snd j)])) (cO 2 (nth [i6 p.atoms,ae p.rules]))) ⟨omg,(fun _ _=>⟨rfl,(ga _ _ _ _ omg)⟩),fun hcc=>(nomatch (hc.symm.trans hcc)),fun _=>⟨omg,⟨rfl,(doT (T:=LT) [] 1 (fun R _ g=>oz R (p) omg omg omg omg g))⟩,krf,omg,omg,omg,omg,omg,⟨rfl,(doT (T:=LT) [1] 2 (fun R _ g=>yz R ((am p).snd) (Int.toNat p.atoms-0) omg g))⟩,?_⟩⟩
 refine fA (.tup 3 (nth [ax (bv (am p).1),.sl 2 0 (p.atoms.toNat-0) (p.atoms.toNat-0) false 1,.int .i64 0])) _ rfl trivial (jP 0 [(0,.tup 3 (nth [ax (bv (am p).1),ah (cK p (am p).2),.int .i64 0]))] (Nat.le_refl _) (Nat.zero_le _) (fun i hi=>absurd hi (Nat.not_lt_zero i)) ⟨aB.tup (fun j hj=>match j,hj with|0,_=>AU trivial|1,_=>aB.le (aB.sl (o:=2) (N:=(p.atoms.toNat-0)*1) (c:=fun j=>.int .i64 ((am p).2 j)) (get:=fun j=>.int .i64 ((am p).2 j)) (fr:=false) rfl (Nat.zero_le _) omg (Nat.le_refl _) dcd (fun j _=>AU trivial)) (AT (by rw[yA];rfl) (fun i j hi hj=>?_))|2,_=>AU trivial),trivial⟩)
 have hi':i<p.atoms.toNat:=hi
 rw[yB hi',show 0+i*1+j=i by omega]
def hgF (p:Prg):Nat->Nat->Nat->Nat
 |0,_,s=>s
 |n+1,a,s=>if s.testBit a then s else(ofH p.rules.l (a:Int)).foldl (fun (s:Nat) (r:Rule)=>r.body.l.foldl (fun (s:Nat) (l:Lit)=>hgF p n l.atom.toNat s) s) (s|||2^a)
theorem j8 {U β:Type}(f:β->U->β)(s:β)(l:List U)(d:U){i:Nat}(h:i<l.length):(l.take (i+1)).foldl f s=f ((l.take i).foldl f s) (l.getD i d):=by
 rw[List.take_add_one,List.foldl_append,List.getElem?_eq_getElem h,List.getD_eq_getElem?_getD,List.getElem?_eq_getElem h]
 rfl
def upS (f:Nat->Nat):Prop:=∀s,s<2^24->ew s (f s)/\f s<2^24
theorem gm {U:Type}{f:Nat->U->Nat}:∀{l:List U},(∀x,x∈l->upS (fun s=>f s x))->upS (fun s=>l.foldl f s)
 |[],_=>fun s hs=>⟨fun _ h=>h,hs⟩
 |x::l,h=>fun s hs=>by
  obtain⟨h1,h2⟩:=h x List.mem_cons_self s hs
  obtain⟨h3,h4⟩:=gm (l:=l) (fun y hy=>h y (List.mem_cons_of_mem _ hy)) _ h2
  exact⟨fun j hj=>h3 j (h1 j hj),h4⟩
theorem j9 {s a:Nat}(hs:s<2^24)(ha:a<24):s|||2^a<2^24:=Nat.or_lt_two_pow hs (Nat.pow_lt_pow_right dcd ha)
theorem gT (s a j:Nat):(s|||2^a).testBit j=(s.testBit j||decide (a=j)):=by
 rw[Nat.testBit_or,Nat.testBit_two_pow]
theorem gU {p:Prg}(hr:∀r,r∈p.rules.l->aE r):∀(n a:Nat),a<24->upS (hgF p n a)
 |0,_,_=>fun s hs=>⟨fun _ h=>h,hs⟩
 |n+1,a,ha=>fun s hs=>by
  show ew s (if s.testBit a then s else _)/\(if s.testBit a then s else _)<2^24
  by_cases hb:s.testBit a=true
  ·rw[if_pos hb];exact⟨fun _ h=>h,hs⟩
  ·rw[if_neg hb]
   have h:=gm (l:=ofH p.rules.l (a:Int)) (f:=fun (s:Nat) (r:Rule)=>r.body.l.foldl (fun (s:Nat) (l:Lit)=>hgF p n l.atom.toNat s) s) (fun r hm=>gm (fun l hl=>gU hr n l.atom.toNat (by
    have:=(hr r (List.mem_filter.1 hm).1).1.2 l hl
    omega))) _ (j9 hs ha)
   exact⟨fun j hj=>h.1 j (by rw[gT,hj];rfl),h.2⟩
theorem oB {s t:Nat}(h:ew s t):(ak s).length<=(ak t).length:=lU (fun j _ hj=>h j hj)
theorem sr {s a:Nat}(ha:a<24)(h:s.testBit a=false):(ak s).length<(ak (s|||2^a)).length:=
 j4 (fun j _ hj=>by rw[gT,hj];rfl) ⟨a,List.mem_range.2 ha,by rw[gT];simp,h⟩
theorem yC (p:Prg)(v:Nat->Int)(es:List (Value × AV))(hes:HeadsOk es p.rules.l)(hl:p.rules.l.length<1000000)(hr:∀r,r∈p.rules.l->aE r):∀(n:Nat) (R:Res) (a:Int) (s:Nat) (g:R.σ),0<=a/\a<24->s<2^24->24<n+(ak s).length ->
  Does Tryd.prog R 102 [.int .i64 a,.ref 2 0,.ref 3 0,.ref 4 0] [.cells false 27 (ad p v (.mp 1)),.map es,.cells false 1 (fun _=>.int .u64 s),.cells false 1 (fun _=>.ref 0 0),.cells false 1 (fun _=>.fn 102 0 (nth []) 3 (nth [.ref 2 0,.ref 3 0,.ref 4 0]))] g (.ret (.tup 0 (nth []))) [.cells false 27 (ad p v (.mp 1)),.map es,.cells false 1 (fun _=>.int .u64 (hgF p n a.toNat s)),.cells false 1 (fun _=>.ref 0 0),.cells false 1 (fun _=>.fn 102 0 (nth []) 3 (nth [.ref 2 0,.ref 3 0,.ref 4 0]))] g:=by
 intro n
 induction n with
 |zero=>
  intro R a s g _ _ h
  have:=gR s
  omega
 |succ n ih=>
  intro R a s g ha hs hn
  obtain⟨m,hm⟩:∃m:Nat,a=m:=⟨a.toNat,by omega⟩
  subst hm
  have hks:∀e∈es,∃l,Go.keyOf Tryd.prog 3 e.1=some l:=fun e he=>by
   obtain⟨b,e1,e2⟩:=hes.key e he
   rw[e1]
   exact gQ e2
  obtain⟨k,hk1,hk2⟩:∃k:Fz,(ofH p.rules.l m=[]->k=.nil)/\(ofH p.rules.l m≠[]->k=.opn):=⟨if ofH p.rules.l m=[] then .nil else .opn,fun h=>if_pos h,fun h=>if_neg h⟩
  have hlf:(ofH p.rules.l m).length<1000000:=Nat.lt_of_le_of_lt (List.length_filter_le _ _) hl
  have hrf:∀r,r∈ofH p.rules.l m->aE r:=fun r h=>hr r (List.mem_filter.1 h |>.1)
  have hdef:hgF p (n+1) ((m:Int).toNat) s=if s.testBit m then s else(ofH p.rules.l (m:Int)).foldl (fun (s:Nat) (r:Rule)=>r.body.l.foldl (fun (s:Nat) (l:Lit)=>hgF p n l.atom.toNat s) s) (s|||2^m):=rfl
  rw[hdef]
  refine dN (nt:=40) (rs:=[]) (k0:=5) (by kernel_rfl) (by kernel_rfl) (by kernel_rfl) rfl ?_
  refine vcQ [] (lkL [(0,[0,1,2,3,11]),(1,[0,2,3]),(2,[3,21,22,23])]) (lkL [(0,[(2,ROrc.pcall (AV.bool (Nat.testBit s m)))]),(1,[(2,ROrc.pcall (int u64 (↑(2^m):Int))),(4,ROrc.val (Orc.obj (nth [int u64 (IntKind.wrap u64 (↑(BitVec.toNat (BitVec.ofInt 64 (s:Int)|||BitVec.ofInt 64 (↑(2^m):Int))):Int))])))]),(2,[(5,ROrc.kop (ae (KL.mk (ofH p.rules.l (m:Int)) k)))])]) (fun Q=>(fun (u1:List AObj)=>(fun (u2:AV)=>(fun (u3:AV)=>(fun (u4:AV)=>1<=1/\(∀(hp:List AObj) (g:R.σ),true=true/\Does Tryd.prog R 71 [int u64 (s:Int),u4] hp g (ret (AV.bool (Nat.testBit s m))) hp g)/\(Nat.testBit s m=true->Q AEx.ret (St.mk [(0,u4),(1,ref 2 0),(2,ref 3 0),(3,ref 4 0),(11,AV.bool (Nat.testBit s m))] [cells false 27 (ad p v (AV.mp 1)),AObj.map es,cells false 1 fun (x:Nat)=>int u64 (s:Int),cells false 1 fun (x:Nat)=>ref 0 0,cells false 1 fun (x:Nat)=>fn 102 0 (nth []) 3 (nth [ref 2 0,ref 3 0,ref 4 0])] g))/\(Nat.testBit s m=false->Tables.follows Tryd.prog.toTables Departure.mixedOrders=true/\1<=1/\(∀(hp:List AObj) (g:R.σ),true=true/\Does Tryd.prog R 79 [u4] hp g (ret (int u64 (↑(2^m):Int))) hp g)/\1<=1/\(∀(c:Nat),c<1->nth [u3] c=ao (fun (x:Nat)=>int u64 (s:Int)) 0 1 (fun (x:Nat)=>u3) c)/\1<=1/\27<=27/\OpOk Tryd.prog R (Oper.mk (some 21) (Op.lookup 96 (Operand.tmp 19) (Operand.tmp 20) false) 22 "table.go:248" #[Edge.mk 3 Ground.data,Edge.mk 4 Ground.data] none) (evO [Row.mk (some 20) none u4 false (some []) [],Row.mk (some 19) none (AV.mp 1) false (some []) [0],Row.mk (some 18) none (ref 0 26) false (some []) [],Row.mk (some 17) none (ref 0 0) false (some []) [],Row.mk (some 16) none (ref 0 0) false (some []) [3]] [(0,u4),(2,ref 3 0),(3,ref 4 0)] []) u1 g u2 u1 g/\Wp Tryd.prog R 40 5 Rd.top (az Tryd.prog 102) [1,1,1,0] (aV Tryd.prog R 40 5 Rd.top (az Tryd.prog 102) Q [Kont.blk 0]) (St.mk [(3,ref 4 0),(21,u2),(22,int i64 (↑((ofH p.rules.l (m:Int)).length):Int)),(23,int i64 0)] u1 g))) (int i64 (m:Int))) (int u64 (IntKind.wrap u64 (↑(BitVec.toNat (BitVec.ofInt 64 (s:Int)|||BitVec.ofInt 64 (↑(2^m):Int))):Int)))) (fz k 2 ((ofH p.rules.l (m:Int)).length) fun (i:Nat)=>br ((ofH p.rules.l (m:Int)).getD i default))) ([cells false 27 (ad p v (AV.mp 1)),AObj.map es,cells false 1 (nth [int u64 (IntKind.wrap u64 (↑(BitVec.toNat (BitVec.ofInt 64 (s:Int)|||BitVec.ofInt 64 (↑(2^m):Int))):Int))]),cells false 1 fun (x:Nat)=>ref 0 0,cells false 1 fun (x:Nat)=>fn 102 0 (nth []) 3 (nth [ref 2 0,ref 3 0,ref 4 0])])) (fun _=>by kernel_rfl) ⟨by omega,(fun _ _=>⟨rfl,(jU _ _ _ (by omega) (by omega) _ _)⟩),fun c1=>?_,fun c1=>⟨by kernel_rfl,by omega,(fun _ _=>⟨rfl,(gP _ _ (by omega) _ _)⟩),by omega,(fun c hc=>match c,hc with|0,_=>(by kernel_rfl) ),by omega,by omega,?_,?_⟩⟩
  ·rw[if_pos c1]
   refine(av (aX _ _ rfl trivial rfl rfl rfl) (AM _))
  ·by_cases h0:ofH p.rules.l m=[]
   ·rw[hk1 h0,h0]
    exact qX (t:=96) (kt:=3) (vt:=22) (m:=.tmp 19) (x:=.tmp 20) (ob:=1) (es:=es) (kv:=.int .i64 m) rfl (by kernel_rfl) (Go.Maps.int_keyed (q:=.i64) (by kernel_rfl)) rfl (by exact Le.nil) rfl rfl (fun FM Z v h=>h) (gQ (by omega)) hks (hes.miss m h0)
   ·rw[hk2 h0]
    exact qW (t:=96) (kt:=3) (vt:=22) (m:=.tmp 19) (x:=.tmp 20) (ob:=1) (es:=es) (kv:=.int .i64 m) (d:=ae ⟨ofH p.rules.l m,.opn⟩) rfl (by kernel_rfl) (Go.Maps.int_keyed (q:=.i64) (by kernel_rfl)) rfl rfl (fun FM Z v h=>h) (gQ (by omega)) hks (hes.hit m h0).1 (hes.hit m h0).2
  ·rw[if_neg (by rw[c1];decide)]
   obtain⟨t,ht⟩:∃t,s|||2^m=t:=⟨_,rfl⟩
   have ht24:t<2^24:=by rw[<-ht];exact j9 hs (by omega)
   have htn:24<n+(ak t).length:=by
    have:=sr (s:=s) (a:=m) (by omega) c1
    rw[ht] at this
    omega
   obtain⟨L,hL⟩:∃L,ofH p.rules.l (m:Int)=L:=⟨_,rfl⟩
   rw[hL] at hlf hrf
   have hor:u64.wrap ((BitVec.ofInt 64 (s:Int)|||BitVec.ofInt 64 (2^m)).toNat:Int)=(t:Int):=by
    rw[<-ht]
    exact Tb.u64_or (bG hs) (bG (Nat.pow_lt_pow_right (by decide) (by omega)))
   obtain⟨F,hF⟩:∃F:Nat->Rule->Nat,F=fun (s:Nat) (r:Rule)=>r.body.l.foldl (fun (s:Nat) (l:Lit)=>hgF p n l.atom.toNat s) s:=⟨_,rfl⟩
   rw[ht,hL,hor,<-hF]
   have hup:∀r,r∈L->upS (fun s=>F s r):=fun r hm=>by
    rw[hF]
    exact gm (fun l hl=>gU hr n l.atom.toNat (by have:=(hrf r hm).1.2 l hl;omega))
   have huT:∀i,ew t ((L.take i).foldl F t)/\(L.take i).foldl F t<2^24:=fun i=>gm (f:=F) (l:=L.take i) (fun r hm=>hup r (List.mem_of_mem_take hm)) t ht24
   refine(bi (by kernel_rfl) (fun (i:Nat)=>⟨[(3,ref 4 0),(21,fz k 2 (L.length) fun (i:Nat)=>br (L.getD i default)),(22,int i64 (L.length:Int)),(23,.int .i64 i)],[.cells false 27 (ad p v (.mp 1)),.map es,.cells false 1 (fun _=>.int .u64 ((L.take i).foldl F t:Nat)),.cells false 1 (fun _=>.ref 0 0),.cells false 1 (fun _=>.fn 102 0 (nth []) 3 (nth [.ref 2 0,.ref 3 0,.ref 4 0]))],g⟩) (fun (i:Nat)=>(i<=L.length)) (fun (i:Nat)=>(L.length-i)) 0 (jt ⟨AM _,AM _,AM _,(AN (by kernel_rfl)),trivial⟩ ⟨AO,rfl,⟨rfl,Nat.le_refl _,fun j hj=>match j,hj with|0,_=>(AN (by kernel_rfl)) ⟩,AO,AO,trivial⟩ rfl) ?_ (fun i hi=>?_))
   ·exact Nat.zero_le _
   ·obtain⟨hu1,hu2⟩:=huT i
    rcases Nat.lt_or_ge i L.length with hlt|hge
    ·have hq:=hrf _ (e8 hlt)
     have hq1:=hq.1.1
     have hstep:=j8 F t L default hlt
     obtain⟨u,hu⟩:∃u,(L.take i).foldl F t=u:=⟨_,rfl⟩
     rw[hu] at hu1 hu2 hstep ⊢
     obtain⟨B,hB⟩:∃B,(L.getD i default).body=B:=⟨_,rfl⟩
     have hFB:F u (L.getD i default)=B.l.foldl (fun (s:Nat) (l:Lit)=>hgF p n l.atom.toNat s) u:=by rw[hF,<-hB]
     have hBl:∀l,l∈B.l->0<=l.atom/\l.atom<24:=by rw[<-hB];exact hq.1.2
     have huB:∀j,ew u ((B.l.take j).foldl (fun (s:Nat) (l:Lit)=>hgF p n l.atom.toNat s) u)/\(B.l.take j).foldl (fun (s:Nat) (l:Lit)=>hgF p n l.atom.toNat s) u<2^24:=fun j=>gm (f:=fun (s:Nat) (l:Lit)=>hgF p n l.atom.toNat s) (fun l hm=>gU hr n l.atom.toNat (by have:=hBl l (List.mem_of_mem_take hm);omega)) u hu2
     rw[hFB] at hstep
     rw[hB] at hq1
     refine vcQ [] (lkL [(3,[3,21,22,23,24]),(4,[3,6,21,22,23]),(5,[3,21,22,23,28,29,30])]) (lkL [(4,[(3,ROrc.val (Orc.obj (nth [int i64 (L.getD i default).head,ap (L.getD i default).body])))])]) (fun Q=>(fun (u1:Int)=>(fun (u2:List AV)=>(fun (u3:Int)=>(fun (u4:AObj)=>(fun (u5:AV)=>(decide (u3<u1)=true->(0<=u3/\u3<u1)/\2<=2/\2<=2/\(∀(c:Nat),c<2->nth u2 c=ao (nth [int i64 0,fz Fz.nil 0 0 fun _ _=>any]) 0 2 (List.brecOn (motive:=fun (x:List AV)=>Nat->AV) u2 nth._f) c)/\2<=2/\Wp Tryd.prog R 40 5 Rd.top (az Tryd.prog 102) [1,1,1,0,0,1,1,0,0,1,1,0] (aV Tryd.prog R 40 5 Rd.top (az Tryd.prog 102) Q [Kont.blk 2,Kont.blk 1,Kont.seq [1,1,1,0,0,1,1,1]]) (St.mk [(3,ref 4 0),(21,u5),(22,int i64 u1),(23,int i64 u3),(28,ap (L.getD i default).body),(29,int i64 (↑((L.getD i default).body.l.length):Int)),(30,int i64 0)] [cells false 27 (ad p v (AV.mp 1)),AObj.map es,cells false 1 fun (x:Nat)=>int u64 (u:Int),cells false 1 fun (x:Nat)=>ref 0 0,u4,cells false 2 (nth u2)] g))/\(decide (u3<u1)=false->Q (AEx.exit 0) (St.mk [(3,ref 4 0),(21,u5),(22,int i64 u1),(23,int i64 u3),(24,AV.bool (decide (u3<u1)))] [cells false 27 (ad p v (AV.mp 1)),AObj.map es,cells false 1 fun (x:Nat)=>int u64 (u:Int),cells false 1 fun (x:Nat)=>ref 0 0,u4] g))) (fz k 2 (L.length) fun (i:Nat)=>br (L.getD i default))) (cells false 1 fun (x:Nat)=>fn 102 0 (nth []) 3 (nth [ref 2 0,ref 3 0,ref 4 0]))) ((i:Int))) ([int i64 (L.getD i default).head,ap (L.getD i default).body])) ((L.length:Int))) (fun _=>by kernel_rfl) ⟨fun c1=>have c1:(i:Int)<(L.length:Int):=(of_decide_eq_true c1);⟨by omega,by omega,by omega,(fun c hc=>match c,hc with|0,_=>(by kernel_rfl)|1,_=>(by kernel_rfl) ),by omega,?_⟩,fun c1=>have c1:¬(i:Int)<(L.length:Int):=(of_decide_eq_false c1);?_⟩
     ·rw[hB]
      refine(bi (by kernel_rfl) (fun (j:Nat)=>⟨[(3,ref 4 0),(21,fz k 2 (L.length) fun (i:Nat)=>br (L.getD i default)),(22,int i64 (L.length:Int)),(23,int i64 (i:Int)),(28,ap B),(29,int i64 (B.l.length:Int)),(30,.int .i64 j)],[.cells false 27 (ad p v (.mp 1)),.map es,.cells false 1 (fun _=>.int .u64 ((B.l.take j).foldl (fun (s:Nat) (l:Lit)=>hgF p n l.atom.toNat s) u:Nat)),.cells false 1 (fun _=>.ref 0 0),.cells false 1 (fun _=>.fn 102 0 (nth []) 3 (nth [.ref 2 0,.ref 3 0,.ref 4 0])),.cells false 2 (nth [.int .i64 (L.getD i default).head,ap B])],g⟩) (fun (j:Nat)=>(j<=B.l.length)) (fun (j:Nat)=>(B.l.length-j)) 0 (jt ⟨AM _,AM _,AM _,AM _,AM _,AM _,(AN (by kernel_rfl)),trivial⟩ ⟨AO,rfl,AO,AO,AO,AO,trivial⟩ rfl) ?_ (fun j hi=>?_))
      ·exact Nat.zero_le _
      ·obtain⟨hj1,hj2⟩:=huB j
       rcases Nat.lt_or_ge j B.l.length with hjl|hjg
       ·have hs2:=j8 (fun (s:Nat) (l:Lit)=>hgF p n l.atom.toNat s) u B.l default hjl
        have hat:=hBl _ (bx B.l default hjl)
        obtain⟨z,hz⟩:∃z,(B.l.take j).foldl (fun (s:Nat) (l:Lit)=>hgF p n l.atom.toNat s) u=z:=⟨_,rfl⟩
        rw[hz] at hj1 hj2 hs2 ⊢
        have hcz:24<n+(ak z).length:=by
         have a1:=oB hj1
         have a2:=oB hu1
         omega
        refine vcQ [] (lkL [(6,[3,21,22,23,28,29,30,31]),(7,[3,8,21,22,23,28,29,30]),(8,[3,21,22,23,28,29,30]),(9,[3,21,22,23,28,29,30])]) (lkL [(7,[(3,ROrc.val (Orc.obj (nth [int i64 (B.l.getD j default).atom,AV.bool (B.l.getD j default).neg])))]),(8,[(3,ROrc.call (tup 0 (nth [])) [cells false 27 (ad p v (AV.mp 1)),AObj.map es,cells false 1 fun (j_1:Nat)=>int u64 (↑(hgF p n ((B.l.getD j default).atom.toNat) z):Int),cells false 1 fun (x:Nat)=>ref 0 0,cells false 1 fun (x:Nat)=>fn 102 0 (nth []) 3 (nth [ref 2 0,ref 3 0,ref 4 0]),cells false 2 (nth [int i64 (L.getD i default).head,ap B]),cells false 2 (nth [int i64 (B.l.getD j default).atom,AV.bool (B.l.getD j default).neg])] g)])]) (fun Q=>(fun (u1:List AObj)=>(fun (u2:Int)=>(fun (u3:List AObj)=>(fun (u4:Int)=>(fun (u5:Lit)=>(fun (u6:AV)=>(decide (u4<u2)=true->(0<=u4/\u4<u2)/\2<=2/\2<=2/\(∀(c:Nat),c<2->nth [int i64 u5.atom,AV.bool u5.neg] c=ao (nth [int i64 0,AV.bool false]) 0 2 (List.brecOn (motive:=fun (x:List AV)=>Nat->AV) [int i64 u5.atom,AV.bool u5.neg] nth._f) c)/\1<=1/\1<=2/\(true=true/\Does Tryd.prog R 102 [int i64 u5.atom,ref 2 0,ref 3 0,ref 4 0] (cells false 27 (ad p v (AV.mp 1))::AObj.map es::(cells false 1 fun (x:Nat)=>int u64 (z:Int))::u1) g (ret (tup 0 (nth []))) u3 g)/\(-9223372036854775808<=u4+1/\u4+1<=9223372036854775807)/\Q AEx.normal (St.mk [(3,ref 4 0),(21,u6),(22,int i64 (L.length:Int)),(23,int i64 (i:Int)),(28,ap B),(29,int i64 u2),(30,int i64 (u4+1))] u3 g))/\(decide (u4<u2)=false->Q (AEx.exit 2) (St.mk [(3,ref 4 0),(21,u6),(22,int i64 (L.length:Int)),(23,int i64 (i:Int)),(28,ap B),(29,int i64 u2),(30,int i64 u4),(31,AV.bool (decide (u4<u2)))] [cells false 27 (ad p v (AV.mp 1)),AObj.map es,cells false 1 fun (x:Nat)=>int u64 (z:Int),cells false 1 fun (x:Nat)=>ref 0 0,cells false 1 fun (x:Nat)=>fn 102 0 (nth []) 3 (nth [ref 2 0,ref 3 0,ref 4 0]),cells false 2 (nth [int i64 (L.getD i default).head,ap B])] g))) (fz k 2 (L.length) fun (i:Nat)=>br (L.getD i default))) (B.l.getD j default)) ((j:Int))) (cells false 27 (ad p v (AV.mp 1))::AObj.map es::(cells false 1 fun (j_1:Nat)=>int u64 (↑(hgF p n ((B.l.getD j default).atom.toNat) z):Int))::u1)) ((B.l.length:Int))) ([cells false 1 fun (x:Nat)=>ref 0 0,cells false 1 fun (x:Nat)=>fn 102 0 (nth []) 3 (nth [ref 2 0,ref 3 0,ref 4 0]),cells false 2 (nth [int i64 (L.getD i default).head,ap B]),cells false 2 (nth [int i64 (B.l.getD j default).atom,AV.bool (B.l.getD j default).neg])])) (fun _=>by kernel_rfl) ⟨fun c1=>have c1:(j:Int)<(B.l.length:Int):=(of_decide_eq_true c1);⟨by omega,by omega,by omega,(fun c hc=>match c,hc with|0,_=>(by kernel_rfl)|1,_=>(by kernel_rfl) ),by omega,by omega,⟨rfl,(fB [0,1,2,3,4] 7 (fun R g=>ih R ((B.l.getD j default).atom) (z) g (by omega) (by omega) (by omega)) rfl rfl rfl (by exact⟨⟨rfl,Nat.le_refl _,fun j hj=>(by first|exact bp (by first|exact trivial|apply aZ)|exact AN (cz rfl).symm|exact AN (b9 (by rfl)).symm)⟩,rfl,⟨rfl,Nat.le_refl _,fun j hj=>match j,hj with|0,_=>(AM _) ⟩,⟨rfl,Nat.le_refl _,fun j hj=>match j,hj with|0,_=>(AM _) ⟩,⟨rfl,Nat.le_refl _,fun j hj=>match j,hj with|0,_=>(Le.fn (fun i hi=>absurd hi (by omega)) (fun i hi=>match i,hi with|0,_=>(AM _)|1,_=>(AM _)|2,_=>(AM _) )) ⟩,trivial⟩) (by exact⟨by omega,by omega,by omega,by omega,trivial⟩) (by exact⟨bp (by exact trivial),AM _,AM _,AM _,trivial⟩) (by exact bO (by exact trivial)) (by exact⟨⟨rfl,Nat.le_refl _,fun j hj=>(by first|exact bO (by first|exact trivial|apply aZ)|exact AN (cz rfl)|exact AN (b9 (by rfl)))⟩,rfl,AO,⟨rfl,Nat.le_refl _,fun j hj=>match j,hj with|0,_=>(AM _) ⟩,⟨rfl,Nat.le_refl _,fun j hj=>match j,hj with|0,_=>(Le.fn (fun i hi=>absurd hi (by omega)) (fun i hi=>match i,hi with|0,_=>(AM _)|1,_=>(AM _)|2,_=>(AM _) )) ⟩,AO,AO,trivial⟩))⟩,by omega,?_⟩,fun c1=>have c1:¬(j:Int)<(B.l.length:Int):=(of_decide_eq_false c1);?_⟩
        ·refine(aW (j+1) (ej [0,1,2,3,4,5] 7 rfl rfl rfl rfl rfl ⟨AM _,AM _,AM _,AM _,AM _,AM _,AM _,trivial⟩ ⟨⟨by first|rfl|(simp;done),by first|exact Nat.le_refl _|(simp;done)|(simp;omega),fun j hj=>(by first|exact bp (by first|exact trivial|apply aZ)|exact AN (cz rfl).symm|exact AN (b9 (by rfl)).symm)⟩,rfl,⟨rfl,Nat.le_refl _,fun j hj=>match j,hj with|0,_=>(AN ?_) ⟩,⟨rfl,Nat.le_refl _,fun j hj=>match j,hj with|0,_=>(AM _) ⟩,⟨rfl,Nat.le_refl _,fun j hj=>match j,hj with|0,_=>(Le.fn (fun i hi=>absurd hi (by omega)) (fun i hi=>match i,hi with|0,_=>(AM _)|1,_=>(AM _)|2,_=>(AM _) )) ⟩,⟨rfl,Nat.le_refl _,fun j hj=>match j,hj with|0,_=>(AM _)|1,_=>(AM _) ⟩,trivial⟩) ?_ ?_)
         ·show AV.int .u64 _=AV.int .u64 _
          rw[hs2]
         ·omega
         ·omega
        ·exfalso;omega
       ·have hje:j=B.l.length:=by omega
        subst hje
        rw[List.take_length,<-hstep]
        have hb:decide ((B.l.length:Int)<(B.l.length:Int))=false:=decide_eq_false (by omega)
        refine vcQ [[1,1,1,0,0,1,1,0,0,1,1,0,0,1,0,0]] (lkL [(6,[3,21,22,23,28,29,30,31])]) (fun _=>[]) (fun Q=>(fun (u1:St R.σ)=>(fun (u2:Int)=>(decide (u2<u2)=true->Wp Tryd.prog R 40 5 Rd.top (az Tryd.prog 102) [1,1,1,0,0,1,1,0,0,1,1,0,0,1,0,0] (aV Tryd.prog R 40 5 Rd.top (az Tryd.prog 102) Q [Kont.seq [1,1,1,0,0,1,1,0,0,1,1,0,0,1,1]]) u1)/\(decide (u2<u2)=false->Q (AEx.exit 2) u1)) ((B.l.length:Int))) (St.mk [(3,ref 4 0),(21,fz k 2 (L.length) fun (i:Nat)=>br (L.getD i default)),(22,int i64 (L.length:Int)),(23,int i64 (i:Int)),(28,ap B),(29,int i64 (B.l.length:Int)),(30,int i64 (B.l.length:Int)),(31,AV.bool (decide ((B.l.length:Int)<(B.l.length:Int))))] [cells false 27 (ad p v (AV.mp 1)),AObj.map es,cells false 1 fun (x:Nat)=>int u64 (↑(List.foldl F t (List.take (i+1) L)):Int),cells false 1 fun (x:Nat)=>ref 0 0,cells false 1 fun (x:Nat)=>fn 102 0 (nth []) 3 (nth [ref 2 0,ref 3 0,ref 4 0]),cells false 2 (nth [int i64 (L.getD i default).head,ap B])] g)) (fun _=>by kernel_rfl) ⟨fun hcc=>(nomatch (hb.symm.trans hcc)),fun _=>?_⟩
        refine⟨_,A0 _,vcQ [] (lkL [(10,[3,21,22,23])]) (fun _=>[]) (fun Q=>(-9223372036854775808<=(i:Int)+1/\(i:Int)+1<=9223372036854775807)/\Q AEx.normal (St.mk [(3,ref 4 0),(21,fz k 2 (L.length) fun (i:Nat)=>br (L.getD i default)),(22,int i64 (L.length:Int)),(23,int i64 ((i:Int)+1))] [cells false 27 (ad p v (AV.mp 1)),AObj.map es,cells false 1 fun (x:Nat)=>int u64 (↑(List.foldl F t (List.take (i+1) L)):Int),cells false 1 fun (x:Nat)=>ref 0 0,cells false 1 fun (x:Nat)=>fn 102 0 (nth []) 3 (nth [ref 2 0,ref 3 0,ref 4 0]),cells false 2 (nth [int i64 (L.getD i default).head,ap B])] g)) (fun _=>by kernel_rfl) ⟨by omega,?_⟩⟩
        refine(aW (i+1) (ej [0,1,2,3,4] 6 rfl rfl rfl rfl rfl ⟨AM _,AM _,AM _,AM _,trivial⟩ ⟨⟨by first|rfl|(simp;done),by first|exact Nat.le_refl _|(simp;done)|(simp;omega),fun j hj=>(by first|exact bp (by first|exact trivial|apply aZ)|exact AN (cz rfl).symm|exact AN (b9 (by rfl)).symm)⟩,rfl,⟨rfl,Nat.le_refl _,fun j hj=>match j,hj with|0,_=>(AM _) ⟩,⟨rfl,Nat.le_refl _,fun j hj=>match j,hj with|0,_=>(AM _) ⟩,⟨rfl,Nat.le_refl _,fun j hj=>match j,hj with|0,_=>(Le.fn (fun i hi=>absurd hi (by omega)) (fun i hi=>match i,hi with|0,_=>(AM _)|1,_=>(AM _)|2,_=>(AM _) )) ⟩,trivial⟩) ?_ ?_)
        ·omega
        ·omega
     ·exfalso;omega
    ·have hie:i=L.length:=by omega
     subst hie
     rw[List.take_length]
     have hb:decide ((L.length:Int)<(L.length:Int))=false:=decide_eq_false (by omega)
     refine vcQ [[1,1,1,0,0,1,0,0]] (lkL [(3,[3,21,22,23,24])]) (fun _=>[]) (fun Q=>(fun (u1:St R.σ)=>(fun (u2:Int)=>(decide (u2<u2)=true->Wp Tryd.prog R 40 5 Rd.top (az Tryd.prog 102) [1,1,1,0,0,1,0,0] (aV Tryd.prog R 40 5 Rd.top (az Tryd.prog 102) Q [Kont.seq [1,1,1,0,0,1,1]]) u1)/\(decide (u2<u2)=false->Q (AEx.exit 0) u1)) ((L.length:Int))) (St.mk [(3,ref 4 0),(21,fz k 2 (L.length) fun (i:Nat)=>br (L.getD i default)),(22,int i64 (L.length:Int)),(23,int i64 (L.length:Int)),(24,AV.bool (decide ((L.length:Int)<(L.length:Int))))] [cells false 27 (ad p v (AV.mp 1)),AObj.map es,cells false 1 fun (x:Nat)=>int u64 (↑(List.foldl F t L):Int),cells false 1 fun (x:Nat)=>ref 0 0,cells false 1 fun (x:Nat)=>fn 102 0 (nth []) 3 (nth [ref 2 0,ref 3 0,ref 4 0])] g)) (fun _=>by kernel_rfl) ⟨fun hcc=>(nomatch (hb.symm.trans hcc)),fun _=>?_⟩
     refine⟨_,A0 _,(av (aX _ _ rfl trivial rfl rfl rfl) (AM _))⟩
def hgP (p:Prg)(a:Nat):Nat:=hgF p 25 a 0
theorem oC (R:Res)(p:Prg)(a:Int)(hl:p.rules.l.length<1000000)(hr:∀r,r∈p.rules.l->aE r)(ha:0<=a/\a<24)(hp:List AObj)(g:R.σ):Does Tryd.prog R 70 [aw p,.int .i64 a] hp g (.ret (.int .u64 (hgP p a.toNat))) hp g:=by
 refine bN (fun R g=>?_) (by exact⟨⟨⟨trivial,trivial⟩,trivial⟩,trivial,trivial⟩) R hp g
 have hes:=n7 hr
 have hz:(0:Nat)<2^24:=by decide
 have hc:24<25+(ak 0).length:=by omega
 have h1:=fun R g=>yC p (fun _=>3) (esF p.rules.l) hes hl hr 25 R a 0 g ha hz hc
 refine dN (nt:=15) (rs:=[.tmp 4]) (k0:=0) (by kernel_rfl) (by kernel_rfl) (by kernel_rfl) rfl ?_
 refine vcQ [] (lkL [(0,[1,2]),(1,[1,5]),(2,[1,5,6]),(3,[1,5,6,7]),(4,[1,6,7]),(5,[6]),(6,[4])]) (lkL [(1,[(1,ROrc.call (ref 1 0) [cells false 2 (nth [int i64 p.atoms,ae p.rules]),cells false 27 (ad p (fun (x:Nat)=>3) (AV.mp 2)),AObj.map (esF p.rules.l)] g),(3,ROrc.val (Orc.obj (nth [ref 1 0])))]),(4,[(1,ROrc.val (Orc.obj (nth [fn 102 0 (nth []) 3 (nth [ref 4 0,ref 3 0,ref 5 0])])))]),(5,[(2,ROrc.call (tup 0 (nth [])) [cells false 2 (nth [int i64 p.atoms,ae p.rules]),cells false 27 (ad p (fun (x:Nat)=>3) (AV.mp 2)),AObj.map (esF p.rules.l),cells false 1 (nth [ref 1 0]),cells false 1 fun (j:Nat)=>int u64 (↑(hgF p 25 (a.toNat) 0):Int),cells false 1 (nth [fn 102 0 (nth []) 3 (nth [ref 4 0,ref 3 0,ref 5 0])])] g)])]) (fun Q=>(fun (u1:List AObj)=>(fun (u2:AObj)=>(fun (u3:AV)=>(fun (u4:AObj)=>2<=2/\(true=true/\Does Tryd.prog R 66 [aw p] [u2] g (ret (ref 1 0)) [u2,u4,AObj.map (esF p.rules.l)] g)/\1<=1/\(∀(c:Nat),c<1->nth [ref 1 0] c=ao (fun (a:Nat)=>AV.nilp) 0 1 (fun (x:Nat)=>ref 1 0) c)/\1<=1/\(∀(c:Nat),c<1->nth [u3] c=ao (fun (a:Nat)=>AV.nilf) 0 1 (fun (x:Nat)=>u3) c)/\1<=1/\(true=true/\Does Tryd.prog R 102 [int i64 a,ref 4 0,ref 3 0,ref 5 0] [u2,u4,AObj.map (esF p.rules.l),cells false 1 (nth [ref 1 0]),cells false 1 fun (a:Nat)=>int u64 0,cells false 1 (nth [u3])] g (ret (tup 0 (nth []))) u1 g)/\1<=1/\Q AEx.ret (St.mk [(4,int u64 (↑(hgF p 25 (a.toNat) 0):Int))] u1 g)) (cells false 27 (ad p (fun (x:Nat)=>3) (AV.mp 2)))) (fn 102 0 (nth []) 3 (nth [ref 4 0,ref 3 0,ref 5 0]))) (cells false 2 (nth [int i64 p.atoms,ae p.rules]))) ([cells false 2 (nth [int i64 p.atoms,ae p.rules]),cells false 27 (ad p (fun (x:Nat)=>3) (AV.mp 2)),AObj.map (esF p.rules.l),cells false 1 (nth [ref 1 0]),cells false 1 fun (j:Nat)=>int u64 (↑(hgF p 25 (a.toNat) 0):Int),cells false 1 (nth [fn 102 0 (nth []) 3 (nth [ref 4 0,ref 3 0,ref 5 0])])])) (fun _=>by kernel_rfl) ⟨by omega,⟨rfl,(lW _ _ _ (by omega) (by omega) _)⟩,by omega,(fun c hc=>match c,hc with|0,_=>(by kernel_rfl) ),by omega,(fun c hc=>match c,hc with|0,_=>(by kernel_rfl) ),by omega,⟨rfl,(fB [1,2,4,3,5] 6 (fun R g=>h1 R g) rfl rfl rfl (by exact⟨⟨rfl,Nat.le_refl _,fun j hj=>(by first|exact bp (by first|exact trivial|apply aZ)|exact AN (cz rfl).symm|exact AN (b9 (by rfl)).symm)⟩,rfl,⟨rfl,Nat.le_refl _,fun j hj=>match j,hj with|0,_=>(AM _) ⟩,⟨rfl,Nat.le_refl _,fun j hj=>match j,hj with|0,_=>(AM _) ⟩,⟨rfl,Nat.le_refl _,fun j hj=>match j,hj with|0,_=>(Le.fn (fun i hi=>absurd hi (by omega)) (fun i hi=>match i,hi with|0,_=>(AM _)|1,_=>(AM _)|2,_=>(AM _) )) ⟩,trivial⟩) (by exact⟨by omega,by omega,by omega,by omega,trivial⟩) (by exact⟨bp (by exact trivial),AM _,AM _,AM _,trivial⟩) (by exact bO (by exact trivial)) (by exact⟨AO,⟨rfl,Nat.le_refl _,fun j hj=>(by first|exact bO (by first|exact trivial|apply aZ)|exact AN (cz rfl)|exact AN (b9 (by rfl)))⟩,rfl,⟨rfl,Nat.le_refl _,fun j hj=>match j,hj with|0,_=>(AM _) ⟩,AO,⟨rfl,Nat.le_refl _,fun j hj=>match j,hj with|0,_=>(Le.fn (fun i hi=>absurd hi (by omega)) (fun i hi=>match i,hi with|0,_=>(AM _)|1,_=>(AM _)|2,_=>(AM _) )) ⟩,trivial⟩))⟩,by omega,?_⟩
 refine(av (bE _ _ rfl trivial trivial rfl) (AN (by kernel_rfl)))
def ai (s:Nat):KL Int:=⟨bo s,.auto⟩
theorem iO (R:Res)[Tab LT R](s:Nat)(hs:s<2^24)(g:R.σ):Does Tryd.prog R 75 [.fn 105 0 (nth []) 1 (nth [.ref 0 0])] [cO 1 (fun _=>.int .u64 s)] g (.ret (ah (ai s))) [cO 1 (fun _=>.any)] g:=
 iy (yb R s hs g) (toL (h1:=⟨AT (fJ s).symm (fun i j hi hj=>by
  show AV.int .i64 _=AV.int .i64 ((bo s).getD i 0)
  rw[gS]),trivial⟩) (h2:=⟨AP _,trivial⟩))
theorem gn {p:Prg}(hr:∀r,r∈p.rules.l->aE r){a:Nat}(ha:a<24):hgP p a<2^24:=(gU hr 25 a ha 0 dcd).2
theorem yD (R:Res)[Tab LT R](p:Prg)(goal:Int)(hb:aD p=true)(hg:0<=goal/\goal<p.atoms)(g:R.σ):Does Tryd.prog R 30 [aw p,.int .i64 goal] [] g (.ret (.tup 2 (nth [ah (ai (hgP p goal.toNat)),.int .i64 0]))) [] g:=by
 obtain⟨hl,hr,hp,hh,hx⟩:=eK hb
 have hs:em p:=gl hb
 have hp':1<=p.atoms/\p.atoms<=24:=hp
 have hlt:hgP p goal.toNat<2^24:=gn hr omg
 have hC:=fun (R:Res) [Tab LT R] (s:Nat) (hs:s<2^24) (g:R.σ)=>iO R s hs g
 refine spW (nt:=22) (rs:=[.tmp 4,.tmp 5]) (k0:=0) ?_
 have hc:(bif ((if aD p then(0:Int) else 2) != 0) then true else !decide (0<=goal/\goal<=p.atoms-1))=false:=by
  rw[hb,decide_eq_true omg]
  rfl
 refine vcR [[1,0,1,0]] (lkL [(0,[1,2]),(1,[1,2,16]),(3,[4,5])]) (lkL [(1,[(1,ROrc.pcall (i6 (if aD p=true then 0 else 2))),(8,ROrc.pcall (AV.bool (decide (0<=goal/\goal<=p.atoms-1))))]),(3,[(2,ROrc.pcall (int u64 (↑(hgP p (Int.toNat goal)):Int))),(3,ROrc.call (fn 105 0 (nth []) 1 (nth [ref (List.length [cO 2 (nth [i6 p.atoms,ae p.rules])]) 0])) ([cO 2 (nth [i6 p.atoms,ae p.rules])]++[cO 1 fun (x:Nat)=>int u64 (↑(hgP p (Int.toNat goal)):Int)]) g),(4,ROrc.call (fz Fz.auto 1 (List.length (ai (hgP p (Int.toNat goal))).l) fun (i x:Nat)=>af (ai (hgP p (Int.toNat goal))).l i) [cO 2 (nth [i6 p.atoms,ae p.rules]),cO 1 fun (j:Nat)=>any] g)])]) (fun Q=>(fun (u1:AObj)=>(fun (u2:Bool)=>(fun (u3:Nat)=>(fun (u4:Int)=>(fun (u5:AV)=>(fun (u6:AV)=>2<=2/\(∀(hp:List AObj) (g:R.σ),true=true/\Does Tryd.prog R 16 [aw p] hp g (ret (i6 u4)) hp g)/\((!u4 != 0)=true->1<=2)/\((!u4 != 0)=true -> -9223372036854775808<=p.atoms-1/\p.atoms-1<=9223372036854775807)/\((!u4 != 0)=true->∀(hp:List AObj) (g:R.σ),true=true/\Does Tryd.prog R 58 [i6 goal,i6 0,i6 (p.atoms-1)] hp g (ret (AV.bool (decide (0<=goal/\goal<=p.atoms-1)))) hp g)/\(u2=true->WpC Tryd.prog R 22 0 30 [1,0,1,0] Q [Kont.seq [1,1]] (St.mk [(1,i6 goal),(2,ref 0 0),(16,AV.bool u2)] [u1] g))/\(u2=false->2<=2/\(∀(hp:List AObj) (g:R.σ),true=true/\Does Tryd.prog R 70 [aw p,i6 goal] hp g (ret u6) hp g)/\(true=true/\Does Tryd.prog R 77 [u6] [u1] g (ret (fn 105 0 (nth []) 1 (nth [ref 1 0]))) [u1,cO 1 fun x=>u6] g)/\(true=true/\Does Tryd.prog R 75 [fn 105 0 (nth []) 1 (nth [ref 1 0])] [u1,cO 1 fun x=>u6] g (ret u5) [u1,cO 1 fun j=>any] g)/\Q AEx.ret (St.mk [(4,u5),(5,i6 0)] [u1,cO 1 fun j=>any] g))) (int u64 (↑u3:Int))) (fz Fz.auto 1 (List.length (ai u3).l) fun i x=>af (ai u3).l i)) (if aD p=true then 0 else 2)) (hgP p (Int.toNat goal))) (bif (if aD p=true then 0 else 2) != 0 then true else !decide (0<=goal/\goal<=p.atoms-1))) (cO 2 (nth [i6 p.atoms,ae p.rules]))) ⟨omg,(fun _ _=>⟨rfl,(ga _ _ _ _ omg)⟩),omg,omg,(fun hgd=>(fun _ _=>⟨rfl,(dv _ _ _ _ _ _)⟩)),fun hcc=>(nomatch (hc.symm.trans hcc)),fun _=>⟨omg,(fun _ _=>⟨rfl,(oC _ _ _ omg omg omg _ _)⟩),⟨rfl,(cQ _ _ _ _)⟩,⟨rfl,(doT (T:=LT) [1] 2 (fun R _ g=>hC R (hgP p (Int.toNat goal)) omg g))⟩,?_⟩⟩
 refine(av (bE _ _ rfl trivial ⟨⟨trivial,trivial⟩,trivial⟩ rfl) (AN krf))
def ay (p:Prg)(a:Nat):Nat:=(ak (hgP p a)).foldl (fun (s:Nat) (b:Nat)=>if (hgP p b).testBit a then s|||2^b else s) 0
def onC (p:Prg):Nat->AV:=fun k=>.int .u64 (hgP p k)
theorem rl {k:Nat}(p:Prg)(j:Nat):Below k (onC p j):=trivial
theorem ry {f:Nat->Nat}(h:True){p:Prg}{j:Nat}:aI f (onC p j)=onC p j:=rfl
theorem oD {p:Prg}{a:Nat}:∀{l:List Nat} {s:Nat},(∀b,b∈l->b<24)->s<2^24->l.foldl (fun (s:Nat) (b:Nat)=>if (hgP p b).testBit a then s|||2^b else s) s<2^24
 |[],_,_,hs=>hs
 |b::l,s,hl,hs=>by
  rw[List.foldl_cons]
  refine oD (fun c hc=>hl c (List.mem_cons_of_mem _ hc)) ?_
  split
  ·exact j9 hs (hl b List.mem_cons_self)
  ·exact hs
theorem su (p:Prg)(a:Nat):ay p a<2^24:=oD (fun b hb=>iJ hb) dcd
theorem lX (R:Res)[Tab LT R](p:Prg)(n:Nat)(a:Int)(hr:∀r,r∈p.rules.l->aE r)(hn:n<=24)(ha:0<=a/\a<n)(hin:∀b,b∈ak (hgP p a.toNat)->b<n)(g:R.σ):Does Tryd.prog R 82 [.int .i64 a,.ref 0 0] [cO 1 (fun _=>.ow true 1 n 1),cO (n*1) (onC p)] g (.ret (.int .u64 (ay p a.toNat))) [cO 1 (fun _=>.ow true 1 n 1),cO (n*1) (onC p)] g:=by
 obtain⟨m,rfl⟩:∃m:Nat,a=m:=⟨a.toNat,omg⟩
 rw[Int.toNat_natCast] at hin ⊢
 have hlt:hgP p m<2^24:=gn hr omg
 refine spW (nt:=23) (rs:=[.tmp 3]) (k0:=2) ?_
 refine vcR [] (lkL [(0,[1,2]),(1,[1,2,4]),(2,[1,2,4,10])]) (lkL [(2,[(4,ROrc.call (fn 105 0 (nth []) 1 (nth [ref (List.length [cO 1 fun (x:Nat)=>ow true 1 n 1,cO (n*1) fun (a:Nat)=>onC p a,cO 1 fun (a:Nat)=>i6 (↑m:Int),cO 1 fun (a:Nat)=>int u64 0]) 0])) ([cO 1 fun (x:Nat)=>ow true 1 n 1,cO (n*1) fun (a:Nat)=>onC p a,cO 1 fun (a:Nat)=>i6 (↑m:Int),cO 1 fun (a:Nat)=>int u64 0]++[cO 1 fun (x:Nat)=>int u64 (↑(hgP p m):Int)]) g)])]) (fun Q=>(fun (u1:List AObj)=>1<=1/\1<=1/\(0<=(↑m:Int)/\(↑m:Int)<(↑n:Int))/\m+1<=n*1/\(true=true/\Does Tryd.prog R 77 [onC p m] [cO 1 fun x=>ow true 1 n 1,cO (n*1) fun a=>onC p a,cO 1 fun a=>i6 (↑m:Int),cO 1 fun a=>int u64 0] g (ret (fn 105 0 (nth []) 1 (nth [ref 4 0]))) u1 g)/\WpC Tryd.prog R 23 2 82 [1,1,0,1,0] Q [Kont.blk 0,Kont.seq [1,1,1]] (St.mk [(1,ref 0 0),(2,ref 2 0),(4,ref 3 0),(10,fn 105 0 (nth []) 1 (nth [ref 4 0]))] u1 g)) ([cO 1 fun x=>ow true 1 n 1,cO (n*1) fun a=>onC p a,cO 1 fun a=>i6 (↑m:Int),cO 1 fun a=>int u64 0,cO 1 fun x=>onC p m])) ⟨omg,omg,omg,omg,⟨rfl,(cQ _ _ _ _)⟩,?_⟩
 have hseq:=lz (hgP p m) hlt
 obtain⟨l,hle⟩:∃l,ak (hgP p m)=l:=⟨_,rfl⟩
 have hw:ay p m=l.foldl (fun (s:Nat) (b:Nat)=>if (hgP p b).testBit m then s|||2^b else s) 0:=by unfold ay;rw[hle]
 rw[hle] at hseq hin
 have hin2:∀k,k<l.length->l.getD k 0<n:=fun k hk=>hin _ (bx l 0 hk)
 refine iA 10 [11] 4 krf rfl rfl rfl hseq (fun _=>rfl) krf (fun _=>⟨trivial,trivial⟩)
  (fun _=>none) (fun _=>rfl)
  (fun k=>[cO 1 (fun _=>.ow true 1 n 1),cO (n*1) (onC p),cO 1 (fun _=>.int .i64 m),cO 1 (fun _=>.int .u64 ((l.take k).foldl (fun (s:Nat) (b:Nat)=>if (hgP p b).testBit m then s|||2^b else s) 0:Nat))])
  (fun _=>g) (fC rfl rfl) (fun _=>rfl) (by exact⟨omg,omg,omg,omg,omg,trivial⟩) (by exact⟨fun _ _=>show 1<4 by omega,fun _ _=>trivial,fun _ _=>trivial,fun _ _=>trivial,trivial⟩) (by exact⟨fun _ _=>trivial,trivial⟩) [1,2,4] (by exact⟨show 0<4 by omega,show 2<4 by omega,show 3<4 by omega,trivial⟩) (fun k l' hk hjk=>?_) (fun _=>?_) (fun k hk hj hr=>by cases hr) (fun k id hk hj hr=>by cases hr)
 ·obtain⟨b,hb⟩:∃b,l.getD k 0=b:=⟨_,rfl⟩
  have hbn:b<n:=by rw[<-hb];exact hin2 k hk
  have hb24:hgP p b<2^24:=gn hr omg
  have hst:=j8 (fun (s:Nat) (b:Nat)=>if (hgP p b).testBit m then s|||2^b else s) 0 l 0 hk
  obtain⟨t,ht⟩:∃t,(l.take k).foldl (fun (s:Nat) (b:Nat)=>if (hgP p b).testBit m then s|||2^b else s) 0=t:=⟨_,rfl⟩
  have ht24:t<2^24:=by
   rw[<-ht]
   exact oD (fun c hc=>by
    have h1:=List.mem_of_mem_take hc
    rw[<-hle] at h1
    exact iJ h1) dcd
  rw[hb,ht] at hst
  rw[hb,ht,hst]
  refine vcR [] (lkL [(3,[1,2,4,5])]) (fun _=>[]) (fun (Q:AEx->St R.σ->Prop)=>Q AEx.normal (St.mk [(1,ref 0 0),(2,ref 2 0),(4,ref 3 0),(5,i6 (↑b:Int))] [cO 1 fun (x:Nat)=>ow true 1 n 1,cO (n*1) fun (a:Nat)=>onC p a,cO 1 fun (x:Nat)=>i6 (↑m:Int),cO 1 fun (x:Nat)=>int u64 (↑t:Int)] g)) (?_)
  show Wp _ _ _ 4 _ _ _ _ _
  refine vcR [] (lkL [(4,[4,5,17]),(5,[4])]) (lkL [(4,[(5,ROrc.pcall (AV.bool (Nat.testBit (hgP p b) m)))]),(5,[(2,ROrc.pcall (int u64 (↑(2^b):Int))),(4,ROrc.val (Orc.obj (nth [int u64 (IntKind.wrap u64 (↑(BitVec.toNat (BitVec.ofInt 64 (↑t:Int)|||BitVec.ofInt 64 (↑(2^b):Int))):Int))])))])]) (fun Q=>(fun (u1:AV)=>(fun (u2:Bool)=>(fun (u3:Bool)=>u3=true/\1<=1/\(0<=(↑b:Int)/\(↑b:Int)<(↑n:Int))/\b+1<=n*1/\1<=1/\(∀(hp:List AObj) (g:R.σ),true=true/\Does Tryd.prog R 71 [onC p b,i6 (↑m:Int)] hp g (ret (AV.bool u2)) hp g)/\(u2=true->u3=true/\1<=1/\(∀(hp:List AObj) (g:R.σ),true=true/\Does Tryd.prog R 79 [i6 (↑b:Int)] hp g (ret (int u64 (↑(2^b):Int))) hp g)/\1<=1/\(∀(c:Nat),c<1->nth [u1] c=ao (fun (x:Nat)=>int u64 (↑t:Int)) 0 1 (fun (x:Nat)=>u1) c)/\Q AEx.normal (St.mk [(4,ref 3 0)] [cO 1 fun x=>ow true 1 n 1,cO (n*1) fun a=>onC p a,cO 1 fun x=>i6 (↑m:Int),cO 1 (nth [u1])] g))/\(u2=false->Q AEx.normal (St.mk [(4,ref 3 0),(5,i6 (↑b:Int)),(17,AV.bool u2)] [cO 1 fun x=>ow true 1 n 1,cO (n*1) fun a=>onC p a,cO 1 fun x=>i6 (↑m:Int),cO 1 fun x=>int u64 (↑t:Int)] g))) (Tables.follows Tryd.prog.toTables Departure.mixedOrders)) (Nat.testBit (hgP p b) m)) (int u64 (IntKind.wrap u64 (↑(BitVec.toNat (BitVec.ofInt 64 (↑t:Int)|||BitVec.ofInt 64 (↑(2^b):Int))):Int)))) ⟨krf,omg,omg,omg,omg,(fun _ _=>⟨rfl,(jU _ _ _ omg omg _ _)⟩),fun c1=>⟨krf,omg,(fun _ _=>⟨rfl,(gP _ _ omg _ _)⟩),omg,(fun c hc=>match c,hc with|0,_=>krf ),?_⟩,fun c1=>?_⟩
  ·refine(eE rfl (toL (h2:=⟨AO,AO,AO,⟨rfl,Nat.le_refl _,fun j hj=>match j,hj with|0,_=>(AN ?_) ⟩,trivial⟩)))
   show AV.int .u64 _=AV.int .u64 _
   rw[if_pos c1]
   congr 1
   exact Tb.u64_or (bG ht24) (bG (Nat.pow_lt_pow_right dcd omg))
  ·refine(eE rfl (toL (h2:=⟨AO,AO,AO,⟨rfl,Nat.le_refl _,fun j hj=>match j,hj with|0,_=>(AN ?_) ⟩,trivial⟩)))
   show AV.int .u64 _=AV.int .u64 _
   rw[if_neg (by rw[c1];decide)]
 ·rw[List.take_length,<-hw]
  refine vcR [] (lkL [(6,[3])]) (fun _=>[]) (fun Q=>1<=1/\Q AEx.ret (St.mk [(3,int u64 (↑(ay p m):Int))] [cO 1 fun x=>ow true 1 n 1,cO (n*1) fun a=>onC p a,cO 1 fun x=>i6 (↑m:Int),cO 1 fun x=>int u64 (↑(ay p m):Int),dead] g)) ⟨omg,?_⟩
  show bK Tryd.prog R 2 _ _ _ _ .ret _
  refine(av (bZ 2 _ _ rfl trivial omg trivial ⟨(fun j hj=>match j,hj with|0,_=>(show 2<=2 by omega) ),(fun _ _=>trivial),trivial⟩ krf rfl rfl) (AM _))
def ka (p:Prg)(a b:Nat):Prop:=∃r,r∈p.rules.l/\r.head=(a:Int)/\∃l,l∈r.body.l/\l.atom.toNat=b
inductive Reach (p:Prg):Nat->Nat->Prop
 |refl (a:Nat):Reach p a a
 |step {a b c:Nat} (h:ka p a b) (k:Reach p b c):Reach p a c
theorem Reach.trans {p:Prg}{a b c:Nat}(h:Reach p a b)(k:Reach p b c):Reach p a c:=by
 induction h with
 |refl a=>exact k
 |step h _ ih=>exact .step h (ih k)
def gV (p:Prg)(a:Nat):List Nat:=(ofH p.rules.l (a:Int)).flatMap (fun r=>r.body.l.map (fun l=>l.atom.toNat))
theorem oE {p:Prg}{a b:Nat}:b∈gV p a↔ka p a b:=by
 unfold gV ka ofH
 simp only[List.mem_flatMap,List.mem_map,List.mem_filter,beq_iff_eq]
 constructor
 ·rintro ⟨r,⟨h1,h2⟩,l,h3,h4⟩
  exact⟨r,h1,h2,l,h3,h4⟩
 ·rintro ⟨r,h1,h2,l,h3,h4⟩
  exact⟨r,⟨h1,h2⟩,l,h3,h4⟩
theorem sw (p:Prg)(n a s:Nat):hgF p (n+1) a s=if s.testBit a then s else(gV p a).foldl (fun (s:Nat) (b:Nat)=>hgF p n b s) (s|||2^a):=by
 show(if s.testBit a then s else _)=_
 congr 1
 unfold gV
 rw[List.foldl_flatMap]
 congr 1
 funext s r
 rw[List.foldl_map]
def oF (p:Prg)(s t:Nat):Prop:=∀x,t.testBit x=true->s.testBit x=false->∀y,ka p x y->t.testBit y=true
theorem sx {p:Prg}(hr:∀r,r∈p.rules.l->aE r){a b:Nat}(h:b∈gV p a):b<24:=by
 obtain⟨r,h1,_,l,h3,rfl⟩:=oE.1 h
 have:=(hr r h1).1.2 l h3
 omega
theorem sy {p:Prg}(hr:∀r,r∈p.rules.l->aE r){n:Nat}(ih:∀a s,a<24->s<2^24->24<n+(ak s).length->(hgF p n a s).testBit a=true/\oF p s (hgF p n a s)):∀(L:List Nat) (s:Nat),(∀b,b∈L->b<24)->s<2^24->24<n+(ak s).length ->
  (∀b,b∈L->(L.foldl (fun (s:Nat) (b:Nat)=>hgF p n b s) s).testBit b=true)/\oF p s (L.foldl (fun (s:Nat) (b:Nat)=>hgF p n b s) s)
 |[],s,_,_,_=>⟨fun b hb=>(by cases hb),fun x h1 h2=>by rw[List.foldl_nil] at h1;rw[h1] at h2;cases h2⟩
 |b::L,s,hL,hs,hn=>by
  have hb:=hL b List.mem_cons_self
  obtain⟨u1,u2⟩:=gU hr n b hb s hs
  obtain⟨a1,a2⟩:=ih b s hb hs hn
  have hn':24<n+(ak (hgF p n b s)).length:=by have:=oB u1;omega
  obtain⟨c1,c2⟩:=sy hr ih L (hgF p n b s) (fun c hc=>hL c (List.mem_cons_of_mem _ hc)) u2 hn'
  have up:=(gm (l:=L) (f:=fun (s:Nat) (b:Nat)=>hgF p n b s) (fun c hc=>gU hr n c (hL c (List.mem_cons_of_mem _ hc))) _ u2).1
  rw[List.foldl_cons]
  refine⟨fun c hc=>?_,fun x h1 h2 y hy=>?_⟩
  ·rcases List.mem_cons.1 hc with rfl|hc
   ·exact up _ a1
   ·exact c1 c hc
  ·by_cases hx:(hgF p n b s).testBit x=true
   ·exact up _ (a2 x hx h2 y hy)
   ·exact c2 x h1 (by simpa using hx) y hy
theorem sz {p:Prg}(hr:∀r,r∈p.rules.l->aE r):∀(n a s:Nat),a<24->s<2^24->24<n+(ak s).length->(hgF p n a s).testBit a=true/\oF p s (hgF p n a s)
 |0,a,s,_,_,h=>by have:=gR s;omega
 |n+1,a,s,ha,hs,h=>by
  rw[sw]
  by_cases hb:s.testBit a=true
  ·rw[if_pos hb]
   exact⟨hb,fun x h1 h2=>by rw[h1] at h2;cases h2⟩
  ·rw[if_neg hb]
   have hb:s.testBit a=false:=by simpa using hb
   have hs1:=j9 hs ha
   have hn1:24<n+(ak (s|||2^a)).length:=by have:=sr ha hb;omega
   obtain⟨c1,c2⟩:=sy hr (sz hr n) (gV p a) _ (fun b hb=>sx hr hb) hs1 hn1
   have up:=(gm (l:=gV p a) (f:=fun (s:Nat) (b:Nat)=>hgF p n b s) (fun c hc=>gU hr n c (sx hr hc)) _ hs1).1
   have haT:=up a (by rw[gT];simp)
   refine⟨haT,fun x h1 h2 y hy=>?_⟩
   by_cases hxa:x=a
   ·subst hxa
    exact c1 y (oE.2 hy)
   ·exact c2 x h1 (by rw[gT,h2];simp;exact fun e=>hxa e.symm) y hy
theorem sA {p:Prg}:∀(n a s b:Nat),(hgF p n a s).testBit b=true->s.testBit b=true∨Reach p a b
 |0,_,_,_,h=>.inl h
 |n+1,a,s,b,h=>by
  rw[sw] at h
  by_cases hb:s.testBit a=true
  ·rw[if_pos hb] at h;exact .inl h
  ·rw[if_neg hb] at h
   have key:∀(L:List Nat) (s:Nat),(∀c,c∈L->ka p a c)->(L.foldl (fun (s:Nat) (b:Nat)=>hgF p n b s) s).testBit b=true->s.testBit b=true∨Reach p a b:=by
    intro L
    induction L with
    |nil=>intro s _ h;exact .inl h
    |cons c L ih=>
     intro s hL h
     rw[List.foldl_cons] at h
     rcases ih _ (fun d hd=>hL d (List.mem_cons_of_mem _ hd)) h with h|h
     ·rcases sA n c s b h with h|h
      ·exact .inl h
      ·exact .inr (.step (hL c List.mem_cons_self) h)
     ·exact .inr h
   rcases key _ _ (fun c hc=>oE.1 hc) h with h|h
   ·rw[gT,Bool.or_eq_true,decide_eq_true_eq] at h
    rcases h with h|h
    ·exact .inl h
    ·subst h;exact .inr (.refl _)
   ·exact .inr h
theorem dj {p:Prg}(hr:∀r,r∈p.rules.l->aE r){a b:Nat}(ha:a<24):(hgP p a).testBit b=true↔Reach p a b:=by
 have hc:=sz hr 25 a 0 ha dcd omg
 constructor
 ·intro h
  rcases sA 25 a 0 b h with h|h
  ·simp at h
  ·exact h
 ·have key:∀x y,Reach p x y->(hgP p a).testBit x=true->(hgP p a).testBit y=true:=by
   intro x y h
   induction h with
   |refl=>exact fun h=>h
   |step h _ ih=>exact fun hx=>ih (hc.2 _ hx (by simp) _ h)
  exact fun h=>key a b h hc.1
theorem sB {p:Prg}(hl:∀r,r∈p.rules.l->∀l,l∈r.body.l->0<=l.atom/\l.atom<p.atoms){a b:Nat}(h:Reach p a b):a=b∨(b:Int)<p.atoms:=by
 induction h with
 |refl=>exact .inl rfl
 |step h k ih=>
  obtain⟨r,h1,_,l,h3,rfl⟩:=h
  have:=hl r h1 l h3
  rcases ih with rfl|h
  ·exact .inr omg
  ·exact .inr h
def dH (s t:Nat):Nat:=(BitVec.ofNat 64 s &&& ~~~ BitVec.ofNat 64 t).toNat
theorem kb {s t:Nat}(hs:s<2^24)(j:Nat):(dH s t).testBit j=(s.testBit j && !t.testBit j):=by
 unfold dH
 rw[BitVec.testBit_toNat,BitVec.getLsbD_and,BitVec.getLsbD_not,BitVec.getLsbD_ofNat,BitVec.getLsbD_ofNat]
 by_cases hj:j<64
 ·simp only[hj,decide_true,Bool.true_and]
 ·rw[Nat.testBit_lt_two_pow (x:=s) (Nat.lt_of_lt_of_le (bG hs) (Nat.pow_le_pow_right dcd omg))]
  simp[hj]
theorem sC {s t:Nat}:dH s t<=s:=by
 unfold dH
 rw[BitVec.toNat_and]
 refine Nat.le_trans Nat.and_le_left ?_
 rw[BitVec.toNat_ofNat]
 exact Nat.mod_le _ _
theorem oG {s t:Nat}(hs:s<2^24):IntKind.u64.wrap ((BitVec.ofInt 64 (s:Int) &&& ~~~ BitVec.ofInt 64 (t:Int)).toNat:Int)=((dH s t:Nat):Int):=by
 rw[BitVec.ofInt_natCast,BitVec.ofInt_natCast]
 exact Tb.wrapU (bG (Nat.lt_of_le_of_lt (sC (t:=t)) hs))
theorem yE {s:Nat}:s=0↔∀j,s.testBit j=false:=by
 constructor
 ·rintro rfl j;simp
 ·intro h
  exact Nat.eq_of_testBit_eq (fun j=>by rw[h j];simp)
theorem sD {p:Prg}{a j:Nat}:∀{l:List Nat} {s:Nat},(l.foldl (fun (s:Nat) (b:Nat)=>if (hgP p b).testBit a then s|||2^b else s) s).testBit j=(s.testBit j||l.any (fun b=>b==j&&(hgP p b).testBit a))
 |[],s=>by simp
 |b::l,s=>by
  rw[List.foldl_cons,sD,List.any_cons]
  cases hb:(hgP p b).testBit a with
  |true=>
   rw[if_pos rfl,gT,Bool.and_true,Bool.or_assoc]
   congr 2
  |false=>
   rw[if_neg dcd,Bool.and_false,Bool.false_or]
theorem oH {p:Prg}(hr:∀r,r∈p.rules.l->aE r){a j:Nat}(ha:a<24):(ay p a).testBit j=true↔Reach p a j/\Reach p j a/\j<24:=by
 unfold ay
 rw[sD]
 simp only[Nat.zero_testBit,Bool.false_or,List.any_eq_true,Bool.and_eq_true,beq_iff_eq]
 constructor
 ·rintro ⟨b,h1,rfl,h2⟩
  obtain⟨m1,m2⟩:=Tb.mem_memN.1 h1
  exact⟨(dj hr ha).1 m2,(dj hr m1).1 h2,m1⟩
 ·rintro ⟨h1,h2,h3⟩
  exact⟨j,Tb.mem_memN.2 ⟨h3,(dj hr ha).2 h1⟩,rfl,(dj hr h3).2 h2⟩
def eL (p:Prg)(left a:Nat):Bool:=dH (hgP p a&&&left) (ay p a)==0
theorem yF {p:Prg}(hr:∀r,r∈p.rules.l->aE r){left a:Nat}(hl:left<2^24)(ha:a<24):eL p left a=true↔∀b,Reach p a b->left.testBit b=true->Reach p b a:=by
 unfold eL
 have hlt:hgP p a&&&left<2^24:=Nat.lt_of_le_of_lt Nat.and_le_right hl
 rw[beq_iff_eq,yE]
 constructor
 ·intro h b hb hbl
  have hb24:=gf hl hbl
  have:=h b
  rw[kb hlt,Nat.testBit_and,(dj hr ha).2 hb,hbl] at this
  have h2:(ay p a).testBit b=true:=by simpa using this
  exact((oH hr ha).1 h2).2.1
 ·intro h j
  rw[kb hlt,Nat.testBit_and]
  cases h1:(hgP p a).testBit j with
  |false=>rfl
  |true=>
   cases h2:left.testBit j with
   |false=>rfl
   |true=>
    have h3:=(dj hr ha).1 h1
    rw[(oH hr ha).2 ⟨h3,h j h3 h2,gf hl h2⟩]
    rfl
theorem yG {p:Prg}(hr:∀r,r∈p.rules.l->aE r){left:Nat}(hl:left<2^24)(h0:left≠0):∃a,a∈ak left/\eL p left a=true:=by
 have key:∀(n a:Nat),a∈ak left->(ak (hgP p a&&&left)).length<=n->∃a,a∈ak left/\eL p left a=true:=by
  intro n
  induction n with
  |zero=>
   intro a ha h
   obtain⟨m1,m2⟩:=Tb.mem_memN.1 ha
   have:a∈ak (hgP p a&&&left):=Tb.mem_memN.2 ⟨m1,by rw[Nat.testBit_and,(dj hr m1).2 (.refl a),m2];rfl⟩
   rw[List.length_eq_zero_iff.1 (Nat.le_zero.1 h)] at this
   cases this
  |succ n ih=>
   intro a ha h
   obtain⟨m1,m2⟩:=Tb.mem_memN.1 ha
   by_cases hok:eL p left a=true
   ·exact⟨a,ha,hok⟩
   ·have hne:¬∀b,Reach p a b->left.testBit b=true->Reach p b a:=fun h=>hok ((yF hr hl m1).2 h)
    obtain⟨b,hb⟩:=Classical.not_forall.1 hne
    obtain⟨hb1,hb2⟩:=Classical.not_imp.1 hb
    obtain⟨hb2,hb3⟩:=Classical.not_imp.1 hb2
    have hb24:=gf hl hb2
    refine ih b (Tb.mem_memN.2 ⟨hb24,hb2⟩) ?_
    have:(ak (hgP p b&&&left)).length<(ak (hgP p a&&&left)).length:=by
     refine j4 (fun j _ hj=>?_) ⟨a,List.mem_range.2 m1,?_,?_⟩
     ·rw[Nat.testBit_and,Bool.and_eq_true] at hj ⊢
      exact⟨(dj hr m1).2 (hb1.trans ((dj hr hb24).1 hj.1)),hj.2⟩
     ·rw[Nat.testBit_and,(dj hr m1).2 (.refl a),m2];rfl
     ·rw[Nat.testBit_and]
      cases hx:(hgP p b).testBit a with
      |false=>rfl
      |true=>exact absurd ((dj hr hb24).1 hx) hb3
    omega
 obtain⟨k,m,h⟩:=Tb.low_of (show 0<left by omega)
 have hk:left.testBit k=true:=by rw[Tb.low_bit h];simp
 exact key _ k (Tb.mem_memN.2 ⟨gf hl hk,hk⟩) (Nat.le_refl _)
def iP (p:Prg)(left:Nat):Nat:=(ak left).findIdx (eL p left)
def dR (p:Prg)(left:Nat):Nat:=(ak left).getD (iP p left) 0
def kc (p:Prg):Nat->Nat->List Nat
 |0,_=>[]
 |n+1,left=>if left=0 then[] else ay p (dR p left)::kc p n (dH left (ay p (dR p left)))
def cA (p:Prg):List Nat:=kc p 25 (2^p.atoms.toNat-1)
theorem sE {p:Prg}(hr:∀r,r∈p.rules.l->aE r){left:Nat}(hl:left<2^24)(h0:left≠0):iP p left<(ak left).length/\eL p left (dR p left)=true/\(∀j,j<iP p left->eL p left ((ak left).getD j 0)=false)/\dR p left∈ak left:=by
 obtain⟨a,h1,h2⟩:=yG hr hl h0
 have hk:iP p left<(ak left).length:=List.findIdx_lt_length_of_exists ⟨a,h1,h2⟩
 have e:dR p left=(ak left)[iP p left]:=by
  unfold dR
  rw[List.getD_eq_getElem?_getD,List.getElem?_eq_getElem hk]
  rfl
 refine⟨hk,by rw[e];exact List.findIdx_getElem (w:=hk),fun j hj=>?_,by rw[e];exact List.getElem_mem hk⟩
 have:=List.not_of_lt_findIdx (p:=eL p left) (xs:=ak left) hj
 rw[List.getD_eq_getElem?_getD,List.getElem?_eq_getElem omg]
 simpa using this
theorem yH {p:Prg}(hr:∀r,r∈p.rules.l->aE r){left:Nat}(hl:left<2^24)(h0:left≠0):(ak (dH left (ay p (dR p left)))).length<(ak left).length:=by
 obtain⟨_,h2,_,h4⟩:=sE hr hl h0
 obtain⟨m1,m2⟩:=Tb.mem_memN.1 h4
 refine j4 (fun j _ hj=>?_) ⟨dR p left,List.mem_range.2 m1,m2,?_⟩
 ·rw[kb hl,Bool.and_eq_true] at hj
  exact hj.1
 ·rw[kb hl,(oH hr m1).2 ⟨.refl _,.refl _,m1⟩]
  simp
theorem sF (R:Res)(on:Nat)(a:Int)(hon:on<2^24)(ha:0<=a/\a<24)(g:R.σ):Does Tryd.prog R 73 [.int .i64 a,.ref 0 0] [cO 1 (fun _=>.int .u64 on)] g (.ret (.bool (!on.testBit a.toNat))) [cO 1 (fun _=>.int .u64 on)] g:=by
 refine spW (nt:=8) (rs:=[.tmp 3]) (k0:=1) ?_
 refine vcR [] (lkL [(0,[0,1]),(1,[3])]) (lkL [(1,[(2,ROrc.pcall (AV.bool (Nat.testBit on (Int.toNat a))))])]) (fun Q=>1<=1/\(∀(hp:List AObj) (g:R.σ),true=true/\Does Tryd.prog R 71 [int u64 (↑on:Int),i6 a] hp g (ret (AV.bool (Nat.testBit on (Int.toNat a)))) hp g)/\Q AEx.ret (St.mk [(3,AV.bool !Nat.testBit on (Int.toNat a))] [cO 1 fun x=>int u64 (↑on:Int)] g)) ⟨omg,(fun _ _=>⟨rfl,(nX _ _ _ omg omg _ _)⟩),?_⟩
 refine(av (aX _ _ rfl trivial rfl rfl rfl) (AM _))
def cr (on:Nat)(a:Int):Bool:= !on.testBit a.toNat
theorem yI {U:Type}(q:U->Bool)(x:U)(r:List U)(i:Nat):aC q (x::r) i=if q x then(i:Int) else aC q r (i+1):=rfl
theorem sG (R:Res)(l:List Int)(on:Nat)(hon:on<2^24)(hl:l.length<1000000)(ha:∀a,a∈l->0<=a/\a<24)(g:R.σ):Does Tryd.prog R 103 [.ow true 0 l.length 1,.fn 73 0 (nth []) 1 (nth [.ref 1 0])] [cO (l.length*1) (af l),cO 1 (fun _=>.int .u64 on)] g (.ret (.int .i64 (aC (cr on) l 0))) [cO (l.length*1) (af l),cO 1 (fun _=>.int .u64 on)] g:=by
 refine spW (nt:=19) (rs:=[.tmp 4]) (k0:=2) ?_
 refine vcR [] (lkL [(0,[0,1]),(1,[0,1,7,8])]) (fun _=>[]) (fun (Q:AEx->St R.σ->Prop)=>WpC Tryd.prog R 19 2 103 [1,0,1,0] Q [Kont.blk 0,Kont.seq [1,1]] (St.mk [(0,ow true 0 (List.length l) 1),(1,fn 73 0 (nth []) 1 (nth [ref 1 0])),(7,i6 (↑(List.length l):Int)),(8,i6 0)] [cO (List.length l*1) fun (a:Nat)=>af l a,cO 1 fun (x:Nat)=>int u64 (↑on:Int)] g)) (?_)
 refine(bi krf (fun (i:Nat)=>⟨[(0,ow true 0 (l.length) 1),(1,fn 73 0 (nth []) 1 (nth [ref 1 0])),(7,i6 (l.length:Int)),(8,.int .i64 (i:Int))],[cO (l.length*1) fun (a:Nat)=>af l a,cO 1 fun (x:Nat)=>int u64 (on:Int)],g⟩) (fun (i:Nat)=>(i<=l.length/\aC (cr on) l 0=aC (cr on) (l.drop i) i)) (fun (i:Nat)=>(l.length-i)) 0 (aY ⟨AM _,AM _,AM _,(AN krf),trivial⟩ rfl rfl) ?_ (fun i hi=>?_))
 ·exact⟨Nat.zero_le _,rfl⟩
 ·obtain⟨h1,h2⟩:=hi
  rcases Nat.lt_or_ge i l.length with hlt|hge
  ·have hat:=ha _ (bx l 0 hlt)
   have hd:=eG l 0 hlt
   rw[hd,yI] at h2
   refine vcR [] (lkL [(2,[0,1,7,8,9]),(3,[0,1,5,7,8]),(4,[0,1,5,7,8,16]),(5,[4]),(6,[0,1,7,8])]) (lkL [(4,[(5,ROrc.kcall (AV.bool !Nat.testBit on (Int.toNat (List.getD l i 0))))])]) (fun Q=>(fun (u1:List AObj)=>(fun (u2:Int)=>(fun (u3:Int)=>(fun (u4:Bool)=>(decide (u3<u2)=true->(0<=u3/\u3<u2)/\i+1<=List.length l*1/\(true=true/\Does Tryd.prog R 73 [af l i,ref 1 0] u1 g (ret (AV.bool u4)) u1 g)/\(u4=true->Q AEx.ret (St.mk [(4,i6 u3)] u1 g))/\(u4=false->(-9223372036854775808<=u3+1/\u3+1<=9223372036854775807)/\Q AEx.normal (St.mk [(0,ow true 0 (List.length l) 1),(1,fn 73 0 (nth []) 1 (nth [ref 1 0])),(7,i6 u2),(8,i6 (u3+1))] u1 g)))/\(decide (u3<u2)=false->Q (AEx.exit 0) (St.mk [(0,ow true 0 (List.length l) 1),(1,fn 73 0 (nth []) 1 (nth [ref 1 0])),(7,i6 u2),(8,i6 u3),(9,AV.bool (decide (u3<u2)))] u1 g))) (!Nat.testBit on (Int.toNat (List.getD l i 0)))) ((↑i:Int))) ((↑(List.length l):Int))) ([cO (List.length l*1) fun a=>af l a,cO 1 fun x=>int u64 (↑on:Int)])) ⟨fun c1=>have c1:(↑i:Int)<(↑(List.length l):Int):=(of_decide_eq_true c1);⟨omg,omg,⟨rfl,(doS [1] 2 (fun R g=>sF R (on) (List.getD l i 0) omg omg g))⟩,fun c2=>have c2:Nat.testBit on (Int.toNat (List.getD l i 0))=false:=((Bool.not_eq_true' _).mp c2);?_,fun c2=>have c2:Nat.testBit on (Int.toNat (List.getD l i 0))=true:=((Bool.not_eq_false' _).mp c2);⟨omg,?_⟩⟩,fun c1=>have c1:¬(↑i:Int)<(↑(List.length l):Int):=(of_decide_eq_false c1);?_⟩
   ·have hq:cr on (l.getD i 0)=true:=by unfold cr;rw[c2];rfl
    rw[if_pos hq] at h2
    rw[h2]
    refine⟨_,A0 _,(av (aX _ _ rfl trivial rfl rfl rfl) (AM _))⟩
   ·have hq:cr on (l.getD i 0)=false:=by unfold cr;rw[c2];rfl
    rw[if_neg (by rw[hq];decide)] at h2
    refine(aW (i+1) (aY ⟨AM _,AM _,AM _,(AN krf),trivial⟩ rfl rfl) ?_ ?_)
    ·exact⟨omg,h2⟩
    ·omega
   ·exfalso;omega
  ·have hie:i=l.length:=by omega
   subst hie
   rw[List.drop_length] at h2
   have hb:decide ((l.length:Int)<(l.length:Int))=false:=decide_eq_false omg
   refine vcR [[1,0,1,0,0,1,0,0]] (lkL [(2,[0,1,7,8,9])]) (fun _=>[]) (fun Q=>(fun (u1:Int)=>(fun (u2:St R.σ)=>(decide (u1<u1)=true->WpC Tryd.prog R 19 2 103 [1,0,1,0,0,1,0,0] Q [Kont.seq [1,0,1,0,0,1,1]] u2)/\(decide (u1<u1)=false->Q (AEx.exit 0) u2)) (St.mk [(0,ow true 0 (List.length l) 1),(1,fn 73 0 (nth []) 1 (nth [ref 1 0])),(7,i6 u1),(8,i6 u1),(9,AV.bool (decide (u1<u1)))] [cO (List.length l*1) fun a=>af l a,cO 1 fun x=>int u64 (↑on:Int)] g)) ((↑(List.length l):Int))) ⟨fun hcc=>(nomatch (hb.symm.trans hcc)),fun _=>?_⟩
   refine⟨_,A0 _,vcR [] (lkL [(7,[4])]) (fun _=>[]) (fun (Q:AEx->St R.σ->Prop)=>Q AEx.ret (St.mk [(4,i6 (-1))] [cO (List.length l*1) fun (a:Nat)=>af l a,cO 1 fun (x:Nat)=>int u64 (↑on:Int)] g)) (?_)⟩
   rw[h2]
   refine(av (aX _ _ rfl trivial rfl rfl rfl) (AN krf))
def cm (on:Nat)(l:List Int)(j:Nat):List Int:=(l.take j).filter (fun a=>on.testBit a.toNat)
def ct (on:Nat)(l:List Int)(j:Nat):Nat->AV:=fun c=>if c<(cm on l j).length then .int .i64 ((cm on l j).getD c 0) else if j<=c then .int .i64 (l.getD c 0) else .any
theorem ro {k:Nat}(on:Nat)(l:List Int)(j c:Nat):Below k (ct on l j c):=by
 unfold ct
 split
 ·trivial
 ·split <;> trivial
theorem rC {f:Nat->Nat}(h:True){on:Nat}{l:List Int}{j c:Nat}:aI f (ct on l j c)=ct on l j c:=by
 unfold ct
 split
 ·rfl
 ·split <;> rfl
theorem sH {on:Nat}{l:List Int}{j:Nat}(h:j<l.length):cm on l (j+1)=if on.testBit (l.getD j 0).toNat then cm on l j++[l.getD j 0] else cm on l j:=by
 unfold cm
 rw[List.take_add_one,List.filter_append,List.getElem?_eq_getElem h,List.getD_eq_getElem?_getD,List.getElem?_eq_getElem h]
 cases hb:on.testBit l[j].toNat <;> simp[hb]
def aO (on:Nat)(l:List Int):List Int:=l.filter (fun a=>on.testBit a.toNat)
theorem yJ {on:Nat}{l:List Int}{k:Nat}(hk:k<=l.length)(h:∀j,j<k->cr on (l.getD j 0)=false):cm on l k=l.take k:=by
 unfold cm
 rw[List.filter_eq_self]
 intro a ha
 obtain⟨j,hj,e⟩:=List.mem_iff_getElem.1 ha
 rw[List.length_take] at hj
 have:=h j omg
 rw[List.getD_eq_getElem?_getD,List.getElem?_eq_getElem omg] at this
 unfold cr at this
 rw[List.getElem_take] at e
 rw[<-e]
 simpa using this
theorem yK (R:Res)(l:List Int)(on:Nat)(hon:on<2^24)(hl:0<l.length/\l.length<1000000)(ha:∀a,a∈l->0<=a/\a<24)(g:R.σ):Does Tryd.prog R 72 [.ow true 0 l.length 1,.fn 73 0 (nth []) 1 (nth [.ref 1 0])] [cO (l.length*1) (af l),cO 1 (fun _=>.int .u64 on)] g (.ret (.sl 0 0 (aO on l).length l.length false 1)) [cO ((aO on l).length*1) (af (aO on l)),cO 1 (fun _=>.int .u64 on)] g:=by
 by_cases h0:0<=aC (cr on) l 0
 ·obtain⟨k,k1,k2,k3,k4⟩:=gk (cr on) 0 l 0 h0
  rw[Nat.zero_add] at k2
  have hkp:=yJ omg k4
  refine spW (nt:=42) (rs:=[.tmp 4]) (k0:=2) ?_
  have hk1:cm on l (k+1)=l.take k:=by
   rw[sH k1,hkp,if_neg (by unfold cr at k3;simpa using k3)]
  have hkl:(cm on l (k+1)).length=k:=by rw[hk1,List.length_take];omega
  refine vcR [] (lkL [(0,[0,1]),(1,[0,1,5]),(2,[0,1,5,12]),(3,[4]),(4,[0,1,5,6])]) (lkL [(1,[(2,ROrc.kcall (i6 (aC (cr on) l 0)))])]) (fun Q=>(fun (u1:List AObj)=>(fun (u2:Int)=>(fun (u3:AV)=>(true=true/\Does Tryd.prog R 103 [u3,fn 73 0 (nth []) 1 (nth [ref 1 0])] u1 g (ret (i6 u2)) u1 g)/\((u2 == -1)=true->Q AEx.ret (St.mk [(4,u3)] u1 g))/\((u2 == -1)=false->(-9223372036854775808<=u2+1/\u2+1<=9223372036854775807)/\WpC Tryd.prog R 42 2 72 [1,1,1,0,1,0] Q [Kont.blk 0,Kont.seq [1,1,1,1]] (St.mk [(0,u3),(1,fn 73 0 (nth []) 1 (nth [ref 1 0])),(5,i6 u2),(6,i6 (u2+1))] u1 g))) (ow true 0 (List.length l) 1)) (aC (cr on) l 0)) ([cO (List.length l*1) fun a=>af l a,cO 1 fun x=>int u64 (↑on:Int)])) ⟨⟨rfl,(sG _ _ _ omg omg omg _)⟩,fun c1=>have c1:aC (cr on) l 0 = -1:=(beq_iff_eq.mp c1);?_,fun c1=>have c1:¬aC (cr on) l 0 = -1:=(beq_eq_false_iff_ne.mp c1);⟨omg,?_⟩⟩
  ·exact absurd c1 omg
  ·rw[k2]
   refine(bi krf (fun (x:Nat)=>⟨[(0,ow true 0 (l.length) 1),(1,fn 73 0 (nth []) 1 (nth [ref 1 0])),(5,.int .i64 (cm on l x).length),(6,.int .i64 x)],[cO (l.length*1) (ct on l x),cO 1 (fun _=>.int .u64 on)],g⟩) (fun (x:Nat)=>(x<=l.length/\(cm on l x).length<x)) (fun (x:Nat)=>(l.length-x)) (k+1) (toL (h1:=⟨AM _,AM _,(AN ?_),(AN krf),trivial⟩) (h2:=⟨?_,AO,trivial⟩)) ?_ (fun x hi=>?_))
   ·show AV.int .i64 _=AV.int .i64 _
    rw[hkl]
   ·refine⟨rfl,Nat.le_refl _,fun c hc=>?_⟩
    show Le (af l c) (ct on l (k+1) c)
    unfold ct
    rw[hkl]
    split
    ·refine AN ?_
     show AV.int .i64 _=AV.int .i64 _
     rw[hk1,List.getD_eq_getElem?_getD,List.getD_eq_getElem?_getD,List.getElem?_take,if_pos omg]
    ·split
     ·exact AM _
     ·exact Le.any _
   ·exact⟨omg,omg⟩
   ·obtain⟨h1,h2⟩:=hi
    rcases Nat.lt_or_ge x l.length with hlt|hge
    ·have hat:=ha _ (bx l 0 hlt)
     have hks:=sH (on:=on) hlt
     have hdx:ct on l x x=.int .i64 (l.getD x 0):=by
      unfold ct
      rw[if_neg omg,if_pos (Nat.le_refl _)]
     refine vcR [] (lkL [(5,[0,1,5,6,19]),(7,[0,1,5,6,7]),(8,[0,1,5,6,7,29]),(9,[0,1,5,6]),(10,[0,1,5,6]),(6,[0,1,5,6])]) (lkL [(7,[(3,ROrc.kop (i6 (List.getD l x 0)))]),(8,[(2,ROrc.kcall (AV.bool !Nat.testBit on (Int.toNat (List.getD l x 0))))])]) (fun Q=>(fun (u1:List AObj)=>(fun (u2:Int)=>(fun (u3:Int)=>(fun (u4:Int)=>(fun (u5:List (Nat × AV))=>(fun (u6:Bool)=>(fun (u7:AV)=>(decide (u4<u3)=true->(0<=u4/\u4<u3)/\OpOk Tryd.prog R (Oper.mk (some 25) (Op.load 3 (Operand.tmp 24)) 3 "slices.go:248" #[Edge.mk 2 Ground.data] none) (evO [Row.mk (some 24) none (ref 0 x) false (some []) [],Row.mk (some 23) none (i6 u4) false (some []) [],Row.mk (some 22) none u7 false (some []) []] u5 []) u1 g (af l x) u1 g/\(true=true/\Does Tryd.prog R 73 [af l x,ref 1 0] u1 g (ret (AV.bool u6)) u1 g)/\((!u6)=true->(0<=u2/\u2<u3)/\List.length (cm on l x)+1<=List.length l*1/\(-9223372036854775808<=u2+1/\u2+1<=9223372036854775807)/\(-9223372036854775808<=u4+1/\u4+1<=9223372036854775807)/\Q AEx.normal (St.mk [(0,u7),(1,fn 73 0 (nth []) 1 (nth [ref 1 0])),(5,i6 (u2+1)),(6,i6 (u4+1))] [cO (List.length l*1) (ao (ct on l x) (List.length (cm on l x)) 1 fun x_3=>af l x),cO 1 fun x=>int u64 (↑on:Int)] g))/\((!u6)=false->(-9223372036854775808<=u4+1/\u4+1<=9223372036854775807)/\Q AEx.normal (St.mk [(0,u7),(1,fn 73 0 (nth []) 1 (nth [ref 1 0])),(5,i6 u2),(6,i6 (u4+1))] u1 g)))/\(decide (u4<u3)=false->Q (AEx.exit 0) (St.mk u5 u1 g))) (ow true 0 (List.length l) 1)) (!Nat.testBit on (Int.toNat (List.getD l x 0)))) ([(0,ow true 0 (List.length l) 1),(1,fn 73 0 (nth []) 1 (nth [ref 1 0])),(5,i6 u2),(6,i6 u4),(19,AV.bool (decide (u4<u3)))])) ((↑x:Int))) ((↑(List.length l):Int))) ((↑(List.length (cm on l x)):Int))) ([cO (List.length l*1) (ct on l x),cO 1 fun x=>int u64 (↑on:Int)])) ⟨fun c1=>have c1:(↑x:Int)<(↑(List.length l):Int):=(of_decide_eq_true c1);⟨omg,?_,⟨rfl,(doS [1] 2 (fun R g=>sF R (on) (List.getD l x 0) omg omg g))⟩,fun c2=>have c2:Nat.testBit on (Int.toNat (List.getD l x 0))=true:=((Bool.not_eq_false' _).mp ((Bool.not_eq_true' _).mp c2));⟨omg,omg,omg,omg,?_⟩,fun c2=>have c2:Nat.testBit on (Int.toNat (List.getD l x 0))=false:=((Bool.not_eq_true' _).mp ((Bool.not_eq_false' _).mp c2));⟨omg,?_⟩⟩,fun c1=>have c1:¬(↑x:Int)<(↑(List.length l):Int):=(of_decide_eq_false c1);?_⟩
     ·exact dY rfl rfl krf rfl (by show _+1<=_;omega) hdx
     ·rw[if_pos c2] at hks
      refine(aW (x+1) (toL (h1:=⟨AM _,AM _,(AN ?_),(AN krf),trivial⟩) (h2:=⟨?_,AO,trivial⟩)) ?_ ?_)
      ·show AV.int .i64 _=AV.int .i64 _
       rw[hks,List.length_append]
       rfl
      ·refine⟨rfl,Nat.le_refl _,fun c hc=>?_⟩
       rw[eD]
       unfold ct
       rw[hks,List.length_append,List.length_singleton]
       rcases Nat.lt_trichotomy c (cm on l x).length with h|h|h
       ·rw[if_neg omg,if_pos h,if_pos omg,List.getD_eq_getElem?_getD,List.getD_eq_getElem?_getD,List.getElem?_append_left h]
        exact AM _
       ·subst h
        rw[if_pos omg,if_pos omg,List.getD_eq_getElem?_getD,List.getElem?_append_right (Nat.le_refl _),Nat.sub_self]
        exact AM _
       ·rw[if_neg (show ¬((cm on l x).length<=c/\c<(cm on l x).length+1) by omega),if_neg (show ¬c<(cm on l x).length by omega),if_neg (show ¬c<(cm on l x).length+1 by omega)]
        by_cases h3:x+1<=c
        ·rw[if_pos (show x<=c by omega),if_pos h3];exact AM _
        ·rw[if_neg h3];exact Le.any _
      ·refine⟨omg,?_⟩
       rw[hks,List.length_append,List.length_singleton]
       omega
      ·omega
     ·rw[if_neg (by rw[c2];decide)] at hks
      refine(aW (x+1) (toL (h1:=⟨AM _,AM _,(AN ?_),(AN krf),trivial⟩) (h2:=⟨?_,AO,trivial⟩)) ?_ ?_)
      ·show AV.int .i64 _=AV.int .i64 _
       rw[hks]
      ·refine⟨rfl,Nat.le_refl _,fun c hc=>?_⟩
       unfold ct
       rw[hks]
       by_cases h:c<(cm on l x).length
       ·rw[if_pos h,if_pos h];exact AM _
       ·rw[if_neg h,if_neg h]
        by_cases h3:x+1<=c
        ·rw[if_pos omg,if_pos h3];exact AM _
        ·rw[if_neg h3];exact Le.any _
      ·refine⟨omg,?_⟩
       rw[hks]
       omega
      ·omega
     ·exfalso;omega
    ·have hxe:x=l.length:=by omega
     subst hxe
     have hkk:cm on l l.length=aO on l:=by unfold cm aO;rw[List.take_length]
     rw[hkk] at h2 ⊢
     have hb:decide ((l.length:Int)<(l.length:Int))=false:=decide_eq_false omg
     refine vcR [[1,1,1,0,1,0,0,0,1,0]] (lkL [(5,[0,1,5,6,19])]) (fun _=>[]) (fun Q=>(fun (u1:Int)=>(fun (u2:St R.σ)=>(decide (u1<u1)=true->WpC Tryd.prog R 42 2 72 [1,1,1,0,1,0,0,0,1,0] Q [Kont.seq [1,1,1,0,1,0,0,1]] u2)/\(decide (u1<u1)=false->Q (AEx.exit 0) u2)) (St.mk [(0,ow true 0 (List.length l) 1),(1,fn 73 0 (nth []) 1 (nth [ref 1 0])),(5,i6 (↑(List.length (aO on l)):Int)),(6,i6 u1),(19,AV.bool (decide (u1<u1)))] [cO (List.length l*1) (ct on l (List.length l)),cO 1 fun x=>int u64 (↑on:Int)] g)) ((↑(List.length l):Int))) ⟨fun hcc=>(nomatch (hb.symm.trans hcc)),fun _=>?_⟩
     refine⟨_,A0 _,vcR [] (lkL [(11,[0,5]),(12,[4])]) (lkL [(11,[(3,ROrc.own any [cO (List.length (aO on l)*1) (ct on l (List.length l)),cO 1 fun (x:Nat)=>int u64 (↑on:Int)] g)])]) (fun Q=>(fun (u1:Nat)=>(fun (u2:Int)=>(fun (u3:AObj)=>(fun (u4:Int)=>List.length l<=List.length l/\(0<=u4/\u4<=u2)/\u1<List.length l/\OpOk Tryd.prog R (Oper.mk none (Op.call (Call.mk (Callee.builtin Builtin.clear) #[Operand.tmp 38] #[53])) 0 "slices.go:253" #[Edge.mk 2 Ground.data] none) (evO [Row.mk (some 38) none (sl 0 (u1*1) (List.length l-u1) (List.length l-u1) false 1) false (some []) [],Row.mk (some 37) none (i6 u4) false (some []) [],Row.mk (some 36) none (ow true 0 (List.length l) 1) false (some []) []] [(0,ow true 0 (List.length l) 1),(1,fn 73 0 (nth []) 1 (nth [ref 1 0])),(5,i6 u4),(6,i6 u2),(19,AV.bool (decide (u2<u2)))] []) [cO (List.length l*1) (ct on l (List.length l)),u3] g any [cO (u1*1) (ct on l (List.length l)),u3] g/\(0<=u4/\u4<=u2)/\0<List.length l/\Q AEx.ret (St.mk [(4,sl 0 0 (u1-0) (List.length l-0) false 1)] [cO (u1*1) (ct on l (List.length l)),u3] g)) ((↑u1:Int))) (cO 1 fun x=>int u64 (↑on:Int))) ((↑(List.length l):Int))) (List.length (aO on l))) ⟨omg,omg,omg,?_,omg,omg,?_⟩⟩
     ·obtain⟨ei,hei⟩:=vS (ty:=aA Tryd.prog) (t:=53) (es:=1) krf
      refine rU (vR (t:=53) (es:=1) (N:=l.length*1) (len:=l.length-(aO on l).length) (get0:=ct on l l.length) rfl rfl rfl rfl rfl rfl hei omg (Nat.le_refl _) dcd omg) rfl
     ·show bK Tryd.prog R 2 _ _ _ _ .ret _
      refine fA (.sl 0 0 ((aO on l).length-0) (l.length-0) false 1) _ rfl trivial (toL (h2:=⟨⟨rfl,Nat.le_refl _,fun c hc=>AN ?_⟩,AP _,trivial⟩))
      show ct on l l.length c=af (aO on l) c
      unfold ct
      rw[hkk,if_pos omg]
      rfl
 ·have hm:=lT (cr on) l 0 h0
  have hk:aO on l=l:=by
   unfold aO
   rw[List.filter_eq_self]
   intro a ha
   have:=hm.2 a ha
   unfold cr at this
   simpa using this
  rw[hk]
  refine spW (nt:=42) (rs:=[.tmp 4]) (k0:=2) ?_
  refine vcR [] (lkL [(0,[0,1]),(1,[0,1,5]),(2,[0,1,5,12]),(3,[4]),(4,[0,1,5,6])]) (lkL [(1,[(2,ROrc.kcall (i6 (aC (cr on) l 0)))])]) (fun Q=>(fun (u1:List AObj)=>(fun (u2:Int)=>(fun (u3:AV)=>(true=true/\Does Tryd.prog R 103 [u3,fn 73 0 (nth []) 1 (nth [ref 1 0])] u1 g (ret (i6 u2)) u1 g)/\((u2 == -1)=true->Q AEx.ret (St.mk [(4,u3)] u1 g))/\((u2 == -1)=false->(-9223372036854775808<=u2+1/\u2+1<=9223372036854775807)/\WpC Tryd.prog R 42 2 72 [1,1,1,0,1,0] Q [Kont.blk 0,Kont.seq [1,1,1,1]] (St.mk [(0,u3),(1,fn 73 0 (nth []) 1 (nth [ref 1 0])),(5,i6 u2),(6,i6 (u2+1))] u1 g))) (ow true 0 (List.length l) 1)) (aC (cr on) l 0)) ([cO (List.length l*1) fun a=>af l a,cO 1 fun x=>int u64 (↑on:Int)])) ⟨⟨rfl,(sG _ _ _ omg omg omg _)⟩,fun c1=>have c1:aC (cr on) l 0 = -1:=(beq_iff_eq.mp c1);?_,fun c1=>have c1:¬aC (cr on) l 0 = -1:=(beq_eq_false_iff_ne.mp c1);⟨omg,?_⟩⟩
  ·refine fA (.ow true 0 l.length 1) _ rfl trivial (toL (h1:=⟨Le.ow_sl omg,trivial⟩) (h2:=⟨AP _,AP _,trivial⟩))
  ·exact absurd hm.1 c1
def aF (on:Nat)(l:List Rule):List Rule:=l.filter (fun r=>on.testBit r.head.toNat)
def aT (on:Nat):List Rule->Nat->List Int
 |[],_=>[]
 |r::l,i=>if on.testBit r.head.toNat then(i:Int)::aT on l (i+1) else aT on l (i+1)
theorem sI (on:Nat):∀(l:List Rule) (i:Nat),(aT on l i).length=(aF on l).length
 |[],_=>rfl
 |r::l,i=>by
  unfold aT aF
  rw[List.filter_cons]
  have ih:=sI on l (i+1)
  unfold aF at ih
  split <;> simp[ih]
theorem sJ (on:Nat):∀(l l':List Rule) (i:Nat),aT on (l++l') i=aT on l i++aT on l' (i+l.length)
 |[],l',i=>rfl
 |r::l,l',i=>by
  show(if on.testBit r.head.toNat then(i:Int)::aT on (l++l') (i+1) else aT on (l++l') (i+1))=(if on.testBit r.head.toNat then(i:Int)::aT on l (i+1) else aT on l (i+1))++_
  rw[sJ on l l' (i+1),show i+1+l.length=i+(r::l).length by simp;omega]
  split <;> rfl
theorem yL {on:Nat}{l:List Rule}{i:Nat}(h:i<l.length):aF on (l.take (i+1))=if on.testBit (l.getD i default).head.toNat then aF on (l.take i)++[l.getD i default] else aF on (l.take i):=by
 unfold aF
 rw[List.take_add_one,List.filter_append,List.getElem?_eq_getElem h,List.getD_eq_getElem?_getD,List.getElem?_eq_getElem h]
 cases hb:on.testBit l[i].head.toNat <;> simp[hb]
theorem yM {on:Nat}{l:List Rule}{i:Nat}(h:i<l.length):aT on (l.take (i+1)) 0=if on.testBit (l.getD i default).head.toNat then aT on (l.take i) 0++[(i:Int)] else aT on (l.take i) 0:=by
 rw[List.take_add_one,List.getElem?_eq_getElem h,List.getD_eq_getElem?_getD,List.getElem?_eq_getElem h,Option.toList_some,sJ,List.length_take,Nat.min_eq_left omg,Nat.zero_add]
 show _++(if on.testBit l[i].head.toNat then(i:Int)::[] else[])=_
 rw[Option.getD_some]
 split <;> simp
theorem yN {q:List Int}{s:Int}{c:Nat}{z:Nat->AV}(hc:c<(q.length+1)*1):af (q++[s]) c=bb 1 q.length (fun i j=>af q (i*1+j)) (fun i j=>ao z 0 1 (fun _=>.int .i64 s) (0+i*1+j)) c:=by
 unfold bb
 by_cases h:c<q.length*1
 ·rw[if_pos h]
  show _=af q (c/1*1+c%1)
  rw[show c/1*1+c%1=c by omega]
  unfold af
  rw[List.getD_eq_getElem?_getD,List.getElem?_append_left omg,<-List.getD_eq_getElem?_getD]
 ·rw[if_neg h]
  show _=ao z 0 1 _ (0+(c-q.length*1)/1*1+(c-q.length*1)%1)
  rw[eD,if_pos omg,show c=q.length by omega]
  unfold af
  rw[List.getD_eq_getElem?_getD,List.getElem?_append_right (Nat.le_refl _),Nat.sub_self]
  rfl
theorem f7 {k:Nat}(l:List Rule)(j:Nat):Below k (aJ l j):=lu _ _
theorem iB {f:Nat->Nat}(h:True){l:List Rule}{j:Nat}:aI f (aJ l j)=aJ l j:=lw _ _
theorem nat1_rng:∀(k n d j:Nat),j<k->au (rng k n) d j=n+j
 |0,_,_,_,h=>absurd h (Nat.not_lt_zero _)
 |k+1,n,d,0,_=>rfl
 |k+1,n,d,j+1,h=>by
  show au (rng k (n+1)) d j=_
  rw[nat1_rng k (n+1) d j omg]
  omega
theorem lY {n:Nat}{c:Nat->AV}(h:∀j,j<n->Below 0 (c j))(f:Nat->Nat):LeO (cO n c) (bW f (cO n c)):=⟨rfl,Nat.le_refl _,fun j hj=>bp (h j hj)⟩
def cc (b:Nat)(l:List Stp):Nat->AV:=fun c=>bif Nat.beq (c%2) 0 then .int .i64 (l.getD (c/2) default).rule else .ow true (b+c/2) (l.getD (c/2) default).atoms.length 1
theorem oI {f:Nat->Nat}{b b':Nat}{l:List Stp}{c:Nat}(h:f (b+c/2)=b'+c/2):aI f (cc b l c)=cc b' l c:=by
 unfold cc
 cases Nat.beq (c%2) 0 with
 |true=>rfl
 |false=>
  show AV.ow true (f (b+c/2)) _ 1=_
  rw[h]
  rfl
theorem yO (R:Res)[hT:Tab LT R](p:Prg)(n0 n1 n2 n3:Nat)(c0 c1 c2 c3:Nat->AV)(b0:∀j,j<n0->Below 0 (c0 j))(b1:∀j,j<n1->Below 0 (c1 j))(b2:∀j,j<n2->Below 0 (c2 j))(b3:∀j,j<n3->Below 0 (c3 j))(hl:p.rules.l.length<1000000)(hr:∀r,r∈p.rules.l->aE r)(hp:bA p)(hh:cl p)(g:R.σ):Does Tryd.prog R 60 [aw p] [cO n0 c0,cO n1 c1,cO n2 c2,cO n3 c3] g (.ret (.tup 2 (nth [.ow true 5 (am p).1.length 2,.ref 4 0])))
  (cO n0 c0::cO n1 c1::cO n2 c2::cO n3 c3::cO 27 (aP (am p).2)::cO ((am p).1.length*2) (cc 6 (am p).1)::bJ (ab (am p).1) []) g:=by
 have hlen:=oo hp hr hh
 have h1:Does Tryd.prog R 60 [aw p] [cO n0 c0,cO n1 c1,cO n2 c2,cO n3 c3] g (.ret (.tup 2 (nth [.ow true 6 (am p).1.length 2,.ref 4 0])))
   (cO n0 c0::cO n1 c1::cO n2 c2::cO n3 c3::cO 27 (ad p (am p).2 (.mp 5))::.map (esF p.rules.l)::cO ((am p).1.length*2) (cc 7 (am p).1)::bJ (ab (am p).1) []) g:=
  el hT [] 4 (fun R _ g=>sn R p hl hr hp hh g) rfl rfl rfl trivial trivial ⟨bp (by exact⟨⟨trivial,trivial⟩,trivial⟩),trivial⟩ (AR (fun j hj=>match j,hj with|0,_=>AM _|1,_=>AM _)) ⟨AP _,AP _,AP _,AP _,AY (fun j hj=>b9 (by rfl)),rfl,AY (fun c hc=>oI (b:=3) (by
   show au ([]++rng 27 4) (4+27) (3+c/2)=7+c/2
   rw[List.nil_append,nat1_rng 27 4 31 (3+c/2) omg]
   omega)),AP _,AP _,AP _,AP _,AP _,AP _,AP _,AP _,AP _,AP _,AP _,AP _,AP _,AP _,AP _,AP _,AP _,AP _,AP _,AP _,AP _,AP _,AP _,AP _,trivial⟩
 refine iy h1 (toS [0,1,2,3,4,6,7,8,9,10,11,12,13,14,15,16,17,18,19,20,21,22,23,24,25,26,27,28,29,30] 31 (hob:=?_))
 refine⟨lY b0 _,lY b1 _,lY b2 _,lY b3 _,⟨rfl,Nat.le_refl _,fun j hj=>by
  show Le (ad p _ (.mp 5) j) (aI _ (aP _ j))
  rw[dt trivial]
  exact so⟩,AY (fun c hc=>?_),AP _,AP _,AP _,AP _,AP _,AP _,AP _,AP _,AP _,AP _,AP _,AP _,AP _,AP _,AP _,AP _,AP _,AP _,AP _,AP _,AP _,AP _,AP _,AP _,trivial⟩
 refine(oI (b:=6) (b':=7) (c:=c) ?_).symm
 have h:(List.range 24).all (fun i=>au [0,1,2,3,4,6,7,8,9,10,11,12,13,14,15,16,17,18,19,20,21,22,23,24,25,26,27,28,29,30] 31 (6+i)==7+i)=true:=by decide +kernel
 simpa using (List.all_eq_true.1 h) (c/2) (List.mem_range.2 omg)
def ar (p:Prg)(on:Nat):Prg:=⟨p.atoms,aF on p.rules.l,.auto⟩
theorem yP {p:Prg}{on:Nat}{hp:List AObj}{k m o:Nat}(ho:ag hp o=cO ((aF on p.rules.l).length*2) (aJ (aF on p.rules.l)))(hk:k<=o):aB hp k m (.ow true o (aF on p.rules.l).length 2) (ae (ar p on).rules):=
 (aB.ow ho hk (Nat.le_refl _) dcd (fun j _=>AU (f7 _ _))).le (AT rfl (fun i j hi hj=>by
  show aJ _ (i*2+j)=br _ j
  unfold aJ
  rw[show(i*2+j)/2=i by omega,show(i*2+j)%2=j by omega]
  rfl))
def kd (p:Prg)(s:Stp):Prop:=(0<=s.rule->s.rule<p.rules.l.length)/\0<s.atoms.length/\s.atoms.length<=24/\∀a,a∈s.atoms->0<=a/\a<p.atoms
theorem oJ {p:Prg}{v:Nat->Int}(hp:bA p)(hr:∀r,r∈p.rules.l->aE r)(hh:cl p)(hb:aS p v=true):kd p (aj p v):=by
 obtain⟨h1,h2⟩:=se (v:=v) hp hr hh
 by_cases h:0<=a9 p v
 ·obtain⟨k,k1,k2,_,_⟩:=gk (cX v) default p.rules.l 0 h
  have hn:aj p v=⟨a9 p v,[(p.rules.l.getD (a9 p v).toNat default).head]⟩:=if_pos h
  have hf:a9 p v=k:=by unfold a9;rw[k2];simp
  refine⟨fun _=>?_,?_,h2,h1⟩
  ·rw[hn];show a9 p v<_;omega
  ·rw[hn];exact Nat.zero_lt_one
 ·obtain⟨k0,k1,_,_,_⟩:=iN hp h hb
  refine⟨fun h=>?_,?_,h2,h1⟩
  ·rw[k0] at h
   exact absurd h (by show ¬(0:Int) <= -1;omega)
  ·unfold cV at k1
   rw[Bool.and_eq_true] at k1
   exact of_decide_eq_true k1.1
theorem oK {p:Prg}(hp:bA p)(hr:∀r,r∈p.rules.l->aE r)(hh:cl p):∀(n:Nat) (v:Nat->Int) (l:List Stp),(∀s,s∈l->kd p s)->∀s,s∈(cI p n v l).1->kd p s
 |0,_,_,h=>h
 |n+1,v,l,h=>by
  show ∀s,s∈(if aS p v then cI p n (ba v (aj p v)) (l++[aj p v]) else(l,v)).1->kd p s
  by_cases hb:aS p v=true
  ·rw[if_pos hb]
   refine oK hp hr hh n _ _ (fun s hs=>?_)
   rcases List.mem_append.1 hs with hs|hs
   ·exact h s hs
   ·have:s=aj p v:=by simpa using hs
    rw[this]
    exact oJ hp hr hh hb
  ·rw[if_neg hb]
   exact h
def dS (nums:List Int)(s:Stp):Int:=if 0<=s.rule then nums.getD s.rule.toNat 0 else s.rule
def ac (on:Nat)(l:List Stp)(i j:Nat):AObj:=cO ((if j<i then aO on (l.getD j default).atoms else(l.getD j default).atoms).length*1) (af (if j<i then aO on (l.getD j default).atoms else(l.getD j default).atoms))
def aR (on:Nat)(l:List Stp)(i:Nat):List Nat:=(List.range i).filter (fun k=>decide (0<(aO on (l.getD k default).atoms).length))
def bB (on:Nat)(nums:List Int)(l:List Stp)(q:List Nat):Nat->AV:=fun c=>bif Nat.beq (c%2) 0 then .int .i64 (dS nums (l.getD (q.getD (c/2) 0) default)) else .sl (6+q.getD (c/2) 0) 0 (aO on (l.getD (q.getD (c/2) 0) default).atoms).length (l.getD (q.getD (c/2) 0) default).atoms.length false 1
def gW (k:Nat):List Nat:=[0,1,2,3,4,5,6,7,8,9,10,11,12,13,14,15,16,17,18,19,20,21,22,23,24,25,26,27,28,29,k]
theorem sK {k n j:Nat}(hj:j<30):au (gW k) n j=j:=by
 have h:j=0∨j=1∨j=2∨j=3∨j=4∨j=5∨j=6∨j=7∨j=8∨j=9∨j=10∨j=11∨j=12∨j=13∨j=14∨j=15∨j=16∨j=17∨j=18∨j=19∨j=20∨j=21∨j=22∨j=23∨j=24∨j=25∨j=26∨j=27∨j=28∨j=29:=by omega
 rcases h with rfl|rfl|rfl|rfl|rfl|rfl|rfl|rfl|rfl|rfl|rfl|rfl|rfl|rfl|rfl|rfl|rfl|rfl|rfl|rfl|rfl|rfl|rfl|rfl|rfl|rfl|rfl|rfl|rfl|rfl <;> rfl
theorem ke {f:Nat->AObj}{x0 x1 x2 x3 x4 x5:AObj}{r:List AObj}{a:Nat}(ha:a<24):ag (x0::x1::x2::x3::x4::x5::bJ f r) (6+a)=f a:=by
 rw[show 6+a=a+6 by omega]
 exact lM ha
theorem sL {f:Nat->AObj}{x0 x1 x2 x3 x4 x5:AObj}{r:List AObj}{a:Nat}:ag (x0::x1::x2::x3::x4::x5::bJ f r) (30+a)=ag r a:=by
 rw[show 30+a=a+30 by omega]
 rfl
theorem yQ {on:Nat}{l:List Stp}{i j:Nat}(h:j≠i):ac on l (i+1) j=ac on l i j:=by
 unfold ac
 by_cases hj:j<i
 ·rw[if_pos hj,if_pos (show j<i+1 by omega)]
 ·rw[if_neg hj,if_neg (show ¬j<i+1 by omega)]
theorem yR {on:Nat}{l:List Stp}{i:Nat}:ac on l i i=cO ((l.getD i default).atoms.length*1) (af (l.getD i default).atoms):=by
 unfold ac
 rw[if_neg (Nat.lt_irrefl i)]
theorem yS {on:Nat}{l:List Stp}{i:Nat}:ac on l (i+1) i=cO ((aO on (l.getD i default).atoms).length*1) (af (aO on (l.getD i default).atoms)):=by
 unfold ac
 rw[if_pos (Nat.lt_succ_self i)]
theorem sM (R:Res)(on:Nat)(L:List Stp)(i:Nat)(x0 x2 x3 x4 x5 o30 o31:AObj)(hi:i<24)(hon:on<2^24)(hl:0<(L.getD i default).atoms.length/\(L.getD i default).atoms.length<1000000)(ha:∀a,a∈(L.getD i default).atoms->0<=a/\a<24)(g:R.σ) :
  Does Tryd.prog R 72 [.ow true (6+i) (L.getD i default).atoms.length 1,.fn 73 0 (nth []) 1 (nth [.ref 1 0])] (x0::cO 1 (fun _=>.int .u64 on)::x2::x3::x4::x5::bJ (ac on L i) [o30,o31]) g
   (.ret (.sl (6+i) 0 (aO on (L.getD i default).atoms).length (L.getD i default).atoms.length false 1)) (x0::cO 1 (fun _=>.int .u64 on)::x2::x3::x4::x5::bJ (ac on L (i+1)) [o30,o31]) g:=by
 have hlt:bF [6+i,1] 32=true:=by
  show(Nat.blt (6+i) 32&&(Nat.blt 1 32&&true))=true
  rw[show Nat.blt (6+i) 32=true by rw[Nat.blt_eq];omega]
  rfl
 have hnd:cN [6+i,1]=true:=by
  show(!(bif Nat.beq (6+i) 1 then true else false)&&(!false&&true))=true
  rw[oq (show 6+i≠1 by omega)]
  rfl
 refine fB [6+i,1] 32 (fun R g=>yK R (L.getD i default).atoms on hon hl ha g) rfl hlt hnd ⟨?_,AP _,trivial⟩ ⟨omg,omg,trivial⟩ ⟨AM _,Le.fn (fun i hi=>absurd hi (Nat.not_lt_zero _)) (fun i hi=>match i,hi with|0,_=>AM _),trivial⟩ (AM _) ?_
 ·rw[ke hi,yR]
  exact AP _
 ·refine nM (by rw[jA];rfl) (fun x hx=>?_) (fun x hx=>?_) ⟨?_,AP _,trivial⟩
  ·rw[jA]
   show x<32
   rcases List.mem_cons.1 hx with h|h
   ·omega
   ·have:x=1:=by simpa using h
    omega
  ·rw[nN _ _ _ hx]
   have hx1:x≠6+i:=fun e=>hx (by rw[e];exact List.mem_cons_self)
   rcases Nat.lt_or_ge x 6 with h|h
   ·match x,h with
    |0,_=>exact AP _
    |1,_=>exact AP _
    |2,_=>exact AP _
    |3,_=>exact AP _
    |4,_=>exact AP _
    |5,_=>exact AP _
   ·rcases Nat.lt_or_ge x 30 with h2|h2
    ·obtain⟨a,rfl⟩:∃a,x=6+a:=⟨x-6,omg⟩
     rw[ke omg,ke omg,yQ omg]
     exact AP _
    ·obtain⟨a,rfl⟩:∃a,x=30+a:=⟨x-30,omg⟩
     rw[sL,sL]
     exact AP _
  ·rw[ke hi,yS]
   exact AP _
theorem sN {L:List Stp}{i:Nat}:Le (.agg 2 (fun j=>cc 6 L (j+i*2))) (.agg 2 (nth [.int .i64 (L.getD i default).rule,.ow true (6+i) (L.getD i default).atoms.length 1])):=by
 refine AS (fun j hj=>AN ?_)
 unfold cc
 match j,hj with
 |0,_=>
  rw[show(0+i*2)%2=0 by omega,show(0+i*2)/2=i by omega]
  rfl
 |1,_=>
  rw[show(1+i*2)%2=1 by omega,show(1+i*2)/2=i by omega]
  rfl
theorem sO {on:Nat}{nums:List Int}{l:List Stp}{q:List Nat}{i c:Nat}{z:Nat->AV}(hc:c<(q.length+1)*2):bB on nums l (q++[i]) c=bb 2 q.length (fun a j=>bB on nums l q (a*2+j)) (fun a j=>ao z 0 2 (nth [.int .i64 (dS nums (l.getD i default)),.sl (6+i) 0 (aO on (l.getD i default).atoms).length (l.getD i default).atoms.length false 1]) (0+a*2+j)) c:=by
 unfold bb
 by_cases h:c<q.length*2
 ·rw[if_pos h]
  show _=bB on nums l q (c/2*2+c%2)
  rw[show c/2*2+c%2=c by omega]
  unfold bB
  rw[List.getD_eq_getElem?_getD (l:=q++[i]),List.getElem?_append_left omg,<-List.getD_eq_getElem?_getD]
 ·rw[if_neg h]
  show _=ao z 0 2 _ (0+(c-q.length*2)/2*2+(c-q.length*2)%2)
  rw[eD,if_pos omg]
  unfold bB
  rw[show c/2=q.length by omega,List.getD_eq_getElem?_getD (l:=q++[i]),List.getElem?_append_right (Nat.le_refl _),Nat.sub_self]
  have h2:c=q.length*2∨c=q.length*2+1:=by omega
  rcases h2 with rfl|rfl
  ·rw[show q.length*2%2=0 by omega,show 0+(q.length*2-q.length*2)/2*2+(q.length*2-q.length*2)%2-0=0 by omega]
   rfl
  ·rw[show(q.length*2+1)%2=1 by omega,show 0+(q.length*2+1-q.length*2)/2*2+(q.length*2+1-q.length*2)%2-0=1 by omega]
   rfl
theorem lZ {on:Nat}{l:List Stp}{i:Nat}:aR on l (i+1)=if 0<(aO on (l.getD i default).atoms).length then aR on l i++[i] else aR on l i:=by
 have e:([i].filter (fun k=>decide (0<(aO on (l.getD k default).atoms).length)))=if 0<(aO on (l.getD i default).atoms).length then[i] else[]:=by
  rw[List.filter_cons,List.filter_nil]
  by_cases h:0<(aO on (l.getD i default).atoms).length
  ·rw[if_pos h,decide_eq_true h];rfl
  ·rw[if_neg h,decide_eq_false h];rfl
 unfold aR
 rw[List.range_succ,List.filter_append,e]
 by_cases h:0<(aO on (l.getD i default).atoms).length
 ·rw[if_pos h,if_pos h]
 ·rw[if_neg h,if_neg h,List.append_nil]
theorem yT {on:Nat}{l:List Stp}{i c:Nat}(hi:0<i):(aR on l i).getD c 0<i:=by
 rcases Nat.lt_or_ge c (aR on l i).length with h|h
 ·have:=bx (aR on l i) 0 h
  have h2:=(List.mem_filter.1 this).1
  exact List.mem_range.1 h2
 ·rw[List.getD_eq_getElem?_getD,List.getElem?_eq_none h]
  exact hi
theorem yU {f:Nat->Nat}{on:Nat}{nums:List Int}{l:List Stp}{q:List Nat}{c:Nat}(h:f (6+q.getD (c/2) 0)=6+q.getD (c/2) 0):aI f (bB on nums l q c)=bB on nums l q c:=by
 unfold bB
 cases Nat.beq (c%2) 0 with
 |true=>rfl
 |false=>
  show AV.sl (f (6+q.getD (c/2) 0)) 0 _ _ false 1=AV.sl (6+q.getD (c/2) 0) 0 _ _ false 1
  rw[h]
def yV (p:Prg)(on:Nat)(NU:List Int)(V:Nat->Int)(L:List Stp)(i m:Nat):List AObj:=cO 2 (nth [.int .i64 p.atoms,ae p.rules])::cO 1 (fun _=>.int .u64 on)::cO 2 (nth [.int .i64 p.atoms,ae (ar p on).rules])::cO ((aF on p.rules.l).length*1) (af NU)::cO 27 (aP V)::cO (L.length*2) (cc 6 L)::bJ (ac on L i) [cO (m*2) (bB on NU L (aR on L i))]
theorem l0 {p:Prg}{on:Nat}{NU:List Int}{V:Nat->Int}{L:List Stp}{i m k n:Nat}{r:List AObj}(hL:L.length<=24)(hi:i<24)(hm:m=(aR on L (i+1)).length)(hk:ag (cO 2 (nth [.int .i64 p.atoms,ae p.rules])::cO 1 (fun _=>.int .u64 on)::cO 2 (nth [.int .i64 p.atoms,ae (ar p on).rules])::cO ((aF on p.rules.l).length*1) (af NU)::cO 27 (aP V)::cO (L.length*2) (cc 6 L)::bJ (ac on L (i+1)) r) k=cO (m*2) (bB on NU L (aR on L (i+1)))) :
  dd (au (gW k) n) (cO 2 (nth [.int .i64 p.atoms,ae p.rules])::cO 1 (fun _=>.int .u64 on)::cO 2 (nth [.int .i64 p.atoms,ae (ar p on).rules])::cO ((aF on p.rules.l).length*1) (af NU)::cO 27 (aP V)::cO (L.length*2) (cc 6 L)::bJ (ac on L (i+1)) r) (gW k) (yV p on NU V L (i+1) m):=by
 refine⟨iC,AP _,iC,AP _,AY (fun j hj=>(dt trivial).symm),AY (fun c hc=>(oI (b:=6) (b':=6) (c:=c) (sK omg)).symm),AP _,AP _,AP _,AP _,AP _,AP _,AP _,AP _,AP _,AP _,AP _,AP _,AP _,AP _,AP _,AP _,AP _,AP _,AP _,AP _,AP _,AP _,AP _,AP _,?_,trivial⟩
 rw[hk]
 refine AY (fun c hc=>(yU (sK ?_)).symm)
 have:=yT (on:=on) (l:=L) (i:=i+1) (c:=c/2) omg
 omega
def cu (on:Nat)(nums:List Int)(l:List Stp):KL Step:=⟨(aR on l l.length).map (fun k=>⟨dS nums (l.getD k default),aO on (l.getD k default).atoms,.opn⟩),.auto⟩
theorem yW {hp:List AObj}{on:Nat}{NU:List Int}{L:List Stp}{m:Nat}(hm:m=(aR on L L.length).length)(hL:L.length<=24)(h30:ag hp 30=cO (m*2) (bB on NU L (aR on L L.length)))(hin:∀k,k<L.length->ag hp (6+k)=ac on L L.length k):aB hp 0 0 (.ow true 30 m 2) (ax (cu on NU L)):=by
 subst hm
 refine aB.le (aB.ow h30 (Nat.zero_le _) (Nat.le_refl _) dcd (get:=fun c=>bif Nat.beq (c%2) 0 then .int .i64 (dS NU (L.getD ((aR on L L.length).getD (c/2) 0) default)) else ah ⟨aO on (L.getD ((aR on L L.length).getD (c/2) 0) default).atoms,.opn⟩) (fun c hc=>?_)) ?_
 ·unfold bB
  cases Nat.beq (c%2) 0 with
  |true=>exact AU trivial
  |false=>
   have hc2:c/2<(aR on L L.length).length:=by omega
   obtain⟨k,hk⟩:∃k,(aR on L L.length).getD (c/2) 0=k:=⟨_,rfl⟩
   have hmem:=bx (aR on L L.length) 0 hc2
   rw[hk] at hmem
   have hk2:=List.mem_filter.1 hmem
   have hkl:k<L.length:=List.mem_range.1 hk2.1
   have hpos:0<(aO on (L.getD k default).atoms).length:=of_decide_eq_true hk2.2
   have hle:(aO on (L.getD k default).atoms).length<=(L.getD k default).atoms.length:=List.length_filter_le _ _
   rw[hk]
   have h6:=hin k hkl
   unfold ac at h6
   rw[if_pos hkl] at h6
   exact(aB.sl h6 (Nat.zero_le _) omg hle dcd (fun j _=>AU (dZ _ _))).le (AT rfl (fun i j hi hj=>by
    show af _ (0+i*1+j)=AV.int .i64 _
    rw[show 0+i*1+j=i by omega]
    rfl))
 ·have hl2:(cu on NU L).l.length=(aR on L L.length).length:=by unfold cu;rw[List.length_map]
  refine AT hl2.symm (fun i j hi hj=>?_)
  have hg:(cu on NU L).l.getD i default=⟨dS NU (L.getD ((aR on L L.length).getD i 0) default),aO on (L.getD ((aR on L L.length).getD i 0) default).atoms,.opn⟩:=by
   unfold cu
   rw[List.getD_eq_getElem?_getD,List.getElem?_map,List.getElem?_eq_getElem hi,List.getD_eq_getElem?_getD (l:=aR on L L.length),List.getElem?_eq_getElem hi]
   rfl
  show _=eF _ j
  rw[hg]
  show(bif Nat.beq ((i*2+j)%2) 0 then _ else _)=_
  rw[show(i*2+j)%2=j by omega,show(i*2+j)/2=i by omega]
  match j,hj with
  |0,_=>rfl
  |1,_=>rfl
theorem oL (R:Res)[Tab LT R](p:Prg)(goal:Int)(hb:aD p=true)(hg:0<=goal/\goal<p.atoms)(g:R.σ):Does Tryd.prog R 25 [aw p,.int .i64 goal] [] g (.ret (.tup 3 (nth [.int .i64 ((am (ar p (hgP p goal.toNat))).2 goal.toNat),ax (cu (hgP p goal.toNat) (aT (hgP p goal.toNat) p.rules.l 0) (am (ar p (hgP p goal.toNat))).1),.int .i64 0]))) [] g:=by
 obtain⟨hl,hr,hp,hh,hx⟩:=eK hb
 have hs:em p:=gl hb
 have hp':1<=p.atoms/\p.atoms<=24:=hp
 have hroom:aN=140737488355328:=rfl
 have hlt:hgP p goal.toNat<2^24:=gn hr omg
 refine spW (nt:=98) (rs:=[.tmp 4,.tmp 5,.tmp 6]) (k0:=0) ?_
 have hc:(bif ((if aD p then(0:Int) else 2) != 0) then true else !decide (0<=goal/\goal<=p.atoms-1))=false:=by
  rw[hb,decide_eq_true omg]
  rfl
 refine vcR [[1,0,1,0]] (lkL [(0,[1,2]),(1,[1,2,27]),(3,[1,2,7]),(4,[1,2,7,8]),(5,[1,2,7,8,9]),(6,[1,7,8,9,35,36,37])]) (lkL [(1,[(1,ROrc.pcall (i6 (if aD p=true then 0 else 2))),(8,ROrc.pcall (AV.bool (decide (0<=goal/\goal<=p.atoms-1))))]),(3,[(2,ROrc.pcall (int u64 (↑(hgP p (Int.toNat goal)):Int))),(4,ROrc.val (Orc.obj (nth [int u64 (↑(hgP p (Int.toNat goal)):Int)])))]),(4,[(4,ROrc.val (Orc.obj (nth [i6 p.atoms,fz Fz.nil 0 0 fun (x x_1:Nat)=>any])))])]) (fun Q=>(fun (u1:Bool)=>(fun (u2:AV)=>(fun (u3:AV)=>(fun (u4:Int)=>(fun (u5:AV)=>2<=2/\(∀(hp:List AObj) (g:R.σ),true=true/\Does Tryd.prog R 16 [aw p] hp g (ret (i6 u4)) hp g)/\((!u4 != 0)=true->1<=2)/\((!u4 != 0)=true -> -9223372036854775808<=p.atoms-1/\p.atoms-1<=9223372036854775807)/\((!u4 != 0)=true->∀(hp:List AObj) (g:R.σ),true=true/\Does Tryd.prog R 58 [i6 goal,i6 0,i6 (p.atoms-1)] hp g (ret (AV.bool (decide (0<=goal/\goal<=p.atoms-1)))) hp g)/\(u1=true->WpC Tryd.prog R 98 0 25 [1,0,1,0] Q [Kont.seq [1,1]] (St.mk [(1,i6 goal),(2,ref 0 0),(27,AV.bool u1)] [cO 2 (nth [u5,ae p.rules])] g))/\(u1=false->2<=2/\(∀(hp:List AObj) (g:R.σ),true=true/\Does Tryd.prog R 70 [aw p,i6 goal] hp g (ret u3) hp g)/\1<=1/\(∀(c:Nat),c<1->nth [u3] c=ao (fun (a:Nat)=>int u64 0) 0 1 (fun (x:Nat)=>u3) c)/\1<=2/\2<=2/\(∀(c:Nat),c<2->nth [u5,u2] c=ao (nth [i6 0,u2]) 0 2 (List.brecOn (motive:=fun (x:List AV)=>Nat->AV) [u5,u2] nth._f) c)/\2<=2/\WpC Tryd.prog R 98 0 25 [1,1,1,1,1,0,1,0] Q [Kont.blk 0,Kont.seq [1,1,1,1,1,1]] (St.mk [(1,i6 goal),(7,ref 1 0),(8,ref 2 0),(9,u2),(35,ae p.rules),(36,i6 (↑(List.length p.rules.l):Int)),(37,i6 0)] [cO 2 (nth [u5,ae p.rules]),cO 1 (nth [u3]),cO 2 (nth [u5,u2])] g))) (i6 p.atoms)) (if aD p=true then 0 else 2)) (int u64 (↑(hgP p (Int.toNat goal)):Int))) (fz Fz.nil 0 0 fun x x_1=>any)) (bif (if aD p=true then 0 else 2) != 0 then true else !decide (0<=goal/\goal<=p.atoms-1))) ⟨omg,(fun _ _=>⟨rfl,(ga _ _ _ _ omg)⟩),omg,omg,(fun hgd=>(fun _ _=>⟨rfl,(dv _ _ _ _ _ _)⟩)),fun hcc=>(nomatch (hc.symm.trans hcc)),fun _=>⟨omg,(fun _ _=>⟨rfl,(oC _ _ _ omg omg omg _ _)⟩),omg,(fun c hc=>match c,hc with|0,_=>krf ),omg,omg,(fun c hc=>match c,hc with|0,_=>krf|1,_=>krf ),omg,?_⟩⟩
 obtain⟨on,hon⟩:∃on,hgP p goal.toNat=on:=⟨_,rfl⟩
 rw[hon] at hlt ⊢
 refine cp (gg (fun _=>.any) 2) ?_
 refine(bi krf (fun (x:Nat × Nat)=>⟨[(1,i6 goal),(7,ref 1 0),(8,ref 2 0),(9,.ow true 4 x.2 1),(35,ae p.rules),(36,i6 (p.rules.l.length:Int)),(37,.int .i64 x.1)],[cO 2 (nth [.int .i64 p.atoms,ae p.rules]),cO 1 (fun _=>.int .u64 on),cO 2 (nth [.int .i64 p.atoms,.ow true 3 x.2 2]),cO (x.2*2) (aJ (aF on (p.rules.l.take x.1))),cO (x.2*1) (af (aT on (p.rules.l.take x.1) 0))],g⟩) (fun (x:Nat × Nat)=>(x.1<=p.rules.l.length/\x.2=(aF on (p.rules.l.take x.1)).length)) (fun (x:Nat × Nat)=>(p.rules.l.length-x.1)) ((0,0):Nat × Nat) (toL (h1:=⟨AM _,AM _,AM _,Le.nil_ow,AM _,AM _,(AN krf),trivial⟩) (h2:=⟨AO,⟨rfl,Nat.le_refl _,fun j hj=>match j,hj with|0,_=>(AM _) ⟩,⟨rfl,Nat.le_refl _,fun j hj=>match j,hj with|0,_=>(AM _)|1,_=>Le.nil_ow ⟩,⟨rfl,Nat.le_refl _,fun j hj=>absurd hj (Nat.not_lt_zero j)⟩,⟨rfl,Nat.le_refl _,fun j hj=>absurd hj (Nat.not_lt_zero j)⟩,trivial⟩)) ?_ (fun x hi=>?_))
 ·exact⟨Nat.zero_le _,rfl⟩
 ·obtain⟨i,m⟩:=x
  obtain⟨hi,hm⟩:=hi
  simp only at hi hm
  have hpl:=sI on (p.rules.l.take i) 0
  have hple:(aF on (p.rules.l.take i)).length<=p.rules.l.length:=Nat.le_trans (List.length_filter_le _ _) (by rw[List.length_take];omega)
  rcases Nat.lt_or_ge i p.rules.l.length with hi'|hi'
  ·have hq:=hr _ (e8 hi')
   have hq2:=hq.2
   have hpt:=yL (on:=on) hi'
   have hnt:=yM (on:=on) hi'
   refine vcR [] (lkL [(7,[1,7,8,9,35,36,37,38]),(8,[1,7,8,9,10,11,35,36,37]),(9,[1,7,8,9,10,11,35,36,37,45]),(10,[1,7,8,9,10,35,36,37]),(11,[1,7,8,9,35,36,37]),(12,[1,7,8,9,35,36,37])]) (lkL [(8,[(5,ROrc.val (Orc.obj (nth [i6 (List.getD p.rules.l i default).head,ap (List.getD p.rules.l i default).body])))]),(9,[(3,ROrc.pcall (AV.bool (Nat.testBit on (Int.toNat (List.getD p.rules.l i default).head))))]),(10,[(4,ROrc.val (Orc.obj (aJ (aF on (List.take i p.rules.l)++[List.getD p.rules.l i default])))),(6,ROrc.val (Orc.obj (nth [i6 p.atoms,ow true 7 (m+1) 2])))]),(11,[(3,ROrc.val (Orc.obj (af (aT on (List.take i p.rules.l) 0++[(↑i:Int)]))))])]) (fun Q=>(fun (u1:Rule)=>(fun (u2:Int)=>(fun (u3:Int)=>(fun (u4:List Rule)=>(fun (u5:List AV)=>(fun (u6:AObj)=>(fun (u7:AObj)=>(fun (u8:List AV)=>(fun (u9:List AV)=>(fun (u10:AObj)=>(fun (u11:List (Nat × AV))=>(fun (u12:Bool)=>(decide (u3<u2)=true->(0<=u3/\u3<u2)/\2<=2/\2<=2/\(∀(c:Nat),c<2->nth u5 c=ao (nth u8) 0 2 (List.brecOn (motive:=fun (x:List AV)=>Nat->AV) u5 nth._f) c)/\1<=1/\1<=2/\(∀(hp:List AObj) (g:R.σ),true=true/\Does Tryd.prog R 71 [int u64 (↑on:Int),i6 u1.head] hp g (ret (AV.bool u12)) hp g)/\(u12=true->2<=2/\2<=2/\0<2/\(m+1)*32<=aN/\m+1<=aN/\2<=2/\m*2<=m*2/\(∀(c:Nat),c<(m+1)*2->aJ (aF on u4++[u1]) c=bb 2 m (fun (i j:Nat)=>aJ (aF on u4) (i*2+j)) (fun (i j:Nat)=>ao (fun (j:Nat)=>nth u8 (j%2)) 0 2 (List.brecOn (motive:=fun (x:List AV)=>Nat->AV) u5 nth._f) (0+i*2+j)) c)/\2<=2/\(∀(c:Nat),c<2->nth [i6 p.atoms,ow true 7 (m+1) 2] c=ao (nth u9) 1 1 (fun (x:Nat)=>ow true 7 (m+1) 2) c)/\0<1/\(m+1)*8<=aN/\m+1<=aN/\1<=1/\m*1<=m*1/\(∀(c:Nat),c<(m+1)*1->af (aT on u4 0++[u3]) c=bb 1 m (fun (i j:Nat)=>af (aT on u4 0) (i*1+j)) (fun (i j:Nat)=>ao (fun (j:Nat)=>i6 0) 0 1 (fun (x:Nat)=>i6 u3) (0+i*1+j)) c)/\(-9223372036854775808<=u3+1/\u3+1<=9223372036854775807)/\Q AEx.normal (St.mk ((1,i6 goal)::(7,ref 1 0)::(8,ref 2 0)::(9,ow true 9 (m+1) 1)::u11) [u6,u7,cO 2 (nth [i6 p.atoms,ow true 7 (m+1) 2]),dead,dead,cO 2 (nth u5),cO 2 (ao (fun (j:Nat)=>nth u8 (j%2)) 0 2 (List.brecOn (motive:=fun (x:List AV)=>Nat->AV) u5 nth._f)),cO ((m+1)*2) (aJ (aF on u4++[u1])),cO 1 (ao (fun (j:Nat)=>i6 0) 0 1 fun x=>i6 u3),cO ((m+1)*1) fun a=>af (aT on u4 0++[u3]) a] g))/\(u12=false->(-9223372036854775808<=u3+1/\u3+1<=9223372036854775807)/\Q AEx.normal (St.mk ((1,i6 goal)::(7,ref 1 0)::(8,ref 2 0)::(9,ow true 4 m 1)::u11) [u6,u7,cO 2 (nth u9),cO (m*2) (aJ (aF on u4)),u10,cO 2 (nth u5)] g)))/\(decide (u3<u2)=false->Q (AEx.exit 0) (St.mk [(1,i6 goal),(7,ref 1 0),(8,ref 2 0),(9,ow true 4 m 1),(35,ae p.rules),(36,i6 u2),(37,i6 u3),(38,AV.bool (decide (u3<u2)))] [u6,u7,cO 2 (nth u9),cO (m*2) (aJ (aF on u4)),u10] g))) (Nat.testBit on (Int.toNat u1.head))) ([(35,ae p.rules),(36,i6 u2),(37,i6 (u3+1))])) (cO (m*1) fun a=>af (aT on u4 0) a)) ([i6 p.atoms,ow true 3 m 2])) ([i6 0,fz Fz.nil 0 0 fun x x_1=>any])) (cO 1 fun x=>int u64 (↑on:Int))) (cO 2 (nth [i6 p.atoms,ae p.rules]))) ([i6 u1.head,ap u1.body])) (List.take i p.rules.l)) ((↑i:Int))) ((↑(List.length p.rules.l):Int))) (List.getD p.rules.l i default)) ⟨fun c1=>have c1:(↑i:Int)<(↑(List.length p.rules.l):Int):=(of_decide_eq_true c1);⟨omg,omg,omg,(fun c hc=>match c,hc with|0,_=>krf|1,_=>krf ),omg,omg,(fun _ _=>⟨rfl,(nX _ _ _ omg omg _ _)⟩),fun c2=>⟨omg,omg,omg,omg,omg,omg,omg,?_,omg,(fun c hc=>match c,hc with|0,_=>krf|1,_=>krf ),omg,omg,omg,omg,omg,?_,omg,?_⟩,fun c2=>⟨omg,?_⟩⟩,fun c1=>have c1:¬(↑i:Int)<(↑(List.length p.rules.l):Int):=(of_decide_eq_false c1);?_⟩
   ·intro c hc
    subst hm
    exact(lO (r:=p.rules.l.getD i default) (z:=fun j=>nth [.int .i64 0,.fz .nil 0 0 fun _ _=>.any] (j%2)) hc).trans krf
   ·intro c hc
    rw[hm,<-hpl] at hc ⊢
    exact(yN (z:=fun _=>.int .i64 0) hc).trans krf
   ·rw[if_pos c2] at hpt hnt
    refine(aW (i+1,m+1) (toS [0,1,2,7,9] 10 (hob:=⟨⟨rfl,Nat.le_refl _,fun j hj=>match j,hj with|0,_=>(AM _)|1,_=>(AM _) ⟩,⟨rfl,Nat.le_refl _,fun j hj=>match j,hj with|0,_=>(AM _) ⟩,⟨rfl,Nat.le_refl _,fun j hj=>match j,hj with|0,_=>(AM _)|1,_=>(AM _) ⟩,?_,?_,trivial⟩)) ?_ ?_)
    ·show LeO (cO ((m+1)*2) (aJ (aF on (p.rules.l.take i)++[p.rules.l.getD i default]))) (bW _ (cO ((m+1)*2) (aJ (aF on (p.rules.l.take (i+1))))))
     rw[hpt,gM]
     exact AP _
    ·show LeO (cO ((m+1)*1) (af (aT on (p.rules.l.take i) 0++[(i:Int)]))) (cO ((m+1)*1) (af (aT on (p.rules.l.take (i+1)) 0)))
     rw[hnt]
     exact AP _
    ·refine⟨by show i+1<=_;omega,?_⟩
     show m+1=(aF on (p.rules.l.take (i+1))).length
     rw[hpt,List.length_append,<-hm]
     rfl
    ·show p.rules.l.length-(i+1)<p.rules.l.length-i
     omega
   ·rw[if_neg (by rw[c2];decide)] at hpt hnt
    refine(aW (i+1,m) (toS [0,1,2,3,4] 6 (hob:=⟨⟨rfl,Nat.le_refl _,fun j hj=>match j,hj with|0,_=>(AM _)|1,_=>(AM _) ⟩,⟨rfl,Nat.le_refl _,fun j hj=>match j,hj with|0,_=>(AM _) ⟩,⟨rfl,Nat.le_refl _,fun j hj=>match j,hj with|0,_=>(AM _)|1,_=>(AM _) ⟩,?_,?_,trivial⟩)) ?_ ?_)
    ·show LeO (cO (m*2) (aJ (aF on (p.rules.l.take i)))) (bW _ (cO (m*2) (aJ (aF on (p.rules.l.take (i+1))))))
     rw[hpt,gM]
     exact AP _
    ·show LeO (cO (m*1) (af (aT on (p.rules.l.take i) 0))) (cO (m*1) (af (aT on (p.rules.l.take (i+1)) 0)))
     rw[hnt]
     exact AP _
    ·refine⟨by show i+1<=_;omega,?_⟩
     show m=(aF on (p.rules.l.take (i+1))).length
     rw[hpt,<-hm]
    ·show p.rules.l.length-(i+1)<p.rules.l.length-i
     omega
   ·exfalso;omega
  ·have hie:i=p.rules.l.length:=by omega
   subst hie
   rw[List.take_length] at hm hpl
   subst hm
   obtain⟨M,hM⟩:∃M,(aF on p.rules.l).length=M:=⟨_,rfl⟩
   refine cp (toS (s':=⟨[(1,.int .i64 goal),(7,.ref 1 0),(8,.ref 2 0),(9,.ow true 3 (aF on p.rules.l).length 1),(35,ae p.rules),(36,.int .i64 p.rules.l.length),(37,.int .i64 p.rules.l.length)],[cO 2 (nth [.int .i64 p.atoms,ae p.rules]),cO 1 (fun _=>.int .u64 on),cO 2 (nth [.int .i64 p.atoms,.ow true 4 (aF on p.rules.l).length 2]),cO ((aF on p.rules.l).length*1) (af (aT on p.rules.l 0)),cO ((aF on p.rules.l).length*2) (aJ (aF on p.rules.l))],g⟩) [0,1,2,4,3] 5 (hob:=⟨iC,AP _,AY (fun j hj=>match j,hj with|0,_=>rfl|1,_=>rfl),?_,?_,trivial⟩)) ?_
   ·show LeO (cO ((aF on p.rules.l).length*1) (af (aT on (p.rules.l.take p.rules.l.length) 0))) _
    rw[List.take_length]
    exact AP _
   ·show LeO (cO ((aF on p.rules.l).length*2) (aJ (aF on (p.rules.l.take p.rules.l.length)))) _
    rw[List.take_length,gM]
    exact AP _
   refine cp (rd 4 [(1,.int .i64 goal),(7,.ref 1 0),(8,.ref 2 0),(9,.ow true 3 (aF on p.rules.l).length 1),(35,ae p.rules),(36,.int .i64 p.rules.l.length),(37,.int .i64 p.rules.l.length)] [cO 2 (nth [.int .i64 p.atoms,ae p.rules]),cO 1 (fun _=>.int .u64 on),cO 2 (nth [.int .i64 p.atoms,ae (ar p on).rules]),cO ((aF on p.rules.l).length*1) (af (aT on p.rules.l 0))] omg (by show 4<=5;omega) rfl (fun i hi=>?_) ⟨AU trivial,AU (show 1<4 by omega),AU (show 2<4 by omega),AU (show 3<4 by omega),AU trivial,AU trivial,AU trivial,trivial⟩) ?_
   ·match i,hi with
    |0,_=>exact⟨rfl,rfl,fun j hj=>match j,hj with|0,_=>AU trivial|1,_=>AU trivial⟩
    |1,_=>exact⟨rfl,rfl,fun j _=>AU trivial⟩
    |2,_=>exact⟨rfl,rfl,fun j hj=>match j,hj with|0,_=>AU trivial|1,_=>yP (o:=4) rfl (Nat.le_refl _)⟩
    |3,_=>exact⟨rfl,rfl,fun j _=>AU trivial⟩
   have hbb:decide ((p.rules.l.length:Int)<(p.rules.l.length:Int))=false:=decide_eq_false omg
   refine vcR [[1,1,1,1,1,0,1,0,0,1,0,0]] (lkL [(7,[1,7,8,9,35,36,37,38])]) (fun _=>[]) (fun Q=>(fun (u1:St R.σ)=>(fun (u2:Int)=>(decide (u2<u2)=true->WpC Tryd.prog R 98 0 25 [1,1,1,1,1,0,1,0,0,1,0,0] Q [Kont.seq [1,1,1,1,1,0,1,0,0,1,1]] u1)/\(decide (u2<u2)=false->Q (AEx.exit 0) u1)) ((↑(List.length p.rules.l):Int))) (St.mk [(1,i6 goal),(7,ref 1 0),(8,ref 2 0),(9,ow true 3 (List.length (aF on p.rules.l)) 1),(35,ae p.rules),(36,i6 (↑(List.length p.rules.l):Int)),(37,i6 (↑(List.length p.rules.l):Int)),(38,AV.bool (decide ((↑(List.length p.rules.l):Int)<(↑(List.length p.rules.l):Int))))] [cO 2 (nth [i6 p.atoms,ae p.rules]),cO 1 fun x=>int u64 (↑on:Int),cO 2 (nth [i6 p.atoms,fz Fz.auto 2 (List.length (ar p on).rules.l) fun i=>br (List.getD (ar p on).rules.l i default)]),cO (List.length (aF on p.rules.l)*1) fun a=>af (aT on p.rules.l 0) a] g)) ⟨fun hcc=>(nomatch (hbb.symm.trans hcc)),fun _=>?_⟩
   have hlq:(ar p on).rules.l.length<1000000:=Nat.lt_of_le_of_lt (List.length_filter_le _ _) hl
   have hrq:∀r,r∈(ar p on).rules.l->aE r:=fun r h=>hr r (List.mem_filter.1 h).1
   have hpq:bA (ar p on):=hp
   have hhq:cl (ar p on):=fun r h=>hh r (List.mem_filter.1 h).1
   have hD:=fun (R:Res) [Tab LT R] (n0 n1 n2 n3:Nat) (c0 c1 c2 c3:Nat->AV) (b0:∀j,j<n0->Below 0 (c0 j)) (b1:∀j,j<n1->Below 0 (c1 j)) (b2:∀j,j<n2->Below 0 (c2 j)) (b3:∀j,j<n3->Below 0 (c3 j)) (g:R.σ)=>yO R (ar p on) n0 n1 n2 n3 c0 c1 c2 c3 b0 b1 b2 b3 hlq hrq hpq hhq g
   refine⟨_,A0 _,vcR [] (lkL [(13,[1,7,9,12,13]),(14,[1,7,9,12,13,14]),(15,[1,7,9,13,14,62,63,64])]) (lkL [(13,[(1,ROrc.call (tup 2 (nth [ow true 5 (List.length (am (ar p on)).fst) 2,ref 4 0])) (cO 2 (nth [i6 p.atoms,ae p.rules])::(cO 1 fun (x:Nat)=>int u64 (↑on:Int))::cO 2 (nth [i6 p.atoms,fz Fz.auto 2 (List.length (ar p on).rules.l) fun (i:Nat)=>br (List.getD (ar p on).rules.l i default)])::(cO (List.length (aF on p.rules.l)*1) fun (a:Nat)=>af (aT on p.rules.l 0) a)::cO 27 (aP (am (ar p on)).snd)::cO (List.length (am (ar p on)).fst*2) (cc 6 (am (ar p on)).fst)::bJ (ab (am (ar p on)).fst) []) g)])]) (fun Q=>(fun (u1:List AObj)=>(fun (u2:List AV)=>(fun (u3:Nat)=>2<=2/\(true=true/\Does Tryd.prog R 60 [agg 2 (nth u2)] [cO 2 (nth [i6 p.atoms,ae p.rules]),cO 1 fun x=>int u64 (↑on:Int),cO 2 (nth u2),cO (List.length (aF on p.rules.l)*1) fun a=>af (aT on p.rules.l 0) a] g (ret (tup 2 (nth [ow true 5 u3 2,ref 4 0]))) u1 g)/\WpC Tryd.prog R 98 0 25 [1,1,1,1,1,1,1,1,0,1,0] Q [Kont.blk 2,Kont.seq [1,1,1,1,1,1,1,1,1]] (St.mk [(1,i6 goal),(7,ref 1 0),(9,ow true 3 (List.length (aF on p.rules.l)) 1),(13,ref 4 0),(14,fz Fz.nil 0 0 fun x x_1=>any),(62,ow true 5 u3 2),(63,i6 (↑u3:Int)),(64,i6 0)] u1 g)) (List.length (am (ar p on)).fst)) ([i6 p.atoms,fz Fz.auto 2 (List.length (ar p on).rules.l) fun i=>br (List.getD (ar p on).rules.l i default)])) ([cO 2 (nth [i6 p.atoms,ae p.rules]),cO 1 fun x=>int u64 (↑on:Int),cO 2 (nth [i6 p.atoms,fz Fz.auto 2 (List.length (ar p on).rules.l) fun i=>br (List.getD (ar p on).rules.l i default)]),cO (List.length (aF on p.rules.l)*1) fun a=>af (aT on p.rules.l 0) a,cO 27 (aP (am (ar p on)).snd),cO (List.length (am (ar p on)).fst*2) (cc 6 (am (ar p on)).fst),ab (am (ar p on)).fst 0,ab (am (ar p on)).fst 1,ab (am (ar p on)).fst 2,ab (am (ar p on)).fst 3,ab (am (ar p on)).fst 4,ab (am (ar p on)).fst 5,ab (am (ar p on)).fst 6,ab (am (ar p on)).fst 7,ab (am (ar p on)).fst 8,ab (am (ar p on)).fst 9,ab (am (ar p on)).fst 10,ab (am (ar p on)).fst 11,ab (am (ar p on)).fst 12,ab (am (ar p on)).fst 13,ab (am (ar p on)).fst 14,ab (am (ar p on)).fst 15,ab (am (ar p on)).fst 16,ab (am (ar p on)).fst 17,ab (am (ar p on)).fst 18,ab (am (ar p on)).fst 19,ab (am (ar p on)).fst 20,ab (am (ar p on)).fst 21,ab (am (ar p on)).fst 22,ab (am (ar p on)).fst 23])) ⟨omg,⟨rfl,(hD _ _ _ _ _ _ _ _ _ ?_ ?_ ?_ ?_ _)⟩,?_⟩⟩
   ·exact fun j hj=>match j,hj with|0,_=>trivial|1,_=>trivial
   ·exact fun j _=>trivial
   ·exact fun j hj=>match j,hj with|0,_=>trivial|1,_=>trivial
   ·exact fun j _=>trivial
   obtain⟨L,hL⟩:∃L,(am (ar p on)).1=L:=⟨_,rfl⟩
   obtain⟨V,hV⟩:∃V,(am (ar p on)).2=V:=⟨_,rfl⟩
   obtain⟨NU,hNU⟩:∃NU,aT on p.rules.l 0=NU:=⟨_,rfl⟩
   have hL24:L.length<=24:=by rw[<-hL];exact oo hpq hrq hhq
   rw[hL,hV,hNU]
   refine cp (gg (fun _=>.any) 1) ?_
   refine(bi krf (fun (x:Nat × Nat)=>⟨[(1,i6 goal),(7,ref 1 0),(9,ow true 3 ((aF on p.rules.l).length) 1),(13,ref 4 0),(14,.ow true 30 x.2 2),(62,ow true 5 (L.length) 2),(63,i6 (L.length:Int)),(64,.int .i64 x.1)],(cO 2 (nth [.int .i64 p.atoms,ae p.rules])::cO 1 (fun _=>.int .u64 on)::cO 2 (nth [.int .i64 p.atoms,ae (ar p on).rules])::cO ((aF on p.rules.l).length*1) (af NU)::cO 27 (aP V)::cO (L.length*2) (cc 6 L)::bJ (ac on L x.1) [cO (x.2*2) (bB on NU L (aR on L x.1))]),g⟩) (fun (x:Nat × Nat)=>(x.1<=L.length/\x.2=(aR on L x.1).length)) (fun (x:Nat × Nat)=>(L.length-x.1)) ((0,0):Nat × Nat) (toL (h1:=⟨AM _,AM _,AM _,AM _,Le.nil_ow,AM _,AM _,(AN krf),trivial⟩) (h2:=⟨AO,AO,AO,AO,AO,AO,AO,AO,AO,AO,AO,AO,AO,AO,AO,AO,AO,AO,AO,AO,AO,AO,AO,AO,AO,AO,AO,AO,AO,AO,⟨rfl,Nat.le_refl _,fun j hj=>absurd hj (Nat.not_lt_zero j)⟩,trivial⟩)) ?_ (fun x hi=>?_))
   ·exact⟨Nat.zero_le _,rfl⟩
   ·obtain⟨i,m⟩:=x
    obtain⟨hi,hm⟩:=hi
    simp only at hi hm
    have hm24:m<=i:=by
     rw[hm]
     unfold aR
     exact Nat.le_trans (List.length_filter_le _ _) (by rw[List.length_range];omega)
    rcases Nat.lt_or_ge i L.length with hi'|hi'
    ·have hso:kd (ar p on) (L.getD i default):=by
      have:=oK hpq hrq hhq 25 (fun _=>3) [] (fun s hs=>(by cases hs))
      exact this _ (by
       have h:L.getD i default∈L:=bx _ default hi'
       have h2:L.getD i default∈(am (ar p on)).1:=hL.symm▸h
       exact h2)
     obtain⟨o1,o2,o3,o4⟩:=hso
     have o1:0<=(L.getD i default).rule->(L.getD i default).rule<(aF on p.rules.l).length:=o1
     have o4:∀a,a∈(L.getD i default).atoms->0<=a/\a<24:=fun a ha=>by
      have:=o4 a ha
      have e:(ar p on).atoms=p.atoms:=rfl
      omega
     by_cases hru:0<=(L.getD i default).rule
     ·have hru1:=o1 hru
      have hge:decide ((L.getD i default).rule >= 0)=true:=decide_eq_true hru
      have har:dS NU (L.getD i default)=NU.getD (L.getD i default).rule.toNat 0:=if_pos hru
      refine vcR [[1,1,1,1,1,1,1,1,0,1,0,0,1,1,0,0,1,0,1,1]] (lkL [(16,[1,7,9,13,14,62,63,64,65]),(17,[1,7,9,13,14,16,62,63,64]),(18,[1,7,9,13,14,16,62,63,64,70]),(19,[1,7,9,13,14,16,62,63,64]),(20,[1,7,9,13,14,16,62,63,64]),(21,[1,7,9,13,14,16,62,63,64,85]),(22,[1,7,9,13,14,62,63,64]),(23,[1,7,9,13,14,62,63,64])]) (lkL [(17,[(1,ROrc.kop (agg 2 (nth [i6 (List.getD L i default).rule,ow true (6+i) (List.length (List.getD L i default).atoms) 1]))),(3,ROrc.val (Orc.obj (nth [i6 (List.getD L i default).rule,ow true (6+i) (List.length (List.getD L i default).atoms) 1])))]),(19,[(6,ROrc.val (Orc.obj (nth [af NU (Int.toNat (List.getD L i default).rule),ow true (6+i) (List.length (List.getD L i default).atoms) 1])))]),(20,[(3,ROrc.call (sl (6+i) 0 (List.length (aO on (List.getD L i default).atoms)) (List.length (List.getD L i default).atoms) false 1) (cO 2 (nth [i6 p.atoms,ae p.rules])::(cO 1 fun (x:Nat)=>int u64 (↑on:Int))::cO 2 (nth [i6 p.atoms,ae (ar p on).rules])::cO (List.length (aF on p.rules.l)*1) (af NU)::cO 27 (aP V)::cO (List.length L*2) (cc 6 L)::bJ (ac on L (i+1)) [cO (m*2) (bB on NU L (aR on L i)),cO 2 (nth [i6 (List.getD NU (Int.toNat (List.getD L i default).rule) 0),ow true (6+i) (List.length (List.getD L i default).atoms) 1])]) g),(5,ROrc.val (Orc.obj (nth [af NU (Int.toNat (List.getD L i default).rule),sl (6+i) 0 (List.length (aO on (List.getD L i default).atoms)) (List.length (List.getD L i default).atoms) false 1])))]),(22,[(3,ROrc.val (Orc.obj (bB on NU L (aR on L i++[i]))))])]) (fun Q=>(fun (u1:List AObj)=>(fun (u2:Stp)=>(fun (u3:AObj)=>(fun (u4:AV)=>(fun (u5:AV)=>(fun (u6:Nat)=>(fun (u7:Int)=>(fun (u8:Nat)=>(fun (u9:AObj)=>(fun (u10:AV)=>(fun (u11:List (Nat × AV))=>(fun (u12:AObj)=>(fun (u13:AObj)=>(fun (u14:AObj)=>(fun (u15:AObj)=>(fun (u16:Int)=>(decide ((↑i:Int)<u7)=true->(0<=(↑i:Int)/\(↑i:Int)<u7)/\OpOk Tryd.prog R (Oper.mk (some 67) (Op.load 71 (Operand.tmp 66)) 71 "table.go:316" #[Edge.mk 0 Ground.data] none) (evO [Row.mk (some 66) none (ref 5 (i*2)) false (some []) []] u11 []) u1 g (agg 2 (nth [i6 u2.rule,u5])) u1 g/\2<=2/\(∀(c:Nat),c<2->nth [i6 u2.rule,u5] c=ao (nth [i6 0,fz Fz.nil 0 0 fun x x_1=>any]) 0 2 (List.brecOn (motive:=fun (x:List AV)=>Nat->AV) [i6 u2.rule,u5] nth._f) c)/\1<=2/\(decide (u2.rule >= 0)=true->1<=2/\(0<=u2.rule/\u2.rule<(↑u6:Int))/\Int.toNat u2.rule+1<=u6*1/\1<=2/\(∀(c:Nat),c<2->nth [u10,u5] c=ao (nth [i6 u2.rule,u5]) 0 1 (fun (x:Nat)=>u10) c)/\2<=2/\(true=true/\Does Tryd.prog R 72 [u5,fn 73 0 (nth []) 1 (nth [ref 1 0])] [u9,u12,u3,u13,cO 27 (aP V),u14,ac on L i 0,ac on L i 1,ac on L i 2,ac on L i 3,ac on L i 4,ac on L i 5,ac on L i 6,ac on L i 7,ac on L i 8,ac on L i 9,ac on L i 10,ac on L i 11,ac on L i 12,ac on L i 13,ac on L i 14,ac on L i 15,ac on L i 16,ac on L i 17,ac on L i 18,ac on L i 19,ac on L i 20,ac on L i 21,ac on L i 22,ac on L i 23,u15,cO 2 (nth [u10,u5])] g (ret u4) [u9,u12,u3,u13,cO 27 (aP V),u14,ac on L u8 0,ac on L u8 1,ac on L u8 2,ac on L u8 3,ac on L u8 4,ac on L u8 5,ac on L u8 6,ac on L u8 7,ac on L u8 8,ac on L u8 9,ac on L u8 10,ac on L u8 11,ac on L u8 12,ac on L u8 13,ac on L u8 14,ac on L u8 15,ac on L u8 16,ac on L u8 17,ac on L u8 18,ac on L u8 19,ac on L u8 20,ac on L u8 21,ac on L u8 22,ac on L u8 23,u15,cO 2 (nth [u10,u5])] g)/\2<=2/\(∀(c:Nat),c<2->nth [u10,u4] c=ao (nth [u10,u5]) 1 1 (fun (x:Nat)=>u4) c)/\2<=2/\(decide (u16 > 0)=true->2<=2/\0<2/\(m+1)*32<=aN/\m+1<=aN/\2<=2/\m*2<=m*2/\(∀(c:Nat),c<(m+1)*2->bB on NU L (aR on L i++[i]) c=bb 2 m (fun (i_1 j:Nat)=>bB on NU L (aR on L i) (i_1*2+j)) (fun (i j:Nat)=>ao (fun (j:Nat)=>nth [i6 0,fz Fz.nil 0 0 fun x x_1=>any] (j%2)) 0 2 (List.brecOn (motive:=fun (x:List AV)=>Nat->AV) [u10,u4] nth._f) (0+i*2+j)) c)/\(-9223372036854775808<=(↑i:Int)+1/\(↑i:Int)+1<=9223372036854775807)/\Q AEx.normal (St.mk [(1,i6 goal),(7,ref 1 0),(9,ow true 3 u6 1),(13,ref 4 0),(14,ow true 33 (m+1) 2),(62,ow true 5 (List.length L) 2),(63,i6 u7),(64,i6 ((↑i:Int)+1))] [u9,u12,u3,u13,cO 27 (aP V),u14,ac on L u8 0,ac on L u8 1,ac on L u8 2,ac on L u8 3,ac on L u8 4,ac on L u8 5,ac on L u8 6,ac on L u8 7,ac on L u8 8,ac on L u8 9,ac on L u8 10,ac on L u8 11,ac on L u8 12,ac on L u8 13,ac on L u8 14,ac on L u8 15,ac on L u8 16,ac on L u8 17,ac on L u8 18,ac on L u8 19,ac on L u8 20,ac on L u8 21,ac on L u8 22,ac on L u8 23,dead,cO 2 (nth [u10,u4]),cO 2 (ao (fun (j:Nat)=>nth [i6 0,fz Fz.nil 0 0 fun x x_1=>any] (j%2)) 0 2 (List.brecOn (motive:=fun (x:List AV)=>Nat->AV) [u10,u4] nth._f)),cO ((m+1)*2) (bB on NU L (aR on L i++[i]))] g))/\(decide (u16 > 0)=false->(-9223372036854775808<=(↑i:Int)+1/\(↑i:Int)+1<=9223372036854775807)/\Q AEx.normal (St.mk [(1,i6 goal),(7,ref 1 0),(9,ow true 3 u6 1),(13,ref 4 0),(14,ow true 30 m 2),(62,ow true 5 (List.length L) 2),(63,i6 u7),(64,i6 ((↑i:Int)+1))] [u9,u12,u3,u13,cO 27 (aP V),u14,ac on L u8 0,ac on L u8 1,ac on L u8 2,ac on L u8 3,ac on L u8 4,ac on L u8 5,ac on L u8 6,ac on L u8 7,ac on L u8 8,ac on L u8 9,ac on L u8 10,ac on L u8 11,ac on L u8 12,ac on L u8 13,ac on L u8 14,ac on L u8 15,ac on L u8 16,ac on L u8 17,ac on L u8 18,ac on L u8 19,ac on L u8 20,ac on L u8 21,ac on L u8 22,ac on L u8 23,u15,cO 2 (nth [u10,u4])] g)))/\(decide (u2.rule >= 0)=false->WpC Tryd.prog R 98 0 25 [1,1,1,1,1,1,1,1,0,1,0,0,1,1,0,0,1,0,1,1] Q [Kont.seq [1,1,1,1,1,1,1,1,0,1,0,0,1,1,0,0,1,1],Kont.blk 3,Kont.seq [1,1,1,1,1,1,1,1,0,1,0,0,1,1,1]] (St.mk [(1,i6 goal),(7,ref 1 0),(9,ow true 3 u6 1),(13,ref 4 0),(14,ow true 30 m 2),(16,ref 31 0),(62,ow true 5 (List.length L) 2),(63,i6 u7),(64,i6 (↑i:Int)),(70,AV.bool (decide (u2.rule >= 0)))] [u9,u12,u3,u13,cO 27 (aP V),u14,ac on L i 0,ac on L i 1,ac on L i 2,ac on L i 3,ac on L i 4,ac on L i 5,ac on L i 6,ac on L i 7,ac on L i 8,ac on L i 9,ac on L i 10,ac on L i 11,ac on L i 12,ac on L i 13,ac on L i 14,ac on L i 15,ac on L i 16,ac on L i 17,ac on L i 18,ac on L i 19,ac on L i 20,ac on L i 21,ac on L i 22,ac on L i 23,u15,cO 2 (nth [i6 u2.rule,u5])] g)))/\(decide ((↑i:Int)<u7)=false->Q (AEx.exit 2) (St.mk u11 u1 g))) ((↑(List.length (aO on u2.atoms)):Int))) (cO (m*2) (bB on NU L (aR on L i)))) (cO (List.length L*2) (cc 6 L))) (cO (u6*1) fun a=>af NU a)) (cO 1 fun x=>int u64 (↑on:Int))) ([(1,i6 goal),(7,ref 1 0),(9,ow true 3 u6 1),(13,ref 4 0),(14,ow true 30 m 2),(62,ow true 5 (List.length L) 2),(63,i6 u7),(64,i6 (↑i:Int)),(65,AV.bool (decide ((↑i:Int)<u7)))])) (af NU (Int.toNat u2.rule))) (cO 2 (nth [i6 p.atoms,ae p.rules]))) (i+1)) ((↑(List.length L):Int))) (List.length (aF on p.rules.l))) (ow true (6+i) (List.length u2.atoms) 1)) (sl (6+i) 0 (List.length (aO on u2.atoms)) (List.length u2.atoms) false 1)) (cO 2 (nth [i6 p.atoms,fz Fz.auto 2 (List.length (ar p on).rules.l) fun i=>br (List.getD (ar p on).rules.l i default)]))) (List.getD L i default)) ([cO 2 (nth [i6 p.atoms,ae p.rules]),cO 1 fun x=>int u64 (↑on:Int),cO 2 (nth [i6 p.atoms,fz Fz.auto 2 (List.length (ar p on).rules.l) fun i=>br (List.getD (ar p on).rules.l i default)]),cO (List.length (aF on p.rules.l)*1) fun a=>af NU a,cO 27 (aP V),cO (List.length L*2) (cc 6 L),ac on L i 0,ac on L i 1,ac on L i 2,ac on L i 3,ac on L i 4,ac on L i 5,ac on L i 6,ac on L i 7,ac on L i 8,ac on L i 9,ac on L i 10,ac on L i 11,ac on L i 12,ac on L i 13,ac on L i 14,ac on L i 15,ac on L i 16,ac on L i 17,ac on L i 18,ac on L i 19,ac on L i 20,ac on L i 21,ac on L i 22,ac on L i 23,cO (m*2) (bB on NU L (aR on L i))])) ⟨fun c1=>have c1:(↑i:Int)<(↑(List.length L):Int):=(of_decide_eq_true c1);⟨omg,?_,omg,(fun c hc=>match c,hc with|0,_=>krf|1,_=>krf ),omg,fun _=>⟨omg,omg,omg,omg,(fun c hc=>match c,hc with|0,_=>krf|1,_=>krf ),omg,?_,omg,(fun c hc=>match c,hc with|0,_=>krf|1,_=>krf ),omg,fun c2=>have c2:(↑(List.length (aO on (List.getD L i default).atoms)):Int) > 0:=(of_decide_eq_true c2);⟨omg,omg,omg,omg,omg,omg,?_,omg,?_⟩,fun c2=>have c2:¬(↑(List.length (aO on (List.getD L i default).atoms)):Int) > 0:=(of_decide_eq_false c2);⟨omg,?_⟩⟩,fun hcc=>(nomatch (hge.symm.trans hcc))⟩,fun c1=>have c1:¬(↑i:Int)<(↑(List.length L):Int):=(of_decide_eq_false c1);?_⟩
      ·exact qV rfl rfl krf rfl (by show i*2+2<=L.length*2;omega) sN
      ·exact⟨rfl,sM R on L i _ _ _ _ _ _ _ omg hlt ⟨o2,omg⟩ o4 g⟩
      ·intro c hc
       rw[hm] at hc ⊢
       exact(sO (on:=on) (nums:=NU) (l:=L) (q:=aR on L i) (i:=i) (z:=fun j=>nth [.int .i64 0,.fz .nil 0 0 fun _ _=>.any] (j%2)) hc).trans (by rw[har];kernel_rfl)
      ·have hsc:=lZ (on:=on) (l:=L) (i:=i)
       rw[if_pos (show 0<(aO on (L.getD i default).atoms).length by omega)] at hsc
       have hm2:m+1=(aR on L (i+1)).length:=by rw[hsc,List.length_append,<-hm];rfl
       refine aW (i+1,m+1) (toS (gW 33) 34 (hob:=l0 hL24 omg hm2 (by rw[hsc];rfl))) ⟨by show i+1<=_;omega,hm2⟩ (by show L.length-(i+1)<L.length-i;omega)
      ·have hsc:=lZ (on:=on) (l:=L) (i:=i)
       rw[if_neg (show ¬0<(aO on (L.getD i default).atoms).length by omega)] at hsc
       have hm2:m=(aR on L (i+1)).length:=by rw[hsc,<-hm]
       refine aW (i+1,m) (toS (gW 30) 32 (hob:=l0 hL24 omg hm2 (by rw[hsc];rfl))) ⟨by show i+1<=_;omega,hm2⟩ (by show L.length-(i+1)<L.length-i;omega)
      ·exfalso;omega
     ·have hge:decide ((L.getD i default).rule >= 0)=false:=decide_eq_false omg
      have har:dS NU (L.getD i default)=(L.getD i default).rule:=if_neg hru
      refine vcR [[1,1,1,1,1,1,1,1,0,1,0,0,1,1,0,0,1,0,1,0]] (lkL [(16,[1,7,9,13,14,62,63,64,65]),(17,[1,7,9,13,14,16,62,63,64]),(18,[1,7,9,13,14,16,62,63,64,70]),(20,[1,7,9,13,14,16,62,63,64]),(21,[1,7,9,13,14,16,62,63,64,85]),(22,[1,7,9,13,14,62,63,64]),(23,[1,7,9,13,14,62,63,64])]) (lkL [(17,[(1,ROrc.kop (agg 2 (nth [i6 (List.getD L i default).rule,ow true (6+i) (List.length (List.getD L i default).atoms) 1]))),(3,ROrc.val (Orc.obj (nth [i6 (List.getD L i default).rule,ow true (6+i) (List.length (List.getD L i default).atoms) 1])))]),(20,[(3,ROrc.call (sl (6+i) 0 (List.length (aO on (List.getD L i default).atoms)) (List.length (List.getD L i default).atoms) false 1) (cO 2 (nth [i6 p.atoms,ae p.rules])::(cO 1 fun (x:Nat)=>int u64 (↑on:Int))::cO 2 (nth [i6 p.atoms,ae (ar p on).rules])::cO (List.length (aF on p.rules.l)*1) (af NU)::cO 27 (aP V)::cO (List.length L*2) (cc 6 L)::bJ (ac on L (i+1)) [cO (m*2) (bB on NU L (aR on L i)),cO 2 (nth [i6 (List.getD L i default).rule,ow true (6+i) (List.length (List.getD L i default).atoms) 1])]) g),(5,ROrc.val (Orc.obj (nth [i6 (List.getD L i default).rule,sl (6+i) 0 (List.length (aO on (List.getD L i default).atoms)) (List.length (List.getD L i default).atoms) false 1])))]),(22,[(3,ROrc.val (Orc.obj (bB on NU L (aR on L i++[i]))))])]) (fun Q=>(fun (u1:List AObj)=>(fun (u2:List AObj)=>(fun (u3:Stp)=>(fun (u4:AV)=>(fun (u5:Int)=>(fun (u6:AObj)=>(fun (u7:List (Nat × AV))=>(fun (u8:List AV)=>(fun (u9:Nat)=>(fun (u10:Nat)=>(fun (u11:Int)=>(fun (u12:Int)=>(fun (u13:AObj)=>(fun (u14:AObj)=>(fun (u15:List AV)=>(fun (u16:AObj)=>(decide (u12<u5)=true->(0<=u12/\u12<u5)/\OpOk Tryd.prog R (Oper.mk (some 67) (Op.load 71 (Operand.tmp 66)) 71 "table.go:316" #[Edge.mk 0 Ground.data] none) (evO [Row.mk (some 66) none (ref 5 (i*2)) false (some []) []] u7 []) u1 g (agg 2 (nth u8)) u1 g/\2<=2/\(∀(c:Nat),c<2->nth u8 c=ao (nth u15) 0 2 (List.brecOn (motive:=fun (x:List AV)=>Nat->AV) u8 nth._f) c)/\1<=2/\(decide (u3.rule >= 0)=true->WpC Tryd.prog R 98 0 25 [1,1,1,1,1,1,1,1,0,1,0,0,1,1,0,0,1,0,1,0] Q [Kont.seq [1,1,1,1,1,1,1,1,0,1,0,0,1,1,0,0,1,1],Kont.blk 3,Kont.seq [1,1,1,1,1,1,1,1,0,1,0,0,1,1,1]] (St.mk [(1,i6 goal),(7,ref 1 0),(9,ow true 3 u10 1),(13,ref 4 0),(14,ow true 30 m 2),(16,ref 31 0),(62,ow true 5 (List.length L) 2),(63,i6 u5),(64,i6 u12),(70,AV.bool (decide (u3.rule >= 0)))] u2 g))/\(decide (u3.rule >= 0)=false->2<=2/\(true=true/\Does Tryd.prog R 72 [ow true (6+i) (List.length u3.atoms) 1,fn 73 0 (nth []) 1 (nth [ref 1 0])] u2 g (ret u4) [u13,u14,u6,u16,cO 27 (aP V),cO (List.length L*2) (cc 6 L),ac on L u9 0,ac on L u9 1,ac on L u9 2,ac on L u9 3,ac on L u9 4,ac on L u9 5,ac on L u9 6,ac on L u9 7,ac on L u9 8,ac on L u9 9,ac on L u9 10,ac on L u9 11,ac on L u9 12,ac on L u9 13,ac on L u9 14,ac on L u9 15,ac on L u9 16,ac on L u9 17,ac on L u9 18,ac on L u9 19,ac on L u9 20,ac on L u9 21,ac on L u9 22,ac on L u9 23,cO (m*2) (bB on NU L (aR on L i)),cO 2 (nth u8)] g)/\2<=2/\(∀(c:Nat),c<2->nth [i6 u3.rule,u4] c=ao (nth u8) 1 1 (fun (x:Nat)=>u4) c)/\2<=2/\(decide (u11 > 0)=true->2<=2/\0<2/\(m+1)*32<=aN/\m+1<=aN/\2<=2/\m*2<=m*2/\(∀(c:Nat),c<(m+1)*2->bB on NU L (aR on L i++[i]) c=bb 2 m (fun (i_1 j:Nat)=>bB on NU L (aR on L i) (i_1*2+j)) (fun (i j:Nat)=>ao (fun (j:Nat)=>nth u15 (j%2)) 0 2 (List.brecOn (motive:=fun (x:List AV)=>Nat->AV) [i6 u3.rule,u4] nth._f) (0+i*2+j)) c)/\(-9223372036854775808<=u12+1/\u12+1<=9223372036854775807)/\Q AEx.normal (St.mk [(1,i6 goal),(7,ref 1 0),(9,ow true 3 u10 1),(13,ref 4 0),(14,ow true 33 (m+1) 2),(62,ow true 5 (List.length L) 2),(63,i6 u5),(64,i6 (u12+1))] [u13,u14,u6,u16,cO 27 (aP V),cO (List.length L*2) (cc 6 L),ac on L u9 0,ac on L u9 1,ac on L u9 2,ac on L u9 3,ac on L u9 4,ac on L u9 5,ac on L u9 6,ac on L u9 7,ac on L u9 8,ac on L u9 9,ac on L u9 10,ac on L u9 11,ac on L u9 12,ac on L u9 13,ac on L u9 14,ac on L u9 15,ac on L u9 16,ac on L u9 17,ac on L u9 18,ac on L u9 19,ac on L u9 20,ac on L u9 21,ac on L u9 22,ac on L u9 23,dead,cO 2 (nth [i6 u3.rule,u4]),cO 2 (ao (fun (j:Nat)=>nth u15 (j%2)) 0 2 (List.brecOn (motive:=fun (x:List AV)=>Nat->AV) [i6 u3.rule,u4] nth._f)),cO ((m+1)*2) (bB on NU L (aR on L i++[i]))] g))/\(decide (u11 > 0)=false->(-9223372036854775808<=u12+1/\u12+1<=9223372036854775807)/\Q AEx.normal (St.mk [(1,i6 goal),(7,ref 1 0),(9,ow true 3 u10 1),(13,ref 4 0),(14,ow true 30 m 2),(62,ow true 5 (List.length L) 2),(63,i6 u5),(64,i6 (u12+1))] [u13,u14,u6,u16,cO 27 (aP V),cO (List.length L*2) (cc 6 L),ac on L u9 0,ac on L u9 1,ac on L u9 2,ac on L u9 3,ac on L u9 4,ac on L u9 5,ac on L u9 6,ac on L u9 7,ac on L u9 8,ac on L u9 9,ac on L u9 10,ac on L u9 11,ac on L u9 12,ac on L u9 13,ac on L u9 14,ac on L u9 15,ac on L u9 16,ac on L u9 17,ac on L u9 18,ac on L u9 19,ac on L u9 20,ac on L u9 21,ac on L u9 22,ac on L u9 23,cO (m*2) (bB on NU L (aR on L i)),cO 2 (nth [i6 u3.rule,u4])] g))))/\(decide (u12<u5)=false->Q (AEx.exit 2) (St.mk u7 u1 g))) (cO (u10*1) fun a=>af NU a)) ([i6 0,fz Fz.nil 0 0 fun x x_1=>any])) (cO 1 fun x=>int u64 (↑on:Int))) (cO 2 (nth [i6 p.atoms,ae p.rules]))) ((↑i:Int))) ((↑(List.length (aO on u3.atoms)):Int))) (List.length (aF on p.rules.l))) (i+1)) ([i6 u3.rule,ow true (6+i) (List.length u3.atoms) 1])) ([(1,i6 goal),(7,ref 1 0),(9,ow true 3 (List.length (aF on p.rules.l)) 1),(13,ref 4 0),(14,ow true 30 m 2),(62,ow true 5 (List.length L) 2),(63,i6 u5),(64,i6 (↑i:Int)),(65,AV.bool (decide ((↑i:Int)<u5)))])) (cO 2 (nth [i6 p.atoms,fz Fz.auto 2 (List.length (ar p on).rules.l) fun i=>br (List.getD (ar p on).rules.l i default)]))) ((↑(List.length L):Int))) (sl (6+i) 0 (List.length (aO on u3.atoms)) (List.length u3.atoms) false 1)) (List.getD L i default)) ([cO 2 (nth [i6 p.atoms,ae p.rules]),cO 1 fun x=>int u64 (↑on:Int),cO 2 (nth [i6 p.atoms,fz Fz.auto 2 (List.length (ar p on).rules.l) fun i=>br (List.getD (ar p on).rules.l i default)]),cO (List.length (aF on p.rules.l)*1) fun a=>af NU a,cO 27 (aP V),cO (List.length L*2) (cc 6 L),ac on L i 0,ac on L i 1,ac on L i 2,ac on L i 3,ac on L i 4,ac on L i 5,ac on L i 6,ac on L i 7,ac on L i 8,ac on L i 9,ac on L i 10,ac on L i 11,ac on L i 12,ac on L i 13,ac on L i 14,ac on L i 15,ac on L i 16,ac on L i 17,ac on L i 18,ac on L i 19,ac on L i 20,ac on L i 21,ac on L i 22,ac on L i 23,cO (m*2) (bB on NU L (aR on L i)),cO 2 (nth [i6 (List.getD L i default).rule,ow true (6+i) (List.length (List.getD L i default).atoms) 1])])) ([cO 2 (nth [i6 p.atoms,ae p.rules]),cO 1 fun x=>int u64 (↑on:Int),cO 2 (nth [i6 p.atoms,fz Fz.auto 2 (List.length (ar p on).rules.l) fun i=>br (List.getD (ar p on).rules.l i default)]),cO (List.length (aF on p.rules.l)*1) fun a=>af NU a,cO 27 (aP V),cO (List.length L*2) (cc 6 L),ac on L i 0,ac on L i 1,ac on L i 2,ac on L i 3,ac on L i 4,ac on L i 5,ac on L i 6,ac on L i 7,ac on L i 8,ac on L i 9,ac on L i 10,ac on L i 11,ac on L i 12,ac on L i 13,ac on L i 14,ac on L i 15,ac on L i 16,ac on L i 17,ac on L i 18,ac on L i 19,ac on L i 20,ac on L i 21,ac on L i 22,ac on L i 23,cO (m*2) (bB on NU L (aR on L i))])) ⟨fun c1=>have c1:(↑i:Int)<(↑(List.length L):Int):=(of_decide_eq_true c1);⟨omg,?_,omg,(fun c hc=>match c,hc with|0,_=>krf|1,_=>krf ),omg,fun hcc=>(nomatch (hge.symm.trans hcc)),fun _=>⟨omg,?_,omg,(fun c hc=>match c,hc with|0,_=>krf|1,_=>krf ),omg,fun c2=>have c2:(↑(List.length (aO on (List.getD L i default).atoms)):Int) > 0:=(of_decide_eq_true c2);⟨omg,omg,omg,omg,omg,omg,?_,omg,?_⟩,fun c2=>have c2:¬(↑(List.length (aO on (List.getD L i default).atoms)):Int) > 0:=(of_decide_eq_false c2);⟨omg,?_⟩⟩⟩,fun c1=>have c1:¬(↑i:Int)<(↑(List.length L):Int):=(of_decide_eq_false c1);?_⟩
      ·exact qV rfl rfl krf rfl (by show i*2+2<=L.length*2;omega) sN
      ·exact⟨rfl,sM R on L i _ _ _ _ _ _ _ omg hlt ⟨o2,omg⟩ o4 g⟩
      ·intro c hc
       rw[hm] at hc ⊢
       exact(sO (on:=on) (nums:=NU) (l:=L) (q:=aR on L i) (i:=i) (z:=fun j=>nth [.int .i64 0,.fz .nil 0 0 fun _ _=>.any] (j%2)) hc).trans (by rw[har];kernel_rfl)
      ·have hsc:=lZ (on:=on) (l:=L) (i:=i)
       rw[if_pos (show 0<(aO on (L.getD i default).atoms).length by omega)] at hsc
       have hm2:m+1=(aR on L (i+1)).length:=by rw[hsc,List.length_append,<-hm];rfl
       refine aW (i+1,m+1) (toS (gW 33) 34 (hob:=l0 hL24 omg hm2 (by rw[hsc];rfl))) ⟨by show i+1<=_;omega,hm2⟩ (by show L.length-(i+1)<L.length-i;omega)
      ·have hsc:=lZ (on:=on) (l:=L) (i:=i)
       rw[if_neg (show ¬0<(aO on (L.getD i default).atoms).length by omega)] at hsc
       have hm2:m=(aR on L (i+1)).length:=by rw[hsc,<-hm]
       refine aW (i+1,m) (toS (gW 30) 32 (hob:=l0 hL24 omg hm2 (by rw[hsc];rfl))) ⟨by show i+1<=_;omega,hm2⟩ (by show L.length-(i+1)<L.length-i;omega)
      ·exfalso;omega
    ·have hie:i=L.length:=by omega
     subst hie
     have hbb2:decide ((L.length:Int)<(L.length:Int))=false:=decide_eq_false omg
     refine vcR [[1,1,1,1,1,1,1,1,0,1,0,0,1,0,0]] (lkL [(16,[1,7,9,13,14,62,63,64,65])]) (fun _=>[]) (fun Q=>(fun (u1:St R.σ)=>(fun (u2:Int)=>(decide (u2<u2)=true->WpC Tryd.prog R 98 0 25 [1,1,1,1,1,1,1,1,0,1,0,0,1,0,0] Q [Kont.seq [1,1,1,1,1,1,1,1,0,1,0,0,1,1]] u1)/\(decide (u2<u2)=false->Q (AEx.exit 2) u1)) ((↑(List.length L):Int))) (St.mk [(1,i6 goal),(7,ref 1 0),(9,ow true 3 (List.length (aF on p.rules.l)) 1),(13,ref 4 0),(14,ow true 30 m 2),(62,ow true 5 (List.length L) 2),(63,i6 (↑(List.length L):Int)),(64,i6 (↑(List.length L):Int)),(65,AV.bool (decide ((↑(List.length L):Int)<(↑(List.length L):Int))))] [cO 2 (nth [i6 p.atoms,ae p.rules]),cO 1 fun x=>int u64 (↑on:Int),cO 2 (nth [i6 p.atoms,fz Fz.auto 2 (List.length (ar p on).rules.l) fun i=>br (List.getD (ar p on).rules.l i default)]),cO (List.length (aF on p.rules.l)*1) fun a=>af NU a,cO 27 (aP V),cO (List.length L*2) (cc 6 L),ac on L (List.length L) 0,ac on L (List.length L) 1,ac on L (List.length L) 2,ac on L (List.length L) 3,ac on L (List.length L) 4,ac on L (List.length L) 5,ac on L (List.length L) 6,ac on L (List.length L) 7,ac on L (List.length L) 8,ac on L (List.length L) 9,ac on L (List.length L) 10,ac on L (List.length L) 11,ac on L (List.length L) 12,ac on L (List.length L) 13,ac on L (List.length L) 14,ac on L (List.length L) 15,ac on L (List.length L) 16,ac on L (List.length L) 17,ac on L (List.length L) 18,ac on L (List.length L) 19,ac on L (List.length L) 20,ac on L (List.length L) 21,ac on L (List.length L) 22,ac on L (List.length L) 23,cO (m*2) (bB on NU L (aR on L (List.length L)))] g)) ⟨fun hcc=>(nomatch (hbb2.symm.trans hcc)),fun _=>?_⟩
     all_goals first|(exfalso;rw[hbb2] at c1;cases c1)|skip
     refine⟨_,A0 _,vcR [] (lkL [(24,[4,5,6])]) (lkL [(24,[(5,ROrc.kop (i6 (V (Int.toNat goal))))])]) (fun Q=>(fun (u1:List AObj)=>(fun (u2:Int)=>(0<=goal/\goal<(↑24:Int))/\OpOk Tryd.prog R (Oper.mk (some 96) (Op.load 43 (Operand.tmp 95)) 43 "table.go:325" #[Edge.mk 4 Ground.data] none) (evO [Row.mk (some 95) none (ref 4 (Int.toNat goal+2)) false (some []) [],Row.mk (some 94) none (ref 4 2) false (some []) [],Row.mk (some 93) none (ref 4 0) false (some []) [],Row.mk (some 92) none (i6 goal) false (some []) [],Row.mk (some 91) none (ref 4 0) false (some []) []] [(1,i6 goal),(7,ref 1 0),(9,ow true 3 (List.length (aF on p.rules.l)) 1),(13,ref 4 0),(14,ow true 30 m 2),(62,ow true 5 (List.length L) 2),(63,i6 u2),(64,i6 u2),(65,AV.bool (decide (u2<u2)))] []) u1 g (i6 (V (Int.toNat goal))) u1 g/\Q AEx.ret (St.mk [(4,i6 (V (Int.toNat goal))),(5,ow true 30 m 2),(6,i6 0)] u1 g)) ((↑(List.length L):Int))) ([cO 2 (nth [i6 p.atoms,ae p.rules]),cO 1 fun x=>int u64 (↑on:Int),cO 2 (nth [i6 p.atoms,fz Fz.auto 2 (List.length (ar p on).rules.l) fun i=>br (List.getD (ar p on).rules.l i default)]),cO (List.length (aF on p.rules.l)*1) fun a=>af NU a,cO 27 (aP V),cO (List.length L*2) (cc 6 L),ac on L (List.length L) 0,ac on L (List.length L) 1,ac on L (List.length L) 2,ac on L (List.length L) 3,ac on L (List.length L) 4,ac on L (List.length L) 5,ac on L (List.length L) 6,ac on L (List.length L) 7,ac on L (List.length L) 8,ac on L (List.length L) 9,ac on L (List.length L) 10,ac on L (List.length L) 11,ac on L (List.length L) 12,ac on L (List.length L) 13,ac on L (List.length L) 14,ac on L (List.length L) 15,ac on L (List.length L) 16,ac on L (List.length L) 17,ac on L (List.length L) 18,ac on L (List.length L) 19,ac on L (List.length L) 20,ac on L (List.length L) 21,ac on L (List.length L) 22,ac on L (List.length L) 23,cO (m*2) (bB on NU L (aR on L (List.length L)))])) ⟨omg,?_,?_⟩⟩
     ·exact dY rfl rfl krf rfl (by show _+1<=27;omega) (oy omg omg)
     ·show bK Tryd.prog R 0 _ _ _ _ .ret _
      refine fA (.tup 3 (nth [.int .i64 (V goal.toNat),.ow true 30 m 2,.int .i64 0])) _ rfl trivial (jP 0 [(0,.tup 3 (nth [.int .i64 (V goal.toNat),ax (cu on NU L),.int .i64 0]))] (Nat.le_refl _) (Nat.zero_le _) (fun i hi=>absurd hi (Nat.not_lt_zero i)) ⟨aB.tup (fun j hj=>match j,hj with|0,_=>AU trivial|1,_=>?_|2,_=>AU trivial),trivial⟩)
      exact yW hm hL24 rfl (fun k hk=>(ke omg).trans rfl)
def hpD (p:Prg)(v:Nat->Int)(es:List (Value × AV))(c:Nat->AV):List AObj:=[cO 27 (ad p v (.mp 1)),.map es,cO 1 c]
theorem oM (R:Res)(p:Prg)(v:Nat->Int)(es:List (Value × AV))(c:Nat->AV)(g:R.σ):DoesD Tryd.prog R 100 [.ref 2 0] (hpD p v es c) g (some (.ifc 145 (.agg 0 (nth [])))) (hpD p v es (nth [.bool false])) g:=by
 refine qF (nt:=bC Tryd.prog 100) (rs:=cG Tryd.prog 100) (k0:=3) 4 1 krf krf krf rfl krf dcd dcd dcd dcd dcd ?_
 refine vcR [[1,1,0,0,1,1,0],[1,1,1]] (lkL [(1,[0,1,6]),(2,[0,1,3]),(3,[0,1,13])]) (lkL [(2,[(6,ROrc.kop any)]),(5,[(0,ROrc.val (Orc.obj (nth [AV.bool false])))])]) (fun Q=>(fun (u1:List AObj)=>(fun (u2:AV)=>(true=true->OpOk Tryd.prog R (Oper.mk none (Op.store 145 (Operand.tmp 2) (Operand.tmp 10)) 0 "table.go:214" #[Edge.mk 5 Ground.data,Edge.mk 3 Ground.data,Edge.mk 0 Ground.phase,Edge.mk 1 Ground.phase,Edge.mk 2 Ground.phase,Edge.mk 3 Ground.phase,Edge.mk 4 (Ground.textOnly Departure.lateStores),Edge.mk 5 Ground.phase] none) (evO [Row.mk (some 2) none (ref 3 0) true (some [3]) [],Row.mk (some 11) none (AV.bool true) false (some []) [],Row.mk (some 10) none u2 false (some []) [],Row.mk (some 7) none (tup 2 (nth [u2,AV.bool true])) false (some []) [],Row.mk (some 9) none (tup 2 (nth [u2,AV.bool true])) false (some []) [],Row.mk (some 8) none (ifc 145 u2) false (some []) []] [(0,ref 2 0),(1,ifc 145 u2),(6,AV.bool true)] []) u1 g any u1 g/\(false=true->Wp Tryd.prog R (bC Tryd.prog 100) 3 Rd.no (az Tryd.prog 100) [1,1,0,0,1,1,0] (aV Tryd.prog R (bC Tryd.prog 100) 3 Rd.no (az Tryd.prog 100) Q [Kont.seq [1,1,0,1]]) (St.mk [(0,ref 2 0),(1,ifc 145 u2),(13,AV.bool false)] u1 g))/\(false=false->1<=1/\(∀(c_1:Nat),c_1<1->nth [AV.bool false] c_1=ao c 0 1 (fun (x:Nat)=>AV.bool false) c_1)/\Q AEx.normal (St.mk [] [cO 27 (ad p v (AV.mp 1)),AObj.map es,cO 1 (nth [AV.bool false]),cO 0 (nth [])] g)))/\(true=false->Wp Tryd.prog R (bC Tryd.prog 100) 3 Rd.no (az Tryd.prog 100) [1,1,1] (aV Tryd.prog R (bC Tryd.prog 100) 3 Rd.no (az Tryd.prog 100) Q []) (St.mk [(0,ref 2 0),(1,ifc 145 u2),(6,AV.bool true)] [cO 27 (ad p v (AV.mp 1)),AObj.map es,cO 1 c] g))) (agg 0 (nth []))) ([cO 27 (ad p v (AV.mp 1)),AObj.map es,cO 1 c,cO 0 (nth [])])) ⟨fun _=>⟨?_,fun h=>(nomatch h),fun _=>⟨omg,(fun c hc=>match c,hc with|0,_=>krf ),?_⟩⟩,fun h=>(nomatch h)⟩
 ·exact wy rfl rfl rfl krf
 ·refine(av (bZ 3 _ _ rfl trivial omg trivial ⟨(fun _ _=>(by first|exact trivial|apply aZ)),(fun j hj=>match j,hj with|0,_=>trivial ),trivial⟩ krf rfl rfl) (AM _))
theorem sP (R:Res)(p:Prg)(v:Nat->Int)(es:List (Value × AV))(c:Nat->AV)(g:R.σ):DoesD Tryd.prog R 100 [.ref 2 0] (hpD p v es c) g none (hpD p v es c) g:=by
 refine qF (nt:=bC Tryd.prog 100) (rs:=cG Tryd.prog 100) (k0:=3) 4 1 krf krf krf rfl krf dcd dcd dcd dcd dcd ?_
 refine vcR [[1,1,0]] (lkL [(1,[0,1,6])]) (lkL [(1,[(1,ROrc.own (AV.bool false) (hpD p v es c) g)])]) (fun Q=>(fun (u1:List AObj)=>(fun (u2:St R.σ)=>OpOk Tryd.prog R (Oper.mk (some 6) (Op.binOp BinOp.neq 20 (Operand.tmp 5) (Operand.const Value.nilIface) 20) 4 "table.go:213" #[Edge.mk 0 Ground.data] none) (evO [Row.mk (some 5) none AV.nili false (some []) []] [(1,AV.nili),(0,ref 2 0)] []) u1 g (AV.bool false) u1 g/\(false=true->Wp Tryd.prog R (bC Tryd.prog 100) 3 Rd.no (az Tryd.prog 100) [1,1,0] (aV Tryd.prog R (bC Tryd.prog 100) 3 Rd.no (az Tryd.prog 100) Q []) u2)/\(false=false->Q AEx.normal u2)) (St.mk [(0,ref 2 0),(1,AV.nili),(6,AV.bool false)] u1 g)) ([cO 27 (ad p v (AV.mp 1)),AObj.map es,cO 1 c])) ⟨?_,fun h=>(nomatch h),fun _=>?_⟩
 ·exact vJ (ms:=#[]) rfl rfl rfl krf
 ·refine(av (aX _ _ rfl trivial rfl rfl rfl) (AM _))
theorem yX (R:Res)(p:Prg)(v:Nat->Int)(es:List (Value × AV))(s:Step)(n:Nat)(c:Nat->AV)(hl:p.rules.l.length<1000000)(hr:∀r,r∈p.rules.l->aE r)(h:cH p v s=false)(g:R.σ):Does Tryd.prog R 141 [bm s,.ref 0 0] [cO 27 (ad p v (.mp 1)),.map es,cO n c] g (.pan (.ifc 145 (.agg 0 (nth [])))) [cO 27 (ad p v (.mp 1)),.map es,cO n c] g:=
 fB [0,1] 3 (fun R g=>rR R p v es s hl hr h g) rfl rfl rfl ⟨AY (fun j hj=>(b9 (f:=au [0,1] 3) rfl).symm),rfl,trivial⟩ (by exact⟨dcd,trivial⟩) ⟨bp (by exact⟨⟨trivial,trivial⟩,trivial⟩),AM _,trivial⟩ (AN (by rfl)) ⟨AY (fun j hj=>b9 rfl),rfl,AP _,trivial⟩
theorem yY (R:Res)(p:Prg)(v:Nat->Int)(es:List (Value × AV))(s:Step)(hl:p.rules.l.length<1000000)(hr:∀r,r∈p.rules.l->aE r)(h:cH p v s=false)(g:R.σ):Does Tryd.prog R 67 [.ref 0 0,.ifc 149 (bm s)] [cO 27 (ad p v (.mp 1)),.map es] g (.ret (.bool false)) [cO 27 (ad p v (.mp 1)),.map es] g:=by
 refine jG (K:=100) (nt:=bC Tryd.prog 67) (rs:=cG Tryd.prog 67) (k0:=2) 5 [4] krf krf krf rfl krf krf dcd dcd ?_
 refine vcR [] (lkL [(0,[0,1,4])]) (fun _=>[]) (fun (Q:AEx->St R.σ->Prop)=>Q AEx.normal (St.mk [(0,ref 0 0),(1,ifc 149 (agg 2 (nth [i6 s.rule,fz s.atoms.2 1 (List.length s.atoms.l) fun (i x:Nat)=>af s.atoms.l i]))),(4,ref 2 0)] [cO 27 (ad p v (AV.mp 1)),AObj.map es,cO 1 fun (a:Nat)=>AV.bool false] g)) (?_)
 refine jH 3 [.ref 2 0] rfl rfl rfl ?_
 have hD:=fun (R:Res) (n:Nat) (c:Nat->AV) (g:R.σ)=>yX R p v es s n c hl hr h g
 refine vcR [] (lkL [(2,[4])]) (lkL [(2,[(2,ROrc.ipan (ifc 145 (agg 0 (nth []))) [cO 27 (ad p v (AV.mp 1)),AObj.map es,cO 1 fun (a:Nat)=>AV.bool false] g)])]) (fun Q=>(fun (u1:List AObj)=>(true=true/\true=true/\Does Tryd.prog R 141 [agg 2 (nth [i6 s.rule,fz s.atoms.2 1 (List.length s.atoms.l) fun i x=>af s.atoms.l i]),ref 0 0] u1 g (Oc.pan (ifc 145 (agg 0 (nth [])))) u1 g)/\Q (AEx.pan (ifc 145 (agg 0 (nth [])))) (St.mk [(4,ref 2 0)] u1 g)) ([cO 27 (ad p v (AV.mp 1)),AObj.map es,cO 1 fun a=>AV.bool false])) ⟨⟨krf,rfl,(hD _ _ _ _)⟩,?_⟩
 refine⟨_,_,oM R p v es _ g,?_⟩
 refine(av (bZ 2 (AV.bool false) ([0+(TyI.mk (TypeInfo.mk TypeDesc.bool "bool" 1 1 false 1 1 (some (Value.bool false)) true #[]).desc Tryd.prog.types[4].size Tryd.prog.types[4].bytes (cd (dk (Value.bool false))) (cL (TypeInfo.mk TypeDesc.bool "bool" 1 1 false 1 1 (some (Value.bool false)) true #[]).desc) (dI Tryd.prog 4)).size<=1]) krf (by exact⟨dcd,trivial⟩) omg trivial ⟨(fun _ _=>(by first|exact trivial|apply aZ)),trivial⟩ krf rfl rfl) (AM _))
theorem yZ {s:Step}(h:s.rule ≠ -1):de s=.ifc 149 (bm s):=if_neg h
theorem y0 (R:Res)(s:Step)(h:s.rule ≠ -1)(hp:List AObj)(g:R.σ):Does Tryd.prog R 68 [bm s] hp g (.ret (.ifc 149 (bm s))) hp g:=by
 rw[<-yZ h]
 exact lG R s hp g
theorem y7 (R:Res)(p:Prg)(v:Nat->Int)(es:List (Value × AV))(s:Step)(n0 n3:Nat)(c0 c3:Nat->AV)(hl:p.rules.l.length<1000000)(hr:∀r,r∈p.rules.l->aE r)(h:cH p v s=false)(g:R.σ):Does Tryd.prog R 67 [.ref 1 0,.ifc 149 (bm s)] [cO n0 c0,cO 27 (ad p v (.mp 2)),.map es,cO n3 c3] g (.ret (.bool false)) [cO n0 c0,cO 27 (ad p v (.mp 2)),.map es,cO n3 c3] g:=
 fB [1,2] 4 (fun R g=>yY R p v es s hl hr h g) rfl rfl rfl ⟨AY (fun j hj=>(b9 (f:=au [1,2] 4) rfl).symm),rfl,trivial⟩ (by exact⟨dcd,trivial⟩) ⟨AM _,bp (by exact⟨⟨trivial,trivial⟩,trivial⟩),trivial⟩ (AM _) ⟨AP _,AY (fun j hj=>b9 rfl),rfl,AP _,trivial⟩
theorem y8 (R:Res)[Tab LT R](p:Prg)(l:KL Step)(hb:aD p=true)(hll:0<l.l.length/\l.l.length<1000000)(h1:(l.l.getD 0 default).rule ≠ -1)(h2:cH p (fun _=>3) (l.l.getD 0 default)=false)(g:R.σ):Does Tryd.prog R 23 [aw p,ax l] [] g (.ret (.tup 2 (nth [.int .i64 0,.int .i64 7]))) [] g:=by
 obtain⟨hl,hr,hp,hh,hx⟩:=eK hb
 have hs:em p:=gl hb
 have hp':1<=p.atoms/\p.atoms<=24:=hp
 refine spW (nt:=28) (rs:=[.tmp 4,.tmp 5]) (k0:=0) ?_
 have hc:((if aD p then(0:Int) else 2) != 0)=false:=by
  rw[hb]
  rfl
 refine vcR [[1,0,1,0]] (lkL [(0,[1,2]),(1,[1,2,11]),(3,[1,6]),(4,[6,14,15,16])]) (lkL [(1,[(1,ROrc.pcall (i6 (if aD p=true then 0 else 2)))]),(3,[(1,ROrc.call (ref 1 0) [cO 2 (nth [i6 p.atoms,ae p.rules]),cO 27 (ad p (fun (x:Nat)=>3) (AV.mp 2)),AObj.map (esF p.rules.l)] g)])]) (fun Q=>(fun (u1:AObj)=>(fun (u2:Int)=>(fun (u3:List AObj)=>2<=2/\(∀(hp:List AObj) (g:R.σ),true=true/\Does Tryd.prog R 16 [aw p] hp g (ret (i6 u2)) hp g)/\((u2 != 0)=true->WpC Tryd.prog R 28 0 23 [1,0,1,0] Q [Kont.seq [1,1]] (St.mk [(1,ax l),(2,ref 0 0),(11,AV.bool (u2 != 0))] [u1] g))/\((u2 != 0)=false->2<=2/\(true=true/\Does Tryd.prog R 66 [aw p] [u1] g (ret (ref 1 0)) u3 g)/\WpC Tryd.prog R 28 0 23 [1,1,1,0,1,0] Q [Kont.blk 0,Kont.seq [1,1,1,1]] (St.mk [(6,ref 1 0),(14,ax l),(15,i6 (↑(List.length l.l):Int)),(16,i6 0)] u3 g))) ([u1,cO 27 (ad p (fun (x:Nat)=>3) (AV.mp 2)),AObj.map (esF p.rules.l)])) (if aD p=true then 0 else 2)) (cO 2 (nth [i6 p.atoms,ae p.rules]))) ⟨omg,(fun _ _=>⟨rfl,(ga _ _ _ _ omg)⟩),fun hcc=>(nomatch (hc.symm.trans hcc)),fun _=>⟨omg,⟨rfl,(lW _ _ _ omg omg _)⟩,?_⟩⟩
 refine(bi krf (fun (i:Nat)=>⟨[(6,ref 1 0),(14,ax l),(15,i6 (l.l.length:Int)),(16,.int .i64 i)],[cO 2 (nth [.int .i64 p.atoms,ae p.rules]),cO 27 (ad p (fun _=>3) (.mp 2)),.map (esF p.rules.l)],g⟩) (fun (i:Nat)=>(i=0)) (fun (i:Nat)=>0) 0 (aY ⟨AM _,AM _,AM _,(AN krf),trivial⟩ rfl rfl) ?_ (fun i hi=>?_))
 ·rfl
 ·subst hi
  have hD:=fun (R:Res) (n0 n3:Nat) (c0 c3:Nat->AV) (g:R.σ)=>y7 R p (fun _=>3) (esF p.rules.l) (l.l.getD 0 default) n0 n3 c0 c3 hl hr h2 g
  refine vcR [[1,1,1,0,1,0,0,1,1,0,0,1,1,1]] (lkL [(5,[6,14,15,16,17]),(6,[6,7,8,14,15,16]),(7,[6,7,14,15,16,25]),(8,[4,5])]) (lkL [(6,[(5,ROrc.val (Orc.obj (nth [i6 (List.getD l.l 0 default).rule,fz (List.getD l.l 0 default).atoms.2 1 (List.length (List.getD l.l 0 default).atoms.l) fun (i x:Nat)=>af (List.getD l.l 0 default).atoms.l i])))]),(7,[(2,ROrc.pcall (ifc 149 (bm (List.getD l.l 0 default)))),(3,ROrc.kcall (AV.bool false))])]) (fun Q=>(fun (u1:List AV)=>(fun (u2:List AObj)=>(fun (u3:Int)=>(fun (u4:Int)=>(decide (u4<u3)=true->(0<=u4/\u4<u3)/\2<=2/\2<=2/\(∀(c:Nat),c<2->nth u1 c=ao (nth [i6 0,fz Fz.nil 0 0 fun x x_1=>any]) 0 2 (List.brecOn (motive:=fun (x:List AV)=>Nat->AV) u1 nth._f) c)/\2<=2/\(∀(hp:List AObj) (g:R.σ),true=true/\Does Tryd.prog R 68 [agg 2 (nth u1)] hp g (ret (ifc 149 (agg 2 (nth u1)))) hp g)/\(true=true/\Does Tryd.prog R 67 [ref 1 0,ifc 149 (agg 2 (nth u1))] u2 g (ret (AV.bool false)) u2 g)/\(true=true->Q AEx.ret (St.mk [(4,i6 u4),(5,i6 7)] u2 g))/\(true=false->WpC Tryd.prog R 28 0 23 [1,1,1,0,1,0,0,1,1,0,0,1,1,1] Q [Kont.blk 1,Kont.seq [1,1,1,0,1,0,0,1,1,1]] (St.mk [(6,ref 1 0),(7,i6 u4),(14,ax l),(15,i6 u3),(16,i6 u4),(25,AV.bool true)] u2 g)))/\(decide (u4<u3)=false->Q (AEx.exit 0) (St.mk [(6,ref 1 0),(14,ax l),(15,i6 u3),(16,i6 u4),(17,AV.bool (decide (u4<u3)))] [cO 2 (nth [i6 p.atoms,ae p.rules]),cO 27 (ad p (fun (x:Nat)=>3) (AV.mp 2)),AObj.map (esF p.rules.l)] g))) ((↑0:Int))) ((↑(List.length l.l):Int))) ([cO 2 (nth [i6 p.atoms,ae p.rules]),cO 27 (ad p (fun (x:Nat)=>3) (AV.mp 2)),AObj.map (esF p.rules.l),cO 2 (nth u1)])) ([i6 (List.getD l.l 0 default).rule,fz (List.getD l.l 0 default).atoms.2 1 (List.length (List.getD l.l 0 default).atoms.l) fun i x=>af (List.getD l.l 0 default).atoms.l i])) ⟨fun c1=>have c1:(↑0:Int)<(↑(List.length l.l):Int):=(of_decide_eq_true c1);⟨omg,omg,omg,(fun c hc=>match c,hc with|0,_=>krf|1,_=>krf ),omg,(fun _ _=>⟨rfl,(y0 _ _ omg _ _)⟩),⟨rfl,(hD _ _ _ _ _ _)⟩,fun _=>?_,fun h=>(nomatch h)⟩,fun c1=>have c1:¬(↑0:Int)<(↑(List.length l.l):Int):=(of_decide_eq_false c1);?_⟩
  ·refine⟨_,A0 _,(av (bE _ _ rfl trivial ⟨⟨trivial,trivial⟩,trivial⟩ rfl) (AM _))⟩
  ·exfalso;omega
def y9 (v:List Int)(l:Lit):Bool:=if l.neg then v.getD l.atom.toNat 0==1 else v.getD l.atom.toNat 0==2
def za (v:List Int)(l:Lit):Bool:=if l.neg then v.getD l.atom.toNat 0==2 else v.getD l.atom.toNat 0==1
def zb (v:List Int)(r:Rule):Bool:= !r.body.l.any (fun l=> !y9 v l)
def oN (l:List Bool):Nat->AV:=fun j=>.bool (l.getD j false)
theorem rj {k:Nat}(l:List Bool)(j:Nat):Below k (oN l j):=trivial
theorem rx {f:Nat->Nat}(h:True){l:List Bool}{j:Nat}:aI f (oN l j)=oN l j:=rfl
def zc (v:List Int)(s:List Bool)(l:Lit):Bool:=za v l||(!l.neg&&s.getD l.atom.toNat false)
def zd (v:List Int)(s:List Bool)(r:Rule):Bool:= !r.body.l.any (zc v s)
def sQ (v:List Int)(s:List Bool)(r:Rule):Bool:=s.getD r.head.toNat false&&zd v s r
def ze (s:List Bool)(n:Nat):List Int:=((List.range n).filter fun k=>s.getD k false).map fun (k:Nat)=>(k:Int)
def zf (s:Step):Int:=if s.rule = -1 then 1 else 2
def zg (x:Int)(v:List Int)(l:List Int):List Int:=l.foldl (fun v a=>v.set a.toNat x) v
def zh (v:List Int)(s:Step):List Int:=zg (zf s) v s.atoms.l
def sR (v:List Int)(s:List Bool)(r:Rule):List Bool:=if sQ v s r then s.set r.head.toNat false else s
def zi (v:List Int)(s:List Bool)(l:List Rule):List Bool:=l.foldl (sR v) s
def grCh (v:List Int):List Rule->List Bool->Bool
 |[],_=>false
 |r::l,s=>sQ v s r||grCh v l (sR v s r)
def sS (v:List Int)(p:Prg):Nat->List Bool->List Bool
 |0,s=>s
 |n+1,s=>if grCh v p.rules.l s then sS v p n (zi v s p.rules.l) else s
def zj (v:List Int):List Bool:=v.map (fun x=>x==3)
def grR (v:List Int)(p:Prg):List Bool:=sS v p (v.length+1) (zj v)
def zk (v:List Int)(r:Rule):Bool:=v.getD r.head.toNat 0==3&&zb v r
def l4 (v:List Int)(p:Prg):Int:=aC (zk v) p.rules.l 0
def sT (v:List Int)(p:Prg):List Int:=ze (grR v p) v.length
def oO (v:List Int)(p:Prg):Stp:=if 0<=l4 v p then⟨l4 v p,[(p.rules.l.getD (l4 v p).toNat default).head]⟩ else⟨-1,sT v p⟩
def sU (v:List Int)(p:Prg):Bool:=decide (0<=l4 v p)||decide (0<(sT v p).length)
def kf (l:List Stp):Nat->AV:=fun c=>bif Nat.beq (c%2) 0 then .int .i64 (l.getD (c/2) default).rule else ah ⟨(l.getD (c/2) default).atoms,.auto⟩
theorem rm {k:Nat}(l:List Stp)(j:Nat):Below k (kf l j):=by
 unfold kf
 cases Nat.beq (j%2) 0 <;> trivial
theorem rz {f:Nat->Nat}(h:True){l:List Stp}{j:Nat}:aI f (kf l j)=kf l j:=by
 unfold kf
 cases Nat.beq (j%2) 0 with
 |true=>rfl
 |false=>rfl
def oP (p:Prg):Nat->List Int->List Stp->List Stp × List Int
 |0,v,l=>(l,v)
 |n+1,v,l=>if sU v p then oP p n (zh v (cJ (oO v p))) (l++[oO v p]) else(l,v)
def zl (p:Prg)(n:Nat):List Stp × List Int:=oP p (n+1) (List.replicate n 3) []
def sV (v:List Int):Nat:=v.count 3
structure DerOk (p:Prg)(n:Nat)(x:Nat × List Int × List Stp × Step × Bool):Prop where
 num:x.1=x.2.2.1.length
 len:x.2.1.length=n
 step:x.2.2.2.1=cJ (oO x.2.1 p)
 is:x.2.2.2.2=sU x.2.1 p
 few:x.1+sV x.2.1<=n
 der:∃f,sV x.2.1<f/\oP p f x.2.1 x.2.2.1=zl p n
structure Agr (n:Nat)(v:List Int)(f:Nat->Int):Prop where
 len:v.length=n
 get:∀j,j<n->v.getD j 0=f j
 val:∀j,j<n->f j=1∨f j=2∨f j=3
def blk (f:Nat->Int)(m:Nat->Bool)(l:Lit):Bool:=bc f l==1||(!l.neg&&m l.atom.toNat)
theorem zm {f:Nat->Int}{m m':Nat->Bool}{l:Lit}(h:∀j,m j=true->m' j=true)(hb:blk f m l=true):blk f m' l=true:=by
 unfold blk at hb ⊢
 rw[Bool.or_eq_true,Bool.and_eq_true] at hb ⊢
 rcases hb with hb|⟨h1,h2⟩
 ·exact .inl hb
 ·exact .inr ⟨h1,h _ h2⟩
def kg (p:Prg)(f:Nat->Int)(m:Nat->Bool):Prop:=∀r,r∈p.rules.l->m r.head.toNat=true->r.body.l.any (blk f m)=true
theorem zn {U:Type}{q q':U->Bool}{l:List U}(h:∀x,q x=true->q' x=true)(hq:l.any q=true):l.any q'=true:=by
 rw[List.any_eq_true] at hq ⊢
 obtain⟨x,h1,h2⟩:=hq
 exact⟨x,h1,h x h2⟩
section
variable {p:Prg}{n:Nat}{v:List Int}{f:Nat->Int}
theorem kh {l:List Rule}{a:Int}{r:Rule}:r∈ofH l a↔r∈l/\r.head=a:=by
 unfold ofH
 rw[List.mem_filter,beq_iff_eq]
theorem oQ (hh:∀r,r∈p.rules.l->0<=r.head){m:Nat->Bool}(hu:kg p f m):∀{l:List Nat} {s:Nat},s<2^24->(∀a,a∈l->a<24)->(∀j,m j=true->s.testBit j=true)->∀j,m j=true->(di p f s l).testBit j=true
 |[],_,_,_,h=>h
 |a::l,s,hs,hl,h=>by
  show ∀j,m j=true->(di p f (if (ofH p.rules.l (a:Int)).any (a8 f s) then clr s a else s) l).testBit j=true
  have hl':∀b,b∈l->b<24:=fun b hb=>hl b (List.mem_cons_of_mem _ hb)
  have ha:=hl a List.mem_cons_self
  split
  ·rename_i hg
   refine oQ hh hu (Nat.lt_of_le_of_lt (iI hs) hs) hl' (fun j hj=>?_)
   rw[oe hs ha,h j hj,Bool.true_and,decide_eq_true_eq]
   intro e
   subst e
   obtain⟨r,h1,h2⟩:=List.any_eq_true.1 hg
   obtain⟨h3,h4⟩:=kh.1 h1
   have h5:=zn (l:=r.body.l) (fun l hb=>zm h hb) (hu r h3 (by rw[h4];simpa using hj))
   unfold a8 at h2
   rw[Bool.not_eq_true'] at h2
   have h6:r.body.l.any (eq f s)=r.body.l.any (blk f s.testBit):=rfl
   rw[h6,h5] at h2
   cases h2
  ·exact oQ hh hu hs hl' h
theorem sW (hh:∀r,r∈p.rules.l->0<=r.head){m:Nat->Bool}(hu:kg p f m):∀{k s:Nat},s<2^24->(∀j,m j=true->s.testBit j=true)->∀j,m j=true->(d7 p f k s).testBit j=true
 |0,_,_,h=>h
 |k+1,s,hs,h=>fun j hj=>by
  show(if bR p f s=s then s else d7 p f k (bR p f s)).testBit j=true
  split
  ·exact h j hj
  ·exact sW hh hu (Nat.lt_of_le_of_lt (fI hs) hs) (fun j hj=>oQ hh hu hs (fun a ha=>iJ ha) h j hj) j hj
theorem zo (hp:bA p)(hh:∀r,r∈p.rules.l->0<=r.head){m:Nat->Bool}(hu:kg p f m)(ho:∀j,m j=true->j<p.atoms.toNat/\f j=3){j:Nat}(hj:m j=true):(gre p f).testBit j=true:=by
 have:=hp.2
 refine sW hh hu (iK omg) (fun j hj=>?_) j hj
 obtain⟨h1,h2⟩:=ho j hj
 rw[gi,decide_eq_true h1,decide_eq_true h2]
 rfl
theorem zp (hp:bA p)(hr:∀r,r∈p.rules.l->aE r):kg p f (fun j=>(gre p f).testBit j):=by
 intro r h hm
 have hg:=oi f hp
 obtain⟨_,_,h3⟩:=gj f hp
 have hk:=hr r h
 have hm:(gre p f).testBit r.head.toNat=true:=hm
 unfold dg at hg
 rw[Bool.not_eq_true',List.any_eq_false] at hg
 have h1:=hg r.head.toNat (Tb.mem_memN.2 ⟨gf h3 hm,hm⟩)
 have h1:(ofH p.rules.l (r.head.toNat:Int)).any (a8 f (gre p f))=false:=by simpa using h1
 rw[List.any_eq_false] at h1
 have h2:=h1 r (kh.2 ⟨h,by have:=hk.2.1;omega⟩)
 unfold a8 at h2
 have h2:r.body.l.any (eq f (gre p f))=true:=by simpa using h2
 exact h2
end
end Go.Avm.Pack
namespace Go.Avm.Pack
open Go Go.Avm Go.Proofs
open Go.IntKind (i64 u64)
open Go.Avm.AV (int bool any fz fp sl ow ref fn ifc val agg tup)
open Go.Avm.AObj (cells dead)
open Go.Avm.Oc (ret)
set_option maxRecDepth 4000
def hgL (x:List Bool × Bool)(l:Lit):List Bool × Bool:=if x.1.getD l.atom.toNat false then x else(x.1.set l.atom.toNat true,true)
def hgU (x:List Bool × Bool)(r:Rule):List Bool × Bool:=if x.1.getD r.head.toNat false then r.body.l.foldl hgL x else x
def hgD (p:Prg)(s:List Bool):List Bool × Bool:=p.rules.l.foldl hgU (s,false)
def hgI (p:Prg):Nat->List Bool->List Bool
 |0,s=>s
 |k+1,s=>if (hgD p s).2 then hgI p k (hgD p s).1 else s
def hgR (p:Prg)(n a:Nat):List Bool:=hgI p (n+1) ((List.replicate n false).set a true)
def iQ (s:List Bool):Nat:=s.count false
structure HgS (x y:List Bool × Bool):Prop where
 len:y.1.length=x.1.length
 up:∀k,x.1.getD k false=true->y.1.getD k false=true
 ch:x.2=true->y.2=true
 cnt:iQ y.1<=iQ x.1
 less:y.2=true->x.2=false->iQ y.1<iQ x.1
 same:y.2=false->y.1=x.1
structure HgOk (p:Prg)(n a:Nat)(x:List Bool × Bool):Prop where
 len:x.1.length=n
 go:x.2=true->∃f,iQ x.1<f/\hgI p f x.1=hgR p n a
 stop:x.2=false->x.1=hgR p n a
def iR (l:List Bool):AV:=.fz .auto 1 l.length (fun i _=>.bool (l.getD i false))
theorem ru {k:Nat}(l:List Bool):Below k (iR l):=trivial
abbrev HG:=Nat->List Bool
def hgC (h:HG):Nat->AV:=fun i=>iR (h i)
theorem rn {k:Nat}(h:HG)(j:Nat):Below k (hgC h j):=trivial
theorem rA {f:Nat->Nat}(t:True){h:HG}{j:Nat}:aI f (hgC h j)=hgC h j:=rfl
end Go.Avm.Pack
namespace Go.Avm.Pack
open Go Go.Avm Go.Proofs Go.RowKit Go.Shelf
attribute [local go_sem] Oper.semAt_some
theorem zq (n:Nat)(hn:1<=n)(l s:Nat)(hs:s<2^24)(A:Addr)(FM:Mem)(ht:cU gsT FM)(J:Nat->World->Prop)(E:Ending->World->Prop)(K:Nat)
  (hJ:∀k W,J k W->W.cell? A=some (.int .u64 (Tb.cutN s k))/\W.frozen? A=false/\(∀b o,FM b=some o->W.heap[b]? = some o))
  (hJg:∀k W W',J k W->W.grownBy W' none->J k W')
  (hY:∀k W,k<K->k<(ak s).length->J k W->YieldAt Fence.wide (n-1) Tryd.prog l #[.int .i64 ((ak s).getD k 0)] W fun e W'=>e=.returned (.bool true)/\W'.cell? A=some (.int .u64 (Tb.cutN s k))/\W'.frozen? A=false/\J (k+1) (W'.setCell A (.int .u64 (Tb.cutN s (k+1)))))
  (hE:∀W,K<(ak s).length->J K W->YieldAt Fence.wide (n-1) Tryd.prog l #[.int .i64 ((ak s).getD K 0)] W fun e W'=>(e=.returned (.bool false)∨∃ch,e=.panicked ch)/\E e W')
  (W:World) (h0:J 0 W) :
  CallsIn Fence.wide n Tryd.prog 105 #[.func (.yield l) #[] #[],.pointer (some A)] W fun e W'=>((ak s).length<=K/\(∃v,e=.returned v)/\J (ak s).length W')∨(K<(ak s).length/\(((∃v,e=.returned v)/\E (.returned (.bool false)) W')∨∃ch,e=.panicked ch/\E (.panicked ch) W')):=by
 refine callsIn_of_wp Tryd.func105 rfl trivial ?_ rfl
 simp only[Tryd.ntmps105,List.size_toArray,List.length_cons,List.length_nil,Nat.reduceAdd,Nat.reduceSub,Array.replicate_succ,Array.replicate_zero,List.push_toArray,List.append_toArray,List.nil_append,List.cons_append]
 gi_wp2
 gi_loopw [] (fun wr=>∃k,k<=(ak s).length/\k<=K/\J k wr) (fun wr=>match wr.cell? A with|some (.int _ v)=>v.toNat|_=>0)
 case atStart=>exact⟨0,Nat.zero_le _,Nat.zero_le _,h0⟩
 case round=>
  obtain⟨k,hk,hkK,hJk⟩:=hrel
  obtain⟨hc,hf,hFM⟩:=hJ k wr hJk
  have hlt:=Tb.cutN_lt hs k
  rcases Nat.lt_or_ge k (ak s).length with hkl|hkl
  ·obtain⟨m,hm⟩:=Tb.cutN_in hs hkl
   have k1:0<Tb.cutN s k:=by
    rw[hm]
    exact Nat.mul_pos (Nat.pow_pos (by decide)) (by omega)
   have k2:=ly hm hlt
   clear hm
   have hz:¬((Tb.cutN s k:Nat):Int)=0:=by omega
   have htz:=fun m=>rV m (Tb.cutN s k) k1 hlt wr FM hFM ht
   rcases Nat.lt_or_ge k K with hlK|hgK
   ·have hYk:=fun W=>hY k W hlK hkl
    obtain⟨x,hx⟩:∃x,(ak s).getD k 0=x:=⟨_,rfl⟩
    rw[hx] at k2
    simp only[hx] at hYk
    simp only[k2] at htz
    gi_wp2
    refine⟨trivial,(htz _).mono ?_⟩
    rintro e w' ⟨rfl,hg⟩
    have hJ':=hJg k wr w' hJk hg
    obtain⟨hc',hf',hFM'⟩:=hJ k w' hJ'
    obtain⟨fn,tmps,assign,body,hy,hR⟩:=hYk w' hJ'
    dsimp only
    gi_wp2
    refine hR.mono ?_
    rintro e W3 ⟨rfl,hc3,hf3,hJ3⟩
    dsimp only
    gi_wp2
    have hb:bits .and .u64 ((Tb.cutN s k:Nat):Int) (((Tb.cutN s k:Nat):Int)-1)=((Tb.cutN s (k+1):Nat):Int):=rW _ hlt k1
    rw[hb]
    refine⟨⟨k+1,hkl,hlK,hJ3⟩,?_⟩
    rw[(hJ _ _ hJ3).1,hc]
    show((Tb.cutN s (k+1):Nat):Int).toNat<((Tb.cutN s k:Nat):Int).toNat
    have:Tb.cutN s (k+1)<=Tb.cutN s k-1:=Nat.and_le_right
    omega
   ·have hkK:K=k:=by omega
    subst hkK
    have hYk:=fun W=>hE W hkl
    obtain⟨x,hx⟩:∃x,(ak s).getD K 0=x:=⟨_,rfl⟩
    rw[hx] at k2
    simp only[hx] at hYk
    simp only[k2] at htz
    gi_wp2
    refine⟨trivial,(htz _).mono ?_⟩
    rintro e w' ⟨rfl,hg⟩
    have hJ':=hJg K wr w' hJk hg
    obtain⟨hc',hf',hFM'⟩:=hJ K w' hJ'
    obtain⟨fn,tmps,assign,body,hy,hR⟩:=hYk w' hJ'
    dsimp only
    gi_wp2
    refine hR.mono ?_
    rintro e W3 ⟨he,hE3⟩
    rcases he with rfl|⟨ch,rfl⟩
    ·dsimp only
     gi_wp2
     (try simp only[Exit.inBlock,Exit.then])
     refine bodyPost_ret (results_none rfl _ _ _) rfl ?_
     exact .inr ⟨hkl,.inl ⟨⟨_,rfl⟩,hE3⟩⟩
    ·exact⟨rfl,.inr ⟨hkl,.inr ⟨ch,rfl,hE3⟩⟩⟩
  ·have hz:((Tb.cutN s k:Nat):Int)=0:=by rw[show k=(ak s).length by omega,Tb.cutN_end hs];rfl
   have hkk:k=(ak s).length:=by omega
   subst hkk
   gi_wp2
   go_end0
   exact .inl ⟨hkK,⟨_,rfl⟩,hJk⟩
end Go.Avm.Pack
namespace Go.Avm.Pack
open Go Go.Avm Go.Proofs
open Go.IntKind (i64 u64)
open Go.Avm.AV (int bool any fz fp sl ow ref fn ifc val agg tup)
open Go.Avm.AObj (cells dead)
open Go.Avm.Oc (ret)
set_option maxRecDepth 4000
end Go.Avm.Pack
namespace Go.Avm.Pack
open Go Go.Avm Go.Proofs Go.RowKit Go.Shelf
section
variable {R:Res}
theorem sX [Tab LT R]{nt k0:Nat}{Q:AEx->St R.σ->Prop}{s:St R.σ}{t:Nat}{ps:Array Tmp}{assign body:Code}{fa fb:Nat->AV}{m S K:Nat}{H:List AObj}{fn:FuncId}
  (hf:lk s.fr t=.fn 105 0 fa 1 fb) (hfb:fb 0=.ref m 0) (hS:S<2^24) (h0:s.hp=H++[.cells false 1 (fun _=>.int .u64 S)]) (hl:H.length=m)
  (hlive:dE (H++[.cells false 1 (fun _=>.int .u64 S)])) (hBO:e7 m H) (hlen:1=ps.toList.length) (hlt:bF ps.toList nt=true) (ts:List Nat) (hBf:f6 ts (fun t=>Below m (lk s.fr t)))
  (hround:∀k,k<K->k<(ak S).length->lj Tryd.prog R nt assign body none H s.g ⟨cP ps.toList [.int .i64 (((ak S).getD k 0:Nat):Int)] (dP ts s.fr),H,s.g⟩)
  (hlast:K<(ak S).length->∀l,wpA Tryd.prog R nt (m+1) (.inr l) assign (fun e s1=>e=.normal/\wpA Tryd.prog R nt s1.hp.length (.inr l) body (jQ ((Tryd.prog.funcs[fn]?).isSome=true) (fun e s3=>Q e ⟨s.fr,s3.hp,s3.g⟩)) s1) ⟨cP ps.toList [.int .i64 (((ak S).getD K 0:Nat):Int)] s.fr,H++[.dead],s.g⟩)
  (hdone:(ak S).length<=K->Q .normal ⟨s.fr,H++[.dead],s.g⟩) {C:Cx R} (hC:C.Z.length=k0/\C.df.out=true) {n:Nat} {a:Act} {w:World} (hH:dV R C nt s a w) :
  rg (Fw .top) n Tryd.prog (.tmp t) ps assign body (dM R C nt Q) a w fn:=by
 obtain⟨FM,Z,hs⟩:=hH
 obtain⟨D,hD⟩:∃D,D=w.heap.size:=⟨_,rfl⟩
 obtain⟨L,hL⟩:∃L,L=w.heap.size+1:=⟨_,rfl⟩
 have hne:D≠L:=by omega
 obtain⟨rec,hrec⟩:∃rec:LoopState->Option Code->Loop,rec=fun st pe=>{ state:=st,pending:=pe,fn,tmps:=a.tmps,params:=ps,assign,body,defers:=D }:=⟨_,rfl⟩
 obtain⟨W1,hW1⟩:∃W1,(w.alloc (.deferred (some []))).alloc (.loop (rec .ready none))=W1:=⟨_,rfl⟩
 have hL1:W1.heap[L]? = some (.loop (rec .ready none)):=by
  rw[<-hW1,hL];have:=World.alloc_heap_new (w.alloc (.deferred (some []))) (.loop (rec .ready none));rwa [World.size_alloc] at this
 have hD1:W1.heap[D]? = some (.deferred (some [])):=by
  rw[<-hW1,hD];exact(_root_.Go.RowKit.Below.heap_alloc _ _ _ (by simp)).trans (World.alloc_heap_new w _)
 have hsz1:W1.heap.size=w.heap.size+2:=by rw[<-hW1];simp
 obtain⟨okA,goA⟩:=im hs.ok (.deferred (some []))
 obtain⟨ok1,goB⟩:=im okA (.loop (rec .ready none))
 have go1:=goA.trans goB
 rw[hW1] at ok1 go1
 obtain⟨o,ho⟩:∃o:AObj,o=.cells false 1 (fun _=>.int .u64 S):=⟨_,rfl⟩
 rw[<-ho] at h0 hlive
 have hlen0:s.hp.length=m+1:=by rw[h0];simp[hl]
 have hZl:Z.length=m+1:=by rw[hs.ok.rel.len,hlen0]
 obtain⟨pb,hpb⟩:∃pb,Z[m]? = some pb:=⟨_,List.getElem?_eq_getElem (by omega)⟩
 obtain⟨Z0,hZ0⟩:∃Z0,Z0=Z.take m:=⟨_,rfl⟩
 have hsub0:Sub Z0 Z:=fun i p hi=>by
  rw[hZ0,List.getElem?_take] at hi
  split at hi
  ·exact hi
  ·cases hi
 have hlt0:∀{i p},Z0[i]? = some p->i<m:=fun {i p} hi=>by
  rw[hZ0,List.getElem?_take] at hi
  split at hi
  ·assumption
  ·cases hi
 have hInB:∀b,InB Z b↔InB Z0 b∨InB [pb] b:=fun b=>by
  constructor
  ·rintro ⟨p,hp,hb,hre⟩
   obtain⟨i,hi⟩:=List.getElem?_of_mem hp
   have:i<m+1:=by rw[<-hZl];exact(List.getElem?_eq_some_iff.1 hi).1
   rcases Nat.lt_or_ge i m with h|h
   ·exact .inl ⟨p,List.mem_of_getElem? (i:=i) (by rw[hZ0,List.getElem?_take,if_pos h];exact hi),hb,hre⟩
   ·have:i=m:=by omega
    subst this
    rw[hpb] at hi;cases hi
    exact .inr ⟨pb,by simp,hb,hre⟩
  ·rintro (⟨p,hp,hb,hre⟩|⟨p,hp,hb,hre⟩)
   ·obtain⟨i,hi⟩:=List.getElem?_of_mem hp
    exact⟨p,bq (hsub0 i p hi),hb,hre⟩
   ·have:p=pb:=by simpa using hp
    subst this
    exact⟨p,bq hpb,hb,hre⟩
 have hgo:∀i,i<m->ag s.hp i=ag H i:=fun i hi=>by rw[h0,jy (by rw[hl];exact hi)]
 have hgm:ag s.hp m=o:=by rw[h0,jz (by rw[hl];exact Nat.le_refl _),hl,Nat.sub_self];rfl
 have hlv:∀i,i<m+1->aL (ag s.hp i)=true:=fun i hi=>by rw[h0];exact jB hlive i (by simp[hl];omega)
 have rel0:∀W,HRel FM Z s.hp W->HRel FM Z0 H W:=fun W hr=>by
  refine⟨hr.fm,by rw[hZ0,List.length_take,hl,hZl];omega,fun i p hi=>?_,fun i j p q hi hj _ _ e=>hr.inj i j p q (hsub0 i p hi) (hsub0 j q hj) (hlv i (by have:=hlt0 hi;omega)) (hlv j (by have:=hlt0 hj;omega)) e⟩
  obtain⟨k1,k2⟩:=hr.obj i p (hsub0 i p hi)
  rw[hgo i (hlt0 hi)] at k2
  refine⟨k1,?_⟩
  rw[hZ0]
  exact lg k2 (lf hBO i)
 have relI:∀W,HRel FM Z s.hp W->HRel FM [pb] [o] W:=fun W hr=>by
  refine⟨hr.fm,rfl,fun i p hi=>?_,fun i j p q hi hj _ _ _=>?_⟩
  ·have e:i=0:=by
    have:=(List.getElem?_eq_some_iff.1 hi).1
    simpa using this
   subst e
   have hi:pb=p:=by simpa using hi
   subst hi
   obtain⟨k1,k2⟩:=hr.obj m pb hpb
   rw[hgm] at k2
   refine⟨k1,?_⟩
   have:=lg (k:=0) k2 (by rw[ho];exact fun _ _=>trivial)
   exact lh (fun i p hi=>by simp at hi) this
  ·have e1:=(List.getElem?_eq_some_iff.1 hi).1
   have e2:=(List.getElem?_eq_some_iff.1 hj).1
   simp at e1 e2
   omega
 have hdis:∀b,InB [pb] b->¬InB Z0 b:=fun b ⟨p,hp,hb,hre⟩ ⟨q,hq,hb',hre'⟩=>by
  have:p=pb:=by simpa using hp
  subst this
  obtain⟨i,hi⟩:=List.getElem?_of_mem hq
  have:=hlt0 hi
  have:=hs.ok.rel.inj i m q p (hsub0 i q hi) hpb (hlv i (by omega)) (hlv m (by omega)) (by rw[hb,hb'])
  omega
 have nIn:∀X,w.heap.size<=X->¬InB Z X:=fun X hX ⟨p,hp,hb,hre⟩=>by
  obtain⟨i,hi⟩:=List.getElem?_of_mem hp
  have:=(hs.ok.rel.obj i p hi).1 hre
  omega
 have nB:∀X,w.heap.size<=X->¬R.B s.g X:=fun X hX hb=>by have:=(hs.ok.bd X hb).1;omega
 have nF:∀X,w.heap.size<=X->FM X=none:=fun X hX=>by
  cases hx:FM X with
  |none=>rfl
  |some o=>have:=(Array.getElem?_eq_some_iff.1 (hs.ok.rel.fm X o hx)).1;omega
 have hev:Den FM Z (.fn 105 0 fa 1 fb) (a.eval (.tmp t)):=by rw[<-hf];exact hs.fr t
 obtain⟨xs,ys,hu,hxs,hys,hda,hdb⟩:=hev
 have hfr0:∀t,Den FM Z0 (lk (dP ts s.fr) t) (a.tmps.getD t undef):=nC (fun t=>hs.fr t) (fun t ht=>nA hBf t ht) hZ0
 let u:Value:=.func (.yield L) #[] #[]
 let R2:Res:=eY (gK R D L rec) FM Z0
 let G2:R2.σ:=((s.g,.ready,none),H)
 let box:Nat->AObj:=fun k=>.cells false 1 (fun _=>.int .u64 (Tb.cutN S k))
 have hbox0:box 0=o:=ho.symm
 have hpreal:pb.2.1+1<=pb.2.2/\FM pb.1=none:=by
  obtain⟨k1,k2⟩:=hs.ok.rel.obj m pb hpb
  rw[hgm,ho] at k2
  obtain⟨cs,e,b1,b2,b3,b4,b5,b6⟩:=k2 (by omega)
  exact⟨by omega,b6 rfl⟩
 have hpin:InB [pb] pb.1:=⟨pb,by simp,rfl,by omega⟩
 obtain⟨A,hA⟩:∃A:Addr,A=⟨pb.1,pb.2.1,none⟩:=⟨_,rfl⟩
 let J:Nat->World->Prop:=fun k W=>∃FMk,Ok R2 [box k] G2 FMk [pb] W/\Goes R s.g FM Z w s.g FMk Z W/\Goes R2 G2 FM [pb] W1 G2 FMk [pb] W
 have okI:Ok R2 [box 0] G2 FM [pb] W1:=by
  rw[hbox0]
  refine⟨relI W1 ok1.rel,⟨⟨rel0 W1 ok1.rel,⟨ok1.j,hD1,hL1,⟨nF D (by omega),nF L (by omega)⟩,nB D (by omega),nB L (by omega)⟩,fun b hb=>?_⟩,fun _ _ h=>h⟩,fun b hb=>⟨?_,fun hI=>?_⟩⟩
  ·rcases hb with hb|rfl|rfl
   ·exact⟨(ok1.bd b hb).1,fun h=>(ok1.bd b hb).2 ((hInB b).2 (.inl h))⟩
   ·exact⟨by omega,fun h=>nIn _ (by omega) ((hInB _).2 (.inl h))⟩
   ·exact⟨by omega,fun h=>nIn _ (by omega) ((hInB _).2 (.inl h))⟩
  ·rcases hb with(hb|rfl|rfl)|⟨p,hp,hb,hre⟩
   ·exact(ok1.bd b hb).1
   ·omega
   ·omega
   ·obtain⟨i,hi⟩:=List.getElem?_of_mem hp
    rw[<-hb];exact(ok1.rel.obj i p (hsub0 i p hi)).1 hre
  ·rcases hb with(hb|rfl|rfl)|hb
   ·exact(ok1.bd b hb).2 ((hInB b).2 (.inr hI))
   ·exact nIn _ (by omega) ((hInB _).2 (.inr hI))
   ·exact nIn _ (by omega) ((hInB _).2 (.inr hI))
   ·exact hdis b hI hb
 have hB2:∀b,b<w.heap.size->R2.B G2 b->R.B s.g b∨InB Z0 b:=fun b hlt hb=>by
  rcases hb with(hb|rfl|rfl)|hb
  ·exact .inl hb
  ·omega
  ·omega
  ·exact .inr hb
 -- a step of the iterator's, told of the whole
 have goR:∀{FMa FMb:Mem} {Wa Wb:World},Goes R s.g FM Z w s.g FMa Z Wa->Goes R2 G2 FMa [pb] Wa G2 FMb [pb] Wb->Goes R s.g FM Z w s.g FMb Z Wb:=fun {FMa FMb Wa Wb} h k=>by
  refine⟨⟨fun b o hb=>k.ext.fm b o (h.ext.fm b o hb),fun b o hb=>?_,fun b hb=>.inl hb,fun b h1 h2 h3=>?_,Nat.le_trans h.ext.size k.ext.size,k.ext.os.trans h.ext.os,k.ext.tape.trans h.ext.tape,k.ext.output.trans h.ext.output⟩,fun b hb=>.inl hb,AZ _⟩
  ·rcases k.ext.grow b o hb with h1|h1|h1|h1
   ·exact h.ext.grow b o h1
   ·exact .inr (.inl (Nat.le_trans h.ext.size h1))
   ·exact .inr (.inr (.inl ((hInB b).2 (.inr h1))))
   ·rcases Nat.lt_or_ge b w.heap.size with hlt|hge
    ·rcases hB2 b hlt h1 with h2|h2
     ·exact .inr (.inr (.inr h2))
     ·exact .inr (.inr (.inl ((hInB b).2 (.inl h2))))
    ·exact .inr (.inl hge)
  ·refine(k.ext.keep b (Nat.lt_of_lt_of_le h1 h.ext.size) (fun hI=>h2 ((hInB b).2 (.inr hI))) (fun hb=>?_)).trans (h.ext.keep b h1 h2 h3)
   rcases hB2 b h1 hb with h4|h4
   ·exact h3 h4
   ·exact h2 ((hInB b).2 (.inl h4))
 have hJ:∀k W,J k W->W.cell? A=some (.int .u64 (Tb.cutN S k))/\W.frozen? A=false/\(∀b o,FM b=some o->W.heap[b]? = some o):=fun k W ⟨FMk,okk,_,_⟩=>by
  obtain⟨k1,k2⟩:=okk.rel.obj 0 pb rfl
  obtain⟨cs,e,b1,b2,b3,b4,_,b6⟩:=k2 (by omega)
  obtain⟨x,c1,c2,c3⟩:=b4 0 (by omega)
  have hx:x=.int .u64 (Tb.cutN S k):=c3
  subst hx
  refine⟨by rw[hA];simp only[World.cell?,b1];simpa using c1,by rw[hA];simp[World.frozen?,b1],fun b o hb=>okk.rel.fm b o (okk.j.2 b o hb)⟩
 have hJg:∀k W W',J k W->W.grownBy W' none->J k W':=fun k W W' ⟨FMk,okk,h1,h2⟩ hg=>
  let ⟨x1,x2⟩:=wz okk hg
  ⟨FMk,x1,goR h1 x2,h2.trans x2⟩
 have hset:∀k W,(∃FMk,Ok R2 [box k] G2 FMk [pb] W/\Goes R s.g FM Z w s.g FMk Z W/\Goes R2 G2 FM [pb] W1 G2 FMk [pb] W)->J (k+1) (W.setCell A (.int .u64 (Tb.cutN S (k+1)))):=fun k W ⟨FMk,okk,h1,h2⟩=>by
  obtain⟨k1,k2⟩:=okk.rel.obj 0 pb rfl
  obtain⟨cs,e,b1,b2,b3,b4,_,b6⟩:=k2 (by omega)
  have hAb:A.block=pb.1:=by rw[hA]
  have hAb':(⟨pb.1,pb.2.1,none⟩:Addr).block=pb.1:=rfl
  have hF:FMk pb.1=none:=b6 rfl
  have keep:∀b,b≠pb.1->(W.setCell A (.int .u64 (Tb.cutN S (k+1)))).heap[b]? = W.heap[b]?:= fun b hb=>RowKit.Below.heap_setCell _ _ _ b (by rw[hAb];exact hb)
  have hsz:(W.setCell A (.int .u64 (Tb.cutN S (k+1)))).heap.size=W.heap.size:=by
   show(W.heap.modify _ _).size=_
   rw[Array.size_modify]
  have hnew:(W.setCell A (.int .u64 (Tb.cutN S (k+1)))).heap[pb.1]? = some (.cells (cs.setIfInBounds pb.2.1 (.int .u64 (Tb.cutN S (k+1)))) e (0,0)):=by
   show(W.heap.modify A.block _)[pb.1]? = _
   rw[hAb,Array.getElem?_modify,b1,hA]
   simp
  have hrel:HRel FMk [pb] [box (k+1)] (W.setCell A (.int .u64 (Tb.cutN S (k+1)))):=by
   refine⟨fun b o hb=>(keep b (fun e=>by rw[e,hF] at hb;cases hb)).trans (okk.rel.fm b o hb),rfl,fun i p hi=>?_,fun i j p q hi hj _ _ _=>?_⟩
   ·have e0:i=0:=by
     have:=(List.getElem?_eq_some_iff.1 hi).1
     simpa using this
    subst e0
    have hi:pb=p:=by simpa using hi
    subst hi
    refine⟨fun h=>by rw[hsz];exact k1 h,fun _=>⟨_,e,hnew,by rw[Array.size_setIfInBounds];exact b2,by rw[Array.size_setIfInBounds];exact b3,fun j hj=>?_,fun h=>(by cases h),fun _=>hF⟩⟩
    have:j=0:=by omega
    subst this
    refine⟨.int .u64 (Tb.cutN S (k+1)),?_,rfl,rfl⟩
    show(cs.setIfInBounds pb.2.1 _)[pb.2.1]? = _
    rw[Array.getElem?_setIfInBounds_self_of_lt (by omega)]
   ·have e1:=(List.getElem?_eq_some_iff.1 hi).1
    have e2:=(List.getElem?_eq_some_iff.1 hj).1
    simp at e1 e2
    omega
  obtain⟨x1,x2⟩:=fw (hp':=[box (k+1)]) (Z':=[pb]) (w':=W.setCell A (.int .u64 (Tb.cutN S (k+1)))) okk hrel ⟨fun _ _ h=>h,fun _ _ h=>.inl h,fun _ h=>.inl h,fun b _ h _=>keep b (fun e=>h (by rw[e];exact hpin)),Nat.le_of_eq hsz.symm,rfl,rfl,rfl⟩ (AZ _)
  exact⟨FMk,x1,goR h1 x2,h2.trans x2⟩
 have hargI:∀(v:Nat) FMk (Zx:Plc),bS FMk Zx [.int .i64 (v:Int)] #[.int .i64 (v:Int)]:=fun v FMk Zx=>⟨rfl,fun i hi=>by
  have:i=0:=by simpa using hi
  subst this
  rfl⟩
 have hY:∀k W,k<K->k<(ak S).length->J k W->YieldAt Fence.wide (2-1) Tryd.prog L #[.int .i64 (((ak S).getD k 0:Nat):Int)] W fun e W'=>e=.returned (.bool true)/\W'.cell? A=some (.int .u64 (Tb.cutN S k))/\W'.frozen? A=false/\J (k+1) (W'.setCell A (.int .u64 (Tb.cutN S (k+1)))):=by
  rintro k W hk hkN ⟨FMk,okk,h1,h2⟩
  have hv:=qQ (P:=Tryd.prog) (R:=R) (L:=L) hrec hs.size hfr0 hne (items:=[.int .i64 (((ak S).getD k 0:Nat):Int)]) hlen hlt (by exact⟨trivial,trivial⟩) (jmp:=none) (hp:=H) (hp':=H) (g:=s.g) (g':=s.g) rfl (hround k hk hkN) [box k]
  rcases hv.h with⟨f,_,_,he,_⟩|⟨l,he,hq⟩
  ·cases he
  ·cases he
   obtain⟨fn',tmps',assign',body',hr,hR⟩:=hq FMk [pb] W _ okk (hargI _ _ _)
   refine⟨fn',tmps',assign',body',hr,(hR .top _).mono ?_⟩
   rintro e W' ⟨FM',Z',⟨v,rfl,hden⟩,okp,gop⟩
   obtain rfl:Z'=[pb]:=by
    have hl1:Z'.length=1:=okp.rel.len
    match Z',hl1 with
    |[q],_=>
     have:=gop.sub 0 pb rfl
     cases this;rfl
   have hj:J k W':=⟨FM',okp,goR h1 gop,h2.trans gop⟩
   obtain⟨j1,j2,_⟩:=hJ k W' hj
   refine⟨by rw[show v=_ from hden];rfl,j1,j2,hset k W' hj⟩
 have okDead:∀{k FMk W},Ok R2 [box k] G2 FMk [pb] W->Goes R s.g FM Z w s.g FMk Z W->Ok R (H++[.dead]) s.g FMk Z W/\W.heap[D]? = some (.deferred (some []))/\W.heap[L]? = some (.loop (rec .ready none))/\Nb R D s.g FMk Z W/\Nb R L s.g FMk Z W:=by
  intro k FMk W okk hg
  obtain⟨okL,hmono⟩:=okk.j
  obtain⟨jR,hD3,hL3,⟨fD,fL⟩,bD,bL⟩:=okL.j
  have okR:=nm okL
  have hgd:∀i,i<m->ag (H++[.dead]) i=ag H i:=fun i hi=>jy (by rw[hl];exact hi)
  have hgdm:ag (H++[.dead]) m=.dead:=by rw[jz (by rw[hl];exact Nat.le_refl _),hl,Nat.sub_self];rfl
  have hback:∀i p,Z[i]? = some p->(i<m/\Z0[i]? = some p)∨(i=m/\p=pb):=fun i p hi=>by
   have:i<m+1:=by rw[<-hZl];exact(List.getElem?_eq_some_iff.1 hi).1
   rcases Nat.lt_or_ge i m with h|h
   ·exact .inl ⟨h,by rw[hZ0,List.getElem?_take,if_pos h];exact hi⟩
   ·have:i=m:=by omega
    subst this
    rw[hpb] at hi;cases hi
    exact .inr ⟨rfl,rfl⟩
  have hnl:∀i p,Z[i]? = some p->aL (ag (H++[.dead]) i)=true->i<m/\Z0[i]? = some p:=fun i p hi hv=>by
   rcases hback i p hi with h|⟨rfl,rfl⟩
   ·exact h
   ·rw[hgdm] at hv;cases hv
  refine⟨⟨⟨okR.rel.fm,by rw[hZl];simp[hl],fun i p hi=>?_,fun i j p q hi hj hv1 hv2 e=>?_⟩,okR.j,fun b hb=>⟨(okR.bd b hb).1,fun hI=>?_⟩⟩,hD3,hL3,?_,?_⟩
  ·rcases hback i p hi with⟨h1,h2⟩|⟨rfl,rfl⟩
   ·obtain⟨k1,k2⟩:=okR.rel.obj i p h2
    rw[hgd i h1]
    exact⟨k1,lh hsub0 k2⟩
   ·rw[hgdm]
    refine⟨fun hre=>?_,trivial⟩
    have h1:=(hs.ok.rel.obj i p hi).1 hre
    have:=hg.ext.size
    omega
  ·obtain⟨a1,a2⟩:=hnl i p hi hv1
   obtain⟨b1,b2⟩:=hnl j q hj hv2
   rw[hgd i a1] at hv1
   rw[hgd j b1] at hv2
   exact okR.rel.inj i j p q a2 b2 hv1 hv2 e
  ·rcases(hInB b).1 hI with h|h
   ·exact(okR.bd b hb).2 h
   ·exact(okk.bd b (.inl (.inl hb))).2 h
  ·exact⟨(Array.getElem?_eq_some_iff.1 hD3).1,nIn D (by omega),bD,fD⟩
  ·exact⟨(Array.getElem?_eq_some_iff.1 hL3).1,nIn L (by omega),bL,fL⟩
 let C0:Cx R:=⟨s.g,FM,Z,w,[],false⟩
 have hE:∀W,K<(ak S).length->J K W->YieldAt Fence.wide (2-1) Tryd.prog L #[.int .i64 (((ak S).getD K 0:Nat):Int)] W fun e W'=>(e=.returned (.bool false)∨∃ch,e=.panicked ch)/\lq R C0 D L rec (fun e s3=>Q e ⟨s.fr,s3.hp,s3.g⟩) e W':=by
  rintro W hK ⟨FMk,okk,h1,h2⟩
  obtain⟨okd,hDW,hLW,nD,nL⟩:=okDead okk h1
  obtain⟨fn',tmps',assign',body',hr,hR⟩:=wC (P:=Tryd.prog) (R:=R) hrec (C:=C0) (by show w.heap.size<=D;omega) (by show w.heap.size<=L;omega) hne okd h1 hDW hLW nD nL hs.size (fun t=>A1 h1.ext.fm _ (AZ _) (hs.fr t)) (hargI ((ak S).getD K 0) FMk Z) hlen hlt
   (Q:=fun e s3=>Q e ⟨s.fr,s3.hp,s3.g⟩) (by have:=hlast hK L;rw[show(H++[AObj.dead]).length=m+1 by simp[hl]];exact this)
  refine⟨fn',tmps',assign',body',hr,(hR .top _).mono ?_⟩
  intro e W' he
  have he':=he
  rcases he' with⟨ex,j,s3,FM3,Z3,e1,_⟩|⟨x,v,s3,FM3,Z3,e1,_⟩
  ·exact⟨.inl e1,he⟩
  ·exact⟨.inr ⟨_,e1⟩,he⟩
 have hargs:(xs++#[u])++ys=#[.func (.yield L) #[] #[],.pointer (some A)]:=by
  have hxs0:xs=#[]:=Array.size_eq_zero_iff.1 hxs
  have hd0:=hdb 0 (by omega)
  rw[hfb] at hd0
  obtain⟨p,hp1,hp2⟩:=hd0
  rw[hpb] at hp1;cases hp1
  subst hxs0
  have hy:ys=#[.pointer (some A)]:=by
   refine Array.ext (by simp[hys]) (fun i h1 h2=>?_)
   have:i=0:=by simp at h2;omega
   subst this
   rw[Array.getD_eq_getD_getElem?,Array.getElem?_eq_getElem h1] at hp2
   rw[hA]
   simpa using hp2
  rw[hy]
  rfl
 have hcalls:=callsIn_wide.1 (zq 2 (by omega) L S hS A FM (Tab.h (T:=LT) hs.ok.j) J (lq R C0 D L rec (fun e s3=>Q e ⟨s.fr,s3.hp,s3.g⟩)) K hJ hJg hY hE W1 ⟨FM,okI,go1,AW _ _ _ _ _⟩)
 have hpl:cf Tryd.prog 105=true:=by kernel_rfl
 have hfn':∃fn,Tryd.prog.funcs[105]? = some fn/\fn.name ≠ "runtime.NumGoroutine"/\fn.body.isSome=true:=by
  unfold cf at hpl
  split at hpl
  ·rename_i fn hfn
   simp only[Bool.and_eq_true,bne_iff_ne,ne_eq] at hpl
   exact⟨fn,hfn,hpl.1,hpl.2⟩
  ·cases hpl
 obtain⟨fnF,hF1,hF2,hF3⟩:=hfn'
 have hF3':¬fnF.body=none:=fun h=>by rw[h] at hF3;cases hF3
 refine⟨L,[gz D],W1,{ target:=.fn (.func 105) ys,args:=xs++#[u] },W1,105,(xs++#[u])++ys,W1,?_,?_,fun _ _=>trivial,?_,fun h=>(by cases h),?_⟩
 ·rw[<-hW1,hrec,hD,hL];exact run_enterLoop_outer _ _ _ _ _
 ·simp[resolve,hu,Deferred.ofValue,u]
  rfl
 ·simp[invoke,callFunc,hF1,hF2,hF3']
 rw[hargs]
 refine(fT hcalls).mono ?_
 have hsat':∀{hp3:List AObj} {g3:R.σ} {FM3:Mem} {Z3:Plc} {W:World},Ok R hp3 g3 FM3 Z3 W->Goes R s.g FM Z w g3 FM3 Z3 W->W.heap[D]? = some (.deferred (some []))->Nb R D g3 FM3 Z3 W ->
   Sat R C nt ⟨s.fr,hp3,g3⟩ FM3 Z3 { a with defers:=[gz D]++a.defers } W:=by
  intro hp3 g3 FM3 Z3 W ok3 go4 hD3 nD
  refine⟨ok3,hs.goes.trans go4,hs.size,?_,fun t=>A1 go4.ext.fm _ go4.sub (hs.fr t)⟩
  obtain⟨ms,e1,e2,e3,e4⟩:=hs.defs
  refine⟨D::ms,by rw[e1];rfl,List.nodup_cons.2 ⟨fun hmem=>?_,e2⟩,fun h=>?_,fun X hX=>?_⟩
  ·have:=(Array.getElem?_eq_some_iff.1 (e4 D hmem).obj).1
   omega
  ·rw[hC.2] at h;cases h
  ·rcases List.mem_cons.1 hX with rfl|hX
   ·exact⟨hD3,nD.off,nD.offB,nD.nofm,by have:=hs.goes.ext.size;omega⟩
   ·exact(e4 X hX).goes go4
 have hsat:∀{hp3:List AObj} {g3:R.σ} {FM3:Mem} {Z3:Plc} {W:World} (st:LoopState) (pe:Option Code),Ok R hp3 g3 FM3 Z3 W->Goes R s.g FM Z w g3 FM3 Z3 W->W.heap[D]? = some (.deferred (some []))->Nb R D g3 FM3 Z3 W->Nb R L g3 FM3 Z3 W ->
   Sat R C nt ⟨s.fr,hp3,g3⟩ FM3 Z3 { a with defers:=[gz D]++a.defers } (W.putObj L (.loop { rec st pe with state:=.exhausted })):=by
  intro hp3 g3 FM3 Z3 W st pe ok3 go3 hD3 nD nL
  have go4:Goes R s.g FM Z w g3 FM3 Z3 (W.putObj L (.loop { rec st pe with state:=.exhausted })):=go3.put (by omega) _
  exact hsat' (iw _ nL.off nL.offB nL.nofm ok3) go4 ((World.putObj_heap_other hne).trans hD3) (nD.put _ _)
 rintro e w3 (⟨hNK,⟨v,rfl⟩,FMk,okk,h1,h2⟩|⟨hKN,⟨⟨v,rfl⟩,hL3⟩|⟨ch,rfl,hL3⟩⟩)
 ·obtain⟨okd,hD3,hL3,nD,nL⟩:=okDead okk h1
  have hend:=run_endLoop (P:=Tryd.prog) hL3 (by rw[hrec];intro h;cases h)
  obtain⟨p,w4,hend,hp,hw4⟩:∃p w4,(Instr.endLoop L).run Tryd.prog w3=.ok p w4/\p=none/\w4=w3.putObj L (.loop { rec .ready none with state:=.exhausted }):=⟨_,_,hend,by rw[hrec],rfl⟩
  subst hp
  have hs4:=hsat .ready none okd h1 hD3 nD nL
  rw[<-hw4] at hs4
  exact⟨none,w4,hend,_,hdone hNK,FMk,Z,hs4⟩
 ·rcases hL3 with⟨ex,j,s3,FM3,Z3,_,hj,hq,ok3,go3,hD3,hL3,nD,nL⟩|⟨_,_,_,_,_,he,_⟩
  rotate_left
  ·cases he
  have hend:=run_endLoop (P:=Tryd.prog) hL3 (by rw[hrec];intro h;cases h)
  obtain⟨p,w4,hend,hp,hw4⟩:∃p w4,(Instr.endLoop L).run Tryd.prog w3=.ok p w4/\p=some j/\w4=w3.putObj L (.loop { rec .done (some j) with state:=.exhausted }):=⟨_,_,hend,by rw[hrec],rfl⟩
  subst hp
  have hs4:=hsat .done (some j) ok3 go3 hD3 nD nL
  rw[<-hw4] at hs4
  refine⟨some j,w4,hend,?_⟩
  cases ex with
  |normal=>cases hj
  |pan v=>cases hj
  |ret=>cases hj;exact wpIn_ret ⟨_,hq,FM3,Z3,hs4⟩
  |exit id=>cases hj;exact wpIn_exit ⟨_,hq,FM3,Z3,hs4⟩
 ·rcases hL3 with⟨_,_,_,_,_,he,_⟩|⟨x,v,s3,FM3,Z3,he,hden,hq,ok3,go3,hD3,nD⟩
  ·cases he
  ·cases he
   exact⟨_,x,v,FM3,Z3,hq,hsat' ok3 go3 hD3 nD,rfl,hden⟩
theorem zr [Tab LT R]{nt k0:Nat}{Q:AEx->St R.σ->Prop}{s:St R.σ}{t:Nat}{ps:Array Tmp}{assign body:Code}{fa fb:Nat->AV}{m S K:Nat}{H:List AObj}
  (hf:lk s.fr t=.fn 105 0 fa 1 fb) (hfb:fb 0=.ref m 0) (hS:S<2^24) (h0:s.hp=H++[.cells false 1 (fun _=>.int .u64 S)]) (hl:H.length=m)
  (hlive:dE (H++[.cells false 1 (fun _=>.int .u64 S)])) (hBO:e7 m H) (hlen:1=ps.toList.length) (hlt:bF ps.toList nt=true) (ts:List Nat) (hBf:f6 ts (fun t=>Below m (lk s.fr t)))
  (hround:∀k,k<K->k<(ak S).length->lj Tryd.prog R nt assign body none H s.g ⟨cP ps.toList [.int .i64 (((ak S).getD k 0:Nat):Int)] (dP ts s.fr),H,s.g⟩)
  (hlast:K<(ak S).length->∀pok l,wpA Tryd.prog R nt (m+1) (.inr l) assign (fun e s1=>e=.normal/\wpA Tryd.prog R nt s1.hp.length (.inr l) body (jQ pok (fun e s3=>Q e ⟨s.fr,s3.hp,s3.g⟩)) s1) ⟨cP ps.toList [.int .i64 (((ak S).getD K 0:Nat):Int)] s.fr,H++[.dead],s.g⟩)
  (hdone:(ak S).length<=K->Q .normal ⟨s.fr,H++[.dead],s.g⟩) :
  wpA Tryd.prog R nt k0 .top (.rangeFunc (.tmp t) ps assign body) Q s:=fun _ hC _ _ _ hH=>wpIn_rangeFunc (fun _ _=>sX hf hfb hS h0 hl hlive hBO hlen hlt ts hBf hround (fun h=>hlast h _) hdone hC hH)
end
end Go.Avm.Pack
