/- Part 4 of the proof: lemmas. -/
import Derived.Test.YtbdagmhndndliaaDoorM3
namespace Go.Avm.Pack
open Go Go.Avm Go.Proofs
open Go.IntKind (i64 u64)
open Go.Avm.AV (int bool any fz fp sl ow ref fn ifc val agg tup)
open Go.Avm.AObj (cells dead)
open Go.Avm.Oc (ret)
set_option maxRecDepth 4000
theorem xA {P:Program}{R:Res}{o:Oper}{ev ev':Operand->AV}{hp hp':List AObj}{g g':R.σ}{v:AV}(h:OpOk P R o ev' hp g v hp' g')(hle:∀x,x∈o.op.operands->Le (ev x) (ev' x)):OpOk P R o ev hp g v hp' g':=
 ⟨fun FM Z w evc okw hop=>h.h FM Z w evc okw (fun x hx=>hle x hx _ _ _ (hop x hx))⟩
theorem xB (R:Res)(r:Int)(n N:Nat)(c:Nat->AV)(hc:∀j,j<N->Below 1 (c j))(hr:decide (r = -1)=true)(g:R.σ):Does Tryd.prog R 68 [.agg 2 (nth [.int .i64 r,.ow true 0 n 1])] [.cells false N c] g (.ret (.ifc 148 (.agg 2 (nth [.int .i64 r,.ow true 0 n 1])))) [.cells false N c] g:=by
 have hr:=of_decide_eq_true hr
 subst hr
 refine spW (nt:=12) (rs:=[.tmp 2]) (k0:=1) ?_
 refine vcR [[1,0,1,1]] (lkL [(0,[1]),(1,[1,5]),(2,[2])]) (fun _=>[]) (fun Q=>(fun (u1:List AObj)=>1<=2/\(true=true->2<=2/\Q AEx.ret (St.mk [(2,ifc 148 (agg 2 (nth [int i64 (-1),ow true 0 n 1])))] u1 g))/\(true=false->WpC Tryd.prog R 12 1 68 [1,0,1,1] Q [Kont.seq [1,1]] (St.mk [(1,ref 1 0),(5,AV.bool true)] u1 g))) ([cells false N c,cells false 2 (nth [int i64 (-1),ow true 0 n 1])])) ⟨omg,fun _=>⟨omg,?_⟩,fun h=>(nomatch h)⟩
 refine(aq (bg 1 _ _ rfl trivial omg ⟨⟨trivial,trivial⟩,(show 1<=1 by omega)⟩ ⟨(fun _ _=>?_),trivial⟩ krf rfl rfl) (zT _))
 exact hc _ (by assumption)
theorem xC (R:Res)(r:Int)(n N:Nat)(c:Nat->AV)(hc:∀j,j<N->Below 1 (c j))(hr:decide (r = -1)=false)(g:R.σ):Does Tryd.prog R 68 [.agg 2 (nth [.int .i64 r,.ow true 0 n 1])] [.cells false N c] g (.ret (.ifc 149 (.agg 2 (nth [.int .i64 r,.ow true 0 n 1])))) [.cells false N c] g:=by
 refine spW (nt:=12) (rs:=[.tmp 2]) (k0:=1) ?_
 refine vcR [] (lkL [(0,[1]),(1,[1,5]),(2,[2]),(3,[2])]) (fun _=>[]) (fun Q=>(fun (u1:List AV)=>1<=2/\((r == -1)=true->2<=2/\Q AEx.ret (St.mk [(2,ifc 148 (agg 2 (nth u1)))] [cells false N c,cells false 2 (nth u1)] g))/\((r == -1)=false->2<=2/\Q AEx.ret (St.mk [(2,ifc 149 (agg 2 (nth u1)))] [cells false N c,cells false 2 (nth u1)] g))) ([int i64 r,ow true 0 n 1])) ⟨omg,fun c1=>have c1:r = -1:=(beq_iff_eq.mp c1);⟨omg,?_⟩,fun c1=>have c1:¬r = -1:=(beq_eq_false_iff_ne.mp c1);⟨omg,?_⟩⟩
 ·exact absurd c1 (of_decide_eq_false hr)
 ·refine(aq (bg 1 _ _ rfl trivial omg ⟨⟨trivial,trivial⟩,(show 1<=1 by omega)⟩ ⟨(fun _ _=>?_),trivial⟩ krf rfl rfl) (zT _))
  exact hc _ (by assumption)
theorem bU {f:Nat->Nat}{p:Prg}{v:Nat->Int}{j m:Nat}(h:f 1=m):aF f (ae p v (.mp 1) j)=ae p v (.mp m) j:=by
 unfold ae
 split
 ·rfl
 ·split
  ·rfl
  ·split
   ·rfl
   ·show AV.mp (f 1)=_
    rw[h]
theorem lA (R:Res)(p:Prg)(o:AObj)(hl:p.rules.l.length<1000000)(hr:∀r,r∈p.rules.l->aK r)(g:R.σ):Does Tryd.prog R 66 [av p] [o] g (.ret (.ref 1 0)) [o,.cells false 27 (ae p (fun _=>3) (.mp 2)),.map (esF p.rules.l)] g:=
 fB [] 1 (fun R g=>w9 R p hl hr g) rfl rfl rfl trivial trivial ⟨bk (by exact⟨⟨trivial,trivial⟩,trivial⟩),trivial⟩ (zT _) ⟨zW _,z4 (fun j hj=>bU rfl),rfl,trivial⟩
theorem dT {k:Nat}(l:List Int)(j:Nat):Below k (ac l j):=trivial
theorem fG {f:Nat->Nat}(h:True){l:List Int}{j:Nat}:aF f (ac l j)=ac l j:=rfl
def bK (l:List Stp):Nat->AV:=fun c=>bif Nat.beq (c%2) 0 then .int .i64 (l.getD (c/2) default).rule else .ow true (3+c/2) (l.getD (c/2) default).atoms.length 1
def ab (l:List Stp)(j:Nat):AObj:=.cells false ((l.getD j default).atoms.length*1) (ac (l.getD j default).atoms)
def jQ (p:Prg)(v:Nat->Int)(l:List Stp):List AObj:=.cells false 27 (ae p v (.mp 1))::.map (esF p.rules.l)::.cells false (l.length*2) (bK l)::bA (ab l) []
theorem rq {f:Nat->AV}{g:Nat->AV}:LeO (.cells false 0 f) (.cells false 0 g):=⟨rfl,Nat.le_refl _,fun j hj=>absurd hj (Nat.not_lt_zero j)⟩
theorem xD (p:Prg):leH ([AObj.cells false 27 (ae p (fun _=>3) (.mp 1)),.map (esF p.rules.l)]++List.replicate 25 (.cells false 0 (fun _=>.any))) (jQ p (fun _=>3) []):=
 ⟨zW _,rfl,rq,q6 (f:=fun _=>.cells false 0 (fun _=>.any)) (fun j hj=>rq) trivial⟩
def er (l:List Stp)(s:Stp):Nat->AV:=fun c=>bif Nat.blt c (l.length*2) then bK l c else nth [.int .i64 s.rule,.ow true 28 s.atoms.length 1] (c-l.length*2)
def dy (m:Nat):List Nat:=[0,1,31,(bif Nat.beq 0 m then 28 else 3),(bif Nat.beq 1 m then 28 else 4),(bif Nat.beq 2 m then 28 else 5),(bif Nat.beq 3 m then 28 else 6),(bif Nat.beq 4 m then 28 else 7),(bif Nat.beq 5 m then 28 else 8),(bif Nat.beq 6 m then 28 else 9),(bif Nat.beq 7 m then 28 else 10),(bif Nat.beq 8 m then 28 else 11),(bif Nat.beq 9 m then 28 else 12),(bif Nat.beq 10 m then 28 else 13),(bif Nat.beq 11 m then 28 else 14),(bif Nat.beq 12 m then 28 else 15),(bif Nat.beq 13 m then 28 else 16),(bif Nat.beq 14 m then 28 else 17),(bif Nat.beq 15 m then 28 else 18),(bif Nat.beq 16 m then 28 else 19),(bif Nat.beq 17 m then 28 else 20),(bif Nat.beq 18 m then 28 else 21),(bif Nat.beq 19 m then 28 else 22),(bif Nat.beq 20 m then 28 else 23),(bif Nat.beq 21 m then 28 else 24),(bif Nat.beq 22 m then 28 else 25),(bif Nat.beq 23 m then 28 else 26)]
theorem jS {m:Nat}(hm:m<24):bw (dy m) 32=true/\cC (dy m)=true/\∀b,b<24->ar (dy m) 32 (3+b)=(bif Nat.beq b m then 28 else b+3):=by
 have h:(List.range 24).all (fun m=>bw (dy m) 32&&(cC (dy m)&&(List.range 24).all (fun b=>ar (dy m) 32 (3+b)==(bif Nat.beq b m then 28 else b+3))))=true:=by decide +kernel
 have h:=(List.all_eq_true.1 h) m (List.mem_range.2 hm)
 simp only[Bool.and_eq_true] at h
 exact⟨h.1,h.2.1,fun b hb=>by simpa using (List.all_eq_true.1 h.2.2) b (List.mem_range.2 hb)⟩
theorem xE {f:Nat->Nat}{hp:List AObj}{m:Nat}{g:Nat->AObj}{x0 x1 x2:AObj}(h:∀j,j<24->LeO (ag hp (bif Nat.beq j m then 28 else j+3)) (bO f (g j)))(h0:LeO (ag hp 0) (bO f x0))(h1:LeO (ag hp 1) (bO f x1))(h2:LeO (ag hp 31) (bO f x2)):cR f hp (dy m) (x0::x1::x2::bA g []):=
 ⟨h0,h1,h2,h 0 dcd,h 1 dcd,h 2 dcd,h 3 dcd,h 4 dcd,h 5 dcd,h 6 dcd,h 7 dcd,h 8 dcd,h 9 dcd,h 10 dcd,h 11 dcd,h 12 dcd,h 13 dcd,h 14 dcd,h 15 dcd,h 16 dcd,h 17 dcd,h 18 dcd,h 19 dcd,h 20 dcd,h 21 dcd,h 22 dcd,h 23 dcd,trivial⟩
theorem nT {j m:Nat}(h:j≠m):Nat.beq j m=false:=by
 cases hx:Nat.beq j m with
 |false=>rfl
 |true=>exact absurd (Nat.eq_of_beq_eq_true hx) h
theorem rr (m:Nat):Nat.beq m m=true:=by simp
theorem rt {l:List Stp}{s:Stp}{z:Nat->AV}{c:Nat}(hc:c<(l.length+1)*2):er l s c=a8 2 l.length (fun i j=>bK l (i*2+j)) (fun i j=>aj z 0 2 (nth [.int .i64 s.rule,.ow true 28 s.atoms.length 1]) (0+i*2+j)) c:=by
 unfold a8 er
 by_cases h:c<l.length*2
 ·rw[if_pos h,show Nat.blt c (l.length*2)=true by rw[Nat.blt_eq];exact h]
  show bK l c=bK l (c/2*2+c%2)
  rw[show c/2*2+c%2=c by omega]
 ·rw[if_neg h,show Nat.blt c (l.length*2)=false from by
   cases hx:Nat.blt c (l.length*2) with
   |false=>rfl
   |true=>exact absurd (by rw[Nat.blt_eq] at hx;exact hx) h]
  show nth _ (c-l.length*2)=aj z 0 2 _ (0+(c-l.length*2)/2*2+(c-l.length*2)%2)
  rw[cS,if_pos omg]
  congr 1
  omega
theorem nU {l:List Stp}{s:Stp}{j:Nat}:(l++[s]).getD j default=if j=l.length then s else l.getD j default:=by
 rw[List.getD_eq_getElem?_getD,List.getD_eq_getElem?_getD]
 rcases Nat.lt_trichotomy j l.length with h|h|h
 ·rw[List.getElem?_append_left h,if_neg omg]
 ·subst h
  rw[List.getElem?_append_right (Nat.le_refl _),Nat.sub_self,if_pos rfl]
  rfl
 ·rw[if_neg omg,List.getElem?_eq_none (by simp;omega),List.getElem?_eq_none omg]
theorem ru {p:Prg}{v':Nat->Int}{l:List Stp}{s:Stp}{o27 o29 o30:AObj}(hm:l.length<24):cR (ar (dy l.length) 32) (.cells false 27 (ae p v' (.mp 1))::.map (esF p.rules.l)::.dead::bA (ab l) [o27,.cells false (s.atoms.length*1) (ac s.atoms),o29,o30,.cells false ((l.length+1)*2) (er l s)]) (dy l.length) (jQ p v' (l++[s])):=by
 have hf:=(jS hm).2.2
 refine xE (fun j hj=>?_) (z4 (fun j hj=>(cm (f:=ar (dy l.length) 32) rfl).symm)) rfl ?_
 ·by_cases hjm:j=l.length
  ·subst hjm
   rw[rr]
   show LeO (.cells false (s.atoms.length*1) (ac s.atoms)) (bO _ (ab (l++[s]) l.length))
   unfold ab
   rw[nU,if_pos rfl]
   exact zW _
  ·rw[nT hjm]
   have e:=lu (f:=ab l) (r:=[o27,.cells false (s.atoms.length*1) (ac s.atoms),o29,o30,.cells false ((l.length+1)*2) (er l s)]) hj
   show LeO (ag (bA (ab l) _) j) _
   rw[e]
   unfold ab
   rw[nU,if_neg hjm]
   exact zW _
 ·show LeO (.cells false ((l.length+1)*2) (er l s)) (.cells false ((l++[s]).length*2) (fun c=>aF (ar (dy l.length) 32) (bK (l++[s]) c)))
  rw[List.length_append,List.length_singleton]
  refine z4 (fun c hc=>?_)
  unfold er bK
  rw[nU]
  by_cases h:c<l.length*2
  ·rw[show Nat.blt c (l.length*2)=true by rw[Nat.blt_eq];exact h,if_neg omg]
   show(bif Nat.beq (c%2) 0 then _ else _)=aF _ (bif Nat.beq (c%2) 0 then _ else _)
   cases Nat.beq (c%2) 0 with
   |true=>rfl
   |false=>
    show AV.ow true (3+c/2) _ 1=AV.ow true (ar (dy l.length) 32 (3+c/2)) _ 1
    rw[hf (c/2) omg,nT omg]
    congr 1
    show 3+c/2=c/2+3
    omega
  ·rw[show Nat.blt c (l.length*2)=false from by
    cases hx:Nat.blt c (l.length*2) with
    |false=>rfl
    |true=>exact absurd (by rw[Nat.blt_eq] at hx;exact hx) h,if_pos omg]
   have h2:c=l.length*2∨c=l.length*2+1:=by omega
   rcases h2 with rfl|rfl
   ·rw[show l.length*2%2=0 by omega,Nat.sub_self]
    rfl
   ·rw[show(l.length*2+1)%2=1 by omega,show l.length*2+1-l.length*2=1 by omega,show(l.length*2+1)/2=l.length by omega]
    show AV.ow true 28 _ 1=AV.ow true (ar (dy l.length) 32 (3+l.length)) _ 1
    rw[hf l.length hm,rr]
    rfl
theorem nV {R:Res}{o:Oper}{ev:Operand->AV}{hp:List AObj}{g:R.σ}{x y:Operand}(a b:Nat->Int)(r:Bool)(ho:o.op=.binOp .eql 95 x y 95)(hne:x≠y)(hx:Le (ev x) (.agg 24 (fun j=>.int .i64 (a j))))(hy:Le (ev y) (.agg 24 (fun j=>.int .i64 (b j))))(hr:r=true↔∀j,j<24->a j=b j):OpOk Tryd.prog R o ev hp g (.bool r) hp g:=by
 classical
 have h:=vv (P:=Tryd.prog) (R:=R) (hp:=hp) (g:=g) (n:=24) (ev:=fun z=>if z=x then .agg 24 (fun j=>.int .i64 (a j)) else if z=y then .agg 24 (fun j=>.int .i64 (b j)) else .any) (e:=43) (k:=.i64) (a:=a) (b:=b) ho (if_pos rfl) ((if_neg (Ne.symm hne)).trans (if_pos rfl)) krf krf krf krf krf
 have e:∀d:Bool,(d=true↔∀j,j<24->a j=b j)->d=r:=fun d hd=>by
  rw[Bool.eq_iff_iff,hd,hr]
 rw[e _ decide_eq_true_iff] at h
 refine xA h (fun z _=>?_)
 by_cases h1:z=x
 ·subst h1;simp only[if_true];exact hx
 ·by_cases h2:z=y
  ·subst h2;simp only[h1,if_false,if_true];exact hy
  ·simp only[h1,h2,if_false];exact Le.any _
theorem nW {p:Prg}{v:Nat->Int}{m:AV}:Le (.agg 24 (fun j=>ae p v m (j+2))) (.agg 24 (fun j=>.int .i64 (v j))):=
 zY (fun j hj=>zU (dU rfl hj))
theorem nX {p:Prg}{v:Nat->Int}{m:AV}{z:Nat->AV}:Le (.agg 24 (aj z 0 24 (fun j=>ae p v m (j+2)))) (.agg 24 (fun j=>.int .i64 (v j))):=
 zY (fun j hj=>zU (by rw[cS,if_pos omg,Nat.sub_zero];exact dU rfl hj))
theorem rx {p:Prg}{v:Nat->Int}(hp:cW p)(hr:∀r,r∈p.rules.l->aK r)(hh:dW p)(hb:bh p v=true):false=true↔∀j,j<24->cn v (ao p v) j=v j:=by
 obtain⟨_,a,h1,h2,h3⟩:=rn hp hr hh hb
 have:=hp.2
 exact⟨fun h=>(by cases h),fun h=>absurd ((h a omg).trans h2) h3⟩
theorem xF {l:List Stp}(hl:l.length<=24){c:Nat}(hc:c<l.length*2):Below 27 (bK l c):=by
 unfold bK
 cases Nat.beq (c%2) 0 with
 |true=>trivial
 |false=>show 3+c/2<27;omega
theorem ry {p:Prg}{v:Nat->Int}{l:List Stp}{f:Nat}(hb:bh p v=true)(hlt:cy p (cn v (ao p v))<cy p v)(h1:cy p v+l.length<=p.atoms.toNat)(h2:cy p v<f)(h3:eq p f v l=al p):cy p (cn v (ao p v))+(l++[ao p v]).length<=p.atoms.toNat/\∃f,cy p (cn v (ao p v))<f/\eq p f (cn v (ao p v)) (l++[ao p v])=al p:=by
 refine⟨?_,?_⟩
 ·rw[List.length_append,List.length_singleton];omega
 ·obtain⟨f,rfl⟩:∃k,f=k+1:=⟨f-1,omg⟩
  refine⟨f,omg,?_⟩
  rw[<-h3]
  show _=(if bh p v then _ else _)
  rw[if_pos hb]
theorem rz (R:Res)[Tab LT R](p:Prg)(hl:p.rules.l.length<1000000)(hr:∀r,r∈p.rules.l->aK r)(hp:cW p)(hh:dW p)(g:R.σ):Does Tryd.prog R 60 [av p] [] g (.ret (.tup 2 (nth [.ow true 2 (al p).1.length 2,.ref 0 0]))) (jQ p (al p).2 (al p).1) g:=by
 refine spW (nt:=37) (rs:=[.tmp 2,.tmp 3]) (k0:=0) ?_
 refine vcR [] (lkL [(0,[1]),(1,[4]),(2,[4,5])]) (lkL [(1,[(1,ROrc.call (ref 1 0) [cells false 2 (nth [int i64 p.atoms,af p.rules]),cells false 27 (ae p (fun (x:Nat)=>3) (AV.mp 2)),AObj.map (esF p.rules.l)] g)])]) (fun Q=>(fun (u1:List AObj)=>2<=2/\(true=true/\Does Tryd.prog R 66 [av p] [cells false 2 (nth [int i64 p.atoms,af p.rules])] g (ret (ref 1 0)) u1 g)/\WpC Tryd.prog R 37 0 60 [1,1,1,0] Q [Kont.blk 0] (St.mk [(4,ref 1 0),(5,fz Fz.nil 0 0 fun x x_1=>any)] u1 g)) ([cells false 2 (nth [int i64 p.atoms,af p.rules]),cells false 27 (ae p (fun (x:Nat)=>3) (AV.mp 2)),AObj.map (esF p.rules.l)])) ⟨omg,⟨rfl,(lA _ _ _ omg omg _)⟩,?_⟩
 refine cD (toS (s':=⟨[(4,.ref 0 0),(5,.fz .nil 0 0 fun _ _=>.any)],[.cells false 27 (ae p (fun _=>3) (.mp 1)),.map (esF p.rules.l)],g⟩) [1,2] 3 (hob:=⟨z4 (fun j hj=>(bU (f:=ar [1,2] 3) rfl).symm),rfl,trivial⟩)) ?_
 refine cD (gJ (fun _=>.any) 25) ?_
 refine cD (toL (s':=⟨[(4,.ref 0 0),(5,.ow true 2 0 2)],jQ p (fun _=>3) [],g⟩) (h1:=⟨zT _,Le.nil_ow,trivial⟩) (h2:=xD p)) ?_
 refine(aX krf (fun (x:(Nat->Int) × List Stp)=>⟨[(4,ref 0 0),(5,.ow true 2 x.2.length 2)],(jQ p x.1 x.2),g⟩) (fun (x:(Nat->Int) × List Stp)=>(cy p x.1+x.2.length<=p.atoms.toNat/\∃f,cy p x.1<f/\eq p f x.1 x.2=al p)) (fun (x:(Nat->Int) × List Stp)=>(cy p x.1)) ((fun _=>3,[]):(Nat->Int) × List Stp) (aT ⟨zT _,zT _,trivial⟩ rfl rfl) ?_ (fun x hi=>?_))
 ·refine⟨nQ p _,25,?_,rfl⟩
  have:=nQ p (fun _=>3)
  have:=hp.2
  show cy p (fun _=>3)<25
  omega
 ·obtain⟨v,l⟩:=x
  obtain⟨h1,f,h2,h3⟩:=hi
  simp only at h1 h2 h3
  have hes:=nA hr
  have hp':1<=p.atoms/\p.atoms<=24:=hp
  have hroom:aB=140737488355328:=rfl
  have hat:=ro (v:=v) hp hr hh
  cases hb:bh p v with
  |true=>
   by_cases hf:0<=bp p v
   ·obtain⟨k1,k2,k3,_⟩:=rm hr hf
    have hal:0<(ao p v).atoms.length:=by rw[show ao p v=_ from if_pos hf];exact Nat.zero_lt_one
    have k4:decide ((ao p v).rule = -1)=false:=decide_eq_false omg
    refine vcR [[1,1,1,0,0,0,1,1,1,0],[1,1,1,0,0,0,1,0,1,1,1]] (lkL [(3,[4,5,6]),(4,[4,5,6,7,8]),(5,[4,5,6,7,20]),(6,[4,5,6,7]),(7,[4,5,6]),(8,[4,5,34])]) (lkL [(4,[(1,ROrc.call (tup 2 (nth [agg 2 (nth [int i64 (ao p v).rule,ow true 28 (List.length (ao p v).atoms) 1]),AV.bool (bh p v)])) [cells false 27 (ae p v (AV.mp 1)),AObj.map (esF p.rules.l),cells false (List.length l*2) (bK l),ab l 0,ab l 1,ab l 2,ab l 3,ab l 4,ab l 5,ab l 6,ab l 7,ab l 8,ab l 9,ab l 10,ab l 11,ab l 12,ab l 13,ab l 14,ab l 15,ab l 16,ab l 17,ab l 18,ab l 19,ab l 20,ab l 21,ab l 22,ab l 23,cells false 24 (aj (nth [int i64 0,int i64 0,int i64 0,int i64 0,int i64 0,int i64 0,int i64 0,int i64 0,int i64 0,int i64 0,int i64 0,int i64 0,int i64 0,int i64 0,int i64 0,int i64 0,int i64 0,int i64 0,int i64 0,int i64 0,int i64 0,int i64 0,int i64 0,int i64 0]) 0 24 fun (j:Nat)=>ae p v (AV.mp 1) (j+2)),cells false (List.length (ao p v).atoms*1) (ac (ao p v).atoms)] g),(6,ROrc.val (Orc.obj (nth [int i64 (ao p v).rule,ow true 28 (List.length (ao p v).atoms) 1])))]),(6,[(1,ROrc.kcall (ifc 149 (agg 2 (nth [int i64 (ao p v).rule,ow true 28 (List.length (ao p v).atoms) 1])))),(3,ROrc.inv (tup 0 (nth [])) [cells false 27 (ae p (fc p v (eI (ao p v))) (AV.mp 1)),AObj.map (esF p.rules.l),cells false (List.length l*2) (bK l),ab l 0,ab l 1,ab l 2,ab l 3,ab l 4,ab l 5,ab l 6,ab l 7,ab l 8,ab l 9,ab l 10,ab l 11,ab l 12,ab l 13,ab l 14,ab l 15,ab l 16,ab l 17,ab l 18,ab l 19,ab l 20,ab l 21,ab l 22,ab l 23,cells false 24 (aj (nth [int i64 0,int i64 0,int i64 0,int i64 0,int i64 0,int i64 0,int i64 0,int i64 0,int i64 0,int i64 0,int i64 0,int i64 0,int i64 0,int i64 0,int i64 0,int i64 0,int i64 0,int i64 0,int i64 0,int i64 0,int i64 0,int i64 0,int i64 0,int i64 0]) 0 24 fun (j:Nat)=>ae p v (AV.mp 1) (j+2)),cells false (List.length (ao p v).atoms*1) fun (a:Nat)=>ac (ao p v).atoms a,cells false 2 (nth [int i64 (ao p v).rule,ow true 28 (List.length (ao p v).atoms) 1])] g)]),(7,[(3,ROrc.val (Orc.obj (er l (ao p v))))]),(8,[(5,ROrc.kop (AV.bool false))])]) (fun Q=>(fun (u1:List AObj)=>(fun (u2:List AObj)=>(fun (u3:List AV)=>(fun (u4:List AV)=>(fun (u5:AObj)=>(fun (u6:St R.σ)=>(fun (u7:AObj)=>26<=27/\24<=24/\(true=true/\Does Tryd.prog R 96 [ref 0 0] [u5,AObj.map (esF p.rules.l),cells false (List.length l*2) (bK l),ab l 0,ab l 1,ab l 2,ab l 3,ab l 4,ab l 5,ab l 6,ab l 7,ab l 8,ab l 9,ab l 10,ab l 11,ab l 12,ab l 13,ab l 14,ab l 15,ab l 16,ab l 17,ab l 18,ab l 19,ab l 20,ab l 21,ab l 22,ab l 23,u7] g (ret (tup 2 (nth [agg 2 (nth u4),AV.bool (bh p v)]))) [u5,AObj.map (esF p.rules.l),cells false (List.length l*2) (bK l),ab l 0,ab l 1,ab l 2,ab l 3,ab l 4,ab l 5,ab l 6,ab l 7,ab l 8,ab l 9,ab l 10,ab l 11,ab l 12,ab l 13,ab l 14,ab l 15,ab l 16,ab l 17,ab l 18,ab l 19,ab l 20,ab l 21,ab l 22,ab l 23,u7,cells false (List.length (ao p v).atoms*1) fun a=>ac (ao p v).atoms a] g)/\2<=2/\(∀(c:Nat),c<2->nth u4 c=aj (nth [int i64 0,fz Fz.nil 0 0 fun x x_1=>any]) 0 2 (List.brecOn (motive:=fun (x:List AV)=>Nat->AV) u4 nth._f) c)/\(bh p v=true->2<=2/\(true=true/\Does Tryd.prog R 68 [agg 2 (nth u4)] (u5::u2) g (ret (ifc 149 (agg 2 (nth u4)))) (u5::u2) g)/\(true=true/\true=true/\Does Tryd.prog R 141 [agg 2 (nth u4),ref 0 0] (u5::u2) g (ret (tup 0 (nth []))) (cells false 27 (ae p (fc p v (eI (ao p v))) (AV.mp 1))::u2) g)/\2<=2/\0<2/\(List.length l+1)*32<=aB/\List.length l+1<=aB/\2<=2/\List.length l*2<=List.length l*2/\(∀(c:Nat),c<(List.length l+1)*2->er l (ao p v) c=a8 2 (List.length l) (fun (i j:Nat)=>bK l (i*2+j)) (fun (i j:Nat)=>aj (fun (j:Nat)=>nth [int i64 0,fz Fz.nil 0 0 fun x x_1=>any] (j%2)) 0 2 (List.brecOn (motive:=fun (x:List AV)=>Nat->AV) u4 nth._f) (0+i*2+j)) c)/\Flw Tryd.prog/\26<=27/\24<=24/\OpOk Tryd.prog R (Oper.mk (some 34) (Op.binOp BinOp.eql 95 (Operand.tmp 32) (Operand.tmp 33) 95) 4 "table.go:195" #[Edge.mk 3 Ground.data,Edge.mk 4 Ground.data] none) (evO [Row.mk (some 33) none (agg 24 (aj (nth u3) 0 24 fun j=>ae p v (AV.mp 1) (j+2))) false (some []) [27],Row.mk (some 32) none (agg 24 fun j=>ae p (fc p v (eI (ao p v))) (AV.mp 1) (j+2)) false (some []) [0],Row.mk (some 31) none (ref 0 2) false (some []) [],Row.mk (some 30) none (ref 0 0) false (some []) [],Row.mk (some 29) none (ref 0 0) false (some []) []] [(4,ref 0 0),(5,ow true 31 (List.length l+1) 2),(6,ref 27 0)] []) u1 g (AV.bool false) u1 g/\(false=true->WpC Tryd.prog R 37 0 60 [1,1,1,0,0,0,1,1,1,0] Q [Kont.blk 1] u6)/\(false=false->Q AEx.normal u6))/\(bh p v=false->WpC Tryd.prog R 37 0 60 [1,1,1,0,0,0,1,0,1,1,1] Q [Kont.seq [1,1,1,0,0,0,1,1],Kont.blk 1] (St.mk [(4,ref 0 0),(5,ow true 2 (List.length l) 2),(6,ref 27 0),(7,ref 29 0),(20,AV.bool (bh p v))] (u5::u2) g))) (cells false 24 (aj (nth u3) 0 24 fun j=>ae p v (AV.mp 1) (j+2)))) (St.mk [(4,ref 0 0),(5,ow true 31 (List.length l+1) 2),(34,AV.bool false)] u1 g)) (cells false 27 (ae p v (AV.mp 1)))) ([int i64 (ao p v).rule,ow true 28 (List.length (ao p v).atoms) 1])) ([int i64 0,int i64 0,int i64 0,int i64 0,int i64 0,int i64 0,int i64 0,int i64 0,int i64 0,int i64 0,int i64 0,int i64 0,int i64 0,int i64 0,int i64 0,int i64 0,int i64 0,int i64 0,int i64 0,int i64 0,int i64 0,int i64 0,int i64 0,int i64 0])) ([AObj.map (esF p.rules.l),cells false (List.length l*2) (bK l),ab l 0,ab l 1,ab l 2,ab l 3,ab l 4,ab l 5,ab l 6,ab l 7,ab l 8,ab l 9,ab l 10,ab l 11,ab l 12,ab l 13,ab l 14,ab l 15,ab l 16,ab l 17,ab l 18,ab l 19,ab l 20,ab l 21,ab l 22,ab l 23,cells false 24 (aj (nth [int i64 0,int i64 0,int i64 0,int i64 0,int i64 0,int i64 0,int i64 0,int i64 0,int i64 0,int i64 0,int i64 0,int i64 0,int i64 0,int i64 0,int i64 0,int i64 0,int i64 0,int i64 0,int i64 0,int i64 0,int i64 0,int i64 0,int i64 0,int i64 0]) 0 24 fun j=>ae p v (AV.mp 1) (j+2)),cells false (List.length (ao p v).atoms*1) fun a=>ac (ao p v).atoms a,cells false 2 (nth [int i64 (ao p v).rule,ow true 28 (List.length (ao p v).atoms) 1])])) ([cells false 27 (ae p (fc p v (eI (ao p v))) (AV.mp 1)),AObj.map (esF p.rules.l),dead,ab l 0,ab l 1,ab l 2,ab l 3,ab l 4,ab l 5,ab l 6,ab l 7,ab l 8,ab l 9,ab l 10,ab l 11,ab l 12,ab l 13,ab l 14,ab l 15,ab l 16,ab l 17,ab l 18,ab l 19,ab l 20,ab l 21,ab l 22,ab l 23,cells false 24 (aj (nth [int i64 0,int i64 0,int i64 0,int i64 0,int i64 0,int i64 0,int i64 0,int i64 0,int i64 0,int i64 0,int i64 0,int i64 0,int i64 0,int i64 0,int i64 0,int i64 0,int i64 0,int i64 0,int i64 0,int i64 0,int i64 0,int i64 0,int i64 0,int i64 0]) 0 24 fun j=>ae p v (AV.mp 1) (j+2)),cells false (List.length (ao p v).atoms*1) fun a=>ac (ao p v).atoms a,cells false 2 (nth [int i64 (ao p v).rule,ow true 28 (List.length (ao p v).atoms) 1]),cells false 2 (aj (fun (j:Nat)=>nth [int i64 0,fz Fz.nil 0 0 fun x x_1=>any] (j%2)) 0 2 (List.brecOn (motive:=fun (x:List AV)=>Nat->AV) [int i64 (ao p v).rule,ow true 28 (List.length (ao p v).atoms) 1] nth._f)),cells false ((List.length l+1)*2) (er l (ao p v))])) ⟨omg,omg,⟨rfl,(doT (T:=LT) [0,1] 28 (fun R _ g=>nI R (p) (v) (esF p.rules.l) omg omg omg omg g) (e3:=by exact⟨⟨rfl,Nat.le_refl _,fun j hj=>(by first|exact bC (by first|exact trivial|apply aR)|exact zU (cm rfl)|exact zU (bU (by rfl)))⟩,rfl,zV,zV,zV,zV,zV,zV,zV,zV,zV,zV,zV,zV,zV,zV,zV,zV,zV,zV,zV,zV,zV,zV,zV,zV,zV,zV,⟨rfl,Nat.le_refl _,fun j hj=>(by first|exact bC (by first|exact trivial|apply dT)|exact zU (fG rfl))⟩,trivial⟩))⟩,omg,(fun c hc=>match c,hc with|0,_=>krf|1,_=>krf ),fun _=>⟨omg,⟨rfl,(doT (T:=LT) [28] 30 (fun R _ g=>xC R ((ao p v).rule) (List.length (ao p v).atoms) (List.length (ao p v).atoms*1) (fun (a:Nat)=>ac (ao p v).atoms a) ?_ omg g) (e2:=by exact(Le.ifc (zY (fun i hi=>match i,hi with|0,_=>(zT _)|1,_=>(zT _) )))) (e3:=by exact⟨zV,rfl,zV,zV,zV,zV,zV,zV,zV,zV,zV,zV,zV,zV,zV,zV,zV,zV,zV,zV,zV,zV,zV,zV,zV,zV,zV,zV,⟨rfl,Nat.le_refl _,fun j hj=>(by first|exact bC (by first|exact trivial|apply dT)|exact zU (fG rfl))⟩,zV,trivial⟩))⟩,⟨krf,rfl,(doT (T:=LT) [0,1,28] 30 (fun R _ g=>xp R (p) (v) (esF p.rules.l) (ao p v) omg omg omg g) (e3:=by exact⟨⟨rfl,Nat.le_refl _,fun j hj=>(by first|exact bC (by first|exact trivial|apply aR)|exact zU (cm rfl)|exact zU (bU (by rfl)))⟩,rfl,zV,zV,zV,zV,zV,zV,zV,zV,zV,zV,zV,zV,zV,zV,zV,zV,zV,zV,zV,zV,zV,zV,zV,zV,zV,zV,⟨rfl,Nat.le_refl _,fun j hj=>(by first|exact bC (by first|exact trivial|apply dT)|exact zU (fG rfl))⟩,zV,trivial⟩))⟩,omg,omg,omg,omg,omg,omg,?_,krf,omg,omg,?_,fun h=>(nomatch h),fun _=>?_⟩,fun hcc=>(nomatch (hb.symm.trans hcc))⟩
    ·exact fun j _=>dT _ _
    ·exact fun c hc=>(rt (z:=fun j=>nth [.int .i64 0,.fz .nil 0 0 fun _ _=>.any] (j%2)) hc).trans krf
    ·rw[<-k2]
     exact nV (x:=.tmp 32) (y:=.tmp 33) (cn v (ao p v)) v false rfl (by intro h;cases h) nW nX (rx hp hr hh hb)
    ·rw[<-k2]
     have hlt:=nR hp hr hh hb
     refine aQ (cn v (ao p v),l++[ao p v]) (ed (dy l.length) 32 rfl (jS omg).1 (jS omg).2.1 rfl rfl ⟨zT _,zU (by show _=AV.ow true 31 (l++[ao p v]).length 2;rw[List.length_append];rfl),trivial⟩ (by exact ru omg)) (ry hb hlt h1 h2 h3) hlt
   ·obtain⟨k0,k1,k2,k3,_⟩:=nO hp hf hb
    have k4:decide ((ao p v).rule = -1)=true:=decide_eq_true (by rw[k0])
    have hal:0<(ao p v).atoms.length:=by
     unfold cF at k1
     rw[Bool.and_eq_true] at k1
     exact of_decide_eq_true k1.1
    refine vcR [[1,1,1,0,0,0,1,1,1,0],[1,1,1,0,0,0,1,0,1,1,1]] (lkL [(3,[4,5,6]),(4,[4,5,6,7,8]),(5,[4,5,6,7,20]),(6,[4,5,6,7]),(7,[4,5,6]),(8,[4,5,34])]) (lkL [(4,[(1,ROrc.call (tup 2 (nth [agg 2 (nth [int i64 (ao p v).rule,ow true 28 (List.length (ao p v).atoms) 1]),AV.bool (bh p v)])) [cells false 27 (ae p v (AV.mp 1)),AObj.map (esF p.rules.l),cells false (List.length l*2) (bK l),ab l 0,ab l 1,ab l 2,ab l 3,ab l 4,ab l 5,ab l 6,ab l 7,ab l 8,ab l 9,ab l 10,ab l 11,ab l 12,ab l 13,ab l 14,ab l 15,ab l 16,ab l 17,ab l 18,ab l 19,ab l 20,ab l 21,ab l 22,ab l 23,cells false 24 (aj (nth [int i64 0,int i64 0,int i64 0,int i64 0,int i64 0,int i64 0,int i64 0,int i64 0,int i64 0,int i64 0,int i64 0,int i64 0,int i64 0,int i64 0,int i64 0,int i64 0,int i64 0,int i64 0,int i64 0,int i64 0,int i64 0,int i64 0,int i64 0,int i64 0]) 0 24 fun (j:Nat)=>ae p v (AV.mp 1) (j+2)),cells false (List.length (ao p v).atoms*1) (ac (ao p v).atoms)] g),(6,ROrc.val (Orc.obj (nth [int i64 (ao p v).rule,ow true 28 (List.length (ao p v).atoms) 1])))]),(6,[(1,ROrc.kcall (ifc 148 (agg 2 (nth [int i64 (ao p v).rule,ow true 28 (List.length (ao p v).atoms) 1])))),(3,ROrc.inv (tup 0 (nth [])) [cells false 27 (ae p (cV v (aO (ao p v).atoms)) (AV.mp 1)),AObj.map (esF p.rules.l),cells false (List.length l*2) (bK l),ab l 0,ab l 1,ab l 2,ab l 3,ab l 4,ab l 5,ab l 6,ab l 7,ab l 8,ab l 9,ab l 10,ab l 11,ab l 12,ab l 13,ab l 14,ab l 15,ab l 16,ab l 17,ab l 18,ab l 19,ab l 20,ab l 21,ab l 22,ab l 23,cells false 24 (aj (nth [int i64 0,int i64 0,int i64 0,int i64 0,int i64 0,int i64 0,int i64 0,int i64 0,int i64 0,int i64 0,int i64 0,int i64 0,int i64 0,int i64 0,int i64 0,int i64 0,int i64 0,int i64 0,int i64 0,int i64 0,int i64 0,int i64 0,int i64 0,int i64 0]) 0 24 fun (j:Nat)=>ae p v (AV.mp 1) (j+2)),cells false (List.length (ao p v).atoms*1) fun (a:Nat)=>ac (ao p v).atoms a,cells false 2 (nth [int i64 (ao p v).rule,ow true 28 (List.length (ao p v).atoms) 1])] g)]),(7,[(3,ROrc.val (Orc.obj (er l (ao p v))))]),(8,[(5,ROrc.kop (AV.bool false))])]) (fun Q=>(fun (u1:List AObj)=>(fun (u2:List AObj)=>(fun (u3:List AV)=>(fun (u4:List AV)=>(fun (u5:AObj)=>(fun (u6:St R.σ)=>(fun (u7:AObj)=>26<=27/\24<=24/\(true=true/\Does Tryd.prog R 96 [ref 0 0] [u5,AObj.map (esF p.rules.l),cells false (List.length l*2) (bK l),ab l 0,ab l 1,ab l 2,ab l 3,ab l 4,ab l 5,ab l 6,ab l 7,ab l 8,ab l 9,ab l 10,ab l 11,ab l 12,ab l 13,ab l 14,ab l 15,ab l 16,ab l 17,ab l 18,ab l 19,ab l 20,ab l 21,ab l 22,ab l 23,u7] g (ret (tup 2 (nth [agg 2 (nth u4),AV.bool (bh p v)]))) [u5,AObj.map (esF p.rules.l),cells false (List.length l*2) (bK l),ab l 0,ab l 1,ab l 2,ab l 3,ab l 4,ab l 5,ab l 6,ab l 7,ab l 8,ab l 9,ab l 10,ab l 11,ab l 12,ab l 13,ab l 14,ab l 15,ab l 16,ab l 17,ab l 18,ab l 19,ab l 20,ab l 21,ab l 22,ab l 23,u7,cells false (List.length (ao p v).atoms*1) fun a=>ac (ao p v).atoms a] g)/\2<=2/\(∀(c:Nat),c<2->nth u4 c=aj (nth [int i64 0,fz Fz.nil 0 0 fun x x_1=>any]) 0 2 (List.brecOn (motive:=fun (x:List AV)=>Nat->AV) u4 nth._f) c)/\(bh p v=true->2<=2/\(true=true/\Does Tryd.prog R 68 [agg 2 (nth u4)] (u5::u2) g (ret (ifc 148 (agg 2 (nth u4)))) (u5::u2) g)/\(true=true/\true=true/\Does Tryd.prog R 139 [agg 2 (nth u4),ref 0 0] (u5::u2) g (ret (tup 0 (nth []))) (cells false 27 (ae p (cV v (aO (ao p v).atoms)) (AV.mp 1))::u2) g)/\2<=2/\0<2/\(List.length l+1)*32<=aB/\List.length l+1<=aB/\2<=2/\List.length l*2<=List.length l*2/\(∀(c:Nat),c<(List.length l+1)*2->er l (ao p v) c=a8 2 (List.length l) (fun (i j:Nat)=>bK l (i*2+j)) (fun (i j:Nat)=>aj (fun (j:Nat)=>nth [int i64 0,fz Fz.nil 0 0 fun x x_1=>any] (j%2)) 0 2 (List.brecOn (motive:=fun (x:List AV)=>Nat->AV) u4 nth._f) (0+i*2+j)) c)/\Flw Tryd.prog/\26<=27/\24<=24/\OpOk Tryd.prog R (Oper.mk (some 34) (Op.binOp BinOp.eql 95 (Operand.tmp 32) (Operand.tmp 33) 95) 4 "table.go:195" #[Edge.mk 3 Ground.data,Edge.mk 4 Ground.data] none) (evO [Row.mk (some 33) none (agg 24 (aj (nth u3) 0 24 fun j=>ae p v (AV.mp 1) (j+2))) false (some []) [27],Row.mk (some 32) none (agg 24 fun j=>ae p (cV v (aO (ao p v).atoms)) (AV.mp 1) (j+2)) false (some []) [0],Row.mk (some 31) none (ref 0 2) false (some []) [],Row.mk (some 30) none (ref 0 0) false (some []) [],Row.mk (some 29) none (ref 0 0) false (some []) []] [(4,ref 0 0),(5,ow true 31 (List.length l+1) 2),(6,ref 27 0)] []) u1 g (AV.bool false) u1 g/\(false=true->WpC Tryd.prog R 37 0 60 [1,1,1,0,0,0,1,1,1,0] Q [Kont.blk 1] u6)/\(false=false->Q AEx.normal u6))/\(bh p v=false->WpC Tryd.prog R 37 0 60 [1,1,1,0,0,0,1,0,1,1,1] Q [Kont.seq [1,1,1,0,0,0,1,1],Kont.blk 1] (St.mk [(4,ref 0 0),(5,ow true 2 (List.length l) 2),(6,ref 27 0),(7,ref 29 0),(20,AV.bool (bh p v))] (u5::u2) g))) (cells false 24 (aj (nth u3) 0 24 fun j=>ae p v (AV.mp 1) (j+2)))) (St.mk [(4,ref 0 0),(5,ow true 31 (List.length l+1) 2),(34,AV.bool false)] u1 g)) (cells false 27 (ae p v (AV.mp 1)))) ([int i64 (ao p v).rule,ow true 28 (List.length (ao p v).atoms) 1])) ([int i64 0,int i64 0,int i64 0,int i64 0,int i64 0,int i64 0,int i64 0,int i64 0,int i64 0,int i64 0,int i64 0,int i64 0,int i64 0,int i64 0,int i64 0,int i64 0,int i64 0,int i64 0,int i64 0,int i64 0,int i64 0,int i64 0,int i64 0,int i64 0])) ([AObj.map (esF p.rules.l),cells false (List.length l*2) (bK l),ab l 0,ab l 1,ab l 2,ab l 3,ab l 4,ab l 5,ab l 6,ab l 7,ab l 8,ab l 9,ab l 10,ab l 11,ab l 12,ab l 13,ab l 14,ab l 15,ab l 16,ab l 17,ab l 18,ab l 19,ab l 20,ab l 21,ab l 22,ab l 23,cells false 24 (aj (nth [int i64 0,int i64 0,int i64 0,int i64 0,int i64 0,int i64 0,int i64 0,int i64 0,int i64 0,int i64 0,int i64 0,int i64 0,int i64 0,int i64 0,int i64 0,int i64 0,int i64 0,int i64 0,int i64 0,int i64 0,int i64 0,int i64 0,int i64 0,int i64 0]) 0 24 fun j=>ae p v (AV.mp 1) (j+2)),cells false (List.length (ao p v).atoms*1) fun a=>ac (ao p v).atoms a,cells false 2 (nth [int i64 (ao p v).rule,ow true 28 (List.length (ao p v).atoms) 1])])) ([cells false 27 (ae p (cV v (aO (ao p v).atoms)) (AV.mp 1)),AObj.map (esF p.rules.l),dead,ab l 0,ab l 1,ab l 2,ab l 3,ab l 4,ab l 5,ab l 6,ab l 7,ab l 8,ab l 9,ab l 10,ab l 11,ab l 12,ab l 13,ab l 14,ab l 15,ab l 16,ab l 17,ab l 18,ab l 19,ab l 20,ab l 21,ab l 22,ab l 23,cells false 24 (aj (nth [int i64 0,int i64 0,int i64 0,int i64 0,int i64 0,int i64 0,int i64 0,int i64 0,int i64 0,int i64 0,int i64 0,int i64 0,int i64 0,int i64 0,int i64 0,int i64 0,int i64 0,int i64 0,int i64 0,int i64 0,int i64 0,int i64 0,int i64 0,int i64 0]) 0 24 fun j=>ae p v (AV.mp 1) (j+2)),cells false (List.length (ao p v).atoms*1) fun a=>ac (ao p v).atoms a,cells false 2 (nth [int i64 (ao p v).rule,ow true 28 (List.length (ao p v).atoms) 1]),cells false 2 (aj (fun (j:Nat)=>nth [int i64 0,fz Fz.nil 0 0 fun x x_1=>any] (j%2)) 0 2 (List.brecOn (motive:=fun (x:List AV)=>Nat->AV) [int i64 (ao p v).rule,ow true 28 (List.length (ao p v).atoms) 1] nth._f)),cells false ((List.length l+1)*2) (er l (ao p v))])) ⟨omg,omg,⟨rfl,(doT (T:=LT) [0,1] 28 (fun R _ g=>nI R (p) (v) (esF p.rules.l) omg omg omg omg g) (e3:=by exact⟨⟨rfl,Nat.le_refl _,fun j hj=>(by first|exact bC (by first|exact trivial|apply aR)|exact zU (cm rfl)|exact zU (bU (by rfl)))⟩,rfl,zV,zV,zV,zV,zV,zV,zV,zV,zV,zV,zV,zV,zV,zV,zV,zV,zV,zV,zV,zV,zV,zV,zV,zV,zV,zV,⟨rfl,Nat.le_refl _,fun j hj=>(by first|exact bC (by first|exact trivial|apply dT)|exact zU (fG rfl))⟩,trivial⟩))⟩,omg,(fun c hc=>match c,hc with|0,_=>krf|1,_=>krf ),fun _=>⟨omg,⟨rfl,(doT (T:=LT) [28] 30 (fun R _ g=>xB R ((ao p v).rule) (List.length (ao p v).atoms) (List.length (ao p v).atoms*1) (fun (a:Nat)=>ac (ao p v).atoms a) ?_ omg g) (e2:=by exact(Le.ifc (zY (fun i hi=>match i,hi with|0,_=>(zT _)|1,_=>(zT _) )))) (e3:=by exact⟨zV,rfl,zV,zV,zV,zV,zV,zV,zV,zV,zV,zV,zV,zV,zV,zV,zV,zV,zV,zV,zV,zV,zV,zV,zV,zV,zV,zV,⟨rfl,Nat.le_refl _,fun j hj=>(by first|exact bC (by first|exact trivial|apply dT)|exact zU (fG rfl))⟩,zV,trivial⟩))⟩,⟨krf,rfl,(doT (T:=LT) [0,1,28] 30 (fun R _ g=>xq R (p) (v) (esF p.rules.l) (ao p v) omg omg omg omg omg omg omg g) (e3:=by exact⟨⟨rfl,Nat.le_refl _,fun j hj=>(by first|exact bC (by first|exact trivial|apply aR)|exact zU (cm rfl)|exact zU (bU (by rfl)))⟩,rfl,zV,zV,zV,zV,zV,zV,zV,zV,zV,zV,zV,zV,zV,zV,zV,zV,zV,zV,zV,zV,zV,zV,zV,zV,zV,zV,⟨rfl,Nat.le_refl _,fun j hj=>(by first|exact bC (by first|exact trivial|apply dT)|exact zU (fG rfl))⟩,zV,trivial⟩))⟩,omg,omg,omg,omg,omg,omg,?_,krf,omg,omg,?_,fun h=>(nomatch h),fun _=>?_⟩,fun hcc=>(nomatch (hb.symm.trans hcc))⟩
    ·exact fun j _=>dT _ _
    ·exact fun c hc=>(rt (z:=fun j=>nth [.int .i64 0,.fz .nil 0 0 fun _ _=>.any] (j%2)) hc).trans krf
    ·rw[<-k3]
     exact nV (x:=.tmp 32) (y:=.tmp 33) (cn v (ao p v)) v false rfl (by intro h;cases h) nW nX (rx hp hr hh hb)
    ·rw[<-k3]
     have hlt:=nR hp hr hh hb
     refine aQ (cn v (ao p v),l++[ao p v]) (ed (dy l.length) 32 rfl (jS omg).1 (jS omg).2.1 rfl rfl ⟨zT _,zU (by show _=AV.ow true 31 (l++[ao p v]).length 2;rw[List.length_append];rfl),trivial⟩ (by exact ru omg)) (ry hb hlt h1 h2 h3) hlt
  |false=>
   have e:al p=(l,v):=by
    obtain⟨f,rfl⟩:∃k,f=k+1:=⟨f-1,omg⟩
    rw[<-h3]
    show(if bh p v then _ else _)=_
    rw[if_neg (by rw[hb];decide)]
   rw[e]
   refine vcR [[1,1,1,0,0,0,1,0,1,1,0],[1,1,1,0,0,0,1,1,1,1]] (lkL [(3,[4,5,6]),(4,[4,5,6,7,8]),(5,[4,5,6,7,20]),(8,[4,5,34]),(9,[2,3])]) (lkL [(4,[(1,ROrc.call (tup 2 (nth [agg 2 (nth [int i64 (ao p v).rule,ow true 28 (List.length (ao p v).atoms) 1]),AV.bool (bh p v)])) [cells false 27 (ae p v (AV.mp 1)),AObj.map (esF p.rules.l),cells false (List.length l*2) (bK l),ab l 0,ab l 1,ab l 2,ab l 3,ab l 4,ab l 5,ab l 6,ab l 7,ab l 8,ab l 9,ab l 10,ab l 11,ab l 12,ab l 13,ab l 14,ab l 15,ab l 16,ab l 17,ab l 18,ab l 19,ab l 20,ab l 21,ab l 22,ab l 23,cells false 24 (aj (nth [int i64 0,int i64 0,int i64 0,int i64 0,int i64 0,int i64 0,int i64 0,int i64 0,int i64 0,int i64 0,int i64 0,int i64 0,int i64 0,int i64 0,int i64 0,int i64 0,int i64 0,int i64 0,int i64 0,int i64 0,int i64 0,int i64 0,int i64 0,int i64 0]) 0 24 fun (j:Nat)=>ae p v (AV.mp 1) (j+2)),cells false (List.length (ao p v).atoms*1) (ac (ao p v).atoms)] g),(6,ROrc.val (Orc.obj (nth [int i64 (ao p v).rule,ow true 28 (List.length (ao p v).atoms) 1])))]),(8,[(5,ROrc.kop (AV.bool true))])]) (fun Q=>(fun (u1:List AObj)=>(fun (u2:List AV)=>(fun (u3:List AV)=>(fun (u4:List (Nat × AV))=>(fun (u5:AObj)=>26<=27/\24<=24/\(true=true/\Does Tryd.prog R 96 [ref 0 0] [cells false 27 (ae p v (AV.mp 1)),AObj.map (esF p.rules.l),cells false (List.length l*2) (bK l),ab l 0,ab l 1,ab l 2,ab l 3,ab l 4,ab l 5,ab l 6,ab l 7,ab l 8,ab l 9,ab l 10,ab l 11,ab l 12,ab l 13,ab l 14,ab l 15,ab l 16,ab l 17,ab l 18,ab l 19,ab l 20,ab l 21,ab l 22,ab l 23,u5] g (ret (tup 2 (nth [agg 2 (nth u3),AV.bool (bh p v)]))) [cells false 27 (ae p v (AV.mp 1)),AObj.map (esF p.rules.l),cells false (List.length l*2) (bK l),ab l 0,ab l 1,ab l 2,ab l 3,ab l 4,ab l 5,ab l 6,ab l 7,ab l 8,ab l 9,ab l 10,ab l 11,ab l 12,ab l 13,ab l 14,ab l 15,ab l 16,ab l 17,ab l 18,ab l 19,ab l 20,ab l 21,ab l 22,ab l 23,u5,cells false (List.length (ao p v).atoms*1) fun a=>ac (ao p v).atoms a] g)/\2<=2/\(∀(c:Nat),c<2->nth u3 c=aj (nth [int i64 0,fz Fz.nil 0 0 fun x x_1=>any]) 0 2 (List.brecOn (motive:=fun (x:List AV)=>Nat->AV) u3 nth._f) c)/\(bh p v=true->WpC Tryd.prog R 37 0 60 [1,1,1,0,0,0,1,0,1,1,0] Q [Kont.seq [1,1,1,0,0,0,1,1],Kont.blk 1] (St.mk u4 u1 g))/\(bh p v=false->Flw Tryd.prog/\26<=27/\24<=24/\OpOk Tryd.prog R (Oper.mk (some 34) (Op.binOp BinOp.eql 95 (Operand.tmp 32) (Operand.tmp 33) 95) 4 "table.go:195" #[Edge.mk 3 Ground.data,Edge.mk 4 Ground.data] none) (evO [Row.mk (some 33) none (agg 24 (aj (nth u2) 0 24 fun j=>ae p v (AV.mp 1) (j+2))) false (some []) [27],Row.mk (some 32) none (agg 24 fun j=>ae p v (AV.mp 1) (j+2)) false (some []) [0],Row.mk (some 31) none (ref 0 2) false (some []) [],Row.mk (some 30) none (ref 0 0) false (some []) [],Row.mk (some 29) none (ref 0 0) false (some []) []] u4 []) u1 g (AV.bool true) u1 g/\(true=true->Q AEx.ret (St.mk [(2,ow true 2 (List.length l) 2),(3,ref 0 0)] u1 g))/\(true=false->WpC Tryd.prog R 37 0 60 [1,1,1,0,0,0,1,1,1,1] Q [Kont.blk 1] (St.mk [(4,ref 0 0),(5,ow true 2 (List.length l) 2),(34,AV.bool true)] u1 g)))) (cells false 24 (aj (nth u2) 0 24 fun j=>ae p v (AV.mp 1) (j+2)))) ([(4,ref 0 0),(5,ow true 2 (List.length l) 2),(6,ref 27 0),(7,ref 29 0),(20,AV.bool (bh p v))])) ([int i64 (ao p v).rule,ow true 28 (List.length (ao p v).atoms) 1])) ([int i64 0,int i64 0,int i64 0,int i64 0,int i64 0,int i64 0,int i64 0,int i64 0,int i64 0,int i64 0,int i64 0,int i64 0,int i64 0,int i64 0,int i64 0,int i64 0,int i64 0,int i64 0,int i64 0,int i64 0,int i64 0,int i64 0,int i64 0,int i64 0])) ([cells false 27 (ae p v (AV.mp 1)),AObj.map (esF p.rules.l),cells false (List.length l*2) (bK l),ab l 0,ab l 1,ab l 2,ab l 3,ab l 4,ab l 5,ab l 6,ab l 7,ab l 8,ab l 9,ab l 10,ab l 11,ab l 12,ab l 13,ab l 14,ab l 15,ab l 16,ab l 17,ab l 18,ab l 19,ab l 20,ab l 21,ab l 22,ab l 23,cells false 24 (aj (nth [int i64 0,int i64 0,int i64 0,int i64 0,int i64 0,int i64 0,int i64 0,int i64 0,int i64 0,int i64 0,int i64 0,int i64 0,int i64 0,int i64 0,int i64 0,int i64 0,int i64 0,int i64 0,int i64 0,int i64 0,int i64 0,int i64 0,int i64 0,int i64 0]) 0 24 fun j=>ae p v (AV.mp 1) (j+2)),cells false (List.length (ao p v).atoms*1) fun a=>ac (ao p v).atoms a,cells false 2 (nth [int i64 (ao p v).rule,ow true 28 (List.length (ao p v).atoms) 1])])) ⟨omg,omg,⟨rfl,(doT (T:=LT) [0,1] 28 (fun R _ g=>nI R (p) (v) (esF p.rules.l) omg omg omg omg g) (e3:=by exact⟨⟨rfl,Nat.le_refl _,fun j hj=>(by first|exact bC (by first|exact trivial|apply aR)|exact zU (cm rfl)|exact zU (bU (by rfl)))⟩,rfl,zV,zV,zV,zV,zV,zV,zV,zV,zV,zV,zV,zV,zV,zV,zV,zV,zV,zV,zV,zV,zV,zV,zV,zV,zV,zV,⟨rfl,Nat.le_refl _,fun j hj=>(by first|exact bC (by first|exact trivial|apply dT)|exact zU (fG rfl))⟩,trivial⟩))⟩,omg,(fun c hc=>match c,hc with|0,_=>krf|1,_=>krf ),fun hcc=>(nomatch (hb.symm.trans hcc)),fun _=>⟨krf,omg,omg,?_,fun _=>?_,fun h=>(nomatch h)⟩⟩
   ·exact nV (x:=.tmp 32) (y:=.tmp 33) v v true rfl (by intro h;cases h) nW nX (by simp)
   ·refine⟨_,z6 _,(aq (bg 27 _ _ rfl trivial omg ⟨⟨trivial,(show 3<=27 by omega)⟩,(show 1<=27 by omega)⟩ ⟨(fun _ _=>(by first|exact trivial|apply aR)),(fun _ _=>?_),(fun _ _=>trivial),(fun _ _=>trivial),(fun _ _=>trivial),(fun _ _=>trivial),(fun _ _=>trivial),(fun _ _=>trivial),(fun _ _=>trivial),(fun _ _=>trivial),(fun _ _=>trivial),(fun _ _=>trivial),(fun _ _=>trivial),(fun _ _=>trivial),(fun _ _=>trivial),(fun _ _=>trivial),(fun _ _=>trivial),(fun _ _=>trivial),(fun _ _=>trivial),(fun _ _=>trivial),(fun _ _=>trivial),(fun _ _=>trivial),(fun _ _=>trivial),(fun _ _=>trivial),(fun _ _=>trivial),(fun _ _=>trivial),trivial⟩ krf rfl rfl) (zT _))⟩
    exact xF omg (by assumption)
def aI (v:Nat->Int):Nat->AV:=fun j=>if 2<=j/\j<26 then .int .i64 (v (j-2)) else .any
theorem kY {k:Nat}(v:Nat->Int)(j:Nat):Below k (aI v j):=by
 unfold aI
 split <;> trivial
theorem dg {f:Nat->Nat}(h:True){v:Nat->Int}{j:Nat}:aF f (aI v j)=aI v j:=by
 unfold aI
 split <;> rfl
theorem nY {v:Nat->Int}{k j:Nat}(e:k=j+2)(h:j<24):aI v k=.int .i64 (v j):=by
 subst e
 unfold aI
 rw[if_pos omg]
 rfl
theorem rA {p:Prg}{v:Nat->Int}{m:AV}{j:Nat}:Le (ae p v m j) (aI v j):=by
 unfold aI
 split
 ·rename_i h
  exact zU (dU omg omg)
 ·exact Le.any _
def lB (s:Stp):Step:=⟨s.rule,s.atoms,.auto⟩
def bN (l:List Stp):KL Step:=⟨l.map lB,.auto⟩
theorem rB (l:List Stp):(bN l).l.length=l.length:=by unfold bN;rw[List.length_map]
theorem xG {l:List Stp}{i:Nat}(hi:i<l.length):(bN l).l.getD i default=lB (l.getD i default):=by
 unfold bN
 rw[List.getD_eq_getElem?_getD,List.getD_eq_getElem?_getD,List.getElem?_map,List.getElem?_eq_getElem hi]
 rfl
theorem xH {hp:List AObj}{k m o:Nat}{s:Stp}(ho:ag hp o=.cells false (s.atoms.length*1) (ac s.atoms))(hk:k<=o):aA hp k m (.ow true o s.atoms.length 1) (ah ⟨s.atoms,.auto⟩):=
 (aA.ow ho hk (Nat.le_refl _) dcd (fun j _=>z1 (dT _ _))).le (zZ rfl (fun i j hi hj=>by
  show AV.int .i64 _=_
  rw[show i*1+j=i by omega]))
theorem nZ (R:Res)[Tab LT R](p:Prg)(hl:p.rules.l.length<1000000)(hr:∀r,r∈p.rules.l->aK r)(hp:cW p)(hh:dW p)(g:R.σ):Does Tryd.prog R 60 [av p] [] g (.ret (.tup 2 (nth [au (bN (al p).1),.ref 0 0]))) [.cells false 27 (aI (al p).2)] g:=by
 refine ip (rz R p hl hr hp hh g) ?_
 have hlen:∀i,i<(al p).1.length->i<24:=fun i hi=>by have:=nS hp hr hh;omega
 refine To.trans (jy 2 [(0,.tup 2 (nth [au (bN (al p).1),.ref 0 0]))] (Nat.zero_le _) (by show 2<=27;omega) (fun i hi=>?_) ⟨aA.tup (fun j hj=>?_),trivial⟩) ?_
 ·match i,hi with
  |0,_=>exact fun j hj=>aR p _ 0 j
  |1,_=>trivial
 ·match j,hj with
  |0,_=>
   refine aA.le (aA.ow (o:=2) (N:=(al p).1.length*2) (c:=bK (al p).1) (get:=fun c=>bif Nat.beq (c%2) 0 then .int .i64 ((al p).1.getD (c/2) default).rule else ah ⟨((al p).1.getD (c/2) default).atoms,.auto⟩) (fr:=false) rfl (Nat.le_refl _) (Nat.le_refl _) dcd (fun c hc=>?_)) ?_
   ·unfold bK
    cases Nat.beq (c%2) 0 with
    |true=>exact z1 trivial
    |false=>exact xH ((lv (hlen _ omg)).trans rfl) omg
   ·refine zZ (rB _).symm (fun i j hi hj=>?_)
    show _=e8 _ j
    rw[xG hi]
    show(bif Nat.beq ((i*2+j)%2) 0 then _ else _)=_
    rw[show(i*2+j)%2=j by omega,show(i*2+j)/2=i by omega]
    match j,hj with
    |0,_=>rfl
    |1,_=>rfl
  |1,_=>exact z1 (show 0<2 by omega)
 ·exact ed [0] 2 rfl rfl rfl rfl rfl ⟨zX (fun j hj=>match j,hj with|0,_=>zU rfl|1,_=>zT _),trivial⟩ ⟨⟨rfl,Nat.le_refl _,fun j hj=>by
   show Le (ae p _ (.mp 1) j) (aF _ (aI _ j))
   rw[dg trivial]
   exact rA⟩,trivial⟩
theorem xI (R:Res)(v:Nat->Int)(n:Nat)(hn:0<n/\n<=24)(g:R.σ):Does Tryd.prog R 61 [.sl 0 2 n 24 true 1] [.cells false 27 (aI v)] g (.ret (.sl 1 0 n n false 1)) [.cells false 27 (aI v),.cells false (n*1) (fun j=>.int .i64 (v j))] g:=by
 have hroom:aB=140737488355328:=rfl
 refine spW (nt:=8) (rs:=[.tmp 2]) (k0:=1) ?_
 refine vcR [[1,0,1,0]] (lkL [(0,[0]),(1,[0,4]),(3,[2])]) (fun _=>[]) (fun Q=>(false=true->WpC Tryd.prog R 8 1 61 [1,0,1,0] Q [Kont.seq [1,1]] (St.mk [(0,sl 0 2 n 24 true 1),(4,AV.bool false)] [cells false 27 (aI v)] g))/\(false=false->0<0+n/\0<n/\0<1/\(0+n)*8<=aB/\0+n<=aB/\2+n*1<=27/\0<=0/\Q AEx.ret (St.mk [(2,sl 2 0 (0+n) (0+n) false 1)] [cells false 27 (aI v),cells false 0 fun j=>int i64 0,cells false ((0+n)*1) (a8 1 0 (fun (i j:Nat)=>int i64 0) fun i j=>aI v (2+i*1+j))] g))) ⟨fun h=>(nomatch h),fun _=>⟨omg,omg,omg,omg,omg,omg,omg,?_⟩⟩
 refine eD (.sl 2 0 (0+n) (0+n) false 1) _ rfl trivial (toS [0,2] 3 (hfr:=⟨zU (by show AV.sl 2 0 (0+n) (0+n) false 1=AV.sl 2 0 n n false 1;rw[Nat.zero_add]),trivial⟩) (hob:=⟨z4 (fun j hj=>(dg trivial).symm),⟨rfl,by rw[Nat.zero_add];exact Nat.le_refl _,fun c hc=>zU ?_⟩,trivial⟩))
 show a8 1 0 _ _ c=AV.int .i64 (v c)
 unfold a8
 rw[if_neg omg]
 show aI v (2+(c-0*1)/1*1+(c-0*1)%1)=_
 exact nY omg omg
def et (p:Prg)(v:Nat->Int):KL Int:=⟨(List.range p.atoms.toNat).map v,.opn⟩
theorem xJ (p:Prg)(v:Nat->Int):(et p v).l.length=p.atoms.toNat:=by unfold et;rw[List.length_map,List.length_range]
theorem xK {p:Prg}{v:Nat->Int}{i:Nat}(hi:i<p.atoms.toNat):(et p v).l.getD i 0=v i:=by
 unfold et
 rw[List.getD_eq_getElem?_getD,List.getElem?_map,List.getElem?_range hi]
 rfl
theorem ff {p:Prg}(h:aJ p=true):p.rules.l.length<1000000/\(∀r,r∈p.rules.l->aK r)/\cW p/\dW p/\(∀r,r∈p.rules.l->∀l,l∈r.body.l->0<=l.atom/\l.atom<p.atoms):=by
 unfold aJ at h
 simp only[Bool.and_eq_true,decide_eq_true_eq,List.all_eq_true] at h
 obtain⟨h1,h2,h3⟩:=h
 have hr:∀r,r∈p.rules.l->(0<=r.head/\r.head<=p.atoms-1)/\r.body.l.length<=4/\∀l,l∈r.body.l->0<=l.atom/\l.atom<=p.atoms-1:=fun r hm=>by
  have:=h3 r hm
  unfold e9 at this
  simp only[Bool.and_eq_true,decide_eq_true_eq,List.all_eq_true] at this
  refine⟨this.1,this.2.1,fun l hl=>?_⟩
  have:=this.2.2 l hl
  unfold eF at this
  exact of_decide_eq_true this
 refine⟨omg,fun r hm=>?_,h1,fun r hm=>?_,fun r hm l hl=>?_⟩
 ·obtain⟨a1,a2,a3⟩:=hr r hm
  refine⟨⟨omg,fun l hl=>?_⟩,a1.1,omg⟩
  have:=a3 l hl
  omega
 ·have:=(hr r hm).1;omega
 ·have:=(hr r hm).2.2 l hl;omega
theorem gM {p:Prg}(h:aJ p=true):eh p:=by
 obtain⟨h1,h2,_⟩:=ff h
 refine⟨h1,fun i=>?_⟩
 rcases Nat.lt_or_ge i p.rules.l.length with hi|hi
 ·exact(h2 _ (bQ _ default hi)).1.1
 ·rw[List.getD_eq_getElem?_getD,List.getElem?_eq_none hi]
  exact(by decide:(0:Nat)<1000000)
theorem xL (R:Res)[Tab LT R](p:Prg)(hb:aJ p=true)(g:R.σ):Does Tryd.prog R 17 [av p] [] g (.ret (.tup 3 (nth [au (bN (al p).1),ah (et p (al p).2),.int .i64 0]))) [] g:=by
 obtain⟨hl,hr,hp,hh,hx⟩:=ff hb
 have hs:eh p:=gM hb
 have hp':1<=p.atoms/\p.atoms<=24:=hp
 refine spW (nt:=23) (rs:=[.tmp 2,.tmp 3,.tmp 4]) (k0:=0) ?_
 have hc:((if aJ p then(0:Int) else 2) != 0)=false:=by rw[hb];rfl
 refine vcR [[1,0,1,0]] (lkL [(0,[1]),(1,[1,9]),(3,[1,5,6]),(4,[2,3,4])]) (lkL [(1,[(1,ROrc.pcall (int i64 (if aJ p=true then 0 else 2)))]),(3,[(1,ROrc.call (tup 2 (nth [fz Fz.auto 2 (List.length (bN (al p).fst).l) fun (i:Nat)=>e8 (List.getD (bN (al p).fst).l i default),ref 1 0])) [cells false 2 (nth [int i64 p.atoms,af p.rules]),cells false 27 (aI (al p).snd)] g)]),(4,[(7,ROrc.callN (sl 2 0 (Int.toNat p.atoms-0) (Int.toNat p.atoms-0) false 1) [] [cells false ((Int.toNat p.atoms-0)*1) fun (j:Nat)=>int i64 ((al p).snd j)] g)])]) (fun Q=>(fun (u1:AObj)=>(fun (u2:List AObj)=>(fun (u3:AV)=>(fun (u4:Int)=>(fun (u5:Nat)=>2<=2/\(∀(hp:List AObj) (g:R.σ),true=true/\Does Tryd.prog R 16 [av p] hp g (ret (int i64 u4)) hp g)/\((u4 != 0)=true->WpC Tryd.prog R 23 0 17 [1,0,1,0] Q [Kont.seq [1,1]] (St.mk [(1,ref 0 0),(9,AV.bool (u4 != 0))] [u1] g))/\((u4 != 0)=false->2<=2/\(true=true/\Does Tryd.prog R 60 [av p] [u1] g (ret (tup 2 (nth [u3,ref 1 0]))) [u1,cells false 27 (aI (al p).snd)] g)/\Flw Tryd.prog/\1<=2/\(0<=p.atoms/\p.atoms<=(↑24:Int))/\0<24/\26<=27/\0<27/\(true=true/\Does Tryd.prog R 61 [sl 1 2 u5 24 true 1] [u1,cells false 27 (aI (al p).snd)] g (ret (sl 2 0 u5 u5 false 1)) u2 g)/\Q AEx.ret (St.mk [(2,u3),(3,sl 2 0 u5 u5 false 1),(4,int i64 0)] u2 g))) (Int.toNat p.atoms-0)) (if aJ p=true then 0 else 2)) (fz Fz.auto 2 (List.length (bN (al p).fst).l) fun i=>e8 (List.getD (bN (al p).fst).l i default))) ([u1,cells false 27 (aI (al p).snd),cells false ((Int.toNat p.atoms-0)*1) fun j=>int i64 ((al p).snd j)])) (cells false 2 (nth [int i64 p.atoms,af p.rules]))) ⟨omg,(fun _ _=>⟨rfl,(fZ _ _ _ _ omg)⟩),fun hcc=>(nomatch (hc.symm.trans hcc)),fun _=>⟨omg,⟨rfl,(doT (T:=LT) [] 1 (fun R _ g=>nZ R (p) omg omg omg omg g))⟩,krf,omg,omg,omg,omg,omg,⟨rfl,(doT (T:=LT) [1] 2 (fun R _ g=>xI R ((al p).snd) (Int.toNat p.atoms-0) omg g))⟩,?_⟩⟩
 refine eD (.tup 3 (nth [au (bN (al p).1),.sl 2 0 (p.atoms.toNat-0) (p.atoms.toNat-0) false 1,.int .i64 0])) _ rfl trivial (jy 0 [(0,.tup 3 (nth [au (bN (al p).1),ah (et p (al p).2),.int .i64 0]))] (Nat.le_refl _) (Nat.zero_le _) (fun i hi=>absurd hi (Nat.not_lt_zero i)) ⟨aA.tup (fun j hj=>match j,hj with|0,_=>z1 trivial|1,_=>aA.le (aA.sl (o:=2) (N:=(p.atoms.toNat-0)*1) (c:=fun j=>.int .i64 ((al p).2 j)) (get:=fun j=>.int .i64 ((al p).2 j)) (fr:=false) rfl (Nat.zero_le _) omg (Nat.le_refl _) dcd (fun j _=>z1 trivial)) (zZ (by rw[xJ];rfl) (fun i j hi hj=>?_))|2,_=>z1 trivial),trivial⟩)
 have hi':i<p.atoms.toNat:=hi
 rw[xK hi',show 0+i*1+j=i by omega]
def hgF (p:Prg):Nat->Nat->Nat->Nat
 |0,_,s=>s
 |n+1,a,s=>if s.testBit a then s else(ofH p.rules.l (a:Int)).foldl (fun (s:Nat) (r:Rule)=>r.body.l.foldl (fun (s:Nat) (l:Lit)=>hgF p n l.atom.toNat s) s) (s|||2^a)
theorem lC {U β:Type}(f:β->U->β)(s:β)(l:List U)(d:U){i:Nat}(h:i<l.length):(l.take (i+1)).foldl f s=f ((l.take i).foldl f s) (l.getD i d):=by
 rw[List.take_add_one,List.foldl_append,List.getElem?_eq_getElem h,List.getD_eq_getElem?_getD,List.getElem?_eq_getElem h]
 rfl
def upS (f:Nat->Nat):Prop:=∀s,s<2^24->ep s (f s)/\f s<2^24
theorem gc {U:Type}{f:Nat->U->Nat}:∀{l:List U},(∀x,x∈l->upS (fun s=>f s x))->upS (fun s=>l.foldl f s)
 |[],_=>fun s hs=>⟨fun _ h=>h,hs⟩
 |x::l,h=>fun s hs=>by
  obtain⟨h1,h2⟩:=h x List.mem_cons_self s hs
  obtain⟨h3,h4⟩:=gc (l:=l) (fun y hy=>h y (List.mem_cons_of_mem _ hy)) _ h2
  exact⟨fun j hj=>h3 j (h1 j hj),h4⟩
theorem jT {s a:Nat}(hs:s<2^24)(ha:a<24):s|||2^a<2^24:=Nat.or_lt_two_pow hs (Nat.pow_lt_pow_right dcd ha)
theorem gN (s a j:Nat):(s|||2^a).testBit j=(s.testBit j||decide (a=j)):=by
 rw[Nat.testBit_or,Nat.testBit_two_pow]
theorem gO {p:Prg}(hr:∀r,r∈p.rules.l->aK r):∀(n a:Nat),a<24->upS (hgF p n a)
 |0,_,_=>fun s hs=>⟨fun _ h=>h,hs⟩
 |n+1,a,ha=>fun s hs=>by
  show ep s (if s.testBit a then s else _)/\(if s.testBit a then s else _)<2^24
  by_cases hb:s.testBit a=true
  ·rw[if_pos hb];exact⟨fun _ h=>h,hs⟩
  ·rw[if_neg hb]
   have h:=gc (l:=ofH p.rules.l (a:Int)) (f:=fun (s:Nat) (r:Rule)=>r.body.l.foldl (fun (s:Nat) (l:Lit)=>hgF p n l.atom.toNat s) s) (fun r hm=>gc (fun l hl=>gO hr n l.atom.toNat (by
    have:=(hr r (List.mem_filter.1 hm).1).1.2 l hl
    omega))) _ (jT hs ha)
   exact⟨fun j hj=>h.1 j (by rw[gN,hj];rfl),h.2⟩
theorem n6 {s t:Nat}(h:ep s t):(ai s).length<=(ai t).length:=nP (fun j _ hj=>h j hj)
theorem rC {s a:Nat}(ha:a<24)(h:s.testBit a=false):(ai s).length<(ai (s|||2^a)).length:=
 jP (fun j _ hj=>by rw[gN,hj];rfl) ⟨a,List.mem_range.2 ha,by rw[gN];simp,h⟩
theorem xM (p:Prg)(v:Nat->Int)(es:List (Value × AV))(hes:HeadsOk es p.rules.l)(hl:p.rules.l.length<1000000)(hr:∀r,r∈p.rules.l->aK r):∀(n:Nat) (R:Res) (a:Int) (s:Nat) (g:R.σ),0<=a/\a<24->s<2^24->24<n+(ai s).length ->
  Does Tryd.prog R 102 [.int .i64 a,.ref 2 0,.ref 3 0,.ref 4 0] [.cells false 27 (ae p v (.mp 1)),.map es,.cells false 1 (fun _=>.int .u64 s),.cells false 1 (fun _=>.ref 0 0),.cells false 1 (fun _=>.fn 102 0 (nth []) 3 (nth [.ref 2 0,.ref 3 0,.ref 4 0]))] g (.ret (.tup 0 (nth []))) [.cells false 27 (ae p v (.mp 1)),.map es,.cells false 1 (fun _=>.int .u64 (hgF p n a.toNat s)),.cells false 1 (fun _=>.ref 0 0),.cells false 1 (fun _=>.fn 102 0 (nth []) 3 (nth [.ref 2 0,.ref 3 0,.ref 4 0]))] g:=by
 intro n
 induction n with
 |zero=>
  intro R a s g _ _ h
  have:=gK s
  omega
 |succ n ih=>
  intro R a s g ha hs hn
  obtain⟨m,hm⟩:∃m:Nat,a=m:=⟨a.toNat,by omega⟩
  subst hm
  have hks:∀e∈es,∃l,Go.keyOf Tryd.prog 3 e.1=some l:=fun e he=>by
   obtain⟨b,e1,e2⟩:=hes.key e he
   rw[e1]
   exact gH e2
  obtain⟨k,hk1,hk2⟩:∃k:Fz,(ofH p.rules.l m=[]->k=.nil)/\(ofH p.rules.l m≠[]->k=.opn):=⟨if ofH p.rules.l m=[] then .nil else .opn,fun h=>if_pos h,fun h=>if_neg h⟩
  have hlf:(ofH p.rules.l m).length<1000000:=Nat.lt_of_le_of_lt (List.length_filter_le _ _) hl
  have hrf:∀r,r∈ofH p.rules.l m->aK r:=fun r h=>hr r (List.mem_filter.1 h |>.1)
  have hdef:hgF p (n+1) ((m:Int).toNat) s=if s.testBit m then s else(ofH p.rules.l (m:Int)).foldl (fun (s:Nat) (r:Rule)=>r.body.l.foldl (fun (s:Nat) (l:Lit)=>hgF p n l.atom.toNat s) s) (s|||2^m):=rfl
  rw[hdef]
  refine dF (nt:=40) (rs:=[]) (k0:=5) (by kernel_rfl) (by kernel_rfl) (by kernel_rfl) rfl ?_
  refine vcQ [] (lkL [(0,[0,1,2,3,11]),(1,[0,2,3]),(2,[3,21,22,23])]) (lkL [(0,[(2,ROrc.pcall (AV.bool (Nat.testBit s m)))]),(1,[(2,ROrc.pcall (int u64 (↑(2^m):Int))),(4,ROrc.val (Orc.obj (nth [int u64 (IntKind.wrap u64 (↑(BitVec.toNat (BitVec.ofInt 64 (s:Int)|||BitVec.ofInt 64 (↑(2^m):Int))):Int))])))]),(2,[(5,ROrc.kop (af (KL.mk (ofH p.rules.l (m:Int)) k)))])]) (fun Q=>(fun (u1:List AObj)=>(fun (u2:AV)=>(fun (u3:AV)=>(fun (u4:AV)=>1<=1/\(∀(hp:List AObj) (g:R.σ),true=true/\Does Tryd.prog R 71 [int u64 (s:Int),u4] hp g (ret (AV.bool (Nat.testBit s m))) hp g)/\(Nat.testBit s m=true->Q AEx.ret (St.mk [(0,u4),(1,ref 2 0),(2,ref 3 0),(3,ref 4 0),(11,AV.bool (Nat.testBit s m))] [cells false 27 (ae p v (AV.mp 1)),AObj.map es,cells false 1 fun (x:Nat)=>int u64 (s:Int),cells false 1 fun (x:Nat)=>ref 0 0,cells false 1 fun (x:Nat)=>fn 102 0 (nth []) 3 (nth [ref 2 0,ref 3 0,ref 4 0])] g))/\(Nat.testBit s m=false->Tables.follows Tryd.prog.toTables Departure.mixedOrders=true/\1<=1/\(∀(hp:List AObj) (g:R.σ),true=true/\Does Tryd.prog R 79 [u4] hp g (ret (int u64 (↑(2^m):Int))) hp g)/\1<=1/\(∀(c:Nat),c<1->nth [u3] c=aj (fun (x:Nat)=>int u64 (s:Int)) 0 1 (fun (x:Nat)=>u3) c)/\1<=1/\27<=27/\OpOk Tryd.prog R (Oper.mk (some 21) (Op.lookup 96 (Operand.tmp 19) (Operand.tmp 20) false) 22 "table.go:248" #[Edge.mk 3 Ground.data,Edge.mk 4 Ground.data] none) (evO [Row.mk (some 20) none u4 false (some []) [],Row.mk (some 19) none (AV.mp 1) false (some []) [0],Row.mk (some 18) none (ref 0 26) false (some []) [],Row.mk (some 17) none (ref 0 0) false (some []) [],Row.mk (some 16) none (ref 0 0) false (some []) [3]] [(0,u4),(2,ref 3 0),(3,ref 4 0)] []) u1 g u2 u1 g/\Wp Tryd.prog R 40 5 Rd.top (ax Tryd.prog 102) [1,1,1,0] (aP Tryd.prog R 40 5 Rd.top (ax Tryd.prog 102) Q [Kont.blk 0]) (St.mk [(3,ref 4 0),(21,u2),(22,int i64 (↑((ofH p.rules.l (m:Int)).length):Int)),(23,int i64 0)] u1 g))) (int i64 (m:Int))) (int u64 (IntKind.wrap u64 (↑(BitVec.toNat (BitVec.ofInt 64 (s:Int)|||BitVec.ofInt 64 (↑(2^m):Int))):Int)))) (fz k 2 ((ofH p.rules.l (m:Int)).length) fun (i:Nat)=>bx ((ofH p.rules.l (m:Int)).getD i default))) ([cells false 27 (ae p v (AV.mp 1)),AObj.map es,cells false 1 (nth [int u64 (IntKind.wrap u64 (↑(BitVec.toNat (BitVec.ofInt 64 (s:Int)|||BitVec.ofInt 64 (↑(2^m):Int))):Int))]),cells false 1 fun (x:Nat)=>ref 0 0,cells false 1 fun (x:Nat)=>fn 102 0 (nth []) 3 (nth [ref 2 0,ref 3 0,ref 4 0])])) (fun _=>by kernel_rfl) ⟨by omega,(fun _ _=>⟨rfl,(jD _ _ _ (by omega) (by omega) _ _)⟩),fun c1=>?_,fun c1=>⟨by kernel_rfl,by omega,(fun _ _=>⟨rfl,(gG _ _ (by omega) _ _)⟩),by omega,(fun c hc=>match c,hc with|0,_=>(by kernel_rfl) ),by omega,by omega,?_,?_⟩⟩
  ·rw[if_pos c1]
   refine(aq (aU _ _ rfl trivial rfl rfl rfl) (zT _))
  ·by_cases h0:ofH p.rules.l m=[]
   ·rw[hk1 h0,h0]
    exact ql (t:=96) (kt:=3) (vt:=22) (m:=.tmp 19) (x:=.tmp 20) (ob:=1) (es:=es) (kv:=.int .i64 m) rfl (by kernel_rfl) (Go.Maps.int_keyed (q:=.i64) (by kernel_rfl)) rfl (by exact Le.nil) rfl rfl (fun FM Z v h=>h) (gH (by omega)) hks (hes.miss m h0)
   ·rw[hk2 h0]
    exact qk (t:=96) (kt:=3) (vt:=22) (m:=.tmp 19) (x:=.tmp 20) (ob:=1) (es:=es) (kv:=.int .i64 m) (d:=af ⟨ofH p.rules.l m,.opn⟩) rfl (by kernel_rfl) (Go.Maps.int_keyed (q:=.i64) (by kernel_rfl)) rfl rfl (fun FM Z v h=>h) (gH (by omega)) hks (hes.hit m h0).1 (hes.hit m h0).2
  ·rw[if_neg (by rw[c1];decide)]
   obtain⟨t,ht⟩:∃t,s|||2^m=t:=⟨_,rfl⟩
   have ht24:t<2^24:=by rw[<-ht];exact jT hs (by omega)
   have htn:24<n+(ai t).length:=by
    have:=rC (s:=s) (a:=m) (by omega) c1
    rw[ht] at this
    omega
   obtain⟨L,hL⟩:∃L,ofH p.rules.l (m:Int)=L:=⟨_,rfl⟩
   rw[hL] at hlf hrf
   have hor:u64.wrap ((BitVec.ofInt 64 (s:Int)|||BitVec.ofInt 64 (2^m)).toNat:Int)=(t:Int):=by
    rw[<-ht]
    exact Tb.u64_or (bz hs) (bz (Nat.pow_lt_pow_right (by decide) (by omega)))
   obtain⟨F,hF⟩:∃F:Nat->Rule->Nat,F=fun (s:Nat) (r:Rule)=>r.body.l.foldl (fun (s:Nat) (l:Lit)=>hgF p n l.atom.toNat s) s:=⟨_,rfl⟩
   rw[ht,hL,hor,<-hF]
   have hup:∀r,r∈L->upS (fun s=>F s r):=fun r hm=>by
    rw[hF]
    exact gc (fun l hl=>gO hr n l.atom.toNat (by have:=(hrf r hm).1.2 l hl;omega))
   have huT:∀i,ep t ((L.take i).foldl F t)/\(L.take i).foldl F t<2^24:=fun i=>gc (f:=F) (l:=L.take i) (fun r hm=>hup r (List.mem_of_mem_take hm)) t ht24
   refine(aX (by kernel_rfl) (fun (i:Nat)=>⟨[(3,ref 4 0),(21,fz k 2 (L.length) fun (i:Nat)=>bx (L.getD i default)),(22,int i64 (L.length:Int)),(23,.int .i64 i)],[.cells false 27 (ae p v (.mp 1)),.map es,.cells false 1 (fun _=>.int .u64 ((L.take i).foldl F t:Nat)),.cells false 1 (fun _=>.ref 0 0),.cells false 1 (fun _=>.fn 102 0 (nth []) 3 (nth [.ref 2 0,.ref 3 0,.ref 4 0]))],g⟩) (fun (i:Nat)=>(i<=L.length)) (fun (i:Nat)=>(L.length-i)) 0 (jc ⟨zT _,zT _,zT _,(zU (by kernel_rfl)),trivial⟩ ⟨zV,rfl,⟨rfl,Nat.le_refl _,fun j hj=>match j,hj with|0,_=>(zU (by kernel_rfl)) ⟩,zV,zV,trivial⟩ rfl) ?_ (fun i hi=>?_))
   ·exact Nat.zero_le _
   ·obtain⟨hu1,hu2⟩:=huT i
    rcases Nat.lt_or_ge i L.length with hlt|hge
    ·have hq:=hrf _ (ek hlt)
     have hq1:=hq.1.1
     have hstep:=lC F t L default hlt
     obtain⟨u,hu⟩:∃u,(L.take i).foldl F t=u:=⟨_,rfl⟩
     rw[hu] at hu1 hu2 hstep ⊢
     obtain⟨B,hB⟩:∃B,(L.getD i default).body=B:=⟨_,rfl⟩
     have hFB:F u (L.getD i default)=B.l.foldl (fun (s:Nat) (l:Lit)=>hgF p n l.atom.toNat s) u:=by rw[hF,<-hB]
     have hBl:∀l,l∈B.l->0<=l.atom/\l.atom<24:=by rw[<-hB];exact hq.1.2
     have huB:∀j,ep u ((B.l.take j).foldl (fun (s:Nat) (l:Lit)=>hgF p n l.atom.toNat s) u)/\(B.l.take j).foldl (fun (s:Nat) (l:Lit)=>hgF p n l.atom.toNat s) u<2^24:=fun j=>gc (f:=fun (s:Nat) (l:Lit)=>hgF p n l.atom.toNat s) (fun l hm=>gO hr n l.atom.toNat (by have:=hBl l (List.mem_of_mem_take hm);omega)) u hu2
     rw[hFB] at hstep
     rw[hB] at hq1
     refine vcQ [] (lkL [(3,[3,21,22,23,24]),(4,[3,6,21,22,23]),(5,[3,21,22,23,28,29,30])]) (lkL [(4,[(3,ROrc.val (Orc.obj (nth [int i64 (L.getD i default).head,am (L.getD i default).body])))])]) (fun Q=>(fun (u1:Int)=>(fun (u2:List AV)=>(fun (u3:Int)=>(fun (u4:AObj)=>(fun (u5:AV)=>(decide (u3<u1)=true->(0<=u3/\u3<u1)/\2<=2/\2<=2/\(∀(c:Nat),c<2->nth u2 c=aj (nth [int i64 0,fz Fz.nil 0 0 fun _ _=>any]) 0 2 (List.brecOn (motive:=fun (x:List AV)=>Nat->AV) u2 nth._f) c)/\2<=2/\Wp Tryd.prog R 40 5 Rd.top (ax Tryd.prog 102) [1,1,1,0,0,1,1,0,0,1,1,0] (aP Tryd.prog R 40 5 Rd.top (ax Tryd.prog 102) Q [Kont.blk 2,Kont.blk 1,Kont.seq [1,1,1,0,0,1,1,1]]) (St.mk [(3,ref 4 0),(21,u5),(22,int i64 u1),(23,int i64 u3),(28,am (L.getD i default).body),(29,int i64 (↑((L.getD i default).body.l.length):Int)),(30,int i64 0)] [cells false 27 (ae p v (AV.mp 1)),AObj.map es,cells false 1 fun (x:Nat)=>int u64 (u:Int),cells false 1 fun (x:Nat)=>ref 0 0,u4,cells false 2 (nth u2)] g))/\(decide (u3<u1)=false->Q (AEx.exit 0) (St.mk [(3,ref 4 0),(21,u5),(22,int i64 u1),(23,int i64 u3),(24,AV.bool (decide (u3<u1)))] [cells false 27 (ae p v (AV.mp 1)),AObj.map es,cells false 1 fun (x:Nat)=>int u64 (u:Int),cells false 1 fun (x:Nat)=>ref 0 0,u4] g))) (fz k 2 (L.length) fun (i:Nat)=>bx (L.getD i default))) (cells false 1 fun (x:Nat)=>fn 102 0 (nth []) 3 (nth [ref 2 0,ref 3 0,ref 4 0]))) ((i:Int))) ([int i64 (L.getD i default).head,am (L.getD i default).body])) ((L.length:Int))) (fun _=>by kernel_rfl) ⟨fun c1=>have c1:(i:Int)<(L.length:Int):=(of_decide_eq_true c1);⟨by omega,by omega,by omega,(fun c hc=>match c,hc with|0,_=>(by kernel_rfl)|1,_=>(by kernel_rfl) ),by omega,?_⟩,fun c1=>have c1:¬(i:Int)<(L.length:Int):=(of_decide_eq_false c1);?_⟩
     ·rw[hB]
      refine(aX (by kernel_rfl) (fun (j:Nat)=>⟨[(3,ref 4 0),(21,fz k 2 (L.length) fun (i:Nat)=>bx (L.getD i default)),(22,int i64 (L.length:Int)),(23,int i64 (i:Int)),(28,am B),(29,int i64 (B.l.length:Int)),(30,.int .i64 j)],[.cells false 27 (ae p v (.mp 1)),.map es,.cells false 1 (fun _=>.int .u64 ((B.l.take j).foldl (fun (s:Nat) (l:Lit)=>hgF p n l.atom.toNat s) u:Nat)),.cells false 1 (fun _=>.ref 0 0),.cells false 1 (fun _=>.fn 102 0 (nth []) 3 (nth [.ref 2 0,.ref 3 0,.ref 4 0])),.cells false 2 (nth [.int .i64 (L.getD i default).head,am B])],g⟩) (fun (j:Nat)=>(j<=B.l.length)) (fun (j:Nat)=>(B.l.length-j)) 0 (jc ⟨zT _,zT _,zT _,zT _,zT _,zT _,(zU (by kernel_rfl)),trivial⟩ ⟨zV,rfl,zV,zV,zV,zV,trivial⟩ rfl) ?_ (fun j hi=>?_))
      ·exact Nat.zero_le _
      ·obtain⟨hj1,hj2⟩:=huB j
       rcases Nat.lt_or_ge j B.l.length with hjl|hjg
       ·have hs2:=lC (fun (s:Nat) (l:Lit)=>hgF p n l.atom.toNat s) u B.l default hjl
        have hat:=hBl _ (bQ B.l default hjl)
        obtain⟨z,hz⟩:∃z,(B.l.take j).foldl (fun (s:Nat) (l:Lit)=>hgF p n l.atom.toNat s) u=z:=⟨_,rfl⟩
        rw[hz] at hj1 hj2 hs2 ⊢
        have hcz:24<n+(ai z).length:=by
         have a1:=n6 hj1
         have a2:=n6 hu1
         omega
        refine vcQ [] (lkL [(6,[3,21,22,23,28,29,30,31]),(7,[3,8,21,22,23,28,29,30]),(8,[3,21,22,23,28,29,30]),(9,[3,21,22,23,28,29,30])]) (lkL [(7,[(3,ROrc.val (Orc.obj (nth [int i64 (B.l.getD j default).atom,AV.bool (B.l.getD j default).neg])))]),(8,[(3,ROrc.call (tup 0 (nth [])) [cells false 27 (ae p v (AV.mp 1)),AObj.map es,cells false 1 fun (j_1:Nat)=>int u64 (↑(hgF p n ((B.l.getD j default).atom.toNat) z):Int),cells false 1 fun (x:Nat)=>ref 0 0,cells false 1 fun (x:Nat)=>fn 102 0 (nth []) 3 (nth [ref 2 0,ref 3 0,ref 4 0]),cells false 2 (nth [int i64 (L.getD i default).head,am B]),cells false 2 (nth [int i64 (B.l.getD j default).atom,AV.bool (B.l.getD j default).neg])] g)])]) (fun Q=>(fun (u1:List AObj)=>(fun (u2:Int)=>(fun (u3:List AObj)=>(fun (u4:Int)=>(fun (u5:Lit)=>(fun (u6:AV)=>(decide (u4<u2)=true->(0<=u4/\u4<u2)/\2<=2/\2<=2/\(∀(c:Nat),c<2->nth [int i64 u5.atom,AV.bool u5.neg] c=aj (nth [int i64 0,AV.bool false]) 0 2 (List.brecOn (motive:=fun (x:List AV)=>Nat->AV) [int i64 u5.atom,AV.bool u5.neg] nth._f) c)/\1<=1/\1<=2/\(true=true/\Does Tryd.prog R 102 [int i64 u5.atom,ref 2 0,ref 3 0,ref 4 0] (cells false 27 (ae p v (AV.mp 1))::AObj.map es::(cells false 1 fun (x:Nat)=>int u64 (z:Int))::u1) g (ret (tup 0 (nth []))) u3 g)/\(-9223372036854775808<=u4+1/\u4+1<=9223372036854775807)/\Q AEx.normal (St.mk [(3,ref 4 0),(21,u6),(22,int i64 (L.length:Int)),(23,int i64 (i:Int)),(28,am B),(29,int i64 u2),(30,int i64 (u4+1))] u3 g))/\(decide (u4<u2)=false->Q (AEx.exit 2) (St.mk [(3,ref 4 0),(21,u6),(22,int i64 (L.length:Int)),(23,int i64 (i:Int)),(28,am B),(29,int i64 u2),(30,int i64 u4),(31,AV.bool (decide (u4<u2)))] [cells false 27 (ae p v (AV.mp 1)),AObj.map es,cells false 1 fun (x:Nat)=>int u64 (z:Int),cells false 1 fun (x:Nat)=>ref 0 0,cells false 1 fun (x:Nat)=>fn 102 0 (nth []) 3 (nth [ref 2 0,ref 3 0,ref 4 0]),cells false 2 (nth [int i64 (L.getD i default).head,am B])] g))) (fz k 2 (L.length) fun (i:Nat)=>bx (L.getD i default))) (B.l.getD j default)) ((j:Int))) (cells false 27 (ae p v (AV.mp 1))::AObj.map es::(cells false 1 fun (j_1:Nat)=>int u64 (↑(hgF p n ((B.l.getD j default).atom.toNat) z):Int))::u1)) ((B.l.length:Int))) ([cells false 1 fun (x:Nat)=>ref 0 0,cells false 1 fun (x:Nat)=>fn 102 0 (nth []) 3 (nth [ref 2 0,ref 3 0,ref 4 0]),cells false 2 (nth [int i64 (L.getD i default).head,am B]),cells false 2 (nth [int i64 (B.l.getD j default).atom,AV.bool (B.l.getD j default).neg])])) (fun _=>by kernel_rfl) ⟨fun c1=>have c1:(j:Int)<(B.l.length:Int):=(of_decide_eq_true c1);⟨by omega,by omega,by omega,(fun c hc=>match c,hc with|0,_=>(by kernel_rfl)|1,_=>(by kernel_rfl) ),by omega,by omega,⟨rfl,(fB [0,1,2,3,4] 7 (fun R g=>ih R ((B.l.getD j default).atom) (z) g (by omega) (by omega) (by omega)) rfl rfl rfl (by exact⟨⟨rfl,Nat.le_refl _,fun j hj=>(by first|exact bk (by first|exact trivial|apply aR)|exact zU (cm rfl).symm|exact zU (bU (by rfl)).symm)⟩,rfl,⟨rfl,Nat.le_refl _,fun j hj=>match j,hj with|0,_=>(zT _) ⟩,⟨rfl,Nat.le_refl _,fun j hj=>match j,hj with|0,_=>(zT _) ⟩,⟨rfl,Nat.le_refl _,fun j hj=>match j,hj with|0,_=>(Le.fn (fun i hi=>absurd hi (by omega)) (fun i hi=>match i,hi with|0,_=>(zT _)|1,_=>(zT _)|2,_=>(zT _) )) ⟩,trivial⟩) (by exact⟨by omega,by omega,by omega,by omega,trivial⟩) (by exact⟨bk (by exact trivial),zT _,zT _,zT _,trivial⟩) (by exact bC (by exact trivial)) (by exact⟨⟨rfl,Nat.le_refl _,fun j hj=>(by first|exact bC (by first|exact trivial|apply aR)|exact zU (cm rfl)|exact zU (bU (by rfl)))⟩,rfl,zV,⟨rfl,Nat.le_refl _,fun j hj=>match j,hj with|0,_=>(zT _) ⟩,⟨rfl,Nat.le_refl _,fun j hj=>match j,hj with|0,_=>(Le.fn (fun i hi=>absurd hi (by omega)) (fun i hi=>match i,hi with|0,_=>(zT _)|1,_=>(zT _)|2,_=>(zT _) )) ⟩,zV,zV,trivial⟩))⟩,by omega,?_⟩,fun c1=>have c1:¬(j:Int)<(B.l.length:Int):=(of_decide_eq_false c1);?_⟩
        ·refine(aQ (j+1) (ed [0,1,2,3,4,5] 7 rfl rfl rfl rfl rfl ⟨zT _,zT _,zT _,zT _,zT _,zT _,zT _,trivial⟩ ⟨⟨by first|rfl|(simp;done),by first|exact Nat.le_refl _|(simp;done)|(simp;omega),fun j hj=>(by first|exact bk (by first|exact trivial|apply aR)|exact zU (cm rfl).symm|exact zU (bU (by rfl)).symm)⟩,rfl,⟨rfl,Nat.le_refl _,fun j hj=>match j,hj with|0,_=>(zU ?_) ⟩,⟨rfl,Nat.le_refl _,fun j hj=>match j,hj with|0,_=>(zT _) ⟩,⟨rfl,Nat.le_refl _,fun j hj=>match j,hj with|0,_=>(Le.fn (fun i hi=>absurd hi (by omega)) (fun i hi=>match i,hi with|0,_=>(zT _)|1,_=>(zT _)|2,_=>(zT _) )) ⟩,⟨rfl,Nat.le_refl _,fun j hj=>match j,hj with|0,_=>(zT _)|1,_=>(zT _) ⟩,trivial⟩) ?_ ?_)
         ·show AV.int .u64 _=AV.int .u64 _
          rw[hs2]
         ·omega
         ·omega
        ·exfalso;omega
       ·have hje:j=B.l.length:=by omega
        subst hje
        rw[List.take_length,<-hstep]
        have hb:decide ((B.l.length:Int)<(B.l.length:Int))=false:=decide_eq_false (by omega)
        refine vcQ [[1,1,1,0,0,1,1,0,0,1,1,0,0,1,0,0]] (lkL [(6,[3,21,22,23,28,29,30,31])]) (fun _=>[]) (fun Q=>(fun (u1:St R.σ)=>(fun (u2:Int)=>(decide (u2<u2)=true->Wp Tryd.prog R 40 5 Rd.top (ax Tryd.prog 102) [1,1,1,0,0,1,1,0,0,1,1,0,0,1,0,0] (aP Tryd.prog R 40 5 Rd.top (ax Tryd.prog 102) Q [Kont.seq [1,1,1,0,0,1,1,0,0,1,1,0,0,1,1]]) u1)/\(decide (u2<u2)=false->Q (AEx.exit 2) u1)) ((B.l.length:Int))) (St.mk [(3,ref 4 0),(21,fz k 2 (L.length) fun (i:Nat)=>bx (L.getD i default)),(22,int i64 (L.length:Int)),(23,int i64 (i:Int)),(28,am B),(29,int i64 (B.l.length:Int)),(30,int i64 (B.l.length:Int)),(31,AV.bool (decide ((B.l.length:Int)<(B.l.length:Int))))] [cells false 27 (ae p v (AV.mp 1)),AObj.map es,cells false 1 fun (x:Nat)=>int u64 (↑(List.foldl F t (List.take (i+1) L)):Int),cells false 1 fun (x:Nat)=>ref 0 0,cells false 1 fun (x:Nat)=>fn 102 0 (nth []) 3 (nth [ref 2 0,ref 3 0,ref 4 0]),cells false 2 (nth [int i64 (L.getD i default).head,am B])] g)) (fun _=>by kernel_rfl) ⟨fun hcc=>(nomatch (hb.symm.trans hcc)),fun _=>?_⟩
        refine⟨_,z6 _,vcQ [] (lkL [(10,[3,21,22,23])]) (fun _=>[]) (fun Q=>(-9223372036854775808<=(i:Int)+1/\(i:Int)+1<=9223372036854775807)/\Q AEx.normal (St.mk [(3,ref 4 0),(21,fz k 2 (L.length) fun (i:Nat)=>bx (L.getD i default)),(22,int i64 (L.length:Int)),(23,int i64 ((i:Int)+1))] [cells false 27 (ae p v (AV.mp 1)),AObj.map es,cells false 1 fun (x:Nat)=>int u64 (↑(List.foldl F t (List.take (i+1) L)):Int),cells false 1 fun (x:Nat)=>ref 0 0,cells false 1 fun (x:Nat)=>fn 102 0 (nth []) 3 (nth [ref 2 0,ref 3 0,ref 4 0]),cells false 2 (nth [int i64 (L.getD i default).head,am B])] g)) (fun _=>by kernel_rfl) ⟨by omega,?_⟩⟩
        refine(aQ (i+1) (ed [0,1,2,3,4] 6 rfl rfl rfl rfl rfl ⟨zT _,zT _,zT _,zT _,trivial⟩ ⟨⟨by first|rfl|(simp;done),by first|exact Nat.le_refl _|(simp;done)|(simp;omega),fun j hj=>(by first|exact bk (by first|exact trivial|apply aR)|exact zU (cm rfl).symm|exact zU (bU (by rfl)).symm)⟩,rfl,⟨rfl,Nat.le_refl _,fun j hj=>match j,hj with|0,_=>(zT _) ⟩,⟨rfl,Nat.le_refl _,fun j hj=>match j,hj with|0,_=>(zT _) ⟩,⟨rfl,Nat.le_refl _,fun j hj=>match j,hj with|0,_=>(Le.fn (fun i hi=>absurd hi (by omega)) (fun i hi=>match i,hi with|0,_=>(zT _)|1,_=>(zT _)|2,_=>(zT _) )) ⟩,trivial⟩) ?_ ?_)
        ·omega
        ·omega
     ·exfalso;omega
    ·have hie:i=L.length:=by omega
     subst hie
     rw[List.take_length]
     have hb:decide ((L.length:Int)<(L.length:Int))=false:=decide_eq_false (by omega)
     refine vcQ [[1,1,1,0,0,1,0,0]] (lkL [(3,[3,21,22,23,24])]) (fun _=>[]) (fun Q=>(fun (u1:St R.σ)=>(fun (u2:Int)=>(decide (u2<u2)=true->Wp Tryd.prog R 40 5 Rd.top (ax Tryd.prog 102) [1,1,1,0,0,1,0,0] (aP Tryd.prog R 40 5 Rd.top (ax Tryd.prog 102) Q [Kont.seq [1,1,1,0,0,1,1]]) u1)/\(decide (u2<u2)=false->Q (AEx.exit 0) u1)) ((L.length:Int))) (St.mk [(3,ref 4 0),(21,fz k 2 (L.length) fun (i:Nat)=>bx (L.getD i default)),(22,int i64 (L.length:Int)),(23,int i64 (L.length:Int)),(24,AV.bool (decide ((L.length:Int)<(L.length:Int))))] [cells false 27 (ae p v (AV.mp 1)),AObj.map es,cells false 1 fun (x:Nat)=>int u64 (↑(List.foldl F t L):Int),cells false 1 fun (x:Nat)=>ref 0 0,cells false 1 fun (x:Nat)=>fn 102 0 (nth []) 3 (nth [ref 2 0,ref 3 0,ref 4 0])] g)) (fun _=>by kernel_rfl) ⟨fun hcc=>(nomatch (hb.symm.trans hcc)),fun _=>?_⟩
     refine⟨_,z6 _,(aq (aU _ _ rfl trivial rfl rfl rfl) (zT _))⟩
def hgP (p:Prg)(a:Nat):Nat:=hgF p 25 a 0
theorem rD (R:Res)(p:Prg)(a:Int)(hl:p.rules.l.length<1000000)(hr:∀r,r∈p.rules.l->aK r)(ha:0<=a/\a<24)(hp:List AObj)(g:R.σ):Does Tryd.prog R 70 [av p,.int .i64 a] hp g (.ret (.int .u64 (hgP p a.toNat))) hp g:=by
 refine bP (fun R g=>?_) (by exact⟨⟨⟨trivial,trivial⟩,trivial⟩,trivial,trivial⟩) R hp g
 have hes:=nA hr
 have hz:(0:Nat)<2^24:=by decide
 have hc:24<25+(ai 0).length:=by omega
 have h1:=fun R g=>xM p (fun _=>3) (esF p.rules.l) hes hl hr 25 R a 0 g ha hz hc
 refine dF (nt:=15) (rs:=[.tmp 4]) (k0:=0) (by kernel_rfl) (by kernel_rfl) (by kernel_rfl) rfl ?_
 refine vcQ [] (lkL [(0,[1,2]),(1,[1,5]),(2,[1,5,6]),(3,[1,5,6,7]),(4,[1,6,7]),(5,[6]),(6,[4])]) (lkL [(1,[(1,ROrc.call (ref 1 0) [cells false 2 (nth [int i64 p.atoms,af p.rules]),cells false 27 (ae p (fun (x:Nat)=>3) (AV.mp 2)),AObj.map (esF p.rules.l)] g),(3,ROrc.val (Orc.obj (nth [ref 1 0])))]),(4,[(1,ROrc.val (Orc.obj (nth [fn 102 0 (nth []) 3 (nth [ref 4 0,ref 3 0,ref 5 0])])))]),(5,[(2,ROrc.call (tup 0 (nth [])) [cells false 2 (nth [int i64 p.atoms,af p.rules]),cells false 27 (ae p (fun (x:Nat)=>3) (AV.mp 2)),AObj.map (esF p.rules.l),cells false 1 (nth [ref 1 0]),cells false 1 fun (j:Nat)=>int u64 (↑(hgF p 25 (a.toNat) 0):Int),cells false 1 (nth [fn 102 0 (nth []) 3 (nth [ref 4 0,ref 3 0,ref 5 0])])] g)])]) (fun Q=>(fun (u1:List AObj)=>(fun (u2:AObj)=>(fun (u3:AV)=>(fun (u4:AObj)=>2<=2/\(true=true/\Does Tryd.prog R 66 [av p] [u2] g (ret (ref 1 0)) [u2,u4,AObj.map (esF p.rules.l)] g)/\1<=1/\(∀(c:Nat),c<1->nth [ref 1 0] c=aj (fun (a:Nat)=>AV.nilp) 0 1 (fun (x:Nat)=>ref 1 0) c)/\1<=1/\(∀(c:Nat),c<1->nth [u3] c=aj (fun (a:Nat)=>AV.nilf) 0 1 (fun (x:Nat)=>u3) c)/\1<=1/\(true=true/\Does Tryd.prog R 102 [int i64 a,ref 4 0,ref 3 0,ref 5 0] [u2,u4,AObj.map (esF p.rules.l),cells false 1 (nth [ref 1 0]),cells false 1 fun (a:Nat)=>int u64 0,cells false 1 (nth [u3])] g (ret (tup 0 (nth []))) u1 g)/\1<=1/\Q AEx.ret (St.mk [(4,int u64 (↑(hgF p 25 (a.toNat) 0):Int))] u1 g)) (cells false 27 (ae p (fun (x:Nat)=>3) (AV.mp 2)))) (fn 102 0 (nth []) 3 (nth [ref 4 0,ref 3 0,ref 5 0]))) (cells false 2 (nth [int i64 p.atoms,af p.rules]))) ([cells false 2 (nth [int i64 p.atoms,af p.rules]),cells false 27 (ae p (fun (x:Nat)=>3) (AV.mp 2)),AObj.map (esF p.rules.l),cells false 1 (nth [ref 1 0]),cells false 1 fun (j:Nat)=>int u64 (↑(hgF p 25 (a.toNat) 0):Int),cells false 1 (nth [fn 102 0 (nth []) 3 (nth [ref 4 0,ref 3 0,ref 5 0])])])) (fun _=>by kernel_rfl) ⟨by omega,⟨rfl,(lA _ _ _ (by omega) (by omega) _)⟩,by omega,(fun c hc=>match c,hc with|0,_=>(by kernel_rfl) ),by omega,(fun c hc=>match c,hc with|0,_=>(by kernel_rfl) ),by omega,⟨rfl,(fB [1,2,4,3,5] 6 (fun R g=>h1 R g) rfl rfl rfl (by exact⟨⟨rfl,Nat.le_refl _,fun j hj=>(by first|exact bk (by first|exact trivial|apply aR)|exact zU (cm rfl).symm|exact zU (bU (by rfl)).symm)⟩,rfl,⟨rfl,Nat.le_refl _,fun j hj=>match j,hj with|0,_=>(zT _) ⟩,⟨rfl,Nat.le_refl _,fun j hj=>match j,hj with|0,_=>(zT _) ⟩,⟨rfl,Nat.le_refl _,fun j hj=>match j,hj with|0,_=>(Le.fn (fun i hi=>absurd hi (by omega)) (fun i hi=>match i,hi with|0,_=>(zT _)|1,_=>(zT _)|2,_=>(zT _) )) ⟩,trivial⟩) (by exact⟨by omega,by omega,by omega,by omega,trivial⟩) (by exact⟨bk (by exact trivial),zT _,zT _,zT _,trivial⟩) (by exact bC (by exact trivial)) (by exact⟨zV,⟨rfl,Nat.le_refl _,fun j hj=>(by first|exact bC (by first|exact trivial|apply aR)|exact zU (cm rfl)|exact zU (bU (by rfl)))⟩,rfl,⟨rfl,Nat.le_refl _,fun j hj=>match j,hj with|0,_=>(zT _) ⟩,zV,⟨rfl,Nat.le_refl _,fun j hj=>match j,hj with|0,_=>(Le.fn (fun i hi=>absurd hi (by omega)) (fun i hi=>match i,hi with|0,_=>(zT _)|1,_=>(zT _)|2,_=>(zT _) )) ⟩,trivial⟩))⟩,by omega,?_⟩
 refine(aq (bl _ _ rfl trivial trivial rfl) (zU (by kernel_rfl)))
def ak (s:Nat):KL Int:=⟨bB s,.auto⟩
theorem jU (R:Res)[Tab LT R](s:Nat)(hs:s<2^24)(g:R.σ):Does Tryd.prog R 75 [.fn 105 0 (nth []) 1 (nth [.ref 0 0])] [.cells false 1 (fun _=>.int .u64 s)] g (.ret (ah (ak s))) [.cells false 1 (fun _=>.any)] g:=
 ip (xh R s hs g) (toL (h1:=⟨zZ (gL s).symm (fun i j hi hj=>by
  show AV.int .i64 _=AV.int .i64 ((bB s).getD i 0)
  rw[jM]),trivial⟩) (h2:=⟨zW _,trivial⟩))
theorem gP {p:Prg}(hr:∀r,r∈p.rules.l->aK r){a:Nat}(ha:a<24):hgP p a<2^24:=(gO hr 25 a ha 0 dcd).2
def aw (p:Prg)(a:Nat):Nat:=(ai (hgP p a)).foldl (fun (s:Nat) (b:Nat)=>if (hgP p b).testBit a then s|||2^b else s) 0
def onC (p:Prg):Nat->AV:=fun k=>.int .u64 (hgP p k)
theorem qA {k:Nat}(p:Prg)(j:Nat):Below k (onC p j):=trivial
theorem qJ {f:Nat->Nat}(h:True){p:Prg}{j:Nat}:aF f (onC p j)=onC p j:=rfl
theorem n7 {p:Prg}{a:Nat}:∀{l:List Nat} {s:Nat},(∀b,b∈l->b<24)->s<2^24->l.foldl (fun (s:Nat) (b:Nat)=>if (hgP p b).testBit a then s|||2^b else s) s<2^24
 |[],_,_,hs=>hs
 |b::l,s,hl,hs=>by
  rw[List.foldl_cons]
  refine n7 (fun c hc=>hl c (List.mem_cons_of_mem _ hc)) ?_
  split
  ·exact jT hs (hl b List.mem_cons_self)
  ·exact hs
theorem rE (p:Prg)(a:Nat):aw p a<2^24:=n7 (fun b hb=>jN hb) dcd
theorem lE (R:Res)[Tab LT R](p:Prg)(n:Nat)(a:Int)(hr:∀r,r∈p.rules.l->aK r)(hn:n<=24)(ha:0<=a/\a<n)(hin:∀b,b∈ai (hgP p a.toNat)->b<n)(g:R.σ):Does Tryd.prog R 82 [.int .i64 a,.ref 0 0] [.cells false 1 (fun _=>.ow true 1 n 1),.cells false (n*1) (onC p)] g (.ret (.int .u64 (aw p a.toNat))) [.cells false 1 (fun _=>.ow true 1 n 1),.cells false (n*1) (onC p)] g:=by
 obtain⟨m,rfl⟩:∃m:Nat,a=m:=⟨a.toNat,omg⟩
 rw[Int.toNat_natCast] at hin ⊢
 have hlt:hgP p m<2^24:=gP hr omg
 refine spW (nt:=23) (rs:=[.tmp 3]) (k0:=2) ?_
 refine vcR [] (lkL [(0,[1,2]),(1,[1,2,4]),(2,[1,2,4,10])]) (lkL [(2,[(4,ROrc.call (fn 105 0 (nth []) 1 (nth [ref (List.length [cells false 1 fun (x:Nat)=>ow true 1 n 1,cells false (n*1) fun (a:Nat)=>onC p a,cells false 1 fun (a:Nat)=>int i64 (↑m:Int),cells false 1 fun (a:Nat)=>int u64 0]) 0])) ([cells false 1 fun (x:Nat)=>ow true 1 n 1,cells false (n*1) fun (a:Nat)=>onC p a,cells false 1 fun (a:Nat)=>int i64 (↑m:Int),cells false 1 fun (a:Nat)=>int u64 0]++[cells false 1 fun (x:Nat)=>int u64 (↑(hgP p m):Int)]) g)])]) (fun Q=>(fun (u1:List AObj)=>1<=1/\1<=1/\(0<=(↑m:Int)/\(↑m:Int)<(↑n:Int))/\m+1<=n*1/\(true=true/\Does Tryd.prog R 77 [onC p m] [cells false 1 fun x=>ow true 1 n 1,cells false (n*1) fun a=>onC p a,cells false 1 fun a=>int i64 (↑m:Int),cells false 1 fun a=>int u64 0] g (ret (fn 105 0 (nth []) 1 (nth [ref 4 0]))) u1 g)/\WpC Tryd.prog R 23 2 82 [1,1,0,1,0] Q [Kont.blk 0,Kont.seq [1,1,1]] (St.mk [(1,ref 0 0),(2,ref 2 0),(4,ref 3 0),(10,fn 105 0 (nth []) 1 (nth [ref 4 0]))] u1 g)) ([cells false 1 fun x=>ow true 1 n 1,cells false (n*1) fun a=>onC p a,cells false 1 fun a=>int i64 (↑m:Int),cells false 1 fun a=>int u64 0,cells false 1 fun x=>onC p m])) ⟨omg,omg,omg,omg,⟨rfl,(cK _ _ _ _)⟩,?_⟩
 have hseq:=ld (hgP p m) hlt
 obtain⟨l,hle⟩:∃l,ai (hgP p m)=l:=⟨_,rfl⟩
 have hw:aw p m=l.foldl (fun (s:Nat) (b:Nat)=>if (hgP p b).testBit m then s|||2^b else s) 0:=by unfold aw;rw[hle]
 rw[hle] at hseq hin
 have hin2:∀k,k<l.length->l.getD k 0<n:=fun k hk=>hin _ (bQ l 0 hk)
 refine iq 10 [11] 4 krf rfl rfl rfl hseq (fun _=>rfl) krf (fun _=>⟨trivial,trivial⟩)
  (fun _=>none) (fun _=>rfl)
  (fun k=>[.cells false 1 (fun _=>.ow true 1 n 1),.cells false (n*1) (onC p),.cells false 1 (fun _=>.int .i64 m),.cells false 1 (fun _=>.int .u64 ((l.take k).foldl (fun (s:Nat) (b:Nat)=>if (hgP p b).testBit m then s|||2^b else s) 0:Nat))])
  (fun _=>g) (fC rfl rfl) (fun _=>rfl) (by exact⟨omg,omg,omg,omg,omg,trivial⟩) (by exact⟨fun _ _=>show 1<4 by omega,fun _ _=>trivial,fun _ _=>trivial,fun _ _=>trivial,trivial⟩) (by exact⟨fun _ _=>trivial,trivial⟩) [1,2,4] (by exact⟨show 0<4 by omega,show 2<4 by omega,show 3<4 by omega,trivial⟩) (fun k l' hk hjk=>?_) (fun _=>?_) (fun k hk hj hr=>by cases hr) (fun k id hk hj hr=>by cases hr)
 ·obtain⟨b,hb⟩:∃b,l.getD k 0=b:=⟨_,rfl⟩
  have hbn:b<n:=by rw[<-hb];exact hin2 k hk
  have hb24:hgP p b<2^24:=gP hr omg
  have hst:=lC (fun (s:Nat) (b:Nat)=>if (hgP p b).testBit m then s|||2^b else s) 0 l 0 hk
  obtain⟨t,ht⟩:∃t,(l.take k).foldl (fun (s:Nat) (b:Nat)=>if (hgP p b).testBit m then s|||2^b else s) 0=t:=⟨_,rfl⟩
  have ht24:t<2^24:=by
   rw[<-ht]
   exact n7 (fun c hc=>by
    have h1:=List.mem_of_mem_take hc
    rw[<-hle] at h1
    exact jN h1) dcd
  rw[hb,ht] at hst
  rw[hb,ht,hst]
  refine vcR [] (lkL [(3,[1,2,4,5])]) (fun _=>[]) (fun (Q:AEx->St R.σ->Prop)=>Q AEx.normal (St.mk [(1,ref 0 0),(2,ref 2 0),(4,ref 3 0),(5,int i64 (↑b:Int))] [cells false 1 fun (x:Nat)=>ow true 1 n 1,cells false (n*1) fun (a:Nat)=>onC p a,cells false 1 fun (x:Nat)=>int i64 (↑m:Int),cells false 1 fun (x:Nat)=>int u64 (↑t:Int)] g)) (?_)
  show Wp _ _ _ 4 _ _ _ _ _
  refine vcR [] (lkL [(4,[4,5,17]),(5,[4])]) (lkL [(4,[(5,ROrc.pcall (AV.bool (Nat.testBit (hgP p b) m)))]),(5,[(2,ROrc.pcall (int u64 (↑(2^b):Int))),(4,ROrc.val (Orc.obj (nth [int u64 (IntKind.wrap u64 (↑(BitVec.toNat (BitVec.ofInt 64 (↑t:Int)|||BitVec.ofInt 64 (↑(2^b):Int))):Int))])))])]) (fun Q=>(fun (u1:AV)=>(fun (u2:Bool)=>(fun (u3:Bool)=>u3=true/\1<=1/\(0<=(↑b:Int)/\(↑b:Int)<(↑n:Int))/\b+1<=n*1/\1<=1/\(∀(hp:List AObj) (g:R.σ),true=true/\Does Tryd.prog R 71 [onC p b,int i64 (↑m:Int)] hp g (ret (AV.bool u2)) hp g)/\(u2=true->u3=true/\1<=1/\(∀(hp:List AObj) (g:R.σ),true=true/\Does Tryd.prog R 79 [int i64 (↑b:Int)] hp g (ret (int u64 (↑(2^b):Int))) hp g)/\1<=1/\(∀(c:Nat),c<1->nth [u1] c=aj (fun (x:Nat)=>int u64 (↑t:Int)) 0 1 (fun (x:Nat)=>u1) c)/\Q AEx.normal (St.mk [(4,ref 3 0)] [cells false 1 fun x=>ow true 1 n 1,cells false (n*1) fun a=>onC p a,cells false 1 fun x=>int i64 (↑m:Int),cells false 1 (nth [u1])] g))/\(u2=false->Q AEx.normal (St.mk [(4,ref 3 0),(5,int i64 (↑b:Int)),(17,AV.bool u2)] [cells false 1 fun x=>ow true 1 n 1,cells false (n*1) fun a=>onC p a,cells false 1 fun x=>int i64 (↑m:Int),cells false 1 fun x=>int u64 (↑t:Int)] g))) (Tables.follows Tryd.prog.toTables Departure.mixedOrders)) (Nat.testBit (hgP p b) m)) (int u64 (IntKind.wrap u64 (↑(BitVec.toNat (BitVec.ofInt 64 (↑t:Int)|||BitVec.ofInt 64 (↑(2^b):Int))):Int)))) ⟨krf,omg,omg,omg,omg,(fun _ _=>⟨rfl,(jD _ _ _ omg omg _ _)⟩),fun c1=>⟨krf,omg,(fun _ _=>⟨rfl,(gG _ _ omg _ _)⟩),omg,(fun c hc=>match c,hc with|0,_=>krf ),?_⟩,fun c1=>?_⟩
  ·refine(eE rfl (toL (h2:=⟨zV,zV,zV,⟨rfl,Nat.le_refl _,fun j hj=>match j,hj with|0,_=>(zU ?_) ⟩,trivial⟩)))
   show AV.int .u64 _=AV.int .u64 _
   rw[if_pos c1]
   congr 1
   exact Tb.u64_or (bz ht24) (bz (Nat.pow_lt_pow_right dcd omg))
  ·refine(eE rfl (toL (h2:=⟨zV,zV,zV,⟨rfl,Nat.le_refl _,fun j hj=>match j,hj with|0,_=>(zU ?_) ⟩,trivial⟩)))
   show AV.int .u64 _=AV.int .u64 _
   rw[if_neg (by rw[c1];decide)]
 ·rw[List.take_length,<-hw]
  refine vcR [] (lkL [(6,[3])]) (fun _=>[]) (fun Q=>1<=1/\Q AEx.ret (St.mk [(3,int u64 (↑(aw p m):Int))] [cells false 1 fun x=>ow true 1 n 1,cells false (n*1) fun a=>onC p a,cells false 1 fun x=>int i64 (↑m:Int),cells false 1 fun x=>int u64 (↑(aw p m):Int),dead] g)) ⟨omg,?_⟩
  show bq Tryd.prog R 2 _ _ _ _ .ret _
  refine(aq (bg 2 _ _ rfl trivial omg trivial ⟨(fun j hj=>match j,hj with|0,_=>(show 2<=2 by omega) ),(fun _ _=>trivial),trivial⟩ krf rfl rfl) (zT _))
def jV (p:Prg)(a b:Nat):Prop:=∃r,r∈p.rules.l/\r.head=(a:Int)/\∃l,l∈r.body.l/\l.atom.toNat=b
inductive Reach (p:Prg):Nat->Nat->Prop
 |refl (a:Nat):Reach p a a
 |step {a b c:Nat} (h:jV p a b) (k:Reach p b c):Reach p a c
theorem Reach.trans {p:Prg}{a b c:Nat}(h:Reach p a b)(k:Reach p b c):Reach p a c:=by
 induction h with
 |refl a=>exact k
 |step h _ ih=>exact .step h (ih k)
def gQ (p:Prg)(a:Nat):List Nat:=(ofH p.rules.l (a:Int)).flatMap (fun r=>r.body.l.map (fun l=>l.atom.toNat))
theorem n9 {p:Prg}{a b:Nat}:b∈gQ p a↔jV p a b:=by
 unfold gQ jV ofH
 simp only[List.mem_flatMap,List.mem_map,List.mem_filter,beq_iff_eq]
 constructor
 ·rintro ⟨r,⟨h1,h2⟩,l,h3,h4⟩
  exact⟨r,h1,h2,l,h3,h4⟩
 ·rintro ⟨r,h1,h2,l,h3,h4⟩
  exact⟨r,⟨h1,h2⟩,l,h3,h4⟩
theorem rF (p:Prg)(n a s:Nat):hgF p (n+1) a s=if s.testBit a then s else(gQ p a).foldl (fun (s:Nat) (b:Nat)=>hgF p n b s) (s|||2^a):=by
 show(if s.testBit a then s else _)=_
 congr 1
 unfold gQ
 rw[List.foldl_flatMap]
 congr 1
 funext s r
 rw[List.foldl_map]
def oa (p:Prg)(s t:Nat):Prop:=∀x,t.testBit x=true->s.testBit x=false->∀y,jV p x y->t.testBit y=true
theorem rG {p:Prg}(hr:∀r,r∈p.rules.l->aK r){a b:Nat}(h:b∈gQ p a):b<24:=by
 obtain⟨r,h1,_,l,h3,rfl⟩:=n9.1 h
 have:=(hr r h1).1.2 l h3
 omega
theorem rH {p:Prg}(hr:∀r,r∈p.rules.l->aK r){n:Nat}(ih:∀a s,a<24->s<2^24->24<n+(ai s).length->(hgF p n a s).testBit a=true/\oa p s (hgF p n a s)):∀(L:List Nat) (s:Nat),(∀b,b∈L->b<24)->s<2^24->24<n+(ai s).length ->
  (∀b,b∈L->(L.foldl (fun (s:Nat) (b:Nat)=>hgF p n b s) s).testBit b=true)/\oa p s (L.foldl (fun (s:Nat) (b:Nat)=>hgF p n b s) s)
 |[],s,_,_,_=>⟨fun b hb=>(by cases hb),fun x h1 h2=>by rw[List.foldl_nil] at h1;rw[h1] at h2;cases h2⟩
 |b::L,s,hL,hs,hn=>by
  have hb:=hL b List.mem_cons_self
  obtain⟨u1,u2⟩:=gO hr n b hb s hs
  obtain⟨a1,a2⟩:=ih b s hb hs hn
  have hn':24<n+(ai (hgF p n b s)).length:=by have:=n6 u1;omega
  obtain⟨c1,c2⟩:=rH hr ih L (hgF p n b s) (fun c hc=>hL c (List.mem_cons_of_mem _ hc)) u2 hn'
  have up:=(gc (l:=L) (f:=fun (s:Nat) (b:Nat)=>hgF p n b s) (fun c hc=>gO hr n c (hL c (List.mem_cons_of_mem _ hc))) _ u2).1
  rw[List.foldl_cons]
  refine⟨fun c hc=>?_,fun x h1 h2 y hy=>?_⟩
  ·rcases List.mem_cons.1 hc with rfl|hc
   ·exact up _ a1
   ·exact c1 c hc
  ·by_cases hx:(hgF p n b s).testBit x=true
   ·exact up _ (a2 x hx h2 y hy)
   ·exact c2 x h1 (by simpa using hx) y hy
theorem rI {p:Prg}(hr:∀r,r∈p.rules.l->aK r):∀(n a s:Nat),a<24->s<2^24->24<n+(ai s).length->(hgF p n a s).testBit a=true/\oa p s (hgF p n a s)
 |0,a,s,_,_,h=>by have:=gK s;omega
 |n+1,a,s,ha,hs,h=>by
  rw[rF]
  by_cases hb:s.testBit a=true
  ·rw[if_pos hb]
   exact⟨hb,fun x h1 h2=>by rw[h1] at h2;cases h2⟩
  ·rw[if_neg hb]
   have hb:s.testBit a=false:=by simpa using hb
   have hs1:=jT hs ha
   have hn1:24<n+(ai (s|||2^a)).length:=by have:=rC ha hb;omega
   obtain⟨c1,c2⟩:=rH hr (rI hr n) (gQ p a) _ (fun b hb=>rG hr hb) hs1 hn1
   have up:=(gc (l:=gQ p a) (f:=fun (s:Nat) (b:Nat)=>hgF p n b s) (fun c hc=>gO hr n c (rG hr hc)) _ hs1).1
   have haT:=up a (by rw[gN];simp)
   refine⟨haT,fun x h1 h2 y hy=>?_⟩
   by_cases hxa:x=a
   ·subst hxa
    exact c1 y (n9.2 hy)
   ·exact c2 x h1 (by rw[gN,h2];simp;exact fun e=>hxa e.symm) y hy
theorem rJ {p:Prg}:∀(n a s b:Nat),(hgF p n a s).testBit b=true->s.testBit b=true∨Reach p a b
 |0,_,_,_,h=>.inl h
 |n+1,a,s,b,h=>by
  rw[rF] at h
  by_cases hb:s.testBit a=true
  ·rw[if_pos hb] at h;exact .inl h
  ·rw[if_neg hb] at h
   have key:∀(L:List Nat) (s:Nat),(∀c,c∈L->jV p a c)->(L.foldl (fun (s:Nat) (b:Nat)=>hgF p n b s) s).testBit b=true->s.testBit b=true∨Reach p a b:=by
    intro L
    induction L with
    |nil=>intro s _ h;exact .inl h
    |cons c L ih=>
     intro s hL h
     rw[List.foldl_cons] at h
     rcases ih _ (fun d hd=>hL d (List.mem_cons_of_mem _ hd)) h with h|h
     ·rcases rJ n c s b h with h|h
      ·exact .inl h
      ·exact .inr (.step (hL c List.mem_cons_self) h)
     ·exact .inr h
   rcases key _ _ (fun c hc=>n9.1 hc) h with h|h
   ·rw[gN,Bool.or_eq_true,decide_eq_true_eq] at h
    rcases h with h|h
    ·exact .inl h
    ·subst h;exact .inr (.refl _)
   ·exact .inr h
theorem eu {p:Prg}(hr:∀r,r∈p.rules.l->aK r){a b:Nat}(ha:a<24):(hgP p a).testBit b=true↔Reach p a b:=by
 have hc:=rI hr 25 a 0 ha dcd omg
 constructor
 ·intro h
  rcases rJ 25 a 0 b h with h|h
  ·simp at h
  ·exact h
 ·have key:∀x y,Reach p x y->(hgP p a).testBit x=true->(hgP p a).testBit y=true:=by
   intro x y h
   induction h with
   |refl=>exact fun h=>h
   |step h _ ih=>exact fun hx=>ih (hc.2 _ hx (by simp) _ h)
  exact fun h=>key a b h hc.1
theorem xN {p:Prg}(hl:∀r,r∈p.rules.l->∀l,l∈r.body.l->0<=l.atom/\l.atom<p.atoms){a b:Nat}(h:Reach p a b):a=b∨(b:Int)<p.atoms:=by
 induction h with
 |refl=>exact .inl rfl
 |step h k ih=>
  obtain⟨r,h1,_,l,h3,rfl⟩:=h
  have:=hl r h1 l h3
  rcases ih with rfl|h
  ·exact .inr omg
  ·exact .inr h
def dz (s t:Nat):Nat:=(BitVec.ofNat 64 s &&& ~~~ BitVec.ofNat 64 t).toNat
theorem jW {s t:Nat}(hs:s<2^24)(j:Nat):(dz s t).testBit j=(s.testBit j && !t.testBit j):=by
 unfold dz
 rw[BitVec.testBit_toNat,BitVec.getLsbD_and,BitVec.getLsbD_not,BitVec.getLsbD_ofNat,BitVec.getLsbD_ofNat]
 by_cases hj:j<64
 ·simp only[hj,decide_true,Bool.true_and]
 ·rw[Nat.testBit_lt_two_pow (x:=s) (Nat.lt_of_lt_of_le (bz hs) (Nat.pow_le_pow_right dcd omg))]
  simp[hj]
theorem rK {s t:Nat}:dz s t<=s:=by
 unfold dz
 rw[BitVec.toNat_and]
 refine Nat.le_trans Nat.and_le_left ?_
 rw[BitVec.toNat_ofNat]
 exact Nat.mod_le _ _
theorem od {s t:Nat}(hs:s<2^24):IntKind.u64.wrap ((BitVec.ofInt 64 (s:Int) &&& ~~~ BitVec.ofInt 64 (t:Int)).toNat:Int)=((dz s t:Nat):Int):=by
 rw[BitVec.ofInt_natCast,BitVec.ofInt_natCast]
 exact Tb.wrapU (bz (Nat.lt_of_le_of_lt (rK (t:=t)) hs))
theorem xO {s:Nat}:s=0↔∀j,s.testBit j=false:=by
 constructor
 ·rintro rfl j;simp
 ·intro h
  exact Nat.eq_of_testBit_eq (fun j=>by rw[h j];simp)
theorem rL {p:Prg}{a j:Nat}:∀{l:List Nat} {s:Nat},(l.foldl (fun (s:Nat) (b:Nat)=>if (hgP p b).testBit a then s|||2^b else s) s).testBit j=(s.testBit j||l.any (fun b=>b==j&&(hgP p b).testBit a))
 |[],s=>by simp
 |b::l,s=>by
  rw[List.foldl_cons,rL,List.any_cons]
  cases hb:(hgP p b).testBit a with
  |true=>
   rw[if_pos rfl,gN,Bool.and_true,Bool.or_assoc]
   congr 2
  |false=>
   rw[if_neg dcd,Bool.and_false,Bool.false_or]
theorem oe {p:Prg}(hr:∀r,r∈p.rules.l->aK r){a j:Nat}(ha:a<24):(aw p a).testBit j=true↔Reach p a j/\Reach p j a/\j<24:=by
 unfold aw
 rw[rL]
 simp only[Nat.zero_testBit,Bool.false_or,List.any_eq_true,Bool.and_eq_true,beq_iff_eq]
 constructor
 ·rintro ⟨b,h1,rfl,h2⟩
  obtain⟨m1,m2⟩:=Tb.mem_memN.1 h1
  exact⟨(eu hr ha).1 m2,(eu hr m1).1 h2,m1⟩
 ·rintro ⟨h1,h2,h3⟩
  exact⟨j,Tb.mem_memN.2 ⟨h3,(eu hr ha).2 h1⟩,rfl,(eu hr h3).2 h2⟩
def eJ (p:Prg)(left a:Nat):Bool:=dz (hgP p a&&&left) (aw p a)==0
theorem xP {p:Prg}(hr:∀r,r∈p.rules.l->aK r){left a:Nat}(hl:left<2^24)(ha:a<24):eJ p left a=true↔∀b,Reach p a b->left.testBit b=true->Reach p b a:=by
 unfold eJ
 have hlt:hgP p a&&&left<2^24:=Nat.lt_of_le_of_lt Nat.and_le_right hl
 rw[beq_iff_eq,xO]
 constructor
 ·intro h b hb hbl
  have hb24:=gI hl hbl
  have:=h b
  rw[jW hlt,Nat.testBit_and,(eu hr ha).2 hb,hbl] at this
  have h2:(aw p a).testBit b=true:=by simpa using this
  exact((oe hr ha).1 h2).2.1
 ·intro h j
  rw[jW hlt,Nat.testBit_and]
  cases h1:(hgP p a).testBit j with
  |false=>rfl
  |true=>
   cases h2:left.testBit j with
   |false=>rfl
   |true=>
    have h3:=(eu hr ha).1 h1
    rw[(oe hr ha).2 ⟨h3,h j h3 h2,gI hl h2⟩]
    rfl
theorem xQ {p:Prg}(hr:∀r,r∈p.rules.l->aK r){left:Nat}(hl:left<2^24)(h0:left≠0):∃a,a∈ai left/\eJ p left a=true:=by
 have key:∀(n a:Nat),a∈ai left->(ai (hgP p a&&&left)).length<=n->∃a,a∈ai left/\eJ p left a=true:=by
  intro n
  induction n with
  |zero=>
   intro a ha h
   obtain⟨m1,m2⟩:=Tb.mem_memN.1 ha
   have:a∈ai (hgP p a&&&left):=Tb.mem_memN.2 ⟨m1,by rw[Nat.testBit_and,(eu hr m1).2 (.refl a),m2];rfl⟩
   rw[List.length_eq_zero_iff.1 (Nat.le_zero.1 h)] at this
   cases this
  |succ n ih=>
   intro a ha h
   obtain⟨m1,m2⟩:=Tb.mem_memN.1 ha
   by_cases hok:eJ p left a=true
   ·exact⟨a,ha,hok⟩
   ·have hne:¬∀b,Reach p a b->left.testBit b=true->Reach p b a:=fun h=>hok ((xP hr hl m1).2 h)
    obtain⟨b,hb⟩:=Classical.not_forall.1 hne
    obtain⟨hb1,hb2⟩:=Classical.not_imp.1 hb
    obtain⟨hb2,hb3⟩:=Classical.not_imp.1 hb2
    have hb24:=gI hl hb2
    refine ih b (Tb.mem_memN.2 ⟨hb24,hb2⟩) ?_
    have:(ai (hgP p b&&&left)).length<(ai (hgP p a&&&left)).length:=by
     refine jP (fun j _ hj=>?_) ⟨a,List.mem_range.2 m1,?_,?_⟩
     ·rw[Nat.testBit_and,Bool.and_eq_true] at hj ⊢
      exact⟨(eu hr m1).2 (hb1.trans ((eu hr hb24).1 hj.1)),hj.2⟩
     ·rw[Nat.testBit_and,(eu hr m1).2 (.refl a),m2];rfl
     ·rw[Nat.testBit_and]
      cases hx:(hgP p b).testBit a with
      |false=>rfl
      |true=>exact absurd ((eu hr hb24).1 hx) hb3
    omega
 obtain⟨k,m,h⟩:=Tb.low_of (show 0<left by omega)
 have hk:left.testBit k=true:=by rw[Tb.low_bit h];simp
 exact key _ k (Tb.mem_memN.2 ⟨gI hl hk,hk⟩) (Nat.le_refl _)
def iB (p:Prg)(left:Nat):Nat:=(ai left).findIdx (eJ p left)
def dK (p:Prg)(left:Nat):Nat:=(ai left).getD (iB p left) 0
def jX (p:Prg):Nat->Nat->List Nat
 |0,_=>[]
 |n+1,left=>if left=0 then[] else aw p (dK p left)::jX p n (dz left (aw p (dK p left)))
def co (p:Prg):List Nat:=jX p 25 (2^p.atoms.toNat-1)
theorem rM {p:Prg}(hr:∀r,r∈p.rules.l->aK r){left:Nat}(hl:left<2^24)(h0:left≠0):iB p left<(ai left).length/\eJ p left (dK p left)=true/\(∀j,j<iB p left->eJ p left ((ai left).getD j 0)=false)/\dK p left∈ai left:=by
 obtain⟨a,h1,h2⟩:=xQ hr hl h0
 have hk:iB p left<(ai left).length:=List.findIdx_lt_length_of_exists ⟨a,h1,h2⟩
 have e:dK p left=(ai left)[iB p left]:=by
  unfold dK
  rw[List.getD_eq_getElem?_getD,List.getElem?_eq_getElem hk]
  rfl
 refine⟨hk,by rw[e];exact List.findIdx_getElem (w:=hk),fun j hj=>?_,by rw[e];exact List.getElem_mem hk⟩
 have:=List.not_of_lt_findIdx (p:=eJ p left) (xs:=ai left) hj
 rw[List.getD_eq_getElem?_getD,List.getElem?_eq_getElem omg]
 simpa using this
theorem xR {p:Prg}(hr:∀r,r∈p.rules.l->aK r){left:Nat}(hl:left<2^24)(h0:left≠0):(ai (dz left (aw p (dK p left)))).length<(ai left).length:=by
 obtain⟨_,h2,_,h4⟩:=rM hr hl h0
 obtain⟨m1,m2⟩:=Tb.mem_memN.1 h4
 refine jP (fun j _ hj=>?_) ⟨dK p left,List.mem_range.2 m1,m2,?_⟩
 ·rw[jW hl,Bool.and_eq_true] at hj
  exact hj.1
 ·rw[jW hl,(oe hr m1).2 ⟨.refl _,.refl _,m1⟩]
  simp
theorem rN (R:Res)(on:Nat)(a:Int)(hon:on<2^24)(ha:0<=a/\a<24)(g:R.σ):Does Tryd.prog R 73 [.int .i64 a,.ref 0 0] [.cells false 1 (fun _=>.int .u64 on)] g (.ret (.bool (!on.testBit a.toNat))) [.cells false 1 (fun _=>.int .u64 on)] g:=by
 refine spW (nt:=8) (rs:=[.tmp 3]) (k0:=1) ?_
 refine vcR [] (lkL [(0,[0,1]),(1,[3])]) (lkL [(1,[(2,ROrc.pcall (AV.bool (Nat.testBit on (Int.toNat a))))])]) (fun Q=>1<=1/\(∀(hp:List AObj) (g:R.σ),true=true/\Does Tryd.prog R 71 [int u64 (↑on:Int),int i64 a] hp g (ret (AV.bool (Nat.testBit on (Int.toNat a)))) hp g)/\Q AEx.ret (St.mk [(3,AV.bool !Nat.testBit on (Int.toNat a))] [cells false 1 fun x=>int u64 (↑on:Int)] g)) ⟨omg,(fun _ _=>⟨rfl,(nu _ _ _ omg omg _ _)⟩),?_⟩
 refine(aq (aU _ _ rfl trivial rfl rfl rfl) (zT _))
def ce (on:Nat)(a:Int):Bool:= !on.testBit a.toNat
theorem xS {U:Type}(q:U->Bool)(x:U)(r:List U)(i:Nat):aN q (x::r) i=if q x then(i:Int) else aN q r (i+1):=rfl
theorem rO (R:Res)(l:List Int)(on:Nat)(hon:on<2^24)(hl:l.length<1000000)(ha:∀a,a∈l->0<=a/\a<24)(g:R.σ):Does Tryd.prog R 103 [.ow true 0 l.length 1,.fn 73 0 (nth []) 1 (nth [.ref 1 0])] [.cells false (l.length*1) (ac l),.cells false 1 (fun _=>.int .u64 on)] g (.ret (.int .i64 (aN (ce on) l 0))) [.cells false (l.length*1) (ac l),.cells false 1 (fun _=>.int .u64 on)] g:=by
 refine spW (nt:=19) (rs:=[.tmp 4]) (k0:=2) ?_
 refine vcR [] (lkL [(0,[0,1]),(1,[0,1,7,8])]) (fun _=>[]) (fun (Q:AEx->St R.σ->Prop)=>WpC Tryd.prog R 19 2 103 [1,0,1,0] Q [Kont.blk 0,Kont.seq [1,1]] (St.mk [(0,ow true 0 (List.length l) 1),(1,fn 73 0 (nth []) 1 (nth [ref 1 0])),(7,int i64 (↑(List.length l):Int)),(8,int i64 0)] [cells false (List.length l*1) fun (a:Nat)=>ac l a,cells false 1 fun (x:Nat)=>int u64 (↑on:Int)] g)) (?_)
 refine(aX krf (fun (i:Nat)=>⟨[(0,ow true 0 (l.length) 1),(1,fn 73 0 (nth []) 1 (nth [ref 1 0])),(7,int i64 (l.length:Int)),(8,.int .i64 (i:Int))],[cells false (l.length*1) fun (a:Nat)=>ac l a,cells false 1 fun (x:Nat)=>int u64 (on:Int)],g⟩) (fun (i:Nat)=>(i<=l.length/\aN (ce on) l 0=aN (ce on) (l.drop i) i)) (fun (i:Nat)=>(l.length-i)) 0 (aT ⟨zT _,zT _,zT _,(zU krf),trivial⟩ rfl rfl) ?_ (fun i hi=>?_))
 ·exact⟨Nat.zero_le _,rfl⟩
 ·obtain⟨h1,h2⟩:=hi
  rcases Nat.lt_or_ge i l.length with hlt|hge
  ·have hat:=ha _ (bQ l 0 hlt)
   have hd:=gD l 0 hlt
   rw[hd,xS] at h2
   refine vcR [] (lkL [(2,[0,1,7,8,9]),(3,[0,1,5,7,8]),(4,[0,1,5,7,8,16]),(5,[4]),(6,[0,1,7,8])]) (lkL [(4,[(5,ROrc.kcall (AV.bool !Nat.testBit on (Int.toNat (List.getD l i 0))))])]) (fun Q=>(fun (u1:List AObj)=>(fun (u2:Int)=>(fun (u3:Int)=>(fun (u4:Bool)=>(decide (u3<u2)=true->(0<=u3/\u3<u2)/\i+1<=List.length l*1/\(true=true/\Does Tryd.prog R 73 [ac l i,ref 1 0] u1 g (ret (AV.bool u4)) u1 g)/\(u4=true->Q AEx.ret (St.mk [(4,int i64 u3)] u1 g))/\(u4=false->(-9223372036854775808<=u3+1/\u3+1<=9223372036854775807)/\Q AEx.normal (St.mk [(0,ow true 0 (List.length l) 1),(1,fn 73 0 (nth []) 1 (nth [ref 1 0])),(7,int i64 u2),(8,int i64 (u3+1))] u1 g)))/\(decide (u3<u2)=false->Q (AEx.exit 0) (St.mk [(0,ow true 0 (List.length l) 1),(1,fn 73 0 (nth []) 1 (nth [ref 1 0])),(7,int i64 u2),(8,int i64 u3),(9,AV.bool (decide (u3<u2)))] u1 g))) (!Nat.testBit on (Int.toNat (List.getD l i 0)))) ((↑i:Int))) ((↑(List.length l):Int))) ([cells false (List.length l*1) fun a=>ac l a,cells false 1 fun x=>int u64 (↑on:Int)])) ⟨fun c1=>have c1:(↑i:Int)<(↑(List.length l):Int):=(of_decide_eq_true c1);⟨omg,omg,⟨rfl,(doS [1] 2 (fun R g=>rN R (on) (List.getD l i 0) omg omg g))⟩,fun c2=>have c2:Nat.testBit on (Int.toNat (List.getD l i 0))=false:=((Bool.not_eq_true' _).mp c2);?_,fun c2=>have c2:Nat.testBit on (Int.toNat (List.getD l i 0))=true:=((Bool.not_eq_false' _).mp c2);⟨omg,?_⟩⟩,fun c1=>have c1:¬(↑i:Int)<(↑(List.length l):Int):=(of_decide_eq_false c1);?_⟩
   ·have hq:ce on (l.getD i 0)=true:=by unfold ce;rw[c2];rfl
    rw[if_pos hq] at h2
    rw[h2]
    refine⟨_,z6 _,(aq (aU _ _ rfl trivial rfl rfl rfl) (zT _))⟩
   ·have hq:ce on (l.getD i 0)=false:=by unfold ce;rw[c2];rfl
    rw[if_neg (by rw[hq];decide)] at h2
    refine(aQ (i+1) (aT ⟨zT _,zT _,zT _,(zU krf),trivial⟩ rfl rfl) ?_ ?_)
    ·exact⟨omg,h2⟩
    ·omega
   ·exfalso;omega
  ·have hie:i=l.length:=by omega
   subst hie
   rw[List.drop_length] at h2
   have hb:decide ((l.length:Int)<(l.length:Int))=false:=decide_eq_false omg
   refine vcR [[1,0,1,0,0,1,0,0]] (lkL [(2,[0,1,7,8,9])]) (fun _=>[]) (fun Q=>(fun (u1:Int)=>(fun (u2:St R.σ)=>(decide (u1<u1)=true->WpC Tryd.prog R 19 2 103 [1,0,1,0,0,1,0,0] Q [Kont.seq [1,0,1,0,0,1,1]] u2)/\(decide (u1<u1)=false->Q (AEx.exit 0) u2)) (St.mk [(0,ow true 0 (List.length l) 1),(1,fn 73 0 (nth []) 1 (nth [ref 1 0])),(7,int i64 u1),(8,int i64 u1),(9,AV.bool (decide (u1<u1)))] [cells false (List.length l*1) fun a=>ac l a,cells false 1 fun x=>int u64 (↑on:Int)] g)) ((↑(List.length l):Int))) ⟨fun hcc=>(nomatch (hb.symm.trans hcc)),fun _=>?_⟩
   refine⟨_,z6 _,vcR [] (lkL [(7,[4])]) (fun _=>[]) (fun (Q:AEx->St R.σ->Prop)=>Q AEx.ret (St.mk [(4,int i64 (-1))] [cells false (List.length l*1) fun (a:Nat)=>ac l a,cells false 1 fun (x:Nat)=>int u64 (↑on:Int)] g)) (?_)⟩
   rw[h2]
   refine(aq (aU _ _ rfl trivial rfl rfl rfl) (zU krf))
def cb (on:Nat)(l:List Int)(j:Nat):List Int:=(l.take j).filter (fun a=>on.testBit a.toNat)
def cf (on:Nat)(l:List Int)(j:Nat):Nat->AV:=fun c=>if c<(cb on l j).length then .int .i64 ((cb on l j).getD c 0) else if j<=c then .int .i64 (l.getD c 0) else .any
theorem qD {k:Nat}(on:Nat)(l:List Int)(j c:Nat):Below k (cf on l j c):=by
 unfold cf
 split
 ·trivial
 ·split <;> trivial
theorem qO {f:Nat->Nat}(h:True){on:Nat}{l:List Int}{j c:Nat}:aF f (cf on l j c)=cf on l j c:=by
 unfold cf
 split
 ·rfl
 ·split <;> rfl
theorem rP {on:Nat}{l:List Int}{j:Nat}(h:j<l.length):cb on l (j+1)=if on.testBit (l.getD j 0).toNat then cb on l j++[l.getD j 0] else cb on l j:=by
 unfold cb
 rw[List.take_add_one,List.filter_append,List.getElem?_eq_getElem h,List.getD_eq_getElem?_getD,List.getElem?_eq_getElem h]
 cases hb:on.testBit l[j].toNat <;> simp[hb]
def aV (on:Nat)(l:List Int):List Int:=l.filter (fun a=>on.testBit a.toNat)
theorem xT {on:Nat}{l:List Int}{k:Nat}(hk:k<=l.length)(h:∀j,j<k->ce on (l.getD j 0)=false):cb on l k=l.take k:=by
 unfold cb
 rw[List.filter_eq_self]
 intro a ha
 obtain⟨j,hj,e⟩:=List.mem_iff_getElem.1 ha
 rw[List.length_take] at hj
 have:=h j omg
 rw[List.getD_eq_getElem?_getD,List.getElem?_eq_getElem omg] at this
 unfold ce at this
 rw[List.getElem_take] at e
 rw[<-e]
 simpa using this
theorem xU (R:Res)(l:List Int)(on:Nat)(hon:on<2^24)(hl:0<l.length/\l.length<1000000)(ha:∀a,a∈l->0<=a/\a<24)(g:R.σ):Does Tryd.prog R 72 [.ow true 0 l.length 1,.fn 73 0 (nth []) 1 (nth [.ref 1 0])] [.cells false (l.length*1) (ac l),.cells false 1 (fun _=>.int .u64 on)] g (.ret (.sl 0 0 (aV on l).length l.length false 1)) [.cells false ((aV on l).length*1) (ac (aV on l)),.cells false 1 (fun _=>.int .u64 on)] g:=by
 by_cases h0:0<=aN (ce on) l 0
 ·obtain⟨k,k1,k2,k3,k4⟩:=iA (ce on) 0 l 0 h0
  rw[Nat.zero_add] at k2
  have hkp:=xT omg k4
  refine spW (nt:=42) (rs:=[.tmp 4]) (k0:=2) ?_
  have hk1:cb on l (k+1)=l.take k:=by
   rw[rP k1,hkp,if_neg (by unfold ce at k3;simpa using k3)]
  have hkl:(cb on l (k+1)).length=k:=by rw[hk1,List.length_take];omega
  refine vcR [] (lkL [(0,[0,1]),(1,[0,1,5]),(2,[0,1,5,12]),(3,[4]),(4,[0,1,5,6])]) (lkL [(1,[(2,ROrc.kcall (int i64 (aN (ce on) l 0)))])]) (fun Q=>(fun (u1:List AObj)=>(fun (u2:Int)=>(fun (u3:AV)=>(true=true/\Does Tryd.prog R 103 [u3,fn 73 0 (nth []) 1 (nth [ref 1 0])] u1 g (ret (int i64 u2)) u1 g)/\((u2 == -1)=true->Q AEx.ret (St.mk [(4,u3)] u1 g))/\((u2 == -1)=false->(-9223372036854775808<=u2+1/\u2+1<=9223372036854775807)/\WpC Tryd.prog R 42 2 72 [1,1,1,0,1,0] Q [Kont.blk 0,Kont.seq [1,1,1,1]] (St.mk [(0,u3),(1,fn 73 0 (nth []) 1 (nth [ref 1 0])),(5,int i64 u2),(6,int i64 (u2+1))] u1 g))) (ow true 0 (List.length l) 1)) (aN (ce on) l 0)) ([cells false (List.length l*1) fun a=>ac l a,cells false 1 fun x=>int u64 (↑on:Int)])) ⟨⟨rfl,(rO _ _ _ omg omg omg _)⟩,fun c1=>have c1:aN (ce on) l 0 = -1:=(beq_iff_eq.mp c1);?_,fun c1=>have c1:¬aN (ce on) l 0 = -1:=(beq_eq_false_iff_ne.mp c1);⟨omg,?_⟩⟩
  ·exact absurd c1 omg
  ·rw[k2]
   refine(aX krf (fun (x:Nat)=>⟨[(0,ow true 0 (l.length) 1),(1,fn 73 0 (nth []) 1 (nth [ref 1 0])),(5,.int .i64 (cb on l x).length),(6,.int .i64 x)],[.cells false (l.length*1) (cf on l x),.cells false 1 (fun _=>.int .u64 on)],g⟩) (fun (x:Nat)=>(x<=l.length/\(cb on l x).length<x)) (fun (x:Nat)=>(l.length-x)) (k+1) (toL (h1:=⟨zT _,zT _,(zU ?_),(zU krf),trivial⟩) (h2:=⟨?_,zV,trivial⟩)) ?_ (fun x hi=>?_))
   ·show AV.int .i64 _=AV.int .i64 _
    rw[hkl]
   ·refine⟨rfl,Nat.le_refl _,fun c hc=>?_⟩
    show Le (ac l c) (cf on l (k+1) c)
    unfold cf
    rw[hkl]
    split
    ·refine zU ?_
     show AV.int .i64 _=AV.int .i64 _
     rw[hk1,List.getD_eq_getElem?_getD,List.getD_eq_getElem?_getD,List.getElem?_take,if_pos omg]
    ·split
     ·exact zT _
     ·exact Le.any _
   ·exact⟨omg,omg⟩
   ·obtain⟨h1,h2⟩:=hi
    rcases Nat.lt_or_ge x l.length with hlt|hge
    ·have hat:=ha _ (bQ l 0 hlt)
     have hks:=rP (on:=on) hlt
     have hdx:cf on l x x=.int .i64 (l.getD x 0):=by
      unfold cf
      rw[if_neg omg,if_pos (Nat.le_refl _)]
     refine vcR [] (lkL [(5,[0,1,5,6,19]),(7,[0,1,5,6,7]),(8,[0,1,5,6,7,29]),(9,[0,1,5,6]),(10,[0,1,5,6]),(6,[0,1,5,6])]) (lkL [(7,[(3,ROrc.kop (int i64 (List.getD l x 0)))]),(8,[(2,ROrc.kcall (AV.bool !Nat.testBit on (Int.toNat (List.getD l x 0))))])]) (fun Q=>(fun (u1:List AObj)=>(fun (u2:Int)=>(fun (u3:Int)=>(fun (u4:Int)=>(fun (u5:List (Nat × AV))=>(fun (u6:Bool)=>(fun (u7:AV)=>(decide (u4<u3)=true->(0<=u4/\u4<u3)/\OpOk Tryd.prog R (Oper.mk (some 25) (Op.load 3 (Operand.tmp 24)) 3 "slices.go:248" #[Edge.mk 2 Ground.data] none) (evO [Row.mk (some 24) none (ref 0 x) false (some []) [],Row.mk (some 23) none (int i64 u4) false (some []) [],Row.mk (some 22) none u7 false (some []) []] u5 []) u1 g (ac l x) u1 g/\(true=true/\Does Tryd.prog R 73 [ac l x,ref 1 0] u1 g (ret (AV.bool u6)) u1 g)/\((!u6)=true->(0<=u2/\u2<u3)/\List.length (cb on l x)+1<=List.length l*1/\(-9223372036854775808<=u2+1/\u2+1<=9223372036854775807)/\(-9223372036854775808<=u4+1/\u4+1<=9223372036854775807)/\Q AEx.normal (St.mk [(0,u7),(1,fn 73 0 (nth []) 1 (nth [ref 1 0])),(5,int i64 (u2+1)),(6,int i64 (u4+1))] [cells false (List.length l*1) (aj (cf on l x) (List.length (cb on l x)) 1 fun x_3=>ac l x),cells false 1 fun x=>int u64 (↑on:Int)] g))/\((!u6)=false->(-9223372036854775808<=u4+1/\u4+1<=9223372036854775807)/\Q AEx.normal (St.mk [(0,u7),(1,fn 73 0 (nth []) 1 (nth [ref 1 0])),(5,int i64 u2),(6,int i64 (u4+1))] u1 g)))/\(decide (u4<u3)=false->Q (AEx.exit 0) (St.mk u5 u1 g))) (ow true 0 (List.length l) 1)) (!Nat.testBit on (Int.toNat (List.getD l x 0)))) ([(0,ow true 0 (List.length l) 1),(1,fn 73 0 (nth []) 1 (nth [ref 1 0])),(5,int i64 u2),(6,int i64 u4),(19,AV.bool (decide (u4<u3)))])) ((↑x:Int))) ((↑(List.length l):Int))) ((↑(List.length (cb on l x)):Int))) ([cells false (List.length l*1) (cf on l x),cells false 1 fun x=>int u64 (↑on:Int)])) ⟨fun c1=>have c1:(↑x:Int)<(↑(List.length l):Int):=(of_decide_eq_true c1);⟨omg,?_,⟨rfl,(doS [1] 2 (fun R g=>rN R (on) (List.getD l x 0) omg omg g))⟩,fun c2=>have c2:Nat.testBit on (Int.toNat (List.getD l x 0))=true:=((Bool.not_eq_false' _).mp ((Bool.not_eq_true' _).mp c2));⟨omg,omg,omg,omg,?_⟩,fun c2=>have c2:Nat.testBit on (Int.toNat (List.getD l x 0))=false:=((Bool.not_eq_true' _).mp ((Bool.not_eq_false' _).mp c2));⟨omg,?_⟩⟩,fun c1=>have c1:¬(↑x:Int)<(↑(List.length l):Int):=(of_decide_eq_false c1);?_⟩
     ·exact dS rfl rfl krf rfl (by show _+1<=_;omega) hdx
     ·rw[if_pos c2] at hks
      refine(aQ (x+1) (toL (h1:=⟨zT _,zT _,(zU ?_),(zU krf),trivial⟩) (h2:=⟨?_,zV,trivial⟩)) ?_ ?_)
      ·show AV.int .i64 _=AV.int .i64 _
       rw[hks,List.length_append]
       rfl
      ·refine⟨rfl,Nat.le_refl _,fun c hc=>?_⟩
       rw[cS]
       unfold cf
       rw[hks,List.length_append,List.length_singleton]
       rcases Nat.lt_trichotomy c (cb on l x).length with h|h|h
       ·rw[if_neg omg,if_pos h,if_pos omg,List.getD_eq_getElem?_getD,List.getD_eq_getElem?_getD,List.getElem?_append_left h]
        exact zT _
       ·subst h
        rw[if_pos omg,if_pos omg,List.getD_eq_getElem?_getD,List.getElem?_append_right (Nat.le_refl _),Nat.sub_self]
        exact zT _
       ·rw[if_neg (show ¬((cb on l x).length<=c/\c<(cb on l x).length+1) by omega),if_neg (show ¬c<(cb on l x).length by omega),if_neg (show ¬c<(cb on l x).length+1 by omega)]
        by_cases h3:x+1<=c
        ·rw[if_pos (show x<=c by omega),if_pos h3];exact zT _
        ·rw[if_neg h3];exact Le.any _
      ·refine⟨omg,?_⟩
       rw[hks,List.length_append,List.length_singleton]
       omega
      ·omega
     ·rw[if_neg (by rw[c2];decide)] at hks
      refine(aQ (x+1) (toL (h1:=⟨zT _,zT _,(zU ?_),(zU krf),trivial⟩) (h2:=⟨?_,zV,trivial⟩)) ?_ ?_)
      ·show AV.int .i64 _=AV.int .i64 _
       rw[hks]
      ·refine⟨rfl,Nat.le_refl _,fun c hc=>?_⟩
       unfold cf
       rw[hks]
       by_cases h:c<(cb on l x).length
       ·rw[if_pos h,if_pos h];exact zT _
       ·rw[if_neg h,if_neg h]
        by_cases h3:x+1<=c
        ·rw[if_pos omg,if_pos h3];exact zT _
        ·rw[if_neg h3];exact Le.any _
      ·refine⟨omg,?_⟩
       rw[hks]
       omega
      ·omega
     ·exfalso;omega
    ·have hxe:x=l.length:=by omega
     subst hxe
     have hkk:cb on l l.length=aV on l:=by unfold cb aV;rw[List.take_length]
     rw[hkk] at h2 ⊢
     have hb:decide ((l.length:Int)<(l.length:Int))=false:=decide_eq_false omg
     refine vcR [[1,1,1,0,1,0,0,0,1,0]] (lkL [(5,[0,1,5,6,19])]) (fun _=>[]) (fun Q=>(fun (u1:Int)=>(fun (u2:St R.σ)=>(decide (u1<u1)=true->WpC Tryd.prog R 42 2 72 [1,1,1,0,1,0,0,0,1,0] Q [Kont.seq [1,1,1,0,1,0,0,1]] u2)/\(decide (u1<u1)=false->Q (AEx.exit 0) u2)) (St.mk [(0,ow true 0 (List.length l) 1),(1,fn 73 0 (nth []) 1 (nth [ref 1 0])),(5,int i64 (↑(List.length (aV on l)):Int)),(6,int i64 u1),(19,AV.bool (decide (u1<u1)))] [cells false (List.length l*1) (cf on l (List.length l)),cells false 1 fun x=>int u64 (↑on:Int)] g)) ((↑(List.length l):Int))) ⟨fun hcc=>(nomatch (hb.symm.trans hcc)),fun _=>?_⟩
     refine⟨_,z6 _,vcR [] (lkL [(11,[0,5]),(12,[4])]) (lkL [(11,[(3,ROrc.own any [cells false (List.length (aV on l)*1) (cf on l (List.length l)),cells false 1 fun (x:Nat)=>int u64 (↑on:Int)] g)])]) (fun Q=>(fun (u1:Nat)=>(fun (u2:Int)=>(fun (u3:AObj)=>(fun (u4:Int)=>List.length l<=List.length l/\(0<=u4/\u4<=u2)/\u1<List.length l/\OpOk Tryd.prog R (Oper.mk none (Op.call (Call.mk (Callee.builtin Builtin.clear) #[Operand.tmp 38] #[53])) 0 "slices.go:253" #[Edge.mk 2 Ground.data] none) (evO [Row.mk (some 38) none (sl 0 (u1*1) (List.length l-u1) (List.length l-u1) false 1) false (some []) [],Row.mk (some 37) none (int i64 u4) false (some []) [],Row.mk (some 36) none (ow true 0 (List.length l) 1) false (some []) []] [(0,ow true 0 (List.length l) 1),(1,fn 73 0 (nth []) 1 (nth [ref 1 0])),(5,int i64 u4),(6,int i64 u2),(19,AV.bool (decide (u2<u2)))] []) [cells false (List.length l*1) (cf on l (List.length l)),u3] g any [cells false (u1*1) (cf on l (List.length l)),u3] g/\(0<=u4/\u4<=u2)/\0<List.length l/\Q AEx.ret (St.mk [(4,sl 0 0 (u1-0) (List.length l-0) false 1)] [cells false (u1*1) (cf on l (List.length l)),u3] g)) ((↑u1:Int))) (cells false 1 fun x=>int u64 (↑on:Int))) ((↑(List.length l):Int))) (List.length (aV on l))) ⟨omg,omg,omg,?_,omg,omg,?_⟩⟩
     ·obtain⟨ei,hei⟩:=uW (ty:=ay Tryd.prog) (t:=53) (es:=1) krf
      refine q9 (uV (t:=53) (es:=1) (N:=l.length*1) (len:=l.length-(aV on l).length) (get0:=cf on l l.length) rfl rfl rfl rfl rfl rfl hei omg (Nat.le_refl _) dcd omg) rfl
     ·show bq Tryd.prog R 2 _ _ _ _ .ret _
      refine eD (.sl 0 0 ((aV on l).length-0) (l.length-0) false 1) _ rfl trivial (toL (h2:=⟨⟨rfl,Nat.le_refl _,fun c hc=>zU ?_⟩,zW _,trivial⟩))
      show cf on l l.length c=ac (aV on l) c
      unfold cf
      rw[hkk,if_pos omg]
      rfl
 ·have hm:=nN (ce on) l 0 h0
  have hk:aV on l=l:=by
   unfold aV
   rw[List.filter_eq_self]
   intro a ha
   have:=hm.2 a ha
   unfold ce at this
   simpa using this
  rw[hk]
  refine spW (nt:=42) (rs:=[.tmp 4]) (k0:=2) ?_
  refine vcR [] (lkL [(0,[0,1]),(1,[0,1,5]),(2,[0,1,5,12]),(3,[4]),(4,[0,1,5,6])]) (lkL [(1,[(2,ROrc.kcall (int i64 (aN (ce on) l 0)))])]) (fun Q=>(fun (u1:List AObj)=>(fun (u2:Int)=>(fun (u3:AV)=>(true=true/\Does Tryd.prog R 103 [u3,fn 73 0 (nth []) 1 (nth [ref 1 0])] u1 g (ret (int i64 u2)) u1 g)/\((u2 == -1)=true->Q AEx.ret (St.mk [(4,u3)] u1 g))/\((u2 == -1)=false->(-9223372036854775808<=u2+1/\u2+1<=9223372036854775807)/\WpC Tryd.prog R 42 2 72 [1,1,1,0,1,0] Q [Kont.blk 0,Kont.seq [1,1,1,1]] (St.mk [(0,u3),(1,fn 73 0 (nth []) 1 (nth [ref 1 0])),(5,int i64 u2),(6,int i64 (u2+1))] u1 g))) (ow true 0 (List.length l) 1)) (aN (ce on) l 0)) ([cells false (List.length l*1) fun a=>ac l a,cells false 1 fun x=>int u64 (↑on:Int)])) ⟨⟨rfl,(rO _ _ _ omg omg omg _)⟩,fun c1=>have c1:aN (ce on) l 0 = -1:=(beq_iff_eq.mp c1);?_,fun c1=>have c1:¬aN (ce on) l 0 = -1:=(beq_eq_false_iff_ne.mp c1);⟨omg,?_⟩⟩
  ·refine eD (.ow true 0 l.length 1) _ rfl trivial (toL (h1:=⟨Le.ow_sl omg,trivial⟩) (h2:=⟨zW _,zW _,trivial⟩))
  ·exact absurd hm.1 c1
def aG (on:Nat)(l:List Rule):List Rule:=l.filter (fun r=>on.testBit r.head.toNat)
def ba (on:Nat):List Rule->Nat->List Int
 |[],_=>[]
 |r::l,i=>if on.testBit r.head.toNat then(i:Int)::ba on l (i+1) else ba on l (i+1)
theorem rQ (on:Nat):∀(l:List Rule) (i:Nat),(ba on l i).length=(aG on l).length
 |[],_=>rfl
 |r::l,i=>by
  unfold ba aG
  rw[List.filter_cons]
  have ih:=rQ on l (i+1)
  unfold aG at ih
  split <;> simp[ih]
theorem rR (on:Nat):∀(l l':List Rule) (i:Nat),ba on (l++l') i=ba on l i++ba on l' (i+l.length)
 |[],l',i=>rfl
 |r::l,l',i=>by
  show(if on.testBit r.head.toNat then(i:Int)::ba on (l++l') (i+1) else ba on (l++l') (i+1))=(if on.testBit r.head.toNat then(i:Int)::ba on l (i+1) else ba on l (i+1))++_
  rw[rR on l l' (i+1),show i+1+l.length=i+(r::l).length by simp;omega]
  split <;> rfl
theorem xV {on:Nat}{l:List Rule}{i:Nat}(h:i<l.length):aG on (l.take (i+1))=if on.testBit (l.getD i default).head.toNat then aG on (l.take i)++[l.getD i default] else aG on (l.take i):=by
 unfold aG
 rw[List.take_add_one,List.filter_append,List.getElem?_eq_getElem h,List.getD_eq_getElem?_getD,List.getElem?_eq_getElem h]
 cases hb:on.testBit l[i].head.toNat <;> simp[hb]
theorem xW {on:Nat}{l:List Rule}{i:Nat}(h:i<l.length):ba on (l.take (i+1)) 0=if on.testBit (l.getD i default).head.toNat then ba on (l.take i) 0++[(i:Int)] else ba on (l.take i) 0:=by
 rw[List.take_add_one,List.getElem?_eq_getElem h,List.getD_eq_getElem?_getD,List.getElem?_eq_getElem h,Option.toList_some,rR,List.length_take,Nat.min_eq_left omg,Nat.zero_add]
 show _++(if on.testBit l[i].head.toNat then(i:Int)::[] else[])=_
 rw[Option.getD_some]
 split <;> simp
theorem xX {q:List Int}{s:Int}{c:Nat}{z:Nat->AV}(hc:c<(q.length+1)*1):ac (q++[s]) c=a8 1 q.length (fun i j=>ac q (i*1+j)) (fun i j=>aj z 0 1 (fun _=>.int .i64 s) (0+i*1+j)) c:=by
 unfold a8
 by_cases h:c<q.length*1
 ·rw[if_pos h]
  show _=ac q (c/1*1+c%1)
  rw[show c/1*1+c%1=c by omega]
  unfold ac
  rw[List.getD_eq_getElem?_getD,List.getElem?_append_left omg,<-List.getD_eq_getElem?_getD]
 ·rw[if_neg h]
  show _=aj z 0 1 _ (0+(c-q.length*1)/1*1+(c-q.length*1)%1)
  rw[cS,if_pos omg,show c=q.length by omega]
  unfold ac
  rw[List.getD_eq_getElem?_getD,List.getElem?_append_right (Nat.le_refl _),Nat.sub_self]
  rfl
theorem nk {k:Nat}(l:List Rule)(j:Nat):Below k (aW l j):=kZ _ _
theorem qM {f:Nat->Nat}(h:True){l:List Rule}{j:Nat}:aF f (aW l j)=aW l j:=lb _ _
theorem nat1_rng:∀(k n d j:Nat),j<k->ar (rng k n) d j=n+j
 |0,_,_,_,h=>absurd h (Nat.not_lt_zero _)
 |k+1,n,d,0,_=>rfl
 |k+1,n,d,j+1,h=>by
  show ar (rng k (n+1)) d j=_
  rw[nat1_rng k (n+1) d j omg]
  omega
theorem lF {n:Nat}{c:Nat->AV}(h:∀j,j<n->Below 0 (c j))(f:Nat->Nat):LeO (.cells false n c) (bO f (.cells false n c)):=⟨rfl,Nat.le_refl _,fun j hj=>bk (h j hj)⟩
def bZ (b:Nat)(l:List Stp):Nat->AV:=fun c=>bif Nat.beq (c%2) 0 then .int .i64 (l.getD (c/2) default).rule else .ow true (b+c/2) (l.getD (c/2) default).atoms.length 1
theorem og {f:Nat->Nat}{b b':Nat}{l:List Stp}{c:Nat}(h:f (b+c/2)=b'+c/2):aF f (bZ b l c)=bZ b' l c:=by
 unfold bZ
 cases Nat.beq (c%2) 0 with
 |true=>rfl
 |false=>
  show AV.ow true (f (b+c/2)) _ 1=_
  rw[h]
  rfl
theorem xY (R:Res)[hT:Tab LT R](p:Prg)(n0 n1 n2 n3:Nat)(c0 c1 c2 c3:Nat->AV)(b0:∀j,j<n0->Below 0 (c0 j))(b1:∀j,j<n1->Below 0 (c1 j))(b2:∀j,j<n2->Below 0 (c2 j))(b3:∀j,j<n3->Below 0 (c3 j))(hl:p.rules.l.length<1000000)(hr:∀r,r∈p.rules.l->aK r)(hp:cW p)(hh:dW p)(g:R.σ):Does Tryd.prog R 60 [av p] [.cells false n0 c0,.cells false n1 c1,.cells false n2 c2,.cells false n3 c3] g (.ret (.tup 2 (nth [.ow true 5 (al p).1.length 2,.ref 4 0])))
  (.cells false n0 c0::.cells false n1 c1::.cells false n2 c2::.cells false n3 c3::.cells false 27 (aI (al p).2)::.cells false ((al p).1.length*2) (bZ 6 (al p).1)::bA (ab (al p).1) []) g:=by
 have hlen:=nS hp hr hh
 have h1:Does Tryd.prog R 60 [av p] [.cells false n0 c0,.cells false n1 c1,.cells false n2 c2,.cells false n3 c3] g (.ret (.tup 2 (nth [.ow true 6 (al p).1.length 2,.ref 4 0])))
   (.cells false n0 c0::.cells false n1 c1::.cells false n2 c2::.cells false n3 c3::.cells false 27 (ae p (al p).2 (.mp 5))::.map (esF p.rules.l)::.cells false ((al p).1.length*2) (bZ 7 (al p).1)::bA (ab (al p).1) []) g:=
  ef hT [] 4 (fun R _ g=>rz R p hl hr hp hh g) rfl rfl rfl trivial trivial ⟨bk (by exact⟨⟨trivial,trivial⟩,trivial⟩),trivial⟩ (zX (fun j hj=>match j,hj with|0,_=>zT _|1,_=>zT _)) ⟨zW _,zW _,zW _,zW _,z4 (fun j hj=>bU (by rfl)),rfl,z4 (fun c hc=>og (b:=3) (by
   show ar ([]++rng 27 4) (4+27) (3+c/2)=7+c/2
   rw[List.nil_append,nat1_rng 27 4 31 (3+c/2) omg]
   omega)),zW _,zW _,zW _,zW _,zW _,zW _,zW _,zW _,zW _,zW _,zW _,zW _,zW _,zW _,zW _,zW _,zW _,zW _,zW _,zW _,zW _,zW _,zW _,zW _,trivial⟩
 refine ip h1 (toS [0,1,2,3,4,6,7,8,9,10,11,12,13,14,15,16,17,18,19,20,21,22,23,24,25,26,27,28,29,30] 31 (hob:=?_))
 refine⟨lF b0 _,lF b1 _,lF b2 _,lF b3 _,⟨rfl,Nat.le_refl _,fun j hj=>by
  show Le (ae p _ (.mp 5) j) (aF _ (aI _ j))
  rw[dg trivial]
  exact rA⟩,z4 (fun c hc=>?_),zW _,zW _,zW _,zW _,zW _,zW _,zW _,zW _,zW _,zW _,zW _,zW _,zW _,zW _,zW _,zW _,zW _,zW _,zW _,zW _,zW _,zW _,zW _,zW _,trivial⟩
 refine(og (b:=6) (b':=7) (c:=c) ?_).symm
 have h:(List.range 24).all (fun i=>ar [0,1,2,3,4,6,7,8,9,10,11,12,13,14,15,16,17,18,19,20,21,22,23,24,25,26,27,28,29,30] 31 (6+i)==7+i)=true:=by decide +kernel
 simpa using (List.all_eq_true.1 h) (c/2) (List.mem_range.2 omg)
def az (p:Prg)(on:Nat):Prg:=⟨p.atoms,aG on p.rules.l,.auto⟩
theorem xZ {p:Prg}{on:Nat}{hp:List AObj}{k m o:Nat}(ho:ag hp o=.cells false ((aG on p.rules.l).length*2) (aW (aG on p.rules.l)))(hk:k<=o):aA hp k m (.ow true o (aG on p.rules.l).length 2) (af (az p on).rules):=
 (aA.ow ho hk (Nat.le_refl _) dcd (fun j _=>z1 (nk _ _))).le (zZ rfl (fun i j hi hj=>by
  show aW _ (i*2+j)=bx _ j
  unfold aW
  rw[show(i*2+j)/2=i by omega,show(i*2+j)%2=j by omega]
  rfl))
def jY (p:Prg)(s:Stp):Prop:=(0<=s.rule->s.rule<p.rules.l.length)/\0<s.atoms.length/\s.atoms.length<=24/\∀a,a∈s.atoms->0<=a/\a<p.atoms
theorem x7 {p:Prg}{v:Nat->Int}(hp:cW p)(hr:∀r,r∈p.rules.l->aK r)(hh:dW p)(hb:bh p v=true):jY p (ao p v):=by
 obtain⟨h1,h2⟩:=ro (v:=v) hp hr hh
 by_cases h:0<=bp p v
 ·obtain⟨k,k1,k2,_,_⟩:=iA (eo v) default p.rules.l 0 h
  have hn:ao p v=⟨bp p v,[(p.rules.l.getD (bp p v).toNat default).head]⟩:=if_pos h
  have hf:bp p v=k:=by unfold bp;rw[k2];simp
  refine⟨fun _=>?_,?_,h2,h1⟩
  ·rw[hn];show bp p v<_;omega
  ·rw[hn];exact Nat.zero_lt_one
 ·obtain⟨k0,k1,_,_,_⟩:=nO hp h hb
  refine⟨fun h=>?_,?_,h2,h1⟩
  ·rw[k0] at h
   exact absurd h (by show ¬(0:Int) <= -1;omega)
  ·unfold cF at k1
   rw[Bool.and_eq_true] at k1
   exact of_decide_eq_true k1.1
theorem rS {p:Prg}(hp:cW p)(hr:∀r,r∈p.rules.l->aK r)(hh:dW p):∀(n:Nat) (v:Nat->Int) (l:List Stp),(∀s,s∈l->jY p s)->∀s,s∈(eq p n v l).1->jY p s
 |0,_,_,h=>h
 |n+1,v,l,h=>by
  show ∀s,s∈(if bh p v then eq p n (cn v (ao p v)) (l++[ao p v]) else(l,v)).1->jY p s
  by_cases hb:bh p v=true
  ·rw[if_pos hb]
   refine rS hp hr hh n _ _ (fun s hs=>?_)
   rcases List.mem_append.1 hs with hs|hs
   ·exact h s hs
   ·have:s=ao p v:=by simpa using hs
    rw[this]
    exact x7 hp hr hh hb
  ·rw[if_neg hb]
   exact h
def gR (nums:List Int)(s:Stp):Int:=if 0<=s.rule then nums.getD s.rule.toNat 0 else s.rule
def ad (on:Nat)(l:List Stp)(i j:Nat):AObj:=.cells false ((if j<i then aV on (l.getD j default).atoms else(l.getD j default).atoms).length*1) (ac (if j<i then aV on (l.getD j default).atoms else(l.getD j default).atoms))
def aS (on:Nat)(l:List Stp)(i:Nat):List Nat:=(List.range i).filter (fun k=>decide (0<(aV on (l.getD k default).atoms).length))
def bu (on:Nat)(nums:List Int)(l:List Stp)(q:List Nat):Nat->AV:=fun c=>bif Nat.beq (c%2) 0 then .int .i64 (gR nums (l.getD (q.getD (c/2) 0) default)) else .sl (6+q.getD (c/2) 0) 0 (aV on (l.getD (q.getD (c/2) 0) default).atoms).length (l.getD (q.getD (c/2) 0) default).atoms.length false 1
def gS (k:Nat):List Nat:=[0,1,2,3,4,5,6,7,8,9,10,11,12,13,14,15,16,17,18,19,20,21,22,23,24,25,26,27,28,29,k]
theorem rT {k n j:Nat}(hj:j<30):ar (gS k) n j=j:=by
 have h:j=0∨j=1∨j=2∨j=3∨j=4∨j=5∨j=6∨j=7∨j=8∨j=9∨j=10∨j=11∨j=12∨j=13∨j=14∨j=15∨j=16∨j=17∨j=18∨j=19∨j=20∨j=21∨j=22∨j=23∨j=24∨j=25∨j=26∨j=27∨j=28∨j=29:=by omega
 rcases h with rfl|rfl|rfl|rfl|rfl|rfl|rfl|rfl|rfl|rfl|rfl|rfl|rfl|rfl|rfl|rfl|rfl|rfl|rfl|rfl|rfl|rfl|rfl|rfl|rfl|rfl|rfl|rfl|rfl|rfl <;> rfl
theorem jZ {f:Nat->AObj}{x0 x1 x2 x3 x4 x5:AObj}{r:List AObj}{a:Nat}(ha:a<24):ag (x0::x1::x2::x3::x4::x5::bA f r) (6+a)=f a:=by
 rw[show 6+a=a+6 by omega]
 exact lu ha
theorem rU {f:Nat->AObj}{x0 x1 x2 x3 x4 x5:AObj}{r:List AObj}{a:Nat}:ag (x0::x1::x2::x3::x4::x5::bA f r) (30+a)=ag r a:=by
 rw[show 30+a=a+30 by omega]
 rfl
theorem x8 {on:Nat}{l:List Stp}{i j:Nat}(h:j≠i):ad on l (i+1) j=ad on l i j:=by
 unfold ad
 by_cases hj:j<i
 ·rw[if_pos hj,if_pos (show j<i+1 by omega)]
 ·rw[if_neg hj,if_neg (show ¬j<i+1 by omega)]
theorem x9 {on:Nat}{l:List Stp}{i:Nat}:ad on l i i=.cells false ((l.getD i default).atoms.length*1) (ac (l.getD i default).atoms):=by
 unfold ad
 rw[if_neg (Nat.lt_irrefl i)]
theorem ya {on:Nat}{l:List Stp}{i:Nat}:ad on l (i+1) i=.cells false ((aV on (l.getD i default).atoms).length*1) (ac (aV on (l.getD i default).atoms)):=by
 unfold ad
 rw[if_pos (Nat.lt_succ_self i)]
theorem rV (R:Res)(on:Nat)(L:List Stp)(i:Nat)(x0 x2 x3 x4 x5 o30 o31:AObj)(hi:i<24)(hon:on<2^24)(hl:0<(L.getD i default).atoms.length/\(L.getD i default).atoms.length<1000000)(ha:∀a,a∈(L.getD i default).atoms->0<=a/\a<24)(g:R.σ) :
  Does Tryd.prog R 72 [.ow true (6+i) (L.getD i default).atoms.length 1,.fn 73 0 (nth []) 1 (nth [.ref 1 0])] (x0::.cells false 1 (fun _=>.int .u64 on)::x2::x3::x4::x5::bA (ad on L i) [o30,o31]) g
   (.ret (.sl (6+i) 0 (aV on (L.getD i default).atoms).length (L.getD i default).atoms.length false 1)) (x0::.cells false 1 (fun _=>.int .u64 on)::x2::x3::x4::x5::bA (ad on L (i+1)) [o30,o31]) g:=by
 have hlt:bw [6+i,1] 32=true:=by
  show(Nat.blt (6+i) 32&&(Nat.blt 1 32&&true))=true
  rw[show Nat.blt (6+i) 32=true by rw[Nat.blt_eq];omega]
  rfl
 have hnd:cC [6+i,1]=true:=by
  show(!(bif Nat.beq (6+i) 1 then true else false)&&(!false&&true))=true
  rw[nT (show 6+i≠1 by omega)]
  rfl
 refine fB [6+i,1] 32 (fun R g=>xU R (L.getD i default).atoms on hon hl ha g) rfl hlt hnd ⟨?_,zW _,trivial⟩ ⟨omg,omg,trivial⟩ ⟨zT _,Le.fn (fun i hi=>absurd hi (Nat.not_lt_zero _)) (fun i hi=>match i,hi with|0,_=>zT _),trivial⟩ (zT _) ?_
 ·rw[jZ hi,x9]
  exact zW _
 ·refine nc (by rw[jk];rfl) (fun x hx=>?_) (fun x hx=>?_) ⟨?_,zW _,trivial⟩
  ·rw[jk]
   show x<32
   rcases List.mem_cons.1 hx with h|h
   ·omega
   ·have:x=1:=by simpa using h
    omega
  ·rw[ne _ _ _ hx]
   have hx1:x≠6+i:=fun e=>hx (by rw[e];exact List.mem_cons_self)
   rcases Nat.lt_or_ge x 6 with h|h
   ·match x,h with
    |0,_=>exact zW _
    |1,_=>exact zW _
    |2,_=>exact zW _
    |3,_=>exact zW _
    |4,_=>exact zW _
    |5,_=>exact zW _
   ·rcases Nat.lt_or_ge x 30 with h2|h2
    ·obtain⟨a,rfl⟩:∃a,x=6+a:=⟨x-6,omg⟩
     rw[jZ omg,jZ omg,x8 omg]
     exact zW _
    ·obtain⟨a,rfl⟩:∃a,x=30+a:=⟨x-30,omg⟩
     rw[rU,rU]
     exact zW _
  ·rw[jZ hi,ya]
   exact zW _
theorem rW {L:List Stp}{i:Nat}:Le (.agg 2 (fun j=>bZ 6 L (j+i*2))) (.agg 2 (nth [.int .i64 (L.getD i default).rule,.ow true (6+i) (L.getD i default).atoms.length 1])):=by
 refine zY (fun j hj=>zU ?_)
 unfold bZ
 match j,hj with
 |0,_=>
  rw[show(0+i*2)%2=0 by omega,show(0+i*2)/2=i by omega]
  rfl
 |1,_=>
  rw[show(1+i*2)%2=1 by omega,show(1+i*2)/2=i by omega]
  rfl
theorem rX {on:Nat}{nums:List Int}{l:List Stp}{q:List Nat}{i c:Nat}{z:Nat->AV}(hc:c<(q.length+1)*2):bu on nums l (q++[i]) c=a8 2 q.length (fun a j=>bu on nums l q (a*2+j)) (fun a j=>aj z 0 2 (nth [.int .i64 (gR nums (l.getD i default)),.sl (6+i) 0 (aV on (l.getD i default).atoms).length (l.getD i default).atoms.length false 1]) (0+a*2+j)) c:=by
 unfold a8
 by_cases h:c<q.length*2
 ·rw[if_pos h]
  show _=bu on nums l q (c/2*2+c%2)
  rw[show c/2*2+c%2=c by omega]
  unfold bu
  rw[List.getD_eq_getElem?_getD (l:=q++[i]),List.getElem?_append_left omg,<-List.getD_eq_getElem?_getD]
 ·rw[if_neg h]
  show _=aj z 0 2 _ (0+(c-q.length*2)/2*2+(c-q.length*2)%2)
  rw[cS,if_pos omg]
  unfold bu
  rw[show c/2=q.length by omega,List.getD_eq_getElem?_getD (l:=q++[i]),List.getElem?_append_right (Nat.le_refl _),Nat.sub_self]
  have h2:c=q.length*2∨c=q.length*2+1:=by omega
  rcases h2 with rfl|rfl
  ·rw[show q.length*2%2=0 by omega,show 0+(q.length*2-q.length*2)/2*2+(q.length*2-q.length*2)%2-0=0 by omega]
   rfl
  ·rw[show(q.length*2+1)%2=1 by omega,show 0+(q.length*2+1-q.length*2)/2*2+(q.length*2+1-q.length*2)%2-0=1 by omega]
   rfl
theorem lG {on:Nat}{l:List Stp}{i:Nat}:aS on l (i+1)=if 0<(aV on (l.getD i default).atoms).length then aS on l i++[i] else aS on l i:=by
 have e:([i].filter (fun k=>decide (0<(aV on (l.getD k default).atoms).length)))=if 0<(aV on (l.getD i default).atoms).length then[i] else[]:=by
  rw[List.filter_cons,List.filter_nil]
  by_cases h:0<(aV on (l.getD i default).atoms).length
  ·rw[if_pos h,decide_eq_true h];rfl
  ·rw[if_neg h,decide_eq_false h];rfl
 unfold aS
 rw[List.range_succ,List.filter_append,e]
 by_cases h:0<(aV on (l.getD i default).atoms).length
 ·rw[if_pos h,if_pos h]
 ·rw[if_neg h,if_neg h,List.append_nil]
theorem yb {on:Nat}{l:List Stp}{i c:Nat}(hi:0<i):(aS on l i).getD c 0<i:=by
 rcases Nat.lt_or_ge c (aS on l i).length with h|h
 ·have:=bQ (aS on l i) 0 h
  have h2:=(List.mem_filter.1 this).1
  exact List.mem_range.1 h2
 ·rw[List.getD_eq_getElem?_getD,List.getElem?_eq_none h]
  exact hi
theorem yd {f:Nat->Nat}{on:Nat}{nums:List Int}{l:List Stp}{q:List Nat}{c:Nat}(h:f (6+q.getD (c/2) 0)=6+q.getD (c/2) 0):aF f (bu on nums l q c)=bu on nums l q c:=by
 unfold bu
 cases Nat.beq (c%2) 0 with
 |true=>rfl
 |false=>
  show AV.sl (f (6+q.getD (c/2) 0)) 0 _ _ false 1=AV.sl (6+q.getD (c/2) 0) 0 _ _ false 1
  rw[h]
def ye (p:Prg)(on:Nat)(NU:List Int)(V:Nat->Int)(L:List Stp)(i m:Nat):List AObj:=.cells false 2 (nth [.int .i64 p.atoms,af p.rules])::.cells false 1 (fun _=>.int .u64 on)::.cells false 2 (nth [.int .i64 p.atoms,af (az p on).rules])::.cells false ((aG on p.rules.l).length*1) (ac NU)::.cells false 27 (aI V)::.cells false (L.length*2) (bZ 6 L)::bA (ad on L i) [.cells false (m*2) (bu on NU L (aS on L i))]
theorem lH {p:Prg}{on:Nat}{NU:List Int}{V:Nat->Int}{L:List Stp}{i m k n:Nat}{r:List AObj}(hL:L.length<=24)(hi:i<24)(hm:m=(aS on L (i+1)).length)(hk:ag (.cells false 2 (nth [.int .i64 p.atoms,af p.rules])::.cells false 1 (fun _=>.int .u64 on)::.cells false 2 (nth [.int .i64 p.atoms,af (az p on).rules])::.cells false ((aG on p.rules.l).length*1) (ac NU)::.cells false 27 (aI V)::.cells false (L.length*2) (bZ 6 L)::bA (ad on L (i+1)) r) k=.cells false (m*2) (bu on NU L (aS on L (i+1)))) :
  cR (ar (gS k) n) (.cells false 2 (nth [.int .i64 p.atoms,af p.rules])::.cells false 1 (fun _=>.int .u64 on)::.cells false 2 (nth [.int .i64 p.atoms,af (az p on).rules])::.cells false ((aG on p.rules.l).length*1) (ac NU)::.cells false 27 (aI V)::.cells false (L.length*2) (bZ 6 L)::bA (ad on L (i+1)) r) (gS k) (ye p on NU V L (i+1) m):=by
 refine⟨ir,zW _,ir,zW _,z4 (fun j hj=>(dg trivial).symm),z4 (fun c hc=>(og (b:=6) (b':=6) (c:=c) (rT omg)).symm),zW _,zW _,zW _,zW _,zW _,zW _,zW _,zW _,zW _,zW _,zW _,zW _,zW _,zW _,zW _,zW _,zW _,zW _,zW _,zW _,zW _,zW _,zW _,zW _,?_,trivial⟩
 rw[hk]
 refine z4 (fun c hc=>(yd (rT ?_)).symm)
 have:=yb (on:=on) (l:=L) (i:=i+1) (c:=c/2) omg
 omega
def dX (on:Nat)(nums:List Int)(l:List Stp):KL Step:=⟨(aS on l l.length).map (fun k=>⟨gR nums (l.getD k default),aV on (l.getD k default).atoms,.opn⟩),.auto⟩
theorem yf {hp:List AObj}{on:Nat}{NU:List Int}{L:List Stp}{m:Nat}(hm:m=(aS on L L.length).length)(hL:L.length<=24)(h30:ag hp 30=.cells false (m*2) (bu on NU L (aS on L L.length)))(hin:∀k,k<L.length->ag hp (6+k)=ad on L L.length k):aA hp 0 0 (.ow true 30 m 2) (au (dX on NU L)):=by
 subst hm
 refine aA.le (aA.ow h30 (Nat.zero_le _) (Nat.le_refl _) dcd (get:=fun c=>bif Nat.beq (c%2) 0 then .int .i64 (gR NU (L.getD ((aS on L L.length).getD (c/2) 0) default)) else ah ⟨aV on (L.getD ((aS on L L.length).getD (c/2) 0) default).atoms,.opn⟩) (fun c hc=>?_)) ?_
 ·unfold bu
  cases Nat.beq (c%2) 0 with
  |true=>exact z1 trivial
  |false=>
   have hc2:c/2<(aS on L L.length).length:=by omega
   obtain⟨k,hk⟩:∃k,(aS on L L.length).getD (c/2) 0=k:=⟨_,rfl⟩
   have hmem:=bQ (aS on L L.length) 0 hc2
   rw[hk] at hmem
   have hk2:=List.mem_filter.1 hmem
   have hkl:k<L.length:=List.mem_range.1 hk2.1
   have hpos:0<(aV on (L.getD k default).atoms).length:=of_decide_eq_true hk2.2
   have hle:(aV on (L.getD k default).atoms).length<=(L.getD k default).atoms.length:=List.length_filter_le _ _
   rw[hk]
   have h6:=hin k hkl
   unfold ad at h6
   rw[if_pos hkl] at h6
   exact(aA.sl h6 (Nat.zero_le _) omg hle dcd (fun j _=>z1 (dT _ _))).le (zZ rfl (fun i j hi hj=>by
    show ac _ (0+i*1+j)=AV.int .i64 _
    rw[show 0+i*1+j=i by omega]
    rfl))
 ·have hl2:(dX on NU L).l.length=(aS on L L.length).length:=by unfold dX;rw[List.length_map]
  refine zZ hl2.symm (fun i j hi hj=>?_)
  have hg:(dX on NU L).l.getD i default=⟨gR NU (L.getD ((aS on L L.length).getD i 0) default),aV on (L.getD ((aS on L L.length).getD i 0) default).atoms,.opn⟩:=by
   unfold dX
   rw[List.getD_eq_getElem?_getD,List.getElem?_map,List.getElem?_eq_getElem hi,List.getD_eq_getElem?_getD (l:=aS on L L.length),List.getElem?_eq_getElem hi]
   rfl
  show _=e8 _ j
  rw[hg]
  show(bif Nat.beq ((i*2+j)%2) 0 then _ else _)=_
  rw[show(i*2+j)%2=j by omega,show(i*2+j)/2=i by omega]
  match j,hj with
  |0,_=>rfl
  |1,_=>rfl
theorem yg (R:Res)[Tab LT R](p:Prg)(goal:Int)(hb:aJ p=true)(hg:0<=goal/\goal<p.atoms)(g:R.σ):Does Tryd.prog R 25 [av p,.int .i64 goal] [] g (.ret (.tup 3 (nth [.int .i64 ((al (az p (hgP p goal.toNat))).2 goal.toNat),au (dX (hgP p goal.toNat) (ba (hgP p goal.toNat) p.rules.l 0) (al (az p (hgP p goal.toNat))).1),.int .i64 0]))) [] g:=by
 obtain⟨hl,hr,hp,hh,hx⟩:=ff hb
 have hs:eh p:=gM hb
 have hp':1<=p.atoms/\p.atoms<=24:=hp
 have hroom:aB=140737488355328:=rfl
 have hlt:hgP p goal.toNat<2^24:=gP hr omg
 refine spW (nt:=98) (rs:=[.tmp 4,.tmp 5,.tmp 6]) (k0:=0) ?_
 have hc:(bif ((if aJ p then(0:Int) else 2) != 0) then true else !decide (0<=goal/\goal<=p.atoms-1))=false:=by
  rw[hb,decide_eq_true omg]
  rfl
 refine vcR [[1,0,1,0]] (lkL [(0,[1,2]),(1,[1,2,27]),(3,[1,2,7]),(4,[1,2,7,8]),(5,[1,2,7,8,9]),(6,[1,7,8,9,35,36,37])]) (lkL [(1,[(1,ROrc.pcall (int i64 (if aJ p=true then 0 else 2))),(8,ROrc.pcall (AV.bool (decide (0<=goal/\goal<=p.atoms-1))))]),(3,[(2,ROrc.pcall (int u64 (↑(hgP p (Int.toNat goal)):Int))),(4,ROrc.val (Orc.obj (nth [int u64 (↑(hgP p (Int.toNat goal)):Int)])))]),(4,[(4,ROrc.val (Orc.obj (nth [int i64 p.atoms,fz Fz.nil 0 0 fun (x x_1:Nat)=>any])))])]) (fun Q=>(fun (u1:Bool)=>(fun (u2:AV)=>(fun (u3:AV)=>(fun (u4:Int)=>(fun (u5:AV)=>2<=2/\(∀(hp:List AObj) (g:R.σ),true=true/\Does Tryd.prog R 16 [av p] hp g (ret (int i64 u4)) hp g)/\((!u4 != 0)=true->1<=2)/\((!u4 != 0)=true -> -9223372036854775808<=p.atoms-1/\p.atoms-1<=9223372036854775807)/\((!u4 != 0)=true->∀(hp:List AObj) (g:R.σ),true=true/\Does Tryd.prog R 58 [int i64 goal,int i64 0,int i64 (p.atoms-1)] hp g (ret (AV.bool (decide (0<=goal/\goal<=p.atoms-1)))) hp g)/\(u1=true->WpC Tryd.prog R 98 0 25 [1,0,1,0] Q [Kont.seq [1,1]] (St.mk [(1,int i64 goal),(2,ref 0 0),(27,AV.bool u1)] [cells false 2 (nth [u5,af p.rules])] g))/\(u1=false->2<=2/\(∀(hp:List AObj) (g:R.σ),true=true/\Does Tryd.prog R 70 [av p,int i64 goal] hp g (ret u3) hp g)/\1<=1/\(∀(c:Nat),c<1->nth [u3] c=aj (fun (a:Nat)=>int u64 0) 0 1 (fun (x:Nat)=>u3) c)/\1<=2/\2<=2/\(∀(c:Nat),c<2->nth [u5,u2] c=aj (nth [int i64 0,u2]) 0 2 (List.brecOn (motive:=fun (x:List AV)=>Nat->AV) [u5,u2] nth._f) c)/\2<=2/\WpC Tryd.prog R 98 0 25 [1,1,1,1,1,0,1,0] Q [Kont.blk 0,Kont.seq [1,1,1,1,1,1]] (St.mk [(1,int i64 goal),(7,ref 1 0),(8,ref 2 0),(9,u2),(35,af p.rules),(36,int i64 (↑(List.length p.rules.l):Int)),(37,int i64 0)] [cells false 2 (nth [u5,af p.rules]),cells false 1 (nth [u3]),cells false 2 (nth [u5,u2])] g))) (int i64 p.atoms)) (if aJ p=true then 0 else 2)) (int u64 (↑(hgP p (Int.toNat goal)):Int))) (fz Fz.nil 0 0 fun x x_1=>any)) (bif (if aJ p=true then 0 else 2) != 0 then true else !decide (0<=goal/\goal<=p.atoms-1))) ⟨omg,(fun _ _=>⟨rfl,(fZ _ _ _ _ omg)⟩),omg,omg,(fun hgd=>(fun _ _=>⟨rfl,(dv _ _ _ _ _ _)⟩)),fun hcc=>(nomatch (hc.symm.trans hcc)),fun _=>⟨omg,(fun _ _=>⟨rfl,(rD _ _ _ omg omg omg _ _)⟩),omg,(fun c hc=>match c,hc with|0,_=>krf ),omg,omg,(fun c hc=>match c,hc with|0,_=>krf|1,_=>krf ),omg,?_⟩⟩
 obtain⟨on,hon⟩:∃on,hgP p goal.toNat=on:=⟨_,rfl⟩
 rw[hon] at hlt ⊢
 refine cD (gJ (fun _=>.any) 2) ?_
 refine(aX krf (fun (x:Nat × Nat)=>⟨[(1,int i64 goal),(7,ref 1 0),(8,ref 2 0),(9,.ow true 4 x.2 1),(35,af p.rules),(36,int i64 (p.rules.l.length:Int)),(37,.int .i64 x.1)],[.cells false 2 (nth [.int .i64 p.atoms,af p.rules]),.cells false 1 (fun _=>.int .u64 on),.cells false 2 (nth [.int .i64 p.atoms,.ow true 3 x.2 2]),.cells false (x.2*2) (aW (aG on (p.rules.l.take x.1))),.cells false (x.2*1) (ac (ba on (p.rules.l.take x.1) 0))],g⟩) (fun (x:Nat × Nat)=>(x.1<=p.rules.l.length/\x.2=(aG on (p.rules.l.take x.1)).length)) (fun (x:Nat × Nat)=>(p.rules.l.length-x.1)) ((0,0):Nat × Nat) (toL (h1:=⟨zT _,zT _,zT _,Le.nil_ow,zT _,zT _,(zU krf),trivial⟩) (h2:=⟨zV,⟨rfl,Nat.le_refl _,fun j hj=>match j,hj with|0,_=>(zT _) ⟩,⟨rfl,Nat.le_refl _,fun j hj=>match j,hj with|0,_=>(zT _)|1,_=>Le.nil_ow ⟩,⟨rfl,Nat.le_refl _,fun j hj=>absurd hj (Nat.not_lt_zero j)⟩,⟨rfl,Nat.le_refl _,fun j hj=>absurd hj (Nat.not_lt_zero j)⟩,trivial⟩)) ?_ (fun x hi=>?_))
 ·exact⟨Nat.zero_le _,rfl⟩
 ·obtain⟨i,m⟩:=x
  obtain⟨hi,hm⟩:=hi
  simp only at hi hm
  have hpl:=rQ on (p.rules.l.take i) 0
  have hple:(aG on (p.rules.l.take i)).length<=p.rules.l.length:=Nat.le_trans (List.length_filter_le _ _) (by rw[List.length_take];omega)
  rcases Nat.lt_or_ge i p.rules.l.length with hi'|hi'
  ·have hq:=hr _ (ek hi')
   have hq2:=hq.2
   have hpt:=xV (on:=on) hi'
   have hnt:=xW (on:=on) hi'
   refine vcR [] (lkL [(7,[1,7,8,9,35,36,37,38]),(8,[1,7,8,9,10,11,35,36,37]),(9,[1,7,8,9,10,11,35,36,37,45]),(10,[1,7,8,9,10,35,36,37]),(11,[1,7,8,9,35,36,37]),(12,[1,7,8,9,35,36,37])]) (lkL [(8,[(5,ROrc.val (Orc.obj (nth [int i64 (List.getD p.rules.l i default).head,am (List.getD p.rules.l i default).body])))]),(9,[(3,ROrc.pcall (AV.bool (Nat.testBit on (Int.toNat (List.getD p.rules.l i default).head))))]),(10,[(4,ROrc.val (Orc.obj (aW (aG on (List.take i p.rules.l)++[List.getD p.rules.l i default])))),(6,ROrc.val (Orc.obj (nth [int i64 p.atoms,ow true 7 (m+1) 2])))]),(11,[(3,ROrc.val (Orc.obj (ac (ba on (List.take i p.rules.l) 0++[(↑i:Int)]))))])]) (fun Q=>(fun (u1:Rule)=>(fun (u2:Int)=>(fun (u3:Int)=>(fun (u4:List Rule)=>(fun (u5:List AV)=>(fun (u6:AObj)=>(fun (u7:AObj)=>(fun (u8:List AV)=>(fun (u9:List AV)=>(fun (u10:AObj)=>(fun (u11:List (Nat × AV))=>(fun (u12:Bool)=>(decide (u3<u2)=true->(0<=u3/\u3<u2)/\2<=2/\2<=2/\(∀(c:Nat),c<2->nth u5 c=aj (nth u8) 0 2 (List.brecOn (motive:=fun (x:List AV)=>Nat->AV) u5 nth._f) c)/\1<=1/\1<=2/\(∀(hp:List AObj) (g:R.σ),true=true/\Does Tryd.prog R 71 [int u64 (↑on:Int),int i64 u1.head] hp g (ret (AV.bool u12)) hp g)/\(u12=true->2<=2/\2<=2/\0<2/\(m+1)*32<=aB/\m+1<=aB/\2<=2/\m*2<=m*2/\(∀(c:Nat),c<(m+1)*2->aW (aG on u4++[u1]) c=a8 2 m (fun (i j:Nat)=>aW (aG on u4) (i*2+j)) (fun (i j:Nat)=>aj (fun (j:Nat)=>nth u8 (j%2)) 0 2 (List.brecOn (motive:=fun (x:List AV)=>Nat->AV) u5 nth._f) (0+i*2+j)) c)/\2<=2/\(∀(c:Nat),c<2->nth [int i64 p.atoms,ow true 7 (m+1) 2] c=aj (nth u9) 1 1 (fun (x:Nat)=>ow true 7 (m+1) 2) c)/\0<1/\(m+1)*8<=aB/\m+1<=aB/\1<=1/\m*1<=m*1/\(∀(c:Nat),c<(m+1)*1->ac (ba on u4 0++[u3]) c=a8 1 m (fun (i j:Nat)=>ac (ba on u4 0) (i*1+j)) (fun (i j:Nat)=>aj (fun (j:Nat)=>int i64 0) 0 1 (fun (x:Nat)=>int i64 u3) (0+i*1+j)) c)/\(-9223372036854775808<=u3+1/\u3+1<=9223372036854775807)/\Q AEx.normal (St.mk ((1,int i64 goal)::(7,ref 1 0)::(8,ref 2 0)::(9,ow true 9 (m+1) 1)::u11) [u6,u7,cells false 2 (nth [int i64 p.atoms,ow true 7 (m+1) 2]),dead,dead,cells false 2 (nth u5),cells false 2 (aj (fun (j:Nat)=>nth u8 (j%2)) 0 2 (List.brecOn (motive:=fun (x:List AV)=>Nat->AV) u5 nth._f)),cells false ((m+1)*2) (aW (aG on u4++[u1])),cells false 1 (aj (fun (j:Nat)=>int i64 0) 0 1 fun x=>int i64 u3),cells false ((m+1)*1) fun a=>ac (ba on u4 0++[u3]) a] g))/\(u12=false->(-9223372036854775808<=u3+1/\u3+1<=9223372036854775807)/\Q AEx.normal (St.mk ((1,int i64 goal)::(7,ref 1 0)::(8,ref 2 0)::(9,ow true 4 m 1)::u11) [u6,u7,cells false 2 (nth u9),cells false (m*2) (aW (aG on u4)),u10,cells false 2 (nth u5)] g)))/\(decide (u3<u2)=false->Q (AEx.exit 0) (St.mk [(1,int i64 goal),(7,ref 1 0),(8,ref 2 0),(9,ow true 4 m 1),(35,af p.rules),(36,int i64 u2),(37,int i64 u3),(38,AV.bool (decide (u3<u2)))] [u6,u7,cells false 2 (nth u9),cells false (m*2) (aW (aG on u4)),u10] g))) (Nat.testBit on (Int.toNat u1.head))) ([(35,af p.rules),(36,int i64 u2),(37,int i64 (u3+1))])) (cells false (m*1) fun a=>ac (ba on u4 0) a)) ([int i64 p.atoms,ow true 3 m 2])) ([int i64 0,fz Fz.nil 0 0 fun x x_1=>any])) (cells false 1 fun x=>int u64 (↑on:Int))) (cells false 2 (nth [int i64 p.atoms,af p.rules]))) ([int i64 u1.head,am u1.body])) (List.take i p.rules.l)) ((↑i:Int))) ((↑(List.length p.rules.l):Int))) (List.getD p.rules.l i default)) ⟨fun c1=>have c1:(↑i:Int)<(↑(List.length p.rules.l):Int):=(of_decide_eq_true c1);⟨omg,omg,omg,(fun c hc=>match c,hc with|0,_=>krf|1,_=>krf ),omg,omg,(fun _ _=>⟨rfl,(nu _ _ _ omg omg _ _)⟩),fun c2=>⟨omg,omg,omg,omg,omg,omg,omg,?_,omg,(fun c hc=>match c,hc with|0,_=>krf|1,_=>krf ),omg,omg,omg,omg,omg,?_,omg,?_⟩,fun c2=>⟨omg,?_⟩⟩,fun c1=>have c1:¬(↑i:Int)<(↑(List.length p.rules.l):Int):=(of_decide_eq_false c1);?_⟩
   ·intro c hc
    subst hm
    exact(q8 (r:=p.rules.l.getD i default) (z:=fun j=>nth [.int .i64 0,.fz .nil 0 0 fun _ _=>.any] (j%2)) hc).trans krf
   ·intro c hc
    rw[hm,<-hpl] at hc ⊢
    exact(xX (z:=fun _=>.int .i64 0) hc).trans krf
   ·rw[if_pos c2] at hpt hnt
    refine(aQ (i+1,m+1) (toS [0,1,2,7,9] 10 (hob:=⟨⟨rfl,Nat.le_refl _,fun j hj=>match j,hj with|0,_=>(zT _)|1,_=>(zT _) ⟩,⟨rfl,Nat.le_refl _,fun j hj=>match j,hj with|0,_=>(zT _) ⟩,⟨rfl,Nat.le_refl _,fun j hj=>match j,hj with|0,_=>(zT _)|1,_=>(zT _) ⟩,?_,?_,trivial⟩)) ?_ ?_)
    ·show LeO (.cells false ((m+1)*2) (aW (aG on (p.rules.l.take i)++[p.rules.l.getD i default]))) (bO _ (.cells false ((m+1)*2) (aW (aG on (p.rules.l.take (i+1))))))
     rw[hpt,gC]
     exact zW _
    ·show LeO (.cells false ((m+1)*1) (ac (ba on (p.rules.l.take i) 0++[(i:Int)]))) (.cells false ((m+1)*1) (ac (ba on (p.rules.l.take (i+1)) 0)))
     rw[hnt]
     exact zW _
    ·refine⟨by show i+1<=_;omega,?_⟩
     show m+1=(aG on (p.rules.l.take (i+1))).length
     rw[hpt,List.length_append,<-hm]
     rfl
    ·show p.rules.l.length-(i+1)<p.rules.l.length-i
     omega
   ·rw[if_neg (by rw[c2];decide)] at hpt hnt
    refine(aQ (i+1,m) (toS [0,1,2,3,4] 6 (hob:=⟨⟨rfl,Nat.le_refl _,fun j hj=>match j,hj with|0,_=>(zT _)|1,_=>(zT _) ⟩,⟨rfl,Nat.le_refl _,fun j hj=>match j,hj with|0,_=>(zT _) ⟩,⟨rfl,Nat.le_refl _,fun j hj=>match j,hj with|0,_=>(zT _)|1,_=>(zT _) ⟩,?_,?_,trivial⟩)) ?_ ?_)
    ·show LeO (.cells false (m*2) (aW (aG on (p.rules.l.take i)))) (bO _ (.cells false (m*2) (aW (aG on (p.rules.l.take (i+1))))))
     rw[hpt,gC]
     exact zW _
    ·show LeO (.cells false (m*1) (ac (ba on (p.rules.l.take i) 0))) (.cells false (m*1) (ac (ba on (p.rules.l.take (i+1)) 0)))
     rw[hnt]
     exact zW _
    ·refine⟨by show i+1<=_;omega,?_⟩
     show m=(aG on (p.rules.l.take (i+1))).length
     rw[hpt,<-hm]
    ·show p.rules.l.length-(i+1)<p.rules.l.length-i
     omega
   ·exfalso;omega
  ·have hie:i=p.rules.l.length:=by omega
   subst hie
   rw[List.take_length] at hm hpl
   subst hm
   obtain⟨M,hM⟩:∃M,(aG on p.rules.l).length=M:=⟨_,rfl⟩
   refine cD (toS (s':=⟨[(1,.int .i64 goal),(7,.ref 1 0),(8,.ref 2 0),(9,.ow true 3 (aG on p.rules.l).length 1),(35,af p.rules),(36,.int .i64 p.rules.l.length),(37,.int .i64 p.rules.l.length)],[.cells false 2 (nth [.int .i64 p.atoms,af p.rules]),.cells false 1 (fun _=>.int .u64 on),.cells false 2 (nth [.int .i64 p.atoms,.ow true 4 (aG on p.rules.l).length 2]),.cells false ((aG on p.rules.l).length*1) (ac (ba on p.rules.l 0)),.cells false ((aG on p.rules.l).length*2) (aW (aG on p.rules.l))],g⟩) [0,1,2,4,3] 5 (hob:=⟨ir,zW _,z4 (fun j hj=>match j,hj with|0,_=>rfl|1,_=>rfl),?_,?_,trivial⟩)) ?_
   ·show LeO (.cells false ((aG on p.rules.l).length*1) (ac (ba on (p.rules.l.take p.rules.l.length) 0))) _
    rw[List.take_length]
    exact zW _
   ·show LeO (.cells false ((aG on p.rules.l).length*2) (aW (aG on (p.rules.l.take p.rules.l.length)))) _
    rw[List.take_length,gC]
    exact zW _
   refine cD (vI 4 [(1,.int .i64 goal),(7,.ref 1 0),(8,.ref 2 0),(9,.ow true 3 (aG on p.rules.l).length 1),(35,af p.rules),(36,.int .i64 p.rules.l.length),(37,.int .i64 p.rules.l.length)] [.cells false 2 (nth [.int .i64 p.atoms,af p.rules]),.cells false 1 (fun _=>.int .u64 on),.cells false 2 (nth [.int .i64 p.atoms,af (az p on).rules]),.cells false ((aG on p.rules.l).length*1) (ac (ba on p.rules.l 0))] omg (by show 4<=5;omega) rfl (fun i hi=>?_) ⟨z1 trivial,z1 (show 1<4 by omega),z1 (show 2<4 by omega),z1 (show 3<4 by omega),z1 trivial,z1 trivial,z1 trivial,trivial⟩) ?_
   ·match i,hi with
    |0,_=>exact⟨rfl,rfl,fun j hj=>match j,hj with|0,_=>z1 trivial|1,_=>z1 trivial⟩
    |1,_=>exact⟨rfl,rfl,fun j _=>z1 trivial⟩
    |2,_=>exact⟨rfl,rfl,fun j hj=>match j,hj with|0,_=>z1 trivial|1,_=>xZ (o:=4) rfl (Nat.le_refl _)⟩
    |3,_=>exact⟨rfl,rfl,fun j _=>z1 trivial⟩
   have hbb:decide ((p.rules.l.length:Int)<(p.rules.l.length:Int))=false:=decide_eq_false omg
   refine vcR [[1,1,1,1,1,0,1,0,0,1,0,0]] (lkL [(7,[1,7,8,9,35,36,37,38])]) (fun _=>[]) (fun Q=>(fun (u1:St R.σ)=>(fun (u2:Int)=>(decide (u2<u2)=true->WpC Tryd.prog R 98 0 25 [1,1,1,1,1,0,1,0,0,1,0,0] Q [Kont.seq [1,1,1,1,1,0,1,0,0,1,1]] u1)/\(decide (u2<u2)=false->Q (AEx.exit 0) u1)) ((↑(List.length p.rules.l):Int))) (St.mk [(1,int i64 goal),(7,ref 1 0),(8,ref 2 0),(9,ow true 3 (List.length (aG on p.rules.l)) 1),(35,af p.rules),(36,int i64 (↑(List.length p.rules.l):Int)),(37,int i64 (↑(List.length p.rules.l):Int)),(38,AV.bool (decide ((↑(List.length p.rules.l):Int)<(↑(List.length p.rules.l):Int))))] [cells false 2 (nth [int i64 p.atoms,af p.rules]),cells false 1 fun x=>int u64 (↑on:Int),cells false 2 (nth [int i64 p.atoms,fz Fz.auto 2 (List.length (az p on).rules.l) fun i=>bx (List.getD (az p on).rules.l i default)]),cells false (List.length (aG on p.rules.l)*1) fun a=>ac (ba on p.rules.l 0) a] g)) ⟨fun hcc=>(nomatch (hbb.symm.trans hcc)),fun _=>?_⟩
   have hlq:(az p on).rules.l.length<1000000:=Nat.lt_of_le_of_lt (List.length_filter_le _ _) hl
   have hrq:∀r,r∈(az p on).rules.l->aK r:=fun r h=>hr r (List.mem_filter.1 h).1
   have hpq:cW (az p on):=hp
   have hhq:dW (az p on):=fun r h=>hh r (List.mem_filter.1 h).1
   have hD:=fun (R:Res) [Tab LT R] (n0 n1 n2 n3:Nat) (c0 c1 c2 c3:Nat->AV) (b0:∀j,j<n0->Below 0 (c0 j)) (b1:∀j,j<n1->Below 0 (c1 j)) (b2:∀j,j<n2->Below 0 (c2 j)) (b3:∀j,j<n3->Below 0 (c3 j)) (g:R.σ)=>xY R (az p on) n0 n1 n2 n3 c0 c1 c2 c3 b0 b1 b2 b3 hlq hrq hpq hhq g
   refine⟨_,z6 _,vcR [] (lkL [(13,[1,7,9,12,13]),(14,[1,7,9,12,13,14]),(15,[1,7,9,13,14,62,63,64])]) (lkL [(13,[(1,ROrc.call (tup 2 (nth [ow true 5 (List.length (al (az p on)).fst) 2,ref 4 0])) (cells false 2 (nth [int i64 p.atoms,af p.rules])::(cells false 1 fun (x:Nat)=>int u64 (↑on:Int))::cells false 2 (nth [int i64 p.atoms,fz Fz.auto 2 (List.length (az p on).rules.l) fun (i:Nat)=>bx (List.getD (az p on).rules.l i default)])::(cells false (List.length (aG on p.rules.l)*1) fun (a:Nat)=>ac (ba on p.rules.l 0) a)::cells false 27 (aI (al (az p on)).snd)::cells false (List.length (al (az p on)).fst*2) (bZ 6 (al (az p on)).fst)::bA (ab (al (az p on)).fst) []) g)])]) (fun Q=>(fun (u1:List AObj)=>(fun (u2:List AV)=>(fun (u3:Nat)=>2<=2/\(true=true/\Does Tryd.prog R 60 [agg 2 (nth u2)] [cells false 2 (nth [int i64 p.atoms,af p.rules]),cells false 1 fun x=>int u64 (↑on:Int),cells false 2 (nth u2),cells false (List.length (aG on p.rules.l)*1) fun a=>ac (ba on p.rules.l 0) a] g (ret (tup 2 (nth [ow true 5 u3 2,ref 4 0]))) u1 g)/\WpC Tryd.prog R 98 0 25 [1,1,1,1,1,1,1,1,0,1,0] Q [Kont.blk 2,Kont.seq [1,1,1,1,1,1,1,1,1]] (St.mk [(1,int i64 goal),(7,ref 1 0),(9,ow true 3 (List.length (aG on p.rules.l)) 1),(13,ref 4 0),(14,fz Fz.nil 0 0 fun x x_1=>any),(62,ow true 5 u3 2),(63,int i64 (↑u3:Int)),(64,int i64 0)] u1 g)) (List.length (al (az p on)).fst)) ([int i64 p.atoms,fz Fz.auto 2 (List.length (az p on).rules.l) fun i=>bx (List.getD (az p on).rules.l i default)])) ([cells false 2 (nth [int i64 p.atoms,af p.rules]),cells false 1 fun x=>int u64 (↑on:Int),cells false 2 (nth [int i64 p.atoms,fz Fz.auto 2 (List.length (az p on).rules.l) fun i=>bx (List.getD (az p on).rules.l i default)]),cells false (List.length (aG on p.rules.l)*1) fun a=>ac (ba on p.rules.l 0) a,cells false 27 (aI (al (az p on)).snd),cells false (List.length (al (az p on)).fst*2) (bZ 6 (al (az p on)).fst),ab (al (az p on)).fst 0,ab (al (az p on)).fst 1,ab (al (az p on)).fst 2,ab (al (az p on)).fst 3,ab (al (az p on)).fst 4,ab (al (az p on)).fst 5,ab (al (az p on)).fst 6,ab (al (az p on)).fst 7,ab (al (az p on)).fst 8,ab (al (az p on)).fst 9,ab (al (az p on)).fst 10,ab (al (az p on)).fst 11,ab (al (az p on)).fst 12,ab (al (az p on)).fst 13,ab (al (az p on)).fst 14,ab (al (az p on)).fst 15,ab (al (az p on)).fst 16,ab (al (az p on)).fst 17,ab (al (az p on)).fst 18,ab (al (az p on)).fst 19,ab (al (az p on)).fst 20,ab (al (az p on)).fst 21,ab (al (az p on)).fst 22,ab (al (az p on)).fst 23])) ⟨omg,⟨rfl,(hD _ _ _ _ _ _ _ _ _ ?_ ?_ ?_ ?_ _)⟩,?_⟩⟩
   ·exact fun j hj=>match j,hj with|0,_=>trivial|1,_=>trivial
   ·exact fun j _=>trivial
   ·exact fun j hj=>match j,hj with|0,_=>trivial|1,_=>trivial
   ·exact fun j _=>trivial
   obtain⟨L,hL⟩:∃L,(al (az p on)).1=L:=⟨_,rfl⟩
   obtain⟨V,hV⟩:∃V,(al (az p on)).2=V:=⟨_,rfl⟩
   obtain⟨NU,hNU⟩:∃NU,ba on p.rules.l 0=NU:=⟨_,rfl⟩
   have hL24:L.length<=24:=by rw[<-hL];exact nS hpq hrq hhq
   rw[hL,hV,hNU]
   refine cD (gJ (fun _=>.any) 1) ?_
   refine(aX krf (fun (x:Nat × Nat)=>⟨[(1,int i64 goal),(7,ref 1 0),(9,ow true 3 ((aG on p.rules.l).length) 1),(13,ref 4 0),(14,.ow true 30 x.2 2),(62,ow true 5 (L.length) 2),(63,int i64 (L.length:Int)),(64,.int .i64 x.1)],(.cells false 2 (nth [.int .i64 p.atoms,af p.rules])::.cells false 1 (fun _=>.int .u64 on)::.cells false 2 (nth [.int .i64 p.atoms,af (az p on).rules])::.cells false ((aG on p.rules.l).length*1) (ac NU)::.cells false 27 (aI V)::.cells false (L.length*2) (bZ 6 L)::bA (ad on L x.1) [.cells false (x.2*2) (bu on NU L (aS on L x.1))]),g⟩) (fun (x:Nat × Nat)=>(x.1<=L.length/\x.2=(aS on L x.1).length)) (fun (x:Nat × Nat)=>(L.length-x.1)) ((0,0):Nat × Nat) (toL (h1:=⟨zT _,zT _,zT _,zT _,Le.nil_ow,zT _,zT _,(zU krf),trivial⟩) (h2:=⟨zV,zV,zV,zV,zV,zV,zV,zV,zV,zV,zV,zV,zV,zV,zV,zV,zV,zV,zV,zV,zV,zV,zV,zV,zV,zV,zV,zV,zV,zV,⟨rfl,Nat.le_refl _,fun j hj=>absurd hj (Nat.not_lt_zero j)⟩,trivial⟩)) ?_ (fun x hi=>?_))
   ·exact⟨Nat.zero_le _,rfl⟩
   ·obtain⟨i,m⟩:=x
    obtain⟨hi,hm⟩:=hi
    simp only at hi hm
    have hm24:m<=i:=by
     rw[hm]
     unfold aS
     exact Nat.le_trans (List.length_filter_le _ _) (by rw[List.length_range];omega)
    rcases Nat.lt_or_ge i L.length with hi'|hi'
    ·have hso:jY (az p on) (L.getD i default):=by
      have:=rS hpq hrq hhq 25 (fun _=>3) [] (fun s hs=>(by cases hs))
      exact this _ (by
       have h:L.getD i default∈L:=bQ _ default hi'
       have h2:L.getD i default∈(al (az p on)).1:=hL.symm▸h
       exact h2)
     obtain⟨o1,o2,o3,o4⟩:=hso
     have o1:0<=(L.getD i default).rule->(L.getD i default).rule<(aG on p.rules.l).length:=o1
     have o4:∀a,a∈(L.getD i default).atoms->0<=a/\a<24:=fun a ha=>by
      have:=o4 a ha
      have e:(az p on).atoms=p.atoms:=rfl
      omega
     by_cases hru:0<=(L.getD i default).rule
     ·have hru1:=o1 hru
      have hge:decide ((L.getD i default).rule >= 0)=true:=decide_eq_true hru
      have har:gR NU (L.getD i default)=NU.getD (L.getD i default).rule.toNat 0:=if_pos hru
      refine vcR [[1,1,1,1,1,1,1,1,0,1,0,0,1,1,0,0,1,0,1,1]] (lkL [(16,[1,7,9,13,14,62,63,64,65]),(17,[1,7,9,13,14,16,62,63,64]),(18,[1,7,9,13,14,16,62,63,64,70]),(19,[1,7,9,13,14,16,62,63,64]),(20,[1,7,9,13,14,16,62,63,64]),(21,[1,7,9,13,14,16,62,63,64,85]),(22,[1,7,9,13,14,62,63,64]),(23,[1,7,9,13,14,62,63,64])]) (lkL [(17,[(1,ROrc.kop (agg 2 (nth [int i64 (List.getD L i default).rule,ow true (6+i) (List.length (List.getD L i default).atoms) 1]))),(3,ROrc.val (Orc.obj (nth [int i64 (List.getD L i default).rule,ow true (6+i) (List.length (List.getD L i default).atoms) 1])))]),(19,[(6,ROrc.val (Orc.obj (nth [ac NU (Int.toNat (List.getD L i default).rule),ow true (6+i) (List.length (List.getD L i default).atoms) 1])))]),(20,[(3,ROrc.call (sl (6+i) 0 (List.length (aV on (List.getD L i default).atoms)) (List.length (List.getD L i default).atoms) false 1) (cells false 2 (nth [int i64 p.atoms,af p.rules])::(cells false 1 fun (x:Nat)=>int u64 (↑on:Int))::cells false 2 (nth [int i64 p.atoms,af (az p on).rules])::cells false (List.length (aG on p.rules.l)*1) (ac NU)::cells false 27 (aI V)::cells false (List.length L*2) (bZ 6 L)::bA (ad on L (i+1)) [cells false (m*2) (bu on NU L (aS on L i)),cells false 2 (nth [int i64 (List.getD NU (Int.toNat (List.getD L i default).rule) 0),ow true (6+i) (List.length (List.getD L i default).atoms) 1])]) g),(5,ROrc.val (Orc.obj (nth [ac NU (Int.toNat (List.getD L i default).rule),sl (6+i) 0 (List.length (aV on (List.getD L i default).atoms)) (List.length (List.getD L i default).atoms) false 1])))]),(22,[(3,ROrc.val (Orc.obj (bu on NU L (aS on L i++[i]))))])]) (fun Q=>(fun (u1:List AObj)=>(fun (u2:Stp)=>(fun (u3:AObj)=>(fun (u4:AV)=>(fun (u5:AV)=>(fun (u6:Nat)=>(fun (u7:Int)=>(fun (u8:Nat)=>(fun (u9:AObj)=>(fun (u10:AV)=>(fun (u11:List (Nat × AV))=>(fun (u12:AObj)=>(fun (u13:AObj)=>(fun (u14:AObj)=>(fun (u15:AObj)=>(fun (u16:Int)=>(decide ((↑i:Int)<u7)=true->(0<=(↑i:Int)/\(↑i:Int)<u7)/\OpOk Tryd.prog R (Oper.mk (some 67) (Op.load 71 (Operand.tmp 66)) 71 "table.go:316" #[Edge.mk 0 Ground.data] none) (evO [Row.mk (some 66) none (ref 5 (i*2)) false (some []) []] u11 []) u1 g (agg 2 (nth [int i64 u2.rule,u5])) u1 g/\2<=2/\(∀(c:Nat),c<2->nth [int i64 u2.rule,u5] c=aj (nth [int i64 0,fz Fz.nil 0 0 fun x x_1=>any]) 0 2 (List.brecOn (motive:=fun (x:List AV)=>Nat->AV) [int i64 u2.rule,u5] nth._f) c)/\1<=2/\(decide (u2.rule >= 0)=true->1<=2/\(0<=u2.rule/\u2.rule<(↑u6:Int))/\Int.toNat u2.rule+1<=u6*1/\1<=2/\(∀(c:Nat),c<2->nth [u10,u5] c=aj (nth [int i64 u2.rule,u5]) 0 1 (fun (x:Nat)=>u10) c)/\2<=2/\(true=true/\Does Tryd.prog R 72 [u5,fn 73 0 (nth []) 1 (nth [ref 1 0])] [u9,u12,u3,u13,cells false 27 (aI V),u14,ad on L i 0,ad on L i 1,ad on L i 2,ad on L i 3,ad on L i 4,ad on L i 5,ad on L i 6,ad on L i 7,ad on L i 8,ad on L i 9,ad on L i 10,ad on L i 11,ad on L i 12,ad on L i 13,ad on L i 14,ad on L i 15,ad on L i 16,ad on L i 17,ad on L i 18,ad on L i 19,ad on L i 20,ad on L i 21,ad on L i 22,ad on L i 23,u15,cells false 2 (nth [u10,u5])] g (ret u4) [u9,u12,u3,u13,cells false 27 (aI V),u14,ad on L u8 0,ad on L u8 1,ad on L u8 2,ad on L u8 3,ad on L u8 4,ad on L u8 5,ad on L u8 6,ad on L u8 7,ad on L u8 8,ad on L u8 9,ad on L u8 10,ad on L u8 11,ad on L u8 12,ad on L u8 13,ad on L u8 14,ad on L u8 15,ad on L u8 16,ad on L u8 17,ad on L u8 18,ad on L u8 19,ad on L u8 20,ad on L u8 21,ad on L u8 22,ad on L u8 23,u15,cells false 2 (nth [u10,u5])] g)/\2<=2/\(∀(c:Nat),c<2->nth [u10,u4] c=aj (nth [u10,u5]) 1 1 (fun (x:Nat)=>u4) c)/\2<=2/\(decide (u16 > 0)=true->2<=2/\0<2/\(m+1)*32<=aB/\m+1<=aB/\2<=2/\m*2<=m*2/\(∀(c:Nat),c<(m+1)*2->bu on NU L (aS on L i++[i]) c=a8 2 m (fun (i_1 j:Nat)=>bu on NU L (aS on L i) (i_1*2+j)) (fun (i j:Nat)=>aj (fun (j:Nat)=>nth [int i64 0,fz Fz.nil 0 0 fun x x_1=>any] (j%2)) 0 2 (List.brecOn (motive:=fun (x:List AV)=>Nat->AV) [u10,u4] nth._f) (0+i*2+j)) c)/\(-9223372036854775808<=(↑i:Int)+1/\(↑i:Int)+1<=9223372036854775807)/\Q AEx.normal (St.mk [(1,int i64 goal),(7,ref 1 0),(9,ow true 3 u6 1),(13,ref 4 0),(14,ow true 33 (m+1) 2),(62,ow true 5 (List.length L) 2),(63,int i64 u7),(64,int i64 ((↑i:Int)+1))] [u9,u12,u3,u13,cells false 27 (aI V),u14,ad on L u8 0,ad on L u8 1,ad on L u8 2,ad on L u8 3,ad on L u8 4,ad on L u8 5,ad on L u8 6,ad on L u8 7,ad on L u8 8,ad on L u8 9,ad on L u8 10,ad on L u8 11,ad on L u8 12,ad on L u8 13,ad on L u8 14,ad on L u8 15,ad on L u8 16,ad on L u8 17,ad on L u8 18,ad on L u8 19,ad on L u8 20,ad on L u8 21,ad on L u8 22,ad on L u8 23,dead,cells false 2 (nth [u10,u4]),cells false 2 (aj (fun (j:Nat)=>nth [int i64 0,fz Fz.nil 0 0 fun x x_1=>any] (j%2)) 0 2 (List.brecOn (motive:=fun (x:List AV)=>Nat->AV) [u10,u4] nth._f)),cells false ((m+1)*2) (bu on NU L (aS on L i++[i]))] g))/\(decide (u16 > 0)=false->(-9223372036854775808<=(↑i:Int)+1/\(↑i:Int)+1<=9223372036854775807)/\Q AEx.normal (St.mk [(1,int i64 goal),(7,ref 1 0),(9,ow true 3 u6 1),(13,ref 4 0),(14,ow true 30 m 2),(62,ow true 5 (List.length L) 2),(63,int i64 u7),(64,int i64 ((↑i:Int)+1))] [u9,u12,u3,u13,cells false 27 (aI V),u14,ad on L u8 0,ad on L u8 1,ad on L u8 2,ad on L u8 3,ad on L u8 4,ad on L u8 5,ad on L u8 6,ad on L u8 7,ad on L u8 8,ad on L u8 9,ad on L u8 10,ad on L u8 11,ad on L u8 12,ad on L u8 13,ad on L u8 14,ad on L u8 15,ad on L u8 16,ad on L u8 17,ad on L u8 18,ad on L u8 19,ad on L u8 20,ad on L u8 21,ad on L u8 22,ad on L u8 23,u15,cells false 2 (nth [u10,u4])] g)))/\(decide (u2.rule >= 0)=false->WpC Tryd.prog R 98 0 25 [1,1,1,1,1,1,1,1,0,1,0,0,1,1,0,0,1,0,1,1] Q [Kont.seq [1,1,1,1,1,1,1,1,0,1,0,0,1,1,0,0,1,1],Kont.blk 3,Kont.seq [1,1,1,1,1,1,1,1,0,1,0,0,1,1,1]] (St.mk [(1,int i64 goal),(7,ref 1 0),(9,ow true 3 u6 1),(13,ref 4 0),(14,ow true 30 m 2),(16,ref 31 0),(62,ow true 5 (List.length L) 2),(63,int i64 u7),(64,int i64 (↑i:Int)),(70,AV.bool (decide (u2.rule >= 0)))] [u9,u12,u3,u13,cells false 27 (aI V),u14,ad on L i 0,ad on L i 1,ad on L i 2,ad on L i 3,ad on L i 4,ad on L i 5,ad on L i 6,ad on L i 7,ad on L i 8,ad on L i 9,ad on L i 10,ad on L i 11,ad on L i 12,ad on L i 13,ad on L i 14,ad on L i 15,ad on L i 16,ad on L i 17,ad on L i 18,ad on L i 19,ad on L i 20,ad on L i 21,ad on L i 22,ad on L i 23,u15,cells false 2 (nth [int i64 u2.rule,u5])] g)))/\(decide ((↑i:Int)<u7)=false->Q (AEx.exit 2) (St.mk u11 u1 g))) ((↑(List.length (aV on u2.atoms)):Int))) (cells false (m*2) (bu on NU L (aS on L i)))) (cells false (List.length L*2) (bZ 6 L))) (cells false (u6*1) fun a=>ac NU a)) (cells false 1 fun x=>int u64 (↑on:Int))) ([(1,int i64 goal),(7,ref 1 0),(9,ow true 3 u6 1),(13,ref 4 0),(14,ow true 30 m 2),(62,ow true 5 (List.length L) 2),(63,int i64 u7),(64,int i64 (↑i:Int)),(65,AV.bool (decide ((↑i:Int)<u7)))])) (ac NU (Int.toNat u2.rule))) (cells false 2 (nth [int i64 p.atoms,af p.rules]))) (i+1)) ((↑(List.length L):Int))) (List.length (aG on p.rules.l))) (ow true (6+i) (List.length u2.atoms) 1)) (sl (6+i) 0 (List.length (aV on u2.atoms)) (List.length u2.atoms) false 1)) (cells false 2 (nth [int i64 p.atoms,fz Fz.auto 2 (List.length (az p on).rules.l) fun i=>bx (List.getD (az p on).rules.l i default)]))) (List.getD L i default)) ([cells false 2 (nth [int i64 p.atoms,af p.rules]),cells false 1 fun x=>int u64 (↑on:Int),cells false 2 (nth [int i64 p.atoms,fz Fz.auto 2 (List.length (az p on).rules.l) fun i=>bx (List.getD (az p on).rules.l i default)]),cells false (List.length (aG on p.rules.l)*1) fun a=>ac NU a,cells false 27 (aI V),cells false (List.length L*2) (bZ 6 L),ad on L i 0,ad on L i 1,ad on L i 2,ad on L i 3,ad on L i 4,ad on L i 5,ad on L i 6,ad on L i 7,ad on L i 8,ad on L i 9,ad on L i 10,ad on L i 11,ad on L i 12,ad on L i 13,ad on L i 14,ad on L i 15,ad on L i 16,ad on L i 17,ad on L i 18,ad on L i 19,ad on L i 20,ad on L i 21,ad on L i 22,ad on L i 23,cells false (m*2) (bu on NU L (aS on L i))])) ⟨fun c1=>have c1:(↑i:Int)<(↑(List.length L):Int):=(of_decide_eq_true c1);⟨omg,?_,omg,(fun c hc=>match c,hc with|0,_=>krf|1,_=>krf ),omg,fun _=>⟨omg,omg,omg,omg,(fun c hc=>match c,hc with|0,_=>krf|1,_=>krf ),omg,?_,omg,(fun c hc=>match c,hc with|0,_=>krf|1,_=>krf ),omg,fun c2=>have c2:(↑(List.length (aV on (List.getD L i default).atoms)):Int) > 0:=(of_decide_eq_true c2);⟨omg,omg,omg,omg,omg,omg,?_,omg,?_⟩,fun c2=>have c2:¬(↑(List.length (aV on (List.getD L i default).atoms)):Int) > 0:=(of_decide_eq_false c2);⟨omg,?_⟩⟩,fun hcc=>(nomatch (hge.symm.trans hcc))⟩,fun c1=>have c1:¬(↑i:Int)<(↑(List.length L):Int):=(of_decide_eq_false c1);?_⟩
      ·exact qj rfl rfl krf rfl (by show i*2+2<=L.length*2;omega) rW
      ·exact⟨rfl,rV R on L i _ _ _ _ _ _ _ omg hlt ⟨o2,omg⟩ o4 g⟩
      ·intro c hc
       rw[hm] at hc ⊢
       exact(rX (on:=on) (nums:=NU) (l:=L) (q:=aS on L i) (i:=i) (z:=fun j=>nth [.int .i64 0,.fz .nil 0 0 fun _ _=>.any] (j%2)) hc).trans (by rw[har];kernel_rfl)
      ·have hsc:=lG (on:=on) (l:=L) (i:=i)
       rw[if_pos (show 0<(aV on (L.getD i default).atoms).length by omega)] at hsc
       have hm2:m+1=(aS on L (i+1)).length:=by rw[hsc,List.length_append,<-hm];rfl
       refine aQ (i+1,m+1) (toS (gS 33) 34 (hob:=lH hL24 omg hm2 (by rw[hsc];rfl))) ⟨by show i+1<=_;omega,hm2⟩ (by show L.length-(i+1)<L.length-i;omega)
      ·have hsc:=lG (on:=on) (l:=L) (i:=i)
       rw[if_neg (show ¬0<(aV on (L.getD i default).atoms).length by omega)] at hsc
       have hm2:m=(aS on L (i+1)).length:=by rw[hsc,<-hm]
       refine aQ (i+1,m) (toS (gS 30) 32 (hob:=lH hL24 omg hm2 (by rw[hsc];rfl))) ⟨by show i+1<=_;omega,hm2⟩ (by show L.length-(i+1)<L.length-i;omega)
      ·exfalso;omega
     ·have hge:decide ((L.getD i default).rule >= 0)=false:=decide_eq_false omg
      have har:gR NU (L.getD i default)=(L.getD i default).rule:=if_neg hru
      refine vcR [[1,1,1,1,1,1,1,1,0,1,0,0,1,1,0,0,1,0,1,0]] (lkL [(16,[1,7,9,13,14,62,63,64,65]),(17,[1,7,9,13,14,16,62,63,64]),(18,[1,7,9,13,14,16,62,63,64,70]),(20,[1,7,9,13,14,16,62,63,64]),(21,[1,7,9,13,14,16,62,63,64,85]),(22,[1,7,9,13,14,62,63,64]),(23,[1,7,9,13,14,62,63,64])]) (lkL [(17,[(1,ROrc.kop (agg 2 (nth [int i64 (List.getD L i default).rule,ow true (6+i) (List.length (List.getD L i default).atoms) 1]))),(3,ROrc.val (Orc.obj (nth [int i64 (List.getD L i default).rule,ow true (6+i) (List.length (List.getD L i default).atoms) 1])))]),(20,[(3,ROrc.call (sl (6+i) 0 (List.length (aV on (List.getD L i default).atoms)) (List.length (List.getD L i default).atoms) false 1) (cells false 2 (nth [int i64 p.atoms,af p.rules])::(cells false 1 fun (x:Nat)=>int u64 (↑on:Int))::cells false 2 (nth [int i64 p.atoms,af (az p on).rules])::cells false (List.length (aG on p.rules.l)*1) (ac NU)::cells false 27 (aI V)::cells false (List.length L*2) (bZ 6 L)::bA (ad on L (i+1)) [cells false (m*2) (bu on NU L (aS on L i)),cells false 2 (nth [int i64 (List.getD L i default).rule,ow true (6+i) (List.length (List.getD L i default).atoms) 1])]) g),(5,ROrc.val (Orc.obj (nth [int i64 (List.getD L i default).rule,sl (6+i) 0 (List.length (aV on (List.getD L i default).atoms)) (List.length (List.getD L i default).atoms) false 1])))]),(22,[(3,ROrc.val (Orc.obj (bu on NU L (aS on L i++[i]))))])]) (fun Q=>(fun (u1:List AObj)=>(fun (u2:List AObj)=>(fun (u3:Stp)=>(fun (u4:AV)=>(fun (u5:Int)=>(fun (u6:AObj)=>(fun (u7:List (Nat × AV))=>(fun (u8:List AV)=>(fun (u9:Nat)=>(fun (u10:Nat)=>(fun (u11:Int)=>(fun (u12:Int)=>(fun (u13:AObj)=>(fun (u14:AObj)=>(fun (u15:List AV)=>(fun (u16:AObj)=>(decide (u12<u5)=true->(0<=u12/\u12<u5)/\OpOk Tryd.prog R (Oper.mk (some 67) (Op.load 71 (Operand.tmp 66)) 71 "table.go:316" #[Edge.mk 0 Ground.data] none) (evO [Row.mk (some 66) none (ref 5 (i*2)) false (some []) []] u7 []) u1 g (agg 2 (nth u8)) u1 g/\2<=2/\(∀(c:Nat),c<2->nth u8 c=aj (nth u15) 0 2 (List.brecOn (motive:=fun (x:List AV)=>Nat->AV) u8 nth._f) c)/\1<=2/\(decide (u3.rule >= 0)=true->WpC Tryd.prog R 98 0 25 [1,1,1,1,1,1,1,1,0,1,0,0,1,1,0,0,1,0,1,0] Q [Kont.seq [1,1,1,1,1,1,1,1,0,1,0,0,1,1,0,0,1,1],Kont.blk 3,Kont.seq [1,1,1,1,1,1,1,1,0,1,0,0,1,1,1]] (St.mk [(1,int i64 goal),(7,ref 1 0),(9,ow true 3 u10 1),(13,ref 4 0),(14,ow true 30 m 2),(16,ref 31 0),(62,ow true 5 (List.length L) 2),(63,int i64 u5),(64,int i64 u12),(70,AV.bool (decide (u3.rule >= 0)))] u2 g))/\(decide (u3.rule >= 0)=false->2<=2/\(true=true/\Does Tryd.prog R 72 [ow true (6+i) (List.length u3.atoms) 1,fn 73 0 (nth []) 1 (nth [ref 1 0])] u2 g (ret u4) [u13,u14,u6,u16,cells false 27 (aI V),cells false (List.length L*2) (bZ 6 L),ad on L u9 0,ad on L u9 1,ad on L u9 2,ad on L u9 3,ad on L u9 4,ad on L u9 5,ad on L u9 6,ad on L u9 7,ad on L u9 8,ad on L u9 9,ad on L u9 10,ad on L u9 11,ad on L u9 12,ad on L u9 13,ad on L u9 14,ad on L u9 15,ad on L u9 16,ad on L u9 17,ad on L u9 18,ad on L u9 19,ad on L u9 20,ad on L u9 21,ad on L u9 22,ad on L u9 23,cells false (m*2) (bu on NU L (aS on L i)),cells false 2 (nth u8)] g)/\2<=2/\(∀(c:Nat),c<2->nth [int i64 u3.rule,u4] c=aj (nth u8) 1 1 (fun (x:Nat)=>u4) c)/\2<=2/\(decide (u11 > 0)=true->2<=2/\0<2/\(m+1)*32<=aB/\m+1<=aB/\2<=2/\m*2<=m*2/\(∀(c:Nat),c<(m+1)*2->bu on NU L (aS on L i++[i]) c=a8 2 m (fun (i_1 j:Nat)=>bu on NU L (aS on L i) (i_1*2+j)) (fun (i j:Nat)=>aj (fun (j:Nat)=>nth u15 (j%2)) 0 2 (List.brecOn (motive:=fun (x:List AV)=>Nat->AV) [int i64 u3.rule,u4] nth._f) (0+i*2+j)) c)/\(-9223372036854775808<=u12+1/\u12+1<=9223372036854775807)/\Q AEx.normal (St.mk [(1,int i64 goal),(7,ref 1 0),(9,ow true 3 u10 1),(13,ref 4 0),(14,ow true 33 (m+1) 2),(62,ow true 5 (List.length L) 2),(63,int i64 u5),(64,int i64 (u12+1))] [u13,u14,u6,u16,cells false 27 (aI V),cells false (List.length L*2) (bZ 6 L),ad on L u9 0,ad on L u9 1,ad on L u9 2,ad on L u9 3,ad on L u9 4,ad on L u9 5,ad on L u9 6,ad on L u9 7,ad on L u9 8,ad on L u9 9,ad on L u9 10,ad on L u9 11,ad on L u9 12,ad on L u9 13,ad on L u9 14,ad on L u9 15,ad on L u9 16,ad on L u9 17,ad on L u9 18,ad on L u9 19,ad on L u9 20,ad on L u9 21,ad on L u9 22,ad on L u9 23,dead,cells false 2 (nth [int i64 u3.rule,u4]),cells false 2 (aj (fun (j:Nat)=>nth u15 (j%2)) 0 2 (List.brecOn (motive:=fun (x:List AV)=>Nat->AV) [int i64 u3.rule,u4] nth._f)),cells false ((m+1)*2) (bu on NU L (aS on L i++[i]))] g))/\(decide (u11 > 0)=false->(-9223372036854775808<=u12+1/\u12+1<=9223372036854775807)/\Q AEx.normal (St.mk [(1,int i64 goal),(7,ref 1 0),(9,ow true 3 u10 1),(13,ref 4 0),(14,ow true 30 m 2),(62,ow true 5 (List.length L) 2),(63,int i64 u5),(64,int i64 (u12+1))] [u13,u14,u6,u16,cells false 27 (aI V),cells false (List.length L*2) (bZ 6 L),ad on L u9 0,ad on L u9 1,ad on L u9 2,ad on L u9 3,ad on L u9 4,ad on L u9 5,ad on L u9 6,ad on L u9 7,ad on L u9 8,ad on L u9 9,ad on L u9 10,ad on L u9 11,ad on L u9 12,ad on L u9 13,ad on L u9 14,ad on L u9 15,ad on L u9 16,ad on L u9 17,ad on L u9 18,ad on L u9 19,ad on L u9 20,ad on L u9 21,ad on L u9 22,ad on L u9 23,cells false (m*2) (bu on NU L (aS on L i)),cells false 2 (nth [int i64 u3.rule,u4])] g))))/\(decide (u12<u5)=false->Q (AEx.exit 2) (St.mk u7 u1 g))) (cells false (u10*1) fun a=>ac NU a)) ([int i64 0,fz Fz.nil 0 0 fun x x_1=>any])) (cells false 1 fun x=>int u64 (↑on:Int))) (cells false 2 (nth [int i64 p.atoms,af p.rules]))) ((↑i:Int))) ((↑(List.length (aV on u3.atoms)):Int))) (List.length (aG on p.rules.l))) (i+1)) ([int i64 u3.rule,ow true (6+i) (List.length u3.atoms) 1])) ([(1,int i64 goal),(7,ref 1 0),(9,ow true 3 (List.length (aG on p.rules.l)) 1),(13,ref 4 0),(14,ow true 30 m 2),(62,ow true 5 (List.length L) 2),(63,int i64 u5),(64,int i64 (↑i:Int)),(65,AV.bool (decide ((↑i:Int)<u5)))])) (cells false 2 (nth [int i64 p.atoms,fz Fz.auto 2 (List.length (az p on).rules.l) fun i=>bx (List.getD (az p on).rules.l i default)]))) ((↑(List.length L):Int))) (sl (6+i) 0 (List.length (aV on u3.atoms)) (List.length u3.atoms) false 1)) (List.getD L i default)) ([cells false 2 (nth [int i64 p.atoms,af p.rules]),cells false 1 fun x=>int u64 (↑on:Int),cells false 2 (nth [int i64 p.atoms,fz Fz.auto 2 (List.length (az p on).rules.l) fun i=>bx (List.getD (az p on).rules.l i default)]),cells false (List.length (aG on p.rules.l)*1) fun a=>ac NU a,cells false 27 (aI V),cells false (List.length L*2) (bZ 6 L),ad on L i 0,ad on L i 1,ad on L i 2,ad on L i 3,ad on L i 4,ad on L i 5,ad on L i 6,ad on L i 7,ad on L i 8,ad on L i 9,ad on L i 10,ad on L i 11,ad on L i 12,ad on L i 13,ad on L i 14,ad on L i 15,ad on L i 16,ad on L i 17,ad on L i 18,ad on L i 19,ad on L i 20,ad on L i 21,ad on L i 22,ad on L i 23,cells false (m*2) (bu on NU L (aS on L i)),cells false 2 (nth [int i64 (List.getD L i default).rule,ow true (6+i) (List.length (List.getD L i default).atoms) 1])])) ([cells false 2 (nth [int i64 p.atoms,af p.rules]),cells false 1 fun x=>int u64 (↑on:Int),cells false 2 (nth [int i64 p.atoms,fz Fz.auto 2 (List.length (az p on).rules.l) fun i=>bx (List.getD (az p on).rules.l i default)]),cells false (List.length (aG on p.rules.l)*1) fun a=>ac NU a,cells false 27 (aI V),cells false (List.length L*2) (bZ 6 L),ad on L i 0,ad on L i 1,ad on L i 2,ad on L i 3,ad on L i 4,ad on L i 5,ad on L i 6,ad on L i 7,ad on L i 8,ad on L i 9,ad on L i 10,ad on L i 11,ad on L i 12,ad on L i 13,ad on L i 14,ad on L i 15,ad on L i 16,ad on L i 17,ad on L i 18,ad on L i 19,ad on L i 20,ad on L i 21,ad on L i 22,ad on L i 23,cells false (m*2) (bu on NU L (aS on L i))])) ⟨fun c1=>have c1:(↑i:Int)<(↑(List.length L):Int):=(of_decide_eq_true c1);⟨omg,?_,omg,(fun c hc=>match c,hc with|0,_=>krf|1,_=>krf ),omg,fun hcc=>(nomatch (hge.symm.trans hcc)),fun _=>⟨omg,?_,omg,(fun c hc=>match c,hc with|0,_=>krf|1,_=>krf ),omg,fun c2=>have c2:(↑(List.length (aV on (List.getD L i default).atoms)):Int) > 0:=(of_decide_eq_true c2);⟨omg,omg,omg,omg,omg,omg,?_,omg,?_⟩,fun c2=>have c2:¬(↑(List.length (aV on (List.getD L i default).atoms)):Int) > 0:=(of_decide_eq_false c2);⟨omg,?_⟩⟩⟩,fun c1=>have c1:¬(↑i:Int)<(↑(List.length L):Int):=(of_decide_eq_false c1);?_⟩
      ·exact qj rfl rfl krf rfl (by show i*2+2<=L.length*2;omega) rW
      ·exact⟨rfl,rV R on L i _ _ _ _ _ _ _ omg hlt ⟨o2,omg⟩ o4 g⟩
      ·intro c hc
       rw[hm] at hc ⊢
       exact(rX (on:=on) (nums:=NU) (l:=L) (q:=aS on L i) (i:=i) (z:=fun j=>nth [.int .i64 0,.fz .nil 0 0 fun _ _=>.any] (j%2)) hc).trans (by rw[har];kernel_rfl)
      ·have hsc:=lG (on:=on) (l:=L) (i:=i)
       rw[if_pos (show 0<(aV on (L.getD i default).atoms).length by omega)] at hsc
       have hm2:m+1=(aS on L (i+1)).length:=by rw[hsc,List.length_append,<-hm];rfl
       refine aQ (i+1,m+1) (toS (gS 33) 34 (hob:=lH hL24 omg hm2 (by rw[hsc];rfl))) ⟨by show i+1<=_;omega,hm2⟩ (by show L.length-(i+1)<L.length-i;omega)
      ·have hsc:=lG (on:=on) (l:=L) (i:=i)
       rw[if_neg (show ¬0<(aV on (L.getD i default).atoms).length by omega)] at hsc
       have hm2:m=(aS on L (i+1)).length:=by rw[hsc,<-hm]
       refine aQ (i+1,m) (toS (gS 30) 32 (hob:=lH hL24 omg hm2 (by rw[hsc];rfl))) ⟨by show i+1<=_;omega,hm2⟩ (by show L.length-(i+1)<L.length-i;omega)
      ·exfalso;omega
    ·have hie:i=L.length:=by omega
     subst hie
     have hbb2:decide ((L.length:Int)<(L.length:Int))=false:=decide_eq_false omg
     refine vcR [[1,1,1,1,1,1,1,1,0,1,0,0,1,0,0]] (lkL [(16,[1,7,9,13,14,62,63,64,65])]) (fun _=>[]) (fun Q=>(fun (u1:St R.σ)=>(fun (u2:Int)=>(decide (u2<u2)=true->WpC Tryd.prog R 98 0 25 [1,1,1,1,1,1,1,1,0,1,0,0,1,0,0] Q [Kont.seq [1,1,1,1,1,1,1,1,0,1,0,0,1,1]] u1)/\(decide (u2<u2)=false->Q (AEx.exit 2) u1)) ((↑(List.length L):Int))) (St.mk [(1,int i64 goal),(7,ref 1 0),(9,ow true 3 (List.length (aG on p.rules.l)) 1),(13,ref 4 0),(14,ow true 30 m 2),(62,ow true 5 (List.length L) 2),(63,int i64 (↑(List.length L):Int)),(64,int i64 (↑(List.length L):Int)),(65,AV.bool (decide ((↑(List.length L):Int)<(↑(List.length L):Int))))] [cells false 2 (nth [int i64 p.atoms,af p.rules]),cells false 1 fun x=>int u64 (↑on:Int),cells false 2 (nth [int i64 p.atoms,fz Fz.auto 2 (List.length (az p on).rules.l) fun i=>bx (List.getD (az p on).rules.l i default)]),cells false (List.length (aG on p.rules.l)*1) fun a=>ac NU a,cells false 27 (aI V),cells false (List.length L*2) (bZ 6 L),ad on L (List.length L) 0,ad on L (List.length L) 1,ad on L (List.length L) 2,ad on L (List.length L) 3,ad on L (List.length L) 4,ad on L (List.length L) 5,ad on L (List.length L) 6,ad on L (List.length L) 7,ad on L (List.length L) 8,ad on L (List.length L) 9,ad on L (List.length L) 10,ad on L (List.length L) 11,ad on L (List.length L) 12,ad on L (List.length L) 13,ad on L (List.length L) 14,ad on L (List.length L) 15,ad on L (List.length L) 16,ad on L (List.length L) 17,ad on L (List.length L) 18,ad on L (List.length L) 19,ad on L (List.length L) 20,ad on L (List.length L) 21,ad on L (List.length L) 22,ad on L (List.length L) 23,cells false (m*2) (bu on NU L (aS on L (List.length L)))] g)) ⟨fun hcc=>(nomatch (hbb2.symm.trans hcc)),fun _=>?_⟩
     all_goals first|(exfalso;rw[hbb2] at c1;cases c1)|skip
     refine⟨_,z6 _,vcR [] (lkL [(24,[4,5,6])]) (lkL [(24,[(5,ROrc.kop (int i64 (V (Int.toNat goal))))])]) (fun Q=>(fun (u1:List AObj)=>(fun (u2:Int)=>(0<=goal/\goal<(↑24:Int))/\OpOk Tryd.prog R (Oper.mk (some 96) (Op.load 43 (Operand.tmp 95)) 43 "table.go:325" #[Edge.mk 4 Ground.data] none) (evO [Row.mk (some 95) none (ref 4 (Int.toNat goal+2)) false (some []) [],Row.mk (some 94) none (ref 4 2) false (some []) [],Row.mk (some 93) none (ref 4 0) false (some []) [],Row.mk (some 92) none (int i64 goal) false (some []) [],Row.mk (some 91) none (ref 4 0) false (some []) []] [(1,int i64 goal),(7,ref 1 0),(9,ow true 3 (List.length (aG on p.rules.l)) 1),(13,ref 4 0),(14,ow true 30 m 2),(62,ow true 5 (List.length L) 2),(63,int i64 u2),(64,int i64 u2),(65,AV.bool (decide (u2<u2)))] []) u1 g (int i64 (V (Int.toNat goal))) u1 g/\Q AEx.ret (St.mk [(4,int i64 (V (Int.toNat goal))),(5,ow true 30 m 2),(6,int i64 0)] u1 g)) ((↑(List.length L):Int))) ([cells false 2 (nth [int i64 p.atoms,af p.rules]),cells false 1 fun x=>int u64 (↑on:Int),cells false 2 (nth [int i64 p.atoms,fz Fz.auto 2 (List.length (az p on).rules.l) fun i=>bx (List.getD (az p on).rules.l i default)]),cells false (List.length (aG on p.rules.l)*1) fun a=>ac NU a,cells false 27 (aI V),cells false (List.length L*2) (bZ 6 L),ad on L (List.length L) 0,ad on L (List.length L) 1,ad on L (List.length L) 2,ad on L (List.length L) 3,ad on L (List.length L) 4,ad on L (List.length L) 5,ad on L (List.length L) 6,ad on L (List.length L) 7,ad on L (List.length L) 8,ad on L (List.length L) 9,ad on L (List.length L) 10,ad on L (List.length L) 11,ad on L (List.length L) 12,ad on L (List.length L) 13,ad on L (List.length L) 14,ad on L (List.length L) 15,ad on L (List.length L) 16,ad on L (List.length L) 17,ad on L (List.length L) 18,ad on L (List.length L) 19,ad on L (List.length L) 20,ad on L (List.length L) 21,ad on L (List.length L) 22,ad on L (List.length L) 23,cells false (m*2) (bu on NU L (aS on L (List.length L)))])) ⟨omg,?_,?_⟩⟩
     ·exact dS rfl rfl krf rfl (by show _+1<=27;omega) (nY omg omg)
     ·show bq Tryd.prog R 0 _ _ _ _ .ret _
      refine eD (.tup 3 (nth [.int .i64 (V goal.toNat),.ow true 30 m 2,.int .i64 0])) _ rfl trivial (jy 0 [(0,.tup 3 (nth [.int .i64 (V goal.toNat),au (dX on NU L),.int .i64 0]))] (Nat.le_refl _) (Nat.zero_le _) (fun i hi=>absurd hi (Nat.not_lt_zero i)) ⟨aA.tup (fun j hj=>match j,hj with|0,_=>z1 trivial|1,_=>?_|2,_=>z1 trivial),trivial⟩)
      exact yf hm hL24 rfl (fun k hk=>(jZ omg).trans rfl)
theorem yh (R:Res)(p:Prg)(l:KL Step)(hs:eh p)(h:aJ p=false)(hp:List AObj)(g:R.σ):Does Tryd.prog R 23 [av p,au l] hp g (.ret (.tup 2 (nth [.int .i64 0,.int .i64 2]))) hp g:=by
 refine bP (fun R g=>?_) (by exact⟨⟨⟨trivial,trivial⟩,trivial⟩,trivial,trivial⟩) R hp g
 refine spW (nt:=28) (rs:=[.tmp 4,.tmp 5]) (k0:=0) ?_
 have hc:((if aJ p then(0:Int) else 2) != 0)=true:=by
  rw[h]
  rfl
 refine vcR [[1,0,1,1]] (lkL [(0,[1,2]),(1,[1,2,11]),(2,[4,5])]) (lkL [(1,[(1,ROrc.pcall (int i64 (if aJ p=true then 0 else 2)))])]) (fun Q=>(fun (u1:Int)=>(fun (u2:AObj)=>2<=2/\(∀(hp:List AObj) (g:R.σ),true=true/\Does Tryd.prog R 16 [av p] hp g (ret (int i64 u1)) hp g)/\((u1 != 0)=true->Q AEx.ret (St.mk [(4,int i64 0),(5,int i64 2)] [u2] g))/\((u1 != 0)=false->WpC Tryd.prog R 28 0 23 [1,0,1,1] Q [Kont.seq [1,1]] (St.mk [(1,au l),(2,ref 0 0),(11,AV.bool (u1 != 0))] [u2] g))) (cells false 2 (nth [int i64 p.atoms,af p.rules]))) (if aJ p=true then 0 else 2)) ⟨omg,(fun _ _=>⟨rfl,(fZ _ _ _ _ omg)⟩),fun _=>?_,fun hcc=>(nomatch (hc.symm.trans hcc))⟩
 refine(aq (bl _ _ rfl trivial ⟨⟨trivial,trivial⟩,trivial⟩ rfl) (zT _))
def hpD (p:Prg)(v:Nat->Int)(es:List (Value × AV))(c:Nat->AV):List AObj:=[.cells false 27 (ae p v (.mp 1)),.map es,.cells false 1 c]
theorem oh (R:Res)(p:Prg)(v:Nat->Int)(es:List (Value × AV))(c:Nat->AV)(g:R.σ):DoesD Tryd.prog R 100 [.ref 2 0] (hpD p v es c) g (some (.ifc 145 (.agg 0 (nth [])))) (hpD p v es (nth [.bool false])) g:=by
 refine pZ (nt:=bv Tryd.prog 100) (rs:=cv Tryd.prog 100) (k0:=3) 4 1 krf krf krf rfl krf dcd dcd dcd dcd dcd ?_
 refine vcR [[1,1,0,0,1,1,0],[1,1,1]] (lkL [(1,[0,1,6]),(2,[0,1,3]),(3,[0,1,13])]) (lkL [(2,[(6,ROrc.kop any)]),(5,[(0,ROrc.val (Orc.obj (nth [AV.bool false])))])]) (fun Q=>(fun (u1:List AObj)=>(fun (u2:AV)=>(true=true->OpOk Tryd.prog R (Oper.mk none (Op.store 145 (Operand.tmp 2) (Operand.tmp 10)) 0 "table.go:214" #[Edge.mk 5 Ground.data,Edge.mk 3 Ground.data,Edge.mk 0 Ground.phase,Edge.mk 1 Ground.phase,Edge.mk 2 Ground.phase,Edge.mk 3 Ground.phase,Edge.mk 4 (Ground.textOnly Departure.lateStores),Edge.mk 5 Ground.phase] none) (evO [Row.mk (some 2) none (ref 3 0) true (some [3]) [],Row.mk (some 11) none (AV.bool true) false (some []) [],Row.mk (some 10) none u2 false (some []) [],Row.mk (some 7) none (tup 2 (nth [u2,AV.bool true])) false (some []) [],Row.mk (some 9) none (tup 2 (nth [u2,AV.bool true])) false (some []) [],Row.mk (some 8) none (ifc 145 u2) false (some []) []] [(0,ref 2 0),(1,ifc 145 u2),(6,AV.bool true)] []) u1 g any u1 g/\(false=true->Wp Tryd.prog R (bv Tryd.prog 100) 3 Rd.no (ax Tryd.prog 100) [1,1,0,0,1,1,0] (aP Tryd.prog R (bv Tryd.prog 100) 3 Rd.no (ax Tryd.prog 100) Q [Kont.seq [1,1,0,1]]) (St.mk [(0,ref 2 0),(1,ifc 145 u2),(13,AV.bool false)] u1 g))/\(false=false->1<=1/\(∀(c_1:Nat),c_1<1->nth [AV.bool false] c_1=aj c 0 1 (fun (x:Nat)=>AV.bool false) c_1)/\Q AEx.normal (St.mk [] [cells false 27 (ae p v (AV.mp 1)),AObj.map es,cells false 1 (nth [AV.bool false]),cells false 0 (nth [])] g)))/\(true=false->Wp Tryd.prog R (bv Tryd.prog 100) 3 Rd.no (ax Tryd.prog 100) [1,1,1] (aP Tryd.prog R (bv Tryd.prog 100) 3 Rd.no (ax Tryd.prog 100) Q []) (St.mk [(0,ref 2 0),(1,ifc 145 u2),(6,AV.bool true)] [cells false 27 (ae p v (AV.mp 1)),AObj.map es,cells false 1 c] g))) (agg 0 (nth []))) ([cells false 27 (ae p v (AV.mp 1)),AObj.map es,cells false 1 c,cells false 0 (nth [])])) ⟨fun _=>⟨?_,fun h=>(nomatch h),fun _=>⟨omg,(fun c hc=>match c,hc with|0,_=>krf ),?_⟩⟩,fun h=>(nomatch h)⟩
 ·exact vJ rfl rfl rfl krf
 ·refine(aq (bg 3 _ _ rfl trivial omg trivial ⟨(fun _ _=>(by first|exact trivial|apply aR)),(fun j hj=>match j,hj with|0,_=>trivial ),trivial⟩ krf rfl rfl) (zT _))
theorem rY (R:Res)(p:Prg)(v:Nat->Int)(es:List (Value × AV))(c:Nat->AV)(g:R.σ):DoesD Tryd.prog R 100 [.ref 2 0] (hpD p v es c) g none (hpD p v es c) g:=by
 refine pZ (nt:=bv Tryd.prog 100) (rs:=cv Tryd.prog 100) (k0:=3) 4 1 krf krf krf rfl krf dcd dcd dcd dcd dcd ?_
 refine vcR [[1,1,0]] (lkL [(1,[0,1,6])]) (lkL [(1,[(1,ROrc.own (AV.bool false) (hpD p v es c) g)])]) (fun Q=>(fun (u1:List AObj)=>(fun (u2:St R.σ)=>OpOk Tryd.prog R (Oper.mk (some 6) (Op.binOp BinOp.neq 20 (Operand.tmp 5) (Operand.const Value.nilIface) 20) 4 "table.go:213" #[Edge.mk 0 Ground.data] none) (evO [Row.mk (some 5) none AV.nili false (some []) []] [(1,AV.nili),(0,ref 2 0)] []) u1 g (AV.bool false) u1 g/\(false=true->Wp Tryd.prog R (bv Tryd.prog 100) 3 Rd.no (ax Tryd.prog 100) [1,1,0] (aP Tryd.prog R (bv Tryd.prog 100) 3 Rd.no (ax Tryd.prog 100) Q []) u2)/\(false=false->Q AEx.normal u2)) (St.mk [(0,ref 2 0),(1,AV.nili),(6,AV.bool false)] u1 g)) ([cells false 27 (ae p v (AV.mp 1)),AObj.map es,cells false 1 c])) ⟨?_,fun h=>(nomatch h),fun _=>?_⟩
 ·exact uN (ms:=#[]) rfl rfl rfl krf
 ·refine(aq (aU _ _ rfl trivial rfl rfl rfl) (zT _))
theorem yi (R:Res)(p:Prg)(v:Nat->Int)(es:List (Value × AV))(s:Step)(n:Nat)(c:Nat->AV)(hl:p.rules.l.length<1000000)(hr:∀r,r∈p.rules.l->aK r)(h:cx p v s=false)(g:R.σ):Does Tryd.prog R 141 [aY s,.ref 0 0] [.cells false 27 (ae p v (.mp 1)),.map es,.cells false n c] g (.pan (.ifc 145 (.agg 0 (nth [])))) [.cells false 27 (ae p v (.mp 1)),.map es,.cells false n c] g:=
 fB [0,1] 3 (fun R g=>q5 R p v es s hl hr h g) rfl rfl rfl ⟨z4 (fun j hj=>(bU (f:=ar [0,1] 3) rfl).symm),rfl,trivial⟩ (by exact⟨dcd,trivial⟩) ⟨bk (by exact⟨⟨trivial,trivial⟩,trivial⟩),zT _,trivial⟩ (zU (by rfl)) ⟨z4 (fun j hj=>bU rfl),rfl,zW _,trivial⟩
theorem yj (R:Res)(p:Prg)(v:Nat->Int)(es:List (Value × AV))(s:Step)(hl:p.rules.l.length<1000000)(hr:∀r,r∈p.rules.l->aK r)(h:cx p v s=false)(g:R.σ):Does Tryd.prog R 67 [.ref 0 0,.ifc 149 (aY s)] [.cells false 27 (ae p v (.mp 1)),.map es] g (.ret (.bool false)) [.cells false 27 (ae p v (.mp 1)),.map es] g:=by
 refine jq (K:=100) (nt:=bv Tryd.prog 67) (rs:=cv Tryd.prog 67) (k0:=2) 5 [4] krf krf krf rfl krf krf dcd dcd ?_
 refine vcR [] (lkL [(0,[0,1,4])]) (fun _=>[]) (fun (Q:AEx->St R.σ->Prop)=>Q AEx.normal (St.mk [(0,ref 0 0),(1,ifc 149 (agg 2 (nth [int i64 s.rule,fz s.atoms.2 1 (List.length s.atoms.l) fun (i x:Nat)=>ac s.atoms.l i]))),(4,ref 2 0)] [cells false 27 (ae p v (AV.mp 1)),AObj.map es,cells false 1 fun (a:Nat)=>AV.bool false] g)) (?_)
 refine jr 3 [.ref 2 0] rfl rfl rfl ?_
 have hD:=fun (R:Res) (n:Nat) (c:Nat->AV) (g:R.σ)=>yi R p v es s n c hl hr h g
 refine vcR [] (lkL [(2,[4])]) (lkL [(2,[(2,ROrc.ipan (ifc 145 (agg 0 (nth []))) [cells false 27 (ae p v (AV.mp 1)),AObj.map es,cells false 1 fun (a:Nat)=>AV.bool false] g)])]) (fun Q=>(fun (u1:List AObj)=>(true=true/\true=true/\Does Tryd.prog R 141 [agg 2 (nth [int i64 s.rule,fz s.atoms.2 1 (List.length s.atoms.l) fun i x=>ac s.atoms.l i]),ref 0 0] u1 g (Oc.pan (ifc 145 (agg 0 (nth [])))) u1 g)/\Q (AEx.pan (ifc 145 (agg 0 (nth [])))) (St.mk [(4,ref 2 0)] u1 g)) ([cells false 27 (ae p v (AV.mp 1)),AObj.map es,cells false 1 fun a=>AV.bool false])) ⟨⟨krf,rfl,(hD _ _ _ _)⟩,?_⟩
 refine⟨_,_,oh R p v es _ g,?_⟩
 refine(aq (bg 2 (AV.bool false) ([0+(TyI.mk (TypeInfo.mk TypeDesc.bool "bool" 1 1 false 1 1 (some (Value.bool false)) true #[]).desc Tryd.prog.types[4].size Tryd.prog.types[4].bytes (b8 (cY (Value.bool false))) (cA (TypeInfo.mk TypeDesc.bool "bool" 1 1 false 1 1 (some (Value.bool false)) true #[]).desc) (dB Tryd.prog 4)).size<=1]) krf (by exact⟨dcd,trivial⟩) omg trivial ⟨(fun _ _=>(by first|exact trivial|apply aR)),trivial⟩ krf rfl rfl) (zT _))
theorem yk {s:Step}(h:s.rule ≠ -1):cT s=.ifc 149 (aY s):=if_neg h
theorem ym (R:Res)(s:Step)(h:s.rule ≠ -1)(hp:List AObj)(g:R.σ):Does Tryd.prog R 68 [aY s] hp g (.ret (.ifc 149 (aY s))) hp g:=by
 rw[<-yk h]
 exact lm R s hp g
theorem yn (R:Res)(p:Prg)(v:Nat->Int)(es:List (Value × AV))(s:Step)(n0 n3:Nat)(c0 c3:Nat->AV)(hl:p.rules.l.length<1000000)(hr:∀r,r∈p.rules.l->aK r)(h:cx p v s=false)(g:R.σ):Does Tryd.prog R 67 [.ref 1 0,.ifc 149 (aY s)] [.cells false n0 c0,.cells false 27 (ae p v (.mp 2)),.map es,.cells false n3 c3] g (.ret (.bool false)) [.cells false n0 c0,.cells false 27 (ae p v (.mp 2)),.map es,.cells false n3 c3] g:=
 fB [1,2] 4 (fun R g=>yj R p v es s hl hr h g) rfl rfl rfl ⟨z4 (fun j hj=>(bU (f:=ar [1,2] 4) rfl).symm),rfl,trivial⟩ (by exact⟨dcd,trivial⟩) ⟨zT _,bk (by exact⟨⟨trivial,trivial⟩,trivial⟩),trivial⟩ (zT _) ⟨zW _,z4 (fun j hj=>bU rfl),rfl,zW _,trivial⟩
theorem yp (R:Res)[Tab LT R](p:Prg)(l:KL Step)(hb:aJ p=true)(hll:0<l.l.length/\l.l.length<1000000)(h1:(l.l.getD 0 default).rule ≠ -1)(h2:cx p (fun _=>3) (l.l.getD 0 default)=false)(g:R.σ):Does Tryd.prog R 23 [av p,au l] [] g (.ret (.tup 2 (nth [.int .i64 0,.int .i64 7]))) [] g:=by
 obtain⟨hl,hr,hp,hh,hx⟩:=ff hb
 have hs:eh p:=gM hb
 have hp':1<=p.atoms/\p.atoms<=24:=hp
 refine spW (nt:=28) (rs:=[.tmp 4,.tmp 5]) (k0:=0) ?_
 have hc:((if aJ p then(0:Int) else 2) != 0)=false:=by
  rw[hb]
  rfl
 refine vcR [[1,0,1,0]] (lkL [(0,[1,2]),(1,[1,2,11]),(3,[1,6]),(4,[6,14,15,16])]) (lkL [(1,[(1,ROrc.pcall (int i64 (if aJ p=true then 0 else 2)))]),(3,[(1,ROrc.call (ref 1 0) [cells false 2 (nth [int i64 p.atoms,af p.rules]),cells false 27 (ae p (fun (x:Nat)=>3) (AV.mp 2)),AObj.map (esF p.rules.l)] g)])]) (fun Q=>(fun (u1:AObj)=>(fun (u2:Int)=>(fun (u3:List AObj)=>2<=2/\(∀(hp:List AObj) (g:R.σ),true=true/\Does Tryd.prog R 16 [av p] hp g (ret (int i64 u2)) hp g)/\((u2 != 0)=true->WpC Tryd.prog R 28 0 23 [1,0,1,0] Q [Kont.seq [1,1]] (St.mk [(1,au l),(2,ref 0 0),(11,AV.bool (u2 != 0))] [u1] g))/\((u2 != 0)=false->2<=2/\(true=true/\Does Tryd.prog R 66 [av p] [u1] g (ret (ref 1 0)) u3 g)/\WpC Tryd.prog R 28 0 23 [1,1,1,0,1,0] Q [Kont.blk 0,Kont.seq [1,1,1,1]] (St.mk [(6,ref 1 0),(14,au l),(15,int i64 (↑(List.length l.l):Int)),(16,int i64 0)] u3 g))) ([u1,cells false 27 (ae p (fun (x:Nat)=>3) (AV.mp 2)),AObj.map (esF p.rules.l)])) (if aJ p=true then 0 else 2)) (cells false 2 (nth [int i64 p.atoms,af p.rules]))) ⟨omg,(fun _ _=>⟨rfl,(fZ _ _ _ _ omg)⟩),fun hcc=>(nomatch (hc.symm.trans hcc)),fun _=>⟨omg,⟨rfl,(lA _ _ _ omg omg _)⟩,?_⟩⟩
 refine(aX krf (fun (i:Nat)=>⟨[(6,ref 1 0),(14,au l),(15,int i64 (l.l.length:Int)),(16,.int .i64 i)],[.cells false 2 (nth [.int .i64 p.atoms,af p.rules]),.cells false 27 (ae p (fun _=>3) (.mp 2)),.map (esF p.rules.l)],g⟩) (fun (i:Nat)=>(i=0)) (fun (i:Nat)=>0) 0 (aT ⟨zT _,zT _,zT _,(zU krf),trivial⟩ rfl rfl) ?_ (fun i hi=>?_))
 ·rfl
 ·subst hi
  have hD:=fun (R:Res) (n0 n3:Nat) (c0 c3:Nat->AV) (g:R.σ)=>yn R p (fun _=>3) (esF p.rules.l) (l.l.getD 0 default) n0 n3 c0 c3 hl hr h2 g
  refine vcR [[1,1,1,0,1,0,0,1,1,0,0,1,1,1]] (lkL [(5,[6,14,15,16,17]),(6,[6,7,8,14,15,16]),(7,[6,7,14,15,16,25]),(8,[4,5])]) (lkL [(6,[(5,ROrc.val (Orc.obj (nth [int i64 (List.getD l.l 0 default).rule,fz (List.getD l.l 0 default).atoms.2 1 (List.length (List.getD l.l 0 default).atoms.l) fun (i x:Nat)=>ac (List.getD l.l 0 default).atoms.l i])))]),(7,[(2,ROrc.pcall (ifc 149 (aY (List.getD l.l 0 default)))),(3,ROrc.kcall (AV.bool false))])]) (fun Q=>(fun (u1:List AV)=>(fun (u2:List AObj)=>(fun (u3:Int)=>(fun (u4:Int)=>(decide (u4<u3)=true->(0<=u4/\u4<u3)/\2<=2/\2<=2/\(∀(c:Nat),c<2->nth u1 c=aj (nth [int i64 0,fz Fz.nil 0 0 fun x x_1=>any]) 0 2 (List.brecOn (motive:=fun (x:List AV)=>Nat->AV) u1 nth._f) c)/\2<=2/\(∀(hp:List AObj) (g:R.σ),true=true/\Does Tryd.prog R 68 [agg 2 (nth u1)] hp g (ret (ifc 149 (agg 2 (nth u1)))) hp g)/\(true=true/\Does Tryd.prog R 67 [ref 1 0,ifc 149 (agg 2 (nth u1))] u2 g (ret (AV.bool false)) u2 g)/\(true=true->Q AEx.ret (St.mk [(4,int i64 u4),(5,int i64 7)] u2 g))/\(true=false->WpC Tryd.prog R 28 0 23 [1,1,1,0,1,0,0,1,1,0,0,1,1,1] Q [Kont.blk 1,Kont.seq [1,1,1,0,1,0,0,1,1,1]] (St.mk [(6,ref 1 0),(7,int i64 u4),(14,au l),(15,int i64 u3),(16,int i64 u4),(25,AV.bool true)] u2 g)))/\(decide (u4<u3)=false->Q (AEx.exit 0) (St.mk [(6,ref 1 0),(14,au l),(15,int i64 u3),(16,int i64 u4),(17,AV.bool (decide (u4<u3)))] [cells false 2 (nth [int i64 p.atoms,af p.rules]),cells false 27 (ae p (fun (x:Nat)=>3) (AV.mp 2)),AObj.map (esF p.rules.l)] g))) ((↑0:Int))) ((↑(List.length l.l):Int))) ([cells false 2 (nth [int i64 p.atoms,af p.rules]),cells false 27 (ae p (fun (x:Nat)=>3) (AV.mp 2)),AObj.map (esF p.rules.l),cells false 2 (nth u1)])) ([int i64 (List.getD l.l 0 default).rule,fz (List.getD l.l 0 default).atoms.2 1 (List.length (List.getD l.l 0 default).atoms.l) fun i x=>ac (List.getD l.l 0 default).atoms.l i])) ⟨fun c1=>have c1:(↑0:Int)<(↑(List.length l.l):Int):=(of_decide_eq_true c1);⟨omg,omg,omg,(fun c hc=>match c,hc with|0,_=>krf|1,_=>krf ),omg,(fun _ _=>⟨rfl,(ym _ _ omg _ _)⟩),⟨rfl,(hD _ _ _ _ _ _)⟩,fun _=>?_,fun h=>(nomatch h)⟩,fun c1=>have c1:¬(↑0:Int)<(↑(List.length l.l):Int):=(of_decide_eq_false c1);?_⟩
  ·refine⟨_,z6 _,(aq (bl _ _ rfl trivial ⟨⟨trivial,trivial⟩,trivial⟩ rfl) (zT _))⟩
  ·exfalso;omega
def cp (v:List Int)(l:Lit):Bool:=if l.neg then v.getD l.atom.toNat 0==1 else v.getD l.atom.toNat 0==2
def bV (v:List Int)(l:Lit):Bool:=if l.neg then v.getD l.atom.toNat 0==2 else v.getD l.atom.toNat 0==1
def ew (v:List Int)(r:Rule):Bool:= !r.body.l.any (fun l=> !cp v l)
theorem rZ (R:Res)(v:List Int)(l:Lit)(h:0<=l.atom/\l.atom<v.length)(g:R.σ):Does Tryd.prog R 116 [.ow true 0 v.length 1,br l] [.cells false (v.length*1) (ac v)] g (.ret (.bool (cp v l))) [.cells false (v.length*1) (ac v)] g:=by
 have e:(if l.neg then v.getD l.atom.toNat 0==1 else v.getD l.atom.toNat 0==2)=cp v l:=rfl
 refine spW (nt:=19) (rs:=[.tmp 4]) (k0:=1) ?_
 cases hn:l.neg with
 |true=>
  have e:cp v l=(v.getD l.atom.toNat 0==1):=by unfold cp;rw[hn];rfl
  rw[e]
  refine vcR [[1,0,1,1]] (lkL [(0,[0,3]),(1,[0,3,6]),(2,[4])]) (fun _=>[]) (fun Q=>(fun (u1:List AObj)=>2<=2/\(l.neg=true->1<=2/\(0<=l.atom/\l.atom<(↑(List.length v):Int))/\Int.toNat l.atom+1<=List.length v*1/\Q AEx.ret (St.mk [(4,AV.bool (List.getD v (Int.toNat l.atom) 0==1))] u1 g))/\(l.neg=false->WpC Tryd.prog R 19 1 116 [1,0,1,1] Q [Kont.seq [1,1]] (St.mk [(0,ow true 0 (List.length v) 1),(3,ref 1 0),(6,AV.bool l.neg)] u1 g))) ([cells false (List.length v*1) fun a=>ac v a,cells false 2 (nth [int i64 l.atom,AV.bool l.neg])])) ⟨omg,fun _=>⟨omg,omg,omg,?_⟩,fun hcc=>(nomatch (hn.symm.trans hcc))⟩
  refine(aq (bg 1 _ _ rfl trivial omg trivial ⟨(fun _ _=>trivial),trivial⟩ krf rfl rfl) (zT _))
 |false=>
  have e:cp v l=(v.getD l.atom.toNat 0==2):=by unfold cp;rw[hn];rfl
  rw[e]
  refine vcR [[1,0,1,0]] (lkL [(0,[0,3]),(1,[0,3,6]),(3,[4])]) (fun _=>[]) (fun Q=>(fun (u1:List AObj)=>2<=2/\(l.neg=true->WpC Tryd.prog R 19 1 116 [1,0,1,0] Q [Kont.seq [1,1]] (St.mk [(0,ow true 0 (List.length v) 1),(3,ref 1 0),(6,AV.bool l.neg)] u1 g))/\(l.neg=false->1<=2/\(0<=l.atom/\l.atom<(↑(List.length v):Int))/\Int.toNat l.atom+1<=List.length v*1/\Q AEx.ret (St.mk [(4,AV.bool (List.getD v (Int.toNat l.atom) 0==2))] u1 g))) ([cells false (List.length v*1) fun a=>ac v a,cells false 2 (nth [int i64 l.atom,AV.bool l.neg])])) ⟨omg,fun hcc=>(nomatch (hn.symm.trans hcc)),fun _=>⟨omg,omg,omg,?_⟩⟩
  refine(aq (bg 1 _ _ rfl trivial omg trivial ⟨(fun _ _=>trivial),trivial⟩ krf rfl rfl) (zT _))
theorem r7 (R:Res)(v:List Int)(l:Lit)(h:0<=l.atom/\l.atom<v.length)(g:R.σ):Does Tryd.prog R 123 [.ow true 0 v.length 1,br l] [.cells false (v.length*1) (ac v)] g (.ret (.bool (bV v l))) [.cells false (v.length*1) (ac v)] g:=by
 refine spW (nt:=19) (rs:=[.tmp 4]) (k0:=1) ?_
 cases hn:l.neg with
 |true=>
  have e:bV v l=(v.getD l.atom.toNat 0==2):=by unfold bV;rw[hn];rfl
  rw[e]
  refine vcR [[1,0,1,1]] (lkL [(0,[0,3]),(1,[0,3,6]),(2,[4])]) (fun _=>[]) (fun Q=>(fun (u1:List AObj)=>2<=2/\(l.neg=true->1<=2/\(0<=l.atom/\l.atom<(↑(List.length v):Int))/\Int.toNat l.atom+1<=List.length v*1/\Q AEx.ret (St.mk [(4,AV.bool (List.getD v (Int.toNat l.atom) 0==2))] u1 g))/\(l.neg=false->WpC Tryd.prog R 19 1 123 [1,0,1,1] Q [Kont.seq [1,1]] (St.mk [(0,ow true 0 (List.length v) 1),(3,ref 1 0),(6,AV.bool l.neg)] u1 g))) ([cells false (List.length v*1) fun a=>ac v a,cells false 2 (nth [int i64 l.atom,AV.bool l.neg])])) ⟨omg,fun _=>⟨omg,omg,omg,?_⟩,fun hcc=>(nomatch (hn.symm.trans hcc))⟩
  refine(aq (bg 1 _ _ rfl trivial omg trivial ⟨(fun _ _=>trivial),trivial⟩ krf rfl rfl) (zT _))
 |false=>
  have e:bV v l=(v.getD l.atom.toNat 0==1):=by unfold bV;rw[hn];rfl
  rw[e]
  refine vcR [[1,0,1,0]] (lkL [(0,[0,3]),(1,[0,3,6]),(3,[4])]) (fun _=>[]) (fun Q=>(fun (u1:List AObj)=>2<=2/\(l.neg=true->WpC Tryd.prog R 19 1 123 [1,0,1,0] Q [Kont.seq [1,1]] (St.mk [(0,ow true 0 (List.length v) 1),(3,ref 1 0),(6,AV.bool l.neg)] u1 g))/\(l.neg=false->1<=2/\(0<=l.atom/\l.atom<(↑(List.length v):Int))/\Int.toNat l.atom+1<=List.length v*1/\Q AEx.ret (St.mk [(4,AV.bool (List.getD v (Int.toNat l.atom) 0==1))] u1 g))) ([cells false (List.length v*1) fun a=>ac v a,cells false 2 (nth [int i64 l.atom,AV.bool l.neg])])) ⟨omg,fun hcc=>(nomatch (hn.symm.trans hcc)),fun _=>⟨omg,omg,omg,?_⟩⟩
  refine(aq (bg 1 _ _ rfl trivial omg trivial ⟨(fun _ _=>trivial),trivial⟩ krf rfl rfl) (zT _))
def iC (n:Nat)(r:Rule):Prop:=r.body.l.length<1000000/\∀l,l∈r.body.l->0<=l.atom/\l.atom<n
theorem oi {U:Type}{l:List U}{f:U->Bool}{d:U}{i:Nat}(hi:i<l.length)(h:f (l.getD i d)=true):l.any f=true:=
 List.any_eq_true.2 ⟨_,(by rw[List.getD_eq_getElem?_getD,List.getElem?_eq_getElem hi];exact List.getElem_mem hi),h⟩
theorem ol {U:Type}{l:List U}{f:U->Bool}{d:U}{i:Nat}(hi:i<l.length)(h1:(l.take i).any f=false)(h2:f (l.getD i d)=false):(l.take (i+1)).any f=false:=by
 rw[List.take_add_one,List.any_append,h1,List.getElem?_eq_getElem hi]
 rw[List.getD_eq_getElem?_getD,List.getElem?_eq_getElem hi] at h2
 show(false||(List.any [l[i]] f))=false
 simpa using h2
theorem yq (R:Res)(v:List Int)(r:Rule)(h:iC v.length r)(g:R.σ):Does Tryd.prog R 97 [.ow true 0 v.length 1,bm r] [.cells false (v.length*1) (ac v)] g (.ret (.bool (ew v r))) [.cells false (v.length*1) (ac v)] g:=by
 have h1:=h.1
 have hb:=h.2
 refine spW (nt:=21) (rs:=[.tmp 4]) (k0:=1) ?_
 refine vcR [] (lkL [(0,[0,3]),(1,[0,3,5])]) (fun _=>[]) (fun (Q:AEx->St R.σ->Prop)=>WpC Tryd.prog R 21 1 97 [1,0,1,0] Q [Kont.blk 0,Kont.seq [1,1]] (St.mk [(0,ow true 0 (List.length v) 1),(3,ref 1 0),(5,int i64 0)] [cells false (List.length v*1) fun (a:Nat)=>ac v a,cells false 2 (nth [int i64 r.head,am r.body])] g)) (?_)
 refine(aX krf (fun (i:Nat)=>⟨[(0,ow true 0 (v.length) 1),(3,ref 1 0),(5,.int .i64 i)],[cells false (v.length*1) fun (a:Nat)=>ac v a,cells false 2 (nth [int i64 r.head,am r.body])],g⟩) (fun (i:Nat)=>(i<=r.body.l.length/\(r.body.l.take i).any (fun l=> !cp v l)=false)) (fun (i:Nat)=>(r.body.l.length-i)) 0 (aT ⟨zT _,zT _,(zU krf),trivial⟩ rfl rfl) ?_ (fun i hi=>?_))
 ·exact⟨Nat.zero_le _,rfl⟩
 ·obtain⟨h2,h3⟩:=hi
  rcases Nat.lt_or_ge i r.body.l.length with hlt|hge
  ·have hm:=hb _ (bQ _ default hlt)
   refine vcR [] (lkL [(2,[0,3,5,10]),(4,[0,3,5,20]),(5,[4]),(3,[0,3,5])]) (lkL [(4,[(6,ROrc.kcall (AV.bool (cp v (List.getD r.body.l i default))))])]) (fun Q=>(fun (u1:List AObj)=>(fun (u2:Int)=>(fun (u3:Int)=>(fun (u4:Lit)=>(fun (u5:AV)=>2<=2/\(decide (u3<u2)=true->2<=2/\(0<=u3/\u3<u2)/\2<=2/\(true=true/\Does Tryd.prog R 116 [u5,br u4] u1 g (ret (AV.bool (cp v u4))) u1 g)/\((!cp v u4)=true->Q AEx.ret (St.mk [(4,AV.bool false)] u1 g))/\((!cp v u4)=false->(-9223372036854775808<=u3+1/\u3+1<=9223372036854775807)/\Q AEx.normal (St.mk [(0,u5),(3,ref 1 0),(5,int i64 (u3+1))] u1 g)))/\(decide (u3<u2)=false->Q (AEx.exit 0) (St.mk [(0,u5),(3,ref 1 0),(5,int i64 u3),(10,AV.bool (decide (u3<u2)))] u1 g))) (ow true 0 (List.length v) 1)) (List.getD r.body.l i default)) ((↑i:Int))) ((↑(List.length r.body.l):Int))) ([cells false (List.length v*1) fun a=>ac v a,cells false 2 (nth [int i64 r.head,am r.body])])) ⟨omg,fun c1=>have c1:(↑i:Int)<(↑(List.length r.body.l):Int):=(of_decide_eq_true c1);⟨omg,omg,omg,⟨rfl,(doS [0] 2 (fun R g=>rZ R (v) (List.getD r.body.l i default) omg g))⟩,fun c2=>have c2:cp v (List.getD r.body.l i default)=false:=((Bool.not_eq_true' _).mp c2);?_,fun c2=>have c2:cp v (List.getD r.body.l i default)=true:=((Bool.not_eq_false' _).mp c2);⟨omg,?_⟩⟩,fun c1=>have c1:¬(↑i:Int)<(↑(List.length r.body.l):Int):=(of_decide_eq_false c1);?_⟩
   ·have hf:ew v r=false:=by
     unfold ew
     rw[oi (d:=default) hlt (by rw[c2];rfl)]
     rfl
    rw[hf]
    refine⟨_,z6 _,(aq (bg 1 _ _ rfl trivial omg trivial ⟨(fun _ _=>trivial),trivial⟩ krf rfl rfl) (zT _))⟩
   ·refine(aQ (i+1) (aT ⟨zT _,zT _,(zU krf),trivial⟩ rfl rfl) ?_ ?_)
    ·exact⟨omg,ol (d:=default) hlt h3 (by rw[c2];rfl)⟩
    ·omega
   ·exfalso;omega
  ·have hie:i=r.body.l.length:=by omega
   subst hie
   rw[List.take_length] at h3
   have ht:ew v r=true:=by
    unfold ew
    rw[h3]
    rfl
   rw[ht]
   refine vcR [] (lkL [(2,[0,3,5,10]),(4,[0,3,5,20]),(5,[4]),(3,[0,3,5])]) (lkL [(4,[(6,ROrc.kcall (AV.bool (cp v (List.getD r.body.l (List.length r.body.l) default))))])]) (fun Q=>(fun (u1:Int)=>(fun (u2:List AObj)=>(fun (u3:Lit)=>(fun (u4:AV)=>2<=2/\(decide (u1<u1)=true->2<=2/\(0<=u1/\u1<u1)/\2<=2/\(true=true/\Does Tryd.prog R 116 [u4,br u3] u2 g (ret (AV.bool (cp v u3))) u2 g)/\((!cp v u3)=true->Q AEx.ret (St.mk [(4,AV.bool false)] u2 g))/\((!cp v u3)=false->(-9223372036854775808<=u1+1/\u1+1<=9223372036854775807)/\Q AEx.normal (St.mk [(0,u4),(3,ref 1 0),(5,int i64 (u1+1))] u2 g)))/\(decide (u1<u1)=false->Q (AEx.exit 0) (St.mk [(0,u4),(3,ref 1 0),(5,int i64 u1),(10,AV.bool (decide (u1<u1)))] u2 g))) (ow true 0 (List.length v) 1)) (List.getD r.body.l (List.length r.body.l) default)) ([cells false (List.length v*1) fun a=>ac v a,cells false 2 (nth [int i64 r.head,am r.body])])) ((↑(List.length r.body.l):Int))) ⟨omg,fun c1=>have c1:(↑(List.length r.body.l):Int)<(↑(List.length r.body.l):Int):=(of_decide_eq_true c1);⟨omg,omg,omg,⟨rfl,(doS [0] 2 (fun R g=>rZ R (v) (List.getD r.body.l (List.length r.body.l) default) (by simp at * <;> omega) g))⟩,fun c2=>have c2:cp v (List.getD r.body.l (List.length r.body.l) default)=false:=((Bool.not_eq_true' _).mp c2);?_,fun c2=>have c2:cp v (List.getD r.body.l (List.length r.body.l) default)=true:=((Bool.not_eq_false' _).mp c2);⟨omg,?_⟩⟩,fun c1=>have c1:¬(↑(List.length r.body.l):Int)<(↑(List.length r.body.l):Int):=(of_decide_eq_false c1);?_⟩
   all_goals first|(exfalso;omega)|skip
   refine⟨_,z6 _,vcR [] (lkL [(6,[4])]) (fun _=>[]) (fun (Q:AEx->St R.σ->Prop)=>Q AEx.ret (St.mk [(4,AV.bool true)] [cells false (List.length v*1) fun (a:Nat)=>ac v a,cells false 2 (nth [int i64 r.head,am r.body])] g)) (?_)⟩
   refine(aq (bg 1 _ _ rfl trivial omg trivial ⟨(fun _ _=>trivial),trivial⟩ krf rfl rfl) (zT _))
def bF (l:List Bool):Nat->AV:=fun j=>.bool (l.getD j false)
theorem qz {k:Nat}(l:List Bool)(j:Nat):Below k (bF l j):=trivial
theorem qI {f:Nat->Nat}(h:True){l:List Bool}{j:Nat}:aF f (bF l j)=bF l j:=rfl
def iE (v:List Int)(s:List Bool)(l:Lit):Bool:=bV v l||(!l.neg&&s.getD l.atom.toNat false)
def cq (v:List Int)(s:List Bool)(r:Rule):Bool:= !r.body.l.any (iE v s)
theorem r8 (R:Res)(v:List Int)(s:List Bool)(r:Rule)(hvs:s.length=v.length)(h:iC v.length r)(g:R.σ):Does Tryd.prog R 117 [.ow true 0 v.length 1,bm r,.ow true 1 s.length 1] [.cells false (v.length*1) (ac v),.cells false (s.length*1) (bF s)] g (.ret (.bool (cq v s r))) [.cells false (v.length*1) (ac v),.cells false (s.length*1) (bF s)] g:=by
 have h1:=h.1
 have hb:=h.2
 refine spW (nt:=36) (rs:=[.tmp 6]) (k0:=2) ?_
 refine vcR [] (lkL [(0,[0,2,4]),(1,[0,2,4,7])]) (fun _=>[]) (fun (Q:AEx->St R.σ->Prop)=>WpC Tryd.prog R 36 2 117 [1,0,1,0] Q [Kont.blk 0,Kont.seq [1,1]] (St.mk [(0,ow true 0 (List.length v) 1),(2,ow true 1 (List.length s) 1),(4,ref 2 0),(7,int i64 0)] [cells false (List.length v*1) fun (a:Nat)=>ac v a,cells false (List.length s*1) fun (a:Nat)=>bF s a,cells false 2 (nth [int i64 r.head,am r.body])] g)) (?_)
 refine(aX krf (fun (i:Nat)=>⟨[(0,ow true 0 (v.length) 1),(2,ow true 1 (s.length) 1),(4,ref 2 0),(7,.int .i64 i)],[cells false (v.length*1) fun (a:Nat)=>ac v a,cells false (s.length*1) fun (a:Nat)=>bF s a,cells false 2 (nth [int i64 r.head,am r.body])],g⟩) (fun (i:Nat)=>(i<=r.body.l.length/\(r.body.l.take i).any (iE v s)=false)) (fun (i:Nat)=>(r.body.l.length-i)) 0 (aT ⟨zT _,zT _,zT _,(zU krf),trivial⟩ rfl rfl) ?_ (fun i hi=>?_))
 ·exact⟨Nat.zero_le _,rfl⟩
 ·obtain⟨h2,h3⟩:=hi
  rcases Nat.lt_or_ge i r.body.l.length with hlt|hge
  ·have hm:=hb _ (bQ _ default hlt)
   refine vcR [] (lkL [(2,[0,2,4,7,13]),(4,[0,2,4,7,8]),(5,[0,2,4,7,35]),(6,[6]),(3,[0,2,4,7])]) (lkL [(4,[(6,ROrc.val (Orc.obj (nth [int i64 (List.getD r.body.l i default).atom,AV.bool (List.getD r.body.l i default).neg])))]),(5,[(2,ROrc.kcall (AV.bool (bV v (List.getD r.body.l i default))))])]) (fun Q=>(fun (u1:List AObj)=>(fun (u2:Lit)=>(fun (u3:Int)=>(fun (u4:Int)=>(fun (u5:Bool)=>(fun (u6:AV)=>2<=2/\(decide (u4<u3)=true->2<=2/\(0<=u4/\u4<u3)/\2<=2/\2<=2/\(∀(c:Nat),c<2->nth [int i64 u2.atom,AV.bool u2.neg] c=aj (nth [int i64 0,AV.bool false]) 0 2 (List.brecOn (motive:=fun (x:List AV)=>Nat->AV) [int i64 u2.atom,AV.bool u2.neg] nth._f) c)/\2<=2/\(true=true/\Does Tryd.prog R 123 [u6,br u2] u1 g (ret (AV.bool (bV v u2))) u1 g)/\((!bV v u2)=true->2<=2)/\((!bV v u2 && !u2.neg)=true->1<=2)/\((!bV v u2 && !u2.neg)=true->0<=u2.atom/\u2.atom<(↑(List.length s):Int))/\((!bV v u2 && !u2.neg)=true->Int.toNat u2.atom+1<=List.length s*1)/\(u5=true->Q AEx.ret (St.mk [(6,AV.bool false)] u1 g))/\(u5=false->(-9223372036854775808<=u4+1/\u4+1<=9223372036854775807)/\Q AEx.normal (St.mk [(0,u6),(2,ow true 1 (List.length s) 1),(4,ref 2 0),(7,int i64 (u4+1))] u1 g)))/\(decide (u4<u3)=false->Q (AEx.exit 0) (St.mk [(0,u6),(2,ow true 1 (List.length s) 1),(4,ref 2 0),(7,int i64 u4),(13,AV.bool (decide (u4<u3)))] [cells false (List.length v*1) fun a=>ac v a,cells false (List.length s*1) fun a=>bF s a,cells false 2 (nth [int i64 r.head,am r.body])] g))) (ow true 0 (List.length v) 1)) (bif bV v u2 then true else bif !u2.neg then List.getD s (Int.toNat u2.atom) false else false)) ((↑i:Int))) ((↑(List.length r.body.l):Int))) (List.getD r.body.l i default)) ([cells false (List.length v*1) fun a=>ac v a,cells false (List.length s*1) fun a=>bF s a,cells false 2 (nth [int i64 r.head,am r.body]),cells false 2 (nth [int i64 (List.getD r.body.l i default).atom,AV.bool (List.getD r.body.l i default).neg])])) ⟨omg,fun c1=>have c1:(↑i:Int)<(↑(List.length r.body.l):Int):=(of_decide_eq_true c1);⟨omg,omg,omg,omg,(fun c hc=>match c,hc with|0,_=>krf|1,_=>krf ),omg,⟨rfl,(doS [0] 4 (fun R g=>r7 R (v) (List.getD r.body.l i default) omg g))⟩,omg,omg,omg,omg,fun c2=>have c2:bV v (List.getD r.body.l i default)=true∨(List.getD r.body.l i default).neg=false/\List.getD s (Int.toNat (List.getD r.body.l i default).atom) false=true:=((dR c2).imp (fun h=>h) (fun h=>⟨((Bool.not_eq_true' _).mp (cw h).1),(cw h).2⟩));?_,fun c2=>have c2:bV v (List.getD r.body.l i default)=false/\((List.getD r.body.l i default).neg=true∨List.getD s (Int.toNat (List.getD r.body.l i default).atom) false=false):=⟨(bE c2).1,((eY (bE c2).2).imp (fun h=>((Bool.not_eq_false' _).mp h)) (fun h=>h))⟩;⟨omg,?_⟩⟩,fun c1=>have c1:¬(↑i:Int)<(↑(List.length r.body.l):Int):=(of_decide_eq_false c1);?_⟩
   ·have hf:cq v s r=false:=by
     unfold cq
     rw[oi (d:=default) hlt (by unfold iE;simpa using c2)]
     rfl
    rw[hf]
    refine⟨_,z6 _,(aq (bg 2 _ _ rfl trivial omg trivial ⟨(fun _ _=>trivial),(fun _ _=>trivial),trivial⟩ krf rfl rfl) (zT _))⟩
   ·refine(aQ (i+1) (toS [0,1,2] 4 (hob:=⟨?_,?_,⟨rfl,Nat.le_refl _,fun j hj=>match j,hj with|0,_=>(zT _)|1,_=>(zT _) ⟩,trivial⟩)) ?_ ?_)
    ·exact⟨rfl,Nat.le_refl _,fun j _=>zU rfl⟩
    ·exact⟨rfl,Nat.le_refl _,fun j _=>zU rfl⟩
    ·exact⟨omg,ol (d:=default) hlt h3 (by
      unfold iE
      rw[c2.1]
      rcases c2.2 with b|b <;> rw[b] <;> simp)⟩
    ·omega
   ·exfalso;omega
  ·have hie:i=r.body.l.length:=by omega
   subst hie
   rw[List.take_length] at h3
   have ht:cq v s r=true:=by
    unfold cq
    rw[h3]
    rfl
   rw[ht]
   refine vcR [] (lkL [(2,[0,2,4,7,13]),(4,[0,2,4,7,8]),(5,[0,2,4,7,35]),(6,[6]),(3,[0,2,4,7])]) (lkL [(4,[(6,ROrc.val (Orc.obj (nth [int i64 (List.getD r.body.l (List.length r.body.l) default).atom,AV.bool (List.getD r.body.l (List.length r.body.l) default).neg])))]),(5,[(2,ROrc.kcall (AV.bool (bV v (List.getD r.body.l (List.length r.body.l) default))))])]) (fun Q=>(fun (u1:Lit)=>(fun (u2:List AObj)=>(fun (u3:Int)=>(fun (u4:Bool)=>(fun (u5:AV)=>2<=2/\(decide (u3<u3)=true->2<=2/\(0<=u3/\u3<u3)/\2<=2/\2<=2/\(∀(c:Nat),c<2->nth [int i64 u1.atom,AV.bool u1.neg] c=aj (nth [int i64 0,AV.bool false]) 0 2 (List.brecOn (motive:=fun (x:List AV)=>Nat->AV) [int i64 u1.atom,AV.bool u1.neg] nth._f) c)/\2<=2/\(true=true/\Does Tryd.prog R 123 [u5,br u1] u2 g (ret (AV.bool (bV v u1))) u2 g)/\((!bV v u1)=true->2<=2)/\((!bV v u1 && !u1.neg)=true->1<=2)/\((!bV v u1 && !u1.neg)=true->0<=u1.atom/\u1.atom<(↑(List.length s):Int))/\((!bV v u1 && !u1.neg)=true->Int.toNat u1.atom+1<=List.length s*1)/\(u4=true->Q AEx.ret (St.mk [(6,AV.bool false)] u2 g))/\(u4=false->(-9223372036854775808<=u3+1/\u3+1<=9223372036854775807)/\Q AEx.normal (St.mk [(0,u5),(2,ow true 1 (List.length s) 1),(4,ref 2 0),(7,int i64 (u3+1))] u2 g)))/\(decide (u3<u3)=false->Q (AEx.exit 0) (St.mk [(0,u5),(2,ow true 1 (List.length s) 1),(4,ref 2 0),(7,int i64 u3),(13,AV.bool (decide (u3<u3)))] [cells false (List.length v*1) fun a=>ac v a,cells false (List.length s*1) fun a=>bF s a,cells false 2 (nth [int i64 r.head,am r.body])] g))) (ow true 0 (List.length v) 1)) (bif bV v u1 then true else bif !u1.neg then List.getD s (Int.toNat u1.atom) false else false)) ((↑(List.length r.body.l):Int))) ([cells false (List.length v*1) fun a=>ac v a,cells false (List.length s*1) fun a=>bF s a,cells false 2 (nth [int i64 r.head,am r.body]),cells false 2 (nth [int i64 u1.atom,AV.bool u1.neg])])) (List.getD r.body.l (List.length r.body.l) default)) ⟨omg,fun c1=>have c1:(↑(List.length r.body.l):Int)<(↑(List.length r.body.l):Int):=(of_decide_eq_true c1);⟨omg,omg,omg,omg,(fun c hc=>match c,hc with|0,_=>krf|1,_=>krf ),omg,⟨rfl,(doS [0] 4 (fun R g=>r7 R (v) (List.getD r.body.l (List.length r.body.l) default) (by simp at * <;> omega) g))⟩,omg,omg,omg,omg,fun c2=>have c2:bV v (List.getD r.body.l (List.length r.body.l) default)=true∨(List.getD r.body.l (List.length r.body.l) default).neg=false/\List.getD s (Int.toNat (List.getD r.body.l (List.length r.body.l) default).atom) false=true:=((dR c2).imp (fun h=>h) (fun h=>⟨((Bool.not_eq_true' _).mp (cw h).1),(cw h).2⟩));?_,fun c2=>have c2:bV v (List.getD r.body.l (List.length r.body.l) default)=false/\((List.getD r.body.l (List.length r.body.l) default).neg=true∨List.getD s (Int.toNat (List.getD r.body.l (List.length r.body.l) default).atom) false=false):=⟨(bE c2).1,((eY (bE c2).2).imp (fun h=>((Bool.not_eq_false' _).mp h)) (fun h=>h))⟩;⟨omg,?_⟩⟩,fun c1=>have c1:¬(↑(List.length r.body.l):Int)<(↑(List.length r.body.l):Int):=(of_decide_eq_false c1);?_⟩
   all_goals first|(exfalso;omega)|skip
   refine⟨_,z6 _,vcR [] (lkL [(7,[6])]) (fun _=>[]) (fun (Q:AEx->St R.σ->Prop)=>Q AEx.ret (St.mk [(6,AV.bool true)] [cells false (List.length v*1) fun (a:Nat)=>ac v a,cells false (List.length s*1) fun (a:Nat)=>bF s a,cells false 2 (nth [int i64 r.head,am r.body])] g)) (?_)⟩
   refine(aq (bg 2 _ _ rfl trivial omg trivial ⟨(fun _ _=>trivial),(fun _ _=>trivial),trivial⟩ krf rfl rfl) (zT _))
def ge (n:Nat)(r:Rule):Prop:=iC n r/\0<=r.head/\r.head<n
def gf (v:List Int)(s:List Bool)(r:Rule):Bool:=s.getD r.head.toNat false&&cq v s r
def ey (v:List Int)(s:List Bool)(p:Prg):Bool:= !p.rules.l.any (gf v s)
theorem yr (R:Res)(v:List Int)(s:List Bool)(p:Prg)(hvs:s.length=v.length)(hl:p.rules.l.length<1000000)(hr:∀r,r∈p.rules.l->ge v.length r)(g:R.σ):Does Tryd.prog R 101 [.ow true 0 v.length 1,av p,.ow true 1 s.length 1] [.cells false (v.length*1) (ac v),.cells false (s.length*1) (bF s)] g (.ret (.bool (ey v s p))) [.cells false (v.length*1) (ac v),.cells false (s.length*1) (bF s)] g:=by
 refine spW (nt:=34) (rs:=[.tmp 6]) (k0:=2) ?_
 refine vcR [] (lkL [(0,[0,2,4]),(1,[0,2,4,7])]) (fun _=>[]) (fun (Q:AEx->St R.σ->Prop)=>WpC Tryd.prog R 34 2 101 [1,0,1,0] Q [Kont.blk 0,Kont.seq [1,1]] (St.mk [(0,ow true 0 (List.length v) 1),(2,ow true 1 (List.length s) 1),(4,ref 2 0),(7,int i64 0)] [cells false (List.length v*1) fun (a:Nat)=>ac v a,cells false (List.length s*1) fun (a:Nat)=>bF s a,cells false 2 (nth [int i64 p.atoms,af p.rules])] g)) (?_)
 refine(aX krf (fun (i:Nat)=>⟨[(0,ow true 0 (v.length) 1),(2,ow true 1 (s.length) 1),(4,ref 2 0),(7,.int .i64 i)],[cells false (v.length*1) fun (a:Nat)=>ac v a,cells false (s.length*1) fun (a:Nat)=>bF s a,cells false 2 (nth [int i64 p.atoms,af p.rules])],g⟩) (fun (i:Nat)=>(i<=p.rules.l.length/\(p.rules.l.take i).any (gf v s)=false)) (fun (i:Nat)=>(p.rules.l.length-i)) 0 (aT ⟨zT _,zT _,zT _,(zU krf),trivial⟩ rfl rfl) ?_ (fun i hi=>?_))
 ·exact⟨Nat.zero_le _,rfl⟩
 ·obtain⟨h2,h3⟩:=hi
  rcases Nat.lt_or_ge i p.rules.l.length with hlt|hge
  ·have hm:=hr _ (ek hlt)
   have hm1:=hm.1
   have hm2:=hm.2
   refine vcR [] (lkL [(2,[0,2,4,7,12]),(4,[0,2,4,7,33]),(5,[6]),(3,[0,2,4,7])]) (lkL [(4,[(17,ROrc.kcall (AV.bool (cq v s (List.getD p.rules.l i default))))])]) (fun Q=>(fun (u1:List AObj)=>(fun (u2:Rule)=>(fun (u3:Int)=>(fun (u4:Bool)=>(fun (u5:Int)=>(fun (u6:AV)=>(fun (u7:AV)=>2<=2/\(decide (u5<u3)=true->2<=2/\(0<=u5/\u5<u3)/\1<=2/\(0<=u2.head/\u2.head<(↑(List.length s):Int))/\Int.toNat u2.head+1<=List.length s*1/\(u4=true->2<=2)/\(u4=true->0<=u5/\u5<u3)/\(u4=true->2<=2)/\(u4=true->true=true/\Does Tryd.prog R 117 [u6,bm u2,u7] u1 g (ret (AV.bool (cq v s u2))) u1 g)/\((bif u4 then cq v s u2 else false)=true->Q AEx.ret (St.mk [(6,AV.bool false)] u1 g))/\((bif u4 then cq v s u2 else false)=false->(-9223372036854775808<=u5+1/\u5+1<=9223372036854775807)/\Q AEx.normal (St.mk [(0,u6),(2,u7),(4,ref 2 0),(7,int i64 (u5+1))] u1 g)))/\(decide (u5<u3)=false->Q (AEx.exit 0) (St.mk [(0,u6),(2,u7),(4,ref 2 0),(7,int i64 u5),(12,AV.bool (decide (u5<u3)))] u1 g))) (ow true 1 (List.length s) 1)) (ow true 0 (List.length v) 1)) ((↑i:Int))) (List.getD s (Int.toNat u2.head) false)) ((↑(List.length p.rules.l):Int))) (List.getD p.rules.l i default)) ([cells false (List.length v*1) fun a=>ac v a,cells false (List.length s*1) fun a=>bF s a,cells false 2 (nth [int i64 p.atoms,af p.rules])])) ⟨omg,fun c1=>have c1:(↑i:Int)<(↑(List.length p.rules.l):Int):=(of_decide_eq_true c1);⟨omg,omg,omg,omg,omg,omg,omg,omg,(fun hgd=>⟨rfl,(doS [0,1] 3 (fun R g=>r8 R (v) (s) (List.getD p.rules.l i default) omg omg g))⟩),fun c2=>have c2:List.getD s (Int.toNat (List.getD p.rules.l i default).head) false=true/\cq v s (List.getD p.rules.l i default)=true:=⟨(cw c2).1,(cw c2).2⟩;?_,fun c2=>have c2:List.getD s (Int.toNat (List.getD p.rules.l i default).head) false=false∨cq v s (List.getD p.rules.l i default)=false:=((eY c2).imp (fun h=>h) (fun h=>h));⟨omg,?_⟩⟩,fun c1=>have c1:¬(↑i:Int)<(↑(List.length p.rules.l):Int):=(of_decide_eq_false c1);?_⟩
   ·have hf:ey v s p=false:=by
     unfold ey
     rw[oi (d:=default) hlt (by unfold gf;simpa using c2)]
     rfl
    rw[hf]
    refine⟨_,z6 _,(aq (bg 2 _ _ rfl trivial omg trivial ⟨(fun _ _=>trivial),(fun _ _=>trivial),trivial⟩ krf rfl rfl) (zT _))⟩
   ·refine(aQ (i+1) (aT ⟨zT _,zT _,zT _,(zU krf),trivial⟩ rfl rfl) ?_ ?_)
    ·exact⟨omg,ol (d:=default) hlt h3 (by unfold gf;rcases c2 with b|b <;> rw[b] <;> simp)⟩
    ·omega
   ·exfalso;omega
  ·have hie:i=p.rules.l.length:=by omega
   subst hie
   rw[List.take_length] at h3
   have ht:ey v s p=true:=by
    unfold ey
    rw[h3]
    rfl
   rw[ht]
   refine vcR [] (lkL [(2,[0,2,4,7,12]),(4,[0,2,4,7,33]),(5,[6]),(3,[0,2,4,7])]) (lkL [(4,[(17,ROrc.kcall (AV.bool (cq v s (List.getD p.rules.l (List.length p.rules.l) default))))])]) (fun Q=>(fun (u1:List AObj)=>(fun (u2:Int)=>(fun (u3:Rule)=>(fun (u4:Bool)=>(fun (u5:AV)=>(fun (u6:AV)=>2<=2/\(decide (u2<u2)=true->2<=2/\(0<=u2/\u2<u2)/\1<=2/\(0<=u3.head/\u3.head<(↑(List.length s):Int))/\Int.toNat u3.head+1<=List.length s*1/\(u4=true->2<=2)/\(u4=true->0<=u2/\u2<u2)/\(u4=true->2<=2)/\(u4=true->true=true/\Does Tryd.prog R 117 [u5,bm u3,u6] u1 g (ret (AV.bool (cq v s u3))) u1 g)/\((bif u4 then cq v s u3 else false)=true->Q AEx.ret (St.mk [(6,AV.bool false)] u1 g))/\((bif u4 then cq v s u3 else false)=false->(-9223372036854775808<=u2+1/\u2+1<=9223372036854775807)/\Q AEx.normal (St.mk [(0,u5),(2,u6),(4,ref 2 0),(7,int i64 (u2+1))] u1 g)))/\(decide (u2<u2)=false->Q (AEx.exit 0) (St.mk [(0,u5),(2,u6),(4,ref 2 0),(7,int i64 u2),(12,AV.bool (decide (u2<u2)))] u1 g))) (ow true 1 (List.length s) 1)) (ow true 0 (List.length v) 1)) (List.getD s (Int.toNat u3.head) false)) (List.getD p.rules.l (List.length p.rules.l) default)) ((↑(List.length p.rules.l):Int))) ([cells false (List.length v*1) fun a=>ac v a,cells false (List.length s*1) fun a=>bF s a,cells false 2 (nth [int i64 p.atoms,af p.rules])])) ⟨omg,fun c1=>have c1:(↑(List.length p.rules.l):Int)<(↑(List.length p.rules.l):Int):=(of_decide_eq_true c1);⟨omg,omg,omg,omg,omg,omg,omg,omg,(fun hgd=>⟨rfl,(doS [0,1] 3 (fun R g=>r8 R (v) (s) (List.getD p.rules.l (List.length p.rules.l) default) omg (by simp at * <;> omega) g))⟩),fun c2=>have c2:List.getD s (Int.toNat (List.getD p.rules.l (List.length p.rules.l) default).head) false=true/\cq v s (List.getD p.rules.l (List.length p.rules.l) default)=true:=⟨(cw c2).1,(cw c2).2⟩;?_,fun c2=>have c2:List.getD s (Int.toNat (List.getD p.rules.l (List.length p.rules.l) default).head) false=false∨cq v s (List.getD p.rules.l (List.length p.rules.l) default)=false:=((eY c2).imp (fun h=>h) (fun h=>h));⟨omg,?_⟩⟩,fun c1=>have c1:¬(↑(List.length p.rules.l):Int)<(↑(List.length p.rules.l):Int):=(of_decide_eq_false c1);?_⟩
   all_goals first|(exfalso;omega)|skip
   refine⟨_,z6 _,vcR [] (lkL [(6,[6])]) (fun _=>[]) (fun (Q:AEx->St R.σ->Prop)=>Q AEx.ret (St.mk [(6,AV.bool true)] [cells false (List.length v*1) fun (a:Nat)=>ac v a,cells false (List.length s*1) fun (a:Nat)=>bF s a,cells false 2 (nth [int i64 p.atoms,af p.rules])] g)) (?_)⟩
   refine(aq (bg 2 _ _ rfl trivial omg trivial ⟨(fun _ _=>trivial),(fun _ _=>trivial),trivial⟩ krf rfl rfl) (zT _))
def yu (s:List Bool)(n:Nat):List Int:=((List.range n).filter fun k=>s.getD k false).map fun (k:Nat)=>(k:Int)
def opC (n i:Nat):List Int:=List.replicate i 3++List.replicate (n-i) 0
theorem om {n i j:Nat}:(opC n i).getD j 0=if j<i then 3 else 0:=by
 unfold opC
 rw[List.getD_eq_getElem?_getD,List.getElem?_append]
 simp only[List.length_replicate]
 split
 ·rw[List.getElem?_replicate_of_lt (by assumption)];rfl
 ·rw[List.getElem?_replicate]
  split <;> rfl
theorem yv {n i c:Nat}:aj (ac (opC n i)) i 1 (fun _=>.int .i64 3) c=ac (opC n (i+1)) c:=by
 rw[cS]
 unfold ac
 rw[om,om]
 split
 ·rw[if_pos omg]
 ·rename_i h
  congr 1
  by_cases hc:c<i
  ·rw[if_pos hc,if_pos omg]
  ·rw[if_neg hc,if_neg omg]
theorem yw (R:Res)(n:Nat)(hn:0<n/\n<=1000)(g:R.σ):Does Tryd.prog R 63 [.int .i64 n] [] g (.ret (.ow true 0 n 1)) [.cells false (n*1) (ac (List.replicate n 3))] g:=by
 have hroom:aB=140737488355328:=rfl
 have hrep:List.replicate n (3:Int)=opC n n:=by unfold opC;rw[Nat.sub_self];exact(List.append_nil _).symm
 rw[hrep]
 refine spW (nt:=16) (rs:=[.tmp 2]) (k0:=0) ?_
 refine vcR [] (lkL [(0,[0]),(1,[0,3]),(2,[0,3,4])]) (fun _=>[]) (fun Q=>0<=(↑n:Int)/\(↑n:Int)<=(↑n:Int)/\(↑n:Int)<=140737488355328/\n*8<=aB/\WpC Tryd.prog R 16 0 63 [1,1,0,1,0] Q [Kont.blk 0,Kont.seq [1,1,1]] (St.mk [(0,int i64 (↑n:Int)),(3,sl 0 0 n n true 1),(4,int i64 0)] [cells false (n*1) fun j=>int i64 0] g)) ⟨omg,omg,omg,omg,?_⟩
 refine(aX krf (fun (i:Nat)=>⟨[(0,int i64 (n:Int)),(3,sl 0 0 n n true 1),(4,.int .i64 i)],[.cells false (n*1) (ac (opC n i))],g⟩) (fun (i:Nat)=>(i<=n)) (fun (i:Nat)=>(n-i)) 0 (toL (h1:=⟨zT _,zT _,(zU krf),trivial⟩) (h2:=⟨?_,trivial⟩)) ?_ (fun i hi=>?_))
 ·exact⟨rfl,Nat.le_refl _,fun j _=>zU (by show AV.int .i64 0=AV.int .i64 _;rw[om,if_neg omg])⟩
 ·omega
 ·rcases Nat.lt_or_ge i n with hlt|hge
  ·refine vcR [] (lkL [(3,[0,3,4,9]),(5,[0,3,4]),(4,[0,3,4])]) (fun _=>[]) (fun Q=>(fun (u1:Int)=>(fun (u2:Int)=>(decide (u1<u2)=true->(0<=u1/\u1<u2)/\i+1<=n*1/\(-9223372036854775808<=u1+1/\u1+1<=9223372036854775807)/\Q AEx.normal (St.mk [(0,int i64 u2),(3,sl 0 0 n n true 1),(4,int i64 (u1+1))] [cells false (n*1) (aj (ac (opC n i)) i 1 fun x=>int i64 3)] g))/\(decide (u1<u2)=false->Q (AEx.exit 0) (St.mk [(0,int i64 u2),(3,sl 0 0 n n true 1),(4,int i64 u1),(9,AV.bool (decide (u1<u2)))] [cells false (n*1) fun a=>ac (opC n i) a] g))) ((↑n:Int))) ((↑i:Int))) ⟨fun c1=>have c1:(↑i:Int)<(↑n:Int):=(of_decide_eq_true c1);⟨omg,omg,omg,?_⟩,fun c1=>have c1:¬(↑i:Int)<(↑n:Int):=(of_decide_eq_false c1);?_⟩
   ·refine(aQ (i+1) (toL (h1:=⟨zT _,zT _,(zU krf),trivial⟩) (h2:=⟨?_,trivial⟩)) ?_ ?_)
    ·exact⟨rfl,Nat.le_refl _,fun j _=>zU (yv.trans (by rfl))⟩
    ·omega
    ·omega
   ·exfalso;omega
  ·have hie:i=n:=by omega
   subst hie
   refine vcR [] (lkL [(3,[0,3,4,9]),(5,[0,3,4]),(4,[0,3,4])]) (fun _=>[]) (fun Q=>(fun (u1:Int)=>(decide (u1<u1)=true->(0<=u1/\u1<u1)/\i+1<=i*1/\(-9223372036854775808<=u1+1/\u1+1<=9223372036854775807)/\Q AEx.normal (St.mk [(0,int i64 u1),(3,sl 0 0 i i true 1),(4,int i64 (u1+1))] [cells false (i*1) (aj (ac (opC i i)) i 1 fun x=>int i64 3)] g))/\(decide (u1<u1)=false->Q (AEx.exit 0) (St.mk [(0,int i64 u1),(3,sl 0 0 i i true 1),(4,int i64 u1),(9,AV.bool (decide (u1<u1)))] [cells false (i*1) fun a=>ac (opC i i) a] g))) ((↑i:Int))) ⟨fun c1=>have c1:(↑i:Int)<(↑i:Int):=(of_decide_eq_true c1);⟨omg,omg,omg,?_⟩,fun c1=>have c1:¬(↑i:Int)<(↑i:Int):=(of_decide_eq_false c1);?_⟩
   all_goals first|(exfalso;omega)|skip
   refine⟨_,z6 _,vcR [] (lkL [(6,[2])]) (fun _=>[]) (fun (Q:AEx->St R.σ->Prop)=>Q AEx.ret (St.mk [(2,sl 0 0 i i true 1)] [cells false (i*1) fun (a:Nat)=>ac (opC i i) a] g)) (?_)⟩
   show bq Tryd.prog R 0 _ _ _ _ .ret _
   refine eD (.sl 0 0 i i true 1) _ rfl trivial (toL (h1:=⟨z3 omg,trivial⟩) (h2:=ns _))
def dA (s:Step):Int:=if s.rule = -1 then 1 else 2
def dL (x:Int)(v:List Int)(l:List Int):List Int:=l.foldl (fun v a=>v.set a.toNat x) v
def ez (v:List Int)(s:Step):List Int:=dL (dA s) v s.atoms.l
theorem lI {x:Int}:∀{l v:List Int},(dL x v l).length=v.length
 |[],_=>rfl
 |a::l,v=>by
  show(dL x (v.set a.toNat x) l).length=_
  rw[lI,List.length_set]
theorem yx {x:Int}{v l:List Int}{i:Nat}(h:i<l.length):dL x v (l.take (i+1))=(dL x v (l.take i)).set (l.getD i 0).toNat x:=by
 unfold dL
 rw[List.take_add_one,List.foldl_append,List.getElem?_eq_getElem h,List.getD_eq_getElem?_getD,List.getElem?_eq_getElem h]
 rfl
theorem r9 {v:List Int}{a:Nat}{x:Int}(ha:a<v.length){c:Nat}:aj (ac v) a 1 (fun _=>.int .i64 x) c=ac (v.set a x) c:=by
 rw[cS]
 unfold ac
 rw[List.getD_eq_getElem?_getD,List.getD_eq_getElem?_getD,List.getElem?_set]
 by_cases h:a=c
 ·subst h
  rw[if_pos omg,if_pos rfl,if_pos ha]
  rfl
 ·rw[if_neg omg,if_neg h]
theorem yy {v:List Int}{a:Nat}{x y:Int}(ha:a<v.length){c:Nat}:aj (aj (ac v) a 1 (fun _=>.int .i64 y)) a 1 (fun _=>.int .i64 x) c=ac (v.set a x) c:=by
 rw[<-r9 ha,cS,cS,cS]
 split
 ·rfl
 ·rfl
theorem sa (R:Res)(v:List Int)(s:Step)(hv:0<v.length/\v.length<1000000)(hl:s.atoms.l.length<1000000)(ha:∀i,i<s.atoms.l.length->0<=s.atoms.l.getD i 0/\s.atoms.l.getD i 0<v.length)(g:R.σ):Does Tryd.prog R 65 [.ow true 0 v.length 1,aY s] [.cells false (v.length*1) (ac v)] g (.ret (.ow true 1 v.length 1)) [.cells false (v.length*1) (ac v),.cells false (v.length*1) (ac (ez v s))] g:=by
 have hroom:aB=140737488355328:=rfl
 refine spW (nt:=33) (rs:=[.tmp 4]) (k0:=1) ?_
 refine vcR [] (lkL [(0,[0,3]),(1,[0,3]),(2,[0,3,5])]) (lkL [(1,[(1,ROrc.val (Orc.obj (ac v)))])]) (fun Q=>(fun (u1:Nat)=>0<1/\u1*8<=aB/\u1<=aB/\List.length v*1<=List.length v*1/\(∀(c:Nat),c<u1*1->ac v c=ac v ((c-0)/1*1+(c-0)%1))/\WpC Tryd.prog R 33 1 65 [1,1,0,1,0] Q [Kont.blk 0,Kont.seq [1,1,1]] (St.mk [(0,ow true 2 u1 1),(3,ref 1 0),(5,int i64 0)] [cells false (List.length v*1) fun a=>ac v a,cells false 2 (nth [int i64 s.rule,fz s.atoms.2 1 (List.length s.atoms.l) fun i x=>ac s.atoms.l i]),cells false (u1*1) fun a=>ac v a] g)) (0+List.length v)) ⟨omg,omg,omg,omg,?_,?_⟩
 ·intro c hc
  show _=ac v ((c-0)/1*1+(c-0)%1)
  rw[show(c-0)/1*1+(c-0)%1=c by omega]
 rw[Nat.zero_add]
 refine(aX krf (fun (i:Nat)=>⟨[(0,ow true 2 (v.length) 1),(3,ref 1 0),(5,.int .i64 i)],[.cells false (v.length*1) (ac v),.cells false 2 (nth [.int .i64 s.rule,ah s.atoms]),.cells false (v.length*1) (ac (dL (dA s) v (s.atoms.l.take i)))],g⟩) (fun (i:Nat)=>(i<=s.atoms.l.length)) (fun (i:Nat)=>(s.atoms.l.length-i)) 0 (toL (h1:=⟨zT _,zT _,(zU krf),trivial⟩)) ?_ (fun i hi=>?_))
 ·exact Nat.zero_le _
 ·rcases Nat.lt_or_ge i s.atoms.l.length with hlt|hge
  ·have hm:=ha i hlt
   have hal:=lI (x:=dA s) (l:=s.atoms.l.take i) (v:=v)
   have hs:=yx (x:=dA s) (v:=v) hlt
   refine vcR [] (lkL [(3,[0,3,5,12]),(5,[0,3,5]),(6,[0,3,5,24]),(7,[0,3,5]),(4,[0,3,5])]) (fun _=>[]) (fun Q=>(fun (u1:Int)=>(fun (u2:AObj)=>(fun (u3:Int)=>(fun (u4:Int)=>(fun (u5:AObj)=>(fun (u6:List Int)=>(fun (u7:Nat)=>(fun (u8:List (Nat × AV))=>2<=2/\(decide (u4<u1)=true->2<=2/\(0<=u4/\u4<u1)/\1<=1/\(0<=u3/\u3<(↑(List.length v):Int))/\Int.toNat u3+1<=u7/\1<=2/\((s.rule == -1)=true->2<=2/\(0<=u4/\u4<u1)/\1<=1/\(0<=u3/\u3<(↑(List.length v):Int))/\Int.toNat u3+1<=u7/\(-9223372036854775808<=u4+1/\u4+1<=9223372036854775807)/\Q AEx.normal (St.mk u8 [u5,u2,cells false u7 (aj (aj (ac u6) (Int.toNat u3) 1 fun x=>int i64 2) (Int.toNat u3) 1 fun x=>int i64 1)] g))/\((s.rule == -1)=false->(-9223372036854775808<=u4+1/\u4+1<=9223372036854775807)/\Q AEx.normal (St.mk u8 [u5,u2,cells false u7 (aj (ac u6) (Int.toNat u3) 1 fun x=>int i64 2)] g)))/\(decide (u4<u1)=false->Q (AEx.exit 0) (St.mk [(0,ow true 2 (List.length v) 1),(3,ref 1 0),(5,int i64 u4),(12,AV.bool (decide (u4<u1)))] [u5,u2,cells false u7 fun a=>ac u6 a] g))) ([(0,ow true 2 (List.length v) 1),(3,ref 1 0),(5,int i64 (u4+1))])) (List.length v*1)) (dL (dA s) v (List.take i s.atoms.l))) (cells false (List.length v*1) fun a=>ac v a)) ((↑i:Int))) (List.getD s.atoms.l i 0)) (cells false 2 (nth [int i64 s.rule,fz s.atoms.2 1 (List.length s.atoms.l) fun i x=>ac s.atoms.l i]))) ((↑(List.length s.atoms.l):Int))) ⟨omg,fun c1=>have c1:(↑i:Int)<(↑(List.length s.atoms.l):Int):=(of_decide_eq_true c1);⟨omg,omg,omg,omg,omg,omg,fun c2=>have c2:s.rule = -1:=(beq_iff_eq.mp c2);⟨omg,omg,omg,omg,omg,omg,?_⟩,fun c2=>have c2:¬s.rule = -1:=(beq_eq_false_iff_ne.mp c2);⟨omg,?_⟩⟩,fun c1=>have c1:¬(↑i:Int)<(↑(List.length s.atoms.l):Int):=(of_decide_eq_false c1);?_⟩
   ·have hx:dA s=1:=if_pos c2
    rw[hx] at hs hal ⊢
    refine(aQ (i+1) (toL (h1:=⟨zT _,zT _,(zU krf),trivial⟩) (h2:=⟨zV,zV,?_,trivial⟩)) ?_ ?_)
    ·exact⟨rfl,Nat.le_refl _,fun j _=>by
      rw[hs]
      exact zU (yy omg)⟩
    ·omega
    ·omega
   ·have hx:dA s=2:=if_neg c2
    rw[hx] at hs hal ⊢
    refine(aQ (i+1) (toL (h1:=⟨zT _,zT _,(zU krf),trivial⟩) (h2:=⟨zV,zV,?_,trivial⟩)) ?_ ?_)
    ·exact⟨rfl,Nat.le_refl _,fun j _=>by
      rw[hs]
      exact zU (r9 omg)⟩
    ·omega
    ·omega
   ·exfalso;omega
  ·have hie:i=s.atoms.l.length:=by omega
   subst hie
   rw[List.take_length]
   refine vcR [] (lkL [(3,[0,3,5,12]),(5,[0,3,5]),(6,[0,3,5,24]),(7,[0,3,5]),(4,[0,3,5])]) (fun _=>[]) (fun Q=>(fun (u1:Int)=>(fun (u2:Int)=>(fun (u3:AObj)=>(fun (u4:AObj)=>(fun (u5:Nat)=>(fun (u6:List (Nat × AV))=>2<=2/\(decide (u1<u1)=true->2<=2/\(0<=u1/\u1<u1)/\1<=1/\(0<=u2/\u2<(↑(List.length v):Int))/\Int.toNat u2+1<=u5/\1<=2/\((s.rule == -1)=true->2<=2/\(0<=u1/\u1<u1)/\1<=1/\(0<=u2/\u2<(↑(List.length v):Int))/\Int.toNat u2+1<=u5/\(-9223372036854775808<=u1+1/\u1+1<=9223372036854775807)/\Q AEx.normal (St.mk u6 [u4,u3,cells false u5 (aj (aj (ac (dL (dA s) v s.atoms.l)) (Int.toNat u2) 1 fun x=>int i64 2) (Int.toNat u2) 1 fun x=>int i64 1)] g))/\((s.rule == -1)=false->(-9223372036854775808<=u1+1/\u1+1<=9223372036854775807)/\Q AEx.normal (St.mk u6 [u4,u3,cells false u5 (aj (ac (dL (dA s) v s.atoms.l)) (Int.toNat u2) 1 fun x=>int i64 2)] g)))/\(decide (u1<u1)=false->Q (AEx.exit 0) (St.mk [(0,ow true 2 (List.length v) 1),(3,ref 1 0),(5,int i64 u1),(12,AV.bool (decide (u1<u1)))] [u4,u3,cells false u5 fun a=>ac (dL (dA s) v s.atoms.l) a] g))) ([(0,ow true 2 (List.length v) 1),(3,ref 1 0),(5,int i64 (u1+1))])) (List.length v*1)) (cells false (List.length v*1) fun a=>ac v a)) (cells false 2 (nth [int i64 s.rule,fz s.atoms.2 1 (List.length s.atoms.l) fun i x=>ac s.atoms.l i]))) (List.getD s.atoms.l (List.length s.atoms.l) 0)) ((↑(List.length s.atoms.l):Int))) ⟨omg,fun c1=>have c1:(↑(List.length s.atoms.l):Int)<(↑(List.length s.atoms.l):Int):=(of_decide_eq_true c1);⟨omg,omg,omg,omg,omg,omg,fun c2=>have c2:s.rule = -1:=(beq_iff_eq.mp c2);⟨omg,omg,omg,omg,omg,omg,?_⟩,fun c2=>have c2:¬s.rule = -1:=(beq_eq_false_iff_ne.mp c2);⟨omg,?_⟩⟩,fun c1=>have c1:¬(↑(List.length s.atoms.l):Int)<(↑(List.length s.atoms.l):Int):=(of_decide_eq_false c1);?_⟩
   all_goals first|(exfalso;omega)|skip
   refine⟨_,z6 _,vcR [] (lkL [(8,[4])]) (fun _=>[]) (fun (Q:AEx->St R.σ->Prop)=>Q AEx.ret (St.mk [(4,ow true 2 (List.length v) 1)] [cells false (List.length v*1) fun (a:Nat)=>ac v a,cells false 2 (nth [int i64 s.rule,fz s.atoms.2 1 (List.length s.atoms.l) fun (i x:Nat)=>ac s.atoms.l i]),cells false (List.length v*1) fun (a:Nat)=>ac (dL (dA s) v s.atoms.l) a] g)) (?_)⟩
   show bq Tryd.prog R 1 _ _ _ _ .ret _
   refine eD (.ow true 2 v.length 1) _ rfl trivial (toS (s':=⟨[(0,.ow true 1 v.length 1)],[.cells false (v.length*1) (ac v),.cells false (v.length*1) (ac (ez v s))],g⟩) [0,2] 3 (hob:=⟨zW _,zW _,trivial⟩))
end Go.Avm.Pack
