/- Part 4 of the proof: lemmas. -/
import Derived.Test.YtbdagmhndndliaaDoorM3
namespace Go.Avm.Pack
open Go Go.Avm Go.Proofs
open Go.IntKind (i64 u64)
open Go.Avm.AV (int bool any fz fp sl ow ref fn ifc val agg tup)
open Go.Avm.AObj (cells dead)
open Go.Avm.Oc (ret)
set_option maxRecDepth 4000
theorem vR {P:Program}{R:Res}{o:Oper}{ev ev':Operand->AV}{hp hp':List AObj}{g g':R.σ}{v:AV}(h:OpOk P R o ev' hp g v hp' g')(hle:∀x,x∈o.op.operands->Le (ev x) (ev' x)):OpOk P R o ev hp g v hp' g':=
 ⟨fun FM Z w evc okw hop=>h.h FM Z w evc okw (fun x hx=>hle x hx _ _ _ (hop x hx))⟩
theorem vS (R:Res)(r:Int)(n N:Nat)(c:Nat->AV)(hc:∀j,j<N->Below 1 (c j))(hr:decide (r = -1)=true)(g:R.σ):Does Tryd.prog R 68 [.agg 2 (nth [.int .i64 r,.ow true 0 n 1])] [.cells false N c] g (.ret (.ifc 148 (.agg 2 (nth [.int .i64 r,.ow true 0 n 1])))) [.cells false N c] g:=by
 have hr:=of_decide_eq_true hr
 subst hr
 refine ax (nt:=12) (rs:=[.tmp 2]) (k0:=1) (by kernel_rfl) (by kernel_rfl) (by kernel_rfl) rfl ?_
 refine vcQ [[1,0,1,1]] (lkL [(0,[1]),(1,[1,5]),(2,[2])]) (fun _=>[]) (fun Q=>(fun (u1:List AObj)=>1<=2/\(true=true->2<=2/\Q AEx.ret (St.mk [(2,ifc 148 (agg 2 (nth [int i64 (-1),ow true 0 n 1])))] u1 g))/\(true=false->Wp Tryd.prog R 12 1 Rd.top (ah Tryd.prog 68) [1,0,1,1] (aq Tryd.prog R 12 1 Rd.top (ah Tryd.prog 68) Q [Kont.seq [1,1]]) (St.mk [(1,ref 1 0),(5,AV.bool true)] u1 g))) ([cells false N c,cells false 2 (nth [int i64 (-1),ow true 0 n 1])])) (fun _=>by kernel_rfl) ⟨by omega,fun _=>⟨by omega,?_⟩,fun h=>(nomatch h)⟩
 refine(av (cv 1 _ _ rfl trivial (by omega) ⟨⟨trivial,trivial⟩,(show 1<=1 by omega)⟩ ⟨(fun _ _=>?_),trivial⟩ (by kernel_rfl) rfl rfl) (Le.refl _))
 exact hc _ (by assumption)
theorem vT (R:Res)(r:Int)(n N:Nat)(c:Nat->AV)(hc:∀j,j<N->Below 1 (c j))(hr:decide (r = -1)=false)(g:R.σ):Does Tryd.prog R 68 [.agg 2 (nth [.int .i64 r,.ow true 0 n 1])] [.cells false N c] g (.ret (.ifc 149 (.agg 2 (nth [.int .i64 r,.ow true 0 n 1])))) [.cells false N c] g:=by
 refine ax (nt:=12) (rs:=[.tmp 2]) (k0:=1) (by kernel_rfl) (by kernel_rfl) (by kernel_rfl) rfl ?_
 refine vcQ [] (lkL [(0,[1]),(1,[1,5]),(2,[2]),(3,[2])]) (fun _=>[]) (fun Q=>(fun (u1:List AV)=>1<=2/\((r == -1)=true->2<=2/\Q AEx.ret (St.mk [(2,ifc 148 (agg 2 (nth u1)))] [cells false N c,cells false 2 (nth u1)] g))/\((r == -1)=false->2<=2/\Q AEx.ret (St.mk [(2,ifc 149 (agg 2 (nth u1)))] [cells false N c,cells false 2 (nth u1)] g))) ([int i64 r,ow true 0 n 1])) (fun _=>by kernel_rfl) ⟨by omega,fun c1=>have c1:r = -1:=(beq_iff_eq.mp c1);⟨by omega,?_⟩,fun c1=>have c1:¬r = -1:=(beq_eq_false_iff_ne.mp c1);⟨by omega,?_⟩⟩
 ·exact absurd c1 (of_decide_eq_false hr)
 ·refine(av (cv 1 _ _ rfl trivial (by omega) ⟨⟨trivial,trivial⟩,(show 1<=1 by omega)⟩ ⟨(fun _ _=>?_),trivial⟩ (by kernel_rfl) rfl rfl) (Le.refl _))
  exact hc _ (by assumption)
theorem bZ {f:Nat->Nat}{p:Prg}{v:Nat->Int}{j m:Nat}(h:f 1=m):aU f (ai p v (.mp 1) j)=ai p v (.mp m) j:=by
 unfold ai
 split
 ·rfl
 ·split
  ·rfl
  ·split
   ·rfl
   ·show AV.mp (f 1)=_
    rw[h]
theorem mV (R:Res)(p:Prg)(o:AObj)(hl:p.rules.l.length<1000000)(hr:∀r,r∈p.rules.l->aP r)(g:R.σ):Does Tryd.prog R 66 [aA p] [o] g (.ret (.ref 1 0)) [o,.cells false 27 (ai p (fun _=>3) (.mp 2)),.map (esF p.rules.l)] g:=
 cf [] 1 (fun R g=>vw R p hl hr g) rfl rfl rfl trivial trivial ⟨aB (by exact⟨⟨trivial,trivial⟩,trivial⟩),trivial⟩ (Le.refl _) ⟨LeO.refl _,LeO.cells (fun j hj=>bZ rfl),rfl,trivial⟩
theorem de {k:Nat}(l:List Int)(j:Nat):Below k (af l j):=trivial
theorem d9 {f:Nat->Nat}(h:True){l:List Int}{j:Nat}:aU f (af l j)=af l j:=rfl
def bF (l:List Stp):Nat->AV:=fun c=>bif Nat.beq (c%2) 0 then .int .i64 (l.getD (c/2) default).rule else .ow true (3+c/2) (l.getD (c/2) default).atoms.length 1
def ab (l:List Stp)(j:Nat):AObj:=.cells false ((l.getD j default).atoms.length*1) (af (l.getD j default).atoms)
def i7 (p:Prg)(v:Nat->Int)(l:List Stp):List AObj:=.cells false 27 (ai p v (.mp 1))::.map (esF p.rules.l)::.cells false (l.length*2) (bF l)::bx (ab l) []
theorem qs {f:Nat->AV}{g:Nat->AV}:LeO (.cells false 0 f) (.cells false 0 g):=⟨rfl,Nat.le_refl _,fun j hj=>absurd hj (Nat.not_lt_zero j)⟩
theorem vU (p:Prg):leH ([AObj.cells false 27 (ai p (fun _=>3) (.mp 1)),.map (esF p.rules.l)]++List.replicate 25 (.cells false 0 (fun _=>.any))) (i7 p (fun _=>3) []):=
 ⟨LeO.refl _,rfl,qs,p7 (f:=fun _=>.cells false 0 (fun _=>.any)) (fun j hj=>qs) trivial⟩
def dR (l:List Stp)(s:Stp):Nat->AV:=fun c=>bif Nat.blt c (l.length*2) then bF l c else nth [.int .i64 s.rule,.ow true 28 s.atoms.length 1] (c-l.length*2)
def dg (m:Nat):List Nat:=[0,1,31,(bif Nat.beq 0 m then 28 else 3),(bif Nat.beq 1 m then 28 else 4),(bif Nat.beq 2 m then 28 else 5),(bif Nat.beq 3 m then 28 else 6),(bif Nat.beq 4 m then 28 else 7),(bif Nat.beq 5 m then 28 else 8),(bif Nat.beq 6 m then 28 else 9),(bif Nat.beq 7 m then 28 else 10),(bif Nat.beq 8 m then 28 else 11),(bif Nat.beq 9 m then 28 else 12),(bif Nat.beq 10 m then 28 else 13),(bif Nat.beq 11 m then 28 else 14),(bif Nat.beq 12 m then 28 else 15),(bif Nat.beq 13 m then 28 else 16),(bif Nat.beq 14 m then 28 else 17),(bif Nat.beq 15 m then 28 else 18),(bif Nat.beq 16 m then 28 else 19),(bif Nat.beq 17 m then 28 else 20),(bif Nat.beq 18 m then 28 else 21),(bif Nat.beq 19 m then 28 else 22),(bif Nat.beq 20 m then 28 else 23),(bif Nat.beq 21 m then 28 else 24),(bif Nat.beq 22 m then 28 else 25),(bif Nat.beq 23 m then 28 else 26)]
theorem i8 {m:Nat}(hm:m<24):bR (dg m) 32=true/\cP (dg m)=true/\∀b,b<24->aw (dg m) 32 (3+b)=(bif Nat.beq b m then 28 else b+3):=by
 have h:(List.range 24).all (fun m=>bR (dg m) 32&&(cP (dg m)&&(List.range 24).all (fun b=>aw (dg m) 32 (3+b)==(bif Nat.beq b m then 28 else b+3))))=true:=by decide +kernel
 have h:=(List.all_eq_true.1 h) m (List.mem_range.2 hm)
 simp only[Bool.and_eq_true] at h
 exact⟨h.1,h.2.1,fun b hb=>by simpa using (List.all_eq_true.1 h.2.2) b (List.mem_range.2 hb)⟩
theorem vV {f:Nat->Nat}{hp:List AObj}{m:Nat}{g:Nat->AObj}{x0 x1 x2:AObj}(h:∀j,j<24->LeO (ag hp (bif Nat.beq j m then 28 else j+3)) (bI f (g j)))(h0:LeO (ag hp 0) (bI f x0))(h1:LeO (ag hp 1) (bI f x1))(h2:LeO (ag hp 31) (bI f x2)):dl f hp (dg m) (x0::x1::x2::bx g []):=
 ⟨h0,h1,h2,h 0 (by decide),h 1 (by decide),h 2 (by decide),h 3 (by decide),h 4 (by decide),h 5 (by decide),h 6 (by decide),h 7 (by decide),h 8 (by decide),h 9 (by decide),h 10 (by decide),h 11 (by decide),h 12 (by decide),h 13 (by decide),h 14 (by decide),h 15 (by decide),h 16 (by decide),h 17 (by decide),h 18 (by decide),h 19 (by decide),h 20 (by decide),h 21 (by decide),h 22 (by decide),h 23 (by decide),trivial⟩
theorem mW {j m:Nat}(h:j≠m):Nat.beq j m=false:=by
 cases hx:Nat.beq j m with
 |false=>rfl
 |true=>exact absurd (Nat.eq_of_beq_eq_true hx) h
theorem qt (m:Nat):Nat.beq m m=true:=by simp
theorem qu {l:List Stp}{s:Stp}{z:Nat->AV}{c:Nat}(hc:c<(l.length+1)*2):dR l s c=a9 2 l.length (fun i j=>bF l (i*2+j)) (fun i j=>ap z 0 2 (nth [.int .i64 s.rule,.ow true 28 s.atoms.length 1]) (0+i*2+j)) c:=by
 unfold a9 dR
 by_cases h:c<l.length*2
 ·rw[if_pos h,show Nat.blt c (l.length*2)=true by rw[Nat.blt_eq];exact h]
  show bF l c=bF l (c/2*2+c%2)
  rw[show c/2*2+c%2=c by omega]
 ·rw[if_neg h,show Nat.blt c (l.length*2)=false from by
   cases hx:Nat.blt c (l.length*2) with
   |false=>rfl
   |true=>exact absurd (by rw[Nat.blt_eq] at hx;exact hx) h]
  show nth _ (c-l.length*2)=ap z 0 2 _ (0+(c-l.length*2)/2*2+(c-l.length*2)%2)
  rw[dI,if_pos (by omega)]
  congr 1
  omega
theorem mX {l:List Stp}{s:Stp}{j:Nat}:(l++[s]).getD j default=if j=l.length then s else l.getD j default:=by
 rw[List.getD_eq_getElem?_getD,List.getD_eq_getElem?_getD]
 rcases Nat.lt_trichotomy j l.length with h|h|h
 ·rw[List.getElem?_append_left h,if_neg (by omega)]
 ·subst h
  rw[List.getElem?_append_right (Nat.le_refl _),Nat.sub_self,if_pos rfl]
  rfl
 ·rw[if_neg (by omega),List.getElem?_eq_none (by simp;omega),List.getElem?_eq_none (by omega)]
theorem qv {p:Prg}{v':Nat->Int}{l:List Stp}{s:Stp}{o27 o29 o30:AObj}(hm:l.length<24):dl (aw (dg l.length) 32) (.cells false 27 (ai p v' (.mp 1))::.map (esF p.rules.l)::.dead::bx (ab l) [o27,.cells false (s.atoms.length*1) (af s.atoms),o29,o30,.cells false ((l.length+1)*2) (dR l s)]) (dg l.length) (i7 p v' (l++[s])):=by
 have hf:=(i8 hm).2.2
 refine vV (fun j hj=>?_) (LeO.cells (fun j hj=>(aZ (f:=aw (dg l.length) 32) rfl).symm)) rfl ?_
 ·by_cases hjm:j=l.length
  ·subst hjm
   rw[qt]
   show LeO (.cells false (s.atoms.length*1) (af s.atoms)) (bI _ (ab (l++[s]) l.length))
   unfold ab
   rw[mX,if_pos rfl]
   exact LeO.refl _
  ·rw[mW hjm]
   have e:=kn (f:=ab l) (r:=[o27,.cells false (s.atoms.length*1) (af s.atoms),o29,o30,.cells false ((l.length+1)*2) (dR l s)]) hj
   show LeO (ag (bx (ab l) _) j) _
   rw[e]
   unfold ab
   rw[mX,if_neg hjm]
   exact LeO.refl _
 ·show LeO (.cells false ((l.length+1)*2) (dR l s)) (.cells false ((l++[s]).length*2) (fun c=>aU (aw (dg l.length) 32) (bF (l++[s]) c)))
  rw[List.length_append,List.length_singleton]
  refine LeO.cells (fun c hc=>?_)
  unfold dR bF
  rw[mX]
  by_cases h:c<l.length*2
  ·rw[show Nat.blt c (l.length*2)=true by rw[Nat.blt_eq];exact h,if_neg (by omega)]
   show(bif Nat.beq (c%2) 0 then _ else _)=aU _ (bif Nat.beq (c%2) 0 then _ else _)
   cases Nat.beq (c%2) 0 with
   |true=>rfl
   |false=>
    show AV.ow true (3+c/2) _ 1=AV.ow true (aw (dg l.length) 32 (3+c/2)) _ 1
    rw[hf (c/2) (by omega),mW (by omega)]
    congr 1
    show 3+c/2=c/2+3
    omega
  ·rw[show Nat.blt c (l.length*2)=false from by
    cases hx:Nat.blt c (l.length*2) with
    |false=>rfl
    |true=>exact absurd (by rw[Nat.blt_eq] at hx;exact hx) h,if_pos (by omega)]
   have h2:c=l.length*2∨c=l.length*2+1:=by omega
   rcases h2 with rfl|rfl
   ·rw[show l.length*2%2=0 by omega,Nat.sub_self]
    rfl
   ·rw[show(l.length*2+1)%2=1 by omega,show l.length*2+1-l.length*2=1 by omega,show(l.length*2+1)/2=l.length by omega]
    show AV.ow true 28 _ 1=AV.ow true (aw (dg l.length) 32 (3+l.length)) _ 1
    rw[hf l.length hm,qt]
    rfl
theorem mY {R:Res}{o:Oper}{ev:Operand->AV}{hp:List AObj}{g:R.σ}{x y:Operand}(a b:Nat->Int)(r:Bool)(ho:o.op=.binOp .eql 95 x y 95)(hne:x≠y)(hx:Le (ev x) (.agg 24 (fun j=>.int .i64 (a j))))(hy:Le (ev y) (.agg 24 (fun j=>.int .i64 (b j))))(hr:r=true↔∀j,j<24->a j=b j):OpOk Tryd.prog R o ev hp g (.bool r) hp g:=by
 classical
 have h:=uf (P:=Tryd.prog) (R:=R) (hp:=hp) (g:=g) (n:=24) (ev:=fun z=>if z=x then .agg 24 (fun j=>.int .i64 (a j)) else if z=y then .agg 24 (fun j=>.int .i64 (b j)) else .any) (e:=43) (k:=.i64) (a:=a) (b:=b) ho (if_pos rfl) ((if_neg (Ne.symm hne)).trans (if_pos rfl)) (by kernel_rfl) (by kernel_rfl) (by kernel_rfl) (by kernel_rfl) (by kernel_rfl)
 have e:∀d:Bool,(d=true↔∀j,j<24->a j=b j)->d=r:=fun d hd=>by
  rw[Bool.eq_iff_iff,hd,hr]
 rw[e _ decide_eq_true_iff] at h
 refine vR h (fun z _=>?_)
 by_cases h1:z=x
 ·subst h1;simp only[if_true];exact hx
 ·by_cases h2:z=y
  ·subst h2;simp only[h1,if_false,if_true];exact hy
  ·simp only[h1,h2,if_false];exact Le.any _
theorem mZ {p:Prg}{v:Nat->Int}{m:AV}:Le (.agg 24 (fun j=>ai p v m (j+2))) (.agg 24 (fun j=>.int .i64 (v j))):=
 Le.agg (fun j hj=>Le.of_eq (eZ rfl hj))
theorem m0 {p:Prg}{v:Nat->Int}{m:AV}{z:Nat->AV}:Le (.agg 24 (ap z 0 24 (fun j=>ai p v m (j+2)))) (.agg 24 (fun j=>.int .i64 (v j))):=
 Le.agg (fun j hj=>Le.of_eq (by rw[dI,if_pos (by omega),Nat.sub_zero];exact eZ rfl hj))
theorem qw {p:Prg}{v:Nat->Int}(hp:cJ p)(hr:∀r,r∈p.rules.l->aP r)(hh:dx p)(hb:bj p v=true):false=true↔∀j,j<24->ck v (ao p v) j=v j:=by
 obtain⟨_,a,h1,h2,h3⟩:=qp hp hr hh hb
 have:=hp.2
 exact⟨fun h=>(by cases h),fun h=>absurd ((h a (by omega)).trans h2) h3⟩
theorem vW {l:List Stp}(hl:l.length<=24){c:Nat}(hc:c<l.length*2):Below 27 (bF l c):=by
 unfold bF
 cases Nat.beq (c%2) 0 with
 |true=>trivial
 |false=>show 3+c/2<27;omega
theorem qx {p:Prg}{v:Nat->Int}{l:List Stp}{f:Nat}(hb:bj p v=true)(hlt:co p (ck v (ao p v))<co p v)(h1:co p v+l.length<=p.atoms.toNat)(h2:co p v<f)(h3:dQ p f v l=al p):co p (ck v (ao p v))+(l++[ao p v]).length<=p.atoms.toNat/\∃f,co p (ck v (ao p v))<f/\dQ p f (ck v (ao p v)) (l++[ao p v])=al p:=by
 refine⟨?_,?_⟩
 ·rw[List.length_append,List.length_singleton];omega
 ·obtain⟨f,rfl⟩:∃k,f=k+1:=⟨f-1,by omega⟩
  refine⟨f,by omega,?_⟩
  rw[<-h3]
  show _=(if bj p v then _ else _)
  rw[if_pos hb]
theorem qy (R:Res)[Tab LT R](p:Prg)(hl:p.rules.l.length<1000000)(hr:∀r,r∈p.rules.l->aP r)(hp:cJ p)(hh:dx p)(g:R.σ):Does Tryd.prog R 60 [aA p] [] g (.ret (.tup 2 (nth [.ow true 2 (al p).1.length 2,.ref 0 0]))) (i7 p (al p).2 (al p).1) g:=by
 refine ax (nt:=37) (rs:=[.tmp 2,.tmp 3]) (k0:=0) (by kernel_rfl) (by kernel_rfl) (by kernel_rfl) rfl ?_
 refine vcQ [] (lkL [(0,[1]),(1,[4]),(2,[4,5])]) (lkL [(1,[(1,ROrc.call (ref 1 0) [cells false 2 (nth [int i64 p.atoms,ae p.rules]),cells false 27 (ai p (fun (x:Nat)=>3) (AV.mp 2)),AObj.map (esF p.rules.l)] g)])]) (fun Q=>(fun (u1:List AObj)=>2<=2/\(true=true/\Does Tryd.prog R 66 [aA p] [cells false 2 (nth [int i64 p.atoms,ae p.rules])] g (ret (ref 1 0)) u1 g)/\Wp Tryd.prog R 37 0 Rd.top (ah Tryd.prog 60) [1,1,1,0] (aq Tryd.prog R 37 0 Rd.top (ah Tryd.prog 60) Q [Kont.blk 0]) (St.mk [(4,ref 1 0),(5,fz Fz.nil 0 0 fun _ _=>any)] u1 g)) ([cells false 2 (nth [int i64 p.atoms,ae p.rules]),cells false 27 (ai p (fun (x:Nat)=>3) (AV.mp 2)),AObj.map (esF p.rules.l)])) (fun _=>by kernel_rfl) ⟨by omega,⟨rfl,(mV _ _ _ (by omega) (by omega) _)⟩,?_⟩
 refine cA (bo (s':=⟨[(4,.ref 0 0),(5,.fz .nil 0 0 fun _ _=>.any)],[.cells false 27 (ai p (fun _=>3) (.mp 1)),.map (esF p.rules.l)],g⟩) [1,2] 3 rfl rfl rfl rfl rfl ⟨Le.refl _,Le.refl _,trivial⟩ ⟨LeO.cells (fun j hj=>(bZ (f:=aw [1,2] 3) rfl).symm),rfl,trivial⟩) ?_
 refine cA (gg (fun _=>.any) 25) ?_
 refine cA (bl (s':=⟨[(4,.ref 0 0),(5,.ow true 2 0 2)],i7 p (fun _=>3) [],g⟩) ⟨Le.refl _,Le.nil_ow,trivial⟩ (vU p) rfl) ?_
 refine(bb (by kernel_rfl) (fun (x:(Nat->Int) × List Stp)=>⟨[(4,ref 0 0),(5,.ow true 2 x.2.length 2)],(i7 p x.1 x.2),g⟩) (fun (x:(Nat->Int) × List Stp)=>(co p x.1+x.2.length<=p.atoms.toNat/\∃f,co p x.1<f/\dQ p f x.1 x.2=al p)) (fun (x:(Nat->Int) × List Stp)=>(co p x.1)) ((fun _=>3,[]):(Nat->Int) × List Stp) (aV ⟨Le.refl _,Le.refl _,trivial⟩ rfl rfl) ?_ (fun x hi=>?_))
 ·refine⟨mS p _,25,?_,rfl⟩
  have:=mS p (fun _=>3)
  have:=hp.2
  show co p (fun _=>3)<25
  omega
 ·obtain⟨v,l⟩:=x
  obtain⟨h1,f,h2,h3⟩:=hi
  simp only at h1 h2 h3
  have hes:=p6 hr
  have hp':1<=p.atoms/\p.atoms<=24:=hp
  have hroom:aN=140737488355328:=rfl
  have hat:=qq (v:=v) hp hr hh
  cases hb:bj p v with
  |true=>
   by_cases hf:0<=br p v
   ·obtain⟨k1,k2,k3,_⟩:=qo hr hf
    have hal:0<(ao p v).atoms.length:=by rw[show ao p v=_ from if_pos hf];exact Nat.zero_lt_one
    have k4:decide ((ao p v).rule = -1)=false:=decide_eq_false (by omega)
    refine vcQ [[1,1,1,0,0,0,1,1,1,0],[1,1,1,0,0,0,1,0,1,1,1]] (lkL [(3,[4,5,6]),(4,[4,5,6,7,8]),(5,[4,5,6,7,20]),(6,[4,5,6,7]),(7,[4,5,6]),(8,[4,5,34])]) (lkL [(4,[(1,ROrc.call (tup 2 (nth [agg 2 (nth [int i64 (ao p v).rule,ow true 28 ((ao p v).atoms.length) 1]),AV.bool (bj p v)])) [cells false 27 (ai p v (AV.mp 1)),AObj.map (esF p.rules.l),cells false (l.length*2) (bF l),ab l 0,ab l 1,ab l 2,ab l 3,ab l 4,ab l 5,ab l 6,ab l 7,ab l 8,ab l 9,ab l 10,ab l 11,ab l 12,ab l 13,ab l 14,ab l 15,ab l 16,ab l 17,ab l 18,ab l 19,ab l 20,ab l 21,ab l 22,ab l 23,cells false 24 (ap (nth [int i64 0,int i64 0,int i64 0,int i64 0,int i64 0,int i64 0,int i64 0,int i64 0,int i64 0,int i64 0,int i64 0,int i64 0,int i64 0,int i64 0,int i64 0,int i64 0,int i64 0,int i64 0,int i64 0,int i64 0,int i64 0,int i64 0,int i64 0,int i64 0]) 0 24 fun (j:Nat)=>ai p v (AV.mp 1) (j+2)),cells false ((ao p v).atoms.length*1) (af (ao p v).atoms)] g),(6,ROrc.val (Orc.obj (nth [int i64 (ao p v).rule,ow true 28 ((ao p v).atoms.length) 1])))]),(6,[(1,ROrc.kcall (ifc 149 (agg 2 (nth [int i64 (ao p v).rule,ow true 28 ((ao p v).atoms.length) 1])))),(3,ROrc.inv (tup 0 (nth [])) [cells false 27 (ai p (ge p v (d8 (ao p v))) (AV.mp 1)),AObj.map (esF p.rules.l),cells false (l.length*2) (bF l),ab l 0,ab l 1,ab l 2,ab l 3,ab l 4,ab l 5,ab l 6,ab l 7,ab l 8,ab l 9,ab l 10,ab l 11,ab l 12,ab l 13,ab l 14,ab l 15,ab l 16,ab l 17,ab l 18,ab l 19,ab l 20,ab l 21,ab l 22,ab l 23,cells false 24 (ap (nth [int i64 0,int i64 0,int i64 0,int i64 0,int i64 0,int i64 0,int i64 0,int i64 0,int i64 0,int i64 0,int i64 0,int i64 0,int i64 0,int i64 0,int i64 0,int i64 0,int i64 0,int i64 0,int i64 0,int i64 0,int i64 0,int i64 0,int i64 0,int i64 0]) 0 24 fun (j:Nat)=>ai p v (AV.mp 1) (j+2)),cells false ((ao p v).atoms.length*1) fun (a:Nat)=>af (ao p v).atoms a,cells false 2 (nth [int i64 (ao p v).rule,ow true 28 ((ao p v).atoms.length) 1])] g)]),(7,[(3,ROrc.val (Orc.obj (dR l (ao p v))))]),(8,[(5,ROrc.kop (AV.bool false))])]) (fun Q=>(fun (u1:List AObj)=>(fun (u2:List AObj)=>(fun (u3:List AV)=>(fun (u4:List AV)=>(fun (u5:AObj)=>(fun (u6:St R.σ)=>(fun (u7:AObj)=>26<=27/\24<=24/\(true=true/\Does Tryd.prog R 96 [ref 0 0] [u5,AObj.map (esF p.rules.l),cells false (l.length*2) (bF l),ab l 0,ab l 1,ab l 2,ab l 3,ab l 4,ab l 5,ab l 6,ab l 7,ab l 8,ab l 9,ab l 10,ab l 11,ab l 12,ab l 13,ab l 14,ab l 15,ab l 16,ab l 17,ab l 18,ab l 19,ab l 20,ab l 21,ab l 22,ab l 23,u7] g (ret (tup 2 (nth [agg 2 (nth u4),AV.bool (bj p v)]))) [u5,AObj.map (esF p.rules.l),cells false (l.length*2) (bF l),ab l 0,ab l 1,ab l 2,ab l 3,ab l 4,ab l 5,ab l 6,ab l 7,ab l 8,ab l 9,ab l 10,ab l 11,ab l 12,ab l 13,ab l 14,ab l 15,ab l 16,ab l 17,ab l 18,ab l 19,ab l 20,ab l 21,ab l 22,ab l 23,u7,cells false ((ao p v).atoms.length*1) fun (a:Nat)=>af (ao p v).atoms a] g)/\2<=2/\(∀(c:Nat),c<2->nth u4 c=ap (nth [int i64 0,fz Fz.nil 0 0 fun _ _=>any]) 0 2 (List.brecOn (motive:=fun (x:List AV)=>Nat->AV) u4 nth._f) c)/\(bj p v=true->2<=2/\(true=true/\Does Tryd.prog R 68 [agg 2 (nth u4)] (u5::u2) g (ret (ifc 149 (agg 2 (nth u4)))) (u5::u2) g)/\(true=true/\true=true/\Does Tryd.prog R 141 [agg 2 (nth u4),ref 0 0] (u5::u2) g (ret (tup 0 (nth []))) (cells false 27 (ai p (ge p v (d8 (ao p v))) (AV.mp 1))::u2) g)/\2<=2/\0<2/\(l.length+1)*32<=aN/\l.length+1<=aN/\2<=2/\l.length*2<=l.length*2/\(∀(c:Nat),c<(l.length+1)*2->dR l (ao p v) c=a9 2 (l.length) (fun (i j:Nat)=>bF l (i*2+j)) (fun (i j:Nat)=>ap (fun (j:Nat)=>nth [int i64 0,fz Fz.nil 0 0 fun _ _=>any] (j%2)) 0 2 (List.brecOn (motive:=fun (x:List AV)=>Nat->AV) u4 nth._f) (0+i*2+j)) c)/\Tables.follows Tryd.prog.toTables Departure.mixedOrders=true/\26<=27/\24<=24/\OpOk Tryd.prog R (Oper.mk (some 34) (Op.binOp BinOp.eql 95 (Operand.tmp 32) (Operand.tmp 33) 95) 4 "table.go:195" #[Edge.mk 3 Ground.data,Edge.mk 4 Ground.data] none) (evO [Row.mk (some 33) none (agg 24 (ap (nth u3) 0 24 fun (j:Nat)=>ai p v (AV.mp 1) (j+2))) false (some []) [27],Row.mk (some 32) none (agg 24 fun (j:Nat)=>ai p (ge p v (d8 (ao p v))) (AV.mp 1) (j+2)) false (some []) [0],Row.mk (some 31) none (ref 0 2) false (some []) [],Row.mk (some 30) none (ref 0 0) false (some []) [],Row.mk (some 29) none (ref 0 0) false (some []) []] [(4,ref 0 0),(5,ow true 31 (l.length+1) 2),(6,ref 27 0)] []) u1 g (AV.bool false) u1 g/\(false=true->Wp Tryd.prog R 37 0 Rd.top (ah Tryd.prog 60) [1,1,1,0,0,0,1,1,1,0] (aq Tryd.prog R 37 0 Rd.top (ah Tryd.prog 60) Q [Kont.blk 1]) u6)/\(false=false->Q AEx.normal u6))/\(bj p v=false->Wp Tryd.prog R 37 0 Rd.top (ah Tryd.prog 60) [1,1,1,0,0,0,1,0,1,1,1] (aq Tryd.prog R 37 0 Rd.top (ah Tryd.prog 60) Q [Kont.seq [1,1,1,0,0,0,1,1],Kont.blk 1]) (St.mk [(4,ref 0 0),(5,ow true 2 (l.length) 2),(6,ref 27 0),(7,ref 29 0),(20,AV.bool (bj p v))] (u5::u2) g))) (cells false 24 (ap (nth u3) 0 24 fun (j:Nat)=>ai p v (AV.mp 1) (j+2)))) (St.mk [(4,ref 0 0),(5,ow true 31 (l.length+1) 2),(34,AV.bool false)] u1 g)) (cells false 27 (ai p v (AV.mp 1)))) ([int i64 (ao p v).rule,ow true 28 ((ao p v).atoms.length) 1])) ([int i64 0,int i64 0,int i64 0,int i64 0,int i64 0,int i64 0,int i64 0,int i64 0,int i64 0,int i64 0,int i64 0,int i64 0,int i64 0,int i64 0,int i64 0,int i64 0,int i64 0,int i64 0,int i64 0,int i64 0,int i64 0,int i64 0,int i64 0,int i64 0])) ([AObj.map (esF p.rules.l),cells false (l.length*2) (bF l),ab l 0,ab l 1,ab l 2,ab l 3,ab l 4,ab l 5,ab l 6,ab l 7,ab l 8,ab l 9,ab l 10,ab l 11,ab l 12,ab l 13,ab l 14,ab l 15,ab l 16,ab l 17,ab l 18,ab l 19,ab l 20,ab l 21,ab l 22,ab l 23,cells false 24 (ap (nth [int i64 0,int i64 0,int i64 0,int i64 0,int i64 0,int i64 0,int i64 0,int i64 0,int i64 0,int i64 0,int i64 0,int i64 0,int i64 0,int i64 0,int i64 0,int i64 0,int i64 0,int i64 0,int i64 0,int i64 0,int i64 0,int i64 0,int i64 0,int i64 0]) 0 24 fun (j:Nat)=>ai p v (AV.mp 1) (j+2)),cells false ((ao p v).atoms.length*1) fun (a:Nat)=>af (ao p v).atoms a,cells false 2 (nth [int i64 (ao p v).rule,ow true 28 ((ao p v).atoms.length) 1])])) ([cells false 27 (ai p (ge p v (d8 (ao p v))) (AV.mp 1)),AObj.map (esF p.rules.l),dead,ab l 0,ab l 1,ab l 2,ab l 3,ab l 4,ab l 5,ab l 6,ab l 7,ab l 8,ab l 9,ab l 10,ab l 11,ab l 12,ab l 13,ab l 14,ab l 15,ab l 16,ab l 17,ab l 18,ab l 19,ab l 20,ab l 21,ab l 22,ab l 23,cells false 24 (ap (nth [int i64 0,int i64 0,int i64 0,int i64 0,int i64 0,int i64 0,int i64 0,int i64 0,int i64 0,int i64 0,int i64 0,int i64 0,int i64 0,int i64 0,int i64 0,int i64 0,int i64 0,int i64 0,int i64 0,int i64 0,int i64 0,int i64 0,int i64 0,int i64 0]) 0 24 fun (j:Nat)=>ai p v (AV.mp 1) (j+2)),cells false ((ao p v).atoms.length*1) fun (a:Nat)=>af (ao p v).atoms a,cells false 2 (nth [int i64 (ao p v).rule,ow true 28 ((ao p v).atoms.length) 1]),cells false 2 (ap (fun (j:Nat)=>nth [int i64 0,fz Fz.nil 0 0 fun _ _=>any] (j%2)) 0 2 (List.brecOn (motive:=fun (x:List AV)=>Nat->AV) [int i64 (ao p v).rule,ow true 28 ((ao p v).atoms.length) 1] nth._f)),cells false ((l.length+1)*2) (dR l (ao p v))])) (fun _=>by kernel_rfl) ⟨by omega,by omega,⟨rfl,(bc (T:=LT) inferInstance [0,1] 28 (fun R _ g=>mL R (p) (v) (esF p.rules.l) (by omega) (by omega) (by omega) (by omega) g) rfl rfl rfl (by exact⟨⟨rfl,Nat.le_refl _,fun j hj=>(by first|exact aB (by first|exact trivial|apply aL)|exact Le.of_eq (aZ rfl).symm|exact Le.of_eq (bZ (by rfl)).symm)⟩,rfl,trivial⟩) (by exact⟨by omega,trivial⟩) (by exact⟨Le.refl _,trivial⟩) (by exact(Le.tup (fun i hi=>match i,hi with|0,_=>(Le.agg (fun i hi=>match i,hi with|0,_=>(Le.refl _)|1,_=>(Le.refl _) ))|1,_=>(Le.refl _) ))) (by exact⟨⟨rfl,Nat.le_refl _,fun j hj=>(by first|exact aC (by first|exact trivial|apply aL)|exact Le.of_eq (aZ rfl)|exact Le.of_eq (bZ (by rfl)))⟩,rfl,LeO.rflc,LeO.rflc,LeO.rflc,LeO.rflc,LeO.rflc,LeO.rflc,LeO.rflc,LeO.rflc,LeO.rflc,LeO.rflc,LeO.rflc,LeO.rflc,LeO.rflc,LeO.rflc,LeO.rflc,LeO.rflc,LeO.rflc,LeO.rflc,LeO.rflc,LeO.rflc,LeO.rflc,LeO.rflc,LeO.rflc,LeO.rflc,LeO.rflc,LeO.rflc,⟨rfl,Nat.le_refl _,fun j hj=>(by first|exact aC (by first|exact trivial|apply de)|exact Le.of_eq (d9 rfl))⟩,trivial⟩))⟩,by omega,(fun c hc=>match c,hc with|0,_=>(by kernel_rfl)|1,_=>(by kernel_rfl) ),fun _=>⟨by omega,⟨rfl,(bc (T:=LT) inferInstance [28] 30 (fun R _ g=>vT R ((ao p v).rule) ((ao p v).atoms.length) ((ao p v).atoms.length*1) (fun (a:Nat)=>af (ao p v).atoms a) ?_ (by omega) g) rfl rfl rfl (by exact⟨⟨rfl,Nat.le_refl _,fun j hj=>(by first|exact aB (by first|exact trivial|apply de)|exact Le.of_eq (d9 rfl).symm)⟩,trivial⟩) (by exact⟨by omega,trivial⟩) (by exact⟨(Le.agg (fun i hi=>match i,hi with|0,_=>(Le.refl _)|1,_=>(Le.refl _) )),trivial⟩) (by exact(Le.ifc (Le.agg (fun i hi=>match i,hi with|0,_=>(Le.refl _)|1,_=>(Le.refl _) )))) (by exact⟨LeO.rflc,rfl,LeO.rflc,LeO.rflc,LeO.rflc,LeO.rflc,LeO.rflc,LeO.rflc,LeO.rflc,LeO.rflc,LeO.rflc,LeO.rflc,LeO.rflc,LeO.rflc,LeO.rflc,LeO.rflc,LeO.rflc,LeO.rflc,LeO.rflc,LeO.rflc,LeO.rflc,LeO.rflc,LeO.rflc,LeO.rflc,LeO.rflc,LeO.rflc,LeO.rflc,LeO.rflc,⟨rfl,Nat.le_refl _,fun j hj=>(by first|exact aC (by first|exact trivial|apply de)|exact Le.of_eq (d9 rfl))⟩,LeO.rflc,trivial⟩))⟩,⟨by kernel_rfl,rfl,(bc (T:=LT) inferInstance [0,1,28] 30 (fun R _ g=>vK R (p) (v) (esF p.rules.l) (ao p v) (by omega) (by omega) (by omega) g) rfl rfl rfl (by exact⟨⟨rfl,Nat.le_refl _,fun j hj=>(by first|exact aB (by first|exact trivial|apply aL)|exact Le.of_eq (aZ rfl).symm|exact Le.of_eq (bZ (by rfl)).symm)⟩,rfl,⟨rfl,Nat.le_refl _,fun j hj=>(by first|exact aB (by first|exact trivial|apply de)|exact Le.of_eq (d9 rfl).symm)⟩,trivial⟩) (by exact⟨by omega,by omega,trivial⟩) (by exact⟨(Le.agg (fun i hi=>match i,hi with|0,_=>(Le.refl _)|1,_=>(Le.refl _) )),Le.refl _,trivial⟩) (by exact aC (by exact trivial)) (by exact⟨⟨rfl,Nat.le_refl _,fun j hj=>(by first|exact aC (by first|exact trivial|apply aL)|exact Le.of_eq (aZ rfl)|exact Le.of_eq (bZ (by rfl)))⟩,rfl,LeO.rflc,LeO.rflc,LeO.rflc,LeO.rflc,LeO.rflc,LeO.rflc,LeO.rflc,LeO.rflc,LeO.rflc,LeO.rflc,LeO.rflc,LeO.rflc,LeO.rflc,LeO.rflc,LeO.rflc,LeO.rflc,LeO.rflc,LeO.rflc,LeO.rflc,LeO.rflc,LeO.rflc,LeO.rflc,LeO.rflc,LeO.rflc,LeO.rflc,LeO.rflc,⟨rfl,Nat.le_refl _,fun j hj=>(by first|exact aC (by first|exact trivial|apply de)|exact Le.of_eq (d9 rfl))⟩,LeO.rflc,trivial⟩))⟩,by omega,by omega,by omega,by omega,by omega,by omega,?_,by kernel_rfl,by omega,by omega,?_,fun h=>(nomatch h),fun _=>?_⟩,fun hcc=>(nomatch (hb.symm.trans hcc))⟩
    ·exact fun j _=>de _ _
    ·exact fun c hc=>(qu (z:=fun j=>nth [.int .i64 0,.fz .nil 0 0 fun _ _=>.any] (j%2)) hc).trans (by kernel_rfl)
    ·rw[<-k2]
     exact mY (x:=.tmp 32) (y:=.tmp 33) (ck v (ao p v)) v false rfl (by intro h;cases h) mZ m0 (qw hp hr hh hb)
    ·rw[<-k2]
     have hlt:=mT hp hr hh hb
     refine aX (ck v (ao p v),l++[ao p v]) (bo (dg l.length) 32 rfl (i8 (by omega)).1 (i8 (by omega)).2.1 rfl rfl ⟨Le.refl _,Le.of_eq (by show _=AV.ow true 31 (l++[ao p v]).length 2;rw[List.length_append];rfl),trivial⟩ (by exact qv (by omega))) (qx hb hlt h1 h2 h3) hlt
   ·obtain⟨k0,k1,k2,k3,_⟩:=mQ hp hf hb
    have k4:decide ((ao p v).rule = -1)=true:=decide_eq_true (by rw[k0])
    have hal:0<(ao p v).atoms.length:=by
     unfold gf at k1
     rw[Bool.and_eq_true] at k1
     exact of_decide_eq_true k1.1
    refine vcQ [[1,1,1,0,0,0,1,1,1,0],[1,1,1,0,0,0,1,0,1,1,1]] (lkL [(3,[4,5,6]),(4,[4,5,6,7,8]),(5,[4,5,6,7,20]),(6,[4,5,6,7]),(7,[4,5,6]),(8,[4,5,34])]) (lkL [(4,[(1,ROrc.call (tup 2 (nth [agg 2 (nth [int i64 (ao p v).rule,ow true 28 ((ao p v).atoms.length) 1]),AV.bool (bj p v)])) [cells false 27 (ai p v (AV.mp 1)),AObj.map (esF p.rules.l),cells false (l.length*2) (bF l),ab l 0,ab l 1,ab l 2,ab l 3,ab l 4,ab l 5,ab l 6,ab l 7,ab l 8,ab l 9,ab l 10,ab l 11,ab l 12,ab l 13,ab l 14,ab l 15,ab l 16,ab l 17,ab l 18,ab l 19,ab l 20,ab l 21,ab l 22,ab l 23,cells false 24 (ap (nth [int i64 0,int i64 0,int i64 0,int i64 0,int i64 0,int i64 0,int i64 0,int i64 0,int i64 0,int i64 0,int i64 0,int i64 0,int i64 0,int i64 0,int i64 0,int i64 0,int i64 0,int i64 0,int i64 0,int i64 0,int i64 0,int i64 0,int i64 0,int i64 0]) 0 24 fun (j:Nat)=>ai p v (AV.mp 1) (j+2)),cells false ((ao p v).atoms.length*1) (af (ao p v).atoms)] g),(6,ROrc.val (Orc.obj (nth [int i64 (ao p v).rule,ow true 28 ((ao p v).atoms.length) 1])))]),(6,[(1,ROrc.kcall (ifc 148 (agg 2 (nth [int i64 (ao p v).rule,ow true 28 ((ao p v).atoms.length) 1])))),(3,ROrc.inv (tup 0 (nth [])) [cells false 27 (ai p (d6 v (bV (ao p v).atoms)) (AV.mp 1)),AObj.map (esF p.rules.l),cells false (l.length*2) (bF l),ab l 0,ab l 1,ab l 2,ab l 3,ab l 4,ab l 5,ab l 6,ab l 7,ab l 8,ab l 9,ab l 10,ab l 11,ab l 12,ab l 13,ab l 14,ab l 15,ab l 16,ab l 17,ab l 18,ab l 19,ab l 20,ab l 21,ab l 22,ab l 23,cells false 24 (ap (nth [int i64 0,int i64 0,int i64 0,int i64 0,int i64 0,int i64 0,int i64 0,int i64 0,int i64 0,int i64 0,int i64 0,int i64 0,int i64 0,int i64 0,int i64 0,int i64 0,int i64 0,int i64 0,int i64 0,int i64 0,int i64 0,int i64 0,int i64 0,int i64 0]) 0 24 fun (j:Nat)=>ai p v (AV.mp 1) (j+2)),cells false ((ao p v).atoms.length*1) fun (a:Nat)=>af (ao p v).atoms a,cells false 2 (nth [int i64 (ao p v).rule,ow true 28 ((ao p v).atoms.length) 1])] g)]),(7,[(3,ROrc.val (Orc.obj (dR l (ao p v))))]),(8,[(5,ROrc.kop (AV.bool false))])]) (fun Q=>(fun (u1:List AObj)=>(fun (u2:List AObj)=>(fun (u3:List AV)=>(fun (u4:List AV)=>(fun (u5:AObj)=>(fun (u6:St R.σ)=>(fun (u7:AObj)=>26<=27/\24<=24/\(true=true/\Does Tryd.prog R 96 [ref 0 0] [u5,AObj.map (esF p.rules.l),cells false (l.length*2) (bF l),ab l 0,ab l 1,ab l 2,ab l 3,ab l 4,ab l 5,ab l 6,ab l 7,ab l 8,ab l 9,ab l 10,ab l 11,ab l 12,ab l 13,ab l 14,ab l 15,ab l 16,ab l 17,ab l 18,ab l 19,ab l 20,ab l 21,ab l 22,ab l 23,u7] g (ret (tup 2 (nth [agg 2 (nth u4),AV.bool (bj p v)]))) [u5,AObj.map (esF p.rules.l),cells false (l.length*2) (bF l),ab l 0,ab l 1,ab l 2,ab l 3,ab l 4,ab l 5,ab l 6,ab l 7,ab l 8,ab l 9,ab l 10,ab l 11,ab l 12,ab l 13,ab l 14,ab l 15,ab l 16,ab l 17,ab l 18,ab l 19,ab l 20,ab l 21,ab l 22,ab l 23,u7,cells false ((ao p v).atoms.length*1) fun (a:Nat)=>af (ao p v).atoms a] g)/\2<=2/\(∀(c:Nat),c<2->nth u4 c=ap (nth [int i64 0,fz Fz.nil 0 0 fun _ _=>any]) 0 2 (List.brecOn (motive:=fun (x:List AV)=>Nat->AV) u4 nth._f) c)/\(bj p v=true->2<=2/\(true=true/\Does Tryd.prog R 68 [agg 2 (nth u4)] (u5::u2) g (ret (ifc 148 (agg 2 (nth u4)))) (u5::u2) g)/\(true=true/\true=true/\Does Tryd.prog R 139 [agg 2 (nth u4),ref 0 0] (u5::u2) g (ret (tup 0 (nth []))) (cells false 27 (ai p (d6 v (bV (ao p v).atoms)) (AV.mp 1))::u2) g)/\2<=2/\0<2/\(l.length+1)*32<=aN/\l.length+1<=aN/\2<=2/\l.length*2<=l.length*2/\(∀(c:Nat),c<(l.length+1)*2->dR l (ao p v) c=a9 2 (l.length) (fun (i j:Nat)=>bF l (i*2+j)) (fun (i j:Nat)=>ap (fun (j:Nat)=>nth [int i64 0,fz Fz.nil 0 0 fun _ _=>any] (j%2)) 0 2 (List.brecOn (motive:=fun (x:List AV)=>Nat->AV) u4 nth._f) (0+i*2+j)) c)/\Tables.follows Tryd.prog.toTables Departure.mixedOrders=true/\26<=27/\24<=24/\OpOk Tryd.prog R (Oper.mk (some 34) (Op.binOp BinOp.eql 95 (Operand.tmp 32) (Operand.tmp 33) 95) 4 "table.go:195" #[Edge.mk 3 Ground.data,Edge.mk 4 Ground.data] none) (evO [Row.mk (some 33) none (agg 24 (ap (nth u3) 0 24 fun (j:Nat)=>ai p v (AV.mp 1) (j+2))) false (some []) [27],Row.mk (some 32) none (agg 24 fun (j:Nat)=>ai p (d6 v (bV (ao p v).atoms)) (AV.mp 1) (j+2)) false (some []) [0],Row.mk (some 31) none (ref 0 2) false (some []) [],Row.mk (some 30) none (ref 0 0) false (some []) [],Row.mk (some 29) none (ref 0 0) false (some []) []] [(4,ref 0 0),(5,ow true 31 (l.length+1) 2),(6,ref 27 0)] []) u1 g (AV.bool false) u1 g/\(false=true->Wp Tryd.prog R 37 0 Rd.top (ah Tryd.prog 60) [1,1,1,0,0,0,1,1,1,0] (aq Tryd.prog R 37 0 Rd.top (ah Tryd.prog 60) Q [Kont.blk 1]) u6)/\(false=false->Q AEx.normal u6))/\(bj p v=false->Wp Tryd.prog R 37 0 Rd.top (ah Tryd.prog 60) [1,1,1,0,0,0,1,0,1,1,1] (aq Tryd.prog R 37 0 Rd.top (ah Tryd.prog 60) Q [Kont.seq [1,1,1,0,0,0,1,1],Kont.blk 1]) (St.mk [(4,ref 0 0),(5,ow true 2 (l.length) 2),(6,ref 27 0),(7,ref 29 0),(20,AV.bool (bj p v))] (u5::u2) g))) (cells false 24 (ap (nth u3) 0 24 fun (j:Nat)=>ai p v (AV.mp 1) (j+2)))) (St.mk [(4,ref 0 0),(5,ow true 31 (l.length+1) 2),(34,AV.bool false)] u1 g)) (cells false 27 (ai p v (AV.mp 1)))) ([int i64 (ao p v).rule,ow true 28 ((ao p v).atoms.length) 1])) ([int i64 0,int i64 0,int i64 0,int i64 0,int i64 0,int i64 0,int i64 0,int i64 0,int i64 0,int i64 0,int i64 0,int i64 0,int i64 0,int i64 0,int i64 0,int i64 0,int i64 0,int i64 0,int i64 0,int i64 0,int i64 0,int i64 0,int i64 0,int i64 0])) ([AObj.map (esF p.rules.l),cells false (l.length*2) (bF l),ab l 0,ab l 1,ab l 2,ab l 3,ab l 4,ab l 5,ab l 6,ab l 7,ab l 8,ab l 9,ab l 10,ab l 11,ab l 12,ab l 13,ab l 14,ab l 15,ab l 16,ab l 17,ab l 18,ab l 19,ab l 20,ab l 21,ab l 22,ab l 23,cells false 24 (ap (nth [int i64 0,int i64 0,int i64 0,int i64 0,int i64 0,int i64 0,int i64 0,int i64 0,int i64 0,int i64 0,int i64 0,int i64 0,int i64 0,int i64 0,int i64 0,int i64 0,int i64 0,int i64 0,int i64 0,int i64 0,int i64 0,int i64 0,int i64 0,int i64 0]) 0 24 fun (j:Nat)=>ai p v (AV.mp 1) (j+2)),cells false ((ao p v).atoms.length*1) fun (a:Nat)=>af (ao p v).atoms a,cells false 2 (nth [int i64 (ao p v).rule,ow true 28 ((ao p v).atoms.length) 1])])) ([cells false 27 (ai p (d6 v (bV (ao p v).atoms)) (AV.mp 1)),AObj.map (esF p.rules.l),dead,ab l 0,ab l 1,ab l 2,ab l 3,ab l 4,ab l 5,ab l 6,ab l 7,ab l 8,ab l 9,ab l 10,ab l 11,ab l 12,ab l 13,ab l 14,ab l 15,ab l 16,ab l 17,ab l 18,ab l 19,ab l 20,ab l 21,ab l 22,ab l 23,cells false 24 (ap (nth [int i64 0,int i64 0,int i64 0,int i64 0,int i64 0,int i64 0,int i64 0,int i64 0,int i64 0,int i64 0,int i64 0,int i64 0,int i64 0,int i64 0,int i64 0,int i64 0,int i64 0,int i64 0,int i64 0,int i64 0,int i64 0,int i64 0,int i64 0,int i64 0]) 0 24 fun (j:Nat)=>ai p v (AV.mp 1) (j+2)),cells false ((ao p v).atoms.length*1) fun (a:Nat)=>af (ao p v).atoms a,cells false 2 (nth [int i64 (ao p v).rule,ow true 28 ((ao p v).atoms.length) 1]),cells false 2 (ap (fun (j:Nat)=>nth [int i64 0,fz Fz.nil 0 0 fun _ _=>any] (j%2)) 0 2 (List.brecOn (motive:=fun (x:List AV)=>Nat->AV) [int i64 (ao p v).rule,ow true 28 ((ao p v).atoms.length) 1] nth._f)),cells false ((l.length+1)*2) (dR l (ao p v))])) (fun _=>by kernel_rfl) ⟨by omega,by omega,⟨rfl,(bc (T:=LT) inferInstance [0,1] 28 (fun R _ g=>mL R (p) (v) (esF p.rules.l) (by omega) (by omega) (by omega) (by omega) g) rfl rfl rfl (by exact⟨⟨rfl,Nat.le_refl _,fun j hj=>(by first|exact aB (by first|exact trivial|apply aL)|exact Le.of_eq (aZ rfl).symm|exact Le.of_eq (bZ (by rfl)).symm)⟩,rfl,trivial⟩) (by exact⟨by omega,trivial⟩) (by exact⟨Le.refl _,trivial⟩) (by exact(Le.tup (fun i hi=>match i,hi with|0,_=>(Le.agg (fun i hi=>match i,hi with|0,_=>(Le.refl _)|1,_=>(Le.refl _) ))|1,_=>(Le.refl _) ))) (by exact⟨⟨rfl,Nat.le_refl _,fun j hj=>(by first|exact aC (by first|exact trivial|apply aL)|exact Le.of_eq (aZ rfl)|exact Le.of_eq (bZ (by rfl)))⟩,rfl,LeO.rflc,LeO.rflc,LeO.rflc,LeO.rflc,LeO.rflc,LeO.rflc,LeO.rflc,LeO.rflc,LeO.rflc,LeO.rflc,LeO.rflc,LeO.rflc,LeO.rflc,LeO.rflc,LeO.rflc,LeO.rflc,LeO.rflc,LeO.rflc,LeO.rflc,LeO.rflc,LeO.rflc,LeO.rflc,LeO.rflc,LeO.rflc,LeO.rflc,LeO.rflc,⟨rfl,Nat.le_refl _,fun j hj=>(by first|exact aC (by first|exact trivial|apply de)|exact Le.of_eq (d9 rfl))⟩,trivial⟩))⟩,by omega,(fun c hc=>match c,hc with|0,_=>(by kernel_rfl)|1,_=>(by kernel_rfl) ),fun _=>⟨by omega,⟨rfl,(bc (T:=LT) inferInstance [28] 30 (fun R _ g=>vS R ((ao p v).rule) ((ao p v).atoms.length) ((ao p v).atoms.length*1) (fun (a:Nat)=>af (ao p v).atoms a) ?_ (by omega) g) rfl rfl rfl (by exact⟨⟨rfl,Nat.le_refl _,fun j hj=>(by first|exact aB (by first|exact trivial|apply de)|exact Le.of_eq (d9 rfl).symm)⟩,trivial⟩) (by exact⟨by omega,trivial⟩) (by exact⟨(Le.agg (fun i hi=>match i,hi with|0,_=>(Le.refl _)|1,_=>(Le.refl _) )),trivial⟩) (by exact(Le.ifc (Le.agg (fun i hi=>match i,hi with|0,_=>(Le.refl _)|1,_=>(Le.refl _) )))) (by exact⟨LeO.rflc,rfl,LeO.rflc,LeO.rflc,LeO.rflc,LeO.rflc,LeO.rflc,LeO.rflc,LeO.rflc,LeO.rflc,LeO.rflc,LeO.rflc,LeO.rflc,LeO.rflc,LeO.rflc,LeO.rflc,LeO.rflc,LeO.rflc,LeO.rflc,LeO.rflc,LeO.rflc,LeO.rflc,LeO.rflc,LeO.rflc,LeO.rflc,LeO.rflc,LeO.rflc,LeO.rflc,⟨rfl,Nat.le_refl _,fun j hj=>(by first|exact aC (by first|exact trivial|apply de)|exact Le.of_eq (d9 rfl))⟩,LeO.rflc,trivial⟩))⟩,⟨by kernel_rfl,rfl,(bc (T:=LT) inferInstance [0,1,28] 30 (fun R _ g=>vL R (p) (v) (esF p.rules.l) (ao p v) (by omega) (by omega) (by omega) (by omega) (by omega) (by omega) (by omega) g) rfl rfl rfl (by exact⟨⟨rfl,Nat.le_refl _,fun j hj=>(by first|exact aB (by first|exact trivial|apply aL)|exact Le.of_eq (aZ rfl).symm|exact Le.of_eq (bZ (by rfl)).symm)⟩,rfl,⟨rfl,Nat.le_refl _,fun j hj=>(by first|exact aB (by first|exact trivial|apply de)|exact Le.of_eq (d9 rfl).symm)⟩,trivial⟩) (by exact⟨by omega,by omega,trivial⟩) (by exact⟨(Le.agg (fun i hi=>match i,hi with|0,_=>(Le.refl _)|1,_=>(Le.refl _) )),Le.refl _,trivial⟩) (by exact aC (by exact trivial)) (by exact⟨⟨rfl,Nat.le_refl _,fun j hj=>(by first|exact aC (by first|exact trivial|apply aL)|exact Le.of_eq (aZ rfl)|exact Le.of_eq (bZ (by rfl)))⟩,rfl,LeO.rflc,LeO.rflc,LeO.rflc,LeO.rflc,LeO.rflc,LeO.rflc,LeO.rflc,LeO.rflc,LeO.rflc,LeO.rflc,LeO.rflc,LeO.rflc,LeO.rflc,LeO.rflc,LeO.rflc,LeO.rflc,LeO.rflc,LeO.rflc,LeO.rflc,LeO.rflc,LeO.rflc,LeO.rflc,LeO.rflc,LeO.rflc,LeO.rflc,LeO.rflc,⟨rfl,Nat.le_refl _,fun j hj=>(by first|exact aC (by first|exact trivial|apply de)|exact Le.of_eq (d9 rfl))⟩,LeO.rflc,trivial⟩))⟩,by omega,by omega,by omega,by omega,by omega,by omega,?_,by kernel_rfl,by omega,by omega,?_,fun h=>(nomatch h),fun _=>?_⟩,fun hcc=>(nomatch (hb.symm.trans hcc))⟩
    ·exact fun j _=>de _ _
    ·exact fun c hc=>(qu (z:=fun j=>nth [.int .i64 0,.fz .nil 0 0 fun _ _=>.any] (j%2)) hc).trans (by kernel_rfl)
    ·rw[<-k3]
     exact mY (x:=.tmp 32) (y:=.tmp 33) (ck v (ao p v)) v false rfl (by intro h;cases h) mZ m0 (qw hp hr hh hb)
    ·rw[<-k3]
     have hlt:=mT hp hr hh hb
     refine aX (ck v (ao p v),l++[ao p v]) (bo (dg l.length) 32 rfl (i8 (by omega)).1 (i8 (by omega)).2.1 rfl rfl ⟨Le.refl _,Le.of_eq (by show _=AV.ow true 31 (l++[ao p v]).length 2;rw[List.length_append];rfl),trivial⟩ (by exact qv (by omega))) (qx hb hlt h1 h2 h3) hlt
  |false=>
   have e:al p=(l,v):=by
    obtain⟨f,rfl⟩:∃k,f=k+1:=⟨f-1,by omega⟩
    rw[<-h3]
    show(if bj p v then _ else _)=_
    rw[if_neg (by rw[hb];decide)]
   rw[e]
   refine vcQ [[1,1,1,0,0,0,1,0,1,1,0],[1,1,1,0,0,0,1,1,1,1]] (lkL [(3,[4,5,6]),(4,[4,5,6,7,8]),(5,[4,5,6,7,20]),(8,[4,5,34]),(9,[2,3])]) (lkL [(4,[(1,ROrc.call (tup 2 (nth [agg 2 (nth [int i64 (ao p v).rule,ow true 28 ((ao p v).atoms.length) 1]),AV.bool (bj p v)])) [cells false 27 (ai p v (AV.mp 1)),AObj.map (esF p.rules.l),cells false (l.length*2) (bF l),ab l 0,ab l 1,ab l 2,ab l 3,ab l 4,ab l 5,ab l 6,ab l 7,ab l 8,ab l 9,ab l 10,ab l 11,ab l 12,ab l 13,ab l 14,ab l 15,ab l 16,ab l 17,ab l 18,ab l 19,ab l 20,ab l 21,ab l 22,ab l 23,cells false 24 (ap (nth [int i64 0,int i64 0,int i64 0,int i64 0,int i64 0,int i64 0,int i64 0,int i64 0,int i64 0,int i64 0,int i64 0,int i64 0,int i64 0,int i64 0,int i64 0,int i64 0,int i64 0,int i64 0,int i64 0,int i64 0,int i64 0,int i64 0,int i64 0,int i64 0]) 0 24 fun (j:Nat)=>ai p v (AV.mp 1) (j+2)),cells false ((ao p v).atoms.length*1) (af (ao p v).atoms)] g),(6,ROrc.val (Orc.obj (nth [int i64 (ao p v).rule,ow true 28 ((ao p v).atoms.length) 1])))]),(8,[(5,ROrc.kop (AV.bool true))])]) (fun Q=>(fun (u1:List AObj)=>(fun (u2:List AV)=>(fun (u3:List AV)=>(fun (u4:List (Nat × AV))=>(fun (u5:AObj)=>26<=27/\24<=24/\(true=true/\Does Tryd.prog R 96 [ref 0 0] [cells false 27 (ai p v (AV.mp 1)),AObj.map (esF p.rules.l),cells false (l.length*2) (bF l),ab l 0,ab l 1,ab l 2,ab l 3,ab l 4,ab l 5,ab l 6,ab l 7,ab l 8,ab l 9,ab l 10,ab l 11,ab l 12,ab l 13,ab l 14,ab l 15,ab l 16,ab l 17,ab l 18,ab l 19,ab l 20,ab l 21,ab l 22,ab l 23,u5] g (ret (tup 2 (nth [agg 2 (nth u3),AV.bool (bj p v)]))) [cells false 27 (ai p v (AV.mp 1)),AObj.map (esF p.rules.l),cells false (l.length*2) (bF l),ab l 0,ab l 1,ab l 2,ab l 3,ab l 4,ab l 5,ab l 6,ab l 7,ab l 8,ab l 9,ab l 10,ab l 11,ab l 12,ab l 13,ab l 14,ab l 15,ab l 16,ab l 17,ab l 18,ab l 19,ab l 20,ab l 21,ab l 22,ab l 23,u5,cells false ((ao p v).atoms.length*1) fun (a:Nat)=>af (ao p v).atoms a] g)/\2<=2/\(∀(c:Nat),c<2->nth u3 c=ap (nth [int i64 0,fz Fz.nil 0 0 fun _ _=>any]) 0 2 (List.brecOn (motive:=fun (x:List AV)=>Nat->AV) u3 nth._f) c)/\(bj p v=true->Wp Tryd.prog R 37 0 Rd.top (ah Tryd.prog 60) [1,1,1,0,0,0,1,0,1,1,0] (aq Tryd.prog R 37 0 Rd.top (ah Tryd.prog 60) Q [Kont.seq [1,1,1,0,0,0,1,1],Kont.blk 1]) (St.mk u4 u1 g))/\(bj p v=false->Tables.follows Tryd.prog.toTables Departure.mixedOrders=true/\26<=27/\24<=24/\OpOk Tryd.prog R (Oper.mk (some 34) (Op.binOp BinOp.eql 95 (Operand.tmp 32) (Operand.tmp 33) 95) 4 "table.go:195" #[Edge.mk 3 Ground.data,Edge.mk 4 Ground.data] none) (evO [Row.mk (some 33) none (agg 24 (ap (nth u2) 0 24 fun (j:Nat)=>ai p v (AV.mp 1) (j+2))) false (some []) [27],Row.mk (some 32) none (agg 24 fun (j:Nat)=>ai p v (AV.mp 1) (j+2)) false (some []) [0],Row.mk (some 31) none (ref 0 2) false (some []) [],Row.mk (some 30) none (ref 0 0) false (some []) [],Row.mk (some 29) none (ref 0 0) false (some []) []] u4 []) u1 g (AV.bool true) u1 g/\(true=true->Q AEx.ret (St.mk [(2,ow true 2 (l.length) 2),(3,ref 0 0)] u1 g))/\(true=false->Wp Tryd.prog R 37 0 Rd.top (ah Tryd.prog 60) [1,1,1,0,0,0,1,1,1,1] (aq Tryd.prog R 37 0 Rd.top (ah Tryd.prog 60) Q [Kont.blk 1]) (St.mk [(4,ref 0 0),(5,ow true 2 (l.length) 2),(34,AV.bool true)] u1 g)))) (cells false 24 (ap (nth u2) 0 24 fun (j:Nat)=>ai p v (AV.mp 1) (j+2)))) ([(4,ref 0 0),(5,ow true 2 (l.length) 2),(6,ref 27 0),(7,ref 29 0),(20,AV.bool (bj p v))])) ([int i64 (ao p v).rule,ow true 28 ((ao p v).atoms.length) 1])) ([int i64 0,int i64 0,int i64 0,int i64 0,int i64 0,int i64 0,int i64 0,int i64 0,int i64 0,int i64 0,int i64 0,int i64 0,int i64 0,int i64 0,int i64 0,int i64 0,int i64 0,int i64 0,int i64 0,int i64 0,int i64 0,int i64 0,int i64 0,int i64 0])) ([cells false 27 (ai p v (AV.mp 1)),AObj.map (esF p.rules.l),cells false (l.length*2) (bF l),ab l 0,ab l 1,ab l 2,ab l 3,ab l 4,ab l 5,ab l 6,ab l 7,ab l 8,ab l 9,ab l 10,ab l 11,ab l 12,ab l 13,ab l 14,ab l 15,ab l 16,ab l 17,ab l 18,ab l 19,ab l 20,ab l 21,ab l 22,ab l 23,cells false 24 (ap (nth [int i64 0,int i64 0,int i64 0,int i64 0,int i64 0,int i64 0,int i64 0,int i64 0,int i64 0,int i64 0,int i64 0,int i64 0,int i64 0,int i64 0,int i64 0,int i64 0,int i64 0,int i64 0,int i64 0,int i64 0,int i64 0,int i64 0,int i64 0,int i64 0]) 0 24 fun (j:Nat)=>ai p v (AV.mp 1) (j+2)),cells false ((ao p v).atoms.length*1) fun (a:Nat)=>af (ao p v).atoms a,cells false 2 (nth [int i64 (ao p v).rule,ow true 28 ((ao p v).atoms.length) 1])])) (fun _=>by kernel_rfl) ⟨by omega,by omega,⟨rfl,(bc (T:=LT) inferInstance [0,1] 28 (fun R _ g=>mL R (p) (v) (esF p.rules.l) (by omega) (by omega) (by omega) (by omega) g) rfl rfl rfl (by exact⟨⟨rfl,Nat.le_refl _,fun j hj=>(by first|exact aB (by first|exact trivial|apply aL)|exact Le.of_eq (aZ rfl).symm|exact Le.of_eq (bZ (by rfl)).symm)⟩,rfl,trivial⟩) (by exact⟨by omega,trivial⟩) (by exact⟨Le.refl _,trivial⟩) (by exact(Le.tup (fun i hi=>match i,hi with|0,_=>(Le.agg (fun i hi=>match i,hi with|0,_=>(Le.refl _)|1,_=>(Le.refl _) ))|1,_=>(Le.refl _) ))) (by exact⟨⟨rfl,Nat.le_refl _,fun j hj=>(by first|exact aC (by first|exact trivial|apply aL)|exact Le.of_eq (aZ rfl)|exact Le.of_eq (bZ (by rfl)))⟩,rfl,LeO.rflc,LeO.rflc,LeO.rflc,LeO.rflc,LeO.rflc,LeO.rflc,LeO.rflc,LeO.rflc,LeO.rflc,LeO.rflc,LeO.rflc,LeO.rflc,LeO.rflc,LeO.rflc,LeO.rflc,LeO.rflc,LeO.rflc,LeO.rflc,LeO.rflc,LeO.rflc,LeO.rflc,LeO.rflc,LeO.rflc,LeO.rflc,LeO.rflc,LeO.rflc,⟨rfl,Nat.le_refl _,fun j hj=>(by first|exact aC (by first|exact trivial|apply de)|exact Le.of_eq (d9 rfl))⟩,trivial⟩))⟩,by omega,(fun c hc=>match c,hc with|0,_=>(by kernel_rfl)|1,_=>(by kernel_rfl) ),fun hcc=>(nomatch (hb.symm.trans hcc)),fun _=>⟨by kernel_rfl,by omega,by omega,?_,fun _=>?_,fun h=>(nomatch h)⟩⟩
   ·exact mY (x:=.tmp 32) (y:=.tmp 33) v v true rfl (by intro h;cases h) mZ m0 (by simp)
   ·refine⟨_,To.refl _,(av (cv 27 _ _ rfl trivial (by omega) ⟨⟨trivial,(show 3<=27 by omega)⟩,(show 1<=27 by omega)⟩ ⟨(fun _ _=>(by first|exact trivial|apply aL)),(fun _ _=>?_),(fun _ _=>trivial),(fun _ _=>trivial),(fun _ _=>trivial),(fun _ _=>trivial),(fun _ _=>trivial),(fun _ _=>trivial),(fun _ _=>trivial),(fun _ _=>trivial),(fun _ _=>trivial),(fun _ _=>trivial),(fun _ _=>trivial),(fun _ _=>trivial),(fun _ _=>trivial),(fun _ _=>trivial),(fun _ _=>trivial),(fun _ _=>trivial),(fun _ _=>trivial),(fun _ _=>trivial),(fun _ _=>trivial),(fun _ _=>trivial),(fun _ _=>trivial),(fun _ _=>trivial),(fun _ _=>trivial),(fun _ _=>trivial),trivial⟩ (by kernel_rfl) rfl rfl) (Le.refl _))⟩
    exact vW (by omega) (by assumption)
def aM (v:Nat->Int):Nat->AV:=fun j=>if 2<=j/\j<26 then .int .i64 (v (j-2)) else .any
theorem i9 {k:Nat}(v:Nat->Int)(j:Nat):Below k (aM v j):=by
 unfold aM
 split <;> trivial
theorem cK {f:Nat->Nat}(h:True){v:Nat->Int}{j:Nat}:aU f (aM v j)=aM v j:=by
 unfold aM
 split <;> rfl
theorem m4 {v:Nat->Int}{k j:Nat}(e:k=j+2)(h:j<24):aM v k=.int .i64 (v j):=by
 subst e
 unfold aM
 rw[if_pos (by omega)]
 rfl
theorem qz {p:Prg}{v:Nat->Int}{m:AV}{j:Nat}:Le (ai p v m j) (aM v j):=by
 unfold aM
 split
 ·rename_i h
  exact Le.of_eq (eZ (by omega) (by omega))
 ·exact Le.any _
def ky (s:Stp):Step:=⟨s.rule,s.atoms,.auto⟩
def bG (l:List Stp):KL Step:=⟨l.map ky,.auto⟩
theorem qA (l:List Stp):(bG l).l.length=l.length:=by unfold bG;rw[List.length_map]
theorem vX {l:List Stp}{i:Nat}(hi:i<l.length):(bG l).l.getD i default=ky (l.getD i default):=by
 unfold bG
 rw[List.getD_eq_getElem?_getD,List.getD_eq_getElem?_getD,List.getElem?_map,List.getElem?_eq_getElem hi]
 rfl
theorem vY {hp:List AObj}{k m o:Nat}{s:Stp}(ho:ag hp o=.cells false (s.atoms.length*1) (af s.atoms))(hk:k<=o):aE hp k m (.ow true o s.atoms.length 1) (ak ⟨s.atoms,.auto⟩):=
 (aE.ow ho hk (Nat.le_refl _) (by decide) (fun j _=>aE.below (de _ _))).le (Le.fz rfl (fun i j hi hj=>by
  show AV.int .i64 _=_
  rw[show i*1+j=i by omega]))
theorem m5 (R:Res)[Tab LT R](p:Prg)(hl:p.rules.l.length<1000000)(hr:∀r,r∈p.rules.l->aP r)(hp:cJ p)(hh:dx p)(g:R.σ):Does Tryd.prog R 60 [aA p] [] g (.ret (.tup 2 (nth [aT (bG (al p).1),.ref 0 0]))) [.cells false 27 (aM (al p).2)] g:=by
 refine gT (qy R p hl hr hp hh g) ?_
 have hlen:∀i,i<(al p).1.length->i<24:=fun i hi=>by have:=mU hp hr hh;omega
 refine To.trans (iR 2 [(0,.tup 2 (nth [aT (bG (al p).1),.ref 0 0]))] (Nat.zero_le _) (by show 2<=27;omega) (fun i hi=>?_) ⟨aE.tup (fun j hj=>?_),trivial⟩) ?_
 ·match i,hi with
  |0,_=>exact fun j hj=>aL p _ 0 j
  |1,_=>trivial
 ·match j,hj with
  |0,_=>
   refine aE.le (aE.ow (o:=2) (N:=(al p).1.length*2) (c:=bF (al p).1) (get:=fun c=>bif Nat.beq (c%2) 0 then .int .i64 ((al p).1.getD (c/2) default).rule else ak ⟨((al p).1.getD (c/2) default).atoms,.auto⟩) (fr:=false) rfl (Nat.le_refl _) (Nat.le_refl _) (by decide) (fun c hc=>?_)) ?_
   ·unfold bF
    cases Nat.beq (c%2) 0 with
    |true=>exact aE.below trivial
    |false=>exact vY ((ko (hlen _ (by omega))).trans rfl) (by omega)
   ·refine Le.fz (qA _).symm (fun i j hi hj=>?_)
    show _=eW _ j
    rw[vX hi]
    show(bif Nat.beq ((i*2+j)%2) 0 then _ else _)=_
    rw[show(i*2+j)%2=j by omega,show(i*2+j)/2=i by omega]
    match j,hj with
    |0,_=>rfl
    |1,_=>rfl
  |1,_=>exact aE.below (show 0<2 by omega)
 ·exact bo [0] 2 rfl rfl rfl rfl rfl ⟨Le.tup (fun j hj=>match j,hj with|0,_=>Le.of_eq rfl|1,_=>Le.refl _),trivial⟩ ⟨⟨rfl,Nat.le_refl _,fun j hj=>by
   show Le (ai p _ (.mp 1) j) (aU _ (aM _ j))
   rw[cK trivial]
   exact qz⟩,trivial⟩
theorem vZ (R:Res)(v:Nat->Int)(n:Nat)(hn:0<n/\n<=24)(g:R.σ):Does Tryd.prog R 61 [.sl 0 2 n 24 true 1] [.cells false 27 (aM v)] g (.ret (.sl 1 0 n n false 1)) [.cells false 27 (aM v),.cells false (n*1) (fun j=>.int .i64 (v j))] g:=by
 have hroom:aN=140737488355328:=rfl
 refine ax (nt:=8) (rs:=[.tmp 2]) (k0:=1) (by kernel_rfl) (by kernel_rfl) (by kernel_rfl) rfl ?_
 refine vcQ [[1,0,1,0]] (lkL [(0,[0]),(1,[0,4]),(3,[2])]) (fun _=>[]) (fun Q=>(false=true->Wp Tryd.prog R 8 1 Rd.top (ah Tryd.prog 61) [1,0,1,0] (aq Tryd.prog R 8 1 Rd.top (ah Tryd.prog 61) Q [Kont.seq [1,1]]) (St.mk [(0,sl 0 2 n 24 true 1),(4,AV.bool false)] [cells false 27 (aM v)] g))/\(false=false->0<0+n/\0<n/\0<1/\(0+n)*8<=aN/\0+n<=aN/\2+n*1<=27/\0<=0/\Q AEx.ret (St.mk [(2,sl 2 0 (0+n) (0+n) false 1)] [cells false 27 (aM v),cells false 0 fun (j:Nat)=>int i64 0,cells false ((0+n)*1) (a9 1 0 (fun (i j:Nat)=>int i64 0) fun (i j:Nat)=>aM v (2+i*1+j))] g))) (fun _=>by kernel_rfl) ⟨fun h=>(nomatch h),fun _=>⟨by omega,by omega,by omega,by omega,by omega,by omega,by omega,?_⟩⟩
 refine eU (.sl 2 0 (0+n) (0+n) false 1) _ rfl trivial (bo [0,2] 3 rfl rfl rfl rfl rfl ⟨Le.of_eq (by show AV.sl 2 0 (0+n) (0+n) false 1=AV.sl 2 0 n n false 1;rw[Nat.zero_add]),trivial⟩ ⟨LeO.cells (fun j hj=>(cK trivial).symm),⟨rfl,by rw[Nat.zero_add];exact Nat.le_refl _,fun c hc=>Le.of_eq ?_⟩,trivial⟩)
 show a9 1 0 _ _ c=AV.int .i64 (v c)
 unfold a9
 rw[if_neg (by omega)]
 show aM v (2+(c-0*1)/1*1+(c-0*1)%1)=_
 exact m4 (by omega) (by omega)
def dS (p:Prg)(v:Nat->Int):KL Int:=⟨(List.range p.atoms.toNat).map v,.opn⟩
theorem v6 (p:Prg)(v:Nat->Int):(dS p v).l.length=p.atoms.toNat:=by unfold dS;rw[List.length_map,List.length_range]
theorem v7 {p:Prg}{v:Nat->Int}{i:Nat}(hi:i<p.atoms.toNat):(dS p v).l.getD i 0=v i:=by
 unfold dS
 rw[List.getD_eq_getElem?_getD,List.getElem?_map,List.getElem?_range hi]
 rfl
theorem eG {p:Prg}(h:aJ p=true):p.rules.l.length<1000000/\(∀r,r∈p.rules.l->aP r)/\cJ p/\dx p/\(∀r,r∈p.rules.l->∀l,l∈r.body.l->0<=l.atom/\l.atom<p.atoms):=by
 unfold aJ at h
 simp only[Bool.and_eq_true,decide_eq_true_eq,List.all_eq_true] at h
 obtain⟨h1,h2,h3⟩:=h
 have hr:∀r,r∈p.rules.l->(0<=r.head/\r.head<=p.atoms-1)/\r.body.l.length<=4/\∀l,l∈r.body.l->0<=l.atom/\l.atom<=p.atoms-1:=fun r hm=>by
  have:=h3 r hm
  unfold eC at this
  simp only[Bool.and_eq_true,decide_eq_true_eq,List.all_eq_true] at this
  refine⟨this.1,this.2.1,fun l hl=>?_⟩
  have:=this.2.2 l hl
  unfold dY at this
  exact of_decide_eq_true this
 refine⟨by omega,fun r hm=>?_,h1,fun r hm=>?_,fun r hm l hl=>?_⟩
 ·obtain⟨a1,a2,a3⟩:=hr r hm
  refine⟨⟨by omega,fun l hl=>?_⟩,a1.1,by omega⟩
  have:=a3 l hl
  omega
 ·have:=(hr r hm).1;omega
 ·have:=(hr r hm).2.2 l hl;omega
theorem fF {p:Prg}(h:aJ p=true):dK p:=by
 obtain⟨h1,h2,_⟩:=eG h
 refine⟨h1,fun i=>?_⟩
 rcases Nat.lt_or_ge i p.rules.l.length with hi|hi
 ·exact(h2 _ (bK _ default hi)).1.1
 ·rw[List.getD_eq_getElem?_getD,List.getElem?_eq_none hi]
  exact(by decide:(0:Nat)<1000000)
theorem v8 (R:Res)[Tab LT R](p:Prg)(hb:aJ p=true)(g:R.σ):Does Tryd.prog R 17 [aA p] [] g (.ret (.tup 3 (nth [aT (bG (al p).1),ak (dS p (al p).2),.int .i64 0]))) [] g:=by
 obtain⟨hl,hr,hp,hh,hx⟩:=eG hb
 have hs:dK p:=fF hb
 have hp':1<=p.atoms/\p.atoms<=24:=hp
 refine ax (nt:=23) (rs:=[.tmp 2,.tmp 3,.tmp 4]) (k0:=0) (by kernel_rfl) (by kernel_rfl) (by kernel_rfl) rfl ?_
 have hc:((if aJ p then(0:Int) else 2) != 0)=false:=by rw[hb];rfl
 refine vcQ [[1,0,1,0]] (lkL [(0,[1]),(1,[1,9]),(3,[1,5,6]),(4,[2,3,4])]) (lkL [(1,[(1,ROrc.pcall (int i64 (if aJ p=true then 0 else 2)))]),(3,[(1,ROrc.call (tup 2 (nth [fz Fz.auto 2 ((bG (al p).fst).l.length) fun (i:Nat)=>eW ((bG (al p).fst).l.getD i default),ref 1 0])) [cells false 2 (nth [int i64 p.atoms,ae p.rules]),cells false 27 (aM (al p).snd)] g)]),(4,[(7,ROrc.callN (sl 2 0 (p.atoms.toNat-0) (p.atoms.toNat-0) false 1) [] [cells false ((p.atoms.toNat-0)*1) fun (j:Nat)=>int i64 ((al p).snd j)] g)])]) (fun Q=>(fun (u1:AObj)=>(fun (u2:List AObj)=>(fun (u3:AV)=>(fun (u4:Int)=>(fun (u5:Nat)=>2<=2/\(∀(hp:List AObj) (g:R.σ),true=true/\Does Tryd.prog R 16 [aA p] hp g (ret (int i64 u4)) hp g)/\((u4 != 0)=true->Wp Tryd.prog R 23 0 Rd.top (ah Tryd.prog 17) [1,0,1,0] (aq Tryd.prog R 23 0 Rd.top (ah Tryd.prog 17) Q [Kont.seq [1,1]]) (St.mk [(1,ref 0 0),(9,AV.bool (u4 != 0))] [u1] g))/\((u4 != 0)=false->2<=2/\(true=true/\Does Tryd.prog R 60 [aA p] [u1] g (ret (tup 2 (nth [u3,ref 1 0]))) [u1,cells false 27 (aM (al p).snd)] g)/\Tables.follows Tryd.prog.toTables Departure.mixedOrders=true/\1<=2/\(0<=p.atoms/\p.atoms<=(↑24:Int))/\0<24/\26<=27/\0<27/\(true=true/\Does Tryd.prog R 61 [sl 1 2 u5 24 true 1] [u1,cells false 27 (aM (al p).snd)] g (ret (sl 2 0 u5 u5 false 1)) u2 g)/\Q AEx.ret (St.mk [(2,u3),(3,sl 2 0 u5 u5 false 1),(4,int i64 0)] u2 g))) (p.atoms.toNat-0)) (if aJ p=true then 0 else 2)) (fz Fz.auto 2 ((bG (al p).fst).l.length) fun (i:Nat)=>eW ((bG (al p).fst).l.getD i default))) ([u1,cells false 27 (aM (al p).snd),cells false ((p.atoms.toNat-0)*1) fun (j:Nat)=>int i64 ((al p).snd j)])) (cells false 2 (nth [int i64 p.atoms,ae p.rules]))) (fun _=>by kernel_rfl) ⟨by omega,(fun _ _=>⟨rfl,(f6 _ _ _ _ (by omega))⟩),fun hcc=>(nomatch (hc.symm.trans hcc)),fun _=>⟨by omega,⟨rfl,(bc (T:=LT) inferInstance [] 1 (fun R _ g=>m5 R (p) (by omega) (by omega) (by omega) (by omega) g) rfl rfl rfl (by exact trivial) (by exact trivial) (by exact⟨aB (by exact⟨⟨trivial,trivial⟩,trivial⟩),trivial⟩) (by exact(Le.tup (fun i hi=>match i,hi with|0,_=>(Le.refl _)|1,_=>(Le.refl _) ))) (by exact⟨LeO.rflc,⟨rfl,Nat.le_refl _,fun j hj=>(by first|exact aC (by first|exact trivial|apply i9)|exact Le.of_eq (cK rfl))⟩,trivial⟩))⟩,by kernel_rfl,by omega,by omega,by omega,by omega,by omega,⟨rfl,(bc (T:=LT) inferInstance [1] 2 (fun R _ g=>vZ R ((al p).snd) (p.atoms.toNat-0) (by omega) g) rfl rfl rfl (by exact⟨⟨rfl,Nat.le_refl _,fun j hj=>(by first|exact aB (by first|exact trivial|apply i9)|exact Le.of_eq (cK rfl).symm)⟩,trivial⟩) (by exact⟨by omega,trivial⟩) (by exact⟨Le.refl _,trivial⟩) (by exact(Le.refl _)) (by exact⟨LeO.rflc,⟨rfl,Nat.le_refl _,fun j hj=>(by first|exact aC (by first|exact trivial|apply i9)|exact Le.of_eq (cK rfl))⟩,LeO.rflc,trivial⟩))⟩,?_⟩⟩
 refine eU (.tup 3 (nth [aT (bG (al p).1),.sl 2 0 (p.atoms.toNat-0) (p.atoms.toNat-0) false 1,.int .i64 0])) _ rfl trivial (iR 0 [(0,.tup 3 (nth [aT (bG (al p).1),ak (dS p (al p).2),.int .i64 0]))] (Nat.le_refl _) (Nat.zero_le _) (fun i hi=>absurd hi (Nat.not_lt_zero i)) ⟨aE.tup (fun j hj=>match j,hj with|0,_=>aE.below trivial|1,_=>aE.le (aE.sl (o:=2) (N:=(p.atoms.toNat-0)*1) (c:=fun j=>.int .i64 ((al p).2 j)) (get:=fun j=>.int .i64 ((al p).2 j)) (fr:=false) rfl (Nat.zero_le _) (by omega) (Nat.le_refl _) (by decide) (fun j _=>aE.below trivial)) (Le.fz (by rw[v6];rfl) (fun i j hi hj=>?_))|2,_=>aE.below trivial),trivial⟩)
 have hi':i<p.atoms.toNat:=hi
 rw[v7 hi',show 0+i*1+j=i by omega]
def hgF (p:Prg):Nat->Nat->Nat->Nat
 |0,_,s=>s
 |n+1,a,s=>if s.testBit a then s else(ofH p.rules.l (a:Int)).foldl (fun (s:Nat) (r:Rule)=>r.body.l.foldl (fun (s:Nat) (l:Lit)=>hgF p n l.atom.toNat s) s) (s|||2^a)
theorem kz {U β:Type}(f:β->U->β)(s:β)(l:List U)(d:U){i:Nat}(h:i<l.length):(l.take (i+1)).foldl f s=f ((l.take i).foldl f s) (l.getD i d):=by
 rw[List.take_add_one,List.foldl_append,List.getElem?_eq_getElem h,List.getD_eq_getElem?_getD,List.getElem?_eq_getElem h]
 rfl
def upS (f:Nat->Nat):Prop:=∀s,s<2^24->dP s (f s)/\f s<2^24
theorem fG {U:Type}{f:Nat->U->Nat}:∀{l:List U},(∀x,x∈l->upS (fun s=>f s x))->upS (fun s=>l.foldl f s)
 |[],_=>fun s hs=>⟨fun _ h=>h,hs⟩
 |x::l,h=>fun s hs=>by
  obtain⟨h1,h2⟩:=h x List.mem_cons_self s hs
  obtain⟨h3,h4⟩:=fG (l:=l) (fun y hy=>h y (List.mem_cons_of_mem _ hy)) _ h2
  exact⟨fun j hj=>h3 j (h1 j hj),h4⟩
theorem ja {s a:Nat}(hs:s<2^24)(ha:a<24):s|||2^a<2^24:=Nat.or_lt_two_pow hs (Nat.pow_lt_pow_right (by decide) ha)
theorem gi (s a j:Nat):(s|||2^a).testBit j=(s.testBit j||decide (a=j)):=by
 rw[Nat.testBit_or,Nat.testBit_two_pow]
theorem gj {p:Prg}(hr:∀r,r∈p.rules.l->aP r):∀(n a:Nat),a<24->upS (hgF p n a)
 |0,_,_=>fun s hs=>⟨fun _ h=>h,hs⟩
 |n+1,a,ha=>fun s hs=>by
  show dP s (if s.testBit a then s else _)/\(if s.testBit a then s else _)<2^24
  by_cases hb:s.testBit a=true
  ·rw[if_pos hb];exact⟨fun _ h=>h,hs⟩
  ·rw[if_neg hb]
   have h:=fG (l:=ofH p.rules.l (a:Int)) (f:=fun (s:Nat) (r:Rule)=>r.body.l.foldl (fun (s:Nat) (l:Lit)=>hgF p n l.atom.toNat s) s) (fun r hm=>fG (fun l hl=>gj hr n l.atom.toNat (by
    have:=(hr r (List.mem_filter.1 hm).1).1.2 l hl
    omega))) _ (ja hs ha)
   exact⟨fun j hj=>h.1 j (by rw[gi,hj];rfl),h.2⟩
theorem m6 {s t:Nat}(h:dP s t):(aj s).length<=(aj t).length:=mR (fun j _ hj=>h j hj)
theorem qB {s a:Nat}(ha:a<24)(h:s.testBit a=false):(aj s).length<(aj (s|||2^a)).length:=
 i6 (fun j _ hj=>by rw[gi,hj];rfl) ⟨a,List.mem_range.2 ha,by rw[gi];simp,h⟩
theorem v9 (p:Prg)(v:Nat->Int)(es:List (Value × AV))(hes:HeadsOk es p.rules.l)(hl:p.rules.l.length<1000000)(hr:∀r,r∈p.rules.l->aP r):∀(n:Nat) (R:Res) (a:Int) (s:Nat) (g:R.σ),0<=a/\a<24->s<2^24->24<n+(aj s).length ->
  Does Tryd.prog R 102 [.int .i64 a,.ref 2 0,.ref 3 0,.ref 4 0] [.cells false 27 (ai p v (.mp 1)),.map es,.cells false 1 (fun _=>.int .u64 s),.cells false 1 (fun _=>.ref 0 0),.cells false 1 (fun _=>.fn 102 0 (nth []) 3 (nth [.ref 2 0,.ref 3 0,.ref 4 0]))] g (.ret (.tup 0 (nth []))) [.cells false 27 (ai p v (.mp 1)),.map es,.cells false 1 (fun _=>.int .u64 (hgF p n a.toNat s)),.cells false 1 (fun _=>.ref 0 0),.cells false 1 (fun _=>.fn 102 0 (nth []) 3 (nth [.ref 2 0,.ref 3 0,.ref 4 0]))] g:=by
 intro n
 induction n with
 |zero=>
  intro R a s g _ _ h
  have:=eF s
  omega
 |succ n ih=>
  intro R a s g ha hs hn
  obtain⟨m,hm⟩:∃m:Nat,a=m:=⟨a.toNat,by omega⟩
  subst hm
  have hks:∀e∈es,∃l,Go.keyOf Tryd.prog 3 e.1=some l:=fun e he=>by
   obtain⟨b,e1,e2⟩:=hes.key e he
   rw[e1]
   exact gc e2
  obtain⟨k,hk1,hk2⟩:∃k:Fz,(ofH p.rules.l m=[]->k=.nil)/\(ofH p.rules.l m≠[]->k=.opn):=⟨if ofH p.rules.l m=[] then .nil else .opn,fun h=>if_pos h,fun h=>if_neg h⟩
  have hlf:(ofH p.rules.l m).length<1000000:=Nat.lt_of_le_of_lt (List.length_filter_le _ _) hl
  have hrf:∀r,r∈ofH p.rules.l m->aP r:=fun r h=>hr r (List.mem_filter.1 h |>.1)
  have hdef:hgF p (n+1) ((m:Int).toNat) s=if s.testBit m then s else(ofH p.rules.l (m:Int)).foldl (fun (s:Nat) (r:Rule)=>r.body.l.foldl (fun (s:Nat) (l:Lit)=>hgF p n l.atom.toNat s) s) (s|||2^m):=rfl
  rw[hdef]
  refine ax (nt:=40) (rs:=[]) (k0:=5) (by kernel_rfl) (by kernel_rfl) (by kernel_rfl) rfl ?_
  refine vcQ [] (lkL [(0,[0,1,2,3,11]),(1,[0,2,3]),(2,[3,21,22,23])]) (lkL [(0,[(2,ROrc.pcall (AV.bool (Nat.testBit s m)))]),(1,[(2,ROrc.pcall (int u64 (↑(2^m):Int))),(4,ROrc.val (Orc.obj (nth [int u64 (IntKind.wrap u64 (↑(BitVec.toNat (BitVec.ofInt 64 (s:Int)|||BitVec.ofInt 64 (↑(2^m):Int))):Int))])))]),(2,[(5,ROrc.kop (ae (KL.mk (ofH p.rules.l (m:Int)) k)))])]) (fun Q=>(fun (u1:List AObj)=>(fun (u2:AV)=>(fun (u3:AV)=>(fun (u4:AV)=>1<=1/\(∀(hp:List AObj) (g:R.σ),true=true/\Does Tryd.prog R 71 [int u64 (s:Int),u4] hp g (ret (AV.bool (Nat.testBit s m))) hp g)/\(Nat.testBit s m=true->Q AEx.ret (St.mk [(0,u4),(1,ref 2 0),(2,ref 3 0),(3,ref 4 0),(11,AV.bool (Nat.testBit s m))] [cells false 27 (ai p v (AV.mp 1)),AObj.map es,cells false 1 fun (x:Nat)=>int u64 (s:Int),cells false 1 fun (x:Nat)=>ref 0 0,cells false 1 fun (x:Nat)=>fn 102 0 (nth []) 3 (nth [ref 2 0,ref 3 0,ref 4 0])] g))/\(Nat.testBit s m=false->Tables.follows Tryd.prog.toTables Departure.mixedOrders=true/\1<=1/\(∀(hp:List AObj) (g:R.σ),true=true/\Does Tryd.prog R 79 [u4] hp g (ret (int u64 (↑(2^m):Int))) hp g)/\1<=1/\(∀(c:Nat),c<1->nth [u3] c=ap (fun (x:Nat)=>int u64 (s:Int)) 0 1 (fun (x:Nat)=>u3) c)/\1<=1/\27<=27/\OpOk Tryd.prog R (Oper.mk (some 21) (Op.lookup 96 (Operand.tmp 19) (Operand.tmp 20) false) 22 "table.go:248" #[Edge.mk 3 Ground.data,Edge.mk 4 Ground.data] none) (evO [Row.mk (some 20) none u4 false (some []) [],Row.mk (some 19) none (AV.mp 1) false (some []) [0],Row.mk (some 18) none (ref 0 26) false (some []) [],Row.mk (some 17) none (ref 0 0) false (some []) [],Row.mk (some 16) none (ref 0 0) false (some []) [3]] [(0,u4),(2,ref 3 0),(3,ref 4 0)] []) u1 g u2 u1 g/\Wp Tryd.prog R 40 5 Rd.top (ah Tryd.prog 102) [1,1,1,0] (aq Tryd.prog R 40 5 Rd.top (ah Tryd.prog 102) Q [Kont.blk 0]) (St.mk [(3,ref 4 0),(21,u2),(22,int i64 (↑((ofH p.rules.l (m:Int)).length):Int)),(23,int i64 0)] u1 g))) (int i64 (m:Int))) (int u64 (IntKind.wrap u64 (↑(BitVec.toNat (BitVec.ofInt 64 (s:Int)|||BitVec.ofInt 64 (↑(2^m):Int))):Int)))) (fz k 2 ((ofH p.rules.l (m:Int)).length) fun (i:Nat)=>bw ((ofH p.rules.l (m:Int)).getD i default))) ([cells false 27 (ai p v (AV.mp 1)),AObj.map es,cells false 1 (nth [int u64 (IntKind.wrap u64 (↑(BitVec.toNat (BitVec.ofInt 64 (s:Int)|||BitVec.ofInt 64 (↑(2^m):Int))):Int))]),cells false 1 fun (x:Nat)=>ref 0 0,cells false 1 fun (x:Nat)=>fn 102 0 (nth []) 3 (nth [ref 2 0,ref 3 0,ref 4 0])])) (fun _=>by kernel_rfl) ⟨by omega,(fun _ _=>⟨rfl,(iT _ _ _ (by omega) (by omega) _ _)⟩),fun c1=>?_,fun c1=>⟨by kernel_rfl,by omega,(fun _ _=>⟨rfl,(ga _ _ (by omega) _ _)⟩),by omega,(fun c hc=>match c,hc with|0,_=>(by kernel_rfl) ),by omega,by omega,?_,?_⟩⟩
  ·rw[if_pos c1]
   refine(av (aS _ _ rfl trivial rfl rfl rfl) (Le.refl _))
  ·by_cases h0:ofH p.rules.l m=[]
   ·rw[hk1 h0,h0]
    exact pD (t:=96) (kt:=3) (vt:=22) (m:=.tmp 19) (x:=.tmp 20) (ob:=1) (es:=es) (kv:=.int .i64 m) rfl (by kernel_rfl) (Go.Maps.int_keyed (q:=.i64) (by kernel_rfl)) rfl (by exact Le.nil) rfl rfl (fun FM Z v h=>h) (gc (by omega)) hks (hes.miss m h0)
   ·rw[hk2 h0]
    exact pC (t:=96) (kt:=3) (vt:=22) (m:=.tmp 19) (x:=.tmp 20) (ob:=1) (es:=es) (kv:=.int .i64 m) (d:=ae ⟨ofH p.rules.l m,.opn⟩) rfl (by kernel_rfl) (Go.Maps.int_keyed (q:=.i64) (by kernel_rfl)) rfl rfl (fun FM Z v h=>h) (gc (by omega)) hks (hes.hit m h0).1 (hes.hit m h0).2
  ·rw[if_neg (by rw[c1];decide)]
   obtain⟨t,ht⟩:∃t,s|||2^m=t:=⟨_,rfl⟩
   have ht24:t<2^24:=by rw[<-ht];exact ja hs (by omega)
   have htn:24<n+(aj t).length:=by
    have:=qB (s:=s) (a:=m) (by omega) c1
    rw[ht] at this
    omega
   obtain⟨L,hL⟩:∃L,ofH p.rules.l (m:Int)=L:=⟨_,rfl⟩
   rw[hL] at hlf hrf
   have hor:u64.wrap ((BitVec.ofInt 64 (s:Int)|||BitVec.ofInt 64 (2^m)).toNat:Int)=(t:Int):=by
    rw[<-ht]
    exact Tb.u64_or (bN hs) (bN (Nat.pow_lt_pow_right (by decide) (by omega)))
   obtain⟨F,hF⟩:∃F:Nat->Rule->Nat,F=fun (s:Nat) (r:Rule)=>r.body.l.foldl (fun (s:Nat) (l:Lit)=>hgF p n l.atom.toNat s) s:=⟨_,rfl⟩
   rw[ht,hL,hor,<-hF]
   have hup:∀r,r∈L->upS (fun s=>F s r):=fun r hm=>by
    rw[hF]
    exact fG (fun l hl=>gj hr n l.atom.toNat (by have:=(hrf r hm).1.2 l hl;omega))
   have huT:∀i,dP t ((L.take i).foldl F t)/\(L.take i).foldl F t<2^24:=fun i=>fG (f:=F) (l:=L.take i) (fun r hm=>hup r (List.mem_of_mem_take hm)) t ht24
   refine(bb (by kernel_rfl) (fun (i:Nat)=>⟨[(3,ref 4 0),(21,fz k 2 (L.length) fun (i:Nat)=>bw (L.getD i default)),(22,int i64 (L.length:Int)),(23,.int .i64 i)],[.cells false 27 (ai p v (.mp 1)),.map es,.cells false 1 (fun _=>.int .u64 ((L.take i).foldl F t:Nat)),.cells false 1 (fun _=>.ref 0 0),.cells false 1 (fun _=>.fn 102 0 (nth []) 3 (nth [.ref 2 0,.ref 3 0,.ref 4 0]))],g⟩) (fun (i:Nat)=>(i<=L.length)) (fun (i:Nat)=>(L.length-i)) 0 (bl ⟨Le.refl _,Le.refl _,Le.refl _,(Le.of_eq (by kernel_rfl)),trivial⟩ ⟨LeO.rflc,rfl,⟨rfl,Nat.le_refl _,fun j hj=>match j,hj with|0,_=>(Le.of_eq (by kernel_rfl)) ⟩,LeO.rflc,LeO.rflc,trivial⟩ rfl) ?_ (fun i hi=>?_))
   ·exact Nat.zero_le _
   ·obtain⟨hu1,hu2⟩:=huT i
    rcases Nat.lt_or_ge i L.length with hlt|hge
    ·have hq:=hrf _ (g5 hlt)
     have hq1:=hq.1.1
     have hstep:=kz F t L default hlt
     obtain⟨u,hu⟩:∃u,(L.take i).foldl F t=u:=⟨_,rfl⟩
     rw[hu] at hu1 hu2 hstep ⊢
     obtain⟨B,hB⟩:∃B,(L.getD i default).body=B:=⟨_,rfl⟩
     have hFB:F u (L.getD i default)=B.l.foldl (fun (s:Nat) (l:Lit)=>hgF p n l.atom.toNat s) u:=by rw[hF,<-hB]
     have hBl:∀l,l∈B.l->0<=l.atom/\l.atom<24:=by rw[<-hB];exact hq.1.2
     have huB:∀j,dP u ((B.l.take j).foldl (fun (s:Nat) (l:Lit)=>hgF p n l.atom.toNat s) u)/\(B.l.take j).foldl (fun (s:Nat) (l:Lit)=>hgF p n l.atom.toNat s) u<2^24:=fun j=>fG (f:=fun (s:Nat) (l:Lit)=>hgF p n l.atom.toNat s) (fun l hm=>gj hr n l.atom.toNat (by have:=hBl l (List.mem_of_mem_take hm);omega)) u hu2
     rw[hFB] at hstep
     rw[hB] at hq1
     refine vcQ [] (lkL [(3,[3,21,22,23,24]),(4,[3,6,21,22,23]),(5,[3,21,22,23,28,29,30])]) (lkL [(4,[(3,ROrc.val (Orc.obj (nth [int i64 (L.getD i default).head,am (L.getD i default).body])))])]) (fun Q=>(fun (u1:Int)=>(fun (u2:List AV)=>(fun (u3:Int)=>(fun (u4:AObj)=>(fun (u5:AV)=>(decide (u3<u1)=true->(0<=u3/\u3<u1)/\2<=2/\2<=2/\(∀(c:Nat),c<2->nth u2 c=ap (nth [int i64 0,fz Fz.nil 0 0 fun _ _=>any]) 0 2 (List.brecOn (motive:=fun (x:List AV)=>Nat->AV) u2 nth._f) c)/\2<=2/\Wp Tryd.prog R 40 5 Rd.top (ah Tryd.prog 102) [1,1,1,0,0,1,1,0,0,1,1,0] (aq Tryd.prog R 40 5 Rd.top (ah Tryd.prog 102) Q [Kont.blk 2,Kont.blk 1,Kont.seq [1,1,1,0,0,1,1,1]]) (St.mk [(3,ref 4 0),(21,u5),(22,int i64 u1),(23,int i64 u3),(28,am (L.getD i default).body),(29,int i64 (↑((L.getD i default).body.l.length):Int)),(30,int i64 0)] [cells false 27 (ai p v (AV.mp 1)),AObj.map es,cells false 1 fun (x:Nat)=>int u64 (u:Int),cells false 1 fun (x:Nat)=>ref 0 0,u4,cells false 2 (nth u2)] g))/\(decide (u3<u1)=false->Q (AEx.exit 0) (St.mk [(3,ref 4 0),(21,u5),(22,int i64 u1),(23,int i64 u3),(24,AV.bool (decide (u3<u1)))] [cells false 27 (ai p v (AV.mp 1)),AObj.map es,cells false 1 fun (x:Nat)=>int u64 (u:Int),cells false 1 fun (x:Nat)=>ref 0 0,u4] g))) (fz k 2 (L.length) fun (i:Nat)=>bw (L.getD i default))) (cells false 1 fun (x:Nat)=>fn 102 0 (nth []) 3 (nth [ref 2 0,ref 3 0,ref 4 0]))) ((i:Int))) ([int i64 (L.getD i default).head,am (L.getD i default).body])) ((L.length:Int))) (fun _=>by kernel_rfl) ⟨fun c1=>have c1:(i:Int)<(L.length:Int):=(of_decide_eq_true c1);⟨by omega,by omega,by omega,(fun c hc=>match c,hc with|0,_=>(by kernel_rfl)|1,_=>(by kernel_rfl) ),by omega,?_⟩,fun c1=>have c1:¬(i:Int)<(L.length:Int):=(of_decide_eq_false c1);?_⟩
     ·rw[hB]
      refine(bb (by kernel_rfl) (fun (j:Nat)=>⟨[(3,ref 4 0),(21,fz k 2 (L.length) fun (i:Nat)=>bw (L.getD i default)),(22,int i64 (L.length:Int)),(23,int i64 (i:Int)),(28,am B),(29,int i64 (B.l.length:Int)),(30,.int .i64 j)],[.cells false 27 (ai p v (.mp 1)),.map es,.cells false 1 (fun _=>.int .u64 ((B.l.take j).foldl (fun (s:Nat) (l:Lit)=>hgF p n l.atom.toNat s) u:Nat)),.cells false 1 (fun _=>.ref 0 0),.cells false 1 (fun _=>.fn 102 0 (nth []) 3 (nth [.ref 2 0,.ref 3 0,.ref 4 0])),.cells false 2 (nth [.int .i64 (L.getD i default).head,am B])],g⟩) (fun (j:Nat)=>(j<=B.l.length)) (fun (j:Nat)=>(B.l.length-j)) 0 (bl ⟨Le.refl _,Le.refl _,Le.refl _,Le.refl _,Le.refl _,Le.refl _,(Le.of_eq (by kernel_rfl)),trivial⟩ ⟨LeO.rflc,rfl,LeO.rflc,LeO.rflc,LeO.rflc,LeO.rflc,trivial⟩ rfl) ?_ (fun j hi=>?_))
      ·exact Nat.zero_le _
      ·obtain⟨hj1,hj2⟩:=huB j
       rcases Nat.lt_or_ge j B.l.length with hjl|hjg
       ·have hs2:=kz (fun (s:Nat) (l:Lit)=>hgF p n l.atom.toNat s) u B.l default hjl
        have hat:=hBl _ (bK B.l default hjl)
        obtain⟨z,hz⟩:∃z,(B.l.take j).foldl (fun (s:Nat) (l:Lit)=>hgF p n l.atom.toNat s) u=z:=⟨_,rfl⟩
        rw[hz] at hj1 hj2 hs2 ⊢
        have hcz:24<n+(aj z).length:=by
         have a1:=m6 hj1
         have a2:=m6 hu1
         omega
        refine vcQ [] (lkL [(6,[3,21,22,23,28,29,30,31]),(7,[3,8,21,22,23,28,29,30]),(8,[3,21,22,23,28,29,30]),(9,[3,21,22,23,28,29,30])]) (lkL [(7,[(3,ROrc.val (Orc.obj (nth [int i64 (B.l.getD j default).atom,AV.bool (B.l.getD j default).neg])))]),(8,[(3,ROrc.call (tup 0 (nth [])) [cells false 27 (ai p v (AV.mp 1)),AObj.map es,cells false 1 fun (j_1:Nat)=>int u64 (↑(hgF p n ((B.l.getD j default).atom.toNat) z):Int),cells false 1 fun (x:Nat)=>ref 0 0,cells false 1 fun (x:Nat)=>fn 102 0 (nth []) 3 (nth [ref 2 0,ref 3 0,ref 4 0]),cells false 2 (nth [int i64 (L.getD i default).head,am B]),cells false 2 (nth [int i64 (B.l.getD j default).atom,AV.bool (B.l.getD j default).neg])] g)])]) (fun Q=>(fun (u1:List AObj)=>(fun (u2:Int)=>(fun (u3:List AObj)=>(fun (u4:Int)=>(fun (u5:Lit)=>(fun (u6:AV)=>(decide (u4<u2)=true->(0<=u4/\u4<u2)/\2<=2/\2<=2/\(∀(c:Nat),c<2->nth [int i64 u5.atom,AV.bool u5.neg] c=ap (nth [int i64 0,AV.bool false]) 0 2 (List.brecOn (motive:=fun (x:List AV)=>Nat->AV) [int i64 u5.atom,AV.bool u5.neg] nth._f) c)/\1<=1/\1<=2/\(true=true/\Does Tryd.prog R 102 [int i64 u5.atom,ref 2 0,ref 3 0,ref 4 0] (cells false 27 (ai p v (AV.mp 1))::AObj.map es::(cells false 1 fun (x:Nat)=>int u64 (z:Int))::u1) g (ret (tup 0 (nth []))) u3 g)/\(-9223372036854775808<=u4+1/\u4+1<=9223372036854775807)/\Q AEx.normal (St.mk [(3,ref 4 0),(21,u6),(22,int i64 (L.length:Int)),(23,int i64 (i:Int)),(28,am B),(29,int i64 u2),(30,int i64 (u4+1))] u3 g))/\(decide (u4<u2)=false->Q (AEx.exit 2) (St.mk [(3,ref 4 0),(21,u6),(22,int i64 (L.length:Int)),(23,int i64 (i:Int)),(28,am B),(29,int i64 u2),(30,int i64 u4),(31,AV.bool (decide (u4<u2)))] [cells false 27 (ai p v (AV.mp 1)),AObj.map es,cells false 1 fun (x:Nat)=>int u64 (z:Int),cells false 1 fun (x:Nat)=>ref 0 0,cells false 1 fun (x:Nat)=>fn 102 0 (nth []) 3 (nth [ref 2 0,ref 3 0,ref 4 0]),cells false 2 (nth [int i64 (L.getD i default).head,am B])] g))) (fz k 2 (L.length) fun (i:Nat)=>bw (L.getD i default))) (B.l.getD j default)) ((j:Int))) (cells false 27 (ai p v (AV.mp 1))::AObj.map es::(cells false 1 fun (j_1:Nat)=>int u64 (↑(hgF p n ((B.l.getD j default).atom.toNat) z):Int))::u1)) ((B.l.length:Int))) ([cells false 1 fun (x:Nat)=>ref 0 0,cells false 1 fun (x:Nat)=>fn 102 0 (nth []) 3 (nth [ref 2 0,ref 3 0,ref 4 0]),cells false 2 (nth [int i64 (L.getD i default).head,am B]),cells false 2 (nth [int i64 (B.l.getD j default).atom,AV.bool (B.l.getD j default).neg])])) (fun _=>by kernel_rfl) ⟨fun c1=>have c1:(j:Int)<(B.l.length:Int):=(of_decide_eq_true c1);⟨by omega,by omega,by omega,(fun c hc=>match c,hc with|0,_=>(by kernel_rfl)|1,_=>(by kernel_rfl) ),by omega,by omega,⟨rfl,(cf [0,1,2,3,4] 7 (fun R g=>ih R ((B.l.getD j default).atom) (z) g (by omega) (by omega) (by omega)) rfl rfl rfl (by exact⟨⟨rfl,Nat.le_refl _,fun j hj=>(by first|exact aB (by first|exact trivial|apply aL)|exact Le.of_eq (aZ rfl).symm|exact Le.of_eq (bZ (by rfl)).symm)⟩,rfl,⟨rfl,Nat.le_refl _,fun j hj=>match j,hj with|0,_=>(Le.refl _) ⟩,⟨rfl,Nat.le_refl _,fun j hj=>match j,hj with|0,_=>(Le.refl _) ⟩,⟨rfl,Nat.le_refl _,fun j hj=>match j,hj with|0,_=>(Le.fn (fun i hi=>absurd hi (by omega)) (fun i hi=>match i,hi with|0,_=>(Le.refl _)|1,_=>(Le.refl _)|2,_=>(Le.refl _) )) ⟩,trivial⟩) (by exact⟨by omega,by omega,by omega,by omega,trivial⟩) (by exact⟨aB (by exact trivial),Le.refl _,Le.refl _,Le.refl _,trivial⟩) (by exact aC (by exact trivial)) (by exact⟨⟨rfl,Nat.le_refl _,fun j hj=>(by first|exact aC (by first|exact trivial|apply aL)|exact Le.of_eq (aZ rfl)|exact Le.of_eq (bZ (by rfl)))⟩,rfl,LeO.rflc,⟨rfl,Nat.le_refl _,fun j hj=>match j,hj with|0,_=>(Le.refl _) ⟩,⟨rfl,Nat.le_refl _,fun j hj=>match j,hj with|0,_=>(Le.fn (fun i hi=>absurd hi (by omega)) (fun i hi=>match i,hi with|0,_=>(Le.refl _)|1,_=>(Le.refl _)|2,_=>(Le.refl _) )) ⟩,LeO.rflc,LeO.rflc,trivial⟩))⟩,by omega,?_⟩,fun c1=>have c1:¬(j:Int)<(B.l.length:Int):=(of_decide_eq_false c1);?_⟩
        ·refine(aX (j+1) (bo [0,1,2,3,4,5] 7 rfl rfl rfl rfl rfl ⟨Le.refl _,Le.refl _,Le.refl _,Le.refl _,Le.refl _,Le.refl _,Le.refl _,trivial⟩ ⟨⟨by first|rfl|(simp;done),by first|exact Nat.le_refl _|(simp;done)|(simp;omega),fun j hj=>(by first|exact aB (by first|exact trivial|apply aL)|exact Le.of_eq (aZ rfl).symm|exact Le.of_eq (bZ (by rfl)).symm)⟩,rfl,⟨rfl,Nat.le_refl _,fun j hj=>match j,hj with|0,_=>(Le.of_eq ?_) ⟩,⟨rfl,Nat.le_refl _,fun j hj=>match j,hj with|0,_=>(Le.refl _) ⟩,⟨rfl,Nat.le_refl _,fun j hj=>match j,hj with|0,_=>(Le.fn (fun i hi=>absurd hi (by omega)) (fun i hi=>match i,hi with|0,_=>(Le.refl _)|1,_=>(Le.refl _)|2,_=>(Le.refl _) )) ⟩,⟨rfl,Nat.le_refl _,fun j hj=>match j,hj with|0,_=>(Le.refl _)|1,_=>(Le.refl _) ⟩,trivial⟩) ?_ ?_)
         ·show AV.int .u64 _=AV.int .u64 _
          rw[hs2]
         ·omega
         ·omega
        ·exfalso;omega
       ·have hje:j=B.l.length:=by omega
        subst hje
        rw[List.take_length,<-hstep]
        have hb:decide ((B.l.length:Int)<(B.l.length:Int))=false:=decide_eq_false (by omega)
        refine vcQ [[1,1,1,0,0,1,1,0,0,1,1,0,0,1,0,0]] (lkL [(6,[3,21,22,23,28,29,30,31])]) (fun _=>[]) (fun Q=>(fun (u1:St R.σ)=>(fun (u2:Int)=>(decide (u2<u2)=true->Wp Tryd.prog R 40 5 Rd.top (ah Tryd.prog 102) [1,1,1,0,0,1,1,0,0,1,1,0,0,1,0,0] (aq Tryd.prog R 40 5 Rd.top (ah Tryd.prog 102) Q [Kont.seq [1,1,1,0,0,1,1,0,0,1,1,0,0,1,1]]) u1)/\(decide (u2<u2)=false->Q (AEx.exit 2) u1)) ((B.l.length:Int))) (St.mk [(3,ref 4 0),(21,fz k 2 (L.length) fun (i:Nat)=>bw (L.getD i default)),(22,int i64 (L.length:Int)),(23,int i64 (i:Int)),(28,am B),(29,int i64 (B.l.length:Int)),(30,int i64 (B.l.length:Int)),(31,AV.bool (decide ((B.l.length:Int)<(B.l.length:Int))))] [cells false 27 (ai p v (AV.mp 1)),AObj.map es,cells false 1 fun (x:Nat)=>int u64 (↑(List.foldl F t (List.take (i+1) L)):Int),cells false 1 fun (x:Nat)=>ref 0 0,cells false 1 fun (x:Nat)=>fn 102 0 (nth []) 3 (nth [ref 2 0,ref 3 0,ref 4 0]),cells false 2 (nth [int i64 (L.getD i default).head,am B])] g)) (fun _=>by kernel_rfl) ⟨fun hcc=>(nomatch (hb.symm.trans hcc)),fun _=>?_⟩
        refine⟨_,To.refl _,vcQ [] (lkL [(10,[3,21,22,23])]) (fun _=>[]) (fun Q=>(-9223372036854775808<=(i:Int)+1/\(i:Int)+1<=9223372036854775807)/\Q AEx.normal (St.mk [(3,ref 4 0),(21,fz k 2 (L.length) fun (i:Nat)=>bw (L.getD i default)),(22,int i64 (L.length:Int)),(23,int i64 ((i:Int)+1))] [cells false 27 (ai p v (AV.mp 1)),AObj.map es,cells false 1 fun (x:Nat)=>int u64 (↑(List.foldl F t (List.take (i+1) L)):Int),cells false 1 fun (x:Nat)=>ref 0 0,cells false 1 fun (x:Nat)=>fn 102 0 (nth []) 3 (nth [ref 2 0,ref 3 0,ref 4 0]),cells false 2 (nth [int i64 (L.getD i default).head,am B])] g)) (fun _=>by kernel_rfl) ⟨by omega,?_⟩⟩
        refine(aX (i+1) (bo [0,1,2,3,4] 6 rfl rfl rfl rfl rfl ⟨Le.refl _,Le.refl _,Le.refl _,Le.refl _,trivial⟩ ⟨⟨by first|rfl|(simp;done),by first|exact Nat.le_refl _|(simp;done)|(simp;omega),fun j hj=>(by first|exact aB (by first|exact trivial|apply aL)|exact Le.of_eq (aZ rfl).symm|exact Le.of_eq (bZ (by rfl)).symm)⟩,rfl,⟨rfl,Nat.le_refl _,fun j hj=>match j,hj with|0,_=>(Le.refl _) ⟩,⟨rfl,Nat.le_refl _,fun j hj=>match j,hj with|0,_=>(Le.refl _) ⟩,⟨rfl,Nat.le_refl _,fun j hj=>match j,hj with|0,_=>(Le.fn (fun i hi=>absurd hi (by omega)) (fun i hi=>match i,hi with|0,_=>(Le.refl _)|1,_=>(Le.refl _)|2,_=>(Le.refl _) )) ⟩,trivial⟩) ?_ ?_)
        ·omega
        ·omega
     ·exfalso;omega
    ·have hie:i=L.length:=by omega
     subst hie
     rw[List.take_length]
     have hb:decide ((L.length:Int)<(L.length:Int))=false:=decide_eq_false (by omega)
     refine vcQ [[1,1,1,0,0,1,0,0]] (lkL [(3,[3,21,22,23,24])]) (fun _=>[]) (fun Q=>(fun (u1:St R.σ)=>(fun (u2:Int)=>(decide (u2<u2)=true->Wp Tryd.prog R 40 5 Rd.top (ah Tryd.prog 102) [1,1,1,0,0,1,0,0] (aq Tryd.prog R 40 5 Rd.top (ah Tryd.prog 102) Q [Kont.seq [1,1,1,0,0,1,1]]) u1)/\(decide (u2<u2)=false->Q (AEx.exit 0) u1)) ((L.length:Int))) (St.mk [(3,ref 4 0),(21,fz k 2 (L.length) fun (i:Nat)=>bw (L.getD i default)),(22,int i64 (L.length:Int)),(23,int i64 (L.length:Int)),(24,AV.bool (decide ((L.length:Int)<(L.length:Int))))] [cells false 27 (ai p v (AV.mp 1)),AObj.map es,cells false 1 fun (x:Nat)=>int u64 (↑(List.foldl F t L):Int),cells false 1 fun (x:Nat)=>ref 0 0,cells false 1 fun (x:Nat)=>fn 102 0 (nth []) 3 (nth [ref 2 0,ref 3 0,ref 4 0])] g)) (fun _=>by kernel_rfl) ⟨fun hcc=>(nomatch (hb.symm.trans hcc)),fun _=>?_⟩
     refine⟨_,To.refl _,(av (aS _ _ rfl trivial rfl rfl rfl) (Le.refl _))⟩
def hgP (p:Prg)(a:Nat):Nat:=hgF p 25 a 0
theorem m7 (R:Res)(p:Prg)(a:Int)(hl:p.rules.l.length<1000000)(hr:∀r,r∈p.rules.l->aP r)(ha:0<=a/\a<24)(hp:List AObj)(g:R.σ):Does Tryd.prog R 70 [aA p,.int .i64 a] hp g (.ret (.int .u64 (hgP p a.toNat))) hp g:=by
 refine bt (fun R g=>?_) (by exact⟨⟨⟨trivial,trivial⟩,trivial⟩,trivial,trivial⟩) R hp g
 have hes:=p6 hr
 have hz:(0:Nat)<2^24:=by decide
 have hc:24<25+(aj 0).length:=by omega
 have h1:=fun R g=>v9 p (fun _=>3) (esF p.rules.l) hes hl hr 25 R a 0 g ha hz hc
 refine ax (nt:=15) (rs:=[.tmp 4]) (k0:=0) (by kernel_rfl) (by kernel_rfl) (by kernel_rfl) rfl ?_
 refine vcQ [] (lkL [(0,[1,2]),(1,[1,5]),(2,[1,5,6]),(3,[1,5,6,7]),(4,[1,6,7]),(5,[6]),(6,[4])]) (lkL [(1,[(1,ROrc.call (ref 1 0) [cells false 2 (nth [int i64 p.atoms,ae p.rules]),cells false 27 (ai p (fun (x:Nat)=>3) (AV.mp 2)),AObj.map (esF p.rules.l)] g),(3,ROrc.val (Orc.obj (nth [ref 1 0])))]),(4,[(1,ROrc.val (Orc.obj (nth [fn 102 0 (nth []) 3 (nth [ref 4 0,ref 3 0,ref 5 0])])))]),(5,[(2,ROrc.call (tup 0 (nth [])) [cells false 2 (nth [int i64 p.atoms,ae p.rules]),cells false 27 (ai p (fun (x:Nat)=>3) (AV.mp 2)),AObj.map (esF p.rules.l),cells false 1 (nth [ref 1 0]),cells false 1 fun (j:Nat)=>int u64 (↑(hgF p 25 (a.toNat) 0):Int),cells false 1 (nth [fn 102 0 (nth []) 3 (nth [ref 4 0,ref 3 0,ref 5 0])])] g)])]) (fun Q=>(fun (u1:List AObj)=>(fun (u2:AObj)=>(fun (u3:AV)=>(fun (u4:AObj)=>2<=2/\(true=true/\Does Tryd.prog R 66 [aA p] [u2] g (ret (ref 1 0)) [u2,u4,AObj.map (esF p.rules.l)] g)/\1<=1/\(∀(c:Nat),c<1->nth [ref 1 0] c=ap (fun (a:Nat)=>AV.nilp) 0 1 (fun (x:Nat)=>ref 1 0) c)/\1<=1/\(∀(c:Nat),c<1->nth [u3] c=ap (fun (a:Nat)=>AV.nilf) 0 1 (fun (x:Nat)=>u3) c)/\1<=1/\(true=true/\Does Tryd.prog R 102 [int i64 a,ref 4 0,ref 3 0,ref 5 0] [u2,u4,AObj.map (esF p.rules.l),cells false 1 (nth [ref 1 0]),cells false 1 fun (a:Nat)=>int u64 0,cells false 1 (nth [u3])] g (ret (tup 0 (nth []))) u1 g)/\1<=1/\Q AEx.ret (St.mk [(4,int u64 (↑(hgF p 25 (a.toNat) 0):Int))] u1 g)) (cells false 27 (ai p (fun (x:Nat)=>3) (AV.mp 2)))) (fn 102 0 (nth []) 3 (nth [ref 4 0,ref 3 0,ref 5 0]))) (cells false 2 (nth [int i64 p.atoms,ae p.rules]))) ([cells false 2 (nth [int i64 p.atoms,ae p.rules]),cells false 27 (ai p (fun (x:Nat)=>3) (AV.mp 2)),AObj.map (esF p.rules.l),cells false 1 (nth [ref 1 0]),cells false 1 fun (j:Nat)=>int u64 (↑(hgF p 25 (a.toNat) 0):Int),cells false 1 (nth [fn 102 0 (nth []) 3 (nth [ref 4 0,ref 3 0,ref 5 0])])])) (fun _=>by kernel_rfl) ⟨by omega,⟨rfl,(mV _ _ _ (by omega) (by omega) _)⟩,by omega,(fun c hc=>match c,hc with|0,_=>(by kernel_rfl) ),by omega,(fun c hc=>match c,hc with|0,_=>(by kernel_rfl) ),by omega,⟨rfl,(cf [1,2,4,3,5] 6 (fun R g=>h1 R g) rfl rfl rfl (by exact⟨⟨rfl,Nat.le_refl _,fun j hj=>(by first|exact aB (by first|exact trivial|apply aL)|exact Le.of_eq (aZ rfl).symm|exact Le.of_eq (bZ (by rfl)).symm)⟩,rfl,⟨rfl,Nat.le_refl _,fun j hj=>match j,hj with|0,_=>(Le.refl _) ⟩,⟨rfl,Nat.le_refl _,fun j hj=>match j,hj with|0,_=>(Le.refl _) ⟩,⟨rfl,Nat.le_refl _,fun j hj=>match j,hj with|0,_=>(Le.fn (fun i hi=>absurd hi (by omega)) (fun i hi=>match i,hi with|0,_=>(Le.refl _)|1,_=>(Le.refl _)|2,_=>(Le.refl _) )) ⟩,trivial⟩) (by exact⟨by omega,by omega,by omega,by omega,trivial⟩) (by exact⟨aB (by exact trivial),Le.refl _,Le.refl _,Le.refl _,trivial⟩) (by exact aC (by exact trivial)) (by exact⟨LeO.rflc,⟨rfl,Nat.le_refl _,fun j hj=>(by first|exact aC (by first|exact trivial|apply aL)|exact Le.of_eq (aZ rfl)|exact Le.of_eq (bZ (by rfl)))⟩,rfl,⟨rfl,Nat.le_refl _,fun j hj=>match j,hj with|0,_=>(Le.refl _) ⟩,LeO.rflc,⟨rfl,Nat.le_refl _,fun j hj=>match j,hj with|0,_=>(Le.fn (fun i hi=>absurd hi (by omega)) (fun i hi=>match i,hi with|0,_=>(Le.refl _)|1,_=>(Le.refl _)|2,_=>(Le.refl _) )) ⟩,trivial⟩))⟩,by omega,?_⟩
 refine(av (bE _ _ rfl trivial trivial rfl) (Le.of_eq (by kernel_rfl)))
def ac (s:Nat):KL Int:=⟨aD s,.auto⟩
theorem g9 (R:Res)[Tab LT R](s:Nat)(hs:s<2^24)(g:R.σ):Does Tryd.prog R 75 [.fn 105 0 (nth []) 1 (nth [.ref 0 0])] [.cells false 1 (fun _=>.int .u64 s)] g (.ret (ak (ac s))) [.cells false 1 (fun _=>.any)] g:=
 gT (vE R s hs g) (bl ⟨Le.fz (dn s).symm (fun i j hi hj=>by
  show AV.int .i64 _=AV.int .i64 ((aD s).getD i 0)
  rw[gh]),trivial⟩ ⟨LeO.refl _,trivial⟩ rfl)
theorem fH {p:Prg}(hr:∀r,r∈p.rules.l->aP r){a:Nat}(ha:a<24):hgP p a<2^24:=(gj hr 25 a ha 0 (by decide)).2
theorem wb (R:Res)[Tab LT R](p:Prg)(goal:Int)(hb:aJ p=true)(hg:0<=goal/\goal<p.atoms)(g:R.σ):Does Tryd.prog R 30 [aA p,.int .i64 goal] [] g (.ret (.tup 2 (nth [ak (ac (hgP p goal.toNat)),.int .i64 0]))) [] g:=by
 obtain⟨hl,hr,hp,hh,hx⟩:=eG hb
 have hs:dK p:=fF hb
 have hp':1<=p.atoms/\p.atoms<=24:=hp
 have hlt:hgP p goal.toNat<2^24:=fH hr (by omega)
 have hC:=fun (R:Res) [Tab LT R] (s:Nat) (hs:s<2^24) (g:R.σ)=>g9 R s hs g
 refine ax (nt:=22) (rs:=[.tmp 4,.tmp 5]) (k0:=0) (by kernel_rfl) (by kernel_rfl) (by kernel_rfl) rfl ?_
 have hc:(bif ((if aJ p then(0:Int) else 2) != 0) then true else !decide (0<=goal/\goal<=p.atoms-1))=false:=by
  rw[hb,decide_eq_true (by omega)]
  rfl
 refine vcQ [[1,0,1,0]] (lkL [(0,[1,2]),(1,[1,2,16]),(3,[4,5])]) (lkL [(1,[(1,ROrc.pcall (int i64 (if aJ p=true then 0 else 2))),(8,ROrc.pcall (AV.bool (decide (0<=goal/\goal<=p.atoms-1))))]),(3,[(2,ROrc.pcall (int u64 (↑(hgP p (goal.toNat)):Int))),(3,ROrc.call (fn 105 0 (nth []) 1 (nth [ref (List.length [cells false 2 (nth [int i64 p.atoms,ae p.rules])]) 0])) ([cells false 2 (nth [int i64 p.atoms,ae p.rules])]++[cells false 1 fun (x:Nat)=>int u64 (↑(hgP p (goal.toNat)):Int)]) g),(4,ROrc.call (fz Fz.auto 1 ((ac (hgP p (goal.toNat))).l.length) fun (i x:Nat)=>af (ac (hgP p (goal.toNat))).l i) [cells false 2 (nth [int i64 p.atoms,ae p.rules]),cells false 1 fun (j:Nat)=>any] g)])]) (fun Q=>(fun (u1:AObj)=>(fun (u2:Bool)=>(fun (u3:Nat)=>(fun (u4:Int)=>(fun (u5:AV)=>(fun (u6:AV)=>2<=2/\(∀(hp:List AObj) (g:R.σ),true=true/\Does Tryd.prog R 16 [aA p] hp g (ret (int i64 u4)) hp g)/\((!u4 != 0)=true->1<=2)/\((!u4 != 0)=true -> -9223372036854775808<=p.atoms-1/\p.atoms-1<=9223372036854775807)/\((!u4 != 0)=true->∀(hp:List AObj) (g:R.σ),true=true/\Does Tryd.prog R 58 [int i64 goal,int i64 0,int i64 (p.atoms-1)] hp g (ret (AV.bool (decide (0<=goal/\goal<=p.atoms-1)))) hp g)/\(u2=true->Wp Tryd.prog R 22 0 Rd.top (ah Tryd.prog 30) [1,0,1,0] (aq Tryd.prog R 22 0 Rd.top (ah Tryd.prog 30) Q [Kont.seq [1,1]]) (St.mk [(1,int i64 goal),(2,ref 0 0),(16,AV.bool u2)] [u1] g))/\(u2=false->2<=2/\(∀(hp:List AObj) (g:R.σ),true=true/\Does Tryd.prog R 70 [aA p,int i64 goal] hp g (ret u6) hp g)/\(true=true/\Does Tryd.prog R 77 [u6] [u1] g (ret (fn 105 0 (nth []) 1 (nth [ref 1 0]))) [u1,cells false 1 fun (x:Nat)=>u6] g)/\(true=true/\Does Tryd.prog R 75 [fn 105 0 (nth []) 1 (nth [ref 1 0])] [u1,cells false 1 fun (x:Nat)=>u6] g (ret u5) [u1,cells false 1 fun (j:Nat)=>any] g)/\Q AEx.ret (St.mk [(4,u5),(5,int i64 0)] [u1,cells false 1 fun (j:Nat)=>any] g))) (int u64 (u3:Int))) (fz Fz.auto 1 ((ac u3).l.length) fun (i x:Nat)=>af (ac u3).l i)) (if aJ p=true then 0 else 2)) (hgP p (goal.toNat))) (bif (if aJ p=true then 0 else 2) != 0 then true else !decide (0<=goal/\goal<=p.atoms-1))) (cells false 2 (nth [int i64 p.atoms,ae p.rules]))) (fun _=>by kernel_rfl) ⟨by omega,(fun _ _=>⟨rfl,(f6 _ _ _ _ (by omega))⟩),by omega,by omega,(fun hgd=>(fun _ _=>⟨rfl,(dJ _ _ _ _ _ _)⟩)),fun hcc=>(nomatch (hc.symm.trans hcc)),fun _=>⟨by omega,(fun _ _=>⟨rfl,(m7 _ _ _ (by omega) (by omega) (by omega) _ _)⟩),⟨rfl,(cS _ _ _ _)⟩,⟨rfl,(bc (T:=LT) inferInstance [1] 2 (fun R _ g=>hC R (hgP p (goal.toNat)) (by omega) g) rfl rfl rfl (by exact⟨⟨rfl,Nat.le_refl _,fun j hj=>match j,hj with|0,_=>(Le.refl _) ⟩,trivial⟩) (by exact⟨by omega,trivial⟩) (by exact⟨(Le.fn (fun i hi=>absurd hi (by omega)) (fun i hi=>match i,hi with|0,_=>(Le.refl _) )),trivial⟩) (by exact aC (by exact trivial)) (by exact⟨LeO.rflc,LeO.rflc,trivial⟩))⟩,?_⟩⟩
 refine(av (bE _ _ rfl trivial ⟨⟨trivial,trivial⟩,trivial⟩ rfl) (Le.of_eq (by kernel_rfl)))
def au (p:Prg)(a:Nat):Nat:=(aj (hgP p a)).foldl (fun (s:Nat) (b:Nat)=>if (hgP p b).testBit a then s|||2^b else s) 0
def onC (p:Prg):Nat->AV:=fun k=>.int .u64 (hgP p k)
theorem fI {k:Nat}(p:Prg)(j:Nat):Below k (onC p j):=trivial
theorem fJ {f:Nat->Nat}(h:True){p:Prg}{j:Nat}:aU f (onC p j)=onC p j:=rfl
theorem m8 {p:Prg}{a:Nat}:∀{l:List Nat} {s:Nat},(∀b,b∈l->b<24)->s<2^24->l.foldl (fun (s:Nat) (b:Nat)=>if (hgP p b).testBit a then s|||2^b else s) s<2^24
 |[],_,_,hs=>hs
 |b::l,s,hl,hs=>by
  rw[List.foldl_cons]
  refine m8 (fun c hc=>hl c (List.mem_cons_of_mem _ hc)) ?_
  split
  ·exact ja hs (hl b List.mem_cons_self)
  ·exact hs
theorem qC (p:Prg)(a:Nat):au p a<2^24:=m8 (fun b hb=>kw hb) (by decide)
theorem kA (R:Res)[Tab LT R](p:Prg)(n:Nat)(a:Int)(hr:∀r,r∈p.rules.l->aP r)(hn:n<=24)(ha:0<=a/\a<n)(hin:∀b,b∈aj (hgP p a.toNat)->b<n)(g:R.σ):Does Tryd.prog R 82 [.int .i64 a,.ref 0 0] [.cells false 1 (fun _=>.ow true 1 n 1),.cells false (n*1) (onC p)] g (.ret (.int .u64 (au p a.toNat))) [.cells false 1 (fun _=>.ow true 1 n 1),.cells false (n*1) (onC p)] g:=by
 obtain⟨m,rfl⟩:∃m:Nat,a=m:=⟨a.toNat,by omega⟩
 rw[Int.toNat_natCast] at hin ⊢
 have hlt:hgP p m<2^24:=fH hr (by omega)
 refine ax (nt:=23) (rs:=[.tmp 3]) (k0:=2) (by kernel_rfl) (by kernel_rfl) (by kernel_rfl) rfl ?_
 refine vcQ [] (lkL [(0,[1,2]),(1,[1,2,4]),(2,[1,2,4,10])]) (lkL [(2,[(4,ROrc.call (fn 105 0 (nth []) 1 (nth [ref (List.length [cells false 1 fun (x:Nat)=>ow true 1 n 1,cells false (n*1) fun (a:Nat)=>onC p a,cells false 1 fun (a:Nat)=>int i64 (m:Int),cells false 1 fun (a:Nat)=>int u64 0]) 0])) ([cells false 1 fun (x:Nat)=>ow true 1 n 1,cells false (n*1) fun (a:Nat)=>onC p a,cells false 1 fun (a:Nat)=>int i64 (m:Int),cells false 1 fun (a:Nat)=>int u64 0]++[cells false 1 fun (x:Nat)=>int u64 (↑(hgP p m):Int)]) g)])]) (fun Q=>(fun (u1:List AObj)=>1<=1/\1<=1/\(0<=(m:Int)/\(m:Int)<(n:Int))/\m+1<=n*1/\(true=true/\Does Tryd.prog R 77 [onC p m] [cells false 1 fun (x:Nat)=>ow true 1 n 1,cells false (n*1) fun (a:Nat)=>onC p a,cells false 1 fun (a:Nat)=>int i64 (m:Int),cells false 1 fun (a:Nat)=>int u64 0] g (ret (fn 105 0 (nth []) 1 (nth [ref 4 0]))) u1 g)/\Wp Tryd.prog R 23 2 Rd.top (ah Tryd.prog 82) [1,1,0,1,0] (aq Tryd.prog R 23 2 Rd.top (ah Tryd.prog 82) Q [Kont.blk 0,Kont.seq [1,1,1]]) (St.mk [(1,ref 0 0),(2,ref 2 0),(4,ref 3 0),(10,fn 105 0 (nth []) 1 (nth [ref 4 0]))] u1 g)) ([cells false 1 fun (x:Nat)=>ow true 1 n 1,cells false (n*1) fun (a:Nat)=>onC p a,cells false 1 fun (a:Nat)=>int i64 (m:Int),cells false 1 fun (a:Nat)=>int u64 0,cells false 1 fun (x:Nat)=>onC p m])) (fun _=>by kernel_rfl) ⟨by omega,by omega,by omega,by omega,⟨rfl,(cS _ _ _ _)⟩,?_⟩
 have hseq:=mB (hgP p m) hlt
 obtain⟨l,hle⟩:∃l,aj (hgP p m)=l:=⟨_,rfl⟩
 have hw:au p m=l.foldl (fun (s:Nat) (b:Nat)=>if (hgP p b).testBit m then s|||2^b else s) 0:=by unfold au;rw[hle]
 rw[hle] at hseq hin
 have hin2:∀k,k<l.length->l.getD k 0<n:=fun k hk=>hin _ (bK l 0 hk)
 refine j7 10 [11] 4 (by kernel_rfl) rfl rfl rfl hseq (fun _=>rfl) (by kernel_rfl) (fun _=>⟨trivial,trivial⟩)
  (fun _=>none) (fun _=>rfl)
  (fun k=>[.cells false 1 (fun _=>.ow true 1 n 1),.cells false (n*1) (onC p),.cells false 1 (fun _=>.int .i64 m),.cells false 1 (fun _=>.int .u64 ((l.take k).foldl (fun (s:Nat) (b:Nat)=>if (hgP p b).testBit m then s|||2^b else s) 0:Nat))])
  (fun _=>g) (gU rfl rfl) (fun _=>rfl) (by exact⟨by omega,by omega,by omega,by omega,by omega,trivial⟩) (by exact⟨fun _ _=>show 1<4 by omega,fun _ _=>trivial,fun _ _=>trivial,fun _ _=>trivial,trivial⟩) (by exact⟨fun _ _=>trivial,trivial⟩) [1,2,4] (by exact⟨show 0<4 by omega,show 2<4 by omega,show 3<4 by omega,trivial⟩) (fun k l' hk hjk=>?_) (fun _=>?_) (fun k hk hj hr=>by cases hr) (fun k id hk hj hr=>by cases hr)
 ·obtain⟨b,hb⟩:∃b,l.getD k 0=b:=⟨_,rfl⟩
  have hbn:b<n:=by rw[<-hb];exact hin2 k hk
  have hb24:hgP p b<2^24:=fH hr (by omega)
  have hst:=kz (fun (s:Nat) (b:Nat)=>if (hgP p b).testBit m then s|||2^b else s) 0 l 0 hk
  obtain⟨t,ht⟩:∃t,(l.take k).foldl (fun (s:Nat) (b:Nat)=>if (hgP p b).testBit m then s|||2^b else s) 0=t:=⟨_,rfl⟩
  have ht24:t<2^24:=by
   rw[<-ht]
   exact m8 (fun c hc=>by
    have h1:=List.mem_of_mem_take hc
    rw[<-hle] at h1
    exact kw h1) (by decide)
  rw[hb,ht] at hst
  rw[hb,ht,hst]
  refine vcQ [] (lkL [(3,[1,2,4,5])]) (fun _=>[]) (fun Q=>Q AEx.normal (St.mk [(1,ref 0 0),(2,ref 2 0),(4,ref 3 0),(5,int i64 (b:Int))] [cells false 1 fun (x:Nat)=>ow true 1 n 1,cells false (n*1) fun (a:Nat)=>onC p a,cells false 1 fun (x:Nat)=>int i64 (m:Int),cells false 1 fun (x:Nat)=>int u64 (t:Int)] g)) (fun _=>by kernel_rfl) (?_)
  show Wp _ _ _ 4 _ _ _ _ _
  refine vcQ [] (lkL [(4,[4,5,17]),(5,[4])]) (lkL [(4,[(5,ROrc.pcall (AV.bool (Nat.testBit (hgP p b) m)))]),(5,[(2,ROrc.pcall (int u64 (↑(2^b):Int))),(4,ROrc.val (Orc.obj (nth [int u64 (IntKind.wrap u64 (↑(BitVec.toNat (BitVec.ofInt 64 (t:Int)|||BitVec.ofInt 64 (↑(2^b):Int))):Int))])))])]) (fun Q=>(fun (u1:AV)=>(fun (u2:Bool)=>(fun (u3:Bool)=>u3=true/\1<=1/\(0<=(b:Int)/\(b:Int)<(n:Int))/\b+1<=n*1/\1<=1/\(∀(hp:List AObj) (g:R.σ),true=true/\Does Tryd.prog R 71 [onC p b,int i64 (m:Int)] hp g (ret (AV.bool u2)) hp g)/\(u2=true->u3=true/\1<=1/\(∀(hp:List AObj) (g:R.σ),true=true/\Does Tryd.prog R 79 [int i64 (b:Int)] hp g (ret (int u64 (↑(2^b):Int))) hp g)/\1<=1/\(∀(c:Nat),c<1->nth [u1] c=ap (fun (x:Nat)=>int u64 (t:Int)) 0 1 (fun (x:Nat)=>u1) c)/\Q AEx.normal (St.mk [(4,ref 3 0)] [cells false 1 fun (x:Nat)=>ow true 1 n 1,cells false (n*1) fun (a:Nat)=>onC p a,cells false 1 fun (x:Nat)=>int i64 (m:Int),cells false 1 (nth [u1])] g))/\(u2=false->Q AEx.normal (St.mk [(4,ref 3 0),(5,int i64 (b:Int)),(17,AV.bool u2)] [cells false 1 fun (x:Nat)=>ow true 1 n 1,cells false (n*1) fun (a:Nat)=>onC p a,cells false 1 fun (x:Nat)=>int i64 (m:Int),cells false 1 fun (x:Nat)=>int u64 (t:Int)] g))) (Tables.follows Tryd.prog.toTables Departure.mixedOrders)) (Nat.testBit (hgP p b) m)) (int u64 (IntKind.wrap u64 (↑(BitVec.toNat (BitVec.ofInt 64 (t:Int)|||BitVec.ofInt 64 (↑(2^b):Int))):Int)))) (fun _=>by kernel_rfl) ⟨by kernel_rfl,by omega,by omega,by omega,by omega,(fun _ _=>⟨rfl,(iT _ _ _ (by omega) (by omega) _ _)⟩),fun c1=>⟨by kernel_rfl,by omega,(fun _ _=>⟨rfl,(ga _ _ (by omega) _ _)⟩),by omega,(fun c hc=>match c,hc with|0,_=>(by kernel_rfl) ),?_⟩,fun c1=>?_⟩
  ·refine(ft rfl (bl trivial ⟨LeO.rflc,LeO.rflc,LeO.rflc,⟨rfl,Nat.le_refl _,fun j hj=>match j,hj with|0,_=>(Le.of_eq ?_) ⟩,trivial⟩ rfl))
   show AV.int .u64 _=AV.int .u64 _
   rw[if_pos c1]
   congr 1
   exact Tb.u64_or (bN ht24) (bN (Nat.pow_lt_pow_right (by decide) (by omega)))
  ·refine(ft rfl (bl trivial ⟨LeO.rflc,LeO.rflc,LeO.rflc,⟨rfl,Nat.le_refl _,fun j hj=>match j,hj with|0,_=>(Le.of_eq ?_) ⟩,trivial⟩ rfl))
   show AV.int .u64 _=AV.int .u64 _
   rw[if_neg (by rw[c1];decide)]
 ·rw[List.take_length,<-hw]
  refine vcQ [] (lkL [(6,[3])]) (fun _=>[]) (fun Q=>1<=1/\Q AEx.ret (St.mk [(3,int u64 (↑(au p m):Int))] [cells false 1 fun (x:Nat)=>ow true 1 n 1,cells false (n*1) fun (a:Nat)=>onC p a,cells false 1 fun (x:Nat)=>int i64 (m:Int),cells false 1 fun (x:Nat)=>int u64 (↑(au p m):Int),dead] g)) (fun _=>by kernel_rfl) ⟨by omega,?_⟩
  show bz Tryd.prog R 2 _ _ _ _ .ret _
  refine(av (cv 2 _ _ rfl trivial (by omega) trivial ⟨(fun j hj=>match j,hj with|0,_=>(show 2<=2 by omega) ),(fun _ _=>trivial),trivial⟩ (by kernel_rfl) rfl rfl) (Le.refl _))
def jb (p:Prg)(a b:Nat):Prop:=∃r,r∈p.rules.l/\r.head=(a:Int)/\∃l,l∈r.body.l/\l.atom.toNat=b
inductive Reach (p:Prg):Nat->Nat->Prop
 |refl (a:Nat):Reach p a a
 |step {a b c:Nat} (h:jb p a b) (k:Reach p b c):Reach p a c
theorem Reach.trans {p:Prg}{a b c:Nat}(h:Reach p a b)(k:Reach p b c):Reach p a c:=by
 induction h with
 |refl a=>exact k
 |step h _ ih=>exact .step h (ih k)
def gk (p:Prg)(a:Nat):List Nat:=(ofH p.rules.l (a:Int)).flatMap (fun r=>r.body.l.map (fun l=>l.atom.toNat))
theorem m9 {p:Prg}{a b:Nat}:b∈gk p a↔jb p a b:=by
 unfold gk jb ofH
 simp only[List.mem_flatMap,List.mem_map,List.mem_filter,beq_iff_eq]
 constructor
 ·rintro ⟨r,⟨h1,h2⟩,l,h3,h4⟩
  exact⟨r,h1,h2,l,h3,h4⟩
 ·rintro ⟨r,h1,h2,l,h3,h4⟩
  exact⟨r,⟨h1,h2⟩,l,h3,h4⟩
theorem qD (p:Prg)(n a s:Nat):hgF p (n+1) a s=if s.testBit a then s else(gk p a).foldl (fun (s:Nat) (b:Nat)=>hgF p n b s) (s|||2^a):=by
 show(if s.testBit a then s else _)=_
 congr 1
 unfold gk
 rw[List.foldl_flatMap]
 congr 1
 funext s r
 rw[List.foldl_map]
def nc (p:Prg)(s t:Nat):Prop:=∀x,t.testBit x=true->s.testBit x=false->∀y,jb p x y->t.testBit y=true
theorem qE {p:Prg}(hr:∀r,r∈p.rules.l->aP r){a b:Nat}(h:b∈gk p a):b<24:=by
 obtain⟨r,h1,_,l,h3,rfl⟩:=m9.1 h
 have:=(hr r h1).1.2 l h3
 omega
theorem qF {p:Prg}(hr:∀r,r∈p.rules.l->aP r){n:Nat}(ih:∀a s,a<24->s<2^24->24<n+(aj s).length->(hgF p n a s).testBit a=true/\nc p s (hgF p n a s)):∀(L:List Nat) (s:Nat),(∀b,b∈L->b<24)->s<2^24->24<n+(aj s).length ->
  (∀b,b∈L->(L.foldl (fun (s:Nat) (b:Nat)=>hgF p n b s) s).testBit b=true)/\nc p s (L.foldl (fun (s:Nat) (b:Nat)=>hgF p n b s) s)
 |[],s,_,_,_=>⟨fun b hb=>(by cases hb),fun x h1 h2=>by rw[List.foldl_nil] at h1;rw[h1] at h2;cases h2⟩
 |b::L,s,hL,hs,hn=>by
  have hb:=hL b List.mem_cons_self
  obtain⟨u1,u2⟩:=gj hr n b hb s hs
  obtain⟨a1,a2⟩:=ih b s hb hs hn
  have hn':24<n+(aj (hgF p n b s)).length:=by have:=m6 u1;omega
  obtain⟨c1,c2⟩:=qF hr ih L (hgF p n b s) (fun c hc=>hL c (List.mem_cons_of_mem _ hc)) u2 hn'
  have up:=(fG (l:=L) (f:=fun (s:Nat) (b:Nat)=>hgF p n b s) (fun c hc=>gj hr n c (hL c (List.mem_cons_of_mem _ hc))) _ u2).1
  rw[List.foldl_cons]
  refine⟨fun c hc=>?_,fun x h1 h2 y hy=>?_⟩
  ·rcases List.mem_cons.1 hc with rfl|hc
   ·exact up _ a1
   ·exact c1 c hc
  ·by_cases hx:(hgF p n b s).testBit x=true
   ·exact up _ (a2 x hx h2 y hy)
   ·exact c2 x h1 (by simpa using hx) y hy
theorem qG {p:Prg}(hr:∀r,r∈p.rules.l->aP r):∀(n a s:Nat),a<24->s<2^24->24<n+(aj s).length->(hgF p n a s).testBit a=true/\nc p s (hgF p n a s)
 |0,a,s,_,_,h=>by have:=eF s;omega
 |n+1,a,s,ha,hs,h=>by
  rw[qD]
  by_cases hb:s.testBit a=true
  ·rw[if_pos hb]
   exact⟨hb,fun x h1 h2=>by rw[h1] at h2;cases h2⟩
  ·rw[if_neg hb]
   have hb:s.testBit a=false:=by simpa using hb
   have hs1:=ja hs ha
   have hn1:24<n+(aj (s|||2^a)).length:=by have:=qB ha hb;omega
   obtain⟨c1,c2⟩:=qF hr (qG hr n) (gk p a) _ (fun b hb=>qE hr hb) hs1 hn1
   have up:=(fG (l:=gk p a) (f:=fun (s:Nat) (b:Nat)=>hgF p n b s) (fun c hc=>gj hr n c (qE hr hc)) _ hs1).1
   have haT:=up a (by rw[gi];simp)
   refine⟨haT,fun x h1 h2 y hy=>?_⟩
   by_cases hxa:x=a
   ·subst hxa
    exact c1 y (m9.2 hy)
   ·exact c2 x h1 (by rw[gi,h2];simp;exact fun e=>hxa e.symm) y hy
theorem qH {p:Prg}:∀(n a s b:Nat),(hgF p n a s).testBit b=true->s.testBit b=true∨Reach p a b
 |0,_,_,_,h=>.inl h
 |n+1,a,s,b,h=>by
  rw[qD] at h
  by_cases hb:s.testBit a=true
  ·rw[if_pos hb] at h;exact .inl h
  ·rw[if_neg hb] at h
   have key:∀(L:List Nat) (s:Nat),(∀c,c∈L->jb p a c)->(L.foldl (fun (s:Nat) (b:Nat)=>hgF p n b s) s).testBit b=true->s.testBit b=true∨Reach p a b:=by
    intro L
    induction L with
    |nil=>intro s _ h;exact .inl h
    |cons c L ih=>
     intro s hL h
     rw[List.foldl_cons] at h
     rcases ih _ (fun d hd=>hL d (List.mem_cons_of_mem _ hd)) h with h|h
     ·rcases qH n c s b h with h|h
      ·exact .inl h
      ·exact .inr (.step (hL c List.mem_cons_self) h)
     ·exact .inr h
   rcases key _ _ (fun c hc=>m9.1 hc) h with h|h
   ·rw[gi,Bool.or_eq_true,decide_eq_true_eq] at h
    rcases h with h|h
    ·exact .inl h
    ·subst h;exact .inr (.refl _)
   ·exact .inr h
theorem dp {p:Prg}(hr:∀r,r∈p.rules.l->aP r){a b:Nat}(ha:a<24):(hgP p a).testBit b=true↔Reach p a b:=by
 have hc:=qG hr 25 a 0 ha (by decide) (by omega)
 constructor
 ·intro h
  rcases qH 25 a 0 b h with h|h
  ·simp at h
  ·exact h
 ·have key:∀x y,Reach p x y->(hgP p a).testBit x=true->(hgP p a).testBit y=true:=by
   intro x y h
   induction h with
   |refl=>exact fun h=>h
   |step h _ ih=>exact fun hx=>ih (hc.2 _ hx (by simp) _ h)
  exact fun h=>key a b h hc.1
theorem qI {p:Prg}(hl:∀r,r∈p.rules.l->∀l,l∈r.body.l->0<=l.atom/\l.atom<p.atoms){a b:Nat}(h:Reach p a b):a=b∨(b:Int)<p.atoms:=by
 induction h with
 |refl=>exact .inl rfl
 |step h k ih=>
  obtain⟨r,h1,_,l,h3,rfl⟩:=h
  have:=hl r h1 l h3
  rcases ih with rfl|h
  ·exact .inr (by omega)
  ·exact .inr h
def ca (s t:Nat):Nat:=(BitVec.ofNat 64 s &&& ~~~ BitVec.ofNat 64 t).toNat
theorem eH {s t:Nat}(hs:s<2^24)(j:Nat):(ca s t).testBit j=(s.testBit j && !t.testBit j):=by
 unfold ca
 rw[BitVec.testBit_toNat,BitVec.getLsbD_and,BitVec.getLsbD_not,BitVec.getLsbD_ofNat,BitVec.getLsbD_ofNat]
 by_cases hj:j<64
 ·simp only[hj,decide_true,Bool.true_and]
 ·rw[Nat.testBit_lt_two_pow (x:=s) (Nat.lt_of_lt_of_le (bN hs) (Nat.pow_le_pow_right (by decide) (by omega)))]
  simp[hj]
theorem kB {s t:Nat}:ca s t<=s:=by
 unfold ca
 rw[BitVec.toNat_and]
 refine Nat.le_trans Nat.and_le_left ?_
 rw[BitVec.toNat_ofNat]
 exact Nat.mod_le _ _
theorem ne {s t:Nat}(hs:s<2^24):IntKind.u64.wrap ((BitVec.ofInt 64 (s:Int) &&& ~~~ BitVec.ofInt 64 (t:Int)).toNat:Int)=((ca s t:Nat):Int):=by
 rw[BitVec.ofInt_natCast,BitVec.ofInt_natCast]
 exact Tb.wrapU (bN (Nat.lt_of_le_of_lt (kB (t:=t)) hs))
theorem wc {s:Nat}:s=0↔∀j,s.testBit j=false:=by
 constructor
 ·rintro rfl j;simp
 ·intro h
  exact Nat.eq_of_testBit_eq (fun j=>by rw[h j];simp)
theorem qJ {p:Prg}{a j:Nat}:∀{l:List Nat} {s:Nat},(l.foldl (fun (s:Nat) (b:Nat)=>if (hgP p b).testBit a then s|||2^b else s) s).testBit j=(s.testBit j||l.any (fun b=>b==j&&(hgP p b).testBit a))
 |[],s=>by simp
 |b::l,s=>by
  rw[List.foldl_cons,qJ,List.any_cons]
  cases hb:(hgP p b).testBit a with
  |true=>
   rw[if_pos rfl,gi,Bool.and_true,Bool.or_assoc]
   congr 2
  |false=>
   rw[if_neg (by decide),Bool.and_false,Bool.false_or]
theorem ec {p:Prg}(hr:∀r,r∈p.rules.l->aP r){a j:Nat}(ha:a<24):(au p a).testBit j=true↔Reach p a j/\Reach p j a/\j<24:=by
 unfold au
 rw[qJ]
 simp only[Nat.zero_testBit,Bool.false_or,List.any_eq_true,Bool.and_eq_true,beq_iff_eq]
 constructor
 ·rintro ⟨b,h1,rfl,h2⟩
  obtain⟨m1,m2⟩:=Tb.mem_memN.1 h1
  exact⟨(dp hr ha).1 m2,(dp hr m1).1 h2,m1⟩
 ·rintro ⟨h1,h2,h3⟩
  exact⟨j,Tb.mem_memN.2 ⟨h3,(dp hr ha).2 h1⟩,rfl,(dp hr h3).2 h2⟩
def ed (p:Prg)(left a:Nat):Bool:=ca (hgP p a&&&left) (au p a)==0
theorem nf {p:Prg}(hr:∀r,r∈p.rules.l->aP r){left a:Nat}(hl:left<2^24)(ha:a<24):ed p left a=true↔∀b,Reach p a b->left.testBit b=true->Reach p b a:=by
 unfold ed
 have hlt:hgP p a&&&left<2^24:=Nat.lt_of_le_of_lt Nat.and_le_right hl
 rw[beq_iff_eq,wc]
 constructor
 ·intro h b hb hbl
  have hb24:=g8 hl hbl
  have:=h b
  rw[eH hlt,Nat.testBit_and,(dp hr ha).2 hb,hbl] at this
  have h2:(au p a).testBit b=true:=by simpa using this
  exact((ec hr ha).1 h2).2.1
 ·intro h j
  rw[eH hlt,Nat.testBit_and]
  cases h1:(hgP p a).testBit j with
  |false=>rfl
  |true=>
   cases h2:left.testBit j with
   |false=>rfl
   |true=>
    have h3:=(dp hr ha).1 h1
    rw[(ec hr ha).2 ⟨h3,h j h3 h2,g8 hl h2⟩]
    rfl
theorem wd {p:Prg}(hr:∀r,r∈p.rules.l->aP r){left:Nat}(hl:left<2^24)(h0:left≠0):∃a,a∈aj left/\ed p left a=true:=by
 have key:∀(n a:Nat),a∈aj left->(aj (hgP p a&&&left)).length<=n->∃a,a∈aj left/\ed p left a=true:=by
  intro n
  induction n with
  |zero=>
   intro a ha h
   obtain⟨m1,m2⟩:=Tb.mem_memN.1 ha
   have:a∈aj (hgP p a&&&left):=Tb.mem_memN.2 ⟨m1,by rw[Nat.testBit_and,(dp hr m1).2 (.refl a),m2];rfl⟩
   rw[List.length_eq_zero_iff.1 (Nat.le_zero.1 h)] at this
   cases this
  |succ n ih=>
   intro a ha h
   obtain⟨m1,m2⟩:=Tb.mem_memN.1 ha
   by_cases hok:ed p left a=true
   ·exact⟨a,ha,hok⟩
   ·have hne:¬∀b,Reach p a b->left.testBit b=true->Reach p b a:=fun h=>hok ((nf hr hl m1).2 h)
    obtain⟨b,hb⟩:=Classical.not_forall.1 hne
    obtain⟨hb1,hb2⟩:=Classical.not_imp.1 hb
    obtain⟨hb2,hb3⟩:=Classical.not_imp.1 hb2
    have hb24:=g8 hl hb2
    refine ih b (Tb.mem_memN.2 ⟨hb24,hb2⟩) ?_
    have:(aj (hgP p b&&&left)).length<(aj (hgP p a&&&left)).length:=by
     refine i6 (fun j _ hj=>?_) ⟨a,List.mem_range.2 m1,?_,?_⟩
     ·rw[Nat.testBit_and,Bool.and_eq_true] at hj ⊢
      exact⟨(dp hr m1).2 (hb1.trans ((dp hr hb24).1 hj.1)),hj.2⟩
     ·rw[Nat.testBit_and,(dp hr m1).2 (.refl a),m2];rfl
     ·rw[Nat.testBit_and]
      cases hx:(hgP p b).testBit a with
      |false=>rfl
      |true=>exact absurd ((dp hr hb24).1 hx) hb3
    omega
 obtain⟨k,m,h⟩:=Tb.low_of (show 0<left by omega)
 have hk:left.testBit k=true:=by rw[Tb.low_bit h];simp
 exact key _ k (Tb.mem_memN.2 ⟨g8 hl hk,hk⟩) (Nat.le_refl _)
def hG (p:Prg)(left:Nat):Nat:=(aj left).findIdx (ed p left)
def bm (p:Prg)(left:Nat):Nat:=(aj left).getD (hG p left) 0
def eI (p:Prg):Nat->Nat->List Nat
 |0,_=>[]
 |n+1,left=>if left=0 then[] else au p (bm p left)::eI p n (ca left (au p (bm p left)))
def bP (p:Prg):List Nat:=eI p 25 (2^p.atoms.toNat-1)
theorem kC {p:Prg}(hr:∀r,r∈p.rules.l->aP r){left:Nat}(hl:left<2^24)(h0:left≠0):hG p left<(aj left).length/\ed p left (bm p left)=true/\(∀j,j<hG p left->ed p left ((aj left).getD j 0)=false)/\bm p left∈aj left:=by
 obtain⟨a,h1,h2⟩:=wd hr hl h0
 have hk:hG p left<(aj left).length:=List.findIdx_lt_length_of_exists ⟨a,h1,h2⟩
 have e:bm p left=(aj left)[hG p left]:=by
  unfold bm
  rw[List.getD_eq_getElem?_getD,List.getElem?_eq_getElem hk]
  rfl
 refine⟨hk,by rw[e];exact List.findIdx_getElem (w:=hk),fun j hj=>?_,by rw[e];exact List.getElem_mem hk⟩
 have:=List.not_of_lt_findIdx (p:=ed p left) (xs:=aj left) hj
 rw[List.getD_eq_getElem?_getD,List.getElem?_eq_getElem (by omega)]
 simpa using this
theorem nh {p:Prg}(hr:∀r,r∈p.rules.l->aP r){left:Nat}(hl:left<2^24)(h0:left≠0):(aj (ca left (au p (bm p left)))).length<(aj left).length:=by
 obtain⟨_,h2,_,h4⟩:=kC hr hl h0
 obtain⟨m1,m2⟩:=Tb.mem_memN.1 h4
 refine i6 (fun j _ hj=>?_) ⟨bm p left,List.mem_range.2 m1,m2,?_⟩
 ·rw[eH hl,Bool.and_eq_true] at hj
  exact hj.1
 ·rw[eH hl,(ec hr m1).2 ⟨.refl _,.refl _,m1⟩]
  simp
theorem qK (R:Res)(on:Nat)(a:Int)(hon:on<2^24)(ha:0<=a/\a<24)(g:R.σ):Does Tryd.prog R 73 [.int .i64 a,.ref 0 0] [.cells false 1 (fun _=>.int .u64 on)] g (.ret (.bool (!on.testBit a.toNat))) [.cells false 1 (fun _=>.int .u64 on)] g:=by
 refine ax (nt:=8) (rs:=[.tmp 3]) (k0:=1) (by kernel_rfl) (by kernel_rfl) (by kernel_rfl) rfl ?_
 refine vcQ [] (lkL [(0,[0,1]),(1,[3])]) (lkL [(1,[(2,ROrc.pcall (AV.bool (Nat.testBit on (a.toNat))))])]) (fun Q=>1<=1/\(∀(hp:List AObj) (g:R.σ),true=true/\Does Tryd.prog R 71 [int u64 (on:Int),int i64 a] hp g (ret (AV.bool (Nat.testBit on (a.toNat)))) hp g)/\Q AEx.ret (St.mk [(3,AV.bool !Nat.testBit on (a.toNat))] [cells false 1 fun (x:Nat)=>int u64 (on:Int)] g)) (fun _=>by kernel_rfl) ⟨by omega,(fun _ _=>⟨rfl,(mD _ _ _ (by omega) (by omega) _ _)⟩),?_⟩
 refine(av (aS _ _ rfl trivial rfl rfl rfl) (Le.refl _))
def cb (on:Nat)(a:Int):Bool:= !on.testBit a.toNat
theorem we {U:Type}(q:U->Bool)(x:U)(r:List U)(i:Nat):aI q (x::r) i=if q x then(i:Int) else aI q r (i+1):=rfl
theorem qL (R:Res)(l:List Int)(on:Nat)(hon:on<2^24)(hl:l.length<1000000)(ha:∀a,a∈l->0<=a/\a<24)(g:R.σ):Does Tryd.prog R 103 [.ow true 0 l.length 1,.fn 73 0 (nth []) 1 (nth [.ref 1 0])] [.cells false (l.length*1) (af l),.cells false 1 (fun _=>.int .u64 on)] g (.ret (.int .i64 (aI (cb on) l 0))) [.cells false (l.length*1) (af l),.cells false 1 (fun _=>.int .u64 on)] g:=by
 refine ax (nt:=19) (rs:=[.tmp 4]) (k0:=2) (by kernel_rfl) (by kernel_rfl) (by kernel_rfl) rfl ?_
 refine vcQ [] (lkL [(0,[0,1]),(1,[0,1,7,8])]) (fun _=>[]) (fun Q=>Wp Tryd.prog R 19 2 Rd.top (ah Tryd.prog 103) [1,0,1,0] (aq Tryd.prog R 19 2 Rd.top (ah Tryd.prog 103) Q [Kont.blk 0,Kont.seq [1,1]]) (St.mk [(0,ow true 0 (l.length) 1),(1,fn 73 0 (nth []) 1 (nth [ref 1 0])),(7,int i64 (l.length:Int)),(8,int i64 0)] [cells false (l.length*1) fun (a:Nat)=>af l a,cells false 1 fun (x:Nat)=>int u64 (on:Int)] g)) (fun _=>by kernel_rfl) (?_)
 refine(bb (by kernel_rfl) (fun (i:Nat)=>⟨[(0,ow true 0 (l.length) 1),(1,fn 73 0 (nth []) 1 (nth [ref 1 0])),(7,int i64 (l.length:Int)),(8,.int .i64 (i:Int))],[cells false (l.length*1) fun (a:Nat)=>af l a,cells false 1 fun (x:Nat)=>int u64 (on:Int)],g⟩) (fun (i:Nat)=>(i<=l.length/\aI (cb on) l 0=aI (cb on) (l.drop i) i)) (fun (i:Nat)=>(l.length-i)) 0 (aV ⟨Le.refl _,Le.refl _,Le.refl _,(Le.of_eq (by kernel_rfl)),trivial⟩ rfl rfl) ?_ (fun i hi=>?_))
 ·exact⟨Nat.zero_le _,rfl⟩
 ·obtain⟨h1,h2⟩:=hi
  rcases Nat.lt_or_ge i l.length with hlt|hge
  ·have hat:=ha _ (bK l 0 hlt)
   have hd:=fx l 0 hlt
   rw[hd,we] at h2
   refine vcQ [] (lkL [(2,[0,1,7,8,9]),(3,[0,1,5,7,8]),(4,[0,1,5,7,8,16]),(5,[4]),(6,[0,1,7,8])]) (lkL [(4,[(5,ROrc.kcall (AV.bool !Nat.testBit on ((l.getD i 0).toNat)))])]) (fun Q=>(fun (u1:List AObj)=>(fun (u2:Int)=>(fun (u3:Int)=>(fun (u4:Bool)=>(decide (u3<u2)=true->(0<=u3/\u3<u2)/\i+1<=l.length*1/\(true=true/\Does Tryd.prog R 73 [af l i,ref 1 0] u1 g (ret (AV.bool u4)) u1 g)/\(u4=true->Q AEx.ret (St.mk [(4,int i64 u3)] u1 g))/\(u4=false->(-9223372036854775808<=u3+1/\u3+1<=9223372036854775807)/\Q AEx.normal (St.mk [(0,ow true 0 (l.length) 1),(1,fn 73 0 (nth []) 1 (nth [ref 1 0])),(7,int i64 u2),(8,int i64 (u3+1))] u1 g)))/\(decide (u3<u2)=false->Q (AEx.exit 0) (St.mk [(0,ow true 0 (l.length) 1),(1,fn 73 0 (nth []) 1 (nth [ref 1 0])),(7,int i64 u2),(8,int i64 u3),(9,AV.bool (decide (u3<u2)))] u1 g))) (!Nat.testBit on ((l.getD i 0).toNat))) ((i:Int))) ((l.length:Int))) ([cells false (l.length*1) fun (a:Nat)=>af l a,cells false 1 fun (x:Nat)=>int u64 (on:Int)])) (fun _=>by kernel_rfl) ⟨fun c1=>have c1:(i:Int)<(l.length:Int):=(of_decide_eq_true c1);⟨by omega,by omega,⟨rfl,(cf [1] 2 (fun R g=>qK R (on) (l.getD i 0) (by omega) (by omega) g) rfl rfl rfl (by exact⟨⟨rfl,Nat.le_refl _,fun j hj=>match j,hj with|0,_=>(Le.refl _) ⟩,trivial⟩) (by exact⟨by omega,trivial⟩) (by exact⟨aB (by exact trivial),Le.refl _,trivial⟩) (by exact aC (by exact trivial)) (by exact⟨LeO.rflc,⟨rfl,Nat.le_refl _,fun j hj=>match j,hj with|0,_=>(Le.refl _) ⟩,trivial⟩))⟩,fun c2=>have c2:Nat.testBit on ((l.getD i 0).toNat)=false:=((Bool.not_eq_true' _).mp c2);?_,fun c2=>have c2:Nat.testBit on ((l.getD i 0).toNat)=true:=((Bool.not_eq_false' _).mp c2);⟨by omega,?_⟩⟩,fun c1=>have c1:¬(i:Int)<(l.length:Int):=(of_decide_eq_false c1);?_⟩
   ·have hq:cb on (l.getD i 0)=true:=by unfold cb;rw[c2];rfl
    rw[if_pos hq] at h2
    rw[h2]
    refine⟨_,To.refl _,(av (aS _ _ rfl trivial rfl rfl rfl) (Le.refl _))⟩
   ·have hq:cb on (l.getD i 0)=false:=by unfold cb;rw[c2];rfl
    rw[if_neg (by rw[hq];decide)] at h2
    refine(aX (i+1) (aV ⟨Le.refl _,Le.refl _,Le.refl _,(Le.of_eq (by kernel_rfl)),trivial⟩ rfl rfl) ?_ ?_)
    ·exact⟨by omega,h2⟩
    ·omega
   ·exfalso;omega
  ·have hie:i=l.length:=by omega
   subst hie
   rw[List.drop_length] at h2
   have hb:decide ((l.length:Int)<(l.length:Int))=false:=decide_eq_false (by omega)
   refine vcQ [[1,0,1,0,0,1,0,0]] (lkL [(2,[0,1,7,8,9])]) (fun _=>[]) (fun Q=>(fun (u1:Int)=>(fun (u2:St R.σ)=>(decide (u1<u1)=true->Wp Tryd.prog R 19 2 Rd.top (ah Tryd.prog 103) [1,0,1,0,0,1,0,0] (aq Tryd.prog R 19 2 Rd.top (ah Tryd.prog 103) Q [Kont.seq [1,0,1,0,0,1,1]]) u2)/\(decide (u1<u1)=false->Q (AEx.exit 0) u2)) (St.mk [(0,ow true 0 (l.length) 1),(1,fn 73 0 (nth []) 1 (nth [ref 1 0])),(7,int i64 u1),(8,int i64 u1),(9,AV.bool (decide (u1<u1)))] [cells false (l.length*1) fun (a:Nat)=>af l a,cells false 1 fun (x:Nat)=>int u64 (on:Int)] g)) ((l.length:Int))) (fun _=>by kernel_rfl) ⟨fun hcc=>(nomatch (hb.symm.trans hcc)),fun _=>?_⟩
   refine⟨_,To.refl _,vcQ [] (lkL [(7,[4])]) (fun _=>[]) (fun Q=>Q AEx.ret (St.mk [(4,int i64 (-1))] [cells false (l.length*1) fun (a:Nat)=>af l a,cells false 1 fun (x:Nat)=>int u64 (on:Int)] g)) (fun _=>by kernel_rfl) (?_)⟩
   rw[h2]
   refine(av (aS _ _ rfl trivial rfl rfl rfl) (Le.of_eq (by kernel_rfl)))
def b8 (on:Nat)(l:List Int)(j:Nat):List Int:=(l.take j).filter (fun a=>on.testBit a.toNat)
def cL (on:Nat)(l:List Int)(j:Nat):Nat->AV:=fun c=>if c<(b8 on l j).length then .int .i64 ((b8 on l j).getD c 0) else if j<=c then .int .i64 (l.getD c 0) else .any
theorem qM {on:Nat}{l:List Int}{j:Nat}(h:j<l.length):b8 on l (j+1)=if on.testBit (l.getD j 0).toNat then b8 on l j++[l.getD j 0] else b8 on l j:=by
 unfold b8
 rw[List.take_add_one,List.filter_append,List.getElem?_eq_getElem h,List.getD_eq_getElem?_getD,List.getElem?_eq_getElem h]
 cases hb:on.testBit l[j].toNat <;> simp[hb]
def aY (on:Nat)(l:List Int):List Int:=l.filter (fun a=>on.testBit a.toNat)
theorem wg {on:Nat}{l:List Int}{k:Nat}(hk:k<=l.length)(h:∀j,j<k->cb on (l.getD j 0)=false):b8 on l k=l.take k:=by
 unfold b8
 rw[List.filter_eq_self]
 intro a ha
 obtain⟨j,hj,e⟩:=List.mem_iff_getElem.1 ha
 rw[List.length_take] at hj
 have:=h j (by omega)
 rw[List.getD_eq_getElem?_getD,List.getElem?_eq_getElem (by omega)] at this
 unfold cb at this
 rw[List.getElem_take] at e
 rw[<-e]
 simpa using this
theorem wh (R:Res)(l:List Int)(on:Nat)(hon:on<2^24)(hl:0<l.length/\l.length<1000000)(ha:∀a,a∈l->0<=a/\a<24)(g:R.σ):Does Tryd.prog R 72 [.ow true 0 l.length 1,.fn 73 0 (nth []) 1 (nth [.ref 1 0])] [.cells false (l.length*1) (af l),.cells false 1 (fun _=>.int .u64 on)] g (.ret (.sl 0 0 (aY on l).length l.length false 1)) [.cells false ((aY on l).length*1) (af (aY on l)),.cells false 1 (fun _=>.int .u64 on)] g:=by
 by_cases h0:0<=aI (cb on) l 0
 ·obtain⟨k,k1,k2,k3,k4⟩:=i5 (cb on) 0 l 0 h0
  rw[Nat.zero_add] at k2
  have hkp:=wg (by omega) k4
  refine ax (nt:=42) (rs:=[.tmp 4]) (k0:=2) (by kernel_rfl) (by kernel_rfl) (by kernel_rfl) rfl ?_
  have hk1:b8 on l (k+1)=l.take k:=by
   rw[qM k1,hkp,if_neg (by unfold cb at k3;simpa using k3)]
  have hkl:(b8 on l (k+1)).length=k:=by rw[hk1,List.length_take];omega
  refine vcQ [] (lkL [(0,[0,1]),(1,[0,1,5]),(2,[0,1,5,12]),(3,[4]),(4,[0,1,5,6])]) (lkL [(1,[(2,ROrc.kcall (int i64 (aI (cb on) l 0)))])]) (fun Q=>(fun (u1:List AObj)=>(fun (u2:Int)=>(fun (u3:AV)=>(true=true/\Does Tryd.prog R 103 [u3,fn 73 0 (nth []) 1 (nth [ref 1 0])] u1 g (ret (int i64 u2)) u1 g)/\((u2 == -1)=true->Q AEx.ret (St.mk [(4,u3)] u1 g))/\((u2 == -1)=false->(-9223372036854775808<=u2+1/\u2+1<=9223372036854775807)/\Wp Tryd.prog R 42 2 Rd.top (ah Tryd.prog 72) [1,1,1,0,1,0] (aq Tryd.prog R 42 2 Rd.top (ah Tryd.prog 72) Q [Kont.blk 0,Kont.seq [1,1,1,1]]) (St.mk [(0,u3),(1,fn 73 0 (nth []) 1 (nth [ref 1 0])),(5,int i64 u2),(6,int i64 (u2+1))] u1 g))) (ow true 0 (l.length) 1)) (aI (cb on) l 0)) ([cells false (l.length*1) fun (a:Nat)=>af l a,cells false 1 fun (x:Nat)=>int u64 (on:Int)])) (fun _=>by kernel_rfl) ⟨⟨rfl,(qL _ _ _ (by omega) (by omega) (by omega) _)⟩,fun c1=>have c1:aI (cb on) l 0 = -1:=(beq_iff_eq.mp c1);?_,fun c1=>have c1:¬aI (cb on) l 0 = -1:=(beq_eq_false_iff_ne.mp c1);⟨by omega,?_⟩⟩
  ·exact absurd c1 (by omega)
  ·rw[k2]
   refine(bb (by kernel_rfl) (fun (x:Nat)=>⟨[(0,ow true 0 (l.length) 1),(1,fn 73 0 (nth []) 1 (nth [ref 1 0])),(5,.int .i64 (b8 on l x).length),(6,.int .i64 x)],[.cells false (l.length*1) (cL on l x),.cells false 1 (fun _=>.int .u64 on)],g⟩) (fun (x:Nat)=>(x<=l.length/\(b8 on l x).length<x)) (fun (x:Nat)=>(l.length-x)) (k+1) (bl ⟨Le.refl _,Le.refl _,(Le.of_eq ?_),(Le.of_eq (by kernel_rfl)),trivial⟩ ⟨?_,LeO.rflc,trivial⟩ rfl) ?_ (fun x hi=>?_))
   ·show AV.int .i64 _=AV.int .i64 _
    rw[hkl]
   ·refine⟨rfl,Nat.le_refl _,fun c hc=>?_⟩
    show Le (af l c) (cL on l (k+1) c)
    unfold cL
    rw[hkl]
    split
    ·refine Le.of_eq ?_
     show AV.int .i64 _=AV.int .i64 _
     rw[hk1,List.getD_eq_getElem?_getD,List.getD_eq_getElem?_getD,List.getElem?_take,if_pos (by omega)]
    ·split
     ·exact Le.refl _
     ·exact Le.any _
   ·exact⟨by omega,by omega⟩
   ·obtain⟨h1,h2⟩:=hi
    rcases Nat.lt_or_ge x l.length with hlt|hge
    ·have hat:=ha _ (bK l 0 hlt)
     have hks:=qM (on:=on) hlt
     have hdx:cL on l x x=.int .i64 (l.getD x 0):=by
      unfold cL
      rw[if_neg (by omega),if_pos (Nat.le_refl _)]
     refine vcQ [] (lkL [(5,[0,1,5,6,19]),(7,[0,1,5,6,7]),(8,[0,1,5,6,7,29]),(9,[0,1,5,6]),(10,[0,1,5,6]),(6,[0,1,5,6])]) (lkL [(7,[(3,ROrc.kop (int i64 (l.getD x 0)))]),(8,[(2,ROrc.kcall (AV.bool !Nat.testBit on ((l.getD x 0).toNat)))])]) (fun Q=>(fun (u1:List AObj)=>(fun (u2:Int)=>(fun (u3:Int)=>(fun (u4:Int)=>(fun (u5:List (Nat × AV))=>(fun (u6:Bool)=>(fun (u7:AV)=>(decide (u4<u3)=true->(0<=u4/\u4<u3)/\OpOk Tryd.prog R (Oper.mk (some 25) (Op.load 3 (Operand.tmp 24)) 3 "slices.go:248" #[Edge.mk 2 Ground.data] none) (evO [Row.mk (some 24) none (ref 0 x) false (some []) [],Row.mk (some 23) none (int i64 u4) false (some []) [],Row.mk (some 22) none u7 false (some []) []] u5 []) u1 g (af l x) u1 g/\(true=true/\Does Tryd.prog R 73 [af l x,ref 1 0] u1 g (ret (AV.bool u6)) u1 g)/\((!u6)=true->(0<=u2/\u2<u3)/\(b8 on l x).length+1<=l.length*1/\(-9223372036854775808<=u2+1/\u2+1<=9223372036854775807)/\(-9223372036854775808<=u4+1/\u4+1<=9223372036854775807)/\Q AEx.normal (St.mk [(0,u7),(1,fn 73 0 (nth []) 1 (nth [ref 1 0])),(5,int i64 (u2+1)),(6,int i64 (u4+1))] [cells false (l.length*1) (ap (cL on l x) ((b8 on l x).length) 1 fun (x_3:Nat)=>af l x),cells false 1 fun (x:Nat)=>int u64 (on:Int)] g))/\((!u6)=false->(-9223372036854775808<=u4+1/\u4+1<=9223372036854775807)/\Q AEx.normal (St.mk [(0,u7),(1,fn 73 0 (nth []) 1 (nth [ref 1 0])),(5,int i64 u2),(6,int i64 (u4+1))] u1 g)))/\(decide (u4<u3)=false->Q (AEx.exit 0) (St.mk u5 u1 g))) (ow true 0 (l.length) 1)) (!Nat.testBit on ((l.getD x 0).toNat))) ([(0,ow true 0 (l.length) 1),(1,fn 73 0 (nth []) 1 (nth [ref 1 0])),(5,int i64 u2),(6,int i64 u4),(19,AV.bool (decide (u4<u3)))])) ((x:Int))) ((l.length:Int))) ((↑((b8 on l x).length):Int))) ([cells false (l.length*1) (cL on l x),cells false 1 fun (x:Nat)=>int u64 (on:Int)])) (fun _=>by kernel_rfl) ⟨fun c1=>have c1:(x:Int)<(l.length:Int):=(of_decide_eq_true c1);⟨by omega,?_,⟨rfl,(cf [1] 2 (fun R g=>qK R (on) (l.getD x 0) (by omega) (by omega) g) rfl rfl rfl (by exact⟨⟨rfl,Nat.le_refl _,fun j hj=>match j,hj with|0,_=>(Le.refl _) ⟩,trivial⟩) (by exact⟨by omega,trivial⟩) (by exact⟨aB (by exact trivial),Le.refl _,trivial⟩) (by exact aC (by exact trivial)) (by exact⟨LeO.rflc,⟨rfl,Nat.le_refl _,fun j hj=>match j,hj with|0,_=>(Le.refl _) ⟩,trivial⟩))⟩,fun c2=>have c2:Nat.testBit on ((l.getD x 0).toNat)=true:=((Bool.not_eq_false' _).mp ((Bool.not_eq_true' _).mp c2));⟨by omega,by omega,by omega,by omega,?_⟩,fun c2=>have c2:Nat.testBit on ((l.getD x 0).toNat)=false:=((Bool.not_eq_true' _).mp ((Bool.not_eq_false' _).mp c2));⟨by omega,?_⟩⟩,fun c1=>have c1:¬(x:Int)<(l.length:Int):=(of_decide_eq_false c1);?_⟩
     ·exact eV rfl rfl (by kernel_rfl) rfl (by show _+1<=_;omega) hdx
     ·rw[if_pos c2] at hks
      refine(aX (x+1) (bl ⟨Le.refl _,Le.refl _,(Le.of_eq ?_),(Le.of_eq (by kernel_rfl)),trivial⟩ ⟨?_,LeO.rflc,trivial⟩ rfl) ?_ ?_)
      ·show AV.int .i64 _=AV.int .i64 _
       rw[hks,List.length_append]
       rfl
      ·refine⟨rfl,Nat.le_refl _,fun c hc=>?_⟩
       rw[dI]
       unfold cL
       rw[hks,List.length_append,List.length_singleton]
       rcases Nat.lt_trichotomy c (b8 on l x).length with h|h|h
       ·rw[if_neg (by omega),if_pos h,if_pos (by omega),List.getD_eq_getElem?_getD,List.getD_eq_getElem?_getD,List.getElem?_append_left h]
        exact Le.refl _
       ·subst h
        rw[if_pos (by omega),if_pos (by omega),List.getD_eq_getElem?_getD,List.getElem?_append_right (Nat.le_refl _),Nat.sub_self]
        exact Le.refl _
       ·rw[if_neg (show ¬((b8 on l x).length<=c/\c<(b8 on l x).length+1) by omega),if_neg (show ¬c<(b8 on l x).length by omega),if_neg (show ¬c<(b8 on l x).length+1 by omega)]
        by_cases h3:x+1<=c
        ·rw[if_pos (show x<=c by omega),if_pos h3];exact Le.refl _
        ·rw[if_neg h3];exact Le.any _
      ·refine⟨by omega,?_⟩
       rw[hks,List.length_append,List.length_singleton]
       omega
      ·omega
     ·rw[if_neg (by rw[c2];decide)] at hks
      refine(aX (x+1) (bl ⟨Le.refl _,Le.refl _,(Le.of_eq ?_),(Le.of_eq (by kernel_rfl)),trivial⟩ ⟨?_,LeO.rflc,trivial⟩ rfl) ?_ ?_)
      ·show AV.int .i64 _=AV.int .i64 _
       rw[hks]
      ·refine⟨rfl,Nat.le_refl _,fun c hc=>?_⟩
       unfold cL
       rw[hks]
       by_cases h:c<(b8 on l x).length
       ·rw[if_pos h,if_pos h];exact Le.refl _
       ·rw[if_neg h,if_neg h]
        by_cases h3:x+1<=c
        ·rw[if_pos (by omega),if_pos h3];exact Le.refl _
        ·rw[if_neg h3];exact Le.any _
      ·refine⟨by omega,?_⟩
       rw[hks]
       omega
      ·omega
     ·exfalso;omega
    ·have hxe:x=l.length:=by omega
     subst hxe
     have hkk:b8 on l l.length=aY on l:=by unfold b8 aY;rw[List.take_length]
     rw[hkk] at h2 ⊢
     have hb:decide ((l.length:Int)<(l.length:Int))=false:=decide_eq_false (by omega)
     refine vcQ [[1,1,1,0,1,0,0,0,1,0]] (lkL [(5,[0,1,5,6,19])]) (fun _=>[]) (fun Q=>(fun (u1:Int)=>(fun (u2:St R.σ)=>(decide (u1<u1)=true->Wp Tryd.prog R 42 2 Rd.top (ah Tryd.prog 72) [1,1,1,0,1,0,0,0,1,0] (aq Tryd.prog R 42 2 Rd.top (ah Tryd.prog 72) Q [Kont.seq [1,1,1,0,1,0,0,1]]) u2)/\(decide (u1<u1)=false->Q (AEx.exit 0) u2)) (St.mk [(0,ow true 0 (l.length) 1),(1,fn 73 0 (nth []) 1 (nth [ref 1 0])),(5,int i64 (↑((aY on l).length):Int)),(6,int i64 u1),(19,AV.bool (decide (u1<u1)))] [cells false (l.length*1) (cL on l (l.length)),cells false 1 fun (x:Nat)=>int u64 (on:Int)] g)) ((l.length:Int))) (fun _=>by kernel_rfl) ⟨fun hcc=>(nomatch (hb.symm.trans hcc)),fun _=>?_⟩
     refine⟨_,To.refl _,vcQ [] (lkL [(11,[0,5]),(12,[4])]) (lkL [(11,[(3,ROrc.own any [cells false ((aY on l).length*1) (cL on l (l.length)),cells false 1 fun (x:Nat)=>int u64 (on:Int)] g)])]) (fun Q=>(fun (u1:Nat)=>(fun (u2:Int)=>(fun (u3:AObj)=>(fun (u4:Int)=>l.length<=l.length/\(0<=u4/\u4<=u2)/\u1<l.length/\OpOk Tryd.prog R (Oper.mk none (Op.call (Call.mk (Callee.builtin Builtin.clear) #[Operand.tmp 38] #[53])) 0 "slices.go:253" #[Edge.mk 2 Ground.data] none) (evO [Row.mk (some 38) none (sl 0 (u1*1) (l.length-u1) (l.length-u1) false 1) false (some []) [],Row.mk (some 37) none (int i64 u4) false (some []) [],Row.mk (some 36) none (ow true 0 (l.length) 1) false (some []) []] [(0,ow true 0 (l.length) 1),(1,fn 73 0 (nth []) 1 (nth [ref 1 0])),(5,int i64 u4),(6,int i64 u2),(19,AV.bool (decide (u2<u2)))] []) [cells false (l.length*1) (cL on l (l.length)),u3] g any [cells false (u1*1) (cL on l (l.length)),u3] g/\(0<=u4/\u4<=u2)/\0<l.length/\Q AEx.ret (St.mk [(4,sl 0 0 (u1-0) (l.length-0) false 1)] [cells false (u1*1) (cL on l (l.length)),u3] g)) ((u1:Int))) (cells false 1 fun (x:Nat)=>int u64 (on:Int))) ((l.length:Int))) ((aY on l).length)) (fun _=>by kernel_rfl) ⟨by omega,by omega,by omega,?_,by omega,by omega,?_⟩⟩
     ·obtain⟨ei,hei⟩:=tL (ty:=ay Tryd.prog) (t:=53) (es:=1) (by kernel_rfl)
      refine qc (tK (t:=53) (es:=1) (N:=l.length*1) (len:=l.length-(aY on l).length) (get0:=cL on l l.length) rfl rfl rfl rfl rfl rfl hei (by omega) (Nat.le_refl _) (by decide) (by omega)) rfl
     ·show bz Tryd.prog R 2 _ _ _ _ .ret _
      refine eU (.sl 0 0 ((aY on l).length-0) (l.length-0) false 1) _ rfl trivial (bl ⟨Le.refl _,trivial⟩ ⟨⟨rfl,Nat.le_refl _,fun c hc=>Le.of_eq ?_⟩,LeO.refl _,trivial⟩ rfl)
      show cL on l l.length c=af (aY on l) c
      unfold cL
      rw[hkk,if_pos (by omega)]
      rfl
 ·have hm:=qn (cb on) l 0 h0
  have hk:aY on l=l:=by
   unfold aY
   rw[List.filter_eq_self]
   intro a ha
   have:=hm.2 a ha
   unfold cb at this
   simpa using this
  rw[hk]
  refine ax (nt:=42) (rs:=[.tmp 4]) (k0:=2) (by kernel_rfl) (by kernel_rfl) (by kernel_rfl) rfl ?_
  refine vcQ [] (lkL [(0,[0,1]),(1,[0,1,5]),(2,[0,1,5,12]),(3,[4]),(4,[0,1,5,6])]) (lkL [(1,[(2,ROrc.kcall (int i64 (aI (cb on) l 0)))])]) (fun Q=>(fun (u1:List AObj)=>(fun (u2:Int)=>(fun (u3:AV)=>(true=true/\Does Tryd.prog R 103 [u3,fn 73 0 (nth []) 1 (nth [ref 1 0])] u1 g (ret (int i64 u2)) u1 g)/\((u2 == -1)=true->Q AEx.ret (St.mk [(4,u3)] u1 g))/\((u2 == -1)=false->(-9223372036854775808<=u2+1/\u2+1<=9223372036854775807)/\Wp Tryd.prog R 42 2 Rd.top (ah Tryd.prog 72) [1,1,1,0,1,0] (aq Tryd.prog R 42 2 Rd.top (ah Tryd.prog 72) Q [Kont.blk 0,Kont.seq [1,1,1,1]]) (St.mk [(0,u3),(1,fn 73 0 (nth []) 1 (nth [ref 1 0])),(5,int i64 u2),(6,int i64 (u2+1))] u1 g))) (ow true 0 (l.length) 1)) (aI (cb on) l 0)) ([cells false (l.length*1) fun (a:Nat)=>af l a,cells false 1 fun (x:Nat)=>int u64 (on:Int)])) (fun _=>by kernel_rfl) ⟨⟨rfl,(qL _ _ _ (by omega) (by omega) (by omega) _)⟩,fun c1=>have c1:aI (cb on) l 0 = -1:=(beq_iff_eq.mp c1);?_,fun c1=>have c1:¬aI (cb on) l 0 = -1:=(beq_eq_false_iff_ne.mp c1);⟨by omega,?_⟩⟩
  ·refine eU (.ow true 0 l.length 1) _ rfl trivial (bl ⟨Le.ow_sl (by omega),trivial⟩ ⟨LeO.refl _,LeO.refl _,trivial⟩ rfl)
  ·exact absurd hm.1 c1
def aK (on:Nat)(l:List Rule):List Rule:=l.filter (fun r=>on.testBit r.head.toNat)
def bf (on:Nat):List Rule->Nat->List Int
 |[],_=>[]
 |r::l,i=>if on.testBit r.head.toNat then(i:Int)::bf on l (i+1) else bf on l (i+1)
theorem qN (on:Nat):∀(l:List Rule) (i:Nat),(bf on l i).length=(aK on l).length
 |[],_=>rfl
 |r::l,i=>by
  unfold bf aK
  rw[List.filter_cons]
  have ih:=qN on l (i+1)
  unfold aK at ih
  split <;> simp[ih]
theorem qO (on:Nat):∀(l l':List Rule) (i:Nat),bf on (l++l') i=bf on l i++bf on l' (i+l.length)
 |[],l',i=>rfl
 |r::l,l',i=>by
  show(if on.testBit r.head.toNat then(i:Int)::bf on (l++l') (i+1) else bf on (l++l') (i+1))=(if on.testBit r.head.toNat then(i:Int)::bf on l (i+1) else bf on l (i+1))++_
  rw[qO on l l' (i+1),show i+1+l.length=i+(r::l).length by simp;omega]
  split <;> rfl
theorem wi {on:Nat}{l:List Rule}{i:Nat}(h:i<l.length):aK on (l.take (i+1))=if on.testBit (l.getD i default).head.toNat then aK on (l.take i)++[l.getD i default] else aK on (l.take i):=by
 unfold aK
 rw[List.take_add_one,List.filter_append,List.getElem?_eq_getElem h,List.getD_eq_getElem?_getD,List.getElem?_eq_getElem h]
 cases hb:on.testBit l[i].head.toNat <;> simp[hb]
theorem wj {on:Nat}{l:List Rule}{i:Nat}(h:i<l.length):bf on (l.take (i+1)) 0=if on.testBit (l.getD i default).head.toNat then bf on (l.take i) 0++[(i:Int)] else bf on (l.take i) 0:=by
 rw[List.take_add_one,List.getElem?_eq_getElem h,List.getD_eq_getElem?_getD,List.getElem?_eq_getElem h,Option.toList_some,qO,List.length_take,Nat.min_eq_left (by omega),Nat.zero_add]
 show _++(if on.testBit l[i].head.toNat then(i:Int)::[] else[])=_
 rw[Option.getD_some]
 split <;> simp
theorem wk {q:List Int}{s:Int}{c:Nat}{z:Nat->AV}(hc:c<(q.length+1)*1):af (q++[s]) c=a9 1 q.length (fun i j=>af q (i*1+j)) (fun i j=>ap z 0 1 (fun _=>.int .i64 s) (0+i*1+j)) c:=by
 unfold a9
 by_cases h:c<q.length*1
 ·rw[if_pos h]
  show _=af q (c/1*1+c%1)
  rw[show c/1*1+c%1=c by omega]
  unfold af
  rw[List.getD_eq_getElem?_getD,List.getElem?_append_left (by omega),<-List.getD_eq_getElem?_getD]
 ·rw[if_neg h]
  show _=ap z 0 1 _ (0+(c-q.length*1)/1*1+(c-q.length*1)%1)
  rw[dI,if_pos (by omega),show c=q.length by omega]
  unfold af
  rw[List.getD_eq_getElem?_getD,List.getElem?_append_right (Nat.le_refl _),Nat.sub_self]
  rfl
theorem wl {k:Nat}(l:List Rule)(j:Nat):Below k (a8 l j):=qb _ _
theorem nat1_rng:∀(k n d j:Nat),j<k->aw (rng k n) d j=n+j
 |0,_,_,_,h=>absurd h (Nat.not_lt_zero _)
 |k+1,n,d,0,_=>rfl
 |k+1,n,d,j+1,h=>by
  show aw (rng k (n+1)) d j=_
  rw[nat1_rng k (n+1) d j (by omega)]
  omega
theorem kD {n:Nat}{c:Nat->AV}(h:∀j,j<n->Below 0 (c j))(f:Nat->Nat):LeO (.cells false n c) (bI f (.cells false n c)):=⟨rfl,Nat.le_refl _,fun j hj=>aB (h j hj)⟩
def bW (b:Nat)(l:List Stp):Nat->AV:=fun c=>bif Nat.beq (c%2) 0 then .int .i64 (l.getD (c/2) default).rule else .ow true (b+c/2) (l.getD (c/2) default).atoms.length 1
theorem ni {f:Nat->Nat}{b b':Nat}{l:List Stp}{c:Nat}(h:f (b+c/2)=b'+c/2):aU f (bW b l c)=bW b' l c:=by
 unfold bW
 cases Nat.beq (c%2) 0 with
 |true=>rfl
 |false=>
  show AV.ow true (f (b+c/2)) _ 1=_
  rw[h]
  rfl
theorem wm (R:Res)[hT:Tab LT R](p:Prg)(n0 n1 n2 n3:Nat)(c0 c1 c2 c3:Nat->AV)(b0:∀j,j<n0->Below 0 (c0 j))(b1:∀j,j<n1->Below 0 (c1 j))(b2:∀j,j<n2->Below 0 (c2 j))(b3:∀j,j<n3->Below 0 (c3 j))(hl:p.rules.l.length<1000000)(hr:∀r,r∈p.rules.l->aP r)(hp:cJ p)(hh:dx p)(g:R.σ):Does Tryd.prog R 60 [aA p] [.cells false n0 c0,.cells false n1 c1,.cells false n2 c2,.cells false n3 c3] g (.ret (.tup 2 (nth [.ow true 5 (al p).1.length 2,.ref 4 0])))
  (.cells false n0 c0::.cells false n1 c1::.cells false n2 c2::.cells false n3 c3::.cells false 27 (aM (al p).2)::.cells false ((al p).1.length*2) (bW 6 (al p).1)::bx (ab (al p).1) []) g:=by
 have hlen:=mU hp hr hh
 have h1:Does Tryd.prog R 60 [aA p] [.cells false n0 c0,.cells false n1 c1,.cells false n2 c2,.cells false n3 c3] g (.ret (.tup 2 (nth [.ow true 6 (al p).1.length 2,.ref 4 0])))
   (.cells false n0 c0::.cells false n1 c1::.cells false n2 c2::.cells false n3 c3::.cells false 27 (ai p (al p).2 (.mp 5))::.map (esF p.rules.l)::.cells false ((al p).1.length*2) (bW 7 (al p).1)::bx (ab (al p).1) []) g:=
  bc hT [] 4 (fun R _ g=>qy R p hl hr hp hh g) rfl rfl rfl trivial trivial ⟨aB (by exact⟨⟨trivial,trivial⟩,trivial⟩),trivial⟩ (Le.tup (fun j hj=>match j,hj with|0,_=>Le.refl _|1,_=>Le.refl _)) ⟨LeO.refl _,LeO.refl _,LeO.refl _,LeO.refl _,LeO.cells (fun j hj=>bZ (by rfl)),rfl,LeO.cells (fun c hc=>ni (b:=3) (by
   show aw ([]++rng 27 4) (4+27) (3+c/2)=7+c/2
   rw[List.nil_append,nat1_rng 27 4 31 (3+c/2) (by omega)]
   omega)),LeO.refl _,LeO.refl _,LeO.refl _,LeO.refl _,LeO.refl _,LeO.refl _,LeO.refl _,LeO.refl _,LeO.refl _,LeO.refl _,LeO.refl _,LeO.refl _,LeO.refl _,LeO.refl _,LeO.refl _,LeO.refl _,LeO.refl _,LeO.refl _,LeO.refl _,LeO.refl _,LeO.refl _,LeO.refl _,LeO.refl _,LeO.refl _,trivial⟩
 refine gT h1 (bo [0,1,2,3,4,6,7,8,9,10,11,12,13,14,15,16,17,18,19,20,21,22,23,24,25,26,27,28,29,30] 31 rfl rfl rfl rfl rfl ⟨Le.tup (fun j hj=>match j,hj with|0,_=>Le.refl _|1,_=>Le.refl _),trivial⟩ ?_)
 refine⟨kD b0 _,kD b1 _,kD b2 _,kD b3 _,⟨rfl,Nat.le_refl _,fun j hj=>by
  show Le (ai p _ (.mp 5) j) (aU _ (aM _ j))
  rw[cK trivial]
  exact qz⟩,LeO.cells (fun c hc=>?_),LeO.refl _,LeO.refl _,LeO.refl _,LeO.refl _,LeO.refl _,LeO.refl _,LeO.refl _,LeO.refl _,LeO.refl _,LeO.refl _,LeO.refl _,LeO.refl _,LeO.refl _,LeO.refl _,LeO.refl _,LeO.refl _,LeO.refl _,LeO.refl _,LeO.refl _,LeO.refl _,LeO.refl _,LeO.refl _,LeO.refl _,LeO.refl _,trivial⟩
 refine(ni (b:=6) (b':=7) (c:=c) ?_).symm
 have h:(List.range 24).all (fun i=>aw [0,1,2,3,4,6,7,8,9,10,11,12,13,14,15,16,17,18,19,20,21,22,23,24,25,26,27,28,29,30] 31 (6+i)==7+i)=true:=by decide +kernel
 simpa using (List.all_eq_true.1 h) (c/2) (List.mem_range.2 (by omega))
def az (p:Prg)(on:Nat):Prg:=⟨p.atoms,aK on p.rules.l,.auto⟩
theorem wn {p:Prg}{on:Nat}{hp:List AObj}{k m o:Nat}(ho:ag hp o=.cells false ((aK on p.rules.l).length*2) (a8 (aK on p.rules.l)))(hk:k<=o):aE hp k m (.ow true o (aK on p.rules.l).length 2) (ae (az p on).rules):=
 (aE.ow ho hk (Nat.le_refl _) (by decide) (fun j _=>aE.below (wl _ _))).le (Le.fz rfl (fun i j hi hj=>by
  show a8 _ (i*2+j)=bw _ j
  unfold a8
  rw[show(i*2+j)/2=i by omega,show(i*2+j)%2=j by omega]
  rfl))
def jc (p:Prg)(s:Stp):Prop:=(0<=s.rule->s.rule<p.rules.l.length)/\0<s.atoms.length/\s.atoms.length<=24/\∀a,a∈s.atoms->0<=a/\a<p.atoms
theorem wo {p:Prg}{v:Nat->Int}(hp:cJ p)(hr:∀r,r∈p.rules.l->aP r)(hh:dx p)(hb:bj p v=true):jc p (ao p v):=by
 obtain⟨h1,h2⟩:=qq (v:=v) hp hr hh
 by_cases h:0<=br p v
 ·obtain⟨k,k1,k2,_,_⟩:=i5 (dO v) default p.rules.l 0 h
  have hn:ao p v=⟨br p v,[(p.rules.l.getD (br p v).toNat default).head]⟩:=if_pos h
  have hf:br p v=k:=by unfold br;rw[k2];simp
  refine⟨fun _=>?_,?_,h2,h1⟩
  ·rw[hn];show br p v<_;omega
  ·rw[hn];exact Nat.zero_lt_one
 ·obtain⟨k0,k1,_,_,_⟩:=mQ hp h hb
  refine⟨fun h=>?_,?_,h2,h1⟩
  ·rw[k0] at h
   exact absurd h (by show ¬(0:Int) <= -1;omega)
  ·unfold gf at k1
   rw[Bool.and_eq_true] at k1
   exact of_decide_eq_true k1.1
theorem qP {p:Prg}(hp:cJ p)(hr:∀r,r∈p.rules.l->aP r)(hh:dx p):∀(n:Nat) (v:Nat->Int) (l:List Stp),(∀s,s∈l->jc p s)->∀s,s∈(dQ p n v l).1->jc p s
 |0,_,_,h=>h
 |n+1,v,l,h=>by
  show ∀s,s∈(if bj p v then dQ p n (ck v (ao p v)) (l++[ao p v]) else(l,v)).1->jc p s
  by_cases hb:bj p v=true
  ·rw[if_pos hb]
   refine qP hp hr hh n _ _ (fun s hs=>?_)
   rcases List.mem_append.1 hs with hs|hs
   ·exact h s hs
   ·have:s=ao p v:=by simpa using hs
    rw[this]
    exact wo hp hr hh hb
  ·rw[if_neg hb]
   exact h
def gl (nums:List Int)(s:Stp):Int:=if 0<=s.rule then nums.getD s.rule.toNat 0 else s.rule
def ad (on:Nat)(l:List Stp)(i j:Nat):AObj:=.cells false ((if j<i then aY on (l.getD j default).atoms else(l.getD j default).atoms).length*1) (af (if j<i then aY on (l.getD j default).atoms else(l.getD j default).atoms))
def aW (on:Nat)(l:List Stp)(i:Nat):List Nat:=(List.range i).filter (fun k=>decide (0<(aY on (l.getD k default).atoms).length))
def bv (on:Nat)(nums:List Int)(l:List Stp)(q:List Nat):Nat->AV:=fun c=>bif Nat.beq (c%2) 0 then .int .i64 (gl nums (l.getD (q.getD (c/2) 0) default)) else .sl (6+q.getD (c/2) 0) 0 (aY on (l.getD (q.getD (c/2) 0) default).atoms).length (l.getD (q.getD (c/2) 0) default).atoms.length false 1
def gm (k:Nat):List Nat:=[0,1,2,3,4,5,6,7,8,9,10,11,12,13,14,15,16,17,18,19,20,21,22,23,24,25,26,27,28,29,k]
theorem qQ {k n j:Nat}(hj:j<30):aw (gm k) n j=j:=by
 have h:j=0∨j=1∨j=2∨j=3∨j=4∨j=5∨j=6∨j=7∨j=8∨j=9∨j=10∨j=11∨j=12∨j=13∨j=14∨j=15∨j=16∨j=17∨j=18∨j=19∨j=20∨j=21∨j=22∨j=23∨j=24∨j=25∨j=26∨j=27∨j=28∨j=29:=by omega
 rcases h with rfl|rfl|rfl|rfl|rfl|rfl|rfl|rfl|rfl|rfl|rfl|rfl|rfl|rfl|rfl|rfl|rfl|rfl|rfl|rfl|rfl|rfl|rfl|rfl|rfl|rfl|rfl|rfl|rfl|rfl <;> rfl
theorem jd {f:Nat->AObj}{x0 x1 x2 x3 x4 x5:AObj}{r:List AObj}{a:Nat}(ha:a<24):ag (x0::x1::x2::x3::x4::x5::bx f r) (6+a)=f a:=by
 rw[show 6+a=a+6 by omega]
 exact kn ha
theorem qR {f:Nat->AObj}{x0 x1 x2 x3 x4 x5:AObj}{r:List AObj}{a:Nat}:ag (x0::x1::x2::x3::x4::x5::bx f r) (30+a)=ag r a:=by
 rw[show 30+a=a+30 by omega]
 rfl
theorem wp {on:Nat}{l:List Stp}{i j:Nat}(h:j≠i):ad on l (i+1) j=ad on l i j:=by
 unfold ad
 by_cases hj:j<i
 ·rw[if_pos hj,if_pos (show j<i+1 by omega)]
 ·rw[if_neg hj,if_neg (show ¬j<i+1 by omega)]
theorem wq {on:Nat}{l:List Stp}{i:Nat}:ad on l i i=.cells false ((l.getD i default).atoms.length*1) (af (l.getD i default).atoms):=by
 unfold ad
 rw[if_neg (Nat.lt_irrefl i)]
theorem ws {on:Nat}{l:List Stp}{i:Nat}:ad on l (i+1) i=.cells false ((aY on (l.getD i default).atoms).length*1) (af (aY on (l.getD i default).atoms)):=by
 unfold ad
 rw[if_pos (Nat.lt_succ_self i)]
theorem qS (R:Res)(on:Nat)(L:List Stp)(i:Nat)(x0 x2 x3 x4 x5 o30 o31:AObj)(hi:i<24)(hon:on<2^24)(hl:0<(L.getD i default).atoms.length/\(L.getD i default).atoms.length<1000000)(ha:∀a,a∈(L.getD i default).atoms->0<=a/\a<24)(g:R.σ) :
  Does Tryd.prog R 72 [.ow true (6+i) (L.getD i default).atoms.length 1,.fn 73 0 (nth []) 1 (nth [.ref 1 0])] (x0::.cells false 1 (fun _=>.int .u64 on)::x2::x3::x4::x5::bx (ad on L i) [o30,o31]) g
   (.ret (.sl (6+i) 0 (aY on (L.getD i default).atoms).length (L.getD i default).atoms.length false 1)) (x0::.cells false 1 (fun _=>.int .u64 on)::x2::x3::x4::x5::bx (ad on L (i+1)) [o30,o31]) g:=by
 have hlt:bR [6+i,1] 32=true:=by
  show(Nat.blt (6+i) 32&&(Nat.blt 1 32&&true))=true
  rw[show Nat.blt (6+i) 32=true by rw[Nat.blt_eq];omega]
  rfl
 have hnd:cP [6+i,1]=true:=by
  show(!(bif Nat.beq (6+i) 1 then true else false)&&(!false&&true))=true
  rw[mW (show 6+i≠1 by omega)]
  rfl
 refine cf [6+i,1] 32 (fun R g=>wh R (L.getD i default).atoms on hon hl ha g) rfl hlt hnd ⟨?_,LeO.refl _,trivial⟩ ⟨by omega,by omega,trivial⟩ ⟨Le.refl _,Le.fn (fun i hi=>absurd hi (Nat.not_lt_zero _)) (fun i hi=>match i,hi with|0,_=>Le.refl _),trivial⟩ (Le.refl _) ?_
 ·rw[jd hi,wq]
  exact LeO.refl _
 ·refine mo (by rw[iJ];rfl) (fun x hx=>?_) (fun x hx=>?_) ⟨?_,LeO.refl _,trivial⟩
  ·rw[iJ]
   show x<32
   rcases List.mem_cons.1 hx with h|h
   ·omega
   ·have:x=1:=by simpa using h
    omega
  ·rw[mq _ _ _ hx]
   have hx1:x≠6+i:=fun e=>hx (by rw[e];exact List.mem_cons_self)
   rcases Nat.lt_or_ge x 6 with h|h
   ·match x,h with
    |0,_=>exact LeO.refl _
    |1,_=>exact LeO.refl _
    |2,_=>exact LeO.refl _
    |3,_=>exact LeO.refl _
    |4,_=>exact LeO.refl _
    |5,_=>exact LeO.refl _
   ·rcases Nat.lt_or_ge x 30 with h2|h2
    ·obtain⟨a,rfl⟩:∃a,x=6+a:=⟨x-6,by omega⟩
     rw[jd (by omega),jd (by omega),wp (by omega)]
     exact LeO.refl _
    ·obtain⟨a,rfl⟩:∃a,x=30+a:=⟨x-30,by omega⟩
     rw[qR,qR]
     exact LeO.refl _
  ·rw[jd hi,ws]
   exact LeO.refl _
theorem qT {L:List Stp}{i:Nat}:Le (.agg 2 (fun j=>bW 6 L (j+i*2))) (.agg 2 (nth [.int .i64 (L.getD i default).rule,.ow true (6+i) (L.getD i default).atoms.length 1])):=by
 refine Le.agg (fun j hj=>Le.of_eq ?_)
 unfold bW
 match j,hj with
 |0,_=>
  rw[show(0+i*2)%2=0 by omega,show(0+i*2)/2=i by omega]
  rfl
 |1,_=>
  rw[show(1+i*2)%2=1 by omega,show(1+i*2)/2=i by omega]
  rfl
theorem qU {on:Nat}{nums:List Int}{l:List Stp}{q:List Nat}{i c:Nat}{z:Nat->AV}(hc:c<(q.length+1)*2):bv on nums l (q++[i]) c=a9 2 q.length (fun a j=>bv on nums l q (a*2+j)) (fun a j=>ap z 0 2 (nth [.int .i64 (gl nums (l.getD i default)),.sl (6+i) 0 (aY on (l.getD i default).atoms).length (l.getD i default).atoms.length false 1]) (0+a*2+j)) c:=by
 unfold a9
 by_cases h:c<q.length*2
 ·rw[if_pos h]
  show _=bv on nums l q (c/2*2+c%2)
  rw[show c/2*2+c%2=c by omega]
  unfold bv
  rw[List.getD_eq_getElem?_getD (l:=q++[i]),List.getElem?_append_left (by omega),<-List.getD_eq_getElem?_getD]
 ·rw[if_neg h]
  show _=ap z 0 2 _ (0+(c-q.length*2)/2*2+(c-q.length*2)%2)
  rw[dI,if_pos (by omega)]
  unfold bv
  rw[show c/2=q.length by omega,List.getD_eq_getElem?_getD (l:=q++[i]),List.getElem?_append_right (Nat.le_refl _),Nat.sub_self]
  have h2:c=q.length*2∨c=q.length*2+1:=by omega
  rcases h2 with rfl|rfl
  ·rw[show q.length*2%2=0 by omega,show 0+(q.length*2-q.length*2)/2*2+(q.length*2-q.length*2)%2-0=0 by omega]
   rfl
  ·rw[show(q.length*2+1)%2=1 by omega,show 0+(q.length*2+1-q.length*2)/2*2+(q.length*2+1-q.length*2)%2-0=1 by omega]
   rfl
theorem kF {on:Nat}{l:List Stp}{i:Nat}:aW on l (i+1)=if 0<(aY on (l.getD i default).atoms).length then aW on l i++[i] else aW on l i:=by
 have e:([i].filter (fun k=>decide (0<(aY on (l.getD k default).atoms).length)))=if 0<(aY on (l.getD i default).atoms).length then[i] else[]:=by
  rw[List.filter_cons,List.filter_nil]
  by_cases h:0<(aY on (l.getD i default).atoms).length
  ·rw[if_pos h,decide_eq_true h];rfl
  ·rw[if_neg h,decide_eq_false h];rfl
 unfold aW
 rw[List.range_succ,List.filter_append,e]
 by_cases h:0<(aY on (l.getD i default).atoms).length
 ·rw[if_pos h,if_pos h]
 ·rw[if_neg h,if_neg h,List.append_nil]
theorem wt {on:Nat}{l:List Stp}{i c:Nat}(hi:0<i):(aW on l i).getD c 0<i:=by
 rcases Nat.lt_or_ge c (aW on l i).length with h|h
 ·have:=bK (aW on l i) 0 h
  have h2:=(List.mem_filter.1 this).1
  exact List.mem_range.1 h2
 ·rw[List.getD_eq_getElem?_getD,List.getElem?_eq_none h]
  exact hi
theorem wu {f:Nat->Nat}{on:Nat}{nums:List Int}{l:List Stp}{q:List Nat}{c:Nat}(h:f (6+q.getD (c/2) 0)=6+q.getD (c/2) 0):aU f (bv on nums l q c)=bv on nums l q c:=by
 unfold bv
 cases Nat.beq (c%2) 0 with
 |true=>rfl
 |false=>
  show AV.sl (f (6+q.getD (c/2) 0)) 0 _ _ false 1=AV.sl (6+q.getD (c/2) 0) 0 _ _ false 1
  rw[h]
def wv (p:Prg)(on:Nat)(NU:List Int)(V:Nat->Int)(L:List Stp)(i m:Nat):List AObj:=.cells false 2 (nth [.int .i64 p.atoms,ae p.rules])::.cells false 1 (fun _=>.int .u64 on)::.cells false 2 (nth [.int .i64 p.atoms,ae (az p on).rules])::.cells false ((aK on p.rules.l).length*1) (af NU)::.cells false 27 (aM V)::.cells false (L.length*2) (bW 6 L)::bx (ad on L i) [.cells false (m*2) (bv on NU L (aW on L i))]
theorem kG {p:Prg}{on:Nat}{NU:List Int}{V:Nat->Int}{L:List Stp}{i m k n:Nat}{r:List AObj}(hL:L.length<=24)(hi:i<24)(hm:m=(aW on L (i+1)).length)(hk:ag (.cells false 2 (nth [.int .i64 p.atoms,ae p.rules])::.cells false 1 (fun _=>.int .u64 on)::.cells false 2 (nth [.int .i64 p.atoms,ae (az p on).rules])::.cells false ((aK on p.rules.l).length*1) (af NU)::.cells false 27 (aM V)::.cells false (L.length*2) (bW 6 L)::bx (ad on L (i+1)) r) k=.cells false (m*2) (bv on NU L (aW on L (i+1)))) :
  dl (aw (gm k) n) (.cells false 2 (nth [.int .i64 p.atoms,ae p.rules])::.cells false 1 (fun _=>.int .u64 on)::.cells false 2 (nth [.int .i64 p.atoms,ae (az p on).rules])::.cells false ((aK on p.rules.l).length*1) (af NU)::.cells false 27 (aM V)::.cells false (L.length*2) (bW 6 L)::bx (ad on L (i+1)) r) (gm k) (wv p on NU V L (i+1) m):=by
 refine⟨kp,LeO.refl _,kp,LeO.refl _,LeO.cells (fun j hj=>(cK trivial).symm),LeO.cells (fun c hc=>(ni (b:=6) (b':=6) (c:=c) (qQ (by omega))).symm),LeO.refl _,LeO.refl _,LeO.refl _,LeO.refl _,LeO.refl _,LeO.refl _,LeO.refl _,LeO.refl _,LeO.refl _,LeO.refl _,LeO.refl _,LeO.refl _,LeO.refl _,LeO.refl _,LeO.refl _,LeO.refl _,LeO.refl _,LeO.refl _,LeO.refl _,LeO.refl _,LeO.refl _,LeO.refl _,LeO.refl _,LeO.refl _,?_,trivial⟩
 rw[hk]
 refine LeO.cells (fun c hc=>(wu (qQ ?_)).symm)
 have:=wt (on:=on) (l:=L) (i:=i+1) (c:=c/2) (by omega)
 omega
def dy (on:Nat)(nums:List Int)(l:List Stp):KL Step:=⟨(aW on l l.length).map (fun k=>⟨gl nums (l.getD k default),aY on (l.getD k default).atoms,.opn⟩),.auto⟩
theorem ww {hp:List AObj}{on:Nat}{NU:List Int}{L:List Stp}{m:Nat}(hm:m=(aW on L L.length).length)(hL:L.length<=24)(h30:ag hp 30=.cells false (m*2) (bv on NU L (aW on L L.length)))(hin:∀k,k<L.length->ag hp (6+k)=ad on L L.length k):aE hp 0 0 (.ow true 30 m 2) (aT (dy on NU L)):=by
 subst hm
 refine aE.le (aE.ow h30 (Nat.zero_le _) (Nat.le_refl _) (by decide) (get:=fun c=>bif Nat.beq (c%2) 0 then .int .i64 (gl NU (L.getD ((aW on L L.length).getD (c/2) 0) default)) else ak ⟨aY on (L.getD ((aW on L L.length).getD (c/2) 0) default).atoms,.opn⟩) (fun c hc=>?_)) ?_
 ·unfold bv
  cases Nat.beq (c%2) 0 with
  |true=>exact aE.below trivial
  |false=>
   have hc2:c/2<(aW on L L.length).length:=by omega
   obtain⟨k,hk⟩:∃k,(aW on L L.length).getD (c/2) 0=k:=⟨_,rfl⟩
   have hmem:=bK (aW on L L.length) 0 hc2
   rw[hk] at hmem
   have hk2:=List.mem_filter.1 hmem
   have hkl:k<L.length:=List.mem_range.1 hk2.1
   have hpos:0<(aY on (L.getD k default).atoms).length:=of_decide_eq_true hk2.2
   have hle:(aY on (L.getD k default).atoms).length<=(L.getD k default).atoms.length:=List.length_filter_le _ _
   rw[hk]
   have h6:=hin k hkl
   unfold ad at h6
   rw[if_pos hkl] at h6
   exact(aE.sl h6 (Nat.zero_le _) (by omega) hle (by decide) (fun j _=>aE.below (de _ _))).le (Le.fz rfl (fun i j hi hj=>by
    show af _ (0+i*1+j)=AV.int .i64 _
    rw[show 0+i*1+j=i by omega]
    rfl))
 ·have hl2:(dy on NU L).l.length=(aW on L L.length).length:=by unfold dy;rw[List.length_map]
  refine Le.fz hl2.symm (fun i j hi hj=>?_)
  have hg:(dy on NU L).l.getD i default=⟨gl NU (L.getD ((aW on L L.length).getD i 0) default),aY on (L.getD ((aW on L L.length).getD i 0) default).atoms,.opn⟩:=by
   unfold dy
   rw[List.getD_eq_getElem?_getD,List.getElem?_map,List.getElem?_eq_getElem hi,List.getD_eq_getElem?_getD (l:=aW on L L.length),List.getElem?_eq_getElem hi]
   rfl
  show _=eW _ j
  rw[hg]
  show(bif Nat.beq ((i*2+j)%2) 0 then _ else _)=_
  rw[show(i*2+j)%2=j by omega,show(i*2+j)/2=i by omega]
  match j,hj with
  |0,_=>rfl
  |1,_=>rfl
theorem wx (R:Res)[Tab LT R](p:Prg)(goal:Int)(hb:aJ p=true)(hg:0<=goal/\goal<p.atoms)(g:R.σ):Does Tryd.prog R 25 [aA p,.int .i64 goal] [] g (.ret (.tup 3 (nth [.int .i64 ((al (az p (hgP p goal.toNat))).2 goal.toNat),aT (dy (hgP p goal.toNat) (bf (hgP p goal.toNat) p.rules.l 0) (al (az p (hgP p goal.toNat))).1),.int .i64 0]))) [] g:=by
 obtain⟨hl,hr,hp,hh,hx⟩:=eG hb
 have hs:dK p:=fF hb
 have hp':1<=p.atoms/\p.atoms<=24:=hp
 have hroom:aN=140737488355328:=rfl
 have hlt:hgP p goal.toNat<2^24:=fH hr (by omega)
 refine ax (nt:=98) (rs:=[.tmp 4,.tmp 5,.tmp 6]) (k0:=0) (by kernel_rfl) (by kernel_rfl) (by kernel_rfl) rfl ?_
 have hc:(bif ((if aJ p then(0:Int) else 2) != 0) then true else !decide (0<=goal/\goal<=p.atoms-1))=false:=by
  rw[hb,decide_eq_true (by omega)]
  rfl
 refine vcQ [[1,0,1,0]] (lkL [(0,[1,2]),(1,[1,2,27]),(3,[1,2,7]),(4,[1,2,7,8]),(5,[1,2,7,8,9]),(6,[1,7,8,9,35,36,37])]) (lkL [(1,[(1,ROrc.pcall (int i64 (if aJ p=true then 0 else 2))),(8,ROrc.pcall (AV.bool (decide (0<=goal/\goal<=p.atoms-1))))]),(3,[(2,ROrc.pcall (int u64 (↑(hgP p (goal.toNat)):Int))),(4,ROrc.val (Orc.obj (nth [int u64 (↑(hgP p (goal.toNat)):Int)])))]),(4,[(4,ROrc.val (Orc.obj (nth [int i64 p.atoms,fz Fz.nil 0 0 fun _ _=>any])))])]) (fun Q=>(fun (u1:Bool)=>(fun (u2:AV)=>(fun (u3:AV)=>(fun (u4:Int)=>(fun (u5:AV)=>2<=2/\(∀(hp:List AObj) (g:R.σ),true=true/\Does Tryd.prog R 16 [aA p] hp g (ret (int i64 u4)) hp g)/\((!u4 != 0)=true->1<=2)/\((!u4 != 0)=true -> -9223372036854775808<=p.atoms-1/\p.atoms-1<=9223372036854775807)/\((!u4 != 0)=true->∀(hp:List AObj) (g:R.σ),true=true/\Does Tryd.prog R 58 [int i64 goal,int i64 0,int i64 (p.atoms-1)] hp g (ret (AV.bool (decide (0<=goal/\goal<=p.atoms-1)))) hp g)/\(u1=true->Wp Tryd.prog R 98 0 Rd.top (ah Tryd.prog 25) [1,0,1,0] (aq Tryd.prog R 98 0 Rd.top (ah Tryd.prog 25) Q [Kont.seq [1,1]]) (St.mk [(1,int i64 goal),(2,ref 0 0),(27,AV.bool u1)] [cells false 2 (nth [u5,ae p.rules])] g))/\(u1=false->2<=2/\(∀(hp:List AObj) (g:R.σ),true=true/\Does Tryd.prog R 70 [aA p,int i64 goal] hp g (ret u3) hp g)/\1<=1/\(∀(c:Nat),c<1->nth [u3] c=ap (fun (a:Nat)=>int u64 0) 0 1 (fun (x:Nat)=>u3) c)/\1<=2/\2<=2/\(∀(c:Nat),c<2->nth [u5,u2] c=ap (nth [int i64 0,u2]) 0 2 (List.brecOn (motive:=fun (x:List AV)=>Nat->AV) [u5,u2] nth._f) c)/\2<=2/\Wp Tryd.prog R 98 0 Rd.top (ah Tryd.prog 25) [1,1,1,1,1,0,1,0] (aq Tryd.prog R 98 0 Rd.top (ah Tryd.prog 25) Q [Kont.blk 0,Kont.seq [1,1,1,1,1,1]]) (St.mk [(1,int i64 goal),(7,ref 1 0),(8,ref 2 0),(9,u2),(35,ae p.rules),(36,int i64 (p.rules.l.length:Int)),(37,int i64 0)] [cells false 2 (nth [u5,ae p.rules]),cells false 1 (nth [u3]),cells false 2 (nth [u5,u2])] g))) (int i64 p.atoms)) (if aJ p=true then 0 else 2)) (int u64 (↑(hgP p (goal.toNat)):Int))) (fz Fz.nil 0 0 fun _ _=>any)) (bif (if aJ p=true then 0 else 2) != 0 then true else !decide (0<=goal/\goal<=p.atoms-1))) (fun _=>by kernel_rfl) ⟨by omega,(fun _ _=>⟨rfl,(f6 _ _ _ _ (by omega))⟩),by omega,by omega,(fun hgd=>(fun _ _=>⟨rfl,(dJ _ _ _ _ _ _)⟩)),fun hcc=>(nomatch (hc.symm.trans hcc)),fun _=>⟨by omega,(fun _ _=>⟨rfl,(m7 _ _ _ (by omega) (by omega) (by omega) _ _)⟩),by omega,(fun c hc=>match c,hc with|0,_=>(by kernel_rfl) ),by omega,by omega,(fun c hc=>match c,hc with|0,_=>(by kernel_rfl)|1,_=>(by kernel_rfl) ),by omega,?_⟩⟩
 obtain⟨on,hon⟩:∃on,hgP p goal.toNat=on:=⟨_,rfl⟩
 rw[hon] at hlt ⊢
 refine cA (gg (fun _=>.any) 2) ?_
 refine(bb (by kernel_rfl) (fun (x:Nat × Nat)=>⟨[(1,int i64 goal),(7,ref 1 0),(8,ref 2 0),(9,.ow true 4 x.2 1),(35,ae p.rules),(36,int i64 (p.rules.l.length:Int)),(37,.int .i64 x.1)],[.cells false 2 (nth [.int .i64 p.atoms,ae p.rules]),.cells false 1 (fun _=>.int .u64 on),.cells false 2 (nth [.int .i64 p.atoms,.ow true 3 x.2 2]),.cells false (x.2*2) (a8 (aK on (p.rules.l.take x.1))),.cells false (x.2*1) (af (bf on (p.rules.l.take x.1) 0))],g⟩) (fun (x:Nat × Nat)=>(x.1<=p.rules.l.length/\x.2=(aK on (p.rules.l.take x.1)).length)) (fun (x:Nat × Nat)=>(p.rules.l.length-x.1)) ((0,0):Nat × Nat) (bl ⟨Le.refl _,Le.refl _,Le.refl _,Le.nil_ow,Le.refl _,Le.refl _,(Le.of_eq (by kernel_rfl)),trivial⟩ ⟨LeO.rflc,⟨rfl,Nat.le_refl _,fun j hj=>match j,hj with|0,_=>(Le.refl _) ⟩,⟨rfl,Nat.le_refl _,fun j hj=>match j,hj with|0,_=>(Le.refl _)|1,_=>Le.nil_ow ⟩,⟨rfl,Nat.le_refl _,fun j hj=>absurd hj (Nat.not_lt_zero j)⟩,⟨rfl,Nat.le_refl _,fun j hj=>absurd hj (Nat.not_lt_zero j)⟩,trivial⟩ rfl) ?_ (fun x hi=>?_))
 ·exact⟨Nat.zero_le _,rfl⟩
 ·obtain⟨i,m⟩:=x
  obtain⟨hi,hm⟩:=hi
  simp only at hi hm
  have hpl:=qN on (p.rules.l.take i) 0
  have hple:(aK on (p.rules.l.take i)).length<=p.rules.l.length:=Nat.le_trans (List.length_filter_le _ _) (by rw[List.length_take];omega)
  rcases Nat.lt_or_ge i p.rules.l.length with hi'|hi'
  ·have hq:=hr _ (g5 hi')
   have hq2:=hq.2
   have hpt:=wi (on:=on) hi'
   have hnt:=wj (on:=on) hi'
   refine vcQ [] (lkL [(7,[1,7,8,9,35,36,37,38]),(8,[1,7,8,9,10,11,35,36,37]),(9,[1,7,8,9,10,11,35,36,37,45]),(10,[1,7,8,9,10,35,36,37]),(11,[1,7,8,9,35,36,37]),(12,[1,7,8,9,35,36,37])]) (lkL [(8,[(5,ROrc.val (Orc.obj (nth [int i64 (p.rules.l.getD i default).head,am (p.rules.l.getD i default).body])))]),(9,[(3,ROrc.pcall (AV.bool (Nat.testBit on ((p.rules.l.getD i default).head.toNat))))]),(10,[(4,ROrc.val (Orc.obj (a8 (aK on (List.take i p.rules.l)++[p.rules.l.getD i default])))),(6,ROrc.val (Orc.obj (nth [int i64 p.atoms,ow true 7 (m+1) 2])))]),(11,[(3,ROrc.val (Orc.obj (af (bf on (List.take i p.rules.l) 0++[(i:Int)]))))])]) (fun Q=>(fun (u1:Rule)=>(fun (u2:Int)=>(fun (u3:Int)=>(fun (u4:List Rule)=>(fun (u5:List AV)=>(fun (u6:AObj)=>(fun (u7:AObj)=>(fun (u8:List AV)=>(fun (u9:List AV)=>(fun (u10:AObj)=>(fun (u11:List (Nat × AV))=>(fun (u12:Bool)=>(decide (u3<u2)=true->(0<=u3/\u3<u2)/\2<=2/\2<=2/\(∀(c:Nat),c<2->nth u5 c=ap (nth u8) 0 2 (List.brecOn (motive:=fun (x:List AV)=>Nat->AV) u5 nth._f) c)/\1<=1/\1<=2/\(∀(hp:List AObj) (g:R.σ),true=true/\Does Tryd.prog R 71 [int u64 (on:Int),int i64 u1.head] hp g (ret (AV.bool u12)) hp g)/\(u12=true->2<=2/\2<=2/\0<2/\(m+1)*32<=aN/\m+1<=aN/\2<=2/\m*2<=m*2/\(∀(c:Nat),c<(m+1)*2->a8 (aK on u4++[u1]) c=a9 2 m (fun (i j:Nat)=>a8 (aK on u4) (i*2+j)) (fun (i j:Nat)=>ap (fun (j:Nat)=>nth u8 (j%2)) 0 2 (List.brecOn (motive:=fun (x:List AV)=>Nat->AV) u5 nth._f) (0+i*2+j)) c)/\2<=2/\(∀(c:Nat),c<2->nth [int i64 p.atoms,ow true 7 (m+1) 2] c=ap (nth u9) 1 1 (fun (x:Nat)=>ow true 7 (m+1) 2) c)/\0<1/\(m+1)*8<=aN/\m+1<=aN/\1<=1/\m*1<=m*1/\(∀(c:Nat),c<(m+1)*1->af (bf on u4 0++[u3]) c=a9 1 m (fun (i j:Nat)=>af (bf on u4 0) (i*1+j)) (fun (i j:Nat)=>ap (fun (j:Nat)=>int i64 0) 0 1 (fun (x:Nat)=>int i64 u3) (0+i*1+j)) c)/\(-9223372036854775808<=u3+1/\u3+1<=9223372036854775807)/\Q AEx.normal (St.mk ((1,int i64 goal)::(7,ref 1 0)::(8,ref 2 0)::(9,ow true 9 (m+1) 1)::u11) [u6,u7,cells false 2 (nth [int i64 p.atoms,ow true 7 (m+1) 2]),dead,dead,cells false 2 (nth u5),cells false 2 (ap (fun (j:Nat)=>nth u8 (j%2)) 0 2 (List.brecOn (motive:=fun (x:List AV)=>Nat->AV) u5 nth._f)),cells false ((m+1)*2) (a8 (aK on u4++[u1])),cells false 1 (ap (fun (j:Nat)=>int i64 0) 0 1 fun (x:Nat)=>int i64 u3),cells false ((m+1)*1) fun (a:Nat)=>af (bf on u4 0++[u3]) a] g))/\(u12=false->(-9223372036854775808<=u3+1/\u3+1<=9223372036854775807)/\Q AEx.normal (St.mk ((1,int i64 goal)::(7,ref 1 0)::(8,ref 2 0)::(9,ow true 4 m 1)::u11) [u6,u7,cells false 2 (nth u9),cells false (m*2) (a8 (aK on u4)),u10,cells false 2 (nth u5)] g)))/\(decide (u3<u2)=false->Q (AEx.exit 0) (St.mk [(1,int i64 goal),(7,ref 1 0),(8,ref 2 0),(9,ow true 4 m 1),(35,ae p.rules),(36,int i64 u2),(37,int i64 u3),(38,AV.bool (decide (u3<u2)))] [u6,u7,cells false 2 (nth u9),cells false (m*2) (a8 (aK on u4)),u10] g))) (Nat.testBit on (u1.head.toNat))) ([(35,ae p.rules),(36,int i64 u2),(37,int i64 (u3+1))])) (cells false (m*1) fun (a:Nat)=>af (bf on u4 0) a)) ([int i64 p.atoms,ow true 3 m 2])) ([int i64 0,fz Fz.nil 0 0 fun _ _=>any])) (cells false 1 fun (x:Nat)=>int u64 (on:Int))) (cells false 2 (nth [int i64 p.atoms,ae p.rules]))) ([int i64 u1.head,am u1.body])) (List.take i p.rules.l)) ((i:Int))) ((p.rules.l.length:Int))) (p.rules.l.getD i default)) (fun _=>by kernel_rfl) ⟨fun c1=>have c1:(i:Int)<(p.rules.l.length:Int):=(of_decide_eq_true c1);⟨by omega,by omega,by omega,(fun c hc=>match c,hc with|0,_=>(by kernel_rfl)|1,_=>(by kernel_rfl) ),by omega,by omega,(fun _ _=>⟨rfl,(mD _ _ _ (by omega) (by omega) _ _)⟩),fun c2=>⟨by omega,by omega,by omega,by omega,by omega,by omega,by omega,?_,by omega,(fun c hc=>match c,hc with|0,_=>(by kernel_rfl)|1,_=>(by kernel_rfl) ),by omega,by omega,by omega,by omega,by omega,?_,by omega,?_⟩,fun c2=>⟨by omega,?_⟩⟩,fun c1=>have c1:¬(i:Int)<(p.rules.l.length:Int):=(of_decide_eq_false c1);?_⟩
   ·intro c hc
    subst hm
    exact(p9 (r:=p.rules.l.getD i default) (z:=fun j=>nth [.int .i64 0,.fz .nil 0 0 fun _ _=>.any] (j%2)) hc).trans (by kernel_rfl)
   ·intro c hc
    rw[hm,<-hpl] at hc ⊢
    exact(wk (z:=fun _=>.int .i64 0) hc).trans (by kernel_rfl)
   ·rw[if_pos c2] at hpt hnt
    refine(aX (i+1,m+1) (bo [0,1,2,7,9] 10 rfl rfl rfl rfl rfl ⟨Le.refl _,Le.refl _,Le.refl _,Le.refl _,Le.refl _,Le.refl _,Le.refl _,trivial⟩ ⟨⟨rfl,Nat.le_refl _,fun j hj=>match j,hj with|0,_=>(Le.refl _)|1,_=>(Le.refl _) ⟩,⟨rfl,Nat.le_refl _,fun j hj=>match j,hj with|0,_=>(Le.refl _) ⟩,⟨rfl,Nat.le_refl _,fun j hj=>match j,hj with|0,_=>(Le.refl _)|1,_=>(Le.refl _) ⟩,?_,?_,trivial⟩) ?_ ?_)
    ·show LeO (.cells false ((m+1)*2) (a8 (aK on (p.rules.l.take i)++[p.rules.l.getD i default]))) (bI _ (.cells false ((m+1)*2) (a8 (aK on (p.rules.l.take (i+1))))))
     rw[hpt,iZ]
     exact LeO.refl _
    ·show LeO (.cells false ((m+1)*1) (af (bf on (p.rules.l.take i) 0++[(i:Int)]))) (.cells false ((m+1)*1) (af (bf on (p.rules.l.take (i+1)) 0)))
     rw[hnt]
     exact LeO.refl _
    ·refine⟨by show i+1<=_;omega,?_⟩
     show m+1=(aK on (p.rules.l.take (i+1))).length
     rw[hpt,List.length_append,<-hm]
     rfl
    ·show p.rules.l.length-(i+1)<p.rules.l.length-i
     omega
   ·rw[if_neg (by rw[c2];decide)] at hpt hnt
    refine(aX (i+1,m) (bo [0,1,2,3,4] 6 rfl rfl rfl rfl rfl ⟨Le.refl _,Le.refl _,Le.refl _,Le.refl _,Le.refl _,Le.refl _,Le.refl _,trivial⟩ ⟨⟨rfl,Nat.le_refl _,fun j hj=>match j,hj with|0,_=>(Le.refl _)|1,_=>(Le.refl _) ⟩,⟨rfl,Nat.le_refl _,fun j hj=>match j,hj with|0,_=>(Le.refl _) ⟩,⟨rfl,Nat.le_refl _,fun j hj=>match j,hj with|0,_=>(Le.refl _)|1,_=>(Le.refl _) ⟩,?_,?_,trivial⟩) ?_ ?_)
    ·show LeO (.cells false (m*2) (a8 (aK on (p.rules.l.take i)))) (bI _ (.cells false (m*2) (a8 (aK on (p.rules.l.take (i+1))))))
     rw[hpt,iZ]
     exact LeO.refl _
    ·show LeO (.cells false (m*1) (af (bf on (p.rules.l.take i) 0))) (.cells false (m*1) (af (bf on (p.rules.l.take (i+1)) 0)))
     rw[hnt]
     exact LeO.refl _
    ·refine⟨by show i+1<=_;omega,?_⟩
     show m=(aK on (p.rules.l.take (i+1))).length
     rw[hpt,<-hm]
    ·show p.rules.l.length-(i+1)<p.rules.l.length-i
     omega
   ·exfalso;omega
  ·have hie:i=p.rules.l.length:=by omega
   subst hie
   rw[List.take_length] at hm hpl
   subst hm
   obtain⟨M,hM⟩:∃M,(aK on p.rules.l).length=M:=⟨_,rfl⟩
   refine cA (bo (s':=⟨[(1,.int .i64 goal),(7,.ref 1 0),(8,.ref 2 0),(9,.ow true 3 (aK on p.rules.l).length 1),(35,ae p.rules),(36,.int .i64 p.rules.l.length),(37,.int .i64 p.rules.l.length)],[.cells false 2 (nth [.int .i64 p.atoms,ae p.rules]),.cells false 1 (fun _=>.int .u64 on),.cells false 2 (nth [.int .i64 p.atoms,.ow true 4 (aK on p.rules.l).length 2]),.cells false ((aK on p.rules.l).length*1) (af (bf on p.rules.l 0)),.cells false ((aK on p.rules.l).length*2) (a8 (aK on p.rules.l))],g⟩) [0,1,2,4,3] 5 rfl rfl rfl rfl rfl ⟨Le.refl _,Le.refl _,Le.refl _,Le.refl _,Le.refl _,Le.refl _,Le.refl _,trivial⟩ ⟨kp,LeO.refl _,LeO.cells (fun j hj=>match j,hj with|0,_=>rfl|1,_=>rfl),?_,?_,trivial⟩) ?_
   ·show LeO (.cells false ((aK on p.rules.l).length*1) (af (bf on (p.rules.l.take p.rules.l.length) 0))) _
    rw[List.take_length]
    exact LeO.refl _
   ·show LeO (.cells false ((aK on p.rules.l).length*2) (a8 (aK on (p.rules.l.take p.rules.l.length)))) _
    rw[List.take_length,iZ]
    exact LeO.refl _
   refine cA (uw 4 [(1,.int .i64 goal),(7,.ref 1 0),(8,.ref 2 0),(9,.ow true 3 (aK on p.rules.l).length 1),(35,ae p.rules),(36,.int .i64 p.rules.l.length),(37,.int .i64 p.rules.l.length)] [.cells false 2 (nth [.int .i64 p.atoms,ae p.rules]),.cells false 1 (fun _=>.int .u64 on),.cells false 2 (nth [.int .i64 p.atoms,ae (az p on).rules]),.cells false ((aK on p.rules.l).length*1) (af (bf on p.rules.l 0))] (by omega) (by show 4<=5;omega) rfl (fun i hi=>?_) ⟨aE.below trivial,aE.below (show 1<4 by omega),aE.below (show 2<4 by omega),aE.below (show 3<4 by omega),aE.below trivial,aE.below trivial,aE.below trivial,trivial⟩) ?_
   ·match i,hi with
    |0,_=>exact⟨rfl,rfl,fun j hj=>match j,hj with|0,_=>aE.below trivial|1,_=>aE.below trivial⟩
    |1,_=>exact⟨rfl,rfl,fun j _=>aE.below trivial⟩
    |2,_=>exact⟨rfl,rfl,fun j hj=>match j,hj with|0,_=>aE.below trivial|1,_=>wn (o:=4) rfl (Nat.le_refl _)⟩
    |3,_=>exact⟨rfl,rfl,fun j _=>aE.below trivial⟩
   have hbb:decide ((p.rules.l.length:Int)<(p.rules.l.length:Int))=false:=decide_eq_false (by omega)
   refine vcQ [[1,1,1,1,1,0,1,0,0,1,0,0]] (lkL [(7,[1,7,8,9,35,36,37,38])]) (fun _=>[]) (fun Q=>(fun (u1:St R.σ)=>(fun (u2:Int)=>(decide (u2<u2)=true->Wp Tryd.prog R 98 0 Rd.top (ah Tryd.prog 25) [1,1,1,1,1,0,1,0,0,1,0,0] (aq Tryd.prog R 98 0 Rd.top (ah Tryd.prog 25) Q [Kont.seq [1,1,1,1,1,0,1,0,0,1,1]]) u1)/\(decide (u2<u2)=false->Q (AEx.exit 0) u1)) ((p.rules.l.length:Int))) (St.mk [(1,int i64 goal),(7,ref 1 0),(8,ref 2 0),(9,ow true 3 ((aK on p.rules.l).length) 1),(35,ae p.rules),(36,int i64 (p.rules.l.length:Int)),(37,int i64 (p.rules.l.length:Int)),(38,AV.bool (decide ((p.rules.l.length:Int)<(p.rules.l.length:Int))))] [cells false 2 (nth [int i64 p.atoms,ae p.rules]),cells false 1 fun (x:Nat)=>int u64 (on:Int),cells false 2 (nth [int i64 p.atoms,fz Fz.auto 2 ((az p on).rules.l.length) fun (i:Nat)=>bw ((az p on).rules.l.getD i default)]),cells false ((aK on p.rules.l).length*1) fun (a:Nat)=>af (bf on p.rules.l 0) a] g)) (fun _=>by kernel_rfl) ⟨fun hcc=>(nomatch (hbb.symm.trans hcc)),fun _=>?_⟩
   have hlq:(az p on).rules.l.length<1000000:=Nat.lt_of_le_of_lt (List.length_filter_le _ _) hl
   have hrq:∀r,r∈(az p on).rules.l->aP r:=fun r h=>hr r (List.mem_filter.1 h).1
   have hpq:cJ (az p on):=hp
   have hhq:dx (az p on):=fun r h=>hh r (List.mem_filter.1 h).1
   have hD:=fun (R:Res) [Tab LT R] (n0 n1 n2 n3:Nat) (c0 c1 c2 c3:Nat->AV) (b0:∀j,j<n0->Below 0 (c0 j)) (b1:∀j,j<n1->Below 0 (c1 j)) (b2:∀j,j<n2->Below 0 (c2 j)) (b3:∀j,j<n3->Below 0 (c3 j)) (g:R.σ)=>wm R (az p on) n0 n1 n2 n3 c0 c1 c2 c3 b0 b1 b2 b3 hlq hrq hpq hhq g
   refine⟨_,To.refl _,vcQ [] (lkL [(13,[1,7,9,12,13]),(14,[1,7,9,12,13,14]),(15,[1,7,9,13,14,62,63,64])]) (lkL [(13,[(1,ROrc.call (tup 2 (nth [ow true 5 ((al (az p on)).fst.length) 2,ref 4 0])) (cells false 2 (nth [int i64 p.atoms,ae p.rules])::(cells false 1 fun (x:Nat)=>int u64 (on:Int))::cells false 2 (nth [int i64 p.atoms,fz Fz.auto 2 ((az p on).rules.l.length) fun (i:Nat)=>bw ((az p on).rules.l.getD i default)])::(cells false ((aK on p.rules.l).length*1) fun (a:Nat)=>af (bf on p.rules.l 0) a)::cells false 27 (aM (al (az p on)).snd)::cells false ((al (az p on)).fst.length*2) (bW 6 (al (az p on)).fst)::bx (ab (al (az p on)).fst) []) g)])]) (fun Q=>(fun (u1:List AObj)=>(fun (u2:List AV)=>(fun (u3:Nat)=>2<=2/\(true=true/\Does Tryd.prog R 60 [agg 2 (nth u2)] [cells false 2 (nth [int i64 p.atoms,ae p.rules]),cells false 1 fun (x:Nat)=>int u64 (on:Int),cells false 2 (nth u2),cells false ((aK on p.rules.l).length*1) fun (a:Nat)=>af (bf on p.rules.l 0) a] g (ret (tup 2 (nth [ow true 5 u3 2,ref 4 0]))) u1 g)/\Wp Tryd.prog R 98 0 Rd.top (ah Tryd.prog 25) [1,1,1,1,1,1,1,1,0,1,0] (aq Tryd.prog R 98 0 Rd.top (ah Tryd.prog 25) Q [Kont.blk 2,Kont.seq [1,1,1,1,1,1,1,1,1]]) (St.mk [(1,int i64 goal),(7,ref 1 0),(9,ow true 3 ((aK on p.rules.l).length) 1),(13,ref 4 0),(14,fz Fz.nil 0 0 fun _ _=>any),(62,ow true 5 u3 2),(63,int i64 (u3:Int)),(64,int i64 0)] u1 g)) ((al (az p on)).fst.length)) ([int i64 p.atoms,fz Fz.auto 2 ((az p on).rules.l.length) fun (i:Nat)=>bw ((az p on).rules.l.getD i default)])) ([cells false 2 (nth [int i64 p.atoms,ae p.rules]),cells false 1 fun (x:Nat)=>int u64 (on:Int),cells false 2 (nth [int i64 p.atoms,fz Fz.auto 2 ((az p on).rules.l.length) fun (i:Nat)=>bw ((az p on).rules.l.getD i default)]),cells false ((aK on p.rules.l).length*1) fun (a:Nat)=>af (bf on p.rules.l 0) a,cells false 27 (aM (al (az p on)).snd),cells false ((al (az p on)).fst.length*2) (bW 6 (al (az p on)).fst),ab (al (az p on)).fst 0,ab (al (az p on)).fst 1,ab (al (az p on)).fst 2,ab (al (az p on)).fst 3,ab (al (az p on)).fst 4,ab (al (az p on)).fst 5,ab (al (az p on)).fst 6,ab (al (az p on)).fst 7,ab (al (az p on)).fst 8,ab (al (az p on)).fst 9,ab (al (az p on)).fst 10,ab (al (az p on)).fst 11,ab (al (az p on)).fst 12,ab (al (az p on)).fst 13,ab (al (az p on)).fst 14,ab (al (az p on)).fst 15,ab (al (az p on)).fst 16,ab (al (az p on)).fst 17,ab (al (az p on)).fst 18,ab (al (az p on)).fst 19,ab (al (az p on)).fst 20,ab (al (az p on)).fst 21,ab (al (az p on)).fst 22,ab (al (az p on)).fst 23])) (fun _=>by kernel_rfl) ⟨by omega,⟨rfl,(hD _ _ _ _ _ _ _ _ _ ?_ ?_ ?_ ?_ _)⟩,?_⟩⟩
   ·exact fun j hj=>match j,hj with|0,_=>trivial|1,_=>trivial
   ·exact fun j _=>trivial
   ·exact fun j hj=>match j,hj with|0,_=>trivial|1,_=>trivial
   ·exact fun j _=>trivial
   obtain⟨L,hL⟩:∃L,(al (az p on)).1=L:=⟨_,rfl⟩
   obtain⟨V,hV⟩:∃V,(al (az p on)).2=V:=⟨_,rfl⟩
   obtain⟨NU,hNU⟩:∃NU,bf on p.rules.l 0=NU:=⟨_,rfl⟩
   have hL24:L.length<=24:=by rw[<-hL];exact mU hpq hrq hhq
   rw[hL,hV,hNU]
   refine cA (gg (fun _=>.any) 1) ?_
   refine(bb (by kernel_rfl) (fun (x:Nat × Nat)=>⟨[(1,int i64 goal),(7,ref 1 0),(9,ow true 3 ((aK on p.rules.l).length) 1),(13,ref 4 0),(14,.ow true 30 x.2 2),(62,ow true 5 (L.length) 2),(63,int i64 (L.length:Int)),(64,.int .i64 x.1)],(.cells false 2 (nth [.int .i64 p.atoms,ae p.rules])::.cells false 1 (fun _=>.int .u64 on)::.cells false 2 (nth [.int .i64 p.atoms,ae (az p on).rules])::.cells false ((aK on p.rules.l).length*1) (af NU)::.cells false 27 (aM V)::.cells false (L.length*2) (bW 6 L)::bx (ad on L x.1) [.cells false (x.2*2) (bv on NU L (aW on L x.1))]),g⟩) (fun (x:Nat × Nat)=>(x.1<=L.length/\x.2=(aW on L x.1).length)) (fun (x:Nat × Nat)=>(L.length-x.1)) ((0,0):Nat × Nat) (bl ⟨Le.refl _,Le.refl _,Le.refl _,Le.refl _,Le.nil_ow,Le.refl _,Le.refl _,(Le.of_eq (by kernel_rfl)),trivial⟩ ⟨LeO.rflc,LeO.rflc,LeO.rflc,LeO.rflc,LeO.rflc,LeO.rflc,LeO.rflc,LeO.rflc,LeO.rflc,LeO.rflc,LeO.rflc,LeO.rflc,LeO.rflc,LeO.rflc,LeO.rflc,LeO.rflc,LeO.rflc,LeO.rflc,LeO.rflc,LeO.rflc,LeO.rflc,LeO.rflc,LeO.rflc,LeO.rflc,LeO.rflc,LeO.rflc,LeO.rflc,LeO.rflc,LeO.rflc,LeO.rflc,⟨rfl,Nat.le_refl _,fun j hj=>absurd hj (Nat.not_lt_zero j)⟩,trivial⟩ rfl) ?_ (fun x hi=>?_))
   ·exact⟨Nat.zero_le _,rfl⟩
   ·obtain⟨i,m⟩:=x
    obtain⟨hi,hm⟩:=hi
    simp only at hi hm
    have hm24:m<=i:=by
     rw[hm]
     unfold aW
     exact Nat.le_trans (List.length_filter_le _ _) (by rw[List.length_range];omega)
    rcases Nat.lt_or_ge i L.length with hi'|hi'
    ·have hso:jc (az p on) (L.getD i default):=by
      have:=qP hpq hrq hhq 25 (fun _=>3) [] (fun s hs=>(by cases hs))
      exact this _ (by
       have h:L.getD i default∈L:=bK _ default hi'
       have h2:L.getD i default∈(al (az p on)).1:=hL.symm▸h
       exact h2)
     obtain⟨o1,o2,o3,o4⟩:=hso
     have o1:0<=(L.getD i default).rule->(L.getD i default).rule<(aK on p.rules.l).length:=o1
     have o4:∀a,a∈(L.getD i default).atoms->0<=a/\a<24:=fun a ha=>by
      have:=o4 a ha
      have e:(az p on).atoms=p.atoms:=rfl
      omega
     by_cases hru:0<=(L.getD i default).rule
     ·have hru1:=o1 hru
      have hge:decide ((L.getD i default).rule >= 0)=true:=decide_eq_true hru
      have har:gl NU (L.getD i default)=NU.getD (L.getD i default).rule.toNat 0:=if_pos hru
      refine vcQ [[1,1,1,1,1,1,1,1,0,1,0,0,1,1,0,0,1,0,1,1]] (lkL [(16,[1,7,9,13,14,62,63,64,65]),(17,[1,7,9,13,14,16,62,63,64]),(18,[1,7,9,13,14,16,62,63,64,70]),(19,[1,7,9,13,14,16,62,63,64]),(20,[1,7,9,13,14,16,62,63,64]),(21,[1,7,9,13,14,16,62,63,64,85]),(22,[1,7,9,13,14,62,63,64]),(23,[1,7,9,13,14,62,63,64])]) (lkL [(17,[(1,ROrc.kop (agg 2 (nth [int i64 (L.getD i default).rule,ow true (6+i) ((L.getD i default).atoms.length) 1]))),(3,ROrc.val (Orc.obj (nth [int i64 (L.getD i default).rule,ow true (6+i) ((L.getD i default).atoms.length) 1])))]),(19,[(6,ROrc.val (Orc.obj (nth [af NU ((L.getD i default).rule.toNat),ow true (6+i) ((L.getD i default).atoms.length) 1])))]),(20,[(3,ROrc.call (sl (6+i) 0 ((aY on (L.getD i default).atoms).length) ((L.getD i default).atoms.length) false 1) (cells false 2 (nth [int i64 p.atoms,ae p.rules])::(cells false 1 fun (x:Nat)=>int u64 (on:Int))::cells false 2 (nth [int i64 p.atoms,ae (az p on).rules])::cells false ((aK on p.rules.l).length*1) (af NU)::cells false 27 (aM V)::cells false (L.length*2) (bW 6 L)::bx (ad on L (i+1)) [cells false (m*2) (bv on NU L (aW on L i)),cells false 2 (nth [int i64 (NU.getD ((L.getD i default).rule.toNat) 0),ow true (6+i) ((L.getD i default).atoms.length) 1])]) g),(5,ROrc.val (Orc.obj (nth [af NU ((L.getD i default).rule.toNat),sl (6+i) 0 ((aY on (L.getD i default).atoms).length) ((L.getD i default).atoms.length) false 1])))]),(22,[(3,ROrc.val (Orc.obj (bv on NU L (aW on L i++[i]))))])]) (fun Q=>(fun (u1:List AObj)=>(fun (u2:Stp)=>(fun (u3:AObj)=>(fun (u4:AV)=>(fun (u5:AV)=>(fun (u6:Nat)=>(fun (u7:Int)=>(fun (u8:Nat)=>(fun (u9:AObj)=>(fun (u10:AV)=>(fun (u11:List (Nat × AV))=>(fun (u12:AObj)=>(fun (u13:AObj)=>(fun (u14:AObj)=>(fun (u15:AObj)=>(fun (u16:Int)=>(decide ((i:Int)<u7)=true->(0<=(i:Int)/\(i:Int)<u7)/\OpOk Tryd.prog R (Oper.mk (some 67) (Op.load 71 (Operand.tmp 66)) 71 "table.go:316" #[Edge.mk 0 Ground.data] none) (evO [Row.mk (some 66) none (ref 5 (i*2)) false (some []) []] u11 []) u1 g (agg 2 (nth [int i64 u2.rule,u5])) u1 g/\2<=2/\(∀(c:Nat),c<2->nth [int i64 u2.rule,u5] c=ap (nth [int i64 0,fz Fz.nil 0 0 fun _ _=>any]) 0 2 (List.brecOn (motive:=fun (x:List AV)=>Nat->AV) [int i64 u2.rule,u5] nth._f) c)/\1<=2/\(decide (u2.rule >= 0)=true->1<=2/\(0<=u2.rule/\u2.rule<(u6:Int))/\u2.rule.toNat+1<=u6*1/\1<=2/\(∀(c:Nat),c<2->nth [u10,u5] c=ap (nth [int i64 u2.rule,u5]) 0 1 (fun (x:Nat)=>u10) c)/\2<=2/\(true=true/\Does Tryd.prog R 72 [u5,fn 73 0 (nth []) 1 (nth [ref 1 0])] [u9,u12,u3,u13,cells false 27 (aM V),u14,ad on L i 0,ad on L i 1,ad on L i 2,ad on L i 3,ad on L i 4,ad on L i 5,ad on L i 6,ad on L i 7,ad on L i 8,ad on L i 9,ad on L i 10,ad on L i 11,ad on L i 12,ad on L i 13,ad on L i 14,ad on L i 15,ad on L i 16,ad on L i 17,ad on L i 18,ad on L i 19,ad on L i 20,ad on L i 21,ad on L i 22,ad on L i 23,u15,cells false 2 (nth [u10,u5])] g (ret u4) [u9,u12,u3,u13,cells false 27 (aM V),u14,ad on L u8 0,ad on L u8 1,ad on L u8 2,ad on L u8 3,ad on L u8 4,ad on L u8 5,ad on L u8 6,ad on L u8 7,ad on L u8 8,ad on L u8 9,ad on L u8 10,ad on L u8 11,ad on L u8 12,ad on L u8 13,ad on L u8 14,ad on L u8 15,ad on L u8 16,ad on L u8 17,ad on L u8 18,ad on L u8 19,ad on L u8 20,ad on L u8 21,ad on L u8 22,ad on L u8 23,u15,cells false 2 (nth [u10,u5])] g)/\2<=2/\(∀(c:Nat),c<2->nth [u10,u4] c=ap (nth [u10,u5]) 1 1 (fun (x:Nat)=>u4) c)/\2<=2/\(decide (u16 > 0)=true->2<=2/\0<2/\(m+1)*32<=aN/\m+1<=aN/\2<=2/\m*2<=m*2/\(∀(c:Nat),c<(m+1)*2->bv on NU L (aW on L i++[i]) c=a9 2 m (fun (i_1 j:Nat)=>bv on NU L (aW on L i) (i_1*2+j)) (fun (i j:Nat)=>ap (fun (j:Nat)=>nth [int i64 0,fz Fz.nil 0 0 fun _ _=>any] (j%2)) 0 2 (List.brecOn (motive:=fun (x:List AV)=>Nat->AV) [u10,u4] nth._f) (0+i*2+j)) c)/\(-9223372036854775808<=(i:Int)+1/\(i:Int)+1<=9223372036854775807)/\Q AEx.normal (St.mk [(1,int i64 goal),(7,ref 1 0),(9,ow true 3 u6 1),(13,ref 4 0),(14,ow true 33 (m+1) 2),(62,ow true 5 (L.length) 2),(63,int i64 u7),(64,int i64 ((i:Int)+1))] [u9,u12,u3,u13,cells false 27 (aM V),u14,ad on L u8 0,ad on L u8 1,ad on L u8 2,ad on L u8 3,ad on L u8 4,ad on L u8 5,ad on L u8 6,ad on L u8 7,ad on L u8 8,ad on L u8 9,ad on L u8 10,ad on L u8 11,ad on L u8 12,ad on L u8 13,ad on L u8 14,ad on L u8 15,ad on L u8 16,ad on L u8 17,ad on L u8 18,ad on L u8 19,ad on L u8 20,ad on L u8 21,ad on L u8 22,ad on L u8 23,dead,cells false 2 (nth [u10,u4]),cells false 2 (ap (fun (j:Nat)=>nth [int i64 0,fz Fz.nil 0 0 fun _ _=>any] (j%2)) 0 2 (List.brecOn (motive:=fun (x:List AV)=>Nat->AV) [u10,u4] nth._f)),cells false ((m+1)*2) (bv on NU L (aW on L i++[i]))] g))/\(decide (u16 > 0)=false->(-9223372036854775808<=(i:Int)+1/\(i:Int)+1<=9223372036854775807)/\Q AEx.normal (St.mk [(1,int i64 goal),(7,ref 1 0),(9,ow true 3 u6 1),(13,ref 4 0),(14,ow true 30 m 2),(62,ow true 5 (L.length) 2),(63,int i64 u7),(64,int i64 ((i:Int)+1))] [u9,u12,u3,u13,cells false 27 (aM V),u14,ad on L u8 0,ad on L u8 1,ad on L u8 2,ad on L u8 3,ad on L u8 4,ad on L u8 5,ad on L u8 6,ad on L u8 7,ad on L u8 8,ad on L u8 9,ad on L u8 10,ad on L u8 11,ad on L u8 12,ad on L u8 13,ad on L u8 14,ad on L u8 15,ad on L u8 16,ad on L u8 17,ad on L u8 18,ad on L u8 19,ad on L u8 20,ad on L u8 21,ad on L u8 22,ad on L u8 23,u15,cells false 2 (nth [u10,u4])] g)))/\(decide (u2.rule >= 0)=false->Wp Tryd.prog R 98 0 Rd.top (ah Tryd.prog 25) [1,1,1,1,1,1,1,1,0,1,0,0,1,1,0,0,1,0,1,1] (aq Tryd.prog R 98 0 Rd.top (ah Tryd.prog 25) Q [Kont.seq [1,1,1,1,1,1,1,1,0,1,0,0,1,1,0,0,1,1],Kont.blk 3,Kont.seq [1,1,1,1,1,1,1,1,0,1,0,0,1,1,1]]) (St.mk [(1,int i64 goal),(7,ref 1 0),(9,ow true 3 u6 1),(13,ref 4 0),(14,ow true 30 m 2),(16,ref 31 0),(62,ow true 5 (L.length) 2),(63,int i64 u7),(64,int i64 (i:Int)),(70,AV.bool (decide (u2.rule >= 0)))] [u9,u12,u3,u13,cells false 27 (aM V),u14,ad on L i 0,ad on L i 1,ad on L i 2,ad on L i 3,ad on L i 4,ad on L i 5,ad on L i 6,ad on L i 7,ad on L i 8,ad on L i 9,ad on L i 10,ad on L i 11,ad on L i 12,ad on L i 13,ad on L i 14,ad on L i 15,ad on L i 16,ad on L i 17,ad on L i 18,ad on L i 19,ad on L i 20,ad on L i 21,ad on L i 22,ad on L i 23,u15,cells false 2 (nth [int i64 u2.rule,u5])] g)))/\(decide ((i:Int)<u7)=false->Q (AEx.exit 2) (St.mk u11 u1 g))) ((↑((aY on u2.atoms).length):Int))) (cells false (m*2) (bv on NU L (aW on L i)))) (cells false (L.length*2) (bW 6 L))) (cells false (u6*1) fun (a:Nat)=>af NU a)) (cells false 1 fun (x:Nat)=>int u64 (on:Int))) ([(1,int i64 goal),(7,ref 1 0),(9,ow true 3 u6 1),(13,ref 4 0),(14,ow true 30 m 2),(62,ow true 5 (L.length) 2),(63,int i64 u7),(64,int i64 (i:Int)),(65,AV.bool (decide ((i:Int)<u7)))])) (af NU (u2.rule.toNat))) (cells false 2 (nth [int i64 p.atoms,ae p.rules]))) (i+1)) ((L.length:Int))) ((aK on p.rules.l).length)) (ow true (6+i) (u2.atoms.length) 1)) (sl (6+i) 0 ((aY on u2.atoms).length) (u2.atoms.length) false 1)) (cells false 2 (nth [int i64 p.atoms,fz Fz.auto 2 ((az p on).rules.l.length) fun (i:Nat)=>bw ((az p on).rules.l.getD i default)]))) (L.getD i default)) ([cells false 2 (nth [int i64 p.atoms,ae p.rules]),cells false 1 fun (x:Nat)=>int u64 (on:Int),cells false 2 (nth [int i64 p.atoms,fz Fz.auto 2 ((az p on).rules.l.length) fun (i:Nat)=>bw ((az p on).rules.l.getD i default)]),cells false ((aK on p.rules.l).length*1) fun (a:Nat)=>af NU a,cells false 27 (aM V),cells false (L.length*2) (bW 6 L),ad on L i 0,ad on L i 1,ad on L i 2,ad on L i 3,ad on L i 4,ad on L i 5,ad on L i 6,ad on L i 7,ad on L i 8,ad on L i 9,ad on L i 10,ad on L i 11,ad on L i 12,ad on L i 13,ad on L i 14,ad on L i 15,ad on L i 16,ad on L i 17,ad on L i 18,ad on L i 19,ad on L i 20,ad on L i 21,ad on L i 22,ad on L i 23,cells false (m*2) (bv on NU L (aW on L i))])) (fun _=>by kernel_rfl) ⟨fun c1=>have c1:(i:Int)<(L.length:Int):=(of_decide_eq_true c1);⟨by omega,?_,by omega,(fun c hc=>match c,hc with|0,_=>(by kernel_rfl)|1,_=>(by kernel_rfl) ),by omega,fun _=>⟨by omega,by omega,by omega,by omega,(fun c hc=>match c,hc with|0,_=>(by kernel_rfl)|1,_=>(by kernel_rfl) ),by omega,?_,by omega,(fun c hc=>match c,hc with|0,_=>(by kernel_rfl)|1,_=>(by kernel_rfl) ),by omega,fun c2=>have c2:(↑((aY on (L.getD i default).atoms).length):Int) > 0:=(of_decide_eq_true c2);⟨by omega,by omega,by omega,by omega,by omega,by omega,?_,by omega,?_⟩,fun c2=>have c2:¬(↑((aY on (L.getD i default).atoms).length):Int) > 0:=(of_decide_eq_false c2);⟨by omega,?_⟩⟩,fun hcc=>(nomatch (hge.symm.trans hcc))⟩,fun c1=>have c1:¬(i:Int)<(L.length:Int):=(of_decide_eq_false c1);?_⟩
      ·exact pB rfl rfl (by kernel_rfl) rfl (by show i*2+2<=L.length*2;omega) qT
      ·exact⟨rfl,qS R on L i _ _ _ _ _ _ _ (by omega) hlt ⟨o2,by omega⟩ o4 g⟩
      ·intro c hc
       rw[hm] at hc ⊢
       exact(qU (on:=on) (nums:=NU) (l:=L) (q:=aW on L i) (i:=i) (z:=fun j=>nth [.int .i64 0,.fz .nil 0 0 fun _ _=>.any] (j%2)) hc).trans (by rw[har];kernel_rfl)
      ·have hsc:=kF (on:=on) (l:=L) (i:=i)
       rw[if_pos (show 0<(aY on (L.getD i default).atoms).length by omega)] at hsc
       have hm2:m+1=(aW on L (i+1)).length:=by rw[hsc,List.length_append,<-hm];rfl
       refine aX (i+1,m+1) (bo (gm 33) 34 rfl rfl rfl rfl rfl ⟨Le.refl _,Le.refl _,Le.refl _,Le.refl _,Le.refl _,Le.refl _,Le.refl _,Le.of_eq rfl,trivial⟩ (kG hL24 (by omega) hm2 (by rw[hsc];rfl))) ⟨by show i+1<=_;omega,hm2⟩ (by show L.length-(i+1)<L.length-i;omega)
      ·have hsc:=kF (on:=on) (l:=L) (i:=i)
       rw[if_neg (show ¬0<(aY on (L.getD i default).atoms).length by omega)] at hsc
       have hm2:m=(aW on L (i+1)).length:=by rw[hsc,<-hm]
       refine aX (i+1,m) (bo (gm 30) 32 rfl rfl rfl rfl rfl ⟨Le.refl _,Le.refl _,Le.refl _,Le.refl _,Le.refl _,Le.refl _,Le.refl _,Le.of_eq rfl,trivial⟩ (kG hL24 (by omega) hm2 (by rw[hsc];rfl))) ⟨by show i+1<=_;omega,hm2⟩ (by show L.length-(i+1)<L.length-i;omega)
      ·exfalso;omega
     ·have hge:decide ((L.getD i default).rule >= 0)=false:=decide_eq_false (by omega)
      have har:gl NU (L.getD i default)=(L.getD i default).rule:=if_neg hru
      refine vcQ [[1,1,1,1,1,1,1,1,0,1,0,0,1,1,0,0,1,0,1,0]] (lkL [(16,[1,7,9,13,14,62,63,64,65]),(17,[1,7,9,13,14,16,62,63,64]),(18,[1,7,9,13,14,16,62,63,64,70]),(20,[1,7,9,13,14,16,62,63,64]),(21,[1,7,9,13,14,16,62,63,64,85]),(22,[1,7,9,13,14,62,63,64]),(23,[1,7,9,13,14,62,63,64])]) (lkL [(17,[(1,ROrc.kop (agg 2 (nth [int i64 (L.getD i default).rule,ow true (6+i) ((L.getD i default).atoms.length) 1]))),(3,ROrc.val (Orc.obj (nth [int i64 (L.getD i default).rule,ow true (6+i) ((L.getD i default).atoms.length) 1])))]),(20,[(3,ROrc.call (sl (6+i) 0 ((aY on (L.getD i default).atoms).length) ((L.getD i default).atoms.length) false 1) (cells false 2 (nth [int i64 p.atoms,ae p.rules])::(cells false 1 fun (x:Nat)=>int u64 (on:Int))::cells false 2 (nth [int i64 p.atoms,ae (az p on).rules])::cells false ((aK on p.rules.l).length*1) (af NU)::cells false 27 (aM V)::cells false (L.length*2) (bW 6 L)::bx (ad on L (i+1)) [cells false (m*2) (bv on NU L (aW on L i)),cells false 2 (nth [int i64 (L.getD i default).rule,ow true (6+i) ((L.getD i default).atoms.length) 1])]) g),(5,ROrc.val (Orc.obj (nth [int i64 (L.getD i default).rule,sl (6+i) 0 ((aY on (L.getD i default).atoms).length) ((L.getD i default).atoms.length) false 1])))]),(22,[(3,ROrc.val (Orc.obj (bv on NU L (aW on L i++[i]))))])]) (fun Q=>(fun (u1:List AObj)=>(fun (u2:List AObj)=>(fun (u3:Stp)=>(fun (u4:AV)=>(fun (u5:Int)=>(fun (u6:AObj)=>(fun (u7:List (Nat × AV))=>(fun (u8:List AV)=>(fun (u9:Nat)=>(fun (u10:Nat)=>(fun (u11:Int)=>(fun (u12:Int)=>(fun (u13:AObj)=>(fun (u14:AObj)=>(fun (u15:List AV)=>(fun (u16:AObj)=>(decide (u12<u5)=true->(0<=u12/\u12<u5)/\OpOk Tryd.prog R (Oper.mk (some 67) (Op.load 71 (Operand.tmp 66)) 71 "table.go:316" #[Edge.mk 0 Ground.data] none) (evO [Row.mk (some 66) none (ref 5 (i*2)) false (some []) []] u7 []) u1 g (agg 2 (nth u8)) u1 g/\2<=2/\(∀(c:Nat),c<2->nth u8 c=ap (nth u15) 0 2 (List.brecOn (motive:=fun (x:List AV)=>Nat->AV) u8 nth._f) c)/\1<=2/\(decide (u3.rule >= 0)=true->Wp Tryd.prog R 98 0 Rd.top (ah Tryd.prog 25) [1,1,1,1,1,1,1,1,0,1,0,0,1,1,0,0,1,0,1,0] (aq Tryd.prog R 98 0 Rd.top (ah Tryd.prog 25) Q [Kont.seq [1,1,1,1,1,1,1,1,0,1,0,0,1,1,0,0,1,1],Kont.blk 3,Kont.seq [1,1,1,1,1,1,1,1,0,1,0,0,1,1,1]]) (St.mk [(1,int i64 goal),(7,ref 1 0),(9,ow true 3 u10 1),(13,ref 4 0),(14,ow true 30 m 2),(16,ref 31 0),(62,ow true 5 (L.length) 2),(63,int i64 u5),(64,int i64 u12),(70,AV.bool (decide (u3.rule >= 0)))] u2 g))/\(decide (u3.rule >= 0)=false->2<=2/\(true=true/\Does Tryd.prog R 72 [ow true (6+i) (u3.atoms.length) 1,fn 73 0 (nth []) 1 (nth [ref 1 0])] u2 g (ret u4) [u13,u14,u6,u16,cells false 27 (aM V),cells false (L.length*2) (bW 6 L),ad on L u9 0,ad on L u9 1,ad on L u9 2,ad on L u9 3,ad on L u9 4,ad on L u9 5,ad on L u9 6,ad on L u9 7,ad on L u9 8,ad on L u9 9,ad on L u9 10,ad on L u9 11,ad on L u9 12,ad on L u9 13,ad on L u9 14,ad on L u9 15,ad on L u9 16,ad on L u9 17,ad on L u9 18,ad on L u9 19,ad on L u9 20,ad on L u9 21,ad on L u9 22,ad on L u9 23,cells false (m*2) (bv on NU L (aW on L i)),cells false 2 (nth u8)] g)/\2<=2/\(∀(c:Nat),c<2->nth [int i64 u3.rule,u4] c=ap (nth u8) 1 1 (fun (x:Nat)=>u4) c)/\2<=2/\(decide (u11 > 0)=true->2<=2/\0<2/\(m+1)*32<=aN/\m+1<=aN/\2<=2/\m*2<=m*2/\(∀(c:Nat),c<(m+1)*2->bv on NU L (aW on L i++[i]) c=a9 2 m (fun (i_1 j:Nat)=>bv on NU L (aW on L i) (i_1*2+j)) (fun (i j:Nat)=>ap (fun (j:Nat)=>nth u15 (j%2)) 0 2 (List.brecOn (motive:=fun (x:List AV)=>Nat->AV) [int i64 u3.rule,u4] nth._f) (0+i*2+j)) c)/\(-9223372036854775808<=u12+1/\u12+1<=9223372036854775807)/\Q AEx.normal (St.mk [(1,int i64 goal),(7,ref 1 0),(9,ow true 3 u10 1),(13,ref 4 0),(14,ow true 33 (m+1) 2),(62,ow true 5 (L.length) 2),(63,int i64 u5),(64,int i64 (u12+1))] [u13,u14,u6,u16,cells false 27 (aM V),cells false (L.length*2) (bW 6 L),ad on L u9 0,ad on L u9 1,ad on L u9 2,ad on L u9 3,ad on L u9 4,ad on L u9 5,ad on L u9 6,ad on L u9 7,ad on L u9 8,ad on L u9 9,ad on L u9 10,ad on L u9 11,ad on L u9 12,ad on L u9 13,ad on L u9 14,ad on L u9 15,ad on L u9 16,ad on L u9 17,ad on L u9 18,ad on L u9 19,ad on L u9 20,ad on L u9 21,ad on L u9 22,ad on L u9 23,dead,cells false 2 (nth [int i64 u3.rule,u4]),cells false 2 (ap (fun (j:Nat)=>nth u15 (j%2)) 0 2 (List.brecOn (motive:=fun (x:List AV)=>Nat->AV) [int i64 u3.rule,u4] nth._f)),cells false ((m+1)*2) (bv on NU L (aW on L i++[i]))] g))/\(decide (u11 > 0)=false->(-9223372036854775808<=u12+1/\u12+1<=9223372036854775807)/\Q AEx.normal (St.mk [(1,int i64 goal),(7,ref 1 0),(9,ow true 3 u10 1),(13,ref 4 0),(14,ow true 30 m 2),(62,ow true 5 (L.length) 2),(63,int i64 u5),(64,int i64 (u12+1))] [u13,u14,u6,u16,cells false 27 (aM V),cells false (L.length*2) (bW 6 L),ad on L u9 0,ad on L u9 1,ad on L u9 2,ad on L u9 3,ad on L u9 4,ad on L u9 5,ad on L u9 6,ad on L u9 7,ad on L u9 8,ad on L u9 9,ad on L u9 10,ad on L u9 11,ad on L u9 12,ad on L u9 13,ad on L u9 14,ad on L u9 15,ad on L u9 16,ad on L u9 17,ad on L u9 18,ad on L u9 19,ad on L u9 20,ad on L u9 21,ad on L u9 22,ad on L u9 23,cells false (m*2) (bv on NU L (aW on L i)),cells false 2 (nth [int i64 u3.rule,u4])] g))))/\(decide (u12<u5)=false->Q (AEx.exit 2) (St.mk u7 u1 g))) (cells false (u10*1) fun (a:Nat)=>af NU a)) ([int i64 0,fz Fz.nil 0 0 fun _ _=>any])) (cells false 1 fun (x:Nat)=>int u64 (on:Int))) (cells false 2 (nth [int i64 p.atoms,ae p.rules]))) ((i:Int))) ((↑((aY on u3.atoms).length):Int))) ((aK on p.rules.l).length)) (i+1)) ([int i64 u3.rule,ow true (6+i) (u3.atoms.length) 1])) ([(1,int i64 goal),(7,ref 1 0),(9,ow true 3 ((aK on p.rules.l).length) 1),(13,ref 4 0),(14,ow true 30 m 2),(62,ow true 5 (L.length) 2),(63,int i64 u5),(64,int i64 (i:Int)),(65,AV.bool (decide ((i:Int)<u5)))])) (cells false 2 (nth [int i64 p.atoms,fz Fz.auto 2 ((az p on).rules.l.length) fun (i:Nat)=>bw ((az p on).rules.l.getD i default)]))) ((L.length:Int))) (sl (6+i) 0 ((aY on u3.atoms).length) (u3.atoms.length) false 1)) (L.getD i default)) ([cells false 2 (nth [int i64 p.atoms,ae p.rules]),cells false 1 fun (x:Nat)=>int u64 (on:Int),cells false 2 (nth [int i64 p.atoms,fz Fz.auto 2 ((az p on).rules.l.length) fun (i:Nat)=>bw ((az p on).rules.l.getD i default)]),cells false ((aK on p.rules.l).length*1) fun (a:Nat)=>af NU a,cells false 27 (aM V),cells false (L.length*2) (bW 6 L),ad on L i 0,ad on L i 1,ad on L i 2,ad on L i 3,ad on L i 4,ad on L i 5,ad on L i 6,ad on L i 7,ad on L i 8,ad on L i 9,ad on L i 10,ad on L i 11,ad on L i 12,ad on L i 13,ad on L i 14,ad on L i 15,ad on L i 16,ad on L i 17,ad on L i 18,ad on L i 19,ad on L i 20,ad on L i 21,ad on L i 22,ad on L i 23,cells false (m*2) (bv on NU L (aW on L i)),cells false 2 (nth [int i64 (L.getD i default).rule,ow true (6+i) ((L.getD i default).atoms.length) 1])])) ([cells false 2 (nth [int i64 p.atoms,ae p.rules]),cells false 1 fun (x:Nat)=>int u64 (on:Int),cells false 2 (nth [int i64 p.atoms,fz Fz.auto 2 ((az p on).rules.l.length) fun (i:Nat)=>bw ((az p on).rules.l.getD i default)]),cells false ((aK on p.rules.l).length*1) fun (a:Nat)=>af NU a,cells false 27 (aM V),cells false (L.length*2) (bW 6 L),ad on L i 0,ad on L i 1,ad on L i 2,ad on L i 3,ad on L i 4,ad on L i 5,ad on L i 6,ad on L i 7,ad on L i 8,ad on L i 9,ad on L i 10,ad on L i 11,ad on L i 12,ad on L i 13,ad on L i 14,ad on L i 15,ad on L i 16,ad on L i 17,ad on L i 18,ad on L i 19,ad on L i 20,ad on L i 21,ad on L i 22,ad on L i 23,cells false (m*2) (bv on NU L (aW on L i))])) (fun _=>by kernel_rfl) ⟨fun c1=>have c1:(i:Int)<(L.length:Int):=(of_decide_eq_true c1);⟨by omega,?_,by omega,(fun c hc=>match c,hc with|0,_=>(by kernel_rfl)|1,_=>(by kernel_rfl) ),by omega,fun hcc=>(nomatch (hge.symm.trans hcc)),fun _=>⟨by omega,?_,by omega,(fun c hc=>match c,hc with|0,_=>(by kernel_rfl)|1,_=>(by kernel_rfl) ),by omega,fun c2=>have c2:(↑((aY on (L.getD i default).atoms).length):Int) > 0:=(of_decide_eq_true c2);⟨by omega,by omega,by omega,by omega,by omega,by omega,?_,by omega,?_⟩,fun c2=>have c2:¬(↑((aY on (L.getD i default).atoms).length):Int) > 0:=(of_decide_eq_false c2);⟨by omega,?_⟩⟩⟩,fun c1=>have c1:¬(i:Int)<(L.length:Int):=(of_decide_eq_false c1);?_⟩
      ·exact pB rfl rfl (by kernel_rfl) rfl (by show i*2+2<=L.length*2;omega) qT
      ·exact⟨rfl,qS R on L i _ _ _ _ _ _ _ (by omega) hlt ⟨o2,by omega⟩ o4 g⟩
      ·intro c hc
       rw[hm] at hc ⊢
       exact(qU (on:=on) (nums:=NU) (l:=L) (q:=aW on L i) (i:=i) (z:=fun j=>nth [.int .i64 0,.fz .nil 0 0 fun _ _=>.any] (j%2)) hc).trans (by rw[har];kernel_rfl)
      ·have hsc:=kF (on:=on) (l:=L) (i:=i)
       rw[if_pos (show 0<(aY on (L.getD i default).atoms).length by omega)] at hsc
       have hm2:m+1=(aW on L (i+1)).length:=by rw[hsc,List.length_append,<-hm];rfl
       refine aX (i+1,m+1) (bo (gm 33) 34 rfl rfl rfl rfl rfl ⟨Le.refl _,Le.refl _,Le.refl _,Le.refl _,Le.refl _,Le.refl _,Le.refl _,Le.of_eq rfl,trivial⟩ (kG hL24 (by omega) hm2 (by rw[hsc];rfl))) ⟨by show i+1<=_;omega,hm2⟩ (by show L.length-(i+1)<L.length-i;omega)
      ·have hsc:=kF (on:=on) (l:=L) (i:=i)
       rw[if_neg (show ¬0<(aY on (L.getD i default).atoms).length by omega)] at hsc
       have hm2:m=(aW on L (i+1)).length:=by rw[hsc,<-hm]
       refine aX (i+1,m) (bo (gm 30) 32 rfl rfl rfl rfl rfl ⟨Le.refl _,Le.refl _,Le.refl _,Le.refl _,Le.refl _,Le.refl _,Le.refl _,Le.of_eq rfl,trivial⟩ (kG hL24 (by omega) hm2 (by rw[hsc];rfl))) ⟨by show i+1<=_;omega,hm2⟩ (by show L.length-(i+1)<L.length-i;omega)
      ·exfalso;omega
    ·have hie:i=L.length:=by omega
     subst hie
     have hbb2:decide ((L.length:Int)<(L.length:Int))=false:=decide_eq_false (by omega)
     refine vcQ [[1,1,1,1,1,1,1,1,0,1,0,0,1,0,0]] (lkL [(16,[1,7,9,13,14,62,63,64,65])]) (fun _=>[]) (fun Q=>(fun (u1:St R.σ)=>(fun (u2:Int)=>(decide (u2<u2)=true->Wp Tryd.prog R 98 0 Rd.top (ah Tryd.prog 25) [1,1,1,1,1,1,1,1,0,1,0,0,1,0,0] (aq Tryd.prog R 98 0 Rd.top (ah Tryd.prog 25) Q [Kont.seq [1,1,1,1,1,1,1,1,0,1,0,0,1,1]]) u1)/\(decide (u2<u2)=false->Q (AEx.exit 2) u1)) ((L.length:Int))) (St.mk [(1,int i64 goal),(7,ref 1 0),(9,ow true 3 ((aK on p.rules.l).length) 1),(13,ref 4 0),(14,ow true 30 m 2),(62,ow true 5 (L.length) 2),(63,int i64 (L.length:Int)),(64,int i64 (L.length:Int)),(65,AV.bool (decide ((L.length:Int)<(L.length:Int))))] [cells false 2 (nth [int i64 p.atoms,ae p.rules]),cells false 1 fun (x:Nat)=>int u64 (on:Int),cells false 2 (nth [int i64 p.atoms,fz Fz.auto 2 ((az p on).rules.l.length) fun (i:Nat)=>bw ((az p on).rules.l.getD i default)]),cells false ((aK on p.rules.l).length*1) fun (a:Nat)=>af NU a,cells false 27 (aM V),cells false (L.length*2) (bW 6 L),ad on L (L.length) 0,ad on L (L.length) 1,ad on L (L.length) 2,ad on L (L.length) 3,ad on L (L.length) 4,ad on L (L.length) 5,ad on L (L.length) 6,ad on L (L.length) 7,ad on L (L.length) 8,ad on L (L.length) 9,ad on L (L.length) 10,ad on L (L.length) 11,ad on L (L.length) 12,ad on L (L.length) 13,ad on L (L.length) 14,ad on L (L.length) 15,ad on L (L.length) 16,ad on L (L.length) 17,ad on L (L.length) 18,ad on L (L.length) 19,ad on L (L.length) 20,ad on L (L.length) 21,ad on L (L.length) 22,ad on L (L.length) 23,cells false (m*2) (bv on NU L (aW on L (L.length)))] g)) (fun _=>by kernel_rfl) ⟨fun hcc=>(nomatch (hbb2.symm.trans hcc)),fun _=>?_⟩
     all_goals first|(exfalso;rw[hbb2] at c1;cases c1)|skip
     refine⟨_,To.refl _,vcQ [] (lkL [(24,[4,5,6])]) (lkL [(24,[(5,ROrc.kop (int i64 (V (goal.toNat))))])]) (fun Q=>(fun (u1:List AObj)=>(fun (u2:Int)=>(0<=goal/\goal<(↑24:Int))/\OpOk Tryd.prog R (Oper.mk (some 96) (Op.load 43 (Operand.tmp 95)) 43 "table.go:325" #[Edge.mk 4 Ground.data] none) (evO [Row.mk (some 95) none (ref 4 (goal.toNat+2)) false (some []) [],Row.mk (some 94) none (ref 4 2) false (some []) [],Row.mk (some 93) none (ref 4 0) false (some []) [],Row.mk (some 92) none (int i64 goal) false (some []) [],Row.mk (some 91) none (ref 4 0) false (some []) []] [(1,int i64 goal),(7,ref 1 0),(9,ow true 3 ((aK on p.rules.l).length) 1),(13,ref 4 0),(14,ow true 30 m 2),(62,ow true 5 (L.length) 2),(63,int i64 u2),(64,int i64 u2),(65,AV.bool (decide (u2<u2)))] []) u1 g (int i64 (V (goal.toNat))) u1 g/\Q AEx.ret (St.mk [(4,int i64 (V (goal.toNat))),(5,ow true 30 m 2),(6,int i64 0)] u1 g)) ((L.length:Int))) ([cells false 2 (nth [int i64 p.atoms,ae p.rules]),cells false 1 fun (x:Nat)=>int u64 (on:Int),cells false 2 (nth [int i64 p.atoms,fz Fz.auto 2 ((az p on).rules.l.length) fun (i:Nat)=>bw ((az p on).rules.l.getD i default)]),cells false ((aK on p.rules.l).length*1) fun (a:Nat)=>af NU a,cells false 27 (aM V),cells false (L.length*2) (bW 6 L),ad on L (L.length) 0,ad on L (L.length) 1,ad on L (L.length) 2,ad on L (L.length) 3,ad on L (L.length) 4,ad on L (L.length) 5,ad on L (L.length) 6,ad on L (L.length) 7,ad on L (L.length) 8,ad on L (L.length) 9,ad on L (L.length) 10,ad on L (L.length) 11,ad on L (L.length) 12,ad on L (L.length) 13,ad on L (L.length) 14,ad on L (L.length) 15,ad on L (L.length) 16,ad on L (L.length) 17,ad on L (L.length) 18,ad on L (L.length) 19,ad on L (L.length) 20,ad on L (L.length) 21,ad on L (L.length) 22,ad on L (L.length) 23,cells false (m*2) (bv on NU L (aW on L (L.length)))])) (fun _=>by kernel_rfl) ⟨by omega,?_,?_⟩⟩
     ·exact eV rfl rfl (by kernel_rfl) rfl (by show _+1<=27;omega) (m4 (by omega) (by omega))
     ·show bz Tryd.prog R 0 _ _ _ _ .ret _
      refine eU (.tup 3 (nth [.int .i64 (V goal.toNat),.ow true 30 m 2,.int .i64 0])) _ rfl trivial (iR 0 [(0,.tup 3 (nth [.int .i64 (V goal.toNat),aT (dy on NU L),.int .i64 0]))] (Nat.le_refl _) (Nat.zero_le _) (fun i hi=>absurd hi (Nat.not_lt_zero i)) ⟨aE.tup (fun j hj=>match j,hj with|0,_=>aE.below trivial|1,_=>?_|2,_=>aE.below trivial),trivial⟩)
      exact ww hm hL24 rfl (fun k hk=>(jd (by omega)).trans rfl)
def hpD (p:Prg)(v:Nat->Int)(es:List (Value × AV))(c:Nat->AV):List AObj:=[.cells false 27 (ai p v (.mp 1)),.map es,.cells false 1 c]
theorem wy (R:Res)(p:Prg)(v:Nat->Int)(es:List (Value × AV))(c:Nat->AV)(g:R.σ):DoesD Tryd.prog R 100 [.ref 2 0] (hpD p v es c) g (some (.ifc 145 (.agg 0 (nth [])))) (hpD p v es (nth [.bool false])) g:=by
 refine tx (nt:=ct Tryd.prog 100) (rs:=dk Tryd.prog 100) (k0:=3) 4 1 (by kernel_rfl) (by kernel_rfl) (by kernel_rfl) rfl (by kernel_rfl) (by decide) (by decide) (by decide) (by decide) (by decide) ?_
 refine vcQ [[1,1,0,0,1,1,0],[1,1,1]] (lkL [(1,[0,1,6]),(2,[0,1,3]),(3,[0,1,13])]) (lkL [(2,[(6,ROrc.kop any)]),(5,[(0,ROrc.val (Orc.obj (nth [AV.bool false])))])]) (fun Q=>(fun (u1:List AObj)=>(fun (u2:AV)=>(true=true->OpOk Tryd.prog R (Oper.mk none (Op.store 145 (Operand.tmp 2) (Operand.tmp 10)) 0 "table.go:214" #[Edge.mk 5 Ground.data,Edge.mk 3 Ground.data,Edge.mk 0 Ground.phase,Edge.mk 1 Ground.phase,Edge.mk 2 Ground.phase,Edge.mk 3 Ground.phase,Edge.mk 4 (Ground.textOnly Departure.lateStores),Edge.mk 5 Ground.phase] none) (evO [Row.mk (some 2) none (ref 3 0) true (some [3]) [],Row.mk (some 11) none (AV.bool true) false (some []) [],Row.mk (some 10) none u2 false (some []) [],Row.mk (some 7) none (tup 2 (nth [u2,AV.bool true])) false (some []) [],Row.mk (some 9) none (tup 2 (nth [u2,AV.bool true])) false (some []) [],Row.mk (some 8) none (ifc 145 u2) false (some []) []] [(0,ref 2 0),(1,ifc 145 u2),(6,AV.bool true)] []) u1 g any u1 g/\(false=true->Wp Tryd.prog R (ct Tryd.prog 100) 3 Rd.no (ah Tryd.prog 100) [1,1,0,0,1,1,0] (aq Tryd.prog R (ct Tryd.prog 100) 3 Rd.no (ah Tryd.prog 100) Q [Kont.seq [1,1,0,1]]) (St.mk [(0,ref 2 0),(1,ifc 145 u2),(13,AV.bool false)] u1 g))/\(false=false->1<=1/\(∀(c_1:Nat),c_1<1->nth [AV.bool false] c_1=ap c 0 1 (fun (x:Nat)=>AV.bool false) c_1)/\Q AEx.normal (St.mk [] [cells false 27 (ai p v (AV.mp 1)),AObj.map es,cells false 1 (nth [AV.bool false]),cells false 0 (nth [])] g)))/\(true=false->Wp Tryd.prog R (ct Tryd.prog 100) 3 Rd.no (ah Tryd.prog 100) [1,1,1] (aq Tryd.prog R (ct Tryd.prog 100) 3 Rd.no (ah Tryd.prog 100) Q []) (St.mk [(0,ref 2 0),(1,ifc 145 u2),(6,AV.bool true)] [cells false 27 (ai p v (AV.mp 1)),AObj.map es,cells false 1 c] g))) (agg 0 (nth []))) ([cells false 27 (ai p v (AV.mp 1)),AObj.map es,cells false 1 c,cells false 0 (nth [])])) (fun _=>by kernel_rfl) ⟨fun _=>⟨?_,fun h=>(nomatch h),fun _=>⟨by omega,(fun c hc=>match c,hc with|0,_=>(by kernel_rfl) ),?_⟩⟩,fun h=>(nomatch h)⟩
 ·exact ux rfl rfl rfl (by kernel_rfl)
 ·refine(av (cv 3 _ _ rfl trivial (by omega) trivial ⟨(fun _ _=>(by first|exact trivial|apply aL)),(fun j hj=>match j,hj with|0,_=>trivial ),trivial⟩ (by kernel_rfl) rfl rfl) (Le.refl _))
theorem wz (R:Res)(p:Prg)(v:Nat->Int)(es:List (Value × AV))(s:Step)(n:Nat)(c:Nat->AV)(hl:p.rules.l.length<1000000)(hr:∀r,r∈p.rules.l->aP r)(h:dM p v s=false)(g:R.σ):Does Tryd.prog R 141 [dc s,.ref 0 0] [.cells false 27 (ai p v (.mp 1)),.map es,.cells false n c] g (.pan (.ifc 145 (.agg 0 (nth [])))) [.cells false 27 (ai p v (.mp 1)),.map es,.cells false n c] g:=
 cf [0,1] 3 (fun R g=>vd R p v es s hl hr h g) rfl rfl rfl ⟨LeO.cells (fun j hj=>(bZ (f:=aw [0,1] 3) rfl).symm),rfl,trivial⟩ (by exact⟨by decide,trivial⟩) ⟨aB (by exact⟨⟨trivial,trivial⟩,trivial⟩),Le.refl _,trivial⟩ (Le.of_eq (by rfl)) ⟨LeO.cells (fun j hj=>bZ rfl),rfl,LeO.refl _,trivial⟩
theorem wA (R:Res)(p:Prg)(v:Nat->Int)(es:List (Value × AV))(s:Step)(hl:p.rules.l.length<1000000)(hr:∀r,r∈p.rules.l->aP r)(h:dM p v s=false)(g:R.σ):Does Tryd.prog R 67 [.ref 0 0,.ifc 149 (dc s)] [.cells false 27 (ai p v (.mp 1)),.map es] g (.ret (.bool false)) [.cells false 27 (ai p v (.mp 1)),.map es] g:=by
 refine tz (K:=100) (nt:=ct Tryd.prog 67) (rs:=dk Tryd.prog 67) (k0:=2) 5 [4] (by kernel_rfl) (by kernel_rfl) (by kernel_rfl) rfl (by kernel_rfl) (by kernel_rfl) (by decide) (by decide) ?_
 refine vcQ [] (lkL [(0,[0,1,4])]) (fun _=>[]) (fun Q=>Q AEx.normal (St.mk [(0,ref 0 0),(1,ifc 149 (agg 2 (nth [int i64 s.rule,fz s.atoms.2 1 (s.atoms.l.length) fun (i x:Nat)=>af s.atoms.l i]))),(4,ref 2 0)] [cells false 27 (ai p v (AV.mp 1)),AObj.map es,cells false 1 fun (a:Nat)=>AV.bool false] g)) (fun _=>by kernel_rfl) (?_)
 refine tC 3 [.ref 2 0] rfl rfl rfl ?_
 have hD:=fun (R:Res) (n:Nat) (c:Nat->AV) (g:R.σ)=>wz R p v es s n c hl hr h g
 refine vcQ [] (lkL [(2,[4])]) (lkL [(2,[(2,ROrc.ipan (ifc 145 (agg 0 (nth []))) [cells false 27 (ai p v (AV.mp 1)),AObj.map es,cells false 1 fun (a:Nat)=>AV.bool false] g)])]) (fun Q=>(fun (u1:List AObj)=>(true=true/\true=true/\Does Tryd.prog R 141 [agg 2 (nth [int i64 s.rule,fz s.atoms.2 1 (s.atoms.l.length) fun (i x:Nat)=>af s.atoms.l i]),ref 0 0] u1 g (Oc.pan (ifc 145 (agg 0 (nth [])))) u1 g)/\Q (AEx.pan (ifc 145 (agg 0 (nth [])))) (St.mk [(4,ref 2 0)] u1 g)) ([cells false 27 (ai p v (AV.mp 1)),AObj.map es,cells false 1 fun (a:Nat)=>AV.bool false])) (fun _=>by kernel_rfl) ⟨⟨by kernel_rfl,rfl,(hD _ _ _ _)⟩,?_⟩
 refine⟨_,_,wy R p v es _ g,?_⟩
 refine(av (cv 2 (AV.bool false) ([0+(TyI.mk (TypeInfo.mk TypeDesc.bool "bool" 1 1 false 1 1 (some (Value.bool false)) true #[]).desc Tryd.prog.types[4].size Tryd.prog.types[4].bytes (cp (dA (Value.bool false))) (cU (TypeInfo.mk TypeDesc.bool "bool" 1 1 false 1 1 (some (Value.bool false)) true #[]).desc) (ej Tryd.prog 4)).size<=1]) (by kernel_rfl) (by exact⟨by decide,trivial⟩) (by omega) trivial ⟨(fun _ _=>(by first|exact trivial|apply aL)),trivial⟩ (by kernel_rfl) rfl rfl) (Le.refl _))
theorem wB {s:Step}(h:s.rule ≠ -1):kj s=.ifc 149 (dc s):=if_neg h
theorem wC (R:Res)(s:Step)(h:s.rule ≠ -1)(hp:List AObj)(g:R.σ):Does Tryd.prog R 68 [dc s] hp g (.ret (.ifc 149 (dc s))) hp g:=by
 rw[<-wB h]
 exact vb R s hp g
theorem wD (R:Res)(p:Prg)(v:Nat->Int)(es:List (Value × AV))(s:Step)(n0 n3:Nat)(c0 c3:Nat->AV)(hl:p.rules.l.length<1000000)(hr:∀r,r∈p.rules.l->aP r)(h:dM p v s=false)(g:R.σ):Does Tryd.prog R 67 [.ref 1 0,.ifc 149 (dc s)] [.cells false n0 c0,.cells false 27 (ai p v (.mp 2)),.map es,.cells false n3 c3] g (.ret (.bool false)) [.cells false n0 c0,.cells false 27 (ai p v (.mp 2)),.map es,.cells false n3 c3] g:=
 cf [1,2] 4 (fun R g=>wA R p v es s hl hr h g) rfl rfl rfl ⟨LeO.cells (fun j hj=>(bZ (f:=aw [1,2] 4) rfl).symm),rfl,trivial⟩ (by exact⟨by decide,trivial⟩) ⟨Le.refl _,aB (by exact⟨⟨trivial,trivial⟩,trivial⟩),trivial⟩ (Le.refl _) ⟨LeO.refl _,LeO.cells (fun j hj=>bZ rfl),rfl,LeO.refl _,trivial⟩
theorem wE (R:Res)[Tab LT R](p:Prg)(l:KL Step)(hb:aJ p=true)(hll:0<l.l.length/\l.l.length<1000000)(h1:(l.l.getD 0 default).rule ≠ -1)(h2:dM p (fun _=>3) (l.l.getD 0 default)=false)(g:R.σ):Does Tryd.prog R 23 [aA p,aT l] [] g (.ret (.tup 2 (nth [.int .i64 0,.int .i64 7]))) [] g:=by
 obtain⟨hl,hr,hp,hh,hx⟩:=eG hb
 have hs:dK p:=fF hb
 have hp':1<=p.atoms/\p.atoms<=24:=hp
 refine ax (nt:=28) (rs:=[.tmp 4,.tmp 5]) (k0:=0) (by kernel_rfl) (by kernel_rfl) (by kernel_rfl) rfl ?_
 have hc:((if aJ p then(0:Int) else 2) != 0)=false:=by
  rw[hb]
  rfl
 refine vcQ [[1,0,1,0]] (lkL [(0,[1,2]),(1,[1,2,11]),(3,[1,6]),(4,[6,14,15,16])]) (lkL [(1,[(1,ROrc.pcall (int i64 (if aJ p=true then 0 else 2)))]),(3,[(1,ROrc.call (ref 1 0) [cells false 2 (nth [int i64 p.atoms,ae p.rules]),cells false 27 (ai p (fun (x:Nat)=>3) (AV.mp 2)),AObj.map (esF p.rules.l)] g)])]) (fun Q=>(fun (u1:AObj)=>(fun (u2:Int)=>(fun (u3:List AObj)=>2<=2/\(∀(hp:List AObj) (g:R.σ),true=true/\Does Tryd.prog R 16 [aA p] hp g (ret (int i64 u2)) hp g)/\((u2 != 0)=true->Wp Tryd.prog R 28 0 Rd.top (ah Tryd.prog 23) [1,0,1,0] (aq Tryd.prog R 28 0 Rd.top (ah Tryd.prog 23) Q [Kont.seq [1,1]]) (St.mk [(1,aT l),(2,ref 0 0),(11,AV.bool (u2 != 0))] [u1] g))/\((u2 != 0)=false->2<=2/\(true=true/\Does Tryd.prog R 66 [aA p] [u1] g (ret (ref 1 0)) u3 g)/\Wp Tryd.prog R 28 0 Rd.top (ah Tryd.prog 23) [1,1,1,0,1,0] (aq Tryd.prog R 28 0 Rd.top (ah Tryd.prog 23) Q [Kont.blk 0,Kont.seq [1,1,1,1]]) (St.mk [(6,ref 1 0),(14,aT l),(15,int i64 (l.l.length:Int)),(16,int i64 0)] u3 g))) ([u1,cells false 27 (ai p (fun (x:Nat)=>3) (AV.mp 2)),AObj.map (esF p.rules.l)])) (if aJ p=true then 0 else 2)) (cells false 2 (nth [int i64 p.atoms,ae p.rules]))) (fun _=>by kernel_rfl) ⟨by omega,(fun _ _=>⟨rfl,(f6 _ _ _ _ (by omega))⟩),fun hcc=>(nomatch (hc.symm.trans hcc)),fun _=>⟨by omega,⟨rfl,(mV _ _ _ (by omega) (by omega) _)⟩,?_⟩⟩
 refine(bb (by kernel_rfl) (fun (i:Nat)=>⟨[(6,ref 1 0),(14,aT l),(15,int i64 (l.l.length:Int)),(16,.int .i64 i)],[.cells false 2 (nth [.int .i64 p.atoms,ae p.rules]),.cells false 27 (ai p (fun _=>3) (.mp 2)),.map (esF p.rules.l)],g⟩) (fun (i:Nat)=>(i=0)) (fun (i:Nat)=>0) 0 (aV ⟨Le.refl _,Le.refl _,Le.refl _,(Le.of_eq (by kernel_rfl)),trivial⟩ rfl rfl) ?_ (fun i hi=>?_))
 ·rfl
 ·subst hi
  have hD:=fun (R:Res) (n0 n3:Nat) (c0 c3:Nat->AV) (g:R.σ)=>wD R p (fun _=>3) (esF p.rules.l) (l.l.getD 0 default) n0 n3 c0 c3 hl hr h2 g
  refine vcQ [[1,1,1,0,1,0,0,1,1,0,0,1,1,1]] (lkL [(5,[6,14,15,16,17]),(6,[6,7,8,14,15,16]),(7,[6,7,14,15,16,25]),(8,[4,5])]) (lkL [(6,[(5,ROrc.val (Orc.obj (nth [int i64 (l.l.getD 0 default).rule,fz (l.l.getD 0 default).atoms.2 1 ((l.l.getD 0 default).atoms.l.length) fun (i x:Nat)=>af (l.l.getD 0 default).atoms.l i])))]),(7,[(2,ROrc.pcall (ifc 149 (dc (l.l.getD 0 default)))),(3,ROrc.kcall (AV.bool false))])]) (fun Q=>(fun (u1:List AV)=>(fun (u2:List AObj)=>(fun (u3:Int)=>(fun (u4:Int)=>(decide (u4<u3)=true->(0<=u4/\u4<u3)/\2<=2/\2<=2/\(∀(c:Nat),c<2->nth u1 c=ap (nth [int i64 0,fz Fz.nil 0 0 fun _ _=>any]) 0 2 (List.brecOn (motive:=fun (x:List AV)=>Nat->AV) u1 nth._f) c)/\2<=2/\(∀(hp:List AObj) (g:R.σ),true=true/\Does Tryd.prog R 68 [agg 2 (nth u1)] hp g (ret (ifc 149 (agg 2 (nth u1)))) hp g)/\(true=true/\Does Tryd.prog R 67 [ref 1 0,ifc 149 (agg 2 (nth u1))] u2 g (ret (AV.bool false)) u2 g)/\(true=true->Q AEx.ret (St.mk [(4,int i64 u4),(5,int i64 7)] u2 g))/\(true=false->Wp Tryd.prog R 28 0 Rd.top (ah Tryd.prog 23) [1,1,1,0,1,0,0,1,1,0,0,1,1,1] (aq Tryd.prog R 28 0 Rd.top (ah Tryd.prog 23) Q [Kont.blk 1,Kont.seq [1,1,1,0,1,0,0,1,1,1]]) (St.mk [(6,ref 1 0),(7,int i64 u4),(14,aT l),(15,int i64 u3),(16,int i64 u4),(25,AV.bool true)] u2 g)))/\(decide (u4<u3)=false->Q (AEx.exit 0) (St.mk [(6,ref 1 0),(14,aT l),(15,int i64 u3),(16,int i64 u4),(17,AV.bool (decide (u4<u3)))] [cells false 2 (nth [int i64 p.atoms,ae p.rules]),cells false 27 (ai p (fun (x:Nat)=>3) (AV.mp 2)),AObj.map (esF p.rules.l)] g))) ((↑0:Int))) ((l.l.length:Int))) ([cells false 2 (nth [int i64 p.atoms,ae p.rules]),cells false 27 (ai p (fun (x:Nat)=>3) (AV.mp 2)),AObj.map (esF p.rules.l),cells false 2 (nth u1)])) ([int i64 (l.l.getD 0 default).rule,fz (l.l.getD 0 default).atoms.2 1 ((l.l.getD 0 default).atoms.l.length) fun (i x:Nat)=>af (l.l.getD 0 default).atoms.l i])) (fun _=>by kernel_rfl) ⟨fun c1=>have c1:(↑0:Int)<(l.l.length:Int):=(of_decide_eq_true c1);⟨by omega,by omega,by omega,(fun c hc=>match c,hc with|0,_=>(by kernel_rfl)|1,_=>(by kernel_rfl) ),by omega,(fun _ _=>⟨rfl,(wC _ _ (by omega) _ _)⟩),⟨rfl,(hD _ _ _ _ _ _)⟩,fun _=>?_,fun h=>(nomatch h)⟩,fun c1=>have c1:¬(↑0:Int)<(l.l.length:Int):=(of_decide_eq_false c1);?_⟩
  ·refine⟨_,To.refl _,(av (bE _ _ rfl trivial ⟨⟨trivial,trivial⟩,trivial⟩ rfl) (Le.refl _))⟩
  ·exfalso;omega
def wF (v:List Int)(l:Lit):Bool:=if l.neg then v.getD l.atom.toNat 0==1 else v.getD l.atom.toNat 0==2
def wG (v:List Int)(l:Lit):Bool:=if l.neg then v.getD l.atom.toNat 0==2 else v.getD l.atom.toNat 0==1
def wH (v:List Int)(r:Rule):Bool:= !r.body.l.any (fun l=> !wF v l)
def wI (v:List Int)(s:List Bool)(l:Lit):Bool:=wG v l||(!l.neg&&s.getD l.atom.toNat false)
def wJ (v:List Int)(s:List Bool)(r:Rule):Bool:= !r.body.l.any (wI v s)
def qV (v:List Int)(s:List Bool)(r:Rule):Bool:=s.getD r.head.toNat false&&wJ v s r
def wK (s:List Bool)(n:Nat):List Int:=((List.range n).filter fun k=>s.getD k false).map fun (k:Nat)=>(k:Int)
def wL (s:Step):Int:=if s.rule = -1 then 1 else 2
def wM (x:Int)(v:List Int)(l:List Int):List Int:=l.foldl (fun v a=>v.set a.toNat x) v
def wN (v:List Int)(s:Step):List Int:=wM (wL s) v s.atoms.l
theorem wO {v:List Int}{a:Nat}{x:Int}(ha:a<v.length){c:Nat}:ap (af v) a 1 (fun _=>.int .i64 x) c=af (v.set a x) c:=by
 rw[dI]
 unfold af
 rw[List.getD_eq_getElem?_getD,List.getD_eq_getElem?_getD,List.getElem?_set]
 by_cases h:a=c
 ·subst h
  rw[if_pos (by omega),if_pos rfl,if_pos ha]
  rfl
 ·rw[if_neg (by omega),if_neg h]
theorem qW:∀{l:List Int} {b:List Bool},(l.foldl (fun (b:List Bool) (a:Int)=>b.set a.toNat true) b).length=b.length
 |[],_=>rfl
 |a::l,b=>by
  show(l.foldl _ (b.set a.toNat true)).length=_
  rw[qW,List.length_set]
def qX (v:List Int)(s:List Bool)(r:Rule):List Bool:=if qV v s r then s.set r.head.toNat false else s
def wP (v:List Int)(s:List Bool)(l:List Rule):List Bool:=l.foldl (qX v) s
def grCh (v:List Int):List Rule->List Bool->Bool
 |[],_=>false
 |r::l,s=>qV v s r||grCh v l (qX v s r)
def qY (v:List Int)(p:Prg):Nat->List Bool->List Bool
 |0,s=>s
 |n+1,s=>if grCh v p.rules.l s then qY v p n (wP v s p.rules.l) else s
def wQ (v:List Int):List Bool:=v.map (fun x=>x==3)
def grR (v:List Int)(p:Prg):List Bool:=qY v p (v.length+1) (wQ v)
def wR (v:List Int)(r:Rule):Bool:=v.getD r.head.toNat 0==3&&wH v r
def kH (v:List Int)(p:Prg):Int:=aI (wR v) p.rules.l 0
def qZ (v:List Int)(p:Prg):List Int:=wK (grR v p) v.length
def nj (v:List Int)(p:Prg):Stp:=if 0<=kH v p then⟨kH v p,[(p.rules.l.getD (kH v p).toNat default).head]⟩ else⟨-1,qZ v p⟩
def q0 (v:List Int)(p:Prg):Bool:=decide (0<=kH v p)||decide (0<(qZ v p).length)
def nk (p:Prg):Nat->List Int->List Stp->List Stp × List Int
 |0,v,l=>(l,v)
 |n+1,v,l=>if q0 v p then nk p n (wN v (ky (nj v p))) (l++[nj v p]) else(l,v)
def wS (p:Prg)(n:Nat):List Stp × List Int:=nk p (n+1) (List.replicate n 3) []
def q5 (v:List Int):Nat:=v.count 3
structure DerOk (p:Prg)(n:Nat)(x:Nat × List Int × List Stp × Step × Bool):Prop where
 num:x.1=x.2.2.1.length
 len:x.2.1.length=n
 step:x.2.2.2.1=ky (nj x.2.1 p)
 is:x.2.2.2.2=q0 x.2.1 p
 few:x.1+q5 x.2.1<=n
 der:∃f,q5 x.2.1<f/\nk p f x.2.1 x.2.2.1=wS p n
structure Agr (n:Nat)(v:List Int)(f:Nat->Int):Prop where
 len:v.length=n
 get:∀j,j<n->v.getD j 0=f j
 val:∀j,j<n->f j=1∨f j=2∨f j=3
def blk (f:Nat->Int)(m:Nat->Bool)(l:Lit):Bool:=cg f l==1||(!l.neg&&m l.atom.toNat)
section
variable {p:Prg}{n:Nat}{v:List Int}{f:Nat->Int}
theorem q6 {q:Nat->Bool}:∀{k n:Nat},(∀j,n<=j->q j=false)->(List.range (n+k)).filter q=(List.range n).filter q
 |0,_,_=>rfl
 |k+1,n,h=>by
  rw[<-Nat.add_assoc,List.range_succ,List.filter_append,q6 h,List.filter_cons,if_neg (by rw[h (n+k) (by omega)];decide)]
  exact List.append_nil _
end
end Go.Avm.Pack
namespace Go.Avm.Pack
open Go Go.Avm Go.Proofs
open Go.IntKind (i64 u64)
open Go.Avm.AV (int bool any fz fp sl ow ref fn ifc val agg tup)
open Go.Avm.AObj (cells dead)
open Go.Avm.Oc (ret)
set_option maxRecDepth 4000
def hgL (x:List Bool × Bool)(l:Lit):List Bool × Bool:=if x.1.getD l.atom.toNat false then x else(x.1.set l.atom.toNat true,true)
def hgU (x:List Bool × Bool)(r:Rule):List Bool × Bool:=if x.1.getD r.head.toNat false then r.body.l.foldl hgL x else x
def hgD (p:Prg)(s:List Bool):List Bool × Bool:=p.rules.l.foldl hgU (s,false)
def hgI (p:Prg):Nat->List Bool->List Bool
 |0,s=>s
 |k+1,s=>if (hgD p s).2 then hgI p k (hgD p s).1 else s
def hgR (p:Prg)(n a:Nat):List Bool:=hgI p (n+1) ((List.replicate n false).set a true)
def je (s:List Bool):Nat:=s.count false
structure HgS (x y:List Bool × Bool):Prop where
 len:y.1.length=x.1.length
 up:∀k,x.1.getD k false=true->y.1.getD k false=true
 ch:x.2=true->y.2=true
 cnt:je y.1<=je x.1
 less:y.2=true->x.2=false->je y.1<je x.1
 same:y.2=false->y.1=x.1
theorem wT {s:List Bool}{i k:Nat}(h:s.getD k false=true):(s.set i true).getD k false=true:=by
 rw[List.getD_eq_getElem?_getD] at h ⊢
 rw[List.getElem?_set]
 split
 ·split
  ·rfl
  ·rename_i e hn
   subst e
   rw[List.getElem?_eq_none (by omega)] at h
   cases h
 ·exact h
structure HgOk (p:Prg)(n a:Nat)(x:List Bool × Bool):Prop where
 len:x.1.length=n
 go:x.2=true->∃f,je x.1<f/\hgI p f x.1=hgR p n a
 stop:x.2=false->x.1=hgR p n a
theorem wU {s:List Bool}{i k:Nat}(h:(s.set i true).getD k false=true):k=i∨s.getD k false=true:=by
 rw[List.getD_eq_getElem?_getD,List.getElem?_set] at h
 split at h
 ·rename_i e;exact .inl e.symm
 ·rw[List.getD_eq_getElem?_getD];exact .inr h
end Go.Avm.Pack
namespace Go.Avm.Pack
open Go Go.Avm Go.Proofs Go.RowKit Go.Shelf
attribute [local go_sem] Oper.semAt_some
theorem wV (n:Nat)(hn:1<=n)(l s:Nat)(hs:s<2^24)(A:Addr)(FM:Mem)(ht:cC gsT FM)(J:Nat->World->Prop)(E:Ending->World->Prop)(K:Nat)
  (hJ:∀k W,J k W->W.cell? A=some (.int .u64 (Tb.cutN s k))/\W.frozen? A=false/\(∀b o,FM b=some o->W.heap[b]? = some o))
  (hJg:∀k W W',J k W->W.grownBy W' none->J k W')
  (hY:∀k W,k<K->k<(aj s).length->J k W->YieldAt Fence.wide (n-1) Tryd.prog l #[.int .i64 ((aj s).getD k 0)] W fun e W'=>e=.returned (.bool true)/\W'.cell? A=some (.int .u64 (Tb.cutN s k))/\W'.frozen? A=false/\J (k+1) (W'.setCell A (.int .u64 (Tb.cutN s (k+1)))))
  (hE:∀W,K<(aj s).length->J K W->YieldAt Fence.wide (n-1) Tryd.prog l #[.int .i64 ((aj s).getD K 0)] W fun e W'=>(e=.returned (.bool false)∨∃ch,e=.panicked ch)/\E e W')
  (W:World) (h0:J 0 W) :
  CallsIn Fence.wide n Tryd.prog 105 #[.func (.yield l) #[] #[],.pointer (some A)] W fun e W'=>((aj s).length<=K/\(∃v,e=.returned v)/\J (aj s).length W')∨(K<(aj s).length/\(((∃v,e=.returned v)/\E (.returned (.bool false)) W')∨∃ch,e=.panicked ch/\E (.panicked ch) W')):=by
 refine callsIn_of_wp Tryd.func105 rfl trivial ?_ rfl
 simp only[Tryd.ntmps105,List.size_toArray,List.length_cons,List.length_nil,Nat.reduceAdd,Nat.reduceSub,Array.replicate_succ,Array.replicate_zero,List.push_toArray,List.append_toArray,List.nil_append,List.cons_append]
 gi_wp2
 gi_loopw [] (fun wr=>∃k,k<=(aj s).length/\k<=K/\J k wr) (fun wr=>match wr.cell? A with|some (.int _ v)=>v.toNat|_=>0)
 case atStart=>exact⟨0,Nat.zero_le _,Nat.zero_le _,h0⟩
 case round=>
  obtain⟨k,hk,hkK,hJk⟩:=hrel
  obtain⟨hc,hf,hFM⟩:=hJ k wr hJk
  have hlt:=Tb.cutN_lt hs k
  rcases Nat.lt_or_ge k (aj s).length with hkl|hkl
  ·obtain⟨m,hm⟩:=Tb.cutN_in hs hkl
   have k1:0<Tb.cutN s k:=by
    rw[hm]
    exact Nat.mul_pos (Nat.pow_pos (by decide)) (by omega)
   have k2:=kd hm hlt
   clear hm
   have hz:¬((Tb.cutN s k:Nat):Int)=0:=by omega
   have htz:=fun m=>qd m (Tb.cutN s k) k1 hlt wr FM hFM ht
   rcases Nat.lt_or_ge k K with hlK|hgK
   ·have hYk:=fun W=>hY k W hlK hkl
    obtain⟨x,hx⟩:∃x,(aj s).getD k 0=x:=⟨_,rfl⟩
    rw[hx] at k2
    simp only[hx] at hYk
    simp only[k2] at htz
    gi_wp2
    refine⟨trivial,(htz _).mono ?_⟩
    rintro e w' ⟨rfl,hg⟩
    have hJ':=hJg k wr w' hJk hg
    obtain⟨hc',hf',hFM'⟩:=hJ k w' hJ'
    obtain⟨fn,tmps,assign,body,hy,hR⟩:=hYk w' hJ'
    dsimp only
    gi_wp2
    refine hR.mono ?_
    rintro e W3 ⟨rfl,hc3,hf3,hJ3⟩
    dsimp only
    gi_wp2
    have hb:bits .and .u64 ((Tb.cutN s k:Nat):Int) (((Tb.cutN s k:Nat):Int)-1)=((Tb.cutN s (k+1):Nat):Int):=qe _ hlt k1
    rw[hb]
    refine⟨⟨k+1,hkl,hlK,hJ3⟩,?_⟩
    rw[(hJ _ _ hJ3).1,hc]
    show((Tb.cutN s (k+1):Nat):Int).toNat<((Tb.cutN s k:Nat):Int).toNat
    have:Tb.cutN s (k+1)<=Tb.cutN s k-1:=Nat.and_le_right
    omega
   ·have hkK:K=k:=by omega
    subst hkK
    have hYk:=fun W=>hE W hkl
    obtain⟨x,hx⟩:∃x,(aj s).getD K 0=x:=⟨_,rfl⟩
    rw[hx] at k2
    simp only[hx] at hYk
    simp only[k2] at htz
    gi_wp2
    refine⟨trivial,(htz _).mono ?_⟩
    rintro e w' ⟨rfl,hg⟩
    have hJ':=hJg K wr w' hJk hg
    obtain⟨hc',hf',hFM'⟩:=hJ K w' hJ'
    obtain⟨fn,tmps,assign,body,hy,hR⟩:=hYk w' hJ'
    dsimp only
    gi_wp2
    refine hR.mono ?_
    rintro e W3 ⟨he,hE3⟩
    rcases he with rfl|⟨ch,rfl⟩
    ·dsimp only
     gi_wp2
     (try simp only[Exit.inBlock,Exit.then])
     refine bodyPost_ret (results_none rfl _ _ _) rfl ?_
     exact .inr ⟨hkl,.inl ⟨⟨_,rfl⟩,hE3⟩⟩
    ·exact⟨rfl,.inr ⟨hkl,.inr ⟨ch,rfl,hE3⟩⟩⟩
  ·have hz:((Tb.cutN s k:Nat):Int)=0:=by rw[show k=(aj s).length by omega,Tb.cutN_end hs];rfl
   have hkk:k=(aj s).length:=by omega
   subst hkk
   gi_wp2
   go_end0
   exact .inl ⟨hkK,⟨_,rfl⟩,hJk⟩
end Go.Avm.Pack
