/- Part 4 of the proof: lemmas. -/
import Derived.Test.YtbdagmhndndliaaDoorM3
namespace Go.Avm.Pack
open Go Go.Avm Go.Proofs
open Go.IntKind (i64 u64)
open Go.Avm.AV (int bool any fz fp sl ow ref fn ifc val agg tup)
open Go.Avm.AObj (cells dead)
open Go.Avm.Oc (ret)
set_option maxRecDepth 4000
theorem xu {P:Program}{R:Res}{o:Oper}{ev ev':Operand->AV}{hp hp':List AObj}{g g':R.σ}{v:AV}(h:OpOk P R o ev' hp g v hp' g')(hle:∀x,x∈o.op.operands->Le (ev x) (ev' x)):OpOk P R o ev hp g v hp' g':=
 ⟨fun FM Z w evc okw hop=>h.h FM Z w evc okw (fun x hx=>hle x hx _ _ _ (hop x hx))⟩
theorem xw (R:Res)(r:Int)(n N:Nat)(c:Nat->AV)(hc:∀j,j<N->Below 1 (c j))(hr:decide (r = -1)=true)(g:R.σ):Does Tryd.prog R 68 [.agg 2 (nth [.int .i64 r,.ow true 0 n 1])] [.cells false N c] g (.ret (.ifc 148 (.agg 2 (nth [.int .i64 r,.ow true 0 n 1])))) [.cells false N c] g:=by
 have hr:=of_decide_eq_true hr
 subst hr
 refine az (nt:=12) (rs:=[.tmp 2]) (k0:=1) (by kernel_rfl) (by kernel_rfl) (by kernel_rfl) rfl ?_
 refine vcQ [[1,0,1,1]] (lkL [(0,[1]),(1,[1,5]),(2,[2])]) (fun _=>[]) (fun Q=>(fun (u1:List AObj)=>1<=2/\(true=true->2<=2/\Q AEx.ret (St.mk [(2,ifc 148 (agg 2 (nth [int i64 (-1),ow true 0 n 1])))] u1 g))/\(true=false->Wp Tryd.prog R 12 1 Rd.top (af Tryd.prog 68) [1,0,1,1] (aq Tryd.prog R 12 1 Rd.top (af Tryd.prog 68) Q [Kont.seq [1,1]]) (St.mk [(1,ref 1 0),(5,AV.bool true)] u1 g))) ([cells false N c,cells false 2 (nth [int i64 (-1),ow true 0 n 1])])) (fun _=>by kernel_rfl) ⟨by omega,fun _=>⟨by omega,?_⟩,fun h=>(nomatch h)⟩
 refine(ax (bZ 1 _ _ rfl trivial (by omega) ⟨⟨trivial,trivial⟩,(show 1<=1 by omega)⟩ ⟨(fun _ _=>?_),trivial⟩ (by kernel_rfl) rfl rfl) (Le.refl _))
 exact hc _ (by assumption)
theorem xx (R:Res)(r:Int)(n N:Nat)(c:Nat->AV)(hc:∀j,j<N->Below 1 (c j))(hr:decide (r = -1)=false)(g:R.σ):Does Tryd.prog R 68 [.agg 2 (nth [.int .i64 r,.ow true 0 n 1])] [.cells false N c] g (.ret (.ifc 149 (.agg 2 (nth [.int .i64 r,.ow true 0 n 1])))) [.cells false N c] g:=by
 refine az (nt:=12) (rs:=[.tmp 2]) (k0:=1) (by kernel_rfl) (by kernel_rfl) (by kernel_rfl) rfl ?_
 refine vcQ [] (lkL [(0,[1]),(1,[1,5]),(2,[2]),(3,[2])]) (fun _=>[]) (fun Q=>(fun (u1:List AV)=>1<=2/\((r == -1)=true->2<=2/\Q AEx.ret (St.mk [(2,ifc 148 (agg 2 (nth u1)))] [cells false N c,cells false 2 (nth u1)] g))/\((r == -1)=false->2<=2/\Q AEx.ret (St.mk [(2,ifc 149 (agg 2 (nth u1)))] [cells false N c,cells false 2 (nth u1)] g))) ([int i64 r,ow true 0 n 1])) (fun _=>by kernel_rfl) ⟨by omega,fun c1=>have c1:r = -1:=(beq_iff_eq.mp c1);⟨by omega,?_⟩,fun c1=>have c1:¬r = -1:=(beq_eq_false_iff_ne.mp c1);⟨by omega,?_⟩⟩
 ·exact absurd c1 (of_decide_eq_false hr)
 ·refine(ax (bZ 1 _ _ rfl trivial (by omega) ⟨⟨trivial,trivial⟩,(show 1<=1 by omega)⟩ ⟨(fun _ _=>?_),trivial⟩ (by kernel_rfl) rfl rfl) (Le.refl _))
  exact hc _ (by assumption)
theorem cq {f:Nat->Nat}{p:Prg}{v:Nat->Int}{j m:Nat}(h:f 1=m):aY f (ai p v (.mp 1) j)=ai p v (.mp m) j:=by
 unfold ai
 split
 ·rfl
 ·split
  ·rfl
  ·split
   ·rfl
   ·show AV.mp (f 1)=_
    rw[h]
theorem nQ (R:Res)(p:Prg)(o:AObj)(hl:p.rules.l.length<1000000)(hr:∀r,r∈p.rules.l->aP r)(g:R.σ):Does Tryd.prog R 66 [ay p] [o] g (.ret (.ref 1 0)) [o,.cells false 27 (ai p (fun _=>3) (.mp 2)),.map (esF p.rules.l)] g:=
 bz [] 1 (fun R g=>wV R p hl hr g) rfl rfl rfl trivial trivial ⟨au (by exact⟨⟨trivial,trivial⟩,trivial⟩),trivial⟩ (Le.refl _) ⟨LeO.refl _,LeO.cells (fun j hj=>cq rfl),rfl,trivial⟩
theorem bo {k:Nat}(l:List Int)(j:Nat):Below k (ab l j):=trivial
theorem bx {f:Nat->Nat}(h:True){l:List Int}{j:Nat}:aY f (ab l j)=ab l j:=rfl
def b9 (l:List Stp):Nat->AV:=fun c=>bif Nat.beq (c%2) 0 then .int .i64 (l.getD (c/2) default).rule else .ow true (3+c/2) (l.getD (c/2) default).atoms.length 1
def ac (l:List Stp)(j:Nat):AObj:=.cells false ((l.getD j default).atoms.length*1) (ab (l.getD j default).atoms)
def jE (p:Prg)(v:Nat->Int)(l:List Stp):List AObj:=.cells false 27 (ai p v (.mp 1))::.map (esF p.rules.l)::.cells false (l.length*2) (b9 l)::bO (ac l) []
theorem ra {f:Nat->AV}{g:Nat->AV}:LeO (.cells false 0 f) (.cells false 0 g):=⟨rfl,Nat.le_refl _,fun j hj=>absurd hj (Nat.not_lt_zero j)⟩
theorem xy (p:Prg):leH ([AObj.cells false 27 (ai p (fun _=>3) (.mp 1)),.map (esF p.rules.l)]++List.replicate 25 (.cells false 0 (fun _=>.any))) (jE p (fun _=>3) []):=
 ⟨LeO.refl _,rfl,ra,qN (f:=fun _=>.cells false 0 (fun _=>.any)) (fun j hj=>ra) trivial⟩
def eu (l:List Stp)(s:Stp):Nat->AV:=fun c=>bif Nat.blt c (l.length*2) then b9 l c else nth [.int .i64 s.rule,.ow true 28 s.atoms.length 1] (c-l.length*2)
def dH (m:Nat):List Nat:=[0,1,31,(bif Nat.beq 0 m then 28 else 3),(bif Nat.beq 1 m then 28 else 4),(bif Nat.beq 2 m then 28 else 5),(bif Nat.beq 3 m then 28 else 6),(bif Nat.beq 4 m then 28 else 7),(bif Nat.beq 5 m then 28 else 8),(bif Nat.beq 6 m then 28 else 9),(bif Nat.beq 7 m then 28 else 10),(bif Nat.beq 8 m then 28 else 11),(bif Nat.beq 9 m then 28 else 12),(bif Nat.beq 10 m then 28 else 13),(bif Nat.beq 11 m then 28 else 14),(bif Nat.beq 12 m then 28 else 15),(bif Nat.beq 13 m then 28 else 16),(bif Nat.beq 14 m then 28 else 17),(bif Nat.beq 15 m then 28 else 18),(bif Nat.beq 16 m then 28 else 19),(bif Nat.beq 17 m then 28 else 20),(bif Nat.beq 18 m then 28 else 21),(bif Nat.beq 19 m then 28 else 22),(bif Nat.beq 20 m then 28 else 23),(bif Nat.beq 21 m then 28 else 24),(bif Nat.beq 22 m then 28 else 25),(bif Nat.beq 23 m then 28 else 26)]
theorem jF {m:Nat}(hm:m<24):cd (dH m) 32=true/\dp (dH m)=true/\∀b,b<24->aC (dH m) 32 (3+b)=(bif Nat.beq b m then 28 else b+3):=by
 have h:(List.range 24).all (fun m=>cd (dH m) 32&&(dp (dH m)&&(List.range 24).all (fun b=>aC (dH m) 32 (3+b)==(bif Nat.beq b m then 28 else b+3))))=true:=by decide +kernel
 have h:=(List.all_eq_true.1 h) m (List.mem_range.2 hm)
 simp only[Bool.and_eq_true] at h
 exact⟨h.1,h.2.1,fun b hb=>by simpa using (List.all_eq_true.1 h.2.2) b (List.mem_range.2 hb)⟩
theorem xz {f:Nat->Nat}{hp:List AObj}{m:Nat}{g:Nat->AObj}{x0 x1 x2:AObj}(h:∀j,j<24->LeO (ag hp (bif Nat.beq j m then 28 else j+3)) (bP f (g j)))(h0:LeO (ag hp 0) (bP f x0))(h1:LeO (ag hp 1) (bP f x1))(h2:LeO (ag hp 31) (bP f x2)):dO f hp (dH m) (x0::x1::x2::bO g []):=
 ⟨h0,h1,h2,h 0 (by decide),h 1 (by decide),h 2 (by decide),h 3 (by decide),h 4 (by decide),h 5 (by decide),h 6 (by decide),h 7 (by decide),h 8 (by decide),h 9 (by decide),h 10 (by decide),h 11 (by decide),h 12 (by decide),h 13 (by decide),h 14 (by decide),h 15 (by decide),h 16 (by decide),h 17 (by decide),h 18 (by decide),h 19 (by decide),h 20 (by decide),h 21 (by decide),h 22 (by decide),h 23 (by decide),trivial⟩
theorem nR {j m:Nat}(h:j≠m):Nat.beq j m=false:=by
 cases hx:Nat.beq j m with
 |false=>rfl
 |true=>exact absurd (Nat.eq_of_beq_eq_true hx) h
theorem rb (m:Nat):Nat.beq m m=true:=by simp
theorem rc {l:List Stp}{s:Stp}{z:Nat->AV}{c:Nat}(hc:c<(l.length+1)*2):eu l s c=bc 2 l.length (fun i j=>b9 l (i*2+j)) (fun i j=>ah z 0 2 (nth [.int .i64 s.rule,.ow true 28 s.atoms.length 1]) (0+i*2+j)) c:=by
 unfold bc eu
 by_cases h:c<l.length*2
 ·rw[if_pos h,show Nat.blt c (l.length*2)=true by rw[Nat.blt_eq];exact h]
  show b9 l c=b9 l (c/2*2+c%2)
  rw[show c/2*2+c%2=c by omega]
 ·rw[if_neg h,show Nat.blt c (l.length*2)=false from by
   cases hx:Nat.blt c (l.length*2) with
   |false=>rfl
   |true=>exact absurd (by rw[Nat.blt_eq] at hx;exact hx) h]
  show nth _ (c-l.length*2)=ah z 0 2 _ (0+(c-l.length*2)/2*2+(c-l.length*2)%2)
  rw[cL,if_pos (by omega)]
  congr 1
  omega
theorem jG {l:List Stp}{s:Stp}{j:Nat}:(l++[s]).getD j default=if j=l.length then s else l.getD j default:=by
 rw[List.getD_eq_getElem?_getD,List.getD_eq_getElem?_getD]
 rcases Nat.lt_trichotomy j l.length with h|h|h
 ·rw[List.getElem?_append_left h,if_neg (by omega)]
 ·subst h
  rw[List.getElem?_append_right (Nat.le_refl _),Nat.sub_self,if_pos rfl]
  rfl
 ·rw[if_neg (by omega),List.getElem?_eq_none (by simp;omega),List.getElem?_eq_none (by omega)]
theorem rd {p:Prg}{v':Nat->Int}{l:List Stp}{s:Stp}{o27 o29 o30:AObj}(hm:l.length<24):dO (aC (dH l.length) 32) (.cells false 27 (ai p v' (.mp 1))::.map (esF p.rules.l)::.dead::bO (ac l) [o27,.cells false (s.atoms.length*1) (ab s.atoms),o29,o30,.cells false ((l.length+1)*2) (eu l s)]) (dH l.length) (jE p v' (l++[s])):=by
 have hf:=(jF hm).2.2
 refine xz (fun j hj=>?_) (LeO.cells (fun j hj=>(bk (f:=aC (dH l.length) 32) rfl).symm)) rfl ?_
 ·by_cases hjm:j=l.length
  ·subst hjm
   rw[rb]
   show LeO (.cells false (s.atoms.length*1) (ab s.atoms)) (bP _ (ac (l++[s]) l.length))
   unfold ac
   rw[jG,if_pos rfl]
   exact LeO.refl _
  ·rw[nR hjm]
   have e:=ld (f:=ac l) (r:=[o27,.cells false (s.atoms.length*1) (ab s.atoms),o29,o30,.cells false ((l.length+1)*2) (eu l s)]) hj
   show LeO (ag (bO (ac l) _) j) _
   rw[e]
   unfold ac
   rw[jG,if_neg hjm]
   exact LeO.refl _
 ·show LeO (.cells false ((l.length+1)*2) (eu l s)) (.cells false ((l++[s]).length*2) (fun c=>aY (aC (dH l.length) 32) (b9 (l++[s]) c)))
  rw[List.length_append,List.length_singleton]
  refine LeO.cells (fun c hc=>?_)
  unfold eu b9
  rw[jG]
  by_cases h:c<l.length*2
  ·rw[show Nat.blt c (l.length*2)=true by rw[Nat.blt_eq];exact h,if_neg (by omega)]
   show(bif Nat.beq (c%2) 0 then _ else _)=aY _ (bif Nat.beq (c%2) 0 then _ else _)
   cases Nat.beq (c%2) 0 with
   |true=>rfl
   |false=>
    show AV.ow true (3+c/2) _ 1=AV.ow true (aC (dH l.length) 32 (3+c/2)) _ 1
    rw[hf (c/2) (by omega),nR (by omega)]
    congr 1
    show 3+c/2=c/2+3
    omega
  ·rw[show Nat.blt c (l.length*2)=false from by
    cases hx:Nat.blt c (l.length*2) with
    |false=>rfl
    |true=>exact absurd (by rw[Nat.blt_eq] at hx;exact hx) h,if_pos (by omega)]
   have h2:c=l.length*2∨c=l.length*2+1:=by omega
   rcases h2 with rfl|rfl
   ·rw[show l.length*2%2=0 by omega,Nat.sub_self]
    rfl
   ·rw[show(l.length*2+1)%2=1 by omega,show l.length*2+1-l.length*2=1 by omega,show(l.length*2+1)/2=l.length by omega]
    show AV.ow true 28 _ 1=AV.ow true (aC (dH l.length) 32 (3+l.length)) _ 1
    rw[hf l.length hm,rb]
    rfl
theorem nS {R:Res}{o:Oper}{ev:Operand->AV}{hp:List AObj}{g:R.σ}{x y:Operand}(a b:Nat->Int)(r:Bool)(ho:o.op=.binOp .eql 95 x y 95)(hne:x≠y)(hx:Le (ev x) (.agg 24 (fun j=>.int .i64 (a j))))(hy:Le (ev y) (.agg 24 (fun j=>.int .i64 (b j))))(hr:r=true↔∀j,j<24->a j=b j):OpOk Tryd.prog R o ev hp g (.bool r) hp g:=by
 classical
 have h:=vO (P:=Tryd.prog) (R:=R) (hp:=hp) (g:=g) (n:=24) (ev:=fun z=>if z=x then .agg 24 (fun j=>.int .i64 (a j)) else if z=y then .agg 24 (fun j=>.int .i64 (b j)) else .any) (e:=43) (k:=.i64) (a:=a) (b:=b) ho (if_pos rfl) ((if_neg (Ne.symm hne)).trans (if_pos rfl)) (by kernel_rfl) (by kernel_rfl) (by kernel_rfl) (by kernel_rfl) (by kernel_rfl)
 have e:∀d:Bool,(d=true↔∀j,j<24->a j=b j)->d=r:=fun d hd=>by
  rw[Bool.eq_iff_iff,hd,hr]
 rw[e _ decide_eq_true_iff] at h
 refine xu h (fun z _=>?_)
 by_cases h1:z=x
 ·subst h1;simp only[if_true];exact hx
 ·by_cases h2:z=y
  ·subst h2;simp only[h1,if_false,if_true];exact hy
  ·simp only[h1,h2,if_false];exact Le.any _
theorem nT {p:Prg}{v:Nat->Int}{m:AV}:Le (.agg 24 (fun j=>ai p v m (j+2))) (.agg 24 (fun j=>.int .i64 (v j))):=
 Le.agg (fun j hj=>Le.of_eq (fI rfl hj))
theorem nU {p:Prg}{v:Nat->Int}{m:AV}{z:Nat->AV}:Le (.agg 24 (ah z 0 24 (fun j=>ai p v m (j+2)))) (.agg 24 (fun j=>.int .i64 (v j))):=
 Le.agg (fun j hj=>Le.of_eq (by rw[cL,if_pos (by omega),Nat.sub_zero];exact fI rfl hj))
theorem re {p:Prg}{v:Nat->Int}(hp:b8 p)(hr:∀r,r∈p.rules.l->aP r)(hh:cZ p)(hb:bl p v=true):false=true↔∀j,j<24->bU v (ak p v) j=v j:=by
 obtain⟨_,a,h1,h2,h3⟩:=q8 hp hr hh hb
 have:=hp.2
 exact⟨fun h=>(by cases h),fun h=>absurd ((h a (by omega)).trans h2) h3⟩
theorem xA {l:List Stp}(hl:l.length<=24){c:Nat}(hc:c<l.length*2):Below 27 (b9 l c):=by
 unfold b9
 cases Nat.beq (c%2) 0 with
 |true=>trivial
 |false=>show 3+c/2<27;omega
theorem rf {p:Prg}{v:Nat->Int}{l:List Stp}{f:Nat}(hb:bl p v=true)(hlt:cD p (bU v (ak p v))<cD p v)(h1:cD p v+l.length<=p.atoms.toNat)(h2:cD p v<f)(h3:dx p f v l=am p):cD p (bU v (ak p v))+(l++[ak p v]).length<=p.atoms.toNat/\∃f,cD p (bU v (ak p v))<f/\dx p f (bU v (ak p v)) (l++[ak p v])=am p:=by
 refine⟨?_,?_⟩
 ·rw[List.length_append,List.length_singleton];omega
 ·obtain⟨f,rfl⟩:∃k,f=k+1:=⟨f-1,by omega⟩
  refine⟨f,by omega,?_⟩
  rw[<-h3]
  show _=(if bl p v then _ else _)
  rw[if_pos hb]
theorem rg (R:Res)[Tab LT R](p:Prg)(hl:p.rules.l.length<1000000)(hr:∀r,r∈p.rules.l->aP r)(hp:b8 p)(hh:cZ p)(g:R.σ):Does Tryd.prog R 60 [ay p] [] g (.ret (.tup 2 (nth [.ow true 2 (am p).1.length 2,.ref 0 0]))) (jE p (am p).2 (am p).1) g:=by
 refine az (nt:=37) (rs:=[.tmp 2,.tmp 3]) (k0:=0) (by kernel_rfl) (by kernel_rfl) (by kernel_rfl) rfl ?_
 refine vcQ [] (lkL [(0,[1]),(1,[4]),(2,[4,5])]) (lkL [(1,[(1,ROrc.call (ref 1 0) [cells false 2 (nth [int i64 p.atoms,ae p.rules]),cells false 27 (ai p (fun (x:Nat)=>3) (AV.mp 2)),AObj.map (esF p.rules.l)] g)])]) (fun Q=>(fun (u1:List AObj)=>2<=2/\(true=true/\Does Tryd.prog R 66 [ay p] [cells false 2 (nth [int i64 p.atoms,ae p.rules])] g (ret (ref 1 0)) u1 g)/\Wp Tryd.prog R 37 0 Rd.top (af Tryd.prog 60) [1,1,1,0] (aq Tryd.prog R 37 0 Rd.top (af Tryd.prog 60) Q [Kont.blk 0]) (St.mk [(4,ref 1 0),(5,fz Fz.nil 0 0 fun _ _=>any)] u1 g)) ([cells false 2 (nth [int i64 p.atoms,ae p.rules]),cells false 27 (ai p (fun (x:Nat)=>3) (AV.mp 2)),AObj.map (esF p.rules.l)])) (fun _=>by kernel_rfl) ⟨by omega,⟨rfl,(nQ _ _ _ (by omega) (by omega) _)⟩,?_⟩
 refine bQ (a9 (s':=⟨[(4,.ref 0 0),(5,.fz .nil 0 0 fun _ _=>.any)],[.cells false 27 (ai p (fun _=>3) (.mp 1)),.map (esF p.rules.l)],g⟩) [1,2] 3 rfl rfl rfl rfl rfl ⟨Le.refl _,Le.refl _,trivial⟩ ⟨LeO.cells (fun j hj=>(cq (f:=aC [1,2] 3) rfl).symm),rfl,trivial⟩) ?_
 refine bQ (eq (fun _=>.any) 25) ?_
 refine bQ (aX (s':=⟨[(4,.ref 0 0),(5,.ow true 2 0 2)],jE p (fun _=>3) [],g⟩) ⟨Le.refl _,Le.nil_ow,trivial⟩ (xy p) rfl) ?_
 refine(bg (by kernel_rfl) (fun (x:(Nat->Int) × List Stp)=>⟨[(4,ref 0 0),(5,.ow true 2 x.2.length 2)],(jE p x.1 x.2),g⟩) (fun (x:(Nat->Int) × List Stp)=>(cD p x.1+x.2.length<=p.atoms.toNat/\∃f,cD p x.1<f/\dx p f x.1 x.2=am p)) (fun (x:(Nat->Int) × List Stp)=>(cD p x.1)) ((fun _=>3,[]):(Nat->Int) × List Stp) (bh ⟨Le.refl _,Le.refl _,trivial⟩ rfl rfl) ?_ (fun x hi=>?_))
 ·refine⟨ln p _,25,?_,rfl⟩
  have:=ln p (fun _=>3)
  have:=hp.2
  show cD p (fun _=>3)<25
  omega
 ·obtain⟨v,l⟩:=x
  obtain⟨h1,f,h2,h3⟩:=hi
  simp only at h1 h2 h3
  have hes:=qM hr
  have hp':1<=p.atoms/\p.atoms<=24:=hp
  have hroom:aG=140737488355328:=rfl
  have hat:=nP (v:=v) hp hr hh
  cases hb:bl p v with
  |true=>
   by_cases hf:0<=bm p v
   ·obtain⟨k1,k2,k3,_⟩:=q7 hr hf
    have hal:0<(ak p v).atoms.length:=by rw[show ak p v=_ from if_pos hf];exact Nat.zero_lt_one
    have k4:decide ((ak p v).rule = -1)=false:=decide_eq_false (by omega)
    refine vcQ [[1,1,1,0,0,0,1,1,1,0],[1,1,1,0,0,0,1,0,1,1,1]] (lkL [(3,[4,5,6]),(4,[4,5,6,7,8]),(5,[4,5,6,7,20]),(6,[4,5,6,7]),(7,[4,5,6]),(8,[4,5,34])]) (lkL [(4,[(1,ROrc.call (tup 2 (nth [agg 2 (nth [int i64 (ak p v).rule,ow true 28 ((ak p v).atoms.length) 1]),AV.bool (bl p v)])) [cells false 27 (ai p v (AV.mp 1)),AObj.map (esF p.rules.l),cells false (l.length*2) (b9 l),ac l 0,ac l 1,ac l 2,ac l 3,ac l 4,ac l 5,ac l 6,ac l 7,ac l 8,ac l 9,ac l 10,ac l 11,ac l 12,ac l 13,ac l 14,ac l 15,ac l 16,ac l 17,ac l 18,ac l 19,ac l 20,ac l 21,ac l 22,ac l 23,cells false 24 (ah (nth [int i64 0,int i64 0,int i64 0,int i64 0,int i64 0,int i64 0,int i64 0,int i64 0,int i64 0,int i64 0,int i64 0,int i64 0,int i64 0,int i64 0,int i64 0,int i64 0,int i64 0,int i64 0,int i64 0,int i64 0,int i64 0,int i64 0,int i64 0,int i64 0]) 0 24 fun (j:Nat)=>ai p v (AV.mp 1) (j+2)),cells false ((ak p v).atoms.length*1) (ab (ak p v).atoms)] g),(6,ROrc.val (Orc.obj (nth [int i64 (ak p v).rule,ow true 28 ((ak p v).atoms.length) 1])))]),(6,[(1,ROrc.kcall (ifc 149 (agg 2 (nth [int i64 (ak p v).rule,ow true 28 ((ak p v).atoms.length) 1])))),(3,ROrc.inv (tup 0 (nth [])) [cells false 27 (ai p (gM p v (eK (ak p v))) (AV.mp 1)),AObj.map (esF p.rules.l),cells false (l.length*2) (b9 l),ac l 0,ac l 1,ac l 2,ac l 3,ac l 4,ac l 5,ac l 6,ac l 7,ac l 8,ac l 9,ac l 10,ac l 11,ac l 12,ac l 13,ac l 14,ac l 15,ac l 16,ac l 17,ac l 18,ac l 19,ac l 20,ac l 21,ac l 22,ac l 23,cells false 24 (ah (nth [int i64 0,int i64 0,int i64 0,int i64 0,int i64 0,int i64 0,int i64 0,int i64 0,int i64 0,int i64 0,int i64 0,int i64 0,int i64 0,int i64 0,int i64 0,int i64 0,int i64 0,int i64 0,int i64 0,int i64 0,int i64 0,int i64 0,int i64 0,int i64 0]) 0 24 fun (j:Nat)=>ai p v (AV.mp 1) (j+2)),cells false ((ak p v).atoms.length*1) fun (a:Nat)=>ab (ak p v).atoms a,cells false 2 (nth [int i64 (ak p v).rule,ow true 28 ((ak p v).atoms.length) 1])] g)]),(7,[(3,ROrc.val (Orc.obj (eu l (ak p v))))]),(8,[(5,ROrc.kop (AV.bool false))])]) (fun Q=>(fun (u1:List AObj)=>(fun (u2:List AObj)=>(fun (u3:List AV)=>(fun (u4:List AV)=>(fun (u5:AObj)=>(fun (u6:St R.σ)=>(fun (u7:AObj)=>26<=27/\24<=24/\(true=true/\Does Tryd.prog R 96 [ref 0 0] [u5,AObj.map (esF p.rules.l),cells false (l.length*2) (b9 l),ac l 0,ac l 1,ac l 2,ac l 3,ac l 4,ac l 5,ac l 6,ac l 7,ac l 8,ac l 9,ac l 10,ac l 11,ac l 12,ac l 13,ac l 14,ac l 15,ac l 16,ac l 17,ac l 18,ac l 19,ac l 20,ac l 21,ac l 22,ac l 23,u7] g (ret (tup 2 (nth [agg 2 (nth u4),AV.bool (bl p v)]))) [u5,AObj.map (esF p.rules.l),cells false (l.length*2) (b9 l),ac l 0,ac l 1,ac l 2,ac l 3,ac l 4,ac l 5,ac l 6,ac l 7,ac l 8,ac l 9,ac l 10,ac l 11,ac l 12,ac l 13,ac l 14,ac l 15,ac l 16,ac l 17,ac l 18,ac l 19,ac l 20,ac l 21,ac l 22,ac l 23,u7,cells false ((ak p v).atoms.length*1) fun (a:Nat)=>ab (ak p v).atoms a] g)/\2<=2/\(∀(c:Nat),c<2->nth u4 c=ah (nth [int i64 0,fz Fz.nil 0 0 fun _ _=>any]) 0 2 (List.brecOn (motive:=fun (x:List AV)=>Nat->AV) u4 nth._f) c)/\(bl p v=true->2<=2/\(true=true/\Does Tryd.prog R 68 [agg 2 (nth u4)] (u5::u2) g (ret (ifc 149 (agg 2 (nth u4)))) (u5::u2) g)/\(true=true/\true=true/\Does Tryd.prog R 141 [agg 2 (nth u4),ref 0 0] (u5::u2) g (ret (tup 0 (nth []))) (cells false 27 (ai p (gM p v (eK (ak p v))) (AV.mp 1))::u2) g)/\2<=2/\0<2/\(l.length+1)*32<=aG/\l.length+1<=aG/\2<=2/\l.length*2<=l.length*2/\(∀(c:Nat),c<(l.length+1)*2->eu l (ak p v) c=bc 2 (l.length) (fun (i j:Nat)=>b9 l (i*2+j)) (fun (i j:Nat)=>ah (fun (j:Nat)=>nth [int i64 0,fz Fz.nil 0 0 fun _ _=>any] (j%2)) 0 2 (List.brecOn (motive:=fun (x:List AV)=>Nat->AV) u4 nth._f) (0+i*2+j)) c)/\Tables.follows Tryd.prog.toTables Departure.mixedOrders=true/\26<=27/\24<=24/\OpOk Tryd.prog R (Oper.mk (some 34) (Op.binOp BinOp.eql 95 (Operand.tmp 32) (Operand.tmp 33) 95) 4 "table.go:195" #[Edge.mk 3 Ground.data,Edge.mk 4 Ground.data] none) (evO [Row.mk (some 33) none (agg 24 (ah (nth u3) 0 24 fun (j:Nat)=>ai p v (AV.mp 1) (j+2))) false (some []) [27],Row.mk (some 32) none (agg 24 fun (j:Nat)=>ai p (gM p v (eK (ak p v))) (AV.mp 1) (j+2)) false (some []) [0],Row.mk (some 31) none (ref 0 2) false (some []) [],Row.mk (some 30) none (ref 0 0) false (some []) [],Row.mk (some 29) none (ref 0 0) false (some []) []] [(4,ref 0 0),(5,ow true 31 (l.length+1) 2),(6,ref 27 0)] []) u1 g (AV.bool false) u1 g/\(false=true->Wp Tryd.prog R 37 0 Rd.top (af Tryd.prog 60) [1,1,1,0,0,0,1,1,1,0] (aq Tryd.prog R 37 0 Rd.top (af Tryd.prog 60) Q [Kont.blk 1]) u6)/\(false=false->Q AEx.normal u6))/\(bl p v=false->Wp Tryd.prog R 37 0 Rd.top (af Tryd.prog 60) [1,1,1,0,0,0,1,0,1,1,1] (aq Tryd.prog R 37 0 Rd.top (af Tryd.prog 60) Q [Kont.seq [1,1,1,0,0,0,1,1],Kont.blk 1]) (St.mk [(4,ref 0 0),(5,ow true 2 (l.length) 2),(6,ref 27 0),(7,ref 29 0),(20,AV.bool (bl p v))] (u5::u2) g))) (cells false 24 (ah (nth u3) 0 24 fun (j:Nat)=>ai p v (AV.mp 1) (j+2)))) (St.mk [(4,ref 0 0),(5,ow true 31 (l.length+1) 2),(34,AV.bool false)] u1 g)) (cells false 27 (ai p v (AV.mp 1)))) ([int i64 (ak p v).rule,ow true 28 ((ak p v).atoms.length) 1])) ([int i64 0,int i64 0,int i64 0,int i64 0,int i64 0,int i64 0,int i64 0,int i64 0,int i64 0,int i64 0,int i64 0,int i64 0,int i64 0,int i64 0,int i64 0,int i64 0,int i64 0,int i64 0,int i64 0,int i64 0,int i64 0,int i64 0,int i64 0,int i64 0])) ([AObj.map (esF p.rules.l),cells false (l.length*2) (b9 l),ac l 0,ac l 1,ac l 2,ac l 3,ac l 4,ac l 5,ac l 6,ac l 7,ac l 8,ac l 9,ac l 10,ac l 11,ac l 12,ac l 13,ac l 14,ac l 15,ac l 16,ac l 17,ac l 18,ac l 19,ac l 20,ac l 21,ac l 22,ac l 23,cells false 24 (ah (nth [int i64 0,int i64 0,int i64 0,int i64 0,int i64 0,int i64 0,int i64 0,int i64 0,int i64 0,int i64 0,int i64 0,int i64 0,int i64 0,int i64 0,int i64 0,int i64 0,int i64 0,int i64 0,int i64 0,int i64 0,int i64 0,int i64 0,int i64 0,int i64 0]) 0 24 fun (j:Nat)=>ai p v (AV.mp 1) (j+2)),cells false ((ak p v).atoms.length*1) fun (a:Nat)=>ab (ak p v).atoms a,cells false 2 (nth [int i64 (ak p v).rule,ow true 28 ((ak p v).atoms.length) 1])])) ([cells false 27 (ai p (gM p v (eK (ak p v))) (AV.mp 1)),AObj.map (esF p.rules.l),dead,ac l 0,ac l 1,ac l 2,ac l 3,ac l 4,ac l 5,ac l 6,ac l 7,ac l 8,ac l 9,ac l 10,ac l 11,ac l 12,ac l 13,ac l 14,ac l 15,ac l 16,ac l 17,ac l 18,ac l 19,ac l 20,ac l 21,ac l 22,ac l 23,cells false 24 (ah (nth [int i64 0,int i64 0,int i64 0,int i64 0,int i64 0,int i64 0,int i64 0,int i64 0,int i64 0,int i64 0,int i64 0,int i64 0,int i64 0,int i64 0,int i64 0,int i64 0,int i64 0,int i64 0,int i64 0,int i64 0,int i64 0,int i64 0,int i64 0,int i64 0]) 0 24 fun (j:Nat)=>ai p v (AV.mp 1) (j+2)),cells false ((ak p v).atoms.length*1) fun (a:Nat)=>ab (ak p v).atoms a,cells false 2 (nth [int i64 (ak p v).rule,ow true 28 ((ak p v).atoms.length) 1]),cells false 2 (ah (fun (j:Nat)=>nth [int i64 0,fz Fz.nil 0 0 fun _ _=>any] (j%2)) 0 2 (List.brecOn (motive:=fun (x:List AV)=>Nat->AV) [int i64 (ak p v).rule,ow true 28 ((ak p v).atoms.length) 1] nth._f)),cells false ((l.length+1)*2) (eu l (ak p v))])) (fun _=>by kernel_rfl) ⟨by omega,by omega,⟨rfl,(bp (T:=LT) inferInstance [0,1] 28 (fun R _ g=>nK R (p) (v) (esF p.rules.l) (by omega) (by omega) (by omega) (by omega) g) rfl rfl rfl (by exact⟨⟨rfl,Nat.le_refl _,fun j hj=>(by first|exact au (by first|exact trivial|apply aO)|exact Le.of_eq (bk rfl).symm|exact Le.of_eq (cq (by rfl)).symm)⟩,rfl,trivial⟩) (by exact⟨by omega,trivial⟩) (by exact⟨Le.refl _,trivial⟩) (by exact(Le.tup (fun i hi=>match i,hi with|0,_=>(Le.agg (fun i hi=>match i,hi with|0,_=>(Le.refl _)|1,_=>(Le.refl _) ))|1,_=>(Le.refl _) ))) (by exact⟨⟨rfl,Nat.le_refl _,fun j hj=>(by first|exact aw (by first|exact trivial|apply aO)|exact Le.of_eq (bk rfl)|exact Le.of_eq (cq (by rfl)))⟩,rfl,LeO.rflc,LeO.rflc,LeO.rflc,LeO.rflc,LeO.rflc,LeO.rflc,LeO.rflc,LeO.rflc,LeO.rflc,LeO.rflc,LeO.rflc,LeO.rflc,LeO.rflc,LeO.rflc,LeO.rflc,LeO.rflc,LeO.rflc,LeO.rflc,LeO.rflc,LeO.rflc,LeO.rflc,LeO.rflc,LeO.rflc,LeO.rflc,LeO.rflc,LeO.rflc,⟨rfl,Nat.le_refl _,fun j hj=>(by first|exact aw (by first|exact trivial|apply bo)|exact Le.of_eq (bx rfl))⟩,trivial⟩))⟩,by omega,(fun c hc=>match c,hc with|0,_=>(by kernel_rfl)|1,_=>(by kernel_rfl) ),fun _=>⟨by omega,⟨rfl,(bp (T:=LT) inferInstance [28] 30 (fun R _ g=>xx R ((ak p v).rule) ((ak p v).atoms.length) ((ak p v).atoms.length*1) (fun (a:Nat)=>ab (ak p v).atoms a) ?_ (by omega) g) rfl rfl rfl (by exact⟨⟨rfl,Nat.le_refl _,fun j hj=>(by first|exact au (by first|exact trivial|apply bo)|exact Le.of_eq (bx rfl).symm)⟩,trivial⟩) (by exact⟨by omega,trivial⟩) (by exact⟨(Le.agg (fun i hi=>match i,hi with|0,_=>(Le.refl _)|1,_=>(Le.refl _) )),trivial⟩) (by exact(Le.ifc (Le.agg (fun i hi=>match i,hi with|0,_=>(Le.refl _)|1,_=>(Le.refl _) )))) (by exact⟨LeO.rflc,rfl,LeO.rflc,LeO.rflc,LeO.rflc,LeO.rflc,LeO.rflc,LeO.rflc,LeO.rflc,LeO.rflc,LeO.rflc,LeO.rflc,LeO.rflc,LeO.rflc,LeO.rflc,LeO.rflc,LeO.rflc,LeO.rflc,LeO.rflc,LeO.rflc,LeO.rflc,LeO.rflc,LeO.rflc,LeO.rflc,LeO.rflc,LeO.rflc,LeO.rflc,LeO.rflc,⟨rfl,Nat.le_refl _,fun j hj=>(by first|exact aw (by first|exact trivial|apply bo)|exact Le.of_eq (bx rfl))⟩,LeO.rflc,trivial⟩))⟩,⟨by kernel_rfl,rfl,(bp (T:=LT) inferInstance [0,1,28] 30 (fun R _ g=>xj R (p) (v) (esF p.rules.l) (ak p v) (by omega) (by omega) (by omega) g) rfl rfl rfl (by exact⟨⟨rfl,Nat.le_refl _,fun j hj=>(by first|exact au (by first|exact trivial|apply aO)|exact Le.of_eq (bk rfl).symm|exact Le.of_eq (cq (by rfl)).symm)⟩,rfl,⟨rfl,Nat.le_refl _,fun j hj=>(by first|exact au (by first|exact trivial|apply bo)|exact Le.of_eq (bx rfl).symm)⟩,trivial⟩) (by exact⟨by omega,by omega,trivial⟩) (by exact⟨(Le.agg (fun i hi=>match i,hi with|0,_=>(Le.refl _)|1,_=>(Le.refl _) )),Le.refl _,trivial⟩) (by exact aw (by exact trivial)) (by exact⟨⟨rfl,Nat.le_refl _,fun j hj=>(by first|exact aw (by first|exact trivial|apply aO)|exact Le.of_eq (bk rfl)|exact Le.of_eq (cq (by rfl)))⟩,rfl,LeO.rflc,LeO.rflc,LeO.rflc,LeO.rflc,LeO.rflc,LeO.rflc,LeO.rflc,LeO.rflc,LeO.rflc,LeO.rflc,LeO.rflc,LeO.rflc,LeO.rflc,LeO.rflc,LeO.rflc,LeO.rflc,LeO.rflc,LeO.rflc,LeO.rflc,LeO.rflc,LeO.rflc,LeO.rflc,LeO.rflc,LeO.rflc,LeO.rflc,LeO.rflc,⟨rfl,Nat.le_refl _,fun j hj=>(by first|exact aw (by first|exact trivial|apply bo)|exact Le.of_eq (bx rfl))⟩,LeO.rflc,trivial⟩))⟩,by omega,by omega,by omega,by omega,by omega,by omega,?_,by kernel_rfl,by omega,by omega,?_,fun h=>(nomatch h),fun _=>?_⟩,fun hcc=>(nomatch (hb.symm.trans hcc))⟩
    ·exact fun j _=>bo _ _
    ·exact fun c hc=>(rc (z:=fun j=>nth [.int .i64 0,.fz .nil 0 0 fun _ _=>.any] (j%2)) hc).trans (by kernel_rfl)
    ·rw[<-k2]
     exact nS (x:=.tmp 32) (y:=.tmp 33) (bU v (ak p v)) v false rfl (by intro h;cases h) nT nU (re hp hr hh hb)
    ·rw[<-k2]
     have hlt:=lp hp hr hh hb
     refine aL (bU v (ak p v),l++[ak p v]) (a9 (dH l.length) 32 rfl (jF (by omega)).1 (jF (by omega)).2.1 rfl rfl ⟨Le.refl _,Le.of_eq (by show _=AV.ow true 31 (l++[ak p v]).length 2;rw[List.length_append];rfl),trivial⟩ (by exact rd (by omega))) (rf hb hlt h1 h2 h3) hlt
   ·obtain⟨k0,k1,k2,k3,_⟩:=lm hp hf hb
    have k4:decide ((ak p v).rule = -1)=true:=decide_eq_true (by rw[k0])
    have hal:0<(ak p v).atoms.length:=by
     unfold gN at k1
     rw[Bool.and_eq_true] at k1
     exact of_decide_eq_true k1.1
    refine vcQ [[1,1,1,0,0,0,1,1,1,0],[1,1,1,0,0,0,1,0,1,1,1]] (lkL [(3,[4,5,6]),(4,[4,5,6,7,8]),(5,[4,5,6,7,20]),(6,[4,5,6,7]),(7,[4,5,6]),(8,[4,5,34])]) (lkL [(4,[(1,ROrc.call (tup 2 (nth [agg 2 (nth [int i64 (ak p v).rule,ow true 28 ((ak p v).atoms.length) 1]),AV.bool (bl p v)])) [cells false 27 (ai p v (AV.mp 1)),AObj.map (esF p.rules.l),cells false (l.length*2) (b9 l),ac l 0,ac l 1,ac l 2,ac l 3,ac l 4,ac l 5,ac l 6,ac l 7,ac l 8,ac l 9,ac l 10,ac l 11,ac l 12,ac l 13,ac l 14,ac l 15,ac l 16,ac l 17,ac l 18,ac l 19,ac l 20,ac l 21,ac l 22,ac l 23,cells false 24 (ah (nth [int i64 0,int i64 0,int i64 0,int i64 0,int i64 0,int i64 0,int i64 0,int i64 0,int i64 0,int i64 0,int i64 0,int i64 0,int i64 0,int i64 0,int i64 0,int i64 0,int i64 0,int i64 0,int i64 0,int i64 0,int i64 0,int i64 0,int i64 0,int i64 0]) 0 24 fun (j:Nat)=>ai p v (AV.mp 1) (j+2)),cells false ((ak p v).atoms.length*1) (ab (ak p v).atoms)] g),(6,ROrc.val (Orc.obj (nth [int i64 (ak p v).rule,ow true 28 ((ak p v).atoms.length) 1])))]),(6,[(1,ROrc.kcall (ifc 148 (agg 2 (nth [int i64 (ak p v).rule,ow true 28 ((ak p v).atoms.length) 1])))),(3,ROrc.inv (tup 0 (nth [])) [cells false 27 (ai p (ep v (ck (ak p v).atoms)) (AV.mp 1)),AObj.map (esF p.rules.l),cells false (l.length*2) (b9 l),ac l 0,ac l 1,ac l 2,ac l 3,ac l 4,ac l 5,ac l 6,ac l 7,ac l 8,ac l 9,ac l 10,ac l 11,ac l 12,ac l 13,ac l 14,ac l 15,ac l 16,ac l 17,ac l 18,ac l 19,ac l 20,ac l 21,ac l 22,ac l 23,cells false 24 (ah (nth [int i64 0,int i64 0,int i64 0,int i64 0,int i64 0,int i64 0,int i64 0,int i64 0,int i64 0,int i64 0,int i64 0,int i64 0,int i64 0,int i64 0,int i64 0,int i64 0,int i64 0,int i64 0,int i64 0,int i64 0,int i64 0,int i64 0,int i64 0,int i64 0]) 0 24 fun (j:Nat)=>ai p v (AV.mp 1) (j+2)),cells false ((ak p v).atoms.length*1) fun (a:Nat)=>ab (ak p v).atoms a,cells false 2 (nth [int i64 (ak p v).rule,ow true 28 ((ak p v).atoms.length) 1])] g)]),(7,[(3,ROrc.val (Orc.obj (eu l (ak p v))))]),(8,[(5,ROrc.kop (AV.bool false))])]) (fun Q=>(fun (u1:List AObj)=>(fun (u2:List AObj)=>(fun (u3:List AV)=>(fun (u4:List AV)=>(fun (u5:AObj)=>(fun (u6:St R.σ)=>(fun (u7:AObj)=>26<=27/\24<=24/\(true=true/\Does Tryd.prog R 96 [ref 0 0] [u5,AObj.map (esF p.rules.l),cells false (l.length*2) (b9 l),ac l 0,ac l 1,ac l 2,ac l 3,ac l 4,ac l 5,ac l 6,ac l 7,ac l 8,ac l 9,ac l 10,ac l 11,ac l 12,ac l 13,ac l 14,ac l 15,ac l 16,ac l 17,ac l 18,ac l 19,ac l 20,ac l 21,ac l 22,ac l 23,u7] g (ret (tup 2 (nth [agg 2 (nth u4),AV.bool (bl p v)]))) [u5,AObj.map (esF p.rules.l),cells false (l.length*2) (b9 l),ac l 0,ac l 1,ac l 2,ac l 3,ac l 4,ac l 5,ac l 6,ac l 7,ac l 8,ac l 9,ac l 10,ac l 11,ac l 12,ac l 13,ac l 14,ac l 15,ac l 16,ac l 17,ac l 18,ac l 19,ac l 20,ac l 21,ac l 22,ac l 23,u7,cells false ((ak p v).atoms.length*1) fun (a:Nat)=>ab (ak p v).atoms a] g)/\2<=2/\(∀(c:Nat),c<2->nth u4 c=ah (nth [int i64 0,fz Fz.nil 0 0 fun _ _=>any]) 0 2 (List.brecOn (motive:=fun (x:List AV)=>Nat->AV) u4 nth._f) c)/\(bl p v=true->2<=2/\(true=true/\Does Tryd.prog R 68 [agg 2 (nth u4)] (u5::u2) g (ret (ifc 148 (agg 2 (nth u4)))) (u5::u2) g)/\(true=true/\true=true/\Does Tryd.prog R 139 [agg 2 (nth u4),ref 0 0] (u5::u2) g (ret (tup 0 (nth []))) (cells false 27 (ai p (ep v (ck (ak p v).atoms)) (AV.mp 1))::u2) g)/\2<=2/\0<2/\(l.length+1)*32<=aG/\l.length+1<=aG/\2<=2/\l.length*2<=l.length*2/\(∀(c:Nat),c<(l.length+1)*2->eu l (ak p v) c=bc 2 (l.length) (fun (i j:Nat)=>b9 l (i*2+j)) (fun (i j:Nat)=>ah (fun (j:Nat)=>nth [int i64 0,fz Fz.nil 0 0 fun _ _=>any] (j%2)) 0 2 (List.brecOn (motive:=fun (x:List AV)=>Nat->AV) u4 nth._f) (0+i*2+j)) c)/\Tables.follows Tryd.prog.toTables Departure.mixedOrders=true/\26<=27/\24<=24/\OpOk Tryd.prog R (Oper.mk (some 34) (Op.binOp BinOp.eql 95 (Operand.tmp 32) (Operand.tmp 33) 95) 4 "table.go:195" #[Edge.mk 3 Ground.data,Edge.mk 4 Ground.data] none) (evO [Row.mk (some 33) none (agg 24 (ah (nth u3) 0 24 fun (j:Nat)=>ai p v (AV.mp 1) (j+2))) false (some []) [27],Row.mk (some 32) none (agg 24 fun (j:Nat)=>ai p (ep v (ck (ak p v).atoms)) (AV.mp 1) (j+2)) false (some []) [0],Row.mk (some 31) none (ref 0 2) false (some []) [],Row.mk (some 30) none (ref 0 0) false (some []) [],Row.mk (some 29) none (ref 0 0) false (some []) []] [(4,ref 0 0),(5,ow true 31 (l.length+1) 2),(6,ref 27 0)] []) u1 g (AV.bool false) u1 g/\(false=true->Wp Tryd.prog R 37 0 Rd.top (af Tryd.prog 60) [1,1,1,0,0,0,1,1,1,0] (aq Tryd.prog R 37 0 Rd.top (af Tryd.prog 60) Q [Kont.blk 1]) u6)/\(false=false->Q AEx.normal u6))/\(bl p v=false->Wp Tryd.prog R 37 0 Rd.top (af Tryd.prog 60) [1,1,1,0,0,0,1,0,1,1,1] (aq Tryd.prog R 37 0 Rd.top (af Tryd.prog 60) Q [Kont.seq [1,1,1,0,0,0,1,1],Kont.blk 1]) (St.mk [(4,ref 0 0),(5,ow true 2 (l.length) 2),(6,ref 27 0),(7,ref 29 0),(20,AV.bool (bl p v))] (u5::u2) g))) (cells false 24 (ah (nth u3) 0 24 fun (j:Nat)=>ai p v (AV.mp 1) (j+2)))) (St.mk [(4,ref 0 0),(5,ow true 31 (l.length+1) 2),(34,AV.bool false)] u1 g)) (cells false 27 (ai p v (AV.mp 1)))) ([int i64 (ak p v).rule,ow true 28 ((ak p v).atoms.length) 1])) ([int i64 0,int i64 0,int i64 0,int i64 0,int i64 0,int i64 0,int i64 0,int i64 0,int i64 0,int i64 0,int i64 0,int i64 0,int i64 0,int i64 0,int i64 0,int i64 0,int i64 0,int i64 0,int i64 0,int i64 0,int i64 0,int i64 0,int i64 0,int i64 0])) ([AObj.map (esF p.rules.l),cells false (l.length*2) (b9 l),ac l 0,ac l 1,ac l 2,ac l 3,ac l 4,ac l 5,ac l 6,ac l 7,ac l 8,ac l 9,ac l 10,ac l 11,ac l 12,ac l 13,ac l 14,ac l 15,ac l 16,ac l 17,ac l 18,ac l 19,ac l 20,ac l 21,ac l 22,ac l 23,cells false 24 (ah (nth [int i64 0,int i64 0,int i64 0,int i64 0,int i64 0,int i64 0,int i64 0,int i64 0,int i64 0,int i64 0,int i64 0,int i64 0,int i64 0,int i64 0,int i64 0,int i64 0,int i64 0,int i64 0,int i64 0,int i64 0,int i64 0,int i64 0,int i64 0,int i64 0]) 0 24 fun (j:Nat)=>ai p v (AV.mp 1) (j+2)),cells false ((ak p v).atoms.length*1) fun (a:Nat)=>ab (ak p v).atoms a,cells false 2 (nth [int i64 (ak p v).rule,ow true 28 ((ak p v).atoms.length) 1])])) ([cells false 27 (ai p (ep v (ck (ak p v).atoms)) (AV.mp 1)),AObj.map (esF p.rules.l),dead,ac l 0,ac l 1,ac l 2,ac l 3,ac l 4,ac l 5,ac l 6,ac l 7,ac l 8,ac l 9,ac l 10,ac l 11,ac l 12,ac l 13,ac l 14,ac l 15,ac l 16,ac l 17,ac l 18,ac l 19,ac l 20,ac l 21,ac l 22,ac l 23,cells false 24 (ah (nth [int i64 0,int i64 0,int i64 0,int i64 0,int i64 0,int i64 0,int i64 0,int i64 0,int i64 0,int i64 0,int i64 0,int i64 0,int i64 0,int i64 0,int i64 0,int i64 0,int i64 0,int i64 0,int i64 0,int i64 0,int i64 0,int i64 0,int i64 0,int i64 0]) 0 24 fun (j:Nat)=>ai p v (AV.mp 1) (j+2)),cells false ((ak p v).atoms.length*1) fun (a:Nat)=>ab (ak p v).atoms a,cells false 2 (nth [int i64 (ak p v).rule,ow true 28 ((ak p v).atoms.length) 1]),cells false 2 (ah (fun (j:Nat)=>nth [int i64 0,fz Fz.nil 0 0 fun _ _=>any] (j%2)) 0 2 (List.brecOn (motive:=fun (x:List AV)=>Nat->AV) [int i64 (ak p v).rule,ow true 28 ((ak p v).atoms.length) 1] nth._f)),cells false ((l.length+1)*2) (eu l (ak p v))])) (fun _=>by kernel_rfl) ⟨by omega,by omega,⟨rfl,(bp (T:=LT) inferInstance [0,1] 28 (fun R _ g=>nK R (p) (v) (esF p.rules.l) (by omega) (by omega) (by omega) (by omega) g) rfl rfl rfl (by exact⟨⟨rfl,Nat.le_refl _,fun j hj=>(by first|exact au (by first|exact trivial|apply aO)|exact Le.of_eq (bk rfl).symm|exact Le.of_eq (cq (by rfl)).symm)⟩,rfl,trivial⟩) (by exact⟨by omega,trivial⟩) (by exact⟨Le.refl _,trivial⟩) (by exact(Le.tup (fun i hi=>match i,hi with|0,_=>(Le.agg (fun i hi=>match i,hi with|0,_=>(Le.refl _)|1,_=>(Le.refl _) ))|1,_=>(Le.refl _) ))) (by exact⟨⟨rfl,Nat.le_refl _,fun j hj=>(by first|exact aw (by first|exact trivial|apply aO)|exact Le.of_eq (bk rfl)|exact Le.of_eq (cq (by rfl)))⟩,rfl,LeO.rflc,LeO.rflc,LeO.rflc,LeO.rflc,LeO.rflc,LeO.rflc,LeO.rflc,LeO.rflc,LeO.rflc,LeO.rflc,LeO.rflc,LeO.rflc,LeO.rflc,LeO.rflc,LeO.rflc,LeO.rflc,LeO.rflc,LeO.rflc,LeO.rflc,LeO.rflc,LeO.rflc,LeO.rflc,LeO.rflc,LeO.rflc,LeO.rflc,LeO.rflc,⟨rfl,Nat.le_refl _,fun j hj=>(by first|exact aw (by first|exact trivial|apply bo)|exact Le.of_eq (bx rfl))⟩,trivial⟩))⟩,by omega,(fun c hc=>match c,hc with|0,_=>(by kernel_rfl)|1,_=>(by kernel_rfl) ),fun _=>⟨by omega,⟨rfl,(bp (T:=LT) inferInstance [28] 30 (fun R _ g=>xw R ((ak p v).rule) ((ak p v).atoms.length) ((ak p v).atoms.length*1) (fun (a:Nat)=>ab (ak p v).atoms a) ?_ (by omega) g) rfl rfl rfl (by exact⟨⟨rfl,Nat.le_refl _,fun j hj=>(by first|exact au (by first|exact trivial|apply bo)|exact Le.of_eq (bx rfl).symm)⟩,trivial⟩) (by exact⟨by omega,trivial⟩) (by exact⟨(Le.agg (fun i hi=>match i,hi with|0,_=>(Le.refl _)|1,_=>(Le.refl _) )),trivial⟩) (by exact(Le.ifc (Le.agg (fun i hi=>match i,hi with|0,_=>(Le.refl _)|1,_=>(Le.refl _) )))) (by exact⟨LeO.rflc,rfl,LeO.rflc,LeO.rflc,LeO.rflc,LeO.rflc,LeO.rflc,LeO.rflc,LeO.rflc,LeO.rflc,LeO.rflc,LeO.rflc,LeO.rflc,LeO.rflc,LeO.rflc,LeO.rflc,LeO.rflc,LeO.rflc,LeO.rflc,LeO.rflc,LeO.rflc,LeO.rflc,LeO.rflc,LeO.rflc,LeO.rflc,LeO.rflc,LeO.rflc,LeO.rflc,⟨rfl,Nat.le_refl _,fun j hj=>(by first|exact aw (by first|exact trivial|apply bo)|exact Le.of_eq (bx rfl))⟩,LeO.rflc,trivial⟩))⟩,⟨by kernel_rfl,rfl,(bp (T:=LT) inferInstance [0,1,28] 30 (fun R _ g=>xk R (p) (v) (esF p.rules.l) (ak p v) (by omega) (by omega) (by omega) (by omega) (by omega) (by omega) (by omega) g) rfl rfl rfl (by exact⟨⟨rfl,Nat.le_refl _,fun j hj=>(by first|exact au (by first|exact trivial|apply aO)|exact Le.of_eq (bk rfl).symm|exact Le.of_eq (cq (by rfl)).symm)⟩,rfl,⟨rfl,Nat.le_refl _,fun j hj=>(by first|exact au (by first|exact trivial|apply bo)|exact Le.of_eq (bx rfl).symm)⟩,trivial⟩) (by exact⟨by omega,by omega,trivial⟩) (by exact⟨(Le.agg (fun i hi=>match i,hi with|0,_=>(Le.refl _)|1,_=>(Le.refl _) )),Le.refl _,trivial⟩) (by exact aw (by exact trivial)) (by exact⟨⟨rfl,Nat.le_refl _,fun j hj=>(by first|exact aw (by first|exact trivial|apply aO)|exact Le.of_eq (bk rfl)|exact Le.of_eq (cq (by rfl)))⟩,rfl,LeO.rflc,LeO.rflc,LeO.rflc,LeO.rflc,LeO.rflc,LeO.rflc,LeO.rflc,LeO.rflc,LeO.rflc,LeO.rflc,LeO.rflc,LeO.rflc,LeO.rflc,LeO.rflc,LeO.rflc,LeO.rflc,LeO.rflc,LeO.rflc,LeO.rflc,LeO.rflc,LeO.rflc,LeO.rflc,LeO.rflc,LeO.rflc,LeO.rflc,LeO.rflc,⟨rfl,Nat.le_refl _,fun j hj=>(by first|exact aw (by first|exact trivial|apply bo)|exact Le.of_eq (bx rfl))⟩,LeO.rflc,trivial⟩))⟩,by omega,by omega,by omega,by omega,by omega,by omega,?_,by kernel_rfl,by omega,by omega,?_,fun h=>(nomatch h),fun _=>?_⟩,fun hcc=>(nomatch (hb.symm.trans hcc))⟩
    ·exact fun j _=>bo _ _
    ·exact fun c hc=>(rc (z:=fun j=>nth [.int .i64 0,.fz .nil 0 0 fun _ _=>.any] (j%2)) hc).trans (by kernel_rfl)
    ·rw[<-k3]
     exact nS (x:=.tmp 32) (y:=.tmp 33) (bU v (ak p v)) v false rfl (by intro h;cases h) nT nU (re hp hr hh hb)
    ·rw[<-k3]
     have hlt:=lp hp hr hh hb
     refine aL (bU v (ak p v),l++[ak p v]) (a9 (dH l.length) 32 rfl (jF (by omega)).1 (jF (by omega)).2.1 rfl rfl ⟨Le.refl _,Le.of_eq (by show _=AV.ow true 31 (l++[ak p v]).length 2;rw[List.length_append];rfl),trivial⟩ (by exact rd (by omega))) (rf hb hlt h1 h2 h3) hlt
  |false=>
   have e:am p=(l,v):=by
    obtain⟨f,rfl⟩:∃k,f=k+1:=⟨f-1,by omega⟩
    rw[<-h3]
    show(if bl p v then _ else _)=_
    rw[if_neg (by rw[hb];decide)]
   rw[e]
   refine vcQ [[1,1,1,0,0,0,1,0,1,1,0],[1,1,1,0,0,0,1,1,1,1]] (lkL [(3,[4,5,6]),(4,[4,5,6,7,8]),(5,[4,5,6,7,20]),(8,[4,5,34]),(9,[2,3])]) (lkL [(4,[(1,ROrc.call (tup 2 (nth [agg 2 (nth [int i64 (ak p v).rule,ow true 28 ((ak p v).atoms.length) 1]),AV.bool (bl p v)])) [cells false 27 (ai p v (AV.mp 1)),AObj.map (esF p.rules.l),cells false (l.length*2) (b9 l),ac l 0,ac l 1,ac l 2,ac l 3,ac l 4,ac l 5,ac l 6,ac l 7,ac l 8,ac l 9,ac l 10,ac l 11,ac l 12,ac l 13,ac l 14,ac l 15,ac l 16,ac l 17,ac l 18,ac l 19,ac l 20,ac l 21,ac l 22,ac l 23,cells false 24 (ah (nth [int i64 0,int i64 0,int i64 0,int i64 0,int i64 0,int i64 0,int i64 0,int i64 0,int i64 0,int i64 0,int i64 0,int i64 0,int i64 0,int i64 0,int i64 0,int i64 0,int i64 0,int i64 0,int i64 0,int i64 0,int i64 0,int i64 0,int i64 0,int i64 0]) 0 24 fun (j:Nat)=>ai p v (AV.mp 1) (j+2)),cells false ((ak p v).atoms.length*1) (ab (ak p v).atoms)] g),(6,ROrc.val (Orc.obj (nth [int i64 (ak p v).rule,ow true 28 ((ak p v).atoms.length) 1])))]),(8,[(5,ROrc.kop (AV.bool true))])]) (fun Q=>(fun (u1:List AObj)=>(fun (u2:List AV)=>(fun (u3:List AV)=>(fun (u4:List (Nat × AV))=>(fun (u5:AObj)=>26<=27/\24<=24/\(true=true/\Does Tryd.prog R 96 [ref 0 0] [cells false 27 (ai p v (AV.mp 1)),AObj.map (esF p.rules.l),cells false (l.length*2) (b9 l),ac l 0,ac l 1,ac l 2,ac l 3,ac l 4,ac l 5,ac l 6,ac l 7,ac l 8,ac l 9,ac l 10,ac l 11,ac l 12,ac l 13,ac l 14,ac l 15,ac l 16,ac l 17,ac l 18,ac l 19,ac l 20,ac l 21,ac l 22,ac l 23,u5] g (ret (tup 2 (nth [agg 2 (nth u3),AV.bool (bl p v)]))) [cells false 27 (ai p v (AV.mp 1)),AObj.map (esF p.rules.l),cells false (l.length*2) (b9 l),ac l 0,ac l 1,ac l 2,ac l 3,ac l 4,ac l 5,ac l 6,ac l 7,ac l 8,ac l 9,ac l 10,ac l 11,ac l 12,ac l 13,ac l 14,ac l 15,ac l 16,ac l 17,ac l 18,ac l 19,ac l 20,ac l 21,ac l 22,ac l 23,u5,cells false ((ak p v).atoms.length*1) fun (a:Nat)=>ab (ak p v).atoms a] g)/\2<=2/\(∀(c:Nat),c<2->nth u3 c=ah (nth [int i64 0,fz Fz.nil 0 0 fun _ _=>any]) 0 2 (List.brecOn (motive:=fun (x:List AV)=>Nat->AV) u3 nth._f) c)/\(bl p v=true->Wp Tryd.prog R 37 0 Rd.top (af Tryd.prog 60) [1,1,1,0,0,0,1,0,1,1,0] (aq Tryd.prog R 37 0 Rd.top (af Tryd.prog 60) Q [Kont.seq [1,1,1,0,0,0,1,1],Kont.blk 1]) (St.mk u4 u1 g))/\(bl p v=false->Tables.follows Tryd.prog.toTables Departure.mixedOrders=true/\26<=27/\24<=24/\OpOk Tryd.prog R (Oper.mk (some 34) (Op.binOp BinOp.eql 95 (Operand.tmp 32) (Operand.tmp 33) 95) 4 "table.go:195" #[Edge.mk 3 Ground.data,Edge.mk 4 Ground.data] none) (evO [Row.mk (some 33) none (agg 24 (ah (nth u2) 0 24 fun (j:Nat)=>ai p v (AV.mp 1) (j+2))) false (some []) [27],Row.mk (some 32) none (agg 24 fun (j:Nat)=>ai p v (AV.mp 1) (j+2)) false (some []) [0],Row.mk (some 31) none (ref 0 2) false (some []) [],Row.mk (some 30) none (ref 0 0) false (some []) [],Row.mk (some 29) none (ref 0 0) false (some []) []] u4 []) u1 g (AV.bool true) u1 g/\(true=true->Q AEx.ret (St.mk [(2,ow true 2 (l.length) 2),(3,ref 0 0)] u1 g))/\(true=false->Wp Tryd.prog R 37 0 Rd.top (af Tryd.prog 60) [1,1,1,0,0,0,1,1,1,1] (aq Tryd.prog R 37 0 Rd.top (af Tryd.prog 60) Q [Kont.blk 1]) (St.mk [(4,ref 0 0),(5,ow true 2 (l.length) 2),(34,AV.bool true)] u1 g)))) (cells false 24 (ah (nth u2) 0 24 fun (j:Nat)=>ai p v (AV.mp 1) (j+2)))) ([(4,ref 0 0),(5,ow true 2 (l.length) 2),(6,ref 27 0),(7,ref 29 0),(20,AV.bool (bl p v))])) ([int i64 (ak p v).rule,ow true 28 ((ak p v).atoms.length) 1])) ([int i64 0,int i64 0,int i64 0,int i64 0,int i64 0,int i64 0,int i64 0,int i64 0,int i64 0,int i64 0,int i64 0,int i64 0,int i64 0,int i64 0,int i64 0,int i64 0,int i64 0,int i64 0,int i64 0,int i64 0,int i64 0,int i64 0,int i64 0,int i64 0])) ([cells false 27 (ai p v (AV.mp 1)),AObj.map (esF p.rules.l),cells false (l.length*2) (b9 l),ac l 0,ac l 1,ac l 2,ac l 3,ac l 4,ac l 5,ac l 6,ac l 7,ac l 8,ac l 9,ac l 10,ac l 11,ac l 12,ac l 13,ac l 14,ac l 15,ac l 16,ac l 17,ac l 18,ac l 19,ac l 20,ac l 21,ac l 22,ac l 23,cells false 24 (ah (nth [int i64 0,int i64 0,int i64 0,int i64 0,int i64 0,int i64 0,int i64 0,int i64 0,int i64 0,int i64 0,int i64 0,int i64 0,int i64 0,int i64 0,int i64 0,int i64 0,int i64 0,int i64 0,int i64 0,int i64 0,int i64 0,int i64 0,int i64 0,int i64 0]) 0 24 fun (j:Nat)=>ai p v (AV.mp 1) (j+2)),cells false ((ak p v).atoms.length*1) fun (a:Nat)=>ab (ak p v).atoms a,cells false 2 (nth [int i64 (ak p v).rule,ow true 28 ((ak p v).atoms.length) 1])])) (fun _=>by kernel_rfl) ⟨by omega,by omega,⟨rfl,(bp (T:=LT) inferInstance [0,1] 28 (fun R _ g=>nK R (p) (v) (esF p.rules.l) (by omega) (by omega) (by omega) (by omega) g) rfl rfl rfl (by exact⟨⟨rfl,Nat.le_refl _,fun j hj=>(by first|exact au (by first|exact trivial|apply aO)|exact Le.of_eq (bk rfl).symm|exact Le.of_eq (cq (by rfl)).symm)⟩,rfl,trivial⟩) (by exact⟨by omega,trivial⟩) (by exact⟨Le.refl _,trivial⟩) (by exact(Le.tup (fun i hi=>match i,hi with|0,_=>(Le.agg (fun i hi=>match i,hi with|0,_=>(Le.refl _)|1,_=>(Le.refl _) ))|1,_=>(Le.refl _) ))) (by exact⟨⟨rfl,Nat.le_refl _,fun j hj=>(by first|exact aw (by first|exact trivial|apply aO)|exact Le.of_eq (bk rfl)|exact Le.of_eq (cq (by rfl)))⟩,rfl,LeO.rflc,LeO.rflc,LeO.rflc,LeO.rflc,LeO.rflc,LeO.rflc,LeO.rflc,LeO.rflc,LeO.rflc,LeO.rflc,LeO.rflc,LeO.rflc,LeO.rflc,LeO.rflc,LeO.rflc,LeO.rflc,LeO.rflc,LeO.rflc,LeO.rflc,LeO.rflc,LeO.rflc,LeO.rflc,LeO.rflc,LeO.rflc,LeO.rflc,LeO.rflc,⟨rfl,Nat.le_refl _,fun j hj=>(by first|exact aw (by first|exact trivial|apply bo)|exact Le.of_eq (bx rfl))⟩,trivial⟩))⟩,by omega,(fun c hc=>match c,hc with|0,_=>(by kernel_rfl)|1,_=>(by kernel_rfl) ),fun hcc=>(nomatch (hb.symm.trans hcc)),fun _=>⟨by kernel_rfl,by omega,by omega,?_,fun _=>?_,fun h=>(nomatch h)⟩⟩
   ·exact nS (x:=.tmp 32) (y:=.tmp 33) v v true rfl (by intro h;cases h) nT nU (by simp)
   ·refine⟨_,To.refl _,(ax (bZ 27 _ _ rfl trivial (by omega) ⟨⟨trivial,(show 3<=27 by omega)⟩,(show 1<=27 by omega)⟩ ⟨(fun _ _=>(by first|exact trivial|apply aO)),(fun _ _=>?_),(fun _ _=>trivial),(fun _ _=>trivial),(fun _ _=>trivial),(fun _ _=>trivial),(fun _ _=>trivial),(fun _ _=>trivial),(fun _ _=>trivial),(fun _ _=>trivial),(fun _ _=>trivial),(fun _ _=>trivial),(fun _ _=>trivial),(fun _ _=>trivial),(fun _ _=>trivial),(fun _ _=>trivial),(fun _ _=>trivial),(fun _ _=>trivial),(fun _ _=>trivial),(fun _ _=>trivial),(fun _ _=>trivial),(fun _ _=>trivial),(fun _ _=>trivial),(fun _ _=>trivial),(fun _ _=>trivial),(fun _ _=>trivial),trivial⟩ (by kernel_rfl) rfl rfl) (Le.refl _))⟩
    exact xA (by omega) (by assumption)
def aQ (v:Nat->Int):Nat->AV:=fun j=>if 2<=j/\j<26 then .int .i64 (v (j-2)) else .any
theorem jH {k:Nat}(v:Nat->Int)(j:Nat):Below k (aQ v j):=by
 unfold aQ
 split <;> trivial
theorem dj {f:Nat->Nat}(h:True){v:Nat->Int}{j:Nat}:aY f (aQ v j)=aQ v j:=by
 unfold aQ
 split <;> rfl
theorem nV {v:Nat->Int}{k j:Nat}(e:k=j+2)(h:j<24):aQ v k=.int .i64 (v j):=by
 subst e
 unfold aQ
 rw[if_pos (by omega)]
 rfl
theorem rh {p:Prg}{v:Nat->Int}{m:AV}{j:Nat}:Le (ai p v m j) (aQ v j):=by
 unfold aQ
 split
 ·rename_i h
  exact Le.of_eq (fI (by omega) (by omega))
 ·exact Le.any _
def bV (s:Stp):Step:=⟨s.rule,s.atoms,.auto⟩
def aA (l:List Stp):KL Step:=⟨l.map bV,.auto⟩
theorem lq (l:List Stp):(aA l).l.length=l.length:=by unfold aA;rw[List.length_map]
theorem nW {l:List Stp}{i:Nat}(hi:i<l.length):(aA l).l.getD i default=bV (l.getD i default):=by
 unfold aA
 rw[List.getD_eq_getElem?_getD,List.getD_eq_getElem?_getD,List.getElem?_map,List.getElem?_eq_getElem hi]
 rfl
theorem ri {hp:List AObj}{k m o:Nat}{s:Stp}(ho:ag hp o=.cells false (s.atoms.length*1) (ab s.atoms))(hk:k<=o):av hp k m (.ow true o s.atoms.length 1) (ap ⟨s.atoms,.auto⟩):=
 (av.ow ho hk (Nat.le_refl _) (by decide) (fun j _=>av.below (bo _ _))).le (Le.fz rfl (fun i j hi hj=>by
  show AV.int .i64 _=_
  rw[show i*1+j=i by omega]))
theorem nX (R:Res)[Tab LT R](p:Prg)(hl:p.rules.l.length<1000000)(hr:∀r,r∈p.rules.l->aP r)(hp:b8 p)(hh:cZ p)(g:R.σ):Does Tryd.prog R 60 [ay p] [] g (.ret (.tup 2 (nth [aJ (aA (am p).1),.ref 0 0]))) [.cells false 27 (aQ (am p).2)] g:=by
 refine fE (rg R p hl hr hp hh g) ?_
 have hlen:∀i,i<(am p).1.length->i<24:=fun i hi=>by have:=jD hp hr hh;omega
 refine To.trans (fG 2 [(0,.tup 2 (nth [aJ (aA (am p).1),.ref 0 0]))] (Nat.zero_le _) (by show 2<=27;omega) (fun i hi=>?_) ⟨av.tup (fun j hj=>?_),trivial⟩) ?_
 ·match i,hi with
  |0,_=>exact fun j hj=>aO p _ 0 j
  |1,_=>trivial
 ·match j,hj with
  |0,_=>
   refine av.le (av.ow (o:=2) (N:=(am p).1.length*2) (c:=b9 (am p).1) (get:=fun c=>bif Nat.beq (c%2) 0 then .int .i64 ((am p).1.getD (c/2) default).rule else ap ⟨((am p).1.getD (c/2) default).atoms,.auto⟩) (fr:=false) rfl (Nat.le_refl _) (Nat.le_refl _) (by decide) (fun c hc=>?_)) ?_
   ·unfold b9
    cases Nat.beq (c%2) 0 with
    |true=>exact av.below trivial
    |false=>exact ri ((lf (hlen _ (by omega))).trans rfl) (by omega)
   ·refine Le.fz (lq _).symm (fun i j hi hj=>?_)
    show _=co _ j
    rw[nW hi]
    show(bif Nat.beq ((i*2+j)%2) 0 then _ else _)=_
    rw[show(i*2+j)%2=j by omega,show(i*2+j)/2=i by omega]
    match j,hj with
    |0,_=>rfl
    |1,_=>rfl
  |1,_=>exact av.below (show 0<2 by omega)
 ·exact a9 [0] 2 rfl rfl rfl rfl rfl ⟨Le.tup (fun j hj=>match j,hj with|0,_=>Le.of_eq rfl|1,_=>Le.refl _),trivial⟩ ⟨⟨rfl,Nat.le_refl _,fun j hj=>by
   show Le (ai p _ (.mp 1) j) (aY _ (aQ _ j))
   rw[dj trivial]
   exact rh⟩,trivial⟩
theorem xB (R:Res)(v:Nat->Int)(n:Nat)(hn:0<n/\n<=24)(g:R.σ):Does Tryd.prog R 61 [.sl 0 2 n 24 true 1] [.cells false 27 (aQ v)] g (.ret (.sl 1 0 n n false 1)) [.cells false 27 (aQ v),.cells false (n*1) (fun j=>.int .i64 (v j))] g:=by
 have hroom:aG=140737488355328:=rfl
 refine az (nt:=8) (rs:=[.tmp 2]) (k0:=1) (by kernel_rfl) (by kernel_rfl) (by kernel_rfl) rfl ?_
 refine vcQ [[1,0,1,0]] (lkL [(0,[0]),(1,[0,4]),(3,[2])]) (fun _=>[]) (fun Q=>(false=true->Wp Tryd.prog R 8 1 Rd.top (af Tryd.prog 61) [1,0,1,0] (aq Tryd.prog R 8 1 Rd.top (af Tryd.prog 61) Q [Kont.seq [1,1]]) (St.mk [(0,sl 0 2 n 24 true 1),(4,AV.bool false)] [cells false 27 (aQ v)] g))/\(false=false->0<0+n/\0<n/\0<1/\(0+n)*8<=aG/\0+n<=aG/\2+n*1<=27/\0<=0/\Q AEx.ret (St.mk [(2,sl 2 0 (0+n) (0+n) false 1)] [cells false 27 (aQ v),cells false 0 fun (j:Nat)=>int i64 0,cells false ((0+n)*1) (bc 1 0 (fun (i j:Nat)=>int i64 0) fun (i j:Nat)=>aQ v (2+i*1+j))] g))) (fun _=>by kernel_rfl) ⟨fun h=>(nomatch h),fun _=>⟨by omega,by omega,by omega,by omega,by omega,by omega,by omega,?_⟩⟩
 refine dh (.sl 2 0 (0+n) (0+n) false 1) _ rfl trivial (a9 [0,2] 3 rfl rfl rfl rfl rfl ⟨Le.of_eq (by show AV.sl 2 0 (0+n) (0+n) false 1=AV.sl 2 0 n n false 1;rw[Nat.zero_add]),trivial⟩ ⟨LeO.cells (fun j hj=>(dj trivial).symm),⟨rfl,by rw[Nat.zero_add];exact Nat.le_refl _,fun c hc=>Le.of_eq ?_⟩,trivial⟩)
 show bc 1 0 _ _ c=AV.int .i64 (v c)
 unfold bc
 rw[if_neg (by omega)]
 show aQ v (2+(c-0*1)/1*1+(c-0*1)%1)=_
 exact nV (by omega) (by omega)
def ew (p:Prg)(v:Nat->Int):KL Int:=⟨(List.range p.atoms.toNat).map v,.opn⟩
theorem xC (p:Prg)(v:Nat->Int):(ew p v).l.length=p.atoms.toNat:=by unfold ew;rw[List.length_map,List.length_range]
theorem xD {p:Prg}{v:Nat->Int}{i:Nat}(hi:i<p.atoms.toNat):(ew p v).l.getD i 0=v i:=by
 unfold ew
 rw[List.getD_eq_getElem?_getD,List.getElem?_map,List.getElem?_range hi]
 rfl
theorem ff {p:Prg}(h:aR p=true):p.rules.l.length<1000000/\(∀r,r∈p.rules.l->aP r)/\b8 p/\cZ p/\(∀r,r∈p.rules.l->∀l,l∈r.body.l->0<=l.atom/\l.atom<p.atoms):=by
 unfold aR at h
 simp only[Bool.and_eq_true,decide_eq_true_eq,List.all_eq_true] at h
 obtain⟨h1,h2,h3⟩:=h
 have hr:∀r,r∈p.rules.l->(0<=r.head/\r.head<=p.atoms-1)/\r.body.l.length<=4/\∀l,l∈r.body.l->0<=l.atom/\l.atom<=p.atoms-1:=fun r hm=>by
  have:=h3 r hm
  unfold e9 at this
  simp only[Bool.and_eq_true,decide_eq_true_eq,List.all_eq_true] at this
  refine⟨this.1,this.2.1,fun l hl=>?_⟩
  have:=this.2.2 l hl
  unfold eH at this
  exact of_decide_eq_true this
 refine⟨by omega,fun r hm=>?_,h1,fun r hm=>?_,fun r hm l hl=>?_⟩
 ·obtain⟨a1,a2,a3⟩:=hr r hm
  refine⟨⟨by omega,fun l hl=>?_⟩,a1.1,by omega⟩
  have:=a3 l hl
  omega
 ·have:=(hr r hm).1;omega
 ·have:=(hr r hm).2.2 l hl;omega
theorem iK {p:Prg}(h:aR p=true):em p:=by
 obtain⟨h1,h2,_⟩:=ff h
 refine⟨h1,fun i=>?_⟩
 rcases Nat.lt_or_ge i p.rules.l.length with hi|hi
 ·exact(h2 _ (bN _ default hi)).1.1
 ·rw[List.getD_eq_getElem?_getD,List.getElem?_eq_none hi]
  exact(by decide:(0:Nat)<1000000)
theorem xE (R:Res)[Tab LT R](p:Prg)(hb:aR p=true)(g:R.σ):Does Tryd.prog R 17 [ay p] [] g (.ret (.tup 3 (nth [aJ (aA (am p).1),ap (ew p (am p).2),.int .i64 0]))) [] g:=by
 obtain⟨hl,hr,hp,hh,hx⟩:=ff hb
 have hs:em p:=iK hb
 have hp':1<=p.atoms/\p.atoms<=24:=hp
 refine az (nt:=23) (rs:=[.tmp 2,.tmp 3,.tmp 4]) (k0:=0) (by kernel_rfl) (by kernel_rfl) (by kernel_rfl) rfl ?_
 have hc:((if aR p then(0:Int) else 2) != 0)=false:=by rw[hb];rfl
 refine vcQ [[1,0,1,0]] (lkL [(0,[1]),(1,[1,9]),(3,[1,5,6]),(4,[2,3,4])]) (lkL [(1,[(1,ROrc.pcall (int i64 (if aR p=true then 0 else 2)))]),(3,[(1,ROrc.call (tup 2 (nth [fz Fz.auto 2 ((aA (am p).fst).l.length) fun (i:Nat)=>co ((aA (am p).fst).l.getD i default),ref 1 0])) [cells false 2 (nth [int i64 p.atoms,ae p.rules]),cells false 27 (aQ (am p).snd)] g)]),(4,[(7,ROrc.callN (sl 2 0 (p.atoms.toNat-0) (p.atoms.toNat-0) false 1) [] [cells false ((p.atoms.toNat-0)*1) fun (j:Nat)=>int i64 ((am p).snd j)] g)])]) (fun Q=>(fun (u1:AObj)=>(fun (u2:List AObj)=>(fun (u3:AV)=>(fun (u4:Int)=>(fun (u5:Nat)=>2<=2/\(∀(hp:List AObj) (g:R.σ),true=true/\Does Tryd.prog R 16 [ay p] hp g (ret (int i64 u4)) hp g)/\((u4 != 0)=true->Wp Tryd.prog R 23 0 Rd.top (af Tryd.prog 17) [1,0,1,0] (aq Tryd.prog R 23 0 Rd.top (af Tryd.prog 17) Q [Kont.seq [1,1]]) (St.mk [(1,ref 0 0),(9,AV.bool (u4 != 0))] [u1] g))/\((u4 != 0)=false->2<=2/\(true=true/\Does Tryd.prog R 60 [ay p] [u1] g (ret (tup 2 (nth [u3,ref 1 0]))) [u1,cells false 27 (aQ (am p).snd)] g)/\Tables.follows Tryd.prog.toTables Departure.mixedOrders=true/\1<=2/\(0<=p.atoms/\p.atoms<=(↑24:Int))/\0<24/\26<=27/\0<27/\(true=true/\Does Tryd.prog R 61 [sl 1 2 u5 24 true 1] [u1,cells false 27 (aQ (am p).snd)] g (ret (sl 2 0 u5 u5 false 1)) u2 g)/\Q AEx.ret (St.mk [(2,u3),(3,sl 2 0 u5 u5 false 1),(4,int i64 0)] u2 g))) (p.atoms.toNat-0)) (if aR p=true then 0 else 2)) (fz Fz.auto 2 ((aA (am p).fst).l.length) fun (i:Nat)=>co ((aA (am p).fst).l.getD i default))) ([u1,cells false 27 (aQ (am p).snd),cells false ((p.atoms.toNat-0)*1) fun (j:Nat)=>int i64 ((am p).snd j)])) (cells false 2 (nth [int i64 p.atoms,ae p.rules]))) (fun _=>by kernel_rfl) ⟨by omega,(fun _ _=>⟨rfl,(f9 _ _ _ _ (by omega))⟩),fun hcc=>(nomatch (hc.symm.trans hcc)),fun _=>⟨by omega,⟨rfl,(bp (T:=LT) inferInstance [] 1 (fun R _ g=>nX R (p) (by omega) (by omega) (by omega) (by omega) g) rfl rfl rfl (by exact trivial) (by exact trivial) (by exact⟨au (by exact⟨⟨trivial,trivial⟩,trivial⟩),trivial⟩) (by exact(Le.tup (fun i hi=>match i,hi with|0,_=>(Le.refl _)|1,_=>(Le.refl _) ))) (by exact⟨LeO.rflc,⟨rfl,Nat.le_refl _,fun j hj=>(by first|exact aw (by first|exact trivial|apply jH)|exact Le.of_eq (dj rfl))⟩,trivial⟩))⟩,by kernel_rfl,by omega,by omega,by omega,by omega,by omega,⟨rfl,(bp (T:=LT) inferInstance [1] 2 (fun R _ g=>xB R ((am p).snd) (p.atoms.toNat-0) (by omega) g) rfl rfl rfl (by exact⟨⟨rfl,Nat.le_refl _,fun j hj=>(by first|exact au (by first|exact trivial|apply jH)|exact Le.of_eq (dj rfl).symm)⟩,trivial⟩) (by exact⟨by omega,trivial⟩) (by exact⟨Le.refl _,trivial⟩) (by exact(Le.refl _)) (by exact⟨LeO.rflc,⟨rfl,Nat.le_refl _,fun j hj=>(by first|exact aw (by first|exact trivial|apply jH)|exact Le.of_eq (dj rfl))⟩,LeO.rflc,trivial⟩))⟩,?_⟩⟩
 refine dh (.tup 3 (nth [aJ (aA (am p).1),.sl 2 0 (p.atoms.toNat-0) (p.atoms.toNat-0) false 1,.int .i64 0])) _ rfl trivial (fG 0 [(0,.tup 3 (nth [aJ (aA (am p).1),ap (ew p (am p).2),.int .i64 0]))] (Nat.le_refl _) (Nat.zero_le _) (fun i hi=>absurd hi (Nat.not_lt_zero i)) ⟨av.tup (fun j hj=>match j,hj with|0,_=>av.below trivial|1,_=>av.le (av.sl (o:=2) (N:=(p.atoms.toNat-0)*1) (c:=fun j=>.int .i64 ((am p).2 j)) (get:=fun j=>.int .i64 ((am p).2 j)) (fr:=false) rfl (Nat.zero_le _) (by omega) (Nat.le_refl _) (by decide) (fun j _=>av.below trivial)) (Le.fz (by rw[xC];rfl) (fun i j hi hj=>?_))|2,_=>av.below trivial),trivial⟩)
 have hi':i<p.atoms.toNat:=hi
 rw[xD hi',show 0+i*1+j=i by omega]
def hgF (p:Prg):Nat->Nat->Nat->Nat
 |0,_,s=>s
 |n+1,a,s=>if s.testBit a then s else(ofH p.rules.l (a:Int)).foldl (fun (s:Nat) (r:Rule)=>r.body.l.foldl (fun (s:Nat) (l:Lit)=>hgF p n l.atom.toNat s) s) (s|||2^a)
theorem iM {U β:Type}(f:β->U->β)(s:β)(l:List U)(d:U){i:Nat}(h:i<l.length):(l.take (i+1)).foldl f s=f ((l.take i).foldl f s) (l.getD i d):=by
 rw[List.take_add_one,List.foldl_append,List.getElem?_eq_getElem h,List.getD_eq_getElem?_getD,List.getElem?_eq_getElem h]
 rfl
def upS (f:Nat->Nat):Prop:=∀s,s<2^24->et s (f s)/\f s<2^24
theorem gi {U:Type}{f:Nat->U->Nat}:∀{l:List U},(∀x,x∈l->upS (fun s=>f s x))->upS (fun s=>l.foldl f s)
 |[],_=>fun s hs=>⟨fun _ h=>h,hs⟩
 |x::l,h=>fun s hs=>by
  obtain⟨h1,h2⟩:=h x List.mem_cons_self s hs
  obtain⟨h3,h4⟩:=gi (l:=l) (fun y hy=>h y (List.mem_cons_of_mem _ hy)) _ h2
  exact⟨fun j hj=>h3 j (h1 j hj),h4⟩
theorem jI {s a:Nat}(hs:s<2^24)(ha:a<24):s|||2^a<2^24:=Nat.or_lt_two_pow hs (Nat.pow_lt_pow_right (by decide) ha)
theorem gR (s a j:Nat):(s|||2^a).testBit j=(s.testBit j||decide (a=j)):=by
 rw[Nat.testBit_or,Nat.testBit_two_pow]
theorem gS {p:Prg}(hr:∀r,r∈p.rules.l->aP r):∀(n a:Nat),a<24->upS (hgF p n a)
 |0,_,_=>fun s hs=>⟨fun _ h=>h,hs⟩
 |n+1,a,ha=>fun s hs=>by
  show et s (if s.testBit a then s else _)/\(if s.testBit a then s else _)<2^24
  by_cases hb:s.testBit a=true
  ·rw[if_pos hb];exact⟨fun _ h=>h,hs⟩
  ·rw[if_neg hb]
   have h:=gi (l:=ofH p.rules.l (a:Int)) (f:=fun (s:Nat) (r:Rule)=>r.body.l.foldl (fun (s:Nat) (l:Lit)=>hgF p n l.atom.toNat s) s) (fun r hm=>gi (fun l hl=>gS hr n l.atom.toNat (by
    have:=(hr r (List.mem_filter.1 hm).1).1.2 l hl
    omega))) _ (jI hs ha)
   exact⟨fun j hj=>h.1 j (by rw[gR,hj];rfl),h.2⟩
theorem nY {s t:Nat}(h:et s t):(aj s).length<=(aj t).length:=nO (fun j _ hj=>h j hj)
theorem rj {s a:Nat}(ha:a<24)(h:s.testBit a=false):(aj s).length<(aj (s|||2^a)).length:=
 jC (fun j _ hj=>by rw[gR,hj];rfl) ⟨a,List.mem_range.2 ha,by rw[gR];simp,h⟩
theorem xF (p:Prg)(v:Nat->Int)(es:List (Value × AV))(hes:HeadsOk es p.rules.l)(hl:p.rules.l.length<1000000)(hr:∀r,r∈p.rules.l->aP r):∀(n:Nat) (R:Res) (a:Int) (s:Nat) (g:R.σ),0<=a/\a<24->s<2^24->24<n+(aj s).length ->
  Does Tryd.prog R 102 [.int .i64 a,.ref 2 0,.ref 3 0,.ref 4 0] [.cells false 27 (ai p v (.mp 1)),.map es,.cells false 1 (fun _=>.int .u64 s),.cells false 1 (fun _=>.ref 0 0),.cells false 1 (fun _=>.fn 102 0 (nth []) 3 (nth [.ref 2 0,.ref 3 0,.ref 4 0]))] g (.ret (.tup 0 (nth []))) [.cells false 27 (ai p v (.mp 1)),.map es,.cells false 1 (fun _=>.int .u64 (hgF p n a.toNat s)),.cells false 1 (fun _=>.ref 0 0),.cells false 1 (fun _=>.fn 102 0 (nth []) 3 (nth [.ref 2 0,.ref 3 0,.ref 4 0]))] g:=by
 intro n
 induction n with
 |zero=>
  intro R a s g _ _ h
  have:=gQ s
  omega
 |succ n ih=>
  intro R a s g ha hs hn
  obtain⟨m,hm⟩:∃m:Nat,a=m:=⟨a.toNat,by omega⟩
  subst hm
  have hks:∀e∈es,∃l,Go.keyOf Tryd.prog 3 e.1=some l:=fun e he=>by
   obtain⟨b,e1,e2⟩:=hes.key e he
   rw[e1]
   exact gL e2
  obtain⟨k,hk1,hk2⟩:∃k:Fz,(ofH p.rules.l m=[]->k=.nil)/\(ofH p.rules.l m≠[]->k=.opn):=⟨if ofH p.rules.l m=[] then .nil else .opn,fun h=>if_pos h,fun h=>if_neg h⟩
  have hlf:(ofH p.rules.l m).length<1000000:=Nat.lt_of_le_of_lt (List.length_filter_le _ _) hl
  have hrf:∀r,r∈ofH p.rules.l m->aP r:=fun r h=>hr r (List.mem_filter.1 h |>.1)
  have hdef:hgF p (n+1) ((m:Int).toNat) s=if s.testBit m then s else(ofH p.rules.l (m:Int)).foldl (fun (s:Nat) (r:Rule)=>r.body.l.foldl (fun (s:Nat) (l:Lit)=>hgF p n l.atom.toNat s) s) (s|||2^m):=rfl
  rw[hdef]
  refine az (nt:=40) (rs:=[]) (k0:=5) (by kernel_rfl) (by kernel_rfl) (by kernel_rfl) rfl ?_
  refine vcQ [] (lkL [(0,[0,1,2,3,11]),(1,[0,2,3]),(2,[3,21,22,23])]) (lkL [(0,[(2,ROrc.pcall (AV.bool (Nat.testBit s m)))]),(1,[(2,ROrc.pcall (int u64 (↑(2^m):Int))),(4,ROrc.val (Orc.obj (nth [int u64 (IntKind.wrap u64 (↑(BitVec.toNat (BitVec.ofInt 64 (s:Int)|||BitVec.ofInt 64 (↑(2^m):Int))):Int))])))]),(2,[(5,ROrc.kop (ae (KL.mk (ofH p.rules.l (m:Int)) k)))])]) (fun Q=>(fun (u1:List AObj)=>(fun (u2:AV)=>(fun (u3:AV)=>(fun (u4:AV)=>1<=1/\(∀(hp:List AObj) (g:R.σ),true=true/\Does Tryd.prog R 71 [int u64 (s:Int),u4] hp g (ret (AV.bool (Nat.testBit s m))) hp g)/\(Nat.testBit s m=true->Q AEx.ret (St.mk [(0,u4),(1,ref 2 0),(2,ref 3 0),(3,ref 4 0),(11,AV.bool (Nat.testBit s m))] [cells false 27 (ai p v (AV.mp 1)),AObj.map es,cells false 1 fun (x:Nat)=>int u64 (s:Int),cells false 1 fun (x:Nat)=>ref 0 0,cells false 1 fun (x:Nat)=>fn 102 0 (nth []) 3 (nth [ref 2 0,ref 3 0,ref 4 0])] g))/\(Nat.testBit s m=false->Tables.follows Tryd.prog.toTables Departure.mixedOrders=true/\1<=1/\(∀(hp:List AObj) (g:R.σ),true=true/\Does Tryd.prog R 79 [u4] hp g (ret (int u64 (↑(2^m):Int))) hp g)/\1<=1/\(∀(c:Nat),c<1->nth [u3] c=ah (fun (x:Nat)=>int u64 (s:Int)) 0 1 (fun (x:Nat)=>u3) c)/\1<=1/\27<=27/\OpOk Tryd.prog R (Oper.mk (some 21) (Op.lookup 96 (Operand.tmp 19) (Operand.tmp 20) false) 22 "table.go:248" #[Edge.mk 3 Ground.data,Edge.mk 4 Ground.data] none) (evO [Row.mk (some 20) none u4 false (some []) [],Row.mk (some 19) none (AV.mp 1) false (some []) [0],Row.mk (some 18) none (ref 0 26) false (some []) [],Row.mk (some 17) none (ref 0 0) false (some []) [],Row.mk (some 16) none (ref 0 0) false (some []) [3]] [(0,u4),(2,ref 3 0),(3,ref 4 0)] []) u1 g u2 u1 g/\Wp Tryd.prog R 40 5 Rd.top (af Tryd.prog 102) [1,1,1,0] (aq Tryd.prog R 40 5 Rd.top (af Tryd.prog 102) Q [Kont.blk 0]) (St.mk [(3,ref 4 0),(21,u2),(22,int i64 (↑((ofH p.rules.l (m:Int)).length):Int)),(23,int i64 0)] u1 g))) (int i64 (m:Int))) (int u64 (IntKind.wrap u64 (↑(BitVec.toNat (BitVec.ofInt 64 (s:Int)|||BitVec.ofInt 64 (↑(2^m):Int))):Int)))) (fz k 2 ((ofH p.rules.l (m:Int)).length) fun (i:Nat)=>bJ ((ofH p.rules.l (m:Int)).getD i default))) ([cells false 27 (ai p v (AV.mp 1)),AObj.map es,cells false 1 (nth [int u64 (IntKind.wrap u64 (↑(BitVec.toNat (BitVec.ofInt 64 (s:Int)|||BitVec.ofInt 64 (↑(2^m):Int))):Int))]),cells false 1 fun (x:Nat)=>ref 0 0,cells false 1 fun (x:Nat)=>fn 102 0 (nth []) 3 (nth [ref 2 0,ref 3 0,ref 4 0])])) (fun _=>by kernel_rfl) ⟨by omega,(fun _ _=>⟨rfl,(jv _ _ _ (by omega) (by omega) _ _)⟩),fun c1=>?_,fun c1=>⟨by kernel_rfl,by omega,(fun _ _=>⟨rfl,(gJ _ _ (by omega) _ _)⟩),by omega,(fun c hc=>match c,hc with|0,_=>(by kernel_rfl) ),by omega,by omega,?_,?_⟩⟩
  ·rw[if_pos c1]
   refine(ax (bj _ _ rfl trivial rfl rfl rfl) (Le.refl _))
  ·by_cases h0:ofH p.rules.l m=[]
   ·rw[hk1 h0,h0]
    exact qo (t:=96) (kt:=3) (vt:=22) (m:=.tmp 19) (x:=.tmp 20) (ob:=1) (es:=es) (kv:=.int .i64 m) rfl (by kernel_rfl) (Go.Maps.int_keyed (q:=.i64) (by kernel_rfl)) rfl (by exact Le.nil) rfl rfl (fun FM Z v h=>h) (gL (by omega)) hks (hes.miss m h0)
   ·rw[hk2 h0]
    exact qn (t:=96) (kt:=3) (vt:=22) (m:=.tmp 19) (x:=.tmp 20) (ob:=1) (es:=es) (kv:=.int .i64 m) (d:=ae ⟨ofH p.rules.l m,.opn⟩) rfl (by kernel_rfl) (Go.Maps.int_keyed (q:=.i64) (by kernel_rfl)) rfl rfl (fun FM Z v h=>h) (gL (by omega)) hks (hes.hit m h0).1 (hes.hit m h0).2
  ·rw[if_neg (by rw[c1];decide)]
   obtain⟨t,ht⟩:∃t,s|||2^m=t:=⟨_,rfl⟩
   have ht24:t<2^24:=by rw[<-ht];exact jI hs (by omega)
   have htn:24<n+(aj t).length:=by
    have:=rj (s:=s) (a:=m) (by omega) c1
    rw[ht] at this
    omega
   obtain⟨L,hL⟩:∃L,ofH p.rules.l (m:Int)=L:=⟨_,rfl⟩
   rw[hL] at hlf hrf
   have hor:u64.wrap ((BitVec.ofInt 64 (s:Int)|||BitVec.ofInt 64 (2^m)).toNat:Int)=(t:Int):=by
    rw[<-ht]
    exact Tb.u64_or (cb hs) (cb (Nat.pow_lt_pow_right (by decide) (by omega)))
   obtain⟨F,hF⟩:∃F:Nat->Rule->Nat,F=fun (s:Nat) (r:Rule)=>r.body.l.foldl (fun (s:Nat) (l:Lit)=>hgF p n l.atom.toNat s) s:=⟨_,rfl⟩
   rw[ht,hL,hor,<-hF]
   have hup:∀r,r∈L->upS (fun s=>F s r):=fun r hm=>by
    rw[hF]
    exact gi (fun l hl=>gS hr n l.atom.toNat (by have:=(hrf r hm).1.2 l hl;omega))
   have huT:∀i,et t ((L.take i).foldl F t)/\(L.take i).foldl F t<2^24:=fun i=>gi (f:=F) (l:=L.take i) (fun r hm=>hup r (List.mem_of_mem_take hm)) t ht24
   refine(bg (by kernel_rfl) (fun (i:Nat)=>⟨[(3,ref 4 0),(21,fz k 2 (L.length) fun (i:Nat)=>bJ (L.getD i default)),(22,int i64 (L.length:Int)),(23,.int .i64 i)],[.cells false 27 (ai p v (.mp 1)),.map es,.cells false 1 (fun _=>.int .u64 ((L.take i).foldl F t:Nat)),.cells false 1 (fun _=>.ref 0 0),.cells false 1 (fun _=>.fn 102 0 (nth []) 3 (nth [.ref 2 0,.ref 3 0,.ref 4 0]))],g⟩) (fun (i:Nat)=>(i<=L.length)) (fun (i:Nat)=>(L.length-i)) 0 (aX ⟨Le.refl _,Le.refl _,Le.refl _,(Le.of_eq (by kernel_rfl)),trivial⟩ ⟨LeO.rflc,rfl,⟨rfl,Nat.le_refl _,fun j hj=>match j,hj with|0,_=>(Le.of_eq (by kernel_rfl)) ⟩,LeO.rflc,LeO.rflc,trivial⟩ rfl) ?_ (fun i hi=>?_))
   ·exact Nat.zero_le _
   ·obtain⟨hu1,hu2⟩:=huT i
    rcases Nat.lt_or_ge i L.length with hlt|hge
    ·have hq:=hrf _ (fc hlt)
     have hq1:=hq.1.1
     have hstep:=iM F t L default hlt
     obtain⟨u,hu⟩:∃u,(L.take i).foldl F t=u:=⟨_,rfl⟩
     rw[hu] at hu1 hu2 hstep ⊢
     obtain⟨B,hB⟩:∃B,(L.getD i default).body=B:=⟨_,rfl⟩
     have hFB:F u (L.getD i default)=B.l.foldl (fun (s:Nat) (l:Lit)=>hgF p n l.atom.toNat s) u:=by rw[hF,<-hB]
     have hBl:∀l,l∈B.l->0<=l.atom/\l.atom<24:=by rw[<-hB];exact hq.1.2
     have huB:∀j,et u ((B.l.take j).foldl (fun (s:Nat) (l:Lit)=>hgF p n l.atom.toNat s) u)/\(B.l.take j).foldl (fun (s:Nat) (l:Lit)=>hgF p n l.atom.toNat s) u<2^24:=fun j=>gi (f:=fun (s:Nat) (l:Lit)=>hgF p n l.atom.toNat s) (fun l hm=>gS hr n l.atom.toNat (by have:=hBl l (List.mem_of_mem_take hm);omega)) u hu2
     rw[hFB] at hstep
     rw[hB] at hq1
     refine vcQ [] (lkL [(3,[3,21,22,23,24]),(4,[3,6,21,22,23]),(5,[3,21,22,23,28,29,30])]) (lkL [(4,[(3,ROrc.val (Orc.obj (nth [int i64 (L.getD i default).head,al (L.getD i default).body])))])]) (fun Q=>(fun (u1:Int)=>(fun (u2:List AV)=>(fun (u3:Int)=>(fun (u4:AObj)=>(fun (u5:AV)=>(decide (u3<u1)=true->(0<=u3/\u3<u1)/\2<=2/\2<=2/\(∀(c:Nat),c<2->nth u2 c=ah (nth [int i64 0,fz Fz.nil 0 0 fun _ _=>any]) 0 2 (List.brecOn (motive:=fun (x:List AV)=>Nat->AV) u2 nth._f) c)/\2<=2/\Wp Tryd.prog R 40 5 Rd.top (af Tryd.prog 102) [1,1,1,0,0,1,1,0,0,1,1,0] (aq Tryd.prog R 40 5 Rd.top (af Tryd.prog 102) Q [Kont.blk 2,Kont.blk 1,Kont.seq [1,1,1,0,0,1,1,1]]) (St.mk [(3,ref 4 0),(21,u5),(22,int i64 u1),(23,int i64 u3),(28,al (L.getD i default).body),(29,int i64 (↑((L.getD i default).body.l.length):Int)),(30,int i64 0)] [cells false 27 (ai p v (AV.mp 1)),AObj.map es,cells false 1 fun (x:Nat)=>int u64 (u:Int),cells false 1 fun (x:Nat)=>ref 0 0,u4,cells false 2 (nth u2)] g))/\(decide (u3<u1)=false->Q (AEx.exit 0) (St.mk [(3,ref 4 0),(21,u5),(22,int i64 u1),(23,int i64 u3),(24,AV.bool (decide (u3<u1)))] [cells false 27 (ai p v (AV.mp 1)),AObj.map es,cells false 1 fun (x:Nat)=>int u64 (u:Int),cells false 1 fun (x:Nat)=>ref 0 0,u4] g))) (fz k 2 (L.length) fun (i:Nat)=>bJ (L.getD i default))) (cells false 1 fun (x:Nat)=>fn 102 0 (nth []) 3 (nth [ref 2 0,ref 3 0,ref 4 0]))) ((i:Int))) ([int i64 (L.getD i default).head,al (L.getD i default).body])) ((L.length:Int))) (fun _=>by kernel_rfl) ⟨fun c1=>have c1:(i:Int)<(L.length:Int):=(of_decide_eq_true c1);⟨by omega,by omega,by omega,(fun c hc=>match c,hc with|0,_=>(by kernel_rfl)|1,_=>(by kernel_rfl) ),by omega,?_⟩,fun c1=>have c1:¬(i:Int)<(L.length:Int):=(of_decide_eq_false c1);?_⟩
     ·rw[hB]
      refine(bg (by kernel_rfl) (fun (j:Nat)=>⟨[(3,ref 4 0),(21,fz k 2 (L.length) fun (i:Nat)=>bJ (L.getD i default)),(22,int i64 (L.length:Int)),(23,int i64 (i:Int)),(28,al B),(29,int i64 (B.l.length:Int)),(30,.int .i64 j)],[.cells false 27 (ai p v (.mp 1)),.map es,.cells false 1 (fun _=>.int .u64 ((B.l.take j).foldl (fun (s:Nat) (l:Lit)=>hgF p n l.atom.toNat s) u:Nat)),.cells false 1 (fun _=>.ref 0 0),.cells false 1 (fun _=>.fn 102 0 (nth []) 3 (nth [.ref 2 0,.ref 3 0,.ref 4 0])),.cells false 2 (nth [.int .i64 (L.getD i default).head,al B])],g⟩) (fun (j:Nat)=>(j<=B.l.length)) (fun (j:Nat)=>(B.l.length-j)) 0 (aX ⟨Le.refl _,Le.refl _,Le.refl _,Le.refl _,Le.refl _,Le.refl _,(Le.of_eq (by kernel_rfl)),trivial⟩ ⟨LeO.rflc,rfl,LeO.rflc,LeO.rflc,LeO.rflc,LeO.rflc,trivial⟩ rfl) ?_ (fun j hi=>?_))
      ·exact Nat.zero_le _
      ·obtain⟨hj1,hj2⟩:=huB j
       rcases Nat.lt_or_ge j B.l.length with hjl|hjg
       ·have hs2:=iM (fun (s:Nat) (l:Lit)=>hgF p n l.atom.toNat s) u B.l default hjl
        have hat:=hBl _ (bN B.l default hjl)
        obtain⟨z,hz⟩:∃z,(B.l.take j).foldl (fun (s:Nat) (l:Lit)=>hgF p n l.atom.toNat s) u=z:=⟨_,rfl⟩
        rw[hz] at hj1 hj2 hs2 ⊢
        have hcz:24<n+(aj z).length:=by
         have a1:=nY hj1
         have a2:=nY hu1
         omega
        refine vcQ [] (lkL [(6,[3,21,22,23,28,29,30,31]),(7,[3,8,21,22,23,28,29,30]),(8,[3,21,22,23,28,29,30]),(9,[3,21,22,23,28,29,30])]) (lkL [(7,[(3,ROrc.val (Orc.obj (nth [int i64 (B.l.getD j default).atom,AV.bool (B.l.getD j default).neg])))]),(8,[(3,ROrc.call (tup 0 (nth [])) [cells false 27 (ai p v (AV.mp 1)),AObj.map es,cells false 1 fun (j_1:Nat)=>int u64 (↑(hgF p n ((B.l.getD j default).atom.toNat) z):Int),cells false 1 fun (x:Nat)=>ref 0 0,cells false 1 fun (x:Nat)=>fn 102 0 (nth []) 3 (nth [ref 2 0,ref 3 0,ref 4 0]),cells false 2 (nth [int i64 (L.getD i default).head,al B]),cells false 2 (nth [int i64 (B.l.getD j default).atom,AV.bool (B.l.getD j default).neg])] g)])]) (fun Q=>(fun (u1:List AObj)=>(fun (u2:Int)=>(fun (u3:List AObj)=>(fun (u4:Int)=>(fun (u5:Lit)=>(fun (u6:AV)=>(decide (u4<u2)=true->(0<=u4/\u4<u2)/\2<=2/\2<=2/\(∀(c:Nat),c<2->nth [int i64 u5.atom,AV.bool u5.neg] c=ah (nth [int i64 0,AV.bool false]) 0 2 (List.brecOn (motive:=fun (x:List AV)=>Nat->AV) [int i64 u5.atom,AV.bool u5.neg] nth._f) c)/\1<=1/\1<=2/\(true=true/\Does Tryd.prog R 102 [int i64 u5.atom,ref 2 0,ref 3 0,ref 4 0] (cells false 27 (ai p v (AV.mp 1))::AObj.map es::(cells false 1 fun (x:Nat)=>int u64 (z:Int))::u1) g (ret (tup 0 (nth []))) u3 g)/\(-9223372036854775808<=u4+1/\u4+1<=9223372036854775807)/\Q AEx.normal (St.mk [(3,ref 4 0),(21,u6),(22,int i64 (L.length:Int)),(23,int i64 (i:Int)),(28,al B),(29,int i64 u2),(30,int i64 (u4+1))] u3 g))/\(decide (u4<u2)=false->Q (AEx.exit 2) (St.mk [(3,ref 4 0),(21,u6),(22,int i64 (L.length:Int)),(23,int i64 (i:Int)),(28,al B),(29,int i64 u2),(30,int i64 u4),(31,AV.bool (decide (u4<u2)))] [cells false 27 (ai p v (AV.mp 1)),AObj.map es,cells false 1 fun (x:Nat)=>int u64 (z:Int),cells false 1 fun (x:Nat)=>ref 0 0,cells false 1 fun (x:Nat)=>fn 102 0 (nth []) 3 (nth [ref 2 0,ref 3 0,ref 4 0]),cells false 2 (nth [int i64 (L.getD i default).head,al B])] g))) (fz k 2 (L.length) fun (i:Nat)=>bJ (L.getD i default))) (B.l.getD j default)) ((j:Int))) (cells false 27 (ai p v (AV.mp 1))::AObj.map es::(cells false 1 fun (j_1:Nat)=>int u64 (↑(hgF p n ((B.l.getD j default).atom.toNat) z):Int))::u1)) ((B.l.length:Int))) ([cells false 1 fun (x:Nat)=>ref 0 0,cells false 1 fun (x:Nat)=>fn 102 0 (nth []) 3 (nth [ref 2 0,ref 3 0,ref 4 0]),cells false 2 (nth [int i64 (L.getD i default).head,al B]),cells false 2 (nth [int i64 (B.l.getD j default).atom,AV.bool (B.l.getD j default).neg])])) (fun _=>by kernel_rfl) ⟨fun c1=>have c1:(j:Int)<(B.l.length:Int):=(of_decide_eq_true c1);⟨by omega,by omega,by omega,(fun c hc=>match c,hc with|0,_=>(by kernel_rfl)|1,_=>(by kernel_rfl) ),by omega,by omega,⟨rfl,(bz [0,1,2,3,4] 7 (fun R g=>ih R ((B.l.getD j default).atom) (z) g (by omega) (by omega) (by omega)) rfl rfl rfl (by exact⟨⟨rfl,Nat.le_refl _,fun j hj=>(by first|exact au (by first|exact trivial|apply aO)|exact Le.of_eq (bk rfl).symm|exact Le.of_eq (cq (by rfl)).symm)⟩,rfl,⟨rfl,Nat.le_refl _,fun j hj=>match j,hj with|0,_=>(Le.refl _) ⟩,⟨rfl,Nat.le_refl _,fun j hj=>match j,hj with|0,_=>(Le.refl _) ⟩,⟨rfl,Nat.le_refl _,fun j hj=>match j,hj with|0,_=>(Le.fn (fun i hi=>absurd hi (by omega)) (fun i hi=>match i,hi with|0,_=>(Le.refl _)|1,_=>(Le.refl _)|2,_=>(Le.refl _) )) ⟩,trivial⟩) (by exact⟨by omega,by omega,by omega,by omega,trivial⟩) (by exact⟨au (by exact trivial),Le.refl _,Le.refl _,Le.refl _,trivial⟩) (by exact aw (by exact trivial)) (by exact⟨⟨rfl,Nat.le_refl _,fun j hj=>(by first|exact aw (by first|exact trivial|apply aO)|exact Le.of_eq (bk rfl)|exact Le.of_eq (cq (by rfl)))⟩,rfl,LeO.rflc,⟨rfl,Nat.le_refl _,fun j hj=>match j,hj with|0,_=>(Le.refl _) ⟩,⟨rfl,Nat.le_refl _,fun j hj=>match j,hj with|0,_=>(Le.fn (fun i hi=>absurd hi (by omega)) (fun i hi=>match i,hi with|0,_=>(Le.refl _)|1,_=>(Le.refl _)|2,_=>(Le.refl _) )) ⟩,LeO.rflc,LeO.rflc,trivial⟩))⟩,by omega,?_⟩,fun c1=>have c1:¬(j:Int)<(B.l.length:Int):=(of_decide_eq_false c1);?_⟩
        ·refine(aL (j+1) (a9 [0,1,2,3,4,5] 7 rfl rfl rfl rfl rfl ⟨Le.refl _,Le.refl _,Le.refl _,Le.refl _,Le.refl _,Le.refl _,Le.refl _,trivial⟩ ⟨⟨by first|rfl|(simp;done),by first|exact Nat.le_refl _|(simp;done)|(simp;omega),fun j hj=>(by first|exact au (by first|exact trivial|apply aO)|exact Le.of_eq (bk rfl).symm|exact Le.of_eq (cq (by rfl)).symm)⟩,rfl,⟨rfl,Nat.le_refl _,fun j hj=>match j,hj with|0,_=>(Le.of_eq ?_) ⟩,⟨rfl,Nat.le_refl _,fun j hj=>match j,hj with|0,_=>(Le.refl _) ⟩,⟨rfl,Nat.le_refl _,fun j hj=>match j,hj with|0,_=>(Le.fn (fun i hi=>absurd hi (by omega)) (fun i hi=>match i,hi with|0,_=>(Le.refl _)|1,_=>(Le.refl _)|2,_=>(Le.refl _) )) ⟩,⟨rfl,Nat.le_refl _,fun j hj=>match j,hj with|0,_=>(Le.refl _)|1,_=>(Le.refl _) ⟩,trivial⟩) ?_ ?_)
         ·show AV.int .u64 _=AV.int .u64 _
          rw[hs2]
         ·omega
         ·omega
        ·exfalso;omega
       ·have hje:j=B.l.length:=by omega
        subst hje
        rw[List.take_length,<-hstep]
        have hb:decide ((B.l.length:Int)<(B.l.length:Int))=false:=decide_eq_false (by omega)
        refine vcQ [[1,1,1,0,0,1,1,0,0,1,1,0,0,1,0,0]] (lkL [(6,[3,21,22,23,28,29,30,31])]) (fun _=>[]) (fun Q=>(fun (u1:St R.σ)=>(fun (u2:Int)=>(decide (u2<u2)=true->Wp Tryd.prog R 40 5 Rd.top (af Tryd.prog 102) [1,1,1,0,0,1,1,0,0,1,1,0,0,1,0,0] (aq Tryd.prog R 40 5 Rd.top (af Tryd.prog 102) Q [Kont.seq [1,1,1,0,0,1,1,0,0,1,1,0,0,1,1]]) u1)/\(decide (u2<u2)=false->Q (AEx.exit 2) u1)) ((B.l.length:Int))) (St.mk [(3,ref 4 0),(21,fz k 2 (L.length) fun (i:Nat)=>bJ (L.getD i default)),(22,int i64 (L.length:Int)),(23,int i64 (i:Int)),(28,al B),(29,int i64 (B.l.length:Int)),(30,int i64 (B.l.length:Int)),(31,AV.bool (decide ((B.l.length:Int)<(B.l.length:Int))))] [cells false 27 (ai p v (AV.mp 1)),AObj.map es,cells false 1 fun (x:Nat)=>int u64 (↑(List.foldl F t (List.take (i+1) L)):Int),cells false 1 fun (x:Nat)=>ref 0 0,cells false 1 fun (x:Nat)=>fn 102 0 (nth []) 3 (nth [ref 2 0,ref 3 0,ref 4 0]),cells false 2 (nth [int i64 (L.getD i default).head,al B])] g)) (fun _=>by kernel_rfl) ⟨fun hcc=>(nomatch (hb.symm.trans hcc)),fun _=>?_⟩
        refine⟨_,To.refl _,vcQ [] (lkL [(10,[3,21,22,23])]) (fun _=>[]) (fun Q=>(-9223372036854775808<=(i:Int)+1/\(i:Int)+1<=9223372036854775807)/\Q AEx.normal (St.mk [(3,ref 4 0),(21,fz k 2 (L.length) fun (i:Nat)=>bJ (L.getD i default)),(22,int i64 (L.length:Int)),(23,int i64 ((i:Int)+1))] [cells false 27 (ai p v (AV.mp 1)),AObj.map es,cells false 1 fun (x:Nat)=>int u64 (↑(List.foldl F t (List.take (i+1) L)):Int),cells false 1 fun (x:Nat)=>ref 0 0,cells false 1 fun (x:Nat)=>fn 102 0 (nth []) 3 (nth [ref 2 0,ref 3 0,ref 4 0]),cells false 2 (nth [int i64 (L.getD i default).head,al B])] g)) (fun _=>by kernel_rfl) ⟨by omega,?_⟩⟩
        refine(aL (i+1) (a9 [0,1,2,3,4] 6 rfl rfl rfl rfl rfl ⟨Le.refl _,Le.refl _,Le.refl _,Le.refl _,trivial⟩ ⟨⟨by first|rfl|(simp;done),by first|exact Nat.le_refl _|(simp;done)|(simp;omega),fun j hj=>(by first|exact au (by first|exact trivial|apply aO)|exact Le.of_eq (bk rfl).symm|exact Le.of_eq (cq (by rfl)).symm)⟩,rfl,⟨rfl,Nat.le_refl _,fun j hj=>match j,hj with|0,_=>(Le.refl _) ⟩,⟨rfl,Nat.le_refl _,fun j hj=>match j,hj with|0,_=>(Le.refl _) ⟩,⟨rfl,Nat.le_refl _,fun j hj=>match j,hj with|0,_=>(Le.fn (fun i hi=>absurd hi (by omega)) (fun i hi=>match i,hi with|0,_=>(Le.refl _)|1,_=>(Le.refl _)|2,_=>(Le.refl _) )) ⟩,trivial⟩) ?_ ?_)
        ·omega
        ·omega
     ·exfalso;omega
    ·have hie:i=L.length:=by omega
     subst hie
     rw[List.take_length]
     have hb:decide ((L.length:Int)<(L.length:Int))=false:=decide_eq_false (by omega)
     refine vcQ [[1,1,1,0,0,1,0,0]] (lkL [(3,[3,21,22,23,24])]) (fun _=>[]) (fun Q=>(fun (u1:St R.σ)=>(fun (u2:Int)=>(decide (u2<u2)=true->Wp Tryd.prog R 40 5 Rd.top (af Tryd.prog 102) [1,1,1,0,0,1,0,0] (aq Tryd.prog R 40 5 Rd.top (af Tryd.prog 102) Q [Kont.seq [1,1,1,0,0,1,1]]) u1)/\(decide (u2<u2)=false->Q (AEx.exit 0) u1)) ((L.length:Int))) (St.mk [(3,ref 4 0),(21,fz k 2 (L.length) fun (i:Nat)=>bJ (L.getD i default)),(22,int i64 (L.length:Int)),(23,int i64 (L.length:Int)),(24,AV.bool (decide ((L.length:Int)<(L.length:Int))))] [cells false 27 (ai p v (AV.mp 1)),AObj.map es,cells false 1 fun (x:Nat)=>int u64 (↑(List.foldl F t L):Int),cells false 1 fun (x:Nat)=>ref 0 0,cells false 1 fun (x:Nat)=>fn 102 0 (nth []) 3 (nth [ref 2 0,ref 3 0,ref 4 0])] g)) (fun _=>by kernel_rfl) ⟨fun hcc=>(nomatch (hb.symm.trans hcc)),fun _=>?_⟩
     refine⟨_,To.refl _,(ax (bj _ _ rfl trivial rfl rfl rfl) (Le.refl _))⟩
def hgP (p:Prg)(a:Nat):Nat:=hgF p 25 a 0
theorem rk (R:Res)(p:Prg)(a:Int)(hl:p.rules.l.length<1000000)(hr:∀r,r∈p.rules.l->aP r)(ha:0<=a/\a<24)(hp:List AObj)(g:R.σ):Does Tryd.prog R 70 [ay p,.int .i64 a] hp g (.ret (.int .u64 (hgP p a.toNat))) hp g:=by
 refine ca (fun R g=>?_) (by exact⟨⟨⟨trivial,trivial⟩,trivial⟩,trivial,trivial⟩) R hp g
 have hes:=qM hr
 have hz:(0:Nat)<2^24:=by decide
 have hc:24<25+(aj 0).length:=by omega
 have h1:=fun R g=>xF p (fun _=>3) (esF p.rules.l) hes hl hr 25 R a 0 g ha hz hc
 refine az (nt:=15) (rs:=[.tmp 4]) (k0:=0) (by kernel_rfl) (by kernel_rfl) (by kernel_rfl) rfl ?_
 refine vcQ [] (lkL [(0,[1,2]),(1,[1,5]),(2,[1,5,6]),(3,[1,5,6,7]),(4,[1,6,7]),(5,[6]),(6,[4])]) (lkL [(1,[(1,ROrc.call (ref 1 0) [cells false 2 (nth [int i64 p.atoms,ae p.rules]),cells false 27 (ai p (fun (x:Nat)=>3) (AV.mp 2)),AObj.map (esF p.rules.l)] g),(3,ROrc.val (Orc.obj (nth [ref 1 0])))]),(4,[(1,ROrc.val (Orc.obj (nth [fn 102 0 (nth []) 3 (nth [ref 4 0,ref 3 0,ref 5 0])])))]),(5,[(2,ROrc.call (tup 0 (nth [])) [cells false 2 (nth [int i64 p.atoms,ae p.rules]),cells false 27 (ai p (fun (x:Nat)=>3) (AV.mp 2)),AObj.map (esF p.rules.l),cells false 1 (nth [ref 1 0]),cells false 1 fun (j:Nat)=>int u64 (↑(hgF p 25 (a.toNat) 0):Int),cells false 1 (nth [fn 102 0 (nth []) 3 (nth [ref 4 0,ref 3 0,ref 5 0])])] g)])]) (fun Q=>(fun (u1:List AObj)=>(fun (u2:AObj)=>(fun (u3:AV)=>(fun (u4:AObj)=>2<=2/\(true=true/\Does Tryd.prog R 66 [ay p] [u2] g (ret (ref 1 0)) [u2,u4,AObj.map (esF p.rules.l)] g)/\1<=1/\(∀(c:Nat),c<1->nth [ref 1 0] c=ah (fun (a:Nat)=>AV.nilp) 0 1 (fun (x:Nat)=>ref 1 0) c)/\1<=1/\(∀(c:Nat),c<1->nth [u3] c=ah (fun (a:Nat)=>AV.nilf) 0 1 (fun (x:Nat)=>u3) c)/\1<=1/\(true=true/\Does Tryd.prog R 102 [int i64 a,ref 4 0,ref 3 0,ref 5 0] [u2,u4,AObj.map (esF p.rules.l),cells false 1 (nth [ref 1 0]),cells false 1 fun (a:Nat)=>int u64 0,cells false 1 (nth [u3])] g (ret (tup 0 (nth []))) u1 g)/\1<=1/\Q AEx.ret (St.mk [(4,int u64 (↑(hgF p 25 (a.toNat) 0):Int))] u1 g)) (cells false 27 (ai p (fun (x:Nat)=>3) (AV.mp 2)))) (fn 102 0 (nth []) 3 (nth [ref 4 0,ref 3 0,ref 5 0]))) (cells false 2 (nth [int i64 p.atoms,ae p.rules]))) ([cells false 2 (nth [int i64 p.atoms,ae p.rules]),cells false 27 (ai p (fun (x:Nat)=>3) (AV.mp 2)),AObj.map (esF p.rules.l),cells false 1 (nth [ref 1 0]),cells false 1 fun (j:Nat)=>int u64 (↑(hgF p 25 (a.toNat) 0):Int),cells false 1 (nth [fn 102 0 (nth []) 3 (nth [ref 4 0,ref 3 0,ref 5 0])])])) (fun _=>by kernel_rfl) ⟨by omega,⟨rfl,(nQ _ _ _ (by omega) (by omega) _)⟩,by omega,(fun c hc=>match c,hc with|0,_=>(by kernel_rfl) ),by omega,(fun c hc=>match c,hc with|0,_=>(by kernel_rfl) ),by omega,⟨rfl,(bz [1,2,4,3,5] 6 (fun R g=>h1 R g) rfl rfl rfl (by exact⟨⟨rfl,Nat.le_refl _,fun j hj=>(by first|exact au (by first|exact trivial|apply aO)|exact Le.of_eq (bk rfl).symm|exact Le.of_eq (cq (by rfl)).symm)⟩,rfl,⟨rfl,Nat.le_refl _,fun j hj=>match j,hj with|0,_=>(Le.refl _) ⟩,⟨rfl,Nat.le_refl _,fun j hj=>match j,hj with|0,_=>(Le.refl _) ⟩,⟨rfl,Nat.le_refl _,fun j hj=>match j,hj with|0,_=>(Le.fn (fun i hi=>absurd hi (by omega)) (fun i hi=>match i,hi with|0,_=>(Le.refl _)|1,_=>(Le.refl _)|2,_=>(Le.refl _) )) ⟩,trivial⟩) (by exact⟨by omega,by omega,by omega,by omega,trivial⟩) (by exact⟨au (by exact trivial),Le.refl _,Le.refl _,Le.refl _,trivial⟩) (by exact aw (by exact trivial)) (by exact⟨LeO.rflc,⟨rfl,Nat.le_refl _,fun j hj=>(by first|exact aw (by first|exact trivial|apply aO)|exact Le.of_eq (bk rfl)|exact Le.of_eq (cq (by rfl)))⟩,rfl,⟨rfl,Nat.le_refl _,fun j hj=>match j,hj with|0,_=>(Le.refl _) ⟩,LeO.rflc,⟨rfl,Nat.le_refl _,fun j hj=>match j,hj with|0,_=>(Le.fn (fun i hi=>absurd hi (by omega)) (fun i hi=>match i,hi with|0,_=>(Le.refl _)|1,_=>(Le.refl _)|2,_=>(Le.refl _) )) ⟩,trivial⟩))⟩,by omega,?_⟩
 refine(ax (bR _ _ rfl trivial trivial rfl) (Le.of_eq (by kernel_rfl)))
def ao (s:Nat):KL Int:=⟨bC s,.auto⟩
theorem jJ (R:Res)[Tab LT R](s:Nat)(hs:s<2^24)(g:R.σ):Does Tryd.prog R 75 [.fn 105 0 (nth []) 1 (nth [.ref 0 0])] [.cells false 1 (fun _=>.int .u64 s)] g (.ret (ap (ao s))) [.cells false 1 (fun _=>.any)] g:=
 fE (xd R s hs g) (aX ⟨Le.fz (gg s).symm (fun i j hi hj=>by
  show AV.int .i64 _=AV.int .i64 ((bC s).getD i 0)
  rw[jA]),trivial⟩ ⟨LeO.refl _,trivial⟩ rfl)
theorem gT {p:Prg}(hr:∀r,r∈p.rules.l->aP r){a:Nat}(ha:a<24):hgP p a<2^24:=(gS hr 25 a ha 0 (by decide)).2
def aB (p:Prg)(a:Nat):Nat:=(aj (hgP p a)).foldl (fun (s:Nat) (b:Nat)=>if (hgP p b).testBit a then s|||2^b else s) 0
def onC (p:Prg):Nat->AV:=fun k=>.int .u64 (hgP p k)
theorem gj {k:Nat}(p:Prg)(j:Nat):Below k (onC p j):=trivial
theorem gk {f:Nat->Nat}(h:True){p:Prg}{j:Nat}:aY f (onC p j)=onC p j:=rfl
theorem nZ {p:Prg}{a:Nat}:∀{l:List Nat} {s:Nat},(∀b,b∈l->b<24)->s<2^24->l.foldl (fun (s:Nat) (b:Nat)=>if (hgP p b).testBit a then s|||2^b else s) s<2^24
 |[],_,_,hs=>hs
 |b::l,s,hl,hs=>by
  rw[List.foldl_cons]
  refine nZ (fun c hc=>hl c (List.mem_cons_of_mem _ hc)) ?_
  split
  ·exact jI hs (hl b List.mem_cons_self)
  ·exact hs
theorem rl (p:Prg)(a:Nat):aB p a<2^24:=nZ (fun b hb=>jB hb) (by decide)
theorem ls (R:Res)[Tab LT R](p:Prg)(n:Nat)(a:Int)(hr:∀r,r∈p.rules.l->aP r)(hn:n<=24)(ha:0<=a/\a<n)(hin:∀b,b∈aj (hgP p a.toNat)->b<n)(g:R.σ):Does Tryd.prog R 82 [.int .i64 a,.ref 0 0] [.cells false 1 (fun _=>.ow true 1 n 1),.cells false (n*1) (onC p)] g (.ret (.int .u64 (aB p a.toNat))) [.cells false 1 (fun _=>.ow true 1 n 1),.cells false (n*1) (onC p)] g:=by
 obtain⟨m,rfl⟩:∃m:Nat,a=m:=⟨a.toNat,by omega⟩
 rw[Int.toNat_natCast] at hin ⊢
 have hlt:hgP p m<2^24:=gT hr (by omega)
 refine az (nt:=23) (rs:=[.tmp 3]) (k0:=2) (by kernel_rfl) (by kernel_rfl) (by kernel_rfl) rfl ?_
 refine vcQ [] (lkL [(0,[1,2]),(1,[1,2,4]),(2,[1,2,4,10])]) (lkL [(2,[(4,ROrc.call (fn 105 0 (nth []) 1 (nth [ref (List.length [cells false 1 fun (x:Nat)=>ow true 1 n 1,cells false (n*1) fun (a:Nat)=>onC p a,cells false 1 fun (a:Nat)=>int i64 (m:Int),cells false 1 fun (a:Nat)=>int u64 0]) 0])) ([cells false 1 fun (x:Nat)=>ow true 1 n 1,cells false (n*1) fun (a:Nat)=>onC p a,cells false 1 fun (a:Nat)=>int i64 (m:Int),cells false 1 fun (a:Nat)=>int u64 0]++[cells false 1 fun (x:Nat)=>int u64 (↑(hgP p m):Int)]) g)])]) (fun Q=>(fun (u1:List AObj)=>1<=1/\1<=1/\(0<=(m:Int)/\(m:Int)<(n:Int))/\m+1<=n*1/\(true=true/\Does Tryd.prog R 77 [onC p m] [cells false 1 fun (x:Nat)=>ow true 1 n 1,cells false (n*1) fun (a:Nat)=>onC p a,cells false 1 fun (a:Nat)=>int i64 (m:Int),cells false 1 fun (a:Nat)=>int u64 0] g (ret (fn 105 0 (nth []) 1 (nth [ref 4 0]))) u1 g)/\Wp Tryd.prog R 23 2 Rd.top (af Tryd.prog 82) [1,1,0,1,0] (aq Tryd.prog R 23 2 Rd.top (af Tryd.prog 82) Q [Kont.blk 0,Kont.seq [1,1,1]]) (St.mk [(1,ref 0 0),(2,ref 2 0),(4,ref 3 0),(10,fn 105 0 (nth []) 1 (nth [ref 4 0]))] u1 g)) ([cells false 1 fun (x:Nat)=>ow true 1 n 1,cells false (n*1) fun (a:Nat)=>onC p a,cells false 1 fun (a:Nat)=>int i64 (m:Int),cells false 1 fun (a:Nat)=>int u64 0,cells false 1 fun (x:Nat)=>onC p m])) (fun _=>by kernel_rfl) ⟨by omega,by omega,by omega,by omega,⟨rfl,(dG _ _ _ _)⟩,?_⟩
 have hseq:=ns (hgP p m) hlt
 obtain⟨l,hle⟩:∃l,aj (hgP p m)=l:=⟨_,rfl⟩
 have hw:aB p m=l.foldl (fun (s:Nat) (b:Nat)=>if (hgP p b).testBit m then s|||2^b else s) 0:=by unfold aB;rw[hle]
 rw[hle] at hseq hin
 have hin2:∀k,k<l.length->l.getD k 0<n:=fun k hk=>hin _ (bN l 0 hk)
 refine kN 10 [11] 4 (by kernel_rfl) rfl rfl rfl hseq (fun _=>rfl) (by kernel_rfl) (fun _=>⟨trivial,trivial⟩)
  (fun _=>none) (fun _=>rfl)
  (fun k=>[.cells false 1 (fun _=>.ow true 1 n 1),.cells false (n*1) (onC p),.cells false 1 (fun _=>.int .i64 m),.cells false 1 (fun _=>.int .u64 ((l.take k).foldl (fun (s:Nat) (b:Nat)=>if (hgP p b).testBit m then s|||2^b else s) 0:Nat))])
  (fun _=>g) (ix rfl rfl) (fun _=>rfl) (by exact⟨by omega,by omega,by omega,by omega,by omega,trivial⟩) (by exact⟨fun _ _=>show 1<4 by omega,fun _ _=>trivial,fun _ _=>trivial,fun _ _=>trivial,trivial⟩) (by exact⟨fun _ _=>trivial,trivial⟩) [1,2,4] (by exact⟨show 0<4 by omega,show 2<4 by omega,show 3<4 by omega,trivial⟩) (fun k l' hk hjk=>?_) (fun _=>?_) (fun k hk hj hr=>by cases hr) (fun k id hk hj hr=>by cases hr)
 ·obtain⟨b,hb⟩:∃b,l.getD k 0=b:=⟨_,rfl⟩
  have hbn:b<n:=by rw[<-hb];exact hin2 k hk
  have hb24:hgP p b<2^24:=gT hr (by omega)
  have hst:=iM (fun (s:Nat) (b:Nat)=>if (hgP p b).testBit m then s|||2^b else s) 0 l 0 hk
  obtain⟨t,ht⟩:∃t,(l.take k).foldl (fun (s:Nat) (b:Nat)=>if (hgP p b).testBit m then s|||2^b else s) 0=t:=⟨_,rfl⟩
  have ht24:t<2^24:=by
   rw[<-ht]
   exact nZ (fun c hc=>by
    have h1:=List.mem_of_mem_take hc
    rw[<-hle] at h1
    exact jB h1) (by decide)
  rw[hb,ht] at hst
  rw[hb,ht,hst]
  refine vcQ [] (lkL [(3,[1,2,4,5])]) (fun _=>[]) (fun Q=>Q AEx.normal (St.mk [(1,ref 0 0),(2,ref 2 0),(4,ref 3 0),(5,int i64 (b:Int))] [cells false 1 fun (x:Nat)=>ow true 1 n 1,cells false (n*1) fun (a:Nat)=>onC p a,cells false 1 fun (x:Nat)=>int i64 (m:Int),cells false 1 fun (x:Nat)=>int u64 (t:Int)] g)) (fun _=>by kernel_rfl) (?_)
  show Wp _ _ _ 4 _ _ _ _ _
  refine vcQ [] (lkL [(4,[4,5,17]),(5,[4])]) (lkL [(4,[(5,ROrc.pcall (AV.bool (Nat.testBit (hgP p b) m)))]),(5,[(2,ROrc.pcall (int u64 (↑(2^b):Int))),(4,ROrc.val (Orc.obj (nth [int u64 (IntKind.wrap u64 (↑(BitVec.toNat (BitVec.ofInt 64 (t:Int)|||BitVec.ofInt 64 (↑(2^b):Int))):Int))])))])]) (fun Q=>(fun (u1:AV)=>(fun (u2:Bool)=>(fun (u3:Bool)=>u3=true/\1<=1/\(0<=(b:Int)/\(b:Int)<(n:Int))/\b+1<=n*1/\1<=1/\(∀(hp:List AObj) (g:R.σ),true=true/\Does Tryd.prog R 71 [onC p b,int i64 (m:Int)] hp g (ret (AV.bool u2)) hp g)/\(u2=true->u3=true/\1<=1/\(∀(hp:List AObj) (g:R.σ),true=true/\Does Tryd.prog R 79 [int i64 (b:Int)] hp g (ret (int u64 (↑(2^b):Int))) hp g)/\1<=1/\(∀(c:Nat),c<1->nth [u1] c=ah (fun (x:Nat)=>int u64 (t:Int)) 0 1 (fun (x:Nat)=>u1) c)/\Q AEx.normal (St.mk [(4,ref 3 0)] [cells false 1 fun (x:Nat)=>ow true 1 n 1,cells false (n*1) fun (a:Nat)=>onC p a,cells false 1 fun (x:Nat)=>int i64 (m:Int),cells false 1 (nth [u1])] g))/\(u2=false->Q AEx.normal (St.mk [(4,ref 3 0),(5,int i64 (b:Int)),(17,AV.bool u2)] [cells false 1 fun (x:Nat)=>ow true 1 n 1,cells false (n*1) fun (a:Nat)=>onC p a,cells false 1 fun (x:Nat)=>int i64 (m:Int),cells false 1 fun (x:Nat)=>int u64 (t:Int)] g))) (Tables.follows Tryd.prog.toTables Departure.mixedOrders)) (Nat.testBit (hgP p b) m)) (int u64 (IntKind.wrap u64 (↑(BitVec.toNat (BitVec.ofInt 64 (t:Int)|||BitVec.ofInt 64 (↑(2^b):Int))):Int)))) (fun _=>by kernel_rfl) ⟨by kernel_rfl,by omega,by omega,by omega,by omega,(fun _ _=>⟨rfl,(jv _ _ _ (by omega) (by omega) _ _)⟩),fun c1=>⟨by kernel_rfl,by omega,(fun _ _=>⟨rfl,(gJ _ _ (by omega) _ _)⟩),by omega,(fun c hc=>match c,hc with|0,_=>(by kernel_rfl) ),?_⟩,fun c1=>?_⟩
  ·refine(fZ rfl (aX trivial ⟨LeO.rflc,LeO.rflc,LeO.rflc,⟨rfl,Nat.le_refl _,fun j hj=>match j,hj with|0,_=>(Le.of_eq ?_) ⟩,trivial⟩ rfl))
   show AV.int .u64 _=AV.int .u64 _
   rw[if_pos c1]
   congr 1
   exact Tb.u64_or (cb ht24) (cb (Nat.pow_lt_pow_right (by decide) (by omega)))
  ·refine(fZ rfl (aX trivial ⟨LeO.rflc,LeO.rflc,LeO.rflc,⟨rfl,Nat.le_refl _,fun j hj=>match j,hj with|0,_=>(Le.of_eq ?_) ⟩,trivial⟩ rfl))
   show AV.int .u64 _=AV.int .u64 _
   rw[if_neg (by rw[c1];decide)]
 ·rw[List.take_length,<-hw]
  refine vcQ [] (lkL [(6,[3])]) (fun _=>[]) (fun Q=>1<=1/\Q AEx.ret (St.mk [(3,int u64 (↑(aB p m):Int))] [cells false 1 fun (x:Nat)=>ow true 1 n 1,cells false (n*1) fun (a:Nat)=>onC p a,cells false 1 fun (x:Nat)=>int i64 (m:Int),cells false 1 fun (x:Nat)=>int u64 (↑(aB p m):Int),dead] g)) (fun _=>by kernel_rfl) ⟨by omega,?_⟩
  show bw Tryd.prog R 2 _ _ _ _ .ret _
  refine(ax (bZ 2 _ _ rfl trivial (by omega) trivial ⟨(fun j hj=>match j,hj with|0,_=>(show 2<=2 by omega) ),(fun _ _=>trivial),trivial⟩ (by kernel_rfl) rfl rfl) (Le.refl _))
def jK (p:Prg)(a b:Nat):Prop:=∃r,r∈p.rules.l/\r.head=(a:Int)/\∃l,l∈r.body.l/\l.atom.toNat=b
inductive Reach (p:Prg):Nat->Nat->Prop
 |refl (a:Nat):Reach p a a
 |step {a b c:Nat} (h:jK p a b) (k:Reach p b c):Reach p a c
theorem Reach.trans {p:Prg}{a b c:Nat}(h:Reach p a b)(k:Reach p b c):Reach p a c:=by
 induction h with
 |refl a=>exact k
 |step h _ ih=>exact .step h (ih k)
def gU (p:Prg)(a:Nat):List Nat:=(ofH p.rules.l (a:Int)).flatMap (fun r=>r.body.l.map (fun l=>l.atom.toNat))
theorem n6 {p:Prg}{a b:Nat}:b∈gU p a↔jK p a b:=by
 unfold gU jK ofH
 simp only[List.mem_flatMap,List.mem_map,List.mem_filter,beq_iff_eq]
 constructor
 ·rintro ⟨r,⟨h1,h2⟩,l,h3,h4⟩
  exact⟨r,h1,h2,l,h3,h4⟩
 ·rintro ⟨r,h1,h2,l,h3,h4⟩
  exact⟨r,⟨h1,h2⟩,l,h3,h4⟩
theorem rm (p:Prg)(n a s:Nat):hgF p (n+1) a s=if s.testBit a then s else(gU p a).foldl (fun (s:Nat) (b:Nat)=>hgF p n b s) (s|||2^a):=by
 show(if s.testBit a then s else _)=_
 congr 1
 unfold gU
 rw[List.foldl_flatMap]
 congr 1
 funext s r
 rw[List.foldl_map]
def n7 (p:Prg)(s t:Nat):Prop:=∀x,t.testBit x=true->s.testBit x=false->∀y,jK p x y->t.testBit y=true
theorem rn {p:Prg}(hr:∀r,r∈p.rules.l->aP r){a b:Nat}(h:b∈gU p a):b<24:=by
 obtain⟨r,h1,_,l,h3,rfl⟩:=n6.1 h
 have:=(hr r h1).1.2 l h3
 omega
theorem ro {p:Prg}(hr:∀r,r∈p.rules.l->aP r){n:Nat}(ih:∀a s,a<24->s<2^24->24<n+(aj s).length->(hgF p n a s).testBit a=true/\n7 p s (hgF p n a s)):∀(L:List Nat) (s:Nat),(∀b,b∈L->b<24)->s<2^24->24<n+(aj s).length ->
  (∀b,b∈L->(L.foldl (fun (s:Nat) (b:Nat)=>hgF p n b s) s).testBit b=true)/\n7 p s (L.foldl (fun (s:Nat) (b:Nat)=>hgF p n b s) s)
 |[],s,_,_,_=>⟨fun b hb=>(by cases hb),fun x h1 h2=>by rw[List.foldl_nil] at h1;rw[h1] at h2;cases h2⟩
 |b::L,s,hL,hs,hn=>by
  have hb:=hL b List.mem_cons_self
  obtain⟨u1,u2⟩:=gS hr n b hb s hs
  obtain⟨a1,a2⟩:=ih b s hb hs hn
  have hn':24<n+(aj (hgF p n b s)).length:=by have:=nY u1;omega
  obtain⟨c1,c2⟩:=ro hr ih L (hgF p n b s) (fun c hc=>hL c (List.mem_cons_of_mem _ hc)) u2 hn'
  have up:=(gi (l:=L) (f:=fun (s:Nat) (b:Nat)=>hgF p n b s) (fun c hc=>gS hr n c (hL c (List.mem_cons_of_mem _ hc))) _ u2).1
  rw[List.foldl_cons]
  refine⟨fun c hc=>?_,fun x h1 h2 y hy=>?_⟩
  ·rcases List.mem_cons.1 hc with rfl|hc
   ·exact up _ a1
   ·exact c1 c hc
  ·by_cases hx:(hgF p n b s).testBit x=true
   ·exact up _ (a2 x hx h2 y hy)
   ·exact c2 x h1 (by simpa using hx) y hy
theorem rp {p:Prg}(hr:∀r,r∈p.rules.l->aP r):∀(n a s:Nat),a<24->s<2^24->24<n+(aj s).length->(hgF p n a s).testBit a=true/\n7 p s (hgF p n a s)
 |0,a,s,_,_,h=>by have:=gQ s;omega
 |n+1,a,s,ha,hs,h=>by
  rw[rm]
  by_cases hb:s.testBit a=true
  ·rw[if_pos hb]
   exact⟨hb,fun x h1 h2=>by rw[h1] at h2;cases h2⟩
  ·rw[if_neg hb]
   have hb:s.testBit a=false:=by simpa using hb
   have hs1:=jI hs ha
   have hn1:24<n+(aj (s|||2^a)).length:=by have:=rj ha hb;omega
   obtain⟨c1,c2⟩:=ro hr (rp hr n) (gU p a) _ (fun b hb=>rn hr hb) hs1 hn1
   have up:=(gi (l:=gU p a) (f:=fun (s:Nat) (b:Nat)=>hgF p n b s) (fun c hc=>gS hr n c (rn hr hc)) _ hs1).1
   have haT:=up a (by rw[gR];simp)
   refine⟨haT,fun x h1 h2 y hy=>?_⟩
   by_cases hxa:x=a
   ·subst hxa
    exact c1 y (n6.2 hy)
   ·exact c2 x h1 (by rw[gR,h2];simp;exact fun e=>hxa e.symm) y hy
theorem rq {p:Prg}:∀(n a s b:Nat),(hgF p n a s).testBit b=true->s.testBit b=true∨Reach p a b
 |0,_,_,_,h=>.inl h
 |n+1,a,s,b,h=>by
  rw[rm] at h
  by_cases hb:s.testBit a=true
  ·rw[if_pos hb] at h;exact .inl h
  ·rw[if_neg hb] at h
   have key:∀(L:List Nat) (s:Nat),(∀c,c∈L->jK p a c)->(L.foldl (fun (s:Nat) (b:Nat)=>hgF p n b s) s).testBit b=true->s.testBit b=true∨Reach p a b:=by
    intro L
    induction L with
    |nil=>intro s _ h;exact .inl h
    |cons c L ih=>
     intro s hL h
     rw[List.foldl_cons] at h
     rcases ih _ (fun d hd=>hL d (List.mem_cons_of_mem _ hd)) h with h|h
     ·rcases rq n c s b h with h|h
      ·exact .inl h
      ·exact .inr (.step (hL c List.mem_cons_self) h)
     ·exact .inr h
   rcases key _ _ (fun c hc=>n6.1 hc) h with h|h
   ·rw[gR,Bool.or_eq_true,decide_eq_true_eq] at h
    rcases h with h|h
    ·exact .inl h
    ·subst h;exact .inr (.refl _)
   ·exact .inr h
theorem d6 {p:Prg}(hr:∀r,r∈p.rules.l->aP r){a b:Nat}(ha:a<24):(hgP p a).testBit b=true↔Reach p a b:=by
 have hc:=rp hr 25 a 0 ha (by decide) (by omega)
 constructor
 ·intro h
  rcases rq 25 a 0 b h with h|h
  ·simp at h
  ·exact h
 ·have key:∀x y,Reach p x y->(hgP p a).testBit x=true->(hgP p a).testBit y=true:=by
   intro x y h
   induction h with
   |refl=>exact fun h=>h
   |step h _ ih=>exact fun hx=>ih (hc.2 _ hx (by simp) _ h)
  exact fun h=>key a b h hc.1
theorem xG {p:Prg}(hl:∀r,r∈p.rules.l->∀l,l∈r.body.l->0<=l.atom/\l.atom<p.atoms){a b:Nat}(h:Reach p a b):a=b∨(b:Int)<p.atoms:=by
 induction h with
 |refl=>exact .inl rfl
 |step h k ih=>
  obtain⟨r,h1,_,l,h3,rfl⟩:=h
  have:=hl r h1 l h3
  rcases ih with rfl|h
  ·exact .inr (by omega)
  ·exact .inr h
def dI (s t:Nat):Nat:=(BitVec.ofNat 64 s &&& ~~~ BitVec.ofNat 64 t).toNat
theorem jL {s t:Nat}(hs:s<2^24)(j:Nat):(dI s t).testBit j=(s.testBit j && !t.testBit j):=by
 unfold dI
 rw[BitVec.testBit_toNat,BitVec.getLsbD_and,BitVec.getLsbD_not,BitVec.getLsbD_ofNat,BitVec.getLsbD_ofNat]
 by_cases hj:j<64
 ·simp only[hj,decide_true,Bool.true_and]
 ·rw[Nat.testBit_lt_two_pow (x:=s) (Nat.lt_of_lt_of_le (cb hs) (Nat.pow_le_pow_right (by decide) (by omega)))]
  simp[hj]
theorem rr {s t:Nat}:dI s t<=s:=by
 unfold dI
 rw[BitVec.toNat_and]
 refine Nat.le_trans Nat.and_le_left ?_
 rw[BitVec.toNat_ofNat]
 exact Nat.mod_le _ _
theorem n9 {s t:Nat}(hs:s<2^24):IntKind.u64.wrap ((BitVec.ofInt 64 (s:Int) &&& ~~~ BitVec.ofInt 64 (t:Int)).toNat:Int)=((dI s t:Nat):Int):=by
 rw[BitVec.ofInt_natCast,BitVec.ofInt_natCast]
 exact Tb.wrapU (cb (Nat.lt_of_le_of_lt (rr (t:=t)) hs))
theorem xH {s:Nat}:s=0↔∀j,s.testBit j=false:=by
 constructor
 ·rintro rfl j;simp
 ·intro h
  exact Nat.eq_of_testBit_eq (fun j=>by rw[h j];simp)
theorem rt {p:Prg}{a j:Nat}:∀{l:List Nat} {s:Nat},(l.foldl (fun (s:Nat) (b:Nat)=>if (hgP p b).testBit a then s|||2^b else s) s).testBit j=(s.testBit j||l.any (fun b=>b==j&&(hgP p b).testBit a))
 |[],s=>by simp
 |b::l,s=>by
  rw[List.foldl_cons,rt,List.any_cons]
  cases hb:(hgP p b).testBit a with
  |true=>
   rw[if_pos rfl,gR,Bool.and_true,Bool.or_assoc]
   congr 2
  |false=>
   rw[if_neg (by decide),Bool.and_false,Bool.false_or]
theorem oa {p:Prg}(hr:∀r,r∈p.rules.l->aP r){a j:Nat}(ha:a<24):(aB p a).testBit j=true↔Reach p a j/\Reach p j a/\j<24:=by
 unfold aB
 rw[rt]
 simp only[Nat.zero_testBit,Bool.false_or,List.any_eq_true,Bool.and_eq_true,beq_iff_eq]
 constructor
 ·rintro ⟨b,h1,rfl,h2⟩
  obtain⟨m1,m2⟩:=Tb.mem_memN.1 h1
  exact⟨(d6 hr ha).1 m2,(d6 hr m1).1 h2,m1⟩
 ·rintro ⟨h1,h2,h3⟩
  exact⟨j,Tb.mem_memN.2 ⟨h3,(d6 hr ha).2 h1⟩,rfl,(d6 hr h3).2 h2⟩
def eL (p:Prg)(left a:Nat):Bool:=dI (hgP p a&&&left) (aB p a)==0
theorem xI {p:Prg}(hr:∀r,r∈p.rules.l->aP r){left a:Nat}(hl:left<2^24)(ha:a<24):eL p left a=true↔∀b,Reach p a b->left.testBit b=true->Reach p b a:=by
 unfold eL
 have hlt:hgP p a&&&left<2^24:=Nat.lt_of_le_of_lt Nat.and_le_right hl
 rw[beq_iff_eq,xH]
 constructor
 ·intro h b hb hbl
  have hb24:=gP hl hbl
  have:=h b
  rw[jL hlt,Nat.testBit_and,(d6 hr ha).2 hb,hbl] at this
  have h2:(aB p a).testBit b=true:=by simpa using this
  exact((oa hr ha).1 h2).2.1
 ·intro h j
  rw[jL hlt,Nat.testBit_and]
  cases h1:(hgP p a).testBit j with
  |false=>rfl
  |true=>
   cases h2:left.testBit j with
   |false=>rfl
   |true=>
    have h3:=(d6 hr ha).1 h1
    rw[(oa hr ha).2 ⟨h3,h j h3 h2,gP hl h2⟩]
    rfl
theorem xJ {p:Prg}(hr:∀r,r∈p.rules.l->aP r){left:Nat}(hl:left<2^24)(h0:left≠0):∃a,a∈aj left/\eL p left a=true:=by
 have key:∀(n a:Nat),a∈aj left->(aj (hgP p a&&&left)).length<=n->∃a,a∈aj left/\eL p left a=true:=by
  intro n
  induction n with
  |zero=>
   intro a ha h
   obtain⟨m1,m2⟩:=Tb.mem_memN.1 ha
   have:a∈aj (hgP p a&&&left):=Tb.mem_memN.2 ⟨m1,by rw[Nat.testBit_and,(d6 hr m1).2 (.refl a),m2];rfl⟩
   rw[List.length_eq_zero_iff.1 (Nat.le_zero.1 h)] at this
   cases this
  |succ n ih=>
   intro a ha h
   obtain⟨m1,m2⟩:=Tb.mem_memN.1 ha
   by_cases hok:eL p left a=true
   ·exact⟨a,ha,hok⟩
   ·have hne:¬∀b,Reach p a b->left.testBit b=true->Reach p b a:=fun h=>hok ((xI hr hl m1).2 h)
    obtain⟨b,hb⟩:=Classical.not_forall.1 hne
    obtain⟨hb1,hb2⟩:=Classical.not_imp.1 hb
    obtain⟨hb2,hb3⟩:=Classical.not_imp.1 hb2
    have hb24:=gP hl hb2
    refine ih b (Tb.mem_memN.2 ⟨hb24,hb2⟩) ?_
    have:(aj (hgP p b&&&left)).length<(aj (hgP p a&&&left)).length:=by
     refine jC (fun j _ hj=>?_) ⟨a,List.mem_range.2 m1,?_,?_⟩
     ·rw[Nat.testBit_and,Bool.and_eq_true] at hj ⊢
      exact⟨(d6 hr m1).2 (hb1.trans ((d6 hr hb24).1 hj.1)),hj.2⟩
     ·rw[Nat.testBit_and,(d6 hr m1).2 (.refl a),m2];rfl
     ·rw[Nat.testBit_and]
      cases hx:(hgP p b).testBit a with
      |false=>rfl
      |true=>exact absurd ((d6 hr hb24).1 hx) hb3
    omega
 obtain⟨k,m,h⟩:=Tb.low_of (show 0<left by omega)
 have hk:left.testBit k=true:=by rw[Tb.low_bit h];simp
 exact key _ k (Tb.mem_memN.2 ⟨gP hl hk,hk⟩) (Nat.le_refl _)
def iN (p:Prg)(left:Nat):Nat:=(aj left).findIdx (eL p left)
def dS (p:Prg)(left:Nat):Nat:=(aj left).getD (iN p left) 0
def jM (p:Prg):Nat->Nat->List Nat
 |0,_=>[]
 |n+1,left=>if left=0 then[] else aB p (dS p left)::jM p n (dI left (aB p (dS p left)))
def cE (p:Prg):List Nat:=jM p 25 (2^p.atoms.toNat-1)
theorem ru {p:Prg}(hr:∀r,r∈p.rules.l->aP r){left:Nat}(hl:left<2^24)(h0:left≠0):iN p left<(aj left).length/\eL p left (dS p left)=true/\(∀j,j<iN p left->eL p left ((aj left).getD j 0)=false)/\dS p left∈aj left:=by
 obtain⟨a,h1,h2⟩:=xJ hr hl h0
 have hk:iN p left<(aj left).length:=List.findIdx_lt_length_of_exists ⟨a,h1,h2⟩
 have e:dS p left=(aj left)[iN p left]:=by
  unfold dS
  rw[List.getD_eq_getElem?_getD,List.getElem?_eq_getElem hk]
  rfl
 refine⟨hk,by rw[e];exact List.findIdx_getElem (w:=hk),fun j hj=>?_,by rw[e];exact List.getElem_mem hk⟩
 have:=List.not_of_lt_findIdx (p:=eL p left) (xs:=aj left) hj
 rw[List.getD_eq_getElem?_getD,List.getElem?_eq_getElem (by omega)]
 simpa using this
theorem xK {p:Prg}(hr:∀r,r∈p.rules.l->aP r){left:Nat}(hl:left<2^24)(h0:left≠0):(aj (dI left (aB p (dS p left)))).length<(aj left).length:=by
 obtain⟨_,h2,_,h4⟩:=ru hr hl h0
 obtain⟨m1,m2⟩:=Tb.mem_memN.1 h4
 refine jC (fun j _ hj=>?_) ⟨dS p left,List.mem_range.2 m1,m2,?_⟩
 ·rw[jL hl,Bool.and_eq_true] at hj
  exact hj.1
 ·rw[jL hl,(oa hr m1).2 ⟨.refl _,.refl _,m1⟩]
  simp
theorem rx (R:Res)(on:Nat)(a:Int)(hon:on<2^24)(ha:0<=a/\a<24)(g:R.σ):Does Tryd.prog R 73 [.int .i64 a,.ref 0 0] [.cells false 1 (fun _=>.int .u64 on)] g (.ret (.bool (!on.testBit a.toNat))) [.cells false 1 (fun _=>.int .u64 on)] g:=by
 refine az (nt:=8) (rs:=[.tmp 3]) (k0:=1) (by kernel_rfl) (by kernel_rfl) (by kernel_rfl) rfl ?_
 refine vcQ [] (lkL [(0,[0,1]),(1,[3])]) (lkL [(1,[(2,ROrc.pcall (AV.bool (Nat.testBit on (a.toNat))))])]) (fun Q=>1<=1/\(∀(hp:List AObj) (g:R.σ),true=true/\Does Tryd.prog R 71 [int u64 (on:Int),int i64 a] hp g (ret (AV.bool (Nat.testBit on (a.toNat)))) hp g)/\Q AEx.ret (St.mk [(3,AV.bool !Nat.testBit on (a.toNat))] [cells false 1 fun (x:Nat)=>int u64 (on:Int)] g)) (fun _=>by kernel_rfl) ⟨by omega,(fun _ _=>⟨rfl,(nv _ _ _ (by omega) (by omega) _ _)⟩),?_⟩
 refine(ax (bj _ _ rfl trivial rfl rfl rfl) (Le.refl _))
def cy (on:Nat)(a:Int):Bool:= !on.testBit a.toNat
theorem xL {U:Type}(q:U->Bool)(x:U)(r:List U)(i:Nat):aT q (x::r) i=if q x then(i:Int) else aT q r (i+1):=rfl
theorem ry (R:Res)(l:List Int)(on:Nat)(hon:on<2^24)(hl:l.length<1000000)(ha:∀a,a∈l->0<=a/\a<24)(g:R.σ):Does Tryd.prog R 103 [.ow true 0 l.length 1,.fn 73 0 (nth []) 1 (nth [.ref 1 0])] [.cells false (l.length*1) (ab l),.cells false 1 (fun _=>.int .u64 on)] g (.ret (.int .i64 (aT (cy on) l 0))) [.cells false (l.length*1) (ab l),.cells false 1 (fun _=>.int .u64 on)] g:=by
 refine az (nt:=19) (rs:=[.tmp 4]) (k0:=2) (by kernel_rfl) (by kernel_rfl) (by kernel_rfl) rfl ?_
 refine vcQ [] (lkL [(0,[0,1]),(1,[0,1,7,8])]) (fun _=>[]) (fun Q=>Wp Tryd.prog R 19 2 Rd.top (af Tryd.prog 103) [1,0,1,0] (aq Tryd.prog R 19 2 Rd.top (af Tryd.prog 103) Q [Kont.blk 0,Kont.seq [1,1]]) (St.mk [(0,ow true 0 (l.length) 1),(1,fn 73 0 (nth []) 1 (nth [ref 1 0])),(7,int i64 (l.length:Int)),(8,int i64 0)] [cells false (l.length*1) fun (a:Nat)=>ab l a,cells false 1 fun (x:Nat)=>int u64 (on:Int)] g)) (fun _=>by kernel_rfl) (?_)
 refine(bg (by kernel_rfl) (fun (i:Nat)=>⟨[(0,ow true 0 (l.length) 1),(1,fn 73 0 (nth []) 1 (nth [ref 1 0])),(7,int i64 (l.length:Int)),(8,.int .i64 (i:Int))],[cells false (l.length*1) fun (a:Nat)=>ab l a,cells false 1 fun (x:Nat)=>int u64 (on:Int)],g⟩) (fun (i:Nat)=>(i<=l.length/\aT (cy on) l 0=aT (cy on) (l.drop i) i)) (fun (i:Nat)=>(l.length-i)) 0 (bh ⟨Le.refl _,Le.refl _,Le.refl _,(Le.of_eq (by kernel_rfl)),trivial⟩ rfl rfl) ?_ (fun i hi=>?_))
 ·exact⟨Nat.zero_le _,rfl⟩
 ·obtain⟨h1,h2⟩:=hi
  rcases Nat.lt_or_ge i l.length with hlt|hge
  ·have hat:=ha _ (bN l 0 hlt)
   have hd:=gG l 0 hlt
   rw[hd,xL] at h2
   refine vcQ [] (lkL [(2,[0,1,7,8,9]),(3,[0,1,5,7,8]),(4,[0,1,5,7,8,16]),(5,[4]),(6,[0,1,7,8])]) (lkL [(4,[(5,ROrc.kcall (AV.bool !Nat.testBit on ((l.getD i 0).toNat)))])]) (fun Q=>(fun (u1:List AObj)=>(fun (u2:Int)=>(fun (u3:Int)=>(fun (u4:Bool)=>(decide (u3<u2)=true->(0<=u3/\u3<u2)/\i+1<=l.length*1/\(true=true/\Does Tryd.prog R 73 [ab l i,ref 1 0] u1 g (ret (AV.bool u4)) u1 g)/\(u4=true->Q AEx.ret (St.mk [(4,int i64 u3)] u1 g))/\(u4=false->(-9223372036854775808<=u3+1/\u3+1<=9223372036854775807)/\Q AEx.normal (St.mk [(0,ow true 0 (l.length) 1),(1,fn 73 0 (nth []) 1 (nth [ref 1 0])),(7,int i64 u2),(8,int i64 (u3+1))] u1 g)))/\(decide (u3<u2)=false->Q (AEx.exit 0) (St.mk [(0,ow true 0 (l.length) 1),(1,fn 73 0 (nth []) 1 (nth [ref 1 0])),(7,int i64 u2),(8,int i64 u3),(9,AV.bool (decide (u3<u2)))] u1 g))) (!Nat.testBit on ((l.getD i 0).toNat))) ((i:Int))) ((l.length:Int))) ([cells false (l.length*1) fun (a:Nat)=>ab l a,cells false 1 fun (x:Nat)=>int u64 (on:Int)])) (fun _=>by kernel_rfl) ⟨fun c1=>have c1:(i:Int)<(l.length:Int):=(of_decide_eq_true c1);⟨by omega,by omega,⟨rfl,(bz [1] 2 (fun R g=>rx R (on) (l.getD i 0) (by omega) (by omega) g) rfl rfl rfl (by exact⟨⟨rfl,Nat.le_refl _,fun j hj=>match j,hj with|0,_=>(Le.refl _) ⟩,trivial⟩) (by exact⟨by omega,trivial⟩) (by exact⟨au (by exact trivial),Le.refl _,trivial⟩) (by exact aw (by exact trivial)) (by exact⟨LeO.rflc,⟨rfl,Nat.le_refl _,fun j hj=>match j,hj with|0,_=>(Le.refl _) ⟩,trivial⟩))⟩,fun c2=>have c2:Nat.testBit on ((l.getD i 0).toNat)=false:=((Bool.not_eq_true' _).mp c2);?_,fun c2=>have c2:Nat.testBit on ((l.getD i 0).toNat)=true:=((Bool.not_eq_false' _).mp c2);⟨by omega,?_⟩⟩,fun c1=>have c1:¬(i:Int)<(l.length:Int):=(of_decide_eq_false c1);?_⟩
   ·have hq:cy on (l.getD i 0)=true:=by unfold cy;rw[c2];rfl
    rw[if_pos hq] at h2
    rw[h2]
    refine⟨_,To.refl _,(ax (bj _ _ rfl trivial rfl rfl rfl) (Le.refl _))⟩
   ·have hq:cy on (l.getD i 0)=false:=by unfold cy;rw[c2];rfl
    rw[if_neg (by rw[hq];decide)] at h2
    refine(aL (i+1) (bh ⟨Le.refl _,Le.refl _,Le.refl _,(Le.of_eq (by kernel_rfl)),trivial⟩ rfl rfl) ?_ ?_)
    ·exact⟨by omega,h2⟩
    ·omega
   ·exfalso;omega
  ·have hie:i=l.length:=by omega
   subst hie
   rw[List.drop_length] at h2
   have hb:decide ((l.length:Int)<(l.length:Int))=false:=decide_eq_false (by omega)
   refine vcQ [[1,0,1,0,0,1,0,0]] (lkL [(2,[0,1,7,8,9])]) (fun _=>[]) (fun Q=>(fun (u1:Int)=>(fun (u2:St R.σ)=>(decide (u1<u1)=true->Wp Tryd.prog R 19 2 Rd.top (af Tryd.prog 103) [1,0,1,0,0,1,0,0] (aq Tryd.prog R 19 2 Rd.top (af Tryd.prog 103) Q [Kont.seq [1,0,1,0,0,1,1]]) u2)/\(decide (u1<u1)=false->Q (AEx.exit 0) u2)) (St.mk [(0,ow true 0 (l.length) 1),(1,fn 73 0 (nth []) 1 (nth [ref 1 0])),(7,int i64 u1),(8,int i64 u1),(9,AV.bool (decide (u1<u1)))] [cells false (l.length*1) fun (a:Nat)=>ab l a,cells false 1 fun (x:Nat)=>int u64 (on:Int)] g)) ((l.length:Int))) (fun _=>by kernel_rfl) ⟨fun hcc=>(nomatch (hb.symm.trans hcc)),fun _=>?_⟩
   refine⟨_,To.refl _,vcQ [] (lkL [(7,[4])]) (fun _=>[]) (fun Q=>Q AEx.ret (St.mk [(4,int i64 (-1))] [cells false (l.length*1) fun (a:Nat)=>ab l a,cells false 1 fun (x:Nat)=>int u64 (on:Int)] g)) (fun _=>by kernel_rfl) (?_)⟩
   rw[h2]
   refine(ax (bj _ _ rfl trivial rfl rfl rfl) (Le.of_eq (by kernel_rfl)))
def cr (on:Nat)(l:List Int)(j:Nat):List Int:=(l.take j).filter (fun a=>on.testBit a.toNat)
def dk (on:Nat)(l:List Int)(j:Nat):Nat->AV:=fun c=>if c<(cr on l j).length then .int .i64 ((cr on l j).getD c 0) else if j<=c then .int .i64 (l.getD c 0) else .any
theorem rz {on:Nat}{l:List Int}{j:Nat}(h:j<l.length):cr on l (j+1)=if on.testBit (l.getD j 0).toNat then cr on l j++[l.getD j 0] else cr on l j:=by
 unfold cr
 rw[List.take_add_one,List.filter_append,List.getElem?_eq_getElem h,List.getD_eq_getElem?_getD,List.getElem?_eq_getElem h]
 cases hb:on.testBit l[j].toNat <;> simp[hb]
def aH (on:Nat)(l:List Int):List Int:=l.filter (fun a=>on.testBit a.toNat)
theorem xM {on:Nat}{l:List Int}{k:Nat}(hk:k<=l.length)(h:∀j,j<k->cy on (l.getD j 0)=false):cr on l k=l.take k:=by
 unfold cr
 rw[List.filter_eq_self]
 intro a ha
 obtain⟨j,hj,e⟩:=List.mem_iff_getElem.1 ha
 rw[List.length_take] at hj
 have:=h j (by omega)
 rw[List.getD_eq_getElem?_getD,List.getElem?_eq_getElem (by omega)] at this
 unfold cy at this
 rw[List.getElem_take] at e
 rw[<-e]
 simpa using this
theorem xN (R:Res)(l:List Int)(on:Nat)(hon:on<2^24)(hl:0<l.length/\l.length<1000000)(ha:∀a,a∈l->0<=a/\a<24)(g:R.σ):Does Tryd.prog R 72 [.ow true 0 l.length 1,.fn 73 0 (nth []) 1 (nth [.ref 1 0])] [.cells false (l.length*1) (ab l),.cells false 1 (fun _=>.int .u64 on)] g (.ret (.sl 0 0 (aH on l).length l.length false 1)) [.cells false ((aH on l).length*1) (ab (aH on l)),.cells false 1 (fun _=>.int .u64 on)] g:=by
 by_cases h0:0<=aT (cy on) l 0
 ·obtain⟨k,k1,k2,k3,k4⟩:=iJ (cy on) 0 l 0 h0
  rw[Nat.zero_add] at k2
  have hkp:=xM (by omega) k4
  refine az (nt:=42) (rs:=[.tmp 4]) (k0:=2) (by kernel_rfl) (by kernel_rfl) (by kernel_rfl) rfl ?_
  have hk1:cr on l (k+1)=l.take k:=by
   rw[rz k1,hkp,if_neg (by unfold cy at k3;simpa using k3)]
  have hkl:(cr on l (k+1)).length=k:=by rw[hk1,List.length_take];omega
  refine vcQ [] (lkL [(0,[0,1]),(1,[0,1,5]),(2,[0,1,5,12]),(3,[4]),(4,[0,1,5,6])]) (lkL [(1,[(2,ROrc.kcall (int i64 (aT (cy on) l 0)))])]) (fun Q=>(fun (u1:List AObj)=>(fun (u2:Int)=>(fun (u3:AV)=>(true=true/\Does Tryd.prog R 103 [u3,fn 73 0 (nth []) 1 (nth [ref 1 0])] u1 g (ret (int i64 u2)) u1 g)/\((u2 == -1)=true->Q AEx.ret (St.mk [(4,u3)] u1 g))/\((u2 == -1)=false->(-9223372036854775808<=u2+1/\u2+1<=9223372036854775807)/\Wp Tryd.prog R 42 2 Rd.top (af Tryd.prog 72) [1,1,1,0,1,0] (aq Tryd.prog R 42 2 Rd.top (af Tryd.prog 72) Q [Kont.blk 0,Kont.seq [1,1,1,1]]) (St.mk [(0,u3),(1,fn 73 0 (nth []) 1 (nth [ref 1 0])),(5,int i64 u2),(6,int i64 (u2+1))] u1 g))) (ow true 0 (l.length) 1)) (aT (cy on) l 0)) ([cells false (l.length*1) fun (a:Nat)=>ab l a,cells false 1 fun (x:Nat)=>int u64 (on:Int)])) (fun _=>by kernel_rfl) ⟨⟨rfl,(ry _ _ _ (by omega) (by omega) (by omega) _)⟩,fun c1=>have c1:aT (cy on) l 0 = -1:=(beq_iff_eq.mp c1);?_,fun c1=>have c1:¬aT (cy on) l 0 = -1:=(beq_eq_false_iff_ne.mp c1);⟨by omega,?_⟩⟩
  ·exact absurd c1 (by omega)
  ·rw[k2]
   refine(bg (by kernel_rfl) (fun (x:Nat)=>⟨[(0,ow true 0 (l.length) 1),(1,fn 73 0 (nth []) 1 (nth [ref 1 0])),(5,.int .i64 (cr on l x).length),(6,.int .i64 x)],[.cells false (l.length*1) (dk on l x),.cells false 1 (fun _=>.int .u64 on)],g⟩) (fun (x:Nat)=>(x<=l.length/\(cr on l x).length<x)) (fun (x:Nat)=>(l.length-x)) (k+1) (aX ⟨Le.refl _,Le.refl _,(Le.of_eq ?_),(Le.of_eq (by kernel_rfl)),trivial⟩ ⟨?_,LeO.rflc,trivial⟩ rfl) ?_ (fun x hi=>?_))
   ·show AV.int .i64 _=AV.int .i64 _
    rw[hkl]
   ·refine⟨rfl,Nat.le_refl _,fun c hc=>?_⟩
    show Le (ab l c) (dk on l (k+1) c)
    unfold dk
    rw[hkl]
    split
    ·refine Le.of_eq ?_
     show AV.int .i64 _=AV.int .i64 _
     rw[hk1,List.getD_eq_getElem?_getD,List.getD_eq_getElem?_getD,List.getElem?_take,if_pos (by omega)]
    ·split
     ·exact Le.refl _
     ·exact Le.any _
   ·exact⟨by omega,by omega⟩
   ·obtain⟨h1,h2⟩:=hi
    rcases Nat.lt_or_ge x l.length with hlt|hge
    ·have hat:=ha _ (bN l 0 hlt)
     have hks:=rz (on:=on) hlt
     have hdx:dk on l x x=.int .i64 (l.getD x 0):=by
      unfold dk
      rw[if_neg (by omega),if_pos (Nat.le_refl _)]
     refine vcQ [] (lkL [(5,[0,1,5,6,19]),(7,[0,1,5,6,7]),(8,[0,1,5,6,7,29]),(9,[0,1,5,6]),(10,[0,1,5,6]),(6,[0,1,5,6])]) (lkL [(7,[(3,ROrc.kop (int i64 (l.getD x 0)))]),(8,[(2,ROrc.kcall (AV.bool !Nat.testBit on ((l.getD x 0).toNat)))])]) (fun Q=>(fun (u1:List AObj)=>(fun (u2:Int)=>(fun (u3:Int)=>(fun (u4:Int)=>(fun (u5:List (Nat × AV))=>(fun (u6:Bool)=>(fun (u7:AV)=>(decide (u4<u3)=true->(0<=u4/\u4<u3)/\OpOk Tryd.prog R (Oper.mk (some 25) (Op.load 3 (Operand.tmp 24)) 3 "slices.go:248" #[Edge.mk 2 Ground.data] none) (evO [Row.mk (some 24) none (ref 0 x) false (some []) [],Row.mk (some 23) none (int i64 u4) false (some []) [],Row.mk (some 22) none u7 false (some []) []] u5 []) u1 g (ab l x) u1 g/\(true=true/\Does Tryd.prog R 73 [ab l x,ref 1 0] u1 g (ret (AV.bool u6)) u1 g)/\((!u6)=true->(0<=u2/\u2<u3)/\(cr on l x).length+1<=l.length*1/\(-9223372036854775808<=u2+1/\u2+1<=9223372036854775807)/\(-9223372036854775808<=u4+1/\u4+1<=9223372036854775807)/\Q AEx.normal (St.mk [(0,u7),(1,fn 73 0 (nth []) 1 (nth [ref 1 0])),(5,int i64 (u2+1)),(6,int i64 (u4+1))] [cells false (l.length*1) (ah (dk on l x) ((cr on l x).length) 1 fun (x_3:Nat)=>ab l x),cells false 1 fun (x:Nat)=>int u64 (on:Int)] g))/\((!u6)=false->(-9223372036854775808<=u4+1/\u4+1<=9223372036854775807)/\Q AEx.normal (St.mk [(0,u7),(1,fn 73 0 (nth []) 1 (nth [ref 1 0])),(5,int i64 u2),(6,int i64 (u4+1))] u1 g)))/\(decide (u4<u3)=false->Q (AEx.exit 0) (St.mk u5 u1 g))) (ow true 0 (l.length) 1)) (!Nat.testBit on ((l.getD x 0).toNat))) ([(0,ow true 0 (l.length) 1),(1,fn 73 0 (nth []) 1 (nth [ref 1 0])),(5,int i64 u2),(6,int i64 u4),(19,AV.bool (decide (u4<u3)))])) ((x:Int))) ((l.length:Int))) ((↑((cr on l x).length):Int))) ([cells false (l.length*1) (dk on l x),cells false 1 fun (x:Nat)=>int u64 (on:Int)])) (fun _=>by kernel_rfl) ⟨fun c1=>have c1:(x:Int)<(l.length:Int):=(of_decide_eq_true c1);⟨by omega,?_,⟨rfl,(bz [1] 2 (fun R g=>rx R (on) (l.getD x 0) (by omega) (by omega) g) rfl rfl rfl (by exact⟨⟨rfl,Nat.le_refl _,fun j hj=>match j,hj with|0,_=>(Le.refl _) ⟩,trivial⟩) (by exact⟨by omega,trivial⟩) (by exact⟨au (by exact trivial),Le.refl _,trivial⟩) (by exact aw (by exact trivial)) (by exact⟨LeO.rflc,⟨rfl,Nat.le_refl _,fun j hj=>match j,hj with|0,_=>(Le.refl _) ⟩,trivial⟩))⟩,fun c2=>have c2:Nat.testBit on ((l.getD x 0).toNat)=true:=((Bool.not_eq_false' _).mp ((Bool.not_eq_true' _).mp c2));⟨by omega,by omega,by omega,by omega,?_⟩,fun c2=>have c2:Nat.testBit on ((l.getD x 0).toNat)=false:=((Bool.not_eq_true' _).mp ((Bool.not_eq_false' _).mp c2));⟨by omega,?_⟩⟩,fun c1=>have c1:¬(x:Int)<(l.length:Int):=(of_decide_eq_false c1);?_⟩
     ·exact fF rfl rfl (by kernel_rfl) rfl (by show _+1<=_;omega) hdx
     ·rw[if_pos c2] at hks
      refine(aL (x+1) (aX ⟨Le.refl _,Le.refl _,(Le.of_eq ?_),(Le.of_eq (by kernel_rfl)),trivial⟩ ⟨?_,LeO.rflc,trivial⟩ rfl) ?_ ?_)
      ·show AV.int .i64 _=AV.int .i64 _
       rw[hks,List.length_append]
       rfl
      ·refine⟨rfl,Nat.le_refl _,fun c hc=>?_⟩
       rw[cL]
       unfold dk
       rw[hks,List.length_append,List.length_singleton]
       rcases Nat.lt_trichotomy c (cr on l x).length with h|h|h
       ·rw[if_neg (by omega),if_pos h,if_pos (by omega),List.getD_eq_getElem?_getD,List.getD_eq_getElem?_getD,List.getElem?_append_left h]
        exact Le.refl _
       ·subst h
        rw[if_pos (by omega),if_pos (by omega),List.getD_eq_getElem?_getD,List.getElem?_append_right (Nat.le_refl _),Nat.sub_self]
        exact Le.refl _
       ·rw[if_neg (show ¬((cr on l x).length<=c/\c<(cr on l x).length+1) by omega),if_neg (show ¬c<(cr on l x).length by omega),if_neg (show ¬c<(cr on l x).length+1 by omega)]
        by_cases h3:x+1<=c
        ·rw[if_pos (show x<=c by omega),if_pos h3];exact Le.refl _
        ·rw[if_neg h3];exact Le.any _
      ·refine⟨by omega,?_⟩
       rw[hks,List.length_append,List.length_singleton]
       omega
      ·omega
     ·rw[if_neg (by rw[c2];decide)] at hks
      refine(aL (x+1) (aX ⟨Le.refl _,Le.refl _,(Le.of_eq ?_),(Le.of_eq (by kernel_rfl)),trivial⟩ ⟨?_,LeO.rflc,trivial⟩ rfl) ?_ ?_)
      ·show AV.int .i64 _=AV.int .i64 _
       rw[hks]
      ·refine⟨rfl,Nat.le_refl _,fun c hc=>?_⟩
       unfold dk
       rw[hks]
       by_cases h:c<(cr on l x).length
       ·rw[if_pos h,if_pos h];exact Le.refl _
       ·rw[if_neg h,if_neg h]
        by_cases h3:x+1<=c
        ·rw[if_pos (by omega),if_pos h3];exact Le.refl _
        ·rw[if_neg h3];exact Le.any _
      ·refine⟨by omega,?_⟩
       rw[hks]
       omega
      ·omega
     ·exfalso;omega
    ·have hxe:x=l.length:=by omega
     subst hxe
     have hkk:cr on l l.length=aH on l:=by unfold cr aH;rw[List.take_length]
     rw[hkk] at h2 ⊢
     have hb:decide ((l.length:Int)<(l.length:Int))=false:=decide_eq_false (by omega)
     refine vcQ [[1,1,1,0,1,0,0,0,1,0]] (lkL [(5,[0,1,5,6,19])]) (fun _=>[]) (fun Q=>(fun (u1:Int)=>(fun (u2:St R.σ)=>(decide (u1<u1)=true->Wp Tryd.prog R 42 2 Rd.top (af Tryd.prog 72) [1,1,1,0,1,0,0,0,1,0] (aq Tryd.prog R 42 2 Rd.top (af Tryd.prog 72) Q [Kont.seq [1,1,1,0,1,0,0,1]]) u2)/\(decide (u1<u1)=false->Q (AEx.exit 0) u2)) (St.mk [(0,ow true 0 (l.length) 1),(1,fn 73 0 (nth []) 1 (nth [ref 1 0])),(5,int i64 (↑((aH on l).length):Int)),(6,int i64 u1),(19,AV.bool (decide (u1<u1)))] [cells false (l.length*1) (dk on l (l.length)),cells false 1 fun (x:Nat)=>int u64 (on:Int)] g)) ((l.length:Int))) (fun _=>by kernel_rfl) ⟨fun hcc=>(nomatch (hb.symm.trans hcc)),fun _=>?_⟩
     refine⟨_,To.refl _,vcQ [] (lkL [(11,[0,5]),(12,[4])]) (lkL [(11,[(3,ROrc.own any [cells false ((aH on l).length*1) (dk on l (l.length)),cells false 1 fun (x:Nat)=>int u64 (on:Int)] g)])]) (fun Q=>(fun (u1:Nat)=>(fun (u2:Int)=>(fun (u3:AObj)=>(fun (u4:Int)=>l.length<=l.length/\(0<=u4/\u4<=u2)/\u1<l.length/\OpOk Tryd.prog R (Oper.mk none (Op.call (Call.mk (Callee.builtin Builtin.clear) #[Operand.tmp 38] #[53])) 0 "slices.go:253" #[Edge.mk 2 Ground.data] none) (evO [Row.mk (some 38) none (sl 0 (u1*1) (l.length-u1) (l.length-u1) false 1) false (some []) [],Row.mk (some 37) none (int i64 u4) false (some []) [],Row.mk (some 36) none (ow true 0 (l.length) 1) false (some []) []] [(0,ow true 0 (l.length) 1),(1,fn 73 0 (nth []) 1 (nth [ref 1 0])),(5,int i64 u4),(6,int i64 u2),(19,AV.bool (decide (u2<u2)))] []) [cells false (l.length*1) (dk on l (l.length)),u3] g any [cells false (u1*1) (dk on l (l.length)),u3] g/\(0<=u4/\u4<=u2)/\0<l.length/\Q AEx.ret (St.mk [(4,sl 0 0 (u1-0) (l.length-0) false 1)] [cells false (u1*1) (dk on l (l.length)),u3] g)) ((u1:Int))) (cells false 1 fun (x:Nat)=>int u64 (on:Int))) ((l.length:Int))) ((aH on l).length)) (fun _=>by kernel_rfl) ⟨by omega,by omega,by omega,?_,by omega,by omega,?_⟩⟩
     ·obtain⟨ei,hei⟩:=vp (ty:=aD Tryd.prog) (t:=53) (es:=1) (by kernel_rfl)
      refine qQ (vo (t:=53) (es:=1) (N:=l.length*1) (len:=l.length-(aH on l).length) (get0:=dk on l l.length) rfl rfl rfl rfl rfl rfl hei (by omega) (Nat.le_refl _) (by decide) (by omega)) rfl
     ·show bw Tryd.prog R 2 _ _ _ _ .ret _
      refine dh (.sl 0 0 ((aH on l).length-0) (l.length-0) false 1) _ rfl trivial (aX ⟨Le.refl _,trivial⟩ ⟨⟨rfl,Nat.le_refl _,fun c hc=>Le.of_eq ?_⟩,LeO.refl _,trivial⟩ rfl)
      show dk on l l.length c=ab (aH on l) c
      unfold dk
      rw[hkk,if_pos (by omega)]
      rfl
 ·have hm:=q6 (cy on) l 0 h0
  have hk:aH on l=l:=by
   unfold aH
   rw[List.filter_eq_self]
   intro a ha
   have:=hm.2 a ha
   unfold cy at this
   simpa using this
  rw[hk]
  refine az (nt:=42) (rs:=[.tmp 4]) (k0:=2) (by kernel_rfl) (by kernel_rfl) (by kernel_rfl) rfl ?_
  refine vcQ [] (lkL [(0,[0,1]),(1,[0,1,5]),(2,[0,1,5,12]),(3,[4]),(4,[0,1,5,6])]) (lkL [(1,[(2,ROrc.kcall (int i64 (aT (cy on) l 0)))])]) (fun Q=>(fun (u1:List AObj)=>(fun (u2:Int)=>(fun (u3:AV)=>(true=true/\Does Tryd.prog R 103 [u3,fn 73 0 (nth []) 1 (nth [ref 1 0])] u1 g (ret (int i64 u2)) u1 g)/\((u2 == -1)=true->Q AEx.ret (St.mk [(4,u3)] u1 g))/\((u2 == -1)=false->(-9223372036854775808<=u2+1/\u2+1<=9223372036854775807)/\Wp Tryd.prog R 42 2 Rd.top (af Tryd.prog 72) [1,1,1,0,1,0] (aq Tryd.prog R 42 2 Rd.top (af Tryd.prog 72) Q [Kont.blk 0,Kont.seq [1,1,1,1]]) (St.mk [(0,u3),(1,fn 73 0 (nth []) 1 (nth [ref 1 0])),(5,int i64 u2),(6,int i64 (u2+1))] u1 g))) (ow true 0 (l.length) 1)) (aT (cy on) l 0)) ([cells false (l.length*1) fun (a:Nat)=>ab l a,cells false 1 fun (x:Nat)=>int u64 (on:Int)])) (fun _=>by kernel_rfl) ⟨⟨rfl,(ry _ _ _ (by omega) (by omega) (by omega) _)⟩,fun c1=>have c1:aT (cy on) l 0 = -1:=(beq_iff_eq.mp c1);?_,fun c1=>have c1:¬aT (cy on) l 0 = -1:=(beq_eq_false_iff_ne.mp c1);⟨by omega,?_⟩⟩
  ·refine dh (.ow true 0 l.length 1) _ rfl trivial (aX ⟨Le.ow_sl (by omega),trivial⟩ ⟨LeO.refl _,LeO.refl _,trivial⟩ rfl)
  ·exact absurd hm.1 c1
def aI (on:Nat)(l:List Rule):List Rule:=l.filter (fun r=>on.testBit r.head.toNat)
def aS (on:Nat):List Rule->Nat->List Int
 |[],_=>[]
 |r::l,i=>if on.testBit r.head.toNat then(i:Int)::aS on l (i+1) else aS on l (i+1)
theorem od (on:Nat):∀(l:List Rule) (i:Nat),(aS on l i).length=(aI on l).length
 |[],_=>rfl
 |r::l,i=>by
  unfold aS aI
  rw[List.filter_cons]
  have ih:=od on l (i+1)
  unfold aI at ih
  split <;> simp[ih]
theorem rA (on:Nat):∀(l l':List Rule) (i:Nat),aS on (l++l') i=aS on l i++aS on l' (i+l.length)
 |[],l',i=>rfl
 |r::l,l',i=>by
  show(if on.testBit r.head.toNat then(i:Int)::aS on (l++l') (i+1) else aS on (l++l') (i+1))=(if on.testBit r.head.toNat then(i:Int)::aS on l (i+1) else aS on l (i+1))++_
  rw[rA on l l' (i+1),show i+1+l.length=i+(r::l).length by simp;omega]
  split <;> rfl
theorem rB {on:Nat}{l:List Rule}{i:Nat}(h:i<l.length):aI on (l.take (i+1))=if on.testBit (l.getD i default).head.toNat then aI on (l.take i)++[l.getD i default] else aI on (l.take i):=by
 unfold aI
 rw[List.take_add_one,List.filter_append,List.getElem?_eq_getElem h,List.getD_eq_getElem?_getD,List.getElem?_eq_getElem h]
 cases hb:on.testBit l[i].head.toNat <;> simp[hb]
theorem rC {on:Nat}{l:List Rule}{i:Nat}(h:i<l.length):aS on (l.take (i+1)) 0=if on.testBit (l.getD i default).head.toNat then aS on (l.take i) 0++[(i:Int)] else aS on (l.take i) 0:=by
 rw[List.take_add_one,List.getElem?_eq_getElem h,List.getD_eq_getElem?_getD,List.getElem?_eq_getElem h,Option.toList_some,rA,List.length_take,Nat.min_eq_left (by omega),Nat.zero_add]
 show _++(if on.testBit l[i].head.toNat then(i:Int)::[] else[])=_
 rw[Option.getD_some]
 split <;> simp
theorem lu {q:List Int}{s:Int}{c:Nat}{z:Nat->AV}(hc:c<(q.length+1)*1):ab (q++[s]) c=bc 1 q.length (fun i j=>ab q (i*1+j)) (fun i j=>ah z 0 1 (fun _=>.int .i64 s) (0+i*1+j)) c:=by
 unfold bc
 by_cases h:c<q.length*1
 ·rw[if_pos h]
  show _=ab q (c/1*1+c%1)
  rw[show c/1*1+c%1=c by omega]
  unfold ab
  rw[List.getD_eq_getElem?_getD,List.getElem?_append_left (by omega),<-List.getD_eq_getElem?_getD]
 ·rw[if_neg h]
  show _=ah z 0 1 _ (0+(c-q.length*1)/1*1+(c-q.length*1)%1)
  rw[cL,if_pos (by omega),show c=q.length by omega]
  unfold ab
  rw[List.getD_eq_getElem?_getD,List.getElem?_append_right (Nat.le_refl _),Nat.sub_self]
  rfl
theorem xO {k:Nat}(l:List Rule)(j:Nat):Below k (ba l j):=qP _ _
theorem nat1_rng:∀(k n d j:Nat),j<k->aC (rng k n) d j=n+j
 |0,_,_,_,h=>absurd h (Nat.not_lt_zero _)
 |k+1,n,d,0,_=>rfl
 |k+1,n,d,j+1,h=>by
  show aC (rng k (n+1)) d j=_
  rw[nat1_rng k (n+1) d j (by omega)]
  omega
theorem lv {n:Nat}{c:Nat->AV}(h:∀j,j<n->Below 0 (c j))(f:Nat->Nat):LeO (.cells false n c) (bP f (.cells false n c)):=⟨rfl,Nat.le_refl _,fun j hj=>au (h j hj)⟩
def cl (b:Nat)(l:List Stp):Nat->AV:=fun c=>bif Nat.beq (c%2) 0 then .int .i64 (l.getD (c/2) default).rule else .ow true (b+c/2) (l.getD (c/2) default).atoms.length 1
theorem oe {f:Nat->Nat}{b b':Nat}{l:List Stp}{c:Nat}(h:f (b+c/2)=b'+c/2):aY f (cl b l c)=cl b' l c:=by
 unfold cl
 cases Nat.beq (c%2) 0 with
 |true=>rfl
 |false=>
  show AV.ow true (f (b+c/2)) _ 1=_
  rw[h]
  rfl
theorem xP (R:Res)[hT:Tab LT R](p:Prg)(n0 n1 n2 n3:Nat)(c0 c1 c2 c3:Nat->AV)(b0:∀j,j<n0->Below 0 (c0 j))(b1:∀j,j<n1->Below 0 (c1 j))(b2:∀j,j<n2->Below 0 (c2 j))(b3:∀j,j<n3->Below 0 (c3 j))(hl:p.rules.l.length<1000000)(hr:∀r,r∈p.rules.l->aP r)(hp:b8 p)(hh:cZ p)(g:R.σ):Does Tryd.prog R 60 [ay p] [.cells false n0 c0,.cells false n1 c1,.cells false n2 c2,.cells false n3 c3] g (.ret (.tup 2 (nth [.ow true 5 (am p).1.length 2,.ref 4 0])))
  (.cells false n0 c0::.cells false n1 c1::.cells false n2 c2::.cells false n3 c3::.cells false 27 (aQ (am p).2)::.cells false ((am p).1.length*2) (cl 6 (am p).1)::bO (ac (am p).1) []) g:=by
 have hlen:=jD hp hr hh
 have h1:Does Tryd.prog R 60 [ay p] [.cells false n0 c0,.cells false n1 c1,.cells false n2 c2,.cells false n3 c3] g (.ret (.tup 2 (nth [.ow true 6 (am p).1.length 2,.ref 4 0])))
   (.cells false n0 c0::.cells false n1 c1::.cells false n2 c2::.cells false n3 c3::.cells false 27 (ai p (am p).2 (.mp 5))::.map (esF p.rules.l)::.cells false ((am p).1.length*2) (cl 7 (am p).1)::bO (ac (am p).1) []) g:=
  bp hT [] 4 (fun R _ g=>rg R p hl hr hp hh g) rfl rfl rfl trivial trivial ⟨au (by exact⟨⟨trivial,trivial⟩,trivial⟩),trivial⟩ (Le.tup (fun j hj=>match j,hj with|0,_=>Le.refl _|1,_=>Le.refl _)) ⟨LeO.refl _,LeO.refl _,LeO.refl _,LeO.refl _,LeO.cells (fun j hj=>cq (by rfl)),rfl,LeO.cells (fun c hc=>oe (b:=3) (by
   show aC ([]++rng 27 4) (4+27) (3+c/2)=7+c/2
   rw[List.nil_append,nat1_rng 27 4 31 (3+c/2) (by omega)]
   omega)),LeO.refl _,LeO.refl _,LeO.refl _,LeO.refl _,LeO.refl _,LeO.refl _,LeO.refl _,LeO.refl _,LeO.refl _,LeO.refl _,LeO.refl _,LeO.refl _,LeO.refl _,LeO.refl _,LeO.refl _,LeO.refl _,LeO.refl _,LeO.refl _,LeO.refl _,LeO.refl _,LeO.refl _,LeO.refl _,LeO.refl _,LeO.refl _,trivial⟩
 refine fE h1 (a9 [0,1,2,3,4,6,7,8,9,10,11,12,13,14,15,16,17,18,19,20,21,22,23,24,25,26,27,28,29,30] 31 rfl rfl rfl rfl rfl ⟨Le.tup (fun j hj=>match j,hj with|0,_=>Le.refl _|1,_=>Le.refl _),trivial⟩ ?_)
 refine⟨lv b0 _,lv b1 _,lv b2 _,lv b3 _,⟨rfl,Nat.le_refl _,fun j hj=>by
  show Le (ai p _ (.mp 5) j) (aY _ (aQ _ j))
  rw[dj trivial]
  exact rh⟩,LeO.cells (fun c hc=>?_),LeO.refl _,LeO.refl _,LeO.refl _,LeO.refl _,LeO.refl _,LeO.refl _,LeO.refl _,LeO.refl _,LeO.refl _,LeO.refl _,LeO.refl _,LeO.refl _,LeO.refl _,LeO.refl _,LeO.refl _,LeO.refl _,LeO.refl _,LeO.refl _,LeO.refl _,LeO.refl _,LeO.refl _,LeO.refl _,LeO.refl _,LeO.refl _,trivial⟩
 refine(oe (b:=6) (b':=7) (c:=c) ?_).symm
 have h:(List.range 24).all (fun i=>aC [0,1,2,3,4,6,7,8,9,10,11,12,13,14,15,16,17,18,19,20,21,22,23,24,25,26,27,28,29,30] 31 (6+i)==7+i)=true:=by decide +kernel
 simpa using (List.all_eq_true.1 h) (c/2) (List.mem_range.2 (by omega))
def aE (p:Prg)(on:Nat):Prg:=⟨p.atoms,aI on p.rules.l,.auto⟩
theorem rD {p:Prg}{on:Nat}{hp:List AObj}{k m o:Nat}(ho:ag hp o=.cells false ((aI on p.rules.l).length*2) (ba (aI on p.rules.l)))(hk:k<=o):av hp k m (.ow true o (aI on p.rules.l).length 2) (ae (aE p on).rules):=
 (av.ow ho hk (Nat.le_refl _) (by decide) (fun j _=>av.below (xO _ _))).le (Le.fz rfl (fun i j hi hj=>by
  show ba _ (i*2+j)=bJ _ j
  unfold ba
  rw[show(i*2+j)/2=i by omega,show(i*2+j)%2=j by omega]
  rfl))
def gl (p:Prg)(s:Stp):Prop:=(0<=s.rule->s.rule<p.rules.l.length)/\0<s.atoms.length/\s.atoms.length<=24/\∀a,a∈s.atoms->0<=a/\a<p.atoms
theorem xQ {p:Prg}{v:Nat->Int}(hp:b8 p)(hr:∀r,r∈p.rules.l->aP r)(hh:cZ p)(hb:bl p v=true):gl p (ak p v):=by
 obtain⟨h1,h2⟩:=nP (v:=v) hp hr hh
 by_cases h:0<=bm p v
 ·obtain⟨k,k1,k2,_,_⟩:=iJ (dR v) default p.rules.l 0 h
  have hn:ak p v=⟨bm p v,[(p.rules.l.getD (bm p v).toNat default).head]⟩:=if_pos h
  have hf:bm p v=k:=by unfold bm;rw[k2];simp
  refine⟨fun _=>?_,?_,h2,h1⟩
  ·rw[hn];show bm p v<_;omega
  ·rw[hn];exact Nat.zero_lt_one
 ·obtain⟨k0,k1,_,_,_⟩:=lm hp h hb
  refine⟨fun h=>?_,?_,h2,h1⟩
  ·rw[k0] at h
   exact absurd h (by show ¬(0:Int) <= -1;omega)
  ·unfold gN at k1
   rw[Bool.and_eq_true] at k1
   exact of_decide_eq_true k1.1
theorem lw {p:Prg}(hp:b8 p)(hr:∀r,r∈p.rules.l->aP r)(hh:cZ p):∀(n:Nat) (v:Nat->Int) (l:List Stp),(∀s,s∈l->gl p s)->∀s,s∈(dx p n v l).1->gl p s
 |0,_,_,h=>h
 |n+1,v,l,h=>by
  show ∀s,s∈(if bl p v then dx p n (bU v (ak p v)) (l++[ak p v]) else(l,v)).1->gl p s
  by_cases hb:bl p v=true
  ·rw[if_pos hb]
   refine lw hp hr hh n _ _ (fun s hs=>?_)
   rcases List.mem_append.1 hs with hs|hs
   ·exact h s hs
   ·have:s=ak p v:=by simpa using hs
    rw[this]
    exact xQ hp hr hh hb
  ·rw[if_neg hb]
   exact h
def d7 (nums:List Int)(s:Stp):Int:=if 0<=s.rule then nums.getD s.rule.toNat 0 else s.rule
def ad (on:Nat)(l:List Stp)(i j:Nat):AObj:=.cells false ((if j<i then aH on (l.getD j default).atoms else(l.getD j default).atoms).length*1) (ab (if j<i then aH on (l.getD j default).atoms else(l.getD j default).atoms))
def aZ (on:Nat)(l:List Stp)(i:Nat):List Nat:=(List.range i).filter (fun k=>decide (0<(aH on (l.getD k default).atoms).length))
def bG (on:Nat)(nums:List Int)(l:List Stp)(q:List Nat):Nat->AV:=fun c=>bif Nat.beq (c%2) 0 then .int .i64 (d7 nums (l.getD (q.getD (c/2) 0) default)) else .sl (6+q.getD (c/2) 0) 0 (aH on (l.getD (q.getD (c/2) 0) default).atoms).length (l.getD (q.getD (c/2) 0) default).atoms.length false 1
def gV (k:Nat):List Nat:=[0,1,2,3,4,5,6,7,8,9,10,11,12,13,14,15,16,17,18,19,20,21,22,23,24,25,26,27,28,29,k]
theorem rE {k n j:Nat}(hj:j<30):aC (gV k) n j=j:=by
 have h:j=0∨j=1∨j=2∨j=3∨j=4∨j=5∨j=6∨j=7∨j=8∨j=9∨j=10∨j=11∨j=12∨j=13∨j=14∨j=15∨j=16∨j=17∨j=18∨j=19∨j=20∨j=21∨j=22∨j=23∨j=24∨j=25∨j=26∨j=27∨j=28∨j=29:=by omega
 rcases h with rfl|rfl|rfl|rfl|rfl|rfl|rfl|rfl|rfl|rfl|rfl|rfl|rfl|rfl|rfl|rfl|rfl|rfl|rfl|rfl|rfl|rfl|rfl|rfl|rfl|rfl|rfl|rfl|rfl|rfl <;> rfl
theorem jN {f:Nat->AObj}{x0 x1 x2 x3 x4 x5:AObj}{r:List AObj}{a:Nat}(ha:a<24):ag (x0::x1::x2::x3::x4::x5::bO f r) (6+a)=f a:=by
 rw[show 6+a=a+6 by omega]
 exact ld ha
theorem rF {f:Nat->AObj}{x0 x1 x2 x3 x4 x5:AObj}{r:List AObj}{a:Nat}:ag (x0::x1::x2::x3::x4::x5::bO f r) (30+a)=ag r a:=by
 rw[show 30+a=a+30 by omega]
 rfl
theorem xR {on:Nat}{l:List Stp}{i j:Nat}(h:j≠i):ad on l (i+1) j=ad on l i j:=by
 unfold ad
 by_cases hj:j<i
 ·rw[if_pos hj,if_pos (show j<i+1 by omega)]
 ·rw[if_neg hj,if_neg (show ¬j<i+1 by omega)]
theorem xS {on:Nat}{l:List Stp}{i:Nat}:ad on l i i=.cells false ((l.getD i default).atoms.length*1) (ab (l.getD i default).atoms):=by
 unfold ad
 rw[if_neg (Nat.lt_irrefl i)]
theorem xT {on:Nat}{l:List Stp}{i:Nat}:ad on l (i+1) i=.cells false ((aH on (l.getD i default).atoms).length*1) (ab (aH on (l.getD i default).atoms)):=by
 unfold ad
 rw[if_pos (Nat.lt_succ_self i)]
theorem rG (R:Res)(on:Nat)(L:List Stp)(i:Nat)(x0 x2 x3 x4 x5 o30 o31:AObj)(hi:i<24)(hon:on<2^24)(hl:0<(L.getD i default).atoms.length/\(L.getD i default).atoms.length<1000000)(ha:∀a,a∈(L.getD i default).atoms->0<=a/\a<24)(g:R.σ) :
  Does Tryd.prog R 72 [.ow true (6+i) (L.getD i default).atoms.length 1,.fn 73 0 (nth []) 1 (nth [.ref 1 0])] (x0::.cells false 1 (fun _=>.int .u64 on)::x2::x3::x4::x5::bO (ad on L i) [o30,o31]) g
   (.ret (.sl (6+i) 0 (aH on (L.getD i default).atoms).length (L.getD i default).atoms.length false 1)) (x0::.cells false 1 (fun _=>.int .u64 on)::x2::x3::x4::x5::bO (ad on L (i+1)) [o30,o31]) g:=by
 have hlt:cd [6+i,1] 32=true:=by
  show(Nat.blt (6+i) 32&&(Nat.blt 1 32&&true))=true
  rw[show Nat.blt (6+i) 32=true by rw[Nat.blt_eq];omega]
  rfl
 have hnd:dp [6+i,1]=true:=by
  show(!(bif Nat.beq (6+i) 1 then true else false)&&(!false&&true))=true
  rw[nR (show 6+i≠1 by omega)]
  rfl
 refine bz [6+i,1] 32 (fun R g=>xN R (L.getD i default).atoms on hon hl ha g) rfl hlt hnd ⟨?_,LeO.refl _,trivial⟩ ⟨by omega,by omega,trivial⟩ ⟨Le.refl _,Le.fn (fun i hi=>absurd hi (Nat.not_lt_zero _)) (fun i hi=>match i,hi with|0,_=>Le.refl _),trivial⟩ (Le.refl _) ?_
 ·rw[jN hi,xS]
  exact LeO.refl _
 ·refine nc (by rw[jn];rfl) (fun x hx=>?_) (fun x hx=>?_) ⟨?_,LeO.refl _,trivial⟩
  ·rw[jn]
   show x<32
   rcases List.mem_cons.1 hx with h|h
   ·omega
   ·have:x=1:=by simpa using h
    omega
  ·rw[ne _ _ _ hx]
   have hx1:x≠6+i:=fun e=>hx (by rw[e];exact List.mem_cons_self)
   rcases Nat.lt_or_ge x 6 with h|h
   ·match x,h with
    |0,_=>exact LeO.refl _
    |1,_=>exact LeO.refl _
    |2,_=>exact LeO.refl _
    |3,_=>exact LeO.refl _
    |4,_=>exact LeO.refl _
    |5,_=>exact LeO.refl _
   ·rcases Nat.lt_or_ge x 30 with h2|h2
    ·obtain⟨a,rfl⟩:∃a,x=6+a:=⟨x-6,by omega⟩
     rw[jN (by omega),jN (by omega),xR (by omega)]
     exact LeO.refl _
    ·obtain⟨a,rfl⟩:∃a,x=30+a:=⟨x-30,by omega⟩
     rw[rF,rF]
     exact LeO.refl _
  ·rw[jN hi,xT]
   exact LeO.refl _
theorem rH {L:List Stp}{i:Nat}:Le (.agg 2 (fun j=>cl 6 L (j+i*2))) (.agg 2 (nth [.int .i64 (L.getD i default).rule,.ow true (6+i) (L.getD i default).atoms.length 1])):=by
 refine Le.agg (fun j hj=>Le.of_eq ?_)
 unfold cl
 match j,hj with
 |0,_=>
  rw[show(0+i*2)%2=0 by omega,show(0+i*2)/2=i by omega]
  rfl
 |1,_=>
  rw[show(1+i*2)%2=1 by omega,show(1+i*2)/2=i by omega]
  rfl
theorem rI {on:Nat}{nums:List Int}{l:List Stp}{q:List Nat}{i c:Nat}{z:Nat->AV}(hc:c<(q.length+1)*2):bG on nums l (q++[i]) c=bc 2 q.length (fun a j=>bG on nums l q (a*2+j)) (fun a j=>ah z 0 2 (nth [.int .i64 (d7 nums (l.getD i default)),.sl (6+i) 0 (aH on (l.getD i default).atoms).length (l.getD i default).atoms.length false 1]) (0+a*2+j)) c:=by
 unfold bc
 by_cases h:c<q.length*2
 ·rw[if_pos h]
  show _=bG on nums l q (c/2*2+c%2)
  rw[show c/2*2+c%2=c by omega]
  unfold bG
  rw[List.getD_eq_getElem?_getD (l:=q++[i]),List.getElem?_append_left (by omega),<-List.getD_eq_getElem?_getD]
 ·rw[if_neg h]
  show _=ah z 0 2 _ (0+(c-q.length*2)/2*2+(c-q.length*2)%2)
  rw[cL,if_pos (by omega)]
  unfold bG
  rw[show c/2=q.length by omega,List.getD_eq_getElem?_getD (l:=q++[i]),List.getElem?_append_right (Nat.le_refl _),Nat.sub_self]
  have h2:c=q.length*2∨c=q.length*2+1:=by omega
  rcases h2 with rfl|rfl
  ·rw[show q.length*2%2=0 by omega,show 0+(q.length*2-q.length*2)/2*2+(q.length*2-q.length*2)%2-0=0 by omega]
   rfl
  ·rw[show(q.length*2+1)%2=1 by omega,show 0+(q.length*2+1-q.length*2)/2*2+(q.length*2+1-q.length*2)%2-0=1 by omega]
   rfl
theorem jO {on:Nat}{l:List Stp}{i:Nat}:aZ on l (i+1)=if 0<(aH on (l.getD i default).atoms).length then aZ on l i++[i] else aZ on l i:=by
 have e:([i].filter (fun k=>decide (0<(aH on (l.getD k default).atoms).length)))=if 0<(aH on (l.getD i default).atoms).length then[i] else[]:=by
  rw[List.filter_cons,List.filter_nil]
  by_cases h:0<(aH on (l.getD i default).atoms).length
  ·rw[if_pos h,decide_eq_true h];rfl
  ·rw[if_neg h,decide_eq_false h];rfl
 unfold aZ
 rw[List.range_succ,List.filter_append,e]
 by_cases h:0<(aH on (l.getD i default).atoms).length
 ·rw[if_pos h,if_pos h]
 ·rw[if_neg h,if_neg h,List.append_nil]
theorem xU {on:Nat}{l:List Stp}{i c:Nat}(hi:0<i):(aZ on l i).getD c 0<i:=by
 rcases Nat.lt_or_ge c (aZ on l i).length with h|h
 ·have:=bN (aZ on l i) 0 h
  have h2:=(List.mem_filter.1 this).1
  exact List.mem_range.1 h2
 ·rw[List.getD_eq_getElem?_getD,List.getElem?_eq_none h]
  exact hi
theorem xV {f:Nat->Nat}{on:Nat}{nums:List Int}{l:List Stp}{q:List Nat}{c:Nat}(h:f (6+q.getD (c/2) 0)=6+q.getD (c/2) 0):aY f (bG on nums l q c)=bG on nums l q c:=by
 unfold bG
 cases Nat.beq (c%2) 0 with
 |true=>rfl
 |false=>
  show AV.sl (f (6+q.getD (c/2) 0)) 0 _ _ false 1=AV.sl (6+q.getD (c/2) 0) 0 _ _ false 1
  rw[h]
def xW (p:Prg)(on:Nat)(NU:List Int)(V:Nat->Int)(L:List Stp)(i m:Nat):List AObj:=.cells false 2 (nth [.int .i64 p.atoms,ae p.rules])::.cells false 1 (fun _=>.int .u64 on)::.cells false 2 (nth [.int .i64 p.atoms,ae (aE p on).rules])::.cells false ((aI on p.rules.l).length*1) (ab NU)::.cells false 27 (aQ V)::.cells false (L.length*2) (cl 6 L)::bO (ad on L i) [.cells false (m*2) (bG on NU L (aZ on L i))]
theorem lx {p:Prg}{on:Nat}{NU:List Int}{V:Nat->Int}{L:List Stp}{i m k n:Nat}{r:List AObj}(hL:L.length<=24)(hi:i<24)(hm:m=(aZ on L (i+1)).length)(hk:ag (.cells false 2 (nth [.int .i64 p.atoms,ae p.rules])::.cells false 1 (fun _=>.int .u64 on)::.cells false 2 (nth [.int .i64 p.atoms,ae (aE p on).rules])::.cells false ((aI on p.rules.l).length*1) (ab NU)::.cells false 27 (aQ V)::.cells false (L.length*2) (cl 6 L)::bO (ad on L (i+1)) r) k=.cells false (m*2) (bG on NU L (aZ on L (i+1)))) :
  dO (aC (gV k) n) (.cells false 2 (nth [.int .i64 p.atoms,ae p.rules])::.cells false 1 (fun _=>.int .u64 on)::.cells false 2 (nth [.int .i64 p.atoms,ae (aE p on).rules])::.cells false ((aI on p.rules.l).length*1) (ab NU)::.cells false 27 (aQ V)::.cells false (L.length*2) (cl 6 L)::bO (ad on L (i+1)) r) (gV k) (xW p on NU V L (i+1) m):=by
 refine⟨lg,LeO.refl _,lg,LeO.refl _,LeO.cells (fun j hj=>(dj trivial).symm),LeO.cells (fun c hc=>(oe (b:=6) (b':=6) (c:=c) (rE (by omega))).symm),LeO.refl _,LeO.refl _,LeO.refl _,LeO.refl _,LeO.refl _,LeO.refl _,LeO.refl _,LeO.refl _,LeO.refl _,LeO.refl _,LeO.refl _,LeO.refl _,LeO.refl _,LeO.refl _,LeO.refl _,LeO.refl _,LeO.refl _,LeO.refl _,LeO.refl _,LeO.refl _,LeO.refl _,LeO.refl _,LeO.refl _,LeO.refl _,?_,trivial⟩
 rw[hk]
 refine LeO.cells (fun c hc=>(xV (rE ?_)).symm)
 have:=xU (on:=on) (l:=L) (i:=i+1) (c:=c/2) (by omega)
 omega
def cF (on:Nat)(nums:List Int)(l:List Stp):KL Step:=⟨(aZ on l l.length).map (fun k=>⟨d7 nums (l.getD k default),aH on (l.getD k default).atoms,.opn⟩),.auto⟩
theorem xX {hp:List AObj}{on:Nat}{NU:List Int}{L:List Stp}{m:Nat}(hm:m=(aZ on L L.length).length)(hL:L.length<=24)(h30:ag hp 30=.cells false (m*2) (bG on NU L (aZ on L L.length)))(hin:∀k,k<L.length->ag hp (6+k)=ad on L L.length k):av hp 0 0 (.ow true 30 m 2) (aJ (cF on NU L)):=by
 subst hm
 refine av.le (av.ow h30 (Nat.zero_le _) (Nat.le_refl _) (by decide) (get:=fun c=>bif Nat.beq (c%2) 0 then .int .i64 (d7 NU (L.getD ((aZ on L L.length).getD (c/2) 0) default)) else ap ⟨aH on (L.getD ((aZ on L L.length).getD (c/2) 0) default).atoms,.opn⟩) (fun c hc=>?_)) ?_
 ·unfold bG
  cases Nat.beq (c%2) 0 with
  |true=>exact av.below trivial
  |false=>
   have hc2:c/2<(aZ on L L.length).length:=by omega
   obtain⟨k,hk⟩:∃k,(aZ on L L.length).getD (c/2) 0=k:=⟨_,rfl⟩
   have hmem:=bN (aZ on L L.length) 0 hc2
   rw[hk] at hmem
   have hk2:=List.mem_filter.1 hmem
   have hkl:k<L.length:=List.mem_range.1 hk2.1
   have hpos:0<(aH on (L.getD k default).atoms).length:=of_decide_eq_true hk2.2
   have hle:(aH on (L.getD k default).atoms).length<=(L.getD k default).atoms.length:=List.length_filter_le _ _
   rw[hk]
   have h6:=hin k hkl
   unfold ad at h6
   rw[if_pos hkl] at h6
   exact(av.sl h6 (Nat.zero_le _) (by omega) hle (by decide) (fun j _=>av.below (bo _ _))).le (Le.fz rfl (fun i j hi hj=>by
    show ab _ (0+i*1+j)=AV.int .i64 _
    rw[show 0+i*1+j=i by omega]
    rfl))
 ·have hl2:(cF on NU L).l.length=(aZ on L L.length).length:=by unfold cF;rw[List.length_map]
  refine Le.fz hl2.symm (fun i j hi hj=>?_)
  have hg:(cF on NU L).l.getD i default=⟨d7 NU (L.getD ((aZ on L L.length).getD i 0) default),aH on (L.getD ((aZ on L L.length).getD i 0) default).atoms,.opn⟩:=by
   unfold cF
   rw[List.getD_eq_getElem?_getD,List.getElem?_map,List.getElem?_eq_getElem hi,List.getD_eq_getElem?_getD (l:=aZ on L L.length),List.getElem?_eq_getElem hi]
   rfl
  show _=co _ j
  rw[hg]
  show(bif Nat.beq ((i*2+j)%2) 0 then _ else _)=_
  rw[show(i*2+j)%2=j by omega,show(i*2+j)/2=i by omega]
  match j,hj with
  |0,_=>rfl
  |1,_=>rfl
theorem rJ (R:Res)[Tab LT R](p:Prg)(goal:Int)(hb:aR p=true)(hg:0<=goal/\goal<p.atoms)(g:R.σ):Does Tryd.prog R 25 [ay p,.int .i64 goal] [] g (.ret (.tup 3 (nth [.int .i64 ((am (aE p (hgP p goal.toNat))).2 goal.toNat),aJ (cF (hgP p goal.toNat) (aS (hgP p goal.toNat) p.rules.l 0) (am (aE p (hgP p goal.toNat))).1),.int .i64 0]))) [] g:=by
 obtain⟨hl,hr,hp,hh,hx⟩:=ff hb
 have hs:em p:=iK hb
 have hp':1<=p.atoms/\p.atoms<=24:=hp
 have hroom:aG=140737488355328:=rfl
 have hlt:hgP p goal.toNat<2^24:=gT hr (by omega)
 refine az (nt:=98) (rs:=[.tmp 4,.tmp 5,.tmp 6]) (k0:=0) (by kernel_rfl) (by kernel_rfl) (by kernel_rfl) rfl ?_
 have hc:(bif ((if aR p then(0:Int) else 2) != 0) then true else !decide (0<=goal/\goal<=p.atoms-1))=false:=by
  rw[hb,decide_eq_true (by omega)]
  rfl
 refine vcQ [[1,0,1,0]] (lkL [(0,[1,2]),(1,[1,2,27]),(3,[1,2,7]),(4,[1,2,7,8]),(5,[1,2,7,8,9]),(6,[1,7,8,9,35,36,37])]) (lkL [(1,[(1,ROrc.pcall (int i64 (if aR p=true then 0 else 2))),(8,ROrc.pcall (AV.bool (decide (0<=goal/\goal<=p.atoms-1))))]),(3,[(2,ROrc.pcall (int u64 (↑(hgP p (goal.toNat)):Int))),(4,ROrc.val (Orc.obj (nth [int u64 (↑(hgP p (goal.toNat)):Int)])))]),(4,[(4,ROrc.val (Orc.obj (nth [int i64 p.atoms,fz Fz.nil 0 0 fun _ _=>any])))])]) (fun Q=>(fun (u1:Bool)=>(fun (u2:AV)=>(fun (u3:AV)=>(fun (u4:Int)=>(fun (u5:AV)=>2<=2/\(∀(hp:List AObj) (g:R.σ),true=true/\Does Tryd.prog R 16 [ay p] hp g (ret (int i64 u4)) hp g)/\((!u4 != 0)=true->1<=2)/\((!u4 != 0)=true -> -9223372036854775808<=p.atoms-1/\p.atoms-1<=9223372036854775807)/\((!u4 != 0)=true->∀(hp:List AObj) (g:R.σ),true=true/\Does Tryd.prog R 58 [int i64 goal,int i64 0,int i64 (p.atoms-1)] hp g (ret (AV.bool (decide (0<=goal/\goal<=p.atoms-1)))) hp g)/\(u1=true->Wp Tryd.prog R 98 0 Rd.top (af Tryd.prog 25) [1,0,1,0] (aq Tryd.prog R 98 0 Rd.top (af Tryd.prog 25) Q [Kont.seq [1,1]]) (St.mk [(1,int i64 goal),(2,ref 0 0),(27,AV.bool u1)] [cells false 2 (nth [u5,ae p.rules])] g))/\(u1=false->2<=2/\(∀(hp:List AObj) (g:R.σ),true=true/\Does Tryd.prog R 70 [ay p,int i64 goal] hp g (ret u3) hp g)/\1<=1/\(∀(c:Nat),c<1->nth [u3] c=ah (fun (a:Nat)=>int u64 0) 0 1 (fun (x:Nat)=>u3) c)/\1<=2/\2<=2/\(∀(c:Nat),c<2->nth [u5,u2] c=ah (nth [int i64 0,u2]) 0 2 (List.brecOn (motive:=fun (x:List AV)=>Nat->AV) [u5,u2] nth._f) c)/\2<=2/\Wp Tryd.prog R 98 0 Rd.top (af Tryd.prog 25) [1,1,1,1,1,0,1,0] (aq Tryd.prog R 98 0 Rd.top (af Tryd.prog 25) Q [Kont.blk 0,Kont.seq [1,1,1,1,1,1]]) (St.mk [(1,int i64 goal),(7,ref 1 0),(8,ref 2 0),(9,u2),(35,ae p.rules),(36,int i64 (p.rules.l.length:Int)),(37,int i64 0)] [cells false 2 (nth [u5,ae p.rules]),cells false 1 (nth [u3]),cells false 2 (nth [u5,u2])] g))) (int i64 p.atoms)) (if aR p=true then 0 else 2)) (int u64 (↑(hgP p (goal.toNat)):Int))) (fz Fz.nil 0 0 fun _ _=>any)) (bif (if aR p=true then 0 else 2) != 0 then true else !decide (0<=goal/\goal<=p.atoms-1))) (fun _=>by kernel_rfl) ⟨by omega,(fun _ _=>⟨rfl,(f9 _ _ _ _ (by omega))⟩),by omega,by omega,(fun hgd=>(fun _ _=>⟨rfl,(dZ _ _ _ _ _ _)⟩)),fun hcc=>(nomatch (hc.symm.trans hcc)),fun _=>⟨by omega,(fun _ _=>⟨rfl,(rk _ _ _ (by omega) (by omega) (by omega) _ _)⟩),by omega,(fun c hc=>match c,hc with|0,_=>(by kernel_rfl) ),by omega,by omega,(fun c hc=>match c,hc with|0,_=>(by kernel_rfl)|1,_=>(by kernel_rfl) ),by omega,?_⟩⟩
 obtain⟨on,hon⟩:∃on,hgP p goal.toNat=on:=⟨_,rfl⟩
 rw[hon] at hlt ⊢
 refine bQ (eq (fun _=>.any) 2) ?_
 refine(bg (by kernel_rfl) (fun (x:Nat × Nat)=>⟨[(1,int i64 goal),(7,ref 1 0),(8,ref 2 0),(9,.ow true 4 x.2 1),(35,ae p.rules),(36,int i64 (p.rules.l.length:Int)),(37,.int .i64 x.1)],[.cells false 2 (nth [.int .i64 p.atoms,ae p.rules]),.cells false 1 (fun _=>.int .u64 on),.cells false 2 (nth [.int .i64 p.atoms,.ow true 3 x.2 2]),.cells false (x.2*2) (ba (aI on (p.rules.l.take x.1))),.cells false (x.2*1) (ab (aS on (p.rules.l.take x.1) 0))],g⟩) (fun (x:Nat × Nat)=>(x.1<=p.rules.l.length/\x.2=(aI on (p.rules.l.take x.1)).length)) (fun (x:Nat × Nat)=>(p.rules.l.length-x.1)) ((0,0):Nat × Nat) (aX ⟨Le.refl _,Le.refl _,Le.refl _,Le.nil_ow,Le.refl _,Le.refl _,(Le.of_eq (by kernel_rfl)),trivial⟩ ⟨LeO.rflc,⟨rfl,Nat.le_refl _,fun j hj=>match j,hj with|0,_=>(Le.refl _) ⟩,⟨rfl,Nat.le_refl _,fun j hj=>match j,hj with|0,_=>(Le.refl _)|1,_=>Le.nil_ow ⟩,⟨rfl,Nat.le_refl _,fun j hj=>absurd hj (Nat.not_lt_zero j)⟩,⟨rfl,Nat.le_refl _,fun j hj=>absurd hj (Nat.not_lt_zero j)⟩,trivial⟩ rfl) ?_ (fun x hi=>?_))
 ·exact⟨Nat.zero_le _,rfl⟩
 ·obtain⟨i,m⟩:=x
  obtain⟨hi,hm⟩:=hi
  simp only at hi hm
  have hpl:=od on (p.rules.l.take i) 0
  have hple:(aI on (p.rules.l.take i)).length<=p.rules.l.length:=Nat.le_trans (List.length_filter_le _ _) (by rw[List.length_take];omega)
  rcases Nat.lt_or_ge i p.rules.l.length with hi'|hi'
  ·have hq:=hr _ (fc hi')
   have hq2:=hq.2
   have hpt:=rB (on:=on) hi'
   have hnt:=rC (on:=on) hi'
   refine vcQ [] (lkL [(7,[1,7,8,9,35,36,37,38]),(8,[1,7,8,9,10,11,35,36,37]),(9,[1,7,8,9,10,11,35,36,37,45]),(10,[1,7,8,9,10,35,36,37]),(11,[1,7,8,9,35,36,37]),(12,[1,7,8,9,35,36,37])]) (lkL [(8,[(5,ROrc.val (Orc.obj (nth [int i64 (p.rules.l.getD i default).head,al (p.rules.l.getD i default).body])))]),(9,[(3,ROrc.pcall (AV.bool (Nat.testBit on ((p.rules.l.getD i default).head.toNat))))]),(10,[(4,ROrc.val (Orc.obj (ba (aI on (List.take i p.rules.l)++[p.rules.l.getD i default])))),(6,ROrc.val (Orc.obj (nth [int i64 p.atoms,ow true 7 (m+1) 2])))]),(11,[(3,ROrc.val (Orc.obj (ab (aS on (List.take i p.rules.l) 0++[(i:Int)]))))])]) (fun Q=>(fun (u1:Rule)=>(fun (u2:Int)=>(fun (u3:Int)=>(fun (u4:List Rule)=>(fun (u5:List AV)=>(fun (u6:AObj)=>(fun (u7:AObj)=>(fun (u8:List AV)=>(fun (u9:List AV)=>(fun (u10:AObj)=>(fun (u11:List (Nat × AV))=>(fun (u12:Bool)=>(decide (u3<u2)=true->(0<=u3/\u3<u2)/\2<=2/\2<=2/\(∀(c:Nat),c<2->nth u5 c=ah (nth u8) 0 2 (List.brecOn (motive:=fun (x:List AV)=>Nat->AV) u5 nth._f) c)/\1<=1/\1<=2/\(∀(hp:List AObj) (g:R.σ),true=true/\Does Tryd.prog R 71 [int u64 (on:Int),int i64 u1.head] hp g (ret (AV.bool u12)) hp g)/\(u12=true->2<=2/\2<=2/\0<2/\(m+1)*32<=aG/\m+1<=aG/\2<=2/\m*2<=m*2/\(∀(c:Nat),c<(m+1)*2->ba (aI on u4++[u1]) c=bc 2 m (fun (i j:Nat)=>ba (aI on u4) (i*2+j)) (fun (i j:Nat)=>ah (fun (j:Nat)=>nth u8 (j%2)) 0 2 (List.brecOn (motive:=fun (x:List AV)=>Nat->AV) u5 nth._f) (0+i*2+j)) c)/\2<=2/\(∀(c:Nat),c<2->nth [int i64 p.atoms,ow true 7 (m+1) 2] c=ah (nth u9) 1 1 (fun (x:Nat)=>ow true 7 (m+1) 2) c)/\0<1/\(m+1)*8<=aG/\m+1<=aG/\1<=1/\m*1<=m*1/\(∀(c:Nat),c<(m+1)*1->ab (aS on u4 0++[u3]) c=bc 1 m (fun (i j:Nat)=>ab (aS on u4 0) (i*1+j)) (fun (i j:Nat)=>ah (fun (j:Nat)=>int i64 0) 0 1 (fun (x:Nat)=>int i64 u3) (0+i*1+j)) c)/\(-9223372036854775808<=u3+1/\u3+1<=9223372036854775807)/\Q AEx.normal (St.mk ((1,int i64 goal)::(7,ref 1 0)::(8,ref 2 0)::(9,ow true 9 (m+1) 1)::u11) [u6,u7,cells false 2 (nth [int i64 p.atoms,ow true 7 (m+1) 2]),dead,dead,cells false 2 (nth u5),cells false 2 (ah (fun (j:Nat)=>nth u8 (j%2)) 0 2 (List.brecOn (motive:=fun (x:List AV)=>Nat->AV) u5 nth._f)),cells false ((m+1)*2) (ba (aI on u4++[u1])),cells false 1 (ah (fun (j:Nat)=>int i64 0) 0 1 fun (x:Nat)=>int i64 u3),cells false ((m+1)*1) fun (a:Nat)=>ab (aS on u4 0++[u3]) a] g))/\(u12=false->(-9223372036854775808<=u3+1/\u3+1<=9223372036854775807)/\Q AEx.normal (St.mk ((1,int i64 goal)::(7,ref 1 0)::(8,ref 2 0)::(9,ow true 4 m 1)::u11) [u6,u7,cells false 2 (nth u9),cells false (m*2) (ba (aI on u4)),u10,cells false 2 (nth u5)] g)))/\(decide (u3<u2)=false->Q (AEx.exit 0) (St.mk [(1,int i64 goal),(7,ref 1 0),(8,ref 2 0),(9,ow true 4 m 1),(35,ae p.rules),(36,int i64 u2),(37,int i64 u3),(38,AV.bool (decide (u3<u2)))] [u6,u7,cells false 2 (nth u9),cells false (m*2) (ba (aI on u4)),u10] g))) (Nat.testBit on (u1.head.toNat))) ([(35,ae p.rules),(36,int i64 u2),(37,int i64 (u3+1))])) (cells false (m*1) fun (a:Nat)=>ab (aS on u4 0) a)) ([int i64 p.atoms,ow true 3 m 2])) ([int i64 0,fz Fz.nil 0 0 fun _ _=>any])) (cells false 1 fun (x:Nat)=>int u64 (on:Int))) (cells false 2 (nth [int i64 p.atoms,ae p.rules]))) ([int i64 u1.head,al u1.body])) (List.take i p.rules.l)) ((i:Int))) ((p.rules.l.length:Int))) (p.rules.l.getD i default)) (fun _=>by kernel_rfl) ⟨fun c1=>have c1:(i:Int)<(p.rules.l.length:Int):=(of_decide_eq_true c1);⟨by omega,by omega,by omega,(fun c hc=>match c,hc with|0,_=>(by kernel_rfl)|1,_=>(by kernel_rfl) ),by omega,by omega,(fun _ _=>⟨rfl,(nv _ _ _ (by omega) (by omega) _ _)⟩),fun c2=>⟨by omega,by omega,by omega,by omega,by omega,by omega,by omega,?_,by omega,(fun c hc=>match c,hc with|0,_=>(by kernel_rfl)|1,_=>(by kernel_rfl) ),by omega,by omega,by omega,by omega,by omega,?_,by omega,?_⟩,fun c2=>⟨by omega,?_⟩⟩,fun c1=>have c1:¬(i:Int)<(p.rules.l.length:Int):=(of_decide_eq_false c1);?_⟩
   ·intro c hc
    subst hm
    exact(nE (r:=p.rules.l.getD i default) (z:=fun j=>nth [.int .i64 0,.fz .nil 0 0 fun _ _=>.any] (j%2)) hc).trans (by kernel_rfl)
   ·intro c hc
    rw[hm,<-hpl] at hc ⊢
    exact(lu (z:=fun _=>.int .i64 0) hc).trans (by kernel_rfl)
   ·rw[if_pos c2] at hpt hnt
    refine(aL (i+1,m+1) (a9 [0,1,2,7,9] 10 rfl rfl rfl rfl rfl ⟨Le.refl _,Le.refl _,Le.refl _,Le.refl _,Le.refl _,Le.refl _,Le.refl _,trivial⟩ ⟨⟨rfl,Nat.le_refl _,fun j hj=>match j,hj with|0,_=>(Le.refl _)|1,_=>(Le.refl _) ⟩,⟨rfl,Nat.le_refl _,fun j hj=>match j,hj with|0,_=>(Le.refl _) ⟩,⟨rfl,Nat.le_refl _,fun j hj=>match j,hj with|0,_=>(Le.refl _)|1,_=>(Le.refl _) ⟩,?_,?_,trivial⟩) ?_ ?_)
    ·show LeO (.cells false ((m+1)*2) (ba (aI on (p.rules.l.take i)++[p.rules.l.getD i default]))) (bP _ (.cells false ((m+1)*2) (ba (aI on (p.rules.l.take (i+1))))))
     rw[hpt,iF]
     exact LeO.refl _
    ·show LeO (.cells false ((m+1)*1) (ab (aS on (p.rules.l.take i) 0++[(i:Int)]))) (.cells false ((m+1)*1) (ab (aS on (p.rules.l.take (i+1)) 0)))
     rw[hnt]
     exact LeO.refl _
    ·refine⟨by show i+1<=_;omega,?_⟩
     show m+1=(aI on (p.rules.l.take (i+1))).length
     rw[hpt,List.length_append,<-hm]
     rfl
    ·show p.rules.l.length-(i+1)<p.rules.l.length-i
     omega
   ·rw[if_neg (by rw[c2];decide)] at hpt hnt
    refine(aL (i+1,m) (a9 [0,1,2,3,4] 6 rfl rfl rfl rfl rfl ⟨Le.refl _,Le.refl _,Le.refl _,Le.refl _,Le.refl _,Le.refl _,Le.refl _,trivial⟩ ⟨⟨rfl,Nat.le_refl _,fun j hj=>match j,hj with|0,_=>(Le.refl _)|1,_=>(Le.refl _) ⟩,⟨rfl,Nat.le_refl _,fun j hj=>match j,hj with|0,_=>(Le.refl _) ⟩,⟨rfl,Nat.le_refl _,fun j hj=>match j,hj with|0,_=>(Le.refl _)|1,_=>(Le.refl _) ⟩,?_,?_,trivial⟩) ?_ ?_)
    ·show LeO (.cells false (m*2) (ba (aI on (p.rules.l.take i)))) (bP _ (.cells false (m*2) (ba (aI on (p.rules.l.take (i+1))))))
     rw[hpt,iF]
     exact LeO.refl _
    ·show LeO (.cells false (m*1) (ab (aS on (p.rules.l.take i) 0))) (.cells false (m*1) (ab (aS on (p.rules.l.take (i+1)) 0)))
     rw[hnt]
     exact LeO.refl _
    ·refine⟨by show i+1<=_;omega,?_⟩
     show m=(aI on (p.rules.l.take (i+1))).length
     rw[hpt,<-hm]
    ·show p.rules.l.length-(i+1)<p.rules.l.length-i
     omega
   ·exfalso;omega
  ·have hie:i=p.rules.l.length:=by omega
   subst hie
   rw[List.take_length] at hm hpl
   subst hm
   obtain⟨M,hM⟩:∃M,(aI on p.rules.l).length=M:=⟨_,rfl⟩
   refine bQ (a9 (s':=⟨[(1,.int .i64 goal),(7,.ref 1 0),(8,.ref 2 0),(9,.ow true 3 (aI on p.rules.l).length 1),(35,ae p.rules),(36,.int .i64 p.rules.l.length),(37,.int .i64 p.rules.l.length)],[.cells false 2 (nth [.int .i64 p.atoms,ae p.rules]),.cells false 1 (fun _=>.int .u64 on),.cells false 2 (nth [.int .i64 p.atoms,.ow true 4 (aI on p.rules.l).length 2]),.cells false ((aI on p.rules.l).length*1) (ab (aS on p.rules.l 0)),.cells false ((aI on p.rules.l).length*2) (ba (aI on p.rules.l))],g⟩) [0,1,2,4,3] 5 rfl rfl rfl rfl rfl ⟨Le.refl _,Le.refl _,Le.refl _,Le.refl _,Le.refl _,Le.refl _,Le.refl _,trivial⟩ ⟨lg,LeO.refl _,LeO.cells (fun j hj=>match j,hj with|0,_=>rfl|1,_=>rfl),?_,?_,trivial⟩) ?_
   ·show LeO (.cells false ((aI on p.rules.l).length*1) (ab (aS on (p.rules.l.take p.rules.l.length) 0))) _
    rw[List.take_length]
    exact LeO.refl _
   ·show LeO (.cells false ((aI on p.rules.l).length*2) (ba (aI on (p.rules.l.take p.rules.l.length)))) _
    rw[List.take_length,iF]
    exact LeO.refl _
   refine bQ (nj 4 [(1,.int .i64 goal),(7,.ref 1 0),(8,.ref 2 0),(9,.ow true 3 (aI on p.rules.l).length 1),(35,ae p.rules),(36,.int .i64 p.rules.l.length),(37,.int .i64 p.rules.l.length)] [.cells false 2 (nth [.int .i64 p.atoms,ae p.rules]),.cells false 1 (fun _=>.int .u64 on),.cells false 2 (nth [.int .i64 p.atoms,ae (aE p on).rules]),.cells false ((aI on p.rules.l).length*1) (ab (aS on p.rules.l 0))] (by omega) (by show 4<=5;omega) rfl (fun i hi=>?_) ⟨av.below trivial,av.below (show 1<4 by omega),av.below (show 2<4 by omega),av.below (show 3<4 by omega),av.below trivial,av.below trivial,av.below trivial,trivial⟩) ?_
   ·match i,hi with
    |0,_=>exact⟨rfl,rfl,fun j hj=>match j,hj with|0,_=>av.below trivial|1,_=>av.below trivial⟩
    |1,_=>exact⟨rfl,rfl,fun j _=>av.below trivial⟩
    |2,_=>exact⟨rfl,rfl,fun j hj=>match j,hj with|0,_=>av.below trivial|1,_=>rD (o:=4) rfl (Nat.le_refl _)⟩
    |3,_=>exact⟨rfl,rfl,fun j _=>av.below trivial⟩
   have hbb:decide ((p.rules.l.length:Int)<(p.rules.l.length:Int))=false:=decide_eq_false (by omega)
   refine vcQ [[1,1,1,1,1,0,1,0,0,1,0,0]] (lkL [(7,[1,7,8,9,35,36,37,38])]) (fun _=>[]) (fun Q=>(fun (u1:St R.σ)=>(fun (u2:Int)=>(decide (u2<u2)=true->Wp Tryd.prog R 98 0 Rd.top (af Tryd.prog 25) [1,1,1,1,1,0,1,0,0,1,0,0] (aq Tryd.prog R 98 0 Rd.top (af Tryd.prog 25) Q [Kont.seq [1,1,1,1,1,0,1,0,0,1,1]]) u1)/\(decide (u2<u2)=false->Q (AEx.exit 0) u1)) ((p.rules.l.length:Int))) (St.mk [(1,int i64 goal),(7,ref 1 0),(8,ref 2 0),(9,ow true 3 ((aI on p.rules.l).length) 1),(35,ae p.rules),(36,int i64 (p.rules.l.length:Int)),(37,int i64 (p.rules.l.length:Int)),(38,AV.bool (decide ((p.rules.l.length:Int)<(p.rules.l.length:Int))))] [cells false 2 (nth [int i64 p.atoms,ae p.rules]),cells false 1 fun (x:Nat)=>int u64 (on:Int),cells false 2 (nth [int i64 p.atoms,fz Fz.auto 2 ((aE p on).rules.l.length) fun (i:Nat)=>bJ ((aE p on).rules.l.getD i default)]),cells false ((aI on p.rules.l).length*1) fun (a:Nat)=>ab (aS on p.rules.l 0) a] g)) (fun _=>by kernel_rfl) ⟨fun hcc=>(nomatch (hbb.symm.trans hcc)),fun _=>?_⟩
   have hlq:(aE p on).rules.l.length<1000000:=Nat.lt_of_le_of_lt (List.length_filter_le _ _) hl
   have hrq:∀r,r∈(aE p on).rules.l->aP r:=fun r h=>hr r (List.mem_filter.1 h).1
   have hpq:b8 (aE p on):=hp
   have hhq:cZ (aE p on):=fun r h=>hh r (List.mem_filter.1 h).1
   have hD:=fun (R:Res) [Tab LT R] (n0 n1 n2 n3:Nat) (c0 c1 c2 c3:Nat->AV) (b0:∀j,j<n0->Below 0 (c0 j)) (b1:∀j,j<n1->Below 0 (c1 j)) (b2:∀j,j<n2->Below 0 (c2 j)) (b3:∀j,j<n3->Below 0 (c3 j)) (g:R.σ)=>xP R (aE p on) n0 n1 n2 n3 c0 c1 c2 c3 b0 b1 b2 b3 hlq hrq hpq hhq g
   refine⟨_,To.refl _,vcQ [] (lkL [(13,[1,7,9,12,13]),(14,[1,7,9,12,13,14]),(15,[1,7,9,13,14,62,63,64])]) (lkL [(13,[(1,ROrc.call (tup 2 (nth [ow true 5 ((am (aE p on)).fst.length) 2,ref 4 0])) (cells false 2 (nth [int i64 p.atoms,ae p.rules])::(cells false 1 fun (x:Nat)=>int u64 (on:Int))::cells false 2 (nth [int i64 p.atoms,fz Fz.auto 2 ((aE p on).rules.l.length) fun (i:Nat)=>bJ ((aE p on).rules.l.getD i default)])::(cells false ((aI on p.rules.l).length*1) fun (a:Nat)=>ab (aS on p.rules.l 0) a)::cells false 27 (aQ (am (aE p on)).snd)::cells false ((am (aE p on)).fst.length*2) (cl 6 (am (aE p on)).fst)::bO (ac (am (aE p on)).fst) []) g)])]) (fun Q=>(fun (u1:List AObj)=>(fun (u2:List AV)=>(fun (u3:Nat)=>2<=2/\(true=true/\Does Tryd.prog R 60 [agg 2 (nth u2)] [cells false 2 (nth [int i64 p.atoms,ae p.rules]),cells false 1 fun (x:Nat)=>int u64 (on:Int),cells false 2 (nth u2),cells false ((aI on p.rules.l).length*1) fun (a:Nat)=>ab (aS on p.rules.l 0) a] g (ret (tup 2 (nth [ow true 5 u3 2,ref 4 0]))) u1 g)/\Wp Tryd.prog R 98 0 Rd.top (af Tryd.prog 25) [1,1,1,1,1,1,1,1,0,1,0] (aq Tryd.prog R 98 0 Rd.top (af Tryd.prog 25) Q [Kont.blk 2,Kont.seq [1,1,1,1,1,1,1,1,1]]) (St.mk [(1,int i64 goal),(7,ref 1 0),(9,ow true 3 ((aI on p.rules.l).length) 1),(13,ref 4 0),(14,fz Fz.nil 0 0 fun _ _=>any),(62,ow true 5 u3 2),(63,int i64 (u3:Int)),(64,int i64 0)] u1 g)) ((am (aE p on)).fst.length)) ([int i64 p.atoms,fz Fz.auto 2 ((aE p on).rules.l.length) fun (i:Nat)=>bJ ((aE p on).rules.l.getD i default)])) ([cells false 2 (nth [int i64 p.atoms,ae p.rules]),cells false 1 fun (x:Nat)=>int u64 (on:Int),cells false 2 (nth [int i64 p.atoms,fz Fz.auto 2 ((aE p on).rules.l.length) fun (i:Nat)=>bJ ((aE p on).rules.l.getD i default)]),cells false ((aI on p.rules.l).length*1) fun (a:Nat)=>ab (aS on p.rules.l 0) a,cells false 27 (aQ (am (aE p on)).snd),cells false ((am (aE p on)).fst.length*2) (cl 6 (am (aE p on)).fst),ac (am (aE p on)).fst 0,ac (am (aE p on)).fst 1,ac (am (aE p on)).fst 2,ac (am (aE p on)).fst 3,ac (am (aE p on)).fst 4,ac (am (aE p on)).fst 5,ac (am (aE p on)).fst 6,ac (am (aE p on)).fst 7,ac (am (aE p on)).fst 8,ac (am (aE p on)).fst 9,ac (am (aE p on)).fst 10,ac (am (aE p on)).fst 11,ac (am (aE p on)).fst 12,ac (am (aE p on)).fst 13,ac (am (aE p on)).fst 14,ac (am (aE p on)).fst 15,ac (am (aE p on)).fst 16,ac (am (aE p on)).fst 17,ac (am (aE p on)).fst 18,ac (am (aE p on)).fst 19,ac (am (aE p on)).fst 20,ac (am (aE p on)).fst 21,ac (am (aE p on)).fst 22,ac (am (aE p on)).fst 23])) (fun _=>by kernel_rfl) ⟨by omega,⟨rfl,(hD _ _ _ _ _ _ _ _ _ ?_ ?_ ?_ ?_ _)⟩,?_⟩⟩
   ·exact fun j hj=>match j,hj with|0,_=>trivial|1,_=>trivial
   ·exact fun j _=>trivial
   ·exact fun j hj=>match j,hj with|0,_=>trivial|1,_=>trivial
   ·exact fun j _=>trivial
   obtain⟨L,hL⟩:∃L,(am (aE p on)).1=L:=⟨_,rfl⟩
   obtain⟨V,hV⟩:∃V,(am (aE p on)).2=V:=⟨_,rfl⟩
   obtain⟨NU,hNU⟩:∃NU,aS on p.rules.l 0=NU:=⟨_,rfl⟩
   have hL24:L.length<=24:=by rw[<-hL];exact jD hpq hrq hhq
   rw[hL,hV,hNU]
   refine bQ (eq (fun _=>.any) 1) ?_
   refine(bg (by kernel_rfl) (fun (x:Nat × Nat)=>⟨[(1,int i64 goal),(7,ref 1 0),(9,ow true 3 ((aI on p.rules.l).length) 1),(13,ref 4 0),(14,.ow true 30 x.2 2),(62,ow true 5 (L.length) 2),(63,int i64 (L.length:Int)),(64,.int .i64 x.1)],(.cells false 2 (nth [.int .i64 p.atoms,ae p.rules])::.cells false 1 (fun _=>.int .u64 on)::.cells false 2 (nth [.int .i64 p.atoms,ae (aE p on).rules])::.cells false ((aI on p.rules.l).length*1) (ab NU)::.cells false 27 (aQ V)::.cells false (L.length*2) (cl 6 L)::bO (ad on L x.1) [.cells false (x.2*2) (bG on NU L (aZ on L x.1))]),g⟩) (fun (x:Nat × Nat)=>(x.1<=L.length/\x.2=(aZ on L x.1).length)) (fun (x:Nat × Nat)=>(L.length-x.1)) ((0,0):Nat × Nat) (aX ⟨Le.refl _,Le.refl _,Le.refl _,Le.refl _,Le.nil_ow,Le.refl _,Le.refl _,(Le.of_eq (by kernel_rfl)),trivial⟩ ⟨LeO.rflc,LeO.rflc,LeO.rflc,LeO.rflc,LeO.rflc,LeO.rflc,LeO.rflc,LeO.rflc,LeO.rflc,LeO.rflc,LeO.rflc,LeO.rflc,LeO.rflc,LeO.rflc,LeO.rflc,LeO.rflc,LeO.rflc,LeO.rflc,LeO.rflc,LeO.rflc,LeO.rflc,LeO.rflc,LeO.rflc,LeO.rflc,LeO.rflc,LeO.rflc,LeO.rflc,LeO.rflc,LeO.rflc,LeO.rflc,⟨rfl,Nat.le_refl _,fun j hj=>absurd hj (Nat.not_lt_zero j)⟩,trivial⟩ rfl) ?_ (fun x hi=>?_))
   ·exact⟨Nat.zero_le _,rfl⟩
   ·obtain⟨i,m⟩:=x
    obtain⟨hi,hm⟩:=hi
    simp only at hi hm
    have hm24:m<=i:=by
     rw[hm]
     unfold aZ
     exact Nat.le_trans (List.length_filter_le _ _) (by rw[List.length_range];omega)
    rcases Nat.lt_or_ge i L.length with hi'|hi'
    ·have hso:gl (aE p on) (L.getD i default):=by
      have:=lw hpq hrq hhq 25 (fun _=>3) [] (fun s hs=>(by cases hs))
      exact this _ (by
       have h:L.getD i default∈L:=bN _ default hi'
       have h2:L.getD i default∈(am (aE p on)).1:=hL.symm▸h
       exact h2)
     obtain⟨o1,o2,o3,o4⟩:=hso
     have o1:0<=(L.getD i default).rule->(L.getD i default).rule<(aI on p.rules.l).length:=o1
     have o4:∀a,a∈(L.getD i default).atoms->0<=a/\a<24:=fun a ha=>by
      have:=o4 a ha
      have e:(aE p on).atoms=p.atoms:=rfl
      omega
     by_cases hru:0<=(L.getD i default).rule
     ·have hru1:=o1 hru
      have hge:decide ((L.getD i default).rule >= 0)=true:=decide_eq_true hru
      have har:d7 NU (L.getD i default)=NU.getD (L.getD i default).rule.toNat 0:=if_pos hru
      refine vcQ [[1,1,1,1,1,1,1,1,0,1,0,0,1,1,0,0,1,0,1,1]] (lkL [(16,[1,7,9,13,14,62,63,64,65]),(17,[1,7,9,13,14,16,62,63,64]),(18,[1,7,9,13,14,16,62,63,64,70]),(19,[1,7,9,13,14,16,62,63,64]),(20,[1,7,9,13,14,16,62,63,64]),(21,[1,7,9,13,14,16,62,63,64,85]),(22,[1,7,9,13,14,62,63,64]),(23,[1,7,9,13,14,62,63,64])]) (lkL [(17,[(1,ROrc.kop (agg 2 (nth [int i64 (L.getD i default).rule,ow true (6+i) ((L.getD i default).atoms.length) 1]))),(3,ROrc.val (Orc.obj (nth [int i64 (L.getD i default).rule,ow true (6+i) ((L.getD i default).atoms.length) 1])))]),(19,[(6,ROrc.val (Orc.obj (nth [ab NU ((L.getD i default).rule.toNat),ow true (6+i) ((L.getD i default).atoms.length) 1])))]),(20,[(3,ROrc.call (sl (6+i) 0 ((aH on (L.getD i default).atoms).length) ((L.getD i default).atoms.length) false 1) (cells false 2 (nth [int i64 p.atoms,ae p.rules])::(cells false 1 fun (x:Nat)=>int u64 (on:Int))::cells false 2 (nth [int i64 p.atoms,ae (aE p on).rules])::cells false ((aI on p.rules.l).length*1) (ab NU)::cells false 27 (aQ V)::cells false (L.length*2) (cl 6 L)::bO (ad on L (i+1)) [cells false (m*2) (bG on NU L (aZ on L i)),cells false 2 (nth [int i64 (NU.getD ((L.getD i default).rule.toNat) 0),ow true (6+i) ((L.getD i default).atoms.length) 1])]) g),(5,ROrc.val (Orc.obj (nth [ab NU ((L.getD i default).rule.toNat),sl (6+i) 0 ((aH on (L.getD i default).atoms).length) ((L.getD i default).atoms.length) false 1])))]),(22,[(3,ROrc.val (Orc.obj (bG on NU L (aZ on L i++[i]))))])]) (fun Q=>(fun (u1:List AObj)=>(fun (u2:Stp)=>(fun (u3:AObj)=>(fun (u4:AV)=>(fun (u5:AV)=>(fun (u6:Nat)=>(fun (u7:Int)=>(fun (u8:Nat)=>(fun (u9:AObj)=>(fun (u10:AV)=>(fun (u11:List (Nat × AV))=>(fun (u12:AObj)=>(fun (u13:AObj)=>(fun (u14:AObj)=>(fun (u15:AObj)=>(fun (u16:Int)=>(decide ((i:Int)<u7)=true->(0<=(i:Int)/\(i:Int)<u7)/\OpOk Tryd.prog R (Oper.mk (some 67) (Op.load 71 (Operand.tmp 66)) 71 "table.go:316" #[Edge.mk 0 Ground.data] none) (evO [Row.mk (some 66) none (ref 5 (i*2)) false (some []) []] u11 []) u1 g (agg 2 (nth [int i64 u2.rule,u5])) u1 g/\2<=2/\(∀(c:Nat),c<2->nth [int i64 u2.rule,u5] c=ah (nth [int i64 0,fz Fz.nil 0 0 fun _ _=>any]) 0 2 (List.brecOn (motive:=fun (x:List AV)=>Nat->AV) [int i64 u2.rule,u5] nth._f) c)/\1<=2/\(decide (u2.rule >= 0)=true->1<=2/\(0<=u2.rule/\u2.rule<(u6:Int))/\u2.rule.toNat+1<=u6*1/\1<=2/\(∀(c:Nat),c<2->nth [u10,u5] c=ah (nth [int i64 u2.rule,u5]) 0 1 (fun (x:Nat)=>u10) c)/\2<=2/\(true=true/\Does Tryd.prog R 72 [u5,fn 73 0 (nth []) 1 (nth [ref 1 0])] [u9,u12,u3,u13,cells false 27 (aQ V),u14,ad on L i 0,ad on L i 1,ad on L i 2,ad on L i 3,ad on L i 4,ad on L i 5,ad on L i 6,ad on L i 7,ad on L i 8,ad on L i 9,ad on L i 10,ad on L i 11,ad on L i 12,ad on L i 13,ad on L i 14,ad on L i 15,ad on L i 16,ad on L i 17,ad on L i 18,ad on L i 19,ad on L i 20,ad on L i 21,ad on L i 22,ad on L i 23,u15,cells false 2 (nth [u10,u5])] g (ret u4) [u9,u12,u3,u13,cells false 27 (aQ V),u14,ad on L u8 0,ad on L u8 1,ad on L u8 2,ad on L u8 3,ad on L u8 4,ad on L u8 5,ad on L u8 6,ad on L u8 7,ad on L u8 8,ad on L u8 9,ad on L u8 10,ad on L u8 11,ad on L u8 12,ad on L u8 13,ad on L u8 14,ad on L u8 15,ad on L u8 16,ad on L u8 17,ad on L u8 18,ad on L u8 19,ad on L u8 20,ad on L u8 21,ad on L u8 22,ad on L u8 23,u15,cells false 2 (nth [u10,u5])] g)/\2<=2/\(∀(c:Nat),c<2->nth [u10,u4] c=ah (nth [u10,u5]) 1 1 (fun (x:Nat)=>u4) c)/\2<=2/\(decide (u16 > 0)=true->2<=2/\0<2/\(m+1)*32<=aG/\m+1<=aG/\2<=2/\m*2<=m*2/\(∀(c:Nat),c<(m+1)*2->bG on NU L (aZ on L i++[i]) c=bc 2 m (fun (i_1 j:Nat)=>bG on NU L (aZ on L i) (i_1*2+j)) (fun (i j:Nat)=>ah (fun (j:Nat)=>nth [int i64 0,fz Fz.nil 0 0 fun _ _=>any] (j%2)) 0 2 (List.brecOn (motive:=fun (x:List AV)=>Nat->AV) [u10,u4] nth._f) (0+i*2+j)) c)/\(-9223372036854775808<=(i:Int)+1/\(i:Int)+1<=9223372036854775807)/\Q AEx.normal (St.mk [(1,int i64 goal),(7,ref 1 0),(9,ow true 3 u6 1),(13,ref 4 0),(14,ow true 33 (m+1) 2),(62,ow true 5 (L.length) 2),(63,int i64 u7),(64,int i64 ((i:Int)+1))] [u9,u12,u3,u13,cells false 27 (aQ V),u14,ad on L u8 0,ad on L u8 1,ad on L u8 2,ad on L u8 3,ad on L u8 4,ad on L u8 5,ad on L u8 6,ad on L u8 7,ad on L u8 8,ad on L u8 9,ad on L u8 10,ad on L u8 11,ad on L u8 12,ad on L u8 13,ad on L u8 14,ad on L u8 15,ad on L u8 16,ad on L u8 17,ad on L u8 18,ad on L u8 19,ad on L u8 20,ad on L u8 21,ad on L u8 22,ad on L u8 23,dead,cells false 2 (nth [u10,u4]),cells false 2 (ah (fun (j:Nat)=>nth [int i64 0,fz Fz.nil 0 0 fun _ _=>any] (j%2)) 0 2 (List.brecOn (motive:=fun (x:List AV)=>Nat->AV) [u10,u4] nth._f)),cells false ((m+1)*2) (bG on NU L (aZ on L i++[i]))] g))/\(decide (u16 > 0)=false->(-9223372036854775808<=(i:Int)+1/\(i:Int)+1<=9223372036854775807)/\Q AEx.normal (St.mk [(1,int i64 goal),(7,ref 1 0),(9,ow true 3 u6 1),(13,ref 4 0),(14,ow true 30 m 2),(62,ow true 5 (L.length) 2),(63,int i64 u7),(64,int i64 ((i:Int)+1))] [u9,u12,u3,u13,cells false 27 (aQ V),u14,ad on L u8 0,ad on L u8 1,ad on L u8 2,ad on L u8 3,ad on L u8 4,ad on L u8 5,ad on L u8 6,ad on L u8 7,ad on L u8 8,ad on L u8 9,ad on L u8 10,ad on L u8 11,ad on L u8 12,ad on L u8 13,ad on L u8 14,ad on L u8 15,ad on L u8 16,ad on L u8 17,ad on L u8 18,ad on L u8 19,ad on L u8 20,ad on L u8 21,ad on L u8 22,ad on L u8 23,u15,cells false 2 (nth [u10,u4])] g)))/\(decide (u2.rule >= 0)=false->Wp Tryd.prog R 98 0 Rd.top (af Tryd.prog 25) [1,1,1,1,1,1,1,1,0,1,0,0,1,1,0,0,1,0,1,1] (aq Tryd.prog R 98 0 Rd.top (af Tryd.prog 25) Q [Kont.seq [1,1,1,1,1,1,1,1,0,1,0,0,1,1,0,0,1,1],Kont.blk 3,Kont.seq [1,1,1,1,1,1,1,1,0,1,0,0,1,1,1]]) (St.mk [(1,int i64 goal),(7,ref 1 0),(9,ow true 3 u6 1),(13,ref 4 0),(14,ow true 30 m 2),(16,ref 31 0),(62,ow true 5 (L.length) 2),(63,int i64 u7),(64,int i64 (i:Int)),(70,AV.bool (decide (u2.rule >= 0)))] [u9,u12,u3,u13,cells false 27 (aQ V),u14,ad on L i 0,ad on L i 1,ad on L i 2,ad on L i 3,ad on L i 4,ad on L i 5,ad on L i 6,ad on L i 7,ad on L i 8,ad on L i 9,ad on L i 10,ad on L i 11,ad on L i 12,ad on L i 13,ad on L i 14,ad on L i 15,ad on L i 16,ad on L i 17,ad on L i 18,ad on L i 19,ad on L i 20,ad on L i 21,ad on L i 22,ad on L i 23,u15,cells false 2 (nth [int i64 u2.rule,u5])] g)))/\(decide ((i:Int)<u7)=false->Q (AEx.exit 2) (St.mk u11 u1 g))) ((↑((aH on u2.atoms).length):Int))) (cells false (m*2) (bG on NU L (aZ on L i)))) (cells false (L.length*2) (cl 6 L))) (cells false (u6*1) fun (a:Nat)=>ab NU a)) (cells false 1 fun (x:Nat)=>int u64 (on:Int))) ([(1,int i64 goal),(7,ref 1 0),(9,ow true 3 u6 1),(13,ref 4 0),(14,ow true 30 m 2),(62,ow true 5 (L.length) 2),(63,int i64 u7),(64,int i64 (i:Int)),(65,AV.bool (decide ((i:Int)<u7)))])) (ab NU (u2.rule.toNat))) (cells false 2 (nth [int i64 p.atoms,ae p.rules]))) (i+1)) ((L.length:Int))) ((aI on p.rules.l).length)) (ow true (6+i) (u2.atoms.length) 1)) (sl (6+i) 0 ((aH on u2.atoms).length) (u2.atoms.length) false 1)) (cells false 2 (nth [int i64 p.atoms,fz Fz.auto 2 ((aE p on).rules.l.length) fun (i:Nat)=>bJ ((aE p on).rules.l.getD i default)]))) (L.getD i default)) ([cells false 2 (nth [int i64 p.atoms,ae p.rules]),cells false 1 fun (x:Nat)=>int u64 (on:Int),cells false 2 (nth [int i64 p.atoms,fz Fz.auto 2 ((aE p on).rules.l.length) fun (i:Nat)=>bJ ((aE p on).rules.l.getD i default)]),cells false ((aI on p.rules.l).length*1) fun (a:Nat)=>ab NU a,cells false 27 (aQ V),cells false (L.length*2) (cl 6 L),ad on L i 0,ad on L i 1,ad on L i 2,ad on L i 3,ad on L i 4,ad on L i 5,ad on L i 6,ad on L i 7,ad on L i 8,ad on L i 9,ad on L i 10,ad on L i 11,ad on L i 12,ad on L i 13,ad on L i 14,ad on L i 15,ad on L i 16,ad on L i 17,ad on L i 18,ad on L i 19,ad on L i 20,ad on L i 21,ad on L i 22,ad on L i 23,cells false (m*2) (bG on NU L (aZ on L i))])) (fun _=>by kernel_rfl) ⟨fun c1=>have c1:(i:Int)<(L.length:Int):=(of_decide_eq_true c1);⟨by omega,?_,by omega,(fun c hc=>match c,hc with|0,_=>(by kernel_rfl)|1,_=>(by kernel_rfl) ),by omega,fun _=>⟨by omega,by omega,by omega,by omega,(fun c hc=>match c,hc with|0,_=>(by kernel_rfl)|1,_=>(by kernel_rfl) ),by omega,?_,by omega,(fun c hc=>match c,hc with|0,_=>(by kernel_rfl)|1,_=>(by kernel_rfl) ),by omega,fun c2=>have c2:(↑((aH on (L.getD i default).atoms).length):Int) > 0:=(of_decide_eq_true c2);⟨by omega,by omega,by omega,by omega,by omega,by omega,?_,by omega,?_⟩,fun c2=>have c2:¬(↑((aH on (L.getD i default).atoms).length):Int) > 0:=(of_decide_eq_false c2);⟨by omega,?_⟩⟩,fun hcc=>(nomatch (hge.symm.trans hcc))⟩,fun c1=>have c1:¬(i:Int)<(L.length:Int):=(of_decide_eq_false c1);?_⟩
      ·exact qm rfl rfl (by kernel_rfl) rfl (by show i*2+2<=L.length*2;omega) rH
      ·exact⟨rfl,rG R on L i _ _ _ _ _ _ _ (by omega) hlt ⟨o2,by omega⟩ o4 g⟩
      ·intro c hc
       rw[hm] at hc ⊢
       exact(rI (on:=on) (nums:=NU) (l:=L) (q:=aZ on L i) (i:=i) (z:=fun j=>nth [.int .i64 0,.fz .nil 0 0 fun _ _=>.any] (j%2)) hc).trans (by rw[har];kernel_rfl)
      ·have hsc:=jO (on:=on) (l:=L) (i:=i)
       rw[if_pos (show 0<(aH on (L.getD i default).atoms).length by omega)] at hsc
       have hm2:m+1=(aZ on L (i+1)).length:=by rw[hsc,List.length_append,<-hm];rfl
       refine aL (i+1,m+1) (a9 (gV 33) 34 rfl rfl rfl rfl rfl ⟨Le.refl _,Le.refl _,Le.refl _,Le.refl _,Le.refl _,Le.refl _,Le.refl _,Le.of_eq rfl,trivial⟩ (lx hL24 (by omega) hm2 (by rw[hsc];rfl))) ⟨by show i+1<=_;omega,hm2⟩ (by show L.length-(i+1)<L.length-i;omega)
      ·have hsc:=jO (on:=on) (l:=L) (i:=i)
       rw[if_neg (show ¬0<(aH on (L.getD i default).atoms).length by omega)] at hsc
       have hm2:m=(aZ on L (i+1)).length:=by rw[hsc,<-hm]
       refine aL (i+1,m) (a9 (gV 30) 32 rfl rfl rfl rfl rfl ⟨Le.refl _,Le.refl _,Le.refl _,Le.refl _,Le.refl _,Le.refl _,Le.refl _,Le.of_eq rfl,trivial⟩ (lx hL24 (by omega) hm2 (by rw[hsc];rfl))) ⟨by show i+1<=_;omega,hm2⟩ (by show L.length-(i+1)<L.length-i;omega)
      ·exfalso;omega
     ·have hge:decide ((L.getD i default).rule >= 0)=false:=decide_eq_false (by omega)
      have har:d7 NU (L.getD i default)=(L.getD i default).rule:=if_neg hru
      refine vcQ [[1,1,1,1,1,1,1,1,0,1,0,0,1,1,0,0,1,0,1,0]] (lkL [(16,[1,7,9,13,14,62,63,64,65]),(17,[1,7,9,13,14,16,62,63,64]),(18,[1,7,9,13,14,16,62,63,64,70]),(20,[1,7,9,13,14,16,62,63,64]),(21,[1,7,9,13,14,16,62,63,64,85]),(22,[1,7,9,13,14,62,63,64]),(23,[1,7,9,13,14,62,63,64])]) (lkL [(17,[(1,ROrc.kop (agg 2 (nth [int i64 (L.getD i default).rule,ow true (6+i) ((L.getD i default).atoms.length) 1]))),(3,ROrc.val (Orc.obj (nth [int i64 (L.getD i default).rule,ow true (6+i) ((L.getD i default).atoms.length) 1])))]),(20,[(3,ROrc.call (sl (6+i) 0 ((aH on (L.getD i default).atoms).length) ((L.getD i default).atoms.length) false 1) (cells false 2 (nth [int i64 p.atoms,ae p.rules])::(cells false 1 fun (x:Nat)=>int u64 (on:Int))::cells false 2 (nth [int i64 p.atoms,ae (aE p on).rules])::cells false ((aI on p.rules.l).length*1) (ab NU)::cells false 27 (aQ V)::cells false (L.length*2) (cl 6 L)::bO (ad on L (i+1)) [cells false (m*2) (bG on NU L (aZ on L i)),cells false 2 (nth [int i64 (L.getD i default).rule,ow true (6+i) ((L.getD i default).atoms.length) 1])]) g),(5,ROrc.val (Orc.obj (nth [int i64 (L.getD i default).rule,sl (6+i) 0 ((aH on (L.getD i default).atoms).length) ((L.getD i default).atoms.length) false 1])))]),(22,[(3,ROrc.val (Orc.obj (bG on NU L (aZ on L i++[i]))))])]) (fun Q=>(fun (u1:List AObj)=>(fun (u2:List AObj)=>(fun (u3:Stp)=>(fun (u4:AV)=>(fun (u5:Int)=>(fun (u6:AObj)=>(fun (u7:List (Nat × AV))=>(fun (u8:List AV)=>(fun (u9:Nat)=>(fun (u10:Nat)=>(fun (u11:Int)=>(fun (u12:Int)=>(fun (u13:AObj)=>(fun (u14:AObj)=>(fun (u15:List AV)=>(fun (u16:AObj)=>(decide (u12<u5)=true->(0<=u12/\u12<u5)/\OpOk Tryd.prog R (Oper.mk (some 67) (Op.load 71 (Operand.tmp 66)) 71 "table.go:316" #[Edge.mk 0 Ground.data] none) (evO [Row.mk (some 66) none (ref 5 (i*2)) false (some []) []] u7 []) u1 g (agg 2 (nth u8)) u1 g/\2<=2/\(∀(c:Nat),c<2->nth u8 c=ah (nth u15) 0 2 (List.brecOn (motive:=fun (x:List AV)=>Nat->AV) u8 nth._f) c)/\1<=2/\(decide (u3.rule >= 0)=true->Wp Tryd.prog R 98 0 Rd.top (af Tryd.prog 25) [1,1,1,1,1,1,1,1,0,1,0,0,1,1,0,0,1,0,1,0] (aq Tryd.prog R 98 0 Rd.top (af Tryd.prog 25) Q [Kont.seq [1,1,1,1,1,1,1,1,0,1,0,0,1,1,0,0,1,1],Kont.blk 3,Kont.seq [1,1,1,1,1,1,1,1,0,1,0,0,1,1,1]]) (St.mk [(1,int i64 goal),(7,ref 1 0),(9,ow true 3 u10 1),(13,ref 4 0),(14,ow true 30 m 2),(16,ref 31 0),(62,ow true 5 (L.length) 2),(63,int i64 u5),(64,int i64 u12),(70,AV.bool (decide (u3.rule >= 0)))] u2 g))/\(decide (u3.rule >= 0)=false->2<=2/\(true=true/\Does Tryd.prog R 72 [ow true (6+i) (u3.atoms.length) 1,fn 73 0 (nth []) 1 (nth [ref 1 0])] u2 g (ret u4) [u13,u14,u6,u16,cells false 27 (aQ V),cells false (L.length*2) (cl 6 L),ad on L u9 0,ad on L u9 1,ad on L u9 2,ad on L u9 3,ad on L u9 4,ad on L u9 5,ad on L u9 6,ad on L u9 7,ad on L u9 8,ad on L u9 9,ad on L u9 10,ad on L u9 11,ad on L u9 12,ad on L u9 13,ad on L u9 14,ad on L u9 15,ad on L u9 16,ad on L u9 17,ad on L u9 18,ad on L u9 19,ad on L u9 20,ad on L u9 21,ad on L u9 22,ad on L u9 23,cells false (m*2) (bG on NU L (aZ on L i)),cells false 2 (nth u8)] g)/\2<=2/\(∀(c:Nat),c<2->nth [int i64 u3.rule,u4] c=ah (nth u8) 1 1 (fun (x:Nat)=>u4) c)/\2<=2/\(decide (u11 > 0)=true->2<=2/\0<2/\(m+1)*32<=aG/\m+1<=aG/\2<=2/\m*2<=m*2/\(∀(c:Nat),c<(m+1)*2->bG on NU L (aZ on L i++[i]) c=bc 2 m (fun (i_1 j:Nat)=>bG on NU L (aZ on L i) (i_1*2+j)) (fun (i j:Nat)=>ah (fun (j:Nat)=>nth u15 (j%2)) 0 2 (List.brecOn (motive:=fun (x:List AV)=>Nat->AV) [int i64 u3.rule,u4] nth._f) (0+i*2+j)) c)/\(-9223372036854775808<=u12+1/\u12+1<=9223372036854775807)/\Q AEx.normal (St.mk [(1,int i64 goal),(7,ref 1 0),(9,ow true 3 u10 1),(13,ref 4 0),(14,ow true 33 (m+1) 2),(62,ow true 5 (L.length) 2),(63,int i64 u5),(64,int i64 (u12+1))] [u13,u14,u6,u16,cells false 27 (aQ V),cells false (L.length*2) (cl 6 L),ad on L u9 0,ad on L u9 1,ad on L u9 2,ad on L u9 3,ad on L u9 4,ad on L u9 5,ad on L u9 6,ad on L u9 7,ad on L u9 8,ad on L u9 9,ad on L u9 10,ad on L u9 11,ad on L u9 12,ad on L u9 13,ad on L u9 14,ad on L u9 15,ad on L u9 16,ad on L u9 17,ad on L u9 18,ad on L u9 19,ad on L u9 20,ad on L u9 21,ad on L u9 22,ad on L u9 23,dead,cells false 2 (nth [int i64 u3.rule,u4]),cells false 2 (ah (fun (j:Nat)=>nth u15 (j%2)) 0 2 (List.brecOn (motive:=fun (x:List AV)=>Nat->AV) [int i64 u3.rule,u4] nth._f)),cells false ((m+1)*2) (bG on NU L (aZ on L i++[i]))] g))/\(decide (u11 > 0)=false->(-9223372036854775808<=u12+1/\u12+1<=9223372036854775807)/\Q AEx.normal (St.mk [(1,int i64 goal),(7,ref 1 0),(9,ow true 3 u10 1),(13,ref 4 0),(14,ow true 30 m 2),(62,ow true 5 (L.length) 2),(63,int i64 u5),(64,int i64 (u12+1))] [u13,u14,u6,u16,cells false 27 (aQ V),cells false (L.length*2) (cl 6 L),ad on L u9 0,ad on L u9 1,ad on L u9 2,ad on L u9 3,ad on L u9 4,ad on L u9 5,ad on L u9 6,ad on L u9 7,ad on L u9 8,ad on L u9 9,ad on L u9 10,ad on L u9 11,ad on L u9 12,ad on L u9 13,ad on L u9 14,ad on L u9 15,ad on L u9 16,ad on L u9 17,ad on L u9 18,ad on L u9 19,ad on L u9 20,ad on L u9 21,ad on L u9 22,ad on L u9 23,cells false (m*2) (bG on NU L (aZ on L i)),cells false 2 (nth [int i64 u3.rule,u4])] g))))/\(decide (u12<u5)=false->Q (AEx.exit 2) (St.mk u7 u1 g))) (cells false (u10*1) fun (a:Nat)=>ab NU a)) ([int i64 0,fz Fz.nil 0 0 fun _ _=>any])) (cells false 1 fun (x:Nat)=>int u64 (on:Int))) (cells false 2 (nth [int i64 p.atoms,ae p.rules]))) ((i:Int))) ((↑((aH on u3.atoms).length):Int))) ((aI on p.rules.l).length)) (i+1)) ([int i64 u3.rule,ow true (6+i) (u3.atoms.length) 1])) ([(1,int i64 goal),(7,ref 1 0),(9,ow true 3 ((aI on p.rules.l).length) 1),(13,ref 4 0),(14,ow true 30 m 2),(62,ow true 5 (L.length) 2),(63,int i64 u5),(64,int i64 (i:Int)),(65,AV.bool (decide ((i:Int)<u5)))])) (cells false 2 (nth [int i64 p.atoms,fz Fz.auto 2 ((aE p on).rules.l.length) fun (i:Nat)=>bJ ((aE p on).rules.l.getD i default)]))) ((L.length:Int))) (sl (6+i) 0 ((aH on u3.atoms).length) (u3.atoms.length) false 1)) (L.getD i default)) ([cells false 2 (nth [int i64 p.atoms,ae p.rules]),cells false 1 fun (x:Nat)=>int u64 (on:Int),cells false 2 (nth [int i64 p.atoms,fz Fz.auto 2 ((aE p on).rules.l.length) fun (i:Nat)=>bJ ((aE p on).rules.l.getD i default)]),cells false ((aI on p.rules.l).length*1) fun (a:Nat)=>ab NU a,cells false 27 (aQ V),cells false (L.length*2) (cl 6 L),ad on L i 0,ad on L i 1,ad on L i 2,ad on L i 3,ad on L i 4,ad on L i 5,ad on L i 6,ad on L i 7,ad on L i 8,ad on L i 9,ad on L i 10,ad on L i 11,ad on L i 12,ad on L i 13,ad on L i 14,ad on L i 15,ad on L i 16,ad on L i 17,ad on L i 18,ad on L i 19,ad on L i 20,ad on L i 21,ad on L i 22,ad on L i 23,cells false (m*2) (bG on NU L (aZ on L i)),cells false 2 (nth [int i64 (L.getD i default).rule,ow true (6+i) ((L.getD i default).atoms.length) 1])])) ([cells false 2 (nth [int i64 p.atoms,ae p.rules]),cells false 1 fun (x:Nat)=>int u64 (on:Int),cells false 2 (nth [int i64 p.atoms,fz Fz.auto 2 ((aE p on).rules.l.length) fun (i:Nat)=>bJ ((aE p on).rules.l.getD i default)]),cells false ((aI on p.rules.l).length*1) fun (a:Nat)=>ab NU a,cells false 27 (aQ V),cells false (L.length*2) (cl 6 L),ad on L i 0,ad on L i 1,ad on L i 2,ad on L i 3,ad on L i 4,ad on L i 5,ad on L i 6,ad on L i 7,ad on L i 8,ad on L i 9,ad on L i 10,ad on L i 11,ad on L i 12,ad on L i 13,ad on L i 14,ad on L i 15,ad on L i 16,ad on L i 17,ad on L i 18,ad on L i 19,ad on L i 20,ad on L i 21,ad on L i 22,ad on L i 23,cells false (m*2) (bG on NU L (aZ on L i))])) (fun _=>by kernel_rfl) ⟨fun c1=>have c1:(i:Int)<(L.length:Int):=(of_decide_eq_true c1);⟨by omega,?_,by omega,(fun c hc=>match c,hc with|0,_=>(by kernel_rfl)|1,_=>(by kernel_rfl) ),by omega,fun hcc=>(nomatch (hge.symm.trans hcc)),fun _=>⟨by omega,?_,by omega,(fun c hc=>match c,hc with|0,_=>(by kernel_rfl)|1,_=>(by kernel_rfl) ),by omega,fun c2=>have c2:(↑((aH on (L.getD i default).atoms).length):Int) > 0:=(of_decide_eq_true c2);⟨by omega,by omega,by omega,by omega,by omega,by omega,?_,by omega,?_⟩,fun c2=>have c2:¬(↑((aH on (L.getD i default).atoms).length):Int) > 0:=(of_decide_eq_false c2);⟨by omega,?_⟩⟩⟩,fun c1=>have c1:¬(i:Int)<(L.length:Int):=(of_decide_eq_false c1);?_⟩
      ·exact qm rfl rfl (by kernel_rfl) rfl (by show i*2+2<=L.length*2;omega) rH
      ·exact⟨rfl,rG R on L i _ _ _ _ _ _ _ (by omega) hlt ⟨o2,by omega⟩ o4 g⟩
      ·intro c hc
       rw[hm] at hc ⊢
       exact(rI (on:=on) (nums:=NU) (l:=L) (q:=aZ on L i) (i:=i) (z:=fun j=>nth [.int .i64 0,.fz .nil 0 0 fun _ _=>.any] (j%2)) hc).trans (by rw[har];kernel_rfl)
      ·have hsc:=jO (on:=on) (l:=L) (i:=i)
       rw[if_pos (show 0<(aH on (L.getD i default).atoms).length by omega)] at hsc
       have hm2:m+1=(aZ on L (i+1)).length:=by rw[hsc,List.length_append,<-hm];rfl
       refine aL (i+1,m+1) (a9 (gV 33) 34 rfl rfl rfl rfl rfl ⟨Le.refl _,Le.refl _,Le.refl _,Le.refl _,Le.refl _,Le.refl _,Le.refl _,Le.of_eq rfl,trivial⟩ (lx hL24 (by omega) hm2 (by rw[hsc];rfl))) ⟨by show i+1<=_;omega,hm2⟩ (by show L.length-(i+1)<L.length-i;omega)
      ·have hsc:=jO (on:=on) (l:=L) (i:=i)
       rw[if_neg (show ¬0<(aH on (L.getD i default).atoms).length by omega)] at hsc
       have hm2:m=(aZ on L (i+1)).length:=by rw[hsc,<-hm]
       refine aL (i+1,m) (a9 (gV 30) 32 rfl rfl rfl rfl rfl ⟨Le.refl _,Le.refl _,Le.refl _,Le.refl _,Le.refl _,Le.refl _,Le.refl _,Le.of_eq rfl,trivial⟩ (lx hL24 (by omega) hm2 (by rw[hsc];rfl))) ⟨by show i+1<=_;omega,hm2⟩ (by show L.length-(i+1)<L.length-i;omega)
      ·exfalso;omega
    ·have hie:i=L.length:=by omega
     subst hie
     have hbb2:decide ((L.length:Int)<(L.length:Int))=false:=decide_eq_false (by omega)
     refine vcQ [[1,1,1,1,1,1,1,1,0,1,0,0,1,0,0]] (lkL [(16,[1,7,9,13,14,62,63,64,65])]) (fun _=>[]) (fun Q=>(fun (u1:St R.σ)=>(fun (u2:Int)=>(decide (u2<u2)=true->Wp Tryd.prog R 98 0 Rd.top (af Tryd.prog 25) [1,1,1,1,1,1,1,1,0,1,0,0,1,0,0] (aq Tryd.prog R 98 0 Rd.top (af Tryd.prog 25) Q [Kont.seq [1,1,1,1,1,1,1,1,0,1,0,0,1,1]]) u1)/\(decide (u2<u2)=false->Q (AEx.exit 2) u1)) ((L.length:Int))) (St.mk [(1,int i64 goal),(7,ref 1 0),(9,ow true 3 ((aI on p.rules.l).length) 1),(13,ref 4 0),(14,ow true 30 m 2),(62,ow true 5 (L.length) 2),(63,int i64 (L.length:Int)),(64,int i64 (L.length:Int)),(65,AV.bool (decide ((L.length:Int)<(L.length:Int))))] [cells false 2 (nth [int i64 p.atoms,ae p.rules]),cells false 1 fun (x:Nat)=>int u64 (on:Int),cells false 2 (nth [int i64 p.atoms,fz Fz.auto 2 ((aE p on).rules.l.length) fun (i:Nat)=>bJ ((aE p on).rules.l.getD i default)]),cells false ((aI on p.rules.l).length*1) fun (a:Nat)=>ab NU a,cells false 27 (aQ V),cells false (L.length*2) (cl 6 L),ad on L (L.length) 0,ad on L (L.length) 1,ad on L (L.length) 2,ad on L (L.length) 3,ad on L (L.length) 4,ad on L (L.length) 5,ad on L (L.length) 6,ad on L (L.length) 7,ad on L (L.length) 8,ad on L (L.length) 9,ad on L (L.length) 10,ad on L (L.length) 11,ad on L (L.length) 12,ad on L (L.length) 13,ad on L (L.length) 14,ad on L (L.length) 15,ad on L (L.length) 16,ad on L (L.length) 17,ad on L (L.length) 18,ad on L (L.length) 19,ad on L (L.length) 20,ad on L (L.length) 21,ad on L (L.length) 22,ad on L (L.length) 23,cells false (m*2) (bG on NU L (aZ on L (L.length)))] g)) (fun _=>by kernel_rfl) ⟨fun hcc=>(nomatch (hbb2.symm.trans hcc)),fun _=>?_⟩
     all_goals first|(exfalso;rw[hbb2] at c1;cases c1)|skip
     refine⟨_,To.refl _,vcQ [] (lkL [(24,[4,5,6])]) (lkL [(24,[(5,ROrc.kop (int i64 (V (goal.toNat))))])]) (fun Q=>(fun (u1:List AObj)=>(fun (u2:Int)=>(0<=goal/\goal<(↑24:Int))/\OpOk Tryd.prog R (Oper.mk (some 96) (Op.load 43 (Operand.tmp 95)) 43 "table.go:325" #[Edge.mk 4 Ground.data] none) (evO [Row.mk (some 95) none (ref 4 (goal.toNat+2)) false (some []) [],Row.mk (some 94) none (ref 4 2) false (some []) [],Row.mk (some 93) none (ref 4 0) false (some []) [],Row.mk (some 92) none (int i64 goal) false (some []) [],Row.mk (some 91) none (ref 4 0) false (some []) []] [(1,int i64 goal),(7,ref 1 0),(9,ow true 3 ((aI on p.rules.l).length) 1),(13,ref 4 0),(14,ow true 30 m 2),(62,ow true 5 (L.length) 2),(63,int i64 u2),(64,int i64 u2),(65,AV.bool (decide (u2<u2)))] []) u1 g (int i64 (V (goal.toNat))) u1 g/\Q AEx.ret (St.mk [(4,int i64 (V (goal.toNat))),(5,ow true 30 m 2),(6,int i64 0)] u1 g)) ((L.length:Int))) ([cells false 2 (nth [int i64 p.atoms,ae p.rules]),cells false 1 fun (x:Nat)=>int u64 (on:Int),cells false 2 (nth [int i64 p.atoms,fz Fz.auto 2 ((aE p on).rules.l.length) fun (i:Nat)=>bJ ((aE p on).rules.l.getD i default)]),cells false ((aI on p.rules.l).length*1) fun (a:Nat)=>ab NU a,cells false 27 (aQ V),cells false (L.length*2) (cl 6 L),ad on L (L.length) 0,ad on L (L.length) 1,ad on L (L.length) 2,ad on L (L.length) 3,ad on L (L.length) 4,ad on L (L.length) 5,ad on L (L.length) 6,ad on L (L.length) 7,ad on L (L.length) 8,ad on L (L.length) 9,ad on L (L.length) 10,ad on L (L.length) 11,ad on L (L.length) 12,ad on L (L.length) 13,ad on L (L.length) 14,ad on L (L.length) 15,ad on L (L.length) 16,ad on L (L.length) 17,ad on L (L.length) 18,ad on L (L.length) 19,ad on L (L.length) 20,ad on L (L.length) 21,ad on L (L.length) 22,ad on L (L.length) 23,cells false (m*2) (bG on NU L (aZ on L (L.length)))])) (fun _=>by kernel_rfl) ⟨by omega,?_,?_⟩⟩
     ·exact fF rfl rfl (by kernel_rfl) rfl (by show _+1<=27;omega) (nV (by omega) (by omega))
     ·show bw Tryd.prog R 0 _ _ _ _ .ret _
      refine dh (.tup 3 (nth [.int .i64 (V goal.toNat),.ow true 30 m 2,.int .i64 0])) _ rfl trivial (fG 0 [(0,.tup 3 (nth [.int .i64 (V goal.toNat),aJ (cF on NU L),.int .i64 0]))] (Nat.le_refl _) (Nat.zero_le _) (fun i hi=>absurd hi (Nat.not_lt_zero i)) ⟨av.tup (fun j hj=>match j,hj with|0,_=>av.below trivial|1,_=>?_|2,_=>av.below trivial),trivial⟩)
      exact xX hm hL24 rfl (fun k hk=>(jN (by omega)).trans rfl)
theorem rK (R:Res)(p:Prg)(goal:Int)(hgl : -1000000<=p.atoms/\p.atoms<=1000000)(hs:em p)(h:(aR p&&decide (0<=goal/\goal<=p.atoms-1))=false)(hp:List AObj)(g:R.σ):Does Tryd.prog R 25 [ay p,.int .i64 goal] hp g (.ret (.tup 3 (nth [.int .i64 0,.fz .nil 0 0 (fun _ _=>.any),.int .i64 2]))) hp g:=by
 refine ca (fun R g=>?_) (by exact⟨⟨⟨trivial,trivial⟩,trivial⟩,trivial,trivial⟩) R hp g
 refine az (nt:=98) (rs:=[.tmp 4,.tmp 5,.tmp 6]) (k0:=0) (by kernel_rfl) (by kernel_rfl) (by kernel_rfl) rfl ?_
 have hc:(bif ((if aR p then(0:Int) else 2) != 0) then true else !decide (0<=goal/\goal<=p.atoms-1))=true:=by
  cases hb:aR p with
  |false=>rfl
  |true=>
   rw[hb,Bool.true_and] at h
   rw[h]
   rfl
 refine vcQ [[1,0,1,1]] (lkL [(0,[1,2]),(1,[1,2,27]),(2,[4,5,6])]) (lkL [(1,[(1,ROrc.pcall (int i64 (if aR p=true then 0 else 2))),(8,ROrc.pcall (AV.bool (decide (0<=goal/\goal<=p.atoms-1))))])]) (fun Q=>(fun (u1:Bool)=>(fun (u2:Int)=>(fun (u3:AObj)=>2<=2/\(∀(hp:List AObj) (g:R.σ),true=true/\Does Tryd.prog R 16 [ay p] hp g (ret (int i64 u2)) hp g)/\((!u2 != 0)=true->1<=2)/\((!u2 != 0)=true -> -9223372036854775808<=p.atoms-1/\p.atoms-1<=9223372036854775807)/\((!u2 != 0)=true->∀(hp:List AObj) (g:R.σ),true=true/\Does Tryd.prog R 58 [int i64 goal,int i64 0,int i64 (p.atoms-1)] hp g (ret (AV.bool (decide (0<=goal/\goal<=p.atoms-1)))) hp g)/\(u1=true->Q AEx.ret (St.mk [(4,int i64 0),(5,fz Fz.nil 0 0 fun _ _=>any),(6,int i64 2)] [u3] g))/\(u1=false->Wp Tryd.prog R 98 0 Rd.top (af Tryd.prog 25) [1,0,1,1] (aq Tryd.prog R 98 0 Rd.top (af Tryd.prog 25) Q [Kont.seq [1,1]]) (St.mk [(1,int i64 goal),(2,ref 0 0),(27,AV.bool u1)] [u3] g))) (cells false 2 (nth [int i64 p.atoms,ae p.rules]))) (if aR p=true then 0 else 2)) (bif (if aR p=true then 0 else 2) != 0 then true else !decide (0<=goal/\goal<=p.atoms-1))) (fun _=>by kernel_rfl) ⟨by omega,(fun _ _=>⟨rfl,(f9 _ _ _ _ (by omega))⟩),by omega,by omega,(fun hgd=>(fun _ _=>⟨rfl,(dZ _ _ _ _ _ _)⟩)),fun _=>?_,fun hcc=>(nomatch (hc.symm.trans hcc))⟩
 refine(ax (bR _ _ rfl trivial ⟨⟨⟨trivial,trivial⟩,trivial⟩,trivial⟩ rfl) (Le.refl _))
def hpD (p:Prg)(v:Nat->Int)(es:List (Value × AV))(c:Nat->AV):List AObj:=[.cells false 27 (ai p v (.mp 1)),.map es,.cells false 1 c]
theorem xY (R:Res)(p:Prg)(v:Nat->Int)(es:List (Value × AV))(c:Nat->AV)(g:R.σ):DoesD Tryd.prog R 100 [.ref 2 0] (hpD p v es c) g (some (.ifc 145 (.agg 0 (nth [])))) (hpD p v es (nth [.bool false])) g:=by
 refine ve (nt:=cP Tryd.prog 100) (rs:=dN Tryd.prog 100) (k0:=3) 4 1 (by kernel_rfl) (by kernel_rfl) (by kernel_rfl) rfl (by kernel_rfl) (by decide) (by decide) (by decide) (by decide) (by decide) ?_
 refine vcQ [[1,1,0,0,1,1,0],[1,1,1]] (lkL [(1,[0,1,6]),(2,[0,1,3]),(3,[0,1,13])]) (lkL [(2,[(6,ROrc.kop any)]),(5,[(0,ROrc.val (Orc.obj (nth [AV.bool false])))])]) (fun Q=>(fun (u1:List AObj)=>(fun (u2:AV)=>(true=true->OpOk Tryd.prog R (Oper.mk none (Op.store 145 (Operand.tmp 2) (Operand.tmp 10)) 0 "table.go:214" #[Edge.mk 5 Ground.data,Edge.mk 3 Ground.data,Edge.mk 0 Ground.phase,Edge.mk 1 Ground.phase,Edge.mk 2 Ground.phase,Edge.mk 3 Ground.phase,Edge.mk 4 (Ground.textOnly Departure.lateStores),Edge.mk 5 Ground.phase] none) (evO [Row.mk (some 2) none (ref 3 0) true (some [3]) [],Row.mk (some 11) none (AV.bool true) false (some []) [],Row.mk (some 10) none u2 false (some []) [],Row.mk (some 7) none (tup 2 (nth [u2,AV.bool true])) false (some []) [],Row.mk (some 9) none (tup 2 (nth [u2,AV.bool true])) false (some []) [],Row.mk (some 8) none (ifc 145 u2) false (some []) []] [(0,ref 2 0),(1,ifc 145 u2),(6,AV.bool true)] []) u1 g any u1 g/\(false=true->Wp Tryd.prog R (cP Tryd.prog 100) 3 Rd.no (af Tryd.prog 100) [1,1,0,0,1,1,0] (aq Tryd.prog R (cP Tryd.prog 100) 3 Rd.no (af Tryd.prog 100) Q [Kont.seq [1,1,0,1]]) (St.mk [(0,ref 2 0),(1,ifc 145 u2),(13,AV.bool false)] u1 g))/\(false=false->1<=1/\(∀(c_1:Nat),c_1<1->nth [AV.bool false] c_1=ah c 0 1 (fun (x:Nat)=>AV.bool false) c_1)/\Q AEx.normal (St.mk [] [cells false 27 (ai p v (AV.mp 1)),AObj.map es,cells false 1 (nth [AV.bool false]),cells false 0 (nth [])] g)))/\(true=false->Wp Tryd.prog R (cP Tryd.prog 100) 3 Rd.no (af Tryd.prog 100) [1,1,1] (aq Tryd.prog R (cP Tryd.prog 100) 3 Rd.no (af Tryd.prog 100) Q []) (St.mk [(0,ref 2 0),(1,ifc 145 u2),(6,AV.bool true)] [cells false 27 (ai p v (AV.mp 1)),AObj.map es,cells false 1 c] g))) (agg 0 (nth []))) ([cells false 27 (ai p v (AV.mp 1)),AObj.map es,cells false 1 c,cells false 0 (nth [])])) (fun _=>by kernel_rfl) ⟨fun _=>⟨?_,fun h=>(nomatch h),fun _=>⟨by omega,(fun c hc=>match c,hc with|0,_=>(by kernel_rfl) ),?_⟩⟩,fun h=>(nomatch h)⟩
 ·exact v7 rfl rfl rfl (by kernel_rfl)
 ·refine(ax (bZ 3 _ _ rfl trivial (by omega) trivial ⟨(fun _ _=>(by first|exact trivial|apply aO)),(fun j hj=>match j,hj with|0,_=>trivial ),trivial⟩ (by kernel_rfl) rfl rfl) (Le.refl _))
theorem xZ (R:Res)(p:Prg)(v:Nat->Int)(es:List (Value × AV))(s:Step)(n:Nat)(c:Nat->AV)(hl:p.rules.l.length<1000000)(hr:∀r,r∈p.rules.l->aP r)(h:eo p v s=false)(g:R.σ):Does Tryd.prog R 141 [cX s,.ref 0 0] [.cells false 27 (ai p v (.mp 1)),.map es,.cells false n c] g (.pan (.ifc 145 (.agg 0 (nth [])))) [.cells false 27 (ai p v (.mp 1)),.map es,.cells false n c] g:=
 bz [0,1] 3 (fun R g=>wE R p v es s hl hr h g) rfl rfl rfl ⟨LeO.cells (fun j hj=>(cq (f:=aC [0,1] 3) rfl).symm),rfl,trivial⟩ (by exact⟨by decide,trivial⟩) ⟨au (by exact⟨⟨trivial,trivial⟩,trivial⟩),Le.refl _,trivial⟩ (Le.of_eq (by rfl)) ⟨LeO.cells (fun j hj=>cq rfl),rfl,LeO.refl _,trivial⟩
theorem x7 (R:Res)(p:Prg)(v:Nat->Int)(es:List (Value × AV))(s:Step)(hl:p.rules.l.length<1000000)(hr:∀r,r∈p.rules.l->aP r)(h:eo p v s=false)(g:R.σ):Does Tryd.prog R 67 [.ref 0 0,.ifc 149 (cX s)] [.cells false 27 (ai p v (.mp 1)),.map es] g (.ret (.bool false)) [.cells false 27 (ai p v (.mp 1)),.map es] g:=by
 refine vf (K:=100) (nt:=cP Tryd.prog 67) (rs:=dN Tryd.prog 67) (k0:=2) 5 [4] (by kernel_rfl) (by kernel_rfl) (by kernel_rfl) rfl (by kernel_rfl) (by kernel_rfl) (by decide) (by decide) ?_
 refine vcQ [] (lkL [(0,[0,1,4])]) (fun _=>[]) (fun Q=>Q AEx.normal (St.mk [(0,ref 0 0),(1,ifc 149 (agg 2 (nth [int i64 s.rule,fz s.atoms.2 1 (s.atoms.l.length) fun (i x:Nat)=>ab s.atoms.l i]))),(4,ref 2 0)] [cells false 27 (ai p v (AV.mp 1)),AObj.map es,cells false 1 fun (a:Nat)=>AV.bool false] g)) (fun _=>by kernel_rfl) (?_)
 refine vg 3 [.ref 2 0] rfl rfl rfl ?_
 have hD:=fun (R:Res) (n:Nat) (c:Nat->AV) (g:R.σ)=>xZ R p v es s n c hl hr h g
 refine vcQ [] (lkL [(2,[4])]) (lkL [(2,[(2,ROrc.ipan (ifc 145 (agg 0 (nth []))) [cells false 27 (ai p v (AV.mp 1)),AObj.map es,cells false 1 fun (a:Nat)=>AV.bool false] g)])]) (fun Q=>(fun (u1:List AObj)=>(true=true/\true=true/\Does Tryd.prog R 141 [agg 2 (nth [int i64 s.rule,fz s.atoms.2 1 (s.atoms.l.length) fun (i x:Nat)=>ab s.atoms.l i]),ref 0 0] u1 g (Oc.pan (ifc 145 (agg 0 (nth [])))) u1 g)/\Q (AEx.pan (ifc 145 (agg 0 (nth [])))) (St.mk [(4,ref 2 0)] u1 g)) ([cells false 27 (ai p v (AV.mp 1)),AObj.map es,cells false 1 fun (a:Nat)=>AV.bool false])) (fun _=>by kernel_rfl) ⟨⟨by kernel_rfl,rfl,(hD _ _ _ _)⟩,?_⟩
 refine⟨_,_,xY R p v es _ g,?_⟩
 refine(ax (bZ 2 (AV.bool false) ([0+(TyI.mk (TypeInfo.mk TypeDesc.bool "bool" 1 1 false 1 1 (some (Value.bool false)) true #[]).desc Tryd.prog.types[4].size Tryd.prog.types[4].bytes (cM (ec (Value.bool false))) (dz (TypeInfo.mk TypeDesc.bool "bool" 1 1 false 1 1 (some (Value.bool false)) true #[]).desc) (eN Tryd.prog 4)).size<=1]) (by kernel_rfl) (by exact⟨by decide,trivial⟩) (by omega) trivial ⟨(fun _ _=>(by first|exact trivial|apply aO)),trivial⟩ (by kernel_rfl) rfl rfl) (Le.refl _))
theorem x8 {s:Step}(h:s.rule ≠ -1):la s=.ifc 149 (cX s):=if_neg h
theorem x9 (R:Res)(s:Step)(h:s.rule ≠ -1)(hp:List AObj)(g:R.σ):Does Tryd.prog R 68 [cX s] hp g (.ret (.ifc 149 (cX s))) hp g:=by
 rw[<-x8 h]
 exact wD R s hp g
theorem ya (R:Res)(p:Prg)(v:Nat->Int)(es:List (Value × AV))(s:Step)(n0 n3:Nat)(c0 c3:Nat->AV)(hl:p.rules.l.length<1000000)(hr:∀r,r∈p.rules.l->aP r)(h:eo p v s=false)(g:R.σ):Does Tryd.prog R 67 [.ref 1 0,.ifc 149 (cX s)] [.cells false n0 c0,.cells false 27 (ai p v (.mp 2)),.map es,.cells false n3 c3] g (.ret (.bool false)) [.cells false n0 c0,.cells false 27 (ai p v (.mp 2)),.map es,.cells false n3 c3] g:=
 bz [1,2] 4 (fun R g=>x7 R p v es s hl hr h g) rfl rfl rfl ⟨LeO.cells (fun j hj=>(cq (f:=aC [1,2] 4) rfl).symm),rfl,trivial⟩ (by exact⟨by decide,trivial⟩) ⟨Le.refl _,au (by exact⟨⟨trivial,trivial⟩,trivial⟩),trivial⟩ (Le.refl _) ⟨LeO.refl _,LeO.cells (fun j hj=>cq rfl),rfl,LeO.refl _,trivial⟩
theorem yb (R:Res)[Tab LT R](p:Prg)(l:KL Step)(hb:aR p=true)(hll:0<l.l.length/\l.l.length<1000000)(h1:(l.l.getD 0 default).rule ≠ -1)(h2:eo p (fun _=>3) (l.l.getD 0 default)=false)(g:R.σ):Does Tryd.prog R 23 [ay p,aJ l] [] g (.ret (.tup 2 (nth [.int .i64 0,.int .i64 7]))) [] g:=by
 obtain⟨hl,hr,hp,hh,hx⟩:=ff hb
 have hs:em p:=iK hb
 have hp':1<=p.atoms/\p.atoms<=24:=hp
 refine az (nt:=28) (rs:=[.tmp 4,.tmp 5]) (k0:=0) (by kernel_rfl) (by kernel_rfl) (by kernel_rfl) rfl ?_
 have hc:((if aR p then(0:Int) else 2) != 0)=false:=by
  rw[hb]
  rfl
 refine vcQ [[1,0,1,0]] (lkL [(0,[1,2]),(1,[1,2,11]),(3,[1,6]),(4,[6,14,15,16])]) (lkL [(1,[(1,ROrc.pcall (int i64 (if aR p=true then 0 else 2)))]),(3,[(1,ROrc.call (ref 1 0) [cells false 2 (nth [int i64 p.atoms,ae p.rules]),cells false 27 (ai p (fun (x:Nat)=>3) (AV.mp 2)),AObj.map (esF p.rules.l)] g)])]) (fun Q=>(fun (u1:AObj)=>(fun (u2:Int)=>(fun (u3:List AObj)=>2<=2/\(∀(hp:List AObj) (g:R.σ),true=true/\Does Tryd.prog R 16 [ay p] hp g (ret (int i64 u2)) hp g)/\((u2 != 0)=true->Wp Tryd.prog R 28 0 Rd.top (af Tryd.prog 23) [1,0,1,0] (aq Tryd.prog R 28 0 Rd.top (af Tryd.prog 23) Q [Kont.seq [1,1]]) (St.mk [(1,aJ l),(2,ref 0 0),(11,AV.bool (u2 != 0))] [u1] g))/\((u2 != 0)=false->2<=2/\(true=true/\Does Tryd.prog R 66 [ay p] [u1] g (ret (ref 1 0)) u3 g)/\Wp Tryd.prog R 28 0 Rd.top (af Tryd.prog 23) [1,1,1,0,1,0] (aq Tryd.prog R 28 0 Rd.top (af Tryd.prog 23) Q [Kont.blk 0,Kont.seq [1,1,1,1]]) (St.mk [(6,ref 1 0),(14,aJ l),(15,int i64 (l.l.length:Int)),(16,int i64 0)] u3 g))) ([u1,cells false 27 (ai p (fun (x:Nat)=>3) (AV.mp 2)),AObj.map (esF p.rules.l)])) (if aR p=true then 0 else 2)) (cells false 2 (nth [int i64 p.atoms,ae p.rules]))) (fun _=>by kernel_rfl) ⟨by omega,(fun _ _=>⟨rfl,(f9 _ _ _ _ (by omega))⟩),fun hcc=>(nomatch (hc.symm.trans hcc)),fun _=>⟨by omega,⟨rfl,(nQ _ _ _ (by omega) (by omega) _)⟩,?_⟩⟩
 refine(bg (by kernel_rfl) (fun (i:Nat)=>⟨[(6,ref 1 0),(14,aJ l),(15,int i64 (l.l.length:Int)),(16,.int .i64 i)],[.cells false 2 (nth [.int .i64 p.atoms,ae p.rules]),.cells false 27 (ai p (fun _=>3) (.mp 2)),.map (esF p.rules.l)],g⟩) (fun (i:Nat)=>(i=0)) (fun (i:Nat)=>0) 0 (bh ⟨Le.refl _,Le.refl _,Le.refl _,(Le.of_eq (by kernel_rfl)),trivial⟩ rfl rfl) ?_ (fun i hi=>?_))
 ·rfl
 ·subst hi
  have hD:=fun (R:Res) (n0 n3:Nat) (c0 c3:Nat->AV) (g:R.σ)=>ya R p (fun _=>3) (esF p.rules.l) (l.l.getD 0 default) n0 n3 c0 c3 hl hr h2 g
  refine vcQ [[1,1,1,0,1,0,0,1,1,0,0,1,1,1]] (lkL [(5,[6,14,15,16,17]),(6,[6,7,8,14,15,16]),(7,[6,7,14,15,16,25]),(8,[4,5])]) (lkL [(6,[(5,ROrc.val (Orc.obj (nth [int i64 (l.l.getD 0 default).rule,fz (l.l.getD 0 default).atoms.2 1 ((l.l.getD 0 default).atoms.l.length) fun (i x:Nat)=>ab (l.l.getD 0 default).atoms.l i])))]),(7,[(2,ROrc.pcall (ifc 149 (cX (l.l.getD 0 default)))),(3,ROrc.kcall (AV.bool false))])]) (fun Q=>(fun (u1:List AV)=>(fun (u2:List AObj)=>(fun (u3:Int)=>(fun (u4:Int)=>(decide (u4<u3)=true->(0<=u4/\u4<u3)/\2<=2/\2<=2/\(∀(c:Nat),c<2->nth u1 c=ah (nth [int i64 0,fz Fz.nil 0 0 fun _ _=>any]) 0 2 (List.brecOn (motive:=fun (x:List AV)=>Nat->AV) u1 nth._f) c)/\2<=2/\(∀(hp:List AObj) (g:R.σ),true=true/\Does Tryd.prog R 68 [agg 2 (nth u1)] hp g (ret (ifc 149 (agg 2 (nth u1)))) hp g)/\(true=true/\Does Tryd.prog R 67 [ref 1 0,ifc 149 (agg 2 (nth u1))] u2 g (ret (AV.bool false)) u2 g)/\(true=true->Q AEx.ret (St.mk [(4,int i64 u4),(5,int i64 7)] u2 g))/\(true=false->Wp Tryd.prog R 28 0 Rd.top (af Tryd.prog 23) [1,1,1,0,1,0,0,1,1,0,0,1,1,1] (aq Tryd.prog R 28 0 Rd.top (af Tryd.prog 23) Q [Kont.blk 1,Kont.seq [1,1,1,0,1,0,0,1,1,1]]) (St.mk [(6,ref 1 0),(7,int i64 u4),(14,aJ l),(15,int i64 u3),(16,int i64 u4),(25,AV.bool true)] u2 g)))/\(decide (u4<u3)=false->Q (AEx.exit 0) (St.mk [(6,ref 1 0),(14,aJ l),(15,int i64 u3),(16,int i64 u4),(17,AV.bool (decide (u4<u3)))] [cells false 2 (nth [int i64 p.atoms,ae p.rules]),cells false 27 (ai p (fun (x:Nat)=>3) (AV.mp 2)),AObj.map (esF p.rules.l)] g))) ((↑0:Int))) ((l.l.length:Int))) ([cells false 2 (nth [int i64 p.atoms,ae p.rules]),cells false 27 (ai p (fun (x:Nat)=>3) (AV.mp 2)),AObj.map (esF p.rules.l),cells false 2 (nth u1)])) ([int i64 (l.l.getD 0 default).rule,fz (l.l.getD 0 default).atoms.2 1 ((l.l.getD 0 default).atoms.l.length) fun (i x:Nat)=>ab (l.l.getD 0 default).atoms.l i])) (fun _=>by kernel_rfl) ⟨fun c1=>have c1:(↑0:Int)<(l.l.length:Int):=(of_decide_eq_true c1);⟨by omega,by omega,by omega,(fun c hc=>match c,hc with|0,_=>(by kernel_rfl)|1,_=>(by kernel_rfl) ),by omega,(fun _ _=>⟨rfl,(x9 _ _ (by omega) _ _)⟩),⟨rfl,(hD _ _ _ _ _ _)⟩,fun _=>?_,fun h=>(nomatch h)⟩,fun c1=>have c1:¬(↑0:Int)<(l.l.length:Int):=(of_decide_eq_false c1);?_⟩
  ·refine⟨_,To.refl _,(ax (bR _ _ rfl trivial ⟨⟨trivial,trivial⟩,trivial⟩ rfl) (Le.refl _))⟩
  ·exfalso;omega
def cG (v:List Int)(l:Lit):Bool:=if l.neg then v.getD l.atom.toNat 0==1 else v.getD l.atom.toNat 0==2
def cf (v:List Int)(l:Lit):Bool:=if l.neg then v.getD l.atom.toNat 0==2 else v.getD l.atom.toNat 0==1
def dT (v:List Int)(r:Rule):Bool:= !r.body.l.any (fun l=> !cG v l)
theorem rL (R:Res)(v:List Int)(l:Lit)(h:0<=l.atom/\l.atom<v.length)(g:R.σ):Does Tryd.prog R 116 [.ow true 0 v.length 1,bE l] [.cells false (v.length*1) (ab v)] g (.ret (.bool (cG v l))) [.cells false (v.length*1) (ab v)] g:=by
 have e:(if l.neg then v.getD l.atom.toNat 0==1 else v.getD l.atom.toNat 0==2)=cG v l:=rfl
 refine az (nt:=19) (rs:=[.tmp 4]) (k0:=1) (by kernel_rfl) (by kernel_rfl) (by kernel_rfl) rfl ?_
 cases hn:l.neg with
 |true=>
  have e:cG v l=(v.getD l.atom.toNat 0==1):=by unfold cG;rw[hn];rfl
  rw[e]
  refine vcQ [[1,0,1,1]] (lkL [(0,[0,3]),(1,[0,3,6]),(2,[4])]) (fun _=>[]) (fun Q=>(fun (u1:List AObj)=>2<=2/\(l.neg=true->1<=2/\(0<=l.atom/\l.atom<(v.length:Int))/\l.atom.toNat+1<=v.length*1/\Q AEx.ret (St.mk [(4,AV.bool (v.getD (l.atom.toNat) 0==1))] u1 g))/\(l.neg=false->Wp Tryd.prog R 19 1 Rd.top (af Tryd.prog 116) [1,0,1,1] (aq Tryd.prog R 19 1 Rd.top (af Tryd.prog 116) Q [Kont.seq [1,1]]) (St.mk [(0,ow true 0 (v.length) 1),(3,ref 1 0),(6,AV.bool l.neg)] u1 g))) ([cells false (v.length*1) fun (a:Nat)=>ab v a,cells false 2 (nth [int i64 l.atom,AV.bool l.neg])])) (fun _=>by kernel_rfl) ⟨by omega,fun _=>⟨by omega,by omega,by omega,?_⟩,fun hcc=>(nomatch (hn.symm.trans hcc))⟩
  refine(ax (bZ 1 _ _ rfl trivial (by omega) trivial ⟨(fun _ _=>trivial),trivial⟩ (by kernel_rfl) rfl rfl) (Le.refl _))
 |false=>
  have e:cG v l=(v.getD l.atom.toNat 0==2):=by unfold cG;rw[hn];rfl
  rw[e]
  refine vcQ [[1,0,1,0]] (lkL [(0,[0,3]),(1,[0,3,6]),(3,[4])]) (fun _=>[]) (fun Q=>(fun (u1:List AObj)=>2<=2/\(l.neg=true->Wp Tryd.prog R 19 1 Rd.top (af Tryd.prog 116) [1,0,1,0] (aq Tryd.prog R 19 1 Rd.top (af Tryd.prog 116) Q [Kont.seq [1,1]]) (St.mk [(0,ow true 0 (v.length) 1),(3,ref 1 0),(6,AV.bool l.neg)] u1 g))/\(l.neg=false->1<=2/\(0<=l.atom/\l.atom<(v.length:Int))/\l.atom.toNat+1<=v.length*1/\Q AEx.ret (St.mk [(4,AV.bool (v.getD (l.atom.toNat) 0==2))] u1 g))) ([cells false (v.length*1) fun (a:Nat)=>ab v a,cells false 2 (nth [int i64 l.atom,AV.bool l.neg])])) (fun _=>by kernel_rfl) ⟨by omega,fun hcc=>(nomatch (hn.symm.trans hcc)),fun _=>⟨by omega,by omega,by omega,?_⟩⟩
  refine(ax (bZ 1 _ _ rfl trivial (by omega) trivial ⟨(fun _ _=>trivial),trivial⟩ (by kernel_rfl) rfl rfl) (Le.refl _))
theorem rM (R:Res)(v:List Int)(l:Lit)(h:0<=l.atom/\l.atom<v.length)(g:R.σ):Does Tryd.prog R 123 [.ow true 0 v.length 1,bE l] [.cells false (v.length*1) (ab v)] g (.ret (.bool (cf v l))) [.cells false (v.length*1) (ab v)] g:=by
 refine az (nt:=19) (rs:=[.tmp 4]) (k0:=1) (by kernel_rfl) (by kernel_rfl) (by kernel_rfl) rfl ?_
 cases hn:l.neg with
 |true=>
  have e:cf v l=(v.getD l.atom.toNat 0==2):=by unfold cf;rw[hn];rfl
  rw[e]
  refine vcQ [[1,0,1,1]] (lkL [(0,[0,3]),(1,[0,3,6]),(2,[4])]) (fun _=>[]) (fun Q=>(fun (u1:List AObj)=>2<=2/\(l.neg=true->1<=2/\(0<=l.atom/\l.atom<(v.length:Int))/\l.atom.toNat+1<=v.length*1/\Q AEx.ret (St.mk [(4,AV.bool (v.getD (l.atom.toNat) 0==2))] u1 g))/\(l.neg=false->Wp Tryd.prog R 19 1 Rd.top (af Tryd.prog 123) [1,0,1,1] (aq Tryd.prog R 19 1 Rd.top (af Tryd.prog 123) Q [Kont.seq [1,1]]) (St.mk [(0,ow true 0 (v.length) 1),(3,ref 1 0),(6,AV.bool l.neg)] u1 g))) ([cells false (v.length*1) fun (a:Nat)=>ab v a,cells false 2 (nth [int i64 l.atom,AV.bool l.neg])])) (fun _=>by kernel_rfl) ⟨by omega,fun _=>⟨by omega,by omega,by omega,?_⟩,fun hcc=>(nomatch (hn.symm.trans hcc))⟩
  refine(ax (bZ 1 _ _ rfl trivial (by omega) trivial ⟨(fun _ _=>trivial),trivial⟩ (by kernel_rfl) rfl rfl) (Le.refl _))
 |false=>
  have e:cf v l=(v.getD l.atom.toNat 0==1):=by unfold cf;rw[hn];rfl
  rw[e]
  refine vcQ [[1,0,1,0]] (lkL [(0,[0,3]),(1,[0,3,6]),(3,[4])]) (fun _=>[]) (fun Q=>(fun (u1:List AObj)=>2<=2/\(l.neg=true->Wp Tryd.prog R 19 1 Rd.top (af Tryd.prog 123) [1,0,1,0] (aq Tryd.prog R 19 1 Rd.top (af Tryd.prog 123) Q [Kont.seq [1,1]]) (St.mk [(0,ow true 0 (v.length) 1),(3,ref 1 0),(6,AV.bool l.neg)] u1 g))/\(l.neg=false->1<=2/\(0<=l.atom/\l.atom<(v.length:Int))/\l.atom.toNat+1<=v.length*1/\Q AEx.ret (St.mk [(4,AV.bool (v.getD (l.atom.toNat) 0==1))] u1 g))) ([cells false (v.length*1) fun (a:Nat)=>ab v a,cells false 2 (nth [int i64 l.atom,AV.bool l.neg])])) (fun _=>by kernel_rfl) ⟨by omega,fun hcc=>(nomatch (hn.symm.trans hcc)),fun _=>⟨by omega,by omega,by omega,?_⟩⟩
  refine(ax (bZ 1 _ _ rfl trivial (by omega) trivial ⟨(fun _ _=>trivial),trivial⟩ (by kernel_rfl) rfl rfl) (Le.refl _))
def dl (n:Nat)(r:Rule):Prop:=r.body.l.length<1000000/\∀l,l∈r.body.l->0<=l.atom/\l.atom<n
theorem rN {U:Type}{l:List U}{f:U->Bool}{d:U}{i:Nat}(hi:i<l.length)(h:f (l.getD i d)=true):l.any f=true:=
 List.any_eq_true.2 ⟨_,(by rw[List.getD_eq_getElem?_getD,List.getElem?_eq_getElem hi];exact List.getElem_mem hi),h⟩
theorem rO {U:Type}{l:List U}{f:U->Bool}{d:U}{i:Nat}(hi:i<l.length)(h1:(l.take i).any f=false)(h2:f (l.getD i d)=false):(l.take (i+1)).any f=false:=by
 rw[List.take_add_one,List.any_append,h1,List.getElem?_eq_getElem hi]
 rw[List.getD_eq_getElem?_getD,List.getElem?_eq_getElem hi] at h2
 show(false||(List.any [l[i]] f))=false
 simpa using h2
theorem yd (R:Res)(v:List Int)(r:Rule)(h:dl v.length r)(g:R.σ):Does Tryd.prog R 97 [.ow true 0 v.length 1,bK r] [.cells false (v.length*1) (ab v)] g (.ret (.bool (dT v r))) [.cells false (v.length*1) (ab v)] g:=by
 have h1:=h.1
 have hb:=h.2
 refine az (nt:=21) (rs:=[.tmp 4]) (k0:=1) (by kernel_rfl) (by kernel_rfl) (by kernel_rfl) rfl ?_
 refine vcQ [] (lkL [(0,[0,3]),(1,[0,3,5])]) (fun _=>[]) (fun Q=>Wp Tryd.prog R 21 1 Rd.top (af Tryd.prog 97) [1,0,1,0] (aq Tryd.prog R 21 1 Rd.top (af Tryd.prog 97) Q [Kont.blk 0,Kont.seq [1,1]]) (St.mk [(0,ow true 0 (v.length) 1),(3,ref 1 0),(5,int i64 0)] [cells false (v.length*1) fun (a:Nat)=>ab v a,cells false 2 (nth [int i64 r.head,al r.body])] g)) (fun _=>by kernel_rfl) (?_)
 refine(bg (by kernel_rfl) (fun (i:Nat)=>⟨[(0,ow true 0 (v.length) 1),(3,ref 1 0),(5,.int .i64 i)],[cells false (v.length*1) fun (a:Nat)=>ab v a,cells false 2 (nth [int i64 r.head,al r.body])],g⟩) (fun (i:Nat)=>(i<=r.body.l.length/\(r.body.l.take i).any (fun l=> !cG v l)=false)) (fun (i:Nat)=>(r.body.l.length-i)) 0 (bh ⟨Le.refl _,Le.refl _,(Le.of_eq (by kernel_rfl)),trivial⟩ rfl rfl) ?_ (fun i hi=>?_))
 ·exact⟨Nat.zero_le _,rfl⟩
 ·obtain⟨h2,h3⟩:=hi
  rcases Nat.lt_or_ge i r.body.l.length with hlt|hge
  ·have hm:=hb _ (bN _ default hlt)
   refine vcQ [] (lkL [(2,[0,3,5,10]),(4,[0,3,5,20]),(5,[4]),(3,[0,3,5])]) (lkL [(4,[(6,ROrc.kcall (AV.bool (cG v (r.body.l.getD i default))))])]) (fun Q=>(fun (u1:List AObj)=>(fun (u2:Int)=>(fun (u3:Int)=>(fun (u4:Lit)=>(fun (u5:AV)=>2<=2/\(decide (u3<u2)=true->2<=2/\(0<=u3/\u3<u2)/\2<=2/\(true=true/\Does Tryd.prog R 116 [u5,bE u4] u1 g (ret (AV.bool (cG v u4))) u1 g)/\((!cG v u4)=true->Q AEx.ret (St.mk [(4,AV.bool false)] u1 g))/\((!cG v u4)=false->(-9223372036854775808<=u3+1/\u3+1<=9223372036854775807)/\Q AEx.normal (St.mk [(0,u5),(3,ref 1 0),(5,int i64 (u3+1))] u1 g)))/\(decide (u3<u2)=false->Q (AEx.exit 0) (St.mk [(0,u5),(3,ref 1 0),(5,int i64 u3),(10,AV.bool (decide (u3<u2)))] u1 g))) (ow true 0 (v.length) 1)) (r.body.l.getD i default)) ((i:Int))) ((r.body.l.length:Int))) ([cells false (v.length*1) fun (a:Nat)=>ab v a,cells false 2 (nth [int i64 r.head,al r.body])])) (fun _=>by kernel_rfl) ⟨by omega,fun c1=>have c1:(i:Int)<(r.body.l.length:Int):=(of_decide_eq_true c1);⟨by omega,by omega,by omega,⟨rfl,(bz [0] 2 (fun R g=>rL R (v) (r.body.l.getD i default) (by omega) g) rfl rfl rfl (by exact⟨⟨rfl,Nat.le_refl _,fun j hj=>(by first|exact au (by first|exact trivial|apply bo)|exact Le.of_eq (bx rfl).symm)⟩,trivial⟩) (by exact⟨by omega,trivial⟩) (by exact⟨Le.refl _,au (by exact⟨⟨trivial,trivial⟩,trivial⟩),trivial⟩) (by exact aw (by exact trivial)) (by exact⟨⟨rfl,Nat.le_refl _,fun j hj=>(by first|exact aw (by first|exact trivial|apply bo)|exact Le.of_eq (bx rfl))⟩,LeO.rflc,trivial⟩))⟩,fun c2=>have c2:cG v (r.body.l.getD i default)=false:=((Bool.not_eq_true' _).mp c2);?_,fun c2=>have c2:cG v (r.body.l.getD i default)=true:=((Bool.not_eq_false' _).mp c2);⟨by omega,?_⟩⟩,fun c1=>have c1:¬(i:Int)<(r.body.l.length:Int):=(of_decide_eq_false c1);?_⟩
   ·have hf:dT v r=false:=by
     unfold dT
     rw[rN (d:=default) hlt (by rw[c2];rfl)]
     rfl
    rw[hf]
    refine⟨_,To.refl _,(ax (bZ 1 _ _ rfl trivial (by omega) trivial ⟨(fun _ _=>trivial),trivial⟩ (by kernel_rfl) rfl rfl) (Le.refl _))⟩
   ·refine(aL (i+1) (bh ⟨Le.refl _,Le.refl _,(Le.of_eq (by kernel_rfl)),trivial⟩ rfl rfl) ?_ ?_)
    ·exact⟨by omega,rO (d:=default) hlt h3 (by rw[c2];rfl)⟩
    ·omega
   ·exfalso;omega
  ·have hie:i=r.body.l.length:=by omega
   subst hie
   rw[List.take_length] at h3
   have ht:dT v r=true:=by
    unfold dT
    rw[h3]
    rfl
   rw[ht]
   refine vcQ [] (lkL [(2,[0,3,5,10]),(4,[0,3,5,20]),(5,[4]),(3,[0,3,5])]) (lkL [(4,[(6,ROrc.kcall (AV.bool (cG v (r.body.l.getD (r.body.l.length) default))))])]) (fun Q=>(fun (u1:Int)=>(fun (u2:List AObj)=>(fun (u3:Lit)=>(fun (u4:AV)=>2<=2/\(decide (u1<u1)=true->2<=2/\(0<=u1/\u1<u1)/\2<=2/\(true=true/\Does Tryd.prog R 116 [u4,bE u3] u2 g (ret (AV.bool (cG v u3))) u2 g)/\((!cG v u3)=true->Q AEx.ret (St.mk [(4,AV.bool false)] u2 g))/\((!cG v u3)=false->(-9223372036854775808<=u1+1/\u1+1<=9223372036854775807)/\Q AEx.normal (St.mk [(0,u4),(3,ref 1 0),(5,int i64 (u1+1))] u2 g)))/\(decide (u1<u1)=false->Q (AEx.exit 0) (St.mk [(0,u4),(3,ref 1 0),(5,int i64 u1),(10,AV.bool (decide (u1<u1)))] u2 g))) (ow true 0 (v.length) 1)) (r.body.l.getD (r.body.l.length) default)) ([cells false (v.length*1) fun (a:Nat)=>ab v a,cells false 2 (nth [int i64 r.head,al r.body])])) ((r.body.l.length:Int))) (fun _=>by kernel_rfl) ⟨by omega,fun c1=>have c1:(r.body.l.length:Int)<(r.body.l.length:Int):=(of_decide_eq_true c1);⟨by omega,by omega,by omega,⟨rfl,(bz [0] 2 (fun R g=>rL R (v) (r.body.l.getD (r.body.l.length) default) (by simp at * <;> omega) g) rfl rfl rfl (by exact⟨⟨rfl,Nat.le_refl _,fun j hj=>(by first|exact au (by first|exact trivial|apply bo)|exact Le.of_eq (bx rfl).symm)⟩,trivial⟩) (by exact⟨by omega,trivial⟩) (by exact⟨Le.refl _,au (by exact⟨⟨trivial,trivial⟩,trivial⟩),trivial⟩) (by exact aw (by exact trivial)) (by exact⟨⟨rfl,Nat.le_refl _,fun j hj=>(by first|exact aw (by first|exact trivial|apply bo)|exact Le.of_eq (bx rfl))⟩,LeO.rflc,trivial⟩))⟩,fun c2=>have c2:cG v (r.body.l.getD (r.body.l.length) default)=false:=((Bool.not_eq_true' _).mp c2);?_,fun c2=>have c2:cG v (r.body.l.getD (r.body.l.length) default)=true:=((Bool.not_eq_false' _).mp c2);⟨by omega,?_⟩⟩,fun c1=>have c1:¬(r.body.l.length:Int)<(r.body.l.length:Int):=(of_decide_eq_false c1);?_⟩
   all_goals first|(exfalso;omega)|skip
   refine⟨_,To.refl _,vcQ [] (lkL [(6,[4])]) (fun _=>[]) (fun Q=>Q AEx.ret (St.mk [(4,AV.bool true)] [cells false (v.length*1) fun (a:Nat)=>ab v a,cells false 2 (nth [int i64 r.head,al r.body])] g)) (fun _=>by kernel_rfl) (?_)⟩
   refine(ax (bZ 1 _ _ rfl trivial (by omega) trivial ⟨(fun _ _=>trivial),trivial⟩ (by kernel_rfl) rfl rfl) (Le.refl _))
def aF (l:List Bool):Nat->AV:=fun j=>.bool (l.getD j false)
theorem jP {k:Nat}(l:List Bool)(j:Nat):Below k (aF l j):=trivial
theorem ly {f:Nat->Nat}(h:True){l:List Bool}{j:Nat}:aY f (aF l j)=aF l j:=rfl
def iO (v:List Int)(s:List Bool)(l:Lit):Bool:=cf v l||(!l.neg&&s.getD l.atom.toNat false)
def dJ (v:List Int)(s:List Bool)(r:Rule):Bool:= !r.body.l.any (iO v s)
theorem ye (R:Res)(v:List Int)(s:List Bool)(r:Rule)(hvs:s.length=v.length)(h:dl v.length r)(g:R.σ):Does Tryd.prog R 117 [.ow true 0 v.length 1,bK r,.ow true 1 s.length 1] [.cells false (v.length*1) (ab v),.cells false (s.length*1) (aF s)] g (.ret (.bool (dJ v s r))) [.cells false (v.length*1) (ab v),.cells false (s.length*1) (aF s)] g:=by
 have h1:=h.1
 have hb:=h.2
 refine az (nt:=36) (rs:=[.tmp 6]) (k0:=2) (by kernel_rfl) (by kernel_rfl) (by kernel_rfl) rfl ?_
 refine vcQ [] (lkL [(0,[0,2,4]),(1,[0,2,4,7])]) (fun _=>[]) (fun Q=>Wp Tryd.prog R 36 2 Rd.top (af Tryd.prog 117) [1,0,1,0] (aq Tryd.prog R 36 2 Rd.top (af Tryd.prog 117) Q [Kont.blk 0,Kont.seq [1,1]]) (St.mk [(0,ow true 0 (v.length) 1),(2,ow true 1 (s.length) 1),(4,ref 2 0),(7,int i64 0)] [cells false (v.length*1) fun (a:Nat)=>ab v a,cells false (s.length*1) fun (a:Nat)=>aF s a,cells false 2 (nth [int i64 r.head,al r.body])] g)) (fun _=>by kernel_rfl) (?_)
 refine(bg (by kernel_rfl) (fun (i:Nat)=>⟨[(0,ow true 0 (v.length) 1),(2,ow true 1 (s.length) 1),(4,ref 2 0),(7,.int .i64 i)],[cells false (v.length*1) fun (a:Nat)=>ab v a,cells false (s.length*1) fun (a:Nat)=>aF s a,cells false 2 (nth [int i64 r.head,al r.body])],g⟩) (fun (i:Nat)=>(i<=r.body.l.length/\(r.body.l.take i).any (iO v s)=false)) (fun (i:Nat)=>(r.body.l.length-i)) 0 (bh ⟨Le.refl _,Le.refl _,Le.refl _,(Le.of_eq (by kernel_rfl)),trivial⟩ rfl rfl) ?_ (fun i hi=>?_))
 ·exact⟨Nat.zero_le _,rfl⟩
 ·obtain⟨h2,h3⟩:=hi
  rcases Nat.lt_or_ge i r.body.l.length with hlt|hge
  ·have hm:=hb _ (bN _ default hlt)
   refine vcQ [] (lkL [(2,[0,2,4,7,13]),(4,[0,2,4,7,8]),(5,[0,2,4,7,35]),(6,[6]),(3,[0,2,4,7])]) (lkL [(4,[(6,ROrc.val (Orc.obj (nth [int i64 (r.body.l.getD i default).atom,AV.bool (r.body.l.getD i default).neg])))]),(5,[(2,ROrc.kcall (AV.bool (cf v (r.body.l.getD i default))))])]) (fun Q=>(fun (u1:List AObj)=>(fun (u2:Lit)=>(fun (u3:Int)=>(fun (u4:Int)=>(fun (u5:Bool)=>(fun (u6:AV)=>2<=2/\(decide (u4<u3)=true->2<=2/\(0<=u4/\u4<u3)/\2<=2/\2<=2/\(∀(c:Nat),c<2->nth [int i64 u2.atom,AV.bool u2.neg] c=ah (nth [int i64 0,AV.bool false]) 0 2 (List.brecOn (motive:=fun (x:List AV)=>Nat->AV) [int i64 u2.atom,AV.bool u2.neg] nth._f) c)/\2<=2/\(true=true/\Does Tryd.prog R 123 [u6,bE u2] u1 g (ret (AV.bool (cf v u2))) u1 g)/\((!cf v u2)=true->2<=2)/\((!cf v u2 && !u2.neg)=true->1<=2)/\((!cf v u2 && !u2.neg)=true->0<=u2.atom/\u2.atom<(s.length:Int))/\((!cf v u2 && !u2.neg)=true->u2.atom.toNat+1<=s.length*1)/\(u5=true->Q AEx.ret (St.mk [(6,AV.bool false)] u1 g))/\(u5=false->(-9223372036854775808<=u4+1/\u4+1<=9223372036854775807)/\Q AEx.normal (St.mk [(0,u6),(2,ow true 1 (s.length) 1),(4,ref 2 0),(7,int i64 (u4+1))] u1 g)))/\(decide (u4<u3)=false->Q (AEx.exit 0) (St.mk [(0,u6),(2,ow true 1 (s.length) 1),(4,ref 2 0),(7,int i64 u4),(13,AV.bool (decide (u4<u3)))] [cells false (v.length*1) fun (a:Nat)=>ab v a,cells false (s.length*1) fun (a:Nat)=>aF s a,cells false 2 (nth [int i64 r.head,al r.body])] g))) (ow true 0 (v.length) 1)) (bif cf v u2 then true else bif !u2.neg then s.getD (u2.atom.toNat) false else false)) ((i:Int))) ((r.body.l.length:Int))) (r.body.l.getD i default)) ([cells false (v.length*1) fun (a:Nat)=>ab v a,cells false (s.length*1) fun (a:Nat)=>aF s a,cells false 2 (nth [int i64 r.head,al r.body]),cells false 2 (nth [int i64 (r.body.l.getD i default).atom,AV.bool (r.body.l.getD i default).neg])])) (fun _=>by kernel_rfl) ⟨by omega,fun c1=>have c1:(i:Int)<(r.body.l.length:Int):=(of_decide_eq_true c1);⟨by omega,by omega,by omega,by omega,(fun c hc=>match c,hc with|0,_=>(by kernel_rfl)|1,_=>(by kernel_rfl) ),by omega,⟨rfl,(bz [0] 4 (fun R g=>rM R (v) (r.body.l.getD i default) (by omega) g) rfl rfl rfl (by exact⟨⟨rfl,Nat.le_refl _,fun j hj=>(by first|exact au (by first|exact trivial|apply bo)|exact Le.of_eq (bx rfl).symm)⟩,trivial⟩) (by exact⟨by omega,trivial⟩) (by exact⟨Le.refl _,au (by exact⟨⟨trivial,trivial⟩,trivial⟩),trivial⟩) (by exact aw (by exact trivial)) (by exact⟨⟨rfl,Nat.le_refl _,fun j hj=>(by first|exact aw (by first|exact trivial|apply bo)|exact Le.of_eq (bx rfl))⟩,LeO.rflc,LeO.rflc,LeO.rflc,trivial⟩))⟩,by omega,by omega,by omega,by omega,fun c2=>have c2:cf v (r.body.l.getD i default)=true∨(r.body.l.getD i default).neg=false/\s.getD ((r.body.l.getD i default).atom.toNat) false=true:=((fC c2).imp (fun h=>h) (fun h=>⟨((Bool.not_eq_true' _).mp (cV h).1),(cV h).2⟩));?_,fun c2=>have c2:cf v (r.body.l.getD i default)=false/\((r.body.l.getD i default).neg=true∨s.getD ((r.body.l.getD i default).atom.toNat) false=false):=⟨(cR c2).1,((fB (cR c2).2).imp (fun h=>((Bool.not_eq_false' _).mp h)) (fun h=>h))⟩;⟨by omega,?_⟩⟩,fun c1=>have c1:¬(i:Int)<(r.body.l.length:Int):=(of_decide_eq_false c1);?_⟩
   ·have hf:dJ v s r=false:=by
     unfold dJ
     rw[rN (d:=default) hlt (by unfold iO;simpa using c2)]
     rfl
    rw[hf]
    refine⟨_,To.refl _,(ax (bZ 2 _ _ rfl trivial (by omega) trivial ⟨(fun _ _=>trivial),(fun _ _=>trivial),trivial⟩ (by kernel_rfl) rfl rfl) (Le.refl _))⟩
   ·refine(aL (i+1) (a9 [0,1,2] 4 rfl rfl rfl rfl rfl ⟨Le.refl _,Le.refl _,Le.refl _,Le.refl _,trivial⟩ ⟨?_,?_,⟨rfl,Nat.le_refl _,fun j hj=>match j,hj with|0,_=>(Le.refl _)|1,_=>(Le.refl _) ⟩,trivial⟩) ?_ ?_)
    ·exact⟨rfl,Nat.le_refl _,fun j _=>Le.of_eq rfl⟩
    ·exact⟨rfl,Nat.le_refl _,fun j _=>Le.of_eq rfl⟩
    ·exact⟨by omega,rO (d:=default) hlt h3 (by
      unfold iO
      rw[c2.1]
      rcases c2.2 with b|b <;> rw[b] <;> simp)⟩
    ·omega
   ·exfalso;omega
  ·have hie:i=r.body.l.length:=by omega
   subst hie
   rw[List.take_length] at h3
   have ht:dJ v s r=true:=by
    unfold dJ
    rw[h3]
    rfl
   rw[ht]
   refine vcQ [] (lkL [(2,[0,2,4,7,13]),(4,[0,2,4,7,8]),(5,[0,2,4,7,35]),(6,[6]),(3,[0,2,4,7])]) (lkL [(4,[(6,ROrc.val (Orc.obj (nth [int i64 (r.body.l.getD (r.body.l.length) default).atom,AV.bool (r.body.l.getD (r.body.l.length) default).neg])))]),(5,[(2,ROrc.kcall (AV.bool (cf v (r.body.l.getD (r.body.l.length) default))))])]) (fun Q=>(fun (u1:Lit)=>(fun (u2:List AObj)=>(fun (u3:Int)=>(fun (u4:Bool)=>(fun (u5:AV)=>2<=2/\(decide (u3<u3)=true->2<=2/\(0<=u3/\u3<u3)/\2<=2/\2<=2/\(∀(c:Nat),c<2->nth [int i64 u1.atom,AV.bool u1.neg] c=ah (nth [int i64 0,AV.bool false]) 0 2 (List.brecOn (motive:=fun (x:List AV)=>Nat->AV) [int i64 u1.atom,AV.bool u1.neg] nth._f) c)/\2<=2/\(true=true/\Does Tryd.prog R 123 [u5,bE u1] u2 g (ret (AV.bool (cf v u1))) u2 g)/\((!cf v u1)=true->2<=2)/\((!cf v u1 && !u1.neg)=true->1<=2)/\((!cf v u1 && !u1.neg)=true->0<=u1.atom/\u1.atom<(s.length:Int))/\((!cf v u1 && !u1.neg)=true->u1.atom.toNat+1<=s.length*1)/\(u4=true->Q AEx.ret (St.mk [(6,AV.bool false)] u2 g))/\(u4=false->(-9223372036854775808<=u3+1/\u3+1<=9223372036854775807)/\Q AEx.normal (St.mk [(0,u5),(2,ow true 1 (s.length) 1),(4,ref 2 0),(7,int i64 (u3+1))] u2 g)))/\(decide (u3<u3)=false->Q (AEx.exit 0) (St.mk [(0,u5),(2,ow true 1 (s.length) 1),(4,ref 2 0),(7,int i64 u3),(13,AV.bool (decide (u3<u3)))] [cells false (v.length*1) fun (a:Nat)=>ab v a,cells false (s.length*1) fun (a:Nat)=>aF s a,cells false 2 (nth [int i64 r.head,al r.body])] g))) (ow true 0 (v.length) 1)) (bif cf v u1 then true else bif !u1.neg then s.getD (u1.atom.toNat) false else false)) ((r.body.l.length:Int))) ([cells false (v.length*1) fun (a:Nat)=>ab v a,cells false (s.length*1) fun (a:Nat)=>aF s a,cells false 2 (nth [int i64 r.head,al r.body]),cells false 2 (nth [int i64 u1.atom,AV.bool u1.neg])])) (r.body.l.getD (r.body.l.length) default)) (fun _=>by kernel_rfl) ⟨by omega,fun c1=>have c1:(r.body.l.length:Int)<(r.body.l.length:Int):=(of_decide_eq_true c1);⟨by omega,by omega,by omega,by omega,(fun c hc=>match c,hc with|0,_=>(by kernel_rfl)|1,_=>(by kernel_rfl) ),by omega,⟨rfl,(bz [0] 4 (fun R g=>rM R (v) (r.body.l.getD (r.body.l.length) default) (by simp at * <;> omega) g) rfl rfl rfl (by exact⟨⟨rfl,Nat.le_refl _,fun j hj=>(by first|exact au (by first|exact trivial|apply bo)|exact Le.of_eq (bx rfl).symm)⟩,trivial⟩) (by exact⟨by omega,trivial⟩) (by exact⟨Le.refl _,au (by exact⟨⟨trivial,trivial⟩,trivial⟩),trivial⟩) (by exact aw (by exact trivial)) (by exact⟨⟨rfl,Nat.le_refl _,fun j hj=>(by first|exact aw (by first|exact trivial|apply bo)|exact Le.of_eq (bx rfl))⟩,LeO.rflc,LeO.rflc,LeO.rflc,trivial⟩))⟩,by omega,by omega,by omega,by omega,fun c2=>have c2:cf v (r.body.l.getD (r.body.l.length) default)=true∨(r.body.l.getD (r.body.l.length) default).neg=false/\s.getD ((r.body.l.getD (r.body.l.length) default).atom.toNat) false=true:=((fC c2).imp (fun h=>h) (fun h=>⟨((Bool.not_eq_true' _).mp (cV h).1),(cV h).2⟩));?_,fun c2=>have c2:cf v (r.body.l.getD (r.body.l.length) default)=false/\((r.body.l.getD (r.body.l.length) default).neg=true∨s.getD ((r.body.l.getD (r.body.l.length) default).atom.toNat) false=false):=⟨(cR c2).1,((fB (cR c2).2).imp (fun h=>((Bool.not_eq_false' _).mp h)) (fun h=>h))⟩;⟨by omega,?_⟩⟩,fun c1=>have c1:¬(r.body.l.length:Int)<(r.body.l.length:Int):=(of_decide_eq_false c1);?_⟩
   all_goals first|(exfalso;omega)|skip
   refine⟨_,To.refl _,vcQ [] (lkL [(7,[6])]) (fun _=>[]) (fun Q=>Q AEx.ret (St.mk [(6,AV.bool true)] [cells false (v.length*1) fun (a:Nat)=>ab v a,cells false (s.length*1) fun (a:Nat)=>aF s a,cells false 2 (nth [int i64 r.head,al r.body])] g)) (fun _=>by kernel_rfl) (?_)⟩
   refine(ax (bZ 2 _ _ rfl trivial (by omega) trivial ⟨(fun _ _=>trivial),(fun _ _=>trivial),trivial⟩ (by kernel_rfl) rfl rfl) (Le.refl _))
def ct (n:Nat)(r:Rule):Prop:=dl n r/\0<=r.head/\r.head<n
def upholdsR (v:List Int)(s:List Bool)(r:Rule):Bool:=s.getD r.head.toNat false&&dJ v s r
def aV (s:List Bool)(n:Nat):List Int:=((List.range n).filter fun k=>s.getD k false).map fun (k:Nat)=>(k:Int)
theorem yf {s:List Bool}{n:Nat}:aV s (n+1)=if s.getD n false then aV s n++[(n:Int)] else aV s n:=by
 unfold aV
 rw[List.range_succ,List.filter_append,List.map_append,List.filter_cons]
 split
 ·rfl
 ·exact List.append_nil _
theorem og {s:List Bool}{n:Nat}:(aV s n).length<=n:=by
 unfold aV
 rw[List.length_map]
 exact Nat.le_trans (List.length_filter_le _ _) (Nat.le_of_eq List.length_range)
theorem yg (R:Res)(s:List Bool)(hl:s.length<1000000)(g:R.σ):Does Tryd.prog R 85 [.ow true 0 s.length 1] [.cells false (s.length*1) (aF s)] g (.ret (.ow true 1 (aV s s.length).length 1)) [.cells false (s.length*1) (aF s),.cells false ((aV s s.length).length*1) (ab (aV s s.length))] g:=by
 have hroom:aG=140737488355328:=rfl
 refine az (nt:=20) (rs:=[.tmp 2]) (k0:=1) (by kernel_rfl) (by kernel_rfl) (by kernel_rfl) rfl ?_
 refine vcQ [] (lkL [(0,[0]),(1,[0,3]),(2,[0,3,4])]) (fun _=>[]) (fun Q=>Wp Tryd.prog R 20 1 Rd.top (af Tryd.prog 85) [1,1,0,1,0] (aq Tryd.prog R 20 1 Rd.top (af Tryd.prog 85) Q [Kont.blk 0,Kont.seq [1,1,1]]) (St.mk [(0,ow true 0 (s.length) 1),(3,fz Fz.nil 0 0 fun _ _=>any),(4,int i64 0)] [cells false (s.length*1) fun (a:Nat)=>aF s a] g)) (fun _=>by kernel_rfl) (?_)
 refine bQ (eq (fun _=>.any) 1) ?_
 refine(bg (by kernel_rfl) (fun (x:Nat × Nat)=>⟨[(0,ow true 0 (s.length) 1),(3,.ow true 1 x.2 1),(4,.int .i64 x.1)],[.cells false (s.length*1) (aF s),.cells false (x.2*1) (ab (aV s x.1))],g⟩) (fun (x:Nat × Nat)=>(x.1<=s.length/\x.2=(aV s x.1).length)) (fun (x:Nat × Nat)=>(s.length-x.1)) ((0,0):Nat × Nat) (aX ⟨Le.refl _,Le.nil_ow,(Le.of_eq (by kernel_rfl)),trivial⟩ ⟨LeO.rflc,⟨rfl,Nat.le_refl _,fun j hj=>absurd hj (Nat.not_lt_zero j)⟩,trivial⟩ rfl) ?_ (fun x hi=>?_))
 ·exact⟨Nat.zero_le _,rfl⟩
 ·obtain⟨i,m⟩:=x
  obtain⟨hi,hm⟩:=hi
  simp only at hi hm
  have hml:=og (s:=s) (n:=i)
  have hns:=yf (s:=s) (n:=i)
  rcases Nat.lt_or_ge i s.length with hi'|hi'
  ·refine vcQ [] (lkL [(3,[0,3,4,8]),(5,[0,3,4,14]),(6,[0,3,4]),(4,[0,3,4])]) (lkL [(6,[(3,ROrc.val (Orc.obj (ab (aV s i++[(i:Int)]))))])]) (fun Q=>(fun (u1:Int)=>(fun (u2:Int)=>(fun (u3:AObj)=>(fun (u4:Nat × AV)=>(fun (u5:List AObj)=>(decide (u1<u2)=true->(0<=u1/\u1<u2)/\i+1<=s.length*1/\(s.getD i false=true->0<1/\(m+1)*8<=aG/\m+1<=aG/\1<=1/\m*1<=m*1/\(∀(c:Nat),c<(m+1)*1->ab (aV s i++[u1]) c=bc 1 m (fun (i_1 j:Nat)=>ab (aV s i) (i_1*1+j)) (fun (i j:Nat)=>ah (fun (j:Nat)=>int i64 0) 0 1 (fun (x:Nat)=>int i64 u1) (0+i*1+j)) c)/\(-9223372036854775808<=u1+1/\u1+1<=9223372036854775807)/\Q AEx.normal (St.mk [u4,(3,ow true 3 (m+1) 1),(4,int i64 (u1+1))] [u3,dead,cells false 1 (ah (fun (j:Nat)=>int i64 0) 0 1 fun (x:Nat)=>int i64 u1),cells false ((m+1)*1) fun (a:Nat)=>ab (aV s i++[u1]) a] g))/\(s.getD i false=false->(-9223372036854775808<=u1+1/\u1+1<=9223372036854775807)/\Q AEx.normal (St.mk [u4,(3,ow true 1 m 1),(4,int i64 (u1+1))] u5 g)))/\(decide (u1<u2)=false->Q (AEx.exit 0) (St.mk [u4,(3,ow true 1 m 1),(4,int i64 u1),(8,AV.bool (decide (u1<u2)))] u5 g))) ([u3,cells false (m*1) fun (a:Nat)=>ab (aV s i) a])) ((0,ow true 0 (s.length) 1))) (cells false (s.length*1) fun (a:Nat)=>aF s a)) ((s.length:Int))) ((i:Int))) (fun _=>by kernel_rfl) ⟨fun c1=>have c1:(i:Int)<(s.length:Int):=(of_decide_eq_true c1);⟨by omega,by omega,fun c2=>⟨by omega,by omega,by omega,by omega,by omega,?_,by omega,?_⟩,fun c2=>⟨by omega,?_⟩⟩,fun c1=>have c1:¬(i:Int)<(s.length:Int):=(of_decide_eq_false c1);?_⟩
   ·intro c hc
    rw[hm] at hc ⊢
    exact(lu (z:=fun _=>.int .i64 0) hc).trans (by kernel_rfl)
   ·rw[if_pos c2] at hns
    refine(aL (i+1,m+1) (a9 [0,3] 4 rfl rfl rfl rfl rfl ⟨Le.refl _,Le.refl _,Le.refl _,trivial⟩ ⟨?_,?_,trivial⟩) ?_ ?_)
    ·exact⟨rfl,Nat.le_refl _,fun j _=>Le.of_eq rfl⟩
    ·show LeO (.cells false ((m+1)*1) (ab (aV s i++[(i:Int)]))) (.cells false ((m+1)*1) (ab (aV s (i+1))))
     rw[hns]
     exact LeO.refl _
    ·refine⟨by show i+1<=_;omega,?_⟩
     show m+1=(aV s (i+1)).length
     rw[hns,List.length_append,<-hm]
     rfl
    ·show s.length-(i+1)<s.length-i
     omega
   ·rw[if_neg (by rw[c2];decide)] at hns
    refine(aL (i+1,m) (aX ⟨Le.refl _,Le.refl _,(Le.of_eq (by kernel_rfl)),trivial⟩ ⟨LeO.rflc,?_,trivial⟩ rfl) ?_ ?_)
    ·show LeO (.cells false (m*1) (ab (aV s i))) (.cells false (m*1) (ab (aV s (i+1))))
     rw[hns]
     exact LeO.refl _
    ·refine⟨by show i+1<=_;omega,?_⟩
     show m=(aV s (i+1)).length
     rw[hns,<-hm]
    ·show s.length-(i+1)<s.length-i
     omega
   ·exfalso;omega
  ·have hie:i=s.length:=by omega
   subst hie
   subst hm
   refine vcQ [] (lkL [(3,[0,3,4,8]),(5,[0,3,4,14]),(6,[0,3,4]),(4,[0,3,4])]) (fun _=>[]) (fun Q=>(fun (u1:Int)=>(fun (u2:Nat)=>(fun (u3:List AObj)=>(fun (u4:Nat × AV)=>(decide (u1<u1)=true->(0<=u1/\u1<u1)/\s.length+1<=s.length*1/\(s.getD (s.length) false=true->0<1/\(u2+1)*8<=aG/\u2+1<=aG/\1<=1/\u2*1<=u2*1/\(-9223372036854775808<=u1+1/\u1+1<=9223372036854775807)/\Q AEx.normal (St.mk [u4,(3,ow true 3 (u2+1) 1),(4,int i64 (u1+1))] [cells false (s.length*1) fun (a:Nat)=>aF s a,dead,cells false 1 (ah (fun (j:Nat)=>int i64 0) 0 1 fun (x:Nat)=>int i64 u1),cells false ((u2+1)*1) (bc 1 u2 (fun (i j:Nat)=>ab (aV s (s.length)) (i*1+j)) fun (i j:Nat)=>ah (fun (j:Nat)=>int i64 0) 0 1 (fun (x:Nat)=>int i64 u1) (0+i*1+j))] g))/\(s.getD (s.length) false=false->(-9223372036854775808<=u1+1/\u1+1<=9223372036854775807)/\Q AEx.normal (St.mk [u4,(3,ow true 1 u2 1),(4,int i64 (u1+1))] u3 g)))/\(decide (u1<u1)=false->Q (AEx.exit 0) (St.mk [u4,(3,ow true 1 u2 1),(4,int i64 u1),(8,AV.bool (decide (u1<u1)))] u3 g))) ((0,ow true 0 (s.length) 1))) ([cells false (s.length*1) fun (a:Nat)=>aF s a,cells false (u2*1) fun (a:Nat)=>ab (aV s (s.length)) a])) ((aV s (s.length)).length)) ((s.length:Int))) (fun _=>by kernel_rfl) ⟨fun c1=>have c1:(s.length:Int)<(s.length:Int):=(of_decide_eq_true c1);⟨by omega,by omega,fun c2=>⟨by omega,by omega,by omega,by omega,by omega,by omega,?_⟩,fun c2=>⟨by omega,?_⟩⟩,fun c1=>have c1:¬(s.length:Int)<(s.length:Int):=(of_decide_eq_false c1);?_⟩
   all_goals first|(exfalso;omega)|skip
   refine⟨_,To.refl _,vcQ [] (lkL [(7,[2])]) (fun _=>[]) (fun Q=>Q AEx.ret (St.mk [(2,ow true 1 ((aV s (s.length)).length) 1)] [cells false (s.length*1) fun (a:Nat)=>aF s a,cells false ((aV s (s.length)).length*1) fun (a:Nat)=>ab (aV s (s.length)) a] g)) (fun _=>by kernel_rfl) (?_)⟩
   refine(ax (bj _ _ rfl trivial rfl rfl rfl) (Le.refl _))
end Go.Avm.Pack
