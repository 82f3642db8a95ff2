/- TableHangs returns true, and leaves its arguments as they were. No conditions: every input that can be read as data. -/
import Derived.Test.YtbdagmhndndliaaDoorM5
namespace Go.Avm.Pack
open Go Go.Avm Go.Proofs
open Go.IntKind (i64 u64)
open Go.Avm.AV (int bool any fz fp sl ow ref fn ifc val agg tup)
open Go.Avm.AObj (cells dead)
open Go.Avm.Oc (ret)
set_option maxRecDepth 4000
theorem rR {p:Prg}(h:aJ p=true):∀r,r∈p.rules.l->eM p.atoms.toNat r:=by
 obtain⟨h1,h2,h3,h4,h5⟩:=em h
 have h3:1<=p.atoms/\p.atoms<=24:=h3
 intro r hr
 refine⟨⟨(h2 r hr).1.1,fun l hl=>?_⟩,?_⟩
 ·have:=h5 r hr l hl
  omega
 ·have:=h4 r hr
  have:=(h2 r hr).2
  omega
theorem rS {h:HG}{s:List Bool}{i:Nat}:∀{n:Nat},cO h s i n=true↔s.getD i false=false/\∀k,k<n->(h i).getD k false=true->(h k).getD i false=true∨s.getD k false=true
 |0=>by
  show(!s.getD i false)=true↔_
  simp
 |n+1=>by
  show(cO h s i n&&((h i).getD n false&&(h n).getD i false || !((h i).getD n false && !s.getD n false)))=true↔_
  rw[Bool.and_eq_true,rS]
  constructor
  ·rintro ⟨⟨h1,h2⟩,h3⟩
   refine⟨h1,fun k hk hi=>?_⟩
   rcases Nat.lt_or_ge k n with hk'|hk'
   ·exact h2 k hk' hi
   ·obtain rfl:k=n:=by omega
    rw[hi] at h3
    simpa using h3
  ·rintro ⟨h1,h2⟩
   refine⟨⟨h1,fun k hk=>h2 k (by omega)⟩,?_⟩
   cases hi:(h i).getD n false with
   |false=>simp
   |true=>
    have:=h2 n (by omega) hi
    simpa using this
theorem rT {U:Type}{q q':U->Bool}:∀{l:List U},(∀x,q' x=true->q x=true)->(l.filter (fun x=>q x && !q' x)).length+(l.filter q').length=(l.filter q).length
 |[],_=>rfl
 |x::l,h=>by
  have ih:=rT (l:=l) h
  rw[List.filter_cons,List.filter_cons,List.filter_cons]
  cases h1:q x <;> cases h2:q' x
  ·simpa using ih
  ·rw[h x h2] at h1;cases h1
  ·simp;omega
  ·simp;omega
theorem x9 {s t:Nat}(hs:s<2^24)(h:∀j,t.testBit j=true->s.testBit j=true):(aj (cj s t)).length+(aj t).length=(aj s).length:=by
 have:=rT (l:=List.range 24) (q:=fun j=>s.testBit j) (q':=fun j=>t.testBit j) h
 rw[show(fun j=>s.testBit j && !t.testBit j)=fun j=>(cj s t).testBit j from funext fun j=>(fj hs j).symm] at this
 exact this
structure LstOk (p:Prg)(n:Nat)(s:List Bool)(left:Nat):Prop where
 len:s.length=n
 bit:∀j,j<n->s.getD j false = !left.testBit j
 lt:left<2^24
 inn:∀j,left.testBit j=true->j<n
 cls:∀x y,x<n->left.testBit x=false->Reach p x y->left.testBit y=false
section
variable {p:Prg}{n:Nat}{s:List Bool}{left:Nat}
theorem rU (hx:∀r,r∈p.rules.l->∀l,l∈r.body.l->0<=l.atom/\l.atom<p.atoms)(hpa:p.atoms=n){a b:Nat}(ha:a<n)(h:Reach p a b):b<n:=by
 rcases q0 hx h with rfl|h
 ·exact ha
 ·omega
theorem rV (hx:∀r,r∈p.rules.l->∀l,l∈r.body.l->0<=l.atom/\l.atom<p.atoms)(hr:∀r,r∈p.rules.l->aQ r)(hrn:∀r,r∈p.rules.l->eM n r)(hpa:p.atoms=n)(hn:n<=24)(h:LstOk p n s left){i:Nat}(hi:i<n):cO (hgR p n) s i n=(left.testBit i&&dY p left i):=by
 rw[Bool.eq_iff_iff,rS,Bool.and_eq_true,nC hr h.lt (by omega),h.bit i hi]
 constructor
 ·rintro ⟨h1,h2⟩
  refine⟨by simpa using h1,fun b hb hl=>?_⟩
  have hbn:=h.inn b hl
  rcases h2 b hbn ((gG hrn hi).2 hb) with h3|h3
  ·exact(gG hrn hbn).1 h3
  ·rw[h.bit b hbn,hl] at h3
   cases h3
 ·rintro ⟨h1,h2⟩
  refine⟨by rw[h1];rfl,fun k hk hik=>?_⟩
  cases hl:left.testBit k with
  |true=>exact .inl ((gG hrn hk).2 (h2 k ((gG hrn hi).1 hik) hl))
  |false=>exact .inr (by rw[h.bit k hk,hl];rfl)
theorem rW (hx:∀r,r∈p.rules.l->∀l,l∈r.body.l->0<=l.atom/\l.atom<p.atoms)(hr:∀r,r∈p.rules.l->aQ r)(hrn:∀r,r∈p.rules.l->eM n r)(hpa:p.atoms=n)(hn:n<=24)(h:LstOk p n s left)(h0:left≠0):eo (hgR p n) s n=bz p left/\bz p left<n:=by
 obtain⟨o1,o2,o3,o4⟩:=im hr h.lt h0
 have hb:left.testBit (bz p left)=true:=(Tb.mem_memN.1 o4).2
 have hlt:=h.inn _ hb
 refine⟨rK hlt (by rw[rV hx hr hrn hpa hn h hlt,hb,o2];rfl) (fun j hj=>?_),hlt⟩
 rw[rV hx hr hrn hpa hn h (by omega)]
 cases hjb:left.testBit j with
 |false=>rfl
 |true=>
  have hm:j∈aj left:=Tb.mem_memN.2 ⟨by omega,hjb⟩
  obtain⟨i,hi,hij⟩:=List.mem_iff_getElem.1 hm
  have hg:(aj left).getD i 0=j:=by rw[List.getD_eq_getElem?_getD,List.getElem?_eq_getElem hi,<-hij];rfl
  have hik:i<eL p left:=by
   rcases Nat.lt_or_ge i (eL p left) with h1|h1
   ·exact h1
   ·exfalso
    rcases Nat.lt_or_ge (eL p left) i with h2|h2
    ·have:=qD h2 hi
     rw[hg] at this
     unfold bz at hj
     omega
    ·have:eL p left=i:=by omega
     unfold bz at hj
     rw[this,hg] at hj
     omega
  have:=o3 i hik
  rw[hg] at this
  rw[this]
  rfl
theorem ya (hx:∀r,r∈p.rules.l->∀l,l∈r.body.l->0<=l.atom/\l.atom<p.atoms)(hr:∀r,r∈p.rules.l->aQ r)(hrn:∀r,r∈p.rules.l->eM n r)(hpa:p.atoms=n)(hn:n<=24)(h:LstOk p n s left)(h0:left≠0):eN (hgR p n) s n=aG (av p (bz p left)):=by
 obtain⟨h1,h2⟩:=rW hx hr hrn hpa hn h h0
 unfold eN
 rw[h1]
 refine rH hn (by unfold bh;rw[List.length_map,List.length_range]) (fun j=>?_)
 rcases Nat.lt_or_ge j n with hj|hj
 ·rw[rJ hj,Bool.eq_iff_iff,Bool.and_eq_true,gG hrn h2,gG hrn hj,fV hr (by omega)]
  exact⟨fun ⟨a,b⟩=>⟨a,b,by omega⟩,fun ⟨a,b,_⟩=>⟨a,b⟩⟩
 ·rw[List.getD_eq_getElem?_getD,List.getElem?_eq_none (by unfold bh;rw[List.length_map,List.length_range];exact hj)]
  show false=_
  symm
  rw[Bool.eq_false_iff]
  intro hw
  have:=rU hx hpa h2 ((fV hr (by omega)).1 hw).1
  omega
theorem rX:∀{l:List Int} {b:List Bool} {j:Nat},(∀a,a∈l->a.toNat<b.length)->((l.foldl (fun (b:List Bool) (a:Int)=>b.set a.toNat true) b).getD j false=true↔b.getD j false=true∨∃a,a∈l/\a.toNat=j)
 |[],_,_,_=>by simp
 |a::l,b,j,h=>by
  show(l.foldl _ (b.set a.toNat true)).getD j false=true↔_
  rw[rX (fun x hx=>by rw[List.length_set];exact h x (List.mem_cons_of_mem _ hx))]
  constructor
  ·rintro (h1|⟨x,h1,h2⟩)
   ·rcases nN h1 with e|h1
    ·exact .inr ⟨a,List.mem_cons_self,e.symm⟩
    ·exact .inl h1
   ·exact .inr ⟨x,List.mem_cons_of_mem _ h1,h2⟩
  ·rintro (h1|⟨x,h1,h2⟩)
   ·exact .inl (rr h1)
   ·rcases List.mem_cons.1 h1 with e|h1
    ·subst e
     refine .inl ?_
     rw[List.getD_eq_getElem?_getD,List.getElem?_set,if_pos h2,if_pos (by rw[h2];have:=h x List.mem_cons_self;omega)]
     rfl
    ·exact .inr ⟨x,h1,h2⟩
theorem nR (hr:∀r,r∈p.rules.l->aQ r)(hx:∀r,r∈p.rules.l->∀l,l∈r.body.l->0<=l.atom/\l.atom<p.atoms)(hpa:p.atoms=n)(hn:n<=24)(h:LstOk p n s left){a:Nat}(ha:left.testBit a=true):∀j,(av p a).testBit j=true->left.testBit j=true:=by
 intro j hj
 have han:=h.inn a ha
 obtain⟨h1,h2,h3⟩:=(fV hr (by omega)).1 hj
 cases hb:left.testBit j with
 |true=>rfl
 |false=>
  have:=h.cls j a (rU hx hpa han h1) hb h2
  rw[ha] at this
  cases this
theorem yb (hx:∀r,r∈p.rules.l->∀l,l∈r.body.l->0<=l.atom/\l.atom<p.atoms)(hr:∀r,r∈p.rules.l->aQ r)(hpa:p.atoms=n)(hn:n<=24)(h:LstOk p n s left)(h0:left≠0):LstOk p n ((aG (av p (bz p left))).foldl (fun (b:List Bool) (a:Int)=>b.set a.toNat true) s) (cj left (av p (bz p left))):=by
 obtain⟨o1,o2,o3,o4⟩:=im hr h.lt h0
 have hb:left.testBit (bz p left)=true:=(Tb.mem_memN.1 o4).2
 have hlt:=h.inn _ hb
 have hsub:=nR hr hx hpa hn h hb
 have hin:∀a,a∈aG (av p (bz p left))->a.toNat<s.length:=fun a ha=>by
  obtain⟨b,hb',rfl⟩:=List.mem_map.1 ha
  have:=h.inn _ (hsub _ (Tb.mem_memN.1 hb').2)
  rw[h.len]
  simpa using this
 have hmem:∀j,(∃a,a∈aG (av p (bz p left))/\a.toNat=j)↔(av p (bz p left)).testBit j=true:=fun j=>by
  constructor
  ·rintro ⟨a,h1,h2⟩
   obtain⟨b,hb',rfl⟩:=List.mem_map.1 h1
   have:b=j:=by simpa using h2
   rw[<-this]
   exact(Tb.mem_memN.1 hb').2
  ·intro hj
   exact⟨(j:Int),List.mem_map.2 ⟨j,Tb.mem_memN.2 ⟨by have:=h.inn _ (hsub j hj);omega,hj⟩,rfl⟩,by simp⟩
 refine⟨kU.trans h.len,fun j hj=>?_,Nat.lt_of_le_of_lt kP h.lt,fun j hj=>?_,fun x y hxn hxl hxy=>?_⟩
 ·rw[Bool.eq_iff_iff,rX hin,hmem,fj h.lt,h.bit j hj]
  cases left.testBit j <;> cases (av p (bz p left)).testBit j <;> simp
 ·rw[fj h.lt,Bool.and_eq_true] at hj
  exact h.inn j hj.1
 ·rw[fj h.lt] at hxl ⊢
  cases hl:left.testBit x with
  |false=>rw[h.cls x y hxn hl hxy];rfl
  |true=>
   rw[hl,Bool.true_and,Bool.not_eq_false'] at hxl
   obtain⟨w1,w2,w3⟩:=(fV hr (by omega)).1 hxl
   cases hly:left.testBit y with
   |false=>rfl
   |true=>
    have hyn:=h.inn y hly
    have:=(nC hr h.lt (by omega)).1 o2 y (w1.trans hxy) hly
    have:(av p (bz p left)).testBit y=true:=(fV hr (by omega)).2 ⟨w1.trans hxy,this,by omega⟩
    rw[this]
    rfl
theorem yd (hpa:p.atoms=n)(hn:n<=24):LstOk p n (List.replicate n false) (2^n-1):=by
 have hb:∀j,(2^n-1).testBit j=decide (j<n):=fun j=>Nat.testBit_two_pow_sub_one _ _
 refine⟨List.length_replicate,fun j hj=>?_,?_,fun j hj=>?_,fun x y hxn hxl hxy=>?_⟩
 ·rw[hb,decide_eq_true hj,List.getD_eq_getElem?_getD,List.getElem?_replicate,if_pos hj]
  rfl
 ·have:2^n<=2^24:=Nat.pow_le_pow_right (by decide) hn
  have:0<2^n:=Nat.pow_pos (by decide)
  omega
 ·rw[hb,decide_eq_true_eq] at hj
  exact hj
 ·rw[hb,decide_eq_false_iff_not] at hxl
  exact absurd hxn hxl
end
end Go.Avm.Pack
namespace Go.Avm.Pack
open Go Go.Avm Go.Proofs
open Go.IntKind (i64 u64)
open Go.Avm.AV (int bool any fz fp sl ow ref fn ifc val agg tup)
open Go.Avm.AObj (cells dead)
open Go.Avm.Oc (ret)
set_option maxRecDepth 4000
theorem ye (R:Res)(h:HG)(s:List Bool)(n:Nat)(hn:0<n/\n<=1000)(hs:s.length=n)(hh:∀i,i<n->(h i).length=n)(hex:eo h s n<n)(g:R.σ):Does Tryd.prog R 84 [.ow true 0 n 1,.ow true 1 n 1] [.cells false (n*1) (hgC h),.cells false (n*1) (aw s)] g (.ret (am ⟨eN h s n,.auto⟩)) [.cells false (n*1) (hgC h),.cells false (n*1) (aw s)] g:=by
 refine e7 (xS R h s n hn hs hh hex g) ?_
 exact e9 2 [(0,am ⟨eN h s n,.auto⟩)] (Nat.le_refl _) (by show 2<=3;omega) (fun i hi=>match i,hi with|0,_=>fun j _=>nP h j|1,_=>fun j _=>gD s j) ⟨rq rfl rfl (Nat.le_refl _),trivial⟩
theorem yf {n:Nat}(hn:n<=24):aj (2^n-1)=List.range n:=by
 show(List.range 24).filter (fun j=>(2^n-1).testBit j)=_
 have hb:∀j,(2^n-1).testBit j=decide (j<n):=fun j=>Nat.testBit_two_pow_sub_one _ _
 rw[show 24=n+(24-n) by omega,nM (fun j hj=>by rw[hb];exact decide_eq_false (by omega))]
 exact List.filter_eq_self.2 (fun j hj=>by rw[hb];exact decide_eq_true (List.mem_range.1 hj))
theorem yg (R:Res)(p:Prg)(hb:aJ p=true)(g:R.σ):Does Tryd.prog R 32 [au p] [] g (.ret (a8 (aX p).length (fun i=>ah ((aX p).getD i 0)))) [] g:=by
 have hroom:aH=140737488355328:=rfl
 obtain⟨hl,hr,hp,hh,hx⟩:=em hb
 have hp':1<=p.atoms/\p.atoms<=24:=hp
 have hrn:=rR hb
 obtain⟨n,hn⟩:∃n,p.atoms.toNat=n:=⟨_,rfl⟩
 rw[hn] at hrn
 have hpa:p.atoms=n:=by omega
 have hlen:∀i,(hgR p n i).length=n:=fun i=>js (fun r h=>(hrn r h).1)
 have hH:=fun (R:Res) (a:Nat) (ha:a<n) (g:R.σ)=>xQ R p n a (by omega) ha hpa hl hrn g
 refine aA (nt:=53) (rs:=[.tmp 2]) (k0:=0) (by kernel_rfl) (by kernel_rfl) (by kernel_rfl) rfl ?_
 refine vcQ [] (lkL [(0,[1]),(1,[1,3]),(2,[1,3,4])]) (fun _=>[]) (fun Q=>Wp Tryd.prog R 53 0 Rd.top (ae Tryd.prog 32) [1,1,0,1,0] (aq Tryd.prog R 53 0 Rd.top (ae Tryd.prog 32) Q [Kont.blk 0,Kont.seq [1,1,1]]) (St.mk [(1,ref 0 0),(3,fz Fz.nil 0 0 fun _ _=>any),(4,int i64 0)] [cells false 2 (nth [int i64 p.atoms,ad p.rules])] g)) (fun _=>by kernel_rfl) (?_)
 refine ca (ej (fun _=>.any) 1) ?_
 refine(bj (by kernel_rfl) (fun (i:Nat)=>⟨[(1,ref 0 0),(3,.ow true 1 i 1),(4,.int .i64 i)],[.cells false 2 (nth [.int .i64 p.atoms,ad p.rules]),.cells false (i*1) (hgC (hgR p n))],g⟩) (fun (i:Nat)=>(i<=n)) (fun (i:Nat)=>(n-i)) 0 (bc ⟨Le.refl _,Le.nil_ow,(Le.of_eq (by kernel_rfl)),trivial⟩ ⟨LeO.rflc,⟨rfl,Nat.le_refl _,fun j hj=>absurd hj (Nat.not_lt_zero j)⟩,trivial⟩ rfl) ?_ (fun i hi=>?_))
 ·exact Nat.zero_le _
 ·refine vcQ [] (lkL [(3,[1,3,4,13]),(5,[1,3,4]),(4,[1,3,4])]) (lkL [(5,[(3,ROrc.kcall (fz Fz.auto 1 ((hgR p n i).length) fun (i_1 x:Nat)=>aw (hgR p n i) i_1)),(5,ROrc.val (Orc.obj (hgC (hgR p n))))])]) (fun Q=>(fun (u1:List AObj)=>(fun (u2:AV)=>(fun (u3:Int)=>1<=2/\(decide (u3<p.atoms)=true->2<=2/\(true=true/\Does Tryd.prog R 74 [au p,int i64 u3] u1 g (ret u2) u1 g)/\0<1/\(i+1)*24<=aH/\i+1<=aH/\1<=1/\i*1<=i*1/\(∀(c:Nat),c<(i+1)*1->(fz Fz.auto 1 ((hgR p n c).length) fun (i x:Nat)=>aw (hgR p n c) i)=bb 1 i (fun (i j:Nat)=>fz Fz.auto 1 ((hgR p n (i*1+j)).length) fun (i_1 x:Nat)=>aw (hgR p n (i*1+j)) i_1) (fun (i j:Nat)=>ak (fun (j:Nat)=>fz Fz.nil 0 0 fun _ _=>any) 0 1 (fun (x:Nat)=>u2) (0+i*1+j)) c)/\(-9223372036854775808<=u3+1/\u3+1<=9223372036854775807)/\Q AEx.normal (St.mk [(1,ref 0 0),(3,ow true 3 (i+1) 1),(4,int i64 (u3+1))] [cells false 2 (nth [int i64 p.atoms,ad p.rules]),dead,cells false 1 (ak (fun (j:Nat)=>fz Fz.nil 0 0 fun _ _=>any) 0 1 fun (x:Nat)=>u2),cells false ((i+1)*1) fun (a:Nat)=>fz Fz.auto 1 ((hgR p n a).length) fun (i x:Nat)=>aw (hgR p n a) i] g))/\(decide (u3<p.atoms)=false->Q (AEx.exit 0) (St.mk [(1,ref 0 0),(3,ow true 1 i 1),(4,int i64 u3),(13,AV.bool (decide (u3<p.atoms)))] u1 g))) ((i:Int))) (fz Fz.auto 1 ((hgR p n i).length) fun (i_1 x:Nat)=>aw (hgR p n i) i_1)) ([cells false 2 (nth [int i64 p.atoms,ad p.rules]),cells false (i*1) fun (a:Nat)=>fz Fz.auto 1 ((hgR p n a).length) fun (i x:Nat)=>aw (hgR p n a) i])) (fun _=>by kernel_rfl) ⟨by omega,fun c1=>have c1:(i:Int)<p.atoms:=(of_decide_eq_true c1);⟨by omega,⟨rfl,(bX [] 2 (fun R g=>hH R (i) (by simp at * <;> omega) g) rfl rfl rfl (by exact trivial) (by exact trivial) (by exact⟨az (by exact⟨⟨trivial,trivial⟩,trivial⟩),az (by exact trivial),trivial⟩) (by exact aC (by exact trivial)) (by exact⟨LeO.rflc,LeO.rflc,trivial⟩))⟩,by omega,by omega,by omega,by omega,by omega,?_,by omega,?_⟩,fun c1=>have c1:¬(i:Int)<p.atoms:=(of_decide_eq_false c1);?_⟩
  ·exact fun c hc=>(rM (f:=hgC (hgR p n)) (z:=fun _=>.fz .nil 0 0 fun _ _=>.any) hc).trans (by kernel_rfl)
  ·refine(aU (i+1) (bi [0,3] 4 rfl rfl rfl rfl rfl ⟨Le.refl _,Le.refl _,Le.refl _,trivial⟩ ⟨⟨rfl,Nat.le_refl _,fun j hj=>match j,hj with|0,_=>(Le.refl _)|1,_=>(Le.refl _) ⟩,?_,trivial⟩) ?_ ?_)
   ·exact⟨rfl,Nat.le_refl _,fun j _=>Le.of_eq rfl⟩
   ·omega
   ·omega
  ·have hie:i=n:=by omega
   subst hie
   rw[hpa]
   refine⟨_,To.refl _,vcQ [] (lkL [(6,[1,3,5]),(7,[1,3,5,6]),(8,[1,3,5,6,7])]) (fun _=>[]) (fun Q=>1<=2/\0<=(i:Int)/\(i:Int)<=(i:Int)/\(i:Int)<=140737488355328/\i*1<=aH/\Wp Tryd.prog R 53 0 Rd.top (ae Tryd.prog 32) [1,1,1,1,1,0,1,0] (aq Tryd.prog R 53 0 Rd.top (ae Tryd.prog 32) Q [Kont.blk 2,Kont.seq [1,1,1,1,1,1]]) (St.mk [(1,ref 0 0),(3,ow true 1 i 1),(5,sl 2 0 i i true 1),(6,fz Fz.nil 0 0 fun _ _=>any),(7,int i64 0)] [cells false 2 (nth [int i64 (i:Int),ad p.rules]),cells false (i*1) fun (a:Nat)=>fz Fz.auto 1 ((hgR p i a).length) fun (i_1 x:Nat)=>aw (hgR p i a) i_1,cells false (i*1) fun (j:Nat)=>AV.bool false] g)) (fun _=>by kernel_rfl) ⟨by omega,by omega,by omega,by omega,by omega,?_⟩⟩
   refine vcQ [] (lkL []) (fun _=>[]) (fun Q=>Wp Tryd.prog R 53 0 Rd.top (ae Tryd.prog 32) [1,1,1,1,1,0,1,0] (aq Tryd.prog R 53 0 Rd.top (ae Tryd.prog 32) Q []) (St.mk [(1,ref 0 0),(3,ow true 1 i 1),(5,sl 2 0 i i true 1),(6,fz Fz.nil 0 0 fun _ _=>any),(7,int i64 0)] [cells false 2 (nth [int i64 (i:Int),ad p.rules]),cells false (i*1) fun (a:Nat)=>fz Fz.auto 1 ((hgR p i a).length) fun (i_1 x:Nat)=>aw (hgR p i a) i_1,cells false (i*1) fun (j:Nat)=>AV.bool false] g)) (fun _=>by kernel_rfl) (?_)
   refine ca (ej (fun _=>.any) 1) ?_
   refine ca (bc (s':=⟨[(1,.ref 0 0),(3,.ow true 1 i 1),(5,.ow true 2 i 1),(6,.ow true 3 0 1),(7,.int .i64 0)],[.cells false 2 (nth [.int .i64 i,ad p.rules]),.cells false (i*1) (hgC (hgR p i)),.cells false (i*1) (aw (List.replicate i false)),.cells false (0*1) (aI [])],g⟩) ?_ ?_ rfl) ?_
   ·exact⟨Le.refl _,Le.refl _,Le.sl_ow (by omega),Le.nil_ow,Le.refl _,trivial⟩
   ·exact⟨LeO.refl _,LeO.refl _,⟨rfl,Nat.le_refl _,fun j _=>Le.of_eq rk.symm⟩,⟨rfl,Nat.le_refl _,fun j hj=>absurd hj (by omega)⟩,trivial⟩
   refine(bj (by kernel_rfl) (fun (x:Nat × Nat × List Nat × List Bool × Nat)=>⟨[(1,ref 0 0),(3,ow true 1 i 1),(5,ow true 2 i 1),(6,.ow true 3 x.2.1 1),(7,.int .i64 x.1)],[.cells false 2 (nth [.int .i64 i,ad p.rules]),.cells false (i*1) (hgC (hgR p i)),.cells false (i*1) (aw x.2.2.2.1),.cells false (x.2.1*1) (aI x.2.2.1)],g⟩) (fun (x:Nat × Nat × List Nat × List Bool × Nat)=>(OrdOk p (x.2.1,x.2.2.1,x.2.2.2.2)/\LstOk p i x.2.2.2.1 x.2.2.2.2/\x.1+(aj x.2.2.2.2).length=i)) (fun (x:Nat × Nat × List Nat × List Bool × Nat)=>((aj x.2.2.2.2).length)) ((0,0,[],List.replicate i false,2^i-1):Nat × Nat × List Nat × List Bool × Nat) (bf ⟨Le.refl _,Le.refl _,Le.refl _,Le.refl _,(Le.of_eq (by kernel_rfl)),trivial⟩ rfl rfl) ?_ (fun x hi=>?_))
   ·have h1:=rO hp'
    rw[hn] at h1
    refine⟨h1,yd hpa (by omega),?_⟩
    show 0+(aj (2^i-1)).length=i
    rw[yf (by omega),Nat.zero_add,List.length_range]
   ·obtain⟨c,m,L,s,left⟩:=x
    obtain⟨k1,k2,k3⟩:=hi
    simp only at k1 k2 k3
    rcases Nat.lt_or_ge c i with hci|hci
    ·have h0:left≠0:=fun h=>by
      rw[h] at k3
      have:(aj 0).length=0:=rfl
      omega
     obtain⟨n1,n2⟩:=rN hr k1 h0
     obtain⟨m1,m2⟩:=rW hx hr hrn hpa (by omega) k2 h0
     have m3:=ya hx hr hrn hpa (by omega) k2 h0
     have m4:=yb hx hr hpa (by omega) k2 h0
     have m5:=x9 k2.lt (nR hr hx hpa (by omega) k2 (Tb.mem_memN.1 (im hr k2.lt h0).2.2.2).2)
     have hC:∀(R:Res) (g:R.σ),Does Tryd.prog R 84 [.ow true 0 i 1,.ow true 1 i 1] [.cells false (i*1) (hgC (hgR p i)),.cells false (i*1) (aw s)] g (.ret (am ⟨eN (hgR p i) s i,.auto⟩)) [.cells false (i*1) (hgC (hgR p i)),.cells false (i*1) (aw s)] g:=fun R g=>ye R (hgR p i) s i (by omega) k2.len (fun j _=>hlen j) (by omega) g
     rw[m3] at hC
     obtain⟨w,hw⟩:∃w,av p (bz p left)=w:=⟨_,rfl⟩
     rw[hw] at n1 n2 hC m4 m5
     have hC:∀(R:Res) (g:R.σ),Does Tryd.prog R 84 [.ow true 0 i 1,.ow true 1 i 1] [.cells false (i*1) (hgC (hgR p i)),.cells false (i*1) (aw s)] g (.ret (am (ah w))) [.cells false (i*1) (hgC (hgR p i)),.cells false (i*1) (aw s)] g:=hC
     have hsl:=k2.len
     have hin:∀k,k<(aG w).length->0<=(aG w).getD k 0/\(aG w).getD k 0<i:=fun k hk=>by
      obtain⟨b,hb',e⟩:=List.mem_map.1 (show(aG w).getD k 0∈(aj w).map (fun (a:Nat)=>(a:Int)) from cg _ 0 hk)
      rw[<-e]
      have:=k2.inn b (nR hr hx hpa (by omega) k2 (Tb.mem_memN.1 (im hr k2.lt h0).2.2.2).2 b (by rw[hw];exact(Tb.mem_memN.1 hb').2))
      omega
     have hwl:(aG w).length<=24:=by rw[fh];exact fg w
     have hml:m<=24:=by have h:m+(aj left).length<=24:=k1.few;omega
     refine vcQ [] (lkL [(9,[1,3,5,6,7,28]),(10,[1,3,5,6,7,8]),(11,[1,3,5,6,7,8,9])]) (lkL [(10,[(2,ROrc.kcall (fz Fz.auto 1 ((aG w).length) fun (i x:Nat)=>ag (aG w) i))])]) (fun Q=>(fun (u1:List AObj)=>(fun (u2:Int)=>(fun (u3:AV)=>(fun (u4:Int)=>1<=2/\(decide (u2<u4)=true->(true=true/\Does Tryd.prog R 84 [ow true 1 i 1,ow true 2 i 1] u1 g (ret u3) u1 g)/\Wp Tryd.prog R 53 0 Rd.top (ae Tryd.prog 32) [1,1,1,1,1,0,1,0,0,1,0,1,0,1,0] (aq Tryd.prog R 53 0 Rd.top (ae Tryd.prog 32) Q [Kont.blk 4,Kont.seq [1,1,1,1,1,0,1,0,0,1,0,1,1],Kont.blk 3]) (St.mk [(1,ref 0 0),(3,ow true 1 i 1),(5,ow true 2 i 1),(6,ow true 3 m 1),(7,int i64 u2),(8,u3),(9,int i64 0)] u1 g))/\(decide (u2<u4)=false->Q (AEx.exit 2) (St.mk [(1,ref 0 0),(3,ow true 1 i 1),(5,ow true 2 i 1),(6,ow true 3 m 1),(7,int i64 u2),(28,AV.bool (decide (u2<u4)))] u1 g))) ((i:Int))) (fz Fz.auto 1 ((aG w).length) fun (i x:Nat)=>ag (aG w) i)) ((c:Int))) ([cells false 2 (nth [int i64 (i:Int),ad p.rules]),cells false (i*1) fun (a:Nat)=>fz Fz.auto 1 ((hgR p i a).length) fun (i_1 x:Nat)=>aw (hgR p i a) i_1,cells false (i*1) fun (a:Nat)=>aw s a,cells false (m*1) fun (a:Nat)=>fz Fz.auto 1 ((ah (L.getD a 0)).l.length) fun (i x:Nat)=>ag (ah (L.getD a 0)).l i])) (fun _=>by kernel_rfl) ⟨by omega,fun c1=>have c1:(c:Int)<(i:Int):=(of_decide_eq_true c1);⟨⟨rfl,(bX [1,2] 4 (fun R g=>hC R g) rfl rfl rfl (by exact⟨⟨rfl,Nat.le_refl _,fun j hj=>(by first|exact az (by first|exact trivial|apply nP)|exact Le.of_eq (rI rfl).symm)⟩,⟨rfl,Nat.le_refl _,fun j hj=>(by first|exact az (by first|exact trivial|apply gD)|exact Le.of_eq (jr rfl).symm)⟩,trivial⟩) (by exact⟨by omega,by omega,trivial⟩) (by exact⟨Le.refl _,Le.refl _,trivial⟩) (by exact aC (by exact trivial)) (by exact⟨LeO.rflc,⟨rfl,Nat.le_refl _,fun j hj=>(by first|exact aC (by first|exact trivial|apply nP)|exact Le.of_eq (rI rfl))⟩,⟨rfl,Nat.le_refl _,fun j hj=>(by first|exact aC (by first|exact trivial|apply gD)|exact Le.of_eq (jr rfl))⟩,LeO.rflc,trivial⟩))⟩,?_⟩,fun c1=>have c1:¬(c:Int)<(i:Int):=(of_decide_eq_false c1);?_⟩
     ·refine(bj (by kernel_rfl) (fun (k:Nat)=>⟨[(1,ref 0 0),(3,ow true 1 i 1),(5,ow true 2 i 1),(6,ow true 3 m 1),(7,int i64 (c:Int)),(8,fz Fz.auto 1 ((aG w).length) fun (i x:Nat)=>ag (aG w) i),(9,.int .i64 k)],[.cells false 2 (nth [.int .i64 i,ad p.rules]),.cells false (i*1) (hgC (hgR p i)),.cells false (i*1) (aw (((aG w).take k).foldl (fun (b:List Bool) (a:Int)=>b.set a.toNat true) s)),.cells false (m*1) (aI L)],g⟩) (fun (k:Nat)=>(k<=(aG w).length)) (fun (k:Nat)=>((aG w).length-k)) 0 (bc ⟨Le.refl _,Le.refl _,Le.refl _,Le.refl _,Le.refl _,Le.refl _,(Le.of_eq (by kernel_rfl)),trivial⟩ ⟨LeO.rflc,LeO.rflc,LeO.rflc,LeO.rflc,trivial⟩ rfl) ?_ (fun k hi=>?_))
      ·exact Nat.zero_le _
      ·rcases Nat.lt_or_ge k (aG w).length with hk|hk
       ·have hik:=hin k hk
        have hst:=ik (fun (b:List Bool) (a:Int)=>b.set a.toNat true) s (aG w) 0 hk
        have htl:(((aG w).take k).foldl (fun (b:List Bool) (a:Int)=>b.set a.toNat true) s).length=i:=kU.trans hsl
        obtain⟨t,ht⟩:∃t,((aG w).take k).foldl (fun (b:List Bool) (a:Int)=>b.set a.toNat true) s=t:=⟨_,rfl⟩
        rw[ht] at hst htl ⊢
        refine vcQ [] (lkL [(12,[1,3,5,6,7,8,9,35]),(14,[1,3,5,6,7,8,9]),(13,[1,3,5,6,7,8,9])]) (fun _=>[]) (fun Q=>(fun (u1:Int)=>(fun (u2:AObj)=>(fun (u3:AObj)=>(fun (u4:Int)=>(fun (u5:AV)=>(fun (u6:Int)=>(fun (u7:AObj)=>(decide (u4<u1)=true->(0<=u4/\u4<u1)/\1<=1/\(0<=u6/\u6<(i:Int))/\u6.toNat+1<=i*1/\(-9223372036854775808<=u4+1/\u4+1<=9223372036854775807)/\Q AEx.normal (St.mk [(1,ref 0 0),(3,ow true 1 i 1),(5,ow true 2 i 1),(6,ow true 3 m 1),(7,int i64 (c:Int)),(8,u5),(9,int i64 (u4+1))] [u7,u3,cells false (i*1) (ak (aw t) (u6.toNat) 1 fun (x:Nat)=>AV.bool true),u2] g))/\(decide (u4<u1)=false->Q (AEx.exit 4) (St.mk [(1,ref 0 0),(3,ow true 1 i 1),(5,ow true 2 i 1),(6,ow true 3 m 1),(7,int i64 (c:Int)),(8,u5),(9,int i64 u4),(35,AV.bool (decide (u4<u1)))] [u7,u3,cells false (i*1) fun (a:Nat)=>aw t a,u2] g))) (cells false 2 (nth [int i64 (i:Int),ad p.rules]))) ((aG w).getD k 0)) (fz Fz.auto 1 ((aG w).length) fun (i x:Nat)=>ag (aG w) i)) ((k:Int))) (cells false (i*1) fun (a:Nat)=>fz Fz.auto 1 ((hgR p i a).length) fun (i_1 x:Nat)=>aw (hgR p i a) i_1)) (cells false (m*1) fun (a:Nat)=>fz Fz.auto 1 ((ah (L.getD a 0)).l.length) fun (i x:Nat)=>ag (ah (L.getD a 0)).l i)) ((↑((aG w).length):Int))) (fun _=>by kernel_rfl) ⟨fun c1=>have c1:(k:Int)<(↑((aG w).length):Int):=(of_decide_eq_true c1);⟨by omega,by omega,by omega,by omega,by omega,?_⟩,fun c1=>have c1:¬(k:Int)<(↑((aG w).length):Int):=(of_decide_eq_false c1);?_⟩
        ·refine(aU (k+1) (bc ⟨Le.refl _,Le.refl _,Le.refl _,Le.refl _,Le.refl _,Le.refl _,(Le.of_eq (by kernel_rfl)),trivial⟩ ⟨LeO.rflc,LeO.rflc,?_,LeO.rflc,trivial⟩ rfl) ?_ ?_)
         ·exact⟨rfl,Nat.le_refl _,fun j _=>by
           rw[hst]
           exact Le.of_eq (nI (by omega))⟩
         ·omega
         ·omega
        ·exfalso;omega
       ·have hke:k=(aG w).length:=by omega
        subst hke
        rw[List.take_length]
        have hbb:decide (((aG w).length:Int)<((aG w).length:Int))=false:=decide_eq_false (by omega)
        refine vcQ [[1,1,1,1,1,0,1,0,0,1,0,1,0,1,0,0,0,1,0]] (lkL [(12,[1,3,5,6,7,8,9,35])]) (fun _=>[]) (fun Q=>(fun (u1:St R.σ)=>(fun (u2:Int)=>(decide (u2<u2)=true->Wp Tryd.prog R 53 0 Rd.top (ae Tryd.prog 32) [1,1,1,1,1,0,1,0,0,1,0,1,0,1,0,0,0,1,0] (aq Tryd.prog R 53 0 Rd.top (ae Tryd.prog 32) Q [Kont.seq [1,1,1,1,1,0,1,0,0,1,0,1,0,1,0,0,1]]) u1)/\(decide (u2<u2)=false->Q (AEx.exit 4) u1)) ((↑((aG w).length):Int))) (St.mk [(1,ref 0 0),(3,ow true 1 i 1),(5,ow true 2 i 1),(6,ow true 3 m 1),(7,int i64 (c:Int)),(8,fz Fz.auto 1 ((aG w).length) fun (i x:Nat)=>ag (aG w) i),(9,int i64 (↑((aG w).length):Int)),(35,AV.bool (decide ((↑((aG w).length):Int)<(↑((aG w).length):Int))))] [cells false 2 (nth [int i64 (i:Int),ad p.rules]),cells false (i*1) fun (a:Nat)=>fz Fz.auto 1 ((hgR p i a).length) fun (i_1 x:Nat)=>aw (hgR p i a) i_1,cells false (i*1) fun (a:Nat)=>aw (List.foldl (fun (b:List Bool) (a:Int)=>b.set (a.toNat) true) s (aG w)) a,cells false (m*1) fun (a:Nat)=>fz Fz.auto 1 ((ah (L.getD a 0)).l.length) fun (i x:Nat)=>ag (ah (L.getD a 0)).l i] g)) (fun _=>by kernel_rfl) ⟨fun hcc=>(nomatch (hbb.symm.trans hcc)),fun _=>?_⟩
        refine⟨_,To.refl _,vcQ [] (lkL [(15,[1,3,5,6,7,8]),(16,[1,3,5,6,7])]) (lkL [(15,[(3,ROrc.val (Orc.obj (aI (L++[w]))))])]) (fun Q=>(fun (u1:Int)=>(fun (u2:AV)=>0<1/\(m+1)*24<=aH/\m+1<=aH/\1<=1/\m*1<=m*1/\(∀(c:Nat),c<(m+1)*1->(fz Fz.auto 1 ((ah ((L++[w]).getD c 0)).l.length) fun (i x:Nat)=>ag (ah ((L++[w]).getD c 0)).l i)=bb 1 m (fun (i j:Nat)=>fz Fz.auto 1 ((ah (L.getD (i*1+j) 0)).l.length) fun (i_1 x:Nat)=>ag (ah (L.getD (i*1+j) 0)).l i_1) (fun (i j:Nat)=>ak (fun (j:Nat)=>fz Fz.nil 0 0 fun _ _=>any) 0 1 (fun (x:Nat)=>u2) (0+i*1+j)) c)/\(-9223372036854775808<=u1/\u1<=9223372036854775807)/\Q AEx.normal (St.mk [(1,ref 0 0),(3,ow true 1 i 1),(5,ow true 2 i 1),(6,ow true 5 (m+1) 1),(7,int i64 u1)] [cells false 2 (nth [int i64 (i:Int),ad p.rules]),cells false (i*1) fun (a:Nat)=>fz Fz.auto 1 ((hgR p i a).length) fun (i_1 x:Nat)=>aw (hgR p i a) i_1,cells false (i*1) fun (a:Nat)=>aw (List.foldl (fun (b:List Bool) (a:Int)=>b.set (a.toNat) true) s (aG w)) a,dead,cells false 1 (ak (fun (j:Nat)=>fz Fz.nil 0 0 fun _ _=>any) 0 1 fun (x:Nat)=>u2),cells false ((m+1)*1) fun (a:Nat)=>fz Fz.auto 1 ((ah ((L++[w]).getD a 0)).l.length) fun (i x:Nat)=>ag (ah ((L++[w]).getD a 0)).l i] g)) (fz Fz.auto 1 ((aG w).length) fun (i x:Nat)=>ag (aG w) i)) ((c:Int)+(↑((aG w).length):Int))) (fun _=>by kernel_rfl) ⟨by omega,by omega,by omega,by omega,by omega,?_,by omega,?_⟩⟩
        ·have o1:m=L.length:=k1.num
         exact fun c hc=>(ju (L:=L) (m:=m) (z:=fun _=>.fz .nil 0 0 (fun _ _=>.any)) (old:=fun i j=>aI L (i*1+j)) o1 (fun i hi=>by show aI L (i*1+0)=aI L i;rw[show i*1+0=i by omega]) hc).trans (by kernel_rfl)
        ·refine(aU (c+(aG w).length,m+1,L++[w],(aG w).foldl (fun (b:List Bool) (a:Int)=>b.set a.toNat true) s,cj left w) (bi [0,1,2,5] 6 rfl rfl rfl rfl rfl ⟨Le.refl _,Le.refl _,Le.refl _,Le.refl _,Le.refl _,trivial⟩ ⟨⟨rfl,Nat.le_refl _,fun j hj=>match j,hj with|0,_=>(Le.refl _)|1,_=>(Le.refl _) ⟩,?_,?_,?_,trivial⟩) ?_ ?_)
         ·exact⟨rfl,Nat.le_refl _,fun j _=>Le.of_eq rfl⟩
         ·exact⟨rfl,Nat.le_refl _,fun j _=>Le.of_eq rfl⟩
         ·exact⟨rfl,Nat.le_refl _,fun j _=>Le.of_eq rfl⟩
         ·refine⟨n1,m4,?_⟩
          show c+(aG w).length+(aj (cj left w)).length=i
          rw[fh]
          omega
         ·exact n2
        all_goals done
     ·exfalso;omega
    ·have hc:c=i:=by omega
     have hl0:left=0:=by
      rcases Nat.eq_zero_or_pos left with h|h
      ·exact h
      ·exfalso
       have:=(nE hr k2.lt (Nat.ne_of_gt h))
       omega
     subst hl0
     obtain⟨o1,o2,o3,o4,f,f1,f2⟩:=k1
     simp only at o1 f1 f2
     have hLo:L=aX p:=by
      obtain⟨f,rfl⟩:∃k,f=k+1:=⟨f-1,by omega⟩
      rw[<-f2]
      show L=L++(if (0:Nat)=0 then[] else _)
      rw[if_pos rfl,List.append_nil]
     subst hLo
     subst o1
     subst hc
     have hbb:decide ((c:Int)<(c:Int))=false:=decide_eq_false (by omega)
     refine vcQ [[1,1,1,1,1,0,1,0,0,0,1,0]] (lkL [(9,[1,3,5,6,7,28])]) (fun _=>[]) (fun Q=>(fun (u1:St R.σ)=>(fun (u2:Int)=>1<=2/\(decide (u2<u2)=true->Wp Tryd.prog R 53 0 Rd.top (ae Tryd.prog 32) [1,1,1,1,1,0,1,0,0,0,1,0] (aq Tryd.prog R 53 0 Rd.top (ae Tryd.prog 32) Q [Kont.seq [1,1,1,1,1,0,1,0,0,1]]) u1)/\(decide (u2<u2)=false->Q (AEx.exit 2) u1)) ((c:Int))) (St.mk [(1,ref 0 0),(3,ow true 1 c 1),(5,ow true 2 c 1),(6,ow true 3 ((aX p).length) 1),(7,int i64 (c:Int)),(28,AV.bool (decide ((c:Int)<(c:Int))))] [cells false 2 (nth [int i64 (c:Int),ad p.rules]),cells false (c*1) fun (a:Nat)=>fz Fz.auto 1 ((hgR p c a).length) fun (i x:Nat)=>aw (hgR p c a) i,cells false (c*1) fun (a:Nat)=>aw s a,cells false ((aX p).length*1) fun (a:Nat)=>fz Fz.auto 1 ((ah ((aX p).getD a 0)).l.length) fun (i x:Nat)=>ag (ah ((aX p).getD a 0)).l i] g)) (fun _=>by kernel_rfl) ⟨by omega,fun hcc=>(nomatch (hbb.symm.trans hcc)),fun _=>?_⟩
     refine⟨_,To.refl _,vcQ [] (lkL [(17,[2])]) (fun _=>[]) (fun Q=>Q AEx.ret (St.mk [(2,ow true 3 ((aX p).length) 1)] [cells false 2 (nth [int i64 (c:Int),ad p.rules]),cells false (c*1) fun (a:Nat)=>fz Fz.auto 1 ((hgR p c a).length) fun (i x:Nat)=>aw (hgR p c a) i,cells false (c*1) fun (a:Nat)=>aw s a,cells false ((aX p).length*1) fun (a:Nat)=>fz Fz.auto 1 ((ah ((aX p).getD a 0)).l.length) fun (i x:Nat)=>ag (ah ((aX p).getD a 0)).l i] g)) (fun _=>by kernel_rfl) (?_)⟩
     show bv Tryd.prog R 0 _ _ _ _ .ret _
     refine dB (.ow true 3 (aX p).length 1) _ rfl trivial (e9 0 [(0,a8 (aX p).length (fun i=>ah ((aX p).getD i 0)))] (Nat.le_refl _) (Nat.zero_le _) (fun i hi=>absurd hi (Nat.not_lt_zero i)) ⟨?_,trivial⟩)
     exact aF.le (aF.ow (o:=3) (N:=(aX p).length*1) (c:=aI (aX p)) (get:=aI (aX p)) (fr:=false) rfl (Nat.zero_le _) (Nat.le_refl _) (by decide) (fun j _=>aF.below (fX _ _))) (Le.fz rfl (fun i j hi hj=>by
      show aI (aX p) (i*1+j)=_
      rw[show i*1+j=i by omega]
      rfl))
theorem jv (R:Res)(a:Int)(hp:List AObj)(g:R.σ):Does Tryd.prog R 91 [.int .i64 a] hp g (.ret (bV ⟨a,false⟩)) hp g:=by
 refine bI (fun R g=>?_) (by exact⟨trivial,trivial⟩) R hp g
 refine aA (nt:=5) (rs:=[.cell 2 77]) (k0:=0) (by kernel_rfl) (by kernel_rfl) (by kernel_rfl) rfl ?_
 refine vcQ [] (lkL [(0,[0,2]),(1,[2])]) (lkL [(1,[(2,ROrc.val (Orc.obj (nth [int i64 a,AV.bool false])))])]) (fun Q=>2<=2/\(∀(c:Nat),c<2->nth [int i64 a,AV.bool false] c=ak (nth [int i64 0,AV.bool false]) 0 2 (List.brecOn (motive:=fun (x:List AV)=>Nat->AV) [int i64 a,AV.bool false] nth._f) c)/\Q AEx.ret (St.mk [(2,ref 0 0)] [cells false 2 (nth [int i64 a,AV.bool false])] g)) (fun _=>by kernel_rfl) ⟨by omega,(fun c hc=>match c,hc with|0,_=>(by kernel_rfl)|1,_=>(by kernel_rfl) ),?_⟩
 refine(ax (bC (agg 2 (nth [int i64 a,AV.bool false])) ([0+(TyI.mk ((fun (x:TypeInfo)=>x.desc) Tryd.prog.types[76]) Tryd.prog.types[77].size Tryd.prog.types[77].bytes (cw (dH (Value.agg #[Value.int i64 0,Value.bool false]))) (cZ ((fun (x:TypeInfo)=>x.desc) Tryd.prog.types[76])) (eq Tryd.prog 77)).size<=2]) (by kernel_rfl) (by exact⟨by decide,trivial⟩) ⟨⟨trivial,trivial⟩,trivial⟩ rfl) (Le.of_eq (by kernel_rfl)))
theorem jw (R:Res)(a:Int)(hp:List AObj)(g:R.σ):Does Tryd.prog R 92 [.int .i64 a] hp g (.ret (bV ⟨a,true⟩)) hp g:=by
 refine bI (fun R g=>?_) (by exact⟨trivial,trivial⟩) R hp g
 refine aA (nt:=5) (rs:=[.cell 2 77]) (k0:=0) (by kernel_rfl) (by kernel_rfl) (by kernel_rfl) rfl ?_
 refine vcQ [] (lkL [(0,[0,2]),(1,[2])]) (lkL [(1,[(2,ROrc.val (Orc.obj (nth [int i64 a,AV.bool true])))])]) (fun Q=>2<=2/\(∀(c:Nat),c<2->nth [int i64 a,AV.bool true] c=ak (nth [int i64 0,AV.bool false]) 0 2 (List.brecOn (motive:=fun (x:List AV)=>Nat->AV) [int i64 a,AV.bool true] nth._f) c)/\Q AEx.ret (St.mk [(2,ref 0 0)] [cells false 2 (nth [int i64 a,AV.bool true])] g)) (fun _=>by kernel_rfl) ⟨by omega,(fun c hc=>match c,hc with|0,_=>(by kernel_rfl)|1,_=>(by kernel_rfl) ),?_⟩
 refine(ax (bC (agg 2 (nth [int i64 a,AV.bool true])) ([0+(TyI.mk ((fun (x:TypeInfo)=>x.desc) Tryd.prog.types[76]) Tryd.prog.types[77].size Tryd.prog.types[77].bytes (cw (dH (Value.agg #[Value.int i64 0,Value.bool false]))) (cZ ((fun (x:TypeInfo)=>x.desc) Tryd.prog.types[76])) (eq Tryd.prog 77)).size<=2]) (by kernel_rfl) (by exact⟨by decide,trivial⟩) ⟨⟨trivial,trivial⟩,trivial⟩ rfl) (Le.of_eq (by kernel_rfl)))
theorem eO (R:Res)(a:Int)(b:KL Lit)(hp:List AObj)(g:R.σ):Does Tryd.prog R 90 [.int .i64 a,ao b] hp g (.ret (bQ ⟨a,b⟩)) hp g:=by
 refine bI (fun R g=>?_) (by exact⟨trivial,trivial,trivial⟩) R hp g
 refine aA (nt:=8) (rs:=[.cell 4 75]) (k0:=0) (by kernel_rfl) (by kernel_rfl) (by kernel_rfl) rfl ?_
 refine vcQ [] (lkL [(0,[0,1,4]),(1,[4])]) (lkL [(1,[(3,ROrc.val (Orc.obj (nth [int i64 a,ao b])))])]) (fun Q=>2<=2/\(∀(c:Nat),c<2->nth [int i64 a,ao b] c=ak (nth [int i64 0,fz Fz.nil 0 0 fun _ _=>any]) 0 2 (List.brecOn (motive:=fun (x:List AV)=>Nat->AV) [int i64 a,ao b] nth._f) c)/\Q AEx.ret (St.mk [(4,ref 0 0)] [cells false 2 (nth [int i64 a,ao b])] g)) (fun _=>by kernel_rfl) ⟨by omega,(fun c hc=>match c,hc with|0,_=>(by kernel_rfl)|1,_=>(by kernel_rfl) ),?_⟩
 refine(ax (bC (agg 2 (nth [int i64 a,fz b.2 2 (b.l.length) fun (i:Nat)=>ia (b.l.getD i default)])) ([0+(TyI.mk ((fun (x:TypeInfo)=>x.desc) Tryd.prog.types[74]) Tryd.prog.types[75].size Tryd.prog.types[75].bytes (cw (dH (Value.agg #[Value.int i64 0,Value.slice none 0 0]))) (cZ ((fun (x:TypeInfo)=>x.desc) Tryd.prog.types[74])) (eq Tryd.prog 75)).size<=2]) (by kernel_rfl) (by exact⟨by decide,trivial⟩) ⟨⟨trivial,trivial⟩,trivial⟩ rfl) (Le.of_eq (by kernel_rfl)))
def tN:KL Lit:=⟨[],.nil⟩
def tA1:KL Lit:=⟨[⟨0,false⟩,⟨2,true⟩],.exa⟩
def tA2:KL Lit:=⟨[⟨3,false⟩],.exa⟩
def tA3:KL Lit:=⟨[⟨2,false⟩],.exa⟩
def tA4:KL Lit:=⟨[⟨5,true⟩],.exa⟩
def tA5:KL Lit:=⟨[⟨4,true⟩],.exa⟩
def tAR:KL Rule:=⟨[⟨0,tN⟩,⟨1,tA1⟩,⟨2,tA2⟩,⟨3,tA3⟩,⟨4,tA4⟩,⟨5,tA5⟩],.exa⟩
def tA:Prg:=⟨6,tAR⟩
def tB1:KL Lit:=⟨[⟨1,true⟩],.exa⟩
def tB2:KL Lit:=⟨[⟨0,true⟩],.exa⟩
def tB3:KL Lit:=⟨[⟨0,false⟩],.exa⟩
def tB4:KL Lit:=⟨[⟨1,false⟩],.exa⟩
def tBR:KL Rule:=⟨[⟨0,tB1⟩,⟨1,tB2⟩,⟨2,tB3⟩,⟨2,tB4⟩],.exa⟩
def tB:Prg:=⟨3,tBR⟩
def tS1:KL Int:=⟨[0],.exa⟩
def tS2:KL Int:=⟨[2,3],.exa⟩
def tS3:KL Int:=⟨[1],.exa⟩
def tS:KL Step:=⟨[⟨0,tS1⟩,⟨-1,tS2⟩,⟨1,tS3⟩],.exa⟩
theorem c_A (R:Res)(hp:List AObj)(g:R.σ):Does Tryd.prog R 44 [] hp g (.ret (au tA)) hp g:=by
 refine bI (fun R g=>?_) (by exact trivial) R hp g
 obtain⟨v0,e0⟩:∃v,v=tN:=⟨_,rfl⟩
 obtain⟨v1,e1⟩:∃v,v=tA1:=⟨_,rfl⟩
 obtain⟨v2,e2⟩:∃v,v=tA2:=⟨_,rfl⟩
 obtain⟨v3,e3⟩:∃v,v=tA3:=⟨_,rfl⟩
 obtain⟨v4,e4⟩:∃v,v=tA4:=⟨_,rfl⟩
 obtain⟨v5,e5⟩:∃v,v=tA5:=⟨_,rfl⟩
 obtain⟨w,f⟩:∃v,v=tAR:=⟨_,rfl⟩
 show Does _ _ _ _ _ _ (.ret (au ⟨6,tAR⟩)) _ _
 rw[<-f]
 refine aA (nt:=20) (rs:=[.cell 0 24]) (k0:=0) (by kernel_rfl) (by kernel_rfl) (by kernel_rfl) rfl ?_
 refine vcQ [] (lkL [(0,[0]),(1,[0])]) (lkL [(1,[(0,ROrc.pcall (bQ (Rule.mk 0 (KL.mk [] Fz.nil)))),(1,ROrc.pcall (bV (Lit.mk 0 false))),(2,ROrc.pcall (bV (Lit.mk 2 true))),(3,ROrc.kop (ao v1)),(4,ROrc.pcall (bQ (Rule.mk 1 v1))),(5,ROrc.pcall (bV (Lit.mk 3 false))),(6,ROrc.kop (ao v2)),(7,ROrc.pcall (bQ (Rule.mk 2 v2))),(8,ROrc.pcall (bV (Lit.mk 2 false))),(9,ROrc.kop (ao v3)),(10,ROrc.pcall (bQ (Rule.mk 3 v3))),(11,ROrc.pcall (bV (Lit.mk 5 true))),(12,ROrc.kop (ao v4)),(13,ROrc.pcall (bQ (Rule.mk 4 v4))),(14,ROrc.pcall (bV (Lit.mk 4 true))),(15,ROrc.kop (ao v5)),(16,ROrc.pcall (bQ (Rule.mk 5 v5))),(17,ROrc.kop (ad w)),(19,ROrc.val (Orc.obj (nth [int i64 6,ad w])))])]) (fun Q=>(fun (u1:List Row)=>(fun (u2:List AObj)=>(fun (u3:List Row)=>(fun (u4:List Row)=>(fun (u5:List Row)=>(fun (u6:List (Nat × AV))=>(∀(hp:List AObj) (g:R.σ),true=true/\Does Tryd.prog R 90 [int i64 0,fz Fz.nil 0 0 fun _ _=>any] hp g (ret (agg 2 (nth [int i64 0,fz Fz.nil 2 0 fun (i:Nat)=>ia ((KL.mk [] Fz.nil).l.getD i default)]))) hp g)/\(∀(hp:List AObj) (g:R.σ),true=true/\Does Tryd.prog R 91 [int i64 0] hp g (ret (agg 2 (nth [int i64 0,AV.bool false]))) hp g)/\(∀(hp:List AObj) (g:R.σ),true=true/\Does Tryd.prog R 92 [int i64 2] hp g (ret (agg 2 (nth [int i64 2,AV.bool true]))) hp g)/\OpOk Tryd.prog R (Oper.mk (some 4) (Op.buildSlice 73 2 #[(0,Operand.tmp 2),(1,Operand.tmp 3)]) 73 "law.go:21" #[Edge.mk 1 Ground.data,Edge.mk 2 Ground.data] none) (evO u4 u6 []) u2 g (ao v1) u2 g/\(∀(hp:List AObj) (g:R.σ),true=true/\Does Tryd.prog R 90 [int i64 1,ao v1] hp g (ret (agg 2 (nth [int i64 1,ao v1]))) hp g)/\(∀(hp:List AObj) (g:R.σ),true=true/\Does Tryd.prog R 91 [int i64 3] hp g (ret (agg 2 (nth [int i64 3,AV.bool false]))) hp g)/\OpOk Tryd.prog R (Oper.mk (some 7) (Op.buildSlice 73 1 #[(0,Operand.tmp 6)]) 73 "law.go:21" #[Edge.mk 5 Ground.data] none) (evO (Row.mk (some 6) none (agg 2 (nth [int i64 3,AV.bool false])) false (some []) []::Row.mk (some 5) none (agg 2 (nth [int i64 1,ao v1])) false (some []) []::Row.mk (some 4) none (ao v1) true (some []) []::u4) u6 []) u2 g (ao v2) u2 g/\(∀(hp:List AObj) (g:R.σ),true=true/\Does Tryd.prog R 90 [int i64 2,ao v2] hp g (ret (agg 2 (nth [int i64 2,ao v2]))) hp g)/\(∀(hp:List AObj) (g:R.σ),true=true/\Does Tryd.prog R 91 [int i64 2] hp g (ret (agg 2 (nth [int i64 2,AV.bool false]))) hp g)/\OpOk Tryd.prog R (Oper.mk (some 10) (Op.buildSlice 73 1 #[(0,Operand.tmp 9)]) 73 "law.go:21" #[Edge.mk 8 Ground.data] none) (evO u1 u6 []) u2 g (ao v3) u2 g/\(∀(hp:List AObj) (g:R.σ),true=true/\Does Tryd.prog R 90 [int i64 3,ao v3] hp g (ret (agg 2 (nth [int i64 3,ao v3]))) hp g)/\(∀(hp:List AObj) (g:R.σ),true=true/\Does Tryd.prog R 92 [int i64 5] hp g (ret (agg 2 (nth [int i64 5,AV.bool true]))) hp g)/\OpOk Tryd.prog R (Oper.mk (some 13) (Op.buildSlice 73 1 #[(0,Operand.tmp 12)]) 73 "law.go:21" #[Edge.mk 11 Ground.data] none) (evO u3 u6 []) u2 g (ao v4) u2 g/\(∀(hp:List AObj) (g:R.σ),true=true/\Does Tryd.prog R 90 [int i64 4,ao v4] hp g (ret (agg 2 (nth [int i64 4,ao v4]))) hp g)/\(∀(hp:List AObj) (g:R.σ),true=true/\Does Tryd.prog R 92 [int i64 4] hp g (ret (agg 2 (nth [int i64 4,AV.bool true]))) hp g)/\OpOk Tryd.prog R (Oper.mk (some 16) (Op.buildSlice 73 1 #[(0,Operand.tmp 15)]) 73 "law.go:21" #[Edge.mk 14 Ground.data] none) (evO u5 u6 []) u2 g (ao v5) u2 g/\(∀(hp:List AObj) (g:R.σ),true=true/\Does Tryd.prog R 90 [int i64 5,ao v5] hp g (ret (agg 2 (nth [int i64 5,ao v5]))) hp g)/\OpOk Tryd.prog R (Oper.mk (some 18) (Op.buildSlice 22 6 #[(0,Operand.tmp 1),(1,Operand.tmp 5),(2,Operand.tmp 8),(3,Operand.tmp 11),(4,Operand.tmp 14),(5,Operand.tmp 17)]) 22 "law.go:21" #[Edge.mk 0 Ground.data,Edge.mk 4 Ground.data,Edge.mk 7 Ground.data,Edge.mk 10 Ground.data,Edge.mk 13 Ground.data,Edge.mk 16 Ground.data] none) (evO (Row.mk (some 17) none (agg 2 (nth [int i64 5,ao v5])) false (some []) []::Row.mk (some 16) none (ao v5) true (some []) []::u5) u6 []) u2 g (ad w) u2 g/\2<=2/\(∀(c:Nat),c<2->nth [int i64 6,ad w] c=ak (nth [int i64 0,fz Fz.nil 0 0 fun _ _=>any]) 0 2 (List.brecOn (motive:=fun (x:List AV)=>Nat->AV) [int i64 6,ad w] nth._f) c)/\Q AEx.ret (St.mk u6 [cells false 2 (nth [int i64 6,ad w])] g)) ([(0,ref 0 0)])) (Row.mk (some 15) none (agg 2 (nth [int i64 4,AV.bool true])) false (some []) []::Row.mk (some 14) none (agg 2 (nth [int i64 4,ao v4])) false (some []) []::Row.mk (some 13) none (ao v4) true (some []) []::u3)) ([Row.mk (some 3) none (agg 2 (nth [int i64 2,AV.bool true])) false (some []) [],Row.mk (some 2) none (agg 2 (nth [int i64 0,AV.bool false])) false (some []) [],Row.mk (some 1) none (agg 2 (nth [int i64 0,fz Fz.nil 2 0 fun (i:Nat)=>ia (List.getD [] i default)])) false (some []) []])) (Row.mk (some 12) none (agg 2 (nth [int i64 5,AV.bool true])) false (some []) []::Row.mk (some 11) none (agg 2 (nth [int i64 3,ao v3])) false (some []) []::Row.mk (some 10) none (ao v3) true (some []) []::u1)) ([cells false 2 (nth [int i64 0,fz Fz.nil 0 0 fun _ _=>any])])) ([Row.mk (some 9) none (agg 2 (nth [int i64 2,AV.bool false])) false (some []) [],Row.mk (some 8) none (agg 2 (nth [int i64 2,ao v2])) false (some []) [],Row.mk (some 7) none (ao v2) true (some []) [],Row.mk (some 6) none (agg 2 (nth [int i64 3,AV.bool false])) false (some []) [],Row.mk (some 5) none (agg 2 (nth [int i64 1,ao v1])) false (some []) [],Row.mk (some 4) none (ao v1) true (some []) [],Row.mk (some 3) none (agg 2 (nth [int i64 2,AV.bool true])) false (some []) [],Row.mk (some 2) none (agg 2 (nth [int i64 0,AV.bool false])) false (some []) [],Row.mk (some 1) none (agg 2 (nth [int i64 0,fz Fz.nil 2 0 fun (i:Nat)=>ia (List.getD [] i default)])) false (some []) []])) (fun _=>by kernel_rfl) ⟨(fun _ _=>⟨rfl,(mm (args':=[int i64 0,ao (KL.mk [] Fz.nil)]) (eO _ _ (KL.mk [] Fz.nil) _ _) (by exact⟨Le.refl _,Le.nil,trivial⟩) (Le.refl _))⟩),(fun _ _=>⟨rfl,(jv _ _ _ _)⟩),(fun _ _=>⟨rfl,(jw _ _ _ _)⟩),?_,(fun _ _=>⟨rfl,(eO _ _ _ _ _)⟩),(fun _ _=>⟨rfl,(jv _ _ _ _)⟩),?_,(fun _ _=>⟨rfl,(eO _ _ _ _ _)⟩),(fun _ _=>⟨rfl,(jv _ _ _ _)⟩),?_,(fun _ _=>⟨rfl,(eO _ _ _ _ _)⟩),(fun _ _=>⟨rfl,(jw _ _ _ _)⟩),?_,(fun _ _=>⟨rfl,(eO _ _ _ _ _)⟩),(fun _ _=>⟨rfl,(jw _ _ _ _)⟩),?_,(fun _ _=>⟨rfl,(eO _ _ _ _ _)⟩),?_,by omega,(fun c hc=>match c,hc with|0,_=>(by kernel_rfl)|1,_=>(by kernel_rfl) ),?_⟩
 ·subst e1;exact bY (n:=2) (es:=2) (by kernel_rfl) (by exact⟨⟨⟨trivial,trivial⟩,trivial⟩,⟨⟨trivial,trivial⟩,trivial⟩,trivial⟩) rfl rfl (fun i hi j hj=>match i,hi,j,hj with|0,_,0,_=>(by kernel_rfl)|0,_,1,_=>(by kernel_rfl)|1,_,0,_=>(by kernel_rfl)|1,_,1,_=>(by kernel_rfl) ) (fun i hi j hj=>match i,hi,j,hj with|0,_,0,_=>trivial|0,_,1,_=>trivial|1,_,0,_=>trivial|1,_,1,_=>trivial )
 ·subst e2;exact bY (n:=1) (es:=2) (by kernel_rfl) (by exact⟨⟨⟨trivial,trivial⟩,trivial⟩,trivial⟩) rfl rfl (fun i hi j hj=>match i,hi,j,hj with|0,_,0,_=>(by kernel_rfl)|0,_,1,_=>(by kernel_rfl) ) (fun i hi j hj=>match i,hi,j,hj with|0,_,0,_=>trivial|0,_,1,_=>trivial )
 ·subst e3;exact bY (n:=1) (es:=2) (by kernel_rfl) (by exact⟨⟨⟨trivial,trivial⟩,trivial⟩,trivial⟩) rfl rfl (fun i hi j hj=>match i,hi,j,hj with|0,_,0,_=>(by kernel_rfl)|0,_,1,_=>(by kernel_rfl) ) (fun i hi j hj=>match i,hi,j,hj with|0,_,0,_=>trivial|0,_,1,_=>trivial )
 ·subst e4;exact bY (n:=1) (es:=2) (by kernel_rfl) (by exact⟨⟨⟨trivial,trivial⟩,trivial⟩,trivial⟩) rfl rfl (fun i hi j hj=>match i,hi,j,hj with|0,_,0,_=>(by kernel_rfl)|0,_,1,_=>(by kernel_rfl) ) (fun i hi j hj=>match i,hi,j,hj with|0,_,0,_=>trivial|0,_,1,_=>trivial )
 ·subst e5;exact bY (n:=1) (es:=2) (by kernel_rfl) (by exact⟨⟨⟨trivial,trivial⟩,trivial⟩,trivial⟩) rfl rfl (fun i hi j hj=>match i,hi,j,hj with|0,_,0,_=>(by kernel_rfl)|0,_,1,_=>(by kernel_rfl) ) (fun i hi j hj=>match i,hi,j,hj with|0,_,0,_=>trivial|0,_,1,_=>trivial )
 ·subst e1 e2 e3 e4 e5 f;exact bY (n:=6) (es:=2) (by kernel_rfl) (by exact⟨⟨⟨trivial,trivial⟩,trivial⟩,⟨⟨trivial,trivial⟩,trivial⟩,⟨⟨trivial,trivial⟩,trivial⟩,⟨⟨trivial,trivial⟩,trivial⟩,⟨⟨trivial,trivial⟩,trivial⟩,⟨⟨trivial,trivial⟩,trivial⟩,trivial⟩) rfl rfl (fun i hi j hj=>match i,hi,j,hj with|0,_,0,_=>(by kernel_rfl)|0,_,1,_=>(by kernel_rfl)|1,_,0,_=>(by kernel_rfl)|1,_,1,_=>(by kernel_rfl)|2,_,0,_=>(by kernel_rfl)|2,_,1,_=>(by kernel_rfl)|3,_,0,_=>(by kernel_rfl)|3,_,1,_=>(by kernel_rfl)|4,_,0,_=>(by kernel_rfl)|4,_,1,_=>(by kernel_rfl)|5,_,0,_=>(by kernel_rfl)|5,_,1,_=>(by kernel_rfl) ) (fun i hi j hj=>match i,hi,j,hj with|0,_,0,_=>trivial|0,_,1,_=>trivial|1,_,0,_=>trivial|1,_,1,_=>trivial|2,_,0,_=>trivial|2,_,1,_=>trivial|3,_,0,_=>trivial|3,_,1,_=>trivial|4,_,0,_=>trivial|4,_,1,_=>trivial|5,_,0,_=>trivial|5,_,1,_=>trivial )
 ·refine(ax (bC (agg 2 (nth [int i64 6,fz w.2 2 (w.l.length) fun (i:Nat)=>bE (w.l.getD i default)])) ([0+(TyI.mk ((fun (x:TypeInfo)=>x.desc) Tryd.prog.types[23]) Tryd.prog.types[24].size Tryd.prog.types[24].bytes (cw (dH (Value.agg #[Value.int i64 0,Value.slice none 0 0]))) (cZ ((fun (x:TypeInfo)=>x.desc) Tryd.prog.types[23])) (eq Tryd.prog 24)).size<=2]) (by kernel_rfl) (by exact⟨by decide,trivial⟩) ⟨⟨trivial,trivial⟩,trivial⟩ rfl) (Le.of_eq (by kernel_rfl)))
theorem c_B (R:Res)(hp:List AObj)(g:R.σ):Does Tryd.prog R 45 [] hp g (.ret (au tB)) hp g:=by
 refine bI (fun R g=>?_) (by exact trivial) R hp g
 obtain⟨v1,e1⟩:∃v,v=tB1:=⟨_,rfl⟩
 obtain⟨v2,e2⟩:∃v,v=tB2:=⟨_,rfl⟩
 obtain⟨v3,e3⟩:∃v,v=tB3:=⟨_,rfl⟩
 obtain⟨v4,e4⟩:∃v,v=tB4:=⟨_,rfl⟩
 obtain⟨w,f⟩:∃v,v=tBR:=⟨_,rfl⟩
 show Does _ _ _ _ _ _ (.ret (au ⟨3,tBR⟩)) _ _
 rw[<-f]
 refine aA (nt:=15) (rs:=[.cell 0 24]) (k0:=0) (by kernel_rfl) (by kernel_rfl) (by kernel_rfl) rfl ?_
 refine vcQ [] (lkL [(0,[0]),(1,[0])]) (lkL [(1,[(0,ROrc.pcall (bV (Lit.mk 1 true))),(1,ROrc.kop (ao v1)),(2,ROrc.pcall (bQ (Rule.mk 0 v1))),(3,ROrc.pcall (bV (Lit.mk 0 true))),(4,ROrc.kop (ao v2)),(5,ROrc.pcall (bQ (Rule.mk 1 v2))),(6,ROrc.pcall (bV (Lit.mk 0 false))),(7,ROrc.kop (ao v3)),(8,ROrc.pcall (bQ (Rule.mk 2 v3))),(9,ROrc.pcall (bV (Lit.mk 1 false))),(10,ROrc.kop (ao v4)),(11,ROrc.pcall (bQ (Rule.mk 2 v4))),(12,ROrc.kop (ad w)),(14,ROrc.val (Orc.obj (nth [int i64 3,ad w])))])]) (fun Q=>(fun (u1:List Row)=>(fun (u2:List AObj)=>(fun (u3:List Row)=>(fun (u4:Row)=>(fun (u5:AV)=>(∀(hp:List AObj) (g:R.σ),true=true/\Does Tryd.prog R 92 [int i64 1] hp g (ret (agg 2 (nth [int i64 1,AV.bool true]))) hp g)/\OpOk Tryd.prog R (Oper.mk (some 2) (Op.buildSlice 73 1 #[(0,Operand.tmp 1)]) 73 "law.go:25" #[Edge.mk 0 Ground.data] none) (evO [u4] [(0,ref 0 0)] []) u2 g (ao v1) u2 g/\(∀(hp:List AObj) (g:R.σ),true=true/\Does Tryd.prog R 90 [u5,ao v1] hp g (ret (agg 2 (nth [u5,ao v1]))) hp g)/\(∀(hp:List AObj) (g:R.σ),true=true/\Does Tryd.prog R 92 [u5] hp g (ret (agg 2 (nth [u5,AV.bool true]))) hp g)/\OpOk Tryd.prog R (Oper.mk (some 5) (Op.buildSlice 73 1 #[(0,Operand.tmp 4)]) 73 "law.go:25" #[Edge.mk 3 Ground.data] none) (evO [Row.mk (some 4) none (agg 2 (nth [u5,AV.bool true])) false (some []) [],Row.mk (some 3) none (agg 2 (nth [u5,ao v1])) false (some []) [],Row.mk (some 2) none (ao v1) true (some []) [],u4] [(0,ref 0 0)] []) u2 g (ao v2) u2 g/\(∀(hp:List AObj) (g:R.σ),true=true/\Does Tryd.prog R 90 [int i64 1,ao v2] hp g (ret (agg 2 (nth [int i64 1,ao v2]))) hp g)/\(∀(hp:List AObj) (g:R.σ),true=true/\Does Tryd.prog R 91 [u5] hp g (ret (agg 2 (nth [u5,AV.bool false]))) hp g)/\OpOk Tryd.prog R (Oper.mk (some 8) (Op.buildSlice 73 1 #[(0,Operand.tmp 7)]) 73 "law.go:25" #[Edge.mk 6 Ground.data] none) (evO u1 [(0,ref 0 0)] []) u2 g (ao v3) u2 g/\(∀(hp:List AObj) (g:R.σ),true=true/\Does Tryd.prog R 90 [int i64 2,ao v3] hp g (ret (agg 2 (nth [int i64 2,ao v3]))) hp g)/\(∀(hp:List AObj) (g:R.σ),true=true/\Does Tryd.prog R 91 [int i64 1] hp g (ret (agg 2 (nth [int i64 1,AV.bool false]))) hp g)/\OpOk Tryd.prog R (Oper.mk (some 11) (Op.buildSlice 73 1 #[(0,Operand.tmp 10)]) 73 "law.go:25" #[Edge.mk 9 Ground.data] none) (evO u3 [(0,ref 0 0)] []) u2 g (ao v4) u2 g/\(∀(hp:List AObj) (g:R.σ),true=true/\Does Tryd.prog R 90 [int i64 2,ao v4] hp g (ret (agg 2 (nth [int i64 2,ao v4]))) hp g)/\OpOk Tryd.prog R (Oper.mk (some 13) (Op.buildSlice 22 4 #[(0,Operand.tmp 3),(1,Operand.tmp 6),(2,Operand.tmp 9),(3,Operand.tmp 12)]) 22 "law.go:25" #[Edge.mk 2 Ground.data,Edge.mk 5 Ground.data,Edge.mk 8 Ground.data,Edge.mk 11 Ground.data] none) (evO (Row.mk (some 12) none (agg 2 (nth [int i64 2,ao v4])) false (some []) []::Row.mk (some 11) none (ao v4) true (some []) []::u3) [(0,ref 0 0)] []) u2 g (ad w) u2 g/\2<=2/\(∀(c:Nat),c<2->nth [int i64 3,ad w] c=ak (nth [u5,fz Fz.nil 0 0 fun _ _=>any]) 0 2 (List.brecOn (motive:=fun (x:List AV)=>Nat->AV) [int i64 3,ad w] nth._f) c)/\Q AEx.ret (St.mk [(0,ref 0 0)] [cells false 2 (nth [int i64 3,ad w])] g)) (int i64 0)) (Row.mk (some 1) none (agg 2 (nth [int i64 1,AV.bool true])) false (some []) [])) (Row.mk (some 10) none (agg 2 (nth [int i64 1,AV.bool false])) false (some []) []::Row.mk (some 9) none (agg 2 (nth [int i64 2,ao v3])) false (some []) []::Row.mk (some 8) none (ao v3) true (some []) []::u1)) ([cells false 2 (nth [int i64 0,fz Fz.nil 0 0 fun _ _=>any])])) ([Row.mk (some 7) none (agg 2 (nth [int i64 0,AV.bool false])) false (some []) [],Row.mk (some 6) none (agg 2 (nth [int i64 1,ao v2])) false (some []) [],Row.mk (some 5) none (ao v2) true (some []) [],Row.mk (some 4) none (agg 2 (nth [int i64 0,AV.bool true])) false (some []) [],Row.mk (some 3) none (agg 2 (nth [int i64 0,ao v1])) false (some []) [],Row.mk (some 2) none (ao v1) true (some []) [],Row.mk (some 1) none (agg 2 (nth [int i64 1,AV.bool true])) false (some []) []])) (fun _=>by kernel_rfl) ⟨(fun _ _=>⟨rfl,(jw _ _ _ _)⟩),?_,(fun _ _=>⟨rfl,(eO _ _ _ _ _)⟩),(fun _ _=>⟨rfl,(jw _ _ _ _)⟩),?_,(fun _ _=>⟨rfl,(eO _ _ _ _ _)⟩),(fun _ _=>⟨rfl,(jv _ _ _ _)⟩),?_,(fun _ _=>⟨rfl,(eO _ _ _ _ _)⟩),(fun _ _=>⟨rfl,(jv _ _ _ _)⟩),?_,(fun _ _=>⟨rfl,(eO _ _ _ _ _)⟩),?_,by omega,(fun c hc=>match c,hc with|0,_=>(by kernel_rfl)|1,_=>(by kernel_rfl) ),?_⟩
 ·subst e1;exact bY (n:=1) (es:=2) (by kernel_rfl) (by exact⟨⟨⟨trivial,trivial⟩,trivial⟩,trivial⟩) rfl rfl (fun i hi j hj=>match i,hi,j,hj with|0,_,0,_=>(by kernel_rfl)|0,_,1,_=>(by kernel_rfl) ) (fun i hi j hj=>match i,hi,j,hj with|0,_,0,_=>trivial|0,_,1,_=>trivial )
 ·subst e2;exact bY (n:=1) (es:=2) (by kernel_rfl) (by exact⟨⟨⟨trivial,trivial⟩,trivial⟩,trivial⟩) rfl rfl (fun i hi j hj=>match i,hi,j,hj with|0,_,0,_=>(by kernel_rfl)|0,_,1,_=>(by kernel_rfl) ) (fun i hi j hj=>match i,hi,j,hj with|0,_,0,_=>trivial|0,_,1,_=>trivial )
 ·subst e3;exact bY (n:=1) (es:=2) (by kernel_rfl) (by exact⟨⟨⟨trivial,trivial⟩,trivial⟩,trivial⟩) rfl rfl (fun i hi j hj=>match i,hi,j,hj with|0,_,0,_=>(by kernel_rfl)|0,_,1,_=>(by kernel_rfl) ) (fun i hi j hj=>match i,hi,j,hj with|0,_,0,_=>trivial|0,_,1,_=>trivial )
 ·subst e4;exact bY (n:=1) (es:=2) (by kernel_rfl) (by exact⟨⟨⟨trivial,trivial⟩,trivial⟩,trivial⟩) rfl rfl (fun i hi j hj=>match i,hi,j,hj with|0,_,0,_=>(by kernel_rfl)|0,_,1,_=>(by kernel_rfl) ) (fun i hi j hj=>match i,hi,j,hj with|0,_,0,_=>trivial|0,_,1,_=>trivial )
 ·subst e1 e2 e3 e4 f;exact bY (n:=4) (es:=2) (by kernel_rfl) (by exact⟨⟨⟨trivial,trivial⟩,trivial⟩,⟨⟨trivial,trivial⟩,trivial⟩,⟨⟨trivial,trivial⟩,trivial⟩,⟨⟨trivial,trivial⟩,trivial⟩,trivial⟩) rfl rfl (fun i hi j hj=>match i,hi,j,hj with|0,_,0,_=>(by kernel_rfl)|0,_,1,_=>(by kernel_rfl)|1,_,0,_=>(by kernel_rfl)|1,_,1,_=>(by kernel_rfl)|2,_,0,_=>(by kernel_rfl)|2,_,1,_=>(by kernel_rfl)|3,_,0,_=>(by kernel_rfl)|3,_,1,_=>(by kernel_rfl) ) (fun i hi j hj=>match i,hi,j,hj with|0,_,0,_=>trivial|0,_,1,_=>trivial|1,_,0,_=>trivial|1,_,1,_=>trivial|2,_,0,_=>trivial|2,_,1,_=>trivial|3,_,0,_=>trivial|3,_,1,_=>trivial )
 ·refine(ax (bC (agg 2 (nth [int i64 3,fz w.2 2 (w.l.length) fun (i:Nat)=>bE (w.l.getD i default)])) ([0+(TyI.mk ((fun (x:TypeInfo)=>x.desc) Tryd.prog.types[23]) Tryd.prog.types[24].size Tryd.prog.types[24].bytes (cw (dH (Value.agg #[Value.int i64 0,Value.slice none 0 0]))) (cZ ((fun (x:TypeInfo)=>x.desc) Tryd.prog.types[23])) (eq Tryd.prog 24)).size<=2]) (by kernel_rfl) (by exact⟨by decide,trivial⟩) ⟨⟨trivial,trivial⟩,trivial⟩ rfl) (Le.of_eq (by kernel_rfl)))
theorem yh (R:Res)(hp:List AObj)(g:R.σ):Does Tryd.prog R 57 [] hp g (.ret (aV tS)) hp g:=by
 refine bI (fun R g=>?_) (by exact trivial) R hp g
 obtain⟨v1,e1⟩:∃v,v=tS1:=⟨_,rfl⟩
 obtain⟨v2,e2⟩:∃v,v=tS2:=⟨_,rfl⟩
 obtain⟨v3,e3⟩:∃v,v=tS3:=⟨_,rfl⟩
 obtain⟨w,f⟩:∃v,v=tS:=⟨_,rfl⟩
 rw[<-f]
 refine aA (nt:=8) (rs:=[.tmp 0]) (k0:=0) (by kernel_rfl) (by kernel_rfl) (by kernel_rfl) rfl ?_
 refine vcQ [] (lkL [(1,[0])]) (lkL [(1,[(0,ROrc.kop (am v1)),(2,ROrc.kop (am v2)),(4,ROrc.kop (am v3)),(6,ROrc.kop (aV w))])]) (fun Q=>(fun (u1:List Row)=>OpOk Tryd.prog R (Oper.mk (some 1) (Op.buildSlice 53 1 #[(0,Operand.const (Value.int i64 0))]) 53 "law.go:30" #[] none) (evO [] [] []) [] g (am v1) [] g/\OpOk Tryd.prog R (Oper.mk (some 3) (Op.buildSlice 53 2 #[(0,Operand.const (Value.int i64 2)),(1,Operand.const (Value.int i64 3))]) 53 "law.go:30" #[] none) (evO [Row.mk (some 2) none (agg 2 (nth [int i64 0,am v1])) false (some []) [],Row.mk (some 1) none (am v1) true (some []) []] [] []) [] g (am v2) [] g/\OpOk Tryd.prog R (Oper.mk (some 5) (Op.buildSlice 53 1 #[(0,Operand.const (Value.int i64 1))]) 53 "law.go:30" #[] none) (evO u1 [] []) [] g (am v3) [] g/\OpOk Tryd.prog R (Oper.mk (some 7) (Op.buildSlice 29 3 #[(0,Operand.tmp 2),(1,Operand.tmp 4),(2,Operand.tmp 6)]) 29 "law.go:30" #[Edge.mk 1 Ground.data,Edge.mk 3 Ground.data,Edge.mk 5 Ground.data] none) (evO (Row.mk (some 6) none (agg 2 (nth [int i64 1,am v3])) false (some []) []::Row.mk (some 5) none (am v3) true (some []) []::u1) [] []) [] g (aV w) [] g/\Q AEx.ret (St.mk [(0,aV w)] [] g)) ([Row.mk (some 4) none (agg 2 (nth [int i64 (-1),am v2])) false (some []) [],Row.mk (some 3) none (am v2) true (some []) [],Row.mk (some 2) none (agg 2 (nth [int i64 0,am v1])) false (some []) [],Row.mk (some 1) none (am v1) true (some []) []])) (fun _=>by kernel_rfl) ⟨?_,?_,?_,?_,?_⟩
 ·subst e1;exact bY (n:=1) (es:=1) (by kernel_rfl) (by exact⟨trivial,trivial⟩) rfl rfl (fun i hi j hj=>match i,hi,j,hj with|0,_,0,_=>(by kernel_rfl) ) (fun i hi j hj=>match i,hi,j,hj with|0,_,0,_=>trivial )
 ·subst e2;exact bY (n:=2) (es:=1) (by kernel_rfl) (by exact⟨trivial,trivial,trivial⟩) rfl rfl (fun i hi j hj=>match i,hi,j,hj with|0,_,0,_=>(by kernel_rfl)|1,_,0,_=>(by kernel_rfl) ) (fun i hi j hj=>match i,hi,j,hj with|0,_,0,_=>trivial|1,_,0,_=>trivial )
 ·subst e3;exact bY (n:=1) (es:=1) (by kernel_rfl) (by exact⟨trivial,trivial⟩) rfl rfl (fun i hi j hj=>match i,hi,j,hj with|0,_,0,_=>(by kernel_rfl) ) (fun i hi j hj=>match i,hi,j,hj with|0,_,0,_=>trivial )
 ·subst e1 e2 e3 f;exact bY (n:=3) (es:=2) (by kernel_rfl) (by exact⟨⟨⟨trivial,trivial⟩,trivial⟩,⟨⟨trivial,trivial⟩,trivial⟩,⟨⟨trivial,trivial⟩,trivial⟩,trivial⟩) rfl rfl (fun i hi j hj=>match i,hi,j,hj with|0,_,0,_=>(by kernel_rfl)|0,_,1,_=>(by kernel_rfl)|1,_,0,_=>(by kernel_rfl)|1,_,1,_=>(by kernel_rfl)|2,_,0,_=>(by kernel_rfl)|2,_,1,_=>(by kernel_rfl) ) (fun i hi j hj=>match i,hi,j,hj with|0,_,0,_=>trivial|0,_,1,_=>trivial|1,_,0,_=>trivial|1,_,1,_=>trivial|2,_,0,_=>trivial|2,_,1,_=>trivial )
 ·refine(ax (ba _ _ rfl trivial rfl rfl rfl) (Le.of_eq (by kernel_rfl)))
theorem ld:aJ tA=true:=by kernel_rfl
theorem yi:aJ tB=true:=by kernel_rfl
theorem yj:(al tA).1=[⟨0,[0]⟩,⟨-1,[2,3]⟩,⟨1,[1]⟩]:=by kernel_rfl
theorem rY:(dX tA (al tA).2).l=[2,2,1,1,3,3]:=by kernel_rfl
theorem rZ:aX tA=[1,12,2,48]:=by kernel_rfl
theorem yk:(al (aD tA (hgP tA 1))).2 1=2:=by kernel_rfl
theorem ym:(dE (hgP tA 1) (bm (hgP tA 1) tA.rules.l 0) (al (aD tA (hgP tA 1))).1).l.map cW=tS.l.map cW:=by kernel_rfl
theorem yn:(aG (dG tB)).length<=10:=by decide
theorem r7:stP tB 9=[6,5]:=by kernel_rfl
def tT:KL Step:=⟨[⟨1,tS3⟩],.opn⟩
def tV:KL Int:=⟨[2,2,1,1,3,3],.exa⟩
def tO1:KL Int:=⟨[0],.exa⟩
def tO2:KL Int:=⟨[2,3],.exa⟩
def tO3:KL Int:=⟨[1],.exa⟩
def tO4:KL Int:=⟨[4,5],.exa⟩
def tO (i:Nat):KL Int:=[tO1,tO2,tO3,tO4].getD i ⟨[],.nil⟩
def tM1:KL Int:=⟨[1,2],.exa⟩
def tM2:KL Int:=⟨[0,2],.exa⟩
def tM (i:Nat):KL Int:=[tM1,tM2].getD i ⟨[],.nil⟩
theorem yp:dQ tA (fun _=>3) (tT.l.getD 0 default)=false:=by kernel_rfl
theorem yq:(bO (al tA).1).l.map cW=tS.l.map cW:=by kernel_rfl
theorem yr:∀i,((bO (al tA).1).l.getD i default).atoms.l.length<1000000:=by
 intro i
 match i with
 |0=>exact of_decide_eq_true (by kernel_rfl)
 |1=>exact of_decide_eq_true (by kernel_rfl)
 |2=>exact of_decide_eq_true (by kernel_rfl)
 |_+3=>exact of_decide_eq_true (by kernel_rfl)
theorem yu:∀i,((dE (hgP tA 1) (bm (hgP tA 1) tA.rules.l 0) (al (aD tA (hgP tA 1))).1).l.getD i default).atoms.l.length<1000000:=by
 intro i
 match i with
 |0=>exact of_decide_eq_true (by kernel_rfl)
 |1=>exact of_decide_eq_true (by kernel_rfl)
 |2=>exact of_decide_eq_true (by kernel_rfl)
 |_+3=>exact of_decide_eq_true (by kernel_rfl)
theorem lf {s:Nat}:(ah s).l.length<1000000:=by
 show(aG s).length<1000000
 rw[fh]
 have:=fg s
 omega
def lsX (n:Nat)(b:Nat->KL Int):AV:=.fz .exa 1 n (fun i _=>am (b i))
theorem r8 (R:Res)(n:Nat)(a b:Nat->KL Int)(hp:List AObj)(g:R.σ)(hn:n<1000000)(h:∀i,i<n->(a i).l=(b i).l)(hl:∀i,(a i).l.length<1000000) :
  Does Tryd.prog R 29 [a8 n a,.fz .exa 1 n (fun i _=>am (b i))] hp g (.ret (.bool true)) hp g:=by
 refine bI (fun R g=>?_) (by exact⟨trivial,trivial,trivial⟩) R hp g
 refine aA (nt:=34) (rs:=[.tmp 4]) (k0:=0) (by kernel_rfl) (by kernel_rfl) (by kernel_rfl) rfl ?_
 refine vcQ [] (lkL [(0,[0,1]),(1,[0,1,5])]) (fun _=>[]) (fun Q=>Wp Tryd.prog R 34 0 Rd.top (ae Tryd.prog 29) [1,0,1,0] (aq Tryd.prog R 34 0 Rd.top (ae Tryd.prog 29) Q [Kont.blk 0,Kont.seq [1,1]]) (St.mk [(0,a8 n a),(1,fz Fz.exa 1 n fun (i x:Nat)=>am (b i)),(5,int i64 0)] [] g)) (fun _=>by kernel_rfl) (?_)
 refine(bj (by kernel_rfl) (fun (i:Nat)=>⟨[(0,a8 n a),(1,fz Fz.exa 1 n fun (i x:Nat)=>am (b i)),(5,.int .i64 i)],[],g⟩) (fun (i:Nat)=>(i<=n)) (fun (i:Nat)=>(n-i)) 0 (bf ⟨Le.refl _,Le.refl _,(Le.of_eq (by kernel_rfl)),trivial⟩ rfl rfl) ?_ (fun i hi=>?_))
 ·omega
 ·have h1:=hl i
  refine vcQ [] (lkL [(2,[0,1,5,16]),(4,[0,1,5,28]),(5,[4]),(3,[0,1,5])]) (lkL [(4,[(8,ROrc.pcall (AV.bool (decide ((a i).l=(b i).l))))])]) (fun Q=>(fun (u1:Bool)=>(fun (u2:Int)=>(u1=true->Tables.follows Tryd.prog.toTables Departure.mixedOrders=true/\(0<=u2/\u2<(n:Int))/\1<=1/\(0<=u2/\u2<(n:Int))/\1<=1/\(∀(hp:List AObj) (g:R.σ),true=true/\Does Tryd.prog R 33 [am (a i),am (b i)] hp g (ret (AV.bool (decide ((a i).l=(b i).l)))) hp g)/\((!decide ((a i).l=(b i).l))=true->Q AEx.ret (St.mk [(4,AV.bool false)] [] g))/\((!decide ((a i).l=(b i).l))=false->(-9223372036854775808<=u2+1/\u2+1<=9223372036854775807)/\Q AEx.normal (St.mk [(0,a8 n a),(1,fz Fz.exa 1 n fun (i x:Nat)=>am (b i)),(5,int i64 (u2+1))] [] g)))/\(u1=false->Q (AEx.exit 0) (St.mk [(0,a8 n a),(1,fz Fz.exa 1 n fun (i x:Nat)=>am (b i)),(5,int i64 u2),(16,AV.bool u1)] [] g))) ((i:Int))) (bif decide ((i:Int)<(n:Int)) then(n:Int)==(n:Int) else false)) (fun _=>by kernel_rfl) ⟨fun c1=>have c1:(i:Int)<(n:Int)/\(n:Int)=(n:Int):=⟨(of_decide_eq_true (cT c1).1),(beq_iff_eq.mp (cT c1).2)⟩;⟨by kernel_rfl,by omega,by omega,by omega,by omega,(fun _ _=>⟨rfl,(kr _ _ _ _ _ (by omega))⟩),fun c2=>have c2:¬(a i).l=(b i).l:=(of_decide_eq_false ((Bool.not_eq_true' _).mp c2));?_,fun c2=>have c2:(a i).l=(b i).l:=(of_decide_eq_true ((Bool.not_eq_false' _).mp c2));⟨by omega,?_⟩⟩,fun c1=>have c1:¬(i:Int)<(n:Int)∨¬(n:Int)=(n:Int):=((fE c1).imp (fun h=>(of_decide_eq_false h)) (fun h=>(beq_eq_false_iff_ne.mp h)));?_⟩
  ·exact absurd (h i (by omega)) c2
  ·refine(aU (i+1) (bf ⟨Le.refl _,Le.refl _,(Le.of_eq (by kernel_rfl)),trivial⟩ rfl rfl) ?_ ?_)
   ·omega
   ·omega
  ·refine⟨_,To.refl _,vcQ [] (lkL [(6,[4])]) (fun _=>[]) (fun Q=>Q AEx.ret (St.mk [(4,AV.bool ((n:Int)==(n:Int)))] [] g)) (fun _=>by kernel_rfl) (?_)⟩
   refine(ax (ba _ _ rfl trivial rfl rfl rfl) (Le.of_eq ?_))
   show(AV.bool ((↑n:Int)==(↑n:Int)))=_
   show AV.bool _=AV.bool _
   simp
theorem lg (R:Res)[Tab LT R](g:R.σ):Does Tryd.prog R 15 [] [] g (.ret (.bool true)) [] g:=by
 have hD:∀(R:Res) [Tab LT R] (g:R.σ),Does Tryd.prog R 17 [au tA] [] g (.ret (.tup 3 (nth [aV (bO (al tA).1),am (dX tA (al tA).2),.int .i64 0]))) [] g:=fun R _ g=>wL R tA ld g
 have hW:∀(R:Res) [Tab LT R] (g:R.σ),Does Tryd.prog R 23 [au tA,aV tT] [] g (.ret (.tup 2 (nth [.int .i64 0,.int .i64 7]))) [] g:=fun R _ g=>xp R tA tT ld (by decide) (by decide) yp g
 have hO:∀(R:Res) [Tab LT R] (g:R.σ),Does Tryd.prog R 31 [au tA] [] g (.ret (.tup 2 (nth [a8 4 (fun i=>ah ((aX tA).getD i 0)),.int .i64 0]))) [] g:=fun R _ g=>by
  have h:=rP R tA ld g
  rw[show(aX tA).length=4 by rw[rZ];rfl] at h
  exact h
 have hN:∀(R:Res) [Tab LT R] (g:R.σ),Does Tryd.prog R 25 [au tA,.int .i64 1] [] g (.ret (.tup 3 (nth [.int .i64 2,aV (dE (hgP tA 1) (bm (hgP tA 1) tA.rules.l 0) (al (aD tA (hgP tA 1))).1),.int .i64 0]))) [] g:=fun R _ g=>by
  have h:=xg R tA 1 ld (by decide) g
  rw[show(1:Int).toNat=1 from rfl,yk] at h
  exact h
 have hT:∀(R:Res) [Tab LT R] (g:R.σ),Does Tryd.prog R 27 [au tB,.int .i64 9] [] g (.ret (.tup 2 (nth [a8 2 (fun i=>ah ((stP tB 9).getD i 0)),.int .i64 0]))) [] g:=fun R _ g=>by
  have h:=x8 R tB 9 yi (by decide) yn g
  rw[show(stP tB 9).length=2 by rw[r7];rfl] at h
  exact h
 have hS1:∀(R:Res) (hp:List AObj) (g:R.σ),Does Tryd.prog R 20 [aV (bO (al tA).1),aV tS] hp g (.ret (.bool true)) hp g:=fun R hp g=>by
  have h:=qc R (bO (al tA).1) tS hp g (by rw[qR,yj];decide) yr
  rw[decide_eq_true yq] at h
  exact h
 have hV1:∀(R:Res) (hp:List AObj) (g:R.σ),Does Tryd.prog R 21 [am (dX tA (al tA).2),am tV] hp g (.ret (.bool true)) hp g:=fun R hp g=>by
  have h:=vv R (dX tA (al tA).2) tV hp g (by rw[rY];decide)
  rw[decide_eq_true (show(dX tA (al tA).2).l=tV.l from rY)] at h
  exact h
 have hL1:∀(R:Res) (hp:List AObj) (g:R.σ),Does Tryd.prog R 29 [a8 4 (fun i=>ah ((aX tA).getD i 0)),lsX 4 tO] hp g (.ret (.bool true)) hp g:=fun R hp g=>r8 R 4 _ _ hp g (by decide) (fun i hi=>by
  rw[rZ]
  match i,hi with
  |0,_=>exact of_decide_eq_true (by kernel_rfl)
  |1,_=>exact of_decide_eq_true (by kernel_rfl)
  |2,_=>exact of_decide_eq_true (by kernel_rfl)
  |3,_=>exact of_decide_eq_true (by kernel_rfl)) (fun i=>lf)
 have hL2:∀(R:Res) (hp:List AObj) (g:R.σ),Does Tryd.prog R 29 [a8 2 (fun i=>ah ((stP tB 9).getD i 0)),lsX 2 tM] hp g (.ret (.bool true)) hp g:=fun R hp g=>r8 R 2 _ _ hp g (by decide) (fun i hi=>by
  rw[r7]
  match i,hi with
  |0,_=>exact of_decide_eq_true (by kernel_rfl)
  |1,_=>exact of_decide_eq_true (by kernel_rfl)) (fun i=>lf)
 have hS2:∀(R:Res) (hp:List AObj) (g:R.σ),Does Tryd.prog R 20 [aV (dE (hgP tA 1) (bm (hgP tA 1) tA.rules.l 0) (al (aD tA (hgP tA 1))).1),aV tS] hp g (.ret (.bool true)) hp g:=fun R hp g=>by
  have h:=qc R (dE (hgP tA 1) (bm (hgP tA 1) tA.rules.l 0) (al (aD tA (hgP tA 1))).1) tS hp g (of_decide_eq_true (by kernel_rfl)) yu
  rw[decide_eq_true ym] at h
  exact h
 have hA:∀(R:Res) (hp:List AObj) (g:R.σ),Does Tryd.prog R 44 [] hp g (.ret (au tA)) hp g:=fun R hp g=>c_A R hp g
 have hB:∀(R:Res) (hp:List AObj) (g:R.σ),Does Tryd.prog R 45 [] hp g (.ret (au tB)) hp g:=fun R hp g=>c_B R hp g
 have hC:∀(R:Res) (hp:List AObj) (g:R.σ),Does Tryd.prog R 57 [] hp g (.ret (aV tS)) hp g:=fun R hp g=>yh R hp g
 obtain⟨n1,e1⟩:∃v,v=aV (bO (al tA).1):=⟨_,rfl⟩
 obtain⟨n2,e2⟩:∃v,v=am (dX tA (al tA).2):=⟨_,rfl⟩
 obtain⟨n3,e3⟩:∃v,v=a8 4 (fun i=>ah ((aX tA).getD i 0)):=⟨_,rfl⟩
 obtain⟨n4,e4⟩:∃v,v=aV (dE (hgP tA 1) (bm (hgP tA 1) tA.rules.l 0) (al (aD tA (hgP tA 1))).1):=⟨_,rfl⟩
 obtain⟨n5,e5⟩:∃v,v=a8 2 (fun i=>ah ((stP tB 9).getD i 0)):=⟨_,rfl⟩
 simp only[<-e1,<-e2,<-e3,<-e4,<-e5] at hD hO hN hT hS1 hV1 hL1 hL2 hS2
 obtain⟨a,ha⟩:∃v,v=tA:=⟨_,rfl⟩
 obtain⟨b,hb⟩:∃v,v=tB:=⟨_,rfl⟩
 obtain⟨s,hs⟩:∃v,v=tS:=⟨_,rfl⟩
 obtain⟨t,ht⟩:∃v,v=tT:=⟨_,rfl⟩
 obtain⟨v,hv⟩:∃v,v=tV:=⟨_,rfl⟩
 rw[<-ha] at hA hD hW hO hN
 rw[<-hb] at hB hT
 rw[<-hs] at hC hS1 hS2
 rw[<-ht] at hW
 rw[<-hv] at hV1
 obtain⟨o1,w1⟩:∃v,v=tO1:=⟨_,rfl⟩
 obtain⟨o2,w2⟩:∃v,v=tO2:=⟨_,rfl⟩
 obtain⟨o3,w3⟩:∃v,v=tO3:=⟨_,rfl⟩
 obtain⟨o4,w4⟩:∃v,v=tO4:=⟨_,rfl⟩
 obtain⟨m1,w5⟩:∃v,v=tM1:=⟨_,rfl⟩
 obtain⟨m2,w6⟩:∃v,v=tM2:=⟨_,rfl⟩
 obtain⟨q1,w7⟩:∃v,v=tO:=⟨_,rfl⟩
 obtain⟨q2,w8⟩:∃v,v=tM:=⟨_,rfl⟩
 rw[<-w7] at hL1
 rw[<-w8] at hL2
 refine aA (nt:=97) (rs:=[.tmp 0]) (k0:=0) (by kernel_rfl) (by kernel_rfl) (by kernel_rfl) rfl ?_
 refine vcQ [[1,1,1,1,1,1,0,1,0]] (lkL [(1,[1,2,3]),(2,[1,2,3,4,5]),(3,[1,2,3,4,5,6,7]),(4,[1,2,3,4,5,6,7,8,9,10]),(5,[1,2,3,4,5,6,7,8,9,10,11,12]),(6,[1,2,4,6,8,9,11,59]),(8,[0])]) (lkL [(1,[(0,ROrc.pcall (au a)),(1,ROrc.kcall (tup 3 (nth [n1,n2,int i64 0])))]),(2,[(0,ROrc.pcall (au a)),(1,ROrc.pcall (aV s)),(2,ROrc.kop (aV t)),(3,ROrc.kcall (tup 2 (nth [int i64 0,int i64 7])))]),(3,[(0,ROrc.pcall (au a)),(1,ROrc.kcall (tup 2 (nth [n3,int i64 0])))]),(4,[(0,ROrc.pcall (au a)),(1,ROrc.kcall (tup 3 (nth [int i64 2,n4,int i64 0])))]),(5,[(0,ROrc.pcall (au b)),(1,ROrc.kcall (tup 2 (nth [n5,int i64 0])))]),(8,[(1,ROrc.pcall (aV s)),(2,ROrc.pcall (AV.bool true)),(5,ROrc.kop (am v)),(6,ROrc.pcall (AV.bool true)),(14,ROrc.kop (am o1)),(15,ROrc.kop (am o2)),(16,ROrc.kop (am o3)),(17,ROrc.kop (am o4)),(18,ROrc.kop (lsX 4 q1)),(19,ROrc.pcall (AV.bool true)),(27,ROrc.pcall (aV s)),(28,ROrc.pcall (AV.bool true)),(32,ROrc.kop (am m1)),(33,ROrc.kop (am m2)),(34,ROrc.kop (lsX 2 q2)),(35,ROrc.pcall (AV.bool true))])]) (fun Q=>(fun (u1:List Row)=>(fun (u2:List Row)=>(fun (u3:List (Nat × AV))=>(fun (u4:List Row)=>(fun (u5:Operand)=>(fun (u6:Nat × Bool)=>(fun (u7:List Edge)=>(fun (u8:Operand)=>(fun (u9:List Row)=>(fun (u10:Operand)=>(fun (u11:List Row)=>(∀(hp:List AObj) (g:R.σ),true=true/\Does Tryd.prog R 44 [] hp g (ret (au a)) hp g)/\(true=true/\Does Tryd.prog R 17 [au a] [] g (ret (tup 3 (nth [n1,n2,int i64 0]))) [] g)/\(∀(hp:List AObj) (g:R.σ),true=true/\Does Tryd.prog R 44 [] hp g (ret (au a)) hp g)/\(∀(hp:List AObj) (g:R.σ),true=true/\Does Tryd.prog R 57 [] hp g (ret (aV s)) hp g)/\OpOk Tryd.prog R (Oper.mk (some 22) (Op.slice 29 (Operand.tmp 21) (some u5) none none) 29 "law.go:36" #[Edge.mk 1 Ground.data] none) (evO [Row.mk (some 21) none (aV s) false (some []) [],Row.mk (some 20) none (au a) false (some []) []] [(1,n1),(2,n2),(3,int i64 0)] []) [] g (aV t) [] g/\(true=true/\Does Tryd.prog R 23 [au a,aV t] [] g (ret (tup 2 (nth [int i64 0,int i64 7]))) [] g)/\(∀(hp:List AObj) (g:R.σ),true=true/\Does Tryd.prog R 44 [] hp g (ret (au a)) hp g)/\(true=true/\Does Tryd.prog R 31 [au a] [] g (ret (tup 2 (nth [n3,int i64 0]))) [] g)/\(∀(hp:List AObj) (g:R.σ),true=true/\Does Tryd.prog R 44 [] hp g (ret (au a)) hp g)/\(true=true/\Does Tryd.prog R 25 [au a,int i64 1] [] g (ret (tup 3 (nth [int i64 2,n4,int i64 0]))) [] g)/\(∀(hp:List AObj) (g:R.σ),true=true/\Does Tryd.prog R 45 [] hp g (ret (au b)) hp g)/\(true=true/\Does Tryd.prog R 27 [au b,int i64 9] [] g (ret (tup 2 (nth [n5,int i64 0]))) [] g)/\(false=true->Wp Tryd.prog R 97 0 Rd.top (ae Tryd.prog 15) [1,1,1,1,1,1,0,1,0] (aq Tryd.prog R 97 0 Rd.top (ae Tryd.prog 15) Q [Kont.seq [1,1,1,1,1,1,1]]) (St.mk u3 [] g))/\(false=false->(∀(hp:List AObj) (g:R.σ),true=true/\Does Tryd.prog R 57 [] hp g (ret (aV s)) hp g)/\(∀(hp:List AObj) (g:R.σ),true=true/\Does Tryd.prog R 20 [n1,aV s] hp g (ret (AV.bool true)) hp g)/\(true=true->OpOk Tryd.prog R (Oper.mk (some 65) (Op.buildSlice 33 6 #[(0,u5),(1,u5),(2,u8),(3,u8),(4,u10),(5,u10)]) 33 "law.go:43" #[Edge.mk 3 Ground.guard] (some (3,true))) (evO [Row.mk (some 64) (some (3,true)) n2 false (some []) [],Row.mk (some 63) none (AV.bool true) false (some []) [],Row.mk (some 62) none (AV.bool true) false (some []) [],Row.mk (some 61) none (aV s) false (some []) [],Row.mk (some 60) none n1 false (some []) []] u3 [(3,true)]) [] g (am v) [] g)/\(true=true->∀(hp:List AObj) (g:R.σ),true=true/\Does Tryd.prog R 21 [n2,am v] hp g (ret (AV.bool true)) hp g)/\(true=true->OpOk Tryd.prog R (Oper.mk (some 74) (Op.buildSlice 53 1 #[(0,Operand.const (Value.int i64 0))]) 53 "law.go:43" (List.toArray u7) (some u6)) (evO u1 u3 [u6]) [] g (am o1) [] g)/\(true=true->OpOk Tryd.prog R (Oper.mk (some 75) (Op.buildSlice 53 2 #[(0,u5),(1,u10)]) 53 "law.go:43" (List.toArray u7) (some u6)) (evO (Row.mk (some 74) (some u6) (am o1) true (some []) []::u1) u3 [u6]) [] g (am o2) [] g)/\(true=true->OpOk Tryd.prog R (Oper.mk (some 76) (Op.buildSlice 53 1 #[(0,u8)]) 53 "law.go:43" (List.toArray u7) (some u6)) (evO u4 u3 [u6]) [] g (am o3) [] g)/\(true=true->OpOk Tryd.prog R (Oper.mk (some 77) (Op.buildSlice 53 2 #[(0,Operand.const (Value.int i64 4)),(1,Operand.const (Value.int i64 5))]) 53 "law.go:43" (List.toArray u7) (some u6)) (evO u11 u3 [u6]) [] g (am o4) [] g)/\(true=true->OpOk Tryd.prog R (Oper.mk (some 78) (Op.buildSlice 49 4 #[(0,Operand.tmp 74),(1,Operand.tmp 75),(2,Operand.tmp 76),(3,Operand.tmp 77)]) 49 "law.go:43" (List.toArray (Edge.mk 14 Ground.data::Edge.mk 15 Ground.data::Edge.mk 16 Ground.data::Edge.mk 17 Ground.data::u7)) (some u6)) (evO (Row.mk (some 77) (some u6) (am o4) true (some []) []::u11) u3 [u6]) [] g (fz Fz.exa 1 4 fun (i x:Nat)=>am (q1 i)) [] g)/\(true=true->∀(hp:List AObj) (g:R.σ),true=true/\Does Tryd.prog R 29 [n3,fz Fz.exa 1 4 fun (i x:Nat)=>am (q1 i)] hp g (ret (AV.bool true)) hp g)/\(true=true->∀(hp:List AObj) (g:R.σ),true=true/\Does Tryd.prog R 57 [] hp g (ret (aV s)) hp g)/\(true=true->∀(hp:List AObj) (g:R.σ),true=true/\Does Tryd.prog R 20 [n4,aV s] hp g (ret (AV.bool true)) hp g)/\(true=true->OpOk Tryd.prog R (Oper.mk (some 92) (Op.buildSlice 53 2 #[(0,u8),(1,u5)]) 53 "law.go:43" #[Edge.mk 30 Ground.guard] (some (30,true))) (evO u2 u3 [(30,true)]) [] g (am m1) [] g)/\(true=true->OpOk Tryd.prog R (Oper.mk (some 93) (Op.buildSlice 53 2 #[(0,Operand.const (Value.int i64 0)),(1,u5)]) 53 "law.go:43" #[Edge.mk 30 Ground.guard] (some (30,true))) (evO u9 u3 [(30,true)]) [] g (am m2) [] g)/\(true=true->OpOk Tryd.prog R (Oper.mk (some 94) (Op.buildSlice 49 2 #[(0,Operand.tmp 92),(1,Operand.tmp 93)]) 49 "law.go:43" #[Edge.mk 32 Ground.data,Edge.mk 33 Ground.data,Edge.mk 30 Ground.guard] (some (30,true))) (evO (Row.mk (some 93) (some (30,true)) (am m2) true (some []) []::u9) u3 [(30,true)]) [] g (fz Fz.exa 1 2 fun (i x:Nat)=>am (q2 i)) [] g)/\(true=true->∀(hp:List AObj) (g:R.σ),true=true/\Does Tryd.prog R 29 [n5,fz Fz.exa 1 2 fun (i x:Nat)=>am (q2 i)] hp g (ret (AV.bool true)) hp g)/\Q AEx.ret (St.mk [(0,AV.bool true)] [] g))) (Row.mk (some 76) (some u6) (am o3) true (some []) []::u4)) (Operand.const (Value.int i64 3))) (Row.mk (some 92) (some (30,true)) (am m1) true (some []) []::u2)) (Operand.const (Value.int i64 1))) ([Edge.mk 12 Ground.guard])) ((12,true))) (Operand.const (Value.int i64 2))) (Row.mk (some 75) (some (12,true)) (am o2) true (some []) []::Row.mk (some 74) (some (12,true)) (am o1) true (some []) []::u1)) ([(1,n1),(2,n2),(4,int i64 0),(6,n3),(8,int i64 2),(9,n4),(11,n5),(59,AV.bool false)])) (Row.mk (some 91) (some (30,true)) n5 false (some []) []::Row.mk (some 90) none (AV.bool true) false (some []) []::Row.mk (some 89) none (AV.bool true) false (some []) []::Row.mk (some 88) (some (25,true)) (AV.bool true) false (some []) []::Row.mk (some 87) (some (25,true)) (aV s) false (some []) []::Row.mk (some 86) (some (25,true)) n4 false (some []) []::Row.mk (some 85) none (AV.bool true) false (some []) []::Row.mk (some 84) none (AV.bool true) false (some []) []::Row.mk (some 83) (some (21,true)) (AV.bool true) false (some []) []::Row.mk (some 82) (some (21,true)) (int i64 2) false (some []) []::Row.mk (some 81) none (AV.bool true) false (some []) []::Row.mk (some 80) none (AV.bool true) false (some []) []::Row.mk (some 79) (some (12,true)) (AV.bool true) false (some []) []::Row.mk (some 78) (some (12,true)) (fz Fz.exa 1 4 fun (i x:Nat)=>am (q1 i)) true (some []) []::Row.mk (some 77) (some (12,true)) (am o4) true (some []) []::Row.mk (some 76) (some (12,true)) (am o3) true (some []) []::Row.mk (some 75) (some (12,true)) (am o2) true (some []) []::Row.mk (some 74) (some (12,true)) (am o1) true (some []) []::u1)) ([Row.mk (some 73) (some (12,true)) n3 false (some []) [],Row.mk (some 72) none (AV.bool true) false (some []) [],Row.mk (some 71) none (AV.bool true) false (some []) [],Row.mk (some 70) (some (8,true)) (AV.bool true) false (some []) [],Row.mk (some 69) (some (8,true)) (int i64 0) false (some []) [],Row.mk (some 68) none (AV.bool true) false (some []) [],Row.mk (some 67) none (AV.bool true) false (some []) [],Row.mk (some 66) (some (3,true)) (AV.bool true) false (some []) [],Row.mk (some 65) (some (3,true)) (am v) true (some []) [],Row.mk (some 64) (some (3,true)) n2 false (some []) [],Row.mk (some 63) none (AV.bool true) false (some []) [],Row.mk (some 62) none (AV.bool true) false (some []) [],Row.mk (some 61) none (aV s) false (some []) [],Row.mk (some 60) none n1 false (some []) []])) (fun _=>by kernel_rfl) ⟨(fun _ _=>⟨rfl,(hA _ _ _)⟩),⟨rfl,(hD _ _)⟩,(fun _ _=>⟨rfl,(hA _ _ _)⟩),(fun _ _=>⟨rfl,(hC _ _ _)⟩),?_,⟨rfl,(hW _ _)⟩,(fun _ _=>⟨rfl,(hA _ _ _)⟩),⟨rfl,(hO _ _)⟩,(fun _ _=>⟨rfl,(hA _ _ _)⟩),⟨rfl,(hN _ _)⟩,(fun _ _=>⟨rfl,(hB _ _ _)⟩),⟨rfl,(hT _ _)⟩,fun h=>(nomatch h),fun _=>⟨(fun _ _=>⟨rfl,(hC _ _ _)⟩),(fun _ _=>⟨rfl,(hS1 _ _ _)⟩),?_,(fun hgd=>(fun _ _=>⟨rfl,(hV1 _ _ _)⟩)),?_,?_,?_,?_,?_,(fun hgd=>(fun _ _=>⟨rfl,(hL1 _ _ _)⟩)),(fun hgd=>(fun _ _=>⟨rfl,(hC _ _ _)⟩)),(fun hgd=>(fun _ _=>⟨rfl,(hS2 _ _ _)⟩)),?_,?_,?_,(fun hgd=>(fun _ _=>⟨rfl,(hL2 _ _ _)⟩)),?_⟩⟩
 ·subst hs ht
  exact mC rfl (by exact⟨Nat.le_refl _,⟨by decide,by decide⟩,trivial⟩) (mg rfl (fun i j hi hj=>match i,hi with|0,_=>rfl))
 ·intro _;subst hv;exact bY (n:=6) (es:=1) (by kernel_rfl) (by exact⟨trivial,trivial,trivial,trivial,trivial,trivial,trivial⟩) rfl rfl (fun i hi j hj=>match i,hi,j,hj with|0,_,0,_=>(by kernel_rfl)|1,_,0,_=>(by kernel_rfl)|2,_,0,_=>(by kernel_rfl)|3,_,0,_=>(by kernel_rfl)|4,_,0,_=>(by kernel_rfl)|5,_,0,_=>(by kernel_rfl) ) (fun i hi j hj=>match i,hi,j,hj with|0,_,0,_=>trivial|1,_,0,_=>trivial|2,_,0,_=>trivial|3,_,0,_=>trivial|4,_,0,_=>trivial|5,_,0,_=>trivial )
 ·intro _;subst w1;exact bY (n:=1) (es:=1) (by kernel_rfl) (by exact⟨trivial,trivial⟩) rfl rfl (fun i hi j hj=>match i,hi,j,hj with|0,_,0,_=>(by kernel_rfl) ) (fun i hi j hj=>match i,hi,j,hj with|0,_,0,_=>trivial )
 ·intro _;subst w2;exact bY (n:=2) (es:=1) (by kernel_rfl) (by exact⟨trivial,trivial,trivial⟩) rfl rfl (fun i hi j hj=>match i,hi,j,hj with|0,_,0,_=>(by kernel_rfl)|1,_,0,_=>(by kernel_rfl) ) (fun i hi j hj=>match i,hi,j,hj with|0,_,0,_=>trivial|1,_,0,_=>trivial )
 ·intro _;subst w3;exact bY (n:=1) (es:=1) (by kernel_rfl) (by exact⟨trivial,trivial⟩) rfl rfl (fun i hi j hj=>match i,hi,j,hj with|0,_,0,_=>(by kernel_rfl) ) (fun i hi j hj=>match i,hi,j,hj with|0,_,0,_=>trivial )
 ·intro _;subst w4;exact bY (n:=2) (es:=1) (by kernel_rfl) (by exact⟨trivial,trivial,trivial⟩) rfl rfl (fun i hi j hj=>match i,hi,j,hj with|0,_,0,_=>(by kernel_rfl)|1,_,0,_=>(by kernel_rfl) ) (fun i hi j hj=>match i,hi,j,hj with|0,_,0,_=>trivial|1,_,0,_=>trivial )
 ·intro _;subst w1 w2 w3 w4 w7;exact bY (n:=4) (es:=1) (by kernel_rfl) (by exact⟨trivial,trivial,trivial,trivial,trivial⟩) rfl rfl (fun i hi j hj=>match i,hi,j,hj with|0,_,0,_=>(by kernel_rfl)|1,_,0,_=>(by kernel_rfl)|2,_,0,_=>(by kernel_rfl)|3,_,0,_=>(by kernel_rfl) ) (fun i hi j hj=>match i,hi,j,hj with|0,_,0,_=>trivial|1,_,0,_=>trivial|2,_,0,_=>trivial|3,_,0,_=>trivial )
 ·intro _;subst w5;exact bY (n:=2) (es:=1) (by kernel_rfl) (by exact⟨trivial,trivial,trivial⟩) rfl rfl (fun i hi j hj=>match i,hi,j,hj with|0,_,0,_=>(by kernel_rfl)|1,_,0,_=>(by kernel_rfl) ) (fun i hi j hj=>match i,hi,j,hj with|0,_,0,_=>trivial|1,_,0,_=>trivial )
 ·intro _;subst w6;exact bY (n:=2) (es:=1) (by kernel_rfl) (by exact⟨trivial,trivial,trivial⟩) rfl rfl (fun i hi j hj=>match i,hi,j,hj with|0,_,0,_=>(by kernel_rfl)|1,_,0,_=>(by kernel_rfl) ) (fun i hi j hj=>match i,hi,j,hj with|0,_,0,_=>trivial|1,_,0,_=>trivial )
 ·intro _;subst w5 w6 w8;exact bY (n:=2) (es:=1) (by kernel_rfl) (by exact⟨trivial,trivial,trivial⟩) rfl rfl (fun i hi j hj=>match i,hi,j,hj with|0,_,0,_=>(by kernel_rfl)|1,_,0,_=>(by kernel_rfl) ) (fun i hi j hj=>match i,hi,j,hj with|0,_,0,_=>trivial|1,_,0,_=>trivial )
 ·refine(ax (ba _ _ rfl trivial rfl rfl rfl) (Le.refl _))
def r9 {U:Type}(x:Fz × List U):KL U:=⟨x.2,x.1⟩
theorem yv:Rea Tryd.prog 77 2 (fun _:Lit=>True) ia:=
 Rea.map (my Tryd.underlying77 (by kernel_rfl) (hU rfl (by kernel_rfl) (kc Tryd.underlying3) (hU rfl (by kernel_rfl) (uC Tryd.underlying4) mw)))
  (fun x:Int × Bool × Unit=>⟨x.1,x.2.1⟩) (fun _ _=>trivial) (fun x j hj=>match j,hj with|0,_=>rfl|1,_=>rfl)
theorem yw:Rea Tryd.prog 73 1 (fun _:KL Lit=>True) (fun x _=>ao x):=
 Rea.map (pJ Tryd.underlying73 (by kernel_rfl) (by omega) yv) r9 (fun _ _=>trivial) (fun x j hj=>rfl)
theorem yx:Rea Tryd.prog 75 2 (fun _:Rule=>True) bE:=by
 have h:=my (n:=2) Tryd.underlying75 (by kernel_rfl) (hU rfl (m:=1) (by kernel_rfl) (kc Tryd.underlying3) (hU rfl (m:=1) (by kernel_rfl) yw mw))
 exact h.map (fun x=>⟨x.1,x.2.1⟩) (fun _ _=>trivial) (fun x j hj=>match j,hj with|0,_=>rfl|1,_=>rfl)
theorem yy:Rea Tryd.prog 22 1 (fun _:KL Rule=>True) (fun x _=>ad x):=
 Rea.map (pJ Tryd.underlying22 (by kernel_rfl) (by omega) yx) r9 (fun _ _=>trivial) (fun x j hj=>rfl)
theorem yz:Rea Tryd.prog 24 2 (fun _:Prg=>True) (fun p=>nth [.int .i64 p.atoms,ad p.rules]):=by
 have h:=my (n:=2) Tryd.underlying24 (by kernel_rfl) (hU rfl (m:=1) (by kernel_rfl) (kc Tryd.underlying3) (hU rfl (m:=1) (by kernel_rfl) yy mw))
 exact h.map (fun x=>⟨x.1,x.2.1⟩) (fun _ _=>trivial) (fun x j hj=>match j,hj with|0,_=>rfl|1,_=>rfl)
theorem yA:Arg Tryd.prog 24 (fun _:Prg=>True) au:=uH Tryd.underlying24 yz
theorem yB (R:Res)(p:Prg)(goal:Int)(hs:dw p)(hb:aJ p=false)(hp:List AObj)(g:R.σ):Does Tryd.prog R 30 [au p,.int .i64 goal] hp g (.ret (.tup 2 (nth [.fz .nil 0 0 (fun _ _=>.any),.int .i64 2]))) hp g:=by
 refine bI (fun R g=>?_) (by exact⟨⟨⟨trivial,trivial⟩,trivial⟩,trivial,trivial⟩) R hp g
 have hK:∀(R:Res) (hp:List AObj) (g:R.σ),Does Tryd.prog R 16 [au p] hp g (.ret (.int .i64 2)) hp g:=fun R hp g=>by
  have h:=eJ R p hp g hs
  rw[hb] at h
  exact h
 refine aA (nt:=22) (rs:=[.tmp 4,.tmp 5]) (k0:=0) (by kernel_rfl) (by kernel_rfl) (by kernel_rfl) rfl ?_
 refine vcQ [[1,0,1,1]] (lkL [(0,[1,2]),(1,[1,2,16]),(2,[4,5])]) (lkL [(1,[(1,ROrc.pcall (int i64 2)),(8,ROrc.pcall (AV.bool (decide (0<=goal/\goal<=p.atoms-1))))])]) (fun Q=>(fun (u1:AObj)=>2<=2/\(∀(hp:List AObj) (g:R.σ),true=true/\Does Tryd.prog R 16 [au p] hp g (ret (int i64 2)) hp g)/\(false=true->1<=2)/\(false=true -> -9223372036854775808<=p.atoms-1/\p.atoms-1<=9223372036854775807)/\(false=true->∀(hp:List AObj) (g:R.σ),true=true/\Does Tryd.prog R 58 [int i64 goal,int i64 0,int i64 (p.atoms-1)] hp g (ret (AV.bool (decide (0<=goal/\goal<=p.atoms-1)))) hp g)/\(true=true->Q AEx.ret (St.mk [(4,fz Fz.nil 0 0 fun _ _=>any),(5,int i64 2)] [u1] g))/\(true=false->Wp Tryd.prog R 22 0 Rd.top (ae Tryd.prog 30) [1,0,1,1] (aq Tryd.prog R 22 0 Rd.top (ae Tryd.prog 30) Q [Kont.seq [1,1]]) (St.mk [(1,int i64 goal),(2,ref 0 0),(16,AV.bool true)] [u1] g))) (cells false 2 (nth [int i64 p.atoms,ad p.rules]))) (fun _=>by kernel_rfl) ⟨by omega,(fun _ _=>⟨rfl,(hK _ _ _)⟩),by omega,(by intro h;simp at h <;> omega),(fun hgd=>(fun _ _=>⟨rfl,(dv _ _ _ _ _ _)⟩)),fun _=>?_,fun h=>(nomatch h)⟩
 refine(ax (bC _ _ rfl trivial ⟨⟨trivial,trivial⟩,trivial⟩ rfl) (Le.refl _))
theorem yC (R:Res)(p:Prg)(hs:dw p)(hb:aJ p=false)(hp:List AObj)(g:R.σ):Does Tryd.prog R 31 [au p] hp g (.ret (.tup 2 (nth [.fz .nil 0 0 (fun _ _=>.any),.int .i64 2]))) hp g:=by
 refine bI (fun R g=>?_) (by exact⟨⟨⟨trivial,trivial⟩,trivial⟩,trivial⟩) R hp g
 have hK:∀(R:Res) (hp:List AObj) (g:R.σ),Does Tryd.prog R 16 [au p] hp g (.ret (.int .i64 2)) hp g:=fun R hp g=>by
  have h:=eJ R p hp g hs
  rw[hb] at h
  exact h
 refine aA (nt:=57) (rs:=[.tmp 2,.tmp 3]) (k0:=0) (by kernel_rfl) (by kernel_rfl) (by kernel_rfl) rfl ?_
 refine vcQ [[1,0,0,1,1]] (lkL [(0,[1]),(1,[1,13]),(2,[2,3])]) (lkL [(1,[(1,ROrc.pcall (int i64 2))])]) (fun Q=>(fun (u1:AObj)=>2<=2/\(∀(hp:List AObj) (g:R.σ),true=true/\Does Tryd.prog R 16 [au p] hp g (ret (int i64 2)) hp g)/\(true=true->Q AEx.ret (St.mk [(2,fz Fz.nil 0 0 fun _ _=>any),(3,int i64 2)] [u1] g))/\(true=false->Wp Tryd.prog R 57 0 Rd.top (ae Tryd.prog 31) [1,0,0,1,1] (aq Tryd.prog R 57 0 Rd.top (ae Tryd.prog 31) Q [Kont.seq [1,0,1]]) (St.mk [(1,ref 0 0),(13,AV.bool true)] [u1] g))) (cells false 2 (nth [int i64 p.atoms,ad p.rules]))) (fun _=>by kernel_rfl) ⟨by omega,(fun _ _=>⟨rfl,(hK _ _ _)⟩),fun _=>?_,fun h=>(nomatch h)⟩
 refine(ax (bC _ _ rfl trivial ⟨⟨trivial,trivial⟩,trivial⟩ rfl) (Le.refl _))
theorem sa {p:Prg}(hr:∀r,r∈p.rules.l->aQ r):∀(f left:Nat),left<2^24->(fW p f left).length<=(aj left).length
 |0,_,_=>Nat.zero_le _
 |f+1,left,h=>by
  show(if left=0 then[] else av p (bz p left)::fW p f (cj left (av p (bz p left)))).length<=_
  split
  ·exact Nat.zero_le _
  ·rename_i h0
   have h1:=nE hr h h0
   have h2:=sa hr f (cj left (av p (bz p left))) (Nat.lt_of_le_of_lt kP h)
   rw[List.length_cons]
   omega
theorem yD (R:Res)[Tab LT R](p:Prg)(goal:Int)(g:R.σ):Does Tryd.prog R 7 [au p,.int .i64 goal] [] g (.ret (.bool true)) [] g:=by
 refine aA (nt:=85) (rs:=[.tmp 4]) (k0:=0) (by kernel_rfl) (by kernel_rfl) (by kernel_rfl) rfl ?_
 cases hsm:fJ p with
 |false=>
  refine vcQ [[1,0,1,1]] (lkL [(0,[1,2]),(1,[1,2,11]),(2,[4])]) (lkL [(1,[(1,ROrc.pcall (AV.bool false))]),(2,[(0,ROrc.kcall (AV.bool true))])]) (fun Q=>(fun (u1:List AObj)=>2<=2/\(∀(hp:List AObj) (g:R.σ),true=true/\Does Tryd.prog R 14 [au p] hp g (ret (AV.bool false)) hp g)/\(true=true->(true=true/\Does Tryd.prog R 15 [] u1 g (ret (AV.bool true)) u1 g)/\Q AEx.ret (St.mk [(4,AV.bool true)] u1 g))/\(true=false->Wp Tryd.prog R 85 0 Rd.top (ae Tryd.prog 7) [1,0,1,1] (aq Tryd.prog R 85 0 Rd.top (ae Tryd.prog 7) Q [Kont.seq [1,1]]) (St.mk [(1,int i64 goal),(2,ref 0 0),(11,AV.bool true)] u1 g))) ([cells false 2 (nth [int i64 p.atoms,ad p.rules])])) (fun _=>by kernel_rfl) ⟨by omega,(fun _ _=>⟨rfl,(fG hsm (kq _ _ _ _))⟩),fun _=>⟨⟨rfl,(a9 (T:=LT) inferInstance [] 1 (fun R _ g=>lg R g) rfl rfl rfl (by exact trivial) (by exact trivial) (by exact trivial) (by exact aC (by exact trivial)) (by exact⟨LeO.rflc,trivial⟩))⟩,?_⟩,fun h=>(nomatch h)⟩
  refine(ax (bC _ _ rfl trivial trivial rfl) (Le.refl _))
 |true=>
  have hs:=vu hsm
  cases hb:aJ p with
  |false=>
   refine vcQ [[1,0,1,0],[1,1,1,1,0,1,1]] (lkL [(0,[1,2]),(1,[1,2,11]),(3,[1,2,5,6]),(4,[1,2,5,6,7,8]),(5,[1,2,5,6,7,8,26]),(6,[4])]) (lkL [(1,[(1,ROrc.pcall (AV.bool true))]),(3,[(2,ROrc.pcall (tup 2 (nth [fz Fz.nil 0 0 fun _ _=>any,int i64 2])))]),(4,[(1,ROrc.pcall (tup 2 (nth [fz Fz.nil 0 0 fun _ _=>any,int i64 2])))]),(5,[(1,ROrc.pcall (AV.bool false))]),(6,[(17,ROrc.kcall (AV.bool true))])]) (fun Q=>(fun (u1:List AObj)=>(fun (u2:AV)=>2<=2/\(∀(hp:List AObj) (g:R.σ),true=true/\Does Tryd.prog R 14 [au p] hp g (ret (AV.bool true)) hp g)/\(false=true->Wp Tryd.prog R 85 0 Rd.top (ae Tryd.prog 7) [1,0,1,0] (aq Tryd.prog R 85 0 Rd.top (ae Tryd.prog 7) Q [Kont.seq [1,1]]) (St.mk [(1,int i64 goal),(2,ref 0 0),(11,AV.bool false)] u1 g))/\(false=false->2<=2/\(∀(hp:List AObj) (g:R.σ),true=true/\Does Tryd.prog R 30 [au p,int i64 goal] hp g (ret (tup 2 (nth [u2,int i64 2]))) hp g)/\2<=2/\(∀(hp:List AObj) (g:R.σ),true=true/\Does Tryd.prog R 31 [au p] hp g (ret (tup 2 (nth [u2,int i64 2]))) hp g)/\2<=2/\(∀(hp:List AObj) (g:R.σ),true=true/\Does Tryd.prog R 18 [au p] hp g (ret (AV.bool false)) hp g)/\(true=true->(true=true->true=true/\Does Tryd.prog R 15 [] u1 g (ret (AV.bool true)) u1 g)/\Q AEx.ret (St.mk [(4,AV.bool true)] u1 g))/\(true=false->Wp Tryd.prog R 85 0 Rd.top (ae Tryd.prog 7) [1,1,1,1,0,1,1] (aq Tryd.prog R 85 0 Rd.top (ae Tryd.prog 7) Q [Kont.seq [1,1,1,1,1]]) (St.mk [(1,int i64 goal),(2,ref 0 0),(5,u2),(6,int i64 2),(7,u2),(8,int i64 2),(26,AV.bool true)] u1 g)))) (fz Fz.nil 0 0 fun _ _=>any)) ([cells false 2 (nth [int i64 p.atoms,ad p.rules])])) (fun _=>by kernel_rfl) ⟨by omega,(fun _ _=>⟨rfl,(fG hsm (kq _ _ _ _))⟩),fun h=>(nomatch h),fun _=>⟨by omega,(fun _ _=>⟨rfl,(yB _ _ _ (by omega) (by omega) _ _)⟩),by omega,(fun _ _=>⟨rfl,(yC _ _ (by omega) (by omega) _ _)⟩),by omega,(fun _ _=>⟨rfl,(fG hb (mN _ _ _ _ (by omega)))⟩),fun _=>⟨(fun hgd=>⟨rfl,(a9 (T:=LT) inferInstance [] 1 (fun R _ g=>lg R g) rfl rfl rfl (by exact trivial) (by exact trivial) (by exact trivial) (by exact aC (by exact trivial)) (by exact⟨LeO.rflc,trivial⟩))⟩),?_⟩,fun h=>(nomatch h)⟩⟩
   refine(ax (bC _ _ rfl trivial trivial rfl) (Le.refl _))
  |true=>
   obtain⟨hl,hr,hp,hh,hx⟩:=em hb
   have hp':1<=p.atoms/\p.atoms<=24:=hp
   have hrn:=rR hb
   have hon:(aX p).length<1000000:=by
    have h24:2^p.atoms.toNat-1<2^24:=by
     have:2^p.atoms.toNat<=2^24:=Nat.pow_le_pow_right (by decide) (by omega)
     have:0<2^p.atoms.toNat:=Nat.pow_pos (by decide)
     omega
    have:=sa hr 25 (2^p.atoms.toNat-1) h24
    have:=fg (2^p.atoms.toNat-1)
    show(fW p 25 _).length<_
    omega
   have hS:∀(R:Res) (hp:List AObj) (g:R.σ),Does Tryd.prog R 29 [a8 (aX p).length (fun i=>ah ((aX p).getD i 0)),a8 (aX p).length (fun i=>ah ((aX p).getD i 0))] hp g (.ret (.bool true)) hp g:=fun R hp g=>vw R _ _ _ hp g hon (fun _ _=>rfl) (fun i=>lf)
   have hO:∀(R:Res) [Tab LT R] (g:R.σ),Does Tryd.prog R 31 [au p] [] g (.ret (.tup 2 (nth [a8 (aX p).length (fun i=>ah ((aX p).getD i 0)),.int .i64 0]))) [] g:=fun R _ g=>rP R p hb g
   have hQ:∀(R:Res) (g:R.σ),Does Tryd.prog R 32 [au p] [] g (.ret (a8 (aX p).length (fun i=>ah ((aX p).getD i 0)))) [] g:=fun R g=>yg R p hb g
   obtain⟨f,hf⟩:∃f,f=(fun i=>ah ((aX p).getD i 0)):=⟨_,rfl⟩
   obtain⟨N,hN⟩:∃N,N=(aX p).length:=⟨_,rfl⟩
   simp only[<-hf,<-hN] at hS hO hQ
   by_cases hg:0<=goal/\goal<p.atoms
   ·have hR:∀(R:Res) [Tab LT R] (g:R.σ),Does Tryd.prog R 30 [au p,.int .i64 goal] [] g (.ret (.tup 2 (nth [am (ah (hgP p goal.toNat)),.int .i64 0]))) [] g:=fun R _ g=>wN R p goal hb hg g
    have hV:∀(R:Res) (g:R.σ),Does Tryd.prog R 34 [au p,.int .i64 goal] [] g (.ret (am (ah (hgP p goal.toNat)))) [] g:=fun R g=>by
     have h:=xO R p p.atoms.toNat goal.toNat (by omega) (by omega) (by omega) hl hr hrn g
     rw[show((goal.toNat:Nat):Int)=goal by omega] at h
     exact h
    have hI:∀(R:Res) (hp:List AObj) (g:R.σ),Does Tryd.prog R 33 [am (ah (hgP p goal.toNat)),am (ah (hgP p goal.toNat))] hp g (.ret (.bool true)) hp g:=fun R hp g=>by
     have h:=kr R (ah (hgP p goal.toNat)) (ah (hgP p goal.toNat)) hp g lf
     rw[decide_eq_true rfl] at h
     exact h
    have hgc:(bif decide (goal<0) then true else decide (goal >= p.atoms))=false:=by
     rw[decide_eq_false (by omega),decide_eq_false (by omega)]
     rfl
    refine vcQ [[1,0,1,0],[1,1,1,1,0,1,0],[1,1,1,1,1,0,1,0],[1,1,1,1,1,1,0,1,0]] (lkL [(0,[1,2]),(1,[1,2,11]),(3,[1,2,5,6]),(4,[1,2,5,6,7,8]),(5,[1,2,5,6,7,8,26]),(7,[1,2,5,6,54]),(9,[1,2,5,6,62]),(11,[4])]) (lkL [(1,[(1,ROrc.pcall (AV.bool true))]),(3,[(2,ROrc.kcall (tup 2 (nth [fz Fz.auto 1 ((ah (hgP p (goal.toNat))).l.length) fun (i x:Nat)=>int i64 ((ah (hgP p (goal.toNat))).l.getD i 0),int i64 0])))]),(4,[(1,ROrc.kcall (tup 2 (nth [a8 N f,int i64 0])))]),(5,[(1,ROrc.pcall (AV.bool true))]),(7,[(5,ROrc.kcall (a8 N f)),(6,ROrc.pcall (AV.bool true))]),(11,[(6,ROrc.kcall (fz Fz.auto 1 ((ah (hgP p (goal.toNat))).l.length) fun (i x:Nat)=>int i64 ((ah (hgP p (goal.toNat))).l.getD i 0))),(7,ROrc.pcall (AV.bool true)),(10,ROrc.kcall (AV.bool true))])]) (fun Q=>(fun (u1:AV)=>(fun (u2:List AObj)=>(fun (u3:Bool)=>2<=2/\(∀(hp:List AObj) (g:R.σ),true=true/\Does Tryd.prog R 14 [au p] hp g (ret (AV.bool true)) hp g)/\(false=true->Wp Tryd.prog R 85 0 Rd.top (ae Tryd.prog 7) [1,0,1,0] (aq Tryd.prog R 85 0 Rd.top (ae Tryd.prog 7) Q [Kont.seq [1,1]]) (St.mk [(1,int i64 goal),(2,ref 0 0),(11,AV.bool false)] u2 g))/\(false=false->2<=2/\(true=true/\Does Tryd.prog R 30 [au p,int i64 goal] u2 g (ret (tup 2 (nth [u1,int i64 0]))) u2 g)/\2<=2/\(true=true/\Does Tryd.prog R 31 [au p] u2 g (ret (tup 2 (nth [a8 N f,int i64 0]))) u2 g)/\2<=2/\(∀(hp:List AObj) (g:R.σ),true=true/\Does Tryd.prog R 18 [au p] hp g (ret (AV.bool true)) hp g)/\(false=true->Wp Tryd.prog R 85 0 Rd.top (ae Tryd.prog 7) [1,1,1,1,0,1,0] (aq Tryd.prog R 85 0 Rd.top (ae Tryd.prog 7) Q [Kont.seq [1,1,1,1,1]]) (St.mk [(1,int i64 goal),(2,ref 0 0),(5,u1),(6,int i64 0),(7,a8 N f),(8,int i64 0),(26,AV.bool false)] u2 g))/\(false=false->(true=true->2<=2)/\(true=true->true=true/\Does Tryd.prog R 32 [au p] u2 g (ret (a8 N f)) u2 g)/\(true=true->∀(hp:List AObj) (g:R.σ),true=true/\Does Tryd.prog R 29 [a8 N f,a8 N f] hp g (ret (AV.bool true)) hp g)/\(false=true->Wp Tryd.prog R 85 0 Rd.top (ae Tryd.prog 7) [1,1,1,1,1,0,1,0] (aq Tryd.prog R 85 0 Rd.top (ae Tryd.prog 7) Q [Kont.seq [1,1,1,1,1,1]]) (St.mk [(1,int i64 goal),(2,ref 0 0),(5,u1),(6,int i64 0),(54,AV.bool false)] u2 g))/\(false=false->((!decide (goal<0))=true->1<=2)/\(u3=true->Wp Tryd.prog R 85 0 Rd.top (ae Tryd.prog 7) [1,1,1,1,1,1,0,1,0] (aq Tryd.prog R 85 0 Rd.top (ae Tryd.prog 7) Q [Kont.seq [1,1,1,1,1,1,1]]) (St.mk [(1,int i64 goal),(2,ref 0 0),(5,u1),(6,int i64 0),(62,AV.bool u3)] u2 g))/\(u3=false->(true=true->2<=2)/\(true=true->true=true/\Does Tryd.prog R 34 [au p,int i64 goal] u2 g (ret u1) u2 g)/\(true=true->∀(hp:List AObj) (g:R.σ),true=true/\Does Tryd.prog R 33 [u1,u1] hp g (ret (AV.bool true)) hp g)/\(true=true->true=true/\Does Tryd.prog R 15 [] u2 g (ret (AV.bool true)) u2 g)/\Q AEx.ret (St.mk [(4,AV.bool true)] u2 g)))))) (bif decide (goal<0) then true else decide (goal >= p.atoms))) ([cells false 2 (nth [int i64 p.atoms,ad p.rules])])) (fz Fz.auto 1 ((ah (hgP p (goal.toNat))).l.length) fun (i x:Nat)=>int i64 ((ah (hgP p (goal.toNat))).l.getD i 0))) (fun _=>by kernel_rfl) ⟨by omega,(fun _ _=>⟨rfl,(fG hsm (kq _ _ _ _))⟩),fun h=>(nomatch h),fun _=>⟨by omega,⟨rfl,(a9 (T:=LT) inferInstance [] 1 (fun R _ g=>hR R g) rfl rfl rfl (by exact trivial) (by exact trivial) (by exact⟨az (by exact⟨⟨trivial,trivial⟩,trivial⟩),az (by exact trivial),trivial⟩) (by exact aC (by exact⟨⟨trivial,trivial⟩,trivial⟩)) (by exact⟨LeO.rflc,trivial⟩))⟩,by omega,⟨rfl,(a9 (T:=LT) inferInstance [] 1 (fun R _ g=>hO R g) rfl rfl rfl (by exact trivial) (by exact trivial) (by exact⟨az (by exact⟨⟨trivial,trivial⟩,trivial⟩),trivial⟩) (by exact aC (by exact⟨⟨trivial,trivial⟩,trivial⟩)) (by exact⟨LeO.rflc,trivial⟩))⟩,by omega,(fun _ _=>⟨rfl,(fG hb (mN _ _ _ _ (by omega)))⟩),fun h=>(nomatch h),fun _=>⟨by omega,(fun hgd=>⟨rfl,(a9 (T:=LT) inferInstance [] 1 (fun R _ g=>hQ R g) rfl rfl rfl (by exact trivial) (by exact trivial) (by exact⟨az (by exact⟨⟨trivial,trivial⟩,trivial⟩),trivial⟩) (by exact aC (by exact trivial)) (by exact⟨LeO.rflc,trivial⟩))⟩),(fun hgd=>(fun _ _=>⟨rfl,(hS _ _ _)⟩)),fun h=>(nomatch h),fun _=>⟨by omega,fun hcc=>(nomatch (hgc.symm.trans hcc)),fun _=>⟨by omega,(fun hgd=>⟨rfl,(a9 (T:=LT) inferInstance [] 1 (fun R _ g=>hV R g) rfl rfl rfl (by exact trivial) (by exact trivial) (by exact⟨az (by exact⟨⟨trivial,trivial⟩,trivial⟩),az (by exact trivial),trivial⟩) (by exact aC (by exact trivial)) (by exact⟨LeO.rflc,trivial⟩))⟩),(fun hgd=>(fun _ _=>⟨rfl,(hI _ _ _)⟩)),(fun hgd=>⟨rfl,(a9 (T:=LT) inferInstance [] 1 (fun R _ g=>lg R g) rfl rfl rfl (by exact trivial) (by exact trivial) (by exact trivial) (by exact aC (by exact trivial)) (by exact⟨LeO.rflc,trivial⟩))⟩),?_⟩⟩⟩⟩⟩
    refine(ax (bC _ _ rfl trivial trivial rfl) (Le.refl _))
   ·have hR:∀(R:Res) (g:R.σ),Does Tryd.prog R 30 [au p,.int .i64 goal] [] g (.ret (.tup 2 (nth [.fz .nil 0 0 (fun _ _=>.any),.int .i64 2]))) [] g:=fun R g=>qT R p goal (by omega) hs (by rw[hb,decide_eq_false (by omega)];rfl) [] g
    have hgc:(bif decide (goal<0) then true else decide (goal >= p.atoms))=true:=by
     by_cases h:goal<0
     ·rw[decide_eq_true h];rfl
     ·rw[decide_eq_false h,decide_eq_true (by omega)];rfl
    refine vcQ [[1,0,1,0],[1,1,1,1,0,1,0],[1,1,1,1,1,0,1,0],[1,1,1,1,1,1,0,1,1]] (lkL [(0,[1,2]),(1,[1,2,11]),(3,[1,2,5,6]),(4,[1,2,5,6,7,8]),(5,[1,2,5,6,7,8,26]),(7,[1,2,5,6,54]),(9,[1,2,5,6,62]),(10,[4])]) (lkL [(1,[(1,ROrc.pcall (AV.bool true))]),(3,[(2,ROrc.pcall (tup 2 (nth [fz Fz.nil 0 0 fun _ _=>any,int i64 2])))]),(4,[(1,ROrc.kcall (tup 2 (nth [a8 N f,int i64 0])))]),(5,[(1,ROrc.pcall (AV.bool true))]),(7,[(5,ROrc.kcall (a8 N f)),(6,ROrc.pcall (AV.bool true))]),(10,[(8,ROrc.kcall (AV.bool true))])]) (fun Q=>(fun (u1:List AObj)=>(fun (u2:Bool)=>(fun (u3:AV)=>2<=2/\(∀(hp:List AObj) (g:R.σ),true=true/\Does Tryd.prog R 14 [au p] hp g (ret (AV.bool true)) hp g)/\(false=true->Wp Tryd.prog R 85 0 Rd.top (ae Tryd.prog 7) [1,0,1,0] (aq Tryd.prog R 85 0 Rd.top (ae Tryd.prog 7) Q [Kont.seq [1,1]]) (St.mk [(1,int i64 goal),(2,ref 0 0),(11,AV.bool false)] u1 g))/\(false=false->2<=2/\(∀(hp:List AObj) (g:R.σ),true=true/\Does Tryd.prog R 30 [au p,int i64 goal] hp g (ret (tup 2 (nth [u3,int i64 2]))) hp g)/\2<=2/\(true=true/\Does Tryd.prog R 31 [au p] u1 g (ret (tup 2 (nth [a8 N f,int i64 0]))) u1 g)/\2<=2/\(∀(hp:List AObj) (g:R.σ),true=true/\Does Tryd.prog R 18 [au p] hp g (ret (AV.bool true)) hp g)/\(false=true->Wp Tryd.prog R 85 0 Rd.top (ae Tryd.prog 7) [1,1,1,1,0,1,0] (aq Tryd.prog R 85 0 Rd.top (ae Tryd.prog 7) Q [Kont.seq [1,1,1,1,1]]) (St.mk [(1,int i64 goal),(2,ref 0 0),(5,u3),(6,int i64 2),(7,a8 N f),(8,int i64 0),(26,AV.bool false)] u1 g))/\(false=false->(true=true->2<=2)/\(true=true->true=true/\Does Tryd.prog R 32 [au p] u1 g (ret (a8 N f)) u1 g)/\(true=true->∀(hp:List AObj) (g:R.σ),true=true/\Does Tryd.prog R 29 [a8 N f,a8 N f] hp g (ret (AV.bool true)) hp g)/\(false=true->Wp Tryd.prog R 85 0 Rd.top (ae Tryd.prog 7) [1,1,1,1,1,0,1,0] (aq Tryd.prog R 85 0 Rd.top (ae Tryd.prog 7) Q [Kont.seq [1,1,1,1,1,1]]) (St.mk [(1,int i64 goal),(2,ref 0 0),(5,u3),(6,int i64 2),(54,AV.bool false)] u1 g))/\(false=false->((!decide (goal<0))=true->1<=2)/\(u2=true->(true=true->true=true/\Does Tryd.prog R 15 [] u1 g (ret (AV.bool true)) u1 g)/\Q AEx.ret (St.mk [(4,AV.bool true)] u1 g))/\(u2=false->Wp Tryd.prog R 85 0 Rd.top (ae Tryd.prog 7) [1,1,1,1,1,1,0,1,1] (aq Tryd.prog R 85 0 Rd.top (ae Tryd.prog 7) Q [Kont.seq [1,1,1,1,1,1,1]]) (St.mk [(1,int i64 goal),(2,ref 0 0),(5,u3),(6,int i64 2),(62,AV.bool u2)] u1 g)))))) (fz Fz.nil 0 0 fun _ _=>any)) (bif decide (goal<0) then true else decide (goal >= p.atoms))) ([cells false 2 (nth [int i64 p.atoms,ad p.rules])])) (fun _=>by kernel_rfl) ⟨by omega,(fun _ _=>⟨rfl,(fG hsm (kq _ _ _ _))⟩),fun h=>(nomatch h),fun _=>⟨by omega,(fun _ _=>⟨rfl,(qT _ _ _ (by omega) (by omega) (by simp at * <;> omega) _ _)⟩),by omega,⟨rfl,(a9 (T:=LT) inferInstance [] 1 (fun R _ g=>hO R g) rfl rfl rfl (by exact trivial) (by exact trivial) (by exact⟨az (by exact⟨⟨trivial,trivial⟩,trivial⟩),trivial⟩) (by exact aC (by exact⟨⟨trivial,trivial⟩,trivial⟩)) (by exact⟨LeO.rflc,trivial⟩))⟩,by omega,(fun _ _=>⟨rfl,(fG hb (mN _ _ _ _ (by omega)))⟩),fun h=>(nomatch h),fun _=>⟨by omega,(fun hgd=>⟨rfl,(a9 (T:=LT) inferInstance [] 1 (fun R _ g=>hQ R g) rfl rfl rfl (by exact trivial) (by exact trivial) (by exact⟨az (by exact⟨⟨trivial,trivial⟩,trivial⟩),trivial⟩) (by exact aC (by exact trivial)) (by exact⟨LeO.rflc,trivial⟩))⟩),(fun hgd=>(fun _ _=>⟨rfl,(hS _ _ _)⟩)),fun h=>(nomatch h),fun _=>⟨by omega,fun _=>⟨(fun hgd=>⟨rfl,(a9 (T:=LT) inferInstance [] 1 (fun R _ g=>lg R g) rfl rfl rfl (by exact trivial) (by exact trivial) (by exact trivial) (by exact aC (by exact trivial)) (by exact⟨LeO.rflc,trivial⟩))⟩),?_⟩,fun hcc=>(nomatch (hgc.symm.trans hcc))⟩⟩⟩⟩
    refine(ax (bC _ _ rfl trivial trivial rfl) (Le.refl _))
def sb (n:Int):AV:=.int .i64 n
theorem yE:Arg Tryd.prog 3 (fun _:Int=>True) sb:=
 uG Tryd.underlying3 (Rea.map (kc Tryd.underlying3) (fun n:Int=>n) (fun _ _=>trivial) (fun _ _ _=>rfl))
end Go.Avm.Pack
namespace Go.Proofs.YtbdagmhndndliaaDoor
open Go Go.Avm Go.Avm.Pack Go.WideShapes Go.ChangeShapes Go.ChangeAt
def yF (cs:Array Value):Obj->Obj
 |.cells _ t frozen=>.cells cs t frozen
 |o=>o
noncomputable def nS (os:Os):World:=
 { World.holding Tryd.prog os ⟨#[],#[],[]⟩ with heap:=(World.holding Tryd.prog os ⟨#[],#[],[]⟩).heap.modify 0 (yF #[.int .u8 0,.int .u8 1,.int .u8 56,.int .u8 2,.int .u8 57,.int .u8 49,.int .u8 28,.int .u8 3,.int .u8 61,.int .u8 58,.int .u8 42,.int .u8 50,.int .u8 38,.int .u8 29,.int .u8 17,.int .u8 4,.int .u8 62,.int .u8 47,.int .u8 59,.int .u8 36,.int .u8 45,.int .u8 43,.int .u8 51,.int .u8 22,.int .u8 53,.int .u8 39,.int .u8 33,.int .u8 30,.int .u8 24,.int .u8 18,.int .u8 12,.int .u8 5,.int .u8 63,.int .u8 55,.int .u8 48,.int .u8 27,.int .u8 60,.int .u8 41,.int .u8 37,.int .u8 16,.int .u8 46,.int .u8 35,.int .u8 44,.int .u8 21,.int .u8 52,.int .u8 32,.int .u8 23,.int .u8 11,.int .u8 54,.int .u8 26,.int .u8 40,.int .u8 15,.int .u8 34,.int .u8 20,.int .u8 31,.int .u8 10,.int .u8 25,.int .u8 14,.int .u8 19,.int .u8 9,.int .u8 13,.int .u8 8,.int .u8 7,.int .u8 6]) }
theorem yG (os:Os):laidMet Tryd.prog Rows.tableHangsRow.laid ((nS os).forCall (fun _ _=>0) ⟨#[],#[.agg #[.int .i64 0,.slice none 0 0],.int .i64 0],[]⟩).memory:=
 laidMet_of_run' 8 (by kernel_rfl) (by kernel_rfl)
theorem yH (os:Os){H:Type}(enc:TypeId × Value->H):∃places,DataW.whole enc Tryd.prog ((nS os).forCall (fun _ _=>0) ⟨#[],#[.agg #[.int .i64 0,.slice none 0 0],.int .i64 0],[]⟩).memory Tryd.f7.params.toList Rows.tableHangsSpec.vars false (#[.agg #[.int .i64 0,.slice none 0 0],.int .i64 0]:Array Value).toList 8=some ([.agg [.lit (.int .i64 0),.nil],.lit (.int .i64 0)],[],places):=
 ⟨[],by kernel_rfl⟩
theorem yI (W:World)(h:laidMetH Tryd.prog Rows.tableHangsRow.laid W):cE gsT (cV W):=by
 have h:laidMet Tryd.prog [("math/bits.deBruijn64tab",Lib.tabData .u8 gn)] W:=h
 exact uP (t:=164) (e:=5) (n:=64) (by kernel_rfl) (by kernel_rfl) Tryd.underlying164 Tryd.underlying5 (by kernel_rfl) (by kernel_rfl) h (fun _=>uO)
set_option maxRecDepth 100000 in
theorem yJ (os:Os)(started:os.Started)(H:Type)(enc:TypeId × Value->H)(F:Stop.Interp) :
  ReturnsInHanded {} Tryd.checked os 7 .any ((OpenSpec.ofChange Rows.tableHangsSpec).preRow enc Tryd.prog Tryd.f7 Rows.tableHangsRow.domain Rows.tableHangsRow.apart Rows.tableHangsRow.laid) (((OpenSpec.ofChange Rows.tableHangsSpec).at F).post enc Tryd.prog Tryd.f7 Rows.tableHangsRow.apart Rows.tableHangsRow.fresh Rows.tableHangsRow.handsOn Rows.tableHangsRow.again):=by
 obtain⟨places,hx⟩:=yH os enc
 exact uQ (C:=Tryd.checked) (s:=Rows.tableHangsSpec) (tb:=4) (gs:=gsT) (X:=fun l=>∃a:Prg,True/\∃l',(∃b:Int,True/\∃l'',(l''=[])/\l'=sb b::l'')/\l=au a::l') (by kernel_rfl) started (by kernel_rfl) Tryd.func7
  (witness_row_at (enc:=enc) (C:=Tryd.checked) false (nS os) #[.agg #[.int .i64 0,.slice none 0 0],.int .i64 0] rfl (by kernel_rfl) (by kernel_rfl) (by kernel_rfl)
   (OpenSpec.preRow_of_cond 8 hx (by kernel_rfl) (fun k hk=>by cases hk) (by kernel_rfl) (yG os)))
  rfl (fun ds h=>by
   match ds,h with
   |[_,_],_=>rfl) (by kernel_rfl)
  (fun t ht=>by
   have ht:t∈([24,3]:List Nat):=ht
   simp only[List.mem_cons,List.not_mem_nil,or_false] at ht
   rcases ht with rfl|rfl <;> exact⟨by kernel_rfl,of_decide_eq_true (by kernel_rfl)⟩) rfl Tryd.underlying4 yI
  ((pK yA (pK yE uI)))
  (fun avs ⟨a,ha,_,⟨b,hb,_,e0,e1⟩,e2⟩=>by
   subst e0 e1 e2
   exact yD (Res.tab gsT) a b ())
theorem yK:Rows.TableHangsSaid:=
 OpenClaim.holds_of_cond 7 Tryd.f7 rfl rfl rfl rfl rfl rfl rfl ⟨rfl,rfl,rfl,rfl,rfl⟩ rfl rfl rfl rfl rfl (by kernel_rfl) Tryd.func7 (by kernel_rfl)
  (of_decide_eq_true (by kernel_rfl)) (by unfold Func.isWrapper;first|(rw[if_pos (by decide +kernel)];kernel_rfl)|(rw[if_neg (by decide +kernel)];exact⟨rfl,rfl⟩))
  (fun os started H enc _ F=>by rw[OpenClaim.pre_eq_preRow];exact yJ os started H enc F)
theorem yL (f:FuncId)(fn:Func)(hf:Tryd.pinned.checked.prog.funcNamed "swingle/swinglelaw18.TableHangs"=some f)(hfn:Tryd.pinned.checked.prog.funcs[f]? = some fn) :
  true=Tryd.pinned.checked.prog.looks []/\∀(j:Nat) t,fn.params[j]? = some t->Tryd.pinned.checked.prog.wantsStandIn t=false:=by
 obtain rfl:f=7:=Option.some.inj ((show Tryd.prog.funcNamed "swingle/swinglelaw18.TableHangs"=some 7 by kernel_rfl).symm.trans hf) |>.symm
 obtain rfl:fn=Tryd.f7:=(Option.some.inj (Tryd.func7.symm.trans hfn)).symm
 refine⟨by kernel_rfl,fun j t ht=>?_⟩
 have hm:t∈(Tryd.f7.params).toList:=Array.mem_toList_iff.2 (Array.mem_of_getElem? ht)
 have hm:t∈([24,3]:List Nat):=hm
 simp only[List.mem_cons,List.not_mem_nil,or_false] at hm
 rcases hm with rfl|rfl
 ·exact(show Tryd.prog.wantsStandIn 24=false by kernel_rfl)
 ·exact(show Tryd.prog.wantsStandIn 3=false by kernel_rfl)
theorem tableHangs_holds:Rows.TableHangsCardSaid:=
 Claim7.holds_tied_plain_at .later [] _ _ _ _ yK (fun _ h=>by cases h) (by kernel_rfl) (fun _ h=>by cases h) tableHangs_row_tie rfl ⟨rfl,rfl⟩ (by kernel_rfl) rfl yL (by kernel_rfl)
#print axioms tableHangs_holds
end Go.Proofs.YtbdagmhndndliaaDoor
