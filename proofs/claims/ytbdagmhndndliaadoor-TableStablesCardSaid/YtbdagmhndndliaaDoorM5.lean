/- Part 5 of the proof: lemmas. -/
import Derived.Test.YtbdagmhndndliaaDoorM4
namespace Go.Avm.Pack
open Go Go.Avm Go.Proofs
open Go.IntKind (i64 u64)
open Go.Avm.AV (int bool any fz fp sl ow ref fn ifc val agg tup)
open Go.Avm.AObj (cells dead)
open Go.Avm.Oc (ret)
set_option maxRecDepth 4000
structure Agr (n:Nat)(v:List Int)(f:Nat->Int):Prop where
 len:v.length=n
 get:∀j,j<n->v.getD j 0=f j
 val:∀j,j<n->f j=1∨f j=2∨f j=3
theorem oD {U:Type}{q q':U->Bool}:∀{l:List U},(∀x,x∈l->q x=q' x)->l.any q=l.any q'
 |[],_=>rfl
 |x::l,h=>by rw[List.any_cons,List.any_cons,h x List.mem_cons_self,oD (fun y hy=>h y (List.mem_cons_of_mem _ hy))]
theorem zj {n:Nat}{v:List Int}{f:Nat->Int}{r:Rule}(ha:Agr n v f)(h:j5 n r):dW v r=dT f r:=by
 unfold dW dT
 congr 1
 refine oD (fun l hl=>?_)
 have hl:=h.2 l hl
 have hg:=ha.get l.atom.toNat omg
 have hv:=ha.val l.atom.toNat omg
 unfold cE cl
 rw[hg]
 cases l.neg <;> rcases hv with h|h|h <;> rw[h] <;> decide
theorem zk {n:Nat}{v:List Int}{f:Nat->Int}{r:Rule}(ha:Agr n v f)(h:cu n r):fw v r=dU f r:=by
 unfold fw dU
 have:=h.2
 rw[ha.get r.head.toNat omg,zj ha h.1]
theorem sB {U:Type}{q q':U->Bool}:∀{l:List U} {i:Nat},(∀x,x∈l->q x=q' x)->aO q l i=aO q' l i
 |[],_,_=>rfl
 |x::l,i,h=>by
  unfold aO
  rw[h x List.mem_cons_self,sB (fun y hy=>h y (List.mem_cons_of_mem _ hy))]
def blk (f:Nat->Int)(m:Nat->Bool)(l:Lit):Bool:=cl f l==1||(!l.neg&&m l.atom.toNat)
theorem sC {f:Nat->Int}{m m':Nat->Bool}{l:Lit}(h:∀j,m j=true->m' j=true)(hb:blk f m l=true):blk f m' l=true:=by
 unfold blk at hb ⊢
 rw[Bool.or_eq_true,Bool.and_eq_true] at hb ⊢
 rcases hb with hb|⟨h1,h2⟩
 ·exact .inl hb
 ·exact .inr ⟨h1,h _ h2⟩
theorem zl {n:Nat}{v:List Int}{f:Nat->Int}{l:Lit}{s:List Bool}(ha:Agr n v f)(h:0<=l.atom/\l.atom<n):iY v s l=blk f (fun j=>s.getD j false) l:=by
 have hg:=ha.get l.atom.toNat omg
 have hv:=ha.val l.atom.toNat omg
 unfold iY blk ca cl
 rw[hg]
 cases l.neg <;> rcases hv with h|h|h <;> rw[h] <;> simp
theorem sD {n:Nat}{v:List Int}{f:Nat->Int}{r:Rule}{s:List Bool}(ha:Agr n v f)(h:j5 n r):dK v s r = !r.body.l.any (blk f (fun j=>s.getD j false)):=by
 unfold dK
 rw[oD (fun l hl=>zl ha (h.2 l hl))]
def gz (p:Prg)(f:Nat->Int)(m:Nat->Bool):Prop:=∀r,r∈p.rules.l->m r.head.toNat=true->r.body.l.any (blk f m)=true
theorem sE {U:Type}{q q':U->Bool}{l:List U}(h:∀x,q x=true->q' x=true)(hq:l.any q=true):l.any q'=true:=by
 rw[List.any_eq_true] at hq ⊢
 obtain⟨x,h1,h2⟩:=hq
 exact⟨x,h1,h x h2⟩
section
variable {p:Prg}{n:Nat}{v:List Int}{f:Nat->Int}
theorem sF (ha:Agr n v f){m:Nat->Bool}(hu:gz p f m):∀{l:List Rule} {s:List Bool},(∀r,r∈l->r∈p.rules.l/\cu n r)->(∀j,m j=true->s.getD j false=true)->∀j,m j=true->(bN v s l).getD j false=true
 |[],_,_,h=>h
 |r::l,s,hl,h=>by
  refine sF ha hu (l:=l) (s:=cn v s r) (fun q hq=>hl q (List.mem_cons_of_mem _ hq)) (fun j hj=>?_)
  unfold cn
  split
  ·rename_i hup
   obtain⟨h1,h2⟩:=hl r List.mem_cons_self
   unfold upholdsR at hup
   rw[Bool.and_eq_true] at hup
   obtain⟨_,hs⟩:=hup
   rw[sD ha h2.1,Bool.not_eq_true'] at hs
   rw[List.getD_eq_getElem?_getD,List.getElem?_set]
   by_cases he:r.head.toNat=j
   ·subst he
    have:=sE (l:=r.body.l) (fun l hb=>sC h hb) (hu r h1 hj)
    rw[hs] at this
    cases this
   ·rw[if_neg he,<-List.getD_eq_getElem?_getD]
    exact h j hj
  ·exact h j hj
theorem sG (ha:Agr n v f)(hr:∀r,r∈p.rules.l->cu n r){m:Nat->Bool}(hu:gz p f m):∀{k:Nat} {s:List Bool},(∀j,m j=true->s.getD j false=true)->∀j,m j=true->(ej v p k s).getD j false=true
 |0,_,h=>h
 |k+1,s,h=>fun j hj=>by
  show(if grCh v p.rules.l s then ej v p k (bN v s p.rules.l) else s).getD j false=true
  split
  ·exact sG ha hr hu (fun j hj=>sF ha hu (fun r h=>⟨h,hr r h⟩) h j hj) j hj
  ·exact h j hj
theorem sH:∀{k:Nat} {s:List Bool},cR s<k->∀r,r∈p.rules.l->upholdsR v (ej v p k s) r=false
 |0,_,h=>absurd h (Nat.not_lt_zero _)
 |k+1,s,h=>fun r hr=>by
  show upholdsR v (if grCh v p.rules.l s then ej v p k (bN v s p.rules.l) else s) r=false
  obtain⟨_,c2,c3⟩:=oz (v:=v) (l:=p.rules.l) (s:=s)
  split
  ·rename_i hc
   have:=c2 hc
   exact sH omg r hr
  ·rename_i hc
   exact(c3 (by simpa using hc)).2 r hr
theorem zm (ha:Agr n v f)(hr:∀r,r∈p.rules.l->cu n r):gz p f (fun j=>(grR v p).getD j false):=by
 intro r h hm
 have:=sH (v:=v) (p:=p) (k:=v.length+1) (s:=dX v) (Nat.lt_succ_of_le (by rw[<-j8 v];exact sh _)) r h
 unfold upholdsR at this
 have hm:(grR v p).getD r.head.toNat false=true:=hm
 have e:ej v p (v.length+1) (dX v)=grR v p:=rfl
 rw[e,hm,Bool.true_and,sD ha (hr r h).1,Bool.not_eq_false'] at this
 exact this
theorem zn (ha:Agr n v f)(hr:∀r,r∈p.rules.l->cu n r){m:Nat->Bool}(hu:gz p f m)(ho:∀j,m j=true->j<n/\f j=3){j:Nat}(hj:m j=true):(grR v p).getD j false=true:=by
 refine sG ha hr hu (fun j hj=>?_) j hj
 obtain⟨h1,h2⟩:=ho j hj
 have hg:=ha.get j h1
 rw[h2,List.getD_eq_getElem?_getD,List.getElem?_eq_getElem (by rw[ha.len];exact h1)] at hg
 unfold dX
 rw[List.getD_eq_getElem?_getD,List.getElem?_map,List.getElem?_eq_getElem (by rw[ha.len];exact h1)]
 have hg:v[j]'(by rw[ha.len];exact h1)=3:=hg
 show(v[j]'_==3)=true
 rw[hg]
 rfl
theorem sI {l:List Rule}{a:Int}{r:Rule}:r∈ofH l a↔r∈l/\r.head=a:=by
 unfold ofH
 rw[List.mem_filter,beq_iff_eq]
theorem oE (hh:∀r,r∈p.rules.l->0<=r.head){m:Nat->Bool}(hu:gz p f m):∀{l:List Nat} {s:Nat},s<2^24->(∀a,a∈l->a<24)->(∀j,m j=true->s.testBit j=true)->∀j,m j=true->(dh p f s l).testBit j=true
 |[],_,_,_,h=>h
 |a::l,s,hs,hl,h=>by
  show ∀j,m j=true->(dh p f (if (ofH p.rules.l (a:Int)).any (b8 f s) then clr s a else s) l).testBit j=true
  have hl':∀b,b∈l->b<24:=fun b hb=>hl b (List.mem_cons_of_mem _ hb)
  have ha:=hl a List.mem_cons_self
  split
  ·rename_i hg
   refine oE hh hu (Nat.lt_of_le_of_lt (iU hs) hs) hl' (fun j hj=>?_)
   rw[nV hs ha,h j hj,Bool.true_and,decide_eq_true_eq]
   intro e
   subst e
   obtain⟨r,h1,h2⟩:=List.any_eq_true.1 hg
   obtain⟨h3,h4⟩:=sI.1 h1
   have h5:=sE (l:=r.body.l) (fun l hb=>sC h hb) (hu r h3 (by rw[h4];simpa using hj))
   unfold b8 at h2
   rw[Bool.not_eq_true'] at h2
   have h6:r.body.l.any (gY f s)=r.body.l.any (blk f s.testBit):=rfl
   rw[h6,h5] at h2
   cases h2
  ·exact oE hh hu hs hl' h
theorem sJ (hh:∀r,r∈p.rules.l->0<=r.head){m:Nat->Bool}(hu:gz p f m):∀{k s:Nat},s<2^24->(∀j,m j=true->s.testBit j=true)->∀j,m j=true->(ef p f k s).testBit j=true
 |0,_,_,h=>h
 |k+1,s,hs,h=>fun j hj=>by
  show(if bJ p f s=s then s else ef p f k (bJ p f s)).testBit j=true
  split
  ·exact h j hj
  ·exact sJ hh hu (Nat.lt_of_le_of_lt (fX hs) hs) (fun j hj=>oE hh hu hs (fun a ha=>jP ha) h j hj) j hj
theorem zo (hp:b9 p)(hh:∀r,r∈p.rules.l->0<=r.head){m:Nat->Bool}(hu:gz p f m)(ho:∀j,m j=true->j<p.atoms.toNat/\f j=3){j:Nat}(hj:m j=true):(gre p f).testBit j=true:=by
 have:=hp.2
 refine sJ hh hu (g8 omg) (fun j hj=>?_) j hj
 obtain⟨h1,h2⟩:=ho j hj
 rw[fZ,decide_eq_true h1,decide_eq_true h2]
 rfl
theorem zp (hp:b9 p)(hr:∀r,r∈p.rules.l->aH r):gz p f (fun j=>(gre p f).testBit j):=by
 intro r h hm
 have hg:=ro f hp
 obtain⟨_,_,h3⟩:=gw f hp
 have hk:=hr r h
 have hm:(gre p f).testBit r.head.toNat=true:=hm
 unfold g6 at hg
 rw[Bool.not_eq_true',List.any_eq_false] at hg
 have h1:=hg r.head.toNat (Tb.mem_memN.2 ⟨g7 h3 hm,hm⟩)
 have h1:(ofH p.rules.l (r.head.toNat:Int)).any (b8 f (gre p f))=false:=by simpa using h1
 rw[List.any_eq_false] at h1
 have h2:=h1 r (sI.2 ⟨h,by have:=hk.2.1;omega⟩)
 unfold b8 at h2
 have h2:r.body.l.any (gY f (gre p f))=true:=by simpa using h2
 exact h2
theorem zq (hpn:p.atoms.toNat=n)(hp:b9 p)(ha:Agr n v f)(hr:∀r,r∈p.rules.l->aH r)(hrn:∀r,r∈p.rules.l->cu n r)(j:Nat):(grR v p).getD j false=(gre p f).testBit j:=by
 rw[Bool.eq_iff_iff]
 constructor
 ·intro h
  refine zo hp (fun r h=>(hr r h).2.1) (zm ha hrn) (fun k hk=>?_) h
  have hk:(grR v p).getD k false=true:=hk
  have h1:k<n:=by
   rcases Nat.lt_or_ge k n with h|h
   ·exact h
   ·rw[List.getD_eq_getElem?_getD,List.getElem?_eq_none (by rw[sm,ha.len];exact h)] at hk
    cases hk
  exact⟨by rw[hpn];exact h1,by rw[<-ha.get k h1];exact sr hk⟩
 ·intro h
  refine zn ha hrn (zp hp hr) (fun k hk=>?_) h
  have hk:(gre p f).testBit k=true:=hk
  have:=(gw f hp).2.1 k hk
  rw[fZ,Bool.and_eq_true,decide_eq_true_eq,decide_eq_true_eq,hpn] at this
  exact this
theorem oF {q:Nat->Bool}:∀{k n:Nat},(∀j,n<=j->q j=false)->(List.range (n+k)).filter q=(List.range n).filter q
 |0,_,_=>rfl
 |k+1,n,h=>by
  rw[<-Nat.add_assoc,List.range_succ,List.filter_append,oF h,List.filter_cons,if_neg (by rw[h (n+k) omg];decide)]
  exact List.append_nil _
theorem zr (hpn:p.atoms.toNat=n)(hp:b9 p)(ha:Agr n v f)(hr:∀r,r∈p.rules.l->aH r)(hrn:∀r,r∈p.rules.l->cu n r):gy v p=aU (gre p f):=by
 have hn24:n<=24:=by have:=hp.2;omega
 unfold gy aA aU
 rw[ha.len]
 congr 1
 show _=(List.range 24).filter (fun j=>(gre p f).testBit j)
 rw[show 24=n+(24-n) by omega,oF (fun j hj=>?_)]
 ·congr 1
  funext j
  exact zq hpn hp ha hr hrn j
 ·cases hb:(gre p f).testBit j with
  |false=>rfl
  |true=>
   have:=(gw f hp).2.1 j hb
   rw[fZ,Bool.and_eq_true,decide_eq_true_eq,hpn] at this
   omega
theorem zt (hpn:p.atoms.toNat=n)(hp:b9 p)(ha:Agr n v f)(hr:∀r,r∈p.rules.l->aH r)(hrn:∀r,r∈p.rules.l->cu n r):ba v p=am p f/\cv v p=bb p f:=by
 have h1:eB v p=bf p f:=sB (fun r h=>zk ha (hrn r h))
 have h2:=zr hpn hp ha hr hrn
 unfold ba am cv bb
 rw[h1,h2]
 refine⟨rfl,?_⟩
 congr 1
 obtain⟨_,_,h3⟩:=gw f hp
 rw[Bool.eq_iff_iff,decide_eq_true_eq,bne_iff_ne,fY]
 constructor
 ·rintro h e
  rw[e] at h
  exact absurd h dcd
 ·intro h
  rcases Nat.eq_zero_or_pos (al (gre p f)).length with h0|h0
  ·exact absurd (Tb.zero_of_mem h3 (List.length_eq_zero_iff.1 h0)) h
  ·exact h0
theorem sK {x:Int}:∀{l v:List Int} {j:Nat},j<v.length->(∀a,a∈l->0<=a)->(dx x v l).getD j 0=if (j:Int)∈l then x else v.getD j 0
 |[],_,_,_,_=>by rw[if_neg (by simp)];rfl
 |a::l,v,j,hj,hl=>by
  show(dx x (v.set a.toNat x) l).getD j 0=_
  have ha:=hl a List.mem_cons_self
  rw[sK (by rw[List.length_set];exact hj) (fun b hb=>hl b (List.mem_cons_of_mem _ hb))]
  by_cases h:(j:Int)∈l
  ·rw[if_pos h,if_pos (List.mem_cons_of_mem _ h)]
  ·rw[if_neg h,List.getD_eq_getElem?_getD,List.getElem?_set]
   by_cases he:a.toNat=j
   ·rw[if_pos he,if_pos omg,if_pos (by rw[List.mem_cons];exact .inl omg)]
    rfl
   ·rw[if_neg he,if_neg (by rw[List.mem_cons];rintro (h1|h1);exact he omg;exact h h1),<-List.getD_eq_getElem?_getD]
theorem zu (hp:b9 p)(ha:Agr n v f)(hr:∀r,r∈p.rules.l->aH r)(hh:dv p)(hpn:p.atoms.toNat=n)(hb:bb p f=true):Agr n (eT v (cf (am p f))) (bK f (am p f)):=by
 have hat:=(n6 (v:=f) hp hr hh).1
 have h0:∀a,a∈(am p f).atoms->0<=a:=fun a h=>(hat a h).1
 have key:∀j,j<n->(eT v (cf (am p f))).getD j 0=bK f (am p f) j/\(bK f (am p f) j=cZ (cf (am p f))∨bK f (am p f) j=f j):=by
  intro j hj
  have e:(eT v (cf (am p f))).getD j 0=if (j:Int)∈(am p f).atoms then cZ (cf (am p f)) else v.getD j 0:=sK (by rw[ha.len];exact hj) h0
  rw[e,ha.get j hj]
  unfold bK
  by_cases hs:(am p f).rule = -1
  ·have e1:cZ (cf (am p f))=1:=if_pos hs
   rw[if_pos hs,e1]
   unfold et
   rw[rp]
   by_cases hm:(j:Int)∈(am p f).atoms
   ·rw[if_pos hm,if_pos (List.any_eq_true.2 ⟨_,hm,by simp⟩)]
    exact⟨rfl,.inl rfl⟩
   ·rw[if_neg hm,if_neg (by
     rw[List.any_eq_true]
     rintro ⟨a,h1,h2⟩
     rw[beq_iff_eq] at h2
     have:=h0 a h1
     exact hm (by rw[show(j:Int)=a by omega];exact h1))]
    exact⟨rfl,.inr rfl⟩
  ·have e1:cZ (cf (am p f))=2:=if_neg hs
   have hf:0<=bf p f:=by
    by_cases h:0<=bf p f
    ·exact h
    ·exact absurd (lJ hp h hb).1 (fun e=>hs (by rw[e]))
   have hn:am p f=⟨bf p f,[(p.rules.l.getD (bf p f).toNat default).head]⟩:=if_pos hf
   rw[if_neg hs,e1]
   have h1:=h0 (p.rules.l.getD (bf p f).toNat default).head (by rw[hn];exact List.mem_cons_self)
   rw[hn]
   unfold fW
   show(if (j:Int)∈[(p.rules.l.getD (bf p f).toNat default).head] then 2 else f j)=(if j=((p.rules.l.getD (bf p f).toNat default).head).toNat then 2 else f j)/\_
   by_cases hm:j=((p.rules.l.getD (bf p f).toNat default).head).toNat
   ·rw[if_pos (by rw[List.mem_singleton];omega)]
    exact⟨(if_pos hm).symm,.inl (if_pos hm)⟩
   ·rw[if_neg (by rw[List.mem_singleton];omega)]
    exact⟨(if_neg hm).symm,.inr (if_neg hm)⟩
 refine⟨j7.trans ha.len,fun j hj=>(key j hj).1,fun j hj=>?_⟩
 rcases(key j hj).2 with h|h
 ·rw[h]
  unfold cZ
  split
  ·exact .inl rfl
  ·exact .inr (.inl rfl)
 ·rw[h];exact ha.val j hj
theorem sL (hp:b9 p)(hr:∀r,r∈p.rules.l->aH r)(hrn:∀r,r∈p.rules.l->cu n r)(hh:dv p)(hpn:p.atoms.toNat=n):∀{k k':Nat} {v:List Int} {f:Nat->Int} {l:List Stp},Agr n v f->cF v<k->cC p f<k'->(fx p k v l).1=(dw p k' f l).1/\Agr n (fx p k v l).2 (dw p k' f l).2
 |0,_,_,_,_,_,h,_=>absurd h (Nat.not_lt_zero _)
 |_+1,0,_,_,_,_,_,h=>absurd h (Nat.not_lt_zero _)
 |k+1,k'+1,v,f,l,ha,h1,h2=>by
  obtain⟨e1,e2⟩:=zt hpn hp ha hr hrn
  show(if cv v p then fx p k (eT v (cf (ba v p))) (l++[ba v p]) else(l,v)).1=(if bb p f then dw p k' (bK f (am p f)) (l++[am p f]) else(l,f)).1/\Agr n (if cv v p then fx p k (eT v (cf (ba v p))) (l++[ba v p]) else(l,v)).2 (if bb p f then dw p k' (bK f (am p f)) (l++[am p f]) else(l,f)).2
  cases hb:bb p f with
  |false=>
   rw[e2,hb]
   exact⟨rfl,ha⟩
  |true=>
   have l1:=sy (v:=v) (p:=p) (by rw[ha.len];exact hrn) (e2.trans hb)
   have l2:=lM hp hr hh hb
   rw[e2,hb,if_pos rfl,if_pos rfl,e1]
   rw[e1] at l1
   exact sL hp hr hrn hh hpn (zu hp ha hr hh hpn hb) omg omg
theorem zv (hp:b9 p)(hr:∀r,r∈p.rules.l->aH r)(hrn:∀r,r∈p.rules.l->cu n r)(hh:dv p)(hpn:p.atoms.toNat=n):(cM p n).1=(ak p).1/\Agr n (cM p n).2 (ak p).2:=by
 refine sL hp hr hrn hh hpn ⟨List.length_replicate,fun j hj=>?_,fun j hj=>.inr (.inr rfl)⟩ ?_ ?_
 ·rw[List.getD_eq_getElem?_getD,List.getElem?_replicate_of_lt hj]
  rfl
 ·refine Nat.lt_succ_of_le ?_
  have:cF (List.replicate n 3)<=(List.replicate n (3:Int)).length:=List.count_le_length
  rw[List.length_replicate] at this
  exact this
 ·have:=lK p (fun _=>3)
  have:=hp.2
  omega
end
end Go.Avm.Pack
namespace Go.Avm.Pack
open Go Go.Avm Go.Proofs
open Go.IntKind (i64 u64)
open Go.Avm.AV (int bool any fz fp sl ow ref fn ifc val agg tup)
open Go.Avm.AObj (cells dead)
open Go.Avm.Oc (ret)
set_option maxRecDepth 4000
def hgL (x:List Bool × Bool)(l:Lit):List Bool × Bool:=if x.1.getD l.atom.toNat false then x else(x.1.set l.atom.toNat true,true)
def hgU (x:List Bool × Bool)(r:Rule):List Bool × Bool:=if x.1.getD r.head.toNat false then r.body.l.foldl hgL x else x
def hgD (p:Prg)(s:List Bool):List Bool × Bool:=p.rules.l.foldl hgU (s,false)
def hgI (p:Prg):Nat->List Bool->List Bool
 |0,s=>s
 |k+1,s=>if (hgD p s).2 then hgI p k (hgD p s).1 else s
def hgR (p:Prg)(n a:Nat):List Bool:=hgI p (n+1) ((List.replicate n false).set a true)
def co (s:List Bool):Nat:=s.count false
theorem zw {s:List Bool}:∀{i:Nat},i<s.length->s.getD i false=false->co (s.set i true)+1=co s:=by
 induction s with
 |nil=>exact fun h=>absurd h (Nat.not_lt_zero _)
 |cons b s ih=>
  intro i hi h
  cases i with
  |zero=>
   cases b with
   |true=>exact absurd h (by simp)
   |false=>unfold co;simp
  |succ i=>
   have ih:=ih (i:=i) (by simpa using hi) (by simpa using h)
   unfold co at ih ⊢
   rw[List.set_cons_succ,List.count_cons,List.count_cons]
   omega
structure HgS (x y:List Bool × Bool):Prop where
 len:y.1.length=x.1.length
 up:∀k,x.1.getD k false=true->y.1.getD k false=true
 ch:x.2=true->y.2=true
 cnt:co y.1<=co x.1
 less:y.2=true->x.2=false->co y.1<co x.1
 same:y.2=false->y.1=x.1
theorem HgS.refl (x:List Bool × Bool):HgS x x:=⟨rfl,fun _ h=>h,fun h=>h,Nat.le_refl _,fun h1 h2=>absurd (h1.symm.trans h2) dcd,fun _=>rfl⟩
theorem HgS.trans {x y z:List Bool × Bool}(h:HgS x y)(k:HgS y z):HgS x z:=by
 refine⟨k.len.trans h.len,fun j hj=>k.up j (h.up j hj),fun hx=>k.ch (h.ch hx),Nat.le_trans k.cnt h.cnt,fun h1 h2=>?_,fun h1=>?_⟩
 ·cases hy:y.2 with
  |true=>exact Nat.lt_of_le_of_lt k.cnt (h.less hy h2)
  |false=>exact Nat.lt_of_lt_of_le (k.less h1 hy) h.cnt
 ·have hy:y.2=false:=by
   cases hy:y.2 with
   |false=>rfl
   |true=>rw[k.ch hy] at h1;cases h1
  exact(k.same h1).trans (h.same hy)
theorem zx {s:List Bool}{i k:Nat}(h:s.getD k false=true):(s.set i true).getD k false=true:=by
 rw[List.getD_eq_getElem?_getD] at h ⊢
 rw[List.getElem?_set]
 split
 ·split
  ·rfl
  ·rename_i e hn
   subst e
   rw[List.getElem?_eq_none omg] at h
   cases h
 ·exact h
structure HgOk (p:Prg)(n a:Nat)(x:List Bool × Bool):Prop where
 len:x.1.length=n
 go:x.2=true->∃f,co x.1<f/\hgI p f x.1=hgR p n a
 stop:x.2=false->x.1=hgR p n a
theorem zy {s:List Bool}{i k:Nat}(h:(s.set i true).getD k false=true):k=i∨s.getD k false=true:=by
 rw[List.getD_eq_getElem?_getD,List.getElem?_set] at h
 split at h
 ·rename_i e;exact .inl e.symm
 ·rw[List.getD_eq_getElem?_getD];exact .inr h
theorem sM {n m:Nat}{s:List Bool}(hn:n<=24)(hs:s.length=n)(h:∀j,s.getD j false=m.testBit j):aA s n=aU m:=by
 unfold aA aU
 congr 1
 show _=(List.range 24).filter (fun j=>m.testBit j)
 rw[show 24=n+(24-n) by omega,oF (fun j hj=>?_)]
 ·congr 1
  funext j
  exact h j
 ·rw[<-h j,List.getD_eq_getElem?_getD,List.getElem?_eq_none omg]
  rfl
def bT (l:List Bool):AV:=.fz .auto 1 l.length (fun i _=>.bool (l.getD i false))
theorem qO {k:Nat}(l:List Bool):Below k (bT l):=trivial
theorem sN {hp:List AObj}{k m o:Nat}{l:List Bool}{n:Nat}(hn:l.length=n)(ho:af hp o=.cells false (n*1) (ap l))(hk:k<=o):aq hp k m (.ow true o n 1) (bT l):=by
 subst hn
 exact(aq.ow ho hk (Nat.le_refl _) dcd (fun j _=>AC (nu _ _))).le (AB rfl (fun i j hi hj=>by
  show AV.bool _=AV.bool _
  rw[show i*1+j=i by omega]))
abbrev HG:=Nat->List Bool
def hgC (h:HG):Nat->AV:=fun i=>bT (h i)
theorem qJ {k:Nat}(h:HG)(j:Nat):Below k (hgC h j):=trivial
theorem qR {f:Nat->Nat}(t:True){h:HG}{j:Nat}:aN f (hgC h j)=hgC h j:=rfl
end Go.Avm.Pack
namespace Go.Avm.Pack
open Go Go.Avm Go.Proofs Go.RowKit Go.Shelf
attribute [local go_sem] Oper.semAt_some
theorem zz (n:Nat)(hn:1<=n)(l s:Nat)(hs:s<2^24)(A:Addr)(FM:Mem)(ht:cV gsT FM)(J:Nat->World->Prop)(E:Ending->World->Prop)(K:Nat)
  (hJ:∀k W,J k W->W.cell? A=some (.int .u64 (Tb.cutN s k))/\W.frozen? A=false/\(∀b o,FM b=some o->W.heap[b]? = some o))
  (hJg:∀k W W',J k W->W.grownBy W' none->J k W')
  (hY:∀k W,k<K->k<(al s).length->J k W->YieldAt Fence.wide (n-1) Tryd.prog l #[.int .i64 ((al s).getD k 0)] W fun e W'=>e=.returned (.bool true)/\W'.cell? A=some (.int .u64 (Tb.cutN s k))/\W'.frozen? A=false/\J (k+1) (W'.setCell A (.int .u64 (Tb.cutN s (k+1)))))
  (hE:∀W,K<(al s).length->J K W->YieldAt Fence.wide (n-1) Tryd.prog l #[.int .i64 ((al s).getD K 0)] W fun e W'=>(e=.returned (.bool false)∨∃ch,e=.panicked ch)/\E e W')
  (W:World) (h0:J 0 W) :
  CallsIn Fence.wide n Tryd.prog 105 #[.func (.yield l) #[] #[],.pointer (some A)] W fun e W'=>((al s).length<=K/\(∃v,e=.returned v)/\J (al s).length W')∨(K<(al s).length/\(((∃v,e=.returned v)/\E (.returned (.bool false)) W')∨∃ch,e=.panicked ch/\E (.panicked ch) W')):=by
 refine callsIn_of_wp Tryd.func105 rfl trivial ?_ rfl
 simp only[Tryd.ntmps105,List.size_toArray,List.length_cons,List.length_nil,Nat.reduceAdd,Nat.reduceSub,Array.replicate_succ,Array.replicate_zero,List.push_toArray,List.append_toArray,List.nil_append,List.cons_append]
 gi_wp2
 gi_loopw [] (fun wr=>∃k,k<=(al s).length/\k<=K/\J k wr) (fun wr=>match wr.cell? A with|some (.int _ v)=>v.toNat|_=>0)
 case atStart=>exact⟨0,Nat.zero_le _,Nat.zero_le _,h0⟩
 case round=>
  obtain⟨k,hk,hkK,hJk⟩:=hrel
  obtain⟨hc,hf,hFM⟩:=hJ k wr hJk
  have hlt:=Tb.cutN_lt hs k
  rcases Nat.lt_or_ge k (al s).length with hkl|hkl
  ·obtain⟨m,hm⟩:=Tb.cutN_in hs hkl
   have k1:0<Tb.cutN s k:=by
    rw[hm]
    exact Nat.mul_pos (Nat.pow_pos (by decide)) (by omega)
   have k2:=lw hm hlt
   clear hm
   have hz:¬((Tb.cutN s k:Nat):Int)=0:=by omega
   have htz:=fun m=>rg m (Tb.cutN s k) k1 hlt wr FM hFM ht
   rcases Nat.lt_or_ge k K with hlK|hgK
   ·have hYk:=fun W=>hY k W hlK hkl
    obtain⟨x,hx⟩:∃x,(al s).getD k 0=x:=⟨_,rfl⟩
    rw[hx] at k2
    simp only[hx] at hYk
    simp only[k2] at htz
    gi_wp2
    refine⟨trivial,(htz _).mono ?_⟩
    rintro e w' ⟨rfl,hg⟩
    have hJ':=hJg k wr w' hJk hg
    obtain⟨hc',hf',hFM'⟩:=hJ k w' hJ'
    obtain⟨fn,tmps,assign,body,hy,hR⟩:=hYk w' hJ'
    dsimp only
    gi_wp2
    refine hR.mono ?_
    rintro e W3 ⟨rfl,hc3,hf3,hJ3⟩
    dsimp only
    gi_wp2
    have hb:bits .and .u64 ((Tb.cutN s k:Nat):Int) (((Tb.cutN s k:Nat):Int)-1)=((Tb.cutN s (k+1):Nat):Int):=rh _ hlt k1
    rw[hb]
    refine⟨⟨k+1,hkl,hlK,hJ3⟩,?_⟩
    rw[(hJ _ _ hJ3).1,hc]
    show((Tb.cutN s (k+1):Nat):Int).toNat<((Tb.cutN s k:Nat):Int).toNat
    have:Tb.cutN s (k+1)<=Tb.cutN s k-1:=Nat.and_le_right
    omega
   ·have hkK:K=k:=by omega
    subst hkK
    have hYk:=fun W=>hE W hkl
    obtain⟨x,hx⟩:∃x,(al s).getD K 0=x:=⟨_,rfl⟩
    rw[hx] at k2
    simp only[hx] at hYk
    simp only[k2] at htz
    gi_wp2
    refine⟨trivial,(htz _).mono ?_⟩
    rintro e w' ⟨rfl,hg⟩
    have hJ':=hJg K wr w' hJk hg
    obtain⟨hc',hf',hFM'⟩:=hJ K w' hJ'
    obtain⟨fn,tmps,assign,body,hy,hR⟩:=hYk w' hJ'
    dsimp only
    gi_wp2
    refine hR.mono ?_
    rintro e W3 ⟨he,hE3⟩
    rcases he with rfl|⟨ch,rfl⟩
    ·dsimp only
     gi_wp2
     (try simp only[Exit.inBlock,Exit.then])
     refine bodyPost_ret (results_none rfl _ _ _) rfl ?_
     exact .inr ⟨hkl,.inl ⟨⟨_,rfl⟩,hE3⟩⟩
    ·exact⟨rfl,.inr ⟨hkl,.inr ⟨ch,rfl,hE3⟩⟩⟩
  ·have hz:((Tb.cutN s k:Nat):Int)=0:=by rw[show k=(al s).length by omega,Tb.cutN_end hs];rfl
   have hkk:k=(al s).length:=by omega
   subst hkk
   gi_wp2
   go_end0
   exact .inl ⟨hkK,⟨_,rfl⟩,hJk⟩
end Go.Avm.Pack
namespace Go.Avm.Pack
open Go Go.Avm Go.Proofs
open Go.IntKind (i64 u64)
open Go.Avm.AV (int bool any fz fp sl ow ref fn ifc val agg tup)
open Go.Avm.AObj (cells dead)
open Go.Avm.Oc (ret)
set_option maxRecDepth 4000
end Go.Avm.Pack
namespace Go.Avm.Pack
open Go Go.Avm Go.Proofs Go.RowKit Go.Shelf
section
variable {R:Res}
theorem zA [Tab LT R]{nt k0:Nat}{Q:AEx->St R.σ->Prop}{s:St R.σ}{t:Nat}{ps:Array Tmp}{assign body:Code}{fa fb:Nat->AV}{m S K:Nat}{H:List AObj}
  (hf:lk s.fr t=.fn 105 0 fa 1 fb) (hfb:fb 0=.ref m 0) (hS:S<2^24) (h0:s.hp=H++[.cells false 1 (fun _=>.int .u64 S)]) (hl:H.length=m)
  (hlive:d9 (H++[.cells false 1 (fun _=>.int .u64 S)])) (hBO:gq m H) (hlen:1=ps.toList.length) (hlt:bI ps.toList nt=true) (ts:List Nat) (hBf:iM ts (fun t=>Below m (lk s.fr t)))
  (hround:∀k,k<K->k<(al S).length->nh Tryd.prog R nt assign body none H s.g ⟨dQ ps.toList [.int .i64 (((al S).getD k 0:Nat):Int)] (eL ts s.fr),H,s.g⟩)
  (hlast:K<(al S).length->∀l,wpA Tryd.prog R nt (m+1) (.inr l) assign (fun e s1=>e=.normal/\wpA Tryd.prog R nt s1.hp.length (.inr l) body (lh (fun e s3=>Q e ⟨s.fr,s3.hp,s3.g⟩)) s1) ⟨dQ ps.toList [.int .i64 (((al S).getD K 0:Nat):Int)] s.fr,H++[.dead],s.g⟩)
  (hdone:(al S).length<=K->Q .normal ⟨s.fr,H++[.dead],s.g⟩) :
  wpA Tryd.prog R nt k0 .top (.rangeFunc (.tmp t) ps assign body) Q s:=by
 intro C hC n a w ⟨FM,Z,hs⟩
 refine wpIn_rangeFunc (fun fn hfn=>?_)
 obtain⟨D,hD⟩:∃D,D=w.heap.size:=⟨_,rfl⟩
 obtain⟨L,hL⟩:∃L,L=w.heap.size+1:=⟨_,rfl⟩
 have hne:D≠L:=by omega
 obtain⟨rec,hrec⟩:∃rec:LoopState->Option Code->Loop,rec=fun st pe=>{ state:=st,pending:=pe,fn,tmps:=a.tmps,params:=ps,assign,body,defers:=D }:=⟨_,rfl⟩
 obtain⟨W1,hW1⟩:∃W1,(w.alloc (.deferred (some []))).alloc (.loop (rec .ready none))=W1:=⟨_,rfl⟩
 have hL1:W1.heap[L]? = some (.loop (rec .ready none)):=by
  rw[<-hW1,hL];have:=World.alloc_heap_new (w.alloc (.deferred (some []))) (.loop (rec .ready none));rwa [World.size_alloc] at this
 have hD1:W1.heap[D]? = some (.deferred (some [])):=by
  rw[<-hW1,hD];exact(_root_.Go.RowKit.Below.heap_alloc _ _ _ (by simp)).trans (World.alloc_heap_new w _)
 have hsz1:W1.heap.size=w.heap.size+2:=by rw[<-hW1];simp
 obtain⟨okA,goA⟩:=iB hs.ok (.deferred (some []))
 obtain⟨ok1,goB⟩:=iB okA (.loop (rec .ready none))
 have go1:=goA.trans goB
 rw[hW1] at ok1 go1
 obtain⟨o,ho⟩:∃o:AObj,o=.cells false 1 (fun _=>.int .u64 S):=⟨_,rfl⟩
 rw[<-ho] at h0 hlive
 have hlen0:s.hp.length=m+1:=by rw[h0];simp[hl]
 have hZl:Z.length=m+1:=by rw[hs.ok.rel.len,hlen0]
 obtain⟨pb,hpb⟩:∃pb,Z[m]? = some pb:=⟨_,List.getElem?_eq_getElem (by omega)⟩
 obtain⟨Z0,hZ0⟩:∃Z0,Z0=Z.take m:=⟨_,rfl⟩
 have hsub0:Sub Z0 Z:=fun i p hi=>by
  rw[hZ0,List.getElem?_take] at hi
  split at hi
  ·exact hi
  ·cases hi
 have hlt0:∀{i p},Z0[i]? = some p->i<m:=fun {i p} hi=>by
  rw[hZ0,List.getElem?_take] at hi
  split at hi
  ·assumption
  ·cases hi
 have hInB:∀b,InB Z b↔InB Z0 b∨InB [pb] b:=fun b=>by
  constructor
  ·rintro ⟨p,hp,hb,hre⟩
   obtain⟨i,hi⟩:=List.getElem?_of_mem hp
   have:i<m+1:=by rw[<-hZl];exact(List.getElem?_eq_some_iff.1 hi).1
   rcases Nat.lt_or_ge i m with h|h
   ·exact .inl ⟨p,List.mem_of_getElem? (i:=i) (by rw[hZ0,List.getElem?_take,if_pos h];exact hi),hb,hre⟩
   ·have:i=m:=by omega
    subst this
    rw[hpb] at hi;cases hi
    exact .inr ⟨pb,by simp,hb,hre⟩
  ·rintro (⟨p,hp,hb,hre⟩|⟨p,hp,hb,hre⟩)
   ·obtain⟨i,hi⟩:=List.getElem?_of_mem hp
    exact⟨p,bp (hsub0 i p hi),hb,hre⟩
   ·have:p=pb:=by simpa using hp
    subst this
    exact⟨p,bp hpb,hb,hre⟩
 have hgo:∀i,i<m->af s.hp i=af H i:=fun i hi=>by rw[h0,jz (by rw[hl];exact hi)]
 have hgm:af s.hp m=o:=by rw[h0,jA (by rw[hl];exact Nat.le_refl _),hl,Nat.sub_self];rfl
 have hlv:∀i,i<m+1->aK (af s.hp i)=true:=fun i hi=>by rw[h0];exact jC hlive i (by simp[hl];omega)
 have rel0:∀W,HRel FM Z s.hp W->HRel FM Z0 H W:=fun W hr=>by
  refine⟨hr.fm,by rw[hZ0,List.length_take,hl,hZl];omega,fun i p hi=>?_,fun i j p q hi hj _ _ e=>hr.inj i j p q (hsub0 i p hi) (hsub0 j q hj) (hlv i (by have:=hlt0 hi;omega)) (hlv j (by have:=hlt0 hj;omega)) e⟩
  obtain⟨k1,k2⟩:=hr.obj i p (hsub0 i p hi)
  rw[hgo i (hlt0 hi)] at k2
  refine⟨k1,?_⟩
  rw[hZ0]
  exact kZ k2 (kY hBO i)
 have relI:∀W,HRel FM Z s.hp W->HRel FM [pb] [o] W:=fun W hr=>by
  refine⟨hr.fm,rfl,fun i p hi=>?_,fun i j p q hi hj _ _ _=>?_⟩
  ·have e:i=0:=by
    have:=(List.getElem?_eq_some_iff.1 hi).1
    simpa using this
   subst e
   have hi:pb=p:=by simpa using hi
   subst hi
   obtain⟨k1,k2⟩:=hr.obj m pb hpb
   rw[hgm] at k2
   refine⟨k1,?_⟩
   have:=kZ (k:=0) k2 (by rw[ho];exact fun _ _=>trivial)
   exact la (fun i p hi=>by simp at hi) this
  ·have e1:=(List.getElem?_eq_some_iff.1 hi).1
   have e2:=(List.getElem?_eq_some_iff.1 hj).1
   simp at e1 e2
   omega
 have hdis:∀b,InB [pb] b->¬InB Z0 b:=fun b ⟨p,hp,hb,hre⟩ ⟨q,hq,hb',hre'⟩=>by
  have:p=pb:=by simpa using hp
  subst this
  obtain⟨i,hi⟩:=List.getElem?_of_mem hq
  have:=hlt0 hi
  have:=hs.ok.rel.inj i m q p (hsub0 i q hi) hpb (hlv i (by omega)) (hlv m (by omega)) (by rw[hb,hb'])
  omega
 have nIn:∀X,w.heap.size<=X->¬InB Z X:=fun X hX ⟨p,hp,hb,hre⟩=>by
  obtain⟨i,hi⟩:=List.getElem?_of_mem hp
  have:=(hs.ok.rel.obj i p hi).1 hre
  omega
 have nB:∀X,w.heap.size<=X->¬R.B s.g X:=fun X hX hb=>by have:=(hs.ok.bd X hb).1;omega
 have nF:∀X,w.heap.size<=X->FM X=none:=fun X hX=>by
  cases hx:FM X with
  |none=>rfl
  |some o=>have:=(Array.getElem?_eq_some_iff.1 (hs.ok.rel.fm X o hx)).1;omega
 have hev:Den FM Z (.fn 105 0 fa 1 fb) (a.eval (.tmp t)):=by rw[<-hf];exact hs.fr t
 obtain⟨xs,ys,hu,hxs,hys,hda,hdb⟩:=hev
 have hfr0:∀t,Den FM Z0 (lk (eL ts s.fr) t) (a.tmps.getD t undef):=nf (fun t=>hs.fr t) (fun t ht=>ne hBf t ht) hZ0
 let u:Value:=.func (.yield L) #[] #[]
 let R2:Res:=fh (gR R D L rec) FM Z0
 let G2:R2.σ:=((s.g,.ready,none),H)
 let box:Nat->AObj:=fun k=>.cells false 1 (fun _=>.int .u64 (Tb.cutN S k))
 have hbox0:box 0=o:=ho.symm
 have hpreal:pb.2.1+1<=pb.2.2/\FM pb.1=none:=by
  obtain⟨k1,k2⟩:=hs.ok.rel.obj m pb hpb
  rw[hgm,ho] at k2
  obtain⟨cs,e,b1,b2,b3,b4,b5,b6⟩:=k2 (by omega)
  exact⟨by omega,b6 rfl⟩
 have hpin:InB [pb] pb.1:=⟨pb,by simp,rfl,by omega⟩
 obtain⟨A,hA⟩:∃A:Addr,A=⟨pb.1,pb.2.1,none⟩:=⟨_,rfl⟩
 let J:Nat->World->Prop:=fun k W=>∃FMk,Ok R2 [box k] G2 FMk [pb] W/\Goes R s.g FM Z w s.g FMk Z W/\Goes R2 G2 FM [pb] W1 G2 FMk [pb] W
 have okI:Ok R2 [box 0] G2 FM [pb] W1:=by
  rw[hbox0]
  refine⟨relI W1 ok1.rel,⟨⟨rel0 W1 ok1.rel,⟨ok1.j,hD1,hL1,⟨nF D (by omega),nF L (by omega)⟩,nB D (by omega),nB L (by omega)⟩,fun b hb=>?_⟩,fun _ _ h=>h⟩,fun b hb=>⟨?_,fun hI=>?_⟩⟩
  ·rcases hb with hb|rfl|rfl
   ·exact⟨(ok1.bd b hb).1,fun h=>(ok1.bd b hb).2 ((hInB b).2 (.inl h))⟩
   ·exact⟨by omega,fun h=>nIn _ (by omega) ((hInB _).2 (.inl h))⟩
   ·exact⟨by omega,fun h=>nIn _ (by omega) ((hInB _).2 (.inl h))⟩
  ·rcases hb with(hb|rfl|rfl)|⟨p,hp,hb,hre⟩
   ·exact(ok1.bd b hb).1
   ·omega
   ·omega
   ·obtain⟨i,hi⟩:=List.getElem?_of_mem hp
    rw[<-hb];exact(ok1.rel.obj i p (hsub0 i p hi)).1 hre
  ·rcases hb with(hb|rfl|rfl)|hb
   ·exact(ok1.bd b hb).2 ((hInB b).2 (.inr hI))
   ·exact nIn _ (by omega) ((hInB _).2 (.inr hI))
   ·exact nIn _ (by omega) ((hInB _).2 (.inr hI))
   ·exact hdis b hI hb
 have hB2:∀b,b<w.heap.size->R2.B G2 b->R.B s.g b∨InB Z0 b:=fun b hlt hb=>by
  rcases hb with(hb|rfl|rfl)|hb
  ·exact .inl hb
  ·omega
  ·omega
  ·exact .inr hb
 -- a step of the iterator's, told of the whole
 have goR:∀{FMa FMb:Mem} {Wa Wb:World},Goes R s.g FM Z w s.g FMa Z Wa->Goes R2 G2 FMa [pb] Wa G2 FMb [pb] Wb->Goes R s.g FM Z w s.g FMb Z Wb:=fun {FMa FMb Wa Wb} h k=>by
  refine⟨⟨fun b o hb=>k.ext.fm b o (h.ext.fm b o hb),fun b o hb=>?_,fun b hb=>.inl hb,fun b h1 h2 h3=>?_,Nat.le_trans h.ext.size k.ext.size,k.ext.os.trans h.ext.os,k.ext.tape.trans h.ext.tape,k.ext.output.trans h.ext.output⟩,fun b hb=>.inl hb,AG _⟩
  ·rcases k.ext.grow b o hb with h1|h1|h1|h1
   ·exact h.ext.grow b o h1
   ·exact .inr (.inl (Nat.le_trans h.ext.size h1))
   ·exact .inr (.inr (.inl ((hInB b).2 (.inr h1))))
   ·rcases Nat.lt_or_ge b w.heap.size with hlt|hge
    ·rcases hB2 b hlt h1 with h2|h2
     ·exact .inr (.inr (.inr h2))
     ·exact .inr (.inr (.inl ((hInB b).2 (.inl h2))))
    ·exact .inr (.inl hge)
  ·refine(k.ext.keep b (Nat.lt_of_lt_of_le h1 h.ext.size) (fun hI=>h2 ((hInB b).2 (.inr hI))) (fun hb=>?_)).trans (h.ext.keep b h1 h2 h3)
   rcases hB2 b h1 hb with h4|h4
   ·exact h3 h4
   ·exact h2 ((hInB b).2 (.inl h4))
 have hJ:∀k W,J k W->W.cell? A=some (.int .u64 (Tb.cutN S k))/\W.frozen? A=false/\(∀b o,FM b=some o->W.heap[b]? = some o):=fun k W ⟨FMk,okk,_,_⟩=>by
  obtain⟨k1,k2⟩:=okk.rel.obj 0 pb rfl
  obtain⟨cs,e,b1,b2,b3,b4,_,b6⟩:=k2 (by omega)
  obtain⟨x,c1,c2,c3⟩:=b4 0 (by omega)
  have hx:x=.int .u64 (Tb.cutN S k):=c3
  subst hx
  refine⟨by rw[hA];simp only[World.cell?,b1];simpa using c1,by rw[hA];simp[World.frozen?,b1],fun b o hb=>okk.rel.fm b o (okk.j.2 b o hb)⟩
 have hJg:∀k W W',J k W->W.grownBy W' none->J k W':=fun k W W' ⟨FMk,okk,h1,h2⟩ hg=>
  let ⟨x1,x2⟩:=wn okk hg
  ⟨FMk,x1,goR h1 x2,h2.trans x2⟩
 have hset:∀k W,(∃FMk,Ok R2 [box k] G2 FMk [pb] W/\Goes R s.g FM Z w s.g FMk Z W/\Goes R2 G2 FM [pb] W1 G2 FMk [pb] W)->J (k+1) (W.setCell A (.int .u64 (Tb.cutN S (k+1)))):=fun k W ⟨FMk,okk,h1,h2⟩=>by
  obtain⟨k1,k2⟩:=okk.rel.obj 0 pb rfl
  obtain⟨cs,e,b1,b2,b3,b4,_,b6⟩:=k2 (by omega)
  have hAb:A.block=pb.1:=by rw[hA]
  have hAb':(⟨pb.1,pb.2.1,none⟩:Addr).block=pb.1:=rfl
  have hF:FMk pb.1=none:=b6 rfl
  have keep:∀b,b≠pb.1->(W.setCell A (.int .u64 (Tb.cutN S (k+1)))).heap[b]? = W.heap[b]?:= fun b hb=>RowKit.Below.heap_setCell _ _ _ b (by rw[hAb];exact hb)
  have hsz:(W.setCell A (.int .u64 (Tb.cutN S (k+1)))).heap.size=W.heap.size:=by
   show(W.heap.modify _ _).size=_
   rw[Array.size_modify]
  have hnew:(W.setCell A (.int .u64 (Tb.cutN S (k+1)))).heap[pb.1]? = some (.cells (cs.setIfInBounds pb.2.1 (.int .u64 (Tb.cutN S (k+1)))) e (0,0)):=by
   show(W.heap.modify A.block _)[pb.1]? = _
   rw[hAb,Array.getElem?_modify,b1,hA]
   simp
  have hrel:HRel FMk [pb] [box (k+1)] (W.setCell A (.int .u64 (Tb.cutN S (k+1)))):=by
   refine⟨fun b o hb=>(keep b (fun e=>by rw[e,hF] at hb;cases hb)).trans (okk.rel.fm b o hb),rfl,fun i p hi=>?_,fun i j p q hi hj _ _ _=>?_⟩
   ·have e0:i=0:=by
     have:=(List.getElem?_eq_some_iff.1 hi).1
     simpa using this
    subst e0
    have hi:pb=p:=by simpa using hi
    subst hi
    refine⟨fun h=>by rw[hsz];exact k1 h,fun _=>⟨_,e,hnew,by rw[Array.size_setIfInBounds];exact b2,by rw[Array.size_setIfInBounds];exact b3,fun j hj=>?_,fun h=>(by cases h),fun _=>hF⟩⟩
    have:j=0:=by omega
    subst this
    refine⟨.int .u64 (Tb.cutN S (k+1)),?_,rfl,rfl⟩
    show(cs.setIfInBounds pb.2.1 _)[pb.2.1]? = _
    rw[Array.getElem?_setIfInBounds_self_of_lt (by omega)]
   ·have e1:=(List.getElem?_eq_some_iff.1 hi).1
    have e2:=(List.getElem?_eq_some_iff.1 hj).1
    simp at e1 e2
    omega
  obtain⟨x1,x2⟩:=fN (hp':=[box (k+1)]) (Z':=[pb]) (w':=W.setCell A (.int .u64 (Tb.cutN S (k+1)))) okk hrel ⟨fun _ _ h=>h,fun _ _ h=>.inl h,fun _ h=>.inl h,fun b _ h _=>keep b (fun e=>h (by rw[e];exact hpin)),Nat.le_of_eq hsz.symm,rfl,rfl,rfl⟩ (AG _)
  exact⟨FMk,x1,goR h1 x2,h2.trans x2⟩
 have hargI:∀(v:Nat) FMk (Zx:Plc),bP FMk Zx [.int .i64 (v:Int)] #[.int .i64 (v:Int)]:=fun v FMk Zx=>⟨rfl,fun i hi=>by
  have:i=0:=by simpa using hi
  subst this
  rfl⟩
 have hY:∀k W,k<K->k<(al S).length->J k W->YieldAt Fence.wide (2-1) Tryd.prog L #[.int .i64 (((al S).getD k 0:Nat):Int)] W fun e W'=>e=.returned (.bool true)/\W'.cell? A=some (.int .u64 (Tb.cutN S k))/\W'.frozen? A=false/\J (k+1) (W'.setCell A (.int .u64 (Tb.cutN S (k+1)))):=by
  rintro k W hk hkN ⟨FMk,okk,h1,h2⟩
  have hv:=qp (P:=Tryd.prog) (R:=R) (L:=L) hrec hs.size hfr0 hne (items:=[.int .i64 (((al S).getD k 0:Nat):Int)]) hlen hlt (by exact⟨trivial,trivial⟩) (jmp:=none) (hp:=H) (hp':=H) (g:=s.g) (g':=s.g) rfl (hround k hk hkN) [box k]
  rcases hv.h with⟨f,_,_,he,_⟩|⟨l,he,hq⟩
  ·cases he
  ·cases he
   obtain⟨fn',tmps',assign',body',hr,hR⟩:=hq FMk [pb] W _ okk (hargI _ _ _)
   refine⟨fn',tmps',assign',body',hr,(hR .top _).mono ?_⟩
   rintro e W' ⟨FM',Z',⟨v,rfl,hden⟩,okp,gop⟩
   obtain rfl:Z'=[pb]:=by
    have hl1:Z'.length=1:=okp.rel.len
    match Z',hl1 with
    |[q],_=>
     have:=gop.sub 0 pb rfl
     cases this;rfl
   have hj:J k W':=⟨FM',okp,goR h1 gop,h2.trans gop⟩
   obtain⟨j1,j2,_⟩:=hJ k W' hj
   refine⟨by rw[show v=_ from hden];rfl,j1,j2,hset k W' hj⟩
 have okDead:∀{k FMk W},Ok R2 [box k] G2 FMk [pb] W->Goes R s.g FM Z w s.g FMk Z W->Ok R (H++[.dead]) s.g FMk Z W/\W.heap[D]? = some (.deferred (some []))/\W.heap[L]? = some (.loop (rec .ready none))/\Nb R D s.g FMk Z W/\Nb R L s.g FMk Z W:=by
  intro k FMk W okk hg
  obtain⟨okL,hmono⟩:=okk.j
  obtain⟨jR,hD3,hL3,⟨fD,fL⟩,bD,bL⟩:=okL.j
  have okR:=m4 okL
  have hgd:∀i,i<m->af (H++[.dead]) i=af H i:=fun i hi=>jz (by rw[hl];exact hi)
  have hgdm:af (H++[.dead]) m=.dead:=by rw[jA (by rw[hl];exact Nat.le_refl _),hl,Nat.sub_self];rfl
  have hback:∀i p,Z[i]? = some p->(i<m/\Z0[i]? = some p)∨(i=m/\p=pb):=fun i p hi=>by
   have:i<m+1:=by rw[<-hZl];exact(List.getElem?_eq_some_iff.1 hi).1
   rcases Nat.lt_or_ge i m with h|h
   ·exact .inl ⟨h,by rw[hZ0,List.getElem?_take,if_pos h];exact hi⟩
   ·have:i=m:=by omega
    subst this
    rw[hpb] at hi;cases hi
    exact .inr ⟨rfl,rfl⟩
  have hnl:∀i p,Z[i]? = some p->aK (af (H++[.dead]) i)=true->i<m/\Z0[i]? = some p:=fun i p hi hv=>by
   rcases hback i p hi with h|⟨rfl,rfl⟩
   ·exact h
   ·rw[hgdm] at hv;cases hv
  refine⟨⟨⟨okR.rel.fm,by rw[hZl];simp[hl],fun i p hi=>?_,fun i j p q hi hj hv1 hv2 e=>?_⟩,okR.j,fun b hb=>⟨(okR.bd b hb).1,fun hI=>?_⟩⟩,hD3,hL3,?_,?_⟩
  ·rcases hback i p hi with⟨h1,h2⟩|⟨rfl,rfl⟩
   ·obtain⟨k1,k2⟩:=okR.rel.obj i p h2
    rw[hgd i h1]
    exact⟨k1,la hsub0 k2⟩
   ·rw[hgdm]
    refine⟨fun hre=>?_,trivial⟩
    have h1:=(hs.ok.rel.obj i p hi).1 hre
    have:=hg.ext.size
    omega
  ·obtain⟨a1,a2⟩:=hnl i p hi hv1
   obtain⟨b1,b2⟩:=hnl j q hj hv2
   rw[hgd i a1] at hv1
   rw[hgd j b1] at hv2
   exact okR.rel.inj i j p q a2 b2 hv1 hv2 e
  ·rcases(hInB b).1 hI with h|h
   ·exact(okR.bd b hb).2 h
   ·exact(okk.bd b (.inl (.inl hb))).2 h
  ·exact⟨(Array.getElem?_eq_some_iff.1 hD3).1,nIn D (by omega),bD,fD⟩
  ·exact⟨(Array.getElem?_eq_some_iff.1 hL3).1,nIn L (by omega),bL,fL⟩
 let C0:Cx R:=⟨s.g,FM,Z,w,[],false⟩
 have hE:∀W,K<(al S).length->J K W->YieldAt Fence.wide (2-1) Tryd.prog L #[.int .i64 (((al S).getD K 0:Nat):Int)] W fun e W'=>(e=.returned (.bool false)∨∃ch,e=.panicked ch)/\lj R C0 D L rec (fun e s3=>Q e ⟨s.fr,s3.hp,s3.g⟩) e W':=by
  rintro W hK ⟨FMk,okk,h1,h2⟩
  obtain⟨okd,hDW,hLW,nD,nL⟩:=okDead okk h1
  obtain⟨fn',tmps',assign',body',hr,hR⟩:=wo (P:=Tryd.prog) (R:=R) hrec (C:=C0) (by show w.heap.size<=D;omega) (by show w.heap.size<=L;omega) hne okd h1 hDW hLW nD nL hs.size (fun t=>AI h1.ext.fm _ (AG _) (hs.fr t)) (hargI ((al S).getD K 0) FMk Z) hlen hlt
   (Q:=fun e s3=>Q e ⟨s.fr,s3.hp,s3.g⟩) (by have:=hlast hK L;rw[show(H++[AObj.dead]).length=m+1 by simp[hl]];exact this)
  refine⟨fn',tmps',assign',body',hr,(hR .top _).mono ?_⟩
  intro e W' he
  have he':=he
  obtain⟨ex,j,s3,FM3,Z3,e1,_⟩:=he'
  exact⟨.inl e1,he⟩
 have hargs:(xs++#[u])++ys=#[.func (.yield L) #[] #[],.pointer (some A)]:=by
  have hxs0:xs=#[]:=Array.size_eq_zero_iff.1 hxs
  have hd0:=hdb 0 (by omega)
  rw[hfb] at hd0
  obtain⟨p,hp1,hp2⟩:=hd0
  rw[hpb] at hp1;cases hp1
  subst hxs0
  have hy:ys=#[.pointer (some A)]:=by
   refine Array.ext (by simp[hys]) (fun i h1 h2=>?_)
   have:i=0:=by simp at h2;omega
   subst this
   rw[Array.getD_eq_getD_getElem?,Array.getElem?_eq_getElem h1] at hp2
   rw[hA]
   simpa using hp2
  rw[hy]
  rfl
 have hcalls:=callsIn_wide.1 (zz 2 (by omega) L S hS A FM (Tab.h (T:=LT) hs.ok.j) J (lj R C0 D L rec (fun e s3=>Q e ⟨s.fr,s3.hp,s3.g⟩)) K hJ hJg hY hE W1 ⟨FM,okI,go1,AD _ _ _ _ _⟩)
 have hpl:cp Tryd.prog 105=true:=by kernel_rfl
 have hfn':∃fn,Tryd.prog.funcs[105]? = some fn/\fn.name ≠ "runtime.NumGoroutine"/\fn.body.isSome=true:=by
  unfold cp at hpl
  split at hpl
  ·rename_i fn hfn
   simp only[Bool.and_eq_true,bne_iff_ne,ne_eq] at hpl
   exact⟨fn,hfn,hpl.1,hpl.2⟩
  ·cases hpl
 obtain⟨fnF,hF1,hF2,hF3⟩:=hfn'
 have hF3':¬fnF.body=none:=fun h=>by rw[h] at hF3;cases hF3
 refine⟨L,[ir D],W1,{ target:=.fn (.func 105) ys,args:=xs++#[u] },W1,105,(xs++#[u])++ys,W1,?_,?_,fun _ _=>trivial,?_,fun h=>(by cases h),?_⟩
 ·rw[<-hW1,hrec,hD,hL];exact run_enterLoop_outer _ _ _ _ _
 ·simp[resolve,hu,Deferred.ofValue,u]
  rfl
 ·simp[invoke,callFunc,hF1,hF2,hF3']
 rw[hargs]
 refine(gg hcalls).mono ?_
 have hsat:∀{hp3:List AObj} {g3:R.σ} {FM3:Mem} {Z3:Plc} {W:World} (st:LoopState) (pe:Option Code),Ok R hp3 g3 FM3 Z3 W->Goes R s.g FM Z w g3 FM3 Z3 W->W.heap[D]? = some (.deferred (some []))->Nb R D g3 FM3 Z3 W->Nb R L g3 FM3 Z3 W ->
   Sat R C nt ⟨s.fr,hp3,g3⟩ FM3 Z3 { a with defers:=[ir D]++a.defers } (W.putObj L (.loop { rec st pe with state:=.exhausted })):=by
  intro hp3 g3 FM3 Z3 W st pe ok3 go3 hD3 nD nL
  have go4:Goes R s.g FM Z w g3 FM3 Z3 (W.putObj L (.loop { rec st pe with state:=.exhausted })):=go3.put (by omega) _
  refine⟨iI _ nL.off nL.offB nL.nofm ok3,hs.goes.trans go4,hs.size,?_,fun t=>AI go4.ext.fm _ go4.sub (hs.fr t)⟩
  obtain⟨ms,e1,e2,e3,e4⟩:=hs.defs
  refine⟨D::ms,by rw[e1];rfl,List.nodup_cons.2 ⟨fun hmem=>?_,e2⟩,fun h=>?_,fun X hX=>?_⟩
  ·have:=(Array.getElem?_eq_some_iff.1 (e4 D hmem).obj).1
   omega
  ·rw[hC.2] at h;cases h
  ·rcases List.mem_cons.1 hX with rfl|hX
   ·exact⟨(World.putObj_heap_other hne).trans hD3,nD.off,nD.offB,nD.nofm,by have:=hs.goes.ext.size;omega⟩
   ·exact(e4 X hX).goes go4
 rintro e w3 (⟨hNK,⟨v,rfl⟩,FMk,okk,h1,h2⟩|⟨hKN,⟨⟨v,rfl⟩,hL3⟩|⟨ch,rfl,hL3⟩⟩)
 ·obtain⟨okd,hD3,hL3,nD,nL⟩:=okDead okk h1
  have hend:=run_endLoop (P:=Tryd.prog) hL3 (by rw[hrec];intro h;cases h)
  obtain⟨p,w4,hend,hp,hw4⟩:∃p w4,(Instr.endLoop L).run Tryd.prog w3=.ok p w4/\p=none/\w4=w3.putObj L (.loop { rec .ready none with state:=.exhausted }):=⟨_,_,hend,by rw[hrec],rfl⟩
  subst hp
  have hs4:=hsat .ready none okd h1 hD3 nD nL
  rw[<-hw4] at hs4
  exact⟨none,w4,hend,_,hdone hNK,FMk,Z,hs4⟩
 ·obtain⟨ex,j,s3,FM3,Z3,_,hj,hq,ok3,go3,hD3,hL3,nD,nL⟩:=hL3
  have hend:=run_endLoop (P:=Tryd.prog) hL3 (by rw[hrec];intro h;cases h)
  obtain⟨p,w4,hend,hp,hw4⟩:∃p w4,(Instr.endLoop L).run Tryd.prog w3=.ok p w4/\p=some j/\w4=w3.putObj L (.loop { rec .done (some j) with state:=.exhausted }):=⟨_,_,hend,by rw[hrec],rfl⟩
  subst hp
  have hs4:=hsat .done (some j) ok3 go3 hD3 nD nL
  rw[<-hw4] at hs4
  refine⟨some j,w4,hend,?_⟩
  cases ex with
  |normal=>cases hj
  |pan v=>cases hj
  |ret=>cases hj;exact wpIn_ret ⟨_,hq,FM3,Z3,hs4⟩
  |exit id=>cases hj;exact wpIn_exit ⟨_,hq,FM3,Z3,hs4⟩
 ·obtain⟨_,_,_,_,_,he,_⟩:=hL3
  cases he
end
end Go.Avm.Pack
namespace Go.Avm.Pack
open Go Go.Avm Go.Proofs
open Go.IntKind (i64 u64)
open Go.Avm.AV (int bool any fz fp sl ow ref fn ifc val agg tup)
open Go.Avm.AObj (cells dead)
open Go.Avm.Oc (ret)
set_option maxRecDepth 4000
section
variable {R:Res}
def zB (P:Program)(R:Res)(nt l:Nat)(b:Code)(q:List Nat)(Q:AEx->St R.σ->Prop):AEx->St R.σ->Prop
 |.normal,s=>Wp P R nt s.hp.length (.inr l) b q (lh Q) s
 |_,_=>False
theorem sO [Tab LT R]{nt k0:Nat}{b:Code}{p:List Nat}{Q:AEx->St R.σ->Prop}{s:St R.σ}(t:Nat)(psl:List Nat)(m:Nat)(hrl:kR t psl (sub b p)=true){fa fb:Nat->AV}(hf:lk s.fr t=.fn 105 0 fa 1 fb)(hfb:fb 0=.ref m 0)
  (S K:Nat) (hS:S<2^24) (H:List AObj) (h0:To R k0 s ⟨s.fr,H++[.cells false 1 (fun _=>.int .u64 S)],s.g⟩) (hl:H.length=m)
  (hlive:d9 (H++[.cells false 1 (fun _=>.int .u64 S)])) (hBO:gq m H) (hlen:1=psl.length) (hlt:bI psl nt=true) (ts:List Nat) (hBf:iM ts (fun t=>Below m (lk s.fr t)))
  (hround:∀k l,k<K->k<(al S).length->Wp Tryd.prog R nt m (.inr l) b (p++[0]) (qq Tryd.prog R nt m l b (p++[1]) none H s.g) ⟨dQ psl [.int .i64 (((al S).getD k 0:Nat):Int)] (eL ts s.fr),H,s.g⟩)
  (hlast:K<(al S).length->∀l,Wp Tryd.prog R nt (m+1) (.inr l) b (p++[0]) (zB Tryd.prog R nt l b (p++[1]) (fun e s3=>Q e ⟨s.fr,s3.hp,s3.g⟩)) ⟨dQ psl [.int .i64 (((al S).getD K 0:Nat):Int)] s.fr,H++[.dead],s.g⟩)
  (hdone:(al S).length<=K->Q .normal ⟨s.fr,H++[.dead],s.g⟩) :
  Wp Tryd.prog R nt k0 .top b p Q s:=by
 obtain⟨ps,assign,body,hc,rfl⟩:∃ps assign body,sub b p=.rangeFunc (.tmp t) ps assign body/\ps.toList=psl:=by
  unfold kR at hrl
  split at hrl
  ·rename_i u ps assign body hs
   simp only[Bool.and_eq_true] at hrl
   have:=Nat.eq_of_beq_eq_true hrl.1
   subst this
   exact⟨ps,assign,body,hs,kO hrl.2⟩
  ·cases hrl
 have e0:sub b (p++[0])=assign:=by rw[dl,hc];exact eF assign
 have e1:sub b (p++[1])=body:=by rw[dl,hc];exact eF body
 refine⟨?_⟩
 rw[hc]
 refine kG h0 (zA (s:=⟨s.fr,H++[.cells false 1 (fun _=>.int .u64 S)],s.g⟩) (K:=K) hf hfb hS rfl hl hlive hBO hlen hlt ts hBf (fun k hk hkN l=>?_) (fun hK l=>?_) hdone)
 ·have h1:=(hround k l hk hkN).h
  rw[e0] at h1
  rw[show(St.hp ⟨dQ ps.toList [.int .i64 (((al S).getD k 0:Nat):Int)] (eL ts s.fr),H,s.g⟩).length=m from hl]
  refine kC h1 (fun e s' hq=>?_)
  cases e with
  |normal=>
   have h2:=(show Wp _ _ _ _ _ _ _ _ _ from hq).h
   rw[e1] at h2
   exact⟨rfl,h2⟩
  |exit id=>exact hq.elim
  |ret=>exact hq.elim
  |pan v=>exact hq.elim
 ·have h1:=(hlast hK l).h
  rw[e0] at h1
  refine kC h1 (fun e s' hq=>?_)
  cases e with
  |normal=>
   have h2:=(show Wp _ _ _ _ _ _ _ _ _ from hq).h
   rw[e1] at h2
   exact⟨rfl,h2⟩
  |exit id=>exact hq.elim
  |ret=>exact hq.elim
  |pan v=>exact hq.elim
end
def aB (l:List Nat):Nat->AV:=fun k=>aj (ag (l.getD k 0))
theorem dp {k:Nat}(l:List Nat)(j:Nat):Below k (aB l j):=trivial
theorem gS {f:Nat->Nat}(h:True){l:List Nat}{j:Nat}:aN f (aB l j)=aB l j:=rfl
theorem lV {p:Prg}{left a:Nat}(hg:hgP p a<2^24)(hl:left<2^24):(IntKind.u64.wrap ((BitVec.ofInt 64 (IntKind.u64.wrap ((BitVec.ofInt 64 (hgP p a:Int)&&&BitVec.ofInt 64 (left:Int)).toNat:Int)) &&& ~~~ BitVec.ofInt 64 (az p a:Int)).toNat:Int)==0)=eS p left a:=by
 rw[Tb.u64_and (bV hg) (bV hl),ot (Nat.lt_of_le_of_lt Nat.and_le_right hl)]
 unfold eS
 rw[Bool.eq_iff_iff,beq_iff_eq,beq_iff_eq]
 omega
theorem lW {p:Prg}(hr:∀r,r∈p.rules.l->aH r)(hx:∀r,r∈p.rules.l->∀l,l∈r.body.l->0<=l.atom/\l.atom<p.atoms){a c:Nat}(ha:a<24)(han:(a:Int)<p.atoms)(hc:c∈al (hgP p a)):(c:Int)<p.atoms:=by
 obtain⟨m1,m2⟩:=Tb.mem_memN.1 hc
 rcases yb hx ((eA hr ha).1 m2) with rfl|h
 ·exact han
 ·exact h
theorem iZ {L:List Nat}{w m c:Nat}{z:Nat->AV}{old:Nat->Nat->AV}(hm:m=L.length)(hold:∀i,i<m->old i 0=aB L i)(hc:c<(m+1)*1):aB (L++[w]) c=aS 1 m old (fun i j=>ah z 0 1 (fun _=>aj (ag w)) (0+i*1+j)) c:=by
 unfold aS aB
 rw[List.getD_eq_getElem?_getD]
 by_cases h:c<m*1
 ·rw[if_pos h,show c/1=c by omega,show c%1=0 by omega,hold c omg,List.getElem?_append_left omg,<-List.getD_eq_getElem?_getD]
  rfl
 ·rw[if_neg h,List.getElem?_append_right omg,show c-L.length=0 by omega]
  show _=ah z 0 1 _ (0+(c-m*1)/1*1+(c-m*1)%1)
  rw[cA,if_pos omg]
  rfl
theorem Le.ow_nil {get:Nat->Nat->AV}{s o es:Nat}:Le (.ow true o 0 es) (.fz .nil s 0 get):=by
 intro FM Z v h
 obtain⟨a,rfl,ha⟩:=h.1 rfl
 obtain rfl:=ha rfl
 exact⟨fun _=>⟨rfl,none,0,rfl,rfl,rfl⟩,fun h=>(by cases h)⟩
theorem zC {f z:Nat->AV}{a c:Nat}(hc:c<(a+1)*1):f c=aS 1 a (fun i j=>f (i*1+j)) (fun i j=>ah z 0 1 (fun _=>f a) (0+i*1+j)) c:=by
 unfold aS
 by_cases h:c<a*1
 ·rw[if_pos h]
  show f c=f (c/1*1+c%1)
  rw[show c/1*1+c%1=c by omega]
 ·rw[if_neg h]
  show f c=ah z 0 1 _ (0+(c-a*1)/1*1+(c-a*1)%1)
  rw[cA,if_pos omg,show c=a by omega]
structure OrdOk (p:Prg)(x:Nat × List Nat × Nat):Prop where
 num:x.1=x.2.1.length
 few:x.1+(al x.2.2).length<=24
 lt:x.2.2<2^24
 at_:∀a,a∈al x.2.2->a<p.atoms.toNat
 ord:∃f,(al x.2.2).length<f/\x.2.1++jZ p f x.2.2=cD p
theorem zD {p:Prg}(hr:∀r,r∈p.rules.l->aH r){m left:Nat}{L:List Nat}(h:OrdOk p (m,L,left))(h0:left≠0):OrdOk p (m+1,L++[az p (dV p left)],dJ left (az p (dV p left)))/\(al (dJ left (az p (dV p left)))).length<(al left).length:=by
 obtain⟨o1,o2,o3,o4,f,f1,f2⟩:=h
 simp only at o1 o2 o3 o4 f1 f2
 have hlt:=yg hr o3 h0
 obtain⟨f,rfl⟩:∃k,f=k+1:=⟨f-1,omg⟩
 refine⟨⟨?_,?_,Nat.lt_of_le_of_lt rQ o3,fun a ha=>o4 a ?_,f,?_,?_⟩,hlt⟩
 ·show m+1=(L++[_]).length
  rw[List.length_append,o1]
  rfl
 ·show m+1+(al (dJ left (az p (dV p left)))).length<=24
  omega
 ·obtain⟨m1,m2⟩:=Tb.mem_memN.1 ha
  have m2:(dJ left (az p (dV p left))).testBit a=true:=m2
  rw[jY o3,Bool.and_eq_true] at m2
  exact Tb.mem_memN.2 ⟨m1,m2.1⟩
 ·show(al (dJ left _)).length<f
  omega
 ·rw[<-f2]
  show(L++[_])++jZ p f _=L++(if left=0 then[] else _::jZ p f _)
  rw[if_neg h0,List.append_assoc]
  rfl
theorem zE {p:Prg}(hp:1<=p.atoms/\p.atoms<=24):OrdOk p (0,[],2^p.atoms.toNat-1):=by
 have hb:∀j,(2^p.atoms.toNat-1).testBit j=decide (j<p.atoms.toNat):=fun j=>Nat.testBit_two_pow_sub_one _ _
 refine⟨rfl,?_,?_,fun a ha=>?_,25,?_,rfl⟩
 ·have:=gv (2^p.atoms.toNat-1)
  show 0+(al (2^p.atoms.toNat-1)).length<=24
  omega
 ·have:2^p.atoms.toNat<=2^24:=Nat.pow_le_pow_right dcd omg
  have:0<2^p.atoms.toNat:=Nat.pow_pos dcd
  show 2^p.atoms.toNat-1<2^24
  omega
 ·have h:=(Tb.mem_memN.1 ha).2
  have h:(2^p.atoms.toNat-1).testBit a=true:=h
  rw[hb,decide_eq_true_eq] at h
  exact h
 ·have:=gv (2^p.atoms.toNat-1)
  show(al (2^p.atoms.toNat-1)).length<25
  omega
theorem zF (R:Res)[Tab LT R](p:Prg)(hb:aG p=true)(g:R.σ):Does Tryd.prog R 31 [au p] [] g (.ret (.tup 2 (nth [bo (cD p).length (fun i=>ag ((cD p).getD i 0)),.int .i64 0]))) [] g:=by
 have hroom:ax=140737488355328:=rfl
 obtain⟨hl,hr,hp,hh,hx⟩:=eQ hb
 have hs:ec p:=g9 hb
 have hp':1<=p.atoms/\p.atoms<=24:=hp
 refine spW (nt:=57) (rs:=[.tmp 2,.tmp 3]) (k0:=0) ?_
 have hc:((if aG p then(0:Int) else 2) != 0)=false:=by rw[hb];rfl
 refine vcR [[1,0,0,1,0]] (lkL [(0,[1]),(1,[1,13]),(3,[1,4]),(4,[1,4,15,16])]) (lkL [(1,[(1,ROrc.pcall (int i64 (if aG p=true then 0 else 2)))])]) (fun Q=>(fun (u1:Int)=>(fun (u2:AObj)=>2<=2/\(∀(hp:List AObj) (g:R.σ),true=true/\Does Tryd.prog R 16 [au p] hp g (ret (int i64 u1)) hp g)/\((u1 != 0)=true->WpC Tryd.prog R 57 0 31 [1,0,0,1,0] Q [Kont.seq [1,0,1]] (St.mk [(1,ref 0 0),(13,AV.bool (u1 != 0))] [u2] g))/\((u1 != 0)=false->1<=2/\WpC Tryd.prog R 57 0 31 [1,0,1,1,0,1,0] Q [Kont.blk 0,Kont.seq [1,0,1,1,1]] (St.mk [(1,ref 0 0),(4,ref 1 0),(15,int i64 p.atoms),(16,int i64 0)] [u2,cells false 1 fun a=>fz Fz.nil 0 0 fun x x_1=>any] g))) (cells false 2 (nth [int i64 p.atoms,ad p.rules]))) (if aG p=true then 0 else 2)) ⟨omg,(fun _ _=>⟨rfl,(fT _ _ _ _ omg)⟩),fun hcc=>(nomatch (hc.symm.trans hcc)),fun _=>⟨omg,?_⟩⟩
 refine br (eO (fun _=>.any) 1) ?_
 refine br (toL (s':=⟨[(1,.ref 0 0),(4,.ref 1 0),(15,.int .i64 p.atoms),(16,.int .i64 0)],[.cells false 2 (nth [.int .i64 p.atoms,ad p.rules]),.cells false 1 (fun _=>.ow true 2 0 1),.cells false (0*1) (onC p)],g⟩) (h1:=?_) (h2:=?_)) ?_
 ·exact⟨Av _,Av _,Av _,Av _,trivial⟩
 ·exact⟨Ay _,⟨rfl,Nat.le_refl _,fun _ _=>Le.nil_ow⟩,⟨rfl,Nat.le_refl _,fun j hj=>absurd hj omg⟩,trivial⟩
 refine(aZ krf (fun (a:Nat)=>⟨[(1,ref 0 0),(4,ref 1 0),(15,int i64 p.atoms),(16,.int .i64 a)],[.cells false 2 (nth [.int .i64 p.atoms,ad p.rules]),.cells false 1 (fun _=>.ow true 2 a 1),.cells false (a*1) (onC p)],g⟩) (fun (a:Nat)=>(a<=p.atoms.toNat)) (fun (a:Nat)=>(p.atoms.toNat-a)) 0 (aV ⟨Av _,Av _,Av _,(Aw krf),trivial⟩ rfl rfl) ?_ (fun a hi=>?_))
 ·exact Nat.zero_le _
 ·refine vcR [] (lkL [(5,[1,4,15,16,17]),(6,[1,4,5,15,16]),(7,[1,4,15,16]),(8,[1,4,15,16])]) (lkL [(7,[(3,ROrc.pcall (int u64 (↑(hgP p (Int.toNat (↑a:Int))):Int))),(5,ROrc.val (Orc.obj (onC p))),(6,ROrc.val (Orc.obj (nth [ow true 4 (a+1) 1])))])]) (fun Q=>(fun (u1:Int)=>(fun (u2:AV)=>(fun (u3:AObj)=>(decide (u1<p.atoms)=true->Flw Tryd.prog/\1<=1/\2<=2/\(∀(hp:List AObj) (g:R.σ),true=true/\Does Tryd.prog R 70 [au p,int i64 u1] hp g (ret u2) hp g)/\0<1/\(a+1)*8<=ax/\a+1<=ax/\1<=1/\a*1<=a*1/\(∀(c:Nat),c<(a+1)*1->int u64 (↑(hgP p c):Int)=aS 1 a (fun (i j:Nat)=>int u64 (↑(hgP p (i*1+j)):Int)) (fun (i j:Nat)=>ah (fun (j:Nat)=>int u64 0) 0 1 (fun (x:Nat)=>u2) (0+i*1+j)) c)/\1<=1/\(∀(c:Nat),c<1->nth [ow true 4 (a+1) 1] c=ah (fun (x:Nat)=>ow true 2 a 1) 0 1 (fun (x:Nat)=>ow true 4 (a+1) 1) c)/\(-9223372036854775808<=u1+1/\u1+1<=9223372036854775807)/\Q AEx.normal (St.mk [(1,ref 0 0),(4,ref 1 0),(15,int i64 p.atoms),(16,int i64 (u1+1))] [u3,cells false 1 (nth [ow true 4 (a+1) 1]),dead,cells false 1 (ah (fun (j:Nat)=>int u64 0) 0 1 fun x=>u2),cells false ((a+1)*1) fun a=>int u64 (↑(hgP p a):Int)] g))/\(decide (u1<p.atoms)=false->Q (AEx.exit 0) (St.mk [(1,ref 0 0),(4,ref 1 0),(15,int i64 p.atoms),(16,int i64 u1),(17,AV.bool (decide (u1<p.atoms)))] [u3,cells false 1 fun x=>ow true 2 a 1,cells false (a*1) fun a=>int u64 (↑(hgP p a):Int)] g))) (cells false 2 (nth [int i64 p.atoms,ad p.rules]))) (int u64 (↑(hgP p a):Int))) ((↑a:Int))) ⟨fun c1=>have c1:(↑a:Int)<p.atoms:=(of_decide_eq_true c1);⟨krf,omg,omg,(fun _ _=>⟨rfl,(rJ _ _ _ omg omg (by simp at * <;> omega) _ _)⟩),omg,omg,omg,omg,omg,?_,omg,(fun c hc=>match c,hc with|0,_=>krf ),omg,?_⟩,fun c1=>have c1:¬(↑a:Int)<p.atoms:=(of_decide_eq_false c1);?_⟩
  ·exact fun c hc=>(zC (f:=onC p) (z:=fun _=>.int .u64 0) hc).trans krf
  ·refine(aL (a+1) (toS [0,1,4] 5 (hob:=⟨⟨rfl,Nat.le_refl _,fun j hj=>match j,hj with|0,_=>(Av _)|1,_=>(Av _) ⟩,⟨rfl,Nat.le_refl _,fun j hj=>match j,hj with|0,_=>(Av _) ⟩,?_,trivial⟩)) ?_ ?_)
   ·exact⟨rfl,Nat.le_refl _,fun j _=>Aw rfl⟩
   ·omega
   ·omega
  ·have ha:a=p.atoms.toNat:=by omega
   subst ha
   have hA:=fun (R:Res) (hp:List AObj) (g:R.σ)=>wR R p.atoms.toNat omg hp g
   rw[show((p.atoms.toNat:Nat):Int)=p.atoms by omega] at hA
   obtain⟨left0,hleft0⟩:∃l,2^p.atoms.toNat-1=l:=⟨_,rfl⟩
   simp only[hleft0] at hA
   obtain⟨n,hn⟩:∃n,p.atoms.toNat=n:=⟨_,rfl⟩
   rw[hn]
   refine⟨_,AH _,vcR [] (lkL [(9,[1,4,6]),(10,[1,4,6,7]),(11,[4,6,7,8])]) (lkL [(9,[(2,ROrc.val (Orc.obj (nth [fn 82 0 (nth []) 1 (nth [ref 1 0])])))]),(11,[(2,ROrc.pcall (int u64 (↑left0:Int))),(4,ROrc.val (Orc.obj (nth [int u64 (↑left0:Int)])))])]) (fun Q=>(fun (u1:AV)=>(fun (u2:AV)=>1<=1/\(∀(c:Nat),c<1->nth [u2] c=ah (fun (a:Nat)=>AV.nilf) 0 1 (fun (x:Nat)=>u2) c)/\1<=2/\(∀(hp:List AObj) (g:R.σ),true=true/\Does Tryd.prog R 83 [int i64 p.atoms] hp g (ret u1) hp g)/\1<=1/\(∀(c:Nat),c<1->nth [u1] c=ah (fun (a:Nat)=>int u64 0) 0 1 (fun (x:Nat)=>u1) c)/\WpC Tryd.prog R 57 0 31 [1,0,1,1,1,1,1,1,1,0,0] Q [Kont.blk 2,Kont.seq [1,0,1,1,1,1,1,1,1,1]] (St.mk [(4,ref 1 0),(6,ref 3 0),(7,ref 4 0),(8,ref 5 0)] [cells false 2 (nth [int i64 p.atoms,ad p.rules]),cells false 1 fun x=>ow true 2 n 1,cells false (n*1) fun a=>int u64 (↑(hgP p a):Int),cells false 1 (nth [u2]),cells false 1 fun a=>fz Fz.nil 0 0 fun x x_1=>any,cells false 1 (nth [u1])] g)) (fn 82 0 (nth []) 1 (nth [ref 1 0]))) (int u64 (↑left0:Int))) ⟨omg,(fun c hc=>match c,hc with|0,_=>krf ),omg,(fun _ _=>⟨rfl,(hA _ _ _)⟩),omg,(fun c hc=>match c,hc with|0,_=>krf ),?_⟩⟩
   refine br (eO (fun _=>.any) 1) ?_
   refine br (toL (s':=⟨[(4,.ref 1 0),(6,.ref 3 0),(7,.ref 4 0),(8,.ref 5 0)],[.cells false 2 (nth [.int .i64 p.atoms,ad p.rules]),.cells false 1 (fun _=>.ow true 2 n 1),.cells false (n*1) (onC p),.cells false 1 (fun _=>.fn 82 0 (nth []) 1 (nth [.ref 1 0])),.cells false 1 (fun _=>.ow true 6 0 1),.cells false 1 (fun _=>.int .u64 left0),.cells false (0*1) (aB [])],g⟩) (h1:=?_) (h2:=?_)) ?_
   ·exact⟨Av _,Av _,Av _,Av _,trivial⟩
   ·exact⟨Ay _,Ay _,Ay _,⟨rfl,Nat.le_refl _,fun j hj=>match j,hj with|0,_=>Av _⟩,⟨rfl,Nat.le_refl _,fun _ _=>Le.nil_ow⟩,⟨rfl,Nat.le_refl _,fun j hj=>match j,hj with|0,_=>Av _⟩,⟨rfl,Nat.le_refl _,fun j hj=>absurd hj omg⟩,trivial⟩
   refine(aZ krf (fun (x:Nat × List Nat × Nat)=>⟨[(4,ref 1 0),(6,ref 3 0),(7,ref 4 0),(8,ref 5 0)],[.cells false 2 (nth [.int .i64 p.atoms,ad p.rules]),.cells false 1 (fun _=>.ow true 2 n 1),.cells false (n*1) (onC p),.cells false 1 (fun _=>.fn 82 0 (nth []) 1 (nth [.ref 1 0])),.cells false 1 (fun _=>.ow true 6 x.1 1),.cells false 1 (fun _=>.int .u64 x.2.2),.cells false (x.1*1) (aB x.2.1)],g⟩) (fun (x:Nat × List Nat × Nat)=>(OrdOk p x)) (fun (x:Nat × List Nat × Nat)=>((al x.2.2).length)) (0,[],left0) (aV ⟨Av _,Av _,Av _,Av _,trivial⟩ rfl rfl) ?_ (fun x hi=>?_))
   ·rw[<-hleft0]
    exact zE hp'
   ·obtain⟨m,L,left⟩:=x
    have hok:=hi
    obtain⟨o1,o2,o3,o4,o5⟩:=hi
    simp only at o1 o2 o3 o4 o5
    have hat:0<n:=by omega
    refine vcR [] (lkL [(12,[4,6,7,8,31]),(13,[4,6,7,8,33])]) (lkL [(13,[(1,ROrc.call (fn 105 0 (nth []) 1 (nth [ref (List.length [cells false 2 (nth [int i64 p.atoms,ad p.rules]),cells false 1 fun (x:Nat)=>ow true 2 n 1,cells false (n*1) fun (a:Nat)=>int u64 (↑(hgP p a):Int),cells false 1 fun (x:Nat)=>fn 82 0 (nth []) 1 (nth [ref 1 0]),cells false 1 fun (x:Nat)=>ow true 6 m 1,cells false 1 fun (x:Nat)=>int u64 (↑left:Int),cells false (m*1) fun (a:Nat)=>fz Fz.auto 1 (List.length (ag (List.getD L a 0)).l) fun (i x:Nat)=>ab (ag (List.getD L a 0)).l i]) 0])) ([cells false 2 (nth [int i64 p.atoms,ad p.rules]),cells false 1 fun (x:Nat)=>ow true 2 n 1,cells false (n*1) fun (a:Nat)=>int u64 (↑(hgP p a):Int),cells false 1 fun (x:Nat)=>fn 82 0 (nth []) 1 (nth [ref 1 0]),cells false 1 fun (x:Nat)=>ow true 6 m 1,cells false 1 fun (x:Nat)=>int u64 (↑left:Int),cells false (m*1) fun (a:Nat)=>fz Fz.auto 1 (List.length (ag (List.getD L a 0)).l) fun (i x:Nat)=>ab (ag (List.getD L a 0)).l i]++[cells false 1 fun (x:Nat)=>int u64 (↑left:Int)]) g)])]) (fun Q=>(fun (u1:List AObj)=>(fun (u2:List AObj)=>1<=1/\(((↑left:Int) != 0)=true->1<=1/\(true=true/\Does Tryd.prog R 77 [int u64 (↑left:Int)] u2 g (ret (fn 105 0 (nth []) 1 (nth [ref 7 0]))) u1 g)/\WpC Tryd.prog R 57 0 31 [1,0,1,1,1,1,1,1,1,0,0,0,1,0,1,0] Q [Kont.blk 4,Kont.blk 3] (St.mk [(4,ref 1 0),(6,ref 3 0),(7,ref 4 0),(8,ref 5 0),(33,fn 105 0 (nth []) 1 (nth [ref 7 0]))] u1 g))/\(((↑left:Int) != 0)=false->Q (AEx.exit 2) (St.mk [(4,ref 1 0),(6,ref 3 0),(7,ref 4 0),(8,ref 5 0),(31,AV.bool ((↑left:Int) != 0))] u2 g))) ([cells false 2 (nth [int i64 p.atoms,ad p.rules]),cells false 1 fun x=>ow true 2 n 1,cells false (n*1) fun a=>int u64 (↑(hgP p a):Int),cells false 1 fun x=>fn 82 0 (nth []) 1 (nth [ref 1 0]),cells false 1 fun x=>ow true 6 m 1,cells false 1 fun x=>int u64 (↑left:Int),cells false (m*1) fun a=>fz Fz.auto 1 (List.length (ag (List.getD L a 0)).l) fun i x=>ab (ag (List.getD L a 0)).l i])) ([cells false 2 (nth [int i64 p.atoms,ad p.rules]),cells false 1 fun x=>ow true 2 n 1,cells false (n*1) fun a=>int u64 (↑(hgP p a):Int),cells false 1 fun x=>fn 82 0 (nth []) 1 (nth [ref 1 0]),cells false 1 fun x=>ow true 6 m 1,cells false 1 fun x=>int u64 (↑left:Int),cells false (m*1) fun a=>fz Fz.auto 1 (List.length (ag (List.getD L a 0)).l) fun i x=>ab (ag (List.getD L a 0)).l i,cells false 1 fun x=>int u64 (↑left:Int)])) ⟨omg,fun c1=>have c1:¬(↑left:Int)=0:=(bne_iff_ne.mp c1);⟨omg,⟨rfl,(dt _ _ _ _)⟩,?_⟩,fun c1=>have c1:(↑left:Int)=0:=(bne_eq_false_iff_eq.mp c1);?_⟩
    ·have hne:left≠0:=by omega
     have hnx:=zD hr hok hne
     obtain⟨k1,k2,k3,k4⟩:=rS hr o3 hne
     obtain⟨K,hK⟩:∃K,iX p left=K:=⟨_,rfl⟩
     obtain⟨A,hA'⟩:∃A,dV p left=A:=⟨_,rfl⟩
     rw[hK] at k1 k3
     rw[hA'] at k2 k4 hnx
     have hAK:(al left).getD K 0=A:=by rw[<-hA',<-hK];rfl
     rcases Nat.eq_zero_or_pos m with hm0|hm0
     ·subst hm0
      have hL:L=[]:=List.length_eq_zero_iff.1 o1.symm
      subst hL
      refine br (toS (s':=⟨[(4,.ref 1 0),(6,.ref 3 0),(7,.ref 4 0),(8,.ref 5 0),(33,.fn 105 0 (nth []) 1 (nth [.ref 6 0]))],[.cells false 2 (nth [.int .i64 p.atoms,ad p.rules]),.cells false 1 (fun _=>.ow true 2 n 1),.cells false (n*1) (onC p),.cells false 1 (fun _=>.fn 82 0 (nth []) 1 (nth [.ref 1 0])),.cells false 1 (fun _=>.fz .nil 0 0 (fun _ _=>.any)),.cells false 1 (fun _=>.int .u64 left),.cells false 1 (fun _=>.int .u64 left)],g⟩) [0,1,2,3,4,5,7] 8 (hfr:=⟨Av _,Av _,Av _,Av _,Le.fn (fun i hi=>absurd hi (Nat.not_lt_zero i)) (fun i hi=>match i,hi with|0,_=>Av _),trivial⟩) (hob:=⟨⟨rfl,Nat.le_refl _,fun j hj=>match j,hj with|0,_=>Av _|1,_=>bu (by exact trivial)⟩,Ay _,Ay _,⟨rfl,Nat.le_refl _,fun j hj=>Le.fn (fun i hi=>absurd hi (Nat.not_lt_zero i)) (fun i hi=>match i,hi with|0,_=>Av _)⟩,⟨rfl,Nat.le_refl _,fun j hj=>Le.ow_nil⟩,Ay _,Ay _,trivial⟩)) ?_
      refine sO 33 [34] 6 krf rfl rfl left K o3 [.cells false 2 (nth [.int .i64 p.atoms,ad p.rules]),.cells false 1 (fun _=>.ow true 2 n 1),.cells false (n*1) (onC p),.cells false 1 (fun _=>.fn 82 0 (nth []) 1 (nth [.ref 1 0])),.cells false 1 (fun _=>.fz .nil 0 0 (fun _ _=>.any)),.cells false 1 (fun _=>.int .u64 left)] (iJ rfl rfl) rfl (by exact⟨omg,omg,omg,omg,omg,omg,omg,trivial⟩) (by exact⟨fun j hj=>(match j,hj with|0,_=>trivial|1,_=>trivial),fun _ _=>show 2<6 by omega,fun _ _=>trivial,fun _ _=>⟨trivial,trivial,show 1<6 by omega⟩,fun _ _=>trivial,fun _ _=>trivial,trivial⟩) rfl krf [4,6,7,8] (by exact⟨show 1<6 by omega,show 3<6 by omega,show 4<6 by omega,show 5<6 by omega,trivial⟩) (fun k l' hk hkN=>?_) (fun hKN l'=>?_) (fun h=>?_)
      ·obtain⟨a,ha⟩:∃a,(al left).getD k 0=a:=⟨_,rfl⟩
       have ham:a∈al left:=by rw[<-ha];exact bZ _ 0 hkN
       have han:a<n:=by rw[<-hn];exact o4 a ham
       have h3:=k3 k hk
       rw[ha] at h3 ⊢
       have hO:=fun (R:Res) [Tab LT R] (g:R.σ)=>lO R p n a hr omg omg (fun b hb=>by have:=lW hr hx (a:=a) omg omg hb;omega) g
       have hcd:=(lV (p:=p) (a:=a) (hH hr omg) o3).trans h3
       refine vcR [] (lkL [(14,[4,6,7,8,9])]) (fun _=>[]) (fun (Q:AEx->St R.σ->Prop)=>Q AEx.normal (St.mk [(4,ref 1 0),(6,ref 3 0),(7,ref 4 0),(8,ref 5 0),(9,int i64 (↑a:Int))] [cells false 2 (nth [int i64 p.atoms,ad p.rules]),cells false 1 fun (x:Nat)=>ow true 2 n 1,cells false (n*1) fun (a:Nat)=>int u64 (↑(hgP p a):Int),cells false 1 fun (x:Nat)=>fn 82 0 (nth []) 1 (nth [ref 1 0]),cells false 1 fun (x:Nat)=>fz Fz.nil 0 0 fun (x x_1:Nat)=>any,cells false 1 fun (x:Nat)=>int u64 (↑left:Int)] g)) (?_)
       show Wp _ _ _ 6 _ _ _ _ _
       refine vcR [] (lkL [(15,[4,6,7,8,9,10]),(16,[4,6,7,8,10,46]),(17,[4,6,7,8,10]),(18,[4,6,7,8])]) (lkL [(15,[(2,ROrc.kcall (int u64 (↑(az p a):Int)))]),(17,[(2,ROrc.callN (fn 105 0 (nth []) 1 (nth [ref (List.length [cells false 2 (nth [int i64 p.atoms,ad p.rules]),cells false 1 fun (x:Nat)=>ow true 2 n 1,cells false (n*1) fun (a:Nat)=>int u64 (↑(hgP p a):Int),cells false 1 fun (x:Nat)=>fn 82 0 (nth []) 1 (nth [ref 1 0]),cells false 1 fun (x:Nat)=>fz Fz.nil 0 0 fun (x x_1:Nat)=>any,cells false 1 fun (x:Nat)=>int u64 (↑left:Int)]) 0])) [] [cells false 1 fun (x:Nat)=>int u64 (↑(az p a):Int)] g),(3,ROrc.callN (ow true 7 (List.length (al (az p a))) 1) [(6,cells false 1 fun (j:Nat)=>any)] [cells false (List.length (al (az p a))*1) fun (j:Nat)=>int i64 (↑(List.getD (al (az p a)) j 0):Int)] g),(6,ROrc.val (Orc.obj (nth [ow true 9 1 1])))]),(18,[(3,ROrc.val (Orc.obj (nth [int u64 (IntKind.wrap u64 (↑(BitVec.toNat (BitVec.ofInt 64 (↑left:Int) &&& ~~~BitVec.ofInt 64 (↑(az p a):Int))):Int))])))])]) (fun Q=>(fun (u1:List AObj)=>(fun (u2:Bool)=>(fun (u3:List AObj)=>(fun (u4:AV)=>(fun (u5:AObj)=>(fun (u6:AV)=>(fun (u7:AV)=>(fun (u8:AObj)=>(fun (u9:AObj)=>(fun (u10:AV)=>(fun (u11:AObj)=>(fun (u12:Bool)=>1<=1/\(true=true/\Does Tryd.prog R 82 [int i64 (↑a:Int),ref 1 0] u1 g (ret u10) u1 g)/\u12=true/\1<=1/\(0<=(↑a:Int)/\(↑a:Int)<(↑n:Int))/\a+1<=n*1/\1<=1/\(u2=true->u12=true/\1<=1/\(true=true/\Does Tryd.prog R 77 [u10] u1 g (ret (fn 105 0 (nth []) 1 (nth [ref 6 0]))) u3 g)/\(true=true/\Does Tryd.prog R 75 [fn 105 0 (nth []) 1 (nth [ref 6 0])] u3 g (ret u7) [u11,cells false 1 fun x=>ow true 2 n 1,u9,u8,cells false 1 fun x=>u6,cells false 1 fun x=>int u64 (↑left:Int),cells false 1 fun j=>any,u5] g)/\0<1/\24<=ax/\1<=ax/\1<=1/\1<=1/\(∀(c:Nat),c<1->nth [ow true 9 1 1] c=ah (fun (x:Nat)=>u6) 0 1 (fun (x:Nat)=>ow true 9 1 1) c)/\1<=1/\1<=1/\(∀(c:Nat),c<1->nth [u4] c=ah (fun (x:Nat)=>int u64 (↑left:Int)) 0 1 (fun (x:Nat)=>u4) c)/\Q (AEx.exit 3) (St.mk [(4,ref 1 0),(6,ref 3 0),(7,ref 4 0),(8,ref 5 0)] [u11,cells false 1 fun x=>ow true 2 n 1,u9,u8,cells false 1 (nth [ow true 9 1 1]),cells false 1 (nth [u4]),cells false 1 fun j=>any,u5,cells false 1 (ah (fun (j:Nat)=>u6) 0 1 fun x=>u7),cells false 1 (aS 1 0 (fun (x x_1:Nat)=>any) fun i j=>ah (fun (j:Nat)=>u6) 0 1 (fun (x:Nat)=>u7) (0+i*1+j))] g))/\(u2=false->Q AEx.normal (St.mk [(4,ref 1 0),(6,ref 3 0),(7,ref 4 0),(8,ref 5 0),(10,u10),(46,AV.bool u2)] u1 g))) (Tables.follows Tryd.prog.toTables Departure.mixedOrders)) (cells false 2 (nth [int i64 p.atoms,ad p.rules]))) (int u64 (↑(az p a):Int))) (cells false (n*1) fun a=>int u64 (↑(hgP p a):Int))) (cells false 1 fun x=>fn 82 0 (nth []) 1 (nth [ref 1 0]))) (ow true 7 (List.length (al (az p a))) 1)) (fz Fz.nil 0 0 fun x x_1=>any)) (cells false (List.length (al (az p a))*1) fun j=>int i64 (↑(List.getD (al (az p a)) j 0):Int))) (int u64 (IntKind.wrap u64 (↑(BitVec.toNat (BitVec.ofInt 64 (↑left:Int) &&& ~~~BitVec.ofInt 64 (↑(az p a):Int))):Int)))) ([cells false 2 (nth [int i64 p.atoms,ad p.rules]),cells false 1 fun x=>ow true 2 n 1,cells false (n*1) fun a=>int u64 (↑(hgP p a):Int),cells false 1 fun x=>fn 82 0 (nth []) 1 (nth [ref 1 0]),cells false 1 fun x=>fz Fz.nil 0 0 fun x x_1=>any,cells false 1 fun x=>int u64 (↑left:Int),cells false 1 fun x=>int u64 (↑(az p a):Int)])) (IntKind.wrap u64 (↑(BitVec.toNat (BitVec.ofInt 64 (IntKind.wrap u64 (↑(BitVec.toNat (BitVec.ofInt 64 (↑(hgP p a):Int)&&&BitVec.ofInt 64 (↑left:Int))):Int)) &&& ~~~BitVec.ofInt 64 (↑(az p a):Int))):Int)==0)) ([cells false 2 (nth [int i64 p.atoms,ad p.rules]),cells false 1 fun x=>ow true 2 n 1,cells false (n*1) fun a=>int u64 (↑(hgP p a):Int),cells false 1 fun x=>fn 82 0 (nth []) 1 (nth [ref 1 0]),cells false 1 fun x=>fz Fz.nil 0 0 fun x x_1=>any,cells false 1 fun x=>int u64 (↑left:Int)])) ⟨omg,⟨rfl,(doT (T:=LT) [1,2] 6 (fun R _ g=>hO R g))⟩,krf,omg,omg,omg,omg,fun c1=>have c1:IntKind.wrap u64 (↑(BitVec.toNat (BitVec.ofInt 64 (IntKind.wrap u64 (↑(BitVec.toNat (BitVec.ofInt 64 (↑(hgP p a):Int)&&&BitVec.ofInt 64 (↑left:Int))):Int)) &&& ~~~BitVec.ofInt 64 (↑(az p a):Int))):Int)=0:=(beq_iff_eq.mp c1);⟨krf,omg,⟨rfl,(dt _ _ _ _)⟩,⟨rfl,(doT (T:=LT) [6] 7 (fun R _ g=>lI R (az p a) (by simp at * <;> omega) g))⟩,omg,omg,omg,omg,omg,(fun c hc=>match c,hc with|0,_=>krf ),omg,omg,(fun c hc=>match c,hc with|0,_=>krf ),?_⟩,fun c1=>have c1:¬IntKind.wrap u64 (↑(BitVec.toNat (BitVec.ofInt 64 (IntKind.wrap u64 (↑(BitVec.toNat (BitVec.ofInt 64 (↑(hgP p a):Int)&&&BitVec.ofInt 64 (↑left:Int))):Int)) &&& ~~~BitVec.ofInt 64 (↑(az p a):Int))):Int)=0:=(beq_eq_false_iff_ne.mp c1);?_⟩
       ·exfalso
        rename_i c0
        exact absurd (hcd.symm.trans c0) dcd
       ·refine(gn rfl (aV trivial rfl rfl))
      ·rw[hAK]
       have han:A<n:=by rw[<-hn];exact o4 A k4
       have hO:=fun (R:Res) [Tab LT R] (g:R.σ)=>lO R p n A hr omg omg (fun b hb=>by have:=lW hr hx (a:=A) omg omg hb;omega) g
       have hcd:=(lV (p:=p) (a:=A) (hH hr omg) o3).trans k2
       have hw24:=rK p A
       have hC:=fun (R:Res) [Tab LT R] (s:Nat) (hs:s<2^24) (g:R.σ)=>iW R s hs g
       refine vcR [] (lkL [(14,[4,6,7,8,9])]) (fun _=>[]) (fun (Q:AEx->St R.σ->Prop)=>Q AEx.normal (St.mk [(4,ref 1 0),(6,ref 3 0),(7,ref 4 0),(8,ref 5 0),(9,int i64 (↑A:Int))] [cells false 2 (nth [int i64 p.atoms,ad p.rules]),cells false 1 fun (x:Nat)=>ow true 2 n 1,cells false (n*1) fun (a:Nat)=>int u64 (↑(hgP p a):Int),cells false 1 fun (x:Nat)=>fn 82 0 (nth []) 1 (nth [ref 1 0]),cells false 1 fun (x:Nat)=>fz Fz.nil 0 0 fun (x x_1:Nat)=>any,cells false 1 fun (x:Nat)=>int u64 (↑left:Int),dead] g)) (?_)
       show Wp _ _ _ 7 _ _ _ _ _
       refine vcR [] (lkL [(15,[4,6,7,8,9,10]),(16,[4,6,7,8,10,46]),(17,[4,6,7,8,10]),(18,[4,6,7,8])]) (lkL [(15,[(2,ROrc.kcall (int u64 (↑(az p A):Int)))]),(17,[(2,ROrc.callN (fn 105 0 (nth []) 1 (nth [ref (List.length [cells false 2 (nth [int i64 p.atoms,ad p.rules]),cells false 1 fun (x:Nat)=>ow true 2 n 1,cells false (n*1) fun (a:Nat)=>int u64 (↑(hgP p a):Int),cells false 1 fun (x:Nat)=>fn 82 0 (nth []) 1 (nth [ref 1 0]),cells false 1 fun (x:Nat)=>fz Fz.nil 0 0 fun (x x_1:Nat)=>any,cells false 1 fun (x:Nat)=>int u64 (↑left:Int),dead]) 0])) [] [cells false 1 fun (x:Nat)=>int u64 (↑(az p A):Int)] g),(3,ROrc.callS (fz Fz.auto 1 (List.length (ag (az p A)).l) fun (i x:Nat)=>ab (ag (az p A)).l i) [(7,cells false 1 fun (j:Nat)=>any)] g),(5,ROrc.val (Orc.obj (aB ([]++[az p A])))),(6,ROrc.val (Orc.obj (nth [ow true 9 1 1])))]),(18,[(3,ROrc.val (Orc.obj (nth [int u64 (IntKind.wrap u64 (↑(BitVec.toNat (BitVec.ofInt 64 (↑left:Int) &&& ~~~BitVec.ofInt 64 (↑(az p A):Int))):Int))])))])]) (fun Q=>(fun (u1:List AObj)=>(fun (u2:Bool)=>(fun (u3:List AObj)=>(fun (u4:AV)=>(fun (u5:AV)=>(fun (u6:AV)=>(fun (u7:AObj)=>(fun (u8:AObj)=>(fun (u9:AV)=>(fun (u10:AObj)=>(fun (u11:Bool)=>1<=1/\(true=true/\Does Tryd.prog R 82 [int i64 (↑A:Int),ref 1 0] u1 g (ret u9) u1 g)/\u11=true/\1<=1/\(0<=(↑A:Int)/\(↑A:Int)<(↑n:Int))/\A+1<=n*1/\1<=1/\(u2=true->u11=true/\1<=1/\(true=true/\Does Tryd.prog R 77 [u9] u1 g (ret (fn 105 0 (nth []) 1 (nth [ref 7 0]))) u3 g)/\(true=true/\Does Tryd.prog R 75 [fn 105 0 (nth []) 1 (nth [ref 7 0])] u3 g (ret u5) [u10,cells false 1 fun x=>ow true 2 n 1,u8,u7,cells false 1 fun x=>u6,cells false 1 fun x=>int u64 (↑left:Int),dead,cells false 1 fun j=>any] g)/\0<1/\24<=ax/\1<=ax/\1<=1/\(∀(c:Nat),c<1->(fz Fz.auto 1 (List.length (ag (List.getD ([]++[az p A]) c 0)).l) fun i x=>ab (ag (List.getD ([]++[az p A]) c 0)).l i)=aS 1 0 (fun (x x_1:Nat)=>any) (fun (i j:Nat)=>ah (fun (j:Nat)=>u6) 0 1 (fun (x:Nat)=>u5) (0+i*1+j)) c)/\1<=1/\(∀(c:Nat),c<1->nth [ow true 9 1 1] c=ah (fun (x:Nat)=>u6) 0 1 (fun (x:Nat)=>ow true 9 1 1) c)/\1<=1/\1<=1/\(∀(c:Nat),c<1->nth [u4] c=ah (fun (x:Nat)=>int u64 (↑left:Int)) 0 1 (fun (x:Nat)=>u4) c)/\Q (AEx.exit 3) (St.mk [(4,ref 1 0),(6,ref 3 0),(7,ref 4 0),(8,ref 5 0)] [u10,cells false 1 fun x=>ow true 2 n 1,u8,u7,cells false 1 (nth [ow true 9 1 1]),cells false 1 (nth [u4]),dead,cells false 1 fun j=>any,cells false 1 (ah (fun (j:Nat)=>u6) 0 1 fun x=>u5),cells false 1 fun a=>fz Fz.auto 1 (List.length (ag (List.getD ([]++[az p A]) a 0)).l) fun i x=>ab (ag (List.getD ([]++[az p A]) a 0)).l i] g))/\(u2=false->Q AEx.normal (St.mk [(4,ref 1 0),(6,ref 3 0),(7,ref 4 0),(8,ref 5 0),(10,u9),(46,AV.bool u2)] u1 g))) (Tables.follows Tryd.prog.toTables Departure.mixedOrders)) (cells false 2 (nth [int i64 p.atoms,ad p.rules]))) (int u64 (↑(az p A):Int))) (cells false (n*1) fun a=>int u64 (↑(hgP p a):Int))) (cells false 1 fun x=>fn 82 0 (nth []) 1 (nth [ref 1 0]))) (fz Fz.nil 0 0 fun x x_1=>any)) (fz Fz.auto 1 (List.length (ag (az p A)).l) fun i x=>ab (ag (az p A)).l i)) (int u64 (IntKind.wrap u64 (↑(BitVec.toNat (BitVec.ofInt 64 (↑left:Int) &&& ~~~BitVec.ofInt 64 (↑(az p A):Int))):Int)))) ([cells false 2 (nth [int i64 p.atoms,ad p.rules]),cells false 1 fun x=>ow true 2 n 1,cells false (n*1) fun a=>int u64 (↑(hgP p a):Int),cells false 1 fun x=>fn 82 0 (nth []) 1 (nth [ref 1 0]),cells false 1 fun x=>fz Fz.nil 0 0 fun x x_1=>any,cells false 1 fun x=>int u64 (↑left:Int),dead,cells false 1 fun x=>int u64 (↑(az p A):Int)])) (IntKind.wrap u64 (↑(BitVec.toNat (BitVec.ofInt 64 (IntKind.wrap u64 (↑(BitVec.toNat (BitVec.ofInt 64 (↑(hgP p A):Int)&&&BitVec.ofInt 64 (↑left:Int))):Int)) &&& ~~~BitVec.ofInt 64 (↑(az p A):Int))):Int)==0)) ([cells false 2 (nth [int i64 p.atoms,ad p.rules]),cells false 1 fun x=>ow true 2 n 1,cells false (n*1) fun a=>int u64 (↑(hgP p a):Int),cells false 1 fun x=>fn 82 0 (nth []) 1 (nth [ref 1 0]),cells false 1 fun x=>fz Fz.nil 0 0 fun x x_1=>any,cells false 1 fun x=>int u64 (↑left:Int),dead])) ⟨omg,⟨rfl,(doT (T:=LT) [1,2] 7 (fun R _ g=>hO R g))⟩,krf,omg,omg,omg,omg,fun c1=>have c1:IntKind.wrap u64 (↑(BitVec.toNat (BitVec.ofInt 64 (IntKind.wrap u64 (↑(BitVec.toNat (BitVec.ofInt 64 (↑(hgP p A):Int)&&&BitVec.ofInt 64 (↑left:Int))):Int)) &&& ~~~BitVec.ofInt 64 (↑(az p A):Int))):Int)=0:=(beq_iff_eq.mp c1);⟨krf,omg,⟨rfl,(dt _ _ _ _)⟩,⟨rfl,(doT (T:=LT) [7] 8 (fun R _ g=>hC R (az p A) omg g))⟩,omg,omg,omg,omg,?_,omg,(fun c hc=>match c,hc with|0,_=>krf ),omg,omg,(fun c hc=>match c,hc with|0,_=>krf ),?_⟩,fun c1=>have c1:¬IntKind.wrap u64 (↑(BitVec.toNat (BitVec.ofInt 64 (IntKind.wrap u64 (↑(BitVec.toNat (BitVec.ofInt 64 (↑(hgP p A):Int)&&&BitVec.ofInt 64 (↑left:Int))):Int)) &&& ~~~BitVec.ofInt 64 (↑(az p A):Int))):Int)=0:=(beq_eq_false_iff_ne.mp c1);?_⟩
       ·exact fun c hc=>(iZ (L:=[]) (m:=0) (z:=fun _=>.fz .nil 0 0 (fun _ _=>.any)) (old:=fun _ _=>.any) (by assumption) (fun i hi=>absurd hi (Nat.not_lt_zero i)) hc).trans krf
       ·show Cl R 0 (gi _ _) AEx.normal _
        refine(aL (0+1,[]++[az p A],dJ left (az p A)) (toS [0,1,2,3,4,5,9] 10 (hob:=⟨⟨rfl,Nat.le_refl _,fun j hj=>match j,hj with|0,_=>(Av _)|1,_=>(Av _) ⟩,⟨rfl,Nat.le_refl _,fun j hj=>match j,hj with|0,_=>(Av _) ⟩,?_,⟨rfl,Nat.le_refl _,fun j hj=>match j,hj with|0,_=>(Le.fn (fun i hi=>absurd hi omg) (fun i hi=>match i,hi with|0,_=>(Av _) )) ⟩,⟨rfl,Nat.le_refl _,fun j hj=>match j,hj with|0,_=>(Av _) ⟩,⟨rfl,Nat.le_refl _,fun j hj=>match j,hj with|0,_=>(Aw ?_) ⟩,⟨rfl,Nat.le_refl _,fun j hj=>match j,hj with|0,_=>(Av _) ⟩,trivial⟩)) ?_ ?_)
        ·exact⟨rfl,Nat.le_refl _,fun j _=>Aw rfl⟩
        ·show AV.int .u64 _=AV.int .u64 _
         rw[ot o3]
        ·exact hnx.1
        ·exact hnx.2
       ·exfalso
        rename_i c0
        exact absurd (hcd.symm.trans c0) dcd
      ·exact absurd k1 omg
     ·refine sO 33 [34] 7 krf rfl rfl left K o3 [.cells false 2 (nth [.int .i64 p.atoms,ad p.rules]),.cells false 1 (fun _=>.ow true 2 n 1),.cells false (n*1) (onC p),.cells false 1 (fun _=>.fn 82 0 (nth []) 1 (nth [.ref 1 0])),.cells false 1 (fun _=>.ow true 6 m 1),.cells false 1 (fun _=>.int .u64 left),.cells false (m*1) (aB L)] (iJ rfl rfl) rfl (by exact⟨omg,omg,omg,omg,omg,omg,omg,omg,trivial⟩) (by exact⟨fun j hj=>(match j,hj with|0,_=>trivial|1,_=>trivial),fun _ _=>show 2<7 by omega,fun _ _=>trivial,fun _ _=>⟨trivial,trivial,show 1<7 by omega⟩,fun _ _=>show 6<7 by omega,fun _ _=>trivial,fun _ _=>trivial,trivial⟩) rfl krf [4,6,7,8] (by exact⟨show 1<7 by omega,show 3<7 by omega,show 4<7 by omega,show 5<7 by omega,trivial⟩) (fun k l' hk hkN=>?_) (fun hKN l'=>?_) (fun h=>?_)
      ·obtain⟨a,ha⟩:∃a,(al left).getD k 0=a:=⟨_,rfl⟩
       have ham:a∈al left:=by rw[<-ha];exact bZ _ 0 hkN
       have han:a<n:=by rw[<-hn];exact o4 a ham
       have h3:=k3 k hk
       rw[ha] at h3 ⊢
       have hO:=fun (R:Res) [Tab LT R] (g:R.σ)=>lO R p n a hr omg omg (fun b hb=>by have:=lW hr hx (a:=a) omg omg hb;omega) g
       have hcd:=(lV (p:=p) (a:=a) (hH hr omg) o3).trans h3
       refine vcR [] (lkL [(14,[4,6,7,8,9])]) (fun _=>[]) (fun (Q:AEx->St R.σ->Prop)=>Q AEx.normal (St.mk [(4,ref 1 0),(6,ref 3 0),(7,ref 4 0),(8,ref 5 0),(9,int i64 (↑a:Int))] [cells false 2 (nth [int i64 p.atoms,ad p.rules]),cells false 1 fun (x:Nat)=>ow true 2 n 1,cells false (n*1) fun (a:Nat)=>int u64 (↑(hgP p a):Int),cells false 1 fun (x:Nat)=>fn 82 0 (nth []) 1 (nth [ref 1 0]),cells false 1 fun (x:Nat)=>ow true 6 m 1,cells false 1 fun (x:Nat)=>int u64 (↑left:Int),cells false (m*1) fun (a:Nat)=>fz Fz.auto 1 (List.length (ag (List.getD L a 0)).l) fun (i x:Nat)=>ab (ag (List.getD L a 0)).l i] g)) (?_)
       show Wp _ _ _ 7 _ _ _ _ _
       refine vcR [] (lkL [(15,[4,6,7,8,9,10]),(16,[4,6,7,8,10,46]),(17,[4,6,7,8,10]),(18,[4,6,7,8])]) (lkL [(15,[(2,ROrc.kcall (int u64 (↑(az p a):Int)))]),(17,[(2,ROrc.callN (fn 105 0 (nth []) 1 (nth [ref (List.length [cells false 2 (nth [int i64 p.atoms,ad p.rules]),cells false 1 fun (x:Nat)=>ow true 2 n 1,cells false (n*1) fun (a:Nat)=>int u64 (↑(hgP p a):Int),cells false 1 fun (x:Nat)=>fn 82 0 (nth []) 1 (nth [ref 1 0]),cells false 1 fun (x:Nat)=>ow true 6 m 1,cells false 1 fun (x:Nat)=>int u64 (↑left:Int),cells false (m*1) fun (a:Nat)=>fz Fz.auto 1 (List.length (ag (List.getD L a 0)).l) fun (i x:Nat)=>ab (ag (List.getD L a 0)).l i]) 0])) [] [cells false 1 fun (x:Nat)=>int u64 (↑(az p a):Int)] g),(3,ROrc.callN (ow true 8 (List.length (al (az p a))) 1) [(7,cells false 1 fun (j:Nat)=>any)] [cells false (List.length (al (az p a))*1) fun (j:Nat)=>int i64 (↑(List.getD (al (az p a)) j 0):Int)] g),(6,ROrc.val (Orc.obj (nth [ow true 10 (m+1) 1])))]),(18,[(3,ROrc.val (Orc.obj (nth [int u64 (IntKind.wrap u64 (↑(BitVec.toNat (BitVec.ofInt 64 (↑left:Int) &&& ~~~BitVec.ofInt 64 (↑(az p a):Int))):Int))])))])]) (fun Q=>(fun (u1:List AObj)=>(fun (u2:List AObj)=>(fun (u3:Bool)=>(fun (u4:AV)=>(fun (u5:AObj)=>(fun (u6:AV)=>(fun (u7:AObj)=>(fun (u8:AObj)=>(fun (u9:AV)=>(fun (u10:AObj)=>(fun (u11:Bool)=>1<=1/\(true=true/\Does Tryd.prog R 82 [int i64 (↑a:Int),ref 1 0] u1 g (ret u9) u1 g)/\u11=true/\1<=1/\(0<=(↑a:Int)/\(↑a:Int)<(↑n:Int))/\a+1<=n*1/\1<=1/\(u3=true->u11=true/\1<=1/\(true=true/\Does Tryd.prog R 77 [u9] u1 g (ret (fn 105 0 (nth []) 1 (nth [ref 7 0]))) u2 g)/\(true=true/\Does Tryd.prog R 75 [fn 105 0 (nth []) 1 (nth [ref 7 0])] u2 g (ret u6) [u10,cells false 1 fun x=>ow true 2 n 1,u8,u7,cells false 1 fun x=>ow true 6 m 1,cells false 1 fun x=>int u64 (↑left:Int),cells false (m*1) fun a=>fz Fz.auto 1 (List.length (ag (List.getD L a 0)).l) fun i x=>ab (ag (List.getD L a 0)).l i,cells false 1 fun j=>any,u5] g)/\0<1/\(m+1)*24<=ax/\m+1<=ax/\1<=1/\m*1<=m*1/\1<=1/\(∀(c:Nat),c<1->nth [ow true 10 (m+1) 1] c=ah (fun (x:Nat)=>ow true 6 m 1) 0 1 (fun (x:Nat)=>ow true 10 (m+1) 1) c)/\1<=1/\1<=1/\(∀(c:Nat),c<1->nth [u4] c=ah (fun (x:Nat)=>int u64 (↑left:Int)) 0 1 (fun (x:Nat)=>u4) c)/\Q (AEx.exit 3) (St.mk [(4,ref 1 0),(6,ref 3 0),(7,ref 4 0),(8,ref 5 0)] [u10,cells false 1 fun x=>ow true 2 n 1,u8,u7,cells false 1 (nth [ow true 10 (m+1) 1]),cells false 1 (nth [u4]),dead,cells false 1 fun j=>any,u5,cells false 1 (ah (fun (j:Nat)=>fz Fz.nil 0 0 fun x x_1=>any) 0 1 fun x=>u6),cells false ((m+1)*1) (aS 1 m (fun (i j:Nat)=>fz Fz.auto 1 (List.length (ag (List.getD L (i*1+j) 0)).l) fun i_1 x=>ab (ag (List.getD L (i*1+j) 0)).l i_1) fun i j=>ah (fun (j:Nat)=>fz Fz.nil 0 0 fun x x_1=>any) 0 1 (fun (x:Nat)=>u6) (0+i*1+j))] g))/\(u3=false->Q AEx.normal (St.mk [(4,ref 1 0),(6,ref 3 0),(7,ref 4 0),(8,ref 5 0),(10,u9),(46,AV.bool u3)] u1 g))) (Tables.follows Tryd.prog.toTables Departure.mixedOrders)) (cells false 2 (nth [int i64 p.atoms,ad p.rules]))) (int u64 (↑(az p a):Int))) (cells false (n*1) fun a=>int u64 (↑(hgP p a):Int))) (cells false 1 fun x=>fn 82 0 (nth []) 1 (nth [ref 1 0]))) (ow true 8 (List.length (al (az p a))) 1)) (cells false (List.length (al (az p a))*1) fun j=>int i64 (↑(List.getD (al (az p a)) j 0):Int))) (int u64 (IntKind.wrap u64 (↑(BitVec.toNat (BitVec.ofInt 64 (↑left:Int) &&& ~~~BitVec.ofInt 64 (↑(az p a):Int))):Int)))) (IntKind.wrap u64 (↑(BitVec.toNat (BitVec.ofInt 64 (IntKind.wrap u64 (↑(BitVec.toNat (BitVec.ofInt 64 (↑(hgP p a):Int)&&&BitVec.ofInt 64 (↑left:Int))):Int)) &&& ~~~BitVec.ofInt 64 (↑(az p a):Int))):Int)==0)) ([cells false 2 (nth [int i64 p.atoms,ad p.rules]),cells false 1 fun x=>ow true 2 n 1,cells false (n*1) fun a=>int u64 (↑(hgP p a):Int),cells false 1 fun x=>fn 82 0 (nth []) 1 (nth [ref 1 0]),cells false 1 fun x=>ow true 6 m 1,cells false 1 fun x=>int u64 (↑left:Int),cells false (m*1) fun a=>fz Fz.auto 1 (List.length (ag (List.getD L a 0)).l) fun i x=>ab (ag (List.getD L a 0)).l i,cells false 1 fun x=>int u64 (↑(az p a):Int)])) ([cells false 2 (nth [int i64 p.atoms,ad p.rules]),cells false 1 fun x=>ow true 2 n 1,cells false (n*1) fun a=>int u64 (↑(hgP p a):Int),cells false 1 fun x=>fn 82 0 (nth []) 1 (nth [ref 1 0]),cells false 1 fun x=>ow true 6 m 1,cells false 1 fun x=>int u64 (↑left:Int),cells false (m*1) fun a=>fz Fz.auto 1 (List.length (ag (List.getD L a 0)).l) fun i x=>ab (ag (List.getD L a 0)).l i])) ⟨omg,⟨rfl,(doT (T:=LT) [1,2] 7 (fun R _ g=>hO R g))⟩,krf,omg,omg,omg,omg,fun c1=>have c1:IntKind.wrap u64 (↑(BitVec.toNat (BitVec.ofInt 64 (IntKind.wrap u64 (↑(BitVec.toNat (BitVec.ofInt 64 (↑(hgP p a):Int)&&&BitVec.ofInt 64 (↑left:Int))):Int)) &&& ~~~BitVec.ofInt 64 (↑(az p a):Int))):Int)=0:=(beq_iff_eq.mp c1);⟨krf,omg,⟨rfl,(dt _ _ _ _)⟩,⟨rfl,(doT (T:=LT) [7] 8 (fun R _ g=>lI R (az p a) (by simp at * <;> omega) g) (e3:=by exact⟨Ax,Ax,Ax,Ax,Ax,Ax,Ax,Ax,Ax,trivial⟩))⟩,omg,omg,omg,omg,omg,omg,(fun c hc=>match c,hc with|0,_=>krf ),omg,omg,(fun c hc=>match c,hc with|0,_=>krf ),?_⟩,fun c1=>have c1:¬IntKind.wrap u64 (↑(BitVec.toNat (BitVec.ofInt 64 (IntKind.wrap u64 (↑(BitVec.toNat (BitVec.ofInt 64 (↑(hgP p a):Int)&&&BitVec.ofInt 64 (↑left:Int))):Int)) &&& ~~~BitVec.ofInt 64 (↑(az p a):Int))):Int)=0:=(beq_eq_false_iff_ne.mp c1);?_⟩
       ·exfalso
        rename_i c0
        exact absurd (hcd.symm.trans c0) dcd
       ·refine(gn rfl (aV trivial rfl rfl))
      ·rw[hAK]
       have han:A<n:=by rw[<-hn];exact o4 A k4
       have hO:=fun (R:Res) [Tab LT R] (g:R.σ)=>lO R p n A hr omg omg (fun b hb=>by have:=lW hr hx (a:=A) omg omg hb;omega) g
       have hcd:=(lV (p:=p) (a:=A) (hH hr omg) o3).trans k2
       have hw24:=rK p A
       have hC:=fun (R:Res) [Tab LT R] (s:Nat) (hs:s<2^24) (g:R.σ)=>iW R s hs g
       refine vcR [] (lkL [(14,[4,6,7,8,9])]) (fun _=>[]) (fun (Q:AEx->St R.σ->Prop)=>Q AEx.normal (St.mk [(4,ref 1 0),(6,ref 3 0),(7,ref 4 0),(8,ref 5 0),(9,int i64 (↑A:Int))] [cells false 2 (nth [int i64 p.atoms,ad p.rules]),cells false 1 fun (x:Nat)=>ow true 2 n 1,cells false (n*1) fun (a:Nat)=>int u64 (↑(hgP p a):Int),cells false 1 fun (x:Nat)=>fn 82 0 (nth []) 1 (nth [ref 1 0]),cells false 1 fun (x:Nat)=>ow true 6 m 1,cells false 1 fun (x:Nat)=>int u64 (↑left:Int),cells false (m*1) fun (a:Nat)=>fz Fz.auto 1 (List.length (ag (List.getD L a 0)).l) fun (i x:Nat)=>ab (ag (List.getD L a 0)).l i,dead] g)) (?_)
       show Wp _ _ _ 8 _ _ _ _ _
       refine vcR [] (lkL [(15,[4,6,7,8,9,10]),(16,[4,6,7,8,10,46]),(17,[4,6,7,8,10]),(18,[4,6,7,8])]) (lkL [(15,[(2,ROrc.kcall (int u64 (↑(az p A):Int)))]),(17,[(2,ROrc.callN (fn 105 0 (nth []) 1 (nth [ref (List.length [cells false 2 (nth [int i64 p.atoms,ad p.rules]),cells false 1 fun (x:Nat)=>ow true 2 n 1,cells false (n*1) fun (a:Nat)=>int u64 (↑(hgP p a):Int),cells false 1 fun (x:Nat)=>fn 82 0 (nth []) 1 (nth [ref 1 0]),cells false 1 fun (x:Nat)=>ow true 6 m 1,cells false 1 fun (x:Nat)=>int u64 (↑left:Int),cells false (m*1) fun (a:Nat)=>fz Fz.auto 1 (List.length (ag (List.getD L a 0)).l) fun (i x:Nat)=>ab (ag (List.getD L a 0)).l i,dead]) 0])) [] [cells false 1 fun (x:Nat)=>int u64 (↑(az p A):Int)] g),(3,ROrc.callS (fz Fz.auto 1 (List.length (ag (az p A)).l) fun (i x:Nat)=>ab (ag (az p A)).l i) [(8,cells false 1 fun (j:Nat)=>any)] g),(5,ROrc.val (Orc.obj (aB (L++[az p A])))),(6,ROrc.val (Orc.obj (nth [ow true 10 (m+1) 1])))]),(18,[(3,ROrc.val (Orc.obj (nth [int u64 (IntKind.wrap u64 (↑(BitVec.toNat (BitVec.ofInt 64 (↑left:Int) &&& ~~~BitVec.ofInt 64 (↑(az p A):Int))):Int))])))])]) (fun Q=>(fun (u1:List AObj)=>(fun (u2:List AObj)=>(fun (u3:Bool)=>(fun (u4:AV)=>(fun (u5:AV)=>(fun (u6:AObj)=>(fun (u7:AObj)=>(fun (u8:AV)=>(fun (u9:AObj)=>1<=1/\(true=true/\Does Tryd.prog R 82 [int i64 (↑A:Int),ref 1 0] u1 g (ret u8) u1 g)/\Flw Tryd.prog/\1<=1/\(0<=(↑A:Int)/\(↑A:Int)<(↑n:Int))/\A+1<=n*1/\1<=1/\(u3=true->Flw Tryd.prog/\1<=1/\(true=true/\Does Tryd.prog R 77 [u8] u1 g (ret (fn 105 0 (nth []) 1 (nth [ref 8 0]))) u2 g)/\(true=true/\Does Tryd.prog R 75 [fn 105 0 (nth []) 1 (nth [ref 8 0])] u2 g (ret u5) [u9,cells false 1 fun x=>ow true 2 n 1,u7,u6,cells false 1 fun x=>ow true 6 m 1,cells false 1 fun x=>int u64 (↑left:Int),cells false (m*1) fun a=>fz Fz.auto 1 (List.length (ag (List.getD L a 0)).l) fun i x=>ab (ag (List.getD L a 0)).l i,dead,cells false 1 fun j=>any] g)/\0<1/\(m+1)*24<=ax/\m+1<=ax/\1<=1/\m*1<=m*1/\(∀(c:Nat),c<(m+1)*1->(fz Fz.auto 1 (List.length (ag (List.getD (L++[az p A]) c 0)).l) fun i x=>ab (ag (List.getD (L++[az p A]) c 0)).l i)=aS 1 m (fun (i j:Nat)=>fz Fz.auto 1 (List.length (ag (List.getD L (i*1+j) 0)).l) fun i_1 x=>ab (ag (List.getD L (i*1+j) 0)).l i_1) (fun (i j:Nat)=>ah (fun (j:Nat)=>fz Fz.nil 0 0 fun x x_1=>any) 0 1 (fun (x:Nat)=>u5) (0+i*1+j)) c)/\1<=1/\(∀(c:Nat),c<1->nth [ow true 10 (m+1) 1] c=ah (fun (x:Nat)=>ow true 6 m 1) 0 1 (fun (x:Nat)=>ow true 10 (m+1) 1) c)/\1<=1/\1<=1/\(∀(c:Nat),c<1->nth [u4] c=ah (fun (x:Nat)=>int u64 (↑left:Int)) 0 1 (fun (x:Nat)=>u4) c)/\Q (AEx.exit 3) (St.mk [(4,ref 1 0),(6,ref 3 0),(7,ref 4 0),(8,ref 5 0)] [u9,cells false 1 fun x=>ow true 2 n 1,u7,u6,cells false 1 (nth [ow true 10 (m+1) 1]),cells false 1 (nth [u4]),dead,dead,cells false 1 fun j=>any,cells false 1 (ah (fun (j:Nat)=>fz Fz.nil 0 0 fun x x_1=>any) 0 1 fun x=>u5),cells false ((m+1)*1) fun a=>fz Fz.auto 1 (List.length (ag (List.getD (L++[az p A]) a 0)).l) fun i x=>ab (ag (List.getD (L++[az p A]) a 0)).l i] g))/\(u3=false->Q AEx.normal (St.mk [(4,ref 1 0),(6,ref 3 0),(7,ref 4 0),(8,ref 5 0),(10,u8),(46,AV.bool u3)] u1 g))) (cells false 2 (nth [int i64 p.atoms,ad p.rules]))) (int u64 (↑(az p A):Int))) (cells false (n*1) fun a=>int u64 (↑(hgP p a):Int))) (cells false 1 fun x=>fn 82 0 (nth []) 1 (nth [ref 1 0]))) (fz Fz.auto 1 (List.length (ag (az p A)).l) fun i x=>ab (ag (az p A)).l i)) (int u64 (IntKind.wrap u64 (↑(BitVec.toNat (BitVec.ofInt 64 (↑left:Int) &&& ~~~BitVec.ofInt 64 (↑(az p A):Int))):Int)))) (IntKind.wrap u64 (↑(BitVec.toNat (BitVec.ofInt 64 (IntKind.wrap u64 (↑(BitVec.toNat (BitVec.ofInt 64 (↑(hgP p A):Int)&&&BitVec.ofInt 64 (↑left:Int))):Int)) &&& ~~~BitVec.ofInt 64 (↑(az p A):Int))):Int)==0)) ([cells false 2 (nth [int i64 p.atoms,ad p.rules]),cells false 1 fun x=>ow true 2 n 1,cells false (n*1) fun a=>int u64 (↑(hgP p a):Int),cells false 1 fun x=>fn 82 0 (nth []) 1 (nth [ref 1 0]),cells false 1 fun x=>ow true 6 m 1,cells false 1 fun x=>int u64 (↑left:Int),cells false (m*1) fun a=>fz Fz.auto 1 (List.length (ag (List.getD L a 0)).l) fun i x=>ab (ag (List.getD L a 0)).l i,dead,cells false 1 fun x=>int u64 (↑(az p A):Int)])) ([cells false 2 (nth [int i64 p.atoms,ad p.rules]),cells false 1 fun x=>ow true 2 n 1,cells false (n*1) fun a=>int u64 (↑(hgP p a):Int),cells false 1 fun x=>fn 82 0 (nth []) 1 (nth [ref 1 0]),cells false 1 fun x=>ow true 6 m 1,cells false 1 fun x=>int u64 (↑left:Int),cells false (m*1) fun a=>fz Fz.auto 1 (List.length (ag (List.getD L a 0)).l) fun i x=>ab (ag (List.getD L a 0)).l i,dead])) ⟨omg,⟨rfl,(doT (T:=LT) [1,2] 8 (fun R _ g=>hO R g))⟩,krf,omg,omg,omg,omg,fun c1=>have c1:IntKind.wrap u64 (↑(BitVec.toNat (BitVec.ofInt 64 (IntKind.wrap u64 (↑(BitVec.toNat (BitVec.ofInt 64 (↑(hgP p A):Int)&&&BitVec.ofInt 64 (↑left:Int))):Int)) &&& ~~~BitVec.ofInt 64 (↑(az p A):Int))):Int)=0:=(beq_iff_eq.mp c1);⟨krf,omg,⟨rfl,(dt _ _ _ _)⟩,⟨rfl,(doT (T:=LT) [8] 9 (fun R _ g=>hC R (az p A) omg g))⟩,omg,omg,omg,omg,omg,?_,omg,(fun c hc=>match c,hc with|0,_=>krf ),omg,omg,(fun c hc=>match c,hc with|0,_=>krf ),?_⟩,fun c1=>have c1:¬IntKind.wrap u64 (↑(BitVec.toNat (BitVec.ofInt 64 (IntKind.wrap u64 (↑(BitVec.toNat (BitVec.ofInt 64 (↑(hgP p A):Int)&&&BitVec.ofInt 64 (↑left:Int))):Int)) &&& ~~~BitVec.ofInt 64 (↑(az p A):Int))):Int)=0:=(beq_eq_false_iff_ne.mp c1);?_⟩
       ·exact fun c hc=>(iZ (L:=L) (m:=m) (z:=fun _=>.fz .nil 0 0 (fun _ _=>.any)) (old:=fun i j=>aB L (i*1+j)) (by assumption) (fun i hi=>by show aB L (i*1+0)=aB L i;rw[show i*1+0=i by omega]) hc).trans krf
       ·show Cl R 0 (gi _ _) AEx.normal _
        refine(aL (m+1,L++[az p A],dJ left (az p A)) (toS [0,1,2,3,4,5,10] 11 (hob:=⟨⟨rfl,Nat.le_refl _,fun j hj=>match j,hj with|0,_=>(Av _)|1,_=>(Av _) ⟩,⟨rfl,Nat.le_refl _,fun j hj=>match j,hj with|0,_=>(Av _) ⟩,?_,⟨rfl,Nat.le_refl _,fun j hj=>match j,hj with|0,_=>(Le.fn (fun i hi=>absurd hi omg) (fun i hi=>match i,hi with|0,_=>(Av _) )) ⟩,⟨rfl,Nat.le_refl _,fun j hj=>match j,hj with|0,_=>(Av _) ⟩,⟨rfl,Nat.le_refl _,fun j hj=>match j,hj with|0,_=>(Aw ?_) ⟩,?_,trivial⟩)) ?_ ?_)
        ·exact⟨rfl,Nat.le_refl _,fun j _=>Aw rfl⟩
        ·show AV.int .u64 _=AV.int .u64 _
         rw[ot o3]
        ·exact⟨rfl,Nat.le_refl _,fun j _=>Aw rfl⟩
        ·exact hnx.1
        ·exact hnx.2
       ·exfalso
        rename_i c0
        exact absurd (hcd.symm.trans c0) dcd
      ·exact absurd k1 omg
    ·have hl0:left=0:=by omega
     subst hl0
     have hLo:L=cD p:=by
      obtain⟨f,f1,f2⟩:=o5
      obtain⟨f,rfl⟩:∃k,f=k+1:=⟨f-1,omg⟩
      rw[<-f2]
      show L=L++(if (0:Nat)=0 then[] else _)
      rw[if_pos rfl,List.append_nil]
     subst hLo
     subst o1
     refine⟨_,AH _,vcR [] (lkL [(19,[2,3])]) (fun _=>[]) (fun Q=>1<=1/\Q AEx.ret (St.mk [(2,ow true 6 (List.length (cD p)) 1),(3,int i64 0)] [cells false 2 (nth [int i64 p.atoms,ad p.rules]),cells false 1 fun x=>ow true 2 n 1,cells false (n*1) fun a=>int u64 (↑(hgP p a):Int),cells false 1 fun x=>fn 82 0 (nth []) 1 (nth [ref 1 0]),cells false 1 fun x=>ow true 6 (List.length (cD p)) 1,cells false 1 fun x=>int u64 (↑0:Int),cells false (List.length (cD p)*1) fun a=>fz Fz.auto 1 (List.length (ag (List.getD (cD p) a 0)).l) fun i x=>ab (ag (List.getD (cD p) a 0)).l i] g)) ⟨omg,?_⟩⟩
     show a9 Tryd.prog R 0 _ _ _ _ .ret _
     refine bY (.tup 2 (nth [.ow true 6 (cD p).length 1,.int .i64 0])) _ rfl trivial (fo 0 [(0,.tup 2 (nth [bo (cD p).length (fun i=>ag ((cD p).getD i 0)),.int .i64 0]))] (Nat.le_refl _) (Nat.zero_le _) (fun i hi=>absurd hi (Nat.not_lt_zero i)) ⟨aq.tup (fun j hj=>?_),trivial⟩)
     match j,hj with
     |0,_=>exact aq.le (aq.ow (o:=6) (N:=(cD p).length*1) (c:=aB (cD p)) (get:=aB (cD p)) (fr:=false) rfl (Nat.zero_le _) (Nat.le_refl _) dcd (fun j _=>AC (dp _ _))) (AB rfl (fun i j hi hj=>by
       show aB (cD p) (i*1+j)=_
       rw[show i*1+j=i by omega]
       rfl))
     |1,_=>exact AC trivial
end Go.Avm.Pack
namespace Go.Avm.Pack
open Go Go.Avm Go.Proofs
open Go.IntKind (i64 u64)
open Go.Avm.AV (int bool any fz fp sl ow ref fn ifc val agg tup)
open Go.Avm.AObj (cells dead)
open Go.Avm.Oc (ret)
set_option maxRecDepth 4000
theorem j9 (R:Res)(v:Nat->Int)(n:Int)(x:Int)(h:0<=n/\n<=24)(g:R.σ):Does Tryd.prog R 76 [.ref 0 2,.int .i64 n,.int .i64 x] [.cells false 27 (aI v)] g (.ret (.int .u64 (aF v x n.toNat))) [.cells false 27 (aI v)] g:=by
 obtain⟨n,rfl⟩:∃m:Nat,n=m:=⟨n.toNat,omg⟩
 rw[Int.toNat_natCast]
 refine spW (nt:=26) (rs:=[.tmp 6]) (k0:=1) ?_
 refine vcR [] (lkL [(0,[0,1,2]),(1,[0,1,2,7]),(2,[0,2,7,9,10])]) (fun _=>[]) (fun (Q:AEx->St R.σ->Prop)=>WpC Tryd.prog R 26 1 76 [1,1,0,1,0] Q [Kont.blk 0,Kont.seq [1,1,1]] (St.mk [(0,ref 0 2),(2,int i64 x),(7,int u64 0),(9,int i64 (↑n:Int)),(10,int i64 0)] [cells false 27 (aI v)] g)) (?_)
 refine(aZ krf (fun (k:Nat)=>⟨[(0,ref 0 2),(2,int i64 x),(7,.int .u64 (aF v x k)),(9,int i64 (n:Int)),(10,.int .i64 k)],[cells false 27 (aI v)],g⟩) (fun (k:Nat)=>(k<=n)) (fun (k:Nat)=>(n-k)) 0 (aV ⟨Av _,Av _,(Aw krf),Av _,(Aw krf),trivial⟩ rfl rfl) ?_ (fun k hi=>?_))
 ·omega
 ·refine vcR [] (lkL [(3,[0,2,7,9,10,11]),(4,[0,2,7,8,9,10]),(5,[0,2,7,8,9,10,19]),(6,[0,2,7,9,10]),(7,[0,2,7,9,10])]) (lkL [(5,[(4,ROrc.kop (int i64 (v k)))]),(6,[(2,ROrc.pcall (int u64 (↑(2^k):Int)))])]) (fun Q=>(fun (u1:Int)=>(fun (u2:Int)=>(fun (u3:List AObj)=>(fun (u4:Int)=>(decide (u1<u2)=true->(0<=u1/\u1<(↑24:Int))/\OpOk Tryd.prog R (Oper.mk (some 17) (Op.load 43 (Operand.tmp 16)) 43 "table.go:67" #[Edge.mk 3 Ground.data] none) (evO [Row.mk (some 16) none (ref 0 (k+2)) false (some []) [],Row.mk (some 15) none (ref 0 2) false (some []) [],Row.mk (some 14) none (int i64 u1) false (some []) [],Row.mk (some 13) none (ref 0 2) false (some []) []] [(0,ref 0 2),(2,int i64 x),(7,int u64 u4),(8,int i64 u1),(9,int i64 u2),(10,int i64 u1)] []) u3 g (int i64 (v k)) u3 g/\((v k==x)=true->(∀(hp:List AObj) (g:R.σ),true=true/\Does Tryd.prog R 79 [int i64 u1] hp g (ret (int u64 (↑(2^k):Int))) hp g)/\(-9223372036854775808<=u1+1/\u1+1<=9223372036854775807)/\Q AEx.normal (St.mk [(0,ref 0 2),(2,int i64 x),(7,int u64 (IntKind.wrap u64 (↑(BitVec.toNat (BitVec.ofInt 64 u4|||BitVec.ofInt 64 (↑(2^k):Int))):Int))),(9,int i64 u2),(10,int i64 (u1+1))] u3 g))/\((v k==x)=false->(-9223372036854775808<=u1+1/\u1+1<=9223372036854775807)/\Q AEx.normal (St.mk [(0,ref 0 2),(2,int i64 x),(7,int u64 u4),(9,int i64 u2),(10,int i64 (u1+1))] u3 g)))/\(decide (u1<u2)=false->Q (AEx.exit 0) (St.mk [(0,ref 0 2),(2,int i64 x),(7,int u64 u4),(9,int i64 u2),(10,int i64 u1),(11,AV.bool (decide (u1<u2)))] u3 g))) ((↑(aF v x k):Int))) ([cells false 27 (aI v)])) ((↑n:Int))) ((↑k:Int))) ⟨fun c1=>have c1:(↑k:Int)<(↑n:Int):=(of_decide_eq_true c1);⟨omg,?_,fun c2=>have c2:v k=x:=(beq_iff_eq.mp c2);⟨(fun _ _=>⟨rfl,(gX _ _ omg _ _)⟩),omg,?_⟩,fun c2=>have c2:¬v k=x:=(beq_eq_false_iff_ne.mp c2);⟨omg,?_⟩⟩,fun c1=>have c1:¬(↑k:Int)<(↑n:Int):=(of_decide_eq_false c1);?_⟩
  ·exact fQ rfl rfl krf rfl (by show _+1<=27;omega) (oh omg omg)
  ·refine(aL (k+1) (aV ⟨Av _,Av _,(Aw ?_),Av _,(Aw krf),trivial⟩ rfl rfl) ?_ ?_)
   ·show AV.int .u64 _=AV.int .u64 _
    congr 1
    rw[iR,if_pos c2]
    exact Tb.u64_or (bV (Nat.lt_of_lt_of_le (iS v x k) (Nat.pow_le_pow_right dcd omg))) (bV (Nat.pow_lt_pow_right dcd omg))
   ·omega
   ·omega
  ·refine(aL (k+1) (aV ⟨Av _,Av _,(Aw ?_),Av _,(Aw krf),trivial⟩ rfl rfl) ?_ ?_)
   ·show AV.int .u64 _=AV.int .u64 _
    rw[iR,if_neg c2]
   ·omega
   ·omega
  ·have hk:k=n:=by omega
   subst hk
   refine⟨_,AH _,vcR [] (lkL [(8,[6])]) (fun _=>[]) (fun (Q:AEx->St R.σ->Prop)=>Q AEx.ret (St.mk [(6,int u64 (↑(aF v x k):Int))] [cells false 27 (aI v)] g)) (?_)⟩
   refine(aw (aX _ _ rfl trivial rfl rfl rfl) (Av _))
def stF (p:Prg)(most:Nat):List Int->Nat->List Nat->List Nat
 |[],s,out=>if out.length=most then out else if fol p.rules.l s=s then out++[s] else out
 |a::r,s,out=>if out.length=most then out else stF p most r (s|||2^a.toNat) (stF p most r s out)
theorem cS {p:Prg}{most:Nat}:∀{r:List Int} {s:Nat} {out:List Nat},out.length<=most->out.length<=(stF p most r s out).length/\(stF p most r s out).length<=most/\((stF p most r s out).length=out.length->stF p most r s out=out)
 |[],s,out,h=>by
  show out.length<=(if out.length=most then out else if fol p.rules.l s=s then out++[s] else out).length/\_
  show _/\(if out.length=most then out else if fol p.rules.l s=s then out++[s] else out).length<=most/\((if out.length=most then out else if fol p.rules.l s=s then out++[s] else out).length=out.length->(if out.length=most then out else if fol p.rules.l s=s then out++[s] else out)=out)
  split
  ·exact⟨Nat.le_refl _,h,fun _=>rfl⟩
  ·split
   ·rw[List.length_append,List.length_singleton]
    exact⟨omg,omg,fun h=>omg⟩
   ·exact⟨Nat.le_refl _,h,fun _=>rfl⟩
 |a::r,s,out,h=>by
  obtain⟨a1,a2,a3⟩:=cS (p:=p) (most:=most) (r:=r) (s:=s) (out:=out) h
  obtain⟨b1,b2,b3⟩:=cS (p:=p) (most:=most) (r:=r) (s:=s|||2^a.toNat) (out:=stF p most r s out) a2
  show out.length<=(if out.length=most then out else stF p most r (s|||2^a.toNat) (stF p most r s out)).length/\(if out.length=most then out else stF p most r (s|||2^a.toNat) (stF p most r s out)).length<=most/\((if out.length=most then out else stF p most r (s|||2^a.toNat) (stF p most r s out)).length=out.length->(if out.length=most then out else stF p most r (s|||2^a.toNat) (stF p most r s out))=out)
  split
  ·exact⟨Nat.le_refl _,h,fun _=>rfl⟩
  ·exact⟨omg,b2,fun h=>by
    have h1:=a3 omg
    rw[h1] at b3 b1 h ⊢
    exact b3 h⟩
theorem sP {p:Prg}{most:Nat}{r:List Int}{s:Nat}{out:List Nat}(h:out.length<=most)(h0:out≠[]):stF p most r s out≠[]:=fun e=>by
 have:=(cS (p:=p) (r:=r) (s:=s) h).1
 rw[e] at this
 exact h0 (List.length_eq_zero_iff.1 (Nat.le_zero.1 this))
structure FromC (p:Prg)(most:Nat)(O:KL Int)(r:List Int)(k:Int):Prop where
 nn:∀(R:Res) [Tab LT R] (s:Nat) (g:R.σ),s<2^24->stF p most r s []=[]->Does Tryd.prog R 78 [.int .i64 k,.int .u64 s,.ref 0 0,.ref 1 0,.ref 2 0,.ref 3 0,.ref 4 0] [.cells false 1 (fun _=>.fz .nil 0 0 (fun _ _=>.any)),.cells false 1 (fun _=>.int .i64 most),.cells false 1 (fun _=>aj O),.cells false 1 (fun _=>.fn 78 0 (nth []) 5 (nth [.ref 0 0,.ref 1 0,.ref 2 0,.ref 3 0,.ref 4 0])),.cells false 2 (nth [.int .i64 p.atoms,ad p.rules])] g (.ret (.tup 0 (nth []))) [.cells false 1 (fun _=>.fz .nil 0 0 (fun _ _=>.any)),.cells false 1 (fun _=>.int .i64 most),.cells false 1 (fun _=>aj O),.cells false 1 (fun _=>.fn 78 0 (nth []) 5 (nth [.ref 0 0,.ref 1 0,.ref 2 0,.ref 3 0,.ref 4 0])),.cells false 2 (nth [.int .i64 p.atoms,ad p.rules])] g
 nw:∀(R:Res) [Tab LT R] (s m:Nat) (L:List Nat) (g:R.σ),s<2^24->stF p most r s []=L->L≠[]->m=L.length->Does Tryd.prog R 78 [.int .i64 k,.int .u64 s,.ref 0 0,.ref 1 0,.ref 2 0,.ref 3 0,.ref 4 0] [.cells false 1 (fun _=>.fz .nil 0 0 (fun _ _=>.any)),.cells false 1 (fun _=>.int .i64 most),.cells false 1 (fun _=>aj O),.cells false 1 (fun _=>.fn 78 0 (nth []) 5 (nth [.ref 0 0,.ref 1 0,.ref 2 0,.ref 3 0,.ref 4 0])),.cells false 2 (nth [.int .i64 p.atoms,ad p.rules])] g (.ret (.tup 0 (nth []))) [.cells false 1 (fun _=>.ow true 5 m 1),.cells false 1 (fun _=>.int .i64 most),.cells false 1 (fun _=>aj O),.cells false 1 (fun _=>.fn 78 0 (nth []) 5 (nth [.ref 0 0,.ref 1 0,.ref 2 0,.ref 3 0,.ref 4 0])),.cells false 2 (nth [.int .i64 p.atoms,ad p.rules]),.cells false (m*1) (aB L)] g
 on:∀(R:Res) [Tab LT R] (s m:Nat) (L:List Nat) (g:R.σ),s<2^24->L≠[]->m=L.length->m<=most->stF p most r s L=L->Does Tryd.prog R 78 [.int .i64 k,.int .u64 s,.ref 0 0,.ref 1 0,.ref 2 0,.ref 3 0,.ref 4 0] [.cells false 1 (fun _=>.ow true 5 m 1),.cells false 1 (fun _=>.int .i64 most),.cells false 1 (fun _=>aj O),.cells false 1 (fun _=>.fn 78 0 (nth []) 5 (nth [.ref 0 0,.ref 1 0,.ref 2 0,.ref 3 0,.ref 4 0])),.cells false 2 (nth [.int .i64 p.atoms,ad p.rules]),.cells false (m*1) (aB L)] g (.ret (.tup 0 (nth []))) [.cells false 1 (fun _=>.ow true 5 m 1),.cells false 1 (fun _=>.int .i64 most),.cells false 1 (fun _=>aj O),.cells false 1 (fun _=>.fn 78 0 (nth []) 5 (nth [.ref 0 0,.ref 1 0,.ref 2 0,.ref 3 0,.ref 4 0])),.cells false 2 (nth [.int .i64 p.atoms,ad p.rules]),.cells false (m*1) (aB L)] g
 ow:∀(R:Res) [Tab LT R] (s m m':Nat) (L L':List Nat) (g:R.σ),s<2^24->L≠[]->m=L.length->m<=most->stF p most r s L=L'->m'=L'.length->m≠m'->Does Tryd.prog R 78 [.int .i64 k,.int .u64 s,.ref 0 0,.ref 1 0,.ref 2 0,.ref 3 0,.ref 4 0] [.cells false 1 (fun _=>.ow true 5 m 1),.cells false 1 (fun _=>.int .i64 most),.cells false 1 (fun _=>aj O),.cells false 1 (fun _=>.fn 78 0 (nth []) 5 (nth [.ref 0 0,.ref 1 0,.ref 2 0,.ref 3 0,.ref 4 0])),.cells false 2 (nth [.int .i64 p.atoms,ad p.rules]),.cells false (m*1) (aB L)] g (.ret (.tup 0 (nth []))) [.cells false 1 (fun _=>.ow true 6 m' 1),.cells false 1 (fun _=>.int .i64 most),.cells false 1 (fun _=>aj O),.cells false 1 (fun _=>.fn 78 0 (nth []) 5 (nth [.ref 0 0,.ref 1 0,.ref 2 0,.ref 3 0,.ref 4 0])),.cells false 2 (nth [.int .i64 p.atoms,ad p.rules]),.dead,.cells false (m'*1) (aB L')] g
theorem lX {P:Program}{R:Res}{k0:Nat}{rs:List ResultVar}{x:AV}{hp':List AObj}{g':R.σ}{s:St R.σ}(v:AV)(ob:List Prop)(h:eq (aC P) s rs=some (v,ob))(hob:av ob)(ht:To R k0 ⟨[(0,v)],s.hp,s.g⟩ ⟨[(0,x)],hp',g'⟩):a9 P R k0 rs (.ret x) hp' g' .normal s:=
 ⟨v,ob,x,_,h,hob,rfl,ht,rfl,rfl,rfl⟩
theorem lY {f:Nat->Nat}{g:FuncId}(h0:f 0=0:=by rfl)(h1:f 1=1:=by rfl)(h2:f 2=2:=by rfl)(h3:f 3=3:=by rfl)(h4:f 4=4:=by rfl):Le (.fn g 0 (nth []) 5 (nth [.ref 0 0,.ref 1 0,.ref 2 0,.ref 3 0,.ref 4 0])) (aN f (.fn g 0 (nth []) 5 (nth [.ref 0 0,.ref 1 0,.ref 2 0,.ref 3 0,.ref 4 0]))):=
 Le.fn (fun i hi=>absurd hi (Nat.not_lt_zero i)) (fun i hi=>match i,hi with
  |0,_=>Aw (by show AV.ref 0 0=.ref (f 0) 0;rw[h0])
  |1,_=>Aw (by show AV.ref 1 0=.ref (f 1) 0;rw[h1])
  |2,_=>Aw (by show AV.ref 2 0=.ref (f 2) 0;rw[h2])
  |3,_=>Aw (by show AV.ref 3 0=.ref (f 3) 0;rw[h3])
  |4,_=>Aw (by show AV.ref 4 0=.ref (f 4) 0;rw[h4]))
theorem zG {p:Prg}{most:Nat}{O:KL Int}(hm:1<=most/\most<=100)(hO:O.l.length<=10)(hl:p.rules.l.length<1000000)(hr:∀r,r∈p.rules.l->aH r):FromC p most O [] O.l.length:=by
 have hroom:ax=140737488355328:=rfl
 have hb:decide ((O.l.length:Int)<(O.l.length:Int))=false:=decide_eq_false omg
 have hz:(((0:Nat):Int)==(most:Int))=false:=by rw[beq_eq_false_iff_ne];omega
 have e0:∀s L,stF p most [] s L=if L.length=most then L else if fol p.rules.l s=s then L++[s] else L:=fun s L=>rfl
 have hC:=fun (R:Res) [Tab LT R] (s:Nat) (hs:s<2^24) (g:R.σ)=>iW R s hs g
 constructor
 ·intro R _ s g hs h
  rw[e0,if_neg (by show ¬0=most;omega)] at h
  have hf:((fol p.rules.l s:Int)==(s:Int))=false:=by
   rw[beq_eq_false_iff_ne]
   intro e
   rw[if_pos omg] at h
   cases h
  refine spW (nt:=47) (rs:=[]) (k0:=5) ?_
  refine vcR [[0,1,0],[0,1,1,1,0],[0,1,1,1,1,1,0]] (lkL [(0,[0,1,2,4,5,6,9]),(1,[0,1,2,4,5,6,14]),(4,[1,2,35])]) (lkL [(4,[(2,ROrc.pcall (int u64 (↑(fol p.rules.l s):Int)))])]) (fun Q=>(fun (u1:List AObj)=>(fun (u2:Int)=>(fun (u3:Bool)=>(fun (u4:AEx->St R.σ->Prop)=>(fun (u5:AV)=>(fun (u6:Bool)=>1<=1/\1<=1/\(u6=true->Wp Tryd.prog R 47 5 Rd.top (aD Tryd.prog 78) [0,1,0] u4 (St.mk [(0,int i64 u2),(1,u5),(2,ref 0 0),(4,ref 2 0),(5,ref 3 0),(6,ref 4 0),(9,AV.bool u6)] u1 g))/\(u6=false->1<=1/\(decide (u2<u2)=true->Wp Tryd.prog R 47 5 Rd.top (aD Tryd.prog 78) [0,1,1,1,0] u4 (St.mk [(0,int i64 u2),(1,u5),(2,ref 0 0),(4,ref 2 0),(5,ref 3 0),(6,ref 4 0),(14,AV.bool (decide (u2<u2)))] u1 g))/\(decide (u2<u2)=false->2<=2/\(∀(hp:List AObj) (g:R.σ),true=true/\Does Tryd.prog R 80 [au p,u5] hp g (ret (int u64 (↑(fol p.rules.l s):Int))) hp g)/\(u3=true->Wp Tryd.prog R 47 5 Rd.top (aD Tryd.prog 78) [0,1,1,1,1,1,0] u4 (St.mk [(1,u5),(2,ref 0 0),(35,AV.bool u3)] u1 g))/\(u3=false->Q AEx.normal (St.mk [(1,u5),(2,ref 0 0),(35,AV.bool u3)] u1 g))))) ((↑0:Int)==(↑most:Int))) (int u64 (↑s:Int))) (aT Tryd.prog R 47 5 Rd.top (aD Tryd.prog 78) Q [Kont.blk 0])) ((↑(fol p.rules.l s):Int)==(↑s:Int))) ((↑(List.length O.l):Int))) ([cells false 1 fun x=>fz Fz.nil 0 0 fun x x_1=>any,cells false 1 fun x=>int i64 (↑most:Int),cells false 1 fun x=>fz O.2 1 (List.length O.l) fun i x=>ab O.l i,cells false 1 fun x=>fn 78 0 (nth []) 5 (nth [ref 0 0,ref 1 0,ref 2 0,ref 3 0,ref 4 0]),cells false 2 (nth [int i64 p.atoms,ad p.rules])])) ⟨omg,omg,fun hcc=>(nomatch (hz.symm.trans hcc)),fun _=>⟨omg,fun hcc=>(nomatch (hb.symm.trans hcc)),fun _=>⟨omg,(fun _ _=>⟨rfl,(lz _ _ _ _ omg omg omg _)⟩),fun hcc=>(nomatch (hf.symm.trans hcc)),fun _=>?_⟩⟩⟩
  refine(aw (aX _ _ rfl trivial rfl rfl rfl) (Av _))
 ·intro R _ s m L g hs h hL hmL
  rw[e0,if_neg (by show ¬0=most;omega)] at h
  have hf:((fol p.rules.l s:Int)==(s:Int))=true:=by
   rw[beq_iff_eq]
   by_cases e:fol p.rules.l s=s
   ·omega
   ·rw[if_neg e] at h
    exact absurd h.symm hL
  rw[if_pos (by rw[beq_iff_eq] at hf;omega)] at h
  subst h
  subst hmL
  refine spW (nt:=47) (rs:=[]) (k0:=5) ?_
  refine vcR [[0,1,0],[0,1,1,1,0],[0,1,1,1,1,1,1]] (lkL [(0,[0,1,2,4,5,6,9]),(1,[0,1,2,4,5,6,14]),(4,[1,2,35])]) (lkL [(4,[(2,ROrc.pcall (int u64 (↑(fol p.rules.l s):Int)))]),(5,[(2,ROrc.callN (fn 105 0 (nth []) 1 (nth [ref (List.length [cells false 1 fun (x:Nat)=>fz Fz.nil 0 0 fun (x x_1:Nat)=>any,cells false 1 fun (x:Nat)=>int i64 (↑most:Int),cells false 1 fun (x:Nat)=>fz O.2 1 (List.length O.l) fun (i x:Nat)=>ab O.l i,cells false 1 fun (x:Nat)=>fn 78 0 (nth []) 5 (nth [ref 0 0,ref 1 0,ref 2 0,ref 3 0,ref 4 0]),cells false 2 (nth [int i64 p.atoms,ad p.rules])]) 0])) [] [cells false 1 fun (x:Nat)=>int u64 (↑s:Int)] g),(3,ROrc.callS (fz Fz.auto 1 (List.length (ag s).l) fun (i x:Nat)=>ab (ag s).l i) [(5,cells false 1 fun (j:Nat)=>any)] g),(5,ROrc.val (Orc.obj (aB ([]++[s])))),(6,ROrc.val (Orc.obj (nth [ow true 7 1 1])))])]) (fun Q=>(fun (u1:List AObj)=>(fun (u2:List AObj)=>(fun (u3:Int)=>(fun (u4:AV)=>(fun (u5:AV)=>(fun (u6:AEx->St R.σ->Prop)=>(fun (u7:AObj)=>(fun (u8:AObj)=>(fun (u9:Bool)=>(fun (u10:AV)=>(fun (u11:Bool)=>(fun (u12:AObj)=>(fun (u13:AObj)=>1<=1/\1<=1/\(u11=true->Wp Tryd.prog R 47 5 Rd.top (aD Tryd.prog 78) [0,1,0] u6 (St.mk [(0,int i64 u3),(1,u10),(2,ref 0 0),(4,ref 2 0),(5,ref 3 0),(6,ref 4 0),(9,AV.bool u11)] u1 g))/\(u11=false->1<=1/\(decide (u3<u3)=true->Wp Tryd.prog R 47 5 Rd.top (aD Tryd.prog 78) [0,1,1,1,0] u6 (St.mk [(0,int i64 u3),(1,u10),(2,ref 0 0),(4,ref 2 0),(5,ref 3 0),(6,ref 4 0),(14,AV.bool (decide (u3<u3)))] u1 g))/\(decide (u3<u3)=false->2<=2/\(∀(hp:List AObj) (g:R.σ),true=true/\Does Tryd.prog R 80 [au p,u10] hp g (ret (int u64 (↑(fol p.rules.l s):Int))) hp g)/\(u9=true->Flw Tryd.prog/\1<=1/\(true=true/\Does Tryd.prog R 77 [u10] u1 g (ret (fn 105 0 (nth []) 1 (nth [ref 5 0]))) u2 g)/\(true=true/\Does Tryd.prog R 75 [fn 105 0 (nth []) 1 (nth [ref 5 0])] u2 g (ret u4) [cells false 1 fun x=>u5,u13,u8,u7,u12,cells false 1 fun j=>any] g)/\0<1/\24<=ax/\1<=ax/\1<=1/\(∀(c:Nat),c<1->(fz Fz.auto 1 (List.length (ag (List.getD ([]++[s]) c 0)).l) fun i x=>ab (ag (List.getD ([]++[s]) c 0)).l i)=aS 1 0 (fun (x x_1:Nat)=>any) (fun (i j:Nat)=>ah (fun (j:Nat)=>u5) 0 1 (fun (x:Nat)=>u4) (0+i*1+j)) c)/\1<=1/\(∀(c:Nat),c<1->nth [ow true 7 1 1] c=ah (fun (x:Nat)=>u5) 0 1 (fun (x:Nat)=>ow true 7 1 1) c)/\Q AEx.normal (St.mk [] [cells false 1 (nth [ow true 7 1 1]),u13,u8,u7,u12,cells false 1 fun j=>any,cells false 1 (ah (fun (j:Nat)=>u5) 0 1 fun x=>u4),cells false 1 fun a=>fz Fz.auto 1 (List.length (ag (List.getD ([]++[s]) a 0)).l) fun i x=>ab (ag (List.getD ([]++[s]) a 0)).l i] g))/\(u9=false->Wp Tryd.prog R 47 5 Rd.top (aD Tryd.prog 78) [0,1,1,1,1,1,1] u6 (St.mk [(1,u10),(2,ref 0 0),(35,AV.bool u9)] u1 g))))) (cells false 1 fun x=>int i64 (↑most:Int))) (cells false 2 (nth [int i64 p.atoms,ad p.rules]))) ((↑0:Int)==(↑most:Int))) (int u64 (↑s:Int))) ((↑(fol p.rules.l s):Int)==(↑s:Int))) (cells false 1 fun x=>fz O.2 1 (List.length O.l) fun i x=>ab O.l i)) (cells false 1 fun x=>fn 78 0 (nth []) 5 (nth [ref 0 0,ref 1 0,ref 2 0,ref 3 0,ref 4 0]))) (aT Tryd.prog R 47 5 Rd.top (aD Tryd.prog 78) Q [Kont.blk 0])) (fz Fz.nil 0 0 fun x x_1=>any)) (fz Fz.auto 1 (List.length (ag s).l) fun i x=>ab (ag s).l i)) ((↑(List.length O.l):Int))) ([cells false 1 fun x=>fz Fz.nil 0 0 fun x x_1=>any,cells false 1 fun x=>int i64 (↑most:Int),cells false 1 fun x=>fz O.2 1 (List.length O.l) fun i x=>ab O.l i,cells false 1 fun x=>fn 78 0 (nth []) 5 (nth [ref 0 0,ref 1 0,ref 2 0,ref 3 0,ref 4 0]),cells false 2 (nth [int i64 p.atoms,ad p.rules]),cells false 1 fun x=>int u64 (↑s:Int)])) ([cells false 1 fun x=>fz Fz.nil 0 0 fun x x_1=>any,cells false 1 fun x=>int i64 (↑most:Int),cells false 1 fun x=>fz O.2 1 (List.length O.l) fun i x=>ab O.l i,cells false 1 fun x=>fn 78 0 (nth []) 5 (nth [ref 0 0,ref 1 0,ref 2 0,ref 3 0,ref 4 0]),cells false 2 (nth [int i64 p.atoms,ad p.rules])])) ⟨omg,omg,fun hcc=>(nomatch (hz.symm.trans hcc)),fun _=>⟨omg,fun hcc=>(nomatch (hb.symm.trans hcc)),fun _=>⟨omg,(fun _ _=>⟨rfl,(lz _ _ _ _ omg omg omg _)⟩),fun _=>⟨krf,omg,⟨rfl,(dt _ _ _ _)⟩,⟨rfl,(doT (T:=LT) [5] 6 (fun R _ g=>hC R (s) omg g))⟩,omg,omg,omg,omg,?_,omg,(fun c hc=>match c,hc with|0,_=>krf ),?_⟩,fun hcc=>(nomatch (hf.symm.trans hcc))⟩⟩⟩
  ·exact fun c hc=>(iZ (L:=[]) (m:=0) (z:=fun _=>.fz .nil 0 0 (fun _ _=>.any)) (old:=fun _ _=>.any) rfl (fun i hi=>absurd hi (Nat.not_lt_zero i)) hc).trans krf
  ·refine lX (.tup 0 (nth [])) _ rfl trivial ?_
   refine eG [0,1,2,3,4,7] 8 ?_ ?_ ?_ ?_ ?_ ?_ ?_
   ·rfl
   ·rfl
   ·rfl
   ·rfl
   ·rfl
   ·exact⟨Av _,trivial⟩
   ·exact⟨⟨rfl,Nat.le_refl _,fun j hj=>match j,hj with|0,_=>Av _⟩,Ay _,Ay _,⟨rfl,Nat.le_refl _,fun j hj=>lY⟩,⟨rfl,Nat.le_refl _,fun j hj=>match j,hj with|0,_=>Av _|1,_=>bu (by exact trivial)⟩,⟨rfl,Nat.le_refl _,fun j hj=>Av _⟩,trivial⟩
 ·intro R _ s m L g hs hL hmL hmm h
  rw[e0] at h
  refine spW (nt:=47) (rs:=[]) (k0:=6) ?_
  refine vcR [[0,1,1,1,0]] (lkL [(0,[0,1,2,4,5,6,9]),(1,[0,1,2,4,5,6,14]),(4,[1,2,35])]) (lkL [(4,[(2,ROrc.pcall (int u64 (↑(fol p.rules.l s):Int)))]),(5,[(2,ROrc.callN (fn 105 0 (nth []) 1 (nth [ref (List.length [cells false 1 fun (x:Nat)=>ow true 5 m 1,cells false 1 fun (x:Nat)=>int i64 (↑most:Int),cells false 1 fun (x:Nat)=>fz O.2 1 (List.length O.l) fun (i x:Nat)=>ab O.l i,cells false 1 fun (x:Nat)=>fn 78 0 (nth []) 5 (nth [ref 0 0,ref 1 0,ref 2 0,ref 3 0,ref 4 0]),cells false 2 (nth [int i64 p.atoms,ad p.rules]),cells false (m*1) fun (a:Nat)=>fz Fz.auto 1 (List.length (ag (List.getD L a 0)).l) fun (i x:Nat)=>ab (ag (List.getD L a 0)).l i]) 0])) [] [cells false 1 fun (x:Nat)=>int u64 (↑s:Int)] g),(3,ROrc.callS (fz Fz.auto 1 (List.length (ag s).l) fun (i x:Nat)=>ab (ag s).l i) [(6,cells false 1 fun (j:Nat)=>any)] g),(6,ROrc.val (Orc.obj (nth [ow true 8 (m+1) 1])))])]) (fun Q=>(fun (u1:List AObj)=>(fun (u2:List AObj)=>(fun (u3:Int)=>(fun (u4:AV)=>(fun (u5:AObj)=>(fun (u6:AObj)=>(fun (u7:Bool)=>(fun (u8:AV)=>(fun (u9:Bool)=>(fun (u10:AObj)=>(fun (u11:AObj)=>1<=1/\1<=1/\(u9=true->Q AEx.normal (St.mk [(0,int i64 u3),(1,u8),(2,ref 0 0),(4,ref 2 0),(5,ref 3 0),(6,ref 4 0),(9,AV.bool u9)] u1 g))/\(u9=false->1<=1/\(decide (u3<u3)=true->WpC Tryd.prog R 47 6 78 [0,1,1,1,0] Q [Kont.blk 0] (St.mk [(0,int i64 u3),(1,u8),(2,ref 0 0),(4,ref 2 0),(5,ref 3 0),(6,ref 4 0),(14,AV.bool (decide (u3<u3)))] u1 g))/\(decide (u3<u3)=false->2<=2/\(∀(hp:List AObj) (g:R.σ),true=true/\Does Tryd.prog R 80 [au p,u8] hp g (ret (int u64 (↑(fol p.rules.l s):Int))) hp g)/\(u7=true->Flw Tryd.prog/\1<=1/\(true=true/\Does Tryd.prog R 77 [u8] u1 g (ret (fn 105 0 (nth []) 1 (nth [ref 6 0]))) u2 g)/\(true=true/\Does Tryd.prog R 75 [fn 105 0 (nth []) 1 (nth [ref 6 0])] u2 g (ret u4) [cells false 1 fun x=>ow true 5 m 1,u11,u6,u5,u10,cells false (m*1) fun a=>fz Fz.auto 1 (List.length (ag (List.getD L a 0)).l) fun i x=>ab (ag (List.getD L a 0)).l i,cells false 1 fun j=>any] g)/\0<1/\(m+1)*24<=ax/\m+1<=ax/\1<=1/\m*1<=m*1/\1<=1/\(∀(c:Nat),c<1->nth [ow true 8 (m+1) 1] c=ah (fun (x:Nat)=>ow true 5 m 1) 0 1 (fun (x:Nat)=>ow true 8 (m+1) 1) c)/\Q AEx.normal (St.mk [] [cells false 1 (nth [ow true 8 (m+1) 1]),u11,u6,u5,u10,dead,cells false 1 fun j=>any,cells false 1 (ah (fun (j:Nat)=>fz Fz.nil 0 0 fun x x_1=>any) 0 1 fun x=>u4),cells false ((m+1)*1) (aS 1 m (fun (i j:Nat)=>fz Fz.auto 1 (List.length (ag (List.getD L (i*1+j) 0)).l) fun i_1 x=>ab (ag (List.getD L (i*1+j) 0)).l i_1) fun i j=>ah (fun (j:Nat)=>fz Fz.nil 0 0 fun x x_1=>any) 0 1 (fun (x:Nat)=>u4) (0+i*1+j))] g))/\(u7=false->Q AEx.normal (St.mk [(1,u8),(2,ref 0 0),(35,AV.bool u7)] u1 g))))) (cells false 1 fun x=>int i64 (↑most:Int))) (cells false 2 (nth [int i64 p.atoms,ad p.rules]))) ((↑m:Int)==(↑most:Int))) (int u64 (↑s:Int))) ((↑(fol p.rules.l s):Int)==(↑s:Int))) (cells false 1 fun x=>fz O.2 1 (List.length O.l) fun i x=>ab O.l i)) (cells false 1 fun x=>fn 78 0 (nth []) 5 (nth [ref 0 0,ref 1 0,ref 2 0,ref 3 0,ref 4 0]))) (fz Fz.auto 1 (List.length (ag s).l) fun i x=>ab (ag s).l i)) ((↑(List.length O.l):Int))) ([cells false 1 fun x=>ow true 5 m 1,cells false 1 fun x=>int i64 (↑most:Int),cells false 1 fun x=>fz O.2 1 (List.length O.l) fun i x=>ab O.l i,cells false 1 fun x=>fn 78 0 (nth []) 5 (nth [ref 0 0,ref 1 0,ref 2 0,ref 3 0,ref 4 0]),cells false 2 (nth [int i64 p.atoms,ad p.rules]),cells false (m*1) fun a=>fz Fz.auto 1 (List.length (ag (List.getD L a 0)).l) fun i x=>ab (ag (List.getD L a 0)).l i,cells false 1 fun x=>int u64 (↑s:Int)])) ([cells false 1 fun x=>ow true 5 m 1,cells false 1 fun x=>int i64 (↑most:Int),cells false 1 fun x=>fz O.2 1 (List.length O.l) fun i x=>ab O.l i,cells false 1 fun x=>fn 78 0 (nth []) 5 (nth [ref 0 0,ref 1 0,ref 2 0,ref 3 0,ref 4 0]),cells false 2 (nth [int i64 p.atoms,ad p.rules]),cells false (m*1) fun a=>fz Fz.auto 1 (List.length (ag (List.getD L a 0)).l) fun i x=>ab (ag (List.getD L a 0)).l i])) ⟨omg,omg,fun c1=>have c1:(↑m:Int)=(↑most:Int):=(beq_iff_eq.mp c1);?_,fun c1=>have c1:¬(↑m:Int)=(↑most:Int):=(beq_eq_false_iff_ne.mp c1);⟨omg,fun hcc=>(nomatch (hb.symm.trans hcc)),fun _=>⟨omg,(fun _ _=>⟨rfl,(lz _ _ _ _ omg omg omg _)⟩),fun c2=>have c2:(↑(fol p.rules.l s):Int)=(↑s:Int):=(beq_iff_eq.mp c2);⟨krf,omg,⟨rfl,(dt _ _ _ _)⟩,⟨rfl,(doT (T:=LT) [6] 7 (fun R _ g=>hC R (s) omg g))⟩,omg,omg,omg,omg,omg,omg,(fun c hc=>match c,hc with|0,_=>krf ),?_⟩,fun c2=>have c2:¬(↑(fol p.rules.l s):Int)=(↑s:Int):=(beq_eq_false_iff_ne.mp c2);?_⟩⟩⟩
  ·refine(aw (aX _ _ rfl trivial rfl rfl rfl) (Av _))
  ·exfalso
   rw[if_neg omg,if_pos omg] at h
   have:=congrArg List.length h
   rw[List.length_append,List.length_singleton] at this
   omega
  ·refine(aw (aX _ _ rfl trivial rfl rfl rfl) (Av _))
 ·intro R _ s m m' L L' g hs hL hmL hmm h hm' hne
  rw[e0] at h
  have hf:((fol p.rules.l s:Int)==(s:Int))=true:=by
   rw[beq_iff_eq]
   by_cases e:fol p.rules.l s=s
   ·omega
   ·rw[if_neg e,ite_self] at h
    subst h
    omega
  have h1:¬L.length=most:=fun e=>by
   rw[if_pos e] at h
   subst h
   omega
  rw[if_neg h1,if_pos (by rw[beq_iff_eq] at hf;omega)] at h
  subst h
  have hmm1:m'=m+1:=by rw[hm',List.length_append,hmL];rfl
  subst hmm1
  have hz:((m:Int)==(most:Int))=false:=by rw[beq_eq_false_iff_ne];omega
  refine spW (nt:=47) (rs:=[]) (k0:=6) ?_
  refine vcR [[0,1,0],[0,1,1,1,0],[0,1,1,1,1,1,1]] (lkL [(0,[0,1,2,4,5,6,9]),(1,[0,1,2,4,5,6,14]),(4,[1,2,35])]) (lkL [(4,[(2,ROrc.pcall (int u64 (↑(fol p.rules.l s):Int)))]),(5,[(2,ROrc.callN (fn 105 0 (nth []) 1 (nth [ref (List.length [cells false 1 fun (x:Nat)=>ow true 5 m 1,cells false 1 fun (x:Nat)=>int i64 (↑most:Int),cells false 1 fun (x:Nat)=>fz O.2 1 (List.length O.l) fun (i x:Nat)=>ab O.l i,cells false 1 fun (x:Nat)=>fn 78 0 (nth []) 5 (nth [ref 0 0,ref 1 0,ref 2 0,ref 3 0,ref 4 0]),cells false 2 (nth [int i64 p.atoms,ad p.rules]),cells false (m*1) fun (a:Nat)=>fz Fz.auto 1 (List.length (ag (List.getD L a 0)).l) fun (i x:Nat)=>ab (ag (List.getD L a 0)).l i]) 0])) [] [cells false 1 fun (x:Nat)=>int u64 (↑s:Int)] g),(3,ROrc.callS (fz Fz.auto 1 (List.length (ag s).l) fun (i x:Nat)=>ab (ag s).l i) [(6,cells false 1 fun (j:Nat)=>any)] g),(5,ROrc.val (Orc.obj (aB (L++[s])))),(6,ROrc.val (Orc.obj (nth [ow true 8 (m+1) 1])))])]) (fun Q=>(fun (u1:List AObj)=>(fun (u2:List AObj)=>(fun (u3:Int)=>(fun (u4:AV)=>(fun (u5:AEx->St R.σ->Prop)=>(fun (u6:AObj)=>(fun (u7:AObj)=>(fun (u8:Bool)=>(fun (u9:AV)=>(fun (u10:Bool)=>(fun (u11:AObj)=>(fun (u12:AObj)=>1<=1/\1<=1/\(u10=true->Wp Tryd.prog R 47 6 Rd.top (aD Tryd.prog 78) [0,1,0] u5 (St.mk [(0,int i64 u3),(1,u9),(2,ref 0 0),(4,ref 2 0),(5,ref 3 0),(6,ref 4 0),(9,AV.bool u10)] u1 g))/\(u10=false->1<=1/\(decide (u3<u3)=true->Wp Tryd.prog R 47 6 Rd.top (aD Tryd.prog 78) [0,1,1,1,0] u5 (St.mk [(0,int i64 u3),(1,u9),(2,ref 0 0),(4,ref 2 0),(5,ref 3 0),(6,ref 4 0),(14,AV.bool (decide (u3<u3)))] u1 g))/\(decide (u3<u3)=false->2<=2/\(∀(hp:List AObj) (g:R.σ),true=true/\Does Tryd.prog R 80 [au p,u9] hp g (ret (int u64 (↑(fol p.rules.l s):Int))) hp g)/\(u8=true->Flw Tryd.prog/\1<=1/\(true=true/\Does Tryd.prog R 77 [u9] u1 g (ret (fn 105 0 (nth []) 1 (nth [ref 6 0]))) u2 g)/\(true=true/\Does Tryd.prog R 75 [fn 105 0 (nth []) 1 (nth [ref 6 0])] u2 g (ret u4) [cells false 1 fun x=>ow true 5 m 1,u12,u7,u6,u11,cells false (m*1) fun a=>fz Fz.auto 1 (List.length (ag (List.getD L a 0)).l) fun i x=>ab (ag (List.getD L a 0)).l i,cells false 1 fun j=>any] g)/\0<1/\(m+1)*24<=ax/\m+1<=ax/\1<=1/\m*1<=m*1/\(∀(c:Nat),c<(m+1)*1->(fz Fz.auto 1 (List.length (ag (List.getD (L++[s]) c 0)).l) fun i x=>ab (ag (List.getD (L++[s]) c 0)).l i)=aS 1 m (fun (i j:Nat)=>fz Fz.auto 1 (List.length (ag (List.getD L (i*1+j) 0)).l) fun i_1 x=>ab (ag (List.getD L (i*1+j) 0)).l i_1) (fun (i j:Nat)=>ah (fun (j:Nat)=>fz Fz.nil 0 0 fun x x_1=>any) 0 1 (fun (x:Nat)=>u4) (0+i*1+j)) c)/\1<=1/\(∀(c:Nat),c<1->nth [ow true 8 (m+1) 1] c=ah (fun (x:Nat)=>ow true 5 m 1) 0 1 (fun (x:Nat)=>ow true 8 (m+1) 1) c)/\Q AEx.normal (St.mk [] [cells false 1 (nth [ow true 8 (m+1) 1]),u12,u7,u6,u11,dead,cells false 1 fun j=>any,cells false 1 (ah (fun (j:Nat)=>fz Fz.nil 0 0 fun x x_1=>any) 0 1 fun x=>u4),cells false ((m+1)*1) fun a=>fz Fz.auto 1 (List.length (ag (List.getD (L++[s]) a 0)).l) fun i x=>ab (ag (List.getD (L++[s]) a 0)).l i] g))/\(u8=false->Wp Tryd.prog R 47 6 Rd.top (aD Tryd.prog 78) [0,1,1,1,1,1,1] u5 (St.mk [(1,u9),(2,ref 0 0),(35,AV.bool u8)] u1 g))))) (cells false 1 fun x=>int i64 (↑most:Int))) (cells false 2 (nth [int i64 p.atoms,ad p.rules]))) ((↑m:Int)==(↑most:Int))) (int u64 (↑s:Int))) ((↑(fol p.rules.l s):Int)==(↑s:Int))) (cells false 1 fun x=>fz O.2 1 (List.length O.l) fun i x=>ab O.l i)) (cells false 1 fun x=>fn 78 0 (nth []) 5 (nth [ref 0 0,ref 1 0,ref 2 0,ref 3 0,ref 4 0]))) (aT Tryd.prog R 47 6 Rd.top (aD Tryd.prog 78) Q [Kont.blk 0])) (fz Fz.auto 1 (List.length (ag s).l) fun i x=>ab (ag s).l i)) ((↑(List.length O.l):Int))) ([cells false 1 fun x=>ow true 5 m 1,cells false 1 fun x=>int i64 (↑most:Int),cells false 1 fun x=>fz O.2 1 (List.length O.l) fun i x=>ab O.l i,cells false 1 fun x=>fn 78 0 (nth []) 5 (nth [ref 0 0,ref 1 0,ref 2 0,ref 3 0,ref 4 0]),cells false 2 (nth [int i64 p.atoms,ad p.rules]),cells false (m*1) fun a=>fz Fz.auto 1 (List.length (ag (List.getD L a 0)).l) fun i x=>ab (ag (List.getD L a 0)).l i,cells false 1 fun x=>int u64 (↑s:Int)])) ([cells false 1 fun x=>ow true 5 m 1,cells false 1 fun x=>int i64 (↑most:Int),cells false 1 fun x=>fz O.2 1 (List.length O.l) fun i x=>ab O.l i,cells false 1 fun x=>fn 78 0 (nth []) 5 (nth [ref 0 0,ref 1 0,ref 2 0,ref 3 0,ref 4 0]),cells false 2 (nth [int i64 p.atoms,ad p.rules]),cells false (m*1) fun a=>fz Fz.auto 1 (List.length (ag (List.getD L a 0)).l) fun i x=>ab (ag (List.getD L a 0)).l i])) ⟨omg,omg,fun hcc=>(nomatch (hz.symm.trans hcc)),fun _=>⟨omg,fun hcc=>(nomatch (hb.symm.trans hcc)),fun _=>⟨omg,(fun _ _=>⟨rfl,(lz _ _ _ _ omg omg omg _)⟩),fun _=>⟨krf,omg,⟨rfl,(dt _ _ _ _)⟩,⟨rfl,(doT (T:=LT) [6] 7 (fun R _ g=>hC R (s) omg g))⟩,omg,omg,omg,omg,omg,?_,omg,(fun c hc=>match c,hc with|0,_=>krf ),?_⟩,fun hcc=>(nomatch (hf.symm.trans hcc))⟩⟩⟩
  ·exact fun c hc=>(iZ (L:=L) (m:=m) (z:=fun _=>.fz .nil 0 0 (fun _ _=>.any)) (old:=fun i j=>aB L (i*1+j)) hmL (fun i hi=>by show aB L (i*1+0)=aB L i;rw[show i*1+0=i by omega]) hc).trans krf
  ·refine lX (.tup 0 (nth [])) _ rfl trivial ?_
   refine eG [0,1,2,3,4,5,8] 9 ?_ ?_ ?_ ?_ ?_ ?_ ?_
   ·rfl
   ·rfl
   ·rfl
   ·rfl
   ·rfl
   ·exact⟨Av _,trivial⟩
   ·exact⟨⟨rfl,Nat.le_refl _,fun j hj=>match j,hj with|0,_=>Av _⟩,Ay _,Ay _,⟨rfl,Nat.le_refl _,fun j hj=>lY⟩,⟨rfl,Nat.le_refl _,fun j hj=>match j,hj with|0,_=>Av _|1,_=>bu (by exact trivial)⟩,trivial,⟨rfl,Nat.le_refl _,fun j hj=>Av _⟩,trivial⟩
theorem zH {p:Prg}{most:Nat}{O:KL Int}{r:List Int}{k:Nat}(hm:1<=most/\most<=100)(hO:O.l.length<=10)(hk:k<O.l.length)(ha24:0<=O.l.getD k 0/\O.l.getD k 0<24)(ih:FromC p most O r ((k:Int)+1)):FromC p most O (O.l.getD k 0::r) (k:Int):=by
 have hroom:ax=140737488355328:=rfl
 have hb:decide ((k:Int)<(O.l.length:Int))=true:=decide_eq_true (by omega)
 have hz:(((0:Nat):Int)==(most:Int))=false:=by rw[beq_eq_false_iff_ne];omega
 have e0:∀s L,stF p most (O.l.getD k 0::r) s L=if L.length=most then L else stF p most r (s|||2^(O.l.getD k 0).toNat) (stF p most r s L):=fun s L=>rfl
 have hor:∀s:Nat,s<2^24->IntKind.u64.wrap ((BitVec.ofInt 64 (s:Int)|||BitVec.ofInt 64 ((2^(O.l.getD k 0).toNat:Nat):Int)).toNat:Int)=((s|||2^(O.l.getD k 0).toNat:Nat):Int):=fun s hs=>Tb.u64_or (bV hs) (bV (Nat.pow_lt_pow_right (by decide) (by omega)))
 have hor24:∀s:Nat,s<2^24->s|||2^(O.l.getD k 0).toNat<2^24:=fun s hs=>jW hs (by omega)
 constructor
 ·intro R _ s g hs h
  rw[e0,if_neg (by show ¬0=most;omega)] at h
  obtain⟨t,ht⟩:∃t,s|||2^(O.l.getD k 0).toNat=t:=⟨_,rfl⟩
  have ht24:t<2^24:=by rw[<-ht];exact hor24 s hs
  have hoS:=(hor s hs).trans (congrArg (fun n:Nat=>(n:Int)) ht)
  have hL1:stF p most r s []=[]:=by
   by_cases e:stF p most r s []=[]
   ·exact e
   ·exact absurd h (sP (cS (Nat.zero_le _)).2.1 e)
  rw[hL1,ht] at h
  have i1:=fun (R:Res) [Tab LT R] (g:R.σ)=>ih.nn R s g hs hL1
  have i2:∀(R:Res) [Tab LT R] (g:R.σ),Does Tryd.prog R 78 [.int .i64 ((k:Int)+1),.int .u64 (IntKind.u64.wrap ((BitVec.ofInt 64 (s:Int)|||BitVec.ofInt 64 ((2^(O.l.getD k 0).toNat:Nat):Int)).toNat:Int)),.ref 0 0,.ref 1 0,.ref 2 0,.ref 3 0,.ref 4 0] [.cells false 1 (fun _=>.fz .nil 0 0 (fun _ _=>.any)),.cells false 1 (fun _=>.int .i64 most),.cells false 1 (fun _=>aj O),.cells false 1 (fun _=>.fn 78 0 (nth []) 5 (nth [.ref 0 0,.ref 1 0,.ref 2 0,.ref 3 0,.ref 4 0])),.cells false 2 (nth [.int .i64 p.atoms,ad p.rules])] g (.ret (.tup 0 (nth []))) [.cells false 1 (fun _=>.fz .nil 0 0 (fun _ _=>.any)),.cells false 1 (fun _=>.int .i64 most),.cells false 1 (fun _=>aj O),.cells false 1 (fun _=>.fn 78 0 (nth []) 5 (nth [.ref 0 0,.ref 1 0,.ref 2 0,.ref 3 0,.ref 4 0])),.cells false 2 (nth [.int .i64 p.atoms,ad p.rules])] g:=fun R _ g=>by rw[hoS];exact ih.nn R t g ht24 h
  refine dP (nt:=47) (rs:=[]) (k0:=5) (by kernel_rfl) (by kernel_rfl) (by kernel_rfl) rfl ?_
  refine vcQ [[0,1,0],[0,1,1,1,1]] (lkL [(0,[0,1,2,4,5,6,9]),(1,[0,1,2,4,5,6,14]),(2,[0,1,4,5])]) (lkL [(2,[(4,ROrc.call (tup 0 (nth [])) [cells false 1 fun (x:Nat)=>fz Fz.nil 0 0 fun _ _=>any,cells false 1 fun (x:Nat)=>int i64 (most:Int),cells false 1 fun (x:Nat)=>aj O,cells false 1 fun (x:Nat)=>fn 78 0 (nth []) 5 (nth [ref 0 0,ref 1 0,ref 2 0,ref 3 0,ref 4 0]),cells false 2 (nth [int i64 p.atoms,ad p.rules])] g)]),(3,[(8,ROrc.pcall (int u64 (↑(2^(O.l.getD k 0).toNat):Int))),(10,ROrc.callS (tup 0 (nth [])) [(2,cells false 1 fun (x:Nat)=>aj O)] g)])]) (fun Q=>(fun (u1:List AObj)=>(fun (u2:Int)=>(fun (u3:Int)=>(fun (u4:Bool)=>1<=1/\1<=1/\(u4=true->Wp Tryd.prog R 47 5 Rd.top (aD Tryd.prog 78) [0,1,0] (aT Tryd.prog R 47 5 Rd.top (aD Tryd.prog 78) Q [Kont.blk 0]) (St.mk [(0,int i64 u3),(1,int u64 (s:Int)),(2,ref 0 0),(4,ref 2 0),(5,ref 3 0),(6,ref 4 0),(9,AV.bool u4)] u1 g))/\(u4=false->1<=1/\(decide (u3<u2)=true->1<=1/\(-9223372036854775808<=u3+1/\u3+1<=9223372036854775807)/\(true=true/\Does Tryd.prog R 78 [int i64 (u3+1),int u64 (s:Int),ref 0 0,ref 1 0,ref 2 0,ref 3 0,ref 4 0] u1 g (ret (tup 0 (nth []))) u1 g)/\Tables.follows Tryd.prog.toTables Departure.mixedOrders=true/\1<=1/\(-9223372036854775808<=u3+1/\u3+1<=9223372036854775807)/\1<=1/\(0<=u3/\u3<u2)/\1<=1/\(∀(hp:List AObj) (g:R.σ),true=true/\Does Tryd.prog R 79 [ab O.l k] hp g (ret (int u64 (↑(2^(O.l.getD k 0).toNat):Int))) hp g)/\(true=true/\Does Tryd.prog R 78 [int i64 (u3+1),int u64 (IntKind.wrap u64 (↑(BitVec.toNat (BitVec.ofInt 64 (s:Int)|||BitVec.ofInt 64 (↑(2^(O.l.getD k 0).toNat):Int))):Int)),ref 0 0,ref 1 0,ref 2 0,ref 3 0,ref 4 0] u1 g (ret (tup 0 (nth []))) u1 g)/\Q AEx.normal (St.mk [] u1 g))/\(decide (u3<u2)=false->Wp Tryd.prog R 47 5 Rd.top (aD Tryd.prog 78) [0,1,1,1,1] (aT Tryd.prog R 47 5 Rd.top (aD Tryd.prog 78) Q [Kont.blk 0]) (St.mk [(0,int i64 u3),(1,int u64 (s:Int)),(2,ref 0 0),(4,ref 2 0),(5,ref 3 0),(6,ref 4 0),(14,AV.bool (decide (u3<u2)))] u1 g)))) ((↑0:Int)==(most:Int))) ((k:Int))) ((O.l.length:Int))) ([cells false 1 fun (x:Nat)=>fz Fz.nil 0 0 fun _ _=>any,cells false 1 fun (x:Nat)=>int i64 (most:Int),cells false 1 fun (x:Nat)=>fz O.2 1 (O.l.length) fun (i x:Nat)=>ab O.l i,cells false 1 fun (x:Nat)=>fn 78 0 (nth []) 5 (nth [ref 0 0,ref 1 0,ref 2 0,ref 3 0,ref 4 0]),cells false 2 (nth [int i64 p.atoms,ad p.rules])])) (fun _=>by kernel_rfl) ⟨by omega,by omega,fun hcc=>(nomatch (hz.symm.trans hcc)),fun _=>⟨by omega,fun _=>⟨by omega,by omega,⟨rfl,(i1 _ _)⟩,by kernel_rfl,by omega,by omega,by omega,by omega,by omega,(fun _ _=>⟨rfl,(eN _ _ (by omega) _ _)⟩),⟨rfl,(i2 _ _)⟩,?_⟩,fun hcc=>(nomatch (hb.symm.trans hcc))⟩⟩
  refine(aw (aX _ _ rfl trivial rfl rfl rfl) (Av _))
 ·intro R _ s m' L' g hs h hL' hm'
  rw[e0,if_neg (by show ¬0=most;omega)] at h
  obtain⟨t,ht⟩:∃t,s|||2^(O.l.getD k 0).toNat=t:=⟨_,rfl⟩
  have ht24:t<2^24:=by rw[<-ht];exact hor24 s hs
  have hoS:=(hor s hs).trans (congrArg (fun n:Nat=>(n:Int)) ht)
  rw[ht] at h
  obtain⟨L,hL⟩:∃L,stF p most r s []=L:=⟨_,rfl⟩
  have hlen:=cS (p:=p) (most:=most) (r:=r) (s:=s) (out:=[]) (Nat.zero_le _)
  rw[hL] at h hlen
  by_cases e:L=[]
  ·subst e
   have i1:=fun (R:Res) [Tab LT R] (g:R.σ)=>ih.nn R s g hs hL
   have i2:∀(R:Res) [Tab LT R] (g:R.σ),Does Tryd.prog R 78 [.int .i64 ((k:Int)+1),.int .u64 (IntKind.u64.wrap ((BitVec.ofInt 64 (s:Int)|||BitVec.ofInt 64 ((2^(O.l.getD k 0).toNat:Nat):Int)).toNat:Int)),.ref 0 0,.ref 1 0,.ref 2 0,.ref 3 0,.ref 4 0] [.cells false 1 (fun _=>.fz .nil 0 0 (fun _ _=>.any)),.cells false 1 (fun _=>.int .i64 most),.cells false 1 (fun _=>aj O),.cells false 1 (fun _=>.fn 78 0 (nth []) 5 (nth [.ref 0 0,.ref 1 0,.ref 2 0,.ref 3 0,.ref 4 0])),.cells false 2 (nth [.int .i64 p.atoms,ad p.rules])] g (.ret (.tup 0 (nth []))) [.cells false 1 (fun _=>.ow true 5 m' 1),.cells false 1 (fun _=>.int .i64 most),.cells false 1 (fun _=>aj O),.cells false 1 (fun _=>.fn 78 0 (nth []) 5 (nth [.ref 0 0,.ref 1 0,.ref 2 0,.ref 3 0,.ref 4 0])),.cells false 2 (nth [.int .i64 p.atoms,ad p.rules]),.cells false (m'*1) (aB L')] g:=fun R _ g=>by rw[hoS];exact ih.nw R t m' L' g ht24 h hL' hm'
   refine dP (nt:=47) (rs:=[]) (k0:=5) (by kernel_rfl) (by kernel_rfl) (by kernel_rfl) rfl ?_
   refine vcQ [[0,1,0],[0,1,1,1,1]] (lkL [(0,[0,1,2,4,5,6,9]),(1,[0,1,2,4,5,6,14]),(2,[0,1,4,5])]) (lkL [(2,[(4,ROrc.call (tup 0 (nth [])) [cells false 1 fun (x:Nat)=>fz Fz.nil 0 0 fun _ _=>any,cells false 1 fun (x:Nat)=>int i64 (most:Int),cells false 1 fun (x:Nat)=>aj O,cells false 1 fun (x:Nat)=>fn 78 0 (nth []) 5 (nth [ref 0 0,ref 1 0,ref 2 0,ref 3 0,ref 4 0]),cells false 2 (nth [int i64 p.atoms,ad p.rules])] g)]),(3,[(8,ROrc.pcall (int u64 (↑(2^(O.l.getD k 0).toNat):Int))),(10,ROrc.callN (tup 0 (nth [])) [(0,cells false 1 fun (x:Nat)=>ow true 5 m' 1),(2,cells false 1 fun (x:Nat)=>aj O)] [cells false (m'*1) (aB L')] g)])]) (fun Q=>(fun (u1:List AObj)=>(fun (u2:List AObj)=>(fun (u3:Int)=>(fun (u4:Int)=>(fun (u5:Bool)=>1<=1/\1<=1/\(u5=true->Wp Tryd.prog R 47 5 Rd.top (aD Tryd.prog 78) [0,1,0] (aT Tryd.prog R 47 5 Rd.top (aD Tryd.prog 78) Q [Kont.blk 0]) (St.mk [(0,int i64 u4),(1,int u64 (s:Int)),(2,ref 0 0),(4,ref 2 0),(5,ref 3 0),(6,ref 4 0),(9,AV.bool u5)] u1 g))/\(u5=false->1<=1/\(decide (u4<u3)=true->1<=1/\(-9223372036854775808<=u4+1/\u4+1<=9223372036854775807)/\(true=true/\Does Tryd.prog R 78 [int i64 (u4+1),int u64 (s:Int),ref 0 0,ref 1 0,ref 2 0,ref 3 0,ref 4 0] u1 g (ret (tup 0 (nth []))) u1 g)/\Tables.follows Tryd.prog.toTables Departure.mixedOrders=true/\1<=1/\(-9223372036854775808<=u4+1/\u4+1<=9223372036854775807)/\1<=1/\(0<=u4/\u4<u3)/\1<=1/\(∀(hp:List AObj) (g:R.σ),true=true/\Does Tryd.prog R 79 [ab O.l k] hp g (ret (int u64 (↑(2^(O.l.getD k 0).toNat):Int))) hp g)/\(true=true/\Does Tryd.prog R 78 [int i64 (u4+1),int u64 (IntKind.wrap u64 (↑(BitVec.toNat (BitVec.ofInt 64 (s:Int)|||BitVec.ofInt 64 (↑(2^(O.l.getD k 0).toNat):Int))):Int)),ref 0 0,ref 1 0,ref 2 0,ref 3 0,ref 4 0] u1 g (ret (tup 0 (nth []))) u2 g)/\Q AEx.normal (St.mk [] u2 g))/\(decide (u4<u3)=false->Wp Tryd.prog R 47 5 Rd.top (aD Tryd.prog 78) [0,1,1,1,1] (aT Tryd.prog R 47 5 Rd.top (aD Tryd.prog 78) Q [Kont.blk 0]) (St.mk [(0,int i64 u4),(1,int u64 (s:Int)),(2,ref 0 0),(4,ref 2 0),(5,ref 3 0),(6,ref 4 0),(14,AV.bool (decide (u4<u3)))] u1 g)))) ((↑0:Int)==(most:Int))) ((k:Int))) ((O.l.length:Int))) ([cells false 1 fun (x:Nat)=>ow true 5 m' 1,cells false 1 fun (x:Nat)=>int i64 (most:Int),cells false 1 fun (x:Nat)=>fz O.2 1 (O.l.length) fun (i x:Nat)=>ab O.l i,cells false 1 fun (x:Nat)=>fn 78 0 (nth []) 5 (nth [ref 0 0,ref 1 0,ref 2 0,ref 3 0,ref 4 0]),cells false 2 (nth [int i64 p.atoms,ad p.rules]),cells false (m'*1) fun (a:Nat)=>fz Fz.auto 1 ((ag (L'.getD a 0)).l.length) fun (i x:Nat)=>ab (ag (L'.getD a 0)).l i])) ([cells false 1 fun (x:Nat)=>fz Fz.nil 0 0 fun _ _=>any,cells false 1 fun (x:Nat)=>int i64 (most:Int),cells false 1 fun (x:Nat)=>fz O.2 1 (O.l.length) fun (i x:Nat)=>ab O.l i,cells false 1 fun (x:Nat)=>fn 78 0 (nth []) 5 (nth [ref 0 0,ref 1 0,ref 2 0,ref 3 0,ref 4 0]),cells false 2 (nth [int i64 p.atoms,ad p.rules])])) (fun _=>by kernel_rfl) ⟨by omega,by omega,fun hcc=>(nomatch (hz.symm.trans hcc)),fun _=>⟨by omega,fun _=>⟨by omega,by omega,⟨rfl,(i1 _ _)⟩,by kernel_rfl,by omega,by omega,by omega,by omega,by omega,(fun _ _=>⟨rfl,(eN _ _ (by omega) _ _)⟩),⟨rfl,(i2 _ _)⟩,?_⟩,fun hcc=>(nomatch (hb.symm.trans hcc))⟩⟩
   refine(aw (aX _ _ rfl trivial rfl rfl rfl) (Av _))
  ·obtain⟨m,hmL⟩:∃m,m=L.length:=⟨_,rfl⟩
   have h0:0<m:=by rw[hmL];exact List.length_pos_iff.2 e
   have hmm:m<=most:=by rw[hmL];exact hlen.2.1
   have hlen2:=cS (p:=p) (most:=most) (r:=r) (s:=t) (out:=L) hlen.2.1
   rw[h] at hlen2
   have h0':0<m':=by omega
   have hmm':m'<=most:=by omega
   have i1:=fun (R:Res) [Tab LT R] (g:R.σ)=>ih.nw R s m L g hs hL e hmL
   by_cases hmm1:m=m'
   ·have hLL:L'=L:=hlen2.2.2 (by omega)
    subst hLL
    subst hmm1
    have i2:∀(R:Res) [Tab LT R] (g:R.σ),Does Tryd.prog R 78 [.int .i64 ((k:Int)+1),.int .u64 (IntKind.u64.wrap ((BitVec.ofInt 64 (s:Int)|||BitVec.ofInt 64 ((2^(O.l.getD k 0).toNat:Nat):Int)).toNat:Int)),.ref 0 0,.ref 1 0,.ref 2 0,.ref 3 0,.ref 4 0] [.cells false 1 (fun _=>.ow true 5 m 1),.cells false 1 (fun _=>.int .i64 most),.cells false 1 (fun _=>aj O),.cells false 1 (fun _=>.fn 78 0 (nth []) 5 (nth [.ref 0 0,.ref 1 0,.ref 2 0,.ref 3 0,.ref 4 0])),.cells false 2 (nth [.int .i64 p.atoms,ad p.rules]),.cells false (m*1) (aB L')] g (.ret (.tup 0 (nth []))) [.cells false 1 (fun _=>.ow true 5 m 1),.cells false 1 (fun _=>.int .i64 most),.cells false 1 (fun _=>aj O),.cells false 1 (fun _=>.fn 78 0 (nth []) 5 (nth [.ref 0 0,.ref 1 0,.ref 2 0,.ref 3 0,.ref 4 0])),.cells false 2 (nth [.int .i64 p.atoms,ad p.rules]),.cells false (m*1) (aB L')] g:=fun R _ g=>by rw[hoS];exact ih.on R t m L' g ht24 hL' hmL hmm h
    refine dP (nt:=47) (rs:=[]) (k0:=5) (by kernel_rfl) (by kernel_rfl) (by kernel_rfl) rfl ?_
    refine vcQ [[0,1,0],[0,1,1,1,1]] (lkL [(0,[0,1,2,4,5,6,9]),(1,[0,1,2,4,5,6,14]),(2,[0,1,4,5])]) (lkL [(2,[(4,ROrc.call (tup 0 (nth [])) [cells false 1 fun (x:Nat)=>ow true 5 m 1,cells false 1 fun (x:Nat)=>int i64 (most:Int),cells false 1 fun (x:Nat)=>aj O,cells false 1 fun (x:Nat)=>fn 78 0 (nth []) 5 (nth [ref 0 0,ref 1 0,ref 2 0,ref 3 0,ref 4 0]),cells false 2 (nth [int i64 p.atoms,ad p.rules]),cells false (m*1) (aB L')] g)]),(3,[(8,ROrc.pcall (int u64 (↑(2^(O.l.getD k 0).toNat):Int))),(10,ROrc.callS (tup 0 (nth [])) [(2,cells false 1 fun (x:Nat)=>aj O),(5,cells false (m*1) (aB L'))] g)])]) (fun Q=>(fun (u1:List AObj)=>(fun (u2:List AObj)=>(fun (u3:Int)=>(fun (u4:Int)=>(fun (u5:Bool)=>1<=1/\1<=1/\(u5=true->Wp Tryd.prog R 47 5 Rd.top (aD Tryd.prog 78) [0,1,0] (aT Tryd.prog R 47 5 Rd.top (aD Tryd.prog 78) Q [Kont.blk 0]) (St.mk [(0,int i64 u4),(1,int u64 (s:Int)),(2,ref 0 0),(4,ref 2 0),(5,ref 3 0),(6,ref 4 0),(9,AV.bool u5)] u2 g))/\(u5=false->1<=1/\(decide (u4<u3)=true->1<=1/\(-9223372036854775808<=u4+1/\u4+1<=9223372036854775807)/\(true=true/\Does Tryd.prog R 78 [int i64 (u4+1),int u64 (s:Int),ref 0 0,ref 1 0,ref 2 0,ref 3 0,ref 4 0] u2 g (ret (tup 0 (nth []))) u1 g)/\Tables.follows Tryd.prog.toTables Departure.mixedOrders=true/\1<=1/\(-9223372036854775808<=u4+1/\u4+1<=9223372036854775807)/\1<=1/\(0<=u4/\u4<u3)/\1<=1/\(∀(hp:List AObj) (g:R.σ),true=true/\Does Tryd.prog R 79 [ab O.l k] hp g (ret (int u64 (↑(2^(O.l.getD k 0).toNat):Int))) hp g)/\(true=true/\Does Tryd.prog R 78 [int i64 (u4+1),int u64 (IntKind.wrap u64 (↑(BitVec.toNat (BitVec.ofInt 64 (s:Int)|||BitVec.ofInt 64 (↑(2^(O.l.getD k 0).toNat):Int))):Int)),ref 0 0,ref 1 0,ref 2 0,ref 3 0,ref 4 0] u1 g (ret (tup 0 (nth []))) u1 g)/\Q AEx.normal (St.mk [] u1 g))/\(decide (u4<u3)=false->Wp Tryd.prog R 47 5 Rd.top (aD Tryd.prog 78) [0,1,1,1,1] (aT Tryd.prog R 47 5 Rd.top (aD Tryd.prog 78) Q [Kont.blk 0]) (St.mk [(0,int i64 u4),(1,int u64 (s:Int)),(2,ref 0 0),(4,ref 2 0),(5,ref 3 0),(6,ref 4 0),(14,AV.bool (decide (u4<u3)))] u2 g)))) ((↑0:Int)==(most:Int))) ((k:Int))) ((O.l.length:Int))) ([cells false 1 fun (x:Nat)=>fz Fz.nil 0 0 fun _ _=>any,cells false 1 fun (x:Nat)=>int i64 (most:Int),cells false 1 fun (x:Nat)=>fz O.2 1 (O.l.length) fun (i x:Nat)=>ab O.l i,cells false 1 fun (x:Nat)=>fn 78 0 (nth []) 5 (nth [ref 0 0,ref 1 0,ref 2 0,ref 3 0,ref 4 0]),cells false 2 (nth [int i64 p.atoms,ad p.rules])])) ([cells false 1 fun (x:Nat)=>ow true 5 m 1,cells false 1 fun (x:Nat)=>int i64 (most:Int),cells false 1 fun (x:Nat)=>fz O.2 1 (O.l.length) fun (i x:Nat)=>ab O.l i,cells false 1 fun (x:Nat)=>fn 78 0 (nth []) 5 (nth [ref 0 0,ref 1 0,ref 2 0,ref 3 0,ref 4 0]),cells false 2 (nth [int i64 p.atoms,ad p.rules]),cells false (m*1) fun (a:Nat)=>fz Fz.auto 1 ((ag (L'.getD a 0)).l.length) fun (i x:Nat)=>ab (ag (L'.getD a 0)).l i])) (fun _=>by kernel_rfl) ⟨by omega,by omega,fun hcc=>(nomatch (hz.symm.trans hcc)),fun _=>⟨by omega,fun _=>⟨by omega,by omega,⟨rfl,(i1 _ _)⟩,by kernel_rfl,by omega,by omega,by omega,by omega,by omega,(fun _ _=>⟨rfl,(eN _ _ (by omega) _ _)⟩),⟨rfl,(i2 _ _)⟩,?_⟩,fun hcc=>(nomatch (hb.symm.trans hcc))⟩⟩
    refine(aw (aX _ _ rfl trivial rfl rfl rfl) (Av _))
   ·have i2:∀(R:Res) [Tab LT R] (g:R.σ),Does Tryd.prog R 78 [.int .i64 ((k:Int)+1),.int .u64 (IntKind.u64.wrap ((BitVec.ofInt 64 (s:Int)|||BitVec.ofInt 64 ((2^(O.l.getD k 0).toNat:Nat):Int)).toNat:Int)),.ref 0 0,.ref 1 0,.ref 2 0,.ref 3 0,.ref 4 0] [.cells false 1 (fun _=>.ow true 5 m 1),.cells false 1 (fun _=>.int .i64 most),.cells false 1 (fun _=>aj O),.cells false 1 (fun _=>.fn 78 0 (nth []) 5 (nth [.ref 0 0,.ref 1 0,.ref 2 0,.ref 3 0,.ref 4 0])),.cells false 2 (nth [.int .i64 p.atoms,ad p.rules]),.cells false (m*1) (aB L)] g (.ret (.tup 0 (nth []))) [.cells false 1 (fun _=>.ow true 6 m' 1),.cells false 1 (fun _=>.int .i64 most),.cells false 1 (fun _=>aj O),.cells false 1 (fun _=>.fn 78 0 (nth []) 5 (nth [.ref 0 0,.ref 1 0,.ref 2 0,.ref 3 0,.ref 4 0])),.cells false 2 (nth [.int .i64 p.atoms,ad p.rules]),.dead,.cells false (m'*1) (aB L')] g:=fun R _ g=>by rw[hoS];exact ih.ow R t m m' L L' g ht24 e hmL hmm h hm' hmm1
    refine dP (nt:=47) (rs:=[]) (k0:=5) (by kernel_rfl) (by kernel_rfl) (by kernel_rfl) rfl ?_
    refine vcQ [[0,1,0],[0,1,1,1,1]] (lkL [(0,[0,1,2,4,5,6,9]),(1,[0,1,2,4,5,6,14]),(2,[0,1,4,5])]) (lkL [(2,[(4,ROrc.call (tup 0 (nth [])) [cells false 1 fun (x:Nat)=>ow true 5 m 1,cells false 1 fun (x:Nat)=>int i64 (most:Int),cells false 1 fun (x:Nat)=>aj O,cells false 1 fun (x:Nat)=>fn 78 0 (nth []) 5 (nth [ref 0 0,ref 1 0,ref 2 0,ref 3 0,ref 4 0]),cells false 2 (nth [int i64 p.atoms,ad p.rules]),cells false (m*1) (aB L)] g)]),(3,[(8,ROrc.pcall (int u64 (↑(2^(O.l.getD k 0).toNat):Int))),(10,ROrc.callN (tup 0 (nth [])) [(0,cells false 1 fun (x:Nat)=>ow true 6 m' 1),(2,cells false 1 fun (x:Nat)=>aj O),(5,dead)] [cells false (m'*1) (aB L')] g)])]) (fun Q=>(fun (u1:List AObj)=>(fun (u2:List AObj)=>(fun (u3:List AObj)=>(fun (u4:Int)=>(fun (u5:Int)=>(fun (u6:Bool)=>1<=1/\1<=1/\(u6=true->Wp Tryd.prog R 47 5 Rd.top (aD Tryd.prog 78) [0,1,0] (aT Tryd.prog R 47 5 Rd.top (aD Tryd.prog 78) Q [Kont.blk 0]) (St.mk [(0,int i64 u5),(1,int u64 (s:Int)),(2,ref 0 0),(4,ref 2 0),(5,ref 3 0),(6,ref 4 0),(9,AV.bool u6)] u1 g))/\(u6=false->1<=1/\(decide (u5<u4)=true->1<=1/\(-9223372036854775808<=u5+1/\u5+1<=9223372036854775807)/\(true=true/\Does Tryd.prog R 78 [int i64 (u5+1),int u64 (s:Int),ref 0 0,ref 1 0,ref 2 0,ref 3 0,ref 4 0] u1 g (ret (tup 0 (nth []))) u3 g)/\Tables.follows Tryd.prog.toTables Departure.mixedOrders=true/\1<=1/\(-9223372036854775808<=u5+1/\u5+1<=9223372036854775807)/\1<=1/\(0<=u5/\u5<u4)/\1<=1/\(∀(hp:List AObj) (g:R.σ),true=true/\Does Tryd.prog R 79 [ab O.l k] hp g (ret (int u64 (↑(2^(O.l.getD k 0).toNat):Int))) hp g)/\(true=true/\Does Tryd.prog R 78 [int i64 (u5+1),int u64 (IntKind.wrap u64 (↑(BitVec.toNat (BitVec.ofInt 64 (s:Int)|||BitVec.ofInt 64 (↑(2^(O.l.getD k 0).toNat):Int))):Int)),ref 0 0,ref 1 0,ref 2 0,ref 3 0,ref 4 0] u3 g (ret (tup 0 (nth []))) u2 g)/\Q AEx.normal (St.mk [] u2 g))/\(decide (u5<u4)=false->Wp Tryd.prog R 47 5 Rd.top (aD Tryd.prog 78) [0,1,1,1,1] (aT Tryd.prog R 47 5 Rd.top (aD Tryd.prog 78) Q [Kont.blk 0]) (St.mk [(0,int i64 u5),(1,int u64 (s:Int)),(2,ref 0 0),(4,ref 2 0),(5,ref 3 0),(6,ref 4 0),(14,AV.bool (decide (u5<u4)))] u1 g)))) ((↑0:Int)==(most:Int))) ((k:Int))) ((O.l.length:Int))) ([cells false 1 fun (x:Nat)=>ow true 5 m 1,cells false 1 fun (x:Nat)=>int i64 (most:Int),cells false 1 fun (x:Nat)=>fz O.2 1 (O.l.length) fun (i x:Nat)=>ab O.l i,cells false 1 fun (x:Nat)=>fn 78 0 (nth []) 5 (nth [ref 0 0,ref 1 0,ref 2 0,ref 3 0,ref 4 0]),cells false 2 (nth [int i64 p.atoms,ad p.rules]),cells false (m*1) fun (a:Nat)=>fz Fz.auto 1 ((ag (L.getD a 0)).l.length) fun (i x:Nat)=>ab (ag (L.getD a 0)).l i])) ([cells false 1 fun (x:Nat)=>ow true 6 m' 1,cells false 1 fun (x:Nat)=>int i64 (most:Int),cells false 1 fun (x:Nat)=>fz O.2 1 (O.l.length) fun (i x:Nat)=>ab O.l i,cells false 1 fun (x:Nat)=>fn 78 0 (nth []) 5 (nth [ref 0 0,ref 1 0,ref 2 0,ref 3 0,ref 4 0]),cells false 2 (nth [int i64 p.atoms,ad p.rules]),dead,cells false (m'*1) fun (a:Nat)=>fz Fz.auto 1 ((ag (L'.getD a 0)).l.length) fun (i x:Nat)=>ab (ag (L'.getD a 0)).l i])) ([cells false 1 fun (x:Nat)=>fz Fz.nil 0 0 fun _ _=>any,cells false 1 fun (x:Nat)=>int i64 (most:Int),cells false 1 fun (x:Nat)=>fz O.2 1 (O.l.length) fun (i x:Nat)=>ab O.l i,cells false 1 fun (x:Nat)=>fn 78 0 (nth []) 5 (nth [ref 0 0,ref 1 0,ref 2 0,ref 3 0,ref 4 0]),cells false 2 (nth [int i64 p.atoms,ad p.rules])])) (fun _=>by kernel_rfl) ⟨by omega,by omega,fun hcc=>(nomatch (hz.symm.trans hcc)),fun _=>⟨by omega,fun _=>⟨by omega,by omega,⟨rfl,(i1 _ _)⟩,by kernel_rfl,by omega,by omega,by omega,by omega,by omega,(fun _ _=>⟨rfl,(eN _ _ (by omega) _ _)⟩),⟨rfl,(i2 _ _)⟩,?_⟩,fun hcc=>(nomatch (hb.symm.trans hcc))⟩⟩
    refine lX (.tup 0 (nth [])) _ rfl trivial ?_
    refine eG [0,1,2,3,4,6] 7 ?_ ?_ ?_ ?_ ?_ ?_ ?_
    ·rfl
    ·rfl
    ·rfl
    ·rfl
    ·rfl
    ·exact⟨Av _,trivial⟩
    ·exact⟨⟨rfl,Nat.le_refl _,fun j hj=>Av _⟩,Ay _,Ay _,⟨rfl,Nat.le_refl _,fun j hj=>lY⟩,⟨rfl,Nat.le_refl _,fun j hj=>match j,hj with|0,_=>Av _|1,_=>bu (by exact trivial)⟩,⟨rfl,Nat.le_refl _,fun j hj=>Av _⟩,trivial⟩
 ·intro R _ s m L g hs hL hmL hmm h
  rw[e0] at h
  have h0:0<m:=by rw[hmL];exact List.length_pos_iff.2 hL
  by_cases hf:m=most
  ·have hz:((m:Int)==(most:Int))=true:=by rw[beq_iff_eq];omega
   refine dP (nt:=47) (rs:=[]) (k0:=6) (by kernel_rfl) (by kernel_rfl) (by kernel_rfl) rfl ?_
   refine vcQ [[0,1,1]] (lkL [(0,[0,1,2,4,5,6,9])]) (fun _=>[]) (fun Q=>(fun (u1:St R.σ)=>1<=1/\1<=1/\(((m:Int)==(most:Int))=true->Q AEx.normal u1)/\(((m:Int)==(most:Int))=false->Wp Tryd.prog R 47 6 Rd.top (aD Tryd.prog 78) [0,1,1] (aT Tryd.prog R 47 6 Rd.top (aD Tryd.prog 78) Q [Kont.blk 0]) u1)) (St.mk [(0,int i64 (k:Int)),(1,int u64 (s:Int)),(2,ref 0 0),(4,ref 2 0),(5,ref 3 0),(6,ref 4 0),(9,AV.bool ((m:Int)==(most:Int)))] [cells false 1 fun (x:Nat)=>ow true 5 m 1,cells false 1 fun (x:Nat)=>int i64 (most:Int),cells false 1 fun (x:Nat)=>fz O.2 1 (O.l.length) fun (i x:Nat)=>ab O.l i,cells false 1 fun (x:Nat)=>fn 78 0 (nth []) 5 (nth [ref 0 0,ref 1 0,ref 2 0,ref 3 0,ref 4 0]),cells false 2 (nth [int i64 p.atoms,ad p.rules]),cells false (m*1) fun (a:Nat)=>fz Fz.auto 1 ((ag (L.getD a 0)).l.length) fun (i x:Nat)=>ab (ag (L.getD a 0)).l i] g)) (fun _=>by kernel_rfl) ⟨by omega,by omega,fun _=>?_,fun hcc=>(nomatch (hz.symm.trans hcc))⟩
   refine(aw (aX _ _ rfl trivial rfl rfl rfl) (Av _))
  ·have hz:((m:Int)==(most:Int))=false:=by rw[beq_eq_false_iff_ne];omega
   rw[if_neg (by omega)] at h
   obtain⟨t,ht⟩:∃t,s|||2^(O.l.getD k 0).toNat=t:=⟨_,rfl⟩
   have ht24:t<2^24:=by rw[<-ht];exact hor24 s hs
   have hoS:=(hor s hs).trans (congrArg (fun n:Nat=>(n:Int)) ht)
   rw[ht] at h
   have hlen:=cS (p:=p) (most:=most) (r:=r) (s:=s) (out:=L) (by omega)
   have hlen2:=cS (p:=p) (most:=most) (r:=r) (s:=t) (out:=stF p most r s L) hlen.2.1
   rw[h] at hlen2
   have hL1:=hlen.2.2 (by omega)
   rw[hL1] at h
   have i1:=fun (R:Res) [Tab LT R] (g:R.σ)=>ih.on R s m L g hs hL hmL hmm hL1
   have i2:∀(R:Res) [Tab LT R] (g:R.σ),Does Tryd.prog R 78 [.int .i64 ((k:Int)+1),.int .u64 (IntKind.u64.wrap ((BitVec.ofInt 64 (s:Int)|||BitVec.ofInt 64 ((2^(O.l.getD k 0).toNat:Nat):Int)).toNat:Int)),.ref 0 0,.ref 1 0,.ref 2 0,.ref 3 0,.ref 4 0] [.cells false 1 (fun _=>.ow true 5 m 1),.cells false 1 (fun _=>.int .i64 most),.cells false 1 (fun _=>aj O),.cells false 1 (fun _=>.fn 78 0 (nth []) 5 (nth [.ref 0 0,.ref 1 0,.ref 2 0,.ref 3 0,.ref 4 0])),.cells false 2 (nth [.int .i64 p.atoms,ad p.rules]),.cells false (m*1) (aB L)] g (.ret (.tup 0 (nth []))) [.cells false 1 (fun _=>.ow true 5 m 1),.cells false 1 (fun _=>.int .i64 most),.cells false 1 (fun _=>aj O),.cells false 1 (fun _=>.fn 78 0 (nth []) 5 (nth [.ref 0 0,.ref 1 0,.ref 2 0,.ref 3 0,.ref 4 0])),.cells false 2 (nth [.int .i64 p.atoms,ad p.rules]),.cells false (m*1) (aB L)] g:=fun R _ g=>by rw[hoS];exact ih.on R t m L g ht24 hL hmL hmm h
   refine dP (nt:=47) (rs:=[]) (k0:=6) (by kernel_rfl) (by kernel_rfl) (by kernel_rfl) rfl ?_
   refine vcQ [[0,1,0],[0,1,1,1,1]] (lkL [(0,[0,1,2,4,5,6,9]),(1,[0,1,2,4,5,6,14]),(2,[0,1,4,5])]) (lkL [(2,[(4,ROrc.call (tup 0 (nth [])) [cells false 1 fun (x:Nat)=>ow true 5 m 1,cells false 1 fun (x:Nat)=>int i64 (most:Int),cells false 1 fun (x:Nat)=>aj O,cells false 1 fun (x:Nat)=>fn 78 0 (nth []) 5 (nth [ref 0 0,ref 1 0,ref 2 0,ref 3 0,ref 4 0]),cells false 2 (nth [int i64 p.atoms,ad p.rules]),cells false (m*1) (aB L)] g)]),(3,[(8,ROrc.pcall (int u64 (↑(2^(O.l.getD k 0).toNat):Int))),(10,ROrc.callS (tup 0 (nth [])) [(2,cells false 1 fun (x:Nat)=>aj O),(5,cells false (m*1) (aB L))] g)])]) (fun Q=>(fun (u1:List AObj)=>(fun (u2:Int)=>(fun (u3:Int)=>(fun (u4:Bool)=>1<=1/\1<=1/\(u4=true->Wp Tryd.prog R 47 6 Rd.top (aD Tryd.prog 78) [0,1,0] (aT Tryd.prog R 47 6 Rd.top (aD Tryd.prog 78) Q [Kont.blk 0]) (St.mk [(0,int i64 u3),(1,int u64 (s:Int)),(2,ref 0 0),(4,ref 2 0),(5,ref 3 0),(6,ref 4 0),(9,AV.bool u4)] u1 g))/\(u4=false->1<=1/\(decide (u3<u2)=true->1<=1/\(-9223372036854775808<=u3+1/\u3+1<=9223372036854775807)/\(true=true/\Does Tryd.prog R 78 [int i64 (u3+1),int u64 (s:Int),ref 0 0,ref 1 0,ref 2 0,ref 3 0,ref 4 0] u1 g (ret (tup 0 (nth []))) u1 g)/\Tables.follows Tryd.prog.toTables Departure.mixedOrders=true/\1<=1/\(-9223372036854775808<=u3+1/\u3+1<=9223372036854775807)/\1<=1/\(0<=u3/\u3<u2)/\1<=1/\(∀(hp:List AObj) (g:R.σ),true=true/\Does Tryd.prog R 79 [ab O.l k] hp g (ret (int u64 (↑(2^(O.l.getD k 0).toNat):Int))) hp g)/\(true=true/\Does Tryd.prog R 78 [int i64 (u3+1),int u64 (IntKind.wrap u64 (↑(BitVec.toNat (BitVec.ofInt 64 (s:Int)|||BitVec.ofInt 64 (↑(2^(O.l.getD k 0).toNat):Int))):Int)),ref 0 0,ref 1 0,ref 2 0,ref 3 0,ref 4 0] u1 g (ret (tup 0 (nth []))) u1 g)/\Q AEx.normal (St.mk [] u1 g))/\(decide (u3<u2)=false->Wp Tryd.prog R 47 6 Rd.top (aD Tryd.prog 78) [0,1,1,1,1] (aT Tryd.prog R 47 6 Rd.top (aD Tryd.prog 78) Q [Kont.blk 0]) (St.mk [(0,int i64 u3),(1,int u64 (s:Int)),(2,ref 0 0),(4,ref 2 0),(5,ref 3 0),(6,ref 4 0),(14,AV.bool (decide (u3<u2)))] u1 g)))) ((m:Int)==(most:Int))) ((k:Int))) ((O.l.length:Int))) ([cells false 1 fun (x:Nat)=>ow true 5 m 1,cells false 1 fun (x:Nat)=>int i64 (most:Int),cells false 1 fun (x:Nat)=>fz O.2 1 (O.l.length) fun (i x:Nat)=>ab O.l i,cells false 1 fun (x:Nat)=>fn 78 0 (nth []) 5 (nth [ref 0 0,ref 1 0,ref 2 0,ref 3 0,ref 4 0]),cells false 2 (nth [int i64 p.atoms,ad p.rules]),cells false (m*1) fun (a:Nat)=>fz Fz.auto 1 ((ag (L.getD a 0)).l.length) fun (i x:Nat)=>ab (ag (L.getD a 0)).l i])) (fun _=>by kernel_rfl) ⟨by omega,by omega,fun hcc=>(nomatch (hz.symm.trans hcc)),fun _=>⟨by omega,fun _=>⟨by omega,by omega,⟨rfl,(i1 _ _)⟩,by kernel_rfl,by omega,by omega,by omega,by omega,by omega,(fun _ _=>⟨rfl,(eN _ _ (by omega) _ _)⟩),⟨rfl,(i2 _ _)⟩,?_⟩,fun hcc=>(nomatch (hb.symm.trans hcc))⟩⟩
   refine(aw (aX _ _ rfl trivial rfl rfl rfl) (Av _))
 ·intro R _ s m m' L L' g hs hL hmL hmm h hm' hne
  rw[e0] at h
  have h0:0<m:=by rw[hmL];exact List.length_pos_iff.2 hL
  have hf:¬m=most:=fun e=>by
   rw[if_pos (by omega)] at h
   subst h
   omega
  have hz:((m:Int)==(most:Int))=false:=by rw[beq_eq_false_iff_ne];omega
  rw[if_neg (by omega)] at h
  obtain⟨t,ht⟩:∃t,s|||2^(O.l.getD k 0).toNat=t:=⟨_,rfl⟩
  have ht24:t<2^24:=by rw[<-ht];exact hor24 s hs
  have hoS:=(hor s hs).trans (congrArg (fun n:Nat=>(n:Int)) ht)
  rw[ht] at h
  have hlen:=cS (p:=p) (most:=most) (r:=r) (s:=s) (out:=L) (by omega)
  obtain⟨L1,hL1⟩:∃L1,stF p most r s L=L1:=⟨_,rfl⟩
  obtain⟨m1,hm1⟩:∃m1,m1=L1.length:=⟨_,rfl⟩
  rw[hL1] at h hlen
  have hlen2:=cS (p:=p) (most:=most) (r:=r) (s:=t) (out:=L1) hlen.2.1
  rw[h] at hlen2
  have h01:0<m1:=by omega
  have h0':0<m':=by omega
  have hmm1:m1<=most:=by omega
  have hmm':m'<=most:=by omega
  have hL1n:L1≠[]:=List.length_pos_iff.1 (by omega)
  by_cases e1:m=m1
  ·have hLL:L1=L:=hlen.2.2 (by omega)
   subst hLL
   have i1:=fun (R:Res) [Tab LT R] (g:R.σ)=>ih.on R s m L1 g hs hL hmL hmm hL1
   have i2:∀(R:Res) [Tab LT R] (g:R.σ),Does Tryd.prog R 78 [.int .i64 ((k:Int)+1),.int .u64 (IntKind.u64.wrap ((BitVec.ofInt 64 (s:Int)|||BitVec.ofInt 64 ((2^(O.l.getD k 0).toNat:Nat):Int)).toNat:Int)),.ref 0 0,.ref 1 0,.ref 2 0,.ref 3 0,.ref 4 0] [.cells false 1 (fun _=>.ow true 5 m 1),.cells false 1 (fun _=>.int .i64 most),.cells false 1 (fun _=>aj O),.cells false 1 (fun _=>.fn 78 0 (nth []) 5 (nth [.ref 0 0,.ref 1 0,.ref 2 0,.ref 3 0,.ref 4 0])),.cells false 2 (nth [.int .i64 p.atoms,ad p.rules]),.cells false (m*1) (aB L1)] g (.ret (.tup 0 (nth []))) [.cells false 1 (fun _=>.ow true 6 m' 1),.cells false 1 (fun _=>.int .i64 most),.cells false 1 (fun _=>aj O),.cells false 1 (fun _=>.fn 78 0 (nth []) 5 (nth [.ref 0 0,.ref 1 0,.ref 2 0,.ref 3 0,.ref 4 0])),.cells false 2 (nth [.int .i64 p.atoms,ad p.rules]),.dead,.cells false (m'*1) (aB L')] g:=fun R _ g=>by rw[hoS];exact ih.ow R t m m' L1 L' g ht24 hL hmL hmm h hm' hne
   refine dP (nt:=47) (rs:=[]) (k0:=6) (by kernel_rfl) (by kernel_rfl) (by kernel_rfl) rfl ?_
   refine vcQ [[0,1,0],[0,1,1,1,1]] (lkL [(0,[0,1,2,4,5,6,9]),(1,[0,1,2,4,5,6,14]),(2,[0,1,4,5])]) (lkL [(2,[(4,ROrc.call (tup 0 (nth [])) [cells false 1 fun (x:Nat)=>ow true 5 m 1,cells false 1 fun (x:Nat)=>int i64 (most:Int),cells false 1 fun (x:Nat)=>aj O,cells false 1 fun (x:Nat)=>fn 78 0 (nth []) 5 (nth [ref 0 0,ref 1 0,ref 2 0,ref 3 0,ref 4 0]),cells false 2 (nth [int i64 p.atoms,ad p.rules]),cells false (m*1) (aB L1)] g)]),(3,[(8,ROrc.pcall (int u64 (↑(2^(O.l.getD k 0).toNat):Int))),(10,ROrc.callN (tup 0 (nth [])) [(0,cells false 1 fun (x:Nat)=>ow true 6 m' 1),(2,cells false 1 fun (x:Nat)=>aj O),(5,dead)] [cells false (m'*1) (aB L')] g)])]) (fun Q=>(fun (u1:List AObj)=>(fun (u2:List AObj)=>(fun (u3:Int)=>(fun (u4:Int)=>(fun (u5:Bool)=>1<=1/\1<=1/\(u5=true->Wp Tryd.prog R 47 6 Rd.top (aD Tryd.prog 78) [0,1,0] (aT Tryd.prog R 47 6 Rd.top (aD Tryd.prog 78) Q [Kont.blk 0]) (St.mk [(0,int i64 u4),(1,int u64 (s:Int)),(2,ref 0 0),(4,ref 2 0),(5,ref 3 0),(6,ref 4 0),(9,AV.bool u5)] u1 g))/\(u5=false->1<=1/\(decide (u4<u3)=true->1<=1/\(-9223372036854775808<=u4+1/\u4+1<=9223372036854775807)/\(true=true/\Does Tryd.prog R 78 [int i64 (u4+1),int u64 (s:Int),ref 0 0,ref 1 0,ref 2 0,ref 3 0,ref 4 0] u1 g (ret (tup 0 (nth []))) u1 g)/\Tables.follows Tryd.prog.toTables Departure.mixedOrders=true/\1<=1/\(-9223372036854775808<=u4+1/\u4+1<=9223372036854775807)/\1<=1/\(0<=u4/\u4<u3)/\1<=1/\(∀(hp:List AObj) (g:R.σ),true=true/\Does Tryd.prog R 79 [ab O.l k] hp g (ret (int u64 (↑(2^(O.l.getD k 0).toNat):Int))) hp g)/\(true=true/\Does Tryd.prog R 78 [int i64 (u4+1),int u64 (IntKind.wrap u64 (↑(BitVec.toNat (BitVec.ofInt 64 (s:Int)|||BitVec.ofInt 64 (↑(2^(O.l.getD k 0).toNat):Int))):Int)),ref 0 0,ref 1 0,ref 2 0,ref 3 0,ref 4 0] u1 g (ret (tup 0 (nth []))) u2 g)/\Q AEx.normal (St.mk [] u2 g))/\(decide (u4<u3)=false->Wp Tryd.prog R 47 6 Rd.top (aD Tryd.prog 78) [0,1,1,1,1] (aT Tryd.prog R 47 6 Rd.top (aD Tryd.prog 78) Q [Kont.blk 0]) (St.mk [(0,int i64 u4),(1,int u64 (s:Int)),(2,ref 0 0),(4,ref 2 0),(5,ref 3 0),(6,ref 4 0),(14,AV.bool (decide (u4<u3)))] u1 g)))) ((m:Int)==(most:Int))) ((k:Int))) ((O.l.length:Int))) ([cells false 1 fun (x:Nat)=>ow true 6 m' 1,cells false 1 fun (x:Nat)=>int i64 (most:Int),cells false 1 fun (x:Nat)=>fz O.2 1 (O.l.length) fun (i x:Nat)=>ab O.l i,cells false 1 fun (x:Nat)=>fn 78 0 (nth []) 5 (nth [ref 0 0,ref 1 0,ref 2 0,ref 3 0,ref 4 0]),cells false 2 (nth [int i64 p.atoms,ad p.rules]),dead,cells false (m'*1) fun (a:Nat)=>fz Fz.auto 1 ((ag (L'.getD a 0)).l.length) fun (i x:Nat)=>ab (ag (L'.getD a 0)).l i])) ([cells false 1 fun (x:Nat)=>ow true 5 m 1,cells false 1 fun (x:Nat)=>int i64 (most:Int),cells false 1 fun (x:Nat)=>fz O.2 1 (O.l.length) fun (i x:Nat)=>ab O.l i,cells false 1 fun (x:Nat)=>fn 78 0 (nth []) 5 (nth [ref 0 0,ref 1 0,ref 2 0,ref 3 0,ref 4 0]),cells false 2 (nth [int i64 p.atoms,ad p.rules]),cells false (m*1) fun (a:Nat)=>fz Fz.auto 1 ((ag (L1.getD a 0)).l.length) fun (i x:Nat)=>ab (ag (L1.getD a 0)).l i])) (fun _=>by kernel_rfl) ⟨by omega,by omega,fun hcc=>(nomatch (hz.symm.trans hcc)),fun _=>⟨by omega,fun _=>⟨by omega,by omega,⟨rfl,(i1 _ _)⟩,by kernel_rfl,by omega,by omega,by omega,by omega,by omega,(fun _ _=>⟨rfl,(eN _ _ (by omega) _ _)⟩),⟨rfl,(i2 _ _)⟩,?_⟩,fun hcc=>(nomatch (hb.symm.trans hcc))⟩⟩
   refine(aw (aX _ _ rfl trivial rfl rfl rfl) (Av _))
  ·have i1:=fun (R:Res) [Tab LT R] (g:R.σ)=>ih.ow R s m m1 L L1 g hs hL hmL hmm hL1 hm1 e1
   by_cases e2:m1=m'
   ·have hLL:L'=L1:=hlen2.2.2 (by omega)
    subst hLL
    subst e2
    have i2:∀(R:Res) [Tab LT R] (g:R.σ),Does Tryd.prog R 78 [.int .i64 ((k:Int)+1),.int .u64 (IntKind.u64.wrap ((BitVec.ofInt 64 (s:Int)|||BitVec.ofInt 64 ((2^(O.l.getD k 0).toNat:Nat):Int)).toNat:Int)),.ref 0 0,.ref 1 0,.ref 2 0,.ref 3 0,.ref 4 0] [.cells false 1 (fun _=>.ow true 5 m1 1),.cells false 1 (fun _=>.int .i64 most),.cells false 1 (fun _=>aj O),.cells false 1 (fun _=>.fn 78 0 (nth []) 5 (nth [.ref 0 0,.ref 1 0,.ref 2 0,.ref 3 0,.ref 4 0])),.cells false 2 (nth [.int .i64 p.atoms,ad p.rules]),.cells false (m1*1) (aB L')] g (.ret (.tup 0 (nth []))) [.cells false 1 (fun _=>.ow true 5 m1 1),.cells false 1 (fun _=>.int .i64 most),.cells false 1 (fun _=>aj O),.cells false 1 (fun _=>.fn 78 0 (nth []) 5 (nth [.ref 0 0,.ref 1 0,.ref 2 0,.ref 3 0,.ref 4 0])),.cells false 2 (nth [.int .i64 p.atoms,ad p.rules]),.cells false (m1*1) (aB L')] g:=fun R _ g=>by rw[hoS];exact ih.on R t m1 L' g ht24 hL1n hm1 hmm1 h
    refine dP (nt:=47) (rs:=[]) (k0:=6) (by kernel_rfl) (by kernel_rfl) (by kernel_rfl) rfl ?_
    refine vcQ [[0,1,0],[0,1,1,1,1]] (lkL [(0,[0,1,2,4,5,6,9]),(1,[0,1,2,4,5,6,14]),(2,[0,1,4,5])]) (lkL [(2,[(4,ROrc.call (tup 0 (nth [])) [cells false 1 fun (x:Nat)=>ow true 6 m1 1,cells false 1 fun (x:Nat)=>int i64 (most:Int),cells false 1 fun (x:Nat)=>aj O,cells false 1 fun (x:Nat)=>fn 78 0 (nth []) 5 (nth [ref 0 0,ref 1 0,ref 2 0,ref 3 0,ref 4 0]),cells false 2 (nth [int i64 p.atoms,ad p.rules]),dead,cells false (m1*1) (aB L')] g)]),(3,[(8,ROrc.pcall (int u64 (↑(2^(O.l.getD k 0).toNat):Int))),(10,ROrc.kcall (tup 0 (nth [])))])]) (fun Q=>(fun (u1:List AObj)=>(fun (u2:List AObj)=>(fun (u3:Int)=>(fun (u4:Int)=>(fun (u5:Bool)=>1<=1/\1<=1/\(u5=true->Wp Tryd.prog R 47 6 Rd.top (aD Tryd.prog 78) [0,1,0] (aT Tryd.prog R 47 6 Rd.top (aD Tryd.prog 78) Q [Kont.blk 0]) (St.mk [(0,int i64 u4),(1,int u64 (s:Int)),(2,ref 0 0),(4,ref 2 0),(5,ref 3 0),(6,ref 4 0),(9,AV.bool u5)] u2 g))/\(u5=false->1<=1/\(decide (u4<u3)=true->1<=1/\(-9223372036854775808<=u4+1/\u4+1<=9223372036854775807)/\(true=true/\Does Tryd.prog R 78 [int i64 (u4+1),int u64 (s:Int),ref 0 0,ref 1 0,ref 2 0,ref 3 0,ref 4 0] u2 g (ret (tup 0 (nth []))) u1 g)/\Tables.follows Tryd.prog.toTables Departure.mixedOrders=true/\1<=1/\(-9223372036854775808<=u4+1/\u4+1<=9223372036854775807)/\1<=1/\(0<=u4/\u4<u3)/\1<=1/\(∀(hp:List AObj) (g:R.σ),true=true/\Does Tryd.prog R 79 [ab O.l k] hp g (ret (int u64 (↑(2^(O.l.getD k 0).toNat):Int))) hp g)/\(true=true/\Does Tryd.prog R 78 [int i64 (u4+1),int u64 (IntKind.wrap u64 (↑(BitVec.toNat (BitVec.ofInt 64 (s:Int)|||BitVec.ofInt 64 (↑(2^(O.l.getD k 0).toNat):Int))):Int)),ref 0 0,ref 1 0,ref 2 0,ref 3 0,ref 4 0] u1 g (ret (tup 0 (nth []))) u1 g)/\Q AEx.normal (St.mk [] u1 g))/\(decide (u4<u3)=false->Wp Tryd.prog R 47 6 Rd.top (aD Tryd.prog 78) [0,1,1,1,1] (aT Tryd.prog R 47 6 Rd.top (aD Tryd.prog 78) Q [Kont.blk 0]) (St.mk [(0,int i64 u4),(1,int u64 (s:Int)),(2,ref 0 0),(4,ref 2 0),(5,ref 3 0),(6,ref 4 0),(14,AV.bool (decide (u4<u3)))] u2 g)))) ((m:Int)==(most:Int))) ((k:Int))) ((O.l.length:Int))) ([cells false 1 fun (x:Nat)=>ow true 5 m 1,cells false 1 fun (x:Nat)=>int i64 (most:Int),cells false 1 fun (x:Nat)=>fz O.2 1 (O.l.length) fun (i x:Nat)=>ab O.l i,cells false 1 fun (x:Nat)=>fn 78 0 (nth []) 5 (nth [ref 0 0,ref 1 0,ref 2 0,ref 3 0,ref 4 0]),cells false 2 (nth [int i64 p.atoms,ad p.rules]),cells false (m*1) fun (a:Nat)=>fz Fz.auto 1 ((ag (L.getD a 0)).l.length) fun (i x:Nat)=>ab (ag (L.getD a 0)).l i])) ([cells false 1 fun (x:Nat)=>ow true 6 m1 1,cells false 1 fun (x:Nat)=>int i64 (most:Int),cells false 1 fun (x:Nat)=>fz O.2 1 (O.l.length) fun (i x:Nat)=>ab O.l i,cells false 1 fun (x:Nat)=>fn 78 0 (nth []) 5 (nth [ref 0 0,ref 1 0,ref 2 0,ref 3 0,ref 4 0]),cells false 2 (nth [int i64 p.atoms,ad p.rules]),dead,cells false (m1*1) fun (a:Nat)=>fz Fz.auto 1 ((ag (L'.getD a 0)).l.length) fun (i x:Nat)=>ab (ag (L'.getD a 0)).l i])) (fun _=>by kernel_rfl) ⟨by omega,by omega,fun hcc=>(nomatch (hz.symm.trans hcc)),fun _=>⟨by omega,fun _=>⟨by omega,by omega,⟨rfl,(i1 _ _)⟩,by kernel_rfl,by omega,by omega,by omega,by omega,by omega,(fun _ _=>⟨rfl,(eN _ _ (by omega) _ _)⟩),⟨rfl,(fj (T:=LT) inferInstance [0,1,2,3,4,6] 7 (fun R _ g=>i2 R g) rfl rfl rfl (by exact⟨⟨rfl,Nat.le_refl _,fun j hj=>match j,hj with|0,_=>(Av _) ⟩,⟨rfl,Nat.le_refl _,fun j hj=>match j,hj with|0,_=>(Av _) ⟩,⟨rfl,Nat.le_refl _,fun j hj=>match j,hj with|0,_=>(Av _) ⟩,⟨rfl,Nat.le_refl _,fun j hj=>match j,hj with|0,_=>(Le.fn (fun i hi=>absurd hi (by omega)) (fun i hi=>match i,hi with|0,_=>(Av _)|1,_=>(Av _)|2,_=>(Av _)|3,_=>(Av _)|4,_=>(Av _) )) ⟩,⟨rfl,Nat.le_refl _,fun j hj=>match j,hj with|0,_=>(Av _)|1,_=>(Av _) ⟩,⟨rfl,Nat.le_refl _,fun j hj=>(by first|exact bu (by first|exact trivial|apply dp)|exact Aw (gS rfl).symm)⟩,trivial⟩) (by exact⟨by omega,by omega,by omega,by omega,by omega,by omega,trivial⟩) (by exact⟨bu (by exact trivial),bu (by exact trivial),Av _,Av _,Av _,Av _,Av _,trivial⟩) (by exact bF (by exact trivial)) (by exact⟨⟨rfl,Nat.le_refl _,fun j hj=>match j,hj with|0,_=>(Av _) ⟩,⟨rfl,Nat.le_refl _,fun j hj=>match j,hj with|0,_=>(Av _) ⟩,⟨rfl,Nat.le_refl _,fun j hj=>match j,hj with|0,_=>(Av _) ⟩,⟨rfl,Nat.le_refl _,fun j hj=>match j,hj with|0,_=>(Le.fn (fun i hi=>absurd hi (by omega)) (fun i hi=>match i,hi with|0,_=>(Av _)|1,_=>(Av _)|2,_=>(Av _)|3,_=>(Av _)|4,_=>(Av _) )) ⟩,⟨rfl,Nat.le_refl _,fun j hj=>match j,hj with|0,_=>(Av _)|1,_=>(Av _) ⟩,trivial,⟨rfl,Nat.le_refl _,fun j hj=>(by first|exact bF (by first|exact trivial|apply dp)|exact Aw (gS rfl))⟩,trivial⟩))⟩,?_⟩,fun hcc=>(nomatch (hb.symm.trans hcc))⟩⟩
    refine(aw (aX _ _ rfl trivial rfl rfl rfl) (Av _))
   ·have i2:∀(R:Res) [Tab LT R] (g:R.σ),Does Tryd.prog R 78 [.int .i64 ((k:Int)+1),.int .u64 (IntKind.u64.wrap ((BitVec.ofInt 64 (s:Int)|||BitVec.ofInt 64 ((2^(O.l.getD k 0).toNat:Nat):Int)).toNat:Int)),.ref 0 0,.ref 1 0,.ref 2 0,.ref 3 0,.ref 4 0] [.cells false 1 (fun _=>.ow true 5 m1 1),.cells false 1 (fun _=>.int .i64 most),.cells false 1 (fun _=>aj O),.cells false 1 (fun _=>.fn 78 0 (nth []) 5 (nth [.ref 0 0,.ref 1 0,.ref 2 0,.ref 3 0,.ref 4 0])),.cells false 2 (nth [.int .i64 p.atoms,ad p.rules]),.cells false (m1*1) (aB L1)] g (.ret (.tup 0 (nth []))) [.cells false 1 (fun _=>.ow true 6 m' 1),.cells false 1 (fun _=>.int .i64 most),.cells false 1 (fun _=>aj O),.cells false 1 (fun _=>.fn 78 0 (nth []) 5 (nth [.ref 0 0,.ref 1 0,.ref 2 0,.ref 3 0,.ref 4 0])),.cells false 2 (nth [.int .i64 p.atoms,ad p.rules]),.dead,.cells false (m'*1) (aB L')] g:=fun R _ g=>by rw[hoS];exact ih.ow R t m1 m' L1 L' g ht24 hL1n hm1 hmm1 h hm' e2
    refine dP (nt:=47) (rs:=[]) (k0:=6) (by kernel_rfl) (by kernel_rfl) (by kernel_rfl) rfl ?_
    refine vcQ [[0,1,0],[0,1,1,1,1]] (lkL [(0,[0,1,2,4,5,6,9]),(1,[0,1,2,4,5,6,14]),(2,[0,1,4,5])]) (lkL [(2,[(4,ROrc.call (tup 0 (nth [])) [cells false 1 fun (x:Nat)=>ow true 6 m1 1,cells false 1 fun (x:Nat)=>int i64 (most:Int),cells false 1 fun (x:Nat)=>aj O,cells false 1 fun (x:Nat)=>fn 78 0 (nth []) 5 (nth [ref 0 0,ref 1 0,ref 2 0,ref 3 0,ref 4 0]),cells false 2 (nth [int i64 p.atoms,ad p.rules]),dead,cells false (m1*1) (aB L1)] g)]),(3,[(8,ROrc.pcall (int u64 (↑(2^(O.l.getD k 0).toNat):Int))),(10,ROrc.callN (tup 0 (nth [])) [(0,cells false 1 fun (j:Nat)=>ow true 7 m' 1),(6,dead)] [cells false (m'*1) (aB L')] g)])]) (fun Q=>(fun (u1:List AObj)=>(fun (u2:List AObj)=>(fun (u3:List AObj)=>(fun (u4:Int)=>(fun (u5:Int)=>(fun (u6:Bool)=>1<=1/\1<=1/\(u6=true->Wp Tryd.prog R 47 6 Rd.top (aD Tryd.prog 78) [0,1,0] (aT Tryd.prog R 47 6 Rd.top (aD Tryd.prog 78) Q [Kont.blk 0]) (St.mk [(0,int i64 u5),(1,int u64 (s:Int)),(2,ref 0 0),(4,ref 2 0),(5,ref 3 0),(6,ref 4 0),(9,AV.bool u6)] u1 g))/\(u6=false->1<=1/\(decide (u5<u4)=true->1<=1/\(-9223372036854775808<=u5+1/\u5+1<=9223372036854775807)/\(true=true/\Does Tryd.prog R 78 [int i64 (u5+1),int u64 (s:Int),ref 0 0,ref 1 0,ref 2 0,ref 3 0,ref 4 0] u1 g (ret (tup 0 (nth []))) u3 g)/\Tables.follows Tryd.prog.toTables Departure.mixedOrders=true/\1<=1/\(-9223372036854775808<=u5+1/\u5+1<=9223372036854775807)/\1<=1/\(0<=u5/\u5<u4)/\1<=1/\(∀(hp:List AObj) (g:R.σ),true=true/\Does Tryd.prog R 79 [ab O.l k] hp g (ret (int u64 (↑(2^(O.l.getD k 0).toNat):Int))) hp g)/\(true=true/\Does Tryd.prog R 78 [int i64 (u5+1),int u64 (IntKind.wrap u64 (↑(BitVec.toNat (BitVec.ofInt 64 (s:Int)|||BitVec.ofInt 64 (↑(2^(O.l.getD k 0).toNat):Int))):Int)),ref 0 0,ref 1 0,ref 2 0,ref 3 0,ref 4 0] u3 g (ret (tup 0 (nth []))) u2 g)/\Q AEx.normal (St.mk [] u2 g))/\(decide (u5<u4)=false->Wp Tryd.prog R 47 6 Rd.top (aD Tryd.prog 78) [0,1,1,1,1] (aT Tryd.prog R 47 6 Rd.top (aD Tryd.prog 78) Q [Kont.blk 0]) (St.mk [(0,int i64 u5),(1,int u64 (s:Int)),(2,ref 0 0),(4,ref 2 0),(5,ref 3 0),(6,ref 4 0),(14,AV.bool (decide (u5<u4)))] u1 g)))) ((m:Int)==(most:Int))) ((k:Int))) ((O.l.length:Int))) ([cells false 1 fun (x:Nat)=>ow true 6 m1 1,cells false 1 fun (x:Nat)=>int i64 (most:Int),cells false 1 fun (x:Nat)=>fz O.2 1 (O.l.length) fun (i x:Nat)=>ab O.l i,cells false 1 fun (x:Nat)=>fn 78 0 (nth []) 5 (nth [ref 0 0,ref 1 0,ref 2 0,ref 3 0,ref 4 0]),cells false 2 (nth [int i64 p.atoms,ad p.rules]),dead,cells false (m1*1) fun (a:Nat)=>fz Fz.auto 1 ((ag (L1.getD a 0)).l.length) fun (i x:Nat)=>ab (ag (L1.getD a 0)).l i])) ([cells false 1 fun (j:Nat)=>ow true 7 m' 1,cells false 1 fun (x:Nat)=>int i64 (most:Int),cells false 1 fun (x:Nat)=>fz O.2 1 (O.l.length) fun (i x:Nat)=>ab O.l i,cells false 1 fun (x:Nat)=>fn 78 0 (nth []) 5 (nth [ref 0 0,ref 1 0,ref 2 0,ref 3 0,ref 4 0]),cells false 2 (nth [int i64 p.atoms,ad p.rules]),dead,dead,cells false (m'*1) fun (a:Nat)=>fz Fz.auto 1 ((ag (L'.getD a 0)).l.length) fun (i x:Nat)=>ab (ag (L'.getD a 0)).l i])) ([cells false 1 fun (x:Nat)=>ow true 5 m 1,cells false 1 fun (x:Nat)=>int i64 (most:Int),cells false 1 fun (x:Nat)=>fz O.2 1 (O.l.length) fun (i x:Nat)=>ab O.l i,cells false 1 fun (x:Nat)=>fn 78 0 (nth []) 5 (nth [ref 0 0,ref 1 0,ref 2 0,ref 3 0,ref 4 0]),cells false 2 (nth [int i64 p.atoms,ad p.rules]),cells false (m*1) fun (a:Nat)=>fz Fz.auto 1 ((ag (L.getD a 0)).l.length) fun (i x:Nat)=>ab (ag (L.getD a 0)).l i])) (fun _=>by kernel_rfl) ⟨by omega,by omega,fun hcc=>(nomatch (hz.symm.trans hcc)),fun _=>⟨by omega,fun _=>⟨by omega,by omega,⟨rfl,(i1 _ _)⟩,by kernel_rfl,by omega,by omega,by omega,by omega,by omega,(fun _ _=>⟨rfl,(eN _ _ (by omega) _ _)⟩),⟨rfl,(fj (T:=LT) inferInstance [0,1,2,3,4,6] 7 (fun R _ g=>i2 R g) rfl rfl rfl (by exact⟨⟨rfl,Nat.le_refl _,fun j hj=>match j,hj with|0,_=>(Av _) ⟩,⟨rfl,Nat.le_refl _,fun j hj=>match j,hj with|0,_=>(Av _) ⟩,⟨rfl,Nat.le_refl _,fun j hj=>match j,hj with|0,_=>(Av _) ⟩,⟨rfl,Nat.le_refl _,fun j hj=>match j,hj with|0,_=>(Le.fn (fun i hi=>absurd hi (by omega)) (fun i hi=>match i,hi with|0,_=>(Av _)|1,_=>(Av _)|2,_=>(Av _)|3,_=>(Av _)|4,_=>(Av _) )) ⟩,⟨rfl,Nat.le_refl _,fun j hj=>match j,hj with|0,_=>(Av _)|1,_=>(Av _) ⟩,⟨rfl,Nat.le_refl _,fun j hj=>(by first|exact bu (by first|exact trivial|apply dp)|exact Aw (gS rfl).symm)⟩,trivial⟩) (by exact⟨by omega,by omega,by omega,by omega,by omega,by omega,trivial⟩) (by exact⟨bu (by exact trivial),bu (by exact trivial),Av _,Av _,Av _,Av _,Av _,trivial⟩) (by exact bF (by exact trivial)) (by exact⟨Ax,⟨rfl,Nat.le_refl _,fun j hj=>match j,hj with|0,_=>(Av _) ⟩,⟨rfl,Nat.le_refl _,fun j hj=>match j,hj with|0,_=>(Av _) ⟩,⟨rfl,Nat.le_refl _,fun j hj=>match j,hj with|0,_=>(Le.fn (fun i hi=>absurd hi (by omega)) (fun i hi=>match i,hi with|0,_=>(Av _)|1,_=>(Av _)|2,_=>(Av _)|3,_=>(Av _)|4,_=>(Av _) )) ⟩,⟨rfl,Nat.le_refl _,fun j hj=>match j,hj with|0,_=>(Av _)|1,_=>(Av _) ⟩,trivial,trivial,⟨rfl,Nat.le_refl _,fun j hj=>(by first|exact bF (by first|exact trivial|apply dp)|exact Aw (gS rfl))⟩,trivial⟩))⟩,?_⟩,fun hcc=>(nomatch (hb.symm.trans hcc))⟩⟩
    refine lX (.tup 0 (nth [])) _ rfl trivial ?_
    refine eG [0,1,2,3,4,5,7] 8 ?_ ?_ ?_ ?_ ?_ ?_ ?_
    ·rfl
    ·rfl
    ·rfl
    ·rfl
    ·rfl
    ·exact⟨Av _,trivial⟩
    ·exact⟨⟨rfl,Nat.le_refl _,fun j hj=>Av _⟩,Ay _,Ay _,⟨rfl,Nat.le_refl _,fun j hj=>lY⟩,⟨rfl,Nat.le_refl _,fun j hj=>match j,hj with|0,_=>Av _|1,_=>bu (by exact trivial)⟩,trivial,⟨rfl,Nat.le_refl _,fun j hj=>Av _⟩,trivial⟩
def bA (p:Prg):Nat:=aF (ak p).2 3 p.atoms.toNat
def dY (p:Prg):Nat:=aF (ak p).2 2 p.atoms.toNat
def stP (p:Prg)(most:Nat):List Nat:=stF p most (aU (bA p)) (dY p) []
theorem oG {p:Prg}{most:Nat}{O:KL Int}(hm:1<=most/\most<=100)(hO:O.l.length<=10)(hOa:∀a,a∈O.l->0<=a/\a<24)(hl:p.rules.l.length<1000000)(hr:∀r,r∈p.rules.l->aH r):∀(j k:Nat),k+j=O.l.length->FromC p most O (O.l.drop k) (k:Int)
 |0,k,h=>by
  have hk:k=O.l.length:=by omega
  subst hk
  rw[List.drop_length]
  exact zG hm hO hl hr
 |j+1,k,h=>by
  rw[gU O.l 0 (show k<O.l.length by omega)]
  exact zH hm hO omg (hOa _ (bZ O.l 0 omg)) (oG hm hO hOa hl hr j (k+1) omg)
theorem sQ (R:Res)(p:Prg)(most:Int)(hgl : -1000000<=p.atoms/\p.atoms<=1000000)(hs:ec p)(h:(aG p&&decide (1<=most/\most<=100))=false)(hp:List AObj)(g:R.σ):Does Tryd.prog R 27 [au p,.int .i64 most] hp g (.ret (.tup 2 (nth [.fz .nil 0 0 (fun _ _=>.any),.int .i64 2]))) hp g:=by
 refine bR (fun R g=>?_) (by exact⟨⟨⟨trivial,trivial⟩,trivial⟩,trivial,trivial⟩) R hp g
 refine spW (nt:=45) (rs:=[.tmp 4,.tmp 5]) (k0:=0) ?_
 have hc:(bif ((if aG p then(0:Int) else 2) != 0) then true else !decide (1<=most/\most<=100))=true:=by
  cases hb:aG p with
  |false=>rfl
  |true=>
   rw[hb,Bool.true_and] at h
   rw[h]
   rfl
 refine vcR [[1,0,1,1]] (lkL [(0,[2,3]),(1,[2,3,18]),(2,[4,5])]) (lkL [(1,[(1,ROrc.pcall (int i64 (if aG p=true then 0 else 2))),(5,ROrc.pcall (AV.bool (decide (1<=most/\most<=100))))])]) (fun Q=>(fun (u1:Bool)=>(fun (u2:List AObj)=>(fun (u3:Int)=>2<=2/\(∀(hp:List AObj) (g:R.σ),true=true/\Does Tryd.prog R 16 [au p] hp g (ret (int i64 u3)) hp g)/\((!u3 != 0)=true->1<=1)/\((!u3 != 0)=true->∀(hp:List AObj) (g:R.σ),true=true/\Does Tryd.prog R 58 [int i64 most,int i64 1,int i64 100] hp g (ret (AV.bool (decide (1<=most/\most<=100)))) hp g)/\(u1=true->Q AEx.ret (St.mk [(4,fz Fz.nil 0 0 fun x x_1=>any),(5,int i64 2)] u2 g))/\(u1=false->WpC Tryd.prog R 45 0 27 [1,0,1,1] Q [Kont.seq [1,1]] (St.mk [(2,ref 0 0),(3,ref 1 0),(18,AV.bool u1)] u2 g))) (if aG p=true then 0 else 2)) ([cells false 2 (nth [int i64 p.atoms,ad p.rules]),cells false 1 fun a=>int i64 most])) (bif (if aG p=true then 0 else 2) != 0 then true else !decide (1<=most/\most<=100))) ⟨omg,(fun _ _=>⟨rfl,(fT _ _ _ _ omg)⟩),omg,(fun hgd=>(fun _ _=>⟨rfl,(dS _ _ _ _ _ _)⟩)),fun _=>?_,fun hcc=>(nomatch (hc.symm.trans hcc))⟩
 refine(aw (bt _ _ rfl trivial ⟨⟨trivial,trivial⟩,trivial⟩ rfl) (Av _))
theorem sR {s:Nat}:∀a,a∈(ag s).l->0<=a/\a<24:=by
 intro a ha
 obtain⟨b,hb,rfl⟩:=List.mem_map.1 (show a∈(al s).map (fun (a:Nat)=>(a:Int)) from ha)
 have:=jP hb
 omega
theorem zI (R:Res)[Tab LT R](p:Prg)(most:Nat)(hb:aG p=true)(hm:1<=most/\most<=100)(hO:10<(aU (bA p)).length)(g:R.σ):Does Tryd.prog R 27 [au p,.int .i64 most] [] g (.ret (.tup 2 (nth [.fz .nil 0 0 (fun _ _=>.any),.int .i64 8]))) [] g:=by
 obtain⟨hl,hr,hp,hh,hx⟩:=eQ hb
 have hs:ec p:=g9 hb
 have hp':1<=p.atoms/\p.atoms<=24:=hp
 have hc:(bif ((if aG p then(0:Int) else 2) != 0) then true else !decide (1<=(most:Int)/\(most:Int)<=100))=false:=by
  rw[hb,decide_eq_true omg]
  rfl
 have hD:=fun (R:Res) [Tab LT R] (g:R.σ)=>lN R p hl hr hp hh g
 have hC:=fun (R:Res) [Tab LT R] (s:Nat) (hs:s<2^24) (g:R.σ)=>iW R s hs g
 have hlt:aF (ak p).2 3 p.atoms.toNat<2^24:=g8 omg
 have hS:=fun (R:Res) (g:R.σ)=>j9 R (ak p).2 p.atoms 3 omg g
 have hgt:decide ((10:Int)<((ag (aF (ak p).2 3 p.atoms.toNat)).l.length:Int))=true:=decide_eq_true (by
  have hO:10<(ag (aF (ak p).2 3 p.atoms.toNat)).l.length:=hO
  omega)
 refine spW (nt:=45) (rs:=[.tmp 4,.tmp 5]) (k0:=0) ?_
 refine vcR [[1,0,1,0],[1,1,1,1,0,1,1]] (lkL [(0,[2,3]),(1,[2,3,18]),(3,[2,3,7]),(4,[2,3,7,8]),(5,[2,3,7,8,34]),(6,[4,5])]) (lkL [(1,[(1,ROrc.pcall (int i64 (if aG p=true then 0 else 2))),(5,ROrc.pcall (AV.bool (decide (1<=(↑most:Int)/\(↑most:Int)<=100))))]),(3,[(1,ROrc.call (tup 2 (nth [fz Fz.auto 2 (List.length (bl (ak p).fst).l) fun (i:Nat)=>dR (List.getD (bl (ak p).fst).l i default),ref 2 0])) [cells false 2 (nth [int i64 p.atoms,ad p.rules]),cells false 1 fun (a:Nat)=>int i64 (↑most:Int),cells false 27 (aI (ak p).snd)] g)]),(4,[(5,ROrc.lcall (int u64 (↑(aF (ak p).snd 3 (Int.toNat p.atoms)):Int)) [2]),(6,ROrc.callN (fn 105 0 (nth []) 1 (nth [ref (List.length [cells false 2 (nth [int i64 p.atoms,ad p.rules]),cells false 1 fun (a:Nat)=>int i64 (↑most:Int),cells false 27 (aI (ak p).snd)]) 0])) [] [cells false 1 fun (x:Nat)=>int u64 (↑(aF (ak p).snd 3 (Int.toNat p.atoms)):Int)] g),(7,ROrc.callS (fz Fz.auto 1 (List.length (ag (aF (ak p).snd 3 (Int.toNat p.atoms))).l) fun (i x:Nat)=>ab (ag (aF (ak p).snd 3 (Int.toNat p.atoms))).l i) [(3,cells false 1 fun (j:Nat)=>any)] g),(9,ROrc.val (Orc.obj (nth [fz Fz.auto 1 (List.length (ag (aF (ak p).snd 3 (Int.toNat p.atoms))).l) fun (i x:Nat)=>ab (ag (aF (ak p).snd 3 (Int.toNat p.atoms))).l i])))])]) (fun Q=>(fun (u1:List Int)=>(fun (u2:AObj)=>(fun (u3:AObj)=>(fun (u4:Int)=>(fun (u5:AV)=>(fun (u6:AObj)=>(fun (u7:Bool)=>(fun (u8:AV)=>(fun (u9:Int)=>(fun (u10:List AObj)=>(fun (u11:Int)=>2<=2/\(∀(hp:List AObj) (g:R.σ),true=true/\Does Tryd.prog R 16 [au p] hp g (ret (int i64 u11)) hp g)/\((!u11 != 0)=true->1<=1)/\((!u11 != 0)=true->∀(hp:List AObj) (g:R.σ),true=true/\Does Tryd.prog R 58 [int i64 u4,int i64 1,int i64 100] hp g (ret (AV.bool (decide (1<=u4/\u4<=100)))) hp g)/\(u7=true->WpC Tryd.prog R 45 0 27 [1,0,1,0] Q [Kont.seq [1,1]] (St.mk [(2,ref 0 0),(3,ref 1 0),(18,AV.bool u7)] [u2,u3] g))/\(u7=false->2<=2/\(true=true/\Does Tryd.prog R 60 [au p] [u2,u3] g (ret (tup 2 (nth [fz Fz.auto 2 (List.length (bl (ak p).fst).l) fun i=>dR (List.getD (bl (ak p).fst).l i default),ref 2 0]))) [u2,u3,u6] g)/\Flw Tryd.prog/\1<=2/\(∀(hp':List AObj) (g':R.σ),SameO [2] [u2,u3,u6] hp'->true=true/\Does Tryd.prog R 76 [ref 2 2,int i64 p.atoms,int i64 3] hp' g' (ret u8) hp' g')/\(true=true/\Does Tryd.prog R 77 [u8] [u2,u3,u6] g (ret (fn 105 0 (nth []) 1 (nth [ref 3 0]))) [u2,u3,u6,cells false 1 fun x=>u8] g)/\(true=true/\Does Tryd.prog R 75 [fn 105 0 (nth []) 1 (nth [ref 3 0])] [u2,u3,u6,cells false 1 fun x=>u8] g (ret u5) [u2,u3,u6,cells false 1 fun j=>any] g)/\1<=1/\(∀(c:Nat),c<1->nth [u5] c=ah (fun (a:Nat)=>fz Fz.nil 0 0 fun x x_1=>any) 0 1 (fun (x:Nat)=>u5) c)/\1<=1/\(decide (u9 > 10)=true->Q AEx.ret (St.mk [(4,fz Fz.nil 0 0 fun x x_1=>any),(5,int i64 8)] u10 g))/\(decide (u9 > 10)=false->WpC Tryd.prog R 45 0 27 [1,1,1,1,0,1,1] Q [Kont.seq [1,1,1,1,1]] (St.mk [(2,ref 0 0),(3,ref 1 0),(7,ref 2 0),(8,ref 4 0),(34,AV.bool (decide (u9 > 10)))] u10 g)))) (if aG p=true then 0 else 2)) ([u2,u3,u6,cells false 1 fun j=>any,cells false 1 (nth [u5])])) ((↑(List.length u1):Int))) (int u64 (↑(aF (ak p).snd 3 (Int.toNat p.atoms)):Int))) (bif (if aG p=true then 0 else 2) != 0 then true else !decide (1<=u4/\u4<=100))) (cells false 27 (aI (ak p).snd))) (fz Fz.auto 1 (List.length u1) fun i x=>ab u1 i)) ((↑most:Int))) (cells false 1 fun a=>int i64 (↑most:Int))) (cells false 2 (nth [int i64 p.atoms,ad p.rules]))) ((ag (aF (ak p).snd 3 (Int.toNat p.atoms))).l)) ⟨omg,(fun _ _=>⟨rfl,(fT _ _ _ _ omg)⟩),omg,(fun hgd=>(fun _ _=>⟨rfl,(dS _ _ _ _ _ _)⟩)),fun hcc=>(nomatch (hc.symm.trans hcc)),fun _=>⟨omg,⟨rfl,(doT (T:=LT) [] 2 (fun R _ g=>hD R g))⟩,krf,omg,?_,⟨rfl,(dt _ _ _ _)⟩,⟨rfl,(doT (T:=LT) [3] 4 (fun R _ g=>hC R (aF (ak p).snd 3 (Int.toNat p.atoms)) omg g))⟩,omg,(fun c hc=>match c,hc with|0,_=>krf ),omg,fun _=>?_,fun hcc=>(nomatch (hgt.symm.trans hcc))⟩⟩
 ·intro hp' g' hs'
  exact⟨rfl,iN [2] (fun R g=>hS R g) (by exact⟨rfl,trivial⟩) rfl (by exact fun n=>⟨AF (fun j hj=>(cW trivial).symm),trivial⟩) ⟨omg,trivial⟩ (by exact fun n=>⟨Av _,Av _,Av _,trivial⟩) rfl (by exact fun n=>Av _) (by exact fun n=>⟨AF (fun j hj=>cW trivial),trivial⟩) hp' g' hs'⟩
 ·refine(aw (bt _ _ rfl trivial ⟨⟨trivial,trivial⟩,trivial⟩ rfl) (Av _))
theorem zJ (R:Res)[Tab LT R](p:Prg)(most:Nat)(hb:aG p=true)(hm:1<=most/\most<=100)(hO:(aU (bA p)).length<=10)(hN:stP p most=[])(g:R.σ):Does Tryd.prog R 27 [au p,.int .i64 most] [] g (.ret (.tup 2 (nth [.fz .nil 0 0 (fun _ _=>.any),.int .i64 0]))) [] g:=by
 obtain⟨hl,hr,hp,hh,hx⟩:=eQ hb
 have hs:ec p:=g9 hb
 have hp':1<=p.atoms/\p.atoms<=24:=hp
 have hc:(bif ((if aG p then(0:Int) else 2) != 0) then true else !decide (1<=(most:Int)/\(most:Int)<=100))=false:=by
  rw[hb,decide_eq_true (by omega)]
  rfl
 have hD:=fun (R:Res) [Tab LT R] (g:R.σ)=>lN R p hl hr hp hh g
 have hC:=fun (R:Res) [Tab LT R] (s:Nat) (hs:s<2^24) (g:R.σ)=>iW R s hs g
 have hlt:aF (ak p).2 3 p.atoms.toNat<2^24:=g8 (by omega)
 have hS:=fun (R:Res) (g:R.σ)=>j9 R (ak p).2 p.atoms 3 (by omega) g
 have hS2:=fun (R:Res) (g:R.σ)=>j9 R (ak p).2 p.atoms 2 (by omega) g
 have hgt:decide ((10:Int)<((ag (aF (ak p).2 3 p.atoms.toNat)).l.length:Int))=false:=decide_eq_false (by
  have hO:(ag (aF (ak p).2 3 p.atoms.toNat)).l.length<=10:=hO
  omega)
 have hF0:=(oG (p:=p) (most:=most) (O:=ag (bA p)) hm hO sR hl hr (ag (bA p)).l.length 0 (by omega)).nn
 rw[List.drop_zero] at hF0
 have hF:=fun (R:Res) [Tab LT R] (g:R.σ)=>hF0 R (dY p) g (g8 (by omega)) hN
 unfold dY bA at hF
 clear hF0
 refine dP (nt:=45) (rs:=[.tmp 4,.tmp 5]) (k0:=0) (by kernel_rfl) (by kernel_rfl) (by kernel_rfl) rfl ?_
 refine vcQ [[1,0,1,0],[1,1,1,1,0,1,0]] (lkL [(0,[2,3]),(1,[2,3,18]),(3,[2,3,7]),(4,[2,3,7,8]),(5,[2,3,7,8,34]),(7,[2,3,7,8,9]),(8,[2,3,7,8,9,10]),(9,[2,7,9,10]),(10,[9]),(11,[4,5])]) (lkL [(1,[(1,ROrc.pcall (int i64 (if aG p=true then 0 else 2))),(5,ROrc.pcall (AV.bool (decide (1<=(most:Int)/\(most:Int)<=100))))]),(3,[(1,ROrc.call (tup 2 (nth [fz Fz.auto 2 ((bl (ak p).fst).l.length) fun (i:Nat)=>dR ((bl (ak p).fst).l.getD i default),ref 2 0])) [cells false 2 (nth [int i64 p.atoms,ad p.rules]),cells false 1 fun (a:Nat)=>int i64 (most:Int),cells false 27 (aI (ak p).snd)] g)]),(4,[(5,ROrc.lcall (int u64 (↑(aF (ak p).snd 3 (p.atoms.toNat)):Int)) [2]),(6,ROrc.callN (fn 105 0 (nth []) 1 (nth [ref (List.length [cells false 2 (nth [int i64 p.atoms,ad p.rules]),cells false 1 fun (a:Nat)=>int i64 (most:Int),cells false 27 (aI (ak p).snd)]) 0])) [] [cells false 1 fun (x:Nat)=>int u64 (↑(aF (ak p).snd 3 (p.atoms.toNat)):Int)] g),(7,ROrc.callS (fz Fz.auto 1 ((ag (aF (ak p).snd 3 (p.atoms.toNat))).l.length) fun (i x:Nat)=>ab (ag (aF (ak p).snd 3 (p.atoms.toNat))).l i) [(3,cells false 1 fun (j:Nat)=>any)] g),(9,ROrc.val (Orc.obj (nth [fz Fz.auto 1 ((ag (aF (ak p).snd 3 (p.atoms.toNat))).l.length) fun (i x:Nat)=>ab (ag (aF (ak p).snd 3 (p.atoms.toNat))).l i])))]),(9,[(1,ROrc.val (Orc.obj (nth [fn 78 0 (nth []) 5 (nth [ref 5 0,ref 1 0,ref 4 0,ref 6 0,ref 0 0])])))]),(10,[(6,ROrc.lcall (int u64 (↑(aF (ak p).snd 2 (p.atoms.toNat)):Int)) [2]),(7,ROrc.kcall (tup 0 (nth [])))])]) (fun Q=>(fun (u1:List AObj)=>(fun (u2:Nat)=>(fun (u3:Int)=>(fun (u4:AObj)=>(fun (u5:AObj)=>(fun (u6:AV)=>(fun (u7:AObj)=>(fun (u8:Bool)=>(fun (u9:Int)=>(fun (u10:List AV)=>(fun (u11:AV)=>(fun (u12:List AObj)=>(fun (u13:Int)=>2<=2/\(∀(hp:List AObj) (g:R.σ),true=true/\Does Tryd.prog R 16 [au p] hp g (ret (int i64 u13)) hp g)/\((!u13 != 0)=true->1<=1)/\((!u13 != 0)=true->∀(hp:List AObj) (g:R.σ),true=true/\Does Tryd.prog R 58 [int i64 u3,int i64 1,int i64 100] hp g (ret (AV.bool (decide (1<=u3/\u3<=100)))) hp g)/\(u8=true->Wp Tryd.prog R 45 0 Rd.top (aD Tryd.prog 27) [1,0,1,0] (aT Tryd.prog R 45 0 Rd.top (aD Tryd.prog 27) Q [Kont.seq [1,1]]) (St.mk [(2,ref 0 0),(3,ref 1 0),(18,AV.bool u8)] [u4,u5] g))/\(u8=false->2<=2/\(true=true/\Does Tryd.prog R 60 [au p] [u4,u5] g (ret (tup 2 (nth [fz Fz.auto 2 ((bl (ak p).fst).l.length) fun (i:Nat)=>dR ((bl (ak p).fst).l.getD i default),ref 2 0]))) [u4,u5,u7] g)/\Tables.follows Tryd.prog.toTables Departure.mixedOrders=true/\1<=2/\(∀(hp':List AObj) (g':R.σ),SameO [2] [u4,u5,u7] hp'->true=true/\Does Tryd.prog R 76 [ref 2 2,int i64 p.atoms,int i64 3] hp' g' (ret (int u64 (u2:Int))) hp' g')/\(true=true/\Does Tryd.prog R 77 [int u64 (u2:Int)] [u4,u5,u7] g (ret (fn 105 0 (nth []) 1 (nth [ref 3 0]))) u12 g)/\(true=true/\Does Tryd.prog R 75 [fn 105 0 (nth []) 1 (nth [ref 3 0])] u12 g (ret u6) [u4,u5,u7,cells false 1 fun (j:Nat)=>any] g)/\1<=1/\(∀(c:Nat),c<1->nth [u6] c=ah (fun (a:Nat)=>fz Fz.nil 0 0 fun _ _=>any) 0 1 (fun (x:Nat)=>u6) c)/\1<=1/\(decide (u9 > 10)=true->Wp Tryd.prog R 45 0 Rd.top (aD Tryd.prog 27) [1,1,1,1,0,1,0] (aT Tryd.prog R 45 0 Rd.top (aD Tryd.prog 27) Q [Kont.seq [1,1,1,1,1]]) (St.mk [(2,ref 0 0),(3,ref 1 0),(7,ref 2 0),(8,ref 4 0),(34,AV.bool (decide (u9 > 10)))] [u4,u5,u7,cells false 1 fun (j:Nat)=>any,cells false 1 (nth [u6])] g))/\(decide (u9 > 10)=false->1<=1/\(∀(c:Nat),c<1->nth [fn 78 0 (nth []) 5 (nth u10)] c=ah (fun (a:Nat)=>AV.nilf) 0 1 (fun (x:Nat)=>fn 78 0 (nth []) 5 (nth u10)) c)/\Tables.follows Tryd.prog.toTables Departure.mixedOrders=true/\1<=1/\1<=2/\(∀(hp':List AObj) (g':R.σ),SameO [2] u1 hp'->true=true/\Does Tryd.prog R 76 [ref 2 2,int i64 p.atoms,int i64 2] hp' g' (ret u11) hp' g')/\(true=true/\Does Tryd.prog R 78 (int i64 0::u11::u10) u1 g (ret (tup 0 (nth []))) u1 g)/\1<=1/\Q AEx.ret (St.mk [(4,fz Fz.nil 0 0 fun _ _=>any),(5,int i64 0)] u1 g)))) (if aG p=true then 0 else 2)) ([u4,u5,u7,cells false 1 fun (x:Nat)=>int u64 (u2:Int)])) (int u64 (↑(aF (ak p).snd 2 (p.atoms.toNat)):Int))) ([ref 5 0,ref 1 0,ref 4 0,ref 6 0,ref 0 0])) ((↑((ag u2).l.length):Int))) (bif (if aG p=true then 0 else 2) != 0 then true else !decide (1<=u3/\u3<=100))) (cells false 27 (aI (ak p).snd))) (fz Fz.auto 1 ((ag u2).l.length) fun (i x:Nat)=>ab (ag u2).l i)) (cells false 1 fun (a:Nat)=>int i64 u3)) (cells false 2 (nth [int i64 p.atoms,ad p.rules]))) ((most:Int))) (aF (ak p).snd 3 (p.atoms.toNat))) ([cells false 2 (nth [int i64 p.atoms,ad p.rules]),cells false 1 fun (a:Nat)=>int i64 (most:Int),cells false 27 (aI (ak p).snd),cells false 1 fun (j:Nat)=>any,cells false 1 (nth [fz Fz.auto 1 ((ag (aF (ak p).snd 3 (p.atoms.toNat))).l.length) fun (i x:Nat)=>ab (ag (aF (ak p).snd 3 (p.atoms.toNat))).l i]),cells false 1 fun (a:Nat)=>fz Fz.nil 0 0 fun _ _=>any,cells false 1 (nth [fn 78 0 (nth []) 5 (nth [ref 5 0,ref 1 0,ref 4 0,ref 6 0,ref 0 0])])])) (fun _=>by kernel_rfl) ⟨by omega,(fun _ _=>⟨rfl,(fT _ _ _ _ (by omega))⟩),by omega,(fun hgd=>(fun _ _=>⟨rfl,(dS _ _ _ _ _ _)⟩)),fun hcc=>(nomatch (hc.symm.trans hcc)),fun _=>⟨by omega,⟨rfl,(fj (T:=LT) inferInstance [] 2 (fun R _ g=>hD R g) rfl rfl rfl (by exact trivial) (by exact trivial) (by exact⟨bu (by exact⟨⟨trivial,trivial⟩,trivial⟩),trivial⟩) (by exact(Az (fun i hi=>match i,hi with|0,_=>(Av _)|1,_=>(Av _) ))) (by exact⟨Ax,Ax,⟨rfl,Nat.le_refl _,fun j hj=>(by first|exact bF (by first|exact trivial|apply ll)|exact Aw (cW rfl))⟩,trivial⟩))⟩,by kernel_rfl,by omega,?_,⟨rfl,(dt _ _ _ _)⟩,⟨rfl,(fj (T:=LT) inferInstance [3] 4 (fun R _ g=>hC R (aF (ak p).snd 3 (p.atoms.toNat)) (by omega) g) rfl rfl rfl (by exact⟨⟨rfl,Nat.le_refl _,fun j hj=>match j,hj with|0,_=>(Av _) ⟩,trivial⟩) (by exact⟨by omega,trivial⟩) (by exact⟨(Le.fn (fun i hi=>absurd hi (by omega)) (fun i hi=>match i,hi with|0,_=>(Av _) )),trivial⟩) (by exact bF (by exact trivial)) (by exact⟨Ax,Ax,Ax,Ax,trivial⟩))⟩,by omega,(fun c hc=>match c,hc with|0,_=>(by kernel_rfl) ),by omega,fun hcc=>(nomatch (hgt.symm.trans hcc)),fun _=>⟨by omega,(fun c hc=>match c,hc with|0,_=>(by kernel_rfl) ),by kernel_rfl,by omega,by omega,?_,⟨rfl,(fj (T:=LT) inferInstance [5,1,4,6,0] 7 (fun R _ g=>hF R g) rfl rfl rfl (by exact⟨⟨rfl,Nat.le_refl _,fun j hj=>match j,hj with|0,_=>(Av _) ⟩,⟨rfl,Nat.le_refl _,fun j hj=>match j,hj with|0,_=>(Av _) ⟩,⟨rfl,Nat.le_refl _,fun j hj=>match j,hj with|0,_=>(Av _) ⟩,⟨rfl,Nat.le_refl _,fun j hj=>match j,hj with|0,_=>(Le.fn (fun i hi=>absurd hi (by omega)) (fun i hi=>match i,hi with|0,_=>(Av _)|1,_=>(Av _)|2,_=>(Av _)|3,_=>(Av _)|4,_=>(Av _) )) ⟩,⟨rfl,Nat.le_refl _,fun j hj=>match j,hj with|0,_=>(Av _)|1,_=>(Av _) ⟩,trivial⟩) (by exact⟨by omega,by omega,by omega,by omega,by omega,trivial⟩) (by exact⟨bu (by exact trivial),bu (by exact trivial),Av _,Av _,Av _,Av _,Av _,trivial⟩) (by exact bF (by exact trivial)) (by exact⟨⟨rfl,Nat.le_refl _,fun j hj=>match j,hj with|0,_=>(Av _)|1,_=>(Av _) ⟩,⟨rfl,Nat.le_refl _,fun j hj=>match j,hj with|0,_=>(Av _) ⟩,Ax,Ax,⟨rfl,Nat.le_refl _,fun j hj=>match j,hj with|0,_=>(Av _) ⟩,⟨rfl,Nat.le_refl _,fun j hj=>match j,hj with|0,_=>(Av _) ⟩,⟨rfl,Nat.le_refl _,fun j hj=>match j,hj with|0,_=>(Le.fn (fun i hi=>absurd hi (by omega)) (fun i hi=>match i,hi with|0,_=>(Av _)|1,_=>(Av _)|2,_=>(Av _)|3,_=>(Av _)|4,_=>(Av _) )) ⟩,trivial⟩))⟩,by omega,?_⟩⟩⟩
 ·intro hp' g' hs'
  exact⟨rfl,iN [2] (fun R g=>hS R g) (by exact⟨rfl,trivial⟩) rfl (by exact fun n=>⟨AF (fun j hj=>(cW trivial).symm),trivial⟩) ⟨by omega,trivial⟩ (by exact fun n=>⟨Av _,Av _,Av _,trivial⟩) rfl (by exact fun n=>Av _) (by exact fun n=>⟨AF (fun j hj=>cW trivial),trivial⟩) hp' g' hs'⟩
 ·intro hp' g' hs'
  exact⟨rfl,iN [2] (fun R g=>hS2 R g) (by exact⟨rfl,trivial⟩) rfl (by exact fun n=>⟨AF (fun j hj=>(cW trivial).symm),trivial⟩) ⟨by omega,trivial⟩ (by exact fun n=>⟨Av _,Av _,Av _,trivial⟩) rfl (by exact fun n=>Av _) (by exact fun n=>⟨AF (fun j hj=>cW trivial),trivial⟩) hp' g' hs'⟩
 ·refine(aw (bt _ _ rfl trivial ⟨⟨trivial,trivial⟩,trivial⟩ rfl) (Av _))
theorem zK (R:Res)[Tab LT R](p:Prg)(most:Nat)(hb:aG p=true)(hm:1<=most/\most<=100)(hO:(aU (bA p)).length<=10)(hN:stP p most≠[])(g:R.σ):Does Tryd.prog R 27 [au p,.int .i64 most] [] g (.ret (.tup 2 (nth [bo (stP p most).length (fun i=>ag ((stP p most).getD i 0)),.int .i64 0]))) [] g:=by
 obtain⟨hl,hr,hp,hh,hx⟩:=eQ hb
 have hs:ec p:=g9 hb
 have hp':1<=p.atoms/\p.atoms<=24:=hp
 have hc:(bif ((if aG p then(0:Int) else 2) != 0) then true else !decide (1<=(most:Int)/\(most:Int)<=100))=false:=by
  rw[hb,decide_eq_true (by omega)]
  rfl
 have hD:=fun (R:Res) [Tab LT R] (g:R.σ)=>lN R p hl hr hp hh g
 have hC:=fun (R:Res) [Tab LT R] (s:Nat) (hs:s<2^24) (g:R.σ)=>iW R s hs g
 have hlt:aF (ak p).2 3 p.atoms.toNat<2^24:=g8 (by omega)
 have hS:=fun (R:Res) (g:R.σ)=>j9 R (ak p).2 p.atoms 3 (by omega) g
 have hS2:=fun (R:Res) (g:R.σ)=>j9 R (ak p).2 p.atoms 2 (by omega) g
 have hgt:decide ((10:Int)<((ag (aF (ak p).2 3 p.atoms.toNat)).l.length:Int))=false:=decide_eq_false (by
  have hO:(ag (aF (ak p).2 3 p.atoms.toNat)).l.length<=10:=hO
  omega)
 obtain⟨L,hL⟩:∃L,stP p most=L:=⟨_,rfl⟩
 rw[hL] at hN ⊢
 obtain⟨m,hm0⟩:∃m,m=L.length:=⟨_,rfl⟩
 have hmm:m<=100:=by
  have:=(cS (p:=p) (most:=most) (r:=aU (bA p)) (s:=dY p) (out:=[]) (Nat.zero_le _)).2.1
  have hL':stF p most (aU (bA p)) (dY p) []=L:=hL
  rw[hL'] at this
  omega
 have hF0:=(oG (p:=p) (most:=most) (O:=ag (bA p)) hm hO sR hl hr (ag (bA p)).l.length 0 (by omega)).nw
 rw[List.drop_zero] at hF0
 have hF:=fun (R:Res) [Tab LT R] (g:R.σ)=>hF0 R (dY p) m L g (g8 (by omega)) hL hN hm0
 unfold dY bA at hF
 clear hF0
 refine dP (nt:=45) (rs:=[.tmp 4,.tmp 5]) (k0:=0) (by kernel_rfl) (by kernel_rfl) (by kernel_rfl) rfl ?_
 refine vcQ [[1,0,1,0],[1,1,1,1,0,1,0]] (lkL [(0,[2,3]),(1,[2,3,18]),(3,[2,3,7]),(4,[2,3,7,8]),(5,[2,3,7,8,34]),(7,[2,3,7,8,9]),(8,[2,3,7,8,9,10]),(9,[2,7,9,10]),(10,[9]),(11,[4,5])]) (lkL [(1,[(1,ROrc.pcall (int i64 (if aG p=true then 0 else 2))),(5,ROrc.pcall (AV.bool (decide (1<=(most:Int)/\(most:Int)<=100))))]),(3,[(1,ROrc.call (tup 2 (nth [fz Fz.auto 2 ((bl (ak p).fst).l.length) fun (i:Nat)=>dR ((bl (ak p).fst).l.getD i default),ref 2 0])) [cells false 2 (nth [int i64 p.atoms,ad p.rules]),cells false 1 fun (a:Nat)=>int i64 (most:Int),cells false 27 (aI (ak p).snd)] g)]),(4,[(5,ROrc.lcall (int u64 (↑(aF (ak p).snd 3 (p.atoms.toNat)):Int)) [2]),(6,ROrc.callN (fn 105 0 (nth []) 1 (nth [ref (List.length [cells false 2 (nth [int i64 p.atoms,ad p.rules]),cells false 1 fun (a:Nat)=>int i64 (most:Int),cells false 27 (aI (ak p).snd)]) 0])) [] [cells false 1 fun (x:Nat)=>int u64 (↑(aF (ak p).snd 3 (p.atoms.toNat)):Int)] g),(7,ROrc.callS (fz Fz.auto 1 ((ag (aF (ak p).snd 3 (p.atoms.toNat))).l.length) fun (i x:Nat)=>ab (ag (aF (ak p).snd 3 (p.atoms.toNat))).l i) [(3,cells false 1 fun (j:Nat)=>any)] g),(9,ROrc.val (Orc.obj (nth [fz Fz.auto 1 ((ag (aF (ak p).snd 3 (p.atoms.toNat))).l.length) fun (i x:Nat)=>ab (ag (aF (ak p).snd 3 (p.atoms.toNat))).l i])))]),(9,[(1,ROrc.val (Orc.obj (nth [fn 78 0 (nth []) 5 (nth [ref 5 0,ref 1 0,ref 4 0,ref 6 0,ref 0 0])])))]),(10,[(6,ROrc.lcall (int u64 (↑(aF (ak p).snd 2 (p.atoms.toNat)):Int)) [2]),(7,ROrc.callN (tup 0 (nth [])) [(5,cells false 1 fun (j:Nat)=>ow true 7 m 1)] [cells false (m*1) (aB L)] g)])]) (fun Q=>(fun (u1:AV)=>(fun (u2:AObj)=>(fun (u3:AObj)=>(fun (u4:List AObj)=>(fun (u5:Int)=>(fun (u6:Int)=>(fun (u7:List AObj)=>(fun (u8:AObj)=>(fun (u9:Bool)=>(fun (u10:AV)=>(fun (u11:List AV)=>(fun (u12:AV)=>(fun (u13:Int)=>2<=2/\(∀(hp:List AObj) (g:R.σ),true=true/\Does Tryd.prog R 16 [au p] hp g (ret (int i64 u13)) hp g)/\((!u13 != 0)=true->1<=1)/\((!u13 != 0)=true->∀(hp:List AObj) (g:R.σ),true=true/\Does Tryd.prog R 58 [int i64 u6,int i64 1,int i64 100] hp g (ret (AV.bool (decide (1<=u6/\u6<=100)))) hp g)/\(u9=true->Wp Tryd.prog R 45 0 Rd.top (aD Tryd.prog 27) [1,0,1,0] (aT Tryd.prog R 45 0 Rd.top (aD Tryd.prog 27) Q [Kont.seq [1,1]]) (St.mk [(2,ref 0 0),(3,ref 1 0),(18,AV.bool u9)] [u2,u3] g))/\(u9=false->2<=2/\(true=true/\Does Tryd.prog R 60 [au p] [u2,u3] g (ret (tup 2 (nth [fz Fz.auto 2 ((bl (ak p).fst).l.length) fun (i:Nat)=>dR ((bl (ak p).fst).l.getD i default),ref 2 0]))) [u2,u3,u8] g)/\Tables.follows Tryd.prog.toTables Departure.mixedOrders=true/\1<=2/\(∀(hp':List AObj) (g':R.σ),SameO [2] [u2,u3,u8] hp'->true=true/\Does Tryd.prog R 76 [ref 2 2,int i64 p.atoms,int i64 3] hp' g' (ret u10) hp' g')/\(true=true/\Does Tryd.prog R 77 [u10] [u2,u3,u8] g (ret (fn 105 0 (nth []) 1 (nth [ref 3 0]))) [u2,u3,u8,cells false 1 fun (x:Nat)=>u10] g)/\(true=true/\Does Tryd.prog R 75 [fn 105 0 (nth []) 1 (nth [ref 3 0])] [u2,u3,u8,cells false 1 fun (x:Nat)=>u10] g (ret u1) [u2,u3,u8,cells false 1 fun (j:Nat)=>any] g)/\1<=1/\(∀(c:Nat),c<1->nth [u1] c=ah (fun (a:Nat)=>fz Fz.nil 0 0 fun _ _=>any) 0 1 (fun (x:Nat)=>u1) c)/\1<=1/\(decide (u5 > 10)=true->Wp Tryd.prog R 45 0 Rd.top (aD Tryd.prog 27) [1,1,1,1,0,1,0] (aT Tryd.prog R 45 0 Rd.top (aD Tryd.prog 27) Q [Kont.seq [1,1,1,1,1]]) (St.mk [(2,ref 0 0),(3,ref 1 0),(7,ref 2 0),(8,ref 4 0),(34,AV.bool (decide (u5 > 10)))] [u2,u3,u8,cells false 1 fun (j:Nat)=>any,cells false 1 (nth [u1])] g))/\(decide (u5 > 10)=false->1<=1/\(∀(c:Nat),c<1->nth [fn 78 0 (nth []) 5 (nth u11)] c=ah (fun (a:Nat)=>AV.nilf) 0 1 (fun (x:Nat)=>fn 78 0 (nth []) 5 (nth u11)) c)/\Tables.follows Tryd.prog.toTables Departure.mixedOrders=true/\1<=1/\1<=2/\(∀(hp':List AObj) (g':R.σ),SameO [2] u7 hp'->true=true/\Does Tryd.prog R 76 [ref 2 2,int i64 p.atoms,int i64 2] hp' g' (ret u12) hp' g')/\(true=true/\Does Tryd.prog R 78 (int i64 0::u12::u11) u7 g (ret (tup 0 (nth []))) u4 g)/\1<=1/\Q AEx.ret (St.mk [(4,ow true 7 m 1),(5,int i64 0)] u4 g)))) (if aG p=true then 0 else 2)) (int u64 (↑(aF (ak p).snd 2 (p.atoms.toNat)):Int))) ([ref 5 0,ref 1 0,ref 4 0,ref 6 0,ref 0 0])) (int u64 (↑(aF (ak p).snd 3 (p.atoms.toNat)):Int))) (bif (if aG p=true then 0 else 2) != 0 then true else !decide (1<=u6/\u6<=100))) (cells false 27 (aI (ak p).snd))) ([u2,u3,cells false 27 (aI (ak p).snd),cells false 1 fun (j:Nat)=>any,cells false 1 (nth [u1]),cells false 1 fun (a:Nat)=>fz Fz.nil 0 0 fun _ _=>any,cells false 1 (nth [fn 78 0 (nth []) 5 (nth [ref 5 0,ref 1 0,ref 4 0,ref 6 0,ref 0 0])])])) ((most:Int))) ((↑((ag (aF (ak p).snd 3 (p.atoms.toNat))).l.length):Int))) ([u2,u3,cells false 27 (aI (ak p).snd),cells false 1 fun (j:Nat)=>any,cells false 1 (nth [u1]),cells false 1 fun (j:Nat)=>ow true 7 m 1,cells false 1 (nth [fn 78 0 (nth []) 5 (nth [ref 5 0,ref 1 0,ref 4 0,ref 6 0,ref 0 0])]),cells false (m*1) fun (a:Nat)=>fz Fz.auto 1 ((ag (L.getD a 0)).l.length) fun (i x:Nat)=>ab (ag (L.getD a 0)).l i])) (cells false 1 fun (a:Nat)=>int i64 (most:Int))) (cells false 2 (nth [int i64 p.atoms,ad p.rules]))) (fz Fz.auto 1 ((ag (aF (ak p).snd 3 (p.atoms.toNat))).l.length) fun (i x:Nat)=>ab (ag (aF (ak p).snd 3 (p.atoms.toNat))).l i)) (fun _=>by kernel_rfl) ⟨by omega,(fun _ _=>⟨rfl,(fT _ _ _ _ (by omega))⟩),by omega,(fun hgd=>(fun _ _=>⟨rfl,(dS _ _ _ _ _ _)⟩)),fun hcc=>(nomatch (hc.symm.trans hcc)),fun _=>⟨by omega,⟨rfl,(fj (T:=LT) inferInstance [] 2 (fun R _ g=>hD R g) rfl rfl rfl (by exact trivial) (by exact trivial) (by exact⟨bu (by exact⟨⟨trivial,trivial⟩,trivial⟩),trivial⟩) (by exact(Az (fun i hi=>match i,hi with|0,_=>(Av _)|1,_=>(Av _) ))) (by exact⟨Ax,Ax,⟨rfl,Nat.le_refl _,fun j hj=>(by first|exact bF (by first|exact trivial|apply ll)|exact Aw (cW rfl))⟩,trivial⟩))⟩,by kernel_rfl,by omega,?_,⟨rfl,(dt _ _ _ _)⟩,⟨rfl,(fj (T:=LT) inferInstance [3] 4 (fun R _ g=>hC R (aF (ak p).snd 3 (p.atoms.toNat)) (by omega) g) rfl rfl rfl (by exact⟨⟨rfl,Nat.le_refl _,fun j hj=>match j,hj with|0,_=>(Av _) ⟩,trivial⟩) (by exact⟨by omega,trivial⟩) (by exact⟨(Le.fn (fun i hi=>absurd hi (by omega)) (fun i hi=>match i,hi with|0,_=>(Av _) )),trivial⟩) (by exact bF (by exact trivial)) (by exact⟨Ax,Ax,Ax,Ax,trivial⟩))⟩,by omega,(fun c hc=>match c,hc with|0,_=>(by kernel_rfl) ),by omega,fun hcc=>(nomatch (hgt.symm.trans hcc)),fun _=>⟨by omega,(fun c hc=>match c,hc with|0,_=>(by kernel_rfl) ),by kernel_rfl,by omega,by omega,?_,⟨rfl,(fj (T:=LT) inferInstance [5,1,4,6,0] 7 (fun R _ g=>hF R g) rfl rfl rfl (by exact⟨⟨rfl,Nat.le_refl _,fun j hj=>match j,hj with|0,_=>(Av _) ⟩,⟨rfl,Nat.le_refl _,fun j hj=>match j,hj with|0,_=>(Av _) ⟩,⟨rfl,Nat.le_refl _,fun j hj=>match j,hj with|0,_=>(Av _) ⟩,⟨rfl,Nat.le_refl _,fun j hj=>match j,hj with|0,_=>(Le.fn (fun i hi=>absurd hi (by omega)) (fun i hi=>match i,hi with|0,_=>(Av _)|1,_=>(Av _)|2,_=>(Av _)|3,_=>(Av _)|4,_=>(Av _) )) ⟩,⟨rfl,Nat.le_refl _,fun j hj=>match j,hj with|0,_=>(Av _)|1,_=>(Av _) ⟩,trivial⟩) (by exact⟨by omega,by omega,by omega,by omega,by omega,trivial⟩) (by exact⟨bu (by exact trivial),bu (by exact trivial),Av _,Av _,Av _,Av _,Av _,trivial⟩) (by exact bF (by exact trivial)) (by exact⟨⟨rfl,Nat.le_refl _,fun j hj=>match j,hj with|0,_=>(Av _)|1,_=>(Av _) ⟩,⟨rfl,Nat.le_refl _,fun j hj=>match j,hj with|0,_=>(Av _) ⟩,Ax,Ax,⟨rfl,Nat.le_refl _,fun j hj=>match j,hj with|0,_=>(Av _) ⟩,Ax,⟨rfl,Nat.le_refl _,fun j hj=>match j,hj with|0,_=>(Le.fn (fun i hi=>absurd hi (by omega)) (fun i hi=>match i,hi with|0,_=>(Av _)|1,_=>(Av _)|2,_=>(Av _)|3,_=>(Av _)|4,_=>(Av _) )) ⟩,⟨rfl,Nat.le_refl _,fun j hj=>(by first|exact bF (by first|exact trivial|apply dp)|exact Aw (gS rfl))⟩,trivial⟩))⟩,by omega,?_⟩⟩⟩
 ·intro hp' g' hs'
  exact⟨rfl,iN [2] (fun R g=>hS R g) (by exact⟨rfl,trivial⟩) rfl (by exact fun n=>⟨AF (fun j hj=>(cW trivial).symm),trivial⟩) ⟨by omega,trivial⟩ (by exact fun n=>⟨Av _,Av _,Av _,trivial⟩) rfl (by exact fun n=>Av _) (by exact fun n=>⟨AF (fun j hj=>cW trivial),trivial⟩) hp' g' hs'⟩
 ·intro hp' g' hs'
  exact⟨rfl,iN [2] (fun R g=>hS2 R g) (by exact⟨rfl,trivial⟩) rfl (by exact fun n=>⟨AF (fun j hj=>(cW trivial).symm),trivial⟩) ⟨by omega,trivial⟩ (by exact fun n=>⟨Av _,Av _,Av _,trivial⟩) rfl (by exact fun n=>Av _) (by exact fun n=>⟨AF (fun j hj=>cW trivial),trivial⟩) hp' g' hs'⟩
 ·subst hm0
  show a9 Tryd.prog R 0 _ _ _ _ .ret _
  refine bY (.tup 2 (nth [.ow true 7 L.length 1,.int .i64 0])) _ rfl trivial (fo 0 [(0,.tup 2 (nth [bo L.length (fun i=>ag (L.getD i 0)),.int .i64 0]))] (Nat.le_refl _) (Nat.zero_le _) (fun i hi=>absurd hi (Nat.not_lt_zero i)) ⟨aq.tup (fun j hj=>?_),trivial⟩)
  match j,hj with
  |0,_=>exact aq.le (aq.ow (o:=7) (N:=L.length*1) (c:=aB L) (get:=aB L) (fr:=false) rfl (Nat.zero_le _) (Nat.le_refl _) (by decide) (fun j _=>AC (dp _ _))) (AB rfl (fun i j hi hj=>by
    show aB L (i*1+j)=_
    rw[show i*1+j=i by omega]
    rfl))
  |1,_=>exact AC trivial
theorem sS (R:Res)[Tab LT R](p:Prg)(most:Nat)(hb:aG p=true)(hm:1<=most/\most<=100)(hO:(aU (bA p)).length<=10)(g:R.σ):Does Tryd.prog R 27 [au p,.int .i64 most] [] g (.ret (.tup 2 (nth [bo (stP p most).length (fun i=>ag ((stP p most).getD i 0)),.int .i64 0]))) [] g:=by
 by_cases hN:stP p most=[]
 ·rw[hN]
  exact eK (zJ R p most hb hm hO hN g) (ju ⟨Az (fun j hj=>match j,hj with|0,_=>Le.nil_auto|1,_=>Av _),trivial⟩ trivial rfl)
 ·exact zK R p most hb hm hO hN g
theorem zL {p:Prg}(h:aG p=true):∀r,r∈p.rules.l->cu p.atoms.toNat r:=by
 obtain⟨h1,h2,h3,h4,h5⟩:=eQ h
 have h3:1<=p.atoms/\p.atoms<=24:=h3
 intro r hr
 refine⟨⟨(h2 r hr).1.1,fun l hl=>?_⟩,?_⟩
 ·have:=h5 r hr l hl
  omega
 ·have:=h4 r hr
  have:=(h2 r hr).2
  omega
structure LstOk (p:Prg)(n:Nat)(s:List Bool)(left:Nat):Prop where
 len:s.length=n
 bit:∀j,j<n->s.getD j false = !left.testBit j
 lt:left<2^24
 inn:∀j,left.testBit j=true->j<n
 cls:∀x y,x<n->left.testBit x=false->Reach p x y->left.testBit y=false
section
variable {p:Prg}{n:Nat}{s:List Bool}{left:Nat}
end
end Go.Avm.Pack
namespace Go.Avm.Pack
open Go Go.Avm Go.Proofs
open Go.IntKind (i64 u64)
open Go.Avm.AV (int bool any fz fp sl ow ref fn ifc val agg tup)
open Go.Avm.AObj (cells dead)
open Go.Avm.Oc (ret)
set_option maxRecDepth 4000
theorem ka (R:Res)(a:Int)(hp:List AObj)(g:R.σ):Does Tryd.prog R 91 [.int .i64 a] hp g (.ret (bw ⟨a,false⟩)) hp g:=by
 refine bR (fun R g=>?_) (by exact⟨trivial,trivial⟩) R hp g
 refine spW (nt:=5) (rs:=[.cell 2 77]) (k0:=0) ?_
 refine vcR [] (lkL [(0,[0,2]),(1,[2])]) (lkL [(1,[(2,ROrc.val (Orc.obj (nth [int i64 a,AV.bool false])))])]) (fun Q=>2<=2/\(∀(c:Nat),c<2->nth [int i64 a,AV.bool false] c=ah (nth [int i64 0,AV.bool false]) 0 2 (List.brecOn (motive:=fun (x:List AV)=>Nat->AV) [int i64 a,AV.bool false] nth._f) c)/\Q AEx.ret (St.mk [(2,ref 0 0)] [cells false 2 (nth [int i64 a,AV.bool false])] g)) ⟨omg,(fun c hc=>match c,hc with|0,_=>krf|1,_=>krf ),?_⟩
 refine(aw (bt (agg 2 (nth [int i64 a,AV.bool false])) ([0+(TyI.mk ((fun (x:TypeInfo)=>x.desc) Tryd.prog.types[76]) Tryd.prog.types[77].size Tryd.prog.types[77].bytes (cN (ek (Value.agg #[Value.int i64 0,Value.bool false]))) (dz ((fun (x:TypeInfo)=>x.desc) Tryd.prog.types[76])) (eV Tryd.prog 77)).size<=2]) krf (by exact⟨dcd,trivial⟩) ⟨⟨trivial,trivial⟩,trivial⟩ rfl) (Aw krf))
theorem kb (R:Res)(a:Int)(hp:List AObj)(g:R.σ):Does Tryd.prog R 92 [.int .i64 a] hp g (.ret (bw ⟨a,true⟩)) hp g:=by
 refine bR (fun R g=>?_) (by exact⟨trivial,trivial⟩) R hp g
 refine spW (nt:=5) (rs:=[.cell 2 77]) (k0:=0) ?_
 refine vcR [] (lkL [(0,[0,2]),(1,[2])]) (lkL [(1,[(2,ROrc.val (Orc.obj (nth [int i64 a,AV.bool true])))])]) (fun Q=>2<=2/\(∀(c:Nat),c<2->nth [int i64 a,AV.bool true] c=ah (nth [int i64 0,AV.bool false]) 0 2 (List.brecOn (motive:=fun (x:List AV)=>Nat->AV) [int i64 a,AV.bool true] nth._f) c)/\Q AEx.ret (St.mk [(2,ref 0 0)] [cells false 2 (nth [int i64 a,AV.bool true])] g)) ⟨omg,(fun c hc=>match c,hc with|0,_=>krf|1,_=>krf ),?_⟩
 refine(aw (bt (agg 2 (nth [int i64 a,AV.bool true])) ([0+(TyI.mk ((fun (x:TypeInfo)=>x.desc) Tryd.prog.types[76]) Tryd.prog.types[77].size Tryd.prog.types[77].bytes (cN (ek (Value.agg #[Value.int i64 0,Value.bool false]))) (dz ((fun (x:TypeInfo)=>x.desc) Tryd.prog.types[76])) (eV Tryd.prog 77)).size<=2]) krf (by exact⟨dcd,trivial⟩) ⟨⟨trivial,trivial⟩,trivial⟩ rfl) (Aw krf))
theorem fy (R:Res)(a:Int)(b:KL Lit)(hp:List AObj)(g:R.σ):Does Tryd.prog R 90 [.int .i64 a,ao b] hp g (.ret (bC ⟨a,b⟩)) hp g:=by
 refine bR (fun R g=>?_) (by exact⟨trivial,trivial,trivial⟩) R hp g
 refine spW (nt:=8) (rs:=[.cell 4 75]) (k0:=0) ?_
 refine vcR [] (lkL [(0,[0,1,4]),(1,[4])]) (lkL [(1,[(3,ROrc.val (Orc.obj (nth [int i64 a,ao b])))])]) (fun Q=>2<=2/\(∀(c:Nat),c<2->nth [int i64 a,ao b] c=ah (nth [int i64 0,fz Fz.nil 0 0 fun x x_1=>any]) 0 2 (List.brecOn (motive:=fun (x:List AV)=>Nat->AV) [int i64 a,ao b] nth._f) c)/\Q AEx.ret (St.mk [(4,ref 0 0)] [cells false 2 (nth [int i64 a,ao b])] g)) ⟨omg,(fun c hc=>match c,hc with|0,_=>krf|1,_=>krf ),?_⟩
 refine(aw (bt (agg 2 (nth [int i64 a,fz b.2 2 (b.l.length) fun (i:Nat)=>iP (b.l.getD i default)])) ([0+(TyI.mk ((fun (x:TypeInfo)=>x.desc) Tryd.prog.types[74]) Tryd.prog.types[75].size Tryd.prog.types[75].bytes (cN (ek (Value.agg #[Value.int i64 0,Value.slice none 0 0]))) (dz ((fun (x:TypeInfo)=>x.desc) Tryd.prog.types[74])) (eV Tryd.prog 75)).size<=2]) krf (by exact⟨dcd,trivial⟩) ⟨⟨trivial,trivial⟩,trivial⟩ rfl) (Aw krf))
def tN:KL Lit:=⟨[],.nil⟩
def tA1:KL Lit:=⟨[⟨0,false⟩,⟨2,true⟩],.exa⟩
def tA2:KL Lit:=⟨[⟨3,false⟩],.exa⟩
def tA3:KL Lit:=⟨[⟨2,false⟩],.exa⟩
def tA4:KL Lit:=⟨[⟨5,true⟩],.exa⟩
def tA5:KL Lit:=⟨[⟨4,true⟩],.exa⟩
def tAR:KL Rule:=⟨[⟨0,tN⟩,⟨1,tA1⟩,⟨2,tA2⟩,⟨3,tA3⟩,⟨4,tA4⟩,⟨5,tA5⟩],.exa⟩
def tA:Prg:=⟨6,tAR⟩
def tB1:KL Lit:=⟨[⟨1,true⟩],.exa⟩
def tB2:KL Lit:=⟨[⟨0,true⟩],.exa⟩
def tB3:KL Lit:=⟨[⟨0,false⟩],.exa⟩
def tB4:KL Lit:=⟨[⟨1,false⟩],.exa⟩
def tBR:KL Rule:=⟨[⟨0,tB1⟩,⟨1,tB2⟩,⟨2,tB3⟩,⟨2,tB4⟩],.exa⟩
def tB:Prg:=⟨3,tBR⟩
def tS1:KL Int:=⟨[0],.exa⟩
def tS2:KL Int:=⟨[2,3],.exa⟩
def tS3:KL Int:=⟨[1],.exa⟩
def tS:KL Step:=⟨[⟨0,tS1⟩,⟨-1,tS2⟩,⟨1,tS3⟩],.exa⟩
theorem c_A (R:Res)(hp:List AObj)(g:R.σ):Does Tryd.prog R 44 [] hp g (.ret (au tA)) hp g:=by
 refine bR (fun R g=>?_) (by exact trivial) R hp g
 obtain⟨v0,e0⟩:∃v,v=tN:=⟨_,rfl⟩
 obtain⟨v1,e1⟩:∃v,v=tA1:=⟨_,rfl⟩
 obtain⟨v2,e2⟩:∃v,v=tA2:=⟨_,rfl⟩
 obtain⟨v3,e3⟩:∃v,v=tA3:=⟨_,rfl⟩
 obtain⟨v4,e4⟩:∃v,v=tA4:=⟨_,rfl⟩
 obtain⟨v5,e5⟩:∃v,v=tA5:=⟨_,rfl⟩
 obtain⟨w,f⟩:∃v,v=tAR:=⟨_,rfl⟩
 show Does _ _ _ _ _ _ (.ret (au ⟨6,tAR⟩)) _ _
 rw[<-f]
 refine spW (nt:=20) (rs:=[.cell 0 24]) (k0:=0) ?_
 refine vcR [] (lkL [(0,[0]),(1,[0])]) (lkL [(1,[(0,ROrc.pcall (bC (Rule.mk 0 (KL.mk [] Fz.nil)))),(1,ROrc.pcall (bw (Lit.mk 0 false))),(2,ROrc.pcall (bw (Lit.mk 2 true))),(3,ROrc.kop (ao v1)),(4,ROrc.pcall (bC (Rule.mk 1 v1))),(5,ROrc.pcall (bw (Lit.mk 3 false))),(6,ROrc.kop (ao v2)),(7,ROrc.pcall (bC (Rule.mk 2 v2))),(8,ROrc.pcall (bw (Lit.mk 2 false))),(9,ROrc.kop (ao v3)),(10,ROrc.pcall (bC (Rule.mk 3 v3))),(11,ROrc.pcall (bw (Lit.mk 5 true))),(12,ROrc.kop (ao v4)),(13,ROrc.pcall (bC (Rule.mk 4 v4))),(14,ROrc.pcall (bw (Lit.mk 4 true))),(15,ROrc.kop (ao v5)),(16,ROrc.pcall (bC (Rule.mk 5 v5))),(17,ROrc.kop (ad w)),(19,ROrc.val (Orc.obj (nth [int i64 6,ad w])))])]) (fun Q=>(fun (u1:List Row)=>(fun (u2:List AObj)=>(fun (u3:List Row)=>(fun (u4:List Row)=>(fun (u5:List Row)=>(fun (u6:List (Nat × AV))=>(∀(hp:List AObj) (g:R.σ),true=true/\Does Tryd.prog R 90 [int i64 0,fz Fz.nil 0 0 fun x x_1=>any] hp g (ret (agg 2 (nth [int i64 0,fz Fz.nil 2 0 fun i=>iP ((KL.mk [] Fz.nil).l.getD i default)]))) hp g)/\(∀(hp:List AObj) (g:R.σ),true=true/\Does Tryd.prog R 91 [int i64 0] hp g (ret (agg 2 (nth [int i64 0,AV.bool false]))) hp g)/\(∀(hp:List AObj) (g:R.σ),true=true/\Does Tryd.prog R 92 [int i64 2] hp g (ret (agg 2 (nth [int i64 2,AV.bool true]))) hp g)/\OpOk Tryd.prog R (Oper.mk (some 4) (Op.buildSlice 73 2 #[(0,Operand.tmp 2),(1,Operand.tmp 3)]) 73 "law.go:21" #[Edge.mk 1 Ground.data,Edge.mk 2 Ground.data] none) (evO u4 u6 []) u2 g (ao v1) u2 g/\(∀(hp:List AObj) (g:R.σ),true=true/\Does Tryd.prog R 90 [int i64 1,ao v1] hp g (ret (agg 2 (nth [int i64 1,ao v1]))) hp g)/\(∀(hp:List AObj) (g:R.σ),true=true/\Does Tryd.prog R 91 [int i64 3] hp g (ret (agg 2 (nth [int i64 3,AV.bool false]))) hp g)/\OpOk Tryd.prog R (Oper.mk (some 7) (Op.buildSlice 73 1 #[(0,Operand.tmp 6)]) 73 "law.go:21" #[Edge.mk 5 Ground.data] none) (evO (Row.mk (some 6) none (agg 2 (nth [int i64 3,AV.bool false])) false (some []) []::Row.mk (some 5) none (agg 2 (nth [int i64 1,ao v1])) false (some []) []::Row.mk (some 4) none (ao v1) true (some []) []::u4) u6 []) u2 g (ao v2) u2 g/\(∀(hp:List AObj) (g:R.σ),true=true/\Does Tryd.prog R 90 [int i64 2,ao v2] hp g (ret (agg 2 (nth [int i64 2,ao v2]))) hp g)/\(∀(hp:List AObj) (g:R.σ),true=true/\Does Tryd.prog R 91 [int i64 2] hp g (ret (agg 2 (nth [int i64 2,AV.bool false]))) hp g)/\OpOk Tryd.prog R (Oper.mk (some 10) (Op.buildSlice 73 1 #[(0,Operand.tmp 9)]) 73 "law.go:21" #[Edge.mk 8 Ground.data] none) (evO u1 u6 []) u2 g (ao v3) u2 g/\(∀(hp:List AObj) (g:R.σ),true=true/\Does Tryd.prog R 90 [int i64 3,ao v3] hp g (ret (agg 2 (nth [int i64 3,ao v3]))) hp g)/\(∀(hp:List AObj) (g:R.σ),true=true/\Does Tryd.prog R 92 [int i64 5] hp g (ret (agg 2 (nth [int i64 5,AV.bool true]))) hp g)/\OpOk Tryd.prog R (Oper.mk (some 13) (Op.buildSlice 73 1 #[(0,Operand.tmp 12)]) 73 "law.go:21" #[Edge.mk 11 Ground.data] none) (evO u3 u6 []) u2 g (ao v4) u2 g/\(∀(hp:List AObj) (g:R.σ),true=true/\Does Tryd.prog R 90 [int i64 4,ao v4] hp g (ret (agg 2 (nth [int i64 4,ao v4]))) hp g)/\(∀(hp:List AObj) (g:R.σ),true=true/\Does Tryd.prog R 92 [int i64 4] hp g (ret (agg 2 (nth [int i64 4,AV.bool true]))) hp g)/\OpOk Tryd.prog R (Oper.mk (some 16) (Op.buildSlice 73 1 #[(0,Operand.tmp 15)]) 73 "law.go:21" #[Edge.mk 14 Ground.data] none) (evO u5 u6 []) u2 g (ao v5) u2 g/\(∀(hp:List AObj) (g:R.σ),true=true/\Does Tryd.prog R 90 [int i64 5,ao v5] hp g (ret (agg 2 (nth [int i64 5,ao v5]))) hp g)/\OpOk Tryd.prog R (Oper.mk (some 18) (Op.buildSlice 22 6 #[(0,Operand.tmp 1),(1,Operand.tmp 5),(2,Operand.tmp 8),(3,Operand.tmp 11),(4,Operand.tmp 14),(5,Operand.tmp 17)]) 22 "law.go:21" #[Edge.mk 0 Ground.data,Edge.mk 4 Ground.data,Edge.mk 7 Ground.data,Edge.mk 10 Ground.data,Edge.mk 13 Ground.data,Edge.mk 16 Ground.data] none) (evO (Row.mk (some 17) none (agg 2 (nth [int i64 5,ao v5])) false (some []) []::Row.mk (some 16) none (ao v5) true (some []) []::u5) u6 []) u2 g (ad w) u2 g/\2<=2/\(∀(c:Nat),c<2->nth [int i64 6,ad w] c=ah (nth [int i64 0,fz Fz.nil 0 0 fun x x_1=>any]) 0 2 (List.brecOn (motive:=fun (x:List AV)=>Nat->AV) [int i64 6,ad w] nth._f) c)/\Q AEx.ret (St.mk u6 [cells false 2 (nth [int i64 6,ad w])] g)) ([(0,ref 0 0)])) (Row.mk (some 15) none (agg 2 (nth [int i64 4,AV.bool true])) false (some []) []::Row.mk (some 14) none (agg 2 (nth [int i64 4,ao v4])) false (some []) []::Row.mk (some 13) none (ao v4) true (some []) []::u3)) ([Row.mk (some 3) none (agg 2 (nth [int i64 2,AV.bool true])) false (some []) [],Row.mk (some 2) none (agg 2 (nth [int i64 0,AV.bool false])) false (some []) [],Row.mk (some 1) none (agg 2 (nth [int i64 0,fz Fz.nil 2 0 fun i=>iP (List.getD [] i default)])) false (some []) []])) (Row.mk (some 12) none (agg 2 (nth [int i64 5,AV.bool true])) false (some []) []::Row.mk (some 11) none (agg 2 (nth [int i64 3,ao v3])) false (some []) []::Row.mk (some 10) none (ao v3) true (some []) []::u1)) ([cells false 2 (nth [int i64 0,fz Fz.nil 0 0 fun x x_1=>any])])) ([Row.mk (some 9) none (agg 2 (nth [int i64 2,AV.bool false])) false (some []) [],Row.mk (some 8) none (agg 2 (nth [int i64 2,ao v2])) false (some []) [],Row.mk (some 7) none (ao v2) true (some []) [],Row.mk (some 6) none (agg 2 (nth [int i64 3,AV.bool false])) false (some []) [],Row.mk (some 5) none (agg 2 (nth [int i64 1,ao v1])) false (some []) [],Row.mk (some 4) none (ao v1) true (some []) [],Row.mk (some 3) none (agg 2 (nth [int i64 2,AV.bool true])) false (some []) [],Row.mk (some 2) none (agg 2 (nth [int i64 0,AV.bool false])) false (some []) [],Row.mk (some 1) none (agg 2 (nth [int i64 0,fz Fz.nil 2 0 fun i=>iP (List.getD [] i default)])) false (some []) []])) ⟨(fun _ _=>⟨rfl,(mY (args':=[int i64 0,ao (KL.mk [] Fz.nil)]) (fy _ _ (KL.mk [] Fz.nil) _ _) (by exact⟨Av _,Le.nil,trivial⟩) (Av _))⟩),(fun _ _=>⟨rfl,(ka _ _ _ _)⟩),(fun _ _=>⟨rfl,(kb _ _ _ _)⟩),?_,(fun _ _=>⟨rfl,(fy _ _ _ _ _)⟩),(fun _ _=>⟨rfl,(ka _ _ _ _)⟩),?_,(fun _ _=>⟨rfl,(fy _ _ _ _ _)⟩),(fun _ _=>⟨rfl,(ka _ _ _ _)⟩),?_,(fun _ _=>⟨rfl,(fy _ _ _ _ _)⟩),(fun _ _=>⟨rfl,(kb _ _ _ _)⟩),?_,(fun _ _=>⟨rfl,(fy _ _ _ _ _)⟩),(fun _ _=>⟨rfl,(kb _ _ _ _)⟩),?_,(fun _ _=>⟨rfl,(fy _ _ _ _ _)⟩),?_,omg,(fun c hc=>match c,hc with|0,_=>krf|1,_=>krf ),?_⟩
 ·subst e1;exact cd (n:=2) (es:=2) krf (by exact⟨⟨⟨trivial,trivial⟩,trivial⟩,⟨⟨trivial,trivial⟩,trivial⟩,trivial⟩) rfl rfl (fun i hi j hj=>match i,hi,j,hj with|0,_,0,_=>krf|0,_,1,_=>krf|1,_,0,_=>krf|1,_,1,_=>krf ) (fun i hi j hj=>match i,hi,j,hj with|0,_,0,_=>trivial|0,_,1,_=>trivial|1,_,0,_=>trivial|1,_,1,_=>trivial )
 ·subst e2;exact cd (n:=1) (es:=2) krf (by exact⟨⟨⟨trivial,trivial⟩,trivial⟩,trivial⟩) rfl rfl (fun i hi j hj=>match i,hi,j,hj with|0,_,0,_=>krf|0,_,1,_=>krf ) (fun i hi j hj=>match i,hi,j,hj with|0,_,0,_=>trivial|0,_,1,_=>trivial )
 ·subst e3;exact cd (n:=1) (es:=2) krf (by exact⟨⟨⟨trivial,trivial⟩,trivial⟩,trivial⟩) rfl rfl (fun i hi j hj=>match i,hi,j,hj with|0,_,0,_=>krf|0,_,1,_=>krf ) (fun i hi j hj=>match i,hi,j,hj with|0,_,0,_=>trivial|0,_,1,_=>trivial )
 ·subst e4;exact cd (n:=1) (es:=2) krf (by exact⟨⟨⟨trivial,trivial⟩,trivial⟩,trivial⟩) rfl rfl (fun i hi j hj=>match i,hi,j,hj with|0,_,0,_=>krf|0,_,1,_=>krf ) (fun i hi j hj=>match i,hi,j,hj with|0,_,0,_=>trivial|0,_,1,_=>trivial )
 ·subst e5;exact cd (n:=1) (es:=2) krf (by exact⟨⟨⟨trivial,trivial⟩,trivial⟩,trivial⟩) rfl rfl (fun i hi j hj=>match i,hi,j,hj with|0,_,0,_=>krf|0,_,1,_=>krf ) (fun i hi j hj=>match i,hi,j,hj with|0,_,0,_=>trivial|0,_,1,_=>trivial )
 ·subst e1 e2 e3 e4 e5 f;exact cd (n:=6) (es:=2) krf (by exact⟨⟨⟨trivial,trivial⟩,trivial⟩,⟨⟨trivial,trivial⟩,trivial⟩,⟨⟨trivial,trivial⟩,trivial⟩,⟨⟨trivial,trivial⟩,trivial⟩,⟨⟨trivial,trivial⟩,trivial⟩,⟨⟨trivial,trivial⟩,trivial⟩,trivial⟩) rfl rfl (fun i hi j hj=>match i,hi,j,hj with|0,_,0,_=>krf|0,_,1,_=>krf|1,_,0,_=>krf|1,_,1,_=>krf|2,_,0,_=>krf|2,_,1,_=>krf|3,_,0,_=>krf|3,_,1,_=>krf|4,_,0,_=>krf|4,_,1,_=>krf|5,_,0,_=>krf|5,_,1,_=>krf ) (fun i hi j hj=>match i,hi,j,hj with|0,_,0,_=>trivial|0,_,1,_=>trivial|1,_,0,_=>trivial|1,_,1,_=>trivial|2,_,0,_=>trivial|2,_,1,_=>trivial|3,_,0,_=>trivial|3,_,1,_=>trivial|4,_,0,_=>trivial|4,_,1,_=>trivial|5,_,0,_=>trivial|5,_,1,_=>trivial )
 ·refine(aw (bt (agg 2 (nth [int i64 6,fz w.2 2 (w.l.length) fun (i:Nat)=>bB (w.l.getD i default)])) ([0+(TyI.mk ((fun (x:TypeInfo)=>x.desc) Tryd.prog.types[23]) Tryd.prog.types[24].size Tryd.prog.types[24].bytes (cN (ek (Value.agg #[Value.int i64 0,Value.slice none 0 0]))) (dz ((fun (x:TypeInfo)=>x.desc) Tryd.prog.types[23])) (eV Tryd.prog 24)).size<=2]) krf (by exact⟨dcd,trivial⟩) ⟨⟨trivial,trivial⟩,trivial⟩ rfl) (Aw krf))
theorem c_B (R:Res)(hp:List AObj)(g:R.σ):Does Tryd.prog R 45 [] hp g (.ret (au tB)) hp g:=by
 refine bR (fun R g=>?_) (by exact trivial) R hp g
 obtain⟨v1,e1⟩:∃v,v=tB1:=⟨_,rfl⟩
 obtain⟨v2,e2⟩:∃v,v=tB2:=⟨_,rfl⟩
 obtain⟨v3,e3⟩:∃v,v=tB3:=⟨_,rfl⟩
 obtain⟨v4,e4⟩:∃v,v=tB4:=⟨_,rfl⟩
 obtain⟨w,f⟩:∃v,v=tBR:=⟨_,rfl⟩
 show Does _ _ _ _ _ _ (.ret (au ⟨3,tBR⟩)) _ _
 rw[<-f]
 refine spW (nt:=15) (rs:=[.cell 0 24]) (k0:=0) ?_
 refine vcR [] (lkL [(0,[0]),(1,[0])]) (lkL [(1,[(0,ROrc.pcall (bw (Lit.mk 1 true))),(1,ROrc.kop (ao v1)),(2,ROrc.pcall (bC (Rule.mk 0 v1))),(3,ROrc.pcall (bw (Lit.mk 0 true))),(4,ROrc.kop (ao v2)),(5,ROrc.pcall (bC (Rule.mk 1 v2))),(6,ROrc.pcall (bw (Lit.mk 0 false))),(7,ROrc.kop (ao v3)),(8,ROrc.pcall (bC (Rule.mk 2 v3))),(9,ROrc.pcall (bw (Lit.mk 1 false))),(10,ROrc.kop (ao v4)),(11,ROrc.pcall (bC (Rule.mk 2 v4))),(12,ROrc.kop (ad w)),(14,ROrc.val (Orc.obj (nth [int i64 3,ad w])))])]) (fun Q=>(fun (u1:List Row)=>(fun (u2:List AObj)=>(fun (u3:List Row)=>(fun (u4:Row)=>(fun (u5:AV)=>(∀(hp:List AObj) (g:R.σ),true=true/\Does Tryd.prog R 92 [int i64 1] hp g (ret (agg 2 (nth [int i64 1,AV.bool true]))) hp g)/\OpOk Tryd.prog R (Oper.mk (some 2) (Op.buildSlice 73 1 #[(0,Operand.tmp 1)]) 73 "law.go:25" #[Edge.mk 0 Ground.data] none) (evO [u4] [(0,ref 0 0)] []) u2 g (ao v1) u2 g/\(∀(hp:List AObj) (g:R.σ),true=true/\Does Tryd.prog R 90 [u5,ao v1] hp g (ret (agg 2 (nth [u5,ao v1]))) hp g)/\(∀(hp:List AObj) (g:R.σ),true=true/\Does Tryd.prog R 92 [u5] hp g (ret (agg 2 (nth [u5,AV.bool true]))) hp g)/\OpOk Tryd.prog R (Oper.mk (some 5) (Op.buildSlice 73 1 #[(0,Operand.tmp 4)]) 73 "law.go:25" #[Edge.mk 3 Ground.data] none) (evO [Row.mk (some 4) none (agg 2 (nth [u5,AV.bool true])) false (some []) [],Row.mk (some 3) none (agg 2 (nth [u5,ao v1])) false (some []) [],Row.mk (some 2) none (ao v1) true (some []) [],u4] [(0,ref 0 0)] []) u2 g (ao v2) u2 g/\(∀(hp:List AObj) (g:R.σ),true=true/\Does Tryd.prog R 90 [int i64 1,ao v2] hp g (ret (agg 2 (nth [int i64 1,ao v2]))) hp g)/\(∀(hp:List AObj) (g:R.σ),true=true/\Does Tryd.prog R 91 [u5] hp g (ret (agg 2 (nth [u5,AV.bool false]))) hp g)/\OpOk Tryd.prog R (Oper.mk (some 8) (Op.buildSlice 73 1 #[(0,Operand.tmp 7)]) 73 "law.go:25" #[Edge.mk 6 Ground.data] none) (evO u1 [(0,ref 0 0)] []) u2 g (ao v3) u2 g/\(∀(hp:List AObj) (g:R.σ),true=true/\Does Tryd.prog R 90 [int i64 2,ao v3] hp g (ret (agg 2 (nth [int i64 2,ao v3]))) hp g)/\(∀(hp:List AObj) (g:R.σ),true=true/\Does Tryd.prog R 91 [int i64 1] hp g (ret (agg 2 (nth [int i64 1,AV.bool false]))) hp g)/\OpOk Tryd.prog R (Oper.mk (some 11) (Op.buildSlice 73 1 #[(0,Operand.tmp 10)]) 73 "law.go:25" #[Edge.mk 9 Ground.data] none) (evO u3 [(0,ref 0 0)] []) u2 g (ao v4) u2 g/\(∀(hp:List AObj) (g:R.σ),true=true/\Does Tryd.prog R 90 [int i64 2,ao v4] hp g (ret (agg 2 (nth [int i64 2,ao v4]))) hp g)/\OpOk Tryd.prog R (Oper.mk (some 13) (Op.buildSlice 22 4 #[(0,Operand.tmp 3),(1,Operand.tmp 6),(2,Operand.tmp 9),(3,Operand.tmp 12)]) 22 "law.go:25" #[Edge.mk 2 Ground.data,Edge.mk 5 Ground.data,Edge.mk 8 Ground.data,Edge.mk 11 Ground.data] none) (evO (Row.mk (some 12) none (agg 2 (nth [int i64 2,ao v4])) false (some []) []::Row.mk (some 11) none (ao v4) true (some []) []::u3) [(0,ref 0 0)] []) u2 g (ad w) u2 g/\2<=2/\(∀(c:Nat),c<2->nth [int i64 3,ad w] c=ah (nth [u5,fz Fz.nil 0 0 fun x x_1=>any]) 0 2 (List.brecOn (motive:=fun (x:List AV)=>Nat->AV) [int i64 3,ad w] nth._f) c)/\Q AEx.ret (St.mk [(0,ref 0 0)] [cells false 2 (nth [int i64 3,ad w])] g)) (int i64 0)) (Row.mk (some 1) none (agg 2 (nth [int i64 1,AV.bool true])) false (some []) [])) (Row.mk (some 10) none (agg 2 (nth [int i64 1,AV.bool false])) false (some []) []::Row.mk (some 9) none (agg 2 (nth [int i64 2,ao v3])) false (some []) []::Row.mk (some 8) none (ao v3) true (some []) []::u1)) ([cells false 2 (nth [int i64 0,fz Fz.nil 0 0 fun x x_1=>any])])) ([Row.mk (some 7) none (agg 2 (nth [int i64 0,AV.bool false])) false (some []) [],Row.mk (some 6) none (agg 2 (nth [int i64 1,ao v2])) false (some []) [],Row.mk (some 5) none (ao v2) true (some []) [],Row.mk (some 4) none (agg 2 (nth [int i64 0,AV.bool true])) false (some []) [],Row.mk (some 3) none (agg 2 (nth [int i64 0,ao v1])) false (some []) [],Row.mk (some 2) none (ao v1) true (some []) [],Row.mk (some 1) none (agg 2 (nth [int i64 1,AV.bool true])) false (some []) []])) ⟨(fun _ _=>⟨rfl,(kb _ _ _ _)⟩),?_,(fun _ _=>⟨rfl,(fy _ _ _ _ _)⟩),(fun _ _=>⟨rfl,(kb _ _ _ _)⟩),?_,(fun _ _=>⟨rfl,(fy _ _ _ _ _)⟩),(fun _ _=>⟨rfl,(ka _ _ _ _)⟩),?_,(fun _ _=>⟨rfl,(fy _ _ _ _ _)⟩),(fun _ _=>⟨rfl,(ka _ _ _ _)⟩),?_,(fun _ _=>⟨rfl,(fy _ _ _ _ _)⟩),?_,omg,(fun c hc=>match c,hc with|0,_=>krf|1,_=>krf ),?_⟩
 ·subst e1;exact cd (n:=1) (es:=2) krf (by exact⟨⟨⟨trivial,trivial⟩,trivial⟩,trivial⟩) rfl rfl (fun i hi j hj=>match i,hi,j,hj with|0,_,0,_=>krf|0,_,1,_=>krf ) (fun i hi j hj=>match i,hi,j,hj with|0,_,0,_=>trivial|0,_,1,_=>trivial )
 ·subst e2;exact cd (n:=1) (es:=2) krf (by exact⟨⟨⟨trivial,trivial⟩,trivial⟩,trivial⟩) rfl rfl (fun i hi j hj=>match i,hi,j,hj with|0,_,0,_=>krf|0,_,1,_=>krf ) (fun i hi j hj=>match i,hi,j,hj with|0,_,0,_=>trivial|0,_,1,_=>trivial )
 ·subst e3;exact cd (n:=1) (es:=2) krf (by exact⟨⟨⟨trivial,trivial⟩,trivial⟩,trivial⟩) rfl rfl (fun i hi j hj=>match i,hi,j,hj with|0,_,0,_=>krf|0,_,1,_=>krf ) (fun i hi j hj=>match i,hi,j,hj with|0,_,0,_=>trivial|0,_,1,_=>trivial )
 ·subst e4;exact cd (n:=1) (es:=2) krf (by exact⟨⟨⟨trivial,trivial⟩,trivial⟩,trivial⟩) rfl rfl (fun i hi j hj=>match i,hi,j,hj with|0,_,0,_=>krf|0,_,1,_=>krf ) (fun i hi j hj=>match i,hi,j,hj with|0,_,0,_=>trivial|0,_,1,_=>trivial )
 ·subst e1 e2 e3 e4 f;exact cd (n:=4) (es:=2) krf (by exact⟨⟨⟨trivial,trivial⟩,trivial⟩,⟨⟨trivial,trivial⟩,trivial⟩,⟨⟨trivial,trivial⟩,trivial⟩,⟨⟨trivial,trivial⟩,trivial⟩,trivial⟩) rfl rfl (fun i hi j hj=>match i,hi,j,hj with|0,_,0,_=>krf|0,_,1,_=>krf|1,_,0,_=>krf|1,_,1,_=>krf|2,_,0,_=>krf|2,_,1,_=>krf|3,_,0,_=>krf|3,_,1,_=>krf ) (fun i hi j hj=>match i,hi,j,hj with|0,_,0,_=>trivial|0,_,1,_=>trivial|1,_,0,_=>trivial|1,_,1,_=>trivial|2,_,0,_=>trivial|2,_,1,_=>trivial|3,_,0,_=>trivial|3,_,1,_=>trivial )
 ·refine(aw (bt (agg 2 (nth [int i64 3,fz w.2 2 (w.l.length) fun (i:Nat)=>bB (w.l.getD i default)])) ([0+(TyI.mk ((fun (x:TypeInfo)=>x.desc) Tryd.prog.types[23]) Tryd.prog.types[24].size Tryd.prog.types[24].bytes (cN (ek (Value.agg #[Value.int i64 0,Value.slice none 0 0]))) (dz ((fun (x:TypeInfo)=>x.desc) Tryd.prog.types[23])) (eV Tryd.prog 24)).size<=2]) krf (by exact⟨dcd,trivial⟩) ⟨⟨trivial,trivial⟩,trivial⟩ rfl) (Aw krf))
theorem zM (R:Res)(hp:List AObj)(g:R.σ):Does Tryd.prog R 57 [] hp g (.ret (aQ tS)) hp g:=by
 refine bR (fun R g=>?_) (by exact trivial) R hp g
 obtain⟨v1,e1⟩:∃v,v=tS1:=⟨_,rfl⟩
 obtain⟨v2,e2⟩:∃v,v=tS2:=⟨_,rfl⟩
 obtain⟨v3,e3⟩:∃v,v=tS3:=⟨_,rfl⟩
 obtain⟨w,f⟩:∃v,v=tS:=⟨_,rfl⟩
 rw[<-f]
 refine spW (nt:=8) (rs:=[.tmp 0]) (k0:=0) ?_
 refine vcR [] (lkL [(1,[0])]) (lkL [(1,[(0,ROrc.kop (aj v1)),(2,ROrc.kop (aj v2)),(4,ROrc.kop (aj v3)),(6,ROrc.kop (aQ w))])]) (fun Q=>(fun (u1:List Row)=>OpOk Tryd.prog R (Oper.mk (some 1) (Op.buildSlice 53 1 #[(0,Operand.const (Value.int i64 0))]) 53 "law.go:30" #[] none) (evO [] [] []) [] g (aj v1) [] g/\OpOk Tryd.prog R (Oper.mk (some 3) (Op.buildSlice 53 2 #[(0,Operand.const (Value.int i64 2)),(1,Operand.const (Value.int i64 3))]) 53 "law.go:30" #[] none) (evO [Row.mk (some 2) none (agg 2 (nth [int i64 0,aj v1])) false (some []) [],Row.mk (some 1) none (aj v1) true (some []) []] [] []) [] g (aj v2) [] g/\OpOk Tryd.prog R (Oper.mk (some 5) (Op.buildSlice 53 1 #[(0,Operand.const (Value.int i64 1))]) 53 "law.go:30" #[] none) (evO u1 [] []) [] g (aj v3) [] g/\OpOk Tryd.prog R (Oper.mk (some 7) (Op.buildSlice 29 3 #[(0,Operand.tmp 2),(1,Operand.tmp 4),(2,Operand.tmp 6)]) 29 "law.go:30" #[Edge.mk 1 Ground.data,Edge.mk 3 Ground.data,Edge.mk 5 Ground.data] none) (evO (Row.mk (some 6) none (agg 2 (nth [int i64 1,aj v3])) false (some []) []::Row.mk (some 5) none (aj v3) true (some []) []::u1) [] []) [] g (aQ w) [] g/\Q AEx.ret (St.mk [(0,aQ w)] [] g)) ([Row.mk (some 4) none (agg 2 (nth [int i64 (-1),aj v2])) false (some []) [],Row.mk (some 3) none (aj v2) true (some []) [],Row.mk (some 2) none (agg 2 (nth [int i64 0,aj v1])) false (some []) [],Row.mk (some 1) none (aj v1) true (some []) []])) ⟨?_,?_,?_,?_,?_⟩
 ·subst e1;exact cd (n:=1) (es:=1) krf (by exact⟨trivial,trivial⟩) rfl rfl (fun i hi j hj=>match i,hi,j,hj with|0,_,0,_=>krf ) (fun i hi j hj=>match i,hi,j,hj with|0,_,0,_=>trivial )
 ·subst e2;exact cd (n:=2) (es:=1) krf (by exact⟨trivial,trivial,trivial⟩) rfl rfl (fun i hi j hj=>match i,hi,j,hj with|0,_,0,_=>krf|1,_,0,_=>krf ) (fun i hi j hj=>match i,hi,j,hj with|0,_,0,_=>trivial|1,_,0,_=>trivial )
 ·subst e3;exact cd (n:=1) (es:=1) krf (by exact⟨trivial,trivial⟩) rfl rfl (fun i hi j hj=>match i,hi,j,hj with|0,_,0,_=>krf ) (fun i hi j hj=>match i,hi,j,hj with|0,_,0,_=>trivial )
 ·subst e1 e2 e3 f;exact cd (n:=3) (es:=2) krf (by exact⟨⟨⟨trivial,trivial⟩,trivial⟩,⟨⟨trivial,trivial⟩,trivial⟩,⟨⟨trivial,trivial⟩,trivial⟩,trivial⟩) rfl rfl (fun i hi j hj=>match i,hi,j,hj with|0,_,0,_=>krf|0,_,1,_=>krf|1,_,0,_=>krf|1,_,1,_=>krf|2,_,0,_=>krf|2,_,1,_=>krf ) (fun i hi j hj=>match i,hi,j,hj with|0,_,0,_=>trivial|0,_,1,_=>trivial|1,_,0,_=>trivial|1,_,1,_=>trivial|2,_,0,_=>trivial|2,_,1,_=>trivial )
 ·refine(aw (aX _ _ rfl trivial rfl rfl rfl) (Aw krf))
theorem lZ:aG tA=true:=by kernel_rfl
theorem zN:aG tB=true:=by kernel_rfl
theorem zO:(ak tA).1=[⟨0,[0]⟩,⟨-1,[2,3]⟩,⟨1,[1]⟩]:=by kernel_rfl
theorem sT:(ez tA (ak tA).2).l=[2,2,1,1,3,3]:=by kernel_rfl
theorem sU:cD tA=[1,12,2,48]:=by kernel_rfl
theorem zP:(ak (aE tA (hgP tA 1))).2 1=2:=by kernel_rfl
theorem zQ:(eh (hgP tA 1) (bh (hgP tA 1) tA.rules.l 0) (ak (aE tA (hgP tA 1))).1).l.map dq=tS.l.map dq:=by kernel_rfl
theorem zR:(aU (bA tB)).length<=10:=by decide
theorem sV:stP tB 9=[6,5]:=by kernel_rfl
end Go.Avm.Pack
