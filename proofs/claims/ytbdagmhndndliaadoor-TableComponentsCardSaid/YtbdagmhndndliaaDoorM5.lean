/- Part 5 of the proof: lemmas. -/
import Derived.Test.YtbdagmhndndliaaDoorM4
namespace Go.Avm.Pack
open Go Go.Avm Go.Proofs
open Go.IntKind (i64 u64)
open Go.Avm.AV (int bool any fz fp sl ow ref fn ifc val agg tup)
open Go.Avm.AObj (cells dead)
open Go.Avm.Oc (ret)
set_option maxRecDepth 4000
end Go.Avm.Pack
namespace Go.Avm.Pack
open Go Go.Avm Go.Proofs Go.RowKit Go.Shelf
section
variable {R:Res}
theorem wW [Tab LT R]{nt k0:Nat}{Q:AEx->St R.σ->Prop}{s:St R.σ}{t:Nat}{ps:Array Tmp}{assign body:Code}{fa fb:Nat->AV}{m S K:Nat}{H:List AObj}
  (hf:lk s.fr t=.fn 105 0 fa 1 fb) (hfb:fb 0=.ref m 0) (hS:S<2^24) (h0:s.hp=H++[.cells false 1 (fun _=>.int .u64 S)]) (hl:H.length=m)
  (hlive:dW (H++[.cells false 1 (fun _=>.int .u64 S)])) (hBO:fw m H) (hlen:1=ps.toList.length) (hlt:bR ps.toList nt=true) (ts:List Nat) (hBf:gW ts (fun t=>Below m (lk s.fr t)))
  (hround:∀k,k<K->k<(aj S).length->mh Tryd.prog R nt assign body none H s.g ⟨dm ps.toList [.int .i64 (((aj S).getD k 0:Nat):Int)] (dX ts s.fr),H,s.g⟩)
  (hlast:K<(aj S).length->∀l,wpA Tryd.prog R nt (m+1) (.inr l) assign (fun e s1=>e=.normal/\wpA Tryd.prog R nt s1.hp.length (.inr l) body (kb (fun e s3=>Q e ⟨s.fr,s3.hp,s3.g⟩)) s1) ⟨dm ps.toList [.int .i64 (((aj S).getD K 0:Nat):Int)] s.fr,H++[.dead],s.g⟩)
  (hdone:(aj S).length<=K->Q .normal ⟨s.fr,H++[.dead],s.g⟩) :
  wpA Tryd.prog R nt k0 .top (.rangeFunc (.tmp t) ps assign body) Q s:=by
 intro C hC n a w ⟨FM,Z,hs⟩
 refine wpIn_rangeFunc (fun fn hfn=>?_)
 obtain⟨D,hD⟩:∃D,D=w.heap.size:=⟨_,rfl⟩
 obtain⟨L,hL⟩:∃L,L=w.heap.size+1:=⟨_,rfl⟩
 have hne:D≠L:=by omega
 obtain⟨rec,hrec⟩:∃rec:LoopState->Option Code->Loop,rec=fun st pe=>{ state:=st,pending:=pe,fn,tmps:=a.tmps,params:=ps,assign,body,defers:=D }:=⟨_,rfl⟩
 obtain⟨W1,hW1⟩:∃W1,(w.alloc (.deferred (some []))).alloc (.loop (rec .ready none))=W1:=⟨_,rfl⟩
 have hL1:W1.heap[L]? = some (.loop (rec .ready none)):=by
  rw[<-hW1,hL];have:=World.alloc_heap_new (w.alloc (.deferred (some []))) (.loop (rec .ready none));rwa [World.size_alloc] at this
 have hD1:W1.heap[D]? = some (.deferred (some [])):=by
  rw[<-hW1,hD];exact(_root_.Go.RowKit.Below.heap_alloc _ _ _ (by simp)).trans (World.alloc_heap_new w _)
 have hsz1:W1.heap.size=w.heap.size+2:=by rw[<-hW1];simp
 obtain⟨okA,goA⟩:=gL hs.ok (.deferred (some []))
 obtain⟨ok1,goB⟩:=gL okA (.loop (rec .ready none))
 have go1:=goA.trans goB
 rw[hW1] at ok1 go1
 obtain⟨o,ho⟩:∃o:AObj,o=.cells false 1 (fun _=>.int .u64 S):=⟨_,rfl⟩
 rw[<-ho] at h0 hlive
 have hlen0:s.hp.length=m+1:=by rw[h0];simp[hl]
 have hZl:Z.length=m+1:=by rw[hs.ok.rel.len,hlen0]
 obtain⟨pb,hpb⟩:∃pb,Z[m]? = some pb:=⟨_,List.getElem?_eq_getElem (by omega)⟩
 obtain⟨Z0,hZ0⟩:∃Z0,Z0=Z.take m:=⟨_,rfl⟩
 have hsub0:Sub Z0 Z:=fun i p hi=>by
  rw[hZ0,List.getElem?_take] at hi
  split at hi
  ·exact hi
  ·cases hi
 have hlt0:∀{i p},Z0[i]? = some p->i<m:=fun {i p} hi=>by
  rw[hZ0,List.getElem?_take] at hi
  split at hi
  ·assumption
  ·cases hi
 have hInB:∀b,InB Z b↔InB Z0 b∨InB [pb] b:=fun b=>by
  constructor
  ·rintro ⟨p,hp,hb,hre⟩
   obtain⟨i,hi⟩:=List.getElem?_of_mem hp
   have:i<m+1:=by rw[<-hZl];exact(List.getElem?_eq_some_iff.1 hi).1
   rcases Nat.lt_or_ge i m with h|h
   ·exact .inl ⟨p,List.mem_of_getElem? (i:=i) (by rw[hZ0,List.getElem?_take,if_pos h];exact hi),hb,hre⟩
   ·have:i=m:=by omega
    subst this
    rw[hpb] at hi;cases hi
    exact .inr ⟨pb,by simp,hb,hre⟩
  ·rintro (⟨p,hp,hb,hre⟩|⟨p,hp,hb,hre⟩)
   ·obtain⟨i,hi⟩:=List.getElem?_of_mem hp
    exact⟨p,bk (hsub0 i p hi),hb,hre⟩
   ·have:p=pb:=by simpa using hp
    subst this
    exact⟨p,bk hpb,hb,hre⟩
 have hgo:∀i,i<m->ag s.hp i=ag H i:=fun i hi=>by rw[h0,iH (by rw[hl];exact hi)]
 have hgm:ag s.hp m=o:=by rw[h0,iI (by rw[hl];exact Nat.le_refl _),hl,Nat.sub_self];rfl
 have hlv:∀i,i<m+1->aH (ag s.hp i)=true:=fun i hi=>by rw[h0];exact iK hlive i (by simp[hl];omega)
 have rel0:∀W,HRel FM Z s.hp W->HRel FM Z0 H W:=fun W hr=>by
  refine⟨hr.fm,by rw[hZ0,List.length_take,hl,hZl];omega,fun i p hi=>?_,fun i j p q hi hj _ _ e=>hr.inj i j p q (hsub0 i p hi) (hsub0 j q hj) (hlv i (by have:=hlt0 hi;omega)) (hlv j (by have:=hlt0 hj;omega)) e⟩
  obtain⟨k1,k2⟩:=hr.obj i p (hsub0 i p hi)
  rw[hgo i (hlt0 hi)] at k2
  refine⟨k1,?_⟩
  rw[hZ0]
  exact j5 k2 (j4 hBO i)
 have relI:∀W,HRel FM Z s.hp W->HRel FM [pb] [o] W:=fun W hr=>by
  refine⟨hr.fm,rfl,fun i p hi=>?_,fun i j p q hi hj _ _ _=>?_⟩
  ·have e:i=0:=by
    have:=(List.getElem?_eq_some_iff.1 hi).1
    simpa using this
   subst e
   have hi:pb=p:=by simpa using hi
   subst hi
   obtain⟨k1,k2⟩:=hr.obj m pb hpb
   rw[hgm] at k2
   refine⟨k1,?_⟩
   have:=j5 (k:=0) k2 (by rw[ho];exact fun _ _=>trivial)
   exact j6 (fun i p hi=>by simp at hi) this
  ·have e1:=(List.getElem?_eq_some_iff.1 hi).1
   have e2:=(List.getElem?_eq_some_iff.1 hj).1
   simp at e1 e2
   omega
 have hdis:∀b,InB [pb] b->¬InB Z0 b:=fun b ⟨p,hp,hb,hre⟩ ⟨q,hq,hb',hre'⟩=>by
  have:p=pb:=by simpa using hp
  subst this
  obtain⟨i,hi⟩:=List.getElem?_of_mem hq
  have:=hlt0 hi
  have:=hs.ok.rel.inj i m q p (hsub0 i q hi) hpb (hlv i (by omega)) (hlv m (by omega)) (by rw[hb,hb'])
  omega
 have nIn:∀X,w.heap.size<=X->¬InB Z X:=fun X hX ⟨p,hp,hb,hre⟩=>by
  obtain⟨i,hi⟩:=List.getElem?_of_mem hp
  have:=(hs.ok.rel.obj i p hi).1 hre
  omega
 have nB:∀X,w.heap.size<=X->¬R.B s.g X:=fun X hX hb=>by have:=(hs.ok.bd X hb).1;omega
 have nF:∀X,w.heap.size<=X->FM X=none:=fun X hX=>by
  cases hx:FM X with
  |none=>rfl
  |some o=>have:=(Array.getElem?_eq_some_iff.1 (hs.ok.rel.fm X o hx)).1;omega
 have hev:Den FM Z (.fn 105 0 fa 1 fb) (a.eval (.tmp t)):=by rw[<-hf];exact hs.fr t
 obtain⟨xs,ys,hu,hxs,hys,hda,hdb⟩:=hev
 have hfr0:∀t,Den FM Z0 (lk (dX ts s.fr) t) (a.tmps.getD t undef):=mg (fun t=>hs.fr t) (fun t ht=>mf hBf t ht) hZ0
 let u:Value:=.func (.yield L) #[] #[]
 let R2:Res:=ez (f0 R D L rec) FM Z0
 let G2:R2.σ:=((s.g,.ready,none),H)
 let box:Nat->AObj:=fun k=>.cells false 1 (fun _=>.int .u64 (Tb.cutN S k))
 have hbox0:box 0=o:=ho.symm
 have hpreal:pb.2.1+1<=pb.2.2/\FM pb.1=none:=by
  obtain⟨k1,k2⟩:=hs.ok.rel.obj m pb hpb
  rw[hgm,ho] at k2
  obtain⟨cs,e,b1,b2,b3,b4,b5,b6⟩:=k2 (by omega)
  exact⟨by omega,b6 rfl⟩
 have hpin:InB [pb] pb.1:=⟨pb,by simp,rfl,by omega⟩
 obtain⟨A,hA⟩:∃A:Addr,A=⟨pb.1,pb.2.1,none⟩:=⟨_,rfl⟩
 let J:Nat->World->Prop:=fun k W=>∃FMk,Ok R2 [box k] G2 FMk [pb] W/\Goes R s.g FM Z w s.g FMk Z W/\Goes R2 G2 FM [pb] W1 G2 FMk [pb] W
 have okI:Ok R2 [box 0] G2 FM [pb] W1:=by
  rw[hbox0]
  refine⟨relI W1 ok1.rel,⟨⟨rel0 W1 ok1.rel,⟨ok1.j,hD1,hL1,⟨nF D (by omega),nF L (by omega)⟩,nB D (by omega),nB L (by omega)⟩,fun b hb=>?_⟩,fun _ _ h=>h⟩,fun b hb=>⟨?_,fun hI=>?_⟩⟩
  ·rcases hb with hb|rfl|rfl
   ·exact⟨(ok1.bd b hb).1,fun h=>(ok1.bd b hb).2 ((hInB b).2 (.inl h))⟩
   ·exact⟨by omega,fun h=>nIn _ (by omega) ((hInB _).2 (.inl h))⟩
   ·exact⟨by omega,fun h=>nIn _ (by omega) ((hInB _).2 (.inl h))⟩
  ·rcases hb with(hb|rfl|rfl)|⟨p,hp,hb,hre⟩
   ·exact(ok1.bd b hb).1
   ·omega
   ·omega
   ·obtain⟨i,hi⟩:=List.getElem?_of_mem hp
    rw[<-hb];exact(ok1.rel.obj i p (hsub0 i p hi)).1 hre
  ·rcases hb with(hb|rfl|rfl)|hb
   ·exact(ok1.bd b hb).2 ((hInB b).2 (.inr hI))
   ·exact nIn _ (by omega) ((hInB _).2 (.inr hI))
   ·exact nIn _ (by omega) ((hInB _).2 (.inr hI))
   ·exact hdis b hI hb
 have hB2:∀b,b<w.heap.size->R2.B G2 b->R.B s.g b∨InB Z0 b:=fun b hlt hb=>by
  rcases hb with(hb|rfl|rfl)|hb
  ·exact .inl hb
  ·omega
  ·omega
  ·exact .inr hb
 -- a step of the iterator's, told of the whole
 have goR:∀{FMa FMb:Mem} {Wa Wb:World},Goes R s.g FM Z w s.g FMa Z Wa->Goes R2 G2 FMa [pb] Wa G2 FMb [pb] Wb->Goes R s.g FM Z w s.g FMb Z Wb:=fun {FMa FMb Wa Wb} h k=>by
  refine⟨⟨fun b o hb=>k.ext.fm b o (h.ext.fm b o hb),fun b o hb=>?_,fun b hb=>.inl hb,fun b h1 h2 h3=>?_,Nat.le_trans h.ext.size k.ext.size,k.ext.os.trans h.ext.os,k.ext.tape.trans h.ext.tape,k.ext.output.trans h.ext.output⟩,fun b hb=>.inl hb,Sub.refl _⟩
  ·rcases k.ext.grow b o hb with h1|h1|h1|h1
   ·exact h.ext.grow b o h1
   ·exact .inr (.inl (Nat.le_trans h.ext.size h1))
   ·exact .inr (.inr (.inl ((hInB b).2 (.inr h1))))
   ·rcases Nat.lt_or_ge b w.heap.size with hlt|hge
    ·rcases hB2 b hlt h1 with h2|h2
     ·exact .inr (.inr (.inr h2))
     ·exact .inr (.inr (.inl ((hInB b).2 (.inl h2))))
    ·exact .inr (.inl hge)
  ·refine(k.ext.keep b (Nat.lt_of_lt_of_le h1 h.ext.size) (fun hI=>h2 ((hInB b).2 (.inr hI))) (fun hb=>?_)).trans (h.ext.keep b h1 h2 h3)
   rcases hB2 b h1 hb with h4|h4
   ·exact h3 h4
   ·exact h2 ((hInB b).2 (.inl h4))
 have hJ:∀k W,J k W->W.cell? A=some (.int .u64 (Tb.cutN S k))/\W.frozen? A=false/\(∀b o,FM b=some o->W.heap[b]? = some o):=fun k W ⟨FMk,okk,_,_⟩=>by
  obtain⟨k1,k2⟩:=okk.rel.obj 0 pb rfl
  obtain⟨cs,e,b1,b2,b3,b4,_,b6⟩:=k2 (by omega)
  obtain⟨x,c1,c2,c3⟩:=b4 0 (by omega)
  have hx:x=.int .u64 (Tb.cutN S k):=c3
  subst hx
  refine⟨by rw[hA];simp only[World.cell?,b1];simpa using c1,by rw[hA];simp[World.frozen?,b1],fun b o hb=>okk.rel.fm b o (okk.j.2 b o hb)⟩
 have hJg:∀k W W',J k W->W.grownBy W' none->J k W':=fun k W W' ⟨FMk,okk,h1,h2⟩ hg=>
  let ⟨x1,x2⟩:=uy okk hg
  ⟨FMk,x1,goR h1 x2,h2.trans x2⟩
 have hset:∀k W,(∃FMk,Ok R2 [box k] G2 FMk [pb] W/\Goes R s.g FM Z w s.g FMk Z W/\Goes R2 G2 FM [pb] W1 G2 FMk [pb] W)->J (k+1) (W.setCell A (.int .u64 (Tb.cutN S (k+1)))):=fun k W ⟨FMk,okk,h1,h2⟩=>by
  obtain⟨k1,k2⟩:=okk.rel.obj 0 pb rfl
  obtain⟨cs,e,b1,b2,b3,b4,_,b6⟩:=k2 (by omega)
  have hAb:A.block=pb.1:=by rw[hA]
  have hAb':(⟨pb.1,pb.2.1,none⟩:Addr).block=pb.1:=rfl
  have hF:FMk pb.1=none:=b6 rfl
  have keep:∀b,b≠pb.1->(W.setCell A (.int .u64 (Tb.cutN S (k+1)))).heap[b]? = W.heap[b]?:= fun b hb=>RowKit.Below.heap_setCell _ _ _ b (by rw[hAb];exact hb)
  have hsz:(W.setCell A (.int .u64 (Tb.cutN S (k+1)))).heap.size=W.heap.size:=by
   show(W.heap.modify _ _).size=_
   rw[Array.size_modify]
  have hnew:(W.setCell A (.int .u64 (Tb.cutN S (k+1)))).heap[pb.1]? = some (.cells (cs.setIfInBounds pb.2.1 (.int .u64 (Tb.cutN S (k+1)))) e (0,0)):=by
   show(W.heap.modify A.block _)[pb.1]? = _
   rw[hAb,Array.getElem?_modify,b1,hA]
   simp
  have hrel:HRel FMk [pb] [box (k+1)] (W.setCell A (.int .u64 (Tb.cutN S (k+1)))):=by
   refine⟨fun b o hb=>(keep b (fun e=>by rw[e,hF] at hb;cases hb)).trans (okk.rel.fm b o hb),rfl,fun i p hi=>?_,fun i j p q hi hj _ _ _=>?_⟩
   ·have e0:i=0:=by
     have:=(List.getElem?_eq_some_iff.1 hi).1
     simpa using this
    subst e0
    have hi:pb=p:=by simpa using hi
    subst hi
    refine⟨fun h=>by rw[hsz];exact k1 h,fun _=>⟨_,e,hnew,by rw[Array.size_setIfInBounds];exact b2,by rw[Array.size_setIfInBounds];exact b3,fun j hj=>?_,fun h=>(by cases h),fun _=>hF⟩⟩
    have:j=0:=by omega
    subst this
    refine⟨.int .u64 (Tb.cutN S (k+1)),?_,rfl,rfl⟩
    show(cs.setIfInBounds pb.2.1 _)[pb.2.1]? = _
    rw[Array.getElem?_setIfInBounds_self_of_lt (by omega)]
   ·have e1:=(List.getElem?_eq_some_iff.1 hi).1
    have e2:=(List.getElem?_eq_some_iff.1 hj).1
    simp at e1 e2
    omega
  obtain⟨x1,x2⟩:=et (hp':=[box (k+1)]) (Z':=[pb]) (w':=W.setCell A (.int .u64 (Tb.cutN S (k+1)))) okk hrel ⟨fun _ _ h=>h,fun _ _ h=>.inl h,fun _ h=>.inl h,fun b _ h _=>keep b (fun e=>h (by rw[e];exact hpin)),Nat.le_of_eq hsz.symm,rfl,rfl,rfl⟩ (Sub.refl _)
  exact⟨FMk,x1,goR h1 x2,h2.trans x2⟩
 have hargI:∀(v:Nat) FMk (Zx:Plc),bB FMk Zx [.int .i64 (v:Int)] #[.int .i64 (v:Int)]:=fun v FMk Zx=>⟨rfl,fun i hi=>by
  have:i=0:=by simpa using hi
  subst this
  rfl⟩
 have hY:∀k W,k<K->k<(aj S).length->J k W->YieldAt Fence.wide (2-1) Tryd.prog L #[.int .i64 (((aj S).getD k 0:Nat):Int)] W fun e W'=>e=.returned (.bool true)/\W'.cell? A=some (.int .u64 (Tb.cutN S k))/\W'.frozen? A=false/\J (k+1) (W'.setCell A (.int .u64 (Tb.cutN S (k+1)))):=by
  rintro k W hk hkN ⟨FMk,okk,h1,h2⟩
  have hv:=pr (P:=Tryd.prog) (R:=R) (L:=L) hrec hs.size hfr0 hne (items:=[.int .i64 (((aj S).getD k 0:Nat):Int)]) hlen hlt (by exact⟨trivial,trivial⟩) (jmp:=none) (hp:=H) (hp':=H) (g:=s.g) (g':=s.g) rfl (hround k hk hkN) [box k]
  rcases hv.h with⟨f,_,_,he,_⟩|⟨l,he,hq⟩
  ·cases he
  ·cases he
   obtain⟨fn',tmps',assign',body',hr,hR⟩:=hq FMk [pb] W _ okk (hargI _ _ _)
   refine⟨fn',tmps',assign',body',hr,(hR .top _).mono ?_⟩
   rintro e W' ⟨FM',Z',⟨v,rfl,hden⟩,okp,gop⟩
   obtain rfl:Z'=[pb]:=by
    have hl1:Z'.length=1:=okp.rel.len
    match Z',hl1 with
    |[q],_=>
     have:=gop.sub 0 pb rfl
     cases this;rfl
   have hj:J k W':=⟨FM',okp,goR h1 gop,h2.trans gop⟩
   obtain⟨j1,j2,_⟩:=hJ k W' hj
   refine⟨by rw[show v=_ from hden];rfl,j1,j2,hset k W' hj⟩
 have okDead:∀{k FMk W},Ok R2 [box k] G2 FMk [pb] W->Goes R s.g FM Z w s.g FMk Z W->Ok R (H++[.dead]) s.g FMk Z W/\W.heap[D]? = some (.deferred (some []))/\W.heap[L]? = some (.loop (rec .ready none))/\Nb R D s.g FMk Z W/\Nb R L s.g FMk Z W:=by
  intro k FMk W okk hg
  obtain⟨okL,hmono⟩:=okk.j
  obtain⟨jR,hD3,hL3,⟨fD,fL⟩,bD,bL⟩:=okL.j
  have okR:=l7 okL
  have hgd:∀i,i<m->ag (H++[.dead]) i=ag H i:=fun i hi=>iH (by rw[hl];exact hi)
  have hgdm:ag (H++[.dead]) m=.dead:=by rw[iI (by rw[hl];exact Nat.le_refl _),hl,Nat.sub_self];rfl
  have hback:∀i p,Z[i]? = some p->(i<m/\Z0[i]? = some p)∨(i=m/\p=pb):=fun i p hi=>by
   have:i<m+1:=by rw[<-hZl];exact(List.getElem?_eq_some_iff.1 hi).1
   rcases Nat.lt_or_ge i m with h|h
   ·exact .inl ⟨h,by rw[hZ0,List.getElem?_take,if_pos h];exact hi⟩
   ·have:i=m:=by omega
    subst this
    rw[hpb] at hi;cases hi
    exact .inr ⟨rfl,rfl⟩
  have hnl:∀i p,Z[i]? = some p->aH (ag (H++[.dead]) i)=true->i<m/\Z0[i]? = some p:=fun i p hi hv=>by
   rcases hback i p hi with h|⟨rfl,rfl⟩
   ·exact h
   ·rw[hgdm] at hv;cases hv
  refine⟨⟨⟨okR.rel.fm,by rw[hZl];simp[hl],fun i p hi=>?_,fun i j p q hi hj hv1 hv2 e=>?_⟩,okR.j,fun b hb=>⟨(okR.bd b hb).1,fun hI=>?_⟩⟩,hD3,hL3,?_,?_⟩
  ·rcases hback i p hi with⟨h1,h2⟩|⟨rfl,rfl⟩
   ·obtain⟨k1,k2⟩:=okR.rel.obj i p h2
    rw[hgd i h1]
    exact⟨k1,j6 hsub0 k2⟩
   ·rw[hgdm]
    refine⟨fun hre=>?_,trivial⟩
    have h1:=(hs.ok.rel.obj i p hi).1 hre
    have:=hg.ext.size
    omega
  ·obtain⟨a1,a2⟩:=hnl i p hi hv1
   obtain⟨b1,b2⟩:=hnl j q hj hv2
   rw[hgd i a1] at hv1
   rw[hgd j b1] at hv2
   exact okR.rel.inj i j p q a2 b2 hv1 hv2 e
  ·rcases(hInB b).1 hI with h|h
   ·exact(okR.bd b hb).2 h
   ·exact(okk.bd b (.inl (.inl hb))).2 h
  ·exact⟨(Array.getElem?_eq_some_iff.1 hD3).1,nIn D (by omega),bD,fD⟩
  ·exact⟨(Array.getElem?_eq_some_iff.1 hL3).1,nIn L (by omega),bL,fL⟩
 let C0:Cx R:=⟨s.g,FM,Z,w,[],false⟩
 have hE:∀W,K<(aj S).length->J K W->YieldAt Fence.wide (2-1) Tryd.prog L #[.int .i64 (((aj S).getD K 0:Nat):Int)] W fun e W'=>(e=.returned (.bool false)∨∃ch,e=.panicked ch)/\kc R C0 D L rec (fun e s3=>Q e ⟨s.fr,s3.hp,s3.g⟩) e W':=by
  rintro W hK ⟨FMk,okk,h1,h2⟩
  obtain⟨okd,hDW,hLW,nD,nL⟩:=okDead okk h1
  obtain⟨fn',tmps',assign',body',hr,hR⟩:=uz (P:=Tryd.prog) (R:=R) hrec (C:=C0) (by show w.heap.size<=D;omega) (by show w.heap.size<=L;omega) hne okd h1 hDW hLW nD nL hs.size (fun t=>Den.mono h1.ext.fm _ (Sub.refl _) (hs.fr t)) (hargI ((aj S).getD K 0) FMk Z) hlen hlt
   (Q:=fun e s3=>Q e ⟨s.fr,s3.hp,s3.g⟩) (by have:=hlast hK L;rw[show(H++[AObj.dead]).length=m+1 by simp[hl]];exact this)
  refine⟨fn',tmps',assign',body',hr,(hR .top _).mono ?_⟩
  intro e W' he
  have he':=he
  obtain⟨ex,j,s3,FM3,Z3,e1,_⟩:=he'
  exact⟨.inl e1,he⟩
 have hargs:(xs++#[u])++ys=#[.func (.yield L) #[] #[],.pointer (some A)]:=by
  have hxs0:xs=#[]:=Array.size_eq_zero_iff.1 hxs
  have hd0:=hdb 0 (by omega)
  rw[hfb] at hd0
  obtain⟨p,hp1,hp2⟩:=hd0
  rw[hpb] at hp1;cases hp1
  subst hxs0
  have hy:ys=#[.pointer (some A)]:=by
   refine Array.ext (by simp[hys]) (fun i h1 h2=>?_)
   have:i=0:=by simp at h2;omega
   subst this
   rw[Array.getD_eq_getD_getElem?,Array.getElem?_eq_getElem h1] at hp2
   rw[hA]
   simpa using hp2
  rw[hy]
  rfl
 have hcalls:=callsIn_wide.1 (wV 2 (by omega) L S hS A FM (Tab.h (T:=LT) hs.ok.j) J (kc R C0 D L rec (fun e s3=>Q e ⟨s.fr,s3.hp,s3.g⟩)) K hJ hJg hY hE W1 ⟨FM,okI,go1,Goes.refl _ _ _ _ _⟩)
 have hpl:b9 Tryd.prog 105=true:=by kernel_rfl
 have hfn':∃fn,Tryd.prog.funcs[105]? = some fn/\fn.name ≠ "runtime.NumGoroutine"/\fn.body.isSome=true:=by
  unfold b9 at hpl
  split at hpl
  ·rename_i fn hfn
   simp only[Bool.and_eq_true,bne_iff_ne,ne_eq] at hpl
   exact⟨fn,hfn,hpl.1,hpl.2⟩
  ·cases hpl
 obtain⟨fnF,hF1,hF2,hF3⟩:=hfn'
 have hF3':¬fnF.body=none:=fun h=>by rw[h] at hF3;cases hF3
 refine⟨L,[gE D],W1,{ target:=.fn (.func 105) ys,args:=xs++#[u] },W1,105,(xs++#[u])++ys,W1,?_,?_,fun _ _=>trivial,?_,fun h=>(by cases h),?_⟩
 ·rw[<-hW1,hrec,hD,hL];exact run_enterLoop_outer _ _ _ _ _
 ·simp[resolve,hu,Deferred.ofValue,u]
  rfl
 ·simp[invoke,callFunc,hF1,hF2,hF3']
 rw[hargs]
 refine(fe hcalls).mono ?_
 have hsat:∀{hp3:List AObj} {g3:R.σ} {FM3:Mem} {Z3:Plc} {W:World} (st:LoopState) (pe:Option Code),Ok R hp3 g3 FM3 Z3 W->Goes R s.g FM Z w g3 FM3 Z3 W->W.heap[D]? = some (.deferred (some []))->Nb R D g3 FM3 Z3 W->Nb R L g3 FM3 Z3 W ->
   Sat R C nt ⟨s.fr,hp3,g3⟩ FM3 Z3 { a with defers:=[gE D]++a.defers } (W.putObj L (.loop { rec st pe with state:=.exhausted })):=by
  intro hp3 g3 FM3 Z3 W st pe ok3 go3 hD3 nD nL
  have go4:Goes R s.g FM Z w g3 FM3 Z3 (W.putObj L (.loop { rec st pe with state:=.exhausted })):=go3.put (by omega) _
  refine⟨gS _ nL.off nL.offB nL.nofm ok3,hs.goes.trans go4,hs.size,?_,fun t=>Den.mono go4.ext.fm _ go4.sub (hs.fr t)⟩
  obtain⟨ms,e1,e2,e3,e4⟩:=hs.defs
  refine⟨D::ms,by rw[e1];rfl,List.nodup_cons.2 ⟨fun hmem=>?_,e2⟩,fun h=>?_,fun X hX=>?_⟩
  ·have:=(Array.getElem?_eq_some_iff.1 (e4 D hmem).obj).1
   omega
  ·rw[hC.2] at h;cases h
  ·rcases List.mem_cons.1 hX with rfl|hX
   ·exact⟨(World.putObj_heap_other hne).trans hD3,nD.off,nD.offB,nD.nofm,by have:=hs.goes.ext.size;omega⟩
   ·exact(e4 X hX).goes go4
 rintro e w3 (⟨hNK,⟨v,rfl⟩,FMk,okk,h1,h2⟩|⟨hKN,⟨⟨v,rfl⟩,hL3⟩|⟨ch,rfl,hL3⟩⟩)
 ·obtain⟨okd,hD3,hL3,nD,nL⟩:=okDead okk h1
  have hend:=run_endLoop (P:=Tryd.prog) hL3 (by rw[hrec];intro h;cases h)
  obtain⟨p,w4,hend,hp,hw4⟩:∃p w4,(Instr.endLoop L).run Tryd.prog w3=.ok p w4/\p=none/\w4=w3.putObj L (.loop { rec .ready none with state:=.exhausted }):=⟨_,_,hend,by rw[hrec],rfl⟩
  subst hp
  have hs4:=hsat .ready none okd h1 hD3 nD nL
  rw[<-hw4] at hs4
  exact⟨none,w4,hend,_,hdone hNK,FMk,Z,hs4⟩
 ·obtain⟨ex,j,s3,FM3,Z3,_,hj,hq,ok3,go3,hD3,hL3,nD,nL⟩:=hL3
  have hend:=run_endLoop (P:=Tryd.prog) hL3 (by rw[hrec];intro h;cases h)
  obtain⟨p,w4,hend,hp,hw4⟩:∃p w4,(Instr.endLoop L).run Tryd.prog w3=.ok p w4/\p=some j/\w4=w3.putObj L (.loop { rec .done (some j) with state:=.exhausted }):=⟨_,_,hend,by rw[hrec],rfl⟩
  subst hp
  have hs4:=hsat .done (some j) ok3 go3 hD3 nD nL
  rw[<-hw4] at hs4
  refine⟨some j,w4,hend,?_⟩
  cases ex with
  |normal=>cases hj
  |pan v=>cases hj
  |ret=>cases hj;exact wpIn_ret ⟨_,hq,FM3,Z3,hs4⟩
  |exit id=>cases hj;exact wpIn_exit ⟨_,hq,FM3,Z3,hs4⟩
 ·obtain⟨_,_,_,_,_,he,_⟩:=hL3
  cases he
end
end Go.Avm.Pack
namespace Go.Avm.Pack
open Go Go.Avm Go.Proofs
open Go.IntKind (i64 u64)
open Go.Avm.AV (int bool any fz fp sl ow ref fn ifc val agg tup)
open Go.Avm.AObj (cells dead)
open Go.Avm.Oc (ret)
set_option maxRecDepth 4000
section
variable {R:Res}
def wX (P:Program)(R:Res)(nt l:Nat)(b:Code)(q:List Nat)(Q:AEx->St R.σ->Prop):AEx->St R.σ->Prop
 |.normal,s=>Wp P R nt s.hp.length (.inr l) b q (kb Q) s
 |_,_=>False
theorem q7 [Tab LT R]{nt k0:Nat}{b:Code}{p:List Nat}{Q:AEx->St R.σ->Prop}{s:St R.σ}(t:Nat)(psl:List Nat)(m:Nat)(hrl:jU t psl (sub b p)=true){fa fb:Nat->AV}(hf:lk s.fr t=.fn 105 0 fa 1 fb)(hfb:fb 0=.ref m 0)
  (S K:Nat) (hS:S<2^24) (H:List AObj) (h0:To R k0 s ⟨s.fr,H++[.cells false 1 (fun _=>.int .u64 S)],s.g⟩) (hl:H.length=m)
  (hlive:dW (H++[.cells false 1 (fun _=>.int .u64 S)])) (hBO:fw m H) (hlen:1=psl.length) (hlt:bR psl nt=true) (ts:List Nat) (hBf:gW ts (fun t=>Below m (lk s.fr t)))
  (hround:∀k l,k<K->k<(aj S).length->Wp Tryd.prog R nt m (.inr l) b (p++[0]) (pt Tryd.prog R nt m l b (p++[1]) none H s.g) ⟨dm psl [.int .i64 (((aj S).getD k 0:Nat):Int)] (dX ts s.fr),H,s.g⟩)
  (hlast:K<(aj S).length->∀l,Wp Tryd.prog R nt (m+1) (.inr l) b (p++[0]) (wX Tryd.prog R nt l b (p++[1]) (fun e s3=>Q e ⟨s.fr,s3.hp,s3.g⟩)) ⟨dm psl [.int .i64 (((aj S).getD K 0:Nat):Int)] s.fr,H++[.dead],s.g⟩)
  (hdone:(aj S).length<=K->Q .normal ⟨s.fr,H++[.dead],s.g⟩) :
  Wp Tryd.prog R nt k0 .top b p Q s:=by
 obtain⟨ps,assign,body,hc,rfl⟩:∃ps assign body,sub b p=.rangeFunc (.tmp t) ps assign body/\ps.toList=psl:=by
  unfold jU at hrl
  split at hrl
  ·rename_i u ps assign body hs
   simp only[Bool.and_eq_true] at hrl
   have:=Nat.eq_of_beq_eq_true hrl.1
   subst this
   exact⟨ps,assign,body,hs,jQ hrl.2⟩
  ·cases hrl
 have e0:sub b (p++[0])=assign:=by rw[cz,hc];exact dw assign
 have e1:sub b (p++[1])=body:=by rw[cz,hc];exact dw body
 refine⟨?_⟩
 rw[hc]
 refine jI h0 (wW (s:=⟨s.fr,H++[.cells false 1 (fun _=>.int .u64 S)],s.g⟩) (K:=K) hf hfb hS rfl hl hlive hBO hlen hlt ts hBf (fun k hk hkN l=>?_) (fun hK l=>?_) hdone)
 ·have h1:=(hround k l hk hkN).h
  rw[e0] at h1
  rw[show(St.hp ⟨dm ps.toList [.int .i64 (((aj S).getD k 0:Nat):Int)] (dX ts s.fr),H,s.g⟩).length=m from hl]
  refine jE h1 (fun e s' hq=>?_)
  cases e with
  |normal=>
   have h2:=(show Wp _ _ _ _ _ _ _ _ _ from hq).h
   rw[e1] at h2
   exact⟨rfl,h2⟩
  |exit id=>exact hq.elim
  |ret=>exact hq.elim
  |pan v=>exact hq.elim
 ·have h1:=(hlast hK l).h
  rw[e0] at h1
  refine jE h1 (fun e s' hq=>?_)
  cases e with
  |normal=>
   have h2:=(show Wp _ _ _ _ _ _ _ _ _ from hq).h
   rw[e1] at h2
   exact⟨rfl,h2⟩
  |exit id=>exact hq.elim
  |ret=>exact hq.elim
  |pan v=>exact hq.elim
end
def aQ (l:List Nat):Nat->AV:=fun k=>ak (ac (l.getD k 0))
theorem gn {k:Nat}(l:List Nat)(j:Nat):Below k (aQ l j):=trivial
theorem jf {f:Nat->Nat}(h:True){l:List Nat}{j:Nat}:aU f (aQ l j)=aQ l j:=rfl
theorem kI {p:Prg}{left a:Nat}(hg:hgP p a<2^24)(hl:left<2^24):(IntKind.u64.wrap ((BitVec.ofInt 64 (IntKind.u64.wrap ((BitVec.ofInt 64 (hgP p a:Int)&&&BitVec.ofInt 64 (left:Int)).toNat:Int)) &&& ~~~ BitVec.ofInt 64 (au p a:Int)).toNat:Int)==0)=ed p left a:=by
 rw[Tb.u64_and (bN hg) (bN hl),ne (Nat.lt_of_le_of_lt Nat.and_le_right hl)]
 unfold ed
 rw[Bool.eq_iff_iff,beq_iff_eq,beq_iff_eq]
 omega
theorem kJ {p:Prg}(hr:∀r,r∈p.rules.l->aP r)(hx:∀r,r∈p.rules.l->∀l,l∈r.body.l->0<=l.atom/\l.atom<p.atoms){a c:Nat}(ha:a<24)(han:(a:Int)<p.atoms)(hc:c∈aj (hgP p a)):(c:Int)<p.atoms:=by
 obtain⟨m1,m2⟩:=Tb.mem_memN.1 hc
 rcases qI hx ((dp hr ha).1 m2) with rfl|h
 ·exact han
 ·exact h
theorem kK {L:List Nat}{w m c:Nat}{z:Nat->AV}{old:Nat->Nat->AV}(hm:m=L.length)(hold:∀i,i<m->old i 0=aQ L i)(hc:c<(m+1)*1):aQ (L++[w]) c=a9 1 m old (fun i j=>ap z 0 1 (fun _=>ak (ac w)) (0+i*1+j)) c:=by
 unfold a9 aQ
 rw[List.getD_eq_getElem?_getD]
 by_cases h:c<m*1
 ·rw[if_pos h,show c/1=c by omega,show c%1=0 by omega,hold c (by omega),List.getElem?_append_left (by omega),<-List.getD_eq_getElem?_getD]
  rfl
 ·rw[if_neg h,List.getElem?_append_right (by omega),show c-L.length=0 by omega]
  show _=ap z 0 1 _ (0+(c-m*1)/1*1+(c-m*1)%1)
  rw[dI,if_pos (by omega)]
  rfl
theorem Le.ow_nil {get:Nat->Nat->AV}{s o es:Nat}:Le (.ow true o 0 es) (.fz .nil s 0 get):=by
 intro FM Z v h
 obtain⟨a,rfl,ha⟩:=h.1 rfl
 obtain rfl:=ha rfl
 exact⟨fun _=>⟨rfl,none,0,rfl,rfl,rfl⟩,fun h=>(by cases h)⟩
theorem wY {f z:Nat->AV}{a c:Nat}(hc:c<(a+1)*1):f c=a9 1 a (fun i j=>f (i*1+j)) (fun i j=>ap z 0 1 (fun _=>f a) (0+i*1+j)) c:=by
 unfold a9
 by_cases h:c<a*1
 ·rw[if_pos h]
  show f c=f (c/1*1+c%1)
  rw[show c/1*1+c%1=c by omega]
 ·rw[if_neg h]
  show f c=ap z 0 1 _ (0+(c-a*1)/1*1+(c-a*1)%1)
  rw[dI,if_pos (by omega),show c=a by omega]
structure OrdOk (p:Prg)(x:Nat × List Nat × Nat):Prop where
 num:x.1=x.2.1.length
 few:x.1+(aj x.2.2).length<=24
 lt:x.2.2<2^24
 at_:∀a,a∈aj x.2.2->a<p.atoms.toNat
 ord:∃f,(aj x.2.2).length<f/\x.2.1++eI p f x.2.2=bP p
theorem wZ {p:Prg}(hr:∀r,r∈p.rules.l->aP r){m left:Nat}{L:List Nat}(h:OrdOk p (m,L,left))(h0:left≠0):OrdOk p (m+1,L++[au p (bm p left)],ca left (au p (bm p left)))/\(aj (ca left (au p (bm p left)))).length<(aj left).length:=by
 obtain⟨o1,o2,o3,o4,f,f1,f2⟩:=h
 simp only at o1 o2 o3 o4 f1 f2
 have hlt:=nh hr o3 h0
 obtain⟨f,rfl⟩:∃k,f=k+1:=⟨f-1,by omega⟩
 refine⟨⟨?_,?_,Nat.lt_of_le_of_lt kB o3,fun a ha=>o4 a ?_,f,?_,?_⟩,hlt⟩
 ·show m+1=(L++[_]).length
  rw[List.length_append,o1]
  rfl
 ·show m+1+(aj (ca left (au p (bm p left)))).length<=24
  omega
 ·obtain⟨m1,m2⟩:=Tb.mem_memN.1 ha
  have m2:(ca left (au p (bm p left))).testBit a=true:=m2
  rw[eH o3,Bool.and_eq_true] at m2
  exact Tb.mem_memN.2 ⟨m1,m2.1⟩
 ·show(aj (ca left _)).length<f
  omega
 ·rw[<-f2]
  show(L++[_])++eI p f _=L++(if left=0 then[] else _::eI p f _)
  rw[if_neg h0,List.append_assoc]
  rfl
theorem w9 {p:Prg}(hp:1<=p.atoms/\p.atoms<=24):OrdOk p (0,[],2^p.atoms.toNat-1):=by
 have hb:∀j,(2^p.atoms.toNat-1).testBit j=decide (j<p.atoms.toNat):=fun j=>Nat.testBit_two_pow_sub_one _ _
 refine⟨rfl,?_,?_,fun a ha=>?_,25,?_,rfl⟩
 ·have:=eF (2^p.atoms.toNat-1)
  show 0+(aj (2^p.atoms.toNat-1)).length<=24
  omega
 ·have:2^p.atoms.toNat<=2^24:=Nat.pow_le_pow_right (by decide) (by omega)
  have:0<2^p.atoms.toNat:=Nat.pow_pos (by decide)
  show 2^p.atoms.toNat-1<2^24
  omega
 ·have h:=(Tb.mem_memN.1 ha).2
  have h:(2^p.atoms.toNat-1).testBit a=true:=h
  rw[hb,decide_eq_true_eq] at h
  exact h
 ·have:=eF (2^p.atoms.toNat-1)
  show(aj (2^p.atoms.toNat-1)).length<25
  omega
theorem q8 (R:Res)[Tab LT R](p:Prg)(hb:aJ p=true)(g:R.σ):Does Tryd.prog R 31 [aA p] [] g (.ret (.tup 2 (nth [cw (bP p).length (fun i=>ac ((bP p).getD i 0)),.int .i64 0]))) [] g:=by
 have hroom:aN=140737488355328:=rfl
 obtain⟨hl,hr,hp,hh,hx⟩:=eG hb
 have hs:dK p:=fF hb
 have hp':1<=p.atoms/\p.atoms<=24:=hp
 refine ax (nt:=57) (rs:=[.tmp 2,.tmp 3]) (k0:=0) (by kernel_rfl) (by kernel_rfl) (by kernel_rfl) rfl ?_
 have hc:((if aJ p then(0:Int) else 2) != 0)=false:=by rw[hb];rfl
 refine vcQ [[1,0,0,1,0]] (lkL [(0,[1]),(1,[1,13]),(3,[1,4]),(4,[1,4,15,16])]) (lkL [(1,[(1,ROrc.pcall (int i64 (if aJ p=true then 0 else 2)))])]) (fun Q=>(fun (u1:Int)=>(fun (u2:AObj)=>2<=2/\(∀(hp:List AObj) (g:R.σ),true=true/\Does Tryd.prog R 16 [aA p] hp g (ret (int i64 u1)) hp g)/\((u1 != 0)=true->Wp Tryd.prog R 57 0 Rd.top (ah Tryd.prog 31) [1,0,0,1,0] (aq Tryd.prog R 57 0 Rd.top (ah Tryd.prog 31) Q [Kont.seq [1,0,1]]) (St.mk [(1,ref 0 0),(13,AV.bool (u1 != 0))] [u2] g))/\((u1 != 0)=false->1<=2/\Wp Tryd.prog R 57 0 Rd.top (ah Tryd.prog 31) [1,0,1,1,0,1,0] (aq Tryd.prog R 57 0 Rd.top (ah Tryd.prog 31) Q [Kont.blk 0,Kont.seq [1,0,1,1,1]]) (St.mk [(1,ref 0 0),(4,ref 1 0),(15,int i64 p.atoms),(16,int i64 0)] [u2,cells false 1 fun (a:Nat)=>fz Fz.nil 0 0 fun _ _=>any] g))) (cells false 2 (nth [int i64 p.atoms,ae p.rules]))) (if aJ p=true then 0 else 2)) (fun _=>by kernel_rfl) ⟨by omega,(fun _ _=>⟨rfl,(f6 _ _ _ _ (by omega))⟩),fun hcc=>(nomatch (hc.symm.trans hcc)),fun _=>⟨by omega,?_⟩⟩
 refine cA (gg (fun _=>.any) 1) ?_
 refine cA (bl (s':=⟨[(1,.ref 0 0),(4,.ref 1 0),(15,.int .i64 p.atoms),(16,.int .i64 0)],[.cells false 2 (nth [.int .i64 p.atoms,ae p.rules]),.cells false 1 (fun _=>.ow true 2 0 1),.cells false (0*1) (onC p)],g⟩) ?_ ?_ rfl) ?_
 ·exact⟨Le.refl _,Le.refl _,Le.refl _,Le.refl _,trivial⟩
 ·exact⟨LeO.refl _,⟨rfl,Nat.le_refl _,fun _ _=>Le.nil_ow⟩,⟨rfl,Nat.le_refl _,fun j hj=>absurd hj (by omega)⟩,trivial⟩
 refine(bb (by kernel_rfl) (fun (a:Nat)=>⟨[(1,ref 0 0),(4,ref 1 0),(15,int i64 p.atoms),(16,.int .i64 a)],[.cells false 2 (nth [.int .i64 p.atoms,ae p.rules]),.cells false 1 (fun _=>.ow true 2 a 1),.cells false (a*1) (onC p)],g⟩) (fun (a:Nat)=>(a<=p.atoms.toNat)) (fun (a:Nat)=>(p.atoms.toNat-a)) 0 (aV ⟨Le.refl _,Le.refl _,Le.refl _,(Le.of_eq (by kernel_rfl)),trivial⟩ rfl rfl) ?_ (fun a hi=>?_))
 ·exact Nat.zero_le _
 ·refine vcQ [] (lkL [(5,[1,4,15,16,17]),(6,[1,4,5,15,16]),(7,[1,4,15,16]),(8,[1,4,15,16])]) (lkL [(7,[(3,ROrc.pcall (int u64 (↑(hgP p ((a:Int).toNat)):Int))),(5,ROrc.val (Orc.obj (onC p))),(6,ROrc.val (Orc.obj (nth [ow true 4 (a+1) 1])))])]) (fun Q=>(fun (u1:Int)=>(fun (u2:AV)=>(fun (u3:AObj)=>(decide (u1<p.atoms)=true->Tables.follows Tryd.prog.toTables Departure.mixedOrders=true/\1<=1/\2<=2/\(∀(hp:List AObj) (g:R.σ),true=true/\Does Tryd.prog R 70 [aA p,int i64 u1] hp g (ret u2) hp g)/\0<1/\(a+1)*8<=aN/\a+1<=aN/\1<=1/\a*1<=a*1/\(∀(c:Nat),c<(a+1)*1->int u64 (↑(hgP p c):Int)=a9 1 a (fun (i j:Nat)=>int u64 (↑(hgP p (i*1+j)):Int)) (fun (i j:Nat)=>ap (fun (j:Nat)=>int u64 0) 0 1 (fun (x:Nat)=>u2) (0+i*1+j)) c)/\1<=1/\(∀(c:Nat),c<1->nth [ow true 4 (a+1) 1] c=ap (fun (x:Nat)=>ow true 2 a 1) 0 1 (fun (x:Nat)=>ow true 4 (a+1) 1) c)/\(-9223372036854775808<=u1+1/\u1+1<=9223372036854775807)/\Q AEx.normal (St.mk [(1,ref 0 0),(4,ref 1 0),(15,int i64 p.atoms),(16,int i64 (u1+1))] [u3,cells false 1 (nth [ow true 4 (a+1) 1]),dead,cells false 1 (ap (fun (j:Nat)=>int u64 0) 0 1 fun (x:Nat)=>u2),cells false ((a+1)*1) fun (a:Nat)=>int u64 (↑(hgP p a):Int)] g))/\(decide (u1<p.atoms)=false->Q (AEx.exit 0) (St.mk [(1,ref 0 0),(4,ref 1 0),(15,int i64 p.atoms),(16,int i64 u1),(17,AV.bool (decide (u1<p.atoms)))] [u3,cells false 1 fun (x:Nat)=>ow true 2 a 1,cells false (a*1) fun (a:Nat)=>int u64 (↑(hgP p a):Int)] g))) (cells false 2 (nth [int i64 p.atoms,ae p.rules]))) (int u64 (↑(hgP p a):Int))) ((a:Int))) (fun _=>by kernel_rfl) ⟨fun c1=>have c1:(a:Int)<p.atoms:=(of_decide_eq_true c1);⟨by kernel_rfl,by omega,by omega,(fun _ _=>⟨rfl,(m7 _ _ _ (by omega) (by omega) (by simp at * <;> omega) _ _)⟩),by omega,by omega,by omega,by omega,by omega,?_,by omega,(fun c hc=>match c,hc with|0,_=>(by kernel_rfl) ),by omega,?_⟩,fun c1=>have c1:¬(a:Int)<p.atoms:=(of_decide_eq_false c1);?_⟩
  ·exact fun c hc=>(wY (f:=onC p) (z:=fun _=>.int .u64 0) hc).trans (by kernel_rfl)
  ·refine(aX (a+1) (bo [0,1,4] 5 rfl rfl rfl rfl rfl ⟨Le.refl _,Le.refl _,Le.refl _,Le.refl _,trivial⟩ ⟨⟨rfl,Nat.le_refl _,fun j hj=>match j,hj with|0,_=>(Le.refl _)|1,_=>(Le.refl _) ⟩,⟨rfl,Nat.le_refl _,fun j hj=>match j,hj with|0,_=>(Le.refl _) ⟩,?_,trivial⟩) ?_ ?_)
   ·exact⟨rfl,Nat.le_refl _,fun j _=>Le.of_eq rfl⟩
   ·omega
   ·omega
  ·have ha:a=p.atoms.toNat:=by omega
   subst ha
   have hA:=fun (R:Res) (hp:List AObj) (g:R.σ)=>uN R p.atoms.toNat (by omega) hp g
   rw[show((p.atoms.toNat:Nat):Int)=p.atoms by omega] at hA
   obtain⟨left0,hleft0⟩:∃l,2^p.atoms.toNat-1=l:=⟨_,rfl⟩
   simp only[hleft0] at hA
   obtain⟨n,hn⟩:∃n,p.atoms.toNat=n:=⟨_,rfl⟩
   rw[hn]
   refine⟨_,To.refl _,vcQ [] (lkL [(9,[1,4,6]),(10,[1,4,6,7]),(11,[4,6,7,8])]) (lkL [(9,[(2,ROrc.val (Orc.obj (nth [fn 82 0 (nth []) 1 (nth [ref 1 0])])))]),(11,[(2,ROrc.pcall (int u64 (left0:Int))),(4,ROrc.val (Orc.obj (nth [int u64 (left0:Int)])))])]) (fun Q=>(fun (u1:AV)=>(fun (u2:AV)=>1<=1/\(∀(c:Nat),c<1->nth [u2] c=ap (fun (a:Nat)=>AV.nilf) 0 1 (fun (x:Nat)=>u2) c)/\1<=2/\(∀(hp:List AObj) (g:R.σ),true=true/\Does Tryd.prog R 83 [int i64 p.atoms] hp g (ret u1) hp g)/\1<=1/\(∀(c:Nat),c<1->nth [u1] c=ap (fun (a:Nat)=>int u64 0) 0 1 (fun (x:Nat)=>u1) c)/\Wp Tryd.prog R 57 0 Rd.top (ah Tryd.prog 31) [1,0,1,1,1,1,1,1,1,0,0] (aq Tryd.prog R 57 0 Rd.top (ah Tryd.prog 31) Q [Kont.blk 2,Kont.seq [1,0,1,1,1,1,1,1,1,1]]) (St.mk [(4,ref 1 0),(6,ref 3 0),(7,ref 4 0),(8,ref 5 0)] [cells false 2 (nth [int i64 p.atoms,ae p.rules]),cells false 1 fun (x:Nat)=>ow true 2 n 1,cells false (n*1) fun (a:Nat)=>int u64 (↑(hgP p a):Int),cells false 1 (nth [u2]),cells false 1 fun (a:Nat)=>fz Fz.nil 0 0 fun _ _=>any,cells false 1 (nth [u1])] g)) (fn 82 0 (nth []) 1 (nth [ref 1 0]))) (int u64 (left0:Int))) (fun _=>by kernel_rfl) ⟨by omega,(fun c hc=>match c,hc with|0,_=>(by kernel_rfl) ),by omega,(fun _ _=>⟨rfl,(hA _ _ _)⟩),by omega,(fun c hc=>match c,hc with|0,_=>(by kernel_rfl) ),?_⟩⟩
   refine cA (gg (fun _=>.any) 1) ?_
   refine cA (bl (s':=⟨[(4,.ref 1 0),(6,.ref 3 0),(7,.ref 4 0),(8,.ref 5 0)],[.cells false 2 (nth [.int .i64 p.atoms,ae p.rules]),.cells false 1 (fun _=>.ow true 2 n 1),.cells false (n*1) (onC p),.cells false 1 (fun _=>.fn 82 0 (nth []) 1 (nth [.ref 1 0])),.cells false 1 (fun _=>.ow true 6 0 1),.cells false 1 (fun _=>.int .u64 left0),.cells false (0*1) (aQ [])],g⟩) ?_ ?_ rfl) ?_
   ·exact⟨Le.refl _,Le.refl _,Le.refl _,Le.refl _,trivial⟩
   ·exact⟨LeO.refl _,LeO.refl _,LeO.refl _,⟨rfl,Nat.le_refl _,fun j hj=>match j,hj with|0,_=>Le.refl _⟩,⟨rfl,Nat.le_refl _,fun _ _=>Le.nil_ow⟩,⟨rfl,Nat.le_refl _,fun j hj=>match j,hj with|0,_=>Le.refl _⟩,⟨rfl,Nat.le_refl _,fun j hj=>absurd hj (by omega)⟩,trivial⟩
   refine(bb (by kernel_rfl) (fun (x:Nat × List Nat × Nat)=>⟨[(4,ref 1 0),(6,ref 3 0),(7,ref 4 0),(8,ref 5 0)],[.cells false 2 (nth [.int .i64 p.atoms,ae p.rules]),.cells false 1 (fun _=>.ow true 2 n 1),.cells false (n*1) (onC p),.cells false 1 (fun _=>.fn 82 0 (nth []) 1 (nth [.ref 1 0])),.cells false 1 (fun _=>.ow true 6 x.1 1),.cells false 1 (fun _=>.int .u64 x.2.2),.cells false (x.1*1) (aQ x.2.1)],g⟩) (fun (x:Nat × List Nat × Nat)=>(OrdOk p x)) (fun (x:Nat × List Nat × Nat)=>((aj x.2.2).length)) (0,[],left0) (aV ⟨Le.refl _,Le.refl _,Le.refl _,Le.refl _,trivial⟩ rfl rfl) ?_ (fun x hi=>?_))
   ·rw[<-hleft0]
    exact w9 hp'
   ·obtain⟨m,L,left⟩:=x
    have hok:=hi
    obtain⟨o1,o2,o3,o4,o5⟩:=hi
    simp only at o1 o2 o3 o4 o5
    have hat:0<n:=by omega
    refine vcQ [] (lkL [(12,[4,6,7,8,31]),(13,[4,6,7,8,33])]) (lkL [(13,[(1,ROrc.call (fn 105 0 (nth []) 1 (nth [ref (List.length [cells false 2 (nth [int i64 p.atoms,ae p.rules]),cells false 1 fun (x:Nat)=>ow true 2 n 1,cells false (n*1) fun (a:Nat)=>int u64 (↑(hgP p a):Int),cells false 1 fun (x:Nat)=>fn 82 0 (nth []) 1 (nth [ref 1 0]),cells false 1 fun (x:Nat)=>ow true 6 m 1,cells false 1 fun (x:Nat)=>int u64 (left:Int),cells false (m*1) fun (a:Nat)=>fz Fz.auto 1 ((ac (L.getD a 0)).l.length) fun (i x:Nat)=>af (ac (L.getD a 0)).l i]) 0])) ([cells false 2 (nth [int i64 p.atoms,ae p.rules]),cells false 1 fun (x:Nat)=>ow true 2 n 1,cells false (n*1) fun (a:Nat)=>int u64 (↑(hgP p a):Int),cells false 1 fun (x:Nat)=>fn 82 0 (nth []) 1 (nth [ref 1 0]),cells false 1 fun (x:Nat)=>ow true 6 m 1,cells false 1 fun (x:Nat)=>int u64 (left:Int),cells false (m*1) fun (a:Nat)=>fz Fz.auto 1 ((ac (L.getD a 0)).l.length) fun (i x:Nat)=>af (ac (L.getD a 0)).l i]++[cells false 1 fun (x:Nat)=>int u64 (left:Int)]) g)])]) (fun Q=>(fun (u1:List AObj)=>(fun (u2:List AObj)=>1<=1/\(((left:Int) != 0)=true->1<=1/\(true=true/\Does Tryd.prog R 77 [int u64 (left:Int)] u2 g (ret (fn 105 0 (nth []) 1 (nth [ref 7 0]))) u1 g)/\Wp Tryd.prog R 57 0 Rd.top (ah Tryd.prog 31) [1,0,1,1,1,1,1,1,1,0,0,0,1,0,1,0] (aq Tryd.prog R 57 0 Rd.top (ah Tryd.prog 31) Q [Kont.blk 4,Kont.blk 3]) (St.mk [(4,ref 1 0),(6,ref 3 0),(7,ref 4 0),(8,ref 5 0),(33,fn 105 0 (nth []) 1 (nth [ref 7 0]))] u1 g))/\(((left:Int) != 0)=false->Q (AEx.exit 2) (St.mk [(4,ref 1 0),(6,ref 3 0),(7,ref 4 0),(8,ref 5 0),(31,AV.bool ((left:Int) != 0))] u2 g))) ([cells false 2 (nth [int i64 p.atoms,ae p.rules]),cells false 1 fun (x:Nat)=>ow true 2 n 1,cells false (n*1) fun (a:Nat)=>int u64 (↑(hgP p a):Int),cells false 1 fun (x:Nat)=>fn 82 0 (nth []) 1 (nth [ref 1 0]),cells false 1 fun (x:Nat)=>ow true 6 m 1,cells false 1 fun (x:Nat)=>int u64 (left:Int),cells false (m*1) fun (a:Nat)=>fz Fz.auto 1 ((ac (L.getD a 0)).l.length) fun (i x:Nat)=>af (ac (L.getD a 0)).l i])) ([cells false 2 (nth [int i64 p.atoms,ae p.rules]),cells false 1 fun (x:Nat)=>ow true 2 n 1,cells false (n*1) fun (a:Nat)=>int u64 (↑(hgP p a):Int),cells false 1 fun (x:Nat)=>fn 82 0 (nth []) 1 (nth [ref 1 0]),cells false 1 fun (x:Nat)=>ow true 6 m 1,cells false 1 fun (x:Nat)=>int u64 (left:Int),cells false (m*1) fun (a:Nat)=>fz Fz.auto 1 ((ac (L.getD a 0)).l.length) fun (i x:Nat)=>af (ac (L.getD a 0)).l i,cells false 1 fun (x:Nat)=>int u64 (left:Int)])) (fun _=>by kernel_rfl) ⟨by omega,fun c1=>have c1:¬(left:Int)=0:=(bne_iff_ne.mp c1);⟨by omega,⟨rfl,(cS _ _ _ _)⟩,?_⟩,fun c1=>have c1:(left:Int)=0:=(bne_eq_false_iff_eq.mp c1);?_⟩
    ·have hne:left≠0:=by omega
     have hnx:=wZ hr hok hne
     obtain⟨k1,k2,k3,k4⟩:=kC hr o3 hne
     obtain⟨K,hK⟩:∃K,hG p left=K:=⟨_,rfl⟩
     obtain⟨A,hA'⟩:∃A,bm p left=A:=⟨_,rfl⟩
     rw[hK] at k1 k3
     rw[hA'] at k2 k4 hnx
     have hAK:(aj left).getD K 0=A:=by rw[<-hA',<-hK];rfl
     rcases Nat.eq_zero_or_pos m with hm0|hm0
     ·subst hm0
      have hL:L=[]:=List.length_eq_zero_iff.1 o1.symm
      subst hL
      refine cA (bo (s':=⟨[(4,.ref 1 0),(6,.ref 3 0),(7,.ref 4 0),(8,.ref 5 0),(33,.fn 105 0 (nth []) 1 (nth [.ref 6 0]))],[.cells false 2 (nth [.int .i64 p.atoms,ae p.rules]),.cells false 1 (fun _=>.ow true 2 n 1),.cells false (n*1) (onC p),.cells false 1 (fun _=>.fn 82 0 (nth []) 1 (nth [.ref 1 0])),.cells false 1 (fun _=>.fz .nil 0 0 (fun _ _=>.any)),.cells false 1 (fun _=>.int .u64 left),.cells false 1 (fun _=>.int .u64 left)],g⟩) [0,1,2,3,4,5,7] 8 rfl rfl rfl rfl rfl ⟨Le.refl _,Le.refl _,Le.refl _,Le.refl _,Le.fn (fun i hi=>absurd hi (Nat.not_lt_zero i)) (fun i hi=>match i,hi with|0,_=>Le.refl _),trivial⟩ ⟨⟨rfl,Nat.le_refl _,fun j hj=>match j,hj with|0,_=>Le.refl _|1,_=>aB (by exact trivial)⟩,LeO.refl _,LeO.refl _,⟨rfl,Nat.le_refl _,fun j hj=>Le.fn (fun i hi=>absurd hi (Nat.not_lt_zero i)) (fun i hi=>match i,hi with|0,_=>Le.refl _)⟩,⟨rfl,Nat.le_refl _,fun j hj=>Le.ow_nil⟩,LeO.refl _,LeO.refl _,trivial⟩) ?_
      refine q7 33 [34] 6 (by kernel_rfl) rfl rfl left K o3 [.cells false 2 (nth [.int .i64 p.atoms,ae p.rules]),.cells false 1 (fun _=>.ow true 2 n 1),.cells false (n*1) (onC p),.cells false 1 (fun _=>.fn 82 0 (nth []) 1 (nth [.ref 1 0])),.cells false 1 (fun _=>.fz .nil 0 0 (fun _ _=>.any)),.cells false 1 (fun _=>.int .u64 left)] (gU rfl rfl) rfl (by exact⟨by omega,by omega,by omega,by omega,by omega,by omega,by omega,trivial⟩) (by exact⟨fun j hj=>(match j,hj with|0,_=>trivial|1,_=>trivial),fun _ _=>show 2<6 by omega,fun _ _=>trivial,fun _ _=>⟨trivial,trivial,show 1<6 by omega⟩,fun _ _=>trivial,fun _ _=>trivial,trivial⟩) rfl (by kernel_rfl) [4,6,7,8] (by exact⟨show 1<6 by omega,show 3<6 by omega,show 4<6 by omega,show 5<6 by omega,trivial⟩) (fun k l' hk hkN=>?_) (fun hKN l'=>?_) (fun h=>?_)
      ·obtain⟨a,ha⟩:∃a,(aj left).getD k 0=a:=⟨_,rfl⟩
       have ham:a∈aj left:=by rw[<-ha];exact bK _ 0 hkN
       have han:a<n:=by rw[<-hn];exact o4 a ham
       have h3:=k3 k hk
       rw[ha] at h3 ⊢
       have hO:=fun (R:Res) [Tab LT R] (g:R.σ)=>kA R p n a hr (by omega) (by omega) (fun b hb=>by have:=kJ hr hx (a:=a) (by omega) (by omega) hb;omega) g
       have hcd:=(kI (p:=p) (a:=a) (fH hr (by omega)) o3).trans h3
       refine vcQ [] (lkL [(14,[4,6,7,8,9])]) (fun _=>[]) (fun Q=>Q AEx.normal (St.mk [(4,ref 1 0),(6,ref 3 0),(7,ref 4 0),(8,ref 5 0),(9,int i64 (a:Int))] [cells false 2 (nth [int i64 p.atoms,ae p.rules]),cells false 1 fun (x:Nat)=>ow true 2 n 1,cells false (n*1) fun (a:Nat)=>int u64 (↑(hgP p a):Int),cells false 1 fun (x:Nat)=>fn 82 0 (nth []) 1 (nth [ref 1 0]),cells false 1 fun (x:Nat)=>fz Fz.nil 0 0 fun _ _=>any,cells false 1 fun (x:Nat)=>int u64 (left:Int)] g)) (fun _=>by kernel_rfl) (?_)
       show Wp _ _ _ 6 _ _ _ _ _
       refine vcQ [] (lkL [(15,[4,6,7,8,9,10]),(16,[4,6,7,8,10,46]),(17,[4,6,7,8,10]),(18,[4,6,7,8])]) (lkL [(15,[(2,ROrc.kcall (int u64 (↑(au p a):Int)))]),(17,[(2,ROrc.callN (fn 105 0 (nth []) 1 (nth [ref (List.length [cells false 2 (nth [int i64 p.atoms,ae p.rules]),cells false 1 fun (x:Nat)=>ow true 2 n 1,cells false (n*1) fun (a:Nat)=>int u64 (↑(hgP p a):Int),cells false 1 fun (x:Nat)=>fn 82 0 (nth []) 1 (nth [ref 1 0]),cells false 1 fun (x:Nat)=>fz Fz.nil 0 0 fun _ _=>any,cells false 1 fun (x:Nat)=>int u64 (left:Int)]) 0])) [] [cells false 1 fun (x:Nat)=>int u64 (↑(au p a):Int)] g),(3,ROrc.callN (ow true 7 ((aj (au p a)).length) 1) [(6,cells false 1 fun (j:Nat)=>any)] [cells false ((aj (au p a)).length*1) fun (j:Nat)=>int i64 (↑((aj (au p a)).getD j 0):Int)] g),(6,ROrc.val (Orc.obj (nth [ow true 9 1 1])))]),(18,[(3,ROrc.val (Orc.obj (nth [int u64 (IntKind.wrap u64 (↑(BitVec.toNat (BitVec.ofInt 64 (left:Int) &&& ~~~BitVec.ofInt 64 (↑(au p a):Int))):Int))])))])]) (fun Q=>(fun (u1:List AObj)=>(fun (u2:Bool)=>(fun (u3:List AObj)=>(fun (u4:AV)=>(fun (u5:AObj)=>(fun (u6:AV)=>(fun (u7:AV)=>(fun (u8:AObj)=>(fun (u9:AObj)=>(fun (u10:AV)=>(fun (u11:AObj)=>(fun (u12:Bool)=>1<=1/\(true=true/\Does Tryd.prog R 82 [int i64 (a:Int),ref 1 0] u1 g (ret u10) u1 g)/\u12=true/\1<=1/\(0<=(a:Int)/\(a:Int)<(n:Int))/\a+1<=n*1/\1<=1/\(u2=true->u12=true/\1<=1/\(true=true/\Does Tryd.prog R 77 [u10] u1 g (ret (fn 105 0 (nth []) 1 (nth [ref 6 0]))) u3 g)/\(true=true/\Does Tryd.prog R 75 [fn 105 0 (nth []) 1 (nth [ref 6 0])] u3 g (ret u7) [u11,cells false 1 fun (x:Nat)=>ow true 2 n 1,u9,u8,cells false 1 fun (x:Nat)=>u6,cells false 1 fun (x:Nat)=>int u64 (left:Int),cells false 1 fun (j:Nat)=>any,u5] g)/\0<1/\24<=aN/\1<=aN/\1<=1/\1<=1/\(∀(c:Nat),c<1->nth [ow true 9 1 1] c=ap (fun (x:Nat)=>u6) 0 1 (fun (x:Nat)=>ow true 9 1 1) c)/\1<=1/\1<=1/\(∀(c:Nat),c<1->nth [u4] c=ap (fun (x:Nat)=>int u64 (left:Int)) 0 1 (fun (x:Nat)=>u4) c)/\Q (AEx.exit 3) (St.mk [(4,ref 1 0),(6,ref 3 0),(7,ref 4 0),(8,ref 5 0)] [u11,cells false 1 fun (x:Nat)=>ow true 2 n 1,u9,u8,cells false 1 (nth [ow true 9 1 1]),cells false 1 (nth [u4]),cells false 1 fun (j:Nat)=>any,u5,cells false 1 (ap (fun (j:Nat)=>u6) 0 1 fun (x:Nat)=>u7),cells false 1 (a9 1 0 (fun _ _=>any) fun (i j:Nat)=>ap (fun (j:Nat)=>u6) 0 1 (fun (x:Nat)=>u7) (0+i*1+j))] g))/\(u2=false->Q AEx.normal (St.mk [(4,ref 1 0),(6,ref 3 0),(7,ref 4 0),(8,ref 5 0),(10,u10),(46,AV.bool u2)] u1 g))) (Tables.follows Tryd.prog.toTables Departure.mixedOrders)) (cells false 2 (nth [int i64 p.atoms,ae p.rules]))) (int u64 (↑(au p a):Int))) (cells false (n*1) fun (a:Nat)=>int u64 (↑(hgP p a):Int))) (cells false 1 fun (x:Nat)=>fn 82 0 (nth []) 1 (nth [ref 1 0]))) (ow true 7 ((aj (au p a)).length) 1)) (fz Fz.nil 0 0 fun _ _=>any)) (cells false ((aj (au p a)).length*1) fun (j:Nat)=>int i64 (↑((aj (au p a)).getD j 0):Int))) (int u64 (IntKind.wrap u64 (↑(BitVec.toNat (BitVec.ofInt 64 (left:Int) &&& ~~~BitVec.ofInt 64 (↑(au p a):Int))):Int)))) ([cells false 2 (nth [int i64 p.atoms,ae p.rules]),cells false 1 fun (x:Nat)=>ow true 2 n 1,cells false (n*1) fun (a:Nat)=>int u64 (↑(hgP p a):Int),cells false 1 fun (x:Nat)=>fn 82 0 (nth []) 1 (nth [ref 1 0]),cells false 1 fun (x:Nat)=>fz Fz.nil 0 0 fun _ _=>any,cells false 1 fun (x:Nat)=>int u64 (left:Int),cells false 1 fun (x:Nat)=>int u64 (↑(au p a):Int)])) (IntKind.wrap u64 (↑(BitVec.toNat (BitVec.ofInt 64 (IntKind.wrap u64 (↑(BitVec.toNat (BitVec.ofInt 64 (↑(hgP p a):Int)&&&BitVec.ofInt 64 (left:Int))):Int)) &&& ~~~BitVec.ofInt 64 (↑(au p a):Int))):Int)==0)) ([cells false 2 (nth [int i64 p.atoms,ae p.rules]),cells false 1 fun (x:Nat)=>ow true 2 n 1,cells false (n*1) fun (a:Nat)=>int u64 (↑(hgP p a):Int),cells false 1 fun (x:Nat)=>fn 82 0 (nth []) 1 (nth [ref 1 0]),cells false 1 fun (x:Nat)=>fz Fz.nil 0 0 fun _ _=>any,cells false 1 fun (x:Nat)=>int u64 (left:Int)])) (fun _=>by kernel_rfl) ⟨by omega,⟨rfl,(bc (T:=LT) inferInstance [1,2] 6 (fun R _ g=>hO R g) rfl rfl rfl (by exact⟨⟨rfl,Nat.le_refl _,fun j hj=>match j,hj with|0,_=>(Le.refl _) ⟩,⟨rfl,Nat.le_refl _,fun j hj=>(by first|exact aB (by first|exact trivial|apply fI)|exact Le.of_eq (fJ rfl).symm)⟩,trivial⟩) (by exact⟨by omega,by omega,trivial⟩) (by exact⟨aB (by exact trivial),Le.refl _,trivial⟩) (by exact aC (by exact trivial)) (by exact⟨LeO.rflc,⟨rfl,Nat.le_refl _,fun j hj=>match j,hj with|0,_=>(Le.refl _) ⟩,⟨rfl,Nat.le_refl _,fun j hj=>(by first|exact aC (by first|exact trivial|apply fI)|exact Le.of_eq (fJ rfl))⟩,LeO.rflc,LeO.rflc,LeO.rflc,trivial⟩))⟩,by kernel_rfl,by omega,by omega,by omega,by omega,fun c1=>have c1:IntKind.wrap u64 (↑(BitVec.toNat (BitVec.ofInt 64 (IntKind.wrap u64 (↑(BitVec.toNat (BitVec.ofInt 64 (↑(hgP p a):Int)&&&BitVec.ofInt 64 (left:Int))):Int)) &&& ~~~BitVec.ofInt 64 (↑(au p a):Int))):Int)=0:=(beq_iff_eq.mp c1);⟨by kernel_rfl,by omega,⟨rfl,(cS _ _ _ _)⟩,⟨rfl,(bc (T:=LT) inferInstance [6] 7 (fun R _ g=>ku R (au p a) (by simp at * <;> omega) g) rfl rfl rfl (by exact⟨⟨rfl,Nat.le_refl _,fun j hj=>match j,hj with|0,_=>(Le.refl _) ⟩,trivial⟩) (by exact⟨by omega,trivial⟩) (by exact⟨(Le.fn (fun i hi=>absurd hi (by omega)) (fun i hi=>match i,hi with|0,_=>(Le.refl _) )),trivial⟩) (by exact(Le.refl _)) (by exact⟨LeO.rflc,LeO.rflc,LeO.rflc,LeO.rflc,LeO.rflc,LeO.rflc,LeO.rflc,LeO.rflc,trivial⟩))⟩,by omega,by omega,by omega,by omega,by omega,(fun c hc=>match c,hc with|0,_=>(by kernel_rfl) ),by omega,by omega,(fun c hc=>match c,hc with|0,_=>(by kernel_rfl) ),?_⟩,fun c1=>have c1:¬IntKind.wrap u64 (↑(BitVec.toNat (BitVec.ofInt 64 (IntKind.wrap u64 (↑(BitVec.toNat (BitVec.ofInt 64 (↑(hgP p a):Int)&&&BitVec.ofInt 64 (left:Int))):Int)) &&& ~~~BitVec.ofInt 64 (↑(au p a):Int))):Int)=0:=(beq_eq_false_iff_ne.mp c1);?_⟩
       ·exfalso
        rename_i c0
        exact absurd (hcd.symm.trans c0) (by decide)
       ·refine(ft rfl (aV trivial rfl rfl))
      ·rw[hAK]
       have han:A<n:=by rw[<-hn];exact o4 A k4
       have hO:=fun (R:Res) [Tab LT R] (g:R.σ)=>kA R p n A hr (by omega) (by omega) (fun b hb=>by have:=kJ hr hx (a:=A) (by omega) (by omega) hb;omega) g
       have hcd:=(kI (p:=p) (a:=A) (fH hr (by omega)) o3).trans k2
       have hw24:=qC p A
       have hC:=fun (R:Res) [Tab LT R] (s:Nat) (hs:s<2^24) (g:R.σ)=>g9 R s hs g
       refine vcQ [] (lkL [(14,[4,6,7,8,9])]) (fun _=>[]) (fun Q=>Q AEx.normal (St.mk [(4,ref 1 0),(6,ref 3 0),(7,ref 4 0),(8,ref 5 0),(9,int i64 (A:Int))] [cells false 2 (nth [int i64 p.atoms,ae p.rules]),cells false 1 fun (x:Nat)=>ow true 2 n 1,cells false (n*1) fun (a:Nat)=>int u64 (↑(hgP p a):Int),cells false 1 fun (x:Nat)=>fn 82 0 (nth []) 1 (nth [ref 1 0]),cells false 1 fun (x:Nat)=>fz Fz.nil 0 0 fun _ _=>any,cells false 1 fun (x:Nat)=>int u64 (left:Int),dead] g)) (fun _=>by kernel_rfl) (?_)
       show Wp _ _ _ 7 _ _ _ _ _
       refine vcQ [] (lkL [(15,[4,6,7,8,9,10]),(16,[4,6,7,8,10,46]),(17,[4,6,7,8,10]),(18,[4,6,7,8])]) (lkL [(15,[(2,ROrc.kcall (int u64 (↑(au p A):Int)))]),(17,[(2,ROrc.callN (fn 105 0 (nth []) 1 (nth [ref (List.length [cells false 2 (nth [int i64 p.atoms,ae p.rules]),cells false 1 fun (x:Nat)=>ow true 2 n 1,cells false (n*1) fun (a:Nat)=>int u64 (↑(hgP p a):Int),cells false 1 fun (x:Nat)=>fn 82 0 (nth []) 1 (nth [ref 1 0]),cells false 1 fun (x:Nat)=>fz Fz.nil 0 0 fun _ _=>any,cells false 1 fun (x:Nat)=>int u64 (left:Int),dead]) 0])) [] [cells false 1 fun (x:Nat)=>int u64 (↑(au p A):Int)] g),(3,ROrc.callS (fz Fz.auto 1 ((ac (au p A)).l.length) fun (i x:Nat)=>af (ac (au p A)).l i) [(7,cells false 1 fun (j:Nat)=>any)] g),(5,ROrc.val (Orc.obj (aQ ([]++[au p A])))),(6,ROrc.val (Orc.obj (nth [ow true 9 1 1])))]),(18,[(3,ROrc.val (Orc.obj (nth [int u64 (IntKind.wrap u64 (↑(BitVec.toNat (BitVec.ofInt 64 (left:Int) &&& ~~~BitVec.ofInt 64 (↑(au p A):Int))):Int))])))])]) (fun Q=>(fun (u1:List AObj)=>(fun (u2:Bool)=>(fun (u3:List AObj)=>(fun (u4:AV)=>(fun (u5:AV)=>(fun (u6:AV)=>(fun (u7:AObj)=>(fun (u8:AObj)=>(fun (u9:AV)=>(fun (u10:AObj)=>(fun (u11:Bool)=>1<=1/\(true=true/\Does Tryd.prog R 82 [int i64 (A:Int),ref 1 0] u1 g (ret u9) u1 g)/\u11=true/\1<=1/\(0<=(A:Int)/\(A:Int)<(n:Int))/\A+1<=n*1/\1<=1/\(u2=true->u11=true/\1<=1/\(true=true/\Does Tryd.prog R 77 [u9] u1 g (ret (fn 105 0 (nth []) 1 (nth [ref 7 0]))) u3 g)/\(true=true/\Does Tryd.prog R 75 [fn 105 0 (nth []) 1 (nth [ref 7 0])] u3 g (ret u5) [u10,cells false 1 fun (x:Nat)=>ow true 2 n 1,u8,u7,cells false 1 fun (x:Nat)=>u6,cells false 1 fun (x:Nat)=>int u64 (left:Int),dead,cells false 1 fun (j:Nat)=>any] g)/\0<1/\24<=aN/\1<=aN/\1<=1/\(∀(c:Nat),c<1->(fz Fz.auto 1 ((ac (([]++[au p A]).getD c 0)).l.length) fun (i x:Nat)=>af (ac (([]++[au p A]).getD c 0)).l i)=a9 1 0 (fun _ _=>any) (fun (i j:Nat)=>ap (fun (j:Nat)=>u6) 0 1 (fun (x:Nat)=>u5) (0+i*1+j)) c)/\1<=1/\(∀(c:Nat),c<1->nth [ow true 9 1 1] c=ap (fun (x:Nat)=>u6) 0 1 (fun (x:Nat)=>ow true 9 1 1) c)/\1<=1/\1<=1/\(∀(c:Nat),c<1->nth [u4] c=ap (fun (x:Nat)=>int u64 (left:Int)) 0 1 (fun (x:Nat)=>u4) c)/\Q (AEx.exit 3) (St.mk [(4,ref 1 0),(6,ref 3 0),(7,ref 4 0),(8,ref 5 0)] [u10,cells false 1 fun (x:Nat)=>ow true 2 n 1,u8,u7,cells false 1 (nth [ow true 9 1 1]),cells false 1 (nth [u4]),dead,cells false 1 fun (j:Nat)=>any,cells false 1 (ap (fun (j:Nat)=>u6) 0 1 fun (x:Nat)=>u5),cells false 1 fun (a:Nat)=>fz Fz.auto 1 ((ac (([]++[au p A]).getD a 0)).l.length) fun (i x:Nat)=>af (ac (([]++[au p A]).getD a 0)).l i] g))/\(u2=false->Q AEx.normal (St.mk [(4,ref 1 0),(6,ref 3 0),(7,ref 4 0),(8,ref 5 0),(10,u9),(46,AV.bool u2)] u1 g))) (Tables.follows Tryd.prog.toTables Departure.mixedOrders)) (cells false 2 (nth [int i64 p.atoms,ae p.rules]))) (int u64 (↑(au p A):Int))) (cells false (n*1) fun (a:Nat)=>int u64 (↑(hgP p a):Int))) (cells false 1 fun (x:Nat)=>fn 82 0 (nth []) 1 (nth [ref 1 0]))) (fz Fz.nil 0 0 fun _ _=>any)) (fz Fz.auto 1 ((ac (au p A)).l.length) fun (i x:Nat)=>af (ac (au p A)).l i)) (int u64 (IntKind.wrap u64 (↑(BitVec.toNat (BitVec.ofInt 64 (left:Int) &&& ~~~BitVec.ofInt 64 (↑(au p A):Int))):Int)))) ([cells false 2 (nth [int i64 p.atoms,ae p.rules]),cells false 1 fun (x:Nat)=>ow true 2 n 1,cells false (n*1) fun (a:Nat)=>int u64 (↑(hgP p a):Int),cells false 1 fun (x:Nat)=>fn 82 0 (nth []) 1 (nth [ref 1 0]),cells false 1 fun (x:Nat)=>fz Fz.nil 0 0 fun _ _=>any,cells false 1 fun (x:Nat)=>int u64 (left:Int),dead,cells false 1 fun (x:Nat)=>int u64 (↑(au p A):Int)])) (IntKind.wrap u64 (↑(BitVec.toNat (BitVec.ofInt 64 (IntKind.wrap u64 (↑(BitVec.toNat (BitVec.ofInt 64 (↑(hgP p A):Int)&&&BitVec.ofInt 64 (left:Int))):Int)) &&& ~~~BitVec.ofInt 64 (↑(au p A):Int))):Int)==0)) ([cells false 2 (nth [int i64 p.atoms,ae p.rules]),cells false 1 fun (x:Nat)=>ow true 2 n 1,cells false (n*1) fun (a:Nat)=>int u64 (↑(hgP p a):Int),cells false 1 fun (x:Nat)=>fn 82 0 (nth []) 1 (nth [ref 1 0]),cells false 1 fun (x:Nat)=>fz Fz.nil 0 0 fun _ _=>any,cells false 1 fun (x:Nat)=>int u64 (left:Int),dead])) (fun _=>by kernel_rfl) ⟨by omega,⟨rfl,(bc (T:=LT) inferInstance [1,2] 7 (fun R _ g=>hO R g) rfl rfl rfl (by exact⟨⟨rfl,Nat.le_refl _,fun j hj=>match j,hj with|0,_=>(Le.refl _) ⟩,⟨rfl,Nat.le_refl _,fun j hj=>(by first|exact aB (by first|exact trivial|apply fI)|exact Le.of_eq (fJ rfl).symm)⟩,trivial⟩) (by exact⟨by omega,by omega,trivial⟩) (by exact⟨aB (by exact trivial),Le.refl _,trivial⟩) (by exact aC (by exact trivial)) (by exact⟨LeO.rflc,⟨rfl,Nat.le_refl _,fun j hj=>match j,hj with|0,_=>(Le.refl _) ⟩,⟨rfl,Nat.le_refl _,fun j hj=>(by first|exact aC (by first|exact trivial|apply fI)|exact Le.of_eq (fJ rfl))⟩,LeO.rflc,LeO.rflc,LeO.rflc,trivial,trivial⟩))⟩,by kernel_rfl,by omega,by omega,by omega,by omega,fun c1=>have c1:IntKind.wrap u64 (↑(BitVec.toNat (BitVec.ofInt 64 (IntKind.wrap u64 (↑(BitVec.toNat (BitVec.ofInt 64 (↑(hgP p A):Int)&&&BitVec.ofInt 64 (left:Int))):Int)) &&& ~~~BitVec.ofInt 64 (↑(au p A):Int))):Int)=0:=(beq_iff_eq.mp c1);⟨by kernel_rfl,by omega,⟨rfl,(cS _ _ _ _)⟩,⟨rfl,(bc (T:=LT) inferInstance [7] 8 (fun R _ g=>hC R (au p A) (by omega) g) rfl rfl rfl (by exact⟨⟨rfl,Nat.le_refl _,fun j hj=>match j,hj with|0,_=>(Le.refl _) ⟩,trivial⟩) (by exact⟨by omega,trivial⟩) (by exact⟨(Le.fn (fun i hi=>absurd hi (by omega)) (fun i hi=>match i,hi with|0,_=>(Le.refl _) )),trivial⟩) (by exact aC (by exact trivial)) (by exact⟨LeO.rflc,LeO.rflc,LeO.rflc,LeO.rflc,LeO.rflc,LeO.rflc,trivial,LeO.rflc,trivial⟩))⟩,by omega,by omega,by omega,by omega,?_,by omega,(fun c hc=>match c,hc with|0,_=>(by kernel_rfl) ),by omega,by omega,(fun c hc=>match c,hc with|0,_=>(by kernel_rfl) ),?_⟩,fun c1=>have c1:¬IntKind.wrap u64 (↑(BitVec.toNat (BitVec.ofInt 64 (IntKind.wrap u64 (↑(BitVec.toNat (BitVec.ofInt 64 (↑(hgP p A):Int)&&&BitVec.ofInt 64 (left:Int))):Int)) &&& ~~~BitVec.ofInt 64 (↑(au p A):Int))):Int)=0:=(beq_eq_false_iff_ne.mp c1);?_⟩
       ·exact fun c hc=>(kK (L:=[]) (m:=0) (z:=fun _=>.fz .nil 0 0 (fun _ _=>.any)) (old:=fun _ _=>.any) (by assumption) (fun i hi=>absurd hi (Nat.not_lt_zero i)) hc).trans (by kernel_rfl)
       ·show Cl R 0 (fg _ _) AEx.normal _
        refine(aX (0+1,[]++[au p A],ca left (au p A)) (bo [0,1,2,3,4,5,9] 10 rfl rfl rfl rfl rfl ⟨Le.refl _,Le.refl _,Le.refl _,Le.refl _,trivial⟩ ⟨⟨rfl,Nat.le_refl _,fun j hj=>match j,hj with|0,_=>(Le.refl _)|1,_=>(Le.refl _) ⟩,⟨rfl,Nat.le_refl _,fun j hj=>match j,hj with|0,_=>(Le.refl _) ⟩,?_,⟨rfl,Nat.le_refl _,fun j hj=>match j,hj with|0,_=>(Le.fn (fun i hi=>absurd hi (by omega)) (fun i hi=>match i,hi with|0,_=>(Le.refl _) )) ⟩,⟨rfl,Nat.le_refl _,fun j hj=>match j,hj with|0,_=>(Le.refl _) ⟩,⟨rfl,Nat.le_refl _,fun j hj=>match j,hj with|0,_=>(Le.of_eq ?_) ⟩,⟨rfl,Nat.le_refl _,fun j hj=>match j,hj with|0,_=>(Le.refl _) ⟩,trivial⟩) ?_ ?_)
        ·exact⟨rfl,Nat.le_refl _,fun j _=>Le.of_eq rfl⟩
        ·show AV.int .u64 _=AV.int .u64 _
         rw[ne o3]
        ·exact hnx.1
        ·exact hnx.2
       ·exfalso
        rename_i c0
        exact absurd (hcd.symm.trans c0) (by decide)
      ·exact absurd k1 (by omega)
     ·refine q7 33 [34] 7 (by kernel_rfl) rfl rfl left K o3 [.cells false 2 (nth [.int .i64 p.atoms,ae p.rules]),.cells false 1 (fun _=>.ow true 2 n 1),.cells false (n*1) (onC p),.cells false 1 (fun _=>.fn 82 0 (nth []) 1 (nth [.ref 1 0])),.cells false 1 (fun _=>.ow true 6 m 1),.cells false 1 (fun _=>.int .u64 left),.cells false (m*1) (aQ L)] (gU rfl rfl) rfl (by exact⟨by omega,by omega,by omega,by omega,by omega,by omega,by omega,by omega,trivial⟩) (by exact⟨fun j hj=>(match j,hj with|0,_=>trivial|1,_=>trivial),fun _ _=>show 2<7 by omega,fun _ _=>trivial,fun _ _=>⟨trivial,trivial,show 1<7 by omega⟩,fun _ _=>show 6<7 by omega,fun _ _=>trivial,fun _ _=>trivial,trivial⟩) rfl (by kernel_rfl) [4,6,7,8] (by exact⟨show 1<7 by omega,show 3<7 by omega,show 4<7 by omega,show 5<7 by omega,trivial⟩) (fun k l' hk hkN=>?_) (fun hKN l'=>?_) (fun h=>?_)
      ·obtain⟨a,ha⟩:∃a,(aj left).getD k 0=a:=⟨_,rfl⟩
       have ham:a∈aj left:=by rw[<-ha];exact bK _ 0 hkN
       have han:a<n:=by rw[<-hn];exact o4 a ham
       have h3:=k3 k hk
       rw[ha] at h3 ⊢
       have hO:=fun (R:Res) [Tab LT R] (g:R.σ)=>kA R p n a hr (by omega) (by omega) (fun b hb=>by have:=kJ hr hx (a:=a) (by omega) (by omega) hb;omega) g
       have hcd:=(kI (p:=p) (a:=a) (fH hr (by omega)) o3).trans h3
       refine vcQ [] (lkL [(14,[4,6,7,8,9])]) (fun _=>[]) (fun Q=>Q AEx.normal (St.mk [(4,ref 1 0),(6,ref 3 0),(7,ref 4 0),(8,ref 5 0),(9,int i64 (a:Int))] [cells false 2 (nth [int i64 p.atoms,ae p.rules]),cells false 1 fun (x:Nat)=>ow true 2 n 1,cells false (n*1) fun (a:Nat)=>int u64 (↑(hgP p a):Int),cells false 1 fun (x:Nat)=>fn 82 0 (nth []) 1 (nth [ref 1 0]),cells false 1 fun (x:Nat)=>ow true 6 m 1,cells false 1 fun (x:Nat)=>int u64 (left:Int),cells false (m*1) fun (a:Nat)=>fz Fz.auto 1 ((ac (L.getD a 0)).l.length) fun (i x:Nat)=>af (ac (L.getD a 0)).l i] g)) (fun _=>by kernel_rfl) (?_)
       show Wp _ _ _ 7 _ _ _ _ _
       refine vcQ [] (lkL [(15,[4,6,7,8,9,10]),(16,[4,6,7,8,10,46]),(17,[4,6,7,8,10]),(18,[4,6,7,8])]) (lkL [(15,[(2,ROrc.kcall (int u64 (↑(au p a):Int)))]),(17,[(2,ROrc.callN (fn 105 0 (nth []) 1 (nth [ref (List.length [cells false 2 (nth [int i64 p.atoms,ae p.rules]),cells false 1 fun (x:Nat)=>ow true 2 n 1,cells false (n*1) fun (a:Nat)=>int u64 (↑(hgP p a):Int),cells false 1 fun (x:Nat)=>fn 82 0 (nth []) 1 (nth [ref 1 0]),cells false 1 fun (x:Nat)=>ow true 6 m 1,cells false 1 fun (x:Nat)=>int u64 (left:Int),cells false (m*1) fun (a:Nat)=>fz Fz.auto 1 ((ac (L.getD a 0)).l.length) fun (i x:Nat)=>af (ac (L.getD a 0)).l i]) 0])) [] [cells false 1 fun (x:Nat)=>int u64 (↑(au p a):Int)] g),(3,ROrc.callN (ow true 8 ((aj (au p a)).length) 1) [(7,cells false 1 fun (j:Nat)=>any)] [cells false ((aj (au p a)).length*1) fun (j:Nat)=>int i64 (↑((aj (au p a)).getD j 0):Int)] g),(6,ROrc.val (Orc.obj (nth [ow true 10 (m+1) 1])))]),(18,[(3,ROrc.val (Orc.obj (nth [int u64 (IntKind.wrap u64 (↑(BitVec.toNat (BitVec.ofInt 64 (left:Int) &&& ~~~BitVec.ofInt 64 (↑(au p a):Int))):Int))])))])]) (fun Q=>(fun (u1:List AObj)=>(fun (u2:List AObj)=>(fun (u3:Bool)=>(fun (u4:AV)=>(fun (u5:AObj)=>(fun (u6:AV)=>(fun (u7:AObj)=>(fun (u8:AObj)=>(fun (u9:AV)=>(fun (u10:AObj)=>(fun (u11:Bool)=>1<=1/\(true=true/\Does Tryd.prog R 82 [int i64 (a:Int),ref 1 0] u1 g (ret u9) u1 g)/\u11=true/\1<=1/\(0<=(a:Int)/\(a:Int)<(n:Int))/\a+1<=n*1/\1<=1/\(u3=true->u11=true/\1<=1/\(true=true/\Does Tryd.prog R 77 [u9] u1 g (ret (fn 105 0 (nth []) 1 (nth [ref 7 0]))) u2 g)/\(true=true/\Does Tryd.prog R 75 [fn 105 0 (nth []) 1 (nth [ref 7 0])] u2 g (ret u6) [u10,cells false 1 fun (x:Nat)=>ow true 2 n 1,u8,u7,cells false 1 fun (x:Nat)=>ow true 6 m 1,cells false 1 fun (x:Nat)=>int u64 (left:Int),cells false (m*1) fun (a:Nat)=>fz Fz.auto 1 ((ac (L.getD a 0)).l.length) fun (i x:Nat)=>af (ac (L.getD a 0)).l i,cells false 1 fun (j:Nat)=>any,u5] g)/\0<1/\(m+1)*24<=aN/\m+1<=aN/\1<=1/\m*1<=m*1/\1<=1/\(∀(c:Nat),c<1->nth [ow true 10 (m+1) 1] c=ap (fun (x:Nat)=>ow true 6 m 1) 0 1 (fun (x:Nat)=>ow true 10 (m+1) 1) c)/\1<=1/\1<=1/\(∀(c:Nat),c<1->nth [u4] c=ap (fun (x:Nat)=>int u64 (left:Int)) 0 1 (fun (x:Nat)=>u4) c)/\Q (AEx.exit 3) (St.mk [(4,ref 1 0),(6,ref 3 0),(7,ref 4 0),(8,ref 5 0)] [u10,cells false 1 fun (x:Nat)=>ow true 2 n 1,u8,u7,cells false 1 (nth [ow true 10 (m+1) 1]),cells false 1 (nth [u4]),dead,cells false 1 fun (j:Nat)=>any,u5,cells false 1 (ap (fun (j:Nat)=>fz Fz.nil 0 0 fun _ _=>any) 0 1 fun (x:Nat)=>u6),cells false ((m+1)*1) (a9 1 m (fun (i j:Nat)=>fz Fz.auto 1 ((ac (L.getD (i*1+j) 0)).l.length) fun (i_1 x:Nat)=>af (ac (L.getD (i*1+j) 0)).l i_1) fun (i j:Nat)=>ap (fun (j:Nat)=>fz Fz.nil 0 0 fun _ _=>any) 0 1 (fun (x:Nat)=>u6) (0+i*1+j))] g))/\(u3=false->Q AEx.normal (St.mk [(4,ref 1 0),(6,ref 3 0),(7,ref 4 0),(8,ref 5 0),(10,u9),(46,AV.bool u3)] u1 g))) (Tables.follows Tryd.prog.toTables Departure.mixedOrders)) (cells false 2 (nth [int i64 p.atoms,ae p.rules]))) (int u64 (↑(au p a):Int))) (cells false (n*1) fun (a:Nat)=>int u64 (↑(hgP p a):Int))) (cells false 1 fun (x:Nat)=>fn 82 0 (nth []) 1 (nth [ref 1 0]))) (ow true 8 ((aj (au p a)).length) 1)) (cells false ((aj (au p a)).length*1) fun (j:Nat)=>int i64 (↑((aj (au p a)).getD j 0):Int))) (int u64 (IntKind.wrap u64 (↑(BitVec.toNat (BitVec.ofInt 64 (left:Int) &&& ~~~BitVec.ofInt 64 (↑(au p a):Int))):Int)))) (IntKind.wrap u64 (↑(BitVec.toNat (BitVec.ofInt 64 (IntKind.wrap u64 (↑(BitVec.toNat (BitVec.ofInt 64 (↑(hgP p a):Int)&&&BitVec.ofInt 64 (left:Int))):Int)) &&& ~~~BitVec.ofInt 64 (↑(au p a):Int))):Int)==0)) ([cells false 2 (nth [int i64 p.atoms,ae p.rules]),cells false 1 fun (x:Nat)=>ow true 2 n 1,cells false (n*1) fun (a:Nat)=>int u64 (↑(hgP p a):Int),cells false 1 fun (x:Nat)=>fn 82 0 (nth []) 1 (nth [ref 1 0]),cells false 1 fun (x:Nat)=>ow true 6 m 1,cells false 1 fun (x:Nat)=>int u64 (left:Int),cells false (m*1) fun (a:Nat)=>fz Fz.auto 1 ((ac (L.getD a 0)).l.length) fun (i x:Nat)=>af (ac (L.getD a 0)).l i,cells false 1 fun (x:Nat)=>int u64 (↑(au p a):Int)])) ([cells false 2 (nth [int i64 p.atoms,ae p.rules]),cells false 1 fun (x:Nat)=>ow true 2 n 1,cells false (n*1) fun (a:Nat)=>int u64 (↑(hgP p a):Int),cells false 1 fun (x:Nat)=>fn 82 0 (nth []) 1 (nth [ref 1 0]),cells false 1 fun (x:Nat)=>ow true 6 m 1,cells false 1 fun (x:Nat)=>int u64 (left:Int),cells false (m*1) fun (a:Nat)=>fz Fz.auto 1 ((ac (L.getD a 0)).l.length) fun (i x:Nat)=>af (ac (L.getD a 0)).l i])) (fun _=>by kernel_rfl) ⟨by omega,⟨rfl,(bc (T:=LT) inferInstance [1,2] 7 (fun R _ g=>hO R g) rfl rfl rfl (by exact⟨⟨rfl,Nat.le_refl _,fun j hj=>match j,hj with|0,_=>(Le.refl _) ⟩,⟨rfl,Nat.le_refl _,fun j hj=>(by first|exact aB (by first|exact trivial|apply fI)|exact Le.of_eq (fJ rfl).symm)⟩,trivial⟩) (by exact⟨by omega,by omega,trivial⟩) (by exact⟨aB (by exact trivial),Le.refl _,trivial⟩) (by exact aC (by exact trivial)) (by exact⟨LeO.rflc,⟨rfl,Nat.le_refl _,fun j hj=>match j,hj with|0,_=>(Le.refl _) ⟩,⟨rfl,Nat.le_refl _,fun j hj=>(by first|exact aC (by first|exact trivial|apply fI)|exact Le.of_eq (fJ rfl))⟩,LeO.rflc,LeO.rflc,LeO.rflc,LeO.rflc,trivial⟩))⟩,by kernel_rfl,by omega,by omega,by omega,by omega,fun c1=>have c1:IntKind.wrap u64 (↑(BitVec.toNat (BitVec.ofInt 64 (IntKind.wrap u64 (↑(BitVec.toNat (BitVec.ofInt 64 (↑(hgP p a):Int)&&&BitVec.ofInt 64 (left:Int))):Int)) &&& ~~~BitVec.ofInt 64 (↑(au p a):Int))):Int)=0:=(beq_iff_eq.mp c1);⟨by kernel_rfl,by omega,⟨rfl,(cS _ _ _ _)⟩,⟨rfl,(bc (T:=LT) inferInstance [7] 8 (fun R _ g=>ku R (au p a) (by simp at * <;> omega) g) rfl rfl rfl (by exact⟨⟨rfl,Nat.le_refl _,fun j hj=>match j,hj with|0,_=>(Le.refl _) ⟩,trivial⟩) (by exact⟨by omega,trivial⟩) (by exact⟨(Le.fn (fun i hi=>absurd hi (by omega)) (fun i hi=>match i,hi with|0,_=>(Le.refl _) )),trivial⟩) (by exact(Le.refl _)) (by exact⟨LeO.rflc,LeO.rflc,LeO.rflc,LeO.rflc,LeO.rflc,LeO.rflc,LeO.rflc,LeO.rflc,LeO.rflc,trivial⟩))⟩,by omega,by omega,by omega,by omega,by omega,by omega,(fun c hc=>match c,hc with|0,_=>(by kernel_rfl) ),by omega,by omega,(fun c hc=>match c,hc with|0,_=>(by kernel_rfl) ),?_⟩,fun c1=>have c1:¬IntKind.wrap u64 (↑(BitVec.toNat (BitVec.ofInt 64 (IntKind.wrap u64 (↑(BitVec.toNat (BitVec.ofInt 64 (↑(hgP p a):Int)&&&BitVec.ofInt 64 (left:Int))):Int)) &&& ~~~BitVec.ofInt 64 (↑(au p a):Int))):Int)=0:=(beq_eq_false_iff_ne.mp c1);?_⟩
       ·exfalso
        rename_i c0
        exact absurd (hcd.symm.trans c0) (by decide)
       ·refine(ft rfl (aV trivial rfl rfl))
      ·rw[hAK]
       have han:A<n:=by rw[<-hn];exact o4 A k4
       have hO:=fun (R:Res) [Tab LT R] (g:R.σ)=>kA R p n A hr (by omega) (by omega) (fun b hb=>by have:=kJ hr hx (a:=A) (by omega) (by omega) hb;omega) g
       have hcd:=(kI (p:=p) (a:=A) (fH hr (by omega)) o3).trans k2
       have hw24:=qC p A
       have hC:=fun (R:Res) [Tab LT R] (s:Nat) (hs:s<2^24) (g:R.σ)=>g9 R s hs g
       refine vcQ [] (lkL [(14,[4,6,7,8,9])]) (fun _=>[]) (fun Q=>Q AEx.normal (St.mk [(4,ref 1 0),(6,ref 3 0),(7,ref 4 0),(8,ref 5 0),(9,int i64 (A:Int))] [cells false 2 (nth [int i64 p.atoms,ae p.rules]),cells false 1 fun (x:Nat)=>ow true 2 n 1,cells false (n*1) fun (a:Nat)=>int u64 (↑(hgP p a):Int),cells false 1 fun (x:Nat)=>fn 82 0 (nth []) 1 (nth [ref 1 0]),cells false 1 fun (x:Nat)=>ow true 6 m 1,cells false 1 fun (x:Nat)=>int u64 (left:Int),cells false (m*1) fun (a:Nat)=>fz Fz.auto 1 ((ac (L.getD a 0)).l.length) fun (i x:Nat)=>af (ac (L.getD a 0)).l i,dead] g)) (fun _=>by kernel_rfl) (?_)
       show Wp _ _ _ 8 _ _ _ _ _
       refine vcQ [] (lkL [(15,[4,6,7,8,9,10]),(16,[4,6,7,8,10,46]),(17,[4,6,7,8,10]),(18,[4,6,7,8])]) (lkL [(15,[(2,ROrc.kcall (int u64 (↑(au p A):Int)))]),(17,[(2,ROrc.callN (fn 105 0 (nth []) 1 (nth [ref (List.length [cells false 2 (nth [int i64 p.atoms,ae p.rules]),cells false 1 fun (x:Nat)=>ow true 2 n 1,cells false (n*1) fun (a:Nat)=>int u64 (↑(hgP p a):Int),cells false 1 fun (x:Nat)=>fn 82 0 (nth []) 1 (nth [ref 1 0]),cells false 1 fun (x:Nat)=>ow true 6 m 1,cells false 1 fun (x:Nat)=>int u64 (left:Int),cells false (m*1) fun (a:Nat)=>fz Fz.auto 1 ((ac (L.getD a 0)).l.length) fun (i x:Nat)=>af (ac (L.getD a 0)).l i,dead]) 0])) [] [cells false 1 fun (x:Nat)=>int u64 (↑(au p A):Int)] g),(3,ROrc.callS (fz Fz.auto 1 ((ac (au p A)).l.length) fun (i x:Nat)=>af (ac (au p A)).l i) [(8,cells false 1 fun (j:Nat)=>any)] g),(5,ROrc.val (Orc.obj (aQ (L++[au p A])))),(6,ROrc.val (Orc.obj (nth [ow true 10 (m+1) 1])))]),(18,[(3,ROrc.val (Orc.obj (nth [int u64 (IntKind.wrap u64 (↑(BitVec.toNat (BitVec.ofInt 64 (left:Int) &&& ~~~BitVec.ofInt 64 (↑(au p A):Int))):Int))])))])]) (fun Q=>(fun (u1:List AObj)=>(fun (u2:List AObj)=>(fun (u3:Bool)=>(fun (u4:AV)=>(fun (u5:AV)=>(fun (u6:AObj)=>(fun (u7:AObj)=>(fun (u8:AV)=>(fun (u9:AObj)=>1<=1/\(true=true/\Does Tryd.prog R 82 [int i64 (A:Int),ref 1 0] u1 g (ret u8) u1 g)/\Tables.follows Tryd.prog.toTables Departure.mixedOrders=true/\1<=1/\(0<=(A:Int)/\(A:Int)<(n:Int))/\A+1<=n*1/\1<=1/\(u3=true->Tables.follows Tryd.prog.toTables Departure.mixedOrders=true/\1<=1/\(true=true/\Does Tryd.prog R 77 [u8] u1 g (ret (fn 105 0 (nth []) 1 (nth [ref 8 0]))) u2 g)/\(true=true/\Does Tryd.prog R 75 [fn 105 0 (nth []) 1 (nth [ref 8 0])] u2 g (ret u5) [u9,cells false 1 fun (x:Nat)=>ow true 2 n 1,u7,u6,cells false 1 fun (x:Nat)=>ow true 6 m 1,cells false 1 fun (x:Nat)=>int u64 (left:Int),cells false (m*1) fun (a:Nat)=>fz Fz.auto 1 ((ac (L.getD a 0)).l.length) fun (i x:Nat)=>af (ac (L.getD a 0)).l i,dead,cells false 1 fun (j:Nat)=>any] g)/\0<1/\(m+1)*24<=aN/\m+1<=aN/\1<=1/\m*1<=m*1/\(∀(c:Nat),c<(m+1)*1->(fz Fz.auto 1 ((ac ((L++[au p A]).getD c 0)).l.length) fun (i x:Nat)=>af (ac ((L++[au p A]).getD c 0)).l i)=a9 1 m (fun (i j:Nat)=>fz Fz.auto 1 ((ac (L.getD (i*1+j) 0)).l.length) fun (i_1 x:Nat)=>af (ac (L.getD (i*1+j) 0)).l i_1) (fun (i j:Nat)=>ap (fun (j:Nat)=>fz Fz.nil 0 0 fun _ _=>any) 0 1 (fun (x:Nat)=>u5) (0+i*1+j)) c)/\1<=1/\(∀(c:Nat),c<1->nth [ow true 10 (m+1) 1] c=ap (fun (x:Nat)=>ow true 6 m 1) 0 1 (fun (x:Nat)=>ow true 10 (m+1) 1) c)/\1<=1/\1<=1/\(∀(c:Nat),c<1->nth [u4] c=ap (fun (x:Nat)=>int u64 (left:Int)) 0 1 (fun (x:Nat)=>u4) c)/\Q (AEx.exit 3) (St.mk [(4,ref 1 0),(6,ref 3 0),(7,ref 4 0),(8,ref 5 0)] [u9,cells false 1 fun (x:Nat)=>ow true 2 n 1,u7,u6,cells false 1 (nth [ow true 10 (m+1) 1]),cells false 1 (nth [u4]),dead,dead,cells false 1 fun (j:Nat)=>any,cells false 1 (ap (fun (j:Nat)=>fz Fz.nil 0 0 fun _ _=>any) 0 1 fun (x:Nat)=>u5),cells false ((m+1)*1) fun (a:Nat)=>fz Fz.auto 1 ((ac ((L++[au p A]).getD a 0)).l.length) fun (i x:Nat)=>af (ac ((L++[au p A]).getD a 0)).l i] g))/\(u3=false->Q AEx.normal (St.mk [(4,ref 1 0),(6,ref 3 0),(7,ref 4 0),(8,ref 5 0),(10,u8),(46,AV.bool u3)] u1 g))) (cells false 2 (nth [int i64 p.atoms,ae p.rules]))) (int u64 (↑(au p A):Int))) (cells false (n*1) fun (a:Nat)=>int u64 (↑(hgP p a):Int))) (cells false 1 fun (x:Nat)=>fn 82 0 (nth []) 1 (nth [ref 1 0]))) (fz Fz.auto 1 ((ac (au p A)).l.length) fun (i x:Nat)=>af (ac (au p A)).l i)) (int u64 (IntKind.wrap u64 (↑(BitVec.toNat (BitVec.ofInt 64 (left:Int) &&& ~~~BitVec.ofInt 64 (↑(au p A):Int))):Int)))) (IntKind.wrap u64 (↑(BitVec.toNat (BitVec.ofInt 64 (IntKind.wrap u64 (↑(BitVec.toNat (BitVec.ofInt 64 (↑(hgP p A):Int)&&&BitVec.ofInt 64 (left:Int))):Int)) &&& ~~~BitVec.ofInt 64 (↑(au p A):Int))):Int)==0)) ([cells false 2 (nth [int i64 p.atoms,ae p.rules]),cells false 1 fun (x:Nat)=>ow true 2 n 1,cells false (n*1) fun (a:Nat)=>int u64 (↑(hgP p a):Int),cells false 1 fun (x:Nat)=>fn 82 0 (nth []) 1 (nth [ref 1 0]),cells false 1 fun (x:Nat)=>ow true 6 m 1,cells false 1 fun (x:Nat)=>int u64 (left:Int),cells false (m*1) fun (a:Nat)=>fz Fz.auto 1 ((ac (L.getD a 0)).l.length) fun (i x:Nat)=>af (ac (L.getD a 0)).l i,dead,cells false 1 fun (x:Nat)=>int u64 (↑(au p A):Int)])) ([cells false 2 (nth [int i64 p.atoms,ae p.rules]),cells false 1 fun (x:Nat)=>ow true 2 n 1,cells false (n*1) fun (a:Nat)=>int u64 (↑(hgP p a):Int),cells false 1 fun (x:Nat)=>fn 82 0 (nth []) 1 (nth [ref 1 0]),cells false 1 fun (x:Nat)=>ow true 6 m 1,cells false 1 fun (x:Nat)=>int u64 (left:Int),cells false (m*1) fun (a:Nat)=>fz Fz.auto 1 ((ac (L.getD a 0)).l.length) fun (i x:Nat)=>af (ac (L.getD a 0)).l i,dead])) (fun _=>by kernel_rfl) ⟨by omega,⟨rfl,(bc (T:=LT) inferInstance [1,2] 8 (fun R _ g=>hO R g) rfl rfl rfl (by exact⟨⟨rfl,Nat.le_refl _,fun j hj=>match j,hj with|0,_=>(Le.refl _) ⟩,⟨rfl,Nat.le_refl _,fun j hj=>(by first|exact aB (by first|exact trivial|apply fI)|exact Le.of_eq (fJ rfl).symm)⟩,trivial⟩) (by exact⟨by omega,by omega,trivial⟩) (by exact⟨aB (by exact trivial),Le.refl _,trivial⟩) (by exact aC (by exact trivial)) (by exact⟨LeO.rflc,⟨rfl,Nat.le_refl _,fun j hj=>match j,hj with|0,_=>(Le.refl _) ⟩,⟨rfl,Nat.le_refl _,fun j hj=>(by first|exact aC (by first|exact trivial|apply fI)|exact Le.of_eq (fJ rfl))⟩,LeO.rflc,LeO.rflc,LeO.rflc,LeO.rflc,trivial,trivial⟩))⟩,by kernel_rfl,by omega,by omega,by omega,by omega,fun c1=>have c1:IntKind.wrap u64 (↑(BitVec.toNat (BitVec.ofInt 64 (IntKind.wrap u64 (↑(BitVec.toNat (BitVec.ofInt 64 (↑(hgP p A):Int)&&&BitVec.ofInt 64 (left:Int))):Int)) &&& ~~~BitVec.ofInt 64 (↑(au p A):Int))):Int)=0:=(beq_iff_eq.mp c1);⟨by kernel_rfl,by omega,⟨rfl,(cS _ _ _ _)⟩,⟨rfl,(bc (T:=LT) inferInstance [8] 9 (fun R _ g=>hC R (au p A) (by omega) g) rfl rfl rfl (by exact⟨⟨rfl,Nat.le_refl _,fun j hj=>match j,hj with|0,_=>(Le.refl _) ⟩,trivial⟩) (by exact⟨by omega,trivial⟩) (by exact⟨(Le.fn (fun i hi=>absurd hi (by omega)) (fun i hi=>match i,hi with|0,_=>(Le.refl _) )),trivial⟩) (by exact aC (by exact trivial)) (by exact⟨LeO.rflc,LeO.rflc,LeO.rflc,LeO.rflc,LeO.rflc,LeO.rflc,LeO.rflc,trivial,LeO.rflc,trivial⟩))⟩,by omega,by omega,by omega,by omega,by omega,?_,by omega,(fun c hc=>match c,hc with|0,_=>(by kernel_rfl) ),by omega,by omega,(fun c hc=>match c,hc with|0,_=>(by kernel_rfl) ),?_⟩,fun c1=>have c1:¬IntKind.wrap u64 (↑(BitVec.toNat (BitVec.ofInt 64 (IntKind.wrap u64 (↑(BitVec.toNat (BitVec.ofInt 64 (↑(hgP p A):Int)&&&BitVec.ofInt 64 (left:Int))):Int)) &&& ~~~BitVec.ofInt 64 (↑(au p A):Int))):Int)=0:=(beq_eq_false_iff_ne.mp c1);?_⟩
       ·exact fun c hc=>(kK (L:=L) (m:=m) (z:=fun _=>.fz .nil 0 0 (fun _ _=>.any)) (old:=fun i j=>aQ L (i*1+j)) (by assumption) (fun i hi=>by show aQ L (i*1+0)=aQ L i;rw[show i*1+0=i by omega]) hc).trans (by kernel_rfl)
       ·show Cl R 0 (fg _ _) AEx.normal _
        refine(aX (m+1,L++[au p A],ca left (au p A)) (bo [0,1,2,3,4,5,10] 11 rfl rfl rfl rfl rfl ⟨Le.refl _,Le.refl _,Le.refl _,Le.refl _,trivial⟩ ⟨⟨rfl,Nat.le_refl _,fun j hj=>match j,hj with|0,_=>(Le.refl _)|1,_=>(Le.refl _) ⟩,⟨rfl,Nat.le_refl _,fun j hj=>match j,hj with|0,_=>(Le.refl _) ⟩,?_,⟨rfl,Nat.le_refl _,fun j hj=>match j,hj with|0,_=>(Le.fn (fun i hi=>absurd hi (by omega)) (fun i hi=>match i,hi with|0,_=>(Le.refl _) )) ⟩,⟨rfl,Nat.le_refl _,fun j hj=>match j,hj with|0,_=>(Le.refl _) ⟩,⟨rfl,Nat.le_refl _,fun j hj=>match j,hj with|0,_=>(Le.of_eq ?_) ⟩,?_,trivial⟩) ?_ ?_)
        ·exact⟨rfl,Nat.le_refl _,fun j _=>Le.of_eq rfl⟩
        ·show AV.int .u64 _=AV.int .u64 _
         rw[ne o3]
        ·exact⟨rfl,Nat.le_refl _,fun j _=>Le.of_eq rfl⟩
        ·exact hnx.1
        ·exact hnx.2
       ·exfalso
        rename_i c0
        exact absurd (hcd.symm.trans c0) (by decide)
      ·exact absurd k1 (by omega)
    ·have hl0:left=0:=by omega
     subst hl0
     have hLo:L=bP p:=by
      obtain⟨f,f1,f2⟩:=o5
      obtain⟨f,rfl⟩:∃k,f=k+1:=⟨f-1,by omega⟩
      rw[<-f2]
      show L=L++(if (0:Nat)=0 then[] else _)
      rw[if_pos rfl,List.append_nil]
     subst hLo
     subst o1
     refine⟨_,To.refl _,vcQ [] (lkL [(19,[2,3])]) (fun _=>[]) (fun Q=>1<=1/\Q AEx.ret (St.mk [(2,ow true 6 ((bP p).length) 1),(3,int i64 0)] [cells false 2 (nth [int i64 p.atoms,ae p.rules]),cells false 1 fun (x:Nat)=>ow true 2 n 1,cells false (n*1) fun (a:Nat)=>int u64 (↑(hgP p a):Int),cells false 1 fun (x:Nat)=>fn 82 0 (nth []) 1 (nth [ref 1 0]),cells false 1 fun (x:Nat)=>ow true 6 ((bP p).length) 1,cells false 1 fun (x:Nat)=>int u64 (↑0:Int),cells false ((bP p).length*1) fun (a:Nat)=>fz Fz.auto 1 ((ac ((bP p).getD a 0)).l.length) fun (i x:Nat)=>af (ac ((bP p).getD a 0)).l i] g)) (fun _=>by kernel_rfl) ⟨by omega,?_⟩⟩
     show bz Tryd.prog R 0 _ _ _ _ .ret _
     refine eU (.tup 2 (nth [.ow true 6 (bP p).length 1,.int .i64 0])) _ rfl trivial (iR 0 [(0,.tup 2 (nth [cw (bP p).length (fun i=>ac ((bP p).getD i 0)),.int .i64 0]))] (Nat.le_refl _) (Nat.zero_le _) (fun i hi=>absurd hi (Nat.not_lt_zero i)) ⟨aE.tup (fun j hj=>?_),trivial⟩)
     match j,hj with
     |0,_=>exact aE.le (aE.ow (o:=6) (N:=(bP p).length*1) (c:=aQ (bP p)) (get:=aQ (bP p)) (fr:=false) rfl (Nat.zero_le _) (Nat.le_refl _) (by decide) (fun j _=>aE.below (gn _ _))) (Le.fz rfl (fun i j hi hj=>by
       show aQ (bP p) (i*1+j)=_
       rw[show i*1+j=i by omega]
       rfl))
     |1,_=>exact aE.below trivial
end Go.Avm.Pack
namespace Go.Avm.Pack
open Go Go.Avm Go.Proofs
open Go.IntKind (i64 u64)
open Go.Avm.AV (int bool any fz fp sl ow ref fn ifc val agg tup)
open Go.Avm.AObj (cells dead)
open Go.Avm.Oc (ret)
set_option maxRecDepth 4000
theorem kL (R:Res)(v:Nat->Int)(n:Int)(x:Int)(h:0<=n/\n<=24)(g:R.σ):Does Tryd.prog R 76 [.ref 0 2,.int .i64 n,.int .i64 x] [.cells false 27 (aM v)] g (.ret (.int .u64 (aF v x n.toNat))) [.cells false 27 (aM v)] g:=by
 obtain⟨n,rfl⟩:∃m:Nat,n=m:=⟨n.toNat,by omega⟩
 rw[Int.toNat_natCast]
 refine ax (nt:=26) (rs:=[.tmp 6]) (k0:=1) (by kernel_rfl) (by kernel_rfl) (by kernel_rfl) rfl ?_
 refine vcQ [] (lkL [(0,[0,1,2]),(1,[0,1,2,7]),(2,[0,2,7,9,10])]) (fun _=>[]) (fun Q=>Wp Tryd.prog R 26 1 Rd.top (ah Tryd.prog 76) [1,1,0,1,0] (aq Tryd.prog R 26 1 Rd.top (ah Tryd.prog 76) Q [Kont.blk 0,Kont.seq [1,1,1]]) (St.mk [(0,ref 0 2),(2,int i64 x),(7,int u64 0),(9,int i64 (n:Int)),(10,int i64 0)] [cells false 27 (aM v)] g)) (fun _=>by kernel_rfl) (?_)
 refine(bb (by kernel_rfl) (fun (k:Nat)=>⟨[(0,ref 0 2),(2,int i64 x),(7,.int .u64 (aF v x k)),(9,int i64 (n:Int)),(10,.int .i64 k)],[cells false 27 (aM v)],g⟩) (fun (k:Nat)=>(k<=n)) (fun (k:Nat)=>(n-k)) 0 (aV ⟨Le.refl _,Le.refl _,(Le.of_eq (by kernel_rfl)),Le.refl _,(Le.of_eq (by kernel_rfl)),trivial⟩ rfl rfl) ?_ (fun k hi=>?_))
 ·omega
 ·refine vcQ [] (lkL [(3,[0,2,7,9,10,11]),(4,[0,2,7,8,9,10]),(5,[0,2,7,8,9,10,19]),(6,[0,2,7,9,10]),(7,[0,2,7,9,10])]) (lkL [(5,[(4,ROrc.kop (int i64 (v k)))]),(6,[(2,ROrc.pcall (int u64 (↑(2^k):Int)))])]) (fun Q=>(fun (u1:Int)=>(fun (u2:Int)=>(fun (u3:List AObj)=>(fun (u4:Int)=>(decide (u1<u2)=true->(0<=u1/\u1<(↑24:Int))/\OpOk Tryd.prog R (Oper.mk (some 17) (Op.load 43 (Operand.tmp 16)) 43 "table.go:67" #[Edge.mk 3 Ground.data] none) (evO [Row.mk (some 16) none (ref 0 (k+2)) false (some []) [],Row.mk (some 15) none (ref 0 2) false (some []) [],Row.mk (some 14) none (int i64 u1) false (some []) [],Row.mk (some 13) none (ref 0 2) false (some []) []] [(0,ref 0 2),(2,int i64 x),(7,int u64 u4),(8,int i64 u1),(9,int i64 u2),(10,int i64 u1)] []) u3 g (int i64 (v k)) u3 g/\((v k==x)=true->(∀(hp:List AObj) (g:R.σ),true=true/\Does Tryd.prog R 79 [int i64 u1] hp g (ret (int u64 (↑(2^k):Int))) hp g)/\(-9223372036854775808<=u1+1/\u1+1<=9223372036854775807)/\Q AEx.normal (St.mk [(0,ref 0 2),(2,int i64 x),(7,int u64 (IntKind.wrap u64 (↑(BitVec.toNat (BitVec.ofInt 64 u4|||BitVec.ofInt 64 (↑(2^k):Int))):Int))),(9,int i64 u2),(10,int i64 (u1+1))] u3 g))/\((v k==x)=false->(-9223372036854775808<=u1+1/\u1+1<=9223372036854775807)/\Q AEx.normal (St.mk [(0,ref 0 2),(2,int i64 x),(7,int u64 u4),(9,int i64 u2),(10,int i64 (u1+1))] u3 g)))/\(decide (u1<u2)=false->Q (AEx.exit 0) (St.mk [(0,ref 0 2),(2,int i64 x),(7,int u64 u4),(9,int i64 u2),(10,int i64 u1),(11,AV.bool (decide (u1<u2)))] u3 g))) ((↑(aF v x k):Int))) ([cells false 27 (aM v)])) ((n:Int))) ((k:Int))) (fun _=>by kernel_rfl) ⟨fun c1=>have c1:(k:Int)<(n:Int):=(of_decide_eq_true c1);⟨by omega,?_,fun c2=>have c2:v k=x:=(beq_iff_eq.mp c2);⟨(fun _ _=>⟨rfl,(ga _ _ (by omega) _ _)⟩),by omega,?_⟩,fun c2=>have c2:¬v k=x:=(beq_eq_false_iff_ne.mp c2);⟨by omega,?_⟩⟩,fun c1=>have c1:¬(k:Int)<(n:Int):=(of_decide_eq_false c1);?_⟩
  ·exact eV rfl rfl (by kernel_rfl) rfl (by show _+1<=27;omega) (m4 (by omega) (by omega))
  ·refine(aX (k+1) (aV ⟨Le.refl _,Le.refl _,(Le.of_eq ?_),Le.refl _,(Le.of_eq (by kernel_rfl)),trivial⟩ rfl rfl) ?_ ?_)
   ·show AV.int .u64 _=AV.int .u64 _
    congr 1
    rw[g4,if_pos c2]
    exact Tb.u64_or (bN (Nat.lt_of_lt_of_le (kh v x k) (Nat.pow_le_pow_right (by decide) (by omega)))) (bN (Nat.pow_lt_pow_right (by decide) (by omega)))
   ·omega
   ·omega
  ·refine(aX (k+1) (aV ⟨Le.refl _,Le.refl _,(Le.of_eq ?_),Le.refl _,(Le.of_eq (by kernel_rfl)),trivial⟩ rfl rfl) ?_ ?_)
   ·show AV.int .u64 _=AV.int .u64 _
    rw[g4,if_neg c2]
   ·omega
   ·omega
  ·have hk:k=n:=by omega
   subst hk
   refine⟨_,To.refl _,vcQ [] (lkL [(8,[6])]) (fun _=>[]) (fun Q=>Q AEx.ret (St.mk [(6,int u64 (↑(aF v x k):Int))] [cells false 27 (aM v)] g)) (fun _=>by kernel_rfl) (?_)⟩
   refine(av (aS _ _ rfl trivial rfl rfl rfl) (Le.refl _))
def stF (p:Prg)(most:Nat):List Int->Nat->List Nat->List Nat
 |[],s,out=>if out.length=most then out else if fol p.rules.l s=s then out++[s] else out
 |a::r,s,out=>if out.length=most then out else stF p most r (s|||2^a.toNat) (stF p most r s out)
theorem ef {p:Prg}{most:Nat}:∀{r:List Int} {s:Nat} {out:List Nat},out.length<=most->out.length<=(stF p most r s out).length/\(stF p most r s out).length<=most/\((stF p most r s out).length=out.length->stF p most r s out=out)
 |[],s,out,h=>by
  show out.length<=(if out.length=most then out else if fol p.rules.l s=s then out++[s] else out).length/\_
  show _/\(if out.length=most then out else if fol p.rules.l s=s then out++[s] else out).length<=most/\((if out.length=most then out else if fol p.rules.l s=s then out++[s] else out).length=out.length->(if out.length=most then out else if fol p.rules.l s=s then out++[s] else out)=out)
  split
  ·exact⟨Nat.le_refl _,h,fun _=>rfl⟩
  ·split
   ·rw[List.length_append,List.length_singleton]
    exact⟨by omega,by omega,fun h=>by omega⟩
   ·exact⟨Nat.le_refl _,h,fun _=>rfl⟩
 |a::r,s,out,h=>by
  obtain⟨a1,a2,a3⟩:=ef (p:=p) (most:=most) (r:=r) (s:=s) (out:=out) h
  obtain⟨b1,b2,b3⟩:=ef (p:=p) (most:=most) (r:=r) (s:=s|||2^a.toNat) (out:=stF p most r s out) a2
  show out.length<=(if out.length=most then out else stF p most r (s|||2^a.toNat) (stF p most r s out)).length/\(if out.length=most then out else stF p most r (s|||2^a.toNat) (stF p most r s out)).length<=most/\((if out.length=most then out else stF p most r (s|||2^a.toNat) (stF p most r s out)).length=out.length->(if out.length=most then out else stF p most r (s|||2^a.toNat) (stF p most r s out))=out)
  split
  ·exact⟨Nat.le_refl _,h,fun _=>rfl⟩
  ·exact⟨by omega,b2,fun h=>by
    have h1:=a3 (by omega)
    rw[h1] at b3 b1 h ⊢
    exact b3 h⟩
theorem xa {p:Prg}{most:Nat}{r:List Int}{s:Nat}{out:List Nat}(h:out.length<=most)(h0:out≠[]):stF p most r s out≠[]:=fun e=>by
 have:=(ef (p:=p) (r:=r) (s:=s) h).1
 rw[e] at this
 exact h0 (List.length_eq_zero_iff.1 (Nat.le_zero.1 this))
structure FromC (p:Prg)(most:Nat)(O:KL Int)(r:List Int)(k:Int):Prop where
 nn:∀(R:Res) [Tab LT R] (s:Nat) (g:R.σ),s<2^24->stF p most r s []=[]->Does Tryd.prog R 78 [.int .i64 k,.int .u64 s,.ref 0 0,.ref 1 0,.ref 2 0,.ref 3 0,.ref 4 0] [.cells false 1 (fun _=>.fz .nil 0 0 (fun _ _=>.any)),.cells false 1 (fun _=>.int .i64 most),.cells false 1 (fun _=>ak O),.cells false 1 (fun _=>.fn 78 0 (nth []) 5 (nth [.ref 0 0,.ref 1 0,.ref 2 0,.ref 3 0,.ref 4 0])),.cells false 2 (nth [.int .i64 p.atoms,ae p.rules])] g (.ret (.tup 0 (nth []))) [.cells false 1 (fun _=>.fz .nil 0 0 (fun _ _=>.any)),.cells false 1 (fun _=>.int .i64 most),.cells false 1 (fun _=>ak O),.cells false 1 (fun _=>.fn 78 0 (nth []) 5 (nth [.ref 0 0,.ref 1 0,.ref 2 0,.ref 3 0,.ref 4 0])),.cells false 2 (nth [.int .i64 p.atoms,ae p.rules])] g
 nw:∀(R:Res) [Tab LT R] (s m:Nat) (L:List Nat) (g:R.σ),s<2^24->stF p most r s []=L->L≠[]->m=L.length->Does Tryd.prog R 78 [.int .i64 k,.int .u64 s,.ref 0 0,.ref 1 0,.ref 2 0,.ref 3 0,.ref 4 0] [.cells false 1 (fun _=>.fz .nil 0 0 (fun _ _=>.any)),.cells false 1 (fun _=>.int .i64 most),.cells false 1 (fun _=>ak O),.cells false 1 (fun _=>.fn 78 0 (nth []) 5 (nth [.ref 0 0,.ref 1 0,.ref 2 0,.ref 3 0,.ref 4 0])),.cells false 2 (nth [.int .i64 p.atoms,ae p.rules])] g (.ret (.tup 0 (nth []))) [.cells false 1 (fun _=>.ow true 5 m 1),.cells false 1 (fun _=>.int .i64 most),.cells false 1 (fun _=>ak O),.cells false 1 (fun _=>.fn 78 0 (nth []) 5 (nth [.ref 0 0,.ref 1 0,.ref 2 0,.ref 3 0,.ref 4 0])),.cells false 2 (nth [.int .i64 p.atoms,ae p.rules]),.cells false (m*1) (aQ L)] g
 on:∀(R:Res) [Tab LT R] (s m:Nat) (L:List Nat) (g:R.σ),s<2^24->L≠[]->m=L.length->m<=most->stF p most r s L=L->Does Tryd.prog R 78 [.int .i64 k,.int .u64 s,.ref 0 0,.ref 1 0,.ref 2 0,.ref 3 0,.ref 4 0] [.cells false 1 (fun _=>.ow true 5 m 1),.cells false 1 (fun _=>.int .i64 most),.cells false 1 (fun _=>ak O),.cells false 1 (fun _=>.fn 78 0 (nth []) 5 (nth [.ref 0 0,.ref 1 0,.ref 2 0,.ref 3 0,.ref 4 0])),.cells false 2 (nth [.int .i64 p.atoms,ae p.rules]),.cells false (m*1) (aQ L)] g (.ret (.tup 0 (nth []))) [.cells false 1 (fun _=>.ow true 5 m 1),.cells false 1 (fun _=>.int .i64 most),.cells false 1 (fun _=>ak O),.cells false 1 (fun _=>.fn 78 0 (nth []) 5 (nth [.ref 0 0,.ref 1 0,.ref 2 0,.ref 3 0,.ref 4 0])),.cells false 2 (nth [.int .i64 p.atoms,ae p.rules]),.cells false (m*1) (aQ L)] g
 ow:∀(R:Res) [Tab LT R] (s m m':Nat) (L L':List Nat) (g:R.σ),s<2^24->L≠[]->m=L.length->m<=most->stF p most r s L=L'->m'=L'.length->m≠m'->Does Tryd.prog R 78 [.int .i64 k,.int .u64 s,.ref 0 0,.ref 1 0,.ref 2 0,.ref 3 0,.ref 4 0] [.cells false 1 (fun _=>.ow true 5 m 1),.cells false 1 (fun _=>.int .i64 most),.cells false 1 (fun _=>ak O),.cells false 1 (fun _=>.fn 78 0 (nth []) 5 (nth [.ref 0 0,.ref 1 0,.ref 2 0,.ref 3 0,.ref 4 0])),.cells false 2 (nth [.int .i64 p.atoms,ae p.rules]),.cells false (m*1) (aQ L)] g (.ret (.tup 0 (nth []))) [.cells false 1 (fun _=>.ow true 6 m' 1),.cells false 1 (fun _=>.int .i64 most),.cells false 1 (fun _=>ak O),.cells false 1 (fun _=>.fn 78 0 (nth []) 5 (nth [.ref 0 0,.ref 1 0,.ref 2 0,.ref 3 0,.ref 4 0])),.cells false 2 (nth [.int .i64 p.atoms,ae p.rules]),.dead,.cells false (m'*1) (aQ L')] g
theorem kM {P:Program}{R:Res}{k0:Nat}{rs:List ResultVar}{x:AV}{hp':List AObj}{g':R.σ}{s:St R.σ}(v:AV)(ob:List Prop)(h:dH (ay P) s rs=some (v,ob))(hob:ar ob)(ht:To R k0 ⟨[(0,v)],s.hp,s.g⟩ ⟨[(0,x)],hp',g'⟩):bz P R k0 rs (.ret x) hp' g' .normal s:=
 ⟨v,ob,x,_,h,hob,rfl,ht,rfl,rfl,rfl⟩
theorem kN {f:Nat->Nat}{g:FuncId}(h0:f 0=0:=by rfl)(h1:f 1=1:=by rfl)(h2:f 2=2:=by rfl)(h3:f 3=3:=by rfl)(h4:f 4=4:=by rfl):Le (.fn g 0 (nth []) 5 (nth [.ref 0 0,.ref 1 0,.ref 2 0,.ref 3 0,.ref 4 0])) (aU f (.fn g 0 (nth []) 5 (nth [.ref 0 0,.ref 1 0,.ref 2 0,.ref 3 0,.ref 4 0]))):=
 Le.fn (fun i hi=>absurd hi (Nat.not_lt_zero i)) (fun i hi=>match i,hi with
  |0,_=>Le.of_eq (by show AV.ref 0 0=.ref (f 0) 0;rw[h0])
  |1,_=>Le.of_eq (by show AV.ref 1 0=.ref (f 1) 0;rw[h1])
  |2,_=>Le.of_eq (by show AV.ref 2 0=.ref (f 2) 0;rw[h2])
  |3,_=>Le.of_eq (by show AV.ref 3 0=.ref (f 3) 0;rw[h3])
  |4,_=>Le.of_eq (by show AV.ref 4 0=.ref (f 4) 0;rw[h4]))
theorem xb {p:Prg}{most:Nat}{O:KL Int}(hm:1<=most/\most<=100)(hO:O.l.length<=10)(hl:p.rules.l.length<1000000)(hr:∀r,r∈p.rules.l->aP r):FromC p most O [] O.l.length:=by
 have hroom:aN=140737488355328:=rfl
 have hb:decide ((O.l.length:Int)<(O.l.length:Int))=false:=decide_eq_false (by omega)
 have hz:(((0:Nat):Int)==(most:Int))=false:=by rw[beq_eq_false_iff_ne];omega
 have e0:∀s L,stF p most [] s L=if L.length=most then L else if fol p.rules.l s=s then L++[s] else L:=fun s L=>rfl
 have hC:=fun (R:Res) [Tab LT R] (s:Nat) (hs:s<2^24) (g:R.σ)=>g9 R s hs g
 constructor
 ·intro R _ s g hs h
  rw[e0,if_neg (by show ¬0=most;omega)] at h
  have hf:((fol p.rules.l s:Int)==(s:Int))=false:=by
   rw[beq_eq_false_iff_ne]
   intro e
   rw[if_pos (by omega)] at h
   cases h
  refine ax (nt:=47) (rs:=[]) (k0:=5) (by kernel_rfl) (by kernel_rfl) (by kernel_rfl) rfl ?_
  refine vcQ [[0,1,0],[0,1,1,1,0],[0,1,1,1,1,1,0]] (lkL [(0,[0,1,2,4,5,6,9]),(1,[0,1,2,4,5,6,14]),(4,[1,2,35])]) (lkL [(4,[(2,ROrc.pcall (int u64 (↑(fol p.rules.l s):Int)))])]) (fun Q=>(fun (u1:List AObj)=>(fun (u2:Int)=>(fun (u3:Bool)=>(fun (u4:AEx->St R.σ->Prop)=>(fun (u5:AV)=>(fun (u6:Bool)=>1<=1/\1<=1/\(u6=true->Wp Tryd.prog R 47 5 Rd.top (ah Tryd.prog 78) [0,1,0] u4 (St.mk [(0,int i64 u2),(1,u5),(2,ref 0 0),(4,ref 2 0),(5,ref 3 0),(6,ref 4 0),(9,AV.bool u6)] u1 g))/\(u6=false->1<=1/\(decide (u2<u2)=true->Wp Tryd.prog R 47 5 Rd.top (ah Tryd.prog 78) [0,1,1,1,0] u4 (St.mk [(0,int i64 u2),(1,u5),(2,ref 0 0),(4,ref 2 0),(5,ref 3 0),(6,ref 4 0),(14,AV.bool (decide (u2<u2)))] u1 g))/\(decide (u2<u2)=false->2<=2/\(∀(hp:List AObj) (g:R.σ),true=true/\Does Tryd.prog R 80 [aA p,u5] hp g (ret (int u64 (↑(fol p.rules.l s):Int))) hp g)/\(u3=true->Wp Tryd.prog R 47 5 Rd.top (ah Tryd.prog 78) [0,1,1,1,1,1,0] u4 (St.mk [(1,u5),(2,ref 0 0),(35,AV.bool u3)] u1 g))/\(u3=false->Q AEx.normal (St.mk [(1,u5),(2,ref 0 0),(35,AV.bool u3)] u1 g))))) ((↑0:Int)==(most:Int))) (int u64 (s:Int))) (aq Tryd.prog R 47 5 Rd.top (ah Tryd.prog 78) Q [Kont.blk 0])) ((↑(fol p.rules.l s):Int)==(s:Int))) ((O.l.length:Int))) ([cells false 1 fun (x:Nat)=>fz Fz.nil 0 0 fun _ _=>any,cells false 1 fun (x:Nat)=>int i64 (most:Int),cells false 1 fun (x:Nat)=>fz O.2 1 (O.l.length) fun (i x:Nat)=>af O.l i,cells false 1 fun (x:Nat)=>fn 78 0 (nth []) 5 (nth [ref 0 0,ref 1 0,ref 2 0,ref 3 0,ref 4 0]),cells false 2 (nth [int i64 p.atoms,ae p.rules])])) (fun _=>by kernel_rfl) ⟨by omega,by omega,fun hcc=>(nomatch (hz.symm.trans hcc)),fun _=>⟨by omega,fun hcc=>(nomatch (hb.symm.trans hcc)),fun _=>⟨by omega,(fun _ _=>⟨rfl,(ki _ _ _ _ (by omega) (by omega) (by omega) _)⟩),fun hcc=>(nomatch (hf.symm.trans hcc)),fun _=>?_⟩⟩⟩
  refine(av (aS _ _ rfl trivial rfl rfl rfl) (Le.refl _))
 ·intro R _ s m L g hs h hL hmL
  rw[e0,if_neg (by show ¬0=most;omega)] at h
  have hf:((fol p.rules.l s:Int)==(s:Int))=true:=by
   rw[beq_iff_eq]
   by_cases e:fol p.rules.l s=s
   ·omega
   ·rw[if_neg e] at h
    exact absurd h.symm hL
  rw[if_pos (by rw[beq_iff_eq] at hf;omega)] at h
  subst h
  subst hmL
  refine ax (nt:=47) (rs:=[]) (k0:=5) (by kernel_rfl) (by kernel_rfl) (by kernel_rfl) rfl ?_
  refine vcQ [[0,1,0],[0,1,1,1,0],[0,1,1,1,1,1,1]] (lkL [(0,[0,1,2,4,5,6,9]),(1,[0,1,2,4,5,6,14]),(4,[1,2,35])]) (lkL [(4,[(2,ROrc.pcall (int u64 (↑(fol p.rules.l s):Int)))]),(5,[(2,ROrc.callN (fn 105 0 (nth []) 1 (nth [ref (List.length [cells false 1 fun (x:Nat)=>fz Fz.nil 0 0 fun _ _=>any,cells false 1 fun (x:Nat)=>int i64 (most:Int),cells false 1 fun (x:Nat)=>fz O.2 1 (O.l.length) fun (i x:Nat)=>af O.l i,cells false 1 fun (x:Nat)=>fn 78 0 (nth []) 5 (nth [ref 0 0,ref 1 0,ref 2 0,ref 3 0,ref 4 0]),cells false 2 (nth [int i64 p.atoms,ae p.rules])]) 0])) [] [cells false 1 fun (x:Nat)=>int u64 (s:Int)] g),(3,ROrc.callS (fz Fz.auto 1 ((ac s).l.length) fun (i x:Nat)=>af (ac s).l i) [(5,cells false 1 fun (j:Nat)=>any)] g),(5,ROrc.val (Orc.obj (aQ ([]++[s])))),(6,ROrc.val (Orc.obj (nth [ow true 7 1 1])))])]) (fun Q=>(fun (u1:List AObj)=>(fun (u2:List AObj)=>(fun (u3:Int)=>(fun (u4:AV)=>(fun (u5:AV)=>(fun (u6:AEx->St R.σ->Prop)=>(fun (u7:AObj)=>(fun (u8:AObj)=>(fun (u9:Bool)=>(fun (u10:AV)=>(fun (u11:Bool)=>(fun (u12:AObj)=>(fun (u13:AObj)=>1<=1/\1<=1/\(u11=true->Wp Tryd.prog R 47 5 Rd.top (ah Tryd.prog 78) [0,1,0] u6 (St.mk [(0,int i64 u3),(1,u10),(2,ref 0 0),(4,ref 2 0),(5,ref 3 0),(6,ref 4 0),(9,AV.bool u11)] u1 g))/\(u11=false->1<=1/\(decide (u3<u3)=true->Wp Tryd.prog R 47 5 Rd.top (ah Tryd.prog 78) [0,1,1,1,0] u6 (St.mk [(0,int i64 u3),(1,u10),(2,ref 0 0),(4,ref 2 0),(5,ref 3 0),(6,ref 4 0),(14,AV.bool (decide (u3<u3)))] u1 g))/\(decide (u3<u3)=false->2<=2/\(∀(hp:List AObj) (g:R.σ),true=true/\Does Tryd.prog R 80 [aA p,u10] hp g (ret (int u64 (↑(fol p.rules.l s):Int))) hp g)/\(u9=true->Tables.follows Tryd.prog.toTables Departure.mixedOrders=true/\1<=1/\(true=true/\Does Tryd.prog R 77 [u10] u1 g (ret (fn 105 0 (nth []) 1 (nth [ref 5 0]))) u2 g)/\(true=true/\Does Tryd.prog R 75 [fn 105 0 (nth []) 1 (nth [ref 5 0])] u2 g (ret u4) [cells false 1 fun (x:Nat)=>u5,u13,u8,u7,u12,cells false 1 fun (j:Nat)=>any] g)/\0<1/\24<=aN/\1<=aN/\1<=1/\(∀(c:Nat),c<1->(fz Fz.auto 1 ((ac (([]++[s]).getD c 0)).l.length) fun (i x:Nat)=>af (ac (([]++[s]).getD c 0)).l i)=a9 1 0 (fun _ _=>any) (fun (i j:Nat)=>ap (fun (j:Nat)=>u5) 0 1 (fun (x:Nat)=>u4) (0+i*1+j)) c)/\1<=1/\(∀(c:Nat),c<1->nth [ow true 7 1 1] c=ap (fun (x:Nat)=>u5) 0 1 (fun (x:Nat)=>ow true 7 1 1) c)/\Q AEx.normal (St.mk [] [cells false 1 (nth [ow true 7 1 1]),u13,u8,u7,u12,cells false 1 fun (j:Nat)=>any,cells false 1 (ap (fun (j:Nat)=>u5) 0 1 fun (x:Nat)=>u4),cells false 1 fun (a:Nat)=>fz Fz.auto 1 ((ac (([]++[s]).getD a 0)).l.length) fun (i x:Nat)=>af (ac (([]++[s]).getD a 0)).l i] g))/\(u9=false->Wp Tryd.prog R 47 5 Rd.top (ah Tryd.prog 78) [0,1,1,1,1,1,1] u6 (St.mk [(1,u10),(2,ref 0 0),(35,AV.bool u9)] u1 g))))) (cells false 1 fun (x:Nat)=>int i64 (most:Int))) (cells false 2 (nth [int i64 p.atoms,ae p.rules]))) ((↑0:Int)==(most:Int))) (int u64 (s:Int))) ((↑(fol p.rules.l s):Int)==(s:Int))) (cells false 1 fun (x:Nat)=>fz O.2 1 (O.l.length) fun (i x:Nat)=>af O.l i)) (cells false 1 fun (x:Nat)=>fn 78 0 (nth []) 5 (nth [ref 0 0,ref 1 0,ref 2 0,ref 3 0,ref 4 0]))) (aq Tryd.prog R 47 5 Rd.top (ah Tryd.prog 78) Q [Kont.blk 0])) (fz Fz.nil 0 0 fun _ _=>any)) (fz Fz.auto 1 ((ac s).l.length) fun (i x:Nat)=>af (ac s).l i)) ((O.l.length:Int))) ([cells false 1 fun (x:Nat)=>fz Fz.nil 0 0 fun _ _=>any,cells false 1 fun (x:Nat)=>int i64 (most:Int),cells false 1 fun (x:Nat)=>fz O.2 1 (O.l.length) fun (i x:Nat)=>af O.l i,cells false 1 fun (x:Nat)=>fn 78 0 (nth []) 5 (nth [ref 0 0,ref 1 0,ref 2 0,ref 3 0,ref 4 0]),cells false 2 (nth [int i64 p.atoms,ae p.rules]),cells false 1 fun (x:Nat)=>int u64 (s:Int)])) ([cells false 1 fun (x:Nat)=>fz Fz.nil 0 0 fun _ _=>any,cells false 1 fun (x:Nat)=>int i64 (most:Int),cells false 1 fun (x:Nat)=>fz O.2 1 (O.l.length) fun (i x:Nat)=>af O.l i,cells false 1 fun (x:Nat)=>fn 78 0 (nth []) 5 (nth [ref 0 0,ref 1 0,ref 2 0,ref 3 0,ref 4 0]),cells false 2 (nth [int i64 p.atoms,ae p.rules])])) (fun _=>by kernel_rfl) ⟨by omega,by omega,fun hcc=>(nomatch (hz.symm.trans hcc)),fun _=>⟨by omega,fun hcc=>(nomatch (hb.symm.trans hcc)),fun _=>⟨by omega,(fun _ _=>⟨rfl,(ki _ _ _ _ (by omega) (by omega) (by omega) _)⟩),fun _=>⟨by kernel_rfl,by omega,⟨rfl,(cS _ _ _ _)⟩,⟨rfl,(bc (T:=LT) inferInstance [5] 6 (fun R _ g=>hC R (s) (by omega) g) rfl rfl rfl (by exact⟨⟨rfl,Nat.le_refl _,fun j hj=>match j,hj with|0,_=>(Le.refl _) ⟩,trivial⟩) (by exact⟨by omega,trivial⟩) (by exact⟨(Le.fn (fun i hi=>absurd hi (by omega)) (fun i hi=>match i,hi with|0,_=>(Le.refl _) )),trivial⟩) (by exact aC (by exact trivial)) (by exact⟨LeO.rflc,LeO.rflc,LeO.rflc,LeO.rflc,LeO.rflc,LeO.rflc,trivial⟩))⟩,by omega,by omega,by omega,by omega,?_,by omega,(fun c hc=>match c,hc with|0,_=>(by kernel_rfl) ),?_⟩,fun hcc=>(nomatch (hf.symm.trans hcc))⟩⟩⟩
  ·exact fun c hc=>(kK (L:=[]) (m:=0) (z:=fun _=>.fz .nil 0 0 (fun _ _=>.any)) (old:=fun _ _=>.any) rfl (fun i hi=>absurd hi (Nat.not_lt_zero i)) hc).trans (by kernel_rfl)
  ·refine kM (.tup 0 (nth [])) _ rfl trivial ?_
   refine bo [0,1,2,3,4,7] 8 ?_ ?_ ?_ ?_ ?_ ?_ ?_
   ·rfl
   ·rfl
   ·rfl
   ·rfl
   ·rfl
   ·exact⟨Le.refl _,trivial⟩
   ·exact⟨⟨rfl,Nat.le_refl _,fun j hj=>match j,hj with|0,_=>Le.refl _⟩,LeO.refl _,LeO.refl _,⟨rfl,Nat.le_refl _,fun j hj=>kN⟩,⟨rfl,Nat.le_refl _,fun j hj=>match j,hj with|0,_=>Le.refl _|1,_=>aB (by exact trivial)⟩,⟨rfl,Nat.le_refl _,fun j hj=>Le.refl _⟩,trivial⟩
 ·intro R _ s m L g hs hL hmL hmm h
  rw[e0] at h
  refine ax (nt:=47) (rs:=[]) (k0:=6) (by kernel_rfl) (by kernel_rfl) (by kernel_rfl) rfl ?_
  refine vcQ [[0,1,1,1,0]] (lkL [(0,[0,1,2,4,5,6,9]),(1,[0,1,2,4,5,6,14]),(4,[1,2,35])]) (lkL [(4,[(2,ROrc.pcall (int u64 (↑(fol p.rules.l s):Int)))]),(5,[(2,ROrc.callN (fn 105 0 (nth []) 1 (nth [ref (List.length [cells false 1 fun (x:Nat)=>ow true 5 m 1,cells false 1 fun (x:Nat)=>int i64 (most:Int),cells false 1 fun (x:Nat)=>fz O.2 1 (O.l.length) fun (i x:Nat)=>af O.l i,cells false 1 fun (x:Nat)=>fn 78 0 (nth []) 5 (nth [ref 0 0,ref 1 0,ref 2 0,ref 3 0,ref 4 0]),cells false 2 (nth [int i64 p.atoms,ae p.rules]),cells false (m*1) fun (a:Nat)=>fz Fz.auto 1 ((ac (L.getD a 0)).l.length) fun (i x:Nat)=>af (ac (L.getD a 0)).l i]) 0])) [] [cells false 1 fun (x:Nat)=>int u64 (s:Int)] g),(3,ROrc.callS (fz Fz.auto 1 ((ac s).l.length) fun (i x:Nat)=>af (ac s).l i) [(6,cells false 1 fun (j:Nat)=>any)] g),(6,ROrc.val (Orc.obj (nth [ow true 8 (m+1) 1])))])]) (fun Q=>(fun (u1:List AObj)=>(fun (u2:List AObj)=>(fun (u3:Int)=>(fun (u4:AV)=>(fun (u5:AObj)=>(fun (u6:AObj)=>(fun (u7:Bool)=>(fun (u8:AV)=>(fun (u9:Bool)=>(fun (u10:AObj)=>(fun (u11:AObj)=>1<=1/\1<=1/\(u9=true->Q AEx.normal (St.mk [(0,int i64 u3),(1,u8),(2,ref 0 0),(4,ref 2 0),(5,ref 3 0),(6,ref 4 0),(9,AV.bool u9)] u1 g))/\(u9=false->1<=1/\(decide (u3<u3)=true->Wp Tryd.prog R 47 6 Rd.top (ah Tryd.prog 78) [0,1,1,1,0] (aq Tryd.prog R 47 6 Rd.top (ah Tryd.prog 78) Q [Kont.blk 0]) (St.mk [(0,int i64 u3),(1,u8),(2,ref 0 0),(4,ref 2 0),(5,ref 3 0),(6,ref 4 0),(14,AV.bool (decide (u3<u3)))] u1 g))/\(decide (u3<u3)=false->2<=2/\(∀(hp:List AObj) (g:R.σ),true=true/\Does Tryd.prog R 80 [aA p,u8] hp g (ret (int u64 (↑(fol p.rules.l s):Int))) hp g)/\(u7=true->Tables.follows Tryd.prog.toTables Departure.mixedOrders=true/\1<=1/\(true=true/\Does Tryd.prog R 77 [u8] u1 g (ret (fn 105 0 (nth []) 1 (nth [ref 6 0]))) u2 g)/\(true=true/\Does Tryd.prog R 75 [fn 105 0 (nth []) 1 (nth [ref 6 0])] u2 g (ret u4) [cells false 1 fun (x:Nat)=>ow true 5 m 1,u11,u6,u5,u10,cells false (m*1) fun (a:Nat)=>fz Fz.auto 1 ((ac (L.getD a 0)).l.length) fun (i x:Nat)=>af (ac (L.getD a 0)).l i,cells false 1 fun (j:Nat)=>any] g)/\0<1/\(m+1)*24<=aN/\m+1<=aN/\1<=1/\m*1<=m*1/\1<=1/\(∀(c:Nat),c<1->nth [ow true 8 (m+1) 1] c=ap (fun (x:Nat)=>ow true 5 m 1) 0 1 (fun (x:Nat)=>ow true 8 (m+1) 1) c)/\Q AEx.normal (St.mk [] [cells false 1 (nth [ow true 8 (m+1) 1]),u11,u6,u5,u10,dead,cells false 1 fun (j:Nat)=>any,cells false 1 (ap (fun (j:Nat)=>fz Fz.nil 0 0 fun _ _=>any) 0 1 fun (x:Nat)=>u4),cells false ((m+1)*1) (a9 1 m (fun (i j:Nat)=>fz Fz.auto 1 ((ac (L.getD (i*1+j) 0)).l.length) fun (i_1 x:Nat)=>af (ac (L.getD (i*1+j) 0)).l i_1) fun (i j:Nat)=>ap (fun (j:Nat)=>fz Fz.nil 0 0 fun _ _=>any) 0 1 (fun (x:Nat)=>u4) (0+i*1+j))] g))/\(u7=false->Q AEx.normal (St.mk [(1,u8),(2,ref 0 0),(35,AV.bool u7)] u1 g))))) (cells false 1 fun (x:Nat)=>int i64 (most:Int))) (cells false 2 (nth [int i64 p.atoms,ae p.rules]))) ((m:Int)==(most:Int))) (int u64 (s:Int))) ((↑(fol p.rules.l s):Int)==(s:Int))) (cells false 1 fun (x:Nat)=>fz O.2 1 (O.l.length) fun (i x:Nat)=>af O.l i)) (cells false 1 fun (x:Nat)=>fn 78 0 (nth []) 5 (nth [ref 0 0,ref 1 0,ref 2 0,ref 3 0,ref 4 0]))) (fz Fz.auto 1 ((ac s).l.length) fun (i x:Nat)=>af (ac s).l i)) ((O.l.length:Int))) ([cells false 1 fun (x:Nat)=>ow true 5 m 1,cells false 1 fun (x:Nat)=>int i64 (most:Int),cells false 1 fun (x:Nat)=>fz O.2 1 (O.l.length) fun (i x:Nat)=>af O.l i,cells false 1 fun (x:Nat)=>fn 78 0 (nth []) 5 (nth [ref 0 0,ref 1 0,ref 2 0,ref 3 0,ref 4 0]),cells false 2 (nth [int i64 p.atoms,ae p.rules]),cells false (m*1) fun (a:Nat)=>fz Fz.auto 1 ((ac (L.getD a 0)).l.length) fun (i x:Nat)=>af (ac (L.getD a 0)).l i,cells false 1 fun (x:Nat)=>int u64 (s:Int)])) ([cells false 1 fun (x:Nat)=>ow true 5 m 1,cells false 1 fun (x:Nat)=>int i64 (most:Int),cells false 1 fun (x:Nat)=>fz O.2 1 (O.l.length) fun (i x:Nat)=>af O.l i,cells false 1 fun (x:Nat)=>fn 78 0 (nth []) 5 (nth [ref 0 0,ref 1 0,ref 2 0,ref 3 0,ref 4 0]),cells false 2 (nth [int i64 p.atoms,ae p.rules]),cells false (m*1) fun (a:Nat)=>fz Fz.auto 1 ((ac (L.getD a 0)).l.length) fun (i x:Nat)=>af (ac (L.getD a 0)).l i])) (fun _=>by kernel_rfl) ⟨by omega,by omega,fun c1=>have c1:(m:Int)=(most:Int):=(beq_iff_eq.mp c1);?_,fun c1=>have c1:¬(m:Int)=(most:Int):=(beq_eq_false_iff_ne.mp c1);⟨by omega,fun hcc=>(nomatch (hb.symm.trans hcc)),fun _=>⟨by omega,(fun _ _=>⟨rfl,(ki _ _ _ _ (by omega) (by omega) (by omega) _)⟩),fun c2=>have c2:(↑(fol p.rules.l s):Int)=(s:Int):=(beq_iff_eq.mp c2);⟨by kernel_rfl,by omega,⟨rfl,(cS _ _ _ _)⟩,⟨rfl,(bc (T:=LT) inferInstance [6] 7 (fun R _ g=>hC R (s) (by omega) g) rfl rfl rfl (by exact⟨⟨rfl,Nat.le_refl _,fun j hj=>match j,hj with|0,_=>(Le.refl _) ⟩,trivial⟩) (by exact⟨by omega,trivial⟩) (by exact⟨(Le.fn (fun i hi=>absurd hi (by omega)) (fun i hi=>match i,hi with|0,_=>(Le.refl _) )),trivial⟩) (by exact aC (by exact trivial)) (by exact⟨LeO.rflc,LeO.rflc,LeO.rflc,LeO.rflc,LeO.rflc,LeO.rflc,LeO.rflc,trivial⟩))⟩,by omega,by omega,by omega,by omega,by omega,by omega,(fun c hc=>match c,hc with|0,_=>(by kernel_rfl) ),?_⟩,fun c2=>have c2:¬(↑(fol p.rules.l s):Int)=(s:Int):=(beq_eq_false_iff_ne.mp c2);?_⟩⟩⟩
  ·refine(av (aS _ _ rfl trivial rfl rfl rfl) (Le.refl _))
  ·exfalso
   rw[if_neg (by omega),if_pos (by omega)] at h
   have:=congrArg List.length h
   rw[List.length_append,List.length_singleton] at this
   omega
  ·refine(av (aS _ _ rfl trivial rfl rfl rfl) (Le.refl _))
 ·intro R _ s m m' L L' g hs hL hmL hmm h hm' hne
  rw[e0] at h
  have hf:((fol p.rules.l s:Int)==(s:Int))=true:=by
   rw[beq_iff_eq]
   by_cases e:fol p.rules.l s=s
   ·omega
   ·rw[if_neg e,ite_self] at h
    subst h
    omega
  have h1:¬L.length=most:=fun e=>by
   rw[if_pos e] at h
   subst h
   omega
  rw[if_neg h1,if_pos (by rw[beq_iff_eq] at hf;omega)] at h
  subst h
  have hmm1:m'=m+1:=by rw[hm',List.length_append,hmL];rfl
  subst hmm1
  have hz:((m:Int)==(most:Int))=false:=by rw[beq_eq_false_iff_ne];omega
  refine ax (nt:=47) (rs:=[]) (k0:=6) (by kernel_rfl) (by kernel_rfl) (by kernel_rfl) rfl ?_
  refine vcQ [[0,1,0],[0,1,1,1,0],[0,1,1,1,1,1,1]] (lkL [(0,[0,1,2,4,5,6,9]),(1,[0,1,2,4,5,6,14]),(4,[1,2,35])]) (lkL [(4,[(2,ROrc.pcall (int u64 (↑(fol p.rules.l s):Int)))]),(5,[(2,ROrc.callN (fn 105 0 (nth []) 1 (nth [ref (List.length [cells false 1 fun (x:Nat)=>ow true 5 m 1,cells false 1 fun (x:Nat)=>int i64 (most:Int),cells false 1 fun (x:Nat)=>fz O.2 1 (O.l.length) fun (i x:Nat)=>af O.l i,cells false 1 fun (x:Nat)=>fn 78 0 (nth []) 5 (nth [ref 0 0,ref 1 0,ref 2 0,ref 3 0,ref 4 0]),cells false 2 (nth [int i64 p.atoms,ae p.rules]),cells false (m*1) fun (a:Nat)=>fz Fz.auto 1 ((ac (L.getD a 0)).l.length) fun (i x:Nat)=>af (ac (L.getD a 0)).l i]) 0])) [] [cells false 1 fun (x:Nat)=>int u64 (s:Int)] g),(3,ROrc.callS (fz Fz.auto 1 ((ac s).l.length) fun (i x:Nat)=>af (ac s).l i) [(6,cells false 1 fun (j:Nat)=>any)] g),(5,ROrc.val (Orc.obj (aQ (L++[s])))),(6,ROrc.val (Orc.obj (nth [ow true 8 (m+1) 1])))])]) (fun Q=>(fun (u1:List AObj)=>(fun (u2:List AObj)=>(fun (u3:Int)=>(fun (u4:AV)=>(fun (u5:AEx->St R.σ->Prop)=>(fun (u6:AObj)=>(fun (u7:AObj)=>(fun (u8:Bool)=>(fun (u9:AV)=>(fun (u10:Bool)=>(fun (u11:AObj)=>(fun (u12:AObj)=>1<=1/\1<=1/\(u10=true->Wp Tryd.prog R 47 6 Rd.top (ah Tryd.prog 78) [0,1,0] u5 (St.mk [(0,int i64 u3),(1,u9),(2,ref 0 0),(4,ref 2 0),(5,ref 3 0),(6,ref 4 0),(9,AV.bool u10)] u1 g))/\(u10=false->1<=1/\(decide (u3<u3)=true->Wp Tryd.prog R 47 6 Rd.top (ah Tryd.prog 78) [0,1,1,1,0] u5 (St.mk [(0,int i64 u3),(1,u9),(2,ref 0 0),(4,ref 2 0),(5,ref 3 0),(6,ref 4 0),(14,AV.bool (decide (u3<u3)))] u1 g))/\(decide (u3<u3)=false->2<=2/\(∀(hp:List AObj) (g:R.σ),true=true/\Does Tryd.prog R 80 [aA p,u9] hp g (ret (int u64 (↑(fol p.rules.l s):Int))) hp g)/\(u8=true->Tables.follows Tryd.prog.toTables Departure.mixedOrders=true/\1<=1/\(true=true/\Does Tryd.prog R 77 [u9] u1 g (ret (fn 105 0 (nth []) 1 (nth [ref 6 0]))) u2 g)/\(true=true/\Does Tryd.prog R 75 [fn 105 0 (nth []) 1 (nth [ref 6 0])] u2 g (ret u4) [cells false 1 fun (x:Nat)=>ow true 5 m 1,u12,u7,u6,u11,cells false (m*1) fun (a:Nat)=>fz Fz.auto 1 ((ac (L.getD a 0)).l.length) fun (i x:Nat)=>af (ac (L.getD a 0)).l i,cells false 1 fun (j:Nat)=>any] g)/\0<1/\(m+1)*24<=aN/\m+1<=aN/\1<=1/\m*1<=m*1/\(∀(c:Nat),c<(m+1)*1->(fz Fz.auto 1 ((ac ((L++[s]).getD c 0)).l.length) fun (i x:Nat)=>af (ac ((L++[s]).getD c 0)).l i)=a9 1 m (fun (i j:Nat)=>fz Fz.auto 1 ((ac (L.getD (i*1+j) 0)).l.length) fun (i_1 x:Nat)=>af (ac (L.getD (i*1+j) 0)).l i_1) (fun (i j:Nat)=>ap (fun (j:Nat)=>fz Fz.nil 0 0 fun _ _=>any) 0 1 (fun (x:Nat)=>u4) (0+i*1+j)) c)/\1<=1/\(∀(c:Nat),c<1->nth [ow true 8 (m+1) 1] c=ap (fun (x:Nat)=>ow true 5 m 1) 0 1 (fun (x:Nat)=>ow true 8 (m+1) 1) c)/\Q AEx.normal (St.mk [] [cells false 1 (nth [ow true 8 (m+1) 1]),u12,u7,u6,u11,dead,cells false 1 fun (j:Nat)=>any,cells false 1 (ap (fun (j:Nat)=>fz Fz.nil 0 0 fun _ _=>any) 0 1 fun (x:Nat)=>u4),cells false ((m+1)*1) fun (a:Nat)=>fz Fz.auto 1 ((ac ((L++[s]).getD a 0)).l.length) fun (i x:Nat)=>af (ac ((L++[s]).getD a 0)).l i] g))/\(u8=false->Wp Tryd.prog R 47 6 Rd.top (ah Tryd.prog 78) [0,1,1,1,1,1,1] u5 (St.mk [(1,u9),(2,ref 0 0),(35,AV.bool u8)] u1 g))))) (cells false 1 fun (x:Nat)=>int i64 (most:Int))) (cells false 2 (nth [int i64 p.atoms,ae p.rules]))) ((m:Int)==(most:Int))) (int u64 (s:Int))) ((↑(fol p.rules.l s):Int)==(s:Int))) (cells false 1 fun (x:Nat)=>fz O.2 1 (O.l.length) fun (i x:Nat)=>af O.l i)) (cells false 1 fun (x:Nat)=>fn 78 0 (nth []) 5 (nth [ref 0 0,ref 1 0,ref 2 0,ref 3 0,ref 4 0]))) (aq Tryd.prog R 47 6 Rd.top (ah Tryd.prog 78) Q [Kont.blk 0])) (fz Fz.auto 1 ((ac s).l.length) fun (i x:Nat)=>af (ac s).l i)) ((O.l.length:Int))) ([cells false 1 fun (x:Nat)=>ow true 5 m 1,cells false 1 fun (x:Nat)=>int i64 (most:Int),cells false 1 fun (x:Nat)=>fz O.2 1 (O.l.length) fun (i x:Nat)=>af O.l i,cells false 1 fun (x:Nat)=>fn 78 0 (nth []) 5 (nth [ref 0 0,ref 1 0,ref 2 0,ref 3 0,ref 4 0]),cells false 2 (nth [int i64 p.atoms,ae p.rules]),cells false (m*1) fun (a:Nat)=>fz Fz.auto 1 ((ac (L.getD a 0)).l.length) fun (i x:Nat)=>af (ac (L.getD a 0)).l i,cells false 1 fun (x:Nat)=>int u64 (s:Int)])) ([cells false 1 fun (x:Nat)=>ow true 5 m 1,cells false 1 fun (x:Nat)=>int i64 (most:Int),cells false 1 fun (x:Nat)=>fz O.2 1 (O.l.length) fun (i x:Nat)=>af O.l i,cells false 1 fun (x:Nat)=>fn 78 0 (nth []) 5 (nth [ref 0 0,ref 1 0,ref 2 0,ref 3 0,ref 4 0]),cells false 2 (nth [int i64 p.atoms,ae p.rules]),cells false (m*1) fun (a:Nat)=>fz Fz.auto 1 ((ac (L.getD a 0)).l.length) fun (i x:Nat)=>af (ac (L.getD a 0)).l i])) (fun _=>by kernel_rfl) ⟨by omega,by omega,fun hcc=>(nomatch (hz.symm.trans hcc)),fun _=>⟨by omega,fun hcc=>(nomatch (hb.symm.trans hcc)),fun _=>⟨by omega,(fun _ _=>⟨rfl,(ki _ _ _ _ (by omega) (by omega) (by omega) _)⟩),fun _=>⟨by kernel_rfl,by omega,⟨rfl,(cS _ _ _ _)⟩,⟨rfl,(bc (T:=LT) inferInstance [6] 7 (fun R _ g=>hC R (s) (by omega) g) rfl rfl rfl (by exact⟨⟨rfl,Nat.le_refl _,fun j hj=>match j,hj with|0,_=>(Le.refl _) ⟩,trivial⟩) (by exact⟨by omega,trivial⟩) (by exact⟨(Le.fn (fun i hi=>absurd hi (by omega)) (fun i hi=>match i,hi with|0,_=>(Le.refl _) )),trivial⟩) (by exact aC (by exact trivial)) (by exact⟨LeO.rflc,LeO.rflc,LeO.rflc,LeO.rflc,LeO.rflc,LeO.rflc,LeO.rflc,trivial⟩))⟩,by omega,by omega,by omega,by omega,by omega,?_,by omega,(fun c hc=>match c,hc with|0,_=>(by kernel_rfl) ),?_⟩,fun hcc=>(nomatch (hf.symm.trans hcc))⟩⟩⟩
  ·exact fun c hc=>(kK (L:=L) (m:=m) (z:=fun _=>.fz .nil 0 0 (fun _ _=>.any)) (old:=fun i j=>aQ L (i*1+j)) hmL (fun i hi=>by show aQ L (i*1+0)=aQ L i;rw[show i*1+0=i by omega]) hc).trans (by kernel_rfl)
  ·refine kM (.tup 0 (nth [])) _ rfl trivial ?_
   refine bo [0,1,2,3,4,5,8] 9 ?_ ?_ ?_ ?_ ?_ ?_ ?_
   ·rfl
   ·rfl
   ·rfl
   ·rfl
   ·rfl
   ·exact⟨Le.refl _,trivial⟩
   ·exact⟨⟨rfl,Nat.le_refl _,fun j hj=>match j,hj with|0,_=>Le.refl _⟩,LeO.refl _,LeO.refl _,⟨rfl,Nat.le_refl _,fun j hj=>kN⟩,⟨rfl,Nat.le_refl _,fun j hj=>match j,hj with|0,_=>Le.refl _|1,_=>aB (by exact trivial)⟩,trivial,⟨rfl,Nat.le_refl _,fun j hj=>Le.refl _⟩,trivial⟩
theorem xd {p:Prg}{most:Nat}{O:KL Int}{r:List Int}{k:Nat}(hm:1<=most/\most<=100)(hO:O.l.length<=10)(hk:k<O.l.length)(ha24:0<=O.l.getD k 0/\O.l.getD k 0<24)(ih:FromC p most O r ((k:Int)+1)):FromC p most O (O.l.getD k 0::r) (k:Int):=by
 have hroom:aN=140737488355328:=rfl
 have hb:decide ((k:Int)<(O.l.length:Int))=true:=decide_eq_true (by omega)
 have hz:(((0:Nat):Int)==(most:Int))=false:=by rw[beq_eq_false_iff_ne];omega
 have e0:∀s L,stF p most (O.l.getD k 0::r) s L=if L.length=most then L else stF p most r (s|||2^(O.l.getD k 0).toNat) (stF p most r s L):=fun s L=>rfl
 have hor:∀s:Nat,s<2^24->IntKind.u64.wrap ((BitVec.ofInt 64 (s:Int)|||BitVec.ofInt 64 ((2^(O.l.getD k 0).toNat:Nat):Int)).toNat:Int)=((s|||2^(O.l.getD k 0).toNat:Nat):Int):=fun s hs=>Tb.u64_or (bN hs) (bN (Nat.pow_lt_pow_right (by decide) (by omega)))
 have hor24:∀s:Nat,s<2^24->s|||2^(O.l.getD k 0).toNat<2^24:=fun s hs=>ja hs (by omega)
 constructor
 ·intro R _ s g hs h
  rw[e0,if_neg (by show ¬0=most;omega)] at h
  obtain⟨t,ht⟩:∃t,s|||2^(O.l.getD k 0).toNat=t:=⟨_,rfl⟩
  have ht24:t<2^24:=by rw[<-ht];exact hor24 s hs
  have hoS:=(hor s hs).trans (congrArg (fun n:Nat=>(n:Int)) ht)
  have hL1:stF p most r s []=[]:=by
   by_cases e:stF p most r s []=[]
   ·exact e
   ·exact absurd h (xa (ef (Nat.zero_le _)).2.1 e)
  rw[hL1,ht] at h
  have i1:=fun (R:Res) [Tab LT R] (g:R.σ)=>ih.nn R s g hs hL1
  have i2:∀(R:Res) [Tab LT R] (g:R.σ),Does Tryd.prog R 78 [.int .i64 ((k:Int)+1),.int .u64 (IntKind.u64.wrap ((BitVec.ofInt 64 (s:Int)|||BitVec.ofInt 64 ((2^(O.l.getD k 0).toNat:Nat):Int)).toNat:Int)),.ref 0 0,.ref 1 0,.ref 2 0,.ref 3 0,.ref 4 0] [.cells false 1 (fun _=>.fz .nil 0 0 (fun _ _=>.any)),.cells false 1 (fun _=>.int .i64 most),.cells false 1 (fun _=>ak O),.cells false 1 (fun _=>.fn 78 0 (nth []) 5 (nth [.ref 0 0,.ref 1 0,.ref 2 0,.ref 3 0,.ref 4 0])),.cells false 2 (nth [.int .i64 p.atoms,ae p.rules])] g (.ret (.tup 0 (nth []))) [.cells false 1 (fun _=>.fz .nil 0 0 (fun _ _=>.any)),.cells false 1 (fun _=>.int .i64 most),.cells false 1 (fun _=>ak O),.cells false 1 (fun _=>.fn 78 0 (nth []) 5 (nth [.ref 0 0,.ref 1 0,.ref 2 0,.ref 3 0,.ref 4 0])),.cells false 2 (nth [.int .i64 p.atoms,ae p.rules])] g:=fun R _ g=>by rw[hoS];exact ih.nn R t g ht24 h
  refine ax (nt:=47) (rs:=[]) (k0:=5) (by kernel_rfl) (by kernel_rfl) (by kernel_rfl) rfl ?_
  refine vcQ [[0,1,0],[0,1,1,1,1]] (lkL [(0,[0,1,2,4,5,6,9]),(1,[0,1,2,4,5,6,14]),(2,[0,1,4,5])]) (lkL [(2,[(4,ROrc.call (tup 0 (nth [])) [cells false 1 fun (x:Nat)=>fz Fz.nil 0 0 fun _ _=>any,cells false 1 fun (x:Nat)=>int i64 (most:Int),cells false 1 fun (x:Nat)=>ak O,cells false 1 fun (x:Nat)=>fn 78 0 (nth []) 5 (nth [ref 0 0,ref 1 0,ref 2 0,ref 3 0,ref 4 0]),cells false 2 (nth [int i64 p.atoms,ae p.rules])] g)]),(3,[(8,ROrc.pcall (int u64 (↑(2^(O.l.getD k 0).toNat):Int))),(10,ROrc.callS (tup 0 (nth [])) [(2,cells false 1 fun (x:Nat)=>ak O)] g)])]) (fun Q=>(fun (u1:List AObj)=>(fun (u2:Int)=>(fun (u3:Int)=>(fun (u4:Bool)=>1<=1/\1<=1/\(u4=true->Wp Tryd.prog R 47 5 Rd.top (ah Tryd.prog 78) [0,1,0] (aq Tryd.prog R 47 5 Rd.top (ah Tryd.prog 78) Q [Kont.blk 0]) (St.mk [(0,int i64 u3),(1,int u64 (s:Int)),(2,ref 0 0),(4,ref 2 0),(5,ref 3 0),(6,ref 4 0),(9,AV.bool u4)] u1 g))/\(u4=false->1<=1/\(decide (u3<u2)=true->1<=1/\(-9223372036854775808<=u3+1/\u3+1<=9223372036854775807)/\(true=true/\Does Tryd.prog R 78 [int i64 (u3+1),int u64 (s:Int),ref 0 0,ref 1 0,ref 2 0,ref 3 0,ref 4 0] u1 g (ret (tup 0 (nth []))) u1 g)/\Tables.follows Tryd.prog.toTables Departure.mixedOrders=true/\1<=1/\(-9223372036854775808<=u3+1/\u3+1<=9223372036854775807)/\1<=1/\(0<=u3/\u3<u2)/\1<=1/\(∀(hp:List AObj) (g:R.σ),true=true/\Does Tryd.prog R 79 [af O.l k] hp g (ret (int u64 (↑(2^(O.l.getD k 0).toNat):Int))) hp g)/\(true=true/\Does Tryd.prog R 78 [int i64 (u3+1),int u64 (IntKind.wrap u64 (↑(BitVec.toNat (BitVec.ofInt 64 (s:Int)|||BitVec.ofInt 64 (↑(2^(O.l.getD k 0).toNat):Int))):Int)),ref 0 0,ref 1 0,ref 2 0,ref 3 0,ref 4 0] u1 g (ret (tup 0 (nth []))) u1 g)/\Q AEx.normal (St.mk [] u1 g))/\(decide (u3<u2)=false->Wp Tryd.prog R 47 5 Rd.top (ah Tryd.prog 78) [0,1,1,1,1] (aq Tryd.prog R 47 5 Rd.top (ah Tryd.prog 78) Q [Kont.blk 0]) (St.mk [(0,int i64 u3),(1,int u64 (s:Int)),(2,ref 0 0),(4,ref 2 0),(5,ref 3 0),(6,ref 4 0),(14,AV.bool (decide (u3<u2)))] u1 g)))) ((↑0:Int)==(most:Int))) ((k:Int))) ((O.l.length:Int))) ([cells false 1 fun (x:Nat)=>fz Fz.nil 0 0 fun _ _=>any,cells false 1 fun (x:Nat)=>int i64 (most:Int),cells false 1 fun (x:Nat)=>fz O.2 1 (O.l.length) fun (i x:Nat)=>af O.l i,cells false 1 fun (x:Nat)=>fn 78 0 (nth []) 5 (nth [ref 0 0,ref 1 0,ref 2 0,ref 3 0,ref 4 0]),cells false 2 (nth [int i64 p.atoms,ae p.rules])])) (fun _=>by kernel_rfl) ⟨by omega,by omega,fun hcc=>(nomatch (hz.symm.trans hcc)),fun _=>⟨by omega,fun _=>⟨by omega,by omega,⟨rfl,(i1 _ _)⟩,by kernel_rfl,by omega,by omega,by omega,by omega,by omega,(fun _ _=>⟨rfl,(d5 _ _ (by omega) _ _)⟩),⟨rfl,(i2 _ _)⟩,?_⟩,fun hcc=>(nomatch (hb.symm.trans hcc))⟩⟩
  refine(av (aS _ _ rfl trivial rfl rfl rfl) (Le.refl _))
 ·intro R _ s m' L' g hs h hL' hm'
  rw[e0,if_neg (by show ¬0=most;omega)] at h
  obtain⟨t,ht⟩:∃t,s|||2^(O.l.getD k 0).toNat=t:=⟨_,rfl⟩
  have ht24:t<2^24:=by rw[<-ht];exact hor24 s hs
  have hoS:=(hor s hs).trans (congrArg (fun n:Nat=>(n:Int)) ht)
  rw[ht] at h
  obtain⟨L,hL⟩:∃L,stF p most r s []=L:=⟨_,rfl⟩
  have hlen:=ef (p:=p) (most:=most) (r:=r) (s:=s) (out:=[]) (Nat.zero_le _)
  rw[hL] at h hlen
  by_cases e:L=[]
  ·subst e
   have i1:=fun (R:Res) [Tab LT R] (g:R.σ)=>ih.nn R s g hs hL
   have i2:∀(R:Res) [Tab LT R] (g:R.σ),Does Tryd.prog R 78 [.int .i64 ((k:Int)+1),.int .u64 (IntKind.u64.wrap ((BitVec.ofInt 64 (s:Int)|||BitVec.ofInt 64 ((2^(O.l.getD k 0).toNat:Nat):Int)).toNat:Int)),.ref 0 0,.ref 1 0,.ref 2 0,.ref 3 0,.ref 4 0] [.cells false 1 (fun _=>.fz .nil 0 0 (fun _ _=>.any)),.cells false 1 (fun _=>.int .i64 most),.cells false 1 (fun _=>ak O),.cells false 1 (fun _=>.fn 78 0 (nth []) 5 (nth [.ref 0 0,.ref 1 0,.ref 2 0,.ref 3 0,.ref 4 0])),.cells false 2 (nth [.int .i64 p.atoms,ae p.rules])] g (.ret (.tup 0 (nth []))) [.cells false 1 (fun _=>.ow true 5 m' 1),.cells false 1 (fun _=>.int .i64 most),.cells false 1 (fun _=>ak O),.cells false 1 (fun _=>.fn 78 0 (nth []) 5 (nth [.ref 0 0,.ref 1 0,.ref 2 0,.ref 3 0,.ref 4 0])),.cells false 2 (nth [.int .i64 p.atoms,ae p.rules]),.cells false (m'*1) (aQ L')] g:=fun R _ g=>by rw[hoS];exact ih.nw R t m' L' g ht24 h hL' hm'
   refine ax (nt:=47) (rs:=[]) (k0:=5) (by kernel_rfl) (by kernel_rfl) (by kernel_rfl) rfl ?_
   refine vcQ [[0,1,0],[0,1,1,1,1]] (lkL [(0,[0,1,2,4,5,6,9]),(1,[0,1,2,4,5,6,14]),(2,[0,1,4,5])]) (lkL [(2,[(4,ROrc.call (tup 0 (nth [])) [cells false 1 fun (x:Nat)=>fz Fz.nil 0 0 fun _ _=>any,cells false 1 fun (x:Nat)=>int i64 (most:Int),cells false 1 fun (x:Nat)=>ak O,cells false 1 fun (x:Nat)=>fn 78 0 (nth []) 5 (nth [ref 0 0,ref 1 0,ref 2 0,ref 3 0,ref 4 0]),cells false 2 (nth [int i64 p.atoms,ae p.rules])] g)]),(3,[(8,ROrc.pcall (int u64 (↑(2^(O.l.getD k 0).toNat):Int))),(10,ROrc.callN (tup 0 (nth [])) [(0,cells false 1 fun (x:Nat)=>ow true 5 m' 1),(2,cells false 1 fun (x:Nat)=>ak O)] [cells false (m'*1) (aQ L')] g)])]) (fun Q=>(fun (u1:List AObj)=>(fun (u2:List AObj)=>(fun (u3:Int)=>(fun (u4:Int)=>(fun (u5:Bool)=>1<=1/\1<=1/\(u5=true->Wp Tryd.prog R 47 5 Rd.top (ah Tryd.prog 78) [0,1,0] (aq Tryd.prog R 47 5 Rd.top (ah Tryd.prog 78) Q [Kont.blk 0]) (St.mk [(0,int i64 u4),(1,int u64 (s:Int)),(2,ref 0 0),(4,ref 2 0),(5,ref 3 0),(6,ref 4 0),(9,AV.bool u5)] u1 g))/\(u5=false->1<=1/\(decide (u4<u3)=true->1<=1/\(-9223372036854775808<=u4+1/\u4+1<=9223372036854775807)/\(true=true/\Does Tryd.prog R 78 [int i64 (u4+1),int u64 (s:Int),ref 0 0,ref 1 0,ref 2 0,ref 3 0,ref 4 0] u1 g (ret (tup 0 (nth []))) u1 g)/\Tables.follows Tryd.prog.toTables Departure.mixedOrders=true/\1<=1/\(-9223372036854775808<=u4+1/\u4+1<=9223372036854775807)/\1<=1/\(0<=u4/\u4<u3)/\1<=1/\(∀(hp:List AObj) (g:R.σ),true=true/\Does Tryd.prog R 79 [af O.l k] hp g (ret (int u64 (↑(2^(O.l.getD k 0).toNat):Int))) hp g)/\(true=true/\Does Tryd.prog R 78 [int i64 (u4+1),int u64 (IntKind.wrap u64 (↑(BitVec.toNat (BitVec.ofInt 64 (s:Int)|||BitVec.ofInt 64 (↑(2^(O.l.getD k 0).toNat):Int))):Int)),ref 0 0,ref 1 0,ref 2 0,ref 3 0,ref 4 0] u1 g (ret (tup 0 (nth []))) u2 g)/\Q AEx.normal (St.mk [] u2 g))/\(decide (u4<u3)=false->Wp Tryd.prog R 47 5 Rd.top (ah Tryd.prog 78) [0,1,1,1,1] (aq Tryd.prog R 47 5 Rd.top (ah Tryd.prog 78) Q [Kont.blk 0]) (St.mk [(0,int i64 u4),(1,int u64 (s:Int)),(2,ref 0 0),(4,ref 2 0),(5,ref 3 0),(6,ref 4 0),(14,AV.bool (decide (u4<u3)))] u1 g)))) ((↑0:Int)==(most:Int))) ((k:Int))) ((O.l.length:Int))) ([cells false 1 fun (x:Nat)=>ow true 5 m' 1,cells false 1 fun (x:Nat)=>int i64 (most:Int),cells false 1 fun (x:Nat)=>fz O.2 1 (O.l.length) fun (i x:Nat)=>af O.l i,cells false 1 fun (x:Nat)=>fn 78 0 (nth []) 5 (nth [ref 0 0,ref 1 0,ref 2 0,ref 3 0,ref 4 0]),cells false 2 (nth [int i64 p.atoms,ae p.rules]),cells false (m'*1) fun (a:Nat)=>fz Fz.auto 1 ((ac (L'.getD a 0)).l.length) fun (i x:Nat)=>af (ac (L'.getD a 0)).l i])) ([cells false 1 fun (x:Nat)=>fz Fz.nil 0 0 fun _ _=>any,cells false 1 fun (x:Nat)=>int i64 (most:Int),cells false 1 fun (x:Nat)=>fz O.2 1 (O.l.length) fun (i x:Nat)=>af O.l i,cells false 1 fun (x:Nat)=>fn 78 0 (nth []) 5 (nth [ref 0 0,ref 1 0,ref 2 0,ref 3 0,ref 4 0]),cells false 2 (nth [int i64 p.atoms,ae p.rules])])) (fun _=>by kernel_rfl) ⟨by omega,by omega,fun hcc=>(nomatch (hz.symm.trans hcc)),fun _=>⟨by omega,fun _=>⟨by omega,by omega,⟨rfl,(i1 _ _)⟩,by kernel_rfl,by omega,by omega,by omega,by omega,by omega,(fun _ _=>⟨rfl,(d5 _ _ (by omega) _ _)⟩),⟨rfl,(i2 _ _)⟩,?_⟩,fun hcc=>(nomatch (hb.symm.trans hcc))⟩⟩
   refine(av (aS _ _ rfl trivial rfl rfl rfl) (Le.refl _))
  ·obtain⟨m,hmL⟩:∃m,m=L.length:=⟨_,rfl⟩
   have h0:0<m:=by rw[hmL];exact List.length_pos_iff.2 e
   have hmm:m<=most:=by rw[hmL];exact hlen.2.1
   have hlen2:=ef (p:=p) (most:=most) (r:=r) (s:=t) (out:=L) hlen.2.1
   rw[h] at hlen2
   have h0':0<m':=by omega
   have hmm':m'<=most:=by omega
   have i1:=fun (R:Res) [Tab LT R] (g:R.σ)=>ih.nw R s m L g hs hL e hmL
   by_cases hmm1:m=m'
   ·have hLL:L'=L:=hlen2.2.2 (by omega)
    subst hLL
    subst hmm1
    have i2:∀(R:Res) [Tab LT R] (g:R.σ),Does Tryd.prog R 78 [.int .i64 ((k:Int)+1),.int .u64 (IntKind.u64.wrap ((BitVec.ofInt 64 (s:Int)|||BitVec.ofInt 64 ((2^(O.l.getD k 0).toNat:Nat):Int)).toNat:Int)),.ref 0 0,.ref 1 0,.ref 2 0,.ref 3 0,.ref 4 0] [.cells false 1 (fun _=>.ow true 5 m 1),.cells false 1 (fun _=>.int .i64 most),.cells false 1 (fun _=>ak O),.cells false 1 (fun _=>.fn 78 0 (nth []) 5 (nth [.ref 0 0,.ref 1 0,.ref 2 0,.ref 3 0,.ref 4 0])),.cells false 2 (nth [.int .i64 p.atoms,ae p.rules]),.cells false (m*1) (aQ L')] g (.ret (.tup 0 (nth []))) [.cells false 1 (fun _=>.ow true 5 m 1),.cells false 1 (fun _=>.int .i64 most),.cells false 1 (fun _=>ak O),.cells false 1 (fun _=>.fn 78 0 (nth []) 5 (nth [.ref 0 0,.ref 1 0,.ref 2 0,.ref 3 0,.ref 4 0])),.cells false 2 (nth [.int .i64 p.atoms,ae p.rules]),.cells false (m*1) (aQ L')] g:=fun R _ g=>by rw[hoS];exact ih.on R t m L' g ht24 hL' hmL hmm h
    refine ax (nt:=47) (rs:=[]) (k0:=5) (by kernel_rfl) (by kernel_rfl) (by kernel_rfl) rfl ?_
    refine vcQ [[0,1,0],[0,1,1,1,1]] (lkL [(0,[0,1,2,4,5,6,9]),(1,[0,1,2,4,5,6,14]),(2,[0,1,4,5])]) (lkL [(2,[(4,ROrc.call (tup 0 (nth [])) [cells false 1 fun (x:Nat)=>ow true 5 m 1,cells false 1 fun (x:Nat)=>int i64 (most:Int),cells false 1 fun (x:Nat)=>ak O,cells false 1 fun (x:Nat)=>fn 78 0 (nth []) 5 (nth [ref 0 0,ref 1 0,ref 2 0,ref 3 0,ref 4 0]),cells false 2 (nth [int i64 p.atoms,ae p.rules]),cells false (m*1) (aQ L')] g)]),(3,[(8,ROrc.pcall (int u64 (↑(2^(O.l.getD k 0).toNat):Int))),(10,ROrc.callS (tup 0 (nth [])) [(2,cells false 1 fun (x:Nat)=>ak O),(5,cells false (m*1) (aQ L'))] g)])]) (fun Q=>(fun (u1:List AObj)=>(fun (u2:List AObj)=>(fun (u3:Int)=>(fun (u4:Int)=>(fun (u5:Bool)=>1<=1/\1<=1/\(u5=true->Wp Tryd.prog R 47 5 Rd.top (ah Tryd.prog 78) [0,1,0] (aq Tryd.prog R 47 5 Rd.top (ah Tryd.prog 78) Q [Kont.blk 0]) (St.mk [(0,int i64 u4),(1,int u64 (s:Int)),(2,ref 0 0),(4,ref 2 0),(5,ref 3 0),(6,ref 4 0),(9,AV.bool u5)] u2 g))/\(u5=false->1<=1/\(decide (u4<u3)=true->1<=1/\(-9223372036854775808<=u4+1/\u4+1<=9223372036854775807)/\(true=true/\Does Tryd.prog R 78 [int i64 (u4+1),int u64 (s:Int),ref 0 0,ref 1 0,ref 2 0,ref 3 0,ref 4 0] u2 g (ret (tup 0 (nth []))) u1 g)/\Tables.follows Tryd.prog.toTables Departure.mixedOrders=true/\1<=1/\(-9223372036854775808<=u4+1/\u4+1<=9223372036854775807)/\1<=1/\(0<=u4/\u4<u3)/\1<=1/\(∀(hp:List AObj) (g:R.σ),true=true/\Does Tryd.prog R 79 [af O.l k] hp g (ret (int u64 (↑(2^(O.l.getD k 0).toNat):Int))) hp g)/\(true=true/\Does Tryd.prog R 78 [int i64 (u4+1),int u64 (IntKind.wrap u64 (↑(BitVec.toNat (BitVec.ofInt 64 (s:Int)|||BitVec.ofInt 64 (↑(2^(O.l.getD k 0).toNat):Int))):Int)),ref 0 0,ref 1 0,ref 2 0,ref 3 0,ref 4 0] u1 g (ret (tup 0 (nth []))) u1 g)/\Q AEx.normal (St.mk [] u1 g))/\(decide (u4<u3)=false->Wp Tryd.prog R 47 5 Rd.top (ah Tryd.prog 78) [0,1,1,1,1] (aq Tryd.prog R 47 5 Rd.top (ah Tryd.prog 78) Q [Kont.blk 0]) (St.mk [(0,int i64 u4),(1,int u64 (s:Int)),(2,ref 0 0),(4,ref 2 0),(5,ref 3 0),(6,ref 4 0),(14,AV.bool (decide (u4<u3)))] u2 g)))) ((↑0:Int)==(most:Int))) ((k:Int))) ((O.l.length:Int))) ([cells false 1 fun (x:Nat)=>fz Fz.nil 0 0 fun _ _=>any,cells false 1 fun (x:Nat)=>int i64 (most:Int),cells false 1 fun (x:Nat)=>fz O.2 1 (O.l.length) fun (i x:Nat)=>af O.l i,cells false 1 fun (x:Nat)=>fn 78 0 (nth []) 5 (nth [ref 0 0,ref 1 0,ref 2 0,ref 3 0,ref 4 0]),cells false 2 (nth [int i64 p.atoms,ae p.rules])])) ([cells false 1 fun (x:Nat)=>ow true 5 m 1,cells false 1 fun (x:Nat)=>int i64 (most:Int),cells false 1 fun (x:Nat)=>fz O.2 1 (O.l.length) fun (i x:Nat)=>af O.l i,cells false 1 fun (x:Nat)=>fn 78 0 (nth []) 5 (nth [ref 0 0,ref 1 0,ref 2 0,ref 3 0,ref 4 0]),cells false 2 (nth [int i64 p.atoms,ae p.rules]),cells false (m*1) fun (a:Nat)=>fz Fz.auto 1 ((ac (L'.getD a 0)).l.length) fun (i x:Nat)=>af (ac (L'.getD a 0)).l i])) (fun _=>by kernel_rfl) ⟨by omega,by omega,fun hcc=>(nomatch (hz.symm.trans hcc)),fun _=>⟨by omega,fun _=>⟨by omega,by omega,⟨rfl,(i1 _ _)⟩,by kernel_rfl,by omega,by omega,by omega,by omega,by omega,(fun _ _=>⟨rfl,(d5 _ _ (by omega) _ _)⟩),⟨rfl,(i2 _ _)⟩,?_⟩,fun hcc=>(nomatch (hb.symm.trans hcc))⟩⟩
    refine(av (aS _ _ rfl trivial rfl rfl rfl) (Le.refl _))
   ·have i2:∀(R:Res) [Tab LT R] (g:R.σ),Does Tryd.prog R 78 [.int .i64 ((k:Int)+1),.int .u64 (IntKind.u64.wrap ((BitVec.ofInt 64 (s:Int)|||BitVec.ofInt 64 ((2^(O.l.getD k 0).toNat:Nat):Int)).toNat:Int)),.ref 0 0,.ref 1 0,.ref 2 0,.ref 3 0,.ref 4 0] [.cells false 1 (fun _=>.ow true 5 m 1),.cells false 1 (fun _=>.int .i64 most),.cells false 1 (fun _=>ak O),.cells false 1 (fun _=>.fn 78 0 (nth []) 5 (nth [.ref 0 0,.ref 1 0,.ref 2 0,.ref 3 0,.ref 4 0])),.cells false 2 (nth [.int .i64 p.atoms,ae p.rules]),.cells false (m*1) (aQ L)] g (.ret (.tup 0 (nth []))) [.cells false 1 (fun _=>.ow true 6 m' 1),.cells false 1 (fun _=>.int .i64 most),.cells false 1 (fun _=>ak O),.cells false 1 (fun _=>.fn 78 0 (nth []) 5 (nth [.ref 0 0,.ref 1 0,.ref 2 0,.ref 3 0,.ref 4 0])),.cells false 2 (nth [.int .i64 p.atoms,ae p.rules]),.dead,.cells false (m'*1) (aQ L')] g:=fun R _ g=>by rw[hoS];exact ih.ow R t m m' L L' g ht24 e hmL hmm h hm' hmm1
    refine ax (nt:=47) (rs:=[]) (k0:=5) (by kernel_rfl) (by kernel_rfl) (by kernel_rfl) rfl ?_
    refine vcQ [[0,1,0],[0,1,1,1,1]] (lkL [(0,[0,1,2,4,5,6,9]),(1,[0,1,2,4,5,6,14]),(2,[0,1,4,5])]) (lkL [(2,[(4,ROrc.call (tup 0 (nth [])) [cells false 1 fun (x:Nat)=>ow true 5 m 1,cells false 1 fun (x:Nat)=>int i64 (most:Int),cells false 1 fun (x:Nat)=>ak O,cells false 1 fun (x:Nat)=>fn 78 0 (nth []) 5 (nth [ref 0 0,ref 1 0,ref 2 0,ref 3 0,ref 4 0]),cells false 2 (nth [int i64 p.atoms,ae p.rules]),cells false (m*1) (aQ L)] g)]),(3,[(8,ROrc.pcall (int u64 (↑(2^(O.l.getD k 0).toNat):Int))),(10,ROrc.callN (tup 0 (nth [])) [(0,cells false 1 fun (x:Nat)=>ow true 6 m' 1),(2,cells false 1 fun (x:Nat)=>ak O),(5,dead)] [cells false (m'*1) (aQ L')] g)])]) (fun Q=>(fun (u1:List AObj)=>(fun (u2:List AObj)=>(fun (u3:List AObj)=>(fun (u4:Int)=>(fun (u5:Int)=>(fun (u6:Bool)=>1<=1/\1<=1/\(u6=true->Wp Tryd.prog R 47 5 Rd.top (ah Tryd.prog 78) [0,1,0] (aq Tryd.prog R 47 5 Rd.top (ah Tryd.prog 78) Q [Kont.blk 0]) (St.mk [(0,int i64 u5),(1,int u64 (s:Int)),(2,ref 0 0),(4,ref 2 0),(5,ref 3 0),(6,ref 4 0),(9,AV.bool u6)] u1 g))/\(u6=false->1<=1/\(decide (u5<u4)=true->1<=1/\(-9223372036854775808<=u5+1/\u5+1<=9223372036854775807)/\(true=true/\Does Tryd.prog R 78 [int i64 (u5+1),int u64 (s:Int),ref 0 0,ref 1 0,ref 2 0,ref 3 0,ref 4 0] u1 g (ret (tup 0 (nth []))) u3 g)/\Tables.follows Tryd.prog.toTables Departure.mixedOrders=true/\1<=1/\(-9223372036854775808<=u5+1/\u5+1<=9223372036854775807)/\1<=1/\(0<=u5/\u5<u4)/\1<=1/\(∀(hp:List AObj) (g:R.σ),true=true/\Does Tryd.prog R 79 [af O.l k] hp g (ret (int u64 (↑(2^(O.l.getD k 0).toNat):Int))) hp g)/\(true=true/\Does Tryd.prog R 78 [int i64 (u5+1),int u64 (IntKind.wrap u64 (↑(BitVec.toNat (BitVec.ofInt 64 (s:Int)|||BitVec.ofInt 64 (↑(2^(O.l.getD k 0).toNat):Int))):Int)),ref 0 0,ref 1 0,ref 2 0,ref 3 0,ref 4 0] u3 g (ret (tup 0 (nth []))) u2 g)/\Q AEx.normal (St.mk [] u2 g))/\(decide (u5<u4)=false->Wp Tryd.prog R 47 5 Rd.top (ah Tryd.prog 78) [0,1,1,1,1] (aq Tryd.prog R 47 5 Rd.top (ah Tryd.prog 78) Q [Kont.blk 0]) (St.mk [(0,int i64 u5),(1,int u64 (s:Int)),(2,ref 0 0),(4,ref 2 0),(5,ref 3 0),(6,ref 4 0),(14,AV.bool (decide (u5<u4)))] u1 g)))) ((↑0:Int)==(most:Int))) ((k:Int))) ((O.l.length:Int))) ([cells false 1 fun (x:Nat)=>ow true 5 m 1,cells false 1 fun (x:Nat)=>int i64 (most:Int),cells false 1 fun (x:Nat)=>fz O.2 1 (O.l.length) fun (i x:Nat)=>af O.l i,cells false 1 fun (x:Nat)=>fn 78 0 (nth []) 5 (nth [ref 0 0,ref 1 0,ref 2 0,ref 3 0,ref 4 0]),cells false 2 (nth [int i64 p.atoms,ae p.rules]),cells false (m*1) fun (a:Nat)=>fz Fz.auto 1 ((ac (L.getD a 0)).l.length) fun (i x:Nat)=>af (ac (L.getD a 0)).l i])) ([cells false 1 fun (x:Nat)=>ow true 6 m' 1,cells false 1 fun (x:Nat)=>int i64 (most:Int),cells false 1 fun (x:Nat)=>fz O.2 1 (O.l.length) fun (i x:Nat)=>af O.l i,cells false 1 fun (x:Nat)=>fn 78 0 (nth []) 5 (nth [ref 0 0,ref 1 0,ref 2 0,ref 3 0,ref 4 0]),cells false 2 (nth [int i64 p.atoms,ae p.rules]),dead,cells false (m'*1) fun (a:Nat)=>fz Fz.auto 1 ((ac (L'.getD a 0)).l.length) fun (i x:Nat)=>af (ac (L'.getD a 0)).l i])) ([cells false 1 fun (x:Nat)=>fz Fz.nil 0 0 fun _ _=>any,cells false 1 fun (x:Nat)=>int i64 (most:Int),cells false 1 fun (x:Nat)=>fz O.2 1 (O.l.length) fun (i x:Nat)=>af O.l i,cells false 1 fun (x:Nat)=>fn 78 0 (nth []) 5 (nth [ref 0 0,ref 1 0,ref 2 0,ref 3 0,ref 4 0]),cells false 2 (nth [int i64 p.atoms,ae p.rules])])) (fun _=>by kernel_rfl) ⟨by omega,by omega,fun hcc=>(nomatch (hz.symm.trans hcc)),fun _=>⟨by omega,fun _=>⟨by omega,by omega,⟨rfl,(i1 _ _)⟩,by kernel_rfl,by omega,by omega,by omega,by omega,by omega,(fun _ _=>⟨rfl,(d5 _ _ (by omega) _ _)⟩),⟨rfl,(i2 _ _)⟩,?_⟩,fun hcc=>(nomatch (hb.symm.trans hcc))⟩⟩
    refine kM (.tup 0 (nth [])) _ rfl trivial ?_
    refine bo [0,1,2,3,4,6] 7 ?_ ?_ ?_ ?_ ?_ ?_ ?_
    ·rfl
    ·rfl
    ·rfl
    ·rfl
    ·rfl
    ·exact⟨Le.refl _,trivial⟩
    ·exact⟨⟨rfl,Nat.le_refl _,fun j hj=>Le.refl _⟩,LeO.refl _,LeO.refl _,⟨rfl,Nat.le_refl _,fun j hj=>kN⟩,⟨rfl,Nat.le_refl _,fun j hj=>match j,hj with|0,_=>Le.refl _|1,_=>aB (by exact trivial)⟩,⟨rfl,Nat.le_refl _,fun j hj=>Le.refl _⟩,trivial⟩
 ·intro R _ s m L g hs hL hmL hmm h
  rw[e0] at h
  have h0:0<m:=by rw[hmL];exact List.length_pos_iff.2 hL
  by_cases hf:m=most
  ·have hz:((m:Int)==(most:Int))=true:=by rw[beq_iff_eq];omega
   refine ax (nt:=47) (rs:=[]) (k0:=6) (by kernel_rfl) (by kernel_rfl) (by kernel_rfl) rfl ?_
   refine vcQ [[0,1,1]] (lkL [(0,[0,1,2,4,5,6,9])]) (fun _=>[]) (fun Q=>(fun (u1:St R.σ)=>1<=1/\1<=1/\(((m:Int)==(most:Int))=true->Q AEx.normal u1)/\(((m:Int)==(most:Int))=false->Wp Tryd.prog R 47 6 Rd.top (ah Tryd.prog 78) [0,1,1] (aq Tryd.prog R 47 6 Rd.top (ah Tryd.prog 78) Q [Kont.blk 0]) u1)) (St.mk [(0,int i64 (k:Int)),(1,int u64 (s:Int)),(2,ref 0 0),(4,ref 2 0),(5,ref 3 0),(6,ref 4 0),(9,AV.bool ((m:Int)==(most:Int)))] [cells false 1 fun (x:Nat)=>ow true 5 m 1,cells false 1 fun (x:Nat)=>int i64 (most:Int),cells false 1 fun (x:Nat)=>fz O.2 1 (O.l.length) fun (i x:Nat)=>af O.l i,cells false 1 fun (x:Nat)=>fn 78 0 (nth []) 5 (nth [ref 0 0,ref 1 0,ref 2 0,ref 3 0,ref 4 0]),cells false 2 (nth [int i64 p.atoms,ae p.rules]),cells false (m*1) fun (a:Nat)=>fz Fz.auto 1 ((ac (L.getD a 0)).l.length) fun (i x:Nat)=>af (ac (L.getD a 0)).l i] g)) (fun _=>by kernel_rfl) ⟨by omega,by omega,fun _=>?_,fun hcc=>(nomatch (hz.symm.trans hcc))⟩
   refine(av (aS _ _ rfl trivial rfl rfl rfl) (Le.refl _))
  ·have hz:((m:Int)==(most:Int))=false:=by rw[beq_eq_false_iff_ne];omega
   rw[if_neg (by omega)] at h
   obtain⟨t,ht⟩:∃t,s|||2^(O.l.getD k 0).toNat=t:=⟨_,rfl⟩
   have ht24:t<2^24:=by rw[<-ht];exact hor24 s hs
   have hoS:=(hor s hs).trans (congrArg (fun n:Nat=>(n:Int)) ht)
   rw[ht] at h
   have hlen:=ef (p:=p) (most:=most) (r:=r) (s:=s) (out:=L) (by omega)
   have hlen2:=ef (p:=p) (most:=most) (r:=r) (s:=t) (out:=stF p most r s L) hlen.2.1
   rw[h] at hlen2
   have hL1:=hlen.2.2 (by omega)
   rw[hL1] at h
   have i1:=fun (R:Res) [Tab LT R] (g:R.σ)=>ih.on R s m L g hs hL hmL hmm hL1
   have i2:∀(R:Res) [Tab LT R] (g:R.σ),Does Tryd.prog R 78 [.int .i64 ((k:Int)+1),.int .u64 (IntKind.u64.wrap ((BitVec.ofInt 64 (s:Int)|||BitVec.ofInt 64 ((2^(O.l.getD k 0).toNat:Nat):Int)).toNat:Int)),.ref 0 0,.ref 1 0,.ref 2 0,.ref 3 0,.ref 4 0] [.cells false 1 (fun _=>.ow true 5 m 1),.cells false 1 (fun _=>.int .i64 most),.cells false 1 (fun _=>ak O),.cells false 1 (fun _=>.fn 78 0 (nth []) 5 (nth [.ref 0 0,.ref 1 0,.ref 2 0,.ref 3 0,.ref 4 0])),.cells false 2 (nth [.int .i64 p.atoms,ae p.rules]),.cells false (m*1) (aQ L)] g (.ret (.tup 0 (nth []))) [.cells false 1 (fun _=>.ow true 5 m 1),.cells false 1 (fun _=>.int .i64 most),.cells false 1 (fun _=>ak O),.cells false 1 (fun _=>.fn 78 0 (nth []) 5 (nth [.ref 0 0,.ref 1 0,.ref 2 0,.ref 3 0,.ref 4 0])),.cells false 2 (nth [.int .i64 p.atoms,ae p.rules]),.cells false (m*1) (aQ L)] g:=fun R _ g=>by rw[hoS];exact ih.on R t m L g ht24 hL hmL hmm h
   refine ax (nt:=47) (rs:=[]) (k0:=6) (by kernel_rfl) (by kernel_rfl) (by kernel_rfl) rfl ?_
   refine vcQ [[0,1,0],[0,1,1,1,1]] (lkL [(0,[0,1,2,4,5,6,9]),(1,[0,1,2,4,5,6,14]),(2,[0,1,4,5])]) (lkL [(2,[(4,ROrc.call (tup 0 (nth [])) [cells false 1 fun (x:Nat)=>ow true 5 m 1,cells false 1 fun (x:Nat)=>int i64 (most:Int),cells false 1 fun (x:Nat)=>ak O,cells false 1 fun (x:Nat)=>fn 78 0 (nth []) 5 (nth [ref 0 0,ref 1 0,ref 2 0,ref 3 0,ref 4 0]),cells false 2 (nth [int i64 p.atoms,ae p.rules]),cells false (m*1) (aQ L)] g)]),(3,[(8,ROrc.pcall (int u64 (↑(2^(O.l.getD k 0).toNat):Int))),(10,ROrc.callS (tup 0 (nth [])) [(2,cells false 1 fun (x:Nat)=>ak O),(5,cells false (m*1) (aQ L))] g)])]) (fun Q=>(fun (u1:List AObj)=>(fun (u2:Int)=>(fun (u3:Int)=>(fun (u4:Bool)=>1<=1/\1<=1/\(u4=true->Wp Tryd.prog R 47 6 Rd.top (ah Tryd.prog 78) [0,1,0] (aq Tryd.prog R 47 6 Rd.top (ah Tryd.prog 78) Q [Kont.blk 0]) (St.mk [(0,int i64 u3),(1,int u64 (s:Int)),(2,ref 0 0),(4,ref 2 0),(5,ref 3 0),(6,ref 4 0),(9,AV.bool u4)] u1 g))/\(u4=false->1<=1/\(decide (u3<u2)=true->1<=1/\(-9223372036854775808<=u3+1/\u3+1<=9223372036854775807)/\(true=true/\Does Tryd.prog R 78 [int i64 (u3+1),int u64 (s:Int),ref 0 0,ref 1 0,ref 2 0,ref 3 0,ref 4 0] u1 g (ret (tup 0 (nth []))) u1 g)/\Tables.follows Tryd.prog.toTables Departure.mixedOrders=true/\1<=1/\(-9223372036854775808<=u3+1/\u3+1<=9223372036854775807)/\1<=1/\(0<=u3/\u3<u2)/\1<=1/\(∀(hp:List AObj) (g:R.σ),true=true/\Does Tryd.prog R 79 [af O.l k] hp g (ret (int u64 (↑(2^(O.l.getD k 0).toNat):Int))) hp g)/\(true=true/\Does Tryd.prog R 78 [int i64 (u3+1),int u64 (IntKind.wrap u64 (↑(BitVec.toNat (BitVec.ofInt 64 (s:Int)|||BitVec.ofInt 64 (↑(2^(O.l.getD k 0).toNat):Int))):Int)),ref 0 0,ref 1 0,ref 2 0,ref 3 0,ref 4 0] u1 g (ret (tup 0 (nth []))) u1 g)/\Q AEx.normal (St.mk [] u1 g))/\(decide (u3<u2)=false->Wp Tryd.prog R 47 6 Rd.top (ah Tryd.prog 78) [0,1,1,1,1] (aq Tryd.prog R 47 6 Rd.top (ah Tryd.prog 78) Q [Kont.blk 0]) (St.mk [(0,int i64 u3),(1,int u64 (s:Int)),(2,ref 0 0),(4,ref 2 0),(5,ref 3 0),(6,ref 4 0),(14,AV.bool (decide (u3<u2)))] u1 g)))) ((m:Int)==(most:Int))) ((k:Int))) ((O.l.length:Int))) ([cells false 1 fun (x:Nat)=>ow true 5 m 1,cells false 1 fun (x:Nat)=>int i64 (most:Int),cells false 1 fun (x:Nat)=>fz O.2 1 (O.l.length) fun (i x:Nat)=>af O.l i,cells false 1 fun (x:Nat)=>fn 78 0 (nth []) 5 (nth [ref 0 0,ref 1 0,ref 2 0,ref 3 0,ref 4 0]),cells false 2 (nth [int i64 p.atoms,ae p.rules]),cells false (m*1) fun (a:Nat)=>fz Fz.auto 1 ((ac (L.getD a 0)).l.length) fun (i x:Nat)=>af (ac (L.getD a 0)).l i])) (fun _=>by kernel_rfl) ⟨by omega,by omega,fun hcc=>(nomatch (hz.symm.trans hcc)),fun _=>⟨by omega,fun _=>⟨by omega,by omega,⟨rfl,(i1 _ _)⟩,by kernel_rfl,by omega,by omega,by omega,by omega,by omega,(fun _ _=>⟨rfl,(d5 _ _ (by omega) _ _)⟩),⟨rfl,(i2 _ _)⟩,?_⟩,fun hcc=>(nomatch (hb.symm.trans hcc))⟩⟩
   refine(av (aS _ _ rfl trivial rfl rfl rfl) (Le.refl _))
 ·intro R _ s m m' L L' g hs hL hmL hmm h hm' hne
  rw[e0] at h
  have h0:0<m:=by rw[hmL];exact List.length_pos_iff.2 hL
  have hf:¬m=most:=fun e=>by
   rw[if_pos (by omega)] at h
   subst h
   omega
  have hz:((m:Int)==(most:Int))=false:=by rw[beq_eq_false_iff_ne];omega
  rw[if_neg (by omega)] at h
  obtain⟨t,ht⟩:∃t,s|||2^(O.l.getD k 0).toNat=t:=⟨_,rfl⟩
  have ht24:t<2^24:=by rw[<-ht];exact hor24 s hs
  have hoS:=(hor s hs).trans (congrArg (fun n:Nat=>(n:Int)) ht)
  rw[ht] at h
  have hlen:=ef (p:=p) (most:=most) (r:=r) (s:=s) (out:=L) (by omega)
  obtain⟨L1,hL1⟩:∃L1,stF p most r s L=L1:=⟨_,rfl⟩
  obtain⟨m1,hm1⟩:∃m1,m1=L1.length:=⟨_,rfl⟩
  rw[hL1] at h hlen
  have hlen2:=ef (p:=p) (most:=most) (r:=r) (s:=t) (out:=L1) hlen.2.1
  rw[h] at hlen2
  have h01:0<m1:=by omega
  have h0':0<m':=by omega
  have hmm1:m1<=most:=by omega
  have hmm':m'<=most:=by omega
  have hL1n:L1≠[]:=List.length_pos_iff.1 (by omega)
  by_cases e1:m=m1
  ·have hLL:L1=L:=hlen.2.2 (by omega)
   subst hLL
   have i1:=fun (R:Res) [Tab LT R] (g:R.σ)=>ih.on R s m L1 g hs hL hmL hmm hL1
   have i2:∀(R:Res) [Tab LT R] (g:R.σ),Does Tryd.prog R 78 [.int .i64 ((k:Int)+1),.int .u64 (IntKind.u64.wrap ((BitVec.ofInt 64 (s:Int)|||BitVec.ofInt 64 ((2^(O.l.getD k 0).toNat:Nat):Int)).toNat:Int)),.ref 0 0,.ref 1 0,.ref 2 0,.ref 3 0,.ref 4 0] [.cells false 1 (fun _=>.ow true 5 m 1),.cells false 1 (fun _=>.int .i64 most),.cells false 1 (fun _=>ak O),.cells false 1 (fun _=>.fn 78 0 (nth []) 5 (nth [.ref 0 0,.ref 1 0,.ref 2 0,.ref 3 0,.ref 4 0])),.cells false 2 (nth [.int .i64 p.atoms,ae p.rules]),.cells false (m*1) (aQ L1)] g (.ret (.tup 0 (nth []))) [.cells false 1 (fun _=>.ow true 6 m' 1),.cells false 1 (fun _=>.int .i64 most),.cells false 1 (fun _=>ak O),.cells false 1 (fun _=>.fn 78 0 (nth []) 5 (nth [.ref 0 0,.ref 1 0,.ref 2 0,.ref 3 0,.ref 4 0])),.cells false 2 (nth [.int .i64 p.atoms,ae p.rules]),.dead,.cells false (m'*1) (aQ L')] g:=fun R _ g=>by rw[hoS];exact ih.ow R t m m' L1 L' g ht24 hL hmL hmm h hm' hne
   refine ax (nt:=47) (rs:=[]) (k0:=6) (by kernel_rfl) (by kernel_rfl) (by kernel_rfl) rfl ?_
   refine vcQ [[0,1,0],[0,1,1,1,1]] (lkL [(0,[0,1,2,4,5,6,9]),(1,[0,1,2,4,5,6,14]),(2,[0,1,4,5])]) (lkL [(2,[(4,ROrc.call (tup 0 (nth [])) [cells false 1 fun (x:Nat)=>ow true 5 m 1,cells false 1 fun (x:Nat)=>int i64 (most:Int),cells false 1 fun (x:Nat)=>ak O,cells false 1 fun (x:Nat)=>fn 78 0 (nth []) 5 (nth [ref 0 0,ref 1 0,ref 2 0,ref 3 0,ref 4 0]),cells false 2 (nth [int i64 p.atoms,ae p.rules]),cells false (m*1) (aQ L1)] g)]),(3,[(8,ROrc.pcall (int u64 (↑(2^(O.l.getD k 0).toNat):Int))),(10,ROrc.callN (tup 0 (nth [])) [(0,cells false 1 fun (x:Nat)=>ow true 6 m' 1),(2,cells false 1 fun (x:Nat)=>ak O),(5,dead)] [cells false (m'*1) (aQ L')] g)])]) (fun Q=>(fun (u1:List AObj)=>(fun (u2:List AObj)=>(fun (u3:Int)=>(fun (u4:Int)=>(fun (u5:Bool)=>1<=1/\1<=1/\(u5=true->Wp Tryd.prog R 47 6 Rd.top (ah Tryd.prog 78) [0,1,0] (aq Tryd.prog R 47 6 Rd.top (ah Tryd.prog 78) Q [Kont.blk 0]) (St.mk [(0,int i64 u4),(1,int u64 (s:Int)),(2,ref 0 0),(4,ref 2 0),(5,ref 3 0),(6,ref 4 0),(9,AV.bool u5)] u1 g))/\(u5=false->1<=1/\(decide (u4<u3)=true->1<=1/\(-9223372036854775808<=u4+1/\u4+1<=9223372036854775807)/\(true=true/\Does Tryd.prog R 78 [int i64 (u4+1),int u64 (s:Int),ref 0 0,ref 1 0,ref 2 0,ref 3 0,ref 4 0] u1 g (ret (tup 0 (nth []))) u1 g)/\Tables.follows Tryd.prog.toTables Departure.mixedOrders=true/\1<=1/\(-9223372036854775808<=u4+1/\u4+1<=9223372036854775807)/\1<=1/\(0<=u4/\u4<u3)/\1<=1/\(∀(hp:List AObj) (g:R.σ),true=true/\Does Tryd.prog R 79 [af O.l k] hp g (ret (int u64 (↑(2^(O.l.getD k 0).toNat):Int))) hp g)/\(true=true/\Does Tryd.prog R 78 [int i64 (u4+1),int u64 (IntKind.wrap u64 (↑(BitVec.toNat (BitVec.ofInt 64 (s:Int)|||BitVec.ofInt 64 (↑(2^(O.l.getD k 0).toNat):Int))):Int)),ref 0 0,ref 1 0,ref 2 0,ref 3 0,ref 4 0] u1 g (ret (tup 0 (nth []))) u2 g)/\Q AEx.normal (St.mk [] u2 g))/\(decide (u4<u3)=false->Wp Tryd.prog R 47 6 Rd.top (ah Tryd.prog 78) [0,1,1,1,1] (aq Tryd.prog R 47 6 Rd.top (ah Tryd.prog 78) Q [Kont.blk 0]) (St.mk [(0,int i64 u4),(1,int u64 (s:Int)),(2,ref 0 0),(4,ref 2 0),(5,ref 3 0),(6,ref 4 0),(14,AV.bool (decide (u4<u3)))] u1 g)))) ((m:Int)==(most:Int))) ((k:Int))) ((O.l.length:Int))) ([cells false 1 fun (x:Nat)=>ow true 6 m' 1,cells false 1 fun (x:Nat)=>int i64 (most:Int),cells false 1 fun (x:Nat)=>fz O.2 1 (O.l.length) fun (i x:Nat)=>af O.l i,cells false 1 fun (x:Nat)=>fn 78 0 (nth []) 5 (nth [ref 0 0,ref 1 0,ref 2 0,ref 3 0,ref 4 0]),cells false 2 (nth [int i64 p.atoms,ae p.rules]),dead,cells false (m'*1) fun (a:Nat)=>fz Fz.auto 1 ((ac (L'.getD a 0)).l.length) fun (i x:Nat)=>af (ac (L'.getD a 0)).l i])) ([cells false 1 fun (x:Nat)=>ow true 5 m 1,cells false 1 fun (x:Nat)=>int i64 (most:Int),cells false 1 fun (x:Nat)=>fz O.2 1 (O.l.length) fun (i x:Nat)=>af O.l i,cells false 1 fun (x:Nat)=>fn 78 0 (nth []) 5 (nth [ref 0 0,ref 1 0,ref 2 0,ref 3 0,ref 4 0]),cells false 2 (nth [int i64 p.atoms,ae p.rules]),cells false (m*1) fun (a:Nat)=>fz Fz.auto 1 ((ac (L1.getD a 0)).l.length) fun (i x:Nat)=>af (ac (L1.getD a 0)).l i])) (fun _=>by kernel_rfl) ⟨by omega,by omega,fun hcc=>(nomatch (hz.symm.trans hcc)),fun _=>⟨by omega,fun _=>⟨by omega,by omega,⟨rfl,(i1 _ _)⟩,by kernel_rfl,by omega,by omega,by omega,by omega,by omega,(fun _ _=>⟨rfl,(d5 _ _ (by omega) _ _)⟩),⟨rfl,(i2 _ _)⟩,?_⟩,fun hcc=>(nomatch (hb.symm.trans hcc))⟩⟩
   refine(av (aS _ _ rfl trivial rfl rfl rfl) (Le.refl _))
  ·have i1:=fun (R:Res) [Tab LT R] (g:R.σ)=>ih.ow R s m m1 L L1 g hs hL hmL hmm hL1 hm1 e1
   by_cases e2:m1=m'
   ·have hLL:L'=L1:=hlen2.2.2 (by omega)
    subst hLL
    subst e2
    have i2:∀(R:Res) [Tab LT R] (g:R.σ),Does Tryd.prog R 78 [.int .i64 ((k:Int)+1),.int .u64 (IntKind.u64.wrap ((BitVec.ofInt 64 (s:Int)|||BitVec.ofInt 64 ((2^(O.l.getD k 0).toNat:Nat):Int)).toNat:Int)),.ref 0 0,.ref 1 0,.ref 2 0,.ref 3 0,.ref 4 0] [.cells false 1 (fun _=>.ow true 5 m1 1),.cells false 1 (fun _=>.int .i64 most),.cells false 1 (fun _=>ak O),.cells false 1 (fun _=>.fn 78 0 (nth []) 5 (nth [.ref 0 0,.ref 1 0,.ref 2 0,.ref 3 0,.ref 4 0])),.cells false 2 (nth [.int .i64 p.atoms,ae p.rules]),.cells false (m1*1) (aQ L')] g (.ret (.tup 0 (nth []))) [.cells false 1 (fun _=>.ow true 5 m1 1),.cells false 1 (fun _=>.int .i64 most),.cells false 1 (fun _=>ak O),.cells false 1 (fun _=>.fn 78 0 (nth []) 5 (nth [.ref 0 0,.ref 1 0,.ref 2 0,.ref 3 0,.ref 4 0])),.cells false 2 (nth [.int .i64 p.atoms,ae p.rules]),.cells false (m1*1) (aQ L')] g:=fun R _ g=>by rw[hoS];exact ih.on R t m1 L' g ht24 hL1n hm1 hmm1 h
    refine ax (nt:=47) (rs:=[]) (k0:=6) (by kernel_rfl) (by kernel_rfl) (by kernel_rfl) rfl ?_
    refine vcQ [[0,1,0],[0,1,1,1,1]] (lkL [(0,[0,1,2,4,5,6,9]),(1,[0,1,2,4,5,6,14]),(2,[0,1,4,5])]) (lkL [(2,[(4,ROrc.call (tup 0 (nth [])) [cells false 1 fun (x:Nat)=>ow true 6 m1 1,cells false 1 fun (x:Nat)=>int i64 (most:Int),cells false 1 fun (x:Nat)=>ak O,cells false 1 fun (x:Nat)=>fn 78 0 (nth []) 5 (nth [ref 0 0,ref 1 0,ref 2 0,ref 3 0,ref 4 0]),cells false 2 (nth [int i64 p.atoms,ae p.rules]),dead,cells false (m1*1) (aQ L')] g)]),(3,[(8,ROrc.pcall (int u64 (↑(2^(O.l.getD k 0).toNat):Int))),(10,ROrc.kcall (tup 0 (nth [])))])]) (fun Q=>(fun (u1:List AObj)=>(fun (u2:List AObj)=>(fun (u3:Int)=>(fun (u4:Int)=>(fun (u5:Bool)=>1<=1/\1<=1/\(u5=true->Wp Tryd.prog R 47 6 Rd.top (ah Tryd.prog 78) [0,1,0] (aq Tryd.prog R 47 6 Rd.top (ah Tryd.prog 78) Q [Kont.blk 0]) (St.mk [(0,int i64 u4),(1,int u64 (s:Int)),(2,ref 0 0),(4,ref 2 0),(5,ref 3 0),(6,ref 4 0),(9,AV.bool u5)] u2 g))/\(u5=false->1<=1/\(decide (u4<u3)=true->1<=1/\(-9223372036854775808<=u4+1/\u4+1<=9223372036854775807)/\(true=true/\Does Tryd.prog R 78 [int i64 (u4+1),int u64 (s:Int),ref 0 0,ref 1 0,ref 2 0,ref 3 0,ref 4 0] u2 g (ret (tup 0 (nth []))) u1 g)/\Tables.follows Tryd.prog.toTables Departure.mixedOrders=true/\1<=1/\(-9223372036854775808<=u4+1/\u4+1<=9223372036854775807)/\1<=1/\(0<=u4/\u4<u3)/\1<=1/\(∀(hp:List AObj) (g:R.σ),true=true/\Does Tryd.prog R 79 [af O.l k] hp g (ret (int u64 (↑(2^(O.l.getD k 0).toNat):Int))) hp g)/\(true=true/\Does Tryd.prog R 78 [int i64 (u4+1),int u64 (IntKind.wrap u64 (↑(BitVec.toNat (BitVec.ofInt 64 (s:Int)|||BitVec.ofInt 64 (↑(2^(O.l.getD k 0).toNat):Int))):Int)),ref 0 0,ref 1 0,ref 2 0,ref 3 0,ref 4 0] u1 g (ret (tup 0 (nth []))) u1 g)/\Q AEx.normal (St.mk [] u1 g))/\(decide (u4<u3)=false->Wp Tryd.prog R 47 6 Rd.top (ah Tryd.prog 78) [0,1,1,1,1] (aq Tryd.prog R 47 6 Rd.top (ah Tryd.prog 78) Q [Kont.blk 0]) (St.mk [(0,int i64 u4),(1,int u64 (s:Int)),(2,ref 0 0),(4,ref 2 0),(5,ref 3 0),(6,ref 4 0),(14,AV.bool (decide (u4<u3)))] u2 g)))) ((m:Int)==(most:Int))) ((k:Int))) ((O.l.length:Int))) ([cells false 1 fun (x:Nat)=>ow true 5 m 1,cells false 1 fun (x:Nat)=>int i64 (most:Int),cells false 1 fun (x:Nat)=>fz O.2 1 (O.l.length) fun (i x:Nat)=>af O.l i,cells false 1 fun (x:Nat)=>fn 78 0 (nth []) 5 (nth [ref 0 0,ref 1 0,ref 2 0,ref 3 0,ref 4 0]),cells false 2 (nth [int i64 p.atoms,ae p.rules]),cells false (m*1) fun (a:Nat)=>fz Fz.auto 1 ((ac (L.getD a 0)).l.length) fun (i x:Nat)=>af (ac (L.getD a 0)).l i])) ([cells false 1 fun (x:Nat)=>ow true 6 m1 1,cells false 1 fun (x:Nat)=>int i64 (most:Int),cells false 1 fun (x:Nat)=>fz O.2 1 (O.l.length) fun (i x:Nat)=>af O.l i,cells false 1 fun (x:Nat)=>fn 78 0 (nth []) 5 (nth [ref 0 0,ref 1 0,ref 2 0,ref 3 0,ref 4 0]),cells false 2 (nth [int i64 p.atoms,ae p.rules]),dead,cells false (m1*1) fun (a:Nat)=>fz Fz.auto 1 ((ac (L'.getD a 0)).l.length) fun (i x:Nat)=>af (ac (L'.getD a 0)).l i])) (fun _=>by kernel_rfl) ⟨by omega,by omega,fun hcc=>(nomatch (hz.symm.trans hcc)),fun _=>⟨by omega,fun _=>⟨by omega,by omega,⟨rfl,(i1 _ _)⟩,by kernel_rfl,by omega,by omega,by omega,by omega,by omega,(fun _ _=>⟨rfl,(d5 _ _ (by omega) _ _)⟩),⟨rfl,(bc (T:=LT) inferInstance [0,1,2,3,4,6] 7 (fun R _ g=>i2 R g) rfl rfl rfl (by exact⟨⟨rfl,Nat.le_refl _,fun j hj=>match j,hj with|0,_=>(Le.refl _) ⟩,⟨rfl,Nat.le_refl _,fun j hj=>match j,hj with|0,_=>(Le.refl _) ⟩,⟨rfl,Nat.le_refl _,fun j hj=>match j,hj with|0,_=>(Le.refl _) ⟩,⟨rfl,Nat.le_refl _,fun j hj=>match j,hj with|0,_=>(Le.fn (fun i hi=>absurd hi (by omega)) (fun i hi=>match i,hi with|0,_=>(Le.refl _)|1,_=>(Le.refl _)|2,_=>(Le.refl _)|3,_=>(Le.refl _)|4,_=>(Le.refl _) )) ⟩,⟨rfl,Nat.le_refl _,fun j hj=>match j,hj with|0,_=>(Le.refl _)|1,_=>(Le.refl _) ⟩,⟨rfl,Nat.le_refl _,fun j hj=>(by first|exact aB (by first|exact trivial|apply gn)|exact Le.of_eq (jf rfl).symm)⟩,trivial⟩) (by exact⟨by omega,by omega,by omega,by omega,by omega,by omega,trivial⟩) (by exact⟨aB (by exact trivial),aB (by exact trivial),Le.refl _,Le.refl _,Le.refl _,Le.refl _,Le.refl _,trivial⟩) (by exact aC (by exact trivial)) (by exact⟨⟨rfl,Nat.le_refl _,fun j hj=>match j,hj with|0,_=>(Le.refl _) ⟩,⟨rfl,Nat.le_refl _,fun j hj=>match j,hj with|0,_=>(Le.refl _) ⟩,⟨rfl,Nat.le_refl _,fun j hj=>match j,hj with|0,_=>(Le.refl _) ⟩,⟨rfl,Nat.le_refl _,fun j hj=>match j,hj with|0,_=>(Le.fn (fun i hi=>absurd hi (by omega)) (fun i hi=>match i,hi with|0,_=>(Le.refl _)|1,_=>(Le.refl _)|2,_=>(Le.refl _)|3,_=>(Le.refl _)|4,_=>(Le.refl _) )) ⟩,⟨rfl,Nat.le_refl _,fun j hj=>match j,hj with|0,_=>(Le.refl _)|1,_=>(Le.refl _) ⟩,trivial,⟨rfl,Nat.le_refl _,fun j hj=>(by first|exact aC (by first|exact trivial|apply gn)|exact Le.of_eq (jf rfl))⟩,trivial⟩))⟩,?_⟩,fun hcc=>(nomatch (hb.symm.trans hcc))⟩⟩
    refine(av (aS _ _ rfl trivial rfl rfl rfl) (Le.refl _))
   ·have i2:∀(R:Res) [Tab LT R] (g:R.σ),Does Tryd.prog R 78 [.int .i64 ((k:Int)+1),.int .u64 (IntKind.u64.wrap ((BitVec.ofInt 64 (s:Int)|||BitVec.ofInt 64 ((2^(O.l.getD k 0).toNat:Nat):Int)).toNat:Int)),.ref 0 0,.ref 1 0,.ref 2 0,.ref 3 0,.ref 4 0] [.cells false 1 (fun _=>.ow true 5 m1 1),.cells false 1 (fun _=>.int .i64 most),.cells false 1 (fun _=>ak O),.cells false 1 (fun _=>.fn 78 0 (nth []) 5 (nth [.ref 0 0,.ref 1 0,.ref 2 0,.ref 3 0,.ref 4 0])),.cells false 2 (nth [.int .i64 p.atoms,ae p.rules]),.cells false (m1*1) (aQ L1)] g (.ret (.tup 0 (nth []))) [.cells false 1 (fun _=>.ow true 6 m' 1),.cells false 1 (fun _=>.int .i64 most),.cells false 1 (fun _=>ak O),.cells false 1 (fun _=>.fn 78 0 (nth []) 5 (nth [.ref 0 0,.ref 1 0,.ref 2 0,.ref 3 0,.ref 4 0])),.cells false 2 (nth [.int .i64 p.atoms,ae p.rules]),.dead,.cells false (m'*1) (aQ L')] g:=fun R _ g=>by rw[hoS];exact ih.ow R t m1 m' L1 L' g ht24 hL1n hm1 hmm1 h hm' e2
    refine ax (nt:=47) (rs:=[]) (k0:=6) (by kernel_rfl) (by kernel_rfl) (by kernel_rfl) rfl ?_
    refine vcQ [[0,1,0],[0,1,1,1,1]] (lkL [(0,[0,1,2,4,5,6,9]),(1,[0,1,2,4,5,6,14]),(2,[0,1,4,5])]) (lkL [(2,[(4,ROrc.call (tup 0 (nth [])) [cells false 1 fun (x:Nat)=>ow true 6 m1 1,cells false 1 fun (x:Nat)=>int i64 (most:Int),cells false 1 fun (x:Nat)=>ak O,cells false 1 fun (x:Nat)=>fn 78 0 (nth []) 5 (nth [ref 0 0,ref 1 0,ref 2 0,ref 3 0,ref 4 0]),cells false 2 (nth [int i64 p.atoms,ae p.rules]),dead,cells false (m1*1) (aQ L1)] g)]),(3,[(8,ROrc.pcall (int u64 (↑(2^(O.l.getD k 0).toNat):Int))),(10,ROrc.callN (tup 0 (nth [])) [(0,cells false 1 fun (j:Nat)=>ow true 7 m' 1),(6,dead)] [cells false (m'*1) (aQ L')] g)])]) (fun Q=>(fun (u1:List AObj)=>(fun (u2:List AObj)=>(fun (u3:List AObj)=>(fun (u4:Int)=>(fun (u5:Int)=>(fun (u6:Bool)=>1<=1/\1<=1/\(u6=true->Wp Tryd.prog R 47 6 Rd.top (ah Tryd.prog 78) [0,1,0] (aq Tryd.prog R 47 6 Rd.top (ah Tryd.prog 78) Q [Kont.blk 0]) (St.mk [(0,int i64 u5),(1,int u64 (s:Int)),(2,ref 0 0),(4,ref 2 0),(5,ref 3 0),(6,ref 4 0),(9,AV.bool u6)] u1 g))/\(u6=false->1<=1/\(decide (u5<u4)=true->1<=1/\(-9223372036854775808<=u5+1/\u5+1<=9223372036854775807)/\(true=true/\Does Tryd.prog R 78 [int i64 (u5+1),int u64 (s:Int),ref 0 0,ref 1 0,ref 2 0,ref 3 0,ref 4 0] u1 g (ret (tup 0 (nth []))) u3 g)/\Tables.follows Tryd.prog.toTables Departure.mixedOrders=true/\1<=1/\(-9223372036854775808<=u5+1/\u5+1<=9223372036854775807)/\1<=1/\(0<=u5/\u5<u4)/\1<=1/\(∀(hp:List AObj) (g:R.σ),true=true/\Does Tryd.prog R 79 [af O.l k] hp g (ret (int u64 (↑(2^(O.l.getD k 0).toNat):Int))) hp g)/\(true=true/\Does Tryd.prog R 78 [int i64 (u5+1),int u64 (IntKind.wrap u64 (↑(BitVec.toNat (BitVec.ofInt 64 (s:Int)|||BitVec.ofInt 64 (↑(2^(O.l.getD k 0).toNat):Int))):Int)),ref 0 0,ref 1 0,ref 2 0,ref 3 0,ref 4 0] u3 g (ret (tup 0 (nth []))) u2 g)/\Q AEx.normal (St.mk [] u2 g))/\(decide (u5<u4)=false->Wp Tryd.prog R 47 6 Rd.top (ah Tryd.prog 78) [0,1,1,1,1] (aq Tryd.prog R 47 6 Rd.top (ah Tryd.prog 78) Q [Kont.blk 0]) (St.mk [(0,int i64 u5),(1,int u64 (s:Int)),(2,ref 0 0),(4,ref 2 0),(5,ref 3 0),(6,ref 4 0),(14,AV.bool (decide (u5<u4)))] u1 g)))) ((m:Int)==(most:Int))) ((k:Int))) ((O.l.length:Int))) ([cells false 1 fun (x:Nat)=>ow true 6 m1 1,cells false 1 fun (x:Nat)=>int i64 (most:Int),cells false 1 fun (x:Nat)=>fz O.2 1 (O.l.length) fun (i x:Nat)=>af O.l i,cells false 1 fun (x:Nat)=>fn 78 0 (nth []) 5 (nth [ref 0 0,ref 1 0,ref 2 0,ref 3 0,ref 4 0]),cells false 2 (nth [int i64 p.atoms,ae p.rules]),dead,cells false (m1*1) fun (a:Nat)=>fz Fz.auto 1 ((ac (L1.getD a 0)).l.length) fun (i x:Nat)=>af (ac (L1.getD a 0)).l i])) ([cells false 1 fun (j:Nat)=>ow true 7 m' 1,cells false 1 fun (x:Nat)=>int i64 (most:Int),cells false 1 fun (x:Nat)=>fz O.2 1 (O.l.length) fun (i x:Nat)=>af O.l i,cells false 1 fun (x:Nat)=>fn 78 0 (nth []) 5 (nth [ref 0 0,ref 1 0,ref 2 0,ref 3 0,ref 4 0]),cells false 2 (nth [int i64 p.atoms,ae p.rules]),dead,dead,cells false (m'*1) fun (a:Nat)=>fz Fz.auto 1 ((ac (L'.getD a 0)).l.length) fun (i x:Nat)=>af (ac (L'.getD a 0)).l i])) ([cells false 1 fun (x:Nat)=>ow true 5 m 1,cells false 1 fun (x:Nat)=>int i64 (most:Int),cells false 1 fun (x:Nat)=>fz O.2 1 (O.l.length) fun (i x:Nat)=>af O.l i,cells false 1 fun (x:Nat)=>fn 78 0 (nth []) 5 (nth [ref 0 0,ref 1 0,ref 2 0,ref 3 0,ref 4 0]),cells false 2 (nth [int i64 p.atoms,ae p.rules]),cells false (m*1) fun (a:Nat)=>fz Fz.auto 1 ((ac (L.getD a 0)).l.length) fun (i x:Nat)=>af (ac (L.getD a 0)).l i])) (fun _=>by kernel_rfl) ⟨by omega,by omega,fun hcc=>(nomatch (hz.symm.trans hcc)),fun _=>⟨by omega,fun _=>⟨by omega,by omega,⟨rfl,(i1 _ _)⟩,by kernel_rfl,by omega,by omega,by omega,by omega,by omega,(fun _ _=>⟨rfl,(d5 _ _ (by omega) _ _)⟩),⟨rfl,(bc (T:=LT) inferInstance [0,1,2,3,4,6] 7 (fun R _ g=>i2 R g) rfl rfl rfl (by exact⟨⟨rfl,Nat.le_refl _,fun j hj=>match j,hj with|0,_=>(Le.refl _) ⟩,⟨rfl,Nat.le_refl _,fun j hj=>match j,hj with|0,_=>(Le.refl _) ⟩,⟨rfl,Nat.le_refl _,fun j hj=>match j,hj with|0,_=>(Le.refl _) ⟩,⟨rfl,Nat.le_refl _,fun j hj=>match j,hj with|0,_=>(Le.fn (fun i hi=>absurd hi (by omega)) (fun i hi=>match i,hi with|0,_=>(Le.refl _)|1,_=>(Le.refl _)|2,_=>(Le.refl _)|3,_=>(Le.refl _)|4,_=>(Le.refl _) )) ⟩,⟨rfl,Nat.le_refl _,fun j hj=>match j,hj with|0,_=>(Le.refl _)|1,_=>(Le.refl _) ⟩,⟨rfl,Nat.le_refl _,fun j hj=>(by first|exact aB (by first|exact trivial|apply gn)|exact Le.of_eq (jf rfl).symm)⟩,trivial⟩) (by exact⟨by omega,by omega,by omega,by omega,by omega,by omega,trivial⟩) (by exact⟨aB (by exact trivial),aB (by exact trivial),Le.refl _,Le.refl _,Le.refl _,Le.refl _,Le.refl _,trivial⟩) (by exact aC (by exact trivial)) (by exact⟨LeO.rflc,⟨rfl,Nat.le_refl _,fun j hj=>match j,hj with|0,_=>(Le.refl _) ⟩,⟨rfl,Nat.le_refl _,fun j hj=>match j,hj with|0,_=>(Le.refl _) ⟩,⟨rfl,Nat.le_refl _,fun j hj=>match j,hj with|0,_=>(Le.fn (fun i hi=>absurd hi (by omega)) (fun i hi=>match i,hi with|0,_=>(Le.refl _)|1,_=>(Le.refl _)|2,_=>(Le.refl _)|3,_=>(Le.refl _)|4,_=>(Le.refl _) )) ⟩,⟨rfl,Nat.le_refl _,fun j hj=>match j,hj with|0,_=>(Le.refl _)|1,_=>(Le.refl _) ⟩,trivial,trivial,⟨rfl,Nat.le_refl _,fun j hj=>(by first|exact aC (by first|exact trivial|apply gn)|exact Le.of_eq (jf rfl))⟩,trivial⟩))⟩,?_⟩,fun hcc=>(nomatch (hb.symm.trans hcc))⟩⟩
    refine kM (.tup 0 (nth [])) _ rfl trivial ?_
    refine bo [0,1,2,3,4,5,7] 8 ?_ ?_ ?_ ?_ ?_ ?_ ?_
    ·rfl
    ·rfl
    ·rfl
    ·rfl
    ·rfl
    ·exact⟨Le.refl _,trivial⟩
    ·exact⟨⟨rfl,Nat.le_refl _,fun j hj=>Le.refl _⟩,LeO.refl _,LeO.refl _,⟨rfl,Nat.le_refl _,fun j hj=>kN⟩,⟨rfl,Nat.le_refl _,fun j hj=>match j,hj with|0,_=>Le.refl _|1,_=>aB (by exact trivial)⟩,trivial,⟨rfl,Nat.le_refl _,fun j hj=>Le.refl _⟩,trivial⟩
def dz (p:Prg):Nat:=aF (al p).2 3 p.atoms.toNat
def gp (p:Prg):Nat:=aF (al p).2 2 p.atoms.toNat
def stP (p:Prg)(most:Nat):List Nat:=stF p most (aD (dz p)) (gp p) []
theorem nl {p:Prg}{most:Nat}{O:KL Int}(hm:1<=most/\most<=100)(hO:O.l.length<=10)(hOa:∀a,a∈O.l->0<=a/\a<24)(hl:p.rules.l.length<1000000)(hr:∀r,r∈p.rules.l->aP r):∀(j k:Nat),k+j=O.l.length->FromC p most O (O.l.drop k) (k:Int)
 |0,k,h=>by
  have hk:k=O.l.length:=by omega
  subst hk
  rw[List.drop_length]
  exact xb hm hO hl hr
 |j+1,k,h=>by
  rw[fx O.l 0 (show k<O.l.length by omega)]
  exact xd hm hO (by omega) (hOa _ (bK O.l 0 (by omega))) (nl hm hO hOa hl hr j (k+1) (by omega))
theorem q9 {s:Nat}:∀a,a∈(ac s).l->0<=a/\a<24:=by
 intro a ha
 obtain⟨b,hb,rfl⟩:=List.mem_map.1 (show a∈(aj s).map (fun (a:Nat)=>(a:Int)) from ha)
 have:=kw hb
 omega
theorem xe (R:Res)[Tab LT R](p:Prg)(most:Nat)(hb:aJ p=true)(hm:1<=most/\most<=100)(hO:(aD (dz p)).length<=10)(hN:stP p most=[])(g:R.σ):Does Tryd.prog R 27 [aA p,.int .i64 most] [] g (.ret (.tup 2 (nth [.fz .nil 0 0 (fun _ _=>.any),.int .i64 0]))) [] g:=by
 obtain⟨hl,hr,hp,hh,hx⟩:=eG hb
 have hs:dK p:=fF hb
 have hp':1<=p.atoms/\p.atoms<=24:=hp
 have hc:(bif ((if aJ p then(0:Int) else 2) != 0) then true else !decide (1<=(most:Int)/\(most:Int)<=100))=false:=by
  rw[hb,decide_eq_true (by omega)]
  rfl
 have hD:=fun (R:Res) [Tab LT R] (g:R.σ)=>m5 R p hl hr hp hh g
 have hC:=fun (R:Res) [Tab LT R] (s:Nat) (hs:s<2^24) (g:R.σ)=>g9 R s hs g
 have hlt:aF (al p).2 3 p.atoms.toNat<2^24:=i4 (by omega)
 have hS:=fun (R:Res) (g:R.σ)=>kL R (al p).2 p.atoms 3 (by omega) g
 have hS2:=fun (R:Res) (g:R.σ)=>kL R (al p).2 p.atoms 2 (by omega) g
 have hgt:decide ((10:Int)<((ac (aF (al p).2 3 p.atoms.toNat)).l.length:Int))=false:=decide_eq_false (by
  have hO:(ac (aF (al p).2 3 p.atoms.toNat)).l.length<=10:=hO
  omega)
 have hF0:=(nl (p:=p) (most:=most) (O:=ac (dz p)) hm hO q9 hl hr (ac (dz p)).l.length 0 (by omega)).nn
 rw[List.drop_zero] at hF0
 have hF:=fun (R:Res) [Tab LT R] (g:R.σ)=>hF0 R (gp p) g (i4 (by omega)) hN
 unfold gp dz at hF
 clear hF0
 refine ax (nt:=45) (rs:=[.tmp 4,.tmp 5]) (k0:=0) (by kernel_rfl) (by kernel_rfl) (by kernel_rfl) rfl ?_
 refine vcQ [[1,0,1,0],[1,1,1,1,0,1,0]] (lkL [(0,[2,3]),(1,[2,3,18]),(3,[2,3,7]),(4,[2,3,7,8]),(5,[2,3,7,8,34]),(7,[2,3,7,8,9]),(8,[2,3,7,8,9,10]),(9,[2,7,9,10]),(10,[9]),(11,[4,5])]) (lkL [(1,[(1,ROrc.pcall (int i64 (if aJ p=true then 0 else 2))),(5,ROrc.pcall (AV.bool (decide (1<=(most:Int)/\(most:Int)<=100))))]),(3,[(1,ROrc.call (tup 2 (nth [fz Fz.auto 2 ((bG (al p).fst).l.length) fun (i:Nat)=>eW ((bG (al p).fst).l.getD i default),ref 2 0])) [cells false 2 (nth [int i64 p.atoms,ae p.rules]),cells false 1 fun (a:Nat)=>int i64 (most:Int),cells false 27 (aM (al p).snd)] g)]),(4,[(5,ROrc.lcall (int u64 (↑(aF (al p).snd 3 (p.atoms.toNat)):Int)) [2]),(6,ROrc.callN (fn 105 0 (nth []) 1 (nth [ref (List.length [cells false 2 (nth [int i64 p.atoms,ae p.rules]),cells false 1 fun (a:Nat)=>int i64 (most:Int),cells false 27 (aM (al p).snd)]) 0])) [] [cells false 1 fun (x:Nat)=>int u64 (↑(aF (al p).snd 3 (p.atoms.toNat)):Int)] g),(7,ROrc.callS (fz Fz.auto 1 ((ac (aF (al p).snd 3 (p.atoms.toNat))).l.length) fun (i x:Nat)=>af (ac (aF (al p).snd 3 (p.atoms.toNat))).l i) [(3,cells false 1 fun (j:Nat)=>any)] g),(9,ROrc.val (Orc.obj (nth [fz Fz.auto 1 ((ac (aF (al p).snd 3 (p.atoms.toNat))).l.length) fun (i x:Nat)=>af (ac (aF (al p).snd 3 (p.atoms.toNat))).l i])))]),(9,[(1,ROrc.val (Orc.obj (nth [fn 78 0 (nth []) 5 (nth [ref 5 0,ref 1 0,ref 4 0,ref 6 0,ref 0 0])])))]),(10,[(6,ROrc.lcall (int u64 (↑(aF (al p).snd 2 (p.atoms.toNat)):Int)) [2]),(7,ROrc.kcall (tup 0 (nth [])))])]) (fun Q=>(fun (u1:List AObj)=>(fun (u2:Nat)=>(fun (u3:Int)=>(fun (u4:AObj)=>(fun (u5:AObj)=>(fun (u6:AV)=>(fun (u7:AObj)=>(fun (u8:Bool)=>(fun (u9:Int)=>(fun (u10:List AV)=>(fun (u11:AV)=>(fun (u12:List AObj)=>(fun (u13:Int)=>2<=2/\(∀(hp:List AObj) (g:R.σ),true=true/\Does Tryd.prog R 16 [aA p] hp g (ret (int i64 u13)) hp g)/\((!u13 != 0)=true->1<=1)/\((!u13 != 0)=true->∀(hp:List AObj) (g:R.σ),true=true/\Does Tryd.prog R 58 [int i64 u3,int i64 1,int i64 100] hp g (ret (AV.bool (decide (1<=u3/\u3<=100)))) hp g)/\(u8=true->Wp Tryd.prog R 45 0 Rd.top (ah Tryd.prog 27) [1,0,1,0] (aq Tryd.prog R 45 0 Rd.top (ah Tryd.prog 27) Q [Kont.seq [1,1]]) (St.mk [(2,ref 0 0),(3,ref 1 0),(18,AV.bool u8)] [u4,u5] g))/\(u8=false->2<=2/\(true=true/\Does Tryd.prog R 60 [aA p] [u4,u5] g (ret (tup 2 (nth [fz Fz.auto 2 ((bG (al p).fst).l.length) fun (i:Nat)=>eW ((bG (al p).fst).l.getD i default),ref 2 0]))) [u4,u5,u7] g)/\Tables.follows Tryd.prog.toTables Departure.mixedOrders=true/\1<=2/\(∀(hp':List AObj) (g':R.σ),SameO [2] [u4,u5,u7] hp'->true=true/\Does Tryd.prog R 76 [ref 2 2,int i64 p.atoms,int i64 3] hp' g' (ret (int u64 (u2:Int))) hp' g')/\(true=true/\Does Tryd.prog R 77 [int u64 (u2:Int)] [u4,u5,u7] g (ret (fn 105 0 (nth []) 1 (nth [ref 3 0]))) u12 g)/\(true=true/\Does Tryd.prog R 75 [fn 105 0 (nth []) 1 (nth [ref 3 0])] u12 g (ret u6) [u4,u5,u7,cells false 1 fun (j:Nat)=>any] g)/\1<=1/\(∀(c:Nat),c<1->nth [u6] c=ap (fun (a:Nat)=>fz Fz.nil 0 0 fun _ _=>any) 0 1 (fun (x:Nat)=>u6) c)/\1<=1/\(decide (u9 > 10)=true->Wp Tryd.prog R 45 0 Rd.top (ah Tryd.prog 27) [1,1,1,1,0,1,0] (aq Tryd.prog R 45 0 Rd.top (ah Tryd.prog 27) Q [Kont.seq [1,1,1,1,1]]) (St.mk [(2,ref 0 0),(3,ref 1 0),(7,ref 2 0),(8,ref 4 0),(34,AV.bool (decide (u9 > 10)))] [u4,u5,u7,cells false 1 fun (j:Nat)=>any,cells false 1 (nth [u6])] g))/\(decide (u9 > 10)=false->1<=1/\(∀(c:Nat),c<1->nth [fn 78 0 (nth []) 5 (nth u10)] c=ap (fun (a:Nat)=>AV.nilf) 0 1 (fun (x:Nat)=>fn 78 0 (nth []) 5 (nth u10)) c)/\Tables.follows Tryd.prog.toTables Departure.mixedOrders=true/\1<=1/\1<=2/\(∀(hp':List AObj) (g':R.σ),SameO [2] u1 hp'->true=true/\Does Tryd.prog R 76 [ref 2 2,int i64 p.atoms,int i64 2] hp' g' (ret u11) hp' g')/\(true=true/\Does Tryd.prog R 78 (int i64 0::u11::u10) u1 g (ret (tup 0 (nth []))) u1 g)/\1<=1/\Q AEx.ret (St.mk [(4,fz Fz.nil 0 0 fun _ _=>any),(5,int i64 0)] u1 g)))) (if aJ p=true then 0 else 2)) ([u4,u5,u7,cells false 1 fun (x:Nat)=>int u64 (u2:Int)])) (int u64 (↑(aF (al p).snd 2 (p.atoms.toNat)):Int))) ([ref 5 0,ref 1 0,ref 4 0,ref 6 0,ref 0 0])) ((↑((ac u2).l.length):Int))) (bif (if aJ p=true then 0 else 2) != 0 then true else !decide (1<=u3/\u3<=100))) (cells false 27 (aM (al p).snd))) (fz Fz.auto 1 ((ac u2).l.length) fun (i x:Nat)=>af (ac u2).l i)) (cells false 1 fun (a:Nat)=>int i64 u3)) (cells false 2 (nth [int i64 p.atoms,ae p.rules]))) ((most:Int))) (aF (al p).snd 3 (p.atoms.toNat))) ([cells false 2 (nth [int i64 p.atoms,ae p.rules]),cells false 1 fun (a:Nat)=>int i64 (most:Int),cells false 27 (aM (al p).snd),cells false 1 fun (j:Nat)=>any,cells false 1 (nth [fz Fz.auto 1 ((ac (aF (al p).snd 3 (p.atoms.toNat))).l.length) fun (i x:Nat)=>af (ac (aF (al p).snd 3 (p.atoms.toNat))).l i]),cells false 1 fun (a:Nat)=>fz Fz.nil 0 0 fun _ _=>any,cells false 1 (nth [fn 78 0 (nth []) 5 (nth [ref 5 0,ref 1 0,ref 4 0,ref 6 0,ref 0 0])])])) (fun _=>by kernel_rfl) ⟨by omega,(fun _ _=>⟨rfl,(f6 _ _ _ _ (by omega))⟩),by omega,(fun hgd=>(fun _ _=>⟨rfl,(dJ _ _ _ _ _ _)⟩)),fun hcc=>(nomatch (hc.symm.trans hcc)),fun _=>⟨by omega,⟨rfl,(bc (T:=LT) inferInstance [] 2 (fun R _ g=>hD R g) rfl rfl rfl (by exact trivial) (by exact trivial) (by exact⟨aB (by exact⟨⟨trivial,trivial⟩,trivial⟩),trivial⟩) (by exact(Le.tup (fun i hi=>match i,hi with|0,_=>(Le.refl _)|1,_=>(Le.refl _) ))) (by exact⟨LeO.rflc,LeO.rflc,⟨rfl,Nat.le_refl _,fun j hj=>(by first|exact aC (by first|exact trivial|apply i9)|exact Le.of_eq (cK rfl))⟩,trivial⟩))⟩,by kernel_rfl,by omega,?_,⟨rfl,(cS _ _ _ _)⟩,⟨rfl,(bc (T:=LT) inferInstance [3] 4 (fun R _ g=>hC R (aF (al p).snd 3 (p.atoms.toNat)) (by omega) g) rfl rfl rfl (by exact⟨⟨rfl,Nat.le_refl _,fun j hj=>match j,hj with|0,_=>(Le.refl _) ⟩,trivial⟩) (by exact⟨by omega,trivial⟩) (by exact⟨(Le.fn (fun i hi=>absurd hi (by omega)) (fun i hi=>match i,hi with|0,_=>(Le.refl _) )),trivial⟩) (by exact aC (by exact trivial)) (by exact⟨LeO.rflc,LeO.rflc,LeO.rflc,LeO.rflc,trivial⟩))⟩,by omega,(fun c hc=>match c,hc with|0,_=>(by kernel_rfl) ),by omega,fun hcc=>(nomatch (hgt.symm.trans hcc)),fun _=>⟨by omega,(fun c hc=>match c,hc with|0,_=>(by kernel_rfl) ),by kernel_rfl,by omega,by omega,?_,⟨rfl,(bc (T:=LT) inferInstance [5,1,4,6,0] 7 (fun R _ g=>hF R g) rfl rfl rfl (by exact⟨⟨rfl,Nat.le_refl _,fun j hj=>match j,hj with|0,_=>(Le.refl _) ⟩,⟨rfl,Nat.le_refl _,fun j hj=>match j,hj with|0,_=>(Le.refl _) ⟩,⟨rfl,Nat.le_refl _,fun j hj=>match j,hj with|0,_=>(Le.refl _) ⟩,⟨rfl,Nat.le_refl _,fun j hj=>match j,hj with|0,_=>(Le.fn (fun i hi=>absurd hi (by omega)) (fun i hi=>match i,hi with|0,_=>(Le.refl _)|1,_=>(Le.refl _)|2,_=>(Le.refl _)|3,_=>(Le.refl _)|4,_=>(Le.refl _) )) ⟩,⟨rfl,Nat.le_refl _,fun j hj=>match j,hj with|0,_=>(Le.refl _)|1,_=>(Le.refl _) ⟩,trivial⟩) (by exact⟨by omega,by omega,by omega,by omega,by omega,trivial⟩) (by exact⟨aB (by exact trivial),aB (by exact trivial),Le.refl _,Le.refl _,Le.refl _,Le.refl _,Le.refl _,trivial⟩) (by exact aC (by exact trivial)) (by exact⟨⟨rfl,Nat.le_refl _,fun j hj=>match j,hj with|0,_=>(Le.refl _)|1,_=>(Le.refl _) ⟩,⟨rfl,Nat.le_refl _,fun j hj=>match j,hj with|0,_=>(Le.refl _) ⟩,LeO.rflc,LeO.rflc,⟨rfl,Nat.le_refl _,fun j hj=>match j,hj with|0,_=>(Le.refl _) ⟩,⟨rfl,Nat.le_refl _,fun j hj=>match j,hj with|0,_=>(Le.refl _) ⟩,⟨rfl,Nat.le_refl _,fun j hj=>match j,hj with|0,_=>(Le.fn (fun i hi=>absurd hi (by omega)) (fun i hi=>match i,hi with|0,_=>(Le.refl _)|1,_=>(Le.refl _)|2,_=>(Le.refl _)|3,_=>(Le.refl _)|4,_=>(Le.refl _) )) ⟩,trivial⟩))⟩,by omega,?_⟩⟩⟩
 ·intro hp' g' hs'
  exact⟨rfl,iQ [2] (fun R g=>hS R g) (by exact⟨rfl,trivial⟩) rfl (by exact fun n=>⟨LeO.cells (fun j hj=>(cK trivial).symm),trivial⟩) ⟨by omega,trivial⟩ (by exact fun n=>⟨Le.refl _,Le.refl _,Le.refl _,trivial⟩) rfl (by exact fun n=>Le.refl _) (by exact fun n=>⟨LeO.cells (fun j hj=>cK trivial),trivial⟩) hp' g' hs'⟩
 ·intro hp' g' hs'
  exact⟨rfl,iQ [2] (fun R g=>hS2 R g) (by exact⟨rfl,trivial⟩) rfl (by exact fun n=>⟨LeO.cells (fun j hj=>(cK trivial).symm),trivial⟩) ⟨by omega,trivial⟩ (by exact fun n=>⟨Le.refl _,Le.refl _,Le.refl _,trivial⟩) rfl (by exact fun n=>Le.refl _) (by exact fun n=>⟨LeO.cells (fun j hj=>cK trivial),trivial⟩) hp' g' hs'⟩
 ·refine(av (bE _ _ rfl trivial ⟨⟨trivial,trivial⟩,trivial⟩ rfl) (Le.refl _))
theorem xf (R:Res)[Tab LT R](p:Prg)(most:Nat)(hb:aJ p=true)(hm:1<=most/\most<=100)(hO:(aD (dz p)).length<=10)(hN:stP p most≠[])(g:R.σ):Does Tryd.prog R 27 [aA p,.int .i64 most] [] g (.ret (.tup 2 (nth [cw (stP p most).length (fun i=>ac ((stP p most).getD i 0)),.int .i64 0]))) [] g:=by
 obtain⟨hl,hr,hp,hh,hx⟩:=eG hb
 have hs:dK p:=fF hb
 have hp':1<=p.atoms/\p.atoms<=24:=hp
 have hc:(bif ((if aJ p then(0:Int) else 2) != 0) then true else !decide (1<=(most:Int)/\(most:Int)<=100))=false:=by
  rw[hb,decide_eq_true (by omega)]
  rfl
 have hD:=fun (R:Res) [Tab LT R] (g:R.σ)=>m5 R p hl hr hp hh g
 have hC:=fun (R:Res) [Tab LT R] (s:Nat) (hs:s<2^24) (g:R.σ)=>g9 R s hs g
 have hlt:aF (al p).2 3 p.atoms.toNat<2^24:=i4 (by omega)
 have hS:=fun (R:Res) (g:R.σ)=>kL R (al p).2 p.atoms 3 (by omega) g
 have hS2:=fun (R:Res) (g:R.σ)=>kL R (al p).2 p.atoms 2 (by omega) g
 have hgt:decide ((10:Int)<((ac (aF (al p).2 3 p.atoms.toNat)).l.length:Int))=false:=decide_eq_false (by
  have hO:(ac (aF (al p).2 3 p.atoms.toNat)).l.length<=10:=hO
  omega)
 obtain⟨L,hL⟩:∃L,stP p most=L:=⟨_,rfl⟩
 rw[hL] at hN ⊢
 obtain⟨m,hm0⟩:∃m,m=L.length:=⟨_,rfl⟩
 have hmm:m<=100:=by
  have:=(ef (p:=p) (most:=most) (r:=aD (dz p)) (s:=gp p) (out:=[]) (Nat.zero_le _)).2.1
  have hL':stF p most (aD (dz p)) (gp p) []=L:=hL
  rw[hL'] at this
  omega
 have hF0:=(nl (p:=p) (most:=most) (O:=ac (dz p)) hm hO q9 hl hr (ac (dz p)).l.length 0 (by omega)).nw
 rw[List.drop_zero] at hF0
 have hF:=fun (R:Res) [Tab LT R] (g:R.σ)=>hF0 R (gp p) m L g (i4 (by omega)) hL hN hm0
 unfold gp dz at hF
 clear hF0
 refine ax (nt:=45) (rs:=[.tmp 4,.tmp 5]) (k0:=0) (by kernel_rfl) (by kernel_rfl) (by kernel_rfl) rfl ?_
 refine vcQ [[1,0,1,0],[1,1,1,1,0,1,0]] (lkL [(0,[2,3]),(1,[2,3,18]),(3,[2,3,7]),(4,[2,3,7,8]),(5,[2,3,7,8,34]),(7,[2,3,7,8,9]),(8,[2,3,7,8,9,10]),(9,[2,7,9,10]),(10,[9]),(11,[4,5])]) (lkL [(1,[(1,ROrc.pcall (int i64 (if aJ p=true then 0 else 2))),(5,ROrc.pcall (AV.bool (decide (1<=(most:Int)/\(most:Int)<=100))))]),(3,[(1,ROrc.call (tup 2 (nth [fz Fz.auto 2 ((bG (al p).fst).l.length) fun (i:Nat)=>eW ((bG (al p).fst).l.getD i default),ref 2 0])) [cells false 2 (nth [int i64 p.atoms,ae p.rules]),cells false 1 fun (a:Nat)=>int i64 (most:Int),cells false 27 (aM (al p).snd)] g)]),(4,[(5,ROrc.lcall (int u64 (↑(aF (al p).snd 3 (p.atoms.toNat)):Int)) [2]),(6,ROrc.callN (fn 105 0 (nth []) 1 (nth [ref (List.length [cells false 2 (nth [int i64 p.atoms,ae p.rules]),cells false 1 fun (a:Nat)=>int i64 (most:Int),cells false 27 (aM (al p).snd)]) 0])) [] [cells false 1 fun (x:Nat)=>int u64 (↑(aF (al p).snd 3 (p.atoms.toNat)):Int)] g),(7,ROrc.callS (fz Fz.auto 1 ((ac (aF (al p).snd 3 (p.atoms.toNat))).l.length) fun (i x:Nat)=>af (ac (aF (al p).snd 3 (p.atoms.toNat))).l i) [(3,cells false 1 fun (j:Nat)=>any)] g),(9,ROrc.val (Orc.obj (nth [fz Fz.auto 1 ((ac (aF (al p).snd 3 (p.atoms.toNat))).l.length) fun (i x:Nat)=>af (ac (aF (al p).snd 3 (p.atoms.toNat))).l i])))]),(9,[(1,ROrc.val (Orc.obj (nth [fn 78 0 (nth []) 5 (nth [ref 5 0,ref 1 0,ref 4 0,ref 6 0,ref 0 0])])))]),(10,[(6,ROrc.lcall (int u64 (↑(aF (al p).snd 2 (p.atoms.toNat)):Int)) [2]),(7,ROrc.callN (tup 0 (nth [])) [(5,cells false 1 fun (j:Nat)=>ow true 7 m 1)] [cells false (m*1) (aQ L)] g)])]) (fun Q=>(fun (u1:AV)=>(fun (u2:AObj)=>(fun (u3:AObj)=>(fun (u4:List AObj)=>(fun (u5:Int)=>(fun (u6:Int)=>(fun (u7:List AObj)=>(fun (u8:AObj)=>(fun (u9:Bool)=>(fun (u10:AV)=>(fun (u11:List AV)=>(fun (u12:AV)=>(fun (u13:Int)=>2<=2/\(∀(hp:List AObj) (g:R.σ),true=true/\Does Tryd.prog R 16 [aA p] hp g (ret (int i64 u13)) hp g)/\((!u13 != 0)=true->1<=1)/\((!u13 != 0)=true->∀(hp:List AObj) (g:R.σ),true=true/\Does Tryd.prog R 58 [int i64 u6,int i64 1,int i64 100] hp g (ret (AV.bool (decide (1<=u6/\u6<=100)))) hp g)/\(u9=true->Wp Tryd.prog R 45 0 Rd.top (ah Tryd.prog 27) [1,0,1,0] (aq Tryd.prog R 45 0 Rd.top (ah Tryd.prog 27) Q [Kont.seq [1,1]]) (St.mk [(2,ref 0 0),(3,ref 1 0),(18,AV.bool u9)] [u2,u3] g))/\(u9=false->2<=2/\(true=true/\Does Tryd.prog R 60 [aA p] [u2,u3] g (ret (tup 2 (nth [fz Fz.auto 2 ((bG (al p).fst).l.length) fun (i:Nat)=>eW ((bG (al p).fst).l.getD i default),ref 2 0]))) [u2,u3,u8] g)/\Tables.follows Tryd.prog.toTables Departure.mixedOrders=true/\1<=2/\(∀(hp':List AObj) (g':R.σ),SameO [2] [u2,u3,u8] hp'->true=true/\Does Tryd.prog R 76 [ref 2 2,int i64 p.atoms,int i64 3] hp' g' (ret u10) hp' g')/\(true=true/\Does Tryd.prog R 77 [u10] [u2,u3,u8] g (ret (fn 105 0 (nth []) 1 (nth [ref 3 0]))) [u2,u3,u8,cells false 1 fun (x:Nat)=>u10] g)/\(true=true/\Does Tryd.prog R 75 [fn 105 0 (nth []) 1 (nth [ref 3 0])] [u2,u3,u8,cells false 1 fun (x:Nat)=>u10] g (ret u1) [u2,u3,u8,cells false 1 fun (j:Nat)=>any] g)/\1<=1/\(∀(c:Nat),c<1->nth [u1] c=ap (fun (a:Nat)=>fz Fz.nil 0 0 fun _ _=>any) 0 1 (fun (x:Nat)=>u1) c)/\1<=1/\(decide (u5 > 10)=true->Wp Tryd.prog R 45 0 Rd.top (ah Tryd.prog 27) [1,1,1,1,0,1,0] (aq Tryd.prog R 45 0 Rd.top (ah Tryd.prog 27) Q [Kont.seq [1,1,1,1,1]]) (St.mk [(2,ref 0 0),(3,ref 1 0),(7,ref 2 0),(8,ref 4 0),(34,AV.bool (decide (u5 > 10)))] [u2,u3,u8,cells false 1 fun (j:Nat)=>any,cells false 1 (nth [u1])] g))/\(decide (u5 > 10)=false->1<=1/\(∀(c:Nat),c<1->nth [fn 78 0 (nth []) 5 (nth u11)] c=ap (fun (a:Nat)=>AV.nilf) 0 1 (fun (x:Nat)=>fn 78 0 (nth []) 5 (nth u11)) c)/\Tables.follows Tryd.prog.toTables Departure.mixedOrders=true/\1<=1/\1<=2/\(∀(hp':List AObj) (g':R.σ),SameO [2] u7 hp'->true=true/\Does Tryd.prog R 76 [ref 2 2,int i64 p.atoms,int i64 2] hp' g' (ret u12) hp' g')/\(true=true/\Does Tryd.prog R 78 (int i64 0::u12::u11) u7 g (ret (tup 0 (nth []))) u4 g)/\1<=1/\Q AEx.ret (St.mk [(4,ow true 7 m 1),(5,int i64 0)] u4 g)))) (if aJ p=true then 0 else 2)) (int u64 (↑(aF (al p).snd 2 (p.atoms.toNat)):Int))) ([ref 5 0,ref 1 0,ref 4 0,ref 6 0,ref 0 0])) (int u64 (↑(aF (al p).snd 3 (p.atoms.toNat)):Int))) (bif (if aJ p=true then 0 else 2) != 0 then true else !decide (1<=u6/\u6<=100))) (cells false 27 (aM (al p).snd))) ([u2,u3,cells false 27 (aM (al p).snd),cells false 1 fun (j:Nat)=>any,cells false 1 (nth [u1]),cells false 1 fun (a:Nat)=>fz Fz.nil 0 0 fun _ _=>any,cells false 1 (nth [fn 78 0 (nth []) 5 (nth [ref 5 0,ref 1 0,ref 4 0,ref 6 0,ref 0 0])])])) ((most:Int))) ((↑((ac (aF (al p).snd 3 (p.atoms.toNat))).l.length):Int))) ([u2,u3,cells false 27 (aM (al p).snd),cells false 1 fun (j:Nat)=>any,cells false 1 (nth [u1]),cells false 1 fun (j:Nat)=>ow true 7 m 1,cells false 1 (nth [fn 78 0 (nth []) 5 (nth [ref 5 0,ref 1 0,ref 4 0,ref 6 0,ref 0 0])]),cells false (m*1) fun (a:Nat)=>fz Fz.auto 1 ((ac (L.getD a 0)).l.length) fun (i x:Nat)=>af (ac (L.getD a 0)).l i])) (cells false 1 fun (a:Nat)=>int i64 (most:Int))) (cells false 2 (nth [int i64 p.atoms,ae p.rules]))) (fz Fz.auto 1 ((ac (aF (al p).snd 3 (p.atoms.toNat))).l.length) fun (i x:Nat)=>af (ac (aF (al p).snd 3 (p.atoms.toNat))).l i)) (fun _=>by kernel_rfl) ⟨by omega,(fun _ _=>⟨rfl,(f6 _ _ _ _ (by omega))⟩),by omega,(fun hgd=>(fun _ _=>⟨rfl,(dJ _ _ _ _ _ _)⟩)),fun hcc=>(nomatch (hc.symm.trans hcc)),fun _=>⟨by omega,⟨rfl,(bc (T:=LT) inferInstance [] 2 (fun R _ g=>hD R g) rfl rfl rfl (by exact trivial) (by exact trivial) (by exact⟨aB (by exact⟨⟨trivial,trivial⟩,trivial⟩),trivial⟩) (by exact(Le.tup (fun i hi=>match i,hi with|0,_=>(Le.refl _)|1,_=>(Le.refl _) ))) (by exact⟨LeO.rflc,LeO.rflc,⟨rfl,Nat.le_refl _,fun j hj=>(by first|exact aC (by first|exact trivial|apply i9)|exact Le.of_eq (cK rfl))⟩,trivial⟩))⟩,by kernel_rfl,by omega,?_,⟨rfl,(cS _ _ _ _)⟩,⟨rfl,(bc (T:=LT) inferInstance [3] 4 (fun R _ g=>hC R (aF (al p).snd 3 (p.atoms.toNat)) (by omega) g) rfl rfl rfl (by exact⟨⟨rfl,Nat.le_refl _,fun j hj=>match j,hj with|0,_=>(Le.refl _) ⟩,trivial⟩) (by exact⟨by omega,trivial⟩) (by exact⟨(Le.fn (fun i hi=>absurd hi (by omega)) (fun i hi=>match i,hi with|0,_=>(Le.refl _) )),trivial⟩) (by exact aC (by exact trivial)) (by exact⟨LeO.rflc,LeO.rflc,LeO.rflc,LeO.rflc,trivial⟩))⟩,by omega,(fun c hc=>match c,hc with|0,_=>(by kernel_rfl) ),by omega,fun hcc=>(nomatch (hgt.symm.trans hcc)),fun _=>⟨by omega,(fun c hc=>match c,hc with|0,_=>(by kernel_rfl) ),by kernel_rfl,by omega,by omega,?_,⟨rfl,(bc (T:=LT) inferInstance [5,1,4,6,0] 7 (fun R _ g=>hF R g) rfl rfl rfl (by exact⟨⟨rfl,Nat.le_refl _,fun j hj=>match j,hj with|0,_=>(Le.refl _) ⟩,⟨rfl,Nat.le_refl _,fun j hj=>match j,hj with|0,_=>(Le.refl _) ⟩,⟨rfl,Nat.le_refl _,fun j hj=>match j,hj with|0,_=>(Le.refl _) ⟩,⟨rfl,Nat.le_refl _,fun j hj=>match j,hj with|0,_=>(Le.fn (fun i hi=>absurd hi (by omega)) (fun i hi=>match i,hi with|0,_=>(Le.refl _)|1,_=>(Le.refl _)|2,_=>(Le.refl _)|3,_=>(Le.refl _)|4,_=>(Le.refl _) )) ⟩,⟨rfl,Nat.le_refl _,fun j hj=>match j,hj with|0,_=>(Le.refl _)|1,_=>(Le.refl _) ⟩,trivial⟩) (by exact⟨by omega,by omega,by omega,by omega,by omega,trivial⟩) (by exact⟨aB (by exact trivial),aB (by exact trivial),Le.refl _,Le.refl _,Le.refl _,Le.refl _,Le.refl _,trivial⟩) (by exact aC (by exact trivial)) (by exact⟨⟨rfl,Nat.le_refl _,fun j hj=>match j,hj with|0,_=>(Le.refl _)|1,_=>(Le.refl _) ⟩,⟨rfl,Nat.le_refl _,fun j hj=>match j,hj with|0,_=>(Le.refl _) ⟩,LeO.rflc,LeO.rflc,⟨rfl,Nat.le_refl _,fun j hj=>match j,hj with|0,_=>(Le.refl _) ⟩,LeO.rflc,⟨rfl,Nat.le_refl _,fun j hj=>match j,hj with|0,_=>(Le.fn (fun i hi=>absurd hi (by omega)) (fun i hi=>match i,hi with|0,_=>(Le.refl _)|1,_=>(Le.refl _)|2,_=>(Le.refl _)|3,_=>(Le.refl _)|4,_=>(Le.refl _) )) ⟩,⟨rfl,Nat.le_refl _,fun j hj=>(by first|exact aC (by first|exact trivial|apply gn)|exact Le.of_eq (jf rfl))⟩,trivial⟩))⟩,by omega,?_⟩⟩⟩
 ·intro hp' g' hs'
  exact⟨rfl,iQ [2] (fun R g=>hS R g) (by exact⟨rfl,trivial⟩) rfl (by exact fun n=>⟨LeO.cells (fun j hj=>(cK trivial).symm),trivial⟩) ⟨by omega,trivial⟩ (by exact fun n=>⟨Le.refl _,Le.refl _,Le.refl _,trivial⟩) rfl (by exact fun n=>Le.refl _) (by exact fun n=>⟨LeO.cells (fun j hj=>cK trivial),trivial⟩) hp' g' hs'⟩
 ·intro hp' g' hs'
  exact⟨rfl,iQ [2] (fun R g=>hS2 R g) (by exact⟨rfl,trivial⟩) rfl (by exact fun n=>⟨LeO.cells (fun j hj=>(cK trivial).symm),trivial⟩) ⟨by omega,trivial⟩ (by exact fun n=>⟨Le.refl _,Le.refl _,Le.refl _,trivial⟩) rfl (by exact fun n=>Le.refl _) (by exact fun n=>⟨LeO.cells (fun j hj=>cK trivial),trivial⟩) hp' g' hs'⟩
 ·subst hm0
  show bz Tryd.prog R 0 _ _ _ _ .ret _
  refine eU (.tup 2 (nth [.ow true 7 L.length 1,.int .i64 0])) _ rfl trivial (iR 0 [(0,.tup 2 (nth [cw L.length (fun i=>ac (L.getD i 0)),.int .i64 0]))] (Nat.le_refl _) (Nat.zero_le _) (fun i hi=>absurd hi (Nat.not_lt_zero i)) ⟨aE.tup (fun j hj=>?_),trivial⟩)
  match j,hj with
  |0,_=>exact aE.le (aE.ow (o:=7) (N:=L.length*1) (c:=aQ L) (get:=aQ L) (fr:=false) rfl (Nat.zero_le _) (Nat.le_refl _) (by decide) (fun j _=>aE.below (gn _ _))) (Le.fz rfl (fun i j hi hj=>by
    show aQ L (i*1+j)=_
    rw[show i*1+j=i by omega]
    rfl))
  |1,_=>exact aE.below trivial
theorem xg (R:Res)[Tab LT R](p:Prg)(most:Nat)(hb:aJ p=true)(hm:1<=most/\most<=100)(hO:(aD (dz p)).length<=10)(g:R.σ):Does Tryd.prog R 27 [aA p,.int .i64 most] [] g (.ret (.tup 2 (nth [cw (stP p most).length (fun i=>ac ((stP p most).getD i 0)),.int .i64 0]))) [] g:=by
 by_cases hN:stP p most=[]
 ·rw[hN]
  exact gT (xe R p most hb hm hO hN g) (bl ⟨Le.tup (fun j hj=>match j,hj with|0,_=>Le.nil_auto|1,_=>Le.refl _),trivial⟩ trivial rfl)
 ·exact xf R p most hb hm hO hN g
structure LstOk (p:Prg)(n:Nat)(s:List Bool)(left:Nat):Prop where
 len:s.length=n
 bit:∀j,j<n->s.getD j false = !left.testBit j
 lt:left<2^24
 inn:∀j,left.testBit j=true->j<n
 cls:∀x y,x<n->left.testBit x=false->Reach p x y->left.testBit y=false
section
variable {p:Prg}{n:Nat}{s:List Bool}{left:Nat}
theorem ra (hx:∀r,r∈p.rules.l->∀l,l∈r.body.l->0<=l.atom/\l.atom<p.atoms)(hpa:p.atoms=n){a b:Nat}(ha:a<n)(h:Reach p a b):b<n:=by
 rcases qI hx h with rfl|h
 ·exact ha
 ·omega
theorem rb:∀{l:List Int} {b:List Bool} {j:Nat},(∀a,a∈l->a.toNat<b.length)->((l.foldl (fun (b:List Bool) (a:Int)=>b.set a.toNat true) b).getD j false=true↔b.getD j false=true∨∃a,a∈l/\a.toNat=j)
 |[],_,_,_=>by simp
 |a::l,b,j,h=>by
  show(l.foldl _ (b.set a.toNat true)).getD j false=true↔_
  rw[rb (fun x hx=>by rw[List.length_set];exact h x (List.mem_cons_of_mem _ hx))]
  constructor
  ·rintro (h1|⟨x,h1,h2⟩)
   ·rcases wU h1 with e|h1
    ·exact .inr ⟨a,List.mem_cons_self,e.symm⟩
    ·exact .inl h1
   ·exact .inr ⟨x,List.mem_cons_of_mem _ h1,h2⟩
  ·rintro (h1|⟨x,h1,h2⟩)
   ·exact .inl (wT h1)
   ·rcases List.mem_cons.1 h1 with e|h1
    ·subst e
     refine .inl ?_
     rw[List.getD_eq_getElem?_getD,List.getElem?_set,if_pos h2,if_pos (by rw[h2];have:=h x List.mem_cons_self;omega)]
     rfl
    ·exact .inr ⟨x,h1,h2⟩
theorem rc (hr:∀r,r∈p.rules.l->aP r)(hx:∀r,r∈p.rules.l->∀l,l∈r.body.l->0<=l.atom/\l.atom<p.atoms)(hpa:p.atoms=n)(hn:n<=24)(h:LstOk p n s left){a:Nat}(ha:left.testBit a=true):∀j,(au p a).testBit j=true->left.testBit j=true:=by
 intro j hj
 have han:=h.inn a ha
 obtain⟨h1,h2,h3⟩:=(ec hr (by omega)).1 hj
 cases hb:left.testBit j with
 |true=>rfl
 |false=>
  have:=h.cls j a (ra hx hpa han h1) hb h2
  rw[ha] at this
  cases this
theorem xh (hx:∀r,r∈p.rules.l->∀l,l∈r.body.l->0<=l.atom/\l.atom<p.atoms)(hr:∀r,r∈p.rules.l->aP r)(hpa:p.atoms=n)(hn:n<=24)(h:LstOk p n s left)(h0:left≠0):LstOk p n ((aD (au p (bm p left))).foldl (fun (b:List Bool) (a:Int)=>b.set a.toNat true) s) (ca left (au p (bm p left))):=by
 obtain⟨o1,o2,o3,o4⟩:=kC hr h.lt h0
 have hb:left.testBit (bm p left)=true:=(Tb.mem_memN.1 o4).2
 have hlt:=h.inn _ hb
 have hsub:=rc hr hx hpa hn h hb
 have hin:∀a,a∈aD (au p (bm p left))->a.toNat<s.length:=fun a ha=>by
  obtain⟨b,hb',rfl⟩:=List.mem_map.1 ha
  have:=h.inn _ (hsub _ (Tb.mem_memN.1 hb').2)
  rw[h.len]
  simpa using this
 have hmem:∀j,(∃a,a∈aD (au p (bm p left))/\a.toNat=j)↔(au p (bm p left)).testBit j=true:=fun j=>by
  constructor
  ·rintro ⟨a,h1,h2⟩
   obtain⟨b,hb',rfl⟩:=List.mem_map.1 h1
   have:b=j:=by simpa using h2
   rw[<-this]
   exact(Tb.mem_memN.1 hb').2
  ·intro hj
   exact⟨(j:Int),List.mem_map.2 ⟨j,Tb.mem_memN.2 ⟨by have:=h.inn _ (hsub j hj);omega,hj⟩,rfl⟩,by simp⟩
 refine⟨qW.trans h.len,fun j hj=>?_,Nat.lt_of_le_of_lt kB h.lt,fun j hj=>?_,fun x y hxn hxl hxy=>?_⟩
 ·rw[Bool.eq_iff_iff,rb hin,hmem,eH h.lt,h.bit j hj]
  cases left.testBit j <;> cases (au p (bm p left)).testBit j <;> simp
 ·rw[eH h.lt,Bool.and_eq_true] at hj
  exact h.inn j hj.1
 ·rw[eH h.lt] at hxl ⊢
  cases hl:left.testBit x with
  |false=>rw[h.cls x y hxn hl hxy];rfl
  |true=>
   rw[hl,Bool.true_and,Bool.not_eq_false'] at hxl
   obtain⟨w1,w2,w3⟩:=(ec hr (by omega)).1 hxl
   cases hly:left.testBit y with
   |false=>rfl
   |true=>
    have hyn:=h.inn y hly
    have:=(nf hr h.lt (by omega)).1 o2 y (w1.trans hxy) hly
    have:(au p (bm p left)).testBit y=true:=(ec hr (by omega)).2 ⟨w1.trans hxy,this,by omega⟩
    rw[this]
    rfl
theorem xi (hpa:p.atoms=n)(hn:n<=24):LstOk p n (List.replicate n false) (2^n-1):=by
 have hb:∀j,(2^n-1).testBit j=decide (j<n):=fun j=>Nat.testBit_two_pow_sub_one _ _
 refine⟨List.length_replicate,fun j hj=>?_,?_,fun j hj=>?_,fun x y hxn hxl hxy=>?_⟩
 ·rw[hb,decide_eq_true hj,List.getD_eq_getElem?_getD,List.getElem?_replicate,if_pos hj]
  rfl
 ·have:2^n<=2^24:=Nat.pow_le_pow_right (by decide) hn
  have:0<2^n:=Nat.pow_pos (by decide)
  omega
 ·rw[hb,decide_eq_true_eq] at hj
  exact hj
 ·rw[hb,decide_eq_false_iff_not] at hxl
  exact absurd hxn hxl
end
end Go.Avm.Pack
namespace Go.Avm.Pack
open Go Go.Avm Go.Proofs
open Go.IntKind (i64 u64)
open Go.Avm.AV (int bool any fz fp sl ow ref fn ifc val agg tup)
open Go.Avm.AObj (cells dead)
open Go.Avm.Oc (ret)
set_option maxRecDepth 4000
theorem xj {n:Nat}(hn:n<=24):aj (2^n-1)=List.range n:=by
 show(List.range 24).filter (fun j=>(2^n-1).testBit j)=_
 have hb:∀j,(2^n-1).testBit j=decide (j<n):=fun j=>Nat.testBit_two_pow_sub_one _ _
 rw[show 24=n+(24-n) by omega,q6 (fun j hj=>by rw[hb];exact decide_eq_false (by omega))]
 exact List.filter_eq_self.2 (fun j hj=>by rw[hb];exact decide_eq_true (List.mem_range.1 hj))
theorem jg (R:Res)(a:Int)(hp:List AObj)(g:R.σ):Does Tryd.prog R 91 [.int .i64 a] hp g (.ret (bT ⟨a,false⟩)) hp g:=by
 refine bt (fun R g=>?_) (by exact⟨trivial,trivial⟩) R hp g
 refine ax (nt:=5) (rs:=[.cell 2 77]) (k0:=0) (by kernel_rfl) (by kernel_rfl) (by kernel_rfl) rfl ?_
 refine vcQ [] (lkL [(0,[0,2]),(1,[2])]) (lkL [(1,[(2,ROrc.val (Orc.obj (nth [int i64 a,AV.bool false])))])]) (fun Q=>2<=2/\(∀(c:Nat),c<2->nth [int i64 a,AV.bool false] c=ap (nth [int i64 0,AV.bool false]) 0 2 (List.brecOn (motive:=fun (x:List AV)=>Nat->AV) [int i64 a,AV.bool false] nth._f) c)/\Q AEx.ret (St.mk [(2,ref 0 0)] [cells false 2 (nth [int i64 a,AV.bool false])] g)) (fun _=>by kernel_rfl) ⟨by omega,(fun c hc=>match c,hc with|0,_=>(by kernel_rfl)|1,_=>(by kernel_rfl) ),?_⟩
 refine(av (bE (agg 2 (nth [int i64 a,AV.bool false])) ([0+(TyI.mk ((fun (x:TypeInfo)=>x.desc) Tryd.prog.types[76]) Tryd.prog.types[77].size Tryd.prog.types[77].bytes (cp (dA (Value.agg #[Value.int i64 0,Value.bool false]))) (cU ((fun (x:TypeInfo)=>x.desc) Tryd.prog.types[76])) (ej Tryd.prog 77)).size<=2]) (by kernel_rfl) (by exact⟨by decide,trivial⟩) ⟨⟨trivial,trivial⟩,trivial⟩ rfl) (Le.of_eq (by kernel_rfl)))
theorem jh (R:Res)(a:Int)(hp:List AObj)(g:R.σ):Does Tryd.prog R 92 [.int .i64 a] hp g (.ret (bT ⟨a,true⟩)) hp g:=by
 refine bt (fun R g=>?_) (by exact⟨trivial,trivial⟩) R hp g
 refine ax (nt:=5) (rs:=[.cell 2 77]) (k0:=0) (by kernel_rfl) (by kernel_rfl) (by kernel_rfl) rfl ?_
 refine vcQ [] (lkL [(0,[0,2]),(1,[2])]) (lkL [(1,[(2,ROrc.val (Orc.obj (nth [int i64 a,AV.bool true])))])]) (fun Q=>2<=2/\(∀(c:Nat),c<2->nth [int i64 a,AV.bool true] c=ap (nth [int i64 0,AV.bool false]) 0 2 (List.brecOn (motive:=fun (x:List AV)=>Nat->AV) [int i64 a,AV.bool true] nth._f) c)/\Q AEx.ret (St.mk [(2,ref 0 0)] [cells false 2 (nth [int i64 a,AV.bool true])] g)) (fun _=>by kernel_rfl) ⟨by omega,(fun c hc=>match c,hc with|0,_=>(by kernel_rfl)|1,_=>(by kernel_rfl) ),?_⟩
 refine(av (bE (agg 2 (nth [int i64 a,AV.bool true])) ([0+(TyI.mk ((fun (x:TypeInfo)=>x.desc) Tryd.prog.types[76]) Tryd.prog.types[77].size Tryd.prog.types[77].bytes (cp (dA (Value.agg #[Value.int i64 0,Value.bool false]))) (cU ((fun (x:TypeInfo)=>x.desc) Tryd.prog.types[76])) (ej Tryd.prog 77)).size<=2]) (by kernel_rfl) (by exact⟨by decide,trivial⟩) ⟨⟨trivial,trivial⟩,trivial⟩ rfl) (Le.of_eq (by kernel_rfl)))
theorem eJ (R:Res)(a:Int)(b:KL Lit)(hp:List AObj)(g:R.σ):Does Tryd.prog R 90 [.int .i64 a,am b] hp g (.ret (bJ ⟨a,b⟩)) hp g:=by
 refine bt (fun R g=>?_) (by exact⟨trivial,trivial,trivial⟩) R hp g
 refine ax (nt:=8) (rs:=[.cell 4 75]) (k0:=0) (by kernel_rfl) (by kernel_rfl) (by kernel_rfl) rfl ?_
 refine vcQ [] (lkL [(0,[0,1,4]),(1,[4])]) (lkL [(1,[(3,ROrc.val (Orc.obj (nth [int i64 a,am b])))])]) (fun Q=>2<=2/\(∀(c:Nat),c<2->nth [int i64 a,am b] c=ap (nth [int i64 0,fz Fz.nil 0 0 fun _ _=>any]) 0 2 (List.brecOn (motive:=fun (x:List AV)=>Nat->AV) [int i64 a,am b] nth._f) c)/\Q AEx.ret (St.mk [(4,ref 0 0)] [cells false 2 (nth [int i64 a,am b])] g)) (fun _=>by kernel_rfl) ⟨by omega,(fun c hc=>match c,hc with|0,_=>(by kernel_rfl)|1,_=>(by kernel_rfl) ),?_⟩
 refine(av (bE (agg 2 (nth [int i64 a,fz b.2 2 (b.l.length) fun (i:Nat)=>gY (b.l.getD i default)])) ([0+(TyI.mk ((fun (x:TypeInfo)=>x.desc) Tryd.prog.types[74]) Tryd.prog.types[75].size Tryd.prog.types[75].bytes (cp (dA (Value.agg #[Value.int i64 0,Value.slice none 0 0]))) (cU ((fun (x:TypeInfo)=>x.desc) Tryd.prog.types[74])) (ej Tryd.prog 75)).size<=2]) (by kernel_rfl) (by exact⟨by decide,trivial⟩) ⟨⟨trivial,trivial⟩,trivial⟩ rfl) (Le.of_eq (by kernel_rfl)))
def tN:KL Lit:=⟨[],.nil⟩
def tA1:KL Lit:=⟨[⟨0,false⟩,⟨2,true⟩],.exa⟩
def tA2:KL Lit:=⟨[⟨3,false⟩],.exa⟩
def tA3:KL Lit:=⟨[⟨2,false⟩],.exa⟩
def tA4:KL Lit:=⟨[⟨5,true⟩],.exa⟩
def tA5:KL Lit:=⟨[⟨4,true⟩],.exa⟩
def tAR:KL Rule:=⟨[⟨0,tN⟩,⟨1,tA1⟩,⟨2,tA2⟩,⟨3,tA3⟩,⟨4,tA4⟩,⟨5,tA5⟩],.exa⟩
def tA:Prg:=⟨6,tAR⟩
def tB1:KL Lit:=⟨[⟨1,true⟩],.exa⟩
def tB2:KL Lit:=⟨[⟨0,true⟩],.exa⟩
def tB3:KL Lit:=⟨[⟨0,false⟩],.exa⟩
def tB4:KL Lit:=⟨[⟨1,false⟩],.exa⟩
def tBR:KL Rule:=⟨[⟨0,tB1⟩,⟨1,tB2⟩,⟨2,tB3⟩,⟨2,tB4⟩],.exa⟩
def tB:Prg:=⟨3,tBR⟩
def tS1:KL Int:=⟨[0],.exa⟩
def tS2:KL Int:=⟨[2,3],.exa⟩
def tS3:KL Int:=⟨[1],.exa⟩
def tS:KL Step:=⟨[⟨0,tS1⟩,⟨-1,tS2⟩,⟨1,tS3⟩],.exa⟩
theorem c_A (R:Res)(hp:List AObj)(g:R.σ):Does Tryd.prog R 44 [] hp g (.ret (aA tA)) hp g:=by
 refine bt (fun R g=>?_) (by exact trivial) R hp g
 obtain⟨v0,e0⟩:∃v,v=tN:=⟨_,rfl⟩
 obtain⟨v1,e1⟩:∃v,v=tA1:=⟨_,rfl⟩
 obtain⟨v2,e2⟩:∃v,v=tA2:=⟨_,rfl⟩
 obtain⟨v3,e3⟩:∃v,v=tA3:=⟨_,rfl⟩
 obtain⟨v4,e4⟩:∃v,v=tA4:=⟨_,rfl⟩
 obtain⟨v5,e5⟩:∃v,v=tA5:=⟨_,rfl⟩
 obtain⟨w,f⟩:∃v,v=tAR:=⟨_,rfl⟩
 show Does _ _ _ _ _ _ (.ret (aA ⟨6,tAR⟩)) _ _
 rw[<-f]
 refine ax (nt:=20) (rs:=[.cell 0 24]) (k0:=0) (by kernel_rfl) (by kernel_rfl) (by kernel_rfl) rfl ?_
 refine vcQ [] (lkL [(0,[0]),(1,[0])]) (lkL [(1,[(0,ROrc.pcall (bJ (Rule.mk 0 (KL.mk [] Fz.nil)))),(1,ROrc.pcall (bT (Lit.mk 0 false))),(2,ROrc.pcall (bT (Lit.mk 2 true))),(3,ROrc.kop (am v1)),(4,ROrc.pcall (bJ (Rule.mk 1 v1))),(5,ROrc.pcall (bT (Lit.mk 3 false))),(6,ROrc.kop (am v2)),(7,ROrc.pcall (bJ (Rule.mk 2 v2))),(8,ROrc.pcall (bT (Lit.mk 2 false))),(9,ROrc.kop (am v3)),(10,ROrc.pcall (bJ (Rule.mk 3 v3))),(11,ROrc.pcall (bT (Lit.mk 5 true))),(12,ROrc.kop (am v4)),(13,ROrc.pcall (bJ (Rule.mk 4 v4))),(14,ROrc.pcall (bT (Lit.mk 4 true))),(15,ROrc.kop (am v5)),(16,ROrc.pcall (bJ (Rule.mk 5 v5))),(17,ROrc.kop (ae w)),(19,ROrc.val (Orc.obj (nth [int i64 6,ae w])))])]) (fun Q=>(fun (u1:List Row)=>(fun (u2:List AObj)=>(fun (u3:List Row)=>(fun (u4:List Row)=>(fun (u5:List Row)=>(fun (u6:List (Nat × AV))=>(∀(hp:List AObj) (g:R.σ),true=true/\Does Tryd.prog R 90 [int i64 0,fz Fz.nil 0 0 fun _ _=>any] hp g (ret (agg 2 (nth [int i64 0,fz Fz.nil 2 0 fun (i:Nat)=>gY ((KL.mk [] Fz.nil).l.getD i default)]))) hp g)/\(∀(hp:List AObj) (g:R.σ),true=true/\Does Tryd.prog R 91 [int i64 0] hp g (ret (agg 2 (nth [int i64 0,AV.bool false]))) hp g)/\(∀(hp:List AObj) (g:R.σ),true=true/\Does Tryd.prog R 92 [int i64 2] hp g (ret (agg 2 (nth [int i64 2,AV.bool true]))) hp g)/\OpOk Tryd.prog R (Oper.mk (some 4) (Op.buildSlice 73 2 #[(0,Operand.tmp 2),(1,Operand.tmp 3)]) 73 "law.go:21" #[Edge.mk 1 Ground.data,Edge.mk 2 Ground.data] none) (evO u4 u6 []) u2 g (am v1) u2 g/\(∀(hp:List AObj) (g:R.σ),true=true/\Does Tryd.prog R 90 [int i64 1,am v1] hp g (ret (agg 2 (nth [int i64 1,am v1]))) hp g)/\(∀(hp:List AObj) (g:R.σ),true=true/\Does Tryd.prog R 91 [int i64 3] hp g (ret (agg 2 (nth [int i64 3,AV.bool false]))) hp g)/\OpOk Tryd.prog R (Oper.mk (some 7) (Op.buildSlice 73 1 #[(0,Operand.tmp 6)]) 73 "law.go:21" #[Edge.mk 5 Ground.data] none) (evO (Row.mk (some 6) none (agg 2 (nth [int i64 3,AV.bool false])) false (some []) []::Row.mk (some 5) none (agg 2 (nth [int i64 1,am v1])) false (some []) []::Row.mk (some 4) none (am v1) true (some []) []::u4) u6 []) u2 g (am v2) u2 g/\(∀(hp:List AObj) (g:R.σ),true=true/\Does Tryd.prog R 90 [int i64 2,am v2] hp g (ret (agg 2 (nth [int i64 2,am v2]))) hp g)/\(∀(hp:List AObj) (g:R.σ),true=true/\Does Tryd.prog R 91 [int i64 2] hp g (ret (agg 2 (nth [int i64 2,AV.bool false]))) hp g)/\OpOk Tryd.prog R (Oper.mk (some 10) (Op.buildSlice 73 1 #[(0,Operand.tmp 9)]) 73 "law.go:21" #[Edge.mk 8 Ground.data] none) (evO u1 u6 []) u2 g (am v3) u2 g/\(∀(hp:List AObj) (g:R.σ),true=true/\Does Tryd.prog R 90 [int i64 3,am v3] hp g (ret (agg 2 (nth [int i64 3,am v3]))) hp g)/\(∀(hp:List AObj) (g:R.σ),true=true/\Does Tryd.prog R 92 [int i64 5] hp g (ret (agg 2 (nth [int i64 5,AV.bool true]))) hp g)/\OpOk Tryd.prog R (Oper.mk (some 13) (Op.buildSlice 73 1 #[(0,Operand.tmp 12)]) 73 "law.go:21" #[Edge.mk 11 Ground.data] none) (evO u3 u6 []) u2 g (am v4) u2 g/\(∀(hp:List AObj) (g:R.σ),true=true/\Does Tryd.prog R 90 [int i64 4,am v4] hp g (ret (agg 2 (nth [int i64 4,am v4]))) hp g)/\(∀(hp:List AObj) (g:R.σ),true=true/\Does Tryd.prog R 92 [int i64 4] hp g (ret (agg 2 (nth [int i64 4,AV.bool true]))) hp g)/\OpOk Tryd.prog R (Oper.mk (some 16) (Op.buildSlice 73 1 #[(0,Operand.tmp 15)]) 73 "law.go:21" #[Edge.mk 14 Ground.data] none) (evO u5 u6 []) u2 g (am v5) u2 g/\(∀(hp:List AObj) (g:R.σ),true=true/\Does Tryd.prog R 90 [int i64 5,am v5] hp g (ret (agg 2 (nth [int i64 5,am v5]))) hp g)/\OpOk Tryd.prog R (Oper.mk (some 18) (Op.buildSlice 22 6 #[(0,Operand.tmp 1),(1,Operand.tmp 5),(2,Operand.tmp 8),(3,Operand.tmp 11),(4,Operand.tmp 14),(5,Operand.tmp 17)]) 22 "law.go:21" #[Edge.mk 0 Ground.data,Edge.mk 4 Ground.data,Edge.mk 7 Ground.data,Edge.mk 10 Ground.data,Edge.mk 13 Ground.data,Edge.mk 16 Ground.data] none) (evO (Row.mk (some 17) none (agg 2 (nth [int i64 5,am v5])) false (some []) []::Row.mk (some 16) none (am v5) true (some []) []::u5) u6 []) u2 g (ae w) u2 g/\2<=2/\(∀(c:Nat),c<2->nth [int i64 6,ae w] c=ap (nth [int i64 0,fz Fz.nil 0 0 fun _ _=>any]) 0 2 (List.brecOn (motive:=fun (x:List AV)=>Nat->AV) [int i64 6,ae w] nth._f) c)/\Q AEx.ret (St.mk u6 [cells false 2 (nth [int i64 6,ae w])] g)) ([(0,ref 0 0)])) (Row.mk (some 15) none (agg 2 (nth [int i64 4,AV.bool true])) false (some []) []::Row.mk (some 14) none (agg 2 (nth [int i64 4,am v4])) false (some []) []::Row.mk (some 13) none (am v4) true (some []) []::u3)) ([Row.mk (some 3) none (agg 2 (nth [int i64 2,AV.bool true])) false (some []) [],Row.mk (some 2) none (agg 2 (nth [int i64 0,AV.bool false])) false (some []) [],Row.mk (some 1) none (agg 2 (nth [int i64 0,fz Fz.nil 2 0 fun (i:Nat)=>gY (List.getD [] i default)])) false (some []) []])) (Row.mk (some 12) none (agg 2 (nth [int i64 5,AV.bool true])) false (some []) []::Row.mk (some 11) none (agg 2 (nth [int i64 3,am v3])) false (some []) []::Row.mk (some 10) none (am v3) true (some []) []::u1)) ([cells false 2 (nth [int i64 0,fz Fz.nil 0 0 fun _ _=>any])])) ([Row.mk (some 9) none (agg 2 (nth [int i64 2,AV.bool false])) false (some []) [],Row.mk (some 8) none (agg 2 (nth [int i64 2,am v2])) false (some []) [],Row.mk (some 7) none (am v2) true (some []) [],Row.mk (some 6) none (agg 2 (nth [int i64 3,AV.bool false])) false (some []) [],Row.mk (some 5) none (agg 2 (nth [int i64 1,am v1])) false (some []) [],Row.mk (some 4) none (am v1) true (some []) [],Row.mk (some 3) none (agg 2 (nth [int i64 2,AV.bool true])) false (some []) [],Row.mk (some 2) none (agg 2 (nth [int i64 0,AV.bool false])) false (some []) [],Row.mk (some 1) none (agg 2 (nth [int i64 0,fz Fz.nil 2 0 fun (i:Nat)=>gY (List.getD [] i default)])) false (some []) []])) (fun _=>by kernel_rfl) ⟨(fun _ _=>⟨rfl,(l4 (args':=[int i64 0,am (KL.mk [] Fz.nil)]) (eJ _ _ (KL.mk [] Fz.nil) _ _) (by exact⟨Le.refl _,Le.nil,trivial⟩) (Le.refl _))⟩),(fun _ _=>⟨rfl,(jg _ _ _ _)⟩),(fun _ _=>⟨rfl,(jh _ _ _ _)⟩),?_,(fun _ _=>⟨rfl,(eJ _ _ _ _ _)⟩),(fun _ _=>⟨rfl,(jg _ _ _ _)⟩),?_,(fun _ _=>⟨rfl,(eJ _ _ _ _ _)⟩),(fun _ _=>⟨rfl,(jg _ _ _ _)⟩),?_,(fun _ _=>⟨rfl,(eJ _ _ _ _ _)⟩),(fun _ _=>⟨rfl,(jh _ _ _ _)⟩),?_,(fun _ _=>⟨rfl,(eJ _ _ _ _ _)⟩),(fun _ _=>⟨rfl,(jh _ _ _ _)⟩),?_,(fun _ _=>⟨rfl,(eJ _ _ _ _ _)⟩),?_,by omega,(fun c hc=>match c,hc with|0,_=>(by kernel_rfl)|1,_=>(by kernel_rfl) ),?_⟩
 ·subst e1;exact bS (n:=2) (es:=2) (by kernel_rfl) (by exact⟨⟨⟨trivial,trivial⟩,trivial⟩,⟨⟨trivial,trivial⟩,trivial⟩,trivial⟩) rfl rfl (fun i hi j hj=>match i,hi,j,hj with|0,_,0,_=>(by kernel_rfl)|0,_,1,_=>(by kernel_rfl)|1,_,0,_=>(by kernel_rfl)|1,_,1,_=>(by kernel_rfl) ) (fun i hi j hj=>match i,hi,j,hj with|0,_,0,_=>trivial|0,_,1,_=>trivial|1,_,0,_=>trivial|1,_,1,_=>trivial )
 ·subst e2;exact bS (n:=1) (es:=2) (by kernel_rfl) (by exact⟨⟨⟨trivial,trivial⟩,trivial⟩,trivial⟩) rfl rfl (fun i hi j hj=>match i,hi,j,hj with|0,_,0,_=>(by kernel_rfl)|0,_,1,_=>(by kernel_rfl) ) (fun i hi j hj=>match i,hi,j,hj with|0,_,0,_=>trivial|0,_,1,_=>trivial )
 ·subst e3;exact bS (n:=1) (es:=2) (by kernel_rfl) (by exact⟨⟨⟨trivial,trivial⟩,trivial⟩,trivial⟩) rfl rfl (fun i hi j hj=>match i,hi,j,hj with|0,_,0,_=>(by kernel_rfl)|0,_,1,_=>(by kernel_rfl) ) (fun i hi j hj=>match i,hi,j,hj with|0,_,0,_=>trivial|0,_,1,_=>trivial )
 ·subst e4;exact bS (n:=1) (es:=2) (by kernel_rfl) (by exact⟨⟨⟨trivial,trivial⟩,trivial⟩,trivial⟩) rfl rfl (fun i hi j hj=>match i,hi,j,hj with|0,_,0,_=>(by kernel_rfl)|0,_,1,_=>(by kernel_rfl) ) (fun i hi j hj=>match i,hi,j,hj with|0,_,0,_=>trivial|0,_,1,_=>trivial )
 ·subst e5;exact bS (n:=1) (es:=2) (by kernel_rfl) (by exact⟨⟨⟨trivial,trivial⟩,trivial⟩,trivial⟩) rfl rfl (fun i hi j hj=>match i,hi,j,hj with|0,_,0,_=>(by kernel_rfl)|0,_,1,_=>(by kernel_rfl) ) (fun i hi j hj=>match i,hi,j,hj with|0,_,0,_=>trivial|0,_,1,_=>trivial )
 ·subst e1 e2 e3 e4 e5 f;exact bS (n:=6) (es:=2) (by kernel_rfl) (by exact⟨⟨⟨trivial,trivial⟩,trivial⟩,⟨⟨trivial,trivial⟩,trivial⟩,⟨⟨trivial,trivial⟩,trivial⟩,⟨⟨trivial,trivial⟩,trivial⟩,⟨⟨trivial,trivial⟩,trivial⟩,⟨⟨trivial,trivial⟩,trivial⟩,trivial⟩) rfl rfl (fun i hi j hj=>match i,hi,j,hj with|0,_,0,_=>(by kernel_rfl)|0,_,1,_=>(by kernel_rfl)|1,_,0,_=>(by kernel_rfl)|1,_,1,_=>(by kernel_rfl)|2,_,0,_=>(by kernel_rfl)|2,_,1,_=>(by kernel_rfl)|3,_,0,_=>(by kernel_rfl)|3,_,1,_=>(by kernel_rfl)|4,_,0,_=>(by kernel_rfl)|4,_,1,_=>(by kernel_rfl)|5,_,0,_=>(by kernel_rfl)|5,_,1,_=>(by kernel_rfl) ) (fun i hi j hj=>match i,hi,j,hj with|0,_,0,_=>trivial|0,_,1,_=>trivial|1,_,0,_=>trivial|1,_,1,_=>trivial|2,_,0,_=>trivial|2,_,1,_=>trivial|3,_,0,_=>trivial|3,_,1,_=>trivial|4,_,0,_=>trivial|4,_,1,_=>trivial|5,_,0,_=>trivial|5,_,1,_=>trivial )
 ·refine(av (bE (agg 2 (nth [int i64 6,fz w.2 2 (w.l.length) fun (i:Nat)=>bw (w.l.getD i default)])) ([0+(TyI.mk ((fun (x:TypeInfo)=>x.desc) Tryd.prog.types[23]) Tryd.prog.types[24].size Tryd.prog.types[24].bytes (cp (dA (Value.agg #[Value.int i64 0,Value.slice none 0 0]))) (cU ((fun (x:TypeInfo)=>x.desc) Tryd.prog.types[23])) (ej Tryd.prog 24)).size<=2]) (by kernel_rfl) (by exact⟨by decide,trivial⟩) ⟨⟨trivial,trivial⟩,trivial⟩ rfl) (Le.of_eq (by kernel_rfl)))
theorem c_B (R:Res)(hp:List AObj)(g:R.σ):Does Tryd.prog R 45 [] hp g (.ret (aA tB)) hp g:=by
 refine bt (fun R g=>?_) (by exact trivial) R hp g
 obtain⟨v1,e1⟩:∃v,v=tB1:=⟨_,rfl⟩
 obtain⟨v2,e2⟩:∃v,v=tB2:=⟨_,rfl⟩
 obtain⟨v3,e3⟩:∃v,v=tB3:=⟨_,rfl⟩
 obtain⟨v4,e4⟩:∃v,v=tB4:=⟨_,rfl⟩
 obtain⟨w,f⟩:∃v,v=tBR:=⟨_,rfl⟩
 show Does _ _ _ _ _ _ (.ret (aA ⟨3,tBR⟩)) _ _
 rw[<-f]
 refine ax (nt:=15) (rs:=[.cell 0 24]) (k0:=0) (by kernel_rfl) (by kernel_rfl) (by kernel_rfl) rfl ?_
 refine vcQ [] (lkL [(0,[0]),(1,[0])]) (lkL [(1,[(0,ROrc.pcall (bT (Lit.mk 1 true))),(1,ROrc.kop (am v1)),(2,ROrc.pcall (bJ (Rule.mk 0 v1))),(3,ROrc.pcall (bT (Lit.mk 0 true))),(4,ROrc.kop (am v2)),(5,ROrc.pcall (bJ (Rule.mk 1 v2))),(6,ROrc.pcall (bT (Lit.mk 0 false))),(7,ROrc.kop (am v3)),(8,ROrc.pcall (bJ (Rule.mk 2 v3))),(9,ROrc.pcall (bT (Lit.mk 1 false))),(10,ROrc.kop (am v4)),(11,ROrc.pcall (bJ (Rule.mk 2 v4))),(12,ROrc.kop (ae w)),(14,ROrc.val (Orc.obj (nth [int i64 3,ae w])))])]) (fun Q=>(fun (u1:List Row)=>(fun (u2:List AObj)=>(fun (u3:List Row)=>(fun (u4:Row)=>(fun (u5:AV)=>(∀(hp:List AObj) (g:R.σ),true=true/\Does Tryd.prog R 92 [int i64 1] hp g (ret (agg 2 (nth [int i64 1,AV.bool true]))) hp g)/\OpOk Tryd.prog R (Oper.mk (some 2) (Op.buildSlice 73 1 #[(0,Operand.tmp 1)]) 73 "law.go:25" #[Edge.mk 0 Ground.data] none) (evO [u4] [(0,ref 0 0)] []) u2 g (am v1) u2 g/\(∀(hp:List AObj) (g:R.σ),true=true/\Does Tryd.prog R 90 [u5,am v1] hp g (ret (agg 2 (nth [u5,am v1]))) hp g)/\(∀(hp:List AObj) (g:R.σ),true=true/\Does Tryd.prog R 92 [u5] hp g (ret (agg 2 (nth [u5,AV.bool true]))) hp g)/\OpOk Tryd.prog R (Oper.mk (some 5) (Op.buildSlice 73 1 #[(0,Operand.tmp 4)]) 73 "law.go:25" #[Edge.mk 3 Ground.data] none) (evO [Row.mk (some 4) none (agg 2 (nth [u5,AV.bool true])) false (some []) [],Row.mk (some 3) none (agg 2 (nth [u5,am v1])) false (some []) [],Row.mk (some 2) none (am v1) true (some []) [],u4] [(0,ref 0 0)] []) u2 g (am v2) u2 g/\(∀(hp:List AObj) (g:R.σ),true=true/\Does Tryd.prog R 90 [int i64 1,am v2] hp g (ret (agg 2 (nth [int i64 1,am v2]))) hp g)/\(∀(hp:List AObj) (g:R.σ),true=true/\Does Tryd.prog R 91 [u5] hp g (ret (agg 2 (nth [u5,AV.bool false]))) hp g)/\OpOk Tryd.prog R (Oper.mk (some 8) (Op.buildSlice 73 1 #[(0,Operand.tmp 7)]) 73 "law.go:25" #[Edge.mk 6 Ground.data] none) (evO u1 [(0,ref 0 0)] []) u2 g (am v3) u2 g/\(∀(hp:List AObj) (g:R.σ),true=true/\Does Tryd.prog R 90 [int i64 2,am v3] hp g (ret (agg 2 (nth [int i64 2,am v3]))) hp g)/\(∀(hp:List AObj) (g:R.σ),true=true/\Does Tryd.prog R 91 [int i64 1] hp g (ret (agg 2 (nth [int i64 1,AV.bool false]))) hp g)/\OpOk Tryd.prog R (Oper.mk (some 11) (Op.buildSlice 73 1 #[(0,Operand.tmp 10)]) 73 "law.go:25" #[Edge.mk 9 Ground.data] none) (evO u3 [(0,ref 0 0)] []) u2 g (am v4) u2 g/\(∀(hp:List AObj) (g:R.σ),true=true/\Does Tryd.prog R 90 [int i64 2,am v4] hp g (ret (agg 2 (nth [int i64 2,am v4]))) hp g)/\OpOk Tryd.prog R (Oper.mk (some 13) (Op.buildSlice 22 4 #[(0,Operand.tmp 3),(1,Operand.tmp 6),(2,Operand.tmp 9),(3,Operand.tmp 12)]) 22 "law.go:25" #[Edge.mk 2 Ground.data,Edge.mk 5 Ground.data,Edge.mk 8 Ground.data,Edge.mk 11 Ground.data] none) (evO (Row.mk (some 12) none (agg 2 (nth [int i64 2,am v4])) false (some []) []::Row.mk (some 11) none (am v4) true (some []) []::u3) [(0,ref 0 0)] []) u2 g (ae w) u2 g/\2<=2/\(∀(c:Nat),c<2->nth [int i64 3,ae w] c=ap (nth [u5,fz Fz.nil 0 0 fun _ _=>any]) 0 2 (List.brecOn (motive:=fun (x:List AV)=>Nat->AV) [int i64 3,ae w] nth._f) c)/\Q AEx.ret (St.mk [(0,ref 0 0)] [cells false 2 (nth [int i64 3,ae w])] g)) (int i64 0)) (Row.mk (some 1) none (agg 2 (nth [int i64 1,AV.bool true])) false (some []) [])) (Row.mk (some 10) none (agg 2 (nth [int i64 1,AV.bool false])) false (some []) []::Row.mk (some 9) none (agg 2 (nth [int i64 2,am v3])) false (some []) []::Row.mk (some 8) none (am v3) true (some []) []::u1)) ([cells false 2 (nth [int i64 0,fz Fz.nil 0 0 fun _ _=>any])])) ([Row.mk (some 7) none (agg 2 (nth [int i64 0,AV.bool false])) false (some []) [],Row.mk (some 6) none (agg 2 (nth [int i64 1,am v2])) false (some []) [],Row.mk (some 5) none (am v2) true (some []) [],Row.mk (some 4) none (agg 2 (nth [int i64 0,AV.bool true])) false (some []) [],Row.mk (some 3) none (agg 2 (nth [int i64 0,am v1])) false (some []) [],Row.mk (some 2) none (am v1) true (some []) [],Row.mk (some 1) none (agg 2 (nth [int i64 1,AV.bool true])) false (some []) []])) (fun _=>by kernel_rfl) ⟨(fun _ _=>⟨rfl,(jh _ _ _ _)⟩),?_,(fun _ _=>⟨rfl,(eJ _ _ _ _ _)⟩),(fun _ _=>⟨rfl,(jh _ _ _ _)⟩),?_,(fun _ _=>⟨rfl,(eJ _ _ _ _ _)⟩),(fun _ _=>⟨rfl,(jg _ _ _ _)⟩),?_,(fun _ _=>⟨rfl,(eJ _ _ _ _ _)⟩),(fun _ _=>⟨rfl,(jg _ _ _ _)⟩),?_,(fun _ _=>⟨rfl,(eJ _ _ _ _ _)⟩),?_,by omega,(fun c hc=>match c,hc with|0,_=>(by kernel_rfl)|1,_=>(by kernel_rfl) ),?_⟩
 ·subst e1;exact bS (n:=1) (es:=2) (by kernel_rfl) (by exact⟨⟨⟨trivial,trivial⟩,trivial⟩,trivial⟩) rfl rfl (fun i hi j hj=>match i,hi,j,hj with|0,_,0,_=>(by kernel_rfl)|0,_,1,_=>(by kernel_rfl) ) (fun i hi j hj=>match i,hi,j,hj with|0,_,0,_=>trivial|0,_,1,_=>trivial )
 ·subst e2;exact bS (n:=1) (es:=2) (by kernel_rfl) (by exact⟨⟨⟨trivial,trivial⟩,trivial⟩,trivial⟩) rfl rfl (fun i hi j hj=>match i,hi,j,hj with|0,_,0,_=>(by kernel_rfl)|0,_,1,_=>(by kernel_rfl) ) (fun i hi j hj=>match i,hi,j,hj with|0,_,0,_=>trivial|0,_,1,_=>trivial )
 ·subst e3;exact bS (n:=1) (es:=2) (by kernel_rfl) (by exact⟨⟨⟨trivial,trivial⟩,trivial⟩,trivial⟩) rfl rfl (fun i hi j hj=>match i,hi,j,hj with|0,_,0,_=>(by kernel_rfl)|0,_,1,_=>(by kernel_rfl) ) (fun i hi j hj=>match i,hi,j,hj with|0,_,0,_=>trivial|0,_,1,_=>trivial )
 ·subst e4;exact bS (n:=1) (es:=2) (by kernel_rfl) (by exact⟨⟨⟨trivial,trivial⟩,trivial⟩,trivial⟩) rfl rfl (fun i hi j hj=>match i,hi,j,hj with|0,_,0,_=>(by kernel_rfl)|0,_,1,_=>(by kernel_rfl) ) (fun i hi j hj=>match i,hi,j,hj with|0,_,0,_=>trivial|0,_,1,_=>trivial )
 ·subst e1 e2 e3 e4 f;exact bS (n:=4) (es:=2) (by kernel_rfl) (by exact⟨⟨⟨trivial,trivial⟩,trivial⟩,⟨⟨trivial,trivial⟩,trivial⟩,⟨⟨trivial,trivial⟩,trivial⟩,⟨⟨trivial,trivial⟩,trivial⟩,trivial⟩) rfl rfl (fun i hi j hj=>match i,hi,j,hj with|0,_,0,_=>(by kernel_rfl)|0,_,1,_=>(by kernel_rfl)|1,_,0,_=>(by kernel_rfl)|1,_,1,_=>(by kernel_rfl)|2,_,0,_=>(by kernel_rfl)|2,_,1,_=>(by kernel_rfl)|3,_,0,_=>(by kernel_rfl)|3,_,1,_=>(by kernel_rfl) ) (fun i hi j hj=>match i,hi,j,hj with|0,_,0,_=>trivial|0,_,1,_=>trivial|1,_,0,_=>trivial|1,_,1,_=>trivial|2,_,0,_=>trivial|2,_,1,_=>trivial|3,_,0,_=>trivial|3,_,1,_=>trivial )
 ·refine(av (bE (agg 2 (nth [int i64 3,fz w.2 2 (w.l.length) fun (i:Nat)=>bw (w.l.getD i default)])) ([0+(TyI.mk ((fun (x:TypeInfo)=>x.desc) Tryd.prog.types[23]) Tryd.prog.types[24].size Tryd.prog.types[24].bytes (cp (dA (Value.agg #[Value.int i64 0,Value.slice none 0 0]))) (cU ((fun (x:TypeInfo)=>x.desc) Tryd.prog.types[23])) (ej Tryd.prog 24)).size<=2]) (by kernel_rfl) (by exact⟨by decide,trivial⟩) ⟨⟨trivial,trivial⟩,trivial⟩ rfl) (Le.of_eq (by kernel_rfl)))
theorem xk (R:Res)(hp:List AObj)(g:R.σ):Does Tryd.prog R 57 [] hp g (.ret (aT tS)) hp g:=by
 refine bt (fun R g=>?_) (by exact trivial) R hp g
 obtain⟨v1,e1⟩:∃v,v=tS1:=⟨_,rfl⟩
 obtain⟨v2,e2⟩:∃v,v=tS2:=⟨_,rfl⟩
 obtain⟨v3,e3⟩:∃v,v=tS3:=⟨_,rfl⟩
 obtain⟨w,f⟩:∃v,v=tS:=⟨_,rfl⟩
 rw[<-f]
 refine ax (nt:=8) (rs:=[.tmp 0]) (k0:=0) (by kernel_rfl) (by kernel_rfl) (by kernel_rfl) rfl ?_
 refine vcQ [] (lkL [(1,[0])]) (lkL [(1,[(0,ROrc.kop (ak v1)),(2,ROrc.kop (ak v2)),(4,ROrc.kop (ak v3)),(6,ROrc.kop (aT w))])]) (fun Q=>(fun (u1:List Row)=>OpOk Tryd.prog R (Oper.mk (some 1) (Op.buildSlice 53 1 #[(0,Operand.const (Value.int i64 0))]) 53 "law.go:30" #[] none) (evO [] [] []) [] g (ak v1) [] g/\OpOk Tryd.prog R (Oper.mk (some 3) (Op.buildSlice 53 2 #[(0,Operand.const (Value.int i64 2)),(1,Operand.const (Value.int i64 3))]) 53 "law.go:30" #[] none) (evO [Row.mk (some 2) none (agg 2 (nth [int i64 0,ak v1])) false (some []) [],Row.mk (some 1) none (ak v1) true (some []) []] [] []) [] g (ak v2) [] g/\OpOk Tryd.prog R (Oper.mk (some 5) (Op.buildSlice 53 1 #[(0,Operand.const (Value.int i64 1))]) 53 "law.go:30" #[] none) (evO u1 [] []) [] g (ak v3) [] g/\OpOk Tryd.prog R (Oper.mk (some 7) (Op.buildSlice 29 3 #[(0,Operand.tmp 2),(1,Operand.tmp 4),(2,Operand.tmp 6)]) 29 "law.go:30" #[Edge.mk 1 Ground.data,Edge.mk 3 Ground.data,Edge.mk 5 Ground.data] none) (evO (Row.mk (some 6) none (agg 2 (nth [int i64 1,ak v3])) false (some []) []::Row.mk (some 5) none (ak v3) true (some []) []::u1) [] []) [] g (aT w) [] g/\Q AEx.ret (St.mk [(0,aT w)] [] g)) ([Row.mk (some 4) none (agg 2 (nth [int i64 (-1),ak v2])) false (some []) [],Row.mk (some 3) none (ak v2) true (some []) [],Row.mk (some 2) none (agg 2 (nth [int i64 0,ak v1])) false (some []) [],Row.mk (some 1) none (ak v1) true (some []) []])) (fun _=>by kernel_rfl) ⟨?_,?_,?_,?_,?_⟩
 ·subst e1;exact bS (n:=1) (es:=1) (by kernel_rfl) (by exact⟨trivial,trivial⟩) rfl rfl (fun i hi j hj=>match i,hi,j,hj with|0,_,0,_=>(by kernel_rfl) ) (fun i hi j hj=>match i,hi,j,hj with|0,_,0,_=>trivial )
 ·subst e2;exact bS (n:=2) (es:=1) (by kernel_rfl) (by exact⟨trivial,trivial,trivial⟩) rfl rfl (fun i hi j hj=>match i,hi,j,hj with|0,_,0,_=>(by kernel_rfl)|1,_,0,_=>(by kernel_rfl) ) (fun i hi j hj=>match i,hi,j,hj with|0,_,0,_=>trivial|1,_,0,_=>trivial )
 ·subst e3;exact bS (n:=1) (es:=1) (by kernel_rfl) (by exact⟨trivial,trivial⟩) rfl rfl (fun i hi j hj=>match i,hi,j,hj with|0,_,0,_=>(by kernel_rfl) ) (fun i hi j hj=>match i,hi,j,hj with|0,_,0,_=>trivial )
 ·subst e1 e2 e3 f;exact bS (n:=3) (es:=2) (by kernel_rfl) (by exact⟨⟨⟨trivial,trivial⟩,trivial⟩,⟨⟨trivial,trivial⟩,trivial⟩,⟨⟨trivial,trivial⟩,trivial⟩,trivial⟩) rfl rfl (fun i hi j hj=>match i,hi,j,hj with|0,_,0,_=>(by kernel_rfl)|0,_,1,_=>(by kernel_rfl)|1,_,0,_=>(by kernel_rfl)|1,_,1,_=>(by kernel_rfl)|2,_,0,_=>(by kernel_rfl)|2,_,1,_=>(by kernel_rfl) ) (fun i hi j hj=>match i,hi,j,hj with|0,_,0,_=>trivial|0,_,1,_=>trivial|1,_,0,_=>trivial|1,_,1,_=>trivial|2,_,0,_=>trivial|2,_,1,_=>trivial )
 ·refine(av (aS _ _ rfl trivial rfl rfl rfl) (Le.of_eq (by kernel_rfl)))
theorem kO:aJ tA=true:=by kernel_rfl
theorem xm:aJ tB=true:=by kernel_rfl
theorem xn:(al tA).1=[⟨0,[0]⟩,⟨-1,[2,3]⟩,⟨1,[1]⟩]:=by kernel_rfl
theorem rd:(dS tA (al tA).2).l=[2,2,1,1,3,3]:=by kernel_rfl
theorem re:bP tA=[1,12,2,48]:=by kernel_rfl
theorem xp:(al (az tA (hgP tA 1))).2 1=2:=by kernel_rfl
theorem xq:(dy (hgP tA 1) (bf (hgP tA 1) tA.rules.l 0) (al (az tA (hgP tA 1))).1).l.map cR=tS.l.map cR:=by kernel_rfl
theorem xu:(aD (dz tB)).length<=10:=by decide
theorem rf:stP tB 9=[6,5]:=by kernel_rfl
def tT:KL Step:=⟨[⟨1,tS3⟩],.opn⟩
def tV:KL Int:=⟨[2,2,1,1,3,3],.exa⟩
def tO1:KL Int:=⟨[0],.exa⟩
def tO2:KL Int:=⟨[2,3],.exa⟩
def tO3:KL Int:=⟨[1],.exa⟩
def tO4:KL Int:=⟨[4,5],.exa⟩
def tO (i:Nat):KL Int:=[tO1,tO2,tO3,tO4].getD i ⟨[],.nil⟩
def tM1:KL Int:=⟨[1,2],.exa⟩
def tM2:KL Int:=⟨[0,2],.exa⟩
def tM (i:Nat):KL Int:=[tM1,tM2].getD i ⟨[],.nil⟩
theorem xw:dM tA (fun _=>3) (tT.l.getD 0 default)=false:=by kernel_rfl
theorem xx:(bG (al tA).1).l.map cR=tS.l.map cR:=by kernel_rfl
theorem xy:∀i,((bG (al tA).1).l.getD i default).atoms.l.length<1000000:=by
 intro i
 match i with
 |0=>exact of_decide_eq_true (by kernel_rfl)
 |1=>exact of_decide_eq_true (by kernel_rfl)
 |2=>exact of_decide_eq_true (by kernel_rfl)
 |_+3=>exact of_decide_eq_true (by kernel_rfl)
theorem xz:∀i,((dy (hgP tA 1) (bf (hgP tA 1) tA.rules.l 0) (al (az tA (hgP tA 1))).1).l.getD i default).atoms.l.length<1000000:=by
 intro i
 match i with
 |0=>exact of_decide_eq_true (by kernel_rfl)
 |1=>exact of_decide_eq_true (by kernel_rfl)
 |2=>exact of_decide_eq_true (by kernel_rfl)
 |_+3=>exact of_decide_eq_true (by kernel_rfl)
theorem ji {s:Nat}:(ac s).l.length<1000000:=by
 show(aD s).length<1000000
 rw[dn]
 have:=eF s
 omega
def lsX (n:Nat)(b:Nat->KL Int):AV:=.fz .exa 1 n (fun i _=>ak (b i))
theorem rg (R:Res)(n:Nat)(a b:Nat->KL Int)(hp:List AObj)(g:R.σ)(hn:n<1000000)(h:∀i,i<n->(a i).l=(b i).l)(hl:∀i,(a i).l.length<1000000) :
  Does Tryd.prog R 29 [cw n a,.fz .exa 1 n (fun i _=>ak (b i))] hp g (.ret (.bool true)) hp g:=by
 refine bt (fun R g=>?_) (by exact⟨trivial,trivial,trivial⟩) R hp g
 refine ax (nt:=34) (rs:=[.tmp 4]) (k0:=0) (by kernel_rfl) (by kernel_rfl) (by kernel_rfl) rfl ?_
 refine vcQ [] (lkL [(0,[0,1]),(1,[0,1,5])]) (fun _=>[]) (fun Q=>Wp Tryd.prog R 34 0 Rd.top (ah Tryd.prog 29) [1,0,1,0] (aq Tryd.prog R 34 0 Rd.top (ah Tryd.prog 29) Q [Kont.blk 0,Kont.seq [1,1]]) (St.mk [(0,cw n a),(1,fz Fz.exa 1 n fun (i x:Nat)=>ak (b i)),(5,int i64 0)] [] g)) (fun _=>by kernel_rfl) (?_)
 refine(bb (by kernel_rfl) (fun (i:Nat)=>⟨[(0,cw n a),(1,fz Fz.exa 1 n fun (i x:Nat)=>ak (b i)),(5,.int .i64 i)],[],g⟩) (fun (i:Nat)=>(i<=n)) (fun (i:Nat)=>(n-i)) 0 (aV ⟨Le.refl _,Le.refl _,(Le.of_eq (by kernel_rfl)),trivial⟩ rfl rfl) ?_ (fun i hi=>?_))
 ·omega
 ·have h1:=hl i
  refine vcQ [] (lkL [(2,[0,1,5,16]),(4,[0,1,5,28]),(5,[4]),(3,[0,1,5])]) (lkL [(4,[(8,ROrc.pcall (AV.bool (decide ((a i).l=(b i).l))))])]) (fun Q=>(fun (u1:Bool)=>(fun (u2:Int)=>(u1=true->Tables.follows Tryd.prog.toTables Departure.mixedOrders=true/\(0<=u2/\u2<(n:Int))/\1<=1/\(0<=u2/\u2<(n:Int))/\1<=1/\(∀(hp:List AObj) (g:R.σ),true=true/\Does Tryd.prog R 33 [ak (a i),ak (b i)] hp g (ret (AV.bool (decide ((a i).l=(b i).l)))) hp g)/\((!decide ((a i).l=(b i).l))=true->Q AEx.ret (St.mk [(4,AV.bool false)] [] g))/\((!decide ((a i).l=(b i).l))=false->(-9223372036854775808<=u2+1/\u2+1<=9223372036854775807)/\Q AEx.normal (St.mk [(0,cw n a),(1,fz Fz.exa 1 n fun (i x:Nat)=>ak (b i)),(5,int i64 (u2+1))] [] g)))/\(u1=false->Q (AEx.exit 0) (St.mk [(0,cw n a),(1,fz Fz.exa 1 n fun (i x:Nat)=>ak (b i)),(5,int i64 u2),(16,AV.bool u1)] [] g))) ((i:Int))) (bif decide ((i:Int)<(n:Int)) then(n:Int)==(n:Int) else false)) (fun _=>by kernel_rfl) ⟨fun c1=>have c1:(i:Int)<(n:Int)/\(n:Int)=(n:Int):=⟨(of_decide_eq_true (fo c1).1),(beq_iff_eq.mp (fo c1).2)⟩;⟨by kernel_rfl,by omega,by omega,by omega,by omega,(fun _ _=>⟨rfl,(pS _ _ _ _ _ (by omega))⟩),fun c2=>have c2:¬(a i).l=(b i).l:=(of_decide_eq_false ((Bool.not_eq_true' _).mp c2));?_,fun c2=>have c2:(a i).l=(b i).l:=(of_decide_eq_true ((Bool.not_eq_false' _).mp c2));⟨by omega,?_⟩⟩,fun c1=>have c1:¬(i:Int)<(n:Int)∨¬(n:Int)=(n:Int):=((jN c1).imp (fun h=>(of_decide_eq_false h)) (fun h=>(beq_eq_false_iff_ne.mp h)));?_⟩
  ·exact absurd (h i (by omega)) c2
  ·refine(aX (i+1) (aV ⟨Le.refl _,Le.refl _,(Le.of_eq (by kernel_rfl)),trivial⟩ rfl rfl) ?_ ?_)
   ·omega
   ·omega
  ·refine⟨_,To.refl _,vcQ [] (lkL [(6,[4])]) (fun _=>[]) (fun Q=>Q AEx.ret (St.mk [(4,AV.bool ((n:Int)==(n:Int)))] [] g)) (fun _=>by kernel_rfl) (?_)⟩
   refine(av (aS _ _ rfl trivial rfl rfl rfl) (Le.of_eq ?_))
   show(AV.bool ((↑n:Int)==(↑n:Int)))=_
   show AV.bool _=AV.bool _
   simp
theorem rh (R:Res)[Tab LT R](g:R.σ):Does Tryd.prog R 15 [] [] g (.ret (.bool true)) [] g:=by
 have hD:∀(R:Res) [Tab LT R] (g:R.σ),Does Tryd.prog R 17 [aA tA] [] g (.ret (.tup 3 (nth [aT (bG (al tA).1),ak (dS tA (al tA).2),.int .i64 0]))) [] g:=fun R _ g=>v8 R tA kO g
 have hW:∀(R:Res) [Tab LT R] (g:R.σ),Does Tryd.prog R 23 [aA tA,aT tT] [] g (.ret (.tup 2 (nth [.int .i64 0,.int .i64 7]))) [] g:=fun R _ g=>wE R tA tT kO (by decide) (by decide) xw g
 have hO:∀(R:Res) [Tab LT R] (g:R.σ),Does Tryd.prog R 31 [aA tA] [] g (.ret (.tup 2 (nth [cw 4 (fun i=>ac ((bP tA).getD i 0)),.int .i64 0]))) [] g:=fun R _ g=>by
  have h:=q8 R tA kO g
  rw[show(bP tA).length=4 by rw[re];rfl] at h
  exact h
 have hN:∀(R:Res) [Tab LT R] (g:R.σ),Does Tryd.prog R 25 [aA tA,.int .i64 1] [] g (.ret (.tup 3 (nth [.int .i64 2,aT (dy (hgP tA 1) (bf (hgP tA 1) tA.rules.l 0) (al (az tA (hgP tA 1))).1),.int .i64 0]))) [] g:=fun R _ g=>by
  have h:=wx R tA 1 kO (by decide) g
  rw[show(1:Int).toNat=1 from rfl,xp] at h
  exact h
 have hT:∀(R:Res) [Tab LT R] (g:R.σ),Does Tryd.prog R 27 [aA tB,.int .i64 9] [] g (.ret (.tup 2 (nth [cw 2 (fun i=>ac ((stP tB 9).getD i 0)),.int .i64 0]))) [] g:=fun R _ g=>by
  have h:=xg R tB 9 xm (by decide) xu g
  rw[show(stP tB 9).length=2 by rw[rf];rfl] at h
  exact h
 have hS1:∀(R:Res) (hp:List AObj) (g:R.σ),Does Tryd.prog R 20 [aT (bG (al tA).1),aT tS] hp g (.ret (.bool true)) hp g:=fun R hp g=>by
  have h:=pT R (bG (al tA).1) tS hp g (by rw[qA,xn];decide) xy
  rw[decide_eq_true xx] at h
  exact h
 have hV1:∀(R:Res) (hp:List AObj) (g:R.σ),Does Tryd.prog R 21 [ak (dS tA (al tA).2),ak tV] hp g (.ret (.bool true)) hp g:=fun R hp g=>by
  have h:=uJ R (dS tA (al tA).2) tV hp g (by rw[rd];decide)
  rw[decide_eq_true (show(dS tA (al tA).2).l=tV.l from rd)] at h
  exact h
 have hL1:∀(R:Res) (hp:List AObj) (g:R.σ),Does Tryd.prog R 29 [cw 4 (fun i=>ac ((bP tA).getD i 0)),lsX 4 tO] hp g (.ret (.bool true)) hp g:=fun R hp g=>rg R 4 _ _ hp g (by decide) (fun i hi=>by
  rw[re]
  match i,hi with
  |0,_=>exact of_decide_eq_true (by kernel_rfl)
  |1,_=>exact of_decide_eq_true (by kernel_rfl)
  |2,_=>exact of_decide_eq_true (by kernel_rfl)
  |3,_=>exact of_decide_eq_true (by kernel_rfl)) (fun i=>ji)
 have hL2:∀(R:Res) (hp:List AObj) (g:R.σ),Does Tryd.prog R 29 [cw 2 (fun i=>ac ((stP tB 9).getD i 0)),lsX 2 tM] hp g (.ret (.bool true)) hp g:=fun R hp g=>rg R 2 _ _ hp g (by decide) (fun i hi=>by
  rw[rf]
  match i,hi with
  |0,_=>exact of_decide_eq_true (by kernel_rfl)
  |1,_=>exact of_decide_eq_true (by kernel_rfl)) (fun i=>ji)
 have hS2:∀(R:Res) (hp:List AObj) (g:R.σ),Does Tryd.prog R 20 [aT (dy (hgP tA 1) (bf (hgP tA 1) tA.rules.l 0) (al (az tA (hgP tA 1))).1),aT tS] hp g (.ret (.bool true)) hp g:=fun R hp g=>by
  have h:=pT R (dy (hgP tA 1) (bf (hgP tA 1) tA.rules.l 0) (al (az tA (hgP tA 1))).1) tS hp g (of_decide_eq_true (by kernel_rfl)) xz
  rw[decide_eq_true xq] at h
  exact h
 have hA:∀(R:Res) (hp:List AObj) (g:R.σ),Does Tryd.prog R 44 [] hp g (.ret (aA tA)) hp g:=fun R hp g=>c_A R hp g
 have hB:∀(R:Res) (hp:List AObj) (g:R.σ),Does Tryd.prog R 45 [] hp g (.ret (aA tB)) hp g:=fun R hp g=>c_B R hp g
 have hC:∀(R:Res) (hp:List AObj) (g:R.σ),Does Tryd.prog R 57 [] hp g (.ret (aT tS)) hp g:=fun R hp g=>xk R hp g
 obtain⟨n1,e1⟩:∃v,v=aT (bG (al tA).1):=⟨_,rfl⟩
 obtain⟨n2,e2⟩:∃v,v=ak (dS tA (al tA).2):=⟨_,rfl⟩
 obtain⟨n3,e3⟩:∃v,v=cw 4 (fun i=>ac ((bP tA).getD i 0)):=⟨_,rfl⟩
 obtain⟨n4,e4⟩:∃v,v=aT (dy (hgP tA 1) (bf (hgP tA 1) tA.rules.l 0) (al (az tA (hgP tA 1))).1):=⟨_,rfl⟩
 obtain⟨n5,e5⟩:∃v,v=cw 2 (fun i=>ac ((stP tB 9).getD i 0)):=⟨_,rfl⟩
 simp only[<-e1,<-e2,<-e3,<-e4,<-e5] at hD hO hN hT hS1 hV1 hL1 hL2 hS2
 obtain⟨a,ha⟩:∃v,v=tA:=⟨_,rfl⟩
 obtain⟨b,hb⟩:∃v,v=tB:=⟨_,rfl⟩
 obtain⟨s,hs⟩:∃v,v=tS:=⟨_,rfl⟩
 obtain⟨t,ht⟩:∃v,v=tT:=⟨_,rfl⟩
 obtain⟨v,hv⟩:∃v,v=tV:=⟨_,rfl⟩
 rw[<-ha] at hA hD hW hO hN
 rw[<-hb] at hB hT
 rw[<-hs] at hC hS1 hS2
 rw[<-ht] at hW
 rw[<-hv] at hV1
 obtain⟨o1,w1⟩:∃v,v=tO1:=⟨_,rfl⟩
 obtain⟨o2,w2⟩:∃v,v=tO2:=⟨_,rfl⟩
 obtain⟨o3,w3⟩:∃v,v=tO3:=⟨_,rfl⟩
 obtain⟨o4,w4⟩:∃v,v=tO4:=⟨_,rfl⟩
 obtain⟨m1,w5⟩:∃v,v=tM1:=⟨_,rfl⟩
 obtain⟨m2,w6⟩:∃v,v=tM2:=⟨_,rfl⟩
 obtain⟨q1,w7⟩:∃v,v=tO:=⟨_,rfl⟩
 obtain⟨q2,w8⟩:∃v,v=tM:=⟨_,rfl⟩
 rw[<-w7] at hL1
 rw[<-w8] at hL2
 refine ax (nt:=97) (rs:=[.tmp 0]) (k0:=0) (by kernel_rfl) (by kernel_rfl) (by kernel_rfl) rfl ?_
 refine vcQ [[1,1,1,1,1,1,0,1,0]] (lkL [(1,[1,2,3]),(2,[1,2,3,4,5]),(3,[1,2,3,4,5,6,7]),(4,[1,2,3,4,5,6,7,8,9,10]),(5,[1,2,3,4,5,6,7,8,9,10,11,12]),(6,[1,2,4,6,8,9,11,59]),(8,[0])]) (lkL [(1,[(0,ROrc.pcall (aA a)),(1,ROrc.kcall (tup 3 (nth [n1,n2,int i64 0])))]),(2,[(0,ROrc.pcall (aA a)),(1,ROrc.pcall (aT s)),(2,ROrc.kop (aT t)),(3,ROrc.kcall (tup 2 (nth [int i64 0,int i64 7])))]),(3,[(0,ROrc.pcall (aA a)),(1,ROrc.kcall (tup 2 (nth [n3,int i64 0])))]),(4,[(0,ROrc.pcall (aA a)),(1,ROrc.kcall (tup 3 (nth [int i64 2,n4,int i64 0])))]),(5,[(0,ROrc.pcall (aA b)),(1,ROrc.kcall (tup 2 (nth [n5,int i64 0])))]),(8,[(1,ROrc.pcall (aT s)),(2,ROrc.pcall (AV.bool true)),(5,ROrc.kop (ak v)),(6,ROrc.pcall (AV.bool true)),(14,ROrc.kop (ak o1)),(15,ROrc.kop (ak o2)),(16,ROrc.kop (ak o3)),(17,ROrc.kop (ak o4)),(18,ROrc.kop (lsX 4 q1)),(19,ROrc.pcall (AV.bool true)),(27,ROrc.pcall (aT s)),(28,ROrc.pcall (AV.bool true)),(32,ROrc.kop (ak m1)),(33,ROrc.kop (ak m2)),(34,ROrc.kop (lsX 2 q2)),(35,ROrc.pcall (AV.bool true))])]) (fun Q=>(fun (u1:List Row)=>(fun (u2:List Row)=>(fun (u3:List (Nat × AV))=>(fun (u4:List Row)=>(fun (u5:Operand)=>(fun (u6:Nat × Bool)=>(fun (u7:List Edge)=>(fun (u8:Operand)=>(fun (u9:List Row)=>(fun (u10:Operand)=>(fun (u11:List Row)=>(∀(hp:List AObj) (g:R.σ),true=true/\Does Tryd.prog R 44 [] hp g (ret (aA a)) hp g)/\(true=true/\Does Tryd.prog R 17 [aA a] [] g (ret (tup 3 (nth [n1,n2,int i64 0]))) [] g)/\(∀(hp:List AObj) (g:R.σ),true=true/\Does Tryd.prog R 44 [] hp g (ret (aA a)) hp g)/\(∀(hp:List AObj) (g:R.σ),true=true/\Does Tryd.prog R 57 [] hp g (ret (aT s)) hp g)/\OpOk Tryd.prog R (Oper.mk (some 22) (Op.slice 29 (Operand.tmp 21) (some u5) none none) 29 "law.go:36" #[Edge.mk 1 Ground.data] none) (evO [Row.mk (some 21) none (aT s) false (some []) [],Row.mk (some 20) none (aA a) false (some []) []] [(1,n1),(2,n2),(3,int i64 0)] []) [] g (aT t) [] g/\(true=true/\Does Tryd.prog R 23 [aA a,aT t] [] g (ret (tup 2 (nth [int i64 0,int i64 7]))) [] g)/\(∀(hp:List AObj) (g:R.σ),true=true/\Does Tryd.prog R 44 [] hp g (ret (aA a)) hp g)/\(true=true/\Does Tryd.prog R 31 [aA a] [] g (ret (tup 2 (nth [n3,int i64 0]))) [] g)/\(∀(hp:List AObj) (g:R.σ),true=true/\Does Tryd.prog R 44 [] hp g (ret (aA a)) hp g)/\(true=true/\Does Tryd.prog R 25 [aA a,int i64 1] [] g (ret (tup 3 (nth [int i64 2,n4,int i64 0]))) [] g)/\(∀(hp:List AObj) (g:R.σ),true=true/\Does Tryd.prog R 45 [] hp g (ret (aA b)) hp g)/\(true=true/\Does Tryd.prog R 27 [aA b,int i64 9] [] g (ret (tup 2 (nth [n5,int i64 0]))) [] g)/\(false=true->Wp Tryd.prog R 97 0 Rd.top (ah Tryd.prog 15) [1,1,1,1,1,1,0,1,0] (aq Tryd.prog R 97 0 Rd.top (ah Tryd.prog 15) Q [Kont.seq [1,1,1,1,1,1,1]]) (St.mk u3 [] g))/\(false=false->(∀(hp:List AObj) (g:R.σ),true=true/\Does Tryd.prog R 57 [] hp g (ret (aT s)) hp g)/\(∀(hp:List AObj) (g:R.σ),true=true/\Does Tryd.prog R 20 [n1,aT s] hp g (ret (AV.bool true)) hp g)/\(true=true->OpOk Tryd.prog R (Oper.mk (some 65) (Op.buildSlice 33 6 #[(0,u5),(1,u5),(2,u8),(3,u8),(4,u10),(5,u10)]) 33 "law.go:43" #[Edge.mk 3 Ground.guard] (some (3,true))) (evO [Row.mk (some 64) (some (3,true)) n2 false (some []) [],Row.mk (some 63) none (AV.bool true) false (some []) [],Row.mk (some 62) none (AV.bool true) false (some []) [],Row.mk (some 61) none (aT s) false (some []) [],Row.mk (some 60) none n1 false (some []) []] u3 [(3,true)]) [] g (ak v) [] g)/\(true=true->∀(hp:List AObj) (g:R.σ),true=true/\Does Tryd.prog R 21 [n2,ak v] hp g (ret (AV.bool true)) hp g)/\(true=true->OpOk Tryd.prog R (Oper.mk (some 74) (Op.buildSlice 53 1 #[(0,Operand.const (Value.int i64 0))]) 53 "law.go:43" (List.toArray u7) (some u6)) (evO u1 u3 [u6]) [] g (ak o1) [] g)/\(true=true->OpOk Tryd.prog R (Oper.mk (some 75) (Op.buildSlice 53 2 #[(0,u5),(1,u10)]) 53 "law.go:43" (List.toArray u7) (some u6)) (evO (Row.mk (some 74) (some u6) (ak o1) true (some []) []::u1) u3 [u6]) [] g (ak o2) [] g)/\(true=true->OpOk Tryd.prog R (Oper.mk (some 76) (Op.buildSlice 53 1 #[(0,u8)]) 53 "law.go:43" (List.toArray u7) (some u6)) (evO u4 u3 [u6]) [] g (ak o3) [] g)/\(true=true->OpOk Tryd.prog R (Oper.mk (some 77) (Op.buildSlice 53 2 #[(0,Operand.const (Value.int i64 4)),(1,Operand.const (Value.int i64 5))]) 53 "law.go:43" (List.toArray u7) (some u6)) (evO u11 u3 [u6]) [] g (ak o4) [] g)/\(true=true->OpOk Tryd.prog R (Oper.mk (some 78) (Op.buildSlice 49 4 #[(0,Operand.tmp 74),(1,Operand.tmp 75),(2,Operand.tmp 76),(3,Operand.tmp 77)]) 49 "law.go:43" (List.toArray (Edge.mk 14 Ground.data::Edge.mk 15 Ground.data::Edge.mk 16 Ground.data::Edge.mk 17 Ground.data::u7)) (some u6)) (evO (Row.mk (some 77) (some u6) (ak o4) true (some []) []::u11) u3 [u6]) [] g (fz Fz.exa 1 4 fun (i x:Nat)=>ak (q1 i)) [] g)/\(true=true->∀(hp:List AObj) (g:R.σ),true=true/\Does Tryd.prog R 29 [n3,fz Fz.exa 1 4 fun (i x:Nat)=>ak (q1 i)] hp g (ret (AV.bool true)) hp g)/\(true=true->∀(hp:List AObj) (g:R.σ),true=true/\Does Tryd.prog R 57 [] hp g (ret (aT s)) hp g)/\(true=true->∀(hp:List AObj) (g:R.σ),true=true/\Does Tryd.prog R 20 [n4,aT s] hp g (ret (AV.bool true)) hp g)/\(true=true->OpOk Tryd.prog R (Oper.mk (some 92) (Op.buildSlice 53 2 #[(0,u8),(1,u5)]) 53 "law.go:43" #[Edge.mk 30 Ground.guard] (some (30,true))) (evO u2 u3 [(30,true)]) [] g (ak m1) [] g)/\(true=true->OpOk Tryd.prog R (Oper.mk (some 93) (Op.buildSlice 53 2 #[(0,Operand.const (Value.int i64 0)),(1,u5)]) 53 "law.go:43" #[Edge.mk 30 Ground.guard] (some (30,true))) (evO u9 u3 [(30,true)]) [] g (ak m2) [] g)/\(true=true->OpOk Tryd.prog R (Oper.mk (some 94) (Op.buildSlice 49 2 #[(0,Operand.tmp 92),(1,Operand.tmp 93)]) 49 "law.go:43" #[Edge.mk 32 Ground.data,Edge.mk 33 Ground.data,Edge.mk 30 Ground.guard] (some (30,true))) (evO (Row.mk (some 93) (some (30,true)) (ak m2) true (some []) []::u9) u3 [(30,true)]) [] g (fz Fz.exa 1 2 fun (i x:Nat)=>ak (q2 i)) [] g)/\(true=true->∀(hp:List AObj) (g:R.σ),true=true/\Does Tryd.prog R 29 [n5,fz Fz.exa 1 2 fun (i x:Nat)=>ak (q2 i)] hp g (ret (AV.bool true)) hp g)/\Q AEx.ret (St.mk [(0,AV.bool true)] [] g))) (Row.mk (some 76) (some u6) (ak o3) true (some []) []::u4)) (Operand.const (Value.int i64 3))) (Row.mk (some 92) (some (30,true)) (ak m1) true (some []) []::u2)) (Operand.const (Value.int i64 1))) ([Edge.mk 12 Ground.guard])) ((12,true))) (Operand.const (Value.int i64 2))) (Row.mk (some 75) (some (12,true)) (ak o2) true (some []) []::Row.mk (some 74) (some (12,true)) (ak o1) true (some []) []::u1)) ([(1,n1),(2,n2),(4,int i64 0),(6,n3),(8,int i64 2),(9,n4),(11,n5),(59,AV.bool false)])) (Row.mk (some 91) (some (30,true)) n5 false (some []) []::Row.mk (some 90) none (AV.bool true) false (some []) []::Row.mk (some 89) none (AV.bool true) false (some []) []::Row.mk (some 88) (some (25,true)) (AV.bool true) false (some []) []::Row.mk (some 87) (some (25,true)) (aT s) false (some []) []::Row.mk (some 86) (some (25,true)) n4 false (some []) []::Row.mk (some 85) none (AV.bool true) false (some []) []::Row.mk (some 84) none (AV.bool true) false (some []) []::Row.mk (some 83) (some (21,true)) (AV.bool true) false (some []) []::Row.mk (some 82) (some (21,true)) (int i64 2) false (some []) []::Row.mk (some 81) none (AV.bool true) false (some []) []::Row.mk (some 80) none (AV.bool true) false (some []) []::Row.mk (some 79) (some (12,true)) (AV.bool true) false (some []) []::Row.mk (some 78) (some (12,true)) (fz Fz.exa 1 4 fun (i x:Nat)=>ak (q1 i)) true (some []) []::Row.mk (some 77) (some (12,true)) (ak o4) true (some []) []::Row.mk (some 76) (some (12,true)) (ak o3) true (some []) []::Row.mk (some 75) (some (12,true)) (ak o2) true (some []) []::Row.mk (some 74) (some (12,true)) (ak o1) true (some []) []::u1)) ([Row.mk (some 73) (some (12,true)) n3 false (some []) [],Row.mk (some 72) none (AV.bool true) false (some []) [],Row.mk (some 71) none (AV.bool true) false (some []) [],Row.mk (some 70) (some (8,true)) (AV.bool true) false (some []) [],Row.mk (some 69) (some (8,true)) (int i64 0) false (some []) [],Row.mk (some 68) none (AV.bool true) false (some []) [],Row.mk (some 67) none (AV.bool true) false (some []) [],Row.mk (some 66) (some (3,true)) (AV.bool true) false (some []) [],Row.mk (some 65) (some (3,true)) (ak v) true (some []) [],Row.mk (some 64) (some (3,true)) n2 false (some []) [],Row.mk (some 63) none (AV.bool true) false (some []) [],Row.mk (some 62) none (AV.bool true) false (some []) [],Row.mk (some 61) none (aT s) false (some []) [],Row.mk (some 60) none n1 false (some []) []])) (fun _=>by kernel_rfl) ⟨(fun _ _=>⟨rfl,(hA _ _ _)⟩),⟨rfl,(hD _ _)⟩,(fun _ _=>⟨rfl,(hA _ _ _)⟩),(fun _ _=>⟨rfl,(hC _ _ _)⟩),?_,⟨rfl,(hW _ _)⟩,(fun _ _=>⟨rfl,(hA _ _ _)⟩),⟨rfl,(hO _ _)⟩,(fun _ _=>⟨rfl,(hA _ _ _)⟩),⟨rfl,(hN _ _)⟩,(fun _ _=>⟨rfl,(hB _ _ _)⟩),⟨rfl,(hT _ _)⟩,fun h=>(nomatch h),fun _=>⟨(fun _ _=>⟨rfl,(hC _ _ _)⟩),(fun _ _=>⟨rfl,(hS1 _ _ _)⟩),?_,(fun hgd=>(fun _ _=>⟨rfl,(hV1 _ _ _)⟩)),?_,?_,?_,?_,?_,(fun hgd=>(fun _ _=>⟨rfl,(hL1 _ _ _)⟩)),(fun hgd=>(fun _ _=>⟨rfl,(hC _ _ _)⟩)),(fun hgd=>(fun _ _=>⟨rfl,(hS2 _ _ _)⟩)),?_,?_,?_,(fun hgd=>(fun _ _=>⟨rfl,(hL2 _ _ _)⟩)),?_⟩⟩
 ·subst hs ht
  exact gX rfl (by exact⟨Nat.le_refl _,⟨by decide,by decide⟩,trivial⟩) (lW rfl (fun i j hi hj=>match i,hi with|0,_=>rfl))
 ·intro _;subst hv;exact bS (n:=6) (es:=1) (by kernel_rfl) (by exact⟨trivial,trivial,trivial,trivial,trivial,trivial,trivial⟩) rfl rfl (fun i hi j hj=>match i,hi,j,hj with|0,_,0,_=>(by kernel_rfl)|1,_,0,_=>(by kernel_rfl)|2,_,0,_=>(by kernel_rfl)|3,_,0,_=>(by kernel_rfl)|4,_,0,_=>(by kernel_rfl)|5,_,0,_=>(by kernel_rfl) ) (fun i hi j hj=>match i,hi,j,hj with|0,_,0,_=>trivial|1,_,0,_=>trivial|2,_,0,_=>trivial|3,_,0,_=>trivial|4,_,0,_=>trivial|5,_,0,_=>trivial )
 ·intro _;subst w1;exact bS (n:=1) (es:=1) (by kernel_rfl) (by exact⟨trivial,trivial⟩) rfl rfl (fun i hi j hj=>match i,hi,j,hj with|0,_,0,_=>(by kernel_rfl) ) (fun i hi j hj=>match i,hi,j,hj with|0,_,0,_=>trivial )
 ·intro _;subst w2;exact bS (n:=2) (es:=1) (by kernel_rfl) (by exact⟨trivial,trivial,trivial⟩) rfl rfl (fun i hi j hj=>match i,hi,j,hj with|0,_,0,_=>(by kernel_rfl)|1,_,0,_=>(by kernel_rfl) ) (fun i hi j hj=>match i,hi,j,hj with|0,_,0,_=>trivial|1,_,0,_=>trivial )
 ·intro _;subst w3;exact bS (n:=1) (es:=1) (by kernel_rfl) (by exact⟨trivial,trivial⟩) rfl rfl (fun i hi j hj=>match i,hi,j,hj with|0,_,0,_=>(by kernel_rfl) ) (fun i hi j hj=>match i,hi,j,hj with|0,_,0,_=>trivial )
 ·intro _;subst w4;exact bS (n:=2) (es:=1) (by kernel_rfl) (by exact⟨trivial,trivial,trivial⟩) rfl rfl (fun i hi j hj=>match i,hi,j,hj with|0,_,0,_=>(by kernel_rfl)|1,_,0,_=>(by kernel_rfl) ) (fun i hi j hj=>match i,hi,j,hj with|0,_,0,_=>trivial|1,_,0,_=>trivial )
 ·intro _;subst w1 w2 w3 w4 w7;exact bS (n:=4) (es:=1) (by kernel_rfl) (by exact⟨trivial,trivial,trivial,trivial,trivial⟩) rfl rfl (fun i hi j hj=>match i,hi,j,hj with|0,_,0,_=>(by kernel_rfl)|1,_,0,_=>(by kernel_rfl)|2,_,0,_=>(by kernel_rfl)|3,_,0,_=>(by kernel_rfl) ) (fun i hi j hj=>match i,hi,j,hj with|0,_,0,_=>trivial|1,_,0,_=>trivial|2,_,0,_=>trivial|3,_,0,_=>trivial )
 ·intro _;subst w5;exact bS (n:=2) (es:=1) (by kernel_rfl) (by exact⟨trivial,trivial,trivial⟩) rfl rfl (fun i hi j hj=>match i,hi,j,hj with|0,_,0,_=>(by kernel_rfl)|1,_,0,_=>(by kernel_rfl) ) (fun i hi j hj=>match i,hi,j,hj with|0,_,0,_=>trivial|1,_,0,_=>trivial )
 ·intro _;subst w6;exact bS (n:=2) (es:=1) (by kernel_rfl) (by exact⟨trivial,trivial,trivial⟩) rfl rfl (fun i hi j hj=>match i,hi,j,hj with|0,_,0,_=>(by kernel_rfl)|1,_,0,_=>(by kernel_rfl) ) (fun i hi j hj=>match i,hi,j,hj with|0,_,0,_=>trivial|1,_,0,_=>trivial )
 ·intro _;subst w5 w6 w8;exact bS (n:=2) (es:=1) (by kernel_rfl) (by exact⟨trivial,trivial,trivial⟩) rfl rfl (fun i hi j hj=>match i,hi,j,hj with|0,_,0,_=>(by kernel_rfl)|1,_,0,_=>(by kernel_rfl) ) (fun i hi j hj=>match i,hi,j,hj with|0,_,0,_=>trivial|1,_,0,_=>trivial )
 ·refine(av (aS _ _ rfl trivial rfl rfl rfl) (Le.refl _))
def ri {U:Type}(x:Fz × List U):KL U:=⟨x.2,x.1⟩
theorem xA:Rea Tryd.prog 77 2 (fun _:Lit=>True) gY:=
 Rea.map (me Tryd.underlying77 (by kernel_rfl) (gV rfl (by kernel_rfl) (mc Tryd.underlying3) (gV rfl (by kernel_rfl) (tW Tryd.underlying4) md)))
  (fun x:Int × Bool × Unit=>⟨x.1,x.2.1⟩) (fun _ _=>trivial) (fun x j hj=>match j,hj with|0,_=>rfl|1,_=>rfl)
theorem xB:Rea Tryd.prog 73 1 (fun _:KL Lit=>True) (fun x _=>am x):=
 Rea.map (pp Tryd.underlying73 (by kernel_rfl) (by omega) xA) ri (fun _ _=>trivial) (fun x j hj=>rfl)
theorem xC:Rea Tryd.prog 75 2 (fun _:Rule=>True) bw:=by
 have h:=me (n:=2) Tryd.underlying75 (by kernel_rfl) (gV rfl (m:=1) (by kernel_rfl) (mc Tryd.underlying3) (gV rfl (m:=1) (by kernel_rfl) xB md))
 exact h.map (fun x=>⟨x.1,x.2.1⟩) (fun _ _=>trivial) (fun x j hj=>match j,hj with|0,_=>rfl|1,_=>rfl)
theorem xD:Rea Tryd.prog 22 1 (fun _:KL Rule=>True) (fun x _=>ae x):=
 Rea.map (pp Tryd.underlying22 (by kernel_rfl) (by omega) xC) ri (fun _ _=>trivial) (fun x j hj=>rfl)
theorem xE:Rea Tryd.prog 24 2 (fun _:Prg=>True) (fun p=>nth [.int .i64 p.atoms,ae p.rules]):=by
 have h:=me (n:=2) Tryd.underlying24 (by kernel_rfl) (gV rfl (m:=1) (by kernel_rfl) (mc Tryd.underlying3) (gV rfl (m:=1) (by kernel_rfl) xD md))
 exact h.map (fun x=>⟨x.1,x.2.1⟩) (fun _ _=>trivial) (fun x j hj=>match j,hj with|0,_=>rfl|1,_=>rfl)
theorem xF:Arg Tryd.prog 24 (fun _:Prg=>True) aA:=tZ Tryd.underlying24 xE
theorem rj {p:Prg}(hr:∀r,r∈p.rules.l->aP r):∀(f left:Nat),left<2^24->(eI p f left).length<=(aj left).length
 |0,_,_=>Nat.zero_le _
 |f+1,left,h=>by
  show(if left=0 then[] else au p (bm p left)::eI p f (ca left (au p (bm p left)))).length<=_
  split
  ·exact Nat.zero_le _
  ·rename_i h0
   have h1:=nh hr h h0
   have h2:=rj hr f (ca left (au p (bm p left))) (Nat.lt_of_le_of_lt kB h)
   rw[List.length_cons]
   omega
end Go.Avm.Pack
