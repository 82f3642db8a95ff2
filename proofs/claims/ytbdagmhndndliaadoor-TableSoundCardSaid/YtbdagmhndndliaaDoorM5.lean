/- Part 5 of the proof: lemmas. -/
import Derived.Test.YtbdagmhndndliaaDoorM4
namespace Go.Avm.Pack
open Go Go.Avm Go.Proofs
open Go.IntKind (i64 u64)
open Go.Avm.AV (int bool any fz fp sl ow ref fn ifc val agg tup)
open Go.Avm.AObj (cells dead)
open Go.Avm.Oc (ret)
set_option maxRecDepth 4000
def hgL (x:List Bool × Bool)(l:Lit):List Bool × Bool:=if x.1.getD l.atom.toNat false then x else(x.1.set l.atom.toNat true,true)
def hgU (x:List Bool × Bool)(r:Rule):List Bool × Bool:=if x.1.getD r.head.toNat false then r.body.l.foldl hgL x else x
def hgD (p:Prg)(s:List Bool):List Bool × Bool:=p.rules.l.foldl hgU (s,false)
def hgI (p:Prg):Nat->List Bool->List Bool
 |0,s=>s
 |k+1,s=>if (hgD p s).2 then hgI p k (hgD p s).1 else s
def hgR (p:Prg)(n a:Nat):List Bool:=hgI p (n+1) ((List.replicate n false).set a true)
def cm (s:List Bool):Nat:=s.count false
theorem z3 {s:List Bool}:∀{i:Nat},i<s.length->s.getD i false=false->cm (s.set i true)+1=cm s:=by
 induction s with
 |nil=>exact fun h=>absurd h (Nat.not_lt_zero _)
 |cons b s ih=>
  intro i hi h
  cases i with
  |zero=>
   cases b with
   |true=>exact absurd h (by simp)
   |false=>unfold cm;simp
  |succ i=>
   have ih:=ih (i:=i) (by simpa using hi) (by simpa using h)
   unfold cm at ih ⊢
   rw[List.set_cons_succ,List.count_cons,List.count_cons]
   omega
structure HgS (x y:List Bool × Bool):Prop where
 len:y.1.length=x.1.length
 up:∀k,x.1.getD k false=true->y.1.getD k false=true
 ch:x.2=true->y.2=true
 cnt:cm y.1<=cm x.1
 less:y.2=true->x.2=false->cm y.1<cm x.1
 same:y.2=false->y.1=x.1
theorem HgS.refl (x:List Bool × Bool):HgS x x:=⟨rfl,fun _ h=>h,fun h=>h,Nat.le_refl _,fun h1 h2=>absurd (h1.symm.trans h2) dcd,fun _=>rfl⟩
theorem HgS.trans {x y z:List Bool × Bool}(h:HgS x y)(k:HgS y z):HgS x z:=by
 refine⟨k.len.trans h.len,fun j hj=>k.up j (h.up j hj),fun hx=>k.ch (h.ch hx),Nat.le_trans k.cnt h.cnt,fun h1 h2=>?_,fun h1=>?_⟩
 ·cases hy:y.2 with
  |true=>exact Nat.lt_of_le_of_lt k.cnt (h.less hy h2)
  |false=>exact Nat.lt_of_lt_of_le (k.less h1 hy) h.cnt
 ·have hy:y.2=false:=by
   cases hy:y.2 with
   |false=>rfl
   |true=>rw[k.ch hy] at h1;cases h1
  exact(k.same h1).trans (h.same hy)
theorem z4 {s:List Bool}{i k:Nat}(h:s.getD k false=true):(s.set i true).getD k false=true:=by
 rw[List.getD_eq_getElem?_getD] at h ⊢
 rw[List.getElem?_set]
 split
 ·split
  ·rfl
  ·rename_i e hn
   subst e
   rw[List.getElem?_eq_none omg] at h
   cases h
 ·exact h
structure HgOk (p:Prg)(n a:Nat)(x:List Bool × Bool):Prop where
 len:x.1.length=n
 go:x.2=true->∃f,cm x.1<f/\hgI p f x.1=hgR p n a
 stop:x.2=false->x.1=hgR p n a
theorem z5 {s:List Bool}{i k:Nat}(h:(s.set i true).getD k false=true):k=i∨s.getD k false=true:=by
 rw[List.getD_eq_getElem?_getD,List.getElem?_set] at h
 split at h
 ·rename_i e;exact .inl e.symm
 ·rw[List.getD_eq_getElem?_getD];exact .inr h
def eB (l:List Bool):AV:=.fz .auto 1 l.length (fun i _=>.bool (l.getD i false))
theorem rz {k:Nat}(l:List Bool):Below k (eB l):=trivial
abbrev HG:=Nat->List Bool
def hgC (h:HG):Nat->AV:=fun i=>eB (h i)
theorem rr {k:Nat}(h:HG)(j:Nat):Below k (hgC h j):=trivial
theorem rD {f:Nat->Nat}(t:True){h:HG}{j:Nat}:aK f (hgC h j)=hgC h j:=rfl
end Go.Avm.Pack
namespace Go.Avm.Pack
open Go Go.Avm Go.Proofs Go.RowKit Go.Shelf
attribute [local go_sem] Oper.semAt_some
theorem z6 (n:Nat)(hn:1<=n)(l s:Nat)(hs:s<2^24)(A:Addr)(FM:Mem)(ht:cR gsT FM)(J:Nat->World->Prop)(E:Ending->World->Prop)(K:Nat)
  (hJ:∀k W,J k W->W.cell? A=some (.int .u64 (Tb.cutN s k))/\W.frozen? A=false/\(∀b o,FM b=some o->W.heap[b]? = some o))
  (hJg:∀k W W',J k W->W.grownBy W' none->J k W')
  (hY:∀k W,k<K->k<(ai s).length->J k W->YieldAt Fence.wide (n-1) Tryd.prog l #[.int .i64 ((ai s).getD k 0)] W fun e W'=>e=.returned (.bool true)/\W'.cell? A=some (.int .u64 (Tb.cutN s k))/\W'.frozen? A=false/\J (k+1) (W'.setCell A (.int .u64 (Tb.cutN s (k+1)))))
  (hE:∀W,K<(ai s).length->J K W->YieldAt Fence.wide (n-1) Tryd.prog l #[.int .i64 ((ai s).getD K 0)] W fun e W'=>(e=.returned (.bool false)∨∃ch,e=.panicked ch)/\E e W')
  (W:World) (h0:J 0 W) :
  CallsIn Fence.wide n Tryd.prog 105 #[.func (.yield l) #[] #[],.pointer (some A)] W fun e W'=>((ai s).length<=K/\(∃v,e=.returned v)/\J (ai s).length W')∨(K<(ai s).length/\(((∃v,e=.returned v)/\E (.returned (.bool false)) W')∨∃ch,e=.panicked ch/\E (.panicked ch) W')):=by
 refine callsIn_of_wp Tryd.func105 rfl trivial ?_ rfl
 simp only[Tryd.ntmps105,List.size_toArray,List.length_cons,List.length_nil,Nat.reduceAdd,Nat.reduceSub,Array.replicate_succ,Array.replicate_zero,List.push_toArray,List.append_toArray,List.nil_append,List.cons_append]
 gi_wp2
 gi_loopw [] (fun wr=>∃k,k<=(ai s).length/\k<=K/\J k wr) (fun wr=>match wr.cell? A with|some (.int _ v)=>v.toNat|_=>0)
 case atStart=>exact⟨0,Nat.zero_le _,Nat.zero_le _,h0⟩
 case round=>
  obtain⟨k,hk,hkK,hJk⟩:=hrel
  obtain⟨hc,hf,hFM⟩:=hJ k wr hJk
  have hlt:=Tb.cutN_lt hs k
  rcases Nat.lt_or_ge k (ai s).length with hkl|hkl
  ·obtain⟨m,hm⟩:=Tb.cutN_in hs hkl
   have k1:0<Tb.cutN s k:=by
    rw[hm]
    exact Nat.mul_pos (Nat.pow_pos (by decide)) (by omega)
   have k2:=lz hm hlt
   clear hm
   have hz:¬((Tb.cutN s k:Nat):Int)=0:=by omega
   have htz:=fun m=>rZ m (Tb.cutN s k) k1 hlt wr FM hFM ht
   rcases Nat.lt_or_ge k K with hlK|hgK
   ·have hYk:=fun W=>hY k W hlK hkl
    obtain⟨x,hx⟩:∃x,(ai s).getD k 0=x:=⟨_,rfl⟩
    rw[hx] at k2
    simp only[hx] at hYk
    simp only[k2] at htz
    gi_wp2
    refine⟨trivial,(htz _).mono ?_⟩
    rintro e w' ⟨rfl,hg⟩
    have hJ':=hJg k wr w' hJk hg
    obtain⟨hc',hf',hFM'⟩:=hJ k w' hJ'
    obtain⟨fn,tmps,assign,body,hy,hR⟩:=hYk w' hJ'
    dsimp only
    gi_wp2
    refine hR.mono ?_
    rintro e W3 ⟨rfl,hc3,hf3,hJ3⟩
    dsimp only
    gi_wp2
    have hb:bits .and .u64 ((Tb.cutN s k:Nat):Int) (((Tb.cutN s k:Nat):Int)-1)=((Tb.cutN s (k+1):Nat):Int):=r7 _ hlt k1
    rw[hb]
    refine⟨⟨k+1,hkl,hlK,hJ3⟩,?_⟩
    rw[(hJ _ _ hJ3).1,hc]
    show((Tb.cutN s (k+1):Nat):Int).toNat<((Tb.cutN s k:Nat):Int).toNat
    have:Tb.cutN s (k+1)<=Tb.cutN s k-1:=Nat.and_le_right
    omega
   ·have hkK:K=k:=by omega
    subst hkK
    have hYk:=fun W=>hE W hkl
    obtain⟨x,hx⟩:∃x,(ai s).getD K 0=x:=⟨_,rfl⟩
    rw[hx] at k2
    simp only[hx] at hYk
    simp only[k2] at htz
    gi_wp2
    refine⟨trivial,(htz _).mono ?_⟩
    rintro e w' ⟨rfl,hg⟩
    have hJ':=hJg K wr w' hJk hg
    obtain⟨hc',hf',hFM'⟩:=hJ K w' hJ'
    obtain⟨fn,tmps,assign,body,hy,hR⟩:=hYk w' hJ'
    dsimp only
    gi_wp2
    refine hR.mono ?_
    rintro e W3 ⟨he,hE3⟩
    rcases he with rfl|⟨ch,rfl⟩
    ·dsimp only
     gi_wp2
     (try simp only[Exit.inBlock,Exit.then])
     refine bodyPost_ret (results_none rfl _ _ _) rfl ?_
     exact .inr ⟨hkl,.inl ⟨⟨_,rfl⟩,hE3⟩⟩
    ·exact⟨rfl,.inr ⟨hkl,.inr ⟨ch,rfl,hE3⟩⟩⟩
  ·have hz:((Tb.cutN s k:Nat):Int)=0:=by rw[show k=(ai s).length by omega,Tb.cutN_end hs];rfl
   have hkk:k=(ai s).length:=by omega
   subst hkk
   gi_wp2
   go_end0
   exact .inl ⟨hkK,⟨_,rfl⟩,hJk⟩
end Go.Avm.Pack
namespace Go.Avm.Pack
open Go Go.Avm Go.Proofs
open Go.IntKind (i64 u64)
open Go.Avm.AV (int bool any fz fp sl ow ref fn ifc val agg tup)
open Go.Avm.AObj (cells dead)
open Go.Avm.Oc (ret)
set_option maxRecDepth 4000
end Go.Avm.Pack
namespace Go.Avm.Pack
open Go Go.Avm Go.Proofs Go.RowKit Go.Shelf
section
variable {R:Res}
theorem s7 [Tab LT R]{nt k0:Nat}{Q:AEx->St R.σ->Prop}{s:St R.σ}{t:Nat}{ps:Array Tmp}{assign body:Code}{fa fb:Nat->AV}{m S K:Nat}{H:List AObj}{fn:FuncId}
  (hf:lk s.fr t=.fn 105 0 fa 1 fb) (hfb:fb 0=.ref m 0) (hS:S<2^24) (h0:s.hp=H++[.cells false 1 (fun _=>.int .u64 S)]) (hl:H.length=m)
  (hlive:dE (H++[.cells false 1 (fun _=>.int .u64 S)])) (hBO:fj m H) (hlen:1=ps.toList.length) (hlt:bF ps.toList nt=true) (ts:List Nat) (hBf:gj ts (fun t=>Below m (lk s.fr t)))
  (hround:∀k,k<K->k<(ai S).length->lg Tryd.prog R nt assign body none H s.g ⟨cL ps.toList [.int .i64 (((ai S).getD k 0:Nat):Int)] (dS ts s.fr),H,s.g⟩)
  (hlast:K<(ai S).length->∀l,wpA Tryd.prog R nt (m+1) (.inr l) assign (fun e s1=>e=.normal/\wpA Tryd.prog R nt s1.hp.length (.inr l) body (jT ((Tryd.prog.funcs[fn]?).isSome=true) (fun e s3=>Q e ⟨s.fr,s3.hp,s3.g⟩)) s1) ⟨cL ps.toList [.int .i64 (((ai S).getD K 0:Nat):Int)] s.fr,H++[.dead],s.g⟩)
  (hdone:(ai S).length<=K->Q .normal ⟨s.fr,H++[.dead],s.g⟩) {C:Cx R} (hC:C.Z.length=k0/\C.df.out=true) {n:Nat} {a:Act} {w:World} (hH:dX R C nt s a w) :
  rf (Fw .top) n Tryd.prog (.tmp t) ps assign body (dQ R C nt Q) a w fn:=by
 obtain⟨FM,Z,hs⟩:=hH
 obtain⟨D,hD⟩:∃D,D=w.heap.size:=⟨_,rfl⟩
 obtain⟨L,hL⟩:∃L,L=w.heap.size+1:=⟨_,rfl⟩
 have hne:D≠L:=by omega
 obtain⟨rec,hrec⟩:∃rec:LoopState->Option Code->Loop,rec=fun st pe=>{ state:=st,pending:=pe,fn,tmps:=a.tmps,params:=ps,assign,body,defers:=D }:=⟨_,rfl⟩
 obtain⟨W1,hW1⟩:∃W1,(w.alloc (.deferred (some []))).alloc (.loop (rec .ready none))=W1:=⟨_,rfl⟩
 have hL1:W1.heap[L]? = some (.loop (rec .ready none)):=by
  rw[<-hW1,hL];have:=World.alloc_heap_new (w.alloc (.deferred (some []))) (.loop (rec .ready none));rwa [World.size_alloc] at this
 have hD1:W1.heap[D]? = some (.deferred (some [])):=by
  rw[<-hW1,hD];exact(_root_.Go.RowKit.Below.heap_alloc _ _ _ (by simp)).trans (World.alloc_heap_new w _)
 have hsz1:W1.heap.size=w.heap.size+2:=by rw[<-hW1];simp
 obtain⟨okA,goA⟩:=iw hs.ok (.deferred (some []))
 obtain⟨ok1,goB⟩:=iw okA (.loop (rec .ready none))
 have go1:=goA.trans goB
 rw[hW1] at ok1 go1
 obtain⟨o,ho⟩:∃o:AObj,o=.cells false 1 (fun _=>.int .u64 S):=⟨_,rfl⟩
 rw[<-ho] at h0 hlive
 have hlen0:s.hp.length=m+1:=by rw[h0];simp[hl]
 have hZl:Z.length=m+1:=by rw[hs.ok.rel.len,hlen0]
 obtain⟨pb,hpb⟩:∃pb,Z[m]? = some pb:=⟨_,List.getElem?_eq_getElem (by omega)⟩
 obtain⟨Z0,hZ0⟩:∃Z0,Z0=Z.take m:=⟨_,rfl⟩
 have hsub0:Sub Z0 Z:=fun i p hi=>by
  rw[hZ0,List.getElem?_take] at hi
  split at hi
  ·exact hi
  ·cases hi
 have hlt0:∀{i p},Z0[i]? = some p->i<m:=fun {i p} hi=>by
  rw[hZ0,List.getElem?_take] at hi
  split at hi
  ·assumption
  ·cases hi
 have hInB:∀b,InB Z b↔InB Z0 b∨InB [pb] b:=fun b=>by
  constructor
  ·rintro ⟨p,hp,hb,hre⟩
   obtain⟨i,hi⟩:=List.getElem?_of_mem hp
   have:i<m+1:=by rw[<-hZl];exact(List.getElem?_eq_some_iff.1 hi).1
   rcases Nat.lt_or_ge i m with h|h
   ·exact .inl ⟨p,List.mem_of_getElem? (i:=i) (by rw[hZ0,List.getElem?_take,if_pos h];exact hi),hb,hre⟩
   ·have:i=m:=by omega
    subst this
    rw[hpb] at hi;cases hi
    exact .inr ⟨pb,by simp,hb,hre⟩
  ·rintro (⟨p,hp,hb,hre⟩|⟨p,hp,hb,hre⟩)
   ·obtain⟨i,hi⟩:=List.getElem?_of_mem hp
    exact⟨p,bp (hsub0 i p hi),hb,hre⟩
   ·have:p=pb:=by simpa using hp
    subst this
    exact⟨p,bp hpb,hb,hre⟩
 have hgo:∀i,i<m->ag s.hp i=ag H i:=fun i hi=>by rw[h0,jB (by rw[hl];exact hi)]
 have hgm:ag s.hp m=o:=by rw[h0,jC (by rw[hl];exact Nat.le_refl _),hl,Nat.sub_self];rfl
 have hlv:∀i,i<m+1->aJ (ag s.hp i)=true:=fun i hi=>by rw[h0];exact jE hlive i (by simp[hl];omega)
 have rel0:∀W,HRel FM Z s.hp W->HRel FM Z0 H W:=fun W hr=>by
  refine⟨hr.fm,by rw[hZ0,List.length_take,hl,hZl];omega,fun i p hi=>?_,fun i j p q hi hj _ _ e=>hr.inj i j p q (hsub0 i p hi) (hsub0 j q hj) (hlv i (by have:=hlt0 hi;omega)) (hlv j (by have:=hlt0 hj;omega)) e⟩
  obtain⟨k1,k2⟩:=hr.obj i p (hsub0 i p hi)
  rw[hgo i (hlt0 hi)] at k2
  refine⟨k1,?_⟩
  rw[hZ0]
  exact ld k2 (lc hBO i)
 have relI:∀W,HRel FM Z s.hp W->HRel FM [pb] [o] W:=fun W hr=>by
  refine⟨hr.fm,rfl,fun i p hi=>?_,fun i j p q hi hj _ _ _=>?_⟩
  ·have e:i=0:=by
    have:=(List.getElem?_eq_some_iff.1 hi).1
    simpa using this
   subst e
   have hi:pb=p:=by simpa using hi
   subst hi
   obtain⟨k1,k2⟩:=hr.obj m pb hpb
   rw[hgm] at k2
   refine⟨k1,?_⟩
   have:=ld (k:=0) k2 (by rw[ho];exact fun _ _=>trivial)
   exact lf (fun i p hi=>by simp at hi) this
  ·have e1:=(List.getElem?_eq_some_iff.1 hi).1
   have e2:=(List.getElem?_eq_some_iff.1 hj).1
   simp at e1 e2
   omega
 have hdis:∀b,InB [pb] b->¬InB Z0 b:=fun b ⟨p,hp,hb,hre⟩ ⟨q,hq,hb',hre'⟩=>by
  have:p=pb:=by simpa using hp
  subst this
  obtain⟨i,hi⟩:=List.getElem?_of_mem hq
  have:=hlt0 hi
  have:=hs.ok.rel.inj i m q p (hsub0 i q hi) hpb (hlv i (by omega)) (hlv m (by omega)) (by rw[hb,hb'])
  omega
 have nIn:∀X,w.heap.size<=X->¬InB Z X:=fun X hX ⟨p,hp,hb,hre⟩=>by
  obtain⟨i,hi⟩:=List.getElem?_of_mem hp
  have:=(hs.ok.rel.obj i p hi).1 hre
  omega
 have nB:∀X,w.heap.size<=X->¬R.B s.g X:=fun X hX hb=>by have:=(hs.ok.bd X hb).1;omega
 have nF:∀X,w.heap.size<=X->FM X=none:=fun X hX=>by
  cases hx:FM X with
  |none=>rfl
  |some o=>have:=(Array.getElem?_eq_some_iff.1 (hs.ok.rel.fm X o hx)).1;omega
 have hev:Den FM Z (.fn 105 0 fa 1 fb) (a.eval (.tmp t)):=by rw[<-hf];exact hs.fr t
 obtain⟨xs,ys,hu,hxs,hys,hda,hdb⟩:=hev
 have hfr0:∀t,Den FM Z0 (lk (dS ts s.fr) t) (a.tmps.getD t undef):=nA (fun t=>hs.fr t) (fun t ht=>nz hBf t ht) hZ0
 let u:Value:=.func (.yield L) #[] #[]
 let R2:Res:=fe (gM R D L rec) FM Z0
 let G2:R2.σ:=((s.g,.ready,none),H)
 let box:Nat->AObj:=fun k=>.cells false 1 (fun _=>.int .u64 (Tb.cutN S k))
 have hbox0:box 0=o:=ho.symm
 have hpreal:pb.2.1+1<=pb.2.2/\FM pb.1=none:=by
  obtain⟨k1,k2⟩:=hs.ok.rel.obj m pb hpb
  rw[hgm,ho] at k2
  obtain⟨cs,e,b1,b2,b3,b4,b5,b6⟩:=k2 (by omega)
  exact⟨by omega,b6 rfl⟩
 have hpin:InB [pb] pb.1:=⟨pb,by simp,rfl,by omega⟩
 obtain⟨A,hA⟩:∃A:Addr,A=⟨pb.1,pb.2.1,none⟩:=⟨_,rfl⟩
 let J:Nat->World->Prop:=fun k W=>∃FMk,Ok R2 [box k] G2 FMk [pb] W/\Goes R s.g FM Z w s.g FMk Z W/\Goes R2 G2 FM [pb] W1 G2 FMk [pb] W
 have okI:Ok R2 [box 0] G2 FM [pb] W1:=by
  rw[hbox0]
  refine⟨relI W1 ok1.rel,⟨⟨rel0 W1 ok1.rel,⟨ok1.j,hD1,hL1,⟨nF D (by omega),nF L (by omega)⟩,nB D (by omega),nB L (by omega)⟩,fun b hb=>?_⟩,fun _ _ h=>h⟩,fun b hb=>⟨?_,fun hI=>?_⟩⟩
  ·rcases hb with hb|rfl|rfl
   ·exact⟨(ok1.bd b hb).1,fun h=>(ok1.bd b hb).2 ((hInB b).2 (.inl h))⟩
   ·exact⟨by omega,fun h=>nIn _ (by omega) ((hInB _).2 (.inl h))⟩
   ·exact⟨by omega,fun h=>nIn _ (by omega) ((hInB _).2 (.inl h))⟩
  ·rcases hb with(hb|rfl|rfl)|⟨p,hp,hb,hre⟩
   ·exact(ok1.bd b hb).1
   ·omega
   ·omega
   ·obtain⟨i,hi⟩:=List.getElem?_of_mem hp
    rw[<-hb];exact(ok1.rel.obj i p (hsub0 i p hi)).1 hre
  ·rcases hb with(hb|rfl|rfl)|hb
   ·exact(ok1.bd b hb).2 ((hInB b).2 (.inr hI))
   ·exact nIn _ (by omega) ((hInB _).2 (.inr hI))
   ·exact nIn _ (by omega) ((hInB _).2 (.inr hI))
   ·exact hdis b hI hb
 have hB2:∀b,b<w.heap.size->R2.B G2 b->R.B s.g b∨InB Z0 b:=fun b hlt hb=>by
  rcases hb with(hb|rfl|rfl)|hb
  ·exact .inl hb
  ·omega
  ·omega
  ·exact .inr hb
 -- a step of the iterator's, told of the whole
 have goR:∀{FMa FMb:Mem} {Wa Wb:World},Goes R s.g FM Z w s.g FMa Z Wa->Goes R2 G2 FMa [pb] Wa G2 FMb [pb] Wb->Goes R s.g FM Z w s.g FMb Z Wb:=fun {FMa FMb Wa Wb} h k=>by
  refine⟨⟨fun b o hb=>k.ext.fm b o (h.ext.fm b o hb),fun b o hb=>?_,fun b hb=>.inl hb,fun b h1 h2 h3=>?_,Nat.le_trans h.ext.size k.ext.size,k.ext.os.trans h.ext.os,k.ext.tape.trans h.ext.tape,k.ext.output.trans h.ext.output⟩,fun b hb=>.inl hb,BD _⟩
  ·rcases k.ext.grow b o hb with h1|h1|h1|h1
   ·exact h.ext.grow b o h1
   ·exact .inr (.inl (Nat.le_trans h.ext.size h1))
   ·exact .inr (.inr (.inl ((hInB b).2 (.inr h1))))
   ·rcases Nat.lt_or_ge b w.heap.size with hlt|hge
    ·rcases hB2 b hlt h1 with h2|h2
     ·exact .inr (.inr (.inr h2))
     ·exact .inr (.inr (.inl ((hInB b).2 (.inl h2))))
    ·exact .inr (.inl hge)
  ·refine(k.ext.keep b (Nat.lt_of_lt_of_le h1 h.ext.size) (fun hI=>h2 ((hInB b).2 (.inr hI))) (fun hb=>?_)).trans (h.ext.keep b h1 h2 h3)
   rcases hB2 b h1 hb with h4|h4
   ·exact h3 h4
   ·exact h2 ((hInB b).2 (.inl h4))
 have hJ:∀k W,J k W->W.cell? A=some (.int .u64 (Tb.cutN S k))/\W.frozen? A=false/\(∀b o,FM b=some o->W.heap[b]? = some o):=fun k W ⟨FMk,okk,_,_⟩=>by
  obtain⟨k1,k2⟩:=okk.rel.obj 0 pb rfl
  obtain⟨cs,e,b1,b2,b3,b4,_,b6⟩:=k2 (by omega)
  obtain⟨x,c1,c2,c3⟩:=b4 0 (by omega)
  have hx:x=.int .u64 (Tb.cutN S k):=c3
  subst hx
  refine⟨by rw[hA];simp only[World.cell?,b1];simpa using c1,by rw[hA];simp[World.frozen?,b1],fun b o hb=>okk.rel.fm b o (okk.j.2 b o hb)⟩
 have hJg:∀k W W',J k W->W.grownBy W' none->J k W':=fun k W W' ⟨FMk,okk,h1,h2⟩ hg=>
  let ⟨x1,x2⟩:=wP okk hg
  ⟨FMk,x1,goR h1 x2,h2.trans x2⟩
 have hset:∀k W,(∃FMk,Ok R2 [box k] G2 FMk [pb] W/\Goes R s.g FM Z w s.g FMk Z W/\Goes R2 G2 FM [pb] W1 G2 FMk [pb] W)->J (k+1) (W.setCell A (.int .u64 (Tb.cutN S (k+1)))):=fun k W ⟨FMk,okk,h1,h2⟩=>by
  obtain⟨k1,k2⟩:=okk.rel.obj 0 pb rfl
  obtain⟨cs,e,b1,b2,b3,b4,_,b6⟩:=k2 (by omega)
  have hAb:A.block=pb.1:=by rw[hA]
  have hAb':(⟨pb.1,pb.2.1,none⟩:Addr).block=pb.1:=rfl
  have hF:FMk pb.1=none:=b6 rfl
  have keep:∀b,b≠pb.1->(W.setCell A (.int .u64 (Tb.cutN S (k+1)))).heap[b]? = W.heap[b]?:= fun b hb=>RowKit.Below.heap_setCell _ _ _ b (by rw[hAb];exact hb)
  have hsz:(W.setCell A (.int .u64 (Tb.cutN S (k+1)))).heap.size=W.heap.size:=by
   show(W.heap.modify _ _).size=_
   rw[Array.size_modify]
  have hnew:(W.setCell A (.int .u64 (Tb.cutN S (k+1)))).heap[pb.1]? = some (.cells (cs.setIfInBounds pb.2.1 (.int .u64 (Tb.cutN S (k+1)))) e (0,0)):=by
   show(W.heap.modify A.block _)[pb.1]? = _
   rw[hAb,Array.getElem?_modify,b1,hA]
   simp
  have hrel:HRel FMk [pb] [box (k+1)] (W.setCell A (.int .u64 (Tb.cutN S (k+1)))):=by
   refine⟨fun b o hb=>(keep b (fun e=>by rw[e,hF] at hb;cases hb)).trans (okk.rel.fm b o hb),rfl,fun i p hi=>?_,fun i j p q hi hj _ _ _=>?_⟩
   ·have e0:i=0:=by
     have:=(List.getElem?_eq_some_iff.1 hi).1
     simpa using this
    subst e0
    have hi:pb=p:=by simpa using hi
    subst hi
    refine⟨fun h=>by rw[hsz];exact k1 h,fun _=>⟨_,e,hnew,by rw[Array.size_setIfInBounds];exact b2,by rw[Array.size_setIfInBounds];exact b3,fun j hj=>?_,fun h=>(by cases h),fun _=>hF⟩⟩
    have:j=0:=by omega
    subst this
    refine⟨.int .u64 (Tb.cutN S (k+1)),?_,rfl,rfl⟩
    show(cs.setIfInBounds pb.2.1 _)[pb.2.1]? = _
    rw[Array.getElem?_setIfInBounds_self_of_lt (by omega)]
   ·have e1:=(List.getElem?_eq_some_iff.1 hi).1
    have e2:=(List.getElem?_eq_some_iff.1 hj).1
    simp at e1 e2
    omega
  obtain⟨x1,x2⟩:=e7 (hp':=[box (k+1)]) (Z':=[pb]) (w':=W.setCell A (.int .u64 (Tb.cutN S (k+1)))) okk hrel ⟨fun _ _ h=>h,fun _ _ h=>.inl h,fun _ h=>.inl h,fun b _ h _=>keep b (fun e=>h (by rw[e];exact hpin)),Nat.le_of_eq hsz.symm,rfl,rfl,rfl⟩ (BD _)
  exact⟨FMk,x1,goR h1 x2,h2.trans x2⟩
 have hargI:∀(v:Nat) FMk (Zx:Plc),bQ FMk Zx [.int .i64 (v:Int)] #[.int .i64 (v:Int)]:=fun v FMk Zx=>⟨rfl,fun i hi=>by
  have:i=0:=by simpa using hi
  subst this
  rfl⟩
 have hY:∀k W,k<K->k<(ai S).length->J k W->YieldAt Fence.wide (2-1) Tryd.prog L #[.int .i64 (((ai S).getD k 0:Nat):Int)] W fun e W'=>e=.returned (.bool true)/\W'.cell? A=some (.int .u64 (Tb.cutN S k))/\W'.frozen? A=false/\J (k+1) (W'.setCell A (.int .u64 (Tb.cutN S (k+1)))):=by
  rintro k W hk hkN ⟨FMk,okk,h1,h2⟩
  have hv:=qQ (P:=Tryd.prog) (R:=R) (L:=L) hrec hs.size hfr0 hne (items:=[.int .i64 (((ai S).getD k 0:Nat):Int)]) hlen hlt (by exact⟨trivial,trivial⟩) (jmp:=none) (hp:=H) (hp':=H) (g:=s.g) (g':=s.g) rfl (hround k hk hkN) [box k]
  rcases hv.h with⟨f,_,_,he,_⟩|⟨l,he,hq⟩
  ·cases he
  ·cases he
   obtain⟨fn',tmps',assign',body',hr,hR⟩:=hq FMk [pb] W _ okk (hargI _ _ _)
   refine⟨fn',tmps',assign',body',hr,(hR .top _).mono ?_⟩
   rintro e W' ⟨FM',Z',⟨v,rfl,hden⟩,okp,gop⟩
   obtain rfl:Z'=[pb]:=by
    have hl1:Z'.length=1:=okp.rel.len
    match Z',hl1 with
    |[q],_=>
     have:=gop.sub 0 pb rfl
     cases this;rfl
   have hj:J k W':=⟨FM',okp,goR h1 gop,h2.trans gop⟩
   obtain⟨j1,j2,_⟩:=hJ k W' hj
   refine⟨by rw[show v=_ from hden];rfl,j1,j2,hset k W' hj⟩
 have okDead:∀{k FMk W},Ok R2 [box k] G2 FMk [pb] W->Goes R s.g FM Z w s.g FMk Z W->Ok R (H++[.dead]) s.g FMk Z W/\W.heap[D]? = some (.deferred (some []))/\W.heap[L]? = some (.loop (rec .ready none))/\Nb R D s.g FMk Z W/\Nb R L s.g FMk Z W:=by
  intro k FMk W okk hg
  obtain⟨okL,hmono⟩:=okk.j
  obtain⟨jR,hD3,hL3,⟨fD,fL⟩,bD,bL⟩:=okL.j
  have okR:=np okL
  have hgd:∀i,i<m->ag (H++[.dead]) i=ag H i:=fun i hi=>jB (by rw[hl];exact hi)
  have hgdm:ag (H++[.dead]) m=.dead:=by rw[jC (by rw[hl];exact Nat.le_refl _),hl,Nat.sub_self];rfl
  have hback:∀i p,Z[i]? = some p->(i<m/\Z0[i]? = some p)∨(i=m/\p=pb):=fun i p hi=>by
   have:i<m+1:=by rw[<-hZl];exact(List.getElem?_eq_some_iff.1 hi).1
   rcases Nat.lt_or_ge i m with h|h
   ·exact .inl ⟨h,by rw[hZ0,List.getElem?_take,if_pos h];exact hi⟩
   ·have:i=m:=by omega
    subst this
    rw[hpb] at hi;cases hi
    exact .inr ⟨rfl,rfl⟩
  have hnl:∀i p,Z[i]? = some p->aJ (ag (H++[.dead]) i)=true->i<m/\Z0[i]? = some p:=fun i p hi hv=>by
   rcases hback i p hi with h|⟨rfl,rfl⟩
   ·exact h
   ·rw[hgdm] at hv;cases hv
  refine⟨⟨⟨okR.rel.fm,by rw[hZl];simp[hl],fun i p hi=>?_,fun i j p q hi hj hv1 hv2 e=>?_⟩,okR.j,fun b hb=>⟨(okR.bd b hb).1,fun hI=>?_⟩⟩,hD3,hL3,?_,?_⟩
  ·rcases hback i p hi with⟨h1,h2⟩|⟨rfl,rfl⟩
   ·obtain⟨k1,k2⟩:=okR.rel.obj i p h2
    rw[hgd i h1]
    exact⟨k1,lf hsub0 k2⟩
   ·rw[hgdm]
    refine⟨fun hre=>?_,trivial⟩
    have h1:=(hs.ok.rel.obj i p hi).1 hre
    have:=hg.ext.size
    omega
  ·obtain⟨a1,a2⟩:=hnl i p hi hv1
   obtain⟨b1,b2⟩:=hnl j q hj hv2
   rw[hgd i a1] at hv1
   rw[hgd j b1] at hv2
   exact okR.rel.inj i j p q a2 b2 hv1 hv2 e
  ·rcases(hInB b).1 hI with h|h
   ·exact(okR.bd b hb).2 h
   ·exact(okk.bd b (.inl (.inl hb))).2 h
  ·exact⟨(Array.getElem?_eq_some_iff.1 hD3).1,nIn D (by omega),bD,fD⟩
  ·exact⟨(Array.getElem?_eq_some_iff.1 hL3).1,nIn L (by omega),bL,fL⟩
 let C0:Cx R:=⟨s.g,FM,Z,w,[],false⟩
 have hE:∀W,K<(ai S).length->J K W->YieldAt Fence.wide (2-1) Tryd.prog L #[.int .i64 (((ai S).getD K 0:Nat):Int)] W fun e W'=>(e=.returned (.bool false)∨∃ch,e=.panicked ch)/\ln R C0 D L rec (fun e s3=>Q e ⟨s.fr,s3.hp,s3.g⟩) e W':=by
  rintro W hK ⟨FMk,okk,h1,h2⟩
  obtain⟨okd,hDW,hLW,nD,nL⟩:=okDead okk h1
  obtain⟨fn',tmps',assign',body',hr,hR⟩:=wS (P:=Tryd.prog) (R:=R) hrec (C:=C0) (by show w.heap.size<=D;omega) (by show w.heap.size<=L;omega) hne okd h1 hDW hLW nD nL hs.size (fun t=>BF h1.ext.fm _ (BD _) (hs.fr t)) (hargI ((ai S).getD K 0) FMk Z) hlen hlt
   (Q:=fun e s3=>Q e ⟨s.fr,s3.hp,s3.g⟩) (by have:=hlast hK L;rw[show(H++[AObj.dead]).length=m+1 by simp[hl]];exact this)
  refine⟨fn',tmps',assign',body',hr,(hR .top _).mono ?_⟩
  intro e W' he
  have he':=he
  rcases he' with⟨ex,j,s3,FM3,Z3,e1,_⟩|⟨x,v,s3,FM3,Z3,e1,_⟩
  ·exact⟨.inl e1,he⟩
  ·exact⟨.inr ⟨_,e1⟩,he⟩
 have hargs:(xs++#[u])++ys=#[.func (.yield L) #[] #[],.pointer (some A)]:=by
  have hxs0:xs=#[]:=Array.size_eq_zero_iff.1 hxs
  have hd0:=hdb 0 (by omega)
  rw[hfb] at hd0
  obtain⟨p,hp1,hp2⟩:=hd0
  rw[hpb] at hp1;cases hp1
  subst hxs0
  have hy:ys=#[.pointer (some A)]:=by
   refine Array.ext (by simp[hys]) (fun i h1 h2=>?_)
   have:i=0:=by simp at h2;omega
   subst this
   rw[Array.getD_eq_getD_getElem?,Array.getElem?_eq_getElem h1] at hp2
   rw[hA]
   simpa using hp2
  rw[hy]
  rfl
 have hcalls:=callsIn_wide.1 (z6 2 (by omega) L S hS A FM (Tab.h (T:=LT) hs.ok.j) J (ln R C0 D L rec (fun e s3=>Q e ⟨s.fr,s3.hp,s3.g⟩)) K hJ hJg hY hE W1 ⟨FM,okI,go1,BA _ _ _ _ _⟩)
 have hpl:cg Tryd.prog 105=true:=by kernel_rfl
 have hfn':∃fn,Tryd.prog.funcs[105]? = some fn/\fn.name ≠ "runtime.NumGoroutine"/\fn.body.isSome=true:=by
  unfold cg at hpl
  split at hpl
  ·rename_i fn hfn
   simp only[Bool.and_eq_true,bne_iff_ne,ne_eq] at hpl
   exact⟨fn,hfn,hpl.1,hpl.2⟩
  ·cases hpl
 obtain⟨fnF,hF1,hF2,hF3⟩:=hfn'
 have hF3':¬fnF.body=none:=fun h=>by rw[h] at hF3;cases hF3
 refine⟨L,[gC D],W1,{ target:=.fn (.func 105) ys,args:=xs++#[u] },W1,105,(xs++#[u])++ys,W1,?_,?_,fun _ _=>trivial,?_,fun h=>(by cases h),?_⟩
 ·rw[<-hW1,hrec,hD,hL];exact run_enterLoop_outer _ _ _ _ _
 ·simp[resolve,hu,Deferred.ofValue,u]
  rfl
 ·simp[invoke,callFunc,hF1,hF2,hF3']
 rw[hargs]
 refine(ga hcalls).mono ?_
 have hsat':∀{hp3:List AObj} {g3:R.σ} {FM3:Mem} {Z3:Plc} {W:World},Ok R hp3 g3 FM3 Z3 W->Goes R s.g FM Z w g3 FM3 Z3 W->W.heap[D]? = some (.deferred (some []))->Nb R D g3 FM3 Z3 W ->
   Sat R C nt ⟨s.fr,hp3,g3⟩ FM3 Z3 { a with defers:=[gC D]++a.defers } W:=by
  intro hp3 g3 FM3 Z3 W ok3 go4 hD3 nD
  refine⟨ok3,hs.goes.trans go4,hs.size,?_,fun t=>BF go4.ext.fm _ go4.sub (hs.fr t)⟩
  obtain⟨ms,e1,e2,e3,e4⟩:=hs.defs
  refine⟨D::ms,by rw[e1];rfl,List.nodup_cons.2 ⟨fun hmem=>?_,e2⟩,fun h=>?_,fun X hX=>?_⟩
  ·have:=(Array.getElem?_eq_some_iff.1 (e4 D hmem).obj).1
   omega
  ·rw[hC.2] at h;cases h
  ·rcases List.mem_cons.1 hX with rfl|hX
   ·exact⟨hD3,nD.off,nD.offB,nD.nofm,by have:=hs.goes.ext.size;omega⟩
   ·exact(e4 X hX).goes go4
 have hsat:∀{hp3:List AObj} {g3:R.σ} {FM3:Mem} {Z3:Plc} {W:World} (st:LoopState) (pe:Option Code),Ok R hp3 g3 FM3 Z3 W->Goes R s.g FM Z w g3 FM3 Z3 W->W.heap[D]? = some (.deferred (some []))->Nb R D g3 FM3 Z3 W->Nb R L g3 FM3 Z3 W ->
   Sat R C nt ⟨s.fr,hp3,g3⟩ FM3 Z3 { a with defers:=[gC D]++a.defers } (W.putObj L (.loop { rec st pe with state:=.exhausted })):=by
  intro hp3 g3 FM3 Z3 W st pe ok3 go3 hD3 nD nL
  have go4:Goes R s.g FM Z w g3 FM3 Z3 (W.putObj L (.loop { rec st pe with state:=.exhausted })):=go3.put (by omega) _
  exact hsat' (iF _ nL.off nL.offB nL.nofm ok3) go4 ((World.putObj_heap_other hne).trans hD3) (nD.put _ _)
 rintro e w3 (⟨hNK,⟨v,rfl⟩,FMk,okk,h1,h2⟩|⟨hKN,⟨⟨v,rfl⟩,hL3⟩|⟨ch,rfl,hL3⟩⟩)
 ·obtain⟨okd,hD3,hL3,nD,nL⟩:=okDead okk h1
  have hend:=run_endLoop (P:=Tryd.prog) hL3 (by rw[hrec];intro h;cases h)
  obtain⟨p,w4,hend,hp,hw4⟩:∃p w4,(Instr.endLoop L).run Tryd.prog w3=.ok p w4/\p=none/\w4=w3.putObj L (.loop { rec .ready none with state:=.exhausted }):=⟨_,_,hend,by rw[hrec],rfl⟩
  subst hp
  have hs4:=hsat .ready none okd h1 hD3 nD nL
  rw[<-hw4] at hs4
  exact⟨none,w4,hend,_,hdone hNK,FMk,Z,hs4⟩
 ·rcases hL3 with⟨ex,j,s3,FM3,Z3,_,hj,hq,ok3,go3,hD3,hL3,nD,nL⟩|⟨_,_,_,_,_,he,_⟩
  rotate_left
  ·cases he
  have hend:=run_endLoop (P:=Tryd.prog) hL3 (by rw[hrec];intro h;cases h)
  obtain⟨p,w4,hend,hp,hw4⟩:∃p w4,(Instr.endLoop L).run Tryd.prog w3=.ok p w4/\p=some j/\w4=w3.putObj L (.loop { rec .done (some j) with state:=.exhausted }):=⟨_,_,hend,by rw[hrec],rfl⟩
  subst hp
  have hs4:=hsat .done (some j) ok3 go3 hD3 nD nL
  rw[<-hw4] at hs4
  refine⟨some j,w4,hend,?_⟩
  cases ex with
  |normal=>cases hj
  |pan v=>cases hj
  |ret=>cases hj;exact wpIn_ret ⟨_,hq,FM3,Z3,hs4⟩
  |exit id=>cases hj;exact wpIn_exit ⟨_,hq,FM3,Z3,hs4⟩
 ·rcases hL3 with⟨_,_,_,_,_,he,_⟩|⟨x,v,s3,FM3,Z3,he,hden,hq,ok3,go3,hD3,nD⟩
  ·cases he
  ·cases he
   exact⟨_,x,v,FM3,Z3,hq,hsat' ok3 go3 hD3 nD,rfl,hden⟩
theorem z7 [Tab LT R]{nt k0:Nat}{Q:AEx->St R.σ->Prop}{s:St R.σ}{t:Nat}{ps:Array Tmp}{assign body:Code}{fa fb:Nat->AV}{m S K:Nat}{H:List AObj}
  (hf:lk s.fr t=.fn 105 0 fa 1 fb) (hfb:fb 0=.ref m 0) (hS:S<2^24) (h0:s.hp=H++[.cells false 1 (fun _=>.int .u64 S)]) (hl:H.length=m)
  (hlive:dE (H++[.cells false 1 (fun _=>.int .u64 S)])) (hBO:fj m H) (hlen:1=ps.toList.length) (hlt:bF ps.toList nt=true) (ts:List Nat) (hBf:gj ts (fun t=>Below m (lk s.fr t)))
  (hround:∀k,k<K->k<(ai S).length->lg Tryd.prog R nt assign body none H s.g ⟨cL ps.toList [.int .i64 (((ai S).getD k 0:Nat):Int)] (dS ts s.fr),H,s.g⟩)
  (hlast:K<(ai S).length->∀pok l,wpA Tryd.prog R nt (m+1) (.inr l) assign (fun e s1=>e=.normal/\wpA Tryd.prog R nt s1.hp.length (.inr l) body (jT pok (fun e s3=>Q e ⟨s.fr,s3.hp,s3.g⟩)) s1) ⟨cL ps.toList [.int .i64 (((ai S).getD K 0:Nat):Int)] s.fr,H++[.dead],s.g⟩)
  (hdone:(ai S).length<=K->Q .normal ⟨s.fr,H++[.dead],s.g⟩) :
  wpA Tryd.prog R nt k0 .top (.rangeFunc (.tmp t) ps assign body) Q s:=fun _ hC _ _ _ hH=>wpIn_rangeFunc (fun _ _=>s7 hf hfb hS h0 hl hlive hBO hlen hlt ts hBf hround (fun h=>hlast h _) hdone hC hH)
end
end Go.Avm.Pack
namespace Go.Avm.Pack
open Go Go.Avm Go.Proofs
open Go.IntKind (i64 u64)
open Go.Avm.AV (int bool any fz fp sl ow ref fn ifc val agg tup)
open Go.Avm.AObj (cells dead)
open Go.Avm.Oc (ret)
set_option maxRecDepth 4000
section
variable {R:Res}
def s8 (P:Program)(R:Res)(nt l:Nat)(b:Code)(q:List Nat)(pok:Prop)(Q:AEx->St R.σ->Prop):AEx->St R.σ->Prop
 |.normal,s=>Wp P R nt s.hp.length (.inr l) b q (jT pok Q) s
 |_,_=>False
theorem s9 [Tab LT R]{nt k0:Nat}{b:Code}{p:List Nat}{Q:AEx->St R.σ->Prop}{s:St R.σ}(t:Nat)(psl:List Nat)(m:Nat)(hrl:iG t psl (sub b p)=true){fa fb:Nat->AV}(hf:lk s.fr t=.fn 105 0 fa 1 fb)(hfb:fb 0=.ref m 0)
  (S K:Nat) (hS:S<2^24) (H:List AObj) (h0:To R k0 s ⟨s.fr,H++[cO 1 (fun _=>.int .u64 S)],s.g⟩) (hl:H.length=m)
  (hlive:dE (H++[cO 1 (fun _=>.int .u64 S)])) (hBO:fj m H) (hlen:1=psl.length) (hlt:bF psl nt=true) (ts:List Nat) (hBf:gj ts (fun t=>Below m (lk s.fr t)))
  (hround:∀k l,k<K->k<(ai S).length->Wp Tryd.prog R nt m (.inr l) b (p++[0]) (nC Tryd.prog R nt m l b (p++[1]) none H s.g) ⟨cL psl [.int .i64 (((ai S).getD k 0:Nat):Int)] (dS ts s.fr),H,s.g⟩)
  (hlast:K<(ai S).length->∀pok l,Wp Tryd.prog R nt (m+1) (.inr l) b (p++[0]) (s8 Tryd.prog R nt l b (p++[1]) pok (fun e s3=>Q e ⟨s.fr,s3.hp,s3.g⟩)) ⟨cL psl [.int .i64 (((ai S).getD K 0:Nat):Int)] s.fr,H++[.dead],s.g⟩)
  (hdone:(ai S).length<=K->Q .normal ⟨s.fr,H++[.dead],s.g⟩) :
  Wp Tryd.prog R nt k0 .top b p Q s:=by
 obtain⟨ps,assign,body,hc,rfl⟩:∃ps assign body,sub b p=.rangeFunc (.tmp t) ps assign body/\ps.toList=psl:=by
  unfold iG at hrl
  split at hrl
  ·rename_i u ps assign body hs
   simp only[Bool.and_eq_true] at hrl
   have:=Nat.eq_of_beq_eq_true hrl.1
   subst this
   exact⟨ps,assign,body,hs,jI hrl.2⟩
  ·cases hrl
 have e0:sub b (p++[0])=assign:=by rw[bW,hc];exact cn assign
 have e1:sub b (p++[1])=body:=by rw[bW,hc];exact cn body
 refine⟨?_⟩
 rw[hc]
 refine kO h0 (z7 (s:=⟨s.fr,H++[cO 1 (fun _=>.int .u64 S)],s.g⟩) (K:=K) hf hfb hS rfl hl hlive hBO hlen hlt ts hBf (fun k hk hkN l=>?_) (fun hK pok l=>?_) hdone)
 ·have h1:=(hround k l hk hkN).h
  rw[e0] at h1
  rw[show(St.hp ⟨cL ps.toList [.int .i64 (((ai S).getD k 0:Nat):Int)] (dS ts s.fr),H,s.g⟩).length=m from hl]
  refine gE h1 (fun e s' hq=>?_)
  cases e with
  |normal=>
   have h2:=(show Wp _ _ _ _ _ _ _ _ _ from hq).h
   rw[e1] at h2
   exact⟨rfl,h2⟩
  |exit id=>exact hq.elim
  |ret=>exact hq.elim
  |pan v=>exact hq.elim
 ·have h1:=(hlast hK pok l).h
  rw[e0] at h1
  refine gE h1 (fun e s' hq=>?_)
  cases e with
  |normal=>
   have h2:=(show Wp _ _ _ _ _ _ _ _ _ from hq).h
   rw[e1] at h2
   exact⟨rfl,h2⟩
  |exit id=>exact hq.elim
  |ret=>exact hq.elim
  |pan v=>exact hq.elim
end
def aM (l:List Nat):Nat->AV:=fun k=>ah (ao (l.getD k 0))
theorem fO {k:Nat}(l:List Nat)(j:Nat):Below k (aM l j):=trivial
theorem gN {f:Nat->Nat}(h:True){l:List Nat}{j:Nat}:aK f (aM l j)=aM l j:=rfl
theorem l7 {p:Prg}{left a:Nat}(hg:hgP p a<2^24)(hl:left<2^24):(IntKind.u64.wrap ((BitVec.ofInt 64 (IntKind.u64.wrap ((BitVec.ofInt 64 (hgP p a:Int)&&&BitVec.ofInt 64 (left:Int)).toNat:Int)) &&& ~~~ BitVec.ofInt 64 (au p a:Int)).toNat:Int)==0)=eP p left a:=by
 rw[Tb.u64_and (bI hg) (bI hl),oO (Nat.lt_of_le_of_lt Nat.and_le_right hl)]
 unfold eP
 rw[Bool.eq_iff_iff,beq_iff_eq,beq_iff_eq]
 omega
theorem l8 {p:Prg}(hr:∀r,r∈p.rules.l->aE r)(hx:∀r,r∈p.rules.l->∀l,l∈r.body.l->0<=l.atom/\l.atom<p.atoms){a c:Nat}(ha:a<24)(han:(a:Int)<p.atoms)(hc:c∈ai (hgP p a)):(c:Int)<p.atoms:=by
 obtain⟨m1,m2⟩:=Tb.mem_memN.1 hc
 rcases zc hx ((eA hr ha).1 m2) with rfl|h
 ·exact han
 ·exact h
theorem l9 {L:List Nat}{w m c:Nat}{z:Nat->AV}{old:Nat->Nat->AV}(hm:m=L.length)(hold:∀i,i<m->old i 0=aM L i)(hc:c<(m+1)*1):aM (L++[w]) c=aZ 1 m old (fun i j=>al z 0 1 (fun _=>ah (ao w)) (0+i*1+j)) c:=by
 unfold aZ aM
 rw[List.getD_eq_getElem?_getD]
 by_cases h:c<m*1
 ·rw[if_pos h,show c/1=c by omega,show c%1=0 by omega,hold c omg,List.getElem?_append_left omg,<-List.getD_eq_getElem?_getD]
  rfl
 ·rw[if_neg h,List.getElem?_append_right omg,show c-L.length=0 by omega]
  show _=al z 0 1 _ (0+(c-m*1)/1*1+(c-m*1)%1)
  rw[dt,if_pos omg]
  rfl
theorem Le.ow_nil {get:Nat->Nat->AV}{s o es:Nat}:Le (.ow true o 0 es) (.fz .nil s 0 get):=by
 intro FM Z v h
 obtain⟨a,rfl,ha⟩:=h.1 rfl
 obtain rfl:=ha rfl
 exact⟨fun _=>⟨rfl,none,0,rfl,rfl,rfl⟩,fun h=>(by cases h)⟩
theorem oW {f z:Nat->AV}{a c:Nat}(hc:c<(a+1)*1):f c=aZ 1 a (fun i j=>f (i*1+j)) (fun i j=>al z 0 1 (fun _=>f a) (0+i*1+j)) c:=by
 unfold aZ
 by_cases h:c<a*1
 ·rw[if_pos h]
  show f c=f (c/1*1+c%1)
  rw[show c/1*1+c%1=c by omega]
 ·rw[if_neg h]
  show f c=al z 0 1 _ (0+(c-a*1)/1*1+(c-a*1)%1)
  rw[dt,if_pos omg,show c=a by omega]
structure OrdOk (p:Prg)(x:Nat × List Nat × Nat):Prop where
 num:x.1=x.2.1.length
 few:x.1+(ai x.2.2).length<=24
 lt:x.2.2<2^24
 at_:∀a,a∈ai x.2.2->a<p.atoms.toNat
 ord:∃f,(ai x.2.2).length<f/\x.2.1++kf p f x.2.2=cy p
theorem z8 {p:Prg}(hr:∀r,r∈p.rules.l->aE r){m left:Nat}{L:List Nat}(h:OrdOk p (m,L,left))(h0:left≠0):OrdOk p (m+1,L++[au p (dU p left)],dK left (au p (dU p left)))/\(ai (dK left (au p (dU p left)))).length<(ai left).length:=by
 obtain⟨o1,o2,o3,o4,f,f1,f2⟩:=h
 simp only at o1 o2 o3 o4 f1 f2
 have hlt:=zg hr o3 h0
 obtain⟨f,rfl⟩:∃k,f=k+1:=⟨f-1,omg⟩
 refine⟨⟨?_,?_,Nat.lt_of_le_of_lt sI o3,fun a ha=>o4 a ?_,f,?_,?_⟩,hlt⟩
 ·show m+1=(L++[_]).length
  rw[List.length_append,o1]
  rfl
 ·show m+1+(ai (dK left (au p (dU p left)))).length<=24
  omega
 ·obtain⟨m1,m2⟩:=Tb.mem_memN.1 ha
  have m2:(dK left (au p (dU p left))).testBit a=true:=m2
  rw[ke o3,Bool.and_eq_true] at m2
  exact Tb.mem_memN.2 ⟨m1,m2.1⟩
 ·show(ai (dK left _)).length<f
  omega
 ·rw[<-f2]
  show(L++[_])++kf p f _=L++(if left=0 then[] else _::kf p f _)
  rw[if_neg h0,List.append_assoc]
  rfl
theorem z9 {p:Prg}(hp:1<=p.atoms/\p.atoms<=24):OrdOk p (0,[],2^p.atoms.toNat-1):=by
 have hb:∀j,(2^p.atoms.toNat-1).testBit j=decide (j<p.atoms.toNat):=fun j=>Nat.testBit_two_pow_sub_one _ _
 refine⟨rfl,?_,?_,fun a ha=>?_,25,?_,rfl⟩
 ·have:=gV (2^p.atoms.toNat-1)
  show 0+(ai (2^p.atoms.toNat-1)).length<=24
  omega
 ·have:2^p.atoms.toNat<=2^24:=Nat.pow_le_pow_right dcd omg
  have:0<2^p.atoms.toNat:=Nat.pow_pos dcd
  show 2^p.atoms.toNat-1<2^24
  omega
 ·have h:=(Tb.mem_memN.1 ha).2
  have h:(2^p.atoms.toNat-1).testBit a=true:=h
  rw[hb,decide_eq_true_eq] at h
  exact h
 ·have:=gV (2^p.atoms.toNat-1)
  show(ai (2^p.atoms.toNat-1)).length<25
  omega
theorem Aa (R:Res)[Tab LT R](p:Prg)(hb:aD p=true)(g:R.σ):Does Tryd.prog R 31 [av p] [] g (.ret (.tup 2 (nth [dw (cy p).length (fun i=>ao ((cy p).getD i 0)),.int .i64 0]))) [] g:=by
 have hroom:aC=140737488355328:=rfl
 obtain⟨hl,hr,hp,hh,hx⟩:=ez hb
 have hs:eK p:=gZ hb
 have hp':1<=p.atoms/\p.atoms<=24:=hp
 refine spW (nt:=57) (rs:=[.tmp 2,.tmp 3]) (k0:=0) ?_
 have hc:((if aD p then(0:Int) else 2) != 0)=false:=by rw[hb];rfl
 refine vcR [[1,0,0,1,0]] (lkL [(0,[1]),(1,[1,13]),(3,[1,4]),(4,[1,4,15,16])]) (lkL [(1,[(1,ROrc.pcall (i6 (if aD p=true then 0 else 2)))])]) (fun Q=>(fun (u1:Int)=>(fun (u2:AObj)=>2<=2/\(∀(hp:List AObj) (g:R.σ),true=true/\Does Tryd.prog R 16 [av p] hp g (ret (i6 u1)) hp g)/\((u1 != 0)=true->WpC Tryd.prog R 57 0 31 [1,0,0,1,0] Q [Kont.seq [1,0,1]] (St.mk [(1,ref 0 0),(13,AV.bool (u1 != 0))] [u2] g))/\((u1 != 0)=false->1<=2/\WpC Tryd.prog R 57 0 31 [1,0,1,1,0,1,0] Q [Kont.blk 0,Kont.seq [1,0,1,1,1]] (St.mk [(1,ref 0 0),(4,ref 1 0),(15,i6 p.atoms),(16,i6 0)] [u2,cO 1 fun a=>fz Fz.nil 0 0 fun x x_1=>any] g))) (cO 2 (nth [i6 p.atoms,ad p.rules]))) (if aD p=true then 0 else 2)) ⟨omg,(fun _ _=>⟨rfl,(gP _ _ _ _ omg)⟩),fun hcc=>(nomatch (hc.symm.trans hcc)),fun _=>⟨omg,?_⟩⟩
 refine b9 (gq (fun _=>.any) 1) ?_
 refine b9 (toL (s':=⟨[(1,.ref 0 0),(4,.ref 1 0),(15,.int .i64 p.atoms),(16,.int .i64 0)],[cO 2 (nth [.int .i64 p.atoms,ad p.rules]),cO 1 (fun _=>.ow true 2 0 1),cO (0*1) (onC p)],g⟩) (h1:=?_) (h2:=?_)) ?_
 ·exact⟨Bs _,Bs _,Bs _,Bs _,trivial⟩
 ·exact⟨Bv _,⟨rfl,Nat.le_refl _,fun _ _=>Le.nil_ow⟩,⟨rfl,Nat.le_refl _,fun j hj=>absurd hj omg⟩,trivial⟩
 refine(a9 krf (fun (a:Nat)=>⟨[(1,ref 0 0),(4,ref 1 0),(15,i6 p.atoms),(16,.int .i64 a)],[cO 2 (nth [.int .i64 p.atoms,ad p.rules]),cO 1 (fun _=>.ow true 2 a 1),cO (a*1) (onC p)],g⟩) (fun (a:Nat)=>(a<=p.atoms.toNat)) (fun (a:Nat)=>(p.atoms.toNat-a)) 0 (aT ⟨Bs _,Bs _,Bs _,(Bt krf),trivial⟩ rfl rfl) ?_ (fun a hi=>?_))
 ·exact Nat.zero_le _
 ·refine vcR [] (lkL [(5,[1,4,15,16,17]),(6,[1,4,5,15,16]),(7,[1,4,15,16]),(8,[1,4,15,16])]) (lkL [(7,[(3,ROrc.pcall (int u64 (↑(hgP p (Int.toNat (↑a:Int))):Int))),(5,ROrc.val (Orc.obj (onC p))),(6,ROrc.val (Orc.obj (nth [ow true 4 (a+1) 1])))])]) (fun Q=>(fun (u1:Int)=>(fun (u2:AV)=>(fun (u3:AObj)=>(decide (u1<p.atoms)=true->Flw Tryd.prog/\1<=1/\2<=2/\(∀(hp:List AObj) (g:R.σ),true=true/\Does Tryd.prog R 70 [av p,i6 u1] hp g (ret u2) hp g)/\0<1/\(a+1)*8<=aC/\a+1<=aC/\1<=1/\a*1<=a*1/\(∀(c:Nat),c<(a+1)*1->int u64 (↑(hgP p c):Int)=aZ 1 a (fun (i j:Nat)=>int u64 (↑(hgP p (i*1+j)):Int)) (fun (i j:Nat)=>al (fun (j:Nat)=>int u64 0) 0 1 (fun (x:Nat)=>u2) (0+i*1+j)) c)/\1<=1/\(∀(c:Nat),c<1->nth [ow true 4 (a+1) 1] c=al (fun (x:Nat)=>ow true 2 a 1) 0 1 (fun (x:Nat)=>ow true 4 (a+1) 1) c)/\(-9223372036854775808<=u1+1/\u1+1<=9223372036854775807)/\Q AEx.normal (St.mk [(1,ref 0 0),(4,ref 1 0),(15,i6 p.atoms),(16,i6 (u1+1))] [u3,cO 1 (nth [ow true 4 (a+1) 1]),dead,cO 1 (al (fun (j:Nat)=>int u64 0) 0 1 fun x=>u2),cO ((a+1)*1) fun a=>int u64 (↑(hgP p a):Int)] g))/\(decide (u1<p.atoms)=false->Q (AEx.exit 0) (St.mk [(1,ref 0 0),(4,ref 1 0),(15,i6 p.atoms),(16,i6 u1),(17,AV.bool (decide (u1<p.atoms)))] [u3,cO 1 fun x=>ow true 2 a 1,cO (a*1) fun a=>int u64 (↑(hgP p a):Int)] g))) (cO 2 (nth [i6 p.atoms,ad p.rules]))) (int u64 (↑(hgP p a):Int))) ((↑a:Int))) ⟨fun c1=>have c1:(↑a:Int)<p.atoms:=(of_decide_eq_true c1);⟨krf,omg,omg,(fun _ _=>⟨rfl,(sB _ _ _ omg omg (by simp at * <;> omega) _ _)⟩),omg,omg,omg,omg,omg,?_,omg,(fun c hc=>match c,hc with|0,_=>krf ),omg,?_⟩,fun c1=>have c1:¬(↑a:Int)<p.atoms:=(of_decide_eq_false c1);?_⟩
  ·exact fun c hc=>(oW (f:=onC p) (z:=fun _=>.int .u64 0) hc).trans krf
  ·refine(aO (a+1) (toS [0,1,4] 5 (hob:=⟨⟨rfl,Nat.le_refl _,fun j hj=>match j,hj with|0,_=>(Bs _)|1,_=>(Bs _) ⟩,⟨rfl,Nat.le_refl _,fun j hj=>match j,hj with|0,_=>(Bs _) ⟩,?_,trivial⟩)) ?_ ?_)
   ·exact⟨rfl,Nat.le_refl _,fun j _=>Bt rfl⟩
   ·omega
   ·omega
  ·have ha:a=p.atoms.toNat:=by omega
   subst ha
   have hA:=fun (R:Res) (hp:List AObj) (g:R.σ)=>xW R p.atoms.toNat omg hp g
   rw[show((p.atoms.toNat:Nat):Int)=p.atoms by omega] at hA
   obtain⟨left0,hleft0⟩:∃l,2^p.atoms.toNat-1=l:=⟨_,rfl⟩
   simp only[hleft0] at hA
   obtain⟨n,hn⟩:∃n,p.atoms.toNat=n:=⟨_,rfl⟩
   rw[hn]
   refine⟨_,BE _,vcR [] (lkL [(9,[1,4,6]),(10,[1,4,6,7]),(11,[4,6,7,8])]) (lkL [(9,[(2,ROrc.val (Orc.obj (nth [fn 82 0 (nth []) 1 (nth [ref 1 0])])))]),(11,[(2,ROrc.pcall (int u64 (↑left0:Int))),(4,ROrc.val (Orc.obj (nth [int u64 (↑left0:Int)])))])]) (fun Q=>(fun (u1:AV)=>(fun (u2:AV)=>1<=1/\(∀(c:Nat),c<1->nth [u2] c=al (fun (a:Nat)=>AV.nilf) 0 1 (fun (x:Nat)=>u2) c)/\1<=2/\(∀(hp:List AObj) (g:R.σ),true=true/\Does Tryd.prog R 83 [i6 p.atoms] hp g (ret u1) hp g)/\1<=1/\(∀(c:Nat),c<1->nth [u1] c=al (fun (a:Nat)=>int u64 0) 0 1 (fun (x:Nat)=>u1) c)/\WpC Tryd.prog R 57 0 31 [1,0,1,1,1,1,1,1,1,0,0] Q [Kont.blk 2,Kont.seq [1,0,1,1,1,1,1,1,1,1]] (St.mk [(4,ref 1 0),(6,ref 3 0),(7,ref 4 0),(8,ref 5 0)] [cO 2 (nth [i6 p.atoms,ad p.rules]),cO 1 fun x=>ow true 2 n 1,cO (n*1) fun a=>int u64 (↑(hgP p a):Int),cO 1 (nth [u2]),cO 1 fun a=>fz Fz.nil 0 0 fun x x_1=>any,cO 1 (nth [u1])] g)) (fn 82 0 (nth []) 1 (nth [ref 1 0]))) (int u64 (↑left0:Int))) ⟨omg,(fun c hc=>match c,hc with|0,_=>krf ),omg,(fun _ _=>⟨rfl,(hA _ _ _)⟩),omg,(fun c hc=>match c,hc with|0,_=>krf ),?_⟩⟩
   refine b9 (gq (fun _=>.any) 1) ?_
   refine b9 (toL (s':=⟨[(4,.ref 1 0),(6,.ref 3 0),(7,.ref 4 0),(8,.ref 5 0)],[cO 2 (nth [.int .i64 p.atoms,ad p.rules]),cO 1 (fun _=>.ow true 2 n 1),cO (n*1) (onC p),cO 1 (fun _=>.fn 82 0 (nth []) 1 (nth [.ref 1 0])),cO 1 (fun _=>.ow true 6 0 1),cO 1 (fun _=>.int .u64 left0),cO (0*1) (aM [])],g⟩) (h1:=?_) (h2:=?_)) ?_
   ·exact⟨Bs _,Bs _,Bs _,Bs _,trivial⟩
   ·exact⟨Bv _,Bv _,Bv _,⟨rfl,Nat.le_refl _,fun j hj=>match j,hj with|0,_=>Bs _⟩,⟨rfl,Nat.le_refl _,fun _ _=>Le.nil_ow⟩,⟨rfl,Nat.le_refl _,fun j hj=>match j,hj with|0,_=>Bs _⟩,⟨rfl,Nat.le_refl _,fun j hj=>absurd hj omg⟩,trivial⟩
   refine(a9 krf (fun (x:Nat × List Nat × Nat)=>⟨[(4,ref 1 0),(6,ref 3 0),(7,ref 4 0),(8,ref 5 0)],[cO 2 (nth [.int .i64 p.atoms,ad p.rules]),cO 1 (fun _=>.ow true 2 n 1),cO (n*1) (onC p),cO 1 (fun _=>.fn 82 0 (nth []) 1 (nth [.ref 1 0])),cO 1 (fun _=>.ow true 6 x.1 1),cO 1 (fun _=>.int .u64 x.2.2),cO (x.1*1) (aM x.2.1)],g⟩) (fun (x:Nat × List Nat × Nat)=>(OrdOk p x)) (fun (x:Nat × List Nat × Nat)=>((ai x.2.2).length)) (0,[],left0) (aT ⟨Bs _,Bs _,Bs _,Bs _,trivial⟩ rfl rfl) ?_ (fun x hi=>?_))
   ·rw[<-hleft0]
    exact z9 hp'
   ·obtain⟨m,L,left⟩:=x
    have hok:=hi
    obtain⟨o1,o2,o3,o4,o5⟩:=hi
    simp only at o1 o2 o3 o4 o5
    have hat:0<n:=by omega
    refine vcR [] (lkL [(12,[4,6,7,8,31]),(13,[4,6,7,8,33])]) (lkL [(13,[(1,ROrc.call (fn 105 0 (nth []) 1 (nth [ref (List.length [cO 2 (nth [i6 p.atoms,ad p.rules]),cO 1 fun (x:Nat)=>ow true 2 n 1,cO (n*1) fun (a:Nat)=>int u64 (↑(hgP p a):Int),cO 1 fun (x:Nat)=>fn 82 0 (nth []) 1 (nth [ref 1 0]),cO 1 fun (x:Nat)=>ow true 6 m 1,cO 1 fun (x:Nat)=>int u64 (↑left:Int),cO (m*1) fun (a:Nat)=>fz Fz.auto 1 (List.length (ao (List.getD L a 0)).l) fun (i x:Nat)=>af (ao (List.getD L a 0)).l i]) 0])) ([cO 2 (nth [i6 p.atoms,ad p.rules]),cO 1 fun (x:Nat)=>ow true 2 n 1,cO (n*1) fun (a:Nat)=>int u64 (↑(hgP p a):Int),cO 1 fun (x:Nat)=>fn 82 0 (nth []) 1 (nth [ref 1 0]),cO 1 fun (x:Nat)=>ow true 6 m 1,cO 1 fun (x:Nat)=>int u64 (↑left:Int),cO (m*1) fun (a:Nat)=>fz Fz.auto 1 (List.length (ao (List.getD L a 0)).l) fun (i x:Nat)=>af (ao (List.getD L a 0)).l i]++[cO 1 fun (x:Nat)=>int u64 (↑left:Int)]) g)])]) (fun Q=>(fun (u1:List AObj)=>(fun (u2:List AObj)=>1<=1/\(((↑left:Int) != 0)=true->1<=1/\(true=true/\Does Tryd.prog R 77 [int u64 (↑left:Int)] u2 g (ret (fn 105 0 (nth []) 1 (nth [ref 7 0]))) u1 g)/\WpC Tryd.prog R 57 0 31 [1,0,1,1,1,1,1,1,1,0,0,0,1,0,1,0] Q [Kont.blk 4,Kont.blk 3] (St.mk [(4,ref 1 0),(6,ref 3 0),(7,ref 4 0),(8,ref 5 0),(33,fn 105 0 (nth []) 1 (nth [ref 7 0]))] u1 g))/\(((↑left:Int) != 0)=false->Q (AEx.exit 2) (St.mk [(4,ref 1 0),(6,ref 3 0),(7,ref 4 0),(8,ref 5 0),(31,AV.bool ((↑left:Int) != 0))] u2 g))) ([cO 2 (nth [i6 p.atoms,ad p.rules]),cO 1 fun x=>ow true 2 n 1,cO (n*1) fun a=>int u64 (↑(hgP p a):Int),cO 1 fun x=>fn 82 0 (nth []) 1 (nth [ref 1 0]),cO 1 fun x=>ow true 6 m 1,cO 1 fun x=>int u64 (↑left:Int),cO (m*1) fun a=>fz Fz.auto 1 (List.length (ao (List.getD L a 0)).l) fun i x=>af (ao (List.getD L a 0)).l i])) ([cO 2 (nth [i6 p.atoms,ad p.rules]),cO 1 fun x=>ow true 2 n 1,cO (n*1) fun a=>int u64 (↑(hgP p a):Int),cO 1 fun x=>fn 82 0 (nth []) 1 (nth [ref 1 0]),cO 1 fun x=>ow true 6 m 1,cO 1 fun x=>int u64 (↑left:Int),cO (m*1) fun a=>fz Fz.auto 1 (List.length (ao (List.getD L a 0)).l) fun i x=>af (ao (List.getD L a 0)).l i,cO 1 fun x=>int u64 (↑left:Int)])) ⟨omg,fun c1=>have c1:¬(↑left:Int)=0:=(bne_iff_ne.mp c1);⟨omg,⟨rfl,(cT _ _ _ _)⟩,?_⟩,fun c1=>have c1:(↑left:Int)=0:=(bne_eq_false_iff_eq.mp c1);?_⟩
    ·have hne:left≠0:=by omega
     have hnx:=z8 hr hok hne
     obtain⟨k1,k2,k3,k4⟩:=sK hr o3 hne
     obtain⟨K,hK⟩:∃K,iW p left=K:=⟨_,rfl⟩
     obtain⟨A,hA'⟩:∃A,dU p left=A:=⟨_,rfl⟩
     rw[hK] at k1 k3
     rw[hA'] at k2 k4 hnx
     have hAK:(ai left).getD K 0=A:=by rw[<-hA',<-hK];rfl
     rcases Nat.eq_zero_or_pos m with hm0|hm0
     ·subst hm0
      have hL:L=[]:=List.length_eq_zero_iff.1 o1.symm
      subst hL
      refine b9 (toS (s':=⟨[(4,.ref 1 0),(6,.ref 3 0),(7,.ref 4 0),(8,.ref 5 0),(33,.fn 105 0 (nth []) 1 (nth [.ref 6 0]))],[cO 2 (nth [.int .i64 p.atoms,ad p.rules]),cO 1 (fun _=>.ow true 2 n 1),cO (n*1) (onC p),cO 1 (fun _=>.fn 82 0 (nth []) 1 (nth [.ref 1 0])),cO 1 (fun _=>.fz .nil 0 0 (fun _ _=>.any)),cO 1 (fun _=>.int .u64 left),cO 1 (fun _=>.int .u64 left)],g⟩) [0,1,2,3,4,5,7] 8 (hfr:=⟨Bs _,Bs _,Bs _,Bs _,Le.fn (fun i hi=>absurd hi (Nat.not_lt_zero i)) (fun i hi=>match i,hi with|0,_=>Bs _),trivial⟩) (hob:=⟨⟨rfl,Nat.le_refl _,fun j hj=>match j,hj with|0,_=>Bs _|1,_=>bt (by exact trivial)⟩,Bv _,Bv _,⟨rfl,Nat.le_refl _,fun j hj=>Le.fn (fun i hi=>absurd hi (Nat.not_lt_zero i)) (fun i hi=>match i,hi with|0,_=>Bs _)⟩,⟨rfl,Nat.le_refl _,fun j hj=>Le.ow_nil⟩,Bv _,Bv _,trivial⟩)) ?_
      refine s9 33 [34] 6 krf rfl rfl left K o3 [cO 2 (nth [.int .i64 p.atoms,ad p.rules]),cO 1 (fun _=>.ow true 2 n 1),cO (n*1) (onC p),cO 1 (fun _=>.fn 82 0 (nth []) 1 (nth [.ref 1 0])),cO 1 (fun _=>.fz .nil 0 0 (fun _ _=>.any)),cO 1 (fun _=>.int .u64 left)] (fJ rfl rfl) rfl (by exact⟨omg,omg,omg,omg,omg,omg,omg,trivial⟩) (by exact⟨fun j hj=>(match j,hj with|0,_=>trivial|1,_=>trivial),fun _ _=>show 2<6 by omega,fun _ _=>trivial,fun _ _=>⟨trivial,trivial,show 1<6 by omega⟩,fun _ _=>trivial,fun _ _=>trivial,trivial⟩) rfl krf [4,6,7,8] (by exact⟨show 1<6 by omega,show 3<6 by omega,show 4<6 by omega,show 5<6 by omega,trivial⟩) (fun k l' hk hkN=>?_) (fun hKN pok l'=>?_) (fun h=>?_)
      ·obtain⟨a,ha⟩:∃a,(ai left).getD k 0=a:=⟨_,rfl⟩
       have ham:a∈ai left:=by rw[<-ha];exact bO _ 0 hkN
       have han:a<n:=by rw[<-hn];exact o4 a ham
       have h3:=k3 k hk
       rw[ha] at h3 ⊢
       have hO:=fun (R:Res) [Tab LT R] (g:R.σ)=>lY R p n a hr omg omg (fun b hb=>by have:=l8 hr hx (a:=a) omg omg hb;omega) g
       have hcd:=(l7 (p:=p) (a:=a) (g6 hr omg) o3).trans h3
       refine vcR [] (lkL [(14,[4,6,7,8,9])]) (fun _=>[]) (fun (Q:AEx->St R.σ->Prop)=>Q AEx.normal (St.mk [(4,ref 1 0),(6,ref 3 0),(7,ref 4 0),(8,ref 5 0),(9,i6 (↑a:Int))] [cO 2 (nth [i6 p.atoms,ad p.rules]),cO 1 fun (x:Nat)=>ow true 2 n 1,cO (n*1) fun (a:Nat)=>int u64 (↑(hgP p a):Int),cO 1 fun (x:Nat)=>fn 82 0 (nth []) 1 (nth [ref 1 0]),cO 1 fun (x:Nat)=>fz Fz.nil 0 0 fun (x x_1:Nat)=>any,cO 1 fun (x:Nat)=>int u64 (↑left:Int)] g)) (?_)
       show Wp _ _ _ 6 _ _ _ _ _
       refine vcR [] (lkL [(15,[4,6,7,8,9,10]),(16,[4,6,7,8,10,46]),(17,[4,6,7,8,10]),(18,[4,6,7,8])]) (lkL [(15,[(2,ROrc.kcall (int u64 (↑(au p a):Int)))]),(17,[(2,ROrc.callN (fn 105 0 (nth []) 1 (nth [ref (List.length [cO 2 (nth [i6 p.atoms,ad p.rules]),cO 1 fun (x:Nat)=>ow true 2 n 1,cO (n*1) fun (a:Nat)=>int u64 (↑(hgP p a):Int),cO 1 fun (x:Nat)=>fn 82 0 (nth []) 1 (nth [ref 1 0]),cO 1 fun (x:Nat)=>fz Fz.nil 0 0 fun (x x_1:Nat)=>any,cO 1 fun (x:Nat)=>int u64 (↑left:Int)]) 0])) [] [cO 1 fun (x:Nat)=>int u64 (↑(au p a):Int)] g),(3,ROrc.callN (ow true 7 (List.length (ai (au p a))) 1) [(6,cO 1 fun (j:Nat)=>any)] [cO (List.length (ai (au p a))*1) fun (j:Nat)=>i6 (↑(List.getD (ai (au p a)) j 0):Int)] g),(6,ROrc.val (Orc.obj (nth [ow true 9 1 1])))]),(18,[(3,ROrc.val (Orc.obj (nth [int u64 (IntKind.wrap u64 (↑(BitVec.toNat (BitVec.ofInt 64 (↑left:Int) &&& ~~~BitVec.ofInt 64 (↑(au p a):Int))):Int))])))])]) (fun Q=>(fun (u1:List AObj)=>(fun (u2:Bool)=>(fun (u3:List AObj)=>(fun (u4:AV)=>(fun (u5:AObj)=>(fun (u6:AV)=>(fun (u7:AV)=>(fun (u8:AObj)=>(fun (u9:AObj)=>(fun (u10:AV)=>(fun (u11:AObj)=>(fun (u12:Bool)=>1<=1/\(true=true/\Does Tryd.prog R 82 [i6 (↑a:Int),ref 1 0] u1 g (ret u10) u1 g)/\u12=true/\1<=1/\(0<=(↑a:Int)/\(↑a:Int)<(↑n:Int))/\a+1<=n*1/\1<=1/\(u2=true->u12=true/\1<=1/\(true=true/\Does Tryd.prog R 77 [u10] u1 g (ret (fn 105 0 (nth []) 1 (nth [ref 6 0]))) u3 g)/\(true=true/\Does Tryd.prog R 75 [fn 105 0 (nth []) 1 (nth [ref 6 0])] u3 g (ret u7) [u11,cO 1 fun x=>ow true 2 n 1,u9,u8,cO 1 fun x=>u6,cO 1 fun x=>int u64 (↑left:Int),cO 1 fun j=>any,u5] g)/\0<1/\24<=aC/\1<=aC/\1<=1/\1<=1/\(∀(c:Nat),c<1->nth [ow true 9 1 1] c=al (fun (x:Nat)=>u6) 0 1 (fun (x:Nat)=>ow true 9 1 1) c)/\1<=1/\1<=1/\(∀(c:Nat),c<1->nth [u4] c=al (fun (x:Nat)=>int u64 (↑left:Int)) 0 1 (fun (x:Nat)=>u4) c)/\Q (AEx.exit 3) (St.mk [(4,ref 1 0),(6,ref 3 0),(7,ref 4 0),(8,ref 5 0)] [u11,cO 1 fun x=>ow true 2 n 1,u9,u8,cO 1 (nth [ow true 9 1 1]),cO 1 (nth [u4]),cO 1 fun j=>any,u5,cO 1 (al (fun (j:Nat)=>u6) 0 1 fun x=>u7),cO 1 (aZ 1 0 (fun (x x_1:Nat)=>any) fun i j=>al (fun (j:Nat)=>u6) 0 1 (fun (x:Nat)=>u7) (0+i*1+j))] g))/\(u2=false->Q AEx.normal (St.mk [(4,ref 1 0),(6,ref 3 0),(7,ref 4 0),(8,ref 5 0),(10,u10),(46,AV.bool u2)] u1 g))) (Tables.follows Tryd.prog.toTables Departure.mixedOrders)) (cO 2 (nth [i6 p.atoms,ad p.rules]))) (int u64 (↑(au p a):Int))) (cO (n*1) fun a=>int u64 (↑(hgP p a):Int))) (cO 1 fun x=>fn 82 0 (nth []) 1 (nth [ref 1 0]))) (ow true 7 (List.length (ai (au p a))) 1)) (fz Fz.nil 0 0 fun x x_1=>any)) (cO (List.length (ai (au p a))*1) fun j=>i6 (↑(List.getD (ai (au p a)) j 0):Int))) (int u64 (IntKind.wrap u64 (↑(BitVec.toNat (BitVec.ofInt 64 (↑left:Int) &&& ~~~BitVec.ofInt 64 (↑(au p a):Int))):Int)))) ([cO 2 (nth [i6 p.atoms,ad p.rules]),cO 1 fun x=>ow true 2 n 1,cO (n*1) fun a=>int u64 (↑(hgP p a):Int),cO 1 fun x=>fn 82 0 (nth []) 1 (nth [ref 1 0]),cO 1 fun x=>fz Fz.nil 0 0 fun x x_1=>any,cO 1 fun x=>int u64 (↑left:Int),cO 1 fun x=>int u64 (↑(au p a):Int)])) (IntKind.wrap u64 (↑(BitVec.toNat (BitVec.ofInt 64 (IntKind.wrap u64 (↑(BitVec.toNat (BitVec.ofInt 64 (↑(hgP p a):Int)&&&BitVec.ofInt 64 (↑left:Int))):Int)) &&& ~~~BitVec.ofInt 64 (↑(au p a):Int))):Int)==0)) ([cO 2 (nth [i6 p.atoms,ad p.rules]),cO 1 fun x=>ow true 2 n 1,cO (n*1) fun a=>int u64 (↑(hgP p a):Int),cO 1 fun x=>fn 82 0 (nth []) 1 (nth [ref 1 0]),cO 1 fun x=>fz Fz.nil 0 0 fun x x_1=>any,cO 1 fun x=>int u64 (↑left:Int)])) ⟨omg,⟨rfl,(doT (T:=LT) [1,2] 6 (fun R _ g=>hO R g))⟩,krf,omg,omg,omg,omg,fun c1=>have c1:IntKind.wrap u64 (↑(BitVec.toNat (BitVec.ofInt 64 (IntKind.wrap u64 (↑(BitVec.toNat (BitVec.ofInt 64 (↑(hgP p a):Int)&&&BitVec.ofInt 64 (↑left:Int))):Int)) &&& ~~~BitVec.ofInt 64 (↑(au p a):Int))):Int)=0:=(beq_iff_eq.mp c1);⟨krf,omg,⟨rfl,(cT _ _ _ _)⟩,⟨rfl,(doT (T:=LT) [6] 7 (fun R _ g=>lS R (au p a) (by simp at * <;> omega) g))⟩,omg,omg,omg,omg,omg,(fun c hc=>match c,hc with|0,_=>krf ),omg,omg,(fun c hc=>match c,hc with|0,_=>krf ),?_⟩,fun c1=>have c1:¬IntKind.wrap u64 (↑(BitVec.toNat (BitVec.ofInt 64 (IntKind.wrap u64 (↑(BitVec.toNat (BitVec.ofInt 64 (↑(hgP p a):Int)&&&BitVec.ofInt 64 (↑left:Int))):Int)) &&& ~~~BitVec.ofInt 64 (↑(au p a):Int))):Int)=0:=(beq_eq_false_iff_ne.mp c1);?_⟩
       ·exfalso
        rename_i c0
        exact absurd (hcd.symm.trans c0) dcd
       ·refine(eJ rfl (aT trivial rfl rfl))
      ·rw[hAK]
       have han:A<n:=by rw[<-hn];exact o4 A k4
       have hO:=fun (R:Res) [Tab LT R] (g:R.σ)=>lY R p n A hr omg omg (fun b hb=>by have:=l8 hr hx (a:=A) omg omg hb;omega) g
       have hcd:=(l7 (p:=p) (a:=A) (g6 hr omg) o3).trans k2
       have hw24:=sC p A
       have hC:=fun (R:Res) [Tab LT R] (s:Nat) (hs:s<2^24) (g:R.σ)=>kc R s hs g
       refine vcR [] (lkL [(14,[4,6,7,8,9])]) (fun _=>[]) (fun (Q:AEx->St R.σ->Prop)=>Q AEx.normal (St.mk [(4,ref 1 0),(6,ref 3 0),(7,ref 4 0),(8,ref 5 0),(9,i6 (↑A:Int))] [cO 2 (nth [i6 p.atoms,ad p.rules]),cO 1 fun (x:Nat)=>ow true 2 n 1,cO (n*1) fun (a:Nat)=>int u64 (↑(hgP p a):Int),cO 1 fun (x:Nat)=>fn 82 0 (nth []) 1 (nth [ref 1 0]),cO 1 fun (x:Nat)=>fz Fz.nil 0 0 fun (x x_1:Nat)=>any,cO 1 fun (x:Nat)=>int u64 (↑left:Int),dead] g)) (?_)
       show Wp _ _ _ 7 _ _ _ _ _
       refine vcR [] (lkL [(15,[4,6,7,8,9,10]),(16,[4,6,7,8,10,46]),(17,[4,6,7,8,10]),(18,[4,6,7,8])]) (lkL [(15,[(2,ROrc.kcall (int u64 (↑(au p A):Int)))]),(17,[(2,ROrc.callN (fn 105 0 (nth []) 1 (nth [ref (List.length [cO 2 (nth [i6 p.atoms,ad p.rules]),cO 1 fun (x:Nat)=>ow true 2 n 1,cO (n*1) fun (a:Nat)=>int u64 (↑(hgP p a):Int),cO 1 fun (x:Nat)=>fn 82 0 (nth []) 1 (nth [ref 1 0]),cO 1 fun (x:Nat)=>fz Fz.nil 0 0 fun (x x_1:Nat)=>any,cO 1 fun (x:Nat)=>int u64 (↑left:Int),dead]) 0])) [] [cO 1 fun (x:Nat)=>int u64 (↑(au p A):Int)] g),(3,ROrc.callS (fz Fz.auto 1 (List.length (ao (au p A)).l) fun (i x:Nat)=>af (ao (au p A)).l i) [(7,cO 1 fun (j:Nat)=>any)] g),(5,ROrc.val (Orc.obj (aM ([]++[au p A])))),(6,ROrc.val (Orc.obj (nth [ow true 9 1 1])))]),(18,[(3,ROrc.val (Orc.obj (nth [int u64 (IntKind.wrap u64 (↑(BitVec.toNat (BitVec.ofInt 64 (↑left:Int) &&& ~~~BitVec.ofInt 64 (↑(au p A):Int))):Int))])))])]) (fun Q=>(fun (u1:List AObj)=>(fun (u2:Bool)=>(fun (u3:List AObj)=>(fun (u4:AV)=>(fun (u5:AV)=>(fun (u6:AV)=>(fun (u7:AObj)=>(fun (u8:AObj)=>(fun (u9:AV)=>(fun (u10:AObj)=>(fun (u11:Bool)=>1<=1/\(true=true/\Does Tryd.prog R 82 [i6 (↑A:Int),ref 1 0] u1 g (ret u9) u1 g)/\u11=true/\1<=1/\(0<=(↑A:Int)/\(↑A:Int)<(↑n:Int))/\A+1<=n*1/\1<=1/\(u2=true->u11=true/\1<=1/\(true=true/\Does Tryd.prog R 77 [u9] u1 g (ret (fn 105 0 (nth []) 1 (nth [ref 7 0]))) u3 g)/\(true=true/\Does Tryd.prog R 75 [fn 105 0 (nth []) 1 (nth [ref 7 0])] u3 g (ret u5) [u10,cO 1 fun x=>ow true 2 n 1,u8,u7,cO 1 fun x=>u6,cO 1 fun x=>int u64 (↑left:Int),dead,cO 1 fun j=>any] g)/\0<1/\24<=aC/\1<=aC/\1<=1/\(∀(c:Nat),c<1->(fz Fz.auto 1 (List.length (ao (List.getD ([]++[au p A]) c 0)).l) fun i x=>af (ao (List.getD ([]++[au p A]) c 0)).l i)=aZ 1 0 (fun (x x_1:Nat)=>any) (fun (i j:Nat)=>al (fun (j:Nat)=>u6) 0 1 (fun (x:Nat)=>u5) (0+i*1+j)) c)/\1<=1/\(∀(c:Nat),c<1->nth [ow true 9 1 1] c=al (fun (x:Nat)=>u6) 0 1 (fun (x:Nat)=>ow true 9 1 1) c)/\1<=1/\1<=1/\(∀(c:Nat),c<1->nth [u4] c=al (fun (x:Nat)=>int u64 (↑left:Int)) 0 1 (fun (x:Nat)=>u4) c)/\Q (AEx.exit 3) (St.mk [(4,ref 1 0),(6,ref 3 0),(7,ref 4 0),(8,ref 5 0)] [u10,cO 1 fun x=>ow true 2 n 1,u8,u7,cO 1 (nth [ow true 9 1 1]),cO 1 (nth [u4]),dead,cO 1 fun j=>any,cO 1 (al (fun (j:Nat)=>u6) 0 1 fun x=>u5),cO 1 fun a=>fz Fz.auto 1 (List.length (ao (List.getD ([]++[au p A]) a 0)).l) fun i x=>af (ao (List.getD ([]++[au p A]) a 0)).l i] g))/\(u2=false->Q AEx.normal (St.mk [(4,ref 1 0),(6,ref 3 0),(7,ref 4 0),(8,ref 5 0),(10,u9),(46,AV.bool u2)] u1 g))) (Tables.follows Tryd.prog.toTables Departure.mixedOrders)) (cO 2 (nth [i6 p.atoms,ad p.rules]))) (int u64 (↑(au p A):Int))) (cO (n*1) fun a=>int u64 (↑(hgP p a):Int))) (cO 1 fun x=>fn 82 0 (nth []) 1 (nth [ref 1 0]))) (fz Fz.nil 0 0 fun x x_1=>any)) (fz Fz.auto 1 (List.length (ao (au p A)).l) fun i x=>af (ao (au p A)).l i)) (int u64 (IntKind.wrap u64 (↑(BitVec.toNat (BitVec.ofInt 64 (↑left:Int) &&& ~~~BitVec.ofInt 64 (↑(au p A):Int))):Int)))) ([cO 2 (nth [i6 p.atoms,ad p.rules]),cO 1 fun x=>ow true 2 n 1,cO (n*1) fun a=>int u64 (↑(hgP p a):Int),cO 1 fun x=>fn 82 0 (nth []) 1 (nth [ref 1 0]),cO 1 fun x=>fz Fz.nil 0 0 fun x x_1=>any,cO 1 fun x=>int u64 (↑left:Int),dead,cO 1 fun x=>int u64 (↑(au p A):Int)])) (IntKind.wrap u64 (↑(BitVec.toNat (BitVec.ofInt 64 (IntKind.wrap u64 (↑(BitVec.toNat (BitVec.ofInt 64 (↑(hgP p A):Int)&&&BitVec.ofInt 64 (↑left:Int))):Int)) &&& ~~~BitVec.ofInt 64 (↑(au p A):Int))):Int)==0)) ([cO 2 (nth [i6 p.atoms,ad p.rules]),cO 1 fun x=>ow true 2 n 1,cO (n*1) fun a=>int u64 (↑(hgP p a):Int),cO 1 fun x=>fn 82 0 (nth []) 1 (nth [ref 1 0]),cO 1 fun x=>fz Fz.nil 0 0 fun x x_1=>any,cO 1 fun x=>int u64 (↑left:Int),dead])) ⟨omg,⟨rfl,(doT (T:=LT) [1,2] 7 (fun R _ g=>hO R g))⟩,krf,omg,omg,omg,omg,fun c1=>have c1:IntKind.wrap u64 (↑(BitVec.toNat (BitVec.ofInt 64 (IntKind.wrap u64 (↑(BitVec.toNat (BitVec.ofInt 64 (↑(hgP p A):Int)&&&BitVec.ofInt 64 (↑left:Int))):Int)) &&& ~~~BitVec.ofInt 64 (↑(au p A):Int))):Int)=0:=(beq_iff_eq.mp c1);⟨krf,omg,⟨rfl,(cT _ _ _ _)⟩,⟨rfl,(doT (T:=LT) [7] 8 (fun R _ g=>hC R (au p A) omg g))⟩,omg,omg,omg,omg,?_,omg,(fun c hc=>match c,hc with|0,_=>krf ),omg,omg,(fun c hc=>match c,hc with|0,_=>krf ),?_⟩,fun c1=>have c1:¬IntKind.wrap u64 (↑(BitVec.toNat (BitVec.ofInt 64 (IntKind.wrap u64 (↑(BitVec.toNat (BitVec.ofInt 64 (↑(hgP p A):Int)&&&BitVec.ofInt 64 (↑left:Int))):Int)) &&& ~~~BitVec.ofInt 64 (↑(au p A):Int))):Int)=0:=(beq_eq_false_iff_ne.mp c1);?_⟩
       ·exact fun c hc=>(l9 (L:=[]) (m:=0) (z:=fun _=>.fz .nil 0 0 (fun _ _=>.any)) (old:=fun _ _=>.any) (by assumption) (fun i hi=>absurd hi (Nat.not_lt_zero i)) hc).trans krf
       ·show Cl R 0 (fH _ _) AEx.normal _
        refine(aO (0+1,[]++[au p A],dK left (au p A)) (toS [0,1,2,3,4,5,9] 10 (hob:=⟨⟨rfl,Nat.le_refl _,fun j hj=>match j,hj with|0,_=>(Bs _)|1,_=>(Bs _) ⟩,⟨rfl,Nat.le_refl _,fun j hj=>match j,hj with|0,_=>(Bs _) ⟩,?_,⟨rfl,Nat.le_refl _,fun j hj=>match j,hj with|0,_=>(Le.fn (fun i hi=>absurd hi omg) (fun i hi=>match i,hi with|0,_=>(Bs _) )) ⟩,⟨rfl,Nat.le_refl _,fun j hj=>match j,hj with|0,_=>(Bs _) ⟩,⟨rfl,Nat.le_refl _,fun j hj=>match j,hj with|0,_=>(Bt ?_) ⟩,⟨rfl,Nat.le_refl _,fun j hj=>match j,hj with|0,_=>(Bs _) ⟩,trivial⟩)) ?_ ?_)
        ·exact⟨rfl,Nat.le_refl _,fun j _=>Bt rfl⟩
        ·show AV.int .u64 _=AV.int .u64 _
         rw[oO o3]
        ·exact hnx.1
        ·exact hnx.2
       ·exfalso
        rename_i c0
        exact absurd (hcd.symm.trans c0) dcd
      ·exact absurd k1 omg
     ·refine s9 33 [34] 7 krf rfl rfl left K o3 [cO 2 (nth [.int .i64 p.atoms,ad p.rules]),cO 1 (fun _=>.ow true 2 n 1),cO (n*1) (onC p),cO 1 (fun _=>.fn 82 0 (nth []) 1 (nth [.ref 1 0])),cO 1 (fun _=>.ow true 6 m 1),cO 1 (fun _=>.int .u64 left),cO (m*1) (aM L)] (fJ rfl rfl) rfl (by exact⟨omg,omg,omg,omg,omg,omg,omg,omg,trivial⟩) (by exact⟨fun j hj=>(match j,hj with|0,_=>trivial|1,_=>trivial),fun _ _=>show 2<7 by omega,fun _ _=>trivial,fun _ _=>⟨trivial,trivial,show 1<7 by omega⟩,fun _ _=>show 6<7 by omega,fun _ _=>trivial,fun _ _=>trivial,trivial⟩) rfl krf [4,6,7,8] (by exact⟨show 1<7 by omega,show 3<7 by omega,show 4<7 by omega,show 5<7 by omega,trivial⟩) (fun k l' hk hkN=>?_) (fun hKN pok l'=>?_) (fun h=>?_)
      ·obtain⟨a,ha⟩:∃a,(ai left).getD k 0=a:=⟨_,rfl⟩
       have ham:a∈ai left:=by rw[<-ha];exact bO _ 0 hkN
       have han:a<n:=by rw[<-hn];exact o4 a ham
       have h3:=k3 k hk
       rw[ha] at h3 ⊢
       have hO:=fun (R:Res) [Tab LT R] (g:R.σ)=>lY R p n a hr omg omg (fun b hb=>by have:=l8 hr hx (a:=a) omg omg hb;omega) g
       have hcd:=(l7 (p:=p) (a:=a) (g6 hr omg) o3).trans h3
       refine vcR [] (lkL [(14,[4,6,7,8,9])]) (fun _=>[]) (fun (Q:AEx->St R.σ->Prop)=>Q AEx.normal (St.mk [(4,ref 1 0),(6,ref 3 0),(7,ref 4 0),(8,ref 5 0),(9,i6 (↑a:Int))] [cO 2 (nth [i6 p.atoms,ad p.rules]),cO 1 fun (x:Nat)=>ow true 2 n 1,cO (n*1) fun (a:Nat)=>int u64 (↑(hgP p a):Int),cO 1 fun (x:Nat)=>fn 82 0 (nth []) 1 (nth [ref 1 0]),cO 1 fun (x:Nat)=>ow true 6 m 1,cO 1 fun (x:Nat)=>int u64 (↑left:Int),cO (m*1) fun (a:Nat)=>fz Fz.auto 1 (List.length (ao (List.getD L a 0)).l) fun (i x:Nat)=>af (ao (List.getD L a 0)).l i] g)) (?_)
       show Wp _ _ _ 7 _ _ _ _ _
       refine vcR [] (lkL [(15,[4,6,7,8,9,10]),(16,[4,6,7,8,10,46]),(17,[4,6,7,8,10]),(18,[4,6,7,8])]) (lkL [(15,[(2,ROrc.kcall (int u64 (↑(au p a):Int)))]),(17,[(2,ROrc.callN (fn 105 0 (nth []) 1 (nth [ref (List.length [cO 2 (nth [i6 p.atoms,ad p.rules]),cO 1 fun (x:Nat)=>ow true 2 n 1,cO (n*1) fun (a:Nat)=>int u64 (↑(hgP p a):Int),cO 1 fun (x:Nat)=>fn 82 0 (nth []) 1 (nth [ref 1 0]),cO 1 fun (x:Nat)=>ow true 6 m 1,cO 1 fun (x:Nat)=>int u64 (↑left:Int),cO (m*1) fun (a:Nat)=>fz Fz.auto 1 (List.length (ao (List.getD L a 0)).l) fun (i x:Nat)=>af (ao (List.getD L a 0)).l i]) 0])) [] [cO 1 fun (x:Nat)=>int u64 (↑(au p a):Int)] g),(3,ROrc.callN (ow true 8 (List.length (ai (au p a))) 1) [(7,cO 1 fun (j:Nat)=>any)] [cO (List.length (ai (au p a))*1) fun (j:Nat)=>i6 (↑(List.getD (ai (au p a)) j 0):Int)] g),(6,ROrc.val (Orc.obj (nth [ow true 10 (m+1) 1])))]),(18,[(3,ROrc.val (Orc.obj (nth [int u64 (IntKind.wrap u64 (↑(BitVec.toNat (BitVec.ofInt 64 (↑left:Int) &&& ~~~BitVec.ofInt 64 (↑(au p a):Int))):Int))])))])]) (fun Q=>(fun (u1:List AObj)=>(fun (u2:List AObj)=>(fun (u3:Bool)=>(fun (u4:AV)=>(fun (u5:AObj)=>(fun (u6:AV)=>(fun (u7:AObj)=>(fun (u8:AObj)=>(fun (u9:AV)=>(fun (u10:AObj)=>(fun (u11:Bool)=>1<=1/\(true=true/\Does Tryd.prog R 82 [i6 (↑a:Int),ref 1 0] u1 g (ret u9) u1 g)/\u11=true/\1<=1/\(0<=(↑a:Int)/\(↑a:Int)<(↑n:Int))/\a+1<=n*1/\1<=1/\(u3=true->u11=true/\1<=1/\(true=true/\Does Tryd.prog R 77 [u9] u1 g (ret (fn 105 0 (nth []) 1 (nth [ref 7 0]))) u2 g)/\(true=true/\Does Tryd.prog R 75 [fn 105 0 (nth []) 1 (nth [ref 7 0])] u2 g (ret u6) [u10,cO 1 fun x=>ow true 2 n 1,u8,u7,cO 1 fun x=>ow true 6 m 1,cO 1 fun x=>int u64 (↑left:Int),cO (m*1) fun a=>fz Fz.auto 1 (List.length (ao (List.getD L a 0)).l) fun i x=>af (ao (List.getD L a 0)).l i,cO 1 fun j=>any,u5] g)/\0<1/\(m+1)*24<=aC/\m+1<=aC/\1<=1/\m*1<=m*1/\1<=1/\(∀(c:Nat),c<1->nth [ow true 10 (m+1) 1] c=al (fun (x:Nat)=>ow true 6 m 1) 0 1 (fun (x:Nat)=>ow true 10 (m+1) 1) c)/\1<=1/\1<=1/\(∀(c:Nat),c<1->nth [u4] c=al (fun (x:Nat)=>int u64 (↑left:Int)) 0 1 (fun (x:Nat)=>u4) c)/\Q (AEx.exit 3) (St.mk [(4,ref 1 0),(6,ref 3 0),(7,ref 4 0),(8,ref 5 0)] [u10,cO 1 fun x=>ow true 2 n 1,u8,u7,cO 1 (nth [ow true 10 (m+1) 1]),cO 1 (nth [u4]),dead,cO 1 fun j=>any,u5,cO 1 (al (fun (j:Nat)=>fz Fz.nil 0 0 fun x x_1=>any) 0 1 fun x=>u6),cO ((m+1)*1) (aZ 1 m (fun (i j:Nat)=>fz Fz.auto 1 (List.length (ao (List.getD L (i*1+j) 0)).l) fun i_1 x=>af (ao (List.getD L (i*1+j) 0)).l i_1) fun i j=>al (fun (j:Nat)=>fz Fz.nil 0 0 fun x x_1=>any) 0 1 (fun (x:Nat)=>u6) (0+i*1+j))] g))/\(u3=false->Q AEx.normal (St.mk [(4,ref 1 0),(6,ref 3 0),(7,ref 4 0),(8,ref 5 0),(10,u9),(46,AV.bool u3)] u1 g))) (Tables.follows Tryd.prog.toTables Departure.mixedOrders)) (cO 2 (nth [i6 p.atoms,ad p.rules]))) (int u64 (↑(au p a):Int))) (cO (n*1) fun a=>int u64 (↑(hgP p a):Int))) (cO 1 fun x=>fn 82 0 (nth []) 1 (nth [ref 1 0]))) (ow true 8 (List.length (ai (au p a))) 1)) (cO (List.length (ai (au p a))*1) fun j=>i6 (↑(List.getD (ai (au p a)) j 0):Int))) (int u64 (IntKind.wrap u64 (↑(BitVec.toNat (BitVec.ofInt 64 (↑left:Int) &&& ~~~BitVec.ofInt 64 (↑(au p a):Int))):Int)))) (IntKind.wrap u64 (↑(BitVec.toNat (BitVec.ofInt 64 (IntKind.wrap u64 (↑(BitVec.toNat (BitVec.ofInt 64 (↑(hgP p a):Int)&&&BitVec.ofInt 64 (↑left:Int))):Int)) &&& ~~~BitVec.ofInt 64 (↑(au p a):Int))):Int)==0)) ([cO 2 (nth [i6 p.atoms,ad p.rules]),cO 1 fun x=>ow true 2 n 1,cO (n*1) fun a=>int u64 (↑(hgP p a):Int),cO 1 fun x=>fn 82 0 (nth []) 1 (nth [ref 1 0]),cO 1 fun x=>ow true 6 m 1,cO 1 fun x=>int u64 (↑left:Int),cO (m*1) fun a=>fz Fz.auto 1 (List.length (ao (List.getD L a 0)).l) fun i x=>af (ao (List.getD L a 0)).l i,cO 1 fun x=>int u64 (↑(au p a):Int)])) ([cO 2 (nth [i6 p.atoms,ad p.rules]),cO 1 fun x=>ow true 2 n 1,cO (n*1) fun a=>int u64 (↑(hgP p a):Int),cO 1 fun x=>fn 82 0 (nth []) 1 (nth [ref 1 0]),cO 1 fun x=>ow true 6 m 1,cO 1 fun x=>int u64 (↑left:Int),cO (m*1) fun a=>fz Fz.auto 1 (List.length (ao (List.getD L a 0)).l) fun i x=>af (ao (List.getD L a 0)).l i])) ⟨omg,⟨rfl,(doT (T:=LT) [1,2] 7 (fun R _ g=>hO R g))⟩,krf,omg,omg,omg,omg,fun c1=>have c1:IntKind.wrap u64 (↑(BitVec.toNat (BitVec.ofInt 64 (IntKind.wrap u64 (↑(BitVec.toNat (BitVec.ofInt 64 (↑(hgP p a):Int)&&&BitVec.ofInt 64 (↑left:Int))):Int)) &&& ~~~BitVec.ofInt 64 (↑(au p a):Int))):Int)=0:=(beq_iff_eq.mp c1);⟨krf,omg,⟨rfl,(cT _ _ _ _)⟩,⟨rfl,(doT (T:=LT) [7] 8 (fun R _ g=>lS R (au p a) (by simp at * <;> omega) g) (e3:=by exact⟨Bu,Bu,Bu,Bu,Bu,Bu,Bu,Bu,Bu,trivial⟩))⟩,omg,omg,omg,omg,omg,omg,(fun c hc=>match c,hc with|0,_=>krf ),omg,omg,(fun c hc=>match c,hc with|0,_=>krf ),?_⟩,fun c1=>have c1:¬IntKind.wrap u64 (↑(BitVec.toNat (BitVec.ofInt 64 (IntKind.wrap u64 (↑(BitVec.toNat (BitVec.ofInt 64 (↑(hgP p a):Int)&&&BitVec.ofInt 64 (↑left:Int))):Int)) &&& ~~~BitVec.ofInt 64 (↑(au p a):Int))):Int)=0:=(beq_eq_false_iff_ne.mp c1);?_⟩
       ·exfalso
        rename_i c0
        exact absurd (hcd.symm.trans c0) dcd
       ·refine(eJ rfl (aT trivial rfl rfl))
      ·rw[hAK]
       have han:A<n:=by rw[<-hn];exact o4 A k4
       have hO:=fun (R:Res) [Tab LT R] (g:R.σ)=>lY R p n A hr omg omg (fun b hb=>by have:=l8 hr hx (a:=A) omg omg hb;omega) g
       have hcd:=(l7 (p:=p) (a:=A) (g6 hr omg) o3).trans k2
       have hw24:=sC p A
       have hC:=fun (R:Res) [Tab LT R] (s:Nat) (hs:s<2^24) (g:R.σ)=>kc R s hs g
       refine vcR [] (lkL [(14,[4,6,7,8,9])]) (fun _=>[]) (fun (Q:AEx->St R.σ->Prop)=>Q AEx.normal (St.mk [(4,ref 1 0),(6,ref 3 0),(7,ref 4 0),(8,ref 5 0),(9,i6 (↑A:Int))] [cO 2 (nth [i6 p.atoms,ad p.rules]),cO 1 fun (x:Nat)=>ow true 2 n 1,cO (n*1) fun (a:Nat)=>int u64 (↑(hgP p a):Int),cO 1 fun (x:Nat)=>fn 82 0 (nth []) 1 (nth [ref 1 0]),cO 1 fun (x:Nat)=>ow true 6 m 1,cO 1 fun (x:Nat)=>int u64 (↑left:Int),cO (m*1) fun (a:Nat)=>fz Fz.auto 1 (List.length (ao (List.getD L a 0)).l) fun (i x:Nat)=>af (ao (List.getD L a 0)).l i,dead] g)) (?_)
       show Wp _ _ _ 8 _ _ _ _ _
       refine vcR [] (lkL [(15,[4,6,7,8,9,10]),(16,[4,6,7,8,10,46]),(17,[4,6,7,8,10]),(18,[4,6,7,8])]) (lkL [(15,[(2,ROrc.kcall (int u64 (↑(au p A):Int)))]),(17,[(2,ROrc.callN (fn 105 0 (nth []) 1 (nth [ref (List.length [cO 2 (nth [i6 p.atoms,ad p.rules]),cO 1 fun (x:Nat)=>ow true 2 n 1,cO (n*1) fun (a:Nat)=>int u64 (↑(hgP p a):Int),cO 1 fun (x:Nat)=>fn 82 0 (nth []) 1 (nth [ref 1 0]),cO 1 fun (x:Nat)=>ow true 6 m 1,cO 1 fun (x:Nat)=>int u64 (↑left:Int),cO (m*1) fun (a:Nat)=>fz Fz.auto 1 (List.length (ao (List.getD L a 0)).l) fun (i x:Nat)=>af (ao (List.getD L a 0)).l i,dead]) 0])) [] [cO 1 fun (x:Nat)=>int u64 (↑(au p A):Int)] g),(3,ROrc.callS (fz Fz.auto 1 (List.length (ao (au p A)).l) fun (i x:Nat)=>af (ao (au p A)).l i) [(8,cO 1 fun (j:Nat)=>any)] g),(5,ROrc.val (Orc.obj (aM (L++[au p A])))),(6,ROrc.val (Orc.obj (nth [ow true 10 (m+1) 1])))]),(18,[(3,ROrc.val (Orc.obj (nth [int u64 (IntKind.wrap u64 (↑(BitVec.toNat (BitVec.ofInt 64 (↑left:Int) &&& ~~~BitVec.ofInt 64 (↑(au p A):Int))):Int))])))])]) (fun Q=>(fun (u1:List AObj)=>(fun (u2:List AObj)=>(fun (u3:Bool)=>(fun (u4:AV)=>(fun (u5:AV)=>(fun (u6:AObj)=>(fun (u7:AObj)=>(fun (u8:AV)=>(fun (u9:AObj)=>1<=1/\(true=true/\Does Tryd.prog R 82 [i6 (↑A:Int),ref 1 0] u1 g (ret u8) u1 g)/\Flw Tryd.prog/\1<=1/\(0<=(↑A:Int)/\(↑A:Int)<(↑n:Int))/\A+1<=n*1/\1<=1/\(u3=true->Flw Tryd.prog/\1<=1/\(true=true/\Does Tryd.prog R 77 [u8] u1 g (ret (fn 105 0 (nth []) 1 (nth [ref 8 0]))) u2 g)/\(true=true/\Does Tryd.prog R 75 [fn 105 0 (nth []) 1 (nth [ref 8 0])] u2 g (ret u5) [u9,cO 1 fun x=>ow true 2 n 1,u7,u6,cO 1 fun x=>ow true 6 m 1,cO 1 fun x=>int u64 (↑left:Int),cO (m*1) fun a=>fz Fz.auto 1 (List.length (ao (List.getD L a 0)).l) fun i x=>af (ao (List.getD L a 0)).l i,dead,cO 1 fun j=>any] g)/\0<1/\(m+1)*24<=aC/\m+1<=aC/\1<=1/\m*1<=m*1/\(∀(c:Nat),c<(m+1)*1->(fz Fz.auto 1 (List.length (ao (List.getD (L++[au p A]) c 0)).l) fun i x=>af (ao (List.getD (L++[au p A]) c 0)).l i)=aZ 1 m (fun (i j:Nat)=>fz Fz.auto 1 (List.length (ao (List.getD L (i*1+j) 0)).l) fun i_1 x=>af (ao (List.getD L (i*1+j) 0)).l i_1) (fun (i j:Nat)=>al (fun (j:Nat)=>fz Fz.nil 0 0 fun x x_1=>any) 0 1 (fun (x:Nat)=>u5) (0+i*1+j)) c)/\1<=1/\(∀(c:Nat),c<1->nth [ow true 10 (m+1) 1] c=al (fun (x:Nat)=>ow true 6 m 1) 0 1 (fun (x:Nat)=>ow true 10 (m+1) 1) c)/\1<=1/\1<=1/\(∀(c:Nat),c<1->nth [u4] c=al (fun (x:Nat)=>int u64 (↑left:Int)) 0 1 (fun (x:Nat)=>u4) c)/\Q (AEx.exit 3) (St.mk [(4,ref 1 0),(6,ref 3 0),(7,ref 4 0),(8,ref 5 0)] [u9,cO 1 fun x=>ow true 2 n 1,u7,u6,cO 1 (nth [ow true 10 (m+1) 1]),cO 1 (nth [u4]),dead,dead,cO 1 fun j=>any,cO 1 (al (fun (j:Nat)=>fz Fz.nil 0 0 fun x x_1=>any) 0 1 fun x=>u5),cO ((m+1)*1) fun a=>fz Fz.auto 1 (List.length (ao (List.getD (L++[au p A]) a 0)).l) fun i x=>af (ao (List.getD (L++[au p A]) a 0)).l i] g))/\(u3=false->Q AEx.normal (St.mk [(4,ref 1 0),(6,ref 3 0),(7,ref 4 0),(8,ref 5 0),(10,u8),(46,AV.bool u3)] u1 g))) (cO 2 (nth [i6 p.atoms,ad p.rules]))) (int u64 (↑(au p A):Int))) (cO (n*1) fun a=>int u64 (↑(hgP p a):Int))) (cO 1 fun x=>fn 82 0 (nth []) 1 (nth [ref 1 0]))) (fz Fz.auto 1 (List.length (ao (au p A)).l) fun i x=>af (ao (au p A)).l i)) (int u64 (IntKind.wrap u64 (↑(BitVec.toNat (BitVec.ofInt 64 (↑left:Int) &&& ~~~BitVec.ofInt 64 (↑(au p A):Int))):Int)))) (IntKind.wrap u64 (↑(BitVec.toNat (BitVec.ofInt 64 (IntKind.wrap u64 (↑(BitVec.toNat (BitVec.ofInt 64 (↑(hgP p A):Int)&&&BitVec.ofInt 64 (↑left:Int))):Int)) &&& ~~~BitVec.ofInt 64 (↑(au p A):Int))):Int)==0)) ([cO 2 (nth [i6 p.atoms,ad p.rules]),cO 1 fun x=>ow true 2 n 1,cO (n*1) fun a=>int u64 (↑(hgP p a):Int),cO 1 fun x=>fn 82 0 (nth []) 1 (nth [ref 1 0]),cO 1 fun x=>ow true 6 m 1,cO 1 fun x=>int u64 (↑left:Int),cO (m*1) fun a=>fz Fz.auto 1 (List.length (ao (List.getD L a 0)).l) fun i x=>af (ao (List.getD L a 0)).l i,dead,cO 1 fun x=>int u64 (↑(au p A):Int)])) ([cO 2 (nth [i6 p.atoms,ad p.rules]),cO 1 fun x=>ow true 2 n 1,cO (n*1) fun a=>int u64 (↑(hgP p a):Int),cO 1 fun x=>fn 82 0 (nth []) 1 (nth [ref 1 0]),cO 1 fun x=>ow true 6 m 1,cO 1 fun x=>int u64 (↑left:Int),cO (m*1) fun a=>fz Fz.auto 1 (List.length (ao (List.getD L a 0)).l) fun i x=>af (ao (List.getD L a 0)).l i,dead])) ⟨omg,⟨rfl,(doT (T:=LT) [1,2] 8 (fun R _ g=>hO R g))⟩,krf,omg,omg,omg,omg,fun c1=>have c1:IntKind.wrap u64 (↑(BitVec.toNat (BitVec.ofInt 64 (IntKind.wrap u64 (↑(BitVec.toNat (BitVec.ofInt 64 (↑(hgP p A):Int)&&&BitVec.ofInt 64 (↑left:Int))):Int)) &&& ~~~BitVec.ofInt 64 (↑(au p A):Int))):Int)=0:=(beq_iff_eq.mp c1);⟨krf,omg,⟨rfl,(cT _ _ _ _)⟩,⟨rfl,(doT (T:=LT) [8] 9 (fun R _ g=>hC R (au p A) omg g))⟩,omg,omg,omg,omg,omg,?_,omg,(fun c hc=>match c,hc with|0,_=>krf ),omg,omg,(fun c hc=>match c,hc with|0,_=>krf ),?_⟩,fun c1=>have c1:¬IntKind.wrap u64 (↑(BitVec.toNat (BitVec.ofInt 64 (IntKind.wrap u64 (↑(BitVec.toNat (BitVec.ofInt 64 (↑(hgP p A):Int)&&&BitVec.ofInt 64 (↑left:Int))):Int)) &&& ~~~BitVec.ofInt 64 (↑(au p A):Int))):Int)=0:=(beq_eq_false_iff_ne.mp c1);?_⟩
       ·exact fun c hc=>(l9 (L:=L) (m:=m) (z:=fun _=>.fz .nil 0 0 (fun _ _=>.any)) (old:=fun i j=>aM L (i*1+j)) (by assumption) (fun i hi=>by show aM L (i*1+0)=aM L i;rw[show i*1+0=i by omega]) hc).trans krf
       ·show Cl R 0 (fH _ _) AEx.normal _
        refine(aO (m+1,L++[au p A],dK left (au p A)) (toS [0,1,2,3,4,5,10] 11 (hob:=⟨⟨rfl,Nat.le_refl _,fun j hj=>match j,hj with|0,_=>(Bs _)|1,_=>(Bs _) ⟩,⟨rfl,Nat.le_refl _,fun j hj=>match j,hj with|0,_=>(Bs _) ⟩,?_,⟨rfl,Nat.le_refl _,fun j hj=>match j,hj with|0,_=>(Le.fn (fun i hi=>absurd hi omg) (fun i hi=>match i,hi with|0,_=>(Bs _) )) ⟩,⟨rfl,Nat.le_refl _,fun j hj=>match j,hj with|0,_=>(Bs _) ⟩,⟨rfl,Nat.le_refl _,fun j hj=>match j,hj with|0,_=>(Bt ?_) ⟩,?_,trivial⟩)) ?_ ?_)
        ·exact⟨rfl,Nat.le_refl _,fun j _=>Bt rfl⟩
        ·show AV.int .u64 _=AV.int .u64 _
         rw[oO o3]
        ·exact⟨rfl,Nat.le_refl _,fun j _=>Bt rfl⟩
        ·exact hnx.1
        ·exact hnx.2
       ·exfalso
        rename_i c0
        exact absurd (hcd.symm.trans c0) dcd
      ·exact absurd k1 omg
    ·have hl0:left=0:=by omega
     subst hl0
     have hLo:L=cy p:=by
      obtain⟨f,f1,f2⟩:=o5
      obtain⟨f,rfl⟩:∃k,f=k+1:=⟨f-1,omg⟩
      rw[<-f2]
      show L=L++(if (0:Nat)=0 then[] else _)
      rw[if_pos rfl,List.append_nil]
     subst hLo
     subst o1
     refine⟨_,BE _,vcR [] (lkL [(19,[2,3])]) (fun _=>[]) (fun Q=>1<=1/\Q AEx.ret (St.mk [(2,ow true 6 (List.length (cy p)) 1),(3,i6 0)] [cO 2 (nth [i6 p.atoms,ad p.rules]),cO 1 fun x=>ow true 2 n 1,cO (n*1) fun a=>int u64 (↑(hgP p a):Int),cO 1 fun x=>fn 82 0 (nth []) 1 (nth [ref 1 0]),cO 1 fun x=>ow true 6 (List.length (cy p)) 1,cO 1 fun x=>int u64 (↑0:Int),cO (List.length (cy p)*1) fun a=>fz Fz.auto 1 (List.length (ao (List.getD (cy p) a 0)).l) fun i x=>af (ao (List.getD (cy p) a 0)).l i] g)) ⟨omg,?_⟩⟩
     show bC Tryd.prog R 0 _ _ _ _ .ret _
     refine ff (.tup 2 (nth [.ow true 6 (cy p).length 1,.int .i64 0])) _ rfl trivial (jS 0 [(0,.tup 2 (nth [dw (cy p).length (fun i=>ao ((cy p).getD i 0)),.int .i64 0]))] (Nat.le_refl _) (Nat.zero_le _) (fun i hi=>absurd hi (Nat.not_lt_zero i)) ⟨ay.tup (fun j hj=>?_),trivial⟩)
     match j,hj with
     |0,_=>exact ay.le (ay.ow (o:=6) (N:=(cy p).length*1) (c:=aM (cy p)) (get:=aM (cy p)) (fr:=false) rfl (Nat.zero_le _) (Nat.le_refl _) dcd (fun j _=>Bz (fO _ _))) (By rfl (fun i j hi hj=>by
       show aM (cy p) (i*1+j)=_
       rw[show i*1+j=i by omega]
       rfl))
     |1,_=>exact Bz trivial
end Go.Avm.Pack
namespace Go.Avm.Pack
open Go Go.Avm Go.Proofs
open Go.IntKind (i64 u64)
open Go.Avm.AV (int bool any fz fp sl ow ref fn ifc val agg tup)
open Go.Avm.AObj (cells dead)
open Go.Avm.Oc (ret)
set_option maxRecDepth 4000
theorem mb (R:Res)(v:Nat->Int)(n:Int)(x:Int)(h:0<=n/\n<=24)(g:R.σ):Does Tryd.prog R 76 [.ref 0 2,.int .i64 n,.int .i64 x] [cO 27 (aN v)] g (.ret (.int .u64 (aG v x n.toNat))) [cO 27 (aN v)] g:=by
 obtain⟨n,rfl⟩:∃m:Nat,n=m:=⟨n.toNat,omg⟩
 rw[Int.toNat_natCast]
 refine spW (nt:=26) (rs:=[.tmp 6]) (k0:=1) ?_
 refine vcR [] (lkL [(0,[0,1,2]),(1,[0,1,2,7]),(2,[0,2,7,9,10])]) (fun _=>[]) (fun (Q:AEx->St R.σ->Prop)=>WpC Tryd.prog R 26 1 76 [1,1,0,1,0] Q [Kont.blk 0,Kont.seq [1,1,1]] (St.mk [(0,ref 0 2),(2,i6 x),(7,int u64 0),(9,i6 (↑n:Int)),(10,i6 0)] [cO 27 (aN v)] g)) (?_)
 refine(a9 krf (fun (k:Nat)=>⟨[(0,ref 0 2),(2,i6 x),(7,.int .u64 (aG v x k)),(9,i6 (n:Int)),(10,.int .i64 k)],[cO 27 (aN v)],g⟩) (fun (k:Nat)=>(k<=n)) (fun (k:Nat)=>(n-k)) 0 (aT ⟨Bs _,Bs _,(Bt krf),Bs _,(Bt krf),trivial⟩ rfl rfl) ?_ (fun k hi=>?_))
 ·omega
 ·refine vcR [] (lkL [(3,[0,2,7,9,10,11]),(4,[0,2,7,8,9,10]),(5,[0,2,7,8,9,10,19]),(6,[0,2,7,9,10]),(7,[0,2,7,9,10])]) (lkL [(5,[(4,ROrc.kop (i6 (v k)))]),(6,[(2,ROrc.pcall (int u64 (↑(2^k):Int)))])]) (fun Q=>(fun (u1:Int)=>(fun (u2:Int)=>(fun (u3:List AObj)=>(fun (u4:Int)=>(decide (u1<u2)=true->(0<=u1/\u1<(↑24:Int))/\OpOk Tryd.prog R (Oper.mk (some 17) (Op.load 43 (Operand.tmp 16)) 43 "table.go:67" #[Edge.mk 3 Ground.data] none) (evO [Row.mk (some 16) none (ref 0 (k+2)) false (some []) [],Row.mk (some 15) none (ref 0 2) false (some []) [],Row.mk (some 14) none (i6 u1) false (some []) [],Row.mk (some 13) none (ref 0 2) false (some []) []] [(0,ref 0 2),(2,i6 x),(7,int u64 u4),(8,i6 u1),(9,i6 u2),(10,i6 u1)] []) u3 g (i6 (v k)) u3 g/\((v k==x)=true->(∀(hp:List AObj) (g:R.σ),true=true/\Does Tryd.prog R 79 [i6 u1] hp g (ret (int u64 (↑(2^k):Int))) hp g)/\(-9223372036854775808<=u1+1/\u1+1<=9223372036854775807)/\Q AEx.normal (St.mk [(0,ref 0 2),(2,i6 x),(7,int u64 (IntKind.wrap u64 (↑(BitVec.toNat (BitVec.ofInt 64 u4|||BitVec.ofInt 64 (↑(2^k):Int))):Int))),(9,i6 u2),(10,i6 (u1+1))] u3 g))/\((v k==x)=false->(-9223372036854775808<=u1+1/\u1+1<=9223372036854775807)/\Q AEx.normal (St.mk [(0,ref 0 2),(2,i6 x),(7,int u64 u4),(9,i6 u2),(10,i6 (u1+1))] u3 g)))/\(decide (u1<u2)=false->Q (AEx.exit 0) (St.mk [(0,ref 0 2),(2,i6 x),(7,int u64 u4),(9,i6 u2),(10,i6 u1),(11,AV.bool (decide (u1<u2)))] u3 g))) ((↑(aG v x k):Int))) ([cO 27 (aN v)])) ((↑n:Int))) ((↑k:Int))) ⟨fun c1=>have c1:(↑k:Int)<(↑n:Int):=(of_decide_eq_true c1);⟨omg,?_,fun c2=>have c2:v k=x:=(beq_iff_eq.mp c2);⟨(fun _ _=>⟨rfl,(gS _ _ omg _ _)⟩),omg,?_⟩,fun c2=>have c2:¬v k=x:=(beq_eq_false_iff_ne.mp c2);⟨omg,?_⟩⟩,fun c1=>have c1:¬(↑k:Int)<(↑n:Int):=(of_decide_eq_false c1);?_⟩
  ·exact d6 rfl rfl krf rfl (by show _+1<=27;omega) (oH omg omg)
  ·refine(aO (k+1) (aT ⟨Bs _,Bs _,(Bt ?_),Bs _,(Bt krf),trivial⟩ rfl rfl) ?_ ?_)
   ·show AV.int .u64 _=AV.int .u64 _
    congr 1
    rw[iP,if_pos c2]
    exact Tb.u64_or (bI (Nat.lt_of_lt_of_le (lG v x k) (Nat.pow_le_pow_right dcd omg))) (bI (Nat.pow_lt_pow_right dcd omg))
   ·omega
   ·omega
  ·refine(aO (k+1) (aT ⟨Bs _,Bs _,(Bt ?_),Bs _,(Bt krf),trivial⟩ rfl rfl) ?_ ?_)
   ·show AV.int .u64 _=AV.int .u64 _
    rw[iP,if_neg c2]
   ·omega
   ·omega
  ·have hk:k=n:=by omega
   subst hk
   refine⟨_,BE _,vcR [] (lkL [(8,[6])]) (fun _=>[]) (fun (Q:AEx->St R.σ->Prop)=>Q AEx.ret (St.mk [(6,int u64 (↑(aG v x k):Int))] [cO 27 (aN v)] g)) (?_)⟩
   refine(aq (aP _ _ rfl trivial rfl rfl rfl) (Bs _))
def stF (p:Prg)(most:Nat):List Int->Nat->List Nat->List Nat
 |[],s,out=>if out.length=most then out else if fol p.rules.l s=s then out++[s] else out
 |a::r,s,out=>if out.length=most then out else stF p most r (s|||2^a.toNat) (stF p most r s out)
theorem eQ {p:Prg}{most:Nat}:∀{r:List Int} {s:Nat} {out:List Nat},out.length<=most->out.length<=(stF p most r s out).length/\(stF p most r s out).length<=most/\((stF p most r s out).length=out.length->stF p most r s out=out)
 |[],s,out,h=>by
  show out.length<=(if out.length=most then out else if fol p.rules.l s=s then out++[s] else out).length/\_
  show _/\(if out.length=most then out else if fol p.rules.l s=s then out++[s] else out).length<=most/\((if out.length=most then out else if fol p.rules.l s=s then out++[s] else out).length=out.length->(if out.length=most then out else if fol p.rules.l s=s then out++[s] else out)=out)
  split
  ·exact⟨Nat.le_refl _,h,fun _=>rfl⟩
  ·split
   ·rw[List.length_append,List.length_singleton]
    exact⟨omg,omg,fun h=>omg⟩
   ·exact⟨Nat.le_refl _,h,fun _=>rfl⟩
 |a::r,s,out,h=>by
  obtain⟨a1,a2,a3⟩:=eQ (p:=p) (most:=most) (r:=r) (s:=s) (out:=out) h
  obtain⟨b1,b2,b3⟩:=eQ (p:=p) (most:=most) (r:=r) (s:=s|||2^a.toNat) (out:=stF p most r s out) a2
  show out.length<=(if out.length=most then out else stF p most r (s|||2^a.toNat) (stF p most r s out)).length/\(if out.length=most then out else stF p most r (s|||2^a.toNat) (stF p most r s out)).length<=most/\((if out.length=most then out else stF p most r (s|||2^a.toNat) (stF p most r s out)).length=out.length->(if out.length=most then out else stF p most r (s|||2^a.toNat) (stF p most r s out))=out)
  split
  ·exact⟨Nat.le_refl _,h,fun _=>rfl⟩
  ·exact⟨omg,b2,fun h=>by
    have h1:=a3 omg
    rw[h1] at b3 b1 h ⊢
    exact b3 h⟩
theorem Ab {p:Prg}{most:Nat}{r:List Int}{s:Nat}{out:List Nat}(h:out.length<=most)(h0:out≠[]):stF p most r s out≠[]:=fun e=>by
 have:=(eQ (p:=p) (r:=r) (s:=s) h).1
 rw[e] at this
 exact h0 (List.length_eq_zero_iff.1 (Nat.le_zero.1 this))
structure FromC (p:Prg)(most:Nat)(O:KL Int)(r:List Int)(k:Int):Prop where
 nn:∀(R:Res) [Tab LT R] (s:Nat) (g:R.σ),s<2^24->stF p most r s []=[]->Does Tryd.prog R 78 [.int .i64 k,.int .u64 s,.ref 0 0,.ref 1 0,.ref 2 0,.ref 3 0,.ref 4 0] [cO 1 (fun _=>.fz .nil 0 0 (fun _ _=>.any)),cO 1 (fun _=>.int .i64 most),cO 1 (fun _=>ah O),cO 1 (fun _=>.fn 78 0 (nth []) 5 (nth [.ref 0 0,.ref 1 0,.ref 2 0,.ref 3 0,.ref 4 0])),cO 2 (nth [.int .i64 p.atoms,ad p.rules])] g (.ret (.tup 0 (nth []))) [cO 1 (fun _=>.fz .nil 0 0 (fun _ _=>.any)),cO 1 (fun _=>.int .i64 most),cO 1 (fun _=>ah O),cO 1 (fun _=>.fn 78 0 (nth []) 5 (nth [.ref 0 0,.ref 1 0,.ref 2 0,.ref 3 0,.ref 4 0])),cO 2 (nth [.int .i64 p.atoms,ad p.rules])] g
 nw:∀(R:Res) [Tab LT R] (s m:Nat) (L:List Nat) (g:R.σ),s<2^24->stF p most r s []=L->L≠[]->m=L.length->Does Tryd.prog R 78 [.int .i64 k,.int .u64 s,.ref 0 0,.ref 1 0,.ref 2 0,.ref 3 0,.ref 4 0] [cO 1 (fun _=>.fz .nil 0 0 (fun _ _=>.any)),cO 1 (fun _=>.int .i64 most),cO 1 (fun _=>ah O),cO 1 (fun _=>.fn 78 0 (nth []) 5 (nth [.ref 0 0,.ref 1 0,.ref 2 0,.ref 3 0,.ref 4 0])),cO 2 (nth [.int .i64 p.atoms,ad p.rules])] g (.ret (.tup 0 (nth []))) [cO 1 (fun _=>.ow true 5 m 1),cO 1 (fun _=>.int .i64 most),cO 1 (fun _=>ah O),cO 1 (fun _=>.fn 78 0 (nth []) 5 (nth [.ref 0 0,.ref 1 0,.ref 2 0,.ref 3 0,.ref 4 0])),cO 2 (nth [.int .i64 p.atoms,ad p.rules]),cO (m*1) (aM L)] g
 on:∀(R:Res) [Tab LT R] (s m:Nat) (L:List Nat) (g:R.σ),s<2^24->L≠[]->m=L.length->m<=most->stF p most r s L=L->Does Tryd.prog R 78 [.int .i64 k,.int .u64 s,.ref 0 0,.ref 1 0,.ref 2 0,.ref 3 0,.ref 4 0] [cO 1 (fun _=>.ow true 5 m 1),cO 1 (fun _=>.int .i64 most),cO 1 (fun _=>ah O),cO 1 (fun _=>.fn 78 0 (nth []) 5 (nth [.ref 0 0,.ref 1 0,.ref 2 0,.ref 3 0,.ref 4 0])),cO 2 (nth [.int .i64 p.atoms,ad p.rules]),cO (m*1) (aM L)] g (.ret (.tup 0 (nth []))) [cO 1 (fun _=>.ow true 5 m 1),cO 1 (fun _=>.int .i64 most),cO 1 (fun _=>ah O),cO 1 (fun _=>.fn 78 0 (nth []) 5 (nth [.ref 0 0,.ref 1 0,.ref 2 0,.ref 3 0,.ref 4 0])),cO 2 (nth [.int .i64 p.atoms,ad p.rules]),cO (m*1) (aM L)] g
 ow:∀(R:Res) [Tab LT R] (s m m':Nat) (L L':List Nat) (g:R.σ),s<2^24->L≠[]->m=L.length->m<=most->stF p most r s L=L'->m'=L'.length->m≠m'->Does Tryd.prog R 78 [.int .i64 k,.int .u64 s,.ref 0 0,.ref 1 0,.ref 2 0,.ref 3 0,.ref 4 0] [cO 1 (fun _=>.ow true 5 m 1),cO 1 (fun _=>.int .i64 most),cO 1 (fun _=>ah O),cO 1 (fun _=>.fn 78 0 (nth []) 5 (nth [.ref 0 0,.ref 1 0,.ref 2 0,.ref 3 0,.ref 4 0])),cO 2 (nth [.int .i64 p.atoms,ad p.rules]),cO (m*1) (aM L)] g (.ret (.tup 0 (nth []))) [cO 1 (fun _=>.ow true 6 m' 1),cO 1 (fun _=>.int .i64 most),cO 1 (fun _=>ah O),cO 1 (fun _=>.fn 78 0 (nth []) 5 (nth [.ref 0 0,.ref 1 0,.ref 2 0,.ref 3 0,.ref 4 0])),cO 2 (nth [.int .i64 p.atoms,ad p.rules]),.dead,cO (m'*1) (aM L')] g
theorem mc {P:Program}{R:Res}{k0:Nat}{rs:List ResultVar}{x:AV}{hp':List AObj}{g':R.σ}{s:St R.σ}(v:AV)(ob:List Prop)(h:eo (ax P) s rs=some (v,ob))(hob:ap ob)(ht:To R k0 ⟨[(0,v)],s.hp,s.g⟩ ⟨[(0,x)],hp',g'⟩):bC P R k0 rs (.ret x) hp' g' .normal s:=
 ⟨v,ob,x,_,h,hob,rfl,ht,rfl,rfl,rfl⟩
theorem md {f:Nat->Nat}{g:FuncId}(h0:f 0=0:=by rfl)(h1:f 1=1:=by rfl)(h2:f 2=2:=by rfl)(h3:f 3=3:=by rfl)(h4:f 4=4:=by rfl):Le (.fn g 0 (nth []) 5 (nth [.ref 0 0,.ref 1 0,.ref 2 0,.ref 3 0,.ref 4 0])) (aK f (.fn g 0 (nth []) 5 (nth [.ref 0 0,.ref 1 0,.ref 2 0,.ref 3 0,.ref 4 0]))):=
 Le.fn (fun i hi=>absurd hi (Nat.not_lt_zero i)) (fun i hi=>match i,hi with
  |0,_=>Bt (by show AV.ref 0 0=.ref (f 0) 0;rw[h0])
  |1,_=>Bt (by show AV.ref 1 0=.ref (f 1) 0;rw[h1])
  |2,_=>Bt (by show AV.ref 2 0=.ref (f 2) 0;rw[h2])
  |3,_=>Bt (by show AV.ref 3 0=.ref (f 3) 0;rw[h3])
  |4,_=>Bt (by show AV.ref 4 0=.ref (f 4) 0;rw[h4]))
theorem Ac {p:Prg}{most:Nat}{O:KL Int}(hm:1<=most/\most<=100)(hO:O.l.length<=10)(hl:p.rules.l.length<1000000)(hr:∀r,r∈p.rules.l->aE r):FromC p most O [] O.l.length:=by
 have hroom:aC=140737488355328:=rfl
 have hb:decide ((O.l.length:Int)<(O.l.length:Int))=false:=decide_eq_false omg
 have hz:(((0:Nat):Int)==(most:Int))=false:=by rw[beq_eq_false_iff_ne];omega
 have e0:∀s L,stF p most [] s L=if L.length=most then L else if fol p.rules.l s=s then L++[s] else L:=fun s L=>rfl
 have hC:=fun (R:Res) [Tab LT R] (s:Nat) (hs:s<2^24) (g:R.σ)=>kc R s hs g
 constructor
 ·intro R _ s g hs h
  rw[e0,if_neg (by show ¬0=most;omega)] at h
  have hf:((fol p.rules.l s:Int)==(s:Int))=false:=by
   rw[beq_eq_false_iff_ne]
   intro e
   rw[if_pos omg] at h
   cases h
  refine spW (nt:=47) (rs:=[]) (k0:=5) ?_
  refine vcR [[0,1,0],[0,1,1,1,0],[0,1,1,1,1,1,0]] (lkL [(0,[0,1,2,4,5,6,9]),(1,[0,1,2,4,5,6,14]),(4,[1,2,35])]) (lkL [(4,[(2,ROrc.pcall (int u64 (↑(fol p.rules.l s):Int)))])]) (fun Q=>(fun (u1:List AObj)=>(fun (u2:Int)=>(fun (u3:Bool)=>(fun (u4:AEx->St R.σ->Prop)=>(fun (u5:AV)=>(fun (u6:Bool)=>1<=1/\1<=1/\(u6=true->Wp Tryd.prog R 47 5 Rd.top (aw Tryd.prog 78) [0,1,0] u4 (St.mk [(0,i6 u2),(1,u5),(2,ref 0 0),(4,ref 2 0),(5,ref 3 0),(6,ref 4 0),(9,AV.bool u6)] u1 g))/\(u6=false->1<=1/\(decide (u2<u2)=true->Wp Tryd.prog R 47 5 Rd.top (aw Tryd.prog 78) [0,1,1,1,0] u4 (St.mk [(0,i6 u2),(1,u5),(2,ref 0 0),(4,ref 2 0),(5,ref 3 0),(6,ref 4 0),(14,AV.bool (decide (u2<u2)))] u1 g))/\(decide (u2<u2)=false->2<=2/\(∀(hp:List AObj) (g:R.σ),true=true/\Does Tryd.prog R 80 [av p,u5] hp g (ret (int u64 (↑(fol p.rules.l s):Int))) hp g)/\(u3=true->Wp Tryd.prog R 47 5 Rd.top (aw Tryd.prog 78) [0,1,1,1,1,1,0] u4 (St.mk [(1,u5),(2,ref 0 0),(35,AV.bool u3)] u1 g))/\(u3=false->Q AEx.normal (St.mk [(1,u5),(2,ref 0 0),(35,AV.bool u3)] u1 g))))) ((↑0:Int)==(↑most:Int))) (int u64 (↑s:Int))) (aS Tryd.prog R 47 5 Rd.top (aw Tryd.prog 78) Q [Kont.blk 0])) ((↑(fol p.rules.l s):Int)==(↑s:Int))) ((↑(List.length O.l):Int))) ([cO 1 fun x=>fz Fz.nil 0 0 fun x x_1=>any,cO 1 fun x=>i6 (↑most:Int),cO 1 fun x=>fz O.2 1 (List.length O.l) fun i x=>af O.l i,cO 1 fun x=>fn 78 0 (nth []) 5 (nth [ref 0 0,ref 1 0,ref 2 0,ref 3 0,ref 4 0]),cO 2 (nth [i6 p.atoms,ad p.rules])])) ⟨omg,omg,fun hcc=>(nomatch (hz.symm.trans hcc)),fun _=>⟨omg,fun hcc=>(nomatch (hb.symm.trans hcc)),fun _=>⟨omg,(fun _ _=>⟨rfl,(lH _ _ _ _ omg omg omg _)⟩),fun hcc=>(nomatch (hf.symm.trans hcc)),fun _=>?_⟩⟩⟩
  refine(aq (aP _ _ rfl trivial rfl rfl rfl) (Bs _))
 ·intro R _ s m L g hs h hL hmL
  rw[e0,if_neg (by show ¬0=most;omega)] at h
  have hf:((fol p.rules.l s:Int)==(s:Int))=true:=by
   rw[beq_iff_eq]
   by_cases e:fol p.rules.l s=s
   ·omega
   ·rw[if_neg e] at h
    exact absurd h.symm hL
  rw[if_pos (by rw[beq_iff_eq] at hf;omega)] at h
  subst h
  subst hmL
  refine spW (nt:=47) (rs:=[]) (k0:=5) ?_
  refine vcR [[0,1,0],[0,1,1,1,0],[0,1,1,1,1,1,1]] (lkL [(0,[0,1,2,4,5,6,9]),(1,[0,1,2,4,5,6,14]),(4,[1,2,35])]) (lkL [(4,[(2,ROrc.pcall (int u64 (↑(fol p.rules.l s):Int)))]),(5,[(2,ROrc.callN (fn 105 0 (nth []) 1 (nth [ref (List.length [cO 1 fun (x:Nat)=>fz Fz.nil 0 0 fun (x x_1:Nat)=>any,cO 1 fun (x:Nat)=>i6 (↑most:Int),cO 1 fun (x:Nat)=>fz O.2 1 (List.length O.l) fun (i x:Nat)=>af O.l i,cO 1 fun (x:Nat)=>fn 78 0 (nth []) 5 (nth [ref 0 0,ref 1 0,ref 2 0,ref 3 0,ref 4 0]),cO 2 (nth [i6 p.atoms,ad p.rules])]) 0])) [] [cO 1 fun (x:Nat)=>int u64 (↑s:Int)] g),(3,ROrc.callS (fz Fz.auto 1 (List.length (ao s).l) fun (i x:Nat)=>af (ao s).l i) [(5,cO 1 fun (j:Nat)=>any)] g),(5,ROrc.val (Orc.obj (aM ([]++[s])))),(6,ROrc.val (Orc.obj (nth [ow true 7 1 1])))])]) (fun Q=>(fun (u1:List AObj)=>(fun (u2:List AObj)=>(fun (u3:Int)=>(fun (u4:AV)=>(fun (u5:AV)=>(fun (u6:AEx->St R.σ->Prop)=>(fun (u7:AObj)=>(fun (u8:AObj)=>(fun (u9:Bool)=>(fun (u10:AV)=>(fun (u11:Bool)=>(fun (u12:AObj)=>(fun (u13:AObj)=>1<=1/\1<=1/\(u11=true->Wp Tryd.prog R 47 5 Rd.top (aw Tryd.prog 78) [0,1,0] u6 (St.mk [(0,i6 u3),(1,u10),(2,ref 0 0),(4,ref 2 0),(5,ref 3 0),(6,ref 4 0),(9,AV.bool u11)] u1 g))/\(u11=false->1<=1/\(decide (u3<u3)=true->Wp Tryd.prog R 47 5 Rd.top (aw Tryd.prog 78) [0,1,1,1,0] u6 (St.mk [(0,i6 u3),(1,u10),(2,ref 0 0),(4,ref 2 0),(5,ref 3 0),(6,ref 4 0),(14,AV.bool (decide (u3<u3)))] u1 g))/\(decide (u3<u3)=false->2<=2/\(∀(hp:List AObj) (g:R.σ),true=true/\Does Tryd.prog R 80 [av p,u10] hp g (ret (int u64 (↑(fol p.rules.l s):Int))) hp g)/\(u9=true->Flw Tryd.prog/\1<=1/\(true=true/\Does Tryd.prog R 77 [u10] u1 g (ret (fn 105 0 (nth []) 1 (nth [ref 5 0]))) u2 g)/\(true=true/\Does Tryd.prog R 75 [fn 105 0 (nth []) 1 (nth [ref 5 0])] u2 g (ret u4) [cO 1 fun x=>u5,u13,u8,u7,u12,cO 1 fun j=>any] g)/\0<1/\24<=aC/\1<=aC/\1<=1/\(∀(c:Nat),c<1->(fz Fz.auto 1 (List.length (ao (List.getD ([]++[s]) c 0)).l) fun i x=>af (ao (List.getD ([]++[s]) c 0)).l i)=aZ 1 0 (fun (x x_1:Nat)=>any) (fun (i j:Nat)=>al (fun (j:Nat)=>u5) 0 1 (fun (x:Nat)=>u4) (0+i*1+j)) c)/\1<=1/\(∀(c:Nat),c<1->nth [ow true 7 1 1] c=al (fun (x:Nat)=>u5) 0 1 (fun (x:Nat)=>ow true 7 1 1) c)/\Q AEx.normal (St.mk [] [cO 1 (nth [ow true 7 1 1]),u13,u8,u7,u12,cO 1 fun j=>any,cO 1 (al (fun (j:Nat)=>u5) 0 1 fun x=>u4),cO 1 fun a=>fz Fz.auto 1 (List.length (ao (List.getD ([]++[s]) a 0)).l) fun i x=>af (ao (List.getD ([]++[s]) a 0)).l i] g))/\(u9=false->Wp Tryd.prog R 47 5 Rd.top (aw Tryd.prog 78) [0,1,1,1,1,1,1] u6 (St.mk [(1,u10),(2,ref 0 0),(35,AV.bool u9)] u1 g))))) (cO 1 fun x=>i6 (↑most:Int))) (cO 2 (nth [i6 p.atoms,ad p.rules]))) ((↑0:Int)==(↑most:Int))) (int u64 (↑s:Int))) ((↑(fol p.rules.l s):Int)==(↑s:Int))) (cO 1 fun x=>fz O.2 1 (List.length O.l) fun i x=>af O.l i)) (cO 1 fun x=>fn 78 0 (nth []) 5 (nth [ref 0 0,ref 1 0,ref 2 0,ref 3 0,ref 4 0]))) (aS Tryd.prog R 47 5 Rd.top (aw Tryd.prog 78) Q [Kont.blk 0])) (fz Fz.nil 0 0 fun x x_1=>any)) (fz Fz.auto 1 (List.length (ao s).l) fun i x=>af (ao s).l i)) ((↑(List.length O.l):Int))) ([cO 1 fun x=>fz Fz.nil 0 0 fun x x_1=>any,cO 1 fun x=>i6 (↑most:Int),cO 1 fun x=>fz O.2 1 (List.length O.l) fun i x=>af O.l i,cO 1 fun x=>fn 78 0 (nth []) 5 (nth [ref 0 0,ref 1 0,ref 2 0,ref 3 0,ref 4 0]),cO 2 (nth [i6 p.atoms,ad p.rules]),cO 1 fun x=>int u64 (↑s:Int)])) ([cO 1 fun x=>fz Fz.nil 0 0 fun x x_1=>any,cO 1 fun x=>i6 (↑most:Int),cO 1 fun x=>fz O.2 1 (List.length O.l) fun i x=>af O.l i,cO 1 fun x=>fn 78 0 (nth []) 5 (nth [ref 0 0,ref 1 0,ref 2 0,ref 3 0,ref 4 0]),cO 2 (nth [i6 p.atoms,ad p.rules])])) ⟨omg,omg,fun hcc=>(nomatch (hz.symm.trans hcc)),fun _=>⟨omg,fun hcc=>(nomatch (hb.symm.trans hcc)),fun _=>⟨omg,(fun _ _=>⟨rfl,(lH _ _ _ _ omg omg omg _)⟩),fun _=>⟨krf,omg,⟨rfl,(cT _ _ _ _)⟩,⟨rfl,(doT (T:=LT) [5] 6 (fun R _ g=>hC R (s) omg g))⟩,omg,omg,omg,omg,?_,omg,(fun c hc=>match c,hc with|0,_=>krf ),?_⟩,fun hcc=>(nomatch (hf.symm.trans hcc))⟩⟩⟩
  ·exact fun c hc=>(l9 (L:=[]) (m:=0) (z:=fun _=>.fz .nil 0 0 (fun _ _=>.any)) (old:=fun _ _=>.any) rfl (fun i hi=>absurd hi (Nat.not_lt_zero i)) hc).trans krf
  ·refine mc (.tup 0 (nth [])) _ rfl trivial ?_
   refine d5 [0,1,2,3,4,7] 8 ?_ ?_ ?_ ?_ ?_ ?_ ?_
   ·rfl
   ·rfl
   ·rfl
   ·rfl
   ·rfl
   ·exact⟨Bs _,trivial⟩
   ·exact⟨⟨rfl,Nat.le_refl _,fun j hj=>match j,hj with|0,_=>Bs _⟩,Bv _,Bv _,⟨rfl,Nat.le_refl _,fun j hj=>md⟩,⟨rfl,Nat.le_refl _,fun j hj=>match j,hj with|0,_=>Bs _|1,_=>bt (by exact trivial)⟩,⟨rfl,Nat.le_refl _,fun j hj=>Bs _⟩,trivial⟩
 ·intro R _ s m L g hs hL hmL hmm h
  rw[e0] at h
  refine spW (nt:=47) (rs:=[]) (k0:=6) ?_
  refine vcR [[0,1,1,1,0]] (lkL [(0,[0,1,2,4,5,6,9]),(1,[0,1,2,4,5,6,14]),(4,[1,2,35])]) (lkL [(4,[(2,ROrc.pcall (int u64 (↑(fol p.rules.l s):Int)))]),(5,[(2,ROrc.callN (fn 105 0 (nth []) 1 (nth [ref (List.length [cO 1 fun (x:Nat)=>ow true 5 m 1,cO 1 fun (x:Nat)=>i6 (↑most:Int),cO 1 fun (x:Nat)=>fz O.2 1 (List.length O.l) fun (i x:Nat)=>af O.l i,cO 1 fun (x:Nat)=>fn 78 0 (nth []) 5 (nth [ref 0 0,ref 1 0,ref 2 0,ref 3 0,ref 4 0]),cO 2 (nth [i6 p.atoms,ad p.rules]),cO (m*1) fun (a:Nat)=>fz Fz.auto 1 (List.length (ao (List.getD L a 0)).l) fun (i x:Nat)=>af (ao (List.getD L a 0)).l i]) 0])) [] [cO 1 fun (x:Nat)=>int u64 (↑s:Int)] g),(3,ROrc.callS (fz Fz.auto 1 (List.length (ao s).l) fun (i x:Nat)=>af (ao s).l i) [(6,cO 1 fun (j:Nat)=>any)] g),(6,ROrc.val (Orc.obj (nth [ow true 8 (m+1) 1])))])]) (fun Q=>(fun (u1:List AObj)=>(fun (u2:List AObj)=>(fun (u3:Int)=>(fun (u4:AV)=>(fun (u5:AObj)=>(fun (u6:AObj)=>(fun (u7:Bool)=>(fun (u8:AV)=>(fun (u9:Bool)=>(fun (u10:AObj)=>(fun (u11:AObj)=>1<=1/\1<=1/\(u9=true->Q AEx.normal (St.mk [(0,i6 u3),(1,u8),(2,ref 0 0),(4,ref 2 0),(5,ref 3 0),(6,ref 4 0),(9,AV.bool u9)] u1 g))/\(u9=false->1<=1/\(decide (u3<u3)=true->WpC Tryd.prog R 47 6 78 [0,1,1,1,0] Q [Kont.blk 0] (St.mk [(0,i6 u3),(1,u8),(2,ref 0 0),(4,ref 2 0),(5,ref 3 0),(6,ref 4 0),(14,AV.bool (decide (u3<u3)))] u1 g))/\(decide (u3<u3)=false->2<=2/\(∀(hp:List AObj) (g:R.σ),true=true/\Does Tryd.prog R 80 [av p,u8] hp g (ret (int u64 (↑(fol p.rules.l s):Int))) hp g)/\(u7=true->Flw Tryd.prog/\1<=1/\(true=true/\Does Tryd.prog R 77 [u8] u1 g (ret (fn 105 0 (nth []) 1 (nth [ref 6 0]))) u2 g)/\(true=true/\Does Tryd.prog R 75 [fn 105 0 (nth []) 1 (nth [ref 6 0])] u2 g (ret u4) [cO 1 fun x=>ow true 5 m 1,u11,u6,u5,u10,cO (m*1) fun a=>fz Fz.auto 1 (List.length (ao (List.getD L a 0)).l) fun i x=>af (ao (List.getD L a 0)).l i,cO 1 fun j=>any] g)/\0<1/\(m+1)*24<=aC/\m+1<=aC/\1<=1/\m*1<=m*1/\1<=1/\(∀(c:Nat),c<1->nth [ow true 8 (m+1) 1] c=al (fun (x:Nat)=>ow true 5 m 1) 0 1 (fun (x:Nat)=>ow true 8 (m+1) 1) c)/\Q AEx.normal (St.mk [] [cO 1 (nth [ow true 8 (m+1) 1]),u11,u6,u5,u10,dead,cO 1 fun j=>any,cO 1 (al (fun (j:Nat)=>fz Fz.nil 0 0 fun x x_1=>any) 0 1 fun x=>u4),cO ((m+1)*1) (aZ 1 m (fun (i j:Nat)=>fz Fz.auto 1 (List.length (ao (List.getD L (i*1+j) 0)).l) fun i_1 x=>af (ao (List.getD L (i*1+j) 0)).l i_1) fun i j=>al (fun (j:Nat)=>fz Fz.nil 0 0 fun x x_1=>any) 0 1 (fun (x:Nat)=>u4) (0+i*1+j))] g))/\(u7=false->Q AEx.normal (St.mk [(1,u8),(2,ref 0 0),(35,AV.bool u7)] u1 g))))) (cO 1 fun x=>i6 (↑most:Int))) (cO 2 (nth [i6 p.atoms,ad p.rules]))) ((↑m:Int)==(↑most:Int))) (int u64 (↑s:Int))) ((↑(fol p.rules.l s):Int)==(↑s:Int))) (cO 1 fun x=>fz O.2 1 (List.length O.l) fun i x=>af O.l i)) (cO 1 fun x=>fn 78 0 (nth []) 5 (nth [ref 0 0,ref 1 0,ref 2 0,ref 3 0,ref 4 0]))) (fz Fz.auto 1 (List.length (ao s).l) fun i x=>af (ao s).l i)) ((↑(List.length O.l):Int))) ([cO 1 fun x=>ow true 5 m 1,cO 1 fun x=>i6 (↑most:Int),cO 1 fun x=>fz O.2 1 (List.length O.l) fun i x=>af O.l i,cO 1 fun x=>fn 78 0 (nth []) 5 (nth [ref 0 0,ref 1 0,ref 2 0,ref 3 0,ref 4 0]),cO 2 (nth [i6 p.atoms,ad p.rules]),cO (m*1) fun a=>fz Fz.auto 1 (List.length (ao (List.getD L a 0)).l) fun i x=>af (ao (List.getD L a 0)).l i,cO 1 fun x=>int u64 (↑s:Int)])) ([cO 1 fun x=>ow true 5 m 1,cO 1 fun x=>i6 (↑most:Int),cO 1 fun x=>fz O.2 1 (List.length O.l) fun i x=>af O.l i,cO 1 fun x=>fn 78 0 (nth []) 5 (nth [ref 0 0,ref 1 0,ref 2 0,ref 3 0,ref 4 0]),cO 2 (nth [i6 p.atoms,ad p.rules]),cO (m*1) fun a=>fz Fz.auto 1 (List.length (ao (List.getD L a 0)).l) fun i x=>af (ao (List.getD L a 0)).l i])) ⟨omg,omg,fun c1=>have c1:(↑m:Int)=(↑most:Int):=(beq_iff_eq.mp c1);?_,fun c1=>have c1:¬(↑m:Int)=(↑most:Int):=(beq_eq_false_iff_ne.mp c1);⟨omg,fun hcc=>(nomatch (hb.symm.trans hcc)),fun _=>⟨omg,(fun _ _=>⟨rfl,(lH _ _ _ _ omg omg omg _)⟩),fun c2=>have c2:(↑(fol p.rules.l s):Int)=(↑s:Int):=(beq_iff_eq.mp c2);⟨krf,omg,⟨rfl,(cT _ _ _ _)⟩,⟨rfl,(doT (T:=LT) [6] 7 (fun R _ g=>hC R (s) omg g))⟩,omg,omg,omg,omg,omg,omg,(fun c hc=>match c,hc with|0,_=>krf ),?_⟩,fun c2=>have c2:¬(↑(fol p.rules.l s):Int)=(↑s:Int):=(beq_eq_false_iff_ne.mp c2);?_⟩⟩⟩
  ·refine(aq (aP _ _ rfl trivial rfl rfl rfl) (Bs _))
  ·exfalso
   rw[if_neg omg,if_pos omg] at h
   have:=congrArg List.length h
   rw[List.length_append,List.length_singleton] at this
   omega
  ·refine(aq (aP _ _ rfl trivial rfl rfl rfl) (Bs _))
 ·intro R _ s m m' L L' g hs hL hmL hmm h hm' hne
  rw[e0] at h
  have hf:((fol p.rules.l s:Int)==(s:Int))=true:=by
   rw[beq_iff_eq]
   by_cases e:fol p.rules.l s=s
   ·omega
   ·rw[if_neg e,ite_self] at h
    subst h
    omega
  have h1:¬L.length=most:=fun e=>by
   rw[if_pos e] at h
   subst h
   omega
  rw[if_neg h1,if_pos (by rw[beq_iff_eq] at hf;omega)] at h
  subst h
  have hmm1:m'=m+1:=by rw[hm',List.length_append,hmL];rfl
  subst hmm1
  have hz:((m:Int)==(most:Int))=false:=by rw[beq_eq_false_iff_ne];omega
  refine spW (nt:=47) (rs:=[]) (k0:=6) ?_
  refine vcR [[0,1,0],[0,1,1,1,0],[0,1,1,1,1,1,1]] (lkL [(0,[0,1,2,4,5,6,9]),(1,[0,1,2,4,5,6,14]),(4,[1,2,35])]) (lkL [(4,[(2,ROrc.pcall (int u64 (↑(fol p.rules.l s):Int)))]),(5,[(2,ROrc.callN (fn 105 0 (nth []) 1 (nth [ref (List.length [cO 1 fun (x:Nat)=>ow true 5 m 1,cO 1 fun (x:Nat)=>i6 (↑most:Int),cO 1 fun (x:Nat)=>fz O.2 1 (List.length O.l) fun (i x:Nat)=>af O.l i,cO 1 fun (x:Nat)=>fn 78 0 (nth []) 5 (nth [ref 0 0,ref 1 0,ref 2 0,ref 3 0,ref 4 0]),cO 2 (nth [i6 p.atoms,ad p.rules]),cO (m*1) fun (a:Nat)=>fz Fz.auto 1 (List.length (ao (List.getD L a 0)).l) fun (i x:Nat)=>af (ao (List.getD L a 0)).l i]) 0])) [] [cO 1 fun (x:Nat)=>int u64 (↑s:Int)] g),(3,ROrc.callS (fz Fz.auto 1 (List.length (ao s).l) fun (i x:Nat)=>af (ao s).l i) [(6,cO 1 fun (j:Nat)=>any)] g),(5,ROrc.val (Orc.obj (aM (L++[s])))),(6,ROrc.val (Orc.obj (nth [ow true 8 (m+1) 1])))])]) (fun Q=>(fun (u1:List AObj)=>(fun (u2:List AObj)=>(fun (u3:Int)=>(fun (u4:AV)=>(fun (u5:AEx->St R.σ->Prop)=>(fun (u6:AObj)=>(fun (u7:AObj)=>(fun (u8:Bool)=>(fun (u9:AV)=>(fun (u10:Bool)=>(fun (u11:AObj)=>(fun (u12:AObj)=>1<=1/\1<=1/\(u10=true->Wp Tryd.prog R 47 6 Rd.top (aw Tryd.prog 78) [0,1,0] u5 (St.mk [(0,i6 u3),(1,u9),(2,ref 0 0),(4,ref 2 0),(5,ref 3 0),(6,ref 4 0),(9,AV.bool u10)] u1 g))/\(u10=false->1<=1/\(decide (u3<u3)=true->Wp Tryd.prog R 47 6 Rd.top (aw Tryd.prog 78) [0,1,1,1,0] u5 (St.mk [(0,i6 u3),(1,u9),(2,ref 0 0),(4,ref 2 0),(5,ref 3 0),(6,ref 4 0),(14,AV.bool (decide (u3<u3)))] u1 g))/\(decide (u3<u3)=false->2<=2/\(∀(hp:List AObj) (g:R.σ),true=true/\Does Tryd.prog R 80 [av p,u9] hp g (ret (int u64 (↑(fol p.rules.l s):Int))) hp g)/\(u8=true->Flw Tryd.prog/\1<=1/\(true=true/\Does Tryd.prog R 77 [u9] u1 g (ret (fn 105 0 (nth []) 1 (nth [ref 6 0]))) u2 g)/\(true=true/\Does Tryd.prog R 75 [fn 105 0 (nth []) 1 (nth [ref 6 0])] u2 g (ret u4) [cO 1 fun x=>ow true 5 m 1,u12,u7,u6,u11,cO (m*1) fun a=>fz Fz.auto 1 (List.length (ao (List.getD L a 0)).l) fun i x=>af (ao (List.getD L a 0)).l i,cO 1 fun j=>any] g)/\0<1/\(m+1)*24<=aC/\m+1<=aC/\1<=1/\m*1<=m*1/\(∀(c:Nat),c<(m+1)*1->(fz Fz.auto 1 (List.length (ao (List.getD (L++[s]) c 0)).l) fun i x=>af (ao (List.getD (L++[s]) c 0)).l i)=aZ 1 m (fun (i j:Nat)=>fz Fz.auto 1 (List.length (ao (List.getD L (i*1+j) 0)).l) fun i_1 x=>af (ao (List.getD L (i*1+j) 0)).l i_1) (fun (i j:Nat)=>al (fun (j:Nat)=>fz Fz.nil 0 0 fun x x_1=>any) 0 1 (fun (x:Nat)=>u4) (0+i*1+j)) c)/\1<=1/\(∀(c:Nat),c<1->nth [ow true 8 (m+1) 1] c=al (fun (x:Nat)=>ow true 5 m 1) 0 1 (fun (x:Nat)=>ow true 8 (m+1) 1) c)/\Q AEx.normal (St.mk [] [cO 1 (nth [ow true 8 (m+1) 1]),u12,u7,u6,u11,dead,cO 1 fun j=>any,cO 1 (al (fun (j:Nat)=>fz Fz.nil 0 0 fun x x_1=>any) 0 1 fun x=>u4),cO ((m+1)*1) fun a=>fz Fz.auto 1 (List.length (ao (List.getD (L++[s]) a 0)).l) fun i x=>af (ao (List.getD (L++[s]) a 0)).l i] g))/\(u8=false->Wp Tryd.prog R 47 6 Rd.top (aw Tryd.prog 78) [0,1,1,1,1,1,1] u5 (St.mk [(1,u9),(2,ref 0 0),(35,AV.bool u8)] u1 g))))) (cO 1 fun x=>i6 (↑most:Int))) (cO 2 (nth [i6 p.atoms,ad p.rules]))) ((↑m:Int)==(↑most:Int))) (int u64 (↑s:Int))) ((↑(fol p.rules.l s):Int)==(↑s:Int))) (cO 1 fun x=>fz O.2 1 (List.length O.l) fun i x=>af O.l i)) (cO 1 fun x=>fn 78 0 (nth []) 5 (nth [ref 0 0,ref 1 0,ref 2 0,ref 3 0,ref 4 0]))) (aS Tryd.prog R 47 6 Rd.top (aw Tryd.prog 78) Q [Kont.blk 0])) (fz Fz.auto 1 (List.length (ao s).l) fun i x=>af (ao s).l i)) ((↑(List.length O.l):Int))) ([cO 1 fun x=>ow true 5 m 1,cO 1 fun x=>i6 (↑most:Int),cO 1 fun x=>fz O.2 1 (List.length O.l) fun i x=>af O.l i,cO 1 fun x=>fn 78 0 (nth []) 5 (nth [ref 0 0,ref 1 0,ref 2 0,ref 3 0,ref 4 0]),cO 2 (nth [i6 p.atoms,ad p.rules]),cO (m*1) fun a=>fz Fz.auto 1 (List.length (ao (List.getD L a 0)).l) fun i x=>af (ao (List.getD L a 0)).l i,cO 1 fun x=>int u64 (↑s:Int)])) ([cO 1 fun x=>ow true 5 m 1,cO 1 fun x=>i6 (↑most:Int),cO 1 fun x=>fz O.2 1 (List.length O.l) fun i x=>af O.l i,cO 1 fun x=>fn 78 0 (nth []) 5 (nth [ref 0 0,ref 1 0,ref 2 0,ref 3 0,ref 4 0]),cO 2 (nth [i6 p.atoms,ad p.rules]),cO (m*1) fun a=>fz Fz.auto 1 (List.length (ao (List.getD L a 0)).l) fun i x=>af (ao (List.getD L a 0)).l i])) ⟨omg,omg,fun hcc=>(nomatch (hz.symm.trans hcc)),fun _=>⟨omg,fun hcc=>(nomatch (hb.symm.trans hcc)),fun _=>⟨omg,(fun _ _=>⟨rfl,(lH _ _ _ _ omg omg omg _)⟩),fun _=>⟨krf,omg,⟨rfl,(cT _ _ _ _)⟩,⟨rfl,(doT (T:=LT) [6] 7 (fun R _ g=>hC R (s) omg g))⟩,omg,omg,omg,omg,omg,?_,omg,(fun c hc=>match c,hc with|0,_=>krf ),?_⟩,fun hcc=>(nomatch (hf.symm.trans hcc))⟩⟩⟩
  ·exact fun c hc=>(l9 (L:=L) (m:=m) (z:=fun _=>.fz .nil 0 0 (fun _ _=>.any)) (old:=fun i j=>aM L (i*1+j)) hmL (fun i hi=>by show aM L (i*1+0)=aM L i;rw[show i*1+0=i by omega]) hc).trans krf
  ·refine mc (.tup 0 (nth [])) _ rfl trivial ?_
   refine d5 [0,1,2,3,4,5,8] 9 ?_ ?_ ?_ ?_ ?_ ?_ ?_
   ·rfl
   ·rfl
   ·rfl
   ·rfl
   ·rfl
   ·exact⟨Bs _,trivial⟩
   ·exact⟨⟨rfl,Nat.le_refl _,fun j hj=>match j,hj with|0,_=>Bs _⟩,Bv _,Bv _,⟨rfl,Nat.le_refl _,fun j hj=>md⟩,⟨rfl,Nat.le_refl _,fun j hj=>match j,hj with|0,_=>Bs _|1,_=>bt (by exact trivial)⟩,trivial,⟨rfl,Nat.le_refl _,fun j hj=>Bs _⟩,trivial⟩
theorem Ad {p:Prg}{most:Nat}{O:KL Int}{r:List Int}{k:Nat}(hm:1<=most/\most<=100)(hO:O.l.length<=10)(hk:k<O.l.length)(ha24:0<=O.l.getD k 0/\O.l.getD k 0<24)(ih:FromC p most O r ((k:Int)+1)):FromC p most O (O.l.getD k 0::r) (k:Int):=by
 have hroom:aC=140737488355328:=rfl
 have hb:decide ((k:Int)<(O.l.length:Int))=true:=decide_eq_true (by omega)
 have hz:(((0:Nat):Int)==(most:Int))=false:=by rw[beq_eq_false_iff_ne];omega
 have e0:∀s L,stF p most (O.l.getD k 0::r) s L=if L.length=most then L else stF p most r (s|||2^(O.l.getD k 0).toNat) (stF p most r s L):=fun s L=>rfl
 have hor:∀s:Nat,s<2^24->IntKind.u64.wrap ((BitVec.ofInt 64 (s:Int)|||BitVec.ofInt 64 ((2^(O.l.getD k 0).toNat:Nat):Int)).toNat:Int)=((s|||2^(O.l.getD k 0).toNat:Nat):Int):=fun s hs=>Tb.u64_or (bI hs) (bI (Nat.pow_lt_pow_right (by decide) (by omega)))
 have hor24:∀s:Nat,s<2^24->s|||2^(O.l.getD k 0).toNat<2^24:=fun s hs=>kb hs (by omega)
 constructor
 ·intro R _ s g hs h
  rw[e0,if_neg (by show ¬0=most;omega)] at h
  obtain⟨t,ht⟩:∃t,s|||2^(O.l.getD k 0).toNat=t:=⟨_,rfl⟩
  have ht24:t<2^24:=by rw[<-ht];exact hor24 s hs
  have hoS:=(hor s hs).trans (congrArg (fun n:Nat=>(n:Int)) ht)
  have hL1:stF p most r s []=[]:=by
   by_cases e:stF p most r s []=[]
   ·exact e
   ·exact absurd h (Ab (eQ (Nat.zero_le _)).2.1 e)
  rw[hL1,ht] at h
  have i1:=fun (R:Res) [Tab LT R] (g:R.σ)=>ih.nn R s g hs hL1
  have i2:∀(R:Res) [Tab LT R] (g:R.σ),Does Tryd.prog R 78 [.int .i64 ((k:Int)+1),.int .u64 (IntKind.u64.wrap ((BitVec.ofInt 64 (s:Int)|||BitVec.ofInt 64 ((2^(O.l.getD k 0).toNat:Nat):Int)).toNat:Int)),.ref 0 0,.ref 1 0,.ref 2 0,.ref 3 0,.ref 4 0] [.cells false 1 (fun _=>.fz .nil 0 0 (fun _ _=>.any)),.cells false 1 (fun _=>.int .i64 most),.cells false 1 (fun _=>ah O),.cells false 1 (fun _=>.fn 78 0 (nth []) 5 (nth [.ref 0 0,.ref 1 0,.ref 2 0,.ref 3 0,.ref 4 0])),.cells false 2 (nth [.int .i64 p.atoms,ad p.rules])] g (.ret (.tup 0 (nth []))) [.cells false 1 (fun _=>.fz .nil 0 0 (fun _ _=>.any)),.cells false 1 (fun _=>.int .i64 most),.cells false 1 (fun _=>ah O),.cells false 1 (fun _=>.fn 78 0 (nth []) 5 (nth [.ref 0 0,.ref 1 0,.ref 2 0,.ref 3 0,.ref 4 0])),.cells false 2 (nth [.int .i64 p.atoms,ad p.rules])] g:=fun R _ g=>by rw[hoS];exact ih.nn R t g ht24 h
  refine dR (nt:=47) (rs:=[]) (k0:=5) (by kernel_rfl) (by kernel_rfl) (by kernel_rfl) rfl ?_
  refine vcQ [[0,1,0],[0,1,1,1,1]] (lkL [(0,[0,1,2,4,5,6,9]),(1,[0,1,2,4,5,6,14]),(2,[0,1,4,5])]) (lkL [(2,[(4,ROrc.call (tup 0 (nth [])) [cells false 1 fun (x:Nat)=>fz Fz.nil 0 0 fun _ _=>any,cells false 1 fun (x:Nat)=>int i64 (most:Int),cells false 1 fun (x:Nat)=>ah O,cells false 1 fun (x:Nat)=>fn 78 0 (nth []) 5 (nth [ref 0 0,ref 1 0,ref 2 0,ref 3 0,ref 4 0]),cells false 2 (nth [int i64 p.atoms,ad p.rules])] g)]),(3,[(8,ROrc.pcall (int u64 (↑(2^(O.l.getD k 0).toNat):Int))),(10,ROrc.callS (tup 0 (nth [])) [(2,cells false 1 fun (x:Nat)=>ah O)] g)])]) (fun Q=>(fun (u1:List AObj)=>(fun (u2:Int)=>(fun (u3:Int)=>(fun (u4:Bool)=>1<=1/\1<=1/\(u4=true->Wp Tryd.prog R 47 5 Rd.top (aw Tryd.prog 78) [0,1,0] (aS Tryd.prog R 47 5 Rd.top (aw Tryd.prog 78) Q [Kont.blk 0]) (St.mk [(0,int i64 u3),(1,int u64 (s:Int)),(2,ref 0 0),(4,ref 2 0),(5,ref 3 0),(6,ref 4 0),(9,AV.bool u4)] u1 g))/\(u4=false->1<=1/\(decide (u3<u2)=true->1<=1/\(-9223372036854775808<=u3+1/\u3+1<=9223372036854775807)/\(true=true/\Does Tryd.prog R 78 [int i64 (u3+1),int u64 (s:Int),ref 0 0,ref 1 0,ref 2 0,ref 3 0,ref 4 0] u1 g (ret (tup 0 (nth []))) u1 g)/\Tables.follows Tryd.prog.toTables Departure.mixedOrders=true/\1<=1/\(-9223372036854775808<=u3+1/\u3+1<=9223372036854775807)/\1<=1/\(0<=u3/\u3<u2)/\1<=1/\(∀(hp:List AObj) (g:R.σ),true=true/\Does Tryd.prog R 79 [af O.l k] hp g (ret (int u64 (↑(2^(O.l.getD k 0).toNat):Int))) hp g)/\(true=true/\Does Tryd.prog R 78 [int i64 (u3+1),int u64 (IntKind.wrap u64 (↑(BitVec.toNat (BitVec.ofInt 64 (s:Int)|||BitVec.ofInt 64 (↑(2^(O.l.getD k 0).toNat):Int))):Int)),ref 0 0,ref 1 0,ref 2 0,ref 3 0,ref 4 0] u1 g (ret (tup 0 (nth []))) u1 g)/\Q AEx.normal (St.mk [] u1 g))/\(decide (u3<u2)=false->Wp Tryd.prog R 47 5 Rd.top (aw Tryd.prog 78) [0,1,1,1,1] (aS Tryd.prog R 47 5 Rd.top (aw Tryd.prog 78) Q [Kont.blk 0]) (St.mk [(0,int i64 u3),(1,int u64 (s:Int)),(2,ref 0 0),(4,ref 2 0),(5,ref 3 0),(6,ref 4 0),(14,AV.bool (decide (u3<u2)))] u1 g)))) ((↑0:Int)==(most:Int))) ((k:Int))) ((O.l.length:Int))) ([cells false 1 fun (x:Nat)=>fz Fz.nil 0 0 fun _ _=>any,cells false 1 fun (x:Nat)=>int i64 (most:Int),cells false 1 fun (x:Nat)=>fz O.2 1 (O.l.length) fun (i x:Nat)=>af O.l i,cells false 1 fun (x:Nat)=>fn 78 0 (nth []) 5 (nth [ref 0 0,ref 1 0,ref 2 0,ref 3 0,ref 4 0]),cells false 2 (nth [int i64 p.atoms,ad p.rules])])) (fun _=>by kernel_rfl) ⟨by omega,by omega,fun hcc=>(nomatch (hz.symm.trans hcc)),fun _=>⟨by omega,fun _=>⟨by omega,by omega,⟨rfl,(i1 _ _)⟩,by kernel_rfl,by omega,by omega,by omega,by omega,by omega,(fun _ _=>⟨rfl,(d9 _ _ (by omega) _ _)⟩),⟨rfl,(i2 _ _)⟩,?_⟩,fun hcc=>(nomatch (hb.symm.trans hcc))⟩⟩
  refine(aq (aP _ _ rfl trivial rfl rfl rfl) (Bs _))
 ·intro R _ s m' L' g hs h hL' hm'
  rw[e0,if_neg (by show ¬0=most;omega)] at h
  obtain⟨t,ht⟩:∃t,s|||2^(O.l.getD k 0).toNat=t:=⟨_,rfl⟩
  have ht24:t<2^24:=by rw[<-ht];exact hor24 s hs
  have hoS:=(hor s hs).trans (congrArg (fun n:Nat=>(n:Int)) ht)
  rw[ht] at h
  obtain⟨L,hL⟩:∃L,stF p most r s []=L:=⟨_,rfl⟩
  have hlen:=eQ (p:=p) (most:=most) (r:=r) (s:=s) (out:=[]) (Nat.zero_le _)
  rw[hL] at h hlen
  by_cases e:L=[]
  ·subst e
   have i1:=fun (R:Res) [Tab LT R] (g:R.σ)=>ih.nn R s g hs hL
   have i2:∀(R:Res) [Tab LT R] (g:R.σ),Does Tryd.prog R 78 [.int .i64 ((k:Int)+1),.int .u64 (IntKind.u64.wrap ((BitVec.ofInt 64 (s:Int)|||BitVec.ofInt 64 ((2^(O.l.getD k 0).toNat:Nat):Int)).toNat:Int)),.ref 0 0,.ref 1 0,.ref 2 0,.ref 3 0,.ref 4 0] [.cells false 1 (fun _=>.fz .nil 0 0 (fun _ _=>.any)),.cells false 1 (fun _=>.int .i64 most),.cells false 1 (fun _=>ah O),.cells false 1 (fun _=>.fn 78 0 (nth []) 5 (nth [.ref 0 0,.ref 1 0,.ref 2 0,.ref 3 0,.ref 4 0])),.cells false 2 (nth [.int .i64 p.atoms,ad p.rules])] g (.ret (.tup 0 (nth []))) [.cells false 1 (fun _=>.ow true 5 m' 1),.cells false 1 (fun _=>.int .i64 most),.cells false 1 (fun _=>ah O),.cells false 1 (fun _=>.fn 78 0 (nth []) 5 (nth [.ref 0 0,.ref 1 0,.ref 2 0,.ref 3 0,.ref 4 0])),.cells false 2 (nth [.int .i64 p.atoms,ad p.rules]),.cells false (m'*1) (aM L')] g:=fun R _ g=>by rw[hoS];exact ih.nw R t m' L' g ht24 h hL' hm'
   refine dR (nt:=47) (rs:=[]) (k0:=5) (by kernel_rfl) (by kernel_rfl) (by kernel_rfl) rfl ?_
   refine vcQ [[0,1,0],[0,1,1,1,1]] (lkL [(0,[0,1,2,4,5,6,9]),(1,[0,1,2,4,5,6,14]),(2,[0,1,4,5])]) (lkL [(2,[(4,ROrc.call (tup 0 (nth [])) [cells false 1 fun (x:Nat)=>fz Fz.nil 0 0 fun _ _=>any,cells false 1 fun (x:Nat)=>int i64 (most:Int),cells false 1 fun (x:Nat)=>ah O,cells false 1 fun (x:Nat)=>fn 78 0 (nth []) 5 (nth [ref 0 0,ref 1 0,ref 2 0,ref 3 0,ref 4 0]),cells false 2 (nth [int i64 p.atoms,ad p.rules])] g)]),(3,[(8,ROrc.pcall (int u64 (↑(2^(O.l.getD k 0).toNat):Int))),(10,ROrc.callN (tup 0 (nth [])) [(0,cells false 1 fun (x:Nat)=>ow true 5 m' 1),(2,cells false 1 fun (x:Nat)=>ah O)] [cells false (m'*1) (aM L')] g)])]) (fun Q=>(fun (u1:List AObj)=>(fun (u2:List AObj)=>(fun (u3:Int)=>(fun (u4:Int)=>(fun (u5:Bool)=>1<=1/\1<=1/\(u5=true->Wp Tryd.prog R 47 5 Rd.top (aw Tryd.prog 78) [0,1,0] (aS Tryd.prog R 47 5 Rd.top (aw Tryd.prog 78) Q [Kont.blk 0]) (St.mk [(0,int i64 u4),(1,int u64 (s:Int)),(2,ref 0 0),(4,ref 2 0),(5,ref 3 0),(6,ref 4 0),(9,AV.bool u5)] u1 g))/\(u5=false->1<=1/\(decide (u4<u3)=true->1<=1/\(-9223372036854775808<=u4+1/\u4+1<=9223372036854775807)/\(true=true/\Does Tryd.prog R 78 [int i64 (u4+1),int u64 (s:Int),ref 0 0,ref 1 0,ref 2 0,ref 3 0,ref 4 0] u1 g (ret (tup 0 (nth []))) u1 g)/\Tables.follows Tryd.prog.toTables Departure.mixedOrders=true/\1<=1/\(-9223372036854775808<=u4+1/\u4+1<=9223372036854775807)/\1<=1/\(0<=u4/\u4<u3)/\1<=1/\(∀(hp:List AObj) (g:R.σ),true=true/\Does Tryd.prog R 79 [af O.l k] hp g (ret (int u64 (↑(2^(O.l.getD k 0).toNat):Int))) hp g)/\(true=true/\Does Tryd.prog R 78 [int i64 (u4+1),int u64 (IntKind.wrap u64 (↑(BitVec.toNat (BitVec.ofInt 64 (s:Int)|||BitVec.ofInt 64 (↑(2^(O.l.getD k 0).toNat):Int))):Int)),ref 0 0,ref 1 0,ref 2 0,ref 3 0,ref 4 0] u1 g (ret (tup 0 (nth []))) u2 g)/\Q AEx.normal (St.mk [] u2 g))/\(decide (u4<u3)=false->Wp Tryd.prog R 47 5 Rd.top (aw Tryd.prog 78) [0,1,1,1,1] (aS Tryd.prog R 47 5 Rd.top (aw Tryd.prog 78) Q [Kont.blk 0]) (St.mk [(0,int i64 u4),(1,int u64 (s:Int)),(2,ref 0 0),(4,ref 2 0),(5,ref 3 0),(6,ref 4 0),(14,AV.bool (decide (u4<u3)))] u1 g)))) ((↑0:Int)==(most:Int))) ((k:Int))) ((O.l.length:Int))) ([cells false 1 fun (x:Nat)=>ow true 5 m' 1,cells false 1 fun (x:Nat)=>int i64 (most:Int),cells false 1 fun (x:Nat)=>fz O.2 1 (O.l.length) fun (i x:Nat)=>af O.l i,cells false 1 fun (x:Nat)=>fn 78 0 (nth []) 5 (nth [ref 0 0,ref 1 0,ref 2 0,ref 3 0,ref 4 0]),cells false 2 (nth [int i64 p.atoms,ad p.rules]),cells false (m'*1) fun (a:Nat)=>fz Fz.auto 1 ((ao (L'.getD a 0)).l.length) fun (i x:Nat)=>af (ao (L'.getD a 0)).l i])) ([cells false 1 fun (x:Nat)=>fz Fz.nil 0 0 fun _ _=>any,cells false 1 fun (x:Nat)=>int i64 (most:Int),cells false 1 fun (x:Nat)=>fz O.2 1 (O.l.length) fun (i x:Nat)=>af O.l i,cells false 1 fun (x:Nat)=>fn 78 0 (nth []) 5 (nth [ref 0 0,ref 1 0,ref 2 0,ref 3 0,ref 4 0]),cells false 2 (nth [int i64 p.atoms,ad p.rules])])) (fun _=>by kernel_rfl) ⟨by omega,by omega,fun hcc=>(nomatch (hz.symm.trans hcc)),fun _=>⟨by omega,fun _=>⟨by omega,by omega,⟨rfl,(i1 _ _)⟩,by kernel_rfl,by omega,by omega,by omega,by omega,by omega,(fun _ _=>⟨rfl,(d9 _ _ (by omega) _ _)⟩),⟨rfl,(i2 _ _)⟩,?_⟩,fun hcc=>(nomatch (hb.symm.trans hcc))⟩⟩
   refine(aq (aP _ _ rfl trivial rfl rfl rfl) (Bs _))
  ·obtain⟨m,hmL⟩:∃m,m=L.length:=⟨_,rfl⟩
   have h0:0<m:=by rw[hmL];exact List.length_pos_iff.2 e
   have hmm:m<=most:=by rw[hmL];exact hlen.2.1
   have hlen2:=eQ (p:=p) (most:=most) (r:=r) (s:=t) (out:=L) hlen.2.1
   rw[h] at hlen2
   have h0':0<m':=by omega
   have hmm':m'<=most:=by omega
   have i1:=fun (R:Res) [Tab LT R] (g:R.σ)=>ih.nw R s m L g hs hL e hmL
   by_cases hmm1:m=m'
   ·have hLL:L'=L:=hlen2.2.2 (by omega)
    subst hLL
    subst hmm1
    have i2:∀(R:Res) [Tab LT R] (g:R.σ),Does Tryd.prog R 78 [.int .i64 ((k:Int)+1),.int .u64 (IntKind.u64.wrap ((BitVec.ofInt 64 (s:Int)|||BitVec.ofInt 64 ((2^(O.l.getD k 0).toNat:Nat):Int)).toNat:Int)),.ref 0 0,.ref 1 0,.ref 2 0,.ref 3 0,.ref 4 0] [.cells false 1 (fun _=>.ow true 5 m 1),.cells false 1 (fun _=>.int .i64 most),.cells false 1 (fun _=>ah O),.cells false 1 (fun _=>.fn 78 0 (nth []) 5 (nth [.ref 0 0,.ref 1 0,.ref 2 0,.ref 3 0,.ref 4 0])),.cells false 2 (nth [.int .i64 p.atoms,ad p.rules]),.cells false (m*1) (aM L')] g (.ret (.tup 0 (nth []))) [.cells false 1 (fun _=>.ow true 5 m 1),.cells false 1 (fun _=>.int .i64 most),.cells false 1 (fun _=>ah O),.cells false 1 (fun _=>.fn 78 0 (nth []) 5 (nth [.ref 0 0,.ref 1 0,.ref 2 0,.ref 3 0,.ref 4 0])),.cells false 2 (nth [.int .i64 p.atoms,ad p.rules]),.cells false (m*1) (aM L')] g:=fun R _ g=>by rw[hoS];exact ih.on R t m L' g ht24 hL' hmL hmm h
    refine dR (nt:=47) (rs:=[]) (k0:=5) (by kernel_rfl) (by kernel_rfl) (by kernel_rfl) rfl ?_
    refine vcQ [[0,1,0],[0,1,1,1,1]] (lkL [(0,[0,1,2,4,5,6,9]),(1,[0,1,2,4,5,6,14]),(2,[0,1,4,5])]) (lkL [(2,[(4,ROrc.call (tup 0 (nth [])) [cells false 1 fun (x:Nat)=>ow true 5 m 1,cells false 1 fun (x:Nat)=>int i64 (most:Int),cells false 1 fun (x:Nat)=>ah O,cells false 1 fun (x:Nat)=>fn 78 0 (nth []) 5 (nth [ref 0 0,ref 1 0,ref 2 0,ref 3 0,ref 4 0]),cells false 2 (nth [int i64 p.atoms,ad p.rules]),cells false (m*1) (aM L')] g)]),(3,[(8,ROrc.pcall (int u64 (↑(2^(O.l.getD k 0).toNat):Int))),(10,ROrc.callS (tup 0 (nth [])) [(2,cells false 1 fun (x:Nat)=>ah O),(5,cells false (m*1) (aM L'))] g)])]) (fun Q=>(fun (u1:List AObj)=>(fun (u2:List AObj)=>(fun (u3:Int)=>(fun (u4:Int)=>(fun (u5:Bool)=>1<=1/\1<=1/\(u5=true->Wp Tryd.prog R 47 5 Rd.top (aw Tryd.prog 78) [0,1,0] (aS Tryd.prog R 47 5 Rd.top (aw Tryd.prog 78) Q [Kont.blk 0]) (St.mk [(0,int i64 u4),(1,int u64 (s:Int)),(2,ref 0 0),(4,ref 2 0),(5,ref 3 0),(6,ref 4 0),(9,AV.bool u5)] u2 g))/\(u5=false->1<=1/\(decide (u4<u3)=true->1<=1/\(-9223372036854775808<=u4+1/\u4+1<=9223372036854775807)/\(true=true/\Does Tryd.prog R 78 [int i64 (u4+1),int u64 (s:Int),ref 0 0,ref 1 0,ref 2 0,ref 3 0,ref 4 0] u2 g (ret (tup 0 (nth []))) u1 g)/\Tables.follows Tryd.prog.toTables Departure.mixedOrders=true/\1<=1/\(-9223372036854775808<=u4+1/\u4+1<=9223372036854775807)/\1<=1/\(0<=u4/\u4<u3)/\1<=1/\(∀(hp:List AObj) (g:R.σ),true=true/\Does Tryd.prog R 79 [af O.l k] hp g (ret (int u64 (↑(2^(O.l.getD k 0).toNat):Int))) hp g)/\(true=true/\Does Tryd.prog R 78 [int i64 (u4+1),int u64 (IntKind.wrap u64 (↑(BitVec.toNat (BitVec.ofInt 64 (s:Int)|||BitVec.ofInt 64 (↑(2^(O.l.getD k 0).toNat):Int))):Int)),ref 0 0,ref 1 0,ref 2 0,ref 3 0,ref 4 0] u1 g (ret (tup 0 (nth []))) u1 g)/\Q AEx.normal (St.mk [] u1 g))/\(decide (u4<u3)=false->Wp Tryd.prog R 47 5 Rd.top (aw Tryd.prog 78) [0,1,1,1,1] (aS Tryd.prog R 47 5 Rd.top (aw Tryd.prog 78) Q [Kont.blk 0]) (St.mk [(0,int i64 u4),(1,int u64 (s:Int)),(2,ref 0 0),(4,ref 2 0),(5,ref 3 0),(6,ref 4 0),(14,AV.bool (decide (u4<u3)))] u2 g)))) ((↑0:Int)==(most:Int))) ((k:Int))) ((O.l.length:Int))) ([cells false 1 fun (x:Nat)=>fz Fz.nil 0 0 fun _ _=>any,cells false 1 fun (x:Nat)=>int i64 (most:Int),cells false 1 fun (x:Nat)=>fz O.2 1 (O.l.length) fun (i x:Nat)=>af O.l i,cells false 1 fun (x:Nat)=>fn 78 0 (nth []) 5 (nth [ref 0 0,ref 1 0,ref 2 0,ref 3 0,ref 4 0]),cells false 2 (nth [int i64 p.atoms,ad p.rules])])) ([cells false 1 fun (x:Nat)=>ow true 5 m 1,cells false 1 fun (x:Nat)=>int i64 (most:Int),cells false 1 fun (x:Nat)=>fz O.2 1 (O.l.length) fun (i x:Nat)=>af O.l i,cells false 1 fun (x:Nat)=>fn 78 0 (nth []) 5 (nth [ref 0 0,ref 1 0,ref 2 0,ref 3 0,ref 4 0]),cells false 2 (nth [int i64 p.atoms,ad p.rules]),cells false (m*1) fun (a:Nat)=>fz Fz.auto 1 ((ao (L'.getD a 0)).l.length) fun (i x:Nat)=>af (ao (L'.getD a 0)).l i])) (fun _=>by kernel_rfl) ⟨by omega,by omega,fun hcc=>(nomatch (hz.symm.trans hcc)),fun _=>⟨by omega,fun _=>⟨by omega,by omega,⟨rfl,(i1 _ _)⟩,by kernel_rfl,by omega,by omega,by omega,by omega,by omega,(fun _ _=>⟨rfl,(d9 _ _ (by omega) _ _)⟩),⟨rfl,(i2 _ _)⟩,?_⟩,fun hcc=>(nomatch (hb.symm.trans hcc))⟩⟩
    refine(aq (aP _ _ rfl trivial rfl rfl rfl) (Bs _))
   ·have i2:∀(R:Res) [Tab LT R] (g:R.σ),Does Tryd.prog R 78 [.int .i64 ((k:Int)+1),.int .u64 (IntKind.u64.wrap ((BitVec.ofInt 64 (s:Int)|||BitVec.ofInt 64 ((2^(O.l.getD k 0).toNat:Nat):Int)).toNat:Int)),.ref 0 0,.ref 1 0,.ref 2 0,.ref 3 0,.ref 4 0] [.cells false 1 (fun _=>.ow true 5 m 1),.cells false 1 (fun _=>.int .i64 most),.cells false 1 (fun _=>ah O),.cells false 1 (fun _=>.fn 78 0 (nth []) 5 (nth [.ref 0 0,.ref 1 0,.ref 2 0,.ref 3 0,.ref 4 0])),.cells false 2 (nth [.int .i64 p.atoms,ad p.rules]),.cells false (m*1) (aM L)] g (.ret (.tup 0 (nth []))) [.cells false 1 (fun _=>.ow true 6 m' 1),.cells false 1 (fun _=>.int .i64 most),.cells false 1 (fun _=>ah O),.cells false 1 (fun _=>.fn 78 0 (nth []) 5 (nth [.ref 0 0,.ref 1 0,.ref 2 0,.ref 3 0,.ref 4 0])),.cells false 2 (nth [.int .i64 p.atoms,ad p.rules]),.dead,.cells false (m'*1) (aM L')] g:=fun R _ g=>by rw[hoS];exact ih.ow R t m m' L L' g ht24 e hmL hmm h hm' hmm1
    refine dR (nt:=47) (rs:=[]) (k0:=5) (by kernel_rfl) (by kernel_rfl) (by kernel_rfl) rfl ?_
    refine vcQ [[0,1,0],[0,1,1,1,1]] (lkL [(0,[0,1,2,4,5,6,9]),(1,[0,1,2,4,5,6,14]),(2,[0,1,4,5])]) (lkL [(2,[(4,ROrc.call (tup 0 (nth [])) [cells false 1 fun (x:Nat)=>ow true 5 m 1,cells false 1 fun (x:Nat)=>int i64 (most:Int),cells false 1 fun (x:Nat)=>ah O,cells false 1 fun (x:Nat)=>fn 78 0 (nth []) 5 (nth [ref 0 0,ref 1 0,ref 2 0,ref 3 0,ref 4 0]),cells false 2 (nth [int i64 p.atoms,ad p.rules]),cells false (m*1) (aM L)] g)]),(3,[(8,ROrc.pcall (int u64 (↑(2^(O.l.getD k 0).toNat):Int))),(10,ROrc.callN (tup 0 (nth [])) [(0,cells false 1 fun (x:Nat)=>ow true 6 m' 1),(2,cells false 1 fun (x:Nat)=>ah O),(5,dead)] [cells false (m'*1) (aM L')] g)])]) (fun Q=>(fun (u1:List AObj)=>(fun (u2:List AObj)=>(fun (u3:List AObj)=>(fun (u4:Int)=>(fun (u5:Int)=>(fun (u6:Bool)=>1<=1/\1<=1/\(u6=true->Wp Tryd.prog R 47 5 Rd.top (aw Tryd.prog 78) [0,1,0] (aS Tryd.prog R 47 5 Rd.top (aw Tryd.prog 78) Q [Kont.blk 0]) (St.mk [(0,int i64 u5),(1,int u64 (s:Int)),(2,ref 0 0),(4,ref 2 0),(5,ref 3 0),(6,ref 4 0),(9,AV.bool u6)] u1 g))/\(u6=false->1<=1/\(decide (u5<u4)=true->1<=1/\(-9223372036854775808<=u5+1/\u5+1<=9223372036854775807)/\(true=true/\Does Tryd.prog R 78 [int i64 (u5+1),int u64 (s:Int),ref 0 0,ref 1 0,ref 2 0,ref 3 0,ref 4 0] u1 g (ret (tup 0 (nth []))) u3 g)/\Tables.follows Tryd.prog.toTables Departure.mixedOrders=true/\1<=1/\(-9223372036854775808<=u5+1/\u5+1<=9223372036854775807)/\1<=1/\(0<=u5/\u5<u4)/\1<=1/\(∀(hp:List AObj) (g:R.σ),true=true/\Does Tryd.prog R 79 [af O.l k] hp g (ret (int u64 (↑(2^(O.l.getD k 0).toNat):Int))) hp g)/\(true=true/\Does Tryd.prog R 78 [int i64 (u5+1),int u64 (IntKind.wrap u64 (↑(BitVec.toNat (BitVec.ofInt 64 (s:Int)|||BitVec.ofInt 64 (↑(2^(O.l.getD k 0).toNat):Int))):Int)),ref 0 0,ref 1 0,ref 2 0,ref 3 0,ref 4 0] u3 g (ret (tup 0 (nth []))) u2 g)/\Q AEx.normal (St.mk [] u2 g))/\(decide (u5<u4)=false->Wp Tryd.prog R 47 5 Rd.top (aw Tryd.prog 78) [0,1,1,1,1] (aS Tryd.prog R 47 5 Rd.top (aw Tryd.prog 78) Q [Kont.blk 0]) (St.mk [(0,int i64 u5),(1,int u64 (s:Int)),(2,ref 0 0),(4,ref 2 0),(5,ref 3 0),(6,ref 4 0),(14,AV.bool (decide (u5<u4)))] u1 g)))) ((↑0:Int)==(most:Int))) ((k:Int))) ((O.l.length:Int))) ([cells false 1 fun (x:Nat)=>ow true 5 m 1,cells false 1 fun (x:Nat)=>int i64 (most:Int),cells false 1 fun (x:Nat)=>fz O.2 1 (O.l.length) fun (i x:Nat)=>af O.l i,cells false 1 fun (x:Nat)=>fn 78 0 (nth []) 5 (nth [ref 0 0,ref 1 0,ref 2 0,ref 3 0,ref 4 0]),cells false 2 (nth [int i64 p.atoms,ad p.rules]),cells false (m*1) fun (a:Nat)=>fz Fz.auto 1 ((ao (L.getD a 0)).l.length) fun (i x:Nat)=>af (ao (L.getD a 0)).l i])) ([cells false 1 fun (x:Nat)=>ow true 6 m' 1,cells false 1 fun (x:Nat)=>int i64 (most:Int),cells false 1 fun (x:Nat)=>fz O.2 1 (O.l.length) fun (i x:Nat)=>af O.l i,cells false 1 fun (x:Nat)=>fn 78 0 (nth []) 5 (nth [ref 0 0,ref 1 0,ref 2 0,ref 3 0,ref 4 0]),cells false 2 (nth [int i64 p.atoms,ad p.rules]),dead,cells false (m'*1) fun (a:Nat)=>fz Fz.auto 1 ((ao (L'.getD a 0)).l.length) fun (i x:Nat)=>af (ao (L'.getD a 0)).l i])) ([cells false 1 fun (x:Nat)=>fz Fz.nil 0 0 fun _ _=>any,cells false 1 fun (x:Nat)=>int i64 (most:Int),cells false 1 fun (x:Nat)=>fz O.2 1 (O.l.length) fun (i x:Nat)=>af O.l i,cells false 1 fun (x:Nat)=>fn 78 0 (nth []) 5 (nth [ref 0 0,ref 1 0,ref 2 0,ref 3 0,ref 4 0]),cells false 2 (nth [int i64 p.atoms,ad p.rules])])) (fun _=>by kernel_rfl) ⟨by omega,by omega,fun hcc=>(nomatch (hz.symm.trans hcc)),fun _=>⟨by omega,fun _=>⟨by omega,by omega,⟨rfl,(i1 _ _)⟩,by kernel_rfl,by omega,by omega,by omega,by omega,by omega,(fun _ _=>⟨rfl,(d9 _ _ (by omega) _ _)⟩),⟨rfl,(i2 _ _)⟩,?_⟩,fun hcc=>(nomatch (hb.symm.trans hcc))⟩⟩
    refine mc (.tup 0 (nth [])) _ rfl trivial ?_
    refine d5 [0,1,2,3,4,6] 7 ?_ ?_ ?_ ?_ ?_ ?_ ?_
    ·rfl
    ·rfl
    ·rfl
    ·rfl
    ·rfl
    ·exact⟨Bs _,trivial⟩
    ·exact⟨⟨rfl,Nat.le_refl _,fun j hj=>Bs _⟩,Bv _,Bv _,⟨rfl,Nat.le_refl _,fun j hj=>md⟩,⟨rfl,Nat.le_refl _,fun j hj=>match j,hj with|0,_=>Bs _|1,_=>bt (by exact trivial)⟩,⟨rfl,Nat.le_refl _,fun j hj=>Bs _⟩,trivial⟩
 ·intro R _ s m L g hs hL hmL hmm h
  rw[e0] at h
  have h0:0<m:=by rw[hmL];exact List.length_pos_iff.2 hL
  by_cases hf:m=most
  ·have hz:((m:Int)==(most:Int))=true:=by rw[beq_iff_eq];omega
   refine dR (nt:=47) (rs:=[]) (k0:=6) (by kernel_rfl) (by kernel_rfl) (by kernel_rfl) rfl ?_
   refine vcQ [[0,1,1]] (lkL [(0,[0,1,2,4,5,6,9])]) (fun _=>[]) (fun Q=>(fun (u1:St R.σ)=>1<=1/\1<=1/\(((m:Int)==(most:Int))=true->Q AEx.normal u1)/\(((m:Int)==(most:Int))=false->Wp Tryd.prog R 47 6 Rd.top (aw Tryd.prog 78) [0,1,1] (aS Tryd.prog R 47 6 Rd.top (aw Tryd.prog 78) Q [Kont.blk 0]) u1)) (St.mk [(0,int i64 (k:Int)),(1,int u64 (s:Int)),(2,ref 0 0),(4,ref 2 0),(5,ref 3 0),(6,ref 4 0),(9,AV.bool ((m:Int)==(most:Int)))] [cells false 1 fun (x:Nat)=>ow true 5 m 1,cells false 1 fun (x:Nat)=>int i64 (most:Int),cells false 1 fun (x:Nat)=>fz O.2 1 (O.l.length) fun (i x:Nat)=>af O.l i,cells false 1 fun (x:Nat)=>fn 78 0 (nth []) 5 (nth [ref 0 0,ref 1 0,ref 2 0,ref 3 0,ref 4 0]),cells false 2 (nth [int i64 p.atoms,ad p.rules]),cells false (m*1) fun (a:Nat)=>fz Fz.auto 1 ((ao (L.getD a 0)).l.length) fun (i x:Nat)=>af (ao (L.getD a 0)).l i] g)) (fun _=>by kernel_rfl) ⟨by omega,by omega,fun _=>?_,fun hcc=>(nomatch (hz.symm.trans hcc))⟩
   refine(aq (aP _ _ rfl trivial rfl rfl rfl) (Bs _))
  ·have hz:((m:Int)==(most:Int))=false:=by rw[beq_eq_false_iff_ne];omega
   rw[if_neg (by omega)] at h
   obtain⟨t,ht⟩:∃t,s|||2^(O.l.getD k 0).toNat=t:=⟨_,rfl⟩
   have ht24:t<2^24:=by rw[<-ht];exact hor24 s hs
   have hoS:=(hor s hs).trans (congrArg (fun n:Nat=>(n:Int)) ht)
   rw[ht] at h
   have hlen:=eQ (p:=p) (most:=most) (r:=r) (s:=s) (out:=L) (by omega)
   have hlen2:=eQ (p:=p) (most:=most) (r:=r) (s:=t) (out:=stF p most r s L) hlen.2.1
   rw[h] at hlen2
   have hL1:=hlen.2.2 (by omega)
   rw[hL1] at h
   have i1:=fun (R:Res) [Tab LT R] (g:R.σ)=>ih.on R s m L g hs hL hmL hmm hL1
   have i2:∀(R:Res) [Tab LT R] (g:R.σ),Does Tryd.prog R 78 [.int .i64 ((k:Int)+1),.int .u64 (IntKind.u64.wrap ((BitVec.ofInt 64 (s:Int)|||BitVec.ofInt 64 ((2^(O.l.getD k 0).toNat:Nat):Int)).toNat:Int)),.ref 0 0,.ref 1 0,.ref 2 0,.ref 3 0,.ref 4 0] [.cells false 1 (fun _=>.ow true 5 m 1),.cells false 1 (fun _=>.int .i64 most),.cells false 1 (fun _=>ah O),.cells false 1 (fun _=>.fn 78 0 (nth []) 5 (nth [.ref 0 0,.ref 1 0,.ref 2 0,.ref 3 0,.ref 4 0])),.cells false 2 (nth [.int .i64 p.atoms,ad p.rules]),.cells false (m*1) (aM L)] g (.ret (.tup 0 (nth []))) [.cells false 1 (fun _=>.ow true 5 m 1),.cells false 1 (fun _=>.int .i64 most),.cells false 1 (fun _=>ah O),.cells false 1 (fun _=>.fn 78 0 (nth []) 5 (nth [.ref 0 0,.ref 1 0,.ref 2 0,.ref 3 0,.ref 4 0])),.cells false 2 (nth [.int .i64 p.atoms,ad p.rules]),.cells false (m*1) (aM L)] g:=fun R _ g=>by rw[hoS];exact ih.on R t m L g ht24 hL hmL hmm h
   refine dR (nt:=47) (rs:=[]) (k0:=6) (by kernel_rfl) (by kernel_rfl) (by kernel_rfl) rfl ?_
   refine vcQ [[0,1,0],[0,1,1,1,1]] (lkL [(0,[0,1,2,4,5,6,9]),(1,[0,1,2,4,5,6,14]),(2,[0,1,4,5])]) (lkL [(2,[(4,ROrc.call (tup 0 (nth [])) [cells false 1 fun (x:Nat)=>ow true 5 m 1,cells false 1 fun (x:Nat)=>int i64 (most:Int),cells false 1 fun (x:Nat)=>ah O,cells false 1 fun (x:Nat)=>fn 78 0 (nth []) 5 (nth [ref 0 0,ref 1 0,ref 2 0,ref 3 0,ref 4 0]),cells false 2 (nth [int i64 p.atoms,ad p.rules]),cells false (m*1) (aM L)] g)]),(3,[(8,ROrc.pcall (int u64 (↑(2^(O.l.getD k 0).toNat):Int))),(10,ROrc.callS (tup 0 (nth [])) [(2,cells false 1 fun (x:Nat)=>ah O),(5,cells false (m*1) (aM L))] g)])]) (fun Q=>(fun (u1:List AObj)=>(fun (u2:Int)=>(fun (u3:Int)=>(fun (u4:Bool)=>1<=1/\1<=1/\(u4=true->Wp Tryd.prog R 47 6 Rd.top (aw Tryd.prog 78) [0,1,0] (aS Tryd.prog R 47 6 Rd.top (aw Tryd.prog 78) Q [Kont.blk 0]) (St.mk [(0,int i64 u3),(1,int u64 (s:Int)),(2,ref 0 0),(4,ref 2 0),(5,ref 3 0),(6,ref 4 0),(9,AV.bool u4)] u1 g))/\(u4=false->1<=1/\(decide (u3<u2)=true->1<=1/\(-9223372036854775808<=u3+1/\u3+1<=9223372036854775807)/\(true=true/\Does Tryd.prog R 78 [int i64 (u3+1),int u64 (s:Int),ref 0 0,ref 1 0,ref 2 0,ref 3 0,ref 4 0] u1 g (ret (tup 0 (nth []))) u1 g)/\Tables.follows Tryd.prog.toTables Departure.mixedOrders=true/\1<=1/\(-9223372036854775808<=u3+1/\u3+1<=9223372036854775807)/\1<=1/\(0<=u3/\u3<u2)/\1<=1/\(∀(hp:List AObj) (g:R.σ),true=true/\Does Tryd.prog R 79 [af O.l k] hp g (ret (int u64 (↑(2^(O.l.getD k 0).toNat):Int))) hp g)/\(true=true/\Does Tryd.prog R 78 [int i64 (u3+1),int u64 (IntKind.wrap u64 (↑(BitVec.toNat (BitVec.ofInt 64 (s:Int)|||BitVec.ofInt 64 (↑(2^(O.l.getD k 0).toNat):Int))):Int)),ref 0 0,ref 1 0,ref 2 0,ref 3 0,ref 4 0] u1 g (ret (tup 0 (nth []))) u1 g)/\Q AEx.normal (St.mk [] u1 g))/\(decide (u3<u2)=false->Wp Tryd.prog R 47 6 Rd.top (aw Tryd.prog 78) [0,1,1,1,1] (aS Tryd.prog R 47 6 Rd.top (aw Tryd.prog 78) Q [Kont.blk 0]) (St.mk [(0,int i64 u3),(1,int u64 (s:Int)),(2,ref 0 0),(4,ref 2 0),(5,ref 3 0),(6,ref 4 0),(14,AV.bool (decide (u3<u2)))] u1 g)))) ((m:Int)==(most:Int))) ((k:Int))) ((O.l.length:Int))) ([cells false 1 fun (x:Nat)=>ow true 5 m 1,cells false 1 fun (x:Nat)=>int i64 (most:Int),cells false 1 fun (x:Nat)=>fz O.2 1 (O.l.length) fun (i x:Nat)=>af O.l i,cells false 1 fun (x:Nat)=>fn 78 0 (nth []) 5 (nth [ref 0 0,ref 1 0,ref 2 0,ref 3 0,ref 4 0]),cells false 2 (nth [int i64 p.atoms,ad p.rules]),cells false (m*1) fun (a:Nat)=>fz Fz.auto 1 ((ao (L.getD a 0)).l.length) fun (i x:Nat)=>af (ao (L.getD a 0)).l i])) (fun _=>by kernel_rfl) ⟨by omega,by omega,fun hcc=>(nomatch (hz.symm.trans hcc)),fun _=>⟨by omega,fun _=>⟨by omega,by omega,⟨rfl,(i1 _ _)⟩,by kernel_rfl,by omega,by omega,by omega,by omega,by omega,(fun _ _=>⟨rfl,(d9 _ _ (by omega) _ _)⟩),⟨rfl,(i2 _ _)⟩,?_⟩,fun hcc=>(nomatch (hb.symm.trans hcc))⟩⟩
   refine(aq (aP _ _ rfl trivial rfl rfl rfl) (Bs _))
 ·intro R _ s m m' L L' g hs hL hmL hmm h hm' hne
  rw[e0] at h
  have h0:0<m:=by rw[hmL];exact List.length_pos_iff.2 hL
  have hf:¬m=most:=fun e=>by
   rw[if_pos (by omega)] at h
   subst h
   omega
  have hz:((m:Int)==(most:Int))=false:=by rw[beq_eq_false_iff_ne];omega
  rw[if_neg (by omega)] at h
  obtain⟨t,ht⟩:∃t,s|||2^(O.l.getD k 0).toNat=t:=⟨_,rfl⟩
  have ht24:t<2^24:=by rw[<-ht];exact hor24 s hs
  have hoS:=(hor s hs).trans (congrArg (fun n:Nat=>(n:Int)) ht)
  rw[ht] at h
  have hlen:=eQ (p:=p) (most:=most) (r:=r) (s:=s) (out:=L) (by omega)
  obtain⟨L1,hL1⟩:∃L1,stF p most r s L=L1:=⟨_,rfl⟩
  obtain⟨m1,hm1⟩:∃m1,m1=L1.length:=⟨_,rfl⟩
  rw[hL1] at h hlen
  have hlen2:=eQ (p:=p) (most:=most) (r:=r) (s:=t) (out:=L1) hlen.2.1
  rw[h] at hlen2
  have h01:0<m1:=by omega
  have h0':0<m':=by omega
  have hmm1:m1<=most:=by omega
  have hmm':m'<=most:=by omega
  have hL1n:L1≠[]:=List.length_pos_iff.1 (by omega)
  by_cases e1:m=m1
  ·have hLL:L1=L:=hlen.2.2 (by omega)
   subst hLL
   have i1:=fun (R:Res) [Tab LT R] (g:R.σ)=>ih.on R s m L1 g hs hL hmL hmm hL1
   have i2:∀(R:Res) [Tab LT R] (g:R.σ),Does Tryd.prog R 78 [.int .i64 ((k:Int)+1),.int .u64 (IntKind.u64.wrap ((BitVec.ofInt 64 (s:Int)|||BitVec.ofInt 64 ((2^(O.l.getD k 0).toNat:Nat):Int)).toNat:Int)),.ref 0 0,.ref 1 0,.ref 2 0,.ref 3 0,.ref 4 0] [.cells false 1 (fun _=>.ow true 5 m 1),.cells false 1 (fun _=>.int .i64 most),.cells false 1 (fun _=>ah O),.cells false 1 (fun _=>.fn 78 0 (nth []) 5 (nth [.ref 0 0,.ref 1 0,.ref 2 0,.ref 3 0,.ref 4 0])),.cells false 2 (nth [.int .i64 p.atoms,ad p.rules]),.cells false (m*1) (aM L1)] g (.ret (.tup 0 (nth []))) [.cells false 1 (fun _=>.ow true 6 m' 1),.cells false 1 (fun _=>.int .i64 most),.cells false 1 (fun _=>ah O),.cells false 1 (fun _=>.fn 78 0 (nth []) 5 (nth [.ref 0 0,.ref 1 0,.ref 2 0,.ref 3 0,.ref 4 0])),.cells false 2 (nth [.int .i64 p.atoms,ad p.rules]),.dead,.cells false (m'*1) (aM L')] g:=fun R _ g=>by rw[hoS];exact ih.ow R t m m' L1 L' g ht24 hL hmL hmm h hm' hne
   refine dR (nt:=47) (rs:=[]) (k0:=6) (by kernel_rfl) (by kernel_rfl) (by kernel_rfl) rfl ?_
   refine vcQ [[0,1,0],[0,1,1,1,1]] (lkL [(0,[0,1,2,4,5,6,9]),(1,[0,1,2,4,5,6,14]),(2,[0,1,4,5])]) (lkL [(2,[(4,ROrc.call (tup 0 (nth [])) [cells false 1 fun (x:Nat)=>ow true 5 m 1,cells false 1 fun (x:Nat)=>int i64 (most:Int),cells false 1 fun (x:Nat)=>ah O,cells false 1 fun (x:Nat)=>fn 78 0 (nth []) 5 (nth [ref 0 0,ref 1 0,ref 2 0,ref 3 0,ref 4 0]),cells false 2 (nth [int i64 p.atoms,ad p.rules]),cells false (m*1) (aM L1)] g)]),(3,[(8,ROrc.pcall (int u64 (↑(2^(O.l.getD k 0).toNat):Int))),(10,ROrc.callN (tup 0 (nth [])) [(0,cells false 1 fun (x:Nat)=>ow true 6 m' 1),(2,cells false 1 fun (x:Nat)=>ah O),(5,dead)] [cells false (m'*1) (aM L')] g)])]) (fun Q=>(fun (u1:List AObj)=>(fun (u2:List AObj)=>(fun (u3:Int)=>(fun (u4:Int)=>(fun (u5:Bool)=>1<=1/\1<=1/\(u5=true->Wp Tryd.prog R 47 6 Rd.top (aw Tryd.prog 78) [0,1,0] (aS Tryd.prog R 47 6 Rd.top (aw Tryd.prog 78) Q [Kont.blk 0]) (St.mk [(0,int i64 u4),(1,int u64 (s:Int)),(2,ref 0 0),(4,ref 2 0),(5,ref 3 0),(6,ref 4 0),(9,AV.bool u5)] u1 g))/\(u5=false->1<=1/\(decide (u4<u3)=true->1<=1/\(-9223372036854775808<=u4+1/\u4+1<=9223372036854775807)/\(true=true/\Does Tryd.prog R 78 [int i64 (u4+1),int u64 (s:Int),ref 0 0,ref 1 0,ref 2 0,ref 3 0,ref 4 0] u1 g (ret (tup 0 (nth []))) u1 g)/\Tables.follows Tryd.prog.toTables Departure.mixedOrders=true/\1<=1/\(-9223372036854775808<=u4+1/\u4+1<=9223372036854775807)/\1<=1/\(0<=u4/\u4<u3)/\1<=1/\(∀(hp:List AObj) (g:R.σ),true=true/\Does Tryd.prog R 79 [af O.l k] hp g (ret (int u64 (↑(2^(O.l.getD k 0).toNat):Int))) hp g)/\(true=true/\Does Tryd.prog R 78 [int i64 (u4+1),int u64 (IntKind.wrap u64 (↑(BitVec.toNat (BitVec.ofInt 64 (s:Int)|||BitVec.ofInt 64 (↑(2^(O.l.getD k 0).toNat):Int))):Int)),ref 0 0,ref 1 0,ref 2 0,ref 3 0,ref 4 0] u1 g (ret (tup 0 (nth []))) u2 g)/\Q AEx.normal (St.mk [] u2 g))/\(decide (u4<u3)=false->Wp Tryd.prog R 47 6 Rd.top (aw Tryd.prog 78) [0,1,1,1,1] (aS Tryd.prog R 47 6 Rd.top (aw Tryd.prog 78) Q [Kont.blk 0]) (St.mk [(0,int i64 u4),(1,int u64 (s:Int)),(2,ref 0 0),(4,ref 2 0),(5,ref 3 0),(6,ref 4 0),(14,AV.bool (decide (u4<u3)))] u1 g)))) ((m:Int)==(most:Int))) ((k:Int))) ((O.l.length:Int))) ([cells false 1 fun (x:Nat)=>ow true 6 m' 1,cells false 1 fun (x:Nat)=>int i64 (most:Int),cells false 1 fun (x:Nat)=>fz O.2 1 (O.l.length) fun (i x:Nat)=>af O.l i,cells false 1 fun (x:Nat)=>fn 78 0 (nth []) 5 (nth [ref 0 0,ref 1 0,ref 2 0,ref 3 0,ref 4 0]),cells false 2 (nth [int i64 p.atoms,ad p.rules]),dead,cells false (m'*1) fun (a:Nat)=>fz Fz.auto 1 ((ao (L'.getD a 0)).l.length) fun (i x:Nat)=>af (ao (L'.getD a 0)).l i])) ([cells false 1 fun (x:Nat)=>ow true 5 m 1,cells false 1 fun (x:Nat)=>int i64 (most:Int),cells false 1 fun (x:Nat)=>fz O.2 1 (O.l.length) fun (i x:Nat)=>af O.l i,cells false 1 fun (x:Nat)=>fn 78 0 (nth []) 5 (nth [ref 0 0,ref 1 0,ref 2 0,ref 3 0,ref 4 0]),cells false 2 (nth [int i64 p.atoms,ad p.rules]),cells false (m*1) fun (a:Nat)=>fz Fz.auto 1 ((ao (L1.getD a 0)).l.length) fun (i x:Nat)=>af (ao (L1.getD a 0)).l i])) (fun _=>by kernel_rfl) ⟨by omega,by omega,fun hcc=>(nomatch (hz.symm.trans hcc)),fun _=>⟨by omega,fun _=>⟨by omega,by omega,⟨rfl,(i1 _ _)⟩,by kernel_rfl,by omega,by omega,by omega,by omega,by omega,(fun _ _=>⟨rfl,(d9 _ _ (by omega) _ _)⟩),⟨rfl,(i2 _ _)⟩,?_⟩,fun hcc=>(nomatch (hb.symm.trans hcc))⟩⟩
   refine(aq (aP _ _ rfl trivial rfl rfl rfl) (Bs _))
  ·have i1:=fun (R:Res) [Tab LT R] (g:R.σ)=>ih.ow R s m m1 L L1 g hs hL hmL hmm hL1 hm1 e1
   by_cases e2:m1=m'
   ·have hLL:L'=L1:=hlen2.2.2 (by omega)
    subst hLL
    subst e2
    have i2:∀(R:Res) [Tab LT R] (g:R.σ),Does Tryd.prog R 78 [.int .i64 ((k:Int)+1),.int .u64 (IntKind.u64.wrap ((BitVec.ofInt 64 (s:Int)|||BitVec.ofInt 64 ((2^(O.l.getD k 0).toNat:Nat):Int)).toNat:Int)),.ref 0 0,.ref 1 0,.ref 2 0,.ref 3 0,.ref 4 0] [.cells false 1 (fun _=>.ow true 5 m1 1),.cells false 1 (fun _=>.int .i64 most),.cells false 1 (fun _=>ah O),.cells false 1 (fun _=>.fn 78 0 (nth []) 5 (nth [.ref 0 0,.ref 1 0,.ref 2 0,.ref 3 0,.ref 4 0])),.cells false 2 (nth [.int .i64 p.atoms,ad p.rules]),.cells false (m1*1) (aM L')] g (.ret (.tup 0 (nth []))) [.cells false 1 (fun _=>.ow true 5 m1 1),.cells false 1 (fun _=>.int .i64 most),.cells false 1 (fun _=>ah O),.cells false 1 (fun _=>.fn 78 0 (nth []) 5 (nth [.ref 0 0,.ref 1 0,.ref 2 0,.ref 3 0,.ref 4 0])),.cells false 2 (nth [.int .i64 p.atoms,ad p.rules]),.cells false (m1*1) (aM L')] g:=fun R _ g=>by rw[hoS];exact ih.on R t m1 L' g ht24 hL1n hm1 hmm1 h
    refine dR (nt:=47) (rs:=[]) (k0:=6) (by kernel_rfl) (by kernel_rfl) (by kernel_rfl) rfl ?_
    refine vcQ [[0,1,0],[0,1,1,1,1]] (lkL [(0,[0,1,2,4,5,6,9]),(1,[0,1,2,4,5,6,14]),(2,[0,1,4,5])]) (lkL [(2,[(4,ROrc.call (tup 0 (nth [])) [cells false 1 fun (x:Nat)=>ow true 6 m1 1,cells false 1 fun (x:Nat)=>int i64 (most:Int),cells false 1 fun (x:Nat)=>ah O,cells false 1 fun (x:Nat)=>fn 78 0 (nth []) 5 (nth [ref 0 0,ref 1 0,ref 2 0,ref 3 0,ref 4 0]),cells false 2 (nth [int i64 p.atoms,ad p.rules]),dead,cells false (m1*1) (aM L')] g)]),(3,[(8,ROrc.pcall (int u64 (↑(2^(O.l.getD k 0).toNat):Int))),(10,ROrc.kcall (tup 0 (nth [])))])]) (fun Q=>(fun (u1:List AObj)=>(fun (u2:List AObj)=>(fun (u3:Int)=>(fun (u4:Int)=>(fun (u5:Bool)=>1<=1/\1<=1/\(u5=true->Wp Tryd.prog R 47 6 Rd.top (aw Tryd.prog 78) [0,1,0] (aS Tryd.prog R 47 6 Rd.top (aw Tryd.prog 78) Q [Kont.blk 0]) (St.mk [(0,int i64 u4),(1,int u64 (s:Int)),(2,ref 0 0),(4,ref 2 0),(5,ref 3 0),(6,ref 4 0),(9,AV.bool u5)] u2 g))/\(u5=false->1<=1/\(decide (u4<u3)=true->1<=1/\(-9223372036854775808<=u4+1/\u4+1<=9223372036854775807)/\(true=true/\Does Tryd.prog R 78 [int i64 (u4+1),int u64 (s:Int),ref 0 0,ref 1 0,ref 2 0,ref 3 0,ref 4 0] u2 g (ret (tup 0 (nth []))) u1 g)/\Tables.follows Tryd.prog.toTables Departure.mixedOrders=true/\1<=1/\(-9223372036854775808<=u4+1/\u4+1<=9223372036854775807)/\1<=1/\(0<=u4/\u4<u3)/\1<=1/\(∀(hp:List AObj) (g:R.σ),true=true/\Does Tryd.prog R 79 [af O.l k] hp g (ret (int u64 (↑(2^(O.l.getD k 0).toNat):Int))) hp g)/\(true=true/\Does Tryd.prog R 78 [int i64 (u4+1),int u64 (IntKind.wrap u64 (↑(BitVec.toNat (BitVec.ofInt 64 (s:Int)|||BitVec.ofInt 64 (↑(2^(O.l.getD k 0).toNat):Int))):Int)),ref 0 0,ref 1 0,ref 2 0,ref 3 0,ref 4 0] u1 g (ret (tup 0 (nth []))) u1 g)/\Q AEx.normal (St.mk [] u1 g))/\(decide (u4<u3)=false->Wp Tryd.prog R 47 6 Rd.top (aw Tryd.prog 78) [0,1,1,1,1] (aS Tryd.prog R 47 6 Rd.top (aw Tryd.prog 78) Q [Kont.blk 0]) (St.mk [(0,int i64 u4),(1,int u64 (s:Int)),(2,ref 0 0),(4,ref 2 0),(5,ref 3 0),(6,ref 4 0),(14,AV.bool (decide (u4<u3)))] u2 g)))) ((m:Int)==(most:Int))) ((k:Int))) ((O.l.length:Int))) ([cells false 1 fun (x:Nat)=>ow true 5 m 1,cells false 1 fun (x:Nat)=>int i64 (most:Int),cells false 1 fun (x:Nat)=>fz O.2 1 (O.l.length) fun (i x:Nat)=>af O.l i,cells false 1 fun (x:Nat)=>fn 78 0 (nth []) 5 (nth [ref 0 0,ref 1 0,ref 2 0,ref 3 0,ref 4 0]),cells false 2 (nth [int i64 p.atoms,ad p.rules]),cells false (m*1) fun (a:Nat)=>fz Fz.auto 1 ((ao (L.getD a 0)).l.length) fun (i x:Nat)=>af (ao (L.getD a 0)).l i])) ([cells false 1 fun (x:Nat)=>ow true 6 m1 1,cells false 1 fun (x:Nat)=>int i64 (most:Int),cells false 1 fun (x:Nat)=>fz O.2 1 (O.l.length) fun (i x:Nat)=>af O.l i,cells false 1 fun (x:Nat)=>fn 78 0 (nth []) 5 (nth [ref 0 0,ref 1 0,ref 2 0,ref 3 0,ref 4 0]),cells false 2 (nth [int i64 p.atoms,ad p.rules]),dead,cells false (m1*1) fun (a:Nat)=>fz Fz.auto 1 ((ao (L'.getD a 0)).l.length) fun (i x:Nat)=>af (ao (L'.getD a 0)).l i])) (fun _=>by kernel_rfl) ⟨by omega,by omega,fun hcc=>(nomatch (hz.symm.trans hcc)),fun _=>⟨by omega,fun _=>⟨by omega,by omega,⟨rfl,(i1 _ _)⟩,by kernel_rfl,by omega,by omega,by omega,by omega,by omega,(fun _ _=>⟨rfl,(d9 _ _ (by omega) _ _)⟩),⟨rfl,(er (T:=LT) inferInstance [0,1,2,3,4,6] 7 (fun R _ g=>i2 R g) rfl rfl rfl (by exact⟨⟨rfl,Nat.le_refl _,fun j hj=>match j,hj with|0,_=>(Bs _) ⟩,⟨rfl,Nat.le_refl _,fun j hj=>match j,hj with|0,_=>(Bs _) ⟩,⟨rfl,Nat.le_refl _,fun j hj=>match j,hj with|0,_=>(Bs _) ⟩,⟨rfl,Nat.le_refl _,fun j hj=>match j,hj with|0,_=>(Le.fn (fun i hi=>absurd hi (by omega)) (fun i hi=>match i,hi with|0,_=>(Bs _)|1,_=>(Bs _)|2,_=>(Bs _)|3,_=>(Bs _)|4,_=>(Bs _) )) ⟩,⟨rfl,Nat.le_refl _,fun j hj=>match j,hj with|0,_=>(Bs _)|1,_=>(Bs _) ⟩,⟨rfl,Nat.le_refl _,fun j hj=>(by first|exact bt (by first|exact trivial|apply fO)|exact Bt (gN rfl).symm)⟩,trivial⟩) (by exact⟨by omega,by omega,by omega,by omega,by omega,by omega,trivial⟩) (by exact⟨bt (by exact trivial),bt (by exact trivial),Bs _,Bs _,Bs _,Bs _,Bs _,trivial⟩) (by exact bK (by exact trivial)) (by exact⟨⟨rfl,Nat.le_refl _,fun j hj=>match j,hj with|0,_=>(Bs _) ⟩,⟨rfl,Nat.le_refl _,fun j hj=>match j,hj with|0,_=>(Bs _) ⟩,⟨rfl,Nat.le_refl _,fun j hj=>match j,hj with|0,_=>(Bs _) ⟩,⟨rfl,Nat.le_refl _,fun j hj=>match j,hj with|0,_=>(Le.fn (fun i hi=>absurd hi (by omega)) (fun i hi=>match i,hi with|0,_=>(Bs _)|1,_=>(Bs _)|2,_=>(Bs _)|3,_=>(Bs _)|4,_=>(Bs _) )) ⟩,⟨rfl,Nat.le_refl _,fun j hj=>match j,hj with|0,_=>(Bs _)|1,_=>(Bs _) ⟩,trivial,⟨rfl,Nat.le_refl _,fun j hj=>(by first|exact bK (by first|exact trivial|apply fO)|exact Bt (gN rfl))⟩,trivial⟩))⟩,?_⟩,fun hcc=>(nomatch (hb.symm.trans hcc))⟩⟩
    refine(aq (aP _ _ rfl trivial rfl rfl rfl) (Bs _))
   ·have i2:∀(R:Res) [Tab LT R] (g:R.σ),Does Tryd.prog R 78 [.int .i64 ((k:Int)+1),.int .u64 (IntKind.u64.wrap ((BitVec.ofInt 64 (s:Int)|||BitVec.ofInt 64 ((2^(O.l.getD k 0).toNat:Nat):Int)).toNat:Int)),.ref 0 0,.ref 1 0,.ref 2 0,.ref 3 0,.ref 4 0] [.cells false 1 (fun _=>.ow true 5 m1 1),.cells false 1 (fun _=>.int .i64 most),.cells false 1 (fun _=>ah O),.cells false 1 (fun _=>.fn 78 0 (nth []) 5 (nth [.ref 0 0,.ref 1 0,.ref 2 0,.ref 3 0,.ref 4 0])),.cells false 2 (nth [.int .i64 p.atoms,ad p.rules]),.cells false (m1*1) (aM L1)] g (.ret (.tup 0 (nth []))) [.cells false 1 (fun _=>.ow true 6 m' 1),.cells false 1 (fun _=>.int .i64 most),.cells false 1 (fun _=>ah O),.cells false 1 (fun _=>.fn 78 0 (nth []) 5 (nth [.ref 0 0,.ref 1 0,.ref 2 0,.ref 3 0,.ref 4 0])),.cells false 2 (nth [.int .i64 p.atoms,ad p.rules]),.dead,.cells false (m'*1) (aM L')] g:=fun R _ g=>by rw[hoS];exact ih.ow R t m1 m' L1 L' g ht24 hL1n hm1 hmm1 h hm' e2
    refine dR (nt:=47) (rs:=[]) (k0:=6) (by kernel_rfl) (by kernel_rfl) (by kernel_rfl) rfl ?_
    refine vcQ [[0,1,0],[0,1,1,1,1]] (lkL [(0,[0,1,2,4,5,6,9]),(1,[0,1,2,4,5,6,14]),(2,[0,1,4,5])]) (lkL [(2,[(4,ROrc.call (tup 0 (nth [])) [cells false 1 fun (x:Nat)=>ow true 6 m1 1,cells false 1 fun (x:Nat)=>int i64 (most:Int),cells false 1 fun (x:Nat)=>ah O,cells false 1 fun (x:Nat)=>fn 78 0 (nth []) 5 (nth [ref 0 0,ref 1 0,ref 2 0,ref 3 0,ref 4 0]),cells false 2 (nth [int i64 p.atoms,ad p.rules]),dead,cells false (m1*1) (aM L1)] g)]),(3,[(8,ROrc.pcall (int u64 (↑(2^(O.l.getD k 0).toNat):Int))),(10,ROrc.callN (tup 0 (nth [])) [(0,cells false 1 fun (j:Nat)=>ow true 7 m' 1),(6,dead)] [cells false (m'*1) (aM L')] g)])]) (fun Q=>(fun (u1:List AObj)=>(fun (u2:List AObj)=>(fun (u3:List AObj)=>(fun (u4:Int)=>(fun (u5:Int)=>(fun (u6:Bool)=>1<=1/\1<=1/\(u6=true->Wp Tryd.prog R 47 6 Rd.top (aw Tryd.prog 78) [0,1,0] (aS Tryd.prog R 47 6 Rd.top (aw Tryd.prog 78) Q [Kont.blk 0]) (St.mk [(0,int i64 u5),(1,int u64 (s:Int)),(2,ref 0 0),(4,ref 2 0),(5,ref 3 0),(6,ref 4 0),(9,AV.bool u6)] u1 g))/\(u6=false->1<=1/\(decide (u5<u4)=true->1<=1/\(-9223372036854775808<=u5+1/\u5+1<=9223372036854775807)/\(true=true/\Does Tryd.prog R 78 [int i64 (u5+1),int u64 (s:Int),ref 0 0,ref 1 0,ref 2 0,ref 3 0,ref 4 0] u1 g (ret (tup 0 (nth []))) u3 g)/\Tables.follows Tryd.prog.toTables Departure.mixedOrders=true/\1<=1/\(-9223372036854775808<=u5+1/\u5+1<=9223372036854775807)/\1<=1/\(0<=u5/\u5<u4)/\1<=1/\(∀(hp:List AObj) (g:R.σ),true=true/\Does Tryd.prog R 79 [af O.l k] hp g (ret (int u64 (↑(2^(O.l.getD k 0).toNat):Int))) hp g)/\(true=true/\Does Tryd.prog R 78 [int i64 (u5+1),int u64 (IntKind.wrap u64 (↑(BitVec.toNat (BitVec.ofInt 64 (s:Int)|||BitVec.ofInt 64 (↑(2^(O.l.getD k 0).toNat):Int))):Int)),ref 0 0,ref 1 0,ref 2 0,ref 3 0,ref 4 0] u3 g (ret (tup 0 (nth []))) u2 g)/\Q AEx.normal (St.mk [] u2 g))/\(decide (u5<u4)=false->Wp Tryd.prog R 47 6 Rd.top (aw Tryd.prog 78) [0,1,1,1,1] (aS Tryd.prog R 47 6 Rd.top (aw Tryd.prog 78) Q [Kont.blk 0]) (St.mk [(0,int i64 u5),(1,int u64 (s:Int)),(2,ref 0 0),(4,ref 2 0),(5,ref 3 0),(6,ref 4 0),(14,AV.bool (decide (u5<u4)))] u1 g)))) ((m:Int)==(most:Int))) ((k:Int))) ((O.l.length:Int))) ([cells false 1 fun (x:Nat)=>ow true 6 m1 1,cells false 1 fun (x:Nat)=>int i64 (most:Int),cells false 1 fun (x:Nat)=>fz O.2 1 (O.l.length) fun (i x:Nat)=>af O.l i,cells false 1 fun (x:Nat)=>fn 78 0 (nth []) 5 (nth [ref 0 0,ref 1 0,ref 2 0,ref 3 0,ref 4 0]),cells false 2 (nth [int i64 p.atoms,ad p.rules]),dead,cells false (m1*1) fun (a:Nat)=>fz Fz.auto 1 ((ao (L1.getD a 0)).l.length) fun (i x:Nat)=>af (ao (L1.getD a 0)).l i])) ([cells false 1 fun (j:Nat)=>ow true 7 m' 1,cells false 1 fun (x:Nat)=>int i64 (most:Int),cells false 1 fun (x:Nat)=>fz O.2 1 (O.l.length) fun (i x:Nat)=>af O.l i,cells false 1 fun (x:Nat)=>fn 78 0 (nth []) 5 (nth [ref 0 0,ref 1 0,ref 2 0,ref 3 0,ref 4 0]),cells false 2 (nth [int i64 p.atoms,ad p.rules]),dead,dead,cells false (m'*1) fun (a:Nat)=>fz Fz.auto 1 ((ao (L'.getD a 0)).l.length) fun (i x:Nat)=>af (ao (L'.getD a 0)).l i])) ([cells false 1 fun (x:Nat)=>ow true 5 m 1,cells false 1 fun (x:Nat)=>int i64 (most:Int),cells false 1 fun (x:Nat)=>fz O.2 1 (O.l.length) fun (i x:Nat)=>af O.l i,cells false 1 fun (x:Nat)=>fn 78 0 (nth []) 5 (nth [ref 0 0,ref 1 0,ref 2 0,ref 3 0,ref 4 0]),cells false 2 (nth [int i64 p.atoms,ad p.rules]),cells false (m*1) fun (a:Nat)=>fz Fz.auto 1 ((ao (L.getD a 0)).l.length) fun (i x:Nat)=>af (ao (L.getD a 0)).l i])) (fun _=>by kernel_rfl) ⟨by omega,by omega,fun hcc=>(nomatch (hz.symm.trans hcc)),fun _=>⟨by omega,fun _=>⟨by omega,by omega,⟨rfl,(i1 _ _)⟩,by kernel_rfl,by omega,by omega,by omega,by omega,by omega,(fun _ _=>⟨rfl,(d9 _ _ (by omega) _ _)⟩),⟨rfl,(er (T:=LT) inferInstance [0,1,2,3,4,6] 7 (fun R _ g=>i2 R g) rfl rfl rfl (by exact⟨⟨rfl,Nat.le_refl _,fun j hj=>match j,hj with|0,_=>(Bs _) ⟩,⟨rfl,Nat.le_refl _,fun j hj=>match j,hj with|0,_=>(Bs _) ⟩,⟨rfl,Nat.le_refl _,fun j hj=>match j,hj with|0,_=>(Bs _) ⟩,⟨rfl,Nat.le_refl _,fun j hj=>match j,hj with|0,_=>(Le.fn (fun i hi=>absurd hi (by omega)) (fun i hi=>match i,hi with|0,_=>(Bs _)|1,_=>(Bs _)|2,_=>(Bs _)|3,_=>(Bs _)|4,_=>(Bs _) )) ⟩,⟨rfl,Nat.le_refl _,fun j hj=>match j,hj with|0,_=>(Bs _)|1,_=>(Bs _) ⟩,⟨rfl,Nat.le_refl _,fun j hj=>(by first|exact bt (by first|exact trivial|apply fO)|exact Bt (gN rfl).symm)⟩,trivial⟩) (by exact⟨by omega,by omega,by omega,by omega,by omega,by omega,trivial⟩) (by exact⟨bt (by exact trivial),bt (by exact trivial),Bs _,Bs _,Bs _,Bs _,Bs _,trivial⟩) (by exact bK (by exact trivial)) (by exact⟨Bu,⟨rfl,Nat.le_refl _,fun j hj=>match j,hj with|0,_=>(Bs _) ⟩,⟨rfl,Nat.le_refl _,fun j hj=>match j,hj with|0,_=>(Bs _) ⟩,⟨rfl,Nat.le_refl _,fun j hj=>match j,hj with|0,_=>(Le.fn (fun i hi=>absurd hi (by omega)) (fun i hi=>match i,hi with|0,_=>(Bs _)|1,_=>(Bs _)|2,_=>(Bs _)|3,_=>(Bs _)|4,_=>(Bs _) )) ⟩,⟨rfl,Nat.le_refl _,fun j hj=>match j,hj with|0,_=>(Bs _)|1,_=>(Bs _) ⟩,trivial,trivial,⟨rfl,Nat.le_refl _,fun j hj=>(by first|exact bK (by first|exact trivial|apply fO)|exact Bt (gN rfl))⟩,trivial⟩))⟩,?_⟩,fun hcc=>(nomatch (hb.symm.trans hcc))⟩⟩
    refine mc (.tup 0 (nth [])) _ rfl trivial ?_
    refine d5 [0,1,2,3,4,5,7] 8 ?_ ?_ ?_ ?_ ?_ ?_ ?_
    ·rfl
    ·rfl
    ·rfl
    ·rfl
    ·rfl
    ·exact⟨Bs _,trivial⟩
    ·exact⟨⟨rfl,Nat.le_refl _,fun j hj=>Bs _⟩,Bv _,Bv _,⟨rfl,Nat.le_refl _,fun j hj=>md⟩,⟨rfl,Nat.le_refl _,fun j hj=>match j,hj with|0,_=>Bs _|1,_=>bt (by exact trivial)⟩,trivial,⟨rfl,Nat.le_refl _,fun j hj=>Bs _⟩,trivial⟩
def ef (p:Prg):Nat:=aG (ak p).2 3 p.atoms.toNat
def hG (p:Prg):Nat:=aG (ak p).2 2 p.atoms.toNat
def stP (p:Prg)(most:Nat):List Nat:=stF p most (bv (ef p)) (hG p) []
theorem oX {p:Prg}{most:Nat}{O:KL Int}(hm:1<=most/\most<=100)(hO:O.l.length<=10)(hOa:∀a,a∈O.l->0<=a/\a<24)(hl:p.rules.l.length<1000000)(hr:∀r,r∈p.rules.l->aE r):∀(j k:Nat),k+j=O.l.length->FromC p most O (O.l.drop k) (k:Int)
 |0,k,h=>by
  have hk:k=O.l.length:=by omega
  subst hk
  rw[List.drop_length]
  exact Ac hm hO hl hr
 |j+1,k,h=>by
  rw[fQ O.l 0 (show k<O.l.length by omega)]
  exact Ad hm hO omg (hOa _ (bO O.l 0 omg)) (oX hm hO hOa hl hr j (k+1) omg)
theorem ta {s:Nat}:∀a,a∈(ao s).l->0<=a/\a<24:=by
 intro a ha
 obtain⟨b,hb,rfl⟩:=List.mem_map.1 (show a∈(ai s).map (fun (a:Nat)=>(a:Int)) from ha)
 have:=iS hb
 omega
theorem Ae (R:Res)[Tab LT R](p:Prg)(most:Nat)(hb:aD p=true)(hm:1<=most/\most<=100)(hO:(bv (ef p)).length<=10)(hN:stP p most=[])(g:R.σ):Does Tryd.prog R 27 [av p,.int .i64 most] [] g (.ret (.tup 2 (nth [.fz .nil 0 0 (fun _ _=>.any),.int .i64 0]))) [] g:=by
 obtain⟨hl,hr,hp,hh,hx⟩:=ez hb
 have hs:eK p:=gZ hb
 have hp':1<=p.atoms/\p.atoms<=24:=hp
 have hc:(bif ((if aD p then(0:Int) else 2) != 0) then true else !decide (1<=(most:Int)/\(most:Int)<=100))=false:=by
  rw[hb,decide_eq_true (by omega)]
  rfl
 have hD:=fun (R:Res) [Tab LT R] (g:R.σ)=>oJ R p hl hr hp hh g
 have hC:=fun (R:Res) [Tab LT R] (s:Nat) (hs:s<2^24) (g:R.σ)=>kc R s hs g
 have hlt:aG (ak p).2 3 p.atoms.toNat<2^24:=iU (by omega)
 have hS:=fun (R:Res) (g:R.σ)=>mb R (ak p).2 p.atoms 3 (by omega) g
 have hS2:=fun (R:Res) (g:R.σ)=>mb R (ak p).2 p.atoms 2 (by omega) g
 have hgt:decide ((10:Int)<((ao (aG (ak p).2 3 p.atoms.toNat)).l.length:Int))=false:=decide_eq_false (by
  have hO:(ao (aG (ak p).2 3 p.atoms.toNat)).l.length<=10:=hO
  omega)
 have hF0:=(oX (p:=p) (most:=most) (O:=ao (ef p)) hm hO ta hl hr (ao (ef p)).l.length 0 (by omega)).nn
 rw[List.drop_zero] at hF0
 have hF:=fun (R:Res) [Tab LT R] (g:R.σ)=>hF0 R (hG p) g (iU (by omega)) hN
 unfold hG ef at hF
 clear hF0
 refine dR (nt:=45) (rs:=[.tmp 4,.tmp 5]) (k0:=0) (by kernel_rfl) (by kernel_rfl) (by kernel_rfl) rfl ?_
 refine vcQ [[1,0,1,0],[1,1,1,1,0,1,0]] (lkL [(0,[2,3]),(1,[2,3,18]),(3,[2,3,7]),(4,[2,3,7,8]),(5,[2,3,7,8,34]),(7,[2,3,7,8,9]),(8,[2,3,7,8,9,10]),(9,[2,7,9,10]),(10,[9]),(11,[4,5])]) (lkL [(1,[(1,ROrc.pcall (int i64 (if aD p=true then 0 else 2))),(5,ROrc.pcall (AV.bool (decide (1<=(most:Int)/\(most:Int)<=100))))]),(3,[(1,ROrc.call (tup 2 (nth [fz Fz.auto 2 ((aA (ak p).fst).l.length) fun (i:Nat)=>cS ((aA (ak p).fst).l.getD i default),ref 2 0])) [cells false 2 (nth [int i64 p.atoms,ad p.rules]),cells false 1 fun (a:Nat)=>int i64 (most:Int),cells false 27 (aN (ak p).snd)] g)]),(4,[(5,ROrc.lcall (int u64 (↑(aG (ak p).snd 3 (p.atoms.toNat)):Int)) [2]),(6,ROrc.callN (fn 105 0 (nth []) 1 (nth [ref (List.length [cells false 2 (nth [int i64 p.atoms,ad p.rules]),cells false 1 fun (a:Nat)=>int i64 (most:Int),cells false 27 (aN (ak p).snd)]) 0])) [] [cells false 1 fun (x:Nat)=>int u64 (↑(aG (ak p).snd 3 (p.atoms.toNat)):Int)] g),(7,ROrc.callS (fz Fz.auto 1 ((ao (aG (ak p).snd 3 (p.atoms.toNat))).l.length) fun (i x:Nat)=>af (ao (aG (ak p).snd 3 (p.atoms.toNat))).l i) [(3,cells false 1 fun (j:Nat)=>any)] g),(9,ROrc.val (Orc.obj (nth [fz Fz.auto 1 ((ao (aG (ak p).snd 3 (p.atoms.toNat))).l.length) fun (i x:Nat)=>af (ao (aG (ak p).snd 3 (p.atoms.toNat))).l i])))]),(9,[(1,ROrc.val (Orc.obj (nth [fn 78 0 (nth []) 5 (nth [ref 5 0,ref 1 0,ref 4 0,ref 6 0,ref 0 0])])))]),(10,[(6,ROrc.lcall (int u64 (↑(aG (ak p).snd 2 (p.atoms.toNat)):Int)) [2]),(7,ROrc.kcall (tup 0 (nth [])))])]) (fun Q=>(fun (u1:List AObj)=>(fun (u2:Nat)=>(fun (u3:Int)=>(fun (u4:AObj)=>(fun (u5:AObj)=>(fun (u6:AV)=>(fun (u7:AObj)=>(fun (u8:Bool)=>(fun (u9:Int)=>(fun (u10:List AV)=>(fun (u11:AV)=>(fun (u12:List AObj)=>(fun (u13:Int)=>2<=2/\(∀(hp:List AObj) (g:R.σ),true=true/\Does Tryd.prog R 16 [av p] hp g (ret (int i64 u13)) hp g)/\((!u13 != 0)=true->1<=1)/\((!u13 != 0)=true->∀(hp:List AObj) (g:R.σ),true=true/\Does Tryd.prog R 58 [int i64 u3,int i64 1,int i64 100] hp g (ret (AV.bool (decide (1<=u3/\u3<=100)))) hp g)/\(u8=true->Wp Tryd.prog R 45 0 Rd.top (aw Tryd.prog 27) [1,0,1,0] (aS Tryd.prog R 45 0 Rd.top (aw Tryd.prog 27) Q [Kont.seq [1,1]]) (St.mk [(2,ref 0 0),(3,ref 1 0),(18,AV.bool u8)] [u4,u5] g))/\(u8=false->2<=2/\(true=true/\Does Tryd.prog R 60 [av p] [u4,u5] g (ret (tup 2 (nth [fz Fz.auto 2 ((aA (ak p).fst).l.length) fun (i:Nat)=>cS ((aA (ak p).fst).l.getD i default),ref 2 0]))) [u4,u5,u7] g)/\Tables.follows Tryd.prog.toTables Departure.mixedOrders=true/\1<=2/\(∀(hp':List AObj) (g':R.σ),SameO [2] [u4,u5,u7] hp'->true=true/\Does Tryd.prog R 76 [ref 2 2,int i64 p.atoms,int i64 3] hp' g' (ret (int u64 (u2:Int))) hp' g')/\(true=true/\Does Tryd.prog R 77 [int u64 (u2:Int)] [u4,u5,u7] g (ret (fn 105 0 (nth []) 1 (nth [ref 3 0]))) u12 g)/\(true=true/\Does Tryd.prog R 75 [fn 105 0 (nth []) 1 (nth [ref 3 0])] u12 g (ret u6) [u4,u5,u7,cells false 1 fun (j:Nat)=>any] g)/\1<=1/\(∀(c:Nat),c<1->nth [u6] c=al (fun (a:Nat)=>fz Fz.nil 0 0 fun _ _=>any) 0 1 (fun (x:Nat)=>u6) c)/\1<=1/\(decide (u9 > 10)=true->Wp Tryd.prog R 45 0 Rd.top (aw Tryd.prog 27) [1,1,1,1,0,1,0] (aS Tryd.prog R 45 0 Rd.top (aw Tryd.prog 27) Q [Kont.seq [1,1,1,1,1]]) (St.mk [(2,ref 0 0),(3,ref 1 0),(7,ref 2 0),(8,ref 4 0),(34,AV.bool (decide (u9 > 10)))] [u4,u5,u7,cells false 1 fun (j:Nat)=>any,cells false 1 (nth [u6])] g))/\(decide (u9 > 10)=false->1<=1/\(∀(c:Nat),c<1->nth [fn 78 0 (nth []) 5 (nth u10)] c=al (fun (a:Nat)=>AV.nilf) 0 1 (fun (x:Nat)=>fn 78 0 (nth []) 5 (nth u10)) c)/\Tables.follows Tryd.prog.toTables Departure.mixedOrders=true/\1<=1/\1<=2/\(∀(hp':List AObj) (g':R.σ),SameO [2] u1 hp'->true=true/\Does Tryd.prog R 76 [ref 2 2,int i64 p.atoms,int i64 2] hp' g' (ret u11) hp' g')/\(true=true/\Does Tryd.prog R 78 (int i64 0::u11::u10) u1 g (ret (tup 0 (nth []))) u1 g)/\1<=1/\Q AEx.ret (St.mk [(4,fz Fz.nil 0 0 fun _ _=>any),(5,int i64 0)] u1 g)))) (if aD p=true then 0 else 2)) ([u4,u5,u7,cells false 1 fun (x:Nat)=>int u64 (u2:Int)])) (int u64 (↑(aG (ak p).snd 2 (p.atoms.toNat)):Int))) ([ref 5 0,ref 1 0,ref 4 0,ref 6 0,ref 0 0])) ((↑((ao u2).l.length):Int))) (bif (if aD p=true then 0 else 2) != 0 then true else !decide (1<=u3/\u3<=100))) (cells false 27 (aN (ak p).snd))) (fz Fz.auto 1 ((ao u2).l.length) fun (i x:Nat)=>af (ao u2).l i)) (cells false 1 fun (a:Nat)=>int i64 u3)) (cells false 2 (nth [int i64 p.atoms,ad p.rules]))) ((most:Int))) (aG (ak p).snd 3 (p.atoms.toNat))) ([cells false 2 (nth [int i64 p.atoms,ad p.rules]),cells false 1 fun (a:Nat)=>int i64 (most:Int),cells false 27 (aN (ak p).snd),cells false 1 fun (j:Nat)=>any,cells false 1 (nth [fz Fz.auto 1 ((ao (aG (ak p).snd 3 (p.atoms.toNat))).l.length) fun (i x:Nat)=>af (ao (aG (ak p).snd 3 (p.atoms.toNat))).l i]),cells false 1 fun (a:Nat)=>fz Fz.nil 0 0 fun _ _=>any,cells false 1 (nth [fn 78 0 (nth []) 5 (nth [ref 5 0,ref 1 0,ref 4 0,ref 6 0,ref 0 0])])])) (fun _=>by kernel_rfl) ⟨by omega,(fun _ _=>⟨rfl,(gP _ _ _ _ (by omega))⟩),by omega,(fun hgd=>(fun _ _=>⟨rfl,(dG _ _ _ _ _ _)⟩)),fun hcc=>(nomatch (hc.symm.trans hcc)),fun _=>⟨by omega,⟨rfl,(er (T:=LT) inferInstance [] 2 (fun R _ g=>hD R g) rfl rfl rfl (by exact trivial) (by exact trivial) (by exact⟨bt (by exact⟨⟨trivial,trivial⟩,trivial⟩),trivial⟩) (by exact(Bw (fun i hi=>match i,hi with|0,_=>(Bs _)|1,_=>(Bs _) ))) (by exact⟨Bu,Bu,⟨rfl,Nat.le_refl _,fun j hj=>(by first|exact bK (by first|exact trivial|apply lu)|exact Bt (dv rfl))⟩,trivial⟩))⟩,by kernel_rfl,by omega,?_,⟨rfl,(cT _ _ _ _)⟩,⟨rfl,(er (T:=LT) inferInstance [3] 4 (fun R _ g=>hC R (aG (ak p).snd 3 (p.atoms.toNat)) (by omega) g) rfl rfl rfl (by exact⟨⟨rfl,Nat.le_refl _,fun j hj=>match j,hj with|0,_=>(Bs _) ⟩,trivial⟩) (by exact⟨by omega,trivial⟩) (by exact⟨(Le.fn (fun i hi=>absurd hi (by omega)) (fun i hi=>match i,hi with|0,_=>(Bs _) )),trivial⟩) (by exact bK (by exact trivial)) (by exact⟨Bu,Bu,Bu,Bu,trivial⟩))⟩,by omega,(fun c hc=>match c,hc with|0,_=>(by kernel_rfl) ),by omega,fun hcc=>(nomatch (hgt.symm.trans hcc)),fun _=>⟨by omega,(fun c hc=>match c,hc with|0,_=>(by kernel_rfl) ),by kernel_rfl,by omega,by omega,?_,⟨rfl,(er (T:=LT) inferInstance [5,1,4,6,0] 7 (fun R _ g=>hF R g) rfl rfl rfl (by exact⟨⟨rfl,Nat.le_refl _,fun j hj=>match j,hj with|0,_=>(Bs _) ⟩,⟨rfl,Nat.le_refl _,fun j hj=>match j,hj with|0,_=>(Bs _) ⟩,⟨rfl,Nat.le_refl _,fun j hj=>match j,hj with|0,_=>(Bs _) ⟩,⟨rfl,Nat.le_refl _,fun j hj=>match j,hj with|0,_=>(Le.fn (fun i hi=>absurd hi (by omega)) (fun i hi=>match i,hi with|0,_=>(Bs _)|1,_=>(Bs _)|2,_=>(Bs _)|3,_=>(Bs _)|4,_=>(Bs _) )) ⟩,⟨rfl,Nat.le_refl _,fun j hj=>match j,hj with|0,_=>(Bs _)|1,_=>(Bs _) ⟩,trivial⟩) (by exact⟨by omega,by omega,by omega,by omega,by omega,trivial⟩) (by exact⟨bt (by exact trivial),bt (by exact trivial),Bs _,Bs _,Bs _,Bs _,Bs _,trivial⟩) (by exact bK (by exact trivial)) (by exact⟨⟨rfl,Nat.le_refl _,fun j hj=>match j,hj with|0,_=>(Bs _)|1,_=>(Bs _) ⟩,⟨rfl,Nat.le_refl _,fun j hj=>match j,hj with|0,_=>(Bs _) ⟩,Bu,Bu,⟨rfl,Nat.le_refl _,fun j hj=>match j,hj with|0,_=>(Bs _) ⟩,⟨rfl,Nat.le_refl _,fun j hj=>match j,hj with|0,_=>(Bs _) ⟩,⟨rfl,Nat.le_refl _,fun j hj=>match j,hj with|0,_=>(Le.fn (fun i hi=>absurd hi (by omega)) (fun i hi=>match i,hi with|0,_=>(Bs _)|1,_=>(Bs _)|2,_=>(Bs _)|3,_=>(Bs _)|4,_=>(Bs _) )) ⟩,trivial⟩))⟩,by omega,?_⟩⟩⟩
 ·intro hp' g' hs'
  exact⟨rfl,jQ [2] (fun R g=>hS R g) (by exact⟨rfl,trivial⟩) rfl (by exact fun n=>⟨BC (fun j hj=>(dv trivial).symm),trivial⟩) ⟨by omega,trivial⟩ (by exact fun n=>⟨Bs _,Bs _,Bs _,trivial⟩) rfl (by exact fun n=>Bs _) (by exact fun n=>⟨BC (fun j hj=>dv trivial),trivial⟩) hp' g' hs'⟩
 ·intro hp' g' hs'
  exact⟨rfl,jQ [2] (fun R g=>hS2 R g) (by exact⟨rfl,trivial⟩) rfl (by exact fun n=>⟨BC (fun j hj=>(dv trivial).symm),trivial⟩) ⟨by omega,trivial⟩ (by exact fun n=>⟨Bs _,Bs _,Bs _,trivial⟩) rfl (by exact fun n=>Bs _) (by exact fun n=>⟨BC (fun j hj=>dv trivial),trivial⟩) hp' g' hs'⟩
 ·refine(aq (bw _ _ rfl trivial ⟨⟨trivial,trivial⟩,trivial⟩ rfl) (Bs _))
theorem Af (R:Res)[Tab LT R](p:Prg)(most:Nat)(hb:aD p=true)(hm:1<=most/\most<=100)(hO:(bv (ef p)).length<=10)(hN:stP p most≠[])(g:R.σ):Does Tryd.prog R 27 [av p,.int .i64 most] [] g (.ret (.tup 2 (nth [dw (stP p most).length (fun i=>ao ((stP p most).getD i 0)),.int .i64 0]))) [] g:=by
 obtain⟨hl,hr,hp,hh,hx⟩:=ez hb
 have hs:eK p:=gZ hb
 have hp':1<=p.atoms/\p.atoms<=24:=hp
 have hc:(bif ((if aD p then(0:Int) else 2) != 0) then true else !decide (1<=(most:Int)/\(most:Int)<=100))=false:=by
  rw[hb,decide_eq_true (by omega)]
  rfl
 have hD:=fun (R:Res) [Tab LT R] (g:R.σ)=>oJ R p hl hr hp hh g
 have hC:=fun (R:Res) [Tab LT R] (s:Nat) (hs:s<2^24) (g:R.σ)=>kc R s hs g
 have hlt:aG (ak p).2 3 p.atoms.toNat<2^24:=iU (by omega)
 have hS:=fun (R:Res) (g:R.σ)=>mb R (ak p).2 p.atoms 3 (by omega) g
 have hS2:=fun (R:Res) (g:R.σ)=>mb R (ak p).2 p.atoms 2 (by omega) g
 have hgt:decide ((10:Int)<((ao (aG (ak p).2 3 p.atoms.toNat)).l.length:Int))=false:=decide_eq_false (by
  have hO:(ao (aG (ak p).2 3 p.atoms.toNat)).l.length<=10:=hO
  omega)
 obtain⟨L,hL⟩:∃L,stP p most=L:=⟨_,rfl⟩
 rw[hL] at hN ⊢
 obtain⟨m,hm0⟩:∃m,m=L.length:=⟨_,rfl⟩
 have hmm:m<=100:=by
  have:=(eQ (p:=p) (most:=most) (r:=bv (ef p)) (s:=hG p) (out:=[]) (Nat.zero_le _)).2.1
  have hL':stF p most (bv (ef p)) (hG p) []=L:=hL
  rw[hL'] at this
  omega
 have hF0:=(oX (p:=p) (most:=most) (O:=ao (ef p)) hm hO ta hl hr (ao (ef p)).l.length 0 (by omega)).nw
 rw[List.drop_zero] at hF0
 have hF:=fun (R:Res) [Tab LT R] (g:R.σ)=>hF0 R (hG p) m L g (iU (by omega)) hL hN hm0
 unfold hG ef at hF
 clear hF0
 refine dR (nt:=45) (rs:=[.tmp 4,.tmp 5]) (k0:=0) (by kernel_rfl) (by kernel_rfl) (by kernel_rfl) rfl ?_
 refine vcQ [[1,0,1,0],[1,1,1,1,0,1,0]] (lkL [(0,[2,3]),(1,[2,3,18]),(3,[2,3,7]),(4,[2,3,7,8]),(5,[2,3,7,8,34]),(7,[2,3,7,8,9]),(8,[2,3,7,8,9,10]),(9,[2,7,9,10]),(10,[9]),(11,[4,5])]) (lkL [(1,[(1,ROrc.pcall (int i64 (if aD p=true then 0 else 2))),(5,ROrc.pcall (AV.bool (decide (1<=(most:Int)/\(most:Int)<=100))))]),(3,[(1,ROrc.call (tup 2 (nth [fz Fz.auto 2 ((aA (ak p).fst).l.length) fun (i:Nat)=>cS ((aA (ak p).fst).l.getD i default),ref 2 0])) [cells false 2 (nth [int i64 p.atoms,ad p.rules]),cells false 1 fun (a:Nat)=>int i64 (most:Int),cells false 27 (aN (ak p).snd)] g)]),(4,[(5,ROrc.lcall (int u64 (↑(aG (ak p).snd 3 (p.atoms.toNat)):Int)) [2]),(6,ROrc.callN (fn 105 0 (nth []) 1 (nth [ref (List.length [cells false 2 (nth [int i64 p.atoms,ad p.rules]),cells false 1 fun (a:Nat)=>int i64 (most:Int),cells false 27 (aN (ak p).snd)]) 0])) [] [cells false 1 fun (x:Nat)=>int u64 (↑(aG (ak p).snd 3 (p.atoms.toNat)):Int)] g),(7,ROrc.callS (fz Fz.auto 1 ((ao (aG (ak p).snd 3 (p.atoms.toNat))).l.length) fun (i x:Nat)=>af (ao (aG (ak p).snd 3 (p.atoms.toNat))).l i) [(3,cells false 1 fun (j:Nat)=>any)] g),(9,ROrc.val (Orc.obj (nth [fz Fz.auto 1 ((ao (aG (ak p).snd 3 (p.atoms.toNat))).l.length) fun (i x:Nat)=>af (ao (aG (ak p).snd 3 (p.atoms.toNat))).l i])))]),(9,[(1,ROrc.val (Orc.obj (nth [fn 78 0 (nth []) 5 (nth [ref 5 0,ref 1 0,ref 4 0,ref 6 0,ref 0 0])])))]),(10,[(6,ROrc.lcall (int u64 (↑(aG (ak p).snd 2 (p.atoms.toNat)):Int)) [2]),(7,ROrc.callN (tup 0 (nth [])) [(5,cells false 1 fun (j:Nat)=>ow true 7 m 1)] [cells false (m*1) (aM L)] g)])]) (fun Q=>(fun (u1:AV)=>(fun (u2:AObj)=>(fun (u3:AObj)=>(fun (u4:List AObj)=>(fun (u5:Int)=>(fun (u6:Int)=>(fun (u7:List AObj)=>(fun (u8:AObj)=>(fun (u9:Bool)=>(fun (u10:AV)=>(fun (u11:List AV)=>(fun (u12:AV)=>(fun (u13:Int)=>2<=2/\(∀(hp:List AObj) (g:R.σ),true=true/\Does Tryd.prog R 16 [av p] hp g (ret (int i64 u13)) hp g)/\((!u13 != 0)=true->1<=1)/\((!u13 != 0)=true->∀(hp:List AObj) (g:R.σ),true=true/\Does Tryd.prog R 58 [int i64 u6,int i64 1,int i64 100] hp g (ret (AV.bool (decide (1<=u6/\u6<=100)))) hp g)/\(u9=true->Wp Tryd.prog R 45 0 Rd.top (aw Tryd.prog 27) [1,0,1,0] (aS Tryd.prog R 45 0 Rd.top (aw Tryd.prog 27) Q [Kont.seq [1,1]]) (St.mk [(2,ref 0 0),(3,ref 1 0),(18,AV.bool u9)] [u2,u3] g))/\(u9=false->2<=2/\(true=true/\Does Tryd.prog R 60 [av p] [u2,u3] g (ret (tup 2 (nth [fz Fz.auto 2 ((aA (ak p).fst).l.length) fun (i:Nat)=>cS ((aA (ak p).fst).l.getD i default),ref 2 0]))) [u2,u3,u8] g)/\Tables.follows Tryd.prog.toTables Departure.mixedOrders=true/\1<=2/\(∀(hp':List AObj) (g':R.σ),SameO [2] [u2,u3,u8] hp'->true=true/\Does Tryd.prog R 76 [ref 2 2,int i64 p.atoms,int i64 3] hp' g' (ret u10) hp' g')/\(true=true/\Does Tryd.prog R 77 [u10] [u2,u3,u8] g (ret (fn 105 0 (nth []) 1 (nth [ref 3 0]))) [u2,u3,u8,cells false 1 fun (x:Nat)=>u10] g)/\(true=true/\Does Tryd.prog R 75 [fn 105 0 (nth []) 1 (nth [ref 3 0])] [u2,u3,u8,cells false 1 fun (x:Nat)=>u10] g (ret u1) [u2,u3,u8,cells false 1 fun (j:Nat)=>any] g)/\1<=1/\(∀(c:Nat),c<1->nth [u1] c=al (fun (a:Nat)=>fz Fz.nil 0 0 fun _ _=>any) 0 1 (fun (x:Nat)=>u1) c)/\1<=1/\(decide (u5 > 10)=true->Wp Tryd.prog R 45 0 Rd.top (aw Tryd.prog 27) [1,1,1,1,0,1,0] (aS Tryd.prog R 45 0 Rd.top (aw Tryd.prog 27) Q [Kont.seq [1,1,1,1,1]]) (St.mk [(2,ref 0 0),(3,ref 1 0),(7,ref 2 0),(8,ref 4 0),(34,AV.bool (decide (u5 > 10)))] [u2,u3,u8,cells false 1 fun (j:Nat)=>any,cells false 1 (nth [u1])] g))/\(decide (u5 > 10)=false->1<=1/\(∀(c:Nat),c<1->nth [fn 78 0 (nth []) 5 (nth u11)] c=al (fun (a:Nat)=>AV.nilf) 0 1 (fun (x:Nat)=>fn 78 0 (nth []) 5 (nth u11)) c)/\Tables.follows Tryd.prog.toTables Departure.mixedOrders=true/\1<=1/\1<=2/\(∀(hp':List AObj) (g':R.σ),SameO [2] u7 hp'->true=true/\Does Tryd.prog R 76 [ref 2 2,int i64 p.atoms,int i64 2] hp' g' (ret u12) hp' g')/\(true=true/\Does Tryd.prog R 78 (int i64 0::u12::u11) u7 g (ret (tup 0 (nth []))) u4 g)/\1<=1/\Q AEx.ret (St.mk [(4,ow true 7 m 1),(5,int i64 0)] u4 g)))) (if aD p=true then 0 else 2)) (int u64 (↑(aG (ak p).snd 2 (p.atoms.toNat)):Int))) ([ref 5 0,ref 1 0,ref 4 0,ref 6 0,ref 0 0])) (int u64 (↑(aG (ak p).snd 3 (p.atoms.toNat)):Int))) (bif (if aD p=true then 0 else 2) != 0 then true else !decide (1<=u6/\u6<=100))) (cells false 27 (aN (ak p).snd))) ([u2,u3,cells false 27 (aN (ak p).snd),cells false 1 fun (j:Nat)=>any,cells false 1 (nth [u1]),cells false 1 fun (a:Nat)=>fz Fz.nil 0 0 fun _ _=>any,cells false 1 (nth [fn 78 0 (nth []) 5 (nth [ref 5 0,ref 1 0,ref 4 0,ref 6 0,ref 0 0])])])) ((most:Int))) ((↑((ao (aG (ak p).snd 3 (p.atoms.toNat))).l.length):Int))) ([u2,u3,cells false 27 (aN (ak p).snd),cells false 1 fun (j:Nat)=>any,cells false 1 (nth [u1]),cells false 1 fun (j:Nat)=>ow true 7 m 1,cells false 1 (nth [fn 78 0 (nth []) 5 (nth [ref 5 0,ref 1 0,ref 4 0,ref 6 0,ref 0 0])]),cells false (m*1) fun (a:Nat)=>fz Fz.auto 1 ((ao (L.getD a 0)).l.length) fun (i x:Nat)=>af (ao (L.getD a 0)).l i])) (cells false 1 fun (a:Nat)=>int i64 (most:Int))) (cells false 2 (nth [int i64 p.atoms,ad p.rules]))) (fz Fz.auto 1 ((ao (aG (ak p).snd 3 (p.atoms.toNat))).l.length) fun (i x:Nat)=>af (ao (aG (ak p).snd 3 (p.atoms.toNat))).l i)) (fun _=>by kernel_rfl) ⟨by omega,(fun _ _=>⟨rfl,(gP _ _ _ _ (by omega))⟩),by omega,(fun hgd=>(fun _ _=>⟨rfl,(dG _ _ _ _ _ _)⟩)),fun hcc=>(nomatch (hc.symm.trans hcc)),fun _=>⟨by omega,⟨rfl,(er (T:=LT) inferInstance [] 2 (fun R _ g=>hD R g) rfl rfl rfl (by exact trivial) (by exact trivial) (by exact⟨bt (by exact⟨⟨trivial,trivial⟩,trivial⟩),trivial⟩) (by exact(Bw (fun i hi=>match i,hi with|0,_=>(Bs _)|1,_=>(Bs _) ))) (by exact⟨Bu,Bu,⟨rfl,Nat.le_refl _,fun j hj=>(by first|exact bK (by first|exact trivial|apply lu)|exact Bt (dv rfl))⟩,trivial⟩))⟩,by kernel_rfl,by omega,?_,⟨rfl,(cT _ _ _ _)⟩,⟨rfl,(er (T:=LT) inferInstance [3] 4 (fun R _ g=>hC R (aG (ak p).snd 3 (p.atoms.toNat)) (by omega) g) rfl rfl rfl (by exact⟨⟨rfl,Nat.le_refl _,fun j hj=>match j,hj with|0,_=>(Bs _) ⟩,trivial⟩) (by exact⟨by omega,trivial⟩) (by exact⟨(Le.fn (fun i hi=>absurd hi (by omega)) (fun i hi=>match i,hi with|0,_=>(Bs _) )),trivial⟩) (by exact bK (by exact trivial)) (by exact⟨Bu,Bu,Bu,Bu,trivial⟩))⟩,by omega,(fun c hc=>match c,hc with|0,_=>(by kernel_rfl) ),by omega,fun hcc=>(nomatch (hgt.symm.trans hcc)),fun _=>⟨by omega,(fun c hc=>match c,hc with|0,_=>(by kernel_rfl) ),by kernel_rfl,by omega,by omega,?_,⟨rfl,(er (T:=LT) inferInstance [5,1,4,6,0] 7 (fun R _ g=>hF R g) rfl rfl rfl (by exact⟨⟨rfl,Nat.le_refl _,fun j hj=>match j,hj with|0,_=>(Bs _) ⟩,⟨rfl,Nat.le_refl _,fun j hj=>match j,hj with|0,_=>(Bs _) ⟩,⟨rfl,Nat.le_refl _,fun j hj=>match j,hj with|0,_=>(Bs _) ⟩,⟨rfl,Nat.le_refl _,fun j hj=>match j,hj with|0,_=>(Le.fn (fun i hi=>absurd hi (by omega)) (fun i hi=>match i,hi with|0,_=>(Bs _)|1,_=>(Bs _)|2,_=>(Bs _)|3,_=>(Bs _)|4,_=>(Bs _) )) ⟩,⟨rfl,Nat.le_refl _,fun j hj=>match j,hj with|0,_=>(Bs _)|1,_=>(Bs _) ⟩,trivial⟩) (by exact⟨by omega,by omega,by omega,by omega,by omega,trivial⟩) (by exact⟨bt (by exact trivial),bt (by exact trivial),Bs _,Bs _,Bs _,Bs _,Bs _,trivial⟩) (by exact bK (by exact trivial)) (by exact⟨⟨rfl,Nat.le_refl _,fun j hj=>match j,hj with|0,_=>(Bs _)|1,_=>(Bs _) ⟩,⟨rfl,Nat.le_refl _,fun j hj=>match j,hj with|0,_=>(Bs _) ⟩,Bu,Bu,⟨rfl,Nat.le_refl _,fun j hj=>match j,hj with|0,_=>(Bs _) ⟩,Bu,⟨rfl,Nat.le_refl _,fun j hj=>match j,hj with|0,_=>(Le.fn (fun i hi=>absurd hi (by omega)) (fun i hi=>match i,hi with|0,_=>(Bs _)|1,_=>(Bs _)|2,_=>(Bs _)|3,_=>(Bs _)|4,_=>(Bs _) )) ⟩,⟨rfl,Nat.le_refl _,fun j hj=>(by first|exact bK (by first|exact trivial|apply fO)|exact Bt (gN rfl))⟩,trivial⟩))⟩,by omega,?_⟩⟩⟩
 ·intro hp' g' hs'
  exact⟨rfl,jQ [2] (fun R g=>hS R g) (by exact⟨rfl,trivial⟩) rfl (by exact fun n=>⟨BC (fun j hj=>(dv trivial).symm),trivial⟩) ⟨by omega,trivial⟩ (by exact fun n=>⟨Bs _,Bs _,Bs _,trivial⟩) rfl (by exact fun n=>Bs _) (by exact fun n=>⟨BC (fun j hj=>dv trivial),trivial⟩) hp' g' hs'⟩
 ·intro hp' g' hs'
  exact⟨rfl,jQ [2] (fun R g=>hS2 R g) (by exact⟨rfl,trivial⟩) rfl (by exact fun n=>⟨BC (fun j hj=>(dv trivial).symm),trivial⟩) ⟨by omega,trivial⟩ (by exact fun n=>⟨Bs _,Bs _,Bs _,trivial⟩) rfl (by exact fun n=>Bs _) (by exact fun n=>⟨BC (fun j hj=>dv trivial),trivial⟩) hp' g' hs'⟩
 ·subst hm0
  show bC Tryd.prog R 0 _ _ _ _ .ret _
  refine ff (.tup 2 (nth [.ow true 7 L.length 1,.int .i64 0])) _ rfl trivial (jS 0 [(0,.tup 2 (nth [dw L.length (fun i=>ao (L.getD i 0)),.int .i64 0]))] (Nat.le_refl _) (Nat.zero_le _) (fun i hi=>absurd hi (Nat.not_lt_zero i)) ⟨ay.tup (fun j hj=>?_),trivial⟩)
  match j,hj with
  |0,_=>exact ay.le (ay.ow (o:=7) (N:=L.length*1) (c:=aM L) (get:=aM L) (fr:=false) rfl (Nat.zero_le _) (Nat.le_refl _) (by decide) (fun j _=>Bz (fO _ _))) (By rfl (fun i j hi hj=>by
    show aM L (i*1+j)=_
    rw[show i*1+j=i by omega]
    rfl))
  |1,_=>exact Bz trivial
theorem Ag (R:Res)[Tab LT R](p:Prg)(most:Nat)(hb:aD p=true)(hm:1<=most/\most<=100)(hO:(bv (ef p)).length<=10)(g:R.σ):Does Tryd.prog R 27 [av p,.int .i64 most] [] g (.ret (.tup 2 (nth [dw (stP p most).length (fun i=>ao ((stP p most).getD i 0)),.int .i64 0]))) [] g:=by
 by_cases hN:stP p most=[]
 ·rw[hN]
  exact iH (Ae R p most hb hm hO hN g) (iy ⟨Bw (fun j hj=>match j,hj with|0,_=>Le.nil_auto|1,_=>Bs _),trivial⟩ trivial rfl)
 ·exact Af R p most hb hm hO hN g
theorem Ah {p:Prg}(h:aD p=true):∀r,r∈p.rules.l->l5 p.atoms.toNat r:=by
 obtain⟨h1,h2,h3,h4,h5⟩:=ez h
 have h3:1<=p.atoms/\p.atoms<=24:=h3
 intro r hr
 refine⟨⟨(h2 r hr).1.1,fun l hl=>?_⟩,?_⟩
 ·have:=h5 r hr l hl
  omega
 ·have:=h4 r hr
  have:=(h2 r hr).2
  omega
structure LstOk (p:Prg)(n:Nat)(s:List Bool)(left:Nat):Prop where
 len:s.length=n
 bit:∀j,j<n->s.getD j false = !left.testBit j
 lt:left<2^24
 inn:∀j,left.testBit j=true->j<n
 cls:∀x y,x<n->left.testBit x=false->Reach p x y->left.testBit y=false
section
variable {p:Prg}{n:Nat}{s:List Bool}{left:Nat}
end
end Go.Avm.Pack
namespace Go.Avm.Pack
open Go Go.Avm Go.Proofs
open Go.IntKind (i64 u64)
open Go.Avm.AV (int bool any fz fp sl ow ref fn ifc val agg tup)
open Go.Avm.AObj (cells dead)
open Go.Avm.Oc (ret)
set_option maxRecDepth 4000
theorem kk (R:Res)(a:Int)(hp:List AObj)(g:R.σ):Does Tryd.prog R 91 [.int .i64 a] hp g (.ret (bz ⟨a,false⟩)) hp g:=by
 refine bx (fun R g=>?_) (by exact⟨trivial,trivial⟩) R hp g
 refine spW (nt:=5) (rs:=[.cell 2 77]) (k0:=0) ?_
 refine vcR [] (lkL [(0,[0,2]),(1,[2])]) (lkL [(1,[(2,ROrc.val (Orc.obj (nth [i6 a,AV.bool false])))])]) (fun Q=>2<=2/\(∀(c:Nat),c<2->nth [i6 a,AV.bool false] c=al (nth [i6 0,AV.bool false]) 0 2 (List.brecOn (motive:=fun (x:List AV)=>Nat->AV) [i6 a,AV.bool false] nth._f) c)/\Q AEx.ret (St.mk [(2,ref 0 0)] [cO 2 (nth [i6 a,AV.bool false])] g)) ⟨omg,(fun c hc=>match c,hc with|0,_=>krf|1,_=>krf ),?_⟩
 refine(aq (bw (agg 2 (nth [i6 a,AV.bool false])) ([0+(TyI.mk ((fun (x:TypeInfo)=>x.desc) Tryd.prog.types[76]) Tryd.prog.types[77].size Tryd.prog.types[77].bytes (ce (dl (Value.agg #[Value.int i64 0,Value.bool false]))) (cI ((fun (x:TypeInfo)=>x.desc) Tryd.prog.types[76])) (dM Tryd.prog 77)).size<=2]) krf (by exact⟨dcd,trivial⟩) ⟨⟨trivial,trivial⟩,trivial⟩ rfl) (Bt krf))
theorem km (R:Res)(a:Int)(hp:List AObj)(g:R.σ):Does Tryd.prog R 92 [.int .i64 a] hp g (.ret (bz ⟨a,true⟩)) hp g:=by
 refine bx (fun R g=>?_) (by exact⟨trivial,trivial⟩) R hp g
 refine spW (nt:=5) (rs:=[.cell 2 77]) (k0:=0) ?_
 refine vcR [] (lkL [(0,[0,2]),(1,[2])]) (lkL [(1,[(2,ROrc.val (Orc.obj (nth [i6 a,AV.bool true])))])]) (fun Q=>2<=2/\(∀(c:Nat),c<2->nth [i6 a,AV.bool true] c=al (nth [i6 0,AV.bool false]) 0 2 (List.brecOn (motive:=fun (x:List AV)=>Nat->AV) [i6 a,AV.bool true] nth._f) c)/\Q AEx.ret (St.mk [(2,ref 0 0)] [cO 2 (nth [i6 a,AV.bool true])] g)) ⟨omg,(fun c hc=>match c,hc with|0,_=>krf|1,_=>krf ),?_⟩
 refine(aq (bw (agg 2 (nth [i6 a,AV.bool true])) ([0+(TyI.mk ((fun (x:TypeInfo)=>x.desc) Tryd.prog.types[76]) Tryd.prog.types[77].size Tryd.prog.types[77].bytes (ce (dl (Value.agg #[Value.int i64 0,Value.bool false]))) (cI ((fun (x:TypeInfo)=>x.desc) Tryd.prog.types[76])) (dM Tryd.prog 77)).size<=2]) krf (by exact⟨dcd,trivial⟩) ⟨⟨trivial,trivial⟩,trivial⟩ rfl) (Bt krf))
theorem ft (R:Res)(a:Int)(b:KL Lit)(hp:List AObj)(g:R.σ):Does Tryd.prog R 90 [.int .i64 a,am b] hp g (.ret (bU ⟨a,b⟩)) hp g:=by
 refine bx (fun R g=>?_) (by exact⟨trivial,trivial,trivial⟩) R hp g
 refine spW (nt:=8) (rs:=[.cell 4 75]) (k0:=0) ?_
 refine vcR [] (lkL [(0,[0,1,4]),(1,[4])]) (lkL [(1,[(3,ROrc.val (Orc.obj (nth [i6 a,am b])))])]) (fun Q=>2<=2/\(∀(c:Nat),c<2->nth [i6 a,am b] c=al (nth [i6 0,fz Fz.nil 0 0 fun x x_1=>any]) 0 2 (List.brecOn (motive:=fun (x:List AV)=>Nat->AV) [i6 a,am b] nth._f) c)/\Q AEx.ret (St.mk [(4,ref 0 0)] [cO 2 (nth [i6 a,am b])] g)) ⟨omg,(fun c hc=>match c,hc with|0,_=>krf|1,_=>krf ),?_⟩
 refine(aq (bw (agg 2 (nth [i6 a,fz b.2 2 (b.l.length) fun (i:Nat)=>iN (b.l.getD i default)])) ([0+(TyI.mk ((fun (x:TypeInfo)=>x.desc) Tryd.prog.types[74]) Tryd.prog.types[75].size Tryd.prog.types[75].bytes (ce (dl (Value.agg #[Value.int i64 0,Value.slice none 0 0]))) (cI ((fun (x:TypeInfo)=>x.desc) Tryd.prog.types[74])) (dM Tryd.prog 75)).size<=2]) krf (by exact⟨dcd,trivial⟩) ⟨⟨trivial,trivial⟩,trivial⟩ rfl) (Bt krf))
def tN:KL Lit:=⟨[],.nil⟩
def tA1:KL Lit:=⟨[⟨0,false⟩,⟨2,true⟩],.exa⟩
def tA2:KL Lit:=⟨[⟨3,false⟩],.exa⟩
def tA3:KL Lit:=⟨[⟨2,false⟩],.exa⟩
def tA4:KL Lit:=⟨[⟨5,true⟩],.exa⟩
def tA5:KL Lit:=⟨[⟨4,true⟩],.exa⟩
def tAR:KL Rule:=⟨[⟨0,tN⟩,⟨1,tA1⟩,⟨2,tA2⟩,⟨3,tA3⟩,⟨4,tA4⟩,⟨5,tA5⟩],.exa⟩
def tA:Prg:=⟨6,tAR⟩
def tB1:KL Lit:=⟨[⟨1,true⟩],.exa⟩
def tB2:KL Lit:=⟨[⟨0,true⟩],.exa⟩
def tB3:KL Lit:=⟨[⟨0,false⟩],.exa⟩
def tB4:KL Lit:=⟨[⟨1,false⟩],.exa⟩
def tBR:KL Rule:=⟨[⟨0,tB1⟩,⟨1,tB2⟩,⟨2,tB3⟩,⟨2,tB4⟩],.exa⟩
def tB:Prg:=⟨3,tBR⟩
def tS1:KL Int:=⟨[0],.exa⟩
def tS2:KL Int:=⟨[2,3],.exa⟩
def tS3:KL Int:=⟨[1],.exa⟩
def tS:KL Step:=⟨[⟨0,tS1⟩,⟨-1,tS2⟩,⟨1,tS3⟩],.exa⟩
theorem c_A (R:Res)(hp:List AObj)(g:R.σ):Does Tryd.prog R 44 [] hp g (.ret (av tA)) hp g:=by
 refine bx (fun R g=>?_) (by exact trivial) R hp g
 obtain⟨v0,e0⟩:∃v,v=tN:=⟨_,rfl⟩
 obtain⟨v1,e1⟩:∃v,v=tA1:=⟨_,rfl⟩
 obtain⟨v2,e2⟩:∃v,v=tA2:=⟨_,rfl⟩
 obtain⟨v3,e3⟩:∃v,v=tA3:=⟨_,rfl⟩
 obtain⟨v4,e4⟩:∃v,v=tA4:=⟨_,rfl⟩
 obtain⟨v5,e5⟩:∃v,v=tA5:=⟨_,rfl⟩
 obtain⟨w,f⟩:∃v,v=tAR:=⟨_,rfl⟩
 show Does _ _ _ _ _ _ (.ret (av ⟨6,tAR⟩)) _ _
 rw[<-f]
 refine spW (nt:=20) (rs:=[.cell 0 24]) (k0:=0) ?_
 refine vcR [] (lkL [(0,[0]),(1,[0])]) (lkL [(1,[(0,ROrc.pcall (bU (Rule.mk 0 (KL.mk [] Fz.nil)))),(1,ROrc.pcall (bz (Lit.mk 0 false))),(2,ROrc.pcall (bz (Lit.mk 2 true))),(3,ROrc.kop (am v1)),(4,ROrc.pcall (bU (Rule.mk 1 v1))),(5,ROrc.pcall (bz (Lit.mk 3 false))),(6,ROrc.kop (am v2)),(7,ROrc.pcall (bU (Rule.mk 2 v2))),(8,ROrc.pcall (bz (Lit.mk 2 false))),(9,ROrc.kop (am v3)),(10,ROrc.pcall (bU (Rule.mk 3 v3))),(11,ROrc.pcall (bz (Lit.mk 5 true))),(12,ROrc.kop (am v4)),(13,ROrc.pcall (bU (Rule.mk 4 v4))),(14,ROrc.pcall (bz (Lit.mk 4 true))),(15,ROrc.kop (am v5)),(16,ROrc.pcall (bU (Rule.mk 5 v5))),(17,ROrc.kop (ad w)),(19,ROrc.val (Orc.obj (nth [i6 6,ad w])))])]) (fun Q=>(fun (u1:List Row)=>(fun (u2:List AObj)=>(fun (u3:List Row)=>(fun (u4:List Row)=>(fun (u5:List Row)=>(fun (u6:List (Nat × AV))=>(∀(hp:List AObj) (g:R.σ),true=true/\Does Tryd.prog R 90 [i6 0,fz Fz.nil 0 0 fun x x_1=>any] hp g (ret (agg 2 (nth [i6 0,fz Fz.nil 2 0 fun i=>iN ((KL.mk [] Fz.nil).l.getD i default)]))) hp g)/\(∀(hp:List AObj) (g:R.σ),true=true/\Does Tryd.prog R 91 [i6 0] hp g (ret (agg 2 (nth [i6 0,AV.bool false]))) hp g)/\(∀(hp:List AObj) (g:R.σ),true=true/\Does Tryd.prog R 92 [i6 2] hp g (ret (agg 2 (nth [i6 2,AV.bool true]))) hp g)/\OpOk Tryd.prog R (Oper.mk (some 4) (Op.buildSlice 73 2 #[(0,Operand.tmp 2),(1,Operand.tmp 3)]) 73 "law.go:21" #[Edge.mk 1 Ground.data,Edge.mk 2 Ground.data] none) (evO u4 u6 []) u2 g (am v1) u2 g/\(∀(hp:List AObj) (g:R.σ),true=true/\Does Tryd.prog R 90 [i6 1,am v1] hp g (ret (agg 2 (nth [i6 1,am v1]))) hp g)/\(∀(hp:List AObj) (g:R.σ),true=true/\Does Tryd.prog R 91 [i6 3] hp g (ret (agg 2 (nth [i6 3,AV.bool false]))) hp g)/\OpOk Tryd.prog R (Oper.mk (some 7) (Op.buildSlice 73 1 #[(0,Operand.tmp 6)]) 73 "law.go:21" #[Edge.mk 5 Ground.data] none) (evO (Row.mk (some 6) none (agg 2 (nth [i6 3,AV.bool false])) false (some []) []::Row.mk (some 5) none (agg 2 (nth [i6 1,am v1])) false (some []) []::Row.mk (some 4) none (am v1) true (some []) []::u4) u6 []) u2 g (am v2) u2 g/\(∀(hp:List AObj) (g:R.σ),true=true/\Does Tryd.prog R 90 [i6 2,am v2] hp g (ret (agg 2 (nth [i6 2,am v2]))) hp g)/\(∀(hp:List AObj) (g:R.σ),true=true/\Does Tryd.prog R 91 [i6 2] hp g (ret (agg 2 (nth [i6 2,AV.bool false]))) hp g)/\OpOk Tryd.prog R (Oper.mk (some 10) (Op.buildSlice 73 1 #[(0,Operand.tmp 9)]) 73 "law.go:21" #[Edge.mk 8 Ground.data] none) (evO u1 u6 []) u2 g (am v3) u2 g/\(∀(hp:List AObj) (g:R.σ),true=true/\Does Tryd.prog R 90 [i6 3,am v3] hp g (ret (agg 2 (nth [i6 3,am v3]))) hp g)/\(∀(hp:List AObj) (g:R.σ),true=true/\Does Tryd.prog R 92 [i6 5] hp g (ret (agg 2 (nth [i6 5,AV.bool true]))) hp g)/\OpOk Tryd.prog R (Oper.mk (some 13) (Op.buildSlice 73 1 #[(0,Operand.tmp 12)]) 73 "law.go:21" #[Edge.mk 11 Ground.data] none) (evO u3 u6 []) u2 g (am v4) u2 g/\(∀(hp:List AObj) (g:R.σ),true=true/\Does Tryd.prog R 90 [i6 4,am v4] hp g (ret (agg 2 (nth [i6 4,am v4]))) hp g)/\(∀(hp:List AObj) (g:R.σ),true=true/\Does Tryd.prog R 92 [i6 4] hp g (ret (agg 2 (nth [i6 4,AV.bool true]))) hp g)/\OpOk Tryd.prog R (Oper.mk (some 16) (Op.buildSlice 73 1 #[(0,Operand.tmp 15)]) 73 "law.go:21" #[Edge.mk 14 Ground.data] none) (evO u5 u6 []) u2 g (am v5) u2 g/\(∀(hp:List AObj) (g:R.σ),true=true/\Does Tryd.prog R 90 [i6 5,am v5] hp g (ret (agg 2 (nth [i6 5,am v5]))) hp g)/\OpOk Tryd.prog R (Oper.mk (some 18) (Op.buildSlice 22 6 #[(0,Operand.tmp 1),(1,Operand.tmp 5),(2,Operand.tmp 8),(3,Operand.tmp 11),(4,Operand.tmp 14),(5,Operand.tmp 17)]) 22 "law.go:21" #[Edge.mk 0 Ground.data,Edge.mk 4 Ground.data,Edge.mk 7 Ground.data,Edge.mk 10 Ground.data,Edge.mk 13 Ground.data,Edge.mk 16 Ground.data] none) (evO (Row.mk (some 17) none (agg 2 (nth [i6 5,am v5])) false (some []) []::Row.mk (some 16) none (am v5) true (some []) []::u5) u6 []) u2 g (ad w) u2 g/\2<=2/\(∀(c:Nat),c<2->nth [i6 6,ad w] c=al (nth [i6 0,fz Fz.nil 0 0 fun x x_1=>any]) 0 2 (List.brecOn (motive:=fun (x:List AV)=>Nat->AV) [i6 6,ad w] nth._f) c)/\Q AEx.ret (St.mk u6 [cO 2 (nth [i6 6,ad w])] g)) ([(0,ref 0 0)])) (Row.mk (some 15) none (agg 2 (nth [i6 4,AV.bool true])) false (some []) []::Row.mk (some 14) none (agg 2 (nth [i6 4,am v4])) false (some []) []::Row.mk (some 13) none (am v4) true (some []) []::u3)) ([Row.mk (some 3) none (agg 2 (nth [i6 2,AV.bool true])) false (some []) [],Row.mk (some 2) none (agg 2 (nth [i6 0,AV.bool false])) false (some []) [],Row.mk (some 1) none (agg 2 (nth [i6 0,fz Fz.nil 2 0 fun i=>iN (List.getD [] i default)])) false (some []) []])) (Row.mk (some 12) none (agg 2 (nth [i6 5,AV.bool true])) false (some []) []::Row.mk (some 11) none (agg 2 (nth [i6 3,am v3])) false (some []) []::Row.mk (some 10) none (am v3) true (some []) []::u1)) ([cO 2 (nth [i6 0,fz Fz.nil 0 0 fun x x_1=>any])])) ([Row.mk (some 9) none (agg 2 (nth [i6 2,AV.bool false])) false (some []) [],Row.mk (some 8) none (agg 2 (nth [i6 2,am v2])) false (some []) [],Row.mk (some 7) none (am v2) true (some []) [],Row.mk (some 6) none (agg 2 (nth [i6 3,AV.bool false])) false (some []) [],Row.mk (some 5) none (agg 2 (nth [i6 1,am v1])) false (some []) [],Row.mk (some 4) none (am v1) true (some []) [],Row.mk (some 3) none (agg 2 (nth [i6 2,AV.bool true])) false (some []) [],Row.mk (some 2) none (agg 2 (nth [i6 0,AV.bool false])) false (some []) [],Row.mk (some 1) none (agg 2 (nth [i6 0,fz Fz.nil 2 0 fun i=>iN (List.getD [] i default)])) false (some []) []])) ⟨(fun _ _=>⟨rfl,(nl (args':=[i6 0,am (KL.mk [] Fz.nil)]) (ft _ _ (KL.mk [] Fz.nil) _ _) (by exact⟨Bs _,Le.nil,trivial⟩) (Bs _))⟩),(fun _ _=>⟨rfl,(kk _ _ _ _)⟩),(fun _ _=>⟨rfl,(km _ _ _ _)⟩),?_,(fun _ _=>⟨rfl,(ft _ _ _ _ _)⟩),(fun _ _=>⟨rfl,(kk _ _ _ _)⟩),?_,(fun _ _=>⟨rfl,(ft _ _ _ _ _)⟩),(fun _ _=>⟨rfl,(kk _ _ _ _)⟩),?_,(fun _ _=>⟨rfl,(ft _ _ _ _ _)⟩),(fun _ _=>⟨rfl,(km _ _ _ _)⟩),?_,(fun _ _=>⟨rfl,(ft _ _ _ _ _)⟩),(fun _ _=>⟨rfl,(km _ _ _ _)⟩),?_,(fun _ _=>⟨rfl,(ft _ _ _ _ _)⟩),?_,omg,(fun c hc=>match c,hc with|0,_=>krf|1,_=>krf ),?_⟩
 ·subst e1;exact bT (n:=2) (es:=2) krf (by exact⟨⟨⟨trivial,trivial⟩,trivial⟩,⟨⟨trivial,trivial⟩,trivial⟩,trivial⟩) rfl rfl (fun i hi j hj=>match i,hi,j,hj with|0,_,0,_=>krf|0,_,1,_=>krf|1,_,0,_=>krf|1,_,1,_=>krf ) (fun i hi j hj=>match i,hi,j,hj with|0,_,0,_=>trivial|0,_,1,_=>trivial|1,_,0,_=>trivial|1,_,1,_=>trivial )
 ·subst e2;exact bT (n:=1) (es:=2) krf (by exact⟨⟨⟨trivial,trivial⟩,trivial⟩,trivial⟩) rfl rfl (fun i hi j hj=>match i,hi,j,hj with|0,_,0,_=>krf|0,_,1,_=>krf ) (fun i hi j hj=>match i,hi,j,hj with|0,_,0,_=>trivial|0,_,1,_=>trivial )
 ·subst e3;exact bT (n:=1) (es:=2) krf (by exact⟨⟨⟨trivial,trivial⟩,trivial⟩,trivial⟩) rfl rfl (fun i hi j hj=>match i,hi,j,hj with|0,_,0,_=>krf|0,_,1,_=>krf ) (fun i hi j hj=>match i,hi,j,hj with|0,_,0,_=>trivial|0,_,1,_=>trivial )
 ·subst e4;exact bT (n:=1) (es:=2) krf (by exact⟨⟨⟨trivial,trivial⟩,trivial⟩,trivial⟩) rfl rfl (fun i hi j hj=>match i,hi,j,hj with|0,_,0,_=>krf|0,_,1,_=>krf ) (fun i hi j hj=>match i,hi,j,hj with|0,_,0,_=>trivial|0,_,1,_=>trivial )
 ·subst e5;exact bT (n:=1) (es:=2) krf (by exact⟨⟨⟨trivial,trivial⟩,trivial⟩,trivial⟩) rfl rfl (fun i hi j hj=>match i,hi,j,hj with|0,_,0,_=>krf|0,_,1,_=>krf ) (fun i hi j hj=>match i,hi,j,hj with|0,_,0,_=>trivial|0,_,1,_=>trivial )
 ·subst e1 e2 e3 e4 e5 f;exact bT (n:=6) (es:=2) krf (by exact⟨⟨⟨trivial,trivial⟩,trivial⟩,⟨⟨trivial,trivial⟩,trivial⟩,⟨⟨trivial,trivial⟩,trivial⟩,⟨⟨trivial,trivial⟩,trivial⟩,⟨⟨trivial,trivial⟩,trivial⟩,⟨⟨trivial,trivial⟩,trivial⟩,trivial⟩) rfl rfl (fun i hi j hj=>match i,hi,j,hj with|0,_,0,_=>krf|0,_,1,_=>krf|1,_,0,_=>krf|1,_,1,_=>krf|2,_,0,_=>krf|2,_,1,_=>krf|3,_,0,_=>krf|3,_,1,_=>krf|4,_,0,_=>krf|4,_,1,_=>krf|5,_,0,_=>krf|5,_,1,_=>krf ) (fun i hi j hj=>match i,hi,j,hj with|0,_,0,_=>trivial|0,_,1,_=>trivial|1,_,0,_=>trivial|1,_,1,_=>trivial|2,_,0,_=>trivial|2,_,1,_=>trivial|3,_,0,_=>trivial|3,_,1,_=>trivial|4,_,0,_=>trivial|4,_,1,_=>trivial|5,_,0,_=>trivial|5,_,1,_=>trivial )
 ·refine(aq (bw (agg 2 (nth [i6 6,fz w.2 2 (w.l.length) fun (i:Nat)=>bG (w.l.getD i default)])) ([0+(TyI.mk ((fun (x:TypeInfo)=>x.desc) Tryd.prog.types[23]) Tryd.prog.types[24].size Tryd.prog.types[24].bytes (ce (dl (Value.agg #[Value.int i64 0,Value.slice none 0 0]))) (cI ((fun (x:TypeInfo)=>x.desc) Tryd.prog.types[23])) (dM Tryd.prog 24)).size<=2]) krf (by exact⟨dcd,trivial⟩) ⟨⟨trivial,trivial⟩,trivial⟩ rfl) (Bt krf))
theorem c_B (R:Res)(hp:List AObj)(g:R.σ):Does Tryd.prog R 45 [] hp g (.ret (av tB)) hp g:=by
 refine bx (fun R g=>?_) (by exact trivial) R hp g
 obtain⟨v1,e1⟩:∃v,v=tB1:=⟨_,rfl⟩
 obtain⟨v2,e2⟩:∃v,v=tB2:=⟨_,rfl⟩
 obtain⟨v3,e3⟩:∃v,v=tB3:=⟨_,rfl⟩
 obtain⟨v4,e4⟩:∃v,v=tB4:=⟨_,rfl⟩
 obtain⟨w,f⟩:∃v,v=tBR:=⟨_,rfl⟩
 show Does _ _ _ _ _ _ (.ret (av ⟨3,tBR⟩)) _ _
 rw[<-f]
 refine spW (nt:=15) (rs:=[.cell 0 24]) (k0:=0) ?_
 refine vcR [] (lkL [(0,[0]),(1,[0])]) (lkL [(1,[(0,ROrc.pcall (bz (Lit.mk 1 true))),(1,ROrc.kop (am v1)),(2,ROrc.pcall (bU (Rule.mk 0 v1))),(3,ROrc.pcall (bz (Lit.mk 0 true))),(4,ROrc.kop (am v2)),(5,ROrc.pcall (bU (Rule.mk 1 v2))),(6,ROrc.pcall (bz (Lit.mk 0 false))),(7,ROrc.kop (am v3)),(8,ROrc.pcall (bU (Rule.mk 2 v3))),(9,ROrc.pcall (bz (Lit.mk 1 false))),(10,ROrc.kop (am v4)),(11,ROrc.pcall (bU (Rule.mk 2 v4))),(12,ROrc.kop (ad w)),(14,ROrc.val (Orc.obj (nth [i6 3,ad w])))])]) (fun Q=>(fun (u1:List Row)=>(fun (u2:List AObj)=>(fun (u3:List Row)=>(fun (u4:Row)=>(fun (u5:AV)=>(∀(hp:List AObj) (g:R.σ),true=true/\Does Tryd.prog R 92 [i6 1] hp g (ret (agg 2 (nth [i6 1,AV.bool true]))) hp g)/\OpOk Tryd.prog R (Oper.mk (some 2) (Op.buildSlice 73 1 #[(0,Operand.tmp 1)]) 73 "law.go:25" #[Edge.mk 0 Ground.data] none) (evO [u4] [(0,ref 0 0)] []) u2 g (am v1) u2 g/\(∀(hp:List AObj) (g:R.σ),true=true/\Does Tryd.prog R 90 [u5,am v1] hp g (ret (agg 2 (nth [u5,am v1]))) hp g)/\(∀(hp:List AObj) (g:R.σ),true=true/\Does Tryd.prog R 92 [u5] hp g (ret (agg 2 (nth [u5,AV.bool true]))) hp g)/\OpOk Tryd.prog R (Oper.mk (some 5) (Op.buildSlice 73 1 #[(0,Operand.tmp 4)]) 73 "law.go:25" #[Edge.mk 3 Ground.data] none) (evO [Row.mk (some 4) none (agg 2 (nth [u5,AV.bool true])) false (some []) [],Row.mk (some 3) none (agg 2 (nth [u5,am v1])) false (some []) [],Row.mk (some 2) none (am v1) true (some []) [],u4] [(0,ref 0 0)] []) u2 g (am v2) u2 g/\(∀(hp:List AObj) (g:R.σ),true=true/\Does Tryd.prog R 90 [i6 1,am v2] hp g (ret (agg 2 (nth [i6 1,am v2]))) hp g)/\(∀(hp:List AObj) (g:R.σ),true=true/\Does Tryd.prog R 91 [u5] hp g (ret (agg 2 (nth [u5,AV.bool false]))) hp g)/\OpOk Tryd.prog R (Oper.mk (some 8) (Op.buildSlice 73 1 #[(0,Operand.tmp 7)]) 73 "law.go:25" #[Edge.mk 6 Ground.data] none) (evO u1 [(0,ref 0 0)] []) u2 g (am v3) u2 g/\(∀(hp:List AObj) (g:R.σ),true=true/\Does Tryd.prog R 90 [i6 2,am v3] hp g (ret (agg 2 (nth [i6 2,am v3]))) hp g)/\(∀(hp:List AObj) (g:R.σ),true=true/\Does Tryd.prog R 91 [i6 1] hp g (ret (agg 2 (nth [i6 1,AV.bool false]))) hp g)/\OpOk Tryd.prog R (Oper.mk (some 11) (Op.buildSlice 73 1 #[(0,Operand.tmp 10)]) 73 "law.go:25" #[Edge.mk 9 Ground.data] none) (evO u3 [(0,ref 0 0)] []) u2 g (am v4) u2 g/\(∀(hp:List AObj) (g:R.σ),true=true/\Does Tryd.prog R 90 [i6 2,am v4] hp g (ret (agg 2 (nth [i6 2,am v4]))) hp g)/\OpOk Tryd.prog R (Oper.mk (some 13) (Op.buildSlice 22 4 #[(0,Operand.tmp 3),(1,Operand.tmp 6),(2,Operand.tmp 9),(3,Operand.tmp 12)]) 22 "law.go:25" #[Edge.mk 2 Ground.data,Edge.mk 5 Ground.data,Edge.mk 8 Ground.data,Edge.mk 11 Ground.data] none) (evO (Row.mk (some 12) none (agg 2 (nth [i6 2,am v4])) false (some []) []::Row.mk (some 11) none (am v4) true (some []) []::u3) [(0,ref 0 0)] []) u2 g (ad w) u2 g/\2<=2/\(∀(c:Nat),c<2->nth [i6 3,ad w] c=al (nth [u5,fz Fz.nil 0 0 fun x x_1=>any]) 0 2 (List.brecOn (motive:=fun (x:List AV)=>Nat->AV) [i6 3,ad w] nth._f) c)/\Q AEx.ret (St.mk [(0,ref 0 0)] [cO 2 (nth [i6 3,ad w])] g)) (i6 0)) (Row.mk (some 1) none (agg 2 (nth [i6 1,AV.bool true])) false (some []) [])) (Row.mk (some 10) none (agg 2 (nth [i6 1,AV.bool false])) false (some []) []::Row.mk (some 9) none (agg 2 (nth [i6 2,am v3])) false (some []) []::Row.mk (some 8) none (am v3) true (some []) []::u1)) ([cO 2 (nth [i6 0,fz Fz.nil 0 0 fun x x_1=>any])])) ([Row.mk (some 7) none (agg 2 (nth [i6 0,AV.bool false])) false (some []) [],Row.mk (some 6) none (agg 2 (nth [i6 1,am v2])) false (some []) [],Row.mk (some 5) none (am v2) true (some []) [],Row.mk (some 4) none (agg 2 (nth [i6 0,AV.bool true])) false (some []) [],Row.mk (some 3) none (agg 2 (nth [i6 0,am v1])) false (some []) [],Row.mk (some 2) none (am v1) true (some []) [],Row.mk (some 1) none (agg 2 (nth [i6 1,AV.bool true])) false (some []) []])) ⟨(fun _ _=>⟨rfl,(km _ _ _ _)⟩),?_,(fun _ _=>⟨rfl,(ft _ _ _ _ _)⟩),(fun _ _=>⟨rfl,(km _ _ _ _)⟩),?_,(fun _ _=>⟨rfl,(ft _ _ _ _ _)⟩),(fun _ _=>⟨rfl,(kk _ _ _ _)⟩),?_,(fun _ _=>⟨rfl,(ft _ _ _ _ _)⟩),(fun _ _=>⟨rfl,(kk _ _ _ _)⟩),?_,(fun _ _=>⟨rfl,(ft _ _ _ _ _)⟩),?_,omg,(fun c hc=>match c,hc with|0,_=>krf|1,_=>krf ),?_⟩
 ·subst e1;exact bT (n:=1) (es:=2) krf (by exact⟨⟨⟨trivial,trivial⟩,trivial⟩,trivial⟩) rfl rfl (fun i hi j hj=>match i,hi,j,hj with|0,_,0,_=>krf|0,_,1,_=>krf ) (fun i hi j hj=>match i,hi,j,hj with|0,_,0,_=>trivial|0,_,1,_=>trivial )
 ·subst e2;exact bT (n:=1) (es:=2) krf (by exact⟨⟨⟨trivial,trivial⟩,trivial⟩,trivial⟩) rfl rfl (fun i hi j hj=>match i,hi,j,hj with|0,_,0,_=>krf|0,_,1,_=>krf ) (fun i hi j hj=>match i,hi,j,hj with|0,_,0,_=>trivial|0,_,1,_=>trivial )
 ·subst e3;exact bT (n:=1) (es:=2) krf (by exact⟨⟨⟨trivial,trivial⟩,trivial⟩,trivial⟩) rfl rfl (fun i hi j hj=>match i,hi,j,hj with|0,_,0,_=>krf|0,_,1,_=>krf ) (fun i hi j hj=>match i,hi,j,hj with|0,_,0,_=>trivial|0,_,1,_=>trivial )
 ·subst e4;exact bT (n:=1) (es:=2) krf (by exact⟨⟨⟨trivial,trivial⟩,trivial⟩,trivial⟩) rfl rfl (fun i hi j hj=>match i,hi,j,hj with|0,_,0,_=>krf|0,_,1,_=>krf ) (fun i hi j hj=>match i,hi,j,hj with|0,_,0,_=>trivial|0,_,1,_=>trivial )
 ·subst e1 e2 e3 e4 f;exact bT (n:=4) (es:=2) krf (by exact⟨⟨⟨trivial,trivial⟩,trivial⟩,⟨⟨trivial,trivial⟩,trivial⟩,⟨⟨trivial,trivial⟩,trivial⟩,⟨⟨trivial,trivial⟩,trivial⟩,trivial⟩) rfl rfl (fun i hi j hj=>match i,hi,j,hj with|0,_,0,_=>krf|0,_,1,_=>krf|1,_,0,_=>krf|1,_,1,_=>krf|2,_,0,_=>krf|2,_,1,_=>krf|3,_,0,_=>krf|3,_,1,_=>krf ) (fun i hi j hj=>match i,hi,j,hj with|0,_,0,_=>trivial|0,_,1,_=>trivial|1,_,0,_=>trivial|1,_,1,_=>trivial|2,_,0,_=>trivial|2,_,1,_=>trivial|3,_,0,_=>trivial|3,_,1,_=>trivial )
 ·refine(aq (bw (agg 2 (nth [i6 3,fz w.2 2 (w.l.length) fun (i:Nat)=>bG (w.l.getD i default)])) ([0+(TyI.mk ((fun (x:TypeInfo)=>x.desc) Tryd.prog.types[23]) Tryd.prog.types[24].size Tryd.prog.types[24].bytes (ce (dl (Value.agg #[Value.int i64 0,Value.slice none 0 0]))) (cI ((fun (x:TypeInfo)=>x.desc) Tryd.prog.types[23])) (dM Tryd.prog 24)).size<=2]) krf (by exact⟨dcd,trivial⟩) ⟨⟨trivial,trivial⟩,trivial⟩ rfl) (Bt krf))
theorem Ai (R:Res)(hp:List AObj)(g:R.σ):Does Tryd.prog R 57 [] hp g (.ret (aB tS)) hp g:=by
 refine bx (fun R g=>?_) (by exact trivial) R hp g
 obtain⟨v1,e1⟩:∃v,v=tS1:=⟨_,rfl⟩
 obtain⟨v2,e2⟩:∃v,v=tS2:=⟨_,rfl⟩
 obtain⟨v3,e3⟩:∃v,v=tS3:=⟨_,rfl⟩
 obtain⟨w,f⟩:∃v,v=tS:=⟨_,rfl⟩
 rw[<-f]
 refine spW (nt:=8) (rs:=[.tmp 0]) (k0:=0) ?_
 refine vcR [] (lkL [(1,[0])]) (lkL [(1,[(0,ROrc.kop (ah v1)),(2,ROrc.kop (ah v2)),(4,ROrc.kop (ah v3)),(6,ROrc.kop (aB w))])]) (fun Q=>(fun (u1:List Row)=>OpOk Tryd.prog R (Oper.mk (some 1) (Op.buildSlice 53 1 #[(0,Operand.const (Value.int i64 0))]) 53 "law.go:30" #[] none) (evO [] [] []) [] g (ah v1) [] g/\OpOk Tryd.prog R (Oper.mk (some 3) (Op.buildSlice 53 2 #[(0,Operand.const (Value.int i64 2)),(1,Operand.const (Value.int i64 3))]) 53 "law.go:30" #[] none) (evO [Row.mk (some 2) none (agg 2 (nth [i6 0,ah v1])) false (some []) [],Row.mk (some 1) none (ah v1) true (some []) []] [] []) [] g (ah v2) [] g/\OpOk Tryd.prog R (Oper.mk (some 5) (Op.buildSlice 53 1 #[(0,Operand.const (Value.int i64 1))]) 53 "law.go:30" #[] none) (evO u1 [] []) [] g (ah v3) [] g/\OpOk Tryd.prog R (Oper.mk (some 7) (Op.buildSlice 29 3 #[(0,Operand.tmp 2),(1,Operand.tmp 4),(2,Operand.tmp 6)]) 29 "law.go:30" #[Edge.mk 1 Ground.data,Edge.mk 3 Ground.data,Edge.mk 5 Ground.data] none) (evO (Row.mk (some 6) none (agg 2 (nth [i6 1,ah v3])) false (some []) []::Row.mk (some 5) none (ah v3) true (some []) []::u1) [] []) [] g (aB w) [] g/\Q AEx.ret (St.mk [(0,aB w)] [] g)) ([Row.mk (some 4) none (agg 2 (nth [i6 (-1),ah v2])) false (some []) [],Row.mk (some 3) none (ah v2) true (some []) [],Row.mk (some 2) none (agg 2 (nth [i6 0,ah v1])) false (some []) [],Row.mk (some 1) none (ah v1) true (some []) []])) ⟨?_,?_,?_,?_,?_⟩
 ·subst e1;exact bT (n:=1) (es:=1) krf (by exact⟨trivial,trivial⟩) rfl rfl (fun i hi j hj=>match i,hi,j,hj with|0,_,0,_=>krf ) (fun i hi j hj=>match i,hi,j,hj with|0,_,0,_=>trivial )
 ·subst e2;exact bT (n:=2) (es:=1) krf (by exact⟨trivial,trivial,trivial⟩) rfl rfl (fun i hi j hj=>match i,hi,j,hj with|0,_,0,_=>krf|1,_,0,_=>krf ) (fun i hi j hj=>match i,hi,j,hj with|0,_,0,_=>trivial|1,_,0,_=>trivial )
 ·subst e3;exact bT (n:=1) (es:=1) krf (by exact⟨trivial,trivial⟩) rfl rfl (fun i hi j hj=>match i,hi,j,hj with|0,_,0,_=>krf ) (fun i hi j hj=>match i,hi,j,hj with|0,_,0,_=>trivial )
 ·subst e1 e2 e3 f;exact bT (n:=3) (es:=2) krf (by exact⟨⟨⟨trivial,trivial⟩,trivial⟩,⟨⟨trivial,trivial⟩,trivial⟩,⟨⟨trivial,trivial⟩,trivial⟩,trivial⟩) rfl rfl (fun i hi j hj=>match i,hi,j,hj with|0,_,0,_=>krf|0,_,1,_=>krf|1,_,0,_=>krf|1,_,1,_=>krf|2,_,0,_=>krf|2,_,1,_=>krf ) (fun i hi j hj=>match i,hi,j,hj with|0,_,0,_=>trivial|0,_,1,_=>trivial|1,_,0,_=>trivial|1,_,1,_=>trivial|2,_,0,_=>trivial|2,_,1,_=>trivial )
 ·refine(aq (aP _ _ rfl trivial rfl rfl rfl) (Bt krf))
theorem me:aD tA=true:=by kernel_rfl
theorem Aj:aD tB=true:=by kernel_rfl
theorem Ak:(ak tA).1=[⟨0,[0]⟩,⟨-1,[2,3]⟩,⟨1,[1]⟩]:=by kernel_rfl
theorem tc:(dh tA (ak tA).2).l=[2,2,1,1,3,3]:=by kernel_rfl
theorem te:cy tA=[1,12,2,48]:=by kernel_rfl
theorem Al:(ak (az tA (hgP tA 1))).2 1=2:=by kernel_rfl
theorem Am:(ed (hgP tA 1) (bj (hgP tA 1) tA.rules.l 0) (ak (az tA (hgP tA 1))).1).l.map dx=tS.l.map dx:=by kernel_rfl
theorem An:(bv (ef tB)).length<=10:=by decide
theorem tf:stP tB 9=[6,5]:=by kernel_rfl
def tT:KL Step:=⟨[⟨1,tS3⟩],.opn⟩
def tV:KL Int:=⟨[2,2,1,1,3,3],.exa⟩
def tO1:KL Int:=⟨[0],.exa⟩
def tO2:KL Int:=⟨[2,3],.exa⟩
def tO3:KL Int:=⟨[1],.exa⟩
def tO4:KL Int:=⟨[4,5],.exa⟩
def tO (i:Nat):KL Int:=[tO1,tO2,tO3,tO4].getD i ⟨[],.nil⟩
def tM1:KL Int:=⟨[1,2],.exa⟩
def tM2:KL Int:=⟨[0,2],.exa⟩
def tM (i:Nat):KL Int:=[tM1,tM2].getD i ⟨[],.nil⟩
theorem Ao:dc tA (fun _=>3) (tT.l.getD 0 default)=false:=by kernel_rfl
theorem Ap:(aA (ak tA).1).l.map dx=tS.l.map dx:=by kernel_rfl
theorem Aq:∀i,((aA (ak tA).1).l.getD i default).atoms.l.length<1000000:=by
 intro i
 match i with
 |0=>exact of_decide_eq_true krf
 |1=>exact of_decide_eq_true krf
 |2=>exact of_decide_eq_true krf
 |_+3=>exact of_decide_eq_true krf
theorem Ar:∀i,((ed (hgP tA 1) (bj (hgP tA 1) tA.rules.l 0) (ak (az tA (hgP tA 1))).1).l.getD i default).atoms.l.length<1000000:=by
 intro i
 match i with
 |0=>exact of_decide_eq_true krf
 |1=>exact of_decide_eq_true krf
 |2=>exact of_decide_eq_true krf
 |_+3=>exact of_decide_eq_true krf
theorem tg {s:Nat}:(ao s).l.length<1000000:=by
 show(bv s).length<1000000
 rw[gr]
 have:=gV s
 omega
def lsX (n:Nat)(b:Nat->KL Int):AV:=.fz .exa 1 n (fun i _=>ah (b i))
theorem th (R:Res)(n:Nat)(a b:Nat->KL Int)(hp:List AObj)(g:R.σ)(hn:n<1000000)(h:∀i,i<n->(a i).l=(b i).l)(hl:∀i,(a i).l.length<1000000) :
  Does Tryd.prog R 29 [dw n a,.fz .exa 1 n (fun i _=>ah (b i))] hp g (.ret (.bool true)) hp g:=by
 refine bx (fun R g=>?_) (by exact⟨trivial,trivial,trivial⟩) R hp g
 refine spW (nt:=34) (rs:=[.tmp 4]) (k0:=0) ?_
 refine vcR [] (lkL [(0,[0,1]),(1,[0,1,5])]) (fun _=>[]) (fun (Q:AEx->St R.σ->Prop)=>WpC Tryd.prog R 34 0 29 [1,0,1,0] Q [Kont.blk 0,Kont.seq [1,1]] (St.mk [(0,dw n a),(1,fz Fz.exa 1 n fun (i x:Nat)=>ah (b i)),(5,i6 0)] [] g)) (?_)
 refine(a9 krf (fun (i:Nat)=>⟨[(0,dw n a),(1,fz Fz.exa 1 n fun (i x:Nat)=>ah (b i)),(5,.int .i64 i)],[],g⟩) (fun (i:Nat)=>(i<=n)) (fun (i:Nat)=>(n-i)) 0 (aT ⟨Bs _,Bs _,(Bt krf),trivial⟩ rfl rfl) ?_ (fun i hi=>?_))
 ·omega
 ·have h1:=hl i
  refine vcR [] (lkL [(2,[0,1,5,16]),(4,[0,1,5,28]),(5,[4]),(3,[0,1,5])]) (lkL [(4,[(8,ROrc.pcall (AV.bool (decide ((a i).l=(b i).l))))])]) (fun Q=>(fun (u1:Bool)=>(fun (u2:Int)=>(u1=true->Flw Tryd.prog/\(0<=u2/\u2<(↑n:Int))/\1<=1/\(0<=u2/\u2<(↑n:Int))/\1<=1/\(∀(hp:List AObj) (g:R.σ),true=true/\Does Tryd.prog R 33 [ah (a i),ah (b i)] hp g (ret (AV.bool (decide ((a i).l=(b i).l)))) hp g)/\((!decide ((a i).l=(b i).l))=true->Q AEx.ret (St.mk [(4,AV.bool false)] [] g))/\((!decide ((a i).l=(b i).l))=false->(-9223372036854775808<=u2+1/\u2+1<=9223372036854775807)/\Q AEx.normal (St.mk [(0,dw n a),(1,fz Fz.exa 1 n fun i x=>ah (b i)),(5,i6 (u2+1))] [] g)))/\(u1=false->Q (AEx.exit 0) (St.mk [(0,dw n a),(1,fz Fz.exa 1 n fun i x=>ah (b i)),(5,i6 u2),(16,AV.bool u1)] [] g))) ((↑i:Int))) (bif decide ((↑i:Int)<(↑n:Int)) then(↑n:Int)==(↑n:Int) else false)) ⟨fun c1=>have c1:(↑i:Int)<(↑n:Int)/\(↑n:Int)=(↑n:Int):=⟨(of_decide_eq_true (ep c1).1),(beq_iff_eq.mp (ep c1).2)⟩;⟨krf,omg,omg,omg,omg,(fun _ _=>⟨rfl,(rK _ _ _ _ _ omg)⟩),fun c2=>have c2:¬(a i).l=(b i).l:=(of_decide_eq_false ((Bool.not_eq_true' _).mp c2));?_,fun c2=>have c2:(a i).l=(b i).l:=(of_decide_eq_true ((Bool.not_eq_false' _).mp c2));⟨omg,?_⟩⟩,fun c1=>have c1:¬(↑i:Int)<(↑n:Int)∨¬(↑n:Int)=(↑n:Int):=((iE c1).imp (fun h=>(of_decide_eq_false h)) (fun h=>(beq_eq_false_iff_ne.mp h)));?_⟩
  ·exact absurd (h i omg) c2
  ·refine(aO (i+1) (aT ⟨Bs _,Bs _,(Bt krf),trivial⟩ rfl rfl) ?_ ?_)
   ·omega
   ·omega
  ·refine⟨_,BE _,vcR [] (lkL [(6,[4])]) (fun _=>[]) (fun (Q:AEx->St R.σ->Prop)=>Q AEx.ret (St.mk [(4,AV.bool ((↑n:Int)==(↑n:Int)))] [] g)) (?_)⟩
   refine(aq (aP _ _ rfl trivial rfl rfl rfl) (Bt ?_))
   show(AV.bool ((↑n:Int)==(↑n:Int)))=_
   show AV.bool _=AV.bool _
   simp
theorem tj (R:Res)[Tab LT R](g:R.σ):Does Tryd.prog R 15 [] [] g (.ret (.bool true)) [] g:=by
 have hD:∀(R:Res) [Tab LT R] (g:R.σ),Does Tryd.prog R 17 [av tA] [] g (.ret (.tup 3 (nth [aB (aA (ak tA).1),ah (dh tA (ak tA).2),.int .i64 0]))) [] g:=fun R _ g=>sz R tA me g
 have hW:∀(R:Res) [Tab LT R] (g:R.σ),Does Tryd.prog R 23 [av tA,aB tT] [] g (.ret (.tup 2 (nth [.int .i64 0,.int .i64 7]))) [] g:=fun R _ g=>zE R tA tT me dcd dcd Ao g
 have hO:∀(R:Res) [Tab LT R] (g:R.σ),Does Tryd.prog R 31 [av tA] [] g (.ret (.tup 2 (nth [dw 4 (fun i=>ao ((cy tA).getD i 0)),.int .i64 0]))) [] g:=fun R _ g=>by
  have h:=Aa R tA me g
  rw[show(cy tA).length=4 by rw[te];rfl] at h
  exact h
 have hN:∀(R:Res) [Tab LT R] (g:R.σ),Does Tryd.prog R 25 [av tA,.int .i64 1] [] g (.ret (.tup 3 (nth [.int .i64 2,aB (ed (hgP tA 1) (bj (hgP tA 1) tA.rules.l 0) (ak (az tA (hgP tA 1))).1),.int .i64 0]))) [] g:=fun R _ g=>by
  have h:=zy R tA 1 me dcd g
  rw[show(1:Int).toNat=1 from rfl,Al] at h
  exact h
 have hT:∀(R:Res) [Tab LT R] (g:R.σ),Does Tryd.prog R 27 [av tB,.int .i64 9] [] g (.ret (.tup 2 (nth [dw 2 (fun i=>ao ((stP tB 9).getD i 0)),.int .i64 0]))) [] g:=fun R _ g=>by
  have h:=Ag R tB 9 Aj dcd An g
  rw[show(stP tB 9).length=2 by rw[tf];rfl] at h
  exact h
 have hS1:∀(R:Res) (hp:List AObj) (g:R.σ),Does Tryd.prog R 20 [aB (aA (ak tA).1),aB tS] hp g (.ret (.bool true)) hp g:=fun R hp g=>by
  have h:=rL R (aA (ak tA).1) tS hp g (by rw[ka,Ak];decide) Aq
  rw[decide_eq_true Ap] at h
  exact h
 have hV1:∀(R:Res) (hp:List AObj) (g:R.σ),Does Tryd.prog R 21 [ah (dh tA (ak tA).2),ah tV] hp g (.ret (.bool true)) hp g:=fun R hp g=>by
  have h:=xS R (dh tA (ak tA).2) tV hp g (by rw[tc];decide)
  rw[decide_eq_true (show(dh tA (ak tA).2).l=tV.l from tc)] at h
  exact h
 have hL1:∀(R:Res) (hp:List AObj) (g:R.σ),Does Tryd.prog R 29 [dw 4 (fun i=>ao ((cy tA).getD i 0)),lsX 4 tO] hp g (.ret (.bool true)) hp g:=fun R hp g=>th R 4 _ _ hp g dcd (fun i hi=>by
  rw[te]
  match i,hi with
  |0,_=>exact of_decide_eq_true krf
  |1,_=>exact of_decide_eq_true krf
  |2,_=>exact of_decide_eq_true krf
  |3,_=>exact of_decide_eq_true krf) (fun i=>tg)
 have hL2:∀(R:Res) (hp:List AObj) (g:R.σ),Does Tryd.prog R 29 [dw 2 (fun i=>ao ((stP tB 9).getD i 0)),lsX 2 tM] hp g (.ret (.bool true)) hp g:=fun R hp g=>th R 2 _ _ hp g dcd (fun i hi=>by
  rw[tf]
  match i,hi with
  |0,_=>exact of_decide_eq_true krf
  |1,_=>exact of_decide_eq_true krf) (fun i=>tg)
 have hS2:∀(R:Res) (hp:List AObj) (g:R.σ),Does Tryd.prog R 20 [aB (ed (hgP tA 1) (bj (hgP tA 1) tA.rules.l 0) (ak (az tA (hgP tA 1))).1),aB tS] hp g (.ret (.bool true)) hp g:=fun R hp g=>by
  have h:=rL R (ed (hgP tA 1) (bj (hgP tA 1) tA.rules.l 0) (ak (az tA (hgP tA 1))).1) tS hp g (of_decide_eq_true krf) Ar
  rw[decide_eq_true Am] at h
  exact h
 have hA:∀(R:Res) (hp:List AObj) (g:R.σ),Does Tryd.prog R 44 [] hp g (.ret (av tA)) hp g:=fun R hp g=>c_A R hp g
 have hB:∀(R:Res) (hp:List AObj) (g:R.σ),Does Tryd.prog R 45 [] hp g (.ret (av tB)) hp g:=fun R hp g=>c_B R hp g
 have hC:∀(R:Res) (hp:List AObj) (g:R.σ),Does Tryd.prog R 57 [] hp g (.ret (aB tS)) hp g:=fun R hp g=>Ai R hp g
 obtain⟨n1,e1⟩:∃v,v=aB (aA (ak tA).1):=⟨_,rfl⟩
 obtain⟨n2,e2⟩:∃v,v=ah (dh tA (ak tA).2):=⟨_,rfl⟩
 obtain⟨n3,e3⟩:∃v,v=dw 4 (fun i=>ao ((cy tA).getD i 0)):=⟨_,rfl⟩
 obtain⟨n4,e4⟩:∃v,v=aB (ed (hgP tA 1) (bj (hgP tA 1) tA.rules.l 0) (ak (az tA (hgP tA 1))).1):=⟨_,rfl⟩
 obtain⟨n5,e5⟩:∃v,v=dw 2 (fun i=>ao ((stP tB 9).getD i 0)):=⟨_,rfl⟩
 simp only[<-e1,<-e2,<-e3,<-e4,<-e5] at hD hO hN hT hS1 hV1 hL1 hL2 hS2
 obtain⟨a,ha⟩:∃v,v=tA:=⟨_,rfl⟩
 obtain⟨b,hb⟩:∃v,v=tB:=⟨_,rfl⟩
 obtain⟨s,hs⟩:∃v,v=tS:=⟨_,rfl⟩
 obtain⟨t,ht⟩:∃v,v=tT:=⟨_,rfl⟩
 obtain⟨v,hv⟩:∃v,v=tV:=⟨_,rfl⟩
 rw[<-ha] at hA hD hW hO hN
 rw[<-hb] at hB hT
 rw[<-hs] at hC hS1 hS2
 rw[<-ht] at hW
 rw[<-hv] at hV1
 obtain⟨o1,w1⟩:∃v,v=tO1:=⟨_,rfl⟩
 obtain⟨o2,w2⟩:∃v,v=tO2:=⟨_,rfl⟩
 obtain⟨o3,w3⟩:∃v,v=tO3:=⟨_,rfl⟩
 obtain⟨o4,w4⟩:∃v,v=tO4:=⟨_,rfl⟩
 obtain⟨m1,w5⟩:∃v,v=tM1:=⟨_,rfl⟩
 obtain⟨m2,w6⟩:∃v,v=tM2:=⟨_,rfl⟩
 obtain⟨q1,w7⟩:∃v,v=tO:=⟨_,rfl⟩
 obtain⟨q2,w8⟩:∃v,v=tM:=⟨_,rfl⟩
 rw[<-w7] at hL1
 rw[<-w8] at hL2
 refine spW (nt:=97) (rs:=[.tmp 0]) (k0:=0) ?_
 refine vcR [[1,1,1,1,1,1,0,1,0]] (lkL [(1,[1,2,3]),(2,[1,2,3,4,5]),(3,[1,2,3,4,5,6,7]),(4,[1,2,3,4,5,6,7,8,9,10]),(5,[1,2,3,4,5,6,7,8,9,10,11,12]),(6,[1,2,4,6,8,9,11,59]),(8,[0])]) (lkL [(1,[(0,ROrc.pcall (av a)),(1,ROrc.kcall (tup 3 (nth [n1,n2,i6 0])))]),(2,[(0,ROrc.pcall (av a)),(1,ROrc.pcall (aB s)),(2,ROrc.kop (aB t)),(3,ROrc.kcall (tup 2 (nth [i6 0,i6 7])))]),(3,[(0,ROrc.pcall (av a)),(1,ROrc.kcall (tup 2 (nth [n3,i6 0])))]),(4,[(0,ROrc.pcall (av a)),(1,ROrc.kcall (tup 3 (nth [i6 2,n4,i6 0])))]),(5,[(0,ROrc.pcall (av b)),(1,ROrc.kcall (tup 2 (nth [n5,i6 0])))]),(8,[(1,ROrc.pcall (aB s)),(2,ROrc.pcall (AV.bool true)),(5,ROrc.kop (ah v)),(6,ROrc.pcall (AV.bool true)),(14,ROrc.kop (ah o1)),(15,ROrc.kop (ah o2)),(16,ROrc.kop (ah o3)),(17,ROrc.kop (ah o4)),(18,ROrc.kop (lsX 4 q1)),(19,ROrc.pcall (AV.bool true)),(27,ROrc.pcall (aB s)),(28,ROrc.pcall (AV.bool true)),(32,ROrc.kop (ah m1)),(33,ROrc.kop (ah m2)),(34,ROrc.kop (lsX 2 q2)),(35,ROrc.pcall (AV.bool true))])]) (fun Q=>(fun (u1:List Row)=>(fun (u2:List Row)=>(fun (u3:List (Nat × AV))=>(fun (u4:List Row)=>(fun (u5:Operand)=>(fun (u6:Nat × Bool)=>(fun (u7:List Edge)=>(fun (u8:Operand)=>(fun (u9:List Row)=>(fun (u10:Operand)=>(fun (u11:List Row)=>(∀(hp:List AObj) (g:R.σ),true=true/\Does Tryd.prog R 44 [] hp g (ret (av a)) hp g)/\(true=true/\Does Tryd.prog R 17 [av a] [] g (ret (tup 3 (nth [n1,n2,i6 0]))) [] g)/\(∀(hp:List AObj) (g:R.σ),true=true/\Does Tryd.prog R 44 [] hp g (ret (av a)) hp g)/\(∀(hp:List AObj) (g:R.σ),true=true/\Does Tryd.prog R 57 [] hp g (ret (aB s)) hp g)/\OpOk Tryd.prog R (Oper.mk (some 22) (Op.slice 29 (Operand.tmp 21) (some u5) none none) 29 "law.go:36" #[Edge.mk 1 Ground.data] none) (evO [Row.mk (some 21) none (aB s) false (some []) [],Row.mk (some 20) none (av a) false (some []) []] [(1,n1),(2,n2),(3,i6 0)] []) [] g (aB t) [] g/\(true=true/\Does Tryd.prog R 23 [av a,aB t] [] g (ret (tup 2 (nth [i6 0,i6 7]))) [] g)/\(∀(hp:List AObj) (g:R.σ),true=true/\Does Tryd.prog R 44 [] hp g (ret (av a)) hp g)/\(true=true/\Does Tryd.prog R 31 [av a] [] g (ret (tup 2 (nth [n3,i6 0]))) [] g)/\(∀(hp:List AObj) (g:R.σ),true=true/\Does Tryd.prog R 44 [] hp g (ret (av a)) hp g)/\(true=true/\Does Tryd.prog R 25 [av a,i6 1] [] g (ret (tup 3 (nth [i6 2,n4,i6 0]))) [] g)/\(∀(hp:List AObj) (g:R.σ),true=true/\Does Tryd.prog R 45 [] hp g (ret (av b)) hp g)/\(true=true/\Does Tryd.prog R 27 [av b,i6 9] [] g (ret (tup 2 (nth [n5,i6 0]))) [] g)/\(false=true->WpC Tryd.prog R 97 0 15 [1,1,1,1,1,1,0,1,0] Q [Kont.seq [1,1,1,1,1,1,1]] (St.mk u3 [] g))/\(false=false->(∀(hp:List AObj) (g:R.σ),true=true/\Does Tryd.prog R 57 [] hp g (ret (aB s)) hp g)/\(∀(hp:List AObj) (g:R.σ),true=true/\Does Tryd.prog R 20 [n1,aB s] hp g (ret (AV.bool true)) hp g)/\(true=true->OpOk Tryd.prog R (Oper.mk (some 65) (Op.buildSlice 33 6 #[(0,u5),(1,u5),(2,u8),(3,u8),(4,u10),(5,u10)]) 33 "law.go:43" #[Edge.mk 3 Ground.guard] (some (3,true))) (evO [Row.mk (some 64) (some (3,true)) n2 false (some []) [],Row.mk (some 63) none (AV.bool true) false (some []) [],Row.mk (some 62) none (AV.bool true) false (some []) [],Row.mk (some 61) none (aB s) false (some []) [],Row.mk (some 60) none n1 false (some []) []] u3 [(3,true)]) [] g (ah v) [] g)/\(true=true->∀(hp:List AObj) (g:R.σ),true=true/\Does Tryd.prog R 21 [n2,ah v] hp g (ret (AV.bool true)) hp g)/\(true=true->OpOk Tryd.prog R (Oper.mk (some 74) (Op.buildSlice 53 1 #[(0,Operand.const (Value.int i64 0))]) 53 "law.go:43" (List.toArray u7) (some u6)) (evO u1 u3 [u6]) [] g (ah o1) [] g)/\(true=true->OpOk Tryd.prog R (Oper.mk (some 75) (Op.buildSlice 53 2 #[(0,u5),(1,u10)]) 53 "law.go:43" (List.toArray u7) (some u6)) (evO (Row.mk (some 74) (some u6) (ah o1) true (some []) []::u1) u3 [u6]) [] g (ah o2) [] g)/\(true=true->OpOk Tryd.prog R (Oper.mk (some 76) (Op.buildSlice 53 1 #[(0,u8)]) 53 "law.go:43" (List.toArray u7) (some u6)) (evO u4 u3 [u6]) [] g (ah o3) [] g)/\(true=true->OpOk Tryd.prog R (Oper.mk (some 77) (Op.buildSlice 53 2 #[(0,Operand.const (Value.int i64 4)),(1,Operand.const (Value.int i64 5))]) 53 "law.go:43" (List.toArray u7) (some u6)) (evO u11 u3 [u6]) [] g (ah o4) [] g)/\(true=true->OpOk Tryd.prog R (Oper.mk (some 78) (Op.buildSlice 49 4 #[(0,Operand.tmp 74),(1,Operand.tmp 75),(2,Operand.tmp 76),(3,Operand.tmp 77)]) 49 "law.go:43" (List.toArray (Edge.mk 14 Ground.data::Edge.mk 15 Ground.data::Edge.mk 16 Ground.data::Edge.mk 17 Ground.data::u7)) (some u6)) (evO (Row.mk (some 77) (some u6) (ah o4) true (some []) []::u11) u3 [u6]) [] g (fz Fz.exa 1 4 fun i x=>ah (q1 i)) [] g)/\(true=true->∀(hp:List AObj) (g:R.σ),true=true/\Does Tryd.prog R 29 [n3,fz Fz.exa 1 4 fun i x=>ah (q1 i)] hp g (ret (AV.bool true)) hp g)/\(true=true->∀(hp:List AObj) (g:R.σ),true=true/\Does Tryd.prog R 57 [] hp g (ret (aB s)) hp g)/\(true=true->∀(hp:List AObj) (g:R.σ),true=true/\Does Tryd.prog R 20 [n4,aB s] hp g (ret (AV.bool true)) hp g)/\(true=true->OpOk Tryd.prog R (Oper.mk (some 92) (Op.buildSlice 53 2 #[(0,u8),(1,u5)]) 53 "law.go:43" #[Edge.mk 30 Ground.guard] (some (30,true))) (evO u2 u3 [(30,true)]) [] g (ah m1) [] g)/\(true=true->OpOk Tryd.prog R (Oper.mk (some 93) (Op.buildSlice 53 2 #[(0,Operand.const (Value.int i64 0)),(1,u5)]) 53 "law.go:43" #[Edge.mk 30 Ground.guard] (some (30,true))) (evO u9 u3 [(30,true)]) [] g (ah m2) [] g)/\(true=true->OpOk Tryd.prog R (Oper.mk (some 94) (Op.buildSlice 49 2 #[(0,Operand.tmp 92),(1,Operand.tmp 93)]) 49 "law.go:43" #[Edge.mk 32 Ground.data,Edge.mk 33 Ground.data,Edge.mk 30 Ground.guard] (some (30,true))) (evO (Row.mk (some 93) (some (30,true)) (ah m2) true (some []) []::u9) u3 [(30,true)]) [] g (fz Fz.exa 1 2 fun i x=>ah (q2 i)) [] g)/\(true=true->∀(hp:List AObj) (g:R.σ),true=true/\Does Tryd.prog R 29 [n5,fz Fz.exa 1 2 fun i x=>ah (q2 i)] hp g (ret (AV.bool true)) hp g)/\Q AEx.ret (St.mk [(0,AV.bool true)] [] g))) (Row.mk (some 76) (some u6) (ah o3) true (some []) []::u4)) (Operand.const (Value.int i64 3))) (Row.mk (some 92) (some (30,true)) (ah m1) true (some []) []::u2)) (Operand.const (Value.int i64 1))) ([Edge.mk 12 Ground.guard])) ((12,true))) (Operand.const (Value.int i64 2))) (Row.mk (some 75) (some (12,true)) (ah o2) true (some []) []::Row.mk (some 74) (some (12,true)) (ah o1) true (some []) []::u1)) ([(1,n1),(2,n2),(4,i6 0),(6,n3),(8,i6 2),(9,n4),(11,n5),(59,AV.bool false)])) (Row.mk (some 91) (some (30,true)) n5 false (some []) []::Row.mk (some 90) none (AV.bool true) false (some []) []::Row.mk (some 89) none (AV.bool true) false (some []) []::Row.mk (some 88) (some (25,true)) (AV.bool true) false (some []) []::Row.mk (some 87) (some (25,true)) (aB s) false (some []) []::Row.mk (some 86) (some (25,true)) n4 false (some []) []::Row.mk (some 85) none (AV.bool true) false (some []) []::Row.mk (some 84) none (AV.bool true) false (some []) []::Row.mk (some 83) (some (21,true)) (AV.bool true) false (some []) []::Row.mk (some 82) (some (21,true)) (i6 2) false (some []) []::Row.mk (some 81) none (AV.bool true) false (some []) []::Row.mk (some 80) none (AV.bool true) false (some []) []::Row.mk (some 79) (some (12,true)) (AV.bool true) false (some []) []::Row.mk (some 78) (some (12,true)) (fz Fz.exa 1 4 fun i x=>ah (q1 i)) true (some []) []::Row.mk (some 77) (some (12,true)) (ah o4) true (some []) []::Row.mk (some 76) (some (12,true)) (ah o3) true (some []) []::Row.mk (some 75) (some (12,true)) (ah o2) true (some []) []::Row.mk (some 74) (some (12,true)) (ah o1) true (some []) []::u1)) ([Row.mk (some 73) (some (12,true)) n3 false (some []) [],Row.mk (some 72) none (AV.bool true) false (some []) [],Row.mk (some 71) none (AV.bool true) false (some []) [],Row.mk (some 70) (some (8,true)) (AV.bool true) false (some []) [],Row.mk (some 69) (some (8,true)) (i6 0) false (some []) [],Row.mk (some 68) none (AV.bool true) false (some []) [],Row.mk (some 67) none (AV.bool true) false (some []) [],Row.mk (some 66) (some (3,true)) (AV.bool true) false (some []) [],Row.mk (some 65) (some (3,true)) (ah v) true (some []) [],Row.mk (some 64) (some (3,true)) n2 false (some []) [],Row.mk (some 63) none (AV.bool true) false (some []) [],Row.mk (some 62) none (AV.bool true) false (some []) [],Row.mk (some 61) none (aB s) false (some []) [],Row.mk (some 60) none n1 false (some []) []])) ⟨(fun _ _=>⟨rfl,(hA _ _ _)⟩),⟨rfl,(hD _ _)⟩,(fun _ _=>⟨rfl,(hA _ _ _)⟩),(fun _ _=>⟨rfl,(hC _ _ _)⟩),?_,⟨rfl,(hW _ _)⟩,(fun _ _=>⟨rfl,(hA _ _ _)⟩),⟨rfl,(hO _ _)⟩,(fun _ _=>⟨rfl,(hA _ _ _)⟩),⟨rfl,(hN _ _)⟩,(fun _ _=>⟨rfl,(hB _ _ _)⟩),⟨rfl,(hT _ _)⟩,fun h=>(nomatch h),fun _=>⟨(fun _ _=>⟨rfl,(hC _ _ _)⟩),(fun _ _=>⟨rfl,(hS1 _ _ _)⟩),?_,(fun hgd=>(fun _ _=>⟨rfl,(hV1 _ _ _)⟩)),?_,?_,?_,?_,?_,(fun hgd=>(fun _ _=>⟨rfl,(hL1 _ _ _)⟩)),(fun hgd=>(fun _ _=>⟨rfl,(hC _ _ _)⟩)),(fun hgd=>(fun _ _=>⟨rfl,(hS2 _ _ _)⟩)),?_,?_,?_,(fun hgd=>(fun _ _=>⟨rfl,(hL2 _ _ _)⟩)),?_⟩⟩
 ·subst hs ht
  exact fM rfl (by exact⟨Nat.le_refl _,⟨dcd,dcd⟩,trivial⟩) (nj rfl (fun i j hi hj=>match i,hi with|0,_=>rfl))
 ·intro _;subst hv;exact bT (n:=6) (es:=1) krf (by exact⟨trivial,trivial,trivial,trivial,trivial,trivial,trivial⟩) rfl rfl (fun i hi j hj=>match i,hi,j,hj with|0,_,0,_=>krf|1,_,0,_=>krf|2,_,0,_=>krf|3,_,0,_=>krf|4,_,0,_=>krf|5,_,0,_=>krf ) (fun i hi j hj=>match i,hi,j,hj with|0,_,0,_=>trivial|1,_,0,_=>trivial|2,_,0,_=>trivial|3,_,0,_=>trivial|4,_,0,_=>trivial|5,_,0,_=>trivial )
 ·intro _;subst w1;exact bT (n:=1) (es:=1) krf (by exact⟨trivial,trivial⟩) rfl rfl (fun i hi j hj=>match i,hi,j,hj with|0,_,0,_=>krf ) (fun i hi j hj=>match i,hi,j,hj with|0,_,0,_=>trivial )
 ·intro _;subst w2;exact bT (n:=2) (es:=1) krf (by exact⟨trivial,trivial,trivial⟩) rfl rfl (fun i hi j hj=>match i,hi,j,hj with|0,_,0,_=>krf|1,_,0,_=>krf ) (fun i hi j hj=>match i,hi,j,hj with|0,_,0,_=>trivial|1,_,0,_=>trivial )
 ·intro _;subst w3;exact bT (n:=1) (es:=1) krf (by exact⟨trivial,trivial⟩) rfl rfl (fun i hi j hj=>match i,hi,j,hj with|0,_,0,_=>krf ) (fun i hi j hj=>match i,hi,j,hj with|0,_,0,_=>trivial )
 ·intro _;subst w4;exact bT (n:=2) (es:=1) krf (by exact⟨trivial,trivial,trivial⟩) rfl rfl (fun i hi j hj=>match i,hi,j,hj with|0,_,0,_=>krf|1,_,0,_=>krf ) (fun i hi j hj=>match i,hi,j,hj with|0,_,0,_=>trivial|1,_,0,_=>trivial )
 ·intro _;subst w1 w2 w3 w4 w7;exact bT (n:=4) (es:=1) krf (by exact⟨trivial,trivial,trivial,trivial,trivial⟩) rfl rfl (fun i hi j hj=>match i,hi,j,hj with|0,_,0,_=>krf|1,_,0,_=>krf|2,_,0,_=>krf|3,_,0,_=>krf ) (fun i hi j hj=>match i,hi,j,hj with|0,_,0,_=>trivial|1,_,0,_=>trivial|2,_,0,_=>trivial|3,_,0,_=>trivial )
 ·intro _;subst w5;exact bT (n:=2) (es:=1) krf (by exact⟨trivial,trivial,trivial⟩) rfl rfl (fun i hi j hj=>match i,hi,j,hj with|0,_,0,_=>krf|1,_,0,_=>krf ) (fun i hi j hj=>match i,hi,j,hj with|0,_,0,_=>trivial|1,_,0,_=>trivial )
 ·intro _;subst w6;exact bT (n:=2) (es:=1) krf (by exact⟨trivial,trivial,trivial⟩) rfl rfl (fun i hi j hj=>match i,hi,j,hj with|0,_,0,_=>krf|1,_,0,_=>krf ) (fun i hi j hj=>match i,hi,j,hj with|0,_,0,_=>trivial|1,_,0,_=>trivial )
 ·intro _;subst w5 w6 w8;exact bT (n:=2) (es:=1) krf (by exact⟨trivial,trivial,trivial⟩) rfl rfl (fun i hi j hj=>match i,hi,j,hj with|0,_,0,_=>krf|1,_,0,_=>krf ) (fun i hi j hj=>match i,hi,j,hj with|0,_,0,_=>trivial|1,_,0,_=>trivial )
 ·refine(aq (aP _ _ rfl trivial rfl rfl rfl) (Bs _))
def tk {U:Type}(x:Fz × List U):KL U:=⟨x.2,x.1⟩
theorem As:Rea Tryd.prog 77 2 (fun _:Lit=>True) iN:=
 Rea.map (ny Tryd.underlying77 krf (iI rfl krf (nu Tryd.underlying3) (iI rfl krf (wi Tryd.underlying4) nv)))
  (fun x:Int × Bool × Unit=>⟨x.1,x.2.1⟩) (fun _ _=>trivial) (fun x j hj=>match j,hj with|0,_=>rfl|1,_=>rfl)
theorem At:Rea Tryd.prog 73 1 (fun _:KL Lit=>True) (fun x _=>am x):=
 Rea.map (qO Tryd.underlying73 krf omg As) tk (fun _ _=>trivial) (fun x j hj=>rfl)
theorem Au:Rea Tryd.prog 75 2 (fun _:Rule=>True) bG:=by
 have h:=ny (n:=2) Tryd.underlying75 krf (iI rfl (m:=1) krf (nu Tryd.underlying3) (iI rfl (m:=1) krf At nv))
 exact h.map (fun x=>⟨x.1,x.2.1⟩) (fun _ _=>trivial) (fun x j hj=>match j,hj with|0,_=>rfl|1,_=>rfl)
theorem Av:Rea Tryd.prog 22 1 (fun _:KL Rule=>True) (fun x _=>ad x):=
 Rea.map (qO Tryd.underlying22 krf omg Au) tk (fun _ _=>trivial) (fun x j hj=>rfl)
theorem Aw:Rea Tryd.prog 24 2 (fun _:Prg=>True) (fun p=>nth [.int .i64 p.atoms,ad p.rules]):=by
 have h:=ny (n:=2) Tryd.underlying24 krf (iI rfl (m:=1) krf (nu Tryd.underlying3) (iI rfl (m:=1) krf Av nv))
 exact h.map (fun x=>⟨x.1,x.2.1⟩) (fun _ _=>trivial) (fun x j hj=>match j,hj with|0,_=>rfl|1,_=>rfl)
theorem Ax:Arg Tryd.prog 24 (fun _:Prg=>True) av:=wl Tryd.underlying24 Aw
theorem tm {p:Prg}(h:aD p=true)(i:Nat):((aA (ak p).1).l.getD i default).atoms.l.length<=24:=by
 obtain⟨h1,h2,h3,h4,h5⟩:=ez h
 rcases Nat.lt_or_ge i (ak p).1.length with hi|hi
 ·have:=(oR h3 h2 h4 25 (fun _=>3) [] (fun s hs=>by cases hs) _ (bO (ak p).1 default hi)).2.2.1
  rw[oI hi]
  exact this
 ·have:(aA (ak p).1).l.getD i default=default:=by
   rw[List.getD_eq_getElem?_getD,List.getElem?_eq_none (by rw[ka];exact hi)]
   rfl
  rw[this]
  decide
theorem tn {E F:Nat->Int}(h:((List.range 25).all fun n=>decide (E n=F n))=true){n:Nat}(hn:n<25):E n=F n:=
 of_decide_eq_true (List.all_eq_true.1 h n (List.mem_range.2 hn))
theorem tp {n:Nat}(h:n<25):n=0∨n=1∨n=2∨n=3∨n=4∨n=5∨n=6∨n=7∨n=8∨n=9∨n=10∨n=11∨n=12∨n=13∨n=14∨n=15∨n=16∨n=17∨n=18∨n=19∨n=20∨n=21∨n=22∨n=23∨n=24:=by omega
theorem Ay (R:Res)(n:Nat)(hn:n<25)(g:R.σ):Does Tryd.prog R 110 [.int .u64 1,.int .u64 n] [] g (.ret (.tup 2 (nth [.int .u64 0,.int .u64 n]))) [] g:=by
 refine spW (nt:=51) (rs:=[.tmp 4,.tmp 5]) (k0:=0) ?_
 refine vcR [] (lkL [(0,[0,1]),(1,[0,1,6]),(2,[0,1,6,7]),(3,[0,1,6,7,8]),(4,[0,1,6,7,8,9]),(5,[0,1,6,7,8,9,10]),(6,[0,1,6,7,9,11]),(7,[0,1,6,7,9,11,12]),(8,[0,1,6,7,9,12,13]),(9,[0,1,7,9,12,13]),(10,[0,1,4]),(11,[4,5])]) (fun _=>[]) (fun Q=>(fun (u1:Int)=>(↑0:Int)<=32/\(↑0:Int)<=32/\(↑0:Int)<=32/\(↑0:Int)<=32/\(↑0:Int)<=32/\Q AEx.ret (St.mk [(4,int u64 (IntKind.wrap u64 (IntKind.wrap u64 (IntKind.wrap u64 (Int.fdiv 1 (2^32)*Int.fdiv (↑n:Int) (2^32))+Int.fdiv u1 (2^32))+Int.fdiv (IntKind.wrap u64 (IntKind.wrap u64 (↑(BitVec.toNat (BitVec.ofInt 64 u1&&&BitVec.ofInt 64 4294967295)):Int)+IntKind.wrap u64 (IntKind.wrap u64 (↑1:Int)*Int.fdiv (↑n:Int) (2^32)))) (2^32)))),(5,int u64 (IntKind.wrap u64 (1*(↑n:Int))))] [] g)) (IntKind.wrap u64 (IntKind.wrap u64 (Int.fdiv 1 (2^32)*IntKind.wrap u64 (↑(BitVec.toNat (BitVec.ofInt 64 (↑n:Int)&&&BitVec.ofInt 64 4294967295)):Int))+Int.fdiv (IntKind.wrap u64 (IntKind.wrap u64 (↑1:Int)*IntKind.wrap u64 (↑(BitVec.toNat (BitVec.ofInt 64 (↑n:Int)&&&BitVec.ofInt 64 4294967295)):Int))) (2^32)))) ⟨omg,omg,omg,omg,omg,?_⟩
 refine(aq (aP _ _ rfl trivial rfl rfl rfl) (Bw (fun j hj=>match j,hj with|0,_=>(Bt ?_)|1,_=>(Bt ?_) )))
 ·show AV.int .u64 _=AV.int .u64 0
  congr 1
  rcases tp hn with rfl|rfl|rfl|rfl|rfl|rfl|rfl|rfl|rfl|rfl|rfl|rfl|rfl|rfl|rfl|rfl|rfl|rfl|rfl|rfl|rfl|rfl|rfl|rfl|rfl <;> decide +kernel
 ·show AV.int .u64 _=AV.int .u64 (n:Int)
  congr 1
  rcases tp hn with rfl|rfl|rfl|rfl|rfl|rfl|rfl|rfl|rfl|rfl|rfl|rfl|rfl|rfl|rfl|rfl|rfl|rfl|rfl|rfl|rfl|rfl|rfl|rfl|rfl <;> decide +kernel
theorem tq (R:Res)(n:Nat)(hn:n<25)(hp:List AObj)(g:R.σ):Does Tryd.prog R 93 [.int .u64 1,.int .u64 n] hp g (.ret (.tup 2 (nth [.int .u64 0,.int .u64 n]))) hp g:=by
 refine bx (fun R g=>?_) (by exact⟨trivial,trivial,trivial⟩) R hp g
 refine spW (nt:=30) (rs:=[.tmp 4,.tmp 5]) (k0:=0) ?_
 refine vcR [] (lkL [(0,[0,1])]) (fun _=>[]) (fun (Q:AEx->St R.σ->Prop)=>WpC Tryd.prog R 30 0 93 [1,0] Q [Kont.seq [1,1]] (St.mk [(0,int u64 1),(1,int u64 (↑n:Int))] [] g)) (?_)
 refine wy false krf ?_
 show Wp _ _ _ _ _ _ [1,0,1] _ _
 refine vcR [] (lkL []) (fun _=>[]) (fun (Q:AEx->St R.σ->Prop)=>Q AEx.normal (St.mk [(0,int u64 1),(1,int u64 (↑n:Int))] [] g)) (?_)
 refine vcR [] (lkL [(3,[8,9]),(4,[4,5])]) (lkL [(3,[(2,ROrc.kcall (tup 2 (nth [int u64 0,int u64 (↑n:Int)])))])]) (fun Q=>(true=true/\Does Tryd.prog R 110 [int u64 1,int u64 (↑n:Int)] [] g (ret (tup 2 (nth [int u64 0,int u64 (↑n:Int)]))) [] g)/\Q AEx.ret (St.mk [(4,int u64 0),(5,int u64 (↑n:Int))] [] g)) ⟨⟨rfl,(Ay _ _ omg _)⟩,?_⟩
 refine(aq (aP _ _ rfl trivial rfl rfl rfl) (Bs _))
def eR (x:Int)(m:Nat):Nat->AV:=fun c=>.int .i64 (if c<m then x else 0)
theorem tr {n:Nat}(hn:n<25):AV.int .u64 (IntKind.u64.wrap (n:Int))=.int .u64 n:=congrArg (AV.int .u64) (tn (E:=fun n=>IntKind.u64.wrap (n:Int)) (F:=fun n=>n) (by decide +kernel) hn)
theorem tt {n:Nat}(hn:n<25):AV.int .i64 (IntKind.i64.wrap (n:Int))=.int .i64 n:=congrArg (AV.int .i64) (tn (E:=fun n=>IntKind.i64.wrap (n:Int)) (F:=fun n=>n) (by decide +kernel) hn)
structure OrdAll (p:Prg)(n left:Nat)(L:List Nat):Prop where
 is:∀i,i<L.length->∃A,A<n/\L.getD i 0=au p A
 cov:∀a,left.testBit a=true->∃i,i<L.length/\(L.getD i 0).testBit a=true
 sub:∀i a,i<L.length->(L.getD i 0).testBit a=true->left.testBit a=true
 ord:∀i j a b,i<j->j<L.length->(L.getD i 0).testBit a=true->(L.getD j 0).testBit b=true->¬Reach p a b
structure CompOk (p:Prg)(n:Nat)(L:List Nat)(v:List Int):Prop where
 len:v.length=n
 at_:∀a,a<n->0<=v.getD a 0/\v.getD a 0<L.length
 up:∀a b,a<n->Reach p a b->b<n/\v.getD b 0<=v.getD a 0
 same:∀a b,a<n->(L.getD (v.getD a 0).toNat 0).testBit b=true->Reach p a b
end Go.Avm.Pack
