/- Part 4 of the proof: lemmas. -/
import Derived.Test.YtbdagmhndndliaaDoorM3
namespace Go.Avm.Pack
open Go Go.Avm Go.Proofs
open Go.IntKind (i64 u64)
open Go.Avm.AV (int bool any fz fp sl ow ref fn ifc val agg tup)
open Go.Avm.AObj (cells dead)
open Go.Avm.Oc (ret)
set_option maxRecDepth 4000
def aH (v:Nat->Int):Nat->AV:=fun j=>if 2<=j/\j<26 then .int .i64 (v (j-2)) else .any
theorem kj {k:Nat}(v:Nat->Int)(j:Nat):Below k (aH v j):=by
 unfold aH
 split <;> trivial
theorem cT {f:Nat->Nat}(h:True){v:Nat->Int}{j:Nat}:aE f (aH v j)=aH v j:=by
 unfold aH
 split <;> rfl
theorem m7 {v:Nat->Int}{k j:Nat}(e:k=j+2)(h:j<24):aH v k=.int .i64 (v j):=by
 subst e
 unfold aH
 rw[if_pos omg]
 rfl
theorem qN {p:Prg}{v:Nat->Int}{m:AV}{j:Nat}:Le (ad p v m j) (aH v j):=by
 unfold aH
 split
 ·rename_i h
  exact yv (dF omg omg)
 ·exact Le.any _
def kO (s:Stp):Step:=⟨s.rule,s.atoms,.auto⟩
def bB (l:List Stp):KL Step:=⟨l.map kO,.auto⟩
theorem qO (l:List Stp):(bB l).l.length=l.length:=by unfold bB;rw[List.length_map]
theorem wv {l:List Stp}{i:Nat}(hi:i<l.length):(bB l).l.getD i default=kO (l.getD i default):=by
 unfold bB
 rw[List.getD_eq_getElem?_getD,List.getD_eq_getElem?_getD,List.getElem?_map,List.getElem?_eq_getElem hi]
 rfl
theorem ww {hp:List AObj}{k m o:Nat}{s:Stp}(ho:ae hp o=.cells false (s.atoms.length*1) (ah s.atoms))(hk:k<=o):aA hp k m (.ow true o s.atoms.length 1) (ag ⟨s.atoms,.auto⟩):=
 (aA.ow ho hk (Nat.le_refl _) dcd (fun j _=>yB (dE _ _))).le (yA rfl (fun i j hi hj=>by
  show AV.int .i64 _=_
  rw[show i*1+j=i by omega]))
theorem m8 (R:Res)[Tab LT R](p:Prg)(hl:p.rules.l.length<1000000)(hr:∀r,r∈p.rules.l->aK r)(hp:cM p)(hh:dI p)(g:R.σ):Does Tryd.prog R 60 [aq p] [] g (.ret (.tup 2 (nth [ay (bB (ak p).1),.ref 0 0]))) [.cells false 27 (aH (ak p).2)] g:=by
 refine gV (qM R p hl hr hp hh g) ?_
 have hlen:∀i,i<(ak p).1.length->i<24:=fun i hi=>by have:=mY hp hr hh;omega
 refine To.trans (i3 2 [(0,.tup 2 (nth [ay (bB (ak p).1),.ref 0 0]))] (Nat.zero_le _) (by show 2<=27;omega) (fun i hi=>?_) ⟨aA.tup (fun j hj=>?_),trivial⟩) ?_
 ·match i,hi with
  |0,_=>exact fun j hj=>aP p _ 0 j
  |1,_=>trivial
 ·match j,hj with
  |0,_=>
   refine aA.le (aA.ow (o:=2) (N:=(ak p).1.length*2) (c:=bG (ak p).1) (get:=fun c=>bif Nat.beq (c%2) 0 then .int .i64 ((ak p).1.getD (c/2) default).rule else ag ⟨((ak p).1.getD (c/2) default).atoms,.auto⟩) (fr:=false) rfl (Nat.le_refl _) (Nat.le_refl _) dcd (fun c hc=>?_)) ?_
   ·unfold bG
    cases Nat.beq (c%2) 0 with
    |true=>exact yB trivial
    |false=>exact ww ((kG (hlen _ omg)).trans rfl) omg
   ·refine yA (qO _).symm (fun i j hi hj=>?_)
    show _=e7 _ j
    rw[wv hi]
    show(bif Nat.beq ((i*2+j)%2) 0 then _ else _)=_
    rw[show(i*2+j)%2=j by omega,show(i*2+j)/2=i by omega]
    match j,hj with
    |0,_=>rfl
    |1,_=>rfl
  |1,_=>exact yB (show 0<2 by omega)
 ·exact dP [0] 2 rfl rfl rfl rfl rfl ⟨yy (fun j hj=>match j,hj with|0,_=>yv rfl|1,_=>yu _),trivial⟩ ⟨⟨rfl,Nat.le_refl _,fun j hj=>by
   show Le (ad p _ (.mp 1) j) (aE _ (aH _ j))
   rw[cT trivial]
   exact qN⟩,trivial⟩
theorem wx (R:Res)(v:Nat->Int)(n:Nat)(hn:0<n/\n<=24)(g:R.σ):Does Tryd.prog R 61 [.sl 0 2 n 24 true 1] [.cells false 27 (aH v)] g (.ret (.sl 1 0 n n false 1)) [.cells false 27 (aH v),.cells false (n*1) (fun j=>.int .i64 (v j))] g:=by
 have hroom:aL=140737488355328:=rfl
 refine spW (nt:=8) (rs:=[.tmp 2]) (k0:=1) ?_
 refine vcR [[1,0,1,0]] (lkL [(0,[0]),(1,[0,4]),(3,[2])]) (fun _=>[]) (fun Q=>(false=true->WpC Tryd.prog R 8 1 61 [1,0,1,0] Q [Kont.seq [1,1]] (St.mk [(0,sl 0 2 n 24 true 1),(4,AV.bool false)] [cells false 27 (aH v)] g))/\(false=false->0<0+n/\0<n/\0<1/\(0+n)*8<=aL/\0+n<=aL/\2+n*1<=27/\0<=0/\Q AEx.ret (St.mk [(2,sl 2 0 (0+n) (0+n) false 1)] [cells false 27 (aH v),cells false 0 fun j=>int i64 0,cells false ((0+n)*1) (aW 1 0 (fun (i j:Nat)=>int i64 0) fun i j=>aH v (2+i*1+j))] g))) ⟨fun h=>(nomatch h),fun _=>⟨omg,omg,omg,omg,omg,omg,omg,?_⟩⟩
 refine eU (.sl 2 0 (0+n) (0+n) false 1) _ rfl trivial (toS [0,2] 3 (hfr:=⟨yv (by show AV.sl 2 0 (0+n) (0+n) false 1=AV.sl 2 0 n n false 1;rw[Nat.zero_add]),trivial⟩) (hob:=⟨yE (fun j hj=>(cT trivial).symm),⟨rfl,by rw[Nat.zero_add];exact Nat.le_refl _,fun c hc=>yv ?_⟩,trivial⟩))
 show aW 1 0 _ _ c=AV.int .i64 (v c)
 unfold aW
 rw[if_neg omg]
 show aH v (2+(c-0*1)/1*1+(c-0*1)%1)=_
 exact m7 omg omg
def cE (p:Prg)(v:Nat->Int):KL Int:=⟨(List.range p.atoms.toNat).map v,.opn⟩
theorem wy (p:Prg)(v:Nat->Int):(cE p v).l.length=p.atoms.toNat:=by unfold cE;rw[List.length_map,List.length_range]
theorem wz {p:Prg}{v:Nat->Int}{i:Nat}(hi:i<p.atoms.toNat):(cE p v).l.getD i 0=v i:=by
 unfold cE
 rw[List.getD_eq_getElem?_getD,List.getElem?_map,List.getElem?_range hi]
 rfl
theorem fe {p:Prg}(h:aJ p=true):p.rules.l.length<1000000/\(∀r,r∈p.rules.l->aK r)/\cM p/\dI p/\(∀r,r∈p.rules.l->∀l,l∈r.body.l->0<=l.atom/\l.atom<p.atoms):=by
 unfold aJ at h
 simp only[Bool.and_eq_true,decide_eq_true_eq,List.all_eq_true] at h
 obtain⟨h1,h2,h3⟩:=h
 have hr:∀r,r∈p.rules.l->(0<=r.head/\r.head<=p.atoms-1)/\r.body.l.length<=4/\∀l,l∈r.body.l->0<=l.atom/\l.atom<=p.atoms-1:=fun r hm=>by
  have:=h3 r hm
  unfold i9 at this
  simp only[Bool.and_eq_true,decide_eq_true_eq,List.all_eq_true] at this
  refine⟨this.1,this.2.1,fun l hl=>?_⟩
  have:=this.2.2 l hl
  unfold fC at this
  exact of_decide_eq_true this
 refine⟨omg,fun r hm=>?_,h1,fun r hm=>?_,fun r hm l hl=>?_⟩
 ·obtain⟨a1,a2,a3⟩:=hr r hm
  refine⟨⟨omg,fun l hl=>?_⟩,a1.1,omg⟩
  have:=a3 l hl
  omega
 ·have:=(hr r hm).1;omega
 ·have:=(hr r hm).2.2 l hl;omega
theorem ff {p:Prg}(h:aJ p=true):d9 p:=by
 obtain⟨h1,h2,_⟩:=fe h
 refine⟨h1,fun i=>?_⟩
 rcases Nat.lt_or_ge i p.rules.l.length with hi|hi
 ·exact(h2 _ (bX _ default hi)).1.1
 ·rw[List.getD_eq_getElem?_getD,List.getElem?_eq_none hi]
  exact(by decide:(0:Nat)<1000000)
theorem qP (R:Res)[Tab LT R](p:Prg)(hb:aJ p=true)(g:R.σ):Does Tryd.prog R 17 [aq p] [] g (.ret (.tup 3 (nth [ay (bB (ak p).1),ag (cE p (ak p).2),.int .i64 0]))) [] g:=by
 obtain⟨hl,hr,hp,hh,hx⟩:=fe hb
 have hs:d9 p:=ff hb
 have hp':1<=p.atoms/\p.atoms<=24:=hp
 refine spW (nt:=23) (rs:=[.tmp 2,.tmp 3,.tmp 4]) (k0:=0) ?_
 have hc:((if aJ p then(0:Int) else 2) != 0)=false:=by rw[hb];rfl
 refine vcR [[1,0,1,0]] (lkL [(0,[1]),(1,[1,9]),(3,[1,5,6]),(4,[2,3,4])]) (lkL [(1,[(1,ROrc.pcall (int i64 (if aJ p=true then 0 else 2)))]),(3,[(1,ROrc.call (tup 2 (nth [fz Fz.auto 2 (List.length (bB (ak p).fst).l) fun (i:Nat)=>e7 (List.getD (bB (ak p).fst).l i default),ref 1 0])) [cells false 2 (nth [int i64 p.atoms,af p.rules]),cells false 27 (aH (ak p).snd)] g)]),(4,[(7,ROrc.callN (sl 2 0 (Int.toNat p.atoms-0) (Int.toNat p.atoms-0) false 1) [] [cells false ((Int.toNat p.atoms-0)*1) fun (j:Nat)=>int i64 ((ak p).snd j)] g)])]) (fun Q=>(fun (u1:AObj)=>(fun (u2:List AObj)=>(fun (u3:AV)=>(fun (u4:Int)=>(fun (u5:Nat)=>2<=2/\(∀(hp:List AObj) (g:R.σ),true=true/\Does Tryd.prog R 16 [aq p] hp g (ret (int i64 u4)) hp g)/\((u4 != 0)=true->WpC Tryd.prog R 23 0 17 [1,0,1,0] Q [Kont.seq [1,1]] (St.mk [(1,ref 0 0),(9,AV.bool (u4 != 0))] [u1] g))/\((u4 != 0)=false->2<=2/\(true=true/\Does Tryd.prog R 60 [aq p] [u1] g (ret (tup 2 (nth [u3,ref 1 0]))) [u1,cells false 27 (aH (ak p).snd)] g)/\Flw Tryd.prog/\1<=2/\(0<=p.atoms/\p.atoms<=(↑24:Int))/\0<24/\26<=27/\0<27/\(true=true/\Does Tryd.prog R 61 [sl 1 2 u5 24 true 1] [u1,cells false 27 (aH (ak p).snd)] g (ret (sl 2 0 u5 u5 false 1)) u2 g)/\Q AEx.ret (St.mk [(2,u3),(3,sl 2 0 u5 u5 false 1),(4,int i64 0)] u2 g))) (Int.toNat p.atoms-0)) (if aJ p=true then 0 else 2)) (fz Fz.auto 2 (List.length (bB (ak p).fst).l) fun i=>e7 (List.getD (bB (ak p).fst).l i default))) ([u1,cells false 27 (aH (ak p).snd),cells false ((Int.toNat p.atoms-0)*1) fun j=>int i64 ((ak p).snd j)])) (cells false 2 (nth [int i64 p.atoms,af p.rules]))) ⟨omg,(fun _ _=>⟨rfl,(e8 _ _ _ _ omg)⟩),fun hcc=>(nomatch (hc.symm.trans hcc)),fun _=>⟨omg,⟨rfl,(doT (T:=LT) [] 1 (fun R _ g=>m8 R (p) omg omg omg omg g))⟩,krf,omg,omg,omg,omg,omg,⟨rfl,(doT (T:=LT) [1] 2 (fun R _ g=>wx R ((ak p).snd) (Int.toNat p.atoms-0) omg g))⟩,?_⟩⟩
 refine eU (.tup 3 (nth [ay (bB (ak p).1),.sl 2 0 (p.atoms.toNat-0) (p.atoms.toNat-0) false 1,.int .i64 0])) _ rfl trivial (i3 0 [(0,.tup 3 (nth [ay (bB (ak p).1),ag (cE p (ak p).2),.int .i64 0]))] (Nat.le_refl _) (Nat.zero_le _) (fun i hi=>absurd hi (Nat.not_lt_zero i)) ⟨aA.tup (fun j hj=>match j,hj with|0,_=>yB trivial|1,_=>aA.le (aA.sl (o:=2) (N:=(p.atoms.toNat-0)*1) (c:=fun j=>.int .i64 ((ak p).2 j)) (get:=fun j=>.int .i64 ((ak p).2 j)) (fr:=false) rfl (Nat.zero_le _) omg (Nat.le_refl _) dcd (fun j _=>yB trivial)) (yA (by rw[wy];rfl) (fun i j hi hj=>?_))|2,_=>yB trivial),trivial⟩)
 have hi':i<p.atoms.toNat:=hi
 rw[wz hi',show 0+i*1+j=i by omega]
def hgF (p:Prg):Nat->Nat->Nat->Nat
 |0,_,s=>s
 |n+1,a,s=>if s.testBit a then s else(ofH p.rules.l (a:Int)).foldl (fun (s:Nat) (r:Rule)=>r.body.l.foldl (fun (s:Nat) (l:Lit)=>hgF p n l.atom.toNat s) s) (s|||2^a)
theorem kP {U β:Type}(f:β->U->β)(s:β)(l:List U)(d:U){i:Nat}(h:i<l.length):(l.take (i+1)).foldl f s=f ((l.take i).foldl f s) (l.getD i d):=by
 rw[List.take_add_one,List.foldl_append,List.getElem?_eq_getElem h,List.getD_eq_getElem?_getD,List.getElem?_eq_getElem h]
 rfl
def upS (f:Nat->Nat):Prop:=∀s,s<2^24->dT s (f s)/\f s<2^24
theorem fH {U:Type}{f:Nat->U->Nat}:∀{l:List U},(∀x,x∈l->upS (fun s=>f s x))->upS (fun s=>l.foldl f s)
 |[],_=>fun s hs=>⟨fun _ h=>h,hs⟩
 |x::l,h=>fun s hs=>by
  obtain⟨h1,h2⟩:=h x List.mem_cons_self s hs
  obtain⟨h3,h4⟩:=fH (l:=l) (fun y hy=>h y (List.mem_cons_of_mem _ hy)) _ h2
  exact⟨fun j hj=>h3 j (h1 j hj),h4⟩
theorem jp {s a:Nat}(hs:s<2^24)(ha:a<24):s|||2^a<2^24:=Nat.or_lt_two_pow hs (Nat.pow_lt_pow_right dcd ha)
theorem gn (s a j:Nat):(s|||2^a).testBit j=(s.testBit j||decide (a=j)):=by
 rw[Nat.testBit_or,Nat.testBit_two_pow]
theorem gp {p:Prg}(hr:∀r,r∈p.rules.l->aK r):∀(n a:Nat),a<24->upS (hgF p n a)
 |0,_,_=>fun s hs=>⟨fun _ h=>h,hs⟩
 |n+1,a,ha=>fun s hs=>by
  show dT s (if s.testBit a then s else _)/\(if s.testBit a then s else _)<2^24
  by_cases hb:s.testBit a=true
  ·rw[if_pos hb];exact⟨fun _ h=>h,hs⟩
  ·rw[if_neg hb]
   have h:=fH (l:=ofH p.rules.l (a:Int)) (f:=fun (s:Nat) (r:Rule)=>r.body.l.foldl (fun (s:Nat) (l:Lit)=>hgF p n l.atom.toNat s) s) (fun r hm=>fH (fun l hl=>gp hr n l.atom.toNat (by
    have:=(hr r (List.mem_filter.1 hm).1).1.2 l hl
    omega))) _ (jp hs ha)
   exact⟨fun j hj=>h.1 j (by rw[gn,hj];rfl),h.2⟩
theorem m9 {s t:Nat}(h:dT s t):(ai s).length<=(ai t).length:=mV (fun j _ hj=>h j hj)
theorem qQ {s a:Nat}(ha:a<24)(h:s.testBit a=false):(ai s).length<(ai (s|||2^a)).length:=
 jm (fun j _ hj=>by rw[gn,hj];rfl) ⟨a,List.mem_range.2 ha,by rw[gn];simp,h⟩
theorem wA (p:Prg)(v:Nat->Int)(es:List (Value × AV))(hes:HeadsOk es p.rules.l)(hl:p.rules.l.length<1000000)(hr:∀r,r∈p.rules.l->aK r):∀(n:Nat) (R:Res) (a:Int) (s:Nat) (g:R.σ),0<=a/\a<24->s<2^24->24<n+(ai s).length ->
  Does Tryd.prog R 102 [.int .i64 a,.ref 2 0,.ref 3 0,.ref 4 0] [.cells false 27 (ad p v (.mp 1)),.map es,.cells false 1 (fun _=>.int .u64 s),.cells false 1 (fun _=>.ref 0 0),.cells false 1 (fun _=>.fn 102 0 (nth []) 3 (nth [.ref 2 0,.ref 3 0,.ref 4 0]))] g (.ret (.tup 0 (nth []))) [.cells false 27 (ad p v (.mp 1)),.map es,.cells false 1 (fun _=>.int .u64 (hgF p n a.toNat s)),.cells false 1 (fun _=>.ref 0 0),.cells false 1 (fun _=>.fn 102 0 (nth []) 3 (nth [.ref 2 0,.ref 3 0,.ref 4 0]))] g:=by
 intro n
 induction n with
 |zero=>
  intro R a s g _ _ h
  have:=gl s
  omega
 |succ n ih=>
  intro R a s g ha hs hn
  obtain⟨m,hm⟩:∃m:Nat,a=m:=⟨a.toNat,by omega⟩
  subst hm
  have hks:∀e∈es,∃l,Go.keyOf Tryd.prog 3 e.1=some l:=fun e he=>by
   obtain⟨b,e1,e2⟩:=hes.key e he
   rw[e1]
   exact gi e2
  obtain⟨k,hk1,hk2⟩:∃k:Fz,(ofH p.rules.l m=[]->k=.nil)/\(ofH p.rules.l m≠[]->k=.opn):=⟨if ofH p.rules.l m=[] then .nil else .opn,fun h=>if_pos h,fun h=>if_neg h⟩
  have hlf:(ofH p.rules.l m).length<1000000:=Nat.lt_of_le_of_lt (List.length_filter_le _ _) hl
  have hrf:∀r,r∈ofH p.rules.l m->aK r:=fun r h=>hr r (List.mem_filter.1 h |>.1)
  have hdef:hgF p (n+1) ((m:Int).toNat) s=if s.testBit m then s else(ofH p.rules.l (m:Int)).foldl (fun (s:Nat) (r:Rule)=>r.body.l.foldl (fun (s:Nat) (l:Lit)=>hgF p n l.atom.toNat s) s) (s|||2^m):=rfl
  rw[hdef]
  refine dp (nt:=40) (rs:=[]) (k0:=5) (by kernel_rfl) (by kernel_rfl) (by kernel_rfl) rfl ?_
  refine vcQ [] (lkL [(0,[0,1,2,3,11]),(1,[0,2,3]),(2,[3,21,22,23])]) (lkL [(0,[(2,ROrc.pcall (AV.bool (Nat.testBit s m)))]),(1,[(2,ROrc.pcall (int u64 (↑(2^m):Int))),(4,ROrc.val (Orc.obj (nth [int u64 (IntKind.wrap u64 (↑(BitVec.toNat (BitVec.ofInt 64 (s:Int)|||BitVec.ofInt 64 (↑(2^m):Int))):Int))])))]),(2,[(5,ROrc.kop (af (KL.mk (ofH p.rules.l (m:Int)) k)))])]) (fun Q=>(fun (u1:List AObj)=>(fun (u2:AV)=>(fun (u3:AV)=>(fun (u4:AV)=>1<=1/\(∀(hp:List AObj) (g:R.σ),true=true/\Does Tryd.prog R 71 [int u64 (s:Int),u4] hp g (ret (AV.bool (Nat.testBit s m))) hp g)/\(Nat.testBit s m=true->Q AEx.ret (St.mk [(0,u4),(1,ref 2 0),(2,ref 3 0),(3,ref 4 0),(11,AV.bool (Nat.testBit s m))] [cells false 27 (ad p v (AV.mp 1)),AObj.map es,cells false 1 fun (x:Nat)=>int u64 (s:Int),cells false 1 fun (x:Nat)=>ref 0 0,cells false 1 fun (x:Nat)=>fn 102 0 (nth []) 3 (nth [ref 2 0,ref 3 0,ref 4 0])] g))/\(Nat.testBit s m=false->Tables.follows Tryd.prog.toTables Departure.mixedOrders=true/\1<=1/\(∀(hp:List AObj) (g:R.σ),true=true/\Does Tryd.prog R 79 [u4] hp g (ret (int u64 (↑(2^m):Int))) hp g)/\1<=1/\(∀(c:Nat),c<1->nth [u3] c=al (fun (x:Nat)=>int u64 (s:Int)) 0 1 (fun (x:Nat)=>u3) c)/\1<=1/\27<=27/\OpOk Tryd.prog R (Oper.mk (some 21) (Op.lookup 96 (Operand.tmp 19) (Operand.tmp 20) false) 22 "table.go:248" #[Edge.mk 3 Ground.data,Edge.mk 4 Ground.data] none) (evO [Row.mk (some 20) none u4 false (some []) [],Row.mk (some 19) none (AV.mp 1) false (some []) [0],Row.mk (some 18) none (ref 0 26) false (some []) [],Row.mk (some 17) none (ref 0 0) false (some []) [],Row.mk (some 16) none (ref 0 0) false (some []) [3]] [(0,u4),(2,ref 3 0),(3,ref 4 0)] []) u1 g u2 u1 g/\Wp Tryd.prog R 40 5 Rd.top (aw Tryd.prog 102) [1,1,1,0] (aO Tryd.prog R 40 5 Rd.top (aw Tryd.prog 102) Q [Kont.blk 0]) (St.mk [(3,ref 4 0),(21,u2),(22,int i64 (↑((ofH p.rules.l (m:Int)).length):Int)),(23,int i64 0)] u1 g))) (int i64 (m:Int))) (int u64 (IntKind.wrap u64 (↑(BitVec.toNat (BitVec.ofInt 64 (s:Int)|||BitVec.ofInt 64 (↑(2^m):Int))):Int)))) (fz k 2 ((ofH p.rules.l (m:Int)).length) fun (i:Nat)=>bz ((ofH p.rules.l (m:Int)).getD i default))) ([cells false 27 (ad p v (AV.mp 1)),AObj.map es,cells false 1 (nth [int u64 (IntKind.wrap u64 (↑(BitVec.toNat (BitVec.ofInt 64 (s:Int)|||BitVec.ofInt 64 (↑(2^m):Int))):Int))]),cells false 1 fun (x:Nat)=>ref 0 0,cells false 1 fun (x:Nat)=>fn 102 0 (nth []) 3 (nth [ref 2 0,ref 3 0,ref 4 0])])) (fun _=>by kernel_rfl) ⟨by omega,(fun _ _=>⟨rfl,(ja _ _ _ (by omega) (by omega) _ _)⟩),fun c1=>?_,fun c1=>⟨by kernel_rfl,by omega,(fun _ _=>⟨rfl,(gg _ _ (by omega) _ _)⟩),by omega,(fun c hc=>match c,hc with|0,_=>(by kernel_rfl) ),by omega,by omega,?_,?_⟩⟩
  ·rw[if_pos c1]
   refine(av (aS _ _ rfl trivial rfl rfl rfl) (yu _))
  ·by_cases h0:ofH p.rules.l m=[]
   ·rw[hk1 h0,h0]
    exact pB (t:=96) (kt:=3) (vt:=22) (m:=.tmp 19) (x:=.tmp 20) (ob:=1) (es:=es) (kv:=.int .i64 m) rfl (by kernel_rfl) (Go.Maps.int_keyed (q:=.i64) (by kernel_rfl)) rfl (by exact Le.nil) rfl rfl (fun FM Z v h=>h) (gi (by omega)) hks (hes.miss m h0)
   ·rw[hk2 h0]
    exact pA (t:=96) (kt:=3) (vt:=22) (m:=.tmp 19) (x:=.tmp 20) (ob:=1) (es:=es) (kv:=.int .i64 m) (d:=af ⟨ofH p.rules.l m,.opn⟩) rfl (by kernel_rfl) (Go.Maps.int_keyed (q:=.i64) (by kernel_rfl)) rfl rfl (fun FM Z v h=>h) (gi (by omega)) hks (hes.hit m h0).1 (hes.hit m h0).2
  ·rw[if_neg (by rw[c1];decide)]
   obtain⟨t,ht⟩:∃t,s|||2^m=t:=⟨_,rfl⟩
   have ht24:t<2^24:=by rw[<-ht];exact jp hs (by omega)
   have htn:24<n+(ai t).length:=by
    have:=qQ (s:=s) (a:=m) (by omega) c1
    rw[ht] at this
    omega
   obtain⟨L,hL⟩:∃L,ofH p.rules.l (m:Int)=L:=⟨_,rfl⟩
   rw[hL] at hlf hrf
   have hor:u64.wrap ((BitVec.ofInt 64 (s:Int)|||BitVec.ofInt 64 (2^m)).toNat:Int)=(t:Int):=by
    rw[<-ht]
    exact Tb.u64_or (bu hs) (bu (Nat.pow_lt_pow_right (by decide) (by omega)))
   obtain⟨F,hF⟩:∃F:Nat->Rule->Nat,F=fun (s:Nat) (r:Rule)=>r.body.l.foldl (fun (s:Nat) (l:Lit)=>hgF p n l.atom.toNat s) s:=⟨_,rfl⟩
   rw[ht,hL,hor,<-hF]
   have hup:∀r,r∈L->upS (fun s=>F s r):=fun r hm=>by
    rw[hF]
    exact fH (fun l hl=>gp hr n l.atom.toNat (by have:=(hrf r hm).1.2 l hl;omega))
   have huT:∀i,dT t ((L.take i).foldl F t)/\(L.take i).foldl F t<2^24:=fun i=>fH (f:=F) (l:=L.take i) (fun r hm=>hup r (List.mem_of_mem_take hm)) t ht24
   refine(bq (by kernel_rfl) (fun (i:Nat)=>⟨[(3,ref 4 0),(21,fz k 2 (L.length) fun (i:Nat)=>bz (L.getD i default)),(22,int i64 (L.length:Int)),(23,.int .i64 i)],[.cells false 27 (ad p v (.mp 1)),.map es,.cells false 1 (fun _=>.int .u64 ((L.take i).foldl F t:Nat)),.cells false 1 (fun _=>.ref 0 0),.cells false 1 (fun _=>.fn 102 0 (nth []) 3 (nth [.ref 2 0,.ref 3 0,.ref 4 0]))],g⟩) (fun (i:Nat)=>(i<=L.length)) (fun (i:Nat)=>(L.length-i)) 0 (iF ⟨yu _,yu _,yu _,(yv (by kernel_rfl)),trivial⟩ ⟨yw,rfl,⟨rfl,Nat.le_refl _,fun j hj=>match j,hj with|0,_=>(yv (by kernel_rfl)) ⟩,yw,yw,trivial⟩ rfl) ?_ (fun i hi=>?_))
   ·exact Nat.zero_le _
   ·obtain⟨hu1,hu2⟩:=huT i
    rcases Nat.lt_or_ge i L.length with hlt|hge
    ·have hq:=hrf _ (gh hlt)
     have hq1:=hq.1.1
     have hstep:=kP F t L default hlt
     obtain⟨u,hu⟩:∃u,(L.take i).foldl F t=u:=⟨_,rfl⟩
     rw[hu] at hu1 hu2 hstep ⊢
     obtain⟨B,hB⟩:∃B,(L.getD i default).body=B:=⟨_,rfl⟩
     have hFB:F u (L.getD i default)=B.l.foldl (fun (s:Nat) (l:Lit)=>hgF p n l.atom.toNat s) u:=by rw[hF,<-hB]
     have hBl:∀l,l∈B.l->0<=l.atom/\l.atom<24:=by rw[<-hB];exact hq.1.2
     have huB:∀j,dT u ((B.l.take j).foldl (fun (s:Nat) (l:Lit)=>hgF p n l.atom.toNat s) u)/\(B.l.take j).foldl (fun (s:Nat) (l:Lit)=>hgF p n l.atom.toNat s) u<2^24:=fun j=>fH (f:=fun (s:Nat) (l:Lit)=>hgF p n l.atom.toNat s) (fun l hm=>gp hr n l.atom.toNat (by have:=hBl l (List.mem_of_mem_take hm);omega)) u hu2
     rw[hFB] at hstep
     rw[hB] at hq1
     refine vcQ [] (lkL [(3,[3,21,22,23,24]),(4,[3,6,21,22,23]),(5,[3,21,22,23,28,29,30])]) (lkL [(4,[(3,ROrc.val (Orc.obj (nth [int i64 (L.getD i default).head,ao (L.getD i default).body])))])]) (fun Q=>(fun (u1:Int)=>(fun (u2:List AV)=>(fun (u3:Int)=>(fun (u4:AObj)=>(fun (u5:AV)=>(decide (u3<u1)=true->(0<=u3/\u3<u1)/\2<=2/\2<=2/\(∀(c:Nat),c<2->nth u2 c=al (nth [int i64 0,fz Fz.nil 0 0 fun _ _=>any]) 0 2 (List.brecOn (motive:=fun (x:List AV)=>Nat->AV) u2 nth._f) c)/\2<=2/\Wp Tryd.prog R 40 5 Rd.top (aw Tryd.prog 102) [1,1,1,0,0,1,1,0,0,1,1,0] (aO Tryd.prog R 40 5 Rd.top (aw Tryd.prog 102) Q [Kont.blk 2,Kont.blk 1,Kont.seq [1,1,1,0,0,1,1,1]]) (St.mk [(3,ref 4 0),(21,u5),(22,int i64 u1),(23,int i64 u3),(28,ao (L.getD i default).body),(29,int i64 (↑((L.getD i default).body.l.length):Int)),(30,int i64 0)] [cells false 27 (ad p v (AV.mp 1)),AObj.map es,cells false 1 fun (x:Nat)=>int u64 (u:Int),cells false 1 fun (x:Nat)=>ref 0 0,u4,cells false 2 (nth u2)] g))/\(decide (u3<u1)=false->Q (AEx.exit 0) (St.mk [(3,ref 4 0),(21,u5),(22,int i64 u1),(23,int i64 u3),(24,AV.bool (decide (u3<u1)))] [cells false 27 (ad p v (AV.mp 1)),AObj.map es,cells false 1 fun (x:Nat)=>int u64 (u:Int),cells false 1 fun (x:Nat)=>ref 0 0,u4] g))) (fz k 2 (L.length) fun (i:Nat)=>bz (L.getD i default))) (cells false 1 fun (x:Nat)=>fn 102 0 (nth []) 3 (nth [ref 2 0,ref 3 0,ref 4 0]))) ((i:Int))) ([int i64 (L.getD i default).head,ao (L.getD i default).body])) ((L.length:Int))) (fun _=>by kernel_rfl) ⟨fun c1=>have c1:(i:Int)<(L.length:Int):=(of_decide_eq_true c1);⟨by omega,by omega,by omega,(fun c hc=>match c,hc with|0,_=>(by kernel_rfl)|1,_=>(by kernel_rfl) ),by omega,?_⟩,fun c1=>have c1:¬(i:Int)<(L.length:Int):=(of_decide_eq_false c1);?_⟩
     ·rw[hB]
      refine(bq (by kernel_rfl) (fun (j:Nat)=>⟨[(3,ref 4 0),(21,fz k 2 (L.length) fun (i:Nat)=>bz (L.getD i default)),(22,int i64 (L.length:Int)),(23,int i64 (i:Int)),(28,ao B),(29,int i64 (B.l.length:Int)),(30,.int .i64 j)],[.cells false 27 (ad p v (.mp 1)),.map es,.cells false 1 (fun _=>.int .u64 ((B.l.take j).foldl (fun (s:Nat) (l:Lit)=>hgF p n l.atom.toNat s) u:Nat)),.cells false 1 (fun _=>.ref 0 0),.cells false 1 (fun _=>.fn 102 0 (nth []) 3 (nth [.ref 2 0,.ref 3 0,.ref 4 0])),.cells false 2 (nth [.int .i64 (L.getD i default).head,ao B])],g⟩) (fun (j:Nat)=>(j<=B.l.length)) (fun (j:Nat)=>(B.l.length-j)) 0 (iF ⟨yu _,yu _,yu _,yu _,yu _,yu _,(yv (by kernel_rfl)),trivial⟩ ⟨yw,rfl,yw,yw,yw,yw,trivial⟩ rfl) ?_ (fun j hi=>?_))
      ·exact Nat.zero_le _
      ·obtain⟨hj1,hj2⟩:=huB j
       rcases Nat.lt_or_ge j B.l.length with hjl|hjg
       ·have hs2:=kP (fun (s:Nat) (l:Lit)=>hgF p n l.atom.toNat s) u B.l default hjl
        have hat:=hBl _ (bX B.l default hjl)
        obtain⟨z,hz⟩:∃z,(B.l.take j).foldl (fun (s:Nat) (l:Lit)=>hgF p n l.atom.toNat s) u=z:=⟨_,rfl⟩
        rw[hz] at hj1 hj2 hs2 ⊢
        have hcz:24<n+(ai z).length:=by
         have a1:=m9 hj1
         have a2:=m9 hu1
         omega
        refine vcQ [] (lkL [(6,[3,21,22,23,28,29,30,31]),(7,[3,8,21,22,23,28,29,30]),(8,[3,21,22,23,28,29,30]),(9,[3,21,22,23,28,29,30])]) (lkL [(7,[(3,ROrc.val (Orc.obj (nth [int i64 (B.l.getD j default).atom,AV.bool (B.l.getD j default).neg])))]),(8,[(3,ROrc.call (tup 0 (nth [])) [cells false 27 (ad p v (AV.mp 1)),AObj.map es,cells false 1 fun (j_1:Nat)=>int u64 (↑(hgF p n ((B.l.getD j default).atom.toNat) z):Int),cells false 1 fun (x:Nat)=>ref 0 0,cells false 1 fun (x:Nat)=>fn 102 0 (nth []) 3 (nth [ref 2 0,ref 3 0,ref 4 0]),cells false 2 (nth [int i64 (L.getD i default).head,ao B]),cells false 2 (nth [int i64 (B.l.getD j default).atom,AV.bool (B.l.getD j default).neg])] g)])]) (fun Q=>(fun (u1:List AObj)=>(fun (u2:Int)=>(fun (u3:List AObj)=>(fun (u4:Int)=>(fun (u5:Lit)=>(fun (u6:AV)=>(decide (u4<u2)=true->(0<=u4/\u4<u2)/\2<=2/\2<=2/\(∀(c:Nat),c<2->nth [int i64 u5.atom,AV.bool u5.neg] c=al (nth [int i64 0,AV.bool false]) 0 2 (List.brecOn (motive:=fun (x:List AV)=>Nat->AV) [int i64 u5.atom,AV.bool u5.neg] nth._f) c)/\1<=1/\1<=2/\(true=true/\Does Tryd.prog R 102 [int i64 u5.atom,ref 2 0,ref 3 0,ref 4 0] (cells false 27 (ad p v (AV.mp 1))::AObj.map es::(cells false 1 fun (x:Nat)=>int u64 (z:Int))::u1) g (ret (tup 0 (nth []))) u3 g)/\(-9223372036854775808<=u4+1/\u4+1<=9223372036854775807)/\Q AEx.normal (St.mk [(3,ref 4 0),(21,u6),(22,int i64 (L.length:Int)),(23,int i64 (i:Int)),(28,ao B),(29,int i64 u2),(30,int i64 (u4+1))] u3 g))/\(decide (u4<u2)=false->Q (AEx.exit 2) (St.mk [(3,ref 4 0),(21,u6),(22,int i64 (L.length:Int)),(23,int i64 (i:Int)),(28,ao B),(29,int i64 u2),(30,int i64 u4),(31,AV.bool (decide (u4<u2)))] [cells false 27 (ad p v (AV.mp 1)),AObj.map es,cells false 1 fun (x:Nat)=>int u64 (z:Int),cells false 1 fun (x:Nat)=>ref 0 0,cells false 1 fun (x:Nat)=>fn 102 0 (nth []) 3 (nth [ref 2 0,ref 3 0,ref 4 0]),cells false 2 (nth [int i64 (L.getD i default).head,ao B])] g))) (fz k 2 (L.length) fun (i:Nat)=>bz (L.getD i default))) (B.l.getD j default)) ((j:Int))) (cells false 27 (ad p v (AV.mp 1))::AObj.map es::(cells false 1 fun (j_1:Nat)=>int u64 (↑(hgF p n ((B.l.getD j default).atom.toNat) z):Int))::u1)) ((B.l.length:Int))) ([cells false 1 fun (x:Nat)=>ref 0 0,cells false 1 fun (x:Nat)=>fn 102 0 (nth []) 3 (nth [ref 2 0,ref 3 0,ref 4 0]),cells false 2 (nth [int i64 (L.getD i default).head,ao B]),cells false 2 (nth [int i64 (B.l.getD j default).atom,AV.bool (B.l.getD j default).neg])])) (fun _=>by kernel_rfl) ⟨fun c1=>have c1:(j:Int)<(B.l.length:Int):=(of_decide_eq_true c1);⟨by omega,by omega,by omega,(fun c hc=>match c,hc with|0,_=>(by kernel_rfl)|1,_=>(by kernel_rfl) ),by omega,by omega,⟨rfl,(eV [0,1,2,3,4] 7 (fun R g=>ih R ((B.l.getD j default).atom) (z) g (by omega) (by omega) (by omega)) rfl rfl rfl (by exact⟨⟨rfl,Nat.le_refl _,fun j hj=>(by first|exact bj (by first|exact trivial|apply aP)|exact yv (cg rfl).symm|exact yv (bP (by rfl)).symm)⟩,rfl,⟨rfl,Nat.le_refl _,fun j hj=>match j,hj with|0,_=>(yu _) ⟩,⟨rfl,Nat.le_refl _,fun j hj=>match j,hj with|0,_=>(yu _) ⟩,⟨rfl,Nat.le_refl _,fun j hj=>match j,hj with|0,_=>(Le.fn (fun i hi=>absurd hi (by omega)) (fun i hi=>match i,hi with|0,_=>(yu _)|1,_=>(yu _)|2,_=>(yu _) )) ⟩,trivial⟩) (by exact⟨by omega,by omega,by omega,by omega,trivial⟩) (by exact⟨bj (by exact trivial),yu _,yu _,yu _,trivial⟩) (by exact bx (by exact trivial)) (by exact⟨⟨rfl,Nat.le_refl _,fun j hj=>(by first|exact bx (by first|exact trivial|apply aP)|exact yv (cg rfl)|exact yv (bP (by rfl)))⟩,rfl,yw,⟨rfl,Nat.le_refl _,fun j hj=>match j,hj with|0,_=>(yu _) ⟩,⟨rfl,Nat.le_refl _,fun j hj=>match j,hj with|0,_=>(Le.fn (fun i hi=>absurd hi (by omega)) (fun i hi=>match i,hi with|0,_=>(yu _)|1,_=>(yu _)|2,_=>(yu _) )) ⟩,yw,yw,trivial⟩))⟩,by omega,?_⟩,fun c1=>have c1:¬(j:Int)<(B.l.length:Int):=(of_decide_eq_false c1);?_⟩
        ·refine(aY (j+1) (dP [0,1,2,3,4,5] 7 rfl rfl rfl rfl rfl ⟨yu _,yu _,yu _,yu _,yu _,yu _,yu _,trivial⟩ ⟨⟨by first|rfl|(simp;done),by first|exact Nat.le_refl _|(simp;done)|(simp;omega),fun j hj=>(by first|exact bj (by first|exact trivial|apply aP)|exact yv (cg rfl).symm|exact yv (bP (by rfl)).symm)⟩,rfl,⟨rfl,Nat.le_refl _,fun j hj=>match j,hj with|0,_=>(yv ?_) ⟩,⟨rfl,Nat.le_refl _,fun j hj=>match j,hj with|0,_=>(yu _) ⟩,⟨rfl,Nat.le_refl _,fun j hj=>match j,hj with|0,_=>(Le.fn (fun i hi=>absurd hi (by omega)) (fun i hi=>match i,hi with|0,_=>(yu _)|1,_=>(yu _)|2,_=>(yu _) )) ⟩,⟨rfl,Nat.le_refl _,fun j hj=>match j,hj with|0,_=>(yu _)|1,_=>(yu _) ⟩,trivial⟩) ?_ ?_)
         ·show AV.int .u64 _=AV.int .u64 _
          rw[hs2]
         ·omega
         ·omega
        ·exfalso;omega
       ·have hje:j=B.l.length:=by omega
        subst hje
        rw[List.take_length,<-hstep]
        have hb:decide ((B.l.length:Int)<(B.l.length:Int))=false:=decide_eq_false (by omega)
        refine vcQ [[1,1,1,0,0,1,1,0,0,1,1,0,0,1,0,0]] (lkL [(6,[3,21,22,23,28,29,30,31])]) (fun _=>[]) (fun Q=>(fun (u1:St R.σ)=>(fun (u2:Int)=>(decide (u2<u2)=true->Wp Tryd.prog R 40 5 Rd.top (aw Tryd.prog 102) [1,1,1,0,0,1,1,0,0,1,1,0,0,1,0,0] (aO Tryd.prog R 40 5 Rd.top (aw Tryd.prog 102) Q [Kont.seq [1,1,1,0,0,1,1,0,0,1,1,0,0,1,1]]) u1)/\(decide (u2<u2)=false->Q (AEx.exit 2) u1)) ((B.l.length:Int))) (St.mk [(3,ref 4 0),(21,fz k 2 (L.length) fun (i:Nat)=>bz (L.getD i default)),(22,int i64 (L.length:Int)),(23,int i64 (i:Int)),(28,ao B),(29,int i64 (B.l.length:Int)),(30,int i64 (B.l.length:Int)),(31,AV.bool (decide ((B.l.length:Int)<(B.l.length:Int))))] [cells false 27 (ad p v (AV.mp 1)),AObj.map es,cells false 1 fun (x:Nat)=>int u64 (↑(List.foldl F t (List.take (i+1) L)):Int),cells false 1 fun (x:Nat)=>ref 0 0,cells false 1 fun (x:Nat)=>fn 102 0 (nth []) 3 (nth [ref 2 0,ref 3 0,ref 4 0]),cells false 2 (nth [int i64 (L.getD i default).head,ao B])] g)) (fun _=>by kernel_rfl) ⟨fun hcc=>(nomatch (hb.symm.trans hcc)),fun _=>?_⟩
        refine⟨_,yG _,vcQ [] (lkL [(10,[3,21,22,23])]) (fun _=>[]) (fun Q=>(-9223372036854775808<=(i:Int)+1/\(i:Int)+1<=9223372036854775807)/\Q AEx.normal (St.mk [(3,ref 4 0),(21,fz k 2 (L.length) fun (i:Nat)=>bz (L.getD i default)),(22,int i64 (L.length:Int)),(23,int i64 ((i:Int)+1))] [cells false 27 (ad p v (AV.mp 1)),AObj.map es,cells false 1 fun (x:Nat)=>int u64 (↑(List.foldl F t (List.take (i+1) L)):Int),cells false 1 fun (x:Nat)=>ref 0 0,cells false 1 fun (x:Nat)=>fn 102 0 (nth []) 3 (nth [ref 2 0,ref 3 0,ref 4 0]),cells false 2 (nth [int i64 (L.getD i default).head,ao B])] g)) (fun _=>by kernel_rfl) ⟨by omega,?_⟩⟩
        refine(aY (i+1) (dP [0,1,2,3,4] 6 rfl rfl rfl rfl rfl ⟨yu _,yu _,yu _,yu _,trivial⟩ ⟨⟨by first|rfl|(simp;done),by first|exact Nat.le_refl _|(simp;done)|(simp;omega),fun j hj=>(by first|exact bj (by first|exact trivial|apply aP)|exact yv (cg rfl).symm|exact yv (bP (by rfl)).symm)⟩,rfl,⟨rfl,Nat.le_refl _,fun j hj=>match j,hj with|0,_=>(yu _) ⟩,⟨rfl,Nat.le_refl _,fun j hj=>match j,hj with|0,_=>(yu _) ⟩,⟨rfl,Nat.le_refl _,fun j hj=>match j,hj with|0,_=>(Le.fn (fun i hi=>absurd hi (by omega)) (fun i hi=>match i,hi with|0,_=>(yu _)|1,_=>(yu _)|2,_=>(yu _) )) ⟩,trivial⟩) ?_ ?_)
        ·omega
        ·omega
     ·exfalso;omega
    ·have hie:i=L.length:=by omega
     subst hie
     rw[List.take_length]
     have hb:decide ((L.length:Int)<(L.length:Int))=false:=decide_eq_false (by omega)
     refine vcQ [[1,1,1,0,0,1,0,0]] (lkL [(3,[3,21,22,23,24])]) (fun _=>[]) (fun Q=>(fun (u1:St R.σ)=>(fun (u2:Int)=>(decide (u2<u2)=true->Wp Tryd.prog R 40 5 Rd.top (aw Tryd.prog 102) [1,1,1,0,0,1,0,0] (aO Tryd.prog R 40 5 Rd.top (aw Tryd.prog 102) Q [Kont.seq [1,1,1,0,0,1,1]]) u1)/\(decide (u2<u2)=false->Q (AEx.exit 0) u1)) ((L.length:Int))) (St.mk [(3,ref 4 0),(21,fz k 2 (L.length) fun (i:Nat)=>bz (L.getD i default)),(22,int i64 (L.length:Int)),(23,int i64 (L.length:Int)),(24,AV.bool (decide ((L.length:Int)<(L.length:Int))))] [cells false 27 (ad p v (AV.mp 1)),AObj.map es,cells false 1 fun (x:Nat)=>int u64 (↑(List.foldl F t L):Int),cells false 1 fun (x:Nat)=>ref 0 0,cells false 1 fun (x:Nat)=>fn 102 0 (nth []) 3 (nth [ref 2 0,ref 3 0,ref 4 0])] g)) (fun _=>by kernel_rfl) ⟨fun hcc=>(nomatch (hb.symm.trans hcc)),fun _=>?_⟩
     refine⟨_,yG _,(av (aS _ _ rfl trivial rfl rfl rfl) (yu _))⟩
def hgP (p:Prg)(a:Nat):Nat:=hgF p 25 a 0
theorem nc (R:Res)(p:Prg)(a:Int)(hl:p.rules.l.length<1000000)(hr:∀r,r∈p.rules.l->aK r)(ha:0<=a/\a<24)(hp:List AObj)(g:R.σ):Does Tryd.prog R 70 [aq p,.int .i64 a] hp g (.ret (.int .u64 (hgP p a.toNat))) hp g:=by
 refine bW (fun R g=>?_) (by exact⟨⟨⟨trivial,trivial⟩,trivial⟩,trivial,trivial⟩) R hp g
 have hes:=mK hr
 have hz:(0:Nat)<2^24:=by decide
 have hc:24<25+(ai 0).length:=by omega
 have h1:=fun R g=>wA p (fun _=>3) (esF p.rules.l) hes hl hr 25 R a 0 g ha hz hc
 refine dp (nt:=15) (rs:=[.tmp 4]) (k0:=0) (by kernel_rfl) (by kernel_rfl) (by kernel_rfl) rfl ?_
 refine vcQ [] (lkL [(0,[1,2]),(1,[1,5]),(2,[1,5,6]),(3,[1,5,6,7]),(4,[1,6,7]),(5,[6]),(6,[4])]) (lkL [(1,[(1,ROrc.call (ref 1 0) [cells false 2 (nth [int i64 p.atoms,af p.rules]),cells false 27 (ad p (fun (x:Nat)=>3) (AV.mp 2)),AObj.map (esF p.rules.l)] g),(3,ROrc.val (Orc.obj (nth [ref 1 0])))]),(4,[(1,ROrc.val (Orc.obj (nth [fn 102 0 (nth []) 3 (nth [ref 4 0,ref 3 0,ref 5 0])])))]),(5,[(2,ROrc.call (tup 0 (nth [])) [cells false 2 (nth [int i64 p.atoms,af p.rules]),cells false 27 (ad p (fun (x:Nat)=>3) (AV.mp 2)),AObj.map (esF p.rules.l),cells false 1 (nth [ref 1 0]),cells false 1 fun (j:Nat)=>int u64 (↑(hgF p 25 (a.toNat) 0):Int),cells false 1 (nth [fn 102 0 (nth []) 3 (nth [ref 4 0,ref 3 0,ref 5 0])])] g)])]) (fun Q=>(fun (u1:List AObj)=>(fun (u2:AObj)=>(fun (u3:AV)=>(fun (u4:AObj)=>2<=2/\(true=true/\Does Tryd.prog R 66 [aq p] [u2] g (ret (ref 1 0)) [u2,u4,AObj.map (esF p.rules.l)] g)/\1<=1/\(∀(c:Nat),c<1->nth [ref 1 0] c=al (fun (a:Nat)=>AV.nilp) 0 1 (fun (x:Nat)=>ref 1 0) c)/\1<=1/\(∀(c:Nat),c<1->nth [u3] c=al (fun (a:Nat)=>AV.nilf) 0 1 (fun (x:Nat)=>u3) c)/\1<=1/\(true=true/\Does Tryd.prog R 102 [int i64 a,ref 4 0,ref 3 0,ref 5 0] [u2,u4,AObj.map (esF p.rules.l),cells false 1 (nth [ref 1 0]),cells false 1 fun (a:Nat)=>int u64 0,cells false 1 (nth [u3])] g (ret (tup 0 (nth []))) u1 g)/\1<=1/\Q AEx.ret (St.mk [(4,int u64 (↑(hgF p 25 (a.toNat) 0):Int))] u1 g)) (cells false 27 (ad p (fun (x:Nat)=>3) (AV.mp 2)))) (fn 102 0 (nth []) 3 (nth [ref 4 0,ref 3 0,ref 5 0]))) (cells false 2 (nth [int i64 p.atoms,af p.rules]))) ([cells false 2 (nth [int i64 p.atoms,af p.rules]),cells false 27 (ad p (fun (x:Nat)=>3) (AV.mp 2)),AObj.map (esF p.rules.l),cells false 1 (nth [ref 1 0]),cells false 1 fun (j:Nat)=>int u64 (↑(hgF p 25 (a.toNat) 0):Int),cells false 1 (nth [fn 102 0 (nth []) 3 (nth [ref 4 0,ref 3 0,ref 5 0])])])) (fun _=>by kernel_rfl) ⟨by omega,⟨rfl,(kL _ _ _ (by omega) (by omega) _)⟩,by omega,(fun c hc=>match c,hc with|0,_=>(by kernel_rfl) ),by omega,(fun c hc=>match c,hc with|0,_=>(by kernel_rfl) ),by omega,⟨rfl,(eV [1,2,4,3,5] 6 (fun R g=>h1 R g) rfl rfl rfl (by exact⟨⟨rfl,Nat.le_refl _,fun j hj=>(by first|exact bj (by first|exact trivial|apply aP)|exact yv (cg rfl).symm|exact yv (bP (by rfl)).symm)⟩,rfl,⟨rfl,Nat.le_refl _,fun j hj=>match j,hj with|0,_=>(yu _) ⟩,⟨rfl,Nat.le_refl _,fun j hj=>match j,hj with|0,_=>(yu _) ⟩,⟨rfl,Nat.le_refl _,fun j hj=>match j,hj with|0,_=>(Le.fn (fun i hi=>absurd hi (by omega)) (fun i hi=>match i,hi with|0,_=>(yu _)|1,_=>(yu _)|2,_=>(yu _) )) ⟩,trivial⟩) (by exact⟨by omega,by omega,by omega,by omega,trivial⟩) (by exact⟨bj (by exact trivial),yu _,yu _,yu _,trivial⟩) (by exact bx (by exact trivial)) (by exact⟨yw,⟨rfl,Nat.le_refl _,fun j hj=>(by first|exact bx (by first|exact trivial|apply aP)|exact yv (cg rfl)|exact yv (bP (by rfl)))⟩,rfl,⟨rfl,Nat.le_refl _,fun j hj=>match j,hj with|0,_=>(yu _) ⟩,yw,⟨rfl,Nat.le_refl _,fun j hj=>match j,hj with|0,_=>(Le.fn (fun i hi=>absurd hi (by omega)) (fun i hi=>match i,hi with|0,_=>(yu _)|1,_=>(yu _)|2,_=>(yu _) )) ⟩,trivial⟩))⟩,by omega,?_⟩
 refine(av (cu _ _ rfl trivial trivial rfl) (yv (by kernel_rfl)))
def aj (s:Nat):KL Int:=⟨bo s,.auto⟩
theorem g6 (R:Res)[Tab LT R](s:Nat)(hs:s<2^24)(g:R.σ):Does Tryd.prog R 75 [.fn 105 0 (nth []) 1 (nth [.ref 0 0])] [.cells false 1 (fun _=>.int .u64 s)] g (.ret (ag (aj s))) [.cells false 1 (fun _=>.any)] g:=
 gV (v8 R s hs g) (toL (h1:=⟨yA (gm s).symm (fun i j hi hj=>by
  show AV.int .i64 _=AV.int .i64 ((bo s).getD i 0)
  rw[ji]),trivial⟩) (h2:=⟨yx _,trivial⟩))
theorem fI {p:Prg}(hr:∀r,r∈p.rules.l->aK r){a:Nat}(ha:a<24):hgP p a<2^24:=(gp hr 25 a ha 0 dcd).2
theorem qR (R:Res)[Tab LT R](p:Prg)(goal:Int)(hb:aJ p=true)(hg:0<=goal/\goal<p.atoms)(g:R.σ):Does Tryd.prog R 30 [aq p,.int .i64 goal] [] g (.ret (.tup 2 (nth [ag (aj (hgP p goal.toNat)),.int .i64 0]))) [] g:=by
 obtain⟨hl,hr,hp,hh,hx⟩:=fe hb
 have hs:d9 p:=ff hb
 have hp':1<=p.atoms/\p.atoms<=24:=hp
 have hlt:hgP p goal.toNat<2^24:=fI hr omg
 have hC:=fun (R:Res) [Tab LT R] (s:Nat) (hs:s<2^24) (g:R.σ)=>g6 R s hs g
 refine spW (nt:=22) (rs:=[.tmp 4,.tmp 5]) (k0:=0) ?_
 have hc:(bif ((if aJ p then(0:Int) else 2) != 0) then true else !decide (0<=goal/\goal<=p.atoms-1))=false:=by
  rw[hb,decide_eq_true omg]
  rfl
 refine vcR [[1,0,1,0]] (lkL [(0,[1,2]),(1,[1,2,16]),(3,[4,5])]) (lkL [(1,[(1,ROrc.pcall (int i64 (if aJ p=true then 0 else 2))),(8,ROrc.pcall (AV.bool (decide (0<=goal/\goal<=p.atoms-1))))]),(3,[(2,ROrc.pcall (int u64 (↑(hgP p (Int.toNat goal)):Int))),(3,ROrc.call (fn 105 0 (nth []) 1 (nth [ref (List.length [cells false 2 (nth [int i64 p.atoms,af p.rules])]) 0])) ([cells false 2 (nth [int i64 p.atoms,af p.rules])]++[cells false 1 fun (x:Nat)=>int u64 (↑(hgP p (Int.toNat goal)):Int)]) g),(4,ROrc.call (fz Fz.auto 1 (List.length (aj (hgP p (Int.toNat goal))).l) fun (i x:Nat)=>ah (aj (hgP p (Int.toNat goal))).l i) [cells false 2 (nth [int i64 p.atoms,af p.rules]),cells false 1 fun (j:Nat)=>any] g)])]) (fun Q=>(fun (u1:AObj)=>(fun (u2:Bool)=>(fun (u3:Nat)=>(fun (u4:Int)=>(fun (u5:AV)=>(fun (u6:AV)=>2<=2/\(∀(hp:List AObj) (g:R.σ),true=true/\Does Tryd.prog R 16 [aq p] hp g (ret (int i64 u4)) hp g)/\((!u4 != 0)=true->1<=2)/\((!u4 != 0)=true -> -9223372036854775808<=p.atoms-1/\p.atoms-1<=9223372036854775807)/\((!u4 != 0)=true->∀(hp:List AObj) (g:R.σ),true=true/\Does Tryd.prog R 58 [int i64 goal,int i64 0,int i64 (p.atoms-1)] hp g (ret (AV.bool (decide (0<=goal/\goal<=p.atoms-1)))) hp g)/\(u2=true->WpC Tryd.prog R 22 0 30 [1,0,1,0] Q [Kont.seq [1,1]] (St.mk [(1,int i64 goal),(2,ref 0 0),(16,AV.bool u2)] [u1] g))/\(u2=false->2<=2/\(∀(hp:List AObj) (g:R.σ),true=true/\Does Tryd.prog R 70 [aq p,int i64 goal] hp g (ret u6) hp g)/\(true=true/\Does Tryd.prog R 77 [u6] [u1] g (ret (fn 105 0 (nth []) 1 (nth [ref 1 0]))) [u1,cells false 1 fun x=>u6] g)/\(true=true/\Does Tryd.prog R 75 [fn 105 0 (nth []) 1 (nth [ref 1 0])] [u1,cells false 1 fun x=>u6] g (ret u5) [u1,cells false 1 fun j=>any] g)/\Q AEx.ret (St.mk [(4,u5),(5,int i64 0)] [u1,cells false 1 fun j=>any] g))) (int u64 (↑u3:Int))) (fz Fz.auto 1 (List.length (aj u3).l) fun i x=>ah (aj u3).l i)) (if aJ p=true then 0 else 2)) (hgP p (Int.toNat goal))) (bif (if aJ p=true then 0 else 2) != 0 then true else !decide (0<=goal/\goal<=p.atoms-1))) (cells false 2 (nth [int i64 p.atoms,af p.rules]))) ⟨omg,(fun _ _=>⟨rfl,(e8 _ _ _ _ omg)⟩),omg,omg,(fun hgd=>(fun _ _=>⟨rfl,(cK _ _ _ _ _ _)⟩)),fun hcc=>(nomatch (hc.symm.trans hcc)),fun _=>⟨omg,(fun _ _=>⟨rfl,(nc _ _ _ omg omg omg _ _)⟩),⟨rfl,(cx _ _ _ _)⟩,⟨rfl,(doT (T:=LT) [1] 2 (fun R _ g=>hC R (hgP p (Int.toNat goal)) omg g))⟩,?_⟩⟩
 refine(av (cu _ _ rfl trivial ⟨⟨trivial,trivial⟩,trivial⟩ rfl) (yv krf))
def au (p:Prg)(a:Nat):Nat:=(ai (hgP p a)).foldl (fun (s:Nat) (b:Nat)=>if (hgP p b).testBit a then s|||2^b else s) 0
def onC (p:Prg):Nat->AV:=fun k=>.int .u64 (hgP p k)
theorem pQ {k:Nat}(p:Prg)(j:Nat):Below k (onC p j):=trivial
theorem pZ {f:Nat->Nat}(h:True){p:Prg}{j:Nat}:aE f (onC p j)=onC p j:=rfl
theorem ne {p:Prg}{a:Nat}:∀{l:List Nat} {s:Nat},(∀b,b∈l->b<24)->s<2^24->l.foldl (fun (s:Nat) (b:Nat)=>if (hgP p b).testBit a then s|||2^b else s) s<2^24
 |[],_,_,hs=>hs
 |b::l,s,hl,hs=>by
  rw[List.foldl_cons]
  refine ne (fun c hc=>hl c (List.mem_cons_of_mem _ hc)) ?_
  split
  ·exact jp hs (hl b List.mem_cons_self)
  ·exact hs
theorem qS (p:Prg)(a:Nat):au p a<2^24:=ne (fun b hb=>jk hb) dcd
theorem kQ (R:Res)[Tab LT R](p:Prg)(n:Nat)(a:Int)(hr:∀r,r∈p.rules.l->aK r)(hn:n<=24)(ha:0<=a/\a<n)(hin:∀b,b∈ai (hgP p a.toNat)->b<n)(g:R.σ):Does Tryd.prog R 82 [.int .i64 a,.ref 0 0] [.cells false 1 (fun _=>.ow true 1 n 1),.cells false (n*1) (onC p)] g (.ret (.int .u64 (au p a.toNat))) [.cells false 1 (fun _=>.ow true 1 n 1),.cells false (n*1) (onC p)] g:=by
 obtain⟨m,rfl⟩:∃m:Nat,a=m:=⟨a.toNat,omg⟩
 rw[Int.toNat_natCast] at hin ⊢
 have hlt:hgP p m<2^24:=fI hr omg
 refine spW (nt:=23) (rs:=[.tmp 3]) (k0:=2) ?_
 refine vcR [] (lkL [(0,[1,2]),(1,[1,2,4]),(2,[1,2,4,10])]) (lkL [(2,[(4,ROrc.call (fn 105 0 (nth []) 1 (nth [ref (List.length [cells false 1 fun (x:Nat)=>ow true 1 n 1,cells false (n*1) fun (a:Nat)=>onC p a,cells false 1 fun (a:Nat)=>int i64 (↑m:Int),cells false 1 fun (a:Nat)=>int u64 0]) 0])) ([cells false 1 fun (x:Nat)=>ow true 1 n 1,cells false (n*1) fun (a:Nat)=>onC p a,cells false 1 fun (a:Nat)=>int i64 (↑m:Int),cells false 1 fun (a:Nat)=>int u64 0]++[cells false 1 fun (x:Nat)=>int u64 (↑(hgP p m):Int)]) g)])]) (fun Q=>(fun (u1:List AObj)=>1<=1/\1<=1/\(0<=(↑m:Int)/\(↑m:Int)<(↑n:Int))/\m+1<=n*1/\(true=true/\Does Tryd.prog R 77 [onC p m] [cells false 1 fun x=>ow true 1 n 1,cells false (n*1) fun a=>onC p a,cells false 1 fun a=>int i64 (↑m:Int),cells false 1 fun a=>int u64 0] g (ret (fn 105 0 (nth []) 1 (nth [ref 4 0]))) u1 g)/\WpC Tryd.prog R 23 2 82 [1,1,0,1,0] Q [Kont.blk 0,Kont.seq [1,1,1]] (St.mk [(1,ref 0 0),(2,ref 2 0),(4,ref 3 0),(10,fn 105 0 (nth []) 1 (nth [ref 4 0]))] u1 g)) ([cells false 1 fun x=>ow true 1 n 1,cells false (n*1) fun a=>onC p a,cells false 1 fun a=>int i64 (↑m:Int),cells false 1 fun a=>int u64 0,cells false 1 fun x=>onC p m])) ⟨omg,omg,omg,omg,⟨rfl,(cx _ _ _ _)⟩,?_⟩
 have hseq:=kq (hgP p m) hlt
 obtain⟨l,hle⟩:∃l,ai (hgP p m)=l:=⟨_,rfl⟩
 have hw:au p m=l.foldl (fun (s:Nat) (b:Nat)=>if (hgP p b).testBit m then s|||2^b else s) 0:=by unfold au;rw[hle]
 rw[hle] at hseq hin
 have hin2:∀k,k<l.length->l.getD k 0<n:=fun k hk=>hin _ (bX l 0 hk)
 refine gW 10 [11] 4 krf rfl rfl rfl hseq (fun _=>rfl) krf (fun _=>⟨trivial,trivial⟩)
  (fun _=>none) (fun _=>rfl)
  (fun k=>[.cells false 1 (fun _=>.ow true 1 n 1),.cells false (n*1) (onC p),.cells false 1 (fun _=>.int .i64 m),.cells false 1 (fun _=>.int .u64 ((l.take k).foldl (fun (s:Nat) (b:Nat)=>if (hgP p b).testBit m then s|||2^b else s) 0:Nat))])
  (fun _=>g) (eW rfl rfl) (fun _=>rfl) (by exact⟨omg,omg,omg,omg,omg,trivial⟩) (by exact⟨fun _ _=>show 1<4 by omega,fun _ _=>trivial,fun _ _=>trivial,fun _ _=>trivial,trivial⟩) (by exact⟨fun _ _=>trivial,trivial⟩) [1,2,4] (by exact⟨show 0<4 by omega,show 2<4 by omega,show 3<4 by omega,trivial⟩) (fun k l' hk hjk=>?_) (fun _=>?_) (fun k hk hj hr=>by cases hr) (fun k id hk hj hr=>by cases hr)
 ·obtain⟨b,hb⟩:∃b,l.getD k 0=b:=⟨_,rfl⟩
  have hbn:b<n:=by rw[<-hb];exact hin2 k hk
  have hb24:hgP p b<2^24:=fI hr omg
  have hst:=kP (fun (s:Nat) (b:Nat)=>if (hgP p b).testBit m then s|||2^b else s) 0 l 0 hk
  obtain⟨t,ht⟩:∃t,(l.take k).foldl (fun (s:Nat) (b:Nat)=>if (hgP p b).testBit m then s|||2^b else s) 0=t:=⟨_,rfl⟩
  have ht24:t<2^24:=by
   rw[<-ht]
   exact ne (fun c hc=>by
    have h1:=List.mem_of_mem_take hc
    rw[<-hle] at h1
    exact jk h1) dcd
  rw[hb,ht] at hst
  rw[hb,ht,hst]
  refine vcR [] (lkL [(3,[1,2,4,5])]) (fun _=>[]) (fun (Q:AEx->St R.σ->Prop)=>Q AEx.normal (St.mk [(1,ref 0 0),(2,ref 2 0),(4,ref 3 0),(5,int i64 (↑b:Int))] [cells false 1 fun (x:Nat)=>ow true 1 n 1,cells false (n*1) fun (a:Nat)=>onC p a,cells false 1 fun (x:Nat)=>int i64 (↑m:Int),cells false 1 fun (x:Nat)=>int u64 (↑t:Int)] g)) (?_)
  show Wp _ _ _ 4 _ _ _ _ _
  refine vcR [] (lkL [(4,[4,5,17]),(5,[4])]) (lkL [(4,[(5,ROrc.pcall (AV.bool (Nat.testBit (hgP p b) m)))]),(5,[(2,ROrc.pcall (int u64 (↑(2^b):Int))),(4,ROrc.val (Orc.obj (nth [int u64 (IntKind.wrap u64 (↑(BitVec.toNat (BitVec.ofInt 64 (↑t:Int)|||BitVec.ofInt 64 (↑(2^b):Int))):Int))])))])]) (fun Q=>(fun (u1:AV)=>(fun (u2:Bool)=>(fun (u3:Bool)=>u3=true/\1<=1/\(0<=(↑b:Int)/\(↑b:Int)<(↑n:Int))/\b+1<=n*1/\1<=1/\(∀(hp:List AObj) (g:R.σ),true=true/\Does Tryd.prog R 71 [onC p b,int i64 (↑m:Int)] hp g (ret (AV.bool u2)) hp g)/\(u2=true->u3=true/\1<=1/\(∀(hp:List AObj) (g:R.σ),true=true/\Does Tryd.prog R 79 [int i64 (↑b:Int)] hp g (ret (int u64 (↑(2^b):Int))) hp g)/\1<=1/\(∀(c:Nat),c<1->nth [u1] c=al (fun (x:Nat)=>int u64 (↑t:Int)) 0 1 (fun (x:Nat)=>u1) c)/\Q AEx.normal (St.mk [(4,ref 3 0)] [cells false 1 fun x=>ow true 1 n 1,cells false (n*1) fun a=>onC p a,cells false 1 fun x=>int i64 (↑m:Int),cells false 1 (nth [u1])] g))/\(u2=false->Q AEx.normal (St.mk [(4,ref 3 0),(5,int i64 (↑b:Int)),(17,AV.bool u2)] [cells false 1 fun x=>ow true 1 n 1,cells false (n*1) fun a=>onC p a,cells false 1 fun x=>int i64 (↑m:Int),cells false 1 fun x=>int u64 (↑t:Int)] g))) (Tables.follows Tryd.prog.toTables Departure.mixedOrders)) (Nat.testBit (hgP p b) m)) (int u64 (IntKind.wrap u64 (↑(BitVec.toNat (BitVec.ofInt 64 (↑t:Int)|||BitVec.ofInt 64 (↑(2^b):Int))):Int)))) ⟨krf,omg,omg,omg,omg,(fun _ _=>⟨rfl,(ja _ _ _ omg omg _ _)⟩),fun c1=>⟨krf,omg,(fun _ _=>⟨rfl,(gg _ _ omg _ _)⟩),omg,(fun c hc=>match c,hc with|0,_=>krf ),?_⟩,fun c1=>?_⟩
  ·refine(d8 rfl (toL (h2:=⟨yw,yw,yw,⟨rfl,Nat.le_refl _,fun j hj=>match j,hj with|0,_=>(yv ?_) ⟩,trivial⟩)))
   show AV.int .u64 _=AV.int .u64 _
   rw[if_pos c1]
   congr 1
   exact Tb.u64_or (bu ht24) (bu (Nat.pow_lt_pow_right dcd omg))
  ·refine(d8 rfl (toL (h2:=⟨yw,yw,yw,⟨rfl,Nat.le_refl _,fun j hj=>match j,hj with|0,_=>(yv ?_) ⟩,trivial⟩)))
   show AV.int .u64 _=AV.int .u64 _
   rw[if_neg (by rw[c1];decide)]
 ·rw[List.take_length,<-hw]
  refine vcR [] (lkL [(6,[3])]) (fun _=>[]) (fun Q=>1<=1/\Q AEx.ret (St.mk [(3,int u64 (↑(au p m):Int))] [cells false 1 fun x=>ow true 1 n 1,cells false (n*1) fun a=>onC p a,cells false 1 fun x=>int i64 (↑m:Int),cells false 1 fun x=>int u64 (↑(au p m):Int),dead] g)) ⟨omg,?_⟩
  show bw Tryd.prog R 2 _ _ _ _ .ret _
  refine(av (bO 2 _ _ rfl trivial omg trivial ⟨(fun j hj=>match j,hj with|0,_=>(show 2<=2 by omega) ),(fun _ _=>trivial),trivial⟩ krf rfl rfl) (yu _))
def jq (p:Prg)(a b:Nat):Prop:=∃r,r∈p.rules.l/\r.head=(a:Int)/\∃l,l∈r.body.l/\l.atom.toNat=b
inductive Reach (p:Prg):Nat->Nat->Prop
 |refl (a:Nat):Reach p a a
 |step {a b c:Nat} (h:jq p a b) (k:Reach p b c):Reach p a c
theorem Reach.trans {p:Prg}{a b c:Nat}(h:Reach p a b)(k:Reach p b c):Reach p a c:=by
 induction h with
 |refl a=>exact k
 |step h _ ih=>exact .step h (ih k)
def gq (p:Prg)(a:Nat):List Nat:=(ofH p.rules.l (a:Int)).flatMap (fun r=>r.body.l.map (fun l=>l.atom.toNat))
theorem nf {p:Prg}{a b:Nat}:b∈gq p a↔jq p a b:=by
 unfold gq jq ofH
 simp only[List.mem_flatMap,List.mem_map,List.mem_filter,beq_iff_eq]
 constructor
 ·rintro ⟨r,⟨h1,h2⟩,l,h3,h4⟩
  exact⟨r,h1,h2,l,h3,h4⟩
 ·rintro ⟨r,h1,h2,l,h3,h4⟩
  exact⟨r,⟨h1,h2⟩,l,h3,h4⟩
theorem qT (p:Prg)(n a s:Nat):hgF p (n+1) a s=if s.testBit a then s else(gq p a).foldl (fun (s:Nat) (b:Nat)=>hgF p n b s) (s|||2^a):=by
 show(if s.testBit a then s else _)=_
 congr 1
 unfold gq
 rw[List.foldl_flatMap]
 congr 1
 funext s r
 rw[List.foldl_map]
def nh (p:Prg)(s t:Nat):Prop:=∀x,t.testBit x=true->s.testBit x=false->∀y,jq p x y->t.testBit y=true
theorem qU {p:Prg}(hr:∀r,r∈p.rules.l->aK r){a b:Nat}(h:b∈gq p a):b<24:=by
 obtain⟨r,h1,_,l,h3,rfl⟩:=nf.1 h
 have:=(hr r h1).1.2 l h3
 omega
theorem qV {p:Prg}(hr:∀r,r∈p.rules.l->aK r){n:Nat}(ih:∀a s,a<24->s<2^24->24<n+(ai s).length->(hgF p n a s).testBit a=true/\nh p s (hgF p n a s)):∀(L:List Nat) (s:Nat),(∀b,b∈L->b<24)->s<2^24->24<n+(ai s).length ->
  (∀b,b∈L->(L.foldl (fun (s:Nat) (b:Nat)=>hgF p n b s) s).testBit b=true)/\nh p s (L.foldl (fun (s:Nat) (b:Nat)=>hgF p n b s) s)
 |[],s,_,_,_=>⟨fun b hb=>(by cases hb),fun x h1 h2=>by rw[List.foldl_nil] at h1;rw[h1] at h2;cases h2⟩
 |b::L,s,hL,hs,hn=>by
  have hb:=hL b List.mem_cons_self
  obtain⟨u1,u2⟩:=gp hr n b hb s hs
  obtain⟨a1,a2⟩:=ih b s hb hs hn
  have hn':24<n+(ai (hgF p n b s)).length:=by have:=m9 u1;omega
  obtain⟨c1,c2⟩:=qV hr ih L (hgF p n b s) (fun c hc=>hL c (List.mem_cons_of_mem _ hc)) u2 hn'
  have up:=(fH (l:=L) (f:=fun (s:Nat) (b:Nat)=>hgF p n b s) (fun c hc=>gp hr n c (hL c (List.mem_cons_of_mem _ hc))) _ u2).1
  rw[List.foldl_cons]
  refine⟨fun c hc=>?_,fun x h1 h2 y hy=>?_⟩
  ·rcases List.mem_cons.1 hc with rfl|hc
   ·exact up _ a1
   ·exact c1 c hc
  ·by_cases hx:(hgF p n b s).testBit x=true
   ·exact up _ (a2 x hx h2 y hy)
   ·exact c2 x h1 (by simpa using hx) y hy
theorem qW {p:Prg}(hr:∀r,r∈p.rules.l->aK r):∀(n a s:Nat),a<24->s<2^24->24<n+(ai s).length->(hgF p n a s).testBit a=true/\nh p s (hgF p n a s)
 |0,a,s,_,_,h=>by have:=gl s;omega
 |n+1,a,s,ha,hs,h=>by
  rw[qT]
  by_cases hb:s.testBit a=true
  ·rw[if_pos hb]
   exact⟨hb,fun x h1 h2=>by rw[h1] at h2;cases h2⟩
  ·rw[if_neg hb]
   have hb:s.testBit a=false:=by simpa using hb
   have hs1:=jp hs ha
   have hn1:24<n+(ai (s|||2^a)).length:=by have:=qQ ha hb;omega
   obtain⟨c1,c2⟩:=qV hr (qW hr n) (gq p a) _ (fun b hb=>qU hr hb) hs1 hn1
   have up:=(fH (l:=gq p a) (f:=fun (s:Nat) (b:Nat)=>hgF p n b s) (fun c hc=>gp hr n c (qU hr hc)) _ hs1).1
   have haT:=up a (by rw[gn];simp)
   refine⟨haT,fun x h1 h2 y hy=>?_⟩
   by_cases hxa:x=a
   ·subst hxa
    exact c1 y (nf.2 hy)
   ·exact c2 x h1 (by rw[gn,h2];simp;exact fun e=>hxa e.symm) y hy
theorem qX {p:Prg}:∀(n a s b:Nat),(hgF p n a s).testBit b=true->s.testBit b=true∨Reach p a b
 |0,_,_,_,h=>.inl h
 |n+1,a,s,b,h=>by
  rw[qT] at h
  by_cases hb:s.testBit a=true
  ·rw[if_pos hb] at h;exact .inl h
  ·rw[if_neg hb] at h
   have key:∀(L:List Nat) (s:Nat),(∀c,c∈L->jq p a c)->(L.foldl (fun (s:Nat) (b:Nat)=>hgF p n b s) s).testBit b=true->s.testBit b=true∨Reach p a b:=by
    intro L
    induction L with
    |nil=>intro s _ h;exact .inl h
    |cons c L ih=>
     intro s hL h
     rw[List.foldl_cons] at h
     rcases ih _ (fun d hd=>hL d (List.mem_cons_of_mem _ hd)) h with h|h
     ·rcases qX n c s b h with h|h
      ·exact .inl h
      ·exact .inr (.step (hL c List.mem_cons_self) h)
     ·exact .inr h
   rcases key _ _ (fun c hc=>nf.1 hc) h with h|h
   ·rw[gn,Bool.or_eq_true,decide_eq_true_eq] at h
    rcases h with h|h
    ·exact .inl h
    ·subst h;exact .inr (.refl _)
   ·exact .inr h
theorem dW {p:Prg}(hr:∀r,r∈p.rules.l->aK r){a b:Nat}(ha:a<24):(hgP p a).testBit b=true↔Reach p a b:=by
 have hc:=qW hr 25 a 0 ha dcd omg
 constructor
 ·intro h
  rcases qX 25 a 0 b h with h|h
  ·simp at h
  ·exact h
 ·have key:∀x y,Reach p x y->(hgP p a).testBit x=true->(hgP p a).testBit y=true:=by
   intro x y h
   induction h with
   |refl=>exact fun h=>h
   |step h _ ih=>exact fun hx=>ih (hc.2 _ hx (by simp) _ h)
  exact fun h=>key a b h hc.1
theorem wB {p:Prg}(hl:∀r,r∈p.rules.l->∀l,l∈r.body.l->0<=l.atom/\l.atom<p.atoms){a b:Nat}(h:Reach p a b):a=b∨(b:Int)<p.atoms:=by
 induction h with
 |refl=>exact .inl rfl
 |step h k ih=>
  obtain⟨r,h1,_,l,h3,rfl⟩:=h
  have:=hl r h1 l h3
  rcases ih with rfl|h
  ·exact .inr omg
  ·exact .inr h
def dj (s t:Nat):Nat:=(BitVec.ofNat 64 s &&& ~~~ BitVec.ofNat 64 t).toNat
theorem jr {s t:Nat}(hs:s<2^24)(j:Nat):(dj s t).testBit j=(s.testBit j && !t.testBit j):=by
 unfold dj
 rw[BitVec.testBit_toNat,BitVec.getLsbD_and,BitVec.getLsbD_not,BitVec.getLsbD_ofNat,BitVec.getLsbD_ofNat]
 by_cases hj:j<64
 ·simp only[hj,decide_true,Bool.true_and]
 ·rw[Nat.testBit_lt_two_pow (x:=s) (Nat.lt_of_lt_of_le (bu hs) (Nat.pow_le_pow_right dcd omg))]
  simp[hj]
theorem qY {s t:Nat}:dj s t<=s:=by
 unfold dj
 rw[BitVec.toNat_and]
 refine Nat.le_trans Nat.and_le_left ?_
 rw[BitVec.toNat_ofNat]
 exact Nat.mod_le _ _
theorem ni {s t:Nat}(hs:s<2^24):IntKind.u64.wrap ((BitVec.ofInt 64 (s:Int) &&& ~~~ BitVec.ofInt 64 (t:Int)).toNat:Int)=((dj s t:Nat):Int):=by
 rw[BitVec.ofInt_natCast,BitVec.ofInt_natCast]
 exact Tb.wrapU (bu (Nat.lt_of_le_of_lt (qY (t:=t)) hs))
theorem wC {s:Nat}:s=0↔∀j,s.testBit j=false:=by
 constructor
 ·rintro rfl j;simp
 ·intro h
  exact Nat.eq_of_testBit_eq (fun j=>by rw[h j];simp)
theorem qZ {p:Prg}{a j:Nat}:∀{l:List Nat} {s:Nat},(l.foldl (fun (s:Nat) (b:Nat)=>if (hgP p b).testBit a then s|||2^b else s) s).testBit j=(s.testBit j||l.any (fun b=>b==j&&(hgP p b).testBit a))
 |[],s=>by simp
 |b::l,s=>by
  rw[List.foldl_cons,qZ,List.any_cons]
  cases hb:(hgP p b).testBit a with
  |true=>
   rw[if_pos rfl,gn,Bool.and_true,Bool.or_assoc]
   congr 2
  |false=>
   rw[if_neg dcd,Bool.and_false,Bool.false_or]
theorem nj {p:Prg}(hr:∀r,r∈p.rules.l->aK r){a j:Nat}(ha:a<24):(au p a).testBit j=true↔Reach p a j/\Reach p j a/\j<24:=by
 unfold au
 rw[qZ]
 simp only[Nat.zero_testBit,Bool.false_or,List.any_eq_true,Bool.and_eq_true,beq_iff_eq]
 constructor
 ·rintro ⟨b,h1,rfl,h2⟩
  obtain⟨m1,m2⟩:=Tb.mem_memN.1 h1
  exact⟨(dW hr ha).1 m2,(dW hr m1).1 h2,m1⟩
 ·rintro ⟨h1,h2,h3⟩
  exact⟨j,Tb.mem_memN.2 ⟨h3,(dW hr ha).2 h1⟩,rfl,(dW hr h3).2 h2⟩
def ek (p:Prg)(left a:Nat):Bool:=dj (hgP p a&&&left) (au p a)==0
theorem wD {p:Prg}(hr:∀r,r∈p.rules.l->aK r){left a:Nat}(hl:left<2^24)(ha:a<24):ek p left a=true↔∀b,Reach p a b->left.testBit b=true->Reach p b a:=by
 unfold ek
 have hlt:hgP p a&&&left<2^24:=Nat.lt_of_le_of_lt Nat.and_le_right hl
 rw[beq_iff_eq,wC]
 constructor
 ·intro h b hb hbl
  have hb24:=gj hl hbl
  have:=h b
  rw[jr hlt,Nat.testBit_and,(dW hr ha).2 hb,hbl] at this
  have h2:(au p a).testBit b=true:=by simpa using this
  exact((nj hr ha).1 h2).2.1
 ·intro h j
  rw[jr hlt,Nat.testBit_and]
  cases h1:(hgP p a).testBit j with
  |false=>rfl
  |true=>
   cases h2:left.testBit j with
   |false=>rfl
   |true=>
    have h3:=(dW hr ha).1 h1
    rw[(nj hr ha).2 ⟨h3,h j h3 h2,gj hl h2⟩]
    rfl
theorem wE {p:Prg}(hr:∀r,r∈p.rules.l->aK r){left:Nat}(hl:left<2^24)(h0:left≠0):∃a,a∈ai left/\ek p left a=true:=by
 have key:∀(n a:Nat),a∈ai left->(ai (hgP p a&&&left)).length<=n->∃a,a∈ai left/\ek p left a=true:=by
  intro n
  induction n with
  |zero=>
   intro a ha h
   obtain⟨m1,m2⟩:=Tb.mem_memN.1 ha
   have:a∈ai (hgP p a&&&left):=Tb.mem_memN.2 ⟨m1,by rw[Nat.testBit_and,(dW hr m1).2 (.refl a),m2];rfl⟩
   rw[List.length_eq_zero_iff.1 (Nat.le_zero.1 h)] at this
   cases this
  |succ n ih=>
   intro a ha h
   obtain⟨m1,m2⟩:=Tb.mem_memN.1 ha
   by_cases hok:ek p left a=true
   ·exact⟨a,ha,hok⟩
   ·have hne:¬∀b,Reach p a b->left.testBit b=true->Reach p b a:=fun h=>hok ((wD hr hl m1).2 h)
    obtain⟨b,hb⟩:=Classical.not_forall.1 hne
    obtain⟨hb1,hb2⟩:=Classical.not_imp.1 hb
    obtain⟨hb2,hb3⟩:=Classical.not_imp.1 hb2
    have hb24:=gj hl hb2
    refine ih b (Tb.mem_memN.2 ⟨hb24,hb2⟩) ?_
    have:(ai (hgP p b&&&left)).length<(ai (hgP p a&&&left)).length:=by
     refine jm (fun j _ hj=>?_) ⟨a,List.mem_range.2 m1,?_,?_⟩
     ·rw[Nat.testBit_and,Bool.and_eq_true] at hj ⊢
      exact⟨(dW hr m1).2 (hb1.trans ((dW hr hb24).1 hj.1)),hj.2⟩
     ·rw[Nat.testBit_and,(dW hr m1).2 (.refl a),m2];rfl
     ·rw[Nat.testBit_and]
      cases hx:(hgP p b).testBit a with
      |false=>rfl
      |true=>exact absurd ((dW hr hb24).1 hx) hb3
    omega
 obtain⟨k,m,h⟩:=Tb.low_of (show 0<left by omega)
 have hk:left.testBit k=true:=by rw[Tb.low_bit h];simp
 exact key _ k (Tb.mem_memN.2 ⟨gj hl hk,hk⟩) (Nat.le_refl _)
def g7 (p:Prg)(left:Nat):Nat:=(ai left).findIdx (ek p left)
def dv (p:Prg)(left:Nat):Nat:=(ai left).getD (g7 p left) 0
def js (p:Prg):Nat->Nat->List Nat
 |0,_=>[]
 |n+1,left=>if left=0 then[] else au p (dv p left)::js p n (dj left (au p (dv p left)))
def ck (p:Prg):List Nat:=js p 25 (2^p.atoms.toNat-1)
theorem q0 {p:Prg}(hr:∀r,r∈p.rules.l->aK r){left:Nat}(hl:left<2^24)(h0:left≠0):g7 p left<(ai left).length/\ek p left (dv p left)=true/\(∀j,j<g7 p left->ek p left ((ai left).getD j 0)=false)/\dv p left∈ai left:=by
 obtain⟨a,h1,h2⟩:=wE hr hl h0
 have hk:g7 p left<(ai left).length:=List.findIdx_lt_length_of_exists ⟨a,h1,h2⟩
 have e:dv p left=(ai left)[g7 p left]:=by
  unfold dv
  rw[List.getD_eq_getElem?_getD,List.getElem?_eq_getElem hk]
  rfl
 refine⟨hk,by rw[e];exact List.findIdx_getElem (w:=hk),fun j hj=>?_,by rw[e];exact List.getElem_mem hk⟩
 have:=List.not_of_lt_findIdx (p:=ek p left) (xs:=ai left) hj
 rw[List.getD_eq_getElem?_getD,List.getElem?_eq_getElem omg]
 simpa using this
theorem wF {p:Prg}(hr:∀r,r∈p.rules.l->aK r){left:Nat}(hl:left<2^24)(h0:left≠0):(ai (dj left (au p (dv p left)))).length<(ai left).length:=by
 obtain⟨_,h2,_,h4⟩:=q0 hr hl h0
 obtain⟨m1,m2⟩:=Tb.mem_memN.1 h4
 refine jm (fun j _ hj=>?_) ⟨dv p left,List.mem_range.2 m1,m2,?_⟩
 ·rw[jr hl,Bool.and_eq_true] at hj
  exact hj.1
 ·rw[jr hl,(nj hr m1).2 ⟨.refl _,.refl _,m1⟩]
  simp
theorem q5 (R:Res)(on:Nat)(a:Int)(hon:on<2^24)(ha:0<=a/\a<24)(g:R.σ):Does Tryd.prog R 73 [.int .i64 a,.ref 0 0] [.cells false 1 (fun _=>.int .u64 on)] g (.ret (.bool (!on.testBit a.toNat))) [.cells false 1 (fun _=>.int .u64 on)] g:=by
 refine spW (nt:=8) (rs:=[.tmp 3]) (k0:=1) ?_
 refine vcR [] (lkL [(0,[0,1]),(1,[3])]) (lkL [(1,[(2,ROrc.pcall (AV.bool (Nat.testBit on (Int.toNat a))))])]) (fun Q=>1<=1/\(∀(hp:List AObj) (g:R.σ),true=true/\Does Tryd.prog R 71 [int u64 (↑on:Int),int i64 a] hp g (ret (AV.bool (Nat.testBit on (Int.toNat a)))) hp g)/\Q AEx.ret (St.mk [(3,AV.bool !Nat.testBit on (Int.toNat a))] [cells false 1 fun x=>int u64 (↑on:Int)] g)) ⟨omg,(fun _ _=>⟨rfl,(mF _ _ _ omg omg _ _)⟩),?_⟩
 refine(av (aS _ _ rfl trivial rfl rfl rfl) (yu _))
def ca (on:Nat)(a:Int):Bool:= !on.testBit a.toNat
theorem wG {U:Type}(q:U->Bool)(x:U)(r:List U)(i:Nat):aN q (x::r) i=if q x then(i:Int) else aN q r (i+1):=rfl
theorem q6 (R:Res)(l:List Int)(on:Nat)(hon:on<2^24)(hl:l.length<1000000)(ha:∀a,a∈l->0<=a/\a<24)(g:R.σ):Does Tryd.prog R 103 [.ow true 0 l.length 1,.fn 73 0 (nth []) 1 (nth [.ref 1 0])] [.cells false (l.length*1) (ah l),.cells false 1 (fun _=>.int .u64 on)] g (.ret (.int .i64 (aN (ca on) l 0))) [.cells false (l.length*1) (ah l),.cells false 1 (fun _=>.int .u64 on)] g:=by
 refine spW (nt:=19) (rs:=[.tmp 4]) (k0:=2) ?_
 refine vcR [] (lkL [(0,[0,1]),(1,[0,1,7,8])]) (fun _=>[]) (fun (Q:AEx->St R.σ->Prop)=>WpC Tryd.prog R 19 2 103 [1,0,1,0] Q [Kont.blk 0,Kont.seq [1,1]] (St.mk [(0,ow true 0 (List.length l) 1),(1,fn 73 0 (nth []) 1 (nth [ref 1 0])),(7,int i64 (↑(List.length l):Int)),(8,int i64 0)] [cells false (List.length l*1) fun (a:Nat)=>ah l a,cells false 1 fun (x:Nat)=>int u64 (↑on:Int)] g)) (?_)
 refine(bq krf (fun (i:Nat)=>⟨[(0,ow true 0 (l.length) 1),(1,fn 73 0 (nth []) 1 (nth [ref 1 0])),(7,int i64 (l.length:Int)),(8,.int .i64 (i:Int))],[cells false (l.length*1) fun (a:Nat)=>ah l a,cells false 1 fun (x:Nat)=>int u64 (on:Int)],g⟩) (fun (i:Nat)=>(i<=l.length/\aN (ca on) l 0=aN (ca on) (l.drop i) i)) (fun (i:Nat)=>(l.length-i)) 0 (bg ⟨yu _,yu _,yu _,(yv krf),trivial⟩ rfl rfl) ?_ (fun i hi=>?_))
 ·exact⟨Nat.zero_le _,rfl⟩
 ·obtain⟨h1,h2⟩:=hi
  rcases Nat.lt_or_ge i l.length with hlt|hge
  ·have hat:=ha _ (bX l 0 hlt)
   have hd:=gc l 0 hlt
   rw[hd,wG] at h2
   refine vcR [] (lkL [(2,[0,1,7,8,9]),(3,[0,1,5,7,8]),(4,[0,1,5,7,8,16]),(5,[4]),(6,[0,1,7,8])]) (lkL [(4,[(5,ROrc.kcall (AV.bool !Nat.testBit on (Int.toNat (List.getD l i 0))))])]) (fun Q=>(fun (u1:List AObj)=>(fun (u2:Int)=>(fun (u3:Int)=>(fun (u4:Bool)=>(decide (u3<u2)=true->(0<=u3/\u3<u2)/\i+1<=List.length l*1/\(true=true/\Does Tryd.prog R 73 [ah l i,ref 1 0] u1 g (ret (AV.bool u4)) u1 g)/\(u4=true->Q AEx.ret (St.mk [(4,int i64 u3)] u1 g))/\(u4=false->(-9223372036854775808<=u3+1/\u3+1<=9223372036854775807)/\Q AEx.normal (St.mk [(0,ow true 0 (List.length l) 1),(1,fn 73 0 (nth []) 1 (nth [ref 1 0])),(7,int i64 u2),(8,int i64 (u3+1))] u1 g)))/\(decide (u3<u2)=false->Q (AEx.exit 0) (St.mk [(0,ow true 0 (List.length l) 1),(1,fn 73 0 (nth []) 1 (nth [ref 1 0])),(7,int i64 u2),(8,int i64 u3),(9,AV.bool (decide (u3<u2)))] u1 g))) (!Nat.testBit on (Int.toNat (List.getD l i 0)))) ((↑i:Int))) ((↑(List.length l):Int))) ([cells false (List.length l*1) fun a=>ah l a,cells false 1 fun x=>int u64 (↑on:Int)])) ⟨fun c1=>have c1:(↑i:Int)<(↑(List.length l):Int):=(of_decide_eq_true c1);⟨omg,omg,⟨rfl,(doS [1] 2 (fun R g=>q5 R (on) (List.getD l i 0) omg omg g))⟩,fun c2=>have c2:Nat.testBit on (Int.toNat (List.getD l i 0))=false:=((Bool.not_eq_true' _).mp c2);?_,fun c2=>have c2:Nat.testBit on (Int.toNat (List.getD l i 0))=true:=((Bool.not_eq_false' _).mp c2);⟨omg,?_⟩⟩,fun c1=>have c1:¬(↑i:Int)<(↑(List.length l):Int):=(of_decide_eq_false c1);?_⟩
   ·have hq:ca on (l.getD i 0)=true:=by unfold ca;rw[c2];rfl
    rw[if_pos hq] at h2
    rw[h2]
    refine⟨_,yG _,(av (aS _ _ rfl trivial rfl rfl rfl) (yu _))⟩
   ·have hq:ca on (l.getD i 0)=false:=by unfold ca;rw[c2];rfl
    rw[if_neg (by rw[hq];decide)] at h2
    refine(aY (i+1) (bg ⟨yu _,yu _,yu _,(yv krf),trivial⟩ rfl rfl) ?_ ?_)
    ·exact⟨omg,h2⟩
    ·omega
   ·exfalso;omega
  ·have hie:i=l.length:=by omega
   subst hie
   rw[List.drop_length] at h2
   have hb:decide ((l.length:Int)<(l.length:Int))=false:=decide_eq_false omg
   refine vcR [[1,0,1,0,0,1,0,0]] (lkL [(2,[0,1,7,8,9])]) (fun _=>[]) (fun Q=>(fun (u1:Int)=>(fun (u2:St R.σ)=>(decide (u1<u1)=true->WpC Tryd.prog R 19 2 103 [1,0,1,0,0,1,0,0] Q [Kont.seq [1,0,1,0,0,1,1]] u2)/\(decide (u1<u1)=false->Q (AEx.exit 0) u2)) (St.mk [(0,ow true 0 (List.length l) 1),(1,fn 73 0 (nth []) 1 (nth [ref 1 0])),(7,int i64 u1),(8,int i64 u1),(9,AV.bool (decide (u1<u1)))] [cells false (List.length l*1) fun a=>ah l a,cells false 1 fun x=>int u64 (↑on:Int)] g)) ((↑(List.length l):Int))) ⟨fun hcc=>(nomatch (hb.symm.trans hcc)),fun _=>?_⟩
   refine⟨_,yG _,vcR [] (lkL [(7,[4])]) (fun _=>[]) (fun (Q:AEx->St R.σ->Prop)=>Q AEx.ret (St.mk [(4,int i64 (-1))] [cells false (List.length l*1) fun (a:Nat)=>ah l a,cells false 1 fun (x:Nat)=>int u64 (↑on:Int)] g)) (?_)⟩
   rw[h2]
   refine(av (aS _ _ rfl trivial rfl rfl rfl) (yv krf))
def bY (on:Nat)(l:List Int)(j:Nat):List Int:=(l.take j).filter (fun a=>on.testBit a.toNat)
def cb (on:Nat)(l:List Int)(j:Nat):Nat->AV:=fun c=>if c<(bY on l j).length then .int .i64 ((bY on l j).getD c 0) else if j<=c then .int .i64 (l.getD c 0) else .any
theorem pT {k:Nat}(on:Nat)(l:List Int)(j c:Nat):Below k (cb on l j c):=by
 unfold cb
 split
 ·trivial
 ·split <;> trivial
theorem p7 {f:Nat->Nat}(h:True){on:Nat}{l:List Int}{j c:Nat}:aE f (cb on l j c)=cb on l j c:=by
 unfold cb
 split
 ·rfl
 ·split <;> rfl
theorem q7 {on:Nat}{l:List Int}{j:Nat}(h:j<l.length):bY on l (j+1)=if on.testBit (l.getD j 0).toNat then bY on l j++[l.getD j 0] else bY on l j:=by
 unfold bY
 rw[List.take_add_one,List.filter_append,List.getElem?_eq_getElem h,List.getD_eq_getElem?_getD,List.getElem?_eq_getElem h]
 cases hb:on.testBit l[j].toNat <;> simp[hb]
def aT (on:Nat)(l:List Int):List Int:=l.filter (fun a=>on.testBit a.toNat)
theorem wH {on:Nat}{l:List Int}{k:Nat}(hk:k<=l.length)(h:∀j,j<k->ca on (l.getD j 0)=false):bY on l k=l.take k:=by
 unfold bY
 rw[List.filter_eq_self]
 intro a ha
 obtain⟨j,hj,e⟩:=List.mem_iff_getElem.1 ha
 rw[List.length_take] at hj
 have:=h j omg
 rw[List.getD_eq_getElem?_getD,List.getElem?_eq_getElem omg] at this
 unfold ca at this
 rw[List.getElem_take] at e
 rw[<-e]
 simpa using this
theorem wI (R:Res)(l:List Int)(on:Nat)(hon:on<2^24)(hl:0<l.length/\l.length<1000000)(ha:∀a,a∈l->0<=a/\a<24)(g:R.σ):Does Tryd.prog R 72 [.ow true 0 l.length 1,.fn 73 0 (nth []) 1 (nth [.ref 1 0])] [.cells false (l.length*1) (ah l),.cells false 1 (fun _=>.int .u64 on)] g (.ret (.sl 0 0 (aT on l).length l.length false 1)) [.cells false ((aT on l).length*1) (ah (aT on l)),.cells false 1 (fun _=>.int .u64 on)] g:=by
 by_cases h0:0<=aN (ca on) l 0
 ·obtain⟨k,k1,k2,k3,k4⟩:=g5 (ca on) 0 l 0 h0
  rw[Nat.zero_add] at k2
  have hkp:=wH omg k4
  refine spW (nt:=42) (rs:=[.tmp 4]) (k0:=2) ?_
  have hk1:bY on l (k+1)=l.take k:=by
   rw[q7 k1,hkp,if_neg (by unfold ca at k3;simpa using k3)]
  have hkl:(bY on l (k+1)).length=k:=by rw[hk1,List.length_take];omega
  refine vcR [] (lkL [(0,[0,1]),(1,[0,1,5]),(2,[0,1,5,12]),(3,[4]),(4,[0,1,5,6])]) (lkL [(1,[(2,ROrc.kcall (int i64 (aN (ca on) l 0)))])]) (fun Q=>(fun (u1:List AObj)=>(fun (u2:Int)=>(fun (u3:AV)=>(true=true/\Does Tryd.prog R 103 [u3,fn 73 0 (nth []) 1 (nth [ref 1 0])] u1 g (ret (int i64 u2)) u1 g)/\((u2 == -1)=true->Q AEx.ret (St.mk [(4,u3)] u1 g))/\((u2 == -1)=false->(-9223372036854775808<=u2+1/\u2+1<=9223372036854775807)/\WpC Tryd.prog R 42 2 72 [1,1,1,0,1,0] Q [Kont.blk 0,Kont.seq [1,1,1,1]] (St.mk [(0,u3),(1,fn 73 0 (nth []) 1 (nth [ref 1 0])),(5,int i64 u2),(6,int i64 (u2+1))] u1 g))) (ow true 0 (List.length l) 1)) (aN (ca on) l 0)) ([cells false (List.length l*1) fun a=>ah l a,cells false 1 fun x=>int u64 (↑on:Int)])) ⟨⟨rfl,(q6 _ _ _ omg omg omg _)⟩,fun c1=>have c1:aN (ca on) l 0 = -1:=(beq_iff_eq.mp c1);?_,fun c1=>have c1:¬aN (ca on) l 0 = -1:=(beq_eq_false_iff_ne.mp c1);⟨omg,?_⟩⟩
  ·exact absurd c1 omg
  ·rw[k2]
   refine(bq krf (fun (x:Nat)=>⟨[(0,ow true 0 (l.length) 1),(1,fn 73 0 (nth []) 1 (nth [ref 1 0])),(5,.int .i64 (bY on l x).length),(6,.int .i64 x)],[.cells false (l.length*1) (cb on l x),.cells false 1 (fun _=>.int .u64 on)],g⟩) (fun (x:Nat)=>(x<=l.length/\(bY on l x).length<x)) (fun (x:Nat)=>(l.length-x)) (k+1) (toL (h1:=⟨yu _,yu _,(yv ?_),(yv krf),trivial⟩) (h2:=⟨?_,yw,trivial⟩)) ?_ (fun x hi=>?_))
   ·show AV.int .i64 _=AV.int .i64 _
    rw[hkl]
   ·refine⟨rfl,Nat.le_refl _,fun c hc=>?_⟩
    show Le (ah l c) (cb on l (k+1) c)
    unfold cb
    rw[hkl]
    split
    ·refine yv ?_
     show AV.int .i64 _=AV.int .i64 _
     rw[hk1,List.getD_eq_getElem?_getD,List.getD_eq_getElem?_getD,List.getElem?_take,if_pos omg]
    ·split
     ·exact yu _
     ·exact Le.any _
   ·exact⟨omg,omg⟩
   ·obtain⟨h1,h2⟩:=hi
    rcases Nat.lt_or_ge x l.length with hlt|hge
    ·have hat:=ha _ (bX l 0 hlt)
     have hks:=q7 (on:=on) hlt
     have hdx:cb on l x x=.int .i64 (l.getD x 0):=by
      unfold cb
      rw[if_neg omg,if_pos (Nat.le_refl _)]
     refine vcR [] (lkL [(5,[0,1,5,6,19]),(7,[0,1,5,6,7]),(8,[0,1,5,6,7,29]),(9,[0,1,5,6]),(10,[0,1,5,6]),(6,[0,1,5,6])]) (lkL [(7,[(3,ROrc.kop (int i64 (List.getD l x 0)))]),(8,[(2,ROrc.kcall (AV.bool !Nat.testBit on (Int.toNat (List.getD l x 0))))])]) (fun Q=>(fun (u1:List AObj)=>(fun (u2:Int)=>(fun (u3:Int)=>(fun (u4:Int)=>(fun (u5:List (Nat × AV))=>(fun (u6:Bool)=>(fun (u7:AV)=>(decide (u4<u3)=true->(0<=u4/\u4<u3)/\OpOk Tryd.prog R (Oper.mk (some 25) (Op.load 3 (Operand.tmp 24)) 3 "slices.go:248" #[Edge.mk 2 Ground.data] none) (evO [Row.mk (some 24) none (ref 0 x) false (some []) [],Row.mk (some 23) none (int i64 u4) false (some []) [],Row.mk (some 22) none u7 false (some []) []] u5 []) u1 g (ah l x) u1 g/\(true=true/\Does Tryd.prog R 73 [ah l x,ref 1 0] u1 g (ret (AV.bool u6)) u1 g)/\((!u6)=true->(0<=u2/\u2<u3)/\List.length (bY on l x)+1<=List.length l*1/\(-9223372036854775808<=u2+1/\u2+1<=9223372036854775807)/\(-9223372036854775808<=u4+1/\u4+1<=9223372036854775807)/\Q AEx.normal (St.mk [(0,u7),(1,fn 73 0 (nth []) 1 (nth [ref 1 0])),(5,int i64 (u2+1)),(6,int i64 (u4+1))] [cells false (List.length l*1) (al (cb on l x) (List.length (bY on l x)) 1 fun x_3=>ah l x),cells false 1 fun x=>int u64 (↑on:Int)] g))/\((!u6)=false->(-9223372036854775808<=u4+1/\u4+1<=9223372036854775807)/\Q AEx.normal (St.mk [(0,u7),(1,fn 73 0 (nth []) 1 (nth [ref 1 0])),(5,int i64 u2),(6,int i64 (u4+1))] u1 g)))/\(decide (u4<u3)=false->Q (AEx.exit 0) (St.mk u5 u1 g))) (ow true 0 (List.length l) 1)) (!Nat.testBit on (Int.toNat (List.getD l x 0)))) ([(0,ow true 0 (List.length l) 1),(1,fn 73 0 (nth []) 1 (nth [ref 1 0])),(5,int i64 u2),(6,int i64 u4),(19,AV.bool (decide (u4<u3)))])) ((↑x:Int))) ((↑(List.length l):Int))) ((↑(List.length (bY on l x)):Int))) ([cells false (List.length l*1) (cb on l x),cells false 1 fun x=>int u64 (↑on:Int)])) ⟨fun c1=>have c1:(↑x:Int)<(↑(List.length l):Int):=(of_decide_eq_true c1);⟨omg,?_,⟨rfl,(doS [1] 2 (fun R g=>q5 R (on) (List.getD l x 0) omg omg g))⟩,fun c2=>have c2:Nat.testBit on (Int.toNat (List.getD l x 0))=true:=((Bool.not_eq_false' _).mp ((Bool.not_eq_true' _).mp c2));⟨omg,omg,omg,omg,?_⟩,fun c2=>have c2:Nat.testBit on (Int.toNat (List.getD l x 0))=false:=((Bool.not_eq_true' _).mp ((Bool.not_eq_false' _).mp c2));⟨omg,?_⟩⟩,fun c1=>have c1:¬(↑x:Int)<(↑(List.length l):Int):=(of_decide_eq_false c1);?_⟩
     ·exact dD rfl rfl krf rfl (by show _+1<=_;omega) hdx
     ·rw[if_pos c2] at hks
      refine(aY (x+1) (toL (h1:=⟨yu _,yu _,(yv ?_),(yv krf),trivial⟩) (h2:=⟨?_,yw,trivial⟩)) ?_ ?_)
      ·show AV.int .i64 _=AV.int .i64 _
       rw[hks,List.length_append]
       rfl
      ·refine⟨rfl,Nat.le_refl _,fun c hc=>?_⟩
       rw[d7]
       unfold cb
       rw[hks,List.length_append,List.length_singleton]
       rcases Nat.lt_trichotomy c (bY on l x).length with h|h|h
       ·rw[if_neg omg,if_pos h,if_pos omg,List.getD_eq_getElem?_getD,List.getD_eq_getElem?_getD,List.getElem?_append_left h]
        exact yu _
       ·subst h
        rw[if_pos omg,if_pos omg,List.getD_eq_getElem?_getD,List.getElem?_append_right (Nat.le_refl _),Nat.sub_self]
        exact yu _
       ·rw[if_neg (show ¬((bY on l x).length<=c/\c<(bY on l x).length+1) by omega),if_neg (show ¬c<(bY on l x).length by omega),if_neg (show ¬c<(bY on l x).length+1 by omega)]
        by_cases h3:x+1<=c
        ·rw[if_pos (show x<=c by omega),if_pos h3];exact yu _
        ·rw[if_neg h3];exact Le.any _
      ·refine⟨omg,?_⟩
       rw[hks,List.length_append,List.length_singleton]
       omega
      ·omega
     ·rw[if_neg (by rw[c2];decide)] at hks
      refine(aY (x+1) (toL (h1:=⟨yu _,yu _,(yv ?_),(yv krf),trivial⟩) (h2:=⟨?_,yw,trivial⟩)) ?_ ?_)
      ·show AV.int .i64 _=AV.int .i64 _
       rw[hks]
      ·refine⟨rfl,Nat.le_refl _,fun c hc=>?_⟩
       unfold cb
       rw[hks]
       by_cases h:c<(bY on l x).length
       ·rw[if_pos h,if_pos h];exact yu _
       ·rw[if_neg h,if_neg h]
        by_cases h3:x+1<=c
        ·rw[if_pos omg,if_pos h3];exact yu _
        ·rw[if_neg h3];exact Le.any _
      ·refine⟨omg,?_⟩
       rw[hks]
       omega
      ·omega
     ·exfalso;omega
    ·have hxe:x=l.length:=by omega
     subst hxe
     have hkk:bY on l l.length=aT on l:=by unfold bY aT;rw[List.take_length]
     rw[hkk] at h2 ⊢
     have hb:decide ((l.length:Int)<(l.length:Int))=false:=decide_eq_false omg
     refine vcR [[1,1,1,0,1,0,0,0,1,0]] (lkL [(5,[0,1,5,6,19])]) (fun _=>[]) (fun Q=>(fun (u1:Int)=>(fun (u2:St R.σ)=>(decide (u1<u1)=true->WpC Tryd.prog R 42 2 72 [1,1,1,0,1,0,0,0,1,0] Q [Kont.seq [1,1,1,0,1,0,0,1]] u2)/\(decide (u1<u1)=false->Q (AEx.exit 0) u2)) (St.mk [(0,ow true 0 (List.length l) 1),(1,fn 73 0 (nth []) 1 (nth [ref 1 0])),(5,int i64 (↑(List.length (aT on l)):Int)),(6,int i64 u1),(19,AV.bool (decide (u1<u1)))] [cells false (List.length l*1) (cb on l (List.length l)),cells false 1 fun x=>int u64 (↑on:Int)] g)) ((↑(List.length l):Int))) ⟨fun hcc=>(nomatch (hb.symm.trans hcc)),fun _=>?_⟩
     refine⟨_,yG _,vcR [] (lkL [(11,[0,5]),(12,[4])]) (lkL [(11,[(3,ROrc.own any [cells false (List.length (aT on l)*1) (cb on l (List.length l)),cells false 1 fun (x:Nat)=>int u64 (↑on:Int)] g)])]) (fun Q=>(fun (u1:Nat)=>(fun (u2:Int)=>(fun (u3:AObj)=>(fun (u4:Int)=>List.length l<=List.length l/\(0<=u4/\u4<=u2)/\u1<List.length l/\OpOk Tryd.prog R (Oper.mk none (Op.call (Call.mk (Callee.builtin Builtin.clear) #[Operand.tmp 38] #[53])) 0 "slices.go:253" #[Edge.mk 2 Ground.data] none) (evO [Row.mk (some 38) none (sl 0 (u1*1) (List.length l-u1) (List.length l-u1) false 1) false (some []) [],Row.mk (some 37) none (int i64 u4) false (some []) [],Row.mk (some 36) none (ow true 0 (List.length l) 1) false (some []) []] [(0,ow true 0 (List.length l) 1),(1,fn 73 0 (nth []) 1 (nth [ref 1 0])),(5,int i64 u4),(6,int i64 u2),(19,AV.bool (decide (u2<u2)))] []) [cells false (List.length l*1) (cb on l (List.length l)),u3] g any [cells false (u1*1) (cb on l (List.length l)),u3] g/\(0<=u4/\u4<=u2)/\0<List.length l/\Q AEx.ret (St.mk [(4,sl 0 0 (u1-0) (List.length l-0) false 1)] [cells false (u1*1) (cb on l (List.length l)),u3] g)) ((↑u1:Int))) (cells false 1 fun x=>int u64 (↑on:Int))) ((↑(List.length l):Int))) (List.length (aT on l))) ⟨omg,omg,omg,?_,omg,omg,?_⟩⟩
     ·obtain⟨ei,hei⟩:=t3 (ty:=ax Tryd.prog) (t:=53) (es:=1) krf
      refine qr (t1 (t:=53) (es:=1) (N:=l.length*1) (len:=l.length-(aT on l).length) (get0:=cb on l l.length) rfl rfl rfl rfl rfl rfl hei omg (Nat.le_refl _) dcd omg) rfl
     ·show bw Tryd.prog R 2 _ _ _ _ .ret _
      refine eU (.sl 0 0 ((aT on l).length-0) (l.length-0) false 1) _ rfl trivial (toL (h2:=⟨⟨rfl,Nat.le_refl _,fun c hc=>yv ?_⟩,yx _,trivial⟩))
      show cb on l l.length c=ah (aT on l) c
      unfold cb
      rw[hkk,if_pos omg]
      rfl
 ·have hm:=mT (ca on) l 0 h0
  have hk:aT on l=l:=by
   unfold aT
   rw[List.filter_eq_self]
   intro a ha
   have:=hm.2 a ha
   unfold ca at this
   simpa using this
  rw[hk]
  refine spW (nt:=42) (rs:=[.tmp 4]) (k0:=2) ?_
  refine vcR [] (lkL [(0,[0,1]),(1,[0,1,5]),(2,[0,1,5,12]),(3,[4]),(4,[0,1,5,6])]) (lkL [(1,[(2,ROrc.kcall (int i64 (aN (ca on) l 0)))])]) (fun Q=>(fun (u1:List AObj)=>(fun (u2:Int)=>(fun (u3:AV)=>(true=true/\Does Tryd.prog R 103 [u3,fn 73 0 (nth []) 1 (nth [ref 1 0])] u1 g (ret (int i64 u2)) u1 g)/\((u2 == -1)=true->Q AEx.ret (St.mk [(4,u3)] u1 g))/\((u2 == -1)=false->(-9223372036854775808<=u2+1/\u2+1<=9223372036854775807)/\WpC Tryd.prog R 42 2 72 [1,1,1,0,1,0] Q [Kont.blk 0,Kont.seq [1,1,1,1]] (St.mk [(0,u3),(1,fn 73 0 (nth []) 1 (nth [ref 1 0])),(5,int i64 u2),(6,int i64 (u2+1))] u1 g))) (ow true 0 (List.length l) 1)) (aN (ca on) l 0)) ([cells false (List.length l*1) fun a=>ah l a,cells false 1 fun x=>int u64 (↑on:Int)])) ⟨⟨rfl,(q6 _ _ _ omg omg omg _)⟩,fun c1=>have c1:aN (ca on) l 0 = -1:=(beq_iff_eq.mp c1);?_,fun c1=>have c1:¬aN (ca on) l 0 = -1:=(beq_eq_false_iff_ne.mp c1);⟨omg,?_⟩⟩
  ·refine eU (.ow true 0 l.length 1) _ rfl trivial (toL (h1:=⟨Le.ow_sl omg,trivial⟩) (h2:=⟨yx _,yx _,trivial⟩))
  ·exact absurd hm.1 c1
def aF (on:Nat)(l:List Rule):List Rule:=l.filter (fun r=>on.testBit r.head.toNat)
def aV (on:Nat):List Rule->Nat->List Int
 |[],_=>[]
 |r::l,i=>if on.testBit r.head.toNat then(i:Int)::aV on l (i+1) else aV on l (i+1)
theorem q8 (on:Nat):∀(l:List Rule) (i:Nat),(aV on l i).length=(aF on l).length
 |[],_=>rfl
 |r::l,i=>by
  unfold aV aF
  rw[List.filter_cons]
  have ih:=q8 on l (i+1)
  unfold aF at ih
  split <;> simp[ih]
theorem q9 (on:Nat):∀(l l':List Rule) (i:Nat),aV on (l++l') i=aV on l i++aV on l' (i+l.length)
 |[],l',i=>rfl
 |r::l,l',i=>by
  show(if on.testBit r.head.toNat then(i:Int)::aV on (l++l') (i+1) else aV on (l++l') (i+1))=(if on.testBit r.head.toNat then(i:Int)::aV on l (i+1) else aV on l (i+1))++_
  rw[q9 on l l' (i+1),show i+1+l.length=i+(r::l).length by simp;omega]
  split <;> rfl
theorem wJ {on:Nat}{l:List Rule}{i:Nat}(h:i<l.length):aF on (l.take (i+1))=if on.testBit (l.getD i default).head.toNat then aF on (l.take i)++[l.getD i default] else aF on (l.take i):=by
 unfold aF
 rw[List.take_add_one,List.filter_append,List.getElem?_eq_getElem h,List.getD_eq_getElem?_getD,List.getElem?_eq_getElem h]
 cases hb:on.testBit l[i].head.toNat <;> simp[hb]
theorem wK {on:Nat}{l:List Rule}{i:Nat}(h:i<l.length):aV on (l.take (i+1)) 0=if on.testBit (l.getD i default).head.toNat then aV on (l.take i) 0++[(i:Int)] else aV on (l.take i) 0:=by
 rw[List.take_add_one,List.getElem?_eq_getElem h,List.getD_eq_getElem?_getD,List.getElem?_eq_getElem h,Option.toList_some,q9,List.length_take,Nat.min_eq_left omg,Nat.zero_add]
 show _++(if on.testBit l[i].head.toNat then(i:Int)::[] else[])=_
 rw[Option.getD_some]
 split <;> simp
theorem wL {q:List Int}{s:Int}{c:Nat}{z:Nat->AV}(hc:c<(q.length+1)*1):ah (q++[s]) c=aW 1 q.length (fun i j=>ah q (i*1+j)) (fun i j=>al z 0 1 (fun _=>.int .i64 s) (0+i*1+j)) c:=by
 unfold aW
 by_cases h:c<q.length*1
 ·rw[if_pos h]
  show _=ah q (c/1*1+c%1)
  rw[show c/1*1+c%1=c by omega]
  unfold ah
  rw[List.getD_eq_getElem?_getD,List.getElem?_append_left omg,<-List.getD_eq_getElem?_getD]
 ·rw[if_neg h]
  show _=al z 0 1 _ (0+(c-q.length*1)/1*1+(c-q.length*1)%1)
  rw[d7,if_pos omg,show c=q.length by omega]
  unfold ah
  rw[List.getD_eq_getElem?_getD,List.getElem?_append_right (Nat.le_refl _),Nat.sub_self]
  rfl
theorem mB {k:Nat}(l:List Rule)(j:Nat):Below k (aU l j):=kk _ _
theorem p5 {f:Nat->Nat}(h:True){l:List Rule}{j:Nat}:aE f (aU l j)=aU l j:=kn _ _
theorem nat1_rng:∀(k n d j:Nat),j<k->ar (rng k n) d j=n+j
 |0,_,_,_,h=>absurd h (Nat.not_lt_zero _)
 |k+1,n,d,0,_=>rfl
 |k+1,n,d,j+1,h=>by
  show ar (rng k (n+1)) d j=_
  rw[nat1_rng k (n+1) d j omg]
  omega
theorem kR {n:Nat}{c:Nat->AV}(h:∀j,j<n->Below 0 (c j))(f:Nat->Nat):LeO (.cells false n c) (bI f (.cells false n c)):=⟨rfl,Nat.le_refl _,fun j hj=>bj (h j hj)⟩
def bS (b:Nat)(l:List Stp):Nat->AV:=fun c=>bif Nat.beq (c%2) 0 then .int .i64 (l.getD (c/2) default).rule else .ow true (b+c/2) (l.getD (c/2) default).atoms.length 1
theorem nk {f:Nat->Nat}{b b':Nat}{l:List Stp}{c:Nat}(h:f (b+c/2)=b'+c/2):aE f (bS b l c)=bS b' l c:=by
 unfold bS
 cases Nat.beq (c%2) 0 with
 |true=>rfl
 |false=>
  show AV.ow true (f (b+c/2)) _ 1=_
  rw[h]
  rfl
theorem wM (R:Res)[hT:Tab LT R](p:Prg)(n0 n1 n2 n3:Nat)(c0 c1 c2 c3:Nat->AV)(b0:∀j,j<n0->Below 0 (c0 j))(b1:∀j,j<n1->Below 0 (c1 j))(b2:∀j,j<n2->Below 0 (c2 j))(b3:∀j,j<n3->Below 0 (c3 j))(hl:p.rules.l.length<1000000)(hr:∀r,r∈p.rules.l->aK r)(hp:cM p)(hh:dI p)(g:R.σ):Does Tryd.prog R 60 [aq p] [.cells false n0 c0,.cells false n1 c1,.cells false n2 c2,.cells false n3 c3] g (.ret (.tup 2 (nth [.ow true 5 (ak p).1.length 2,.ref 4 0])))
  (.cells false n0 c0::.cells false n1 c1::.cells false n2 c2::.cells false n3 c3::.cells false 27 (aH (ak p).2)::.cells false ((ak p).1.length*2) (bS 6 (ak p).1)::bv (ab (ak p).1) []) g:=by
 have hlen:=mY hp hr hh
 have h1:Does Tryd.prog R 60 [aq p] [.cells false n0 c0,.cells false n1 c1,.cells false n2 c2,.cells false n3 c3] g (.ret (.tup 2 (nth [.ow true 6 (ak p).1.length 2,.ref 4 0])))
   (.cells false n0 c0::.cells false n1 c1::.cells false n2 c2::.cells false n3 c3::.cells false 27 (ad p (ak p).2 (.mp 5))::.map (esF p.rules.l)::.cells false ((ak p).1.length*2) (bS 7 (ak p).1)::bv (ab (ak p).1) []) g:=
  dQ hT [] 4 (fun R _ g=>qM R p hl hr hp hh g) rfl rfl rfl trivial trivial ⟨bj (by exact⟨⟨trivial,trivial⟩,trivial⟩),trivial⟩ (yy (fun j hj=>match j,hj with|0,_=>yu _|1,_=>yu _)) ⟨yx _,yx _,yx _,yx _,yE (fun j hj=>bP (by rfl)),rfl,yE (fun c hc=>nk (b:=3) (by
   show ar ([]++rng 27 4) (4+27) (3+c/2)=7+c/2
   rw[List.nil_append,nat1_rng 27 4 31 (3+c/2) omg]
   omega)),yx _,yx _,yx _,yx _,yx _,yx _,yx _,yx _,yx _,yx _,yx _,yx _,yx _,yx _,yx _,yx _,yx _,yx _,yx _,yx _,yx _,yx _,yx _,yx _,trivial⟩
 refine gV h1 (toS [0,1,2,3,4,6,7,8,9,10,11,12,13,14,15,16,17,18,19,20,21,22,23,24,25,26,27,28,29,30] 31 (hob:=?_))
 refine⟨kR b0 _,kR b1 _,kR b2 _,kR b3 _,⟨rfl,Nat.le_refl _,fun j hj=>by
  show Le (ad p _ (.mp 5) j) (aE _ (aH _ j))
  rw[cT trivial]
  exact qN⟩,yE (fun c hc=>?_),yx _,yx _,yx _,yx _,yx _,yx _,yx _,yx _,yx _,yx _,yx _,yx _,yx _,yx _,yx _,yx _,yx _,yx _,yx _,yx _,yx _,yx _,yx _,yx _,trivial⟩
 refine(nk (b:=6) (b':=7) (c:=c) ?_).symm
 have h:(List.range 24).all (fun i=>ar [0,1,2,3,4,6,7,8,9,10,11,12,13,14,15,16,17,18,19,20,21,22,23,24,25,26,27,28,29,30] 31 (6+i)==7+i)=true:=by decide +kernel
 simpa using (List.all_eq_true.1 h) (c/2) (List.mem_range.2 omg)
def az (p:Prg)(on:Nat):Prg:=⟨p.atoms,aF on p.rules.l,.auto⟩
theorem wN {p:Prg}{on:Nat}{hp:List AObj}{k m o:Nat}(ho:ae hp o=.cells false ((aF on p.rules.l).length*2) (aU (aF on p.rules.l)))(hk:k<=o):aA hp k m (.ow true o (aF on p.rules.l).length 2) (af (az p on).rules):=
 (aA.ow ho hk (Nat.le_refl _) dcd (fun j _=>yB (mB _ _))).le (yA rfl (fun i j hi hj=>by
  show aU _ (i*2+j)=bz _ j
  unfold aU
  rw[show(i*2+j)/2=i by omega,show(i*2+j)%2=j by omega]
  rfl))
def jt (p:Prg)(s:Stp):Prop:=(0<=s.rule->s.rule<p.rules.l.length)/\0<s.atoms.length/\s.atoms.length<=24/\∀a,a∈s.atoms->0<=a/\a<p.atoms
theorem wO {p:Prg}{v:Nat->Int}(hp:cM p)(hr:∀r,r∈p.rules.l->aK r)(hh:dI p)(hb:bc p v=true):jt p (am p v):=by
 obtain⟨h1,h2⟩:=qE (v:=v) hp hr hh
 by_cases h:0<=bl p v
 ·obtain⟨k,k1,k2,_,_⟩:=g5 (dS v) default p.rules.l 0 h
  have hn:am p v=⟨bl p v,[(p.rules.l.getD (bl p v).toNat default).head]⟩:=if_pos h
  have hf:bl p v=k:=by unfold bl;rw[k2];simp
  refine⟨fun _=>?_,?_,h2,h1⟩
  ·rw[hn];show bl p v<_;omega
  ·rw[hn];exact Nat.zero_lt_one
 ·obtain⟨k0,k1,_,_,_⟩:=mU hp h hb
  refine⟨fun h=>?_,?_,h2,h1⟩
  ·rw[k0] at h
   exact absurd h (by show ¬(0:Int) <= -1;omega)
  ·unfold cW at k1
   rw[Bool.and_eq_true] at k1
   exact of_decide_eq_true k1.1
theorem ra {p:Prg}(hp:cM p)(hr:∀r,r∈p.rules.l->aK r)(hh:dI p):∀(n:Nat) (v:Nat->Int) (l:List Stp),(∀s,s∈l->jt p s)->∀s,s∈(dU p n v l).1->jt p s
 |0,_,_,h=>h
 |n+1,v,l,h=>by
  show ∀s,s∈(if bc p v then dU p n (cj v (am p v)) (l++[am p v]) else(l,v)).1->jt p s
  by_cases hb:bc p v=true
  ·rw[if_pos hb]
   refine ra hp hr hh n _ _ (fun s hs=>?_)
   rcases List.mem_append.1 hs with hs|hs
   ·exact h s hs
   ·have:s=am p v:=by simpa using hs
    rw[this]
    exact wO hp hr hh hb
  ·rw[if_neg hb]
   exact h
def gr (nums:List Int)(s:Stp):Int:=if 0<=s.rule then nums.getD s.rule.toNat 0 else s.rule
def ac (on:Nat)(l:List Stp)(i j:Nat):AObj:=.cells false ((if j<i then aT on (l.getD j default).atoms else(l.getD j default).atoms).length*1) (ah (if j<i then aT on (l.getD j default).atoms else(l.getD j default).atoms))
def aQ (on:Nat)(l:List Stp)(i:Nat):List Nat:=(List.range i).filter (fun k=>decide (0<(aT on (l.getD k default).atoms).length))
def bp (on:Nat)(nums:List Int)(l:List Stp)(q:List Nat):Nat->AV:=fun c=>bif Nat.beq (c%2) 0 then .int .i64 (gr nums (l.getD (q.getD (c/2) 0) default)) else .sl (6+q.getD (c/2) 0) 0 (aT on (l.getD (q.getD (c/2) 0) default).atoms).length (l.getD (q.getD (c/2) 0) default).atoms.length false 1
def gt (k:Nat):List Nat:=[0,1,2,3,4,5,6,7,8,9,10,11,12,13,14,15,16,17,18,19,20,21,22,23,24,25,26,27,28,29,k]
theorem rb {k n j:Nat}(hj:j<30):ar (gt k) n j=j:=by
 have h:j=0∨j=1∨j=2∨j=3∨j=4∨j=5∨j=6∨j=7∨j=8∨j=9∨j=10∨j=11∨j=12∨j=13∨j=14∨j=15∨j=16∨j=17∨j=18∨j=19∨j=20∨j=21∨j=22∨j=23∨j=24∨j=25∨j=26∨j=27∨j=28∨j=29:=by omega
 rcases h with rfl|rfl|rfl|rfl|rfl|rfl|rfl|rfl|rfl|rfl|rfl|rfl|rfl|rfl|rfl|rfl|rfl|rfl|rfl|rfl|rfl|rfl|rfl|rfl|rfl|rfl|rfl|rfl|rfl|rfl <;> rfl
theorem ju {f:Nat->AObj}{x0 x1 x2 x3 x4 x5:AObj}{r:List AObj}{a:Nat}(ha:a<24):ae (x0::x1::x2::x3::x4::x5::bv f r) (6+a)=f a:=by
 rw[show 6+a=a+6 by omega]
 exact kF ha
theorem rc {f:Nat->AObj}{x0 x1 x2 x3 x4 x5:AObj}{r:List AObj}{a:Nat}:ae (x0::x1::x2::x3::x4::x5::bv f r) (30+a)=ae r a:=by
 rw[show 30+a=a+30 by omega]
 rfl
theorem wP {on:Nat}{l:List Stp}{i j:Nat}(h:j≠i):ac on l (i+1) j=ac on l i j:=by
 unfold ac
 by_cases hj:j<i
 ·rw[if_pos hj,if_pos (show j<i+1 by omega)]
 ·rw[if_neg hj,if_neg (show ¬j<i+1 by omega)]
theorem wQ {on:Nat}{l:List Stp}{i:Nat}:ac on l i i=.cells false ((l.getD i default).atoms.length*1) (ah (l.getD i default).atoms):=by
 unfold ac
 rw[if_neg (Nat.lt_irrefl i)]
theorem wR {on:Nat}{l:List Stp}{i:Nat}:ac on l (i+1) i=.cells false ((aT on (l.getD i default).atoms).length*1) (ah (aT on (l.getD i default).atoms)):=by
 unfold ac
 rw[if_pos (Nat.lt_succ_self i)]
theorem rd (R:Res)(on:Nat)(L:List Stp)(i:Nat)(x0 x2 x3 x4 x5 o30 o31:AObj)(hi:i<24)(hon:on<2^24)(hl:0<(L.getD i default).atoms.length/\(L.getD i default).atoms.length<1000000)(ha:∀a,a∈(L.getD i default).atoms->0<=a/\a<24)(g:R.σ) :
  Does Tryd.prog R 72 [.ow true (6+i) (L.getD i default).atoms.length 1,.fn 73 0 (nth []) 1 (nth [.ref 1 0])] (x0::.cells false 1 (fun _=>.int .u64 on)::x2::x3::x4::x5::bv (ac on L i) [o30,o31]) g
   (.ret (.sl (6+i) 0 (aT on (L.getD i default).atoms).length (L.getD i default).atoms.length false 1)) (x0::.cells false 1 (fun _=>.int .u64 on)::x2::x3::x4::x5::bv (ac on L (i+1)) [o30,o31]) g:=by
 have hlt:bt [6+i,1] 32=true:=by
  show(Nat.blt (6+i) 32&&(Nat.blt 1 32&&true))=true
  rw[show Nat.blt (6+i) 32=true by rw[Nat.blt_eq];omega]
  rfl
 have hnd:ct [6+i,1]=true:=by
  show(!(bif Nat.beq (6+i) 1 then true else false)&&(!false&&true))=true
  rw[mZ (show 6+i≠1 by omega)]
  rfl
 refine eV [6+i,1] 32 (fun R g=>wI R (L.getD i default).atoms on hon hl ha g) rfl hlt hnd ⟨?_,yx _,trivial⟩ ⟨omg,omg,trivial⟩ ⟨yu _,Le.fn (fun i hi=>absurd hi (Nat.not_lt_zero _)) (fun i hi=>match i,hi with|0,_=>yu _),trivial⟩ (yu _) ?_
 ·rw[ju hi,wQ]
  exact yx _
 ·refine mu (by rw[iN];rfl) (fun x hx=>?_) (fun x hx=>?_) ⟨?_,yx _,trivial⟩
  ·rw[iN]
   show x<32
   rcases List.mem_cons.1 hx with h|h
   ·omega
   ·have:x=1:=by simpa using h
    omega
  ·rw[mv _ _ _ hx]
   have hx1:x≠6+i:=fun e=>hx (by rw[e];exact List.mem_cons_self)
   rcases Nat.lt_or_ge x 6 with h|h
   ·match x,h with
    |0,_=>exact yx _
    |1,_=>exact yx _
    |2,_=>exact yx _
    |3,_=>exact yx _
    |4,_=>exact yx _
    |5,_=>exact yx _
   ·rcases Nat.lt_or_ge x 30 with h2|h2
    ·obtain⟨a,rfl⟩:∃a,x=6+a:=⟨x-6,omg⟩
     rw[ju omg,ju omg,wP omg]
     exact yx _
    ·obtain⟨a,rfl⟩:∃a,x=30+a:=⟨x-30,omg⟩
     rw[rc,rc]
     exact yx _
  ·rw[ju hi,wR]
   exact yx _
theorem re {L:List Stp}{i:Nat}:Le (.agg 2 (fun j=>bS 6 L (j+i*2))) (.agg 2 (nth [.int .i64 (L.getD i default).rule,.ow true (6+i) (L.getD i default).atoms.length 1])):=by
 refine yz (fun j hj=>yv ?_)
 unfold bS
 match j,hj with
 |0,_=>
  rw[show(0+i*2)%2=0 by omega,show(0+i*2)/2=i by omega]
  rfl
 |1,_=>
  rw[show(1+i*2)%2=1 by omega,show(1+i*2)/2=i by omega]
  rfl
theorem rf {on:Nat}{nums:List Int}{l:List Stp}{q:List Nat}{i c:Nat}{z:Nat->AV}(hc:c<(q.length+1)*2):bp on nums l (q++[i]) c=aW 2 q.length (fun a j=>bp on nums l q (a*2+j)) (fun a j=>al z 0 2 (nth [.int .i64 (gr nums (l.getD i default)),.sl (6+i) 0 (aT on (l.getD i default).atoms).length (l.getD i default).atoms.length false 1]) (0+a*2+j)) c:=by
 unfold aW
 by_cases h:c<q.length*2
 ·rw[if_pos h]
  show _=bp on nums l q (c/2*2+c%2)
  rw[show c/2*2+c%2=c by omega]
  unfold bp
  rw[List.getD_eq_getElem?_getD (l:=q++[i]),List.getElem?_append_left omg,<-List.getD_eq_getElem?_getD]
 ·rw[if_neg h]
  show _=al z 0 2 _ (0+(c-q.length*2)/2*2+(c-q.length*2)%2)
  rw[d7,if_pos omg]
  unfold bp
  rw[show c/2=q.length by omega,List.getD_eq_getElem?_getD (l:=q++[i]),List.getElem?_append_right (Nat.le_refl _),Nat.sub_self]
  have h2:c=q.length*2∨c=q.length*2+1:=by omega
  rcases h2 with rfl|rfl
  ·rw[show q.length*2%2=0 by omega,show 0+(q.length*2-q.length*2)/2*2+(q.length*2-q.length*2)%2-0=0 by omega]
   rfl
  ·rw[show(q.length*2+1)%2=1 by omega,show 0+(q.length*2+1-q.length*2)/2*2+(q.length*2+1-q.length*2)%2-0=1 by omega]
   rfl
theorem kS {on:Nat}{l:List Stp}{i:Nat}:aQ on l (i+1)=if 0<(aT on (l.getD i default).atoms).length then aQ on l i++[i] else aQ on l i:=by
 have e:([i].filter (fun k=>decide (0<(aT on (l.getD k default).atoms).length)))=if 0<(aT on (l.getD i default).atoms).length then[i] else[]:=by
  rw[List.filter_cons,List.filter_nil]
  by_cases h:0<(aT on (l.getD i default).atoms).length
  ·rw[if_pos h,decide_eq_true h];rfl
  ·rw[if_neg h,decide_eq_false h];rfl
 unfold aQ
 rw[List.range_succ,List.filter_append,e]
 by_cases h:0<(aT on (l.getD i default).atoms).length
 ·rw[if_pos h,if_pos h]
 ·rw[if_neg h,if_neg h,List.append_nil]
theorem wS {on:Nat}{l:List Stp}{i c:Nat}(hi:0<i):(aQ on l i).getD c 0<i:=by
 rcases Nat.lt_or_ge c (aQ on l i).length with h|h
 ·have:=bX (aQ on l i) 0 h
  have h2:=(List.mem_filter.1 this).1
  exact List.mem_range.1 h2
 ·rw[List.getD_eq_getElem?_getD,List.getElem?_eq_none h]
  exact hi
theorem wT {f:Nat->Nat}{on:Nat}{nums:List Int}{l:List Stp}{q:List Nat}{c:Nat}(h:f (6+q.getD (c/2) 0)=6+q.getD (c/2) 0):aE f (bp on nums l q c)=bp on nums l q c:=by
 unfold bp
 cases Nat.beq (c%2) 0 with
 |true=>rfl
 |false=>
  show AV.sl (f (6+q.getD (c/2) 0)) 0 _ _ false 1=AV.sl (6+q.getD (c/2) 0) 0 _ _ false 1
  rw[h]
def wU (p:Prg)(on:Nat)(NU:List Int)(V:Nat->Int)(L:List Stp)(i m:Nat):List AObj:=.cells false 2 (nth [.int .i64 p.atoms,af p.rules])::.cells false 1 (fun _=>.int .u64 on)::.cells false 2 (nth [.int .i64 p.atoms,af (az p on).rules])::.cells false ((aF on p.rules.l).length*1) (ah NU)::.cells false 27 (aH V)::.cells false (L.length*2) (bS 6 L)::bv (ac on L i) [.cells false (m*2) (bp on NU L (aQ on L i))]
theorem kT {p:Prg}{on:Nat}{NU:List Int}{V:Nat->Int}{L:List Stp}{i m k n:Nat}{r:List AObj}(hL:L.length<=24)(hi:i<24)(hm:m=(aQ on L (i+1)).length)(hk:ae (.cells false 2 (nth [.int .i64 p.atoms,af p.rules])::.cells false 1 (fun _=>.int .u64 on)::.cells false 2 (nth [.int .i64 p.atoms,af (az p on).rules])::.cells false ((aF on p.rules.l).length*1) (ah NU)::.cells false 27 (aH V)::.cells false (L.length*2) (bS 6 L)::bv (ac on L (i+1)) r) k=.cells false (m*2) (bp on NU L (aQ on L (i+1)))) :
  cJ (ar (gt k) n) (.cells false 2 (nth [.int .i64 p.atoms,af p.rules])::.cells false 1 (fun _=>.int .u64 on)::.cells false 2 (nth [.int .i64 p.atoms,af (az p on).rules])::.cells false ((aF on p.rules.l).length*1) (ah NU)::.cells false 27 (aH V)::.cells false (L.length*2) (bS 6 L)::bv (ac on L (i+1)) r) (gt k) (wU p on NU V L (i+1) m):=by
 refine⟨gX,yx _,gX,yx _,yE (fun j hj=>(cT trivial).symm),yE (fun c hc=>(nk (b:=6) (b':=6) (c:=c) (rb omg)).symm),yx _,yx _,yx _,yx _,yx _,yx _,yx _,yx _,yx _,yx _,yx _,yx _,yx _,yx _,yx _,yx _,yx _,yx _,yx _,yx _,yx _,yx _,yx _,yx _,?_,trivial⟩
 rw[hk]
 refine yE (fun c hc=>(wT (rb ?_)).symm)
 have:=wS (on:=on) (l:=L) (i:=i+1) (c:=c/2) omg
 omega
def dw (on:Nat)(nums:List Int)(l:List Stp):KL Step:=⟨(aQ on l l.length).map (fun k=>⟨gr nums (l.getD k default),aT on (l.getD k default).atoms,.opn⟩),.auto⟩
theorem wV {hp:List AObj}{on:Nat}{NU:List Int}{L:List Stp}{m:Nat}(hm:m=(aQ on L L.length).length)(hL:L.length<=24)(h30:ae hp 30=.cells false (m*2) (bp on NU L (aQ on L L.length)))(hin:∀k,k<L.length->ae hp (6+k)=ac on L L.length k):aA hp 0 0 (.ow true 30 m 2) (ay (dw on NU L)):=by
 subst hm
 refine aA.le (aA.ow h30 (Nat.zero_le _) (Nat.le_refl _) dcd (get:=fun c=>bif Nat.beq (c%2) 0 then .int .i64 (gr NU (L.getD ((aQ on L L.length).getD (c/2) 0) default)) else ag ⟨aT on (L.getD ((aQ on L L.length).getD (c/2) 0) default).atoms,.opn⟩) (fun c hc=>?_)) ?_
 ·unfold bp
  cases Nat.beq (c%2) 0 with
  |true=>exact yB trivial
  |false=>
   have hc2:c/2<(aQ on L L.length).length:=by omega
   obtain⟨k,hk⟩:∃k,(aQ on L L.length).getD (c/2) 0=k:=⟨_,rfl⟩
   have hmem:=bX (aQ on L L.length) 0 hc2
   rw[hk] at hmem
   have hk2:=List.mem_filter.1 hmem
   have hkl:k<L.length:=List.mem_range.1 hk2.1
   have hpos:0<(aT on (L.getD k default).atoms).length:=of_decide_eq_true hk2.2
   have hle:(aT on (L.getD k default).atoms).length<=(L.getD k default).atoms.length:=List.length_filter_le _ _
   rw[hk]
   have h6:=hin k hkl
   unfold ac at h6
   rw[if_pos hkl] at h6
   exact(aA.sl h6 (Nat.zero_le _) omg hle dcd (fun j _=>yB (dE _ _))).le (yA rfl (fun i j hi hj=>by
    show ah _ (0+i*1+j)=AV.int .i64 _
    rw[show 0+i*1+j=i by omega]
    rfl))
 ·have hl2:(dw on NU L).l.length=(aQ on L L.length).length:=by unfold dw;rw[List.length_map]
  refine yA hl2.symm (fun i j hi hj=>?_)
  have hg:(dw on NU L).l.getD i default=⟨gr NU (L.getD ((aQ on L L.length).getD i 0) default),aT on (L.getD ((aQ on L L.length).getD i 0) default).atoms,.opn⟩:=by
   unfold dw
   rw[List.getD_eq_getElem?_getD,List.getElem?_map,List.getElem?_eq_getElem hi,List.getD_eq_getElem?_getD (l:=aQ on L L.length),List.getElem?_eq_getElem hi]
   rfl
  show _=e7 _ j
  rw[hg]
  show(bif Nat.beq ((i*2+j)%2) 0 then _ else _)=_
  rw[show(i*2+j)%2=j by omega,show(i*2+j)/2=i by omega]
  match j,hj with
  |0,_=>rfl
  |1,_=>rfl
theorem rg (R:Res)[Tab LT R](p:Prg)(goal:Int)(hb:aJ p=true)(hg:0<=goal/\goal<p.atoms)(g:R.σ):Does Tryd.prog R 25 [aq p,.int .i64 goal] [] g (.ret (.tup 3 (nth [.int .i64 ((ak (az p (hgP p goal.toNat))).2 goal.toNat),ay (dw (hgP p goal.toNat) (aV (hgP p goal.toNat) p.rules.l 0) (ak (az p (hgP p goal.toNat))).1),.int .i64 0]))) [] g:=by
 obtain⟨hl,hr,hp,hh,hx⟩:=fe hb
 have hs:d9 p:=ff hb
 have hp':1<=p.atoms/\p.atoms<=24:=hp
 have hroom:aL=140737488355328:=rfl
 have hlt:hgP p goal.toNat<2^24:=fI hr omg
 refine spW (nt:=98) (rs:=[.tmp 4,.tmp 5,.tmp 6]) (k0:=0) ?_
 have hc:(bif ((if aJ p then(0:Int) else 2) != 0) then true else !decide (0<=goal/\goal<=p.atoms-1))=false:=by
  rw[hb,decide_eq_true omg]
  rfl
 refine vcR [[1,0,1,0]] (lkL [(0,[1,2]),(1,[1,2,27]),(3,[1,2,7]),(4,[1,2,7,8]),(5,[1,2,7,8,9]),(6,[1,7,8,9,35,36,37])]) (lkL [(1,[(1,ROrc.pcall (int i64 (if aJ p=true then 0 else 2))),(8,ROrc.pcall (AV.bool (decide (0<=goal/\goal<=p.atoms-1))))]),(3,[(2,ROrc.pcall (int u64 (↑(hgP p (Int.toNat goal)):Int))),(4,ROrc.val (Orc.obj (nth [int u64 (↑(hgP p (Int.toNat goal)):Int)])))]),(4,[(4,ROrc.val (Orc.obj (nth [int i64 p.atoms,fz Fz.nil 0 0 fun (x x_1:Nat)=>any])))])]) (fun Q=>(fun (u1:Bool)=>(fun (u2:AV)=>(fun (u3:AV)=>(fun (u4:Int)=>(fun (u5:AV)=>2<=2/\(∀(hp:List AObj) (g:R.σ),true=true/\Does Tryd.prog R 16 [aq p] hp g (ret (int i64 u4)) hp g)/\((!u4 != 0)=true->1<=2)/\((!u4 != 0)=true -> -9223372036854775808<=p.atoms-1/\p.atoms-1<=9223372036854775807)/\((!u4 != 0)=true->∀(hp:List AObj) (g:R.σ),true=true/\Does Tryd.prog R 58 [int i64 goal,int i64 0,int i64 (p.atoms-1)] hp g (ret (AV.bool (decide (0<=goal/\goal<=p.atoms-1)))) hp g)/\(u1=true->WpC Tryd.prog R 98 0 25 [1,0,1,0] Q [Kont.seq [1,1]] (St.mk [(1,int i64 goal),(2,ref 0 0),(27,AV.bool u1)] [cells false 2 (nth [u5,af p.rules])] g))/\(u1=false->2<=2/\(∀(hp:List AObj) (g:R.σ),true=true/\Does Tryd.prog R 70 [aq p,int i64 goal] hp g (ret u3) hp g)/\1<=1/\(∀(c:Nat),c<1->nth [u3] c=al (fun (a:Nat)=>int u64 0) 0 1 (fun (x:Nat)=>u3) c)/\1<=2/\2<=2/\(∀(c:Nat),c<2->nth [u5,u2] c=al (nth [int i64 0,u2]) 0 2 (List.brecOn (motive:=fun (x:List AV)=>Nat->AV) [u5,u2] nth._f) c)/\2<=2/\WpC Tryd.prog R 98 0 25 [1,1,1,1,1,0,1,0] Q [Kont.blk 0,Kont.seq [1,1,1,1,1,1]] (St.mk [(1,int i64 goal),(7,ref 1 0),(8,ref 2 0),(9,u2),(35,af p.rules),(36,int i64 (↑(List.length p.rules.l):Int)),(37,int i64 0)] [cells false 2 (nth [u5,af p.rules]),cells false 1 (nth [u3]),cells false 2 (nth [u5,u2])] g))) (int i64 p.atoms)) (if aJ p=true then 0 else 2)) (int u64 (↑(hgP p (Int.toNat goal)):Int))) (fz Fz.nil 0 0 fun x x_1=>any)) (bif (if aJ p=true then 0 else 2) != 0 then true else !decide (0<=goal/\goal<=p.atoms-1))) ⟨omg,(fun _ _=>⟨rfl,(e8 _ _ _ _ omg)⟩),omg,omg,(fun hgd=>(fun _ _=>⟨rfl,(cK _ _ _ _ _ _)⟩)),fun hcc=>(nomatch (hc.symm.trans hcc)),fun _=>⟨omg,(fun _ _=>⟨rfl,(nc _ _ _ omg omg omg _ _)⟩),omg,(fun c hc=>match c,hc with|0,_=>krf ),omg,omg,(fun c hc=>match c,hc with|0,_=>krf|1,_=>krf ),omg,?_⟩⟩
 obtain⟨on,hon⟩:∃on,hgP p goal.toNat=on:=⟨_,rfl⟩
 rw[hon] at hlt ⊢
 refine cA (gk (fun _=>.any) 2) ?_
 refine(bq krf (fun (x:Nat × Nat)=>⟨[(1,int i64 goal),(7,ref 1 0),(8,ref 2 0),(9,.ow true 4 x.2 1),(35,af p.rules),(36,int i64 (p.rules.l.length:Int)),(37,.int .i64 x.1)],[.cells false 2 (nth [.int .i64 p.atoms,af p.rules]),.cells false 1 (fun _=>.int .u64 on),.cells false 2 (nth [.int .i64 p.atoms,.ow true 3 x.2 2]),.cells false (x.2*2) (aU (aF on (p.rules.l.take x.1))),.cells false (x.2*1) (ah (aV on (p.rules.l.take x.1) 0))],g⟩) (fun (x:Nat × Nat)=>(x.1<=p.rules.l.length/\x.2=(aF on (p.rules.l.take x.1)).length)) (fun (x:Nat × Nat)=>(p.rules.l.length-x.1)) ((0,0):Nat × Nat) (toL (h1:=⟨yu _,yu _,yu _,Le.nil_ow,yu _,yu _,(yv krf),trivial⟩) (h2:=⟨yw,⟨rfl,Nat.le_refl _,fun j hj=>match j,hj with|0,_=>(yu _) ⟩,⟨rfl,Nat.le_refl _,fun j hj=>match j,hj with|0,_=>(yu _)|1,_=>Le.nil_ow ⟩,⟨rfl,Nat.le_refl _,fun j hj=>absurd hj (Nat.not_lt_zero j)⟩,⟨rfl,Nat.le_refl _,fun j hj=>absurd hj (Nat.not_lt_zero j)⟩,trivial⟩)) ?_ (fun x hi=>?_))
 ·exact⟨Nat.zero_le _,rfl⟩
 ·obtain⟨i,m⟩:=x
  obtain⟨hi,hm⟩:=hi
  simp only at hi hm
  have hpl:=q8 on (p.rules.l.take i) 0
  have hple:(aF on (p.rules.l.take i)).length<=p.rules.l.length:=Nat.le_trans (List.length_filter_le _ _) (by rw[List.length_take];omega)
  rcases Nat.lt_or_ge i p.rules.l.length with hi'|hi'
  ·have hq:=hr _ (gh hi')
   have hq2:=hq.2
   have hpt:=wJ (on:=on) hi'
   have hnt:=wK (on:=on) hi'
   refine vcR [] (lkL [(7,[1,7,8,9,35,36,37,38]),(8,[1,7,8,9,10,11,35,36,37]),(9,[1,7,8,9,10,11,35,36,37,45]),(10,[1,7,8,9,10,35,36,37]),(11,[1,7,8,9,35,36,37]),(12,[1,7,8,9,35,36,37])]) (lkL [(8,[(5,ROrc.val (Orc.obj (nth [int i64 (List.getD p.rules.l i default).head,ao (List.getD p.rules.l i default).body])))]),(9,[(3,ROrc.pcall (AV.bool (Nat.testBit on (Int.toNat (List.getD p.rules.l i default).head))))]),(10,[(4,ROrc.val (Orc.obj (aU (aF on (List.take i p.rules.l)++[List.getD p.rules.l i default])))),(6,ROrc.val (Orc.obj (nth [int i64 p.atoms,ow true 7 (m+1) 2])))]),(11,[(3,ROrc.val (Orc.obj (ah (aV on (List.take i p.rules.l) 0++[(↑i:Int)]))))])]) (fun Q=>(fun (u1:Rule)=>(fun (u2:Int)=>(fun (u3:Int)=>(fun (u4:List Rule)=>(fun (u5:List AV)=>(fun (u6:AObj)=>(fun (u7:AObj)=>(fun (u8:List AV)=>(fun (u9:List AV)=>(fun (u10:AObj)=>(fun (u11:List (Nat × AV))=>(fun (u12:Bool)=>(decide (u3<u2)=true->(0<=u3/\u3<u2)/\2<=2/\2<=2/\(∀(c:Nat),c<2->nth u5 c=al (nth u8) 0 2 (List.brecOn (motive:=fun (x:List AV)=>Nat->AV) u5 nth._f) c)/\1<=1/\1<=2/\(∀(hp:List AObj) (g:R.σ),true=true/\Does Tryd.prog R 71 [int u64 (↑on:Int),int i64 u1.head] hp g (ret (AV.bool u12)) hp g)/\(u12=true->2<=2/\2<=2/\0<2/\(m+1)*32<=aL/\m+1<=aL/\2<=2/\m*2<=m*2/\(∀(c:Nat),c<(m+1)*2->aU (aF on u4++[u1]) c=aW 2 m (fun (i j:Nat)=>aU (aF on u4) (i*2+j)) (fun (i j:Nat)=>al (fun (j:Nat)=>nth u8 (j%2)) 0 2 (List.brecOn (motive:=fun (x:List AV)=>Nat->AV) u5 nth._f) (0+i*2+j)) c)/\2<=2/\(∀(c:Nat),c<2->nth [int i64 p.atoms,ow true 7 (m+1) 2] c=al (nth u9) 1 1 (fun (x:Nat)=>ow true 7 (m+1) 2) c)/\0<1/\(m+1)*8<=aL/\m+1<=aL/\1<=1/\m*1<=m*1/\(∀(c:Nat),c<(m+1)*1->ah (aV on u4 0++[u3]) c=aW 1 m (fun (i j:Nat)=>ah (aV on u4 0) (i*1+j)) (fun (i j:Nat)=>al (fun (j:Nat)=>int i64 0) 0 1 (fun (x:Nat)=>int i64 u3) (0+i*1+j)) c)/\(-9223372036854775808<=u3+1/\u3+1<=9223372036854775807)/\Q AEx.normal (St.mk ((1,int i64 goal)::(7,ref 1 0)::(8,ref 2 0)::(9,ow true 9 (m+1) 1)::u11) [u6,u7,cells false 2 (nth [int i64 p.atoms,ow true 7 (m+1) 2]),dead,dead,cells false 2 (nth u5),cells false 2 (al (fun (j:Nat)=>nth u8 (j%2)) 0 2 (List.brecOn (motive:=fun (x:List AV)=>Nat->AV) u5 nth._f)),cells false ((m+1)*2) (aU (aF on u4++[u1])),cells false 1 (al (fun (j:Nat)=>int i64 0) 0 1 fun x=>int i64 u3),cells false ((m+1)*1) fun a=>ah (aV on u4 0++[u3]) a] g))/\(u12=false->(-9223372036854775808<=u3+1/\u3+1<=9223372036854775807)/\Q AEx.normal (St.mk ((1,int i64 goal)::(7,ref 1 0)::(8,ref 2 0)::(9,ow true 4 m 1)::u11) [u6,u7,cells false 2 (nth u9),cells false (m*2) (aU (aF on u4)),u10,cells false 2 (nth u5)] g)))/\(decide (u3<u2)=false->Q (AEx.exit 0) (St.mk [(1,int i64 goal),(7,ref 1 0),(8,ref 2 0),(9,ow true 4 m 1),(35,af p.rules),(36,int i64 u2),(37,int i64 u3),(38,AV.bool (decide (u3<u2)))] [u6,u7,cells false 2 (nth u9),cells false (m*2) (aU (aF on u4)),u10] g))) (Nat.testBit on (Int.toNat u1.head))) ([(35,af p.rules),(36,int i64 u2),(37,int i64 (u3+1))])) (cells false (m*1) fun a=>ah (aV on u4 0) a)) ([int i64 p.atoms,ow true 3 m 2])) ([int i64 0,fz Fz.nil 0 0 fun x x_1=>any])) (cells false 1 fun x=>int u64 (↑on:Int))) (cells false 2 (nth [int i64 p.atoms,af p.rules]))) ([int i64 u1.head,ao u1.body])) (List.take i p.rules.l)) ((↑i:Int))) ((↑(List.length p.rules.l):Int))) (List.getD p.rules.l i default)) ⟨fun c1=>have c1:(↑i:Int)<(↑(List.length p.rules.l):Int):=(of_decide_eq_true c1);⟨omg,omg,omg,(fun c hc=>match c,hc with|0,_=>krf|1,_=>krf ),omg,omg,(fun _ _=>⟨rfl,(mF _ _ _ omg omg _ _)⟩),fun c2=>⟨omg,omg,omg,omg,omg,omg,omg,?_,omg,(fun c hc=>match c,hc with|0,_=>krf|1,_=>krf ),omg,omg,omg,omg,omg,?_,omg,?_⟩,fun c2=>⟨omg,?_⟩⟩,fun c1=>have c1:¬(↑i:Int)<(↑(List.length p.rules.l):Int):=(of_decide_eq_false c1);?_⟩
   ·intro c hc
    subst hm
    exact(qq (r:=p.rules.l.getD i default) (z:=fun j=>nth [.int .i64 0,.fz .nil 0 0 fun _ _=>.any] (j%2)) hc).trans krf
   ·intro c hc
    rw[hm,<-hpl] at hc ⊢
    exact(wL (z:=fun _=>.int .i64 0) hc).trans krf
   ·rw[if_pos c2] at hpt hnt
    refine(aY (i+1,m+1) (toS [0,1,2,7,9] 10 (hob:=⟨⟨rfl,Nat.le_refl _,fun j hj=>match j,hj with|0,_=>(yu _)|1,_=>(yu _) ⟩,⟨rfl,Nat.le_refl _,fun j hj=>match j,hj with|0,_=>(yu _) ⟩,⟨rfl,Nat.le_refl _,fun j hj=>match j,hj with|0,_=>(yu _)|1,_=>(yu _) ⟩,?_,?_,trivial⟩)) ?_ ?_)
    ·show LeO (.cells false ((m+1)*2) (aU (aF on (p.rules.l.take i)++[p.rules.l.getD i default]))) (bI _ (.cells false ((m+1)*2) (aU (aF on (p.rules.l.take (i+1))))))
     rw[hpt,ga]
     exact yx _
    ·show LeO (.cells false ((m+1)*1) (ah (aV on (p.rules.l.take i) 0++[(i:Int)]))) (.cells false ((m+1)*1) (ah (aV on (p.rules.l.take (i+1)) 0)))
     rw[hnt]
     exact yx _
    ·refine⟨by show i+1<=_;omega,?_⟩
     show m+1=(aF on (p.rules.l.take (i+1))).length
     rw[hpt,List.length_append,<-hm]
     rfl
    ·show p.rules.l.length-(i+1)<p.rules.l.length-i
     omega
   ·rw[if_neg (by rw[c2];decide)] at hpt hnt
    refine(aY (i+1,m) (toS [0,1,2,3,4] 6 (hob:=⟨⟨rfl,Nat.le_refl _,fun j hj=>match j,hj with|0,_=>(yu _)|1,_=>(yu _) ⟩,⟨rfl,Nat.le_refl _,fun j hj=>match j,hj with|0,_=>(yu _) ⟩,⟨rfl,Nat.le_refl _,fun j hj=>match j,hj with|0,_=>(yu _)|1,_=>(yu _) ⟩,?_,?_,trivial⟩)) ?_ ?_)
    ·show LeO (.cells false (m*2) (aU (aF on (p.rules.l.take i)))) (bI _ (.cells false (m*2) (aU (aF on (p.rules.l.take (i+1))))))
     rw[hpt,ga]
     exact yx _
    ·show LeO (.cells false (m*1) (ah (aV on (p.rules.l.take i) 0))) (.cells false (m*1) (ah (aV on (p.rules.l.take (i+1)) 0)))
     rw[hnt]
     exact yx _
    ·refine⟨by show i+1<=_;omega,?_⟩
     show m=(aF on (p.rules.l.take (i+1))).length
     rw[hpt,<-hm]
    ·show p.rules.l.length-(i+1)<p.rules.l.length-i
     omega
   ·exfalso;omega
  ·have hie:i=p.rules.l.length:=by omega
   subst hie
   rw[List.take_length] at hm hpl
   subst hm
   obtain⟨M,hM⟩:∃M,(aF on p.rules.l).length=M:=⟨_,rfl⟩
   refine cA (toS (s':=⟨[(1,.int .i64 goal),(7,.ref 1 0),(8,.ref 2 0),(9,.ow true 3 (aF on p.rules.l).length 1),(35,af p.rules),(36,.int .i64 p.rules.l.length),(37,.int .i64 p.rules.l.length)],[.cells false 2 (nth [.int .i64 p.atoms,af p.rules]),.cells false 1 (fun _=>.int .u64 on),.cells false 2 (nth [.int .i64 p.atoms,.ow true 4 (aF on p.rules.l).length 2]),.cells false ((aF on p.rules.l).length*1) (ah (aV on p.rules.l 0)),.cells false ((aF on p.rules.l).length*2) (aU (aF on p.rules.l))],g⟩) [0,1,2,4,3] 5 (hob:=⟨gX,yx _,yE (fun j hj=>match j,hj with|0,_=>rfl|1,_=>rfl),?_,?_,trivial⟩)) ?_
   ·show LeO (.cells false ((aF on p.rules.l).length*1) (ah (aV on (p.rules.l.take p.rules.l.length) 0))) _
    rw[List.take_length]
    exact yx _
   ·show LeO (.cells false ((aF on p.rules.l).length*2) (aU (aF on (p.rules.l.take p.rules.l.length)))) _
    rw[List.take_length,ga]
    exact yx _
   refine cA (uB 4 [(1,.int .i64 goal),(7,.ref 1 0),(8,.ref 2 0),(9,.ow true 3 (aF on p.rules.l).length 1),(35,af p.rules),(36,.int .i64 p.rules.l.length),(37,.int .i64 p.rules.l.length)] [.cells false 2 (nth [.int .i64 p.atoms,af p.rules]),.cells false 1 (fun _=>.int .u64 on),.cells false 2 (nth [.int .i64 p.atoms,af (az p on).rules]),.cells false ((aF on p.rules.l).length*1) (ah (aV on p.rules.l 0))] omg (by show 4<=5;omega) rfl (fun i hi=>?_) ⟨yB trivial,yB (show 1<4 by omega),yB (show 2<4 by omega),yB (show 3<4 by omega),yB trivial,yB trivial,yB trivial,trivial⟩) ?_
   ·match i,hi with
    |0,_=>exact⟨rfl,rfl,fun j hj=>match j,hj with|0,_=>yB trivial|1,_=>yB trivial⟩
    |1,_=>exact⟨rfl,rfl,fun j _=>yB trivial⟩
    |2,_=>exact⟨rfl,rfl,fun j hj=>match j,hj with|0,_=>yB trivial|1,_=>wN (o:=4) rfl (Nat.le_refl _)⟩
    |3,_=>exact⟨rfl,rfl,fun j _=>yB trivial⟩
   have hbb:decide ((p.rules.l.length:Int)<(p.rules.l.length:Int))=false:=decide_eq_false omg
   refine vcR [[1,1,1,1,1,0,1,0,0,1,0,0]] (lkL [(7,[1,7,8,9,35,36,37,38])]) (fun _=>[]) (fun Q=>(fun (u1:St R.σ)=>(fun (u2:Int)=>(decide (u2<u2)=true->WpC Tryd.prog R 98 0 25 [1,1,1,1,1,0,1,0,0,1,0,0] Q [Kont.seq [1,1,1,1,1,0,1,0,0,1,1]] u1)/\(decide (u2<u2)=false->Q (AEx.exit 0) u1)) ((↑(List.length p.rules.l):Int))) (St.mk [(1,int i64 goal),(7,ref 1 0),(8,ref 2 0),(9,ow true 3 (List.length (aF on p.rules.l)) 1),(35,af p.rules),(36,int i64 (↑(List.length p.rules.l):Int)),(37,int i64 (↑(List.length p.rules.l):Int)),(38,AV.bool (decide ((↑(List.length p.rules.l):Int)<(↑(List.length p.rules.l):Int))))] [cells false 2 (nth [int i64 p.atoms,af p.rules]),cells false 1 fun x=>int u64 (↑on:Int),cells false 2 (nth [int i64 p.atoms,fz Fz.auto 2 (List.length (az p on).rules.l) fun i=>bz (List.getD (az p on).rules.l i default)]),cells false (List.length (aF on p.rules.l)*1) fun a=>ah (aV on p.rules.l 0) a] g)) ⟨fun hcc=>(nomatch (hbb.symm.trans hcc)),fun _=>?_⟩
   have hlq:(az p on).rules.l.length<1000000:=Nat.lt_of_le_of_lt (List.length_filter_le _ _) hl
   have hrq:∀r,r∈(az p on).rules.l->aK r:=fun r h=>hr r (List.mem_filter.1 h).1
   have hpq:cM (az p on):=hp
   have hhq:dI (az p on):=fun r h=>hh r (List.mem_filter.1 h).1
   have hD:=fun (R:Res) [Tab LT R] (n0 n1 n2 n3:Nat) (c0 c1 c2 c3:Nat->AV) (b0:∀j,j<n0->Below 0 (c0 j)) (b1:∀j,j<n1->Below 0 (c1 j)) (b2:∀j,j<n2->Below 0 (c2 j)) (b3:∀j,j<n3->Below 0 (c3 j)) (g:R.σ)=>wM R (az p on) n0 n1 n2 n3 c0 c1 c2 c3 b0 b1 b2 b3 hlq hrq hpq hhq g
   refine⟨_,yG _,vcR [] (lkL [(13,[1,7,9,12,13]),(14,[1,7,9,12,13,14]),(15,[1,7,9,13,14,62,63,64])]) (lkL [(13,[(1,ROrc.call (tup 2 (nth [ow true 5 (List.length (ak (az p on)).fst) 2,ref 4 0])) (cells false 2 (nth [int i64 p.atoms,af p.rules])::(cells false 1 fun (x:Nat)=>int u64 (↑on:Int))::cells false 2 (nth [int i64 p.atoms,fz Fz.auto 2 (List.length (az p on).rules.l) fun (i:Nat)=>bz (List.getD (az p on).rules.l i default)])::(cells false (List.length (aF on p.rules.l)*1) fun (a:Nat)=>ah (aV on p.rules.l 0) a)::cells false 27 (aH (ak (az p on)).snd)::cells false (List.length (ak (az p on)).fst*2) (bS 6 (ak (az p on)).fst)::bv (ab (ak (az p on)).fst) []) g)])]) (fun Q=>(fun (u1:List AObj)=>(fun (u2:List AV)=>(fun (u3:Nat)=>2<=2/\(true=true/\Does Tryd.prog R 60 [agg 2 (nth u2)] [cells false 2 (nth [int i64 p.atoms,af p.rules]),cells false 1 fun x=>int u64 (↑on:Int),cells false 2 (nth u2),cells false (List.length (aF on p.rules.l)*1) fun a=>ah (aV on p.rules.l 0) a] g (ret (tup 2 (nth [ow true 5 u3 2,ref 4 0]))) u1 g)/\WpC Tryd.prog R 98 0 25 [1,1,1,1,1,1,1,1,0,1,0] Q [Kont.blk 2,Kont.seq [1,1,1,1,1,1,1,1,1]] (St.mk [(1,int i64 goal),(7,ref 1 0),(9,ow true 3 (List.length (aF on p.rules.l)) 1),(13,ref 4 0),(14,fz Fz.nil 0 0 fun x x_1=>any),(62,ow true 5 u3 2),(63,int i64 (↑u3:Int)),(64,int i64 0)] u1 g)) (List.length (ak (az p on)).fst)) ([int i64 p.atoms,fz Fz.auto 2 (List.length (az p on).rules.l) fun i=>bz (List.getD (az p on).rules.l i default)])) ([cells false 2 (nth [int i64 p.atoms,af p.rules]),cells false 1 fun x=>int u64 (↑on:Int),cells false 2 (nth [int i64 p.atoms,fz Fz.auto 2 (List.length (az p on).rules.l) fun i=>bz (List.getD (az p on).rules.l i default)]),cells false (List.length (aF on p.rules.l)*1) fun a=>ah (aV on p.rules.l 0) a,cells false 27 (aH (ak (az p on)).snd),cells false (List.length (ak (az p on)).fst*2) (bS 6 (ak (az p on)).fst),ab (ak (az p on)).fst 0,ab (ak (az p on)).fst 1,ab (ak (az p on)).fst 2,ab (ak (az p on)).fst 3,ab (ak (az p on)).fst 4,ab (ak (az p on)).fst 5,ab (ak (az p on)).fst 6,ab (ak (az p on)).fst 7,ab (ak (az p on)).fst 8,ab (ak (az p on)).fst 9,ab (ak (az p on)).fst 10,ab (ak (az p on)).fst 11,ab (ak (az p on)).fst 12,ab (ak (az p on)).fst 13,ab (ak (az p on)).fst 14,ab (ak (az p on)).fst 15,ab (ak (az p on)).fst 16,ab (ak (az p on)).fst 17,ab (ak (az p on)).fst 18,ab (ak (az p on)).fst 19,ab (ak (az p on)).fst 20,ab (ak (az p on)).fst 21,ab (ak (az p on)).fst 22,ab (ak (az p on)).fst 23])) ⟨omg,⟨rfl,(hD _ _ _ _ _ _ _ _ _ ?_ ?_ ?_ ?_ _)⟩,?_⟩⟩
   ·exact fun j hj=>match j,hj with|0,_=>trivial|1,_=>trivial
   ·exact fun j _=>trivial
   ·exact fun j hj=>match j,hj with|0,_=>trivial|1,_=>trivial
   ·exact fun j _=>trivial
   obtain⟨L,hL⟩:∃L,(ak (az p on)).1=L:=⟨_,rfl⟩
   obtain⟨V,hV⟩:∃V,(ak (az p on)).2=V:=⟨_,rfl⟩
   obtain⟨NU,hNU⟩:∃NU,aV on p.rules.l 0=NU:=⟨_,rfl⟩
   have hL24:L.length<=24:=by rw[<-hL];exact mY hpq hrq hhq
   rw[hL,hV,hNU]
   refine cA (gk (fun _=>.any) 1) ?_
   refine(bq krf (fun (x:Nat × Nat)=>⟨[(1,int i64 goal),(7,ref 1 0),(9,ow true 3 ((aF on p.rules.l).length) 1),(13,ref 4 0),(14,.ow true 30 x.2 2),(62,ow true 5 (L.length) 2),(63,int i64 (L.length:Int)),(64,.int .i64 x.1)],(.cells false 2 (nth [.int .i64 p.atoms,af p.rules])::.cells false 1 (fun _=>.int .u64 on)::.cells false 2 (nth [.int .i64 p.atoms,af (az p on).rules])::.cells false ((aF on p.rules.l).length*1) (ah NU)::.cells false 27 (aH V)::.cells false (L.length*2) (bS 6 L)::bv (ac on L x.1) [.cells false (x.2*2) (bp on NU L (aQ on L x.1))]),g⟩) (fun (x:Nat × Nat)=>(x.1<=L.length/\x.2=(aQ on L x.1).length)) (fun (x:Nat × Nat)=>(L.length-x.1)) ((0,0):Nat × Nat) (toL (h1:=⟨yu _,yu _,yu _,yu _,Le.nil_ow,yu _,yu _,(yv krf),trivial⟩) (h2:=⟨yw,yw,yw,yw,yw,yw,yw,yw,yw,yw,yw,yw,yw,yw,yw,yw,yw,yw,yw,yw,yw,yw,yw,yw,yw,yw,yw,yw,yw,yw,⟨rfl,Nat.le_refl _,fun j hj=>absurd hj (Nat.not_lt_zero j)⟩,trivial⟩)) ?_ (fun x hi=>?_))
   ·exact⟨Nat.zero_le _,rfl⟩
   ·obtain⟨i,m⟩:=x
    obtain⟨hi,hm⟩:=hi
    simp only at hi hm
    have hm24:m<=i:=by
     rw[hm]
     unfold aQ
     exact Nat.le_trans (List.length_filter_le _ _) (by rw[List.length_range];omega)
    rcases Nat.lt_or_ge i L.length with hi'|hi'
    ·have hso:jt (az p on) (L.getD i default):=by
      have:=ra hpq hrq hhq 25 (fun _=>3) [] (fun s hs=>(by cases hs))
      exact this _ (by
       have h:L.getD i default∈L:=bX _ default hi'
       have h2:L.getD i default∈(ak (az p on)).1:=hL.symm▸h
       exact h2)
     obtain⟨o1,o2,o3,o4⟩:=hso
     have o1:0<=(L.getD i default).rule->(L.getD i default).rule<(aF on p.rules.l).length:=o1
     have o4:∀a,a∈(L.getD i default).atoms->0<=a/\a<24:=fun a ha=>by
      have:=o4 a ha
      have e:(az p on).atoms=p.atoms:=rfl
      omega
     by_cases hru:0<=(L.getD i default).rule
     ·have hru1:=o1 hru
      have hge:decide ((L.getD i default).rule >= 0)=true:=decide_eq_true hru
      have har:gr NU (L.getD i default)=NU.getD (L.getD i default).rule.toNat 0:=if_pos hru
      refine vcR [[1,1,1,1,1,1,1,1,0,1,0,0,1,1,0,0,1,0,1,1]] (lkL [(16,[1,7,9,13,14,62,63,64,65]),(17,[1,7,9,13,14,16,62,63,64]),(18,[1,7,9,13,14,16,62,63,64,70]),(19,[1,7,9,13,14,16,62,63,64]),(20,[1,7,9,13,14,16,62,63,64]),(21,[1,7,9,13,14,16,62,63,64,85]),(22,[1,7,9,13,14,62,63,64]),(23,[1,7,9,13,14,62,63,64])]) (lkL [(17,[(1,ROrc.kop (agg 2 (nth [int i64 (List.getD L i default).rule,ow true (6+i) (List.length (List.getD L i default).atoms) 1]))),(3,ROrc.val (Orc.obj (nth [int i64 (List.getD L i default).rule,ow true (6+i) (List.length (List.getD L i default).atoms) 1])))]),(19,[(6,ROrc.val (Orc.obj (nth [ah NU (Int.toNat (List.getD L i default).rule),ow true (6+i) (List.length (List.getD L i default).atoms) 1])))]),(20,[(3,ROrc.call (sl (6+i) 0 (List.length (aT on (List.getD L i default).atoms)) (List.length (List.getD L i default).atoms) false 1) (cells false 2 (nth [int i64 p.atoms,af p.rules])::(cells false 1 fun (x:Nat)=>int u64 (↑on:Int))::cells false 2 (nth [int i64 p.atoms,af (az p on).rules])::cells false (List.length (aF on p.rules.l)*1) (ah NU)::cells false 27 (aH V)::cells false (List.length L*2) (bS 6 L)::bv (ac on L (i+1)) [cells false (m*2) (bp on NU L (aQ on L i)),cells false 2 (nth [int i64 (List.getD NU (Int.toNat (List.getD L i default).rule) 0),ow true (6+i) (List.length (List.getD L i default).atoms) 1])]) g),(5,ROrc.val (Orc.obj (nth [ah NU (Int.toNat (List.getD L i default).rule),sl (6+i) 0 (List.length (aT on (List.getD L i default).atoms)) (List.length (List.getD L i default).atoms) false 1])))]),(22,[(3,ROrc.val (Orc.obj (bp on NU L (aQ on L i++[i]))))])]) (fun Q=>(fun (u1:List AObj)=>(fun (u2:Stp)=>(fun (u3:AObj)=>(fun (u4:AV)=>(fun (u5:AV)=>(fun (u6:Nat)=>(fun (u7:Int)=>(fun (u8:Nat)=>(fun (u9:AObj)=>(fun (u10:AV)=>(fun (u11:List (Nat × AV))=>(fun (u12:AObj)=>(fun (u13:AObj)=>(fun (u14:AObj)=>(fun (u15:AObj)=>(fun (u16:Int)=>(decide ((↑i:Int)<u7)=true->(0<=(↑i:Int)/\(↑i:Int)<u7)/\OpOk Tryd.prog R (Oper.mk (some 67) (Op.load 71 (Operand.tmp 66)) 71 "table.go:316" #[Edge.mk 0 Ground.data] none) (evO [Row.mk (some 66) none (ref 5 (i*2)) false (some []) []] u11 []) u1 g (agg 2 (nth [int i64 u2.rule,u5])) u1 g/\2<=2/\(∀(c:Nat),c<2->nth [int i64 u2.rule,u5] c=al (nth [int i64 0,fz Fz.nil 0 0 fun x x_1=>any]) 0 2 (List.brecOn (motive:=fun (x:List AV)=>Nat->AV) [int i64 u2.rule,u5] nth._f) c)/\1<=2/\(decide (u2.rule >= 0)=true->1<=2/\(0<=u2.rule/\u2.rule<(↑u6:Int))/\Int.toNat u2.rule+1<=u6*1/\1<=2/\(∀(c:Nat),c<2->nth [u10,u5] c=al (nth [int i64 u2.rule,u5]) 0 1 (fun (x:Nat)=>u10) c)/\2<=2/\(true=true/\Does Tryd.prog R 72 [u5,fn 73 0 (nth []) 1 (nth [ref 1 0])] [u9,u12,u3,u13,cells false 27 (aH V),u14,ac on L i 0,ac on L i 1,ac on L i 2,ac on L i 3,ac on L i 4,ac on L i 5,ac on L i 6,ac on L i 7,ac on L i 8,ac on L i 9,ac on L i 10,ac on L i 11,ac on L i 12,ac on L i 13,ac on L i 14,ac on L i 15,ac on L i 16,ac on L i 17,ac on L i 18,ac on L i 19,ac on L i 20,ac on L i 21,ac on L i 22,ac on L i 23,u15,cells false 2 (nth [u10,u5])] g (ret u4) [u9,u12,u3,u13,cells false 27 (aH V),u14,ac on L u8 0,ac on L u8 1,ac on L u8 2,ac on L u8 3,ac on L u8 4,ac on L u8 5,ac on L u8 6,ac on L u8 7,ac on L u8 8,ac on L u8 9,ac on L u8 10,ac on L u8 11,ac on L u8 12,ac on L u8 13,ac on L u8 14,ac on L u8 15,ac on L u8 16,ac on L u8 17,ac on L u8 18,ac on L u8 19,ac on L u8 20,ac on L u8 21,ac on L u8 22,ac on L u8 23,u15,cells false 2 (nth [u10,u5])] g)/\2<=2/\(∀(c:Nat),c<2->nth [u10,u4] c=al (nth [u10,u5]) 1 1 (fun (x:Nat)=>u4) c)/\2<=2/\(decide (u16 > 0)=true->2<=2/\0<2/\(m+1)*32<=aL/\m+1<=aL/\2<=2/\m*2<=m*2/\(∀(c:Nat),c<(m+1)*2->bp on NU L (aQ on L i++[i]) c=aW 2 m (fun (i_1 j:Nat)=>bp on NU L (aQ on L i) (i_1*2+j)) (fun (i j:Nat)=>al (fun (j:Nat)=>nth [int i64 0,fz Fz.nil 0 0 fun x x_1=>any] (j%2)) 0 2 (List.brecOn (motive:=fun (x:List AV)=>Nat->AV) [u10,u4] nth._f) (0+i*2+j)) c)/\(-9223372036854775808<=(↑i:Int)+1/\(↑i:Int)+1<=9223372036854775807)/\Q AEx.normal (St.mk [(1,int i64 goal),(7,ref 1 0),(9,ow true 3 u6 1),(13,ref 4 0),(14,ow true 33 (m+1) 2),(62,ow true 5 (List.length L) 2),(63,int i64 u7),(64,int i64 ((↑i:Int)+1))] [u9,u12,u3,u13,cells false 27 (aH V),u14,ac on L u8 0,ac on L u8 1,ac on L u8 2,ac on L u8 3,ac on L u8 4,ac on L u8 5,ac on L u8 6,ac on L u8 7,ac on L u8 8,ac on L u8 9,ac on L u8 10,ac on L u8 11,ac on L u8 12,ac on L u8 13,ac on L u8 14,ac on L u8 15,ac on L u8 16,ac on L u8 17,ac on L u8 18,ac on L u8 19,ac on L u8 20,ac on L u8 21,ac on L u8 22,ac on L u8 23,dead,cells false 2 (nth [u10,u4]),cells false 2 (al (fun (j:Nat)=>nth [int i64 0,fz Fz.nil 0 0 fun x x_1=>any] (j%2)) 0 2 (List.brecOn (motive:=fun (x:List AV)=>Nat->AV) [u10,u4] nth._f)),cells false ((m+1)*2) (bp on NU L (aQ on L i++[i]))] g))/\(decide (u16 > 0)=false->(-9223372036854775808<=(↑i:Int)+1/\(↑i:Int)+1<=9223372036854775807)/\Q AEx.normal (St.mk [(1,int i64 goal),(7,ref 1 0),(9,ow true 3 u6 1),(13,ref 4 0),(14,ow true 30 m 2),(62,ow true 5 (List.length L) 2),(63,int i64 u7),(64,int i64 ((↑i:Int)+1))] [u9,u12,u3,u13,cells false 27 (aH V),u14,ac on L u8 0,ac on L u8 1,ac on L u8 2,ac on L u8 3,ac on L u8 4,ac on L u8 5,ac on L u8 6,ac on L u8 7,ac on L u8 8,ac on L u8 9,ac on L u8 10,ac on L u8 11,ac on L u8 12,ac on L u8 13,ac on L u8 14,ac on L u8 15,ac on L u8 16,ac on L u8 17,ac on L u8 18,ac on L u8 19,ac on L u8 20,ac on L u8 21,ac on L u8 22,ac on L u8 23,u15,cells false 2 (nth [u10,u4])] g)))/\(decide (u2.rule >= 0)=false->WpC Tryd.prog R 98 0 25 [1,1,1,1,1,1,1,1,0,1,0,0,1,1,0,0,1,0,1,1] Q [Kont.seq [1,1,1,1,1,1,1,1,0,1,0,0,1,1,0,0,1,1],Kont.blk 3,Kont.seq [1,1,1,1,1,1,1,1,0,1,0,0,1,1,1]] (St.mk [(1,int i64 goal),(7,ref 1 0),(9,ow true 3 u6 1),(13,ref 4 0),(14,ow true 30 m 2),(16,ref 31 0),(62,ow true 5 (List.length L) 2),(63,int i64 u7),(64,int i64 (↑i:Int)),(70,AV.bool (decide (u2.rule >= 0)))] [u9,u12,u3,u13,cells false 27 (aH V),u14,ac on L i 0,ac on L i 1,ac on L i 2,ac on L i 3,ac on L i 4,ac on L i 5,ac on L i 6,ac on L i 7,ac on L i 8,ac on L i 9,ac on L i 10,ac on L i 11,ac on L i 12,ac on L i 13,ac on L i 14,ac on L i 15,ac on L i 16,ac on L i 17,ac on L i 18,ac on L i 19,ac on L i 20,ac on L i 21,ac on L i 22,ac on L i 23,u15,cells false 2 (nth [int i64 u2.rule,u5])] g)))/\(decide ((↑i:Int)<u7)=false->Q (AEx.exit 2) (St.mk u11 u1 g))) ((↑(List.length (aT on u2.atoms)):Int))) (cells false (m*2) (bp on NU L (aQ on L i)))) (cells false (List.length L*2) (bS 6 L))) (cells false (u6*1) fun a=>ah NU a)) (cells false 1 fun x=>int u64 (↑on:Int))) ([(1,int i64 goal),(7,ref 1 0),(9,ow true 3 u6 1),(13,ref 4 0),(14,ow true 30 m 2),(62,ow true 5 (List.length L) 2),(63,int i64 u7),(64,int i64 (↑i:Int)),(65,AV.bool (decide ((↑i:Int)<u7)))])) (ah NU (Int.toNat u2.rule))) (cells false 2 (nth [int i64 p.atoms,af p.rules]))) (i+1)) ((↑(List.length L):Int))) (List.length (aF on p.rules.l))) (ow true (6+i) (List.length u2.atoms) 1)) (sl (6+i) 0 (List.length (aT on u2.atoms)) (List.length u2.atoms) false 1)) (cells false 2 (nth [int i64 p.atoms,fz Fz.auto 2 (List.length (az p on).rules.l) fun i=>bz (List.getD (az p on).rules.l i default)]))) (List.getD L i default)) ([cells false 2 (nth [int i64 p.atoms,af p.rules]),cells false 1 fun x=>int u64 (↑on:Int),cells false 2 (nth [int i64 p.atoms,fz Fz.auto 2 (List.length (az p on).rules.l) fun i=>bz (List.getD (az p on).rules.l i default)]),cells false (List.length (aF on p.rules.l)*1) fun a=>ah NU a,cells false 27 (aH V),cells false (List.length L*2) (bS 6 L),ac on L i 0,ac on L i 1,ac on L i 2,ac on L i 3,ac on L i 4,ac on L i 5,ac on L i 6,ac on L i 7,ac on L i 8,ac on L i 9,ac on L i 10,ac on L i 11,ac on L i 12,ac on L i 13,ac on L i 14,ac on L i 15,ac on L i 16,ac on L i 17,ac on L i 18,ac on L i 19,ac on L i 20,ac on L i 21,ac on L i 22,ac on L i 23,cells false (m*2) (bp on NU L (aQ on L i))])) ⟨fun c1=>have c1:(↑i:Int)<(↑(List.length L):Int):=(of_decide_eq_true c1);⟨omg,?_,omg,(fun c hc=>match c,hc with|0,_=>krf|1,_=>krf ),omg,fun _=>⟨omg,omg,omg,omg,(fun c hc=>match c,hc with|0,_=>krf|1,_=>krf ),omg,?_,omg,(fun c hc=>match c,hc with|0,_=>krf|1,_=>krf ),omg,fun c2=>have c2:(↑(List.length (aT on (List.getD L i default).atoms)):Int) > 0:=(of_decide_eq_true c2);⟨omg,omg,omg,omg,omg,omg,?_,omg,?_⟩,fun c2=>have c2:¬(↑(List.length (aT on (List.getD L i default).atoms)):Int) > 0:=(of_decide_eq_false c2);⟨omg,?_⟩⟩,fun hcc=>(nomatch (hge.symm.trans hcc))⟩,fun c1=>have c1:¬(↑i:Int)<(↑(List.length L):Int):=(of_decide_eq_false c1);?_⟩
      ·exact pz rfl rfl krf rfl (by show i*2+2<=L.length*2;omega) re
      ·exact⟨rfl,rd R on L i _ _ _ _ _ _ _ omg hlt ⟨o2,omg⟩ o4 g⟩
      ·intro c hc
       rw[hm] at hc ⊢
       exact(rf (on:=on) (nums:=NU) (l:=L) (q:=aQ on L i) (i:=i) (z:=fun j=>nth [.int .i64 0,.fz .nil 0 0 fun _ _=>.any] (j%2)) hc).trans (by rw[har];kernel_rfl)
      ·have hsc:=kS (on:=on) (l:=L) (i:=i)
       rw[if_pos (show 0<(aT on (L.getD i default).atoms).length by omega)] at hsc
       have hm2:m+1=(aQ on L (i+1)).length:=by rw[hsc,List.length_append,<-hm];rfl
       refine aY (i+1,m+1) (toS (gt 33) 34 (hob:=kT hL24 omg hm2 (by rw[hsc];rfl))) ⟨by show i+1<=_;omega,hm2⟩ (by show L.length-(i+1)<L.length-i;omega)
      ·have hsc:=kS (on:=on) (l:=L) (i:=i)
       rw[if_neg (show ¬0<(aT on (L.getD i default).atoms).length by omega)] at hsc
       have hm2:m=(aQ on L (i+1)).length:=by rw[hsc,<-hm]
       refine aY (i+1,m) (toS (gt 30) 32 (hob:=kT hL24 omg hm2 (by rw[hsc];rfl))) ⟨by show i+1<=_;omega,hm2⟩ (by show L.length-(i+1)<L.length-i;omega)
      ·exfalso;omega
     ·have hge:decide ((L.getD i default).rule >= 0)=false:=decide_eq_false omg
      have har:gr NU (L.getD i default)=(L.getD i default).rule:=if_neg hru
      refine vcR [[1,1,1,1,1,1,1,1,0,1,0,0,1,1,0,0,1,0,1,0]] (lkL [(16,[1,7,9,13,14,62,63,64,65]),(17,[1,7,9,13,14,16,62,63,64]),(18,[1,7,9,13,14,16,62,63,64,70]),(20,[1,7,9,13,14,16,62,63,64]),(21,[1,7,9,13,14,16,62,63,64,85]),(22,[1,7,9,13,14,62,63,64]),(23,[1,7,9,13,14,62,63,64])]) (lkL [(17,[(1,ROrc.kop (agg 2 (nth [int i64 (List.getD L i default).rule,ow true (6+i) (List.length (List.getD L i default).atoms) 1]))),(3,ROrc.val (Orc.obj (nth [int i64 (List.getD L i default).rule,ow true (6+i) (List.length (List.getD L i default).atoms) 1])))]),(20,[(3,ROrc.call (sl (6+i) 0 (List.length (aT on (List.getD L i default).atoms)) (List.length (List.getD L i default).atoms) false 1) (cells false 2 (nth [int i64 p.atoms,af p.rules])::(cells false 1 fun (x:Nat)=>int u64 (↑on:Int))::cells false 2 (nth [int i64 p.atoms,af (az p on).rules])::cells false (List.length (aF on p.rules.l)*1) (ah NU)::cells false 27 (aH V)::cells false (List.length L*2) (bS 6 L)::bv (ac on L (i+1)) [cells false (m*2) (bp on NU L (aQ on L i)),cells false 2 (nth [int i64 (List.getD L i default).rule,ow true (6+i) (List.length (List.getD L i default).atoms) 1])]) g),(5,ROrc.val (Orc.obj (nth [int i64 (List.getD L i default).rule,sl (6+i) 0 (List.length (aT on (List.getD L i default).atoms)) (List.length (List.getD L i default).atoms) false 1])))]),(22,[(3,ROrc.val (Orc.obj (bp on NU L (aQ on L i++[i]))))])]) (fun Q=>(fun (u1:List AObj)=>(fun (u2:List AObj)=>(fun (u3:Stp)=>(fun (u4:AV)=>(fun (u5:Int)=>(fun (u6:AObj)=>(fun (u7:List (Nat × AV))=>(fun (u8:List AV)=>(fun (u9:Nat)=>(fun (u10:Nat)=>(fun (u11:Int)=>(fun (u12:Int)=>(fun (u13:AObj)=>(fun (u14:AObj)=>(fun (u15:List AV)=>(fun (u16:AObj)=>(decide (u12<u5)=true->(0<=u12/\u12<u5)/\OpOk Tryd.prog R (Oper.mk (some 67) (Op.load 71 (Operand.tmp 66)) 71 "table.go:316" #[Edge.mk 0 Ground.data] none) (evO [Row.mk (some 66) none (ref 5 (i*2)) false (some []) []] u7 []) u1 g (agg 2 (nth u8)) u1 g/\2<=2/\(∀(c:Nat),c<2->nth u8 c=al (nth u15) 0 2 (List.brecOn (motive:=fun (x:List AV)=>Nat->AV) u8 nth._f) c)/\1<=2/\(decide (u3.rule >= 0)=true->WpC Tryd.prog R 98 0 25 [1,1,1,1,1,1,1,1,0,1,0,0,1,1,0,0,1,0,1,0] Q [Kont.seq [1,1,1,1,1,1,1,1,0,1,0,0,1,1,0,0,1,1],Kont.blk 3,Kont.seq [1,1,1,1,1,1,1,1,0,1,0,0,1,1,1]] (St.mk [(1,int i64 goal),(7,ref 1 0),(9,ow true 3 u10 1),(13,ref 4 0),(14,ow true 30 m 2),(16,ref 31 0),(62,ow true 5 (List.length L) 2),(63,int i64 u5),(64,int i64 u12),(70,AV.bool (decide (u3.rule >= 0)))] u2 g))/\(decide (u3.rule >= 0)=false->2<=2/\(true=true/\Does Tryd.prog R 72 [ow true (6+i) (List.length u3.atoms) 1,fn 73 0 (nth []) 1 (nth [ref 1 0])] u2 g (ret u4) [u13,u14,u6,u16,cells false 27 (aH V),cells false (List.length L*2) (bS 6 L),ac on L u9 0,ac on L u9 1,ac on L u9 2,ac on L u9 3,ac on L u9 4,ac on L u9 5,ac on L u9 6,ac on L u9 7,ac on L u9 8,ac on L u9 9,ac on L u9 10,ac on L u9 11,ac on L u9 12,ac on L u9 13,ac on L u9 14,ac on L u9 15,ac on L u9 16,ac on L u9 17,ac on L u9 18,ac on L u9 19,ac on L u9 20,ac on L u9 21,ac on L u9 22,ac on L u9 23,cells false (m*2) (bp on NU L (aQ on L i)),cells false 2 (nth u8)] g)/\2<=2/\(∀(c:Nat),c<2->nth [int i64 u3.rule,u4] c=al (nth u8) 1 1 (fun (x:Nat)=>u4) c)/\2<=2/\(decide (u11 > 0)=true->2<=2/\0<2/\(m+1)*32<=aL/\m+1<=aL/\2<=2/\m*2<=m*2/\(∀(c:Nat),c<(m+1)*2->bp on NU L (aQ on L i++[i]) c=aW 2 m (fun (i_1 j:Nat)=>bp on NU L (aQ on L i) (i_1*2+j)) (fun (i j:Nat)=>al (fun (j:Nat)=>nth u15 (j%2)) 0 2 (List.brecOn (motive:=fun (x:List AV)=>Nat->AV) [int i64 u3.rule,u4] nth._f) (0+i*2+j)) c)/\(-9223372036854775808<=u12+1/\u12+1<=9223372036854775807)/\Q AEx.normal (St.mk [(1,int i64 goal),(7,ref 1 0),(9,ow true 3 u10 1),(13,ref 4 0),(14,ow true 33 (m+1) 2),(62,ow true 5 (List.length L) 2),(63,int i64 u5),(64,int i64 (u12+1))] [u13,u14,u6,u16,cells false 27 (aH V),cells false (List.length L*2) (bS 6 L),ac on L u9 0,ac on L u9 1,ac on L u9 2,ac on L u9 3,ac on L u9 4,ac on L u9 5,ac on L u9 6,ac on L u9 7,ac on L u9 8,ac on L u9 9,ac on L u9 10,ac on L u9 11,ac on L u9 12,ac on L u9 13,ac on L u9 14,ac on L u9 15,ac on L u9 16,ac on L u9 17,ac on L u9 18,ac on L u9 19,ac on L u9 20,ac on L u9 21,ac on L u9 22,ac on L u9 23,dead,cells false 2 (nth [int i64 u3.rule,u4]),cells false 2 (al (fun (j:Nat)=>nth u15 (j%2)) 0 2 (List.brecOn (motive:=fun (x:List AV)=>Nat->AV) [int i64 u3.rule,u4] nth._f)),cells false ((m+1)*2) (bp on NU L (aQ on L i++[i]))] g))/\(decide (u11 > 0)=false->(-9223372036854775808<=u12+1/\u12+1<=9223372036854775807)/\Q AEx.normal (St.mk [(1,int i64 goal),(7,ref 1 0),(9,ow true 3 u10 1),(13,ref 4 0),(14,ow true 30 m 2),(62,ow true 5 (List.length L) 2),(63,int i64 u5),(64,int i64 (u12+1))] [u13,u14,u6,u16,cells false 27 (aH V),cells false (List.length L*2) (bS 6 L),ac on L u9 0,ac on L u9 1,ac on L u9 2,ac on L u9 3,ac on L u9 4,ac on L u9 5,ac on L u9 6,ac on L u9 7,ac on L u9 8,ac on L u9 9,ac on L u9 10,ac on L u9 11,ac on L u9 12,ac on L u9 13,ac on L u9 14,ac on L u9 15,ac on L u9 16,ac on L u9 17,ac on L u9 18,ac on L u9 19,ac on L u9 20,ac on L u9 21,ac on L u9 22,ac on L u9 23,cells false (m*2) (bp on NU L (aQ on L i)),cells false 2 (nth [int i64 u3.rule,u4])] g))))/\(decide (u12<u5)=false->Q (AEx.exit 2) (St.mk u7 u1 g))) (cells false (u10*1) fun a=>ah NU a)) ([int i64 0,fz Fz.nil 0 0 fun x x_1=>any])) (cells false 1 fun x=>int u64 (↑on:Int))) (cells false 2 (nth [int i64 p.atoms,af p.rules]))) ((↑i:Int))) ((↑(List.length (aT on u3.atoms)):Int))) (List.length (aF on p.rules.l))) (i+1)) ([int i64 u3.rule,ow true (6+i) (List.length u3.atoms) 1])) ([(1,int i64 goal),(7,ref 1 0),(9,ow true 3 (List.length (aF on p.rules.l)) 1),(13,ref 4 0),(14,ow true 30 m 2),(62,ow true 5 (List.length L) 2),(63,int i64 u5),(64,int i64 (↑i:Int)),(65,AV.bool (decide ((↑i:Int)<u5)))])) (cells false 2 (nth [int i64 p.atoms,fz Fz.auto 2 (List.length (az p on).rules.l) fun i=>bz (List.getD (az p on).rules.l i default)]))) ((↑(List.length L):Int))) (sl (6+i) 0 (List.length (aT on u3.atoms)) (List.length u3.atoms) false 1)) (List.getD L i default)) ([cells false 2 (nth [int i64 p.atoms,af p.rules]),cells false 1 fun x=>int u64 (↑on:Int),cells false 2 (nth [int i64 p.atoms,fz Fz.auto 2 (List.length (az p on).rules.l) fun i=>bz (List.getD (az p on).rules.l i default)]),cells false (List.length (aF on p.rules.l)*1) fun a=>ah NU a,cells false 27 (aH V),cells false (List.length L*2) (bS 6 L),ac on L i 0,ac on L i 1,ac on L i 2,ac on L i 3,ac on L i 4,ac on L i 5,ac on L i 6,ac on L i 7,ac on L i 8,ac on L i 9,ac on L i 10,ac on L i 11,ac on L i 12,ac on L i 13,ac on L i 14,ac on L i 15,ac on L i 16,ac on L i 17,ac on L i 18,ac on L i 19,ac on L i 20,ac on L i 21,ac on L i 22,ac on L i 23,cells false (m*2) (bp on NU L (aQ on L i)),cells false 2 (nth [int i64 (List.getD L i default).rule,ow true (6+i) (List.length (List.getD L i default).atoms) 1])])) ([cells false 2 (nth [int i64 p.atoms,af p.rules]),cells false 1 fun x=>int u64 (↑on:Int),cells false 2 (nth [int i64 p.atoms,fz Fz.auto 2 (List.length (az p on).rules.l) fun i=>bz (List.getD (az p on).rules.l i default)]),cells false (List.length (aF on p.rules.l)*1) fun a=>ah NU a,cells false 27 (aH V),cells false (List.length L*2) (bS 6 L),ac on L i 0,ac on L i 1,ac on L i 2,ac on L i 3,ac on L i 4,ac on L i 5,ac on L i 6,ac on L i 7,ac on L i 8,ac on L i 9,ac on L i 10,ac on L i 11,ac on L i 12,ac on L i 13,ac on L i 14,ac on L i 15,ac on L i 16,ac on L i 17,ac on L i 18,ac on L i 19,ac on L i 20,ac on L i 21,ac on L i 22,ac on L i 23,cells false (m*2) (bp on NU L (aQ on L i))])) ⟨fun c1=>have c1:(↑i:Int)<(↑(List.length L):Int):=(of_decide_eq_true c1);⟨omg,?_,omg,(fun c hc=>match c,hc with|0,_=>krf|1,_=>krf ),omg,fun hcc=>(nomatch (hge.symm.trans hcc)),fun _=>⟨omg,?_,omg,(fun c hc=>match c,hc with|0,_=>krf|1,_=>krf ),omg,fun c2=>have c2:(↑(List.length (aT on (List.getD L i default).atoms)):Int) > 0:=(of_decide_eq_true c2);⟨omg,omg,omg,omg,omg,omg,?_,omg,?_⟩,fun c2=>have c2:¬(↑(List.length (aT on (List.getD L i default).atoms)):Int) > 0:=(of_decide_eq_false c2);⟨omg,?_⟩⟩⟩,fun c1=>have c1:¬(↑i:Int)<(↑(List.length L):Int):=(of_decide_eq_false c1);?_⟩
      ·exact pz rfl rfl krf rfl (by show i*2+2<=L.length*2;omega) re
      ·exact⟨rfl,rd R on L i _ _ _ _ _ _ _ omg hlt ⟨o2,omg⟩ o4 g⟩
      ·intro c hc
       rw[hm] at hc ⊢
       exact(rf (on:=on) (nums:=NU) (l:=L) (q:=aQ on L i) (i:=i) (z:=fun j=>nth [.int .i64 0,.fz .nil 0 0 fun _ _=>.any] (j%2)) hc).trans (by rw[har];kernel_rfl)
      ·have hsc:=kS (on:=on) (l:=L) (i:=i)
       rw[if_pos (show 0<(aT on (L.getD i default).atoms).length by omega)] at hsc
       have hm2:m+1=(aQ on L (i+1)).length:=by rw[hsc,List.length_append,<-hm];rfl
       refine aY (i+1,m+1) (toS (gt 33) 34 (hob:=kT hL24 omg hm2 (by rw[hsc];rfl))) ⟨by show i+1<=_;omega,hm2⟩ (by show L.length-(i+1)<L.length-i;omega)
      ·have hsc:=kS (on:=on) (l:=L) (i:=i)
       rw[if_neg (show ¬0<(aT on (L.getD i default).atoms).length by omega)] at hsc
       have hm2:m=(aQ on L (i+1)).length:=by rw[hsc,<-hm]
       refine aY (i+1,m) (toS (gt 30) 32 (hob:=kT hL24 omg hm2 (by rw[hsc];rfl))) ⟨by show i+1<=_;omega,hm2⟩ (by show L.length-(i+1)<L.length-i;omega)
      ·exfalso;omega
    ·have hie:i=L.length:=by omega
     subst hie
     have hbb2:decide ((L.length:Int)<(L.length:Int))=false:=decide_eq_false omg
     refine vcR [[1,1,1,1,1,1,1,1,0,1,0,0,1,0,0]] (lkL [(16,[1,7,9,13,14,62,63,64,65])]) (fun _=>[]) (fun Q=>(fun (u1:St R.σ)=>(fun (u2:Int)=>(decide (u2<u2)=true->WpC Tryd.prog R 98 0 25 [1,1,1,1,1,1,1,1,0,1,0,0,1,0,0] Q [Kont.seq [1,1,1,1,1,1,1,1,0,1,0,0,1,1]] u1)/\(decide (u2<u2)=false->Q (AEx.exit 2) u1)) ((↑(List.length L):Int))) (St.mk [(1,int i64 goal),(7,ref 1 0),(9,ow true 3 (List.length (aF on p.rules.l)) 1),(13,ref 4 0),(14,ow true 30 m 2),(62,ow true 5 (List.length L) 2),(63,int i64 (↑(List.length L):Int)),(64,int i64 (↑(List.length L):Int)),(65,AV.bool (decide ((↑(List.length L):Int)<(↑(List.length L):Int))))] [cells false 2 (nth [int i64 p.atoms,af p.rules]),cells false 1 fun x=>int u64 (↑on:Int),cells false 2 (nth [int i64 p.atoms,fz Fz.auto 2 (List.length (az p on).rules.l) fun i=>bz (List.getD (az p on).rules.l i default)]),cells false (List.length (aF on p.rules.l)*1) fun a=>ah NU a,cells false 27 (aH V),cells false (List.length L*2) (bS 6 L),ac on L (List.length L) 0,ac on L (List.length L) 1,ac on L (List.length L) 2,ac on L (List.length L) 3,ac on L (List.length L) 4,ac on L (List.length L) 5,ac on L (List.length L) 6,ac on L (List.length L) 7,ac on L (List.length L) 8,ac on L (List.length L) 9,ac on L (List.length L) 10,ac on L (List.length L) 11,ac on L (List.length L) 12,ac on L (List.length L) 13,ac on L (List.length L) 14,ac on L (List.length L) 15,ac on L (List.length L) 16,ac on L (List.length L) 17,ac on L (List.length L) 18,ac on L (List.length L) 19,ac on L (List.length L) 20,ac on L (List.length L) 21,ac on L (List.length L) 22,ac on L (List.length L) 23,cells false (m*2) (bp on NU L (aQ on L (List.length L)))] g)) ⟨fun hcc=>(nomatch (hbb2.symm.trans hcc)),fun _=>?_⟩
     all_goals first|(exfalso;rw[hbb2] at c1;cases c1)|skip
     refine⟨_,yG _,vcR [] (lkL [(24,[4,5,6])]) (lkL [(24,[(5,ROrc.kop (int i64 (V (Int.toNat goal))))])]) (fun Q=>(fun (u1:List AObj)=>(fun (u2:Int)=>(0<=goal/\goal<(↑24:Int))/\OpOk Tryd.prog R (Oper.mk (some 96) (Op.load 43 (Operand.tmp 95)) 43 "table.go:325" #[Edge.mk 4 Ground.data] none) (evO [Row.mk (some 95) none (ref 4 (Int.toNat goal+2)) false (some []) [],Row.mk (some 94) none (ref 4 2) false (some []) [],Row.mk (some 93) none (ref 4 0) false (some []) [],Row.mk (some 92) none (int i64 goal) false (some []) [],Row.mk (some 91) none (ref 4 0) false (some []) []] [(1,int i64 goal),(7,ref 1 0),(9,ow true 3 (List.length (aF on p.rules.l)) 1),(13,ref 4 0),(14,ow true 30 m 2),(62,ow true 5 (List.length L) 2),(63,int i64 u2),(64,int i64 u2),(65,AV.bool (decide (u2<u2)))] []) u1 g (int i64 (V (Int.toNat goal))) u1 g/\Q AEx.ret (St.mk [(4,int i64 (V (Int.toNat goal))),(5,ow true 30 m 2),(6,int i64 0)] u1 g)) ((↑(List.length L):Int))) ([cells false 2 (nth [int i64 p.atoms,af p.rules]),cells false 1 fun x=>int u64 (↑on:Int),cells false 2 (nth [int i64 p.atoms,fz Fz.auto 2 (List.length (az p on).rules.l) fun i=>bz (List.getD (az p on).rules.l i default)]),cells false (List.length (aF on p.rules.l)*1) fun a=>ah NU a,cells false 27 (aH V),cells false (List.length L*2) (bS 6 L),ac on L (List.length L) 0,ac on L (List.length L) 1,ac on L (List.length L) 2,ac on L (List.length L) 3,ac on L (List.length L) 4,ac on L (List.length L) 5,ac on L (List.length L) 6,ac on L (List.length L) 7,ac on L (List.length L) 8,ac on L (List.length L) 9,ac on L (List.length L) 10,ac on L (List.length L) 11,ac on L (List.length L) 12,ac on L (List.length L) 13,ac on L (List.length L) 14,ac on L (List.length L) 15,ac on L (List.length L) 16,ac on L (List.length L) 17,ac on L (List.length L) 18,ac on L (List.length L) 19,ac on L (List.length L) 20,ac on L (List.length L) 21,ac on L (List.length L) 22,ac on L (List.length L) 23,cells false (m*2) (bp on NU L (aQ on L (List.length L)))])) ⟨omg,?_,?_⟩⟩
     ·exact dD rfl rfl krf rfl (by show _+1<=27;omega) (m7 omg omg)
     ·show bw Tryd.prog R 0 _ _ _ _ .ret _
      refine eU (.tup 3 (nth [.int .i64 (V goal.toNat),.ow true 30 m 2,.int .i64 0])) _ rfl trivial (i3 0 [(0,.tup 3 (nth [.int .i64 (V goal.toNat),ay (dw on NU L),.int .i64 0]))] (Nat.le_refl _) (Nat.zero_le _) (fun i hi=>absurd hi (Nat.not_lt_zero i)) ⟨aA.tup (fun j hj=>match j,hj with|0,_=>yB trivial|1,_=>?_|2,_=>yB trivial),trivial⟩)
      exact wV hm hL24 rfl (fun k hk=>(ju omg).trans rfl)
def hpD (p:Prg)(v:Nat->Int)(es:List (Value × AV))(c:Nat->AV):List AObj:=[.cells false 27 (ad p v (.mp 1)),.map es,.cells false 1 c]
theorem nl (R:Res)(p:Prg)(v:Nat->Int)(es:List (Value × AV))(c:Nat->AV)(g:R.σ):DoesD Tryd.prog R 100 [.ref 2 0] (hpD p v es c) g (some (.ifc 145 (.agg 0 (nth [])))) (hpD p v es (nth [.bool false])) g:=by
 refine ph (nt:=br Tryd.prog 100) (rs:=co Tryd.prog 100) (k0:=3) 4 1 krf krf krf rfl krf dcd dcd dcd dcd dcd ?_
 refine vcR [[1,1,0,0,1,1,0],[1,1,1]] (lkL [(1,[0,1,6]),(2,[0,1,3]),(3,[0,1,13])]) (lkL [(2,[(6,ROrc.kop any)]),(5,[(0,ROrc.val (Orc.obj (nth [AV.bool false])))])]) (fun Q=>(fun (u1:List AObj)=>(fun (u2:AV)=>(true=true->OpOk Tryd.prog R (Oper.mk none (Op.store 145 (Operand.tmp 2) (Operand.tmp 10)) 0 "table.go:214" #[Edge.mk 5 Ground.data,Edge.mk 3 Ground.data,Edge.mk 0 Ground.phase,Edge.mk 1 Ground.phase,Edge.mk 2 Ground.phase,Edge.mk 3 Ground.phase,Edge.mk 4 (Ground.textOnly Departure.lateStores),Edge.mk 5 Ground.phase] none) (evO [Row.mk (some 2) none (ref 3 0) true (some [3]) [],Row.mk (some 11) none (AV.bool true) false (some []) [],Row.mk (some 10) none u2 false (some []) [],Row.mk (some 7) none (tup 2 (nth [u2,AV.bool true])) false (some []) [],Row.mk (some 9) none (tup 2 (nth [u2,AV.bool true])) false (some []) [],Row.mk (some 8) none (ifc 145 u2) false (some []) []] [(0,ref 2 0),(1,ifc 145 u2),(6,AV.bool true)] []) u1 g any u1 g/\(false=true->Wp Tryd.prog R (br Tryd.prog 100) 3 Rd.no (aw Tryd.prog 100) [1,1,0,0,1,1,0] (aO Tryd.prog R (br Tryd.prog 100) 3 Rd.no (aw Tryd.prog 100) Q [Kont.seq [1,1,0,1]]) (St.mk [(0,ref 2 0),(1,ifc 145 u2),(13,AV.bool false)] u1 g))/\(false=false->1<=1/\(∀(c_1:Nat),c_1<1->nth [AV.bool false] c_1=al c 0 1 (fun (x:Nat)=>AV.bool false) c_1)/\Q AEx.normal (St.mk [] [cells false 27 (ad p v (AV.mp 1)),AObj.map es,cells false 1 (nth [AV.bool false]),cells false 0 (nth [])] g)))/\(true=false->Wp Tryd.prog R (br Tryd.prog 100) 3 Rd.no (aw Tryd.prog 100) [1,1,1] (aO Tryd.prog R (br Tryd.prog 100) 3 Rd.no (aw Tryd.prog 100) Q []) (St.mk [(0,ref 2 0),(1,ifc 145 u2),(6,AV.bool true)] [cells false 27 (ad p v (AV.mp 1)),AObj.map es,cells false 1 c] g))) (agg 0 (nth []))) ([cells false 27 (ad p v (AV.mp 1)),AObj.map es,cells false 1 c,cells false 0 (nth [])])) ⟨fun _=>⟨?_,fun h=>(nomatch h),fun _=>⟨omg,(fun c hc=>match c,hc with|0,_=>krf ),?_⟩⟩,fun h=>(nomatch h)⟩
 ·exact uC rfl rfl rfl krf
 ·refine(av (bO 3 _ _ rfl trivial omg trivial ⟨(fun _ _=>(by first|exact trivial|apply aP)),(fun j hj=>match j,hj with|0,_=>trivial ),trivial⟩ krf rfl rfl) (yu _))
theorem rh (R:Res)(p:Prg)(v:Nat->Int)(es:List (Value × AV))(c:Nat->AV)(g:R.σ):DoesD Tryd.prog R 100 [.ref 2 0] (hpD p v es c) g none (hpD p v es c) g:=by
 refine ph (nt:=br Tryd.prog 100) (rs:=co Tryd.prog 100) (k0:=3) 4 1 krf krf krf rfl krf dcd dcd dcd dcd dcd ?_
 refine vcR [[1,1,0]] (lkL [(1,[0,1,6])]) (lkL [(1,[(1,ROrc.own (AV.bool false) (hpD p v es c) g)])]) (fun Q=>(fun (u1:List AObj)=>(fun (u2:St R.σ)=>OpOk Tryd.prog R (Oper.mk (some 6) (Op.binOp BinOp.neq 20 (Operand.tmp 5) (Operand.const Value.nilIface) 20) 4 "table.go:213" #[Edge.mk 0 Ground.data] none) (evO [Row.mk (some 5) none AV.nili false (some []) []] [(1,AV.nili),(0,ref 2 0)] []) u1 g (AV.bool false) u1 g/\(false=true->Wp Tryd.prog R (br Tryd.prog 100) 3 Rd.no (aw Tryd.prog 100) [1,1,0] (aO Tryd.prog R (br Tryd.prog 100) 3 Rd.no (aw Tryd.prog 100) Q []) u2)/\(false=false->Q AEx.normal u2)) (St.mk [(0,ref 2 0),(1,AV.nili),(6,AV.bool false)] u1 g)) ([cells false 27 (ad p v (AV.mp 1)),AObj.map es,cells false 1 c])) ⟨?_,fun h=>(nomatch h),fun _=>?_⟩
 ·exact tP (ms:=#[]) rfl rfl rfl krf
 ·refine(av (aS _ _ rfl trivial rfl rfl rfl) (yu _))
theorem wW (R:Res)(p:Prg)(v:Nat->Int)(es:List (Value × AV))(s:Step)(n:Nat)(c:Nat->AV)(hl:p.rules.l.length<1000000)(hr:∀r,r∈p.rules.l->aK r)(h:cV p v s=false)(g:R.σ):Does Tryd.prog R 141 [bb s,.ref 0 0] [.cells false 27 (ad p v (.mp 1)),.map es,.cells false n c] g (.pan (.ifc 145 (.agg 0 (nth [])))) [.cells false 27 (ad p v (.mp 1)),.map es,.cells false n c] g:=
 eV [0,1] 3 (fun R g=>qn R p v es s hl hr h g) rfl rfl rfl ⟨yE (fun j hj=>(bP (f:=ar [0,1] 3) rfl).symm),rfl,trivial⟩ (by exact⟨dcd,trivial⟩) ⟨bj (by exact⟨⟨trivial,trivial⟩,trivial⟩),yu _,trivial⟩ (yv (by rfl)) ⟨yE (fun j hj=>bP rfl),rfl,yx _,trivial⟩
theorem wX (R:Res)(p:Prg)(v:Nat->Int)(es:List (Value × AV))(s:Step)(hl:p.rules.l.length<1000000)(hr:∀r,r∈p.rules.l->aK r)(h:cV p v s=false)(g:R.σ):Does Tryd.prog R 67 [.ref 0 0,.ifc 149 (bb s)] [.cells false 27 (ad p v (.mp 1)),.map es] g (.ret (.bool false)) [.cells false 27 (ad p v (.mp 1)),.map es] g:=by
 refine iU (K:=100) (nt:=br Tryd.prog 67) (rs:=co Tryd.prog 67) (k0:=2) 5 [4] krf krf krf rfl krf krf dcd dcd ?_
 refine vcR [] (lkL [(0,[0,1,4])]) (fun _=>[]) (fun (Q:AEx->St R.σ->Prop)=>Q AEx.normal (St.mk [(0,ref 0 0),(1,ifc 149 (agg 2 (nth [int i64 s.rule,fz s.atoms.2 1 (List.length s.atoms.l) fun (i x:Nat)=>ah s.atoms.l i]))),(4,ref 2 0)] [cells false 27 (ad p v (AV.mp 1)),AObj.map es,cells false 1 fun (a:Nat)=>AV.bool false] g)) (?_)
 refine iV 3 [.ref 2 0] rfl rfl rfl ?_
 have hD:=fun (R:Res) (n:Nat) (c:Nat->AV) (g:R.σ)=>wW R p v es s n c hl hr h g
 refine vcR [] (lkL [(2,[4])]) (lkL [(2,[(2,ROrc.ipan (ifc 145 (agg 0 (nth []))) [cells false 27 (ad p v (AV.mp 1)),AObj.map es,cells false 1 fun (a:Nat)=>AV.bool false] g)])]) (fun Q=>(fun (u1:List AObj)=>(true=true/\true=true/\Does Tryd.prog R 141 [agg 2 (nth [int i64 s.rule,fz s.atoms.2 1 (List.length s.atoms.l) fun i x=>ah s.atoms.l i]),ref 0 0] u1 g (Oc.pan (ifc 145 (agg 0 (nth [])))) u1 g)/\Q (AEx.pan (ifc 145 (agg 0 (nth [])))) (St.mk [(4,ref 2 0)] u1 g)) ([cells false 27 (ad p v (AV.mp 1)),AObj.map es,cells false 1 fun a=>AV.bool false])) ⟨⟨krf,rfl,(hD _ _ _ _)⟩,?_⟩
 refine⟨_,_,nl R p v es _ g,?_⟩
 refine(av (bO 2 (AV.bool false) ([0+(TyI.mk (TypeInfo.mk TypeDesc.bool "bool" 1 1 false 1 1 (some (Value.bool false)) true #[]).desc Tryd.prog.types[4].size Tryd.prog.types[4].bytes (bT (cO (Value.bool false))) (cq (TypeInfo.mk TypeDesc.bool "bool" 1 1 false 1 1 (some (Value.bool false)) true #[]).desc) (dk Tryd.prog 4)).size<=1]) krf (by exact⟨dcd,trivial⟩) omg trivial ⟨(fun _ _=>(by first|exact trivial|apply aP)),trivial⟩ krf rfl rfl) (yu _))
theorem wY {s:Step}(h:s.rule ≠ -1):cL s=.ifc 149 (bb s):=if_neg h
theorem wZ (R:Res)(s:Step)(h:s.rule ≠ -1)(hp:List AObj)(g:R.σ):Does Tryd.prog R 68 [bb s] hp g (.ret (.ifc 149 (bb s))) hp g:=by
 rw[<-wY h]
 exact kz R s hp g
theorem w9 (R:Res)(p:Prg)(v:Nat->Int)(es:List (Value × AV))(s:Step)(n0 n3:Nat)(c0 c3:Nat->AV)(hl:p.rules.l.length<1000000)(hr:∀r,r∈p.rules.l->aK r)(h:cV p v s=false)(g:R.σ):Does Tryd.prog R 67 [.ref 1 0,.ifc 149 (bb s)] [.cells false n0 c0,.cells false 27 (ad p v (.mp 2)),.map es,.cells false n3 c3] g (.ret (.bool false)) [.cells false n0 c0,.cells false 27 (ad p v (.mp 2)),.map es,.cells false n3 c3] g:=
 eV [1,2] 4 (fun R g=>wX R p v es s hl hr h g) rfl rfl rfl ⟨yE (fun j hj=>(bP (f:=ar [1,2] 4) rfl).symm),rfl,trivial⟩ (by exact⟨dcd,trivial⟩) ⟨yu _,bj (by exact⟨⟨trivial,trivial⟩,trivial⟩),trivial⟩ (yu _) ⟨yx _,yE (fun j hj=>bP rfl),rfl,yx _,trivial⟩
theorem xa (R:Res)[Tab LT R](p:Prg)(l:KL Step)(hb:aJ p=true)(hll:0<l.l.length/\l.l.length<1000000)(h1:(l.l.getD 0 default).rule ≠ -1)(h2:cV p (fun _=>3) (l.l.getD 0 default)=false)(g:R.σ):Does Tryd.prog R 23 [aq p,ay l] [] g (.ret (.tup 2 (nth [.int .i64 0,.int .i64 7]))) [] g:=by
 obtain⟨hl,hr,hp,hh,hx⟩:=fe hb
 have hs:d9 p:=ff hb
 have hp':1<=p.atoms/\p.atoms<=24:=hp
 refine spW (nt:=28) (rs:=[.tmp 4,.tmp 5]) (k0:=0) ?_
 have hc:((if aJ p then(0:Int) else 2) != 0)=false:=by
  rw[hb]
  rfl
 refine vcR [[1,0,1,0]] (lkL [(0,[1,2]),(1,[1,2,11]),(3,[1,6]),(4,[6,14,15,16])]) (lkL [(1,[(1,ROrc.pcall (int i64 (if aJ p=true then 0 else 2)))]),(3,[(1,ROrc.call (ref 1 0) [cells false 2 (nth [int i64 p.atoms,af p.rules]),cells false 27 (ad p (fun (x:Nat)=>3) (AV.mp 2)),AObj.map (esF p.rules.l)] g)])]) (fun Q=>(fun (u1:AObj)=>(fun (u2:Int)=>(fun (u3:List AObj)=>2<=2/\(∀(hp:List AObj) (g:R.σ),true=true/\Does Tryd.prog R 16 [aq p] hp g (ret (int i64 u2)) hp g)/\((u2 != 0)=true->WpC Tryd.prog R 28 0 23 [1,0,1,0] Q [Kont.seq [1,1]] (St.mk [(1,ay l),(2,ref 0 0),(11,AV.bool (u2 != 0))] [u1] g))/\((u2 != 0)=false->2<=2/\(true=true/\Does Tryd.prog R 66 [aq p] [u1] g (ret (ref 1 0)) u3 g)/\WpC Tryd.prog R 28 0 23 [1,1,1,0,1,0] Q [Kont.blk 0,Kont.seq [1,1,1,1]] (St.mk [(6,ref 1 0),(14,ay l),(15,int i64 (↑(List.length l.l):Int)),(16,int i64 0)] u3 g))) ([u1,cells false 27 (ad p (fun (x:Nat)=>3) (AV.mp 2)),AObj.map (esF p.rules.l)])) (if aJ p=true then 0 else 2)) (cells false 2 (nth [int i64 p.atoms,af p.rules]))) ⟨omg,(fun _ _=>⟨rfl,(e8 _ _ _ _ omg)⟩),fun hcc=>(nomatch (hc.symm.trans hcc)),fun _=>⟨omg,⟨rfl,(kL _ _ _ omg omg _)⟩,?_⟩⟩
 refine(bq krf (fun (i:Nat)=>⟨[(6,ref 1 0),(14,ay l),(15,int i64 (l.l.length:Int)),(16,.int .i64 i)],[.cells false 2 (nth [.int .i64 p.atoms,af p.rules]),.cells false 27 (ad p (fun _=>3) (.mp 2)),.map (esF p.rules.l)],g⟩) (fun (i:Nat)=>(i=0)) (fun (i:Nat)=>0) 0 (bg ⟨yu _,yu _,yu _,(yv krf),trivial⟩ rfl rfl) ?_ (fun i hi=>?_))
 ·rfl
 ·subst hi
  have hD:=fun (R:Res) (n0 n3:Nat) (c0 c3:Nat->AV) (g:R.σ)=>w9 R p (fun _=>3) (esF p.rules.l) (l.l.getD 0 default) n0 n3 c0 c3 hl hr h2 g
  refine vcR [[1,1,1,0,1,0,0,1,1,0,0,1,1,1]] (lkL [(5,[6,14,15,16,17]),(6,[6,7,8,14,15,16]),(7,[6,7,14,15,16,25]),(8,[4,5])]) (lkL [(6,[(5,ROrc.val (Orc.obj (nth [int i64 (List.getD l.l 0 default).rule,fz (List.getD l.l 0 default).atoms.2 1 (List.length (List.getD l.l 0 default).atoms.l) fun (i x:Nat)=>ah (List.getD l.l 0 default).atoms.l i])))]),(7,[(2,ROrc.pcall (ifc 149 (bb (List.getD l.l 0 default)))),(3,ROrc.kcall (AV.bool false))])]) (fun Q=>(fun (u1:List AV)=>(fun (u2:List AObj)=>(fun (u3:Int)=>(fun (u4:Int)=>(decide (u4<u3)=true->(0<=u4/\u4<u3)/\2<=2/\2<=2/\(∀(c:Nat),c<2->nth u1 c=al (nth [int i64 0,fz Fz.nil 0 0 fun x x_1=>any]) 0 2 (List.brecOn (motive:=fun (x:List AV)=>Nat->AV) u1 nth._f) c)/\2<=2/\(∀(hp:List AObj) (g:R.σ),true=true/\Does Tryd.prog R 68 [agg 2 (nth u1)] hp g (ret (ifc 149 (agg 2 (nth u1)))) hp g)/\(true=true/\Does Tryd.prog R 67 [ref 1 0,ifc 149 (agg 2 (nth u1))] u2 g (ret (AV.bool false)) u2 g)/\(true=true->Q AEx.ret (St.mk [(4,int i64 u4),(5,int i64 7)] u2 g))/\(true=false->WpC Tryd.prog R 28 0 23 [1,1,1,0,1,0,0,1,1,0,0,1,1,1] Q [Kont.blk 1,Kont.seq [1,1,1,0,1,0,0,1,1,1]] (St.mk [(6,ref 1 0),(7,int i64 u4),(14,ay l),(15,int i64 u3),(16,int i64 u4),(25,AV.bool true)] u2 g)))/\(decide (u4<u3)=false->Q (AEx.exit 0) (St.mk [(6,ref 1 0),(14,ay l),(15,int i64 u3),(16,int i64 u4),(17,AV.bool (decide (u4<u3)))] [cells false 2 (nth [int i64 p.atoms,af p.rules]),cells false 27 (ad p (fun (x:Nat)=>3) (AV.mp 2)),AObj.map (esF p.rules.l)] g))) ((↑0:Int))) ((↑(List.length l.l):Int))) ([cells false 2 (nth [int i64 p.atoms,af p.rules]),cells false 27 (ad p (fun (x:Nat)=>3) (AV.mp 2)),AObj.map (esF p.rules.l),cells false 2 (nth u1)])) ([int i64 (List.getD l.l 0 default).rule,fz (List.getD l.l 0 default).atoms.2 1 (List.length (List.getD l.l 0 default).atoms.l) fun i x=>ah (List.getD l.l 0 default).atoms.l i])) ⟨fun c1=>have c1:(↑0:Int)<(↑(List.length l.l):Int):=(of_decide_eq_true c1);⟨omg,omg,omg,(fun c hc=>match c,hc with|0,_=>krf|1,_=>krf ),omg,(fun _ _=>⟨rfl,(wZ _ _ omg _ _)⟩),⟨rfl,(hD _ _ _ _ _ _)⟩,fun _=>?_,fun h=>(nomatch h)⟩,fun c1=>have c1:¬(↑0:Int)<(↑(List.length l.l):Int):=(of_decide_eq_false c1);?_⟩
  ·refine⟨_,yG _,(av (cu _ _ rfl trivial ⟨⟨trivial,trivial⟩,trivial⟩ rfl) (yu _))⟩
  ·exfalso;omega
def xb (v:List Int)(l:Lit):Bool:=if l.neg then v.getD l.atom.toNat 0==1 else v.getD l.atom.toNat 0==2
def xd (v:List Int)(l:Lit):Bool:=if l.neg then v.getD l.atom.toNat 0==2 else v.getD l.atom.toNat 0==1
def xe (v:List Int)(r:Rule):Bool:= !r.body.l.any (fun l=> !xb v l)
def nm (l:List Bool):Nat->AV:=fun j=>.bool (l.getD j false)
theorem pP {k:Nat}(l:List Bool)(j:Nat):Below k (nm l j):=trivial
theorem pY {f:Nat->Nat}(h:True){l:List Bool}{j:Nat}:aE f (nm l j)=nm l j:=rfl
def xf (v:List Int)(s:List Bool)(l:Lit):Bool:=xd v l||(!l.neg&&s.getD l.atom.toNat false)
def xg (v:List Int)(s:List Bool)(r:Rule):Bool:= !r.body.l.any (xf v s)
def ri (v:List Int)(s:List Bool)(r:Rule):Bool:=s.getD r.head.toNat false&&xg v s r
def xh (s:List Bool)(n:Nat):List Int:=((List.range n).filter fun k=>s.getD k false).map fun (k:Nat)=>(k:Int)
def xi (s:Step):Int:=if s.rule = -1 then 1 else 2
def xj (x:Int)(v:List Int)(l:List Int):List Int:=l.foldl (fun v a=>v.set a.toNat x) v
def xk (v:List Int)(s:Step):List Int:=xj (xi s) v s.atoms.l
def rj (v:List Int)(s:List Bool)(r:Rule):List Bool:=if ri v s r then s.set r.head.toNat false else s
def xm (v:List Int)(s:List Bool)(l:List Rule):List Bool:=l.foldl (rj v) s
def grCh (v:List Int):List Rule->List Bool->Bool
 |[],_=>false
 |r::l,s=>ri v s r||grCh v l (rj v s r)
def rl (v:List Int)(p:Prg):Nat->List Bool->List Bool
 |0,s=>s
 |n+1,s=>if grCh v p.rules.l s then rl v p n (xm v s p.rules.l) else s
def xn (v:List Int):List Bool:=v.map (fun x=>x==3)
def grR (v:List Int)(p:Prg):List Bool:=rl v p (v.length+1) (xn v)
def xp (v:List Int)(r:Rule):Bool:=v.getD r.head.toNat 0==3&&xe v r
def kU (v:List Int)(p:Prg):Int:=aN (xp v) p.rules.l 0
def rm (v:List Int)(p:Prg):List Int:=xh (grR v p) v.length
def np (v:List Int)(p:Prg):Stp:=if 0<=kU v p then⟨kU v p,[(p.rules.l.getD (kU v p).toNat default).head]⟩ else⟨-1,rm v p⟩
def rn (v:List Int)(p:Prg):Bool:=decide (0<=kU v p)||decide (0<(rm v p).length)
def jv (l:List Stp):Nat->AV:=fun c=>bif Nat.beq (c%2) 0 then .int .i64 (l.getD (c/2) default).rule else ag ⟨(l.getD (c/2) default).atoms,.auto⟩
theorem pR {k:Nat}(l:List Stp)(j:Nat):Below k (jv l j):=by
 unfold jv
 cases Nat.beq (j%2) 0 <;> trivial
theorem p0 {f:Nat->Nat}(h:True){l:List Stp}{j:Nat}:aE f (jv l j)=jv l j:=by
 unfold jv
 cases Nat.beq (j%2) 0 with
 |true=>rfl
 |false=>rfl
def nq (p:Prg):Nat->List Int->List Stp->List Stp × List Int
 |0,v,l=>(l,v)
 |n+1,v,l=>if rn v p then nq p n (xk v (kO (np v p))) (l++[np v p]) else(l,v)
def xq (p:Prg)(n:Nat):List Stp × List Int:=nq p (n+1) (List.replicate n 3) []
def ro (v:List Int):Nat:=v.count 3
structure DerOk (p:Prg)(n:Nat)(x:Nat × List Int × List Stp × Step × Bool):Prop where
 num:x.1=x.2.2.1.length
 len:x.2.1.length=n
 step:x.2.2.2.1=kO (np x.2.1 p)
 is:x.2.2.2.2=rn x.2.1 p
 few:x.1+ro x.2.1<=n
 der:∃f,ro x.2.1<f/\nq p f x.2.1 x.2.2.1=xq p n
structure Agr (n:Nat)(v:List Int)(f:Nat->Int):Prop where
 len:v.length=n
 get:∀j,j<n->v.getD j 0=f j
 val:∀j,j<n->f j=1∨f j=2∨f j=3
def blk (f:Nat->Int)(m:Nat->Bool)(l:Lit):Bool:=b9 f l==1||(!l.neg&&m l.atom.toNat)
def xr (p:Prg)(f:Nat->Int)(m:Nat->Bool):Prop:=∀r,r∈p.rules.l->m r.head.toNat=true->r.body.l.any (blk f m)=true
section
variable {p:Prg}{n:Nat}{v:List Int}{f:Nat->Int}
end
end Go.Avm.Pack
namespace Go.Avm.Pack
open Go Go.Avm Go.Proofs
open Go.IntKind (i64 u64)
open Go.Avm.AV (int bool any fz fp sl ow ref fn ifc val agg tup)
open Go.Avm.AObj (cells dead)
open Go.Avm.Oc (ret)
set_option maxRecDepth 4000
def hgL (x:List Bool × Bool)(l:Lit):List Bool × Bool:=if x.1.getD l.atom.toNat false then x else(x.1.set l.atom.toNat true,true)
def hgU (x:List Bool × Bool)(r:Rule):List Bool × Bool:=if x.1.getD r.head.toNat false then r.body.l.foldl hgL x else x
def hgD (p:Prg)(s:List Bool):List Bool × Bool:=p.rules.l.foldl hgU (s,false)
def hgI (p:Prg):Nat->List Bool->List Bool
 |0,s=>s
 |k+1,s=>if (hgD p s).2 then hgI p k (hgD p s).1 else s
def hgR (p:Prg)(n a:Nat):List Bool:=hgI p (n+1) ((List.replicate n false).set a true)
def g8 (s:List Bool):Nat:=s.count false
structure HgS (x y:List Bool × Bool):Prop where
 len:y.1.length=x.1.length
 up:∀k,x.1.getD k false=true->y.1.getD k false=true
 ch:x.2=true->y.2=true
 cnt:g8 y.1<=g8 x.1
 less:y.2=true->x.2=false->g8 y.1<g8 x.1
 same:y.2=false->y.1=x.1
structure HgOk (p:Prg)(n a:Nat)(x:List Bool × Bool):Prop where
 len:x.1.length=n
 go:x.2=true->∃f,g8 x.1<f/\hgI p f x.1=hgR p n a
 stop:x.2=false->x.1=hgR p n a
def g9 (l:List Bool):AV:=.fz .auto 1 l.length (fun i _=>.bool (l.getD i false))
theorem pX {k:Nat}(l:List Bool):Below k (g9 l):=trivial
abbrev HG:=Nat->List Bool
def hgC (h:HG):Nat->AV:=fun i=>g9 (h i)
theorem pS {k:Nat}(h:HG)(j:Nat):Below k (hgC h j):=trivial
theorem p4 {f:Nat->Nat}(t:True){h:HG}{j:Nat}:aE f (hgC h j)=hgC h j:=rfl
end Go.Avm.Pack
namespace Go.Avm.Pack
open Go Go.Avm Go.Proofs Go.RowKit Go.Shelf
attribute [local go_sem] Oper.semAt_some
theorem xu (n:Nat)(hn:1<=n)(l s:Nat)(hs:s<2^24)(A:Addr)(FM:Mem)(ht:cC gsT FM)(J:Nat->World->Prop)(E:Ending->World->Prop)(K:Nat)
  (hJ:∀k W,J k W->W.cell? A=some (.int .u64 (Tb.cutN s k))/\W.frozen? A=false/\(∀b o,FM b=some o->W.heap[b]? = some o))
  (hJg:∀k W W',J k W->W.grownBy W' none->J k W')
  (hY:∀k W,k<K->k<(ai s).length->J k W->YieldAt Fence.wide (n-1) Tryd.prog l #[.int .i64 ((ai s).getD k 0)] W fun e W'=>e=.returned (.bool true)/\W'.cell? A=some (.int .u64 (Tb.cutN s k))/\W'.frozen? A=false/\J (k+1) (W'.setCell A (.int .u64 (Tb.cutN s (k+1)))))
  (hE:∀W,K<(ai s).length->J K W->YieldAt Fence.wide (n-1) Tryd.prog l #[.int .i64 ((ai s).getD K 0)] W fun e W'=>(e=.returned (.bool false)∨∃ch,e=.panicked ch)/\E e W')
  (W:World) (h0:J 0 W) :
  CallsIn Fence.wide n Tryd.prog 105 #[.func (.yield l) #[] #[],.pointer (some A)] W fun e W'=>((ai s).length<=K/\(∃v,e=.returned v)/\J (ai s).length W')∨(K<(ai s).length/\(((∃v,e=.returned v)/\E (.returned (.bool false)) W')∨∃ch,e=.panicked ch/\E (.panicked ch) W')):=by
 refine callsIn_of_wp Tryd.func105 rfl trivial ?_ rfl
 simp only[Tryd.ntmps105,List.size_toArray,List.length_cons,List.length_nil,Nat.reduceAdd,Nat.reduceSub,Array.replicate_succ,Array.replicate_zero,List.push_toArray,List.append_toArray,List.nil_append,List.cons_append]
 gi_wp2
 gi_loopw [] (fun wr=>∃k,k<=(ai s).length/\k<=K/\J k wr) (fun wr=>match wr.cell? A with|some (.int _ v)=>v.toNat|_=>0)
 case atStart=>exact⟨0,Nat.zero_le _,Nat.zero_le _,h0⟩
 case round=>
  obtain⟨k,hk,hkK,hJk⟩:=hrel
  obtain⟨hc,hf,hFM⟩:=hJ k wr hJk
  have hlt:=Tb.cutN_lt hs k
  rcases Nat.lt_or_ge k (ai s).length with hkl|hkl
  ·obtain⟨m,hm⟩:=Tb.cutN_in hs hkl
   have k1:0<Tb.cutN s k:=by
    rw[hm]
    exact Nat.mul_pos (Nat.pow_pos (by decide)) (by omega)
   have k2:=kp hm hlt
   clear hm
   have hz:¬((Tb.cutN s k:Nat):Int)=0:=by omega
   have htz:=fun m=>qs m (Tb.cutN s k) k1 hlt wr FM hFM ht
   rcases Nat.lt_or_ge k K with hlK|hgK
   ·have hYk:=fun W=>hY k W hlK hkl
    obtain⟨x,hx⟩:∃x,(ai s).getD k 0=x:=⟨_,rfl⟩
    rw[hx] at k2
    simp only[hx] at hYk
    simp only[k2] at htz
    gi_wp2
    refine⟨trivial,(htz _).mono ?_⟩
    rintro e w' ⟨rfl,hg⟩
    have hJ':=hJg k wr w' hJk hg
    obtain⟨hc',hf',hFM'⟩:=hJ k w' hJ'
    obtain⟨fn,tmps,assign,body,hy,hR⟩:=hYk w' hJ'
    dsimp only
    gi_wp2
    refine hR.mono ?_
    rintro e W3 ⟨rfl,hc3,hf3,hJ3⟩
    dsimp only
    gi_wp2
    have hb:bits .and .u64 ((Tb.cutN s k:Nat):Int) (((Tb.cutN s k:Nat):Int)-1)=((Tb.cutN s (k+1):Nat):Int):=qt _ hlt k1
    rw[hb]
    refine⟨⟨k+1,hkl,hlK,hJ3⟩,?_⟩
    rw[(hJ _ _ hJ3).1,hc]
    show((Tb.cutN s (k+1):Nat):Int).toNat<((Tb.cutN s k:Nat):Int).toNat
    have:Tb.cutN s (k+1)<=Tb.cutN s k-1:=Nat.and_le_right
    omega
   ·have hkK:K=k:=by omega
    subst hkK
    have hYk:=fun W=>hE W hkl
    obtain⟨x,hx⟩:∃x,(ai s).getD K 0=x:=⟨_,rfl⟩
    rw[hx] at k2
    simp only[hx] at hYk
    simp only[k2] at htz
    gi_wp2
    refine⟨trivial,(htz _).mono ?_⟩
    rintro e w' ⟨rfl,hg⟩
    have hJ':=hJg K wr w' hJk hg
    obtain⟨hc',hf',hFM'⟩:=hJ K w' hJ'
    obtain⟨fn,tmps,assign,body,hy,hR⟩:=hYk w' hJ'
    dsimp only
    gi_wp2
    refine hR.mono ?_
    rintro e W3 ⟨he,hE3⟩
    rcases he with rfl|⟨ch,rfl⟩
    ·dsimp only
     gi_wp2
     (try simp only[Exit.inBlock,Exit.then])
     refine bodyPost_ret (results_none rfl _ _ _) rfl ?_
     exact .inr ⟨hkl,.inl ⟨⟨_,rfl⟩,hE3⟩⟩
    ·exact⟨rfl,.inr ⟨hkl,.inr ⟨ch,rfl,hE3⟩⟩⟩
  ·have hz:((Tb.cutN s k:Nat):Int)=0:=by rw[show k=(ai s).length by omega,Tb.cutN_end hs];rfl
   have hkk:k=(ai s).length:=by omega
   subst hkk
   gi_wp2
   go_end0
   exact .inl ⟨hkK,⟨_,rfl⟩,hJk⟩
end Go.Avm.Pack
namespace Go.Avm.Pack
open Go Go.Avm Go.Proofs
open Go.IntKind (i64 u64)
open Go.Avm.AV (int bool any fz fp sl ow ref fn ifc val agg tup)
open Go.Avm.AObj (cells dead)
open Go.Avm.Oc (ret)
set_option maxRecDepth 4000
end Go.Avm.Pack
namespace Go.Avm.Pack
open Go Go.Avm Go.Proofs Go.RowKit Go.Shelf
section
variable {R:Res}
theorem rp [Tab LT R]{nt k0:Nat}{Q:AEx->St R.σ->Prop}{s:St R.σ}{t:Nat}{ps:Array Tmp}{assign body:Code}{fa fb:Nat->AV}{m S K:Nat}{H:List AObj}{fn:FuncId}
  (hf:lk s.fr t=.fn 105 0 fa 1 fb) (hfb:fb 0=.ref m 0) (hS:S<2^24) (h0:s.hp=H++[.cells false 1 (fun _=>.int .u64 S)]) (hl:H.length=m)
  (hlive:dg (H++[.cells false 1 (fun _=>.int .u64 S)])) (hBO:eF m H) (hlen:1=ps.toList.length) (hlt:bt ps.toList nt=true) (ts:List Nat) (hBf:fB ts (fun t=>Below m (lk s.fr t)))
  (hround:∀k,k<K->k<(ai S).length->ke Tryd.prog R nt assign body none H s.g ⟨cv ps.toList [.int .i64 (((ai S).getD k 0:Nat):Int)] (dq ts s.fr),H,s.g⟩)
  (hlast:K<(ai S).length->∀l,wpA Tryd.prog R nt (m+1) (.inr l) assign (fun e s1=>e=.normal/\wpA Tryd.prog R nt s1.hp.length (.inr l) body (i5 ((Tryd.prog.funcs[fn]?).isSome=true) (fun e s3=>Q e ⟨s.fr,s3.hp,s3.g⟩)) s1) ⟨cv ps.toList [.int .i64 (((ai S).getD K 0:Nat):Int)] s.fr,H++[.dead],s.g⟩)
  (hdone:(ai S).length<=K->Q .normal ⟨s.fr,H++[.dead],s.g⟩) {C:Cx R} (hC:C.Z.length=k0/\C.df.out=true) {n:Nat} {a:Act} {w:World} (hH:dN R C nt s a w) :
  pM (Fw .top) n Tryd.prog (.tmp t) ps assign body (dA R C nt Q) a w fn:=by
 obtain⟨FM,Z,hs⟩:=hH
 obtain⟨D,hD⟩:∃D,D=w.heap.size:=⟨_,rfl⟩
 obtain⟨L,hL⟩:∃L,L=w.heap.size+1:=⟨_,rfl⟩
 have hne:D≠L:=by omega
 obtain⟨rec,hrec⟩:∃rec:LoopState->Option Code->Loop,rec=fun st pe=>{ state:=st,pending:=pe,fn,tmps:=a.tmps,params:=ps,assign,body,defers:=D }:=⟨_,rfl⟩
 obtain⟨W1,hW1⟩:∃W1,(w.alloc (.deferred (some []))).alloc (.loop (rec .ready none))=W1:=⟨_,rfl⟩
 have hL1:W1.heap[L]? = some (.loop (rec .ready none)):=by
  rw[<-hW1,hL];have:=World.alloc_heap_new (w.alloc (.deferred (some []))) (.loop (rec .ready none));rwa [World.size_alloc] at this
 have hD1:W1.heap[D]? = some (.deferred (some [])):=by
  rw[<-hW1,hD];exact(_root_.Go.RowKit.Below.heap_alloc _ _ _ (by simp)).trans (World.alloc_heap_new w _)
 have hsz1:W1.heap.size=w.heap.size+2:=by rw[<-hW1];simp
 obtain⟨okA,goA⟩:=gN hs.ok (.deferred (some []))
 obtain⟨ok1,goB⟩:=gN okA (.loop (rec .ready none))
 have go1:=goA.trans goB
 rw[hW1] at ok1 go1
 obtain⟨o,ho⟩:∃o:AObj,o=.cells false 1 (fun _=>.int .u64 S):=⟨_,rfl⟩
 rw[<-ho] at h0 hlive
 have hlen0:s.hp.length=m+1:=by rw[h0];simp[hl]
 have hZl:Z.length=m+1:=by rw[hs.ok.rel.len,hlen0]
 obtain⟨pb,hpb⟩:∃pb,Z[m]? = some pb:=⟨_,List.getElem?_eq_getElem (by omega)⟩
 obtain⟨Z0,hZ0⟩:∃Z0,Z0=Z.take m:=⟨_,rfl⟩
 have hsub0:Sub Z0 Z:=fun i p hi=>by
  rw[hZ0,List.getElem?_take] at hi
  split at hi
  ·exact hi
  ·cases hi
 have hlt0:∀{i p},Z0[i]? = some p->i<m:=fun {i p} hi=>by
  rw[hZ0,List.getElem?_take] at hi
  split at hi
  ·assumption
  ·cases hi
 have hInB:∀b,InB Z b↔InB Z0 b∨InB [pb] b:=fun b=>by
  constructor
  ·rintro ⟨p,hp,hb,hre⟩
   obtain⟨i,hi⟩:=List.getElem?_of_mem hp
   have:i<m+1:=by rw[<-hZl];exact(List.getElem?_eq_some_iff.1 hi).1
   rcases Nat.lt_or_ge i m with h|h
   ·exact .inl ⟨p,List.mem_of_getElem? (i:=i) (by rw[hZ0,List.getElem?_take,if_pos h];exact hi),hb,hre⟩
   ·have:i=m:=by omega
    subst this
    rw[hpb] at hi;cases hi
    exact .inr ⟨pb,by simp,hb,hre⟩
  ·rintro (⟨p,hp,hb,hre⟩|⟨p,hp,hb,hre⟩)
   ·obtain⟨i,hi⟩:=List.getElem?_of_mem hp
    exact⟨p,bf (hsub0 i p hi),hb,hre⟩
   ·have:p=pb:=by simpa using hp
    subst this
    exact⟨p,bf hpb,hb,hre⟩
 have hgo:∀i,i<m->ae s.hp i=ae H i:=fun i hi=>by rw[h0,iK (by rw[hl];exact hi)]
 have hgm:ae s.hp m=o:=by rw[h0,iM (by rw[hl];exact Nat.le_refl _),hl,Nat.sub_self];rfl
 have hlv:∀i,i<m+1->aD (ae s.hp i)=true:=fun i hi=>by rw[h0];exact iO hlive i (by simp[hl];omega)
 have rel0:∀W,HRel FM Z s.hp W->HRel FM Z0 H W:=fun W hr=>by
  refine⟨hr.fm,by rw[hZ0,List.length_take,hl,hZl];omega,fun i p hi=>?_,fun i j p q hi hj _ _ e=>hr.inj i j p q (hsub0 i p hi) (hsub0 j q hj) (hlv i (by have:=hlt0 hi;omega)) (hlv j (by have:=hlt0 hj;omega)) e⟩
  obtain⟨k1,k2⟩:=hr.obj i p (hsub0 i p hi)
  rw[hgo i (hlt0 hi)] at k2
  refine⟨k1,?_⟩
  rw[hZ0]
  exact kc k2 (kb hBO i)
 have relI:∀W,HRel FM Z s.hp W->HRel FM [pb] [o] W:=fun W hr=>by
  refine⟨hr.fm,rfl,fun i p hi=>?_,fun i j p q hi hj _ _ _=>?_⟩
  ·have e:i=0:=by
    have:=(List.getElem?_eq_some_iff.1 hi).1
    simpa using this
   subst e
   have hi:pb=p:=by simpa using hi
   subst hi
   obtain⟨k1,k2⟩:=hr.obj m pb hpb
   rw[hgm] at k2
   refine⟨k1,?_⟩
   have:=kc (k:=0) k2 (by rw[ho];exact fun _ _=>trivial)
   exact kd (fun i p hi=>by simp at hi) this
  ·have e1:=(List.getElem?_eq_some_iff.1 hi).1
   have e2:=(List.getElem?_eq_some_iff.1 hj).1
   simp at e1 e2
   omega
 have hdis:∀b,InB [pb] b->¬InB Z0 b:=fun b ⟨p,hp,hb,hre⟩ ⟨q,hq,hb',hre'⟩=>by
  have:p=pb:=by simpa using hp
  subst this
  obtain⟨i,hi⟩:=List.getElem?_of_mem hq
  have:=hlt0 hi
  have:=hs.ok.rel.inj i m q p (hsub0 i q hi) hpb (hlv i (by omega)) (hlv m (by omega)) (by rw[hb,hb'])
  omega
 have nIn:∀X,w.heap.size<=X->¬InB Z X:=fun X hX ⟨p,hp,hb,hre⟩=>by
  obtain⟨i,hi⟩:=List.getElem?_of_mem hp
  have:=(hs.ok.rel.obj i p hi).1 hre
  omega
 have nB:∀X,w.heap.size<=X->¬R.B s.g X:=fun X hX hb=>by have:=(hs.ok.bd X hb).1;omega
 have nF:∀X,w.heap.size<=X->FM X=none:=fun X hX=>by
  cases hx:FM X with
  |none=>rfl
  |some o=>have:=(Array.getElem?_eq_some_iff.1 (hs.ok.rel.fm X o hx)).1;omega
 have hev:Den FM Z (.fn 105 0 fa 1 fb) (a.eval (.tmp t)):=by rw[<-hf];exact hs.fr t
 obtain⟨xs,ys,hu,hxs,hys,hda,hdb⟩:=hev
 have hfr0:∀t,Den FM Z0 (lk (dq ts s.fr) t) (a.tmps.getD t undef):=ml (fun t=>hs.fr t) (fun t ht=>mj hBf t ht) hZ0
 let u:Value:=.func (.yield L) #[] #[]
 let R2:Res:=eB (f7 R D L rec) FM Z0
 let G2:R2.σ:=((s.g,.ready,none),H)
 let box:Nat->AObj:=fun k=>.cells false 1 (fun _=>.int .u64 (Tb.cutN S k))
 have hbox0:box 0=o:=ho.symm
 have hpreal:pb.2.1+1<=pb.2.2/\FM pb.1=none:=by
  obtain⟨k1,k2⟩:=hs.ok.rel.obj m pb hpb
  rw[hgm,ho] at k2
  obtain⟨cs,e,b1,b2,b3,b4,b5,b6⟩:=k2 (by omega)
  exact⟨by omega,b6 rfl⟩
 have hpin:InB [pb] pb.1:=⟨pb,by simp,rfl,by omega⟩
 obtain⟨A,hA⟩:∃A:Addr,A=⟨pb.1,pb.2.1,none⟩:=⟨_,rfl⟩
 let J:Nat->World->Prop:=fun k W=>∃FMk,Ok R2 [box k] G2 FMk [pb] W/\Goes R s.g FM Z w s.g FMk Z W/\Goes R2 G2 FM [pb] W1 G2 FMk [pb] W
 have okI:Ok R2 [box 0] G2 FM [pb] W1:=by
  rw[hbox0]
  refine⟨relI W1 ok1.rel,⟨⟨rel0 W1 ok1.rel,⟨ok1.j,hD1,hL1,⟨nF D (by omega),nF L (by omega)⟩,nB D (by omega),nB L (by omega)⟩,fun b hb=>?_⟩,fun _ _ h=>h⟩,fun b hb=>⟨?_,fun hI=>?_⟩⟩
  ·rcases hb with hb|rfl|rfl
   ·exact⟨(ok1.bd b hb).1,fun h=>(ok1.bd b hb).2 ((hInB b).2 (.inl h))⟩
   ·exact⟨by omega,fun h=>nIn _ (by omega) ((hInB _).2 (.inl h))⟩
   ·exact⟨by omega,fun h=>nIn _ (by omega) ((hInB _).2 (.inl h))⟩
  ·rcases hb with(hb|rfl|rfl)|⟨p,hp,hb,hre⟩
   ·exact(ok1.bd b hb).1
   ·omega
   ·omega
   ·obtain⟨i,hi⟩:=List.getElem?_of_mem hp
    rw[<-hb];exact(ok1.rel.obj i p (hsub0 i p hi)).1 hre
  ·rcases hb with(hb|rfl|rfl)|hb
   ·exact(ok1.bd b hb).2 ((hInB b).2 (.inr hI))
   ·exact nIn _ (by omega) ((hInB _).2 (.inr hI))
   ·exact nIn _ (by omega) ((hInB _).2 (.inr hI))
   ·exact hdis b hI hb
 have hB2:∀b,b<w.heap.size->R2.B G2 b->R.B s.g b∨InB Z0 b:=fun b hlt hb=>by
  rcases hb with(hb|rfl|rfl)|hb
  ·exact .inl hb
  ·omega
  ·omega
  ·exact .inr hb
 -- a step of the iterator's, told of the whole
 have goR:∀{FMa FMb:Mem} {Wa Wb:World},Goes R s.g FM Z w s.g FMa Z Wa->Goes R2 G2 FMa [pb] Wa G2 FMb [pb] Wb->Goes R s.g FM Z w s.g FMb Z Wb:=fun {FMa FMb Wa Wb} h k=>by
  refine⟨⟨fun b o hb=>k.ext.fm b o (h.ext.fm b o hb),fun b o hb=>?_,fun b hb=>.inl hb,fun b h1 h2 h3=>?_,Nat.le_trans h.ext.size k.ext.size,k.ext.os.trans h.ext.os,k.ext.tape.trans h.ext.tape,k.ext.output.trans h.ext.output⟩,fun b hb=>.inl hb,yF _⟩
  ·rcases k.ext.grow b o hb with h1|h1|h1|h1
   ·exact h.ext.grow b o h1
   ·exact .inr (.inl (Nat.le_trans h.ext.size h1))
   ·exact .inr (.inr (.inl ((hInB b).2 (.inr h1))))
   ·rcases Nat.lt_or_ge b w.heap.size with hlt|hge
    ·rcases hB2 b hlt h1 with h2|h2
     ·exact .inr (.inr (.inr h2))
     ·exact .inr (.inr (.inl ((hInB b).2 (.inl h2))))
    ·exact .inr (.inl hge)
  ·refine(k.ext.keep b (Nat.lt_of_lt_of_le h1 h.ext.size) (fun hI=>h2 ((hInB b).2 (.inr hI))) (fun hb=>?_)).trans (h.ext.keep b h1 h2 h3)
   rcases hB2 b h1 hb with h4|h4
   ·exact h3 h4
   ·exact h2 ((hInB b).2 (.inl h4))
 have hJ:∀k W,J k W->W.cell? A=some (.int .u64 (Tb.cutN S k))/\W.frozen? A=false/\(∀b o,FM b=some o->W.heap[b]? = some o):=fun k W ⟨FMk,okk,_,_⟩=>by
  obtain⟨k1,k2⟩:=okk.rel.obj 0 pb rfl
  obtain⟨cs,e,b1,b2,b3,b4,_,b6⟩:=k2 (by omega)
  obtain⟨x,c1,c2,c3⟩:=b4 0 (by omega)
  have hx:x=.int .u64 (Tb.cutN S k):=c3
  subst hx
  refine⟨by rw[hA];simp only[World.cell?,b1];simpa using c1,by rw[hA];simp[World.frozen?,b1],fun b o hb=>okk.rel.fm b o (okk.j.2 b o hb)⟩
 have hJg:∀k W W',J k W->W.grownBy W' none->J k W':=fun k W W' ⟨FMk,okk,h1,h2⟩ hg=>
  let ⟨x1,x2⟩:=uD okk hg
  ⟨FMk,x1,goR h1 x2,h2.trans x2⟩
 have hset:∀k W,(∃FMk,Ok R2 [box k] G2 FMk [pb] W/\Goes R s.g FM Z w s.g FMk Z W/\Goes R2 G2 FM [pb] W1 G2 FMk [pb] W)->J (k+1) (W.setCell A (.int .u64 (Tb.cutN S (k+1)))):=fun k W ⟨FMk,okk,h1,h2⟩=>by
  obtain⟨k1,k2⟩:=okk.rel.obj 0 pb rfl
  obtain⟨cs,e,b1,b2,b3,b4,_,b6⟩:=k2 (by omega)
  have hAb:A.block=pb.1:=by rw[hA]
  have hAb':(⟨pb.1,pb.2.1,none⟩:Addr).block=pb.1:=rfl
  have hF:FMk pb.1=none:=b6 rfl
  have keep:∀b,b≠pb.1->(W.setCell A (.int .u64 (Tb.cutN S (k+1)))).heap[b]? = W.heap[b]?:= fun b hb=>RowKit.Below.heap_setCell _ _ _ b (by rw[hAb];exact hb)
  have hsz:(W.setCell A (.int .u64 (Tb.cutN S (k+1)))).heap.size=W.heap.size:=by
   show(W.heap.modify _ _).size=_
   rw[Array.size_modify]
  have hnew:(W.setCell A (.int .u64 (Tb.cutN S (k+1)))).heap[pb.1]? = some (.cells (cs.setIfInBounds pb.2.1 (.int .u64 (Tb.cutN S (k+1)))) e (0,0)):=by
   show(W.heap.modify A.block _)[pb.1]? = _
   rw[hAb,Array.getElem?_modify,b1,hA]
   simp
  have hrel:HRel FMk [pb] [box (k+1)] (W.setCell A (.int .u64 (Tb.cutN S (k+1)))):=by
   refine⟨fun b o hb=>(keep b (fun e=>by rw[e,hF] at hb;cases hb)).trans (okk.rel.fm b o hb),rfl,fun i p hi=>?_,fun i j p q hi hj _ _ _=>?_⟩
   ·have e0:i=0:=by
     have:=(List.getElem?_eq_some_iff.1 hi).1
     simpa using this
    subst e0
    have hi:pb=p:=by simpa using hi
    subst hi
    refine⟨fun h=>by rw[hsz];exact k1 h,fun _=>⟨_,e,hnew,by rw[Array.size_setIfInBounds];exact b2,by rw[Array.size_setIfInBounds];exact b3,fun j hj=>?_,fun h=>(by cases h),fun _=>hF⟩⟩
    have:j=0:=by omega
    subst this
    refine⟨.int .u64 (Tb.cutN S (k+1)),?_,rfl,rfl⟩
    show(cs.setIfInBounds pb.2.1 _)[pb.2.1]? = _
    rw[Array.getElem?_setIfInBounds_self_of_lt (by omega)]
   ·have e1:=(List.getElem?_eq_some_iff.1 hi).1
    have e2:=(List.getElem?_eq_some_iff.1 hj).1
    simp at e1 e2
    omega
  obtain⟨x1,x2⟩:=eR (hp':=[box (k+1)]) (Z':=[pb]) (w':=W.setCell A (.int .u64 (Tb.cutN S (k+1)))) okk hrel ⟨fun _ _ h=>h,fun _ _ h=>.inl h,fun _ h=>.inl h,fun b _ h _=>keep b (fun e=>h (by rw[e];exact hpin)),Nat.le_of_eq hsz.symm,rfl,rfl,rfl⟩ (yF _)
  exact⟨FMk,x1,goR h1 x2,h2.trans x2⟩
 have hargI:∀(v:Nat) FMk (Zx:Plc),bC FMk Zx [.int .i64 (v:Int)] #[.int .i64 (v:Int)]:=fun v FMk Zx=>⟨rfl,fun i hi=>by
  have:i=0:=by simpa using hi
  subst this
  rfl⟩
 have hY:∀k W,k<K->k<(ai S).length->J k W->YieldAt Fence.wide (2-1) Tryd.prog L #[.int .i64 (((ai S).getD k 0:Nat):Int)] W fun e W'=>e=.returned (.bool true)/\W'.cell? A=some (.int .u64 (Tb.cutN S k))/\W'.frozen? A=false/\J (k+1) (W'.setCell A (.int .u64 (Tb.cutN S (k+1)))):=by
  rintro k W hk hkN ⟨FMk,okk,h1,h2⟩
  have hv:=pt (P:=Tryd.prog) (R:=R) (L:=L) hrec hs.size hfr0 hne (items:=[.int .i64 (((ai S).getD k 0:Nat):Int)]) hlen hlt (by exact⟨trivial,trivial⟩) (jmp:=none) (hp:=H) (hp':=H) (g:=s.g) (g':=s.g) rfl (hround k hk hkN) [box k]
  rcases hv.h with⟨f,_,_,he,_⟩|⟨l,he,hq⟩
  ·cases he
  ·cases he
   obtain⟨fn',tmps',assign',body',hr,hR⟩:=hq FMk [pb] W _ okk (hargI _ _ _)
   refine⟨fn',tmps',assign',body',hr,(hR .top _).mono ?_⟩
   rintro e W' ⟨FM',Z',⟨v,rfl,hden⟩,okp,gop⟩
   obtain rfl:Z'=[pb]:=by
    have hl1:Z'.length=1:=okp.rel.len
    match Z',hl1 with
    |[q],_=>
     have:=gop.sub 0 pb rfl
     cases this;rfl
   have hj:J k W':=⟨FM',okp,goR h1 gop,h2.trans gop⟩
   obtain⟨j1,j2,_⟩:=hJ k W' hj
   refine⟨by rw[show v=_ from hden];rfl,j1,j2,hset k W' hj⟩
 have okDead:∀{k FMk W},Ok R2 [box k] G2 FMk [pb] W->Goes R s.g FM Z w s.g FMk Z W->Ok R (H++[.dead]) s.g FMk Z W/\W.heap[D]? = some (.deferred (some []))/\W.heap[L]? = some (.loop (rec .ready none))/\Nb R D s.g FMk Z W/\Nb R L s.g FMk Z W:=by
  intro k FMk W okk hg
  obtain⟨okL,hmono⟩:=okk.j
  obtain⟨jR,hD3,hL3,⟨fD,fL⟩,bD,bL⟩:=okL.j
  have okR:=mf okL
  have hgd:∀i,i<m->ae (H++[.dead]) i=ae H i:=fun i hi=>iK (by rw[hl];exact hi)
  have hgdm:ae (H++[.dead]) m=.dead:=by rw[iM (by rw[hl];exact Nat.le_refl _),hl,Nat.sub_self];rfl
  have hback:∀i p,Z[i]? = some p->(i<m/\Z0[i]? = some p)∨(i=m/\p=pb):=fun i p hi=>by
   have:i<m+1:=by rw[<-hZl];exact(List.getElem?_eq_some_iff.1 hi).1
   rcases Nat.lt_or_ge i m with h|h
   ·exact .inl ⟨h,by rw[hZ0,List.getElem?_take,if_pos h];exact hi⟩
   ·have:i=m:=by omega
    subst this
    rw[hpb] at hi;cases hi
    exact .inr ⟨rfl,rfl⟩
  have hnl:∀i p,Z[i]? = some p->aD (ae (H++[.dead]) i)=true->i<m/\Z0[i]? = some p:=fun i p hi hv=>by
   rcases hback i p hi with h|⟨rfl,rfl⟩
   ·exact h
   ·rw[hgdm] at hv;cases hv
  refine⟨⟨⟨okR.rel.fm,by rw[hZl];simp[hl],fun i p hi=>?_,fun i j p q hi hj hv1 hv2 e=>?_⟩,okR.j,fun b hb=>⟨(okR.bd b hb).1,fun hI=>?_⟩⟩,hD3,hL3,?_,?_⟩
  ·rcases hback i p hi with⟨h1,h2⟩|⟨rfl,rfl⟩
   ·obtain⟨k1,k2⟩:=okR.rel.obj i p h2
    rw[hgd i h1]
    exact⟨k1,kd hsub0 k2⟩
   ·rw[hgdm]
    refine⟨fun hre=>?_,trivial⟩
    have h1:=(hs.ok.rel.obj i p hi).1 hre
    have:=hg.ext.size
    omega
  ·obtain⟨a1,a2⟩:=hnl i p hi hv1
   obtain⟨b1,b2⟩:=hnl j q hj hv2
   rw[hgd i a1] at hv1
   rw[hgd j b1] at hv2
   exact okR.rel.inj i j p q a2 b2 hv1 hv2 e
  ·rcases(hInB b).1 hI with h|h
   ·exact(okR.bd b hb).2 h
   ·exact(okk.bd b (.inl (.inl hb))).2 h
  ·exact⟨(Array.getElem?_eq_some_iff.1 hD3).1,nIn D (by omega),bD,fD⟩
  ·exact⟨(Array.getElem?_eq_some_iff.1 hL3).1,nIn L (by omega),bL,fL⟩
 let C0:Cx R:=⟨s.g,FM,Z,w,[],false⟩
 have hE:∀W,K<(ai S).length->J K W->YieldAt Fence.wide (2-1) Tryd.prog L #[.int .i64 (((ai S).getD K 0:Nat):Int)] W fun e W'=>(e=.returned (.bool false)∨∃ch,e=.panicked ch)/\ki R C0 D L rec (fun e s3=>Q e ⟨s.fr,s3.hp,s3.g⟩) e W':=by
  rintro W hK ⟨FMk,okk,h1,h2⟩
  obtain⟨okd,hDW,hLW,nD,nL⟩:=okDead okk h1
  obtain⟨fn',tmps',assign',body',hr,hR⟩:=uG (P:=Tryd.prog) (R:=R) hrec (C:=C0) (by show w.heap.size<=D;omega) (by show w.heap.size<=L;omega) hne okd h1 hDW hLW nD nL hs.size (fun t=>yH h1.ext.fm _ (yF _) (hs.fr t)) (hargI ((ai S).getD K 0) FMk Z) hlen hlt
   (Q:=fun e s3=>Q e ⟨s.fr,s3.hp,s3.g⟩) (by have:=hlast hK L;rw[show(H++[AObj.dead]).length=m+1 by simp[hl]];exact this)
  refine⟨fn',tmps',assign',body',hr,(hR .top _).mono ?_⟩
  intro e W' he
  have he':=he
  rcases he' with⟨ex,j,s3,FM3,Z3,e1,_⟩|⟨x,v,s3,FM3,Z3,e1,_⟩
  ·exact⟨.inl e1,he⟩
  ·exact⟨.inr ⟨_,e1⟩,he⟩
 have hargs:(xs++#[u])++ys=#[.func (.yield L) #[] #[],.pointer (some A)]:=by
  have hxs0:xs=#[]:=Array.size_eq_zero_iff.1 hxs
  have hd0:=hdb 0 (by omega)
  rw[hfb] at hd0
  obtain⟨p,hp1,hp2⟩:=hd0
  rw[hpb] at hp1;cases hp1
  subst hxs0
  have hy:ys=#[.pointer (some A)]:=by
   refine Array.ext (by simp[hys]) (fun i h1 h2=>?_)
   have:i=0:=by simp at h2;omega
   subst this
   rw[Array.getD_eq_getD_getElem?,Array.getElem?_eq_getElem h1] at hp2
   rw[hA]
   simpa using hp2
  rw[hy]
  rfl
 have hcalls:=callsIn_wide.1 (xu 2 (by omega) L S hS A FM (Tab.h (T:=LT) hs.ok.j) J (ki R C0 D L rec (fun e s3=>Q e ⟨s.fr,s3.hp,s3.g⟩)) K hJ hJg hY hE W1 ⟨FM,okI,go1,yC _ _ _ _ _⟩)
 have hpl:bZ Tryd.prog 105=true:=by kernel_rfl
 have hfn':∃fn,Tryd.prog.funcs[105]? = some fn/\fn.name ≠ "runtime.NumGoroutine"/\fn.body.isSome=true:=by
  unfold bZ at hpl
  split at hpl
  ·rename_i fn hfn
   simp only[Bool.and_eq_true,bne_iff_ne,ne_eq] at hpl
   exact⟨fn,hfn,hpl.1,hpl.2⟩
  ·cases hpl
 obtain⟨fnF,hF1,hF2,hF3⟩:=hfn'
 have hF3':¬fnF.body=none:=fun h=>by rw[h] at hF3;cases hF3
 refine⟨L,[fS D],W1,{ target:=.fn (.func 105) ys,args:=xs++#[u] },W1,105,(xs++#[u])++ys,W1,?_,?_,fun _ _=>trivial,?_,fun h=>(by cases h),?_⟩
 ·rw[<-hW1,hrec,hD,hL];exact run_enterLoop_outer _ _ _ _ _
 ·simp[resolve,hu,Deferred.ofValue,u]
  rfl
 ·simp[invoke,callFunc,hF1,hF2,hF3']
 rw[hargs]
 refine(fo hcalls).mono ?_
 have hsat':∀{hp3:List AObj} {g3:R.σ} {FM3:Mem} {Z3:Plc} {W:World},Ok R hp3 g3 FM3 Z3 W->Goes R s.g FM Z w g3 FM3 Z3 W->W.heap[D]? = some (.deferred (some []))->Nb R D g3 FM3 Z3 W ->
   Sat R C nt ⟨s.fr,hp3,g3⟩ FM3 Z3 { a with defers:=[fS D]++a.defers } W:=by
  intro hp3 g3 FM3 Z3 W ok3 go4 hD3 nD
  refine⟨ok3,hs.goes.trans go4,hs.size,?_,fun t=>yH go4.ext.fm _ go4.sub (hs.fr t)⟩
  obtain⟨ms,e1,e2,e3,e4⟩:=hs.defs
  refine⟨D::ms,by rw[e1];rfl,List.nodup_cons.2 ⟨fun hmem=>?_,e2⟩,fun h=>?_,fun X hX=>?_⟩
  ·have:=(Array.getElem?_eq_some_iff.1 (e4 D hmem).obj).1
   omega
  ·rw[hC.2] at h;cases h
  ·rcases List.mem_cons.1 hX with rfl|hX
   ·exact⟨hD3,nD.off,nD.offB,nD.nofm,by have:=hs.goes.ext.size;omega⟩
   ·exact(e4 X hX).goes go4
 have hsat:∀{hp3:List AObj} {g3:R.σ} {FM3:Mem} {Z3:Plc} {W:World} (st:LoopState) (pe:Option Code),Ok R hp3 g3 FM3 Z3 W->Goes R s.g FM Z w g3 FM3 Z3 W->W.heap[D]? = some (.deferred (some []))->Nb R D g3 FM3 Z3 W->Nb R L g3 FM3 Z3 W ->
   Sat R C nt ⟨s.fr,hp3,g3⟩ FM3 Z3 { a with defers:=[fS D]++a.defers } (W.putObj L (.loop { rec st pe with state:=.exhausted })):=by
  intro hp3 g3 FM3 Z3 W st pe ok3 go3 hD3 nD nL
  have go4:Goes R s.g FM Z w g3 FM3 Z3 (W.putObj L (.loop { rec st pe with state:=.exhausted })):=go3.put (by omega) _
  exact hsat' (gT _ nL.off nL.offB nL.nofm ok3) go4 ((World.putObj_heap_other hne).trans hD3) (nD.put _ _)
 rintro e w3 (⟨hNK,⟨v,rfl⟩,FMk,okk,h1,h2⟩|⟨hKN,⟨⟨v,rfl⟩,hL3⟩|⟨ch,rfl,hL3⟩⟩)
 ·obtain⟨okd,hD3,hL3,nD,nL⟩:=okDead okk h1
  have hend:=run_endLoop (P:=Tryd.prog) hL3 (by rw[hrec];intro h;cases h)
  obtain⟨p,w4,hend,hp,hw4⟩:∃p w4,(Instr.endLoop L).run Tryd.prog w3=.ok p w4/\p=none/\w4=w3.putObj L (.loop { rec .ready none with state:=.exhausted }):=⟨_,_,hend,by rw[hrec],rfl⟩
  subst hp
  have hs4:=hsat .ready none okd h1 hD3 nD nL
  rw[<-hw4] at hs4
  exact⟨none,w4,hend,_,hdone hNK,FMk,Z,hs4⟩
 ·rcases hL3 with⟨ex,j,s3,FM3,Z3,_,hj,hq,ok3,go3,hD3,hL3,nD,nL⟩|⟨_,_,_,_,_,he,_⟩
  rotate_left
  ·cases he
  have hend:=run_endLoop (P:=Tryd.prog) hL3 (by rw[hrec];intro h;cases h)
  obtain⟨p,w4,hend,hp,hw4⟩:∃p w4,(Instr.endLoop L).run Tryd.prog w3=.ok p w4/\p=some j/\w4=w3.putObj L (.loop { rec .done (some j) with state:=.exhausted }):=⟨_,_,hend,by rw[hrec],rfl⟩
  subst hp
  have hs4:=hsat .done (some j) ok3 go3 hD3 nD nL
  rw[<-hw4] at hs4
  refine⟨some j,w4,hend,?_⟩
  cases ex with
  |normal=>cases hj
  |pan v=>cases hj
  |ret=>cases hj;exact wpIn_ret ⟨_,hq,FM3,Z3,hs4⟩
  |exit id=>cases hj;exact wpIn_exit ⟨_,hq,FM3,Z3,hs4⟩
 ·rcases hL3 with⟨_,_,_,_,_,he,_⟩|⟨x,v,s3,FM3,Z3,he,hden,hq,ok3,go3,hD3,nD⟩
  ·cases he
  ·cases he
   exact⟨_,x,v,FM3,Z3,hq,hsat' ok3 go3 hD3 nD,rfl,hden⟩
theorem xw [Tab LT R]{nt k0:Nat}{Q:AEx->St R.σ->Prop}{s:St R.σ}{t:Nat}{ps:Array Tmp}{assign body:Code}{fa fb:Nat->AV}{m S K:Nat}{H:List AObj}
  (hf:lk s.fr t=.fn 105 0 fa 1 fb) (hfb:fb 0=.ref m 0) (hS:S<2^24) (h0:s.hp=H++[.cells false 1 (fun _=>.int .u64 S)]) (hl:H.length=m)
  (hlive:dg (H++[.cells false 1 (fun _=>.int .u64 S)])) (hBO:eF m H) (hlen:1=ps.toList.length) (hlt:bt ps.toList nt=true) (ts:List Nat) (hBf:fB ts (fun t=>Below m (lk s.fr t)))
  (hround:∀k,k<K->k<(ai S).length->ke Tryd.prog R nt assign body none H s.g ⟨cv ps.toList [.int .i64 (((ai S).getD k 0:Nat):Int)] (dq ts s.fr),H,s.g⟩)
  (hlast:K<(ai S).length->∀pok l,wpA Tryd.prog R nt (m+1) (.inr l) assign (fun e s1=>e=.normal/\wpA Tryd.prog R nt s1.hp.length (.inr l) body (i5 pok (fun e s3=>Q e ⟨s.fr,s3.hp,s3.g⟩)) s1) ⟨cv ps.toList [.int .i64 (((ai S).getD K 0:Nat):Int)] s.fr,H++[.dead],s.g⟩)
  (hdone:(ai S).length<=K->Q .normal ⟨s.fr,H++[.dead],s.g⟩) :
  wpA Tryd.prog R nt k0 .top (.rangeFunc (.tmp t) ps assign body) Q s:=fun _ hC _ _ _ hH=>wpIn_rangeFunc (fun _ _=>rp hf hfb hS h0 hl hlive hBO hlen hlt ts hBf hround (fun h=>hlast h _) hdone hC hH)
end
end Go.Avm.Pack
namespace Go.Avm.Pack
open Go Go.Avm Go.Proofs
open Go.IntKind (i64 u64)
open Go.Avm.AV (int bool any fz fp sl ow ref fn ifc val agg tup)
open Go.Avm.AObj (cells dead)
open Go.Avm.Oc (ret)
set_option maxRecDepth 4000
section
variable {R:Res}
def rq (P:Program)(R:Res)(nt l:Nat)(b:Code)(q:List Nat)(pok:Prop)(Q:AEx->St R.σ->Prop):AEx->St R.σ->Prop
 |.normal,s=>Wp P R nt s.hp.length (.inr l) b q (i5 pok Q) s
 |_,_=>False
theorem rr [Tab LT R]{nt k0:Nat}{b:Code}{p:List Nat}{Q:AEx->St R.σ->Prop}{s:St R.σ}(t:Nat)(psl:List Nat)(m:Nat)(hrl:gU t psl (sub b p)=true){fa fb:Nat->AV}(hf:lk s.fr t=.fn 105 0 fa 1 fb)(hfb:fb 0=.ref m 0)
  (S K:Nat) (hS:S<2^24) (H:List AObj) (h0:To R k0 s ⟨s.fr,H++[.cells false 1 (fun _=>.int .u64 S)],s.g⟩) (hl:H.length=m)
  (hlive:dg (H++[.cells false 1 (fun _=>.int .u64 S)])) (hBO:eF m H) (hlen:1=psl.length) (hlt:bt psl nt=true) (ts:List Nat) (hBf:fB ts (fun t=>Below m (lk s.fr t)))
  (hround:∀k l,k<K->k<(ai S).length->Wp Tryd.prog R nt m (.inr l) b (p++[0]) (mm Tryd.prog R nt m l b (p++[1]) none H s.g) ⟨cv psl [.int .i64 (((ai S).getD k 0:Nat):Int)] (dq ts s.fr),H,s.g⟩)
  (hlast:K<(ai S).length->∀pok l,Wp Tryd.prog R nt (m+1) (.inr l) b (p++[0]) (rq Tryd.prog R nt l b (p++[1]) pok (fun e s3=>Q e ⟨s.fr,s3.hp,s3.g⟩)) ⟨cv psl [.int .i64 (((ai S).getD K 0:Nat):Int)] s.fr,H++[.dead],s.g⟩)
  (hdone:(ai S).length<=K->Q .normal ⟨s.fr,H++[.dead],s.g⟩) :
  Wp Tryd.prog R nt k0 .top b p Q s:=by
 obtain⟨ps,assign,body,hc,rfl⟩:∃ps assign body,sub b p=.rangeFunc (.tmp t) ps assign body/\ps.toList=psl:=by
  unfold gU at hrl
  split at hrl
  ·rename_i u ps assign body hs
   simp only[Bool.and_eq_true] at hrl
   have:=Nat.eq_of_beq_eq_true hrl.1
   subst this
   exact⟨ps,assign,body,hs,iT hrl.2⟩
  ·cases hrl
 have e0:sub b (p++[0])=assign:=by rw[b8,hc];exact cz assign
 have e1:sub b (p++[1])=body:=by rw[b8,hc];exact cz body
 refine⟨?_⟩
 rw[hc]
 refine jW h0 (xw (s:=⟨s.fr,H++[.cells false 1 (fun _=>.int .u64 S)],s.g⟩) (K:=K) hf hfb hS rfl hl hlive hBO hlen hlt ts hBf (fun k hk hkN l=>?_) (fun hK pok l=>?_) hdone)
 ·have h1:=(hround k l hk hkN).h
  rw[e0] at h1
  rw[show(St.hp ⟨cv ps.toList [.int .i64 (((ai S).getD k 0:Nat):Int)] (dq ts s.fr),H,s.g⟩).length=m from hl]
  refine gJ h1 (fun e s' hq=>?_)
  cases e with
  |normal=>
   have h2:=(show Wp _ _ _ _ _ _ _ _ _ from hq).h
   rw[e1] at h2
   exact⟨rfl,h2⟩
  |exit id=>exact hq.elim
  |ret=>exact hq.elim
  |pan v=>exact hq.elim
 ·have h1:=(hlast hK pok l).h
  rw[e0] at h1
  refine gJ h1 (fun e s' hq=>?_)
  cases e with
  |normal=>
   have h2:=(show Wp _ _ _ _ _ _ _ _ _ from hq).h
   rw[e1] at h2
   exact⟨rfl,h2⟩
  |exit id=>exact hq.elim
  |ret=>exact hq.elim
  |pan v=>exact hq.elim
end
def aG (l:List Nat):Nat->AV:=fun k=>ag (aj (l.getD k 0))
theorem eZ {k:Nat}(l:List Nat)(j:Nat):Below k (aG l j):=trivial
theorem f9 {f:Nat->Nat}(h:True){l:List Nat}{j:Nat}:aE f (aG l j)=aG l j:=rfl
theorem kW {p:Prg}{left a:Nat}(hg:hgP p a<2^24)(hl:left<2^24):(IntKind.u64.wrap ((BitVec.ofInt 64 (IntKind.u64.wrap ((BitVec.ofInt 64 (hgP p a:Int)&&&BitVec.ofInt 64 (left:Int)).toNat:Int)) &&& ~~~ BitVec.ofInt 64 (au p a:Int)).toNat:Int)==0)=ek p left a:=by
 rw[Tb.u64_and (bu hg) (bu hl),ni (Nat.lt_of_le_of_lt Nat.and_le_right hl)]
 unfold ek
 rw[Bool.eq_iff_iff,beq_iff_eq,beq_iff_eq]
 omega
theorem kX {p:Prg}(hr:∀r,r∈p.rules.l->aK r)(hx:∀r,r∈p.rules.l->∀l,l∈r.body.l->0<=l.atom/\l.atom<p.atoms){a c:Nat}(ha:a<24)(han:(a:Int)<p.atoms)(hc:c∈ai (hgP p a)):(c:Int)<p.atoms:=by
 obtain⟨m1,m2⟩:=Tb.mem_memN.1 hc
 rcases wB hx ((dW hr ha).1 m2) with rfl|h
 ·exact han
 ·exact h
theorem kY {L:List Nat}{w m c:Nat}{z:Nat->AV}{old:Nat->Nat->AV}(hm:m=L.length)(hold:∀i,i<m->old i 0=aG L i)(hc:c<(m+1)*1):aG (L++[w]) c=aW 1 m old (fun i j=>al z 0 1 (fun _=>ag (aj w)) (0+i*1+j)) c:=by
 unfold aW aG
 rw[List.getD_eq_getElem?_getD]
 by_cases h:c<m*1
 ·rw[if_pos h,show c/1=c by omega,show c%1=0 by omega,hold c omg,List.getElem?_append_left omg,<-List.getD_eq_getElem?_getD]
  rfl
 ·rw[if_neg h,List.getElem?_append_right omg,show c-L.length=0 by omega]
  show _=al z 0 1 _ (0+(c-m*1)/1*1+(c-m*1)%1)
  rw[d7,if_pos omg]
  rfl
theorem Le.ow_nil {get:Nat->Nat->AV}{s o es:Nat}:Le (.ow true o 0 es) (.fz .nil s 0 get):=by
 intro FM Z v h
 obtain⟨a,rfl,ha⟩:=h.1 rfl
 obtain rfl:=ha rfl
 exact⟨fun _=>⟨rfl,none,0,rfl,rfl,rfl⟩,fun h=>(by cases h)⟩
theorem xx {f z:Nat->AV}{a c:Nat}(hc:c<(a+1)*1):f c=aW 1 a (fun i j=>f (i*1+j)) (fun i j=>al z 0 1 (fun _=>f a) (0+i*1+j)) c:=by
 unfold aW
 by_cases h:c<a*1
 ·rw[if_pos h]
  show f c=f (c/1*1+c%1)
  rw[show c/1*1+c%1=c by omega]
 ·rw[if_neg h]
  show f c=al z 0 1 _ (0+(c-a*1)/1*1+(c-a*1)%1)
  rw[d7,if_pos omg,show c=a by omega]
structure OrdOk (p:Prg)(x:Nat × List Nat × Nat):Prop where
 num:x.1=x.2.1.length
 few:x.1+(ai x.2.2).length<=24
 lt:x.2.2<2^24
 at_:∀a,a∈ai x.2.2->a<p.atoms.toNat
 ord:∃f,(ai x.2.2).length<f/\x.2.1++js p f x.2.2=ck p
theorem xy {p:Prg}(hr:∀r,r∈p.rules.l->aK r){m left:Nat}{L:List Nat}(h:OrdOk p (m,L,left))(h0:left≠0):OrdOk p (m+1,L++[au p (dv p left)],dj left (au p (dv p left)))/\(ai (dj left (au p (dv p left)))).length<(ai left).length:=by
 obtain⟨o1,o2,o3,o4,f,f1,f2⟩:=h
 simp only at o1 o2 o3 o4 f1 f2
 have hlt:=wF hr o3 h0
 obtain⟨f,rfl⟩:∃k,f=k+1:=⟨f-1,omg⟩
 refine⟨⟨?_,?_,Nat.lt_of_le_of_lt qY o3,fun a ha=>o4 a ?_,f,?_,?_⟩,hlt⟩
 ·show m+1=(L++[_]).length
  rw[List.length_append,o1]
  rfl
 ·show m+1+(ai (dj left (au p (dv p left)))).length<=24
  omega
 ·obtain⟨m1,m2⟩:=Tb.mem_memN.1 ha
  have m2:(dj left (au p (dv p left))).testBit a=true:=m2
  rw[jr o3,Bool.and_eq_true] at m2
  exact Tb.mem_memN.2 ⟨m1,m2.1⟩
 ·show(ai (dj left _)).length<f
  omega
 ·rw[<-f2]
  show(L++[_])++js p f _=L++(if left=0 then[] else _::js p f _)
  rw[if_neg h0,List.append_assoc]
  rfl
theorem xz {p:Prg}(hp:1<=p.atoms/\p.atoms<=24):OrdOk p (0,[],2^p.atoms.toNat-1):=by
 have hb:∀j,(2^p.atoms.toNat-1).testBit j=decide (j<p.atoms.toNat):=fun j=>Nat.testBit_two_pow_sub_one _ _
 refine⟨rfl,?_,?_,fun a ha=>?_,25,?_,rfl⟩
 ·have:=gl (2^p.atoms.toNat-1)
  show 0+(ai (2^p.atoms.toNat-1)).length<=24
  omega
 ·have:2^p.atoms.toNat<=2^24:=Nat.pow_le_pow_right dcd omg
  have:0<2^p.atoms.toNat:=Nat.pow_pos dcd
  show 2^p.atoms.toNat-1<2^24
  omega
 ·have h:=(Tb.mem_memN.1 ha).2
  have h:(2^p.atoms.toNat-1).testBit a=true:=h
  rw[hb,decide_eq_true_eq] at h
  exact h
 ·have:=gl (2^p.atoms.toNat-1)
  show(ai (2^p.atoms.toNat-1)).length<25
  omega
theorem xA (R:Res)[Tab LT R](p:Prg)(hb:aJ p=true)(g:R.σ):Does Tryd.prog R 31 [aq p] [] g (.ret (.tup 2 (nth [cw (ck p).length (fun i=>aj ((ck p).getD i 0)),.int .i64 0]))) [] g:=by
 have hroom:aL=140737488355328:=rfl
 obtain⟨hl,hr,hp,hh,hx⟩:=fe hb
 have hs:d9 p:=ff hb
 have hp':1<=p.atoms/\p.atoms<=24:=hp
 refine spW (nt:=57) (rs:=[.tmp 2,.tmp 3]) (k0:=0) ?_
 have hc:((if aJ p then(0:Int) else 2) != 0)=false:=by rw[hb];rfl
 refine vcR [[1,0,0,1,0]] (lkL [(0,[1]),(1,[1,13]),(3,[1,4]),(4,[1,4,15,16])]) (lkL [(1,[(1,ROrc.pcall (int i64 (if aJ p=true then 0 else 2)))])]) (fun Q=>(fun (u1:Int)=>(fun (u2:AObj)=>2<=2/\(∀(hp:List AObj) (g:R.σ),true=true/\Does Tryd.prog R 16 [aq p] hp g (ret (int i64 u1)) hp g)/\((u1 != 0)=true->WpC Tryd.prog R 57 0 31 [1,0,0,1,0] Q [Kont.seq [1,0,1]] (St.mk [(1,ref 0 0),(13,AV.bool (u1 != 0))] [u2] g))/\((u1 != 0)=false->1<=2/\WpC Tryd.prog R 57 0 31 [1,0,1,1,0,1,0] Q [Kont.blk 0,Kont.seq [1,0,1,1,1]] (St.mk [(1,ref 0 0),(4,ref 1 0),(15,int i64 p.atoms),(16,int i64 0)] [u2,cells false 1 fun a=>fz Fz.nil 0 0 fun x x_1=>any] g))) (cells false 2 (nth [int i64 p.atoms,af p.rules]))) (if aJ p=true then 0 else 2)) ⟨omg,(fun _ _=>⟨rfl,(e8 _ _ _ _ omg)⟩),fun hcc=>(nomatch (hc.symm.trans hcc)),fun _=>⟨omg,?_⟩⟩
 refine cA (gk (fun _=>.any) 1) ?_
 refine cA (toL (s':=⟨[(1,.ref 0 0),(4,.ref 1 0),(15,.int .i64 p.atoms),(16,.int .i64 0)],[.cells false 2 (nth [.int .i64 p.atoms,af p.rules]),.cells false 1 (fun _=>.ow true 2 0 1),.cells false (0*1) (onC p)],g⟩) (h1:=?_) (h2:=?_)) ?_
 ·exact⟨yu _,yu _,yu _,yu _,trivial⟩
 ·exact⟨yx _,⟨rfl,Nat.le_refl _,fun _ _=>Le.nil_ow⟩,⟨rfl,Nat.le_refl _,fun j hj=>absurd hj omg⟩,trivial⟩
 refine(bq krf (fun (a:Nat)=>⟨[(1,ref 0 0),(4,ref 1 0),(15,int i64 p.atoms),(16,.int .i64 a)],[.cells false 2 (nth [.int .i64 p.atoms,af p.rules]),.cells false 1 (fun _=>.ow true 2 a 1),.cells false (a*1) (onC p)],g⟩) (fun (a:Nat)=>(a<=p.atoms.toNat)) (fun (a:Nat)=>(p.atoms.toNat-a)) 0 (bg ⟨yu _,yu _,yu _,(yv krf),trivial⟩ rfl rfl) ?_ (fun a hi=>?_))
 ·exact Nat.zero_le _
 ·refine vcR [] (lkL [(5,[1,4,15,16,17]),(6,[1,4,5,15,16]),(7,[1,4,15,16]),(8,[1,4,15,16])]) (lkL [(7,[(3,ROrc.pcall (int u64 (↑(hgP p (Int.toNat (↑a:Int))):Int))),(5,ROrc.val (Orc.obj (onC p))),(6,ROrc.val (Orc.obj (nth [ow true 4 (a+1) 1])))])]) (fun Q=>(fun (u1:Int)=>(fun (u2:AV)=>(fun (u3:AObj)=>(decide (u1<p.atoms)=true->Flw Tryd.prog/\1<=1/\2<=2/\(∀(hp:List AObj) (g:R.σ),true=true/\Does Tryd.prog R 70 [aq p,int i64 u1] hp g (ret u2) hp g)/\0<1/\(a+1)*8<=aL/\a+1<=aL/\1<=1/\a*1<=a*1/\(∀(c:Nat),c<(a+1)*1->int u64 (↑(hgP p c):Int)=aW 1 a (fun (i j:Nat)=>int u64 (↑(hgP p (i*1+j)):Int)) (fun (i j:Nat)=>al (fun (j:Nat)=>int u64 0) 0 1 (fun (x:Nat)=>u2) (0+i*1+j)) c)/\1<=1/\(∀(c:Nat),c<1->nth [ow true 4 (a+1) 1] c=al (fun (x:Nat)=>ow true 2 a 1) 0 1 (fun (x:Nat)=>ow true 4 (a+1) 1) c)/\(-9223372036854775808<=u1+1/\u1+1<=9223372036854775807)/\Q AEx.normal (St.mk [(1,ref 0 0),(4,ref 1 0),(15,int i64 p.atoms),(16,int i64 (u1+1))] [u3,cells false 1 (nth [ow true 4 (a+1) 1]),dead,cells false 1 (al (fun (j:Nat)=>int u64 0) 0 1 fun x=>u2),cells false ((a+1)*1) fun a=>int u64 (↑(hgP p a):Int)] g))/\(decide (u1<p.atoms)=false->Q (AEx.exit 0) (St.mk [(1,ref 0 0),(4,ref 1 0),(15,int i64 p.atoms),(16,int i64 u1),(17,AV.bool (decide (u1<p.atoms)))] [u3,cells false 1 fun x=>ow true 2 a 1,cells false (a*1) fun a=>int u64 (↑(hgP p a):Int)] g))) (cells false 2 (nth [int i64 p.atoms,af p.rules]))) (int u64 (↑(hgP p a):Int))) ((↑a:Int))) ⟨fun c1=>have c1:(↑a:Int)<p.atoms:=(of_decide_eq_true c1);⟨krf,omg,omg,(fun _ _=>⟨rfl,(nc _ _ _ omg omg (by simp at * <;> omega) _ _)⟩),omg,omg,omg,omg,omg,?_,omg,(fun c hc=>match c,hc with|0,_=>krf ),omg,?_⟩,fun c1=>have c1:¬(↑a:Int)<p.atoms:=(of_decide_eq_false c1);?_⟩
  ·exact fun c hc=>(xx (f:=onC p) (z:=fun _=>.int .u64 0) hc).trans krf
  ·refine(aY (a+1) (toS [0,1,4] 5 (hob:=⟨⟨rfl,Nat.le_refl _,fun j hj=>match j,hj with|0,_=>(yu _)|1,_=>(yu _) ⟩,⟨rfl,Nat.le_refl _,fun j hj=>match j,hj with|0,_=>(yu _) ⟩,?_,trivial⟩)) ?_ ?_)
   ·exact⟨rfl,Nat.le_refl _,fun j _=>yv rfl⟩
   ·omega
   ·omega
  ·have ha:a=p.atoms.toNat:=by omega
   subst ha
   have hA:=fun (R:Res) (hp:List AObj) (g:R.σ)=>vr R p.atoms.toNat omg hp g
   rw[show((p.atoms.toNat:Nat):Int)=p.atoms by omega] at hA
   obtain⟨left0,hleft0⟩:∃l,2^p.atoms.toNat-1=l:=⟨_,rfl⟩
   simp only[hleft0] at hA
   obtain⟨n,hn⟩:∃n,p.atoms.toNat=n:=⟨_,rfl⟩
   rw[hn]
   refine⟨_,yG _,vcR [] (lkL [(9,[1,4,6]),(10,[1,4,6,7]),(11,[4,6,7,8])]) (lkL [(9,[(2,ROrc.val (Orc.obj (nth [fn 82 0 (nth []) 1 (nth [ref 1 0])])))]),(11,[(2,ROrc.pcall (int u64 (↑left0:Int))),(4,ROrc.val (Orc.obj (nth [int u64 (↑left0:Int)])))])]) (fun Q=>(fun (u1:AV)=>(fun (u2:AV)=>1<=1/\(∀(c:Nat),c<1->nth [u2] c=al (fun (a:Nat)=>AV.nilf) 0 1 (fun (x:Nat)=>u2) c)/\1<=2/\(∀(hp:List AObj) (g:R.σ),true=true/\Does Tryd.prog R 83 [int i64 p.atoms] hp g (ret u1) hp g)/\1<=1/\(∀(c:Nat),c<1->nth [u1] c=al (fun (a:Nat)=>int u64 0) 0 1 (fun (x:Nat)=>u1) c)/\WpC Tryd.prog R 57 0 31 [1,0,1,1,1,1,1,1,1,0,0] Q [Kont.blk 2,Kont.seq [1,0,1,1,1,1,1,1,1,1]] (St.mk [(4,ref 1 0),(6,ref 3 0),(7,ref 4 0),(8,ref 5 0)] [cells false 2 (nth [int i64 p.atoms,af p.rules]),cells false 1 fun x=>ow true 2 n 1,cells false (n*1) fun a=>int u64 (↑(hgP p a):Int),cells false 1 (nth [u2]),cells false 1 fun a=>fz Fz.nil 0 0 fun x x_1=>any,cells false 1 (nth [u1])] g)) (fn 82 0 (nth []) 1 (nth [ref 1 0]))) (int u64 (↑left0:Int))) ⟨omg,(fun c hc=>match c,hc with|0,_=>krf ),omg,(fun _ _=>⟨rfl,(hA _ _ _)⟩),omg,(fun c hc=>match c,hc with|0,_=>krf ),?_⟩⟩
   refine cA (gk (fun _=>.any) 1) ?_
   refine cA (toL (s':=⟨[(4,.ref 1 0),(6,.ref 3 0),(7,.ref 4 0),(8,.ref 5 0)],[.cells false 2 (nth [.int .i64 p.atoms,af p.rules]),.cells false 1 (fun _=>.ow true 2 n 1),.cells false (n*1) (onC p),.cells false 1 (fun _=>.fn 82 0 (nth []) 1 (nth [.ref 1 0])),.cells false 1 (fun _=>.ow true 6 0 1),.cells false 1 (fun _=>.int .u64 left0),.cells false (0*1) (aG [])],g⟩) (h1:=?_) (h2:=?_)) ?_
   ·exact⟨yu _,yu _,yu _,yu _,trivial⟩
   ·exact⟨yx _,yx _,yx _,⟨rfl,Nat.le_refl _,fun j hj=>match j,hj with|0,_=>yu _⟩,⟨rfl,Nat.le_refl _,fun _ _=>Le.nil_ow⟩,⟨rfl,Nat.le_refl _,fun j hj=>match j,hj with|0,_=>yu _⟩,⟨rfl,Nat.le_refl _,fun j hj=>absurd hj omg⟩,trivial⟩
   refine(bq krf (fun (x:Nat × List Nat × Nat)=>⟨[(4,ref 1 0),(6,ref 3 0),(7,ref 4 0),(8,ref 5 0)],[.cells false 2 (nth [.int .i64 p.atoms,af p.rules]),.cells false 1 (fun _=>.ow true 2 n 1),.cells false (n*1) (onC p),.cells false 1 (fun _=>.fn 82 0 (nth []) 1 (nth [.ref 1 0])),.cells false 1 (fun _=>.ow true 6 x.1 1),.cells false 1 (fun _=>.int .u64 x.2.2),.cells false (x.1*1) (aG x.2.1)],g⟩) (fun (x:Nat × List Nat × Nat)=>(OrdOk p x)) (fun (x:Nat × List Nat × Nat)=>((ai x.2.2).length)) (0,[],left0) (bg ⟨yu _,yu _,yu _,yu _,trivial⟩ rfl rfl) ?_ (fun x hi=>?_))
   ·rw[<-hleft0]
    exact xz hp'
   ·obtain⟨m,L,left⟩:=x
    have hok:=hi
    obtain⟨o1,o2,o3,o4,o5⟩:=hi
    simp only at o1 o2 o3 o4 o5
    have hat:0<n:=by omega
    refine vcR [] (lkL [(12,[4,6,7,8,31]),(13,[4,6,7,8,33])]) (lkL [(13,[(1,ROrc.call (fn 105 0 (nth []) 1 (nth [ref (List.length [cells false 2 (nth [int i64 p.atoms,af p.rules]),cells false 1 fun (x:Nat)=>ow true 2 n 1,cells false (n*1) fun (a:Nat)=>int u64 (↑(hgP p a):Int),cells false 1 fun (x:Nat)=>fn 82 0 (nth []) 1 (nth [ref 1 0]),cells false 1 fun (x:Nat)=>ow true 6 m 1,cells false 1 fun (x:Nat)=>int u64 (↑left:Int),cells false (m*1) fun (a:Nat)=>fz Fz.auto 1 (List.length (aj (List.getD L a 0)).l) fun (i x:Nat)=>ah (aj (List.getD L a 0)).l i]) 0])) ([cells false 2 (nth [int i64 p.atoms,af p.rules]),cells false 1 fun (x:Nat)=>ow true 2 n 1,cells false (n*1) fun (a:Nat)=>int u64 (↑(hgP p a):Int),cells false 1 fun (x:Nat)=>fn 82 0 (nth []) 1 (nth [ref 1 0]),cells false 1 fun (x:Nat)=>ow true 6 m 1,cells false 1 fun (x:Nat)=>int u64 (↑left:Int),cells false (m*1) fun (a:Nat)=>fz Fz.auto 1 (List.length (aj (List.getD L a 0)).l) fun (i x:Nat)=>ah (aj (List.getD L a 0)).l i]++[cells false 1 fun (x:Nat)=>int u64 (↑left:Int)]) g)])]) (fun Q=>(fun (u1:List AObj)=>(fun (u2:List AObj)=>1<=1/\(((↑left:Int) != 0)=true->1<=1/\(true=true/\Does Tryd.prog R 77 [int u64 (↑left:Int)] u2 g (ret (fn 105 0 (nth []) 1 (nth [ref 7 0]))) u1 g)/\WpC Tryd.prog R 57 0 31 [1,0,1,1,1,1,1,1,1,0,0,0,1,0,1,0] Q [Kont.blk 4,Kont.blk 3] (St.mk [(4,ref 1 0),(6,ref 3 0),(7,ref 4 0),(8,ref 5 0),(33,fn 105 0 (nth []) 1 (nth [ref 7 0]))] u1 g))/\(((↑left:Int) != 0)=false->Q (AEx.exit 2) (St.mk [(4,ref 1 0),(6,ref 3 0),(7,ref 4 0),(8,ref 5 0),(31,AV.bool ((↑left:Int) != 0))] u2 g))) ([cells false 2 (nth [int i64 p.atoms,af p.rules]),cells false 1 fun x=>ow true 2 n 1,cells false (n*1) fun a=>int u64 (↑(hgP p a):Int),cells false 1 fun x=>fn 82 0 (nth []) 1 (nth [ref 1 0]),cells false 1 fun x=>ow true 6 m 1,cells false 1 fun x=>int u64 (↑left:Int),cells false (m*1) fun a=>fz Fz.auto 1 (List.length (aj (List.getD L a 0)).l) fun i x=>ah (aj (List.getD L a 0)).l i])) ([cells false 2 (nth [int i64 p.atoms,af p.rules]),cells false 1 fun x=>ow true 2 n 1,cells false (n*1) fun a=>int u64 (↑(hgP p a):Int),cells false 1 fun x=>fn 82 0 (nth []) 1 (nth [ref 1 0]),cells false 1 fun x=>ow true 6 m 1,cells false 1 fun x=>int u64 (↑left:Int),cells false (m*1) fun a=>fz Fz.auto 1 (List.length (aj (List.getD L a 0)).l) fun i x=>ah (aj (List.getD L a 0)).l i,cells false 1 fun x=>int u64 (↑left:Int)])) ⟨omg,fun c1=>have c1:¬(↑left:Int)=0:=(bne_iff_ne.mp c1);⟨omg,⟨rfl,(cx _ _ _ _)⟩,?_⟩,fun c1=>have c1:(↑left:Int)=0:=(bne_eq_false_iff_eq.mp c1);?_⟩
    ·have hne:left≠0:=by omega
     have hnx:=xy hr hok hne
     obtain⟨k1,k2,k3,k4⟩:=q0 hr o3 hne
     obtain⟨K,hK⟩:∃K,g7 p left=K:=⟨_,rfl⟩
     obtain⟨A,hA'⟩:∃A,dv p left=A:=⟨_,rfl⟩
     rw[hK] at k1 k3
     rw[hA'] at k2 k4 hnx
     have hAK:(ai left).getD K 0=A:=by rw[<-hA',<-hK];rfl
     rcases Nat.eq_zero_or_pos m with hm0|hm0
     ·subst hm0
      have hL:L=[]:=List.length_eq_zero_iff.1 o1.symm
      subst hL
      refine cA (toS (s':=⟨[(4,.ref 1 0),(6,.ref 3 0),(7,.ref 4 0),(8,.ref 5 0),(33,.fn 105 0 (nth []) 1 (nth [.ref 6 0]))],[.cells false 2 (nth [.int .i64 p.atoms,af p.rules]),.cells false 1 (fun _=>.ow true 2 n 1),.cells false (n*1) (onC p),.cells false 1 (fun _=>.fn 82 0 (nth []) 1 (nth [.ref 1 0])),.cells false 1 (fun _=>.fz .nil 0 0 (fun _ _=>.any)),.cells false 1 (fun _=>.int .u64 left),.cells false 1 (fun _=>.int .u64 left)],g⟩) [0,1,2,3,4,5,7] 8 (hfr:=⟨yu _,yu _,yu _,yu _,Le.fn (fun i hi=>absurd hi (Nat.not_lt_zero i)) (fun i hi=>match i,hi with|0,_=>yu _),trivial⟩) (hob:=⟨⟨rfl,Nat.le_refl _,fun j hj=>match j,hj with|0,_=>yu _|1,_=>bj (by exact trivial)⟩,yx _,yx _,⟨rfl,Nat.le_refl _,fun j hj=>Le.fn (fun i hi=>absurd hi (Nat.not_lt_zero i)) (fun i hi=>match i,hi with|0,_=>yu _)⟩,⟨rfl,Nat.le_refl _,fun j hj=>Le.ow_nil⟩,yx _,yx _,trivial⟩)) ?_
      refine rr 33 [34] 6 krf rfl rfl left K o3 [.cells false 2 (nth [.int .i64 p.atoms,af p.rules]),.cells false 1 (fun _=>.ow true 2 n 1),.cells false (n*1) (onC p),.cells false 1 (fun _=>.fn 82 0 (nth []) 1 (nth [.ref 1 0])),.cells false 1 (fun _=>.fz .nil 0 0 (fun _ _=>.any)),.cells false 1 (fun _=>.int .u64 left)] (eW rfl rfl) rfl (by exact⟨omg,omg,omg,omg,omg,omg,omg,trivial⟩) (by exact⟨fun j hj=>(match j,hj with|0,_=>trivial|1,_=>trivial),fun _ _=>show 2<6 by omega,fun _ _=>trivial,fun _ _=>⟨trivial,trivial,show 1<6 by omega⟩,fun _ _=>trivial,fun _ _=>trivial,trivial⟩) rfl krf [4,6,7,8] (by exact⟨show 1<6 by omega,show 3<6 by omega,show 4<6 by omega,show 5<6 by omega,trivial⟩) (fun k l' hk hkN=>?_) (fun hKN pok l'=>?_) (fun h=>?_)
      ·obtain⟨a,ha⟩:∃a,(ai left).getD k 0=a:=⟨_,rfl⟩
       have ham:a∈ai left:=by rw[<-ha];exact bX _ 0 hkN
       have han:a<n:=by rw[<-hn];exact o4 a ham
       have h3:=k3 k hk
       rw[ha] at h3 ⊢
       have hO:=fun (R:Res) [Tab LT R] (g:R.σ)=>kQ R p n a hr omg omg (fun b hb=>by have:=kX hr hx (a:=a) omg omg hb;omega) g
       have hcd:=(kW (p:=p) (a:=a) (fI hr omg) o3).trans h3
       refine vcR [] (lkL [(14,[4,6,7,8,9])]) (fun _=>[]) (fun (Q:AEx->St R.σ->Prop)=>Q AEx.normal (St.mk [(4,ref 1 0),(6,ref 3 0),(7,ref 4 0),(8,ref 5 0),(9,int i64 (↑a:Int))] [cells false 2 (nth [int i64 p.atoms,af p.rules]),cells false 1 fun (x:Nat)=>ow true 2 n 1,cells false (n*1) fun (a:Nat)=>int u64 (↑(hgP p a):Int),cells false 1 fun (x:Nat)=>fn 82 0 (nth []) 1 (nth [ref 1 0]),cells false 1 fun (x:Nat)=>fz Fz.nil 0 0 fun (x x_1:Nat)=>any,cells false 1 fun (x:Nat)=>int u64 (↑left:Int)] g)) (?_)
       show Wp _ _ _ 6 _ _ _ _ _
       refine vcR [] (lkL [(15,[4,6,7,8,9,10]),(16,[4,6,7,8,10,46]),(17,[4,6,7,8,10]),(18,[4,6,7,8])]) (lkL [(15,[(2,ROrc.kcall (int u64 (↑(au p a):Int)))]),(17,[(2,ROrc.callN (fn 105 0 (nth []) 1 (nth [ref (List.length [cells false 2 (nth [int i64 p.atoms,af p.rules]),cells false 1 fun (x:Nat)=>ow true 2 n 1,cells false (n*1) fun (a:Nat)=>int u64 (↑(hgP p a):Int),cells false 1 fun (x:Nat)=>fn 82 0 (nth []) 1 (nth [ref 1 0]),cells false 1 fun (x:Nat)=>fz Fz.nil 0 0 fun (x x_1:Nat)=>any,cells false 1 fun (x:Nat)=>int u64 (↑left:Int)]) 0])) [] [cells false 1 fun (x:Nat)=>int u64 (↑(au p a):Int)] g),(3,ROrc.callN (ow true 7 (List.length (ai (au p a))) 1) [(6,cells false 1 fun (j:Nat)=>any)] [cells false (List.length (ai (au p a))*1) fun (j:Nat)=>int i64 (↑(List.getD (ai (au p a)) j 0):Int)] g),(6,ROrc.val (Orc.obj (nth [ow true 9 1 1])))]),(18,[(3,ROrc.val (Orc.obj (nth [int u64 (IntKind.wrap u64 (↑(BitVec.toNat (BitVec.ofInt 64 (↑left:Int) &&& ~~~BitVec.ofInt 64 (↑(au p a):Int))):Int))])))])]) (fun Q=>(fun (u1:List AObj)=>(fun (u2:Bool)=>(fun (u3:List AObj)=>(fun (u4:AV)=>(fun (u5:AObj)=>(fun (u6:AV)=>(fun (u7:AV)=>(fun (u8:AObj)=>(fun (u9:AObj)=>(fun (u10:AV)=>(fun (u11:AObj)=>(fun (u12:Bool)=>1<=1/\(true=true/\Does Tryd.prog R 82 [int i64 (↑a:Int),ref 1 0] u1 g (ret u10) u1 g)/\u12=true/\1<=1/\(0<=(↑a:Int)/\(↑a:Int)<(↑n:Int))/\a+1<=n*1/\1<=1/\(u2=true->u12=true/\1<=1/\(true=true/\Does Tryd.prog R 77 [u10] u1 g (ret (fn 105 0 (nth []) 1 (nth [ref 6 0]))) u3 g)/\(true=true/\Does Tryd.prog R 75 [fn 105 0 (nth []) 1 (nth [ref 6 0])] u3 g (ret u7) [u11,cells false 1 fun x=>ow true 2 n 1,u9,u8,cells false 1 fun x=>u6,cells false 1 fun x=>int u64 (↑left:Int),cells false 1 fun j=>any,u5] g)/\0<1/\24<=aL/\1<=aL/\1<=1/\1<=1/\(∀(c:Nat),c<1->nth [ow true 9 1 1] c=al (fun (x:Nat)=>u6) 0 1 (fun (x:Nat)=>ow true 9 1 1) c)/\1<=1/\1<=1/\(∀(c:Nat),c<1->nth [u4] c=al (fun (x:Nat)=>int u64 (↑left:Int)) 0 1 (fun (x:Nat)=>u4) c)/\Q (AEx.exit 3) (St.mk [(4,ref 1 0),(6,ref 3 0),(7,ref 4 0),(8,ref 5 0)] [u11,cells false 1 fun x=>ow true 2 n 1,u9,u8,cells false 1 (nth [ow true 9 1 1]),cells false 1 (nth [u4]),cells false 1 fun j=>any,u5,cells false 1 (al (fun (j:Nat)=>u6) 0 1 fun x=>u7),cells false 1 (aW 1 0 (fun (x x_1:Nat)=>any) fun i j=>al (fun (j:Nat)=>u6) 0 1 (fun (x:Nat)=>u7) (0+i*1+j))] g))/\(u2=false->Q AEx.normal (St.mk [(4,ref 1 0),(6,ref 3 0),(7,ref 4 0),(8,ref 5 0),(10,u10),(46,AV.bool u2)] u1 g))) (Tables.follows Tryd.prog.toTables Departure.mixedOrders)) (cells false 2 (nth [int i64 p.atoms,af p.rules]))) (int u64 (↑(au p a):Int))) (cells false (n*1) fun a=>int u64 (↑(hgP p a):Int))) (cells false 1 fun x=>fn 82 0 (nth []) 1 (nth [ref 1 0]))) (ow true 7 (List.length (ai (au p a))) 1)) (fz Fz.nil 0 0 fun x x_1=>any)) (cells false (List.length (ai (au p a))*1) fun j=>int i64 (↑(List.getD (ai (au p a)) j 0):Int))) (int u64 (IntKind.wrap u64 (↑(BitVec.toNat (BitVec.ofInt 64 (↑left:Int) &&& ~~~BitVec.ofInt 64 (↑(au p a):Int))):Int)))) ([cells false 2 (nth [int i64 p.atoms,af p.rules]),cells false 1 fun x=>ow true 2 n 1,cells false (n*1) fun a=>int u64 (↑(hgP p a):Int),cells false 1 fun x=>fn 82 0 (nth []) 1 (nth [ref 1 0]),cells false 1 fun x=>fz Fz.nil 0 0 fun x x_1=>any,cells false 1 fun x=>int u64 (↑left:Int),cells false 1 fun x=>int u64 (↑(au p a):Int)])) (IntKind.wrap u64 (↑(BitVec.toNat (BitVec.ofInt 64 (IntKind.wrap u64 (↑(BitVec.toNat (BitVec.ofInt 64 (↑(hgP p a):Int)&&&BitVec.ofInt 64 (↑left:Int))):Int)) &&& ~~~BitVec.ofInt 64 (↑(au p a):Int))):Int)==0)) ([cells false 2 (nth [int i64 p.atoms,af p.rules]),cells false 1 fun x=>ow true 2 n 1,cells false (n*1) fun a=>int u64 (↑(hgP p a):Int),cells false 1 fun x=>fn 82 0 (nth []) 1 (nth [ref 1 0]),cells false 1 fun x=>fz Fz.nil 0 0 fun x x_1=>any,cells false 1 fun x=>int u64 (↑left:Int)])) ⟨omg,⟨rfl,(doT (T:=LT) [1,2] 6 (fun R _ g=>hO R g))⟩,krf,omg,omg,omg,omg,fun c1=>have c1:IntKind.wrap u64 (↑(BitVec.toNat (BitVec.ofInt 64 (IntKind.wrap u64 (↑(BitVec.toNat (BitVec.ofInt 64 (↑(hgP p a):Int)&&&BitVec.ofInt 64 (↑left:Int))):Int)) &&& ~~~BitVec.ofInt 64 (↑(au p a):Int))):Int)=0:=(beq_iff_eq.mp c1);⟨krf,omg,⟨rfl,(cx _ _ _ _)⟩,⟨rfl,(doT (T:=LT) [6] 7 (fun R _ g=>kJ R (au p a) (by simp at * <;> omega) g))⟩,omg,omg,omg,omg,omg,(fun c hc=>match c,hc with|0,_=>krf ),omg,omg,(fun c hc=>match c,hc with|0,_=>krf ),?_⟩,fun c1=>have c1:¬IntKind.wrap u64 (↑(BitVec.toNat (BitVec.ofInt 64 (IntKind.wrap u64 (↑(BitVec.toNat (BitVec.ofInt 64 (↑(hgP p a):Int)&&&BitVec.ofInt 64 (↑left:Int))):Int)) &&& ~~~BitVec.ofInt 64 (↑(au p a):Int))):Int)=0:=(beq_eq_false_iff_ne.mp c1);?_⟩
       ·exfalso
        rename_i c0
        exact absurd (hcd.symm.trans c0) dcd
       ·refine(d8 rfl (bg trivial rfl rfl))
      ·rw[hAK]
       have han:A<n:=by rw[<-hn];exact o4 A k4
       have hO:=fun (R:Res) [Tab LT R] (g:R.σ)=>kQ R p n A hr omg omg (fun b hb=>by have:=kX hr hx (a:=A) omg omg hb;omega) g
       have hcd:=(kW (p:=p) (a:=A) (fI hr omg) o3).trans k2
       have hw24:=qS p A
       have hC:=fun (R:Res) [Tab LT R] (s:Nat) (hs:s<2^24) (g:R.σ)=>g6 R s hs g
       refine vcR [] (lkL [(14,[4,6,7,8,9])]) (fun _=>[]) (fun (Q:AEx->St R.σ->Prop)=>Q AEx.normal (St.mk [(4,ref 1 0),(6,ref 3 0),(7,ref 4 0),(8,ref 5 0),(9,int i64 (↑A:Int))] [cells false 2 (nth [int i64 p.atoms,af p.rules]),cells false 1 fun (x:Nat)=>ow true 2 n 1,cells false (n*1) fun (a:Nat)=>int u64 (↑(hgP p a):Int),cells false 1 fun (x:Nat)=>fn 82 0 (nth []) 1 (nth [ref 1 0]),cells false 1 fun (x:Nat)=>fz Fz.nil 0 0 fun (x x_1:Nat)=>any,cells false 1 fun (x:Nat)=>int u64 (↑left:Int),dead] g)) (?_)
       show Wp _ _ _ 7 _ _ _ _ _
       refine vcR [] (lkL [(15,[4,6,7,8,9,10]),(16,[4,6,7,8,10,46]),(17,[4,6,7,8,10]),(18,[4,6,7,8])]) (lkL [(15,[(2,ROrc.kcall (int u64 (↑(au p A):Int)))]),(17,[(2,ROrc.callN (fn 105 0 (nth []) 1 (nth [ref (List.length [cells false 2 (nth [int i64 p.atoms,af p.rules]),cells false 1 fun (x:Nat)=>ow true 2 n 1,cells false (n*1) fun (a:Nat)=>int u64 (↑(hgP p a):Int),cells false 1 fun (x:Nat)=>fn 82 0 (nth []) 1 (nth [ref 1 0]),cells false 1 fun (x:Nat)=>fz Fz.nil 0 0 fun (x x_1:Nat)=>any,cells false 1 fun (x:Nat)=>int u64 (↑left:Int),dead]) 0])) [] [cells false 1 fun (x:Nat)=>int u64 (↑(au p A):Int)] g),(3,ROrc.callS (fz Fz.auto 1 (List.length (aj (au p A)).l) fun (i x:Nat)=>ah (aj (au p A)).l i) [(7,cells false 1 fun (j:Nat)=>any)] g),(5,ROrc.val (Orc.obj (aG ([]++[au p A])))),(6,ROrc.val (Orc.obj (nth [ow true 9 1 1])))]),(18,[(3,ROrc.val (Orc.obj (nth [int u64 (IntKind.wrap u64 (↑(BitVec.toNat (BitVec.ofInt 64 (↑left:Int) &&& ~~~BitVec.ofInt 64 (↑(au p A):Int))):Int))])))])]) (fun Q=>(fun (u1:List AObj)=>(fun (u2:Bool)=>(fun (u3:List AObj)=>(fun (u4:AV)=>(fun (u5:AV)=>(fun (u6:AV)=>(fun (u7:AObj)=>(fun (u8:AObj)=>(fun (u9:AV)=>(fun (u10:AObj)=>(fun (u11:Bool)=>1<=1/\(true=true/\Does Tryd.prog R 82 [int i64 (↑A:Int),ref 1 0] u1 g (ret u9) u1 g)/\u11=true/\1<=1/\(0<=(↑A:Int)/\(↑A:Int)<(↑n:Int))/\A+1<=n*1/\1<=1/\(u2=true->u11=true/\1<=1/\(true=true/\Does Tryd.prog R 77 [u9] u1 g (ret (fn 105 0 (nth []) 1 (nth [ref 7 0]))) u3 g)/\(true=true/\Does Tryd.prog R 75 [fn 105 0 (nth []) 1 (nth [ref 7 0])] u3 g (ret u5) [u10,cells false 1 fun x=>ow true 2 n 1,u8,u7,cells false 1 fun x=>u6,cells false 1 fun x=>int u64 (↑left:Int),dead,cells false 1 fun j=>any] g)/\0<1/\24<=aL/\1<=aL/\1<=1/\(∀(c:Nat),c<1->(fz Fz.auto 1 (List.length (aj (List.getD ([]++[au p A]) c 0)).l) fun i x=>ah (aj (List.getD ([]++[au p A]) c 0)).l i)=aW 1 0 (fun (x x_1:Nat)=>any) (fun (i j:Nat)=>al (fun (j:Nat)=>u6) 0 1 (fun (x:Nat)=>u5) (0+i*1+j)) c)/\1<=1/\(∀(c:Nat),c<1->nth [ow true 9 1 1] c=al (fun (x:Nat)=>u6) 0 1 (fun (x:Nat)=>ow true 9 1 1) c)/\1<=1/\1<=1/\(∀(c:Nat),c<1->nth [u4] c=al (fun (x:Nat)=>int u64 (↑left:Int)) 0 1 (fun (x:Nat)=>u4) c)/\Q (AEx.exit 3) (St.mk [(4,ref 1 0),(6,ref 3 0),(7,ref 4 0),(8,ref 5 0)] [u10,cells false 1 fun x=>ow true 2 n 1,u8,u7,cells false 1 (nth [ow true 9 1 1]),cells false 1 (nth [u4]),dead,cells false 1 fun j=>any,cells false 1 (al (fun (j:Nat)=>u6) 0 1 fun x=>u5),cells false 1 fun a=>fz Fz.auto 1 (List.length (aj (List.getD ([]++[au p A]) a 0)).l) fun i x=>ah (aj (List.getD ([]++[au p A]) a 0)).l i] g))/\(u2=false->Q AEx.normal (St.mk [(4,ref 1 0),(6,ref 3 0),(7,ref 4 0),(8,ref 5 0),(10,u9),(46,AV.bool u2)] u1 g))) (Tables.follows Tryd.prog.toTables Departure.mixedOrders)) (cells false 2 (nth [int i64 p.atoms,af p.rules]))) (int u64 (↑(au p A):Int))) (cells false (n*1) fun a=>int u64 (↑(hgP p a):Int))) (cells false 1 fun x=>fn 82 0 (nth []) 1 (nth [ref 1 0]))) (fz Fz.nil 0 0 fun x x_1=>any)) (fz Fz.auto 1 (List.length (aj (au p A)).l) fun i x=>ah (aj (au p A)).l i)) (int u64 (IntKind.wrap u64 (↑(BitVec.toNat (BitVec.ofInt 64 (↑left:Int) &&& ~~~BitVec.ofInt 64 (↑(au p A):Int))):Int)))) ([cells false 2 (nth [int i64 p.atoms,af p.rules]),cells false 1 fun x=>ow true 2 n 1,cells false (n*1) fun a=>int u64 (↑(hgP p a):Int),cells false 1 fun x=>fn 82 0 (nth []) 1 (nth [ref 1 0]),cells false 1 fun x=>fz Fz.nil 0 0 fun x x_1=>any,cells false 1 fun x=>int u64 (↑left:Int),dead,cells false 1 fun x=>int u64 (↑(au p A):Int)])) (IntKind.wrap u64 (↑(BitVec.toNat (BitVec.ofInt 64 (IntKind.wrap u64 (↑(BitVec.toNat (BitVec.ofInt 64 (↑(hgP p A):Int)&&&BitVec.ofInt 64 (↑left:Int))):Int)) &&& ~~~BitVec.ofInt 64 (↑(au p A):Int))):Int)==0)) ([cells false 2 (nth [int i64 p.atoms,af p.rules]),cells false 1 fun x=>ow true 2 n 1,cells false (n*1) fun a=>int u64 (↑(hgP p a):Int),cells false 1 fun x=>fn 82 0 (nth []) 1 (nth [ref 1 0]),cells false 1 fun x=>fz Fz.nil 0 0 fun x x_1=>any,cells false 1 fun x=>int u64 (↑left:Int),dead])) ⟨omg,⟨rfl,(doT (T:=LT) [1,2] 7 (fun R _ g=>hO R g))⟩,krf,omg,omg,omg,omg,fun c1=>have c1:IntKind.wrap u64 (↑(BitVec.toNat (BitVec.ofInt 64 (IntKind.wrap u64 (↑(BitVec.toNat (BitVec.ofInt 64 (↑(hgP p A):Int)&&&BitVec.ofInt 64 (↑left:Int))):Int)) &&& ~~~BitVec.ofInt 64 (↑(au p A):Int))):Int)=0:=(beq_iff_eq.mp c1);⟨krf,omg,⟨rfl,(cx _ _ _ _)⟩,⟨rfl,(doT (T:=LT) [7] 8 (fun R _ g=>hC R (au p A) omg g))⟩,omg,omg,omg,omg,?_,omg,(fun c hc=>match c,hc with|0,_=>krf ),omg,omg,(fun c hc=>match c,hc with|0,_=>krf ),?_⟩,fun c1=>have c1:¬IntKind.wrap u64 (↑(BitVec.toNat (BitVec.ofInt 64 (IntKind.wrap u64 (↑(BitVec.toNat (BitVec.ofInt 64 (↑(hgP p A):Int)&&&BitVec.ofInt 64 (↑left:Int))):Int)) &&& ~~~BitVec.ofInt 64 (↑(au p A):Int))):Int)=0:=(beq_eq_false_iff_ne.mp c1);?_⟩
       ·exact fun c hc=>(kY (L:=[]) (m:=0) (z:=fun _=>.fz .nil 0 0 (fun _ _=>.any)) (old:=fun _ _=>.any) (by assumption) (fun i hi=>absurd hi (Nat.not_lt_zero i)) hc).trans krf
       ·show Cl R 0 (eS _ _) AEx.normal _
        refine(aY (0+1,[]++[au p A],dj left (au p A)) (toS [0,1,2,3,4,5,9] 10 (hob:=⟨⟨rfl,Nat.le_refl _,fun j hj=>match j,hj with|0,_=>(yu _)|1,_=>(yu _) ⟩,⟨rfl,Nat.le_refl _,fun j hj=>match j,hj with|0,_=>(yu _) ⟩,?_,⟨rfl,Nat.le_refl _,fun j hj=>match j,hj with|0,_=>(Le.fn (fun i hi=>absurd hi omg) (fun i hi=>match i,hi with|0,_=>(yu _) )) ⟩,⟨rfl,Nat.le_refl _,fun j hj=>match j,hj with|0,_=>(yu _) ⟩,⟨rfl,Nat.le_refl _,fun j hj=>match j,hj with|0,_=>(yv ?_) ⟩,⟨rfl,Nat.le_refl _,fun j hj=>match j,hj with|0,_=>(yu _) ⟩,trivial⟩)) ?_ ?_)
        ·exact⟨rfl,Nat.le_refl _,fun j _=>yv rfl⟩
        ·show AV.int .u64 _=AV.int .u64 _
         rw[ni o3]
        ·exact hnx.1
        ·exact hnx.2
       ·exfalso
        rename_i c0
        exact absurd (hcd.symm.trans c0) dcd
      ·exact absurd k1 omg
     ·refine rr 33 [34] 7 krf rfl rfl left K o3 [.cells false 2 (nth [.int .i64 p.atoms,af p.rules]),.cells false 1 (fun _=>.ow true 2 n 1),.cells false (n*1) (onC p),.cells false 1 (fun _=>.fn 82 0 (nth []) 1 (nth [.ref 1 0])),.cells false 1 (fun _=>.ow true 6 m 1),.cells false 1 (fun _=>.int .u64 left),.cells false (m*1) (aG L)] (eW rfl rfl) rfl (by exact⟨omg,omg,omg,omg,omg,omg,omg,omg,trivial⟩) (by exact⟨fun j hj=>(match j,hj with|0,_=>trivial|1,_=>trivial),fun _ _=>show 2<7 by omega,fun _ _=>trivial,fun _ _=>⟨trivial,trivial,show 1<7 by omega⟩,fun _ _=>show 6<7 by omega,fun _ _=>trivial,fun _ _=>trivial,trivial⟩) rfl krf [4,6,7,8] (by exact⟨show 1<7 by omega,show 3<7 by omega,show 4<7 by omega,show 5<7 by omega,trivial⟩) (fun k l' hk hkN=>?_) (fun hKN pok l'=>?_) (fun h=>?_)
      ·obtain⟨a,ha⟩:∃a,(ai left).getD k 0=a:=⟨_,rfl⟩
       have ham:a∈ai left:=by rw[<-ha];exact bX _ 0 hkN
       have han:a<n:=by rw[<-hn];exact o4 a ham
       have h3:=k3 k hk
       rw[ha] at h3 ⊢
       have hO:=fun (R:Res) [Tab LT R] (g:R.σ)=>kQ R p n a hr omg omg (fun b hb=>by have:=kX hr hx (a:=a) omg omg hb;omega) g
       have hcd:=(kW (p:=p) (a:=a) (fI hr omg) o3).trans h3
       refine vcR [] (lkL [(14,[4,6,7,8,9])]) (fun _=>[]) (fun (Q:AEx->St R.σ->Prop)=>Q AEx.normal (St.mk [(4,ref 1 0),(6,ref 3 0),(7,ref 4 0),(8,ref 5 0),(9,int i64 (↑a:Int))] [cells false 2 (nth [int i64 p.atoms,af p.rules]),cells false 1 fun (x:Nat)=>ow true 2 n 1,cells false (n*1) fun (a:Nat)=>int u64 (↑(hgP p a):Int),cells false 1 fun (x:Nat)=>fn 82 0 (nth []) 1 (nth [ref 1 0]),cells false 1 fun (x:Nat)=>ow true 6 m 1,cells false 1 fun (x:Nat)=>int u64 (↑left:Int),cells false (m*1) fun (a:Nat)=>fz Fz.auto 1 (List.length (aj (List.getD L a 0)).l) fun (i x:Nat)=>ah (aj (List.getD L a 0)).l i] g)) (?_)
       show Wp _ _ _ 7 _ _ _ _ _
       refine vcR [] (lkL [(15,[4,6,7,8,9,10]),(16,[4,6,7,8,10,46]),(17,[4,6,7,8,10]),(18,[4,6,7,8])]) (lkL [(15,[(2,ROrc.kcall (int u64 (↑(au p a):Int)))]),(17,[(2,ROrc.callN (fn 105 0 (nth []) 1 (nth [ref (List.length [cells false 2 (nth [int i64 p.atoms,af p.rules]),cells false 1 fun (x:Nat)=>ow true 2 n 1,cells false (n*1) fun (a:Nat)=>int u64 (↑(hgP p a):Int),cells false 1 fun (x:Nat)=>fn 82 0 (nth []) 1 (nth [ref 1 0]),cells false 1 fun (x:Nat)=>ow true 6 m 1,cells false 1 fun (x:Nat)=>int u64 (↑left:Int),cells false (m*1) fun (a:Nat)=>fz Fz.auto 1 (List.length (aj (List.getD L a 0)).l) fun (i x:Nat)=>ah (aj (List.getD L a 0)).l i]) 0])) [] [cells false 1 fun (x:Nat)=>int u64 (↑(au p a):Int)] g),(3,ROrc.callN (ow true 8 (List.length (ai (au p a))) 1) [(7,cells false 1 fun (j:Nat)=>any)] [cells false (List.length (ai (au p a))*1) fun (j:Nat)=>int i64 (↑(List.getD (ai (au p a)) j 0):Int)] g),(6,ROrc.val (Orc.obj (nth [ow true 10 (m+1) 1])))]),(18,[(3,ROrc.val (Orc.obj (nth [int u64 (IntKind.wrap u64 (↑(BitVec.toNat (BitVec.ofInt 64 (↑left:Int) &&& ~~~BitVec.ofInt 64 (↑(au p a):Int))):Int))])))])]) (fun Q=>(fun (u1:List AObj)=>(fun (u2:List AObj)=>(fun (u3:Bool)=>(fun (u4:AV)=>(fun (u5:AObj)=>(fun (u6:AV)=>(fun (u7:AObj)=>(fun (u8:AObj)=>(fun (u9:AV)=>(fun (u10:AObj)=>(fun (u11:Bool)=>1<=1/\(true=true/\Does Tryd.prog R 82 [int i64 (↑a:Int),ref 1 0] u1 g (ret u9) u1 g)/\u11=true/\1<=1/\(0<=(↑a:Int)/\(↑a:Int)<(↑n:Int))/\a+1<=n*1/\1<=1/\(u3=true->u11=true/\1<=1/\(true=true/\Does Tryd.prog R 77 [u9] u1 g (ret (fn 105 0 (nth []) 1 (nth [ref 7 0]))) u2 g)/\(true=true/\Does Tryd.prog R 75 [fn 105 0 (nth []) 1 (nth [ref 7 0])] u2 g (ret u6) [u10,cells false 1 fun x=>ow true 2 n 1,u8,u7,cells false 1 fun x=>ow true 6 m 1,cells false 1 fun x=>int u64 (↑left:Int),cells false (m*1) fun a=>fz Fz.auto 1 (List.length (aj (List.getD L a 0)).l) fun i x=>ah (aj (List.getD L a 0)).l i,cells false 1 fun j=>any,u5] g)/\0<1/\(m+1)*24<=aL/\m+1<=aL/\1<=1/\m*1<=m*1/\1<=1/\(∀(c:Nat),c<1->nth [ow true 10 (m+1) 1] c=al (fun (x:Nat)=>ow true 6 m 1) 0 1 (fun (x:Nat)=>ow true 10 (m+1) 1) c)/\1<=1/\1<=1/\(∀(c:Nat),c<1->nth [u4] c=al (fun (x:Nat)=>int u64 (↑left:Int)) 0 1 (fun (x:Nat)=>u4) c)/\Q (AEx.exit 3) (St.mk [(4,ref 1 0),(6,ref 3 0),(7,ref 4 0),(8,ref 5 0)] [u10,cells false 1 fun x=>ow true 2 n 1,u8,u7,cells false 1 (nth [ow true 10 (m+1) 1]),cells false 1 (nth [u4]),dead,cells false 1 fun j=>any,u5,cells false 1 (al (fun (j:Nat)=>fz Fz.nil 0 0 fun x x_1=>any) 0 1 fun x=>u6),cells false ((m+1)*1) (aW 1 m (fun (i j:Nat)=>fz Fz.auto 1 (List.length (aj (List.getD L (i*1+j) 0)).l) fun i_1 x=>ah (aj (List.getD L (i*1+j) 0)).l i_1) fun i j=>al (fun (j:Nat)=>fz Fz.nil 0 0 fun x x_1=>any) 0 1 (fun (x:Nat)=>u6) (0+i*1+j))] g))/\(u3=false->Q AEx.normal (St.mk [(4,ref 1 0),(6,ref 3 0),(7,ref 4 0),(8,ref 5 0),(10,u9),(46,AV.bool u3)] u1 g))) (Tables.follows Tryd.prog.toTables Departure.mixedOrders)) (cells false 2 (nth [int i64 p.atoms,af p.rules]))) (int u64 (↑(au p a):Int))) (cells false (n*1) fun a=>int u64 (↑(hgP p a):Int))) (cells false 1 fun x=>fn 82 0 (nth []) 1 (nth [ref 1 0]))) (ow true 8 (List.length (ai (au p a))) 1)) (cells false (List.length (ai (au p a))*1) fun j=>int i64 (↑(List.getD (ai (au p a)) j 0):Int))) (int u64 (IntKind.wrap u64 (↑(BitVec.toNat (BitVec.ofInt 64 (↑left:Int) &&& ~~~BitVec.ofInt 64 (↑(au p a):Int))):Int)))) (IntKind.wrap u64 (↑(BitVec.toNat (BitVec.ofInt 64 (IntKind.wrap u64 (↑(BitVec.toNat (BitVec.ofInt 64 (↑(hgP p a):Int)&&&BitVec.ofInt 64 (↑left:Int))):Int)) &&& ~~~BitVec.ofInt 64 (↑(au p a):Int))):Int)==0)) ([cells false 2 (nth [int i64 p.atoms,af p.rules]),cells false 1 fun x=>ow true 2 n 1,cells false (n*1) fun a=>int u64 (↑(hgP p a):Int),cells false 1 fun x=>fn 82 0 (nth []) 1 (nth [ref 1 0]),cells false 1 fun x=>ow true 6 m 1,cells false 1 fun x=>int u64 (↑left:Int),cells false (m*1) fun a=>fz Fz.auto 1 (List.length (aj (List.getD L a 0)).l) fun i x=>ah (aj (List.getD L a 0)).l i,cells false 1 fun x=>int u64 (↑(au p a):Int)])) ([cells false 2 (nth [int i64 p.atoms,af p.rules]),cells false 1 fun x=>ow true 2 n 1,cells false (n*1) fun a=>int u64 (↑(hgP p a):Int),cells false 1 fun x=>fn 82 0 (nth []) 1 (nth [ref 1 0]),cells false 1 fun x=>ow true 6 m 1,cells false 1 fun x=>int u64 (↑left:Int),cells false (m*1) fun a=>fz Fz.auto 1 (List.length (aj (List.getD L a 0)).l) fun i x=>ah (aj (List.getD L a 0)).l i])) ⟨omg,⟨rfl,(doT (T:=LT) [1,2] 7 (fun R _ g=>hO R g))⟩,krf,omg,omg,omg,omg,fun c1=>have c1:IntKind.wrap u64 (↑(BitVec.toNat (BitVec.ofInt 64 (IntKind.wrap u64 (↑(BitVec.toNat (BitVec.ofInt 64 (↑(hgP p a):Int)&&&BitVec.ofInt 64 (↑left:Int))):Int)) &&& ~~~BitVec.ofInt 64 (↑(au p a):Int))):Int)=0:=(beq_iff_eq.mp c1);⟨krf,omg,⟨rfl,(cx _ _ _ _)⟩,⟨rfl,(doT (T:=LT) [7] 8 (fun R _ g=>kJ R (au p a) (by simp at * <;> omega) g) (e3:=by exact⟨yw,yw,yw,yw,yw,yw,yw,yw,yw,trivial⟩))⟩,omg,omg,omg,omg,omg,omg,(fun c hc=>match c,hc with|0,_=>krf ),omg,omg,(fun c hc=>match c,hc with|0,_=>krf ),?_⟩,fun c1=>have c1:¬IntKind.wrap u64 (↑(BitVec.toNat (BitVec.ofInt 64 (IntKind.wrap u64 (↑(BitVec.toNat (BitVec.ofInt 64 (↑(hgP p a):Int)&&&BitVec.ofInt 64 (↑left:Int))):Int)) &&& ~~~BitVec.ofInt 64 (↑(au p a):Int))):Int)=0:=(beq_eq_false_iff_ne.mp c1);?_⟩
       ·exfalso
        rename_i c0
        exact absurd (hcd.symm.trans c0) dcd
       ·refine(d8 rfl (bg trivial rfl rfl))
      ·rw[hAK]
       have han:A<n:=by rw[<-hn];exact o4 A k4
       have hO:=fun (R:Res) [Tab LT R] (g:R.σ)=>kQ R p n A hr omg omg (fun b hb=>by have:=kX hr hx (a:=A) omg omg hb;omega) g
       have hcd:=(kW (p:=p) (a:=A) (fI hr omg) o3).trans k2
       have hw24:=qS p A
       have hC:=fun (R:Res) [Tab LT R] (s:Nat) (hs:s<2^24) (g:R.σ)=>g6 R s hs g
       refine vcR [] (lkL [(14,[4,6,7,8,9])]) (fun _=>[]) (fun (Q:AEx->St R.σ->Prop)=>Q AEx.normal (St.mk [(4,ref 1 0),(6,ref 3 0),(7,ref 4 0),(8,ref 5 0),(9,int i64 (↑A:Int))] [cells false 2 (nth [int i64 p.atoms,af p.rules]),cells false 1 fun (x:Nat)=>ow true 2 n 1,cells false (n*1) fun (a:Nat)=>int u64 (↑(hgP p a):Int),cells false 1 fun (x:Nat)=>fn 82 0 (nth []) 1 (nth [ref 1 0]),cells false 1 fun (x:Nat)=>ow true 6 m 1,cells false 1 fun (x:Nat)=>int u64 (↑left:Int),cells false (m*1) fun (a:Nat)=>fz Fz.auto 1 (List.length (aj (List.getD L a 0)).l) fun (i x:Nat)=>ah (aj (List.getD L a 0)).l i,dead] g)) (?_)
       show Wp _ _ _ 8 _ _ _ _ _
       refine vcR [] (lkL [(15,[4,6,7,8,9,10]),(16,[4,6,7,8,10,46]),(17,[4,6,7,8,10]),(18,[4,6,7,8])]) (lkL [(15,[(2,ROrc.kcall (int u64 (↑(au p A):Int)))]),(17,[(2,ROrc.callN (fn 105 0 (nth []) 1 (nth [ref (List.length [cells false 2 (nth [int i64 p.atoms,af p.rules]),cells false 1 fun (x:Nat)=>ow true 2 n 1,cells false (n*1) fun (a:Nat)=>int u64 (↑(hgP p a):Int),cells false 1 fun (x:Nat)=>fn 82 0 (nth []) 1 (nth [ref 1 0]),cells false 1 fun (x:Nat)=>ow true 6 m 1,cells false 1 fun (x:Nat)=>int u64 (↑left:Int),cells false (m*1) fun (a:Nat)=>fz Fz.auto 1 (List.length (aj (List.getD L a 0)).l) fun (i x:Nat)=>ah (aj (List.getD L a 0)).l i,dead]) 0])) [] [cells false 1 fun (x:Nat)=>int u64 (↑(au p A):Int)] g),(3,ROrc.callS (fz Fz.auto 1 (List.length (aj (au p A)).l) fun (i x:Nat)=>ah (aj (au p A)).l i) [(8,cells false 1 fun (j:Nat)=>any)] g),(5,ROrc.val (Orc.obj (aG (L++[au p A])))),(6,ROrc.val (Orc.obj (nth [ow true 10 (m+1) 1])))]),(18,[(3,ROrc.val (Orc.obj (nth [int u64 (IntKind.wrap u64 (↑(BitVec.toNat (BitVec.ofInt 64 (↑left:Int) &&& ~~~BitVec.ofInt 64 (↑(au p A):Int))):Int))])))])]) (fun Q=>(fun (u1:List AObj)=>(fun (u2:List AObj)=>(fun (u3:Bool)=>(fun (u4:AV)=>(fun (u5:AV)=>(fun (u6:AObj)=>(fun (u7:AObj)=>(fun (u8:AV)=>(fun (u9:AObj)=>1<=1/\(true=true/\Does Tryd.prog R 82 [int i64 (↑A:Int),ref 1 0] u1 g (ret u8) u1 g)/\Flw Tryd.prog/\1<=1/\(0<=(↑A:Int)/\(↑A:Int)<(↑n:Int))/\A+1<=n*1/\1<=1/\(u3=true->Flw Tryd.prog/\1<=1/\(true=true/\Does Tryd.prog R 77 [u8] u1 g (ret (fn 105 0 (nth []) 1 (nth [ref 8 0]))) u2 g)/\(true=true/\Does Tryd.prog R 75 [fn 105 0 (nth []) 1 (nth [ref 8 0])] u2 g (ret u5) [u9,cells false 1 fun x=>ow true 2 n 1,u7,u6,cells false 1 fun x=>ow true 6 m 1,cells false 1 fun x=>int u64 (↑left:Int),cells false (m*1) fun a=>fz Fz.auto 1 (List.length (aj (List.getD L a 0)).l) fun i x=>ah (aj (List.getD L a 0)).l i,dead,cells false 1 fun j=>any] g)/\0<1/\(m+1)*24<=aL/\m+1<=aL/\1<=1/\m*1<=m*1/\(∀(c:Nat),c<(m+1)*1->(fz Fz.auto 1 (List.length (aj (List.getD (L++[au p A]) c 0)).l) fun i x=>ah (aj (List.getD (L++[au p A]) c 0)).l i)=aW 1 m (fun (i j:Nat)=>fz Fz.auto 1 (List.length (aj (List.getD L (i*1+j) 0)).l) fun i_1 x=>ah (aj (List.getD L (i*1+j) 0)).l i_1) (fun (i j:Nat)=>al (fun (j:Nat)=>fz Fz.nil 0 0 fun x x_1=>any) 0 1 (fun (x:Nat)=>u5) (0+i*1+j)) c)/\1<=1/\(∀(c:Nat),c<1->nth [ow true 10 (m+1) 1] c=al (fun (x:Nat)=>ow true 6 m 1) 0 1 (fun (x:Nat)=>ow true 10 (m+1) 1) c)/\1<=1/\1<=1/\(∀(c:Nat),c<1->nth [u4] c=al (fun (x:Nat)=>int u64 (↑left:Int)) 0 1 (fun (x:Nat)=>u4) c)/\Q (AEx.exit 3) (St.mk [(4,ref 1 0),(6,ref 3 0),(7,ref 4 0),(8,ref 5 0)] [u9,cells false 1 fun x=>ow true 2 n 1,u7,u6,cells false 1 (nth [ow true 10 (m+1) 1]),cells false 1 (nth [u4]),dead,dead,cells false 1 fun j=>any,cells false 1 (al (fun (j:Nat)=>fz Fz.nil 0 0 fun x x_1=>any) 0 1 fun x=>u5),cells false ((m+1)*1) fun a=>fz Fz.auto 1 (List.length (aj (List.getD (L++[au p A]) a 0)).l) fun i x=>ah (aj (List.getD (L++[au p A]) a 0)).l i] g))/\(u3=false->Q AEx.normal (St.mk [(4,ref 1 0),(6,ref 3 0),(7,ref 4 0),(8,ref 5 0),(10,u8),(46,AV.bool u3)] u1 g))) (cells false 2 (nth [int i64 p.atoms,af p.rules]))) (int u64 (↑(au p A):Int))) (cells false (n*1) fun a=>int u64 (↑(hgP p a):Int))) (cells false 1 fun x=>fn 82 0 (nth []) 1 (nth [ref 1 0]))) (fz Fz.auto 1 (List.length (aj (au p A)).l) fun i x=>ah (aj (au p A)).l i)) (int u64 (IntKind.wrap u64 (↑(BitVec.toNat (BitVec.ofInt 64 (↑left:Int) &&& ~~~BitVec.ofInt 64 (↑(au p A):Int))):Int)))) (IntKind.wrap u64 (↑(BitVec.toNat (BitVec.ofInt 64 (IntKind.wrap u64 (↑(BitVec.toNat (BitVec.ofInt 64 (↑(hgP p A):Int)&&&BitVec.ofInt 64 (↑left:Int))):Int)) &&& ~~~BitVec.ofInt 64 (↑(au p A):Int))):Int)==0)) ([cells false 2 (nth [int i64 p.atoms,af p.rules]),cells false 1 fun x=>ow true 2 n 1,cells false (n*1) fun a=>int u64 (↑(hgP p a):Int),cells false 1 fun x=>fn 82 0 (nth []) 1 (nth [ref 1 0]),cells false 1 fun x=>ow true 6 m 1,cells false 1 fun x=>int u64 (↑left:Int),cells false (m*1) fun a=>fz Fz.auto 1 (List.length (aj (List.getD L a 0)).l) fun i x=>ah (aj (List.getD L a 0)).l i,dead,cells false 1 fun x=>int u64 (↑(au p A):Int)])) ([cells false 2 (nth [int i64 p.atoms,af p.rules]),cells false 1 fun x=>ow true 2 n 1,cells false (n*1) fun a=>int u64 (↑(hgP p a):Int),cells false 1 fun x=>fn 82 0 (nth []) 1 (nth [ref 1 0]),cells false 1 fun x=>ow true 6 m 1,cells false 1 fun x=>int u64 (↑left:Int),cells false (m*1) fun a=>fz Fz.auto 1 (List.length (aj (List.getD L a 0)).l) fun i x=>ah (aj (List.getD L a 0)).l i,dead])) ⟨omg,⟨rfl,(doT (T:=LT) [1,2] 8 (fun R _ g=>hO R g))⟩,krf,omg,omg,omg,omg,fun c1=>have c1:IntKind.wrap u64 (↑(BitVec.toNat (BitVec.ofInt 64 (IntKind.wrap u64 (↑(BitVec.toNat (BitVec.ofInt 64 (↑(hgP p A):Int)&&&BitVec.ofInt 64 (↑left:Int))):Int)) &&& ~~~BitVec.ofInt 64 (↑(au p A):Int))):Int)=0:=(beq_iff_eq.mp c1);⟨krf,omg,⟨rfl,(cx _ _ _ _)⟩,⟨rfl,(doT (T:=LT) [8] 9 (fun R _ g=>hC R (au p A) omg g))⟩,omg,omg,omg,omg,omg,?_,omg,(fun c hc=>match c,hc with|0,_=>krf ),omg,omg,(fun c hc=>match c,hc with|0,_=>krf ),?_⟩,fun c1=>have c1:¬IntKind.wrap u64 (↑(BitVec.toNat (BitVec.ofInt 64 (IntKind.wrap u64 (↑(BitVec.toNat (BitVec.ofInt 64 (↑(hgP p A):Int)&&&BitVec.ofInt 64 (↑left:Int))):Int)) &&& ~~~BitVec.ofInt 64 (↑(au p A):Int))):Int)=0:=(beq_eq_false_iff_ne.mp c1);?_⟩
       ·exact fun c hc=>(kY (L:=L) (m:=m) (z:=fun _=>.fz .nil 0 0 (fun _ _=>.any)) (old:=fun i j=>aG L (i*1+j)) (by assumption) (fun i hi=>by show aG L (i*1+0)=aG L i;rw[show i*1+0=i by omega]) hc).trans krf
       ·show Cl R 0 (eS _ _) AEx.normal _
        refine(aY (m+1,L++[au p A],dj left (au p A)) (toS [0,1,2,3,4,5,10] 11 (hob:=⟨⟨rfl,Nat.le_refl _,fun j hj=>match j,hj with|0,_=>(yu _)|1,_=>(yu _) ⟩,⟨rfl,Nat.le_refl _,fun j hj=>match j,hj with|0,_=>(yu _) ⟩,?_,⟨rfl,Nat.le_refl _,fun j hj=>match j,hj with|0,_=>(Le.fn (fun i hi=>absurd hi omg) (fun i hi=>match i,hi with|0,_=>(yu _) )) ⟩,⟨rfl,Nat.le_refl _,fun j hj=>match j,hj with|0,_=>(yu _) ⟩,⟨rfl,Nat.le_refl _,fun j hj=>match j,hj with|0,_=>(yv ?_) ⟩,?_,trivial⟩)) ?_ ?_)
        ·exact⟨rfl,Nat.le_refl _,fun j _=>yv rfl⟩
        ·show AV.int .u64 _=AV.int .u64 _
         rw[ni o3]
        ·exact⟨rfl,Nat.le_refl _,fun j _=>yv rfl⟩
        ·exact hnx.1
        ·exact hnx.2
       ·exfalso
        rename_i c0
        exact absurd (hcd.symm.trans c0) dcd
      ·exact absurd k1 omg
    ·have hl0:left=0:=by omega
     subst hl0
     have hLo:L=ck p:=by
      obtain⟨f,f1,f2⟩:=o5
      obtain⟨f,rfl⟩:∃k,f=k+1:=⟨f-1,omg⟩
      rw[<-f2]
      show L=L++(if (0:Nat)=0 then[] else _)
      rw[if_pos rfl,List.append_nil]
     subst hLo
     subst o1
     refine⟨_,yG _,vcR [] (lkL [(19,[2,3])]) (fun _=>[]) (fun Q=>1<=1/\Q AEx.ret (St.mk [(2,ow true 6 (List.length (ck p)) 1),(3,int i64 0)] [cells false 2 (nth [int i64 p.atoms,af p.rules]),cells false 1 fun x=>ow true 2 n 1,cells false (n*1) fun a=>int u64 (↑(hgP p a):Int),cells false 1 fun x=>fn 82 0 (nth []) 1 (nth [ref 1 0]),cells false 1 fun x=>ow true 6 (List.length (ck p)) 1,cells false 1 fun x=>int u64 (↑0:Int),cells false (List.length (ck p)*1) fun a=>fz Fz.auto 1 (List.length (aj (List.getD (ck p) a 0)).l) fun i x=>ah (aj (List.getD (ck p) a 0)).l i] g)) ⟨omg,?_⟩⟩
     show bw Tryd.prog R 0 _ _ _ _ .ret _
     refine eU (.tup 2 (nth [.ow true 6 (ck p).length 1,.int .i64 0])) _ rfl trivial (i3 0 [(0,.tup 2 (nth [cw (ck p).length (fun i=>aj ((ck p).getD i 0)),.int .i64 0]))] (Nat.le_refl _) (Nat.zero_le _) (fun i hi=>absurd hi (Nat.not_lt_zero i)) ⟨aA.tup (fun j hj=>?_),trivial⟩)
     match j,hj with
     |0,_=>exact aA.le (aA.ow (o:=6) (N:=(ck p).length*1) (c:=aG (ck p)) (get:=aG (ck p)) (fr:=false) rfl (Nat.zero_le _) (Nat.le_refl _) dcd (fun j _=>yB (eZ _ _))) (yA rfl (fun i j hi hj=>by
       show aG (ck p) (i*1+j)=_
       rw[show i*1+j=i by omega]
       rfl))
     |1,_=>exact yB trivial
end Go.Avm.Pack
