/- Part 2 of the proof: lemmas. -/
import Derived.Test.YtbdagmhndndliaaDoorM1
namespace Go.Avm
open Go
section
variable {P:Program}{R:Res}
theorem jH {k0:Nat}{hp':List AObj}{g g':R.σ}{FM:Mem}{Z:Plc}{w:World}{s s':St R.σ}{v:AV}{FM':Mem}{Z':Plc}{w':World}{u:Value}(hC:Z.length=k0)(ok':Ok R s.hp s.g FM' Z' w')(go':Goes R g FM Z w s.g FM' Z' w')(hd:Den FM' Z' v u)
  (hto:To R k0 ⟨[(0,v)],s.hp,s.g⟩ s') (e1:s'.hp=hp') (e2:s'.g=g'):∃FM'' Z'',Den FM'' Z'' (lk s'.fr 0) u/\Ok R hp' g' FM'' Z'' w'/\Goes R g FM Z w g' FM'' Z'' w':=by
 obtain⟨FM'',Z'',a1,a2,a3,a4,a5,a6,a7⟩:=hto Z FM' Z' w' (fun t=>if t=0 then u else undef) hC go'.sub ok' (fun t=>by
  unfold lk
  cases hb:Nat.beq t 0 with
  |true=>have:=Nat.eq_of_beq_eq_true hb
         subst this;exact hd
  |false=>trivial)
 have hd':=a2 0
 simp only[if_true] at hd'
 subst e1
 subst e2
 refine⟨FM'',Z'',hd',a1,⟨fun b o hb=>a4 b o (go'.ext.fm b o hb),fun b o hb=>?_,fun b hb=>go'.ext.blk b (a6 b hb),go'.ext.keep,go'.ext.size,go'.ext.os,go'.ext.tape,go'.ext.output⟩,by rw[a7];exact go'.bn,a3⟩
 rcases a5 b o hb with h1|h1
 ·exact go'.ext.grow b o h1
 ·rcases go'.ext.blk b h1 with h2|h2
  ·exact .inr (.inr (.inl h2))
  ·exact .inr (.inl h2)
def du (rec:Bool):Option Value->FrameMode
 |none=>.returning
 |some v=>.panicking [{ v:=v,recovered:=rec }]
def qC (FM:Mem)(Z:Plc):Option AV->Option Value->Prop
 |none,none=>True
 |some x,some v=>Den FM Z x v
 |_,_=>False
def rvA:Option AV->AV
 |none=>.nili
 |some x=>x
structure DoesD (P:Program)(R:Res)(f:FuncId)(args:List AV)(hp:List AObj)(g:R.σ)(rv:Option AV)(hp':List AObj)(g':R.σ):Prop where
 h:∀FM Z w vs u,Ok R hp g FM Z w->bQ FM Z args vs->qC FM Z rv u ->
  CallsD P f vs (du false u) w (fun e u' w'=>(∃r,e=.returned r)/\u'=du true u/\∃FM' Z',Ok R hp' g' FM' Z' w'/\Goes R g FM Z w g' FM' Z' w')
def gK (d0 d1:Nat):List Oper->Bool
 |[o,p]=>(match o.op with
  |.call c=>(match c.callee with
   |.builtin .recover=>c.args.isEmpty
   |_=>false)
  |_=>false)&&(match p.op with
  |.assign (.tmp t)=>Nat.beq t d0
  |_=>false)&&eW d0 o.dst&&eW d1 p.dst&&cj o.guard&&cj p.guard
 |_=>false
theorem vS {d0 d1:Nat}:∀{l:List Oper},gK d0 d1 l=true->∃o p,l=[o,p]
 |[],h=>by simp[gK] at h
 |[_],h=>by simp[gK] at h
 |[o,p],_=>⟨o,p,rfl⟩
 |_::_::_::_,h=>by simp[gK] at h
theorem vT {f:FuncId}{fn:Func}{id:Nat}{ops:Array Oper}{B:Code}{args:List AV}{hp hp':List AObj}{g g':R.σ}{rv:Option AV}(d0 d1:Nat)(hf:P.funcs[f]? = some fn)(hb:fn.body=some (.seq (.region id ops false) B))
  (hops:gK d0 d1 ops.toList=true) (h0:args.length<=d0) (h1:args.length<=d1) (h2:d0≠d1) (h3:d0<fn.ntmps) (h4:d1<fn.ntmps)
  (h:wpA P R fn.ntmps hp.length .no B (bC P R hp.length fn.results.toList (.ret (.tup 0 (nth []))) hp' g') ⟨(d1,rvA rv)::ck 0 args,hp,g⟩):DoesD P R f args hp g rv hp' g':=by
 refine⟨fun FM Z w vs u ok hvs hrv=>callsD_of_wpS hf hb (fun c₀ cs hc=>wpS_seq (wpS_region ?_))⟩
 obtain⟨o,p,rfl⟩:∃o p,ops=#[o,p]:=by
  obtain⟨o,p,e⟩:=vS hops
  exact⟨o,p,Array.ext' e⟩
 simp only[gK,Bool.and_eq_true] at hops
 obtain⟨⟨⟨⟨⟨ho,hp0⟩,hd0⟩,hd1⟩,hg0⟩,hg1⟩:=hops
 have noG:∀{x:Option (Nat × Bool)},cj x=true->x=none:=fun {x} h=>by cases x <;> first|rfl|cases h
 have hg0:=noG hg0
 have hg1:=noG hg1
 have hd0:=io.1 hd0
 have hd1:=io.1 hd1
 have hrec:∀ev:Operand->Value,(execOp ev o).run P w=.ok .recover w:=by
  intro ev
  split at ho
  ·rename_i c hop
   split at ho
   ·rename_i hcal
    have:c.args=#[]:=by simpa using ho
    simp[execOp,hop,resolve,hcal,this,invoke,builtin]
   ·cases ho
  ·cases ho
 have hasg:∀ev:Operand->Value,(execOp ev p).run P w=.ok (.value (ev (.tmp d0))) w:=by
  intro ev
  split at hp0
  ·rename_i t hop
   have:=Nat.eq_of_beq_eq_true hp0
   subst this
   simp[execOp,hop]
  ·cases hp0
 have hw0:∀t,Region.wanted o t=true:=fun t=>by simp[Region.wanted,hg0]
 have hw1:∀t,Region.wanted p t=true:=fun t=>by simp[Region.wanted,hg1]
 have hsz:(vs++Array.replicate (fn.ntmps-vs.size) undef).size=fn.ntmps:=by simp[hvs.1];omega
 -- what comes behind, whatever was recovered
 have main:∀(v:Value) (cs':List Frame),Den FM Z (rvA rv) v->cs'={ c₀ with mode:=du true u }::cs ->
   B.wpS P (bodyPostS P fn c₀ cs (fun e u' w'=>(∃r,e=.returned r)/\u'=du true u/\∃FM' Z',Ok R hp' g' FM' Z' w'/\Goes R g FM Z w g' FM' Z' w'))
    (({ tmps:=vs++Array.replicate (fn.ntmps-vs.size) undef,defers:=[] }:Act).put (some d0) v |>.put (some d1) v) cs' w:=by
  intro v cs' hv hcs
  refine wpS_of_wp ((wpIn_wide (n:=0)).1 ?_)
  let C:Cx R:=⟨g,FM,Z,w,[],false⟩
  have hsat:Sat R C fn.ntmps ⟨(d1,rvA rv)::ck 0 args,hp,g⟩ FM Z (({ tmps:=vs++Array.replicate (fn.ntmps-vs.size) undef,defers:=[] }:Act).put (some d0) v |>.put (some d1) v) w:=by
   refine⟨ok,BA _ _ _ _ _,by rw[im,im];exact hsz,by rw[jm,jm];exact .start,fun t=>?_⟩
   show Den FM Z (lk ((d1,rvA rv)::ck 0 args) t) _
   unfold lk
   cases hbt:Nat.beq t d1 with
   |true=>
    have:=Nat.eq_of_beq_eq_true hbt
    subst this
    rw[jl (by rw[im,hsz];exact h4)]
    exact hv
   |false=>
    have hne:t≠d1:=fun e=>by subst e;simp at hbt
    simp only[cond_false]
    rw[kP]
    simp only[Nat.zero_le,if_true,Nat.sub_zero]
    rcases Nat.lt_or_ge t args.length with ht|ht
    ·rw[eH (fun e=>hne (by simpa using e.symm)),eH (fun e=>by have:d0=t:=by simpa using e
                                                              omega)]
     have:=hvs.2 t ht
     have e:(vs++Array.replicate (fn.ntmps-vs.size) undef).getD t undef=vs.getD t undef:=by
      rw[Array.getD_eq_getD_getElem?,Array.getD_eq_getD_getElem?,Array.getElem?_append,if_pos (by rw[hvs.1];exact ht)]
     show Den FM Z _ ((vs++Array.replicate (fn.ntmps-vs.size) undef).getD t undef)
     rw[e];exact this
    ·rw[jy _ _ ht];trivial
  have hC:C.Z.length=hp.length:=ok.rel.len
  refine wpIn_mono (h C ⟨hC,rfl⟩ 0 _ w ⟨FM,Z,hsat⟩) (fun e a w' hpost=>?_)
  have ret:(∃s,(∃v ob x s',eo (ax P) s fn.results.toList=some (v,ob)/\ap ob/\Oc.ret (.tup 0 (nth []))=.ret x/\To R hp.length ⟨[(0,v)],s.hp,s.g⟩ s'/\lk s'.fr 0=x/\s'.hp=hp'/\s'.g=g')/\dX R C fn.ntmps s a w') ->
    a.defers=[]/\∃u',cs'={ c₀ with mode:=u' }::cs/\∃v,(results fn a.tmps).run P w'=.ok v w'/\((∃r,Ending.returned v=.returned r)/\u'=du true u/\∃FM' Z',Ok R hp' g' FM' Z' w'/\Goes R g FM Z w g' FM' Z' w'):=by
   rintro ⟨s,⟨v,ob,x,s',r1,r2,_,r3,_,r4,r5⟩,FM',Z',hs⟩
   obtain⟨y,u1,u2⟩:=m6 r1 r2 hs.ok hs.fr
   obtain⟨FM'',Z'',d1,d2,d3⟩:=jH hC hs.ok hs.goes u2 r3 r4 r5
   exact⟨hs.defs.none,_,hcs,y,u1,⟨y,rfl⟩,rfl,FM'',Z'',d2,d3⟩
  cases e with
  |normal=>exact ret hpost
  |ret=>exact ret hpost
  |exit id=>obtain⟨s,h1,_⟩:=hpost;exact h1.elim
  |panic ch=>
   obtain⟨s,x,v,FM',Z',⟨y,s',hbad,_⟩,_⟩:=hpost
   cases hbad
  |goto l=>exact hpost
  |outgrown=>exact hpost.elim
 have hr:List.range (#[o,p]:Array Oper).size=[0,1]:=rfl
 rw[hr]
 simp only[wpOpsS,List.getElem?_toArray,List.getElem?_cons_zero,List.getElem?_cons_succ,hw0,hw1,if_true,hrec,hasg]
 have asg:∀(v:Value) (cs':List Frame),Den FM Z (rvA rv) v->cs'={ c₀ with mode:=du true u }::cs->∀(a:Act),a=({ tmps:=vs++Array.replicate (fn.ntmps-vs.size) undef,defers:=[] }:Act).put (some d0) v ->
   p.upon P a (fun a' w'=>Exit.thenS (B.wpS P (bodyPostS P fn c₀ cs (fun e u' w'=>(∃r,e=.returned r)/\u'=du true u/\∃FM' Z',Ok R hp' g' FM' Z' w'/\Goes R g FM Z w g' FM' Z' w'))) (bodyPostS P fn c₀ cs (fun e u' w'=>(∃r,e=.returned r)/\u'=du true u/\∃FM' Z',Ok R hp' g' FM' Z' w'/\Goes R g FM Z w g' FM' Z' w')) .normal a' cs' w')
    (fun e a' w'=>Exit.thenS (B.wpS P (bodyPostS P fn c₀ cs (fun e u' w'=>(∃r,e=.returned r)/\u'=du true u/\∃FM' Z',Ok R hp' g' FM' Z' w'/\Goes R g FM Z w g' FM' Z' w'))) (bodyPostS P fn c₀ cs (fun e u' w'=>(∃r,e=.returned r)/\u'=du true u/\∃FM' Z',Ok R hp' g' FM' Z' w'/\Goes R g FM Z w g' FM' Z' w')) e a' cs' w')
    (.ok (.value (a.eval (.tmp d0))) w):=by
  intro v cs' hv hcs a ha
  show B.wpS P _ (a.put p.dst (a.eval (.tmp d0))) cs' w
  have:a.eval (.tmp d0)=v:=by
   subst ha
   exact jl (by rw[hsz];exact h3)
  rw[this,hd1,ha]
  exact main v cs' hv hcs
 cases u with
 |none=>
  cases rv with
  |some x=>exact hrv.elim
  |none=>
   have hm:c₀.mode=.returning:=hc
   have:recoverD (c₀::cs)=none:=by simp[recoverD,hm]
   simp only[this]
   rw[hd0]
   exact asg .nilIface (c₀::cs) rfl (by
    have:({ c₀ with mode:=du true none }:Frame)=c₀:=by
     show({ c₀ with mode:=.returning }:Frame)=c₀
     rw[<-hm]
    rw[this]) _ rfl
 |some v=>
  cases rv with
  |none=>exact hrv.elim
  |some x=>
   have hm:c₀.mode=.panicking [{ v:=v,recovered:=false }]:=hc
   have:recoverD (c₀::cs)=some (v,{ c₀ with mode:=.panicking [{ v:=v,recovered:=true }] }::cs):=by simp[recoverD,hm]
   simp only[this]
   rw[hd0]
   exact asg v _ hrv rfl _ rfl
def nm (P:Program)(R:Res)(k0:Nat)(K:FuncId)(caps:List AV)(rs:List ResultVar)(oc:Oc)(hp':List AObj)(g':R.σ):AEx->St R.σ->Prop
 |.exit _,_=>False
 |.pan x,s=>∃hp1 g1,DoesD P R K caps s.hp s.g (some x) hp1 g1/\bC P R k0 rs oc hp' g' .ret ⟨s.fr,hp1,g1⟩
 |_,s=>∃hp1 g1,DoesD P R K caps s.hp s.g none hp1 g1/\bC P R k0 rs oc hp' g' .ret ⟨s.fr,hp1,g1⟩
def kU (P:Program)(R:Res)(nt k0:Nat)(B:Code)(K:FuncId)(t:Nat)(caps:List Nat)(rs:List ResultVar)(oc:Oc)(hp':List AObj)(g':R.σ):AEx->St R.σ->Prop
 |.normal,s=>lk s.fr t=.any/\wpA P R nt s.hp.length .no B (nm P R k0 K (caps.map (lk s.fr)) rs oc hp' g') s
 |_,_=>False
def gL (K:FuncId)(t:Nat)(caps:List Nat):List Oper->Bool
 |[o,p]=>(match o.op with
  |.makeFunc (.func f) a b=>Nat.beq f K&&(a.isEmpty&&gf (b.toList.map fun x=>match x with|.tmp t=>t|_=>0) caps&&b.toList.all fun x=>match x with|.tmp _=>true|_=>false)
  |_=>false)&&(match p.op with
  |.defer c=>(match c.callee with
   |.value (.tmp u)=>Nat.beq u t&&c.args.isEmpty
   |_=>false)
  |_=>false)&&eW t o.dst&&p.dst.isNone&&cj o.guard&&cj p.guard
 |_=>false
theorem vU {K t:Nat}{caps:List Nat}:∀{l:List Oper},gL K t caps l=true->∃o p,l=[o,p]
 |[],h=>by simp[gL] at h
 |[_],h=>by simp[gL] at h
 |[o,p],_=>⟨o,p,rfl⟩
 |_::_::_::_,h=>by simp[gL] at h
theorem jI:∀{a b:List Nat},gf a b=true->a=b
 |[],[],_=>rfl
 |i::a,j::b,h=>by
  simp only[gf,Bool.and_eq_true] at h
  rw[Nat.eq_of_beq_eq_true h.1,jI h.2]
 |[],_::_,h=>by simp[gf] at h
 |_::_,[],h=>by simp[gf] at h
theorem vV {f K:FuncId}{fn:Func}{A B:Code}{id:Nat}{ops:Array Oper}{args:List AV}{hp hp':List AObj}{g g':R.σ}{oc:Oc}(t:Nat)(caps:List Nat)(hf:P.funcs[f]? = some fn)(hb:fn.body=some (.seq A (.seq (.region id ops false) B)))
  (hn:args.length<=fn.ntmps) (hops:gL K t caps ops.toList=true) (hpl:cg P K=true) (ht:t<fn.ntmps) (hlk:∀c∈caps,c≠t)
  (hA:wpA P R fn.ntmps hp.length .no A (kU P R fn.ntmps hp.length B K t caps fn.results.toList oc hp' g') ⟨ck 0 args,hp,g⟩):Does P R f args hp g oc hp' g':=by
 refine⟨fun FM Z w vs ok hvs=>calls_of_wp_defers hf hb ((wpIn_wide (n:=0)).1 (wpIn_seq ?_))⟩
 obtain⟨o,p,he⟩:=vU hops
 obtain rfl:ops=#[o,p]:=Array.ext' he
 simp only[gL,Bool.and_eq_true] at hops
 obtain⟨⟨⟨⟨⟨ho,hp0⟩,hd0⟩,hd1⟩,hg0⟩,hg1⟩:=hops
 have noG:∀{x:Option (Nat × Bool)},cj x=true->x=none:=fun {x} h=>by cases x <;> first|rfl|cases h
 have hg0:=noG hg0
 have hg1:=noG hg1
 have hd0:=io.1 hd0
 have hd1:p.dst=none:=by simpa using hd1
 have hsz:(vs++Array.replicate (fn.ntmps-vs.size) undef).size=fn.ntmps:=by simp[hvs.1];omega
 let C:Cx R:=⟨g,FM,Z,w,[],false⟩
 have hsat:Sat R C fn.ntmps ⟨ck 0 args,hp,g⟩ FM Z { tmps:=vs++Array.replicate (fn.ntmps-vs.size) undef,defers:=[] } w:=by
  refine⟨ok,BA _ _ _ _ _,hsz,.start,fun t=>?_⟩
  show Den FM Z (lk (ck 0 args) t) _
  rw[kP]
  simp only[Nat.zero_le,if_true,Nat.sub_zero]
  rcases Nat.lt_or_ge t args.length with ht|ht
  ·have:=hvs.2 t ht
   have e:(vs++Array.replicate (fn.ntmps-vs.size) undef).getD t undef=vs.getD t undef:=by
    rw[Array.getD_eq_getD_getElem?,Array.getD_eq_getD_getElem?,Array.getElem?_append,if_pos (by rw[hvs.1];exact ht)]
   rw[e];exact this
  ·rw[jy _ _ ht];trivial
 have hC:C.Z.length=hp.length:=ok.rel.len
 refine wpIn_mono (hA C ⟨hC,rfl⟩ 0 _ w ⟨FM,Z,hsat⟩) (fun e a w1 hpost=>?_)
 have post:∃s FM1 Z1,e=.normal/\(lk s.fr t=.any/\wpA P R fn.ntmps s.hp.length .no B (nm P R hp.length K (caps.map (lk s.fr)) fn.results.toList oc hp' g') s)/\Sat R C fn.ntmps s FM1 Z1 a w1:=by
  cases e with
  |normal=>obtain⟨s,h1,FM1,Z1,h2⟩:=hpost;exact⟨s,FM1,Z1,rfl,h1,h2⟩
  |exit id=>obtain⟨s,h1,_⟩:=hpost;exact h1.elim
  |ret=>obtain⟨s,h1,_⟩:=hpost;exact h1.elim
  |panic ch=>obtain⟨s,x,v,FM1,Z1,h1,_⟩:=hpost;exact h1.elim
  |goto l=>exact hpost.elim
  |outgrown=>exact hpost.elim
 obtain⟨s,FM1,Z1,rfl,⟨hsl,hB⟩,hs⟩:=post
 show(Code.seq (.region id #[o,p] false) B).wpIn Fence.wide 0 P _ a w1
 refine wpIn_seq (wpIn_region ?_)
 have hr:List.range (#[o,p]:Array Oper).size=[0,1]:=rfl
 rw[hr]
 -- the closure, and the deferred call
 have hw0:∀t,Region.wanted o t=true:=fun t=>by simp[Region.wanted,hg0]
 have hw1:∀t,Region.wanted p t=true:=fun t=>by simp[Region.wanted,hg1]
 obtain⟨xs,bs,hop,hxs,hbs⟩:∃xs bs:Array Operand,o.op=.makeFunc (.func K) xs bs/\xs=#[]/\bs.toList=caps.map Operand.tmp:=by
  split at ho
  ·rename_i f' xs bs hop
   simp only[Bool.and_eq_true] at ho
   obtain⟨h1,⟨h2,h3⟩,h4⟩:=ho
   have:=Nat.eq_of_beq_eq_true h1
   subst this
   refine⟨xs,bs,hop,by simpa using h2,?_⟩
   have h3:=jI h3
   rw[<-h3,List.map_map]
   rw[List.all_eq_true] at h4
   refine(List.map_id' _).symm.trans (List.map_congr_left (fun x hx=>?_))
   have:=h4 x hx
   cases x <;> first|rfl|cases this
  ·cases ho
 subst hxs
 obtain⟨c,hpop,hcal,hcar⟩:∃c,p.op=.defer c/\c.callee=.value (.tmp t)/\c.args=#[]:=by
  split at hp0
  ·rename_i c hpop
   split at hp0
   ·rename_i u hcal
    simp only[Bool.and_eq_true] at hp0
    have:=Nat.eq_of_beq_eq_true hp0.1
    subst this
    exact⟨c,hpop,hcal,by simpa using hp0.2⟩
   ·cases hp0
  ·cases hp0
 let fv:Value:=.func (.func K) #[] (bs.map a.eval)
 have hrun0:(execOp a.eval o).run P w1=.ok (.value fv) w1:=by simp[execOp,hop,Instr.makeFunc,fv]
 let a1:Act:=a.put (some t) fv
 have ht1:a1.eval (.tmp t)=fv:=jl (by rw[hs.size];exact ht)
 let d:Deferred:={ target:=.fn (.func K) (bs.map a.eval),args:=#[] }
 have hrun1:(execOp a1.eval p).run P w1=.ok (.defer d) w1:=by
  simp[execOp,hpop,resolve,hcal,hcar,ht1,fv,Deferred.ofValue,d]
 let a2:Act:={ a1 with defers:=d::a1.defers }
 simp only[wpOpsIn,List.getElem?_toArray,List.getElem?_cons_zero,List.getElem?_cons_succ,hw0,hw1,if_true,Oper.wpIn]
 refine⟨fun _ _=>trivial,?_⟩
 have hsem0:(o.semAt Fence.wide.round a.eval).run P w1=.ok (.value fv) w1:=hrun0
 rw[hsem0,Oper.uponIn_value,hd0]
 refine⟨fun _ _=>trivial,?_⟩
 have hsem1:(p.semAt Fence.wide.round a1.eval).run P w1=.ok (.defer d) w1:=hrun1
 show p.uponIn Fence.wide 0 P a1 _ _ ((p.semAt Fence.wide.round a1.eval).run P w1)
 rw[hsem1,Oper.uponIn_defer,hd1]
 show B.wpIn Fence.wide 0 P _ a2 w1
 -- the rest
 have hdef:a1.defers=[]:=by show(a.put (some t) fv).defers=[];rw[jm];exact hs.defs.none
 let C1:Cx R:=⟨s.g,FM1,Z1,w1,[d],false⟩
 have hs2:Sat R C1 fn.ntmps s FM1 Z1 a2 w1:=by
  refine⟨hs.ok,BA _ _ _ _ _,?_,?_,fun t'=>?_⟩
  ·show a1.tmps.size=_
   rw[show a1=a.put (some t) fv from rfl,im];exact hs.size
  ·show Dfs R ⟨[d],false⟩ w1 s.g FM1 Z1 w1 (d::a1.defers)
   rw[hdef]
   exact .start
  ·show Den FM1 Z1 (lk s.fr t') (a1.tmps.getD t' undef)
   by_cases htt:t'=t
   ·subst htt
    rw[hsl];trivial
   ·rw[show a1=a.put (some t) fv from rfl,eH (fun e=>htt (by simpa using e.symm))]
    exact hs.fr t'
 have hcaps:bQ FM1 Z1 (caps.map (lk s.fr)) (bs.map a.eval):=by
  have hl:bs.size=caps.length:=by rw[<-Array.length_toList,hbs,List.length_map]
  refine⟨by simp[hl],fun i hi=>?_⟩
  have hi':i<caps.length:=by simpa using hi
  rw[cY _ _ hi]
  have hb1:bs[i]'omg=.tmp caps[i]:=by
   have:bs.toList[i]'(by rw[hbs];simpa using hi')=.tmp caps[i]:=by simp[hbs]
   simpa using this
  have:(bs.map a.eval).getD i undef=a.tmps.getD caps[i] undef:=by
   rw[Array.getD_eq_getD_getElem?,Array.getElem?_map,Array.getElem?_eq_getElem (show i<bs.size by omega)]
   show a.eval bs[i]=_
   rw[hb1]
   rfl
  rw[this,List.getElem_map]
  exact hs.fr _
 refine wpIn_mono (hB C1 ⟨(by show Z1.length=_;exact hs.ok.rel.len),rfl⟩ 0 a2 w1 ⟨FM1,Z1,hs2⟩) (fun e a' w' hpost=>?_)
 have leave:∀(s2:St R.σ) (rv:Option AV) (u:Option Value) (FM2:Mem) (Z2:Plc),Sat R C1 fn.ntmps s2 FM2 Z2 a' w'->qC FM2 Z2 rv u ->
   (∃hp1 g1,DoesD P R K (caps.map (lk s.fr)) s2.hp s2.g rv hp1 g1/\bC P R hp.length fn.results.toList oc hp' g' .ret ⟨s2.fr,hp1,g1⟩)->Leaves P fn a'.tmps (eU R g FM Z w oc hp' g') a'.defers (du false u) w':=by
  rintro s2 rv u FM2 Z2 hs2 hrv ⟨hp1,g1,hD,v,ob,x,s',r1,r2,rfl,r3,rfl,r4,r5⟩
  rw[hs2.defs.none]
  have hcaps2:bQ FM2 Z2 (caps.map (lk s.fr)) (bs.map a.eval):=⟨hcaps.1,fun i hi=>BF hs2.goes.ext.fm _ hs2.goes.sub (hcaps.2 i hi)⟩
  have hinv:(invoke d.target d.args).run P w'=.ok (.enter K (bs.map a.eval)) w':=by
   obtain⟨fK,h1,h2,h3⟩:∃fK,P.funcs[K]? = some fK/\fK.name ≠ "runtime.NumGoroutine"/\fK.body.isSome=true:=by
    unfold cg at hpl
    split at hpl
    ·rename_i fK hfK
     simp only[Bool.and_eq_true,bne_iff_ne,ne_eq] at hpl
     exact⟨fK,hfK,hpl.1,hpl.2⟩
    ·cases hpl
   have h3':¬fK.body=none:=fun h=>by rw[h] at h3;cases h3
   simp[d,invoke,callFunc,h1,h2,h3']
  refine⟨by cases u <;> simp[du],_,_,K,bs.map a.eval,rfl,hinv,CallsD.mono (hD.h FM2 Z2 w' _ u hs2.ok hcaps2 hrv) (fun e u' w'' hpost=>?_)⟩
  obtain⟨⟨r,rfl⟩,rfl,FM3,Z3,ok3,go3⟩:=hpost
  have hset:settle (du true u)=.returning:=by cases u <;> simp[du,settle]
  show Leaves P fn a'.tmps _ [] (settle (du true u)) w''
  rw[hset]
  obtain⟨y,u1,u2⟩:=m6 r1 r2 ok3 (tmps:=a'.tmps) (fun t=>BF go3.ext.fm _ go3.sub (hs2.fr t))
  obtain⟨FM4,Z4,d1,d2,d3⟩:=jH hC ok3 ((hs.goes.trans hs2.goes).trans go3) u2 r3 r4 r5
  exact⟨y,u1,FM4,Z4,⟨y,rfl,d1⟩,d2,d3⟩
 have thn:∀e',(∀(X:Prop),e'=e->X->X)->True:=fun _ _=>trivial
 cases e with
 |normal=>obtain⟨s2,h1,FM2,Z2,h2⟩:=hpost;exact leave s2 none none FM2 Z2 h2 trivial h1
 |ret=>obtain⟨s2,h1,FM2,Z2,h2⟩:=hpost;exact leave s2 none none FM2 Z2 h2 trivial h1
 |exit id=>obtain⟨s2,h1,_⟩:=hpost;exact h1.elim
 |panic ch=>
  obtain⟨s2,x,v,FM2,Z2,h1,h2,rfl,hd⟩:=hpost
  exact leave s2 (some x) (some v) FM2 Z2 h2 hd h1
 |goto l=>exact hpost.elim
 |outgrown=>exact hpost.elim
def qD (d0 d1:Nat):Code->Bool
 |.seq (.region _ ops false) _=>gK d0 d1 ops.toList
 |_=>false
theorem qE {f:FuncId}{args:List AV}{hp hp':List AObj}{g g':R.σ}{rv:Option AV}{nt:Nat}{rs:List ResultVar}{k0:Nat}(d0 d1:Nat)(hb:fI P f args.length=true)(hnt:bE P f=nt)(hrs:cE P f=rs)(hk:hp.length=k0)(hr:qD d0 d1 (aw P f)=true)
  (h0:args.length<=d0) (h1:args.length<=d1) (h2:d0≠d1) (h3:d0<nt) (h4:d1<nt)
  (h:Wp P R nt k0 .no (aw P f) [1] (bC P R k0 rs (.ret (.tup 0 (nth []))) hp' g') ⟨(d1,rvA rv)::ck 0 args,hp,g⟩):DoesD P R f args hp g rv hp' g':=by
 subst hnt hrs hk
 unfold fI at hb
 split at hb
 ·rename_i fn hfn
  simp only[Bool.and_eq_true,Nat.ble_eq] at hb
  obtain⟨c,hc⟩:=Option.isSome_iff_exists.1 hb.1
  have e1:aw P f=c:=by simp[aw,hfn,hc]
  have e2:bE P f=fn.ntmps:=by simp[bE,hfn]
  have e3:cE P f=fn.results.toList:=by simp[cE,hfn]
  have h':wpA P R (bE P f) hp.length .no (sub (aw P f) [1]) (bC P R hp.length (cE P f) (.ret (.tup 0 (nth []))) hp' g') ⟨(d1,rvA rv)::ck 0 args,hp,g⟩:=h.h
  rw[e1,e2,e3] at h'
  rw[e1] at hr
  rw[e2] at h3 h4
  unfold qD at hr
  split at hr
  ·rename_i id ops B
   have e:sub (.seq (.region id ops false) B) [1]=B:=by cases B <;> rfl
   rw[e] at h'
   exact vT d0 d1 hfn hc hr h0 h1 h2 h3 h4 h'
  ·cases hr
 ·cases hb
def qF (K:FuncId)(t:Nat)(caps:List Nat):Code->Bool
 |.seq _ (.seq (.region _ ops false) _)=>gL K t caps ops.toList
 |_=>false
theorem jJ {f K:FuncId}{args:List AV}{hp hp':List AObj}{g g':R.σ}{oc:Oc}{nt:Nat}{rs:List ResultVar}{k0:Nat}(t:Nat)(caps:List Nat)(hb:fI P f args.length=true)(hnt:bE P f=nt)(hrs:cE P f=rs)(hk:hp.length=k0)(hd:qF K t caps (aw P f)=true)
  (hpl:cg P K=true) (ht:t<nt) (hlk:∀c∈caps,c≠t)
  (h:Wp P R nt k0 .no (aw P f) [0] (kU P R nt k0 (sub (aw P f) [1,1]) K t caps rs oc hp' g') ⟨ck 0 args,hp,g⟩):Does P R f args hp g oc hp' g':=by
 subst hnt hrs hk
 unfold fI at hb
 split at hb
 ·rename_i fn hfn
  simp only[Bool.and_eq_true,Nat.ble_eq] at hb
  obtain⟨c,hc⟩:=Option.isSome_iff_exists.1 hb.1
  have e1:aw P f=c:=by simp[aw,hfn,hc]
  have e2:bE P f=fn.ntmps:=by simp[bE,hfn]
  have e3:cE P f=fn.results.toList:=by simp[cE,hfn]
  have h':wpA P R (bE P f) hp.length .no (sub (aw P f) [0]) (kU P R (bE P f) hp.length (sub (aw P f) [1,1]) K t caps (cE P f) oc hp' g') ⟨ck 0 args,hp,g⟩:=h.h
  rw[e1,e2,e3] at h'
  rw[e1] at hd
  rw[e2] at ht
  unfold qF at hd
  split at hd
  ·rename_i A id ops B
   have ea:sub (.seq A (.seq (.region id ops false) B)) [0]=A:=by cases A <;> rfl
   have eb:sub (.seq A (.seq (.region id ops false) B)) [1,1]=B:=by cases B <;> rfl
   rw[ea,eb] at h'
   exact vV t caps hfn hc hb.2 hd hpl ht hlk h'
  ·cases hd
 ·cases hb
theorem jK {K:FuncId}{t:Nat}{caps:List Nat}{s:St R.σ}{b:Code}{hp':List AObj}{g':R.σ}{oc:Oc}{nt:Nat}{rs:List ResultVar}{k0:Nat}(k1:Nat)(cs:List AV)(h1:lk s.fr t=.any)(hk:s.hp.length=k1)(hc:caps.map (lk s.fr)=cs)(h:Wp P R nt k1 .no b [1,1] (nm P R k0 K cs rs oc hp' g') s) :
  kU P R nt k0 (sub b [1,1]) K t caps rs oc hp' g' .normal s:=by
 subst hk hc
 exact⟨h1,h.h⟩
theorem vW {o:Oper}{ev:Operand->AV}{hp:List AObj}{g:R.σ}{t t2:TypeId}{x:Operand}{ms:Array (String × TypeId)}(ho:o.op=.binOp .neq t x (.const .nilIface) t2)(hx:ev x=.nili)(hc:ev (.const .nilIface)=.nili)(hu:P.underlying t=some (.interface ms)) :
  OpOk P R o ev hp g (.bool false) hp g:=by
 refine⟨fun FM Z w evc ok hop=>?_⟩
 have h1:=hop x (by simp[ho,Op.operands])
 have h2:=hop (.const .nilIface) (by simp[ho,Op.operands])
 rw[hx] at h1
 rw[hc] at h2
 have h1:evc x=.nilIface:=h1
 have h2:evc (.const .nilIface)=.nilIface:=h2
 have hg:∀d,(Op.equalIn (d+1) t .nilIface .nilIface).run P w=.ok true w:=fun d=>by simp[Op.equalIn,underlying,hu]
 have he:(Op.equalIn Op.maxDepth t .nilIface .nilIface).run P w=.ok true w:=hg 9999
 refine⟨.value (.bool false),w,FM,Z,.bool false,?_,rfl,rfl,ok,BA _ _ _ _ _⟩
 simp[execOp,ho,h1,h2,eqGuard,binOp,Op.equal,he]
variable {k0:Nat}{rs:List ResultVar}{v x:AV}{s:St R.σ}{hp':List AObj}{g':R.σ}
theorem qG {x0:AV}(h:bC P R k0 rs (.pan x0) hp' g' (.pan v) s)(hle:Le x0 x):bC P R k0 rs (.pan x) hp' g' (.pan v) s:=by
 obtain⟨y,s',h3,h4,h5,h6,h7⟩:=h
 cases h3
 refine⟨x,⟨[(0,x)],s'.hp,s'.g⟩,rfl,h4.trans (aT ⟨?_,trivial⟩ rfl rfl),rfl,h6,h7⟩
 rw[h5]
 exact hle
theorem vX (hh:s.hp=hp')(hg:s.g=g')(hle:Le v x):bC P R k0 rs (.pan x) hp' g' (.pan v) s:=by
 subst hh hg
 exact qG ⟨v,_,rfl,BE _,rfl,rfl,rfl⟩ hle
theorem jL (k:Nat)(hk:k0<=k)(hv:Below k v)(hb:ap (obT k (bm k s.hp)))(hh:bm k s.hp=hp')(hg:s.g=g')(hle:Le v x):bC P R k0 rs (.pan x) hp' g' (.pan v) s:=by
 subst hh hg
 exact qG ⟨v,_,rfl,gH k hk [0] (by exact⟨hv,hb⟩),rfl,rfl,rfl⟩ hle
end
end Go.Avm
namespace Go.Avm
open Go
def fg (c:Nat->Bool):Nat->Nat->Nat
 |0,k=>k
 |n+1,k=>bif c k then fg c n (k+1) else k+1
theorem kV (c:Nat->Bool):∀(n k:Nat),((∀j,k<=j->j<k+n->c j=true)/\fg c n k=k+n)∨(∃i,k<=i/\i<k+n/\(∀j,k<=j->j<i->c j=true)/\c i=false/\fg c n k=i+1)
 |0,k=>.inl ⟨fun j h1 h2=>omg,rfl⟩
 |n+1,k=>by
  unfold fg
  cases h:c k with
  |false=>exact .inr ⟨k,Nat.le_refl _,omg,fun j h1 h2=>omg,h,rfl⟩
  |true=>
   rcases kV c n (k+1) with⟨h1,h2⟩|⟨i,h1,h2,h3,h4,h5⟩
   ·refine .inl ⟨fun j hj1 hj2=>?_,by simp only[cond_true];omega⟩
    rcases Nat.lt_or_ge k j with hj|hj
    ·exact h1 j hj omg
    ·have:j=k:=by omega
     subst this;exact h
   ·refine .inr ⟨i,omg,omg,fun j hj1 hj2=>?_,h4,h5⟩
    rcases Nat.lt_or_ge k j with hj|hj
    ·exact h3 j hj hj2
    ·have:j=k:=by omega
     subst this;exact h
structure SeqC (P:Program)(f:FuncId)(pre post:List AV)(N:Nat)(items:Nat->List AV)(T:Mem->Prop:=fun _=>True):Prop where
 h:∀(R:Res) [Tab T R] (u:Value) (G:Nat->R.σ) (c:Nat->Bool),
  (∀k,k<N->(∀j,j<k->c j=true)->∀hpo,VDoes P R u (items k) hpo (G k) (.ret (.bool (c k))) hpo (G (k+1))) ->
  Does P R f (pre++[.val u]++post) [] (G 0) (.ret (.tup 0 (nth []))) [] (G (fg c N 0))
def gM (R:Res)(D L:Nat)(rec:LoopState->Option Code->Loop):Res where
 σ:=R.σ × LoopState × Option Code
 B s b:=R.B s.1 b∨b=D∨b=L
 J s FM w:=R.J s.1 FM w/\w.heap[D]? = some (.deferred (some []))/\w.heap[L]? = some (.loop (rec s.2.1 s.2.2))/\(FM D=none/\FM L=none)/\¬R.B s.1 D/\¬R.B s.1 L
 st:=by
  intro s FM FM' w w' ⟨j,h1,h2,⟨h3,h4⟩,h5,h6⟩ k
  exact⟨R.st j ⟨k.fm,fun b hb=>k.fmB b (.inl hb),k.sound,fun b hb=>k.heapB b (.inl hb),k.size,k.os,k.tape,k.output⟩,(k.heapB D (.inr (.inl rfl))).trans h1,(k.heapB L (.inr (.inr rfl))).trans h2,⟨(k.fmB D (.inr (.inl rfl))).trans h3,(k.fmB L (.inr (.inr rfl))).trans h4⟩,h5,h6⟩
instance {T:Mem->Prop}{R:Res}[h:Tab T R](D L:Nat)(rec:LoopState->Option Code->Loop):Tab T (gM R D L rec):=⟨fun j=>h.h j.1⟩
section
variable {P:Program}{R:Res}
theorem np {D L:Nat}{rec:LoopState->Option Code->Loop}{hp:List AObj}{s:(gM R D L rec).σ}{FM:Mem}{Z:Plc}{w:World}(ok:Ok (gM R D L rec) hp s FM Z w):Ok R hp s.1 FM Z w:=
 ⟨ok.rel,ok.j.1,fun b hb=>ok.bd b (.inl hb)⟩
theorem iF {hp:List AObj}{g:R.σ}{FM:Mem}{Z:Plc}{w:World}{X:Nat}(o:Obj)(off:¬InB Z X)(offB:¬R.B g X)(nofm:FM X=none)(ok:Ok R hp g FM Z w):Ok R hp g FM Z (w.putObj X o):=by
 have oth:∀b,b≠X->(w.putObj X o).heap[b]? = w.heap[b]?:= fun b hb=>World.putObj_heap_other hb
 have hfm:∀b o',FM b=some o'->(w.putObj X o).heap[b]? = some o':=fun b o' hb=>by
  rw[oth b (fun e=>by subst e;rw[nofm] at hb;cases hb)];exact ok.rel.fm b o' hb
 refine⟨⟨hfm,ok.rel.len,fun i p hi=>?_,ok.rel.inj⟩,R.st ok.j ⟨fun _ _ h=>h,fun _ _=>rfl,hfm,fun b hb=>oth b (fun e=>offB (e▸hb)),by simp,rfl,rfl,rfl⟩,fun b hb=>⟨by simpa using (ok.bd b hb).1,(ok.bd b hb).2⟩⟩
 obtain⟨h1,h2⟩:=ok.rel.obj i p hi
 refine⟨fun h=>by simpa using h1 h,h2.mono (BD _) (fun hl=>oth _ (fun e=>?_))⟩
 exact off (e▸⟨p,bp hi,rfl,(ok.rel.real hi hl).1⟩)
def cL:List Nat->List AV->List (Nat × AV)->List (Nat × AV)
 |p::ps,v::vs,fr=>cL ps vs ((p,v)::fr)
 |_,_,fr=>fr
theorem nq {FM:Mem}{Z:Plc}{nt:Nat}:∀(ps:List Nat) (vs:List AV) (us:List Value) (fr:List (Nat × AV)) (tmps:Array Value),tmps.size=nt->bF ps nt=true->vs.length=ps.length->us.length=ps.length->(∀i,i<vs.length->Den FM Z (nth vs i) (us.getD i undef)) ->
  (∀t,Den FM Z (lk fr t) (tmps.getD t undef))->((ps.zip us).foldl (fun tmps (p:Nat × Value)=>tmps.setIfInBounds p.1 p.2) tmps).size=nt/\∀t,Den FM Z (lk (cL ps vs fr) t) (((ps.zip us).foldl (fun tmps (p:Nat × Value)=>tmps.setIfInBounds p.1 p.2) tmps).getD t undef)
 |[],vs,us,fr,tmps,h1,_,h2,h3,_,h5=>by
  cases vs with
  |nil=>cases us with
   |nil=>exact⟨h1,h5⟩
   |cons _ _=>simp at h3
  |cons _ _=>simp at h2
 |p::ps,vs,us,fr,tmps,h1,hlt,h2,h3,h4,h5=>by
  cases vs with
  |nil=>simp at h2
  |cons v vs=>cases us with
   |nil=>simp at h3
   |cons u us=>
    have hp:p<nt:=iB hlt p List.mem_cons_self
    have hlt':bF ps nt=true:=by
     unfold bF at hlt
     simp only[Bool.and_eq_true] at hlt
     exact hlt.2
    refine nq ps vs us ((p,v)::fr) (tmps.setIfInBounds p u) (by simpa using h1) hlt' (by simpa using h2) (by simpa using h3) (fun i hi=>?_) (fun t=>?_)
    ·have:=h4 (i+1) (by simpa using hi)
     simpa[nth] using this
    ·show Den FM Z (bif Nat.beq t p then v else lk fr t) _
     cases hb:Nat.beq t p with
     |true=>
      have:=Nat.eq_of_beq_eq_true hb
      subst this
      have:=h4 0 (by simp)
      rw[Array.getD_eq_getD_getElem?,Array.getElem?_setIfInBounds_self_of_lt omg]
      simpa[nth] using this
     |false=>
      have hne:p≠t:=fun e=>by subst e;simp at hb
      rw[Array.getD_eq_getD_getElem?,Array.getElem?_setIfInBounds_ne hne,<-Array.getD_eq_getD_getElem?]
      exact h5 t
def kW (R:Res)(n:Nat)(jmp:Option Code)(hp':List AObj)(g':R.σ):AEx->St R.σ->Prop
 |.normal,s=>jmp=none/\∃s',To R n s s'/\s'.hp=hp'/\s'.g=g'
 |.ret,s=>jmp=some .ret/\∃s',To R n s s'/\s'.hp=hp'/\s'.g=g'
 |.exit id,s=>jmp=some (.exit id)/\∃s',To R n s s'/\s'.hp=hp'/\s'.g=g'
 |.pan _,_=>False
theorem vY {hp hp':List AObj}{g g':R.σ}{FM FM':Mem}{Z Z':Plc}{w w':World}(ok:Ok R hp g FM Z w)(ok':Ok R hp' g' FM' Z' w')(hl:hp'.length=hp.length)(hs:Sub Z Z'):Z'=Z:=by
 have hl:Z'.length=Z.length:=by rw[ok'.rel.len,ok.rel.len,hl]
 refine List.ext_getElem? (fun i=>?_)
 rcases Nat.lt_or_ge i Z.length with hi|hi
 ·have h1:Z[i]? = some Z[i]:=List.getElem?_eq_getElem hi
  rw[hs i _ h1,h1]
 ·rw[List.getElem?_eq_none omg,List.getElem?_eq_none hi]
end
def stJ (jmp:Nat->Option Code):Nat->LoopState × Option Code
 |0=>(.ready,none)
 |k+1=>((if (jmp k).isNone then .ready else .done),jmp k)
def jOk:Option Code->Bool
 |none=>true
 |some .ret=>true
 |some (.exit _)=>true
 |_=>false
section
variable {P:Program}{R:Res}
end
def iG (t:Nat)(psl:List Nat):Code->Bool
 |.rangeFunc (.tmp u) ps _ _=>Nat.beq u t&&gf ps.toList psl
 |_=>false
section
variable {P:Program}{R:Res}
theorem eJ {n:Nat}{jmp:Option Code}{hp':List AObj}{g':R.σ}{s:St R.σ}(hj:jmp=none)(h:To R n s ⟨[],hp',g'⟩):kW R n jmp hp' g' .normal s:=⟨hj,_,h,rfl,rfl⟩
end
end Go.Avm
namespace Go.Avm
open Go
def fh:List Nat->List AObj->AV->AV
 |[],_,v=>v
 |o::os,hp,v=>match ag hp o with
  |.cells false n get=>fh os (aH hp o .dead) (frz o n get v)
  |_=>v
def kX:List Nat->List AObj->AV->List Prop
 |[],_,_=>[]
 |o::os,hp,v=>match ag hp o with
  |.cells false n get=>(∀j,j<n->Below 0 (get j))::dZ o n v::kX os (aH hp o .dead) (frz o n get v)
  |_=>[False]
theorem Le.fp {n:Nat}{f f':Nat->AV}(h:∀j,j<n->Le (f j) (f' j)):Le (.fp n f) (.fp n f'):=by
 rintro FM Z v ⟨b,off,h1,h2⟩
 exact⟨b,off,h1,fun j hj=>let ⟨x,a1,a2,a3⟩:=h2 j hj;⟨x,a1,a2,h j hj _ _ _ a3⟩⟩
section
variable {P:Program}{R:Res}
theorem nr {k0:Nat}{g:R.σ}:∀(os:List Nat) (hp:List AObj) (v:AV),ap (kX os hp v)->To R k0 ⟨[(0,v)],hp,g⟩ ⟨[(0,fh os hp v)],ca os hp,g⟩
 |[],hp,v,_=>BE _
 |o::os,hp,v,h=>by
  unfold kX at h
  unfold fh ca
  split at h
  ·rename_i n get hx
   refine To.trans (vy o [0] [] ⟨⟨[(0,frz o n get v)],aH hp o .dead,g⟩,[(∀j,j<n->Below 0 (get j)),dZ o n v]⟩ ?_ ⟨h.1,h.2.1,trivial⟩) (nr os _ _ h.2.2)
   unfold js
   rw[show ag (St.hp ⟨[(0,v)],hp,g⟩) o=_ from hx]
   rfl
  ·exact h.1.elim
theorem jM {f:FuncId}{args:List AV}{hp hp':List AObj}{g g':R.σ}{a b:Bool}(e:a=b)(h:Does P R f args hp g (.ret (.bool a)) hp' g'):Does P R f args hp g (.ret (.bool b)) hp' g':=e▸h
theorem iH {f:FuncId}{args:List AV}{hp hp1 hp2:List AObj}{g g1 g2:R.σ}{v x:AV}(h:Does P R f args hp g (.ret v) hp1 g1)(ht:To R hp.length ⟨[(0,v)],hp1,g1⟩ ⟨[(0,x)],hp2,g2⟩):Does P R f args hp g (.ret x) hp2 g2:=by
 refine⟨fun FM Z w vs ok hvs=>(h.h FM Z w vs ok hvs).mono (fun e w' he=>?_)⟩
 obtain⟨FM',Z',⟨u,rfl,hu⟩,e2,e3⟩:=he
 obtain⟨FM'',Z'',d1,d2,d3⟩:=jH (k0:=hp.length) (s:=⟨[(0,v)],hp1,g1⟩) ok.rel.len e2 e3 hu ht rfl rfl
 exact⟨FM'',Z'',⟨u,rfl,d1⟩,d2,d3⟩
theorem vZ {f:FuncId}{args:List AV}{hp hp1 hp2:List AObj}{g g1:R.σ}{v x:AV}(k:Nat)(os:List Nat)(h:Does P R f args hp g (.ret v) hp1 g1)(hk:hp.length<=k)(hf:ap (kX os hp1 v))(hv:Below k (fh os hp1 v))(hb:ap (obT k (bm k (ca os hp1))))
  (hh:bm k (ca os hp1)=hp2) (hx:fh os hp1 v=x):Does P R f args hp g (.ret x) hp2 g1:=by
 subst hh hx
 exact iH h (To.trans (nr os hp1 v hf) (gH k hk [0] (s:=⟨[(0,fh os hp1 v)],ca os hp1,g1⟩) (ap.append.2 ⟨⟨hv,trivial⟩,hb⟩)))
end
end Go.Avm
namespace Go.Avm
open Go
theorem v6 {FM FM':Mem}{Z:Plc}{hp:List AObj}{w w':World}(h:HRel FM Z hp w)(h1:∀b o,FM' b=some o->w'.heap[b]? = some o)(h2:∀b o,FM b=some o->FM' b=some o)(h3:∀b,InB Z b->w'.heap[b]? = w.heap[b]?)(h4:∀b,InB Z b->FM b=none->FM' b=none)(h5:w.heap.size<=w'.heap.size):HRel FM' Z hp w':=by
 refine⟨h1,h.len,fun i p hi=>?_,h.inj⟩
 obtain⟨k1,k2⟩:=h.obj i p hi
 refine⟨fun hre=>Nat.lt_of_lt_of_le (k1 hre) h5,?_⟩
 cases hx:ag hp i with
 |dead=>trivial
 |map es=>
  rw[hx] at k2
  have hin:InB Z p.1:=⟨p,bp hi,rfl,k2.1⟩
  exact dO k2 h2 (h3 _ hin) (h4 _ hin k2.2.1)
 |mapo es=>
  rw[hx] at k2
  have hin:InB Z p.1:=⟨p,bp hi,rfl,k2.1⟩
  exact gy k2 h2 (BD _) (h3 _ hin) (h4 _ hin k2.2.1)
 |cells f n g=>
  intro hn
  have hin:InB Z p.1:=⟨p,bp hi,rfl,(h.real_cells hi hx hn).1⟩
  rw[hx] at k2
  obtain⟨cs,e',a1,a2,a3,a4,a5,a6⟩:=k2 hn
  exact⟨cs,e',by rw[h3 _ hin];exact a1,a2,a3,fun j hj=>let ⟨x,b1,b2,b3⟩:=a4 j hj;⟨x,b1,b2,BF h2 _ (BD _) b3⟩,fun hf=>h2 _ _ (a5 hf),fun hf=>h4 _ hin (a6 hf)⟩
section
variable {P:Program}{R:Res}
theorem fJ {k0:Nat}{s:St R.σ}{hp:List AObj}{g:R.σ}(h1:s.hp=hp)(h2:s.g=g):To R k0 s ⟨s.fr,hp,g⟩:=by
 subst h1 h2;exact BE _
theorem v7 {hp:List AObj}{g:R.σ}{FM:Mem}{Z:Plc}{w:World}(ok:Ok R hp g FM Z w):Ok R [] g FM [] w:=
 ⟨⟨ok.rel.fm,rfl,fun i p hi=>by simp at hi,fun i j p q hi=>by simp at hi⟩,ok.j,fun b hb=>⟨(ok.bd b hb).1,fun ⟨p,hp,_⟩=>by cases hp⟩⟩
theorem v8 {hp:List AObj}{g g':R.σ}{FM FM':Mem}{Z:Plc}{w w':World}(ok:Ok R hp g FM Z w)(ok':Ok R [] g' FM' [] w')(go:Goes R g FM [] w g' FM' [] w'):Ok R hp g' FM' Z w':=by
 have off:∀b,InB Z b->b<w.heap.size/\¬R.B g b:=fun b hb=>by
  obtain⟨p,hp1,hpb,hre⟩:=hb
  obtain⟨i,hi⟩:=List.getElem?_of_mem hp1
  exact⟨by rw[<-hpb];exact(ok.rel.obj i p hi).1 hre,fun hB=>(ok.bd b hB).2 ⟨p,hp1,hpb,hre⟩⟩
 have nin:∀b,¬InB [] b:=fun b ⟨p,hp,_⟩=>by cases hp
 refine⟨v6 ok.rel ok'.rel.fm go.ext.fm (fun b hb=>go.ext.keep b (off b hb).1 (nin b) (off b hb).2) (fun b hb hn=>?_) go.ext.size,ok'.j,fun b hb=>⟨(ok'.bd b hb).1,fun hi=>?_⟩⟩
 ·cases hx:FM' b with
  |none=>rfl
  |some o=>
   rcases go.ext.grow b o hx with h|h|h|h
   ·rw[hn] at h;cases h
   ·have:=(off b hb).1;omega
   ·exact absurd h (nin b)
   ·exact absurd h (off b hb).2
 ·rcases go.bn b hb with h|h
  ·exact(ok.bd b h).2 hi
  ·have:=(off b hi).1;omega
end
end Go.Avm
namespace Go.Avm
open Go Go.Maps
section
variable {P:Program}{R:Res}
theorem v9 {FM:Mem}{Z:Plc}{hp:List AObj}{w:World}(hr:HRel FM Z hp w)(o:Obj)(x:AObj)(q:Nat)(hx:∀FM',(∀b y,FM' b=some y->FM b=some y)->cu FM' (Z++[(w.heap.size,0,q)]) (w.heap.size,0,q) (w.alloc o) x) :
  HRel FM (Z++[(w.heap.size,0,q)]) (aR hp x) (w.alloc o)/\Ext noB FM Z w FM (Z++[(w.heap.size,0,q)]) (w.alloc o)/\(Z++[(w.heap.size,0,q)])[hp.length]? = some (w.heap.size,0,q):=by
 have hold:∀b,b<w.heap.size->(w.alloc o).heap[b]? = w.heap[b]?:= fun b hb=>_root_.Go.RowKit.Below.heap_alloc w o b hb
 have hsz:(w.alloc o).heap.size=w.heap.size+1:=by simp
 have hlt:∀b o,FM b=some o->b<w.heap.size:=fun b o h=>(Array.getElem?_eq_some_iff.1 (hr.fm b o h)).1
 refine⟨⟨fun b o h=>by rw[hold b (hlt b o h)];exact hr.fm b o h,by simp[aR,hr.len],fun i p hi=>?_,fun i j p q hi hj hli hlj hpq=>?_⟩,⟨fun _ _ h=>h,fun _ _ h=>.inl h,fun b ⟨p,hp',hb,hp2⟩=>?_,fun b hb _ _=>hold b hb,omg,rfl,rfl,rfl⟩,by simp[<-hr.len]⟩
 ·rcases dD hi with⟨hi,hlt'⟩|⟨rfl,rfl⟩
  ·obtain⟨h1,h2⟩:=hr.obj i p hi
   refine⟨fun hre=>by have:=h1 hre;omega,?_⟩
   rw[cf (by rw[<-hr.len];exact hlt')]
   exact h2.mono (Sub.snoc _ _) (fun hl=>hold _ (hr.real hi hl).2)
  ·refine⟨fun _=>by simp[hsz],?_⟩
   rw[hr.len,ig]
   exact hx FM (fun _ _ h=>h)
 ·rcases dD hi with⟨hi,hi'⟩|⟨rfl,rfl⟩ <;> rcases dD hj with⟨hj,hj'⟩|⟨rfl,rfl⟩
  ·rw[cf (by rw[<-hr.len];exact hi')] at hli
   rw[cf (by rw[<-hr.len];exact hj')] at hlj
   exact hr.inj i j p q hi hj hli hlj hpq
  ·rw[cf (by rw[<-hr.len];exact hi')] at hli
   have:=(hr.real hi hli).2
   simp at hpq;omega
  ·rw[cf (by rw[<-hr.len];exact hj')] at hlj
   have:=(hr.real hj hlj).2
   simp at hpq;omega
  ·rfl
 ·rcases List.mem_append.1 hp' with h|h
  ·exact .inl ⟨p,h,hb,hp2⟩
  ·simp at h;subst h;exact .inr (by simp at hb;omega)
theorem qH {hp:List AObj}{g:R.σ}{FM:Mem}{Z:Plc}{w:World}(ok:Ok R hp g FM Z w){ob:Nat}{es:List (Value × AV)}(hob:ag hp ob=.map es){v:Value}(hv:Den FM Z (.mp ob) v) :
  ∃p mes clock,Z[ob]? = some p/\v=.map (some p.1)/\p.2.1<=p.2.2/\FM p.1=none/\w.heap[p.1]? = some (.map mes clock)/\mes.size=es.length/\∀(i:Nat) (k:Value) (v:AV),es[i]? = some (k,v)->∃e,mes[i]? = some e/\e.key=k/\Den FM [] v e.val:=by
 obtain⟨p,hp,rfl⟩:=hv
 obtain⟨_,h2⟩:=ok.rel.obj ob p hp
 rw[hob] at h2
 obtain⟨a1,a2,mes,clock,a3,a4,a5⟩:=h2
 exact⟨p,mes,clock,hp,rfl,a1,a2,a3,a4,a5⟩
theorem kY {es:List (Value × AV)}{mes:Array MapEntry}{FM:Mem}(hl:mes.size=es.length)(h:∀(i:Nat) (k:Value) (v:AV),es[i]? = some (k,v)->∃e,mes[i]? = some e/\e.key=k/\Den FM [] v e.val){i:Nat}{e:MapEntry}(hi:mes.toList[i]? = some e):∃v,es[i]? = some (e.key,v)/\Den FM [] v e.val:=by
 have hlt:i<es.length:=by
  have:=(List.getElem?_eq_some_iff.1 hi).1
  simpa[hl] using this
 obtain⟨e',h1,h2,h3⟩:=h i es[i].1 es[i].2 (by rw[List.getElem?_eq_getElem hlt])
 rw[Array.getElem?_toList] at hi
 rw[hi] at h1
 cases h1
 exact⟨es[i].2,by rw[List.getElem?_eq_getElem hlt,h2],h3⟩
end
end Go.Avm
namespace Go.Avm
open Go
section
variable {P:Program}{R:Res}
theorem wb {o:Oper}{ev:Operand->AV}{hp:List AObj}{g:R.σ}{t es:Nat}{ei:TyI}{k:Call}{x:Operand}{ob off len cap N:Nat}{ex:Bool}{get0:Nat->AV}
  (ho:o.op=.call k) (hk:k.callee=.builtin .clear) (ha:k.args=#[x]) (ht:k.argTypes=#[t]) (hx:ev x=.sl ob off len cap ex es) (hob:ag hp ob=.cells false N get0) (hei:ej (ax P) t=some (es,ei)) (hl:0<len) (hlc:len<=cap) (hes:0<es) (hN:off+len*es<=N) :
  OpOk P R o ev hp g .any (aH hp ob (.cells false off get0)) g:=by
 refine⟨fun FM Z w evc ok hop=>?_⟩
 have hdx:=hop x (by simp[ho,Op.operands,Call.operands,ha])
 obtain⟨e,ti,hti,hd,hee,hse⟩:=je hei
 have hu:=hti.und
 rw[hd] at hu
 rw[hx] at hdx
 obtain⟨q,cap',hq,hxv,hcap,_,hfit⟩:=hdx
 obtain⟨inf,hi1,hi2,hi3,z,hz0,hzs,_,_,hone⟩:=hee.info
 have hz:(zeroValue e).run P w=.ok z w:=by simp[zeroValue,typeInfo,hi1,hz0]
 have hpos:0<N:=Nat.lt_of_lt_of_le (Nat.mul_pos hl hes) omg
 obtain⟨_,hobj'⟩:=ok.rel.obj ob q hq
 rw[hob] at hobj'
 obtain⟨cur,e',hcur,hN',hcsz,hcells,_,hfn⟩:=hobj' hpos
 have hzsz:z.cells.size=es:=by rw[hse];exact hzs
 have hvl:(Builtin.zeroCells z.cells len).toList.length=len*es:=by
  rw[Array.length_toList,size_zeroCells,hzsz]
 have h1:∀v∈(Builtin.zeroCells z.cells len).toList,v.oneCell'=true:=by
  intro v hv
  obtain⟨j,hj⟩:=List.getElem?_of_mem hv
  have hjl:=(List.getElem?_eq_some_iff.1 hj).1
  rw[hvl] at hjl
  have hlt:j%z.cells.size<z.cells.size:=Nat.mod_lt _ omg
  rw[Array.getElem?_toList] at hj
  simp only[Builtin.zeroCells,Array.getElem?_map] at hj
  rw[Array.getElem?_range,if_pos (by rw[hzsz];exact hjl)] at hj
  simp only[Option.map_some,Option.some.injEq] at hj
  rw[<-hj,pJ hlt,Array.getD_eq_getD_getElem?,Array.getElem?_eq_getElem hlt]
  exact hone _ (Array.getElem_mem hlt)
 have hst:=run_storeCells_at P q.1 (q.2.1+off) e' (Builtin.zeroCells z.cells len).toList 0 cur w hcur (by rw[hvl];omega) h1
 simp only[Nat.add_zero] at hst
 have hwr:=Wrote.setRow hcur (cur.toList.take (q.2.1+off)++(Builtin.zeroCells z.cells len).toList++cur.toList.drop (q.2.1+off+(Builtin.zeroCells z.cells len).toList.length)).toArray
 have hfit2:q.2.1+off+(Builtin.zeroCells z.cells len).toList.length<=cur.toList.length:=by rw[hvl];simp;omega
 obtain⟨b1,b2⟩:=mD ok.rel hq hob hpos hwr (by rw[List.size_toArray,ij _ _ _ hfit2];simpa using hcsz) (n:=off) (get:=get0) (by rw[List.size_toArray,ij _ _ _ hfit2];simp;omega) (fun j hj=>by
  rw[kA _ _ _ hfit2,if_neg omg]
  obtain⟨u,u1,u2,u3⟩:=hcells j omg
  have:cur.toList.toArray.getD (q.2.1+j) undef=u:=by
   rw[Array.getD_eq_getD_getElem?,Array.toArray_toList,u1];rfl
  rw[this]
  exact⟨u2,u3⟩)
 obtain⟨c1,c2⟩:=e7 ok b1 b2 (BD _)
 refine⟨.value (.tuple #[]),_,FM,Z,_,?_,rfl,trivial,c1,c2⟩
 cases len with
 |zero=>omega
 |succ l=>simp[execOp,ho,resolve,hk,ha,ht,invoke,builtin,hxv,Builtin.clear_,run_underlying hu,hz,hst]
end
end Go.Avm
namespace Go.Avm
open Go
section
variable {P:Program}{R:Res}
theorem Le.nil_auto {s n s':Nat}{f f':Nat->Nat->AV}:Le (.fz .nil s n f) (.fz .auto s' 0 f'):=fun FM Z v h=>
 nj (k:=.nil) (k':=.auto) (n:=0) (s:=s') (f:=f') (g:=f') rfl (fun _ _ _ _=>rfl) FM Z v (Le.nil FM Z v h)
theorem wc {ty:Nat->Option TyI}{t es:Nat}(h:(match ej ty t with|some p=>Nat.beq p.1 es|none=>false)=true):∃ei,ej ty t=some (es,ei):=by
 cases hx:ej ty t with
 |none=>rw[hx] at h;cases h
 |some p=>
  rw[hx] at h
  have:=Nat.eq_of_beq_eq_true h
  exact⟨p.2,by rw[<-this]⟩
theorem qI {o:Oper}{ev:Operand->AV}{hp:List AObj}{g:R.σ}{orc:Orc}{out:Out}(h:dA (ax P) hp ev orc o.op=some out)(hob:ap out.ob):OpOk P R o ev hp g out.v out.hp g:=by
 refine⟨fun FM Z w evc ok hop=>?_⟩
 classical
 let ev':Operand->AV:=fun x=>if x∈o.op.operands then ev x else .any
 have hev':∀x,Den FM Z (ev' x) (evc x):=by
  intro x
  by_cases hx:x∈o.op.operands
  ·simp only[ev',hx,if_true];exact hop x hx
  ·simp only[ev',hx,if_false];trivial
 have hsame:∀x∈o.op.operands,ev x=ev' x:=fun x hx=>by simp only[ev',hx,if_true]
 rw[pR hsame] at h
 obtain⟨nx,w',Z',u,r1,r2,r3,r4,r5,r6⟩:=pO ok.rel hev' h hob
 obtain⟨ok',go'⟩:=e7 ok r4 r5 r6
 exact⟨nx,w',FM,Z',u,r1,r2,r3,ok',go'⟩
theorem wd {o:Oper}{ev:Operand->AV}{hp hp1 hp2:List AObj}{g g1 g2:R.σ}{v x:AV}(h:OpOk P R o ev hp g v hp1 g1)(ht:To R hp.length ⟨[(0,v)],hp1,g1⟩ ⟨[(0,x)],hp2,g2⟩):OpOk P R o ev hp g x hp2 g2:=by
 refine⟨fun FM Z w evc ok hop=>?_⟩
 obtain⟨nx,w',FM',Z',u,r1,r2,r3,r4,r5⟩:=h.h FM Z w evc ok hop
 obtain⟨FM'',Z'',d1,d2,d3⟩:=jH (k0:=hp.length) (s:=⟨[(0,v)],hp1,g1⟩) ok.rel.len r4 r5 r3 ht rfl rfl
 exact⟨nx,w',FM'',Z'',u,r1,r2,d1,d2,d3⟩
theorem we {o:Oper}{ev:Operand->AV}{hp:List AObj}{g:R.σ}{v:AV}(h:OpOk P R o ev [] g v [] g)(hops:∀x∈o.op.operands,Below 0 (ev x)):OpOk P R o ev hp g v hp g:=by
 refine⟨fun FM Z w evc ok hop=>?_⟩
 obtain⟨nx,w',FM',Z',u,r1,r2,r3,r4,r5⟩:=h.h FM [] w evc (v7 ok) (fun x hx=>by simpa using cC (k:=0) _ (hop x hx) (hops x hx))
 obtain rfl:Z'=[]:=qm (by rw[r4.rel.len];rfl)
 refine⟨nx,w',FM',Z,u,r1,r2,r3.lift,v8 ok r4 r5,⟨r5.ext.fm,fun b o hb=>?_,fun b hb=>.inl hb,fun b h1 h2 h3=>r5.ext.keep b h1 (fun ⟨p,hp,_⟩=>by cases hp) h3,r5.ext.size,r5.ext.os,r5.ext.tape,r5.ext.output⟩,r5.bn,BD _⟩
 rcases r5.ext.grow b o hb with h1|h1|⟨p,hp,_⟩|h1
 ·exact .inl h1
 ·exact .inr (.inl h1)
 ·cases hp
 ·exact .inr (.inr (.inr h1))
theorem wg {o:Oper}{ev:Operand->AV}{hp:List AObj}{g:R.σ}{n es N:Nat}{get:Nat->AV}{tag:Tag}{x:AV}(h:dA (ax P) [] ev .none o.op=some ⟨.sl 0 0 n n true es,[.cells false N get],[],tag⟩)(hN:n*es<=N)(hb:∀j,j<N->Below 0 (get j))(hops:∀y∈o.op.operands,Below 0 (ev y))
  (hx:Le (.fz .exa es n (fun i j=>get (0+i*es+j))) x):OpOk P R o ev hp g x hp g:=by
 refine we ?_ hops
 have h1:OpOk P R o ev [] g (.sl 0 0 n n true es) [.cells false N get] g:=qI h trivial
 have ht:To R 0 ⟨[(0,.sl 0 0 n n true es)],[.cells false N get],g⟩ ⟨[(0,fh [0] [.cells false N get] (.sl 0 0 n n true es))],ca [0] [.cells false N get],g⟩:=nr [0] _ _ (by exact⟨hb,⟨omg,Nat.le_refl _⟩,trivial⟩)
 have h2:=wd h1 (To.trans ht (gH 0 (Nat.le_refl _) [0] (s:=⟨[(0,fh [0] [.cells false N get] (.sl 0 0 n n true es))],ca [0] [.cells false N get],g⟩) (by exact⟨trivial,trivial⟩)))
 refine⟨fun FM Z w evc ok hop=>?_⟩
 obtain⟨nx,w',FM',Z',u,r1,r2,r3,r4,r5⟩:=h2.h FM Z w evc ok hop
 refine⟨nx,w',FM',Z',u,r1,r2,hx _ _ _ ?_,r4,r5⟩
 have e:lk [(0,fh [0] [AObj.cells false N get] (.sl 0 0 n n true es))] 0=.fz (bif true&&Nat.beq n n then .exa else .opn) es n (fun i j=>get (0+i*es+j)):=rfl
 have r3:Den FM' Z' (lk [(0,fh [0] [AObj.cells false N get] (.sl 0 0 n n true es))] 0) u:=r3
 rw[e,Nat.beq_refl] at r3
 exact r3
theorem LeO.box {a:AV}{f:Nat->AV}{x:AV}(h:f 0=x)(hx:Le a x):LeO (.cells false 1 (fun _=>a)) (.cells false 1 f):=
 ⟨rfl,Nat.le_refl _,fun j hj=>by have:j=0:=by omega
                                 subst this;rw[h];exact hx⟩
end
end Go.Avm
namespace Go.Avm
open Go Go.WideShapes Go.ChangeShapes
def ns (ev:Operand->AV):List Operand->Prop
 |[]=>True
 |x::r=>Below 0 (ev x)/\ns ev r
theorem qJ {ev:Operand->AV}:∀{l:List Operand},ns ev l->∀x∈l,Below 0 (ev x)
 |[],_,x,hx=>by cases hx
 |y::r,h,x,hx=>by
  rcases List.mem_cons.1 hx with rfl|hx
  ·exact h.1
  ·exact qJ h.2 x hx
def qK:Option Out->Option (Nat × Nat)
 |some ⟨.sl 0 0 n m true es,[.cells false N _],[],_⟩=>bif Nat.beq n m&&Nat.beq N (n*es) then some (n,es) else none
 |_=>none
def wh:Option Out->Nat->AV
 |some ⟨_,[.cells _ _ get],_,_⟩=>get
 |_=>fun _=>.any
theorem bT {P:Program}{R:Res}{o:Oper}{ev:Operand->AV}{hp:List AObj}{g:R.σ}{n es:Nat}{x:AV}{k:Fz}{g':Nat->Nat->AV}(h:qK (dA (ax P) [] ev .none o.op)=some (n,es))(hops:ns ev o.op.operands.toList)
  (hx:x=.fz k es n g') (hk:leK .exa k n=true) (hg:∀i,i<n->∀j,j<es->wh (dA (ax P) [] ev .none o.op) (i*es+j)=g' i j) (hb:∀i,i<n->∀j,j<es->Below 0 (g' i j)):OpOk P R o ev hp g x hp g:=by
 obtain⟨out,ho⟩:∃out,out=dA (ax P) [] ev .none o.op:=⟨_,rfl⟩
 rw[<-ho] at h hg
 unfold qK at h
 split at h
 ·rename_i n' m es' N get tag
  cases hb1:(Nat.beq n' m&&Nat.beq N (n'*es')) with
  |false=>rw[hb1] at h;cases h
  |true=>
   rw[hb1] at h
   simp only[cond_true,Option.some.injEq,Prod.mk.injEq] at h
   obtain⟨rfl,rfl⟩:=h
   simp only[Bool.and_eq_true,Nat.beq_eq] at hb1
   obtain⟨rfl,rfl⟩:=hb1
   have hg':∀i,i<n'->∀j,j<es'->get (i*es'+j)=g' i j:=hg
   refine wg ho.symm (Nat.le_refl _) (fun j hj=>?_) (fun y hy=>qJ hops y (by simpa using hy)) (by rw[hx];exact nj hk (fun i j hi hj=>by rw[<-hg' i hi j hj,Nat.zero_add]))
   have hes:0<es':=by
    rcases Nat.eq_zero_or_pos es' with h0|h0
    ·rw[h0] at hj;simp at hj
    ·exact h0
   have h1:j/es'<n':=Nat.div_lt_of_lt_mul (by rw[Nat.mul_comm];exact hj)
   have h2:j%es'<es':=Nat.mod_lt _ hes
   have:=hg' _ h1 _ h2
   rw[Nat.mul_comm,Nat.div_add_mod] at this
   rw[this]
   exact hb _ h1 _ h2
 ·cases h
def dF (W:World):Mem:=fun b=>W.heap[b]?
theorem qL {W:World}{b j:Nat}{x:Value}(h:W.cell? ⟨b,j,none⟩=some x):cB (dF W) b j=some x:=by
 unfold World.cell? at h
 unfold cB dF
 split at h
 ·rename_i c e f hb
  rw[hb]
  simpa using h
 ·cases h
def qM (W:World)(n:Nat)(get:Nat->AV)(cs:List Value):Prop:=
 cs.length=n/\∀j,j<n->∃x,cs[j]? = some x/\x.oneCell'=true/\Den (dF W) [] (get j) x
def Rea (P:Program)(t n:Nat){U:Type}(Q:U->Prop)(enc:U->Nat->AV):Prop:=
 ∀(H:Type) (en:TypeId × Value->H) (W:World) (fuel:Nat) (cs:List Value) (x:DataW H × List MemPlace),
  DataW.trod en P W 0 (fun _=>true) true fuel t cs=some x->∃a,Q a/\qM W n (enc a) cs
section
variable {P:Program}{t:Nat}
theorem Rea.map {U β:Type}{n:Nat}{Q:U->Prop}{enc:U->Nat->AV}{Q':β->Prop}{enc':β->Nat->AV}(h:Rea P t n Q enc)(f:U->β)(hq:∀a,Q a->Q' (f a))(he:∀a j,j<n->enc a j=enc' (f a) j):Rea P t n Q' enc':=by
 intro H en W fuel cs x hx
 obtain⟨a,h1,h2,h3⟩:=h H en W fuel cs x hx
 exact⟨f a,hq a h1,h2,fun j hj=>by rw[<-he a j hj];exact h3 j hj⟩
theorem jN {W:World}{v:Value}{g:Nat->AV}(h1:v.oneCell'=true)(h2:Den (dF W) [] (g 0) v):qM W 1 g [v]:=
 ⟨rfl,fun j hj=>by
  have:j=0:=by omega
  subst this
  exact⟨v,rfl,h1,h2⟩⟩
theorem nu {k:IntKind}(ht:P.underlying t=some (.int k)):Rea P t 1 (fun n:Int=>(Lit.int k n).wf=true) (fun n _=>.int k n):=by
 intro H en W fuel cs x hx
 obtain⟨n,rfl,_,hw⟩:=DataW.trod_int ht hx
 exact⟨n,hw,jN rfl rfl⟩
theorem wi (ht:P.underlying t=some .bool):Rea P t 1 (fun _:Bool=>True) (fun b _=>.bool b):=by
 intro H en W fuel cs x hx
 obtain⟨b,rfl,_⟩:=DataW.trod_bool ht hx
 exact⟨b,trivial,jN rfl rfl⟩
def kZ (P:Program)(fs:List Field)(o n:Nat){U:Type}(Q:U->Prop)(enc:U->Nat->AV):Prop:=
 ∀(H:Type) (en:TypeId × Value->H) (W:World) (fuel:Nat) (cs:List Value),
  (∀f∈fs,∃x:DataW H × List MemPlace,DataW.trod en P W 0 (fun _=>true) true fuel f.type ((cs.drop f.offset).take (P.cellsOf f.type))=some x) ->
  ∃a,Q a/\∀j,j<n->∃x,cs[o+j]? = some x/\x.oneCell'=true/\Den (dF W) [] (enc a j) x
theorem nv {o:Nat}:kZ P [] o 0 (fun _:Unit=>True) (fun _ _=>.any):=
 fun _ _ _ _ _ _=>⟨(),trivial,fun j hj=>absurd hj omg⟩
theorem iI {U β:Type}{f:Field}{fs:List Field}{o m n:Nat}{Q:U->Prop}{enc:U->Nat->AV}{Q':β->Prop}{enc':β->Nat->AV}
  (ho:f.offset=o) (hm:P.cellsOf f.type=m) (h:Rea P f.type m Q enc) (h':kZ P fs (o+m) n Q' enc') :
  kZ P (f::fs) o (m+n) (fun x:U × β=>Q x.1/\Q' x.2) (fun x j=>if j<m then enc x.1 j else enc' x.2 (j-m)):=by
 intro H en W fuel cs hx
 obtain⟨x,hx1⟩:=hx f (by simp)
 obtain⟨a,q1,l1,c1⟩:=h H en W fuel _ x hx1
 obtain⟨b,q2,c2⟩:=h' H en W fuel cs (fun g hg=>hx g (by simp[hg]))
 refine⟨(a,b),⟨q1,q2⟩,fun j hj=>?_⟩
 by_cases hjm:j<m
 ·obtain⟨y,y1,y2,y3⟩:=c1 j hjm
  refine⟨y,?_,y2,by show Den _ _ (if j<m then _ else _) _;rw[if_pos hjm];exact y3⟩
  rw[hm,ho,List.getElem?_take,if_pos hjm,List.getElem?_drop] at y1
  exact y1
 ·obtain⟨y,y1,y2,y3⟩:=c2 (j-m) omg
  exact⟨y,by rw[<-y1];congr 1;omega,y2,by show Den _ _ (if j<m then _ else _) _;rw[if_neg hjm];exact y3⟩
theorem ny {U:Type}{fs:Array Field}{n:Nat}{Q:U->Prop}{enc:U->Nat->AV}(ht:P.underlying t=some (.struct fs))(hn:P.cellsOf t=n)(h:kZ P fs.toList 0 n Q enc):Rea P t n Q enc:=by
 intro H en W fuel cs x hx
 obtain⟨xs,m,rfl,_,hl,hxs,hf⟩:=DataW.trod_struct ht hx
 obtain⟨a,q,c⟩:=h H en W m cs (fun f hfm=>by
  obtain⟨i,hi,hif⟩:=List.getElem_of_mem hfm
  have h1:i<fs.size:=by simpa using hi
  have h2:fs[i]? = some f:=by simp[h1,<-hif]
  have:=hf i f h2
  rw[List.getElem?_eq_getElem omg] at this
  exact⟨_,this⟩)
 exact⟨a,q,by rw[hl,hn],fun j hj=>by simpa using c j hj⟩
def QL {U:Type}(Q:U->Prop)(x:Fz × List U):Prop:=(∀a∈x.2,Q a)/\x.2.length<=maxLen
theorem qN {W:World}{a:Addr}:∀{l:List Nat} {cs:List Value},l.mapM (fun i=>W.cell? (a.add i))=some cs->∀i,i<l.length->W.cell? (a.add (l.getD i 0))=cs[i]?
 |[],_,_,i,hi=>by simp at hi
 |x::r,cs,h,i,hi=>by
  simp only[List.mapM_cons,Option.bind_eq_bind,Option.bind_eq_some_iff,Option.pure_def,Option.some.injEq] at h
  obtain⟨y,h1,ys,h2,rfl⟩:=h
  cases i with
  |zero=>simpa using h1
  |succ i=>simpa using qN h2 i (by simpa using hi)
theorem wj {W:World}{base:Nat}{a:Addr}{n:Nat}{cs:List Value}(h:W.cells? base a n=some cs){j:Nat}(hj:j<n):W.cell? (a.add j)=cs[j]?:= by
 unfold World.cells? at h
 split at h
 ·have:=qN h j (by simpa using hj)
  simpa[List.getD,hj] using this
 ·cases h
theorem wk (a:Addr)(i j:Nat):(a.add i).add j=a.add (i+j):=by
 unfold Addr.add
 by_cases hi:i=0
 ·subst hi;simp
 ·by_cases hj:j=0
  ·subst hj;simp
  ·rw[if_neg hi,if_neg hj,if_neg omg,Nat.add_assoc]
theorem qO {U:Type}[Inhabited U]{e n:Nat}{Q:U->Prop}{enc:U->Nat->AV}(ht:P.underlying t=some (.slice e))(hc:P.cellsOf e=n)(hn:0<n)(h:Rea P e n Q enc) :
  Rea P t 1 (QL Q) (fun x _=>.fz x.1 n x.2.length (fun i=>enc (x.2.getD i default))):=by
 intro H en W fuel cs x hx
 rcases DataW.trod_slice ht hx with⟨rfl,_⟩|⟨a,len,cap,elems,rest,m,rfl,rfl,_,_,hlc,hcm,hel,hat,_,_⟩
 ·refine⟨(.nil,[]),⟨fun a ha=>(by cases ha),Nat.zero_le _⟩,jN rfl ?_⟩
  exact⟨fun _=>⟨rfl,none,0,rfl,rfl,rfl⟩,fun h=>(by cases h)⟩
 ·by_cases h0:len=0
  ·subst h0
   refine⟨(.may,[]),⟨fun a ha=>(by cases ha),Nat.zero_le _⟩,jN rfl ?_⟩
   exact⟨fun _=>⟨rfl,some a,cap,rfl,fun h=>(by cases h)⟩,fun h=>(by cases h)⟩
  ·have key:∀i,∃y:U,i<len->Q y/\∀j,j<n->∃x,W.cell? (a.add (i*n+j))=some x/\x.oneCell'=true/\Den (dF W) [] (enc y j) x:=by
    intro i
    by_cases hi:i<len
    ·have h1:=hat i hi
     rw[List.getElem?_eq_getElem omg,hc] at h1
     obtain⟨ci,e1,e2⟩:=Option.bind_eq_some_iff.1 h1
     obtain⟨y,q,l1,c1⟩:=h H en W m ci _ e2
     refine⟨y,fun _=>⟨q,fun j hj=>?_⟩⟩
     obtain⟨x,x1,x2,x3⟩:=c1 j hj
     have:=wj e1 hj
     rw[x1] at this
     refine⟨x,?_,x2,x3⟩
     rw[<-this,wk]
    ·exact⟨default,fun h=>absurd h hi⟩
   let f:Nat->U:=fun i=>Classical.choose (key i)
   have hf:∀i,i<len->Q (f i)/\∀j,j<n->∃x,W.cell? (a.add (i*n+j))=some x/\x.oneCell'=true/\Den (dF W) [] (enc (f i) j) x:=fun i=>Classical.choose_spec (key i)
   have hll:((List.range len).map f).length=len:=by simp
   have hget:∀i,i<len->((List.range len).map f).getD i default=f i:=fun i hi=>by simp[List.getD,hi]
   obtain⟨b,off,sp⟩:=a
   have hsp:sp=none:=by
    obtain⟨x,x1,_⟩:=(hf 0 omg).2 0 hn
    simpa[Addr.add] using World.cell?_spot x1
   subst hsp
   refine⟨(.opn,(List.range len).map f),⟨fun y hy=>?_,by simp only[hll];omega⟩,jN rfl ?_⟩
   ·obtain⟨i,hi,rfl⟩:=List.mem_map.1 hy
    exact(hf i (by simpa using hi)).1
   ·refine⟨fun h=>(by cases h),fun _=>⟨b,off,cap,by rw[hll],by rw[hll];exact hlc,fun h=>(by rcases h with h|h <;> cases h),fun i j hi hj=>?_⟩⟩
    rw[hll] at hi
    obtain⟨x,x1,x2,x3⟩:=(hf i hi).2 j hj
    refine⟨x,qL (by rw[<-x1,add_plain,Nat.add_assoc]),x2,?_⟩
    show Den _ _ (enc (((List.range len).map f).getD i default) j) x
    rw[hget i hi]
    exact x3
def Arg (P:Program)(t:TypeId){U:Type}(Q:U->Prop)(A:U->AV):Prop:=
 ∀(H:Type) (en:TypeId × Value->H) (W:World) (base:Nat) (v:Value) (d:DataW H) (ps:List MemPlace),
  Value.okWide P W .any base t v->DataW.Trod en P W 0 (fun _=>true) true t v d ps->∃a,Q a/\Den (dF W) [] (A a) v
theorem wl {U:Type}{fs:Array Field}{n:Nat}{Q:U->Prop}{enc:U->Nat->AV}(ht:P.underlying t=some (.struct fs))(h:Rea P t n Q enc):Arg P t Q (fun a=>.agg n (enc a)):=by
 intro H en W base v d ps hok ⟨fuel,hx⟩
 obtain⟨cs,rfl,hcs⟩:=okWide_struct ht hok
 obtain⟨y,q,hl,hc⟩:=h H en W fuel _ _ hx
 have hl':cs.size=n:=by simpa[Value.cells] using hl
 refine⟨y,q,cs,rfl,hl',fun j hj=>?_⟩
 obtain⟨x,h1,h2,h3⟩:=hc j hj
 have:cs.getD j undef=x:=by
  have h1:cs[j]? = some x:=by simpa[Value.cells] using h1
  simp[Array.getD_eq_getD_getElem?,h1]
 rw[this]
 exact⟨h2,h3⟩
def la (P:Program)(ts:List TypeId)(X:List AV->Prop):Prop:=
 ∀(H:Type) (en:TypeId × Value->H) (W:World) (base:Nat) (vs:List Value) (ds:List (DataW H)) (ps:List MemPlace),
  (∀(j:Nat) (t:TypeId) (v:Value),ts[j]? = some t->vs[j]? = some v->Value.okWide P W .any base t v)->DataW.TrodAll en P W 0 (fun _=>true) true ts vs ds ps ->
  ∃avs:List AV,X avs/\vs.length=avs.length/\∀i,i<avs.length->Den (dF W) [] (nth avs i) (vs.getD i undef)
theorem wm:la P [] (fun l=>l=[]):=by
 intro H en W base vs ds ps _ h
 obtain⟨rfl,rfl,rfl⟩:=trodAll_nil h
 exact⟨[],rfl,rfl,fun i hi=>absurd hi (by simp)⟩
theorem wn {U:Type}{ts:List TypeId}{Q:U->Prop}{A:U->AV}{X:List AV->Prop}(h:Arg P t Q A)(h':la P ts X):la P (t::ts) (fun l=>∃a,Q a/\∃r,X r/\l=A a::r):=by
 intro H en W base vs ds ps hok hT
 obtain⟨v,vs',d,ds',p,q,rfl,rfl,rfl,h1,h2⟩:=trodAll_cons hT
 obtain⟨a,qa,da⟩:=h H en W base v d p (hok 0 t v rfl rfl) h1
 obtain⟨r,xr,lr,dr⟩:=h' H en W base vs' ds' q (fun j u w hu hw=>hok (j+1) u w hu hw) h2
 refine⟨A a::r,⟨a,qa,r,xr,rfl⟩,by simp[lr],fun i hi=>?_⟩
 cases i with
 |zero=>exact da
 |succ i=>exact dr i (by simpa using hi)
end
section
variable {H:Type}{enc:TypeId × Value->H}{P:Program}
theorem wo {f:Func}{s:ChangeSpec}{apart fresh handsOn again:Bool}{W W':World}{args:Array Value}{v:Value}{ds gs:List (DataW H)}{before pa pv:List MemPlace}
  (hW:DataW.Whole enc P f.params.toList s.vars apart W args.toList ds gs before)
  (hres:∀(b:Nat) (sp:Nat->Bool) (hd:Bool),DataW.TrodAll enc P W' b sp hd f.resultTypes.toList (v.resultList f.resultTypes.size) (s.fn H (ds++gs)).results [])
  (hargs:∀sp:Nat->Bool,(∀p∈before,sp p.block=true)->DataW.TrodAll enc P W' 0 sp true f.params.toList args.toList (s.fn H (ds++gs)).args pa)
  (hvars:∀sp:Nat->Bool,(∀p∈before,sp p.block=true)->DataW.TrodVars enc P W' sp s.vars (s.fn H (ds++gs)).vars pv)
  (hps:before=pa++pv) (hb:RowKit.Below W.heap.size W W')
  (hok:∀(j:Nat) (t:TypeId) (r:Value),f.resultTypes[j]? = some t->(v.resultList f.resultTypes.size)[j]? = some r->Value.okWide P W' .any 0 t r) :
  s.post enc P f apart fresh handsOn again W args v W':=by
 have hlt:∀p∈before,p.block<W.heap.size:=fun p hp=>hW.lt p hp
 have hold:∀p∈before,(fun b=>decide (b<W.heap.size)) p.block=true:=fun p hp=>by simpa using hlt p hp
 refine⟨ds,gs,before,[],pa,pv,hW,hres _ _ _,hargs _ hold,hvars _ hold,World.keptBut_mono (fun p hp=>⟨hp,?_⟩) (hb.frame (·∈before)),fun _=>?_⟩
 ·rw[hps,List.mem_append] at hp
  exact Or.inr hp
 ·obtain⟨_,_,_,_,_,hz,hn⟩:=hW
  refine⟨hok,_,_,([]++pa)++pv,⟨[]++pa,pv,trodAll_append (hargs _ (fun _ _=>rfl)) (hres _ _ _),hvars _ (fun _ _=>rfl),rfl,?_,?_⟩,?_⟩
  ·intro b off hp
   have hin:MemPlace.cell b off∈before:=by rw[hps];simpa using hp
   rw[hb.frozen (hlt _ hin)]
   exact hz b off hin
  ·intro ha
   have:=hn ha
   rw[hps] at this
   simpa using this
  ·intro p hp _
   rw[hps]
   simpa using hp
theorem wp {W W':World}(hb:RowKit.Below W.heap.size W W'){p:MemPlace}(hp:p.block<W.heap.size):W.sameAt W' p:=by
 cases p with
 |cell b off=>exact hb.cell (p:=⟨b,off,none⟩) hp
 |map b=>exact hb.block b hp
theorem qP {W W':World}{sp:Nat->Bool}(hl:laidOutB P=true):∀{ts:List TypeId} {vs:List Value} {ds:List (DataW H)} {ps:List MemPlace},
  (∀t∈ts,P.readableRec t=true/\t<P.types.size)->DataW.TrodAll enc P W 0 (fun _=>true) true ts vs ds ps->(∀p∈ps,W.sameAt W' p)->(∀p∈ps,sp p.block=true)->DataW.TrodAll enc P W' 0 sp true ts vs ds ps
 |[],_,_,_,_,h,_,_=>by
  obtain⟨rfl,rfl,rfl⟩:=trodAll_nil h
  exact rfl
 |t::ts,_,_,_,hr,h,h1,h2=>by
  obtain⟨v,vs,d,ds,p,q,rfl,rfl,rfl,⟨fuel,hx⟩,hT⟩:=trodAll_cons h
  obtain⟨r1,r2⟩:=hr t (by simp)
  refine⟨p,q,⟨fuel,?_⟩,qP hl (fun u hu=>hr u (by simp[hu])) hT (fun x hx=>h1 x (by simp[hx])) (fun x hx=>h2 x (by simp[hx])),rfl⟩
  exact DataW.trod_stays (kids_book hl r1) (book_sized r1) (fun h=>by cases h) ⟨r2,book_self t⟩ hx (fun x hx=>h1 x (by simp[hx])) (fun x hx=>h2 x (by simp[hx]))
end
end Go.Avm
namespace Go.Avm
open Go
end Go.Avm
namespace Go.Avm
open Go Go.WideShapes Go.ChangeShapes
def cR (gs:List (Nat × List Int))(FM:Mem):Prop:=∀b zs,(b,zs)∈gs->∀i,i<zs.length->cB FM b i=some (.int .u8 (zs.getD i 0))
theorem wq {gs:List (Nat × List Int)}{FM FM':Mem}(h:∀b o,FM b=some o->FM' b=some o)(ht:cR gs FM):cR gs FM':=fun b zs hm i hi=>mu h (ht b zs hm i hi)
def Res.tab (gs:List (Nat × List Int)):Res:=⟨Unit,fun _ _=>False,fun _ FM _=>cR gs FM,fun h k=>wq k.fm h⟩
instance (gs:List (Nat × List Int)):Tab (cR gs) (Res.tab gs):=⟨fun h=>h⟩
def lb (b:Nat):Operand->Bool
 |.global c=>Nat.beq b c
 |_=>false
def gi (b:Nat)(zs:List Int)(ev:Operand->AV)(x:Operand):AV:=bif lb b x then .fp zs.length (fun j=>.int .u8 (zs.getD j 0)) else ev x
theorem ws {P:Program}{R:Res}{gs:List (Nat × List Int)}[hT:Tab (cR gs) R]{o:Oper}{ev:Operand->AV}{hp:List AObj}{g:R.σ}{x:AV}(b:Nat)(zs:List Int)(hb:(b,zs)∈gs)(hg:ev (.global b)=.val (.pointer (some ⟨b,0,none⟩))){out:Out}
  (h:dz (ax P) hp (gi b zs ev) .none o.op=some out) (hob:ap out.ob) (hx:Le out.v x):OpOk P R o ev hp g x hp g:=by
 refine⟨fun FM Z w evc okw hop=>?_⟩
 classical
 have htab:=hT.h okw.j
 let ev':Operand->AV:=fun y=>if y∈o.op.operands then gi b zs ev y else .any
 have hev':∀y,Den FM Z (ev' y) (evc y):=by
  intro y
  by_cases hy:y∈o.op.operands
  ·simp only[ev',hy,if_true]
   have h1:=hop y hy
   unfold gi
   cases hi:lb b y with
   |false=>exact h1
   |true=>
    have e:y=.global b:=by
     cases y with
     |global c=>rw[Nat.eq_of_beq_eq_true hi]
     |_=>cases hi
    rw[e,hg] at h1
    rw[e]
    obtain⟨h1,_⟩:=h1
    refine⟨b,0,h1,fun j hj=>⟨.int .u8 (zs.getD j 0),?_,rfl,rfl⟩⟩
    rw[Nat.zero_add]
    exact htab b zs hb j hj
  ·simp only[ev',hy,if_false];trivial
 have hsame:∀y∈o.op.operands,gi b zs ev y=ev' y:=fun y hy=>by simp only[ev',hy,if_true]
 rw[mM hsame] at h
 obtain⟨⟨v,h1,h2⟩,h3⟩:=mG okw.rel hev' h hob
 exact⟨_,w,FM,Z,v,h1,rfl,hx _ _ _ h2,okw,Ext.refl _ _ _ _,fun _ h=>.inl h,BD _⟩
theorem wt {P:Program}{W:World}{x:String × DataW Unit}{r:List (String × DataW Unit)}(h:laidMet P (x::r) W):laidMet P r W:=by
 obtain⟨ps,⟨g,t,cs,fuel,p,q,_,_,_,_,hr,rfl⟩,hn,hall⟩:=h
 exact⟨q,hr,(List.nodup_append.1 hn).2.1,fun b off hb=>hall b off (List.mem_append_right _ hb)⟩
theorem wu {FM:Mem}:cR [] FM:=fun b zs hm=>(by cases hm)
theorem wv {P:Program}{W:World}{name:String}{zs:List Int}{rest:List (String × DataW Unit)}{g:Nat}{t e:TypeId}{n:Nat}{gs:List (Nat × List Int)}
  (hg:P.globalNamed name=some g) (hty:(P.globals[g]?).map (·.type)=some t) (ht:P.underlying t=some (.array n e)) (he:P.underlying e=some (.int .u8)) (hce:P.cellsOf e=1) (hct:P.cellsOf t=n)
  (h:laidMet P ((name,Lib.tabData .u8 zs)::rest) W) (hr:laidMet P rest W->cR gs (dF W)):cR ((g,zs)::gs) (dF W):=by
 intro b ys hm i hi
 rcases List.mem_cons.1 hm with e1|hm
 ·cases e1
  exact qL ((Lib.tabIs_of_head hg hty ht he hce hct h).cell hg i hi)
 ·exact hr (wt h) b ys hm i hi
section
variable {H:Type}{enc:TypeId × Value->H}{P:Program}
theorem ww {a:Assume}{C:Checked}{os:Os}{f:FuncId}{fn:Func}{s:ChangeSpec}{F:Stop.Interp}{conds:List PathCond}{apart fresh handsOn again:Bool}{tb:TypeId}{X:List AV->Prop}{laid:List (String × DataW Unit)}{gs:List (Nat × List Int)}
  (own:ownKnob C.prog.godebug=none) (started:os.Started) (noInit:C.prog.inits.idxOf? f=none) (hfn:C.prog.funcs[f]? = some fn)
  (witness:∃(w:World) (tape:Tape) (i:Input),w.os=os/\(w.forCall tape i).Shaped C.prog/\i.vars=[]/\Input.okWide C.prog (w.forCall tape i) .any w.heap.size f i /\
   (OpenSpec.ofChange s).preRow enc C.prog fn conds apart laid (w.forCall tape i).memory i.args/\a.holds C.prog (lone (Frame.enter C.prog f i.args .normal) [] (w.forCall tape i)))
  (hvars:s.vars=[]) (hspec:∀ds:List (DataW H),ds.length=fn.params.size->s.fn H ds={ results:=[.lit (.bool true)],args:=ds })
  (hl:laidOutB C.prog=true) (hr:∀t∈fn.params.toList,C.prog.readableRec t=true/\t<C.prog.types.size)
  (hres:fn.resultTypes=#[tb]) (hb:C.prog.underlying tb=some .bool) (htab:∀W,laidMetH C.prog laid W->cR gs (dF W))
  (hargs:la C.prog fn.params.toList X) (hdoes:∀avs,X avs->Does C.prog (Res.tab gs) f avs [] () (.ret (.bool true)) [] ()) :
  ReturnsInHanded a C os f .any ((OpenSpec.ofChange s).preRow enc C.prog fn conds apart laid) (((OpenSpec.ofChange s).at F).post enc C.prog fn apart fresh handsOn again):=by
 refine returnsInHanded_of_row own started noInit hfn witness (fun W base args ds gs' before hval hW _ _ _ hL _ _=>?_)
 have hW:DataW.Whole enc C.prog fn.params.toList s.vars apart W args.toList ds gs' before:=hW
 have hW':=hW
 obtain⟨p,q,hA,hV,rfl,hz,hn⟩:=hW
 rw[hvars] at hV
 obtain⟨rfl,rfl⟩:=trodVars_none hV
 obtain⟨avs,hX,hlen,hden⟩:=hargs H enc W base args.toList ds p (fun j t v h1 h2=>hval j t v (by simpa using h1) (by simpa using h2)) hA
 have hlt:∀x∈p,x.block<W.heap.size:=fun x hx=>hW'.lt x (by simp[hx])
 have hdl:ds.length=fn.params.size:=by
  have:∀{ts:List TypeId} {vs:List Value} {ds:List (DataW H)} {ps:List MemPlace},DataW.TrodAll enc C.prog W 0 (fun _=>true) true ts vs ds ps->ds.length=ts.length:=by
   intro ts
   induction ts with
   |nil=>
    intro vs ds ps h
    obtain⟨_,rfl,_⟩:=trodAll_nil h
    rfl
   |cons t ts ih=>
    intro vs ds ps h
    obtain⟨v,vs,d,ds,p,q,rfl,rfl,rfl,_,hT⟩:=trodAll_cons h
    simp[ih hT]
  have:=this hA
  simpa using this
 have hok:Ok (Res.tab gs) [] () (dF W) [] W:=⟨⟨fun b o h=>h,rfl,fun i p h=>(by simp at h),fun i j p q h=>(by simp at h)⟩,htab W hL,fun b h=>absurd h (by simp[Res.tab])⟩
 refine((hdoes avs hX).h (dF W) [] W args hok ⟨by simpa using hlen,fun i hi=>by
  have:=hden i hi
  simpa[List.getD,Array.getD_eq_getD_getElem?] using this⟩).mono fun e W' ⟨FM',Z',⟨v,he,hv⟩,_,hg⟩=>⟨v,he,?_⟩
 have hv:v=.bool true:=hv
 subst hv
 have hbel:RowKit.Below W.heap.size W W':=⟨hg.ext.os,hg.ext.tape,hg.ext.output,hg.ext.size,fun k hk=>hg.ext.keep k hk (fun ⟨p,hp,_⟩=>by cases hp) (fun h=>h)⟩
 have hsp:s.fn H (ds++[])={ results:=[.lit (.bool true)],args:=ds }:=by rw[List.append_nil];exact hspec ds hdl
 show s.post enc C.prog fn apart fresh handsOn again W args (.bool true) W'
 refine wo (pa:=p) (pv:=[]) hW' (fun b sp hd=>?_) (fun sp hs=>?_) (fun sp _=>?_) rfl hbel (fun j t r h1 h2=>?_)
 ·rw[hsp,hres]
  exact⟨[],[],⟨1,by simp[DataW.trod,Value.cells,hb]⟩,rfl,rfl⟩
 ·rw[hsp]
  exact qP hl hr hA (fun x hx=>wp hbel (hlt x hx)) (fun x hx=>hs x (by simp[hx]))
 ·rw[hsp,hvars]
  exact rfl
 ·rw[hres] at h1 h2
  have hj:j=0:=by
   cases j with
   |zero=>rfl
   |succ j=>simp at h1
  subst hj
  simp at h1
  subst h1
  simp[Value.resultList] at h2
  subst h2
  simp[Value.okWide,hb,Cell.okWide,Cell.ok]
end
end Go.Avm
namespace Go.Avm
open Go
structure SeqO (P:Program)(f:FuncId)(o:AObj)(N:Nat)(items:Nat->List AV)(T:Mem->Prop:=fun _=>True):Prop where
 h:∀(R:Res) [Tab T R] (u:Value) (G:Nat->R.σ) (c:Nat->Bool),
  (∀k,k<N->(∀j,j<k->c j=true)->∀hpo,VDoes P R u (items k) hpo (G k) (.ret (.bool (c k))) hpo (G (k+1))) ->
  ∃hp',hp'.length=1/\Does P R f [.val u,.ref 0 0] [o] (G 0) (.ret (.tup 0 (nth []))) hp' (G (fg c N 0))
def jO (k:Nat):AObj->Prop
 |.cells _ n get=>∀j,j<n->Below k (get j)
 |.mapo es=>∀e,e∈es->Below k e.2
 |_=>True
def fj (k:Nat):List AObj->Prop
 |[]=>True
 |o::r=>jO k o/\fj k r
theorem lc {k:Nat}:∀{l:List AObj},fj k l->∀i,jO k (ag l i)
 |[],_,i=>by cases i <;> trivial
 |_::_,h,0=>h.1
 |_::r,h,i+1=>lc (l:=r) h.2 i
theorem ld {FM:Mem}{Z:Plc}{p:Nat × Nat × Nat}{w:World}{o:AObj}{k:Nat}(h:cu FM Z p w o)(hb:jO k o):cu FM (Z.take k) p w o:=by
 cases o with
 |dead=>trivial
 |map es=>exact h
 |mapo es=>
  obtain⟨a1,a2,mes,clock,a3,a4,a5⟩:=h
  exact⟨a1,a2,mes,clock,a3,a4,fun i k v hi=>let ⟨e,b1,b2,b3⟩:=a5 i k v hi;⟨e,b1,b2,cC _ b3 (hb _ (List.mem_of_getElem? hi))⟩⟩
 |cells f n get=>
  intro hn
  obtain⟨cs,e,a1,a2,a3,a4,a5⟩:=h hn
  exact⟨cs,e,a1,a2,a3,fun j hj=>let ⟨x,b1,b2,b3⟩:=a4 j hj;⟨x,b1,b2,cC _ b3 (hb j hj)⟩,a5⟩
theorem lf {FM:Mem}{Z Z':Plc}{p:Nat × Nat × Nat}{w:World}{o:AObj}(hs:Sub Z Z')(h:cu FM Z p w o):cu FM Z' p w o:=by
 cases o with
 |dead=>trivial
 |map es=>exact h
 |mapo es=>
  obtain⟨a1,a2,mes,clock,a3,a4,a5⟩:=h
  exact⟨a1,a2,mes,clock,a3,a4,fun i k v hi=>let ⟨e,b1,b2,b3⟩:=a5 i k v hi;⟨e,b1,b2,BF (fun _ _ h=>h) _ hs b3⟩⟩
 |cells f n get=>
  intro hn
  obtain⟨cs,e,a1,a2,a3,a4,a5⟩:=h hn
  exact⟨cs,e,a1,a2,a3,fun j hj=>let ⟨x,b1,b2,b3⟩:=a4 j hj;⟨x,b1,b2,BF (fun _ _ h=>h) _ hs b3⟩,a5⟩
def dS:List Nat->List (Nat × AV)->List (Nat × AV)
 |[],_=>[]
 |t::ts,fr=>(t,lk fr t)::dS ts fr
def gj (ts:List Nat)(p:Nat->Prop):Prop:=match ts with
 |[]=>True
 |t::r=>p t/\gj r p
theorem nz {p:Nat->Prop}:∀{ts:List Nat},gj ts p->∀t,t∈ts->p t
 |[],_,t,h=>by simp at h
 |a::r,h,t,ht=>by
  rcases List.mem_cons.1 ht with rfl|ht
  ·exact h.1
  ·exact nz (ts:=r) h.2 t ht
theorem nA {FM:Mem}{Z Z0:Plc}{m:Nat}{fr:List (Nat × AV)}{v:Nat->Value}(h:∀t,Den FM Z (lk fr t) (v t)):∀{ts:List Nat},(∀t,t∈ts->Below m (lk fr t))->Z0=Z.take m->∀t,Den FM Z0 (lk (dS ts fr) t) (v t)
 |[],_,_,t=>trivial
 |a::r,hb,e,t=>by
  show Den FM Z0 (bif Nat.beq t a then lk fr a else lk (dS r fr) t) (v t)
  cases hta:Nat.beq t a with
  |true=>
   have:=Nat.eq_of_beq_eq_true hta
   subst this
   rw[e]
   exact cC _ (h t) (hb t List.mem_cons_self)
  |false=>exact nA h (fun t ht=>hb t (List.mem_cons_of_mem _ ht)) e t
section
variable {P:Program}{R:Res}
def lg (P:Program)(R:Res)(nt:Nat)(assign body:Code)(jmp:Option Code)(hp':List AObj)(g':R.σ)(s:St R.σ):Prop:=
 ∀l,wpA P R nt s.hp.length (.inr l) assign (fun e s1=>e=.normal/\wpA P R nt s1.hp.length (.inr l) body (kW R s.hp.length jmp hp' g') s1) s
theorem qQ {nt D L:Nat}{fn:FuncId}{tmps:Array Value}{ps:Array Tmp}{assign body:Code}{rec:LoopState->Option Code->Loop}
  (hrec:rec=fun st pe=>{ state:=st,pending:=pe,fn,tmps,params:=ps,assign,body,defers:=D }) {FM0:Mem} {Z:Plc} {fr:List (Nat × AV)} (hsz:tmps.size=nt) (hfr:∀t,Den FM0 Z (lk fr t) (tmps.getD t undef)) (hne:D≠L)
  {items:List AV} (hlen:items.length=ps.toList.length) (hlt:bF ps.toList nt=true) (hit:gh 0 items) {jmp:Option Code} {hp hp':List AObj} {g g':R.σ} (hl:hp'.length=hp.length)
  (hround:lg P R nt assign body jmp hp' g' ⟨cL ps.toList items fr,hp,g⟩) (hpo:List AObj) :
  VDoes P (fe (gM R D L rec) FM0 Z) (.func (.yield L) #[] #[]) items hpo ((g,.ready,none),hp) (.ret (.bool jmp.isNone)) hpo ((g',(if jmp.isNone then .ready else .done),jmp),hp'):=by
 refine⟨.inr ⟨L,rfl,fun FM Z1 w vs ok hvs=>?_⟩⟩
 obtain⟨okL,hmono⟩:=ok.j
 obtain⟨jR,hD,hL,⟨fD,fL⟩,bD,bL⟩:=okL.j
 have okR:=np okL
 have iD:¬InB Z D:=(okL.bd D (.inr (.inl rfl))).2
 have iL:¬InB Z L:=(okL.bd L (.inr (.inr rfl))).2
 have lD:D<w.heap.size:=(Array.getElem?_eq_some_iff.1 hD).1
 have lL:L<w.heap.size:=(Array.getElem?_eq_some_iff.1 hL).1
 have hvsz:vs.size=ps.size:=by rw[hvs.1,hlen];simp
 have hrun:=run_yield (P:=P) hL (args:=vs) (by rw[hrec];exact hvsz)
 rw[hrec] at hrun
 refine⟨_,_,_,_,hrun,fun r n=>roundIn_of_wpIn trivial ?_⟩
 have hzip:(ps.zip vs).foldl (fun tmps (x:Tmp × Value)=>tmps.setIfInBounds x.1 x.2) tmps=(ps.toList.zip vs.toList).foldl (fun tmps (p:Nat × Value)=>tmps.setIfInBounds p.1 p.2) tmps:=by
  rw[<-Array.foldl_toList,Array.toList_zip]
 have hset:=nq (FM:=FM) (Z:=Z) ps.toList items vs.toList fr tmps hsz hlt hlen (by simpa using hvsz) (fun i hi=>by
  have:=hvs.2 i hi
  have h2:=m9 (Z':=Z) hvs (fun i hi=>jF hit i hi)
  have h3:=h2.2 i hi
  rw[Array.getD_eq_getD_getElem?] at h3
  rw[List.getD_eq_getElem?_getD,Array.getElem?_toList]
  exact h3) (fun t=>BF hmono _ (BD _) (hfr t))
 let C:Cx R:=⟨g,FM,Z,w,[],false⟩
 have hsat:Sat R C nt ⟨cL ps.toList items fr,hp,g⟩ FM Z { tmps:=(ps.zip vs).foldl (fun tmps (x:Tmp × Value)=>tmps.setIfInBounds x.1 x.2) tmps,defers:=[] } w:=by
  refine⟨okR,BA _ _ _ _ _,?_,.start,fun t=>?_⟩
  ·show Array.size _=nt
   rw[hzip];exact hset.1
  ·show Den FM Z _ (Array.getD _ _ _)
   rw[hzip];exact hset.2 t
 have hC:C.Z.length=hp.length:=okR.rel.len
 refine wpIn_mono (hround L C ⟨hC,rfl⟩ n _ w ⟨FM,Z,hsat⟩) (fun e a1 w1 hpost=>?_)
 have post:∃s1 FM1 Z1,e=.normal/\(wpA P R nt s1.hp.length (.inr L) body (kW R hp.length jmp hp' g') s1)/\Sat R C nt s1 FM1 Z1 a1 w1:=by
  cases e with
  |normal=>obtain⟨s,⟨_,h1⟩,FM1,Z1,h2⟩:=hpost;exact⟨s,FM1,Z1,rfl,h1,h2⟩
  |exit id=>obtain⟨s,⟨h1,_⟩,_⟩:=hpost;cases h1
  |ret=>obtain⟨s,⟨h1,_⟩,_⟩:=hpost;cases h1
  |panic ch=>obtain⟨s,x,v,FM1,Z1,⟨h1,_⟩,_⟩:=hpost;cases h1
  |goto l=>exact hpost.elim
  |outgrown=>exact hpost.elim
 obtain⟨s1,FM1,Z1',rfl,hbody,hs1⟩:=post
 have hin1:∀b,b<w.heap.size->¬InB Z b->¬InB Z1' b:=fun b h1 h2 h3=>by
  rcases hs1.goes.ext.blk b h3 with h|h
  ·exact h2 h
  ·have h:w.heap.size<=b:=h
   omega
 have keep1:∀b,b<w.heap.size->¬InB Z b->¬R.B g b->w1.heap[b]? = w.heap[b]?:= hs1.goes.ext.keep
 have nofm1:∀b,b<w.heap.size->¬InB Z b->¬R.B g b->FM b=none->FM1 b=none:=fun b h1 h2 h3 h4=>by
  cases hx:FM1 b with
  |none=>rfl
  |some o=>
   rcases hs1.goes.ext.grow b o hx with h|h|h|h
   ·have h:FM b=some o:=h
    rw[h4] at h;cases h
   ·have h:w.heap.size<=b:=h
    omega
   ·exact absurd h h2
   ·exact absurd h h3
 have nB1:∀b,b<w.heap.size->¬R.B g b->¬R.B s1.g b:=fun b h1 h3 hb=>by
  rcases hs1.goes.bn b hb with h|h
  ·exact h3 h
  ·have h:w.heap.size<=b:=h
   omega
 have hL1:w1.heap[L]? = some (.loop (rec .ready none)):=(keep1 L lL iL bL).trans hL
 have hD1:w1.heap[D]? = some (.deferred (some [])):=(keep1 D lD iD bD).trans hD
 have fL1:=nofm1 L lL iL bL fL
 have fD1:=nofm1 D lD iD bD fD
 have bL1:=nB1 L lL bL
 have bD1:=nB1 D lD bD
 have lL1:L<w1.heap.size:=(Array.getElem?_eq_some_iff.1 hL1).1
 have lD1:D<w1.heap.size:=(Array.getElem?_eq_some_iff.1 hD1).1
 refine⟨_,run_beginRound hL1 (by rw[hrec]),?_⟩
 have okb:=iF (.loop { rec .ready none with state:=.busy }) (hin1 L lL iL) bL1 fL1 hs1.ok
 let C2:Cx R:=⟨s1.g,FM1,Z1',w1.putObj L (.loop { rec .ready none with state:=.busy }),[],false⟩
 have hsat2:Sat R C2 nt s1 FM1 Z1' a1 (w1.putObj L (.loop { rec .ready none with state:=.busy })):=by
  refine⟨okb,BA _ _ _ _ _,hs1.size,?_,hs1.fr⟩
  have e:a1.defers=[]:=hs1.defs.none
  rw[e];exact .start
 refine wpIn_mono (hbody C2 ⟨hs1.ok.rel.len,rfl⟩ n a1 _ ⟨FM1,Z1',hsat2⟩) (fun e a3 w3 hp3=>?_)
 have lL2:L<(w1.putObj L (.loop { rec .ready none with state:=.busy })).heap.size:=by simpa using lL1
 have lD2:D<(w1.putObj L (.loop { rec .ready none with state:=.busy })).heap.size:=by simpa using lD1
 -- the end of the round
 have fin:∀(s3:St R.σ) (FM3:Mem) (Z3:Plc),Sat R C2 nt s3 FM3 Z3 a3 w3->(∃s',To R hp.length s3 s'/\s'.hp=hp'/\s'.g=g')->∃v w',(Instr.endRound L jmp).run P w3=.ok v w' /\
   eU (fe (gM R D L rec) FM0 Z) ((g,.ready,none),hp) FM Z1 w (.ret (.bool jmp.isNone)) hpo ((g',(if jmp.isNone then .ready else .done),jmp),hp') (.returned v) w':=by
  rintro s3 FM3 Z3 hs3 ⟨s',hto,rfl,rfl⟩
  have hL3:w3.heap[L]? = some (.loop { rec .ready none with state:=.busy }):=(hs3.goes.ext.keep L lL2 (hin1 L lL iL) bL1).trans (World.putObj_heap_same lL1)
  have hD3:w3.heap[D]? = some (.deferred (some [])):=(hs3.goes.ext.keep D lD2 (hin1 D lD iD) bD1).trans ((World.putObj_heap_other hne).trans hD1)
  refine⟨_,_,run_endRound jmp hL3,?_⟩
  obtain⟨FM4,Z4,a1',a2',a3',a4',a5',a6',a7'⟩:=hto Z FM3 Z3 w3 _ hC (fun i p h=>hs3.goes.sub i p (hs1.goes.sub i p h)) hs3.ok hs3.fr
  obtain rfl:=vY okR a1' hl a3'
  have nofm4:∀b,b<w1.heap.size->¬InB Z1' b->¬R.B s1.g b->FM1 b=none->FM4 b=none:=fun b h1 h2 h3 h4=>by
   have h2':¬InB Z3 b:=fun hi=>by
    rcases hs3.goes.ext.blk b hi with h|h
    ·exact h2 h
    ·have h:(w1.putObj L (.loop { rec .ready none with state:=.busy })).heap.size<=b:=h
     simp at h;omega
   cases hx:FM4 b with
   |none=>rfl
   |some o=>
    rcases a5' b o hx with h|h
    ·rcases hs3.goes.ext.grow b o h with h|h|h|h
     ·have h:FM1 b=some o:=h
      rw[h4] at h;cases h
     ·have h:(w1.putObj L (.loop { rec .ready none with state:=.busy })).heap.size<=b:=h
      simp at h;omega
     ·exact absurd h h2
     ·exact absurd h h3
    ·exact absurd h h2'
  have nB3:∀b,b<w1.heap.size->¬R.B s1.g b->¬R.B s'.g b:=fun b h1 h3 hb=>by
   rw[a7'] at hb
   rcases hs3.goes.bn b hb with h|h
   ·exact h3 h
   ·have h:(w1.putObj L (.loop { rec .ready none with state:=.busy })).heap.size<=b:=h
    simp at h;omega
  have fL4:=nofm4 L lL1 (hin1 L lL iL) bL1 fL1
  have fD4:=nofm4 D lD1 (hin1 D lD iD) bD1 fD1
  have bL4:=nB3 L lL1 bL1
  have bD4:=nB3 D lD1 bD1
  have ok4:=iF (.loop (rec (if jmp.isNone then .ready else .done) jmp)) iL bL4 fL4 a1'
  have erec:({ ({ rec .ready none with state:=.busy }:Loop) with state:=if jmp.isNone then .ready else .done,pending:=jmp }:Loop)=rec (if jmp.isNone then .ready else .done) jmp:=by rw[hrec]
  rw[erec]
  -- how it has gone on
  have hsize:w.heap.size<=w3.heap.size:=Nat.le_trans hs1.goes.ext.size (by have:=hs3.goes.ext.size;simpa[C2] using this)
  have hgrow:∀b o,FM4 b=some o->FM b=some o∨w.heap.size<=b∨InB Z4 b∨R.B g b:=fun b o hb=>by
   have h3:FM3 b=some o∨w.heap.size<=b∨InB Z4 b:=by
    rcases a5' b o hb with h|h
    ·exact .inl h
    ·rcases hs3.goes.ext.blk b h with h|h
     ·rcases hs1.goes.ext.blk b h with h|h
      ·exact .inr (.inr h)
      ·exact .inr (.inl h)
     ·have h:(w1.putObj L (.loop { rec .ready none with state:=.busy })).heap.size<=b:=h
      have:=hs1.goes.ext.size
      simp at h
      exact .inr (.inl (Nat.le_trans this h))
   rcases h3 with h3|h3|h3
   ·rcases hs3.goes.ext.grow b o h3 with h|h|h|h
    ·exact hs1.goes.ext.grow b o h
    ·have h:(w1.putObj L (.loop { rec .ready none with state:=.busy })).heap.size<=b:=h
     have:=hs1.goes.ext.size
     simp at h
     exact .inr (.inl (Nat.le_trans this h))
    ·rcases hs1.goes.ext.blk b h with h|h
     ·exact .inr (.inr (.inl h))
     ·exact .inr (.inl h)
    ·rcases hs1.goes.bn b h with h|h
     ·exact .inr (.inr (.inr h))
     ·exact .inr (.inl h)
   ·exact .inr (.inl h3)
   ·exact .inr (.inr (.inl h3))
  have hkeep:∀b,b<w.heap.size->¬InB Z4 b->¬R.B g b->b≠L->(w3.putObj L (.loop (rec (if jmp.isNone then .ready else .done) jmp))).heap[b]? = w.heap[b]?:= fun b h1 h2 h3 h4=>by
   rw[World.putObj_heap_other h4]
   have h1':b<(w1.putObj L (.loop { rec .ready none with state:=.busy })).heap.size:=by
    simp;exact Nat.lt_of_lt_of_le h1 hs1.goes.ext.size
   refine(hs3.goes.ext.keep b h1' (hin1 b h1 h2) (nB1 b h1 h3)).trans ?_
   show(w1.putObj L _).heap[b]? = _
   rw[World.putObj_heap_other h4]
   exact hs1.goes.ext.keep b h1 h2 h3
  have hbn:∀b,R.B s'.g b->R.B g b∨w.heap.size<=b:=fun b hb=>by
   rw[a7'] at hb
   rcases hs3.goes.bn b hb with h|h
   ·exact hs1.goes.bn b h
   ·have h:(w1.putObj L (.loop { rec .ready none with state:=.busy })).heap.size<=b:=h
    have:=hs1.goes.ext.size
    simp at h
    exact .inr (Nat.le_trans this h)
  have hfm:∀b o,FM b=some o->FM4 b=some o:=fun b o hb=>a4' b o (hs3.goes.ext.fm b o (hs1.goes.ext.fm b o hb))
  -- the iterator's objects
  have off:∀b,InB Z1 b->b<w.heap.size/\¬R.B g b/\¬InB Z4 b/\b≠L/\b≠D:=fun b hb=>by
   obtain⟨p,hp1,hpb,hre⟩:=hb
   obtain⟨i,hi⟩:=List.getElem?_of_mem hp1
   have hin:InB Z1 b:=⟨p,hp1,hpb,hre⟩
   refine⟨by rw[<-hpb];exact(ok.rel.obj i p hi).1 hre,fun hB=>(ok.bd b (.inl (.inl hB))).2 hin,fun hI=>(ok.bd b (.inr hI)).2 hin,fun e=>(ok.bd b (.inl (.inr (.inr e)))).2 hin,fun e=>(ok.bd b (.inl (.inr (.inl e)))).2 hin⟩
  have heap:∀b,InB Z1 b->(w3.putObj L (.loop (rec (if jmp.isNone then .ready else .done) jmp))).heap[b]? = w.heap[b]?:= fun b hb=>let ⟨h1,h2,h3,h4,_⟩:=off b hb;hkeep b h1 h3 h2 h4
  have fmn:∀b,InB Z1 b->FM b=none->FM4 b=none:=fun b hb hn=>by
   cases hx:FM4 b with
   |none=>rfl
   |some o=>
    obtain⟨h1,h2,h3,_⟩:=off b hb
    rcases hgrow b o hx with h|h|h|h
    ·rw[hn] at h;cases h
    ·omega
    ·exact absurd h h3
    ·exact absurd h h2
  refine⟨FM4,Z1,⟨_,rfl,rfl⟩,⟨⟨ok4.rel.fm,ok.rel.len,fun i p hi=>?_,ok.rel.inj⟩,⟨⟨ok4.rel,⟨ok4.j,(World.putObj_heap_other hne).trans hD3,World.putObj_heap_same (Array.getElem?_eq_some_iff.1 hL3).1,⟨fD4,fL4⟩,bD4,bL4⟩,fun b hb=>?_⟩,fun b o hb=>hfm b o (hmono b o hb)⟩,fun b hb=>?_⟩,
   ⟨⟨hfm,fun b o hb=>?_,fun b hb=>.inl hb,fun b h1 h2 h3=>hkeep b h1 (fun hI=>h3 (.inr hI)) (fun hB=>h3 (.inl (.inl hB))) (fun e=>h3 (.inl (.inr (.inr e)))),by simpa using hsize,?_,?_,?_⟩,fun b hb=>?_,BD _⟩⟩
  ·obtain⟨k1,k2⟩:=ok.rel.obj i p hi
   refine⟨fun hre=>by simpa using Nat.lt_of_lt_of_le (k1 hre) hsize,?_⟩
   cases hx:ag hpo i with
   |dead=>trivial
   |map es=>
    rw[hx] at k2
    have hin:InB Z1 p.1:=⟨p,bp hi,rfl,k2.1⟩
    exact dO k2 hfm (heap _ hin) (fmn _ hin k2.2.1)
   |mapo es=>
    rw[hx] at k2
    have hin:InB Z1 p.1:=⟨p,bp hi,rfl,k2.1⟩
    exact gy k2 hfm (BD _) (heap _ hin) (fmn _ hin k2.2.1)
   |cells f n g=>
    intro hn
    have hin:InB Z1 p.1:=⟨p,bp hi,rfl,(ok.rel.real_cells hi hx hn).1⟩
    rw[hx] at k2
    obtain⟨cs,e',b1,b2,b3,b4,b5,b6⟩:=k2 hn
    exact⟨cs,e',by rw[heap _ hin];exact b1,b2,b3,fun j hj=>let ⟨x,c1,c2,c3⟩:=b4 j hj;⟨x,c1,c2,BF hfm _ (BD _) c3⟩,fun hf=>hfm _ _ (b5 hf),fun hf=>fmn _ hin (b6 hf)⟩
  ·rcases hb with hb|rfl|rfl
   ·exact ok4.bd b hb
   ·exact⟨by simpa using Nat.lt_of_lt_of_le lD hsize,iD⟩
   ·exact⟨by simpa using Nat.lt_of_lt_of_le lL hsize,iL⟩
  ·rcases hb with(hb|rfl|rfl)|hb
   ·rcases hbn b hb with h1|h1
    ·exact⟨(ok4.bd b hb).1,(ok.bd b (.inl (.inl h1))).2⟩
    ·exact⟨(ok4.bd b hb).1,fun hI=>by have:=(off b hI).1;omega⟩
   ·exact⟨by simpa using Nat.lt_of_lt_of_le lD hsize,fun hI=>(off _ hI).2.2.2.2 rfl⟩
   ·exact⟨by simpa using Nat.lt_of_lt_of_le lL hsize,fun hI=>(off _ hI).2.2.2.1 rfl⟩
   ·exact⟨by simpa using Nat.lt_of_lt_of_le (ok.bd b (.inr hb)).1 hsize,(ok.bd b (.inr hb)).2⟩
  ·rcases hgrow b o hb with h|h|h|h
   ·exact .inl h
   ·exact .inr (.inl h)
   ·exact .inr (.inr (.inr (.inr h)))
   ·exact .inr (.inr (.inr (.inl (.inl h))))
  ·exact hs3.goes.ext.os.trans hs1.goes.ext.os
  ·exact hs3.goes.ext.tape.trans hs1.goes.ext.tape
  ·exact hs3.goes.ext.output.trans hs1.goes.ext.output
  ·rcases hb with(hb|rfl|rfl)|hb
   ·rcases hbn b hb with h|h
    ·exact .inl (.inl (.inl h))
    ·exact .inr h
   ·exact .inl (.inl (.inr (.inl rfl)))
   ·exact .inl (.inl (.inr (.inr rfl)))
   ·exact .inl (.inr hb)
 cases e with
 |normal=>obtain⟨s3,⟨rfl,h⟩,FM3,Z3,h2⟩:=hp3;exact fin s3 FM3 Z3 h2 h
 |ret=>obtain⟨s3,⟨rfl,h⟩,FM3,Z3,h2⟩:=hp3;exact fin s3 FM3 Z3 h2 h
 |exit id=>obtain⟨s3,⟨rfl,h⟩,FM3,Z3,h2⟩:=hp3;exact fin s3 FM3 Z3 h2 h
 |panic ch=>obtain⟨s3,x,v,FM3,Z3,h,_⟩:=hp3;exact h.elim
 |goto l=>exact hp3.elim
 |outgrown=>exact hp3.elim
theorem wx {nt k0:Nat}{Q:AEx->St R.σ->Prop}{s:St R.σ}{t:Nat}{ps:Array Tmp}{assign body:Code}{f m:Nat}{fa fb:Nat->AV}{o:AObj}(hf:lk s.fr t=.fn f 0 fa 1 fb)(hfb:fb 0=.ref m 0)(hpl:cg P f=true)
  {N:Nat} {items:Nat->List AV} {T:Mem->Prop} [Tab T R] (hseq:SeqO P f o N items T) (hlen:∀k,(items k).length=ps.toList.length) (hlt:bF ps.toList nt=true) (hit:∀k,gh 0 (items k))
  (jmp:Nat->Option Code) (hj:∀k,jOk (jmp k)=true) (H:Nat->List AObj) (G:Nat->R.σ) (h0:s.hp=H 0++[o]) (hg0:G 0=s.g) (hl:∀k,(H k).length=m)
  (hlive:dE (H 0++[o])) (hBO:fj m (H 0)) (hBo:fj 0 [o]) (ts:List Nat) (hBf:gj ts (fun t=>Below m (lk s.fr t)))
  (hround:∀k,k<N->(∀j,j<k->jmp j=none)->lg P R nt assign body (jmp k) (H (k+1)) (G (k+1)) ⟨cL ps.toList (items k) (dS ts s.fr),H k,G k⟩)
  (hdone:(∀k,k<N->jmp k=none)->Q .normal ⟨s.fr,H N++[.dead],G N⟩)
  (hret:∀k,k<N->(∀j,j<k->jmp j=none)->jmp k=some .ret->Q .ret ⟨s.fr,H (k+1)++[.dead],G (k+1)⟩)
  (hexit:∀k id,k<N->(∀j,j<k->jmp j=none)->jmp k=some (.exit id)->Q (.exit id) ⟨s.fr,H (k+1)++[.dead],G (k+1)⟩) :
  wpA P R nt k0 .top (.rangeFunc (.tmp t) ps assign body) Q s:=by
 intro C hC n a w ⟨FM,Z,hs⟩
 refine wpIn_rangeFunc (fun fn hfn=>?_)
 obtain⟨D,hD⟩:∃D,D=w.heap.size:=⟨_,rfl⟩
 obtain⟨L,hL⟩:∃L,L=w.heap.size+1:=⟨_,rfl⟩
 have hne:D≠L:=by omega
 obtain⟨rec,hrec⟩:∃rec:LoopState->Option Code->Loop,rec=fun st pe=>{ state:=st,pending:=pe,fn,tmps:=a.tmps,params:=ps,assign,body,defers:=D }:=⟨_,rfl⟩
 obtain⟨W1,hW1⟩:∃W1,(w.alloc (.deferred (some []))).alloc (.loop (rec .ready none))=W1:=⟨_,rfl⟩
 have hL1:W1.heap[L]? = some (.loop (rec .ready none)):=by
  rw[<-hW1,hL];have:=World.alloc_heap_new (w.alloc (.deferred (some []))) (.loop (rec .ready none));rwa [World.size_alloc] at this
 have hD1:W1.heap[D]? = some (.deferred (some [])):=by
  rw[<-hW1,hD];exact(_root_.Go.RowKit.Below.heap_alloc _ _ _ (by simp)).trans (World.alloc_heap_new w _)
 have hsz1:W1.heap.size=w.heap.size+2:=by rw[<-hW1];simp
 obtain⟨okA,goA⟩:=iw hs.ok (.deferred (some []))
 obtain⟨ok1,goB⟩:=iw okA (.loop (rec .ready none))
 have go1:=goA.trans goB
 rw[hW1] at ok1 go1
 -- the iterator's object
 have hlen0:s.hp.length=m+1:=by rw[h0];simp[hl]
 have hZl:Z.length=m+1:=by rw[hs.ok.rel.len,hlen0]
 obtain⟨pb,hpb⟩:∃pb,Z[m]? = some pb:=⟨_,List.getElem?_eq_getElem omg⟩
 obtain⟨Z0,hZ0⟩:∃Z0,Z0=Z.take m:=⟨_,rfl⟩
 have hsub0:Sub Z0 Z:=fun i p hi=>by
  rw[hZ0,List.getElem?_take] at hi
  split at hi
  ·exact hi
  ·cases hi
 have hlt0:∀{i p},Z0[i]? = some p->i<m:=fun {i p} hi=>by
  rw[hZ0,List.getElem?_take] at hi
  split at hi
  ·assumption
  ·cases hi
 have hInB:∀b,InB Z b↔InB Z0 b∨InB [pb] b:=fun b=>by
  constructor
  ·rintro ⟨p,hp,hb,hre⟩
   obtain⟨i,hi⟩:=List.getElem?_of_mem hp
   have:i<m+1:=by rw[<-hZl];exact(List.getElem?_eq_some_iff.1 hi).1
   rcases Nat.lt_or_ge i m with h|h
   ·exact .inl ⟨p,List.mem_of_getElem? (i:=i) (by rw[hZ0,List.getElem?_take,if_pos h];exact hi),hb,hre⟩
   ·have:i=m:=by omega
    subst this
    rw[hpb] at hi;cases hi
    exact .inr ⟨pb,by simp,hb,hre⟩
  ·rintro (⟨p,hp,hb,hre⟩|⟨p,hp,hb,hre⟩)
   ·obtain⟨i,hi⟩:=List.getElem?_of_mem hp
    exact⟨p,bp (hsub0 i p hi),hb,hre⟩
   ·have:p=pb:=by simpa using hp
    subst this
    exact⟨p,bp hpb,hb,hre⟩
 have hgo:∀i,i<m->ag s.hp i=ag (H 0) i:=fun i hi=>by rw[h0,jB (by rw[hl];exact hi)]
 have hgm:ag s.hp m=o:=by rw[h0,jC (by rw[hl];exact Nat.le_refl _),hl,Nat.sub_self];rfl
 have hlv:∀i,i<m+1->aJ (ag s.hp i)=true:=fun i hi=>by rw[h0];exact jE hlive i (by simp[hl];omega)
 have rel0:∀W,HRel FM Z s.hp W->HRel FM Z0 (H 0) W:=fun W hr=>by
  refine⟨hr.fm,by rw[hZ0,List.length_take,hl,hZl];omega,fun i p hi=>?_,fun i j p q hi hj _ _ e=>hr.inj i j p q (hsub0 i p hi) (hsub0 j q hj) (hlv i (by have:=hlt0 hi;omega)) (hlv j (by have:=hlt0 hj;omega)) e⟩
  obtain⟨k1,k2⟩:=hr.obj i p (hsub0 i p hi)
  rw[hgo i (hlt0 hi)] at k2
  refine⟨k1,?_⟩
  rw[hZ0]
  exact ld k2 (lc hBO i)
 have relI:∀W,HRel FM Z s.hp W->HRel FM [pb] [o] W:=fun W hr=>by
  refine⟨hr.fm,rfl,fun i p hi=>?_,fun i j p q hi hj _ _ _=>?_⟩
  ·have e:i=0:=by
    have:=(List.getElem?_eq_some_iff.1 hi).1
    simpa using this
   subst e
   have hi:pb=p:=by simpa using hi
   subst hi
   obtain⟨k1,k2⟩:=hr.obj m pb hpb
   rw[hgm] at k2
   refine⟨k1,?_⟩
   have:=ld k2 (lc hBo 0)
   exact lf (fun i p hi=>by simp at hi) this
  ·have e1:=(List.getElem?_eq_some_iff.1 hi).1
   have e2:=(List.getElem?_eq_some_iff.1 hj).1
   simp at e1 e2
   omega
 have hdis:∀b,InB [pb] b->¬InB Z0 b:=fun b ⟨p,hp,hb,hre⟩ ⟨q,hq,hb',hre'⟩=>by
  have:p=pb:=by simpa using hp
  subst this
  obtain⟨i,hi⟩:=List.getElem?_of_mem hq
  have:=hlt0 hi
  have:=hs.ok.rel.inj i m q p (hsub0 i q hi) hpb (hlv i omg) (hlv m omg) (by rw[hb,hb'])
  omega
 -- the new blocks are nobody's
 have nIn:∀X,w.heap.size<=X->¬InB Z X:=fun X hX ⟨p,hp,hb,hre⟩=>by
  obtain⟨i,hi⟩:=List.getElem?_of_mem hp
  have:=(hs.ok.rel.obj i p hi).1 hre
  omega
 have nB:∀X,w.heap.size<=X->¬R.B s.g X:=fun X hX hb=>by have:=(hs.ok.bd X hb).1;omega
 have nF:∀X,w.heap.size<=X->FM X=none:=fun X hX=>by
  cases hx:FM X with
  |none=>rfl
  |some o=>have:=(Array.getElem?_eq_some_iff.1 (hs.ok.rel.fm X o hx)).1;omega
 -- the iterator's call
 have hev:Den FM Z (.fn f 0 fa 1 fb) (a.eval (.tmp t)):=by rw[<-hf];exact hs.fr t
 obtain⟨xs,ys,hu,hxs,hys,hda,hdb⟩:=hev
 have hfr0:∀t,Den FM Z0 (lk (dS ts s.fr) t) (a.tmps.getD t undef):=nA (fun t=>hs.fr t) (fun t ht=>nz hBf t ht) hZ0
 let u:Value:=.func (.yield L) #[] #[]
 let R2:Res:=fe (gM R D L rec) FM Z0
 let G2:Nat->R2.σ:=fun k=>((G k,stJ jmp k),H k)
 let c:Nat->Bool:=fun k=>(jmp k).isNone
 have hstJ:∀k,(∀j,j<k->c j=true)->stJ jmp k=(.ready,none):=fun k hk=>by
  cases k with
  |zero=>rfl
  |succ k=>
   have:jmp k=none:=by simpa[c] using hk k omg
   simp[stJ,this]
 have hdoes:=hseq.h R2 u G2 c (fun k hk hjk hpo=>by
  have e:=hstJ k hjk
  have:=qQ (P:=P) (R:=R) (L:=L) hrec hs.size hfr0 hne (hlen k) hlt (hit k) (jmp:=jmp k) (hp:=H k) (hp':=H (k+1)) (g:=G k) (g':=G (k+1)) (by rw[hl,hl]) (hround k hk (fun j h=>by simpa[c] using hjk j h)) hpo
  show VDoes P R2 u (items k) hpo ((G k,stJ jmp k),H k) (.ret (.bool (jmp k).isNone)) hpo ((G (k+1),stJ jmp (k+1)),H (k+1))
  rw[e]
  exact this)
 have okI:Ok R2 [o] (G2 0) FM [pb] W1:=by
  refine⟨relI W1 ok1.rel,⟨⟨rel0 W1 ok1.rel,⟨by rw[show(G2 0).1.1=s.g from hg0];exact ok1.j,hD1,hL1,⟨nF D omg,nF L omg⟩,?_,?_⟩,fun b hb=>?_⟩,fun _ _ h=>h⟩,fun b hb=>⟨?_,fun hI=>?_⟩⟩
  ·rw[show(G2 0).1.1=s.g from hg0];exact nB D omg
  ·rw[show(G2 0).1.1=s.g from hg0];exact nB L omg
  ·have hb':R.B s.g b∨b=D∨b=L:=by
    rcases hb with hb|hb
    ·rw[show(G2 0).1.1=s.g from hg0] at hb;exact .inl hb
    ·exact .inr hb
   rcases hb' with hb|rfl|rfl
   ·exact⟨(ok1.bd b hb).1,fun h=>(ok1.bd b hb).2 ((hInB b).2 (.inl h))⟩
   ·exact⟨omg,fun h=>nIn _ omg ((hInB _).2 (.inl h))⟩
   ·exact⟨omg,fun h=>nIn _ omg ((hInB _).2 (.inl h))⟩
  ·rcases hb with(hb|rfl|rfl)|⟨p,hp,hb,hre⟩
   ·rw[show(G2 0).1.1=s.g from hg0] at hb;exact(ok1.bd b hb).1
   ·omega
   ·omega
   ·obtain⟨i,hi⟩:=List.getElem?_of_mem hp
    rw[<-hb];exact(ok1.rel.obj i p (hsub0 i p hi)).1 hre
  ·rcases hb with(hb|rfl|rfl)|hb
   ·rw[show(G2 0).1.1=s.g from hg0] at hb;exact(ok1.bd b hb).2 ((hInB b).2 (.inr hI))
   ·exact nIn _ omg ((hInB _).2 (.inr hI))
   ·exact nIn _ omg ((hInB _).2 (.inr hI))
   ·exact hdis b hI hb
 have hargs:bQ FM [pb] [.val u,.ref 0 0] ((xs++#[u])++ys):=by
  have hxs0:xs=#[]:=Array.size_eq_zero_iff.1 hxs
  have hd0:=hdb 0 omg
  rw[hfb] at hd0
  obtain⟨p,hp1,hp2⟩:=hd0
  rw[hpb] at hp1;cases hp1
  subst hxs0
  refine⟨by simp[hys],fun i hi=>?_⟩
  match i,hi with
  |0,_=>
   show _=u/\_
   exact⟨by simp[Array.getD_eq_getD_getElem?,Array.getElem?_append],rfl⟩
  |1,_=>
   refine⟨pb,rfl,?_⟩
   rw[<-hp2]
   simp[Array.getD_eq_getD_getElem?,Array.getElem?_append]
 obtain⟨hp1,hd1,hdoes⟩:=hdoes
 have hcalls:=hdoes.h FM [pb] W1 _ okI hargs
 have hfn':∃fn,P.funcs[f]? = some fn/\fn.name ≠ "runtime.NumGoroutine"/\fn.body.isSome=true:=by
  unfold cg at hpl
  split at hpl
  ·rename_i fn hfn
   simp only[Bool.and_eq_true,bne_iff_ne,ne_eq] at hpl
   exact⟨fn,hfn,hpl.1,hpl.2⟩
  ·cases hpl
 obtain⟨fnF,hF1,hF2,hF3⟩:=hfn'
 have hF3':¬fnF.body=none:=fun h=>by rw[h] at hF3;cases hF3
 refine⟨L,[gC D],W1,{ target:=.fn (.func f) ys,args:=xs++#[u] },W1,f,(xs++#[u])++ys,W1,?_,?_,fun _ _=>trivial,?_,fun h=>(by cases h),(ga hcalls).mono ?_⟩
 ·rw[<-hW1,hrec,hD,hL];exact run_enterLoop_outer _ _ _ _ _
 ·simp[resolve,hu,Deferred.ofValue,u]
  rfl
 ·simp[invoke,callFunc,hF1,hF2,hF3']
 -- behind it
 rintro e w3 ⟨FM',Z',⟨v,rfl,_⟩,ok3,go3⟩
 have hdl:=hd1
 obtain rfl:Z'=[pb]:=by
  have hl1:Z'.length=1:=by rw[ok3.rel.len,hdl]
  match Z',hl1 with
  |[q],_=>
   have:=go3.sub 0 pb rfl
   cases this;rfl
 obtain⟨m',hm⟩:∃m',m'=fg c N 0:=⟨_,rfl⟩
 rw[<-hm] at ok3 go3
 obtain⟨okL,hmono⟩:=ok3.j
 obtain⟨jR,hD3,hL3,⟨fD,fL⟩,bD,bL⟩:=okL.j
 have okR:=np okL
 have hnb:(stJ jmp m').1≠.busy:=by
  cases m' with
  |zero=>simp[stJ]
  |succ k=>simp only[stJ];split <;> simp
 have hend:=run_endLoop (P:=P) hL3 (by rw[hrec];exact hnb)
 obtain⟨p,w4,hend,hp,hw4⟩:∃p w4,(Instr.endLoop L).run P w3=.ok p w4/\p=(stJ jmp m').2/\w4=w3.putObj L (.loop { rec (stJ jmp m').1 (stJ jmp m').2 with state:=.exhausted }):=⟨_,_,hend,by rw[hrec],rfl⟩
 refine⟨p,w4,hend,?_⟩
 have okR1:Ok R (H m'++[.dead]) (G m') FM' Z w3:=by
  have hgd:∀i,i<m->ag (H m'++[.dead]) i=ag (H m') i:=fun i hi=>jB (by rw[hl];exact hi)
  have hgdm:ag (H m'++[.dead]) m=.dead:=by rw[jC (by rw[hl];exact Nat.le_refl _),hl,Nat.sub_self];rfl
  have hback:∀i p,Z[i]? = some p->(i<m/\Z0[i]? = some p)∨(i=m/\p=pb):=fun i p hi=>by
   have:i<m+1:=by rw[<-hZl];exact(List.getElem?_eq_some_iff.1 hi).1
   rcases Nat.lt_or_ge i m with h|h
   ·exact .inl ⟨h,by rw[hZ0,List.getElem?_take,if_pos h];exact hi⟩
   ·have:i=m:=by omega
    subst this
    rw[hpb] at hi;cases hi
    exact .inr ⟨rfl,rfl⟩
  have hnl:∀i p,Z[i]? = some p->aJ (ag (H m'++[.dead]) i)=true->i<m/\Z0[i]? = some p:=fun i p hi hv=>by
   rcases hback i p hi with h|⟨rfl,rfl⟩
   ·exact h
   ·rw[hgdm] at hv;cases hv
  refine⟨⟨okR.rel.fm,by rw[hZl];simp[hl],fun i p hi=>?_,fun i j p q hi hj hv1 hv2 e=>?_⟩,okR.j,fun b hb=>⟨(okR.bd b hb).1,fun hI=>?_⟩⟩
  ·rcases hback i p hi with⟨h1,h2⟩|⟨rfl,rfl⟩
   ·obtain⟨k1,k2⟩:=okR.rel.obj i p h2
    rw[hgd i h1]
    exact⟨k1,lf hsub0 k2⟩
   ·rw[hgdm]
    refine⟨fun hre=>?_,trivial⟩
    have h1:=(hs.ok.rel.obj i p hi).1 hre
    have:=go3.ext.size
    omega
  ·obtain⟨a1,a2⟩:=hnl i p hi hv1
   obtain⟨b1,b2⟩:=hnl j q hj hv2
   rw[hgd i a1] at hv1
   rw[hgd j b1] at hv2
   exact okR.rel.inj i j p q a2 b2 hv1 hv2 e
  ·rcases(hInB b).1 hI with h|h
   ·exact(okR.bd b hb).2 h
   ·exact(ok3.bd b (.inl (.inl hb))).2 h
 have ok4:=iF (.loop { rec (stJ jmp m').1 (stJ jmp m').2 with state:=.exhausted }) (nIn L omg) bL fL okR1
 have go4:Goes R s.g FM Z w (G m') FM' Z (w3.putObj L (.loop { rec (stJ jmp m').1 (stJ jmp m').2 with state:=.exhausted })):=by
  have hB0:∀b,R2.B (G2 0) b->R.B s.g b∨w.heap.size<=b∨InB Z0 b:=fun b hb=>by
   rcases hb with(hb|rfl|rfl)|hb
   ·rw[show(G2 0).1.1=s.g from hg0] at hb;exact .inl hb
   ·exact .inr (.inl omg)
   ·exact .inr (.inl omg)
   ·exact .inr (.inr hb)
  refine⟨⟨go3.ext.fm,fun b o hb=>?_,fun b hb=>.inl hb,fun b h1 h2 h3=>?_,?_,go3.ext.os.trans go1.ext.os,go3.ext.tape.trans go1.ext.tape,go3.ext.output.trans go1.ext.output⟩,fun b hb=>?_,BD _⟩
  ·rcases go3.ext.grow b o hb with h|h|h|h
   ·exact .inl h
   ·exact .inr (.inl omg)
   ·exact .inr (.inr (.inl ((hInB b).2 (.inr h))))
   ·rcases hB0 b h with h|h|h
    ·exact .inr (.inr (.inr h))
    ·exact .inr (.inl h)
    ·exact .inr (.inr (.inl ((hInB b).2 (.inl h))))
  ·rw[World.putObj_heap_other omg]
   refine(go3.ext.keep b omg (fun hI=>h2 ((hInB b).2 (.inr hI))) (fun hb=>?_)).trans (go1.ext.keep b h1 h2 h3)
   rcases hB0 b hb with h|h|h
   ·exact h3 h
   ·omega
   ·exact h2 ((hInB b).2 (.inl h))
  ·have:=go3.ext.size
   simp;omega
  ·have hin:R2.B (G2 m') b:=.inl (.inl hb)
   rcases go3.bn b hin with h|h
   ·rcases hB0 b h with h|h|h
    ·exact .inl h
    ·exact .inr h
    ·exact absurd h (okR.bd b hb).2
   ·exact .inr omg
 have hsat:Sat R C nt ⟨s.fr,H m'++[.dead],G m'⟩ FM' Z { a with defers:=[gC D]++a.defers } (w3.putObj L (.loop { rec (stJ jmp m').1 (stJ jmp m').2 with state:=.exhausted })):=by
  refine⟨ok4,hs.goes.trans go4,hs.size,?_,fun t=>BF go4.ext.fm _ go4.sub (hs.fr t)⟩
  obtain⟨ms,e1,e2,e3,e4⟩:=hs.defs
  refine⟨D::ms,by rw[e1];rfl,List.nodup_cons.2 ⟨fun hmem=>?_,e2⟩,fun h=>?_,fun X hX=>?_⟩
  ·have:=(Array.getElem?_eq_some_iff.1 (e4 D hmem).obj).1
   omega
  ·rw[hC.2] at h;cases h
  ·rcases List.mem_cons.1 hX with rfl|hX
   ·exact⟨(World.putObj_heap_other hne).trans hD3,nIn _ omg,bD,fD,by have:=hs.goes.ext.size;omega⟩
   ·exact(e4 X hX).goes go4
 rw[<-hw4] at hsat
 rcases kV c N 0 with⟨h1,h2⟩|⟨i,h1,h2,h3,h4,h5⟩
 ·have hmN:m'=N:=by omega
  have hall:∀k,k<N->jmp k=none:=fun k hk=>by simpa[c] using h1 k omg omg
  have e:=hstJ m' (fun j hjm=>h1 j omg omg)
  have e2:p=none:=by rw[hp,e]
  subst e2
  rw[hmN] at hsat
  exact⟨_,hdone hall,FM',Z,hsat⟩
 ·have hmi:m'=i+1:=by omega
  have hall:∀k,k<i->jmp k=none:=fun k hk=>by simpa[c] using h3 k omg hk
  have e2:p=jmp i:=by rw[hp,hmi];rfl
  have hji:=hj i
  rw[hmi] at hsat
  cases hc:jmp i with
  |none=>simp[c,hc] at h4
  |some x=>
   rw[hc] at hji e2
   subst e2
   cases x <;> simp only[jOk] at hji <;> first|(cases hji;done)|skip
   ·exact wpIn_exit ⟨_,hexit i _ omg hall hc,FM',Z,hsat⟩
   ·exact wpIn_ret ⟨_,hret i omg hall hc,FM',Z,hsat⟩
def nC (P:Program)(R:Res)(nt n l:Nat)(b:Code)(q:List Nat)(jmp:Option Code)(hp':List AObj)(g':R.σ):AEx->St R.σ->Prop
 |.normal,s=>Wp P R nt s.hp.length (.inr l) b q (kW R n jmp hp' g') s
 |_,_=>False
theorem iJ {nt k0:Nat}{b:Code}{p:List Nat}{Q:AEx->St R.σ->Prop}{s:St R.σ}(t:Nat)(psl:List Nat)(m:Nat)(hl:iG t psl (sub b p)=true){f:Nat}{fa fb:Nat->AV}{o:AObj}(hf:lk s.fr t=.fn f 0 fa 1 fb)(hfb:fb 0=.ref m 0)(hpl:cg P f=true)
  {N:Nat} {items:Nat->List AV} {T:Mem->Prop} [Tab T R] (hseq:SeqO P f o N items T) (hlen:∀k,(items k).length=psl.length) (hlt:bF psl nt=true) (hit:∀k,gh 0 (items k))
  (jmp:Nat->Option Code) (hj:∀k,jOk (jmp k)=true) (H:Nat->List AObj) (G:Nat->R.σ) (h0:To R k0 s ⟨s.fr,H 0++[o],G 0⟩) (hlH:∀k,(H k).length=m)
  (hlive:dE (H 0++[o])) (hBO:fj m (H 0)) (hBo:fj 0 [o]) (ts:List Nat) (hBf:gj ts (fun t=>Below m (lk s.fr t)))
  (hround:∀k l,k<N->(∀j,j<k->jmp j=none)->Wp P R nt m (.inr l) b (p++[0]) (nC P R nt m l b (p++[1]) (jmp k) (H (k+1)) (G (k+1))) ⟨cL psl (items k) (dS ts s.fr),H k,G k⟩)
  (hdone:(∀k,k<N->jmp k=none)->Q .normal ⟨s.fr,H N++[.dead],G N⟩)
  (hret:∀k,k<N->(∀j,j<k->jmp j=none)->jmp k=some .ret->Q .ret ⟨s.fr,H (k+1)++[.dead],G (k+1)⟩)
  (hexit:∀k id,k<N->(∀j,j<k->jmp j=none)->jmp k=some (.exit id)->Q (.exit id) ⟨s.fr,H (k+1)++[.dead],G (k+1)⟩) :
  Wp P R nt k0 .top b p Q s:=by
 obtain⟨ps,assign,body,hc,rfl⟩:∃ps assign body,sub b p=.rangeFunc (.tmp t) ps assign body/\ps.toList=psl:=by
  unfold iG at hl
  split at hl
  ·rename_i u ps assign body hs
   simp only[Bool.and_eq_true] at hl
   have:=Nat.eq_of_beq_eq_true hl.1
   subst this
   exact⟨ps,assign,body,hs,jI hl.2⟩
  ·cases hl
 have e0:sub b (p++[0])=assign:=by rw[bW,hc];exact cn assign
 have e1:sub b (p++[1])=body:=by rw[bW,hc];exact cn body
 refine⟨?_⟩
 rw[hc]
 refine kO h0 (wx (s:=⟨s.fr,H 0++[o],G 0⟩) hf hfb hpl hseq hlen hlt hit jmp hj H G rfl rfl hlH hlive hBO hBo ts hBf (fun k hk hjk l=>?_) hdone hret hexit)
 have h1:=(hround k l hk hjk).h
 rw[e0] at h1
 rw[show(St.hp ⟨cL ps.toList (items k) (dS ts s.fr),H k,G k⟩).length=m from hlH k]
 refine gE h1 (fun e s' hq=>?_)
 cases e with
 |normal=>
  have h2:=(show Wp _ _ _ _ _ _ _ _ _ from hq).h
  rw[e1] at h2
  exact⟨rfl,h2⟩
 |exit id=>exact hq.elim
 |ret=>exact hq.elim
 |pan v=>exact hq.elim
def qR (v:Bool):Code->Bool
 |.cond (.const (.bool u)) _ _=>u==v
 |_=>false
theorem wy {nt k0:Nat}{r:Rd}{b:Code}{p:List Nat}{Q:AEx->St R.σ->Prop}{s:St R.σ}(v:Bool)(hc:qR v (sub b p)=true)(h:Wp P R nt k0 r b (p++[if v then 0 else 1]) Q s):Wp P R nt k0 r b p Q s:=by
 obtain⟨x,y,hc⟩:∃x y,sub b p=.cond (.const (.bool v)) x y:=by
  unfold qR at hc
  split at hc
  ·rename_i u x y hs
   have:=eq_of_beq hc
   subst this
   exact⟨x,y,hs⟩
  ·cases hc
 refine⟨?_⟩
 rw[hc]
 have e0:sub b (p++[0])=x:=by rw[bW,hc];exact cn x
 have e1:sub b (p++[1])=y:=by rw[bW,hc];exact cn y
 have h1:=h.h
 intro C hC n a w hs
 cases v with
 |true=>
  refine wpIn_cond_split (t:=true) rfl (fun _=>?_) (fun h=>by cases h)
  rw[<-e0];exact h1 C hC n a w hs
 |false=>
  refine wpIn_cond_split (t:=false) rfl (fun h=>by cases h) (fun _=>?_)
  rw[<-e1];exact h1 C hC n a w hs
def qS (P:Program)(t n:Nat):Bool:=match ax P t with
 |some ti=>match ti.desc with
  |.array m e=>Nat.beq m n&&(match ax P e with
   |some ei=>Nat.beq ei.size 1
   |none=>false)
  |_=>false
 |none=>false
theorem wz {gs:List (Nat × List Int)}[hT:Tab (cR gs) R]{o:Oper}{ev:Operand->AV}{hp:List AObj}{g:R.σ}(b:Nat)(zs:List Int)(hb:(b,zs)∈gs)(hg:ev (.global b)=.val (.pointer (some ⟨b,0,none⟩))){t:TypeId}{y:Operand}{k:IntKind}{i v:Int}
  (ho:o.op=.indexAddr t (.global b) y) (hng:lb b y=false) (hi:ev y=.int k i) (hT0:qS P t zs.length=true) (h0:0<=i) (h1:i<zs.length) (hv:zs.getD i.toNat 0=v) :
  OpOk P R o ev hp g (.fp 1 (fun _=>.int .u8 v)) hp g:=by
 obtain⟨ti,e,ei,ht,hd,he,hs⟩:∃ti e ei,ax P t=some ti/\ti.desc=.array zs.length e/\ax P e=some ei/\ei.size=1:=by
  unfold qS at hT0
  split at hT0
  ·rename_i ti hti
   split at hT0
   ·rename_i m e hd
    simp only[Bool.and_eq_true] at hT0
    obtain⟨h1,h2⟩:=hT0
    split at h2
    ·rename_i ei hei
     exact⟨ti,e,ei,hti,by rw[hd,Nat.eq_of_beq_eq_true h1],hei,Nat.eq_of_beq_eq_true h2⟩
    ·cases h2
   ·cases hT0
  ·cases hT0
 have hi':gi b zs ev y=.int k i:=by unfold gi;rw[hng];exact hi
 have hx':gi b zs ev (.global b)=.fp zs.length (fun j=>.int .u8 (zs.getD j 0)):=by unfold gi lb;simp
 refine ws (gs:=gs) b zs hb hg (out:=⟨.fp (zs.length-i.toNat*ei.size) (shG (fy 0 i.toNat ei.size) (fun j=>.int .u8 (zs.getD j 0))),hp,[0<=i/\i<(zs.length:Int)],.pure⟩) ?_ ⟨⟨h0,h1⟩,trivial⟩ ?_
 ·rw[ho]
  simp only[dz,br,ht,hi',hd,hx',he]
  rfl
 ·rintro FM Z w ⟨b',off,e1,h2⟩
  refine⟨b',off,e1,fun j hj=>?_⟩
  have:j=0:=by omega
  subst this
  have h3:=h2 0 (by rw[hs];omega)
  rw[hs] at h3
  have e4:shG (fy 0 i.toNat 1) (fun j=>AV.int .u8 (zs.getD j 0)) 0=.int .u8 v:=by
   rw[<-hv]
   unfold shG fy
   simp
  rw[e4] at h3
  exact h3
theorem fM {o:Oper}{ev:Operand->AV}{hp:List AObj}{g:R.σ}{x:AV}{out:Out}(h:dz (ax P) hp ev .none o.op=some out)(hob:ap out.ob)(hx:Le out.v x):OpOk P R o ev hp g x hp g:=by
 refine⟨fun FM Z w evc okw hop=>?_⟩
 classical
 let ev':Operand->AV:=fun y=>if y∈o.op.operands then ev y else .any
 have hev':∀y,Den FM Z (ev' y) (evc y):=by
  intro y
  by_cases hy:y∈o.op.operands
  ·simp only[ev',hy,if_true];exact hop y hy
  ·simp only[ev',hy,if_false];trivial
 have hsame:∀y∈o.op.operands,ev y=ev' y:=fun y hy=>by simp only[ev',hy,if_true]
 rw[mM hsame] at h
 obtain⟨⟨v,h1,h2⟩,h3⟩:=mG okw.rel hev' h hob
 exact⟨_,w,FM,Z,v,h1,rfl,hx _ _ _ h2,okw,Ext.refl _ _ _ _,fun _ h=>.inl h,BD _⟩
end
end Go.Avm
namespace Go.Avm
open Go
variable {P:Program}{R:Res}
theorem qT {e:TypeId}{k:IntKind}(he:P.underlying e=some (.int k)){FM:Mem}{Z:Plc}{n:Nat}{a b:Nat->Int}{xs ys:Array Value}(hx:xs.size=n)(hy:ys.size=n)(hdx:∀j,j<n->Den FM Z (.int k (a j)) (xs.getD j undef))(hdy:∀j,j<n->Den FM Z (.int k (b j)) (ys.getD j undef))(d:Nat)(w:World) :
  ∀is:List Nat,(∀i,i∈is->i<n)->(Op.eqItems (d+1) e 1 xs ys is).run P w=.ok (is.all fun i=>a i==b i) w
 |[],_=>rfl
 |i::is,h=>by
  have hi:i<n:=h i List.mem_cons_self
  have ih:=qT he hx hy hdx hdy d w is (fun j hj=>h j (List.mem_cons_of_mem _ hj))
  have heq:=pq (x:=.int k (a i)) (y:=.int k (b i)) (r:=a i==b i) he (by simp[iZ]) (hdx i hi) (hdy i hi) d w
  have p1:=kx (P:=P) he rfl xs i omg w
  have p2:=kx (P:=P) he rfl ys i omg w
  simp only[Op.eqItems,Sem.run_bind,Nat.mul_one]
  rw[p1]
  simp only[Result.andThen_ok]
  rw[p2]
  simp only[Result.andThen_ok,heq]
  cases hb:(a i==b i)
  ·simp[hb]
  ·simp only[Bool.not_true,Bool.false_eq_true,if_false,List.all_cons,hb,Bool.true_and]
   exact ih
theorem wA {o:Oper}{ev:Operand->AV}{hp:List AObj}{g:R.σ}{t t2 e:TypeId}{x y:Operand}{k:IntKind}{n:Nat}{a b:Nat->Int}(ho:o.op=.binOp .eql t x y t2)(hx:ev x=.agg n (fun j=>.int k (a j)))(hy:ev y=.agg n (fun j=>.int k (b j)))
  (hu:P.underlying t=some (.array n e)) (he:P.underlying e=some (.int k)) (hi:(P.info? e).isSome=true) (hc:P.cellsOf e=1) (hg:P.eqGuardType P.depth t=false):OpOk P R o ev hp g (.bool (decide (∀j,j<n->a j=b j))) hp g:=by
 refine⟨fun FM Z w evc okw hop=>?_⟩
 obtain⟨i,hi⟩:=Option.isSome_iff_exists.1 hi
 have h1:=hop x (by simp[ho,Op.operands])
 have h2:=hop y (by simp[ho,Op.operands])
 rw[hx] at h1
 rw[hy] at h2
 obtain⟨cs,e1,s1,c1⟩:=h1
 obtain⟨ds,e2,s2,c2⟩:=h2
 have hitems:=qT (P:=P) he s1 s2 (fun j hj=>(c1 j hj).2) (fun j hj=>(c2 j hj).2) 9998 w (List.range n) (fun j hj=>by simpa using hj)
 have hr:((List.range n).all fun i=>a i==b i)=decide (∀j,j<n->a j=b j):=by
  rw[Bool.eq_iff_iff,decide_eq_true_iff,List.all_eq_true]
  exact⟨fun h j hj=>by simpa using h j (by simpa using hj),fun h j hj=>by simpa using h j (by simpa using hj)⟩
 have hq:(Op.equal t (.agg cs) (.agg ds)).run P w=.ok (decide (∀j,j<n->a j=b j)) w:=by
  show(Op.equalIn (9999+1) t (.agg cs) (.agg ds)).run P w=_
  rw[run_equalIn_array w 9999 cs ds hu hi,hc,<-hr]
  exact hitems
 have hgd:=run_eqGuard_agg (P:=P) w .eql t x y cs ds hg
 refine⟨.value (.bool (decide (∀j,j<n->a j=b j))),w,FM,Z,.bool (decide (∀j,j<n->a j=b j)),?_,rfl,rfl,okw,BA _ _ _ _ _⟩
 have hb:=pu t (v:=.agg cs) (u:=.agg ds) (by simp) (by simp) (by simp) (by simp)
 simp[execOp,ho,e1,e2,hgd,hb,hq]
end Go.Avm
namespace Go.Avm
open Go
variable {P:Program}{R:Res}
def nE (P:Program)(t:Nat):Bool:=match ax P t with
 |some ti=> !ti.agg&&Nat.beq ti.size 1
 |none=>false
theorem wB {t:Nat}(h:nE P t=true):∃ti,ax P t=some ti/\ti.agg=false/\ti.size=1:=by
 unfold nE at h
 split at h
 ·rename_i ti hti
  simp only[Bool.and_eq_true,Bool.not_eq_true'] at h
  exact⟨ti,hti,h.1,Nat.eq_of_beq_eq_true h.2⟩
 ·cases h
theorem qU (x:AV):Le (i8 x) x:=by
 cases x with
 |agg n get=>
  refine Bx fun j hj=>?_
  exact Bt (mE hj)
 |_=>exact Bs _
theorem d6 {o:Oper}{ev:Operand->AV}{hp:List AObj}{g:R.σ}{t:TypeId}{p:Operand}{b off n:Nat}{f:Bool}{get:Nat->AV}(ho:o.op=.load t p)(hp0:ev p=.ref b off)(h1:nE P t=true)(hg:ag hp b=.cells f n get)(hn:off+1<=n){x:AV}(hx:get off=x) :
  OpOk P R o ev hp g x hp g:=by
 obtain⟨ti,e1,e2,e3⟩:=wB h1
 have hs:fE (ax P) (.load t p)=false∨fE (ax P) (.load t p)=true:=by cases fE (ax P) (.load t p) <;> simp
 refine fM (out:=⟨bif fE (ax P) (.load t p) then i8 (eh ti.agg ti.size off get) else eh ti.agg ti.size off get,hp,[off+ti.size<=n],.load b⟩) ?_ ⟨by rw[e3];exact hn,trivial⟩ ?_
 ·rw[ho]
  simp only[dz,br,e1,hp0,hg,e2,e3]
  rfl
 ·have hm:eh ti.agg ti.size off get=x:=by rw[e2,e3];subst hx;simp[eh]
  rw[hm]
  cases fE (ax P) (.load t p) with
  |false=>exact Bs _
  |true=>exact qU x
end Go.Avm
namespace Go.Avm
open Go
section
variable {P:Program}{R:Res}
def nG (P:Program)(t es:Nat):Bool:=match ej (ax P) t with
 |some (s,_)=>Nat.beq s es
 |none=>false
theorem wC {t es:Nat}(h:nG P t es=true):∃ei,ej (ax P) t=some (es,ei):=by
 unfold nG at h
 split at h
 ·rename_i s ei he
  have:=Nat.eq_of_beq_eq_true h
  subst this
  exact⟨ei,he⟩
 ·cases h
theorem lh {o:Oper}{ev:Operand->AV}{hp:List AObj}{g:R.σ}{t es N n len:Nat}{k:Call}{d x:Operand}{ob off cap:Nat}{ex:Bool}{get0 get':Nat->AV}{new:Nat->Nat->AV}{ob1:List Prop}(m:Nat)
  (ho:o.op=.call k) (hk:k.callee=.builtin .copy) (ha:k.args=#[d,x]) (ht:k.argTypes=#[t,t]) (hd:ev d=.sl ob off len cap ex es) (hob:ag hp ob=.cells false N get0) (hes1:nG P t es=true)
  (hx:dm hp es (ev x)=some (n,new,ob1)) (h1:ap ob1) (hm:m=min n len) (hm0:0<m) (hes:0<es) (hN:off+len*es<=N)
  (hg:∀c,c<N->get' c=if off<=c/\c<off+m*es then new ((c-off)/es) ((c-off)%es) else get0 c) :
  OpOk P R o ev hp g (.int .i64 m) (aH hp ob (.cells false N get')) g:=by
 obtain⟨ei,hei⟩:=wC hes1
 refine⟨fun FM Z w evc ok hop=>?_⟩
 have hdd:=hop d (by simp[ho,Op.operands,Call.operands,ha])
 have hdx:=hop x (by simp[ho,Op.operands,Call.operands,ha])
 obtain⟨e,ti,hti,hds,hee,hse⟩:=je hei
 have hu:=hti.und
 rw[hds] at hu
 obtain⟨inf,hi1,hi2,hi3,z,hz0,hzs,_,_,hone⟩:=hee.info
 rw[hd] at hdd
 obtain⟨q,cap',hq,hdv,hcap,_,hfit⟩:=hdd
 obtain⟨a,c,vs,x1,x2,x3,x4,x5,x6⟩:=jd ok.rel hx hes h1 hdx
 have hmn:m<=n:=by omega
 have hml:m<=len:=by omega
 have hmes:m*es<=n*es:=Nat.mul_le_mul_right _ hmn
 have hmes2:m*es<=len*es:=Nat.mul_le_mul_right _ hml
 have hpos:0<N:=Nat.lt_of_lt_of_le (Nat.mul_pos hm0 hes) omg
 obtain⟨_,hobj'⟩:=ok.rel.obj ob q hq
 rw[hob] at hobj'
 obtain⟨cur,e',hcur,hN',hcsz,hcells,_,hfn⟩:=hobj' hpos
 cases a with
 |none=>have:=x5 rfl;omega
 |some a=>
  obtain⟨ys,hys⟩:∃ys,ys=vs.take (m*es):=⟨_,rfl⟩
  have yl:ys.length=m*es:=by rw[hys,List.length_take];omega
  have yg:∀j,j<m*es->ys[j]? = vs[j]?:= fun j hj=>by rw[hys,List.getElem?_take,if_pos hj]
  have yd:∀j,j<m*es->ys.getD j undef=vs.getD j undef:=fun j hj=>by rw[List.getD_eq_getElem?_getD,List.getD_eq_getElem?_getD,yg j hj]
  have yc:∀j u,ys[j]? = some u->w.cell? (a.add j)=some u:=fun j u hj=>by
   have hlt:j<m*es:=by rw[<-yl];exact(List.getElem?_eq_some_iff.1 hj).1
   exact x3 a rfl j u (by rw[<-yg j hlt];exact hj)
  have y1:∀u∈ys,u.oneCell'=true:=fun u hu=>x4 u (by rw[hys] at hu;exact List.mem_of_mem_take hu)
  have hf:=run_firstCells_some (P:=P) w inf.size m a n c ys (by rw[hi2,<-hse];exact yl) yc
  have hst:=run_storeCells_at P q.1 (q.2.1+off) e' ys 0 cur w hcur (by rw[yl];omega) y1
  simp only[Nat.add_zero] at hst
  have hwr:=Wrote.setRow hcur (cur.toList.take (q.2.1+off)++ys++cur.toList.drop (q.2.1+off+ys.length)).toArray
  have hfit2:q.2.1+off+ys.length<=cur.toList.length:=by rw[yl];simp;omega
  obtain⟨b1,b2⟩:=mD ok.rel hq hob hpos hwr (by rw[List.size_toArray,ij _ _ _ hfit2];simpa using hcsz) (n:=N) (get:=get') (by rw[List.size_toArray,ij _ _ _ hfit2];simp;omega) (fun j hj=>by
   rw[kA _ _ _ hfit2,hg j hj,yl]
   by_cases hin:off<=j/\j<off+m*es
   ·rw[if_pos hin,if_pos omg]
    have e2:q.2.1+j-(q.2.1+off)=j-off:=by omega
    rw[e2,yd _ omg]
    refine⟨?_,x6 _ omg⟩
    rw[List.getD_eq_getElem?_getD,List.getElem?_eq_getElem omg,Option.getD_some]
    exact x4 _ (List.getElem_mem _)
   ·rw[if_neg hin,if_neg omg]
    obtain⟨u,u1,u2,u3⟩:=hcells j hj
    have:cur.toList.toArray.getD (q.2.1+j) undef=u:=by
     rw[Array.getD_eq_getD_getElem?,Array.toArray_toList,u1];rfl
    rw[this]
    exact⟨u2,u3⟩)
  obtain⟨c1,c2⟩:=e7 ok b1 b2 (BD _)
  refine⟨.value (.int .i64 m),_,FM,Z,_,?_,rfl,rfl,c1,c2⟩
  have hmm:Nat.min n len=m:=hm.symm
  simp[execOp,ho,resolve,hk,ha,ht,invoke,builtin,hdv,x1,Builtin.copy_,Builtin.lenOf,run_underlying hu,sizeOf,typeInfo,hi1,hmm,hf,hst,goInt]
def qV (P:Program)(t s:Nat):Bool:=match ax P t with
 |some ti=>ti.agg&&Nat.beq ti.size s
 |none=>false
theorem qW {o:Oper}{ev:Operand->AV}{hp:List AObj}{g:R.σ}{t:TypeId}{p:Operand}{b off n s:Nat}{f:Bool}{get:Nat->AV}{v:AV}(ho:o.op=.load t p)(hp0:ev p=.ref b off)(h1:qV P t s=true)(hg:ag hp b=.cells f n get)(hn:off+s<=n)(hv:Le (.agg s (fun j=>get (j+off))) v) :
  OpOk P R o ev hp g v hp g:=by
 obtain⟨ti,e1,e2,e3⟩:∃ti,ax P t=some ti/\ti.agg=true/\ti.size=s:=by
  unfold qV at h1
  split at h1
  ·rename_i ti hti
   simp only[Bool.and_eq_true] at h1
   exact⟨ti,hti,h1.1,Nat.eq_of_beq_eq_true h1.2⟩
  ·cases h1
 refine fM (out:=⟨bif fE (ax P) (.load t p) then i8 (eh ti.agg ti.size off get) else eh ti.agg ti.size off get,hp,[off+ti.size<=n],.load b⟩) ?_ ⟨by rw[e3];exact hn,trivial⟩ ?_
 ·rw[ho]
  simp only[dz,br,e1,hp0,hg,e2,e3]
  rfl
 ·have hm:eh ti.agg ti.size off get=.agg s (fun j=>get (j+off)):=by rw[e2,e3];rfl
  rw[hm]
  intro FM Z w hw
  refine hv FM Z w ?_
  cases hb:fE (ax P) (.load t p) with
  |false=>rw[hb] at hw;exact hw
  |true=>rw[hb] at hw;exact qU _ FM Z w hw
theorem Le.ow_sl {x:Bool}{o n es:Nat}(h:n≠0):Le (.ow x o n es) (.sl o 0 n n false es):=by
 intro FM Z v hv
 obtain⟨p,cap',h1,h2,h3,h4⟩:=hv.2 h
 exact⟨p,cap',h1,h2,h3,fun h=>(by cases h),omg⟩
end
end Go.Avm
namespace Go.Avm.Tb
open Go
theorem low_of {s:Nat}(h:0<s):∃k m,s=2^k*(2*m+1):=by
 induction s using Nat.strongRecOn with
 |_ s ih=>
  rcases Nat.mod_two_eq_zero_or_one s with h2|h2
  ·obtain⟨k,m,e⟩:=ih (s/2) omg omg
   refine⟨k+1,m,?_⟩
   have:s=2*(s/2):=by omega
   rw[this,e,Nat.pow_succ,Nat.mul_comm (2^k) 2,Nat.mul_assoc]
  ·exact⟨0,s/2,omg⟩
theorem wD (m j:Nat):(2*m+1).testBit j=if j=0 then true else m.testBit (j-1):=by
 have h:=Nat.testBit_two_pow_mul_add m (b:=1) (i:=1) dcd j
 rw[show 2^1*m+1=2*m+1 by omega] at h
 rw[h]
 by_cases hj:j=0
 ·subst hj;rfl
 ·rw[if_neg omg,if_neg hj]
theorem wE (m j:Nat):(2*m).testBit j=if j=0 then false else m.testBit (j-1):=by
 have h:=Nat.testBit_two_pow_mul_add m (b:=0) (i:=1) dcd j
 rw[show 2^1*m+0=2*m by omega] at h
 rw[h]
 by_cases hj:j=0
 ·subst hj;rfl
 ·rw[if_neg omg,if_neg hj]
theorem wF (k a j:Nat):(2^k*a).testBit j=if j<k then false else a.testBit (j-k):=by
 have h:=Nat.testBit_two_pow_mul_add a (b:=0) (i:=k) (Nat.pow_pos dcd) j
 rw[Nat.add_zero] at h
 rw[h]
 split <;> simp
theorem low_bit {s k m:Nat}(h:s=2^k*(2*m+1))(j:Nat):s.testBit j=if j<k then false else if j=k then true else m.testBit (j-k-1):=by
 subst h
 rw[wF,wD]
 split
 ·rfl
 ·rename_i hj
  by_cases e:j=k
  ·rw[if_pos omg,if_pos e]
  ·rw[if_neg omg,if_neg e]
theorem wG {s k m:Nat}(h:s=2^k*(2*m+1))(j:Nat):(s-1).testBit j=if j<k then true else if j=k then false else m.testBit (j-k-1):=by
 have hp:0<2^k:=Nat.pow_pos dcd
 have e:s-1=2^k*(2*m)+(2^k-1):=by
  rw[h,Nat.mul_add,Nat.mul_one]
  omega
 rw[e,Nat.testBit_two_pow_mul_add _ omg,Nat.testBit_two_pow_sub_one,wE]
 split
 ·rename_i hj;exact decide_eq_true hj
 ·by_cases e:j=k
  ·rw[if_pos omg,if_pos e]
  ·rw[if_neg omg,if_neg e]
theorem nH {s k m:Nat}(h:s=2^k*(2*m+1))(j:Nat):(s&&&(s-1)).testBit j=(s.testBit j&&j != k):=by
 rw[Nat.testBit_and,wG h,low_bit h]
 by_cases h1:j<k
 ·rw[if_pos h1,if_pos h1];rfl
 ·rw[if_neg h1,if_neg h1]
  by_cases h2:j=k
  ·rw[if_pos h2,if_pos h2];simp[h2]
  ·rw[if_neg h2,if_neg h2];simp[h2]
theorem wH {s k m:Nat}(h:s=2^k*(2*m+1))(hs:s<2^64):s&&&(2^64-s)=2^k:=by
 have hp:0<2^k:=Nat.pow_pos dcd
 have hk:k<64:=by
  rcases Nat.lt_or_ge k 64 with h'|h'
  ·exact h'
  ·have h1:2^64<=2^k:=Nat.pow_le_pow_right dcd h'
   have h2:2^k*1<=2^k*(2*m+1):=Nat.mul_le_mul_left _ omg
   omega
 have e64:2^64=2^k*(2*2^(63-k)):=by
  rw[show 2*2^(63-k)=2^(63-k+1) by rw[Nat.pow_succ];omega,<-Nat.pow_add]
  congr 1
  omega
 have hm:m<2^(63-k):=by
  rw[h,e64] at hs
  have:=Nat.lt_of_mul_lt_mul_left hs
  omega
 have hneg:2^64-s=2^k*(2*(2^(63-k)-(m+1))+1):=by
  rw[h,e64,<-Nat.mul_sub]
  congr 1
  omega
 refine Nat.eq_of_testBit_eq fun j=>?_
 rw[Nat.testBit_and,low_bit h,low_bit hneg,Nat.testBit_two_pow]
 by_cases h1:j<k
 ·rw[if_pos h1];simp;omega
 ·rw[if_neg h1,if_neg h1]
  by_cases h2:j=k
  ·rw[if_pos h2,if_pos h2];simp[h2]
  ·rw[if_neg h2,if_neg h2,Nat.testBit_two_pow_sub_succ hm]
   have:¬k=j:=fun e=>h2 e.symm
   rw[decide_eq_false this]
   cases m.testBit (j-k-1) <;> simp
def memN (N s:Nat):List Nat:=(List.range N).filter (fun k=>s.testBit k)
theorem mem_memN {N s k:Nat}:k∈memN N s↔k<N/\s.testBit k=true:=by
 unfold memN
 rw[List.mem_filter,List.mem_range]
theorem mem_low {N s k m:Nat}(h:s=2^k*(2*m+1))(hk:k<N):memN N s=k::memN N (s&&&(s-1)):=by
 obtain⟨b,rfl⟩:∃b,N=k+(1+b):=⟨N-k-1,omg⟩
 unfold memN
 rw[List.range_add,List.range_add,List.filter_append,List.filter_append,List.map_append,List.filter_append,List.filter_append]
 have h1:(List.range k).filter (fun j=>s.testBit j)=[]:=by
  rw[List.filter_eq_nil_iff]
  intro j hj
  rw[List.mem_range] at hj
  rw[low_bit h,if_pos hj]
  decide
 have h2:(List.range k).filter (fun j=>(s&&&(s-1)).testBit j)=[]:=by
  rw[List.filter_eq_nil_iff]
  intro j hj
  rw[List.mem_range] at hj
  rw[nH h,low_bit h,if_pos hj]
  simp
 have h3:((List.range 1).map (k+·)).filter (fun j=>s.testBit j)=[k]:=by
  show List.filter _ [k+0]=_
  rw[Nat.add_zero]
  have:s.testBit k=true:=by rw[low_bit h,if_neg omg,if_pos rfl]
  simp[this]
 have h4:((List.range 1).map (k+·)).filter (fun j=>(s&&&(s-1)).testBit j)=[]:=by
  rw[List.filter_eq_nil_iff]
  intro j hj
  have hj:j∈[k+0]:=hj
  rw[List.mem_singleton,Nat.add_zero] at hj
  rw[hj,nH h]
  simp
 rw[h1,h2,h3,h4]
 simp only[List.nil_append,List.singleton_append]
 congr 1
 refine List.filter_congr (fun j hj=>?_)
 obtain⟨i,hi,rfl⟩:=List.mem_map.1 hj
 obtain⟨i',hi',rfl⟩:=List.mem_map.1 hi
 rw[nH h]
 have:(k+(1+i') != k)=true:=by rw[bne_iff_ne];omega
 rw[this,Bool.and_true]
theorem nI (N:Nat):memN N 0=[]:=by
 unfold memN
 rw[List.filter_eq_nil_iff]
 simp
theorem zero_of_mem {N s:Nat}(hs:s<2^N)(h:memN N s=[]):s=0:=by
 refine Nat.eq_of_testBit_eq fun j=>?_
 rw[Nat.zero_testBit]
 rcases Nat.lt_or_ge j N with hj|hj
 ·cases hb:s.testBit j with
  |false=>rfl
  |true=>
   have:j∈memN N s:=mem_memN.2 ⟨hj,hb⟩
   rw[h] at this
   cases this
 ·exact Nat.testBit_lt_two_pow (Nat.lt_of_lt_of_le hs (Nat.pow_le_pow_right dcd hj))
def cutN (s:Nat):Nat->Nat
 |0=>s
 |j+1=>cutN s j&&&(cutN s j-1)
theorem cutN_lt {N s:Nat}(hs:s<2^N):∀j,cutN s j<2^N
 |0=>hs
 |j+1=>Nat.lt_of_le_of_lt Nat.and_le_left (cutN_lt hs j)
theorem low_lt {N s k m:Nat}(h:s=2^k*(2*m+1))(hs:s<2^N):k<N:=by
 rcases Nat.lt_or_ge k N with h'|h'
 ·exact h'
 ·have h1:2^N<=2^k:=Nat.pow_le_pow_right dcd h'
  have h2:2^k*1<=2^k*(2*m+1):=Nat.mul_le_mul_left _ omg
  omega
theorem nJ {N s:Nat}(hs:s<2^N):∀j,memN N (cutN s j)=(memN N s).drop j
 |0=>rfl
 |j+1=>by
  have ih:=nJ hs j
  show memN N (cutN s j&&&(cutN s j-1))=_
  rcases Nat.eq_zero_or_pos (cutN s j) with h0|h0
  ·rw[h0,nI] at ih
   rw[h0,show(0&&&(0-1):Nat)=0 from rfl,nI]
   rw[show(memN N s).drop (j+1)=((memN N s).drop j).drop 1 by rw[List.drop_drop],<-ih]
   rfl
  ·obtain⟨k,m,e⟩:=low_of h0
   have hk:=low_lt e (cutN_lt hs j)
   rw[mem_low e hk] at ih
   rw[show(memN N s).drop (j+1)=((memN N s).drop j).drop 1 by rw[List.drop_drop],<-ih]
   rfl
theorem cutN_in {N s:Nat}(hs:s<2^N){j:Nat}(hj:j<(memN N s).length):∃m,cutN s j=2^((memN N s).getD j 0)*(2*m+1):=by
 have h:=nJ hs j
 rcases Nat.eq_zero_or_pos (cutN s j) with h0|h0
 ·rw[h0,nI] at h
  have:=congrArg List.length h
  rw[List.length_drop] at this
  simp at this
  omega
 ·obtain⟨k,m,e⟩:=low_of h0
  have hk:=low_lt e (cutN_lt hs j)
  rw[mem_low e hk,List.drop_eq_getElem_cons hj] at h
  have hk':k=(memN N s)[j]:=(List.cons.inj h).1
  refine⟨m,?_⟩
  rw[List.getD_eq_getElem?_getD,List.getElem?_eq_getElem hj,Option.getD_some,<-hk']
  exact e
theorem cutN_end {N s:Nat}(hs:s<2^N):cutN s (memN N s).length=0:=by
 refine zero_of_mem (cutN_lt hs _) ?_
 rw[nJ hs,List.drop_length]
theorem wrapu (n:Int):IntKind.u64.wrap n=n%18446744073709551616:=by simp[IntKind.wrap,IntKind.bits,IntKind.signed]
theorem lj {s:Nat}(hs:s<2^64):(BitVec.ofInt 64 (s:Int)).toNat=s:=by
 rw[BitVec.ofInt_natCast,BitVec.toNat_ofNat]
 exact Nat.mod_eq_of_lt hs
theorem wrapU {s:Nat}(hs:s<2^64):IntKind.u64.wrap (s:Int)=s:=by
 rw[wrapu]
 have:(2:Nat)^64=18446744073709551616:=by decide
 omega
theorem u64_and {s t:Nat}(hs:s<2^64)(ht:t<2^64):IntKind.u64.wrap ((BitVec.ofInt 64 (s:Int)&&&BitVec.ofInt 64 (t:Int)).toNat:Int)=((s&&&t:Nat):Int):=by
 rw[BitVec.toNat_and,lj hs,lj ht]
 exact wrapU (Nat.lt_of_le_of_lt Nat.and_le_left hs)
theorem u64_or {s t:Nat}(hs:s<2^64)(ht:t<2^64):IntKind.u64.wrap ((BitVec.ofInt 64 (s:Int)|||BitVec.ofInt 64 (t:Int)).toNat:Int)=((s|||t:Nat):Int):=by
 rw[BitVec.toNat_or,lj hs,lj ht]
 exact wrapU (Nat.or_lt_two_pow hs ht)
theorem u64_sub {s t:Nat}(hs:s<2^64)(h:t<=s):IntKind.u64.wrap ((s:Int)-(t:Int))=((s-t:Nat):Int):=by
 rw[<-Int.ofNat_sub h]
 exact wrapU omg
theorem wI {s:Nat}(h0:0<s)(hs:s<2^64):IntKind.u64.wrap (0-(s:Int))=((2^64-s:Nat):Int):=by
 rw[wrapu]
 have:(2:Nat)^64=18446744073709551616:=by decide
 omega
theorem u64_cut {s:Nat}(h0:0<s)(hs:s<2^64):IntKind.u64.wrap ((BitVec.ofInt 64 (s:Int)&&&BitVec.ofInt 64 (IntKind.u64.wrap ((s:Int)-1))).toNat:Int)=((s&&&(s-1):Nat):Int):=by
 have e:IntKind.u64.wrap ((s:Int)-1)=((s-1:Nat):Int):=u64_sub (t:=1) hs h0
 rw[e]
 exact u64_and hs omg
theorem u64_low {s k m:Nat}(h:s=2^k*(2*m+1))(hs:s<2^64):IntKind.u64.wrap ((BitVec.ofInt 64 (s:Int)&&&BitVec.ofInt 64 (IntKind.u64.wrap (0-(s:Int)))).toNat:Int)=((2^k:Nat):Int):=by
 have hp:0<2^k:=Nat.pow_pos dcd
 have h0:0<s:=by
  rw[h]
  exact Nat.mul_pos hp omg
 rw[wI h0 hs,u64_and hs omg,wH h hs]
end Go.Avm.Tb
namespace Go.Avm
open Go Go.Maps
section
variable {P:Program}{R:Res}
theorem qX {o:Oper}{ev:Operand->AV}{hp:List AObj}{g:R.σ}{t kt vt:TypeId}{m x:Operand}{ob:Nat}{es:List (Value × AV)}{kv:Value}{d:AV}(ho:o.op=.lookup t m x false)(ht:P.underlying t=some (.map kt vt))(K:Keyed P kt)(hm:ev m=.mp ob)(hob:ag hp ob=.map es)
  (hx:∀FM Z v,Den FM Z (ev x) v->v=kv) (hk:∃l,keyOf P kt kv=some l) (hks:∀e∈es,∃l,keyOf P kt e.1=some l) (h1:∃e∈es,e.1=kv) (h2:∀e∈es,e.1=kv->e.2=d) :
  OpOk P R o ev hp g d hp g:=by
 refine⟨fun FM Z w evc ok hop=>?_⟩
 have hdm:=hop m (by simp[ho,Op.operands])
 have hdx:=hx _ _ _ (hop x (by simp[ho,Op.operands]))
 rw[hm] at hdm
 obtain⟨p,mes,clock,hp',hv,_,_,hh,hl,hes⟩:=qH ok hob hdm
 obtain⟨kl,hk⟩:=hk
 have hks':∀e∈mes.toList,∃l,keyOf P kt e.key=some l:=fun e he=>by
  obtain⟨i,hi⟩:=List.getElem?_of_mem he
  obtain⟨v,hv,_⟩:=kY hl hes hi
  exact hks _ (List.mem_of_getElem? hv)
 have hck:=K.check w mes.isEmpty hk
 rcases K.find w hk mes.toList hks' with⟨_,hno⟩|⟨j,e,hf,hj,hek⟩
 ·exfalso
  obtain⟨e0,he0,hk0⟩:=h1
  obtain⟨i,hi⟩:=List.getElem?_of_mem he0
  obtain⟨e,q1,q2,_⟩:=hes i e0.1 e0.2 (by rw[hi])
  exact hno e (by rw[<-Array.getElem?_toList] at q1;exact List.mem_of_getElem? q1) (by rw[q2,hk0])
 ·obtain⟨v,hv',hd⟩:=kY hl hes hj
  have hvd:v=d:=h2 _ (List.mem_of_getElem? hv') hek
  subst hvd
  refine⟨.value e.val,w,FM,Z,_,?_,rfl,hd.lift,ok,BA _ _ _ _ _⟩
  simp[execOp,ho,Instr.lookup,run_underlying ht,hv,hdx,getObj,Sem.run_bind,hh,hck,hf,Result.andThen,Sem.run]
theorem qY {o:Oper}{ev:Operand->AV}{hp:List AObj}{g:R.σ}{t kt vt:TypeId}{m x:Operand}{ob:Nat}{es:List (Value × AV)}{kv:Value}{ti:TyI}{z:AV}(ho:o.op=.lookup t m x false)(ht:P.underlying t=some (.map kt vt))(K:Keyed P kt)(hvt:ax P vt=some ti)(hz0:Le (mkv ti.agg ti.size ti.zero) z)(hm:ev m=.mp ob)(hob:ag hp ob=.map es)
  (hx:∀FM Z v,Den FM Z (ev x) v->v=kv) (hk:∃l,keyOf P kt kv=some l) (hks:∀e∈es,∃l,keyOf P kt e.1=some l) (h1:∀e∈es,e.1≠kv) :
  OpOk P R o ev hp g z hp g:=by
 refine⟨fun FM Z w evc ok hop=>?_⟩
 have hdm:=hop m (by simp[ho,Op.operands])
 have hdx:=hx _ _ _ (hop x (by simp[ho,Op.operands]))
 rw[hm] at hdm
 obtain⟨p,mes,clock,hp',hv,_,_,hh,hl,hes⟩:=qH ok hob hdm
 obtain⟨kl,hk⟩:=hk
 have hks':∀e∈mes.toList,∃l,keyOf P kt e.key=some l:=fun e he=>by
  obtain⟨i,hi⟩:=List.getElem?_of_mem he
  obtain⟨v,hv,_⟩:=kY hl hes hi
  exact hks _ (List.mem_of_getElem? hv)
 have hck:=K.check w mes.isEmpty hk
 obtain⟨z0,hz,_,_⟩:=eF (FM:=FM) (Z:=Z) (bg hvt)
 rcases K.find w hk mes.toList hks' with⟨hf,_⟩|⟨j,e,hf,hj,hek⟩
 ·refine⟨.value z0,w,FM,Z,_,?_,rfl,hz0 _ _ _ (mC (bg hvt) hz),ok,BA _ _ _ _ _⟩
  simp[execOp,ho,Instr.lookup,run_underlying ht,hv,hdx,getObj,Sem.run_bind,hh,hck,hf,hz,Result.andThen,Sem.run]
 ·exfalso
  obtain⟨v,hv',hd⟩:=kY hl hes hj
  exact h1 _ (List.mem_of_getElem? hv') hek
end
end Go.Avm
namespace Go.Avm
open Go Go.Maps
section
variable {P:Program}{R:Res}
theorem wJ {o:Oper}{ev:Operand->AV}{hp:List AObj}{g:R.σ}{t:TypeId}(ho:o.op=.makeMap t none):OpOk P R o ev hp g (.mp hp.length) (aR hp (.mapo [])) g:=by
 refine⟨fun FM Z w evc ok _=>?_⟩
 have hnew:FM w.heap.size=none:=by
  cases hf:FM w.heap.size with
  |none=>rfl
  |some o=>have:=(Array.getElem?_eq_some_iff.1 (ok.rel.fm _ _ hf)).1;omega
 obtain⟨a1,a2,a3⟩:=v9 ok.rel (.map #[] 0) (.mapo []) 0 (fun FM' h=>by
  refine⟨Nat.le_refl _,?_,#[],0,World.alloc_heap_new w _,rfl,fun i k v hi=>by simp at hi⟩
  cases hf:FM' w.heap.size with
  |none=>rfl
  |some y=>have:=h _ _ hf;rw[hnew] at this;cases this)
 obtain⟨b1,b2⟩:=e7 ok a1 a2 (Sub.snoc _ _)
 exact⟨.value (.map (some w.heap.size)),w.alloc (.map #[] 0),FM,_,_,by simp[execOp,ho,Instr.makeMap],rfl,⟨_,a3,rfl⟩,b1,b2⟩
theorem qZ {hp:List AObj}{g:R.σ}{FM:Mem}{Z:Plc}{w:World}(ok:Ok R hp g FM Z w){ob:Nat}{es:List (Value × AV)}(hob:ag hp ob=.mapo es){v:Value}(hv:Den FM Z (.mp ob) v) :
  ∃p mes clock,Z[ob]? = some p/\v=.map (some p.1)/\p.2.1<=p.2.2/\FM p.1=none/\w.heap[p.1]? = some (.map mes clock)/\mes.size=es.length/\∀(i:Nat) (k:Value) (v:AV),es[i]? = some (k,v)->∃e,mes[i]? = some e/\e.key=k/\Den FM Z v e.val:=by
 obtain⟨p,hp,rfl⟩:=hv
 obtain⟨_,h2⟩:=ok.rel.obj ob p hp
 rw[hob] at h2
 obtain⟨a1,a2,mes,clock,a3,a4,a5⟩:=h2
 exact⟨p,mes,clock,hp,rfl,a1,a2,a3,a4,a5⟩
theorem ll {es:List (Value × AV)}{mes:Array MapEntry}{FM:Mem}{Z:Plc}(hl:mes.size=es.length)(h:∀(i:Nat) (k:Value) (v:AV),es[i]? = some (k,v)->∃e,mes[i]? = some e/\e.key=k/\Den FM Z v e.val){i:Nat}{e:MapEntry}(hi:mes.toList[i]? = some e):∃v,es[i]? = some (e.key,v)/\Den FM Z v e.val:=by
 have hlt:i<es.length:=by
  have:=(List.getElem?_eq_some_iff.1 hi).1
  simpa[hl] using this
 obtain⟨e',h1,h2,h3⟩:=h i es[i].1 es[i].2 (by rw[List.getElem?_eq_getElem hlt])
 rw[Array.getElem?_toList] at hi
 rw[hi] at h1
 cases h1
 exact⟨es[i].2,by rw[List.getElem?_eq_getElem hlt,h2],h3⟩
theorem wK {o:Oper}{ev:Operand->AV}{hp:List AObj}{g:R.σ}{t kt vt:TypeId}{m x:Operand}{ob:Nat}{es:List (Value × AV)}{kv:Value}{ti:TyI}{d:AV}(ho:o.op=.lookup t m x false)(ht:P.underlying t=some (.map kt vt))(K:Keyed P kt)(hvt:ax P vt=some ti)(hm:ev m=.mp ob)(hob:ag hp ob=.mapo es)
  (hx:∀FM Z v,Den FM Z (ev x) v->v=kv) (hk:∃l,keyOf P kt kv=some l) (hks:∀e∈es,∃l,keyOf P kt e.1=some l) (h1:(∀e∈es,e.1≠kv)->Le (mkv ti.agg ti.size ti.zero) d) (h2:∀e∈es,e.1=kv->e.2=d) :
  OpOk P R o ev hp g d hp g:=by
 refine⟨fun FM Z w evc ok hop=>?_⟩
 have hdm:=hop m (by simp[ho,Op.operands])
 have hdx:=hx _ _ _ (hop x (by simp[ho,Op.operands]))
 rw[hm] at hdm
 obtain⟨p,mes,clock,hp',hv,_,_,hh,hl,hes⟩:=qZ ok hob hdm
 obtain⟨kl,hk⟩:=hk
 have hks':∀e∈mes.toList,∃l,keyOf P kt e.key=some l:=fun e he=>by
  obtain⟨i,hi⟩:=List.getElem?_of_mem he
  obtain⟨v,hv,_⟩:=ll hl hes hi
  exact hks _ (List.mem_of_getElem? hv)
 have hck:=K.check w mes.isEmpty hk
 obtain⟨z0,hz,_,_⟩:=eF (FM:=FM) (Z:=Z) (bg hvt)
 rcases K.find w hk mes.toList hks' with⟨hf,hno⟩|⟨j,e,hf,hj,hek⟩
 ·have hno':∀e∈es,e.1≠kv:=fun e0 he0 hk0=>by
   obtain⟨i,hi⟩:=List.getElem?_of_mem he0
   obtain⟨e,q1,q2,_⟩:=hes i e0.1 e0.2 (by rw[hi])
   exact hno e (by rw[<-Array.getElem?_toList] at q1;exact List.mem_of_getElem? q1) (by rw[q2,hk0])
  refine⟨.value z0,w,FM,Z,_,?_,rfl,h1 hno' _ _ _ (mC (bg hvt) hz),ok,BA _ _ _ _ _⟩
  simp[execOp,ho,Instr.lookup,run_underlying ht,hv,hdx,getObj,Sem.run_bind,hh,hck,hf,hz,Result.andThen,Sem.run]
 ·obtain⟨v,hv',hd⟩:=ll hl hes hj
  have hvd:v=d:=h2 _ (List.mem_of_getElem? hv') hek
  subst hvd
  refine⟨.value e.val,w,FM,Z,_,?_,rfl,hd,ok,BA _ _ _ _ _⟩
  simp[execOp,ho,Instr.lookup,run_underlying ht,hv,hdx,getObj,Sem.run_bind,hh,hck,hf,Result.andThen,Sem.run]
theorem q0 {FM:Mem}{Z:Plc}{hp:List AObj}{w:World}(hr:HRel FM Z hp w){ob:Nat}{es es':List (Value × AV)}(hob:ag hp ob=.mapo es){p:Nat × Nat × Nat}(hp':Z[ob]? = some p){mes':Array MapEntry}{clock':Nat}(hl:mes'.size=es'.length)
  (hes:∀(i:Nat) (k:Value) (v:AV),es'[i]? = some (k,v)->∃e,mes'[i]? = some e/\e.key=k/\Den FM Z v e.val) :
  HRel FM Z (aH hp ob (.mapo es')) (w.putObj p.1 (.map mes' clock'))/\Ext noB FM Z w FM Z (w.putObj p.1 (.map mes' clock')):=by
 obtain⟨h1,h2⟩:=hr.obj ob p hp'
 rw[hob] at h2
 obtain⟨a1,a2,mes,clock,a3,a4,a5⟩:=h2
 have hol:ob<hp.length:=by rw[<-hr.len];exact(List.getElem?_eq_some_iff.1 hp').1
 have hlt:=h1 a1
 have oth:∀b,b≠p.1->(w.putObj p.1 (.map mes' clock')).heap[b]? = w.heap[b]?:= fun b hb=>World.putObj_heap_other hb
 refine⟨⟨fun b o' h=>?_,by rw[cP];exact hr.len,fun i q hi=>?_,fun i j q r hi hj hli hlj hqr=>?_⟩,fun _ _ h=>h,fun _ _ h=>.inl h,fun b h=>.inl h,fun b hb hn _=>oth b (fun he=>hn ⟨p,bp hp',he.symm,a1⟩),by simp,rfl,rfl,rfl⟩
 ·rw[oth b (fun he=>by rw[he,a2] at h;cases h)];exact hr.fm b o' h
 ·obtain⟨b1,b2⟩:=hr.obj i q hi
  refine⟨by simpa using b1,?_⟩
  by_cases hio:i=ob
  ·subst hio
   rw[hp'] at hi;cases hi
   rw[ek hol]
   exact⟨a1,a2,mes',clock',World.putObj_heap_same hlt,hl,hes⟩
  ·rw[cv (fun h=>hio h.symm)]
   exact b2.mono (BD _) (fun hlv=>oth _ (fun he=>hio (hr.inj i ob q p hi hp' hlv (by rw[hob];rfl) he)))
 ·have key:∀i,aJ (ag (aH hp ob (.mapo es')) i)=true->aJ (ag hp i)=true:=fun i h=>by
   by_cases hio:i=ob
   ·subst hio;rw[hob];rfl
   ·rw[cv (fun h=>hio h.symm)] at h;exact h
  exact hr.inj i j q r hi hj (key i hli) (key j hlj) hqr
structure MapPut (es es':List (Value × AV))(kv:Value)(d:AV):Prop where
 new:(∀e∈es,e.1≠kv)->es'=es++[(kv,d)]
 set:(∃e∈es,e.1=kv)->es'.length=es.length/\∀(i:Nat) (k:Value) (v:AV),es'[i]? = some (k,v)->(k=kv/\v=d/\∃v0,es[i]? = some (k,v0))∨(k≠kv/\es[i]? = some (k,v))
 inj:∀(i j:Nat) (k:Value) (v v':AV),es[i]? = some (k,v)->es[j]? = some (k,v')->i=j
theorem wL {o:Oper}{ev:Operand->AV}{hp:List AObj}{g:R.σ}{t kt vt:TypeId}{m x y:Operand}{ob:Nat}{es es':List (Value × AV)}{kv:Value}{d:AV}(ho:o.op=.mapUpdate t m x y)(ht:P.underlying t=some (.map kt vt))(K:Keyed P kt)(hm:ev m=.mp ob)(hob:ag hp ob=.mapo es)
  (hx:∀FM Z v,Den FM Z (ev x) v->v=kv) (hy:ev y=d) (hk:∃l,keyOf P kt kv=some l) (hks:∀e∈es,∃l,keyOf P kt e.1=some l) (hput:MapPut es es' kv d) :
  OpOk P R o ev hp g .any (aH hp ob (.mapo es')) g:=by
 refine⟨fun FM Z w evc ok hop=>?_⟩
 have hdm:=hop m (by simp[ho,Op.operands])
 have hdx:=hx _ _ _ (hop x (by simp[ho,Op.operands]))
 have hdy:=hop y (by simp[ho,Op.operands])
 rw[hm] at hdm
 rw[hy] at hdy
 obtain⟨p,mes,clock,hp',hv,_,_,hh,hl,hes⟩:=qZ ok hob hdm
 obtain⟨kl,hk⟩:=hk
 have hks':∀e∈mes.toList,∃l,keyOf P kt e.key=some l:=fun e he=>by
  obtain⟨i,hi⟩:=List.getElem?_of_mem he
  obtain⟨v,hv,_⟩:=ll hl hes hi
  exact hks _ (List.mem_of_getElem? hv)
 have hck:=K.check w false hk
 rcases K.find w hk mes.toList hks' with⟨hf,hno⟩|⟨j,e,hf,hj,hek⟩
 ·have hno':∀e∈es,e.1≠kv:=fun e0 he0 hk0=>by
   obtain⟨i,hi⟩:=List.getElem?_of_mem he0
   obtain⟨e,q1,q2,_⟩:=hes i e0.1 e0.2 (by rw[hi])
   exact hno e (by rw[<-Array.getElem?_toList] at q1;exact List.mem_of_getElem? q1) (by rw[q2,hk0])
  obtain rfl:=hput.new hno'
  obtain⟨c1,c2⟩:=q0 ok.rel hob hp' (es':=es++[(kv,d)]) (mes':=mes.push { key:=kv,val:=evc y,born:=clock }) (clock':=clock+1) (by simp[hl]) (fun i k v hi=>by
   rcases Nat.lt_or_ge i es.length with h|h
   ·rw[List.getElem?_append_left h] at hi
    obtain⟨e,q1,q2,q3⟩:=hes i k v hi
    exact⟨e,by rw[Array.getElem?_push,if_neg omg];exact q1,q2,q3⟩
   ·have hi':=(List.getElem?_eq_some_iff.1 hi).1
    have:i=es.length:=by simp at hi';omega
    subst this
    simp at hi
    obtain⟨rfl,rfl⟩:=hi
    exact⟨{ key:=kv,val:=evc y,born:=clock },by rw[<-hl];simp,rfl,hdy⟩)
  obtain⟨b1,b2⟩:=e7 ok c1 c2 (BD _)
  refine⟨.skip,_,FM,Z,undef,?_,rfl,trivial,b1,b2⟩
  simp[execOp,ho,Instr.mapUpdate,run_underlying ht,hv,hdx,getObj,setObj,Sem.run_bind,hh,hck,hf,Result.andThen,Sem.run,World.putObj]
 ·obtain⟨v0,hv0,_⟩:=ll hl hes hj
  obtain⟨hlen,hall⟩:=hput.set ⟨_,List.mem_of_getElem? hv0,hek⟩
  have hjs:mes[j]? = some e:=by rw[Array.getElem?_toList] at hj;exact hj
  have hst:=K.stays w hk
  obtain⟨c1,c2⟩:=q0 ok.rel hob hp' (es':=es') (mes':=mes.modify j fun e=>{ e with key:=kv,val:=evc y }) (clock':=clock) (by simp[hl,hlen]) (fun i k v hi=>by
   rw[Array.getElem?_modify]
   rcases hall i k v hi with⟨rfl,rfl,v1,h1⟩|⟨hne,h1⟩
   ·have:i=j:=hput.inj i j k v1 v0 h1 (by rw[<-hek];exact hv0)
    subst this
    rw[if_pos rfl,hjs]
    exact⟨_,rfl,rfl,hdy⟩
   ·have:¬j=i:=fun he=>by
     subst he
     rw[hv0] at h1
     cases h1
     exact hne hek
    rw[if_neg this]
    exact hes i k v h1)
  obtain⟨b1,b2⟩:=e7 ok c1 c2 (BD _)
  have hke:((mes[j]?).map (·.key)).getD kv=kv:=by rw[hjs];exact hek
  refine⟨.skip,_,FM,Z,undef,?_,rfl,trivial,b1,b2⟩
  simp[execOp,ho,Instr.mapUpdate,run_underlying ht,hv,hdx,getObj,setObj,Sem.run_bind,hh,hck,hf,hke,hst,Result.andThen,Sem.run,World.putObj]
theorem wM {k0:Nat}{s:St R.σ}(k m:Nat)(es es':List (Value × AV))(ts:List Nat)(hk:k0<=k)(hm:ag s.hp m=.mapo es)(hmk:m<k)(hml:k<=s.hp.length)
  (hcells:∀i,k<=i->aJ (ag s.hp i)=true->∃n c,ag s.hp i=.cells false n c/\∀j,j<n->Below 0 (c j))
  (hlen:es'.length=es.length)
  (hes:∀(i:Nat) (kv:Value) (v':AV),es'[i]? = some (kv,v')->∃x o n e N c,es[i]? = some (kv,.ow x o n e)/\k<=o/\0<n/\0<e/\ag s.hp o=.cells false N c/\n*e<=N/\Le (.fz .opn e n (fun i j=>c (i*e+j))) v')
  (hot:∀i,i<k->i≠m->jO k (ag s.hp i)) (hfr:ap (obK k s.fr ts)):To R k0 s ⟨jt s.fr ts,aH (bm k s.hp) m (.map es'),s.g⟩:=by
 classical
 intro Z0 FM Z w vals h0 hs ok fr
 let C:Nat->Prop:=fun b=>∃i p,k<=i/\Z[i]? = some p/\p.1=b/\aJ (ag s.hp i)=true
 let FM':Mem:=fun b=>if C b then w.heap[b]? else FM b
 have hC:∀b,C b->FM' b=w.heap[b]?:= fun b h=>if_pos h
 have hN:∀b,¬C b->FM' b=FM b:=fun b h=>if_neg h
 have hin:∀b,C b->InB Z b:=fun b ⟨i,p,_,h2,h3,h4⟩=>⟨p,bp h2,h3,(ok.rel.real h2 h4).1⟩
 have hmono:∀b o,FM b=some o->FM' b=some o:=fun b o h=>by
  by_cases hc:C b
  ·rw[hC b hc];exact ok.rel.fm b o h
  ·rw[hN b hc];exact h
 have hsound:∀b o,FM' b=some o->w.heap[b]? = some o:=fun b o h=>by
  by_cases hc:C b
  ·rw[hC b hc] at h;exact h
  ·rw[hN b hc] at h;exact ok.rel.fm b o h
 have hgrow:∀b o,FM' b=some o->FM b=some o∨InB Z b:=fun b o h=>by
  by_cases hc:C b
  ·exact .inr (hin b hc)
  ·rw[hN b hc] at h;exact .inl h
 have hkept:∀(i:Nat) (p:Nat × Nat × Nat),i<k->Z[i]? = some p->aJ (ag s.hp i)=true->FM' p.1=FM p.1:=fun i p hi hp hl=>hN _ (fun ⟨j,q,h1,h2,h3,h4⟩=>by
  have:=ok.rel.inj i j p q hp h2 hl h4 h3.symm
  omega)
 have hkeep:Keep (R.B s.g) FM w FM' w:=⟨hmono,fun b hb=>hN b (fun hc=>(ok.bd b hb).2 (hin b hc)),hsound,fun _ _=>rfl,Nat.le_refl _,rfl,rfl,rfl⟩
 have hget:∀(i:Nat) (p:Nat × Nat × Nat),(Z.take k)[i]? = some p->i<k/\Z[i]? = some p:=fun i p h=>by
  rw[List.getElem?_take] at h
  split at h
  ·rename_i hi;exact⟨hi,h⟩
  ·cases h
 have htl:(bm k s.hp).length=k:=by rw[m0];omega
 have hgo:∀i,i<k->i≠m->ag (aH (bm k s.hp) m (.map es')) i=ag s.hp i:=fun i hi hne=>by
  rw[cv (fun e=>hne e.symm),gG,if_pos hi]
 have hgm:ag (aH (bm k s.hp) m (.map es')) m=.map es':=ek omg
 have hinT:∀b,InB (Z.take k) b->InB Z b:=fun b ⟨p,hp,hb⟩=>⟨p,List.mem_of_mem_take hp,hb⟩
 refine⟨FM',Z.take k,⟨⟨hsound,by show _=(aH (bm k s.hp) m _).length;rw[cP,htl,List.length_take,ok.rel.len];omega,fun i p hi=>?_,fun i j p q hi hj hli hlj hpq=>?_⟩,R.st ok.j hkeep,fun b hb=>⟨(ok.bd b hb).1,fun h=>(ok.bd b hb).2 (hinT b h)⟩⟩,?_,fun i p hi=>?_,hmono,hgrow,hinT,rfl⟩
 ·obtain⟨hik,hi'⟩:=hget i p hi
  obtain⟨k1,k2⟩:=ok.rel.obj i p hi'
  refine⟨k1,?_⟩
  show cu FM' (Z.take k) p w (ag (aH (bm k s.hp) m (.map es')) i)
  by_cases him:i=m
  ·subst him
   rw[hgm]
   have hfm:=hkept i p hik hi' (by rw[hm];rfl)
   rw[hm] at k2
   obtain⟨a1,a2,mes,clock,a3,a4,a5⟩:=k2
   refine⟨a1,hfm.trans a2,mes,clock,a3,by rw[hlen];exact a4,fun j kv v' hj=>?_⟩
   obtain⟨x,o,n,e,N,c,b1,b2,b3,b4,b5,b6,b7⟩:=hes j kv v' hj
   obtain⟨en,c1,c2,c3⟩:=a5 j kv _ b1
   refine⟨en,c1,c2,b7 _ _ _ ⟨fun h=>(by cases h),fun _=>?_⟩⟩
   obtain⟨q,cap',d1,d2,d3,d4⟩:=c3.2 omg
   obtain⟨_,g2⟩:=ok.rel.obj o q d1
   rw[b5] at g2
   have hpos:0<n*e:=Nat.mul_pos b3 b4
   obtain⟨cs,ty,f1,f2,f3,f4,_⟩:=g2 omg
   have hCo:C q.1:=⟨o,q,b2,d1,rfl,by rw[b5];exact dP omg⟩
   obtain⟨n2,c2',e1,e2⟩:=hcells o b2 (by rw[b5];exact dP omg)
   rw[b5] at e1
   cases e1
   refine⟨q.1,q.2.1,cap',d2,d3,fun h=>(by rcases h with h|h <;> cases h),fun i' j' hi' hj'=>?_⟩
   have hlt:i'*e+j'<N:=by
    have:(i'+1)*e<=n*e:=Nat.mul_le_mul_right _ hi'
    rw[Nat.add_mul] at this
    omega
   obtain⟨y,y1,y2,y3⟩:=f4 (i'*e+j') hlt
   refine⟨y,?_,y2,?_⟩
   ·unfold cB
    rw[hC _ hCo,f1]
    show cs[q.2.1+i'*e+j']? = some y
    rw[<-y1]
    congr 1
    omega
   ·have:=cC (k:=0) _ (BF hmono _ (BD Z) y3) (e2 _ hlt)
    simpa using this
  ·rw[hgo i hik him]
   have hb:=hot i hik him
   cases hx:ag s.hp i with
   |dead=>trivial
   |map a=>
    rw[hx] at k2
    exact dO k2 hmono rfl ((hkept i p hik hi' (by rw[hx];rfl)).trans k2.2.1)
   |mapo a=>
    rw[hx] at k2 hb
    have hf:=hkept i p hik hi' (by rw[hx];rfl)
    obtain⟨a1,a2,mes,clock,a3,a4,a5⟩:=k2
    exact⟨a1,hf.trans a2,mes,clock,a3,a4,fun j kv v hj=>let ⟨e,b1,b2,b3⟩:=a5 j kv v hj;⟨e,b1,b2,cC _ (BF hmono _ (BD Z) b3) (hb _ (List.mem_of_getElem? hj))⟩⟩
   |cells f n c=>
    rw[hx] at k2 hb
    intro hn
    have hf:=hkept i p hik hi' (by rw[hx];exact dP hn)
    obtain⟨cs,e,a1,a2,a3,a4,a5,a6⟩:=k2 hn
    exact⟨cs,e,a1,a2,a3,fun j hj=>let ⟨y,b1,b2,b3⟩:=a4 j hj;⟨y,b1,b2,cC _ (BF hmono _ (BD Z) b3) (hb j hj)⟩,fun h=>hf.trans (a5 h),fun h=>hf.trans (a6 h)⟩
 ·obtain⟨hik,hi'⟩:=hget i p hi
  obtain⟨hjk,hj'⟩:=hget j q hj
  have live:∀i,i<k->aJ (ag (aH (bm k s.hp) m (.map es')) i)=true->aJ (ag s.hp i)=true:=fun i hi h=>by
   by_cases him:i=m
   ·subst him;rw[hm];rfl
   ·rw[hgo i hi him] at h;exact h
  exact ok.rel.inj i j p q hi' hj' (live i hik hli) (live j hjk hlj) hpq
 ·exact qj (fr.mono hmono (BD _)) hfr
 ·have:=(List.getElem?_eq_some_iff.1 hi).1
  rw[List.getElem?_take,if_pos omg]
  exact hs i p hi
end
end Go.Avm
namespace Go.Avm
open Go
section
variable {P:Program}{R:Res}
def q6 (P:Program)(t es b:Nat):Bool:=match ej (ax P) t with
 |some p=>Nat.beq p.1 es&&(Nat.beq p.2.size es&&Nat.beq p.2.bytes b)
 |none=>false
theorem wN {o:Oper}{ev:Operand->AV}{hp hp':List AObj}{g:R.σ}{t es b ob n m N0:Nat}{k:Call}{s x:Operand}{y:Bool}{get0 get':Nat->AV}{new:Nat->Nat->AV}{ob1:List Prop}
  (ho:o.op=.call k) (hk:k.callee=.builtin .append) (ha:k.args=#[s,x]) (ht:k.argTypes=#[t,t]) (hs:ev s=.ow y ob n es) (hob:ag hp ob=.cells false N0 get0) (he:q6 P t es b=true)
  (hx:dm hp es (ev x)=some (m,new,ob1)) (h1:ap ob1) (hN:n*es<=N0) (hes:0<es) (hroom:(n+m)*b<=aC) (hroom2:n+m<=aC)
  (hg:∀c,c<(n+m)*es->get' c=aZ es n (fun i j=>get0 (i*es+j)) new c) (hh:hp'=aR (aH hp ob .dead) (.cells false ((n+m)*es) get')) :
  OpOk P R o ev hp g (.ow y hp.length (n+m) es) hp' g:=by
 subst hh
 unfold q6 at he
 split at he
 ·rename_i p hp0
  simp only[Bool.and_eq_true] at he
  obtain⟨e1,e2,e3⟩:=he
  have e1:=Nat.eq_of_beq_eq_true e1
  have e2:=Nat.eq_of_beq_eq_true e2
  have e3:=Nat.eq_of_beq_eq_true e3
  obtain⟨es',ei⟩:=p
  simp only at e1 e2 e3 hp0
  subst e1 e3
  have hs2:dm hp ei.size (ev s)=some (n,fun i j=>get0 (i*es'+j),[n*es'<=N0]):=by
   rw[e2,hs]
   show(bif Nat.beq es' es' then _ else _)=_
   rw[show Nat.beq es' es'=true by simp,hob]
   rfl
  refine qI (orc:=.obj get') (out:=⟨.ow y hp.length (n+m) es',aR (aH hp ob .dead) (.cells false ((n+m)*es') get'),gw ei (n+m) (ob1++[n*es'<=N0]++[∀c,c<(n+m)*es'->get' c=aZ es' n (fun i j=>get0 (i*es'+j)) new c]),.eff [ob,hp.length]⟩) ?_ ?_
  ·rw[ho]
   unfold dA
   have hr:cV (ax P) hp ev (.obj get') (.call k)=some ⟨.ow y hp.length (n+m) es',aR (aH hp ob .dead) (.cells false ((n+m)*es') get'),gw ei (n+m) (ob1++[n*es'<=N0]++[∀c,c<(n+m)*es'->get' c=aZ es' n (fun i j=>get0 (i*es'+j)) new c]),.eff [ob,hp.length]⟩:=by
    unfold cV
    simp only[hk,ha,ht]
    unfold i5
    simp only[show Nat.beq t t=true by simp,Bool.not_true,cond_false,hp0,hs2]
    rw[show dm hp ei.size (ev x)=some (m,new,ob1) by rw[e2];exact hx]
    simp only[hs,hob,ic,e2]
   rw[hr]
   rfl
  ·unfold gw
   refine ap.append.2 ⟨⟨by rw[e2];exact hes,hroom,hroom2,trivial⟩,ap.append.2 ⟨ap.append.2 ⟨h1,hN,trivial⟩,hg,trivial⟩⟩
 ·cases he
end
end Go.Avm
namespace Go.Avm
open Go
section
variable {P:Program}{R:Res}
theorem q7:∀{hp hp':List AObj},hp.length=hp'.length->(∀i,LeO (ag hp i) (ag hp' i))->leH hp hp'
 |[],[],_,_=>trivial
 |_::_,_::_,h,k=>⟨k 0,q7 (by simpa using h) (fun i=>k (i+1))⟩
 |[],_::_,h,_=>by simp at h
 |_::_,[],h,_=>by simp at h
def jP (f:Nat->Nat)(hp:List AObj):List Nat->List AObj->Prop
 |[],[]=>True
 |i::r,y::q=>LeO (bX f y) (ag hp i)/\jP f hp r q
 |_,_=>False
theorem nK {f:Nat->Nat}{hp':List AObj}:∀{ids:List Nat} {q hp:List AObj},hp.length=hp'.length->(∀i,i∈ids->i<hp.length)->(∀i,i∉ids->LeO (ag hp i) (ag hp' i))->jP f hp' ids q->leH (cw f ids q hp) hp'
 |[],[],hp,h1,_,h3,_=>by
  rw[cw,List.map_nil,List.append_nil]
  exact q7 h1 (fun i=>h3 i (by simp))
 |i::r,y::q,hp,h1,h2,h3,h4=>by
  rw[cw]
  refine nK (by rw[cP];exact h1) (fun x hx=>by rw[cP];exact h2 x (List.mem_cons_of_mem _ hx)) (fun x hx=>?_) h4.2
  by_cases hxi:i=x
  ·subst hxi
   rw[ek (h2 i List.mem_cons_self)]
   exact h4.1
  ·rw[cv hxi]
   exact h3 x (fun h=>(List.mem_cons.1 h).elim (fun e=>hxi e.symm) hx)
 |[],_::_,_,_,_,_,h=>h.elim
 |_::_,[],_,_,_,_,h=>h.elim
theorem nM:∀(ids:List Nat) (hp:List AObj) (i:Nat),i∉ids->ag (ca ids hp) i=ag hp i
 |[],_,_,_=>rfl
 |a::r,hp,i,h=>by
  rw[ca,nM r _ i (fun hx=>h (List.mem_cons_of_mem _ hx)),cv (fun e=>h (by rw[e];exact List.mem_cons_self))]
def nN (hp:List AObj):List Nat->Prop
 |[]=>True
 |i::r=>aJ (ag hp i)=true/\nN hp r
theorem q8 {hp hp':List AObj}{ids0:List Nat}(hs:SameO ids0 hp hp'):∀{ids:List Nat},(∀i,i∈ids->i∈ids0)->nN hp ids->bF ids hp'.length=true
 |[],_,_=>rfl
 |i::r,hi,h=>by
  unfold bF
  rw[Bool.and_eq_true]
  refine⟨?_,q8 hs (fun x hx=>hi x (List.mem_cons_of_mem _ hx)) h.2⟩
  rw[Nat.blt_eq]
  rcases Nat.lt_or_ge i hp'.length with hl|hl
  ·exact hl
  ·have h1:=h.1
   rw[<-hs.h i (hi i List.mem_cons_self),dB hl] at h1
   cases h1
theorem q9 {f:Nat->Nat}{hp hp':List AObj}{ids0:List Nat}(hs:SameO ids0 hp hp'):∀{ids:List Nat} {q:List AObj},(∀i,i∈ids->i∈ids0)->cZ f hp ids q->cZ f hp' ids q
 |[],[],_,h=>h
 |i::r,y::q,hi,h=>by
  refine⟨?_,q9 hs (fun x hx=>hi x (List.mem_cons_of_mem _ hx)) h.2⟩
  rw[hs.h i (hi i List.mem_cons_self)]
  exact h.1
 |[],_::_,_,h=>h.elim
 |_::_,[],_,h=>h.elim
theorem ra {f:Nat->Nat}{hp hp':List AObj}{ids0:List Nat}(hs:SameO ids0 hp hp'):∀{ids:List Nat} {q:List AObj},(∀i,i∈ids->i∈ids0)->jP f hp ids q->jP f hp' ids q
 |[],[],_,h=>h
 |i::r,y::q,hi,h=>by
  refine⟨?_,ra hs (fun x hx=>hi x (List.mem_cons_of_mem _ hx)) h.2⟩
  rw[hs.h i (hi i List.mem_cons_self)]
  exact h.1
 |[],_::_,_,h=>h.elim
 |_::_,[],_,h=>h.elim
theorem jQ {f:FuncId}{args args0:List AV}{hp hp0 hp0':List AObj}{v v0:AV}(ids:List Nat)(h:∀(R:Res) (g:R.σ),Does P R f args0 hp0 g (.ret v0) hp0' g)(hlv:nN hp ids)(hnd:cK ids=true)
  (hob:∀n,cZ (ar ids n) hp ids hp0) (hlive:dE hp0) (e1:∀n,leL args (args0.map (aK (ar ids n)))) (hl:hp0'.length-ids.length=0)
  (e2:∀n,Le (aK (ar (ids++rng 0 n) (n+0)) v0) v) (e3:∀n,jP (ar (ids++rng 0 n) (n+0)) hp ids hp0') :
  ∀(hp':List AObj) (g':R.σ),SameO ids hp hp'->Does P R f args hp' g' (.ret v) hp' g':=by
 intro hp' g' hs
 have hlt:=q8 hs (fun _ h=>h) hlv
 refine eI ids hp'.length h rfl hlt hnd (q9 hs (fun _ h=>h) (hob _)) hlive (e1 _) ?_ ?_
 ·rw[hl]
  exact e2 _
 ·rw[hl]
  refine nK (by rw[jD]) (fun i hi=>by rw[jD];exact iB hlt i hi) (fun i hi=>by rw[nM _ _ _ hi];exact Bv _) (ra hs (fun _ h=>h) (e3 _))
end
end Go.Avm
namespace Go.Avm
open Go
section
variable {P:Program}{R:Res}
def ay (hp:List AObj)(k m:Nat)(v v':AV):Prop:=∀(FM FM':Mem) (Z:Plc) (w:World),HRel FM Z hp w->(∀b o,FM b=some o->FM' b=some o) ->
 (∀i p,k<=i->Z[i]? = some p->aJ (ag hp i)=true->FM' p.1=w.heap[p.1]?)->∀u,Den FM Z v u->Den FM' (Z.take m) v' u
theorem Bz {hp:List AObj}{k m:Nat}{v:AV}(h:Below m v):ay hp k m v v:=fun _ _ Z _ _ hm _ _ hd=>cC _ (BF hm _ (BD Z) hd) h
theorem ay.le {hp:List AObj}{k m:Nat}{v v' v'':AV}(h:ay hp k m v v')(hl:Le v' v''):ay hp k m v v'':=fun FM FM' Z w h1 h2 h3 u hu=>hl _ _ _ (h FM FM' Z w h1 h2 h3 u hu)
theorem ay.tup {hp:List AObj}{k m n:Nat}{f f':Nat->AV}(h:∀j,j<n->ay hp k m (f j) (f' j)):ay hp k m (.tup n f) (.tup n f'):=by
 rintro FM FM' Z w h1 h2 h3 u ⟨cs,e1,e2,e3⟩
 exact⟨cs,e1,e2,fun j hj=>h j hj FM FM' Z w h1 h2 h3 _ (e3 j hj)⟩
theorem ay.agg {hp:List AObj}{k m n:Nat}{f f':Nat->AV}(h:∀j,j<n->ay hp k m (f j) (f' j)):ay hp k m (.agg n f) (.agg n f'):=by
 rintro FM FM' Z w h1 h2 h3 u ⟨cs,e1,e2,e3⟩
 exact⟨cs,e1,e2,fun j hj=>⟨(e3 j hj).1,h j hj FM FM' Z w h1 h2 h3 _ (e3 j hj).2⟩⟩
theorem nO {n:Nat}{fr:Bool}{c:Nat->AV}(h:0<n):aJ (.cells fr n c)=true:=by simpa[aJ] using h
theorem rb {hp:List AObj}{k o N:Nat}{c get:Nat->AV}{fr:Bool}(ho:ag hp o=.cells fr N c)(hk:k<=o)(hc:∀j,j<N->ay hp k 0 (c j) (get j)){FM FM':Mem}{Z:Plc}{w:World}(h1:HRel FM Z hp w)(h2:∀b o,FM b=some o->FM' b=some o)
  (h3:∀i p,k<=i->Z[i]? = some p->aJ (ag hp i)=true->FM' p.1=w.heap[p.1]?) {q:Nat × Nat × Nat} (hq:Z[o]? = some q) {j:Nat} (hj:j<N):∃x,cB FM' q.1 (q.2.1+j)=some x/\x.oneCell'=true/\Den FM' [] (get j) x:=by
 obtain⟨_,g2⟩:=h1.obj o q hq
 rw[ho] at g2
 obtain⟨cs,ty,f1,f2,f3,f4,_⟩:=g2 omg
 obtain⟨y,y1,y2,y3⟩:=f4 j hj
 have hFM:=h3 o q hk hq (by rw[ho];exact nO omg)
 refine⟨y,?_,y2,?_⟩
 ·unfold cB
  rw[hFM,f1]
  exact y1
 ·have:=hc j hj FM FM' Z w h1 h2 h3 y y3
  simpa using this
theorem ay.ow {hp:List AObj}{k m o n e N:Nat}{x:Bool}{c get:Nat->AV}{fr:Bool}(ho:ag hp o=.cells fr N c)(hk:k<=o)(hN:n*e<=N)(he:0<e)(hc:∀j,j<N->ay hp k 0 (c j) (get j)):ay hp k m (.ow x o n e) (.fz (bif x then .auto else .may) e n (fun i j=>get (i*e+j))):=by
 rintro FM FM' Z w h1 h2 h3 u ⟨d1,d2⟩
 have hcell:∀(q:Nat × Nat × Nat),Z[o]? = some q->∀i j,i<n->j<e->∃y,cB FM' q.1 (q.2.1+i*e+j)=some y/\y.oneCell'=true/\Den FM' [] (get (i*e+j)) y:=fun q hq i j hi hj=>by
  have:(i+1)*e<=n*e:=Nat.mul_le_mul_right _ hi
  rw[Nat.add_mul] at this
  have:=rb ho hk hc h1 h2 h3 hq (j:=i*e+j) omg
  rwa [<-Nat.add_assoc] at this
 by_cases hn:n=0
 ·obtain⟨a,rfl,ha⟩:=d1 hn
  subst hn
  cases x with
  |true=>exact⟨fun _=>⟨rfl,a,0,rfl,ha rfl,rfl⟩,fun h=>by cases h⟩
  |false=>exact⟨fun _=>⟨rfl,a,0,rfl,fun _=>rfl⟩,fun h=>by cases h⟩
 ·obtain⟨q,cap',hq,rfl,b2,b3⟩:=d2 hn
  cases x with
  |true=>exact⟨fun h=>absurd (Nat.eq_of_beq_eq_true h) hn,fun _=>⟨q.1,q.2.1,cap',rfl,b2,fun h=>(by rcases h with h|h <;> cases h),hcell q hq⟩⟩
  |false=>exact⟨fun h=>absurd (Nat.eq_of_beq_eq_true h) hn,fun _=>⟨q.1,q.2.1,cap',rfl,b2,fun h=>(by rcases h with h|h <;> cases h),hcell q hq⟩⟩
theorem ay.sl {hp:List AObj}{k m o off n cap e N:Nat}{ex:Bool}{c get:Nat->AV}{fr:Bool}(ho:ag hp o=.cells fr N c)(hk:k<=o)(hN:off+n*e<=N)(hcap:n<=cap)(he:0<e)(hc:∀j,j<N->ay hp k 0 (c j) (get j)):ay hp k m (.sl o off n cap ex e) (.fz .opn e n (fun i j=>get (off+i*e+j))):=by
 rintro FM FM' Z w h1 h2 h3 u ⟨q,cap',hq,rfl,b2,_,b3⟩
 refine⟨fun h=>(by cases h),fun _=>⟨q.1,q.2.1+off,cap',rfl,omg,fun h=>(by rcases h with h|h <;> cases h),fun i j hi hj=>?_⟩⟩
 have:(i+1)*e<=n*e:=Nat.mul_le_mul_right _ hi
 rw[Nat.add_mul] at this
 have:=rb ho hk hc h1 h2 h3 hq (j:=off+i*e+j) omg
 rwa [show q.2.1+(off+i*e+j)=q.2.1+off+i*e+j by omega] at this
def lm (hp:List AObj)(k:Nat)(fr:List (Nat × AV)):List (Nat × AV)->Prop
 |[]=>True
 |(t,v)::r=>ay hp k k (lk fr t) v/\lm hp k fr r
theorem nP {hp:List AObj}{k:Nat}{fr:List (Nat × AV)}{FM FM':Mem}{Z:Plc}{w:World}(h1:HRel FM Z hp w)(h2:∀b o,FM b=some o->FM' b=some o)
  (h3:∀i p,k<=i->Z[i]? = some p->aJ (ag hp i)=true->FM' p.1=w.heap[p.1]?) {vals:Nat->Value} (hv:cD FM Z fr vals):∀{fr':List (Nat × AV)},lm hp k fr fr'->cD FM' (Z.take k) fr' vals
 |[],_=>fun _=>trivial
 |(t,v)::r,h=>fun s=>by
  show Den FM' (Z.take k) (bif Nat.beq s t then v else lk r s) (vals s)
  cases hb:Nat.beq s t with
  |true=>
   have:=Nat.eq_of_beq_eq_true hb
   subst this
   exact h.1 FM FM' Z w h1 h2 h3 _ (hv s)
  |false=>exact nP h1 h2 h3 hv h.2 s
theorem jS {k0:Nat}{s:St R.σ}(k:Nat)(fr':List (Nat × AV))(hk:k0<=k)(hml:k<=s.hp.length)(hot:∀i,i<k->jO k (ag s.hp i))(hfr:lm s.hp k s.fr fr'):To R k0 s ⟨fr',bm k s.hp,s.g⟩:=by
 classical
 intro Z0 FM Z w vals h0 hs okw fr
 let C:Nat->Prop:=fun b=>∃i p,k<=i/\Z[i]? = some p/\p.1=b/\aJ (ag s.hp i)=true
 let FM':Mem:=fun b=>if C b then w.heap[b]? else FM b
 have hC:∀b,C b->FM' b=w.heap[b]?:= fun b h=>if_pos h
 have hN:∀b,¬C b->FM' b=FM b:=fun b h=>if_neg h
 have hin:∀b,C b->InB Z b:=fun b ⟨i,p,_,h2,h3,h4⟩=>⟨p,bp h2,h3,(okw.rel.real h2 h4).1⟩
 have hmono:∀b o,FM b=some o->FM' b=some o:=fun b o h=>by
  by_cases hc:C b
  ·rw[hC b hc];exact okw.rel.fm b o h
  ·rw[hN b hc];exact h
 have hsound:∀b o,FM' b=some o->w.heap[b]? = some o:=fun b o h=>by
  by_cases hc:C b
  ·rw[hC b hc] at h;exact h
  ·rw[hN b hc] at h;exact okw.rel.fm b o h
 have hgrow:∀b o,FM' b=some o->FM b=some o∨InB Z b:=fun b o h=>by
  by_cases hc:C b
  ·exact .inr (hin b hc)
  ·rw[hN b hc] at h;exact .inl h
 have hkept:∀(i:Nat) (p:Nat × Nat × Nat),i<k->Z[i]? = some p->aJ (ag s.hp i)=true->FM' p.1=FM p.1:=fun i p hi hp hl=>hN _ (fun ⟨j,q,h1,h2,h3,h4⟩=>by
  have:=okw.rel.inj i j p q hp h2 hl h4 h3.symm
  omega)
 have hkeep:Keep (R.B s.g) FM w FM' w:=⟨hmono,fun b hb=>hN b (fun hc=>(okw.bd b hb).2 (hin b hc)),hsound,fun _ _=>rfl,Nat.le_refl _,rfl,rfl,rfl⟩
 have hget:∀(i:Nat) (p:Nat × Nat × Nat),(Z.take k)[i]? = some p->i<k/\Z[i]? = some p:=fun i p h=>by
  rw[List.getElem?_take] at h
  split at h
  ·rename_i hi;exact⟨hi,h⟩
  ·cases h
 have h3:∀i p,k<=i->Z[i]? = some p->aJ (ag s.hp i)=true->FM' p.1=w.heap[p.1]?:= fun i p h1 h2 h4=>hC _ ⟨i,p,h1,h2,rfl,h4⟩
 have hgo:∀i,i<k->ag (bm k s.hp) i=ag s.hp i:=fun i hi=>by rw[gG,if_pos hi]
 have hinT:∀b,InB (Z.take k) b->InB Z b:=fun b ⟨p,hp,hb⟩=>⟨p,List.mem_of_mem_take hp,hb⟩
 refine⟨FM',Z.take k,⟨⟨hsound,by show _=(bm k s.hp).length;rw[m0,List.length_take,okw.rel.len],fun i p hi=>?_,fun i j p q hi hj hli hlj hpq=>?_⟩,R.st okw.j hkeep,fun b hb=>⟨(okw.bd b hb).1,fun h=>(okw.bd b hb).2 (hinT b h)⟩⟩,nP okw.rel hmono h3 fr hfr,fun i p hi=>?_,hmono,hgrow,hinT,rfl⟩
 ·obtain⟨hik,hi'⟩:=hget i p hi
  obtain⟨k1,k2⟩:=okw.rel.obj i p hi'
  refine⟨k1,?_⟩
  show cu FM' (Z.take k) p w (ag (bm k s.hp) i)
  rw[hgo i hik]
  have hb:=hot i hik
  cases hx:ag s.hp i with
  |dead=>trivial
  |map a=>
   rw[hx] at k2
   exact dO k2 hmono rfl ((hkept i p hik hi' (by rw[hx];rfl)).trans k2.2.1)
  |mapo a=>
   rw[hx] at k2 hb
   have hf:=hkept i p hik hi' (by rw[hx];rfl)
   obtain⟨a1,a2,mes,clock,a3,a4,a5⟩:=k2
   exact⟨a1,hf.trans a2,mes,clock,a3,a4,fun j kv v hj=>let ⟨e,b1,b2,b3⟩:=a5 j kv v hj;⟨e,b1,b2,cC _ (BF hmono _ (BD Z) b3) (hb _ (List.mem_of_getElem? hj))⟩⟩
  |cells f n c=>
   rw[hx] at k2 hb
   intro hn
   have hf:=hkept i p hik hi' (by rw[hx];exact nO hn)
   obtain⟨cs,e,a1,a2,a3,a4,a5,a6⟩:=k2 hn
   exact⟨cs,e,a1,a2,a3,fun j hj=>let ⟨y,b1,b2,b3⟩:=a4 j hj;⟨y,b1,b2,cC _ (BF hmono _ (BD Z) b3) (hb j hj)⟩,fun h=>hf.trans (a5 h),fun h=>hf.trans (a6 h)⟩
 ·obtain⟨hik,hi'⟩:=hget i p hi
  obtain⟨hjk,hj'⟩:=hget j q hj
  have e1:ag (bm k s.hp) i=ag s.hp i:=hgo i hik
  have e2:ag (bm k s.hp) j=ag s.hp j:=hgo j hjk
  exact okw.rel.inj i j p q hi' hj' (by rw[<-e1];exact hli) (by rw[<-e2];exact hlj) hpq
 ·have hil:i<k0:=by rw[<-h0];exact(List.getElem?_eq_some_iff.1 hi).1
  rw[List.getElem?_take,if_pos omg]
  exact hs i p hi
def FzO (hp:List AObj)(k:Nat):AObj->AObj->Prop
 |_,.dead=>True
 |.cells f n c,.cells f' n' c'=>f=f'/\n=n'/\∀j,j<n->ay hp k k (c j) (c' j)
 |.map a,.map b=>a=b
 |.mapo a,.mapo b=>a=b/\∀e,e∈a->Below k e.2
 |_,_=>False
theorem FzO.live {hp:List AObj}{k:Nat}{x y:AObj}(h:FzO hp k x y)(hy:aJ y=true):aJ x=true:=by
 cases x <;> cases y <;> first|(cases hy;done)|exact h.elim|rfl|skip
 obtain⟨_,rfl,_⟩:=h
 exact hy
theorem nQ {k0:Nat}{s:St R.σ}(k:Nat)(fr':List (Nat × AV))(hp':List AObj)(hk:k0<=k)(hml:k<=s.hp.length)(hlen:hp'.length=k)(hot:∀i,i<k->FzO s.hp k (ag s.hp i) (ag hp' i))(hfr:lm s.hp k s.fr fr'):To R k0 s ⟨fr',hp',s.g⟩:=by
 classical
 intro Z0 FM Z w vals h0 hs okw fr
 let C:Nat->Prop:=fun b=>∃i p,k<=i/\Z[i]? = some p/\p.1=b/\aJ (ag s.hp i)=true
 let FM':Mem:=fun b=>if C b then w.heap[b]? else FM b
 have hC:∀b,C b->FM' b=w.heap[b]?:= fun b h=>if_pos h
 have hN:∀b,¬C b->FM' b=FM b:=fun b h=>if_neg h
 have hin:∀b,C b->InB Z b:=fun b ⟨i,p,_,h2,h3,h4⟩=>⟨p,bp h2,h3,(okw.rel.real h2 h4).1⟩
 have hmono:∀b o,FM b=some o->FM' b=some o:=fun b o h=>by
  by_cases hc:C b
  ·rw[hC b hc];exact okw.rel.fm b o h
  ·rw[hN b hc];exact h
 have hsound:∀b o,FM' b=some o->w.heap[b]? = some o:=fun b o h=>by
  by_cases hc:C b
  ·rw[hC b hc] at h;exact h
  ·rw[hN b hc] at h;exact okw.rel.fm b o h
 have hgrow:∀b o,FM' b=some o->FM b=some o∨InB Z b:=fun b o h=>by
  by_cases hc:C b
  ·exact .inr (hin b hc)
  ·rw[hN b hc] at h;exact .inl h
 have hkept:∀(i:Nat) (p:Nat × Nat × Nat),i<k->Z[i]? = some p->aJ (ag s.hp i)=true->FM' p.1=FM p.1:=fun i p hi hp hl=>hN _ (fun ⟨j,q,h1,h2,h3,h4⟩=>by
  have:=okw.rel.inj i j p q hp h2 hl h4 h3.symm
  omega)
 have hkeep:Keep (R.B s.g) FM w FM' w:=⟨hmono,fun b hb=>hN b (fun hc=>(okw.bd b hb).2 (hin b hc)),hsound,fun _ _=>rfl,Nat.le_refl _,rfl,rfl,rfl⟩
 have hget:∀(i:Nat) (p:Nat × Nat × Nat),(Z.take k)[i]? = some p->i<k/\Z[i]? = some p:=fun i p h=>by
  rw[List.getElem?_take] at h
  split at h
  ·rename_i hi;exact⟨hi,h⟩
  ·cases h
 have h3:∀i p,k<=i->Z[i]? = some p->aJ (ag s.hp i)=true->FM' p.1=w.heap[p.1]?:= fun i p h1 h2 h4=>hC _ ⟨i,p,h1,h2,rfl,h4⟩
 have hinT:∀b,InB (Z.take k) b->InB Z b:=fun b ⟨p,hp,hb⟩=>⟨p,List.mem_of_mem_take hp,hb⟩
 refine⟨FM',Z.take k,⟨⟨hsound,by show _=hp'.length;rw[hlen,List.length_take,okw.rel.len];omega,fun i p hi=>?_,fun i j p q hi hj hli hlj hpq=>?_⟩,R.st okw.j hkeep,fun b hb=>⟨(okw.bd b hb).1,fun h=>(okw.bd b hb).2 (hinT b h)⟩⟩,nP okw.rel hmono h3 fr hfr,fun i p hi=>?_,hmono,hgrow,hinT,rfl⟩
 ·obtain⟨hik,hi'⟩:=hget i p hi
  obtain⟨k1,k2⟩:=okw.rel.obj i p hi'
  refine⟨k1,?_⟩
  show cu FM' (Z.take k) p w (ag hp' i)
  have hb:=hot i hik
  cases hy:ag hp' i with
  |dead=>trivial
  |map b=>
   rw[hy] at hb
   cases hx:ag s.hp i with
   |map a=>
    rw[hx] at k2 hb
    have hb:a=b:=hb
    subst hb
    exact dO k2 hmono rfl ((hkept i p hik hi' (by rw[hx];rfl)).trans k2.2.1)
   |dead=>rw[hx] at hb;exact hb.elim
   |mapo a=>rw[hx] at hb;exact hb.elim
   |cells f n c=>rw[hx] at hb;exact hb.elim
  |mapo b=>
   rw[hy] at hb
   cases hx:ag s.hp i with
   |mapo a=>
    rw[hx] at k2 hb
    obtain⟨rfl,hb⟩:a=b/\∀e,e∈a->Below k e.2:=hb
    have hf:=hkept i p hik hi' (by rw[hx];rfl)
    obtain⟨a1,a2,mes,clock,a3,a4,a5⟩:=k2
    exact⟨a1,hf.trans a2,mes,clock,a3,a4,fun j kv v hj=>let ⟨e,b1,b2,b3⟩:=a5 j kv v hj;⟨e,b1,b2,cC _ (BF hmono _ (BD Z) b3) (hb _ (List.mem_of_getElem? hj))⟩⟩
   |dead=>rw[hx] at hb;exact hb.elim
   |map a=>rw[hx] at hb;exact hb.elim
   |cells f n c=>rw[hx] at hb;exact hb.elim
  |cells f' n' c'=>
   rw[hy] at hb
   cases hx:ag s.hp i with
   |cells f n c=>
    rw[hx] at k2 hb
    obtain⟨rfl,rfl,hb⟩:f=f'/\n=n'/\∀j,j<n->ay s.hp k k (c j) (c' j):=hb
    intro hn
    have hf:=hkept i p hik hi' (by rw[hx];exact nO hn)
    obtain⟨cs,e,a1,a2,a3,a4,a5,a6⟩:=k2 hn
    exact⟨cs,e,a1,a2,a3,fun j hj=>let ⟨y,b1,b2,b3⟩:=a4 j hj;⟨y,b1,b2,hb j hj FM FM' Z w okw.rel hmono h3 y b3⟩,fun h=>hf.trans (a5 h),fun h=>hf.trans (a6 h)⟩
   |dead=>rw[hx] at hb;exact hb.elim
   |map a=>rw[hx] at hb;exact hb.elim
   |mapo a=>rw[hx] at hb;exact hb.elim
 ·obtain⟨hik,hi'⟩:=hget i p hi
  obtain⟨hjk,hj'⟩:=hget j q hj
  exact okw.rel.inj i j p q hi' hj' ((hot i hik).live hli) ((hot j hjk).live hlj) hpq
 ·have hil:i<k0:=by rw[<-h0];exact(List.getElem?_eq_some_iff.1 hi).1
  rw[List.getElem?_take,if_pos omg]
  exact hs i p hi
end
end Go.Avm
namespace Go.Avm
open Go
section
variable {P:Program}{R:Res}
def rc (P:Program)(t:Nat):Bool:=match ax P t with
 |some ti=>Nat.beq ti.size 0
 |none=>false
theorem wO {o:Oper}{ev:Operand->AV}{hp:List AObj}{g:R.σ}{t:TypeId}{p y:Operand}{b off:Nat}{f:Nat->AV}(ho:o.op=.store t p y)(hp0:ev p=.ref b off)(hy:ev y=.agg 0 f)(hs:rc P t=true) :
  OpOk P R o ev hp g .any hp g:=by
 refine⟨fun FM Z w evc ok hop=>?_⟩
 have h1:=hop p (by simp[ho,Op.operands])
 have h2:=hop y (by simp[ho,Op.operands])
 rw[hp0] at h1
 rw[hy] at h2
 obtain⟨q,hq,hpv⟩:=h1
 unfold rc at hs
 split at hs
 ·rename_i ti hti
  have hz:=Nat.eq_of_beq_eq_true hs
  have hsz:=cW (bg hti) w
  rw[hz] at hsz
  obtain⟨cs,hc,hn,_⟩:=h2
  have hcs:cs=#[]:=Array.eq_empty_of_size_eq_zero hn
  subst hcs
  have hrun:(Instr.storeAt t (evc p) (evc y)).run P w=.ok () w:=by
   unfold Instr.storeAt storeVar
   simp[hpv,hc,Instr.sureAddr,hsz,Value.cells,storeCells]
  refine⟨.skip,w,FM,Z,undef,?_,rfl,trivial,ok,BA _ _ _ _ _⟩
  simp[execOp,ho,hrun]
 ·cases hs
end
end Go.Avm
namespace Go.Avm
open Go
section
variable {P:Program}{R:Res}
theorem Goes.put {g g':R.σ}{FM FM':Mem}{Z Z':Plc}{w w':World}(h:Goes R g FM Z w g' FM' Z' w'){X:Nat}(hX:w.heap.size<=X)(o:Obj):Goes R g FM Z w g' FM' Z' (w'.putObj X o):=
 ⟨⟨h.ext.fm,h.ext.grow,h.ext.blk,fun b h1 h2 h3=>(World.putObj_heap_other omg).trans (h.ext.keep b h1 h2 h3),by simpa using h.ext.size,h.ext.os,h.ext.tape,h.ext.output⟩,h.bn,h.sub⟩
theorem Nb.put {X:Nat}{g:R.σ}{FM:Mem}{Z:Plc}{w:World}(h:Nb R X g FM Z w)(Y:Nat)(o:Obj):Nb R X g FM Z (w.putObj Y o):=⟨by simpa using h.lt,h.off,h.offB,h.nofm⟩
theorem wP {hp:List AObj}{g:R.σ}{FM:Mem}{Z:Plc}{w w':World}(ok:Ok R hp g FM Z w)(h:w.grownBy w' none):Ok R hp g FM Z w'/\Goes R g FM Z w g FM Z w':=by
 obtain⟨h1,h2,h3,h4,h5⟩:=h
 have keep:∀b,b<w.heap.size->w'.heap[b]? = w.heap[b]?:= fun b hb=>h5 b hb (fun e=>by cases e)
 refine e7 ok ⟨fun b o hb=>?_,ok.rel.len,fun i p hi=>?_,ok.rel.inj⟩ ⟨fun _ _ h=>h,fun _ _ h=>.inl h,fun _ h=>.inl h,fun b hb _ _=>keep b hb,h4,h1,h2,h3⟩ (BD _)
 ·have:=ok.rel.fm b o hb
  exact(keep b (Array.getElem?_eq_some_iff.1 this).1).trans this
 ·obtain⟨k1,k2⟩:=ok.rel.obj i p hi
  exact⟨fun hr=>Nat.lt_of_lt_of_le (k1 hr) h4,k2.mono (BD _) (fun hl=>keep _ (k1 (ok.rel.real hi hl).1))⟩
def jT (pok:Prop)(Q:AEx->St R.σ->Prop):AEx->St R.σ->Prop
 |.normal,_=>False
 |.pan x,s=>pok/\Q (.pan x) s
 |e,s=>Q e s
def re:AEx->Option Code
 |.ret=>some .ret
 |.exit id=>some (.exit id)
 |_=>none
def ln (R:Res)(C:Cx R)(D L:Nat)(rec:LoopState->Option Code->Loop)(Q:AEx->St R.σ->Prop)(e:Ending)(W:World):Prop:=
 (∃ex j s3 FM3 Z3,e=.returned (.bool false)/\re ex=some j/\Q ex s3/\Ok R s3.hp s3.g FM3 Z3 W/\Goes R C.g C.FM C.Z C.w s3.g FM3 Z3 W /\
  W.heap[D]? = some (.deferred (some []))/\W.heap[L]? = some (.loop (rec .done (some j)))/\Nb R D s3.g FM3 Z3 W/\Nb R L s3.g FM3 Z3 W) ∨
 (∃x v s3 FM3 Z3,e=.panicked [{ v,recovered:=false }]/\Den FM3 Z3 x v/\Q (.pan x) s3/\Ok R s3.hp s3.g FM3 Z3 W/\Goes R C.g C.FM C.Z C.w s3.g FM3 Z3 W /\
  W.heap[D]? = some (.deferred (some []))/\Nb R D s3.g FM3 Z3 W)
def wQ (P:Program)(l:Nat)(f:FuncId)(R:Ending->World->Prop):Exit->Act->World->Prop
 |.panic chain,a,w=>(P.funcs[f]?).isSome=true/\a.defers=[]/\R (.panicked chain) w
 |e,a,w=>roundPost P l R e a w
theorem wR {F:Fence}{n l:Nat}{f:FuncId}{tmps:Array Value}{assign body:Code}{w:World}{R:Ending->World->Prop}(hF:F.fn f)
  (h:assign.wpIn (F.inRound l) n P (Exit.then (fun a₁ w₁=>∃w₂,(Instr.beginRound l).run P w₁=.ok () w₂/\body.wpIn (F.inRound l) n P (wQ P l f R) a₁ w₂) (fun _ _ _=>False)) { tmps,defers:=[] } w) :
  RoundIn F n P l f tmps assign body w R:=by
 refine⟨hF,fun c cs hr=>?_⟩
 let b:Frame:={ (default:Frame) with fn:=f,kind:=.normal,roundOf:=some l }
 have hb0:Frame.round l f tmps assign body .normal=b.atR { tmps:=tmps,defers:=[] } [.code assign,.beginRound,.code body]:=by simp[Frame.round,Frame.atR,b]
 have hr':(F.inRound l).room ((c::cs).length+1+n):=hr
 have hF':(F.inRound l).fn b.fn:=hF
 obtain⟨e,a₁,w₁,hq,harr⟩:=h b [.beginRound,.code body] (c::cs) rfl hF' hr'
 rw[<-hb0] at harr
 cases e with
 |normal=>
  obtain⟨w₂,hbr,hbody⟩:=hq
  have s1:=StepsIn.trans harr (.one (fenced_calm (fr:=b.atR a₁ [.beginRound,.code body]) hF' hr' rfl) (stepR_beginRound rfl hbr))
  obtain⟨e₂,a₂,w₃,hq₂,harr₂⟩:=hbody b [] (c::cs) rfl hF' hr'
  cases e₂ with
  |normal=>
   obtain⟨v,w₄,hend,hR⟩:=hq₂
   exact⟨.returned v,w₄,hR,StepsIn.trans s1 (StepsIn.trans harr₂ (.one (fenced_calm (fr:=b.atR a₂ []) hF' hr' rfl) (stepR_round_end rfl rfl hend)))⟩
  |ret=>
   obtain⟨v,w₄,hend,hR⟩:=hq₂
   obtain⟨k₁,hs⟩:=harr₂.2 rfl
   exact⟨.returned v,w₄,hR,StepsIn.trans s1 (StepsIn.trans hs (.one (fenced_calm (fr:=b.atR a₂ (.code .ret::k₁)) hF' hr' rfl) (stepR_round_ret rfl rfl hend)))⟩
  |exit id=>
   obtain⟨v,w₄,hend,hR⟩:=hq₂
   obtain⟨k₁,hk,hs⟩:=harr₂.2 rfl rfl
   exact⟨.returned v,w₄,hR,StepsIn.trans s1 (StepsIn.trans hs (.one (fenced_calm (fr:=b.atR a₂ (.code (.exit id)::k₁)) hF' hr' rfl) (stepR_round_exit rfl rfl hk hend)))⟩
  |goto t=>
   obtain⟨v,w₄,hend,hR⟩:=hq₂
   obtain⟨k₁,hk,hs⟩:=harr₂.2 rfl rfl
   exact⟨.returned v,w₄,hR,StepsIn.trans s1 (StepsIn.trans hs (.one (fenced_calm (fr:=b.atR a₂ (.code (.goto t)::k₁)) hF' hr' rfl) (stepR_round_goto rfl rfl hk hend)))⟩
  |panic chain=>
   obtain⟨hsome,hdef,hR⟩:=hq₂
   obtain⟨todo,hs⟩:=harr₂
   obtain⟨fn,hfn⟩:=Option.isSome_iff_exists.1 hsome
   have hl:({ b.atR a₂ todo with mode:=.panicking chain }:Frame).leaving P w₃ (.panicked chain):=⟨rfl,hdef,fn,hfn⟩
   exact⟨.panicked chain,w₃,hR,StepsIn.trans s1 (StepsIn.trans hs (.one (fenced_leaving hF' hr' hl) (step_leave_panicked hl)))⟩
  |outgrown=>exact hq₂.elim
 |exit id=>exact hq.elim
 |goto t=>exact hq.elim
 |ret=>exact hq.elim
 |panic chain=>exact hq.elim
 |outgrown=>exact hq.elim
theorem wS {nt D L:Nat}{fn:FuncId}{tmps:Array Value}{ps:Array Tmp}{assign body:Code}{rec:LoopState->Option Code->Loop}
  (hrec:rec=fun st pe=>{ state:=st,pending:=pe,fn,tmps,params:=ps,assign,body,defers:=D }) {C:Cx R} (hDn:C.w.heap.size<=D) (hLn:C.w.heap.size<=L) (hne:D≠L)
  {FM:Mem} {Z:Plc} {w:World} {hp:List AObj} {g:R.σ} (ok:Ok R hp g FM Z w) (hb:Goes R C.g C.FM C.Z C.w g FM Z w) (hD:w.heap[D]? = some (.deferred (some []))) (hL:w.heap[L]? = some (.loop (rec .ready none))) (nD:Nb R D g FM Z w) (nL:Nb R L g FM Z w)
  {fr:List (Nat × AV)} (hsz:tmps.size=nt) (hfr:∀t,Den FM Z (lk fr t) (tmps.getD t undef)) {items:List AV} {vs:Array Value} (hvs:bQ FM Z items vs) (hlen:items.length=ps.toList.length) (hlt:bF ps.toList nt=true)
  {Q:AEx->St R.σ->Prop} (hround:wpA P R nt hp.length (.inr L) assign (fun e s1=>e=.normal/\wpA P R nt s1.hp.length (.inr L) body (jT ((P.funcs[fn]?).isSome=true) Q) s1) ⟨cL ps.toList items fr,hp,g⟩) :
  ∃fn tmps assign body,(Instr.yield L vs).run P w=.ok (.round L fn tmps assign body) w/\∀(r:Rd) (n:Nat),RoundIn (Fw r) n P L fn tmps assign body w (ln R C D L rec Q):=by
 have hvsz:vs.size=ps.size:=by rw[hvs.1,hlen];simp
 have hrun:=run_yield (P:=P) hL (args:=vs) (by rw[hrec];exact hvsz)
 rw[hrec] at hrun
 refine⟨_,_,_,_,hrun,fun r n=>wR trivial ?_⟩
 have hzip:(ps.zip vs).foldl (fun tmps (x:Tmp × Value)=>tmps.setIfInBounds x.1 x.2) tmps=(ps.toList.zip vs.toList).foldl (fun tmps (p:Nat × Value)=>tmps.setIfInBounds p.1 p.2) tmps:=by
  rw[<-Array.foldl_toList,Array.toList_zip]
 have hset:=nq (FM:=FM) (Z:=Z) ps.toList items vs.toList fr tmps hsz hlt hlen (by simpa using hvsz) (fun i hi=>by
  have h3:=hvs.2 i hi
  rw[Array.getD_eq_getD_getElem?] at h3
  rw[List.getD_eq_getElem?_getD,Array.getElem?_toList]
  exact h3) hfr
 let C1:Cx R:=⟨g,FM,Z,w,[],false⟩
 have hsat:Sat R C1 nt ⟨cL ps.toList items fr,hp,g⟩ FM Z { tmps:=(ps.zip vs).foldl (fun tmps (x:Tmp × Value)=>tmps.setIfInBounds x.1 x.2) tmps,defers:=[] } w:=by
  refine⟨ok,BA _ _ _ _ _,?_,.start,fun t=>?_⟩
  ·show Array.size _=nt
   rw[hzip];exact hset.1
  ·show Den FM Z _ (Array.getD _ _ _)
   rw[hzip];exact hset.2 t
 refine wpIn_mono (hround C1 ⟨ok.rel.len,rfl⟩ n _ w ⟨FM,Z,hsat⟩) (fun e a1 w1 hpost=>?_)
 have post:∃s1 FM1 Z1,e=.normal/\(wpA P R nt s1.hp.length (.inr L) body (jT ((P.funcs[fn]?).isSome=true) Q) s1)/\Sat R C1 nt s1 FM1 Z1 a1 w1:=by
  cases e with
  |normal=>obtain⟨s,⟨_,h1⟩,FM1,Z1,h2⟩:=hpost;exact⟨s,FM1,Z1,rfl,h1,h2⟩
  |exit id=>obtain⟨s,⟨h1,_⟩,_⟩:=hpost;cases h1
  |ret=>obtain⟨s,⟨h1,_⟩,_⟩:=hpost;cases h1
  |panic ch=>obtain⟨s,x,v,FM1,Z1,⟨h1,_⟩,_⟩:=hpost;cases h1
  |goto l=>exact hpost.elim
  |outgrown=>exact hpost.elim
 obtain⟨s1,FM1,Z1,rfl,hbody,hs1⟩:=post
 obtain⟨nL1,eL1⟩:=nL.goes hs1.goes
 obtain⟨nD1,eD1⟩:=nD.goes hs1.goes
 have hL1:=eL1.trans hL
 have hD1:=eD1.trans hD
 refine⟨_,run_beginRound hL1 (by rw[hrec]),?_⟩
 have okb:=iF (.loop { rec .ready none with state:=.busy }) nL1.off nL1.offB nL1.nofm hs1.ok
 let C2:Cx R:=⟨s1.g,FM1,Z1,w1.putObj L (.loop { rec .ready none with state:=.busy }),[],false⟩
 have hsat2:Sat R C2 nt s1 FM1 Z1 a1 (w1.putObj L (.loop { rec .ready none with state:=.busy })):=by
  refine⟨okb,BA _ _ _ _ _,hs1.size,?_,hs1.fr⟩
  have e:a1.defers=[]:=hs1.defs.none
  rw[e];exact .start
 refine wpIn_mono (hbody C2 ⟨hs1.ok.rel.len,rfl⟩ n a1 _ ⟨FM1,Z1,hsat2⟩) (fun e a3 w3 hp3=>?_)
 have fin:∀(ex:AEx) (j:Code) (s3:St R.σ) (FM3:Mem) (Z3:Plc),re ex=some j->Q ex s3->Sat R C2 nt s3 FM3 Z3 a3 w3->∃v w',(Instr.endRound L (some j)).run P w3=.ok v w'/\ln R C D L rec Q (.returned v) w':=by
  intro ex j s3 FM3 Z3 hj hq hs3
  obtain⟨nL3,eL3⟩:=(nL1.put L (.loop { rec .ready none with state:=.busy })).goes hs3.goes
  obtain⟨nD3,eD3⟩:=(nD1.put L (.loop { rec .ready none with state:=.busy })).goes hs3.goes
  have hL3:w3.heap[L]? = some (.loop { rec .ready none with state:=.busy }):=eL3.trans (World.putObj_heap_same nL1.lt)
  have hD3:w3.heap[D]? = some (.deferred (some [])):=eD3.trans ((World.putObj_heap_other hne).trans hD1)
  have erec:({ ({ rec .ready none with state:=.busy }:Loop) with state:=.done,pending:=some j }:Loop)=rec .done (some j):=by rw[hrec]
  refine⟨_,_,run_endRound (some j) hL3,.inl ⟨ex,j,s3,FM3,Z3,rfl,hj,hq,?_,?_,?_,?_,?_,?_⟩⟩
  ·exact iF _ nL3.off nL3.offB nL3.nofm hs3.ok
  ·exact((((hb.trans hs1.goes).put hLn _).trans hs3.goes).put hLn _)
  ·exact(World.putObj_heap_other hne).trans hD3
  ·refine(World.putObj_heap_same nL3.lt).trans ?_
   rw[<-erec];rfl
  ·exact nD3.put _ _
  ·exact nL3.put _ _
 cases e with
 |normal=>obtain⟨s3,h,_⟩:=hp3;exact h.elim
 |ret=>obtain⟨s3,h,FM3,Z3,h2⟩:=hp3;exact fin .ret .ret s3 FM3 Z3 rfl h h2
 |exit id=>obtain⟨s3,h,FM3,Z3,h2⟩:=hp3;exact fin (.exit id) (.exit id) s3 FM3 Z3 rfl h h2
 |panic ch=>
  obtain⟨s3,x,v,FM3,Z3,⟨hpok,hq⟩,hs3,hch,hden⟩:=hp3
  subst hch
  obtain⟨nD3,eD3⟩:=(nD1.put L (.loop { rec .ready none with state:=.busy })).goes hs3.goes
  refine⟨hpok,hs3.defs.none,.inr ⟨x,v,s3,FM3,Z3,rfl,hden,hq,hs3.ok,((hb.trans hs1.goes).put hLn _).trans hs3.goes,?_,nD3⟩⟩
  exact eD3.trans ((World.putObj_heap_other hne).trans hD1)
 |goto l=>exact hp3.elim
 |outgrown=>exact hp3.elim
end
end Go.Avm
namespace Go.Avm
open Go
def fN (f0:FuncId)(F:Fence)(n:Nat)(P:Program)(c:Code)(Q:Exit->Act->World->Prop)(a:Act)(w:World):Prop:=
 ∀(b:Frame) (k:List Item) (cs:List Frame),b.roundOf=F.round->F.fn b.fn->b.fn=f0->F.room (cs.length+1+n) ->
  ∃e a' w',Q e a' w'/\ArrivesIn (Machine.fenced P F) P (lone (b.atR a (.code c::k)) cs w) b k cs e a' w'
section
variable {f0:FuncId}{F:Fence}{n:Nat}{P:Program}{Q:Exit->Act->World->Prop}{a:Act}{w:World}
theorem wT {x y:Code}(h:x.wpIn F n P (fun e a w=>match e with|.normal=>fN f0 F n P y Q a w|e=>Q e a w) a w):fN f0 F n P (.seq x y) Q a w:=by
 intro b k cs hro hb hf hr
 have h0:(lone (b.atR a (.code (.seq x y)::k)) cs w).fenced P F:=fenced_calm hb hr rfl
 obtain⟨e,a₁,w₁,hq,harr⟩:=h b (.code y::k) cs hro hb hr
 have on:e≠.normal->Q e a₁ w₁->∃e a' w',Q e a' w'/\ArrivesIn (Machine.fenced P F) P (lone (b.atR a (.code (.seq x y)::k)) cs w) b k cs e a' w':=fun he hq=>
  ⟨e,a₁,w₁,hq,.of_steps (.one h0 stepR_seq) (.pass (x:=.code y) rfl (fun _ _=>.inl he) harr)⟩
 cases e with
 |normal=>
  obtain⟨e₂,a₂,w₂,hq₂,harr₂⟩:=hq b k cs hro hb hf hr
  exact⟨e₂,a₂,w₂,hq₂,.of_steps (.head h0 stepR_seq harr) harr₂⟩
 |exit id=>exact on (fun h=>by cases h) hq
 |goto l=>exact on (fun h=>by cases h) hq
 |ret=>exact on (fun h=>by cases h) hq
 |panic ch=>exact on (fun h=>by cases h) hq
 |outgrown=>exact on (fun h=>by cases h) hq
theorem wU {id:Nat}{c:Code}(h:fN f0 F n P c (fun e a w=>(∃ch,e=.panic ch)/\Q e a w) a w):fN f0 F n P (.block id c) Q a w:=by
 intro b k cs hro hb hf hr
 obtain⟨e,a₁,w₁,⟨⟨ch,rfl⟩,hq⟩,harr⟩:=h b (.inBlock id::k) cs hro hb hf hr
 exact⟨_,a₁,w₁,hq,.of_steps (.one (fenced_calm hb hr rfl) stepR_block) harr⟩
theorem wV {x y:Code}(h:fN f0 F n P x (fun e a w=>(∃ch,e=.panic ch)/\Q e a w) a w):fN f0 F n P (.seq x y) Q a w:=by
 intro b k cs hro hb hf hr
 obtain⟨e,a₁,w₁,⟨⟨ch,rfl⟩,hq⟩,harr⟩:=h b (.code y::k) cs hro hb hf hr
 exact⟨_,a₁,w₁,hq,.of_steps (.one (fenced_calm hb hr rfl) stepR_seq) (.pass (x:=.code y) rfl (fun _ _=>.inl (by simp)) harr)⟩
def rf (F:Fence)(n:Nat)(P:Program)(g:Operand)(ps:Array Tmp)(assign body:Code)(Q:Exit->Act->World->Prop)(a:Act)(w:World)(fn:FuncId):Prop:=
 ∃(l:Nat) (mark:List Deferred) (w₁:World) (d:Deferred) (w₁':World) (f:FuncId) (args:Array Value) (w₂:World),
   (Instr.enterLoop fn a.tmps ps assign body F.round).run P w=.ok (l,mark) w₁/\(resolve a.eval (rangeCall g l) 0).run P w₁=.ok d w₁' /\
   (∀f',Target.leads P w₁' d.target d.args=some f'->F.fn f')/\(invoke d.target d.args).run P w₁'=.ok (.enter f args) w₂ /\
   (F.depth.isSome=true->1<=n)/\CallsIn F (n-1) P f args w₂ (rangePost F n P l Q { a with defers:=mark++a.defers })
theorem wW {g:Operand}{ps:Array Tmp}{assign body:Code}(hd:F.depth=none)(h:rf F n P g ps assign body Q a w f0):fN f0 F n P (.rangeFunc g ps assign body) Q a w:=by
 intro b k cs hro hb hf hr
 subst hf
 obtain⟨l,mark,w₁,d,w₁',f,args,w₂,he,hres,hlead,hinv,_,hF,hcall⟩:=h
 rw[<-hro] at he
 have hroom:∀m,F.room m:=fun m d hd'=>by rw[hd] at hd';cases hd'
 have h0:(lone (b.atR a (.code (.rangeFunc g ps assign body)::k)) cs w).fenced P F:=by
  refine fenced_lone (.inl hb) (fun f' hf'=>hlead f' ?_) (hroom _)
  have hev:=Frame.eval_atR b a (.code (.rangeFunc g ps assign body)::k)
  simp only[Frame.atR] at hev
  simp only[Frame.about,Frame.atR,he,hev,hres] at hf'
  exact hf'
 have henter:=stepR_rangeFunc (P:=P) (b:=b) (a:=a) (k:=k) (cs:=cs) (w:=w) he hres hinv
 obtain⟨c,hc⟩:∃c,c=b.atR { a with defers:=mark++a.defers } (.inRangeFunc l::k):=⟨_,rfl⟩
 rw[<-hc] at henter
 obtain⟨e,w₃,fr,hR,hsteps,hfn,hleave⟩:=hcall (c::cs) (hroom _)
 have hFf:F.fn fr.fn:=by rw[hfn];exact hF
 cases e with
 |outgrown=>
  obtain⟨a₀,w₀,hq⟩:=hR
  exact⟨.outgrown,a₀,w₀,hq,.inr (Outgrown.of_steps (.one henter) hsteps)⟩
 |panicked chain=>
  refine⟨.panic chain,_,w₃,hR,.inRangeFunc l::k,.head h0 henter (StepsIn.trans hsteps (.one (fenced_leaving (n:=n) hFf (hroom _) hleave) ?_))⟩
  rw[<-Frame.raise_atR,<-hc]
  exact step_leave_panicked hleave
 |returned v=>
  obtain⟨jump,w₄,hend,hj⟩:=hR
  have dq:=StepsIn.head h0 henter (StepsIn.trans hsteps (.one (fenced_leaving (n:=n) hFf (hroom _) hleave) (step_leave_returned hleave)))
  rw[hc,finish_atR_inRangeFunc] at dq
  have all:=StepsIn.trans dq (.one (fenced_calm (n:=n) (fr:=b.atR { a with defers:=mark++a.defers } (.endRangeFunc l::k)) hb (hroom _) rfl) (stepR_endRangeFunc hend))
  cases jump with
  |none=>exact⟨.normal,_,w₄,hj,all⟩
  |some c=>
   obtain⟨e',a'',w₅,hq,harr⟩:=hj b k cs hro hb hr
   exact⟨e',a'',w₅,hq,.of_steps all harr⟩
theorem wX {f:FuncId}{fn:Func}{c:Code}{args:Array Value}{R:Ending->World->Prop}(hf:P.funcs[f]? = some fn)(hb:fn.body=some c)(hF:F.fn f)(hro:F.round=none)(hd:F.depth=none)
  (h:fN f F n P c (fun e a w=>∃ch,e=.panic ch/\LeavesInM F n P fn a.tmps R a.defers (.panicking ch) w) { tmps:=args++Array.replicate (fn.ntmps-args.size) undef,defers:=[] } w):CallsIn F n P f args w R:=by
 refine⟨hF,fun cs hr=>?_⟩
 let b:Frame:={ (default:Frame) with fn:=f,kind:=.normal,roundOf:=none }
 have henter:Frame.enter P f args .normal=b.atR { tmps:=args++Array.replicate (fn.ntmps-args.size) undef,defers:=[] } [.code c]:=by simp[Frame.enter,Frame.atR,hf,hb,b]
 obtain⟨e,a',w',⟨ch,rfl,hq⟩,harr⟩:=h b [] cs hro.symm hF rfl hr
 rw[<-henter] at harr
 obtain⟨todo,hs₀⟩:=harr
 obtain⟨e',w'',fr',hR,hs,hfn,hl⟩:=leaves_stepsInM a'.defers (.panicking ch) w' { b.atR a' todo with mode:=.panicking ch } cs rfl rfl rfl hf rfl hF hr hq
 exact⟨e',w'',fr',hR,ComesIn.of_steps hs₀ hs,hfn,hl⟩
end
section
variable {P:Program}{R:Res}{nt k0:Nat}{f0:FuncId}{b:Code}{Q:AEx->St R.σ->Prop}{s:St R.σ}
structure WpB (P:Program)(R:Res)(nt k0:Nat)(f0:FuncId)(b:Code)(p:List Nat)(Q:AEx->St R.σ->Prop)(s:St R.σ):Prop where
 h:∀(C:Cx R),C.Z.length=k0/\C.df.out=true->∀(n:Nat) (a:Act) (w:World),dX R C nt s a w->fN f0 (Fw .top) n P (sub b p) (dQ R C nt Q) a w
def rg:Code->Bool
 |.seq _ _=>true
 |_=>false
def wY:Code->Bool
 |.block _ _=>true
 |_=>false
theorem jU {p:List Nat}(hs:rg (sub b p)=true)(h:Wp P R nt k0 .top b (p++[0]) (fH (WpB P R nt k0 f0 b (p++[1]) Q) Q) s):WpB P R nt k0 f0 b p Q s:=by
 obtain⟨x,y,hc⟩:∃x y,sub b p=.seq x y:=by
  cases hx:sub b p <;> rw[hx] at hs <;> first|exact⟨_,_,rfl⟩|cases hs
 have h0:=h.h
 rw[bW,hc,show sub (.seq x y) [0]=x from cn x] at h0
 refine⟨fun C hC n a w hw=>?_⟩
 rw[hc]
 refine wT (wpIn_mono (h0 C hC n a w hw) (fun e a1 w1 hp=>?_))
 cases e with
 |normal=>
  obtain⟨s1,h1,h2⟩:=hp
  have h3:=(show WpB P R nt k0 f0 b (p++[1]) Q s1 from h1).h C hC n a1 w1 h2
  rw[bW,hc,show sub (.seq x y) [1]=y from cn y] at h3
  exact h3
 |exit id=>exact hp
 |ret=>exact hp
 |panic ch=>exact hp
 |goto l=>exact hp
 |outgrown=>exact hp
def nR (Q:AEx->St R.σ->Prop):AEx->St R.σ->Prop
 |.pan x,s=>Q (.pan x) s
 |_,_=>False
theorem rh {C:Cx R}{e:Exit}{a:Act}{w:World}(h:dQ R C nt (nR Q) e a w):(∃ch,e=.panic ch)/\dQ R C nt Q e a w:=by
 cases e with
 |normal=>obtain⟨s1,h1,_⟩:=h;exact h1.elim
 |exit id=>obtain⟨s1,h1,_⟩:=h;exact h1.elim
 |ret=>obtain⟨s1,h1,_⟩:=h;exact h1.elim
 |panic ch=>obtain⟨s1,x,v,FM,Z,hq,h5⟩:=h;exact⟨⟨ch,rfl⟩,s1,x,v,FM,Z,hq,h5⟩
 |goto l=>exact h.elim
 |outgrown=>exact h.elim
theorem wZ {p:List Nat}(hs:wY (sub b p)=true)(h:WpB P R nt k0 f0 b (p++[0]) (nR Q) s):WpB P R nt k0 f0 b p Q s:=by
 obtain⟨id,c,hc⟩:∃id c,sub b p=.block id c:=by
  cases hx:sub b p <;> rw[hx] at hs <;> first|exact⟨_,_,rfl⟩|cases hs
 refine⟨fun C hC n a w hw=>?_⟩
 have h0:=h.h C hC n a w hw
 rw[bW,hc,show sub (.block id c) [0]=c from cn c] at h0
 rw[hc]
 exact wU (fun b' k cs h1 h2 h3 h4=>let ⟨e,a1,w1,hp,harr⟩:=h0 b' k cs h1 h2 h3 h4;⟨e,a1,w1,rh hp,harr⟩)
theorem w9 {p:List Nat}(hs:rg (sub b p)=true)(h:WpB P R nt k0 f0 b (p++[0]) (nR Q) s):WpB P R nt k0 f0 b p Q s:=by
 obtain⟨x,y,hc⟩:∃x y,sub b p=.seq x y:=by
  cases hx:sub b p <;> rw[hx] at hs <;> first|exact⟨_,_,rfl⟩|cases hs
 refine⟨fun C hC n a w hw=>?_⟩
 have h0:=h.h C hC n a w hw
 rw[bW,hc,show sub (.seq x y) [0]=x from cn x] at h0
 rw[hc]
 exact wV (fun b' k cs h1 h2 h3 h4=>let ⟨e,a1,w1,hp,harr⟩:=h0 b' k cs h1 h2 h3 h4;⟨e,a1,w1,rh hp,harr⟩)
theorem xa {p:List Nat}{s':St R.σ}(h:To R k0 s s')(hw:WpB P R nt k0 f0 b p Q s'):WpB P R nt k0 f0 b p Q s:=
 ⟨fun C hC n a w ⟨FM,Z,hs⟩=>hw.h C hC n a w (sat_to (r:=.top) hC h hs)⟩
def xb (R:Res)(k0:Nat)(x:AV)(hp':List AObj)(g':R.σ):AEx->St R.σ->Prop
 |.pan v,s=>To R k0 ⟨[(0,v)],s.hp,s.g⟩ ⟨[(0,x)],hp',g'⟩
 |_,_=>False
theorem xd {f:FuncId}{args:List AV}{hp hp':List AObj}{g g':R.σ}{x:AV}(hb:fI P f args.length=true)(hnt:bE P f=nt)(hk:hp.length=k0)
  (h:WpB P R nt k0 f (aw P f) [] (xb R k0 x hp' g') ⟨ck 0 args,hp,g⟩):Does P R f args hp g (.pan x) hp' g':=by
 subst hnt hk
 unfold fI at hb
 split at hb
 ·rename_i fn hfn
  simp only[Bool.and_eq_true,Nat.ble_eq] at hb
  obtain⟨c,hc⟩:=Option.isSome_iff_exists.1 hb.1
  have h1:aw P f=c:=by simp[aw,hfn,hc]
  have h2:bE P f=fn.ntmps:=by simp[bE,hfn]
  rw[h1,h2] at h
  refine⟨fun FM Z w vs ok hvs=>(callsIn_wide (n:=0)).1 ?_⟩
  let C:Cx R:=⟨g,FM,Z,w,[],true⟩
  have hsat:Sat R C fn.ntmps ⟨ck 0 args,hp,g⟩ FM Z { tmps:=vs++Array.replicate (fn.ntmps-vs.size) undef,defers:=[] } w:=by
   refine⟨ok,BA _ _ _ _ _,by simp[hvs.1];omega,.start,fun t=>?_⟩
   show Den FM Z (lk (ck 0 args) t) _
   rw[kP]
   simp only[Nat.zero_le,if_true,Nat.sub_zero]
   rcases Nat.lt_or_ge t args.length with ht|ht
   ·have e:(vs++Array.replicate (fn.ntmps-vs.size) undef).getD t undef=vs.getD t undef:=by
     rw[Array.getD_eq_getD_getElem?,Array.getD_eq_getD_getElem?,Array.getElem?_append,if_pos (by rw[hvs.1];exact ht)]
    rw[e];exact hvs.2 t ht
   ·rw[jy _ _ ht];trivial
  have hw:=h.h C ⟨ok.rel.len,rfl⟩ 0 _ w ⟨FM,Z,hsat⟩
  rw[cn] at hw
  refine wX hfn hc trivial rfl rfl (fun b' k cs h1 h2 h3 h4=>?_)
  obtain⟨e,a1,w1,hp1,harr⟩:=hw b' k cs h1 h2 h3 h4
  refine⟨e,a1,w1,?_,harr⟩
  cases e with
  |normal=>obtain⟨s1,h5,_⟩:=hp1;exact h5.elim
  |exit id=>obtain⟨s1,h5,_⟩:=hp1;exact h5.elim
  |ret=>obtain⟨s1,h5,_⟩:=hp1;exact h5.elim
  |goto l=>exact hp1.elim
  |outgrown=>exact hp1.elim
  |panic ch=>
   obtain⟨s1,y,v,FM1,Z1,hto,hs1,rfl,hd⟩:=hp1
   refine⟨_,rfl,hs1.leave (by simp) (hK:=fun w2 ok2 go2=>?_)⟩
   obtain⟨FM2,Z2,d1,d2,d3⟩:=jH (s:=s1) ok.rel.len ok2 go2 hd hto rfl rfl
   exact⟨FM2,Z2,⟨v,rfl,d1⟩,d2,d3⟩
 ·cases hb
end
end Go.Avm
namespace Go.Avm
open Go
def gk (ops:Array Oper):Nat->Array Bool->List Nat->Prop
 |0,_,L=>L=[]
 |_+1,listed,[]=>Region.ready .any ops listed=[]
 |fuel+1,listed,i::L=>i∈Region.ready .any ops listed/\gk ops fuel (listed.setIfInBounds i true) L
section
variable {P:Program}{F:Fence}{n:Nat}{ops:Array Oper}{Q:Exit->Act->World->Prop}
theorem nS:∀(fuel:Nat) (L:List Nat) (listed:Array Bool) (a:Act) (w:World),wpAnyIn F n P .any ops Q fuel listed a w->gk ops fuel listed L->wpOpsIn F n P ops Q L a w
 |0,L,listed,a,w,h,hp=>by
  have hp:L=[]:=hp
  subst hp
  simpa[wpOpsIn] using h.2
 |fuel+1,[],listed,a,w,h,hp=>by
  have hp:Region.ready .any ops listed=[]:=hp
  simpa[wpOpsIn] using h.1 hp
 |fuel+1,i::L,listed,a,w,h,hp=>by
  obtain⟨h1,h2⟩:=hp
  rw[wpOpsIn_cons]
  exact wpOpIn_mono (fun a w hw=>nS fuel L _ a w hw h2) (h.2 i h1)
theorem ri:∀(fuel t:Nat) (listed:Array Bool),gk ops fuel listed (Region.linearise.go .any ops fuel t listed [])
 |0,t,listed=>by simp[Region.linearise.go,gk]
 |fuel+1,t,listed=>by
  simp only[Region.linearise.go]
  change gk ops (fuel+1) listed (match (Region.ready .any ops listed)[t%(Region.ready .any ops listed).length]? with
   |some i=>Region.linearise.go .any ops fuel (t/(Region.ready .any ops listed).length) (listed.setIfInBounds i true) [i]
   |none=>[].reverse)
  cases hi:(Region.ready .any ops listed)[t%(Region.ready .any ops listed).length]? with
  |none=>
   have hnil:Region.ready .any ops listed=[]:=by
    cases hr:Region.ready .any ops listed with
    |nil=>rfl
    |cons x xs=>
     rw[hr] at hi
     have hlt:t%(x::xs).length<(x::xs).length:=Nat.mod_lt _ (by simp)
     simp at hi
     simp at hlt
     omega
   exact hnil
  |some i=>
   simp only[]
   rw[linearise_go_acc,List.reverse_singleton,List.singleton_append]
   exact⟨List.mem_of_getElem? hi,ri fuel _ _⟩
theorem xe {id:Nat}{a:Act}{w:World}(hm:P.follows .mixedOrders=true)
  (h:∀L,gk ops ops.size (Array.replicate ops.size false) L->wpOpsIn F n P ops Q L a { w with drawn:=w.drawn+1 }):(Code.region id ops true).wpIn F n P Q a w:=
 wpIn_region_draw fun t=>by
  simp only[Region.schedule,hm,Bool.true_or,if_true]
  exact h _ (ri ops.size t _)
end
def pm (l:List Nat)(j:Nat):Nat:=l.getD j j
def iK (l:List Nat)(x:Array Edge)(o:Oper):Oper:={ o with after:=(o.after.map fun e=>{ e with on:=pm l e.on })++x,guard:=o.guard.map fun g=>(pm l g.1,g.2) }
def cF (l li:List Nat)(A B:Nat)(ops:Array Oper):Array Oper:=
 ((List.range ops.size).map fun k=>iK l (if pm li k=B then #[⟨pm l A,.data⟩] else #[]) (ops.getD (pm li k) default)).toArray
structure Perm (N:Nat)(l li:List Nat):Prop where
 len:l.length<=N
 fwd:∀i,i<N->pm l i<N/\pm li (pm l i)=i
 bwd:∀k,k<N->pm li k<N/\pm l (pm li k)=k
theorem nT {l li:List Nat}{A B:Nat}{ops:Array Oper}:(cF l li A B ops).size=ops.size:=by simp[cF]
theorem lp {l li:List Nat}{A B:Nat}{ops:Array Oper}(hp:Perm ops.size l li){i:Nat}{o:Oper}(ho:ops[i]? = some o) :
  (cF l li A B ops)[pm l i]? = some (iK l (if i=B then #[⟨pm l A,.data⟩] else #[]) o):=by
 have hi:i<ops.size:=(Array.getElem?_eq_some_iff.1 ho).1
 obtain⟨h1,h2⟩:=hp.fwd i hi
 unfold cF
 rw[List.getElem?_toArray,List.getElem?_map,List.getElem?_range h1]
 simp only[Option.map_some]
 rw[h2,Array.getD_eq_getD_getElem?,ho]
 rfl
section
variable {P:Program}{F:Fence}{n:Nat}{ops:Array Oper}{Q:Exit->Act->World->Prop}
theorem xf {l li:List Nat}{A B:Nat}(hp:Perm ops.size l li)(j:Nat):(((cF l li A B ops)[pm l j]?).bind (·.dst))=((ops[j]?).bind (·.dst)):=by
 rcases Nat.lt_or_ge j ops.size with h|h
 ·have e:ops[j]? = some ops[j]:=Array.getElem?_eq_getElem h
  rw[lp hp e,e]
  rfl
 ·have e:pm l j=j:=by
   unfold pm
   rw[List.getD_eq_getElem?_getD,List.getElem?_eq_none (by have:=hp.len;omega)]
   rfl
  rw[e,Array.getElem?_eq_none (by rw[nT];exact h),Array.getElem?_eq_none h]
theorem xg {l li:List Nat}{A B:Nat}(hp:Perm ops.size l li)(tmps:Array Value)(j:Nat):yielded (cF l li A B ops) tmps (pm l j)=yielded ops tmps j:=by
 unfold yielded
 rw[xf hp]
theorem xh {l li:List Nat}{A B:Nat}(hp:Perm ops.size l li){i:Nat}(hi:i<ops.size){K:Act->World->Prop}{a:Act}{w:World}
  (h:wpOpIn F n P (cF l li A B ops) Q (pm l i) K a w):wpOpIn F n P ops Q i K a w:=by
 have e:ops[i]? = some ops[i]:=Array.getElem?_eq_getElem hi
 unfold wpOpIn at h ⊢
 rw[lp hp e] at h
 rw[e]
 have hw:Region.wanted (iK l (if i=B then #[⟨pm l A,.data⟩] else #[]) ops[i]) (yielded (cF l li A B ops) a.tmps)=Region.wanted ops[i] (yielded ops a.tmps):=by
  unfold Region.wanted iK
  cases hg:(ops[i]).guard with
  |none=>rfl
  |some g=>
   obtain⟨j,b⟩:=g
   simp only[Option.map_some]
   rw[xg hp]
 simp only[hw] at h
 exact h
theorem nU {l li:List Nat}{A B:Nat}(hp:Perm ops.size l li):∀(L:List Nat) (a:Act) (w:World),(∀i,i∈L->i<ops.size)->wpOpsIn F n P (cF l li A B ops) Q (L.map (pm l)) a w->wpOpsIn F n P ops Q L a w
 |[],a,w,_,h=>by simpa[wpOpsIn] using h
 |i::L,a,w,hl,h=>by
  rw[List.map_cons,wpOpsIn_cons] at h
  rw[wpOpsIn_cons]
  exact xh hp (hl i (List.Mem.head _)) (wpOpIn_mono (fun a w hh=>nU hp L a w (fun j hj=>hl j (List.Mem.tail _ hj)) hh) h)
theorem lq {ops:Array Oper}{listed:Array Bool}{i:Nat}:i∈Region.ready .any ops listed↔∃o,ops[i]? = some o/\listed.getD i true=false/\∀e∈o.after.toList,Region.binds .any e=true->listed.getD e.on false=true:=by
 unfold Region.ready
 rw[List.mem_filter,List.mem_range,Bool.and_eq_true,Bool.not_eq_true']
 constructor
 ·rintro ⟨h1,h2,h3⟩
  have e:ops[i]? = some ops[i]:=Array.getElem?_eq_getElem h1
  rw[e] at h3
  refine⟨_,e,h2,fun x hx hb=>?_⟩
  have h3:(ops[i]).after.all (fun e=> !Region.binds .any e||listed.getD e.on false)=true:=h3
  rw[<-Array.all_toList,List.all_eq_true] at h3
  have:=h3 x hx
  rw[hb] at this
  simpa using this
 ·rintro ⟨o,h1,h2,h3⟩
  have hi:i<ops.size:=(Array.getElem?_eq_some_iff.1 h1).1
  refine⟨hi,h2,?_⟩
  rw[h1]
  show o.after.all (fun e=> !Region.binds .any e||listed.getD e.on false)=true
  rw[<-Array.all_toList,List.all_eq_true]
  intro x hx
  cases hb:Region.binds .any x with
  |false=>rfl
  |true=>simpa using h3 x hx hb
def jV (A B:Nat):Array Bool->List Nat->Prop
 |_,[]=>True
 |listed,i::L=>(i=B->listed.getD A false=true)/\jV A B (listed.setIfInBounds i true) L
structure SameL (N:Nat)(l:List Nat)(x y:Array Bool):Prop where
 sx:x.size=N
 sy:y.size=N
 at_:∀j,j<N->y[pm l j]? = x[j]?
theorem SameL.set {N:Nat}{l li:List Nat}(hp:Perm N l li){x y:Array Bool}(h:SameL N l x y){i:Nat}(hi:i<N):SameL N l (x.setIfInBounds i true) (y.setIfInBounds (pm l i) true):=by
 refine⟨by rw[Array.size_setIfInBounds,h.sx],by rw[Array.size_setIfInBounds,h.sy],fun j hj=>?_⟩
 have h1:=(hp.fwd i hi).1
 by_cases e:i=j
 ·subst e
  rw[Array.getElem?_setIfInBounds_self_of_lt (by rw[h.sy];exact h1),Array.getElem?_setIfInBounds_self_of_lt (by rw[h.sx];exact hi)]
 ·rw[Array.getElem?_setIfInBounds_ne (fun e2=>e (by rw[<-(hp.fwd i hi).2,<-(hp.fwd j hj).2,e2])),Array.getElem?_setIfInBounds_ne e]
  exact h.at_ j hj
theorem SameL.get {N:Nat}{l:List Nat}{x y:Array Bool}(h:SameL N l x y){j:Nat}(hj:j<N)(d:Bool):y.getD (pm l j) d=x.getD j d:=by
 rw[Array.getD_eq_getD_getElem?,Array.getD_eq_getD_getElem?,h.at_ j hj]
theorem nV {l li:List Nat}{A B:Nat}(hp:Perm ops.size l li)(hA:A<ops.size)(hb:∀(j:Nat) (o:Oper),ops[j]? = some o->∀e∈o.after.toList,e.on<ops.size) :
  ∀(fuel:Nat) (L:List Nat) (x y:Array Bool),SameL ops.size l x y->gk ops fuel x L->jV A B x L->(∀i,i∈L->i<ops.size)/\gk (cF l li A B ops) fuel y (L.map (pm l))
 |0,L,x,y,hs,h,hw=>by
  have h:L=[]:=h
  subst h
  exact⟨fun i hi=>(by cases hi),rfl⟩
 |fuel+1,[],x,y,hs,h,hw=>by
  have h:Region.ready .any ops x=[]:=h
  refine⟨fun i hi=>(by cases hi),?_⟩
  show Region.ready .any (cF l li A B ops) y=[]
  rw[List.eq_nil_iff_forall_not_mem]
  intro k hk
  obtain⟨o',h1,h2,h3⟩:=lq.1 hk
  have hk':k<ops.size:=by
   have:=(Array.getElem?_eq_some_iff.1 h1).1
   rwa [nT] at this
  obtain⟨b1,b2⟩:=hp.bwd k hk'
  have e:ops[pm li k]? = some ops[pm li k]:=Array.getElem?_eq_getElem b1
  have e':=lp (A:=A) (B:=B) hp e
  rw[b2,h1] at e'
  cases e'
  have:pm li k∈Region.ready .any ops x:=lq.2 ⟨_,e,by rw[<-hs.get b1,b2];exact h2,fun z hz hbz=>by
   rw[<-hs.get (hb _ _ e z hz)]
   refine h3 { z with on:=pm l z.on } ?_ hbz
   unfold iK
   simp only[Array.toList_append,Array.toList_map]
   exact List.mem_append_left _ (List.mem_map_of_mem hz)⟩
  rw[h] at this
  cases this
 |fuel+1,i::L,x,y,hs,h,hw=>by
  obtain⟨h1,h2⟩:=h
  obtain⟨w1,w2⟩:=hw
  obtain⟨o,o1,o2,o3⟩:=lq.1 h1
  have hi:i<ops.size:=(Array.getElem?_eq_some_iff.1 o1).1
  obtain⟨q1,q4⟩:=nV hp hA hb fuel L _ _ (hs.set hp hi) h2 w2
  refine⟨fun j hj=>?_,?_,q4⟩
  ·rcases List.mem_cons.1 hj with h|h
   ·rw[h];exact hi
   ·exact q1 j h
  ·refine lq.2 ⟨_,lp hp o1,by rw[hs.get hi];exact o2,fun z hz hbz=>?_⟩
   unfold iK at hz
   simp only[Array.toList_append,Array.toList_map] at hz
   rcases List.mem_append.1 hz with hz|hz
   ·obtain⟨z',hz',rfl⟩:=List.mem_map.1 hz
    show y.getD (pm l z'.on) false=true
    rw[hs.get (hb _ _ o1 z' hz')]
    exact o3 z' hz' hbz
   ·by_cases e:i=B
    ·rw[if_pos e] at hz
     have hz:z=⟨pm l A,.data⟩:=by simpa using hz
     subst hz
     show y.getD (pm l A) false=true
     rw[hs.get hA]
     exact w1 e
    ·rw[if_neg e] at hz
     simp at hz
theorem nW {A B:Nat}:∀(L:List Nat) (x:Array Bool),x.getD A false=true->jV A B x L
 |[],_,_=>trivial
 |i::L,x,h=>⟨fun _=>h,nW L _ (by
  rw[Array.getD_eq_getD_getElem?] at h ⊢
  have hA:A<x.size:=by
   rcases Nat.lt_or_ge A x.size with h'|h'
   ·exact h'
   ·rw[Array.getElem?_eq_none h'] at h
    cases h
  by_cases e:i=A
  ·subst e
   rw[Array.getElem?_setIfInBounds_self_of_lt hA]
   rfl
  ·rw[Array.getElem?_setIfInBounds_ne e]
   exact h)⟩
theorem rj {A B:Nat}(hne:A≠B):∀(L:List Nat) (x:Array Bool),A<x.size->B<x.size->jV A B x L∨jV B A x L
 |[],_,_,_=>.inl trivial
 |i::L,x,hA,hB=>by
  have s:∀j,j<x.size->(x.setIfInBounds j true).getD j false=true:=fun j hj=>by
   rw[Array.getD_eq_getD_getElem?,Array.getElem?_setIfInBounds_self_of_lt hj]
   rfl
  by_cases e1:i=A
  ·subst e1
   exact .inl ⟨fun e=>absurd e hne,nW L _ (s _ hA)⟩
  ·by_cases e2:i=B
   ·subst e2
    exact .inr ⟨fun e=>absurd e e1,nW L _ (s _ hB)⟩
   ·rcases rj hne L (x.setIfInBounds i true) (by simpa using hA) (by simpa using hB) with h|h
    ·exact .inl ⟨fun e=>absurd e e2,h⟩
    ·exact .inr ⟨fun e=>absurd e e1,h⟩
theorem xi {id A B:Nat}{l1 i1 l2 i2:List Nat}(hm:P.follows .mixedOrders=true)(hA:A<ops.size)(hB:B<ops.size)(hne:A≠B)(h1:Perm ops.size l1 i1)(h2:Perm ops.size l2 i2)
  (hb:∀(j:Nat) (o:Oper),ops[j]? = some o->∀e∈o.after.toList,e.on<ops.size) {a:Act} {w:World}
  (w1:wpAnyIn F n P .any (cF l1 i1 A B ops) Q (cF l1 i1 A B ops).size (Array.replicate (cF l1 i1 A B ops).size false) a { w with drawn:=w.drawn+1 })
  (w2:wpAnyIn F n P .any (cF l2 i2 B A ops) Q (cF l2 i2 B A ops).size (Array.replicate (cF l2 i2 B A ops).size false) a { w with drawn:=w.drawn+1 }) :
  (Code.region id ops true).wpIn F n P Q a w:=by
 rw[nT] at w1 w2
 refine xe hm (fun L hL=>?_)
 have same:∀{l li:List Nat},Perm ops.size l li->SameL ops.size l (Array.replicate ops.size false) (Array.replicate ops.size false):=fun {l li} hp=>
  ⟨by simp,by simp,fun j hj=>by rw[Array.getElem?_replicate,Array.getElem?_replicate,if_pos hj,if_pos (hp.fwd j hj).1]⟩
 rcases rj hne L (Array.replicate ops.size false) (by simpa using hA) (by simpa using hB) with h|h
 ·obtain⟨q1,q2⟩:=nV h1 hA hb ops.size L _ _ (same h1) hL h
  exact nU h1 L _ _ q1 (nS _ _ _ _ _ w1 q2)
 ·obtain⟨q1,q2⟩:=nV h2 hB hb ops.size L _ _ (same h2) hL h
  exact nU h2 L _ _ q1 (nS _ _ _ _ _ w2 q2)
def ls (N:Nat)(l li:List Nat):Bool:=Nat.ble l.length N&&(List.range N).all fun i=>Nat.blt (pm l i) N&&Nat.beq (pm li (pm l i)) i&&(Nat.blt (pm li i) N&&Nat.beq (pm l (pm li i)) i)
theorem rl {N:Nat}{l li:List Nat}(h:ls N l li=true):Perm N l li:=by
 unfold ls at h
 rw[Bool.and_eq_true,List.all_eq_true] at h
 have h2:∀i,i<N->(pm l i<N/\pm li (pm l i)=i)/\pm li i<N/\pm l (pm li i)=i:=fun i hi=>by
  have:=h.2 i (List.mem_range.2 hi)
  simp only[Bool.and_eq_true,Nat.blt_eq,Nat.beq_eq] at this
  exact⟨⟨this.1.1,this.1.2⟩,this.2.1,this.2.2⟩
 exact⟨Nat.le_of_ble_eq_true h.1,fun i hi=>(h2 i hi).1,fun i hi=>(h2 i hi).2⟩
def nX (ops:Array Oper)(A B:Nat)(l1 i1 l2 i2:List Nat):Bool:=
 Nat.blt A ops.size&&Nat.blt B ops.size && !Nat.beq A B&&ls ops.size l1 i1&&ls ops.size l2 i2&&ops.toList.all fun o=>o.after.toList.all fun e=>Nat.blt e.on ops.size
theorem xj {R:Res}{nt k0:Nat}{r:Rd}{QA:AEx->St R.σ->Prop}{s:St R.σ}(hm:P.follows .mixedOrders=true){id:Nat}(A B:Nat)(l1 i1 l2 i2:List Nat)(hc:nX ops A B l1 i1 l2 i2=true)
  (w1:gF P R nt k0 r (cF l1 i1 A B ops) QA s) (w2:gF P R nt k0 r (cF l2 i2 B A ops) QA s):wpA P R nt k0 r (.region id ops true) QA s:=by
 unfold nX at hc
 simp only[Bool.and_eq_true,Bool.not_eq_true',Nat.blt_eq,List.all_eq_true] at hc
 obtain⟨⟨⟨⟨⟨c1,c2⟩,c3⟩,c4⟩,c5⟩,c6⟩:=hc
 exact fun C hC n a w hs=>xi hm c1 c2 (fun e=>by rw[e] at c3;simp at c3) (rl c4) (rl c5) (fun j o ho e he=>c6 o (by
  rw[<-Array.getElem?_toList] at ho
  exact List.mem_of_getElem? ho) e he) (w1 C hC n a w hs) (w2 C hC n a w hs)
end
section
variable {P:Program}{R:Res}{nt k0:Nat}{r:Rd}{b:Code}{Q:AEx->St R.σ->Prop}
def xk:Code->Bool
 |.region _ _ true=>true
 |_=>false
structure WpAny (P:Program)(R:Res)(nt k0:Nat)(r:Rd)(b:Code)(p:List Nat)(Q:AEx->St R.σ->Prop)(s:St R.σ):Prop where
 h:match sub b p with
  |.region _ ops true=>gF P R nt k0 r ops Q s
  |_=>False
theorem rm {p:List Nat}{s:St R.σ}(cuts:List (List Nat))(keep:Nat->List Nat)(orc:Nat->List (Nat × ROrc R.σ))(q:(AEx->St R.σ->Prop)->Prop)(hr:xk (sub b p)=true)
  (e:∀Q,vc P R nt k0 r b cuts keep orc Q 1000 (.at_ p []) s=q Q) (h:q Q):WpAny P R nt k0 r b p Q s:=by
 have h:vc P R nt k0 r b cuts keep orc Q 1000 (.at_ p []) s:=(e Q).symm▸h
 refine⟨?_⟩
 obtain⟨id,ops,hs⟩:∃id ops,sub b p=.region id ops true:=by
  cases hc:sub b p <;> rw[hc] at hr <;> first|cases hr|skip
  rename_i id ops d
  cases d with
  |true=>exact⟨_,_,rfl⟩
  |false=>cases hr
 rw[hs]
 show gF P R nt k0 r ops Q s
 have nx:∀s',vc P R nt k0 r b cuts keep orc Q 999 (.nx []) s'->Q .normal s':=fun s' h=>h
 unfold vc at h
 rw[hs] at h
 simp only at h
 split at h
 ·rename_i out hout
  obtain⟨h1,h2⟩:=fc h.2
  exact p7 _ _ out hout h1 (nx _ h2)
 ·split at h
  ·rename_i out hout
   obtain⟨h1,h2⟩:=fc h.2
   exact p8 _ _ out hout h1 h2
  ·split at h
   ·rename_i out hout
    obtain⟨h1,h2⟩:=fc h.2
    exact qh _ _ out hout h1 (nx _ h2)
   ·exact h.elim
def rn (l li:List Nat)(A B:Nat):Code->Code
 |.region id ops true=>.region id (cF l li A B ops) true
 |c=>c
def xm (A B:Nat)(l1 i1 l2 i2:List Nat):Code->Bool
 |.region _ ops true=>nX ops A B l1 i1 l2 i2
 |_=>false
theorem xn {p:List Nat}{s:St R.σ}(hm:P.follows .mixedOrders=true)(A B:Nat)(l1 i1 l2 i2:List Nat)(hc:xm A B l1 i1 l2 i2 (sub b p)=true)
  (w1:WpAny P R nt k0 r (rn l1 i1 A B (sub b p)) [] Q s) (w2:WpAny P R nt k0 r (rn l2 i2 B A (sub b p)) [] Q s):Wp P R nt k0 r b p Q s:=by
 refine⟨?_⟩
 have h1:=w1.h
 have h2:=w2.h
 obtain⟨id,ops,hs⟩:∃id ops,sub b p=.region id ops true:=by
  cases hs:sub b p <;> rw[hs] at hc <;> first|cases hc|skip
  rename_i id ops d
  cases d with
  |true=>exact⟨_,_,rfl⟩
  |false=>cases hc
 rw[hs] at h1 h2 hc ⊢
 exact xj hm A B l1 i1 l2 i2 hc h1 h2
def xp:Code->Bool
 |.seq _ _=>true
 |_=>false
theorem xq {p:List Nat}{s:St R.σ}(hc:xp (sub b p)=true)(h:Wp P R nt k0 r b (p++[0]) (aS P R nt k0 r b Q [.seq (p++[1])]) s):Wp P R nt k0 r b p Q s:=by
 obtain⟨x,y,hs⟩:∃x y,sub b p=.seq x y:=by
  cases hs:sub b p <;> rw[hs] at hc <;> first|exact⟨_,_,rfl⟩|cases hc
 have e0:=bW b p 0
 have e1:=bW b p 1
 rw[hs] at e0 e1
 have e0':sub b (p++[0])=x:=e0.trans (cn x)
 have e1':sub b (p++[1])=y:=e1.trans (cn y)
 refine⟨?_⟩
 rw[hs]
 refine p4 ?_
 have h3:=h.h
 rw[e0'] at h3
 refine gE h3 (fun e s' he=>?_)
 cases e with
 |normal=>
  have he:Wp P R nt k0 r b (p++[1]) Q s':=he
  have h4:=he.h
  rw[e1'] at h4
  exact h4
 |exit id=>exact he
 |ret=>exact he
 |pan v=>exact he
end
end Go.Avm
namespace Go.Avm
open Go
variable {P:Program}{R:Res}
abbrev cO:Nat->(Nat->AV)->AObj:=AObj.cells false
abbrev i6:Int->AV:=AV.int .i64
theorem xu {fr:Bool}{f g:Nat->AV}(h0:Le (f 0) (g 0)):LeO (.cells fr 1 f) (.cells fr 1 g):=⟨rfl,Nat.le_refl _,fun j hj=>match j,hj with|0,_=>h0⟩
theorem xw {f g:Nat->AV}(h0:Le (f 0) (g 0)):Le (.tup 1 f) (.tup 1 g):=Bw (fun j hj=>match j,hj with|0,_=>h0)
theorem xx {f g:Nat->AV}(h0:Le (f 0) (g 0)):Le (.agg 1 f) (.agg 1 g):=Bx (fun j hj=>match j,hj with|0,_=>h0)
theorem xy {fr:Bool}{f g:Nat->AV}(h0:Le (f 0) (g 0))(h1:Le (f 1) (g 1)):LeO (.cells fr 2 f) (.cells fr 2 g):=⟨rfl,Nat.le_refl _,fun j hj=>match j,hj with|0,_=>h0|1,_=>h1⟩
theorem xz {f g:Nat->AV}(h0:Le (f 0) (g 0))(h1:Le (f 1) (g 1)):Le (.tup 2 f) (.tup 2 g):=Bw (fun j hj=>match j,hj with|0,_=>h0|1,_=>h1)
theorem xA {f g:Nat->AV}(h0:Le (f 0) (g 0))(h1:Le (f 1) (g 1)):Le (.agg 2 f) (.agg 2 g):=Bx (fun j hj=>match j,hj with|0,_=>h0|1,_=>h1)
theorem xB {fr:Bool}{f g:Nat->AV}(h0:Le (f 0) (g 0))(h1:Le (f 1) (g 1))(h2:Le (f 2) (g 2)):LeO (.cells fr 3 f) (.cells fr 3 g):=⟨rfl,Nat.le_refl _,fun j hj=>match j,hj with|0,_=>h0|1,_=>h1|2,_=>h2⟩
theorem xC {f g:Nat->AV}(h0:Le (f 0) (g 0))(h1:Le (f 1) (g 1))(h2:Le (f 2) (g 2)):Le (.tup 3 f) (.tup 3 g):=Bw (fun j hj=>match j,hj with|0,_=>h0|1,_=>h1|2,_=>h2)
theorem xD {f g:Nat->AV}(h0:Le (f 0) (g 0))(h1:Le (f 1) (g 1))(h2:Le (f 2) (g 2)):Le (.agg 3 f) (.agg 3 g):=Bx (fun j hj=>match j,hj with|0,_=>h0|1,_=>h1|2,_=>h2)
theorem xE {f:Nat}{a b a' b':Nat->AV}  : Le (.fn f 0 a 0 b) (.fn f 0 a' 0 b'):=Le.fn (fun j hj=>absurd hj (Nat.not_lt_zero j)) (fun j hj=>absurd hj (Nat.not_lt_zero j))
theorem xF {f:Nat}{a b a' b':Nat->AV}(h0:Le (b 0) (b' 0)):Le (.fn f 0 a 1 b) (.fn f 0 a' 1 b'):=Le.fn (fun j hj=>absurd hj (Nat.not_lt_zero j)) (fun j hj=>match j,hj with|0,_=>h0)
theorem xG {f:Nat}{a b a' b':Nat->AV}(h0:Le (b 0) (b' 0))(h1:Le (b 1) (b' 1)):Le (.fn f 0 a 2 b) (.fn f 0 a' 2 b'):=Le.fn (fun j hj=>absurd hj (Nat.not_lt_zero j)) (fun j hj=>match j,hj with|0,_=>h0|1,_=>h1)
theorem xH {f:Nat}{a b a' b':Nat->AV}(h0:Le (b 0) (b' 0))(h1:Le (b 1) (b' 1))(h2:Le (b 2) (b' 2)):Le (.fn f 0 a 3 b) (.fn f 0 a' 3 b'):=Le.fn (fun j hj=>absurd hj (Nat.not_lt_zero j)) (fun j hj=>match j,hj with|0,_=>h0|1,_=>h1|2,_=>h2)
theorem xI {f:Nat}{a b a' b':Nat->AV}(h0:Le (b 0) (b' 0))(h1:Le (b 1) (b' 1))(h2:Le (b 2) (b' 2))(h3:Le (b 3) (b' 3)):Le (.fn f 0 a 4 b) (.fn f 0 a' 4 b'):=Le.fn (fun j hj=>absurd hj (Nat.not_lt_zero j)) (fun j hj=>match j,hj with|0,_=>h0|1,_=>h1|2,_=>h2|3,_=>h3)
theorem xJ {f:Nat}{a b a' b':Nat->AV}(h0:Le (b 0) (b' 0))(h1:Le (b 1) (b' 1))(h2:Le (b 2) (b' 2))(h3:Le (b 3) (b' 3))(h4:Le (b 4) (b' 4)):Le (.fn f 0 a 5 b) (.fn f 0 a' 5 b'):=Le.fn (fun j hj=>absurd hj (Nat.not_lt_zero j)) (fun j hj=>match j,hj with|0,_=>h0|1,_=>h1|2,_=>h2|3,_=>h3|4,_=>h4)
theorem fnd {p:Prop}(h:p:=by repeat' first|exact trivial|exact Bu|exact Bs _|exact bt (by repeat' first|exact trivial|refine⟨?_,?_⟩)|exact bK (by repeat' first|exact trivial|refine⟨?_,?_⟩)|exact⟨rfl,Nat.le_refl _,fun j hj=>(by first|exact bt (by first|exact trivial|apply d7|apply aW|apply fO|apply lu|apply ro|apply rp|apply rq|apply rr|apply lv|apply nY|apply nZ|apply rt|apply ru|apply lw|apply n6|apply rx|apply ry|apply rz)|exact Bt (fP rfl).symm|exact Bt (cx rfl).symm|exact Bt (cb rfl).symm|exact Bt (gN rfl).symm|exact Bt (dv rfl).symm|exact Bt (rA rfl).symm|exact Bt (rB rfl).symm|exact Bt (rC rfl).symm|exact Bt (gO rfl).symm|exact Bt (rD rfl).symm|exact Bt (lx rfl).symm|exact Bt (rE rfl).symm|exact Bt (rF rfl).symm|exact Bt (iM rfl).symm|exact Bt (rG rfl).symm)⟩|exact⟨rfl,Nat.le_refl _,fun j hj=>(by first|exact bK (by first|exact trivial|apply d7|apply aW|apply fO|apply lu|apply ro|apply rp|apply rq|apply rr|apply lv|apply nY|apply nZ|apply rt|apply ru|apply lw|apply n6|apply rx|apply ry|apply rz)|exact Bt (fP rfl)|exact Bt (cx rfl)|exact Bt (cb rfl)|exact Bt (gN rfl)|exact Bt (dv rfl)|exact Bt (rA rfl)|exact Bt (rB rfl)|exact Bt (rC rfl)|exact Bt (gO rfl)|exact Bt (rD rfl)|exact Bt (lx rfl)|exact Bt (rE rfl)|exact Bt (rF rfl)|exact Bt (iM rfl)|exact Bt (rG rfl))⟩|refine xu ?_|refine xy ?_ ?_|refine xB ?_ ?_ ?_|refine xw ?_|refine xz ?_ ?_|refine xC ?_ ?_ ?_|refine xx ?_|refine xA ?_ ?_|refine xD ?_ ?_ ?_|exact xE|refine xF ?_|refine xG ?_ ?_|refine xH ?_ ?_ ?_|refine xI ?_ ?_ ?_ ?_|refine xJ ?_ ?_ ?_ ?_ ?_|exact rfl|omega|refine⟨?_,?_⟩):p:=h
theorem krf {p:Prop}(h:p:=by first|kernel_rfl|(show _=_;kernel_rfl)):p:=h
theorem doS {f:FuncId}{args args0:List AV}{hp hp0 hp0' hp':List AObj}{g:R.σ}{oc oc0:Oc}(ids:List Nat)(n:Nat)(h:∀(R:Res) (g:R.σ),Does P R f args0 hp0 g oc0 hp0' g)(hn:hp.length=n:=by rfl)(hlt:bF ids n=true:=by rfl)(hnd:cK ids=true:=by rfl)
  (hob:cZ (ar ids n) hp ids hp0:=by exact fnd) (hlive:dE hp0:=by exact fnd)
  (e1:leL args (args0.map (aK (ar ids n))):=by exact fnd) (e2:jG (iC (ar (ids++rng (hp0'.length-ids.length) n) (n+(hp0'.length-ids.length))) oc0) oc:=by exact fnd)
  (e3:leH (cw (ar (ids++rng (hp0'.length-ids.length) n) (n+(hp0'.length-ids.length))) ids hp0' (ca ids hp)) hp':=by exact fnd):Does P R f args hp g oc hp' g:=
 eI ids n h hn hlt hnd hob hlive e1 e2 e3
theorem doT {T:Mem->Prop}[hT:Tab T R]{f:FuncId}{args args0:List AV}{hp hp0 hp0' hp':List AObj}{g:R.σ}{oc oc0:Oc}(ids:List Nat)(n:Nat)(h:∀(R:Res),Tab T R->∀g:R.σ,Does P R f args0 hp0 g oc0 hp0' g)(hn:hp.length=n:=by rfl)(hlt:bF ids n=true:=by rfl)(hnd:cK ids=true:=by rfl)
  (hob:cZ (ar ids n) hp ids hp0:=by exact fnd) (hlive:dE hp0:=by exact fnd)
  (e1:leL args (args0.map (aK (ar ids n))):=by exact fnd) (e2:jG (iC (ar (ids++rng (hp0'.length-ids.length) n) (n+(hp0'.length-ids.length))) oc0) oc:=by exact fnd)
  (e3:leH (cw (ar (ids++rng (hp0'.length-ids.length) n) (n+(hp0'.length-ids.length))) ids hp0' (ca ids hp)) hp':=by exact fnd):Does P R f args hp g oc hp' g:=
 er hT ids n h hn hlt hnd hob hlive e1 e2 e3
theorem toS {k0:Nat}{s s':St R.σ}(ids:List Nat)(n:Nat)(hfr:kR (ar ids n) s.fr s'.fr:=by exact fnd)(hob:cZ (ar ids n) s.hp ids s'.hp:=by exact fnd)(hn:s.hp.length=n:=by rfl)(hlt:bF ids n=true:=by rfl)(hnd:cK ids=true:=by rfl)(hk:jA k0 0 ids=true:=by rfl)(hg:s'.g=s.g:=by rfl):To R k0 s s':=
 d5 ids n hn hlt hnd hk hg hfr hob
theorem toL {k0:Nat}{s s':St R.σ}(h1:jv s.fr s'.fr:=by exact fnd)(h2:leH s.hp s'.hp:=by exact fnd)(hg:s'.g=s.g:=by rfl):To R k0 s s':=iy h1 h2 hg
theorem spW {f:FuncId}{args:List AV}{hp hp':List AObj}{g g':R.σ}{oc:Oc}{nt:Nat}{rs:List ResultVar}{k0:Nat}
  (h:Wp P R nt k0 .top (aw P f) [] (bC P R k0 rs oc hp' g') ⟨ck 0 args,hp,g⟩) (hb:fI P f args.length=true:=by kernel_rfl) (hnt:bE P f=nt:=by kernel_rfl) (hrs:cE P f=rs:=by kernel_rfl) (hk:hp.length=k0:=by rfl):Does P R f args hp g oc hp' g':=
 dR hb hnt hrs hk h
section
variable {nt k0:Nat}{r:Rd}{b:Code}{Q:AEx->St R.σ->Prop}
theorem vcR {p:List Nat}{s:St R.σ}(cuts:List (List Nat))(keep:Nat->List Nat)(orc:Nat->List (Nat × ROrc R.σ))(q:(AEx->St R.σ->Prop)->Prop)(h:q Q)(e:∀Q,vc P R nt k0 r b cuts keep orc Q 1000 (.at_ p []) s=q Q:=by intro _;kernel_rfl):Wp P R nt k0 r b p Q s:=
 vcQ cuts keep orc q e h
end
abbrev WpC (P:Program)(R:Res)(nt k0 f:Nat)(p:List Nat)(Q:AEx->St R.σ->Prop)(ks:List Kont)(s:St R.σ):Prop:=Wp P R nt k0 Rd.top (aw P f) p (aS P R nt k0 Rd.top (aw P f) Q ks) s
abbrev Flw (P:Program):Prop:=Tables.follows P.toTables Departure.mixedOrders=true
end Go.Avm
namespace Go.Avm.Pack
open Go Go.Avm Go.Proofs
open Go.IntKind (i64 u64)
open Go.Avm.AV (int bool any fz fp sl ow ref fn ifc val agg tup)
open Go.Avm.AObj (cells dead)
open Go.Avm.Oc (ret)
set_option maxRecDepth 4000
structure Lit where
 atom:Int
 neg:Bool
 deriving Inhabited,DecidableEq
instance:Inhabited Fz:=⟨.nil⟩
structure KL (U:Type) where
 l:List U
 k:Fz
 deriving Inhabited
structure Rule where
 head:Int
 body:KL Lit
 deriving Inhabited
structure Prg where
 atoms:Int
 rules:KL Rule
 deriving Inhabited
structure Step where
 rule:Int
 atoms:KL Int
 deriving Inhabited
def iN (r:Lit):Nat->AV:=nth [.int .i64 r.atom,.bool r.neg]
def bz (r:Lit):AV:=.agg 2 (nth [.int .i64 r.atom,.bool r.neg])
def am (x:KL Lit):AV:=.fz x.k 2 x.l.length (fun i=>iN (x.l.getD i default))
def ah (x:KL Int):AV:=.fz x.k 1 x.l.length (fun i _=>.int .i64 (x.l.getD i 0))
def bG (r:Rule):Nat->AV:=nth [.int .i64 r.head,am r.body]
def bU (r:Rule):AV:=.agg 2 (nth [.int .i64 r.head,am r.body])
def ad (x:KL Rule):AV:=.fz x.k 2 x.l.length (fun i=>bG (x.l.getD i default))
def av (p:Prg):AV:=.agg 2 (nth [.int .i64 p.atoms,ad p.rules])
def cS (s:Step):Nat->AV:=nth [.int .i64 s.rule,ah s.atoms]
def bo (s:Step):AV:=.agg 2 (nth [.int .i64 s.rule,ah s.atoms])
def aB (x:KL Step):AV:=.fz x.k 2 x.l.length (fun i=>cS (x.l.getD i default))
def dw (n:Nat)(q:Nat->KL Int):AV:=.fz .auto 1 n (fun i _=>ah (q i))
theorem n6 (r:Lit):Below 0 (bz r):=⟨⟨trivial,trivial⟩,trivial⟩
theorem lw (r:Rule):Below 0 (bU r):=⟨⟨trivial,trivial⟩,trivial⟩
theorem ry (r:Step):Below 0 (bo r):=⟨⟨trivial,trivial⟩,trivial⟩
theorem dG (R:Res)(n lo hi:Int)(hp:List AObj)(g:R.σ):Does Tryd.prog R 58 [.int .i64 n,.int .i64 lo,.int .i64 hi] hp g (.ret (.bool (decide (lo<=n/\n<=hi)))) hp g:=by
 refine bx (fun R g=>?_) (by exact⟨trivial,trivial,trivial,trivial⟩) R hp g
 refine spW (nt:=15) (rs:=[.tmp 6]) (k0:=0) ?_
 refine vcR [] (lkL [(0,[0,1,2]),(1,[6])]) (fun _=>[]) (fun (Q:AEx->St R.σ->Prop)=>Q AEx.ret (St.mk [(6,AV.bool (bif decide (n >= lo) then decide (n<=hi) else false))] [] g)) (?_)
 refine(aq (aP _ _ rfl trivial rfl rfl rfl) (Bt ?_))
 show(AV.bool (bif decide (n >= lo) then decide (n<=hi) else false))=_
 show AV.bool _=_
 by_cases h:lo<=n <;> simp[h]
theorem n7 (R:Res)(n lo hi:Int)(hp:List AObj)(g:R.σ):Does Tryd.prog R 62 [.int .i64 n,.int .i64 lo,.int .i64 hi] hp g (.ret (.bool (decide (lo<=n/\n<=hi)))) hp g:=by
 refine bx (fun R g=>?_) (by exact⟨trivial,trivial,trivial,trivial⟩) R hp g
 refine spW (nt:=15) (rs:=[.tmp 6]) (k0:=0) ?_
 refine vcR [] (lkL [(0,[0,1,2]),(1,[6])]) (fun _=>[]) (fun (Q:AEx->St R.σ->Prop)=>Q AEx.ret (St.mk [(6,AV.bool (bif decide (n >= lo) then decide (n<=hi) else false))] [] g)) (?_)
 refine(aq (aP _ _ rfl trivial rfl rfl rfl) (Bt ?_))
 show(AV.bool (bif decide (n >= lo) then decide (n<=hi) else false))=_
 show AV.bool _=_
 by_cases h:lo<=n <;> simp[h]
def aF {U:Type}(q:U->Bool):List U->Nat->Int
 |[],_=> -1
 |x::r,i=>if q x then i else aF q r (i+1)
theorem n9 {U:Type}(q:U->Bool):∀(l:List U) (i:Nat),decide (aF q l i >= 0)=l.any q:=by
 intro l
 induction l with
 |nil=>intro i;simp[aF]
 |cons x r ih=>
  intro i
  unfold aF
  cases hq:q x with
  |true=>simp[hq]
  |false=>simp only[List.any_cons,hq,Bool.false_or];exact ih (i+1)
theorem fQ {U:Type}(l:List U)(d:U){i:Nat}(h:i<l.length):l.drop i=l.getD i d::l.drop (i+1):=by
 rw[List.drop_eq_getElem_cons h]
 simp[List.getD,h]
theorem bO {U:Type}(l:List U)(d:U){i:Nat}(h:i<l.length):l.getD i d∈l:=by
 simp[List.getD,h]
theorem xK (R:Res)(l:KL Lit)(u:Value)(q:Lit->Bool)(g:R.σ)(hl:l.l.length<1000000)
  (hu:∀r,r∈l.l->∀hp,VDoes Tryd.prog R u [bz r] hp g (.ret (.bool (q r))) hp g) :
  Does Tryd.prog R 94 [am l,.val u] [] g (.ret (.int .i64 (aF q l.l 0))) [] g:=by
 refine spW (nt:=19) (rs:=[.tmp 4]) (k0:=0) ?_
 refine vcR [] (lkL [(0,[0,1]),(1,[0,1,7,8])]) (fun _=>[]) (fun (Q:AEx->St R.σ->Prop)=>WpC Tryd.prog R 19 0 94 [1,0,1,0] Q [Kont.blk 0,Kont.seq [1,1]] (St.mk [(0,am l),(1,val u),(7,i6 (↑(List.length l.l):Int)),(8,i6 0)] [] g)) (?_)
 refine(a9 krf (fun (i:Nat)=>⟨[(0,am l),(1,val u),(7,i6 (l.l.length:Int)),(8,.int .i64 (i:Int))],[],g⟩) (fun (i:Nat)=>(i<=l.l.length/\aF q l.l 0=aF q (l.l.drop i) i)) (fun (i:Nat)=>(l.l.length-i)) 0 (aT ⟨Bs _,Bs _,Bs _,(Bt krf),trivial⟩ rfl rfl) ?_ (fun i hi=>?_))
 ·exact⟨Nat.zero_le _,rfl⟩
 ·obtain⟨h1,h2⟩:=hi
  refine vcR [] (lkL [(2,[0,1,7,8,9]),(3,[0,1,5,7,8]),(4,[0,1,5,7,8,16]),(5,[4]),(6,[0,1,7,8])]) (lkL [(4,[(5,ROrc.kcall (AV.bool (q (List.getD l.l i default))))])]) (fun Q=>(fun (u1:Int)=>(fun (u2:Int)=>(fun (u3:Lit)=>(decide (u2<u1)=true->(0<=u2/\u2<u1)/\2<=2/\VDoes Tryd.prog R u [bz u3] [] g (ret (AV.bool (q u3))) [] g/\(q u3=true->Q AEx.ret (St.mk [(4,i6 u2)] [] g))/\(q u3=false->(-9223372036854775808<=u2+1/\u2+1<=9223372036854775807)/\Q AEx.normal (St.mk [(0,am l),(1,val u),(7,i6 u1),(8,i6 (u2+1))] [] g)))/\(decide (u2<u1)=false->Q (AEx.exit 0) (St.mk [(0,am l),(1,val u),(7,i6 u1),(8,i6 u2),(9,AV.bool (decide (u2<u1)))] [] g))) (List.getD l.l i default)) ((↑i:Int))) ((↑(List.length l.l):Int))) ⟨fun c1=>have c1:(↑i:Int)<(↑(List.length l.l):Int):=(of_decide_eq_true c1);⟨omg,omg,(hu _ ?_ _),fun c2=>?_,fun c2=>⟨omg,?_⟩⟩,fun c1=>have c1:¬(↑i:Int)<(↑(List.length l.l):Int):=(of_decide_eq_false c1);?_⟩
  ·exact bO l.l default omg
  ·refine⟨_,BE _,(aq (aP _ _ rfl trivial rfl rfl rfl) (Bt ?_))⟩
   show(i6 (↑i:Int))=_
   show AV.int _ _=AV.int _ _
   rw[h2,fQ l.l default omg];unfold aF;rw[if_pos c2]
  ·refine(aO (i+1) (aT ⟨Bs _,Bs _,Bs _,(Bt krf),trivial⟩ rfl rfl) ?_ ?_)
   ·refine⟨omg,?_⟩
    rw[h2,fQ l.l default omg];conv=>lhs;unfold aF
    rw[c2];rfl
   ·omega
  ·refine⟨_,BE _,vcR [] (lkL [(7,[4])]) (fun _=>[]) (fun (Q:AEx->St R.σ->Prop)=>Q AEx.ret (St.mk [(4,i6 (-1))] [] g)) (?_)⟩
   refine(aq (aP _ _ rfl trivial rfl rfl rfl) (Bt ?_))
   show(i6 (-1))=_
   show AV.int _ _=AV.int _ _
   rw[h2,List.drop_eq_nil_of_le omg];rfl
theorem xL (R:Res)(l:KL Lit)(u:Value)(q:Lit->Bool)(g:R.σ)(hl:l.l.length<1000000)
  (hu:∀r,r∈l.l->∀hp,VDoes Tryd.prog R u [bz r] hp g (.ret (.bool (q r))) hp g) :
  Does Tryd.prog R 50 [am l,.val u] [] g (.ret (.bool (l.l.any q))) [] g:=by
 refine spW (nt:=9) (rs:=[.tmp 4]) (k0:=0) ?_
 refine vcR [] (lkL [(0,[0,1]),(1,[4])]) (lkL [(1,[(2,ROrc.kcall (i6 (aF q l.l 0)))])]) (fun Q=>(true=true/\Does Tryd.prog R 94 [am l,val u] [] g (ret (i6 (aF q l.l 0))) [] g)/\Q AEx.ret (St.mk [(4,AV.bool (decide (aF q l.l 0 >= 0)))] [] g)) ⟨⟨rfl,(xK _ _ _ _ _ omg (fun _ _ _=>hu _ omg _))⟩,?_⟩
 refine(aq (aP _ _ rfl trivial rfl rfl rfl) (Bt ?_))
 show(AV.bool (decide (aF q l.l 0 >= 0)))=_
 show AV.bool _=AV.bool _
 rw[n9]
theorem gl (R:Res)(l:KL Lit)(f na nb:Nat)(a b:Nat->AV)(q:Lit->Bool)(hp:List AObj)(g:R.σ)(hl:l.l.length<1000000)(hpl:cg Tryd.prog f=true)
  (h:∀r,r∈l.l->Does Tryd.prog R f (tab na 0 a++[bz r]++tab nb 0 b) hp g (.ret (.bool (q r))) hp g) :
  Does Tryd.prog R 50 [am l,.fn f na a nb b] hp g (.ret (.bool (l.l.any q))) hp g:=
 kT (pre:=[am l]) (D:=fun r=>r∈l.l) (args:=fun r=>[bz r]) (oc1:=fun r=>.ret (.bool (q r))) ⟨trivial,trivial⟩ hpl (fun r=>⟨n6 r,trivial⟩) (fun _=>trivial) h
  (fun R' g' u hu=>xL R' l u q g' hl hu)
theorem rH (R:Res)(l:KL Rule)(u:Value)(q:Rule->Bool)(g:R.σ)(hl:l.l.length<1000000)
  (hu:∀r,r∈l.l->∀hp,VDoes Tryd.prog R u [bU r] hp g (.ret (.bool (q r))) hp g) :
  Does Tryd.prog R 112 [ad l,.val u] [] g (.ret (.int .i64 (aF q l.l 0))) [] g:=by
 refine spW (nt:=19) (rs:=[.tmp 4]) (k0:=0) ?_
 refine vcR [] (lkL [(0,[0,1]),(1,[0,1,7,8])]) (fun _=>[]) (fun (Q:AEx->St R.σ->Prop)=>WpC Tryd.prog R 19 0 112 [1,0,1,0] Q [Kont.blk 0,Kont.seq [1,1]] (St.mk [(0,ad l),(1,val u),(7,i6 (↑(List.length l.l):Int)),(8,i6 0)] [] g)) (?_)
 refine(a9 krf (fun (i:Nat)=>⟨[(0,ad l),(1,val u),(7,i6 (l.l.length:Int)),(8,.int .i64 (i:Int))],[],g⟩) (fun (i:Nat)=>(i<=l.l.length/\aF q l.l 0=aF q (l.l.drop i) i)) (fun (i:Nat)=>(l.l.length-i)) 0 (aT ⟨Bs _,Bs _,Bs _,(Bt krf),trivial⟩ rfl rfl) ?_ (fun i hi=>?_))
 ·exact⟨Nat.zero_le _,rfl⟩
 ·obtain⟨h1,h2⟩:=hi
  refine vcR [] (lkL [(2,[0,1,7,8,9]),(3,[0,1,5,7,8]),(4,[0,1,5,7,8,16]),(5,[4]),(6,[0,1,7,8])]) (lkL [(4,[(5,ROrc.kcall (AV.bool (q (List.getD l.l i default))))])]) (fun Q=>(fun (u1:Int)=>(fun (u2:Int)=>(fun (u3:Rule)=>(decide (u2<u1)=true->(0<=u2/\u2<u1)/\2<=2/\VDoes Tryd.prog R u [bU u3] [] g (ret (AV.bool (q u3))) [] g/\(q u3=true->Q AEx.ret (St.mk [(4,i6 u2)] [] g))/\(q u3=false->(-9223372036854775808<=u2+1/\u2+1<=9223372036854775807)/\Q AEx.normal (St.mk [(0,ad l),(1,val u),(7,i6 u1),(8,i6 (u2+1))] [] g)))/\(decide (u2<u1)=false->Q (AEx.exit 0) (St.mk [(0,ad l),(1,val u),(7,i6 u1),(8,i6 u2),(9,AV.bool (decide (u2<u1)))] [] g))) (List.getD l.l i default)) ((↑i:Int))) ((↑(List.length l.l):Int))) ⟨fun c1=>have c1:(↑i:Int)<(↑(List.length l.l):Int):=(of_decide_eq_true c1);⟨omg,omg,(hu _ ?_ _),fun c2=>?_,fun c2=>⟨omg,?_⟩⟩,fun c1=>have c1:¬(↑i:Int)<(↑(List.length l.l):Int):=(of_decide_eq_false c1);?_⟩
  ·exact bO l.l default omg
  ·refine⟨_,BE _,(aq (aP _ _ rfl trivial rfl rfl rfl) (Bt ?_))⟩
   show(i6 (↑i:Int))=_
   show AV.int _ _=AV.int _ _
   rw[h2,fQ l.l default omg];unfold aF;rw[if_pos c2]
  ·refine(aO (i+1) (aT ⟨Bs _,Bs _,Bs _,(Bt krf),trivial⟩ rfl rfl) ?_ ?_)
   ·refine⟨omg,?_⟩
    rw[h2,fQ l.l default omg];conv=>lhs;unfold aF
    rw[c2];rfl
   ·omega
  ·refine⟨_,BE _,vcR [] (lkL [(7,[4])]) (fun _=>[]) (fun (Q:AEx->St R.σ->Prop)=>Q AEx.ret (St.mk [(4,i6 (-1))] [] g)) (?_)⟩
   refine(aq (aP _ _ rfl trivial rfl rfl rfl) (Bt ?_))
   show(i6 (-1))=_
   show AV.int _ _=AV.int _ _
   rw[h2,List.drop_eq_nil_of_le omg];rfl
theorem xM (R:Res)(l:KL Rule)(f na nb:Nat)(a b:Nat->AV)(q:Rule->Bool)(hp:List AObj)(g:R.σ)(hl:l.l.length<1000000)(hpl:cg Tryd.prog f=true)
  (h:∀r,r∈l.l->Does Tryd.prog R f (tab na 0 a++[bU r]++tab nb 0 b) hp g (.ret (.bool (q r))) hp g) :
  Does Tryd.prog R 112 [ad l,.fn f na a nb b] hp g (.ret (.int .i64 (aF q l.l 0))) hp g:=
 kT (pre:=[ad l]) (D:=fun r=>r∈l.l) (args:=fun r=>[bU r]) (oc1:=fun r=>.ret (.bool (q r))) ⟨trivial,trivial⟩ hpl (fun r=>⟨lw r,trivial⟩) (fun _=>trivial) h
  (fun R' g' u hu=>rH R' l u q g' hl hu)
theorem xN (R:Res)(l:KL Rule)(u:Value)(q:Rule->Bool)(g:R.σ)(hl:l.l.length<1000000)
  (hu:∀r,r∈l.l->∀hp,VDoes Tryd.prog R u [bU r] hp g (.ret (.bool (q r))) hp g) :
  Does Tryd.prog R 120 [ad l,.val u] [] g (.ret (.bool (l.l.any q))) [] g:=by
 refine spW (nt:=9) (rs:=[.tmp 4]) (k0:=0) ?_
 refine vcR [] (lkL [(0,[0,1]),(1,[4])]) (lkL [(1,[(2,ROrc.kcall (i6 (aF q l.l 0)))])]) (fun Q=>(true=true/\Does Tryd.prog R 112 [ad l,val u] [] g (ret (i6 (aF q l.l 0))) [] g)/\Q AEx.ret (St.mk [(4,AV.bool (decide (aF q l.l 0 >= 0)))] [] g)) ⟨⟨rfl,(rH _ _ _ _ _ omg (fun _ _ _=>hu _ omg _))⟩,?_⟩
 refine(aq (aP _ _ rfl trivial rfl rfl rfl) (Bt ?_))
 show(AV.bool (decide (aF q l.l 0 >= 0)))=_
 show AV.bool _=AV.bool _
 rw[n9]
theorem xO (R:Res)(l:KL Rule)(f na nb:Nat)(a b:Nat->AV)(q:Rule->Bool)(hp:List AObj)(g:R.σ)(hl:l.l.length<1000000)(hpl:cg Tryd.prog f=true)
  (h:∀r,r∈l.l->Does Tryd.prog R f (tab na 0 a++[bU r]++tab nb 0 b) hp g (.ret (.bool (q r))) hp g) :
  Does Tryd.prog R 120 [ad l,.fn f na a nb b] hp g (.ret (.bool (l.l.any q))) hp g:=
 kT (pre:=[ad l]) (D:=fun r=>r∈l.l) (args:=fun r=>[bU r]) (oc1:=fun r=>.ret (.bool (q r))) ⟨trivial,trivial⟩ hpl (fun r=>⟨lw r,trivial⟩) (fun _=>trivial) h
  (fun R' g' u hu=>xN R' l u q g' hl hu)
end Go.Avm.Pack
