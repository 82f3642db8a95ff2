/- Part 2 of the proof: lemmas. -/
import Derived.Test.YtbdagmhndndliaaDoorM1
namespace Go.Avm
open Go
section
variable {P:Program}{R:Res}
theorem jE {k0:Nat}{hp':List AObj}{g g':R.σ}{FM:Mem}{Z:Plc}{w:World}{s s':St R.σ}{v:AV}{FM':Mem}{Z':Plc}{w':World}{u:Value}(hC:Z.length=k0)(ok':Ok R s.hp s.g FM' Z' w')(go':Goes R g FM Z w s.g FM' Z' w')(hd:Den FM' Z' v u)
  (hto:To R k0 ⟨[(0,v)],s.hp,s.g⟩ s') (e1:s'.hp=hp') (e2:s'.g=g'):∃FM'' Z'',Den FM'' Z'' (lk s'.fr 0) u/\Ok R hp' g' FM'' Z'' w'/\Goes R g FM Z w g' FM'' Z'' w':=by
 obtain⟨FM'',Z'',a1,a2,a3,a4,a5,a6,a7⟩:=hto Z FM' Z' w' (fun t=>if t=0 then u else undef) hC go'.sub ok' (fun t=>by
  unfold lk
  cases hb:Nat.beq t 0 with
  |true=>have:=Nat.eq_of_beq_eq_true hb
         subst this;exact hd
  |false=>trivial)
 have hd':=a2 0
 simp only[if_true] at hd'
 subst e1
 subst e2
 refine⟨FM'',Z'',hd',a1,⟨fun b o hb=>a4 b o (go'.ext.fm b o hb),fun b o hb=>?_,fun b hb=>go'.ext.blk b (a6 b hb),go'.ext.keep,go'.ext.size,go'.ext.os,go'.ext.tape,go'.ext.output⟩,by rw[a7];exact go'.bn,a3⟩
 rcases a5 b o hb with h1|h1
 ·exact go'.ext.grow b o h1
 ·rcases go'.ext.blk b h1 with h2|h2
  ·exact .inr (.inr (.inl h2))
  ·exact .inr (.inl h2)
def dp (rec:Bool):Option Value->FrameMode
 |none=>.returning
 |some v=>.panicking [{ v:=v,recovered:=rec }]
def qD (FM:Mem)(Z:Plc):Option AV->Option Value->Prop
 |none,none=>True
 |some x,some v=>Den FM Z x v
 |_,_=>False
def rvA:Option AV->AV
 |none=>.nili
 |some x=>x
structure DoesD (P:Program)(R:Res)(f:FuncId)(args:List AV)(hp:List AObj)(g:R.σ)(rv:Option AV)(hp':List AObj)(g':R.σ):Prop where
 h:∀FM Z w vs u,Ok R hp g FM Z w->bS FM Z args vs->qD FM Z rv u ->
  CallsD P f vs (dp false u) w (fun e u' w'=>(∃r,e=.returned r)/\u'=dp true u/\∃FM' Z',Ok R hp' g' FM' Z' w'/\Goes R g FM Z w g' FM' Z' w')
def gI (d0 d1:Nat):List Oper->Bool
 |[o,p]=>(match o.op with
  |.call c=>(match c.callee with
   |.builtin .recover=>c.args.isEmpty
   |_=>false)
  |_=>false)&&(match p.op with
  |.assign (.tmp t)=>Nat.beq t d0
  |_=>false)&&eR d0 o.dst&&eR d1 p.dst&&cg o.guard&&cg p.guard
 |_=>false
theorem vF {d0 d1:Nat}:∀{l:List Oper},gI d0 d1 l=true->∃o p,l=[o,p]
 |[],h=>by simp[gI] at h
 |[_],h=>by simp[gI] at h
 |[o,p],_=>⟨o,p,rfl⟩
 |_::_::_::_,h=>by simp[gI] at h
theorem vG {f:FuncId}{fn:Func}{id:Nat}{ops:Array Oper}{B:Code}{args:List AV}{hp hp':List AObj}{g g':R.σ}{rv:Option AV}(d0 d1:Nat)(hf:P.funcs[f]? = some fn)(hb:fn.body=some (.seq (.region id ops false) B))
  (hops:gI d0 d1 ops.toList=true) (h0:args.length<=d0) (h1:args.length<=d1) (h2:d0≠d1) (h3:d0<fn.ntmps) (h4:d1<fn.ntmps)
  (h:wpA P R fn.ntmps hp.length .no B (bK P R hp.length fn.results.toList (.ret (.tup 0 (nth []))) hp' g') ⟨(d1,rvA rv)::cj 0 args,hp,g⟩):DoesD P R f args hp g rv hp' g':=by
 refine⟨fun FM Z w vs u ok hvs hrv=>callsD_of_wpS hf hb (fun c₀ cs hc=>wpS_seq (wpS_region ?_))⟩
 obtain⟨o,p,rfl⟩:∃o p,ops=#[o,p]:=by
  obtain⟨o,p,e⟩:=vF hops
  exact⟨o,p,Array.ext' e⟩
 simp only[gI,Bool.and_eq_true] at hops
 obtain⟨⟨⟨⟨⟨ho,hp0⟩,hd0⟩,hd1⟩,hg0⟩,hg1⟩:=hops
 have noG:∀{x:Option (Nat × Bool)},cg x=true->x=none:=fun {x} h=>by cases x <;> first|rfl|cases h
 have hg0:=noG hg0
 have hg1:=noG hg1
 have hd0:=ie.1 hd0
 have hd1:=ie.1 hd1
 have hrec:∀ev:Operand->Value,(execOp ev o).run P w=.ok .recover w:=by
  intro ev
  split at ho
  ·rename_i c hop
   split at ho
   ·rename_i hcal
    have:c.args=#[]:=by simpa using ho
    simp[execOp,hop,resolve,hcal,this,invoke,builtin]
   ·cases ho
  ·cases ho
 have hasg:∀ev:Operand->Value,(execOp ev p).run P w=.ok (.value (ev (.tmp d0))) w:=by
  intro ev
  split at hp0
  ·rename_i t hop
   have:=Nat.eq_of_beq_eq_true hp0
   subst this
   simp[execOp,hop]
  ·cases hp0
 have hw0:∀t,Region.wanted o t=true:=fun t=>by simp[Region.wanted,hg0]
 have hw1:∀t,Region.wanted p t=true:=fun t=>by simp[Region.wanted,hg1]
 have hsz:(vs++Array.replicate (fn.ntmps-vs.size) undef).size=fn.ntmps:=by simp[hvs.1];omega
 -- what comes behind, whatever was recovered
 have main:∀(v:Value) (cs':List Frame),Den FM Z (rvA rv) v->cs'={ c₀ with mode:=dp true u }::cs ->
   B.wpS P (bodyPostS P fn c₀ cs (fun e u' w'=>(∃r,e=.returned r)/\u'=dp true u/\∃FM' Z',Ok R hp' g' FM' Z' w'/\Goes R g FM Z w g' FM' Z' w'))
    (({ tmps:=vs++Array.replicate (fn.ntmps-vs.size) undef,defers:=[] }:Act).put (some d0) v |>.put (some d1) v) cs' w:=by
  intro v cs' hv hcs
  refine wpS_of_wp ((wpIn_wide (n:=0)).1 ?_)
  let C:Cx R:=⟨g,FM,Z,w,[],false⟩
  have hsat:Sat R C fn.ntmps ⟨(d1,rvA rv)::cj 0 args,hp,g⟩ FM Z (({ tmps:=vs++Array.replicate (fn.ntmps-vs.size) undef,defers:=[] }:Act).put (some d0) v |>.put (some d1) v) w:=by
   refine⟨ok,AW _ _ _ _ _,by rw[ic,ic];exact hsz,by rw[jh,jh];exact .start,fun t=>?_⟩
   show Den FM Z (lk ((d1,rvA rv)::cj 0 args) t) _
   unfold lk
   cases hbt:Nat.beq t d1 with
   |true=>
    have:=Nat.eq_of_beq_eq_true hbt
    subst this
    rw[jg (by rw[ic,hsz];exact h4)]
    exact hv
   |false=>
    have hne:t≠d1:=fun e=>by subst e;simp at hbt
    simp only[cond_false]
    rw[kR]
    simp only[Nat.zero_le,if_true,Nat.sub_zero]
    rcases Nat.lt_or_ge t args.length with ht|ht
    ·rw[eC (fun e=>hne (by simpa using e.symm)),eC (fun e=>by have:d0=t:=by simpa using e
                                                              omega)]
     have:=hvs.2 t ht
     have e:(vs++Array.replicate (fn.ntmps-vs.size) undef).getD t undef=vs.getD t undef:=by
      rw[Array.getD_eq_getD_getElem?,Array.getD_eq_getD_getElem?,Array.getElem?_append,if_pos (by rw[hvs.1];exact ht)]
     show Den FM Z _ ((vs++Array.replicate (fn.ntmps-vs.size) undef).getD t undef)
     rw[e];exact this
    ·rw[jv _ _ ht];trivial
  have hC:C.Z.length=hp.length:=ok.rel.len
  refine wpIn_mono (h C ⟨hC,rfl⟩ 0 _ w ⟨FM,Z,hsat⟩) (fun e a w' hpost=>?_)
  have ret:(∃s,(∃v ob x s',eh (aA P) s fn.results.toList=some (v,ob)/\aq ob/\Oc.ret (.tup 0 (nth []))=.ret x/\To R hp.length ⟨[(0,v)],s.hp,s.g⟩ s'/\lk s'.fr 0=x/\s'.hp=hp'/\s'.g=g')/\dV R C fn.ntmps s a w') ->
    a.defers=[]/\∃u',cs'={ c₀ with mode:=u' }::cs/\∃v,(results fn a.tmps).run P w'=.ok v w'/\((∃r,Ending.returned v=.returned r)/\u'=dp true u/\∃FM' Z',Ok R hp' g' FM' Z' w'/\Goes R g FM Z w g' FM' Z' w'):=by
   rintro ⟨s,⟨v,ob,x,s',r1,r2,_,r3,_,r4,r5⟩,FM',Z',hs⟩
   obtain⟨y,u1,u2⟩:=m5 r1 r2 hs.ok hs.fr
   obtain⟨FM'',Z'',d1,d2,d3⟩:=jE hC hs.ok hs.goes u2 r3 r4 r5
   exact⟨hs.defs.none,_,hcs,y,u1,⟨y,rfl⟩,rfl,FM'',Z'',d2,d3⟩
  cases e with
  |normal=>exact ret hpost
  |ret=>exact ret hpost
  |exit id=>obtain⟨s,h1,_⟩:=hpost;exact h1.elim
  |panic ch=>
   obtain⟨s,x,v,FM',Z',⟨y,s',hbad,_⟩,_⟩:=hpost
   cases hbad
  |goto l=>exact hpost
  |outgrown=>exact hpost.elim
 have hr:List.range (#[o,p]:Array Oper).size=[0,1]:=rfl
 rw[hr]
 simp only[wpOpsS,List.getElem?_toArray,List.getElem?_cons_zero,List.getElem?_cons_succ,hw0,hw1,if_true,hrec,hasg]
 have asg:∀(v:Value) (cs':List Frame),Den FM Z (rvA rv) v->cs'={ c₀ with mode:=dp true u }::cs->∀(a:Act),a=({ tmps:=vs++Array.replicate (fn.ntmps-vs.size) undef,defers:=[] }:Act).put (some d0) v ->
   p.upon P a (fun a' w'=>Exit.thenS (B.wpS P (bodyPostS P fn c₀ cs (fun e u' w'=>(∃r,e=.returned r)/\u'=dp true u/\∃FM' Z',Ok R hp' g' FM' Z' w'/\Goes R g FM Z w g' FM' Z' w'))) (bodyPostS P fn c₀ cs (fun e u' w'=>(∃r,e=.returned r)/\u'=dp true u/\∃FM' Z',Ok R hp' g' FM' Z' w'/\Goes R g FM Z w g' FM' Z' w')) .normal a' cs' w')
    (fun e a' w'=>Exit.thenS (B.wpS P (bodyPostS P fn c₀ cs (fun e u' w'=>(∃r,e=.returned r)/\u'=dp true u/\∃FM' Z',Ok R hp' g' FM' Z' w'/\Goes R g FM Z w g' FM' Z' w'))) (bodyPostS P fn c₀ cs (fun e u' w'=>(∃r,e=.returned r)/\u'=dp true u/\∃FM' Z',Ok R hp' g' FM' Z' w'/\Goes R g FM Z w g' FM' Z' w')) e a' cs' w')
    (.ok (.value (a.eval (.tmp d0))) w):=by
  intro v cs' hv hcs a ha
  show B.wpS P _ (a.put p.dst (a.eval (.tmp d0))) cs' w
  have:a.eval (.tmp d0)=v:=by
   subst ha
   exact jg (by rw[hsz];exact h3)
  rw[this,hd1,ha]
  exact main v cs' hv hcs
 cases u with
 |none=>
  cases rv with
  |some x=>exact hrv.elim
  |none=>
   have hm:c₀.mode=.returning:=hc
   have:recoverD (c₀::cs)=none:=by simp[recoverD,hm]
   simp only[this]
   rw[hd0]
   exact asg .nilIface (c₀::cs) rfl (by
    have:({ c₀ with mode:=dp true none }:Frame)=c₀:=by
     show({ c₀ with mode:=.returning }:Frame)=c₀
     rw[<-hm]
    rw[this]) _ rfl
 |some v=>
  cases rv with
  |none=>exact hrv.elim
  |some x=>
   have hm:c₀.mode=.panicking [{ v:=v,recovered:=false }]:=hc
   have:recoverD (c₀::cs)=some (v,{ c₀ with mode:=.panicking [{ v:=v,recovered:=true }] }::cs):=by simp[recoverD,hm]
   simp only[this]
   rw[hd0]
   exact asg v _ hrv rfl _ rfl
def nl (P:Program)(R:Res)(k0:Nat)(K:FuncId)(caps:List AV)(rs:List ResultVar)(oc:Oc)(hp':List AObj)(g':R.σ):AEx->St R.σ->Prop
 |.exit _,_=>False
 |.pan x,s=>∃hp1 g1,DoesD P R K caps s.hp s.g (some x) hp1 g1/\bK P R k0 rs oc hp' g' .ret ⟨s.fr,hp1,g1⟩
 |_,s=>∃hp1 g1,DoesD P R K caps s.hp s.g none hp1 g1/\bK P R k0 rs oc hp' g' .ret ⟨s.fr,hp1,g1⟩
def kW (P:Program)(R:Res)(nt k0:Nat)(B:Code)(K:FuncId)(t:Nat)(caps:List Nat)(rs:List ResultVar)(oc:Oc)(hp':List AObj)(g':R.σ):AEx->St R.σ->Prop
 |.normal,s=>lk s.fr t=.any/\wpA P R nt s.hp.length .no B (nl P R k0 K (caps.map (lk s.fr)) rs oc hp' g') s
 |_,_=>False
def gJ (K:FuncId)(t:Nat)(caps:List Nat):List Oper->Bool
 |[o,p]=>(match o.op with
  |.makeFunc (.func f) a b=>Nat.beq f K&&(a.isEmpty&&fW (b.toList.map fun x=>match x with|.tmp t=>t|_=>0) caps&&b.toList.all fun x=>match x with|.tmp _=>true|_=>false)
  |_=>false)&&(match p.op with
  |.defer c=>(match c.callee with
   |.value (.tmp u)=>Nat.beq u t&&c.args.isEmpty
   |_=>false)
  |_=>false)&&eR t o.dst&&p.dst.isNone&&cg o.guard&&cg p.guard
 |_=>false
theorem vH {K t:Nat}{caps:List Nat}:∀{l:List Oper},gJ K t caps l=true->∃o p,l=[o,p]
 |[],h=>by simp[gJ] at h
 |[_],h=>by simp[gJ] at h
 |[o,p],_=>⟨o,p,rfl⟩
 |_::_::_::_,h=>by simp[gJ] at h
theorem jF:∀{a b:List Nat},fW a b=true->a=b
 |[],[],_=>rfl
 |i::a,j::b,h=>by
  simp only[fW,Bool.and_eq_true] at h
  rw[Nat.eq_of_beq_eq_true h.1,jF h.2]
 |[],_::_,h=>by simp[fW] at h
 |_::_,[],h=>by simp[fW] at h
theorem vI {f K:FuncId}{fn:Func}{A B:Code}{id:Nat}{ops:Array Oper}{args:List AV}{hp hp':List AObj}{g g':R.σ}{oc:Oc}(t:Nat)(caps:List Nat)(hf:P.funcs[f]? = some fn)(hb:fn.body=some (.seq A (.seq (.region id ops false) B)))
  (hn:args.length<=fn.ntmps) (hops:gJ K t caps ops.toList=true) (hpl:cf P K=true) (ht:t<fn.ntmps) (hlk:∀c∈caps,c≠t)
  (hA:wpA P R fn.ntmps hp.length .no A (kW P R fn.ntmps hp.length B K t caps fn.results.toList oc hp' g') ⟨cj 0 args,hp,g⟩):Does P R f args hp g oc hp' g':=by
 refine⟨fun FM Z w vs ok hvs=>calls_of_wp_defers hf hb ((wpIn_wide (n:=0)).1 (wpIn_seq ?_))⟩
 obtain⟨o,p,he⟩:=vH hops
 obtain rfl:ops=#[o,p]:=Array.ext' he
 simp only[gJ,Bool.and_eq_true] at hops
 obtain⟨⟨⟨⟨⟨ho,hp0⟩,hd0⟩,hd1⟩,hg0⟩,hg1⟩:=hops
 have noG:∀{x:Option (Nat × Bool)},cg x=true->x=none:=fun {x} h=>by cases x <;> first|rfl|cases h
 have hg0:=noG hg0
 have hg1:=noG hg1
 have hd0:=ie.1 hd0
 have hd1:p.dst=none:=by simpa using hd1
 have hsz:(vs++Array.replicate (fn.ntmps-vs.size) undef).size=fn.ntmps:=by simp[hvs.1];omega
 let C:Cx R:=⟨g,FM,Z,w,[],false⟩
 have hsat:Sat R C fn.ntmps ⟨cj 0 args,hp,g⟩ FM Z { tmps:=vs++Array.replicate (fn.ntmps-vs.size) undef,defers:=[] } w:=by
  refine⟨ok,AW _ _ _ _ _,hsz,.start,fun t=>?_⟩
  show Den FM Z (lk (cj 0 args) t) _
  rw[kR]
  simp only[Nat.zero_le,if_true,Nat.sub_zero]
  rcases Nat.lt_or_ge t args.length with ht|ht
  ·have:=hvs.2 t ht
   have e:(vs++Array.replicate (fn.ntmps-vs.size) undef).getD t undef=vs.getD t undef:=by
    rw[Array.getD_eq_getD_getElem?,Array.getD_eq_getD_getElem?,Array.getElem?_append,if_pos (by rw[hvs.1];exact ht)]
   rw[e];exact this
  ·rw[jv _ _ ht];trivial
 have hC:C.Z.length=hp.length:=ok.rel.len
 refine wpIn_mono (hA C ⟨hC,rfl⟩ 0 _ w ⟨FM,Z,hsat⟩) (fun e a w1 hpost=>?_)
 have post:∃s FM1 Z1,e=.normal/\(lk s.fr t=.any/\wpA P R fn.ntmps s.hp.length .no B (nl P R hp.length K (caps.map (lk s.fr)) fn.results.toList oc hp' g') s)/\Sat R C fn.ntmps s FM1 Z1 a w1:=by
  cases e with
  |normal=>obtain⟨s,h1,FM1,Z1,h2⟩:=hpost;exact⟨s,FM1,Z1,rfl,h1,h2⟩
  |exit id=>obtain⟨s,h1,_⟩:=hpost;exact h1.elim
  |ret=>obtain⟨s,h1,_⟩:=hpost;exact h1.elim
  |panic ch=>obtain⟨s,x,v,FM1,Z1,h1,_⟩:=hpost;exact h1.elim
  |goto l=>exact hpost.elim
  |outgrown=>exact hpost.elim
 obtain⟨s,FM1,Z1,rfl,⟨hsl,hB⟩,hs⟩:=post
 show(Code.seq (.region id #[o,p] false) B).wpIn Fence.wide 0 P _ a w1
 refine wpIn_seq (wpIn_region ?_)
 have hr:List.range (#[o,p]:Array Oper).size=[0,1]:=rfl
 rw[hr]
 -- the closure, and the deferred call
 have hw0:∀t,Region.wanted o t=true:=fun t=>by simp[Region.wanted,hg0]
 have hw1:∀t,Region.wanted p t=true:=fun t=>by simp[Region.wanted,hg1]
 obtain⟨xs,bs,hop,hxs,hbs⟩:∃xs bs:Array Operand,o.op=.makeFunc (.func K) xs bs/\xs=#[]/\bs.toList=caps.map Operand.tmp:=by
  split at ho
  ·rename_i f' xs bs hop
   simp only[Bool.and_eq_true] at ho
   obtain⟨h1,⟨h2,h3⟩,h4⟩:=ho
   have:=Nat.eq_of_beq_eq_true h1
   subst this
   refine⟨xs,bs,hop,by simpa using h2,?_⟩
   have h3:=jF h3
   rw[<-h3,List.map_map]
   rw[List.all_eq_true] at h4
   refine(List.map_id' _).symm.trans (List.map_congr_left (fun x hx=>?_))
   have:=h4 x hx
   cases x <;> first|rfl|cases this
  ·cases ho
 subst hxs
 obtain⟨c,hpop,hcal,hcar⟩:∃c,p.op=.defer c/\c.callee=.value (.tmp t)/\c.args=#[]:=by
  split at hp0
  ·rename_i c hpop
   split at hp0
   ·rename_i u hcal
    simp only[Bool.and_eq_true] at hp0
    have:=Nat.eq_of_beq_eq_true hp0.1
    subst this
    exact⟨c,hpop,hcal,by simpa using hp0.2⟩
   ·cases hp0
  ·cases hp0
 let fv:Value:=.func (.func K) #[] (bs.map a.eval)
 have hrun0:(execOp a.eval o).run P w1=.ok (.value fv) w1:=by simp[execOp,hop,Instr.makeFunc,fv]
 let a1:Act:=a.put (some t) fv
 have ht1:a1.eval (.tmp t)=fv:=jg (by rw[hs.size];exact ht)
 let d:Deferred:={ target:=.fn (.func K) (bs.map a.eval),args:=#[] }
 have hrun1:(execOp a1.eval p).run P w1=.ok (.defer d) w1:=by
  simp[execOp,hpop,resolve,hcal,hcar,ht1,fv,Deferred.ofValue,d]
 let a2:Act:={ a1 with defers:=d::a1.defers }
 simp only[wpOpsIn,List.getElem?_toArray,List.getElem?_cons_zero,List.getElem?_cons_succ,hw0,hw1,if_true,Oper.wpIn]
 refine⟨fun _ _=>trivial,?_⟩
 have hsem0:(o.semAt Fence.wide.round a.eval).run P w1=.ok (.value fv) w1:=hrun0
 rw[hsem0,Oper.uponIn_value,hd0]
 refine⟨fun _ _=>trivial,?_⟩
 have hsem1:(p.semAt Fence.wide.round a1.eval).run P w1=.ok (.defer d) w1:=hrun1
 show p.uponIn Fence.wide 0 P a1 _ _ ((p.semAt Fence.wide.round a1.eval).run P w1)
 rw[hsem1,Oper.uponIn_defer,hd1]
 show B.wpIn Fence.wide 0 P _ a2 w1
 -- the rest
 have hdef:a1.defers=[]:=by show(a.put (some t) fv).defers=[];rw[jh];exact hs.defs.none
 let C1:Cx R:=⟨s.g,FM1,Z1,w1,[d],false⟩
 have hs2:Sat R C1 fn.ntmps s FM1 Z1 a2 w1:=by
  refine⟨hs.ok,AW _ _ _ _ _,?_,?_,fun t'=>?_⟩
  ·show a1.tmps.size=_
   rw[show a1=a.put (some t) fv from rfl,ic];exact hs.size
  ·show Dfs R ⟨[d],false⟩ w1 s.g FM1 Z1 w1 (d::a1.defers)
   rw[hdef]
   exact .start
  ·show Den FM1 Z1 (lk s.fr t') (a1.tmps.getD t' undef)
   by_cases htt:t'=t
   ·subst htt
    rw[hsl];trivial
   ·rw[show a1=a.put (some t) fv from rfl,eC (fun e=>htt (by simpa using e.symm))]
    exact hs.fr t'
 have hcaps:bS FM1 Z1 (caps.map (lk s.fr)) (bs.map a.eval):=by
  have hl:bs.size=caps.length:=by rw[<-Array.length_toList,hbs,List.length_map]
  refine⟨by simp[hl],fun i hi=>?_⟩
  have hi':i<caps.length:=by simpa using hi
  rw[dc _ _ hi]
  have hb1:bs[i]'omg=.tmp caps[i]:=by
   have:bs.toList[i]'(by rw[hbs];simpa using hi')=.tmp caps[i]:=by simp[hbs]
   simpa using this
  have:(bs.map a.eval).getD i undef=a.tmps.getD caps[i] undef:=by
   rw[Array.getD_eq_getD_getElem?,Array.getElem?_map,Array.getElem?_eq_getElem (show i<bs.size by omega)]
   show a.eval bs[i]=_
   rw[hb1]
   rfl
  rw[this,List.getElem_map]
  exact hs.fr _
 refine wpIn_mono (hB C1 ⟨(by show Z1.length=_;exact hs.ok.rel.len),rfl⟩ 0 a2 w1 ⟨FM1,Z1,hs2⟩) (fun e a' w' hpost=>?_)
 have leave:∀(s2:St R.σ) (rv:Option AV) (u:Option Value) (FM2:Mem) (Z2:Plc),Sat R C1 fn.ntmps s2 FM2 Z2 a' w'->qD FM2 Z2 rv u ->
   (∃hp1 g1,DoesD P R K (caps.map (lk s.fr)) s2.hp s2.g rv hp1 g1/\bK P R hp.length fn.results.toList oc hp' g' .ret ⟨s2.fr,hp1,g1⟩)->Leaves P fn a'.tmps (eP R g FM Z w oc hp' g') a'.defers (dp false u) w':=by
  rintro s2 rv u FM2 Z2 hs2 hrv ⟨hp1,g1,hD,v,ob,x,s',r1,r2,rfl,r3,rfl,r4,r5⟩
  rw[hs2.defs.none]
  have hcaps2:bS FM2 Z2 (caps.map (lk s.fr)) (bs.map a.eval):=⟨hcaps.1,fun i hi=>A1 hs2.goes.ext.fm _ hs2.goes.sub (hcaps.2 i hi)⟩
  have hinv:(invoke d.target d.args).run P w'=.ok (.enter K (bs.map a.eval)) w':=by
   obtain⟨fK,h1,h2,h3⟩:∃fK,P.funcs[K]? = some fK/\fK.name ≠ "runtime.NumGoroutine"/\fK.body.isSome=true:=by
    unfold cf at hpl
    split at hpl
    ·rename_i fK hfK
     simp only[Bool.and_eq_true,bne_iff_ne,ne_eq] at hpl
     exact⟨fK,hfK,hpl.1,hpl.2⟩
    ·cases hpl
   have h3':¬fK.body=none:=fun h=>by rw[h] at h3;cases h3
   simp[d,invoke,callFunc,h1,h2,h3']
  refine⟨by cases u <;> simp[dp],_,_,K,bs.map a.eval,rfl,hinv,CallsD.mono (hD.h FM2 Z2 w' _ u hs2.ok hcaps2 hrv) (fun e u' w'' hpost=>?_)⟩
  obtain⟨⟨r,rfl⟩,rfl,FM3,Z3,ok3,go3⟩:=hpost
  have hset:settle (dp true u)=.returning:=by cases u <;> simp[dp,settle]
  show Leaves P fn a'.tmps _ [] (settle (dp true u)) w''
  rw[hset]
  obtain⟨y,u1,u2⟩:=m5 r1 r2 ok3 (tmps:=a'.tmps) (fun t=>A1 go3.ext.fm _ go3.sub (hs2.fr t))
  obtain⟨FM4,Z4,d1,d2,d3⟩:=jE hC ok3 ((hs.goes.trans hs2.goes).trans go3) u2 r3 r4 r5
  exact⟨y,u1,FM4,Z4,⟨y,rfl,d1⟩,d2,d3⟩
 have thn:∀e',(∀(X:Prop),e'=e->X->X)->True:=fun _ _=>trivial
 cases e with
 |normal=>obtain⟨s2,h1,FM2,Z2,h2⟩:=hpost;exact leave s2 none none FM2 Z2 h2 trivial h1
 |ret=>obtain⟨s2,h1,FM2,Z2,h2⟩:=hpost;exact leave s2 none none FM2 Z2 h2 trivial h1
 |exit id=>obtain⟨s2,h1,_⟩:=hpost;exact h1.elim
 |panic ch=>
  obtain⟨s2,x,v,FM2,Z2,h1,h2,rfl,hd⟩:=hpost
  exact leave s2 (some x) (some v) FM2 Z2 h2 hd h1
 |goto l=>exact hpost.elim
 |outgrown=>exact hpost.elim
def qE (d0 d1:Nat):Code->Bool
 |.seq (.region _ ops false) _=>gI d0 d1 ops.toList
 |_=>false
theorem qF {f:FuncId}{args:List AV}{hp hp':List AObj}{g g':R.σ}{rv:Option AV}{nt:Nat}{rs:List ResultVar}{k0:Nat}(d0 d1:Nat)(hb:fy P f args.length=true)(hnt:bC P f=nt)(hrs:cG P f=rs)(hk:hp.length=k0)(hr:qE d0 d1 (az P f)=true)
  (h0:args.length<=d0) (h1:args.length<=d1) (h2:d0≠d1) (h3:d0<nt) (h4:d1<nt)
  (h:Wp P R nt k0 .no (az P f) [1] (bK P R k0 rs (.ret (.tup 0 (nth []))) hp' g') ⟨(d1,rvA rv)::cj 0 args,hp,g⟩):DoesD P R f args hp g rv hp' g':=by
 subst hnt hrs hk
 unfold fy at hb
 split at hb
 ·rename_i fn hfn
  simp only[Bool.and_eq_true,Nat.ble_eq] at hb
  obtain⟨c,hc⟩:=Option.isSome_iff_exists.1 hb.1
  have e1:az P f=c:=by simp[az,hfn,hc]
  have e2:bC P f=fn.ntmps:=by simp[bC,hfn]
  have e3:cG P f=fn.results.toList:=by simp[cG,hfn]
  have h':wpA P R (bC P f) hp.length .no (sub (az P f) [1]) (bK P R hp.length (cG P f) (.ret (.tup 0 (nth []))) hp' g') ⟨(d1,rvA rv)::cj 0 args,hp,g⟩:=h.h
  rw[e1,e2,e3] at h'
  rw[e1] at hr
  rw[e2] at h3 h4
  unfold qE at hr
  split at hr
  ·rename_i id ops B
   have e:sub (.seq (.region id ops false) B) [1]=B:=by cases B <;> rfl
   rw[e] at h'
   exact vG d0 d1 hfn hc hr h0 h1 h2 h3 h4 h'
  ·cases hr
 ·cases hb
def qG (K:FuncId)(t:Nat)(caps:List Nat):Code->Bool
 |.seq _ (.seq (.region _ ops false) _)=>gJ K t caps ops.toList
 |_=>false
theorem jG {f K:FuncId}{args:List AV}{hp hp':List AObj}{g g':R.σ}{oc:Oc}{nt:Nat}{rs:List ResultVar}{k0:Nat}(t:Nat)(caps:List Nat)(hb:fy P f args.length=true)(hnt:bC P f=nt)(hrs:cG P f=rs)(hk:hp.length=k0)(hd:qG K t caps (az P f)=true)
  (hpl:cf P K=true) (ht:t<nt) (hlk:∀c∈caps,c≠t)
  (h:Wp P R nt k0 .no (az P f) [0] (kW P R nt k0 (sub (az P f) [1,1]) K t caps rs oc hp' g') ⟨cj 0 args,hp,g⟩):Does P R f args hp g oc hp' g':=by
 subst hnt hrs hk
 unfold fy at hb
 split at hb
 ·rename_i fn hfn
  simp only[Bool.and_eq_true,Nat.ble_eq] at hb
  obtain⟨c,hc⟩:=Option.isSome_iff_exists.1 hb.1
  have e1:az P f=c:=by simp[az,hfn,hc]
  have e2:bC P f=fn.ntmps:=by simp[bC,hfn]
  have e3:cG P f=fn.results.toList:=by simp[cG,hfn]
  have h':wpA P R (bC P f) hp.length .no (sub (az P f) [0]) (kW P R (bC P f) hp.length (sub (az P f) [1,1]) K t caps (cG P f) oc hp' g') ⟨cj 0 args,hp,g⟩:=h.h
  rw[e1,e2,e3] at h'
  rw[e1] at hd
  rw[e2] at ht
  unfold qG at hd
  split at hd
  ·rename_i A id ops B
   have ea:sub (.seq A (.seq (.region id ops false) B)) [0]=A:=by cases A <;> rfl
   have eb:sub (.seq A (.seq (.region id ops false) B)) [1,1]=B:=by cases B <;> rfl
   rw[ea,eb] at h'
   exact vI t caps hfn hc hb.2 hd hpl ht hlk h'
  ·cases hd
 ·cases hb
theorem jH {K:FuncId}{t:Nat}{caps:List Nat}{s:St R.σ}{b:Code}{hp':List AObj}{g':R.σ}{oc:Oc}{nt:Nat}{rs:List ResultVar}{k0:Nat}(k1:Nat)(cs:List AV)(h1:lk s.fr t=.any)(hk:s.hp.length=k1)(hc:caps.map (lk s.fr)=cs)(h:Wp P R nt k1 .no b [1,1] (nl P R k0 K cs rs oc hp' g') s) :
  kW P R nt k0 (sub b [1,1]) K t caps rs oc hp' g' .normal s:=by
 subst hk hc
 exact⟨h1,h.h⟩
theorem vJ {o:Oper}{ev:Operand->AV}{hp:List AObj}{g:R.σ}{t t2:TypeId}{x:Operand}{ms:Array (String × TypeId)}(ho:o.op=.binOp .neq t x (.const .nilIface) t2)(hx:ev x=.nili)(hc:ev (.const .nilIface)=.nili)(hu:P.underlying t=some (.interface ms)) :
  OpOk P R o ev hp g (.bool false) hp g:=by
 refine⟨fun FM Z w evc ok hop=>?_⟩
 have h1:=hop x (by simp[ho,Op.operands])
 have h2:=hop (.const .nilIface) (by simp[ho,Op.operands])
 rw[hx] at h1
 rw[hc] at h2
 have h1:evc x=.nilIface:=h1
 have h2:evc (.const .nilIface)=.nilIface:=h2
 have hg:∀d,(Op.equalIn (d+1) t .nilIface .nilIface).run P w=.ok true w:=fun d=>by simp[Op.equalIn,underlying,hu]
 have he:(Op.equalIn Op.maxDepth t .nilIface .nilIface).run P w=.ok true w:=hg 9999
 refine⟨.value (.bool false),w,FM,Z,.bool false,?_,rfl,rfl,ok,AW _ _ _ _ _⟩
 simp[execOp,ho,h1,h2,eqGuard,binOp,Op.equal,he]
variable {k0:Nat}{rs:List ResultVar}{v x:AV}{s:St R.σ}{hp':List AObj}{g':R.σ}
theorem qH {x0:AV}(h:bK P R k0 rs (.pan x0) hp' g' (.pan v) s)(hle:Le x0 x):bK P R k0 rs (.pan x) hp' g' (.pan v) s:=by
 obtain⟨y,s',h3,h4,h5,h6,h7⟩:=h
 cases h3
 refine⟨x,⟨[(0,x)],s'.hp,s'.g⟩,rfl,h4.trans (aY ⟨?_,trivial⟩ rfl rfl),rfl,h6,h7⟩
 rw[h5]
 exact hle
theorem vK (hh:s.hp=hp')(hg:s.g=g')(hle:Le v x):bK P R k0 rs (.pan x) hp' g' (.pan v) s:=by
 subst hh hg
 exact qH ⟨v,_,rfl,A0 _,rfl,rfl,rfl⟩ hle
theorem jI (k:Nat)(hk:k0<=k)(hv:Below k v)(hb:aq (obT k (bl k s.hp)))(hh:bl k s.hp=hp')(hg:s.g=g')(hle:Le v x):bK P R k0 rs (.pan x) hp' g' (.pan v) s:=by
 subst hh hg
 exact qH ⟨v,_,rfl,gD k hk [0] (by exact⟨hv,hb⟩),rfl,rfl,rfl⟩ hle
end
end Go.Avm
namespace Go.Avm
open Go
def eZ (c:Nat->Bool):Nat->Nat->Nat
 |0,k=>k
 |n+1,k=>bif c k then eZ c n (k+1) else k+1
theorem kX (c:Nat->Bool):∀(n k:Nat),((∀j,k<=j->j<k+n->c j=true)/\eZ c n k=k+n)∨(∃i,k<=i/\i<k+n/\(∀j,k<=j->j<i->c j=true)/\c i=false/\eZ c n k=i+1)
 |0,k=>.inl ⟨fun j h1 h2=>omg,rfl⟩
 |n+1,k=>by
  unfold eZ
  cases h:c k with
  |false=>exact .inr ⟨k,Nat.le_refl _,omg,fun j h1 h2=>omg,h,rfl⟩
  |true=>
   rcases kX c n (k+1) with⟨h1,h2⟩|⟨i,h1,h2,h3,h4,h5⟩
   ·refine .inl ⟨fun j hj1 hj2=>?_,by simp only[cond_true];omega⟩
    rcases Nat.lt_or_ge k j with hj|hj
    ·exact h1 j hj omg
    ·have:j=k:=by omega
     subst this;exact h
   ·refine .inr ⟨i,omg,omg,fun j hj1 hj2=>?_,h4,h5⟩
    rcases Nat.lt_or_ge k j with hj|hj
    ·exact h3 j hj hj2
    ·have:j=k:=by omega
     subst this;exact h
structure SeqC (P:Program)(f:FuncId)(pre post:List AV)(N:Nat)(items:Nat->List AV)(T:Mem->Prop:=fun _=>True):Prop where
 h:∀(R:Res) [Tab T R] (u:Value) (G:Nat->R.σ) (c:Nat->Bool),
  (∀k,k<N->(∀j,j<k->c j=true)->∀hpo,VDoes P R u (items k) hpo (G k) (.ret (.bool (c k))) hpo (G (k+1))) ->
  Does P R f (pre++[.val u]++post) [] (G 0) (.ret (.tup 0 (nth []))) [] (G (eZ c N 0))
def gK (R:Res)(D L:Nat)(rec:LoopState->Option Code->Loop):Res where
 σ:=R.σ × LoopState × Option Code
 B s b:=R.B s.1 b∨b=D∨b=L
 J s FM w:=R.J s.1 FM w/\w.heap[D]? = some (.deferred (some []))/\w.heap[L]? = some (.loop (rec s.2.1 s.2.2))/\(FM D=none/\FM L=none)/\¬R.B s.1 D/\¬R.B s.1 L
 st:=by
  intro s FM FM' w w' ⟨j,h1,h2,⟨h3,h4⟩,h5,h6⟩ k
  exact⟨R.st j ⟨k.fm,fun b hb=>k.fmB b (.inl hb),k.sound,fun b hb=>k.heapB b (.inl hb),k.size,k.os,k.tape,k.output⟩,(k.heapB D (.inr (.inl rfl))).trans h1,(k.heapB L (.inr (.inr rfl))).trans h2,⟨(k.fmB D (.inr (.inl rfl))).trans h3,(k.fmB L (.inr (.inr rfl))).trans h4⟩,h5,h6⟩
instance {T:Mem->Prop}{R:Res}[h:Tab T R](D L:Nat)(rec:LoopState->Option Code->Loop):Tab T (gK R D L rec):=⟨fun j=>h.h j.1⟩
section
variable {P:Program}{R:Res}
theorem nm {D L:Nat}{rec:LoopState->Option Code->Loop}{hp:List AObj}{s:(gK R D L rec).σ}{FM:Mem}{Z:Plc}{w:World}(ok:Ok (gK R D L rec) hp s FM Z w):Ok R hp s.1 FM Z w:=
 ⟨ok.rel,ok.j.1,fun b hb=>ok.bd b (.inl hb)⟩
theorem iw {hp:List AObj}{g:R.σ}{FM:Mem}{Z:Plc}{w:World}{X:Nat}(o:Obj)(off:¬InB Z X)(offB:¬R.B g X)(nofm:FM X=none)(ok:Ok R hp g FM Z w):Ok R hp g FM Z (w.putObj X o):=by
 have oth:∀b,b≠X->(w.putObj X o).heap[b]? = w.heap[b]?:= fun b hb=>World.putObj_heap_other hb
 have hfm:∀b o',FM b=some o'->(w.putObj X o).heap[b]? = some o':=fun b o' hb=>by
  rw[oth b (fun e=>by subst e;rw[nofm] at hb;cases hb)];exact ok.rel.fm b o' hb
 refine⟨⟨hfm,ok.rel.len,fun i p hi=>?_,ok.rel.inj⟩,R.st ok.j ⟨fun _ _ h=>h,fun _ _=>rfl,hfm,fun b hb=>oth b (fun e=>offB (e▸hb)),by simp,rfl,rfl,rfl⟩,fun b hb=>⟨by simpa using (ok.bd b hb).1,(ok.bd b hb).2⟩⟩
 obtain⟨h1,h2⟩:=ok.rel.obj i p hi
 refine⟨fun h=>by simpa using h1 h,h2.mono (AZ _) (fun hl=>oth _ (fun e=>?_))⟩
 exact off (e▸⟨p,bq hi,rfl,(ok.rel.real hi hl).1⟩)
def cP:List Nat->List AV->List (Nat × AV)->List (Nat × AV)
 |p::ps,v::vs,fr=>cP ps vs ((p,v)::fr)
 |_,_,fr=>fr
theorem np {FM:Mem}{Z:Plc}{nt:Nat}:∀(ps:List Nat) (vs:List AV) (us:List Value) (fr:List (Nat × AV)) (tmps:Array Value),tmps.size=nt->bF ps nt=true->vs.length=ps.length->us.length=ps.length->(∀i,i<vs.length->Den FM Z (nth vs i) (us.getD i undef)) ->
  (∀t,Den FM Z (lk fr t) (tmps.getD t undef))->((ps.zip us).foldl (fun tmps (p:Nat × Value)=>tmps.setIfInBounds p.1 p.2) tmps).size=nt/\∀t,Den FM Z (lk (cP ps vs fr) t) (((ps.zip us).foldl (fun tmps (p:Nat × Value)=>tmps.setIfInBounds p.1 p.2) tmps).getD t undef)
 |[],vs,us,fr,tmps,h1,_,h2,h3,_,h5=>by
  cases vs with
  |nil=>cases us with
   |nil=>exact⟨h1,h5⟩
   |cons _ _=>simp at h3
  |cons _ _=>simp at h2
 |p::ps,vs,us,fr,tmps,h1,hlt,h2,h3,h4,h5=>by
  cases vs with
  |nil=>simp at h2
  |cons v vs=>cases us with
   |nil=>simp at h3
   |cons u us=>
    have hp:p<nt:=ir hlt p List.mem_cons_self
    have hlt':bF ps nt=true:=by
     unfold bF at hlt
     simp only[Bool.and_eq_true] at hlt
     exact hlt.2
    refine np ps vs us ((p,v)::fr) (tmps.setIfInBounds p u) (by simpa using h1) hlt' (by simpa using h2) (by simpa using h3) (fun i hi=>?_) (fun t=>?_)
    ·have:=h4 (i+1) (by simpa using hi)
     simpa[nth] using this
    ·show Den FM Z (bif Nat.beq t p then v else lk fr t) _
     cases hb:Nat.beq t p with
     |true=>
      have:=Nat.eq_of_beq_eq_true hb
      subst this
      have:=h4 0 (by simp)
      rw[Array.getD_eq_getD_getElem?,Array.getElem?_setIfInBounds_self_of_lt omg]
      simpa[nth] using this
     |false=>
      have hne:p≠t:=fun e=>by subst e;simp at hb
      rw[Array.getD_eq_getD_getElem?,Array.getElem?_setIfInBounds_ne hne,<-Array.getD_eq_getD_getElem?]
      exact h5 t
def kY (R:Res)(n:Nat)(jmp:Option Code)(hp':List AObj)(g':R.σ):AEx->St R.σ->Prop
 |.normal,s=>jmp=none/\∃s',To R n s s'/\s'.hp=hp'/\s'.g=g'
 |.ret,s=>jmp=some .ret/\∃s',To R n s s'/\s'.hp=hp'/\s'.g=g'
 |.exit id,s=>jmp=some (.exit id)/\∃s',To R n s s'/\s'.hp=hp'/\s'.g=g'
 |.pan _,_=>False
theorem vL {hp hp':List AObj}{g g':R.σ}{FM FM':Mem}{Z Z':Plc}{w w':World}(ok:Ok R hp g FM Z w)(ok':Ok R hp' g' FM' Z' w')(hl:hp'.length=hp.length)(hs:Sub Z Z'):Z'=Z:=by
 have hl:Z'.length=Z.length:=by rw[ok'.rel.len,ok.rel.len,hl]
 refine List.ext_getElem? (fun i=>?_)
 rcases Nat.lt_or_ge i Z.length with hi|hi
 ·have h1:Z[i]? = some Z[i]:=List.getElem?_eq_getElem hi
  rw[hs i _ h1,h1]
 ·rw[List.getElem?_eq_none omg,List.getElem?_eq_none hi]
end
def stJ (jmp:Nat->Option Code):Nat->LoopState × Option Code
 |0=>(.ready,none)
 |k+1=>((if (jmp k).isNone then .ready else .done),jmp k)
def jOk:Option Code->Bool
 |none=>true
 |some .ret=>true
 |some (.exit _)=>true
 |_=>false
section
variable {P:Program}{R:Res}
end
def ix (t:Nat)(psl:List Nat):Code->Bool
 |.rangeFunc (.tmp u) ps _ _=>Nat.beq u t&&fW ps.toList psl
 |_=>false
section
variable {P:Program}{R:Res}
theorem eE {n:Nat}{jmp:Option Code}{hp':List AObj}{g':R.σ}{s:St R.σ}(hj:jmp=none)(h:To R n s ⟨[],hp',g'⟩):kY R n jmp hp' g' .normal s:=⟨hj,_,h,rfl,rfl⟩
end
end Go.Avm
namespace Go.Avm
open Go
def e6:List Nat->List AObj->AV->AV
 |[],_,v=>v
 |o::os,hp,v=>match ag hp o with
  |.cells false n get=>e6 os (aK hp o .dead) (frz o n get v)
  |_=>v
def kZ:List Nat->List AObj->AV->List Prop
 |[],_,_=>[]
 |o::os,hp,v=>match ag hp o with
  |.cells false n get=>(∀j,j<n->Below 0 (get j))::dX o n v::kZ os (aK hp o .dead) (frz o n get v)
  |_=>[False]
theorem Le.fp {n:Nat}{f f':Nat->AV}(h:∀j,j<n->Le (f j) (f' j)):Le (.fp n f) (.fp n f'):=by
 rintro FM Z v ⟨b,off,h1,h2⟩
 exact⟨b,off,h1,fun j hj=>let ⟨x,a1,a2,a3⟩:=h2 j hj;⟨x,a1,a2,h j hj _ _ _ a3⟩⟩
section
variable {P:Program}{R:Res}
theorem nq {k0:Nat}{g:R.σ}:∀(os:List Nat) (hp:List AObj) (v:AV),aq (kZ os hp v)->To R k0 ⟨[(0,v)],hp,g⟩ ⟨[(0,e6 os hp v)],bY os hp,g⟩
 |[],hp,v,_=>A0 _
 |o::os,hp,v,h=>by
  unfold kZ at h
  unfold e6 bY
  split at h
  ·rename_i n get hx
   refine To.trans (vj o [0] [] ⟨⟨[(0,frz o n get v)],aK hp o .dead,g⟩,[(∀j,j<n->Below 0 (get j)),dX o n v]⟩ ?_ ⟨h.1,h.2.1,trivial⟩) (nq os _ _ h.2.2)
   unfold jo
   rw[show ag (St.hp ⟨[(0,v)],hp,g⟩) o=_ from hx]
   rfl
  ·exact h.1.elim
theorem jJ {f:FuncId}{args:List AV}{hp hp':List AObj}{g g':R.σ}{a b:Bool}(e:a=b)(h:Does P R f args hp g (.ret (.bool a)) hp' g'):Does P R f args hp g (.ret (.bool b)) hp' g':=e▸h
theorem iy {f:FuncId}{args:List AV}{hp hp1 hp2:List AObj}{g g1 g2:R.σ}{v x:AV}(h:Does P R f args hp g (.ret v) hp1 g1)(ht:To R hp.length ⟨[(0,v)],hp1,g1⟩ ⟨[(0,x)],hp2,g2⟩):Does P R f args hp g (.ret x) hp2 g2:=by
 refine⟨fun FM Z w vs ok hvs=>(h.h FM Z w vs ok hvs).mono (fun e w' he=>?_)⟩
 obtain⟨FM',Z',⟨u,rfl,hu⟩,e2,e3⟩:=he
 obtain⟨FM'',Z'',d1,d2,d3⟩:=jE (k0:=hp.length) (s:=⟨[(0,v)],hp1,g1⟩) ok.rel.len e2 e3 hu ht rfl rfl
 exact⟨FM'',Z'',⟨u,rfl,d1⟩,d2,d3⟩
theorem vM {f:FuncId}{args:List AV}{hp hp1 hp2:List AObj}{g g1:R.σ}{v x:AV}(k:Nat)(os:List Nat)(h:Does P R f args hp g (.ret v) hp1 g1)(hk:hp.length<=k)(hf:aq (kZ os hp1 v))(hv:Below k (e6 os hp1 v))(hb:aq (obT k (bl k (bY os hp1))))
  (hh:bl k (bY os hp1)=hp2) (hx:e6 os hp1 v=x):Does P R f args hp g (.ret x) hp2 g1:=by
 subst hh hx
 exact iy h (To.trans (nq os hp1 v hf) (gD k hk [0] (s:=⟨[(0,e6 os hp1 v)],bY os hp1,g1⟩) (aq.append.2 ⟨⟨hv,trivial⟩,hb⟩)))
end
end Go.Avm
namespace Go.Avm
open Go
theorem vN {FM FM':Mem}{Z:Plc}{hp:List AObj}{w w':World}(h:HRel FM Z hp w)(h1:∀b o,FM' b=some o->w'.heap[b]? = some o)(h2:∀b o,FM b=some o->FM' b=some o)(h3:∀b,InB Z b->w'.heap[b]? = w.heap[b]?)(h4:∀b,InB Z b->FM b=none->FM' b=none)(h5:w.heap.size<=w'.heap.size):HRel FM' Z hp w':=by
 refine⟨h1,h.len,fun i p hi=>?_,h.inj⟩
 obtain⟨k1,k2⟩:=h.obj i p hi
 refine⟨fun hre=>Nat.lt_of_lt_of_le (k1 hre) h5,?_⟩
 cases hx:ag hp i with
 |dead=>trivial
 |map es=>
  rw[hx] at k2
  have hin:InB Z p.1:=⟨p,bq hi,rfl,k2.1⟩
  exact dK k2 h2 (h3 _ hin) (h4 _ hin k2.2.1)
 |mapo es=>
  rw[hx] at k2
  have hin:InB Z p.1:=⟨p,bq hi,rfl,k2.1⟩
  exact gw k2 h2 (AZ _) (h3 _ hin) (h4 _ hin k2.2.1)
 |cells f n g=>
  intro hn
  have hin:InB Z p.1:=⟨p,bq hi,rfl,(h.real_cells hi hx hn).1⟩
  rw[hx] at k2
  obtain⟨cs,e',a1,a2,a3,a4,a5,a6⟩:=k2 hn
  exact⟨cs,e',by rw[h3 _ hin];exact a1,a2,a3,fun j hj=>let ⟨x,b1,b2,b3⟩:=a4 j hj;⟨x,b1,b2,A1 h2 _ (AZ _) b3⟩,fun hf=>h2 _ _ (a5 hf),fun hf=>h4 _ hin (a6 hf)⟩
section
variable {P:Program}{R:Res}
theorem fC {k0:Nat}{s:St R.σ}{hp:List AObj}{g:R.σ}(h1:s.hp=hp)(h2:s.g=g):To R k0 s ⟨s.fr,hp,g⟩:=by
 subst h1 h2;exact A0 _
theorem vO {hp:List AObj}{g:R.σ}{FM:Mem}{Z:Plc}{w:World}(ok:Ok R hp g FM Z w):Ok R [] g FM [] w:=
 ⟨⟨ok.rel.fm,rfl,fun i p hi=>by simp at hi,fun i j p q hi=>by simp at hi⟩,ok.j,fun b hb=>⟨(ok.bd b hb).1,fun ⟨p,hp,_⟩=>by cases hp⟩⟩
theorem vP {hp:List AObj}{g g':R.σ}{FM FM':Mem}{Z:Plc}{w w':World}(ok:Ok R hp g FM Z w)(ok':Ok R [] g' FM' [] w')(go:Goes R g FM [] w g' FM' [] w'):Ok R hp g' FM' Z w':=by
 have off:∀b,InB Z b->b<w.heap.size/\¬R.B g b:=fun b hb=>by
  obtain⟨p,hp1,hpb,hre⟩:=hb
  obtain⟨i,hi⟩:=List.getElem?_of_mem hp1
  exact⟨by rw[<-hpb];exact(ok.rel.obj i p hi).1 hre,fun hB=>(ok.bd b hB).2 ⟨p,hp1,hpb,hre⟩⟩
 have nin:∀b,¬InB [] b:=fun b ⟨p,hp,_⟩=>by cases hp
 refine⟨vN ok.rel ok'.rel.fm go.ext.fm (fun b hb=>go.ext.keep b (off b hb).1 (nin b) (off b hb).2) (fun b hb hn=>?_) go.ext.size,ok'.j,fun b hb=>⟨(ok'.bd b hb).1,fun hi=>?_⟩⟩
 ·cases hx:FM' b with
  |none=>rfl
  |some o=>
   rcases go.ext.grow b o hx with h|h|h|h
   ·rw[hn] at h;cases h
   ·have:=(off b hb).1;omega
   ·exact absurd h (nin b)
   ·exact absurd h (off b hb).2
 ·rcases go.bn b hb with h|h
  ·exact(ok.bd b h).2 hi
  ·have:=(off b hi).1;omega
end
end Go.Avm
namespace Go.Avm
open Go Go.Maps
section
variable {P:Program}{R:Res}
theorem vQ {FM:Mem}{Z:Plc}{hp:List AObj}{w:World}(hr:HRel FM Z hp w)(o:Obj)(x:AObj)(q:Nat)(hx:∀FM',(∀b y,FM' b=some y->FM b=some y)->cw FM' (Z++[(w.heap.size,0,q)]) (w.heap.size,0,q) (w.alloc o) x) :
  HRel FM (Z++[(w.heap.size,0,q)]) (aU hp x) (w.alloc o)/\Ext noB FM Z w FM (Z++[(w.heap.size,0,q)]) (w.alloc o)/\(Z++[(w.heap.size,0,q)])[hp.length]? = some (w.heap.size,0,q):=by
 have hold:∀b,b<w.heap.size->(w.alloc o).heap[b]? = w.heap[b]?:= fun b hb=>_root_.Go.RowKit.Below.heap_alloc w o b hb
 have hsz:(w.alloc o).heap.size=w.heap.size+1:=by simp
 have hlt:∀b o,FM b=some o->b<w.heap.size:=fun b o h=>(Array.getElem?_eq_some_iff.1 (hr.fm b o h)).1
 refine⟨⟨fun b o h=>by rw[hold b (hlt b o h)];exact hr.fm b o h,by simp[aU,hr.len],fun i p hi=>?_,fun i j p q hi hj hli hlj hpq=>?_⟩,⟨fun _ _ h=>h,fun _ _ h=>.inl h,fun b ⟨p,hp',hb,hp2⟩=>?_,fun b hb _ _=>hold b hb,omg,rfl,rfl,rfl⟩,by simp[<-hr.len]⟩
 ·rcases dD hi with⟨hi,hlt'⟩|⟨rfl,rfl⟩
  ·obtain⟨h1,h2⟩:=hr.obj i p hi
   refine⟨fun hre=>by have:=h1 hre;omega,?_⟩
   rw[ce (by rw[<-hr.len];exact hlt')]
   exact h2.mono (Sub.snoc _ _) (fun hl=>hold _ (hr.real hi hl).2)
  ·refine⟨fun _=>by simp[hsz],?_⟩
   rw[hr.len,g9]
   exact hx FM (fun _ _ h=>h)
 ·rcases dD hi with⟨hi,hi'⟩|⟨rfl,rfl⟩ <;> rcases dD hj with⟨hj,hj'⟩|⟨rfl,rfl⟩
  ·rw[ce (by rw[<-hr.len];exact hi')] at hli
   rw[ce (by rw[<-hr.len];exact hj')] at hlj
   exact hr.inj i j p q hi hj hli hlj hpq
  ·rw[ce (by rw[<-hr.len];exact hi')] at hli
   have:=(hr.real hi hli).2
   simp at hpq;omega
  ·rw[ce (by rw[<-hr.len];exact hj')] at hlj
   have:=(hr.real hj hlj).2
   simp at hpq;omega
  ·rfl
 ·rcases List.mem_append.1 hp' with h|h
  ·exact .inl ⟨p,h,hb,hp2⟩
  ·simp at h;subst h;exact .inr (by simp at hb;omega)
theorem qI {hp:List AObj}{g:R.σ}{FM:Mem}{Z:Plc}{w:World}(ok:Ok R hp g FM Z w){ob:Nat}{es:List (Value × AV)}(hob:ag hp ob=.map es){v:Value}(hv:Den FM Z (.mp ob) v) :
  ∃p mes clock,Z[ob]? = some p/\v=.map (some p.1)/\p.2.1<=p.2.2/\FM p.1=none/\w.heap[p.1]? = some (.map mes clock)/\mes.size=es.length/\∀(i:Nat) (k:Value) (v:AV),es[i]? = some (k,v)->∃e,mes[i]? = some e/\e.key=k/\Den FM [] v e.val:=by
 obtain⟨p,hp,rfl⟩:=hv
 obtain⟨_,h2⟩:=ok.rel.obj ob p hp
 rw[hob] at h2
 obtain⟨a1,a2,mes,clock,a3,a4,a5⟩:=h2
 exact⟨p,mes,clock,hp,rfl,a1,a2,a3,a4,a5⟩
theorem la {es:List (Value × AV)}{mes:Array MapEntry}{FM:Mem}(hl:mes.size=es.length)(h:∀(i:Nat) (k:Value) (v:AV),es[i]? = some (k,v)->∃e,mes[i]? = some e/\e.key=k/\Den FM [] v e.val){i:Nat}{e:MapEntry}(hi:mes.toList[i]? = some e):∃v,es[i]? = some (e.key,v)/\Den FM [] v e.val:=by
 have hlt:i<es.length:=by
  have:=(List.getElem?_eq_some_iff.1 hi).1
  simpa[hl] using this
 obtain⟨e',h1,h2,h3⟩:=h i es[i].1 es[i].2 (by rw[List.getElem?_eq_getElem hlt])
 rw[Array.getElem?_toList] at hi
 rw[hi] at h1
 cases h1
 exact⟨es[i].2,by rw[List.getElem?_eq_getElem hlt,h2],h3⟩
end
end Go.Avm
namespace Go.Avm
open Go
section
variable {P:Program}{R:Res}
theorem vR {o:Oper}{ev:Operand->AV}{hp:List AObj}{g:R.σ}{t es:Nat}{ei:TyI}{k:Call}{x:Operand}{ob off len cap N:Nat}{ex:Bool}{get0:Nat->AV}
  (ho:o.op=.call k) (hk:k.callee=.builtin .clear) (ha:k.args=#[x]) (ht:k.argTypes=#[t]) (hx:ev x=.sl ob off len cap ex es) (hob:ag hp ob=.cells false N get0) (hei:eN (aA P) t=some (es,ei)) (hl:0<len) (hlc:len<=cap) (hes:0<es) (hN:off+len*es<=N) :
  OpOk P R o ev hp g .any (aK hp ob (.cells false off get0)) g:=by
 refine⟨fun FM Z w evc ok hop=>?_⟩
 have hdx:=hop x (by simp[ho,Op.operands,Call.operands,ha])
 obtain⟨e,ti,hti,hd,hee,hse⟩:=kB hei
 have hu:=hti.und
 rw[hd] at hu
 rw[hx] at hdx
 obtain⟨q,cap',hq,hxv,hcap,_,hfit⟩:=hdx
 obtain⟨inf,hi1,hi2,hi3,z,hz0,hzs,_,_,hone⟩:=hee.info
 have hz:(zeroValue e).run P w=.ok z w:=by simp[zeroValue,typeInfo,hi1,hz0]
 have hpos:0<N:=Nat.lt_of_lt_of_le (Nat.mul_pos hl hes) omg
 obtain⟨_,hobj'⟩:=ok.rel.obj ob q hq
 rw[hob] at hobj'
 obtain⟨cur,e',hcur,hN',hcsz,hcells,_,hfn⟩:=hobj' hpos
 have hzsz:z.cells.size=es:=by rw[hse];exact hzs
 have hvl:(Builtin.zeroCells z.cells len).toList.length=len*es:=by
  rw[Array.length_toList,size_zeroCells,hzsz]
 have h1:∀v∈(Builtin.zeroCells z.cells len).toList,v.oneCell'=true:=by
  intro v hv
  obtain⟨j,hj⟩:=List.getElem?_of_mem hv
  have hjl:=(List.getElem?_eq_some_iff.1 hj).1
  rw[hvl] at hjl
  have hlt:j%z.cells.size<z.cells.size:=Nat.mod_lt _ omg
  rw[Array.getElem?_toList] at hj
  simp only[Builtin.zeroCells,Array.getElem?_map] at hj
  rw[Array.getElem?_range,if_pos (by rw[hzsz];exact hjl)] at hj
  simp only[Option.map_some,Option.some.injEq] at hj
  rw[<-hj,pK hlt,Array.getD_eq_getD_getElem?,Array.getElem?_eq_getElem hlt]
  exact hone _ (Array.getElem_mem hlt)
 have hst:=run_storeCells_at P q.1 (q.2.1+off) e' (Builtin.zeroCells z.cells len).toList 0 cur w hcur (by rw[hvl];omega) h1
 simp only[Nat.add_zero] at hst
 have hwr:=Wrote.setRow hcur (cur.toList.take (q.2.1+off)++(Builtin.zeroCells z.cells len).toList++cur.toList.drop (q.2.1+off+(Builtin.zeroCells z.cells len).toList.length)).toArray
 have hfit2:q.2.1+off+(Builtin.zeroCells z.cells len).toList.length<=cur.toList.length:=by rw[hvl];simp;omega
 obtain⟨b1,b2⟩:=pD ok.rel hq hob hpos hwr (by rw[List.size_toArray,kC _ _ _ hfit2];simpa using hcsz) (n:=off) (get:=get0) (by rw[List.size_toArray,kC _ _ _ hfit2];simp;omega) (fun j hj=>by
  rw[mC _ _ _ hfit2,if_neg omg]
  obtain⟨u,u1,u2,u3⟩:=hcells j omg
  have:cur.toList.toArray.getD (q.2.1+j) undef=u:=by
   rw[Array.getD_eq_getD_getElem?,Array.toArray_toList,u1];rfl
  rw[this]
  exact⟨u2,u3⟩)
 obtain⟨c1,c2⟩:=fw ok b1 b2 (AZ _)
 refine⟨.value (.tuple #[]),_,FM,Z,_,?_,rfl,trivial,c1,c2⟩
 cases len with
 |zero=>omega
 |succ l=>simp[execOp,ho,resolve,hk,ha,ht,invoke,builtin,hxv,Builtin.clear_,run_underlying hu,hz,hst]
end
end Go.Avm
namespace Go.Avm
open Go
section
variable {P:Program}{R:Res}
theorem Le.nil_auto {s n s':Nat}{f f':Nat->Nat->AV}:Le (.fz .nil s n f) (.fz .auto s' 0 f'):=fun FM Z v h=>
 ni (k:=.nil) (k':=.auto) (n:=0) (s:=s') (f:=f') (g:=f') rfl (fun _ _ _ _=>rfl) FM Z v (Le.nil FM Z v h)
theorem vS {ty:Nat->Option TyI}{t es:Nat}(h:(match eN ty t with|some p=>Nat.beq p.1 es|none=>false)=true):∃ei,eN ty t=some (es,ei):=by
 cases hx:eN ty t with
 |none=>rw[hx] at h;cases h
 |some p=>
  rw[hx] at h
  have:=Nat.eq_of_beq_eq_true h
  exact⟨p.2,by rw[<-this]⟩
theorem qJ {o:Oper}{ev:Operand->AV}{hp:List AObj}{g:R.σ}{orc:Orc}{out:Out}(h:dA (aA P) hp ev orc o.op=some out)(hob:aq out.ob):OpOk P R o ev hp g out.v out.hp g:=by
 refine⟨fun FM Z w evc ok hop=>?_⟩
 classical
 let ev':Operand->AV:=fun x=>if x∈o.op.operands then ev x else .any
 have hev':∀x,Den FM Z (ev' x) (evc x):=by
  intro x
  by_cases hx:x∈o.op.operands
  ·simp only[ev',hx,if_true];exact hop x hx
  ·simp only[ev',hx,if_false];trivial
 have hsame:∀x∈o.op.operands,ev x=ev' x:=fun x hx=>by simp only[ev',hx,if_true]
 rw[pS hsame] at h
 obtain⟨nx,w',Z',u,r1,r2,r3,r4,r5,r6⟩:=pP ok.rel hev' h hob
 obtain⟨ok',go'⟩:=fw ok r4 r5 r6
 exact⟨nx,w',FM,Z',u,r1,r2,r3,ok',go'⟩
theorem vT {o:Oper}{ev:Operand->AV}{hp hp1 hp2:List AObj}{g g1 g2:R.σ}{v x:AV}(h:OpOk P R o ev hp g v hp1 g1)(ht:To R hp.length ⟨[(0,v)],hp1,g1⟩ ⟨[(0,x)],hp2,g2⟩):OpOk P R o ev hp g x hp2 g2:=by
 refine⟨fun FM Z w evc ok hop=>?_⟩
 obtain⟨nx,w',FM',Z',u,r1,r2,r3,r4,r5⟩:=h.h FM Z w evc ok hop
 obtain⟨FM'',Z'',d1,d2,d3⟩:=jE (k0:=hp.length) (s:=⟨[(0,v)],hp1,g1⟩) ok.rel.len r4 r5 r3 ht rfl rfl
 exact⟨nx,w',FM'',Z'',u,r1,r2,d1,d2,d3⟩
theorem vU {o:Oper}{ev:Operand->AV}{hp:List AObj}{g:R.σ}{v:AV}(h:OpOk P R o ev [] g v [] g)(hops:∀x∈o.op.operands,Below 0 (ev x)):OpOk P R o ev hp g v hp g:=by
 refine⟨fun FM Z w evc ok hop=>?_⟩
 obtain⟨nx,w',FM',Z',u,r1,r2,r3,r4,r5⟩:=h.h FM [] w evc (vO ok) (fun x hx=>by simpa using cE (k:=0) _ (hop x hx) (hops x hx))
 obtain rfl:Z'=[]:=ql (by rw[r4.rel.len];rfl)
 refine⟨nx,w',FM',Z,u,r1,r2,r3.lift,vP ok r4 r5,⟨r5.ext.fm,fun b o hb=>?_,fun b hb=>.inl hb,fun b h1 h2 h3=>r5.ext.keep b h1 (fun ⟨p,hp,_⟩=>by cases hp) h3,r5.ext.size,r5.ext.os,r5.ext.tape,r5.ext.output⟩,r5.bn,AZ _⟩
 rcases r5.ext.grow b o hb with h1|h1|⟨p,hp,_⟩|h1
 ·exact .inl h1
 ·exact .inr (.inl h1)
 ·cases hp
 ·exact .inr (.inr (.inr h1))
theorem vV {o:Oper}{ev:Operand->AV}{hp:List AObj}{g:R.σ}{n es N:Nat}{get:Nat->AV}{tag:Tag}{x:AV}(h:dA (aA P) [] ev .none o.op=some ⟨.sl 0 0 n n true es,[.cells false N get],[],tag⟩)(hN:n*es<=N)(hb:∀j,j<N->Below 0 (get j))(hops:∀y∈o.op.operands,Below 0 (ev y))
  (hx:Le (.fz .exa es n (fun i j=>get (0+i*es+j))) x):OpOk P R o ev hp g x hp g:=by
 refine vU ?_ hops
 have h1:OpOk P R o ev [] g (.sl 0 0 n n true es) [.cells false N get] g:=qJ h trivial
 have ht:To R 0 ⟨[(0,.sl 0 0 n n true es)],[.cells false N get],g⟩ ⟨[(0,e6 [0] [.cells false N get] (.sl 0 0 n n true es))],bY [0] [.cells false N get],g⟩:=nq [0] _ _ (by exact⟨hb,⟨omg,Nat.le_refl _⟩,trivial⟩)
 have h2:=vT h1 (To.trans ht (gD 0 (Nat.le_refl _) [0] (s:=⟨[(0,e6 [0] [.cells false N get] (.sl 0 0 n n true es))],bY [0] [.cells false N get],g⟩) (by exact⟨trivial,trivial⟩)))
 refine⟨fun FM Z w evc ok hop=>?_⟩
 obtain⟨nx,w',FM',Z',u,r1,r2,r3,r4,r5⟩:=h2.h FM Z w evc ok hop
 refine⟨nx,w',FM',Z',u,r1,r2,hx _ _ _ ?_,r4,r5⟩
 have e:lk [(0,e6 [0] [AObj.cells false N get] (.sl 0 0 n n true es))] 0=.fz (bif true&&Nat.beq n n then .exa else .opn) es n (fun i j=>get (0+i*es+j)):=rfl
 have r3:Den FM' Z' (lk [(0,e6 [0] [AObj.cells false N get] (.sl 0 0 n n true es))] 0) u:=r3
 rw[e,Nat.beq_refl] at r3
 exact r3
theorem LeO.box {a:AV}{f:Nat->AV}{x:AV}(h:f 0=x)(hx:Le a x):LeO (.cells false 1 (fun _=>a)) (.cells false 1 f):=
 ⟨rfl,Nat.le_refl _,fun j hj=>by have:j=0:=by omega
                                 subst this;rw[h];exact hx⟩
end
end Go.Avm
namespace Go.Avm
open Go Go.WideShapes Go.ChangeShapes
def nr (ev:Operand->AV):List Operand->Prop
 |[]=>True
 |x::r=>Below 0 (ev x)/\nr ev r
theorem qK {ev:Operand->AV}:∀{l:List Operand},nr ev l->∀x∈l,Below 0 (ev x)
 |[],_,x,hx=>by cases hx
 |y::r,h,x,hx=>by
  rcases List.mem_cons.1 hx with rfl|hx
  ·exact h.1
  ·exact qK h.2 x hx
def qL:Option Out->Option (Nat × Nat)
 |some ⟨.sl 0 0 n m true es,[.cells false N _],[],_⟩=>bif Nat.beq n m&&Nat.beq N (n*es) then some (n,es) else none
 |_=>none
def vW:Option Out->Nat->AV
 |some ⟨_,[.cells _ _ get],_,_⟩=>get
 |_=>fun _=>.any
theorem b8 {P:Program}{R:Res}{o:Oper}{ev:Operand->AV}{hp:List AObj}{g:R.σ}{n es:Nat}{x:AV}{k:Fz}{g':Nat->Nat->AV}(h:qL (dA (aA P) [] ev .none o.op)=some (n,es))(hops:nr ev o.op.operands.toList)
  (hx:x=.fz k es n g') (hk:leK .exa k n=true) (hg:∀i,i<n->∀j,j<es->vW (dA (aA P) [] ev .none o.op) (i*es+j)=g' i j) (hb:∀i,i<n->∀j,j<es->Below 0 (g' i j)):OpOk P R o ev hp g x hp g:=by
 obtain⟨out,ho⟩:∃out,out=dA (aA P) [] ev .none o.op:=⟨_,rfl⟩
 rw[<-ho] at h hg
 unfold qL at h
 split at h
 ·rename_i n' m es' N get tag
  cases hb1:(Nat.beq n' m&&Nat.beq N (n'*es')) with
  |false=>rw[hb1] at h;cases h
  |true=>
   rw[hb1] at h
   simp only[cond_true,Option.some.injEq,Prod.mk.injEq] at h
   obtain⟨rfl,rfl⟩:=h
   simp only[Bool.and_eq_true,Nat.beq_eq] at hb1
   obtain⟨rfl,rfl⟩:=hb1
   have hg':∀i,i<n'->∀j,j<es'->get (i*es'+j)=g' i j:=hg
   refine vV ho.symm (Nat.le_refl _) (fun j hj=>?_) (fun y hy=>qK hops y (by simpa using hy)) (by rw[hx];exact ni hk (fun i j hi hj=>by rw[<-hg' i hi j hj,Nat.zero_add]))
   have hes:0<es':=by
    rcases Nat.eq_zero_or_pos es' with h0|h0
    ·rw[h0] at hj;simp at hj
    ·exact h0
   have h1:j/es'<n':=Nat.div_lt_of_lt_mul (by rw[Nat.mul_comm];exact hj)
   have h2:j%es'<es':=Nat.mod_lt _ hes
   have:=hg' _ h1 _ h2
   rw[Nat.mul_comm,Nat.div_add_mod] at this
   rw[this]
   exact hb _ h1 _ h2
 ·cases h
def dq (W:World):Mem:=fun b=>W.heap[b]?
theorem qM {W:World}{b j:Nat}{x:Value}(h:W.cell? ⟨b,j,none⟩=some x):cD (dq W) b j=some x:=by
 unfold World.cell? at h
 unfold cD dq
 split at h
 ·rename_i c e f hb
  rw[hb]
  simpa using h
 ·cases h
def ns (W:World)(n:Nat)(get:Nat->AV)(cs:List Value):Prop:=
 cs.length=n/\∀j,j<n->∃x,cs[j]? = some x/\x.oneCell'=true/\Den (dq W) [] (get j) x
def Rea (P:Program)(t n:Nat){U:Type}(Q:U->Prop)(enc:U->Nat->AV):Prop:=
 ∀(H:Type) (en:TypeId × Value->H) (W:World) (fuel:Nat) (cs:List Value) (x:DataW H × List MemPlace),
  DataW.trod en P W 0 (fun _=>true) true fuel t cs=some x->∃a,Q a/\ns W n (enc a) cs
section
variable {P:Program}{t:Nat}
theorem Rea.map {U β:Type}{n:Nat}{Q:U->Prop}{enc:U->Nat->AV}{Q':β->Prop}{enc':β->Nat->AV}(h:Rea P t n Q enc)(f:U->β)(hq:∀a,Q a->Q' (f a))(he:∀a j,j<n->enc a j=enc' (f a) j):Rea P t n Q' enc':=by
 intro H en W fuel cs x hx
 obtain⟨a,h1,h2,h3⟩:=h H en W fuel cs x hx
 exact⟨f a,hq a h1,h2,fun j hj=>by rw[<-he a j hj];exact h3 j hj⟩
theorem jK {W:World}{v:Value}{g:Nat->AV}(h1:v.oneCell'=true)(h2:Den (dq W) [] (g 0) v):ns W 1 g [v]:=
 ⟨rfl,fun j hj=>by
  have:j=0:=by omega
  subst this
  exact⟨v,rfl,h1,h2⟩⟩
theorem jL {k:IntKind}(ht:P.underlying t=some (.int k)):Rea P t 1 (fun n:Int=>(Lit.int k n).wf=true) (fun n _=>.int k n):=by
 intro H en W fuel cs x hx
 obtain⟨n,rfl,_,hw⟩:=DataW.trod_int ht hx
 exact⟨n,hw,jK rfl rfl⟩
theorem vX (ht:P.underlying t=some .bool):Rea P t 1 (fun _:Bool=>True) (fun b _=>.bool b):=by
 intro H en W fuel cs x hx
 obtain⟨b,rfl,_⟩:=DataW.trod_bool ht hx
 exact⟨b,trivial,jK rfl rfl⟩
def lb (P:Program)(fs:List Field)(o n:Nat){U:Type}(Q:U->Prop)(enc:U->Nat->AV):Prop:=
 ∀(H:Type) (en:TypeId × Value->H) (W:World) (fuel:Nat) (cs:List Value),
  (∀f∈fs,∃x:DataW H × List MemPlace,DataW.trod en P W 0 (fun _=>true) true fuel f.type ((cs.drop f.offset).take (P.cellsOf f.type))=some x) ->
  ∃a,Q a/\∀j,j<n->∃x,cs[o+j]? = some x/\x.oneCell'=true/\Den (dq W) [] (enc a j) x
theorem nu {o:Nat}:lb P [] o 0 (fun _:Unit=>True) (fun _ _=>.any):=
 fun _ _ _ _ _ _=>⟨(),trivial,fun j hj=>absurd hj omg⟩
theorem iz {U β:Type}{f:Field}{fs:List Field}{o m n:Nat}{Q:U->Prop}{enc:U->Nat->AV}{Q':β->Prop}{enc':β->Nat->AV}
  (ho:f.offset=o) (hm:P.cellsOf f.type=m) (h:Rea P f.type m Q enc) (h':lb P fs (o+m) n Q' enc') :
  lb P (f::fs) o (m+n) (fun x:U × β=>Q x.1/\Q' x.2) (fun x j=>if j<m then enc x.1 j else enc' x.2 (j-m)):=by
 intro H en W fuel cs hx
 obtain⟨x,hx1⟩:=hx f (by simp)
 obtain⟨a,q1,l1,c1⟩:=h H en W fuel _ x hx1
 obtain⟨b,q2,c2⟩:=h' H en W fuel cs (fun g hg=>hx g (by simp[hg]))
 refine⟨(a,b),⟨q1,q2⟩,fun j hj=>?_⟩
 by_cases hjm:j<m
 ·obtain⟨y,y1,y2,y3⟩:=c1 j hjm
  refine⟨y,?_,y2,by show Den _ _ (if j<m then _ else _) _;rw[if_pos hjm];exact y3⟩
  rw[hm,ho,List.getElem?_take,if_pos hjm,List.getElem?_drop] at y1
  exact y1
 ·obtain⟨y,y1,y2,y3⟩:=c2 (j-m) omg
  exact⟨y,by rw[<-y1];congr 1;omega,y2,by show Den _ _ (if j<m then _ else _) _;rw[if_neg hjm];exact y3⟩
theorem nv {U:Type}{fs:Array Field}{n:Nat}{Q:U->Prop}{enc:U->Nat->AV}(ht:P.underlying t=some (.struct fs))(hn:P.cellsOf t=n)(h:lb P fs.toList 0 n Q enc):Rea P t n Q enc:=by
 intro H en W fuel cs x hx
 obtain⟨xs,m,rfl,_,hl,hxs,hf⟩:=DataW.trod_struct ht hx
 obtain⟨a,q,c⟩:=h H en W m cs (fun f hfm=>by
  obtain⟨i,hi,hif⟩:=List.getElem_of_mem hfm
  have h1:i<fs.size:=by simpa using hi
  have h2:fs[i]? = some f:=by simp[h1,<-hif]
  have:=hf i f h2
  rw[List.getElem?_eq_getElem omg] at this
  exact⟨_,this⟩)
 exact⟨a,q,by rw[hl,hn],fun j hj=>by simpa using c j hj⟩
def QL {U:Type}(Q:U->Prop)(x:Fz × List U):Prop:=(∀a∈x.2,Q a)/\x.2.length<=maxLen
theorem qN {W:World}{a:Addr}:∀{l:List Nat} {cs:List Value},l.mapM (fun i=>W.cell? (a.add i))=some cs->∀i,i<l.length->W.cell? (a.add (l.getD i 0))=cs[i]?
 |[],_,_,i,hi=>by simp at hi
 |x::r,cs,h,i,hi=>by
  simp only[List.mapM_cons,Option.bind_eq_bind,Option.bind_eq_some_iff,Option.pure_def,Option.some.injEq] at h
  obtain⟨y,h1,ys,h2,rfl⟩:=h
  cases i with
  |zero=>simpa using h1
  |succ i=>simpa using qN h2 i (by simpa using hi)
theorem vY {W:World}{base:Nat}{a:Addr}{n:Nat}{cs:List Value}(h:W.cells? base a n=some cs){j:Nat}(hj:j<n):W.cell? (a.add j)=cs[j]?:= by
 unfold World.cells? at h
 split at h
 ·have:=qN h j (by simpa using hj)
  simpa[List.getD,hj] using this
 ·cases h
theorem vZ (a:Addr)(i j:Nat):(a.add i).add j=a.add (i+j):=by
 unfold Addr.add
 by_cases hi:i=0
 ·subst hi;simp
 ·by_cases hj:j=0
  ·subst hj;simp
  ·rw[if_neg hi,if_neg hj,if_neg omg,Nat.add_assoc]
theorem ny {U:Type}[Inhabited U]{e n:Nat}{Q:U->Prop}{enc:U->Nat->AV}(ht:P.underlying t=some (.slice e))(hc:P.cellsOf e=n)(hn:0<n)(h:Rea P e n Q enc) :
  Rea P t 1 (QL Q) (fun x _=>.fz x.1 n x.2.length (fun i=>enc (x.2.getD i default))):=by
 intro H en W fuel cs x hx
 rcases DataW.trod_slice ht hx with⟨rfl,_⟩|⟨a,len,cap,elems,rest,m,rfl,rfl,_,_,hlc,hcm,hel,hat,_,_⟩
 ·refine⟨(.nil,[]),⟨fun a ha=>(by cases ha),Nat.zero_le _⟩,jK rfl ?_⟩
  exact⟨fun _=>⟨rfl,none,0,rfl,rfl,rfl⟩,fun h=>(by cases h)⟩
 ·by_cases h0:len=0
  ·subst h0
   refine⟨(.may,[]),⟨fun a ha=>(by cases ha),Nat.zero_le _⟩,jK rfl ?_⟩
   exact⟨fun _=>⟨rfl,some a,cap,rfl,fun h=>(by cases h)⟩,fun h=>(by cases h)⟩
  ·have key:∀i,∃y:U,i<len->Q y/\∀j,j<n->∃x,W.cell? (a.add (i*n+j))=some x/\x.oneCell'=true/\Den (dq W) [] (enc y j) x:=by
    intro i
    by_cases hi:i<len
    ·have h1:=hat i hi
     rw[List.getElem?_eq_getElem omg,hc] at h1
     obtain⟨ci,e1,e2⟩:=Option.bind_eq_some_iff.1 h1
     obtain⟨y,q,l1,c1⟩:=h H en W m ci _ e2
     refine⟨y,fun _=>⟨q,fun j hj=>?_⟩⟩
     obtain⟨x,x1,x2,x3⟩:=c1 j hj
     have:=vY e1 hj
     rw[x1] at this
     refine⟨x,?_,x2,x3⟩
     rw[<-this,vZ]
    ·exact⟨default,fun h=>absurd h hi⟩
   let f:Nat->U:=fun i=>Classical.choose (key i)
   have hf:∀i,i<len->Q (f i)/\∀j,j<n->∃x,W.cell? (a.add (i*n+j))=some x/\x.oneCell'=true/\Den (dq W) [] (enc (f i) j) x:=fun i=>Classical.choose_spec (key i)
   have hll:((List.range len).map f).length=len:=by simp
   have hget:∀i,i<len->((List.range len).map f).getD i default=f i:=fun i hi=>by simp[List.getD,hi]
   obtain⟨b,off,sp⟩:=a
   have hsp:sp=none:=by
    obtain⟨x,x1,_⟩:=(hf 0 omg).2 0 hn
    simpa[Addr.add] using World.cell?_spot x1
   subst hsp
   refine⟨(.opn,(List.range len).map f),⟨fun y hy=>?_,by simp only[hll];omega⟩,jK rfl ?_⟩
   ·obtain⟨i,hi,rfl⟩:=List.mem_map.1 hy
    exact(hf i (by simpa using hi)).1
   ·refine⟨fun h=>(by cases h),fun _=>⟨b,off,cap,by rw[hll],by rw[hll];exact hlc,fun h=>(by rcases h with h|h <;> cases h),fun i j hi hj=>?_⟩⟩
    rw[hll] at hi
    obtain⟨x,x1,x2,x3⟩:=(hf i hi).2 j hj
    refine⟨x,qM (by rw[<-x1,add_plain,Nat.add_assoc]),x2,?_⟩
    show Den _ _ (enc (((List.range len).map f).getD i default) j) x
    rw[hget i hi]
    exact x3
def Arg (P:Program)(t:TypeId){U:Type}(Q:U->Prop)(A:U->AV):Prop:=
 ∀(H:Type) (en:TypeId × Value->H) (W:World) (base:Nat) (v:Value) (d:DataW H) (ps:List MemPlace),
  Value.okWide P W .any base t v->DataW.Trod en P W 0 (fun _=>true) true t v d ps->∃a,Q a/\Den (dq W) [] (A a) v
theorem qO {W:World}{g:Nat->AV}{v:Value}(h:ns W 1 g [v]):Den (dq W) [] (g 0) v:=by
 obtain⟨x,h1,_,h2⟩:=h.2 0 omg
 simp at h1
 subst h1
 exact h2
theorem v6 {U:Type}{e:TypeId}{Q:U->Prop}{enc:U->Nat->AV}(ht:P.underlying t=some (.slice e))(h:Rea P t 1 Q enc):Arg P t Q (fun a=>enc a 0):=by
 intro H en W base v d ps hok ⟨fuel,hx⟩
 obtain⟨a,l,c,rfl⟩:=okWide_slice ht hok
 obtain⟨y,q,hc⟩:=h H en W fuel _ _ hx
 exact⟨y,q,qO hc⟩
theorem v7 {U:Type}{k:IntKind}{Q:U->Prop}{enc:U->Nat->AV}(ht:P.underlying t=some (.int k))(h:Rea P t 1 Q enc):Arg P t Q (fun a=>enc a 0):=by
 intro H en W base v d ps hok ⟨fuel,hx⟩
 obtain⟨n,rfl⟩:=okWide_int ht hok
 obtain⟨y,q,hc⟩:=h H en W fuel _ _ hx
 exact⟨y,q,qO hc⟩
theorem v8 {U:Type}{fs:Array Field}{n:Nat}{Q:U->Prop}{enc:U->Nat->AV}(ht:P.underlying t=some (.struct fs))(h:Rea P t n Q enc):Arg P t Q (fun a=>.agg n (enc a)):=by
 intro H en W base v d ps hok ⟨fuel,hx⟩
 obtain⟨cs,rfl,hcs⟩:=okWide_struct ht hok
 obtain⟨y,q,hl,hc⟩:=h H en W fuel _ _ hx
 have hl':cs.size=n:=by simpa[Value.cells] using hl
 refine⟨y,q,cs,rfl,hl',fun j hj=>?_⟩
 obtain⟨x,h1,h2,h3⟩:=hc j hj
 have:cs.getD j undef=x:=by
  have h1:cs[j]? = some x:=by simpa[Value.cells] using h1
  simp[Array.getD_eq_getD_getElem?,h1]
 rw[this]
 exact⟨h2,h3⟩
def lc (P:Program)(ts:List TypeId)(X:List AV->Prop):Prop:=
 ∀(H:Type) (en:TypeId × Value->H) (W:World) (base:Nat) (vs:List Value) (ds:List (DataW H)) (ps:List MemPlace),
  (∀(j:Nat) (t:TypeId) (v:Value),ts[j]? = some t->vs[j]? = some v->Value.okWide P W .any base t v)->DataW.TrodAll en P W 0 (fun _=>true) true ts vs ds ps ->
  ∃avs:List AV,X avs/\vs.length=avs.length/\∀i,i<avs.length->Den (dq W) [] (nth avs i) (vs.getD i undef)
theorem v9:lc P [] (fun l=>l=[]):=by
 intro H en W base vs ds ps _ h
 obtain⟨rfl,rfl,rfl⟩:=trodAll_nil h
 exact⟨[],rfl,rfl,fun i hi=>absurd hi (by simp)⟩
theorem nz {U:Type}{ts:List TypeId}{Q:U->Prop}{A:U->AV}{X:List AV->Prop}(h:Arg P t Q A)(h':lc P ts X):lc P (t::ts) (fun l=>∃a,Q a/\∃r,X r/\l=A a::r):=by
 intro H en W base vs ds ps hok hT
 obtain⟨v,vs',d,ds',p,q,rfl,rfl,rfl,h1,h2⟩:=trodAll_cons hT
 obtain⟨a,qa,da⟩:=h H en W base v d p (hok 0 t v rfl rfl) h1
 obtain⟨r,xr,lr,dr⟩:=h' H en W base vs' ds' q (fun j u w hu hw=>hok (j+1) u w hu hw) h2
 refine⟨A a::r,⟨a,qa,r,xr,rfl⟩,by simp[lr],fun i hi=>?_⟩
 cases i with
 |zero=>exact da
 |succ i=>exact dr i (by simpa using hi)
end
section
variable {H:Type}{enc:TypeId × Value->H}{P:Program}
theorem wb {f:Func}{s:ChangeSpec}{apart fresh handsOn again:Bool}{W W':World}{args:Array Value}{v:Value}{ds gs:List (DataW H)}{before pa pv:List MemPlace}
  (hW:DataW.Whole enc P f.params.toList s.vars apart W args.toList ds gs before)
  (hres:∀(b:Nat) (sp:Nat->Bool) (hd:Bool),DataW.TrodAll enc P W' b sp hd f.resultTypes.toList (v.resultList f.resultTypes.size) (s.fn H (ds++gs)).results [])
  (hargs:∀sp:Nat->Bool,(∀p∈before,sp p.block=true)->DataW.TrodAll enc P W' 0 sp true f.params.toList args.toList (s.fn H (ds++gs)).args pa)
  (hvars:∀sp:Nat->Bool,(∀p∈before,sp p.block=true)->DataW.TrodVars enc P W' sp s.vars (s.fn H (ds++gs)).vars pv)
  (hps:before=pa++pv) (hb:RowKit.Below W.heap.size W W')
  (hok:∀(j:Nat) (t:TypeId) (r:Value),f.resultTypes[j]? = some t->(v.resultList f.resultTypes.size)[j]? = some r->Value.okWide P W' .any 0 t r) :
  s.post enc P f apart fresh handsOn again W args v W':=by
 have hlt:∀p∈before,p.block<W.heap.size:=fun p hp=>hW.lt p hp
 have hold:∀p∈before,(fun b=>decide (b<W.heap.size)) p.block=true:=fun p hp=>by simpa using hlt p hp
 refine⟨ds,gs,before,[],pa,pv,hW,hres _ _ _,hargs _ hold,hvars _ hold,World.keptBut_mono (fun p hp=>⟨hp,?_⟩) (hb.frame (·∈before)),fun _=>?_⟩
 ·rw[hps,List.mem_append] at hp
  exact Or.inr hp
 ·obtain⟨_,_,_,_,_,hz,hn⟩:=hW
  refine⟨hok,_,_,([]++pa)++pv,⟨[]++pa,pv,trodAll_append (hargs _ (fun _ _=>rfl)) (hres _ _ _),hvars _ (fun _ _=>rfl),rfl,?_,?_⟩,?_⟩
  ·intro b off hp
   have hin:MemPlace.cell b off∈before:=by rw[hps];simpa using hp
   rw[hb.frozen (hlt _ hin)]
   exact hz b off hin
  ·intro ha
   have:=hn ha
   rw[hps] at this
   simpa using this
  ·intro p hp _
   rw[hps]
   simpa using hp
theorem wc {W W':World}(hb:RowKit.Below W.heap.size W W'){p:MemPlace}(hp:p.block<W.heap.size):W.sameAt W' p:=by
 cases p with
 |cell b off=>exact hb.cell (p:=⟨b,off,none⟩) hp
 |map b=>exact hb.block b hp
theorem qP {W W':World}{sp:Nat->Bool}(hl:laidOutB P=true):∀{ts:List TypeId} {vs:List Value} {ds:List (DataW H)} {ps:List MemPlace},
  (∀t∈ts,P.readableRec t=true/\t<P.types.size)->DataW.TrodAll enc P W 0 (fun _=>true) true ts vs ds ps->(∀p∈ps,W.sameAt W' p)->(∀p∈ps,sp p.block=true)->DataW.TrodAll enc P W' 0 sp true ts vs ds ps
 |[],_,_,_,_,h,_,_=>by
  obtain⟨rfl,rfl,rfl⟩:=trodAll_nil h
  exact rfl
 |t::ts,_,_,_,hr,h,h1,h2=>by
  obtain⟨v,vs,d,ds,p,q,rfl,rfl,rfl,⟨fuel,hx⟩,hT⟩:=trodAll_cons h
  obtain⟨r1,r2⟩:=hr t (by simp)
  refine⟨p,q,⟨fuel,?_⟩,qP hl (fun u hu=>hr u (by simp[hu])) hT (fun x hx=>h1 x (by simp[hx])) (fun x hx=>h2 x (by simp[hx])),rfl⟩
  exact DataW.trod_stays (kids_book hl r1) (book_sized r1) (fun h=>by cases h) ⟨r2,book_self t⟩ hx (fun x hx=>h1 x (by simp[hx])) (fun x hx=>h2 x (by simp[hx]))
end
end Go.Avm
namespace Go.Avm
open Go
end Go.Avm
namespace Go.Avm
open Go Go.WideShapes Go.ChangeShapes
def cU (gs:List (Nat × List Int))(FM:Mem):Prop:=∀b zs,(b,zs)∈gs->∀i,i<zs.length->cD FM b i=some (.int .u8 (zs.getD i 0))
theorem wd {gs:List (Nat × List Int)}{FM FM':Mem}(h:∀b o,FM b=some o->FM' b=some o)(ht:cU gs FM):cU gs FM':=fun b zs hm i hi=>mt h (ht b zs hm i hi)
def Res.tab (gs:List (Nat × List Int)):Res:=⟨Unit,fun _ _=>False,fun _ FM _=>cU gs FM,fun h k=>wd k.fm h⟩
instance (gs:List (Nat × List Int)):Tab (cU gs) (Res.tab gs):=⟨fun h=>h⟩
def ld (b:Nat):Operand->Bool
 |.global c=>Nat.beq b c
 |_=>false
def fZ (b:Nat)(zs:List Int)(ev:Operand->AV)(x:Operand):AV:=bif ld b x then .fp zs.length (fun j=>.int .u8 (zs.getD j 0)) else ev x
theorem we {P:Program}{R:Res}{gs:List (Nat × List Int)}[hT:Tab (cU gs) R]{o:Oper}{ev:Operand->AV}{hp:List AObj}{g:R.σ}{x:AV}(b:Nat)(zs:List Int)(hb:(b,zs)∈gs)(hg:ev (.global b)=.val (.pointer (some ⟨b,0,none⟩))){out:Out}
  (h:dz (aA P) hp (fZ b zs ev) .none o.op=some out) (hob:aq out.ob) (hx:Le out.v x):OpOk P R o ev hp g x hp g:=by
 refine⟨fun FM Z w evc okw hop=>?_⟩
 classical
 have htab:=hT.h okw.j
 let ev':Operand->AV:=fun y=>if y∈o.op.operands then fZ b zs ev y else .any
 have hev':∀y,Den FM Z (ev' y) (evc y):=by
  intro y
  by_cases hy:y∈o.op.operands
  ·simp only[ev',hy,if_true]
   have h1:=hop y hy
   unfold fZ
   cases hi:ld b y with
   |false=>exact h1
   |true=>
    have e:y=.global b:=by
     cases y with
     |global c=>rw[Nat.eq_of_beq_eq_true hi]
     |_=>cases hi
    rw[e,hg] at h1
    rw[e]
    obtain⟨h1,_⟩:=h1
    refine⟨b,0,h1,fun j hj=>⟨.int .u8 (zs.getD j 0),?_,rfl,rfl⟩⟩
    rw[Nat.zero_add]
    exact htab b zs hb j hj
  ·simp only[ev',hy,if_false];trivial
 have hsame:∀y∈o.op.operands,fZ b zs ev y=ev' y:=fun y hy=>by simp only[ev',hy,if_true]
 rw[mL hsame] at h
 obtain⟨⟨v,h1,h2⟩,h3⟩:=mF okw.rel hev' h hob
 exact⟨_,w,FM,Z,v,h1,rfl,hx _ _ _ h2,okw,Ext.refl _ _ _ _,fun _ h=>.inl h,AZ _⟩
theorem wg {P:Program}{W:World}{x:String × DataW Unit}{r:List (String × DataW Unit)}(h:laidMet P (x::r) W):laidMet P r W:=by
 obtain⟨ps,⟨g,t,cs,fuel,p,q,_,_,_,_,hr,rfl⟩,hn,hall⟩:=h
 exact⟨q,hr,(List.nodup_append.1 hn).2.1,fun b off hb=>hall b off (List.mem_append_right _ hb)⟩
theorem wh {FM:Mem}:cU [] FM:=fun b zs hm=>(by cases hm)
theorem wi {P:Program}{W:World}{name:String}{zs:List Int}{rest:List (String × DataW Unit)}{g:Nat}{t e:TypeId}{n:Nat}{gs:List (Nat × List Int)}
  (hg:P.globalNamed name=some g) (hty:(P.globals[g]?).map (·.type)=some t) (ht:P.underlying t=some (.array n e)) (he:P.underlying e=some (.int .u8)) (hce:P.cellsOf e=1) (hct:P.cellsOf t=n)
  (h:laidMet P ((name,Lib.tabData .u8 zs)::rest) W) (hr:laidMet P rest W->cU gs (dq W)):cU ((g,zs)::gs) (dq W):=by
 intro b ys hm i hi
 rcases List.mem_cons.1 hm with e1|hm
 ·cases e1
  exact qM ((Lib.tabIs_of_head hg hty ht he hce hct h).cell hg i hi)
 ·exact hr (wg h) b ys hm i hi
section
variable {H:Type}{enc:TypeId × Value->H}{P:Program}
theorem wj {a:Assume}{C:Checked}{os:Os}{f:FuncId}{fn:Func}{s:ChangeSpec}{F:Stop.Interp}{conds:List PathCond}{apart fresh handsOn again:Bool}{tb:TypeId}{X:List AV->Prop}{laid:List (String × DataW Unit)}{gs:List (Nat × List Int)}
  (own:ownKnob C.prog.godebug=none) (started:os.Started) (noInit:C.prog.inits.idxOf? f=none) (hfn:C.prog.funcs[f]? = some fn)
  (witness:∃(w:World) (tape:Tape) (i:Input),w.os=os/\(w.forCall tape i).Shaped C.prog/\i.vars=[]/\Input.okWide C.prog (w.forCall tape i) .any w.heap.size f i /\
   (OpenSpec.ofChange s).preRow enc C.prog fn conds apart laid (w.forCall tape i).memory i.args/\a.holds C.prog (lone (Frame.enter C.prog f i.args .normal) [] (w.forCall tape i)))
  (hvars:s.vars=[]) (hspec:∀ds:List (DataW H),ds.length=fn.params.size->s.fn H ds={ results:=[.lit (.bool true)],args:=ds })
  (hl:laidOutB C.prog=true) (hr:∀t∈fn.params.toList,C.prog.readableRec t=true/\t<C.prog.types.size)
  (hres:fn.resultTypes=#[tb]) (hb:C.prog.underlying tb=some .bool) (htab:∀W,laidMetH C.prog laid W->cU gs (dq W))
  (hargs:lc C.prog fn.params.toList X) (hdoes:∀avs,X avs->Does C.prog (Res.tab gs) f avs [] () (.ret (.bool true)) [] ()) :
  ReturnsInHanded a C os f .any ((OpenSpec.ofChange s).preRow enc C.prog fn conds apart laid) (((OpenSpec.ofChange s).at F).post enc C.prog fn apart fresh handsOn again):=by
 refine returnsInHanded_of_row own started noInit hfn witness (fun W base args ds gs' before hval hW _ _ _ hL _ _=>?_)
 have hW:DataW.Whole enc C.prog fn.params.toList s.vars apart W args.toList ds gs' before:=hW
 have hW':=hW
 obtain⟨p,q,hA,hV,rfl,hz,hn⟩:=hW
 rw[hvars] at hV
 obtain⟨rfl,rfl⟩:=trodVars_none hV
 obtain⟨avs,hX,hlen,hden⟩:=hargs H enc W base args.toList ds p (fun j t v h1 h2=>hval j t v (by simpa using h1) (by simpa using h2)) hA
 have hlt:∀x∈p,x.block<W.heap.size:=fun x hx=>hW'.lt x (by simp[hx])
 have hdl:ds.length=fn.params.size:=by
  have:∀{ts:List TypeId} {vs:List Value} {ds:List (DataW H)} {ps:List MemPlace},DataW.TrodAll enc C.prog W 0 (fun _=>true) true ts vs ds ps->ds.length=ts.length:=by
   intro ts
   induction ts with
   |nil=>
    intro vs ds ps h
    obtain⟨_,rfl,_⟩:=trodAll_nil h
    rfl
   |cons t ts ih=>
    intro vs ds ps h
    obtain⟨v,vs,d,ds,p,q,rfl,rfl,rfl,_,hT⟩:=trodAll_cons h
    simp[ih hT]
  have:=this hA
  simpa using this
 have hok:Ok (Res.tab gs) [] () (dq W) [] W:=⟨⟨fun b o h=>h,rfl,fun i p h=>(by simp at h),fun i j p q h=>(by simp at h)⟩,htab W hL,fun b h=>absurd h (by simp[Res.tab])⟩
 refine((hdoes avs hX).h (dq W) [] W args hok ⟨by simpa using hlen,fun i hi=>by
  have:=hden i hi
  simpa[List.getD,Array.getD_eq_getD_getElem?] using this⟩).mono fun e W' ⟨FM',Z',⟨v,he,hv⟩,_,hg⟩=>⟨v,he,?_⟩
 have hv:v=.bool true:=hv
 subst hv
 have hbel:RowKit.Below W.heap.size W W':=⟨hg.ext.os,hg.ext.tape,hg.ext.output,hg.ext.size,fun k hk=>hg.ext.keep k hk (fun ⟨p,hp,_⟩=>by cases hp) (fun h=>h)⟩
 have hsp:s.fn H (ds++[])={ results:=[.lit (.bool true)],args:=ds }:=by rw[List.append_nil];exact hspec ds hdl
 show s.post enc C.prog fn apart fresh handsOn again W args (.bool true) W'
 refine wb (pa:=p) (pv:=[]) hW' (fun b sp hd=>?_) (fun sp hs=>?_) (fun sp _=>?_) rfl hbel (fun j t r h1 h2=>?_)
 ·rw[hsp,hres]
  exact⟨[],[],⟨1,by simp[DataW.trod,Value.cells,hb]⟩,rfl,rfl⟩
 ·rw[hsp]
  exact qP hl hr hA (fun x hx=>wc hbel (hlt x hx)) (fun x hx=>hs x (by simp[hx]))
 ·rw[hsp,hvars]
  exact rfl
 ·rw[hres] at h1 h2
  have hj:j=0:=by
   cases j with
   |zero=>rfl
   |succ j=>simp at h1
  subst hj
  simp at h1
  subst h1
  simp[Value.resultList] at h2
  subst h2
  simp[Value.okWide,hb,Cell.okWide,Cell.ok]
end
end Go.Avm
namespace Go.Avm
open Go
structure SeqO (P:Program)(f:FuncId)(o:AObj)(N:Nat)(items:Nat->List AV)(T:Mem->Prop:=fun _=>True):Prop where
 h:∀(R:Res) [Tab T R] (u:Value) (G:Nat->R.σ) (c:Nat->Bool),
  (∀k,k<N->(∀j,j<k->c j=true)->∀hpo,VDoes P R u (items k) hpo (G k) (.ret (.bool (c k))) hpo (G (k+1))) ->
  ∃hp',hp'.length=1/\Does P R f [.val u,.ref 0 0] [o] (G 0) (.ret (.tup 0 (nth []))) hp' (G (eZ c N 0))
def jM (k:Nat):AObj->Prop
 |.cells _ n get=>∀j,j<n->Below k (get j)
 |.mapo es=>∀e,e∈es->Below k e.2
 |_=>True
def e7 (k:Nat):List AObj->Prop
 |[]=>True
 |o::r=>jM k o/\e7 k r
theorem lf {k:Nat}:∀{l:List AObj},e7 k l->∀i,jM k (ag l i)
 |[],_,i=>by cases i <;> trivial
 |_::_,h,0=>h.1
 |_::r,h,i+1=>lf (l:=r) h.2 i
theorem lg {FM:Mem}{Z:Plc}{p:Nat × Nat × Nat}{w:World}{o:AObj}{k:Nat}(h:cw FM Z p w o)(hb:jM k o):cw FM (Z.take k) p w o:=by
 cases o with
 |dead=>trivial
 |map es=>exact h
 |mapo es=>
  obtain⟨a1,a2,mes,clock,a3,a4,a5⟩:=h
  exact⟨a1,a2,mes,clock,a3,a4,fun i k v hi=>let ⟨e,b1,b2,b3⟩:=a5 i k v hi;⟨e,b1,b2,cE _ b3 (hb _ (List.mem_of_getElem? hi))⟩⟩
 |cells f n get=>
  intro hn
  obtain⟨cs,e,a1,a2,a3,a4,a5⟩:=h hn
  exact⟨cs,e,a1,a2,a3,fun j hj=>let ⟨x,b1,b2,b3⟩:=a4 j hj;⟨x,b1,b2,cE _ b3 (hb j hj)⟩,a5⟩
theorem lh {FM:Mem}{Z Z':Plc}{p:Nat × Nat × Nat}{w:World}{o:AObj}(hs:Sub Z Z')(h:cw FM Z p w o):cw FM Z' p w o:=by
 cases o with
 |dead=>trivial
 |map es=>exact h
 |mapo es=>
  obtain⟨a1,a2,mes,clock,a3,a4,a5⟩:=h
  exact⟨a1,a2,mes,clock,a3,a4,fun i k v hi=>let ⟨e,b1,b2,b3⟩:=a5 i k v hi;⟨e,b1,b2,A1 (fun _ _ h=>h) _ hs b3⟩⟩
 |cells f n get=>
  intro hn
  obtain⟨cs,e,a1,a2,a3,a4,a5⟩:=h hn
  exact⟨cs,e,a1,a2,a3,fun j hj=>let ⟨x,b1,b2,b3⟩:=a4 j hj;⟨x,b1,b2,A1 (fun _ _ h=>h) _ hs b3⟩,a5⟩
def dP:List Nat->List (Nat × AV)->List (Nat × AV)
 |[],_=>[]
 |t::ts,fr=>(t,lk fr t)::dP ts fr
def f6 (ts:List Nat)(p:Nat->Prop):Prop:=match ts with
 |[]=>True
 |t::r=>p t/\f6 r p
theorem nA {p:Nat->Prop}:∀{ts:List Nat},f6 ts p->∀t,t∈ts->p t
 |[],_,t,h=>by simp at h
 |a::r,h,t,ht=>by
  rcases List.mem_cons.1 ht with rfl|ht
  ·exact h.1
  ·exact nA (ts:=r) h.2 t ht
theorem nC {FM:Mem}{Z Z0:Plc}{m:Nat}{fr:List (Nat × AV)}{v:Nat->Value}(h:∀t,Den FM Z (lk fr t) (v t)):∀{ts:List Nat},(∀t,t∈ts->Below m (lk fr t))->Z0=Z.take m->∀t,Den FM Z0 (lk (dP ts fr) t) (v t)
 |[],_,_,t=>trivial
 |a::r,hb,e,t=>by
  show Den FM Z0 (bif Nat.beq t a then lk fr a else lk (dP r fr) t) (v t)
  cases hta:Nat.beq t a with
  |true=>
   have:=Nat.eq_of_beq_eq_true hta
   subst this
   rw[e]
   exact cE _ (h t) (hb t List.mem_cons_self)
  |false=>exact nC h (fun t ht=>hb t (List.mem_cons_of_mem _ ht)) e t
section
variable {P:Program}{R:Res}
def lj (P:Program)(R:Res)(nt:Nat)(assign body:Code)(jmp:Option Code)(hp':List AObj)(g':R.σ)(s:St R.σ):Prop:=
 ∀l,wpA P R nt s.hp.length (.inr l) assign (fun e s1=>e=.normal/\wpA P R nt s1.hp.length (.inr l) body (kY R s.hp.length jmp hp' g') s1) s
theorem qQ {nt D L:Nat}{fn:FuncId}{tmps:Array Value}{ps:Array Tmp}{assign body:Code}{rec:LoopState->Option Code->Loop}
  (hrec:rec=fun st pe=>{ state:=st,pending:=pe,fn,tmps,params:=ps,assign,body,defers:=D }) {FM0:Mem} {Z:Plc} {fr:List (Nat × AV)} (hsz:tmps.size=nt) (hfr:∀t,Den FM0 Z (lk fr t) (tmps.getD t undef)) (hne:D≠L)
  {items:List AV} (hlen:items.length=ps.toList.length) (hlt:bF ps.toList nt=true) (hit:fY 0 items) {jmp:Option Code} {hp hp':List AObj} {g g':R.σ} (hl:hp'.length=hp.length)
  (hround:lj P R nt assign body jmp hp' g' ⟨cP ps.toList items fr,hp,g⟩) (hpo:List AObj) :
  VDoes P (eY (gK R D L rec) FM0 Z) (.func (.yield L) #[] #[]) items hpo ((g,.ready,none),hp) (.ret (.bool jmp.isNone)) hpo ((g',(if jmp.isNone then .ready else .done),jmp),hp'):=by
 refine⟨.inr ⟨L,rfl,fun FM Z1 w vs ok hvs=>?_⟩⟩
 obtain⟨okL,hmono⟩:=ok.j
 obtain⟨jR,hD,hL,⟨fD,fL⟩,bD,bL⟩:=okL.j
 have okR:=nm okL
 have iD:¬InB Z D:=(okL.bd D (.inr (.inl rfl))).2
 have iL:¬InB Z L:=(okL.bd L (.inr (.inr rfl))).2
 have lD:D<w.heap.size:=(Array.getElem?_eq_some_iff.1 hD).1
 have lL:L<w.heap.size:=(Array.getElem?_eq_some_iff.1 hL).1
 have hvsz:vs.size=ps.size:=by rw[hvs.1,hlen];simp
 have hrun:=run_yield (P:=P) hL (args:=vs) (by rw[hrec];exact hvsz)
 rw[hrec] at hrun
 refine⟨_,_,_,_,hrun,fun r n=>roundIn_of_wpIn trivial ?_⟩
 have hzip:(ps.zip vs).foldl (fun tmps (x:Tmp × Value)=>tmps.setIfInBounds x.1 x.2) tmps=(ps.toList.zip vs.toList).foldl (fun tmps (p:Nat × Value)=>tmps.setIfInBounds p.1 p.2) tmps:=by
  rw[<-Array.foldl_toList,Array.toList_zip]
 have hset:=np (FM:=FM) (Z:=Z) ps.toList items vs.toList fr tmps hsz hlt hlen (by simpa using hvsz) (fun i hi=>by
  have:=hvs.2 i hi
  have h2:=m8 (Z':=Z) hvs (fun i hi=>jC hit i hi)
  have h3:=h2.2 i hi
  rw[Array.getD_eq_getD_getElem?] at h3
  rw[List.getD_eq_getElem?_getD,Array.getElem?_toList]
  exact h3) (fun t=>A1 hmono _ (AZ _) (hfr t))
 let C:Cx R:=⟨g,FM,Z,w,[],false⟩
 have hsat:Sat R C nt ⟨cP ps.toList items fr,hp,g⟩ FM Z { tmps:=(ps.zip vs).foldl (fun tmps (x:Tmp × Value)=>tmps.setIfInBounds x.1 x.2) tmps,defers:=[] } w:=by
  refine⟨okR,AW _ _ _ _ _,?_,.start,fun t=>?_⟩
  ·show Array.size _=nt
   rw[hzip];exact hset.1
  ·show Den FM Z _ (Array.getD _ _ _)
   rw[hzip];exact hset.2 t
 have hC:C.Z.length=hp.length:=okR.rel.len
 refine wpIn_mono (hround L C ⟨hC,rfl⟩ n _ w ⟨FM,Z,hsat⟩) (fun e a1 w1 hpost=>?_)
 have post:∃s1 FM1 Z1,e=.normal/\(wpA P R nt s1.hp.length (.inr L) body (kY R hp.length jmp hp' g') s1)/\Sat R C nt s1 FM1 Z1 a1 w1:=by
  cases e with
  |normal=>obtain⟨s,⟨_,h1⟩,FM1,Z1,h2⟩:=hpost;exact⟨s,FM1,Z1,rfl,h1,h2⟩
  |exit id=>obtain⟨s,⟨h1,_⟩,_⟩:=hpost;cases h1
  |ret=>obtain⟨s,⟨h1,_⟩,_⟩:=hpost;cases h1
  |panic ch=>obtain⟨s,x,v,FM1,Z1,⟨h1,_⟩,_⟩:=hpost;cases h1
  |goto l=>exact hpost.elim
  |outgrown=>exact hpost.elim
 obtain⟨s1,FM1,Z1',rfl,hbody,hs1⟩:=post
 have hin1:∀b,b<w.heap.size->¬InB Z b->¬InB Z1' b:=fun b h1 h2 h3=>by
  rcases hs1.goes.ext.blk b h3 with h|h
  ·exact h2 h
  ·have h:w.heap.size<=b:=h
   omega
 have keep1:∀b,b<w.heap.size->¬InB Z b->¬R.B g b->w1.heap[b]? = w.heap[b]?:= hs1.goes.ext.keep
 have nofm1:∀b,b<w.heap.size->¬InB Z b->¬R.B g b->FM b=none->FM1 b=none:=fun b h1 h2 h3 h4=>by
  cases hx:FM1 b with
  |none=>rfl
  |some o=>
   rcases hs1.goes.ext.grow b o hx with h|h|h|h
   ·have h:FM b=some o:=h
    rw[h4] at h;cases h
   ·have h:w.heap.size<=b:=h
    omega
   ·exact absurd h h2
   ·exact absurd h h3
 have nB1:∀b,b<w.heap.size->¬R.B g b->¬R.B s1.g b:=fun b h1 h3 hb=>by
  rcases hs1.goes.bn b hb with h|h
  ·exact h3 h
  ·have h:w.heap.size<=b:=h
   omega
 have hL1:w1.heap[L]? = some (.loop (rec .ready none)):=(keep1 L lL iL bL).trans hL
 have hD1:w1.heap[D]? = some (.deferred (some [])):=(keep1 D lD iD bD).trans hD
 have fL1:=nofm1 L lL iL bL fL
 have fD1:=nofm1 D lD iD bD fD
 have bL1:=nB1 L lL bL
 have bD1:=nB1 D lD bD
 have lL1:L<w1.heap.size:=(Array.getElem?_eq_some_iff.1 hL1).1
 have lD1:D<w1.heap.size:=(Array.getElem?_eq_some_iff.1 hD1).1
 refine⟨_,run_beginRound hL1 (by rw[hrec]),?_⟩
 have okb:=iw (.loop { rec .ready none with state:=.busy }) (hin1 L lL iL) bL1 fL1 hs1.ok
 let C2:Cx R:=⟨s1.g,FM1,Z1',w1.putObj L (.loop { rec .ready none with state:=.busy }),[],false⟩
 have hsat2:Sat R C2 nt s1 FM1 Z1' a1 (w1.putObj L (.loop { rec .ready none with state:=.busy })):=by
  refine⟨okb,AW _ _ _ _ _,hs1.size,?_,hs1.fr⟩
  have e:a1.defers=[]:=hs1.defs.none
  rw[e];exact .start
 refine wpIn_mono (hbody C2 ⟨hs1.ok.rel.len,rfl⟩ n a1 _ ⟨FM1,Z1',hsat2⟩) (fun e a3 w3 hp3=>?_)
 have lL2:L<(w1.putObj L (.loop { rec .ready none with state:=.busy })).heap.size:=by simpa using lL1
 have lD2:D<(w1.putObj L (.loop { rec .ready none with state:=.busy })).heap.size:=by simpa using lD1
 -- the end of the round
 have fin:∀(s3:St R.σ) (FM3:Mem) (Z3:Plc),Sat R C2 nt s3 FM3 Z3 a3 w3->(∃s',To R hp.length s3 s'/\s'.hp=hp'/\s'.g=g')->∃v w',(Instr.endRound L jmp).run P w3=.ok v w' /\
   eP (eY (gK R D L rec) FM0 Z) ((g,.ready,none),hp) FM Z1 w (.ret (.bool jmp.isNone)) hpo ((g',(if jmp.isNone then .ready else .done),jmp),hp') (.returned v) w':=by
  rintro s3 FM3 Z3 hs3 ⟨s',hto,rfl,rfl⟩
  have hL3:w3.heap[L]? = some (.loop { rec .ready none with state:=.busy }):=(hs3.goes.ext.keep L lL2 (hin1 L lL iL) bL1).trans (World.putObj_heap_same lL1)
  have hD3:w3.heap[D]? = some (.deferred (some [])):=(hs3.goes.ext.keep D lD2 (hin1 D lD iD) bD1).trans ((World.putObj_heap_other hne).trans hD1)
  refine⟨_,_,run_endRound jmp hL3,?_⟩
  obtain⟨FM4,Z4,a1',a2',a3',a4',a5',a6',a7'⟩:=hto Z FM3 Z3 w3 _ hC (fun i p h=>hs3.goes.sub i p (hs1.goes.sub i p h)) hs3.ok hs3.fr
  obtain rfl:=vL okR a1' hl a3'
  have nofm4:∀b,b<w1.heap.size->¬InB Z1' b->¬R.B s1.g b->FM1 b=none->FM4 b=none:=fun b h1 h2 h3 h4=>by
   have h2':¬InB Z3 b:=fun hi=>by
    rcases hs3.goes.ext.blk b hi with h|h
    ·exact h2 h
    ·have h:(w1.putObj L (.loop { rec .ready none with state:=.busy })).heap.size<=b:=h
     simp at h;omega
   cases hx:FM4 b with
   |none=>rfl
   |some o=>
    rcases a5' b o hx with h|h
    ·rcases hs3.goes.ext.grow b o h with h|h|h|h
     ·have h:FM1 b=some o:=h
      rw[h4] at h;cases h
     ·have h:(w1.putObj L (.loop { rec .ready none with state:=.busy })).heap.size<=b:=h
      simp at h;omega
     ·exact absurd h h2
     ·exact absurd h h3
    ·exact absurd h h2'
  have nB3:∀b,b<w1.heap.size->¬R.B s1.g b->¬R.B s'.g b:=fun b h1 h3 hb=>by
   rw[a7'] at hb
   rcases hs3.goes.bn b hb with h|h
   ·exact h3 h
   ·have h:(w1.putObj L (.loop { rec .ready none with state:=.busy })).heap.size<=b:=h
    simp at h;omega
  have fL4:=nofm4 L lL1 (hin1 L lL iL) bL1 fL1
  have fD4:=nofm4 D lD1 (hin1 D lD iD) bD1 fD1
  have bL4:=nB3 L lL1 bL1
  have bD4:=nB3 D lD1 bD1
  have ok4:=iw (.loop (rec (if jmp.isNone then .ready else .done) jmp)) iL bL4 fL4 a1'
  have erec:({ ({ rec .ready none with state:=.busy }:Loop) with state:=if jmp.isNone then .ready else .done,pending:=jmp }:Loop)=rec (if jmp.isNone then .ready else .done) jmp:=by rw[hrec]
  rw[erec]
  -- how it has gone on
  have hsize:w.heap.size<=w3.heap.size:=Nat.le_trans hs1.goes.ext.size (by have:=hs3.goes.ext.size;simpa[C2] using this)
  have hgrow:∀b o,FM4 b=some o->FM b=some o∨w.heap.size<=b∨InB Z4 b∨R.B g b:=fun b o hb=>by
   have h3:FM3 b=some o∨w.heap.size<=b∨InB Z4 b:=by
    rcases a5' b o hb with h|h
    ·exact .inl h
    ·rcases hs3.goes.ext.blk b h with h|h
     ·rcases hs1.goes.ext.blk b h with h|h
      ·exact .inr (.inr h)
      ·exact .inr (.inl h)
     ·have h:(w1.putObj L (.loop { rec .ready none with state:=.busy })).heap.size<=b:=h
      have:=hs1.goes.ext.size
      simp at h
      exact .inr (.inl (Nat.le_trans this h))
   rcases h3 with h3|h3|h3
   ·rcases hs3.goes.ext.grow b o h3 with h|h|h|h
    ·exact hs1.goes.ext.grow b o h
    ·have h:(w1.putObj L (.loop { rec .ready none with state:=.busy })).heap.size<=b:=h
     have:=hs1.goes.ext.size
     simp at h
     exact .inr (.inl (Nat.le_trans this h))
    ·rcases hs1.goes.ext.blk b h with h|h
     ·exact .inr (.inr (.inl h))
     ·exact .inr (.inl h)
    ·rcases hs1.goes.bn b h with h|h
     ·exact .inr (.inr (.inr h))
     ·exact .inr (.inl h)
   ·exact .inr (.inl h3)
   ·exact .inr (.inr (.inl h3))
  have hkeep:∀b,b<w.heap.size->¬InB Z4 b->¬R.B g b->b≠L->(w3.putObj L (.loop (rec (if jmp.isNone then .ready else .done) jmp))).heap[b]? = w.heap[b]?:= fun b h1 h2 h3 h4=>by
   rw[World.putObj_heap_other h4]
   have h1':b<(w1.putObj L (.loop { rec .ready none with state:=.busy })).heap.size:=by
    simp;exact Nat.lt_of_lt_of_le h1 hs1.goes.ext.size
   refine(hs3.goes.ext.keep b h1' (hin1 b h1 h2) (nB1 b h1 h3)).trans ?_
   show(w1.putObj L _).heap[b]? = _
   rw[World.putObj_heap_other h4]
   exact hs1.goes.ext.keep b h1 h2 h3
  have hbn:∀b,R.B s'.g b->R.B g b∨w.heap.size<=b:=fun b hb=>by
   rw[a7'] at hb
   rcases hs3.goes.bn b hb with h|h
   ·exact hs1.goes.bn b h
   ·have h:(w1.putObj L (.loop { rec .ready none with state:=.busy })).heap.size<=b:=h
    have:=hs1.goes.ext.size
    simp at h
    exact .inr (Nat.le_trans this h)
  have hfm:∀b o,FM b=some o->FM4 b=some o:=fun b o hb=>a4' b o (hs3.goes.ext.fm b o (hs1.goes.ext.fm b o hb))
  -- the iterator's objects
  have off:∀b,InB Z1 b->b<w.heap.size/\¬R.B g b/\¬InB Z4 b/\b≠L/\b≠D:=fun b hb=>by
   obtain⟨p,hp1,hpb,hre⟩:=hb
   obtain⟨i,hi⟩:=List.getElem?_of_mem hp1
   have hin:InB Z1 b:=⟨p,hp1,hpb,hre⟩
   refine⟨by rw[<-hpb];exact(ok.rel.obj i p hi).1 hre,fun hB=>(ok.bd b (.inl (.inl hB))).2 hin,fun hI=>(ok.bd b (.inr hI)).2 hin,fun e=>(ok.bd b (.inl (.inr (.inr e)))).2 hin,fun e=>(ok.bd b (.inl (.inr (.inl e)))).2 hin⟩
  have heap:∀b,InB Z1 b->(w3.putObj L (.loop (rec (if jmp.isNone then .ready else .done) jmp))).heap[b]? = w.heap[b]?:= fun b hb=>let ⟨h1,h2,h3,h4,_⟩:=off b hb;hkeep b h1 h3 h2 h4
  have fmn:∀b,InB Z1 b->FM b=none->FM4 b=none:=fun b hb hn=>by
   cases hx:FM4 b with
   |none=>rfl
   |some o=>
    obtain⟨h1,h2,h3,_⟩:=off b hb
    rcases hgrow b o hx with h|h|h|h
    ·rw[hn] at h;cases h
    ·omega
    ·exact absurd h h3
    ·exact absurd h h2
  refine⟨FM4,Z1,⟨_,rfl,rfl⟩,⟨⟨ok4.rel.fm,ok.rel.len,fun i p hi=>?_,ok.rel.inj⟩,⟨⟨ok4.rel,⟨ok4.j,(World.putObj_heap_other hne).trans hD3,World.putObj_heap_same (Array.getElem?_eq_some_iff.1 hL3).1,⟨fD4,fL4⟩,bD4,bL4⟩,fun b hb=>?_⟩,fun b o hb=>hfm b o (hmono b o hb)⟩,fun b hb=>?_⟩,
   ⟨⟨hfm,fun b o hb=>?_,fun b hb=>.inl hb,fun b h1 h2 h3=>hkeep b h1 (fun hI=>h3 (.inr hI)) (fun hB=>h3 (.inl (.inl hB))) (fun e=>h3 (.inl (.inr (.inr e)))),by simpa using hsize,?_,?_,?_⟩,fun b hb=>?_,AZ _⟩⟩
  ·obtain⟨k1,k2⟩:=ok.rel.obj i p hi
   refine⟨fun hre=>by simpa using Nat.lt_of_lt_of_le (k1 hre) hsize,?_⟩
   cases hx:ag hpo i with
   |dead=>trivial
   |map es=>
    rw[hx] at k2
    have hin:InB Z1 p.1:=⟨p,bq hi,rfl,k2.1⟩
    exact dK k2 hfm (heap _ hin) (fmn _ hin k2.2.1)
   |mapo es=>
    rw[hx] at k2
    have hin:InB Z1 p.1:=⟨p,bq hi,rfl,k2.1⟩
    exact gw k2 hfm (AZ _) (heap _ hin) (fmn _ hin k2.2.1)
   |cells f n g=>
    intro hn
    have hin:InB Z1 p.1:=⟨p,bq hi,rfl,(ok.rel.real_cells hi hx hn).1⟩
    rw[hx] at k2
    obtain⟨cs,e',b1,b2,b3,b4,b5,b6⟩:=k2 hn
    exact⟨cs,e',by rw[heap _ hin];exact b1,b2,b3,fun j hj=>let ⟨x,c1,c2,c3⟩:=b4 j hj;⟨x,c1,c2,A1 hfm _ (AZ _) c3⟩,fun hf=>hfm _ _ (b5 hf),fun hf=>fmn _ hin (b6 hf)⟩
  ·rcases hb with hb|rfl|rfl
   ·exact ok4.bd b hb
   ·exact⟨by simpa using Nat.lt_of_lt_of_le lD hsize,iD⟩
   ·exact⟨by simpa using Nat.lt_of_lt_of_le lL hsize,iL⟩
  ·rcases hb with(hb|rfl|rfl)|hb
   ·rcases hbn b hb with h1|h1
    ·exact⟨(ok4.bd b hb).1,(ok.bd b (.inl (.inl h1))).2⟩
    ·exact⟨(ok4.bd b hb).1,fun hI=>by have:=(off b hI).1;omega⟩
   ·exact⟨by simpa using Nat.lt_of_lt_of_le lD hsize,fun hI=>(off _ hI).2.2.2.2 rfl⟩
   ·exact⟨by simpa using Nat.lt_of_lt_of_le lL hsize,fun hI=>(off _ hI).2.2.2.1 rfl⟩
   ·exact⟨by simpa using Nat.lt_of_lt_of_le (ok.bd b (.inr hb)).1 hsize,(ok.bd b (.inr hb)).2⟩
  ·rcases hgrow b o hb with h|h|h|h
   ·exact .inl h
   ·exact .inr (.inl h)
   ·exact .inr (.inr (.inr (.inr h)))
   ·exact .inr (.inr (.inr (.inl (.inl h))))
  ·exact hs3.goes.ext.os.trans hs1.goes.ext.os
  ·exact hs3.goes.ext.tape.trans hs1.goes.ext.tape
  ·exact hs3.goes.ext.output.trans hs1.goes.ext.output
  ·rcases hb with(hb|rfl|rfl)|hb
   ·rcases hbn b hb with h|h
    ·exact .inl (.inl (.inl h))
    ·exact .inr h
   ·exact .inl (.inl (.inr (.inl rfl)))
   ·exact .inl (.inl (.inr (.inr rfl)))
   ·exact .inl (.inr hb)
 cases e with
 |normal=>obtain⟨s3,⟨rfl,h⟩,FM3,Z3,h2⟩:=hp3;exact fin s3 FM3 Z3 h2 h
 |ret=>obtain⟨s3,⟨rfl,h⟩,FM3,Z3,h2⟩:=hp3;exact fin s3 FM3 Z3 h2 h
 |exit id=>obtain⟨s3,⟨rfl,h⟩,FM3,Z3,h2⟩:=hp3;exact fin s3 FM3 Z3 h2 h
 |panic ch=>obtain⟨s3,x,v,FM3,Z3,h,_⟩:=hp3;exact h.elim
 |goto l=>exact hp3.elim
 |outgrown=>exact hp3.elim
theorem wk {nt k0:Nat}{Q:AEx->St R.σ->Prop}{s:St R.σ}{t:Nat}{ps:Array Tmp}{assign body:Code}{f m:Nat}{fa fb:Nat->AV}{o:AObj}(hf:lk s.fr t=.fn f 0 fa 1 fb)(hfb:fb 0=.ref m 0)(hpl:cf P f=true)
  {N:Nat} {items:Nat->List AV} {T:Mem->Prop} [Tab T R] (hseq:SeqO P f o N items T) (hlen:∀k,(items k).length=ps.toList.length) (hlt:bF ps.toList nt=true) (hit:∀k,fY 0 (items k))
  (jmp:Nat->Option Code) (hj:∀k,jOk (jmp k)=true) (H:Nat->List AObj) (G:Nat->R.σ) (h0:s.hp=H 0++[o]) (hg0:G 0=s.g) (hl:∀k,(H k).length=m)
  (hlive:dE (H 0++[o])) (hBO:e7 m (H 0)) (hBo:e7 0 [o]) (ts:List Nat) (hBf:f6 ts (fun t=>Below m (lk s.fr t)))
  (hround:∀k,k<N->(∀j,j<k->jmp j=none)->lj P R nt assign body (jmp k) (H (k+1)) (G (k+1)) ⟨cP ps.toList (items k) (dP ts s.fr),H k,G k⟩)
  (hdone:(∀k,k<N->jmp k=none)->Q .normal ⟨s.fr,H N++[.dead],G N⟩)
  (hret:∀k,k<N->(∀j,j<k->jmp j=none)->jmp k=some .ret->Q .ret ⟨s.fr,H (k+1)++[.dead],G (k+1)⟩)
  (hexit:∀k id,k<N->(∀j,j<k->jmp j=none)->jmp k=some (.exit id)->Q (.exit id) ⟨s.fr,H (k+1)++[.dead],G (k+1)⟩) :
  wpA P R nt k0 .top (.rangeFunc (.tmp t) ps assign body) Q s:=by
 intro C hC n a w ⟨FM,Z,hs⟩
 refine wpIn_rangeFunc (fun fn hfn=>?_)
 obtain⟨D,hD⟩:∃D,D=w.heap.size:=⟨_,rfl⟩
 obtain⟨L,hL⟩:∃L,L=w.heap.size+1:=⟨_,rfl⟩
 have hne:D≠L:=by omega
 obtain⟨rec,hrec⟩:∃rec:LoopState->Option Code->Loop,rec=fun st pe=>{ state:=st,pending:=pe,fn,tmps:=a.tmps,params:=ps,assign,body,defers:=D }:=⟨_,rfl⟩
 obtain⟨W1,hW1⟩:∃W1,(w.alloc (.deferred (some []))).alloc (.loop (rec .ready none))=W1:=⟨_,rfl⟩
 have hL1:W1.heap[L]? = some (.loop (rec .ready none)):=by
  rw[<-hW1,hL];have:=World.alloc_heap_new (w.alloc (.deferred (some []))) (.loop (rec .ready none));rwa [World.size_alloc] at this
 have hD1:W1.heap[D]? = some (.deferred (some [])):=by
  rw[<-hW1,hD];exact(_root_.Go.RowKit.Below.heap_alloc _ _ _ (by simp)).trans (World.alloc_heap_new w _)
 have hsz1:W1.heap.size=w.heap.size+2:=by rw[<-hW1];simp
 obtain⟨okA,goA⟩:=im hs.ok (.deferred (some []))
 obtain⟨ok1,goB⟩:=im okA (.loop (rec .ready none))
 have go1:=goA.trans goB
 rw[hW1] at ok1 go1
 -- the iterator's object
 have hlen0:s.hp.length=m+1:=by rw[h0];simp[hl]
 have hZl:Z.length=m+1:=by rw[hs.ok.rel.len,hlen0]
 obtain⟨pb,hpb⟩:∃pb,Z[m]? = some pb:=⟨_,List.getElem?_eq_getElem omg⟩
 obtain⟨Z0,hZ0⟩:∃Z0,Z0=Z.take m:=⟨_,rfl⟩
 have hsub0:Sub Z0 Z:=fun i p hi=>by
  rw[hZ0,List.getElem?_take] at hi
  split at hi
  ·exact hi
  ·cases hi
 have hlt0:∀{i p},Z0[i]? = some p->i<m:=fun {i p} hi=>by
  rw[hZ0,List.getElem?_take] at hi
  split at hi
  ·assumption
  ·cases hi
 have hInB:∀b,InB Z b↔InB Z0 b∨InB [pb] b:=fun b=>by
  constructor
  ·rintro ⟨p,hp,hb,hre⟩
   obtain⟨i,hi⟩:=List.getElem?_of_mem hp
   have:i<m+1:=by rw[<-hZl];exact(List.getElem?_eq_some_iff.1 hi).1
   rcases Nat.lt_or_ge i m with h|h
   ·exact .inl ⟨p,List.mem_of_getElem? (i:=i) (by rw[hZ0,List.getElem?_take,if_pos h];exact hi),hb,hre⟩
   ·have:i=m:=by omega
    subst this
    rw[hpb] at hi;cases hi
    exact .inr ⟨pb,by simp,hb,hre⟩
  ·rintro (⟨p,hp,hb,hre⟩|⟨p,hp,hb,hre⟩)
   ·obtain⟨i,hi⟩:=List.getElem?_of_mem hp
    exact⟨p,bq (hsub0 i p hi),hb,hre⟩
   ·have:p=pb:=by simpa using hp
    subst this
    exact⟨p,bq hpb,hb,hre⟩
 have hgo:∀i,i<m->ag s.hp i=ag (H 0) i:=fun i hi=>by rw[h0,jy (by rw[hl];exact hi)]
 have hgm:ag s.hp m=o:=by rw[h0,jz (by rw[hl];exact Nat.le_refl _),hl,Nat.sub_self];rfl
 have hlv:∀i,i<m+1->aL (ag s.hp i)=true:=fun i hi=>by rw[h0];exact jB hlive i (by simp[hl];omega)
 have rel0:∀W,HRel FM Z s.hp W->HRel FM Z0 (H 0) W:=fun W hr=>by
  refine⟨hr.fm,by rw[hZ0,List.length_take,hl,hZl];omega,fun i p hi=>?_,fun i j p q hi hj _ _ e=>hr.inj i j p q (hsub0 i p hi) (hsub0 j q hj) (hlv i (by have:=hlt0 hi;omega)) (hlv j (by have:=hlt0 hj;omega)) e⟩
  obtain⟨k1,k2⟩:=hr.obj i p (hsub0 i p hi)
  rw[hgo i (hlt0 hi)] at k2
  refine⟨k1,?_⟩
  rw[hZ0]
  exact lg k2 (lf hBO i)
 have relI:∀W,HRel FM Z s.hp W->HRel FM [pb] [o] W:=fun W hr=>by
  refine⟨hr.fm,rfl,fun i p hi=>?_,fun i j p q hi hj _ _ _=>?_⟩
  ·have e:i=0:=by
    have:=(List.getElem?_eq_some_iff.1 hi).1
    simpa using this
   subst e
   have hi:pb=p:=by simpa using hi
   subst hi
   obtain⟨k1,k2⟩:=hr.obj m pb hpb
   rw[hgm] at k2
   refine⟨k1,?_⟩
   have:=lg k2 (lf hBo 0)
   exact lh (fun i p hi=>by simp at hi) this
  ·have e1:=(List.getElem?_eq_some_iff.1 hi).1
   have e2:=(List.getElem?_eq_some_iff.1 hj).1
   simp at e1 e2
   omega
 have hdis:∀b,InB [pb] b->¬InB Z0 b:=fun b ⟨p,hp,hb,hre⟩ ⟨q,hq,hb',hre'⟩=>by
  have:p=pb:=by simpa using hp
  subst this
  obtain⟨i,hi⟩:=List.getElem?_of_mem hq
  have:=hlt0 hi
  have:=hs.ok.rel.inj i m q p (hsub0 i q hi) hpb (hlv i omg) (hlv m omg) (by rw[hb,hb'])
  omega
 -- the new blocks are nobody's
 have nIn:∀X,w.heap.size<=X->¬InB Z X:=fun X hX ⟨p,hp,hb,hre⟩=>by
  obtain⟨i,hi⟩:=List.getElem?_of_mem hp
  have:=(hs.ok.rel.obj i p hi).1 hre
  omega
 have nB:∀X,w.heap.size<=X->¬R.B s.g X:=fun X hX hb=>by have:=(hs.ok.bd X hb).1;omega
 have nF:∀X,w.heap.size<=X->FM X=none:=fun X hX=>by
  cases hx:FM X with
  |none=>rfl
  |some o=>have:=(Array.getElem?_eq_some_iff.1 (hs.ok.rel.fm X o hx)).1;omega
 -- the iterator's call
 have hev:Den FM Z (.fn f 0 fa 1 fb) (a.eval (.tmp t)):=by rw[<-hf];exact hs.fr t
 obtain⟨xs,ys,hu,hxs,hys,hda,hdb⟩:=hev
 have hfr0:∀t,Den FM Z0 (lk (dP ts s.fr) t) (a.tmps.getD t undef):=nC (fun t=>hs.fr t) (fun t ht=>nA hBf t ht) hZ0
 let u:Value:=.func (.yield L) #[] #[]
 let R2:Res:=eY (gK R D L rec) FM Z0
 let G2:Nat->R2.σ:=fun k=>((G k,stJ jmp k),H k)
 let c:Nat->Bool:=fun k=>(jmp k).isNone
 have hstJ:∀k,(∀j,j<k->c j=true)->stJ jmp k=(.ready,none):=fun k hk=>by
  cases k with
  |zero=>rfl
  |succ k=>
   have:jmp k=none:=by simpa[c] using hk k omg
   simp[stJ,this]
 have hdoes:=hseq.h R2 u G2 c (fun k hk hjk hpo=>by
  have e:=hstJ k hjk
  have:=qQ (P:=P) (R:=R) (L:=L) hrec hs.size hfr0 hne (hlen k) hlt (hit k) (jmp:=jmp k) (hp:=H k) (hp':=H (k+1)) (g:=G k) (g':=G (k+1)) (by rw[hl,hl]) (hround k hk (fun j h=>by simpa[c] using hjk j h)) hpo
  show VDoes P R2 u (items k) hpo ((G k,stJ jmp k),H k) (.ret (.bool (jmp k).isNone)) hpo ((G (k+1),stJ jmp (k+1)),H (k+1))
  rw[e]
  exact this)
 have okI:Ok R2 [o] (G2 0) FM [pb] W1:=by
  refine⟨relI W1 ok1.rel,⟨⟨rel0 W1 ok1.rel,⟨by rw[show(G2 0).1.1=s.g from hg0];exact ok1.j,hD1,hL1,⟨nF D omg,nF L omg⟩,?_,?_⟩,fun b hb=>?_⟩,fun _ _ h=>h⟩,fun b hb=>⟨?_,fun hI=>?_⟩⟩
  ·rw[show(G2 0).1.1=s.g from hg0];exact nB D omg
  ·rw[show(G2 0).1.1=s.g from hg0];exact nB L omg
  ·have hb':R.B s.g b∨b=D∨b=L:=by
    rcases hb with hb|hb
    ·rw[show(G2 0).1.1=s.g from hg0] at hb;exact .inl hb
    ·exact .inr hb
   rcases hb' with hb|rfl|rfl
   ·exact⟨(ok1.bd b hb).1,fun h=>(ok1.bd b hb).2 ((hInB b).2 (.inl h))⟩
   ·exact⟨omg,fun h=>nIn _ omg ((hInB _).2 (.inl h))⟩
   ·exact⟨omg,fun h=>nIn _ omg ((hInB _).2 (.inl h))⟩
  ·rcases hb with(hb|rfl|rfl)|⟨p,hp,hb,hre⟩
   ·rw[show(G2 0).1.1=s.g from hg0] at hb;exact(ok1.bd b hb).1
   ·omega
   ·omega
   ·obtain⟨i,hi⟩:=List.getElem?_of_mem hp
    rw[<-hb];exact(ok1.rel.obj i p (hsub0 i p hi)).1 hre
  ·rcases hb with(hb|rfl|rfl)|hb
   ·rw[show(G2 0).1.1=s.g from hg0] at hb;exact(ok1.bd b hb).2 ((hInB b).2 (.inr hI))
   ·exact nIn _ omg ((hInB _).2 (.inr hI))
   ·exact nIn _ omg ((hInB _).2 (.inr hI))
   ·exact hdis b hI hb
 have hargs:bS FM [pb] [.val u,.ref 0 0] ((xs++#[u])++ys):=by
  have hxs0:xs=#[]:=Array.size_eq_zero_iff.1 hxs
  have hd0:=hdb 0 omg
  rw[hfb] at hd0
  obtain⟨p,hp1,hp2⟩:=hd0
  rw[hpb] at hp1;cases hp1
  subst hxs0
  refine⟨by simp[hys],fun i hi=>?_⟩
  match i,hi with
  |0,_=>
   show _=u/\_
   exact⟨by simp[Array.getD_eq_getD_getElem?,Array.getElem?_append],rfl⟩
  |1,_=>
   refine⟨pb,rfl,?_⟩
   rw[<-hp2]
   simp[Array.getD_eq_getD_getElem?,Array.getElem?_append]
 obtain⟨hp1,hd1,hdoes⟩:=hdoes
 have hcalls:=hdoes.h FM [pb] W1 _ okI hargs
 have hfn':∃fn,P.funcs[f]? = some fn/\fn.name ≠ "runtime.NumGoroutine"/\fn.body.isSome=true:=by
  unfold cf at hpl
  split at hpl
  ·rename_i fn hfn
   simp only[Bool.and_eq_true,bne_iff_ne,ne_eq] at hpl
   exact⟨fn,hfn,hpl.1,hpl.2⟩
  ·cases hpl
 obtain⟨fnF,hF1,hF2,hF3⟩:=hfn'
 have hF3':¬fnF.body=none:=fun h=>by rw[h] at hF3;cases hF3
 refine⟨L,[gz D],W1,{ target:=.fn (.func f) ys,args:=xs++#[u] },W1,f,(xs++#[u])++ys,W1,?_,?_,fun _ _=>trivial,?_,fun h=>(by cases h),(fT hcalls).mono ?_⟩
 ·rw[<-hW1,hrec,hD,hL];exact run_enterLoop_outer _ _ _ _ _
 ·simp[resolve,hu,Deferred.ofValue,u]
  rfl
 ·simp[invoke,callFunc,hF1,hF2,hF3']
 -- behind it
 rintro e w3 ⟨FM',Z',⟨v,rfl,_⟩,ok3,go3⟩
 have hdl:=hd1
 obtain rfl:Z'=[pb]:=by
  have hl1:Z'.length=1:=by rw[ok3.rel.len,hdl]
  match Z',hl1 with
  |[q],_=>
   have:=go3.sub 0 pb rfl
   cases this;rfl
 obtain⟨m',hm⟩:∃m',m'=eZ c N 0:=⟨_,rfl⟩
 rw[<-hm] at ok3 go3
 obtain⟨okL,hmono⟩:=ok3.j
 obtain⟨jR,hD3,hL3,⟨fD,fL⟩,bD,bL⟩:=okL.j
 have okR:=nm okL
 have hnb:(stJ jmp m').1≠.busy:=by
  cases m' with
  |zero=>simp[stJ]
  |succ k=>simp only[stJ];split <;> simp
 have hend:=run_endLoop (P:=P) hL3 (by rw[hrec];exact hnb)
 obtain⟨p,w4,hend,hp,hw4⟩:∃p w4,(Instr.endLoop L).run P w3=.ok p w4/\p=(stJ jmp m').2/\w4=w3.putObj L (.loop { rec (stJ jmp m').1 (stJ jmp m').2 with state:=.exhausted }):=⟨_,_,hend,by rw[hrec],rfl⟩
 refine⟨p,w4,hend,?_⟩
 have okR1:Ok R (H m'++[.dead]) (G m') FM' Z w3:=by
  have hgd:∀i,i<m->ag (H m'++[.dead]) i=ag (H m') i:=fun i hi=>jy (by rw[hl];exact hi)
  have hgdm:ag (H m'++[.dead]) m=.dead:=by rw[jz (by rw[hl];exact Nat.le_refl _),hl,Nat.sub_self];rfl
  have hback:∀i p,Z[i]? = some p->(i<m/\Z0[i]? = some p)∨(i=m/\p=pb):=fun i p hi=>by
   have:i<m+1:=by rw[<-hZl];exact(List.getElem?_eq_some_iff.1 hi).1
   rcases Nat.lt_or_ge i m with h|h
   ·exact .inl ⟨h,by rw[hZ0,List.getElem?_take,if_pos h];exact hi⟩
   ·have:i=m:=by omega
    subst this
    rw[hpb] at hi;cases hi
    exact .inr ⟨rfl,rfl⟩
  have hnl:∀i p,Z[i]? = some p->aL (ag (H m'++[.dead]) i)=true->i<m/\Z0[i]? = some p:=fun i p hi hv=>by
   rcases hback i p hi with h|⟨rfl,rfl⟩
   ·exact h
   ·rw[hgdm] at hv;cases hv
  refine⟨⟨okR.rel.fm,by rw[hZl];simp[hl],fun i p hi=>?_,fun i j p q hi hj hv1 hv2 e=>?_⟩,okR.j,fun b hb=>⟨(okR.bd b hb).1,fun hI=>?_⟩⟩
  ·rcases hback i p hi with⟨h1,h2⟩|⟨rfl,rfl⟩
   ·obtain⟨k1,k2⟩:=okR.rel.obj i p h2
    rw[hgd i h1]
    exact⟨k1,lh hsub0 k2⟩
   ·rw[hgdm]
    refine⟨fun hre=>?_,trivial⟩
    have h1:=(hs.ok.rel.obj i p hi).1 hre
    have:=go3.ext.size
    omega
  ·obtain⟨a1,a2⟩:=hnl i p hi hv1
   obtain⟨b1,b2⟩:=hnl j q hj hv2
   rw[hgd i a1] at hv1
   rw[hgd j b1] at hv2
   exact okR.rel.inj i j p q a2 b2 hv1 hv2 e
  ·rcases(hInB b).1 hI with h|h
   ·exact(okR.bd b hb).2 h
   ·exact(ok3.bd b (.inl (.inl hb))).2 h
 have ok4:=iw (.loop { rec (stJ jmp m').1 (stJ jmp m').2 with state:=.exhausted }) (nIn L omg) bL fL okR1
 have go4:Goes R s.g FM Z w (G m') FM' Z (w3.putObj L (.loop { rec (stJ jmp m').1 (stJ jmp m').2 with state:=.exhausted })):=by
  have hB0:∀b,R2.B (G2 0) b->R.B s.g b∨w.heap.size<=b∨InB Z0 b:=fun b hb=>by
   rcases hb with(hb|rfl|rfl)|hb
   ·rw[show(G2 0).1.1=s.g from hg0] at hb;exact .inl hb
   ·exact .inr (.inl omg)
   ·exact .inr (.inl omg)
   ·exact .inr (.inr hb)
  refine⟨⟨go3.ext.fm,fun b o hb=>?_,fun b hb=>.inl hb,fun b h1 h2 h3=>?_,?_,go3.ext.os.trans go1.ext.os,go3.ext.tape.trans go1.ext.tape,go3.ext.output.trans go1.ext.output⟩,fun b hb=>?_,AZ _⟩
  ·rcases go3.ext.grow b o hb with h|h|h|h
   ·exact .inl h
   ·exact .inr (.inl omg)
   ·exact .inr (.inr (.inl ((hInB b).2 (.inr h))))
   ·rcases hB0 b h with h|h|h
    ·exact .inr (.inr (.inr h))
    ·exact .inr (.inl h)
    ·exact .inr (.inr (.inl ((hInB b).2 (.inl h))))
  ·rw[World.putObj_heap_other omg]
   refine(go3.ext.keep b omg (fun hI=>h2 ((hInB b).2 (.inr hI))) (fun hb=>?_)).trans (go1.ext.keep b h1 h2 h3)
   rcases hB0 b hb with h|h|h
   ·exact h3 h
   ·omega
   ·exact h2 ((hInB b).2 (.inl h))
  ·have:=go3.ext.size
   simp;omega
  ·have hin:R2.B (G2 m') b:=.inl (.inl hb)
   rcases go3.bn b hin with h|h
   ·rcases hB0 b h with h|h|h
    ·exact .inl h
    ·exact .inr h
    ·exact absurd h (okR.bd b hb).2
   ·exact .inr omg
 have hsat:Sat R C nt ⟨s.fr,H m'++[.dead],G m'⟩ FM' Z { a with defers:=[gz D]++a.defers } (w3.putObj L (.loop { rec (stJ jmp m').1 (stJ jmp m').2 with state:=.exhausted })):=by
  refine⟨ok4,hs.goes.trans go4,hs.size,?_,fun t=>A1 go4.ext.fm _ go4.sub (hs.fr t)⟩
  obtain⟨ms,e1,e2,e3,e4⟩:=hs.defs
  refine⟨D::ms,by rw[e1];rfl,List.nodup_cons.2 ⟨fun hmem=>?_,e2⟩,fun h=>?_,fun X hX=>?_⟩
  ·have:=(Array.getElem?_eq_some_iff.1 (e4 D hmem).obj).1
   omega
  ·rw[hC.2] at h;cases h
  ·rcases List.mem_cons.1 hX with rfl|hX
   ·exact⟨(World.putObj_heap_other hne).trans hD3,nIn _ omg,bD,fD,by have:=hs.goes.ext.size;omega⟩
   ·exact(e4 X hX).goes go4
 rw[<-hw4] at hsat
 rcases kX c N 0 with⟨h1,h2⟩|⟨i,h1,h2,h3,h4,h5⟩
 ·have hmN:m'=N:=by omega
  have hall:∀k,k<N->jmp k=none:=fun k hk=>by simpa[c] using h1 k omg omg
  have e:=hstJ m' (fun j hjm=>h1 j omg omg)
  have e2:p=none:=by rw[hp,e]
  subst e2
  rw[hmN] at hsat
  exact⟨_,hdone hall,FM',Z,hsat⟩
 ·have hmi:m'=i+1:=by omega
  have hall:∀k,k<i->jmp k=none:=fun k hk=>by simpa[c] using h3 k omg hk
  have e2:p=jmp i:=by rw[hp,hmi];rfl
  have hji:=hj i
  rw[hmi] at hsat
  cases hc:jmp i with
  |none=>simp[c,hc] at h4
  |some x=>
   rw[hc] at hji e2
   subst e2
   cases x <;> simp only[jOk] at hji <;> first|(cases hji;done)|skip
   ·exact wpIn_exit ⟨_,hexit i _ omg hall hc,FM',Z,hsat⟩
   ·exact wpIn_ret ⟨_,hret i omg hall hc,FM',Z,hsat⟩
def nE (P:Program)(R:Res)(nt n l:Nat)(b:Code)(q:List Nat)(jmp:Option Code)(hp':List AObj)(g':R.σ):AEx->St R.σ->Prop
 |.normal,s=>Wp P R nt s.hp.length (.inr l) b q (kY R n jmp hp' g') s
 |_,_=>False
theorem iA {nt k0:Nat}{b:Code}{p:List Nat}{Q:AEx->St R.σ->Prop}{s:St R.σ}(t:Nat)(psl:List Nat)(m:Nat)(hl:ix t psl (sub b p)=true){f:Nat}{fa fb:Nat->AV}{o:AObj}(hf:lk s.fr t=.fn f 0 fa 1 fb)(hfb:fb 0=.ref m 0)(hpl:cf P f=true)
  {N:Nat} {items:Nat->List AV} {T:Mem->Prop} [Tab T R] (hseq:SeqO P f o N items T) (hlen:∀k,(items k).length=psl.length) (hlt:bF psl nt=true) (hit:∀k,fY 0 (items k))
  (jmp:Nat->Option Code) (hj:∀k,jOk (jmp k)=true) (H:Nat->List AObj) (G:Nat->R.σ) (h0:To R k0 s ⟨s.fr,H 0++[o],G 0⟩) (hlH:∀k,(H k).length=m)
  (hlive:dE (H 0++[o])) (hBO:e7 m (H 0)) (hBo:e7 0 [o]) (ts:List Nat) (hBf:f6 ts (fun t=>Below m (lk s.fr t)))
  (hround:∀k l,k<N->(∀j,j<k->jmp j=none)->Wp P R nt m (.inr l) b (p++[0]) (nE P R nt m l b (p++[1]) (jmp k) (H (k+1)) (G (k+1))) ⟨cP psl (items k) (dP ts s.fr),H k,G k⟩)
  (hdone:(∀k,k<N->jmp k=none)->Q .normal ⟨s.fr,H N++[.dead],G N⟩)
  (hret:∀k,k<N->(∀j,j<k->jmp j=none)->jmp k=some .ret->Q .ret ⟨s.fr,H (k+1)++[.dead],G (k+1)⟩)
  (hexit:∀k id,k<N->(∀j,j<k->jmp j=none)->jmp k=some (.exit id)->Q (.exit id) ⟨s.fr,H (k+1)++[.dead],G (k+1)⟩) :
  Wp P R nt k0 .top b p Q s:=by
 obtain⟨ps,assign,body,hc,rfl⟩:∃ps assign body,sub b p=.rangeFunc (.tmp t) ps assign body/\ps.toList=psl:=by
  unfold ix at hl
  split at hl
  ·rename_i u ps assign body hs
   simp only[Bool.and_eq_true] at hl
   have:=Nat.eq_of_beq_eq_true hl.1
   subst this
   exact⟨ps,assign,body,hs,jF hl.2⟩
  ·cases hl
 have e0:sub b (p++[0])=assign:=by rw[co,hc];exact cS assign
 have e1:sub b (p++[1])=body:=by rw[co,hc];exact cS body
 refine⟨?_⟩
 rw[hc]
 refine kQ h0 (wk (s:=⟨s.fr,H 0++[o],G 0⟩) hf hfb hpl hseq hlen hlt hit jmp hj H G rfl rfl hlH hlive hBO hBo ts hBf (fun k hk hjk l=>?_) hdone hret hexit)
 have h1:=(hround k l hk hjk).h
 rw[e0] at h1
 rw[show(St.hp ⟨cP ps.toList (items k) (dP ts s.fr),H k,G k⟩).length=m from hlH k]
 refine ii h1 (fun e s' hq=>?_)
 cases e with
 |normal=>
  have h2:=(show Wp _ _ _ _ _ _ _ _ _ from hq).h
  rw[e1] at h2
  exact⟨rfl,h2⟩
 |exit id=>exact hq.elim
 |ret=>exact hq.elim
 |pan v=>exact hq.elim
def qR (P:Program)(t n:Nat):Bool:=match aA P t with
 |some ti=>match ti.desc with
  |.array m e=>Nat.beq m n&&(match aA P e with
   |some ei=>Nat.beq ei.size 1
   |none=>false)
  |_=>false
 |none=>false
theorem wl {gs:List (Nat × List Int)}[hT:Tab (cU gs) R]{o:Oper}{ev:Operand->AV}{hp:List AObj}{g:R.σ}(b:Nat)(zs:List Int)(hb:(b,zs)∈gs)(hg:ev (.global b)=.val (.pointer (some ⟨b,0,none⟩))){t:TypeId}{y:Operand}{k:IntKind}{i v:Int}
  (ho:o.op=.indexAddr t (.global b) y) (hng:ld b y=false) (hi:ev y=.int k i) (hT0:qR P t zs.length=true) (h0:0<=i) (h1:i<zs.length) (hv:zs.getD i.toNat 0=v) :
  OpOk P R o ev hp g (.fp 1 (fun _=>.int .u8 v)) hp g:=by
 obtain⟨ti,e,ei,ht,hd,he,hs⟩:∃ti e ei,aA P t=some ti/\ti.desc=.array zs.length e/\aA P e=some ei/\ei.size=1:=by
  unfold qR at hT0
  split at hT0
  ·rename_i ti hti
   split at hT0
   ·rename_i m e hd
    simp only[Bool.and_eq_true] at hT0
    obtain⟨h1,h2⟩:=hT0
    split at h2
    ·rename_i ei hei
     exact⟨ti,e,ei,hti,by rw[hd,Nat.eq_of_beq_eq_true h1],hei,Nat.eq_of_beq_eq_true h2⟩
    ·cases h2
   ·cases hT0
  ·cases hT0
 have hi':fZ b zs ev y=.int k i:=by unfold fZ;rw[hng];exact hi
 have hx':fZ b zs ev (.global b)=.fp zs.length (fun j=>.int .u8 (zs.getD j 0)):=by unfold fZ ld;simp
 refine we (gs:=gs) b zs hb hg (out:=⟨.fp (zs.length-i.toNat*ei.size) (shG (fj 0 i.toNat ei.size) (fun j=>.int .u8 (zs.getD j 0))),hp,[0<=i/\i<(zs.length:Int)],.pure⟩) ?_ ⟨⟨h0,h1⟩,trivial⟩ ?_
 ·rw[ho]
  simp only[dz,bt,ht,hi',hd,hx',he]
  rfl
 ·rintro FM Z w ⟨b',off,e1,h2⟩
  refine⟨b',off,e1,fun j hj=>?_⟩
  have:j=0:=by omega
  subst this
  have h3:=h2 0 (by rw[hs];omega)
  rw[hs] at h3
  have e4:shG (fj 0 i.toNat 1) (fun j=>AV.int .u8 (zs.getD j 0)) 0=.int .u8 v:=by
   rw[<-hv]
   unfold shG fj
   simp
  rw[e4] at h3
  exact h3
theorem nG {o:Oper}{ev:Operand->AV}{hp:List AObj}{g:R.σ}{x:AV}{out:Out}(h:dz (aA P) hp ev .none o.op=some out)(hob:aq out.ob)(hx:Le out.v x):OpOk P R o ev hp g x hp g:=by
 refine⟨fun FM Z w evc okw hop=>?_⟩
 classical
 let ev':Operand->AV:=fun y=>if y∈o.op.operands then ev y else .any
 have hev':∀y,Den FM Z (ev' y) (evc y):=by
  intro y
  by_cases hy:y∈o.op.operands
  ·simp only[ev',hy,if_true];exact hop y hy
  ·simp only[ev',hy,if_false];trivial
 have hsame:∀y∈o.op.operands,ev y=ev' y:=fun y hy=>by simp only[ev',hy,if_true]
 rw[mL hsame] at h
 obtain⟨⟨v,h1,h2⟩,h3⟩:=mF okw.rel hev' h hob
 exact⟨_,w,FM,Z,v,h1,rfl,hx _ _ _ h2,okw,Ext.refl _ _ _ _,fun _ h=>.inl h,AZ _⟩
end
end Go.Avm
namespace Go.Avm
open Go
variable {P:Program}{R:Res}
theorem qS {e:TypeId}{k:IntKind}(he:P.underlying e=some (.int k)){FM:Mem}{Z:Plc}{n:Nat}{a b:Nat->Int}{xs ys:Array Value}(hx:xs.size=n)(hy:ys.size=n)(hdx:∀j,j<n->Den FM Z (.int k (a j)) (xs.getD j undef))(hdy:∀j,j<n->Den FM Z (.int k (b j)) (ys.getD j undef))(d:Nat)(w:World) :
  ∀is:List Nat,(∀i,i∈is->i<n)->(Op.eqItems (d+1) e 1 xs ys is).run P w=.ok (is.all fun i=>a i==b i) w
 |[],_=>rfl
 |i::is,h=>by
  have hi:i<n:=h i List.mem_cons_self
  have ih:=qS he hx hy hdx hdy d w is (fun j hj=>h j (List.mem_cons_of_mem _ hj))
  have heq:=pp (x:=.int k (a i)) (y:=.int k (b i)) (r:=a i==b i) he (by simp[iW]) (hdx i hi) (hdy i hi) d w
  have p1:=kx (P:=P) he rfl xs i omg w
  have p2:=kx (P:=P) he rfl ys i omg w
  simp only[Op.eqItems,Sem.run_bind,Nat.mul_one]
  rw[p1]
  simp only[Result.andThen_ok]
  rw[p2]
  simp only[Result.andThen_ok,heq]
  cases hb:(a i==b i)
  ·simp[hb]
  ·simp only[Bool.not_true,Bool.false_eq_true,if_false,List.all_cons,hb,Bool.true_and]
   exact ih
theorem wm {o:Oper}{ev:Operand->AV}{hp:List AObj}{g:R.σ}{t t2 e:TypeId}{x y:Operand}{k:IntKind}{n:Nat}{a b:Nat->Int}(ho:o.op=.binOp .eql t x y t2)(hx:ev x=.agg n (fun j=>.int k (a j)))(hy:ev y=.agg n (fun j=>.int k (b j)))
  (hu:P.underlying t=some (.array n e)) (he:P.underlying e=some (.int k)) (hi:(P.info? e).isSome=true) (hc:P.cellsOf e=1) (hg:P.eqGuardType P.depth t=false):OpOk P R o ev hp g (.bool (decide (∀j,j<n->a j=b j))) hp g:=by
 refine⟨fun FM Z w evc okw hop=>?_⟩
 obtain⟨i,hi⟩:=Option.isSome_iff_exists.1 hi
 have h1:=hop x (by simp[ho,Op.operands])
 have h2:=hop y (by simp[ho,Op.operands])
 rw[hx] at h1
 rw[hy] at h2
 obtain⟨cs,e1,s1,c1⟩:=h1
 obtain⟨ds,e2,s2,c2⟩:=h2
 have hitems:=qS (P:=P) he s1 s2 (fun j hj=>(c1 j hj).2) (fun j hj=>(c2 j hj).2) 9998 w (List.range n) (fun j hj=>by simpa using hj)
 have hr:((List.range n).all fun i=>a i==b i)=decide (∀j,j<n->a j=b j):=by
  rw[Bool.eq_iff_iff,decide_eq_true_iff,List.all_eq_true]
  exact⟨fun h j hj=>by simpa using h j (by simpa using hj),fun h j hj=>by simpa using h j (by simpa using hj)⟩
 have hq:(Op.equal t (.agg cs) (.agg ds)).run P w=.ok (decide (∀j,j<n->a j=b j)) w:=by
  show(Op.equalIn (9999+1) t (.agg cs) (.agg ds)).run P w=_
  rw[run_equalIn_array w 9999 cs ds hu hi,hc,<-hr]
  exact hitems
 have hgd:=run_eqGuard_agg (P:=P) w .eql t x y cs ds hg
 refine⟨.value (.bool (decide (∀j,j<n->a j=b j))),w,FM,Z,.bool (decide (∀j,j<n->a j=b j)),?_,rfl,rfl,okw,AW _ _ _ _ _⟩
 have hb:=pu t (v:=.agg cs) (u:=.agg ds) (by simp) (by simp) (by simp) (by simp)
 simp[execOp,ho,e1,e2,hgd,hb,hq]
end Go.Avm
namespace Go.Avm
open Go
variable {P:Program}{R:Res}
def nH (P:Program)(t:Nat):Bool:=match aA P t with
 |some ti=> !ti.agg&&Nat.beq ti.size 1
 |none=>false
theorem wn {t:Nat}(h:nH P t=true):∃ti,aA P t=some ti/\ti.agg=false/\ti.size=1:=by
 unfold nH at h
 split at h
 ·rename_i ti hti
  simp only[Bool.and_eq_true,Bool.not_eq_true'] at h
  exact⟨ti,hti,h.1,Nat.eq_of_beq_eq_true h.2⟩
 ·cases h
theorem qT (x:AV):Le (i5 x) x:=by
 cases x with
 |agg n get=>
  refine AS fun j hj=>?_
  exact AN (mD hj)
 |_=>exact AM _
theorem dY {o:Oper}{ev:Operand->AV}{hp:List AObj}{g:R.σ}{t:TypeId}{p:Operand}{b off n:Nat}{f:Bool}{get:Nat->AV}(ho:o.op=.load t p)(hp0:ev p=.ref b off)(h1:nH P t=true)(hg:ag hp b=.cells f n get)(hn:off+1<=n){x:AV}(hx:get off=x) :
  OpOk P R o ev hp g x hp g:=by
 obtain⟨ti,e1,e2,e3⟩:=wn h1
 have hs:fq (aA P) (.load t p)=false∨fq (aA P) (.load t p)=true:=by cases fq (aA P) (.load t p) <;> simp
 refine nG (out:=⟨bif fq (aA P) (.load t p) then i5 (d9 ti.agg ti.size off get) else d9 ti.agg ti.size off get,hp,[off+ti.size<=n],.load b⟩) ?_ ⟨by rw[e3];exact hn,trivial⟩ ?_
 ·rw[ho]
  simp only[dz,bt,e1,hp0,hg,e2,e3]
  rfl
 ·have hm:d9 ti.agg ti.size off get=x:=by rw[e2,e3];subst hx;simp[d9]
  rw[hm]
  cases fq (aA P) (.load t p) with
  |false=>exact AM _
  |true=>exact qT x
end Go.Avm
namespace Go.Avm
open Go
section
variable {P:Program}{R:Res}
def qU (P:Program)(t s:Nat):Bool:=match aA P t with
 |some ti=>ti.agg&&Nat.beq ti.size s
 |none=>false
theorem qV {o:Oper}{ev:Operand->AV}{hp:List AObj}{g:R.σ}{t:TypeId}{p:Operand}{b off n s:Nat}{f:Bool}{get:Nat->AV}{v:AV}(ho:o.op=.load t p)(hp0:ev p=.ref b off)(h1:qU P t s=true)(hg:ag hp b=.cells f n get)(hn:off+s<=n)(hv:Le (.agg s (fun j=>get (j+off))) v) :
  OpOk P R o ev hp g v hp g:=by
 obtain⟨ti,e1,e2,e3⟩:∃ti,aA P t=some ti/\ti.agg=true/\ti.size=s:=by
  unfold qU at h1
  split at h1
  ·rename_i ti hti
   simp only[Bool.and_eq_true] at h1
   exact⟨ti,hti,h1.1,Nat.eq_of_beq_eq_true h1.2⟩
  ·cases h1
 refine nG (out:=⟨bif fq (aA P) (.load t p) then i5 (d9 ti.agg ti.size off get) else d9 ti.agg ti.size off get,hp,[off+ti.size<=n],.load b⟩) ?_ ⟨by rw[e3];exact hn,trivial⟩ ?_
 ·rw[ho]
  simp only[dz,bt,e1,hp0,hg,e2,e3]
  rfl
 ·have hm:d9 ti.agg ti.size off get=.agg s (fun j=>get (j+off)):=by rw[e2,e3];rfl
  rw[hm]
  intro FM Z w hw
  refine hv FM Z w ?_
  cases hb:fq (aA P) (.load t p) with
  |false=>rw[hb] at hw;exact hw
  |true=>rw[hb] at hw;exact qT _ FM Z w hw
theorem Le.ow_sl {x:Bool}{o n es:Nat}(h:n≠0):Le (.ow x o n es) (.sl o 0 n n false es):=by
 intro FM Z v hv
 obtain⟨p,cap',h1,h2,h3,h4⟩:=hv.2 h
 exact⟨p,cap',h1,h2,h3,fun h=>(by cases h),omg⟩
end
end Go.Avm
namespace Go.Avm.Tb
open Go
theorem low_of {s:Nat}(h:0<s):∃k m,s=2^k*(2*m+1):=by
 induction s using Nat.strongRecOn with
 |_ s ih=>
  rcases Nat.mod_two_eq_zero_or_one s with h2|h2
  ·obtain⟨k,m,e⟩:=ih (s/2) omg omg
   refine⟨k+1,m,?_⟩
   have:s=2*(s/2):=by omega
   rw[this,e,Nat.pow_succ,Nat.mul_comm (2^k) 2,Nat.mul_assoc]
  ·exact⟨0,s/2,omg⟩
theorem wo (m j:Nat):(2*m+1).testBit j=if j=0 then true else m.testBit (j-1):=by
 have h:=Nat.testBit_two_pow_mul_add m (b:=1) (i:=1) dcd j
 rw[show 2^1*m+1=2*m+1 by omega] at h
 rw[h]
 by_cases hj:j=0
 ·subst hj;rfl
 ·rw[if_neg omg,if_neg hj]
theorem wp (m j:Nat):(2*m).testBit j=if j=0 then false else m.testBit (j-1):=by
 have h:=Nat.testBit_two_pow_mul_add m (b:=0) (i:=1) dcd j
 rw[show 2^1*m+0=2*m by omega] at h
 rw[h]
 by_cases hj:j=0
 ·subst hj;rfl
 ·rw[if_neg omg,if_neg hj]
theorem wq (k a j:Nat):(2^k*a).testBit j=if j<k then false else a.testBit (j-k):=by
 have h:=Nat.testBit_two_pow_mul_add a (b:=0) (i:=k) (Nat.pow_pos dcd) j
 rw[Nat.add_zero] at h
 rw[h]
 split <;> simp
theorem low_bit {s k m:Nat}(h:s=2^k*(2*m+1))(j:Nat):s.testBit j=if j<k then false else if j=k then true else m.testBit (j-k-1):=by
 subst h
 rw[wq,wo]
 split
 ·rfl
 ·rename_i hj
  by_cases e:j=k
  ·rw[if_pos omg,if_pos e]
  ·rw[if_neg omg,if_neg e]
theorem wt {s k m:Nat}(h:s=2^k*(2*m+1))(j:Nat):(s-1).testBit j=if j<k then true else if j=k then false else m.testBit (j-k-1):=by
 have hp:0<2^k:=Nat.pow_pos dcd
 have e:s-1=2^k*(2*m)+(2^k-1):=by
  rw[h,Nat.mul_add,Nat.mul_one]
  omega
 rw[e,Nat.testBit_two_pow_mul_add _ omg,Nat.testBit_two_pow_sub_one,wp]
 split
 ·rename_i hj;exact decide_eq_true hj
 ·by_cases e:j=k
  ·rw[if_pos omg,if_pos e]
  ·rw[if_neg omg,if_neg e]
theorem nI {s k m:Nat}(h:s=2^k*(2*m+1))(j:Nat):(s&&&(s-1)).testBit j=(s.testBit j&&j != k):=by
 rw[Nat.testBit_and,wt h,low_bit h]
 by_cases h1:j<k
 ·rw[if_pos h1,if_pos h1];rfl
 ·rw[if_neg h1,if_neg h1]
  by_cases h2:j=k
  ·rw[if_pos h2,if_pos h2];simp[h2]
  ·rw[if_neg h2,if_neg h2];simp[h2]
theorem wu {s k m:Nat}(h:s=2^k*(2*m+1))(hs:s<2^64):s&&&(2^64-s)=2^k:=by
 have hp:0<2^k:=Nat.pow_pos dcd
 have hk:k<64:=by
  rcases Nat.lt_or_ge k 64 with h'|h'
  ·exact h'
  ·have h1:2^64<=2^k:=Nat.pow_le_pow_right dcd h'
   have h2:2^k*1<=2^k*(2*m+1):=Nat.mul_le_mul_left _ omg
   omega
 have e64:2^64=2^k*(2*2^(63-k)):=by
  rw[show 2*2^(63-k)=2^(63-k+1) by rw[Nat.pow_succ];omega,<-Nat.pow_add]
  congr 1
  omega
 have hm:m<2^(63-k):=by
  rw[h,e64] at hs
  have:=Nat.lt_of_mul_lt_mul_left hs
  omega
 have hneg:2^64-s=2^k*(2*(2^(63-k)-(m+1))+1):=by
  rw[h,e64,<-Nat.mul_sub]
  congr 1
  omega
 refine Nat.eq_of_testBit_eq fun j=>?_
 rw[Nat.testBit_and,low_bit h,low_bit hneg,Nat.testBit_two_pow]
 by_cases h1:j<k
 ·rw[if_pos h1];simp;omega
 ·rw[if_neg h1,if_neg h1]
  by_cases h2:j=k
  ·rw[if_pos h2,if_pos h2];simp[h2]
  ·rw[if_neg h2,if_neg h2,Nat.testBit_two_pow_sub_succ hm]
   have:¬k=j:=fun e=>h2 e.symm
   rw[decide_eq_false this]
   cases m.testBit (j-k-1) <;> simp
def memN (N s:Nat):List Nat:=(List.range N).filter (fun k=>s.testBit k)
theorem mem_memN {N s k:Nat}:k∈memN N s↔k<N/\s.testBit k=true:=by
 unfold memN
 rw[List.mem_filter,List.mem_range]
theorem mem_low {N s k m:Nat}(h:s=2^k*(2*m+1))(hk:k<N):memN N s=k::memN N (s&&&(s-1)):=by
 obtain⟨b,rfl⟩:∃b,N=k+(1+b):=⟨N-k-1,omg⟩
 unfold memN
 rw[List.range_add,List.range_add,List.filter_append,List.filter_append,List.map_append,List.filter_append,List.filter_append]
 have h1:(List.range k).filter (fun j=>s.testBit j)=[]:=by
  rw[List.filter_eq_nil_iff]
  intro j hj
  rw[List.mem_range] at hj
  rw[low_bit h,if_pos hj]
  decide
 have h2:(List.range k).filter (fun j=>(s&&&(s-1)).testBit j)=[]:=by
  rw[List.filter_eq_nil_iff]
  intro j hj
  rw[List.mem_range] at hj
  rw[nI h,low_bit h,if_pos hj]
  simp
 have h3:((List.range 1).map (k+·)).filter (fun j=>s.testBit j)=[k]:=by
  show List.filter _ [k+0]=_
  rw[Nat.add_zero]
  have:s.testBit k=true:=by rw[low_bit h,if_neg omg,if_pos rfl]
  simp[this]
 have h4:((List.range 1).map (k+·)).filter (fun j=>(s&&&(s-1)).testBit j)=[]:=by
  rw[List.filter_eq_nil_iff]
  intro j hj
  have hj:j∈[k+0]:=hj
  rw[List.mem_singleton,Nat.add_zero] at hj
  rw[hj,nI h]
  simp
 rw[h1,h2,h3,h4]
 simp only[List.nil_append,List.singleton_append]
 congr 1
 refine List.filter_congr (fun j hj=>?_)
 obtain⟨i,hi,rfl⟩:=List.mem_map.1 hj
 obtain⟨i',hi',rfl⟩:=List.mem_map.1 hi
 rw[nI h]
 have:(k+(1+i') != k)=true:=by rw[bne_iff_ne];omega
 rw[this,Bool.and_true]
theorem nJ (N:Nat):memN N 0=[]:=by
 unfold memN
 rw[List.filter_eq_nil_iff]
 simp
theorem zero_of_mem {N s:Nat}(hs:s<2^N)(h:memN N s=[]):s=0:=by
 refine Nat.eq_of_testBit_eq fun j=>?_
 rw[Nat.zero_testBit]
 rcases Nat.lt_or_ge j N with hj|hj
 ·cases hb:s.testBit j with
  |false=>rfl
  |true=>
   have:j∈memN N s:=mem_memN.2 ⟨hj,hb⟩
   rw[h] at this
   cases this
 ·exact Nat.testBit_lt_two_pow (Nat.lt_of_lt_of_le hs (Nat.pow_le_pow_right dcd hj))
def cutN (s:Nat):Nat->Nat
 |0=>s
 |j+1=>cutN s j&&&(cutN s j-1)
theorem cutN_lt {N s:Nat}(hs:s<2^N):∀j,cutN s j<2^N
 |0=>hs
 |j+1=>Nat.lt_of_le_of_lt Nat.and_le_left (cutN_lt hs j)
theorem low_lt {N s k m:Nat}(h:s=2^k*(2*m+1))(hs:s<2^N):k<N:=by
 rcases Nat.lt_or_ge k N with h'|h'
 ·exact h'
 ·have h1:2^N<=2^k:=Nat.pow_le_pow_right dcd h'
  have h2:2^k*1<=2^k*(2*m+1):=Nat.mul_le_mul_left _ omg
  omega
theorem nK {N s:Nat}(hs:s<2^N):∀j,memN N (cutN s j)=(memN N s).drop j
 |0=>rfl
 |j+1=>by
  have ih:=nK hs j
  show memN N (cutN s j&&&(cutN s j-1))=_
  rcases Nat.eq_zero_or_pos (cutN s j) with h0|h0
  ·rw[h0,nJ] at ih
   rw[h0,show(0&&&(0-1):Nat)=0 from rfl,nJ]
   rw[show(memN N s).drop (j+1)=((memN N s).drop j).drop 1 by rw[List.drop_drop],<-ih]
   rfl
  ·obtain⟨k,m,e⟩:=low_of h0
   have hk:=low_lt e (cutN_lt hs j)
   rw[mem_low e hk] at ih
   rw[show(memN N s).drop (j+1)=((memN N s).drop j).drop 1 by rw[List.drop_drop],<-ih]
   rfl
theorem cutN_in {N s:Nat}(hs:s<2^N){j:Nat}(hj:j<(memN N s).length):∃m,cutN s j=2^((memN N s).getD j 0)*(2*m+1):=by
 have h:=nK hs j
 rcases Nat.eq_zero_or_pos (cutN s j) with h0|h0
 ·rw[h0,nJ] at h
  have:=congrArg List.length h
  rw[List.length_drop] at this
  simp at this
  omega
 ·obtain⟨k,m,e⟩:=low_of h0
  have hk:=low_lt e (cutN_lt hs j)
  rw[mem_low e hk,List.drop_eq_getElem_cons hj] at h
  have hk':k=(memN N s)[j]:=(List.cons.inj h).1
  refine⟨m,?_⟩
  rw[List.getD_eq_getElem?_getD,List.getElem?_eq_getElem hj,Option.getD_some,<-hk']
  exact e
theorem cutN_end {N s:Nat}(hs:s<2^N):cutN s (memN N s).length=0:=by
 refine zero_of_mem (cutN_lt hs _) ?_
 rw[nK hs,List.drop_length]
theorem wrapu (n:Int):IntKind.u64.wrap n=n%18446744073709551616:=by simp[IntKind.wrap,IntKind.bits,IntKind.signed]
theorem ll {s:Nat}(hs:s<2^64):(BitVec.ofInt 64 (s:Int)).toNat=s:=by
 rw[BitVec.ofInt_natCast,BitVec.toNat_ofNat]
 exact Nat.mod_eq_of_lt hs
theorem wrapU {s:Nat}(hs:s<2^64):IntKind.u64.wrap (s:Int)=s:=by
 rw[wrapu]
 have:(2:Nat)^64=18446744073709551616:=by decide
 omega
theorem u64_and {s t:Nat}(hs:s<2^64)(ht:t<2^64):IntKind.u64.wrap ((BitVec.ofInt 64 (s:Int)&&&BitVec.ofInt 64 (t:Int)).toNat:Int)=((s&&&t:Nat):Int):=by
 rw[BitVec.toNat_and,ll hs,ll ht]
 exact wrapU (Nat.lt_of_le_of_lt Nat.and_le_left hs)
theorem u64_or {s t:Nat}(hs:s<2^64)(ht:t<2^64):IntKind.u64.wrap ((BitVec.ofInt 64 (s:Int)|||BitVec.ofInt 64 (t:Int)).toNat:Int)=((s|||t:Nat):Int):=by
 rw[BitVec.toNat_or,ll hs,ll ht]
 exact wrapU (Nat.or_lt_two_pow hs ht)
theorem u64_sub {s t:Nat}(hs:s<2^64)(h:t<=s):IntKind.u64.wrap ((s:Int)-(t:Int))=((s-t:Nat):Int):=by
 rw[<-Int.ofNat_sub h]
 exact wrapU omg
theorem wv {s:Nat}(h0:0<s)(hs:s<2^64):IntKind.u64.wrap (0-(s:Int))=((2^64-s:Nat):Int):=by
 rw[wrapu]
 have:(2:Nat)^64=18446744073709551616:=by decide
 omega
theorem u64_cut {s:Nat}(h0:0<s)(hs:s<2^64):IntKind.u64.wrap ((BitVec.ofInt 64 (s:Int)&&&BitVec.ofInt 64 (IntKind.u64.wrap ((s:Int)-1))).toNat:Int)=((s&&&(s-1):Nat):Int):=by
 have e:IntKind.u64.wrap ((s:Int)-1)=((s-1:Nat):Int):=u64_sub (t:=1) hs h0
 rw[e]
 exact u64_and hs omg
theorem u64_low {s k m:Nat}(h:s=2^k*(2*m+1))(hs:s<2^64):IntKind.u64.wrap ((BitVec.ofInt 64 (s:Int)&&&BitVec.ofInt 64 (IntKind.u64.wrap (0-(s:Int)))).toNat:Int)=((2^k:Nat):Int):=by
 have hp:0<2^k:=Nat.pow_pos dcd
 have h0:0<s:=by
  rw[h]
  exact Nat.mul_pos hp omg
 rw[wv h0 hs,u64_and hs omg,wu h hs]
end Go.Avm.Tb
namespace Go.Avm
open Go Go.Maps
section
variable {P:Program}{R:Res}
theorem qW {o:Oper}{ev:Operand->AV}{hp:List AObj}{g:R.σ}{t kt vt:TypeId}{m x:Operand}{ob:Nat}{es:List (Value × AV)}{kv:Value}{d:AV}(ho:o.op=.lookup t m x false)(ht:P.underlying t=some (.map kt vt))(K:Keyed P kt)(hm:ev m=.mp ob)(hob:ag hp ob=.map es)
  (hx:∀FM Z v,Den FM Z (ev x) v->v=kv) (hk:∃l,keyOf P kt kv=some l) (hks:∀e∈es,∃l,keyOf P kt e.1=some l) (h1:∃e∈es,e.1=kv) (h2:∀e∈es,e.1=kv->e.2=d) :
  OpOk P R o ev hp g d hp g:=by
 refine⟨fun FM Z w evc ok hop=>?_⟩
 have hdm:=hop m (by simp[ho,Op.operands])
 have hdx:=hx _ _ _ (hop x (by simp[ho,Op.operands]))
 rw[hm] at hdm
 obtain⟨p,mes,clock,hp',hv,_,_,hh,hl,hes⟩:=qI ok hob hdm
 obtain⟨kl,hk⟩:=hk
 have hks':∀e∈mes.toList,∃l,keyOf P kt e.key=some l:=fun e he=>by
  obtain⟨i,hi⟩:=List.getElem?_of_mem he
  obtain⟨v,hv,_⟩:=la hl hes hi
  exact hks _ (List.mem_of_getElem? hv)
 have hck:=K.check w mes.isEmpty hk
 rcases K.find w hk mes.toList hks' with⟨_,hno⟩|⟨j,e,hf,hj,hek⟩
 ·exfalso
  obtain⟨e0,he0,hk0⟩:=h1
  obtain⟨i,hi⟩:=List.getElem?_of_mem he0
  obtain⟨e,q1,q2,_⟩:=hes i e0.1 e0.2 (by rw[hi])
  exact hno e (by rw[<-Array.getElem?_toList] at q1;exact List.mem_of_getElem? q1) (by rw[q2,hk0])
 ·obtain⟨v,hv',hd⟩:=la hl hes hj
  have hvd:v=d:=h2 _ (List.mem_of_getElem? hv') hek
  subst hvd
  refine⟨.value e.val,w,FM,Z,_,?_,rfl,hd.lift,ok,AW _ _ _ _ _⟩
  simp[execOp,ho,Instr.lookup,run_underlying ht,hv,hdx,getObj,Sem.run_bind,hh,hck,hf,Result.andThen,Sem.run]
theorem qX {o:Oper}{ev:Operand->AV}{hp:List AObj}{g:R.σ}{t kt vt:TypeId}{m x:Operand}{ob:Nat}{es:List (Value × AV)}{kv:Value}{ti:TyI}{z:AV}(ho:o.op=.lookup t m x false)(ht:P.underlying t=some (.map kt vt))(K:Keyed P kt)(hvt:aA P vt=some ti)(hz0:Le (mkv ti.agg ti.size ti.zero) z)(hm:ev m=.mp ob)(hob:ag hp ob=.map es)
  (hx:∀FM Z v,Den FM Z (ev x) v->v=kv) (hk:∃l,keyOf P kt kv=some l) (hks:∀e∈es,∃l,keyOf P kt e.1=some l) (h1:∀e∈es,e.1≠kv) :
  OpOk P R o ev hp g z hp g:=by
 refine⟨fun FM Z w evc ok hop=>?_⟩
 have hdm:=hop m (by simp[ho,Op.operands])
 have hdx:=hx _ _ _ (hop x (by simp[ho,Op.operands]))
 rw[hm] at hdm
 obtain⟨p,mes,clock,hp',hv,_,_,hh,hl,hes⟩:=qI ok hob hdm
 obtain⟨kl,hk⟩:=hk
 have hks':∀e∈mes.toList,∃l,keyOf P kt e.key=some l:=fun e he=>by
  obtain⟨i,hi⟩:=List.getElem?_of_mem he
  obtain⟨v,hv,_⟩:=la hl hes hi
  exact hks _ (List.mem_of_getElem? hv)
 have hck:=K.check w mes.isEmpty hk
 obtain⟨z0,hz,_,_⟩:=eA (FM:=FM) (Z:=Z) (bh hvt)
 rcases K.find w hk mes.toList hks' with⟨hf,_⟩|⟨j,e,hf,hj,hek⟩
 ·refine⟨.value z0,w,FM,Z,_,?_,rfl,hz0 _ _ _ (mB (bh hvt) hz),ok,AW _ _ _ _ _⟩
  simp[execOp,ho,Instr.lookup,run_underlying ht,hv,hdx,getObj,Sem.run_bind,hh,hck,hf,hz,Result.andThen,Sem.run]
 ·exfalso
  obtain⟨v,hv',hd⟩:=la hl hes hj
  exact h1 _ (List.mem_of_getElem? hv') hek
end
end Go.Avm
namespace Go.Avm
open Go Go.Maps
section
variable {P:Program}{R:Res}
theorem qY {o:Oper}{ev:Operand->AV}{hp:List AObj}{g:R.σ}{t:TypeId}(ho:o.op=.makeMap t none):OpOk P R o ev hp g (.mp hp.length) (aU hp (.mapo [])) g:=by
 refine⟨fun FM Z w evc ok _=>?_⟩
 have hnew:FM w.heap.size=none:=by
  cases hf:FM w.heap.size with
  |none=>rfl
  |some o=>have:=(Array.getElem?_eq_some_iff.1 (ok.rel.fm _ _ hf)).1;omega
 obtain⟨a1,a2,a3⟩:=vQ ok.rel (.map #[] 0) (.mapo []) 0 (fun FM' h=>by
  refine⟨Nat.le_refl _,?_,#[],0,World.alloc_heap_new w _,rfl,fun i k v hi=>by simp at hi⟩
  cases hf:FM' w.heap.size with
  |none=>rfl
  |some y=>have:=h _ _ hf;rw[hnew] at this;cases this)
 obtain⟨b1,b2⟩:=fw ok a1 a2 (Sub.snoc _ _)
 exact⟨.value (.map (some w.heap.size)),w.alloc (.map #[] 0),FM,_,_,by simp[execOp,ho,Instr.makeMap],rfl,⟨_,a3,rfl⟩,b1,b2⟩
theorem qZ {hp:List AObj}{g:R.σ}{FM:Mem}{Z:Plc}{w:World}(ok:Ok R hp g FM Z w){ob:Nat}{es:List (Value × AV)}(hob:ag hp ob=.mapo es){v:Value}(hv:Den FM Z (.mp ob) v) :
  ∃p mes clock,Z[ob]? = some p/\v=.map (some p.1)/\p.2.1<=p.2.2/\FM p.1=none/\w.heap[p.1]? = some (.map mes clock)/\mes.size=es.length/\∀(i:Nat) (k:Value) (v:AV),es[i]? = some (k,v)->∃e,mes[i]? = some e/\e.key=k/\Den FM Z v e.val:=by
 obtain⟨p,hp,rfl⟩:=hv
 obtain⟨_,h2⟩:=ok.rel.obj ob p hp
 rw[hob] at h2
 obtain⟨a1,a2,mes,clock,a3,a4,a5⟩:=h2
 exact⟨p,mes,clock,hp,rfl,a1,a2,a3,a4,a5⟩
theorem lm {es:List (Value × AV)}{mes:Array MapEntry}{FM:Mem}{Z:Plc}(hl:mes.size=es.length)(h:∀(i:Nat) (k:Value) (v:AV),es[i]? = some (k,v)->∃e,mes[i]? = some e/\e.key=k/\Den FM Z v e.val){i:Nat}{e:MapEntry}(hi:mes.toList[i]? = some e):∃v,es[i]? = some (e.key,v)/\Den FM Z v e.val:=by
 have hlt:i<es.length:=by
  have:=(List.getElem?_eq_some_iff.1 hi).1
  simpa[hl] using this
 obtain⟨e',h1,h2,h3⟩:=h i es[i].1 es[i].2 (by rw[List.getElem?_eq_getElem hlt])
 rw[Array.getElem?_toList] at hi
 rw[hi] at h1
 cases h1
 exact⟨es[i].2,by rw[List.getElem?_eq_getElem hlt,h2],h3⟩
theorem q0 {o:Oper}{ev:Operand->AV}{hp:List AObj}{g:R.σ}{t kt vt:TypeId}{m x:Operand}{ob:Nat}{es:List (Value × AV)}{kv:Value}{ti:TyI}{d:AV}(ho:o.op=.lookup t m x false)(ht:P.underlying t=some (.map kt vt))(K:Keyed P kt)(hvt:aA P vt=some ti)(hm:ev m=.mp ob)(hob:ag hp ob=.mapo es)
  (hx:∀FM Z v,Den FM Z (ev x) v->v=kv) (hk:∃l,keyOf P kt kv=some l) (hks:∀e∈es,∃l,keyOf P kt e.1=some l) (h1:(∀e∈es,e.1≠kv)->Le (mkv ti.agg ti.size ti.zero) d) (h2:∀e∈es,e.1=kv->e.2=d) :
  OpOk P R o ev hp g d hp g:=by
 refine⟨fun FM Z w evc ok hop=>?_⟩
 have hdm:=hop m (by simp[ho,Op.operands])
 have hdx:=hx _ _ _ (hop x (by simp[ho,Op.operands]))
 rw[hm] at hdm
 obtain⟨p,mes,clock,hp',hv,_,_,hh,hl,hes⟩:=qZ ok hob hdm
 obtain⟨kl,hk⟩:=hk
 have hks':∀e∈mes.toList,∃l,keyOf P kt e.key=some l:=fun e he=>by
  obtain⟨i,hi⟩:=List.getElem?_of_mem he
  obtain⟨v,hv,_⟩:=lm hl hes hi
  exact hks _ (List.mem_of_getElem? hv)
 have hck:=K.check w mes.isEmpty hk
 obtain⟨z0,hz,_,_⟩:=eA (FM:=FM) (Z:=Z) (bh hvt)
 rcases K.find w hk mes.toList hks' with⟨hf,hno⟩|⟨j,e,hf,hj,hek⟩
 ·have hno':∀e∈es,e.1≠kv:=fun e0 he0 hk0=>by
   obtain⟨i,hi⟩:=List.getElem?_of_mem he0
   obtain⟨e,q1,q2,_⟩:=hes i e0.1 e0.2 (by rw[hi])
   exact hno e (by rw[<-Array.getElem?_toList] at q1;exact List.mem_of_getElem? q1) (by rw[q2,hk0])
  refine⟨.value z0,w,FM,Z,_,?_,rfl,h1 hno' _ _ _ (mB (bh hvt) hz),ok,AW _ _ _ _ _⟩
  simp[execOp,ho,Instr.lookup,run_underlying ht,hv,hdx,getObj,Sem.run_bind,hh,hck,hf,hz,Result.andThen,Sem.run]
 ·obtain⟨v,hv',hd⟩:=lm hl hes hj
  have hvd:v=d:=h2 _ (List.mem_of_getElem? hv') hek
  subst hvd
  refine⟨.value e.val,w,FM,Z,_,?_,rfl,hd,ok,AW _ _ _ _ _⟩
  simp[execOp,ho,Instr.lookup,run_underlying ht,hv,hdx,getObj,Sem.run_bind,hh,hck,hf,Result.andThen,Sem.run]
theorem q6 {FM:Mem}{Z:Plc}{hp:List AObj}{w:World}(hr:HRel FM Z hp w){ob:Nat}{es es':List (Value × AV)}(hob:ag hp ob=.mapo es){p:Nat × Nat × Nat}(hp':Z[ob]? = some p){mes':Array MapEntry}{clock':Nat}(hl:mes'.size=es'.length)
  (hes:∀(i:Nat) (k:Value) (v:AV),es'[i]? = some (k,v)->∃e,mes'[i]? = some e/\e.key=k/\Den FM Z v e.val) :
  HRel FM Z (aK hp ob (.mapo es')) (w.putObj p.1 (.map mes' clock'))/\Ext noB FM Z w FM Z (w.putObj p.1 (.map mes' clock')):=by
 obtain⟨h1,h2⟩:=hr.obj ob p hp'
 rw[hob] at h2
 obtain⟨a1,a2,mes,clock,a3,a4,a5⟩:=h2
 have hol:ob<hp.length:=by rw[<-hr.len];exact(List.getElem?_eq_some_iff.1 hp').1
 have hlt:=h1 a1
 have oth:∀b,b≠p.1->(w.putObj p.1 (.map mes' clock')).heap[b]? = w.heap[b]?:= fun b hb=>World.putObj_heap_other hb
 refine⟨⟨fun b o' h=>?_,by rw[cR];exact hr.len,fun i q hi=>?_,fun i j q r hi hj hli hlj hqr=>?_⟩,fun _ _ h=>h,fun _ _ h=>.inl h,fun b h=>.inl h,fun b hb hn _=>oth b (fun he=>hn ⟨p,bq hp',he.symm,a1⟩),by simp,rfl,rfl,rfl⟩
 ·rw[oth b (fun he=>by rw[he,a2] at h;cases h)];exact hr.fm b o' h
 ·obtain⟨b1,b2⟩:=hr.obj i q hi
  refine⟨by simpa using b1,?_⟩
  by_cases hio:i=ob
  ·subst hio
   rw[hp'] at hi;cases hi
   rw[ec hol]
   exact⟨a1,a2,mes',clock',World.putObj_heap_same hlt,hl,hes⟩
  ·rw[cx (fun h=>hio h.symm)]
   exact b2.mono (AZ _) (fun hlv=>oth _ (fun he=>hio (hr.inj i ob q p hi hp' hlv (by rw[hob];rfl) he)))
 ·have key:∀i,aL (ag (aK hp ob (.mapo es')) i)=true->aL (ag hp i)=true:=fun i h=>by
   by_cases hio:i=ob
   ·subst hio;rw[hob];rfl
   ·rw[cx (fun h=>hio h.symm)] at h;exact h
  exact hr.inj i j q r hi hj (key i hli) (key j hlj) hqr
structure MapPut (es es':List (Value × AV))(kv:Value)(d:AV):Prop where
 new:(∀e∈es,e.1≠kv)->es'=es++[(kv,d)]
 set:(∃e∈es,e.1=kv)->es'.length=es.length/\∀(i:Nat) (k:Value) (v:AV),es'[i]? = some (k,v)->(k=kv/\v=d/\∃v0,es[i]? = some (k,v0))∨(k≠kv/\es[i]? = some (k,v))
 inj:∀(i j:Nat) (k:Value) (v v':AV),es[i]? = some (k,v)->es[j]? = some (k,v')->i=j
theorem ln {o:Oper}{ev:Operand->AV}{hp:List AObj}{g:R.σ}{t kt vt:TypeId}{m x y:Operand}{ob:Nat}{es es':List (Value × AV)}{kv:Value}{d:AV}(ho:o.op=.mapUpdate t m x y)(ht:P.underlying t=some (.map kt vt))(K:Keyed P kt)(hm:ev m=.mp ob)(hob:ag hp ob=.mapo es)
  (hx:∀FM Z v,Den FM Z (ev x) v->v=kv) (hy:ev y=d) (hk:∃l,keyOf P kt kv=some l) (hks:∀e∈es,∃l,keyOf P kt e.1=some l) (hput:MapPut es es' kv d) :
  OpOk P R o ev hp g .any (aK hp ob (.mapo es')) g:=by
 refine⟨fun FM Z w evc ok hop=>?_⟩
 have hdm:=hop m (by simp[ho,Op.operands])
 have hdx:=hx _ _ _ (hop x (by simp[ho,Op.operands]))
 have hdy:=hop y (by simp[ho,Op.operands])
 rw[hm] at hdm
 rw[hy] at hdy
 obtain⟨p,mes,clock,hp',hv,_,_,hh,hl,hes⟩:=qZ ok hob hdm
 obtain⟨kl,hk⟩:=hk
 have hks':∀e∈mes.toList,∃l,keyOf P kt e.key=some l:=fun e he=>by
  obtain⟨i,hi⟩:=List.getElem?_of_mem he
  obtain⟨v,hv,_⟩:=lm hl hes hi
  exact hks _ (List.mem_of_getElem? hv)
 have hck:=K.check w false hk
 rcases K.find w hk mes.toList hks' with⟨hf,hno⟩|⟨j,e,hf,hj,hek⟩
 ·have hno':∀e∈es,e.1≠kv:=fun e0 he0 hk0=>by
   obtain⟨i,hi⟩:=List.getElem?_of_mem he0
   obtain⟨e,q1,q2,_⟩:=hes i e0.1 e0.2 (by rw[hi])
   exact hno e (by rw[<-Array.getElem?_toList] at q1;exact List.mem_of_getElem? q1) (by rw[q2,hk0])
  obtain rfl:=hput.new hno'
  obtain⟨c1,c2⟩:=q6 ok.rel hob hp' (es':=es++[(kv,d)]) (mes':=mes.push { key:=kv,val:=evc y,born:=clock }) (clock':=clock+1) (by simp[hl]) (fun i k v hi=>by
   rcases Nat.lt_or_ge i es.length with h|h
   ·rw[List.getElem?_append_left h] at hi
    obtain⟨e,q1,q2,q3⟩:=hes i k v hi
    exact⟨e,by rw[Array.getElem?_push,if_neg omg];exact q1,q2,q3⟩
   ·have hi':=(List.getElem?_eq_some_iff.1 hi).1
    have:i=es.length:=by simp at hi';omega
    subst this
    simp at hi
    obtain⟨rfl,rfl⟩:=hi
    exact⟨{ key:=kv,val:=evc y,born:=clock },by rw[<-hl];simp,rfl,hdy⟩)
  obtain⟨b1,b2⟩:=fw ok c1 c2 (AZ _)
  refine⟨.skip,_,FM,Z,undef,?_,rfl,trivial,b1,b2⟩
  simp[execOp,ho,Instr.mapUpdate,run_underlying ht,hv,hdx,getObj,setObj,Sem.run_bind,hh,hck,hf,Result.andThen,Sem.run,World.putObj]
 ·obtain⟨v0,hv0,_⟩:=lm hl hes hj
  obtain⟨hlen,hall⟩:=hput.set ⟨_,List.mem_of_getElem? hv0,hek⟩
  have hjs:mes[j]? = some e:=by rw[Array.getElem?_toList] at hj;exact hj
  have hst:=K.stays w hk
  obtain⟨c1,c2⟩:=q6 ok.rel hob hp' (es':=es') (mes':=mes.modify j fun e=>{ e with key:=kv,val:=evc y }) (clock':=clock) (by simp[hl,hlen]) (fun i k v hi=>by
   rw[Array.getElem?_modify]
   rcases hall i k v hi with⟨rfl,rfl,v1,h1⟩|⟨hne,h1⟩
   ·have:i=j:=hput.inj i j k v1 v0 h1 (by rw[<-hek];exact hv0)
    subst this
    rw[if_pos rfl,hjs]
    exact⟨_,rfl,rfl,hdy⟩
   ·have:¬j=i:=fun he=>by
     subst he
     rw[hv0] at h1
     cases h1
     exact hne hek
    rw[if_neg this]
    exact hes i k v h1)
  obtain⟨b1,b2⟩:=fw ok c1 c2 (AZ _)
  have hke:((mes[j]?).map (·.key)).getD kv=kv:=by rw[hjs];exact hek
  refine⟨.skip,_,FM,Z,undef,?_,rfl,trivial,b1,b2⟩
  simp[execOp,ho,Instr.mapUpdate,run_underlying ht,hv,hdx,getObj,setObj,Sem.run_bind,hh,hck,hf,hke,hst,Result.andThen,Sem.run,World.putObj]
theorem ww {k0:Nat}{s:St R.σ}(k m:Nat)(es es':List (Value × AV))(ts:List Nat)(hk:k0<=k)(hm:ag s.hp m=.mapo es)(hmk:m<k)(hml:k<=s.hp.length)
  (hcells:∀i,k<=i->aL (ag s.hp i)=true->∃n c,ag s.hp i=.cells false n c/\∀j,j<n->Below 0 (c j))
  (hlen:es'.length=es.length)
  (hes:∀(i:Nat) (kv:Value) (v':AV),es'[i]? = some (kv,v')->∃x o n e N c,es[i]? = some (kv,.ow x o n e)/\k<=o/\0<n/\0<e/\ag s.hp o=.cells false N c/\n*e<=N/\Le (.fz .opn e n (fun i j=>c (i*e+j))) v')
  (hot:∀i,i<k->i≠m->jM k (ag s.hp i)) (hfr:aq (obK k s.fr ts)):To R k0 s ⟨jp s.fr ts,aK (bl k s.hp) m (.map es'),s.g⟩:=by
 classical
 intro Z0 FM Z w vals h0 hs ok fr
 let C:Nat->Prop:=fun b=>∃i p,k<=i/\Z[i]? = some p/\p.1=b/\aL (ag s.hp i)=true
 let FM':Mem:=fun b=>if C b then w.heap[b]? else FM b
 have hC:∀b,C b->FM' b=w.heap[b]?:= fun b h=>if_pos h
 have hN:∀b,¬C b->FM' b=FM b:=fun b h=>if_neg h
 have hin:∀b,C b->InB Z b:=fun b ⟨i,p,_,h2,h3,h4⟩=>⟨p,bq h2,h3,(ok.rel.real h2 h4).1⟩
 have hmono:∀b o,FM b=some o->FM' b=some o:=fun b o h=>by
  by_cases hc:C b
  ·rw[hC b hc];exact ok.rel.fm b o h
  ·rw[hN b hc];exact h
 have hsound:∀b o,FM' b=some o->w.heap[b]? = some o:=fun b o h=>by
  by_cases hc:C b
  ·rw[hC b hc] at h;exact h
  ·rw[hN b hc] at h;exact ok.rel.fm b o h
 have hgrow:∀b o,FM' b=some o->FM b=some o∨InB Z b:=fun b o h=>by
  by_cases hc:C b
  ·exact .inr (hin b hc)
  ·rw[hN b hc] at h;exact .inl h
 have hkept:∀(i:Nat) (p:Nat × Nat × Nat),i<k->Z[i]? = some p->aL (ag s.hp i)=true->FM' p.1=FM p.1:=fun i p hi hp hl=>hN _ (fun ⟨j,q,h1,h2,h3,h4⟩=>by
  have:=ok.rel.inj i j p q hp h2 hl h4 h3.symm
  omega)
 have hkeep:Keep (R.B s.g) FM w FM' w:=⟨hmono,fun b hb=>hN b (fun hc=>(ok.bd b hb).2 (hin b hc)),hsound,fun _ _=>rfl,Nat.le_refl _,rfl,rfl,rfl⟩
 have hget:∀(i:Nat) (p:Nat × Nat × Nat),(Z.take k)[i]? = some p->i<k/\Z[i]? = some p:=fun i p h=>by
  rw[List.getElem?_take] at h
  split at h
  ·rename_i hi;exact⟨hi,h⟩
  ·cases h
 have htl:(bl k s.hp).length=k:=by rw[mZ];omega
 have hgo:∀i,i<k->i≠m->ag (aK (bl k s.hp) m (.map es')) i=ag s.hp i:=fun i hi hne=>by
  rw[cx (fun e=>hne e.symm),gC,if_pos hi]
 have hgm:ag (aK (bl k s.hp) m (.map es')) m=.map es':=ec omg
 have hinT:∀b,InB (Z.take k) b->InB Z b:=fun b ⟨p,hp,hb⟩=>⟨p,List.mem_of_mem_take hp,hb⟩
 refine⟨FM',Z.take k,⟨⟨hsound,by show _=(aK (bl k s.hp) m _).length;rw[cR,htl,List.length_take,ok.rel.len];omega,fun i p hi=>?_,fun i j p q hi hj hli hlj hpq=>?_⟩,R.st ok.j hkeep,fun b hb=>⟨(ok.bd b hb).1,fun h=>(ok.bd b hb).2 (hinT b h)⟩⟩,?_,fun i p hi=>?_,hmono,hgrow,hinT,rfl⟩
 ·obtain⟨hik,hi'⟩:=hget i p hi
  obtain⟨k1,k2⟩:=ok.rel.obj i p hi'
  refine⟨k1,?_⟩
  show cw FM' (Z.take k) p w (ag (aK (bl k s.hp) m (.map es')) i)
  by_cases him:i=m
  ·subst him
   rw[hgm]
   have hfm:=hkept i p hik hi' (by rw[hm];rfl)
   rw[hm] at k2
   obtain⟨a1,a2,mes,clock,a3,a4,a5⟩:=k2
   refine⟨a1,hfm.trans a2,mes,clock,a3,by rw[hlen];exact a4,fun j kv v' hj=>?_⟩
   obtain⟨x,o,n,e,N,c,b1,b2,b3,b4,b5,b6,b7⟩:=hes j kv v' hj
   obtain⟨en,c1,c2,c3⟩:=a5 j kv _ b1
   refine⟨en,c1,c2,b7 _ _ _ ⟨fun h=>(by cases h),fun _=>?_⟩⟩
   obtain⟨q,cap',d1,d2,d3,d4⟩:=c3.2 omg
   obtain⟨_,g2⟩:=ok.rel.obj o q d1
   rw[b5] at g2
   have hpos:0<n*e:=Nat.mul_pos b3 b4
   obtain⟨cs,ty,f1,f2,f3,f4,_⟩:=g2 omg
   have hCo:C q.1:=⟨o,q,b2,d1,rfl,by rw[b5];exact dL omg⟩
   obtain⟨n2,c2',e1,e2⟩:=hcells o b2 (by rw[b5];exact dL omg)
   rw[b5] at e1
   cases e1
   refine⟨q.1,q.2.1,cap',d2,d3,fun h=>(by rcases h with h|h <;> cases h),fun i' j' hi' hj'=>?_⟩
   have hlt:i'*e+j'<N:=by
    have:(i'+1)*e<=n*e:=Nat.mul_le_mul_right _ hi'
    rw[Nat.add_mul] at this
    omega
   obtain⟨y,y1,y2,y3⟩:=f4 (i'*e+j') hlt
   refine⟨y,?_,y2,?_⟩
   ·unfold cD
    rw[hC _ hCo,f1]
    show cs[q.2.1+i'*e+j']? = some y
    rw[<-y1]
    congr 1
    omega
   ·have:=cE (k:=0) _ (A1 hmono _ (AZ Z) y3) (e2 _ hlt)
    simpa using this
  ·rw[hgo i hik him]
   have hb:=hot i hik him
   cases hx:ag s.hp i with
   |dead=>trivial
   |map a=>
    rw[hx] at k2
    exact dK k2 hmono rfl ((hkept i p hik hi' (by rw[hx];rfl)).trans k2.2.1)
   |mapo a=>
    rw[hx] at k2 hb
    have hf:=hkept i p hik hi' (by rw[hx];rfl)
    obtain⟨a1,a2,mes,clock,a3,a4,a5⟩:=k2
    exact⟨a1,hf.trans a2,mes,clock,a3,a4,fun j kv v hj=>let ⟨e,b1,b2,b3⟩:=a5 j kv v hj;⟨e,b1,b2,cE _ (A1 hmono _ (AZ Z) b3) (hb _ (List.mem_of_getElem? hj))⟩⟩
   |cells f n c=>
    rw[hx] at k2 hb
    intro hn
    have hf:=hkept i p hik hi' (by rw[hx];exact dL hn)
    obtain⟨cs,e,a1,a2,a3,a4,a5,a6⟩:=k2 hn
    exact⟨cs,e,a1,a2,a3,fun j hj=>let ⟨y,b1,b2,b3⟩:=a4 j hj;⟨y,b1,b2,cE _ (A1 hmono _ (AZ Z) b3) (hb j hj)⟩,fun h=>hf.trans (a5 h),fun h=>hf.trans (a6 h)⟩
 ·obtain⟨hik,hi'⟩:=hget i p hi
  obtain⟨hjk,hj'⟩:=hget j q hj
  have live:∀i,i<k->aL (ag (aK (bl k s.hp) m (.map es')) i)=true->aL (ag s.hp i)=true:=fun i hi h=>by
   by_cases him:i=m
   ·subst him;rw[hm];rfl
   ·rw[hgo i hi him] at h;exact h
  exact ok.rel.inj i j p q hi' hj' (live i hik hli) (live j hjk hlj) hpq
 ·exact qi (fr.mono hmono (AZ _)) hfr
 ·have:=(List.getElem?_eq_some_iff.1 hi).1
  rw[List.getElem?_take,if_pos omg]
  exact hs i p hi
end
end Go.Avm
namespace Go.Avm
open Go
section
variable {P:Program}{R:Res}
def q7 (P:Program)(t es b:Nat):Bool:=match eN (aA P) t with
 |some p=>Nat.beq p.1 es&&(Nat.beq p.2.size es&&Nat.beq p.2.bytes b)
 |none=>false
theorem wx {o:Oper}{ev:Operand->AV}{hp hp':List AObj}{g:R.σ}{t es b ob n m N0:Nat}{k:Call}{s x:Operand}{y:Bool}{get0 get':Nat->AV}{new:Nat->Nat->AV}{ob1:List Prop}
  (ho:o.op=.call k) (hk:k.callee=.builtin .append) (ha:k.args=#[s,x]) (ht:k.argTypes=#[t,t]) (hs:ev s=.ow y ob n es) (hob:ag hp ob=.cells false N0 get0) (he:q7 P t es b=true)
  (hx:dy hp es (ev x)=some (m,new,ob1)) (h1:aq ob1) (hN:n*es<=N0) (hes:0<es) (hroom:(n+m)*b<=aN) (hroom2:n+m<=aN)
  (hg:∀c,c<(n+m)*es->get' c=bb es n (fun i j=>get0 (i*es+j)) new c) (hh:hp'=aU (aK hp ob .dead) (.cells false ((n+m)*es) get')) :
  OpOk P R o ev hp g (.ow y hp.length (n+m) es) hp' g:=by
 subst hh
 unfold q7 at he
 split at he
 ·rename_i p hp0
  simp only[Bool.and_eq_true] at he
  obtain⟨e1,e2,e3⟩:=he
  have e1:=Nat.eq_of_beq_eq_true e1
  have e2:=Nat.eq_of_beq_eq_true e2
  have e3:=Nat.eq_of_beq_eq_true e3
  obtain⟨es',ei⟩:=p
  simp only at e1 e2 e3 hp0
  subst e1 e3
  have hs2:dy hp ei.size (ev s)=some (n,fun i j=>get0 (i*es'+j),[n*es'<=N0]):=by
   rw[e2,hs]
   show(bif Nat.beq es' es' then _ else _)=_
   rw[show Nat.beq es' es'=true by simp,hob]
   rfl
  refine qJ (orc:=.obj get') (out:=⟨.ow y hp.length (n+m) es',aU (aK hp ob .dead) (.cells false ((n+m)*es') get'),gu ei (n+m) (ob1++[n*es'<=N0]++[∀c,c<(n+m)*es'->get' c=bb es' n (fun i j=>get0 (i*es'+j)) new c]),.eff [ob,hp.length]⟩) ?_ ?_
  ·rw[ho]
   unfold dA
   have hr:cY (aA P) hp ev (.obj get') (.call k)=some ⟨.ow y hp.length (n+m) es',aU (aK hp ob .dead) (.cells false ((n+m)*es') get'),gu ei (n+m) (ob1++[n*es'<=N0]++[∀c,c<(n+m)*es'->get' c=bb es' n (fun i j=>get0 (i*es'+j)) new c]),.eff [ob,hp.length]⟩:=by
    unfold cY
    simp only[hk,ha,ht]
    unfold iZ
    simp only[show Nat.beq t t=true by simp,Bool.not_true,cond_false,hp0,hs2]
    rw[show dy hp ei.size (ev x)=some (m,new,ob1) by rw[e2];exact hx]
    simp only[hs,hob,g7,e2]
   rw[hr]
   rfl
  ·unfold gu
   refine aq.append.2 ⟨⟨by rw[e2];exact hes,hroom,hroom2,trivial⟩,aq.append.2 ⟨aq.append.2 ⟨h1,hN,trivial⟩,hg,trivial⟩⟩
 ·cases he
end
end Go.Avm
namespace Go.Avm
open Go
section
variable {P:Program}{R:Res}
theorem q8:∀{hp hp':List AObj},hp.length=hp'.length->(∀i,LeO (ag hp i) (ag hp' i))->leH hp hp'
 |[],[],_,_=>trivial
 |_::_,_::_,h,k=>⟨k 0,q8 (by simpa using h) (fun i=>k (i+1))⟩
 |[],_::_,h,_=>by simp at h
 |_::_,[],h,_=>by simp at h
def jN (f:Nat->Nat)(hp:List AObj):List Nat->List AObj->Prop
 |[],[]=>True
 |i::r,y::q=>LeO (bW f y) (ag hp i)/\jN f hp r q
 |_,_=>False
theorem nM {f:Nat->Nat}{hp':List AObj}:∀{ids:List Nat} {q hp:List AObj},hp.length=hp'.length->(∀i,i∈ids->i<hp.length)->(∀i,i∉ids->LeO (ag hp i) (ag hp' i))->jN f hp' ids q->leH (cy f ids q hp) hp'
 |[],[],hp,h1,_,h3,_=>by
  rw[cy,List.map_nil,List.append_nil]
  exact q8 h1 (fun i=>h3 i (by simp))
 |i::r,y::q,hp,h1,h2,h3,h4=>by
  rw[cy]
  refine nM (by rw[cR];exact h1) (fun x hx=>by rw[cR];exact h2 x (List.mem_cons_of_mem _ hx)) (fun x hx=>?_) h4.2
  by_cases hxi:i=x
  ·subst hxi
   rw[ec (h2 i List.mem_cons_self)]
   exact h4.1
  ·rw[cx hxi]
   exact h3 x (fun h=>(List.mem_cons.1 h).elim (fun e=>hxi e.symm) hx)
 |[],_::_,_,_,_,_,h=>h.elim
 |_::_,[],_,_,_,_,h=>h.elim
theorem nN:∀(ids:List Nat) (hp:List AObj) (i:Nat),i∉ids->ag (bY ids hp) i=ag hp i
 |[],_,_,_=>rfl
 |a::r,hp,i,h=>by
  rw[bY,nN r _ i (fun hx=>h (List.mem_cons_of_mem _ hx)),cx (fun e=>h (by rw[e];exact List.mem_cons_self))]
def nO (hp:List AObj):List Nat->Prop
 |[]=>True
 |i::r=>aL (ag hp i)=true/\nO hp r
theorem q9 {hp hp':List AObj}{ids0:List Nat}(hs:SameO ids0 hp hp'):∀{ids:List Nat},(∀i,i∈ids->i∈ids0)->nO hp ids->bF ids hp'.length=true
 |[],_,_=>rfl
 |i::r,hi,h=>by
  unfold bF
  rw[Bool.and_eq_true]
  refine⟨?_,q9 hs (fun x hx=>hi x (List.mem_cons_of_mem _ hx)) h.2⟩
  rw[Nat.blt_eq]
  rcases Nat.lt_or_ge i hp'.length with hl|hl
  ·exact hl
  ·have h1:=h.1
   rw[<-hs.h i (hi i List.mem_cons_self),dB hl] at h1
   cases h1
theorem ra {f:Nat->Nat}{hp hp':List AObj}{ids0:List Nat}(hs:SameO ids0 hp hp'):∀{ids:List Nat} {q:List AObj},(∀i,i∈ids->i∈ids0)->dd f hp ids q->dd f hp' ids q
 |[],[],_,h=>h
 |i::r,y::q,hi,h=>by
  refine⟨?_,ra hs (fun x hx=>hi x (List.mem_cons_of_mem _ hx)) h.2⟩
  rw[hs.h i (hi i List.mem_cons_self)]
  exact h.1
 |[],_::_,_,h=>h.elim
 |_::_,[],_,h=>h.elim
theorem rb {f:Nat->Nat}{hp hp':List AObj}{ids0:List Nat}(hs:SameO ids0 hp hp'):∀{ids:List Nat} {q:List AObj},(∀i,i∈ids->i∈ids0)->jN f hp ids q->jN f hp' ids q
 |[],[],_,h=>h
 |i::r,y::q,hi,h=>by
  refine⟨?_,rb hs (fun x hx=>hi x (List.mem_cons_of_mem _ hx)) h.2⟩
  rw[hs.h i (hi i List.mem_cons_self)]
  exact h.1
 |[],_::_,_,h=>h.elim
 |_::_,[],_,h=>h.elim
theorem jO {f:FuncId}{args args0:List AV}{hp hp0 hp0':List AObj}{v v0:AV}(ids:List Nat)(h:∀(R:Res) (g:R.σ),Does P R f args0 hp0 g (.ret v0) hp0' g)(hlv:nO hp ids)(hnd:cN ids=true)
  (hob:∀n,dd (au ids n) hp ids hp0) (hlive:dE hp0) (e1:∀n,leL args (args0.map (aI (au ids n)))) (hl:hp0'.length-ids.length=0)
  (e2:∀n,Le (aI (au (ids++rng 0 n) (n+0)) v0) v) (e3:∀n,jN (au (ids++rng 0 n) (n+0)) hp ids hp0') :
  ∀(hp':List AObj) (g':R.σ),SameO ids hp hp'->Does P R f args hp' g' (.ret v) hp' g':=by
 intro hp' g' hs
 have hlt:=q9 hs (fun _ h=>h) hlv
 refine fB ids hp'.length h rfl hlt hnd (ra hs (fun _ h=>h) (hob _)) hlive (e1 _) ?_ ?_
 ·rw[hl]
  exact e2 _
 ·rw[hl]
  refine nM (by rw[jA]) (fun i hi=>by rw[jA];exact ir hlt i hi) (fun i hi=>by rw[nN _ _ _ hi];exact AP _) (rb hs (fun _ h=>h) (e3 _))
end
end Go.Avm
namespace Go.Avm
open Go
section
variable {P:Program}{R:Res}
def aB (hp:List AObj)(k m:Nat)(v v':AV):Prop:=∀(FM FM':Mem) (Z:Plc) (w:World),HRel FM Z hp w->(∀b o,FM b=some o->FM' b=some o) ->
 (∀i p,k<=i->Z[i]? = some p->aL (ag hp i)=true->FM' p.1=w.heap[p.1]?)->∀u,Den FM Z v u->Den FM' (Z.take m) v' u
theorem AU {hp:List AObj}{k m:Nat}{v:AV}(h:Below m v):aB hp k m v v:=fun _ _ Z _ _ hm _ _ hd=>cE _ (A1 hm _ (AZ Z) hd) h
theorem aB.le {hp:List AObj}{k m:Nat}{v v' v'':AV}(h:aB hp k m v v')(hl:Le v' v''):aB hp k m v v'':=fun FM FM' Z w h1 h2 h3 u hu=>hl _ _ _ (h FM FM' Z w h1 h2 h3 u hu)
theorem aB.tup {hp:List AObj}{k m n:Nat}{f f':Nat->AV}(h:∀j,j<n->aB hp k m (f j) (f' j)):aB hp k m (.tup n f) (.tup n f'):=by
 rintro FM FM' Z w h1 h2 h3 u ⟨cs,e1,e2,e3⟩
 exact⟨cs,e1,e2,fun j hj=>h j hj FM FM' Z w h1 h2 h3 _ (e3 j hj)⟩
theorem aB.agg {hp:List AObj}{k m n:Nat}{f f':Nat->AV}(h:∀j,j<n->aB hp k m (f j) (f' j)):aB hp k m (.agg n f) (.agg n f'):=by
 rintro FM FM' Z w h1 h2 h3 u ⟨cs,e1,e2,e3⟩
 exact⟨cs,e1,e2,fun j hj=>⟨(e3 j hj).1,h j hj FM FM' Z w h1 h2 h3 _ (e3 j hj).2⟩⟩
theorem nP {n:Nat}{fr:Bool}{c:Nat->AV}(h:0<n):aL (.cells fr n c)=true:=by simpa[aL] using h
theorem rc {hp:List AObj}{k o N:Nat}{c get:Nat->AV}{fr:Bool}(ho:ag hp o=.cells fr N c)(hk:k<=o)(hc:∀j,j<N->aB hp k 0 (c j) (get j)){FM FM':Mem}{Z:Plc}{w:World}(h1:HRel FM Z hp w)(h2:∀b o,FM b=some o->FM' b=some o)
  (h3:∀i p,k<=i->Z[i]? = some p->aL (ag hp i)=true->FM' p.1=w.heap[p.1]?) {q:Nat × Nat × Nat} (hq:Z[o]? = some q) {j:Nat} (hj:j<N):∃x,cD FM' q.1 (q.2.1+j)=some x/\x.oneCell'=true/\Den FM' [] (get j) x:=by
 obtain⟨_,g2⟩:=h1.obj o q hq
 rw[ho] at g2
 obtain⟨cs,ty,f1,f2,f3,f4,_⟩:=g2 omg
 obtain⟨y,y1,y2,y3⟩:=f4 j hj
 have hFM:=h3 o q hk hq (by rw[ho];exact nP omg)
 refine⟨y,?_,y2,?_⟩
 ·unfold cD
  rw[hFM,f1]
  exact y1
 ·have:=hc j hj FM FM' Z w h1 h2 h3 y y3
  simpa using this
theorem aB.ow {hp:List AObj}{k m o n e N:Nat}{x:Bool}{c get:Nat->AV}{fr:Bool}(ho:ag hp o=.cells fr N c)(hk:k<=o)(hN:n*e<=N)(he:0<e)(hc:∀j,j<N->aB hp k 0 (c j) (get j)):aB hp k m (.ow x o n e) (.fz (bif x then .auto else .may) e n (fun i j=>get (i*e+j))):=by
 rintro FM FM' Z w h1 h2 h3 u ⟨d1,d2⟩
 have hcell:∀(q:Nat × Nat × Nat),Z[o]? = some q->∀i j,i<n->j<e->∃y,cD FM' q.1 (q.2.1+i*e+j)=some y/\y.oneCell'=true/\Den FM' [] (get (i*e+j)) y:=fun q hq i j hi hj=>by
  have:(i+1)*e<=n*e:=Nat.mul_le_mul_right _ hi
  rw[Nat.add_mul] at this
  have:=rc ho hk hc h1 h2 h3 hq (j:=i*e+j) omg
  rwa [<-Nat.add_assoc] at this
 by_cases hn:n=0
 ·obtain⟨a,rfl,ha⟩:=d1 hn
  subst hn
  cases x with
  |true=>exact⟨fun _=>⟨rfl,a,0,rfl,ha rfl,rfl⟩,fun h=>by cases h⟩
  |false=>exact⟨fun _=>⟨rfl,a,0,rfl,fun _=>rfl⟩,fun h=>by cases h⟩
 ·obtain⟨q,cap',hq,rfl,b2,b3⟩:=d2 hn
  cases x with
  |true=>exact⟨fun h=>absurd (Nat.eq_of_beq_eq_true h) hn,fun _=>⟨q.1,q.2.1,cap',rfl,b2,fun h=>(by rcases h with h|h <;> cases h),hcell q hq⟩⟩
  |false=>exact⟨fun h=>absurd (Nat.eq_of_beq_eq_true h) hn,fun _=>⟨q.1,q.2.1,cap',rfl,b2,fun h=>(by rcases h with h|h <;> cases h),hcell q hq⟩⟩
theorem aB.sl {hp:List AObj}{k m o off n cap e N:Nat}{ex:Bool}{c get:Nat->AV}{fr:Bool}(ho:ag hp o=.cells fr N c)(hk:k<=o)(hN:off+n*e<=N)(hcap:n<=cap)(he:0<e)(hc:∀j,j<N->aB hp k 0 (c j) (get j)):aB hp k m (.sl o off n cap ex e) (.fz .opn e n (fun i j=>get (off+i*e+j))):=by
 rintro FM FM' Z w h1 h2 h3 u ⟨q,cap',hq,rfl,b2,_,b3⟩
 refine⟨fun h=>(by cases h),fun _=>⟨q.1,q.2.1+off,cap',rfl,omg,fun h=>(by rcases h with h|h <;> cases h),fun i j hi hj=>?_⟩⟩
 have:(i+1)*e<=n*e:=Nat.mul_le_mul_right _ hi
 rw[Nat.add_mul] at this
 have:=rc ho hk hc h1 h2 h3 hq (j:=off+i*e+j) omg
 rwa [show q.2.1+(off+i*e+j)=q.2.1+off+i*e+j by omega] at this
def lp (hp:List AObj)(k:Nat)(fr:List (Nat × AV)):List (Nat × AV)->Prop
 |[]=>True
 |(t,v)::r=>aB hp k k (lk fr t) v/\lp hp k fr r
theorem nQ {hp:List AObj}{k:Nat}{fr:List (Nat × AV)}{FM FM':Mem}{Z:Plc}{w:World}(h1:HRel FM Z hp w)(h2:∀b o,FM b=some o->FM' b=some o)
  (h3:∀i p,k<=i->Z[i]? = some p->aL (ag hp i)=true->FM' p.1=w.heap[p.1]?) {vals:Nat->Value} (hv:cF FM Z fr vals):∀{fr':List (Nat × AV)},lp hp k fr fr'->cF FM' (Z.take k) fr' vals
 |[],_=>fun _=>trivial
 |(t,v)::r,h=>fun s=>by
  show Den FM' (Z.take k) (bif Nat.beq s t then v else lk r s) (vals s)
  cases hb:Nat.beq s t with
  |true=>
   have:=Nat.eq_of_beq_eq_true hb
   subst this
   exact h.1 FM FM' Z w h1 h2 h3 _ (hv s)
  |false=>exact nQ h1 h2 h3 hv h.2 s
theorem jP {k0:Nat}{s:St R.σ}(k:Nat)(fr':List (Nat × AV))(hk:k0<=k)(hml:k<=s.hp.length)(hot:∀i,i<k->jM k (ag s.hp i))(hfr:lp s.hp k s.fr fr'):To R k0 s ⟨fr',bl k s.hp,s.g⟩:=by
 classical
 intro Z0 FM Z w vals h0 hs okw fr
 let C:Nat->Prop:=fun b=>∃i p,k<=i/\Z[i]? = some p/\p.1=b/\aL (ag s.hp i)=true
 let FM':Mem:=fun b=>if C b then w.heap[b]? else FM b
 have hC:∀b,C b->FM' b=w.heap[b]?:= fun b h=>if_pos h
 have hN:∀b,¬C b->FM' b=FM b:=fun b h=>if_neg h
 have hin:∀b,C b->InB Z b:=fun b ⟨i,p,_,h2,h3,h4⟩=>⟨p,bq h2,h3,(okw.rel.real h2 h4).1⟩
 have hmono:∀b o,FM b=some o->FM' b=some o:=fun b o h=>by
  by_cases hc:C b
  ·rw[hC b hc];exact okw.rel.fm b o h
  ·rw[hN b hc];exact h
 have hsound:∀b o,FM' b=some o->w.heap[b]? = some o:=fun b o h=>by
  by_cases hc:C b
  ·rw[hC b hc] at h;exact h
  ·rw[hN b hc] at h;exact okw.rel.fm b o h
 have hgrow:∀b o,FM' b=some o->FM b=some o∨InB Z b:=fun b o h=>by
  by_cases hc:C b
  ·exact .inr (hin b hc)
  ·rw[hN b hc] at h;exact .inl h
 have hkept:∀(i:Nat) (p:Nat × Nat × Nat),i<k->Z[i]? = some p->aL (ag s.hp i)=true->FM' p.1=FM p.1:=fun i p hi hp hl=>hN _ (fun ⟨j,q,h1,h2,h3,h4⟩=>by
  have:=okw.rel.inj i j p q hp h2 hl h4 h3.symm
  omega)
 have hkeep:Keep (R.B s.g) FM w FM' w:=⟨hmono,fun b hb=>hN b (fun hc=>(okw.bd b hb).2 (hin b hc)),hsound,fun _ _=>rfl,Nat.le_refl _,rfl,rfl,rfl⟩
 have hget:∀(i:Nat) (p:Nat × Nat × Nat),(Z.take k)[i]? = some p->i<k/\Z[i]? = some p:=fun i p h=>by
  rw[List.getElem?_take] at h
  split at h
  ·rename_i hi;exact⟨hi,h⟩
  ·cases h
 have h3:∀i p,k<=i->Z[i]? = some p->aL (ag s.hp i)=true->FM' p.1=w.heap[p.1]?:= fun i p h1 h2 h4=>hC _ ⟨i,p,h1,h2,rfl,h4⟩
 have hgo:∀i,i<k->ag (bl k s.hp) i=ag s.hp i:=fun i hi=>by rw[gC,if_pos hi]
 have hinT:∀b,InB (Z.take k) b->InB Z b:=fun b ⟨p,hp,hb⟩=>⟨p,List.mem_of_mem_take hp,hb⟩
 refine⟨FM',Z.take k,⟨⟨hsound,by show _=(bl k s.hp).length;rw[mZ,List.length_take,okw.rel.len],fun i p hi=>?_,fun i j p q hi hj hli hlj hpq=>?_⟩,R.st okw.j hkeep,fun b hb=>⟨(okw.bd b hb).1,fun h=>(okw.bd b hb).2 (hinT b h)⟩⟩,nQ okw.rel hmono h3 fr hfr,fun i p hi=>?_,hmono,hgrow,hinT,rfl⟩
 ·obtain⟨hik,hi'⟩:=hget i p hi
  obtain⟨k1,k2⟩:=okw.rel.obj i p hi'
  refine⟨k1,?_⟩
  show cw FM' (Z.take k) p w (ag (bl k s.hp) i)
  rw[hgo i hik]
  have hb:=hot i hik
  cases hx:ag s.hp i with
  |dead=>trivial
  |map a=>
   rw[hx] at k2
   exact dK k2 hmono rfl ((hkept i p hik hi' (by rw[hx];rfl)).trans k2.2.1)
  |mapo a=>
   rw[hx] at k2 hb
   have hf:=hkept i p hik hi' (by rw[hx];rfl)
   obtain⟨a1,a2,mes,clock,a3,a4,a5⟩:=k2
   exact⟨a1,hf.trans a2,mes,clock,a3,a4,fun j kv v hj=>let ⟨e,b1,b2,b3⟩:=a5 j kv v hj;⟨e,b1,b2,cE _ (A1 hmono _ (AZ Z) b3) (hb _ (List.mem_of_getElem? hj))⟩⟩
  |cells f n c=>
   rw[hx] at k2 hb
   intro hn
   have hf:=hkept i p hik hi' (by rw[hx];exact nP hn)
   obtain⟨cs,e,a1,a2,a3,a4,a5,a6⟩:=k2 hn
   exact⟨cs,e,a1,a2,a3,fun j hj=>let ⟨y,b1,b2,b3⟩:=a4 j hj;⟨y,b1,b2,cE _ (A1 hmono _ (AZ Z) b3) (hb j hj)⟩,fun h=>hf.trans (a5 h),fun h=>hf.trans (a6 h)⟩
 ·obtain⟨hik,hi'⟩:=hget i p hi
  obtain⟨hjk,hj'⟩:=hget j q hj
  have e1:ag (bl k s.hp) i=ag s.hp i:=hgo i hik
  have e2:ag (bl k s.hp) j=ag s.hp j:=hgo j hjk
  exact okw.rel.inj i j p q hi' hj' (by rw[<-e1];exact hli) (by rw[<-e2];exact hlj) hpq
 ·have hil:i<k0:=by rw[<-h0];exact(List.getElem?_eq_some_iff.1 hi).1
  rw[List.getElem?_take,if_pos omg]
  exact hs i p hi
def FzO (hp:List AObj)(k:Nat):AObj->AObj->Prop
 |_,.dead=>True
 |.cells f n c,.cells f' n' c'=>f=f'/\n=n'/\∀j,j<n->aB hp k k (c j) (c' j)
 |.map a,.map b=>a=b
 |.mapo a,.mapo b=>a=b/\∀e,e∈a->Below k e.2
 |_,_=>False
theorem FzO.live {hp:List AObj}{k:Nat}{x y:AObj}(h:FzO hp k x y)(hy:aL y=true):aL x=true:=by
 cases x <;> cases y <;> first|(cases hy;done)|exact h.elim|rfl|skip
 obtain⟨_,rfl,_⟩:=h
 exact hy
theorem rd {k0:Nat}{s:St R.σ}(k:Nat)(fr':List (Nat × AV))(hp':List AObj)(hk:k0<=k)(hml:k<=s.hp.length)(hlen:hp'.length=k)(hot:∀i,i<k->FzO s.hp k (ag s.hp i) (ag hp' i))(hfr:lp s.hp k s.fr fr'):To R k0 s ⟨fr',hp',s.g⟩:=by
 classical
 intro Z0 FM Z w vals h0 hs okw fr
 let C:Nat->Prop:=fun b=>∃i p,k<=i/\Z[i]? = some p/\p.1=b/\aL (ag s.hp i)=true
 let FM':Mem:=fun b=>if C b then w.heap[b]? else FM b
 have hC:∀b,C b->FM' b=w.heap[b]?:= fun b h=>if_pos h
 have hN:∀b,¬C b->FM' b=FM b:=fun b h=>if_neg h
 have hin:∀b,C b->InB Z b:=fun b ⟨i,p,_,h2,h3,h4⟩=>⟨p,bq h2,h3,(okw.rel.real h2 h4).1⟩
 have hmono:∀b o,FM b=some o->FM' b=some o:=fun b o h=>by
  by_cases hc:C b
  ·rw[hC b hc];exact okw.rel.fm b o h
  ·rw[hN b hc];exact h
 have hsound:∀b o,FM' b=some o->w.heap[b]? = some o:=fun b o h=>by
  by_cases hc:C b
  ·rw[hC b hc] at h;exact h
  ·rw[hN b hc] at h;exact okw.rel.fm b o h
 have hgrow:∀b o,FM' b=some o->FM b=some o∨InB Z b:=fun b o h=>by
  by_cases hc:C b
  ·exact .inr (hin b hc)
  ·rw[hN b hc] at h;exact .inl h
 have hkept:∀(i:Nat) (p:Nat × Nat × Nat),i<k->Z[i]? = some p->aL (ag s.hp i)=true->FM' p.1=FM p.1:=fun i p hi hp hl=>hN _ (fun ⟨j,q,h1,h2,h3,h4⟩=>by
  have:=okw.rel.inj i j p q hp h2 hl h4 h3.symm
  omega)
 have hkeep:Keep (R.B s.g) FM w FM' w:=⟨hmono,fun b hb=>hN b (fun hc=>(okw.bd b hb).2 (hin b hc)),hsound,fun _ _=>rfl,Nat.le_refl _,rfl,rfl,rfl⟩
 have hget:∀(i:Nat) (p:Nat × Nat × Nat),(Z.take k)[i]? = some p->i<k/\Z[i]? = some p:=fun i p h=>by
  rw[List.getElem?_take] at h
  split at h
  ·rename_i hi;exact⟨hi,h⟩
  ·cases h
 have h3:∀i p,k<=i->Z[i]? = some p->aL (ag s.hp i)=true->FM' p.1=w.heap[p.1]?:= fun i p h1 h2 h4=>hC _ ⟨i,p,h1,h2,rfl,h4⟩
 have hinT:∀b,InB (Z.take k) b->InB Z b:=fun b ⟨p,hp,hb⟩=>⟨p,List.mem_of_mem_take hp,hb⟩
 refine⟨FM',Z.take k,⟨⟨hsound,by show _=hp'.length;rw[hlen,List.length_take,okw.rel.len];omega,fun i p hi=>?_,fun i j p q hi hj hli hlj hpq=>?_⟩,R.st okw.j hkeep,fun b hb=>⟨(okw.bd b hb).1,fun h=>(okw.bd b hb).2 (hinT b h)⟩⟩,nQ okw.rel hmono h3 fr hfr,fun i p hi=>?_,hmono,hgrow,hinT,rfl⟩
 ·obtain⟨hik,hi'⟩:=hget i p hi
  obtain⟨k1,k2⟩:=okw.rel.obj i p hi'
  refine⟨k1,?_⟩
  show cw FM' (Z.take k) p w (ag hp' i)
  have hb:=hot i hik
  cases hy:ag hp' i with
  |dead=>trivial
  |map b=>
   rw[hy] at hb
   cases hx:ag s.hp i with
   |map a=>
    rw[hx] at k2 hb
    have hb:a=b:=hb
    subst hb
    exact dK k2 hmono rfl ((hkept i p hik hi' (by rw[hx];rfl)).trans k2.2.1)
   |dead=>rw[hx] at hb;exact hb.elim
   |mapo a=>rw[hx] at hb;exact hb.elim
   |cells f n c=>rw[hx] at hb;exact hb.elim
  |mapo b=>
   rw[hy] at hb
   cases hx:ag s.hp i with
   |mapo a=>
    rw[hx] at k2 hb
    obtain⟨rfl,hb⟩:a=b/\∀e,e∈a->Below k e.2:=hb
    have hf:=hkept i p hik hi' (by rw[hx];rfl)
    obtain⟨a1,a2,mes,clock,a3,a4,a5⟩:=k2
    exact⟨a1,hf.trans a2,mes,clock,a3,a4,fun j kv v hj=>let ⟨e,b1,b2,b3⟩:=a5 j kv v hj;⟨e,b1,b2,cE _ (A1 hmono _ (AZ Z) b3) (hb _ (List.mem_of_getElem? hj))⟩⟩
   |dead=>rw[hx] at hb;exact hb.elim
   |map a=>rw[hx] at hb;exact hb.elim
   |cells f n c=>rw[hx] at hb;exact hb.elim
  |cells f' n' c'=>
   rw[hy] at hb
   cases hx:ag s.hp i with
   |cells f n c=>
    rw[hx] at k2 hb
    obtain⟨rfl,rfl,hb⟩:f=f'/\n=n'/\∀j,j<n->aB s.hp k k (c j) (c' j):=hb
    intro hn
    have hf:=hkept i p hik hi' (by rw[hx];exact nP hn)
    obtain⟨cs,e,a1,a2,a3,a4,a5,a6⟩:=k2 hn
    exact⟨cs,e,a1,a2,a3,fun j hj=>let ⟨y,b1,b2,b3⟩:=a4 j hj;⟨y,b1,b2,hb j hj FM FM' Z w okw.rel hmono h3 y b3⟩,fun h=>hf.trans (a5 h),fun h=>hf.trans (a6 h)⟩
   |dead=>rw[hx] at hb;exact hb.elim
   |map a=>rw[hx] at hb;exact hb.elim
   |mapo a=>rw[hx] at hb;exact hb.elim
 ·obtain⟨hik,hi'⟩:=hget i p hi
  obtain⟨hjk,hj'⟩:=hget j q hj
  exact okw.rel.inj i j p q hi' hj' ((hot i hik).live hli) ((hot j hjk).live hlj) hpq
 ·have hil:i<k0:=by rw[<-h0];exact(List.getElem?_eq_some_iff.1 hi).1
  rw[List.getElem?_take,if_pos omg]
  exact hs i p hi
end
end Go.Avm
namespace Go.Avm
open Go
section
variable {P:Program}{R:Res}
def re (P:Program)(t:Nat):Bool:=match aA P t with
 |some ti=>Nat.beq ti.size 0
 |none=>false
theorem wy {o:Oper}{ev:Operand->AV}{hp:List AObj}{g:R.σ}{t:TypeId}{p y:Operand}{b off:Nat}{f:Nat->AV}(ho:o.op=.store t p y)(hp0:ev p=.ref b off)(hy:ev y=.agg 0 f)(hs:re P t=true) :
  OpOk P R o ev hp g .any hp g:=by
 refine⟨fun FM Z w evc ok hop=>?_⟩
 have h1:=hop p (by simp[ho,Op.operands])
 have h2:=hop y (by simp[ho,Op.operands])
 rw[hp0] at h1
 rw[hy] at h2
 obtain⟨q,hq,hpv⟩:=h1
 unfold re at hs
 split at hs
 ·rename_i ti hti
  have hz:=Nat.eq_of_beq_eq_true hs
  have hsz:=cZ (bh hti) w
  rw[hz] at hsz
  obtain⟨cs,hc,hn,_⟩:=h2
  have hcs:cs=#[]:=Array.eq_empty_of_size_eq_zero hn
  subst hcs
  have hrun:(Instr.storeAt t (evc p) (evc y)).run P w=.ok () w:=by
   unfold Instr.storeAt storeVar
   simp[hpv,hc,Instr.sureAddr,hsz,Value.cells,storeCells]
  refine⟨.skip,w,FM,Z,undef,?_,rfl,trivial,ok,AW _ _ _ _ _⟩
  simp[execOp,ho,hrun]
 ·cases hs
end
end Go.Avm
namespace Go.Avm
open Go
section
variable {P:Program}{R:Res}
theorem Goes.put {g g':R.σ}{FM FM':Mem}{Z Z':Plc}{w w':World}(h:Goes R g FM Z w g' FM' Z' w'){X:Nat}(hX:w.heap.size<=X)(o:Obj):Goes R g FM Z w g' FM' Z' (w'.putObj X o):=
 ⟨⟨h.ext.fm,h.ext.grow,h.ext.blk,fun b h1 h2 h3=>(World.putObj_heap_other omg).trans (h.ext.keep b h1 h2 h3),by simpa using h.ext.size,h.ext.os,h.ext.tape,h.ext.output⟩,h.bn,h.sub⟩
theorem Nb.put {X:Nat}{g:R.σ}{FM:Mem}{Z:Plc}{w:World}(h:Nb R X g FM Z w)(Y:Nat)(o:Obj):Nb R X g FM Z (w.putObj Y o):=⟨by simpa using h.lt,h.off,h.offB,h.nofm⟩
theorem wz {hp:List AObj}{g:R.σ}{FM:Mem}{Z:Plc}{w w':World}(ok:Ok R hp g FM Z w)(h:w.grownBy w' none):Ok R hp g FM Z w'/\Goes R g FM Z w g FM Z w':=by
 obtain⟨h1,h2,h3,h4,h5⟩:=h
 have keep:∀b,b<w.heap.size->w'.heap[b]? = w.heap[b]?:= fun b hb=>h5 b hb (fun e=>by cases e)
 refine fw ok ⟨fun b o hb=>?_,ok.rel.len,fun i p hi=>?_,ok.rel.inj⟩ ⟨fun _ _ h=>h,fun _ _ h=>.inl h,fun _ h=>.inl h,fun b hb _ _=>keep b hb,h4,h1,h2,h3⟩ (AZ _)
 ·have:=ok.rel.fm b o hb
  exact(keep b (Array.getElem?_eq_some_iff.1 this).1).trans this
 ·obtain⟨k1,k2⟩:=ok.rel.obj i p hi
  exact⟨fun hr=>Nat.lt_of_lt_of_le (k1 hr) h4,k2.mono (AZ _) (fun hl=>keep _ (k1 (ok.rel.real hi hl).1))⟩
def jQ (pok:Prop)(Q:AEx->St R.σ->Prop):AEx->St R.σ->Prop
 |.normal,_=>False
 |.pan x,s=>pok/\Q (.pan x) s
 |e,s=>Q e s
def rf:AEx->Option Code
 |.ret=>some .ret
 |.exit id=>some (.exit id)
 |_=>none
def lq (R:Res)(C:Cx R)(D L:Nat)(rec:LoopState->Option Code->Loop)(Q:AEx->St R.σ->Prop)(e:Ending)(W:World):Prop:=
 (∃ex j s3 FM3 Z3,e=.returned (.bool false)/\rf ex=some j/\Q ex s3/\Ok R s3.hp s3.g FM3 Z3 W/\Goes R C.g C.FM C.Z C.w s3.g FM3 Z3 W /\
  W.heap[D]? = some (.deferred (some []))/\W.heap[L]? = some (.loop (rec .done (some j)))/\Nb R D s3.g FM3 Z3 W/\Nb R L s3.g FM3 Z3 W) ∨
 (∃x v s3 FM3 Z3,e=.panicked [{ v,recovered:=false }]/\Den FM3 Z3 x v/\Q (.pan x) s3/\Ok R s3.hp s3.g FM3 Z3 W/\Goes R C.g C.FM C.Z C.w s3.g FM3 Z3 W /\
  W.heap[D]? = some (.deferred (some []))/\Nb R D s3.g FM3 Z3 W)
def wA (P:Program)(l:Nat)(f:FuncId)(R:Ending->World->Prop):Exit->Act->World->Prop
 |.panic chain,a,w=>(P.funcs[f]?).isSome=true/\a.defers=[]/\R (.panicked chain) w
 |e,a,w=>roundPost P l R e a w
theorem wB {F:Fence}{n l:Nat}{f:FuncId}{tmps:Array Value}{assign body:Code}{w:World}{R:Ending->World->Prop}(hF:F.fn f)
  (h:assign.wpIn (F.inRound l) n P (Exit.then (fun a₁ w₁=>∃w₂,(Instr.beginRound l).run P w₁=.ok () w₂/\body.wpIn (F.inRound l) n P (wA P l f R) a₁ w₂) (fun _ _ _=>False)) { tmps,defers:=[] } w) :
  RoundIn F n P l f tmps assign body w R:=by
 refine⟨hF,fun c cs hr=>?_⟩
 let b:Frame:={ (default:Frame) with fn:=f,kind:=.normal,roundOf:=some l }
 have hb0:Frame.round l f tmps assign body .normal=b.atR { tmps:=tmps,defers:=[] } [.code assign,.beginRound,.code body]:=by simp[Frame.round,Frame.atR,b]
 have hr':(F.inRound l).room ((c::cs).length+1+n):=hr
 have hF':(F.inRound l).fn b.fn:=hF
 obtain⟨e,a₁,w₁,hq,harr⟩:=h b [.beginRound,.code body] (c::cs) rfl hF' hr'
 rw[<-hb0] at harr
 cases e with
 |normal=>
  obtain⟨w₂,hbr,hbody⟩:=hq
  have s1:=StepsIn.trans harr (.one (fenced_calm (fr:=b.atR a₁ [.beginRound,.code body]) hF' hr' rfl) (stepR_beginRound rfl hbr))
  obtain⟨e₂,a₂,w₃,hq₂,harr₂⟩:=hbody b [] (c::cs) rfl hF' hr'
  cases e₂ with
  |normal=>
   obtain⟨v,w₄,hend,hR⟩:=hq₂
   exact⟨.returned v,w₄,hR,StepsIn.trans s1 (StepsIn.trans harr₂ (.one (fenced_calm (fr:=b.atR a₂ []) hF' hr' rfl) (stepR_round_end rfl rfl hend)))⟩
  |ret=>
   obtain⟨v,w₄,hend,hR⟩:=hq₂
   obtain⟨k₁,hs⟩:=harr₂.2 rfl
   exact⟨.returned v,w₄,hR,StepsIn.trans s1 (StepsIn.trans hs (.one (fenced_calm (fr:=b.atR a₂ (.code .ret::k₁)) hF' hr' rfl) (stepR_round_ret rfl rfl hend)))⟩
  |exit id=>
   obtain⟨v,w₄,hend,hR⟩:=hq₂
   obtain⟨k₁,hk,hs⟩:=harr₂.2 rfl rfl
   exact⟨.returned v,w₄,hR,StepsIn.trans s1 (StepsIn.trans hs (.one (fenced_calm (fr:=b.atR a₂ (.code (.exit id)::k₁)) hF' hr' rfl) (stepR_round_exit rfl rfl hk hend)))⟩
  |goto t=>
   obtain⟨v,w₄,hend,hR⟩:=hq₂
   obtain⟨k₁,hk,hs⟩:=harr₂.2 rfl rfl
   exact⟨.returned v,w₄,hR,StepsIn.trans s1 (StepsIn.trans hs (.one (fenced_calm (fr:=b.atR a₂ (.code (.goto t)::k₁)) hF' hr' rfl) (stepR_round_goto rfl rfl hk hend)))⟩
  |panic chain=>
   obtain⟨hsome,hdef,hR⟩:=hq₂
   obtain⟨todo,hs⟩:=harr₂
   obtain⟨fn,hfn⟩:=Option.isSome_iff_exists.1 hsome
   have hl:({ b.atR a₂ todo with mode:=.panicking chain }:Frame).leaving P w₃ (.panicked chain):=⟨rfl,hdef,fn,hfn⟩
   exact⟨.panicked chain,w₃,hR,StepsIn.trans s1 (StepsIn.trans hs (.one (fenced_leaving hF' hr' hl) (step_leave_panicked hl)))⟩
  |outgrown=>exact hq₂.elim
 |exit id=>exact hq.elim
 |goto t=>exact hq.elim
 |ret=>exact hq.elim
 |panic chain=>exact hq.elim
 |outgrown=>exact hq.elim
theorem wC {nt D L:Nat}{fn:FuncId}{tmps:Array Value}{ps:Array Tmp}{assign body:Code}{rec:LoopState->Option Code->Loop}
  (hrec:rec=fun st pe=>{ state:=st,pending:=pe,fn,tmps,params:=ps,assign,body,defers:=D }) {C:Cx R} (hDn:C.w.heap.size<=D) (hLn:C.w.heap.size<=L) (hne:D≠L)
  {FM:Mem} {Z:Plc} {w:World} {hp:List AObj} {g:R.σ} (ok:Ok R hp g FM Z w) (hb:Goes R C.g C.FM C.Z C.w g FM Z w) (hD:w.heap[D]? = some (.deferred (some []))) (hL:w.heap[L]? = some (.loop (rec .ready none))) (nD:Nb R D g FM Z w) (nL:Nb R L g FM Z w)
  {fr:List (Nat × AV)} (hsz:tmps.size=nt) (hfr:∀t,Den FM Z (lk fr t) (tmps.getD t undef)) {items:List AV} {vs:Array Value} (hvs:bS FM Z items vs) (hlen:items.length=ps.toList.length) (hlt:bF ps.toList nt=true)
  {Q:AEx->St R.σ->Prop} (hround:wpA P R nt hp.length (.inr L) assign (fun e s1=>e=.normal/\wpA P R nt s1.hp.length (.inr L) body (jQ ((P.funcs[fn]?).isSome=true) Q) s1) ⟨cP ps.toList items fr,hp,g⟩) :
  ∃fn tmps assign body,(Instr.yield L vs).run P w=.ok (.round L fn tmps assign body) w/\∀(r:Rd) (n:Nat),RoundIn (Fw r) n P L fn tmps assign body w (lq R C D L rec Q):=by
 have hvsz:vs.size=ps.size:=by rw[hvs.1,hlen];simp
 have hrun:=run_yield (P:=P) hL (args:=vs) (by rw[hrec];exact hvsz)
 rw[hrec] at hrun
 refine⟨_,_,_,_,hrun,fun r n=>wB trivial ?_⟩
 have hzip:(ps.zip vs).foldl (fun tmps (x:Tmp × Value)=>tmps.setIfInBounds x.1 x.2) tmps=(ps.toList.zip vs.toList).foldl (fun tmps (p:Nat × Value)=>tmps.setIfInBounds p.1 p.2) tmps:=by
  rw[<-Array.foldl_toList,Array.toList_zip]
 have hset:=np (FM:=FM) (Z:=Z) ps.toList items vs.toList fr tmps hsz hlt hlen (by simpa using hvsz) (fun i hi=>by
  have h3:=hvs.2 i hi
  rw[Array.getD_eq_getD_getElem?] at h3
  rw[List.getD_eq_getElem?_getD,Array.getElem?_toList]
  exact h3) hfr
 let C1:Cx R:=⟨g,FM,Z,w,[],false⟩
 have hsat:Sat R C1 nt ⟨cP ps.toList items fr,hp,g⟩ FM Z { tmps:=(ps.zip vs).foldl (fun tmps (x:Tmp × Value)=>tmps.setIfInBounds x.1 x.2) tmps,defers:=[] } w:=by
  refine⟨ok,AW _ _ _ _ _,?_,.start,fun t=>?_⟩
  ·show Array.size _=nt
   rw[hzip];exact hset.1
  ·show Den FM Z _ (Array.getD _ _ _)
   rw[hzip];exact hset.2 t
 refine wpIn_mono (hround C1 ⟨ok.rel.len,rfl⟩ n _ w ⟨FM,Z,hsat⟩) (fun e a1 w1 hpost=>?_)
 have post:∃s1 FM1 Z1,e=.normal/\(wpA P R nt s1.hp.length (.inr L) body (jQ ((P.funcs[fn]?).isSome=true) Q) s1)/\Sat R C1 nt s1 FM1 Z1 a1 w1:=by
  cases e with
  |normal=>obtain⟨s,⟨_,h1⟩,FM1,Z1,h2⟩:=hpost;exact⟨s,FM1,Z1,rfl,h1,h2⟩
  |exit id=>obtain⟨s,⟨h1,_⟩,_⟩:=hpost;cases h1
  |ret=>obtain⟨s,⟨h1,_⟩,_⟩:=hpost;cases h1
  |panic ch=>obtain⟨s,x,v,FM1,Z1,⟨h1,_⟩,_⟩:=hpost;cases h1
  |goto l=>exact hpost.elim
  |outgrown=>exact hpost.elim
 obtain⟨s1,FM1,Z1,rfl,hbody,hs1⟩:=post
 obtain⟨nL1,eL1⟩:=nL.goes hs1.goes
 obtain⟨nD1,eD1⟩:=nD.goes hs1.goes
 have hL1:=eL1.trans hL
 have hD1:=eD1.trans hD
 refine⟨_,run_beginRound hL1 (by rw[hrec]),?_⟩
 have okb:=iw (.loop { rec .ready none with state:=.busy }) nL1.off nL1.offB nL1.nofm hs1.ok
 let C2:Cx R:=⟨s1.g,FM1,Z1,w1.putObj L (.loop { rec .ready none with state:=.busy }),[],false⟩
 have hsat2:Sat R C2 nt s1 FM1 Z1 a1 (w1.putObj L (.loop { rec .ready none with state:=.busy })):=by
  refine⟨okb,AW _ _ _ _ _,hs1.size,?_,hs1.fr⟩
  have e:a1.defers=[]:=hs1.defs.none
  rw[e];exact .start
 refine wpIn_mono (hbody C2 ⟨hs1.ok.rel.len,rfl⟩ n a1 _ ⟨FM1,Z1,hsat2⟩) (fun e a3 w3 hp3=>?_)
 have fin:∀(ex:AEx) (j:Code) (s3:St R.σ) (FM3:Mem) (Z3:Plc),rf ex=some j->Q ex s3->Sat R C2 nt s3 FM3 Z3 a3 w3->∃v w',(Instr.endRound L (some j)).run P w3=.ok v w'/\lq R C D L rec Q (.returned v) w':=by
  intro ex j s3 FM3 Z3 hj hq hs3
  obtain⟨nL3,eL3⟩:=(nL1.put L (.loop { rec .ready none with state:=.busy })).goes hs3.goes
  obtain⟨nD3,eD3⟩:=(nD1.put L (.loop { rec .ready none with state:=.busy })).goes hs3.goes
  have hL3:w3.heap[L]? = some (.loop { rec .ready none with state:=.busy }):=eL3.trans (World.putObj_heap_same nL1.lt)
  have hD3:w3.heap[D]? = some (.deferred (some [])):=eD3.trans ((World.putObj_heap_other hne).trans hD1)
  have erec:({ ({ rec .ready none with state:=.busy }:Loop) with state:=.done,pending:=some j }:Loop)=rec .done (some j):=by rw[hrec]
  refine⟨_,_,run_endRound (some j) hL3,.inl ⟨ex,j,s3,FM3,Z3,rfl,hj,hq,?_,?_,?_,?_,?_,?_⟩⟩
  ·exact iw _ nL3.off nL3.offB nL3.nofm hs3.ok
  ·exact((((hb.trans hs1.goes).put hLn _).trans hs3.goes).put hLn _)
  ·exact(World.putObj_heap_other hne).trans hD3
  ·refine(World.putObj_heap_same nL3.lt).trans ?_
   rw[<-erec];rfl
  ·exact nD3.put _ _
  ·exact nL3.put _ _
 cases e with
 |normal=>obtain⟨s3,h,_⟩:=hp3;exact h.elim
 |ret=>obtain⟨s3,h,FM3,Z3,h2⟩:=hp3;exact fin .ret .ret s3 FM3 Z3 rfl h h2
 |exit id=>obtain⟨s3,h,FM3,Z3,h2⟩:=hp3;exact fin (.exit id) (.exit id) s3 FM3 Z3 rfl h h2
 |panic ch=>
  obtain⟨s3,x,v,FM3,Z3,⟨hpok,hq⟩,hs3,hch,hden⟩:=hp3
  subst hch
  obtain⟨nD3,eD3⟩:=(nD1.put L (.loop { rec .ready none with state:=.busy })).goes hs3.goes
  refine⟨hpok,hs3.defs.none,.inr ⟨x,v,s3,FM3,Z3,rfl,hden,hq,hs3.ok,((hb.trans hs1.goes).put hLn _).trans hs3.goes,?_,nD3⟩⟩
  exact eD3.trans ((World.putObj_heap_other hne).trans hD1)
 |goto l=>exact hp3.elim
 |outgrown=>exact hp3.elim
end
end Go.Avm
namespace Go.Avm
open Go
def fE (f0:FuncId)(F:Fence)(n:Nat)(P:Program)(c:Code)(Q:Exit->Act->World->Prop)(a:Act)(w:World):Prop:=
 ∀(b:Frame) (k:List Item) (cs:List Frame),b.roundOf=F.round->F.fn b.fn->b.fn=f0->F.room (cs.length+1+n) ->
  ∃e a' w',Q e a' w'/\ArrivesIn (Machine.fenced P F) P (lone (b.atR a (.code c::k)) cs w) b k cs e a' w'
section
variable {f0:FuncId}{F:Fence}{n:Nat}{P:Program}{Q:Exit->Act->World->Prop}{a:Act}{w:World}
theorem wD {x y:Code}(h:x.wpIn F n P (fun e a w=>match e with|.normal=>fE f0 F n P y Q a w|e=>Q e a w) a w):fE f0 F n P (.seq x y) Q a w:=by
 intro b k cs hro hb hf hr
 have h0:(lone (b.atR a (.code (.seq x y)::k)) cs w).fenced P F:=fenced_calm hb hr rfl
 obtain⟨e,a₁,w₁,hq,harr⟩:=h b (.code y::k) cs hro hb hr
 have on:e≠.normal->Q e a₁ w₁->∃e a' w',Q e a' w'/\ArrivesIn (Machine.fenced P F) P (lone (b.atR a (.code (.seq x y)::k)) cs w) b k cs e a' w':=fun he hq=>
  ⟨e,a₁,w₁,hq,.of_steps (.one h0 stepR_seq) (.pass (x:=.code y) rfl (fun _ _=>.inl he) harr)⟩
 cases e with
 |normal=>
  obtain⟨e₂,a₂,w₂,hq₂,harr₂⟩:=hq b k cs hro hb hf hr
  exact⟨e₂,a₂,w₂,hq₂,.of_steps (.head h0 stepR_seq harr) harr₂⟩
 |exit id=>exact on (fun h=>by cases h) hq
 |goto l=>exact on (fun h=>by cases h) hq
 |ret=>exact on (fun h=>by cases h) hq
 |panic ch=>exact on (fun h=>by cases h) hq
 |outgrown=>exact on (fun h=>by cases h) hq
theorem wE {id:Nat}{c:Code}(h:fE f0 F n P c (fun e a w=>(∃ch,e=.panic ch)/\Q e a w) a w):fE f0 F n P (.block id c) Q a w:=by
 intro b k cs hro hb hf hr
 obtain⟨e,a₁,w₁,⟨⟨ch,rfl⟩,hq⟩,harr⟩:=h b (.inBlock id::k) cs hro hb hf hr
 exact⟨_,a₁,w₁,hq,.of_steps (.one (fenced_calm hb hr rfl) stepR_block) harr⟩
theorem wF {x y:Code}(h:fE f0 F n P x (fun e a w=>(∃ch,e=.panic ch)/\Q e a w) a w):fE f0 F n P (.seq x y) Q a w:=by
 intro b k cs hro hb hf hr
 obtain⟨e,a₁,w₁,⟨⟨ch,rfl⟩,hq⟩,harr⟩:=h b (.code y::k) cs hro hb hf hr
 exact⟨_,a₁,w₁,hq,.of_steps (.one (fenced_calm hb hr rfl) stepR_seq) (.pass (x:=.code y) rfl (fun _ _=>.inl (by simp)) harr)⟩
def rg (F:Fence)(n:Nat)(P:Program)(g:Operand)(ps:Array Tmp)(assign body:Code)(Q:Exit->Act->World->Prop)(a:Act)(w:World)(fn:FuncId):Prop:=
 ∃(l:Nat) (mark:List Deferred) (w₁:World) (d:Deferred) (w₁':World) (f:FuncId) (args:Array Value) (w₂:World),
   (Instr.enterLoop fn a.tmps ps assign body F.round).run P w=.ok (l,mark) w₁/\(resolve a.eval (rangeCall g l) 0).run P w₁=.ok d w₁' /\
   (∀f',Target.leads P w₁' d.target d.args=some f'->F.fn f')/\(invoke d.target d.args).run P w₁'=.ok (.enter f args) w₂ /\
   (F.depth.isSome=true->1<=n)/\CallsIn F (n-1) P f args w₂ (rangePost F n P l Q { a with defers:=mark++a.defers })
theorem wG {g:Operand}{ps:Array Tmp}{assign body:Code}(hd:F.depth=none)(h:rg F n P g ps assign body Q a w f0):fE f0 F n P (.rangeFunc g ps assign body) Q a w:=by
 intro b k cs hro hb hf hr
 subst hf
 obtain⟨l,mark,w₁,d,w₁',f,args,w₂,he,hres,hlead,hinv,_,hF,hcall⟩:=h
 rw[<-hro] at he
 have hroom:∀m,F.room m:=fun m d hd'=>by rw[hd] at hd';cases hd'
 have h0:(lone (b.atR a (.code (.rangeFunc g ps assign body)::k)) cs w).fenced P F:=by
  refine fenced_lone (.inl hb) (fun f' hf'=>hlead f' ?_) (hroom _)
  have hev:=Frame.eval_atR b a (.code (.rangeFunc g ps assign body)::k)
  simp only[Frame.atR] at hev
  simp only[Frame.about,Frame.atR,he,hev,hres] at hf'
  exact hf'
 have henter:=stepR_rangeFunc (P:=P) (b:=b) (a:=a) (k:=k) (cs:=cs) (w:=w) he hres hinv
 obtain⟨c,hc⟩:∃c,c=b.atR { a with defers:=mark++a.defers } (.inRangeFunc l::k):=⟨_,rfl⟩
 rw[<-hc] at henter
 obtain⟨e,w₃,fr,hR,hsteps,hfn,hleave⟩:=hcall (c::cs) (hroom _)
 have hFf:F.fn fr.fn:=by rw[hfn];exact hF
 cases e with
 |outgrown=>
  obtain⟨a₀,w₀,hq⟩:=hR
  exact⟨.outgrown,a₀,w₀,hq,.inr (Outgrown.of_steps (.one henter) hsteps)⟩
 |panicked chain=>
  refine⟨.panic chain,_,w₃,hR,.inRangeFunc l::k,.head h0 henter (StepsIn.trans hsteps (.one (fenced_leaving (n:=n) hFf (hroom _) hleave) ?_))⟩
  rw[<-Frame.raise_atR,<-hc]
  exact step_leave_panicked hleave
 |returned v=>
  obtain⟨jump,w₄,hend,hj⟩:=hR
  have dn:=StepsIn.head h0 henter (StepsIn.trans hsteps (.one (fenced_leaving (n:=n) hFf (hroom _) hleave) (step_leave_returned hleave)))
  rw[hc,finish_atR_inRangeFunc] at dn
  have all:=StepsIn.trans dn (.one (fenced_calm (n:=n) (fr:=b.atR { a with defers:=mark++a.defers } (.endRangeFunc l::k)) hb (hroom _) rfl) (stepR_endRangeFunc hend))
  cases jump with
  |none=>exact⟨.normal,_,w₄,hj,all⟩
  |some c=>
   obtain⟨e',a'',w₅,hq,harr⟩:=hj b k cs hro hb hr
   exact⟨e',a'',w₅,hq,.of_steps all harr⟩
theorem wH {f:FuncId}{fn:Func}{c:Code}{args:Array Value}{R:Ending->World->Prop}(hf:P.funcs[f]? = some fn)(hb:fn.body=some c)(hF:F.fn f)(hro:F.round=none)(hd:F.depth=none)
  (h:fE f F n P c (fun e a w=>∃ch,e=.panic ch/\LeavesInM F n P fn a.tmps R a.defers (.panicking ch) w) { tmps:=args++Array.replicate (fn.ntmps-args.size) undef,defers:=[] } w):CallsIn F n P f args w R:=by
 refine⟨hF,fun cs hr=>?_⟩
 let b:Frame:={ (default:Frame) with fn:=f,kind:=.normal,roundOf:=none }
 have henter:Frame.enter P f args .normal=b.atR { tmps:=args++Array.replicate (fn.ntmps-args.size) undef,defers:=[] } [.code c]:=by simp[Frame.enter,Frame.atR,hf,hb,b]
 obtain⟨e,a',w',⟨ch,rfl,hq⟩,harr⟩:=h b [] cs hro.symm hF rfl hr
 rw[<-henter] at harr
 obtain⟨todo,hs₀⟩:=harr
 obtain⟨e',w'',fr',hR,hs,hfn,hl⟩:=leaves_stepsInM a'.defers (.panicking ch) w' { b.atR a' todo with mode:=.panicking ch } cs rfl rfl rfl hf rfl hF hr hq
 exact⟨e',w'',fr',hR,ComesIn.of_steps hs₀ hs,hfn,hl⟩
end
section
variable {P:Program}{R:Res}{nt k0:Nat}{f0:FuncId}{b:Code}{Q:AEx->St R.σ->Prop}{s:St R.σ}
structure WpB (P:Program)(R:Res)(nt k0:Nat)(f0:FuncId)(b:Code)(p:List Nat)(Q:AEx->St R.σ->Prop)(s:St R.σ):Prop where
 h:∀(C:Cx R),C.Z.length=k0/\C.df.out=true->∀(n:Nat) (a:Act) (w:World),dV R C nt s a w->fE f0 (Fw .top) n P (sub b p) (dM R C nt Q) a w
def rh:Code->Bool
 |.seq _ _=>true
 |_=>false
def wI:Code->Bool
 |.block _ _=>true
 |_=>false
theorem jS {p:List Nat}(hs:rh (sub b p)=true)(h:Wp P R nt k0 .top b (p++[0]) (fx (WpB P R nt k0 f0 b (p++[1]) Q) Q) s):WpB P R nt k0 f0 b p Q s:=by
 obtain⟨x,y,hc⟩:∃x y,sub b p=.seq x y:=by
  cases hx:sub b p <;> rw[hx] at hs <;> first|exact⟨_,_,rfl⟩|cases hs
 have h0:=h.h
 rw[co,hc,show sub (.seq x y) [0]=x from cS x] at h0
 refine⟨fun C hC n a w hw=>?_⟩
 rw[hc]
 refine wD (wpIn_mono (h0 C hC n a w hw) (fun e a1 w1 hp=>?_))
 cases e with
 |normal=>
  obtain⟨s1,h1,h2⟩:=hp
  have h3:=(show WpB P R nt k0 f0 b (p++[1]) Q s1 from h1).h C hC n a1 w1 h2
  rw[co,hc,show sub (.seq x y) [1]=y from cS y] at h3
  exact h3
 |exit id=>exact hp
 |ret=>exact hp
 |panic ch=>exact hp
 |goto l=>exact hp
 |outgrown=>exact hp
def nR (Q:AEx->St R.σ->Prop):AEx->St R.σ->Prop
 |.pan x,s=>Q (.pan x) s
 |_,_=>False
theorem ri {C:Cx R}{e:Exit}{a:Act}{w:World}(h:dM R C nt (nR Q) e a w):(∃ch,e=.panic ch)/\dM R C nt Q e a w:=by
 cases e with
 |normal=>obtain⟨s1,h1,_⟩:=h;exact h1.elim
 |exit id=>obtain⟨s1,h1,_⟩:=h;exact h1.elim
 |ret=>obtain⟨s1,h1,_⟩:=h;exact h1.elim
 |panic ch=>obtain⟨s1,x,v,FM,Z,hq,h5⟩:=h;exact⟨⟨ch,rfl⟩,s1,x,v,FM,Z,hq,h5⟩
 |goto l=>exact h.elim
 |outgrown=>exact h.elim
theorem wJ {p:List Nat}(hs:wI (sub b p)=true)(h:WpB P R nt k0 f0 b (p++[0]) (nR Q) s):WpB P R nt k0 f0 b p Q s:=by
 obtain⟨id,c,hc⟩:∃id c,sub b p=.block id c:=by
  cases hx:sub b p <;> rw[hx] at hs <;> first|exact⟨_,_,rfl⟩|cases hs
 refine⟨fun C hC n a w hw=>?_⟩
 have h0:=h.h C hC n a w hw
 rw[co,hc,show sub (.block id c) [0]=c from cS c] at h0
 rw[hc]
 exact wE (fun b' k cs h1 h2 h3 h4=>let ⟨e,a1,w1,hp,harr⟩:=h0 b' k cs h1 h2 h3 h4;⟨e,a1,w1,ri hp,harr⟩)
theorem wK {p:List Nat}(hs:rh (sub b p)=true)(h:WpB P R nt k0 f0 b (p++[0]) (nR Q) s):WpB P R nt k0 f0 b p Q s:=by
 obtain⟨x,y,hc⟩:∃x y,sub b p=.seq x y:=by
  cases hx:sub b p <;> rw[hx] at hs <;> first|exact⟨_,_,rfl⟩|cases hs
 refine⟨fun C hC n a w hw=>?_⟩
 have h0:=h.h C hC n a w hw
 rw[co,hc,show sub (.seq x y) [0]=x from cS x] at h0
 rw[hc]
 exact wF (fun b' k cs h1 h2 h3 h4=>let ⟨e,a1,w1,hp,harr⟩:=h0 b' k cs h1 h2 h3 h4;⟨e,a1,w1,ri hp,harr⟩)
theorem wL {p:List Nat}{s':St R.σ}(h:To R k0 s s')(hw:WpB P R nt k0 f0 b p Q s'):WpB P R nt k0 f0 b p Q s:=
 ⟨fun C hC n a w ⟨FM,Z,hs⟩=>hw.h C hC n a w (sat_to (r:=.top) hC h hs)⟩
def wM (R:Res)(k0:Nat)(x:AV)(hp':List AObj)(g':R.σ):AEx->St R.σ->Prop
 |.pan v,s=>To R k0 ⟨[(0,v)],s.hp,s.g⟩ ⟨[(0,x)],hp',g'⟩
 |_,_=>False
theorem wN {f:FuncId}{args:List AV}{hp hp':List AObj}{g g':R.σ}{x:AV}(hb:fy P f args.length=true)(hnt:bC P f=nt)(hk:hp.length=k0)
  (h:WpB P R nt k0 f (az P f) [] (wM R k0 x hp' g') ⟨cj 0 args,hp,g⟩):Does P R f args hp g (.pan x) hp' g':=by
 subst hnt hk
 unfold fy at hb
 split at hb
 ·rename_i fn hfn
  simp only[Bool.and_eq_true,Nat.ble_eq] at hb
  obtain⟨c,hc⟩:=Option.isSome_iff_exists.1 hb.1
  have h1:az P f=c:=by simp[az,hfn,hc]
  have h2:bC P f=fn.ntmps:=by simp[bC,hfn]
  rw[h1,h2] at h
  refine⟨fun FM Z w vs ok hvs=>(callsIn_wide (n:=0)).1 ?_⟩
  let C:Cx R:=⟨g,FM,Z,w,[],true⟩
  have hsat:Sat R C fn.ntmps ⟨cj 0 args,hp,g⟩ FM Z { tmps:=vs++Array.replicate (fn.ntmps-vs.size) undef,defers:=[] } w:=by
   refine⟨ok,AW _ _ _ _ _,by simp[hvs.1];omega,.start,fun t=>?_⟩
   show Den FM Z (lk (cj 0 args) t) _
   rw[kR]
   simp only[Nat.zero_le,if_true,Nat.sub_zero]
   rcases Nat.lt_or_ge t args.length with ht|ht
   ·have e:(vs++Array.replicate (fn.ntmps-vs.size) undef).getD t undef=vs.getD t undef:=by
     rw[Array.getD_eq_getD_getElem?,Array.getD_eq_getD_getElem?,Array.getElem?_append,if_pos (by rw[hvs.1];exact ht)]
    rw[e];exact hvs.2 t ht
   ·rw[jv _ _ ht];trivial
  have hw:=h.h C ⟨ok.rel.len,rfl⟩ 0 _ w ⟨FM,Z,hsat⟩
  rw[cS] at hw
  refine wH hfn hc trivial rfl rfl (fun b' k cs h1 h2 h3 h4=>?_)
  obtain⟨e,a1,w1,hp1,harr⟩:=hw b' k cs h1 h2 h3 h4
  refine⟨e,a1,w1,?_,harr⟩
  cases e with
  |normal=>obtain⟨s1,h5,_⟩:=hp1;exact h5.elim
  |exit id=>obtain⟨s1,h5,_⟩:=hp1;exact h5.elim
  |ret=>obtain⟨s1,h5,_⟩:=hp1;exact h5.elim
  |goto l=>exact hp1.elim
  |outgrown=>exact hp1.elim
  |panic ch=>
   obtain⟨s1,y,v,FM1,Z1,hto,hs1,rfl,hd⟩:=hp1
   refine⟨_,rfl,hs1.leave (by simp) (hK:=fun w2 ok2 go2=>?_)⟩
   obtain⟨FM2,Z2,d1,d2,d3⟩:=jE (s:=s1) ok.rel.len ok2 go2 hd hto rfl rfl
   exact⟨FM2,Z2,⟨v,rfl,d1⟩,d2,d3⟩
 ·cases hb
end
end Go.Avm
namespace Go.Avm
open Go
variable {P:Program}{R:Res}
abbrev cO:Nat->(Nat->AV)->AObj:=AObj.cells false
abbrev i6:Int->AV:=AV.int .i64
theorem wO {fr:Bool}{f g:Nat->AV}(h0:Le (f 0) (g 0)):LeO (.cells fr 1 f) (.cells fr 1 g):=⟨rfl,Nat.le_refl _,fun j hj=>match j,hj with|0,_=>h0⟩
theorem wP {f g:Nat->AV}(h0:Le (f 0) (g 0)):Le (.tup 1 f) (.tup 1 g):=AR (fun j hj=>match j,hj with|0,_=>h0)
theorem wQ {f g:Nat->AV}(h0:Le (f 0) (g 0)):Le (.agg 1 f) (.agg 1 g):=AS (fun j hj=>match j,hj with|0,_=>h0)
theorem wR {fr:Bool}{f g:Nat->AV}(h0:Le (f 0) (g 0))(h1:Le (f 1) (g 1)):LeO (.cells fr 2 f) (.cells fr 2 g):=⟨rfl,Nat.le_refl _,fun j hj=>match j,hj with|0,_=>h0|1,_=>h1⟩
theorem wS {f g:Nat->AV}(h0:Le (f 0) (g 0))(h1:Le (f 1) (g 1)):Le (.tup 2 f) (.tup 2 g):=AR (fun j hj=>match j,hj with|0,_=>h0|1,_=>h1)
theorem wT {f g:Nat->AV}(h0:Le (f 0) (g 0))(h1:Le (f 1) (g 1)):Le (.agg 2 f) (.agg 2 g):=AS (fun j hj=>match j,hj with|0,_=>h0|1,_=>h1)
theorem wU {fr:Bool}{f g:Nat->AV}(h0:Le (f 0) (g 0))(h1:Le (f 1) (g 1))(h2:Le (f 2) (g 2)):LeO (.cells fr 3 f) (.cells fr 3 g):=⟨rfl,Nat.le_refl _,fun j hj=>match j,hj with|0,_=>h0|1,_=>h1|2,_=>h2⟩
theorem wV {f g:Nat->AV}(h0:Le (f 0) (g 0))(h1:Le (f 1) (g 1))(h2:Le (f 2) (g 2)):Le (.tup 3 f) (.tup 3 g):=AR (fun j hj=>match j,hj with|0,_=>h0|1,_=>h1|2,_=>h2)
theorem wW {f g:Nat->AV}(h0:Le (f 0) (g 0))(h1:Le (f 1) (g 1))(h2:Le (f 2) (g 2)):Le (.agg 3 f) (.agg 3 g):=AS (fun j hj=>match j,hj with|0,_=>h0|1,_=>h1|2,_=>h2)
theorem wX {f:Nat}{a b a' b':Nat->AV}  : Le (.fn f 0 a 0 b) (.fn f 0 a' 0 b'):=Le.fn (fun j hj=>absurd hj (Nat.not_lt_zero j)) (fun j hj=>absurd hj (Nat.not_lt_zero j))
theorem wY {f:Nat}{a b a' b':Nat->AV}(h0:Le (b 0) (b' 0)):Le (.fn f 0 a 1 b) (.fn f 0 a' 1 b'):=Le.fn (fun j hj=>absurd hj (Nat.not_lt_zero j)) (fun j hj=>match j,hj with|0,_=>h0)
theorem wZ {f:Nat}{a b a' b':Nat->AV}(h0:Le (b 0) (b' 0))(h1:Le (b 1) (b' 1)):Le (.fn f 0 a 2 b) (.fn f 0 a' 2 b'):=Le.fn (fun j hj=>absurd hj (Nat.not_lt_zero j)) (fun j hj=>match j,hj with|0,_=>h0|1,_=>h1)
theorem w9 {f:Nat}{a b a' b':Nat->AV}(h0:Le (b 0) (b' 0))(h1:Le (b 1) (b' 1))(h2:Le (b 2) (b' 2)):Le (.fn f 0 a 3 b) (.fn f 0 a' 3 b'):=Le.fn (fun j hj=>absurd hj (Nat.not_lt_zero j)) (fun j hj=>match j,hj with|0,_=>h0|1,_=>h1|2,_=>h2)
theorem xa {f:Nat}{a b a' b':Nat->AV}(h0:Le (b 0) (b' 0))(h1:Le (b 1) (b' 1))(h2:Le (b 2) (b' 2))(h3:Le (b 3) (b' 3)):Le (.fn f 0 a 4 b) (.fn f 0 a' 4 b'):=Le.fn (fun j hj=>absurd hj (Nat.not_lt_zero j)) (fun j hj=>match j,hj with|0,_=>h0|1,_=>h1|2,_=>h2|3,_=>h3)
theorem xb {f:Nat}{a b a' b':Nat->AV}(h0:Le (b 0) (b' 0))(h1:Le (b 1) (b' 1))(h2:Le (b 2) (b' 2))(h3:Le (b 3) (b' 3))(h4:Le (b 4) (b' 4)):Le (.fn f 0 a 5 b) (.fn f 0 a' 5 b'):=Le.fn (fun j hj=>absurd hj (Nat.not_lt_zero j)) (fun j hj=>match j,hj with|0,_=>h0|1,_=>h1|2,_=>h2|3,_=>h3|4,_=>h4)
theorem fnd {p:Prop}(h:p:=by repeat' first|exact trivial|exact AO|exact AM _|exact bp (by repeat' first|exact trivial|refine⟨?_,?_⟩)|exact bO (by repeat' first|exact trivial|refine⟨?_,?_⟩)|exact⟨rfl,Nat.le_refl _,fun j hj=>(by first|exact bp (by first|exact trivial|apply dZ|apply aZ|apply fF|apply ls|apply rj|apply rl|apply rm|apply rn|apply lu|apply f7|apply nS|apply ro|apply rq|apply lv|apply nT|apply rr|apply rt|apply ru)|exact AN (fG rfl).symm|exact AN (cz rfl).symm|exact AN (b9 rfl).symm|exact AN (gL rfl).symm|exact AN (dt rfl).symm|exact AN (rx rfl).symm|exact AN (ry rfl).symm|exact AN (rz rfl).symm|exact AN (gM rfl).symm|exact AN (rA rfl).symm|exact AN (lw rfl).symm|exact AN (iB rfl).symm|exact AN (rB rfl).symm|exact AN (iC rfl).symm|exact AN (rC rfl).symm)⟩|exact⟨rfl,Nat.le_refl _,fun j hj=>(by first|exact bO (by first|exact trivial|apply dZ|apply aZ|apply fF|apply ls|apply rj|apply rl|apply rm|apply rn|apply lu|apply f7|apply nS|apply ro|apply rq|apply lv|apply nT|apply rr|apply rt|apply ru)|exact AN (fG rfl)|exact AN (cz rfl)|exact AN (b9 rfl)|exact AN (gL rfl)|exact AN (dt rfl)|exact AN (rx rfl)|exact AN (ry rfl)|exact AN (rz rfl)|exact AN (gM rfl)|exact AN (rA rfl)|exact AN (lw rfl)|exact AN (iB rfl)|exact AN (rB rfl)|exact AN (iC rfl)|exact AN (rC rfl))⟩|refine wO ?_|refine wR ?_ ?_|refine wU ?_ ?_ ?_|refine wP ?_|refine wS ?_ ?_|refine wV ?_ ?_ ?_|refine wQ ?_|refine wT ?_ ?_|refine wW ?_ ?_ ?_|exact wX|refine wY ?_|refine wZ ?_ ?_|refine w9 ?_ ?_ ?_|refine xa ?_ ?_ ?_ ?_|refine xb ?_ ?_ ?_ ?_ ?_|exact rfl|omega|refine⟨?_,?_⟩):p:=h
theorem krf {p:Prop}(h:p:=by first|kernel_rfl|(show _=_;kernel_rfl)):p:=h
theorem doS {f:FuncId}{args args0:List AV}{hp hp0 hp0' hp':List AObj}{g:R.σ}{oc oc0:Oc}(ids:List Nat)(n:Nat)(h:∀(R:Res) (g:R.σ),Does P R f args0 hp0 g oc0 hp0' g)(hn:hp.length=n:=by rfl)(hlt:bF ids n=true:=by rfl)(hnd:cN ids=true:=by rfl)
  (hob:dd (au ids n) hp ids hp0:=by exact fnd) (hlive:dE hp0:=by exact fnd)
  (e1:leL args (args0.map (aI (au ids n))):=by exact fnd) (e2:jD (iu (au (ids++rng (hp0'.length-ids.length) n) (n+(hp0'.length-ids.length))) oc0) oc:=by exact fnd)
  (e3:leH (cy (au (ids++rng (hp0'.length-ids.length) n) (n+(hp0'.length-ids.length))) ids hp0' (bY ids hp)) hp':=by exact fnd):Does P R f args hp g oc hp' g:=
 fB ids n h hn hlt hnd hob hlive e1 e2 e3
theorem doT {T:Mem->Prop}[hT:Tab T R]{f:FuncId}{args args0:List AV}{hp hp0 hp0' hp':List AObj}{g:R.σ}{oc oc0:Oc}(ids:List Nat)(n:Nat)(h:∀(R:Res),Tab T R->∀g:R.σ,Does P R f args0 hp0 g oc0 hp0' g)(hn:hp.length=n:=by rfl)(hlt:bF ids n=true:=by rfl)(hnd:cN ids=true:=by rfl)
  (hob:dd (au ids n) hp ids hp0:=by exact fnd) (hlive:dE hp0:=by exact fnd)
  (e1:leL args (args0.map (aI (au ids n))):=by exact fnd) (e2:jD (iu (au (ids++rng (hp0'.length-ids.length) n) (n+(hp0'.length-ids.length))) oc0) oc:=by exact fnd)
  (e3:leH (cy (au (ids++rng (hp0'.length-ids.length) n) (n+(hp0'.length-ids.length))) ids hp0' (bY ids hp)) hp':=by exact fnd):Does P R f args hp g oc hp' g:=
 el hT ids n h hn hlt hnd hob hlive e1 e2 e3
theorem toS {k0:Nat}{s s':St R.σ}(ids:List Nat)(n:Nat)(hfr:kT (au ids n) s.fr s'.fr:=by exact fnd)(hob:dd (au ids n) s.hp ids s'.hp:=by exact fnd)(hn:s.hp.length=n:=by rfl)(hlt:bF ids n=true:=by rfl)(hnd:cN ids=true:=by rfl)(hk:jx k0 0 ids=true:=by rfl)(hg:s'.g=s.g:=by rfl):To R k0 s s':=
 ej ids n hn hlt hnd hk hg hfr hob
theorem toL {k0:Nat}{s s':St R.σ}(h1:jr s.fr s'.fr:=by exact fnd)(h2:leH s.hp s'.hp:=by exact fnd)(hg:s'.g=s.g:=by rfl):To R k0 s s':=jt h1 h2 hg
theorem spW {f:FuncId}{args:List AV}{hp hp':List AObj}{g g':R.σ}{oc:Oc}{nt:Nat}{rs:List ResultVar}{k0:Nat}
  (h:Wp P R nt k0 .top (az P f) [] (bK P R k0 rs oc hp' g') ⟨cj 0 args,hp,g⟩) (hb:fy P f args.length=true:=by kernel_rfl) (hnt:bC P f=nt:=by kernel_rfl) (hrs:cG P f=rs:=by kernel_rfl) (hk:hp.length=k0:=by rfl):Does P R f args hp g oc hp' g':=
 dN hb hnt hrs hk h
section
variable {nt k0:Nat}{r:Rd}{b:Code}{Q:AEx->St R.σ->Prop}
theorem vcR {p:List Nat}{s:St R.σ}(cuts:List (List Nat))(keep:Nat->List Nat)(orc:Nat->List (Nat × ROrc R.σ))(q:(AEx->St R.σ->Prop)->Prop)(h:q Q)(e:∀Q,vc P R nt k0 r b cuts keep orc Q 1000 (.at_ p []) s=q Q:=by intro _;kernel_rfl):Wp P R nt k0 r b p Q s:=
 vcQ cuts keep orc q e h
end
abbrev WpC (P:Program)(R:Res)(nt k0 f:Nat)(p:List Nat)(Q:AEx->St R.σ->Prop)(ks:List Kont)(s:St R.σ):Prop:=Wp P R nt k0 Rd.top (az P f) p (aV P R nt k0 Rd.top (az P f) Q ks) s
abbrev Flw (P:Program):Prop:=Tables.follows P.toTables Departure.mixedOrders=true
end Go.Avm
namespace Go.Avm.Pack
open Go Go.Avm Go.Proofs
open Go.IntKind (i64 u64)
open Go.Avm.AV (int bool any fz fp sl ow ref fn ifc val agg tup)
open Go.Avm.AObj (cells dead)
open Go.Avm.Oc (ret)
set_option maxRecDepth 4000
structure Lit where
 atom:Int
 neg:Bool
 deriving Inhabited,DecidableEq
instance:Inhabited Fz:=⟨.nil⟩
structure KL (U:Type) where
 l:List U
 k:Fz
 deriving Inhabited
structure Rule where
 head:Int
 body:KL Lit
 deriving Inhabited
structure Prg where
 atoms:Int
 rules:KL Rule
 deriving Inhabited
structure Step where
 rule:Int
 atoms:KL Int
 deriving Inhabited
def iE (r:Lit):Nat->AV:=nth [.int .i64 r.atom,.bool r.neg]
def ca (r:Lit):AV:=.agg 2 (nth [.int .i64 r.atom,.bool r.neg])
def ap (x:KL Lit):AV:=.fz x.k 2 x.l.length (fun i=>iE (x.l.getD i default))
def ah (x:KL Int):AV:=.fz x.k 1 x.l.length (fun i _=>.int .i64 (x.l.getD i 0))
def br (r:Rule):Nat->AV:=nth [.int .i64 r.head,ap r.body]
def bU (r:Rule):AV:=.agg 2 (nth [.int .i64 r.head,ap r.body])
def ae (x:KL Rule):AV:=.fz x.k 2 x.l.length (fun i=>br (x.l.getD i default))
def aw (p:Prg):AV:=.agg 2 (nth [.int .i64 p.atoms,ae p.rules])
def eF (s:Step):Nat->AV:=nth [.int .i64 s.rule,ah s.atoms]
def bm (s:Step):AV:=.agg 2 (nth [.int .i64 s.rule,ah s.atoms])
def ax (x:KL Step):AV:=.fz x.k 2 x.l.length (fun i=>eF (x.l.getD i default))
def du (n:Nat)(q:Nat->KL Int):AV:=.fz .auto 1 n (fun i _=>ah (q i))
theorem nT (r:Lit):Below 0 (ca r):=⟨⟨trivial,trivial⟩,trivial⟩
theorem lv (r:Rule):Below 0 (bU r):=⟨⟨trivial,trivial⟩,trivial⟩
theorem rt (r:Step):Below 0 (bm r):=⟨⟨trivial,trivial⟩,trivial⟩
theorem dv (R:Res)(n lo hi:Int)(hp:List AObj)(g:R.σ):Does Tryd.prog R 58 [.int .i64 n,.int .i64 lo,.int .i64 hi] hp g (.ret (.bool (decide (lo<=n/\n<=hi)))) hp g:=by
 refine bN (fun R g=>?_) (by exact⟨trivial,trivial,trivial,trivial⟩) R hp g
 refine spW (nt:=15) (rs:=[.tmp 6]) (k0:=0) ?_
 refine vcR [] (lkL [(0,[0,1,2]),(1,[6])]) (fun _=>[]) (fun (Q:AEx->St R.σ->Prop)=>Q AEx.ret (St.mk [(6,AV.bool (bif decide (n >= lo) then decide (n<=hi) else false))] [] g)) (?_)
 refine(av (aX _ _ rfl trivial rfl rfl rfl) (AN ?_))
 show(AV.bool (bif decide (n >= lo) then decide (n<=hi) else false))=_
 show AV.bool _=_
 by_cases h:lo<=n <;> simp[h]
theorem nU (R:Res)(n lo hi:Int)(hp:List AObj)(g:R.σ):Does Tryd.prog R 62 [.int .i64 n,.int .i64 lo,.int .i64 hi] hp g (.ret (.bool (decide (lo<=n/\n<=hi)))) hp g:=by
 refine bN (fun R g=>?_) (by exact⟨trivial,trivial,trivial,trivial⟩) R hp g
 refine spW (nt:=15) (rs:=[.tmp 6]) (k0:=0) ?_
 refine vcR [] (lkL [(0,[0,1,2]),(1,[6])]) (fun _=>[]) (fun (Q:AEx->St R.σ->Prop)=>Q AEx.ret (St.mk [(6,AV.bool (bif decide (n >= lo) then decide (n<=hi) else false))] [] g)) (?_)
 refine(av (aX _ _ rfl trivial rfl rfl rfl) (AN ?_))
 show(AV.bool (bif decide (n >= lo) then decide (n<=hi) else false))=_
 show AV.bool _=_
 by_cases h:lo<=n <;> simp[h]
def aC {U:Type}(q:U->Bool):List U->Nat->Int
 |[],_=> -1
 |x::r,i=>if q x then i else aC q r (i+1)
theorem lx {U:Type}(q:U->Bool):∀(l:List U) (i:Nat),decide (aC q l i >= 0)=l.any q:=by
 intro l
 induction l with
 |nil=>intro i;simp[aC]
 |cons x r ih=>
  intro i
  unfold aC
  cases hq:q x with
  |true=>simp[hq]
  |false=>simp only[List.any_cons,hq,Bool.false_or];exact ih (i+1)
theorem eG {U:Type}(l:List U)(d:U){i:Nat}(h:i<l.length):l.drop i=l.getD i d::l.drop (i+1):=by
 rw[List.drop_eq_getElem_cons h]
 simp[List.getD,h]
theorem bx {U:Type}(l:List U)(d:U){i:Nat}(h:i<l.length):l.getD i d∈l:=by
 simp[List.getD,h]
theorem xd (R:Res)(l:KL Lit)(u:Value)(q:Lit->Bool)(g:R.σ)(hl:l.l.length<1000000)
  (hu:∀r,r∈l.l->∀hp,VDoes Tryd.prog R u [ca r] hp g (.ret (.bool (q r))) hp g) :
  Does Tryd.prog R 94 [ap l,.val u] [] g (.ret (.int .i64 (aC q l.l 0))) [] g:=by
 refine spW (nt:=19) (rs:=[.tmp 4]) (k0:=0) ?_
 refine vcR [] (lkL [(0,[0,1]),(1,[0,1,7,8])]) (fun _=>[]) (fun (Q:AEx->St R.σ->Prop)=>WpC Tryd.prog R 19 0 94 [1,0,1,0] Q [Kont.blk 0,Kont.seq [1,1]] (St.mk [(0,ap l),(1,val u),(7,i6 (↑(List.length l.l):Int)),(8,i6 0)] [] g)) (?_)
 refine(bi krf (fun (i:Nat)=>⟨[(0,ap l),(1,val u),(7,i6 (l.l.length:Int)),(8,.int .i64 (i:Int))],[],g⟩) (fun (i:Nat)=>(i<=l.l.length/\aC q l.l 0=aC q (l.l.drop i) i)) (fun (i:Nat)=>(l.l.length-i)) 0 (aY ⟨AM _,AM _,AM _,(AN krf),trivial⟩ rfl rfl) ?_ (fun i hi=>?_))
 ·exact⟨Nat.zero_le _,rfl⟩
 ·obtain⟨h1,h2⟩:=hi
  refine vcR [] (lkL [(2,[0,1,7,8,9]),(3,[0,1,5,7,8]),(4,[0,1,5,7,8,16]),(5,[4]),(6,[0,1,7,8])]) (lkL [(4,[(5,ROrc.kcall (AV.bool (q (List.getD l.l i default))))])]) (fun Q=>(fun (u1:Int)=>(fun (u2:Int)=>(fun (u3:Lit)=>(decide (u2<u1)=true->(0<=u2/\u2<u1)/\2<=2/\VDoes Tryd.prog R u [ca u3] [] g (ret (AV.bool (q u3))) [] g/\(q u3=true->Q AEx.ret (St.mk [(4,i6 u2)] [] g))/\(q u3=false->(-9223372036854775808<=u2+1/\u2+1<=9223372036854775807)/\Q AEx.normal (St.mk [(0,ap l),(1,val u),(7,i6 u1),(8,i6 (u2+1))] [] g)))/\(decide (u2<u1)=false->Q (AEx.exit 0) (St.mk [(0,ap l),(1,val u),(7,i6 u1),(8,i6 u2),(9,AV.bool (decide (u2<u1)))] [] g))) (List.getD l.l i default)) ((↑i:Int))) ((↑(List.length l.l):Int))) ⟨fun c1=>have c1:(↑i:Int)<(↑(List.length l.l):Int):=(of_decide_eq_true c1);⟨omg,omg,(hu _ ?_ _),fun c2=>?_,fun c2=>⟨omg,?_⟩⟩,fun c1=>have c1:¬(↑i:Int)<(↑(List.length l.l):Int):=(of_decide_eq_false c1);?_⟩
  ·exact bx l.l default omg
  ·refine⟨_,A0 _,(av (aX _ _ rfl trivial rfl rfl rfl) (AN ?_))⟩
   show(i6 (↑i:Int))=_
   show AV.int _ _=AV.int _ _
   rw[h2,eG l.l default omg];unfold aC;rw[if_pos c2]
  ·refine(aW (i+1) (aY ⟨AM _,AM _,AM _,(AN krf),trivial⟩ rfl rfl) ?_ ?_)
   ·refine⟨omg,?_⟩
    rw[h2,eG l.l default omg];conv=>lhs;unfold aC
    rw[c2];rfl
   ·omega
  ·refine⟨_,A0 _,vcR [] (lkL [(7,[4])]) (fun _=>[]) (fun (Q:AEx->St R.σ->Prop)=>Q AEx.ret (St.mk [(4,i6 (-1))] [] g)) (?_)⟩
   refine(av (aX _ _ rfl trivial rfl rfl rfl) (AN ?_))
   show(i6 (-1))=_
   show AV.int _ _=AV.int _ _
   rw[h2,List.drop_eq_nil_of_le omg];rfl
theorem xe (R:Res)(l:KL Lit)(u:Value)(q:Lit->Bool)(g:R.σ)(hl:l.l.length<1000000)
  (hu:∀r,r∈l.l->∀hp,VDoes Tryd.prog R u [ca r] hp g (.ret (.bool (q r))) hp g) :
  Does Tryd.prog R 50 [ap l,.val u] [] g (.ret (.bool (l.l.any q))) [] g:=by
 refine spW (nt:=9) (rs:=[.tmp 4]) (k0:=0) ?_
 refine vcR [] (lkL [(0,[0,1]),(1,[4])]) (lkL [(1,[(2,ROrc.kcall (i6 (aC q l.l 0)))])]) (fun Q=>(true=true/\Does Tryd.prog R 94 [ap l,val u] [] g (ret (i6 (aC q l.l 0))) [] g)/\Q AEx.ret (St.mk [(4,AV.bool (decide (aC q l.l 0 >= 0)))] [] g)) ⟨⟨rfl,(xd _ _ _ _ _ omg (fun _ _ _=>hu _ omg _))⟩,?_⟩
 refine(av (aX _ _ rfl trivial rfl rfl rfl) (AN ?_))
 show(AV.bool (decide (aC q l.l 0 >= 0)))=_
 show AV.bool _=AV.bool _
 rw[lx]
theorem jT (R:Res)(l:KL Lit)(f na nb:Nat)(a b:Nat->AV)(q:Lit->Bool)(hp:List AObj)(g:R.σ)(hl:l.l.length<1000000)(hpl:cf Tryd.prog f=true)
  (h:∀r,r∈l.l->Does Tryd.prog R f (tab na 0 a++[ca r]++tab nb 0 b) hp g (.ret (.bool (q r))) hp g) :
  Does Tryd.prog R 50 [ap l,.fn f na a nb b] hp g (.ret (.bool (l.l.any q))) hp g:=
 kV (pre:=[ap l]) (D:=fun r=>r∈l.l) (args:=fun r=>[ca r]) (oc1:=fun r=>.ret (.bool (q r))) ⟨trivial,trivial⟩ hpl (fun r=>⟨nT r,trivial⟩) (fun _=>trivial) h
  (fun R' g' u hu=>xe R' l u q g' hl hu)
theorem rD (R:Res)(l:KL Rule)(u:Value)(q:Rule->Bool)(g:R.σ)(hl:l.l.length<1000000)
  (hu:∀r,r∈l.l->∀hp,VDoes Tryd.prog R u [bU r] hp g (.ret (.bool (q r))) hp g) :
  Does Tryd.prog R 112 [ae l,.val u] [] g (.ret (.int .i64 (aC q l.l 0))) [] g:=by
 refine spW (nt:=19) (rs:=[.tmp 4]) (k0:=0) ?_
 refine vcR [] (lkL [(0,[0,1]),(1,[0,1,7,8])]) (fun _=>[]) (fun (Q:AEx->St R.σ->Prop)=>WpC Tryd.prog R 19 0 112 [1,0,1,0] Q [Kont.blk 0,Kont.seq [1,1]] (St.mk [(0,ae l),(1,val u),(7,i6 (↑(List.length l.l):Int)),(8,i6 0)] [] g)) (?_)
 refine(bi krf (fun (i:Nat)=>⟨[(0,ae l),(1,val u),(7,i6 (l.l.length:Int)),(8,.int .i64 (i:Int))],[],g⟩) (fun (i:Nat)=>(i<=l.l.length/\aC q l.l 0=aC q (l.l.drop i) i)) (fun (i:Nat)=>(l.l.length-i)) 0 (aY ⟨AM _,AM _,AM _,(AN krf),trivial⟩ rfl rfl) ?_ (fun i hi=>?_))
 ·exact⟨Nat.zero_le _,rfl⟩
 ·obtain⟨h1,h2⟩:=hi
  refine vcR [] (lkL [(2,[0,1,7,8,9]),(3,[0,1,5,7,8]),(4,[0,1,5,7,8,16]),(5,[4]),(6,[0,1,7,8])]) (lkL [(4,[(5,ROrc.kcall (AV.bool (q (List.getD l.l i default))))])]) (fun Q=>(fun (u1:Int)=>(fun (u2:Int)=>(fun (u3:Rule)=>(decide (u2<u1)=true->(0<=u2/\u2<u1)/\2<=2/\VDoes Tryd.prog R u [bU u3] [] g (ret (AV.bool (q u3))) [] g/\(q u3=true->Q AEx.ret (St.mk [(4,i6 u2)] [] g))/\(q u3=false->(-9223372036854775808<=u2+1/\u2+1<=9223372036854775807)/\Q AEx.normal (St.mk [(0,ae l),(1,val u),(7,i6 u1),(8,i6 (u2+1))] [] g)))/\(decide (u2<u1)=false->Q (AEx.exit 0) (St.mk [(0,ae l),(1,val u),(7,i6 u1),(8,i6 u2),(9,AV.bool (decide (u2<u1)))] [] g))) (List.getD l.l i default)) ((↑i:Int))) ((↑(List.length l.l):Int))) ⟨fun c1=>have c1:(↑i:Int)<(↑(List.length l.l):Int):=(of_decide_eq_true c1);⟨omg,omg,(hu _ ?_ _),fun c2=>?_,fun c2=>⟨omg,?_⟩⟩,fun c1=>have c1:¬(↑i:Int)<(↑(List.length l.l):Int):=(of_decide_eq_false c1);?_⟩
  ·exact bx l.l default omg
  ·refine⟨_,A0 _,(av (aX _ _ rfl trivial rfl rfl rfl) (AN ?_))⟩
   show(i6 (↑i:Int))=_
   show AV.int _ _=AV.int _ _
   rw[h2,eG l.l default omg];unfold aC;rw[if_pos c2]
  ·refine(aW (i+1) (aY ⟨AM _,AM _,AM _,(AN krf),trivial⟩ rfl rfl) ?_ ?_)
   ·refine⟨omg,?_⟩
    rw[h2,eG l.l default omg];conv=>lhs;unfold aC
    rw[c2];rfl
   ·omega
  ·refine⟨_,A0 _,vcR [] (lkL [(7,[4])]) (fun _=>[]) (fun (Q:AEx->St R.σ->Prop)=>Q AEx.ret (St.mk [(4,i6 (-1))] [] g)) (?_)⟩
   refine(av (aX _ _ rfl trivial rfl rfl rfl) (AN ?_))
   show(i6 (-1))=_
   show AV.int _ _=AV.int _ _
   rw[h2,List.drop_eq_nil_of_le omg];rfl
theorem xf (R:Res)(l:KL Rule)(f na nb:Nat)(a b:Nat->AV)(q:Rule->Bool)(hp:List AObj)(g:R.σ)(hl:l.l.length<1000000)(hpl:cf Tryd.prog f=true)
  (h:∀r,r∈l.l->Does Tryd.prog R f (tab na 0 a++[bU r]++tab nb 0 b) hp g (.ret (.bool (q r))) hp g) :
  Does Tryd.prog R 112 [ae l,.fn f na a nb b] hp g (.ret (.int .i64 (aC q l.l 0))) hp g:=
 kV (pre:=[ae l]) (D:=fun r=>r∈l.l) (args:=fun r=>[bU r]) (oc1:=fun r=>.ret (.bool (q r))) ⟨trivial,trivial⟩ hpl (fun r=>⟨lv r,trivial⟩) (fun _=>trivial) h
  (fun R' g' u hu=>rD R' l u q g' hl hu)
theorem xg (R:Res)(l:KL Rule)(u:Value)(q:Rule->Bool)(g:R.σ)(hl:l.l.length<1000000)
  (hu:∀r,r∈l.l->∀hp,VDoes Tryd.prog R u [bU r] hp g (.ret (.bool (q r))) hp g) :
  Does Tryd.prog R 120 [ae l,.val u] [] g (.ret (.bool (l.l.any q))) [] g:=by
 refine spW (nt:=9) (rs:=[.tmp 4]) (k0:=0) ?_
 refine vcR [] (lkL [(0,[0,1]),(1,[4])]) (lkL [(1,[(2,ROrc.kcall (i6 (aC q l.l 0)))])]) (fun Q=>(true=true/\Does Tryd.prog R 112 [ae l,val u] [] g (ret (i6 (aC q l.l 0))) [] g)/\Q AEx.ret (St.mk [(4,AV.bool (decide (aC q l.l 0 >= 0)))] [] g)) ⟨⟨rfl,(rD _ _ _ _ _ omg (fun _ _ _=>hu _ omg _))⟩,?_⟩
 refine(av (aX _ _ rfl trivial rfl rfl rfl) (AN ?_))
 show(AV.bool (decide (aC q l.l 0 >= 0)))=_
 show AV.bool _=AV.bool _
 rw[lx]
theorem xh (R:Res)(l:KL Rule)(f na nb:Nat)(a b:Nat->AV)(q:Rule->Bool)(hp:List AObj)(g:R.σ)(hl:l.l.length<1000000)(hpl:cf Tryd.prog f=true)
  (h:∀r,r∈l.l->Does Tryd.prog R f (tab na 0 a++[bU r]++tab nb 0 b) hp g (.ret (.bool (q r))) hp g) :
  Does Tryd.prog R 120 [ae l,.fn f na a nb b] hp g (.ret (.bool (l.l.any q))) hp g:=
 kV (pre:=[ae l]) (D:=fun r=>r∈l.l) (args:=fun r=>[bU r]) (oc1:=fun r=>.ret (.bool (q r))) ⟨trivial,trivial⟩ hpl (fun r=>⟨lv r,trivial⟩) (fun _=>trivial) h
  (fun R' g' u hu=>xg R' l u q g' hl hu)
def em (p:Prg):Prop:=p.rules.l.length<1000000/\∀i,(p.rules.l.getD i default).body.l.length<1000000
def eo (n:Int)(l:Lit):Bool:=decide (0<=l.atom/\l.atom<=n-1)
def dF (n:Int)(r:Rule):Bool:=decide (0<=r.head/\r.head<=n-1)&&(decide (r.body.l.length<=4)&&r.body.l.all (eo n))
def aD (p:Prg):Bool:=decide (1<=p.atoms/\p.atoms<=24)&&(decide (p.rules.l.length<=40)&&p.rules.l.all (dF p.atoms))
theorem fH {U:Type}[Inhabited U]{l:List U}{q:U->Bool}:l.all q=true↔∀i,i<l.length->q (l.getD i default)=true:=by
 rw[List.all_eq_true]
 constructor
 ·intro h i hi
  exact h _ (bx l default hi)
 ·intro h a ha
  obtain⟨i,hi,rfl⟩:=List.getElem_of_mem ha
  have:=h i hi
  rwa [List.getD_eq_getElem?_getD,List.getElem?_eq_getElem hi,Option.getD_some] at this
theorem xi (R:Res)(p:Prg)(l:Lit)(g:R.σ)(hn : -1000000<=p.atoms/\p.atoms<=1000000):Does Tryd.prog R 59 [ca l,.ref 0 0] [cO 2 (nth [.int .i64 p.atoms,ae p.rules])] g (.ret (.bool (!eo p.atoms l))) [cO 2 (nth [.int .i64 p.atoms,ae p.rules])] g:=by
 refine spW (nt:=11) (rs:=[.tmp 3]) (k0:=1) ?_
 refine vcR [] (lkL [(0,[1,2]),(1,[3])]) (lkL [(1,[(5,ROrc.pcall (AV.bool (decide (0<=l.atom/\l.atom<=p.atoms-1))))])]) (fun Q=>(fun (u1:Int)=>1<=2/\1<=2/\(-9223372036854775808<=u1/\u1<=9223372036854775807)/\(∀(hp:List AObj) (g:R.σ),true=true/\Does Tryd.prog R 58 [i6 l.atom,i6 0,i6 u1] hp g (ret (AV.bool (decide (0<=l.atom/\l.atom<=u1)))) hp g)/\Q AEx.ret (St.mk [(3,AV.bool !decide (0<=l.atom/\l.atom<=u1))] [cO 2 (nth [i6 p.atoms,ae p.rules]),cO 2 (nth [i6 l.atom,AV.bool l.neg])] g)) (p.atoms-1)) ⟨omg,omg,omg,(fun _ _=>⟨rfl,(dv _ _ _ _ _ _)⟩),?_⟩
 refine(av (bZ 1 _ _ rfl trivial omg trivial ⟨(fun j hj=>match j,hj with|0,_=>trivial|1,_=>trivial ),trivial⟩ krf rfl rfl) (AN krf))
theorem ga (R:Res)(p:Prg)(hp:List AObj)(g:R.σ)(hs:em p):Does Tryd.prog R 16 [aw p] hp g (.ret (.int .i64 (if aD p then 0 else 2))) hp g:=by
 have w1:=hs.1
 refine bN (fun R g=>?_) (by exact⟨⟨⟨trivial,trivial⟩,trivial⟩,trivial⟩) R hp g
 refine spW (nt:=42) (rs:=[.tmp 2]) (k0:=0) ?_
 refine vcR [] (lkL [(0,[1]),(1,[1,14]),(2,[2]),(3,[1,16,17,18])]) (lkL [(1,[(2,ROrc.pcall (AV.bool (decide (1<=p.atoms/\p.atoms<=24))))])]) (fun Q=>(fun (u1:Int)=>(fun (u2:Bool)=>(fun (u3:AObj)=>1<=2/\(∀(hp:List AObj) (g:R.σ),true=true/\Does Tryd.prog R 58 [i6 p.atoms,i6 1,i6 24] hp g (ret (AV.bool u2)) hp g)/\((!!u2)=true->2<=2)/\((bif !u2 then true else decide (u1 > 40))=true->Q AEx.ret (St.mk [(2,i6 2)] [u3] g))/\((bif !u2 then true else decide (u1 > 40))=false->2<=2/\WpC Tryd.prog R 42 0 16 [1,1,0,1,0] Q [Kont.blk 0,Kont.seq [1,1,1]] (St.mk [(1,ref 0 0),(16,ae p.rules),(17,i6 u1),(18,i6 0)] [u3] g))) (cO 2 (nth [i6 p.atoms,ae p.rules]))) (decide (1<=p.atoms/\p.atoms<=24))) ((↑(List.length p.rules.l):Int))) ⟨omg,(fun _ _=>⟨rfl,(dv _ _ _ _ _ _)⟩),omg,fun c1=>have c1:¬(1<=p.atoms/\p.atoms<=24)∨(↑(List.length p.rules.l):Int) > 40:=((ek c1).imp (fun h=>(of_decide_eq_false ((Bool.not_eq_true' _).mp h))) (fun h=>(of_decide_eq_true h)));?_,fun c1=>have c1:(1<=p.atoms/\p.atoms<=24)/\¬(↑(List.length p.rules.l):Int) > 40:=⟨(of_decide_eq_true ((Bool.not_eq_false' _).mp (bQ c1).1)),(of_decide_eq_false (bQ c1).2)⟩;⟨omg,?_⟩⟩
 ·refine(av (bE _ _ rfl trivial trivial rfl) (AN ?_))
  show(i6 2)=_
  have:aD p=false:=by
   unfold aD
   rcases c1 with h|h
   ·rw[decide_eq_false h];rfl
   ·rw[show decide (p.rules.l.length<=40)=false from decide_eq_false omg];simp
  rw[this]
  rfl
 ·have hc:=c1
  refine(bi krf (fun (i:Nat)=>⟨[(1,ref 0 0),(16,ae p.rules),(17,i6 (p.rules.l.length:Int)),(18,.int .i64 i)],[cO 2 (nth [i6 p.atoms,ae p.rules])],g⟩) (fun (i:Nat)=>(i<=p.rules.l.length/\∀j,j<i->dF p.atoms (p.rules.l.getD j default)=true)) (fun (i:Nat)=>(p.rules.l.length-i)) 0 (aY ⟨AM _,AM _,AM _,(AN krf),trivial⟩ rfl rfl) ?_ (fun i hi=>?_))
  ·exact⟨Nat.zero_le _,fun j hj=>absurd hj (Nat.not_lt_zero _)⟩
  ·obtain⟨h1,h2⟩:=hi
   have w2:=hs.2 i
   refine vcR [] (lkL [(4,[1,16,17,18,19]),(5,[1,4,16,17,18]),(6,[1,16,17,18,40]),(7,[2]),(8,[1,16,17,18])]) (lkL [(5,[(3,ROrc.val (Orc.obj (nth [i6 (List.getD p.rules.l i default).head,ap (List.getD p.rules.l i default).body])))]),(6,[(5,ROrc.pcall (AV.bool (decide (0<=(List.getD p.rules.l i default).head/\(List.getD p.rules.l i default).head<=p.atoms-1)))),(17,ROrc.kcall (AV.bool (List.any (List.getD p.rules.l i default).body.l fun (r:Lit)=> !eo p.atoms r)))])]) (fun Q=>(fun (u1:Rule)=>(fun (u2:Bool)=>(fun (u3:List AObj)=>(fun (u4:Int)=>(fun (u5:Int)=>(fun (u6:Bool)=>(fun (u7:Int)=>(decide (u5<u4)=true->(0<=u5/\u5<u4)/\2<=2/\2<=2/\(∀(c:Nat),c<2->nth [i6 u1.head,ap u1.body] c=ao (nth [i6 0,fz Fz.nil 0 0 fun x x_1=>any]) 0 2 (List.brecOn (motive:=fun (x:List AV)=>Nat->AV) [i6 u1.head,ap u1.body] nth._f) c)/\1<=2/\1<=2/\(-9223372036854775808<=u7/\u7<=9223372036854775807)/\(∀(hp:List AObj) (g:R.σ),true=true/\Does Tryd.prog R 58 [i6 u1.head,i6 0,i6 u7] hp g (ret (AV.bool (decide (0<=u1.head/\u1.head<=u7)))) hp g)/\((!!decide (0<=u1.head/\u1.head<=u7))=true->2<=2)/\((!u2)=true->2<=2)/\((!u2)=true->true=true/\Does Tryd.prog R 50 [ap u1.body,fn 59 0 (nth []) 1 (nth [ref 0 0])] u3 g (ret (AV.bool u6)) u3 g)/\((bif u2 then true else u6)=true->Q AEx.ret (St.mk [(2,i6 2)] u3 g))/\((bif u2 then true else u6)=false->(-9223372036854775808<=u5+1/\u5+1<=9223372036854775807)/\Q AEx.normal (St.mk [(1,ref 0 0),(16,ae p.rules),(17,i6 u4),(18,i6 (u5+1))] u3 g)))/\(decide (u5<u4)=false->Q (AEx.exit 0) (St.mk [(1,ref 0 0),(16,ae p.rules),(17,i6 u4),(18,i6 u5),(19,AV.bool (decide (u5<u4)))] [cO 2 (nth [i6 p.atoms,ae p.rules])] g))) (p.atoms-1)) (List.any u1.body.l fun (r:Lit)=> !eo p.atoms r)) ((↑i:Int))) ((↑(List.length p.rules.l):Int))) ([cO 2 (nth [i6 p.atoms,ae p.rules]),cO 2 (nth [i6 u1.head,ap u1.body])])) (bif !decide (0<=u1.head/\u1.head<=p.atoms-1) then true else decide ((↑(List.length u1.body.l):Int) > 4))) (List.getD p.rules.l i default)) ⟨fun c1=>have c1:(↑i:Int)<(↑(List.length p.rules.l):Int):=(of_decide_eq_true c1);⟨omg,omg,omg,(fun c hc=>match c,hc with|0,_=>krf|1,_=>krf ),omg,omg,omg,(fun _ _=>⟨rfl,(dv _ _ _ _ _ _)⟩),omg,omg,(fun hgd=>⟨rfl,(jT _ _ _ _ _ _ _ _ _ _ omg krf (fun r _=>(doS [0] 2 (fun R g=>xi R (p) (r) g omg))))⟩),fun c2=>have c2:(¬(0<=(List.getD p.rules.l i default).head/\(List.getD p.rules.l i default).head<=p.atoms-1)∨(↑(List.length (List.getD p.rules.l i default).body.l):Int) > 4)∨(List.any (List.getD p.rules.l i default).body.l fun (r:Lit)=> !eo p.atoms r)=true:=((ek c2).imp (fun h=>((ek h).imp (fun h=>(of_decide_eq_false ((Bool.not_eq_true' _).mp h))) (fun h=>(of_decide_eq_true h)))) (fun h=>h));?_,fun c2=>have c2:((0<=(List.getD p.rules.l i default).head/\(List.getD p.rules.l i default).head<=p.atoms-1)/\¬(↑(List.length (List.getD p.rules.l i default).body.l):Int) > 4)/\(List.any (List.getD p.rules.l i default).body.l fun (r:Lit)=> !eo p.atoms r)=false:=⟨⟨(of_decide_eq_true ((Bool.not_eq_false' _).mp (bQ (bQ c2).1).1)),(of_decide_eq_false (bQ (bQ c2).1).2)⟩,(bQ c2).2⟩;⟨omg,?_⟩⟩,fun c1=>have c1:¬(↑i:Int)<(↑(List.length p.rules.l):Int):=(of_decide_eq_false c1);?_⟩
   ·refine⟨_,A0 _,(av (bE _ _ rfl trivial trivial rfl) (AN ?_))⟩
    show(i6 2)=_
    have:aD p=false:=by
     cases hb:aD p with
     |false=>rfl
     |true=>
      exfalso
      unfold aD at hb
      simp only[Bool.and_eq_true] at hb
      have:=fH.1 hb.2.2 i omg
      unfold dF at this
      simp only[Bool.and_eq_true,decide_eq_true_eq] at this
      rcases c2 with(h|h)|h
      ·exact h this.1
      ·omega
      ·rw[List.any_eq_true] at h
       obtain⟨l,hl,hl2⟩:=h
       have:=List.all_eq_true.1 this.2.2 l hl
       rw[this] at hl2
       cases hl2
    rw[this]
    rfl
   ·refine(aW (i+1) (toS [0] 2) ?_ ?_)
    ·refine⟨omg,fun j hj=>?_⟩
     rcases Nat.lt_or_ge j i with h|h
     ·exact h2 j h
     ·have:j=i:=by omega
      subst this
      unfold dF
      rw[decide_eq_true c2.1.1,decide_eq_true (show(p.rules.l.getD j default).body.l.length<=4 by have:=c2.1.2;omega)]
      rw[show(p.rules.l.getD j default).body.l.all (eo p.atoms)=true from ?_]
      ·rfl
      ·rw[List.all_eq_true]
       intro l hl
       have:=List.any_eq_false.1 c2.2 l hl
       simpa using this
    ·omega
   ·refine⟨_,A0 _,vcR [] (lkL [(9,[2])]) (fun _=>[]) (fun (Q:AEx->St R.σ->Prop)=>Q AEx.ret (St.mk [(2,i6 0)] [cO 2 (nth [i6 p.atoms,ae p.rules])] g)) (?_)⟩
    refine(av (bE _ _ rfl trivial trivial rfl) (AN ?_))
    show(i6 0)=_
    have:aD p=true:=by
     unfold aD
     rw[decide_eq_true hc.1,decide_eq_true (show p.rules.l.length<=40 by have:=hc.2;omega)]
     exact fH.2 (fun j hj=>h2 j omg)
    rw[this]
    rfl
theorem xj (R:Res)(p:Prg)(hp:List AObj)(g:R.σ)(hs:em p):Does Tryd.prog R 18 [aw p] hp g (.ret (.bool (aD p))) hp g:=by
 have w1:=hs.1
 refine bN (fun R g=>?_) (by exact⟨⟨⟨trivial,trivial⟩,trivial⟩,trivial⟩) R hp g
 refine spW (nt:=59) (rs:=[.tmp 2]) (k0:=0) ?_
 refine vcR [] (lkL [(0,[1]),(1,[1,15]),(2,[2]),(3,[1,3])]) (lkL [(1,[(2,ROrc.pcall (AV.bool (decide (1<=p.atoms/\p.atoms<=24))))])]) (fun Q=>(fun (u1:Bool)=>(fun (u2:Int)=>(fun (u3:AObj)=>1<=2/\(∀(hp:List AObj) (g:R.σ),true=true/\Does Tryd.prog R 62 [i6 p.atoms,i6 1,i6 24] hp g (ret (AV.bool u1)) hp g)/\((!!u1)=true->2<=2)/\((bif !u1 then true else decide (u2 > 40))=true->Q AEx.ret (St.mk [(2,AV.bool false)] [u3] g))/\((bif !u1 then true else decide (u2 > 40))=false->WpC Tryd.prog R 59 0 18 [1,1,0,1,0] Q [Kont.blk 0,Kont.seq [1,1,1]] (St.mk [(1,ref 0 0),(3,i6 0)] [u3] g))) (cO 2 (nth [i6 p.atoms,ae p.rules]))) ((↑(List.length p.rules.l):Int))) (decide (1<=p.atoms/\p.atoms<=24))) ⟨omg,(fun _ _=>⟨rfl,(nU _ _ _ _ _ _)⟩),omg,fun c1=>have c1:¬(1<=p.atoms/\p.atoms<=24)∨(↑(List.length p.rules.l):Int) > 40:=((ek c1).imp (fun h=>(of_decide_eq_false ((Bool.not_eq_true' _).mp h))) (fun h=>(of_decide_eq_true h)));?_,fun c1=>have c1:(1<=p.atoms/\p.atoms<=24)/\¬(↑(List.length p.rules.l):Int) > 40:=⟨(of_decide_eq_true ((Bool.not_eq_false' _).mp (bQ c1).1)),(of_decide_eq_false (bQ c1).2)⟩;?_⟩
 ·refine(av (bE _ _ rfl trivial trivial rfl) (AN ?_))
  show(AV.bool false)=_
  show AV.bool false=_
  congr 1
  symm
  unfold aD
  rcases c1 with h|h
  ·rw[decide_eq_false h];rfl
  ·rw[show decide (p.rules.l.length<=40)=false from decide_eq_false omg];simp
 ·have hc:=c1
  refine(bi krf (fun (i:Nat)=>⟨[(1,ref 0 0),(3,.int .i64 i)],[cO 2 (nth [i6 p.atoms,ae p.rules])],g⟩) (fun (i:Nat)=>(i<=p.rules.l.length/\∀j,j<i->dF p.atoms (p.rules.l.getD j default)=true)) (fun (i:Nat)=>(p.rules.l.length-i)) 0 (aY ⟨AM _,(AN krf),trivial⟩ rfl rfl) ?_ (fun i hi=>?_))
  ·exact⟨Nat.zero_le _,fun j hj=>absurd hj (Nat.not_lt_zero _)⟩
  ·obtain⟨h1,h2⟩:=hi
   have w2:=hs.2 i
   have key:i<p.rules.l.length->aD p=true->dF p.atoms (p.rules.l.getD i default)=true:=fun hi hb=>by
    unfold aD at hb
    simp only[Bool.and_eq_true] at hb
    exact fH.1 hb.2.2 i hi
   refine vcR [] (lkL [(4,[1,3,20]),(6,[1,3,4]),(7,[1,3,4,40]),(8,[2]),(9,[1,3,4,5])]) (lkL [(6,[(6,ROrc.val (Orc.obj (nth [i6 (List.getD p.rules.l i default).head,ap (List.getD p.rules.l i default).body])))]),(7,[(5,ROrc.pcall (AV.bool (decide (0<=(List.getD p.rules.l i default).head/\(List.getD p.rules.l i default).head<=p.atoms-1))))])]) (fun Q=>(fun (u1:Rule)=>(fun (u2:Int)=>(fun (u3:Bool)=>(fun (u4:List AObj)=>(fun (u5:Int)=>(fun (u6:Int)=>2<=2/\(decide (u6<u2)=true->2<=2/\(0<=u6/\u6<u2)/\2<=2/\2<=2/\(∀(c:Nat),c<2->nth [i6 u1.head,ap u1.body] c=ao (nth [i6 0,fz Fz.nil 0 0 fun x x_1=>any]) 0 2 (List.brecOn (motive:=fun (x:List AV)=>Nat->AV) [i6 u1.head,ap u1.body] nth._f) c)/\1<=2/\1<=2/\(-9223372036854775808<=p.atoms-1/\p.atoms-1<=9223372036854775807)/\(∀(hp:List AObj) (g:R.σ),true=true/\Does Tryd.prog R 62 [i6 u1.head,i6 0,i6 (p.atoms-1)] hp g (ret (AV.bool u3)) hp g)/\((!!u3)=true->2<=2)/\((bif !u3 then true else decide (u5 > 4))=true->Q AEx.ret (St.mk [(2,AV.bool false)] u4 g))/\((bif !u3 then true else decide (u5 > 4))=false->WpC Tryd.prog R 59 0 18 [1,1,0,1,0,0,1,0,0,1,1,1,0] Q [Kont.blk 2,Kont.blk 1,Kont.seq [1,1,0,1,0,0,1,1]] (St.mk [(1,ref 0 0),(3,i6 u6),(4,ref 1 0),(5,i6 0)] u4 g)))/\(decide (u6<u2)=false->Q (AEx.exit 0) (St.mk [(1,ref 0 0),(3,i6 u6),(20,AV.bool (decide (u6<u2)))] [cO 2 (nth [i6 p.atoms,ae p.rules])] g))) ((↑i:Int))) ((↑(List.length u1.body.l):Int))) ([cO 2 (nth [i6 p.atoms,ae p.rules]),cO 2 (nth [i6 u1.head,ap u1.body])])) (decide (0<=u1.head/\u1.head<=p.atoms-1))) ((↑(List.length p.rules.l):Int))) (List.getD p.rules.l i default)) ⟨omg,fun c1=>have c1:(↑i:Int)<(↑(List.length p.rules.l):Int):=(of_decide_eq_true c1);⟨omg,omg,omg,omg,(fun c hc=>match c,hc with|0,_=>krf|1,_=>krf ),omg,omg,omg,(fun _ _=>⟨rfl,(nU _ _ _ _ _ _)⟩),omg,fun c2=>have c2:¬(0<=(List.getD p.rules.l i default).head/\(List.getD p.rules.l i default).head<=p.atoms-1)∨(↑(List.length (List.getD p.rules.l i default).body.l):Int) > 4:=((ek c2).imp (fun h=>(of_decide_eq_false ((Bool.not_eq_true' _).mp h))) (fun h=>(of_decide_eq_true h)));?_,fun c2=>have c2:(0<=(List.getD p.rules.l i default).head/\(List.getD p.rules.l i default).head<=p.atoms-1)/\¬(↑(List.length (List.getD p.rules.l i default).body.l):Int) > 4:=⟨(of_decide_eq_true ((Bool.not_eq_false' _).mp (bQ c2).1)),(of_decide_eq_false (bQ c2).2)⟩;?_⟩,fun c1=>have c1:¬(↑i:Int)<(↑(List.length p.rules.l):Int):=(of_decide_eq_false c1);?_⟩
   ·refine⟨_,A0 _,(av (bE _ _ rfl trivial trivial rfl) (AN ?_))⟩
    show(AV.bool false)=_
    show AV.bool false=_
    congr 1
    symm
    cases hb:aD p with
    |false=>rfl
    |true=>
     exfalso
     have:=key omg hb
     unfold dF at this
     simp only[Bool.and_eq_true,decide_eq_true_eq] at this
     rcases c2 with h|h
     ·exact h this.1
     ·omega
   ·have hc2:=c2
    refine(bi krf (fun (k:Nat)=>⟨[(1,ref 0 0),(3,i6 (i:Int)),(4,ref 1 0),(5,.int .i64 k)],[cO 2 (nth [i6 p.atoms,ae p.rules]),cO 2 (nth [i6 (p.rules.l.getD i default).head,ap (p.rules.l.getD i default).body])],g⟩) (fun (k:Nat)=>(k<=(p.rules.l.getD i default).body.l.length/\∀j,j<k->eo p.atoms ((p.rules.l.getD i default).body.l.getD j default)=true)) (fun (k:Nat)=>((p.rules.l.getD i default).body.l.length-k)) 0 (aY ⟨AM _,AM _,AM _,(AN krf),trivial⟩ rfl rfl) ?_ (fun k hi=>?_))
    ·exact⟨Nat.zero_le _,fun j hj=>absurd hj (Nat.not_lt_zero _)⟩
    ·obtain⟨k1,k2⟩:=hi
     refine vcR [] (lkL [(10,[1,3,4,5,45]),(12,[1,3,4,5,58]),(13,[2]),(11,[1,3,4,5])]) (lkL [(12,[(9,ROrc.pcall (AV.bool (decide (0<=(List.getD (List.getD p.rules.l i default).body.l k default).atom/\(List.getD (List.getD p.rules.l i default).body.l k default).atom<=p.atoms-1))))])]) (fun Q=>(fun (u1:Int)=>(fun (u2:Int)=>(fun (u3:List AObj)=>(fun (u4:Int)=>(fun (u5:Int)=>(fun (u6:Bool)=>2<=2/\(decide (u4<u2)=true->Flw Tryd.prog/\2<=2/\(0<=u4/\u4<u2)/\1<=2/\1<=2/\(-9223372036854775808<=u5/\u5<=9223372036854775807)/\(∀(hp:List AObj) (g:R.σ),true=true/\Does Tryd.prog R 62 [i6 u1,i6 0,i6 u5] hp g (ret (AV.bool u6)) hp g)/\((!u6)=true->Q AEx.ret (St.mk [(2,AV.bool false)] u3 g))/\((!u6)=false->(-9223372036854775808<=u4+1/\u4+1<=9223372036854775807)/\Q AEx.normal (St.mk [(1,ref 0 0),(3,i6 (↑i:Int)),(4,ref 1 0),(5,i6 (u4+1))] u3 g)))/\(decide (u4<u2)=false->Q (AEx.exit 2) (St.mk [(1,ref 0 0),(3,i6 (↑i:Int)),(4,ref 1 0),(5,i6 u4),(45,AV.bool (decide (u4<u2)))] u3 g))) (decide (0<=u1/\u1<=u5))) (p.atoms-1)) ((↑k:Int))) ([cO 2 (nth [i6 p.atoms,ae p.rules]),cO 2 (nth [i6 (List.getD p.rules.l i default).head,ap (List.getD p.rules.l i default).body])])) ((↑(List.length (List.getD p.rules.l i default).body.l):Int))) ((List.getD (List.getD p.rules.l i default).body.l k default).atom)) ⟨omg,fun c1=>have c1:(↑k:Int)<(↑(List.length (List.getD p.rules.l i default).body.l):Int):=(of_decide_eq_true c1);⟨krf,omg,omg,omg,omg,omg,(fun _ _=>⟨rfl,(nU _ _ _ _ _ _)⟩),fun c2=>have c2:¬(0<=(List.getD (List.getD p.rules.l i default).body.l k default).atom/\(List.getD (List.getD p.rules.l i default).body.l k default).atom<=p.atoms-1):=(of_decide_eq_false ((Bool.not_eq_true' _).mp c2));?_,fun c2=>have c2:0<=(List.getD (List.getD p.rules.l i default).body.l k default).atom/\(List.getD (List.getD p.rules.l i default).body.l k default).atom<=p.atoms-1:=(of_decide_eq_true ((Bool.not_eq_false' _).mp c2));⟨omg,?_⟩⟩,fun c1=>have c1:¬(↑k:Int)<(↑(List.length (List.getD p.rules.l i default).body.l):Int):=(of_decide_eq_false c1);?_⟩
     ·refine⟨_,A0 _,_,A0 _,(av (bE _ _ rfl trivial trivial rfl) (AN ?_))⟩
      show(AV.bool false)=_
      show AV.bool false=_
      congr 1
      symm
      cases hb:aD p with
      |false=>rfl
      |true=>
       exfalso
       have:=key omg hb
       unfold dF at this
       simp only[Bool.and_eq_true] at this
       have:=fH.1 this.2.2 k omg
       unfold eo at this
       exact c2 (of_decide_eq_true this)
     ·refine(aW (k+1) (aY ⟨AM _,AM _,AM _,(AN krf),trivial⟩ rfl rfl) ?_ ?_)
      ·refine⟨omg,fun j hj=>?_⟩
       rcases Nat.lt_or_ge j k with h|h
       ·exact k2 j h
       ·have:j=k:=by omega
        subst this
        unfold eo
        exact decide_eq_true c2
      ·omega
     ·refine⟨_,A0 _,vcR [] (lkL [(5,[1,3])]) (fun _=>[]) (fun Q=>(-9223372036854775808<=(↑i:Int)+1/\(↑i:Int)+1<=9223372036854775807)/\Q AEx.normal (St.mk [(1,ref 0 0),(3,i6 ((↑i:Int)+1))] [cO 2 (nth [i6 p.atoms,ae p.rules]),cO 2 (nth [i6 (List.getD p.rules.l i default).head,ap (List.getD p.rules.l i default).body])] g)) ⟨omg,?_⟩⟩
      refine(aW (i+1) (toS [0] 2) ?_ ?_)
      ·refine⟨omg,fun j hj=>?_⟩
       rcases Nat.lt_or_ge j i with h|h
       ·exact h2 j h
       ·have:j=i:=by omega
        subst this
        unfold dF
        rw[decide_eq_true hc2.1,decide_eq_true (show(p.rules.l.getD j default).body.l.length<=4 by have:=hc2.2;omega)]
        exact fH.2 (fun q hq=>k2 q omg)
      ·omega
   ·refine⟨_,A0 _,vcR [] (lkL [(14,[2])]) (fun _=>[]) (fun (Q:AEx->St R.σ->Prop)=>Q AEx.ret (St.mk [(2,AV.bool true)] [cO 2 (nth [i6 p.atoms,ae p.rules])] g)) (?_)⟩
    refine(av (bE _ _ rfl trivial trivial rfl) (AN ?_))
    show(AV.bool true)=_
    show AV.bool true=_
    congr 1
    symm
    unfold aD
    rw[decide_eq_true hc.1,decide_eq_true (show p.rules.l.length<=40 by have:=hc.2;omega)]
    exact fH.2 (fun j hj=>h2 j omg)
def ep (p:Prg):Bool:=decide (p.rules.l.length<=41)&&p.rules.l.all (fun r=>decide (r.body.l.length<=5))
theorem rE (R:Res)(p:Prg)(hp:List AObj)(g:R.σ):Does Tryd.prog R 14 [aw p] hp g (.ret (.bool (ep p))) hp g:=by
 refine bN (fun R g=>?_) (by exact⟨⟨⟨trivial,trivial⟩,trivial⟩,trivial⟩) R hp g
 refine spW (nt:=23) (rs:=[.tmp 2]) (k0:=0) ?_
 refine vcR [] (lkL [(0,[1]),(1,[1,7]),(2,[2]),(3,[1,3])]) (fun _=>[]) (fun Q=>(fun (u1:Int)=>(fun (u2:AObj)=>2<=2/\(decide (u1 > 41)=true->Q AEx.ret (St.mk [(2,AV.bool false)] [u2] g))/\(decide (u1 > 41)=false->WpC Tryd.prog R 23 0 14 [1,1,0,1,0] Q [Kont.blk 0,Kont.seq [1,1,1]] (St.mk [(1,ref 0 0),(3,i6 0)] [u2] g))) (cO 2 (nth [i6 p.atoms,ae p.rules]))) ((↑(List.length p.rules.l):Int))) ⟨omg,fun c1=>have c1:(↑(List.length p.rules.l):Int) > 41:=(of_decide_eq_true c1);?_,fun c1=>have c1:¬(↑(List.length p.rules.l):Int) > 41:=(of_decide_eq_false c1);?_⟩
 ·refine(av (bE _ _ rfl trivial trivial rfl) (AN ?_))
  show(AV.bool false)=_
  show AV.bool false=_
  congr 1
  symm
  unfold ep
  rw[decide_eq_false omg]
  rfl
 ·have hc:=c1
  refine(bi krf (fun (i:Nat)=>⟨[(1,ref 0 0),(3,.int .i64 i)],[cO 2 (nth [i6 p.atoms,ae p.rules])],g⟩) (fun (i:Nat)=>(i<=p.rules.l.length/\∀j,j<i->(p.rules.l.getD j default).body.l.length<=5)) (fun (i:Nat)=>(p.rules.l.length-i)) 0 (aY ⟨AM _,(AN krf),trivial⟩ rfl rfl) ?_ (fun i hi=>?_))
  ·exact⟨Nat.zero_le _,fun j hj=>absurd hj (Nat.not_lt_zero _)⟩
  ·obtain⟨h1,h2⟩:=hi
   refine vcR [] (lkL [(4,[1,3,12]),(6,[1,3,22]),(7,[2]),(5,[1,3])]) (fun _=>[]) (fun Q=>(fun (u1:Int)=>(fun (u2:Int)=>(fun (u3:Int)=>(fun (u4:AObj)=>2<=2/\(decide (u3<u1)=true->2<=2/\(0<=u3/\u3<u1)/\1<=1/\(decide (u2 > 5)=true->Q AEx.ret (St.mk [(2,AV.bool false)] [u4] g))/\(decide (u2 > 5)=false->(-9223372036854775808<=u3+1/\u3+1<=9223372036854775807)/\Q AEx.normal (St.mk [(1,ref 0 0),(3,i6 (u3+1))] [u4] g)))/\(decide (u3<u1)=false->Q (AEx.exit 0) (St.mk [(1,ref 0 0),(3,i6 u3),(12,AV.bool (decide (u3<u1)))] [u4] g))) (cO 2 (nth [i6 p.atoms,ae p.rules]))) ((↑i:Int))) ((↑(List.length (List.getD p.rules.l i default).body.l):Int))) ((↑(List.length p.rules.l):Int))) ⟨omg,fun c1=>have c1:(↑i:Int)<(↑(List.length p.rules.l):Int):=(of_decide_eq_true c1);⟨omg,omg,omg,fun c2=>have c2:(↑(List.length (List.getD p.rules.l i default).body.l):Int) > 5:=(of_decide_eq_true c2);?_,fun c2=>have c2:¬(↑(List.length (List.getD p.rules.l i default).body.l):Int) > 5:=(of_decide_eq_false c2);⟨omg,?_⟩⟩,fun c1=>have c1:¬(↑i:Int)<(↑(List.length p.rules.l):Int):=(of_decide_eq_false c1);?_⟩
   ·refine⟨_,A0 _,(av (bE _ _ rfl trivial trivial rfl) (AN ?_))⟩
    show(AV.bool false)=_
    show AV.bool false=_
    congr 1
    symm
    cases hb:ep p with
    |false=>rfl
    |true=>
     exfalso
     unfold ep at hb
     simp only[Bool.and_eq_true] at hb
     have:=of_decide_eq_true (fH.1 hb.2 i omg)
     omega
   ·refine(aW (i+1) (aY ⟨AM _,(AN krf),trivial⟩ rfl rfl) ?_ ?_)
    ·refine⟨omg,fun j hj=>?_⟩
     rcases Nat.lt_or_ge j i with h|h
     ·exact h2 j h
     ·have:j=i:=by omega
      subst this
      omega
    ·omega
   ·refine⟨_,A0 _,vcR [] (lkL [(8,[2])]) (fun _=>[]) (fun (Q:AEx->St R.σ->Prop)=>Q AEx.ret (St.mk [(2,AV.bool true)] [cO 2 (nth [i6 p.atoms,ae p.rules])] g)) (?_)⟩
    refine(av (bE _ _ rfl trivial trivial rfl) (AN ?_))
    show(AV.bool true)=_
    show AV.bool true=_
    congr 1
    symm
    unfold ep
    rw[decide_eq_true omg]
    exact fH.2 (fun j hj=>decide_eq_true (h2 j omg))
theorem xk {p:Prg}(h:ep p=true):em p:=by
 unfold ep at h
 simp only[Bool.and_eq_true,decide_eq_true_eq] at h
 refine⟨omg,fun i=>?_⟩
 rcases Nat.lt_or_ge i p.rules.l.length with hi|hi
 ·have:=of_decide_eq_true (fH.1 h.2 i hi)
  omega
 ·rw[List.getD_eq_getElem?_getD,List.getElem?_eq_none hi]
  exact(by decide:(default:Rule).body.l.length<1000000)
theorem rF (R:Res)(p:Prg)(hp:List AObj)(g:R.σ):Does Tryd.prog R 35 [aw p] hp g (.ret (.bool (ep p&&aD p))) hp g:=by
 refine bN (fun R g=>?_) (by exact⟨⟨⟨trivial,trivial⟩,trivial⟩,trivial⟩) R hp g
 cases hs:ep p with
 |false=>
  refine spW (nt:=9) (rs:=[.tmp 2]) (k0:=0) ?_
  refine vcR [] (lkL [(0,[1]),(1,[2])]) (lkL [(1,[(1,ROrc.pcall (AV.bool false)),(4,ROrc.pcall (AV.bool (aD p)))])]) (fun Q=>2<=2/\(∀(hp:List AObj) (g:R.σ),true=true/\Does Tryd.prog R 14 [aw p] hp g (ret (AV.bool false)) hp g)/\(false=true->2<=2)/\(false=true->∀(hp:List AObj) (g:R.σ),true=true/\Does Tryd.prog R 18 [aw p] hp g (ret (AV.bool (aD p))) hp g)/\Q AEx.ret (St.mk [(2,AV.bool false)] [cO 2 (nth [i6 p.atoms,ae p.rules])] g)) ⟨omg,(fun _ _=>⟨rfl,(jJ hs (rE _ _ _ _))⟩),omg,(by intro h;simp at h <;> omega),?_⟩
  refine(av (bE _ _ rfl trivial trivial rfl) (AN krf))
 |true=>
  have hsm:=xk hs
  refine spW (nt:=9) (rs:=[.tmp 2]) (k0:=0) ?_
  refine vcR [] (lkL [(0,[1]),(1,[2])]) (lkL [(1,[(1,ROrc.pcall (AV.bool true)),(4,ROrc.pcall (AV.bool (aD p)))])]) (fun Q=>2<=2/\(∀(hp:List AObj) (g:R.σ),true=true/\Does Tryd.prog R 14 [aw p] hp g (ret (AV.bool true)) hp g)/\(true=true->2<=2)/\(true=true->∀(hp:List AObj) (g:R.σ),true=true/\Does Tryd.prog R 18 [aw p] hp g (ret (AV.bool (aD p))) hp g)/\Q AEx.ret (St.mk [(2,AV.bool (bif true then aD p else false))] [cO 2 (nth [i6 p.atoms,ae p.rules])] g)) ⟨omg,(fun _ _=>⟨rfl,(jJ hs (rE _ _ _ _))⟩),omg,(fun hgd=>(fun _ _=>⟨rfl,(xj _ _ _ _ omg)⟩)),?_⟩
  refine(av (bE _ _ rfl trivial trivial rfl) (AN krf))
theorem nV {U:Type}[DecidableEq U]{a b:List U}(d:U)(h:a.length=b.length)(h2:∀j,j<a.length->a.getD j d=b.getD j d):a=b:=
 List.ext_getElem h (fun j h3 h4=>by have:=h2 j h3;simpa[List.getD,h3,h4] using this)
theorem nW {U:Type}{a b:List U}{d:U}{j:Nat}(h:a.getD j d≠b.getD j d):a≠b:=fun e=>h (by rw[e])
theorem rG (R:Res)(a b:KL Int)(hp:List AObj)(g:R.σ)(hl:a.l.length<1000000):Does Tryd.prog R 33 [ah a,ah b] hp g (.ret (.bool (decide (a.l=b.l)))) hp g:=by
 refine bN (fun R g=>?_) (by exact⟨trivial,trivial,trivial⟩) R hp g
 refine spW (nt:=33) (rs:=[.tmp 4]) (k0:=0) ?_
 refine vcR [] (lkL [(0,[0,1]),(1,[0,1,5])]) (fun _=>[]) (fun (Q:AEx->St R.σ->Prop)=>WpC Tryd.prog R 33 0 33 [1,0,1,0] Q [Kont.blk 0,Kont.seq [1,1]] (St.mk [(0,ah a),(1,ah b),(5,i6 0)] [] g)) (?_)
 refine(bi krf (fun (i:Nat)=>⟨[(0,ah a),(1,ah b),(5,.int .i64 (i:Int))],[],g⟩) (fun (i:Nat)=>(i<=a.l.length/\∀j,j<i->a.l.getD j 0=b.l.getD j 0)) (fun (i:Nat)=>(a.l.length-i)) 0 (aY ⟨AM _,AM _,(AN krf),trivial⟩ rfl rfl) ?_ (fun i hi=>?_))
 ·exact⟨Nat.zero_le _,fun j hj=>absurd hj omg⟩
 ·obtain⟨h1,h2⟩:=hi
  refine vcR [] (lkL [(2,[0,1,5,16]),(4,[0,1,5,27]),(5,[4]),(3,[0,1,5])]) (fun _=>[]) (fun Q=>(fun (u1:Bool)=>(fun (u2:Int)=>(u1=true->Flw Tryd.prog/\(0<=u2/\u2<(↑(List.length a.l):Int))/\1<=1/\(0<=u2/\u2<(↑(List.length b.l):Int))/\1<=1/\((List.getD a.l i 0 != List.getD b.l i 0)=true->Q AEx.ret (St.mk [(4,AV.bool false)] [] g))/\((List.getD a.l i 0 != List.getD b.l i 0)=false->(-9223372036854775808<=u2+1/\u2+1<=9223372036854775807)/\Q AEx.normal (St.mk [(0,ah a),(1,ah b),(5,i6 (u2+1))] [] g)))/\(u1=false->Q (AEx.exit 0) (St.mk [(0,ah a),(1,ah b),(5,i6 u2),(16,AV.bool u1)] [] g))) ((↑i:Int))) (bif decide ((↑i:Int)<(↑(List.length a.l):Int)) then(↑(List.length a.l):Int)==(↑(List.length b.l):Int) else false)) ⟨fun c1=>have c1:(↑i:Int)<(↑(List.length a.l):Int)/\(↑(List.length a.l):Int)=(↑(List.length b.l):Int):=⟨(of_decide_eq_true (dO c1).1),(beq_iff_eq.mp (dO c1).2)⟩;⟨krf,omg,omg,omg,omg,fun c2=>have c2:¬List.getD a.l i 0=List.getD b.l i 0:=(bne_iff_ne.mp c2);?_,fun c2=>have c2:List.getD a.l i 0=List.getD b.l i 0:=(bne_eq_false_iff_eq.mp c2);⟨omg,?_⟩⟩,fun c1=>have c1:¬(↑i:Int)<(↑(List.length a.l):Int)∨¬(↑(List.length a.l):Int)=(↑(List.length b.l):Int):=((gH c1).imp (fun h=>(of_decide_eq_false h)) (fun h=>(beq_eq_false_iff_ne.mp h)));?_⟩
  ·refine⟨_,A0 _,(av (aX _ _ rfl trivial rfl rfl rfl) (AN ?_))⟩
   show(AV.bool false)=_
   congr 1
   have:a.l≠b.l:=nW (j:=i) (d:=0) c2
   simp[this]
  ·refine(aW (i+1) (aY ⟨AM _,AM _,(AN krf),trivial⟩ rfl rfl) ?_ ?_)
   ·refine⟨omg,fun j hj=>?_⟩
    rcases Nat.lt_or_ge j i with h|h
    ·exact h2 j h
    ·have:j=i:=by omega
     subst this;exact c2
   ·omega
  ·have c:=c1
   refine⟨_,A0 _,vcR [] (lkL [(6,[4])]) (fun _=>[]) (fun (Q:AEx->St R.σ->Prop)=>Q AEx.ret (St.mk [(4,AV.bool ((↑(List.length a.l):Int)==(↑(List.length b.l):Int)))] [] g)) (?_)⟩
   refine(av (aX _ _ rfl trivial rfl rfl rfl) (AN ?_))
   show(AV.bool ((↑(List.length a.l):Int)==(↑(List.length b.l):Int)))=_
   congr 1
   by_cases hab:a.l.length=b.l.length
   ·have:a.l=b.l:=nV 0 hab (fun j hj=>h2 j omg)
    simp[this]
   ·have:a.l≠b.l:=fun e=>hab (by rw[e])
    simp[this]
    omega
theorem xm (R:Res)(a b:KL Int)(hp:List AObj)(g:R.σ)(hl:a.l.length<1000000):Does Tryd.prog R 21 [ah a,ah b] hp g (.ret (.bool (decide (a.l=b.l)))) hp g:=by
 refine bN (fun R g=>?_) (by exact⟨trivial,trivial,trivial⟩) R hp g
 refine spW (nt:=33) (rs:=[.tmp 4]) (k0:=0) ?_
 refine vcR [] (lkL [(0,[0,1]),(1,[0,1,5])]) (fun _=>[]) (fun (Q:AEx->St R.σ->Prop)=>WpC Tryd.prog R 33 0 21 [1,0,1,0] Q [Kont.blk 0,Kont.seq [1,1]] (St.mk [(0,ah a),(1,ah b),(5,i6 0)] [] g)) (?_)
 refine(bi krf (fun (i:Nat)=>⟨[(0,ah a),(1,ah b),(5,.int .i64 (i:Int))],[],g⟩) (fun (i:Nat)=>(i<=a.l.length/\∀j,j<i->a.l.getD j 0=b.l.getD j 0)) (fun (i:Nat)=>(a.l.length-i)) 0 (aY ⟨AM _,AM _,(AN krf),trivial⟩ rfl rfl) ?_ (fun i hi=>?_))
 ·exact⟨Nat.zero_le _,fun j hj=>absurd hj omg⟩
 ·obtain⟨h1,h2⟩:=hi
  refine vcR [] (lkL [(2,[0,1,5,16]),(4,[0,1,5,27]),(5,[4]),(3,[0,1,5])]) (fun _=>[]) (fun Q=>(fun (u1:Bool)=>(fun (u2:Int)=>(u1=true->Flw Tryd.prog/\(0<=u2/\u2<(↑(List.length a.l):Int))/\1<=1/\(0<=u2/\u2<(↑(List.length b.l):Int))/\1<=1/\((List.getD a.l i 0 != List.getD b.l i 0)=true->Q AEx.ret (St.mk [(4,AV.bool false)] [] g))/\((List.getD a.l i 0 != List.getD b.l i 0)=false->(-9223372036854775808<=u2+1/\u2+1<=9223372036854775807)/\Q AEx.normal (St.mk [(0,ah a),(1,ah b),(5,i6 (u2+1))] [] g)))/\(u1=false->Q (AEx.exit 0) (St.mk [(0,ah a),(1,ah b),(5,i6 u2),(16,AV.bool u1)] [] g))) ((↑i:Int))) (bif decide ((↑i:Int)<(↑(List.length a.l):Int)) then(↑(List.length a.l):Int)==(↑(List.length b.l):Int) else false)) ⟨fun c1=>have c1:(↑i:Int)<(↑(List.length a.l):Int)/\(↑(List.length a.l):Int)=(↑(List.length b.l):Int):=⟨(of_decide_eq_true (dO c1).1),(beq_iff_eq.mp (dO c1).2)⟩;⟨krf,omg,omg,omg,omg,fun c2=>have c2:¬List.getD a.l i 0=List.getD b.l i 0:=(bne_iff_ne.mp c2);?_,fun c2=>have c2:List.getD a.l i 0=List.getD b.l i 0:=(bne_eq_false_iff_eq.mp c2);⟨omg,?_⟩⟩,fun c1=>have c1:¬(↑i:Int)<(↑(List.length a.l):Int)∨¬(↑(List.length a.l):Int)=(↑(List.length b.l):Int):=((gH c1).imp (fun h=>(of_decide_eq_false h)) (fun h=>(beq_eq_false_iff_ne.mp h)));?_⟩
  ·refine⟨_,A0 _,(av (aX _ _ rfl trivial rfl rfl rfl) (AN ?_))⟩
   show(AV.bool false)=_
   congr 1
   have:a.l≠b.l:=nW (j:=i) (d:=0) c2
   simp[this]
  ·refine(aW (i+1) (aY ⟨AM _,AM _,(AN krf),trivial⟩ rfl rfl) ?_ ?_)
   ·refine⟨omg,fun j hj=>?_⟩
    rcases Nat.lt_or_ge j i with h|h
    ·exact h2 j h
    ·have:j=i:=by omega
     subst this;exact c2
   ·omega
  ·have c:=c1
   refine⟨_,A0 _,vcR [] (lkL [(6,[4])]) (fun _=>[]) (fun (Q:AEx->St R.σ->Prop)=>Q AEx.ret (St.mk [(4,AV.bool ((↑(List.length a.l):Int)==(↑(List.length b.l):Int)))] [] g)) (?_)⟩
   refine(av (aX _ _ rfl trivial rfl rfl rfl) (AN ?_))
   show(AV.bool ((↑(List.length a.l):Int)==(↑(List.length b.l):Int)))=_
   congr 1
   by_cases hab:a.l.length=b.l.length
   ·have:a.l=b.l:=nV 0 hab (fun j hj=>h2 j omg)
    simp[this]
   ·have:a.l≠b.l:=fun e=>hab (by rw[e])
    simp[this]
    omega
def dw (s:Step):Int × List Int:=(s.rule,s.atoms.l)
theorem rH (R:Res)(a b:KL Step)(hp:List AObj)(g:R.σ)(hl:a.l.length<1000000)(ha:∀i,(a.l.getD i default).atoms.l.length<1000000):Does Tryd.prog R 20 [ax a,ax b] hp g (.ret (.bool (decide (a.l.map dw=b.l.map dw)))) hp g:=by
 have key:∀(l:List Step) i,i<l.length->(l.map dw).getD i (0,[])=dw (l.getD i default):=fun l i hi=>by
  rw[List.getD_eq_getElem?_getD,List.getElem?_map,List.getD_eq_getElem?_getD,List.getElem?_eq_getElem hi]
  rfl
 refine bN (fun R g=>?_) (by exact⟨trivial,trivial,trivial⟩) R hp g
 refine spW (nt:=49) (rs:=[.tmp 4]) (k0:=0) ?_
 refine vcR [] (lkL [(0,[0,1]),(1,[0,1,5])]) (fun _=>[]) (fun (Q:AEx->St R.σ->Prop)=>WpC Tryd.prog R 49 0 20 [1,0,1,0] Q [Kont.blk 0,Kont.seq [1,1]] (St.mk [(0,ax a),(1,ax b),(5,i6 0)] [] g)) (?_)
 refine(bi krf (fun (i:Nat)=>⟨[(0,ax a),(1,ax b),(5,.int .i64 (i:Int))],[],g⟩) (fun (i:Nat)=>(i<=a.l.length/\∀j,j<i->dw (a.l.getD j default)=dw (b.l.getD j default))) (fun (i:Nat)=>(a.l.length-i)) 0 (aY ⟨AM _,AM _,(AN krf),trivial⟩ rfl rfl) ?_ (fun i hi=>?_))
 ·exact⟨Nat.zero_le _,fun j hj=>absurd hj omg⟩
 ·obtain⟨h1,h2⟩:=hi
  have w:=ha i
  refine vcR [] (lkL [(2,[0,1,5,16]),(4,[0,1,5,43]),(5,[4]),(3,[0,1,5])]) (lkL [(4,[(22,ROrc.pcall (AV.bool (decide ((List.getD a.l i default).atoms.l=(List.getD b.l i default).atoms.l))))])]) (fun Q=>(fun (u1:Bool)=>(fun (u2:Bool)=>(fun (u3:KL Int)=>(fun (u4:KL Int)=>(fun (u5:Int)=>(u2=true->Flw Tryd.prog/\(0<=u5/\u5<(↑(List.length a.l):Int))/\1<=2/\(0<=u5/\u5<(↑(List.length b.l):Int))/\1<=2/\((!u1)=true->0<=u5/\u5<(↑(List.length a.l):Int))/\((!u1)=true->1<=1)/\((!u1)=true->0<=u5/\u5<(↑(List.length b.l):Int))/\((!u1)=true->1<=1)/\((!u1)=true->∀(hp:List AObj) (g:R.σ),true=true/\Does Tryd.prog R 33 [ah u3,ah u4] hp g (ret (AV.bool (decide (u3.l=u4.l)))) hp g)/\((bif u1 then true else !decide (u3.l=u4.l))=true->Q AEx.ret (St.mk [(4,AV.bool false)] [] g))/\((bif u1 then true else !decide (u3.l=u4.l))=false->(-9223372036854775808<=u5+1/\u5+1<=9223372036854775807)/\Q AEx.normal (St.mk [(0,ax a),(1,ax b),(5,i6 (u5+1))] [] g)))/\(u2=false->Q (AEx.exit 0) (St.mk [(0,ax a),(1,ax b),(5,i6 u5),(16,AV.bool u2)] [] g))) ((↑i:Int))) ((List.getD b.l i default).atoms)) ((List.getD a.l i default).atoms)) (bif decide ((↑i:Int)<(↑(List.length a.l):Int)) then(↑(List.length a.l):Int)==(↑(List.length b.l):Int) else false)) ((List.getD a.l i default).rule != (List.getD b.l i default).rule)) ⟨fun c1=>have c1:(↑i:Int)<(↑(List.length a.l):Int)/\(↑(List.length a.l):Int)=(↑(List.length b.l):Int):=⟨(of_decide_eq_true (dO c1).1),(beq_iff_eq.mp (dO c1).2)⟩;⟨krf,omg,omg,omg,omg,omg,omg,omg,omg,(fun hgd=>(fun _ _=>⟨rfl,(rG _ _ _ _ _ omg)⟩)),fun c2=>have c2:¬(List.getD a.l i default).rule=(List.getD b.l i default).rule∨¬(List.getD a.l i default).atoms.l=(List.getD b.l i default).atoms.l:=((ek c2).imp (fun h=>(bne_iff_ne.mp h)) (fun h=>(of_decide_eq_false ((Bool.not_eq_true' _).mp h))));?_,fun c2=>have c2:(List.getD a.l i default).rule=(List.getD b.l i default).rule/\(List.getD a.l i default).atoms.l=(List.getD b.l i default).atoms.l:=⟨(bne_eq_false_iff_eq.mp (bQ c2).1),(of_decide_eq_true ((Bool.not_eq_false' _).mp (bQ c2).2))⟩;⟨omg,?_⟩⟩,fun c1=>have c1:¬(↑i:Int)<(↑(List.length a.l):Int)∨¬(↑(List.length a.l):Int)=(↑(List.length b.l):Int):=((gH c1).imp (fun h=>(of_decide_eq_false h)) (fun h=>(beq_eq_false_iff_ne.mp h)));?_⟩
  ·refine⟨_,A0 _,(av (aX _ _ rfl trivial rfl rfl rfl) (AN ?_))⟩
   show(AV.bool false)=_
   congr 1
   have hab:a.l.length=b.l.length:=by omega
   have:a.l.map dw≠b.l.map dw:=nW (j:=i) (d:=(0,[])) (by
    rw[key _ _ omg,key _ _ omg]
    intro e
    have e1:=congrArg Prod.fst e
    have e2:=congrArg Prod.snd e
    rcases c2 with h|h
    ·exact h e1
    ·exact h e2)
   simp[this]
  ·refine(aW (i+1) (aY ⟨AM _,AM _,(AN krf),trivial⟩ rfl rfl) ?_ ?_)
   ·refine⟨omg,fun j hj=>?_⟩
    rcases Nat.lt_or_ge j i with h|h
    ·exact h2 j h
    ·have:j=i:=by omega
     subst this
     exact Prod.ext c2.1 c2.2
   ·omega
  ·have c:=c1
   refine⟨_,A0 _,vcR [] (lkL [(6,[4])]) (fun _=>[]) (fun (Q:AEx->St R.σ->Prop)=>Q AEx.ret (St.mk [(4,AV.bool ((↑(List.length a.l):Int)==(↑(List.length b.l):Int)))] [] g)) (?_)⟩
   refine(av (aX _ _ rfl trivial rfl rfl rfl) (AN ?_))
   show(AV.bool ((↑(List.length a.l):Int)==(↑(List.length b.l):Int)))=_
   congr 1
   by_cases hab:a.l.length=b.l.length
   ·have:a.l.map dw=b.l.map dw:=nV (0,[]) (by rw[List.length_map,List.length_map,hab]) (fun j hj=>by
     rw[List.length_map] at hj
     rw[key _ _ hj,key _ _ omg]
     exact h2 j omg)
    simp[this,hab]
   ·have:a.l.map dw≠b.l.map dw:=fun e=>hab (by have:=congrArg List.length e;simpa using this)
    simp[this]
    omega
end Go.Avm.Pack
