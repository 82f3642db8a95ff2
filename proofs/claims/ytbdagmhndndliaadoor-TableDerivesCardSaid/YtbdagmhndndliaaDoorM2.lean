/- Part 2 of the proof: lemmas. -/
import Derived.Test.YtbdagmhndndliaaDoorM1
namespace Go.Avm
open Go
section
variable {P:Program}{R:Res}
theorem finish_to {k0:Nat}{hp':List AObj}{g g':R.σ}{FM:Mem}{ρ:Plc}{w:World}{s s':St R.σ}{v:AV}{FM':Mem}{ρ':Plc}{w':World}{u:Value}(hC:ρ.length=k0)(ok':Ok R s.hp s.g FM' ρ' w')(go':Goes R g FM ρ w s.g FM' ρ' w')(hd:Den FM' ρ' v u)
  (hto:To R k0 ⟨[(0,v)],s.hp,s.g⟩ s') (e1:s'.hp=hp') (e2:s'.g=g'):∃FM'' ρ'',Den FM'' ρ'' (lk s'.fr 0) u∧Ok R hp' g' FM'' ρ'' w'∧Goes R g FM ρ w g' FM'' ρ'' w':=by
 obtain⟨FM'',ρ'',a1,a2,a3,a4,a5,a6,a7⟩:=hto ρ FM' ρ' w' (fun t=>if t=0 then u else undef) hC go'.sub ok' (fun t=>by
  unfold lk
  cases hb:Nat.beq t 0 with
  |true=>have:=Nat.eq_of_beq_eq_true hb
         subst this;exact hd
  |false=>trivial)
 have hd':=a2 0
 simp only[if_true] at hd'
 subst e1
 subst e2
 refine⟨FM'',ρ'',hd',a1,⟨fun b o hb=>a4 b o (go'.ext.fm b o hb),fun b o hb=>?_,fun b hb=>go'.ext.blk b (a6 b hb),go'.ext.keep,go'.ext.size,go'.ext.os,go'.ext.tape,go'.ext.output⟩,by rw[a7];exact go'.bn,a3⟩
 rcases a5 b o hb with h1|h1
 ·exact go'.ext.grow b o h1
 ·rcases go'.ext.blk b h1 with h2|h2
  ·exact .inr (.inr (.inl h2))
  ·exact .inr (.inl h2)
def rvMode (rec:Bool):Option Value→FrameMode
 |none=>.returning
 |some v=>.panicking [{ v:=v,recovered:=rec }]
def rvDen (FM:Mem)(ρ:Plc):Option AV→Option Value→Prop
 |none,none=>True
 |some x,some v=>Den FM ρ x v
 |_,_=>False
def rvA:Option AV→AV
 |none=>.nili
 |some x=>x
structure DoesD (P:Program)(R:Res)(f:FuncId)(args:List AV)(hp:List AObj)(g:R.σ)(rv:Option AV)(hp':List AObj)(g':R.σ):Prop where
 h:∀FM ρ w vs u,Ok R hp g FM ρ w→DenL FM ρ args vs→rvDen FM ρ rv u →
  CallsD P f vs (rvMode false u) w (fun e u' w'=>(∃r,e=.returned r)∧u'=rvMode true u∧∃FM' ρ',Ok R hp' g' FM' ρ' w'∧Goes R g FM ρ w g' FM' ρ' w')
def recOps (d0 d1:Nat):List Oper→Bool
 |[o,p]=>(match o.op with
  |.call c=>(match c.callee with
   |.builtin .recover=>c.args.isEmpty
   |_=>false)
  |_=>false)&&(match p.op with
  |.assign (.tmp t)=>Nat.beq t d0
  |_=>false)&&isSlot d0 o.dst&&isSlot d1 p.dst&&isNoG o.guard&&isNoG p.guard
 |_=>false
theorem recOps_two {d0 d1:Nat}:∀{l:List Oper},recOps d0 d1 l=true→∃o p,l=[o,p]
 |[],h=>by simp[recOps] at h
 |[_],h=>by simp[recOps] at h
 |[o,p],_=>⟨o,p,rfl⟩
 |_::_::_::_,h=>by simp[recOps] at h
theorem doesD_of {f:FuncId}{fn:Func}{id:Nat}{ops:Array Oper}{B:Code}{args:List AV}{hp hp':List AObj}{g g':R.σ}{rv:Option AV}(d0 d1:Nat)(hf:P.funcs[f]? = some fn)(hb:fn.body=some (.seq (.region id ops false) B))
  (hops:recOps d0 d1 ops.toList=true) (h0:args.length≤d0) (h1:args.length≤d1) (h2:d0≠d1) (h3:d0<fn.ntmps) (h4:d1<fn.ntmps)
  (h:wpA P R fn.ntmps hp.length .no B (RetQ P R hp.length fn.results.toList (.ret (.tup 0 (nth []))) hp' g') ⟨(d1,rvA rv)::argFr 0 args,hp,g⟩):DoesD P R f args hp g rv hp' g':=by
 refine⟨fun FM ρ w vs u ok hvs hrv=>callsD_of_wpS hf hb (fun c₀ cs hc=>wpS_seq (wpS_region ?_))⟩
 obtain⟨o,p,rfl⟩:∃o p,ops=#[o,p]:=by
  obtain⟨o,p,e⟩:=recOps_two hops
  exact⟨o,p,Array.ext' e⟩
 simp only[recOps,Bool.and_eq_true] at hops
 obtain⟨⟨⟨⟨⟨ho,hp0⟩,hd0⟩,hd1⟩,hg0⟩,hg1⟩:=hops
 have noG:∀{x:Option (Nat × Bool)},isNoG x=true→x=none:=fun {x} h=>by cases x <;> first|rfl|cases h
 have hg0:=noG hg0
 have hg1:=noG hg1
 have hd0:=isSlot_iff.1 hd0
 have hd1:=isSlot_iff.1 hd1
 have hrec:∀ev:Operand→Value,(execOp ev o).run P w=.ok .recover w:=by
  intro ev
  split at ho
  ·rename_i c hop
   split at ho
   ·rename_i hcal
    have:c.args=#[]:=by simpa using ho
    simp[execOp,hop,resolve,hcal,this,invoke,builtin]
   ·cases ho
  ·cases ho
 have hasg:∀ev:Operand→Value,(execOp ev p).run P w=.ok (.value (ev (.tmp d0))) w:=by
  intro ev
  split at hp0
  ·rename_i t hop
   have:=Nat.eq_of_beq_eq_true hp0
   subst this
   simp[execOp,hop]
  ·cases hp0
 have hw0:∀t,Region.wanted o t=true:=fun t=>by simp[Region.wanted,hg0]
 have hw1:∀t,Region.wanted p t=true:=fun t=>by simp[Region.wanted,hg1]
 have hsz:(vs++Array.replicate (fn.ntmps-vs.size) undef).size=fn.ntmps:=by simp[hvs.1];omega
 -- what comes behind, whatever was recovered
 have main:∀(v:Value) (cs':List Frame),Den FM ρ (rvA rv) v→cs'={ c₀ with mode:=rvMode true u }::cs →
   B.wpS P (bodyPostS P fn c₀ cs (fun e u' w'=>(∃r,e=.returned r)∧u'=rvMode true u∧∃FM' ρ',Ok R hp' g' FM' ρ' w'∧Goes R g FM ρ w g' FM' ρ' w'))
    (({ tmps:=vs++Array.replicate (fn.ntmps-vs.size) undef,defers:=[] }:Act).put (some d0) v |>.put (some d1) v) cs' w:=by
  intro v cs' hv hcs
  refine wpS_of_wp ((wpIn_wide (n:=0)).1 ?_)
  let C:Cx R:=⟨g,FM,ρ,w,[],false⟩
  have hsat:Sat R C fn.ntmps ⟨(d1,rvA rv)::argFr 0 args,hp,g⟩ FM ρ (({ tmps:=vs++Array.replicate (fn.ntmps-vs.size) undef,defers:=[] }:Act).put (some d0) v |>.put (some d1) v) w:=by
   refine⟨ok,Goes.refl _ _ _ _ _,by rw[put_size,put_size];exact hsz,by rw[put_defers,put_defers];exact .start,fun t=>?_⟩
   show Den FM ρ (lk ((d1,rvA rv)::argFr 0 args) t) _
   unfold lk
   cases hbt:Nat.beq t d1 with
   |true=>
    have:=Nat.eq_of_beq_eq_true hbt
    subst this
    rw[put_same (by rw[put_size,hsz];exact h4)]
    exact hv
   |false=>
    have hne:t≠d1:=fun e=>by subst e;simp at hbt
    simp only[cond_false]
    rw[lk_argFr]
    simp only[Nat.zero_le,if_true,Nat.sub_zero]
    rcases Nat.lt_or_ge t args.length with ht|ht
    ·rw[put_other (fun e=>hne (by simpa using e.symm)),put_other (fun e=>by have:d0=t:=by simpa using e
                                                                            omega)]
     have:=hvs.2 t ht
     have e:(vs++Array.replicate (fn.ntmps-vs.size) undef).getD t undef=vs.getD t undef:=by
      rw[Array.getD_eq_getD_getElem?,Array.getD_eq_getD_getElem?,Array.getElem?_append,if_pos (by rw[hvs.1];exact ht)]
     show Den FM ρ _ ((vs++Array.replicate (fn.ntmps-vs.size) undef).getD t undef)
     rw[e];exact this
    ·rw[nth_ge _ _ ht];trivial
  have hC:C.ρ.length=hp.length:=ok.rel.len
  refine wpIn_mono (h C ⟨hC,rfl⟩ 0 _ w ⟨FM,ρ,hsat⟩) (fun e a w' hpost=>?_)
  have ret:(∃s,(∃v ob x s',resV (tyOf P) s fn.results.toList=some (v,ob)∧AllP ob∧Oc.ret (.tup 0 (nth []))=.ret x∧To R hp.length ⟨[(0,v)],s.hp,s.g⟩ s'∧lk s'.fr 0=x∧s'.hp=hp'∧s'.g=g')∧Holds R C fn.ntmps s a w') →
    a.defers=[]∧∃u',cs'={ c₀ with mode:=u' }::cs∧∃v,(results fn a.tmps).run P w'=.ok v w'∧((∃r,Ending.returned v=.returned r)∧u'=rvMode true u∧∃FM' ρ',Ok R hp' g' FM' ρ' w'∧Goes R g FM ρ w g' FM' ρ' w'):=by
   rintro ⟨s,⟨v,ob,x,s',r1,r2,_,r3,_,r4,r5⟩,FM',ρ',hs⟩
   obtain⟨y,u1,u2⟩:=resV_ok r1 r2 hs.ok hs.fr
   obtain⟨FM'',ρ'',d1,d2,d3⟩:=finish_to hC hs.ok hs.goes u2 r3 r4 r5
   exact⟨hs.defs.none,_,hcs,y,u1,⟨y,rfl⟩,rfl,FM'',ρ'',d2,d3⟩
  cases e with
  |normal=>exact ret hpost
  |ret=>exact ret hpost
  |exit id=>obtain⟨s,h1,_⟩:=hpost;exact h1.elim
  |panic ch=>
   obtain⟨s,x,v,FM',ρ',⟨y,s',hbad,_⟩,_⟩:=hpost
   cases hbad
  |goto l=>exact hpost
  |outgrown=>exact hpost.elim
 have hr:List.range (#[o,p]:Array Oper).size=[0,1]:=rfl
 rw[hr]
 simp only[wpOpsS,List.getElem?_toArray,List.getElem?_cons_zero,List.getElem?_cons_succ,hw0,hw1,if_true,hrec,hasg]
 have asg:∀(v:Value) (cs':List Frame),Den FM ρ (rvA rv) v→cs'={ c₀ with mode:=rvMode true u }::cs→∀(a:Act),a=({ tmps:=vs++Array.replicate (fn.ntmps-vs.size) undef,defers:=[] }:Act).put (some d0) v →
   p.upon P a (fun a' w'=>Exit.thenS (B.wpS P (bodyPostS P fn c₀ cs (fun e u' w'=>(∃r,e=.returned r)∧u'=rvMode true u∧∃FM' ρ',Ok R hp' g' FM' ρ' w'∧Goes R g FM ρ w g' FM' ρ' w'))) (bodyPostS P fn c₀ cs (fun e u' w'=>(∃r,e=.returned r)∧u'=rvMode true u∧∃FM' ρ',Ok R hp' g' FM' ρ' w'∧Goes R g FM ρ w g' FM' ρ' w')) .normal a' cs' w')
    (fun e a' w'=>Exit.thenS (B.wpS P (bodyPostS P fn c₀ cs (fun e u' w'=>(∃r,e=.returned r)∧u'=rvMode true u∧∃FM' ρ',Ok R hp' g' FM' ρ' w'∧Goes R g FM ρ w g' FM' ρ' w'))) (bodyPostS P fn c₀ cs (fun e u' w'=>(∃r,e=.returned r)∧u'=rvMode true u∧∃FM' ρ',Ok R hp' g' FM' ρ' w'∧Goes R g FM ρ w g' FM' ρ' w')) e a' cs' w')
    (.ok (.value (a.eval (.tmp d0))) w):=by
  intro v cs' hv hcs a ha
  show B.wpS P _ (a.put p.dst (a.eval (.tmp d0))) cs' w
  have:a.eval (.tmp d0)=v:=by
   subst ha
   exact put_same (by rw[hsz];exact h3)
  rw[this,hd1,ha]
  exact main v cs' hv hcs
 cases u with
 |none=>
  cases rv with
  |some x=>exact hrv.elim
  |none=>
   have hm:c₀.mode=.returning:=hc
   have:recoverD (c₀::cs)=none:=by simp[recoverD,hm]
   simp only[this]
   rw[hd0]
   exact asg .nilIface (c₀::cs) rfl (by
    have:({ c₀ with mode:=rvMode true none }:Frame)=c₀:=by
     show({ c₀ with mode:=.returning }:Frame)=c₀
     rw[←hm]
    rw[this]) _ rfl
 |some v=>
  cases rv with
  |none=>exact hrv.elim
  |some x=>
   have hm:c₀.mode=.panicking [{ v:=v,recovered:=false }]:=hc
   have:recoverD (c₀::cs)=some (v,{ c₀ with mode:=.panicking [{ v:=v,recovered:=true }] }::cs):=by simp[recoverD,hm]
   simp only[this]
   rw[hd0]
   exact asg v _ hrv rfl _ rfl
def DefQ (P:Program)(R:Res)(k0:Nat)(K:FuncId)(caps:List AV)(rs:List ResultVar)(oc:Oc)(hp':List AObj)(g':R.σ):AEx→St R.σ→Prop
 |.exit _,_=>False
 |.pan x,s=>∃hp1 g1,DoesD P R K caps s.hp s.g (some x) hp1 g1∧RetQ P R k0 rs oc hp' g' .ret ⟨s.fr,hp1,g1⟩
 |_,s=>∃hp1 g1,DoesD P R K caps s.hp s.g none hp1 g1∧RetQ P R k0 rs oc hp' g' .ret ⟨s.fr,hp1,g1⟩
def DefA (P:Program)(R:Res)(nt k0:Nat)(B:Code)(K:FuncId)(t:Nat)(caps:List Nat)(rs:List ResultVar)(oc:Oc)(hp':List AObj)(g':R.σ):AEx→St R.σ→Prop
 |.normal,s=>lk s.fr t=.any∧wpA P R nt s.hp.length .no B (DefQ P R k0 K (caps.map (lk s.fr)) rs oc hp' g') s
 |_,_=>False
def defOps (K:FuncId)(t:Nat)(caps:List Nat):List Oper→Bool
 |[o,p]=>(match o.op with
  |.makeFunc (.func f) a b=>Nat.beq f K&&(a.isEmpty&&eqPath (b.toList.map fun x=>match x with|.tmp t=>t|_=>0) caps&&b.toList.all fun x=>match x with|.tmp _=>true|_=>false)
  |_=>false)&&(match p.op with
  |.defer c=>(match c.callee with
   |.value (.tmp u)=>Nat.beq u t&&c.args.isEmpty
   |_=>false)
  |_=>false)&&isSlot t o.dst&&p.dst.isNone&&isNoG o.guard&&isNoG p.guard
 |_=>false
theorem defOps_two {K t:Nat}{caps:List Nat}:∀{l:List Oper},defOps K t caps l=true→∃o p,l=[o,p]
 |[],h=>by simp[defOps] at h
 |[_],h=>by simp[defOps] at h
 |[o,p],_=>⟨o,p,rfl⟩
 |_::_::_::_,h=>by simp[defOps] at h
theorem eqPath_eq:∀{a b:List Nat},eqPath a b=true→a=b
 |[],[],_=>rfl
 |i::a,j::b,h=>by
  simp only[eqPath,Bool.and_eq_true] at h
  rw[Nat.eq_of_beq_eq_true h.1,eqPath_eq h.2]
 |[],_::_,h=>by simp[eqPath] at h
 |_::_,[],h=>by simp[eqPath] at h
theorem does_defer {f K:FuncId}{fn:Func}{A B:Code}{id:Nat}{ops:Array Oper}{args:List AV}{hp hp':List AObj}{g g':R.σ}{oc:Oc}(t:Nat)(caps:List Nat)(hf:P.funcs[f]? = some fn)(hb:fn.body=some (.seq A (.seq (.region id ops false) B)))
  (hn:args.length≤fn.ntmps) (hops:defOps K t caps ops.toList=true) (hpl:isPlain P K=true) (ht:t<fn.ntmps) (hlk:∀c∈caps,c≠t)
  (hA:wpA P R fn.ntmps hp.length .no A (DefA P R fn.ntmps hp.length B K t caps fn.results.toList oc hp' g') ⟨argFr 0 args,hp,g⟩):Does P R f args hp g oc hp' g':=by
 refine⟨fun FM ρ w vs ok hvs=>calls_of_wp_defers hf hb ((wpIn_wide (n:=0)).1 (wpIn_seq ?_))⟩
 obtain⟨o,p,he⟩:=defOps_two hops
 obtain rfl:ops=#[o,p]:=Array.ext' he
 simp only[defOps,Bool.and_eq_true] at hops
 obtain⟨⟨⟨⟨⟨ho,hp0⟩,hd0⟩,hd1⟩,hg0⟩,hg1⟩:=hops
 have noG:∀{x:Option (Nat × Bool)},isNoG x=true→x=none:=fun {x} h=>by cases x <;> first|rfl|cases h
 have hg0:=noG hg0
 have hg1:=noG hg1
 have hd0:=isSlot_iff.1 hd0
 have hd1:p.dst=none:=by simpa using hd1
 have hsz:(vs++Array.replicate (fn.ntmps-vs.size) undef).size=fn.ntmps:=by simp[hvs.1];omega
 let C:Cx R:=⟨g,FM,ρ,w,[],false⟩
 have hsat:Sat R C fn.ntmps ⟨argFr 0 args,hp,g⟩ FM ρ { tmps:=vs++Array.replicate (fn.ntmps-vs.size) undef,defers:=[] } w:=by
  refine⟨ok,Goes.refl _ _ _ _ _,hsz,.start,fun t=>?_⟩
  show Den FM ρ (lk (argFr 0 args) t) _
  rw[lk_argFr]
  simp only[Nat.zero_le,if_true,Nat.sub_zero]
  rcases Nat.lt_or_ge t args.length with ht|ht
  ·have:=hvs.2 t ht
   have e:(vs++Array.replicate (fn.ntmps-vs.size) undef).getD t undef=vs.getD t undef:=by
    rw[Array.getD_eq_getD_getElem?,Array.getD_eq_getD_getElem?,Array.getElem?_append,if_pos (by rw[hvs.1];exact ht)]
   rw[e];exact this
  ·rw[nth_ge _ _ ht];trivial
 have hC:C.ρ.length=hp.length:=ok.rel.len
 refine wpIn_mono (hA C ⟨hC,rfl⟩ 0 _ w ⟨FM,ρ,hsat⟩) (fun e a w1 hpost=>?_)
 have post:∃s FM1 ρ1,e=.normal∧(lk s.fr t=.any∧wpA P R fn.ntmps s.hp.length .no B (DefQ P R hp.length K (caps.map (lk s.fr)) fn.results.toList oc hp' g') s)∧Sat R C fn.ntmps s FM1 ρ1 a w1:=by
  cases e with
  |normal=>obtain⟨s,h1,FM1,ρ1,h2⟩:=hpost;exact⟨s,FM1,ρ1,rfl,h1,h2⟩
  |exit id=>obtain⟨s,h1,_⟩:=hpost;exact h1.elim
  |ret=>obtain⟨s,h1,_⟩:=hpost;exact h1.elim
  |panic ch=>obtain⟨s,x,v,FM1,ρ1,h1,_⟩:=hpost;exact h1.elim
  |goto l=>exact hpost.elim
  |outgrown=>exact hpost.elim
 obtain⟨s,FM1,ρ1,rfl,⟨hsl,hB⟩,hs⟩:=post
 show(Code.seq (.region id #[o,p] false) B).wpIn Fence.wide 0 P _ a w1
 refine wpIn_seq (wpIn_region ?_)
 have hr:List.range (#[o,p]:Array Oper).size=[0,1]:=rfl
 rw[hr]
 -- the closure, and the deferred call
 have hw0:∀t,Region.wanted o t=true:=fun t=>by simp[Region.wanted,hg0]
 have hw1:∀t,Region.wanted p t=true:=fun t=>by simp[Region.wanted,hg1]
 obtain⟨xs,bs,hop,hxs,hbs⟩:∃xs bs:Array Operand,o.op=.makeFunc (.func K) xs bs∧xs=#[]∧bs.toList=caps.map Operand.tmp:=by
  split at ho
  ·rename_i f' xs bs hop
   simp only[Bool.and_eq_true] at ho
   obtain⟨h1,⟨h2,h3⟩,h4⟩:=ho
   have:=Nat.eq_of_beq_eq_true h1
   subst this
   refine⟨xs,bs,hop,by simpa using h2,?_⟩
   have h3:=eqPath_eq h3
   rw[←h3,List.map_map]
   rw[List.all_eq_true] at h4
   refine(List.map_id' _).symm.trans (List.map_congr_left (fun x hx=>?_))
   have:=h4 x hx
   cases x <;> first|rfl|cases this
  ·cases ho
 subst hxs
 obtain⟨c,hpop,hcal,hcar⟩:∃c,p.op=.defer c∧c.callee=.value (.tmp t)∧c.args=#[]:=by
  split at hp0
  ·rename_i c hpop
   split at hp0
   ·rename_i u hcal
    simp only[Bool.and_eq_true] at hp0
    have:=Nat.eq_of_beq_eq_true hp0.1
    subst this
    exact⟨c,hpop,hcal,by simpa using hp0.2⟩
   ·cases hp0
  ·cases hp0
 let fv:Value:=.func (.func K) #[] (bs.map a.eval)
 have hrun0:(execOp a.eval o).run P w1=.ok (.value fv) w1:=by simp[execOp,hop,Instr.makeFunc,fv]
 let a1:Act:=a.put (some t) fv
 have ht1:a1.eval (.tmp t)=fv:=put_same (by rw[hs.size];exact ht)
 let d:Deferred:={ target:=.fn (.func K) (bs.map a.eval),args:=#[] }
 have hrun1:(execOp a1.eval p).run P w1=.ok (.defer d) w1:=by
  simp[execOp,hpop,resolve,hcal,hcar,ht1,fv,Deferred.ofValue,d]
 let a2:Act:={ a1 with defers:=d::a1.defers }
 simp only[wpOpsIn,List.getElem?_toArray,List.getElem?_cons_zero,List.getElem?_cons_succ,hw0,hw1,if_true,Oper.wpIn]
 refine⟨fun _ _=>trivial,?_⟩
 have hsem0:(o.semAt Fence.wide.round a.eval).run P w1=.ok (.value fv) w1:=hrun0
 rw[hsem0,Oper.uponIn_value,hd0]
 refine⟨fun _ _=>trivial,?_⟩
 have hsem1:(p.semAt Fence.wide.round a1.eval).run P w1=.ok (.defer d) w1:=hrun1
 show p.uponIn Fence.wide 0 P a1 _ _ ((p.semAt Fence.wide.round a1.eval).run P w1)
 rw[hsem1,Oper.uponIn_defer,hd1]
 show B.wpIn Fence.wide 0 P _ a2 w1
 -- the rest
 have hdef:a1.defers=[]:=by show(a.put (some t) fv).defers=[];rw[put_defers];exact hs.defs.none
 let C1:Cx R:=⟨s.g,FM1,ρ1,w1,[d],false⟩
 have hs2:Sat R C1 fn.ntmps s FM1 ρ1 a2 w1:=by
  refine⟨hs.ok,Goes.refl _ _ _ _ _,?_,?_,fun t'=>?_⟩
  ·show a1.tmps.size=_
   rw[show a1=a.put (some t) fv from rfl,put_size];exact hs.size
  ·show Dfs R ⟨[d],false⟩ w1 s.g FM1 ρ1 w1 (d::a1.defers)
   rw[hdef]
   exact .start
  ·show Den FM1 ρ1 (lk s.fr t') (a1.tmps.getD t' undef)
   by_cases htt:t'=t
   ·subst htt
    rw[hsl];trivial
   ·rw[show a1=a.put (some t) fv from rfl,put_other (fun e=>htt (by simpa using e.symm))]
    exact hs.fr t'
 have hcaps:DenL FM1 ρ1 (caps.map (lk s.fr)) (bs.map a.eval):=by
  have hl:bs.size=caps.length:=by rw[←Array.length_toList,hbs,List.length_map]
  refine⟨by simp[hl],fun i hi=>?_⟩
  have hi':i<caps.length:=by simpa using hi
  rw[nth_get _ _ hi]
  have hb1:bs[i]'(by omega)=.tmp caps[i]:=by
   have:bs.toList[i]'(by rw[hbs];simpa using hi')=.tmp caps[i]:=by simp[hbs]
   simpa using this
  have:(bs.map a.eval).getD i undef=a.tmps.getD caps[i] undef:=by
   rw[Array.getD_eq_getD_getElem?,Array.getElem?_map,Array.getElem?_eq_getElem (show i<bs.size by omega)]
   show a.eval bs[i]=_
   rw[hb1]
   rfl
  rw[this,List.getElem_map]
  exact hs.fr _
 refine wpIn_mono (hB C1 ⟨(by show ρ1.length=_;exact hs.ok.rel.len),rfl⟩ 0 a2 w1 ⟨FM1,ρ1,hs2⟩) (fun e a' w' hpost=>?_)
 have leave:∀(s2:St R.σ) (rv:Option AV) (u:Option Value) (FM2:Mem) (ρ2:Plc),Sat R C1 fn.ntmps s2 FM2 ρ2 a' w'→rvDen FM2 ρ2 rv u →
   (∃hp1 g1,DoesD P R K (caps.map (lk s.fr)) s2.hp s2.g rv hp1 g1∧RetQ P R hp.length fn.results.toList oc hp' g' .ret ⟨s2.fr,hp1,g1⟩)→Leaves P fn a'.tmps (Post R g FM ρ w oc hp' g') a'.defers (rvMode false u) w':=by
  rintro s2 rv u FM2 ρ2 hs2 hrv ⟨hp1,g1,hD,v,ob,x,s',r1,r2,rfl,r3,rfl,r4,r5⟩
  rw[hs2.defs.none]
  have hcaps2:DenL FM2 ρ2 (caps.map (lk s.fr)) (bs.map a.eval):=⟨hcaps.1,fun i hi=>Den.mono hs2.goes.ext.fm _ hs2.goes.sub (hcaps.2 i hi)⟩
  have hinv:(invoke d.target d.args).run P w'=.ok (.enter K (bs.map a.eval)) w':=by
   obtain⟨fK,h1,h2,h3⟩:∃fK,P.funcs[K]? = some fK∧fK.name ≠ "runtime.NumGoroutine"∧fK.body.isSome=true:=by
    unfold isPlain at hpl
    split at hpl
    ·rename_i fK hfK
     simp only[Bool.and_eq_true,bne_iff_ne,ne_eq] at hpl
     exact⟨fK,hfK,hpl.1,hpl.2⟩
    ·cases hpl
   have h3':¬fK.body=none:=fun h=>by rw[h] at h3;cases h3
   simp[d,invoke,callFunc,h1,h2,h3']
  refine⟨by cases u <;> simp[rvMode],_,_,K,bs.map a.eval,rfl,hinv,CallsD.mono (hD.h FM2 ρ2 w' _ u hs2.ok hcaps2 hrv) (fun e u' w'' hpost=>?_)⟩
  obtain⟨⟨r,rfl⟩,rfl,FM3,ρ3,ok3,go3⟩:=hpost
  have hset:settle (rvMode true u)=.returning:=by cases u <;> simp[rvMode,settle]
  show Leaves P fn a'.tmps _ [] (settle (rvMode true u)) w''
  rw[hset]
  obtain⟨y,u1,u2⟩:=resV_ok r1 r2 ok3 (tmps:=a'.tmps) (fun t=>Den.mono go3.ext.fm _ go3.sub (hs2.fr t))
  obtain⟨FM4,ρ4,d1,d2,d3⟩:=finish_to hC ok3 ((hs.goes.trans hs2.goes).trans go3) u2 r3 r4 r5
  exact⟨y,u1,FM4,ρ4,⟨y,rfl,d1⟩,d2,d3⟩
 have thn:∀e',(∀(X:Prop),e'=e→X→X)→True:=fun _ _=>trivial
 cases e with
 |normal=>obtain⟨s2,h1,FM2,ρ2,h2⟩:=hpost;exact leave s2 none none FM2 ρ2 h2 trivial h1
 |ret=>obtain⟨s2,h1,FM2,ρ2,h2⟩:=hpost;exact leave s2 none none FM2 ρ2 h2 trivial h1
 |exit id=>obtain⟨s2,h1,_⟩:=hpost;exact h1.elim
 |panic ch=>
  obtain⟨s2,x,v,FM2,ρ2,h1,h2,rfl,hd⟩:=hpost
  exact leave s2 (some x) (some v) FM2 ρ2 h2 hd h1
 |goto l=>exact hpost.elim
 |outgrown=>exact hpost.elim
def recB (d0 d1:Nat):Code→Bool
 |.seq (.region _ ops false) _=>recOps d0 d1 ops.toList
 |_=>false
theorem recover_wp {f:FuncId}{args:List AV}{hp hp':List AObj}{g g':R.σ}{rv:Option AV}{nt:Nat}{rs:List ResultVar}{k0:Nat}(d0 d1:Nat)(hb:hasBody P f args.length=true)(hnt:ntOf P f=nt)(hrs:resOf P f=rs)(hk:hp.length=k0)(hr:recB d0 d1 (bodyOf P f)=true)
  (h0:args.length≤d0) (h1:args.length≤d1) (h2:d0≠d1) (h3:d0<nt) (h4:d1<nt)
  (h:Wp P R nt k0 .no (bodyOf P f) [1] (RetQ P R k0 rs (.ret (.tup 0 (nth []))) hp' g') ⟨(d1,rvA rv)::argFr 0 args,hp,g⟩):DoesD P R f args hp g rv hp' g':=by
 subst hnt hrs hk
 unfold hasBody at hb
 split at hb
 ·rename_i fn hfn
  simp only[Bool.and_eq_true,Nat.ble_eq] at hb
  obtain⟨c,hc⟩:=Option.isSome_iff_exists.1 hb.1
  have e1:bodyOf P f=c:=by simp[bodyOf,hfn,hc]
  have e2:ntOf P f=fn.ntmps:=by simp[ntOf,hfn]
  have e3:resOf P f=fn.results.toList:=by simp[resOf,hfn]
  have h':wpA P R (ntOf P f) hp.length .no (sub (bodyOf P f) [1]) (RetQ P R hp.length (resOf P f) (.ret (.tup 0 (nth []))) hp' g') ⟨(d1,rvA rv)::argFr 0 args,hp,g⟩:=h.h
  rw[e1,e2,e3] at h'
  rw[e1] at hr
  rw[e2] at h3 h4
  unfold recB at hr
  split at hr
  ·rename_i id ops B
   have e:sub (.seq (.region id ops false) B) [1]=B:=by cases B <;> rfl
   rw[e] at h'
   exact doesD_of d0 d1 hfn hc hr h0 h1 h2 h3 h4 h'
  ·cases hr
 ·cases hb
def defB (K:FuncId)(t:Nat)(caps:List Nat):Code→Bool
 |.seq _ (.seq (.region _ ops false) _)=>defOps K t caps ops.toList
 |_=>false
theorem defer_wp {f K:FuncId}{args:List AV}{hp hp':List AObj}{g g':R.σ}{oc:Oc}{nt:Nat}{rs:List ResultVar}{k0:Nat}(t:Nat)(caps:List Nat)(hb:hasBody P f args.length=true)(hnt:ntOf P f=nt)(hrs:resOf P f=rs)(hk:hp.length=k0)(hd:defB K t caps (bodyOf P f)=true)
  (hpl:isPlain P K=true) (ht:t<nt) (hlk:∀c∈caps,c≠t)
  (h:Wp P R nt k0 .no (bodyOf P f) [0] (DefA P R nt k0 (sub (bodyOf P f) [1,1]) K t caps rs oc hp' g') ⟨argFr 0 args,hp,g⟩):Does P R f args hp g oc hp' g':=by
 subst hnt hrs hk
 unfold hasBody at hb
 split at hb
 ·rename_i fn hfn
  simp only[Bool.and_eq_true,Nat.ble_eq] at hb
  obtain⟨c,hc⟩:=Option.isSome_iff_exists.1 hb.1
  have e1:bodyOf P f=c:=by simp[bodyOf,hfn,hc]
  have e2:ntOf P f=fn.ntmps:=by simp[ntOf,hfn]
  have e3:resOf P f=fn.results.toList:=by simp[resOf,hfn]
  have h':wpA P R (ntOf P f) hp.length .no (sub (bodyOf P f) [0]) (DefA P R (ntOf P f) hp.length (sub (bodyOf P f) [1,1]) K t caps (resOf P f) oc hp' g') ⟨argFr 0 args,hp,g⟩:=h.h
  rw[e1,e2,e3] at h'
  rw[e1] at hd
  rw[e2] at ht
  unfold defB at hd
  split at hd
  ·rename_i A id ops B
   have ea:sub (.seq A (.seq (.region id ops false) B)) [0]=A:=by cases A <;> rfl
   have eb:sub (.seq A (.seq (.region id ops false) B)) [1,1]=B:=by cases B <;> rfl
   rw[ea,eb] at h'
   exact does_defer t caps hfn hc hb.2 hd hpl ht hlk h'
  ·cases hd
 ·cases hb
theorem defA_wp {K:FuncId}{t:Nat}{caps:List Nat}{s:St R.σ}{b:Code}{hp':List AObj}{g':R.σ}{oc:Oc}{nt:Nat}{rs:List ResultVar}{k0:Nat}(k1:Nat)(cs:List AV)(h1:lk s.fr t=.any)(hk:s.hp.length=k1)(hc:caps.map (lk s.fr)=cs)(h:Wp P R nt k1 .no b [1,1] (DefQ P R k0 K cs rs oc hp' g') s) :
  DefA P R nt k0 (sub b [1,1]) K t caps rs oc hp' g' .normal s:=by
 subst hk hc
 exact⟨h1,h.h⟩
variable {k0:Nat}{rs:List ResultVar}{v x:AV}{s:St R.σ}{hp':List AObj}{g':R.σ}
theorem panQ_le {x0:AV}(h:RetQ P R k0 rs (.pan x0) hp' g' (.pan v) s)(hle:Le x0 x):RetQ P R k0 rs (.pan x) hp' g' (.pan v) s:=by
 obtain⟨y,s',h3,h4,h5,h6,h7⟩:=h
 cases h3
 refine⟨x,⟨[(0,x)],s'.hp,s'.g⟩,rfl,h4.trans (to_fr ⟨?_,trivial⟩ rfl rfl),rfl,h6,h7⟩
 rw[h5]
 exact hle
theorem panQ_same (hh:s.hp=hp')(hg:s.g=g')(hle:Le v x):RetQ P R k0 rs (.pan x) hp' g' (.pan v) s:=by
 subst hh hg
 exact panQ_le ⟨v,_,rfl,To.refl _,rfl,rfl,rfl⟩ hle
theorem panQ_take (k:Nat)(hk:k0≤k)(hv:Below k v)(hb:AllP (obT k (takeO k s.hp)))(hh:takeO k s.hp=hp')(hg:s.g=g')(hle:Le v x):RetQ P R k0 rs (.pan x) hp' g' (.pan v) s:=by
 subst hh hg
 exact panQ_le ⟨v,_,rfl,to_trunc k hk [0] (by exact⟨hv,hb⟩),rfl,rfl,rfl⟩ hle
end
end Go.Avm
namespace Go.Avm
open Go
def stopF (c:Nat→Bool):Nat→Nat→Nat
 |0,k=>k
 |n+1,k=>bif c k then stopF c n (k+1) else k+1
theorem stopF_cases (c:Nat→Bool):∀(n k:Nat),((∀j,k≤j→j<k+n→c j=true)∧stopF c n k=k+n)∨(∃i,k≤i∧i<k+n∧(∀j,k≤j→j<i→c j=true)∧c i=false∧stopF c n k=i+1)
 |0,k=>.inl ⟨fun j h1 h2=>by omega,rfl⟩
 |n+1,k=>by
  unfold stopF
  cases h:c k with
  |false=>exact .inr ⟨k,Nat.le_refl _,by omega,fun j h1 h2=>by omega,h,rfl⟩
  |true=>
   rcases stopF_cases c n (k+1) with⟨h1,h2⟩|⟨i,h1,h2,h3,h4,h5⟩
   ·refine .inl ⟨fun j hj1 hj2=>?_,by simp only[cond_true];omega⟩
    rcases Nat.lt_or_ge k j with hj|hj
    ·exact h1 j hj (by omega)
    ·have:j=k:=by omega
     subst this;exact h
   ·refine .inr ⟨i,by omega,by omega,fun j hj1 hj2=>?_,h4,h5⟩
    rcases Nat.lt_or_ge k j with hj|hj
    ·exact h3 j hj hj2
    ·have:j=k:=by omega
     subst this;exact h
structure SeqC (P:Program)(f:FuncId)(pre post:List AV)(N:Nat)(items:Nat→List AV)(T:Mem→Prop:=fun _=>True):Prop where
 h:∀(R:Res) [Tab T R] (u:Value) (G:Nat→R.σ) (c:Nat→Bool),
  (∀k,k<N→(∀j,j<k→c j=true)→∀hpo,VDoes P R u (items k) hpo (G k) (.ret (.bool (c k))) hpo (G (k+1))) →
  Does P R f (pre++[.val u]++post) [] (G 0) (.ret (.tup 0 (nth []))) [] (G (stopF c N 0))
def loopR (R:Res)(D L:Nat)(rec:LoopState→Option Code→Loop):Res where
 σ:=R.σ × LoopState × Option Code
 B s b:=R.B s.1 b∨b=D∨b=L
 J s FM w:=R.J s.1 FM w∧w.heap[D]? = some (.deferred (some []))∧w.heap[L]? = some (.loop (rec s.2.1 s.2.2))∧(FM D=none∧FM L=none)∧¬R.B s.1 D∧¬R.B s.1 L
 st:=by
  intro s FM FM' w w' ⟨j,h1,h2,⟨h3,h4⟩,h5,h6⟩ k
  exact⟨R.st j ⟨k.fm,fun b hb=>k.fmB b (.inl hb),k.sound,fun b hb=>k.heapB b (.inl hb),k.size,k.os,k.tape,k.output⟩,(k.heapB D (.inr (.inl rfl))).trans h1,(k.heapB L (.inr (.inr rfl))).trans h2,⟨(k.fmB D (.inr (.inl rfl))).trans h3,(k.fmB L (.inr (.inr rfl))).trans h4⟩,h5,h6⟩
instance {T:Mem→Prop}{R:Res}[h:Tab T R](D L:Nat)(rec:LoopState→Option Code→Loop):Tab T (loopR R D L rec):=⟨fun j=>h.h j.1⟩
section
variable {P:Program}{R:Res}
theorem ok_of_loopR {D L:Nat}{rec:LoopState→Option Code→Loop}{hp:List AObj}{s:(loopR R D L rec).σ}{FM:Mem}{ρ:Plc}{w:World}(ok:Ok (loopR R D L rec) hp s FM ρ w):Ok R hp s.1 FM ρ w:=
 ⟨ok.rel,ok.j.1,fun b hb=>ok.bd b (.inl hb)⟩
theorem ok_put {hp:List AObj}{g:R.σ}{FM:Mem}{ρ:Plc}{w:World}{X:Nat}(o:Obj)(off:¬InB ρ X)(offB:¬R.B g X)(nofm:FM X=none)(ok:Ok R hp g FM ρ w):Ok R hp g FM ρ (w.putObj X o):=by
 have oth:∀b,b≠X→(w.putObj X o).heap[b]? = w.heap[b]?:= fun b hb=>World.putObj_heap_other hb
 have hfm:∀b o',FM b=some o'→(w.putObj X o).heap[b]? = some o':=fun b o' hb=>by
  rw[oth b (fun e=>by subst e;rw[nofm] at hb;cases hb)];exact ok.rel.fm b o' hb
 refine⟨⟨hfm,ok.rel.len,fun i p hi=>?_,ok.rel.inj⟩,R.st ok.j ⟨fun _ _ h=>h,fun _ _=>rfl,hfm,fun b hb=>oth b (fun e=>offB (e▸hb)),by simp,rfl,rfl,rfl⟩,fun b hb=>⟨by simpa using (ok.bd b hb).1,(ok.bd b hb).2⟩⟩
 obtain⟨h1,h2⟩:=ok.rel.obj i p hi
 refine⟨fun h=>by simpa using h1 h,h2.mono (Sub.refl _) (fun hl=>oth _ (fun e=>?_))⟩
 exact off (e▸⟨p,mem_of_get hi,rfl,(ok.rel.real hi hl).1⟩)
def setPs:List Nat→List AV→List (Nat × AV)→List (Nat × AV)
 |p::ps,v::vs,fr=>setPs ps vs ((p,v)::fr)
 |_,_,fr=>fr
theorem setPs_ok {FM:Mem}{ρ:Plc}{nt:Nat}:∀(ps:List Nat) (vs:List AV) (us:List Value) (fr:List (Nat × AV)) (tmps:Array Value),tmps.size=nt→allLt ps nt=true→vs.length=ps.length→us.length=ps.length→(∀i,i<vs.length→Den FM ρ (nth vs i) (us.getD i undef)) →
  (∀t,Den FM ρ (lk fr t) (tmps.getD t undef))→((ps.zip us).foldl (fun tmps (p:Nat × Value)=>tmps.setIfInBounds p.1 p.2) tmps).size=nt∧∀t,Den FM ρ (lk (setPs ps vs fr) t) (((ps.zip us).foldl (fun tmps (p:Nat × Value)=>tmps.setIfInBounds p.1 p.2) tmps).getD t undef)
 |[],vs,us,fr,tmps,h1,_,h2,h3,_,h5=>by
  cases vs with
  |nil=>cases us with
   |nil=>exact⟨h1,h5⟩
   |cons _ _=>simp at h3
  |cons _ _=>simp at h2
 |p::ps,vs,us,fr,tmps,h1,hlt,h2,h3,h4,h5=>by
  cases vs with
  |nil=>simp at h2
  |cons v vs=>cases us with
   |nil=>simp at h3
   |cons u us=>
    have hp:p<nt:=allLt_mem hlt p List.mem_cons_self
    have hlt':allLt ps nt=true:=by
     unfold allLt at hlt
     simp only[Bool.and_eq_true] at hlt
     exact hlt.2
    refine setPs_ok ps vs us ((p,v)::fr) (tmps.setIfInBounds p u) (by simpa using h1) hlt' (by simpa using h2) (by simpa using h3) (fun i hi=>?_) (fun t=>?_)
    ·have:=h4 (i+1) (by simpa using hi)
     simpa[nth] using this
    ·show Den FM ρ (bif Nat.beq t p then v else lk fr t) _
     cases hb:Nat.beq t p with
     |true=>
      have:=Nat.eq_of_beq_eq_true hb
      subst this
      have:=h4 0 (by simp)
      rw[Array.getD_eq_getD_getElem?,Array.getElem?_setIfInBounds_self_of_lt (by omega)]
      simpa[nth] using this
     |false=>
      have hne:p≠t:=fun e=>by subst e;simp at hb
      rw[Array.getD_eq_getD_getElem?,Array.getElem?_setIfInBounds_ne hne,←Array.getD_eq_getD_getElem?]
      exact h5 t
def RndQ (R:Res)(n:Nat)(jmp:Option Code)(hp':List AObj)(g':R.σ):AEx→St R.σ→Prop
 |.normal,s=>jmp=none∧∃s',To R n s s'∧s'.hp=hp'∧s'.g=g'
 |.ret,s=>jmp=some .ret∧∃s',To R n s s'∧s'.hp=hp'∧s'.g=g'
 |.exit id,s=>jmp=some (.exit id)∧∃s',To R n s s'∧s'.hp=hp'∧s'.g=g'
 |.pan _,_=>False
theorem same_plc {hp hp':List AObj}{g g':R.σ}{FM FM':Mem}{ρ ρ':Plc}{w w':World}(ok:Ok R hp g FM ρ w)(ok':Ok R hp' g' FM' ρ' w')(hl:hp'.length=hp.length)(hs:Sub ρ ρ'):ρ'=ρ:=by
 have hl:ρ'.length=ρ.length:=by rw[ok'.rel.len,ok.rel.len,hl]
 refine List.ext_getElem? (fun i=>?_)
 rcases Nat.lt_or_ge i ρ.length with hi|hi
 ·have h1:ρ[i]? = some ρ[i]:=List.getElem?_eq_getElem hi
  rw[hs i _ h1,h1]
 ·rw[List.getElem?_eq_none (by omega),List.getElem?_eq_none hi]
end
def stJ (jmp:Nat→Option Code):Nat→LoopState × Option Code
 |0=>(.ready,none)
 |k+1=>((if (jmp k).isNone then .ready else .done),jmp k)
def jOk:Option Code→Bool
 |none=>true
 |some .ret=>true
 |some (.exit _)=>true
 |_=>false
section
variable {P:Program}{R:Res}
end
def rangeAt (t:Nat)(psl:List Nat):Code→Bool
 |.rangeFunc (.tmp u) ps _ _=>Nat.beq u t&&eqPath ps.toList psl
 |_=>false
section
variable {P:Program}{R:Res}
theorem rnd_next {n:Nat}{jmp:Option Code}{hp':List AObj}{g':R.σ}{s:St R.σ}(hj:jmp=none)(h:To R n s ⟨[],hp',g'⟩):RndQ R n jmp hp' g' .normal s:=⟨hj,_,h,rfl,rfl⟩
end
end Go.Avm
namespace Go.Avm
open Go
def frzL:List Nat→List AObj→AV→AV
 |[],_,v=>v
 |o::os,hp,v=>match getO hp o with
  |.cells false n get=>frzL os (setO hp o .dead) (frz o n get v)
  |_=>v
def frzLO:List Nat→List AObj→AV→List Prop
 |[],_,_=>[]
 |o::os,hp,v=>match getO hp o with
  |.cells false n get=>(∀j,j<n→Below 0 (get j))::frzOb o n v::frzLO os (setO hp o .dead) (frz o n get v)
  |_=>[False]
theorem Le.fp {n:Nat}{f f':Nat→AV}(h:∀j,j<n→Le (f j) (f' j)):Le (.fp n f) (.fp n f'):=by
 rintro FM ρ v ⟨b,off,h1,h2⟩
 exact⟨b,off,h1,fun j hj=>let ⟨x,a1,a2,a3⟩:=h2 j hj;⟨x,a1,a2,h j hj _ _ _ a3⟩⟩
section
variable {P:Program}{R:Res}
theorem to_frzL {k0:Nat}{g:R.σ}:∀(os:List Nat) (hp:List AObj) (v:AV),AllP (frzLO os hp v)→To R k0 ⟨[(0,v)],hp,g⟩ ⟨[(0,frzL os hp v)],killO os hp,g⟩
 |[],hp,v,_=>To.refl _
 |o::os,hp,v,h=>by
  unfold frzLO at h
  unfold frzL killO
  split at h
  ·rename_i n get hx
   refine To.trans (to_freeze o [0] [] ⟨⟨[(0,frz o n get v)],setO hp o .dead,g⟩,[(∀j,j<n→Below 0 (get j)),frzOb o n v]⟩ ?_ ⟨h.1,h.2.1,trivial⟩) (to_frzL os _ _ h.2.2)
   unfold freezeSt
   rw[show getO (St.hp ⟨[(0,v)],hp,g⟩) o=_ from hx]
   rfl
  ·exact h.1.elim
theorem does_bool {f:FuncId}{args:List AV}{hp hp':List AObj}{g g':R.σ}{a b:Bool}(e:a=b)(h:Does P R f args hp g (.ret (.bool a)) hp' g'):Does P R f args hp g (.ret (.bool b)) hp' g':=e▸h
theorem does_to {f:FuncId}{args:List AV}{hp hp1 hp2:List AObj}{g g1 g2:R.σ}{v x:AV}(h:Does P R f args hp g (.ret v) hp1 g1)(ht:To R hp.length ⟨[(0,v)],hp1,g1⟩ ⟨[(0,x)],hp2,g2⟩):Does P R f args hp g (.ret x) hp2 g2:=by
 refine⟨fun FM ρ w vs ok hvs=>(h.h FM ρ w vs ok hvs).mono (fun e w' he=>?_)⟩
 obtain⟨FM',ρ',⟨u,rfl,hu⟩,e2,e3⟩:=he
 obtain⟨FM'',ρ'',d1,d2,d3⟩:=finish_to (k0:=hp.length) (s:=⟨[(0,v)],hp1,g1⟩) ok.rel.len e2 e3 hu ht rfl rfl
 exact⟨FM'',ρ'',⟨u,rfl,d1⟩,d2,d3⟩
theorem does_frz {f:FuncId}{args:List AV}{hp hp1 hp2:List AObj}{g g1:R.σ}{v x:AV}(k:Nat)(os:List Nat)(h:Does P R f args hp g (.ret v) hp1 g1)(hk:hp.length≤k)(hf:AllP (frzLO os hp1 v))(hv:Below k (frzL os hp1 v))(hb:AllP (obT k (takeO k (killO os hp1))))
  (hh:takeO k (killO os hp1)=hp2) (hx:frzL os hp1 v=x):Does P R f args hp g (.ret x) hp2 g1:=by
 subst hh hx
 exact does_to h (To.trans (to_frzL os hp1 v hf) (to_trunc k hk [0] (s:=⟨[(0,frzL os hp1 v)],killO os hp1,g1⟩) (AllP.append.2 ⟨⟨hv,trivial⟩,hb⟩)))
end
end Go.Avm
namespace Go.Avm
open Go
theorem hrel_keep {FM FM':Mem}{ρ:Plc}{hp:List AObj}{w w':World}(h:HRel FM ρ hp w)(h1:∀b o,FM' b=some o→w'.heap[b]? = some o)(h2:∀b o,FM b=some o→FM' b=some o)(h3:∀b,InB ρ b→w'.heap[b]? = w.heap[b]?)(h4:∀b,InB ρ b→FM b=none→FM' b=none)(h5:w.heap.size≤w'.heap.size):HRel FM' ρ hp w':=by
 refine⟨h1,h.len,fun i p hi=>?_,h.inj⟩
 obtain⟨k1,k2⟩:=h.obj i p hi
 refine⟨fun hre=>Nat.lt_of_lt_of_le (k1 hre) h5,?_⟩
 cases hx:getO hp i with
 |dead=>trivial
 |map es=>
  rw[hx] at k2
  have hin:InB ρ p.1:=⟨p,mem_of_get hi,rfl,k2.1⟩
  exact objRel_map k2 h2 (h3 _ hin) (h4 _ hin k2.2.1)
 |mapo es=>
  rw[hx] at k2
  have hin:InB ρ p.1:=⟨p,mem_of_get hi,rfl,k2.1⟩
  exact objRel_mapo k2 h2 (Sub.refl _) (h3 _ hin) (h4 _ hin k2.2.1)
 |cells f n g=>
  intro hn
  have hin:InB ρ p.1:=⟨p,mem_of_get hi,rfl,(h.real_cells hi hx hn).1⟩
  rw[hx] at k2
  obtain⟨cs,e',a1,a2,a3,a4,a5,a6⟩:=k2 hn
  exact⟨cs,e',by rw[h3 _ hin];exact a1,a2,a3,fun j hj=>let ⟨x,b1,b2,b3⟩:=a4 j hj;⟨x,b1,b2,Den.mono h2 _ (Sub.refl _) b3⟩,fun hf=>h2 _ _ (a5 hf),fun hf=>h4 _ hin (a6 hf)⟩
section
variable {P:Program}{R:Res}
theorem to_hp {k0:Nat}{s:St R.σ}{hp:List AObj}{g:R.σ}(h1:s.hp=hp)(h2:s.g=g):To R k0 s ⟨s.fr,hp,g⟩:=by
 subst h1 h2;exact To.refl _
theorem ok_nil {hp:List AObj}{g:R.σ}{FM:Mem}{ρ:Plc}{w:World}(ok:Ok R hp g FM ρ w):Ok R [] g FM [] w:=
 ⟨⟨ok.rel.fm,rfl,fun i p hi=>by simp at hi,fun i j p q hi=>by simp at hi⟩,ok.j,fun b hb=>⟨(ok.bd b hb).1,fun ⟨p,hp,_⟩=>by cases hp⟩⟩
theorem ok_beside {hp:List AObj}{g g':R.σ}{FM FM':Mem}{ρ:Plc}{w w':World}(ok:Ok R hp g FM ρ w)(ok':Ok R [] g' FM' [] w')(go:Goes R g FM [] w g' FM' [] w'):Ok R hp g' FM' ρ w':=by
 have off:∀b,InB ρ b→b<w.heap.size∧¬R.B g b:=fun b hb=>by
  obtain⟨p,hp1,hpb,hre⟩:=hb
  obtain⟨i,hi⟩:=List.getElem?_of_mem hp1
  exact⟨by rw[←hpb];exact(ok.rel.obj i p hi).1 hre,fun hB=>(ok.bd b hB).2 ⟨p,hp1,hpb,hre⟩⟩
 have nin:∀b,¬InB [] b:=fun b ⟨p,hp,_⟩=>by cases hp
 refine⟨hrel_keep ok.rel ok'.rel.fm go.ext.fm (fun b hb=>go.ext.keep b (off b hb).1 (nin b) (off b hb).2) (fun b hb hn=>?_) go.ext.size,ok'.j,fun b hb=>⟨(ok'.bd b hb).1,fun hi=>?_⟩⟩
 ·cases hx:FM' b with
  |none=>rfl
  |some o=>
   rcases go.ext.grow b o hx with h|h|h|h
   ·rw[hn] at h;cases h
   ·have:=(off b hb).1;omega
   ·exact absurd h (nin b)
   ·exact absurd h (off b hb).2
 ·rcases go.bn b hb with h|h
  ·exact(ok.bd b h).2 hi
  ·have:=(off b hi).1;omega
end
end Go.Avm
namespace Go.Avm
open Go Go.Maps
section
variable {P:Program}{R:Res}
theorem hrel_new {FM:Mem}{ρ:Plc}{hp:List AObj}{w:World}(hr:HRel FM ρ hp w)(o:Obj)(x:AObj)(q:Nat)(hx:∀FM',(∀b y,FM' b=some y→FM b=some y)→ObjRel FM' (ρ++[(w.heap.size,0,q)]) (w.heap.size,0,q) (w.alloc o) x) :
  HRel FM (ρ++[(w.heap.size,0,q)]) (addO hp x) (w.alloc o)∧Ext noB FM ρ w FM (ρ++[(w.heap.size,0,q)]) (w.alloc o)∧(ρ++[(w.heap.size,0,q)])[hp.length]? = some (w.heap.size,0,q):=by
 have hold:∀b,b<w.heap.size→(w.alloc o).heap[b]? = w.heap[b]?:= fun b hb=>_root_.Go.RowKit.Below.heap_alloc w o b hb
 have hsz:(w.alloc o).heap.size=w.heap.size+1:=by simp
 have hlt:∀b o,FM b=some o→b<w.heap.size:=fun b o h=>(Array.getElem?_eq_some_iff.1 (hr.fm b o h)).1
 refine⟨⟨fun b o h=>by rw[hold b (hlt b o h)];exact hr.fm b o h,by simp[addO,hr.len],fun i p hi=>?_,fun i j p q hi hj hli hlj hpq=>?_⟩,⟨fun _ _ h=>h,fun _ _ h=>.inl h,fun b ⟨p,hp',hb,hp2⟩=>?_,fun b hb _ _=>hold b hb,by omega,rfl,rfl,rfl⟩,by simp[←hr.len]⟩
 ·rcases getElem?_snoc hi with⟨hi,hlt'⟩|⟨rfl,rfl⟩
  ·obtain⟨h1,h2⟩:=hr.obj i p hi
   refine⟨fun hre=>by have:=h1 hre;omega,?_⟩
   rw[getO_addO_lt (by rw[←hr.len];exact hlt')]
   exact h2.mono (Sub.snoc _ _) (fun hl=>hold _ (hr.real hi hl).2)
  ·refine⟨fun _=>by simp[hsz],?_⟩
   rw[hr.len,getO_addO_eq]
   exact hx FM (fun _ _ h=>h)
 ·rcases getElem?_snoc hi with⟨hi,hi'⟩|⟨rfl,rfl⟩ <;> rcases getElem?_snoc hj with⟨hj,hj'⟩|⟨rfl,rfl⟩
  ·rw[getO_addO_lt (by rw[←hr.len];exact hi')] at hli
   rw[getO_addO_lt (by rw[←hr.len];exact hj')] at hlj
   exact hr.inj i j p q hi hj hli hlj hpq
  ·rw[getO_addO_lt (by rw[←hr.len];exact hi')] at hli
   have:=(hr.real hi hli).2
   simp at hpq;omega
  ·rw[getO_addO_lt (by rw[←hr.len];exact hj')] at hlj
   have:=(hr.real hj hlj).2
   simp at hpq;omega
  ·rfl
 ·rcases List.mem_append.1 hp' with h|h
  ·exact .inl ⟨p,h,hb,hp2⟩
  ·simp at h;subst h;exact .inr (by simp at hb;omega)
theorem map_at {hp:List AObj}{g:R.σ}{FM:Mem}{ρ:Plc}{w:World}(ok:Ok R hp g FM ρ w){ob:Nat}{es:List (Value × AV)}(hob:getO hp ob=.map es){v:Value}(hv:Den FM ρ (.mp ob) v) :
  ∃p mes clock,ρ[ob]? = some p∧v=.map (some p.1)∧p.2.1≤p.2.2∧FM p.1=none∧w.heap[p.1]? = some (.map mes clock)∧mes.size=es.length∧∀(i:Nat) (k:Value) (v:AV),es[i]? = some (k,v)→∃e,mes[i]? = some e∧e.key=k∧Den FM [] v e.val:=by
 obtain⟨p,hp,rfl⟩:=hv
 obtain⟨_,h2⟩:=ok.rel.obj ob p hp
 rw[hob] at h2
 obtain⟨a1,a2,mes,clock,a3,a4,a5⟩:=h2
 exact⟨p,mes,clock,hp,rfl,a1,a2,a3,a4,a5⟩
theorem map_keys {es:List (Value × AV)}{mes:Array MapEntry}{FM:Mem}(hl:mes.size=es.length)(h:∀(i:Nat) (k:Value) (v:AV),es[i]? = some (k,v)→∃e,mes[i]? = some e∧e.key=k∧Den FM [] v e.val){i:Nat}{e:MapEntry}(hi:mes.toList[i]? = some e):∃v,es[i]? = some (e.key,v)∧Den FM [] v e.val:=by
 have hlt:i<es.length:=by
  have:=(List.getElem?_eq_some_iff.1 hi).1
  simpa[hl] using this
 obtain⟨e',h1,h2,h3⟩:=h i es[i].1 es[i].2 (by rw[List.getElem?_eq_getElem hlt])
 rw[Array.getElem?_toList] at hi
 rw[hi] at h1
 cases h1
 exact⟨es[i].2,by rw[List.getElem?_eq_getElem hlt,h2],h3⟩
end
end Go.Avm
namespace Go.Avm
open Go
section
variable {P:Program}{R:Res}
theorem opOk_clear {o:Oper}{ev:Operand→AV}{hp:List AObj}{g:R.σ}{t es:Nat}{ei:TyI}{k:Call}{x:Operand}{ob off len cap N:Nat}{ex:Bool}{get0:Nat→AV}
  (ho:o.op=.call k) (hk:k.callee=.builtin .clear) (ha:k.args=#[x]) (ht:k.argTypes=#[t]) (hx:ev x=.sl ob off len cap ex es) (hob:getO hp ob=.cells false N get0) (hei:elemSize (tyOf P) t=some (es,ei)) (hl:0<len) (hlc:len≤cap) (hes:0<es) (hN:off+len*es≤N) :
  OpOk P R o ev hp g .any (setO hp ob (.cells false off get0)) g:=by
 refine⟨fun FM ρ w evc ok hop=>?_⟩
 have hdx:=hop x (by simp[ho,Op.operands,Call.operands,ha])
 obtain⟨e,ti,hti,hd,hee,hse⟩:=elemSize_ok hei
 have hu:=hti.und
 rw[hd] at hu
 rw[hx] at hdx
 obtain⟨q,cap',hq,hxv,hcap,_,hfit⟩:=hdx
 obtain⟨inf,hi1,hi2,hi3,z,hz0,hzs,_,_,hone⟩:=hee.info
 have hz:(zeroValue e).run P w=.ok z w:=by simp[zeroValue,typeInfo,hi1,hz0]
 have hpos:0<N:=Nat.lt_of_lt_of_le (Nat.mul_pos hl hes) (by omega)
 obtain⟨_,hobj'⟩:=ok.rel.obj ob q hq
 rw[hob] at hobj'
 obtain⟨cur,e',hcur,hN',hcsz,hcells,_,hfn⟩:=hobj' hpos
 have hzsz:z.cells.size=es:=by rw[hse];exact hzs
 have hvl:(Builtin.zeroCells z.cells len).toList.length=len*es:=by
  rw[Array.length_toList,size_zeroCells,hzsz]
 have h1:∀v∈(Builtin.zeroCells z.cells len).toList,v.oneCell'=true:=by
  intro v hv
  obtain⟨j,hj⟩:=List.getElem?_of_mem hv
  have hjl:=(List.getElem?_eq_some_iff.1 hj).1
  rw[hvl] at hjl
  have hlt:j%z.cells.size<z.cells.size:=Nat.mod_lt _ (by omega)
  rw[Array.getElem?_toList] at hj
  simp only[Builtin.zeroCells,Array.getElem?_map] at hj
  rw[Array.getElem?_range,if_pos (by rw[hzsz];exact hjl)] at hj
  simp only[Option.map_some,Option.some.injEq] at hj
  rw[←hj,getBang hlt,Array.getD_eq_getD_getElem?,Array.getElem?_eq_getElem hlt]
  exact hone _ (Array.getElem_mem hlt)
 have hst:=run_storeCells_at P q.1 (q.2.1+off) e' (Builtin.zeroCells z.cells len).toList 0 cur w hcur (by rw[hvl];omega) h1
 simp only[Nat.add_zero] at hst
 have hwr:=Wrote.setRow hcur (cur.toList.take (q.2.1+off)++(Builtin.zeroCells z.cells len).toList++cur.toList.drop (q.2.1+off+(Builtin.zeroCells z.cells len).toList.length)).toArray
 have hfit2:q.2.1+off+(Builtin.zeroCells z.cells len).toList.length≤cur.toList.length:=by rw[hvl];simp;omega
 obtain⟨b1,b2⟩:=hrel_set ok.rel hq hob hpos hwr (by rw[List.size_toArray,length_written _ _ _ hfit2];simpa using hcsz) (n:=off) (get:=get0) (by rw[List.size_toArray,length_written _ _ _ hfit2];simp;omega) (fun j hj=>by
  rw[getD_written _ _ _ hfit2,if_neg (by omega)]
  obtain⟨u,u1,u2,u3⟩:=hcells j (by omega)
  have:cur.toList.toArray.getD (q.2.1+j) undef=u:=by
   rw[Array.getD_eq_getD_getElem?,Array.toArray_toList,u1];rfl
  rw[this]
  exact⟨u2,u3⟩)
 obtain⟨c1,c2⟩:=own_step ok b1 b2 (Sub.refl _)
 refine⟨.value (.tuple #[]),_,FM,ρ,_,?_,rfl,trivial,c1,c2⟩
 cases len with
 |zero=>omega
 |succ l=>simp[execOp,ho,resolve,hk,ha,ht,invoke,builtin,hxv,Builtin.clear_,run_underlying hu,hz,hst]
end
end Go.Avm
namespace Go.Avm
open Go
section
variable {P:Program}{R:Res}
theorem Le.nil_auto {s n s':Nat}{f f':Nat→Nat→AV}:Le (.fz .nil s n f) (.fz .auto s' 0 f'):=fun FM ρ v h=>
 leK_ok (k:=.nil) (k':=.auto) (n:=0) (s:=s') (f:=f') (g:=f') rfl (fun _ _ _ _=>rfl) FM ρ v (Le.nil FM ρ v h)
theorem elemSize_of {ty:Nat→Option TyI}{t es:Nat}(h:(match elemSize ty t with|some p=>Nat.beq p.1 es|none=>false)=true):∃ei,elemSize ty t=some (es,ei):=by
 cases hx:elemSize ty t with
 |none=>rw[hx] at h;cases h
 |some p=>
  rw[hx] at h
  have:=Nat.eq_of_beq_eq_true h
  exact⟨p.2,by rw[←this]⟩
theorem opOk_eff {o:Oper}{ev:Operand→AV}{hp:List AObj}{g:R.σ}{orc:Orc}{out:Out}(h:runEff (tyOf P) hp ev orc o.op=some out)(hob:AllP out.ob):OpOk P R o ev hp g out.v out.hp g:=by
 refine⟨fun FM ρ w evc ok hop=>?_⟩
 classical
 let ev':Operand→AV:=fun x=>if x∈o.op.operands then ev x else .any
 have hev':∀x,Den FM ρ (ev' x) (evc x):=by
  intro x
  by_cases hx:x∈o.op.operands
  ·simp only[ev',hx,if_true];exact hop x hx
  ·simp only[ev',hx,if_false];trivial
 have hsame:∀x∈o.op.operands,ev x=ev' x:=fun x hx=>by simp only[ev',hx,if_true]
 rw[runEff_ev hsame] at h
 obtain⟨nx,w',ρ',u,r1,r2,r3,r4,r5,r6⟩:=runEff_sound ok.rel hev' h hob
 obtain⟨ok',go'⟩:=own_step ok r4 r5 r6
 exact⟨nx,w',FM,ρ',u,r1,r2,r3,ok',go'⟩
theorem opOk_to {o:Oper}{ev:Operand→AV}{hp hp1 hp2:List AObj}{g g1 g2:R.σ}{v x:AV}(h:OpOk P R o ev hp g v hp1 g1)(ht:To R hp.length ⟨[(0,v)],hp1,g1⟩ ⟨[(0,x)],hp2,g2⟩):OpOk P R o ev hp g x hp2 g2:=by
 refine⟨fun FM ρ w evc ok hop=>?_⟩
 obtain⟨nx,w',FM',ρ',u,r1,r2,r3,r4,r5⟩:=h.h FM ρ w evc ok hop
 obtain⟨FM'',ρ'',d1,d2,d3⟩:=finish_to (k0:=hp.length) (s:=⟨[(0,v)],hp1,g1⟩) ok.rel.len r4 r5 r3 ht rfl rfl
 exact⟨nx,w',FM'',ρ'',u,r1,r2,d1,d2,d3⟩
theorem opOk_any {o:Oper}{ev:Operand→AV}{hp:List AObj}{g:R.σ}{v:AV}(h:OpOk P R o ev [] g v [] g)(hops:∀x∈o.op.operands,Below 0 (ev x)):OpOk P R o ev hp g v hp g:=by
 refine⟨fun FM ρ w evc ok hop=>?_⟩
 obtain⟨nx,w',FM',ρ',u,r1,r2,r3,r4,r5⟩:=h.h FM [] w evc (ok_nil ok) (fun x hx=>by simpa using den_below (k:=0) _ (hop x hx) (hops x hx))
 obtain rfl:ρ'=[]:=nil_of_len (by rw[r4.rel.len];rfl)
 refine⟨nx,w',FM',ρ,u,r1,r2,r3.lift,ok_beside ok r4 r5,⟨r5.ext.fm,fun b o hb=>?_,fun b hb=>.inl hb,fun b h1 h2 h3=>r5.ext.keep b h1 (fun ⟨p,hp,_⟩=>by cases hp) h3,r5.ext.size,r5.ext.os,r5.ext.tape,r5.ext.output⟩,r5.bn,Sub.refl _⟩
 rcases r5.ext.grow b o hb with h1|h1|⟨p,hp,_⟩|h1
 ·exact .inl h1
 ·exact .inr (.inl h1)
 ·cases hp
 ·exact .inr (.inr (.inr h1))
theorem opOk_lit {o:Oper}{ev:Operand→AV}{hp:List AObj}{g:R.σ}{n es N:Nat}{get:Nat→AV}{tag:Tag}{x:AV}(h:runEff (tyOf P) [] ev .none o.op=some ⟨.sl 0 0 n n true es,[.cells false N get],[],tag⟩)(hN:n*es≤N)(hb:∀j,j<N→Below 0 (get j))(hops:∀y∈o.op.operands,Below 0 (ev y))
  (hx:Le (.fz .exa es n (fun i j=>get (0+i*es+j))) x):OpOk P R o ev hp g x hp g:=by
 refine opOk_any ?_ hops
 have h1:OpOk P R o ev [] g (.sl 0 0 n n true es) [.cells false N get] g:=opOk_eff h trivial
 have ht:To R 0 ⟨[(0,.sl 0 0 n n true es)],[.cells false N get],g⟩ ⟨[(0,frzL [0] [.cells false N get] (.sl 0 0 n n true es))],killO [0] [.cells false N get],g⟩:=to_frzL [0] _ _ (by exact⟨hb,⟨by omega,Nat.le_refl _⟩,trivial⟩)
 have h2:=opOk_to h1 (To.trans ht (to_trunc 0 (Nat.le_refl _) [0] (s:=⟨[(0,frzL [0] [.cells false N get] (.sl 0 0 n n true es))],killO [0] [.cells false N get],g⟩) (by exact⟨trivial,trivial⟩)))
 refine⟨fun FM ρ w evc ok hop=>?_⟩
 obtain⟨nx,w',FM',ρ',u,r1,r2,r3,r4,r5⟩:=h2.h FM ρ w evc ok hop
 refine⟨nx,w',FM',ρ',u,r1,r2,hx _ _ _ ?_,r4,r5⟩
 have e:lk [(0,frzL [0] [AObj.cells false N get] (.sl 0 0 n n true es))] 0=.fz (bif true&&Nat.beq n n then .exa else .opn) es n (fun i j=>get (0+i*es+j)):=rfl
 have r3:Den FM' ρ' (lk [(0,frzL [0] [AObj.cells false N get] (.sl 0 0 n n true es))] 0) u:=r3
 rw[e,Nat.beq_refl] at r3
 exact r3
theorem LeO.box {a:AV}{f:Nat→AV}{x:AV}(h:f 0=x)(hx:Le a x):LeO (.cells false 1 (fun _=>a)) (.cells false 1 f):=
 ⟨rfl,Nat.le_refl _,fun j hj=>by have:j=0:=by omega
                                 subst this;rw[h];exact hx⟩
end
end Go.Avm
namespace Go.Avm
open Go Go.WideShapes Go.ChangeShapes
def belowAll (ev:Operand→AV):List Operand→Prop
 |[]=>True
 |x::r=>Below 0 (ev x)∧belowAll ev r
theorem belowAll_mem {ev:Operand→AV}:∀{l:List Operand},belowAll ev l→∀x∈l,Below 0 (ev x)
 |[],_,x,hx=>by cases hx
 |y::r,h,x,hx=>by
  rcases List.mem_cons.1 hx with rfl|hx
  ·exact h.1
  ·exact belowAll_mem h.2 x hx
def litShape:Option Out→Option (Nat × Nat)
 |some ⟨.sl 0 0 n m true es,[.cells false N _],[],_⟩=>bif Nat.beq n m&&Nat.beq N (n*es) then some (n,es) else none
 |_=>none
def litGet:Option Out→Nat→AV
 |some ⟨_,[.cells _ _ get],_,_⟩=>get
 |_=>fun _=>.any
theorem opOk_litB {P:Program}{R:Res}{o:Oper}{ev:Operand→AV}{hp:List AObj}{g:R.σ}{n es:Nat}{x:AV}{k:Fz}{g':Nat→Nat→AV}(h:litShape (runEff (tyOf P) [] ev .none o.op)=some (n,es))(hops:belowAll ev o.op.operands.toList)
  (hx:x=.fz k es n g') (hk:leK .exa k n=true) (hg:∀i,i<n→∀j,j<es→litGet (runEff (tyOf P) [] ev .none o.op) (i*es+j)=g' i j) (hb:∀i,i<n→∀j,j<es→Below 0 (g' i j)):OpOk P R o ev hp g x hp g:=by
 obtain⟨out,ho⟩:∃out,out=runEff (tyOf P) [] ev .none o.op:=⟨_,rfl⟩
 rw[←ho] at h hg
 unfold litShape at h
 split at h
 ·rename_i n' m es' N get tag
  cases hb1:(Nat.beq n' m&&Nat.beq N (n'*es')) with
  |false=>rw[hb1] at h;cases h
  |true=>
   rw[hb1] at h
   simp only[cond_true,Option.some.injEq,Prod.mk.injEq] at h
   obtain⟨rfl,rfl⟩:=h
   simp only[Bool.and_eq_true,Nat.beq_eq] at hb1
   obtain⟨rfl,rfl⟩:=hb1
   have hg':∀i,i<n'→∀j,j<es'→get (i*es'+j)=g' i j:=hg
   refine opOk_lit ho.symm (Nat.le_refl _) (fun j hj=>?_) (fun y hy=>belowAll_mem hops y (by simpa using hy)) (by rw[hx];exact leK_ok hk (fun i j hi hj=>by rw[←hg' i hi j hj,Nat.zero_add]))
   have hes:0<es':=by
    rcases Nat.eq_zero_or_pos es' with h0|h0
    ·rw[h0] at hj;simp at hj
    ·exact h0
   have h1:j/es'<n':=Nat.div_lt_of_lt_mul (by rw[Nat.mul_comm];exact hj)
   have h2:j%es'<es':=Nat.mod_lt _ hes
   have:=hg' _ h1 _ h2
   rw[Nat.mul_comm,Nat.div_add_mod] at this
   rw[this]
   exact hb _ h1 _ h2
 ·cases h
def memOf (W:World):Mem:=fun b=>W.heap[b]?
theorem fmCell_memOf {W:World}{b j:Nat}{x:Value}(h:W.cell? ⟨b,j,none⟩=some x):fmCell (memOf W) b j=some x:=by
 unfold World.cell? at h
 unfold fmCell memOf
 split at h
 ·rename_i c e f hb
  rw[hb]
  simpa using h
 ·cases h
def CellsR (W:World)(n:Nat)(get:Nat→AV)(cs:List Value):Prop:=
 cs.length=n∧∀j,j<n→∃x,cs[j]? = some x∧x.oneCell'=true∧Den (memOf W) [] (get j) x
def Rea (P:Program)(t n:Nat){α:Type}(Q:α→Prop)(enc:α→Nat→AV):Prop:=
 ∀(H:Type) (en:TypeId × Value→H) (W:World) (fuel:Nat) (cs:List Value) (x:DataW H × List MemPlace),
  DataW.trod en P W 0 (fun _=>true) true fuel t cs=some x→∃a,Q a∧CellsR W n (enc a) cs
section
variable {P:Program}{t:Nat}
theorem Rea.map {α β:Type}{n:Nat}{Q:α→Prop}{enc:α→Nat→AV}{Q':β→Prop}{enc':β→Nat→AV}(h:Rea P t n Q enc)(f:α→β)(hq:∀a,Q a→Q' (f a))(he:∀a j,j<n→enc a j=enc' (f a) j):Rea P t n Q' enc':=by
 intro H en W fuel cs x hx
 obtain⟨a,h1,h2,h3⟩:=h H en W fuel cs x hx
 exact⟨f a,hq a h1,h2,fun j hj=>by rw[←he a j hj];exact h3 j hj⟩
theorem cellsR_one {W:World}{v:Value}{g:Nat→AV}(h1:v.oneCell'=true)(h2:Den (memOf W) [] (g 0) v):CellsR W 1 g [v]:=
 ⟨rfl,fun j hj=>by
  have:j=0:=by omega
  subst this
  exact⟨v,rfl,h1,h2⟩⟩
theorem rd_int {k:IntKind}(ht:P.underlying t=some (.int k)):Rea P t 1 (fun n:Int=>(Lit.int k n).wf=true) (fun n _=>.int k n):=by
 intro H en W fuel cs x hx
 obtain⟨n,rfl,_,hw⟩:=DataW.trod_int ht hx
 exact⟨n,hw,cellsR_one rfl rfl⟩
theorem rd_bool (ht:P.underlying t=some .bool):Rea P t 1 (fun _:Bool=>True) (fun b _=>.bool b):=by
 intro H en W fuel cs x hx
 obtain⟨b,rfl,_⟩:=DataW.trod_bool ht hx
 exact⟨b,trivial,cellsR_one rfl rfl⟩
def ReaF (P:Program)(fs:List Field)(o n:Nat){α:Type}(Q:α→Prop)(enc:α→Nat→AV):Prop:=
 ∀(H:Type) (en:TypeId × Value→H) (W:World) (fuel:Nat) (cs:List Value),
  (∀f∈fs,∃x:DataW H × List MemPlace,DataW.trod en P W 0 (fun _=>true) true fuel f.type ((cs.drop f.offset).take (P.cellsOf f.type))=some x) →
  ∃a,Q a∧∀j,j<n→∃x,cs[o+j]? = some x∧x.oneCell'=true∧Den (memOf W) [] (enc a j) x
theorem rdF_nil {o:Nat}:ReaF P [] o 0 (fun _:Unit=>True) (fun _ _=>.any):=
 fun _ _ _ _ _ _=>⟨(),trivial,fun j hj=>absurd hj (by omega)⟩
theorem rdF_cons {α β:Type}{f:Field}{fs:List Field}{o m n:Nat}{Q:α→Prop}{enc:α→Nat→AV}{Q':β→Prop}{enc':β→Nat→AV}
  (ho:f.offset=o) (hm:P.cellsOf f.type=m) (h:Rea P f.type m Q enc) (h':ReaF P fs (o+m) n Q' enc') :
  ReaF P (f::fs) o (m+n) (fun x:α × β=>Q x.1∧Q' x.2) (fun x j=>if j<m then enc x.1 j else enc' x.2 (j-m)):=by
 intro H en W fuel cs hx
 obtain⟨x,hx1⟩:=hx f (by simp)
 obtain⟨a,q1,l1,c1⟩:=h H en W fuel _ x hx1
 obtain⟨b,q2,c2⟩:=h' H en W fuel cs (fun g hg=>hx g (by simp[hg]))
 refine⟨(a,b),⟨q1,q2⟩,fun j hj=>?_⟩
 by_cases hjm:j<m
 ·obtain⟨y,y1,y2,y3⟩:=c1 j hjm
  refine⟨y,?_,y2,by show Den _ _ (if j<m then _ else _) _;rw[if_pos hjm];exact y3⟩
  rw[hm,ho,List.getElem?_take,if_pos hjm,List.getElem?_drop] at y1
  exact y1
 ·obtain⟨y,y1,y2,y3⟩:=c2 (j-m) (by omega)
  exact⟨y,by rw[←y1];congr 1;omega,y2,by show Den _ _ (if j<m then _ else _) _;rw[if_neg hjm];exact y3⟩
theorem rd_struct {α:Type}{fs:Array Field}{n:Nat}{Q:α→Prop}{enc:α→Nat→AV}(ht:P.underlying t=some (.struct fs))(hn:P.cellsOf t=n)(h:ReaF P fs.toList 0 n Q enc):Rea P t n Q enc:=by
 intro H en W fuel cs x hx
 obtain⟨xs,m,rfl,_,hl,hxs,hf⟩:=DataW.trod_struct ht hx
 obtain⟨a,q,c⟩:=h H en W m cs (fun f hfm=>by
  obtain⟨i,hi,hif⟩:=List.getElem_of_mem hfm
  have h1:i<fs.size:=by simpa using hi
  have h2:fs[i]? = some f:=by simp[h1,←hif]
  have:=hf i f h2
  rw[List.getElem?_eq_getElem (by omega)] at this
  exact⟨_,this⟩)
 exact⟨a,q,by rw[hl,hn],fun j hj=>by simpa using c j hj⟩
def QL {α:Type}(Q:α→Prop)(x:Fz × List α):Prop:=(∀a∈x.2,Q a)∧x.2.length≤maxLen
theorem mapM_cells {W:World}{a:Addr}:∀{l:List Nat} {cs:List Value},l.mapM (fun i=>W.cell? (a.add i))=some cs→∀i,i<l.length→W.cell? (a.add (l.getD i 0))=cs[i]?
 |[],_,_,i,hi=>by simp at hi
 |x::r,cs,h,i,hi=>by
  simp only[List.mapM_cons,Option.bind_eq_bind,Option.bind_eq_some_iff,Option.pure_def,Option.some.injEq] at h
  obtain⟨y,h1,ys,h2,rfl⟩:=h
  cases i with
  |zero=>simpa using h1
  |succ i=>simpa using mapM_cells h2 i (by simpa using hi)
theorem cells_at {W:World}{base:Nat}{a:Addr}{n:Nat}{cs:List Value}(h:W.cells? base a n=some cs){j:Nat}(hj:j<n):W.cell? (a.add j)=cs[j]?:= by
 unfold World.cells? at h
 split at h
 ·have:=mapM_cells h j (by simpa using hj)
  simpa[List.getD,hj] using this
 ·cases h
theorem add_add (a:Addr)(i j:Nat):(a.add i).add j=a.add (i+j):=by
 unfold Addr.add
 by_cases hi:i=0
 ·subst hi;simp
 ·by_cases hj:j=0
  ·subst hj;simp
  ·rw[if_neg hi,if_neg hj,if_neg (by omega),Nat.add_assoc]
theorem rd_slice {α:Type}[Inhabited α]{e n:Nat}{Q:α→Prop}{enc:α→Nat→AV}(ht:P.underlying t=some (.slice e))(hc:P.cellsOf e=n)(hn:0<n)(h:Rea P e n Q enc) :
  Rea P t 1 (QL Q) (fun x _=>.fz x.1 n x.2.length (fun i=>enc (x.2.getD i default))):=by
 intro H en W fuel cs x hx
 rcases DataW.trod_slice ht hx with⟨rfl,_⟩|⟨a,len,cap,elems,rest,m,rfl,rfl,_,_,hlc,hcm,hel,hat,_,_⟩
 ·refine⟨(.nil,[]),⟨fun a ha=>(by cases ha),Nat.zero_le _⟩,cellsR_one rfl ?_⟩
  exact⟨fun _=>⟨rfl,none,0,rfl,rfl,rfl⟩,fun h=>(by cases h)⟩
 ·by_cases h0:len=0
  ·subst h0
   refine⟨(.may,[]),⟨fun a ha=>(by cases ha),Nat.zero_le _⟩,cellsR_one rfl ?_⟩
   exact⟨fun _=>⟨rfl,some a,cap,rfl,fun h=>(by cases h)⟩,fun h=>(by cases h)⟩
  ·have key:∀i,∃y:α,i<len→Q y∧∀j,j<n→∃x,W.cell? (a.add (i*n+j))=some x∧x.oneCell'=true∧Den (memOf W) [] (enc y j) x:=by
    intro i
    by_cases hi:i<len
    ·have h1:=hat i hi
     rw[List.getElem?_eq_getElem (by omega),hc] at h1
     obtain⟨ci,e1,e2⟩:=Option.bind_eq_some_iff.1 h1
     obtain⟨y,q,l1,c1⟩:=h H en W m ci _ e2
     refine⟨y,fun _=>⟨q,fun j hj=>?_⟩⟩
     obtain⟨x,x1,x2,x3⟩:=c1 j hj
     have:=cells_at e1 hj
     rw[x1] at this
     refine⟨x,?_,x2,x3⟩
     rw[←this,add_add]
    ·exact⟨default,fun h=>absurd h hi⟩
   let f:Nat→α:=fun i=>Classical.choose (key i)
   have hf:∀i,i<len→Q (f i)∧∀j,j<n→∃x,W.cell? (a.add (i*n+j))=some x∧x.oneCell'=true∧Den (memOf W) [] (enc (f i) j) x:=fun i=>Classical.choose_spec (key i)
   have hll:((List.range len).map f).length=len:=by simp
   have hget:∀i,i<len→((List.range len).map f).getD i default=f i:=fun i hi=>by simp[List.getD,hi]
   obtain⟨b,off,sp⟩:=a
   have hsp:sp=none:=by
    obtain⟨x,x1,_⟩:=(hf 0 (by omega)).2 0 hn
    simpa[Addr.add] using World.cell?_spot x1
   subst hsp
   refine⟨(.opn,(List.range len).map f),⟨fun y hy=>?_,by simp only[hll];omega⟩,cellsR_one rfl ?_⟩
   ·obtain⟨i,hi,rfl⟩:=List.mem_map.1 hy
    exact(hf i (by simpa using hi)).1
   ·refine⟨fun h=>(by cases h),fun _=>⟨b,off,cap,by rw[hll],by rw[hll];exact hlc,fun h=>(by rcases h with h|h <;> cases h),fun i j hi hj=>?_⟩⟩
    rw[hll] at hi
    obtain⟨x,x1,x2,x3⟩:=(hf i hi).2 j hj
    refine⟨x,fmCell_memOf (by rw[←x1,add_plain,Nat.add_assoc]),x2,?_⟩
    show Den _ _ (enc (((List.range len).map f).getD i default) j) x
    rw[hget i hi]
    exact x3
def Arg (P:Program)(t:TypeId){α:Type}(Q:α→Prop)(A:α→AV):Prop:=
 ∀(H:Type) (en:TypeId × Value→H) (W:World) (base:Nat) (v:Value) (d:DataW H) (ps:List MemPlace),
  Value.okWide P W .any base t v→DataW.Trod en P W 0 (fun _=>true) true t v d ps→∃a,Q a∧Den (memOf W) [] (A a) v
theorem arg_struct {α:Type}{fs:Array Field}{n:Nat}{Q:α→Prop}{enc:α→Nat→AV}(ht:P.underlying t=some (.struct fs))(h:Rea P t n Q enc):Arg P t Q (fun a=>.agg n (enc a)):=by
 intro H en W base v d ps hok ⟨fuel,hx⟩
 obtain⟨cs,rfl,hcs⟩:=okWide_struct ht hok
 obtain⟨y,q,hl,hc⟩:=h H en W fuel _ _ hx
 have hl':cs.size=n:=by simpa[Value.cells] using hl
 refine⟨y,q,cs,rfl,hl',fun j hj=>?_⟩
 obtain⟨x,h1,h2,h3⟩:=hc j hj
 have:cs.getD j undef=x:=by
  have h1:cs[j]? = some x:=by simpa[Value.cells] using h1
  simp[Array.getD_eq_getD_getElem?,h1]
 rw[this]
 exact⟨h2,h3⟩
def ArgsOk (P:Program)(ts:List TypeId)(X:List AV→Prop):Prop:=
 ∀(H:Type) (en:TypeId × Value→H) (W:World) (base:Nat) (vs:List Value) (ds:List (DataW H)) (ps:List MemPlace),
  (∀(j:Nat) (t:TypeId) (v:Value),ts[j]? = some t→vs[j]? = some v→Value.okWide P W .any base t v)→DataW.TrodAll en P W 0 (fun _=>true) true ts vs ds ps →
  ∃avs:List AV,X avs∧vs.length=avs.length∧∀i,i<avs.length→Den (memOf W) [] (nth avs i) (vs.getD i undef)
theorem args_nil:ArgsOk P [] (fun l=>l=[]):=by
 intro H en W base vs ds ps _ h
 obtain⟨rfl,rfl,rfl⟩:=trodAll_nil h
 exact⟨[],rfl,rfl,fun i hi=>absurd hi (by simp)⟩
theorem args_cons {α:Type}{ts:List TypeId}{Q:α→Prop}{A:α→AV}{X:List AV→Prop}(h:Arg P t Q A)(h':ArgsOk P ts X):ArgsOk P (t::ts) (fun l=>∃a,Q a∧∃r,X r∧l=A a::r):=by
 intro H en W base vs ds ps hok hT
 obtain⟨v,vs',d,ds',p,q,rfl,rfl,rfl,h1,h2⟩:=trodAll_cons hT
 obtain⟨a,qa,da⟩:=h H en W base v d p (hok 0 t v rfl rfl) h1
 obtain⟨r,xr,lr,dr⟩:=h' H en W base vs' ds' q (fun j u w hu hw=>hok (j+1) u w hu hw) h2
 refine⟨A a::r,⟨a,qa,r,xr,rfl⟩,by simp[lr],fun i hi=>?_⟩
 cases i with
 |zero=>exact da
 |succ i=>exact dr i (by simpa using hi)
end
section
variable {H:Type}{enc:TypeId × Value→H}{P:Program}
theorem post_of_below {f:Func}{s:ChangeSpec}{apart fresh handsOn again:Bool}{W W':World}{args:Array Value}{v:Value}{ds gs:List (DataW H)}{before pa pv:List MemPlace}
  (hW:DataW.Whole enc P f.params.toList s.vars apart W args.toList ds gs before)
  (hres:∀(b:Nat) (sp:Nat→Bool) (hd:Bool),DataW.TrodAll enc P W' b sp hd f.resultTypes.toList (v.resultList f.resultTypes.size) (s.fn H (ds++gs)).results [])
  (hargs:∀sp:Nat→Bool,(∀p∈before,sp p.block=true)→DataW.TrodAll enc P W' 0 sp true f.params.toList args.toList (s.fn H (ds++gs)).args pa)
  (hvars:∀sp:Nat→Bool,(∀p∈before,sp p.block=true)→DataW.TrodVars enc P W' sp s.vars (s.fn H (ds++gs)).vars pv)
  (hps:before=pa++pv) (hb:RowKit.Below W.heap.size W W')
  (hok:∀(j:Nat) (t:TypeId) (r:Value),f.resultTypes[j]? = some t→(v.resultList f.resultTypes.size)[j]? = some r→Value.okWide P W' .any 0 t r) :
  s.post enc P f apart fresh handsOn again W args v W':=by
 have hlt:∀p∈before,p.block<W.heap.size:=fun p hp=>hW.lt p hp
 have hold:∀p∈before,(fun b=>decide (b<W.heap.size)) p.block=true:=fun p hp=>by simpa using hlt p hp
 refine⟨ds,gs,before,[],pa,pv,hW,hres _ _ _,hargs _ hold,hvars _ hold,World.keptBut_mono (fun p hp=>⟨hp,?_⟩) (hb.frame (·∈before)),fun _=>?_⟩
 ·rw[hps,List.mem_append] at hp
  exact Or.inr hp
 ·obtain⟨_,_,_,_,_,hz,hn⟩:=hW
  refine⟨hok,_,_,([]++pa)++pv,⟨[]++pa,pv,trodAll_append (hargs _ (fun _ _=>rfl)) (hres _ _ _),hvars _ (fun _ _=>rfl),rfl,?_,?_⟩,?_⟩
  ·intro b off hp
   have hin:MemPlace.cell b off∈before:=by rw[hps];simpa using hp
   rw[hb.frozen (hlt _ hin)]
   exact hz b off hin
  ·intro ha
   have:=hn ha
   rw[hps] at this
   simpa using this
  ·intro p hp _
   rw[hps]
   simpa using hp
theorem same_below {W W':World}(hb:RowKit.Below W.heap.size W W'){p:MemPlace}(hp:p.block<W.heap.size):W.sameAt W' p:=by
 cases p with
 |cell b off=>exact hb.cell (p:=⟨b,off,none⟩) hp
 |map b=>exact hb.block b hp
theorem trodAll_stays {W W':World}{sp:Nat→Bool}(hl:laidOutB P=true):∀{ts:List TypeId} {vs:List Value} {ds:List (DataW H)} {ps:List MemPlace},
  (∀t∈ts,P.readableRec t=true∧t<P.types.size)→DataW.TrodAll enc P W 0 (fun _=>true) true ts vs ds ps→(∀p∈ps,W.sameAt W' p)→(∀p∈ps,sp p.block=true)→DataW.TrodAll enc P W' 0 sp true ts vs ds ps
 |[],_,_,_,_,h,_,_=>by
  obtain⟨rfl,rfl,rfl⟩:=trodAll_nil h
  exact rfl
 |t::ts,_,_,_,hr,h,h1,h2=>by
  obtain⟨v,vs,d,ds,p,q,rfl,rfl,rfl,⟨fuel,hx⟩,hT⟩:=trodAll_cons h
  obtain⟨r1,r2⟩:=hr t (by simp)
  refine⟨p,q,⟨fuel,?_⟩,trodAll_stays hl (fun u hu=>hr u (by simp[hu])) hT (fun x hx=>h1 x (by simp[hx])) (fun x hx=>h2 x (by simp[hx])),rfl⟩
  exact DataW.trod_stays (kids_book hl r1) (book_sized r1) (fun h=>by cases h) ⟨r2,book_self t⟩ hx (fun x hx=>h1 x (by simp[hx])) (fun x hx=>h2 x (by simp[hx]))
end
end Go.Avm
namespace Go.Avm
open Go
end Go.Avm
namespace Go.Avm
open Go Go.WideShapes Go.ChangeShapes
def Tabs (gs:List (Nat × List Int))(FM:Mem):Prop:=∀b zs,(b,zs)∈gs→∀i,i<zs.length→fmCell FM b i=some (.int .u8 (zs.getD i 0))
theorem tabs_mono {gs:List (Nat × List Int)}{FM FM':Mem}(h:∀b o,FM b=some o→FM' b=some o)(ht:Tabs gs FM):Tabs gs FM':=fun b zs hm i hi=>fmCell_mono h (ht b zs hm i hi)
def Res.tab (gs:List (Nat × List Int)):Res:=⟨Unit,fun _ _=>False,fun _ FM _=>Tabs gs FM,fun h k=>tabs_mono k.fm h⟩
instance (gs:List (Nat × List Int)):Tab (Tabs gs) (Res.tab gs):=⟨fun h=>h⟩
def isGlob (b:Nat):Operand→Bool
 |.global c=>Nat.beq b c
 |_=>false
def evTab (b:Nat)(zs:List Int)(ev:Operand→AV)(x:Operand):AV:=bif isGlob b x then .fp zs.length (fun j=>.int .u8 (zs.getD j 0)) else ev x
theorem opOk_tab {P:Program}{R:Res}{gs:List (Nat × List Int)}[hT:Tab (Tabs gs) R]{o:Oper}{ev:Operand→AV}{hp:List AObj}{g:R.σ}{x:AV}(b:Nat)(zs:List Int)(hb:(b,zs)∈gs)(hg:ev (.global b)=.val (.pointer (some ⟨b,0,none⟩))){out:Out}
  (h:runPure (tyOf P) hp (evTab b zs ev) .none o.op=some out) (hob:AllP out.ob) (hx:Le out.v x):OpOk P R o ev hp g x hp g:=by
 refine⟨fun FM ρ w evc okw hop=>?_⟩
 classical
 have htab:=hT.h okw.j
 let ev':Operand→AV:=fun y=>if y∈o.op.operands then evTab b zs ev y else .any
 have hev':∀y,Den FM ρ (ev' y) (evc y):=by
  intro y
  by_cases hy:y∈o.op.operands
  ·simp only[ev',hy,if_true]
   have h1:=hop y hy
   unfold evTab
   cases hi:isGlob b y with
   |false=>exact h1
   |true=>
    have e:y=.global b:=by
     cases y with
     |global c=>rw[Nat.eq_of_beq_eq_true hi]
     |_=>cases hi
    rw[e,hg] at h1
    rw[e]
    obtain⟨h1,_⟩:=h1
    refine⟨b,0,h1,fun j hj=>⟨.int .u8 (zs.getD j 0),?_,rfl,rfl⟩⟩
    rw[Nat.zero_add]
    exact htab b zs hb j hj
  ·simp only[ev',hy,if_false];trivial
 have hsame:∀y∈o.op.operands,evTab b zs ev y=ev' y:=fun y hy=>by simp only[ev',hy,if_true]
 rw[runPure_ev hsame] at h
 obtain⟨⟨v,h1,h2⟩,h3⟩:=runPure_sound okw.rel hev' h hob
 exact⟨_,w,FM,ρ,v,h1,rfl,hx _ _ _ h2,okw,Ext.refl _ _ _ _,fun _ h=>.inl h,Sub.refl _⟩
theorem laid_tail {P:Program}{W:World}{x:String × DataW Unit}{r:List (String × DataW Unit)}(h:laidMet P (x::r) W):laidMet P r W:=by
 obtain⟨ps,⟨g,t,cs,fuel,p,q,_,_,_,_,hr,rfl⟩,hn,hall⟩:=h
 exact⟨q,hr,(List.nodup_append.1 hn).2.1,fun b off hb=>hall b off (List.mem_append_right _ hb)⟩
theorem tabs_nil {FM:Mem}:Tabs [] FM:=fun b zs hm=>(by cases hm)
theorem tabs_cons {P:Program}{W:World}{name:String}{zs:List Int}{rest:List (String × DataW Unit)}{g:Nat}{t e:TypeId}{n:Nat}{gs:List (Nat × List Int)}
  (hg:P.globalNamed name=some g) (hty:(P.globals[g]?).map (·.type)=some t) (ht:P.underlying t=some (.array n e)) (he:P.underlying e=some (.int .u8)) (hce:P.cellsOf e=1) (hct:P.cellsOf t=n)
  (h:laidMet P ((name,Lib.tabData .u8 zs)::rest) W) (hr:laidMet P rest W→Tabs gs (memOf W)):Tabs ((g,zs)::gs) (memOf W):=by
 intro b ys hm i hi
 rcases List.mem_cons.1 hm with e1|hm
 ·cases e1
  exact fmCell_memOf ((Lib.tabIs_of_head hg hty ht he hce hct h).cell hg i hi)
 ·exact hr (laid_tail h) b ys hm i hi
section
variable {H:Type}{enc:TypeId × Value→H}{P:Program}
theorem law_laid {a:Assume}{C:Checked}{os:Os}{f:FuncId}{fn:Func}{s:ChangeSpec}{F:Stop.Interp}{conds:List PathCond}{apart fresh handsOn again:Bool}{tb:TypeId}{X:List AV→Prop}{laid:List (String × DataW Unit)}{gs:List (Nat × List Int)}
  (own:ownKnob C.prog.godebug=none) (started:os.Started) (noInit:C.prog.inits.idxOf? f=none) (hfn:C.prog.funcs[f]? = some fn)
  (witness:∃(w:World) (tape:Tape) (i:Input),w.os=os∧(w.forCall tape i).Shaped C.prog∧i.vars=[]∧Input.okWide C.prog (w.forCall tape i) .any w.heap.size f i ∧
   (OpenSpec.ofChange s).preRow enc C.prog fn conds apart laid (w.forCall tape i).memory i.args∧a.holds C.prog (lone (Frame.enter C.prog f i.args .normal) [] (w.forCall tape i)))
  (hvars:s.vars=[]) (hspec:∀ds:List (DataW H),ds.length=fn.params.size→s.fn H ds={ results:=[.lit (.bool true)],args:=ds })
  (hl:laidOutB C.prog=true) (hr:∀t∈fn.params.toList,C.prog.readableRec t=true∧t<C.prog.types.size)
  (hres:fn.resultTypes=#[tb]) (hb:C.prog.underlying tb=some .bool) (htab:∀W,laidMetH C.prog laid W→Tabs gs (memOf W))
  (hargs:ArgsOk C.prog fn.params.toList X) (hdoes:∀avs,X avs→Does C.prog (Res.tab gs) f avs [] () (.ret (.bool true)) [] ()) :
  ReturnsInHanded a C os f .any ((OpenSpec.ofChange s).preRow enc C.prog fn conds apart laid) (((OpenSpec.ofChange s).at F).post enc C.prog fn apart fresh handsOn again):=by
 refine returnsInHanded_of_row own started noInit hfn witness (fun W base args ds gs' before hval hW _ _ _ hL _ _=>?_)
 have hW:DataW.Whole enc C.prog fn.params.toList s.vars apart W args.toList ds gs' before:=hW
 have hW':=hW
 obtain⟨p,q,hA,hV,rfl,hz,hn⟩:=hW
 rw[hvars] at hV
 obtain⟨rfl,rfl⟩:=trodVars_none hV
 obtain⟨avs,hX,hlen,hden⟩:=hargs H enc W base args.toList ds p (fun j t v h1 h2=>hval j t v (by simpa using h1) (by simpa using h2)) hA
 have hlt:∀x∈p,x.block<W.heap.size:=fun x hx=>hW'.lt x (by simp[hx])
 have hdl:ds.length=fn.params.size:=by
  have:∀{ts:List TypeId} {vs:List Value} {ds:List (DataW H)} {ps:List MemPlace},DataW.TrodAll enc C.prog W 0 (fun _=>true) true ts vs ds ps→ds.length=ts.length:=by
   intro ts
   induction ts with
   |nil=>
    intro vs ds ps h
    obtain⟨_,rfl,_⟩:=trodAll_nil h
    rfl
   |cons t ts ih=>
    intro vs ds ps h
    obtain⟨v,vs,d,ds,p,q,rfl,rfl,rfl,_,hT⟩:=trodAll_cons h
    simp[ih hT]
  have:=this hA
  simpa using this
 have hok:Ok (Res.tab gs) [] () (memOf W) [] W:=⟨⟨fun b o h=>h,rfl,fun i p h=>(by simp at h),fun i j p q h=>(by simp at h)⟩,htab W hL,fun b h=>absurd h (by simp[Res.tab])⟩
 refine((hdoes avs hX).h (memOf W) [] W args hok ⟨by simpa using hlen,fun i hi=>by
  have:=hden i hi
  simpa[List.getD,Array.getD_eq_getD_getElem?] using this⟩).mono fun e W' ⟨FM',ρ',⟨v,he,hv⟩,_,hg⟩=>⟨v,he,?_⟩
 have hv:v=.bool true:=hv
 subst hv
 have hbel:RowKit.Below W.heap.size W W':=⟨hg.ext.os,hg.ext.tape,hg.ext.output,hg.ext.size,fun k hk=>hg.ext.keep k hk (fun ⟨p,hp,_⟩=>by cases hp) (fun h=>h)⟩
 have hsp:s.fn H (ds++[])={ results:=[.lit (.bool true)],args:=ds }:=by rw[List.append_nil];exact hspec ds hdl
 show s.post enc C.prog fn apart fresh handsOn again W args (.bool true) W'
 refine post_of_below (pa:=p) (pv:=[]) hW' (fun b sp hd=>?_) (fun sp hs=>?_) (fun sp _=>?_) rfl hbel (fun j t r h1 h2=>?_)
 ·rw[hsp,hres]
  exact⟨[],[],⟨1,by simp[DataW.trod,Value.cells,hb]⟩,rfl,rfl⟩
 ·rw[hsp]
  exact trodAll_stays hl hr hA (fun x hx=>same_below hbel (hlt x hx)) (fun x hx=>hs x (by simp[hx]))
 ·rw[hsp,hvars]
  exact rfl
 ·rw[hres] at h1 h2
  have hj:j=0:=by
   cases j with
   |zero=>rfl
   |succ j=>simp at h1
  subst hj
  simp at h1
  subst h1
  simp[Value.resultList] at h2
  subst h2
  simp[Value.okWide,hb,Cell.okWide,Cell.ok]
end
end Go.Avm
namespace Go.Avm
open Go
structure SeqO (P:Program)(f:FuncId)(o:AObj)(N:Nat)(items:Nat→List AV)(T:Mem→Prop:=fun _=>True):Prop where
 h:∀(R:Res) [Tab T R] (u:Value) (G:Nat→R.σ) (c:Nat→Bool),
  (∀k,k<N→(∀j,j<k→c j=true)→∀hpo,VDoes P R u (items k) hpo (G k) (.ret (.bool (c k))) hpo (G (k+1))) →
  ∃hp',hp'.length=1∧Does P R f [.val u,.ref 0 0] [o] (G 0) (.ret (.tup 0 (nth []))) hp' (G (stopF c N 0))
def belowO (k:Nat):AObj→Prop
 |.cells _ n get=>∀j,j<n→Below k (get j)
 |.mapo es=>∀e,e∈es→Below k e.2
 |_=>True
def allBO (k:Nat):List AObj→Prop
 |[]=>True
 |o::r=>belowO k o∧allBO k r
theorem allBO_get {k:Nat}:∀{l:List AObj},allBO k l→∀i,belowO k (getO l i)
 |[],_,i=>by cases i <;> trivial
 |_::_,h,0=>h.1
 |_::r,h,i+1=>allBO_get (l:=r) h.2 i
theorem objRel_cut {FM:Mem}{ρ:Plc}{p:Nat × Nat × Nat}{w:World}{o:AObj}{k:Nat}(h:ObjRel FM ρ p w o)(hb:belowO k o):ObjRel FM (ρ.take k) p w o:=by
 cases o with
 |dead=>trivial
 |map es=>exact h
 |mapo es=>
  obtain⟨a1,a2,mes,clock,a3,a4,a5⟩:=h
  exact⟨a1,a2,mes,clock,a3,a4,fun i k v hi=>let ⟨e,b1,b2,b3⟩:=a5 i k v hi;⟨e,b1,b2,den_below _ b3 (hb _ (List.mem_of_getElem? hi))⟩⟩
 |cells f n get=>
  intro hn
  obtain⟨cs,e,a1,a2,a3,a4,a5⟩:=h hn
  exact⟨cs,e,a1,a2,a3,fun j hj=>let ⟨x,b1,b2,b3⟩:=a4 j hj;⟨x,b1,b2,den_below _ b3 (hb j hj)⟩,a5⟩
theorem objRel_sub {FM:Mem}{ρ ρ':Plc}{p:Nat × Nat × Nat}{w:World}{o:AObj}(hs:Sub ρ ρ')(h:ObjRel FM ρ p w o):ObjRel FM ρ' p w o:=by
 cases o with
 |dead=>trivial
 |map es=>exact h
 |mapo es=>
  obtain⟨a1,a2,mes,clock,a3,a4,a5⟩:=h
  exact⟨a1,a2,mes,clock,a3,a4,fun i k v hi=>let ⟨e,b1,b2,b3⟩:=a5 i k v hi;⟨e,b1,b2,Den.mono (fun _ _ h=>h) _ hs b3⟩⟩
 |cells f n get=>
  intro hn
  obtain⟨cs,e,a1,a2,a3,a4,a5⟩:=h hn
  exact⟨cs,e,a1,a2,a3,fun j hj=>let ⟨x,b1,b2,b3⟩:=a4 j hj;⟨x,b1,b2,Den.mono (fun _ _ h=>h) _ hs b3⟩,a5⟩
def slotsOf:List Nat→List (Nat × AV)→List (Nat × AV)
 |[],_=>[]
 |t::ts,fr=>(t,lk fr t)::slotsOf ts fr
def allIn (ts:List Nat)(p:Nat→Prop):Prop:=match ts with
 |[]=>True
 |t::r=>p t∧allIn r p
theorem allIn_mem {p:Nat→Prop}:∀{ts:List Nat},allIn ts p→∀t,t∈ts→p t
 |[],_,t,h=>by simp at h
 |a::r,h,t,ht=>by
  rcases List.mem_cons.1 ht with rfl|ht
  ·exact h.1
  ·exact allIn_mem (ts:=r) h.2 t ht
theorem slotsOf_den {FM:Mem}{ρ ρ0:Plc}{m:Nat}{fr:List (Nat × AV)}{v:Nat→Value}(h:∀t,Den FM ρ (lk fr t) (v t)):∀{ts:List Nat},(∀t,t∈ts→Below m (lk fr t))→ρ0=ρ.take m→∀t,Den FM ρ0 (lk (slotsOf ts fr) t) (v t)
 |[],_,_,t=>trivial
 |a::r,hb,e,t=>by
  show Den FM ρ0 (bif Nat.beq t a then lk fr a else lk (slotsOf r fr) t) (v t)
  cases hta:Nat.beq t a with
  |true=>
   have:=Nat.eq_of_beq_eq_true hta
   subst this
   rw[e]
   exact den_below _ (h t) (hb t List.mem_cons_self)
  |false=>exact slotsOf_den h (fun t ht=>hb t (List.mem_cons_of_mem _ ht)) e t
section
variable {P:Program}{R:Res}
def RoundB (P:Program)(R:Res)(nt:Nat)(assign body:Code)(jmp:Option Code)(hp':List AObj)(g':R.σ)(s:St R.σ):Prop:=
 ∀l,wpA P R nt s.hp.length (.inr l) assign (fun e s1=>e=.normal∧wpA P R nt s1.hp.length (.inr l) body (RndQ R s.hp.length jmp hp' g') s1) s
theorem vdoes_yieldB {nt D L:Nat}{fn:FuncId}{tmps:Array Value}{ps:Array Tmp}{assign body:Code}{rec:LoopState→Option Code→Loop}
  (hrec:rec=fun st pe=>{ state:=st,pending:=pe,fn,tmps,params:=ps,assign,body,defers:=D }) {FM0:Mem} {ρ:Plc} {fr:List (Nat × AV)} (hsz:tmps.size=nt) (hfr:∀t,Den FM0 ρ (lk fr t) (tmps.getD t undef)) (hne:D≠L)
  {items:List AV} (hlen:items.length=ps.toList.length) (hlt:allLt ps.toList nt=true) (hit:allB 0 items) {jmp:Option Code} {hp hp':List AObj} {g g':R.σ} (hl:hp'.length=hp.length)
  (hround:RoundB P R nt assign body jmp hp' g' ⟨setPs ps.toList items fr,hp,g⟩) (hpo:List AObj) :
  VDoes P (absorb (loopR R D L rec) FM0 ρ) (.func (.yield L) #[] #[]) items hpo ((g,.ready,none),hp) (.ret (.bool jmp.isNone)) hpo ((g',(if jmp.isNone then .ready else .done),jmp),hp'):=by
 refine⟨.inr ⟨L,rfl,fun FM ρ1 w vs ok hvs=>?_⟩⟩
 obtain⟨okL,hmono⟩:=ok.j
 obtain⟨jR,hD,hL,⟨fD,fL⟩,bD,bL⟩:=okL.j
 have okR:=ok_of_loopR okL
 have iD:¬InB ρ D:=(okL.bd D (.inr (.inl rfl))).2
 have iL:¬InB ρ L:=(okL.bd L (.inr (.inr rfl))).2
 have lD:D<w.heap.size:=(Array.getElem?_eq_some_iff.1 hD).1
 have lL:L<w.heap.size:=(Array.getElem?_eq_some_iff.1 hL).1
 have hvsz:vs.size=ps.size:=by rw[hvs.1,hlen];simp
 have hrun:=run_yield (P:=P) hL (args:=vs) (by rw[hrec];exact hvsz)
 rw[hrec] at hrun
 refine⟨_,_,_,_,hrun,fun r n=>roundIn_of_wpIn trivial ?_⟩
 have hzip:(ps.zip vs).foldl (fun tmps (x:Tmp × Value)=>tmps.setIfInBounds x.1 x.2) tmps=(ps.toList.zip vs.toList).foldl (fun tmps (p:Nat × Value)=>tmps.setIfInBounds p.1 p.2) tmps:=by
  rw[←Array.foldl_toList,Array.toList_zip]
 have hset:=setPs_ok (FM:=FM) (ρ:=ρ) ps.toList items vs.toList fr tmps hsz hlt hlen (by simpa using hvsz) (fun i hi=>by
  have:=hvs.2 i hi
  have h2:=denL_below (ρ':=ρ) hvs (fun i hi=>allB_nth hit i hi)
  have h3:=h2.2 i hi
  rw[Array.getD_eq_getD_getElem?] at h3
  rw[List.getD_eq_getElem?_getD,Array.getElem?_toList]
  exact h3) (fun t=>Den.mono hmono _ (Sub.refl _) (hfr t))
 let C:Cx R:=⟨g,FM,ρ,w,[],false⟩
 have hsat:Sat R C nt ⟨setPs ps.toList items fr,hp,g⟩ FM ρ { tmps:=(ps.zip vs).foldl (fun tmps (x:Tmp × Value)=>tmps.setIfInBounds x.1 x.2) tmps,defers:=[] } w:=by
  refine⟨okR,Goes.refl _ _ _ _ _,?_,.start,fun t=>?_⟩
  ·show Array.size _=nt
   rw[hzip];exact hset.1
  ·show Den FM ρ _ (Array.getD _ _ _)
   rw[hzip];exact hset.2 t
 have hC:C.ρ.length=hp.length:=okR.rel.len
 refine wpIn_mono (hround L C ⟨hC,rfl⟩ n _ w ⟨FM,ρ,hsat⟩) (fun e a1 w1 hpost=>?_)
 have post:∃s1 FM1 ρ1,e=.normal∧(wpA P R nt s1.hp.length (.inr L) body (RndQ R hp.length jmp hp' g') s1)∧Sat R C nt s1 FM1 ρ1 a1 w1:=by
  cases e with
  |normal=>obtain⟨s,⟨_,h1⟩,FM1,ρ1,h2⟩:=hpost;exact⟨s,FM1,ρ1,rfl,h1,h2⟩
  |exit id=>obtain⟨s,⟨h1,_⟩,_⟩:=hpost;cases h1
  |ret=>obtain⟨s,⟨h1,_⟩,_⟩:=hpost;cases h1
  |panic ch=>obtain⟨s,x,v,FM1,ρ1,⟨h1,_⟩,_⟩:=hpost;cases h1
  |goto l=>exact hpost.elim
  |outgrown=>exact hpost.elim
 obtain⟨s1,FM1,ρ1',rfl,hbody,hs1⟩:=post
 have hin1:∀b,b<w.heap.size→¬InB ρ b→¬InB ρ1' b:=fun b h1 h2 h3=>by
  rcases hs1.goes.ext.blk b h3 with h|h
  ·exact h2 h
  ·have h:w.heap.size≤b:=h
   omega
 have keep1:∀b,b<w.heap.size→¬InB ρ b→¬R.B g b→w1.heap[b]? = w.heap[b]?:= hs1.goes.ext.keep
 have nofm1:∀b,b<w.heap.size→¬InB ρ b→¬R.B g b→FM b=none→FM1 b=none:=fun b h1 h2 h3 h4=>by
  cases hx:FM1 b with
  |none=>rfl
  |some o=>
   rcases hs1.goes.ext.grow b o hx with h|h|h|h
   ·have h:FM b=some o:=h
    rw[h4] at h;cases h
   ·have h:w.heap.size≤b:=h
    omega
   ·exact absurd h h2
   ·exact absurd h h3
 have nB1:∀b,b<w.heap.size→¬R.B g b→¬R.B s1.g b:=fun b h1 h3 hb=>by
  rcases hs1.goes.bn b hb with h|h
  ·exact h3 h
  ·have h:w.heap.size≤b:=h
   omega
 have hL1:w1.heap[L]? = some (.loop (rec .ready none)):=(keep1 L lL iL bL).trans hL
 have hD1:w1.heap[D]? = some (.deferred (some [])):=(keep1 D lD iD bD).trans hD
 have fL1:=nofm1 L lL iL bL fL
 have fD1:=nofm1 D lD iD bD fD
 have bL1:=nB1 L lL bL
 have bD1:=nB1 D lD bD
 have lL1:L<w1.heap.size:=(Array.getElem?_eq_some_iff.1 hL1).1
 have lD1:D<w1.heap.size:=(Array.getElem?_eq_some_iff.1 hD1).1
 refine⟨_,run_beginRound hL1 (by rw[hrec]),?_⟩
 have okb:=ok_put (.loop { rec .ready none with state:=.busy }) (hin1 L lL iL) bL1 fL1 hs1.ok
 let C2:Cx R:=⟨s1.g,FM1,ρ1',w1.putObj L (.loop { rec .ready none with state:=.busy }),[],false⟩
 have hsat2:Sat R C2 nt s1 FM1 ρ1' a1 (w1.putObj L (.loop { rec .ready none with state:=.busy })):=by
  refine⟨okb,Goes.refl _ _ _ _ _,hs1.size,?_,hs1.fr⟩
  have e:a1.defers=[]:=hs1.defs.none
  rw[e];exact .start
 refine wpIn_mono (hbody C2 ⟨hs1.ok.rel.len,rfl⟩ n a1 _ ⟨FM1,ρ1',hsat2⟩) (fun e a3 w3 hp3=>?_)
 have lL2:L<(w1.putObj L (.loop { rec .ready none with state:=.busy })).heap.size:=by simpa using lL1
 have lD2:D<(w1.putObj L (.loop { rec .ready none with state:=.busy })).heap.size:=by simpa using lD1
 -- the end of the round
 have fin:∀(s3:St R.σ) (FM3:Mem) (ρ3:Plc),Sat R C2 nt s3 FM3 ρ3 a3 w3→(∃s',To R hp.length s3 s'∧s'.hp=hp'∧s'.g=g')→∃v w',(Instr.endRound L jmp).run P w3=.ok v w' ∧
   Post (absorb (loopR R D L rec) FM0 ρ) ((g,.ready,none),hp) FM ρ1 w (.ret (.bool jmp.isNone)) hpo ((g',(if jmp.isNone then .ready else .done),jmp),hp') (.returned v) w':=by
  rintro s3 FM3 ρ3 hs3 ⟨s',hto,rfl,rfl⟩
  have hL3:w3.heap[L]? = some (.loop { rec .ready none with state:=.busy }):=(hs3.goes.ext.keep L lL2 (hin1 L lL iL) bL1).trans (World.putObj_heap_same lL1)
  have hD3:w3.heap[D]? = some (.deferred (some [])):=(hs3.goes.ext.keep D lD2 (hin1 D lD iD) bD1).trans ((World.putObj_heap_other hne).trans hD1)
  refine⟨_,_,run_endRound jmp hL3,?_⟩
  obtain⟨FM4,ρ4,a1',a2',a3',a4',a5',a6',a7'⟩:=hto ρ FM3 ρ3 w3 _ hC (fun i p h=>hs3.goes.sub i p (hs1.goes.sub i p h)) hs3.ok hs3.fr
  obtain rfl:=same_plc okR a1' hl a3'
  have nofm4:∀b,b<w1.heap.size→¬InB ρ1' b→¬R.B s1.g b→FM1 b=none→FM4 b=none:=fun b h1 h2 h3 h4=>by
   have h2':¬InB ρ3 b:=fun hi=>by
    rcases hs3.goes.ext.blk b hi with h|h
    ·exact h2 h
    ·have h:(w1.putObj L (.loop { rec .ready none with state:=.busy })).heap.size≤b:=h
     simp at h;omega
   cases hx:FM4 b with
   |none=>rfl
   |some o=>
    rcases a5' b o hx with h|h
    ·rcases hs3.goes.ext.grow b o h with h|h|h|h
     ·have h:FM1 b=some o:=h
      rw[h4] at h;cases h
     ·have h:(w1.putObj L (.loop { rec .ready none with state:=.busy })).heap.size≤b:=h
      simp at h;omega
     ·exact absurd h h2
     ·exact absurd h h3
    ·exact absurd h h2'
  have nB3:∀b,b<w1.heap.size→¬R.B s1.g b→¬R.B s'.g b:=fun b h1 h3 hb=>by
   rw[a7'] at hb
   rcases hs3.goes.bn b hb with h|h
   ·exact h3 h
   ·have h:(w1.putObj L (.loop { rec .ready none with state:=.busy })).heap.size≤b:=h
    simp at h;omega
  have fL4:=nofm4 L lL1 (hin1 L lL iL) bL1 fL1
  have fD4:=nofm4 D lD1 (hin1 D lD iD) bD1 fD1
  have bL4:=nB3 L lL1 bL1
  have bD4:=nB3 D lD1 bD1
  have ok4:=ok_put (.loop (rec (if jmp.isNone then .ready else .done) jmp)) iL bL4 fL4 a1'
  have erec:({ ({ rec .ready none with state:=.busy }:Loop) with state:=if jmp.isNone then .ready else .done,pending:=jmp }:Loop)=rec (if jmp.isNone then .ready else .done) jmp:=by rw[hrec]
  rw[erec]
  -- how it has gone on
  have hsize:w.heap.size≤w3.heap.size:=Nat.le_trans hs1.goes.ext.size (by have:=hs3.goes.ext.size;simpa[C2] using this)
  have hgrow:∀b o,FM4 b=some o→FM b=some o∨w.heap.size≤b∨InB ρ4 b∨R.B g b:=fun b o hb=>by
   have h3:FM3 b=some o∨w.heap.size≤b∨InB ρ4 b:=by
    rcases a5' b o hb with h|h
    ·exact .inl h
    ·rcases hs3.goes.ext.blk b h with h|h
     ·rcases hs1.goes.ext.blk b h with h|h
      ·exact .inr (.inr h)
      ·exact .inr (.inl h)
     ·have h:(w1.putObj L (.loop { rec .ready none with state:=.busy })).heap.size≤b:=h
      have:=hs1.goes.ext.size
      simp at h
      exact .inr (.inl (Nat.le_trans this h))
   rcases h3 with h3|h3|h3
   ·rcases hs3.goes.ext.grow b o h3 with h|h|h|h
    ·exact hs1.goes.ext.grow b o h
    ·have h:(w1.putObj L (.loop { rec .ready none with state:=.busy })).heap.size≤b:=h
     have:=hs1.goes.ext.size
     simp at h
     exact .inr (.inl (Nat.le_trans this h))
    ·rcases hs1.goes.ext.blk b h with h|h
     ·exact .inr (.inr (.inl h))
     ·exact .inr (.inl h)
    ·rcases hs1.goes.bn b h with h|h
     ·exact .inr (.inr (.inr h))
     ·exact .inr (.inl h)
   ·exact .inr (.inl h3)
   ·exact .inr (.inr (.inl h3))
  have hkeep:∀b,b<w.heap.size→¬InB ρ4 b→¬R.B g b→b≠L→(w3.putObj L (.loop (rec (if jmp.isNone then .ready else .done) jmp))).heap[b]? = w.heap[b]?:= fun b h1 h2 h3 h4=>by
   rw[World.putObj_heap_other h4]
   have h1':b<(w1.putObj L (.loop { rec .ready none with state:=.busy })).heap.size:=by
    simp;exact Nat.lt_of_lt_of_le h1 hs1.goes.ext.size
   refine(hs3.goes.ext.keep b h1' (hin1 b h1 h2) (nB1 b h1 h3)).trans ?_
   show(w1.putObj L _).heap[b]? = _
   rw[World.putObj_heap_other h4]
   exact hs1.goes.ext.keep b h1 h2 h3
  have hbn:∀b,R.B s'.g b→R.B g b∨w.heap.size≤b:=fun b hb=>by
   rw[a7'] at hb
   rcases hs3.goes.bn b hb with h|h
   ·exact hs1.goes.bn b h
   ·have h:(w1.putObj L (.loop { rec .ready none with state:=.busy })).heap.size≤b:=h
    have:=hs1.goes.ext.size
    simp at h
    exact .inr (Nat.le_trans this h)
  have hfm:∀b o,FM b=some o→FM4 b=some o:=fun b o hb=>a4' b o (hs3.goes.ext.fm b o (hs1.goes.ext.fm b o hb))
  -- the iterator's objects
  have off:∀b,InB ρ1 b→b<w.heap.size∧¬R.B g b∧¬InB ρ4 b∧b≠L∧b≠D:=fun b hb=>by
   obtain⟨p,hp1,hpb,hre⟩:=hb
   obtain⟨i,hi⟩:=List.getElem?_of_mem hp1
   have hin:InB ρ1 b:=⟨p,hp1,hpb,hre⟩
   refine⟨by rw[←hpb];exact(ok.rel.obj i p hi).1 hre,fun hB=>(ok.bd b (.inl (.inl hB))).2 hin,fun hI=>(ok.bd b (.inr hI)).2 hin,fun e=>(ok.bd b (.inl (.inr (.inr e)))).2 hin,fun e=>(ok.bd b (.inl (.inr (.inl e)))).2 hin⟩
  have heap:∀b,InB ρ1 b→(w3.putObj L (.loop (rec (if jmp.isNone then .ready else .done) jmp))).heap[b]? = w.heap[b]?:= fun b hb=>let ⟨h1,h2,h3,h4,_⟩:=off b hb;hkeep b h1 h3 h2 h4
  have fmn:∀b,InB ρ1 b→FM b=none→FM4 b=none:=fun b hb hn=>by
   cases hx:FM4 b with
   |none=>rfl
   |some o=>
    obtain⟨h1,h2,h3,_⟩:=off b hb
    rcases hgrow b o hx with h|h|h|h
    ·rw[hn] at h;cases h
    ·omega
    ·exact absurd h h3
    ·exact absurd h h2
  refine⟨FM4,ρ1,⟨_,rfl,rfl⟩,⟨⟨ok4.rel.fm,ok.rel.len,fun i p hi=>?_,ok.rel.inj⟩,⟨⟨ok4.rel,⟨ok4.j,(World.putObj_heap_other hne).trans hD3,World.putObj_heap_same (Array.getElem?_eq_some_iff.1 hL3).1,⟨fD4,fL4⟩,bD4,bL4⟩,fun b hb=>?_⟩,fun b o hb=>hfm b o (hmono b o hb)⟩,fun b hb=>?_⟩,
   ⟨⟨hfm,fun b o hb=>?_,fun b hb=>.inl hb,fun b h1 h2 h3=>hkeep b h1 (fun hI=>h3 (.inr hI)) (fun hB=>h3 (.inl (.inl hB))) (fun e=>h3 (.inl (.inr (.inr e)))),by simpa using hsize,?_,?_,?_⟩,fun b hb=>?_,Sub.refl _⟩⟩
  ·obtain⟨k1,k2⟩:=ok.rel.obj i p hi
   refine⟨fun hre=>by simpa using Nat.lt_of_lt_of_le (k1 hre) hsize,?_⟩
   cases hx:getO hpo i with
   |dead=>trivial
   |map es=>
    rw[hx] at k2
    have hin:InB ρ1 p.1:=⟨p,mem_of_get hi,rfl,k2.1⟩
    exact objRel_map k2 hfm (heap _ hin) (fmn _ hin k2.2.1)
   |mapo es=>
    rw[hx] at k2
    have hin:InB ρ1 p.1:=⟨p,mem_of_get hi,rfl,k2.1⟩
    exact objRel_mapo k2 hfm (Sub.refl _) (heap _ hin) (fmn _ hin k2.2.1)
   |cells f n g=>
    intro hn
    have hin:InB ρ1 p.1:=⟨p,mem_of_get hi,rfl,(ok.rel.real_cells hi hx hn).1⟩
    rw[hx] at k2
    obtain⟨cs,e',b1,b2,b3,b4,b5,b6⟩:=k2 hn
    exact⟨cs,e',by rw[heap _ hin];exact b1,b2,b3,fun j hj=>let ⟨x,c1,c2,c3⟩:=b4 j hj;⟨x,c1,c2,Den.mono hfm _ (Sub.refl _) c3⟩,fun hf=>hfm _ _ (b5 hf),fun hf=>fmn _ hin (b6 hf)⟩
  ·rcases hb with hb|rfl|rfl
   ·exact ok4.bd b hb
   ·exact⟨by simpa using Nat.lt_of_lt_of_le lD hsize,iD⟩
   ·exact⟨by simpa using Nat.lt_of_lt_of_le lL hsize,iL⟩
  ·rcases hb with(hb|rfl|rfl)|hb
   ·rcases hbn b hb with h1|h1
    ·exact⟨(ok4.bd b hb).1,(ok.bd b (.inl (.inl h1))).2⟩
    ·exact⟨(ok4.bd b hb).1,fun hI=>by have:=(off b hI).1;omega⟩
   ·exact⟨by simpa using Nat.lt_of_lt_of_le lD hsize,fun hI=>(off _ hI).2.2.2.2 rfl⟩
   ·exact⟨by simpa using Nat.lt_of_lt_of_le lL hsize,fun hI=>(off _ hI).2.2.2.1 rfl⟩
   ·exact⟨by simpa using Nat.lt_of_lt_of_le (ok.bd b (.inr hb)).1 hsize,(ok.bd b (.inr hb)).2⟩
  ·rcases hgrow b o hb with h|h|h|h
   ·exact .inl h
   ·exact .inr (.inl h)
   ·exact .inr (.inr (.inr (.inr h)))
   ·exact .inr (.inr (.inr (.inl (.inl h))))
  ·exact hs3.goes.ext.os.trans hs1.goes.ext.os
  ·exact hs3.goes.ext.tape.trans hs1.goes.ext.tape
  ·exact hs3.goes.ext.output.trans hs1.goes.ext.output
  ·rcases hb with(hb|rfl|rfl)|hb
   ·rcases hbn b hb with h|h
    ·exact .inl (.inl (.inl h))
    ·exact .inr h
   ·exact .inl (.inl (.inr (.inl rfl)))
   ·exact .inl (.inl (.inr (.inr rfl)))
   ·exact .inl (.inr hb)
 cases e with
 |normal=>obtain⟨s3,⟨rfl,h⟩,FM3,ρ3,h2⟩:=hp3;exact fin s3 FM3 ρ3 h2 h
 |ret=>obtain⟨s3,⟨rfl,h⟩,FM3,ρ3,h2⟩:=hp3;exact fin s3 FM3 ρ3 h2 h
 |exit id=>obtain⟨s3,⟨rfl,h⟩,FM3,ρ3,h2⟩:=hp3;exact fin s3 FM3 ρ3 h2 h
 |panic ch=>obtain⟨s3,x,v,FM3,ρ3,h,_⟩:=hp3;exact h.elim
 |goto l=>exact hp3.elim
 |outgrown=>exact hp3.elim
theorem wpA_range1 {nt k0:Nat}{Q:AEx→St R.σ→Prop}{s:St R.σ}{t:Nat}{ps:Array Tmp}{assign body:Code}{f m:Nat}{fa fb:Nat→AV}{o:AObj}(hf:lk s.fr t=.fn f 0 fa 1 fb)(hfb:fb 0=.ref m 0)(hpl:isPlain P f=true)
  {N:Nat} {items:Nat→List AV} {T:Mem→Prop} [Tab T R] (hseq:SeqO P f o N items T) (hlen:∀k,(items k).length=ps.toList.length) (hlt:allLt ps.toList nt=true) (hit:∀k,allB 0 (items k))
  (jmp:Nat→Option Code) (hj:∀k,jOk (jmp k)=true) (H:Nat→List AObj) (G:Nat→R.σ) (h0:s.hp=H 0++[o]) (hg0:G 0=s.g) (hl:∀k,(H k).length=m)
  (hlive:allLive (H 0++[o])) (hBO:allBO m (H 0)) (hBo:allBO 0 [o]) (ts:List Nat) (hBf:allIn ts (fun t=>Below m (lk s.fr t)))
  (hround:∀k,k<N→(∀j,j<k→jmp j=none)→RoundB P R nt assign body (jmp k) (H (k+1)) (G (k+1)) ⟨setPs ps.toList (items k) (slotsOf ts s.fr),H k,G k⟩)
  (hdone:(∀k,k<N→jmp k=none)→Q .normal ⟨s.fr,H N++[.dead],G N⟩)
  (hret:∀k,k<N→(∀j,j<k→jmp j=none)→jmp k=some .ret→Q .ret ⟨s.fr,H (k+1)++[.dead],G (k+1)⟩)
  (hexit:∀k id,k<N→(∀j,j<k→jmp j=none)→jmp k=some (.exit id)→Q (.exit id) ⟨s.fr,H (k+1)++[.dead],G (k+1)⟩) :
  wpA P R nt k0 .top (.rangeFunc (.tmp t) ps assign body) Q s:=by
 intro C hC n a w ⟨FM,ρ,hs⟩
 refine wpIn_rangeFunc (fun fn hfn=>?_)
 obtain⟨D,hD⟩:∃D,D=w.heap.size:=⟨_,rfl⟩
 obtain⟨L,hL⟩:∃L,L=w.heap.size+1:=⟨_,rfl⟩
 have hne:D≠L:=by omega
 obtain⟨rec,hrec⟩:∃rec:LoopState→Option Code→Loop,rec=fun st pe=>{ state:=st,pending:=pe,fn,tmps:=a.tmps,params:=ps,assign,body,defers:=D }:=⟨_,rfl⟩
 obtain⟨W1,hW1⟩:∃W1,(w.alloc (.deferred (some []))).alloc (.loop (rec .ready none))=W1:=⟨_,rfl⟩
 have hL1:W1.heap[L]? = some (.loop (rec .ready none)):=by
  rw[←hW1,hL];have:=World.alloc_heap_new (w.alloc (.deferred (some []))) (.loop (rec .ready none));rwa [World.size_alloc] at this
 have hD1:W1.heap[D]? = some (.deferred (some [])):=by
  rw[←hW1,hD];exact(_root_.Go.RowKit.Below.heap_alloc _ _ _ (by simp)).trans (World.alloc_heap_new w _)
 have hsz1:W1.heap.size=w.heap.size+2:=by rw[←hW1];simp
 obtain⟨okA,goA⟩:=ok_other hs.ok (.deferred (some []))
 obtain⟨ok1,goB⟩:=ok_other okA (.loop (rec .ready none))
 have go1:=goA.trans goB
 rw[hW1] at ok1 go1
 -- the iterator's object
 have hlen0:s.hp.length=m+1:=by rw[h0];simp[hl]
 have hρl:ρ.length=m+1:=by rw[hs.ok.rel.len,hlen0]
 obtain⟨pb,hpb⟩:∃pb,ρ[m]? = some pb:=⟨_,List.getElem?_eq_getElem (by omega)⟩
 obtain⟨ρ0,hρ0⟩:∃ρ0,ρ0=ρ.take m:=⟨_,rfl⟩
 have hsub0:Sub ρ0 ρ:=fun i p hi=>by
  rw[hρ0,List.getElem?_take] at hi
  split at hi
  ·exact hi
  ·cases hi
 have hlt0:∀{i p},ρ0[i]? = some p→i<m:=fun {i p} hi=>by
  rw[hρ0,List.getElem?_take] at hi
  split at hi
  ·assumption
  ·cases hi
 have hInB:∀b,InB ρ b↔InB ρ0 b∨InB [pb] b:=fun b=>by
  constructor
  ·rintro ⟨p,hp,hb,hre⟩
   obtain⟨i,hi⟩:=List.getElem?_of_mem hp
   have:i<m+1:=by rw[←hρl];exact(List.getElem?_eq_some_iff.1 hi).1
   rcases Nat.lt_or_ge i m with h|h
   ·exact .inl ⟨p,List.mem_of_getElem? (i:=i) (by rw[hρ0,List.getElem?_take,if_pos h];exact hi),hb,hre⟩
   ·have:i=m:=by omega
    subst this
    rw[hpb] at hi;cases hi
    exact .inr ⟨pb,by simp,hb,hre⟩
  ·rintro (⟨p,hp,hb,hre⟩|⟨p,hp,hb,hre⟩)
   ·obtain⟨i,hi⟩:=List.getElem?_of_mem hp
    exact⟨p,mem_of_get (hsub0 i p hi),hb,hre⟩
   ·have:p=pb:=by simpa using hp
    subst this
    exact⟨p,mem_of_get hpb,hb,hre⟩
 have hgo:∀i,i<m→getO s.hp i=getO (H 0) i:=fun i hi=>by rw[h0,getO_append_lt (by rw[hl];exact hi)]
 have hgm:getO s.hp m=o:=by rw[h0,getO_append_ge (by rw[hl];exact Nat.le_refl _),hl,Nat.sub_self];rfl
 have hlv:∀i,i<m+1→isLive (getO s.hp i)=true:=fun i hi=>by rw[h0];exact allLive_get hlive i (by simp[hl];omega)
 have rel0:∀W,HRel FM ρ s.hp W→HRel FM ρ0 (H 0) W:=fun W hr=>by
  refine⟨hr.fm,by rw[hρ0,List.length_take,hl,hρl];omega,fun i p hi=>?_,fun i j p q hi hj _ _ e=>hr.inj i j p q (hsub0 i p hi) (hsub0 j q hj) (hlv i (by have:=hlt0 hi;omega)) (hlv j (by have:=hlt0 hj;omega)) e⟩
  obtain⟨k1,k2⟩:=hr.obj i p (hsub0 i p hi)
  rw[hgo i (hlt0 hi)] at k2
  refine⟨k1,?_⟩
  rw[hρ0]
  exact objRel_cut k2 (allBO_get hBO i)
 have relI:∀W,HRel FM ρ s.hp W→HRel FM [pb] [o] W:=fun W hr=>by
  refine⟨hr.fm,rfl,fun i p hi=>?_,fun i j p q hi hj _ _ _=>?_⟩
  ·have e:i=0:=by
    have:=(List.getElem?_eq_some_iff.1 hi).1
    simpa using this
   subst e
   have hi:pb=p:=by simpa using hi
   subst hi
   obtain⟨k1,k2⟩:=hr.obj m pb hpb
   rw[hgm] at k2
   refine⟨k1,?_⟩
   have:=objRel_cut k2 (allBO_get hBo 0)
   exact objRel_sub (fun i p hi=>by simp at hi) this
  ·have e1:=(List.getElem?_eq_some_iff.1 hi).1
   have e2:=(List.getElem?_eq_some_iff.1 hj).1
   simp at e1 e2
   omega
 have hdis:∀b,InB [pb] b→¬InB ρ0 b:=fun b ⟨p,hp,hb,hre⟩ ⟨q,hq,hb',hre'⟩=>by
  have:p=pb:=by simpa using hp
  subst this
  obtain⟨i,hi⟩:=List.getElem?_of_mem hq
  have:=hlt0 hi
  have:=hs.ok.rel.inj i m q p (hsub0 i q hi) hpb (hlv i (by omega)) (hlv m (by omega)) (by rw[hb,hb'])
  omega
 -- the new blocks are nobody's
 have nIn:∀X,w.heap.size≤X→¬InB ρ X:=fun X hX ⟨p,hp,hb,hre⟩=>by
  obtain⟨i,hi⟩:=List.getElem?_of_mem hp
  have:=(hs.ok.rel.obj i p hi).1 hre
  omega
 have nB:∀X,w.heap.size≤X→¬R.B s.g X:=fun X hX hb=>by have:=(hs.ok.bd X hb).1;omega
 have nF:∀X,w.heap.size≤X→FM X=none:=fun X hX=>by
  cases hx:FM X with
  |none=>rfl
  |some o=>have:=(Array.getElem?_eq_some_iff.1 (hs.ok.rel.fm X o hx)).1;omega
 -- the iterator's call
 have hev:Den FM ρ (.fn f 0 fa 1 fb) (a.eval (.tmp t)):=by rw[←hf];exact hs.fr t
 obtain⟨xs,ys,hu,hxs,hys,hda,hdb⟩:=hev
 have hfr0:∀t,Den FM ρ0 (lk (slotsOf ts s.fr) t) (a.tmps.getD t undef):=slotsOf_den (fun t=>hs.fr t) (fun t ht=>allIn_mem hBf t ht) hρ0
 let u:Value:=.func (.yield L) #[] #[]
 let R2:Res:=absorb (loopR R D L rec) FM ρ0
 let G2:Nat→R2.σ:=fun k=>((G k,stJ jmp k),H k)
 let c:Nat→Bool:=fun k=>(jmp k).isNone
 have hstJ:∀k,(∀j,j<k→c j=true)→stJ jmp k=(.ready,none):=fun k hk=>by
  cases k with
  |zero=>rfl
  |succ k=>
   have:jmp k=none:=by simpa[c] using hk k (by omega)
   simp[stJ,this]
 have hdoes:=hseq.h R2 u G2 c (fun k hk hjk hpo=>by
  have e:=hstJ k hjk
  have:=vdoes_yieldB (P:=P) (R:=R) (L:=L) hrec hs.size hfr0 hne (hlen k) hlt (hit k) (jmp:=jmp k) (hp:=H k) (hp':=H (k+1)) (g:=G k) (g':=G (k+1)) (by rw[hl,hl]) (hround k hk (fun j h=>by simpa[c] using hjk j h)) hpo
  show VDoes P R2 u (items k) hpo ((G k,stJ jmp k),H k) (.ret (.bool (jmp k).isNone)) hpo ((G (k+1),stJ jmp (k+1)),H (k+1))
  rw[e]
  exact this)
 have okI:Ok R2 [o] (G2 0) FM [pb] W1:=by
  refine⟨relI W1 ok1.rel,⟨⟨rel0 W1 ok1.rel,⟨by rw[show(G2 0).1.1=s.g from hg0];exact ok1.j,hD1,hL1,⟨nF D (by omega),nF L (by omega)⟩,?_,?_⟩,fun b hb=>?_⟩,fun _ _ h=>h⟩,fun b hb=>⟨?_,fun hI=>?_⟩⟩
  ·rw[show(G2 0).1.1=s.g from hg0];exact nB D (by omega)
  ·rw[show(G2 0).1.1=s.g from hg0];exact nB L (by omega)
  ·have hb':R.B s.g b∨b=D∨b=L:=by
    rcases hb with hb|hb
    ·rw[show(G2 0).1.1=s.g from hg0] at hb;exact .inl hb
    ·exact .inr hb
   rcases hb' with hb|rfl|rfl
   ·exact⟨(ok1.bd b hb).1,fun h=>(ok1.bd b hb).2 ((hInB b).2 (.inl h))⟩
   ·exact⟨by omega,fun h=>nIn _ (by omega) ((hInB _).2 (.inl h))⟩
   ·exact⟨by omega,fun h=>nIn _ (by omega) ((hInB _).2 (.inl h))⟩
  ·rcases hb with(hb|rfl|rfl)|⟨p,hp,hb,hre⟩
   ·rw[show(G2 0).1.1=s.g from hg0] at hb;exact(ok1.bd b hb).1
   ·omega
   ·omega
   ·obtain⟨i,hi⟩:=List.getElem?_of_mem hp
    rw[←hb];exact(ok1.rel.obj i p (hsub0 i p hi)).1 hre
  ·rcases hb with(hb|rfl|rfl)|hb
   ·rw[show(G2 0).1.1=s.g from hg0] at hb;exact(ok1.bd b hb).2 ((hInB b).2 (.inr hI))
   ·exact nIn _ (by omega) ((hInB _).2 (.inr hI))
   ·exact nIn _ (by omega) ((hInB _).2 (.inr hI))
   ·exact hdis b hI hb
 have hargs:DenL FM [pb] [.val u,.ref 0 0] ((xs++#[u])++ys):=by
  have hxs0:xs=#[]:=Array.size_eq_zero_iff.1 hxs
  have hd0:=hdb 0 (by omega)
  rw[hfb] at hd0
  obtain⟨p,hp1,hp2⟩:=hd0
  rw[hpb] at hp1;cases hp1
  subst hxs0
  refine⟨by simp[hys],fun i hi=>?_⟩
  match i,hi with
  |0,_=>
   show _=u∧_
   exact⟨by simp[Array.getD_eq_getD_getElem?,Array.getElem?_append],rfl⟩
  |1,_=>
   refine⟨pb,rfl,?_⟩
   rw[←hp2]
   simp[Array.getD_eq_getD_getElem?,Array.getElem?_append]
 obtain⟨hp1,hd1,hdoes⟩:=hdoes
 have hcalls:=hdoes.h FM [pb] W1 _ okI hargs
 have hfn':∃fn,P.funcs[f]? = some fn∧fn.name ≠ "runtime.NumGoroutine"∧fn.body.isSome=true:=by
  unfold isPlain at hpl
  split at hpl
  ·rename_i fn hfn
   simp only[Bool.and_eq_true,bne_iff_ne,ne_eq] at hpl
   exact⟨fn,hfn,hpl.1,hpl.2⟩
  ·cases hpl
 obtain⟨fnF,hF1,hF2,hF3⟩:=hfn'
 have hF3':¬fnF.body=none:=fun h=>by rw[h] at hF3;cases hF3
 refine⟨L,[markOf D],W1,{ target:=.fn (.func f) ys,args:=xs++#[u] },W1,f,(xs++#[u])++ys,W1,?_,?_,fun _ _=>trivial,?_,fun h=>(by cases h),(callsIn_Fw hcalls).mono ?_⟩
 ·rw[←hW1,hrec,hD,hL];exact run_enterLoop_outer _ _ _ _ _
 ·simp[resolve,hu,Deferred.ofValue,u]
  rfl
 ·simp[invoke,callFunc,hF1,hF2,hF3']
 -- behind it
 rintro e w3 ⟨FM',ρ',⟨v,rfl,_⟩,ok3,go3⟩
 have hdl:=hd1
 obtain rfl:ρ'=[pb]:=by
  have hl1:ρ'.length=1:=by rw[ok3.rel.len,hdl]
  match ρ',hl1 with
  |[q],_=>
   have:=go3.sub 0 pb rfl
   cases this;rfl
 obtain⟨m',hm⟩:∃m',m'=stopF c N 0:=⟨_,rfl⟩
 rw[←hm] at ok3 go3
 obtain⟨okL,hmono⟩:=ok3.j
 obtain⟨jR,hD3,hL3,⟨fD,fL⟩,bD,bL⟩:=okL.j
 have okR:=ok_of_loopR okL
 have hnb:(stJ jmp m').1≠.busy:=by
  cases m' with
  |zero=>simp[stJ]
  |succ k=>simp only[stJ];split <;> simp
 have hend:=run_endLoop (P:=P) hL3 (by rw[hrec];exact hnb)
 obtain⟨p,w4,hend,hp,hw4⟩:∃p w4,(Instr.endLoop L).run P w3=.ok p w4∧p=(stJ jmp m').2∧w4=w3.putObj L (.loop { rec (stJ jmp m').1 (stJ jmp m').2 with state:=.exhausted }):=⟨_,_,hend,by rw[hrec],rfl⟩
 refine⟨p,w4,hend,?_⟩
 have okR1:Ok R (H m'++[.dead]) (G m') FM' ρ w3:=by
  have hgd:∀i,i<m→getO (H m'++[.dead]) i=getO (H m') i:=fun i hi=>getO_append_lt (by rw[hl];exact hi)
  have hgdm:getO (H m'++[.dead]) m=.dead:=by rw[getO_append_ge (by rw[hl];exact Nat.le_refl _),hl,Nat.sub_self];rfl
  have hback:∀i p,ρ[i]? = some p→(i<m∧ρ0[i]? = some p)∨(i=m∧p=pb):=fun i p hi=>by
   have:i<m+1:=by rw[←hρl];exact(List.getElem?_eq_some_iff.1 hi).1
   rcases Nat.lt_or_ge i m with h|h
   ·exact .inl ⟨h,by rw[hρ0,List.getElem?_take,if_pos h];exact hi⟩
   ·have:i=m:=by omega
    subst this
    rw[hpb] at hi;cases hi
    exact .inr ⟨rfl,rfl⟩
  have hnl:∀i p,ρ[i]? = some p→isLive (getO (H m'++[.dead]) i)=true→i<m∧ρ0[i]? = some p:=fun i p hi hv=>by
   rcases hback i p hi with h|⟨rfl,rfl⟩
   ·exact h
   ·rw[hgdm] at hv;cases hv
  refine⟨⟨okR.rel.fm,by rw[hρl];simp[hl],fun i p hi=>?_,fun i j p q hi hj hv1 hv2 e=>?_⟩,okR.j,fun b hb=>⟨(okR.bd b hb).1,fun hI=>?_⟩⟩
  ·rcases hback i p hi with⟨h1,h2⟩|⟨rfl,rfl⟩
   ·obtain⟨k1,k2⟩:=okR.rel.obj i p h2
    rw[hgd i h1]
    exact⟨k1,objRel_sub hsub0 k2⟩
   ·rw[hgdm]
    refine⟨fun hre=>?_,trivial⟩
    have h1:=(hs.ok.rel.obj i p hi).1 hre
    have:=go3.ext.size
    omega
  ·obtain⟨a1,a2⟩:=hnl i p hi hv1
   obtain⟨b1,b2⟩:=hnl j q hj hv2
   rw[hgd i a1] at hv1
   rw[hgd j b1] at hv2
   exact okR.rel.inj i j p q a2 b2 hv1 hv2 e
  ·rcases(hInB b).1 hI with h|h
   ·exact(okR.bd b hb).2 h
   ·exact(ok3.bd b (.inl (.inl hb))).2 h
 have ok4:=ok_put (.loop { rec (stJ jmp m').1 (stJ jmp m').2 with state:=.exhausted }) (nIn L (by omega)) bL fL okR1
 have go4:Goes R s.g FM ρ w (G m') FM' ρ (w3.putObj L (.loop { rec (stJ jmp m').1 (stJ jmp m').2 with state:=.exhausted })):=by
  have hB0:∀b,R2.B (G2 0) b→R.B s.g b∨w.heap.size≤b∨InB ρ0 b:=fun b hb=>by
   rcases hb with(hb|rfl|rfl)|hb
   ·rw[show(G2 0).1.1=s.g from hg0] at hb;exact .inl hb
   ·exact .inr (.inl (by omega))
   ·exact .inr (.inl (by omega))
   ·exact .inr (.inr hb)
  refine⟨⟨go3.ext.fm,fun b o hb=>?_,fun b hb=>.inl hb,fun b h1 h2 h3=>?_,?_,go3.ext.os.trans go1.ext.os,go3.ext.tape.trans go1.ext.tape,go3.ext.output.trans go1.ext.output⟩,fun b hb=>?_,Sub.refl _⟩
  ·rcases go3.ext.grow b o hb with h|h|h|h
   ·exact .inl h
   ·exact .inr (.inl (by omega))
   ·exact .inr (.inr (.inl ((hInB b).2 (.inr h))))
   ·rcases hB0 b h with h|h|h
    ·exact .inr (.inr (.inr h))
    ·exact .inr (.inl h)
    ·exact .inr (.inr (.inl ((hInB b).2 (.inl h))))
  ·rw[World.putObj_heap_other (by omega)]
   refine(go3.ext.keep b (by omega) (fun hI=>h2 ((hInB b).2 (.inr hI))) (fun hb=>?_)).trans (go1.ext.keep b h1 h2 h3)
   rcases hB0 b hb with h|h|h
   ·exact h3 h
   ·omega
   ·exact h2 ((hInB b).2 (.inl h))
  ·have:=go3.ext.size
   simp;omega
  ·have hin:R2.B (G2 m') b:=.inl (.inl hb)
   rcases go3.bn b hin with h|h
   ·rcases hB0 b h with h|h|h
    ·exact .inl h
    ·exact .inr h
    ·exact absurd h (okR.bd b hb).2
   ·exact .inr (by omega)
 have hsat:Sat R C nt ⟨s.fr,H m'++[.dead],G m'⟩ FM' ρ { a with defers:=[markOf D]++a.defers } (w3.putObj L (.loop { rec (stJ jmp m').1 (stJ jmp m').2 with state:=.exhausted })):=by
  refine⟨ok4,hs.goes.trans go4,hs.size,?_,fun t=>Den.mono go4.ext.fm _ go4.sub (hs.fr t)⟩
  obtain⟨ms,e1,e2,e3,e4⟩:=hs.defs
  refine⟨D::ms,by rw[e1];rfl,List.nodup_cons.2 ⟨fun hmem=>?_,e2⟩,fun h=>?_,fun X hX=>?_⟩
  ·have:=(Array.getElem?_eq_some_iff.1 (e4 D hmem).obj).1
   omega
  ·rw[hC.2] at h;cases h
  ·rcases List.mem_cons.1 hX with rfl|hX
   ·exact⟨(World.putObj_heap_other hne).trans hD3,nIn _ (by omega),bD,fD,by have:=hs.goes.ext.size;omega⟩
   ·exact(e4 X hX).goes go4
 rw[←hw4] at hsat
 rcases stopF_cases c N 0 with⟨h1,h2⟩|⟨i,h1,h2,h3,h4,h5⟩
 ·have hmN:m'=N:=by omega
  have hall:∀k,k<N→jmp k=none:=fun k hk=>by simpa[c] using h1 k (by omega) (by omega)
  have e:=hstJ m' (fun j hjm=>h1 j (by omega) (by omega))
  have e2:p=none:=by rw[hp,e]
  subst e2
  rw[hmN] at hsat
  exact⟨_,hdone hall,FM',ρ,hsat⟩
 ·have hmi:m'=i+1:=by omega
  have hall:∀k,k<i→jmp k=none:=fun k hk=>by simpa[c] using h3 k (by omega) hk
  have e2:p=jmp i:=by rw[hp,hmi];rfl
  have hji:=hj i
  rw[hmi] at hsat
  cases hc:jmp i with
  |none=>simp[c,hc] at h4
  |some x=>
   rw[hc] at hji e2
   subst e2
   cases x <;> simp only[jOk] at hji <;> first|(cases hji;done)|skip
   ·exact wpIn_exit ⟨_,hexit i _ (by omega) hall hc,FM',ρ,hsat⟩
   ·exact wpIn_ret ⟨_,hret i (by omega) hall hc,FM',ρ,hsat⟩
def AssB (P:Program)(R:Res)(nt n l:Nat)(b:Code)(q:List Nat)(jmp:Option Code)(hp':List AObj)(g':R.σ):AEx→St R.σ→Prop
 |.normal,s=>Wp P R nt s.hp.length (.inr l) b q (RndQ R n jmp hp' g') s
 |_,_=>False
theorem wp_range1 {nt k0:Nat}{b:Code}{p:List Nat}{Q:AEx→St R.σ→Prop}{s:St R.σ}(t:Nat)(psl:List Nat)(m:Nat)(hl:rangeAt t psl (sub b p)=true){f:Nat}{fa fb:Nat→AV}{o:AObj}(hf:lk s.fr t=.fn f 0 fa 1 fb)(hfb:fb 0=.ref m 0)(hpl:isPlain P f=true)
  {N:Nat} {items:Nat→List AV} {T:Mem→Prop} [Tab T R] (hseq:SeqO P f o N items T) (hlen:∀k,(items k).length=psl.length) (hlt:allLt psl nt=true) (hit:∀k,allB 0 (items k))
  (jmp:Nat→Option Code) (hj:∀k,jOk (jmp k)=true) (H:Nat→List AObj) (G:Nat→R.σ) (h0:To R k0 s ⟨s.fr,H 0++[o],G 0⟩) (hlH:∀k,(H k).length=m)
  (hlive:allLive (H 0++[o])) (hBO:allBO m (H 0)) (hBo:allBO 0 [o]) (ts:List Nat) (hBf:allIn ts (fun t=>Below m (lk s.fr t)))
  (hround:∀k l,k<N→(∀j,j<k→jmp j=none)→Wp P R nt m (.inr l) b (p++[0]) (AssB P R nt m l b (p++[1]) (jmp k) (H (k+1)) (G (k+1))) ⟨setPs psl (items k) (slotsOf ts s.fr),H k,G k⟩)
  (hdone:(∀k,k<N→jmp k=none)→Q .normal ⟨s.fr,H N++[.dead],G N⟩)
  (hret:∀k,k<N→(∀j,j<k→jmp j=none)→jmp k=some .ret→Q .ret ⟨s.fr,H (k+1)++[.dead],G (k+1)⟩)
  (hexit:∀k id,k<N→(∀j,j<k→jmp j=none)→jmp k=some (.exit id)→Q (.exit id) ⟨s.fr,H (k+1)++[.dead],G (k+1)⟩) :
  Wp P R nt k0 .top b p Q s:=by
 obtain⟨ps,assign,body,hc,rfl⟩:∃ps assign body,sub b p=.rangeFunc (.tmp t) ps assign body∧ps.toList=psl:=by
  unfold rangeAt at hl
  split at hl
  ·rename_i u ps assign body hs
   simp only[Bool.and_eq_true] at hl
   have:=Nat.eq_of_beq_eq_true hl.1
   subst this
   exact⟨ps,assign,body,hs,eqPath_eq hl.2⟩
  ·cases hl
 have e0:sub b (p++[0])=assign:=by rw[sub_snoc,hc];exact sub_nil assign
 have e1:sub b (p++[1])=body:=by rw[sub_snoc,hc];exact sub_nil body
 refine⟨?_⟩
 rw[hc]
 refine wpA_to h0 (wpA_range1 (s:=⟨s.fr,H 0++[o],G 0⟩) hf hfb hpl hseq hlen hlt hit jmp hj H G rfl rfl hlH hlive hBO hBo ts hBf (fun k hk hjk l=>?_) hdone hret hexit)
 have h1:=(hround k l hk hjk).h
 rw[e0] at h1
 rw[show(St.hp ⟨setPs ps.toList (items k) (slotsOf ts s.fr),H k,G k⟩).length=m from hlH k]
 refine wpA_conseq h1 (fun e s' hq=>?_)
 cases e with
 |normal=>
  have h2:=(show Wp _ _ _ _ _ _ _ _ _ from hq).h
  rw[e1] at h2
  exact⟨rfl,h2⟩
 |exit id=>exact hq.elim
 |ret=>exact hq.elim
 |pan v=>exact hq.elim
def isTab (P:Program)(t n:Nat):Bool:=match tyOf P t with
 |some ti=>match ti.desc with
  |.array m e=>Nat.beq m n&&(match tyOf P e with
   |some ei=>Nat.beq ei.size 1
   |none=>false)
  |_=>false
 |none=>false
theorem opOk_tabAt {gs:List (Nat × List Int)}[hT:Tab (Tabs gs) R]{o:Oper}{ev:Operand→AV}{hp:List AObj}{g:R.σ}(b:Nat)(zs:List Int)(hb:(b,zs)∈gs)(hg:ev (.global b)=.val (.pointer (some ⟨b,0,none⟩))){t:TypeId}{y:Operand}{k:IntKind}{i v:Int}
  (ho:o.op=.indexAddr t (.global b) y) (hng:isGlob b y=false) (hi:ev y=.int k i) (hT0:isTab P t zs.length=true) (h0:0≤i) (h1:i<zs.length) (hv:zs.getD i.toNat 0=v) :
  OpOk P R o ev hp g (.fp 1 (fun _=>.int .u8 v)) hp g:=by
 obtain⟨ti,e,ei,ht,hd,he,hs⟩:∃ti e ei,tyOf P t=some ti∧ti.desc=.array zs.length e∧tyOf P e=some ei∧ei.size=1:=by
  unfold isTab at hT0
  split at hT0
  ·rename_i ti hti
   split at hT0
   ·rename_i m e hd
    simp only[Bool.and_eq_true] at hT0
    obtain⟨h1,h2⟩:=hT0
    split at h2
    ·rename_i ei hei
     exact⟨ti,e,ei,hti,by rw[hd,Nat.eq_of_beq_eq_true h1],hei,Nat.eq_of_beq_eq_true h2⟩
    ·cases h2
   ·cases hT0
  ·cases hT0
 have hi':evTab b zs ev y=.int k i:=by unfold evTab;rw[hng];exact hi
 have hx':evTab b zs ev (.global b)=.fp zs.length (fun j=>.int .u8 (zs.getD j 0)):=by unfold evTab isGlob;simp
 refine opOk_tab (gs:=gs) b zs hb hg (out:=⟨.fp (zs.length-i.toNat*ei.size) (shG (offs 0 i.toNat ei.size) (fun j=>.int .u8 (zs.getD j 0))),hp,[0≤i∧i<(zs.length:Int)],.pure⟩) ?_ ⟨⟨h0,h1⟩,trivial⟩ ?_
 ·rw[ho]
  simp only[runPure,runPure0,ht,hi',hd,hx',he]
  rfl
 ·rintro FM ρ w ⟨b',off,e1,h2⟩
  refine⟨b',off,e1,fun j hj=>?_⟩
  have:j=0:=by omega
  subst this
  have h3:=h2 0 (by rw[hs];omega)
  rw[hs] at h3
  have e4:shG (offs 0 i.toNat 1) (fun j=>AV.int .u8 (zs.getD j 0)) 0=.int .u8 v:=by
   rw[←hv]
   unfold shG offs
   simp
  rw[e4] at h3
  exact h3
theorem opOk_le {o:Oper}{ev:Operand→AV}{hp:List AObj}{g:R.σ}{x:AV}{out:Out}(h:runPure (tyOf P) hp ev .none o.op=some out)(hob:AllP out.ob)(hx:Le out.v x):OpOk P R o ev hp g x hp g:=by
 refine⟨fun FM ρ w evc okw hop=>?_⟩
 classical
 let ev':Operand→AV:=fun y=>if y∈o.op.operands then ev y else .any
 have hev':∀y,Den FM ρ (ev' y) (evc y):=by
  intro y
  by_cases hy:y∈o.op.operands
  ·simp only[ev',hy,if_true];exact hop y hy
  ·simp only[ev',hy,if_false];trivial
 have hsame:∀y∈o.op.operands,ev y=ev' y:=fun y hy=>by simp only[ev',hy,if_true]
 rw[runPure_ev hsame] at h
 obtain⟨⟨v,h1,h2⟩,h3⟩:=runPure_sound okw.rel hev' h hob
 exact⟨_,w,FM,ρ,v,h1,rfl,hx _ _ _ h2,okw,Ext.refl _ _ _ _,fun _ h=>.inl h,Sub.refl _⟩
end
end Go.Avm
namespace Go.Avm
open Go
variable {P:Program}{R:Res}
theorem run_items {e:TypeId}{k:IntKind}(he:P.underlying e=some (.int k)){FM:Mem}{ρ:Plc}{n:Nat}{a b:Nat→Int}{xs ys:Array Value}(hx:xs.size=n)(hy:ys.size=n)(hdx:∀j,j<n→Den FM ρ (.int k (a j)) (xs.getD j undef))(hdy:∀j,j<n→Den FM ρ (.int k (b j)) (ys.getD j undef))(d:Nat)(w:World) :
  ∀is:List Nat,(∀i,i∈is→i<n)→(Op.eqItems (d+1) e 1 xs ys is).run P w=.ok (is.all fun i=>a i==b i) w
 |[],_=>rfl
 |i::is,h=>by
  have hi:i<n:=h i List.mem_cons_self
  have ih:=run_items he hx hy hdx hdy d w is (fun j hj=>h j (List.mem_cons_of_mem _ hj))
  have heq:=eqCell_val (x:=.int k (a i)) (y:=.int k (b i)) (r:=a i==b i) he (by simp[eqCell]) (hdx i hi) (hdy i hi) d w
  have p1:=run_part_scalar (P:=P) he rfl xs i (by omega) w
  have p2:=run_part_scalar (P:=P) he rfl ys i (by omega) w
  simp only[Op.eqItems,Sem.run_bind,Nat.mul_one]
  rw[p1]
  simp only[Result.andThen_ok]
  rw[p2]
  simp only[Result.andThen_ok,heq]
  cases hb:(a i==b i)
  ·simp[hb]
  ·simp only[Bool.not_true,Bool.false_eq_true,if_false,List.all_cons,hb,Bool.true_and]
   exact ih
theorem opOk_eqArr {o:Oper}{ev:Operand→AV}{hp:List AObj}{g:R.σ}{t t2 e:TypeId}{x y:Operand}{k:IntKind}{n:Nat}{a b:Nat→Int}(ho:o.op=.binOp .eql t x y t2)(hx:ev x=.agg n (fun j=>.int k (a j)))(hy:ev y=.agg n (fun j=>.int k (b j)))
  (hu:P.underlying t=some (.array n e)) (he:P.underlying e=some (.int k)) (hi:(P.info? e).isSome=true) (hc:P.cellsOf e=1) (hg:P.eqGuardType P.depth t=false):OpOk P R o ev hp g (.bool (decide (∀j,j<n→a j=b j))) hp g:=by
 refine⟨fun FM ρ w evc okw hop=>?_⟩
 obtain⟨i,hi⟩:=Option.isSome_iff_exists.1 hi
 have h1:=hop x (by simp[ho,Op.operands])
 have h2:=hop y (by simp[ho,Op.operands])
 rw[hx] at h1
 rw[hy] at h2
 obtain⟨cs,e1,s1,c1⟩:=h1
 obtain⟨ds,e2,s2,c2⟩:=h2
 have hitems:=run_items (P:=P) he s1 s2 (fun j hj=>(c1 j hj).2) (fun j hj=>(c2 j hj).2) 9998 w (List.range n) (fun j hj=>by simpa using hj)
 have hr:((List.range n).all fun i=>a i==b i)=decide (∀j,j<n→a j=b j):=by
  rw[Bool.eq_iff_iff,decide_eq_true_iff,List.all_eq_true]
  exact⟨fun h j hj=>by simpa using h j (by simpa using hj),fun h j hj=>by simpa using h j (by simpa using hj)⟩
 have hq:(Op.equal t (.agg cs) (.agg ds)).run P w=.ok (decide (∀j,j<n→a j=b j)) w:=by
  show(Op.equalIn (9999+1) t (.agg cs) (.agg ds)).run P w=_
  rw[run_equalIn_array w 9999 cs ds hu hi,hc,←hr]
  exact hitems
 have hgd:=run_eqGuard_agg (P:=P) w .eql t x y cs ds hg
 refine⟨.value (.bool (decide (∀j,j<n→a j=b j))),w,FM,ρ,.bool (decide (∀j,j<n→a j=b j)),?_,rfl,rfl,okw,Goes.refl _ _ _ _ _⟩
 have hb:=binOp_eql t (v:=.agg cs) (u:=.agg ds) (by simp) (by simp) (by simp) (by simp)
 simp[execOp,ho,e1,e2,hgd,hb,hq]
end Go.Avm
namespace Go.Avm
open Go
variable {P:Program}{R:Res}
def isOne (P:Program)(t:Nat):Bool:=match tyOf P t with
 |some ti=> !ti.agg&&Nat.beq ti.size 1
 |none=>false
theorem isOne_of {t:Nat}(h:isOne P t=true):∃ti,tyOf P t=some ti∧ti.agg=false∧ti.size=1:=by
 unfold isOne at h
 split at h
 ·rename_i ti hti
  simp only[Bool.and_eq_true,Bool.not_eq_true'] at h
  exact⟨ti,hti,h.1,Nat.eq_of_beq_eq_true h.2⟩
 ·cases h
theorem le_canon (x:AV):Le (canonV x) x:=by
 cases x with
 |agg n get=>
  refine Le.agg fun j hj=>?_
  exact Le.of_eq (canon_get hj)
 |_=>exact Le.refl _
theorem opOk_loadK {o:Oper}{ev:Operand→AV}{hp:List AObj}{g:R.σ}{t:TypeId}{p:Operand}{b off n:Nat}{f:Bool}{get:Nat→AV}(ho:o.op=.load t p)(hp0:ev p=.ref b off)(h1:isOne P t=true)(hg:getO hp b=.cells f n get)(hn:off+1≤n){x:AV}(hx:get off=x) :
  OpOk P R o ev hp g x hp g:=by
 obtain⟨ti,e1,e2,e3⟩:=isOne_of h1
 have hs:isStrOp (tyOf P) (.load t p)=false∨isStrOp (tyOf P) (.load t p)=true:=by cases isStrOp (tyOf P) (.load t p) <;> simp
 refine opOk_le (out:=⟨bif isStrOp (tyOf P) (.load t p) then canonV (mkvO ti.agg ti.size off get) else mkvO ti.agg ti.size off get,hp,[off+ti.size≤n],.load b⟩) ?_ ⟨by rw[e3];exact hn,trivial⟩ ?_
 ·rw[ho]
  simp only[runPure,runPure0,e1,hp0,hg,e2,e3]
  rfl
 ·have hm:mkvO ti.agg ti.size off get=x:=by rw[e2,e3];subst hx;simp[mkvO]
  rw[hm]
  cases isStrOp (tyOf P) (.load t p) with
  |false=>exact Le.refl _
  |true=>exact le_canon x
end Go.Avm
namespace Go.Avm
open Go
section
variable {P:Program}{R:Res}
def isAggT (P:Program)(t s:Nat):Bool:=match tyOf P t with
 |some ti=>ti.agg&&Nat.beq ti.size s
 |none=>false
theorem opOk_loadA {o:Oper}{ev:Operand→AV}{hp:List AObj}{g:R.σ}{t:TypeId}{p:Operand}{b off n s:Nat}{f:Bool}{get:Nat→AV}{v:AV}(ho:o.op=.load t p)(hp0:ev p=.ref b off)(h1:isAggT P t s=true)(hg:getO hp b=.cells f n get)(hn:off+s≤n)(hv:Le (.agg s (fun j=>get (j+off))) v) :
  OpOk P R o ev hp g v hp g:=by
 obtain⟨ti,e1,e2,e3⟩:∃ti,tyOf P t=some ti∧ti.agg=true∧ti.size=s:=by
  unfold isAggT at h1
  split at h1
  ·rename_i ti hti
   simp only[Bool.and_eq_true] at h1
   exact⟨ti,hti,h1.1,Nat.eq_of_beq_eq_true h1.2⟩
  ·cases h1
 refine opOk_le (out:=⟨bif isStrOp (tyOf P) (.load t p) then canonV (mkvO ti.agg ti.size off get) else mkvO ti.agg ti.size off get,hp,[off+ti.size≤n],.load b⟩) ?_ ⟨by rw[e3];exact hn,trivial⟩ ?_
 ·rw[ho]
  simp only[runPure,runPure0,e1,hp0,hg,e2,e3]
  rfl
 ·have hm:mkvO ti.agg ti.size off get=.agg s (fun j=>get (j+off)):=by rw[e2,e3];rfl
  rw[hm]
  intro FM ρ w hw
  refine hv FM ρ w ?_
  cases hb:isStrOp (tyOf P) (.load t p) with
  |false=>rw[hb] at hw;exact hw
  |true=>rw[hb] at hw;exact le_canon _ FM ρ w hw
theorem Le.ow_sl {x:Bool}{o n es:Nat}(h:n≠0):Le (.ow x o n es) (.sl o 0 n n false es):=by
 intro FM ρ v hv
 obtain⟨p,cap',h1,h2,h3,h4⟩:=hv.2 h
 exact⟨p,cap',h1,h2,h3,fun h=>(by cases h),by omega⟩
end
end Go.Avm
namespace Go.Avm.Tb
open Go
theorem low_of {s:Nat}(h:0<s):∃k m,s=2^k*(2*m+1):=by
 induction s using Nat.strongRecOn with
 |_ s ih=>
  rcases Nat.mod_two_eq_zero_or_one s with h2|h2
  ·obtain⟨k,m,e⟩:=ih (s/2) (by omega) (by omega)
   refine⟨k+1,m,?_⟩
   have:s=2*(s/2):=by omega
   rw[this,e,Nat.pow_succ,Nat.mul_comm (2^k) 2,Nat.mul_assoc]
  ·exact⟨0,s/2,by omega⟩
theorem odd_bit (m j:Nat):(2*m+1).testBit j=if j=0 then true else m.testBit (j-1):=by
 have h:=Nat.testBit_two_pow_mul_add m (b:=1) (i:=1) (by decide) j
 rw[show 2^1*m+1=2*m+1 by omega] at h
 rw[h]
 by_cases hj:j=0
 ·subst hj;rfl
 ·rw[if_neg (by omega),if_neg hj]
theorem even_bit (m j:Nat):(2*m).testBit j=if j=0 then false else m.testBit (j-1):=by
 have h:=Nat.testBit_two_pow_mul_add m (b:=0) (i:=1) (by decide) j
 rw[show 2^1*m+0=2*m by omega] at h
 rw[h]
 by_cases hj:j=0
 ·subst hj;rfl
 ·rw[if_neg (by omega),if_neg hj]
theorem pow_bit (k a j:Nat):(2^k*a).testBit j=if j<k then false else a.testBit (j-k):=by
 have h:=Nat.testBit_two_pow_mul_add a (b:=0) (i:=k) (Nat.pow_pos (by decide)) j
 rw[Nat.add_zero] at h
 rw[h]
 split <;> simp
theorem low_bit {s k m:Nat}(h:s=2^k*(2*m+1))(j:Nat):s.testBit j=if j<k then false else if j=k then true else m.testBit (j-k-1):=by
 subst h
 rw[pow_bit,odd_bit]
 split
 ·rfl
 ·rename_i hj
  by_cases e:j=k
  ·rw[if_pos (by omega),if_pos e]
  ·rw[if_neg (by omega),if_neg e]
theorem pred_bit {s k m:Nat}(h:s=2^k*(2*m+1))(j:Nat):(s-1).testBit j=if j<k then true else if j=k then false else m.testBit (j-k-1):=by
 have hp:0<2^k:=Nat.pow_pos (by decide)
 have e:s-1=2^k*(2*m)+(2^k-1):=by
  rw[h,Nat.mul_add,Nat.mul_one]
  omega
 rw[e,Nat.testBit_two_pow_mul_add _ (by omega),Nat.testBit_two_pow_sub_one,even_bit]
 split
 ·rename_i hj;exact decide_eq_true hj
 ·by_cases e:j=k
  ·rw[if_pos (by omega),if_pos e]
  ·rw[if_neg (by omega),if_neg e]
theorem cut_bit {s k m:Nat}(h:s=2^k*(2*m+1))(j:Nat):(s&&&(s-1)).testBit j=(s.testBit j&&j != k):=by
 rw[Nat.testBit_and,pred_bit h,low_bit h]
 by_cases h1:j<k
 ·rw[if_pos h1,if_pos h1];rfl
 ·rw[if_neg h1,if_neg h1]
  by_cases h2:j=k
  ·rw[if_pos h2,if_pos h2];simp[h2]
  ·rw[if_neg h2,if_neg h2];simp[h2]
theorem neg_and {s k m:Nat}(h:s=2^k*(2*m+1))(hs:s<2^64):s&&&(2^64-s)=2^k:=by
 have hp:0<2^k:=Nat.pow_pos (by decide)
 have hk:k<64:=by
  rcases Nat.lt_or_ge k 64 with h'|h'
  ·exact h'
  ·have h1:2^64≤2^k:=Nat.pow_le_pow_right (by decide) h'
   have h2:2^k*1≤2^k*(2*m+1):=Nat.mul_le_mul_left _ (by omega)
   omega
 have e64:2^64=2^k*(2*2^(63-k)):=by
  rw[show 2*2^(63-k)=2^(63-k+1) by rw[Nat.pow_succ];omega,←Nat.pow_add]
  congr 1
  omega
 have hm:m<2^(63-k):=by
  rw[h,e64] at hs
  have:=Nat.lt_of_mul_lt_mul_left hs
  omega
 have hneg:2^64-s=2^k*(2*(2^(63-k)-(m+1))+1):=by
  rw[h,e64,←Nat.mul_sub]
  congr 1
  omega
 refine Nat.eq_of_testBit_eq fun j=>?_
 rw[Nat.testBit_and,low_bit h,low_bit hneg,Nat.testBit_two_pow]
 by_cases h1:j<k
 ·rw[if_pos h1];simp;omega
 ·rw[if_neg h1,if_neg h1]
  by_cases h2:j=k
  ·rw[if_pos h2,if_pos h2];simp[h2]
  ·rw[if_neg h2,if_neg h2,Nat.testBit_two_pow_sub_succ hm]
   have:¬k=j:=fun e=>h2 e.symm
   rw[decide_eq_false this]
   cases m.testBit (j-k-1) <;> simp
def memN (N s:Nat):List Nat:=(List.range N).filter (fun k=>s.testBit k)
theorem mem_memN {N s k:Nat}:k∈memN N s↔k<N∧s.testBit k=true:=by
 unfold memN
 rw[List.mem_filter,List.mem_range]
theorem mem_low {N s k m:Nat}(h:s=2^k*(2*m+1))(hk:k<N):memN N s=k::memN N (s&&&(s-1)):=by
 obtain⟨b,rfl⟩:∃b,N=k+(1+b):=⟨N-k-1,by omega⟩
 unfold memN
 rw[List.range_add,List.range_add,List.filter_append,List.filter_append,List.map_append,List.filter_append,List.filter_append]
 have h1:(List.range k).filter (fun j=>s.testBit j)=[]:=by
  rw[List.filter_eq_nil_iff]
  intro j hj
  rw[List.mem_range] at hj
  rw[low_bit h,if_pos hj]
  decide
 have h2:(List.range k).filter (fun j=>(s&&&(s-1)).testBit j)=[]:=by
  rw[List.filter_eq_nil_iff]
  intro j hj
  rw[List.mem_range] at hj
  rw[cut_bit h,low_bit h,if_pos hj]
  simp
 have h3:((List.range 1).map (k+·)).filter (fun j=>s.testBit j)=[k]:=by
  show List.filter _ [k+0]=_
  rw[Nat.add_zero]
  have:s.testBit k=true:=by rw[low_bit h,if_neg (by omega),if_pos rfl]
  simp[this]
 have h4:((List.range 1).map (k+·)).filter (fun j=>(s&&&(s-1)).testBit j)=[]:=by
  rw[List.filter_eq_nil_iff]
  intro j hj
  have hj:j∈[k+0]:=hj
  rw[List.mem_singleton,Nat.add_zero] at hj
  rw[hj,cut_bit h]
  simp
 rw[h1,h2,h3,h4]
 simp only[List.nil_append,List.singleton_append]
 congr 1
 refine List.filter_congr (fun j hj=>?_)
 obtain⟨i,hi,rfl⟩:=List.mem_map.1 hj
 obtain⟨i',hi',rfl⟩:=List.mem_map.1 hi
 rw[cut_bit h]
 have:(k+(1+i') != k)=true:=by rw[bne_iff_ne];omega
 rw[this,Bool.and_true]
theorem mem_zero (N:Nat):memN N 0=[]:=by
 unfold memN
 rw[List.filter_eq_nil_iff]
 simp
theorem zero_of_mem {N s:Nat}(hs:s<2^N)(h:memN N s=[]):s=0:=by
 refine Nat.eq_of_testBit_eq fun j=>?_
 rw[Nat.zero_testBit]
 rcases Nat.lt_or_ge j N with hj|hj
 ·cases hb:s.testBit j with
  |false=>rfl
  |true=>
   have:j∈memN N s:=mem_memN.2 ⟨hj,hb⟩
   rw[h] at this
   cases this
 ·exact Nat.testBit_lt_two_pow (Nat.lt_of_lt_of_le hs (Nat.pow_le_pow_right (by decide) hj))
def cutN (s:Nat):Nat→Nat
 |0=>s
 |j+1=>cutN s j&&&(cutN s j-1)
theorem cutN_lt {N s:Nat}(hs:s<2^N):∀j,cutN s j<2^N
 |0=>hs
 |j+1=>Nat.lt_of_le_of_lt Nat.and_le_left (cutN_lt hs j)
theorem low_lt {N s k m:Nat}(h:s=2^k*(2*m+1))(hs:s<2^N):k<N:=by
 rcases Nat.lt_or_ge k N with h'|h'
 ·exact h'
 ·have h1:2^N≤2^k:=Nat.pow_le_pow_right (by decide) h'
  have h2:2^k*1≤2^k*(2*m+1):=Nat.mul_le_mul_left _ (by omega)
  omega
theorem cutN_mem {N s:Nat}(hs:s<2^N):∀j,memN N (cutN s j)=(memN N s).drop j
 |0=>rfl
 |j+1=>by
  have ih:=cutN_mem hs j
  show memN N (cutN s j&&&(cutN s j-1))=_
  rcases Nat.eq_zero_or_pos (cutN s j) with h0|h0
  ·rw[h0,mem_zero] at ih
   rw[h0,show(0&&&(0-1):Nat)=0 from rfl,mem_zero]
   rw[show(memN N s).drop (j+1)=((memN N s).drop j).drop 1 by rw[List.drop_drop],←ih]
   rfl
  ·obtain⟨k,m,e⟩:=low_of h0
   have hk:=low_lt e (cutN_lt hs j)
   rw[mem_low e hk] at ih
   rw[show(memN N s).drop (j+1)=((memN N s).drop j).drop 1 by rw[List.drop_drop],←ih]
   rfl
theorem cutN_in {N s:Nat}(hs:s<2^N){j:Nat}(hj:j<(memN N s).length):∃m,cutN s j=2^((memN N s).getD j 0)*(2*m+1):=by
 have h:=cutN_mem hs j
 rcases Nat.eq_zero_or_pos (cutN s j) with h0|h0
 ·rw[h0,mem_zero] at h
  have:=congrArg List.length h
  rw[List.length_drop] at this
  simp at this
  omega
 ·obtain⟨k,m,e⟩:=low_of h0
  have hk:=low_lt e (cutN_lt hs j)
  rw[mem_low e hk,List.drop_eq_getElem_cons hj] at h
  have hk':k=(memN N s)[j]:=(List.cons.inj h).1
  refine⟨m,?_⟩
  rw[List.getD_eq_getElem?_getD,List.getElem?_eq_getElem hj,Option.getD_some,←hk']
  exact e
theorem cutN_end {N s:Nat}(hs:s<2^N):cutN s (memN N s).length=0:=by
 refine zero_of_mem (cutN_lt hs _) ?_
 rw[cutN_mem hs,List.drop_length]
theorem wrapu (n:Int):IntKind.u64.wrap n=n%18446744073709551616:=by simp[IntKind.wrap,IntKind.bits,IntKind.signed]
theorem of_nat {s:Nat}(hs:s<2^64):(BitVec.ofInt 64 (s:Int)).toNat=s:=by
 rw[BitVec.ofInt_natCast,BitVec.toNat_ofNat]
 exact Nat.mod_eq_of_lt hs
theorem wrapU {s:Nat}(hs:s<2^64):IntKind.u64.wrap (s:Int)=s:=by
 rw[wrapu]
 have:(2:Nat)^64=18446744073709551616:=by decide
 omega
theorem u64_and {s t:Nat}(hs:s<2^64)(ht:t<2^64):IntKind.u64.wrap ((BitVec.ofInt 64 (s:Int)&&&BitVec.ofInt 64 (t:Int)).toNat:Int)=((s&&&t:Nat):Int):=by
 rw[BitVec.toNat_and,of_nat hs,of_nat ht]
 exact wrapU (Nat.lt_of_le_of_lt Nat.and_le_left hs)
theorem u64_or {s t:Nat}(hs:s<2^64)(ht:t<2^64):IntKind.u64.wrap ((BitVec.ofInt 64 (s:Int)|||BitVec.ofInt 64 (t:Int)).toNat:Int)=((s|||t:Nat):Int):=by
 rw[BitVec.toNat_or,of_nat hs,of_nat ht]
 exact wrapU (Nat.or_lt_two_pow hs ht)
theorem u64_sub {s t:Nat}(hs:s<2^64)(h:t≤s):IntKind.u64.wrap ((s:Int)-(t:Int))=((s-t:Nat):Int):=by
 rw[←Int.ofNat_sub h]
 exact wrapU (by omega)
theorem u64_neg {s:Nat}(h0:0<s)(hs:s<2^64):IntKind.u64.wrap (0-(s:Int))=((2^64-s:Nat):Int):=by
 rw[wrapu]
 have:(2:Nat)^64=18446744073709551616:=by decide
 omega
theorem u64_cut {s:Nat}(h0:0<s)(hs:s<2^64):IntKind.u64.wrap ((BitVec.ofInt 64 (s:Int)&&&BitVec.ofInt 64 (IntKind.u64.wrap ((s:Int)-1))).toNat:Int)=((s&&&(s-1):Nat):Int):=by
 have e:IntKind.u64.wrap ((s:Int)-1)=((s-1:Nat):Int):=u64_sub (t:=1) hs h0
 rw[e]
 exact u64_and hs (by omega)
theorem u64_low {s k m:Nat}(h:s=2^k*(2*m+1))(hs:s<2^64):IntKind.u64.wrap ((BitVec.ofInt 64 (s:Int)&&&BitVec.ofInt 64 (IntKind.u64.wrap (0-(s:Int)))).toNat:Int)=((2^k:Nat):Int):=by
 have hp:0<2^k:=Nat.pow_pos (by decide)
 have h0:0<s:=by
  rw[h]
  exact Nat.mul_pos hp (by omega)
 rw[u64_neg h0 hs,u64_and hs (by omega),neg_and h hs]
end Go.Avm.Tb
namespace Go.Avm
open Go Go.Maps
section
variable {P:Program}{R:Res}
theorem opOk_look1_hit {o:Oper}{ev:Operand→AV}{hp:List AObj}{g:R.σ}{t kt vt:TypeId}{m x:Operand}{ob:Nat}{es:List (Value × AV)}{kv:Value}{d:AV}(ho:o.op=.lookup t m x false)(ht:P.underlying t=some (.map kt vt))(K:Keyed P kt)(hm:ev m=.mp ob)(hob:getO hp ob=.map es)
  (hx:∀FM ρ v,Den FM ρ (ev x) v→v=kv) (hk:∃l,keyOf P kt kv=some l) (hks:∀e∈es,∃l,keyOf P kt e.1=some l) (h1:∃e∈es,e.1=kv) (h2:∀e∈es,e.1=kv→e.2=d) :
  OpOk P R o ev hp g d hp g:=by
 refine⟨fun FM ρ w evc ok hop=>?_⟩
 have hdm:=hop m (by simp[ho,Op.operands])
 have hdx:=hx _ _ _ (hop x (by simp[ho,Op.operands]))
 rw[hm] at hdm
 obtain⟨p,mes,clock,hp',hv,_,_,hh,hl,hes⟩:=map_at ok hob hdm
 obtain⟨kl,hk⟩:=hk
 have hks':∀e∈mes.toList,∃l,keyOf P kt e.key=some l:=fun e he=>by
  obtain⟨i,hi⟩:=List.getElem?_of_mem he
  obtain⟨v,hv,_⟩:=map_keys hl hes hi
  exact hks _ (List.mem_of_getElem? hv)
 have hck:=K.check w mes.isEmpty hk
 rcases K.find w hk mes.toList hks' with⟨_,hno⟩|⟨j,e,hf,hj,hek⟩
 ·exfalso
  obtain⟨e0,he0,hk0⟩:=h1
  obtain⟨i,hi⟩:=List.getElem?_of_mem he0
  obtain⟨e,q1,q2,_⟩:=hes i e0.1 e0.2 (by rw[hi])
  exact hno e (by rw[←Array.getElem?_toList] at q1;exact List.mem_of_getElem? q1) (by rw[q2,hk0])
 ·obtain⟨v,hv',hd⟩:=map_keys hl hes hj
  have hvd:v=d:=h2 _ (List.mem_of_getElem? hv') hek
  subst hvd
  refine⟨.value e.val,w,FM,ρ,_,?_,rfl,hd.lift,ok,Goes.refl _ _ _ _ _⟩
  simp[execOp,ho,Instr.lookup,run_underlying ht,hv,hdx,getObj,Sem.run_bind,hh,hck,hf,Result.andThen,Sem.run]
theorem opOk_look1_miss {o:Oper}{ev:Operand→AV}{hp:List AObj}{g:R.σ}{t kt vt:TypeId}{m x:Operand}{ob:Nat}{es:List (Value × AV)}{kv:Value}{ti:TyI}{z:AV}(ho:o.op=.lookup t m x false)(ht:P.underlying t=some (.map kt vt))(K:Keyed P kt)(hvt:tyOf P vt=some ti)(hz0:Le (mkv ti.agg ti.size ti.zero) z)(hm:ev m=.mp ob)(hob:getO hp ob=.map es)
  (hx:∀FM ρ v,Den FM ρ (ev x) v→v=kv) (hk:∃l,keyOf P kt kv=some l) (hks:∀e∈es,∃l,keyOf P kt e.1=some l) (h1:∀e∈es,e.1≠kv) :
  OpOk P R o ev hp g z hp g:=by
 refine⟨fun FM ρ w evc ok hop=>?_⟩
 have hdm:=hop m (by simp[ho,Op.operands])
 have hdx:=hx _ _ _ (hop x (by simp[ho,Op.operands]))
 rw[hm] at hdm
 obtain⟨p,mes,clock,hp',hv,_,_,hh,hl,hes⟩:=map_at ok hob hdm
 obtain⟨kl,hk⟩:=hk
 have hks':∀e∈mes.toList,∃l,keyOf P kt e.key=some l:=fun e he=>by
  obtain⟨i,hi⟩:=List.getElem?_of_mem he
  obtain⟨v,hv,_⟩:=map_keys hl hes hi
  exact hks _ (List.mem_of_getElem? hv)
 have hck:=K.check w mes.isEmpty hk
 obtain⟨z0,hz,_,_⟩:=denC_zero (FM:=FM) (ρ:=ρ) (tyOf_ok hvt)
 rcases K.find w hk mes.toList hks' with⟨hf,_⟩|⟨j,e,hf,hj,hek⟩
 ·refine⟨.value z0,w,FM,ρ,_,?_,rfl,hz0 _ _ _ (den_zero (tyOf_ok hvt) hz),ok,Goes.refl _ _ _ _ _⟩
  simp[execOp,ho,Instr.lookup,run_underlying ht,hv,hdx,getObj,Sem.run_bind,hh,hck,hf,hz,Result.andThen,Sem.run]
 ·exfalso
  obtain⟨v,hv',hd⟩:=map_keys hl hes hj
  exact h1 _ (List.mem_of_getElem? hv') hek
end
end Go.Avm
namespace Go.Avm
open Go Go.Maps
section
variable {P:Program}{R:Res}
theorem opOk_makeMapO {o:Oper}{ev:Operand→AV}{hp:List AObj}{g:R.σ}{t:TypeId}(ho:o.op=.makeMap t none):OpOk P R o ev hp g (.mp hp.length) (addO hp (.mapo [])) g:=by
 refine⟨fun FM ρ w evc ok _=>?_⟩
 have hnew:FM w.heap.size=none:=by
  cases hf:FM w.heap.size with
  |none=>rfl
  |some o=>have:=(Array.getElem?_eq_some_iff.1 (ok.rel.fm _ _ hf)).1;omega
 obtain⟨a1,a2,a3⟩:=hrel_new ok.rel (.map #[] 0) (.mapo []) 0 (fun FM' h=>by
  refine⟨Nat.le_refl _,?_,#[],0,World.alloc_heap_new w _,rfl,fun i k v hi=>by simp at hi⟩
  cases hf:FM' w.heap.size with
  |none=>rfl
  |some y=>have:=h _ _ hf;rw[hnew] at this;cases this)
 obtain⟨b1,b2⟩:=own_step ok a1 a2 (Sub.snoc _ _)
 exact⟨.value (.map (some w.heap.size)),w.alloc (.map #[] 0),FM,_,_,by simp[execOp,ho,Instr.makeMap],rfl,⟨_,a3,rfl⟩,b1,b2⟩
theorem mapo_at {hp:List AObj}{g:R.σ}{FM:Mem}{ρ:Plc}{w:World}(ok:Ok R hp g FM ρ w){ob:Nat}{es:List (Value × AV)}(hob:getO hp ob=.mapo es){v:Value}(hv:Den FM ρ (.mp ob) v) :
  ∃p mes clock,ρ[ob]? = some p∧v=.map (some p.1)∧p.2.1≤p.2.2∧FM p.1=none∧w.heap[p.1]? = some (.map mes clock)∧mes.size=es.length∧∀(i:Nat) (k:Value) (v:AV),es[i]? = some (k,v)→∃e,mes[i]? = some e∧e.key=k∧Den FM ρ v e.val:=by
 obtain⟨p,hp,rfl⟩:=hv
 obtain⟨_,h2⟩:=ok.rel.obj ob p hp
 rw[hob] at h2
 obtain⟨a1,a2,mes,clock,a3,a4,a5⟩:=h2
 exact⟨p,mes,clock,hp,rfl,a1,a2,a3,a4,a5⟩
theorem mapo_keys {es:List (Value × AV)}{mes:Array MapEntry}{FM:Mem}{ρ:Plc}(hl:mes.size=es.length)(h:∀(i:Nat) (k:Value) (v:AV),es[i]? = some (k,v)→∃e,mes[i]? = some e∧e.key=k∧Den FM ρ v e.val){i:Nat}{e:MapEntry}(hi:mes.toList[i]? = some e):∃v,es[i]? = some (e.key,v)∧Den FM ρ v e.val:=by
 have hlt:i<es.length:=by
  have:=(List.getElem?_eq_some_iff.1 hi).1
  simpa[hl] using this
 obtain⟨e',h1,h2,h3⟩:=h i es[i].1 es[i].2 (by rw[List.getElem?_eq_getElem hlt])
 rw[Array.getElem?_toList] at hi
 rw[hi] at h1
 cases h1
 exact⟨es[i].2,by rw[List.getElem?_eq_getElem hlt,h2],h3⟩
theorem opOk_lookO {o:Oper}{ev:Operand→AV}{hp:List AObj}{g:R.σ}{t kt vt:TypeId}{m x:Operand}{ob:Nat}{es:List (Value × AV)}{kv:Value}{ti:TyI}{d:AV}(ho:o.op=.lookup t m x false)(ht:P.underlying t=some (.map kt vt))(K:Keyed P kt)(hvt:tyOf P vt=some ti)(hm:ev m=.mp ob)(hob:getO hp ob=.mapo es)
  (hx:∀FM ρ v,Den FM ρ (ev x) v→v=kv) (hk:∃l,keyOf P kt kv=some l) (hks:∀e∈es,∃l,keyOf P kt e.1=some l) (h1:(∀e∈es,e.1≠kv)→Le (mkv ti.agg ti.size ti.zero) d) (h2:∀e∈es,e.1=kv→e.2=d) :
  OpOk P R o ev hp g d hp g:=by
 refine⟨fun FM ρ w evc ok hop=>?_⟩
 have hdm:=hop m (by simp[ho,Op.operands])
 have hdx:=hx _ _ _ (hop x (by simp[ho,Op.operands]))
 rw[hm] at hdm
 obtain⟨p,mes,clock,hp',hv,_,_,hh,hl,hes⟩:=mapo_at ok hob hdm
 obtain⟨kl,hk⟩:=hk
 have hks':∀e∈mes.toList,∃l,keyOf P kt e.key=some l:=fun e he=>by
  obtain⟨i,hi⟩:=List.getElem?_of_mem he
  obtain⟨v,hv,_⟩:=mapo_keys hl hes hi
  exact hks _ (List.mem_of_getElem? hv)
 have hck:=K.check w mes.isEmpty hk
 obtain⟨z0,hz,_,_⟩:=denC_zero (FM:=FM) (ρ:=ρ) (tyOf_ok hvt)
 rcases K.find w hk mes.toList hks' with⟨hf,hno⟩|⟨j,e,hf,hj,hek⟩
 ·have hno':∀e∈es,e.1≠kv:=fun e0 he0 hk0=>by
   obtain⟨i,hi⟩:=List.getElem?_of_mem he0
   obtain⟨e,q1,q2,_⟩:=hes i e0.1 e0.2 (by rw[hi])
   exact hno e (by rw[←Array.getElem?_toList] at q1;exact List.mem_of_getElem? q1) (by rw[q2,hk0])
  refine⟨.value z0,w,FM,ρ,_,?_,rfl,h1 hno' _ _ _ (den_zero (tyOf_ok hvt) hz),ok,Goes.refl _ _ _ _ _⟩
  simp[execOp,ho,Instr.lookup,run_underlying ht,hv,hdx,getObj,Sem.run_bind,hh,hck,hf,hz,Result.andThen,Sem.run]
 ·obtain⟨v,hv',hd⟩:=mapo_keys hl hes hj
  have hvd:v=d:=h2 _ (List.mem_of_getElem? hv') hek
  subst hvd
  refine⟨.value e.val,w,FM,ρ,_,?_,rfl,hd,ok,Goes.refl _ _ _ _ _⟩
  simp[execOp,ho,Instr.lookup,run_underlying ht,hv,hdx,getObj,Sem.run_bind,hh,hck,hf,Result.andThen,Sem.run]
theorem hrel_mapo {FM:Mem}{ρ:Plc}{hp:List AObj}{w:World}(hr:HRel FM ρ hp w){ob:Nat}{es es':List (Value × AV)}(hob:getO hp ob=.mapo es){p:Nat × Nat × Nat}(hp':ρ[ob]? = some p){mes':Array MapEntry}{clock':Nat}(hl:mes'.size=es'.length)
  (hes:∀(i:Nat) (k:Value) (v:AV),es'[i]? = some (k,v)→∃e,mes'[i]? = some e∧e.key=k∧Den FM ρ v e.val) :
  HRel FM ρ (setO hp ob (.mapo es')) (w.putObj p.1 (.map mes' clock'))∧Ext noB FM ρ w FM ρ (w.putObj p.1 (.map mes' clock')):=by
 obtain⟨h1,h2⟩:=hr.obj ob p hp'
 rw[hob] at h2
 obtain⟨a1,a2,mes,clock,a3,a4,a5⟩:=h2
 have hol:ob<hp.length:=by rw[←hr.len];exact(List.getElem?_eq_some_iff.1 hp').1
 have hlt:=h1 a1
 have oth:∀b,b≠p.1→(w.putObj p.1 (.map mes' clock')).heap[b]? = w.heap[b]?:= fun b hb=>World.putObj_heap_other hb
 refine⟨⟨fun b o' h=>?_,by rw[length_setO];exact hr.len,fun i q hi=>?_,fun i j q r hi hj hli hlj hqr=>?_⟩,fun _ _ h=>h,fun _ _ h=>.inl h,fun b h=>.inl h,fun b hb hn _=>oth b (fun he=>hn ⟨p,mem_of_get hp',he.symm,a1⟩),by simp,rfl,rfl,rfl⟩
 ·rw[oth b (fun he=>by rw[he,a2] at h;cases h)];exact hr.fm b o' h
 ·obtain⟨b1,b2⟩:=hr.obj i q hi
  refine⟨by simpa using b1,?_⟩
  by_cases hio:i=ob
  ·subst hio
   rw[hp'] at hi;cases hi
   rw[getO_setO_eq hol]
   exact⟨a1,a2,mes',clock',World.putObj_heap_same hlt,hl,hes⟩
  ·rw[getO_setO_ne (fun h=>hio h.symm)]
   exact b2.mono (Sub.refl _) (fun hlv=>oth _ (fun he=>hio (hr.inj i ob q p hi hp' hlv (by rw[hob];rfl) he)))
 ·have key:∀i,isLive (getO (setO hp ob (.mapo es')) i)=true→isLive (getO hp i)=true:=fun i h=>by
   by_cases hio:i=ob
   ·subst hio;rw[hob];rfl
   ·rw[getO_setO_ne (fun h=>hio h.symm)] at h;exact h
  exact hr.inj i j q r hi hj (key i hli) (key j hlj) hqr
structure MapPut (es es':List (Value × AV))(kv:Value)(d:AV):Prop where
 new:(∀e∈es,e.1≠kv)→es'=es++[(kv,d)]
 set:(∃e∈es,e.1=kv)→es'.length=es.length∧∀(i:Nat) (k:Value) (v:AV),es'[i]? = some (k,v)→(k=kv∧v=d∧∃v0,es[i]? = some (k,v0))∨(k≠kv∧es[i]? = some (k,v))
 inj:∀(i j:Nat) (k:Value) (v v':AV),es[i]? = some (k,v)→es[j]? = some (k,v')→i=j
theorem opOk_mapPut {o:Oper}{ev:Operand→AV}{hp:List AObj}{g:R.σ}{t kt vt:TypeId}{m x y:Operand}{ob:Nat}{es es':List (Value × AV)}{kv:Value}{d:AV}(ho:o.op=.mapUpdate t m x y)(ht:P.underlying t=some (.map kt vt))(K:Keyed P kt)(hm:ev m=.mp ob)(hob:getO hp ob=.mapo es)
  (hx:∀FM ρ v,Den FM ρ (ev x) v→v=kv) (hy:ev y=d) (hk:∃l,keyOf P kt kv=some l) (hks:∀e∈es,∃l,keyOf P kt e.1=some l) (hput:MapPut es es' kv d) :
  OpOk P R o ev hp g .any (setO hp ob (.mapo es')) g:=by
 refine⟨fun FM ρ w evc ok hop=>?_⟩
 have hdm:=hop m (by simp[ho,Op.operands])
 have hdx:=hx _ _ _ (hop x (by simp[ho,Op.operands]))
 have hdy:=hop y (by simp[ho,Op.operands])
 rw[hm] at hdm
 rw[hy] at hdy
 obtain⟨p,mes,clock,hp',hv,_,_,hh,hl,hes⟩:=mapo_at ok hob hdm
 obtain⟨kl,hk⟩:=hk
 have hks':∀e∈mes.toList,∃l,keyOf P kt e.key=some l:=fun e he=>by
  obtain⟨i,hi⟩:=List.getElem?_of_mem he
  obtain⟨v,hv,_⟩:=mapo_keys hl hes hi
  exact hks _ (List.mem_of_getElem? hv)
 have hck:=K.check w false hk
 rcases K.find w hk mes.toList hks' with⟨hf,hno⟩|⟨j,e,hf,hj,hek⟩
 ·have hno':∀e∈es,e.1≠kv:=fun e0 he0 hk0=>by
   obtain⟨i,hi⟩:=List.getElem?_of_mem he0
   obtain⟨e,q1,q2,_⟩:=hes i e0.1 e0.2 (by rw[hi])
   exact hno e (by rw[←Array.getElem?_toList] at q1;exact List.mem_of_getElem? q1) (by rw[q2,hk0])
  obtain rfl:=hput.new hno'
  obtain⟨c1,c2⟩:=hrel_mapo ok.rel hob hp' (es':=es++[(kv,d)]) (mes':=mes.push { key:=kv,val:=evc y,born:=clock }) (clock':=clock+1) (by simp[hl]) (fun i k v hi=>by
   rcases Nat.lt_or_ge i es.length with h|h
   ·rw[List.getElem?_append_left h] at hi
    obtain⟨e,q1,q2,q3⟩:=hes i k v hi
    exact⟨e,by rw[Array.getElem?_push,if_neg (by omega)];exact q1,q2,q3⟩
   ·have hi':=(List.getElem?_eq_some_iff.1 hi).1
    have:i=es.length:=by simp at hi';omega
    subst this
    simp at hi
    obtain⟨rfl,rfl⟩:=hi
    exact⟨{ key:=kv,val:=evc y,born:=clock },by rw[←hl];simp,rfl,hdy⟩)
  obtain⟨b1,b2⟩:=own_step ok c1 c2 (Sub.refl _)
  refine⟨.skip,_,FM,ρ,undef,?_,rfl,trivial,b1,b2⟩
  simp[execOp,ho,Instr.mapUpdate,run_underlying ht,hv,hdx,getObj,setObj,Sem.run_bind,hh,hck,hf,Result.andThen,Sem.run,World.putObj]
 ·obtain⟨v0,hv0,_⟩:=mapo_keys hl hes hj
  obtain⟨hlen,hall⟩:=hput.set ⟨_,List.mem_of_getElem? hv0,hek⟩
  have hjs:mes[j]? = some e:=by rw[Array.getElem?_toList] at hj;exact hj
  have hst:=K.stays w hk
  obtain⟨c1,c2⟩:=hrel_mapo ok.rel hob hp' (es':=es') (mes':=mes.modify j fun e=>{ e with key:=kv,val:=evc y }) (clock':=clock) (by simp[hl,hlen]) (fun i k v hi=>by
   rw[Array.getElem?_modify]
   rcases hall i k v hi with⟨rfl,rfl,v1,h1⟩|⟨hne,h1⟩
   ·have:i=j:=hput.inj i j k v1 v0 h1 (by rw[←hek];exact hv0)
    subst this
    rw[if_pos rfl,hjs]
    exact⟨_,rfl,rfl,hdy⟩
   ·have:¬j=i:=fun he=>by
     subst he
     rw[hv0] at h1
     cases h1
     exact hne hek
    rw[if_neg this]
    exact hes i k v h1)
  obtain⟨b1,b2⟩:=own_step ok c1 c2 (Sub.refl _)
  have hke:((mes[j]?).map (·.key)).getD kv=kv:=by rw[hjs];exact hek
  refine⟨.skip,_,FM,ρ,undef,?_,rfl,trivial,b1,b2⟩
  simp[execOp,ho,Instr.mapUpdate,run_underlying ht,hv,hdx,getObj,setObj,Sem.run_bind,hh,hck,hf,hke,hst,Result.andThen,Sem.run,World.putObj]
theorem to_frzM {k0:Nat}{s:St R.σ}(k m:Nat)(es es':List (Value × AV))(ts:List Nat)(hk:k0≤k)(hm:getO s.hp m=.mapo es)(hmk:m<k)(hml:k≤s.hp.length)
  (hcells:∀i,k≤i→isLive (getO s.hp i)=true→∃n c,getO s.hp i=.cells false n c∧∀j,j<n→Below 0 (c j))
  (hlen:es'.length=es.length)
  (hes:∀(i:Nat) (kv:Value) (v':AV),es'[i]? = some (kv,v')→∃x o n e N c,es[i]? = some (kv,.ow x o n e)∧k≤o∧0<n∧0<e∧getO s.hp o=.cells false N c∧n*e≤N∧Le (.fz .opn e n (fun i j=>c (i*e+j))) v')
  (hot:∀i,i<k→i≠m→belowO k (getO s.hp i)) (hfr:AllP (obK k s.fr ts)):To R k0 s ⟨keepFr s.fr ts,setO (takeO k s.hp) m (.map es'),s.g⟩:=by
 classical
 intro ρ0 FM ρ w vals h0 hs ok fr
 let C:Nat→Prop:=fun b=>∃i p,k≤i∧ρ[i]? = some p∧p.1=b∧isLive (getO s.hp i)=true
 let FM':Mem:=fun b=>if C b then w.heap[b]? else FM b
 have hC:∀b,C b→FM' b=w.heap[b]?:= fun b h=>if_pos h
 have hN:∀b,¬C b→FM' b=FM b:=fun b h=>if_neg h
 have hin:∀b,C b→InB ρ b:=fun b ⟨i,p,_,h2,h3,h4⟩=>⟨p,mem_of_get h2,h3,(ok.rel.real h2 h4).1⟩
 have hmono:∀b o,FM b=some o→FM' b=some o:=fun b o h=>by
  by_cases hc:C b
  ·rw[hC b hc];exact ok.rel.fm b o h
  ·rw[hN b hc];exact h
 have hsound:∀b o,FM' b=some o→w.heap[b]? = some o:=fun b o h=>by
  by_cases hc:C b
  ·rw[hC b hc] at h;exact h
  ·rw[hN b hc] at h;exact ok.rel.fm b o h
 have hgrow:∀b o,FM' b=some o→FM b=some o∨InB ρ b:=fun b o h=>by
  by_cases hc:C b
  ·exact .inr (hin b hc)
  ·rw[hN b hc] at h;exact .inl h
 have hkept:∀(i:Nat) (p:Nat × Nat × Nat),i<k→ρ[i]? = some p→isLive (getO s.hp i)=true→FM' p.1=FM p.1:=fun i p hi hp hl=>hN _ (fun ⟨j,q,h1,h2,h3,h4⟩=>by
  have:=ok.rel.inj i j p q hp h2 hl h4 h3.symm
  omega)
 have hkeep:Keep (R.B s.g) FM w FM' w:=⟨hmono,fun b hb=>hN b (fun hc=>(ok.bd b hb).2 (hin b hc)),hsound,fun _ _=>rfl,Nat.le_refl _,rfl,rfl,rfl⟩
 have hget:∀(i:Nat) (p:Nat × Nat × Nat),(ρ.take k)[i]? = some p→i<k∧ρ[i]? = some p:=fun i p h=>by
  rw[List.getElem?_take] at h
  split at h
  ·rename_i hi;exact⟨hi,h⟩
  ·cases h
 have htl:(takeO k s.hp).length=k:=by rw[length_takeO];omega
 have hgo:∀i,i<k→i≠m→getO (setO (takeO k s.hp) m (.map es')) i=getO s.hp i:=fun i hi hne=>by
  rw[getO_setO_ne (fun e=>hne e.symm),getO_takeO,if_pos hi]
 have hgm:getO (setO (takeO k s.hp) m (.map es')) m=.map es':=getO_setO_eq (by omega)
 have hinT:∀b,InB (ρ.take k) b→InB ρ b:=fun b ⟨p,hp,hb⟩=>⟨p,List.mem_of_mem_take hp,hb⟩
 refine⟨FM',ρ.take k,⟨⟨hsound,by show _=(setO (takeO k s.hp) m _).length;rw[length_setO,htl,List.length_take,ok.rel.len];omega,fun i p hi=>?_,fun i j p q hi hj hli hlj hpq=>?_⟩,R.st ok.j hkeep,fun b hb=>⟨(ok.bd b hb).1,fun h=>(ok.bd b hb).2 (hinT b h)⟩⟩,?_,fun i p hi=>?_,hmono,hgrow,hinT,rfl⟩
 ·obtain⟨hik,hi'⟩:=hget i p hi
  obtain⟨k1,k2⟩:=ok.rel.obj i p hi'
  refine⟨k1,?_⟩
  show ObjRel FM' (ρ.take k) p w (getO (setO (takeO k s.hp) m (.map es')) i)
  by_cases him:i=m
  ·subst him
   rw[hgm]
   have hfm:=hkept i p hik hi' (by rw[hm];rfl)
   rw[hm] at k2
   obtain⟨a1,a2,mes,clock,a3,a4,a5⟩:=k2
   refine⟨a1,hfm.trans a2,mes,clock,a3,by rw[hlen];exact a4,fun j kv v' hj=>?_⟩
   obtain⟨x,o,n,e,N,c,b1,b2,b3,b4,b5,b6,b7⟩:=hes j kv v' hj
   obtain⟨en,c1,c2,c3⟩:=a5 j kv _ b1
   refine⟨en,c1,c2,b7 _ _ _ ⟨fun h=>(by cases h),fun _=>?_⟩⟩
   obtain⟨q,cap',d1,d2,d3,d4⟩:=c3.2 (by omega)
   obtain⟨_,g2⟩:=ok.rel.obj o q d1
   rw[b5] at g2
   have hpos:0<n*e:=Nat.mul_pos b3 b4
   obtain⟨cs,ty,f1,f2,f3,f4,_⟩:=g2 (by omega)
   have hCo:C q.1:=⟨o,q,b2,d1,rfl,by rw[b5];exact live_cells (by omega)⟩
   obtain⟨n2,c2',e1,e2⟩:=hcells o b2 (by rw[b5];exact live_cells (by omega))
   rw[b5] at e1
   cases e1
   refine⟨q.1,q.2.1,cap',d2,d3,fun h=>(by rcases h with h|h <;> cases h),fun i' j' hi' hj'=>?_⟩
   have hlt:i'*e+j'<N:=by
    have:(i'+1)*e≤n*e:=Nat.mul_le_mul_right _ hi'
    rw[Nat.add_mul] at this
    omega
   obtain⟨y,y1,y2,y3⟩:=f4 (i'*e+j') hlt
   refine⟨y,?_,y2,?_⟩
   ·unfold fmCell
    rw[hC _ hCo,f1]
    show cs[q.2.1+i'*e+j']? = some y
    rw[←y1]
    congr 1
    omega
   ·have:=den_below (k:=0) _ (Den.mono hmono _ (Sub.refl ρ) y3) (e2 _ hlt)
    simpa using this
  ·rw[hgo i hik him]
   have hb:=hot i hik him
   cases hx:getO s.hp i with
   |dead=>trivial
   |map a=>
    rw[hx] at k2
    exact objRel_map k2 hmono rfl ((hkept i p hik hi' (by rw[hx];rfl)).trans k2.2.1)
   |mapo a=>
    rw[hx] at k2 hb
    have hf:=hkept i p hik hi' (by rw[hx];rfl)
    obtain⟨a1,a2,mes,clock,a3,a4,a5⟩:=k2
    exact⟨a1,hf.trans a2,mes,clock,a3,a4,fun j kv v hj=>let ⟨e,b1,b2,b3⟩:=a5 j kv v hj;⟨e,b1,b2,den_below _ (Den.mono hmono _ (Sub.refl ρ) b3) (hb _ (List.mem_of_getElem? hj))⟩⟩
   |cells f n c=>
    rw[hx] at k2 hb
    intro hn
    have hf:=hkept i p hik hi' (by rw[hx];exact live_cells hn)
    obtain⟨cs,e,a1,a2,a3,a4,a5,a6⟩:=k2 hn
    exact⟨cs,e,a1,a2,a3,fun j hj=>let ⟨y,b1,b2,b3⟩:=a4 j hj;⟨y,b1,b2,den_below _ (Den.mono hmono _ (Sub.refl ρ) b3) (hb j hj)⟩,fun h=>hf.trans (a5 h),fun h=>hf.trans (a6 h)⟩
 ·obtain⟨hik,hi'⟩:=hget i p hi
  obtain⟨hjk,hj'⟩:=hget j q hj
  have live:∀i,i<k→isLive (getO (setO (takeO k s.hp) m (.map es')) i)=true→isLive (getO s.hp i)=true:=fun i hi h=>by
   by_cases him:i=m
   ·subst him;rw[hm];rfl
   ·rw[hgo i hi him] at h;exact h
  exact ok.rel.inj i j p q hi' hj' (live i hik hli) (live j hjk hlj) hpq
 ·exact keepFr_ok (fr.mono hmono (Sub.refl _)) hfr
 ·have:=(List.getElem?_eq_some_iff.1 hi).1
  rw[List.getElem?_take,if_pos (by omega)]
  exact hs i p hi
end
end Go.Avm
namespace Go.Avm
open Go
section
variable {P:Program}{R:Res}
def apIs (P:Program)(t es b:Nat):Bool:=match elemSize (tyOf P) t with
 |some p=>Nat.beq p.1 es&&(Nat.beq p.2.size es&&Nat.beq p.2.bytes b)
 |none=>false
theorem opOk_appOw {o:Oper}{ev:Operand→AV}{hp hp':List AObj}{g:R.σ}{t es b ob n m N0:Nat}{k:Call}{s x:Operand}{y:Bool}{get0 get':Nat→AV}{new:Nat→Nat→AV}{ob1:List Prop}
  (ho:o.op=.call k) (hk:k.callee=.builtin .append) (ha:k.args=#[s,x]) (ht:k.argTypes=#[t,t]) (hs:ev s=.ow y ob n es) (hob:getO hp ob=.cells false N0 get0) (he:apIs P t es b=true)
  (hx:sliceCells hp es (ev x)=some (m,new,ob1)) (h1:AllP ob1) (hN:n*es≤N0) (hes:0<es) (hroom:(n+m)*b≤maxRoom) (hroom2:n+m≤maxRoom)
  (hg:∀c,c<(n+m)*es→get' c=plainJ es n (fun i j=>get0 (i*es+j)) new c) (hh:hp'=addO (setO hp ob .dead) (.cells false ((n+m)*es) get')) :
  OpOk P R o ev hp g (.ow y hp.length (n+m) es) hp' g:=by
 subst hh
 unfold apIs at he
 split at he
 ·rename_i p hp0
  simp only[Bool.and_eq_true] at he
  obtain⟨e1,e2,e3⟩:=he
  have e1:=Nat.eq_of_beq_eq_true e1
  have e2:=Nat.eq_of_beq_eq_true e2
  have e3:=Nat.eq_of_beq_eq_true e3
  obtain⟨es',ei⟩:=p
  simp only at e1 e2 e3 hp0
  subst e1 e3
  have hs2:sliceCells hp ei.size (ev s)=some (n,fun i j=>get0 (i*es'+j),[n*es'≤N0]):=by
   rw[e2,hs]
   show(bif Nat.beq es' es' then _ else _)=_
   rw[show Nat.beq es' es'=true by simp,hob]
   rfl
  refine opOk_eff (orc:=.obj get') (out:=⟨.ow y hp.length (n+m) es',addO (setO hp ob .dead) (.cells false ((n+m)*es') get'),owOb ei (n+m) (ob1++[n*es'≤N0]++[∀c,c<(n+m)*es'→get' c=plainJ es' n (fun i j=>get0 (i*es'+j)) new c]),.eff [ob,hp.length]⟩) ?_ ?_
  ·rw[ho]
   unfold runEff
   have hr:runEff0 (tyOf P) hp ev (.obj get') (.call k)=some ⟨.ow y hp.length (n+m) es',addO (setO hp ob .dead) (.cells false ((n+m)*es') get'),owOb ei (n+m) (ob1++[n*es'≤N0]++[∀c,c<(n+m)*es'→get' c=plainJ es' n (fun i j=>get0 (i*es'+j)) new c]),.eff [ob,hp.length]⟩:=by
    unfold runEff0
    simp only[hk,ha,ht]
    unfold appendV
    simp only[show Nat.beq t t=true by simp,Bool.not_true,cond_false,hp0,hs2]
    rw[show sliceCells hp ei.size (ev x)=some (m,new,ob1) by rw[e2];exact hx]
    simp only[hs,hob,joined,e2]
   rw[hr]
   rfl
  ·unfold owOb
   refine AllP.append.2 ⟨⟨by rw[e2];exact hes,hroom,hroom2,trivial⟩,AllP.append.2 ⟨AllP.append.2 ⟨h1,hN,trivial⟩,hg,trivial⟩⟩
 ·cases he
end
end Go.Avm
namespace Go.Avm
open Go
section
variable {P:Program}{R:Res}
theorem leH_of_get:∀{hp hp':List AObj},hp.length=hp'.length→(∀i,LeO (getO hp i) (getO hp' i))→leH hp hp'
 |[],[],_,_=>trivial
 |_::_,_::_,h,k=>⟨k 0,leH_of_get (by simpa using h) (fun i=>k (i+1))⟩
 |[],_::_,h,_=>by simp at h
 |_::_,[],h,_=>by simp at h
def leBack (f:Nat→Nat)(hp:List AObj):List Nat→List AObj→Prop
 |[],[]=>True
 |i::r,y::q=>LeO (renO f y) (getO hp i)∧leBack f hp r q
 |_,_=>False
theorem leH_put {f:Nat→Nat}{hp':List AObj}:∀{ids:List Nat} {q hp:List AObj},hp.length=hp'.length→(∀i,i∈ids→i<hp.length)→(∀i,i∉ids→LeO (getO hp i) (getO hp' i))→leBack f hp' ids q→leH (putB f ids q hp) hp'
 |[],[],hp,h1,_,h3,_=>by
  rw[putB,List.map_nil,List.append_nil]
  exact leH_of_get h1 (fun i=>h3 i (by simp))
 |i::r,y::q,hp,h1,h2,h3,h4=>by
  rw[putB]
  refine leH_put (by rw[length_setO];exact h1) (fun x hx=>by rw[length_setO];exact h2 x (List.mem_cons_of_mem _ hx)) (fun x hx=>?_) h4.2
  by_cases hxi:i=x
  ·subst hxi
   rw[getO_setO_eq (h2 i List.mem_cons_self)]
   exact h4.1
  ·rw[getO_setO_ne hxi]
   exact h3 x (fun h=>(List.mem_cons.1 h).elim (fun e=>hxi e.symm) hx)
 |[],_::_,_,_,_,_,h=>h.elim
 |_::_,[],_,_,_,_,h=>h.elim
theorem killO_ne:∀(ids:List Nat) (hp:List AObj) (i:Nat),i∉ids→getO (killO ids hp) i=getO hp i
 |[],_,_,_=>rfl
 |a::r,hp,i,h=>by
  rw[killO,killO_ne r _ i (fun hx=>h (List.mem_cons_of_mem _ hx)),getO_setO_ne (fun e=>h (by rw[e];exact List.mem_cons_self))]
def liveAt (hp:List AObj):List Nat→Prop
 |[]=>True
 |i::r=>isLive (getO hp i)=true∧liveAt hp r
theorem liveAt_lt {hp hp':List AObj}{ids0:List Nat}(hs:SameO ids0 hp hp'):∀{ids:List Nat},(∀i,i∈ids→i∈ids0)→liveAt hp ids→allLt ids hp'.length=true
 |[],_,_=>rfl
 |i::r,hi,h=>by
  unfold allLt
  rw[Bool.and_eq_true]
  refine⟨?_,liveAt_lt hs (fun x hx=>hi x (List.mem_cons_of_mem _ hx)) h.2⟩
  rw[Nat.blt_eq]
  rcases Nat.lt_or_ge i hp'.length with hl|hl
  ·exact hl
  ·have h1:=h.1
   rw[←hs.h i (hi i List.mem_cons_self),getO_ge hl] at h1
   cases h1
theorem leHR_same {f:Nat→Nat}{hp hp':List AObj}{ids0:List Nat}(hs:SameO ids0 hp hp'):∀{ids:List Nat} {q:List AObj},(∀i,i∈ids→i∈ids0)→leHR f hp ids q→leHR f hp' ids q
 |[],[],_,h=>h
 |i::r,y::q,hi,h=>by
  refine⟨?_,leHR_same hs (fun x hx=>hi x (List.mem_cons_of_mem _ hx)) h.2⟩
  rw[hs.h i (hi i List.mem_cons_self)]
  exact h.1
 |[],_::_,_,h=>h.elim
 |_::_,[],_,h=>h.elim
theorem leBack_same {f:Nat→Nat}{hp hp':List AObj}{ids0:List Nat}(hs:SameO ids0 hp hp'):∀{ids:List Nat} {q:List AObj},(∀i,i∈ids→i∈ids0)→leBack f hp ids q→leBack f hp' ids q
 |[],[],_,h=>h
 |i::r,y::q,hi,h=>by
  refine⟨?_,leBack_same hs (fun x hx=>hi x (List.mem_cons_of_mem _ hx)) h.2⟩
  rw[hs.h i (hi i List.mem_cons_self)]
  exact h.1
 |[],_::_,_,h=>h.elim
 |_::_,[],_,h=>h.elim
theorem does_look {f:FuncId}{args args0:List AV}{hp hp0 hp0':List AObj}{v v0:AV}(ids:List Nat)(h:∀(R:Res) (g:R.σ),Does P R f args0 hp0 g (.ret v0) hp0' g)(hlv:liveAt hp ids)(hnd:nodupB ids=true)
  (hob:∀n,leHR (nat1 ids n) hp ids hp0) (hlive:allLive hp0) (e1:∀n,leL args (args0.map (renA (nat1 ids n)))) (hl:hp0'.length-ids.length=0)
  (e2:∀n,Le (renA (nat1 (ids++rng 0 n) (n+0)) v0) v) (e3:∀n,leBack (nat1 (ids++rng 0 n) (n+0)) hp ids hp0') :
  ∀(hp':List AObj) (g':R.σ),SameO ids hp hp'→Does P R f args hp' g' (.ret v) hp' g':=by
 intro hp' g' hs
 have hlt:=liveAt_lt hs (fun _ h=>h) hlv
 refine does_sub' ids hp'.length h rfl hlt hnd (leHR_same hs (fun _ h=>h) (hob _)) hlive (e1 _) ?_ ?_
 ·rw[hl]
  exact e2 _
 ·rw[hl]
  refine leH_put (by rw[length_killO]) (fun i hi=>by rw[length_killO];exact allLt_mem hlt i hi) (fun i hi=>by rw[killO_ne _ _ _ hi];exact LeO.refl _) (leBack_same hs (fun _ h=>h) (e3 _))
end
end Go.Avm
namespace Go.Avm
open Go
section
variable {P:Program}{R:Res}
def FzTo (hp:List AObj)(k m:Nat)(v v':AV):Prop:=∀(FM FM':Mem) (ρ:Plc) (w:World),HRel FM ρ hp w→(∀b o,FM b=some o→FM' b=some o) →
 (∀i p,k≤i→ρ[i]? = some p→isLive (getO hp i)=true→FM' p.1=w.heap[p.1]?)→∀u,Den FM ρ v u→Den FM' (ρ.take m) v' u
theorem FzTo.below {hp:List AObj}{k m:Nat}{v:AV}(h:Below m v):FzTo hp k m v v:=fun _ _ ρ _ _ hm _ _ hd=>den_below _ (Den.mono hm _ (Sub.refl ρ) hd) h
theorem FzTo.le {hp:List AObj}{k m:Nat}{v v' v'':AV}(h:FzTo hp k m v v')(hl:Le v' v''):FzTo hp k m v v'':=fun FM FM' ρ w h1 h2 h3 u hu=>hl _ _ _ (h FM FM' ρ w h1 h2 h3 u hu)
theorem FzTo.tup {hp:List AObj}{k m n:Nat}{f f':Nat→AV}(h:∀j,j<n→FzTo hp k m (f j) (f' j)):FzTo hp k m (.tup n f) (.tup n f'):=by
 rintro FM FM' ρ w h1 h2 h3 u ⟨cs,e1,e2,e3⟩
 exact⟨cs,e1,e2,fun j hj=>h j hj FM FM' ρ w h1 h2 h3 _ (e3 j hj)⟩
theorem FzTo.agg {hp:List AObj}{k m n:Nat}{f f':Nat→AV}(h:∀j,j<n→FzTo hp k m (f j) (f' j)):FzTo hp k m (.agg n f) (.agg n f'):=by
 rintro FM FM' ρ w h1 h2 h3 u ⟨cs,e1,e2,e3⟩
 exact⟨cs,e1,e2,fun j hj=>⟨(e3 j hj).1,h j hj FM FM' ρ w h1 h2 h3 _ (e3 j hj).2⟩⟩
theorem live_pos {n:Nat}{fr:Bool}{c:Nat→AV}(h:0<n):isLive (.cells fr n c)=true:=by simpa[isLive] using h
theorem fz_cells {hp:List AObj}{k o N:Nat}{c get:Nat→AV}{fr:Bool}(ho:getO hp o=.cells fr N c)(hk:k≤o)(hc:∀j,j<N→FzTo hp k 0 (c j) (get j)){FM FM':Mem}{ρ:Plc}{w:World}(h1:HRel FM ρ hp w)(h2:∀b o,FM b=some o→FM' b=some o)
  (h3:∀i p,k≤i→ρ[i]? = some p→isLive (getO hp i)=true→FM' p.1=w.heap[p.1]?) {q:Nat × Nat × Nat} (hq:ρ[o]? = some q) {j:Nat} (hj:j<N):∃x,fmCell FM' q.1 (q.2.1+j)=some x∧x.oneCell'=true∧Den FM' [] (get j) x:=by
 obtain⟨_,g2⟩:=h1.obj o q hq
 rw[ho] at g2
 obtain⟨cs,ty,f1,f2,f3,f4,_⟩:=g2 (by omega)
 obtain⟨y,y1,y2,y3⟩:=f4 j hj
 have hFM:=h3 o q hk hq (by rw[ho];exact live_pos (by omega))
 refine⟨y,?_,y2,?_⟩
 ·unfold fmCell
  rw[hFM,f1]
  exact y1
 ·have:=hc j hj FM FM' ρ w h1 h2 h3 y y3
  simpa using this
theorem FzTo.ow {hp:List AObj}{k m o n e N:Nat}{x:Bool}{c get:Nat→AV}{fr:Bool}(ho:getO hp o=.cells fr N c)(hk:k≤o)(hN:n*e≤N)(he:0<e)(hc:∀j,j<N→FzTo hp k 0 (c j) (get j)):FzTo hp k m (.ow x o n e) (.fz (bif x then .auto else .may) e n (fun i j=>get (i*e+j))):=by
 rintro FM FM' ρ w h1 h2 h3 u ⟨d1,d2⟩
 have hcell:∀(q:Nat × Nat × Nat),ρ[o]? = some q→∀i j,i<n→j<e→∃y,fmCell FM' q.1 (q.2.1+i*e+j)=some y∧y.oneCell'=true∧Den FM' [] (get (i*e+j)) y:=fun q hq i j hi hj=>by
  have:(i+1)*e≤n*e:=Nat.mul_le_mul_right _ hi
  rw[Nat.add_mul] at this
  have:=fz_cells ho hk hc h1 h2 h3 hq (j:=i*e+j) (by omega)
  rwa [←Nat.add_assoc] at this
 by_cases hn:n=0
 ·obtain⟨a,rfl,ha⟩:=d1 hn
  subst hn
  cases x with
  |true=>exact⟨fun _=>⟨rfl,a,0,rfl,ha rfl,rfl⟩,fun h=>by cases h⟩
  |false=>exact⟨fun _=>⟨rfl,a,0,rfl,fun _=>rfl⟩,fun h=>by cases h⟩
 ·obtain⟨q,cap',hq,rfl,b2,b3⟩:=d2 hn
  cases x with
  |true=>exact⟨fun h=>absurd (Nat.eq_of_beq_eq_true h) hn,fun _=>⟨q.1,q.2.1,cap',rfl,b2,fun h=>(by rcases h with h|h <;> cases h),hcell q hq⟩⟩
  |false=>exact⟨fun h=>absurd (Nat.eq_of_beq_eq_true h) hn,fun _=>⟨q.1,q.2.1,cap',rfl,b2,fun h=>(by rcases h with h|h <;> cases h),hcell q hq⟩⟩
theorem FzTo.sl {hp:List AObj}{k m o off n cap e N:Nat}{ex:Bool}{c get:Nat→AV}{fr:Bool}(ho:getO hp o=.cells fr N c)(hk:k≤o)(hN:off+n*e≤N)(hcap:n≤cap)(he:0<e)(hc:∀j,j<N→FzTo hp k 0 (c j) (get j)):FzTo hp k m (.sl o off n cap ex e) (.fz .opn e n (fun i j=>get (off+i*e+j))):=by
 rintro FM FM' ρ w h1 h2 h3 u ⟨q,cap',hq,rfl,b2,_,b3⟩
 refine⟨fun h=>(by cases h),fun _=>⟨q.1,q.2.1+off,cap',rfl,by omega,fun h=>(by rcases h with h|h <;> cases h),fun i j hi hj=>?_⟩⟩
 have:(i+1)*e≤n*e:=Nat.mul_le_mul_right _ hi
 rw[Nat.add_mul] at this
 have:=fz_cells ho hk hc h1 h2 h3 hq (j:=off+i*e+j) (by omega)
 rwa [show q.2.1+(off+i*e+j)=q.2.1+off+i*e+j by omega] at this
def fzFr (hp:List AObj)(k:Nat)(fr:List (Nat × AV)):List (Nat × AV)→Prop
 |[]=>True
 |(t,v)::r=>FzTo hp k k (lk fr t) v∧fzFr hp k fr r
theorem fzFr_ok {hp:List AObj}{k:Nat}{fr:List (Nat × AV)}{FM FM':Mem}{ρ:Plc}{w:World}(h1:HRel FM ρ hp w)(h2:∀b o,FM b=some o→FM' b=some o)
  (h3:∀i p,k≤i→ρ[i]? = some p→isLive (getO hp i)=true→FM' p.1=w.heap[p.1]?) {vals:Nat→Value} (hv:FrOk FM ρ fr vals):∀{fr':List (Nat × AV)},fzFr hp k fr fr'→FrOk FM' (ρ.take k) fr' vals
 |[],_=>fun _=>trivial
 |(t,v)::r,h=>fun s=>by
  show Den FM' (ρ.take k) (bif Nat.beq s t then v else lk r s) (vals s)
  cases hb:Nat.beq s t with
  |true=>
   have:=Nat.eq_of_beq_eq_true hb
   subst this
   exact h.1 FM FM' ρ w h1 h2 h3 _ (hv s)
  |false=>exact fzFr_ok h1 h2 h3 hv h.2 s
theorem to_frzK {k0:Nat}{s:St R.σ}(k:Nat)(fr':List (Nat × AV))(hk:k0≤k)(hml:k≤s.hp.length)(hot:∀i,i<k→belowO k (getO s.hp i))(hfr:fzFr s.hp k s.fr fr'):To R k0 s ⟨fr',takeO k s.hp,s.g⟩:=by
 classical
 intro ρ0 FM ρ w vals h0 hs okw fr
 let C:Nat→Prop:=fun b=>∃i p,k≤i∧ρ[i]? = some p∧p.1=b∧isLive (getO s.hp i)=true
 let FM':Mem:=fun b=>if C b then w.heap[b]? else FM b
 have hC:∀b,C b→FM' b=w.heap[b]?:= fun b h=>if_pos h
 have hN:∀b,¬C b→FM' b=FM b:=fun b h=>if_neg h
 have hin:∀b,C b→InB ρ b:=fun b ⟨i,p,_,h2,h3,h4⟩=>⟨p,mem_of_get h2,h3,(okw.rel.real h2 h4).1⟩
 have hmono:∀b o,FM b=some o→FM' b=some o:=fun b o h=>by
  by_cases hc:C b
  ·rw[hC b hc];exact okw.rel.fm b o h
  ·rw[hN b hc];exact h
 have hsound:∀b o,FM' b=some o→w.heap[b]? = some o:=fun b o h=>by
  by_cases hc:C b
  ·rw[hC b hc] at h;exact h
  ·rw[hN b hc] at h;exact okw.rel.fm b o h
 have hgrow:∀b o,FM' b=some o→FM b=some o∨InB ρ b:=fun b o h=>by
  by_cases hc:C b
  ·exact .inr (hin b hc)
  ·rw[hN b hc] at h;exact .inl h
 have hkept:∀(i:Nat) (p:Nat × Nat × Nat),i<k→ρ[i]? = some p→isLive (getO s.hp i)=true→FM' p.1=FM p.1:=fun i p hi hp hl=>hN _ (fun ⟨j,q,h1,h2,h3,h4⟩=>by
  have:=okw.rel.inj i j p q hp h2 hl h4 h3.symm
  omega)
 have hkeep:Keep (R.B s.g) FM w FM' w:=⟨hmono,fun b hb=>hN b (fun hc=>(okw.bd b hb).2 (hin b hc)),hsound,fun _ _=>rfl,Nat.le_refl _,rfl,rfl,rfl⟩
 have hget:∀(i:Nat) (p:Nat × Nat × Nat),(ρ.take k)[i]? = some p→i<k∧ρ[i]? = some p:=fun i p h=>by
  rw[List.getElem?_take] at h
  split at h
  ·rename_i hi;exact⟨hi,h⟩
  ·cases h
 have h3:∀i p,k≤i→ρ[i]? = some p→isLive (getO s.hp i)=true→FM' p.1=w.heap[p.1]?:= fun i p h1 h2 h4=>hC _ ⟨i,p,h1,h2,rfl,h4⟩
 have hgo:∀i,i<k→getO (takeO k s.hp) i=getO s.hp i:=fun i hi=>by rw[getO_takeO,if_pos hi]
 have hinT:∀b,InB (ρ.take k) b→InB ρ b:=fun b ⟨p,hp,hb⟩=>⟨p,List.mem_of_mem_take hp,hb⟩
 refine⟨FM',ρ.take k,⟨⟨hsound,by show _=(takeO k s.hp).length;rw[length_takeO,List.length_take,okw.rel.len],fun i p hi=>?_,fun i j p q hi hj hli hlj hpq=>?_⟩,R.st okw.j hkeep,fun b hb=>⟨(okw.bd b hb).1,fun h=>(okw.bd b hb).2 (hinT b h)⟩⟩,fzFr_ok okw.rel hmono h3 fr hfr,fun i p hi=>?_,hmono,hgrow,hinT,rfl⟩
 ·obtain⟨hik,hi'⟩:=hget i p hi
  obtain⟨k1,k2⟩:=okw.rel.obj i p hi'
  refine⟨k1,?_⟩
  show ObjRel FM' (ρ.take k) p w (getO (takeO k s.hp) i)
  rw[hgo i hik]
  have hb:=hot i hik
  cases hx:getO s.hp i with
  |dead=>trivial
  |map a=>
   rw[hx] at k2
   exact objRel_map k2 hmono rfl ((hkept i p hik hi' (by rw[hx];rfl)).trans k2.2.1)
  |mapo a=>
   rw[hx] at k2 hb
   have hf:=hkept i p hik hi' (by rw[hx];rfl)
   obtain⟨a1,a2,mes,clock,a3,a4,a5⟩:=k2
   exact⟨a1,hf.trans a2,mes,clock,a3,a4,fun j kv v hj=>let ⟨e,b1,b2,b3⟩:=a5 j kv v hj;⟨e,b1,b2,den_below _ (Den.mono hmono _ (Sub.refl ρ) b3) (hb _ (List.mem_of_getElem? hj))⟩⟩
  |cells f n c=>
   rw[hx] at k2 hb
   intro hn
   have hf:=hkept i p hik hi' (by rw[hx];exact live_pos hn)
   obtain⟨cs,e,a1,a2,a3,a4,a5,a6⟩:=k2 hn
   exact⟨cs,e,a1,a2,a3,fun j hj=>let ⟨y,b1,b2,b3⟩:=a4 j hj;⟨y,b1,b2,den_below _ (Den.mono hmono _ (Sub.refl ρ) b3) (hb j hj)⟩,fun h=>hf.trans (a5 h),fun h=>hf.trans (a6 h)⟩
 ·obtain⟨hik,hi'⟩:=hget i p hi
  obtain⟨hjk,hj'⟩:=hget j q hj
  have e1:getO (takeO k s.hp) i=getO s.hp i:=hgo i hik
  have e2:getO (takeO k s.hp) j=getO s.hp j:=hgo j hjk
  exact okw.rel.inj i j p q hi' hj' (by rw[←e1];exact hli) (by rw[←e2];exact hlj) hpq
 ·have hil:i<k0:=by rw[←h0];exact(List.getElem?_eq_some_iff.1 hi).1
  rw[List.getElem?_take,if_pos (by omega)]
  exact hs i p hi
def FzO (hp:List AObj)(k:Nat):AObj→AObj→Prop
 |_,.dead=>True
 |.cells f n c,.cells f' n' c'=>f=f'∧n=n'∧∀j,j<n→FzTo hp k k (c j) (c' j)
 |.map a,.map b=>a=b
 |.mapo a,.mapo b=>a=b∧∀e,e∈a→Below k e.2
 |_,_=>False
theorem FzO.live {hp:List AObj}{k:Nat}{x y:AObj}(h:FzO hp k x y)(hy:isLive y=true):isLive x=true:=by
 cases x <;> cases y <;> first|(cases hy;done)|exact h.elim|rfl|skip
 obtain⟨_,rfl,_⟩:=h
 exact hy
theorem to_frzH {k0:Nat}{s:St R.σ}(k:Nat)(fr':List (Nat × AV))(hp':List AObj)(hk:k0≤k)(hml:k≤s.hp.length)(hlen:hp'.length=k)(hot:∀i,i<k→FzO s.hp k (getO s.hp i) (getO hp' i))(hfr:fzFr s.hp k s.fr fr'):To R k0 s ⟨fr',hp',s.g⟩:=by
 classical
 intro ρ0 FM ρ w vals h0 hs okw fr
 let C:Nat→Prop:=fun b=>∃i p,k≤i∧ρ[i]? = some p∧p.1=b∧isLive (getO s.hp i)=true
 let FM':Mem:=fun b=>if C b then w.heap[b]? else FM b
 have hC:∀b,C b→FM' b=w.heap[b]?:= fun b h=>if_pos h
 have hN:∀b,¬C b→FM' b=FM b:=fun b h=>if_neg h
 have hin:∀b,C b→InB ρ b:=fun b ⟨i,p,_,h2,h3,h4⟩=>⟨p,mem_of_get h2,h3,(okw.rel.real h2 h4).1⟩
 have hmono:∀b o,FM b=some o→FM' b=some o:=fun b o h=>by
  by_cases hc:C b
  ·rw[hC b hc];exact okw.rel.fm b o h
  ·rw[hN b hc];exact h
 have hsound:∀b o,FM' b=some o→w.heap[b]? = some o:=fun b o h=>by
  by_cases hc:C b
  ·rw[hC b hc] at h;exact h
  ·rw[hN b hc] at h;exact okw.rel.fm b o h
 have hgrow:∀b o,FM' b=some o→FM b=some o∨InB ρ b:=fun b o h=>by
  by_cases hc:C b
  ·exact .inr (hin b hc)
  ·rw[hN b hc] at h;exact .inl h
 have hkept:∀(i:Nat) (p:Nat × Nat × Nat),i<k→ρ[i]? = some p→isLive (getO s.hp i)=true→FM' p.1=FM p.1:=fun i p hi hp hl=>hN _ (fun ⟨j,q,h1,h2,h3,h4⟩=>by
  have:=okw.rel.inj i j p q hp h2 hl h4 h3.symm
  omega)
 have hkeep:Keep (R.B s.g) FM w FM' w:=⟨hmono,fun b hb=>hN b (fun hc=>(okw.bd b hb).2 (hin b hc)),hsound,fun _ _=>rfl,Nat.le_refl _,rfl,rfl,rfl⟩
 have hget:∀(i:Nat) (p:Nat × Nat × Nat),(ρ.take k)[i]? = some p→i<k∧ρ[i]? = some p:=fun i p h=>by
  rw[List.getElem?_take] at h
  split at h
  ·rename_i hi;exact⟨hi,h⟩
  ·cases h
 have h3:∀i p,k≤i→ρ[i]? = some p→isLive (getO s.hp i)=true→FM' p.1=w.heap[p.1]?:= fun i p h1 h2 h4=>hC _ ⟨i,p,h1,h2,rfl,h4⟩
 have hinT:∀b,InB (ρ.take k) b→InB ρ b:=fun b ⟨p,hp,hb⟩=>⟨p,List.mem_of_mem_take hp,hb⟩
 refine⟨FM',ρ.take k,⟨⟨hsound,by show _=hp'.length;rw[hlen,List.length_take,okw.rel.len];omega,fun i p hi=>?_,fun i j p q hi hj hli hlj hpq=>?_⟩,R.st okw.j hkeep,fun b hb=>⟨(okw.bd b hb).1,fun h=>(okw.bd b hb).2 (hinT b h)⟩⟩,fzFr_ok okw.rel hmono h3 fr hfr,fun i p hi=>?_,hmono,hgrow,hinT,rfl⟩
 ·obtain⟨hik,hi'⟩:=hget i p hi
  obtain⟨k1,k2⟩:=okw.rel.obj i p hi'
  refine⟨k1,?_⟩
  show ObjRel FM' (ρ.take k) p w (getO hp' i)
  have hb:=hot i hik
  cases hy:getO hp' i with
  |dead=>trivial
  |map b=>
   rw[hy] at hb
   cases hx:getO s.hp i with
   |map a=>
    rw[hx] at k2 hb
    have hb:a=b:=hb
    subst hb
    exact objRel_map k2 hmono rfl ((hkept i p hik hi' (by rw[hx];rfl)).trans k2.2.1)
   |dead=>rw[hx] at hb;exact hb.elim
   |mapo a=>rw[hx] at hb;exact hb.elim
   |cells f n c=>rw[hx] at hb;exact hb.elim
  |mapo b=>
   rw[hy] at hb
   cases hx:getO s.hp i with
   |mapo a=>
    rw[hx] at k2 hb
    obtain⟨rfl,hb⟩:a=b∧∀e,e∈a→Below k e.2:=hb
    have hf:=hkept i p hik hi' (by rw[hx];rfl)
    obtain⟨a1,a2,mes,clock,a3,a4,a5⟩:=k2
    exact⟨a1,hf.trans a2,mes,clock,a3,a4,fun j kv v hj=>let ⟨e,b1,b2,b3⟩:=a5 j kv v hj;⟨e,b1,b2,den_below _ (Den.mono hmono _ (Sub.refl ρ) b3) (hb _ (List.mem_of_getElem? hj))⟩⟩
   |dead=>rw[hx] at hb;exact hb.elim
   |map a=>rw[hx] at hb;exact hb.elim
   |cells f n c=>rw[hx] at hb;exact hb.elim
  |cells f' n' c'=>
   rw[hy] at hb
   cases hx:getO s.hp i with
   |cells f n c=>
    rw[hx] at k2 hb
    obtain⟨rfl,rfl,hb⟩:f=f'∧n=n'∧∀j,j<n→FzTo s.hp k k (c j) (c' j):=hb
    intro hn
    have hf:=hkept i p hik hi' (by rw[hx];exact live_pos hn)
    obtain⟨cs,e,a1,a2,a3,a4,a5,a6⟩:=k2 hn
    exact⟨cs,e,a1,a2,a3,fun j hj=>let ⟨y,b1,b2,b3⟩:=a4 j hj;⟨y,b1,b2,hb j hj FM FM' ρ w okw.rel hmono h3 y b3⟩,fun h=>hf.trans (a5 h),fun h=>hf.trans (a6 h)⟩
   |dead=>rw[hx] at hb;exact hb.elim
   |map a=>rw[hx] at hb;exact hb.elim
   |mapo a=>rw[hx] at hb;exact hb.elim
 ·obtain⟨hik,hi'⟩:=hget i p hi
  obtain⟨hjk,hj'⟩:=hget j q hj
  exact okw.rel.inj i j p q hi' hj' ((hot i hik).live hli) ((hot j hjk).live hlj) hpq
 ·have hil:i<k0:=by rw[←h0];exact(List.getElem?_eq_some_iff.1 hi).1
  rw[List.getElem?_take,if_pos (by omega)]
  exact hs i p hi
end
end Go.Avm
namespace Go.Avm
open Go
section
variable {P:Program}{R:Res}
def isZero (P:Program)(t:Nat):Bool:=match tyOf P t with
 |some ti=>Nat.beq ti.size 0
 |none=>false
theorem opOk_store0 {o:Oper}{ev:Operand→AV}{hp:List AObj}{g:R.σ}{t:TypeId}{p y:Operand}{b off:Nat}{f:Nat→AV}(ho:o.op=.store t p y)(hp0:ev p=.ref b off)(hy:ev y=.agg 0 f)(hs:isZero P t=true) :
  OpOk P R o ev hp g .any hp g:=by
 refine⟨fun FM ρ w evc ok hop=>?_⟩
 have h1:=hop p (by simp[ho,Op.operands])
 have h2:=hop y (by simp[ho,Op.operands])
 rw[hp0] at h1
 rw[hy] at h2
 obtain⟨q,hq,hpv⟩:=h1
 unfold isZero at hs
 split at hs
 ·rename_i ti hti
  have hz:=Nat.eq_of_beq_eq_true hs
  have hsz:=run_size (tyOf_ok hti) w
  rw[hz] at hsz
  obtain⟨cs,hc,hn,_⟩:=h2
  have hcs:cs=#[]:=Array.eq_empty_of_size_eq_zero hn
  subst hcs
  have hrun:(Instr.storeAt t (evc p) (evc y)).run P w=.ok () w:=by
   unfold Instr.storeAt storeVar
   simp[hpv,hc,Instr.sureAddr,hsz,Value.cells,storeCells]
  refine⟨.skip,w,FM,ρ,undef,?_,rfl,trivial,ok,Goes.refl _ _ _ _ _⟩
  simp[execOp,ho,hrun]
 ·cases hs
end
end Go.Avm
namespace Go.Avm
open Go
section
variable {P:Program}{R:Res}
theorem Goes.put {g g':R.σ}{FM FM':Mem}{ρ ρ':Plc}{w w':World}(h:Goes R g FM ρ w g' FM' ρ' w'){X:Nat}(hX:w.heap.size≤X)(o:Obj):Goes R g FM ρ w g' FM' ρ' (w'.putObj X o):=
 ⟨⟨h.ext.fm,h.ext.grow,h.ext.blk,fun b h1 h2 h3=>(World.putObj_heap_other (by omega)).trans (h.ext.keep b h1 h2 h3),by simpa using h.ext.size,h.ext.os,h.ext.tape,h.ext.output⟩,h.bn,h.sub⟩
theorem Nb.put {X:Nat}{g:R.σ}{FM:Mem}{ρ:Plc}{w:World}(h:Nb R X g FM ρ w)(Y:Nat)(o:Obj):Nb R X g FM ρ (w.putObj Y o):=⟨by simpa using h.lt,h.off,h.offB,h.nofm⟩
theorem ok_grown {hp:List AObj}{g:R.σ}{FM:Mem}{ρ:Plc}{w w':World}(ok:Ok R hp g FM ρ w)(h:w.grownBy w' none):Ok R hp g FM ρ w'∧Goes R g FM ρ w g FM ρ w':=by
 obtain⟨h1,h2,h3,h4,h5⟩:=h
 have keep:∀b,b<w.heap.size→w'.heap[b]? = w.heap[b]?:= fun b hb=>h5 b hb (fun e=>by cases e)
 refine own_step ok ⟨fun b o hb=>?_,ok.rel.len,fun i p hi=>?_,ok.rel.inj⟩ ⟨fun _ _ h=>h,fun _ _ h=>.inl h,fun _ h=>.inl h,fun b hb _ _=>keep b hb,h4,h1,h2,h3⟩ (Sub.refl _)
 ·have:=ok.rel.fm b o hb
  exact(keep b (Array.getElem?_eq_some_iff.1 this).1).trans this
 ·obtain⟨k1,k2⟩:=ok.rel.obj i p hi
  exact⟨fun hr=>Nat.lt_of_lt_of_le (k1 hr) h4,k2.mono (Sub.refl _) (fun hl=>keep _ (k1 (ok.rel.real hi hl).1))⟩
def LastQ (Q:AEx→St R.σ→Prop):AEx→St R.σ→Prop
 |.normal,_=>False
 |.pan _,_=>False
 |e,s=>Q e s
def jmpOf:AEx→Option Code
 |.ret=>some .ret
 |.exit id=>some (.exit id)
 |_=>none
def LastE (R:Res)(C:Cx R)(D L:Nat)(rec:LoopState→Option Code→Loop)(Q:AEx→St R.σ→Prop)(e:Ending)(W:World):Prop:=
 ∃ex j s3 FM3 ρ3,e=.returned (.bool false)∧jmpOf ex=some j∧Q ex s3∧Ok R s3.hp s3.g FM3 ρ3 W∧Goes R C.g C.FM C.ρ C.w s3.g FM3 ρ3 W ∧
  W.heap[D]? = some (.deferred (some []))∧W.heap[L]? = some (.loop (rec .done (some j)))∧Nb R D s3.g FM3 ρ3 W∧Nb R L s3.g FM3 ρ3 W
theorem round_last {nt D L:Nat}{fn:FuncId}{tmps:Array Value}{ps:Array Tmp}{assign body:Code}{rec:LoopState→Option Code→Loop}
  (hrec:rec=fun st pe=>{ state:=st,pending:=pe,fn,tmps,params:=ps,assign,body,defers:=D }) {C:Cx R} (hDn:C.w.heap.size≤D) (hLn:C.w.heap.size≤L) (hne:D≠L)
  {FM:Mem} {ρ:Plc} {w:World} {hp:List AObj} {g:R.σ} (ok:Ok R hp g FM ρ w) (hb:Goes R C.g C.FM C.ρ C.w g FM ρ w) (hD:w.heap[D]? = some (.deferred (some []))) (hL:w.heap[L]? = some (.loop (rec .ready none))) (nD:Nb R D g FM ρ w) (nL:Nb R L g FM ρ w)
  {fr:List (Nat × AV)} (hsz:tmps.size=nt) (hfr:∀t,Den FM ρ (lk fr t) (tmps.getD t undef)) {items:List AV} {vs:Array Value} (hvs:DenL FM ρ items vs) (hlen:items.length=ps.toList.length) (hlt:allLt ps.toList nt=true)
  {Q:AEx→St R.σ→Prop} (hround:wpA P R nt hp.length (.inr L) assign (fun e s1=>e=.normal∧wpA P R nt s1.hp.length (.inr L) body (LastQ Q) s1) ⟨setPs ps.toList items fr,hp,g⟩) :
  ∃fn tmps assign body,(Instr.yield L vs).run P w=.ok (.round L fn tmps assign body) w∧∀(r:Rd) (n:Nat),RoundIn (Fw r) n P L fn tmps assign body w (LastE R C D L rec Q):=by
 have hvsz:vs.size=ps.size:=by rw[hvs.1,hlen];simp
 have hrun:=run_yield (P:=P) hL (args:=vs) (by rw[hrec];exact hvsz)
 rw[hrec] at hrun
 refine⟨_,_,_,_,hrun,fun r n=>roundIn_of_wpIn trivial ?_⟩
 have hzip:(ps.zip vs).foldl (fun tmps (x:Tmp × Value)=>tmps.setIfInBounds x.1 x.2) tmps=(ps.toList.zip vs.toList).foldl (fun tmps (p:Nat × Value)=>tmps.setIfInBounds p.1 p.2) tmps:=by
  rw[←Array.foldl_toList,Array.toList_zip]
 have hset:=setPs_ok (FM:=FM) (ρ:=ρ) ps.toList items vs.toList fr tmps hsz hlt hlen (by simpa using hvsz) (fun i hi=>by
  have h3:=hvs.2 i hi
  rw[Array.getD_eq_getD_getElem?] at h3
  rw[List.getD_eq_getElem?_getD,Array.getElem?_toList]
  exact h3) hfr
 let C1:Cx R:=⟨g,FM,ρ,w,[],false⟩
 have hsat:Sat R C1 nt ⟨setPs ps.toList items fr,hp,g⟩ FM ρ { tmps:=(ps.zip vs).foldl (fun tmps (x:Tmp × Value)=>tmps.setIfInBounds x.1 x.2) tmps,defers:=[] } w:=by
  refine⟨ok,Goes.refl _ _ _ _ _,?_,.start,fun t=>?_⟩
  ·show Array.size _=nt
   rw[hzip];exact hset.1
  ·show Den FM ρ _ (Array.getD _ _ _)
   rw[hzip];exact hset.2 t
 refine wpIn_mono (hround C1 ⟨ok.rel.len,rfl⟩ n _ w ⟨FM,ρ,hsat⟩) (fun e a1 w1 hpost=>?_)
 have post:∃s1 FM1 ρ1,e=.normal∧(wpA P R nt s1.hp.length (.inr L) body (LastQ Q) s1)∧Sat R C1 nt s1 FM1 ρ1 a1 w1:=by
  cases e with
  |normal=>obtain⟨s,⟨_,h1⟩,FM1,ρ1,h2⟩:=hpost;exact⟨s,FM1,ρ1,rfl,h1,h2⟩
  |exit id=>obtain⟨s,⟨h1,_⟩,_⟩:=hpost;cases h1
  |ret=>obtain⟨s,⟨h1,_⟩,_⟩:=hpost;cases h1
  |panic ch=>obtain⟨s,x,v,FM1,ρ1,⟨h1,_⟩,_⟩:=hpost;cases h1
  |goto l=>exact hpost.elim
  |outgrown=>exact hpost.elim
 obtain⟨s1,FM1,ρ1,rfl,hbody,hs1⟩:=post
 obtain⟨nL1,eL1⟩:=nL.goes hs1.goes
 obtain⟨nD1,eD1⟩:=nD.goes hs1.goes
 have hL1:=eL1.trans hL
 have hD1:=eD1.trans hD
 refine⟨_,run_beginRound hL1 (by rw[hrec]),?_⟩
 have okb:=ok_put (.loop { rec .ready none with state:=.busy }) nL1.off nL1.offB nL1.nofm hs1.ok
 let C2:Cx R:=⟨s1.g,FM1,ρ1,w1.putObj L (.loop { rec .ready none with state:=.busy }),[],false⟩
 have hsat2:Sat R C2 nt s1 FM1 ρ1 a1 (w1.putObj L (.loop { rec .ready none with state:=.busy })):=by
  refine⟨okb,Goes.refl _ _ _ _ _,hs1.size,?_,hs1.fr⟩
  have e:a1.defers=[]:=hs1.defs.none
  rw[e];exact .start
 refine wpIn_mono (hbody C2 ⟨hs1.ok.rel.len,rfl⟩ n a1 _ ⟨FM1,ρ1,hsat2⟩) (fun e a3 w3 hp3=>?_)
 have fin:∀(ex:AEx) (j:Code) (s3:St R.σ) (FM3:Mem) (ρ3:Plc),jmpOf ex=some j→Q ex s3→Sat R C2 nt s3 FM3 ρ3 a3 w3→∃v w',(Instr.endRound L (some j)).run P w3=.ok v w'∧LastE R C D L rec Q (.returned v) w':=by
  intro ex j s3 FM3 ρ3 hj hq hs3
  obtain⟨nL3,eL3⟩:=(nL1.put L (.loop { rec .ready none with state:=.busy })).goes hs3.goes
  obtain⟨nD3,eD3⟩:=(nD1.put L (.loop { rec .ready none with state:=.busy })).goes hs3.goes
  have hL3:w3.heap[L]? = some (.loop { rec .ready none with state:=.busy }):=eL3.trans (World.putObj_heap_same nL1.lt)
  have hD3:w3.heap[D]? = some (.deferred (some [])):=eD3.trans ((World.putObj_heap_other hne).trans hD1)
  have erec:({ ({ rec .ready none with state:=.busy }:Loop) with state:=.done,pending:=some j }:Loop)=rec .done (some j):=by rw[hrec]
  refine⟨_,_,run_endRound (some j) hL3,ex,j,s3,FM3,ρ3,rfl,hj,hq,?_,?_,?_,?_,?_,?_⟩
  ·exact ok_put _ nL3.off nL3.offB nL3.nofm hs3.ok
  ·exact((((hb.trans hs1.goes).put hLn _).trans hs3.goes).put hLn _)
  ·exact(World.putObj_heap_other hne).trans hD3
  ·refine(World.putObj_heap_same nL3.lt).trans ?_
   rw[←erec];rfl
  ·exact nD3.put _ _
  ·exact nL3.put _ _
 cases e with
 |normal=>obtain⟨s3,h,_⟩:=hp3;exact h.elim
 |ret=>obtain⟨s3,h,FM3,ρ3,h2⟩:=hp3;exact fin .ret .ret s3 FM3 ρ3 rfl h h2
 |exit id=>obtain⟨s3,h,FM3,ρ3,h2⟩:=hp3;exact fin (.exit id) (.exit id) s3 FM3 ρ3 rfl h h2
 |panic ch=>obtain⟨s3,x,v,FM3,ρ3,h,_⟩:=hp3;exact h.elim
 |goto l=>exact hp3.elim
 |outgrown=>exact hp3.elim
end
end Go.Avm
namespace Go.Avm.Pack
open Go Go.Avm Go.Proofs
open Go.IntKind (i64 u64)
open Go.Avm.AV (int bool any fz fp sl ow ref fn ifc val agg tup)
open Go.Avm.AObj (cells dead)
open Go.Avm.Oc (ret)
set_option maxRecDepth 4000
structure Lit where
 atom:Int
 neg:Bool
 deriving Inhabited,DecidableEq
instance:Inhabited Fz:=⟨.nil⟩
structure KL (α:Type) where
 l:List α
 k:Fz
 deriving Inhabited
structure Rule where
 head:Int
 body:KL Lit
 deriving Inhabited
structure Prg where
 atoms:Int
 rules:KL Rule
 deriving Inhabited
structure Step where
 rule:Int
 atoms:KL Int
 deriving Inhabited
def litC (r:Lit):Nat→AV:=nth [.int .i64 r.atom,.bool r.neg]
def encLit (r:Lit):AV:=.agg 2 (nth [.int .i64 r.atom,.bool r.neg])
def encLits (x:KL Lit):AV:=.fz x.k 2 x.l.length (fun i=>litC (x.l.getD i default))
def encI (x:KL Int):AV:=.fz x.k 1 x.l.length (fun i _=>.int .i64 (x.l.getD i 0))
def ruleC (r:Rule):Nat→AV:=nth [.int .i64 r.head,encLits r.body]
def encRule (r:Rule):AV:=.agg 2 (nth [.int .i64 r.head,encLits r.body])
def encRules (x:KL Rule):AV:=.fz x.k 2 x.l.length (fun i=>ruleC (x.l.getD i default))
def encPrg (p:Prg):AV:=.agg 2 (nth [.int .i64 p.atoms,encRules p.rules])
def stepC (s:Step):Nat→AV:=nth [.int .i64 s.rule,encI s.atoms]
def encStep (s:Step):AV:=.agg 2 (nth [.int .i64 s.rule,encI s.atoms])
def encSteps (x:KL Step):AV:=.fz x.k 2 x.l.length (fun i=>stepC (x.l.getD i default))
def encLs (n:Nat)(q:Nat→KL Int):AV:=.fz .auto 1 n (fun i _=>encI (q i))
theorem below_encLit (r:Lit):Below 0 (encLit r):=⟨⟨trivial,trivial⟩,trivial⟩
theorem below_encRule (r:Rule):Below 0 (encRule r):=⟨⟨trivial,trivial⟩,trivial⟩
theorem c_within (R:Res)(n lo hi:Int)(hp:List AObj)(g:R.σ):Does Tryd.prog R 58 [.int .i64 n,.int .i64 lo,.int .i64 hi] hp g (.ret (.bool (decide (lo≤n∧n≤hi)))) hp g:=by
 refine does_any' (fun R g=>?_) (by exact⟨trivial,trivial,trivial,trivial⟩) R hp g
 refine spec_of_wp (nt:=15) (rs:=[.tmp 6]) (k0:=0) (by kernel_rfl) (by kernel_rfl) (by kernel_rfl) rfl ?_
 refine vcQ [] (lkL [(0,[0,1,2]),(1,[6])]) (fun _=>[]) (fun Q=>Q AEx.ret (St.mk [(6,AV.bool (bif decide (n ≥ lo) then decide (n≤hi) else false))] [] g)) (fun _=>by kernel_rfl) (?_)
 refine(retQ_le (retQ_same' _ _ rfl trivial rfl rfl rfl) (Le.of_eq ?_))
 show(AV.bool (bif decide (n ≥ lo) then decide (n≤hi) else false))=_
 show AV.bool _=_
 by_cases h:lo≤n <;> simp[h]
theorem c_in (R:Res)(n lo hi:Int)(hp:List AObj)(g:R.σ):Does Tryd.prog R 62 [.int .i64 n,.int .i64 lo,.int .i64 hi] hp g (.ret (.bool (decide (lo≤n∧n≤hi)))) hp g:=by
 refine does_any' (fun R g=>?_) (by exact⟨trivial,trivial,trivial,trivial⟩) R hp g
 refine spec_of_wp (nt:=15) (rs:=[.tmp 6]) (k0:=0) (by kernel_rfl) (by kernel_rfl) (by kernel_rfl) rfl ?_
 refine vcQ [] (lkL [(0,[0,1,2]),(1,[6])]) (fun _=>[]) (fun Q=>Q AEx.ret (St.mk [(6,AV.bool (bif decide (n ≥ lo) then decide (n≤hi) else false))] [] g)) (fun _=>by kernel_rfl) (?_)
 refine(retQ_le (retQ_same' _ _ rfl trivial rfl rfl rfl) (Le.of_eq ?_))
 show(AV.bool (bif decide (n ≥ lo) then decide (n≤hi) else false))=_
 show AV.bool _=_
 by_cases h:lo≤n <;> simp[h]
def idxFrom {α:Type}(q:α→Bool):List α→Nat→Int
 |[],_=> -1
 |x::r,i=>if q x then i else idxFrom q r (i+1)
theorem idxFrom_any {α:Type}(q:α→Bool):∀(l:List α) (i:Nat),decide (idxFrom q l i ≥ 0)=l.any q:=by
 intro l
 induction l with
 |nil=>intro i;simp[idxFrom]
 |cons x r ih=>
  intro i
  unfold idxFrom
  cases hq:q x with
  |true=>simp[hq]
  |false=>simp only[List.any_cons,hq,Bool.false_or];exact ih (i+1)
theorem getD_drop {α:Type}(l:List α)(d:α){i:Nat}(h:i<l.length):l.drop i=l.getD i d::l.drop (i+1):=by
 rw[List.drop_eq_getElem_cons h]
 simp[List.getD,h]
theorem getD_mem {α:Type}(l:List α)(d:α){i:Nat}(h:i<l.length):l.getD i d∈l:=by
 simp[List.getD,h]
theorem c_IndexFunc_TableLit (R:Res)(l:KL Lit)(u:Value)(q:Lit→Bool)(g:R.σ)(hl:l.l.length<1000000)
  (hu:∀r,r∈l.l→∀hp,VDoes Tryd.prog R u [encLit r] hp g (.ret (.bool (q r))) hp g) :
  Does Tryd.prog R 94 [encLits l,.val u] [] g (.ret (.int .i64 (idxFrom q l.l 0))) [] g:=by
 refine spec_of_wp (nt:=19) (rs:=[.tmp 4]) (k0:=0) (by kernel_rfl) (by kernel_rfl) (by kernel_rfl) rfl ?_
 refine vcQ [] (lkL [(0,[0,1]),(1,[0,1,7,8])]) (fun _=>[]) (fun Q=>Wp Tryd.prog R 19 0 Rd.top (bodyOf Tryd.prog 94) [1,0,1,0] (contQ Tryd.prog R 19 0 Rd.top (bodyOf Tryd.prog 94) Q [Kont.blk 0,Kont.seq [1,1]]) (St.mk [(0,encLits l),(1,val u),(7,int i64 (l.l.length:Int)),(8,int i64 0)] [] g)) (fun _=>by kernel_rfl) (?_)
 refine(wp_loop (by kernel_rfl) (fun (i:Nat)=>⟨[(0,encLits l),(1,val u),(7,int i64 (l.l.length:Int)),(8,.int .i64 (i:Int))],[],g⟩) (fun (i:Nat)=>(i≤l.l.length∧idxFrom q l.l 0=idxFrom q (l.l.drop i) i)) (fun (i:Nat)=>(l.l.length-i)) 0 (to_fr ⟨Le.refl _,Le.refl _,Le.refl _,(Le.of_eq (by kernel_rfl)),trivial⟩ rfl rfl) ?_ (fun i hi=>?_))
 ·exact⟨Nat.zero_le _,rfl⟩
 ·obtain⟨h1,h2⟩:=hi
  refine vcQ [] (lkL [(2,[0,1,7,8,9]),(3,[0,1,5,7,8]),(4,[0,1,5,7,8,16]),(5,[4]),(6,[0,1,7,8])]) (lkL [(4,[(5,ROrc.kcall (AV.bool (q (l.l.getD i default))))])]) (fun Q=>(fun (u1:Int)=>(fun (u2:Int)=>(fun (u3:Lit)=>(decide (u2<u1)=true→(0≤u2∧u2<u1)∧2≤2∧VDoes Tryd.prog R u [encLit u3] [] g (ret (AV.bool (q u3))) [] g∧(q u3=true→Q AEx.ret (St.mk [(4,int i64 u2)] [] g))∧(q u3=false→(-9223372036854775808≤u2+1∧u2+1≤9223372036854775807)∧Q AEx.normal (St.mk [(0,encLits l),(1,val u),(7,int i64 u1),(8,int i64 (u2+1))] [] g)))∧(decide (u2<u1)=false→Q (AEx.exit 0) (St.mk [(0,encLits l),(1,val u),(7,int i64 u1),(8,int i64 u2),(9,AV.bool (decide (u2<u1)))] [] g))) (l.l.getD i default)) ((i:Int))) ((l.l.length:Int))) (fun _=>by kernel_rfl) ⟨fun c1=>have c1:(i:Int)<(l.l.length:Int):=(of_decide_eq_true c1);⟨by omega,by omega,(hu _ ?_ _),fun c2=>?_,fun c2=>⟨by omega,?_⟩⟩,fun c1=>have c1:¬(i:Int)<(l.l.length:Int):=(of_decide_eq_false c1);?_⟩
  ·exact getD_mem l.l default (by omega)
  ·refine⟨_,To.refl _,(retQ_le (retQ_same' _ _ rfl trivial rfl rfl rfl) (Le.of_eq ?_))⟩
   show(int i64 (↑i:Int))=_
   show AV.int _ _=AV.int _ _
   rw[h2,getD_drop l.l default (by omega)];unfold idxFrom;rw[if_pos c2]
  ·refine(next_round (i+1) (to_fr ⟨Le.refl _,Le.refl _,Le.refl _,(Le.of_eq (by kernel_rfl)),trivial⟩ rfl rfl) ?_ ?_)
   ·refine⟨by omega,?_⟩
    rw[h2,getD_drop l.l default (by omega)];conv=>lhs;unfold idxFrom
    rw[c2];rfl
   ·omega
  ·refine⟨_,To.refl _,vcQ [] (lkL [(7,[4])]) (fun _=>[]) (fun Q=>Q AEx.ret (St.mk [(4,int i64 (-1))] [] g)) (fun _=>by kernel_rfl) (?_)⟩
   refine(retQ_le (retQ_same' _ _ rfl trivial rfl rfl rfl) (Le.of_eq ?_))
   show(int i64 (-1))=_
   show AV.int _ _=AV.int _ _
   rw[h2,List.drop_eq_nil_of_le (by omega)];rfl
theorem c_ContainsFunc_TableLit (R:Res)(l:KL Lit)(u:Value)(q:Lit→Bool)(g:R.σ)(hl:l.l.length<1000000)
  (hu:∀r,r∈l.l→∀hp,VDoes Tryd.prog R u [encLit r] hp g (.ret (.bool (q r))) hp g) :
  Does Tryd.prog R 50 [encLits l,.val u] [] g (.ret (.bool (l.l.any q))) [] g:=by
 refine spec_of_wp (nt:=9) (rs:=[.tmp 4]) (k0:=0) (by kernel_rfl) (by kernel_rfl) (by kernel_rfl) rfl ?_
 refine vcQ [] (lkL [(0,[0,1]),(1,[4])]) (lkL [(1,[(2,ROrc.kcall (int i64 (idxFrom q l.l 0)))])]) (fun Q=>(true=true∧Does Tryd.prog R 94 [encLits l,val u] [] g (ret (int i64 (idxFrom q l.l 0))) [] g)∧Q AEx.ret (St.mk [(4,AV.bool (decide (idxFrom q l.l 0 ≥ 0)))] [] g)) (fun _=>by kernel_rfl) ⟨⟨rfl,(c_IndexFunc_TableLit _ _ _ _ _ (by omega) (fun _ _ _=>hu _ (by omega) _))⟩,?_⟩
 refine(retQ_le (retQ_same' _ _ rfl trivial rfl rfl rfl) (Le.of_eq ?_))
 show(AV.bool (decide (idxFrom q l.l 0 ≥ 0)))=_
 show AV.bool _=AV.bool _
 rw[idxFrom_any]
theorem c_ContainsFuncF_TableLit (R:Res)(l:KL Lit)(f na nb:Nat)(a b:Nat→AV)(q:Lit→Bool)(hp:List AObj)(g:R.σ)(hl:l.l.length<1000000)(hpl:isPlain Tryd.prog f=true)
  (h:∀r,r∈l.l→Does Tryd.prog R f (tab na 0 a++[encLit r]++tab nb 0 b) hp g (.ret (.bool (q r))) hp g) :
  Does Tryd.prog R 50 [encLits l,.fn f na a nb b] hp g (.ret (.bool (l.l.any q))) hp g:=
 does_fn (pre:=[encLits l]) (D:=fun r=>r∈l.l) (args:=fun r=>[encLit r]) (oc1:=fun r=>.ret (.bool (q r))) ⟨trivial,trivial⟩ hpl (fun r=>⟨below_encLit r,trivial⟩) (fun _=>trivial) h
  (fun R' g' u hu=>c_ContainsFunc_TableLit R' l u q g' hl hu)
theorem c_IndexFunc_TableRule (R:Res)(l:KL Rule)(u:Value)(q:Rule→Bool)(g:R.σ)(hl:l.l.length<1000000)
  (hu:∀r,r∈l.l→∀hp,VDoes Tryd.prog R u [encRule r] hp g (.ret (.bool (q r))) hp g) :
  Does Tryd.prog R 112 [encRules l,.val u] [] g (.ret (.int .i64 (idxFrom q l.l 0))) [] g:=by
 refine spec_of_wp (nt:=19) (rs:=[.tmp 4]) (k0:=0) (by kernel_rfl) (by kernel_rfl) (by kernel_rfl) rfl ?_
 refine vcQ [] (lkL [(0,[0,1]),(1,[0,1,7,8])]) (fun _=>[]) (fun Q=>Wp Tryd.prog R 19 0 Rd.top (bodyOf Tryd.prog 112) [1,0,1,0] (contQ Tryd.prog R 19 0 Rd.top (bodyOf Tryd.prog 112) Q [Kont.blk 0,Kont.seq [1,1]]) (St.mk [(0,encRules l),(1,val u),(7,int i64 (l.l.length:Int)),(8,int i64 0)] [] g)) (fun _=>by kernel_rfl) (?_)
 refine(wp_loop (by kernel_rfl) (fun (i:Nat)=>⟨[(0,encRules l),(1,val u),(7,int i64 (l.l.length:Int)),(8,.int .i64 (i:Int))],[],g⟩) (fun (i:Nat)=>(i≤l.l.length∧idxFrom q l.l 0=idxFrom q (l.l.drop i) i)) (fun (i:Nat)=>(l.l.length-i)) 0 (to_fr ⟨Le.refl _,Le.refl _,Le.refl _,(Le.of_eq (by kernel_rfl)),trivial⟩ rfl rfl) ?_ (fun i hi=>?_))
 ·exact⟨Nat.zero_le _,rfl⟩
 ·obtain⟨h1,h2⟩:=hi
  refine vcQ [] (lkL [(2,[0,1,7,8,9]),(3,[0,1,5,7,8]),(4,[0,1,5,7,8,16]),(5,[4]),(6,[0,1,7,8])]) (lkL [(4,[(5,ROrc.kcall (AV.bool (q (l.l.getD i default))))])]) (fun Q=>(fun (u1:Int)=>(fun (u2:Int)=>(fun (u3:Rule)=>(decide (u2<u1)=true→(0≤u2∧u2<u1)∧2≤2∧VDoes Tryd.prog R u [encRule u3] [] g (ret (AV.bool (q u3))) [] g∧(q u3=true→Q AEx.ret (St.mk [(4,int i64 u2)] [] g))∧(q u3=false→(-9223372036854775808≤u2+1∧u2+1≤9223372036854775807)∧Q AEx.normal (St.mk [(0,encRules l),(1,val u),(7,int i64 u1),(8,int i64 (u2+1))] [] g)))∧(decide (u2<u1)=false→Q (AEx.exit 0) (St.mk [(0,encRules l),(1,val u),(7,int i64 u1),(8,int i64 u2),(9,AV.bool (decide (u2<u1)))] [] g))) (l.l.getD i default)) ((i:Int))) ((l.l.length:Int))) (fun _=>by kernel_rfl) ⟨fun c1=>have c1:(i:Int)<(l.l.length:Int):=(of_decide_eq_true c1);⟨by omega,by omega,(hu _ ?_ _),fun c2=>?_,fun c2=>⟨by omega,?_⟩⟩,fun c1=>have c1:¬(i:Int)<(l.l.length:Int):=(of_decide_eq_false c1);?_⟩
  ·exact getD_mem l.l default (by omega)
  ·refine⟨_,To.refl _,(retQ_le (retQ_same' _ _ rfl trivial rfl rfl rfl) (Le.of_eq ?_))⟩
   show(int i64 (↑i:Int))=_
   show AV.int _ _=AV.int _ _
   rw[h2,getD_drop l.l default (by omega)];unfold idxFrom;rw[if_pos c2]
  ·refine(next_round (i+1) (to_fr ⟨Le.refl _,Le.refl _,Le.refl _,(Le.of_eq (by kernel_rfl)),trivial⟩ rfl rfl) ?_ ?_)
   ·refine⟨by omega,?_⟩
    rw[h2,getD_drop l.l default (by omega)];conv=>lhs;unfold idxFrom
    rw[c2];rfl
   ·omega
  ·refine⟨_,To.refl _,vcQ [] (lkL [(7,[4])]) (fun _=>[]) (fun Q=>Q AEx.ret (St.mk [(4,int i64 (-1))] [] g)) (fun _=>by kernel_rfl) (?_)⟩
   refine(retQ_le (retQ_same' _ _ rfl trivial rfl rfl rfl) (Le.of_eq ?_))
   show(int i64 (-1))=_
   show AV.int _ _=AV.int _ _
   rw[h2,List.drop_eq_nil_of_le (by omega)];rfl
theorem c_IndexFuncF_TableRule (R:Res)(l:KL Rule)(f na nb:Nat)(a b:Nat→AV)(q:Rule→Bool)(hp:List AObj)(g:R.σ)(hl:l.l.length<1000000)(hpl:isPlain Tryd.prog f=true)
  (h:∀r,r∈l.l→Does Tryd.prog R f (tab na 0 a++[encRule r]++tab nb 0 b) hp g (.ret (.bool (q r))) hp g) :
  Does Tryd.prog R 112 [encRules l,.fn f na a nb b] hp g (.ret (.int .i64 (idxFrom q l.l 0))) hp g:=
 does_fn (pre:=[encRules l]) (D:=fun r=>r∈l.l) (args:=fun r=>[encRule r]) (oc1:=fun r=>.ret (.bool (q r))) ⟨trivial,trivial⟩ hpl (fun r=>⟨below_encRule r,trivial⟩) (fun _=>trivial) h
  (fun R' g' u hu=>c_IndexFunc_TableRule R' l u q g' hl hu)
theorem c_ContainsFunc_TableRule (R:Res)(l:KL Rule)(u:Value)(q:Rule→Bool)(g:R.σ)(hl:l.l.length<1000000)
  (hu:∀r,r∈l.l→∀hp,VDoes Tryd.prog R u [encRule r] hp g (.ret (.bool (q r))) hp g) :
  Does Tryd.prog R 120 [encRules l,.val u] [] g (.ret (.bool (l.l.any q))) [] g:=by
 refine spec_of_wp (nt:=9) (rs:=[.tmp 4]) (k0:=0) (by kernel_rfl) (by kernel_rfl) (by kernel_rfl) rfl ?_
 refine vcQ [] (lkL [(0,[0,1]),(1,[4])]) (lkL [(1,[(2,ROrc.kcall (int i64 (idxFrom q l.l 0)))])]) (fun Q=>(true=true∧Does Tryd.prog R 112 [encRules l,val u] [] g (ret (int i64 (idxFrom q l.l 0))) [] g)∧Q AEx.ret (St.mk [(4,AV.bool (decide (idxFrom q l.l 0 ≥ 0)))] [] g)) (fun _=>by kernel_rfl) ⟨⟨rfl,(c_IndexFunc_TableRule _ _ _ _ _ (by omega) (fun _ _ _=>hu _ (by omega) _))⟩,?_⟩
 refine(retQ_le (retQ_same' _ _ rfl trivial rfl rfl rfl) (Le.of_eq ?_))
 show(AV.bool (decide (idxFrom q l.l 0 ≥ 0)))=_
 show AV.bool _=AV.bool _
 rw[idxFrom_any]
theorem c_ContainsFuncF_TableRule (R:Res)(l:KL Rule)(f na nb:Nat)(a b:Nat→AV)(q:Rule→Bool)(hp:List AObj)(g:R.σ)(hl:l.l.length<1000000)(hpl:isPlain Tryd.prog f=true)
  (h:∀r,r∈l.l→Does Tryd.prog R f (tab na 0 a++[encRule r]++tab nb 0 b) hp g (.ret (.bool (q r))) hp g) :
  Does Tryd.prog R 120 [encRules l,.fn f na a nb b] hp g (.ret (.bool (l.l.any q))) hp g:=
 does_fn (pre:=[encRules l]) (D:=fun r=>r∈l.l) (args:=fun r=>[encRule r]) (oc1:=fun r=>.ret (.bool (q r))) ⟨trivial,trivial⟩ hpl (fun r=>⟨below_encRule r,trivial⟩) (fun _=>trivial) h
  (fun R' g' u hu=>c_ContainsFunc_TableRule R' l u q g' hl hu)
end Go.Avm.Pack
namespace Go.Avm.Pack
open Go Go.Avm Go.Proofs
open Go.IntKind (i64 u64)
open Go.Avm.AV (int bool any fz fp sl ow ref fn ifc val agg tup)
open Go.Avm.AObj (cells dead)
open Go.Avm.Oc (ret)
set_option maxRecDepth 4000
def small (p:Prg):Prop:=p.rules.l.length<1000000∧∀i,(p.rules.l.getD i default).body.l.length<1000000
def litB (n:Int)(l:Lit):Bool:=decide (0≤l.atom∧l.atom≤n-1)
def ruleB (n:Int)(r:Rule):Bool:=decide (0≤r.head∧r.head≤n-1)&&(decide (r.body.l.length≤4)&&r.body.l.all (litB n))
def prgB (p:Prg):Bool:=decide (1≤p.atoms∧p.atoms≤24)&&(decide (p.rules.l.length≤40)&&p.rules.l.all (ruleB p.atoms))
theorem all_iff {α:Type}[Inhabited α]{l:List α}{q:α→Bool}:l.all q=true↔∀i,i<l.length→q (l.getD i default)=true:=by
 rw[List.all_eq_true]
 constructor
 ·intro h i hi
  exact h _ (getD_mem l default hi)
 ·intro h a ha
  obtain⟨i,hi,rfl⟩:=List.getElem_of_mem ha
  have:=h i hi
  rwa [List.getD_eq_getElem?_getD,List.getElem?_eq_getElem hi,Option.getD_some] at this
theorem c_Check1 (R:Res)(p:Prg)(l:Lit)(g:R.σ)(hn : -1000000≤p.atoms∧p.atoms≤1000000):Does Tryd.prog R 59 [encLit l,.ref 0 0] [.cells false 2 (nth [.int .i64 p.atoms,encRules p.rules])] g (.ret (.bool (!litB p.atoms l))) [.cells false 2 (nth [.int .i64 p.atoms,encRules p.rules])] g:=by
 refine spec_of_wp (nt:=11) (rs:=[.tmp 3]) (k0:=1) (by kernel_rfl) (by kernel_rfl) (by kernel_rfl) rfl ?_
 refine vcQ [] (lkL [(0,[1,2]),(1,[3])]) (lkL [(1,[(5,ROrc.pcall (AV.bool (decide (0≤l.atom∧l.atom≤p.atoms-1))))])]) (fun Q=>(fun (u1:Int)=>1≤2∧1≤2∧(-9223372036854775808≤u1∧u1≤9223372036854775807)∧(∀(hp:List AObj) (g:R.σ),true=true∧Does Tryd.prog R 58 [int i64 l.atom,int i64 0,int i64 u1] hp g (ret (AV.bool (decide (0≤l.atom∧l.atom≤u1)))) hp g)∧Q AEx.ret (St.mk [(3,AV.bool !decide (0≤l.atom∧l.atom≤u1))] [cells false 2 (nth [int i64 p.atoms,encRules p.rules]),cells false 2 (nth [int i64 l.atom,AV.bool l.neg])] g)) (p.atoms-1)) (fun _=>by kernel_rfl) ⟨by omega,by omega,by omega,(fun _ _=>⟨rfl,(c_within _ _ _ _ _ _)⟩),?_⟩
 refine(retQ_le (retQ_take' 1 _ _ rfl trivial (by omega) trivial ⟨(fun j hj=>match j,hj with|0,_=>trivial|1,_=>trivial ),trivial⟩ (by kernel_rfl) rfl rfl) (Le.of_eq (by kernel_rfl)))
theorem c_Check (R:Res)(p:Prg)(hp:List AObj)(g:R.σ)(hs:small p):Does Tryd.prog R 16 [encPrg p] hp g (.ret (.int .i64 (if prgB p then 0 else 2))) hp g:=by
 have w1:=hs.1
 refine does_any' (fun R g=>?_) (by exact⟨⟨⟨trivial,trivial⟩,trivial⟩,trivial⟩) R hp g
 refine spec_of_wp (nt:=42) (rs:=[.tmp 2]) (k0:=0) (by kernel_rfl) (by kernel_rfl) (by kernel_rfl) rfl ?_
 refine vcQ [] (lkL [(0,[1]),(1,[1,14]),(2,[2]),(3,[1,16,17,18])]) (lkL [(1,[(2,ROrc.pcall (AV.bool (decide (1≤p.atoms∧p.atoms≤24))))])]) (fun Q=>(fun (u1:Int)=>(fun (u2:Bool)=>(fun (u3:AObj)=>1≤2∧(∀(hp:List AObj) (g:R.σ),true=true∧Does Tryd.prog R 58 [int i64 p.atoms,int i64 1,int i64 24] hp g (ret (AV.bool u2)) hp g)∧((!!u2)=true→2≤2)∧((bif !u2 then true else decide (u1 > 40))=true→Q AEx.ret (St.mk [(2,int i64 2)] [u3] g))∧((bif !u2 then true else decide (u1 > 40))=false→2≤2∧Wp Tryd.prog R 42 0 Rd.top (bodyOf Tryd.prog 16) [1,1,0,1,0] (contQ Tryd.prog R 42 0 Rd.top (bodyOf Tryd.prog 16) Q [Kont.blk 0,Kont.seq [1,1,1]]) (St.mk [(1,ref 0 0),(16,encRules p.rules),(17,int i64 u1),(18,int i64 0)] [u3] g))) (cells false 2 (nth [int i64 p.atoms,encRules p.rules]))) (decide (1≤p.atoms∧p.atoms≤24))) ((p.rules.l.length:Int))) (fun _=>by kernel_rfl) ⟨by omega,(fun _ _=>⟨rfl,(c_within _ _ _ _ _ _)⟩),by omega,fun c1=>have c1:¬(1≤p.atoms∧p.atoms≤24)∨(p.rules.l.length:Int) > 40:=((cO_t c1).imp (fun h=>(of_decide_eq_false ((Bool.not_eq_true' _).mp h))) (fun h=>(of_decide_eq_true h)));?_,fun c1=>have c1:(1≤p.atoms∧p.atoms≤24)∧¬(p.rules.l.length:Int) > 40:=⟨(of_decide_eq_true ((Bool.not_eq_false' _).mp (cO_f c1).1)),(of_decide_eq_false (cO_f c1).2)⟩;⟨by omega,?_⟩⟩
 ·refine(retQ_le (retQ_drop _ _ rfl trivial trivial rfl) (Le.of_eq ?_))
  show(int i64 2)=_
  have:prgB p=false:=by
   unfold prgB
   rcases c1 with h|h
   ·rw[decide_eq_false h];rfl
   ·rw[show decide (p.rules.l.length≤40)=false from decide_eq_false (by omega)];simp
  rw[this]
  rfl
 ·have hc:=c1
  refine(wp_loop (by kernel_rfl) (fun (i:Nat)=>⟨[(1,ref 0 0),(16,encRules p.rules),(17,int i64 (p.rules.l.length:Int)),(18,.int .i64 i)],[cells false 2 (nth [int i64 p.atoms,encRules p.rules])],g⟩) (fun (i:Nat)=>(i≤p.rules.l.length∧∀j,j<i→ruleB p.atoms (p.rules.l.getD j default)=true)) (fun (i:Nat)=>(p.rules.l.length-i)) 0 (to_fr ⟨Le.refl _,Le.refl _,Le.refl _,(Le.of_eq (by kernel_rfl)),trivial⟩ rfl rfl) ?_ (fun i hi=>?_))
  ·exact⟨Nat.zero_le _,fun j hj=>absurd hj (Nat.not_lt_zero _)⟩
  ·obtain⟨h1,h2⟩:=hi
   have w2:=hs.2 i
   refine vcQ [] (lkL [(4,[1,16,17,18,19]),(5,[1,4,16,17,18]),(6,[1,16,17,18,40]),(7,[2]),(8,[1,16,17,18])]) (lkL [(5,[(3,ROrc.val (Orc.obj (nth [int i64 (p.rules.l.getD i default).head,encLits (p.rules.l.getD i default).body])))]),(6,[(5,ROrc.pcall (AV.bool (decide (0≤(p.rules.l.getD i default).head∧(p.rules.l.getD i default).head≤p.atoms-1)))),(17,ROrc.kcall (AV.bool (List.any (p.rules.l.getD i default).body.l fun (r:Lit)=> !litB p.atoms r)))])]) (fun Q=>(fun (u1:Rule)=>(fun (u2:Bool)=>(fun (u3:List AObj)=>(fun (u4:Int)=>(fun (u5:Int)=>(fun (u6:Bool)=>(fun (u7:Int)=>(decide (u5<u4)=true→(0≤u5∧u5<u4)∧2≤2∧2≤2∧(∀(c:Nat),c<2→nth [int i64 u1.head,encLits u1.body] c=over (nth [int i64 0,fz Fz.nil 0 0 fun _ _=>any]) 0 2 (List.brecOn (motive:=fun (x:List AV)=>Nat→AV) [int i64 u1.head,encLits u1.body] nth._f) c)∧1≤2∧1≤2∧(-9223372036854775808≤u7∧u7≤9223372036854775807)∧(∀(hp:List AObj) (g:R.σ),true=true∧Does Tryd.prog R 58 [int i64 u1.head,int i64 0,int i64 u7] hp g (ret (AV.bool (decide (0≤u1.head∧u1.head≤u7)))) hp g)∧((!!decide (0≤u1.head∧u1.head≤u7))=true→2≤2)∧((!u2)=true→2≤2)∧((!u2)=true→true=true∧Does Tryd.prog R 50 [encLits u1.body,fn 59 0 (nth []) 1 (nth [ref 0 0])] u3 g (ret (AV.bool u6)) u3 g)∧((bif u2 then true else u6)=true→Q AEx.ret (St.mk [(2,int i64 2)] u3 g))∧((bif u2 then true else u6)=false→(-9223372036854775808≤u5+1∧u5+1≤9223372036854775807)∧Q AEx.normal (St.mk [(1,ref 0 0),(16,encRules p.rules),(17,int i64 u4),(18,int i64 (u5+1))] u3 g)))∧(decide (u5<u4)=false→Q (AEx.exit 0) (St.mk [(1,ref 0 0),(16,encRules p.rules),(17,int i64 u4),(18,int i64 u5),(19,AV.bool (decide (u5<u4)))] [cells false 2 (nth [int i64 p.atoms,encRules p.rules])] g))) (p.atoms-1)) (List.any u1.body.l fun (r:Lit)=> !litB p.atoms r)) ((i:Int))) ((p.rules.l.length:Int))) ([cells false 2 (nth [int i64 p.atoms,encRules p.rules]),cells false 2 (nth [int i64 u1.head,encLits u1.body])])) (bif !decide (0≤u1.head∧u1.head≤p.atoms-1) then true else decide ((u1.body.l.length:Int) > 4))) (p.rules.l.getD i default)) (fun _=>by kernel_rfl) ⟨fun c1=>have c1:(i:Int)<(p.rules.l.length:Int):=(of_decide_eq_true c1);⟨by omega,by omega,by omega,(fun c hc=>match c,hc with|0,_=>(by kernel_rfl)|1,_=>(by kernel_rfl) ),by omega,by omega,by omega,(fun _ _=>⟨rfl,(c_within _ _ _ _ _ _)⟩),by omega,by omega,(fun hgd=>⟨rfl,(c_ContainsFuncF_TableLit _ _ _ _ _ _ _ _ _ _ (by omega) (by kernel_rfl) (fun r _=>(does_sub' [0] 2 (fun R g=>c_Check1 R (p) (r) g (by omega)) rfl rfl rfl (by exact⟨⟨rfl,Nat.le_refl _,fun j hj=>match j,hj with|0,_=>(Le.refl _)|1,_=>(Le.refl _) ⟩,trivial⟩) (by exact⟨by omega,trivial⟩) (by exact⟨le_ren (by exact⟨⟨trivial,trivial⟩,trivial⟩),Le.refl _,trivial⟩) (by exact le_unren (by exact trivial)) (by exact⟨⟨rfl,Nat.le_refl _,fun j hj=>match j,hj with|0,_=>(Le.refl _)|1,_=>(Le.refl _) ⟩,LeO.rflc,trivial⟩))))⟩),fun c2=>have c2:(¬(0≤(p.rules.l.getD i default).head∧(p.rules.l.getD i default).head≤p.atoms-1)∨(↑((p.rules.l.getD i default).body.l.length):Int) > 4)∨(List.any (p.rules.l.getD i default).body.l fun (r:Lit)=> !litB p.atoms r)=true:=((cO_t c2).imp (fun h=>((cO_t h).imp (fun h=>(of_decide_eq_false ((Bool.not_eq_true' _).mp h))) (fun h=>(of_decide_eq_true h)))) (fun h=>h));?_,fun c2=>have c2:((0≤(p.rules.l.getD i default).head∧(p.rules.l.getD i default).head≤p.atoms-1)∧¬(↑((p.rules.l.getD i default).body.l.length):Int) > 4)∧(List.any (p.rules.l.getD i default).body.l fun (r:Lit)=> !litB p.atoms r)=false:=⟨⟨(of_decide_eq_true ((Bool.not_eq_false' _).mp (cO_f (cO_f c2).1).1)),(of_decide_eq_false (cO_f (cO_f c2).1).2)⟩,(cO_f c2).2⟩;⟨by omega,?_⟩⟩,fun c1=>have c1:¬(i:Int)<(p.rules.l.length:Int):=(of_decide_eq_false c1);?_⟩
   ·refine⟨_,To.refl _,(retQ_le (retQ_drop _ _ rfl trivial trivial rfl) (Le.of_eq ?_))⟩
    show(int i64 2)=_
    have:prgB p=false:=by
     cases hb:prgB p with
     |false=>rfl
     |true=>
      exfalso
      unfold prgB at hb
      simp only[Bool.and_eq_true] at hb
      have:=all_iff.1 hb.2.2 i (by omega)
      unfold ruleB at this
      simp only[Bool.and_eq_true,decide_eq_true_eq] at this
      rcases c2 with(h|h)|h
      ·exact h this.1
      ·omega
      ·rw[List.any_eq_true] at h
       obtain⟨l,hl,hl2⟩:=h
       have:=List.all_eq_true.1 this.2.2 l hl
       rw[this] at hl2
       cases hl2
    rw[this]
    rfl
   ·refine(next_round (i+1) (to_sel [0] 2 rfl rfl rfl rfl rfl ⟨Le.refl _,Le.refl _,Le.refl _,Le.refl _,trivial⟩ ⟨⟨rfl,Nat.le_refl _,fun j hj=>match j,hj with|0,_=>(Le.refl _)|1,_=>(Le.refl _) ⟩,trivial⟩) ?_ ?_)
    ·refine⟨by omega,fun j hj=>?_⟩
     rcases Nat.lt_or_ge j i with h|h
     ·exact h2 j h
     ·have:j=i:=by omega
      subst this
      unfold ruleB
      rw[decide_eq_true c2.1.1,decide_eq_true (show(p.rules.l.getD j default).body.l.length≤4 by have:=c2.1.2;omega)]
      rw[show(p.rules.l.getD j default).body.l.all (litB p.atoms)=true from ?_]
      ·rfl
      ·rw[List.all_eq_true]
       intro l hl
       have:=List.any_eq_false.1 c2.2 l hl
       simpa using this
    ·omega
   ·refine⟨_,To.refl _,vcQ [] (lkL [(9,[2])]) (fun _=>[]) (fun Q=>Q AEx.ret (St.mk [(2,int i64 0)] [cells false 2 (nth [int i64 p.atoms,encRules p.rules])] g)) (fun _=>by kernel_rfl) (?_)⟩
    refine(retQ_le (retQ_drop _ _ rfl trivial trivial rfl) (Le.of_eq ?_))
    show(int i64 0)=_
    have:prgB p=true:=by
     unfold prgB
     rw[decide_eq_true hc.1,decide_eq_true (show p.rules.l.length≤40 by have:=hc.2;omega)]
     exact all_iff.2 (fun j hj=>h2 j (by omega))
    rw[this]
    rfl
theorem c_Prog (R:Res)(p:Prg)(hp:List AObj)(g:R.σ)(hs:small p):Does Tryd.prog R 18 [encPrg p] hp g (.ret (.bool (prgB p))) hp g:=by
 have w1:=hs.1
 refine does_any' (fun R g=>?_) (by exact⟨⟨⟨trivial,trivial⟩,trivial⟩,trivial⟩) R hp g
 refine spec_of_wp (nt:=59) (rs:=[.tmp 2]) (k0:=0) (by kernel_rfl) (by kernel_rfl) (by kernel_rfl) rfl ?_
 refine vcQ [] (lkL [(0,[1]),(1,[1,15]),(2,[2]),(3,[1,3])]) (lkL [(1,[(2,ROrc.pcall (AV.bool (decide (1≤p.atoms∧p.atoms≤24))))])]) (fun Q=>(fun (u1:Bool)=>(fun (u2:Int)=>(fun (u3:AObj)=>1≤2∧(∀(hp:List AObj) (g:R.σ),true=true∧Does Tryd.prog R 62 [int i64 p.atoms,int i64 1,int i64 24] hp g (ret (AV.bool u1)) hp g)∧((!!u1)=true→2≤2)∧((bif !u1 then true else decide (u2 > 40))=true→Q AEx.ret (St.mk [(2,AV.bool false)] [u3] g))∧((bif !u1 then true else decide (u2 > 40))=false→Wp Tryd.prog R 59 0 Rd.top (bodyOf Tryd.prog 18) [1,1,0,1,0] (contQ Tryd.prog R 59 0 Rd.top (bodyOf Tryd.prog 18) Q [Kont.blk 0,Kont.seq [1,1,1]]) (St.mk [(1,ref 0 0),(3,int i64 0)] [u3] g))) (cells false 2 (nth [int i64 p.atoms,encRules p.rules]))) ((p.rules.l.length:Int))) (decide (1≤p.atoms∧p.atoms≤24))) (fun _=>by kernel_rfl) ⟨by omega,(fun _ _=>⟨rfl,(c_in _ _ _ _ _ _)⟩),by omega,fun c1=>have c1:¬(1≤p.atoms∧p.atoms≤24)∨(p.rules.l.length:Int) > 40:=((cO_t c1).imp (fun h=>(of_decide_eq_false ((Bool.not_eq_true' _).mp h))) (fun h=>(of_decide_eq_true h)));?_,fun c1=>have c1:(1≤p.atoms∧p.atoms≤24)∧¬(p.rules.l.length:Int) > 40:=⟨(of_decide_eq_true ((Bool.not_eq_false' _).mp (cO_f c1).1)),(of_decide_eq_false (cO_f c1).2)⟩;?_⟩
 ·refine(retQ_le (retQ_drop _ _ rfl trivial trivial rfl) (Le.of_eq ?_))
  show(AV.bool false)=_
  show AV.bool false=_
  congr 1
  symm
  unfold prgB
  rcases c1 with h|h
  ·rw[decide_eq_false h];rfl
  ·rw[show decide (p.rules.l.length≤40)=false from decide_eq_false (by omega)];simp
 ·have hc:=c1
  refine(wp_loop (by kernel_rfl) (fun (i:Nat)=>⟨[(1,ref 0 0),(3,.int .i64 i)],[cells false 2 (nth [int i64 p.atoms,encRules p.rules])],g⟩) (fun (i:Nat)=>(i≤p.rules.l.length∧∀j,j<i→ruleB p.atoms (p.rules.l.getD j default)=true)) (fun (i:Nat)=>(p.rules.l.length-i)) 0 (to_fr ⟨Le.refl _,(Le.of_eq (by kernel_rfl)),trivial⟩ rfl rfl) ?_ (fun i hi=>?_))
  ·exact⟨Nat.zero_le _,fun j hj=>absurd hj (Nat.not_lt_zero _)⟩
  ·obtain⟨h1,h2⟩:=hi
   have w2:=hs.2 i
   have key:i<p.rules.l.length→prgB p=true→ruleB p.atoms (p.rules.l.getD i default)=true:=fun hi hb=>by
    unfold prgB at hb
    simp only[Bool.and_eq_true] at hb
    exact all_iff.1 hb.2.2 i hi
   refine vcQ [] (lkL [(4,[1,3,20]),(6,[1,3,4]),(7,[1,3,4,40]),(8,[2]),(9,[1,3,4,5])]) (lkL [(6,[(6,ROrc.val (Orc.obj (nth [int i64 (p.rules.l.getD i default).head,encLits (p.rules.l.getD i default).body])))]),(7,[(5,ROrc.pcall (AV.bool (decide (0≤(p.rules.l.getD i default).head∧(p.rules.l.getD i default).head≤p.atoms-1))))])]) (fun Q=>(fun (u1:Rule)=>(fun (u2:Int)=>(fun (u3:Bool)=>(fun (u4:List AObj)=>(fun (u5:Int)=>(fun (u6:Int)=>2≤2∧(decide (u6<u2)=true→2≤2∧(0≤u6∧u6<u2)∧2≤2∧2≤2∧(∀(c:Nat),c<2→nth [int i64 u1.head,encLits u1.body] c=over (nth [int i64 0,fz Fz.nil 0 0 fun _ _=>any]) 0 2 (List.brecOn (motive:=fun (x:List AV)=>Nat→AV) [int i64 u1.head,encLits u1.body] nth._f) c)∧1≤2∧1≤2∧(-9223372036854775808≤p.atoms-1∧p.atoms-1≤9223372036854775807)∧(∀(hp:List AObj) (g:R.σ),true=true∧Does Tryd.prog R 62 [int i64 u1.head,int i64 0,int i64 (p.atoms-1)] hp g (ret (AV.bool u3)) hp g)∧((!!u3)=true→2≤2)∧((bif !u3 then true else decide (u5 > 4))=true→Q AEx.ret (St.mk [(2,AV.bool false)] u4 g))∧((bif !u3 then true else decide (u5 > 4))=false→Wp Tryd.prog R 59 0 Rd.top (bodyOf Tryd.prog 18) [1,1,0,1,0,0,1,0,0,1,1,1,0] (contQ Tryd.prog R 59 0 Rd.top (bodyOf Tryd.prog 18) Q [Kont.blk 2,Kont.blk 1,Kont.seq [1,1,0,1,0,0,1,1]]) (St.mk [(1,ref 0 0),(3,int i64 u6),(4,ref 1 0),(5,int i64 0)] u4 g)))∧(decide (u6<u2)=false→Q (AEx.exit 0) (St.mk [(1,ref 0 0),(3,int i64 u6),(20,AV.bool (decide (u6<u2)))] [cells false 2 (nth [int i64 p.atoms,encRules p.rules])] g))) ((i:Int))) ((u1.body.l.length:Int))) ([cells false 2 (nth [int i64 p.atoms,encRules p.rules]),cells false 2 (nth [int i64 u1.head,encLits u1.body])])) (decide (0≤u1.head∧u1.head≤p.atoms-1))) ((p.rules.l.length:Int))) (p.rules.l.getD i default)) (fun _=>by kernel_rfl) ⟨by omega,fun c1=>have c1:(i:Int)<(p.rules.l.length:Int):=(of_decide_eq_true c1);⟨by omega,by omega,by omega,by omega,(fun c hc=>match c,hc with|0,_=>(by kernel_rfl)|1,_=>(by kernel_rfl) ),by omega,by omega,by omega,(fun _ _=>⟨rfl,(c_in _ _ _ _ _ _)⟩),by omega,fun c2=>have c2:¬(0≤(p.rules.l.getD i default).head∧(p.rules.l.getD i default).head≤p.atoms-1)∨(↑((p.rules.l.getD i default).body.l.length):Int) > 4:=((cO_t c2).imp (fun h=>(of_decide_eq_false ((Bool.not_eq_true' _).mp h))) (fun h=>(of_decide_eq_true h)));?_,fun c2=>have c2:(0≤(p.rules.l.getD i default).head∧(p.rules.l.getD i default).head≤p.atoms-1)∧¬(↑((p.rules.l.getD i default).body.l.length):Int) > 4:=⟨(of_decide_eq_true ((Bool.not_eq_false' _).mp (cO_f c2).1)),(of_decide_eq_false (cO_f c2).2)⟩;?_⟩,fun c1=>have c1:¬(i:Int)<(p.rules.l.length:Int):=(of_decide_eq_false c1);?_⟩
   ·refine⟨_,To.refl _,(retQ_le (retQ_drop _ _ rfl trivial trivial rfl) (Le.of_eq ?_))⟩
    show(AV.bool false)=_
    show AV.bool false=_
    congr 1
    symm
    cases hb:prgB p with
    |false=>rfl
    |true=>
     exfalso
     have:=key (by omega) hb
     unfold ruleB at this
     simp only[Bool.and_eq_true,decide_eq_true_eq] at this
     rcases c2 with h|h
     ·exact h this.1
     ·omega
   ·have hc2:=c2
    refine(wp_loop (by kernel_rfl) (fun (k:Nat)=>⟨[(1,ref 0 0),(3,int i64 (i:Int)),(4,ref 1 0),(5,.int .i64 k)],[cells false 2 (nth [int i64 p.atoms,encRules p.rules]),cells false 2 (nth [int i64 (p.rules.l.getD i default).head,encLits (p.rules.l.getD i default).body])],g⟩) (fun (k:Nat)=>(k≤(p.rules.l.getD i default).body.l.length∧∀j,j<k→litB p.atoms ((p.rules.l.getD i default).body.l.getD j default)=true)) (fun (k:Nat)=>((p.rules.l.getD i default).body.l.length-k)) 0 (to_fr ⟨Le.refl _,Le.refl _,Le.refl _,(Le.of_eq (by kernel_rfl)),trivial⟩ rfl rfl) ?_ (fun k hi=>?_))
    ·exact⟨Nat.zero_le _,fun j hj=>absurd hj (Nat.not_lt_zero _)⟩
    ·obtain⟨k1,k2⟩:=hi
     refine vcQ [] (lkL [(10,[1,3,4,5,45]),(12,[1,3,4,5,58]),(13,[2]),(11,[1,3,4,5])]) (lkL [(12,[(9,ROrc.pcall (AV.bool (decide (0≤((p.rules.l.getD i default).body.l.getD k default).atom∧((p.rules.l.getD i default).body.l.getD k default).atom≤p.atoms-1))))])]) (fun Q=>(fun (u1:Int)=>(fun (u2:Int)=>(fun (u3:List AObj)=>(fun (u4:Int)=>(fun (u5:Int)=>(fun (u6:Bool)=>2≤2∧(decide (u4<u2)=true→Tables.follows Tryd.prog.toTables Departure.mixedOrders=true∧2≤2∧(0≤u4∧u4<u2)∧1≤2∧1≤2∧(-9223372036854775808≤u5∧u5≤9223372036854775807)∧(∀(hp:List AObj) (g:R.σ),true=true∧Does Tryd.prog R 62 [int i64 u1,int i64 0,int i64 u5] hp g (ret (AV.bool u6)) hp g)∧((!u6)=true→Q AEx.ret (St.mk [(2,AV.bool false)] u3 g))∧((!u6)=false→(-9223372036854775808≤u4+1∧u4+1≤9223372036854775807)∧Q AEx.normal (St.mk [(1,ref 0 0),(3,int i64 (i:Int)),(4,ref 1 0),(5,int i64 (u4+1))] u3 g)))∧(decide (u4<u2)=false→Q (AEx.exit 2) (St.mk [(1,ref 0 0),(3,int i64 (i:Int)),(4,ref 1 0),(5,int i64 u4),(45,AV.bool (decide (u4<u2)))] u3 g))) (decide (0≤u1∧u1≤u5))) (p.atoms-1)) ((k:Int))) ([cells false 2 (nth [int i64 p.atoms,encRules p.rules]),cells false 2 (nth [int i64 (p.rules.l.getD i default).head,encLits (p.rules.l.getD i default).body])])) ((↑((p.rules.l.getD i default).body.l.length):Int))) (((p.rules.l.getD i default).body.l.getD k default).atom)) (fun _=>by kernel_rfl) ⟨by omega,fun c1=>have c1:(k:Int)<(↑((p.rules.l.getD i default).body.l.length):Int):=(of_decide_eq_true c1);⟨by kernel_rfl,by omega,by omega,by omega,by omega,by omega,(fun _ _=>⟨rfl,(c_in _ _ _ _ _ _)⟩),fun c2=>have c2:¬(0≤((p.rules.l.getD i default).body.l.getD k default).atom∧((p.rules.l.getD i default).body.l.getD k default).atom≤p.atoms-1):=(of_decide_eq_false ((Bool.not_eq_true' _).mp c2));?_,fun c2=>have c2:0≤((p.rules.l.getD i default).body.l.getD k default).atom∧((p.rules.l.getD i default).body.l.getD k default).atom≤p.atoms-1:=(of_decide_eq_true ((Bool.not_eq_false' _).mp c2));⟨by omega,?_⟩⟩,fun c1=>have c1:¬(k:Int)<(↑((p.rules.l.getD i default).body.l.length):Int):=(of_decide_eq_false c1);?_⟩
     ·refine⟨_,To.refl _,_,To.refl _,(retQ_le (retQ_drop _ _ rfl trivial trivial rfl) (Le.of_eq ?_))⟩
      show(AV.bool false)=_
      show AV.bool false=_
      congr 1
      symm
      cases hb:prgB p with
      |false=>rfl
      |true=>
       exfalso
       have:=key (by omega) hb
       unfold ruleB at this
       simp only[Bool.and_eq_true] at this
       have:=all_iff.1 this.2.2 k (by omega)
       unfold litB at this
       exact c2 (of_decide_eq_true this)
     ·refine(next_round (k+1) (to_fr ⟨Le.refl _,Le.refl _,Le.refl _,(Le.of_eq (by kernel_rfl)),trivial⟩ rfl rfl) ?_ ?_)
      ·refine⟨by omega,fun j hj=>?_⟩
       rcases Nat.lt_or_ge j k with h|h
       ·exact k2 j h
       ·have:j=k:=by omega
        subst this
        unfold litB
        exact decide_eq_true c2
      ·omega
     ·refine⟨_,To.refl _,vcQ [] (lkL [(5,[1,3])]) (fun _=>[]) (fun Q=>(-9223372036854775808≤(i:Int)+1∧(i:Int)+1≤9223372036854775807)∧Q AEx.normal (St.mk [(1,ref 0 0),(3,int i64 ((i:Int)+1))] [cells false 2 (nth [int i64 p.atoms,encRules p.rules]),cells false 2 (nth [int i64 (p.rules.l.getD i default).head,encLits (p.rules.l.getD i default).body])] g)) (fun _=>by kernel_rfl) ⟨by omega,?_⟩⟩
      refine(next_round (i+1) (to_sel [0] 2 rfl rfl rfl rfl rfl ⟨Le.refl _,Le.refl _,trivial⟩ ⟨⟨rfl,Nat.le_refl _,fun j hj=>match j,hj with|0,_=>(Le.refl _)|1,_=>(Le.refl _) ⟩,trivial⟩) ?_ ?_)
      ·refine⟨by omega,fun j hj=>?_⟩
       rcases Nat.lt_or_ge j i with h|h
       ·exact h2 j h
       ·have:j=i:=by omega
        subst this
        unfold ruleB
        rw[decide_eq_true hc2.1,decide_eq_true (show(p.rules.l.getD j default).body.l.length≤4 by have:=hc2.2;omega)]
        exact all_iff.2 (fun q hq=>k2 q (by omega))
      ·omega
   ·refine⟨_,To.refl _,vcQ [] (lkL [(14,[2])]) (fun _=>[]) (fun Q=>Q AEx.ret (St.mk [(2,AV.bool true)] [cells false 2 (nth [int i64 p.atoms,encRules p.rules])] g)) (fun _=>by kernel_rfl) (?_)⟩
    refine(retQ_le (retQ_drop _ _ rfl trivial trivial rfl) (Le.of_eq ?_))
    show(AV.bool true)=_
    show AV.bool true=_
    congr 1
    symm
    unfold prgB
    rw[decide_eq_true hc.1,decide_eq_true (show p.rules.l.length≤40 by have:=hc.2;omega)]
    exact all_iff.2 (fun j hj=>h2 j (by omega))
def smallB (p:Prg):Bool:=decide (p.rules.l.length≤41)&&p.rules.l.all (fun r=>decide (r.body.l.length≤5))
theorem c_Small (R:Res)(p:Prg)(hp:List AObj)(g:R.σ):Does Tryd.prog R 14 [encPrg p] hp g (.ret (.bool (smallB p))) hp g:=by
 refine does_any' (fun R g=>?_) (by exact⟨⟨⟨trivial,trivial⟩,trivial⟩,trivial⟩) R hp g
 refine spec_of_wp (nt:=23) (rs:=[.tmp 2]) (k0:=0) (by kernel_rfl) (by kernel_rfl) (by kernel_rfl) rfl ?_
 refine vcQ [] (lkL [(0,[1]),(1,[1,7]),(2,[2]),(3,[1,3])]) (fun _=>[]) (fun Q=>(fun (u1:Int)=>(fun (u2:AObj)=>2≤2∧(decide (u1 > 41)=true→Q AEx.ret (St.mk [(2,AV.bool false)] [u2] g))∧(decide (u1 > 41)=false→Wp Tryd.prog R 23 0 Rd.top (bodyOf Tryd.prog 14) [1,1,0,1,0] (contQ Tryd.prog R 23 0 Rd.top (bodyOf Tryd.prog 14) Q [Kont.blk 0,Kont.seq [1,1,1]]) (St.mk [(1,ref 0 0),(3,int i64 0)] [u2] g))) (cells false 2 (nth [int i64 p.atoms,encRules p.rules]))) ((p.rules.l.length:Int))) (fun _=>by kernel_rfl) ⟨by omega,fun c1=>have c1:(p.rules.l.length:Int) > 41:=(of_decide_eq_true c1);?_,fun c1=>have c1:¬(p.rules.l.length:Int) > 41:=(of_decide_eq_false c1);?_⟩
 ·refine(retQ_le (retQ_drop _ _ rfl trivial trivial rfl) (Le.of_eq ?_))
  show(AV.bool false)=_
  show AV.bool false=_
  congr 1
  symm
  unfold smallB
  rw[decide_eq_false (by omega)]
  rfl
 ·have hc:=c1
  refine(wp_loop (by kernel_rfl) (fun (i:Nat)=>⟨[(1,ref 0 0),(3,.int .i64 i)],[cells false 2 (nth [int i64 p.atoms,encRules p.rules])],g⟩) (fun (i:Nat)=>(i≤p.rules.l.length∧∀j,j<i→(p.rules.l.getD j default).body.l.length≤5)) (fun (i:Nat)=>(p.rules.l.length-i)) 0 (to_fr ⟨Le.refl _,(Le.of_eq (by kernel_rfl)),trivial⟩ rfl rfl) ?_ (fun i hi=>?_))
  ·exact⟨Nat.zero_le _,fun j hj=>absurd hj (Nat.not_lt_zero _)⟩
  ·obtain⟨h1,h2⟩:=hi
   refine vcQ [] (lkL [(4,[1,3,12]),(6,[1,3,22]),(7,[2]),(5,[1,3])]) (fun _=>[]) (fun Q=>(fun (u1:Int)=>(fun (u2:Int)=>(fun (u3:Int)=>(fun (u4:AObj)=>2≤2∧(decide (u3<u1)=true→2≤2∧(0≤u3∧u3<u1)∧1≤1∧(decide (u2 > 5)=true→Q AEx.ret (St.mk [(2,AV.bool false)] [u4] g))∧(decide (u2 > 5)=false→(-9223372036854775808≤u3+1∧u3+1≤9223372036854775807)∧Q AEx.normal (St.mk [(1,ref 0 0),(3,int i64 (u3+1))] [u4] g)))∧(decide (u3<u1)=false→Q (AEx.exit 0) (St.mk [(1,ref 0 0),(3,int i64 u3),(12,AV.bool (decide (u3<u1)))] [u4] g))) (cells false 2 (nth [int i64 p.atoms,encRules p.rules]))) ((i:Int))) ((↑((p.rules.l.getD i default).body.l.length):Int))) ((p.rules.l.length:Int))) (fun _=>by kernel_rfl) ⟨by omega,fun c1=>have c1:(i:Int)<(p.rules.l.length:Int):=(of_decide_eq_true c1);⟨by omega,by omega,by omega,fun c2=>have c2:(↑((p.rules.l.getD i default).body.l.length):Int) > 5:=(of_decide_eq_true c2);?_,fun c2=>have c2:¬(↑((p.rules.l.getD i default).body.l.length):Int) > 5:=(of_decide_eq_false c2);⟨by omega,?_⟩⟩,fun c1=>have c1:¬(i:Int)<(p.rules.l.length:Int):=(of_decide_eq_false c1);?_⟩
   ·refine⟨_,To.refl _,(retQ_le (retQ_drop _ _ rfl trivial trivial rfl) (Le.of_eq ?_))⟩
    show(AV.bool false)=_
    show AV.bool false=_
    congr 1
    symm
    cases hb:smallB p with
    |false=>rfl
    |true=>
     exfalso
     unfold smallB at hb
     simp only[Bool.and_eq_true] at hb
     have:=of_decide_eq_true (all_iff.1 hb.2 i (by omega))
     omega
   ·refine(next_round (i+1) (to_fr ⟨Le.refl _,(Le.of_eq (by kernel_rfl)),trivial⟩ rfl rfl) ?_ ?_)
    ·refine⟨by omega,fun j hj=>?_⟩
     rcases Nat.lt_or_ge j i with h|h
     ·exact h2 j h
     ·have:j=i:=by omega
      subst this
      omega
    ·omega
   ·refine⟨_,To.refl _,vcQ [] (lkL [(8,[2])]) (fun _=>[]) (fun Q=>Q AEx.ret (St.mk [(2,AV.bool true)] [cells false 2 (nth [int i64 p.atoms,encRules p.rules])] g)) (fun _=>by kernel_rfl) (?_)⟩
    refine(retQ_le (retQ_drop _ _ rfl trivial trivial rfl) (Le.of_eq ?_))
    show(AV.bool true)=_
    show AV.bool true=_
    congr 1
    symm
    unfold smallB
    rw[decide_eq_true (by omega)]
    exact all_iff.2 (fun j hj=>decide_eq_true (h2 j (by omega)))
theorem small_of {p:Prg}(h:smallB p=true):small p:=by
 unfold smallB at h
 simp only[Bool.and_eq_true,decide_eq_true_eq] at h
 refine⟨by omega,fun i=>?_⟩
 rcases Nat.lt_or_ge i p.rules.l.length with hi|hi
 ·have:=of_decide_eq_true (all_iff.1 h.2 i hi)
  omega
 ·rw[List.getD_eq_getElem?_getD,List.getElem?_eq_none hi]
  exact(by decide:(default:Rule).body.l.length<1000000)
end Go.Avm.Pack
namespace Go.Avm.Pack
open Go Go.Avm Go.Proofs
open Go.IntKind (i64 u64)
open Go.Avm.AV (int bool any fz fp sl ow ref fn ifc val agg tup)
open Go.Avm.AObj (cells dead)
open Go.Avm.Oc (ret)
set_option maxRecDepth 4000
theorem ext_getD {α:Type}[DecidableEq α]{a b:List α}(d:α)(h:a.length=b.length)(h2:∀j,j<a.length→a.getD j d=b.getD j d):a=b:=
 List.ext_getElem h (fun j h3 h4=>by have:=h2 j h3;simpa[List.getD,h3,h4] using this)
theorem ne_getD {α:Type}{a b:List α}{d:α}{j:Nat}(h:a.getD j d≠b.getD j d):a≠b:=fun e=>h (by rw[e])
theorem c_SameInts (R:Res)(a b:KL Int)(hp:List AObj)(g:R.σ)(hl:a.l.length<1000000):Does Tryd.prog R 33 [encI a,encI b] hp g (.ret (.bool (decide (a.l=b.l)))) hp g:=by
 refine does_any' (fun R g=>?_) (by exact⟨trivial,trivial,trivial⟩) R hp g
 refine spec_of_wp (nt:=33) (rs:=[.tmp 4]) (k0:=0) (by kernel_rfl) (by kernel_rfl) (by kernel_rfl) rfl ?_
 refine vcQ [] (lkL [(0,[0,1]),(1,[0,1,5])]) (fun _=>[]) (fun Q=>Wp Tryd.prog R 33 0 Rd.top (bodyOf Tryd.prog 33) [1,0,1,0] (contQ Tryd.prog R 33 0 Rd.top (bodyOf Tryd.prog 33) Q [Kont.blk 0,Kont.seq [1,1]]) (St.mk [(0,encI a),(1,encI b),(5,int i64 0)] [] g)) (fun _=>by kernel_rfl) (?_)
 refine(wp_loop (by kernel_rfl) (fun (i:Nat)=>⟨[(0,encI a),(1,encI b),(5,.int .i64 (i:Int))],[],g⟩) (fun (i:Nat)=>(i≤a.l.length∧∀j,j<i→a.l.getD j 0=b.l.getD j 0)) (fun (i:Nat)=>(a.l.length-i)) 0 (to_fr ⟨Le.refl _,Le.refl _,(Le.of_eq (by kernel_rfl)),trivial⟩ rfl rfl) ?_ (fun i hi=>?_))
 ·exact⟨Nat.zero_le _,fun j hj=>absurd hj (by omega)⟩
 ·obtain⟨h1,h2⟩:=hi
  refine vcQ [] (lkL [(2,[0,1,5,16]),(4,[0,1,5,27]),(5,[4]),(3,[0,1,5])]) (fun _=>[]) (fun Q=>(fun (u1:Bool)=>(fun (u2:Int)=>(u1=true→Tables.follows Tryd.prog.toTables Departure.mixedOrders=true∧(0≤u2∧u2<(a.l.length:Int))∧1≤1∧(0≤u2∧u2<(b.l.length:Int))∧1≤1∧((a.l.getD i 0 != b.l.getD i 0)=true→Q AEx.ret (St.mk [(4,AV.bool false)] [] g))∧((a.l.getD i 0 != b.l.getD i 0)=false→(-9223372036854775808≤u2+1∧u2+1≤9223372036854775807)∧Q AEx.normal (St.mk [(0,encI a),(1,encI b),(5,int i64 (u2+1))] [] g)))∧(u1=false→Q (AEx.exit 0) (St.mk [(0,encI a),(1,encI b),(5,int i64 u2),(16,AV.bool u1)] [] g))) ((i:Int))) (bif decide ((i:Int)<(a.l.length:Int)) then(a.l.length:Int)==(b.l.length:Int) else false)) (fun _=>by kernel_rfl) ⟨fun c1=>have c1:(i:Int)<(a.l.length:Int)∧(a.l.length:Int)=(b.l.length:Int):=⟨(of_decide_eq_true (cA_t c1).1),(beq_iff_eq.mp (cA_t c1).2)⟩;⟨by kernel_rfl,by omega,by omega,by omega,by omega,fun c2=>have c2:¬a.l.getD i 0=b.l.getD i 0:=(bne_iff_ne.mp c2);?_,fun c2=>have c2:a.l.getD i 0=b.l.getD i 0:=(bne_eq_false_iff_eq.mp c2);⟨by omega,?_⟩⟩,fun c1=>have c1:¬(i:Int)<(a.l.length:Int)∨¬(a.l.length:Int)=(b.l.length:Int):=((cA_f c1).imp (fun h=>(of_decide_eq_false h)) (fun h=>(beq_eq_false_iff_ne.mp h)));?_⟩
  ·refine⟨_,To.refl _,(retQ_le (retQ_same' _ _ rfl trivial rfl rfl rfl) (Le.of_eq ?_))⟩
   show(AV.bool false)=_
   congr 1
   have:a.l≠b.l:=ne_getD (j:=i) (d:=0) c2
   simp[this]
  ·refine(next_round (i+1) (to_fr ⟨Le.refl _,Le.refl _,(Le.of_eq (by kernel_rfl)),trivial⟩ rfl rfl) ?_ ?_)
   ·refine⟨by omega,fun j hj=>?_⟩
    rcases Nat.lt_or_ge j i with h|h
    ·exact h2 j h
    ·have:j=i:=by omega
     subst this;exact c2
   ·omega
  ·have c:=c1
   refine⟨_,To.refl _,vcQ [] (lkL [(6,[4])]) (fun _=>[]) (fun Q=>Q AEx.ret (St.mk [(4,AV.bool ((a.l.length:Int)==(b.l.length:Int)))] [] g)) (fun _=>by kernel_rfl) (?_)⟩
   refine(retQ_le (retQ_same' _ _ rfl trivial rfl rfl rfl) (Le.of_eq ?_))
   show(AV.bool ((↑(List.length a.l):Int)==(↑(List.length b.l):Int)))=_
   congr 1
   by_cases hab:a.l.length=b.l.length
   ·have:a.l=b.l:=ext_getD 0 hab (fun j hj=>h2 j (by omega))
    simp[this]
   ·have:a.l≠b.l:=fun e=>hab (by rw[e])
    simp[this]
    omega
theorem c_SameValues (R:Res)(a b:KL Int)(hp:List AObj)(g:R.σ)(hl:a.l.length<1000000):Does Tryd.prog R 21 [encI a,encI b] hp g (.ret (.bool (decide (a.l=b.l)))) hp g:=by
 refine does_any' (fun R g=>?_) (by exact⟨trivial,trivial,trivial⟩) R hp g
 refine spec_of_wp (nt:=33) (rs:=[.tmp 4]) (k0:=0) (by kernel_rfl) (by kernel_rfl) (by kernel_rfl) rfl ?_
 refine vcQ [] (lkL [(0,[0,1]),(1,[0,1,5])]) (fun _=>[]) (fun Q=>Wp Tryd.prog R 33 0 Rd.top (bodyOf Tryd.prog 21) [1,0,1,0] (contQ Tryd.prog R 33 0 Rd.top (bodyOf Tryd.prog 21) Q [Kont.blk 0,Kont.seq [1,1]]) (St.mk [(0,encI a),(1,encI b),(5,int i64 0)] [] g)) (fun _=>by kernel_rfl) (?_)
 refine(wp_loop (by kernel_rfl) (fun (i:Nat)=>⟨[(0,encI a),(1,encI b),(5,.int .i64 (i:Int))],[],g⟩) (fun (i:Nat)=>(i≤a.l.length∧∀j,j<i→a.l.getD j 0=b.l.getD j 0)) (fun (i:Nat)=>(a.l.length-i)) 0 (to_fr ⟨Le.refl _,Le.refl _,(Le.of_eq (by kernel_rfl)),trivial⟩ rfl rfl) ?_ (fun i hi=>?_))
 ·exact⟨Nat.zero_le _,fun j hj=>absurd hj (by omega)⟩
 ·obtain⟨h1,h2⟩:=hi
  refine vcQ [] (lkL [(2,[0,1,5,16]),(4,[0,1,5,27]),(5,[4]),(3,[0,1,5])]) (fun _=>[]) (fun Q=>(fun (u1:Bool)=>(fun (u2:Int)=>(u1=true→Tables.follows Tryd.prog.toTables Departure.mixedOrders=true∧(0≤u2∧u2<(a.l.length:Int))∧1≤1∧(0≤u2∧u2<(b.l.length:Int))∧1≤1∧((a.l.getD i 0 != b.l.getD i 0)=true→Q AEx.ret (St.mk [(4,AV.bool false)] [] g))∧((a.l.getD i 0 != b.l.getD i 0)=false→(-9223372036854775808≤u2+1∧u2+1≤9223372036854775807)∧Q AEx.normal (St.mk [(0,encI a),(1,encI b),(5,int i64 (u2+1))] [] g)))∧(u1=false→Q (AEx.exit 0) (St.mk [(0,encI a),(1,encI b),(5,int i64 u2),(16,AV.bool u1)] [] g))) ((i:Int))) (bif decide ((i:Int)<(a.l.length:Int)) then(a.l.length:Int)==(b.l.length:Int) else false)) (fun _=>by kernel_rfl) ⟨fun c1=>have c1:(i:Int)<(a.l.length:Int)∧(a.l.length:Int)=(b.l.length:Int):=⟨(of_decide_eq_true (cA_t c1).1),(beq_iff_eq.mp (cA_t c1).2)⟩;⟨by kernel_rfl,by omega,by omega,by omega,by omega,fun c2=>have c2:¬a.l.getD i 0=b.l.getD i 0:=(bne_iff_ne.mp c2);?_,fun c2=>have c2:a.l.getD i 0=b.l.getD i 0:=(bne_eq_false_iff_eq.mp c2);⟨by omega,?_⟩⟩,fun c1=>have c1:¬(i:Int)<(a.l.length:Int)∨¬(a.l.length:Int)=(b.l.length:Int):=((cA_f c1).imp (fun h=>(of_decide_eq_false h)) (fun h=>(beq_eq_false_iff_ne.mp h)));?_⟩
  ·refine⟨_,To.refl _,(retQ_le (retQ_same' _ _ rfl trivial rfl rfl rfl) (Le.of_eq ?_))⟩
   show(AV.bool false)=_
   congr 1
   have:a.l≠b.l:=ne_getD (j:=i) (d:=0) c2
   simp[this]
  ·refine(next_round (i+1) (to_fr ⟨Le.refl _,Le.refl _,(Le.of_eq (by kernel_rfl)),trivial⟩ rfl rfl) ?_ ?_)
   ·refine⟨by omega,fun j hj=>?_⟩
    rcases Nat.lt_or_ge j i with h|h
    ·exact h2 j h
    ·have:j=i:=by omega
     subst this;exact c2
   ·omega
  ·have c:=c1
   refine⟨_,To.refl _,vcQ [] (lkL [(6,[4])]) (fun _=>[]) (fun Q=>Q AEx.ret (St.mk [(4,AV.bool ((a.l.length:Int)==(b.l.length:Int)))] [] g)) (fun _=>by kernel_rfl) (?_)⟩
   refine(retQ_le (retQ_same' _ _ rfl trivial rfl rfl rfl) (Le.of_eq ?_))
   show(AV.bool ((↑(List.length a.l):Int)==(↑(List.length b.l):Int)))=_
   congr 1
   by_cases hab:a.l.length=b.l.length
   ·have:a.l=b.l:=ext_getD 0 hab (fun j hj=>h2 j (by omega))
    simp[this]
   ·have:a.l≠b.l:=fun e=>hab (by rw[e])
    simp[this]
    omega
def stepK (s:Step):Int × List Int:=(s.rule,s.atoms.l)
theorem c_SameSteps (R:Res)(a b:KL Step)(hp:List AObj)(g:R.σ)(hl:a.l.length<1000000)(ha:∀i,(a.l.getD i default).atoms.l.length<1000000):Does Tryd.prog R 20 [encSteps a,encSteps b] hp g (.ret (.bool (decide (a.l.map stepK=b.l.map stepK)))) hp g:=by
 have key:∀(l:List Step) i,i<l.length→(l.map stepK).getD i (0,[])=stepK (l.getD i default):=fun l i hi=>by
  rw[List.getD_eq_getElem?_getD,List.getElem?_map,List.getD_eq_getElem?_getD,List.getElem?_eq_getElem hi]
  rfl
 refine does_any' (fun R g=>?_) (by exact⟨trivial,trivial,trivial⟩) R hp g
 refine spec_of_wp (nt:=49) (rs:=[.tmp 4]) (k0:=0) (by kernel_rfl) (by kernel_rfl) (by kernel_rfl) rfl ?_
 refine vcQ [] (lkL [(0,[0,1]),(1,[0,1,5])]) (fun _=>[]) (fun Q=>Wp Tryd.prog R 49 0 Rd.top (bodyOf Tryd.prog 20) [1,0,1,0] (contQ Tryd.prog R 49 0 Rd.top (bodyOf Tryd.prog 20) Q [Kont.blk 0,Kont.seq [1,1]]) (St.mk [(0,encSteps a),(1,encSteps b),(5,int i64 0)] [] g)) (fun _=>by kernel_rfl) (?_)
 refine(wp_loop (by kernel_rfl) (fun (i:Nat)=>⟨[(0,encSteps a),(1,encSteps b),(5,.int .i64 (i:Int))],[],g⟩) (fun (i:Nat)=>(i≤a.l.length∧∀j,j<i→stepK (a.l.getD j default)=stepK (b.l.getD j default))) (fun (i:Nat)=>(a.l.length-i)) 0 (to_fr ⟨Le.refl _,Le.refl _,(Le.of_eq (by kernel_rfl)),trivial⟩ rfl rfl) ?_ (fun i hi=>?_))
 ·exact⟨Nat.zero_le _,fun j hj=>absurd hj (by omega)⟩
 ·obtain⟨h1,h2⟩:=hi
  have w:=ha i
  refine vcQ [] (lkL [(2,[0,1,5,16]),(4,[0,1,5,43]),(5,[4]),(3,[0,1,5])]) (lkL [(4,[(22,ROrc.pcall (AV.bool (decide ((a.l.getD i default).atoms.l=(b.l.getD i default).atoms.l))))])]) (fun Q=>(fun (u1:Bool)=>(fun (u2:Bool)=>(fun (u3:KL Int)=>(fun (u4:KL Int)=>(fun (u5:Int)=>(u2=true→Tables.follows Tryd.prog.toTables Departure.mixedOrders=true∧(0≤u5∧u5<(a.l.length:Int))∧1≤2∧(0≤u5∧u5<(b.l.length:Int))∧1≤2∧((!u1)=true→0≤u5∧u5<(a.l.length:Int))∧((!u1)=true→1≤1)∧((!u1)=true→0≤u5∧u5<(b.l.length:Int))∧((!u1)=true→1≤1)∧((!u1)=true→∀(hp:List AObj) (g:R.σ),true=true∧Does Tryd.prog R 33 [encI u3,encI u4] hp g (ret (AV.bool (decide (u3.l=u4.l)))) hp g)∧((bif u1 then true else !decide (u3.l=u4.l))=true→Q AEx.ret (St.mk [(4,AV.bool false)] [] g))∧((bif u1 then true else !decide (u3.l=u4.l))=false→(-9223372036854775808≤u5+1∧u5+1≤9223372036854775807)∧Q AEx.normal (St.mk [(0,encSteps a),(1,encSteps b),(5,int i64 (u5+1))] [] g)))∧(u2=false→Q (AEx.exit 0) (St.mk [(0,encSteps a),(1,encSteps b),(5,int i64 u5),(16,AV.bool u2)] [] g))) ((i:Int))) ((b.l.getD i default).atoms)) ((a.l.getD i default).atoms)) (bif decide ((i:Int)<(a.l.length:Int)) then(a.l.length:Int)==(b.l.length:Int) else false)) ((a.l.getD i default).rule != (b.l.getD i default).rule)) (fun _=>by kernel_rfl) ⟨fun c1=>have c1:(i:Int)<(a.l.length:Int)∧(a.l.length:Int)=(b.l.length:Int):=⟨(of_decide_eq_true (cA_t c1).1),(beq_iff_eq.mp (cA_t c1).2)⟩;⟨by kernel_rfl,by omega,by omega,by omega,by omega,by omega,by omega,by omega,by omega,(fun hgd=>(fun _ _=>⟨rfl,(c_SameInts _ _ _ _ _ (by omega))⟩)),fun c2=>have c2:¬(a.l.getD i default).rule=(b.l.getD i default).rule∨¬(a.l.getD i default).atoms.l=(b.l.getD i default).atoms.l:=((cO_t c2).imp (fun h=>(bne_iff_ne.mp h)) (fun h=>(of_decide_eq_false ((Bool.not_eq_true' _).mp h))));?_,fun c2=>have c2:(a.l.getD i default).rule=(b.l.getD i default).rule∧(a.l.getD i default).atoms.l=(b.l.getD i default).atoms.l:=⟨(bne_eq_false_iff_eq.mp (cO_f c2).1),(of_decide_eq_true ((Bool.not_eq_false' _).mp (cO_f c2).2))⟩;⟨by omega,?_⟩⟩,fun c1=>have c1:¬(i:Int)<(a.l.length:Int)∨¬(a.l.length:Int)=(b.l.length:Int):=((cA_f c1).imp (fun h=>(of_decide_eq_false h)) (fun h=>(beq_eq_false_iff_ne.mp h)));?_⟩
  ·refine⟨_,To.refl _,(retQ_le (retQ_same' _ _ rfl trivial rfl rfl rfl) (Le.of_eq ?_))⟩
   show(AV.bool false)=_
   congr 1
   have hab:a.l.length=b.l.length:=by omega
   have:a.l.map stepK≠b.l.map stepK:=ne_getD (j:=i) (d:=(0,[])) (by
    rw[key _ _ (by omega),key _ _ (by omega)]
    intro e
    have e1:=congrArg Prod.fst e
    have e2:=congrArg Prod.snd e
    rcases c2 with h|h
    ·exact h e1
    ·exact h e2)
   simp[this]
  ·refine(next_round (i+1) (to_fr ⟨Le.refl _,Le.refl _,(Le.of_eq (by kernel_rfl)),trivial⟩ rfl rfl) ?_ ?_)
   ·refine⟨by omega,fun j hj=>?_⟩
    rcases Nat.lt_or_ge j i with h|h
    ·exact h2 j h
    ·have:j=i:=by omega
     subst this
     exact Prod.ext c2.1 c2.2
   ·omega
  ·have c:=c1
   refine⟨_,To.refl _,vcQ [] (lkL [(6,[4])]) (fun _=>[]) (fun Q=>Q AEx.ret (St.mk [(4,AV.bool ((a.l.length:Int)==(b.l.length:Int)))] [] g)) (fun _=>by kernel_rfl) (?_)⟩
   refine(retQ_le (retQ_same' _ _ rfl trivial rfl rfl rfl) (Le.of_eq ?_))
   show(AV.bool ((↑(List.length a.l):Int)==(↑(List.length b.l):Int)))=_
   congr 1
   by_cases hab:a.l.length=b.l.length
   ·have:a.l.map stepK=b.l.map stepK:=ext_getD (0,[]) (by rw[List.length_map,List.length_map,hab]) (fun j hj=>by
     rw[List.length_map] at hj
     rw[key _ _ hj,key _ _ (by omega)]
     exact h2 j (by omega))
    simp[this,hab]
   ·have:a.l.map stepK≠b.l.map stepK:=fun e=>hab (by have:=congrArg List.length e;simpa using this)
    simp[this]
    omega
end Go.Avm.Pack
namespace Go.Avm.Pack
open Go Go.Avm Go.Proofs
open Go.IntKind (i64 u64)
open Go.Avm.AV (int bool any fz fp sl ow ref fn ifc val agg tup)
open Go.Avm.AObj (cells dead)
open Go.Avm.Oc (ret)
set_option maxRecDepth 4000
def tab64:List Int:=[0,1,56,2,57,49,28,3,61,58,42,50,38,29,17,4,62,47,59,36,45,43,51,22,53,39,33,30,24,18,12,5,63,55,48,27,60,41,37,16,46,35,44,21,52,32,23,11,54,26,40,15,34,20,31,10,25,14,19,9,13,8,7,6]
abbrev gsT:List (Nat × List Int):=[(0,tab64)]
abbrev LT:Mem→Prop:=Tabs gsT
def idxT (s:Nat):Int:=Int.fdiv (IntKind.wrap .u64 (IntKind.wrap .u64 (↑(BitVec.toNat (BitVec.ofInt 64 (↑s:Int)&&&BitVec.ofInt 64 (IntKind.wrap .u64 (0-(↑s:Int))))):Int)*285870213051353865)) (2^58)
def idxK (k:Nat):Int:=Int.fdiv (IntKind.wrap .u64 (((2^k:Nat):Int)*285870213051353865)) (2^58)
theorem idxK_in {k:Nat}(hk:k<24):0≤idxK k∧idxK k<64∧tab64.getD (idxK k).toNat 0=(k:Int):=by
 have h:(List.range 24).all (fun k=>decide (0≤idxK k∧idxK k<64∧tab64.getD (idxK k).toNat 0=(k:Int)))=true:=by decide +kernel
 exact of_decide_eq_true ((List.all_eq_true.1 h) k (List.mem_range.2 hk))
theorem lt64 {s:Nat}(hs:s<2^24):s<2^64:=Nat.lt_trans hs (by decide)
theorem idxT_in {s k m:Nat}(h:s=2^k*(2*m+1))(hs:s<2^24):0≤idxT s∧idxT s<64∧tab64.getD (idxT s).toNat 0=(k:Int):=by
 have e:idxT s=idxK k:=by
  unfold idxT idxK
  rw[Tb.u64_low h (lt64 hs)]
 rw[e]
 exact idxK_in (Tb.low_lt h hs)
abbrev memS (s:Nat):List Nat:=Tb.memN 24 s
def lowS (s:Nat):Nat:=(memS s).headD 0
theorem lowS_of {s k m:Nat}(h:s=2^k*(2*m+1))(hs:s<2^24):lowS s=k:=by
 unfold lowS memS
 rw[Tb.mem_low h (Tb.low_lt h hs)]
 rfl
theorem c_TrailingZeros64 (R:Res)[Tab LT R](s:Nat)(h0:0<s)(hs:s<2^24)(g:R.σ):Does Tryd.prog R 106 [.int .u64 s] [] g (.ret (.int .i64 (lowS s))) [] g:=by
 obtain⟨k,m,h⟩:=Tb.low_of h0
 rw[lowS_of h hs]
 have hk:=Tb.low_lt h hs
 have hI:=idxT_in h hs
 refine spec_of_wp (nt:=14) (rs:=[.tmp 2]) (k0:=0) (by kernel_rfl) (by kernel_rfl) (by kernel_rfl) rfl ?_
 refine vcQ [] (lkL [(0,[0]),(1,[0,4]),(2,[2]),(3,[2])]) (lkL [(3,[(6,ROrc.kop (fp 1 fun (x:Nat)=>int IntKind.u8 (k:Int)))])]) (fun Q=>(fun (u1:Int)=>(fun (u2:Int)=>((u2==0)=true→Q AEx.ret (St.mk [(2,int i64 64)] [] g))∧((u2==0)=false→(↑0:Int)≤58∧OpOk Tryd.prog R (Oper.mk (some 11) (Op.indexAddr 164 (Operand.global 0) (Operand.tmp 10)) 0 "bits.go:105" #[Edge.mk 5 Ground.data] none) (evO [Row.mk (some 10) none (int u64 (Int.fdiv (IntKind.wrap u64 (u1*285870213051353865)) (2^58))) false (some []) [],Row.mk (some 9) none (int u64 (IntKind.wrap u64 (u1*285870213051353865))) false (some []) [],Row.mk (some 8) none (int u64 u1) false (some []) [],Row.mk (some 7) none (int u64 (IntKind.wrap u64 (0-u2))) false (some []) [],Row.mk (some 6) none (int u64 u2) false (some []) [],Row.mk (some 5) none (int u64 u2) false (some []) []] [(0,int u64 u2),(4,AV.bool (u2==0))] []) [] g (fp 1 fun (x:Nat)=>int IntKind.u8 (k:Int)) [] g∧1≤1∧Q AEx.ret (St.mk [(2,int i64 (IntKind.wrap i64 (k:Int)))] [] g))) ((s:Int))) (IntKind.wrap u64 (↑(BitVec.toNat (BitVec.ofInt 64 (s:Int)&&&BitVec.ofInt 64 (IntKind.wrap u64 (0-(s:Int))))):Int))) (fun _=>by kernel_rfl) ⟨fun c1=>have c1:(s:Int)=0:=(beq_iff_eq.mp c1);?_,fun c1=>have c1:¬(s:Int)=0:=(beq_eq_false_iff_ne.mp c1);⟨by omega,?_,by omega,?_⟩⟩
 ·exact absurd c1 (by omega)
 ·exact opOk_tabAt (gs:=gsT) 0 tab64 (by simp) rfl rfl rfl (i:=idxT s) rfl (by kernel_rfl) hI.1 (by rw[show(tab64.length:Int)=64 from rfl];exact hI.2.1) hI.2.2
 ·refine(retQ_le (retQ_same' _ _ rfl trivial rfl rfl rfl) (Le.of_eq ?_))
  show(int i64 (IntKind.wrap i64 (↑k:Int)))=_
  show AV.int .i64 _=AV.int .i64 _
  congr 1
  rw[IntKind.wrap_i64]
  omega
theorem c_one (R:Res)(a:Nat)(ha:a<25)(hp:List AObj)(g:R.σ):Does Tryd.prog R 79 [.int .i64 a] hp g (.ret (.int .u64 ((2^a:Nat):Int))) hp g:=by
 refine does_any' (fun R g=>?_) (by exact⟨trivial,trivial⟩) R hp g
 refine spec_of_wp (nt:=5) (rs:=[.tmp 2]) (k0:=0) (by kernel_rfl) (by kernel_rfl) (by kernel_rfl) rfl ?_
 refine vcQ [] (lkL [(0,[0]),(1,[2])]) (fun _=>[]) (fun Q=>0≤(a:Int)∧Q AEx.ret (St.mk [(2,int u64 (IntKind.wrap u64 (1*2^min a 64)))] [] g)) (fun _=>by kernel_rfl) ⟨by omega,?_⟩
 refine(retQ_le (retQ_same' _ _ rfl trivial rfl rfl rfl) (Le.of_eq ?_))
 show(int u64 (IntKind.wrap u64 (1*2^min a 64)))=_
 show AV.int .u64 _=AV.int .u64 _
 congr 1
 have h:(List.range 25).all (fun a=>decide (IntKind.u64.wrap (1*2^(min (a:Int).toNat 64))=((2^a:Nat):Int)))=true:=by decide +kernel
 exact of_decide_eq_true ((List.all_eq_true.1 h) a (List.mem_range.2 ha))
theorem has_bit {s a:Nat}(hs:s<2^64)(ha:a<64):(IntKind.u64.wrap ↑(BitVec.ofInt 64 ((s:Int).fdiv (2^min a 64))&&&BitVec.ofInt 64 1).toNat==1)=s.testBit a:=by
 have e:(s:Int).fdiv (2^min a 64)=((s/2^a:Nat):Int):=by
  rw[Nat.min_eq_left (by omega),Int.ofNat_fdiv]
  rfl
 have h1:s/2^a<2^64:=Nat.lt_of_le_of_lt (Nat.div_le_self _ _) hs
 rw[e,show BitVec.ofInt 64 1=BitVec.ofInt 64 ((1:Nat):Int) from rfl,Tb.u64_and h1 (by decide),Nat.and_one_is_mod,Nat.testBit_eq_decide_div_mod_eq]
 rw[Bool.eq_iff_iff,beq_iff_eq,decide_eq_true_iff]
 omega
theorem c_has (R:Res)(s a:Nat)(hs:s<2^24)(ha:a<24)(hp:List AObj)(g:R.σ):Does Tryd.prog R 71 [.int .u64 s,.int .i64 a] hp g (.ret (.bool (s.testBit a))) hp g:=by
 refine does_any' (fun R g=>?_) (by exact⟨trivial,trivial,trivial⟩) R hp g
 refine spec_of_wp (nt:=10) (rs:=[.tmp 4]) (k0:=0) (by kernel_rfl) (by kernel_rfl) (by kernel_rfl) rfl ?_
 refine vcQ [] (lkL [(0,[0,1]),(1,[4])]) (fun _=>[]) (fun Q=>0≤(a:Int)∧Q AEx.ret (St.mk [(4,AV.bool (IntKind.wrap u64 (↑(BitVec.toNat (BitVec.ofInt 64 (Int.fdiv (s:Int) (2^min a 64))&&&BitVec.ofInt 64 1)):Int)==1))] [] g)) (fun _=>by kernel_rfl) ⟨by omega,?_⟩
 refine(retQ_le (retQ_same' _ _ rfl trivial rfl rfl rfl) (Le.of_eq ?_))
 show(AV.bool (IntKind.wrap u64 (↑(BitVec.toNat (BitVec.ofInt 64 (Int.fdiv (↑s:Int) (2^min a 64))&&&BitVec.ofInt 64 1)):Int)==1))=_
 show AV.bool _=AV.bool _
 congr 1
 exact has_bit (lt64 hs) (by omega)
theorem c_all (R:Res)(n:Nat)(hn:n≤24)(hp:List AObj)(g:R.σ):Does Tryd.prog R 83 [.int .i64 n] hp g (.ret (.int .u64 ((2^n-1:Nat):Int))) hp g:=by
 refine does_any' (fun R g=>?_) (by exact⟨trivial,trivial⟩) R hp g
 refine spec_of_wp (nt:=6) (rs:=[.tmp 2]) (k0:=0) (by kernel_rfl) (by kernel_rfl) (by kernel_rfl) rfl ?_
 refine vcQ [] (lkL [(0,[0]),(1,[2])]) (lkL [(1,[(1,ROrc.pcall (int u64 (↑(2^n):Int)))])]) (fun Q=>(∀(hp:List AObj) (g:R.σ),true=true∧Does Tryd.prog R 79 [int i64 (n:Int)] hp g (ret (int u64 (↑(2^n):Int))) hp g)∧Q AEx.ret (St.mk [(2,int u64 (IntKind.wrap u64 ((↑(2^n):Int)-1)))] [] g)) (fun _=>by kernel_rfl) ⟨(fun _ _=>⟨rfl,(c_one _ _ (by omega) _ _)⟩),?_⟩
 ·refine(retQ_le (retQ_same' _ _ rfl trivial rfl rfl rfl) (Le.of_eq ?_))
  show(int u64 (IntKind.wrap u64 (2^n-1)))=_
  show AV.int .u64 _=AV.int .u64 _
  congr 1
  exact Tb.u64_sub (t:=1) (Nat.pow_lt_pow_right (by decide) (by omega)) (Nat.pow_pos (by decide))
theorem each_new (R:Res)(s:Nat)(g:R.σ):Does Tryd.prog R 77 [.int .u64 s] [] g (.ret (.fn 105 0 (nth []) 1 (nth [.ref 0 0]))) [.cells false 1 (fun _=>.int .u64 s)] g:=by
 refine spec_of_wp (nt:=4) (rs:=[.tmp 2]) (k0:=0) (by kernel_rfl) (by kernel_rfl) (by kernel_rfl) rfl ?_
 refine vcQ [] (lkL [(0,[1]),(1,[2])]) (fun _=>[]) (fun Q=>Q AEx.ret (St.mk [(2,fn 105 0 (nth []) 1 (nth [ref 0 0]))] [cells false 1 fun (a:Nat)=>int u64 (s:Int)] g)) (fun _=>by kernel_rfl) (?_)
 refine(retQ_le (retQ_same' _ _ rfl trivial rfl rfl rfl) (Le.refl _))
theorem leH_refl:∀hp:List AObj,leH hp hp
 |[]=>trivial
 |x::r=>⟨LeO.refl x,leH_refl r⟩
theorem c_each (R:Res)(s:Nat)(hp:List AObj)(g:R.σ):Does Tryd.prog R 77 [.int .u64 s] hp g (.ret (.fn 105 0 (nth []) 1 (nth [.ref hp.length 0]))) (hp++[.cells false 1 (fun _=>.int .u64 s)]) g:=
 does_sub' [] hp.length (fun R g=>each_new R s g) rfl rfl rfl trivial trivial ⟨Le.refl _,trivial⟩ (Le.fn (fun i hi=>absurd hi (Nat.not_lt_zero i)) (fun i hi=>by
  have:i=0:=by omega
  subst this
  exact Le.refl _)) (leH_refl _)
theorem stopF_at {c:Nat→Bool}{n k:Nat}(h:∀j,j<k→c j=true)(hk:k<n)(hc:c k=false):stopF c n 0=k+1:=by
 rcases stopF_cases c n 0 with⟨h1,_⟩|⟨i,_,h2,h3,h4,h5⟩
 ·rw[h1 k (by omega) (by omega)] at hc;cases hc
 ·rw[h5]
  rcases Nat.lt_trichotomy i k with hl|hl|hl
  ·rw[h i hl] at h4;cases h4
  ·rw[hl]
  ·rw[h3 k (by omega) hl] at hc;cases hc
theorem stopF_all {c:Nat→Bool}{n:Nat}(h:∀j,j<n→c j=true):stopF c n 0=n:=by
 rcases stopF_cases c n 0 with⟨_,h2⟩|⟨i,_,h2,_,h4,_⟩
 ·omega
 ·rw[h i (by omega)] at h4;cases h4
def endS (s:Nat)(c:Nat→Bool):Nat:=if (List.range (memS s).length).all c then Tb.cutN s (memS s).length else Tb.cutN s (stopF c (memS s).length 0-1)
theorem endS_at {s:Nat}{c:Nat→Bool}{k:Nat}(h:∀j,j<k→c j=true)(hk:k<(memS s).length)(hc:c k=false):endS s c=Tb.cutN s k:=by
 have e:(List.range (memS s).length).all c=false:=by
  rw[List.all_eq_false]
  exact⟨k,by simpa using hk,by simp[hc]⟩
 unfold endS
 rw[e,stopF_at h hk hc]
 rfl
theorem endS_all {s:Nat}{c:Nat→Bool}(h:∀j,j<(memS s).length→c j=true):endS s c=Tb.cutN s (memS s).length:=by
 have e:(List.range (memS s).length).all c=true:=by
  rw[List.all_eq_true]
  intro j hj
  exact h j (by simpa using hj)
 unfold endS
 rw[e]
 rfl
theorem seq_each (s:Nat)(hs:s<2^24):SeqO Tryd.prog 105 (.cells false 1 (fun _=>.int .u64 s)) (memS s).length (fun k=>[.int .i64 ((memS s).getD k 0)]) LT:=by
 refine⟨fun R _ u G c hu=>⟨[.cells false 1 (fun _=>.int .u64 (endS s c))],rfl,?_⟩⟩
 refine spec_of_wp (nt:=14) (rs:=[]) (k0:=1) (by kernel_rfl) (by kernel_rfl) (by kernel_rfl) rfl ?_
 refine vcQ [] (lkL []) (fun _=>[]) (fun Q=>Wp Tryd.prog R 14 1 Rd.top (bodyOf Tryd.prog 105) [0] (contQ Tryd.prog R 14 1 Rd.top (bodyOf Tryd.prog 105) Q [Kont.blk 0]) (St.mk [(0,val u),(1,ref 0 0)] [cells false 1 fun (x:Nat)=>int u64 (s:Int)] (G 0))) (fun _=>by kernel_rfl) (?_)
 refine(wp_loop (by kernel_rfl) (fun (k:Nat)=>⟨[(0,val u),(1,ref 0 0)],[.cells false 1 (fun _=>.int .u64 (Tb.cutN s k))],(G k)⟩) (fun (k:Nat)=>(k≤(memS s).length∧∀j,j<k→c j=true)) (fun (k:Nat)=>((memS s).length-k)) 0 (to_le ⟨Le.refl _,Le.refl _,trivial⟩ ⟨LeO.rflc,trivial⟩ rfl) ?_ (fun k hi=>?_))
 ·exact⟨Nat.zero_le _,fun j hj=>absurd hj (by omega)⟩
 ·obtain⟨h1,h2⟩:=hi
  have hlt:=Tb.cutN_lt hs k
  rcases Nat.lt_or_ge k (memS s).length with hk|hk
  ·obtain⟨m,hm⟩:=Tb.cutN_in hs hk
   have hy:=hu k hk (fun j hj=>h2 j hj)
   obtain⟨q,hq⟩:∃q,(memS s).getD k 0=q:=⟨_,rfl⟩
   rw[hq] at hy hm
   have hpos:0<Tb.cutN s k:=by
    rw[hm]
    exact Nat.mul_pos (Nat.pow_pos (by decide)) (by omega)
   have hb:(((Tb.cutN s k:Nat):Int) != 0)=true:=by
    rw[bne_iff_ne];omega
   rw[←lowS_of hm hlt] at hy
   refine vcQ [[0,0,0,1,1]] (lkL [(0,[0,1,4]),(2,[0,1,13]),(1,[0,1])]) (lkL [(2,[(2,ROrc.kcall (int i64 (↑(lowS (Tb.cutN s k)):Int))),(3,ROrc.gcall (AV.bool (c k)) (G (k+1)))]),(1,[(4,ROrc.val (Orc.obj (nth [int u64 (IntKind.wrap u64 (↑(BitVec.toNat (BitVec.ofInt 64 (↑(Tb.cutN s k):Int)&&&BitVec.ofInt 64 (IntKind.wrap u64 ((↑(Tb.cutN s k):Int)-1)))):Int))])))])]) (fun Q=>(fun (u1:Int)=>(fun (u2:AV)=>(fun (u3:List AObj)=>1≤1∧((u1 != 0)=true→1≤1∧(true=true∧Does Tryd.prog R 106 [int u64 u1] u3 (G k) (ret (int i64 (↑(lowS (Tb.cutN s k)):Int))) u3 (G k))∧VDoes Tryd.prog R u [int i64 (↑(lowS (Tb.cutN s k)):Int)] u3 (G k) (ret (AV.bool (c k))) u3 (G (k+1))∧((!c k)=true→Q AEx.ret (St.mk [(0,val u),(1,ref 0 0),(13,AV.bool !c k)] u3 (G (k+1))))∧((!c k)=false→1≤1∧1≤1∧1≤1∧(∀(c:Nat),c<1→nth [u2] c=over (fun (x:Nat)=>int u64 u1) 0 1 (fun (x:Nat)=>u2) c)∧Q AEx.normal (St.mk [(0,val u),(1,ref 0 0)] [cells false 1 (nth [u2])] (G (k+1)))))∧((u1 != 0)=false→Wp Tryd.prog R 14 1 Rd.top (bodyOf Tryd.prog 105) [0,0,0,1,1] (contQ Tryd.prog R 14 1 Rd.top (bodyOf Tryd.prog 105) Q [Kont.seq [0,0,1]]) (St.mk [(0,val u),(1,ref 0 0),(4,AV.bool (u1 != 0))] u3 (G k)))) ([cells false 1 fun (x:Nat)=>int u64 u1])) (int u64 (IntKind.wrap u64 (↑(BitVec.toNat (BitVec.ofInt 64 u1&&&BitVec.ofInt 64 (IntKind.wrap u64 (u1-1)))):Int)))) ((↑(Tb.cutN s k):Int))) (fun _=>by kernel_rfl) ⟨by omega,fun _=>⟨by omega,⟨rfl,(does_subT (T:=LT) inferInstance [] 1 (fun R _ g=>c_TrailingZeros64 R (Tb.cutN s k) (by omega) (by omega) g) rfl rfl rfl (by exact trivial) (by exact trivial) (by exact⟨le_ren (by exact trivial),trivial⟩) (by exact le_unren (by exact trivial)) (by exact⟨LeO.rflc,trivial⟩))⟩,(hy _),fun c1=>have c1:c k=false:=((Bool.not_eq_true' _).mp c1);?_,fun c1=>have c1:c k=true:=((Bool.not_eq_false' _).mp c1);⟨by omega,by omega,by omega,(fun c hc=>match c,hc with|0,_=>(by kernel_rfl) ),?_⟩⟩,fun hcc=>(nomatch (hb.symm.trans hcc))⟩
   ·rw[stopF_at h2 hk c1,endS_at h2 hk c1]
    refine⟨_,To.refl _,(retQ_le (retQ_same' _ _ rfl trivial rfl rfl rfl) (Le.refl _))⟩
   ·refine(next_round (k+1) (to_le ⟨Le.refl _,Le.refl _,trivial⟩ ⟨⟨rfl,Nat.le_refl _,fun j hj=>match j,hj with|0,_=>(Le.of_eq ?_) ⟩,trivial⟩ rfl) ?_ ?_)
    ·show AV.int .u64 _=AV.int .u64 _
     congr 1
     exact Tb.u64_cut hpos (lt64 hlt)
    ·refine⟨by omega,fun j hj=>?_⟩
     rcases Nat.lt_or_ge j k with h|h
     ·exact h2 j h
     ·have:j=k:=by omega
      subst this;exact c1
    ·omega
  ·have hk':k=(memS s).length:=by omega
   subst hk'
   have hz:=Tb.cutN_end hs
   have hb:(((Tb.cutN s (memS s).length:Nat):Int) != 0)=false:=by rw[hz];rfl
   refine vcQ [[0,0,0,1,0]] (lkL [(0,[0,1,4])]) (fun _=>[]) (fun Q=>(fun (u1:Int)=>(fun (u2:St R.σ)=>1≤1∧((u1 != 0)=true→Wp Tryd.prog R 14 1 Rd.top (bodyOf Tryd.prog 105) [0,0,0,1,0] (contQ Tryd.prog R 14 1 Rd.top (bodyOf Tryd.prog 105) Q [Kont.seq [0,0,1]]) u2)∧((u1 != 0)=false→Q (AEx.exit 0) u2)) (St.mk [(0,val u),(1,ref 0 0),(4,AV.bool (u1 != 0))] [cells false 1 fun (x:Nat)=>int u64 u1] (G ((memS s).length)))) ((↑(Tb.cutN s ((memS s).length)):Int))) (fun _=>by kernel_rfl) ⟨by omega,fun hcc=>(nomatch (hb.symm.trans hcc)),fun _=>?_⟩
   rw[stopF_all h2,endS_all h2]
   refine⟨_,To.refl _,(retQ_le (retQ_same' _ _ rfl trivial rfl rfl rfl) (Le.refl _))⟩
end Go.Avm.Pack
