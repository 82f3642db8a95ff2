/- Part 1 of the proof: lemmas. -/
import Derived.Test.YtgmjpmeddajmgaaGreatM0
namespace Go.Avm
open Go Go.WideShapes Go.ChangeShapes
def memOf (W:World):Mem:=fun b=>W.heap[b]?
theorem fmCell_memOf {W:World}{b j:Nat}{x:Value}(h:W.cell? ⟨b,j,none⟩=some x):fmCell (memOf W) b j=some x:=by
 unfold World.cell? at h
 unfold fmCell memOf
 split at h
 ·rename_i c e f hb
  rw[hb]
  simpa using h
 ·cases h
def CellsR (W:World)(n:Nat)(get:Nat→AV)(cs:List Value):Prop:=
 cs.length=n∧∀j,j<n→∃x,cs[j]? = some x∧x.oneCell'=true∧Den (memOf W) [] (get j) x
def Rea (P:Program)(t n:Nat){α:Type}(Q:α→Prop)(enc:α→Nat→AV):Prop:=
 ∀(H:Type) (en:TypeId × Value→H) (W:World) (fuel:Nat) (cs:List Value) (x:DataW H × List MemPlace),
  DataW.trod en P W 0 (fun _=>true) true fuel t cs=some x→∃a,Q a∧CellsR W n (enc a) cs
section
variable {P:Program}{t:Nat}
theorem Rea.map {α β:Type}{n:Nat}{Q:α→Prop}{enc:α→Nat→AV}{Q':β→Prop}{enc':β→Nat→AV}(h:Rea P t n Q enc)(f:α→β)(hq:∀a,Q a→Q' (f a))(he:∀a j,j<n→enc a j=enc' (f a) j):Rea P t n Q' enc':=by
 intro H en W fuel cs x hx
 obtain⟨a,h1,h2,h3⟩:=h H en W fuel cs x hx
 exact⟨f a,hq a h1,h2,fun j hj=>by rw[←he a j hj];exact h3 j hj⟩
theorem cellsR_one {W:World}{v:Value}{g:Nat→AV}(h1:v.oneCell'=true)(h2:Den (memOf W) [] (g 0) v):CellsR W 1 g [v]:=
 ⟨rfl,fun j hj=>by
  have:j=0:=by omega
  subst this
  exact⟨v,rfl,h1,h2⟩⟩
theorem rd_int {k:IntKind}(ht:P.underlying t=some (.int k)):Rea P t 1 (fun n:Int=>(Lit.int k n).wf=true) (fun n _=>.int k n):=by
 intro H en W fuel cs x hx
 obtain⟨n,rfl,_,hw⟩:=DataW.trod_int ht hx
 exact⟨n,hw,cellsR_one rfl rfl⟩
theorem rd_string (ht:P.underlying t=some .string):Rea P t 1 (fun s:ByteArray=>s.size≤maxLen) (fun s _=>.str s):=by
 intro H en W fuel cs x hx
 obtain⟨s,rfl,_,hl⟩:=DataW.trod_string ht hx
 exact⟨s,hl,cellsR_one rfl rfl⟩
def ReaF (P:Program)(fs:List Field)(o n:Nat){α:Type}(Q:α→Prop)(enc:α→Nat→AV):Prop:=
 ∀(H:Type) (en:TypeId × Value→H) (W:World) (fuel:Nat) (cs:List Value),
  (∀f∈fs,∃x:DataW H × List MemPlace,DataW.trod en P W 0 (fun _=>true) true fuel f.type ((cs.drop f.offset).take (P.cellsOf f.type))=some x) →
  ∃a,Q a∧∀j,j<n→∃x,cs[o+j]? = some x∧x.oneCell'=true∧Den (memOf W) [] (enc a j) x
theorem rdF_nil {o:Nat}:ReaF P [] o 0 (fun _:Unit=>True) (fun _ _=>.any):=
 fun _ _ _ _ _ _=>⟨(),trivial,fun j hj=>absurd hj (by omega)⟩
theorem rdF_cons {α β:Type}{f:Field}{fs:List Field}{o m n:Nat}{Q:α→Prop}{enc:α→Nat→AV}{Q':β→Prop}{enc':β→Nat→AV}
  (ho:f.offset=o) (hm:P.cellsOf f.type=m) (h:Rea P f.type m Q enc) (h':ReaF P fs (o+m) n Q' enc') :
  ReaF P (f::fs) o (m+n) (fun x:α × β=>Q x.1∧Q' x.2) (fun x j=>if j<m then enc x.1 j else enc' x.2 (j-m)):=by
 intro H en W fuel cs hx
 obtain⟨x,hx1⟩:=hx f (by simp)
 obtain⟨a,q1,l1,c1⟩:=h H en W fuel _ x hx1
 obtain⟨b,q2,c2⟩:=h' H en W fuel cs (fun g hg=>hx g (by simp[hg]))
 refine⟨(a,b),⟨q1,q2⟩,fun j hj=>?_⟩
 by_cases hjm:j<m
 ·obtain⟨y,y1,y2,y3⟩:=c1 j hjm
  refine⟨y,?_,y2,by show Den _ _ (if j<m then _ else _) _;rw[if_pos hjm];exact y3⟩
  rw[hm,ho,List.getElem?_take,if_pos hjm,List.getElem?_drop] at y1
  exact y1
 ·obtain⟨y,y1,y2,y3⟩:=c2 (j-m) (by omega)
  exact⟨y,by rw[←y1];congr 1;omega,y2,by show Den _ _ (if j<m then _ else _) _;rw[if_neg hjm];exact y3⟩
theorem rd_struct {α:Type}{fs:Array Field}{n:Nat}{Q:α→Prop}{enc:α→Nat→AV}(ht:P.underlying t=some (.struct fs))(hn:P.cellsOf t=n)(h:ReaF P fs.toList 0 n Q enc):Rea P t n Q enc:=by
 intro H en W fuel cs x hx
 obtain⟨xs,m,rfl,_,hl,hxs,hf⟩:=DataW.trod_struct ht hx
 obtain⟨a,q,c⟩:=h H en W m cs (fun f hfm=>by
  obtain⟨i,hi,hif⟩:=List.getElem_of_mem hfm
  have h1:i<fs.size:=by simpa using hi
  have h2:fs[i]? = some f:=by simp[h1,←hif]
  have:=hf i f h2
  rw[List.getElem?_eq_getElem (by omega)] at this
  exact⟨_,this⟩)
 exact⟨a,q,by rw[hl,hn],fun j hj=>by simpa using c j hj⟩
def QL {α:Type}(Q:α→Prop)(x:Fz × List α):Prop:=(∀a∈x.2,Q a)∧x.2.length≤maxLen
theorem mapM_cells {W:World}{a:Addr}:∀{l:List Nat} {cs:List Value},l.mapM (fun i=>W.cell? (a.add i))=some cs→∀i,i<l.length→W.cell? (a.add (l.getD i 0))=cs[i]?
 |[],_,_,i,hi=>by simp at hi
 |x::r,cs,h,i,hi=>by
  simp only[List.mapM_cons,Option.bind_eq_bind,Option.bind_eq_some_iff,Option.pure_def,Option.some.injEq] at h
  obtain⟨y,h1,ys,h2,rfl⟩:=h
  cases i with
  |zero=>simpa using h1
  |succ i=>simpa using mapM_cells h2 i (by simpa using hi)
theorem cells_at {W:World}{base:Nat}{a:Addr}{n:Nat}{cs:List Value}(h:W.cells? base a n=some cs){j:Nat}(hj:j<n):W.cell? (a.add j)=cs[j]?:= by
 unfold World.cells? at h
 split at h
 ·have:=mapM_cells h j (by simpa using hj)
  simpa[List.getD,hj] using this
 ·cases h
theorem add_add (a:Addr)(i j:Nat):(a.add i).add j=a.add (i+j):=by
 unfold Addr.add
 by_cases hi:i=0
 ·subst hi;simp
 ·by_cases hj:j=0
  ·subst hj;simp
  ·rw[if_neg hi,if_neg hj,if_neg (by omega),Nat.add_assoc]
theorem rd_slice {α:Type}[Inhabited α]{e n:Nat}{Q:α→Prop}{enc:α→Nat→AV}(ht:P.underlying t=some (.slice e))(hc:P.cellsOf e=n)(hn:0<n)(h:Rea P e n Q enc) :
  Rea P t 1 (QL Q) (fun x _=>.fz x.1 n x.2.length (fun i=>enc (x.2.getD i default))):=by
 intro H en W fuel cs x hx
 rcases DataW.trod_slice ht hx with⟨rfl,_⟩|⟨a,len,cap,elems,rest,m,rfl,rfl,_,_,hlc,hcm,hel,hat,_,_⟩
 ·refine⟨(.nil,[]),⟨fun a ha=>(by cases ha),Nat.zero_le _⟩,cellsR_one rfl ?_⟩
  exact⟨fun _=>⟨rfl,none,0,rfl,rfl,rfl⟩,fun h=>(by cases h)⟩
 ·by_cases h0:len=0
  ·subst h0
   refine⟨(.may,[]),⟨fun a ha=>(by cases ha),Nat.zero_le _⟩,cellsR_one rfl ?_⟩
   exact⟨fun _=>⟨rfl,some a,cap,rfl,fun h=>(by cases h)⟩,fun h=>(by cases h)⟩
  ·have key:∀i,∃y:α,i<len→Q y∧∀j,j<n→∃x,W.cell? (a.add (i*n+j))=some x∧x.oneCell'=true∧Den (memOf W) [] (enc y j) x:=by
    intro i
    by_cases hi:i<len
    ·have h1:=hat i hi
     rw[List.getElem?_eq_getElem (by omega),hc] at h1
     obtain⟨ci,e1,e2⟩:=Option.bind_eq_some_iff.1 h1
     obtain⟨y,q,l1,c1⟩:=h H en W m ci _ e2
     refine⟨y,fun _=>⟨q,fun j hj=>?_⟩⟩
     obtain⟨x,x1,x2,x3⟩:=c1 j hj
     have:=cells_at e1 hj
     rw[x1] at this
     refine⟨x,?_,x2,x3⟩
     rw[←this,add_add]
    ·exact⟨default,fun h=>absurd h hi⟩
   let f:Nat→α:=fun i=>Classical.choose (key i)
   have hf:∀i,i<len→Q (f i)∧∀j,j<n→∃x,W.cell? (a.add (i*n+j))=some x∧x.oneCell'=true∧Den (memOf W) [] (enc (f i) j) x:=fun i=>Classical.choose_spec (key i)
   have hll:((List.range len).map f).length=len:=by simp
   have hget:∀i,i<len→((List.range len).map f).getD i default=f i:=fun i hi=>by simp[List.getD,hi]
   obtain⟨b,off,sp⟩:=a
   have hsp:sp=none:=by
    obtain⟨x,x1,_⟩:=(hf 0 (by omega)).2 0 hn
    simpa[Addr.add] using World.cell?_spot x1
   subst hsp
   refine⟨(.opn,(List.range len).map f),⟨fun y hy=>?_,by simp only[hll];omega⟩,cellsR_one rfl ?_⟩
   ·obtain⟨i,hi,rfl⟩:=List.mem_map.1 hy
    exact(hf i (by simpa using hi)).1
   ·refine⟨fun h=>(by cases h),fun _=>⟨b,off,cap,by rw[hll],by rw[hll];exact hlc,fun h=>(by rcases h with h|h <;> cases h),fun i j hi hj=>?_⟩⟩
    rw[hll] at hi
    obtain⟨x,x1,x2,x3⟩:=(hf i hi).2 j hj
    refine⟨x,fmCell_memOf (by rw[←x1,add_plain,Nat.add_assoc]),x2,?_⟩
    show Den _ _ (enc (((List.range len).map f).getD i default) j) x
    rw[hget i hi]
    exact x3
def Arg (P:Program)(t:TypeId){α:Type}(Q:α→Prop)(A:α→AV):Prop:=
 ∀(H:Type) (en:TypeId × Value→H) (W:World) (base:Nat) (v:Value) (d:DataW H) (ps:List MemPlace),
  Value.okWide P W .any base t v→DataW.Trod en P W 0 (fun _=>true) true t v d ps→∃a,Q a∧Den (memOf W) [] (A a) v
theorem cellsR_head {W:World}{g:Nat→AV}{v:Value}(h:CellsR W 1 g [v]):Den (memOf W) [] (g 0) v:=by
 obtain⟨x,h1,_,h2⟩:=h.2 0 (by omega)
 simp at h1
 subst h1
 exact h2
theorem arg_slice {α:Type}{e:TypeId}{Q:α→Prop}{enc:α→Nat→AV}(ht:P.underlying t=some (.slice e))(h:Rea P t 1 Q enc):Arg P t Q (fun a=>enc a 0):=by
 intro H en W base v d ps hok ⟨fuel,hx⟩
 obtain⟨a,l,c,rfl⟩:=okWide_slice ht hok
 obtain⟨y,q,hc⟩:=h H en W fuel _ _ hx
 exact⟨y,q,cellsR_head hc⟩
theorem arg_int {α:Type}{k:IntKind}{Q:α→Prop}{enc:α→Nat→AV}(ht:P.underlying t=some (.int k))(h:Rea P t 1 Q enc):Arg P t Q (fun a=>enc a 0):=by
 intro H en W base v d ps hok ⟨fuel,hx⟩
 obtain⟨n,rfl⟩:=okWide_int ht hok
 obtain⟨y,q,hc⟩:=h H en W fuel _ _ hx
 exact⟨y,q,cellsR_head hc⟩
theorem arg_struct {α:Type}{fs:Array Field}{n:Nat}{Q:α→Prop}{enc:α→Nat→AV}(ht:P.underlying t=some (.struct fs))(h:Rea P t n Q enc):Arg P t Q (fun a=>.agg n (enc a)):=by
 intro H en W base v d ps hok ⟨fuel,hx⟩
 obtain⟨cs,rfl,hcs⟩:=okWide_struct ht hok
 obtain⟨y,q,hl,hc⟩:=h H en W fuel _ _ hx
 have hl':cs.size=n:=by simpa[Value.cells] using hl
 refine⟨y,q,cs,rfl,hl',fun j hj=>?_⟩
 obtain⟨x,h1,h2,h3⟩:=hc j hj
 have:cs.getD j undef=x:=by
  have h1:cs[j]? = some x:=by simpa[Value.cells] using h1
  simp[Array.getD_eq_getD_getElem?,h1]
 rw[this]
 exact⟨h2,h3⟩
def ArgsOk (P:Program)(ts:List TypeId)(X:List AV→Prop):Prop:=
 ∀(H:Type) (en:TypeId × Value→H) (W:World) (base:Nat) (vs:List Value) (ds:List (DataW H)) (ps:List MemPlace),
  (∀(j:Nat) (t:TypeId) (v:Value),ts[j]? = some t→vs[j]? = some v→Value.okWide P W .any base t v)→DataW.TrodAll en P W 0 (fun _=>true) true ts vs ds ps →
  ∃avs:List AV,X avs∧vs.length=avs.length∧∀i,i<avs.length→Den (memOf W) [] (nth avs i) (vs.getD i undef)
theorem args_nil:ArgsOk P [] (fun l=>l=[]):=by
 intro H en W base vs ds ps _ h
 obtain⟨rfl,rfl,rfl⟩:=trodAll_nil h
 exact⟨[],rfl,rfl,fun i hi=>absurd hi (by simp)⟩
theorem args_cons {α:Type}{ts:List TypeId}{Q:α→Prop}{A:α→AV}{X:List AV→Prop}(h:Arg P t Q A)(h':ArgsOk P ts X):ArgsOk P (t::ts) (fun l=>∃a,Q a∧∃r,X r∧l=A a::r):=by
 intro H en W base vs ds ps hok hT
 obtain⟨v,vs',d,ds',p,q,rfl,rfl,rfl,h1,h2⟩:=trodAll_cons hT
 obtain⟨a,qa,da⟩:=h H en W base v d p (hok 0 t v rfl rfl) h1
 obtain⟨r,xr,lr,dr⟩:=h' H en W base vs' ds' q (fun j u w hu hw=>hok (j+1) u w hu hw) h2
 refine⟨A a::r,⟨a,qa,r,xr,rfl⟩,by simp[lr],fun i hi=>?_⟩
 cases i with
 |zero=>exact da
 |succ i=>exact dr i (by simpa using hi)
end
section
variable {H:Type}{enc:TypeId × Value→H}{P:Program}
theorem post_of_below {f:Func}{s:ChangeSpec}{apart fresh handsOn again:Bool}{W W':World}{args:Array Value}{v:Value}{ds gs:List (DataW H)}{before pa pv:List MemPlace}
  (hW:DataW.Whole enc P f.params.toList s.vars apart W args.toList ds gs before)
  (hres:∀(b:Nat) (sp:Nat→Bool) (hd:Bool),DataW.TrodAll enc P W' b sp hd f.resultTypes.toList (v.resultList f.resultTypes.size) (s.fn H (ds++gs)).results [])
  (hargs:∀sp:Nat→Bool,(∀p∈before,sp p.block=true)→DataW.TrodAll enc P W' 0 sp true f.params.toList args.toList (s.fn H (ds++gs)).args pa)
  (hvars:∀sp:Nat→Bool,(∀p∈before,sp p.block=true)→DataW.TrodVars enc P W' sp s.vars (s.fn H (ds++gs)).vars pv)
  (hps:before=pa++pv) (hb:RowKit.Below W.heap.size W W')
  (hok:∀(j:Nat) (t:TypeId) (r:Value),f.resultTypes[j]? = some t→(v.resultList f.resultTypes.size)[j]? = some r→Value.okWide P W' .any 0 t r) :
  s.post enc P f apart fresh handsOn again W args v W':=by
 have hlt:∀p∈before,p.block<W.heap.size:=fun p hp=>hW.lt p hp
 have hold:∀p∈before,(fun b=>decide (b<W.heap.size)) p.block=true:=fun p hp=>by simpa using hlt p hp
 refine⟨ds,gs,before,[],pa,pv,hW,hres _ _ _,hargs _ hold,hvars _ hold,World.keptBut_mono (fun p hp=>⟨hp,?_⟩) (hb.frame (·∈before)),fun _=>?_⟩
 ·rw[hps,List.mem_append] at hp
  exact Or.inr hp
 ·obtain⟨_,_,_,_,_,hz,hn⟩:=hW
  refine⟨hok,_,_,([]++pa)++pv,⟨[]++pa,pv,trodAll_append (hargs _ (fun _ _=>rfl)) (hres _ _ _),hvars _ (fun _ _=>rfl),rfl,?_,?_⟩,?_⟩
  ·intro b off hp
   have hin:MemPlace.cell b off∈before:=by rw[hps];simpa using hp
   rw[hb.frozen (hlt _ hin)]
   exact hz b off hin
  ·intro ha
   have:=hn ha
   rw[hps] at this
   simpa using this
  ·intro p hp _
   rw[hps]
   simpa using hp
theorem same_below {W W':World}(hb:RowKit.Below W.heap.size W W'){p:MemPlace}(hp:p.block<W.heap.size):W.sameAt W' p:=by
 cases p with
 |cell b off=>exact hb.cell (p:=⟨b,off,none⟩) hp
 |map b=>exact hb.block b hp
theorem trodAll_stays {W W':World}{sp:Nat→Bool}(hl:laidOutB P=true):∀{ts:List TypeId} {vs:List Value} {ds:List (DataW H)} {ps:List MemPlace},
  (∀t∈ts,P.readableRec t=true∧t<P.types.size)→DataW.TrodAll enc P W 0 (fun _=>true) true ts vs ds ps→(∀p∈ps,W.sameAt W' p)→(∀p∈ps,sp p.block=true)→DataW.TrodAll enc P W' 0 sp true ts vs ds ps
 |[],_,_,_,_,h,_,_=>by
  obtain⟨rfl,rfl,rfl⟩:=trodAll_nil h
  exact rfl
 |t::ts,_,_,_,hr,h,h1,h2=>by
  obtain⟨v,vs,d,ds,p,q,rfl,rfl,rfl,⟨fuel,hx⟩,hT⟩:=trodAll_cons h
  obtain⟨r1,r2⟩:=hr t (by simp)
  refine⟨p,q,⟨fuel,?_⟩,trodAll_stays hl (fun u hu=>hr u (by simp[hu])) hT (fun x hx=>h1 x (by simp[hx])) (fun x hx=>h2 x (by simp[hx])),rfl⟩
  exact DataW.trod_stays (kids_book hl r1) (book_sized r1) (fun h=>by cases h) ⟨r2,book_self t⟩ hx (fun x hx=>h1 x (by simp[hx])) (fun x hx=>h2 x (by simp[hx]))
theorem law_returns {a:Assume}{C:Checked}{os:Os}{f:FuncId}{fn:Func}{s:ChangeSpec}{conds:List PathCond}{apart fresh handsOn again:Bool}{tb:TypeId}{X:List AV→Prop}
  (own:ownKnob C.prog.godebug=none) (started:os.Started) (noInit:C.prog.inits.idxOf? f=none) (hfn:C.prog.funcs[f]? = some fn)
  (witness:∃(w:World) (tape:Tape) (i:Input),w.os=os∧(w.forCall tape i).Shaped C.prog∧i.vars=[]∧Input.okWide C.prog (w.forCall tape i) .any w.heap.size f i ∧
   s.pre6 enc C.prog fn conds apart (w.forCall tape i).memory i.args∧a.holds C.prog (lone (Frame.enter C.prog f i.args .normal) [] (w.forCall tape i)))
  (hvars:s.vars=[]) (hspec:∀ds:List (DataW H),ds.length=fn.params.size→s.fn H ds={ results:=[.lit (.bool true)],args:=ds })
  (hl:laidOutB C.prog=true) (hr:∀t∈fn.params.toList,C.prog.readableRec t=true∧t<C.prog.types.size)
  (hres:fn.resultTypes=#[tb]) (hb:C.prog.underlying tb=some .bool)
  (hargs:ArgsOk C.prog fn.params.toList X) (hdoes:∀avs,X avs→Does C.prog Res.none f avs [] () (.ret (.bool true)) [] ()) :
  ReturnsInHanded a C os f .any (s.pre6 enc C.prog fn conds apart) (s.post enc C.prog fn apart fresh handsOn again):=by
 refine returnsInHanded_of_change own started noInit hfn witness (fun W base args ds gs before hval hW _ _=>?_)
 have hW':=hW
 obtain⟨p,q,hA,hV,rfl,hz,hn⟩:=hW
 rw[hvars] at hV
 obtain⟨rfl,rfl⟩:=trodVars_none hV
 obtain⟨avs,hX,hlen,hden⟩:=hargs H enc W base args.toList ds p (fun j t v h1 h2=>hval j t v (by simpa using h1) (by simpa using h2)) hA
 have hlt:∀x∈p,x.block<W.heap.size:=fun x hx=>hW'.lt x (by simp[hx])
 have hdl:ds.length=fn.params.size:=by
  have:∀{ts:List TypeId} {vs:List Value} {ds:List (DataW H)} {ps:List MemPlace},DataW.TrodAll enc C.prog W 0 (fun _=>true) true ts vs ds ps→ds.length=ts.length:=by
   intro ts
   induction ts with
   |nil=>
    intro vs ds ps h
    obtain⟨_,rfl,_⟩:=trodAll_nil h
    rfl
   |cons t ts ih=>
    intro vs ds ps h
    obtain⟨v,vs,d,ds,p,q,rfl,rfl,rfl,_,hT⟩:=trodAll_cons h
    simp[ih hT]
  have:=this hA
  simpa using this
 have hok:Ok Res.none [] () (memOf W) [] W:=⟨⟨fun b o h=>h,rfl,fun i p h=>(by simp at h),fun i j p q h=>(by simp at h)⟩,trivial,fun b h=>absurd h (by simp[Res.none])⟩
 refine((hdoes avs hX).h (memOf W) [] W args hok ⟨by simpa using hlen,fun i hi=>by
  have:=hden i hi
  simpa[List.getD,Array.getD_eq_getD_getElem?] using this⟩).mono fun e W' ⟨FM',ρ',⟨v,he,hv⟩,_,hg⟩=>⟨v,he,?_⟩
 have hv:v=.bool true:=hv
 subst hv
 have hbel:RowKit.Below W.heap.size W W':=⟨hg.ext.os,hg.ext.tape,hg.ext.output,hg.ext.size,fun k hk=>hg.ext.keep k hk (fun ⟨p,hp,_⟩=>by cases hp) (fun h=>h)⟩
 have hsp:s.fn H (ds++[])={ results:=[.lit (.bool true)],args:=ds }:=by rw[List.append_nil];exact hspec ds hdl
 refine post_of_below (pa:=p) (pv:=[]) hW' (fun b sp hd=>?_) (fun sp hs=>?_) (fun sp _=>?_) rfl hbel (fun j t r h1 h2=>?_)
 ·rw[hsp,hres]
  exact⟨[],[],⟨1,by simp[DataW.trod,Value.cells,hb]⟩,rfl,rfl⟩
 ·rw[hsp]
  exact trodAll_stays hl hr hA (fun x hx=>same_below hbel (hlt x hx)) (fun x hx=>hs x (by simp[hx]))
 ·rw[hsp,hvars]
  exact rfl
 ·rw[hres] at h1 h2
  have hj:j=0:=by
   cases j with
   |zero=>rfl
   |succ j=>simp at h1
  subst hj
  simp at h1
  subst h1
  simp[Value.resultList] at h2
  subst h2
  simp[Value.okWide,hb,Cell.okWide,Cell.ok]
end
end Go.Avm
namespace Go.Avm
open Go
end Go.Avm
namespace Go.Avm
open Go Go.WideShapes Go.ChangeShapes
def Tabs (gs:List (Nat × List Int))(FM:Mem):Prop:=∀b zs,(b,zs)∈gs→∀i,i<zs.length→fmCell FM b i=some (.int .u8 (zs.getD i 0))
theorem tabs_mono {gs:List (Nat × List Int)}{FM FM':Mem}(h:∀b o,FM b=some o→FM' b=some o)(ht:Tabs gs FM):Tabs gs FM':=fun b zs hm i hi=>fmCell_mono h (ht b zs hm i hi)
def Res.tab (gs:List (Nat × List Int)):Res:=⟨Unit,fun _ _=>False,fun _ FM _=>Tabs gs FM,fun h k=>tabs_mono k.fm h⟩
instance (gs:List (Nat × List Int)):Tab (Tabs gs) (Res.tab gs):=⟨fun h=>h⟩
section
variable {H:Type}{enc:TypeId × Value→H}{P:Program}
end
end Go.Avm
namespace Go.Avm
open Go
structure SeqO (P:Program)(f:FuncId)(o:AObj)(N:Nat)(items:Nat→List AV)(T:Mem→Prop:=fun _=>True):Prop where
 h:∀(R:Res) [Tab T R] (u:Value) (G:Nat→R.σ) (c:Nat→Bool),
  (∀k,k<N→(∀j,j<k→c j=true)→∀hpo,VDoes P R u (items k) hpo (G k) (.ret (.bool (c k))) hpo (G (k+1))) →
  ∃hp',hp'.length=1∧Does P R f [.val u,.ref 0 0] [o] (G 0) (.ret (.tup 0 (nth []))) hp' (G (stopF c N 0))
def belowO (k:Nat):AObj→Prop
 |.cells _ n get=>∀j,j<n→Below k (get j)
 |.mapo es=>∀e,e∈es→Below k e.2
 |.gen _=>False
 |_=>True
section
variable {P:Program}{R:Res}
end
end Go.Avm
namespace Go.Avm
open Go
variable {P:Program}{R:Res}
end Go.Avm
namespace Go.Avm
open Go
variable {P:Program}{R:Res}
end Go.Avm
namespace Go.Avm
open Go
section
variable {P:Program}{R:Res}
def esIs (P:Program)(t es:Nat):Bool:=match elemSize (tyOf P) t with
 |some (s,_)=>Nat.beq s es
 |none=>false
theorem esIs_of {t es:Nat}(h:esIs P t es=true):∃ei,elemSize (tyOf P) t=some (es,ei):=by
 unfold esIs at h
 split at h
 ·rename_i s ei he
  have:=Nat.eq_of_beq_eq_true h
  subst this
  exact⟨ei,he⟩
 ·cases h
theorem opOk_copy {o:Oper}{ev:Operand→AV}{hp:List AObj}{g:R.σ}{t es N n len:Nat}{k:Call}{d x:Operand}{ob off cap:Nat}{ex:Bool}{get0 get':Nat→AV}{new:Nat→Nat→AV}{ob1:List Prop}(m:Nat)
  (ho:o.op=.call k) (hk:k.callee=.builtin .copy) (ha:k.args=#[d,x]) (ht:k.argTypes=#[t,t]) (hd:ev d=.sl ob off len cap ex es) (hob:getO hp ob=.cells false N get0) (hes1:esIs P t es=true)
  (hx:sliceCells hp es (ev x)=some (n,new,ob1)) (h1:AllP ob1) (hm:m=min n len) (hm0:0<m) (hes:0<es) (hN:off+len*es≤N)
  (hg:∀c,c<N→get' c=if off≤c∧c<off+m*es then new ((c-off)/es) ((c-off)%es) else get0 c) :
  OpOk P R o ev hp g (.int .i64 m) (setO hp ob (.cells false N get')) g:=by
 obtain⟨ei,hei⟩:=esIs_of hes1
 refine⟨fun FM ρ w evc ok hop=>?_⟩
 have hdd:=hop d (by simp[ho,Op.operands,Call.operands,ha])
 have hdx:=hop x (by simp[ho,Op.operands,Call.operands,ha])
 obtain⟨e,ti,hti,hds,hee,hse⟩:=elemSize_ok hei
 have hu:=hti.und
 rw[hds] at hu
 obtain⟨inf,hi1,hi2,hi3,z,hz0,hzs,_,_,hone⟩:=hee.info
 rw[hd] at hdd
 obtain⟨q,cap',hq,hdv,hcap,_,hfit⟩:=hdd
 obtain⟨a,c,vs,x1,x2,x3,x4,x5,x6⟩:=slice_read ok.rel hx hes h1 hdx
 have hmn:m≤n:=by omega
 have hml:m≤len:=by omega
 have hmes:m*es≤n*es:=Nat.mul_le_mul_right _ hmn
 have hmes2:m*es≤len*es:=Nat.mul_le_mul_right _ hml
 have hpos:0<N:=Nat.lt_of_lt_of_le (Nat.mul_pos hm0 hes) (by omega)
 obtain⟨_,hobj'⟩:=ok.rel.obj ob q hq
 rw[hob] at hobj'
 obtain⟨cur,e',hcur,hN',hcsz,hcells,_,hfn⟩:=hobj' hpos
 cases a with
 |none=>have:=x5 rfl;omega
 |some a=>
  obtain⟨ys,hys⟩:∃ys,ys=vs.take (m*es):=⟨_,rfl⟩
  have yl:ys.length=m*es:=by rw[hys,List.length_take];omega
  have yg:∀j,j<m*es→ys[j]? = vs[j]?:= fun j hj=>by rw[hys,List.getElem?_take,if_pos hj]
  have yd:∀j,j<m*es→ys.getD j undef=vs.getD j undef:=fun j hj=>by rw[List.getD_eq_getElem?_getD,List.getD_eq_getElem?_getD,yg j hj]
  have yc:∀j u,ys[j]? = some u→w.cell? (a.add j)=some u:=fun j u hj=>by
   have hlt:j<m*es:=by rw[←yl];exact(List.getElem?_eq_some_iff.1 hj).1
   exact x3 a rfl j u (by rw[←yg j hlt];exact hj)
  have y1:∀u∈ys,u.oneCell'=true:=fun u hu=>x4 u (by rw[hys] at hu;exact List.mem_of_mem_take hu)
  have hf:=run_firstCells_some (P:=P) w inf.size m a n c ys (by rw[hi2,←hse];exact yl) yc
  have hst:=run_storeCells_at P q.1 (q.2.1+off) e' ys 0 cur w hcur (by rw[yl];omega) y1
  simp only[Nat.add_zero] at hst
  have hwr:=Wrote.setRow hcur (cur.toList.take (q.2.1+off)++ys++cur.toList.drop (q.2.1+off+ys.length)).toArray
  have hfit2:q.2.1+off+ys.length≤cur.toList.length:=by rw[yl];simp;omega
  obtain⟨b1,b2⟩:=hrel_set ok.rel hq hob hpos hwr (by rw[List.size_toArray,length_written _ _ _ hfit2];simpa using hcsz) (n:=N) (get:=get') (by rw[List.size_toArray,length_written _ _ _ hfit2];simp;omega) (fun j hj=>by
   rw[getD_written _ _ _ hfit2,hg j hj,yl]
   by_cases hin:off≤j∧j<off+m*es
   ·rw[if_pos hin,if_pos (by omega)]
    have e2:q.2.1+j-(q.2.1+off)=j-off:=by omega
    rw[e2,yd _ (by omega)]
    refine⟨?_,x6 _ (by omega)⟩
    rw[List.getD_eq_getElem?_getD,List.getElem?_eq_getElem (by omega),Option.getD_some]
    exact x4 _ (List.getElem_mem _)
   ·rw[if_neg hin,if_neg (by omega)]
    obtain⟨u,u1,u2,u3⟩:=hcells j hj
    have:cur.toList.toArray.getD (q.2.1+j) undef=u:=by
     rw[Array.getD_eq_getD_getElem?,Array.toArray_toList,u1];rfl
    rw[this]
    exact⟨u2,u3⟩)
  obtain⟨c1,c2⟩:=own_step ok b1 b2 (Sub.refl _)
  refine⟨.value (.int .i64 m),_,FM,ρ,_,?_,rfl,rfl,c1,c2⟩
  have hmm:Nat.min n len=m:=hm.symm
  simp[execOp,ho,resolve,hk,ha,ht,invoke,builtin,hdv,x1,Builtin.copy_,Builtin.lenOf,run_underlying hu,sizeOf,typeInfo,hi1,hmm,hf,hst,goInt]
theorem Le.ow_sl {x:Bool}{o n es:Nat}(h:n≠0):Le (.ow x o n es) (.sl o 0 n n false es):=by
 intro FM ρ v hv
 obtain⟨p,cap',h1,h2,h3,h4⟩:=hv.2 h
 exact⟨p,cap',h1,h2,h3,fun h=>(by cases h),by omega⟩
end
end Go.Avm
namespace Go.Avm.Tb
open Go
end Go.Avm.Tb
namespace Go.Avm
open Go Go.Maps
section
variable {P:Program}{R:Res}
end
end Go.Avm
namespace Go.Avm
open Go Go.Maps
section
variable {P:Program}{R:Res}
structure MapPut (es es':List (Value × AV))(kv:Value)(d:AV):Prop where
 new:(∀e∈es,e.1≠kv)→es'=es++[(kv,d)]
 set:(∃e∈es,e.1=kv)→es'.length=es.length∧∀(i:Nat) (k:Value) (v:AV),es'[i]? = some (k,v)→(k=kv∧v=d∧∃v0,es[i]? = some (k,v0))∨(k≠kv∧es[i]? = some (k,v))
 inj:∀(i j:Nat) (k:Value) (v v':AV),es[i]? = some (k,v)→es[j]? = some (k,v')→i=j
end
end Go.Avm
namespace Go.Avm
open Go
section
variable {P:Program}{R:Res}
end
end Go.Avm
namespace Go.Avm
open Go
section
variable {P:Program}{R:Res}
theorem leH_of_get:∀{hp hp':List AObj},hp.length=hp'.length→(∀i,LeO (getO hp i) (getO hp' i))→leH hp hp'
 |[],[],_,_=>trivial
 |_::_,_::_,h,k=>⟨k 0,leH_of_get (by simpa using h) (fun i=>k (i+1))⟩
 |[],_::_,h,_=>by simp at h
 |_::_,[],h,_=>by simp at h
end
end Go.Avm
namespace Go.Avm
open Go
section
variable {P:Program}{R:Res}
def FzTo (hp:List AObj)(k m:Nat)(v v':AV):Prop:=∀(FM FM':Mem) (ρ:Plc) (w:World),HRel FM ρ hp w→(∀b o,FM b=some o→FM' b=some o) →
 (∀i p,k≤i→ρ[i]? = some p→isLive (getO hp i)=true→FM' p.1=w.heap[p.1]?)→∀u,Den FM ρ v u→Den FM' (ρ.take m) v' u
theorem FzTo.below {hp:List AObj}{k m:Nat}{v:AV}(h:Below m v):FzTo hp k m v v:=fun _ _ ρ _ _ hm _ _ hd=>den_below _ (Den.mono hm _ (Sub.refl ρ) hd) h
theorem FzTo.le {hp:List AObj}{k m:Nat}{v v' v'':AV}(h:FzTo hp k m v v')(hl:Le v' v''):FzTo hp k m v v'':=fun FM FM' ρ w h1 h2 h3 u hu=>hl _ _ _ (h FM FM' ρ w h1 h2 h3 u hu)
theorem FzTo.tup {hp:List AObj}{k m n:Nat}{f f':Nat→AV}(h:∀j,j<n→FzTo hp k m (f j) (f' j)):FzTo hp k m (.tup n f) (.tup n f'):=by
 rintro FM FM' ρ w h1 h2 h3 u ⟨cs,e1,e2,e3⟩
 exact⟨cs,e1,e2,fun j hj=>h j hj FM FM' ρ w h1 h2 h3 _ (e3 j hj)⟩
theorem FzTo.agg {hp:List AObj}{k m n:Nat}{f f':Nat→AV}(h:∀j,j<n→FzTo hp k m (f j) (f' j)):FzTo hp k m (.agg n f) (.agg n f'):=by
 rintro FM FM' ρ w h1 h2 h3 u ⟨cs,e1,e2,e3⟩
 exact⟨cs,e1,e2,fun j hj=>⟨(e3 j hj).1,h j hj FM FM' ρ w h1 h2 h3 _ (e3 j hj).2⟩⟩
theorem live_pos {n:Nat}{fr:Bool}{c:Nat→AV}(h:0<n):isLive (.cells fr n c)=true:=by simpa[isLive] using h
theorem fz_cells {hp:List AObj}{k o N:Nat}{c get:Nat→AV}{fr:Bool}(ho:getO hp o=.cells fr N c)(hk:k≤o)(hc:∀j,j<N→FzTo hp k 0 (c j) (get j)){FM FM':Mem}{ρ:Plc}{w:World}(h1:HRel FM ρ hp w)(h2:∀b o,FM b=some o→FM' b=some o)
  (h3:∀i p,k≤i→ρ[i]? = some p→isLive (getO hp i)=true→FM' p.1=w.heap[p.1]?) {q:Nat × Nat × Nat} (hq:ρ[o]? = some q) {j:Nat} (hj:j<N):∃x,fmCell FM' q.1 (q.2.1+j)=some x∧x.oneCell'=true∧Den FM' [] (get j) x:=by
 obtain⟨_,g2⟩:=h1.obj o q hq
 rw[ho] at g2
 obtain⟨cs,ty,f1,f2,f3,f4,_⟩:=g2 (by omega)
 obtain⟨y,y1,y2,y3⟩:=f4 j hj
 have hFM:=h3 o q hk hq (by rw[ho];exact live_pos (by omega))
 refine⟨y,?_,y2,?_⟩
 ·unfold fmCell
  rw[hFM,f1]
  exact y1
 ·have:=hc j hj FM FM' ρ w h1 h2 h3 y y3
  simpa using this
theorem FzTo.ow {hp:List AObj}{k m o n e N:Nat}{x:Bool}{c get:Nat→AV}{fr:Bool}(ho:getO hp o=.cells fr N c)(hk:k≤o)(hN:n*e≤N)(he:0<e)(hc:∀j,j<N→FzTo hp k 0 (c j) (get j)):FzTo hp k m (.ow x o n e) (.fz (bif x then .auto else .may) e n (fun i j=>get (i*e+j))):=by
 rintro FM FM' ρ w h1 h2 h3 u ⟨d1,d2⟩
 have hcell:∀(q:Nat × Nat × Nat),ρ[o]? = some q→∀i j,i<n→j<e→∃y,fmCell FM' q.1 (q.2.1+i*e+j)=some y∧y.oneCell'=true∧Den FM' [] (get (i*e+j)) y:=fun q hq i j hi hj=>by
  have:(i+1)*e≤n*e:=Nat.mul_le_mul_right _ hi
  rw[Nat.add_mul] at this
  have:=fz_cells ho hk hc h1 h2 h3 hq (j:=i*e+j) (by omega)
  rwa [←Nat.add_assoc] at this
 by_cases hn:n=0
 ·obtain⟨a,rfl,ha⟩:=d1 hn
  subst hn
  cases x with
  |true=>exact⟨fun _=>⟨rfl,a,0,rfl,ha rfl,rfl⟩,fun h=>by cases h⟩
  |false=>exact⟨fun _=>⟨rfl,a,0,rfl,fun _=>rfl⟩,fun h=>by cases h⟩
 ·obtain⟨q,cap',hq,rfl,b2,b3⟩:=d2 hn
  cases x with
  |true=>exact⟨fun h=>absurd (Nat.eq_of_beq_eq_true h) hn,fun _=>⟨q.1,q.2.1,cap',rfl,b2,fun h=>(by rcases h with h|h <;> cases h),hcell q hq⟩⟩
  |false=>exact⟨fun h=>absurd (Nat.eq_of_beq_eq_true h) hn,fun _=>⟨q.1,q.2.1,cap',rfl,b2,fun h=>(by rcases h with h|h <;> cases h),hcell q hq⟩⟩
theorem FzTo.sl {hp:List AObj}{k m o off n cap e N:Nat}{ex:Bool}{c get:Nat→AV}{fr:Bool}(ho:getO hp o=.cells fr N c)(hk:k≤o)(hN:off+n*e≤N)(hcap:n≤cap)(he:0<e)(hc:∀j,j<N→FzTo hp k 0 (c j) (get j)):FzTo hp k m (.sl o off n cap ex e) (.fz .opn e n (fun i j=>get (off+i*e+j))):=by
 rintro FM FM' ρ w h1 h2 h3 u ⟨q,cap',hq,rfl,b2,_,b3⟩
 refine⟨fun h=>(by cases h),fun _=>⟨q.1,q.2.1+off,cap',rfl,by omega,fun h=>(by rcases h with h|h <;> cases h),fun i j hi hj=>?_⟩⟩
 have:(i+1)*e≤n*e:=Nat.mul_le_mul_right _ hi
 rw[Nat.add_mul] at this
 have:=fz_cells ho hk hc h1 h2 h3 hq (j:=off+i*e+j) (by omega)
 rwa [show q.2.1+(off+i*e+j)=q.2.1+off+i*e+j by omega] at this
def fzFr (hp:List AObj)(k:Nat)(fr:List (Nat × AV)):List (Nat × AV)→Prop
 |[]=>True
 |(t,v)::r=>FzTo hp k k (lk fr t) v∧fzFr hp k fr r
theorem fzFr_ok {hp:List AObj}{k:Nat}{fr:List (Nat × AV)}{FM FM':Mem}{ρ:Plc}{w:World}(h1:HRel FM ρ hp w)(h2:∀b o,FM b=some o→FM' b=some o)
  (h3:∀i p,k≤i→ρ[i]? = some p→isLive (getO hp i)=true→FM' p.1=w.heap[p.1]?) {vals:Nat→Value} (hv:FrOk FM ρ fr vals):∀{fr':List (Nat × AV)},fzFr hp k fr fr'→FrOk FM' (ρ.take k) fr' vals
 |[],_=>fun _=>trivial
 |(t,v)::r,h=>fun s=>by
  show Den FM' (ρ.take k) (bif Nat.beq s t then v else lk r s) (vals s)
  cases hb:Nat.beq s t with
  |true=>
   have:=Nat.eq_of_beq_eq_true hb
   subst this
   exact h.1 FM FM' ρ w h1 h2 h3 _ (hv s)
  |false=>exact fzFr_ok h1 h2 h3 hv h.2 s
theorem to_frzK {k0:Nat}{s:St R.σ}(k:Nat)(fr':List (Nat × AV))(hk:k0≤k)(hml:k≤s.hp.length)(hot:∀i,i<k→belowO k (getO s.hp i))(hfr:fzFr s.hp k s.fr fr'):To R k0 s ⟨fr',takeO k s.hp,s.g⟩:=by
 classical
 intro ρ0 FM ρ w vals h0 hs okw fr
 let C:Nat→Prop:=fun b=>∃i p,k≤i∧ρ[i]? = some p∧p.1=b∧isLive (getO s.hp i)=true
 let FM':Mem:=fun b=>if C b then w.heap[b]? else FM b
 have hC:∀b,C b→FM' b=w.heap[b]?:= fun b h=>if_pos h
 have hN:∀b,¬C b→FM' b=FM b:=fun b h=>if_neg h
 have hin:∀b,C b→InB ρ b:=fun b ⟨i,p,_,h2,h3,h4⟩=>⟨p,mem_of_get h2,h3,(okw.rel.real h2 h4).1⟩
 have hmono:∀b o,FM b=some o→FM' b=some o:=fun b o h=>by
  by_cases hc:C b
  ·rw[hC b hc];exact okw.rel.fm b o h
  ·rw[hN b hc];exact h
 have hsound:∀b o,FM' b=some o→w.heap[b]? = some o:=fun b o h=>by
  by_cases hc:C b
  ·rw[hC b hc] at h;exact h
  ·rw[hN b hc] at h;exact okw.rel.fm b o h
 have hgrow:∀b o,FM' b=some o→FM b=some o∨InB ρ b:=fun b o h=>by
  by_cases hc:C b
  ·exact .inr (hin b hc)
  ·rw[hN b hc] at h;exact .inl h
 have hkept:∀(i:Nat) (p:Nat × Nat × Nat),i<k→ρ[i]? = some p→isLive (getO s.hp i)=true→FM' p.1=FM p.1:=fun i p hi hp hl=>hN _ (fun ⟨j,q,h1,h2,h3,h4⟩=>by
  have:=okw.rel.inj i j p q hp h2 hl h4 h3.symm
  omega)
 have hkeep:Keep (R.B s.g) FM w FM' w:=⟨hmono,fun b hb=>hN b (fun hc=>(okw.bd b hb).2 (hin b hc)),hsound,fun _ _=>rfl,Nat.le_refl _,rfl,rfl,rfl⟩
 have hget:∀(i:Nat) (p:Nat × Nat × Nat),(ρ.take k)[i]? = some p→i<k∧ρ[i]? = some p:=fun i p h=>by
  rw[List.getElem?_take] at h
  split at h
  ·rename_i hi;exact⟨hi,h⟩
  ·cases h
 have h3:∀i p,k≤i→ρ[i]? = some p→isLive (getO s.hp i)=true→FM' p.1=w.heap[p.1]?:= fun i p h1 h2 h4=>hC _ ⟨i,p,h1,h2,rfl,h4⟩
 have hgo:∀i,i<k→getO (takeO k s.hp) i=getO s.hp i:=fun i hi=>by rw[getO_takeO,if_pos hi]
 have hinT:∀b,InB (ρ.take k) b→InB ρ b:=fun b ⟨p,hp,hb⟩=>⟨p,List.mem_of_mem_take hp,hb⟩
 refine⟨FM',ρ.take k,⟨⟨hsound,by show _=(takeO k s.hp).length;rw[length_takeO,List.length_take,okw.rel.len],fun i p hi=>?_,fun i j p q hi hj hli hlj hpq=>?_⟩,R.st okw.j hkeep,fun b hb=>⟨(okw.bd b hb).1,fun h=>(okw.bd b hb).2 (hinT b h)⟩⟩,fzFr_ok okw.rel hmono h3 fr hfr,fun i p hi=>?_,hmono,hgrow,hinT,rfl⟩
 ·obtain⟨hik,hi'⟩:=hget i p hi
  obtain⟨k1,k2⟩:=okw.rel.obj i p hi'
  refine⟨k1,?_⟩
  show ObjRel FM' (ρ.take k) p w (getO (takeO k s.hp) i)
  rw[hgo i hik]
  have hb:=hot i hik
  cases hx:getO s.hp i with
  |dead=>trivial
  |map a=>
   rw[hx] at k2
   exact objRel_map k2 hmono rfl ((hkept i p hik hi' (by rw[hx];rfl)).trans k2.2.1)
  |gen a=>rw[hx] at hb;exact hb.elim
  |mapo a=>
   rw[hx] at k2 hb
   have hf:=hkept i p hik hi' (by rw[hx];rfl)
   obtain⟨a1,a2,mes,clock,a3,a4,a5⟩:=k2
   exact⟨a1,hf.trans a2,mes,clock,a3,a4,fun j kv v hj=>let ⟨e,b1,b2,b3⟩:=a5 j kv v hj;⟨e,b1,b2,den_below _ (Den.mono hmono _ (Sub.refl ρ) b3) (hb _ (List.mem_of_getElem? hj))⟩⟩
  |cells f n c=>
   rw[hx] at k2 hb
   intro hn
   have hf:=hkept i p hik hi' (by rw[hx];exact live_pos hn)
   obtain⟨cs,e,a1,a2,a3,a4,a5,a6⟩:=k2 hn
   exact⟨cs,e,a1,a2,a3,fun j hj=>let ⟨y,b1,b2,b3⟩:=a4 j hj;⟨y,b1,b2,den_below _ (Den.mono hmono _ (Sub.refl ρ) b3) (hb j hj)⟩,fun h=>hf.trans (a5 h),fun h=>hf.trans (a6 h)⟩
 ·obtain⟨hik,hi'⟩:=hget i p hi
  obtain⟨hjk,hj'⟩:=hget j q hj
  have e1:getO (takeO k s.hp) i=getO s.hp i:=hgo i hik
  have e2:getO (takeO k s.hp) j=getO s.hp j:=hgo j hjk
  exact okw.rel.inj i j p q hi' hj' (by rw[←e1];exact hli) (by rw[←e2];exact hlj) hpq
 ·have hil:i<k0:=by rw[←h0];exact(List.getElem?_eq_some_iff.1 hi).1
  rw[List.getElem?_take,if_pos (by omega)]
  exact hs i p hi
end
end Go.Avm
namespace Go.Avm
open Go
section
variable {P:Program}{R:Res}
end
end Go.Avm
namespace Go.Avm
open Go
section
variable {P:Program}{R:Res}
end
end Go.Avm
namespace Go.Avm
open Go
def wpInB (f0:FuncId)(F:Fence)(n:Nat)(P:Program)(c:Code)(Q:Exit→Act→World→Prop)(a:Act)(w:World):Prop:=
 ∀(b:Frame) (k:List Item) (cs:List Frame),b.roundOf=F.round→F.fn b.fn→b.fn=f0→F.room (cs.length+1+n) →
  ∃e a' w',Q e a' w'∧ArrivesIn (Machine.fenced P F) P (lone (b.atR a (.code c::k)) cs w) b k cs e a' w'
section
variable {f0:FuncId}{F:Fence}{n:Nat}{P:Program}{Q:Exit→Act→World→Prop}{a:Act}{w:World}
end
section
variable {P:Program}{R:Res}{nt k0:Nat}{f0:FuncId}{b:Code}{Q:AEx→St R.σ→Prop}{s:St R.σ}
structure WpB (P:Program)(R:Res)(nt k0:Nat)(f0:FuncId)(b:Code)(p:List Nat)(Q:AEx→St R.σ→Prop)(s:St R.σ):Prop where
 h:∀(C:Cx R),C.ρ.length=k0∧C.df.out=true→∀(n:Nat) (a:Act) (w:World),Holds R C nt s a w→wpInB f0 (Fw .top) n P (sub b p) (PostA R C nt Q) a w
end
end Go.Avm
namespace Go.Avm
open Go
section
variable {P:Program}{F:Fence}{n:Nat}{ops:Array Oper}{Q:Exit→Act→World→Prop}
end
def pm (l:List Nat)(j:Nat):Nat:=l.getD j j
structure Perm (N:Nat)(l li:List Nat):Prop where
 len:l.length≤N
 fwd:∀i,i<N→pm l i<N∧pm li (pm l i)=i
 bwd:∀k,k<N→pm li k<N∧pm l (pm li k)=k
section
variable {P:Program}{F:Fence}{n:Nat}{ops:Array Oper}{Q:Exit→Act→World→Prop}
structure SameL (N:Nat)(l:List Nat)(x y:Array Bool):Prop where
 sx:x.size=N
 sy:y.size=N
 at_:∀j,j<N→y[pm l j]? = x[j]?
end
section
variable {P:Program}{R:Res}{nt k0:Nat}{r:Rd}{b:Code}{Q:AEx→St R.σ→Prop}
structure WpAny (P:Program)(R:Res)(nt k0:Nat)(r:Rd)(b:Code)(p:List Nat)(Q:AEx→St R.σ→Prop)(s:St R.σ):Prop where
 h:match sub b p with
  |.region _ ops true=>wpAny P R nt k0 r ops Q s
  |_=>False
end
end Go.Avm
namespace Go.Bvm
open Go Go.Avm
set_option linter.unusedVariables false
noncomputable section
abbrev LA:=List AV
abbrev Ans:=Option AV
def hd (l:LA):AV:=List.rec (motive:=fun _=>AV) .any (fun a _ _=>a) l
def tlL (l:LA):LA:=List.rec (motive:=fun _=>LA) [] (fun _ r _=>r) l
def nx (l:LA):Nat→AV:=List.rec (motive:=fun _=>Nat→AV) (fun _=>.any) (fun a _ ih i=>Nat.rec (motive:=fun _=>AV) a (fun j _=>ih j) i) l
def dr (n:Nat):LA→LA:=Nat.rec (motive:=fun _=>LA→LA) (fun l=>l) (fun _ ih l=>ih (tlL l)) n
def tk (n:Nat):LA→LA:=Nat.rec (motive:=fun _=>LA→LA) (fun _=>[]) (fun _ ih l=>hd l::ih (tlL l)) n
def ap (a b:LA):LA:=List.rec (motive:=fun _=>LA) b (fun x _ ih=>x::ih) a
def ov (vs:LA):LA→LA:=List.rec (motive:=fun _=>LA→LA) (fun l=>l) (fun a _ ih l=>a::ih (tlL l)) vs
def spl (off:Nat)(vs:LA):LA→LA:=Nat.rec (motive:=fun _=>LA→LA) (fun l=>ov vs l) (fun _ ih l=>hd l::ih (tlL l)) off
def tbF (n:Nat)(f:Nat→AV):Nat→LA:=Nat.rec (motive:=fun _=>Nat→LA) (fun _=>[]) (fun _ ih i=>f i::ih (Nat.succ i)) n
def tb (n:Nat)(f:Nat→AV):LA:=tbF n f 0
def zs (n:Nat)(z:LA):LA:=Nat.rec (motive:=fun _=>LA) [] (fun _ ih=>ap z ih) n
def revA (a b:LA):LA:=List.rec (motive:=fun _=>LA→LA) (fun b=>b) (fun x _ ih b=>ih (x::b)) a b
def lenL (l:LA):Nat:=List.rec (motive:=fun _=>Nat) 0 (fun _ _ ih=>Nat.succ ih) l
structure Rnd where
 ps:List Nat
 a:Code
 b:Code
 lay:List Nat
 nt:Nat
inductive CO where
 |dead
 |cells (n:Nat) (l:List AV)
 |map (kt:Nat) (es:List (Value × AV))
 |frm (cd:Rnd) (vs:List AV) (st:Nat)
 |itm (me m n:Nat) (left:List Nat) (cur:Nat)
 |its (me:Nat) (l:List UInt8) (s:ByteArray) (pos:Nat)
 |fce (n:Nat) (l:List AV)
inductive Ps where|z|o (p:Ps)|i (p:Ps)
inductive Tr where|e|n (l:Tr) (v:CO) (r:Tr)
structure H where
 t:Tr
 n:Nat
def pathF:Nat→Nat→Ps:=Nat.rec (motive:=fun _=>Nat→Ps) (fun _=>.z) (fun _ ih i=>Nat.rec (motive:=fun _=>Ps) .z (fun _ _=>Bool.rec (motive:=fun _=>Ps) (.i (ih (Nat.div i 2))) (.o (ih (Nat.div i 2))) (Nat.beq (Nat.mod i 2) 0)) i)
def path (i:Nat):Ps:=pathF (Nat.succ (Nat.log2 i)) i
def getP (p:Ps):Tr→CO:=Ps.rec (motive:=fun _=>Tr→CO) (fun t=>Tr.rec (motive:=fun _=>CO) .dead (fun _ v _ _ _=>v) t) (fun _ ih t=>Tr.rec (motive:=fun _=>CO) .dead (fun l _ _ _ _=>ih l) t) (fun _ ih t=>Tr.rec (motive:=fun _=>CO) .dead (fun _ _ r _ _=>ih r) t) p
def setP (p:Ps)(x:CO):Tr→Tr:=Ps.rec (motive:=fun _=>Tr→Tr) (fun t=>Tr.rec (motive:=fun _=>Tr) (.n .e x .e) (fun l _ r _ _=>.n l x r) t) (fun _ ih t=>Tr.rec (motive:=fun _=>Tr) (.n (ih .e) .dead .e) (fun l v r _ _=>.n (ih l) v r) t) (fun _ ih t=>Tr.rec (motive:=fun _=>Tr) (.n .e .dead (ih .e)) (fun l v r _ _=>.n l v (ih r)) t) p
def gt (h:H)(o:Nat):CO:=getP (path o) h.t
def st (h:H)(o:Nat)(x:CO):H:=⟨setP (path o) x h.t,h.n⟩
def nw (h:H)(x:CO):H:=⟨setP (path h.n) x h.t,Nat.succ h.n⟩
abbrev KH:=H→Ans
abbrev KV:=AV→Ans
abbrev KVH:=AV→H→Ans
structure Fn where
 r:LA→H→KVH→KVH→Ans
structure Tb where
 C:Nat→Fn
 R:Nat→Fn
 D:Nat→Option AV→Fn
def ck (b:Bool)(a:Ans):Ans:=Bool.rec (motive:=fun _=>Ans) none a b
def iff (b:Bool)(x y:Ans):Ans:=Bool.rec (motive:=fun _=>Ans) y x b
def jn (k:LA→H→Ans)(F:(LA→H→Ans)→Ans):Ans:=F k
def jv (k:KVH)(F:KVH→Ans):Ans:=F k
def wInt (x:AV):(IntKind→Int→Ans)→Ans:=
 AV.rec (motive:=fun _=>(IntKind→Int→Ans)→Ans) (fun _=>none) (fun _ _=>none) (fun k n K=>K k n) (fun _ _=>none) (fun _=>none) (fun _=>none) (fun _=>none) (fun _=>none) (fun _ _ _ _ _ _=>none) (fun _ _ _ _=>none) (fun _ _ _ _ _ _ _=>none) (fun _ _ _ _ _=>none) (fun _ _ _=>none) (fun _ _=>none) (fun _ _ _ _ _ _ _ _=>none) (fun _ _ _ _=>none) (fun _ _=>none) (fun _ _ _ _=>none) (fun _ _ _ _=>none) (fun _ _=>none) x
def wB (x:AV)(A B:Ans):Ans:=
 AV.rec (motive:=fun _=>Ans→Ans→Ans) (fun _ _=>none) (fun b A B=>Bool.rec (motive:=fun _=>Ans) B A b) (fun _ _ _ _=>none) (fun _ _ _=>none) (fun _ _=>none) (fun _ _=>none) (fun _ _=>none) (fun _ _=>none) (fun _ _ _ _ _ _ _=>none) (fun _ _ _ _ _=>none) (fun _ _ _ _ _ _ _ _=>none) (fun _ _ _ _ _ _=>none) (fun _ _ _ _=>none) (fun _ _ _=>none) (fun _ _ _ _ _ _ _ _ _=>none) (fun _ _ _ _ _=>none) (fun _ _ _=>none) (fun _ _ _ _ _=>none) (fun _ _ _ _ _=>none) (fun _ _ _=>none) x A B
def wG (w:Bool)(x:AV)(A B:Ans):Ans:=
 AV.rec (motive:=fun _=>Bool→Ans→Ans→Ans) (fun _ _ _=>none) (fun b w A B=>Bool.rec (motive:=fun _=>Ans) (Bool.rec (motive:=fun _=>Ans) A B b) (Bool.rec (motive:=fun _=>Ans) B A b) w) (fun _ _ _ _ _=>none) (fun _ _ _ _=>none) (fun _ _ _=>none) (fun _ _ _=>none) (fun _ _ _=>none) (fun _ _ _=>none) (fun _ _ _ _ _ _ _ _=>none) (fun _ _ _ _ _ _=>none) (fun _ _ _ _ _ _ _ _ _=>none) (fun _ _ _ _ _ _ _=>none) (fun _ _ _ _ _=>none) (fun _ _ _ _=>none) (fun _ _ _ _ _ _ _ _ _ _=>none) (fun _ _ _ _ _ _=>none) (fun _ _ _ _=>none) (fun _ _ _ _ _ _=>none) (fun n _ _ _ _ B=>ck (Nat.beq n 0) B) (fun _ _ _ _=>none) x w A B
def wRef (x:AV):(Nat→Nat→Ans)→(Nat→(Nat→AV)→Ans)→Ans:=
 AV.rec (motive:=fun _=>(Nat→Nat→Ans)→(Nat→(Nat→AV)→Ans)→Ans) (fun _ _=>none) (fun _ _ _=>none) (fun _ _ _ _=>none) (fun _ _ _=>none) (fun _ _=>none) (fun _ _=>none) (fun _ _=>none) (fun _ _=>none) (fun _ _ _ _ _ _ _=>none) (fun n g _ _ F=>F n g) (fun _ _ _ _ _ _ _ _=>none) (fun _ _ _ _ _ _=>none) (fun o f K _=>K o f) (fun _ _ _=>none) (fun _ _ _ _ _ _ _ _ _=>none) (fun _ _ _ _ _=>none) (fun _ _ _=>none) (fun _ _ _ _ _=>none) (fun _ _ _ _ _=>none) (fun _ _ _=>none) x
def wMp (x:AV):(Nat→Ans)→Ans:=
 AV.rec (motive:=fun _=>(Nat→Ans)→Ans) (fun _=>none) (fun _ _=>none) (fun _ _ _=>none) (fun _ _=>none) (fun _=>none) (fun _=>none) (fun _=>none) (fun _=>none) (fun _ _ _ _ _ _=>none) (fun _ _ _ _=>none) (fun _ _ _ _ _ _ _=>none) (fun _ _ _ _ _=>none) (fun _ _ _=>none) (fun o K=>K o) (fun _ _ _ _ _ _ _ _=>none) (fun _ _ _ _=>none) (fun _ _=>none) (fun _ _ _ _=>none) (fun _ _ _ _=>none) (fun _ _=>none) x
def wStr (x:AV):(ByteArray→Ans)→Ans:=
 AV.rec (motive:=fun _=>(ByteArray→Ans)→Ans) (fun _=>none) (fun _ _=>none) (fun _ _ _=>none) (fun s K=>K s) (fun _=>none) (fun _=>none) (fun _=>none) (fun _=>none) (fun _ _ _ _ _ _=>none) (fun _ _ _ _=>none) (fun _ _ _ _ _ _ _=>none) (fun _ _ _ _ _=>none) (fun _ _ _=>none) (fun _ _=>none) (fun _ _ _ _ _ _ _ _=>none) (fun _ _ _ _=>none) (fun _ _=>none) (fun _ _ _ _=>none) (fun _ _ _ _=>none) (fun _ _=>none) x
def wFn (x:AV):(Nat→Nat→(Nat→AV)→Nat→(Nat→AV)→Ans)→(Nat→Ans)→Ans:=
 AV.rec (motive:=fun _=>(Nat→Nat→(Nat→AV)→Nat→(Nat→AV)→Ans)→(Nat→Ans)→Ans) (fun _ _=>none) (fun _ _ _=>none) (fun _ _ _ _=>none) (fun _ _ _=>none) (fun _ _=>none) (fun _ _=>none) (fun _ _=>none) (fun _ _=>none) (fun _ _ _ _ _ _ _=>none) (fun _ _ _ _ _=>none) (fun _ _ _ _ _ _ _ _=>none) (fun _ _ _ _ _ _=>none) (fun _ _ _ _=>none) (fun _ _ _=>none) (fun f na a nb b _ _ K _=>K f na a nb b) (fun _ _ _ _ _=>none) (fun _ _ _=>none) (fun _ _ _ _ _=>none) (fun _ _ _ _ _=>none) (fun o _ Y=>Y o) x
def wIfc (x:AV):(Nat→AV→Ans)→Ans→Ans:=
 AV.rec (motive:=fun _=>(Nat→AV→Ans)→Ans→Ans) (fun _ _=>none) (fun _ _ _=>none) (fun _ _ _ _=>none) (fun _ _ _=>none) (fun _ _=>none) (fun _ _=>none) (fun _ N=>N) (fun _ _=>none) (fun _ _ _ _ _ _ _=>none) (fun _ _ _ _ _=>none) (fun _ _ _ _ _ _ _ _=>none) (fun _ _ _ _ _ _=>none) (fun _ _ _ _=>none) (fun _ _ _=>none) (fun _ _ _ _ _ _ _ _ _=>none) (fun t v _ K _=>K t v) (fun _ _ _=>none) (fun _ _ _ _ _=>none) (fun _ _ _ _ _=>none) (fun _ _ _=>none) x
def wSl (x:AV):(Fz→Nat→Nat→(Nat→Nat→AV)→Ans)→(Nat→Nat→Nat→Nat→Bool→Nat→Ans)→(Bool→Nat→Nat→Nat→Ans)→Ans:=
 AV.rec (motive:=fun _=>(Fz→Nat→Nat→(Nat→Nat→AV)→Ans)→(Nat→Nat→Nat→Nat→Bool→Nat→Ans)→(Bool→Nat→Nat→Nat→Ans)→Ans) (fun _ _ _=>none) (fun _ _ _ _=>none) (fun _ _ _ _ _=>none) (fun _ _ _ _=>none) (fun _ _ _=>none) (fun _ _ _=>none) (fun _ _ _=>none) (fun _ _ _=>none) (fun k s n g _ A _ _=>A k s n g) (fun _ _ _ _ _ _=>none) (fun o off len cap ex es _ B _=>B o off len cap ex es) (fun x o n es _ _ C=>C x o n es) (fun _ _ _ _ _=>none) (fun _ _ _ _=>none) (fun _ _ _ _ _ _ _ _ _ _=>none) (fun _ _ _ _ _ _=>none) (fun _ _ _ _=>none) (fun _ _ _ _ _ _=>none) (fun _ _ _ _ _ _=>none) (fun _ _ _ _=>none) x
def wCl (x:AV)(K:Nat→LA→Ans):Ans:=
 AV.rec (motive:=fun _=>(Nat→LA→Ans)→Ans) (fun _=>none) (fun b K=>K 1 [.bool b]) (fun k n K=>K 1 [.int k n]) (fun s K=>K 1 [.str s]) (fun K=>K 1 [.nilp]) (fun K=>K 1 [.nilf]) (fun K=>K 1 [.nili]) (fun K=>K 1 [.nilm]) (fun k s n g _ K=>K 1 [.fz k s n g]) (fun n g _ K=>K 1 [.fp n g]) (fun o f l c e s K=>K 1 [.sl o f l c e s]) (fun x o n e K=>K 1 [.ow x o n e]) (fun o f K=>K 1 [.ref o f]) (fun o K=>K 1 [.mp o]) (fun f na a nb b _ _ K=>K 1 [.fn f na a nb b]) (fun t v _ K=>K 1 [.ifc t v]) (fun u K=>K 1 [.val u]) (fun n g _ K=>K n (tb n g)) (fun _ _ _ _=>none) (fun o K=>K 1 [.yl o]) x K
def wAg (x:AV):(Nat→(Nat→AV)→Ans)→Ans:=
 AV.rec (motive:=fun _=>(Nat→(Nat→AV)→Ans)→Ans) (fun _=>none) (fun _ _=>none) (fun _ _ _=>none) (fun _ _=>none) (fun _=>none) (fun _=>none) (fun _=>none) (fun _=>none) (fun _ _ _ _ _ _=>none) (fun _ _ _ _=>none) (fun _ _ _ _ _ _ _=>none) (fun _ _ _ _ _=>none) (fun _ _ _=>none) (fun _ _=>none) (fun _ _ _ _ _ _ _ _=>none) (fun _ _ _ _=>none) (fun _ _=>none) (fun n g _ K=>K n g) (fun _ _ _ _=>none) (fun _ _=>none) x
def wTu (x:AV):(Nat→(Nat→AV)→Ans)→Ans:=
 AV.rec (motive:=fun _=>(Nat→(Nat→AV)→Ans)→Ans) (fun _=>none) (fun _ _=>none) (fun _ _ _=>none) (fun _ _=>none) (fun _=>none) (fun _=>none) (fun _=>none) (fun _=>none) (fun _ _ _ _ _ _=>none) (fun _ _ _ _=>none) (fun _ _ _ _ _ _ _=>none) (fun _ _ _ _ _=>none) (fun _ _ _=>none) (fun _ _=>none) (fun _ _ _ _ _ _ _ _=>none) (fun _ _ _ _=>none) (fun _ _=>none) (fun _ _ _ _=>none) (fun n g _ K=>K n g) (fun _ _=>none) x
def wCe (c:CO)(K:Nat→LA→Ans):Ans:=CO.rec (motive:=fun _=>(Nat→LA→Ans)→Ans) (fun _=>none) (fun n l K=>K n l) (fun _ _ _=>none) (fun _ _ _ _=>none) (fun _ _ _ _ _ _=>none) (fun _ _ _ _ _=>none) (fun _ _ _=>none) c K
def wRe (c:CO)(K:Nat→LA→Ans):Ans:=CO.rec (motive:=fun _=>(Nat→LA→Ans)→Ans) (fun _=>none) (fun n l K=>K n l) (fun _ _ _=>none) (fun _ _ _ _=>none) (fun _ _ _ _ _ _=>none) (fun _ _ _ _ _=>none) (fun n l K=>K n l) c K
def wMa (c:CO)(K:Nat→List (Value × AV)→Ans):Ans:=CO.rec (motive:=fun _=>(Nat→List (Value × AV)→Ans)→Ans) (fun _=>none) (fun _ _ _=>none) (fun t es K=>K t es) (fun _ _ _ _=>none) (fun _ _ _ _ _ _=>none) (fun _ _ _ _ _=>none) (fun _ _ _=>none) c K
def wFr (c:CO)(K:Rnd→LA→Nat→Ans):Ans:=CO.rec (motive:=fun _=>(Rnd→LA→Nat→Ans)→Ans) (fun _=>none) (fun _ _ _=>none) (fun _ _ _=>none) (fun cd vs s K=>K cd vs s) (fun _ _ _ _ _ _=>none) (fun _ _ _ _ _=>none) (fun _ _ _=>none) c K
def wIt (o:Nat)(c:CO)(K:Nat→Nat→List Nat→Nat→Ans):Ans:=CO.rec (motive:=fun _=>(Nat→Nat→List Nat→Nat→Ans)→Ans) (fun _=>none) (fun _ _ _=>none) (fun _ _ _=>none) (fun _ _ _ _=>none) (fun me m n l cur K=>ck (Nat.beq me o) (K m n l cur)) (fun _ _ _ _ _=>none) (fun _ _ _=>none) c K
def wIs (o:Nat)(c:CO)(K:List UInt8→ByteArray→Nat→Ans):Ans:=CO.rec (motive:=fun _=>(List UInt8→ByteArray→Nat→Ans)→Ans) (fun _=>none) (fun _ _ _=>none) (fun _ _ _=>none) (fun _ _ _ _=>none) (fun _ _ _ _ _ _=>none) (fun me l s p K=>ck (Nat.beq me o) (K l s p)) (fun _ _ _=>none) c K
def kq (j k:IntKind):Bool:=IntKind.rec (motive:=fun _=>IntKind→Bool)
 (fun k=>IntKind.rec (motive:=fun _=>Bool) true false false false false false false false k) (fun k=>IntKind.rec (motive:=fun _=>Bool) false true false false false false false false k)
 (fun k=>IntKind.rec (motive:=fun _=>Bool) false false true false false false false false k) (fun k=>IntKind.rec (motive:=fun _=>Bool) false false false true false false false false k)
 (fun k=>IntKind.rec (motive:=fun _=>Bool) false false false false true false false false k) (fun k=>IntKind.rec (motive:=fun _=>Bool) false false false false false true false false k)
 (fun k=>IntKind.rec (motive:=fun _=>Bool) false false false false false false true false k) (fun k=>IntKind.rec (motive:=fun _=>Bool) false false false false false false false true k) j k
def iadd (a b:Int):Int:=Int.rec (motive:=fun _=>Int→Int) (fun a b=>Int.rec (motive:=fun _=>Int) (fun b=>Int.ofNat (Nat.add a b)) (fun b=>Int.subNatNat a (Nat.succ b)) b) (fun a b=>Int.rec (motive:=fun _=>Int) (fun b=>Int.subNatNat b (Nat.succ a)) (fun b=>Int.negSucc (Nat.succ (Nat.add a b))) b) a b
def ineg (a:Int):Int:=Int.rec (motive:=fun _=>Int) (fun a=>Int.negOfNat a) (fun a=>Int.ofNat (Nat.succ a)) a
def inR (k:IntKind)(a:Int):Bool:=IntKind.rec (motive:=fun _=>Int→Bool)
 (fun a=>Int.rec (motive:=fun _=>Bool) (fun a=>Nat.ble a 127) (fun a=>Nat.ble a 127) a) (fun a=>Int.rec (motive:=fun _=>Bool) (fun a=>Nat.ble a 32767) (fun a=>Nat.ble a 32767) a)
 (fun a=>Int.rec (motive:=fun _=>Bool) (fun a=>Nat.ble a 2147483647) (fun a=>Nat.ble a 2147483647) a) (fun a=>Int.rec (motive:=fun _=>Bool) (fun a=>Nat.ble a 9223372036854775807) (fun a=>Nat.ble a 9223372036854775807) a)
 (fun a=>Int.rec (motive:=fun _=>Bool) (fun a=>Nat.ble a 255) (fun _=>false) a) (fun a=>Int.rec (motive:=fun _=>Bool) (fun a=>Nat.ble a 65535) (fun _=>false) a)
 (fun a=>Int.rec (motive:=fun _=>Bool) (fun a=>Nat.ble a 4294967295) (fun _=>false) a) (fun a=>Int.rec (motive:=fun _=>Bool) (fun a=>Nat.ble a 18446744073709551615) (fun _=>false) a) k a
def wr (k:IntKind)(a:Int):Int:=Bool.rec (motive:=fun _=>Int) (k.wrap a) a (inR k a)
def ilt (a b:Int):Bool:=Int.rec (motive:=fun _=>Int→Bool) (fun a b=>Int.rec (motive:=fun _=>Bool) (fun b=>Nat.ble (Nat.succ a) b) (fun _=>false) b) (fun a b=>Int.rec (motive:=fun _=>Bool) (fun _=>true) (fun b=>Nat.ble (Nat.succ b) a) b) a b
def ieq (a b:Int):Bool:=Int.rec (motive:=fun _=>Int→Bool) (fun a b=>Int.rec (motive:=fun _=>Bool) (fun b=>Nat.beq a b) (fun _=>false) b) (fun a b=>Int.rec (motive:=fun _=>Bool) (fun _=>false) (fun b=>Nat.beq a b) b) a b
def nn (a:Int):Nat:=Int.rec (motive:=fun _=>Nat) (fun a=>a) (fun _=>0) a
def nt (b:Bool):Bool:=Bool.rec (motive:=fun _=>Bool) true false b
def nonneg (a:Int):Bool:=Int.rec (motive:=fun _=>Bool) (fun _=>true) (fun _=>false) a
def w2 (x y:AV)(K:IntKind→Int→Int→Ans):Ans:=wInt x fun k a=>wInt y fun j b=>ck (kq k j) (K k a b)
def ad (x y:AV)(K:KV):Ans:=w2 x y fun k a b=>K (.int k (wr k (iadd a b)))
def sb (x y:AV)(K:KV):Ans:=w2 x y fun k a b=>K (.int k (wr k (iadd a (ineg b))))
def ml (x y:AV)(K:KV):Ans:=w2 x y fun k a b=>K (.int k (wr k (Int.mul a b)))
def qu (x y:AV)(K:KV):Ans:=w2 x y fun k a b=>ck (nt (ieq b 0)) (K (.int k (wr k (Int.tdiv a b))))
def rm (x y:AV)(K:KV):Ans:=w2 x y fun k a b=>ck (nt (ieq b 0)) (K (.int k (Int.tmod a b)))
def bw (op:BinOp)(x y:AV)(K:KV):Ans:=w2 x y fun k a b=>K (.int k (Go.bits op k a b))
def shl (x y:AV)(K:KV):Ans:=wInt x fun k a=>wInt y fun _ b=>ck (nonneg b) (K (.int k (k.wrap (a*2^(min b.toNat k.bits)))))
def shr (x y:AV)(K:KV):Ans:=wInt x fun k a=>wInt y fun _ b=>ck (nonneg b) (K (.int k (Int.rec (motive:=fun _=>Int) (fun n=>Int.ofNat (Nat.shiftRight n (Bool.rec (motive:=fun _=>Nat) k.bits (nn b) (Nat.ble (nn b) k.bits)))) (fun n=>Int.fdiv (Int.negSucc n) (2^(min b.toNat k.bits))) a)))
def lt (x y:AV)(K:KV):Ans:=w2 x y fun _ a b=>K (.bool (ilt a b))
def le (x y:AV)(K:KV):Ans:=w2 x y fun _ a b=>K (.bool (nt (ilt b a)))
def eqi (x y:AV)(K:KV):Ans:=w2 x y fun _ a b=>K (.bool (ieq a b))
def nei (x y:AV)(K:KV):Ans:=w2 x y fun _ a b=>K (.bool (nt (ieq a b)))
def eqB:List UInt8→List UInt8→Bool:=List.rec (motive:=fun _=>List UInt8→Bool) (fun l=>List.rec (motive:=fun _=>Bool) true (fun _ _ _=>false) l) (fun a _ ih l=>List.rec (motive:=fun _=>Bool) false (fun b r _=>Bool.rec (motive:=fun _=>Bool) false (ih r) (Nat.beq a.toNat b.toNat)) l)
def eqS (s u:ByteArray):Bool:=eqB s.data.toList u.data.toList
def beqB (a b:Bool):Bool:=Bool.rec (motive:=fun _=>Bool) (nt b) b a
def eq1 (x y:AV)(K:Bool→Ans):Ans:=
 AV.rec (motive:=fun _=>AV→(Bool→Ans)→Ans) (fun _ _=>none) (fun a y K=>wB y (K (beqB a true)) (K (beqB a false))) (fun k a y K=>wInt y fun j b=>ck (kq k j) (K (ieq a b))) (fun s y K=>wStr y fun u=>K (eqS s u)) (fun _ _=>none) (fun _ _=>none) (fun _ _=>none) (fun _ _=>none) (fun _ _ _ _ _ _ _=>none) (fun _ _ _ _ _=>none) (fun _ _ _ _ _ _ _ _=>none) (fun _ _ _ _ _ _=>none) (fun _ _ _ _=>none) (fun _ _ _=>none) (fun _ _ _ _ _ _ _ _ _=>none) (fun _ _ _ _ _=>none) (fun _ _ _=>none) (fun _ _ _ _ _=>none) (fun _ _ _ _ _=>none) (fun _ _ _=>none) x y K
def isSV (u:Value):Bool:=Value.rec (motive_1:=fun _=>Bool) (motive_2:=fun _=>Unit) (motive_3:=fun _=>Unit)
 (fun _=>false) (fun _ _=>false) (fun _ _=>false) (fun _ _ _=>false) (fun _=>false) (fun _=>false) (fun p _ _=>Option.rec (motive:=fun _=>Bool) false (fun _=>true) p) (fun _=>false) (fun _=>false) (fun _ _ _ _ _=>false) false (fun _ _ _=>false) false (fun _ _=>false) (fun _ _=>false) (fun _ _=>()) () (fun _ _ _ _=>()) u
def isNV (u:Value):Bool:=Value.rec (motive_1:=fun _=>Bool) (motive_2:=fun _=>Unit) (motive_3:=fun _=>Unit)
 (fun _=>false) (fun _ _=>false) (fun _ _=>false) (fun _ _ _=>false) (fun _=>false) (fun _=>false) (fun p _ _=>Option.rec (motive:=fun _=>Bool) true (fun _=>false) p) (fun _=>false) (fun _=>false) (fun _ _ _ _ _=>false) false (fun _ _ _=>false) false (fun _ _=>false) (fun _ _=>false) (fun _ _=>()) () (fun _ _ _ _=>()) u
def isZV (u:Value):Bool:=Value.rec (motive_1:=fun _=>Bool) (motive_2:=fun _=>Unit) (motive_3:=fun _=>Unit)
 (fun _=>false) (fun _ _=>false) (fun _ _=>false) (fun _ _ _=>false) (fun _=>false) (fun _=>false) (fun p n _=>Option.rec (motive:=fun _=>Bool) false (fun _=>Nat.beq n 0) p) (fun _=>false) (fun _=>false) (fun _ _ _ _ _=>false) false (fun _ _ _=>false) false (fun _ _=>false) (fun _ _=>false) (fun _ _=>()) () (fun _ _ _ _=>()) u
def isVl (f:Value→Bool)(x:AV):Bool:=AV.rec (motive:=fun _=>Bool) false (fun _=>false) (fun _ _=>false) (fun _=>false) false false false false (fun _ _ _ _ _=>false) (fun _ _ _=>false) (fun _ _ _ _ _ _=>false) (fun _ _ _ _=>false) (fun _ _=>false) (fun _=>false) (fun _ _ _ _ _ _ _=>false) (fun _ _ _=>false) (fun u=>f u) (fun _ _ _=>false) (fun _ _ _=>false) (fun _=>false) x
def isNil0 (x:AV)(K:Bool→Ans):Ans:=wSl x (fun k _ n _=>Fz.rec (motive:=fun _=>Ans) (K true) (K false) (K false) (K (Nat.beq n 0)) (ck (Nat.blt 0 n) (K false)) (ck (Nat.blt 0 n) (K false)) k) (fun _ _ _ _ _ _=>K false) (fun w _ n _=>Bool.rec (motive:=fun _=>Ans) (ck (Nat.blt 0 n) (K false)) (K (Nat.beq n 0)) w)
def isNil (x:AV)(K:Bool→Ans):Ans:=iff (isVl isSV x) (K false) (iff (isVl isNV x) (K true) (isNil0 x K))
def isNilF (x:AV)(K:Bool→Ans):Ans:=
 AV.rec (motive:=fun _=>(Bool→Ans)→Ans) (fun _=>none) (fun _ _=>none) (fun _ _ _=>none) (fun _ _=>none) (fun _=>none) (fun K=>K true) (fun _=>none) (fun _=>none) (fun _ _ _ _ _ _=>none) (fun _ _ _ _=>none) (fun _ _ _ _ _ _ _=>none) (fun _ _ _ _ _=>none) (fun _ _ _=>none) (fun _ _=>none) (fun _ _ _ _ _ _ _ K=>K false) (fun _ _ _ _=>none) (fun _ _=>none) (fun _ _ _ _=>none) (fun _ _ _ _=>none) (fun _ _=>none) x K
def isNilP (x:AV)(K:Bool→Ans):Ans:=
 AV.rec (motive:=fun _=>(Bool→Ans)→Ans) (fun _=>none) (fun _ _=>none) (fun _ _ _=>none) (fun _ _=>none) (fun K=>K true) (fun _=>none) (fun _=>none) (fun _=>none) (fun _ _ _ _ _ _=>none) (fun _ _ _ K=>K false) (fun _ _ _ _ _ _ _=>none) (fun _ _ _ _ _=>none) (fun _ _ K=>K false) (fun _ _=>none) (fun _ _ _ _ _ _ _ _=>none) (fun _ _ _ _=>none) (fun _ _=>none) (fun _ _ _ _=>none) (fun _ _ _ _=>none) (fun _ _=>none) x K
def isNilI (x:AV)(K:Bool→Ans):Ans:=wIfc x (fun _ _=>K false) (K true)
def un (x:AV)(K:KV):Ans:=wB x (K (.bool false)) (K (.bool true))
def neg (x:AV)(K:KV):Ans:=wInt x fun k a=>K (.int k (wr k (ineg a)))
def nck (x:AV)(K:KV):Ans:=AV.rec (motive:=fun _=>KV→Ans) (fun _=>none) (fun _ _=>none) (fun _ _ _=>none) (fun _ _=>none) (fun _=>none) (fun _=>none) (fun _=>none) (fun _=>none) (fun _ _ _ _ _ _=>none) (fun n g _ K=>K (.fp n g)) (fun _ _ _ _ _ _ _=>none) (fun _ _ _ _ _=>none) (fun o f K=>K (.ref o f)) (fun _ _=>none) (fun f na a nb b _ _ K=>K (.fn f na a nb b)) (fun _ _ _ _=>none) (fun _ _=>none) (fun _ _ _ _=>none) (fun _ _ _ _=>none) (fun _ _=>none) x K
def cvt (k:IntKind)(x:AV)(K:KV):Ans:=wInt x fun _ n=>K (.int k (wr k n))
def mi (a b:AV)(K:KV):Ans:=w2 a b fun k x y=>K (.int k (Bool.rec (motive:=fun _=>Int) y x (ilt x y)))
def ma (a b:AV)(K:KV):Ans:=w2 a b fun k x y=>K (.int k (Bool.rec (motive:=fun _=>Int) x y (ilt x y)))
def fa (k:Nat)(p:AV)(K:KV):Ans:=wRef p (fun o f=>K (.ref o (Nat.add f k))) (fun n g=>K (.fp (Nat.sub n k) fun j=>g (Nat.add j k)))
def len (x:AV)(K:KV):Ans:=wSl x (fun _ _ n _=>K (.int .i64 (Int.ofNat n))) (fun _ _ l _ _ _=>K (.int .i64 (Int.ofNat l))) (fun _ _ n _=>K (.int .i64 (Int.ofNat n)))
def lens (x:AV)(K:KV):Ans:=wStr x fun s=>K (.int .i64 (Int.ofNat s.data.toList.length))
def ix (es:Nat)(x i:AV)(K:KV):Ans:=wInt i fun _ i=>ck (nonneg i) (wSl x (fun _ s n g=>ck (Nat.beq s es) (ck (Nat.ble (Nat.succ (nn i)) n) (K (.fp es (g (nn i)))))) (fun o off l _ _ s=>ck (Nat.beq s es) (ck (Nat.ble (Nat.succ (nn i)) l) (K (.ref o (Nat.add off (Nat.mul (nn i) es)))))) (fun _ o l s=>ck (Nat.beq s es) (ck (Nat.ble (Nat.succ (nn i)) l) (K (.ref o (Nat.mul (nn i) es))))))
def ixA (n es:Nat)(p i:AV)(K:KV):Ans:=wInt i fun _ i=>ck (nonneg i) (ck (Nat.ble (Nat.succ (nn i)) n) (wRef p (fun o off=>K (.ref o (Nat.add off (Nat.mul (nn i) es)))) (fun N g=>K (.fp (Nat.sub N (Nat.mul (nn i) es)) fun j=>g (Nat.add j (Nat.mul (nn i) es))))))
def ixS (x i:AV)(K:KV):Ans:=wInt i fun _ i=>ck (nonneg i) (wStr x fun s=>List.rec (motive:=fun _=>Nat→(UInt8→Ans)→Ans) (fun _ _=>none) (fun a _ ih j F=>Nat.rec (motive:=fun _=>Ans) (F a) (fun j _=>ih j F) j) s.data.toList (nn i) fun b=>K (.int .u8 (Int.ofNat b.toNat)))
def ixV (n:Nat)(x i:AV)(K:KV):Ans:=wInt i fun _ i=>ck (nonneg i) (ck (Nat.ble (Nat.succ (nn i)) n) (wAg x fun m g=>ck (Nat.ble n m) (K (g (nn i)))))
def ld1 (h:H)(p:AV)(K:KV):Ans:=wRef p (fun o f=>wRe (gt h o) fun n l=>ck (Nat.ble (Nat.succ f) n) (K (nx l f))) (fun n g=>ck (Nat.ble 1 n) (K (g 0)))
def ldn (s:Nat)(h:H)(p:AV)(K:KV):Ans:=wRef p (fun o f=>wRe (gt h o) fun n l=>ck (Nat.ble (Nat.add f s) n) (K (.agg s (nx (dr f l))))) (fun n g=>ck (Nat.ble s n) (K (.agg s g)))
def sto (s:Nat)(h:H)(p x:AV)(K:KH):Ans:=wCl x fun m vs=>ck (Nat.beq m s) (wRef p (fun o f=>wCe (gt h o) fun n l=>ck (Nat.ble (Nat.add f s) n) (K (st h o (.cells n (spl f vs l))))) (fun _ _=>none))
def al (n:Nat)(l:LA)(h:H)(K:KVH):Ans:=K (.ref h.n 0) (nw h (.cells n l))
def bx (x:AV)(h:H)(K:KVH):Ans:=wCl x fun n l=>K (.ref h.n 0) (nw h (.cells n l))
def pt (off s:Nat)(x:AV)(cs:LA)(K:LA→Ans):Ans:=wCl x fun m vs=>ck (Nat.beq m s) (K (spl off vs cs))
def bs (len n es:Nat)(l:LA)(h:H)(K:KVH):Ans:=K (.sl h.n 0 len len true es) (nw h (.cells n l))
def ms (es bytes:Nat)(z:LA)(x c:AV)(h:H)(K:KVH):Ans:=wInt x fun j l=>wInt c fun k c=>ck (kq j .i64) (ck (kq k .i64) (ck (nonneg l) (ck (nonneg c) (ck (Nat.ble (nn l) (nn c)) (ck (Nat.ble (nn c) 1000000) (ck (Nat.ble (Nat.mul (nn c) bytes) 1000000000) (K (.sl h.n 0 (nn l) (nn c) true es) (nw h (.cells (Nat.mul (nn c) es) (zs (nn c) z))))))))))
def sc0 (es:Nat)(h:H)(x:AV)(K:Nat→LA→Ans):Ans:=wSl x (fun k s n g=>Fz.rec (motive:=fun _=>Ans) (ck (Nat.beq n 0) (K 0 [])) (ck (Nat.beq s es) (K n (tb (Nat.mul n es) fun c=>g (Nat.div c es) (Nat.mod c es)))) (ck (Nat.beq s es) (K n (tb (Nat.mul n es) fun c=>g (Nat.div c es) (Nat.mod c es)))) (ck (Nat.beq s es) (K n (tb (Nat.mul n es) fun c=>g (Nat.div c es) (Nat.mod c es)))) (ck (Nat.beq s es) (K n (tb (Nat.mul n es) fun c=>g (Nat.div c es) (Nat.mod c es)))) (ck (Nat.beq s es) (K n (tb (Nat.mul n es) fun c=>g (Nat.div c es) (Nat.mod c es)))) k)
 (fun o off l _ _ s=>ck (Nat.beq s es) (wRe (gt h o) fun n c=>ck (Nat.ble (Nat.add off (Nat.mul l es)) n) (K l (tk (Nat.mul l es) (dr off c)))))
 (fun _ o l s=>ck (Nat.beq s es) (iff (Nat.beq l 0) (K 0 []) (wRe (gt h o) fun n c=>ck (Nat.ble (Nat.mul l es) n) (K l (tk (Nat.mul l es) c)))))
def sc (es:Nat)(h:H)(x:AV)(K:Nat→LA→Ans):Ans:=iff (isVl isZV x) (K 0 []) (sc0 es h x K)
def kill (h:H)(o:Nat):H:=st h o .dead
def app (es bytes:Nat)(s x:AV)(h:H)(K:KVH):Ans:=sc es h x fun lx new=>iff (Nat.beq lx 0) (wSl s (fun _ _ _ _=>K s h) (fun _ _ l c _ _=>ck (Nat.ble l c) (K s h)) (fun _ _ _ _=>K s h)) (sc es h s fun ls old=>ck (Nat.ble (Nat.add ls lx) 1000000) (ck (Nat.ble (Nat.mul (Nat.add ls lx) bytes) 1000000000)
  (wSl s (fun k _ _ _=>Fz.rec (motive:=fun _=>Ans) (K (.ow true h.n (Nat.add ls lx) es) (nw h (.cells (Nat.mul (Nat.add ls lx) es) (ap old new)))) none
       (K (.sl h.n 0 (Nat.add ls lx) (Nat.add ls lx) false es) (nw h (.cells (Nat.mul (Nat.add ls lx) es) (ap old new)))) none none (K (.ow false h.n (Nat.add ls lx) es) (nw h (.cells (Nat.mul (Nat.add ls lx) es) (ap old new)))) k)
   (fun o _ _ c ex _=>iff (Bool.rec (motive:=fun _=>Bool) false (Nat.ble (Nat.succ c) (Nat.add ls lx)) ex) (K (.sl h.n 0 (Nat.add ls lx) (Nat.add ls lx) false es) (nw h (.cells (Nat.mul (Nat.add ls lx) es) (ap old new)))) (wCe (gt h o) fun N _=>ck (Nat.ble 1 N) (K (.sl h.n 0 (Nat.add ls lx) (Nat.add ls lx) false es) (nw (kill h o) (.cells (Nat.mul (Nat.add ls lx) es) (ap old new))))))
   (fun w o l _=>iff (Nat.beq l 0) (K (.ow w h.n (Nat.add ls lx) es) (nw h (.cells (Nat.mul (Nat.add ls lx) es) (ap old new)))) (wCe (gt h o) fun _ _=>K (.ow w h.n (Nat.add ls lx) es) (nw (kill h o) (.cells (Nat.mul (Nat.add ls lx) es) (ap old new))))))))
def mn (a b:Nat):Nat:=Bool.rec (motive:=fun _=>Nat) b a (Nat.ble a b)
def cpy (es:Nat)(s x:AV)(h:H)(K:KVH):Ans:=sc es h x fun lx new=>wSl s (fun k _ n _=>ck (Nat.beq n 0) (K (.int .i64 0) h)) (fun o off l _ _ s=>ck (Nat.beq s es) (iff (Nat.beq (mn lx l) 0) (K (.int .i64 0) h) (wCe (gt h o) fun n c=>ck (Nat.ble (Nat.add off (Nat.mul l es)) n) (K (.int .i64 (Int.ofNat (mn lx l))) (st h o (.cells n (spl off (tk (Nat.mul (mn lx l) es) new) c)))))))
 (fun _ o l s=>ck (Nat.beq s es) (iff (Nat.beq (mn lx l) 0) (K (.int .i64 0) h) (wCe (gt h o) fun n c=>ck (Nat.ble (Nat.mul l es) n) (K (.int .i64 (Int.ofNat (mn lx l))) (st h o (.cells n (spl 0 (tk (Nat.mul (mn lx l) es) new) c)))))))
def clr (es:Nat)(x:AV)(h:H)(K:KVH):Ans:=wSl x (fun _ _ n _=>ck (Nat.beq n 0) (K .any h)) (fun o off l c _ s=>ck (Nat.beq s es) (iff (Nat.beq l 0) (K .any h) (ck (Nat.ble l c) (wCe (gt h o) fun n cs=>ck (Nat.ble (Nat.add off (Nat.mul l es)) n) (K .any (st h o (.cells off cs))))))) (fun _ o l s=>ck (Nat.beq l 0) (K .any h))
def oN (x:Option AV)(d:Nat)(K:Nat→Ans):Ans:=Option.rec (motive:=fun _=>Ans) (K d) (fun v=>wInt v fun _ i=>ck (nonneg i) (K (nn i))) x
def okSl (lo hi m cap:Nat)(K:Ans):Ans:=ck (Nat.ble lo hi) (ck (Nat.ble hi m) (ck (Nat.ble m cap) K))
def sli (es:Nat)(mxd:Bool)(x:AV)(lo hi mx:Option AV)(K:KV):Ans:=wSl x
  (fun k s n g=>iff (Nat.beq s es) (oN lo 0 fun lo=>oN hi n fun hi=>ck (Nat.ble lo hi) (ck (Nat.ble hi n) (iff mxd (oN mx n fun m=>ck (Nat.beq hi m) (K (.fz .exm s (Nat.sub hi lo) fun i j=>g (Nat.add lo i) j))) (K (.fz (nilStays k) s (Nat.sub hi lo) fun i j=>g (Nat.add lo i) j))))) (Fz.rec (motive:=fun _=>Ans) (oN lo 0 fun lo=>oN hi 0 fun hi=>ck (Nat.ble lo hi) (ck (Nat.ble hi 0) (iff mxd (oN mx 0 fun m=>ck (Nat.beq 0 m) (K (.fz .exm es 0 fun _ _=>.any))) (K (.fz .nil es 0 fun _ _=>.any))))) none none none none none k))
  (fun o off l c ex s=>ck (Nat.beq s es) (oN lo 0 fun lo=>oN hi l fun hi=>oN mx c fun m=>okSl lo hi m c (iff (Nat.ble (Nat.succ lo) m) (K (.sl o (Nat.add off (Nat.mul lo es)) (Nat.sub hi lo) (Nat.sub m lo) (or mxd ex) es)) (K (.fz .opn es 0 fun _ _=>.any)))))
  (fun w o l s=>ck (Nat.beq s es) (oN lo 0 fun lo=>oN hi l fun hi=>oN mx l fun m=>okSl lo hi m l (ck (Nat.ble 1 l) (iff (Nat.ble (Nat.succ lo) m) (K (.sl o (Nat.mul lo es) (Nat.sub hi lo) (Nat.sub m lo) mxd es)) (K (.fz .opn es 0 fun _ _=>.any))))))
def slA (n es:Nat)(p:AV)(h:H)(lo hi mx:Option AV)(K:KV):Ans:=wRef p (fun o off=>oN lo 0 fun lo=>oN hi n fun hi=>oN mx n fun m=>okSl lo hi m n (ck (Nat.ble (Nat.succ lo) m) (wCe (gt h o) fun N _=>ck (Nat.ble 1 N) (ck (Nat.ble (Nat.add off (Nat.mul n es)) N) (K (.sl o (Nat.add off (Nat.mul lo es)) (Nat.sub hi lo) (Nat.sub m lo) true es)))))) (fun _ _=>none)
def caps (a:AV)(K:KV):Ans:=wSl a (fun _ _ _ _=>none) (fun _ _ _ c ex _=>ck ex (K (.int .i64 (Int.ofNat c)))) (fun _ _ _ _=>none)
abbrev LE:=List (Value × AV)
def wKc (x:AV)(K:Value→Ans):Ans:=
 AV.rec (motive:=fun _=>(Value→Ans)→Ans) (fun _=>none) (fun b K=>K (.bool b)) (fun k n K=>K (.int k n)) (fun _ _=>none) (fun _=>none) (fun _=>none) (fun _=>none) (fun _=>none) (fun _ _ _ _ _ _=>none) (fun _ _ _ _=>none) (fun _ _ _ _ _ _ _=>none) (fun _ _ _ _ _=>none) (fun _ _ _=>none) (fun _ _=>none) (fun _ _ _ _ _ _ _ _=>none) (fun _ _ _ _=>none) (fun _ _=>none) (fun _ _ _ _=>none) (fun _ _ _ _=>none) (fun _ _=>none) x K
def wKey (x:AV)(K:Value→Ans):Ans:=
 AV.rec (motive:=fun _=>(Value→Ans)→Ans) (fun _=>none) (fun b K=>K (.bool b)) (fun k n K=>K (.int k n)) (fun s K=>K (.string s)) (fun _=>none) (fun _=>none) (fun _=>none) (fun _=>none) (fun _ _ _ _ _ _=>none) (fun _ _ _ _=>none) (fun _ _ _ _ _ _ _=>none) (fun _ _ _ _ _=>none) (fun _ _ _=>none) (fun _ _=>none) (fun _ _ _ _ _ _ _ _=>none) (fun _ _ _ _=>none) (fun _ _=>none)
  (fun n g _ K=>Nat.rec (motive:=fun _=>Nat→List Value→Ans) (fun _ acc=>K (.agg ⟨acc⟩)) (fun _ ih i acc=>wKc (g (Nat.sub n (Nat.succ i))) fun v=>ih (Nat.succ i) (v::acc)) n 0 []) (fun _ _ _ _=>none) (fun _ _=>none) x K
def wVI (x:Value):(IntKind→Int→Bool)→Bool:=Value.rec (motive_1:=fun _=>(IntKind→Int→Bool)→Bool) (motive_2:=fun _=>Unit) (motive_3:=fun _=>Unit)
 (fun _ _=>false) (fun k n K=>K k n) (fun _ _ _=>false) (fun _ _ _ _=>false) (fun _ _=>false) (fun _ _=>false) (fun _ _ _ _=>false) (fun _ _=>false) (fun _ _=>false) (fun _ _ _ _ _ _=>false) (fun _=>false) (fun _ _ _ _=>false) (fun _=>false) (fun _ _ _=>false) (fun _ _ _=>false) (fun _ _=>()) () (fun _ _ _ _=>()) x
def wVA (x:Value):(IntKind→Int→Ans)→Ans:=Value.rec (motive_1:=fun _=>(IntKind→Int→Ans)→Ans) (motive_2:=fun _=>Unit) (motive_3:=fun _=>Unit)
 (fun _ _=>none) (fun k n K=>K k n) (fun _ _ _=>none) (fun _ _ _ _=>none) (fun _ _=>none) (fun _ _=>none) (fun _ _ _ _=>none) (fun _ _=>none) (fun _ _=>none) (fun _ _ _ _ _ _=>none) (fun _=>none) (fun _ _ _ _=>none) (fun _=>none) (fun _ _ _=>none) (fun _ _ _=>none) (fun _ _=>()) () (fun _ _ _ _=>()) x
def vq1 (x y:Value)(Y N:Ans):Ans:=Value.rec (motive_1:=fun _=>Value→Ans) (motive_2:=fun _=>Unit) (motive_3:=fun _=>Unit)
 (fun a y=>Value.rec (motive_1:=fun _=>Ans) (motive_2:=fun _=>Unit) (motive_3:=fun _=>Unit) (fun b=>iff (beqB a b) Y N) (fun _ _=>none) (fun _ _=>none) (fun _ _ _=>none) (fun _=>none) (fun _=>none) (fun _ _ _=>none) (fun _=>none) (fun _=>none) (fun _ _ _ _ _=>none) none (fun _ _ _=>none) none (fun _ _=>none) (fun _ _=>none) (fun _ _=>()) () (fun _ _ _ _=>()) y)
 (fun k n y=>wVA y fun j m=>iff (kq k j) (iff (ieq n m) Y N) N) (fun _ _ _=>none) (fun _ _ _ _=>none) (fun _ _=>none) (fun _ _=>none) (fun _ _ _ _=>none) (fun _ _=>none) (fun _ _=>none) (fun _ _ _ _ _ _=>none) (fun _=>none) (fun _ _ _ _=>none) (fun _=>none) (fun _ _ _=>none) (fun _ _ _=>none) (fun _ _=>()) () (fun _ _ _ _=>()) x y
def vqL (Y N:Ans):List Value→List Value→Ans:=List.rec (motive:=fun _=>List Value→Ans) (fun l=>List.rec (motive:=fun _=>Ans) Y (fun _ _ _=>N) l) (fun a _ ih l=>List.rec (motive:=fun _=>Ans) N (fun b r _=>vq1 a b (ih r) N) l)
def vq (x y:Value)(Y N:Ans):Ans:=Value.rec (motive_1:=fun _=>Value→Ans) (motive_2:=fun _=>Unit) (motive_3:=fun _=>Unit)
 (fun a y=>Value.rec (motive_1:=fun _=>Ans) (motive_2:=fun _=>Unit) (motive_3:=fun _=>Unit) (fun b=>iff (beqB a b) Y N) (fun _ _=>none) (fun _ _=>none) (fun _ _ _=>none) (fun _=>none) (fun _=>none) (fun _ _ _=>none) (fun _=>none) (fun _=>none) (fun _ _ _ _ _=>none) none (fun _ _ _=>none) none (fun _ _=>none) (fun _ _=>none) (fun _ _=>()) () (fun _ _ _ _=>()) y)
 (fun k n y=>wVA y fun j m=>iff (kq k j) (iff (ieq n m) Y N) N) (fun _ _ _=>none) (fun _ _ _ _=>none)
 (fun s y=>Value.rec (motive_1:=fun _=>Ans) (motive_2:=fun _=>Unit) (motive_3:=fun _=>Unit) (fun _=>none) (fun _ _=>none) (fun _ _=>none) (fun _ _ _=>none) (fun u=>iff (eqS s u) Y N) (fun _=>none) (fun _ _ _=>none) (fun _=>none) (fun _=>none) (fun _ _ _ _ _=>none) none (fun _ _ _=>none) none (fun _ _=>none) (fun _ _=>none) (fun _ _=>()) () (fun _ _ _ _=>()) y)
 (fun _ _=>none) (fun _ _ _ _=>none) (fun _ _=>none) (fun _ _=>none) (fun _ _ _ _ _ _=>none) (fun _=>none) (fun _ _ _ _=>none) (fun _=>none)
 (fun cs _ y=>Value.rec (motive_1:=fun _=>Ans) (motive_2:=fun _=>Unit) (motive_3:=fun _=>Unit) (fun _=>none) (fun _ _=>none) (fun _ _=>none) (fun _ _ _=>none) (fun _=>none) (fun _=>none) (fun _ _ _=>none) (fun _=>none) (fun _=>none) (fun _ _ _ _ _=>none) none (fun _ _ _=>none) none (fun ds _=>vqL Y N cs.toList ds.toList) (fun _ _=>none) (fun _ _=>()) () (fun _ _ _ _=>()) y) (fun _ _ _=>none) (fun _ _=>()) () (fun _ _ _ _=>()) x y
def mfind (k:Value)(Y:Nat→AV→Ans)(N:Ans)(es:LE):Nat→Ans:=List.rec (motive:=fun _=>Nat→Ans) (fun _=>N) (fun e _ ih i=>vq k e.1 (Y i e.2) (ih (Nat.succ i))) es
def mset (i:Nat)(v:AV)(es:LE):LE:=List.rec (motive:=fun _=>Nat→LE) (fun _=>[]) (fun e r ih i=>Nat.rec (motive:=fun _=>LE) ((e.1,v)::r) (fun j _=>e::ih j) i) es i
def mput (k:Value)(v:AV)(es:LE):LE:=List.rec (motive:=fun _=>LE) [(k,v)] (fun e _ ih=>e::ih) es
def lenE (es:LE):Nat:=List.rec (motive:=fun _=>Nat) 0 (fun _ _ ih=>Nat.succ ih) es
def tup2 (a b:AV):AV:=.tup 2 (nx [a,b])
def tup3 (a b c:AV):AV:=.tup 3 (nx [a,b,c])
structure Kc where r:Value→Bool
def wMap (kt:Nat)(x:AV)(h:H)(K:LE→Ans):Ans:=
 AV.rec (motive:=fun _=>(LE→Ans)→(Nat→Ans)→Ans) (fun _ _=>none) (fun _ _ _=>none) (fun _ _ _ _=>none) (fun _ _ _=>none) (fun _ _=>none) (fun _ _=>none) (fun _ _=>none) (fun K _=>K []) (fun _ _ _ _ _ _ _=>none) (fun _ _ _ _ _=>none) (fun _ _ _ _ _ _ _ _=>none) (fun _ _ _ _ _ _=>none) (fun _ _ _ _=>none) (fun o _ G=>G o) (fun _ _ _ _ _ _ _ _ _=>none) (fun _ _ _ _ _=>none) (fun _ _ _=>none) (fun _ _ _ _ _=>none) (fun _ _ _ _ _=>none) (fun _ _ _=>none) x K (fun o=>wMa (gt h o) fun t es=>ck (Nat.beq t kt) (K es))
def wMk (kt:Nat)(kc:Kc)(m k:AV)(h:H)(K:Nat→LE→Value→Ans):Ans:=wMp m fun o=>wMa (gt h o) fun t es=>ck (Nat.beq t kt) (wKey k fun kv=>ck (kc.r kv) (K o es kv))
def lenm (x:AV)(h:H)(K:KV):Ans:=
 AV.rec (motive:=fun _=>(Nat→Ans)→(Nat→Ans)→Ans) (fun _ _=>none) (fun _ _ _=>none) (fun _ _ _ _=>none) (fun _ _ _=>none) (fun _ _=>none) (fun _ _=>none) (fun _ _=>none) (fun N _=>N 0) (fun _ _ _ _ _ _ _=>none) (fun _ _ _ _ _=>none) (fun _ _ _ _ _ _ _ _=>none) (fun _ _ _ _ _ _=>none) (fun _ _ _ _=>none) (fun o _ G=>G o) (fun _ _ _ _ _ _ _ _ _=>none) (fun _ _ _ _ _=>none) (fun _ _ _=>none) (fun _ _ _ _ _=>none) (fun _ _ _ _ _=>none) (fun _ _ _=>none) x (fun n=>K (.int .i64 (Int.ofNat n))) (fun o=>wMa (gt h o) fun _ es=>K (.int .i64 (Int.ofNat (lenE es))))
def lkm (kt:Nat)(kc:Kc)(z:AV)(ok:Bool)(m k:AV)(h:H)(K:KV):Ans:=wMap kt m h fun es=>wKey k fun kv=>ck (kc.r kv) (mfind kv (fun _ v=>K (Bool.rec (motive:=fun _=>AV) v (tup2 v (.bool true)) ok)) (K (Bool.rec (motive:=fun _=>AV) z (tup2 z (.bool false)) ok)) es 0)
def mup (kt:Nat)(kc:Kc)(m k v:AV)(h:H)(K:KH):Ans:=wMk kt kc m k h fun o es kv=>ck (isC1 v) (mfind kv (fun i _=>K (st h o (.map kt (mset i v es)))) (K (st h o (.map kt (mput kv v es)))) es 0)
 where
 isC1 (v:AV):Bool:=AV.rec (motive:=fun _=>Bool) false (fun _=>true) (fun _ _=>true) (fun _=>true) true true true true (fun _ _ _ _ _=>true) (fun _ _ _=>true) (fun _ _ _ _ _ _=>true) (fun _ _ _ _=>true) (fun _ _=>true) (fun _=>true) (fun _ _ _ _ _ _ _=>true) (fun _ _ _=>true) (fun _=>true) (fun _ _ _=>true) (fun _ _ _=>false) (fun _=>true) v
def men (kt:Nat)(kc:Kc)(z m k:AV)(h:H)(K:KVH):Ans:=wMk kt kc m k h fun o es kv=>mfind kv (fun i v=>K (tup2 v (.int .i64 (Int.ofNat i))) h) (K (tup2 z (.int .i64 (Int.ofNat (lenE es)))) (st h o (.map kt (mput kv z es)))) es 0
def mst (m s v:AV)(h:H)(K:KH):Ans:=wMp m fun o=>wMa (gt h o) fun kt es=>wInt s fun _ i=>ck (nonneg i) (ck (Nat.ble (Nat.succ (nn i)) (lenE es)) (K (st h o (.map kt (mset (nn i) v es)))))
def nats (n:Nat):List Nat:=Nat.rec (motive:=fun _=>Nat→List Nat) (fun _=>[]) (fun _ ih i=>i::ih (Nat.succ i)) n 0
def mrg (m:AV)(h:H)(K:KVH):Ans:=wMp m fun o=>wMa (gt h o) fun _ es=>K (.ref h.n 0) (nw h (.itm h.n o (lenE es) (nats (lenE es)) (lenE es)))
def srg (m:AV)(h:H)(K:KVH):Ans:=wStr m fun s=>K (.ref h.n 0) (nw h (.its h.n s.data.toList s 0))
def snx (it:AV)(h:H)(K:KVH):Ans:=wRef it (fun o f=>ck (Nat.beq f 0) (wIs o (gt h o) fun l s pos=>List.rec (motive:=fun _=>Ans) (K (.tup 1 (nx [.bool false])) h) (fun b r _=>iff (Nat.ble b.toNat 127) (K (tup3 (.bool true) (.int .i64 (Int.ofNat pos)) (.int .i32 (Int.ofNat b.toNat))) (st h o (.its o r s (Nat.succ pos)))) (ck (Nat.ble (pos+(Utf8.decode s pos).2) s.size) (K (tup3 (.bool true) (.int .i64 (Int.ofNat pos)) (.int .i32 (Int.ofNat (Utf8.decode s pos).1))) (st h o (.its o (s.data.toList.drop (pos+(Utf8.decode s pos).2)) s (pos+(Utf8.decode s pos).2)))))) l)) (fun _ _=>none)
def tas (d:Nat)(z:AV)(x:AV)(K:KV):Ans:=wIfc x (fun t v=>K (Bool.rec (motive:=fun _=>AV) (tup2 z (.bool false)) (tup2 v (.bool true)) (Nat.beq t d))) (K (tup2 z (.bool false)))
def sameA (x y:Ans):Bool:=Option.rec (motive:=fun _=>Bool) false (fun v=>Option.rec (motive:=fun _=>Bool) false (fun u=>
 AV.rec (motive:=fun _=>AV→Bool) (fun _=>false) (fun a y=>AV.rec (motive:=fun _=>Bool) false (fun b=>beqB a b) (fun _ _=>false) (fun _=>false) false false false false (fun _ _ _ _ _=>false) (fun _ _ _=>false) (fun _ _ _ _ _ _=>false) (fun _ _ _ _=>false) (fun _ _=>false) (fun _=>false) (fun _ _ _ _ _ _ _=>false) (fun _ _ _=>false) (fun _=>false) (fun _ _ _=>false) (fun _ _ _=>false) (fun _=>false) y)
  (fun k a y=>AV.rec (motive:=fun _=>Bool) false (fun _=>false) (fun j b=>Bool.rec (motive:=fun _=>Bool) false (ieq a b) (kq k j)) (fun _=>false) false false false false (fun _ _ _ _ _=>false) (fun _ _ _=>false) (fun _ _ _ _ _ _=>false) (fun _ _ _ _=>false) (fun _ _=>false) (fun _=>false) (fun _ _ _ _ _ _ _=>false) (fun _ _ _=>false) (fun _=>false) (fun _ _ _=>false) (fun _ _ _=>false) (fun _=>false) y)
  (fun _ _=>false) (fun _=>false) (fun _=>false) (fun _=>false) (fun _=>false) (fun _ _ _ _ _ _=>false) (fun _ _ _ _=>false) (fun _ _ _ _ _ _ _=>false) (fun _ _ _ _ _=>false) (fun _ _ _=>false) (fun _ _=>false) (fun _ _ _ _ _ _ _ _=>false) (fun _ _ _ _=>false) (fun _ _=>false) (fun _ _ _ _=>false) (fun _ _ _ _=>false) (fun _ _=>false) v u) y) x
def bothA (x y:Ans):Ans:=ck (sameA x y) x
def delN (i:Nat):List Nat→List Nat:=List.rec (motive:=fun _=>List Nat) [] (fun j r ih=>Bool.rec (motive:=fun _=>List Nat) (j::ih) r (Nat.beq i j))
def mat (i:Nat)(es:LE)(K:AV→AV→Ans):Ans:=List.rec (motive:=fun _=>Nat→Ans) (fun _=>none) (fun e _ ih i=>Nat.rec (motive:=fun _=>Ans) (K (ofVal1 e.1) e.2) (fun j _=>ih j) i) es i
def mn1 (o m n:Nat)(left:List Nat)(es:LE)(h:H)(K:KVH)(i:Nat):Ans:=mat i es fun k v=>K (tup3 (.bool true) k v) (st h o (.itm o m n (delN i left) i))
def mnx (it:AV)(h:H)(K:KVH):Ans:=wRef it (fun o f=>ck (Nat.beq f 0) (wIt o (gt h o) fun m n left _=>wMa (gt h m) fun _ es=>ck (Nat.beq (lenE es) n) (List.rec (motive:=fun _=>Ans) (K (.tup 1 (nx [.bool false])) h)
 (fun i r _=>List.rec (motive:=fun _=>Ans) (mn1 o m n left es h K i) (fun j _ ih=>bothA (mn1 o m n left es h K j) ih) r) left))) (fun _ _=>none)
def mtr (it:AV)(h:H)(K:KV):Ans:=wRef it (fun o f=>ck (Nat.beq f 0) (wIt o (gt h o) fun m n _ cur=>wMa (gt h m) fun _ es=>ck (Nat.beq (lenE es) n) (mat cur es fun k v=>K (tup2 k v)))) (fun _ _=>none)
end
end Go.Bvm
namespace Go.Bvm
open Go Go.Avm
set_option linter.unusedVariables false
noncomputable section
abbrev Lay:=List Nat
structure Sl where g:LA→AV
structure SlL where g:LA→LA
def slot (t:Nat)(lay:Lay):Sl:=List.rec (motive:=fun _=>Sl) ⟨fun _=>.any⟩ (fun s _ ih=>Bool.rec (motive:=fun _=>Sl) ⟨fun l=>ih.g (tlL l)⟩ ⟨hd⟩ (Nat.beq t s)) lay
def selL (ss:List Sl):SlL:=List.rec (motive:=fun _=>SlL) ⟨fun _=>[]⟩ (fun s _ ih=>⟨fun l=>s.g l::ih.g l⟩) ss
def selLay (lay out:Lay):SlL:=selL (out.map fun t=>slot t lay)
def opnd (lay:Lay):Operand→Sl
 |.tmp t=>slot t lay
 |.const v=>⟨fun _=>ofVal1 v⟩
 |.global b=>⟨fun _=>.val (.pointer (some ⟨b,0,none⟩))⟩
 |.func f=>⟨fun _=>.fn f 0 (fun _=>.any) 0 (fun _=>.any)⟩
def opnds (lay:Lay)(xs:List Operand):SlL:=selL (xs.map (opnd lay))
structure Os where g:LA→Option AV
def optS (lay:Lay):Option Operand→Os
 |none=>⟨fun _=>none⟩
 |some x=>(fun s=>⟨fun l=>some (s.g l)⟩) (opnd lay x)
structure X where
 t:Tb
 e:Nat→LA→H→Ans
 r:LA→H→Ans
 p:LA→AV→H→Ans
structure C1 where r:LA→H→X→KVH→Ans
structure Cl where r:LA→H→X→(LA→H→Ans)→Ans
def bad1:C1:=⟨fun _ _ _ _=>none⟩
def badC:Cl:=⟨fun _ _ _ _=>none⟩
def zerosL (ti:TyI):LA:=tab ti.size 0 ti.zero
def zeroV (ti:TyI):AV:=match ti.agg with
 |true=>.agg ti.size (nx (zerosL ti))
 |false=>hd (zerosL ti)
structure Pt where g:LA→LA→(LA→Ans)→Ans
def partsC (place:Nat→Option (Nat × Nat))(n:Nat)(lay:Lay):List (Nat × Operand)→Pt
 |[]=>⟨fun _ cs K=>K cs⟩
 |(i,x)::r=>match place i with
  |some (off,size)=>match Nat.ble (off+size) n with
   |true=>(fun s rest=>⟨fun l cs K=>pt off size (s.g l) cs fun cs=>rest.g l cs K⟩) (opnd lay x) (partsC place n lay r)
   |false=>⟨fun _ _ _=>none⟩
  |none=>⟨fun _ _ _=>none⟩
def mapOf (P:Program)(t:Nat):Option TyI:=match P.underlying t with
 |some (.map k v)=>tyOf P v
 |_=>none
def keyTy (P:Program)(t:Nat):Nat:=match P.underlying t with
 |some (.map k _)=>k
 |_=>0
def wVS (x:Value)(K:ByteArray→Bool):Bool:=Value.rec (motive_1:=fun _=>(ByteArray→Bool)→Bool) (motive_2:=fun _=>Unit) (motive_3:=fun _=>Unit)
 (fun _ _=>false) (fun _ _ _=>false) (fun _ _ _=>false) (fun _ _ _ _=>false) (fun s K=>K s) (fun _ _=>false) (fun _ _ _ _=>false) (fun _ _=>false) (fun _ _=>false) (fun _ _ _ _ _ _=>false) (fun _=>false) (fun _ _ _ _=>false) (fun _=>false) (fun _ _ _=>false) (fun _ _ _=>false) (fun _ _=>()) () (fun _ _ _ _=>()) x K
def keyC (P:Program)(k:Nat):Kc:=match P.underlying k with
 |some (.int q)=>⟨fun v=>wVI v fun j n=>Bool.rec (motive:=fun _=>Bool) false (inR q n) (kq q j)⟩
 |some .string=>⟨fun v=>wVS v fun s=>Nat.ble s.data.toList.length 1000000⟩
 |_=>⟨fun v=>(keyOf P k v).isSome⟩
def keyOk (P:Program)(t:Nat):Bool:=match P.underlying t with
 |some (.map k _)=>match P.underlying k with
  |some (.int _)=>true
  |some .string=>true
  |some .bool=>true
  |some (.array _ _)=>P.keyTypeAt 5 k&&Nat.blt k P.types.size
  |some (.struct _)=>P.keyTypeAt 5 k&&Nat.blt k P.types.size
  |_=>false
 |_=>false
def fieldOf (P:Program)(t:Nat)(i:Nat):Option (Nat × TyI):=match tyOf P t with
 |some ti=>match ti.desc with
  |.struct fs=>match fs.toList[i]? with
   |some f=>match tyOf P f.type with
    |some fi=>some (f.offset,fi)
    |none=>none
   |none=>none
  |_=>none
 |none=>none
structure InC where r:Nat→(Nat→Ans)→Ans
def methOkP (P:Program)(t:TypeId)(name:String)(f:FuncId):Bool:=
 match P.info? t with
 |some i=>(match P.underlying t with
   |some (.pointer _)=>true
   |_=>false)&&(match i.methods.find? (·.name==name) with
   |some m=>m.path.toList.isEmpty&&(match m.func with
    |some (g,true)=>Nat.beq g f
    |_=>false)
   |none=>false)
 |none=>false
def invC (P:Program)(name:String):Nat→InC
 |0=>⟨fun _ _=>none⟩
 |t+1=>match (methOk P t name (methId P t name)||methOkP P t name (methId P t name))&&isPlain P (methId P t name) with
  |true=>(fun f r=>⟨fun u K=>iff (Nat.beq u t) (K f) (r.r u K)⟩) (methId P t name) (invC P name t)
  |false=>invC P name t
inductive EqK where|int|bool|str|slice|func|iface|ptr|agg (l:List TypeDesc)|bad
structure E2 where r:AV→AV→(Bool→Ans)→Ans
def eqD:TypeDesc→E2
 |.bool=>⟨fun x y K=>wB x (wB y (K true) (K false)) (wB y (K false) (K true))⟩
 |.int _=>⟨fun x y K=>w2 x y fun _ a b=>K (ieq a b)⟩
 |.string=>⟨fun x y K=>wStr x fun s=>wStr y fun u=>K (eqS s u)⟩
 |_=>⟨fun _ _ _=>none⟩
structure E2F where r:(Nat→AV)→(Nat→AV)→Nat→(Bool→Ans)→Ans
def eqFl:List TypeDesc→E2F
 |[]=>⟨fun _ _ _ K=>K true⟩
 |d::r=>(fun e s=>⟨fun f g i K=>e.r (f i) (g i) fun b=>s.r f g (Nat.succ i) fun c=>K (Bool.rec (motive:=fun _=>Bool) false c b)⟩) (eqD d) (eqFl r)
def isCS:Operand→Bool
 |.const (.slice none 0 0)=>true
 |_=>false
def isCF:Operand→Bool
 |.const .nilFunc=>true
 |_=>false
def isCP:Operand→Bool
 |.const (.pointer none)=>true
 |_=>false
def isCI:Operand→Bool
 |.const .nilIface=>true
 |_=>false
def eqK (P:Program)(t:Nat)(y:Operand):EqK:=match tyOf P t with
 |some ti=>match ti.desc with
  |.int _=>.int
  |.bool=>.bool
  |.string=>.str
  |.slice _=>match isCS y with|true=>.slice|false=>.bad
  |.func _ _ _=>match isCF y with|true=>.func|false=>.bad
  |.interface _=>match isCI y with|true=>.iface|false=>.bad
  |.pointer _=>match isCP y with|true=>.ptr|false=>.bad
  |.struct _=>match ti.flat with
   |some l=>.agg l
   |none=>.bad
  |_=>.bad
 |none=>.bad
def eqC (k:EqK)(neg:Bool)(x y:Sl):C1:=match k with
 |.int=>match neg with
  |false=>⟨fun l h _ K=>eqi (x.g l) (y.g l) fun v=>K v h⟩
  |true=>⟨fun l h _ K=>nei (x.g l) (y.g l) fun v=>K v h⟩
 |.bool=>⟨fun l h _ K=>eq1 (x.g l) (y.g l) fun c=>K (.bool (xor neg c)) h⟩
 |.str=>⟨fun l h _ K=>wStr (x.g l) fun s=>wStr (y.g l) fun u=>K (.bool (xor neg (eqS s u))) h⟩
 |.slice=>⟨fun l h _ K=>isNil (x.g l) fun c=>K (.bool (xor neg c)) h⟩
 |.func=>⟨fun l h _ K=>isNilF (x.g l) fun c=>K (.bool (xor neg c)) h⟩
 |.iface=>⟨fun l h _ K=>isNilI (x.g l) fun c=>K (.bool (xor neg c)) h⟩
 |.ptr=>⟨fun l h _ K=>isNilP (x.g l) fun c=>K (.bool (xor neg c)) h⟩
 |.agg ds=>(fun N e=>⟨fun l h _ K=>wAg (x.g l) fun n f=>wAg (y.g l) fun m g=>ck (Nat.beq n N) (ck (Nat.beq m N) (e.r f g 0 fun c=>K (.bool (xor neg c)) h))⟩) ds.length (eqFl ds)
 |.bad=>bad1
def bin (f:AV→AV→KV→Ans)(x y:Sl):C1:=⟨fun l h _ K=>f (x.g l) (y.g l) fun v=>K v h⟩
def isIntT (P:Program)(t:Nat):Bool:=match tyOf P t with
 |some ti=>match ti.desc with|.int _=>true|_=>false
 |none=>false
def binC (P:Program)(op:BinOp)(t:Nat)(lay:Lay)(x y:Operand):C1:=match op with
 |.eql=>eqC (eqK P t y) false (opnd lay x) (opnd lay y)
 |.neq=>eqC (eqK P t y) true (opnd lay x) (opnd lay y)
 |op=>match isIntT P t with
  |true=>match op with
   |.add=>bin ad (opnd lay x) (opnd lay y)|.sub=>bin sb (opnd lay x) (opnd lay y)|.mul=>bin ml (opnd lay x) (opnd lay y)|.quo=>bin qu (opnd lay x) (opnd lay y)|.rem=>bin rm (opnd lay x) (opnd lay y)
   |.and=>bin (bw .and) (opnd lay x) (opnd lay y)|.or=>bin (bw .or) (opnd lay x) (opnd lay y)|.xor=>bin (bw .xor) (opnd lay x) (opnd lay y)|.andNot=>bin (bw .andNot) (opnd lay x) (opnd lay y)
   |.shl=>bin shl (opnd lay x) (opnd lay y)|.shr=>bin shr (opnd lay x) (opnd lay y)
   |.lss=>bin lt (opnd lay x) (opnd lay y)|.leq=>bin le (opnd lay x) (opnd lay y)|.gtr=>bin lt (opnd lay y) (opnd lay x)|.geq=>bin le (opnd lay y) (opnd lay x)
   |_=>bad1
  |false=>bad1
def diffO (x y:Operand):Bool:=match x,y with
 |.tmp s,.tmp t=> !Nat.beq s t
 |.tmp _,.const _=>true
 |.const _,.tmp _=>true
 |_,_=>false
def compOp (P:Program)(lay:Lay)(prs:SlL)(op:Op):C1:=
 match op with
 |.move x|.assign x=>(fun s=>⟨fun l h _ K=>K (s.g l) h⟩) (opnd lay x)
 |.nilCheck x=>(fun s=>⟨fun l h _ K=>nck (s.g l) fun v=>K v h⟩) (opnd lay x)
 |.pick c a b=>(fun c a b=>⟨fun l h _ K=>jv K fun k=>wB (c.g l) (k (a.g l) h) (k (b.g l) h)⟩) (opnd lay c) (opnd lay a) (opnd lay b)
 |.alloc t=>match tyOf P t with
  |some ti=>(fun n z=>⟨fun _ h _ K=>al n z h K⟩) ti.size (zerosL ti)
  |none=>bad1
 |.box _ x=>(fun s=>⟨fun l h _ K=>bx (s.g l) h K⟩) (opnd lay x)
 |.build t ps=>match tyOf P t with
  |some ti=>match ti.desc with
   |.struct fs=>match allTyped (tyOf P) fs.toList with
    |true=>(fun n z p=>⟨fun l h _ K=>p.g l z fun cs=>K (.agg n (nx cs)) h⟩) ti.size (zerosL ti) (partsC (structPlace (tyOf P) fs) ti.size lay ps.toList)
    |false=>bad1
   |.array _ e=>match tyOf P e with
    |some ei=>(fun n z p=>⟨fun l h _ K=>p.g l z fun cs=>K (.agg n (nx cs)) h⟩) ti.size (zerosL ti) (partsC (fun i=>some (i*ei.size,ei.size)) ti.size lay ps.toList)
    |none=>bad1
   |_=>bad1
  |none=>bad1
 |.buildSlice t n ps=>match elemSize (tyOf P) t with
  |some (es,ei)=>match Nat.ble (n*es) 16777216&&Nat.blt 0 es with
   |true=>(fun N z p=>⟨fun l h _ K=>p.g l z fun cs=>bs n N es cs h K⟩) (n*es) (zs n (zerosL ei)) (partsC (fun i=>some (i*es,es)) (n*es) lay ps.toList)
   |false=>bad1
  |none=>bad1
 |.load t p=>match tyOf P t with
  |some ti=>match ti.agg with
   |true=>(fun n s=>⟨fun l h _ K=>ldn n h (s.g l) fun v=>K v h⟩) ti.size (opnd lay p)
   |false=>match Nat.beq ti.size 1 with
    |true=>(fun s=>⟨fun l h _ K=>ld1 h (s.g l) fun v=>K v h⟩) (opnd lay p)
    |false=>bad1
  |none=>bad1
 |.store t p x=>match tyOf P t with
  |some ti=>match Nat.blt 0 ti.size with
   |true=>(fun n p s=>⟨fun l h _ K=>sto n h (p.g l) (s.g l) fun h=>K .any h⟩) ti.size (opnd lay p) (opnd lay x)
   |false=>bad1
  |none=>bad1
 |.binOp op t x y _=>binC P op t lay x y
 |.unOp op _ x=>match op with
  |.not=>(fun s=>⟨fun l h _ K=>un (s.g l) fun v=>K v h⟩) (opnd lay x)
  |.neg=>(fun s=>⟨fun l h _ K=>neg (s.g l) fun v=>K v h⟩) (opnd lay x)
  |_=>bad1
 |.convert s d x=>match tyOf P s,tyOf P d with
  |some _,some b=>match b.desc with
   |.int b=>(fun s=>⟨fun l h _ K=>cvt b (s.g l) fun v=>K v h⟩) (opnd lay x)
   |_=>bad1
  |_,_=>bad1
 |.makeInterface t x=>match tyOf P t with
  |some ti=>match ti.desc with
   |.interface _=>bad1
   |_=>(fun s=>⟨fun l h _ K=>K (.ifc t (s.g l)) h⟩) (opnd lay x)
  |none=>bad1
 |.makeFunc (.func f) a b=>(fun na nb a b=>⟨fun l h _ K=>K (.fn f na (nx (a.g l)) nb (nx (b.g l))) h⟩) a.size b.size (opnds lay a.toList) (opnds lay b.toList)
 |.makeMap t none=>match keyOk P t with
  |true=>(fun kt=>⟨fun _ h _ K=>K (.mp h.n) (nw h (.map kt []))⟩) (keyTy P t)
  |false=>bad1
 |.makeSlice t n c=>match elemSize (tyOf P) t with
  |some (es,ei)=>match Nat.blt 0 es with
   |true=>(fun by_ z n c=>⟨fun l h _ K=>ms es by_ z (n.g l) (c.g l) h K⟩) ei.bytes (zerosL ei) (opnd lay n) (opnd lay c)
   |false=>bad1
  |none=>bad1
 |.slice t x lo hi mx=>match mx.isSome&&hi.isNone with
  |true=>bad1
  |false=>match tyOf P t with
  |some ti=>match ti.desc with
   |.slice e=>match tyOf P e with
    |some ei=>(fun es m x lo hi mx=>⟨fun l h _ K=>sli es m (x.g l) (lo.g l) (hi.g l) (mx.g l) fun v=>K v h⟩) ei.size mx.isSome (opnd lay x) (optS lay lo) (optS lay hi) (optS lay mx)
    |none=>bad1
   |.array n e=>match tyOf P e with
    |some ei=>(fun es x lo hi mx=>⟨fun l h _ K=>slA n es (x.g l) h (lo.g l) (hi.g l) (mx.g l) fun v=>K v h⟩) ei.size (opnd lay x) (optS lay lo) (optS lay hi) (optS lay mx)
    |none=>bad1
   |_=>bad1
  |none=>bad1
 |.fieldAddr t x i=>match fieldOf P t i with
  |some (off,fi)=>match Nat.blt 0 fi.size with
   |true=>(fun s=>⟨fun l h _ K=>fa off (s.g l) fun v=>K v h⟩) (opnd lay x)
   |false=>bad1
  |none=>bad1
 |.field t x i=>match fieldOf P t i with
  |some (off,fi)=>match Nat.blt 0 fi.size with
   |true=>match fi.agg with
    |true=>(fun n s=>⟨fun l h _ K=>wAg (s.g l) fun m g=>ck (Nat.ble (Nat.add off n) m) (K (.agg n fun j=>g (Nat.add j off)) h)⟩) fi.size (opnd lay x)
    |false=>(fun n s=>⟨fun l h _ K=>wAg (s.g l) fun m g=>ck (Nat.ble (Nat.add off n) m) (K (g off) h)⟩) fi.size (opnd lay x)
   |false=>bad1
  |none=>bad1
 |.indexAddr t x i=>match tyOf P t with
  |some ti=>match ti.desc with
   |.slice e=>match tyOf P e with
    |some ei=>(fun es x i=>⟨fun l h _ K=>ix es (x.g l) (i.g l) fun v=>K v h⟩) ei.size (opnd lay x) (opnd lay i)
    |none=>bad1
   |.array n e=>match tyOf P e with
    |some ei=>(fun es x i=>⟨fun l h _ K=>ixA n es (x.g l) (i.g l) fun v=>K v h⟩) ei.size (opnd lay x) (opnd lay i)
    |none=>bad1
   |_=>bad1
  |none=>bad1
 |.index t x i=>match tyOf P t with
  |some ti=>match ti.desc with
   |.string=>(fun x i=>⟨fun l h _ K=>ixS (x.g l) (i.g l) fun v=>K v h⟩) (opnd lay x) (opnd lay i)
   |.array n e=>match tyOf P e with
    |some ei=>match ei.agg with
     |true=>bad1
     |false=>(fun x i=>⟨fun l h _ K=>ixV n (x.g l) (i.g l) fun v=>K v h⟩) (opnd lay x) (opnd lay i)
    |none=>bad1
   |_=>bad1
  |none=>bad1
 |.lookup t m x ok=>match keyOk P t,mapOf P t with
  |true,some b=>(fun kt kc z m x=>⟨fun l h _ K=>lkm kt kc z ok (m.g l) (x.g l) h fun v=>K v h⟩) (keyTy P t) (keyC P (keyTy P t)) (zeroV b) (opnd lay m) (opnd lay x)
  |_,_=>bad1
 |.mapUpdate t m x y=>match keyOk P t with
  |true=>(fun kt kc m x y=>⟨fun l h _ K=>mup kt kc (m.g l) (x.g l) (y.g l) h fun h=>K .any h⟩) (keyTy P t) (keyC P (keyTy P t)) (opnd lay m) (opnd lay x) (opnd lay y)
  |false=>bad1
 |.mapEntry t m x=>match keyOk P t,mapOf P t with
  |true,some b=>(fun kt kc z m x=>⟨fun l h _ K=>men kt kc z (m.g l) (x.g l) h K⟩) (keyTy P t) (keyC P (keyTy P t)) (zeroV b) (opnd lay m) (opnd lay x)
  |_,_=>bad1
 |.entryStore t m x y=>match keyOk P t with
  |true=>(fun m x y=>⟨fun l h _ K=>mst (m.g l) (x.g l) (y.g l) h fun h=>K .any h⟩) (opnd lay m) (opnd lay x) (opnd lay y)
  |false=>bad1
 |.range t x=>match P.underlying t with
  |some .string=>(fun s=>⟨fun l h _ K=>srg (s.g l) h K⟩) (opnd lay x)
  |some (.map _ _)=>(fun s=>⟨fun l h _ K=>mrg (s.g l) h K⟩) (opnd lay x)
  |_=>bad1
 |.next x b=>match b with
  |true=>(fun s=>⟨fun l h _ K=>snx (s.g l) h K⟩) (opnd lay x)
  |false=>(fun s=>⟨fun l h _ K=>mnx (s.g l) h K⟩) (opnd lay x)
 |.entry x=>(fun s=>⟨fun l h _ K=>mtr (s.g l) h fun v=>K v h⟩) (opnd lay x)
 |.typeAssert x _ d true=>match tyOf P d with
  |some ti=>match ti.desc with
   |.interface _=>bad1
   |_=>(fun z s=>⟨fun l h _ K=>tas d z (s.g l) fun v=>K v h⟩) (zeroV ti) (opnd lay x)
  |none=>bad1
 |.extract x i=>(fun s=>⟨fun l h _ K=>wTu (s.g l) fun n g=>ck (Nat.ble (Nat.succ i) n) (K (g i) h)⟩) (opnd lay x)
 |.panic x=>(fun s=>⟨fun l h X _=>wIfc (s.g l) (fun t v=>X.p (prs.g l) (.ifc t v) h) none⟩) (opnd lay x)
 |.call c=>match c.callee with
  |.value f=>match f with
   |.func g=>(fun xs=>⟨fun l h X K=>(X.t.C g).r (xs.g l) h K (X.p (prs.g l))⟩) (opnds lay c.args.toList)
   |f=>(fun f xs=>⟨fun l h X K=>wFn (f.g l) (fun g na a nb b=>(X.t.C g).r (ap (tb na a) (ap (xs.g l) (tb nb b))) h K (X.p (prs.g l))) (fun o=>(X.t.R o).r (xs.g l) h K (X.p (prs.g l)))⟩) (opnd lay f) (opnds lay c.args.toList)
  |.invoke x name=>(fun alts x xs=>⟨fun l h X K=>wIfc (x.g l) (fun t v=>alts.r t fun f=>(X.t.C f).r (v::xs.g l) h K (X.p (prs.g l))) none⟩) (invC P name P.types.size) (opnd lay x) (opnds lay c.args.toList)
  |.builtin b=>match b,c.argTypes.toList,c.args.toList with
   |.len,[t],[x]=>match tyOf P t with
    |some ti=>match ti.desc with
     |.string=>(fun s=>⟨fun l h _ K=>lens (s.g l) fun v=>K v h⟩) (opnd lay x)
     |.slice _=>(fun s=>⟨fun l h _ K=>len (s.g l) fun v=>K v h⟩) (opnd lay x)
     |.map _ _=>(fun s=>⟨fun l h _ K=>lenm (s.g l) h fun v=>K v h⟩) (opnd lay x)
     |_=>bad1
    |none=>bad1
   |.cap,[t],[x]=>match tyOf P t with
    |some ti=>match ti.desc with
     |.slice _=>(fun s=>⟨fun l h _ K=>caps (s.g l) fun v=>K v h⟩) (opnd lay x)
     |_=>bad1
    |none=>bad1
   |.min,[t,_],[x,y]=>match isIntT P t with
    |true=>bin mi (opnd lay x) (opnd lay y)
    |false=>bad1
   |.max,[t,_],[x,y]=>match isIntT P t with
    |true=>bin ma (opnd lay x) (opnd lay y)
    |false=>bad1
   |.append,[t,t2],[s,x]=>match Nat.beq t t2,elemSize (tyOf P) t with
    |true,some (es,ei)=>match Nat.blt 0 es&&diffO s x with
     |true=>(fun by_ s x=>⟨fun l h _ K=>app es by_ (s.g l) (x.g l) h K⟩) ei.bytes (opnd lay s) (opnd lay x)
     |false=>bad1
    |_,_=>bad1
   |.copy,[t,t2],[s,x]=>match Nat.beq t t2,elemSize (tyOf P) t with
    |true,some (es,_)=>match Nat.blt 0 es&&diffO s x with
     |true=>(fun s x=>⟨fun l h _ K=>cpy es (s.g l) (x.g l) h K⟩) (opnd lay s) (opnd lay x)
     |false=>bad1
    |_,_=>bad1
   |.clear,[t],[x]=>match elemSize (tyOf P) t with
    |some (es,_)=>match Nat.blt 0 es with
     |true=>(fun s=>⟨fun l h _ K=>clr es (s.g l) h K⟩) (opnd lay x)
     |false=>bad1
    |_=>bad1
   |_,_,_=>bad1
 |_=>bad1
def bit (t:Nat):Nat:=Nat.shiftLeft 1 t
def useM (x:Operand)(m:Nat):Nat:=match x with|.tmp t=>Nat.lor m (bit t)|_=>m
def delM (t:Nat)(m:Nat):Nat:=Nat.sub m (Nat.land m (bit t))
def useL (xs:List Operand)(m:Nat):Nat:=List.rec (motive:=fun _=>Nat) m (fun x _ ih=>useM x ih) xs
def liveOps (ops:List Oper)(m:Nat):Nat:=List.rec (motive:=fun _=>Nat) m (fun o _ ih=>useL o.op.operands.toList (match o.dst with|some t=>delM t ih|none=>ih)) ops
def lkM (id:Nat)(xs:List (Nat × Nat)):Nat:=List.rec (motive:=fun _=>Nat) 0 (fun p _ ih=>Bool.rec (motive:=fun _=>Nat) ih p.2 (Nat.beq p.1 id)) xs
def usesOf (c:Code):Nat:=Code.rec (motive:=fun _=>Nat) 0 (fun _ ops _=>liveOps ops.toList 0) (fun _ _ a b=>Nat.lor a b) (fun x _ _ a b=>useM x (Nat.lor a b)) (fun _ _ a=>a) (fun _ a=>a) (fun f _ _ _ a b=>useM f (Nat.lor a b)) (fun _=>0) (fun _ a=>a) (fun _=>0) (fun _=>0) 0 (fun _=>0) c
structure Sx where
 xs:List (Nat × Nat)
 rs:Nat
def exitsM (xs:List (Nat × Nat)):Nat:=List.rec (motive:=fun _=>Nat) 0 (fun p _ ih=>Nat.lor p.2 ih) xs
def live (c:Code):Nat→Sx→Nat:=
 Code.rec (motive:=fun _=>Nat→Sx→Nat) (fun m _=>m) (fun _ ops _ m _=>liveOps ops.toList m) (fun _ _ a b m x=>a (b m x) x) (fun t _ _ a b m x=>useM t (Nat.lor (a m x) (b m x)))
  (fun id _ a m x=>a m ⟨(id,m)::x.xs,x.rs⟩) (fun c a m x=>Nat.lor (usesOf c) (Nat.lor (exitsM x.xs) x.rs)) (fun f ps a b _ _ m x=>useM f (Nat.lor (Nat.lor (usesOf a) (usesOf b)) (Nat.lor m (Nat.lor (exitsM x.xs) x.rs))))
  (fun id m x=>lkM id x.xs) (fun _ a m x=>a m x) (fun _ m _=>m) (fun _ m _=>m) (fun _ x=>x.rs) (fun _ m _=>m) c
def bitsOf (fuel:Nat):Nat→Lay:=Nat.rec (motive:=fun _=>Nat→Lay) (fun _=>[]) (fun _ ih m=>Bool.rec (motive:=fun _=>Lay) ((fun t=>t::ih (Nat.sub m (bit t))) (Nat.log2 m)) [] (Nat.beq m 0)) fuel
def layOf (m:Nat):Lay:=bitsOf 300 m
def maskOf (l:List Nat):Nat:=List.rec (motive:=fun _=>Nat) 0 (fun t _ ih=>Nat.lor (bit t) ih) l
def inM (m:Nat)(l:Lay):Lay:=List.rec (motive:=fun _=>Lay) [] (fun t _ ih=>Bool.rec (motive:=fun _=>Lay) ih (t::ih) (Nat.beq (Nat.mod (Nat.shiftRight m t) 2) 1)) l
structure Sy where
 xs:List (Nat × Lay)
 rs:List Nat
 sx:Sx
 nt:Nat
 out:Bool
def lkX (id:Nat)(xs:List (Nat × Lay)):Lay:=List.rec (motive:=fun _=>Lay) [] (fun p _ ih=>Bool.rec (motive:=fun _=>Lay) ih p.2 (Nat.beq p.1 id)) xs
def skipV:AV:=.tup 0 (fun _=>.any)
def guardS (lay:Lay)(all:List Oper)(j:Nat):Sl:=match all[j]? with
 |some o=>match o.dst with
  |some d=>slot d lay
  |none=>⟨fun _=>.any⟩
 |none=>⟨fun _=>.any⟩
def compG (P:Program)(lay rs:Lay)(all:List Oper)(o:Oper):C1:=match o.guard with
 |none=>compOp P lay (selLay lay rs) o.op
 |some g=>(fun s c=>⟨fun l h X K=>jv K fun k=>wG g.2 (s.g l) (c.r l h X k) (k skipV h)⟩) (guardS lay all g.1) (compOp P lay (selLay lay rs) o.op)
def compOps (P:Program)(rs:Lay)(nt:Nat)(all:List Oper)(ops:List Oper):Lay→Lay→Cl:=
 List.rec (motive:=fun _=>Lay→Lay→Cl) (fun lay out=>(fun s=>⟨fun l h _ K=>K (s.g l) h⟩) (selLay lay out))
  (fun o _ ih lay out=>match o.dst with
   |some t=>match Nat.blt t nt with
    |true=>(fun c k=>⟨fun l h X K=>c.r l h X fun v h=>k.r (v::l) h X K⟩) (compG P lay rs all o) (ih (t::lay) out)
    |false=>badC
   |none=>(fun c k=>⟨fun l h X K=>c.r l h X fun _ h=>k.r l h X K⟩) (compG P lay rs all o) (ih lay out)) ops
def lp (b:(LA→H→Ans)→LA→H→Ans):LA→H→Ans:=Nat.rec (motive:=fun _=>LA→H→Ans) (fun _ _=>none) (fun _ ih v h=>b ih v h) 100000
structure ExC where r:Nat→LA→H→X→Ans
def exC (lay:Lay)(xs:List (Nat × Lay)):ExC:=List.rec (motive:=fun _=>ExC) ⟨fun _ _ _ _=>none⟩ (fun p _ ih=>(fun s=>⟨fun n l h X=>iff (Nat.beq n p.1) (X.e p.1 (s.g l) h) (ih.r n l h X)⟩) (selLay lay p.2)) xs
def rngF (X:X)(f:AV)(cd:Rnd)(vs:LA)(h:H)(K:Nat→H→Ans):Ans:=
 wFn f (fun g na a nb b=>(X.t.C g).r (ap (tb na a) (.yl h.n::tb nb b)) (nw h (.frm cd vs 0)) (fun _ h'=>wFr (gt h' h.n) fun _ _ s=>K s (kill h' h.n)) (fun _ _=>none)) (fun _=>none)
def comp (P:Program)(draws:Lay→List Oper→Lay→Lay→Nat→Cl)(c:Code):Lay→Lay→Sy→Cl:=
 Code.rec (motive:=fun _=>Lay→Lay→Sy→Cl)
  (fun lay out _=>(fun s=>⟨fun l h _ K=>K (s.g l) h⟩) (selLay lay out))
  (fun _ ops d lay out y=>match d with
   |false=>compOps P y.rs y.nt ops.toList ops.toList lay out
   |true=>draws y.rs ops.toList lay out y.nt)
  (fun _ b ca cb lay out y=>(fun mid=>(fun a b=>⟨fun l h X K=>a.r l h X fun l h=>b.r l h X K⟩) (ca lay mid y) (cb mid out y)) (layOf (live b (maskOf out) y.sx)))
  (fun t _ _ ca cb lay out y=>match t with
   |.tmp t=>(fun s a b=>⟨fun l h X K=>jn K fun k=>wB (s.g l) (a.r l h X k) (b.r l h X k)⟩) (slot t lay) (ca lay out y) (cb lay out y)
   |.const (.bool true)=>ca lay out y
   |.const (.bool false)=>cb lay out y
   |_=>badC)
  (fun id _ ca lay out y=>(fun a=>⟨fun l h X K=>jn K fun k=>a.r l h ⟨X.t,fun j l h=>iff (Nat.beq j id) (k l h) (X.e j l h),X.r,X.p⟩ k⟩) (ca lay out ⟨(id,out)::y.xs,y.rs,⟨(id,maskOf out)::y.sx.xs,y.sx.rs⟩,y.nt,y.out⟩))
  (fun c ca lay _ y=>(fun hl=>(fun s a=>⟨fun l h X _=>lp (fun L l h=>a.r l h X L) (s.g l) h⟩) (selLay lay hl) (ca hl hl y)) (inM (Nat.lor (usesOf c) (Nat.lor (exitsM y.sx.xs) y.sx.rs)) lay))
  (fun f ps a b _ _ lay out y=>match y.out with
   |true=>(fun fl=>(fun f sv sk sr ex=>⟨fun l h X K=>rngF X (f.g l) ⟨ps.toList,a,b,fl,y.nt⟩ (sv.g l) h fun n h=>Nat.rec (motive:=fun _=>Ans) (K (sk.g l) h) (fun n _=>Nat.rec (motive:=fun _=>Ans) none (fun n _=>Nat.rec (motive:=fun _=>Ans) (X.r (sr.g l) h) (fun n _=>Nat.rec (motive:=fun _=>Ans) none (fun n _=>ex.r n l h X) n) n) n) n⟩)
     (opnd lay f) (selLay lay fl) (selLay lay out) (selLay lay y.rs) (exC lay y.xs)) (inM (Nat.lor (usesOf a) (usesOf b)) lay)
   |false=>badC)
  (fun id lay _ y=>(fun s=>⟨fun l h X _=>X.e id (s.g l) h⟩) (selLay lay (lkX id y.xs)))
  (fun _ ca lay out y=>ca lay out y)
  (fun _ lay out _=>(fun s=>⟨fun l h _ K=>K (s.g l) h⟩) (selLay lay out))
  (fun _ _ _ _=>badC)
  (fun lay _ y=>(fun s=>⟨fun l h X _=>X.r (s.g l) h⟩) (selLay lay y.rs))
  (fun _ _ _ _=>badC) c
def rawS (r:ResultVar):Nat:=match r with|.tmp t=>t|.cell a _=>a
structure RsC where r:LA→LA→H→KVH→Ans
def resE (n:Nat):RsC:=match Nat.beq n 1 with
 |true=>⟨fun _ acc h K=>K (hd acc) h⟩
 |false=>⟨fun _ acc h K=>K (.tup n (nx (revA acc []))) h⟩
def resC (P:Program)(n:Nat)(rs:List ResultVar):RsC:=
 List.rec (motive:=fun _=>RsC) (resE n)
  (fun r _ ih=>match r with
   |.tmp _=>⟨fun l acc h K=>ih.r (tlL l) (hd l::acc) h K⟩
   |.cell _ t=>match tyOf P t with
    |some ti=>match ti.agg with
     |true=>(fun n=>⟨fun l acc h K=>wRef (hd l) (fun _ _=>ldn n h (hd l) fun v=>ih.r (tlL l) (v::acc) h K) fun _ _=>none⟩) ti.size
     |false=>match Nat.beq ti.size 1 with
      |true=>⟨fun l acc h K=>wRef (hd l) (fun _ _=>ld1 h (hd l) fun v=>ih.r (tlL l) (v::acc) h K) fun _ _=>none⟩
      |false=>⟨fun _ _ _ _=>none⟩
    |none=>⟨fun _ _ _ _=>none⟩) rs
structure FnC where r:Tb→LA→H→KVH→KVH→Ans
def badF:FnC:=⟨fun _ _ _ _ _=>none⟩
def argLay (n:Nat):Lay:=Nat.rec (motive:=fun _=>Lay) [] (fun i ih=>i::ih) n
def noE:Nat→LA→H→Ans:=fun _ _ _=>none
def noR:LA→H→Ans:=fun _ _=>none
def defShape (c:Code):Option (Code × Nat × Nat × List Nat × Code):=match c with
 |.seq A (.seq (.region _ ops false) B)=>match ops.toList with
  |[o,_]=>match o.op,o.dst with
   |.makeFunc (.func f) _ b,some t=>(fun caps=>match defOps f t caps ops.toList&&isPathFree t caps with|true=>some (A,f,t,caps,B)|false=>none) (b.toList.map fun x=>match x with|.tmp t=>t|_=>0)
   |_,_=>none
  |_=>none
 |_=>none
 where
 isPathFree (t:Nat):List Nat→Bool
  |[]=>true
  |c::r=> !Nat.beq c t&&isPathFree t r
def compF0 (P:Program)(draws:Lay→List Oper→Lay→Lay→Nat→Cl)(fn:Func)(c:Code)(raws:Lay)(np:Nat):FnC:=match defShape c with
 |none=>(fun a s=>⟨fun t l h K Pn=>ck (Nat.beq (lenL l) np) (a.r (revA l []) h ⟨t,noE,fun l h=>s.r l [] h K,fun _=>Pn⟩ fun l h=>s.r l [] h K)⟩) (comp P draws c (argLay np) raws ⟨[],raws,⟨[],maskOf raws⟩,fn.ntmps,true⟩) (resC P fn.results.size fn.results.toList)
 |some (A,g,t0,caps,B)=>(fun mid=>match Nat.blt t0 fn.ntmps&&defShape.isPathFree t0 mid with
  |true=>(fun a b cs s=>⟨fun t l h K Pn=>ck (Nat.beq (lenL l) np) (a.r (revA l []) h ⟨t,noE,noR,fun _ _ _=>none⟩ fun l h=>
   b.r l h ⟨t,noE,fun l' h=>(t.D g none).r (cs.g l) h (fun _ h=>s.r l' [] h K) fun _ _=>none,fun l' v h=>(t.D g (some v)).r (cs.g l) h (fun _ h=>s.r l' [] h K) fun _ _=>none⟩
    fun l' h=>(t.D g none).r (cs.g l) h (fun _ h=>s.r l' [] h K) fun _ _=>none)⟩)
   (comp P draws A (argLay np) mid ⟨[],raws,⟨[],maskOf raws⟩,fn.ntmps,false⟩) (comp P draws B mid raws ⟨[],raws,⟨[],maskOf raws⟩,fn.ntmps,true⟩) (selLay mid caps) (resC P fn.results.size fn.results.toList)
  |false=>badF)
  (layOf (Nat.lor (live B (maskOf raws) ⟨[],maskOf raws⟩) (Nat.lor (maskOf caps) (maskOf raws))))
def compF (P:Program)(draws:Lay→List Oper→Lay→Lay→Nat→Cl)(f:Nat):FnC:=
 match P.funcs[f]? with
 |some fn=>match fn.body with
  |some c=>match Nat.ble (fn.params.size+fn.nfree) fn.ntmps&&nodupB (fn.results.toList.map rawS) with
   |true=>compF0 P draws fn c (fn.results.toList.map rawS) (fn.params.size+fn.nfree)
   |false=>badF
  |none=>badF
 |none=>badF
def recShape (c:Code):Option (Nat × Option Nat × Code):=match c with
 |.seq (.region _ ops false) B=>match ops.toList with
  |[o]=>match recO o with
   |some d=>some (d,none,B)
   |none=>none
  |[o,p]=>match recO o,p.op,p.dst,p.guard with
   |some d,.assign (.tmp t),some d1,none=>match Nat.beq t d with
    |true=>some (d,some d1,B)
    |false=>none
   |_,_,_,_=>none
  |_=>none
 |_=>none
 where
 recO (o:Oper):Option Nat:=match o.op,o.dst,o.guard with
  |.call k,some d,none=>match k.callee,k.args.toList with
   |.builtin .recover,[]=>some d
   |_,_=>none
  |_,_,_=>none
def rvA:Option AV→AV
 |none=>.nili
 |some x=>x
structure FnD where r:Tb→Option AV→LA→H→KH→Ans
def compD (P:Program)(draws:Lay→List Oper→Lay→Lay→Nat→Cl)(f:Nat):FnD:=
 match P.funcs[f]? with
 |some fn=>match fn.body with
  |some c=>match recShape c with
   |some (d,d1,B)=>match Nat.blt d fn.ntmps&&(Nat.ble (fn.params.size+fn.nfree) d&&(okD1 d fn.ntmps (fn.params.size+fn.nfree) d1&&(fn.results.toList.isEmpty&&isPlain P f))) with
    |true=>match d1 with
     |none=>(fun np a=>⟨fun t v l h K=>ck (Nat.beq (lenL l) np) (a.r (rvA v::revA l []) h ⟨t,noE,fun _ h=>K h,fun _ _ _=>none⟩ fun _ h=>K h)⟩) (fn.params.size+fn.nfree) (comp P draws B (d::argLay (fn.params.size+fn.nfree)) [] ⟨[],[],⟨[],0⟩,fn.ntmps,false⟩)
     |some d1=>(fun np a=>⟨fun t v l h K=>ck (Nat.beq (lenL l) np) (a.r (rvA v::rvA v::revA l []) h ⟨t,noE,fun _ h=>K h,fun _ _ _=>none⟩ fun _ h=>K h)⟩) (fn.params.size+fn.nfree) (comp P draws B (d1::d::argLay (fn.params.size+fn.nfree)) [] ⟨[],[],⟨[],0⟩,fn.ntmps,false⟩)
    |false=>⟨fun _ _ _ _ _=>none⟩
   |none=>⟨fun _ _ _ _ _=>none⟩
  |none=>⟨fun _ _ _ _ _=>none⟩
 |none=>⟨fun _ _ _ _ _=>none⟩
 where
 okD1 (d nt np:Nat) (d1:Option Nat):Bool:=match d1 with
  |none=>true
  |some e=>Nat.blt e nt&&(Nat.ble np e && !Nat.beq d e)
structure RdC where r:Tb→Nat→LA→LA→H→KVH→Ans
def finR (o:Nat)(K:KVH)(s:Nat)(v:AV)(h:H):Ans:=wFr (gt h o) fun cd vs _=>K v (st h o (.frm cd vs s))
def compR (P:Program)(draws:Lay→List Oper→Lay→Lay→Nat→Cl)(cd:Rnd):RdC:=match allLt cd.ps cd.nt with
 |true=>(fun mid np=>(fun a b=>⟨fun t o vs l h K=>ck (Nat.beq (lenL l) np) (a.r (revA l vs) h ⟨t,noE,noR,fun _ _ _=>none⟩ fun l h=>wFr (gt h o) fun cd1 vs1 s1=>ck (Nat.beq s1 0)
   (b.r l (st h o (.frm cd1 vs1 1)) ⟨t,fun j _ h=>finR o K (Nat.add j 4) (.bool false) h,fun _ h=>finR o K 2 (.bool false) h,fun _ _ _=>none⟩ fun _ h=>finR o K 0 (.bool true) h))⟩)
  (comp P draws cd.a (cd.ps.reverse++cd.lay) mid ⟨[],[],⟨[],0⟩,cd.nt,false⟩) (comp P draws cd.b mid [] ⟨[],[],⟨[],0⟩,cd.nt,false⟩)) (layOf (live cd.b 0 ⟨[],0⟩)) (List.length cd.ps)
 |false=>⟨fun _ _ _ _ _ _=>none⟩
def eqF (x:AV):AV→Bool:=
 AV.rec (motive:=fun _=>AV→Bool) (fun _=>false) (fun a y=>fB y fun b=>beqB a b) (fun k a y=>fI y fun j b=>Bool.rec (motive:=fun _=>Bool) false (ieq a b) (kq k j)) (fun s y=>fS y fun u=>eqS s u) (fun y=>fT 0 y) (fun y=>fT 1 y) (fun y=>fT 2 y) (fun y=>fT 3 y)
  (fun k s n _ ih y=>fZ y fun j t m g=>Bool.rec (motive:=fun _=>Bool) false (Bool.rec (motive:=fun _=>Bool) false (Bool.rec (motive:=fun _=>Bool) false (Nat.rec (motive:=fun _=>Nat→Bool) (fun _=>true) (fun _ ihn i=>Bool.rec (motive:=fun _=>Bool) false (ihn (Nat.succ i)) (Nat.rec (motive:=fun _=>Nat→Bool) (fun _=>true) (fun _ ihs c=>Bool.rec (motive:=fun _=>Bool) false (ihs (Nat.succ c)) (ih i c (g i c))) s 0)) n 0) (Nat.beq n m)) (Nat.beq s t)) (fzq k j))
  (fun _ _ _ _=>false) (fun _ _ _ _ _ _ _=>false) (fun _ _ _ _ _=>false) (fun _ _ _=>false) (fun _ _=>false) (fun _ _ _ _ _ _ _ _=>false) (fun _ _ _ _=>false) (fun _ _=>false)
  (fun n _ ih y=>fA y fun m g=>Bool.rec (motive:=fun _=>Bool) false (Nat.rec (motive:=fun _=>Nat→Bool) (fun _=>true) (fun _ ihn i=>Bool.rec (motive:=fun _=>Bool) false (ihn (Nat.succ i)) (ih i (g i))) n 0) (Nat.beq n m)) (fun _ _ _ _=>false) (fun _ _=>false) x
 where
 fB (y:AV) (K:Bool→Bool):Bool:=AV.rec (motive:=fun _=>Bool) false (fun b=>K b) (fun _ _=>false) (fun _=>false) false false false false (fun _ _ _ _ _=>false) (fun _ _ _=>false) (fun _ _ _ _ _ _=>false) (fun _ _ _ _=>false) (fun _ _=>false) (fun _=>false) (fun _ _ _ _ _ _ _=>false) (fun _ _ _=>false) (fun _=>false) (fun _ _ _=>false) (fun _ _ _=>false) (fun _=>false) y
 fI (y:AV) (K:IntKind→Int→Bool):Bool:=AV.rec (motive:=fun _=>Bool) false (fun _=>false) (fun k n=>K k n) (fun _=>false) false false false false (fun _ _ _ _ _=>false) (fun _ _ _=>false) (fun _ _ _ _ _ _=>false) (fun _ _ _ _=>false) (fun _ _=>false) (fun _=>false) (fun _ _ _ _ _ _ _=>false) (fun _ _ _=>false) (fun _=>false) (fun _ _ _=>false) (fun _ _ _=>false) (fun _=>false) y
 fS (y:AV) (K:ByteArray→Bool):Bool:=AV.rec (motive:=fun _=>Bool) false (fun _=>false) (fun _ _=>false) (fun s=>K s) false false false false (fun _ _ _ _ _=>false) (fun _ _ _=>false) (fun _ _ _ _ _ _=>false) (fun _ _ _ _=>false) (fun _ _=>false) (fun _=>false) (fun _ _ _ _ _ _ _=>false) (fun _ _ _=>false) (fun _=>false) (fun _ _ _=>false) (fun _ _ _=>false) (fun _=>false) y
 fT (c:Nat) (y:AV):Bool:=AV.rec (motive:=fun _=>Bool) false (fun _=>false) (fun _ _=>false) (fun _=>false) (Nat.beq c 0) (Nat.beq c 1) (Nat.beq c 2) (Nat.beq c 3) (fun _ _ _ _ _=>false) (fun _ _ _=>false) (fun _ _ _ _ _ _=>false) (fun _ _ _ _=>false) (fun _ _=>false) (fun _=>false) (fun _ _ _ _ _ _ _=>false) (fun _ _ _=>false) (fun _=>false) (fun _ _ _=>false) (fun _ _ _=>false) (fun _=>false) y
 fZ (y:AV) (K:Fz→Nat→Nat→(Nat→Nat→AV)→Bool):Bool:=AV.rec (motive:=fun _=>Bool) false (fun _=>false) (fun _ _=>false) (fun _=>false) false false false false (fun k s n g _=>K k s n g) (fun _ _ _=>false) (fun _ _ _ _ _ _=>false) (fun _ _ _ _=>false) (fun _ _=>false) (fun _=>false) (fun _ _ _ _ _ _ _=>false) (fun _ _ _=>false) (fun _=>false) (fun _ _ _=>false) (fun _ _ _=>false) (fun _=>false) y
 fA (y:AV) (K:Nat→(Nat→AV)→Bool):Bool:=AV.rec (motive:=fun _=>Bool) false (fun _=>false) (fun _ _=>false) (fun _=>false) false false false false (fun _ _ _ _ _=>false) (fun _ _ _=>false) (fun _ _ _ _ _ _=>false) (fun _ _ _ _=>false) (fun _ _=>false) (fun _=>false) (fun _ _ _ _ _ _ _=>false) (fun _ _ _=>false) (fun _=>false) (fun n g _=>K n g) (fun _ _ _=>false) (fun _=>false) y
 fzq (j k:Fz):Bool:=Fz.rec (motive:=fun _=>Fz→Bool) (fun k=>Fz.rec (motive:=fun _=>Bool) true false false false false false k) (fun k=>Fz.rec (motive:=fun _=>Bool) false true false false false false k) (fun k=>Fz.rec (motive:=fun _=>Bool) false false true false false false k)
  (fun k=>Fz.rec (motive:=fun _=>Bool) false false false true false false k) (fun k=>Fz.rec (motive:=fun _=>Bool) false false false false true false k) (fun k=>Fz.rec (motive:=fun _=>Bool) false false false false false true k) j k
def eqL (aL:LA):LA→Bool:=List.rec (motive:=fun _=>LA→Bool) (fun l=>List.rec (motive:=fun _=>Bool) true (fun _ _ _=>false) l) (fun a _ ih l=>List.rec (motive:=fun _=>Bool) false (fun b r _=>Bool.rec (motive:=fun _=>Bool) false (ih r) (eqF a b)) l) aL
def below0 (l:LA):Bool:=eqL l l
def memoC (ms:List (LA × AV))(l:LA)(K:AV→Ans)(N:Ans):Ans:=List.rec (motive:=fun _=>Ans) N (fun m _ ih=>iff (eqL m.1 l) (K m.2) ih) ms
def ans1 (v:AV):Ans:=AV.rec (motive:=fun _=>Ans) none (fun b=>some (.bool b)) (fun k n=>some (.int k n)) (fun _=>none) none none none none (fun _ _ _ _ _=>none) (fun _ _ _=>none) (fun _ _ _ _ _ _=>none) (fun _ _ _ _=>none) (fun _ _=>none) (fun _=>none) (fun _ _ _ _ _ _ _=>none) (fun _ _ _=>none) (fun _=>none) (fun _ _ _=>none) (fun _ _ _=>none) (fun _=>none) v
def subC (a:Ans)(K:AV→Ans):Ans:=Option.rec (motive:=fun _=>Ans) none (fun v=>K v) a
def frz (h:H)(k:Nat):AV→Ans:=Nat.rec (motive:=fun _=>AV→Ans) (fun _=>none) (fun _ ih x=>
 AV.rec (motive:=fun _=>Ans) none (fun b=>some (.bool b)) (fun k n=>some (.int k n)) (fun s=>some (.str s)) (some .nilp) (some .nilf) (some .nili) (some .nilm) (fun k s n g _=>some (.fz k s n g)) (fun n g _=>some (.fp n g))
  (fun o off len cap ex es=>ck (Nat.blt 0 es) (wRe (gt h o) fun N l=>ck (Nat.ble (Nat.add off (Nat.mul len es)) N) (ck (Nat.ble len cap) (frzL ih (tk N l) fun c=>some (.fz .opn es len fun i j=>nx c (Nat.add off (Nat.add (Nat.mul i es) j)))))))
  (fun w o len es=>ck (Nat.blt 0 es) (iff (Nat.beq len 0) (some (.fz (Bool.rec (motive:=fun _=>Fz) .may .auto w) es 0 fun _ _=>.any)) (wRe (gt h o) fun N l=>ck (Nat.ble (Nat.mul len es) N) (frzL ih (tk N l) fun c=>some (.fz (Bool.rec (motive:=fun _=>Fz) .may .auto w) es len fun i j=>nx c (Nat.add (Nat.mul i es) j))))))
  (fun _ _=>none) (fun _=>none) (fun _ _ _ _ _ _ _=>none) (fun _ _ _=>none) (fun _=>none) (fun n g _=>frzL ih (tb n g) fun c=>some (.agg n (nx c))) (fun n g _=>frzL ih (tb n g) fun c=>some (.tup n (nx c))) (fun _=>none) x) k
 where
 frzL (f:AV→Ans) (l:LA) (K:LA→Ans):Ans:=List.rec (motive:=fun _=>(LA→Ans)→Ans) (fun K=>K []) (fun a _ ih K=>subC (f a) fun b=>ih fun r=>K (b::r)) l K
def cellsOf (c:CO):LA:=CO.rec (motive:=fun _=>LA) [] (fun n l=>tk n l) (fun _ _=>[]) (fun _ _ _=>[]) (fun _ _ _ _ _=>[]) (fun _ _ _ _=>[]) (fun n l=>tk n l) c
def objL (f:AV→List Nat)(l:LA):List Nat:=List.rec (motive:=fun _=>List Nat) [] (fun a _ ih=>f a++ih) l
def objF (h:H)(k:Nat):AV→List Nat:=Nat.rec (motive:=fun _=>AV→List Nat) (fun _=>[]) (fun _ ih x=>
 AV.rec (motive:=fun _=>List Nat) [] (fun _=>[]) (fun _ _=>[]) (fun _=>[]) [] [] [] [] (fun _ _ _ _ _=>[]) (fun _ _ _=>[]) (fun o _ _ _ _ _=>o::objL ih (cellsOf (gt h o))) (fun _ o len _=>Bool.rec (motive:=fun _=>List Nat) (o::objL ih (cellsOf (gt h o))) [] (Nat.beq len 0))
  (fun _ _=>[]) (fun _=>[]) (fun _ _ _ _ _ _ _=>[]) (fun _ _ _=>[]) (fun _=>[]) (fun n g _=>objL ih (tb n g)) (fun n g _=>objL ih (tb n g)) (fun _=>[]) x) k
def frz1 (h:H)(o:Nat):H:=CO.rec (motive:=fun _=>H) h (fun n l=>st h o (.fce n l)) (fun _ _=>h) (fun _ _ _=>h) (fun _ _ _ _ _=>h) (fun _ _ _ _=>h) (fun _ _=>h) (gt h o)
def frzH (os:List Nat):H→H:=List.rec (motive:=fun _=>H→H) (fun h=>h) (fun o _ ih h=>ih (frz1 h o)) os
def frzO (h:H)(l:LA):Option LA:=List.rec (motive:=fun _=>Option LA) (some []) (fun a _ ih=>Option.rec (motive:=fun _=>Option LA) none (fun b=>Option.rec (motive:=fun _=>Option LA) none (fun r=>some (b::r)) ih) (frz h 40 a)) l
def memoH (ms:List (LA × AV))(l:LA)(h:H)(K:KVH)(N:Ans):Ans:=Option.rec (motive:=fun _=>Ans) N (fun r=>memoC ms r (fun v=>K v (frzH (objL (objF h 40) l) h)) N) (frzO h l)
def h0:H:=⟨.e,0⟩
structure Cf where
 P:Program
 draws:Lay→List Oper→Lay→Lay→Nat→Cl
 memo:Nat→List (LA × AV)
 sub:Nat→Bool
structure MmC where r:LA→H→KVH→Ans→Ans
def mmC (ms:List (LA × AV)):MmC:=match ms with
 |[]=>⟨fun _ _ _ N=>N⟩
 |ms=>⟨fun l h K N=>memoC ms l (fun v=>K v h) (memoH ms l h K N)⟩
def callC (c:Cf)(f:Nat):FnC:=match isPlain c.P f with
 |true=>(fun m b=>match c.sub f with
  |false=>⟨fun t l h K Pn=>m.r l h K (b.r t l h K Pn)⟩
  |true=>⟨fun t l h K Pn=>m.r l h K (ck (below0 l) (subC (b.r t l h0 (fun v _=>ans1 v) fun _ _=>none) fun v=>K v h))⟩) (mmC (c.memo f)) (compF c.P c.draws f)
 |false=>badF
def L (c:Cf):Nat→Tb:=Nat.rec (motive:=fun _=>Tb) ⟨fun _=>⟨fun _ _ _ _=>none⟩,fun _=>⟨fun _ _ _ _=>none⟩,fun _ _=>⟨fun _ _ _ _=>none⟩⟩
 (fun _ ih=>⟨fun f=>⟨fun l h K Pn=>(callC c f).r ih l h K Pn⟩,fun o=>⟨fun l h K _=>wFr (gt h o) fun cd vs s=>ck (Nat.beq s 0) ((compR c.P c.draws cd).r ih o vs l h K)⟩,
  fun g v=>⟨fun l h K _=>(compD c.P c.draws g).r ih v l h fun h=>K .any h⟩⟩)
def isT (a:Ans):Bool:=Option.rec (motive:=fun _=>Bool) false (fun v=>AV.rec (motive:=fun _=>Bool) false (fun b=>b) (fun _ _=>false) (fun _=>false) false false false false (fun _ _ _ _ _=>false) (fun _ _ _=>false) (fun _ _ _ _ _ _=>false) (fun _ _ _ _=>false) (fun _ _=>false) (fun _=>false) (fun _ _ _ _ _ _ _=>false) (fun _ _ _=>false) (fun _=>false) (fun _ _ _=>false) (fun _ _ _=>false) (fun _=>false) v) a
def run (c:Cf)(f:Nat)(aL:LA):Ans:=((L c 300).C f).r aL h0 (fun v h=>frz h 40 v) (fun _ _=>none)
def runV (c:Cf)(f:Nat)(aL:LA):AV:=Option.rec (motive:=fun _=>AV) .any (fun v=>v) (run c f aL)
def runB (c:Cf)(f:Nat)(aL:LA):Bool:=Option.rec (motive:=fun _=>Bool) false (fun _=>true) (run c f aL)
end
end Go.Bvm
namespace Go.Bvm
open Go Go.Avm
noncomputable section
theorem nx_eq (l:LA)(i:Nat):nx l i=nth l i:=by
 induction l generalizing i with
 |nil=>rfl
 |cons a l ih=>cases i with
  |zero=>rfl
  |succ i=>exact ih i
theorem nx_fun (l:LA):nx l=nth l:=funext (nx_eq l)
theorem tlL_nx (l:LA)(i:Nat):nx (tlL l) i=nx l (i+1):=by cases l <;> rfl
theorem hd_nx (l:LA):hd l=nx l 0:=by cases l <;> rfl
theorem dr_nx:∀(n:Nat) (l:LA) (i:Nat),nx (dr n l) i=nx l (n+i)
 |0,l,i=>by rw[Nat.zero_add];rfl
 |n+1,l,i=>by
  show nx (dr n (tlL l)) i=_
  rw[dr_nx n,tlL_nx];congr 1;omega
theorem tk_nx:∀(n:Nat) (l:LA) (i:Nat),nx (tk n l) i=if i<n then nx l i else .any
 |0,l,i=>by simp only[Nat.not_lt_zero,if_false];rfl
 |n+1,l,0=>by simp only[Nat.zero_lt_succ,if_true];exact hd_nx l
 |n+1,l,i+1=>by
  show nx (tk n (tlL l)) i=_
  rw[tk_nx n,tlL_nx]
  by_cases h:i<n
  ·rw[if_pos h,if_pos (by omega)]
  ·rw[if_neg h,if_neg (by omega)]
theorem lenL_eq:∀(l:LA),lenL l=l.length
 |[]=>rfl
 |_::l=>by show Nat.succ (lenL l)=_;rw[lenL_eq l];rfl
theorem ap_eq:∀(a b:LA),ap a b=a++b
 |[],_=>rfl
 |x::a,b=>by show x::ap a b=_;rw[ap_eq a b];rfl
theorem nth_app (a b:LA)(i:Nat):nth (a++b) i=if i<a.length then nth a i else nth b (i-a.length):=nth_append a b i
theorem tk_len:∀(n:Nat) (l:LA),(tk n l).length=n
 |0,_=>rfl
 |n+1,l=>by show(tk n (tlL l)).length+1=_;rw[tk_len n]
theorem tbF_len (f:Nat→AV):∀(n i:Nat),(tbF n f i).length=n
 |0,_=>rfl
 |n+1,i=>by show(tbF n f (i+1)).length+1=_;rw[tbF_len f n]
theorem tbF_nx (f:Nat→AV):∀(n i j:Nat),nx (tbF n f i) j=if j<n then f (i+j) else .any
 |0,i,j=>by simp only[Nat.not_lt_zero,if_false];rfl
 |n+1,i,0=>by simp only[Nat.zero_lt_succ,if_true];rfl
 |n+1,i,j+1=>by
  show nx (tbF n f (i+1)) j=_
  rw[tbF_nx f n]
  by_cases h:j<n
  ·rw[if_pos h,if_pos (by omega)];congr 1;omega
  ·rw[if_neg h,if_neg (by omega)]
theorem tb_nx (f:Nat→AV)(n j:Nat):nx (tb n f) j=if j<n then f j else .any:=by
 show nx (tbF n f 0) j=_
 rw[tbF_nx,Nat.zero_add]
theorem tb_len (f:Nat→AV)(n:Nat):(tb n f).length=n:=tbF_len f n 0
theorem ov_nx:∀(vs l:LA) (j:Nat),nx (ov vs l) j=if j<vs.length then nx vs j else nx l j
 |[],l,j=>by simp only[List.length_nil,Nat.not_lt_zero,if_false];rfl
 |v::vs,l,0=>by simp only[List.length_cons,Nat.zero_lt_succ,if_true];rfl
 |v::vs,l,j+1=>by
  show nx (ov vs (tlL l)) j=_
  rw[ov_nx vs,tlL_nx]
  by_cases h:j<vs.length
  ·rw[if_pos h,if_pos (by simpa using h)];rfl
  ·rw[if_neg h,if_neg (by simpa using h)]
theorem spl_nx (vs:LA):∀(off:Nat) (l:LA) (j:Nat),nx (spl off vs l) j=if off≤j∧j<off+vs.length then nx vs (j-off) else nx l j
 |0,l,j=>by
  show nx (ov vs l) j=_
  rw[ov_nx]
  simp
 |off+1,l,0=>by
  rw[if_neg (by omega)]
  exact hd_nx l
 |off+1,l,j+1=>by
  show nx (spl off vs (tlL l)) j=_
  rw[spl_nx vs off,tlL_nx]
  by_cases h:off≤j∧j<off+vs.length
  ·rw[if_pos h,if_pos (by omega)];congr 1;omega
  ·rw[if_neg h,if_neg (by omega)]
theorem spl_over (vs:LA)(n off:Nat)(l:LA)(h:vs.length=n)(j:Nat):nx (spl off vs l) j=over (nx l) off n (nx vs) j:=by
 rw[spl_nx,over_eq,h]
theorem tab_len (f:Nat→AV):∀(n i:Nat),(tab n i f).length=n
 |0,_=>rfl
 |n+1,i=>by show(tab n (i+1) f).length+1=_;rw[tab_len f n]
theorem zs_nx (z:LA)(hz:0<z.length):∀(n j:Nat),j<n*z.length→nx (zs n z) j=nx z (j%z.length)
 |0,j,h=>by omega
 |n+1,j,h=>by
  show nx (ap z (zs n z)) j=_
  rw[ap_eq,nx_eq,nth_app]
  by_cases hj:j<z.length
  ·rw[if_pos hj,Nat.mod_eq_of_lt hj,nx_eq]
  ·rw[if_neg hj,←nx_eq,zs_nx z hz n _ (by rw[Nat.succ_mul] at h;omega),Nat.mod_eq_sub_mod (a:=j) (by omega)]
theorem revA_eq:∀(a b:LA),revA a b=a.reverse++b
 |[],_=>rfl
 |x::a,b=>by
  show revA a (x::b)=_
  rw[revA_eq a,List.reverse_cons,List.append_assoc];rfl
theorem path_inj:∀(k k' i j:Nat),i<2^k→j<2^k'→pathF k i=pathF k' j→i=j
 |k,k',0,0,_,_,_=>rfl
 |0,k',i+1,j,h,_,_=>by simp at h
 |k,0,i,j+1,_,h,_=>by simp at h
 |k,k'+1,0,j+1,_,_,e=>by
  have h0:pathF k 0=.z:=by cases k <;> rfl
  rw[h0] at e
  have e':Ps.z=(Bool.rec (.i (pathF k' ((j+1)/2))) (.o (pathF k' ((j+1)/2))) (Nat.beq ((j+1)%2) 0):Ps):=e
  cases hb:Nat.beq ((j+1)%2) 0 <;> rw[hb] at e' <;> cases e'
 |k+1,k',i+1,0,_,_,e=>by
  have h0:pathF k' 0=.z:=by cases k' <;> rfl
  rw[h0] at e
  have e':(Bool.rec (.i (pathF k ((i+1)/2))) (.o (pathF k ((i+1)/2))) (Nat.beq ((i+1)%2) 0):Ps)=.z:=e
  cases hb:Nat.beq ((i+1)%2) 0 <;> rw[hb] at e' <;> cases e'
 |k+1,k'+1,i+1,j+1,h,h',e=>by
  have e':(Bool.rec (.i (pathF k ((i+1)/2))) (.o (pathF k ((i+1)/2))) (Nat.beq ((i+1)%2) 0):Ps)=(Bool.rec (.i (pathF k' ((j+1)/2))) (.o (pathF k' ((j+1)/2))) (Nat.beq ((j+1)%2) 0):Ps):=e
  rw[Nat.pow_succ] at h h'
  have ih:=path_inj k k' ((i+1)/2) ((j+1)/2) (by omega) (by omega)
  cases hb:Nat.beq ((i+1)%2) 0 <;> cases hc:Nat.beq ((j+1)%2) 0 <;> rw[hb,hc] at e'
  ·have e2:=ih (by injection e')
   have h1:¬(i+1)%2=0:=fun h=>by rw[h] at hb;cases hb
   have h2:¬(j+1)%2=0:=fun h=>by rw[h] at hc;cases hc
   omega
  ·cases e'
  ·cases e'
  ·have e2:=ih (by injection e')
   have h1:=Nat.eq_of_beq_eq_true hb
   have h2:=Nat.eq_of_beq_eq_true hc
   omega
theorem path_ne {i j:Nat}(h:i≠j):path i≠path j:=fun e=>h (path_inj _ _ i j Nat.lt_log2_self Nat.lt_log2_self e)
theorem getP_e:∀(p:Ps),getP p .e=.dead
 |.z=>rfl
 |.o p=>rfl
 |.i p=>rfl
theorem getP_set (x:CO):∀(p:Ps) (t:Tr),getP p (setP p x t)=x
 |.z,t=>by cases t <;> rfl
 |.o p,t=>by cases t <;> exact getP_set x p _
 |.i p,t=>by cases t <;> exact getP_set x p _
theorem getP_other (x:CO):∀(p q:Ps) (t:Tr),p≠q→getP q (setP p x t)=getP q t
 |.z,.z,t,h=>absurd rfl h
 |.z,.o q,t,_=>by cases t with
  |e=>exact getP_e q
  |n l v r=>rfl
 |.z,.i q,t,_=>by cases t with
  |e=>exact getP_e q
  |n l v r=>rfl
 |.o p,.z,t,_=>by cases t <;> rfl
 |.i p,.z,t,_=>by cases t <;> rfl
 |.o p,.o q,t,h=>by
  have h':p≠q:=fun e=>h (by rw[e])
  cases t with
  |e=>exact(getP_other x p q .e h').trans (getP_e q)
  |n l v r=>exact getP_other x p q l h'
 |.i p,.i q,t,h=>by
  have h':p≠q:=fun e=>h (by rw[e])
  cases t with
  |e=>exact(getP_other x p q .e h').trans (getP_e q)
  |n l v r=>exact getP_other x p q r h'
 |.o p,.i q,t,_=>by cases t with
  |e=>exact getP_e q
  |n l v r=>rfl
 |.i p,.o q,t,_=>by cases t with
  |e=>exact getP_e q
  |n l v r=>rfl
theorem gt_st (h:H)(o:Nat)(x:CO):gt (st h o x) o=x:=getP_set x _ _
theorem gt_st_ne (h:H){o p:Nat}(x:CO)(hne:p≠o):gt (st h o x) p=gt h p:=getP_other x _ _ _ (path_ne (fun e=>hne e.symm))
theorem gt_nw (h:H)(x:CO):gt (nw h x) h.n=x:=getP_set x _ _
theorem gt_nw_ne (h:H){p:Nat}(x:CO)(hne:p≠h.n):gt (nw h x) p=gt h p:=getP_other x _ _ _ (path_ne (fun e=>hne e.symm))
def frOf:Lay→LA→List (Nat × AV)
 |[],_=>[]
 |t::r,l=>(t,hd l)::frOf r (tlL l)
theorem lk_frOf:∀(lay:Lay) (l:LA) (t:Nat),lk (frOf lay l) t=(slot t lay).g l
 |[],_,_=>rfl
 |s::r,l,t=>by
  show(bif Nat.beq t s then hd l else lk (frOf r (tlL l)) t)=_
  rw[lk_frOf r]
  show _=Sl.g (Bool.rec ⟨fun l=>(slot t r).g (tlL l)⟩ ⟨hd⟩ (Nat.beq t s)) l
  cases Nat.beq t s <;> rfl
def gMap (P:Program)(kt:Nat)(es:LE):GObj where
 r FM ρ o:=(es.map Prod.fst).Nodup∧∃mes:Array MapEntry,o=.map mes es.length∧mes.size=es.length∧∀(i:Nat) (k:Value) (v:AV),es[i]? = some (k,v)→∃e,mes[i]? = some e∧e.key=k∧e.born=i∧Den FM ρ v e.val∧∃l,keyOf P kt k=some l
 mono:=fun hF hs ⟨hn,mes,h1,h2,h3⟩=>⟨hn,mes,h1,h2,fun i k v hi=>let ⟨e,a,b,c,d,f⟩:=h3 i k v hi;⟨e,a,b,c,Den.mono hF _ hs d,f⟩⟩
def stF:Nat→LoopState × Option Code
 |0=>(.ready,none)
 |1=>(.busy,none)
 |2=>(.done,some .ret)
 |3=>(.exhausted,none)
 |n+4=>(.done,some (.exit n))
def gFrm (cd:Rnd)(vs:LA)(s:Nat):GObj where
 r FM ρ o:=∃(fn:FuncId) (tmps:Array Value) (ps:Array Tmp) (D:Nat),o=.loop { state:=(stF s).1,pending:=(stF s).2,fn,tmps,params:=ps,assign:=cd.a,body:=cd.b,defers:=D } ∧
   tmps.size=cd.nt∧ps.toList=cd.ps∧∀t,Den FM ρ (lk (frOf cd.lay vs) t) (tmps.getD t undef)
 mono:=fun hF hs ⟨fn,tmps,ps,D,h1,h2,h3,h4⟩=>⟨fn,tmps,ps,D,h1,h2,h3,fun t=>Den.mono hF _ hs (h4 t)⟩
def gItm (me m n:Nat)(left:List Nat)(cur:Nat):GObj where
 r FM ρ o:=(∃q,ρ[me]? = some q∧q.2.1=0)∧∃(p:Nat × Nat × Nat) (seen:Array Nat),ρ[m]? = some p∧o=.mapIter (some p.1) n seen n∧left.Nodup ∧
   (∀i,i<n→(seen.contains i=true↔i∉left))∧(∀i,i∈left→i<n)∧(cur<n→seen.back? = some cur)
 mono:=fun _ hs ⟨⟨q,h1,h2⟩,p,seen,h3,h4⟩=>⟨⟨q,hs _ _ h1,h2⟩,p,seen,hs _ _ h3,h4⟩
def gIts (me:Nat)(l:List UInt8)(s:ByteArray)(pos:Nat):GObj where
 r _ ρ o:=(∃q,ρ[me]? = some q∧q.2.1=0)∧o=.stringIter s pos∧pos≤s.size∧l=s.data.toList.drop pos
 mono:=fun _ hs ⟨⟨q,h1,h2⟩,h⟩=>⟨⟨q,hs _ _ h1,h2⟩,h⟩
def toObj (P:Program):CO→AObj
 |.dead=>.dead
 |.cells n l=>.cells false n (nx l)
 |.map kt es=>.gen (gMap P kt es)
 |.frm cd vs s=>.gen (gFrm cd vs s)
 |.itm me m n left cur=>.gen (gItm me m n left cur)
 |.its me l s pos=>.gen (gIts me l s pos)
 |.fce n l=>.cells true n (nx l)
def toHp (P:Program)(h:H):List AObj:=(List.range h.n).map fun i=>toObj P (gt h i)
variable {P:Program}
theorem length_toHp (h:H):(toHp P h).length=h.n:=by simp[toHp]
theorem getO_eq (hp:List AObj)(i:Nat):getO hp i=hp.getD i .dead:=by
 induction hp generalizing i with
 |nil=>cases i <;> rfl
 |cons a r ih=>cases i with
  |zero=>rfl
  |succ i=>exact ih i
theorem getO_toHp (h:H)(i:Nat):getO (toHp P h) i=if i<h.n then toObj P (gt h i) else .dead:=by
 rw[getO_eq,List.getD_eq_getElem?_getD]
 unfold toHp
 rw[List.getElem?_map]
 by_cases hi:i<h.n
 ·rw[List.getElem?_range hi,if_pos hi];rfl
 ·rw[if_neg hi,List.getElem?_eq_none (by simpa using hi)];rfl
theorem hp_ext {a b:List AObj}(hl:a.length=b.length)(h:∀i,i<b.length→getO a i=getO b i):a=b:=by
 refine List.ext_getElem? (fun i=>?_)
 rcases Nat.lt_or_ge i b.length with hi|hi
 ·have:=h i hi
  rw[getO_eq,getO_eq,List.getD_eq_getElem?_getD,List.getD_eq_getElem?_getD,List.getElem?_eq_getElem (by omega),List.getElem?_eq_getElem hi] at this
  rw[List.getElem?_eq_getElem (by omega),List.getElem?_eq_getElem hi]
  exact congrArg some this
 ·rw[List.getElem?_eq_none (by omega),List.getElem?_eq_none hi]
theorem toHp_nw (h:H)(x:CO):toHp P (nw h x)=addO (toHp P h) (toObj P x):=by
 have hn:(nw h x).n=h.n+1:=rfl
 refine hp_ext (by rw[length_toHp,length_addO,length_toHp,hn]) (fun i hi=>?_)
 rw[length_addO,length_toHp] at hi
 rw[getO_toHp,hn,if_pos hi]
 rcases Nat.lt_or_ge i h.n with h1|h1
 ·rw[gt_nw_ne h x (by omega),getO_addO_lt (by rw[length_toHp];exact h1),getO_toHp,if_pos h1]
 ·have:i=h.n:=by omega
  subst this
  have e:=getO_addO_eq (hp:=toHp P h) (o:=toObj P x)
  rw[length_toHp] at e
  rw[gt_nw,e]
theorem toHp_st (h:H)(o:Nat)(x:CO):toHp P (st h o x)=setO (toHp P h) o (toObj P x):=by
 have hn:(st h o x).n=h.n:=rfl
 refine hp_ext (by rw[length_toHp,length_setO,length_toHp,hn]) (fun i hi=>?_)
 rw[length_setO,length_toHp] at hi
 rw[getO_toHp,hn,if_pos hi]
 by_cases hio:i=o
 ·subst hio
  rw[gt_st,getO_setO_eq (by rw[length_toHp];exact hi)]
 ·rw[gt_st_ne h x hio,getO_setO_ne (fun e=>hio e.symm),getO_toHp,if_pos hi]
theorem toHp_cells {h:H}{o n:Nat}{l:LA}(e:gt h o=.cells n l)(hlt:o<h.n):getO (toHp P h) o=.cells false n (nx l):=by
 rw[getO_toHp,if_pos hlt,e];rfl
theorem toHp_h0:toHp P h0=[]:=rfl
def HOk (h:H):Prop:=∀i,h.n≤i→gt h i=.dead
theorem hok_h0:HOk h0:=fun i _=>getP_e _
theorem HOk.nw {h:H}(hk:HOk h)(x:CO):HOk (nw h x):=fun i hi=>by
 have hi:h.n+1≤i:=hi
 rw[gt_nw_ne h x (by omega)];exact hk i (by omega)
theorem HOk.st {h:H}(hk:HOk h){o:Nat}(ho:o<h.n)(x:CO):HOk (st h o x):=fun i hi=>by
 have hi:h.n≤i:=hi
 rw[gt_st_ne h x (by omega)];exact hk i hi
theorem HOk.lt {h:H}(hk:HOk h){o:Nat}(ho:gt h o≠.dead):o<h.n:=by
 rcases Nat.lt_or_ge o h.n with h1|h1
 ·exact h1
 ·exact absurd (hk o h1) ho
theorem HOk.cells {h:H}(hk:HOk h){o n:Nat}{l:LA}(e:gt h o=.cells n l):o<h.n∧getO (toHp P h) o=.cells false n (nx l):=by
 have hlt:=hk.lt (o:=o) (by rw[e];intro h;cases h)
 exact⟨hlt,toHp_cells e hlt⟩
def isRC (c:CO)(fr:Bool)(n:Nat)(l:LA):Prop:=(c=.cells n l∧fr=false)∨(c=.fce n l∧fr=true)
theorem HOk.rcells {h:H}(hk:HOk h){o n:Nat}{fr:Bool}{l:LA}(e:isRC (gt h o) fr n l):o<h.n∧getO (toHp P h) o=.cells fr n (nx l):=by
 have hlt:=hk.lt (o:=o) (by rcases e with⟨e,_⟩|⟨e,_⟩ <;> (rw[e];intro h;cases h))
 rw[getO_toHp,if_pos hlt]
 rcases e with⟨e,rfl⟩|⟨e,rfl⟩ <;> exact⟨hlt,by rw[e];rfl⟩
theorem HOk.obj {h:H}(hk:HOk h){o:Nat}{c:CO}(e:gt h o=c)(hc:c≠.dead):o<h.n∧getO (toHp P h) o=toObj P c:=by
 have hlt:=hk.lt (o:=o) (by rw[e];exact hc)
 exact⟨hlt,by rw[getO_toHp,if_pos hlt,e]⟩
end
end Go.Bvm
namespace Go.Bvm
open Go Go.Avm
theorem no {a:AV}{p:Prop}(h:(none:Ans)=some a):p:=nomatch h
variable {a:AV}
theorem isVl_eq {f:Value→Bool}{x:AV}(h:isVl f x=true):∃u,x=.val u∧f u=true:=by
 cases x with
 |val u=>exact⟨u,rfl,h⟩
 |_=>exact absurd h (by intro h;cases h)
theorem isSV_eq {u:Value}(h:isSV u=true):∃p n c,u=.slice (some p) n c:=by
 cases u with
 |slice p n c=>cases p with
  |none=>cases h
  |some p=>exact⟨p,n,c,rfl⟩
 |_=>exact absurd h (by intro h;cases h)
theorem isNV_eq {u:Value}(h:isNV u=true):∃n c,u=.slice none n c:=by
 cases u with
 |slice p n c=>cases p with
  |none=>exact⟨n,c,rfl⟩
  |some p=>cases h
 |_=>exact absurd h (by intro h;cases h)
theorem isZV_eq {u:Value}(h:isZV u=true):∃p c,u=.slice (some p) 0 c:=by
 cases u with
 |slice p n c=>cases p with
  |none=>cases h
  |some p=>
   have h:Nat.beq n 0=true:=h
   cases n with
   |zero=>exact⟨p,c,rfl⟩
   |succ n=>cases h
 |_=>exact absurd h (by intro h;cases h)
theorem ck_some {b:Bool}{x:Ans}(h:ck b x=some a):b=true∧x=some a:=by
 cases b with
 |true=>exact⟨rfl,h⟩
 |false=>exact no h
theorem iff_some {b:Bool}{x y:Ans}(h:iff b x y=some a):b=true∧x=some a∨b=false∧y=some a:=by
 cases b with
 |true=>exact .inl ⟨rfl,h⟩
 |false=>exact .inr ⟨rfl,h⟩
theorem wInt_some {x:AV}{K:IntKind→Int→Ans}(h:wInt x K=some a):∃k n,x=.int k n∧K k n=some a:=by
 cases x <;> first|exact⟨_,_,rfl,h⟩|exact no h
theorem wB_some {x:AV}{A B:Ans}(h:wB x A B=some a):∃b,x=.bool b∧(bif b then A else B)=some a:=by
 cases x <;> first|(rename_i b;cases b <;> exact⟨_,rfl,h⟩)|exact no h
theorem wG_some {w:Bool}{x:AV}{A B:Ans}(h:wG w x A B=some a):(∃b,x=.bool b∧(b=w∧A=some a∨b≠w∧B=some a))∨(∃g,x=.tup 0 g∧B=some a):=by
 cases x with
 |bool b=>cases b <;> cases w <;> first|exact .inl ⟨_,rfl,.inl ⟨rfl,h⟩⟩|exact .inl ⟨_,rfl,.inr ⟨by decide,h⟩⟩
 |tup n g=>
  obtain⟨h1,h2⟩:=ck_some (b:=Nat.beq n 0) h
  have:=Nat.eq_of_beq_eq_true h1
  subst this
  exact .inr ⟨g,rfl,h2⟩
 |_=>exact no h
theorem wRef_some {x:AV}{K:Nat→Nat→Ans}{F:Nat→(Nat→AV)→Ans}(h:wRef x K F=some a):(∃o f,x=.ref o f∧K o f=some a)∨∃n g,x=.fp n g∧F n g=some a:=by
 cases x <;> first|exact .inl ⟨_,_,rfl,h⟩|exact .inr ⟨_,_,rfl,h⟩|exact no h
theorem wMp_some {x:AV}{K:Nat→Ans}(h:wMp x K=some a):∃o,x=.mp o∧K o=some a:=by
 cases x <;> first|exact⟨_,rfl,h⟩|exact no h
theorem wStr_some {x:AV}{K:ByteArray→Ans}(h:wStr x K=some a):∃s,x=.str s∧K s=some a:=by
 cases x <;> first|exact⟨_,rfl,h⟩|exact no h
theorem wFn_some {x:AV}{K:Nat→Nat→(Nat→AV)→Nat→(Nat→AV)→Ans}{Y:Nat→Ans}(h:wFn x K Y=some a):(∃f na fa nb fb,x=.fn f na fa nb fb∧K f na fa nb fb=some a)∨∃o,x=.yl o∧Y o=some a:=by
 cases x <;> first|exact .inl ⟨_,_,_,_,_,rfl,h⟩|exact .inr ⟨_,rfl,h⟩|exact no h
theorem wIfc_some {x:AV}{K:Nat→AV→Ans}{N:Ans}(h:wIfc x K N=some a):(∃t v,x=.ifc t v∧K t v=some a)∨x=.nili∧N=some a:=by
 cases x <;> first|exact .inl ⟨_,_,rfl,h⟩|exact .inr ⟨rfl,h⟩|exact no h
theorem wSl_some {x:AV}{A:Fz→Nat→Nat→(Nat→Nat→AV)→Ans}{B:Nat→Nat→Nat→Nat→Bool→Nat→Ans}{C:Bool→Nat→Nat→Nat→Ans}(h:wSl x A B C=some a) :
  (∃k s n g,x=.fz k s n g∧A k s n g=some a)∨(∃o off len cap ex es,x=.sl o off len cap ex es∧B o off len cap ex es=some a)∨∃w o n es,x=.ow w o n es∧C w o n es=some a:=by
 cases x <;> first|exact .inl ⟨_,_,_,_,rfl,h⟩|exact .inr (.inl ⟨_,_,_,_,_,_,rfl,h⟩)|exact .inr (.inr ⟨_,_,_,_,rfl,h⟩)|exact no h
theorem wCl_some {x:AV}{K:Nat→LA→Ans}(h:wCl x K=some a):isVal x=true∧∃l,l.length=cnt x∧(∀j,j<cnt x→nx l j=cellA x j)∧K (cnt x) l=some a:=by
 cases x with
 |any=>exact no h
 |tup n g=>exact no h
 |agg n g=>exact⟨rfl,tb n g,tb_len _ _,fun j hj=>by rw[tb_nx,if_pos (show j<n from hj)];rfl,h⟩
 |_=>exact⟨rfl,_,rfl,fun j hj=>by(have:j=0:=by simpa[cnt] using hj);subst this;rfl,h⟩
theorem wAg_some {x:AV}{K:Nat→(Nat→AV)→Ans}(h:wAg x K=some a):∃n g,x=.agg n g∧K n g=some a:=by
 cases x <;> first|exact⟨_,_,rfl,h⟩|exact no h
theorem wTu_some {x:AV}{K:Nat→(Nat→AV)→Ans}(h:wTu x K=some a):∃n g,x=.tup n g∧K n g=some a:=by
 cases x <;> first|exact⟨_,_,rfl,h⟩|exact no h
theorem wCe_some {c:CO}{K:Nat→LA→Ans}(h:wCe c K=some a):∃n l,c=.cells n l∧K n l=some a:=by
 cases c <;> first|exact⟨_,_,rfl,h⟩|exact no h
theorem wRe_some {c:CO}{K:Nat→LA→Ans}(h:wRe c K=some a):∃fr n l,isRC c fr n l∧K n l=some a:=by
 cases c <;> first|exact⟨_,_,_,.inl ⟨rfl,rfl⟩,h⟩|exact⟨_,_,_,.inr ⟨rfl,rfl⟩,h⟩|exact no h
theorem wMa_some {c:CO}{K:Nat→LE→Ans}(h:wMa c K=some a):∃t es,c=.map t es∧K t es=some a:=by
 cases c <;> first|exact⟨_,_,rfl,h⟩|exact no h
theorem wFr_some {c:CO}{K:Rnd→LA→Nat→Ans}(h:wFr c K=some a):∃cd vs s,c=.frm cd vs s∧K cd vs s=some a:=by
 cases c <;> first|exact⟨_,_,_,rfl,h⟩|exact no h
theorem wIt_some {o:Nat}{c:CO}{K:Nat→Nat→List Nat→Nat→Ans}(h:wIt o c K=some a):∃m n l cur,c=.itm o m n l cur∧K m n l cur=some a:=by
 cases c with
 |itm me m n l cur=>
  obtain⟨h1,h2⟩:=ck_some (show ck (Nat.beq me o) (K m n l cur)=some a from h)
  exact⟨_,_,_,_,by rw[Nat.eq_of_beq_eq_true h1],h2⟩
 |_=>exact no h
theorem wIs_some {o:Nat}{c:CO}{K:List UInt8→ByteArray→Nat→Ans}(h:wIs o c K=some a):∃l s p,c=.its o l s p∧K l s p=some a:=by
 cases c with
 |its me l s p=>
  obtain⟨h1,h2⟩:=ck_some (show ck (Nat.beq me o) (K l s p)=some a from h)
  exact⟨_,_,_,by rw[Nat.eq_of_beq_eq_true h1],h2⟩
 |_=>exact no h
theorem kq_eq {j k:IntKind}(h:kq j k=true):j=k:=by cases j <;> cases k <;> first|rfl|(exact nomatch (show false=true from h))
theorem iadd_eq (x y:Int):iadd x y=x+y:=by cases x <;> cases y <;> rfl
theorem ineg_eq (x:Int):ineg x = -x:=by cases x <;> rfl
theorem nt_eq (b:Bool):nt b = !b:=by cases b <;> rfl
theorem ilt_eq (x y:Int):ilt x y=decide (x<y):=by
 cases x with
 |ofNat x=>cases y with
  |ofNat y=>
   show Nat.ble (x+1) y=_
   rw[Bool.eq_iff_iff,Nat.ble_eq,decide_eq_true_iff,show Int.ofNat x=(x:Int) from rfl,show Int.ofNat y=(y:Int) from rfl]
   omega
  |negSucc y=>
   show false=_
   rw[eq_comm,decide_eq_false_iff_not,show Int.ofNat x=(x:Int) from rfl]
   omega
 |negSucc x=>cases y with
  |ofNat y=>
   show true=_
   rw[eq_comm,decide_eq_true_iff,show Int.ofNat y=(y:Int) from rfl]
   omega
  |negSucc y=>
   show Nat.ble (y+1) x=_
   rw[Bool.eq_iff_iff,Nat.ble_eq,decide_eq_true_iff]
   omega
theorem ieq_eq (x y:Int):ieq x y=(x==y):=by
 cases x with
 |ofNat x=>cases y with
  |ofNat y=>
   show Nat.beq x y=_
   rw[Bool.eq_iff_iff,Nat.beq_eq,beq_iff_eq]
   exact⟨fun h=>by rw[h],fun h=>by injection h⟩
  |negSucc y=>
   show false=_
   rw[eq_comm,beq_eq_false_iff_ne]
   intro h;cases h
 |negSucc x=>cases y with
  |ofNat y=>
   show false=_
   rw[eq_comm,beq_eq_false_iff_ne]
   intro h;cases h
  |negSucc y=>
   show Nat.beq x y=_
   rw[Bool.eq_iff_iff,Nat.beq_eq,beq_iff_eq]
   exact⟨fun h=>by rw[h],fun h=>by injection h⟩
theorem nonneg_eq {x:Int}(h:nonneg x=true):0≤x∧nn x=x.toNat:=by
 cases x with
 |ofNat x=>exact⟨Int.natCast_nonneg _,rfl⟩
 |negSucc x=>exact nomatch (show false=true from h)
theorem ble {x y:Nat}(h:Nat.ble x y=true):x≤y:=Nat.le_of_ble_eq_true h
theorem bleS {x y:Nat}(h:Nat.ble (Nat.succ x) y=true):x<y:=Nat.le_of_ble_eq_true h
theorem beqN {x y:Nat}(h:Nat.beq x y=true):x=y:=Nat.eq_of_beq_eq_true h
theorem inR_wrap {k:IntKind}{x:Int}(h:inR k x=true):k.wrap x=x:=by
 have signed:∀b:Nat,(match x with|.ofNat n=>Nat.ble n b|.negSucc n=>Nat.ble n b)=true → -(b:Int)-1≤x∧x≤b:=fun b hb=>by
  cases x with
  |ofNat n=>have:=ble hb;rw[show Int.ofNat n=(n:Int) from rfl];omega
  |negSucc n=>have:=ble hb;omega
 have unsigned:∀b:Nat,(match x with|.ofNat n=>Nat.ble n b|.negSucc n=>false)=true→0≤x∧x≤b:=fun b hb=>by
  cases x with
  |ofNat n=>have:=ble hb;rw[show Int.ofNat n=(n:Int) from rfl];omega
  |negSucc n=>cases hb
 cases k with
 |i8=>have:=signed 127 (by cases x <;> exact h);simp[IntKind.wrap,IntKind.bits,IntKind.signed];omega
 |i16=>have:=signed 32767 (by cases x <;> exact h);simp[IntKind.wrap,IntKind.bits,IntKind.signed];omega
 |i32=>have:=signed 2147483647 (by cases x <;> exact h);rw[IntKind.wrap_i32];omega
 |i64=>have:=signed 9223372036854775807 (by cases x <;> exact h);rw[IntKind.wrap_i64];omega
 |u8=>have:=unsigned 255 (by cases x <;> exact h);rw[IntKind.wrap_u8];omega
 |u16=>have:=unsigned 65535 (by cases x <;> exact h);simp[IntKind.wrap,IntKind.bits,IntKind.signed];omega
 |u32=>have:=unsigned 4294967295 (by cases x <;> exact h);rw[IntKind.wrap_u32];omega
 |u64=>have:=unsigned 18446744073709551615 (by cases x <;> exact h);simp[IntKind.wrap,IntKind.bits,IntKind.signed];omega
theorem wr_eq (k:IntKind)(x:Int):wr k x=k.wrap x:=by
 unfold wr
 cases h:inR k x with
 |true=>exact(inR_wrap h).symm
 |false=>rfl
theorem w2_some {x y:AV}{K:IntKind→Int→Int→Ans}(h:w2 x y K=some a):∃k m n,x=.int k m∧y=.int k n∧K k m n=some a:=by
 obtain⟨k,m,rfl,h⟩:=wInt_some h
 obtain⟨j,n,hy,h1⟩:=wInt_some (x:=y) h
 obtain⟨hk,h2⟩:=ck_some h1
 have:=kq_eq hk
 subst this
 exact⟨k,m,n,rfl,hy,h2⟩
theorem eqB_eq:∀(l m:List UInt8),eqB l m=true↔l=m
 |[],[]=>⟨fun _=>rfl,fun _=>rfl⟩
 |[],_::_=>⟨fun h=>(nomatch (show false=true from h)),fun h=>by cases h⟩
 |_::_,[]=>⟨fun h=>(nomatch (show false=true from h)),fun h=>by cases h⟩
 |x::l,y::m=>by
  have e:eqB (x::l) (y::m)=(Bool.rec false (eqB l m) (Nat.beq x.toNat y.toNat):Bool):=rfl
  rw[e]
  cases hb:Nat.beq x.toNat y.toNat with
  |true=>
   have hxy:x=y:=UInt8.toNat_inj.1 (beqN hb)
   subst hxy
   exact⟨fun h=>by rw[(eqB_eq l m).1 h],fun h=>(eqB_eq l m).2 (by injection h)⟩
  |false=>exact⟨fun h=>(nomatch (show false=true from h)),fun h=>by
    injection h with h1 h2
    subst h1
    rw[Nat.beq_refl] at hb;cases hb⟩
theorem eqS_eq (s u:ByteArray):eqS s u=(s==u):=by
 rw[Bool.eq_iff_iff]
 obtain⟨s⟩:=s
 obtain⟨u⟩:=u
 show eqB s.toList u.toList=true↔(s==u)=true
 rw[eqB_eq,beq_iff_eq]
 exact⟨fun h=>Array.ext' h,fun h=>by rw[h]⟩
theorem beqB_eq (x y:Bool):beqB x y=(x==y):=by cases x <;> cases y <;> rfl
theorem eq1_some {x y:AV}{K:Bool→Ans}(h:eq1 x y K=some a):(∃b c,x=.bool b∧y=.bool c∧K (b==c)=some a)∨(∃k m n,x=.int k m∧y=.int k n∧K (m==n)=some a)∨∃s u,x=.str s∧y=.str u∧K (s==u)=some a:=by
 cases x with
 |bool b=>
  obtain⟨c,rfl,h⟩:=wB_some (x:=y) (A:=K (beqB b true)) (B:=K (beqB b false)) h
  refine .inl ⟨b,c,rfl,rfl,?_⟩
  rw[←beqB_eq]
  cases c <;> exact h
 |int k m=>
  obtain⟨j,n,rfl,h⟩:=wInt_some (x:=y) (K:=fun j b=>ck (kq k j) (K (ieq m b))) h
  obtain⟨h1,h2⟩:=ck_some h
  have:=kq_eq h1
  subst this
  exact .inr (.inl ⟨_,_,_,rfl,rfl,by rw[←ieq_eq];exact h2⟩)
 |str s=>
  obtain⟨u,rfl,h⟩:=wStr_some (x:=y) (K:=fun u=>K (eqS s u)) h
  exact .inr (.inr ⟨_,_,rfl,rfl,by rw[←eqS_eq];exact h⟩)
 |_=>exact no h
end Go.Bvm
namespace Go.Bvm
open Go Go.Avm
section
variable {P:Program}{o:Oper}{ev:Operand→AV}{R:Res}{g:R.σ}{hp:List AObj}
theorem opOk_p0 {orc:Orc}{out:Out}{x:AV}(h:runPure0 (tyOf P) hp ev orc o.op=some out)(hob:AllP out.ob)(hx:Le out.v x):OpOk P R o ev hp g x hp g:=by
 refine⟨fun FM ρ w evc okw hop=>?_⟩
 classical
 let ev':Operand→AV:=fun y=>if y∈o.op.operands then ev y else .any
 have hev':∀y,Den FM ρ (ev' y) (evc y):=by
  intro y
  by_cases hy:y∈o.op.operands
  ·simp only[ev',hy,if_true];exact hop y hy
  ·simp only[ev',hy,if_false];trivial
 have hsame:∀y∈o.op.operands,ev y=ev' y:=fun y hy=>by simp only[ev',hy,if_true]
 rw[runPure0_ev hsame] at h
 obtain⟨⟨v,h1,h2⟩,h3⟩:=runPure0_sound okw.rel hev' h hob
 exact⟨_,w,FM,ρ,v,h1,rfl,hx _ _ _ h2,okw,Ext.refl _ _ _ _,fun _ h=>.inl h,Sub.refl _⟩
theorem opOk_e0 {orc:Orc}{out:Out}(h:runEff0 (tyOf P) hp ev orc o.op=some out)(hob:AllP out.ob):OpOk P R o ev hp g out.v out.hp g:=by
 refine⟨fun FM ρ w evc ok hop=>?_⟩
 classical
 let ev':Operand→AV:=fun x=>if x∈o.op.operands then ev x else .any
 have hev':∀x,Den FM ρ (ev' x) (evc x):=by
  intro x
  by_cases hx:x∈o.op.operands
  ·simp only[ev',hx,if_true];exact hop x hx
  ·simp only[ev',hx,if_false];trivial
 have hsame:∀x∈o.op.operands,ev x=ev' x:=fun x hx=>by simp only[ev',hx,if_true]
 rw[runEff0_ev hsame] at h
 obtain⟨nx,w',ρ',u,r1,r2,r3,r4,r5,r6⟩:=runEff0_sound ok.rel hev' h hob
 obtain⟨ok',go'⟩:=own_step ok r4 r5 r6
 exact⟨nx,w',FM,ρ',u,r1,r2,r3,ok',go'⟩
theorem opOk_leV {v x:AV}{hp':List AObj}{g':R.σ}(h:OpOk P R o ev hp g v hp' g')(hx:Le v x):OpOk P R o ev hp g x hp' g':=by
 refine⟨fun FM ρ w evc ok hop=>?_⟩
 obtain⟨nx,w',FM',ρ',u,r1,r2,r3,r4,r5⟩:=h.h FM ρ w evc ok hop
 exact⟨nx,w',FM',ρ',u,r1,r2,hx _ _ _ r3,r4,r5⟩
theorem opOk_leE {ev':Operand→AV}{v:AV}{hp':List AObj}{g':R.σ}(h:OpOk P R o ev' hp g v hp' g')(hx:∀x∈o.op.operands,Le (ev x) (ev' x)):OpOk P R o ev hp g v hp' g':=
 ⟨fun FM ρ w evc ok hop=>h.h FM ρ w evc ok (fun x hx'=>hx x hx' _ _ _ (hop x hx'))⟩
end
structure Lk (P:Program)(o:Oper)(ev:Operand→AV)(h:H)(v:AV):Prop where
 h:∃os:List Nat,(∀x∈os,x<h.n)∧∀hp,(∀x∈os,getO hp x=getO (toHp P h) x)→∀(R:Res) (g:R.σ),OpOk P R o ev hp g v hp g
section
variable {P:Program}{o:Oper}{ev:Operand→AV}{h:H}{a:AV}
theorem Lk.pure {v:AV}(hv:∀hp,∃orc out,runPure0 (tyOf P) hp ev orc o.op=some out∧AllP out.ob∧Le out.v v):Lk P o ev h v:=
 ⟨[],fun _ h=>(by cases h),fun hp _ _ _=>let ⟨_,_,h1,h2,h3⟩:=hv hp;opOk_p0 h1 h2 h3⟩
theorem Lk.le {v x:AV}(hl:Lk P o ev h v)(hx:Le v x):Lk P o ev h x:=
 let ⟨os,h1,h2⟩:=hl.h;⟨os,h1,fun hp hs R g=>opOk_leV (h2 hp hs R g) hx⟩
theorem lk_bin {op:BinOp}{t t2:TypeId}{x y:Operand}{ob:List Prop}{v:AV}(ho:o.op=.binOp op t x y t2)(hb:binV (tyOf P) op t (ev x) (ev y)=some (ob,v))(hob:AllP ob):Lk P o ev h v:=by
 refine .pure (fun hp=>⟨.pure .any,⟨v,hp,ob,.pure⟩,?_,hob,Le.refl _⟩)
 rw[ho]
 show(match binW (tyOf P) (.pure .any) op t (ev x) (ev y) with|some (ob,v)=>okB hp ob v|none=>none)=_
 rw[show binW (tyOf P) (.pure .any) op t (ev x) (ev y)=binV (tyOf P) op t (ev x) (ev y) from rfl,hb]
 rfl
theorem lk_move {x:Operand}(ho:o.op=.move x):Lk P o ev h (ev x):=.pure (fun hp=>⟨.none,⟨ev x,hp,[],.pure⟩,by rw[ho];rfl,trivial,Le.refl _⟩)
theorem lk_assign {x:Operand}(ho:o.op=.assign x):Lk P o ev h (ev x):=.pure (fun hp=>⟨.none,⟨ev x,hp,[],.pure⟩,by rw[ho];rfl,trivial,Le.refl _⟩)
theorem nck_some {x:AV}{K:KV}(hk:nck x K=some a):(∃n g,x=.fp n g)∨(∃o f,x=.ref o f)∨∃f na fa nb fb,x=.fn f na fa nb fb:=by
 cases x <;> first|exact .inl ⟨_,_,rfl⟩|exact .inr (.inl ⟨_,_,rfl⟩)|exact .inr (.inr ⟨_,_,_,_,_,rfl⟩)|exact no hk
theorem lk_nilCheck {x:Operand}{K:KV}(ho:o.op=.nilCheck x)(hk:nck (ev x) K=some a):∃v,K v=some a∧Lk P o ev h v:=by
 rcases nck_some hk with⟨n,g,e⟩|⟨b,f,e⟩|⟨f,na,fa,nb,fb,e⟩
 ·exact⟨_,by rw[e] at hk;exact hk,.pure (fun hp=>⟨.none,⟨.fp n g,hp,[],.pure⟩,by rw[ho];simp[runPure0,e,okP],trivial,Le.refl _⟩)⟩
 ·exact⟨_,by rw[e] at hk;exact hk,.pure (fun hp=>⟨.none,⟨.ref b f,hp,[],.pure⟩,by rw[ho];simp[runPure0,e,okP],trivial,Le.refl _⟩)⟩
 ·exact⟨_,by rw[e] at hk;exact hk,.pure (fun hp=>⟨.none,⟨.fn f na fa nb fb,hp,[],.pure⟩,by rw[ho];simp[runPure0,e,okP],trivial,Le.refl _⟩)⟩
theorem lk_pick {c x y:Operand}{b:Bool}(ho:o.op=.pick c x y)(hc:ev c=.bool b):Lk P o ev h (bif b then ev x else ev y):=by
 refine⟨[],fun _ h=>(by cases h),fun hp _ R g=>⟨fun FM ρ w evc ok hop=>?_⟩⟩
 have h1:=hop c (by simp[ho,Op.operands])
 rw[hc] at h1
 have h1:evc c=.bool b:=h1
 cases b with
 |true=>exact⟨.value (evc x),w,FM,ρ,_,by simp[execOp,ho,h1,asBool],rfl,hop x (by simp[ho,Op.operands]),ok,Goes.refl _ _ _ _ _⟩
 |false=>exact⟨.value (evc y),w,FM,ρ,_,by simp[execOp,ho,h1,asBool],rfl,hop y (by simp[ho,Op.operands]),ok,Goes.refl _ _ _ _ _⟩
section
variable {op:BinOp}{t t2:TypeId}{x y:Operand}{K:KV}
theorem binV_int {k:IntKind}{m n:Int}(h1:op≠.shl)(h2:op≠.shr):binV (tyOf P) op t (.int k m) (.int k n)=intBin op k m n:=by
 cases op <;> first|exact absurd rfl h1|exact absurd rfl h2|(show(match decide (k=k) with|true=>_|false=>none)=_;rw[show decide (k=k)=true by simp])
theorem lk_int {k:IntKind}{m n:Int}{ob:List Prop}{v:AV}(ho:o.op=.binOp op t x y t2)(hx:ev x=.int k m)(hy:ev y=.int k n)(h1:op≠.shl)(h2:op≠.shr)(hb:intBin op k m n=some (ob,v))(hob:AllP ob):Lk P o ev h v:=
 lk_bin ho (by rw[hx,hy,binV_int h1 h2];exact hb) hob
theorem lk_add (ho:o.op=.binOp .add t x y t2)(hk:ad (ev x) (ev y) K=some a):∃v,K v=some a∧Lk P o ev h v:=by
 obtain⟨k,m,n,hx,hy,h2⟩:=w2_some hk
 exact⟨_,h2,lk_int (ob:=[]) ho hx hy (by decide) (by decide) (by rw[wr_eq,iadd_eq];rfl) trivial⟩
theorem lk_sub (ho:o.op=.binOp .sub t x y t2)(hk:sb (ev x) (ev y) K=some a):∃v,K v=some a∧Lk P o ev h v:=by
 obtain⟨k,m,n,hx,hy,h2⟩:=w2_some hk
 exact⟨_,h2,lk_int (ob:=[]) ho hx hy (by decide) (by decide) (by rw[wr_eq,iadd_eq,ineg_eq];rfl) trivial⟩
theorem lk_mul (ho:o.op=.binOp .mul t x y t2)(hk:ml (ev x) (ev y) K=some a):∃v,K v=some a∧Lk P o ev h v:=by
 obtain⟨k,m,n,hx,hy,h2⟩:=w2_some hk
 exact⟨_,h2,lk_int (ob:=[]) ho hx hy (by decide) (by decide) (by rw[wr_eq];rfl) trivial⟩
theorem ne0 {n:Int}(h:nt (ieq n 0)=true):n≠0:=by
 rw[nt_eq,ieq_eq] at h
 intro e;subst e;cases h
theorem lk_quo (ho:o.op=.binOp .quo t x y t2)(hk:qu (ev x) (ev y) K=some a):∃v,K v=some a∧Lk P o ev h v:=by
 obtain⟨k,m,n,hx,hy,h2⟩:=w2_some hk
 obtain⟨h3,h4⟩:=ck_some h2
 exact⟨_,h4,lk_int (ob:=[n≠0]) ho hx hy (by decide) (by decide) (by rw[wr_eq];rfl) ⟨ne0 h3,trivial⟩⟩
theorem lk_rem (ho:o.op=.binOp .rem t x y t2)(hk:rm (ev x) (ev y) K=some a):∃v,K v=some a∧Lk P o ev h v:=by
 obtain⟨k,m,n,hx,hy,h2⟩:=w2_some hk
 obtain⟨h3,h4⟩:=ck_some h2
 exact⟨_,h4,lk_int (ob:=[n≠0]) ho hx hy (by decide) (by decide) rfl ⟨ne0 h3,trivial⟩⟩
theorem lk_bits (hop:op=.and∨op=.or∨op=.xor∨op=.andNot)(ho:o.op=.binOp op t x y t2)(hk:bw op (ev x) (ev y) K=some a):∃v,K v=some a∧Lk P o ev h v:=by
 obtain⟨k,m,n,hx,hy,h2⟩:=w2_some hk
 rcases hop with rfl|rfl|rfl|rfl <;> exact⟨_,h2,lk_int (ob:=[]) ho hx hy (by decide) (by decide) rfl trivial⟩
theorem lk_lt (ho:o.op=.binOp .lss t x y t2)(hk:lt (ev x) (ev y) K=some a):∃v,K v=some a∧Lk P o ev h v:=by
 obtain⟨k,m,n,hx,hy,h2⟩:=w2_some hk
 exact⟨_,h2,lk_int (ob:=[]) ho hx hy (by decide) (by decide) (by rw[ilt_eq];rfl) trivial⟩
theorem lk_gt (ho:o.op=.binOp .gtr t x y t2)(hk:lt (ev y) (ev x) K=some a):∃v,K v=some a∧Lk P o ev h v:=by
 obtain⟨k,m,n,hx,hy,h2⟩:=w2_some hk
 exact⟨_,h2,lk_int (ob:=[]) ho hy hx (by decide) (by decide) (by rw[ilt_eq];rfl) trivial⟩
theorem nlt (m n:Int):nt (ilt n m)=decide (m≤n):=by
 rw[nt_eq,ilt_eq,Bool.eq_iff_iff,Bool.not_eq_true',decide_eq_false_iff_not,decide_eq_true_iff];omega
theorem lk_le (ho:o.op=.binOp .leq t x y t2)(hk:le (ev x) (ev y) K=some a):∃v,K v=some a∧Lk P o ev h v:=by
 obtain⟨k,m,n,hx,hy,h2⟩:=w2_some hk
 exact⟨_,h2,lk_int (ob:=[]) ho hx hy (by decide) (by decide) (by rw[nlt];rfl) trivial⟩
theorem lk_ge (ho:o.op=.binOp .geq t x y t2)(hk:le (ev y) (ev x) K=some a):∃v,K v=some a∧Lk P o ev h v:=by
 obtain⟨k,m,n,hx,hy,h2⟩:=w2_some hk
 exact⟨_,h2,lk_int (ob:=[]) ho hy hx (by decide) (by decide) (by rw[nlt];rfl) trivial⟩
theorem lk_shl (ho:o.op=.binOp .shl t x y t2)(hk:shl (ev x) (ev y) K=some a):∃v,K v=some a∧Lk P o ev h v:=by
 obtain⟨k,m,hx,h1⟩:=wInt_some hk
 obtain⟨j,n,hy,h2⟩:=wInt_some (x:=ev y) h1
 obtain⟨h3,h4⟩:=ck_some h2
 exact⟨_,h4,lk_bin (ob:=[0≤n]) ho (by rw[hx,hy];rfl) ⟨(nonneg_eq h3).1,trivial⟩⟩
theorem lk_shr (ho:o.op=.binOp .shr t x y t2)(hk:shr (ev x) (ev y) K=some a):∃v,K v=some a∧Lk P o ev h v:=by
 obtain⟨k,m,hx,h1⟩:=wInt_some hk
 obtain⟨j,n,hy,h2⟩:=wInt_some (x:=ev y) h1
 obtain⟨h3,h4⟩:=ck_some h2
 have hn:=(nonneg_eq h3).2
 have hmin:(Bool.rec k.bits (nn n) (Nat.ble (nn n) k.bits):Nat)=min n.toNat k.bits:=by
  rw[hn]
  cases hb:Nat.ble n.toNat k.bits with
  |true=>have:=ble hb;show n.toNat=_;omega
  |false=>
   have:¬n.toNat≤k.bits:=fun h=>by rw[←Nat.ble_eq,hb] at h;cases h
   show k.bits=_;omega
 have key:(Int.rec (motive:=fun _=>Int) (fun m=>Int.ofNat (Nat.shiftRight m (Bool.rec (motive:=fun _=>Nat) k.bits (nn n) (Nat.ble (nn n) k.bits)))) (fun m=>Int.fdiv (Int.negSucc m) (2^(min n.toNat k.bits))) m:Int)=m.fdiv (2^(min n.toNat k.bits)):=by
  cases m with
  |negSucc m=>rfl
  |ofNat m=>
   show Int.ofNat (Nat.shiftRight m _)=_
   rw[hmin]
   show((m >>> _:Nat):Int)=Int.fdiv (m:Int) _
   rw[Nat.shiftRight_eq_div_pow,Int.fdiv_eq_ediv_of_nonneg _ (Int.pow_nonneg (by decide))]
   simp
 rw[key] at h4
 exact⟨_,h4,lk_bin (ob:=[0≤n]) ho (by rw[hx,hy];rfl) ⟨(nonneg_eq h3).1,trivial⟩⟩
end
section
variable {t t2:TypeId}{x y:Operand}
theorem binV_eq {ty:Nat→Option TyI}{x y:AV}{b n:Bool}(h:eqV ty t x y=some b)(hni:∀k m,x≠.int k m):binV ty (bif n then .neq else .eql) t x y=some ([],.bool (xor n b)):=by
 cases n with
 |false=>
  show binV ty .eql t x y=_
  unfold binV
  split
  ·exact absurd rfl (hni _ _)
  ·simp[h]
 |true=>
  show binV ty .neq t x y=_
  unfold binV
  split
  ·exact absurd rfl (hni _ _)
  ·simp[h]
theorem lk_eqi {K:KV}(ho:o.op=.binOp .eql t x y t2)(hk:eqi (ev x) (ev y) K=some a):∃v,K v=some a∧Lk P o ev h v:=by
 obtain⟨k,m,n,hx,hy,h2⟩:=w2_some hk
 exact⟨_,h2,lk_int (ob:=[]) ho hx hy (by decide) (by decide) (by rw[ieq_eq];rfl) trivial⟩
theorem lk_nei {K:KV}(ho:o.op=.binOp .neq t x y t2)(hk:nei (ev x) (ev y) K=some a):∃v,K v=some a∧Lk P o ev h v:=by
 obtain⟨k,m,n,hx,hy,h2⟩:=w2_some hk
 exact⟨_,h2,lk_int (ob:=[]) ho hx hy (by decide) (by decide) (by rw[nt_eq,ieq_eq];rfl) trivial⟩
theorem lk_eqV {n b:Bool}(ho:o.op=.binOp (bif n then .neq else .eql) t x y t2)(h:eqV (tyOf P) t (ev x) (ev y)=some b)(hni:∀k m,ev x≠.int k m){h':H}:Lk P o ev h' (.bool (xor n b)):=
 lk_bin (ob:=[]) ho (binV_eq h hni) trivial
theorem lk_str {n:Bool}{s u:ByteArray}(ho:o.op=.binOp (bif n then .neq else .eql) t x y t2)(hx:ev x=.str s)(hy:ev y=.str u):Lk P o ev h (.bool (xor n (s==u))):=by
 refine⟨[],fun _ h=>(by cases h),fun hp _ R g=>⟨fun FM ρ w evc ok hop=>?_⟩⟩
 have h1:=hop x (by simp[ho,Op.operands])
 have h2:=hop y (by simp[ho,Op.operands])
 rw[hx] at h1
 rw[hy] at h2
 have h1:evc x=.string s:=h1
 have h2:evc y=.string u:=h2
 have e:(s.toList==u.toList)=(s==u):=by
  rw[←eqS_eq,Bool.eq_iff_iff,beq_iff_eq]
  show _↔eqB _ _=true
  rw[eqB_eq,ByteArray.toList_eq,ByteArray.toList_eq]
 cases n with
 |false=>exact⟨.value (.bool (s==u)),w,FM,ρ,_,by simp[execOp,ho,h1,h2,eqGuard,binOp,Op.stringOp,e],rfl,by simp[Den],ok,Goes.refl _ _ _ _ _⟩
 |true=>exact⟨.value (.bool (!(s==u))),w,FM,ρ,_,by simp[execOp,ho,h1,h2,eqGuard,binOp,Op.stringOp,e],rfl,by simp[Den],ok,Goes.refl _ _ _ _ _⟩
theorem lk_nilp {n c:Bool}{e:TypeId}(ho:o.op=.binOp (bif n then .neq else .eql) t x y t2)(hu:P.underlying t=some (.pointer e))(hx:∀FM ρ v,Den FM ρ (ev x) v→∃p,v=.pointer p∧p.isNone=c)(hy:y=.const (.pointer none))(hc:ev y=.nilp):Lk P o ev h (.bool (xor n c)):=by
 refine⟨[],fun _ h=>(by cases h),fun hp _ R g=>⟨fun FM ρ w evc ok hop=>?_⟩⟩
 subst hy
 have h1:=hop x (by simp[ho,Op.operands])
 have h2:=hop (.const (.pointer none)) (by simp[ho,Op.operands])
 rw[hc] at h2
 have h2:evc (.const (.pointer none))=.pointer none:=h2
 obtain⟨p,h3,h4⟩:=hx _ _ _ h1
 have hg:∀d,(Op.equalIn (d+1) t (.pointer p) (.pointer none)).run P w=.ok c w:=fun d=>by
  cases p with
  |none=>
   have:c=true:=h4.symm
   subst this;simp[Op.equalIn,underlying,hu]
  |some a=>
   have:c=false:=h4.symm
   subst this;simp[Op.equalIn,underlying,hu]
 have he:(Op.equalIn Op.maxDepth t (.pointer p) (.pointer none)).run P w=.ok c w:=hg 9999
 cases n with
 |false=>exact⟨.value (.bool c),w,FM,ρ,_,by simp[execOp,ho,h3,h2,eqGuard,binOp,Op.equal,he],rfl,by simp[Den],ok,Goes.refl _ _ _ _ _⟩
 |true=>exact⟨.value (.bool (!c)),w,FM,ρ,_,by simp[execOp,ho,h3,h2,eqGuard,binOp,Op.equal,he],rfl,by simp[Den],ok,Goes.refl _ _ _ _ _⟩
theorem lk_nili {n:Bool}{ms:Array (String × TypeId)}(ho:o.op=.binOp (bif n then .neq else .eql) t x y t2)(hu:P.underlying t=some (.interface ms))(hx:ev x=.nili)(hy:y=.const .nilIface)(hc:ev y=.nili):Lk P o ev h (.bool (xor n true)):=by
 refine⟨[],fun _ h=>(by cases h),fun hp _ R g=>⟨fun FM ρ w evc ok hop=>?_⟩⟩
 subst hy
 have h1:=hop x (by simp[ho,Op.operands])
 have h2:=hop (.const .nilIface) (by simp[ho,Op.operands])
 rw[hx] at h1
 rw[hc] at h2
 have h1:evc x=.nilIface:=h1
 have h2:evc (.const .nilIface)=.nilIface:=h2
 have hg:∀d,(Op.equalIn (d+1) t .nilIface .nilIface).run P w=.ok true w:=fun d=>by simp[Op.equalIn,underlying,hu]
 have he:(Op.equalIn Op.maxDepth t .nilIface .nilIface).run P w=.ok true w:=hg 9999
 cases n with
 |false=>exact⟨.value (.bool true),w,FM,ρ,_,by simp[execOp,ho,h1,h2,eqGuard,binOp,Op.equal,he],rfl,rfl,ok,Goes.refl _ _ _ _ _⟩
 |true=>exact⟨.value (.bool false),w,FM,ρ,_,by simp[execOp,ho,h1,h2,eqGuard,binOp,Op.equal,he],rfl,rfl,ok,Goes.refl _ _ _ _ _⟩
end
end
end Go.Bvm
namespace Go.Bvm
open Go Go.Avm
section
variable {P:Program}{o:Oper}{ev:Operand→AV}{h:H}{a:AV}
theorem lk_not {t:TypeId}{x:Operand}{K:KV}(ho:o.op=.unOp .not t x)(hk:un (ev x) K=some a):∃v,K v=some a∧Lk P o ev h v:=by
 obtain⟨b,hx,h2⟩:=wB_some hk
 exact⟨.bool (!b),by cases b <;> exact h2,.pure (fun hp=>⟨.none,⟨.bool (!b),hp,[],.pure⟩,by rw[ho];simp[runPure0,unV,hx,okP],trivial,Le.refl _⟩)⟩
theorem lk_neg {t:TypeId}{x:Operand}{K:KV}(ho:o.op=.unOp .neg t x)(hk:neg (ev x) K=some a):∃v,K v=some a∧Lk P o ev h v:=by
 obtain⟨k,n,hx,h2⟩:=wInt_some hk
 rw[wr_eq,ineg_eq] at h2
 exact⟨_,h2,.pure (fun hp=>⟨.none,⟨.int k (k.wrap (0-n)),hp,[],.pure⟩,by rw[ho];simp[runPure0,unV,hx,okP],trivial,Le.of_eq (by simp)⟩)⟩
theorem lk_convert {s d:TypeId}{x:Operand}{K:KV}{ti tj:TyI}{k:IntKind}(ho:o.op=.convert s d x)(hs:tyOf P s=some ti)(hd:tyOf P d=some tj)(hj:tj.desc=.int k)(hk:cvt k (ev x) K=some a):∃v,K v=some a∧Lk P o ev h v:=by
 obtain⟨j,n,hx,h2⟩:=wInt_some hk
 rw[wr_eq] at h2
 exact⟨_,h2,.pure (fun hp=>⟨.none,⟨.int k (k.wrap n),hp,[],.pure⟩,by rw[ho];simp[runPure0,convV,hx,hs,hd,hj,okP],trivial,Le.refl _⟩)⟩
theorem lk_makeInterface {t:TypeId}{x:Operand}{ti:TyI}(ho:o.op=.makeInterface t x)(ht:tyOf P t=some ti)(hd:∀ms,ti.desc≠.interface ms):Lk P o ev h (.ifc t (ev x)):=by
 refine .pure (fun hp=>⟨.none,⟨.ifc t (ev x),hp,[],.pure⟩,?_,trivial,Le.refl _⟩)
 rw[ho]
 simp only[runPure0,ht]
 generalize ti.desc=d at hd ⊢
 cases d <;> first|exact absurd rfl (hd _)|rfl
theorem lk_makeFunc {f:FuncId}{xs ys:Array Operand}(ho:o.op=.makeFunc (.func f) xs ys):Lk P o ev h (.fn f xs.size (nth (xs.toList.map ev)) ys.size (nth (ys.toList.map ev))):=
 .pure (fun hp=>⟨.none,⟨_,hp,[],.pure⟩,by rw[ho];rfl,trivial,Le.refl _⟩)
theorem lk_extract {x:Operand}{i n:Nat}{g:Nat→AV}(ho:o.op=.extract x i)(hx:ev x=.tup n g)(hi:i<n):Lk P o ev h (g i):=
 .pure (fun hp=>⟨.none,⟨g i,hp,[],.pure⟩,by rw[ho];simp only[runPure0,hx];rw[show Nat.blt i n=true from by simpa using hi];rfl,trivial,Le.refl _⟩)
theorem fieldOf_some {t i off:Nat}{fi:TyI}(hf:fieldOf P t i=some (off,fi)):∃ti fs f,tyOf P t=some ti∧ti.desc=.struct fs∧fs.toList[i]? = some f∧tyOf P f.type=some fi∧f.offset=off:=by
 unfold fieldOf at hf
 split at hf
 ·rename_i ti hti
  split at hf
  ·rename_i fs hfs
   split at hf
   ·rename_i f hfi
    split at hf
    ·rename_i fi' hft
     cases hf
     exact⟨ti,fs,f,hti,hfs,hfi,hft,rfl⟩
    ·cases hf
   ·cases hf
  ·cases hf
 ·cases hf
theorem le_zeroV (ti:TyI)(h1:ti.agg=true∨ti.size=1):Le (mkv ti.agg ti.size ti.zero) (zeroV ti):=by
 unfold zeroV mkv zerosL
 cases hb:ti.agg with
 |true=>
  refine Le.agg (fun j hj=>Le.of_eq ?_)
  rw[nx_eq,tab_nth _ _ _ _ hj,Nat.zero_add]
 |false=>
  have:ti.size=1:=by
   rcases h1 with h|h
   ·rw[hb] at h;cases h
   ·exact h
  rw[this]
  exact Le.of_eq rfl
theorem nonAgg_size {t:Nat}{ti:TyI}(h:tyOf P t=some ti)(hb:ti.agg=false):ti.size=1:=by
 obtain⟨i,h1,h2,h3,z,h4,h5,h6,h7,h8⟩:=(tyOf_ok h).info
 have ha:=(tyOf_ok h).agg
 rw[hb,h7] at ha
 have:z.cells=#[z]:=by cases z <;> first|rfl|cases ha
 rw[←h5,this];rfl
theorem lk_typeAssert {x:Operand}{xt d:TypeId}{ti:TyI}{K:KV}(ho:o.op=.typeAssert x xt d true)(ht:tyOf P d=some ti)(hd:∀ms,ti.desc≠.interface ms)(hk:tas d (zeroV ti) (ev x) K=some a):∃v,K v=some a∧Lk P o ev h v:=by
 have hz:Le (mkv ti.agg ti.size ti.zero) (zeroV ti):=le_zeroV ti (by cases hb:ti.agg with|true=>exact .inl rfl|false=>exact .inr (nonAgg_size ht hb))
 have tup:∀(u v:AV) (b:Bool),Le u v→Le (.tup 2 (nth [u,.bool b])) (tup2 v (.bool b)):=fun u v b hl=>Le.tup (fun j hj=>by
  match j,hj with
  |0,_=>exact hl
  |1,_=>exact Le.refl _)
 rcases wIfc_some hk with⟨t,v,hx,h2⟩|⟨hx,h2⟩
 ·refine⟨_,h2,.pure (fun hp=>⟨.none,⟨.tup 2 (nth (bif Nat.beq t d then[v,.bool true] else[mkv ti.agg ti.size ti.zero,.bool false])),hp,[],.pure⟩,?_,trivial,?_⟩)⟩
  ·rw[ho]
   simp only[runPure0,ht,hx]
   generalize ti.desc=d at hd ⊢
   cases d <;> first|exact absurd rfl (hd _)|rfl
  ·cases Nat.beq t d with
   |true=>exact tup _ _ _ (Le.refl _)
   |false=>exact tup _ _ _ hz
 ·refine⟨_,h2,.pure (fun hp=>⟨.none,⟨.tup 2 (nth [mkv ti.agg ti.size ti.zero,.bool false]),hp,[],.pure⟩,?_,trivial,tup _ _ _ hz⟩)⟩
  rw[ho]
  simp only[runPure0,ht,hx]
  generalize ti.desc=d at hd ⊢
  cases d <;> first|exact absurd rfl (hd _)|rfl
theorem lk_fieldAddr {t i off:Nat}{fi:TyI}{x:Operand}{K:KV}(ho:o.op=.fieldAddr t x i)(hf:fieldOf P t i=some (off,fi))(hs:Nat.blt 0 fi.size=true)(hk:fa off (ev x) K=some a):∃v,K v=some a∧Lk P o ev h v:=by
 obtain⟨ti,fs,f,h1,h2,h3,h4,rfl⟩:=fieldOf_some hf
 rcases wRef_some hk with⟨b,c,hx,hK⟩|⟨n,g,hx,hK⟩
 ·exact⟨_,hK,.pure (fun hp=>⟨.none,⟨.ref b (c+f.offset),hp,[],.pure⟩,by rw[ho];simp[runPure0,h1,h2,h3,h4,hx,hs,okP],trivial,Le.refl _⟩)⟩
 ·exact⟨_,hK,.pure (fun hp=>⟨.none,⟨.fp (n-f.offset) (shG f.offset g),hp,[],.pure⟩,by rw[ho];simp[runPure0,h1,h2,h3,h4,hx,hs,okP],trivial,Le.refl _⟩)⟩
theorem lk_field {t i off:Nat}{fi:TyI}{x:Operand}{m:Nat}{g:Nat→AV}(ho:o.op=.field t x i)(hf:fieldOf P t i=some (off,fi))(hs:Nat.blt 0 fi.size=true)(hx:ev x=.agg m g)(hm:off+fi.size≤m):Lk P o ev h (mkvO fi.agg fi.size off g):=by
 obtain⟨ti,fs,f,h1,h2,h3,h4,rfl⟩:=fieldOf_some hf
 have hb:Nat.ble (f.offset+fi.size) m=true:=by simpa using hm
 exact .pure (fun hp=>⟨.none,⟨mkvO fi.agg fi.size f.offset g,hp,[],.pure⟩,by rw[ho];simp only[runPure0,h1,h2,h3,h4,hx,hs,hb,okP];rfl,trivial,Le.refl _⟩)
theorem lk_ix {t e:Nat}{ti ei:TyI}{x i:Operand}{K:KV}(ho:o.op=.indexAddr t x i)(ht:tyOf P t=some ti)(hd:ti.desc=.slice e)(he:tyOf P e=some ei)(hk:ix ei.size (ev x) (ev i) K=some a):∃v,K v=some a∧Lk P o ev h v:=by
 obtain⟨k,n,hi,h1⟩:=wInt_some hk
 obtain⟨h2,h3⟩:=ck_some h1
 obtain⟨hn,hnn⟩:=nonneg_eq h2
 rw[hnn] at h3
 rcases wSl_some h3 with⟨f,s,m,g,hx,h4⟩|⟨b,off,l,c,ex,s,hx,h4⟩|⟨w,b,l,s,hx,h4⟩ <;> obtain⟨h5,h6⟩:=ck_some h4 <;> obtain⟨h7,h8⟩:=ck_some h6 <;> have hs:=beqN h5 <;> subst hs <;> have hlt:=bleS h7
 ·exact⟨_,h8,.pure (fun hp=>⟨.none,⟨.fp ei.size (g n.toNat),hp,[0≤n∧n<(m:Int)],.pure⟩,by rw[ho];simp[runPure0,ht,hd,he,hi,hx,okB],⟨⟨hn,by omega⟩,trivial⟩,Le.refl _⟩)⟩
 ·exact⟨_,h8,.pure (fun hp=>⟨.none,⟨.ref b (offs off n.toNat ei.size),hp,[0≤n∧n<(l:Int)],.pure⟩,by rw[ho];simp[runPure0,ht,hd,he,hi,hx,okB],⟨⟨hn,by omega⟩,trivial⟩,Le.of_eq (by rw[offs_eq];rfl)⟩)⟩
 ·exact⟨_,h8,.pure (fun hp=>⟨.none,⟨.ref b (offs 0 n.toNat ei.size),hp,[0≤n∧n<(l:Int)],.pure⟩,by rw[ho];simp[runPure0,idxOw,ht,hd,he,hi,hx,okB],⟨⟨hn,by omega⟩,trivial⟩,Le.of_eq (by rw[offs_eq,Nat.zero_add];rfl)⟩)⟩
theorem lk_ixA {t n e:Nat}{ti ei:TyI}{x i:Operand}{K:KV}(ho:o.op=.indexAddr t x i)(ht:tyOf P t=some ti)(hd:ti.desc=.array n e)(he:tyOf P e=some ei)(hk:ixA n ei.size (ev x) (ev i) K=some a):∃v,K v=some a∧Lk P o ev h v:=by
 obtain⟨k,m,hi,h1⟩:=wInt_some hk
 obtain⟨h2,h3⟩:=ck_some h1
 obtain⟨hn,hnn⟩:=nonneg_eq h2
 rw[hnn] at h3
 obtain⟨h4,h5⟩:=ck_some h3
 have hlt:=bleS h4
 rcases wRef_some h5 with⟨b,c,hx,hK⟩|⟨N,g,hx,hK⟩
 ·exact⟨_,hK,.pure (fun hp=>⟨.none,⟨.ref b (offs c m.toNat ei.size),hp,[0≤m∧m<(n:Int)],.pure⟩,by rw[ho];simp[runPure0,ht,hd,he,hi,hx,okB],⟨⟨hn,by omega⟩,trivial⟩,Le.of_eq (by rw[offs_eq];rfl)⟩)⟩
 ·exact⟨_,hK,.pure (fun hp=>⟨.none,⟨.fp (N-m.toNat*ei.size) (shG (offs 0 m.toNat ei.size) g),hp,[0≤m∧m<(n:Int)],.pure⟩,by rw[ho];simp[runPure0,ht,hd,he,hi,hx,okB],⟨⟨hn,by omega⟩,trivial⟩,Le.of_eq (by rw[offs_eq,Nat.zero_add];rfl)⟩)⟩
theorem ixS_go {F:UInt8→Ans}:∀(l:List UInt8) (j:Nat),(List.rec (motive:=fun _=>Nat→(UInt8→Ans)→Ans) (fun _ _=>none) (fun a _ ih j F=>Nat.rec (motive:=fun _=>Ans) (F a) (fun j _=>ih j F) j) l j F:Ans)=some a→∃b,l[j]? = some b∧F b=some a
 |[],j,h=>no h
 |b::l,0,h=>⟨b,rfl,h⟩
 |b::l,j+1,h=>by
  obtain⟨c,h1,h2⟩:=ixS_go l j h
  exact⟨c,by simpa using h1,h2⟩
theorem lk_ixS {t:Nat}{x i:Operand}{K:KV}(ho:o.op=.index t x i)(hu:P.underlying t=some .string)(hk:ixS (ev x) (ev i) K=some a):∃v,K v=some a∧Lk P o ev h v:=by
 obtain⟨k,n,hi,h1⟩:=wInt_some hk
 obtain⟨h2,h3⟩:=ck_some h1
 obtain⟨hn,hnn⟩:=nonneg_eq h2
 obtain⟨s,hx,h4⟩:=wStr_some h3
 rw[hnn] at h4
 obtain⟨b,hb,h5⟩:=ixS_go _ _ h4
 refine⟨_,h5,[],fun _ h=>(by cases h),fun hp _ R g=>⟨fun FM ρ w evc ok hop=>?_⟩⟩
 have h6:=hop x (by simp[ho,Op.operands])
 have h7:=hop i (by simp[ho,Op.operands])
 rw[hx] at h6
 rw[hi] at h7
 have h6:evc x=.string s:=h6
 have h7:evc i=.int k n:=h7
 have hg:s[n.toNat]? = some b:=by
  rw[Array.getElem?_toList] at hb
  exact hb
 exact⟨.value (.int .u8 b.toNat),w,FM,ρ,_,by simp[execOp,ho,h6,h7,Instr.index,asIntOf,underlying,hu,hn,hg],rfl,rfl,ok,Goes.refl _ _ _ _ _⟩
theorem lk_ixV {t n e:Nat}{ei:TyI}{x i:Operand}{K:KV}(ho:o.op=.index t x i)(hu:P.underlying t=some (.array n e))(he:tyOf P e=some ei)(hag:ei.agg=false)(hk:ixV n (ev x) (ev i) K=some a):∃v,K v=some a∧Lk P o ev h v:=by
 obtain⟨k,m,hi,h1⟩:=wInt_some hk
 obtain⟨h2,h3⟩:=ck_some h1
 obtain⟨hn,hnn⟩:=nonneg_eq h2
 obtain⟨h4,h5⟩:=ck_some h3
 have hlt:=bleS h4
 obtain⟨N,g,hx,h6⟩:=wAg_some h5
 obtain⟨h7,h8⟩:=ck_some h6
 have hN:=ble h7
 have hsz:=nonAgg_size he hag
 refine⟨_,h8,[],fun _ h=>(by cases h),fun hp _ R gg=>⟨fun FM ρ w evc ok hop=>?_⟩⟩
 have d1:=hop x (by simp[ho,Op.operands])
 have d2:=hop i (by simp[ho,Op.operands])
 rw[hx] at d1
 rw[hi] at d2
 have d2:evc i=.int k m:=d2
 obtain⟨cs,e1,e2,e3⟩:=d1
 have hd:=(tyOf_ok he).und
 have hsa:isAggD ei.desc=false:=by have:=(tyOf_ok he).agg;rw[hag] at this;exact this.symm
 have hp1:=run_part_scalar (P:=P) hd hsa cs (nn m) (by omega) w
 have hs1:(sizeOf e).run P w=.ok 1 w:=by have:=run_size (P:=P) (tyOf_ok he) w;rwa [hsz] at this
 have hbm:(0≤m∧m<(n:Int)):=⟨hn,by omega⟩
 refine⟨.value (cs.getD (nn m) undef),w,FM,ρ,_,?_,rfl,(e3 (nn m) (by omega)).2,ok,Goes.refl _ _ _ _ _⟩
 simp[execOp,ho,Instr.index,run_underlying hu,e1,d2,asIntOf,hbm,hs1,Sem.run_bind,Result.andThen,←hnn,hp1]
theorem lk_call1 {c:Call}{b:Builtin}{x:Operand}{t:TypeId}(hc:c.callee=.builtin b)(ht:c.argTypes.toList=[t])(hx:c.args.toList=[x]):c=⟨.builtin b,#[x],#[t]⟩:=by
 obtain⟨callee,args,argTypes⟩:=c
 simp only at hc ht hx
 have h2:argTypes=#[t]:=by cases argTypes;simp only at ht;rw[ht]
 have h3:args=#[x]:=by cases args;simp only at hx;rw[hx]
 rw[hc,h2,h3]
theorem lk_call2 {c:Call}{b:Builtin}{x y:Operand}{t t2:TypeId}(hc:c.callee=.builtin b)(ht:c.argTypes.toList=[t,t2])(hx:c.args.toList=[x,y]):c=⟨.builtin b,#[x,y],#[t,t2]⟩:=by
 obtain⟨callee,args,argTypes⟩:=c
 simp only at hc ht hx
 have h2:argTypes=#[t,t2]:=by cases argTypes;simp only at ht;rw[ht]
 have h3:args=#[x,y]:=by cases args;simp only at hx;rw[hx]
 rw[hc,h2,h3]
theorem lk_len {c:Call}{x:Operand}{t:TypeId}{v:AV}(ho:o.op=.call c)(hc:c.callee=.builtin .len)(ht:c.argTypes.toList=[t])(hx:c.args.toList=[x])(hv:lenV (tyOf P) t (ev x)=some v):Lk P o ev h v:=
 .pure (fun hp=>⟨.none,⟨v,hp,[],.pure⟩,by rw[ho];simp only[runPure0,hc,ht,hx,hv,okP],trivial,Le.refl _⟩)
theorem lk_lenS {c:Call}{x:Operand}{t e:TypeId}{ti:TyI}{K:KV}(ho:o.op=.call c)(hc:c.callee=.builtin .len)(ht:c.argTypes.toList=[t])(hx:c.args.toList=[x])(hti:tyOf P t=some ti)(hd:ti.desc=.slice e)(hk:len (ev x) K=some a):∃v,K v=some a∧Lk P o ev h v:=by
 rcases wSl_some hk with⟨f,s,m,g,hv,h4⟩|⟨b,off,l,c,ex,s,hv,h4⟩|⟨w,b,l,s,hv,h4⟩
 all_goals exact⟨_,h4,lk_len ho hc ht hx (by simp[lenV,hti,hd,hv])⟩
theorem lk_lens {c:Call}{x:Operand}{t:TypeId}{ti:TyI}{K:KV}(ho:o.op=.call c)(hc:c.callee=.builtin .len)(ht:c.argTypes.toList=[t])(hx:c.args.toList=[x])(hti:tyOf P t=some ti)(hd:ti.desc=.string)(hk:lens (ev x) K=some a):∃v,K v=some a∧Lk P o ev h v:=by
 obtain⟨s,hv,h2⟩:=wStr_some hk
 exact⟨_,h2,lk_len ho hc ht hx (by unfold lenV;simp only[hti,hd,hv];rfl)⟩
theorem lk_cap {c:Call}{x:Operand}{t e:TypeId}{ti:TyI}{K:KV}(ho:o.op=.call c)(hc:c.callee=.builtin .cap)(ht:c.argTypes.toList=[t])(hx:c.args.toList=[x])(hti:tyOf P t=some ti)(hd:ti.desc=.slice e)(hk:caps (ev x) K=some a):∃v,K v=some a∧Lk P o ev h v:=by
 obtain rfl:=lk_call1 hc ht hx
 rcases wSl_some hk with⟨f,s,m,g,hv,h4⟩|⟨b,off,l,c,ex,s,hv,h4⟩|⟨w,b,l,s,hv,h4⟩
 ·exact no h4
 ·obtain⟨h5,h6⟩:=ck_some h4
  refine⟨_,h6,[],fun _ h=>(by cases h),fun hp _ R g=>⟨fun FM ρ w evc ok hop=>?_⟩⟩
  have h7:=hop x (by simp[ho,Op.operands,Call.operands])
  rw[hv] at h7
  obtain⟨p,cap',_,he,_,hc',_⟩:=h7
  have hcap:=hc' h5
  subst hcap
  have hu:(underlying t).run P w=.ok (.slice e) w:=by have:=run_und (P:=P) (tyOf_ok hti) w;rwa [hd] at this
  exact⟨.value (goInt cap'),w,FM,ρ,_,by simp[execOp,ho,resolve,invoke,builtin,Builtin.cap_,hu,he],rfl,rfl,ok,Goes.refl _ _ _ _ _⟩
 ·exact no h4
theorem lk_min {c:Call}{x y:Operand}{t t2:TypeId}{K:KV}(ho:o.op=.call c)(hc:c.callee=.builtin .min)(ht:c.argTypes.toList=[t,t2])(hx:c.args.toList=[x,y])(hk:mi (ev x) (ev y) K=some a):∃v,K v=some a∧Lk P o ev h v:=by
 obtain rfl:=lk_call2 hc ht hx
 obtain⟨k,m,n,h1,h2,h3⟩:=w2_some hk
 have e:(Bool.rec (motive:=fun _=>Int) n m (ilt m n):Int)=if n<m then n else m:=by
  rw[ilt_eq]
  by_cases hlt:m<n
  ·rw[decide_eq_true hlt,if_neg (by omega)]
  ·rw[decide_eq_false hlt]
   show n=_
   split <;> omega
 rw[e] at h3
 refine⟨_,h3,[],fun _ h=>(by cases h),fun hp _ R g=>⟨fun FM ρ w evc ok hop=>?_⟩⟩
 have h4:=hop x (by simp[ho,Op.operands,Call.operands])
 have h5:=hop y (by simp[ho,Op.operands,Call.operands])
 rw[h1] at h4
 rw[h2] at h5
 have h4:evc x=.int k m:=h4
 have h5:evc y=.int k n:=h5
 exact⟨.value (.int k (if n<m then n else m)),w,FM,ρ,_,by simp[execOp,ho,resolve,invoke,builtin,h4,h5,Builtin.min_,Builtin.min2],rfl,rfl,ok,Goes.refl _ _ _ _ _⟩
theorem lk_max {c:Call}{x y:Operand}{t t2:TypeId}{K:KV}(ho:o.op=.call c)(hc:c.callee=.builtin .max)(ht:c.argTypes.toList=[t,t2])(hx:c.args.toList=[x,y])(hk:ma (ev x) (ev y) K=some a):∃v,K v=some a∧Lk P o ev h v:=by
 obtain rfl:=lk_call2 hc ht hx
 obtain⟨k,m,n,h1,h2,h3⟩:=w2_some hk
 have e:(Bool.rec (motive:=fun _=>Int) m n (ilt m n):Int)=if n > m then n else m:=by
  rw[ilt_eq]
  by_cases hlt:m<n
  ·rw[decide_eq_true hlt,if_pos (by omega)]
  ·rw[decide_eq_false hlt]
   show m=_
   split <;> omega
 rw[e] at h3
 refine⟨_,h3,[],fun _ h=>(by cases h),fun hp _ R g=>⟨fun FM ρ w evc ok hop=>?_⟩⟩
 have h4:=hop x (by simp[ho,Op.operands,Call.operands])
 have h5:=hop y (by simp[ho,Op.operands,Call.operands])
 rw[h1] at h4
 rw[h2] at h5
 have h4:evc x=.int k m:=h4
 have h5:evc y=.int k n:=h5
 exact⟨.value (.int k (if n > m then n else m)),w,FM,ρ,_,by simp[execOp,ho,resolve,invoke,builtin,h4,h5,Builtin.max_,Builtin.max2],rfl,rfl,ok,Goes.refl _ _ _ _ _⟩
theorem lk_ld {t:Nat}{ti:TyI}{p:Operand}(ho:o.op=.load t p)(ht:tyOf P t=some ti)(hk:HOk h):(∀{b off n:Nat} {fr:Bool} {l:LA},ev p=.ref b off→isRC (gt h b) fr n l→off+ti.size≤n→Lk P o ev h (mkvO ti.agg ti.size off (nx l))) ∧
  ∀{n:Nat} {g:Nat→AV},ev p=.fp n g→ti.size≤n→Lk P o ev h (mkv ti.agg ti.size g):=by
 have h1:(ti.agg||Nat.beq ti.size 1)=true:=by
  cases hb:ti.agg with
  |true=>rfl
  |false=>rw[nonAgg_size ht hb];rfl
 constructor
 ·intro b off n fr l hp hg hn
  obtain⟨hlt,hob⟩:=hk.rcells (P:=P) hg
  refine⟨[b],fun x hx=>by rw[List.mem_singleton.1 hx];exact hlt,fun hp' hs R g=>?_⟩
  have hob':getO hp' b=.cells fr n (nx l):=by rw[hs b (by simp)];exact hob
  refine opOk_p0 (orc:=.none) (out:=⟨mkvO ti.agg ti.size off (nx l),hp',[off+ti.size≤n],.load b⟩) ?_ ⟨hn,trivial⟩ (Le.refl _)
  rw[ho]
  simp only[runPure0,ht,h1,hp,hob']
  rfl
 ·intro n g hp hn
  refine .pure (fun hp'=>⟨.none,⟨mkv ti.agg ti.size g,hp',[ti.size≤n],.pure⟩,?_,⟨hn,trivial⟩,Le.refl _⟩)
  rw[ho]
  simp only[runPure0,ht,h1,hp]
  rfl
theorem lk_ld1 {t:Nat}{ti:TyI}{p:Operand}{K:KV}(ho:o.op=.load t p)(ht:tyOf P t=some ti)(hag:ti.agg=false)(hok:HOk h)(hk:ld1 h (ev p) K=some a):∃v,K v=some a∧Lk P o ev h v:=by
 have hsz:=nonAgg_size ht hag
 obtain⟨A,B⟩:=lk_ld (P:=P) (ev:=ev) (h:=h) ho ht hok
 rw[hag,hsz] at A B
 rcases wRef_some hk with⟨b,f,hx,h2⟩|⟨n,g,hx,h2⟩
 ·obtain⟨fr,n,l,hg,h3⟩:=wRe_some h2
  obtain⟨h4,h5⟩:=ck_some h3
  exact⟨_,h5,A hx hg (bleS h4)⟩
 ·obtain⟨h4,h5⟩:=ck_some h2
  exact⟨_,h5,B hx (ble h4)⟩
theorem lk_ldn {t:Nat}{ti:TyI}{p:Operand}{K:KV}(ho:o.op=.load t p)(ht:tyOf P t=some ti)(hag:ti.agg=true)(hok:HOk h)(hk:ldn ti.size h (ev p) K=some a):∃v,K v=some a∧Lk P o ev h v:=by
 obtain⟨A,B⟩:=lk_ld (P:=P) (ev:=ev) (h:=h) ho ht hok
 rw[hag] at A B
 rcases wRef_some hk with⟨b,f,hx,h2⟩|⟨n,g,hx,h2⟩
 ·obtain⟨fr,n,l,hg,h3⟩:=wRe_some h2
  obtain⟨h4,h5⟩:=ck_some h3
  exact⟨_,h5,(A hx hg (ble h4)).le (Le.agg (fun j hj=>Le.of_eq (by rw[dr_nx,Nat.add_comm])))⟩
 ·obtain⟨h4,h5⟩:=ck_some h2
  exact⟨_,h5,B hx (ble h4)⟩
end
end Go.Bvm
namespace Go.Bvm
open Go Go.Avm
section
variable {P:Program}{o:Oper}{ev:Operand→AV}{h:H}{a:AV}
theorem opOk_leH {R:Res}{g g':R.σ}{hp hp1 hp2:List AObj}{v:AV}(hx:OpOk P R o ev hp g v hp1 g')(hle:leH hp1 hp2):OpOk P R o ev hp g v hp2 g':=by
 refine⟨fun FM ρ w evc ok hop=>?_⟩
 obtain⟨nx,w',FM',ρ',u,r1,r2,r3,r4,r5⟩:=hx.h FM ρ w evc ok hop
 exact⟨nx,w',FM',ρ',u,r1,r2,r3,ok_le r4 hle,r5⟩
theorem leH_add {hp:List AObj}{x y:AObj}(hl:LeO x y):leH (addO hp x) (addO hp y):=by
 refine leH_of_get (by rw[length_addO,length_addO]) (fun i=>?_)
 rcases Nat.lt_trichotomy i hp.length with h1|h1|h1
 ·rw[getO_addO_lt h1,getO_addO_lt h1];exact LeO.refl _
 ·subst h1;rw[getO_addO_eq,getO_addO_eq];exact hl
 ·rw[getO_ge (by rw[length_addO];omega),getO_ge (by rw[length_addO];omega)];trivial
theorem leO_nx {fr:Bool}{n:Nat}{f:Nat→AV}{l:LA}(hx:∀j,j<n→nx l j=f j):LeO (.cells fr n f) (.cells fr n (nx l)):=⟨rfl,Nat.le_refl _,fun j hj=>Le.of_eq (hx j hj).symm⟩
structure Ef (P:Program)(o:Oper)(ev:Operand→AV)(h:H)(v:AV)(h':H):Prop where
 ok:HOk h'
 op:∀(R:Res) (g:R.σ),OpOk P R o ev (toHp P h) g v (toHp P h') g
theorem Lk.ef {v:AV}(hok:HOk h)(hl:Lk P o ev h v):Ef P o ev h v h:=⟨hok,fun R g=>let ⟨_,_,h2⟩:=hl.h;h2 _ (fun _ _=>rfl) R g⟩
theorem oN_some {x:Option Operand}{d:Nat}{K:Nat→Ans}(hk:oN (x.map ev) d K=some a):(x=none∧K d=some a)∨∃y k n,x=some y∧ev y=.int k n∧0≤n∧K n.toNat=some a:=by
 cases x with
 |none=>exact .inl ⟨rfl,hk⟩
 |some y=>
  obtain⟨k,n,h1,h2⟩:=wInt_some hk
  obtain⟨h3,h4⟩:=ck_some h2
  obtain⟨h5,h6⟩:=nonneg_eq h3
  rw[h6] at h4
  exact .inr ⟨y,k,n,rfl,h1,h5,h4⟩
structure Bd (ev:Operand→AV)(x:Option Operand)(d:Nat)(z:Option Int)(n:Nat):Prop where
 opt:optInt (x.map ev)=some z
 is:(match z with|some m=>m.toNat|none=>d)=n
 pos:∀m,z=some m→0≤m
theorem oN_bd {x:Option Operand}{d:Nat}{K:Nat→Ans}(hk:oN (x.map ev) d K=some a):∃z n,Bd ev x d z n∧(z.isSome=x.isSome)∧K n=some a:=by
 rcases oN_some hk with⟨rfl,h1⟩|⟨y,k,n,rfl,h1,h2,h3⟩
 ·exact⟨none,d,⟨rfl,rfl,fun _ h=>(by cases h)⟩,rfl,h1⟩
 ·exact⟨some n,n.toNat,⟨by simp[optInt,h1],rfl,fun m h=>by cases h;exact h2⟩,rfl,h3⟩
theorem okSl_some {lo hi m cap:Nat}{K:Ans}(hk:okSl lo hi m cap K=some a):lo≤hi∧hi≤m∧m≤cap∧K=some a:=by
 obtain⟨h1,h2⟩:=ck_some hk
 obtain⟨h3,h4⟩:=ck_some h2
 obtain⟨h5,h6⟩:=ck_some h4
 exact⟨ble h1,ble h3,ble h5,h6⟩
theorem bounds_ok {len cap lo hi m:Nat}{zl zh zm:Option Int}{xl xh xm:Option Operand}(hl:Bd ev xl 0 zl lo)(hh:Bd ev xh len zh hi)(hm:Bd ev xm cap zm m)(h1:lo≤hi)(h2:hi≤m)(h3:m≤cap) :
  (bounds len cap zl zh zm).2=(lo,hi,m)∧AllP (bounds len cap zl zh zm).1:=by
 have e1:=hl.is
 have e2:=hh.is
 have e3:=hm.is
 have p1:=hl.pos
 have p2:=hh.pos
 have p3:=hm.pos
 unfold bounds
 cases zl <;> cases zh <;> cases zm <;> simp only at e1 e2 e3 ⊢ <;> refine⟨by rw[e1,e2,e3],?_⟩ <;> simp only[List.append_nil,List.nil_append,List.cons_append,AllP,and_true]
 all_goals
  first
   |trivial
   |(have q1:=p1 _ rfl;have q2:=p2 _ rfl;have q3:=p3 _ rfl;omega)
   |(have q1:=p1 _ rfl;have q2:=p2 _ rfl;omega)
   |(have q1:=p1 _ rfl;have q3:=p3 _ rfl;omega)
   |(have q2:=p2 _ rfl;have q3:=p3 _ rfl;omega)
   |(have q1:=p1 _ rfl;omega)
   |(have q2:=p2 _ rfl;omega)
   |(have q3:=p3 _ rfl;omega)
   |omega
theorem runSlice {ty:Nat→Option TyI}{hp:List AObj}{t:TypeId}{x:Operand}{lo hi mx:Option Operand}{orc:Orc}:runPure0 ty hp ev orc (.slice t x lo hi mx)=sliceV ty hp t (ev x) (lo.map ev) (hi.map ev) (mx.map ev) orc:=rfl
theorem optInt_none:optInt none=some none:=rfl
theorem optInt_int {v:AV}{z:Option Int}(hz:optInt (some v)=some z):∃k n,v=.int k n:=by
 cases v <;> first|exact⟨_,_,rfl⟩|(exact nomatch (show(none:Option (Option Int))=some z from hz))
theorem lk_sliN {t e:Nat}{ti ei:TyI}{x:Operand}{lo hi mx:Option Operand}{K:KV}(ho:o.op=.slice t x lo hi mx)(hmx:(mx.isSome&&hi.isNone)=false)(ht:tyOf P t=some ti)(hd:ti.desc=.slice e)(he:tyOf P e=some ei){s n:Nat}{get:Nat→Nat→AV}(hx:ev x=.fz .nil s n get)
  (hk:(oN (lo.map ev) 0 fun lo=>oN (hi.map ev) 0 fun hi=>ck (Nat.ble lo hi) (ck (Nat.ble hi 0) (iff mx.isSome (oN (mx.map ev) 0 fun m=>ck (Nat.beq 0 m) (K (.fz .exm ei.size 0 fun _ _=>.any))) (K (.fz .nil ei.size 0 fun _ _=>.any)))))=some a):∃v,K v=some a∧Lk P o ev h v:=by
 obtain⟨zl,lo',bl,_,h7⟩:=oN_bd hk
 obtain⟨zh,hi',bh,eh,h8⟩:=oN_bd h7
 obtain⟨h9,h10⟩:=ck_some h8
 obtain⟨h11,h12⟩:=ck_some h10
 have h0:hi'=0:=Nat.le_zero.1 (ble h11)
 subst h0
 have hle:Le (ev x) (.fz .nil ei.size 0 fun _ _=>.any):=fun FM ρ v h=>by
  rw[hx] at h
  obtain⟨_,a,c,rfl,q⟩:=h.1 rfl
  exact⟨fun _=>⟨rfl,a,c,rfl,q⟩,fun h=>(by cases h)⟩
 have hni:∀k m,ev x≠.int k m:=fun k m e=>by rw[hx] at e;cases e
 have bad:∀{d:Nat} {z:Option Int} {n:Nat},¬Bd ev (some x) d z n:=fun hb=>let ⟨k,n,e⟩:=optInt_int hb.opt;hni k n e
 classical
 let e1:Operand→AV:=fun y=>if y=x then .fz .nil ei.size 0 fun _ _=>.any else ev y
 have hne:∀{z:Option Operand},z≠some x→z.map e1=z.map ev:=fun {z} hz=>by
  cases z with
  |none=>rfl
  |some y=>simp only[Option.map_some,e1];rw[if_neg (fun e=>hz (by rw[e]))]
 have fin:∀{k:Fz} {ob:List Prop},AllP ob→(∀hp,runPure0 (tyOf P) hp e1 .none o.op=some ⟨.fz k ei.size 0 fun _ _=>.any,hp,ob,.pure⟩)→Lk P o ev h (.fz k ei.size 0 fun _ _=>.any):=fun hob hrun=>
  ⟨[],fun _ h=>(by cases h),fun hp _ R g=>opOk_leE (opOk_p0 (R:=R) (g:=g) (hrun hp) hob (Le.refl _)) (fun y _=>by
   simp only[e1]
   split
   ·rename_i e;rw[e];exact hle
   ·exact Le.refl _)⟩
 rcases iff_some h12 with⟨hs,h13⟩|⟨hs,h13⟩
 ·obtain⟨zm,m,bm,em,h14⟩:=oN_bd h13
  obtain⟨h15,h16⟩:=ck_some h14
  have:=beqN h15
  subst this
  obtain⟨k1,k2⟩:=bounds_ok bl bh bm (ble h9) (Nat.le_refl _) (Nat.le_refl _)
  refine⟨_,h16,fin (ob:=(bounds 0 0 zl zh zm).1++[(0:Nat)=0]) (AllP.append.2 ⟨k2,rfl,trivial⟩) (fun hp=>?_)⟩
  rw[ho,runSlice,hne (fun e=>bad (by rw[←e];exact bl)),hne (fun e=>bad (by rw[←e];exact bh)),hne (fun e=>bad (by rw[←e];exact bm))]
  simp only[e1,if_true]
  unfold sliceV
  have hb2:(zm.isSome&&zh.isNone)=false:=by
   rw[em]
   cases zh <;> cases hi <;> first|(cases eh;done)|exact hmx
  have hzm:zm.isSome=true:=by rw[em];exact hs
  obtain⟨z,rfl⟩:=Option.isSome_iff_exists.1 hzm
  simp only[ht,bl.opt,bh.opt,bm.opt,hb2,cond_false,hd,he,Nat.beq_refl,cond_true,k1]
  simp[okB]
 ·have hm0:mx=none:=by
   cases mx with
   |none=>rfl
   |some _=>exact absurd hs (by intro h;cases h)
  subst hm0
  obtain⟨k1,k2⟩:=bounds_ok bl bh (xm:=none) (zm:=none) (m:=0) (cap:=0) ⟨rfl,rfl,fun _ h=>(by cases h)⟩ (ble h9) (Nat.le_refl _) (Nat.le_refl _)
  refine⟨_,h13,fin k2 (fun hp=>?_)⟩
  rw[ho,runSlice,hne (fun e=>bad (by rw[←e];exact bl)),hne (fun e=>bad (by rw[←e];exact bh))]
  simp only[e1,if_true]
  unfold sliceV
  simp only[ht,bl.opt,bh.opt,Option.map_none,optInt_none,Option.isSome_none,Bool.false_and,cond_false,hd,he,Nat.beq_refl,cond_true,k1]
  simp[nilStays,okB]
theorem lk_sli {t e:Nat}{ti ei:TyI}{x:Operand}{lo hi mx:Option Operand}{K:KV}(ho:o.op=.slice t x lo hi mx)(hmx:(mx.isSome&&hi.isNone)=false)(ht:tyOf P t=some ti)(hd:ti.desc=.slice e)(he:tyOf P e=some ei)
  (hk:sli ei.size mx.isSome (ev x) (lo.map ev) (hi.map ev) (mx.map ev) K=some a):∃v,K v=some a∧Lk P o ev h v:=by
 have hmx':∀zh zm:Option Int,zh.isSome=hi.isSome→zm.isSome=mx.isSome→(zm.isSome&&zh.isNone)=false:=fun zh zm e1 e2=>by
  rw[e2]
  cases zh <;> cases hi <;> first|cases e1;done|exact hmx
 have main:∀(b off len cap:Nat) (ex:Bool),Le (ev x) (.sl b off len cap ex ei.size)→∀{lo' hi' m:Nat} {zl zh zm:Option Int},Bd ev lo 0 zl lo'→Bd ev hi len zh hi'→Bd ev mx cap zm m→zh.isSome=hi.isSome→zm.isSome=mx.isSome→lo'≤hi'→hi'≤m→m≤cap →
   iff (Nat.ble (Nat.succ lo') m) (K (.sl b (off+lo'*ei.size) (hi'-lo') (m-lo') (or mx.isSome ex) ei.size)) (K (.fz .opn ei.size 0 fun _ _=>.any))=some a→∃v,K v=some a∧Lk P o ev h v:=by
  intro b off len cap ex hle lo' hi' m zl zh zm bl bh bm eh em c1 c2 c3 hK
  obtain⟨k1,k2⟩:=bounds_ok bl bh bm c1 c2 c3
  have em':zm.isSome=mx.isSome:=em
  have op:∀{v:AV} {ob:List Prop} {orc:Orc},(∀hp,sliceV (tyOf P) hp t (.sl b off len cap ex ei.size) (lo.map ev) (hi.map ev) (mx.map ev) orc=okB hp ob v)→AllP ob→Lk P o ev h v:=by
   intro v ob orc hv hob
   refine⟨[],fun _ h=>(by cases h),fun hp _ R g=>⟨fun FM ρ w evc ok hop=>?_⟩⟩
   -- the slice is read as the wider one
   classical
   let e1:Operand→AV:=fun y=>if y=x then .sl b off len cap ex ei.size else ev y
   by_cases hin:(lo=some x∨hi=some x∨mx=some x)
   ·-- a slice is no bound
    exfalso
    have hsl:∀k n,ev x≠.int k n:=fun k n e=>by
     have:=hle FM ρ (.int k n) (by rw[e];rfl)
     obtain⟨_,_,_,h,_⟩:=this
     cases h
    have bad:∀{d:Nat} {z:Option Int} {n:Nat},¬Bd ev (some x) d z n:=fun hb=>let ⟨k,n,e⟩:=optInt_int hb.opt;hsl k n e
    rcases hin with rfl|rfl|rfl
    ·exact bad bl
    ·exact bad bh
    ·exact bad bm
   ·have hne:∀{z:Option Operand},z≠some x→z.map e1=z.map ev:=fun {z} hz=>by
     cases z with
     |none=>rfl
     |some y=>simp only[Option.map_some,e1];rw[if_neg (fun e=>hz (by rw[e]))]
    have h2:=hv hp
    have hrun:runPure0 (tyOf P) hp e1 orc o.op=some ⟨v,hp,ob,.pure⟩:=by
     rw[ho,runSlice,hne (fun e=>hin (.inl e)),hne (fun e=>hin (.inr (.inl e))),hne (fun e=>hin (.inr (.inr e)))]
     simp only[e1,if_true]
     exact h2
    exact(opOk_leE (opOk_p0 (R:=R) (g:=g) hrun hob (Le.refl _)) (fun y _=>by
     simp only[e1]
     split
     ·rename_i e;rw[e];exact hle
     ·exact Le.refl _)).h FM ρ w evc ok hop
  rcases iff_some hK with⟨h1,h2⟩|⟨h1,h2⟩
  ·refine⟨_,h2,op (orc:=.none) (ob:=(bounds len cap zl zh zm).1++[lo'<m]) (fun hp=>?_) (AllP.append.2 ⟨k2,bleS h1,trivial⟩)⟩
   unfold sliceV
   simp only[ht,bl.opt,bh.opt,bm.opt,hmx' zh zm eh em,cond_false,hd,he,Nat.beq_refl,cond_true,k1]
   rw[em']
  ·have hlt:¬lo'<m:=fun hlt=>by
    have:Nat.ble (Nat.succ lo') m=true:=by rw[Nat.ble_eq];exact hlt
    rw[this] at h1;cases h1
   refine⟨_,h2,op (orc:=.pure .any) (ob:=(bounds len cap zl zh zm).1++[lo'=hi']) (fun hp=>?_) (AllP.append.2 ⟨k2,by omega,trivial⟩)⟩
   unfold sliceV
   simp only[ht,bl.opt,bh.opt,bm.opt,hmx' zh zm eh em,cond_false,hd,he,Nat.beq_refl,cond_true,k1]
 rcases wSl_some hk with⟨f,s,n,g,hx,h4⟩|⟨b,off,l,c,ex,s,hx,h4⟩|⟨w,b,l,s,hx,h4⟩
 ·rcases iff_some h4 with⟨h5,h6⟩|⟨_,h6⟩
  case inr=>
   cases f <;> first|(exact no h6;done)|skip
   exact lk_sliN ho hmx ht hd he hx h6
  have hs:=beqN h5
  subst hs
  obtain⟨zl,lo',bl,_,h7⟩:=oN_bd h6
  obtain⟨zh,hi',bh,eh,h8⟩:=oN_bd h7
  obtain⟨h9,h10⟩:=ck_some h8
  obtain⟨h11,h12⟩:=ck_some h10
  rcases iff_some h12 with⟨hsm,h13⟩|⟨hsm,h14⟩
  ·obtain⟨zm,m,bm,em,h14⟩:=oN_bd h13
   obtain⟨h15,h16⟩:=ck_some h14
   have:=beqN h15
   subst this
   obtain⟨k1,k2⟩:=bounds_ok bl bh bm (ble h9) (Nat.le_refl _) (ble h11)
   refine⟨_,h16,.pure (fun hp=>⟨.none,⟨_,hp,(bounds n n zl zh zm).1++[hi'=hi'],.pure⟩,?_,AllP.append.2 ⟨k2,rfl,trivial⟩,Le.refl _⟩)⟩
   rw[ho,runSlice,hx]
   unfold sliceV
   have hzm:zm.isSome=true:=by rw[em];exact hsm
   have hb2:=hmx' zh zm eh em
   obtain⟨z,rfl⟩:=Option.isSome_iff_exists.1 hzm
   simp only[ht,bl.opt,bh.opt,bm.opt,hb2,cond_false,hd,he,Nat.beq_refl,cond_true,k1]
   rfl
  have hm0:mx=none:=by
   cases mx with
   |none=>rfl
   |some _=>exact absurd hsm (by intro h;cases h)
  subst hm0
  obtain⟨k1,k2⟩:=bounds_ok bl bh (xm:=none) (zm:=none) (m:=n) (cap:=n) ⟨rfl,rfl,fun _ h=>(by cases h)⟩ (ble h9) (ble h11) (Nat.le_refl _)
  refine⟨_,h14,.pure (fun hp=>⟨.none,⟨_,hp,(bounds n n zl zh none).1,.pure⟩,?_,k2,Le.refl _⟩)⟩
  rw[ho,runSlice,hx]
  unfold sliceV
  simp only[ht,bl.opt,bh.opt,Option.map_none,optInt_none,Option.isSome_none,Bool.false_and,cond_false,hd,he,Nat.beq_refl,cond_true,k1]
  rfl
 ·obtain⟨h5,h6⟩:=ck_some h4
  have hs:=beqN h5
  subst hs
  obtain⟨zl,lo',bl,_,h7⟩:=oN_bd h6
  obtain⟨zh,hi',bh,eh,h8⟩:=oN_bd h7
  obtain⟨zm,m,bm,em,h9⟩:=oN_bd h8
  obtain⟨c1,c2,c3,h10⟩:=okSl_some h9
  exact main b off l c ex (Le.of_eq hx) bl bh bm eh em c1 c2 c3 h10
 ·obtain⟨h5,h6⟩:=ck_some h4
  have hs:=beqN h5
  subst hs
  obtain⟨zl,lo',bl,_,h7⟩:=oN_bd h6
  obtain⟨zh,hi',bh,eh,h8⟩:=oN_bd h7
  obtain⟨zm,m,bm,em,h9⟩:=oN_bd h8
  obtain⟨c1,c2,c3,h10⟩:=okSl_some h9
  obtain⟨h11,h12⟩:=ck_some h10
  have hl1:=ble h11
  refine main b 0 l l false (by rw[hx];exact Le.ow_sl (by omega)) bl bh bm eh em c1 c2 c3 ?_
  rw[Nat.zero_add,show(or mx.isSome false)=mx.isSome by simp]
  exact h12
theorem lk_slA {t n e:Nat}{ti ei:TyI}{x:Operand}{lo hi mx:Option Operand}{K:KV}(ho:o.op=.slice t x lo hi mx)(hmx:(mx.isSome&&hi.isNone)=false)(ht:tyOf P t=some ti)(hd:ti.desc=.array n e)(he:tyOf P e=some ei)(hok:HOk h)
  (hk:slA n ei.size (ev x) h (lo.map ev) (hi.map ev) (mx.map ev) K=some a):∃v,K v=some a∧Lk P o ev h v:=by
 have hmx':∀zh zm:Option Int,zh.isSome=hi.isSome→zm.isSome=mx.isSome→(zm.isSome&&zh.isNone)=false:=fun zh zm e1 e2=>by
  rw[e2]
  cases zh <;> cases hi <;> first|cases e1;done|exact hmx
 rcases wRef_some hk with⟨b,off,hx,h2⟩|⟨n,g,hx,h2⟩
 ·obtain⟨zl,lo',bl,_,h7⟩:=oN_bd h2
  obtain⟨zh,hi',bh,eh,h8⟩:=oN_bd h7
  obtain⟨zm,m,bm,em,h9⟩:=oN_bd h8
  obtain⟨c1,c2,c3,h10⟩:=okSl_some h9
  obtain⟨h11,h12⟩:=ck_some h10
  obtain⟨N,l,hg,h13⟩:=wCe_some h12
  obtain⟨h14,h15⟩:=ck_some h13
  obtain⟨h16,h17⟩:=ck_some h15
  obtain⟨hlt,hob⟩:=hok.cells (P:=P) hg
  obtain⟨k1,k2⟩:=bounds_ok bl bh bm c1 c2 c3
  refine⟨_,h17,[b],fun x hx=>by rw[List.mem_singleton.1 hx];exact hlt,fun hp' hs R g=>?_⟩
  have hob':getO hp' b=.cells false N (nx l):=by rw[hs b (by simp)];exact hob
  refine opOk_p0 (orc:=.none) (out:=⟨_,hp',(bounds n n zl zh zm).1++[lo'<m,off+n*ei.size≤N,0<N],.pure⟩) ?_ (AllP.append.2 ⟨k2,bleS h11,ble h16,ble h14,trivial⟩) (Le.refl _)
  rw[ho,runSlice,hx]
  unfold sliceV
  simp only[ht,bl.opt,bh.opt,bm.opt,hmx' zh zm eh em,cond_false,hd,he,k1,hob']
  rfl
 ·exact no h2
theorem partsC_some {place:Nat→Option (Nat × Nat)}{n:Nat}{lay:Lay}{l:LA}{K:LA→Ans}(hev:∀x,ev x=(opnd lay x).g l):∀{ps:List (Nat × Operand)} {cs:LA} {get:Nat→AV},(partsC place n lay ps).g l cs K=some a→(∀j,j<n→nx cs j=get j) →
  ∃cs' get',K cs'=some a∧fillA place n get (ps.map fun p=>(p.1,ev p.2))=some get'∧∀j,j<n→nx cs' j=get' j
 |[],cs,get,hk,hg=>⟨cs,get,hk,rfl,hg⟩
 |(i,x)::r,cs,get,hk,hg=>by
  simp only[List.map_cons,fillA]
  unfold partsC at hk
  split at hk
  ·rename_i off size hp
   simp only[hp]
   split at hk
   ·rename_i hb
    have hk:pt off size ((opnd lay x).g l) cs (fun cs=>(partsC place n lay r).g l cs K)=some a:=hk
    rw[←hev x] at hk
    obtain⟨hv,m,hm1,hm2,hk2⟩:=wCl_some hk
    obtain⟨h3,h4⟩:=ck_some hk2
    have hsz:=beqN h3
    have hb':=ble hb
    obtain⟨cs',get',c1,c2,c3⟩:=partsC_some hev (get:=over get off size (cellA (ev x))) h4 (fun j hj=>by
     rw[spl_over m size off cs (by omega),over_eq,over_eq]
     by_cases hin:off≤j∧j<off+size
     ·rw[if_pos hin,if_pos hin,hm2 _ (by omega)]
     ·rw[if_neg hin,if_neg hin,hg j hj])
    refine⟨cs',get',c1,?_,c3⟩
    rw[hv,hsz,Nat.beq_refl,hb]
    exact c2
   ·exact no hk
  ·exact no hk
theorem zeros_nx (ti:TyI)(j:Nat)(hj:j<ti.size):nx (zerosL ti) j=ti.zero j:=by
 unfold zerosL
 rw[nx_eq,tab_nth _ _ _ _ hj,Nat.zero_add]
theorem zerosL_len (ti:TyI):(zerosL ti).length=ti.size:=tab_len _ _ _
theorem lk_build {lay:Lay}{l:LA}{t:Nat}{ti:TyI}{ps:Array (Nat × Operand)}{place:Nat→Option (Nat × Nat)}{K:LA→Ans}(hev:∀x,ev x=(opnd lay x).g l)(ho:o.op=.build t ps)(ht:tyOf P t=some ti)
  (hd:(∃fs,ti.desc=.struct fs∧allTyped (tyOf P) fs.toList=true∧place=structPlace (tyOf P) fs)∨∃n e ei,ti.desc=.array n e∧tyOf P e=some ei∧place=fun i=>some (i*ei.size,ei.size))
  (hk:(partsC place ti.size lay ps.toList).g l (zerosL ti) K=some a):∃cs,K cs=some a∧Lk P o ev h (.agg ti.size (nx cs)):=by
 obtain⟨cs,get,h1,h2,h3⟩:=partsC_some hev hk (fun j hj=>zeros_nx ti j hj)
 refine⟨cs,h1,.pure (fun hp=>⟨.none,⟨.agg ti.size get,hp,[],.pure⟩,?_,trivial,Le.agg (fun j hj=>Le.of_eq (h3 j hj).symm)⟩)⟩
 rw[ho]
 simp only[runPure0,buildV,ht]
 rcases hd with⟨fs,d1,d2,rfl⟩|⟨n,e,ei,d1,d2,rfl⟩
 ·simp only[d1,d2,cond_true,h2,okP]
 ·simp only[d1,d2,h2,okP]
theorem ef_alloc {t:Nat}{ti:TyI}(ho:o.op=.alloc t)(ht:tyOf P t=some ti)(hok:HOk h):Ef P o ev h (.ref h.n 0) (nw h (.cells ti.size (zerosL ti))):=by
 refine⟨hok.nw _,fun R g=>?_⟩
 rw[toHp_nw]
 refine opOk_leH (hp1:=addO (toHp P h) (.cells false ti.size ti.zero)) ?_ (leH_add (leO_nx (fun j hj=>zeros_nx ti j hj)))
 have:=opOk_e0 (P:=P) (R:=R) (g:=g) (o:=o) (ev:=ev) (hp:=toHp P h) (orc:=.none) (out:=⟨.ref (toHp P h).length 0,addO (toHp P h) (.cells false ti.size ti.zero),[],.alloc (toHp P h).length⟩) (by rw[ho];simp only[runEff0,ht]) trivial
 rw[length_toHp] at this
 exact this
theorem ef_box {t:Nat}{x:Operand}{K:KVH}(ho:o.op=.box t x)(hok:HOk h)(hk:bx (ev x) h K=some a):∃v h',K v h'=some a∧Ef P o ev h v h':=by
 obtain⟨hv,l,hl,hx,hK⟩:=wCl_some hk
 refine⟨_,_,hK,hok.nw _,fun R g=>?_⟩
 rw[toHp_nw]
 refine opOk_leH (hp1:=addO (toHp P h) (.cells false (cnt (ev x)) (cellA (ev x)))) ?_ (leH_add (leO_nx hx))
 have:=opOk_e0 (P:=P) (R:=R) (g:=g) (o:=o) (ev:=ev) (hp:=toHp P h) (orc:=.none) (out:=⟨.ref (toHp P h).length 0,addO (toHp P h) (.cells false (cnt (ev x)) (cellA (ev x))),[],.alloc (toHp P h).length⟩) (by rw[ho];simp only[runEff0,hv,cond_true]) trivial
 rw[length_toHp] at this
 exact this
theorem ef_buildSlice {lay:Lay}{l:LA}{t n es:Nat}{ei:TyI}{ps:Array (Nat × Operand)}{K:KVH}(hev:∀x,ev x=(opnd lay x).g l)(ho:o.op=.buildSlice t n ps)(ht:elemSize (tyOf P) t=some (es,ei))(hn:(Nat.ble (n*es) 16777216&&Nat.blt 0 es)=true)(hok:HOk h)
  (hk:(partsC (fun i=>some (i*es,es)) (n*es) lay ps.toList).g l (zs n (zerosL ei)) (fun cs=>bs n (n*es) es cs h K)=some a):∃v h',K v h'=some a∧Ef P o ev h v h':=by
 obtain⟨_,_,_,_,_,hes⟩:=elemSize_ok ht
 obtain⟨cs,get,h1,h2,h3⟩:=partsC_some hev hk (get:=fun j=>ei.zero (j%es)) (fun j hj=>by
  have hes0:0<ei.size:=by
   rw[Bool.and_eq_true] at hn
   have:=hn.2
   rw[Nat.blt_eq] at this
   omega
  have hz:(zerosL ei).length=es:=by rw[zerosL_len];exact hes.symm
  rw[zs_nx _ (by rw[hz];omega) n j (by rw[hz];exact hj),hz,zeros_nx _ _ (by rw[←hes];exact Nat.mod_lt _ (by omega))])
 refine⟨_,_,h1,hok.nw _,fun R g=>?_⟩
 rw[toHp_nw]
 refine opOk_leH (hp1:=addO (toHp P h) (.cells false (n*es) get)) ?_ (leH_add (leO_nx h3))
 have:=opOk_e0 (P:=P) (R:=R) (g:=g) (o:=o) (ev:=ev) (hp:=toHp P h) (orc:=.none) (out:=⟨.sl (toHp P h).length 0 n n true es,addO (toHp P h) (.cells false (n*es) get),[],.alloc (toHp P h).length⟩) (by rw[ho];simp only[runEff0,ht,hn,cond_true,h2]) trivial
 rw[length_toHp] at this
 exact this
theorem ef_store {t:Nat}{ti:TyI}{p x:Operand}{K:KH}(ho:o.op=.store t p x)(ht:tyOf P t=some ti)(hs:Nat.blt 0 ti.size=true)(hok:HOk h)(hk:sto ti.size h (ev p) (ev x) K=some a):∃h',K h'=some a∧Ef P o ev h .any h':=by
 obtain⟨hv,l,hl,hx,hK⟩:=wCl_some hk
 obtain⟨h1,h2⟩:=ck_some hK
 have hsz:=beqN h1
 rcases wRef_some h2 with⟨b,f,hp,h3⟩|⟨n,g,_,h3⟩
 ·obtain⟨n,cs,hg,h4⟩:=wCe_some h3
  obtain⟨h5,h6⟩:=ck_some h4
  obtain⟨hlt,hob⟩:=hok.cells (P:=P) hg
  refine⟨_,h6,hok.st hlt _,fun R g=>?_⟩
  rw[toHp_st]
  refine opOk_e0 (orc:=.obj (nx (spl f l cs))) (out:=⟨.any,setO (toHp P h) b (.cells false n (nx (spl f l cs))),[f+ti.size≤n,∀c,c<n→nx (spl f l cs) c=over (nx cs) f ti.size (cellA (ev x)) c],.eff [b]⟩) ?_ ⟨ble h5,fun c _=>?_,trivial⟩
  ·rw[ho]
   simp only[runEff0,ht,hp,hob,hv,hsz,Nat.beq_refl,hs,Bool.and_self,cond_true]
  ·rw[spl_over l ti.size f cs (by omega),over_eq,over_eq]
   by_cases hin:f≤c∧c<f+ti.size
   ·rw[if_pos hin,if_pos hin,hx _ (by omega)]
   ·rw[if_neg hin,if_neg hin]
 ·exact no h3
theorem ef_makeSlice {t es:Nat}{ei:TyI}{l c:Operand}{K:KVH}(ho:o.op=.makeSlice t l c)(ht:elemSize (tyOf P) t=some (es,ei))(hes0:Nat.blt 0 es=true)(hok:HOk h)(hk:ms es ei.bytes (zerosL ei) (ev l) (ev c) h K=some a):∃v h',K v h'=some a∧Ef P o ev h v h':=by
 obtain⟨_,_,_,_,_,hes⟩:=elemSize_ok ht
 obtain⟨j,n,hl,h1⟩:=wInt_some hk
 obtain⟨k,m,hc,h2⟩:=wInt_some (x:=ev c) h1
 obtain⟨q1,h3⟩:=ck_some h2
 obtain⟨q2,h4⟩:=ck_some h3
 obtain⟨q3,h5⟩:=ck_some h4
 obtain⟨q4,h6⟩:=ck_some h5
 obtain⟨q5,h7⟩:=ck_some h6
 obtain⟨q6,h8⟩:=ck_some h7
 obtain⟨q7,h9⟩:=ck_some h8
 have e1:=kq_eq q1
 have e2:=kq_eq q2
 subst e1 e2
 obtain⟨n1,n2⟩:=nonneg_eq q3
 obtain⟨m1,m2⟩:=nonneg_eq q4
 have b5:=ble q5
 have b6:=ble q6
 have b7:=ble q7
 rw[n2,m2] at h9
 rw[n2,m2] at b5
 rw[m2] at b6 b7
 refine⟨_,_,h9,hok.nw _,fun R g=>?_⟩
 rw[toHp_nw]
 have hlt0:0<es:=by simpa using hes0
 refine opOk_leH (hp1:=addO (toHp P h) (.cells false (m.toNat*es) (fun j=>ei.zero (j%es)))) ?_ (leH_add (leO_nx (fun j hj=>?_)))
 ·have:=opOk_e0 (P:=P) (R:=R) (g:=g) (o:=o) (ev:=ev) (hp:=toHp P h) (orc:=.none) (out:=⟨.sl (toHp P h).length 0 n.toNat m.toNat true es,addO (toHp P h) (.cells false (m.toNat*es) (fun j=>ei.zero (j%es))),[0≤n,n≤m,m≤140737488355328,m.toNat*ei.bytes≤maxRoom],.alloc (toHp P h).length⟩)
   (by rw[ho];simp only[runEff0,ht,hl,hc,int64,hes0,cond_true]) ⟨n1,by omega,by omega,by
    have b7:m.toNat*ei.bytes≤1000000000:=b7
    rw[show Go.Avm.maxRoom=140737488355328 from rfl];omega,trivial⟩
  rw[length_toHp] at this
  exact this
 ·have hz:(zerosL ei).length=es:=by rw[zerosL_len];exact hes.symm
  rw[zs_nx _ (by rw[hz];omega) _ j (by rw[hz];exact hj),hz,zeros_nx _ _ (by rw[←hes];exact Nat.mod_lt _ (by omega))]
end
end Go.Bvm
namespace Go.Bvm
open Go Go.Avm
section
variable {P:Program}{o:Oper}{ev:Operand→AV}{h:H}{a:AV}
theorem diffO_ne {x y:Operand}(hd:diffO x y=true):x≠y:=by
 intro e
 subst e
 cases x with
 |tmp s=>
  have hd:(!Nat.beq s s)=true:=hd
  rw[Nat.beq_refl] at hd;cases hd
 |_=>cases hd
theorem Le.ow0 {w:Bool}{b e s:Nat}{g:Nat→Nat→AV}:Le (.ow w b 0 e) (.fz (bif w then .nil else .exm) s 0 g):=by
 intro FM ρ v hv
 obtain⟨c,rfl,hc⟩:=hv.1 rfl
 cases w with
 |true=>exact⟨fun _=>⟨rfl,c,0,rfl,hc rfl,rfl⟩,fun h=>by cases h⟩
 |false=>exact⟨fun _=>⟨rfl,c,0,rfl,rfl⟩,fun h=>by cases h⟩
structure ScR (P:Program)(h:H)(es:Nat)(x:AV)(n:Nat)(l:LA)(x':AV)(new:Nat→Nat→AV)(ob:List Prop):Prop where
 le:Le x x'
 cells:sliceCells (toHp P h) es x'=some (n,new,ob)
 ob:AllP ob
 len:l.length=n*es
 at_:∀i j,i<n→j<es→new i j=nx l (i*es+j)
theorem divmod {i j es:Nat}(hj:j<es):(i*es+j)/es=i∧(i*es+j)%es=j:=by
 have h0:0<es:=by omega
 rw[Nat.mul_comm]
 exact⟨by rw[Nat.mul_add_div h0,Nat.div_eq_of_lt hj,Nat.add_zero],by rw[Nat.mul_add_mod,Nat.mod_eq_of_lt hj]⟩
theorem idx_in {i j n es:Nat}(hi:i<n)(hj:j<es):i*es+j<n*es:=by
 have:(i+1)*es≤n*es:=Nat.mul_le_mul_right _ hi
 rw[Nat.add_mul] at this
 omega
theorem sc_some {es:Nat}{x:AV}{K:Nat→LA→Ans}(hok:HOk h)(hk:sc es h x K=some a):∃n l,K n l=some a∧∃x' new ob,ScR P h es x n l x' new ob ∧
  ((∃k s g,x=.fz k s n g∧(k≠.nil→s=es∧x'=x))∨(∃b off len cap ex,x=.sl b off len cap ex es∧x'=x∧∃fr N c,isRC (gt h b) fr N c)∨(∃w b,x=.ow w b n es∧(n≠0→x'=x∧∃fr N c,isRC (gt h b) fr N c))∨∃p q,x=.val (.slice (some p) 0 q)∧n=0):=by
 rcases iff_some hk with⟨hv,h1⟩|⟨_,hk⟩
 ·obtain⟨u,rfl,hu⟩:=isVl_eq hv
  obtain⟨p,c,rfl⟩:=isZV_eq hu
  refine⟨0,[],h1,.fz .may es 0 (fun _ _=>.any),fun _ _=>.any,[],⟨fun FM ρ v hd=>?_,by simp[sliceCells],trivial,by simp,fun i j hi=>by omega⟩,.inr (.inr (.inr ⟨p,c,rfl,rfl⟩))⟩
  have hd:v=.slice (some p) 0 c:=hd.1
  subst hd
  exact⟨fun _=>⟨rfl,some p,c,rfl,fun h=>(by cases h)⟩,fun h=>(by cases h)⟩
 rcases wSl_some hk with⟨k,s,n,g,rfl,h1⟩|⟨b,off,len,cap,ex,s,rfl,h1⟩|⟨w,b,n,s,rfl,h1⟩
 ·have other:k≠.nil→ck (Nat.beq s es) (K n (tb (Nat.mul n es) fun c=>g (Nat.div c es) (Nat.mod c es)))=some a→∃n' l,K n' l=some a∧∃x' new ob,ScR P h es (.fz k s n g) n' l x' new ob ∧
    ((∃k' s' g',AV.fz k s n g=.fz k' s' n' g'∧(k'≠.nil→s'=es∧x'=.fz k s n g))∨(∃b off len cap ex,AV.fz k s n g=.sl b off len cap ex es∧x'=.fz k s n g∧∃fr N c,isRC (gt h b) fr N c)∨(∃w b,AV.fz k s n g=.ow w b n' es∧(n'≠0→x'=.fz k s n g∧∃fr N c,isRC (gt h b) fr N c))∨∃p q,AV.fz k s n g=.val (.slice (some p) 0 q)∧n'=0):=by
   intro hkn h2
   obtain⟨h3,h4⟩:=ck_some h2
   have hs:=beqN h3
   subst hs
   refine⟨n,_,h4,.fz k s n g,g,[],⟨Le.refl _,by simp[sliceCells],trivial,tb_len _ _,fun i j hi hj=>?_⟩,.inl ⟨k,s,g,rfl,fun _=>⟨rfl,rfl⟩⟩⟩
   rw[tb_nx,if_pos (show i*s+j<Nat.mul n s from idx_in hi hj)]
   show g i j=g ((i*s+j)/s) ((i*s+j)%s)
   obtain⟨e1,e2⟩:=divmod (i:=i) hj
   rw[e1,e2]
  cases k with
  |nil=>
   obtain⟨h3,h4⟩:=ck_some h1
   have hn:=beqN h3
   subst hn
   exact⟨0,[],h4,.fz .nil es 0 g,g,[],⟨Le.nil,by simp[sliceCells],trivial,by simp,fun i j hi=>by omega⟩,.inl ⟨_,_,_,rfl,fun h=>absurd rfl h⟩⟩
  |opn=>exact other (by intro h;cases h) h1
  |exa=>exact other (by intro h;cases h) h1
  |auto=>exact other (by intro h;cases h) h1
  |may=>exact other (by intro h;cases h) h1
  |exm=>exact other (by intro h;cases h) h1
 ·obtain⟨h3,h4⟩:=ck_some h1
  have hs:=beqN h3
  subst hs
  obtain⟨fr,N,c,hg,h5⟩:=wRe_some h4
  obtain⟨h6,h7⟩:=ck_some h5
  obtain⟨_,hob⟩:=hok.rcells (P:=P) hg
  refine⟨len,_,h7,.sl b off len cap ex s,fun i j=>nx c (off+i*s+j),[off+len*s≤N],⟨Le.refl _,by simp[sliceCells,hob],⟨ble h6,trivial⟩,tk_len _ _,fun i j hi hj=>?_⟩,.inr (.inl ⟨_,_,_,_,_,rfl,rfl,_,_,_,hg⟩)⟩
  rw[tk_nx,if_pos (show i*s+j<Nat.mul len s from idx_in hi hj),dr_nx,Nat.add_assoc]
 ·obtain⟨h3,h4⟩:=ck_some h1
  have hs:=beqN h3
  subst hs
  rcases iff_some h4 with⟨h5,h6⟩|⟨h5,h6⟩
  ·have hn:=beqN h5
   subst hn
   exact⟨0,[],h6,.fz (bif w then .nil else .exm) s 0 (fun _ _=>.any),fun _ _=>.any,[],⟨Le.ow0,by simp[sliceCells],trivial,by simp,fun i j hi=>by omega⟩,.inr (.inr (.inl ⟨_,_,rfl,fun h=>absurd rfl h⟩))⟩
  ·obtain⟨fr,N,c,hg,h7⟩:=wRe_some h6
   obtain⟨h8,h9⟩:=ck_some h7
   obtain⟨_,hob⟩:=hok.rcells (P:=P) hg
   refine⟨n,_,h9,.ow w b n s,fun i j=>nx c (i*s+j),[n*s≤N],⟨Le.refl _,by simp[sliceCells,hob],⟨ble h8,trivial⟩,tk_len _ _,fun i j hi hj=>?_⟩,.inr (.inr (.inl ⟨_,_,rfl,fun _=>⟨rfl,_,_,_,hg⟩⟩))⟩
   rw[tk_nx,if_pos (show i*s+j<Nat.mul n s from idx_in hi hj)]
theorem plainJ_ap {es ls lx:Nat}{old new:Nat→Nat→AV}{lo ln:LA}(hes:0<es)(h1:lo.length=ls*es)(h2:ln.length=lx*es)(ho:∀i j,i<ls→j<es→old i j=nx lo (i*es+j))(hn:∀i j,i<lx→j<es→new i j=nx ln (i*es+j))(c:Nat)(hc:c<(ls+lx)*es) :
  nx (ap lo ln) c=plainJ es ls old new c:=by
 rw[ap_eq,nx_eq,nth_app,h1]
 unfold plainJ
 have dm:∀d,d/es*es+d%es=d:=fun d=>by rw[Nat.mul_comm];exact Nat.div_add_mod d es
 rw[Nat.add_mul] at hc
 by_cases hlt:c<ls*es
 ·rw[if_pos hlt,if_pos hlt,ho _ _ (Nat.div_lt_of_lt_mul (by rw[Nat.mul_comm];exact hlt)) (Nat.mod_lt _ hes),dm,nx_eq]
 ·rw[if_neg hlt,if_neg hlt,hn _ _ (Nat.div_lt_of_lt_mul (by have:=Nat.mul_comm es lx;omega)) (Nat.mod_lt _ hes),dm,nx_eq]
theorem ef_two {s x:Operand}{s' x' v:AV}{h':H}(hne:s≠x)(hok':HOk h')(hs:Le (ev s) s')(hx:Le (ev x) x')
  (hop:∀(ev':Operand→AV),ev' s=s'→ev' x=x'→∀(R:Res) (g:R.σ),OpOk P R o ev' (toHp P h) g v (toHp P h') g):Ef P o ev h v h':=by
 classical
 refine⟨hok',fun R g=>?_⟩
 let e1:Operand→AV:=fun y=>if y=s then s' else if y=x then x' else ev y
 have h1:e1 s=s':=if_pos rfl
 have h2:e1 x=x':=by
  show(if x=s then _ else if x=x then _ else _)=_
  rw[if_neg (Ne.symm hne),if_pos rfl]
 refine opOk_leE (hop e1 h1 h2 R g) (fun y _=>?_)
 show Le (ev y) (if y=s then s' else if y=x then x' else ev y)
 split
 ·rename_i e;rw[e];exact hs
 ·split
  ·rename_i e;rw[e];exact hx
  ·exact Le.refl _
theorem slice_den {FM:Mem}{ρ:Plc}{x:AV}{v:Value}(hd:Den FM ρ x v):(∀{k s n g},x=.fz k s n g→∃b d,v=.slice b n d∧n≤d)∧(∀{b off l c ex es},x=.sl b off l c ex es→l≤c→∃p d,v=.slice p l d∧l≤d)∧(∀{w b n es},x=.ow w b n es→∃p d,v=.slice p n d∧n≤d):=by
 refine⟨fun {k s n g} e=>?_,fun {b off l c ex es} e hl=>?_,fun {w b n es} e=>?_⟩
 ·subst e
  cases hk:emptyF k n with
  |true=>obtain⟨rfl,a,c,h,_⟩:=hd.1 hk;exact⟨_,_,h,Nat.zero_le _⟩
  |false=>obtain⟨b,off,cap,h,hle,_⟩:=hd.2 hk;exact⟨_,_,h,hle⟩
 ·subst e
  obtain⟨p,cap',_,h,hc,_⟩:=hd
  exact⟨_,_,h,by omega⟩
 ·subst e
  by_cases hn:n=0
  ·obtain⟨c,h,_⟩:=hd.1 hn
   subst hn
   exact⟨_,_,h,Nat.le_refl _⟩
  ·obtain⟨p,cap',_,h,hc,_⟩:=hd.2 hn
   exact⟨_,_,h,hc⟩
theorem ef_append {c:Call}{s x:Operand}{t t2 es:Nat}{ei:TyI}{K:KVH}(ho:o.op=.call c)(hc:c.callee=.builtin .append)(ht:c.argTypes.toList=[t,t2])(hx:c.args.toList=[s,x])(htt:Nat.beq t t2=true)(hei:elemSize (tyOf P) t=some (es,ei))(hes:(Nat.blt 0 es&&diffO s x)=true)
  (hok:HOk h) (hk:app es ei.bytes (ev s) (ev x) h K=some a):∃v h',K v h'=some a∧Ef P o ev h v h':=by
 rw[Bool.and_eq_true] at hes
 have hne:=diffO_ne hes.2
 have hes0:0<es:=by simpa using hes.1
 obtain⟨e,ti,hti,hd,hee,hse⟩:=elemSize_ok hei
 have htt':=beqN htt
 subst htt'
 have hcall:=lk_call2 hc ht hx
 subst hcall
 obtain⟨lx,ln,h1,x',new,ob1,X,hxk⟩:=sc_some (P:=P) hok hk
 rcases iff_some h1 with⟨h2,h3⟩|⟨h2,h3⟩
 ·-- nothing is appended
  have hl0:=beqN h2
  subst hl0
  have main:(∀FM ρ v,Den FM ρ (ev s) v→∃b l d,v=.slice b l d∧l≤d)→Ef P o ev h (ev s) h:=by
   intro hsl
   refine⟨hok,fun R g=>⟨fun FM ρ w evc okw hop=>?_⟩⟩
   have hds:=hop s (by simp[ho,Op.operands,Call.operands])
   have hdx:=hop x (by simp[ho,Op.operands,Call.operands])
   have hu:=hti.und
   rw[hd] at hu
   obtain⟨inf,hi1,hi2,hi3,z,hz,hzs,_⟩:=hee.info
   obtain⟨b,l,d,hsv,hld⟩:=hsl _ _ _ hds
   have hxv:∃p q,evc x=.slice p 0 q:=by
    rcases hxk with⟨k,s',g',e1,_⟩|⟨b',off,len,cap,ex,e1,e2,_⟩|⟨w',b',e1,_⟩|⟨p,q,e1,_⟩
    ·obtain⟨p,q,h5,_⟩:=(slice_den hdx).1 e1;exact⟨_,_,h5⟩
    ·have hc2:=X.cells
     rw[e2,e1] at hc2
     simp only[sliceCells,Nat.beq_refl,cond_true] at hc2
     split at hc2
     ·cases hc2
      rw[e1] at hdx
      obtain⟨p,cap',_,h,_⟩:=hdx
      exact⟨_,_,h⟩
     ·cases hc2
    ·obtain⟨p,q,h5,_⟩:=(slice_den hdx).2.2 e1;exact⟨_,_,h5⟩
    ·rw[e1] at hdx;exact⟨_,_,hdx.1⟩
   obtain⟨p,q,hxv⟩:=hxv
   have hrun:=run_append_zero (P:=P) w t o.type e inf hu hi1 b l d hld p q
   exact⟨.value (.slice b l d),w,FM,ρ,.slice b l d,by simp[execOp,ho,resolve,invoke,builtin,hsv,hxv,hrun],rfl,by rw[hsv] at hds;exact hds,okw,Goes.refl _ _ _ _ _⟩
  rcases wSl_some h3 with⟨k,s',n,g,e1,h4⟩|⟨b,off,len,cap,ex,s',e1,h4⟩|⟨w,b,n,s',e1,h4⟩
  ·exact⟨_,_,h4,main (fun FM ρ v hv=>let ⟨p,d,q1,q2⟩:=(slice_den hv).1 e1;⟨_,_,_,q1,q2⟩)⟩
  ·obtain⟨h5,h6⟩:=ck_some h4
   exact⟨_,_,h6,main (fun FM ρ v hv=>let ⟨p,d,q1,q2⟩:=(slice_den hv).2.1 e1 (ble h5);⟨_,_,_,q1,q2⟩)⟩
  ·exact⟨_,_,h4,main (fun FM ρ v hv=>let ⟨p,d,q1,q2⟩:=(slice_den hv).2.2 e1;⟨_,_,_,q1,q2⟩)⟩
 ·have hlx:0<lx:=by
   rcases Nat.eq_zero_or_pos lx with h|h
   ·subst h;cases h2
   ·exact h
  obtain⟨ls,lo,h4,s',old,ob2,S,hsk⟩:=sc_some (P:=P) hok h3
  obtain⟨h5,h6⟩:=ck_some h4
  obtain⟨h7,h8⟩:=ck_some h6
  have b1:ls+lx≤1000000:=ble h5
  have b2:(ls+lx)*ei.bytes≤1000000000:=ble h7
  have hmr:Go.Avm.maxRoom=140737488355328:=rfl
  have hj:∀q,q<(ls+lx)*es→nx (ap lo ln) q=plainJ es ls old new q:=fun q hq=>plainJ_ap hes0 S.len X.len S.at_ X.at_ q hq
  have hlen:(toHp P h).length=h.n:=length_toHp h
  have hobj:(joined es ls old new (.obj (nx (ap lo ln))) ((ls+lx)*es))=([∀q,q<(ls+lx)*es→nx (ap lo ln) q=plainJ es ls old new q],nx (ap lo ln)):=rfl
  have run:∀(ev':Operand→AV) (s2:AV),ev' s=s2→ev' x=x'→sliceCells (toHp P h) es s2=some (ls,old,ob2)→runEff0 (tyOf P) (toHp P h) ev' (.obj (nx (ap lo ln))) o.op=appendV (tyOf P) (toHp P h) [t,t] s2 x' (.obj (nx (ap lo ln))):=by
   intro ev' s2 e1 e2 _
   rw[ho]
   show appendV (tyOf P) (toHp P h) [t,t] (ev' s) (ev' x) _=_
   rw[e1,e2]
  subst hse
  have hX:=X.cells
  have room:[0<ei.size,(ls+lx)*ei.bytes≤Go.Avm.maxRoom,ls+lx≤Go.Avm.maxRoom]=[0<ei.size,(ls+lx)*ei.bytes≤Go.Avm.maxRoom,ls+lx≤Go.Avm.maxRoom]:=rfl
  have allob:AllP (ob1++ob2++[∀q,q<(ls+lx)*ei.size→nx (ap lo ln) q=plainJ ei.size ls old new q]):=AllP.append.2 ⟨AllP.append.2 ⟨X.ob,S.ob⟩,hj,trivial⟩
  have owob:AllP (owOb ei (ls+lx) (ob1++ob2++[∀q,q<(ls+lx)*ei.size→nx (ap lo ln) q=plainJ ei.size ls old new q])):=by
   refine AllP.append.2 ⟨⟨hes0,?_,?_,trivial⟩,allob⟩
   ·rw[hmr];omega
   ·rw[hmr];omega
  have frob:AllP ([0<lx,0<ei.size,(ls+lx)*ei.bytes≤Go.Avm.maxRoom,ls+lx≤Go.Avm.maxRoom]++(ob1++ob2++[∀q,q<(ls+lx)*ei.size→nx (ap lo ln) q=plainJ ei.size ls old new q])):=by
   refine AllP.append.2 ⟨⟨hlx,hes0,?_,?_,trivial⟩,allob⟩
   ·rw[hmr];omega
   ·rw[hmr];omega
  rcases wSl_some h8 with⟨k,s0,n,g,e1,h9⟩|⟨b,off,len,cap,ex,s0,e1,h9⟩|⟨w,b,n,s0,e1,h9⟩
  ·-- frozen, or nil
   replace hsk:=hsk.imp_right (Or.imp_right (Or.resolve_right · (fun ⟨_,_,e2,_⟩=>by rw[e1] at e2;cases e2)))
   rcases hsk with⟨k',s1,g',e2,hk'⟩|⟨_,_,_,_,_,e2,_⟩|⟨_,_,e2,_⟩
   ·rw[e1] at e2
    cases e2
    cases k with
    |nil=>
     refine⟨_,_,h9,ef_two (s':=.fz .nil ei.size 0 (fun _ _=>.any)) hne (hok.nw _) (by rw[e1];exact Le.nil) X.le (fun ev' q1 q2 R gg=>?_)⟩
     have hS:sliceCells (toHp P h) ei.size (.fz .nil ei.size 0 (fun _ _=>.any))=some (0,fun _ _=>.any,[]):=by simp[sliceCells]
     have hn0:ls=0:=by
      have hz:=h3
      rw[e1] at hz
      obtain⟨c1,c2⟩:=ck_some (show ck (Nat.beq ls 0) _=some a from hz)
      exact beqN c1
     subst hn0
     rw[toHp_nw]
     have hjj:∀q,q<(0+lx)*ei.size→nx (ap lo ln) q=plainJ ei.size 0 (fun _ _=>.any) new q:=fun q hq=>by
      rw[hj q hq]
      unfold plainJ
      simp
     have:=opOk_e0 (P:=P) (R:=R) (g:=gg) (o:=o) (ev:=ev') (hp:=toHp P h) (orc:=.obj (nx (ap lo ln))) (out:=⟨.ow true (toHp P h).length (0+lx) ei.size,addO (toHp P h) (.cells false ((0+lx)*ei.size) (nx (ap lo ln))),owOb ei (0+lx) (ob1++[]++[∀q,q<(0+lx)*ei.size→nx (ap lo ln) q=plainJ ei.size 0 (fun _ _=>.any) new q]),.alloc (toHp P h).length⟩)
      (by
       rw[ho]
       show appendV (tyOf P) (toHp P h) [t,t] (ev' s) (ev' x) _=_
       rw[q1,q2]
       unfold appendV
       simp only[Nat.beq_refl,Bool.not_true,cond_false,hei,hX,hS]
       rfl)
      (by
       refine AllP.append.2 ⟨⟨hes0,?_,?_,trivial⟩,AllP.append.2 ⟨AllP.append.2 ⟨X.ob,trivial⟩,hjj,trivial⟩⟩
       ·rw[hmr];omega
       ·rw[hmr];omega)
     rw[hlen] at this
     exact this
    |exa=>
     obtain⟨rfl,hs'⟩:=hk' (by intro h;cases h)
     refine⟨_,_,h9,ef_two hne (hok.nw _) S.le X.le (fun ev' q1 q2 R gg=>?_)⟩
     rw[toHp_nw]
     have:=opOk_e0 (P:=P) (R:=R) (g:=gg) (o:=o) (ev:=ev') (hp:=toHp P h) (orc:=.obj (nx (ap lo ln))) (out:=freshV (toHp P h) ei (ls+lx) lx (ob1++ob2++[∀q,q<(ls+lx)*ei.size→nx (ap lo ln) q=plainJ ei.size ls old new q]) (nx (ap lo ln)))
      (by
       rw[run ev' s' q1 q2 S.cells]
       unfold appendV
       simp only[Nat.beq_refl,Bool.not_true,cond_false,hei,hX,S.cells]
       rw[hs',e1]
       rfl) frob
     unfold freshV at this
     rw[hlen] at this
     exact this
    |exm=>
     obtain⟨rfl,hs'⟩:=hk' (by intro h;cases h)
     refine⟨_,_,h9,ef_two hne (hok.nw _) S.le X.le (fun ev' q1 q2 R gg=>?_)⟩
     rw[toHp_nw]
     have:=opOk_e0 (P:=P) (R:=R) (g:=gg) (o:=o) (ev:=ev') (hp:=toHp P h) (orc:=.obj (nx (ap lo ln))) (out:=⟨.ow false (toHp P h).length (ls+lx) ei.size,addO (toHp P h) (.cells false ((ls+lx)*ei.size) (nx (ap lo ln))),(ls=0∨0<lx)::owOb ei (ls+lx) (ob1++ob2++[∀q,q<(ls+lx)*ei.size→nx (ap lo ln) q=plainJ ei.size ls old new q]),.alloc (toHp P h).length⟩)
      (by
       rw[run ev' s' q1 q2 S.cells]
       unfold appendV
       simp only[Nat.beq_refl,Bool.not_true,cond_false,hei,hX,S.cells]
       rw[hs',e1]
       rfl) ⟨.inr hlx,owob⟩
     rw[hlen] at this
     exact this
    |opn=>exact no h9
    |auto=>exact no h9
    |may=>exact no h9
   ·rw[e1] at e2;cases e2
   ·rw[e1] at e2;cases e2
  ·-- a slice of an object
   replace hsk:=hsk.imp_right (Or.imp_right (Or.resolve_right · (fun ⟨_,_,e2,_⟩=>by rw[e1] at e2;cases e2)))
   rcases hsk with⟨_,_,_,e2,_⟩|⟨b',off',len',cap',ex',e2,hs',fr,N0,cc,hg0⟩|⟨_,_,e2,_⟩
   ·rw[e1] at e2;cases e2
   ·rw[e1] at e2
    cases e2
    rcases iff_some h9 with⟨h10,h11⟩|⟨h10,h11⟩
    ·have hex:ex=true∧cap<ls+lx:=by
      cases ex with
      |true=>exact⟨rfl,bleS h10⟩
      |false=>cases h10
     obtain⟨rfl,hcap⟩:=hex
     refine⟨_,_,h11,ef_two hne (hok.nw _) S.le X.le (fun ev' q1 q2 R gg=>?_)⟩
     rw[toHp_nw]
     have:=opOk_e0 (P:=P) (R:=R) (g:=gg) (o:=o) (ev:=ev') (hp:=toHp P h) (orc:=.obj (nx (ap lo ln))) (out:=⟨.sl (toHp P h).length 0 (ls+lx) (ls+lx) false ei.size,addO (toHp P h) (.cells false ((ls+lx)*ei.size) (nx (ap lo ln))),(cap<ls+lx)::([0<lx,0<ei.size,(ls+lx)*ei.bytes≤Go.Avm.maxRoom,ls+lx≤Go.Avm.maxRoom]++(ob1++ob2++[∀q,q<(ls+lx)*ei.size→nx (ap lo ln) q=plainJ ei.size ls old new q])),.alloc (toHp P h).length⟩)
      (by
       rw[run ev' s' q1 q2 S.cells]
       unfold appendV
       simp only[Nat.beq_refl,Bool.not_true,cond_false,hei,hX,S.cells]
       rw[hs',e1]
       rfl) ⟨hcap,frob⟩
     rw[hlen] at this
     exact this
    ·obtain⟨N,c',hg,h12⟩:=wCe_some h11
     obtain⟨hlt,hob⟩:=hok.cells (P:=P) hg
     obtain⟨h13,h14⟩:=ck_some h12
     have hN:0<N:=ble h13
     have hle:Le (ev s) (.sl b off len cap false ei.size):=by rw[e1];exact Le.sl (Nat.le_refl _) (fun h=>by cases h)
     have hS:sliceCells (toHp P h) ei.size (.sl b off len cap false ei.size)=some (ls,old,ob2):=by
      have hc2:=S.cells
      rw[hs',e1] at hc2
      exact hc2
     refine⟨_,_,h14,ef_two hne ((hok.st hlt _).nw _) hle X.le (fun ev' q1 q2 R gg=>?_)⟩
     rw[toHp_nw]
     unfold kill
     rw[toHp_st]
     have:=opOk_e0 (P:=P) (R:=R) (g:=gg) (o:=o) (ev:=ev') (hp:=toHp P h) (orc:=.obj (nx (ap lo ln))) (out:=⟨.sl (toHp P h).length 0 (ls+lx) (ls+lx) false ei.size,addO (setO (toHp P h) b .dead) (.cells false ((ls+lx)*ei.size) (nx (ap lo ln))),(0<N)::([0<lx,0<ei.size,(ls+lx)*ei.bytes≤Go.Avm.maxRoom,ls+lx≤Go.Avm.maxRoom]++(ob1++ob2++[∀q,q<(ls+lx)*ei.size→nx (ap lo ln) q=plainJ ei.size ls old new q])),.eff [b,(toHp P h).length]⟩)
      (by
       rw[run ev' _ q1 q2 hS]
       unfold appendV
       simp only[Nat.beq_refl,Bool.not_true,cond_false,hei,hX,hS,hob]
       rfl) ⟨hN,frob⟩
     rw[hlen] at this
     exact this
   ·rw[e1] at e2;cases e2
  ·-- a slice with its object behind it
   replace hsk:=hsk.imp_right (Or.imp_right (Or.resolve_right · (fun ⟨_,_,e2,_⟩=>by rw[e1] at e2;cases e2)))
   rcases hsk with⟨_,_,_,e2,_⟩|⟨_,_,_,_,_,e2,_⟩|⟨w',b',e2,hs'⟩
   ·rw[e1] at e2;cases e2
   ·rw[e1] at e2;cases e2
   ·rw[e1] at e2
    cases e2
    rcases iff_some h9 with⟨h10,h11⟩|⟨h10,h11⟩
    ·have hl0:=beqN h10
     subst hl0
     refine⟨_,_,h11,ef_two (s':=.fz (bif w then .nil else .exm) ei.size 0 (fun _ _=>.any)) hne (hok.nw _) (by rw[e1];exact Le.ow0) X.le (fun ev' q1 q2 R gg=>?_)⟩
     rw[toHp_nw]
     have hjj:∀q,q<(0+lx)*ei.size→nx (ap lo ln) q=plainJ ei.size 0 (fun _ _=>.any) new q:=fun q hq=>by
      rw[hj q hq]
      unfold plainJ
      simp
     have hob2:AllP (owOb ei (0+lx) (ob1++[]++[∀q,q<(0+lx)*ei.size→nx (ap lo ln) q=plainJ ei.size 0 (fun _ _=>.any) new q])):=by
      refine AllP.append.2 ⟨⟨hes0,?_,?_,trivial⟩,AllP.append.2 ⟨AllP.append.2 ⟨X.ob,trivial⟩,hjj,trivial⟩⟩
      ·rw[hmr];omega
      ·rw[hmr];omega
     cases w with
     |true=>
      have hS:sliceCells (toHp P h) ei.size (.fz .nil ei.size 0 (fun _ _=>.any))=some (0,fun _ _=>.any,[]):=by simp[sliceCells]
      have q1:ev' s=.fz .nil ei.size 0 (fun _ _=>.any):=q1
      have:=opOk_e0 (P:=P) (R:=R) (g:=gg) (o:=o) (ev:=ev') (hp:=toHp P h) (orc:=.obj (nx (ap lo ln))) (out:=⟨.ow true (toHp P h).length (0+lx) ei.size,addO (toHp P h) (.cells false ((0+lx)*ei.size) (nx (ap lo ln))),owOb ei (0+lx) (ob1++[]++[∀q,q<(0+lx)*ei.size→nx (ap lo ln) q=plainJ ei.size 0 (fun _ _=>.any) new q]),.alloc (toHp P h).length⟩)
       (by
        rw[ho]
        show appendV (tyOf P) (toHp P h) [t,t] (ev' s) (ev' x) _=_
        rw[q1,q2]
        unfold appendV
        simp only[Nat.beq_refl,Bool.not_true,cond_false,hei,hX,hS]
        rfl) hob2
      rw[hlen] at this
      exact this
     |false=>
      have hS:sliceCells (toHp P h) ei.size (.fz .exm ei.size 0 (fun _ _=>.any))=some (0,fun _ _=>.any,[]):=by simp[sliceCells]
      have q1:ev' s=.fz .exm ei.size 0 (fun _ _=>.any):=q1
      have:=opOk_e0 (P:=P) (R:=R) (g:=gg) (o:=o) (ev:=ev') (hp:=toHp P h) (orc:=.obj (nx (ap lo ln))) (out:=⟨.ow false (toHp P h).length (0+lx) ei.size,addO (toHp P h) (.cells false ((0+lx)*ei.size) (nx (ap lo ln))),(0=0∨0<lx)::owOb ei (0+lx) (ob1++[]++[∀q,q<(0+lx)*ei.size→nx (ap lo ln) q=plainJ ei.size 0 (fun _ _=>.any) new q]),.alloc (toHp P h).length⟩)
       (by
        rw[ho]
        show appendV (tyOf P) (toHp P h) [t,t] (ev' s) (ev' x) _=_
        rw[q1,q2]
        unfold appendV
        simp only[Nat.beq_refl,Bool.not_true,cond_false,hei,hX,hS]
        rfl) ⟨.inl rfl,hob2⟩
      rw[hlen] at this
      exact this
    ·have hn0:ls≠0:=fun h=>by subst h;cases h10
     obtain⟨hs2,_,_,_,_⟩:=hs' hn0
     obtain⟨N,cc,hg,h12⟩:=wCe_some h11
     obtain⟨hlt,hob⟩:=hok.cells (P:=P) hg
     refine⟨_,_,h12,ef_two hne ((hok.st hlt _).nw _) S.le X.le (fun ev' q1 q2 R gg=>?_)⟩
     rw[toHp_nw]
     unfold kill
     rw[toHp_st]
     have:=opOk_e0 (P:=P) (R:=R) (g:=gg) (o:=o) (ev:=ev') (hp:=toHp P h) (orc:=.obj (nx (ap lo ln))) (out:=⟨.ow w (toHp P h).length (ls+lx) ei.size,addO (setO (toHp P h) b .dead) (.cells false ((ls+lx)*ei.size) (nx (ap lo ln))),owOb ei (ls+lx) (ob1++ob2++[∀q,q<(ls+lx)*ei.size→nx (ap lo ln) q=plainJ ei.size ls old new q]),.eff [b,(toHp P h).length]⟩)
      (by
       rw[run ev' s' q1 q2 S.cells]
       unfold appendV
       simp only[Nat.beq_refl,Bool.not_true,cond_false,hei,hX,S.cells]
       rw[hs2,e1]
       simp only[hob]
       rfl) owob
     rw[hlen] at this
     exact this
end
end Go.Bvm
namespace Go.Bvm
open Go Go.Avm
section
variable {P:Program}{o:Oper}{ev:Operand→AV}{h:H}{a:AV}
theorem run_copy_zero (w:World)(t ty e:TypeId)(i:TypeInfo)(ht:P.underlying t=some (.slice e))(hi:P.info? e=some i)(b:Option Addr)(l d:Nat)(x:Option Addr)(n c:Nat)(hn:Nat.min n l=0) :
  (Builtin.copy_ #[t,t] ty #[.slice b l d,.slice x n c]).run P w=.ok (.int .i64 0) w:=by
 have hf:(Builtin.firstCells i.size 0 (.slice x n c)).run P w=.ok #[] w:=by
  cases x with
  |none=>simp[Builtin.firstCells]
  |some x=>simp[Builtin.firstCells,loadCells,loadCellsFrom]
 cases b with
 |none=>simp[Builtin.copy_,run_underlying ht,sizeOf,typeInfo,hi,Builtin.lenOf,hn,hf,goInt]
 |some b=>simp[Builtin.copy_,run_underlying ht,sizeOf,typeInfo,hi,Builtin.lenOf,hn,hf,goInt,storeCells]
theorem mn_eq (x y:Nat):mn x y=min x y:=by
 unfold mn
 cases hb:Nat.ble x y with
 |true=>have:=ble hb;show x=_;omega
 |false=>
  have:¬x≤y:=fun h=>by rw[Nat.ble_eq_true_of_le h] at hb;cases hb
  show y=_;omega
theorem ef_copy {c:Call}{s x:Operand}{t t2 es:Nat}{ei:TyI}{K:KVH}(ho:o.op=.call c)(hc:c.callee=.builtin .copy)(ht:c.argTypes.toList=[t,t2])(hx:c.args.toList=[s,x])(htt:Nat.beq t t2=true)(hei:elemSize (tyOf P) t=some (es,ei))(hes:(Nat.blt 0 es&&diffO s x)=true)
  (hok:HOk h) (hk:cpy es (ev s) (ev x) h K=some a):∃v h',K v h'=some a∧Ef P o ev h v h':=by
 rw[Bool.and_eq_true] at hes
 have hne:=diffO_ne hes.2
 have hes0:0<es:=by simpa using hes.1
 obtain⟨e,ti,hti,hd,hee,hse⟩:=elemSize_ok hei
 have htt':=beqN htt
 subst htt'
 have hcall:=lk_call2 hc ht hx
 subst hcall
 obtain⟨lx,ln,h1,x',new,ob1,X,hxk⟩:=sc_some (P:=P) hok hk
 -- nothing is copied
 have zero:∀(ld:Nat),min lx ld=0→(∀FM ρ v,Den FM ρ (ev s) v→∃b d,v=.slice b ld d)→Ef P o ev h (.int .i64 0) h:=by
  intro ld hm hsl
  refine⟨hok,fun R g=>⟨fun FM ρ w evc okw hop=>?_⟩⟩
  have hds:=hop s (by simp[ho,Op.operands,Call.operands])
  have hdx:=hop x (by simp[ho,Op.operands,Call.operands])
  have hu:=hti.und
  rw[hd] at hu
  obtain⟨inf,hi1,hi2,hi3,z,hz,hzs,_⟩:=hee.info
  obtain⟨b,d,hsv⟩:=hsl _ _ _ hds
  obtain⟨p,q,vs,hxv,_⟩:=slice_read okw.rel X.cells hes0 X.ob (X.le _ _ _ hdx)
  have hrun:=run_copy_zero (P:=P) w t o.type e inf hu hi1 b ld d p lx q hm
  exact⟨.value (.int .i64 0),w,FM,ρ,.int .i64 0,by simp[execOp,ho,resolve,invoke,builtin,hsv,hxv,hrun],rfl,rfl,okw,Goes.refl _ _ _ _ _⟩
 have main:∀{b off ld cap N:Nat} {ex:Bool} {cc:LA},Le (ev s) (.sl b off ld cap ex es)→gt h b=.cells N cc→off+ld*es≤N→mn lx ld≠0 →
   Ef P o ev h (.int .i64 (Int.ofNat (mn lx ld))) (st h b (.cells N (spl off (tk (Nat.mul (mn lx ld) es) ln) cc))):=by
  intro b off ld cap N ex cc hle hg hN hm0
  obtain⟨hlt,hob⟩:=hok.cells (P:=P) hg
  refine ef_two hne (hok.st hlt _) hle X.le (fun ev' q1 q2 R gg=>?_)
  rw[toHp_st]
  have:=opOk_copy (P:=P) (R:=R) (g:=gg) (o:=o) (ev:=ev') (hp:=toHp P h) (t:=t) (es:=es) (N:=N) (n:=lx) (len:=ld) (d:=s) (x:=x) (ob:=b) (off:=off) (cap:=cap) (ex:=ex) (get0:=nx cc) (get':=nx (spl off (tk (Nat.mul (mn lx ld) es) ln) cc)) (new:=new) (ob1:=ob1) (mn lx ld)
   ho rfl rfl rfl q1 hob (by unfold esIs;rw[hei];simp) (by rw[q2];exact X.cells) X.ob (mn_eq lx ld) (by omega) hes0 hN (fun q hq=>by
    rw[spl_nx,tk_len]
    show(if off≤q∧q<off+mn lx ld*es then _ else _)=_
    by_cases hin:off≤q∧q<off+mn lx ld*es
    ·rw[if_pos hin,if_pos hin,tk_nx,if_pos (show q-off<Nat.mul (mn lx ld) es by show q-off<mn lx ld*es;omega)]
     have hle2:mn lx ld*es≤lx*es:=Nat.mul_le_mul_right _ (by rw[mn_eq];omega)
     have hd1:(q-off)/es<lx:=Nat.div_lt_of_lt_mul (by rw[Nat.mul_comm];omega)
     rw[X.at_ _ _ hd1 (Nat.mod_lt _ hes0)]
     congr 1
     have:=Nat.div_add_mod (q-off) es
     rw[Nat.mul_comm] at this
     omega
    ·rw[if_neg hin,if_neg hin])
  exact this
 rcases wSl_some h1 with⟨k,s0,n,g,e1,h9⟩|⟨b,off,len,cap,ex,s0,e1,h9⟩|⟨w,b,n,s0,e1,h9⟩
 ·obtain⟨h2,h3⟩:=ck_some h9
  have hn:=beqN h2
  subst hn
  exact⟨_,_,h3,zero 0 (by omega) (fun FM ρ v hv=>let ⟨p,d,q1,_⟩:=(slice_den hv).1 e1;⟨_,_,q1⟩)⟩
 ·obtain⟨h2,h3⟩:=ck_some h9
  have hs:=beqN h2
  subst hs
  rcases iff_some h3 with⟨h4,h5⟩|⟨h4,h5⟩
  ·exact⟨_,_,h5,zero len (by rw[←mn_eq];exact beqN h4) (fun FM ρ v hv=>by rw[e1] at hv;obtain⟨p,cap',_,q1,_⟩:=hv;exact⟨_,_,q1⟩)⟩
  ·obtain⟨N,cc,hg,h6⟩:=wCe_some h5
   obtain⟨h7,h8⟩:=ck_some h6
   exact⟨_,_,h8,main (by rw[e1];exact Le.refl _) hg (ble h7) (fun e=>by rw[e] at h4;cases h4)⟩
 ·obtain⟨h2,h3⟩:=ck_some h9
  have hs:=beqN h2
  subst hs
  rcases iff_some h3 with⟨h4,h5⟩|⟨h4,h5⟩
  ·exact⟨_,_,h5,zero n (by rw[←mn_eq];exact beqN h4) (fun FM ρ v hv=>let ⟨p,d,q1,_⟩:=(slice_den hv).2.2 e1;⟨_,_,q1⟩)⟩
  ·obtain⟨N,cc,hg,h6⟩:=wCe_some h5
   obtain⟨h7,h8⟩:=ck_some h6
   have hn0:n≠0:=fun e=>by
    subst e
    rw[show mn lx 0=0 by rw[mn_eq];omega] at h4
    cases h4
   refine⟨_,_,h8,main (off:=0) (cap:=n) (ex:=false) (by rw[e1];exact Le.ow_sl hn0) hg (by rw[Nat.zero_add];exact ble h7) (fun e=>by rw[e] at h4;cases h4)⟩
theorem ef_clear {c:Call}{x:Operand}{t es:Nat}{ei:TyI}{K:KVH}(ho:o.op=.call c)(hc:c.callee=.builtin .clear)(ht:c.argTypes.toList=[t])(hx:c.args.toList=[x])(hei:elemSize (tyOf P) t=some (es,ei))(hes:Nat.blt 0 es=true)
  (hok:HOk h) (hk:clr es (ev x) h K=some a):∃v h',K v h'=some a∧Ef P o ev h v h':=by
 have hes0:0<es:=by simpa using hes
 obtain⟨e,ti,hti,hd,hee,hse⟩:=elemSize_ok hei
 have hcall:=lk_call1 hc ht hx
 subst hcall
 have zero:(∀FM ρ v,Den FM ρ (ev x) v→∃b d,v=.slice b 0 d)→Ef P o ev h .any h:=by
  intro hsl
  refine⟨hok,fun R g=>⟨fun FM ρ w evc okw hop=>?_⟩⟩
  have hu:=hti.und
  rw[hd] at hu
  obtain⟨b,d,hv⟩:=hsl _ _ _ (hop x (by simp[ho,Op.operands,Call.operands]))
  refine⟨.value (.tuple #[]),w,FM,ρ,.tuple #[],?_,rfl,trivial,okw,Goes.refl _ _ _ _ _⟩
  cases b <;> simp[execOp,ho,resolve,invoke,builtin,Builtin.clear_,hv,run_underlying hu]
 rcases wSl_some hk with⟨k,s0,n,g,e1,h9⟩|⟨b,off,len,cap,ex,s0,e1,h9⟩|⟨w,b,n,s0,e1,h9⟩
 ·obtain⟨h2,h3⟩:=ck_some h9
  have hn:=beqN h2
  subst hn
  exact⟨_,_,h3,zero (fun FM ρ v hv=>let ⟨p,d,q1,_⟩:=(slice_den hv).1 e1;⟨_,_,q1⟩)⟩
 ·obtain⟨h2,h3⟩:=ck_some h9
  have hs:=beqN h2
  subst hs
  rcases iff_some h3 with⟨h4,h5⟩|⟨h4,h5⟩
  ·have hn:=beqN h4
   subst hn
   exact⟨_,_,h5,zero (fun FM ρ v hv=>by rw[e1] at hv;obtain⟨p,cap',_,q1,_⟩:=hv;exact⟨_,_,q1⟩)⟩
  ·obtain⟨h6,h7⟩:=ck_some h5
   obtain⟨N,cc,hg,h8⟩:=wCe_some h7
   obtain⟨h10,h11⟩:=ck_some h8
   obtain⟨hlt,hob⟩:=hok.cells (P:=P) hg
   refine⟨_,_,h11,hok.st hlt _,fun R gg=>?_⟩
   rw[toHp_st]
   have hl0:len≠0:=fun e=>by subst e;cases h4
   exact opOk_clear (P:=P) (R:=R) (g:=gg) ho rfl rfl rfl e1 hob hei (by omega) (ble h6) hes0 (ble h10)
 ·obtain⟨h2,h3⟩:=ck_some h9
  have hn:=beqN h2
  subst hn
  exact⟨_,_,h3,zero (fun FM ρ v hv=>let ⟨p,d,q1,_⟩:=(slice_den hv).2.2 e1;⟨_,_,q1⟩)⟩
end
end Go.Bvm
namespace Go.Bvm
open Go Go.Avm Go.Maps
section
variable {P:Program}{o:Oper}{ev:Operand→AV}{h:H}{a:AV}
theorem wMap_some {kt:Nat}{x:AV}{K:LE→Ans}(hk:wMap kt x h K=some a):(x=.nilm∧K []=some a)∨∃ob es,x=.mp ob∧gt h ob=.map kt es∧K es=some a:=by
 cases x with
 |nilm=>exact .inl ⟨rfl,hk⟩
 |mp ob=>
  obtain⟨t,es,hg,h1⟩:=wMa_some (c:=gt h ob) (K:=fun t es=>ck (Nat.beq t kt) (K es)) hk
  obtain⟨h2,h3⟩:=ck_some h1
  obtain rfl:=beqN h2
  exact .inr ⟨ob,es,rfl,hg,h3⟩
 |_=>exact no hk
def KeyIs (x:AV)(kv:Value):Prop:=∀FM ρ v,Den FM ρ x v→v=kv
theorem wKc_some {x:AV}{K:Value→Ans}(hk:wKc x K=some a):∃v,K v=some a∧∀FM ρ u,Den FM ρ x u→u=v:=by
 cases x with
 |bool b=>exact⟨_,hk,fun _ _ _ h=>h⟩
 |int k n=>exact⟨_,hk,fun _ _ _ h=>h⟩
 |_=>exact no hk
theorem wKey_agg {n:Nat}{g:Nat→AV}{K:Value→Ans}:∀(m i:Nat) (acc:List Value),m+i=n→(Nat.rec (motive:=fun _=>Nat→List Value→Ans) (fun _ acc=>K (.agg ⟨acc⟩)) (fun _ ih i acc=>wKc (g (Nat.sub n (Nat.succ i))) fun v=>ih (Nat.succ i) (v::acc)) m i acc:Ans)=some a →
  ∃vs:List Value,K (.agg ⟨vs++acc⟩)=some a∧vs.length=m∧∀j,j<m→∃v,vs[j]? = some v∧∀FM ρ u,Den FM ρ (g j) u→u=v
 |0,i,acc,_,hk=>⟨[],hk,rfl,fun j hj=>by omega⟩
 |m+1,i,acc,hm,hk=>by
  obtain⟨v,h2,h1⟩:=wKc_some (x:=g (Nat.sub n (Nat.succ i))) hk
  have e:Nat.sub n (Nat.succ i)=m:=by show n-(i+1)=m;omega
  rw[e] at h1
  obtain⟨vs,h3,h4,h5⟩:=wKey_agg m (i+1) (v::acc) (by omega) h2
  refine⟨vs++[v],by rw[List.append_assoc];exact h3,by simp[h4],fun j hj=>?_⟩
  by_cases hjm:j<m
  ·obtain⟨v',h6,h7⟩:=h5 j hjm
   exact⟨v',by rw[List.getElem?_append_left (by omega)];exact h6,h7⟩
  ·have:j=m:=by omega
   subst this
   exact⟨v,by rw[List.getElem?_append_right (by omega),h4];simp,h1⟩
theorem wKey_some {x:AV}{K:Value→Ans}(hk:wKey x K=some a):∃kv,K kv=some a∧KeyIs x kv:=by
 cases x with
 |bool b=>exact⟨_,hk,fun _ _ _ h=>h⟩
 |int k n=>exact⟨_,hk,fun _ _ _ h=>h⟩
 |str s=>exact⟨_,hk,fun _ _ _ h=>h⟩
 |agg n g=>
  obtain⟨vs,h1,h2,h3⟩:=wKey_agg n 0 [] (by omega) hk
  rw[List.append_nil] at h1
  refine⟨_,h1,fun FM ρ v ⟨cs,hv,hn,hd⟩=>?_⟩
  subst hv
  congr 1
  apply Array.ext
  ·simp[hn,h2]
  ·intro i hi hi'
   obtain⟨v,h4,h5⟩:=h3 i (by omega)
   obtain⟨_,h6⟩:=hd i (by omega)
   have h6:cs.getD i undef=v:=h5 _ _ _ h6
   rw[Array.getD_eq_getD_getElem?,Array.getElem?_eq_getElem hi] at h6
   have h6:cs[i]=v:=h6
   rw[h6]
   have:(vs.toArray)[i]? = some v:=by rw[List.getElem?_toArray];exact h4
   rw[Array.getElem?_eq_getElem hi'] at this
   exact(Option.some.inj this).symm
 |_=>exact no hk
theorem wVA_some {x:Value}{K:IntKind→Int→Ans}(hk:wVA x K=some a):∃k n,x=.int k n∧K k n=some a:=by
 cases x <;> first|exact⟨_,_,rfl,hk⟩|exact no hk
theorem vq1_some {x y:Value}{Y N:Ans}(hk:vq1 x y Y N=some a):(x=y∧Y=some a)∨(x≠y∧N=some a):=by
 cases x with
 |bool b=>
  cases y with
  |bool c=>
   rcases iff_some (show iff (beqB b c) Y N=some a from hk) with⟨h1,h2⟩|⟨h1,h2⟩ <;> rw[beqB_eq] at h1
   ·exact .inl ⟨by have:b=c:=by simpa using h1
                   rw[this],h2⟩
   ·exact .inr ⟨fun e=>(by cases e;simp at h1),h2⟩
  |_=>exact no hk
 |int k n=>
  obtain⟨j,m,rfl,h1⟩:=wVA_some (x:=y) hk
  rcases iff_some h1 with⟨h2,h3⟩|⟨h2,h3⟩
  ·rcases iff_some h3 with⟨h4,h5⟩|⟨h4,h5⟩ <;> rw[ieq_eq] at h4
   ·exact .inl ⟨by rw[kq_eq h2];have:n=m:=by simpa using h4
                   rw[this],h5⟩
   ·exact .inr ⟨fun e=>(by cases e;simp at h4),h5⟩
  ·exact .inr ⟨fun e=>(by cases e;cases k <;> cases h2),h3⟩
 |_=>exact no hk
theorem vqL_some {Y N:Ans}:∀{l m:List Value},vqL Y N l m=some a→(l=m∧Y=some a)∨(l≠m∧N=some a)
 |[],[],hk=>.inl ⟨rfl,hk⟩
 |[],_::_,hk=>.inr ⟨fun e=>(by cases e),hk⟩
 |_::_,[],hk=>.inr ⟨fun e=>(by cases e),hk⟩
 |x::l,y::m,hk=>by
  rcases vq1_some (show vq1 x y (vqL Y N l m) N=some a from hk) with⟨rfl,h2⟩|⟨h1,h2⟩
  ·rcases vqL_some h2 with⟨h7,h8⟩|⟨h7,h8⟩
   ·exact .inl ⟨by rw[h7],h8⟩
   ·exact .inr ⟨fun e=>h7 (by cases e;rfl),h8⟩
  ·exact .inr ⟨fun e=>h1 (by cases e;rfl),h2⟩
theorem eqS_iff (s u:ByteArray):eqS s u=true↔s=u:=by
 show eqB s.data.toList u.data.toList=true↔_
 rw[eqB_eq]
 constructor
 ·intro h;cases s;cases u;simpa using h
 ·intro h;rw[h]
theorem vq_some {x y:Value}{Y N:Ans}(hk:vq x y Y N=some a):(x=y∧Y=some a)∨(x≠y∧N=some a):=by
 cases x with
 |bool b=>
  cases y with
  |bool c=>
   rcases iff_some (show iff (beqB b c) Y N=some a from hk) with⟨h1,h2⟩|⟨h1,h2⟩ <;> rw[beqB_eq] at h1
   ·exact .inl ⟨by have:b=c:=by simpa using h1
                   rw[this],h2⟩
   ·exact .inr ⟨fun e=>(by cases e;simp at h1),h2⟩
  |_=>exact no hk
 |int k n=>
  obtain⟨j,m,rfl,h1⟩:=wVA_some (x:=y) hk
  rcases iff_some h1 with⟨h2,h3⟩|⟨h2,h3⟩
  ·rcases iff_some h3 with⟨h4,h5⟩|⟨h4,h5⟩ <;> rw[ieq_eq] at h4
   ·exact .inl ⟨by rw[kq_eq h2];have:n=m:=by simpa using h4
                   rw[this],h5⟩
   ·exact .inr ⟨fun e=>(by cases e;simp at h4),h5⟩
  ·exact .inr ⟨fun e=>(by cases e;cases k <;> cases h2),h3⟩
 |string s=>
  cases y with
  |string u=>
   rcases iff_some (show iff (eqS s u) Y N=some a from hk) with⟨h1,h2⟩|⟨h1,h2⟩
   ·exact .inl ⟨by rw[(eqS_iff s u).1 h1],h2⟩
   ·exact .inr ⟨fun e=>(by cases e;rw[(eqS_iff s s).2 rfl] at h1;cases h1),h2⟩
  |_=>exact no hk
 |agg cs=>
  cases y with
  |agg ds=>
   rcases vqL_some (show vqL Y N cs.toList ds.toList=some a from hk) with⟨h1,h2⟩|⟨h1,h2⟩
   ·exact .inl ⟨by rw[←Array.toArray_toList (xs:=cs),h1,Array.toArray_toList],h2⟩
   ·exact .inr ⟨fun e=>(by cases e;exact h1 rfl),h2⟩
  |_=>exact no hk
 |_=>exact no hk
theorem mfind_some {k:Value}{Y:Nat→AV→Ans}{N:Ans}:∀{es:LE} {i:Nat},mfind k Y N es i=some a→(∃j v,es[j]? = some (k,v)∧Y (i+j) v=some a)∨((∀e∈es,e.1≠k)∧N=some a)
 |[],i,hk=>.inr ⟨fun e he=>(by cases he),hk⟩
 |(k',v)::es,i,hk=>by
  rcases vq_some (show vq k k' (Y i v) (mfind k Y N es (i+1))=some a from hk) with⟨rfl,h2⟩|⟨h1,h2⟩
  ·exact .inl ⟨0,v,rfl,h2⟩
  ·rcases mfind_some h2 with⟨j,u,h3,h4⟩|⟨h3,h4⟩
   ·exact .inl ⟨j+1,u,h3,by rw[show i+(j+1)=i+1+j by omega];exact h4⟩
   ·refine .inr ⟨fun e he=>?_,h4⟩
    rcases List.mem_cons.1 he with rfl|he
    ·exact fun e=>h1 e.symm
    ·exact h3 e he
theorem inR_wf {k:IntKind}{n:Int}(hk:inR k n=true):(Lit.int k n).wf=true:=by
 have key:k.min≤n∧n≤k.max:=by
  have signed:∀b:Nat,(match n with|.ofNat n=>Nat.ble n b|.negSucc n=>Nat.ble n b)=true → -(b:Int)-1≤n∧n≤b:=fun b hb=>by
   cases n with
   |ofNat n=>have:=ble hb;rw[show Int.ofNat n=(n:Int) from rfl];omega
   |negSucc n=>have:=ble hb;rw[show Int.negSucc n = -(n:Int)-1 by omega];omega
  have unsigned:∀b:Nat,(match n with|.ofNat n=>Nat.ble n b|.negSucc _=>false)=true→0≤n∧n≤b:=fun b hb=>by
   cases n with
   |ofNat n=>have:=ble hb;rw[show Int.ofNat n=(n:Int) from rfl];omega
   |negSucc n=>cases hb
  cases k
  ·have:=signed 127 (by cases n <;> exact hk);simp[IntKind.min,IntKind.max,IntKind.signed,IntKind.bits];omega
  ·have:=signed 32767 (by cases n <;> exact hk);simp[IntKind.min,IntKind.max,IntKind.signed,IntKind.bits];omega
  ·have:=signed 2147483647 (by cases n <;> exact hk);simp[IntKind.min,IntKind.max,IntKind.signed,IntKind.bits];omega
  ·have:=signed 9223372036854775807 (by cases n <;> exact hk);simp[IntKind.min,IntKind.max,IntKind.signed,IntKind.bits];omega
  ·have:=unsigned 255 (by cases n <;> exact hk);simp[IntKind.min,IntKind.max,IntKind.signed,IntKind.bits];omega
  ·have:=unsigned 65535 (by cases n <;> exact hk);simp[IntKind.min,IntKind.max,IntKind.signed,IntKind.bits];omega
  ·have:=unsigned 4294967295 (by cases n <;> exact hk);simp[IntKind.min,IntKind.max,IntKind.signed,IntKind.bits];omega
  ·have:=unsigned 18446744073709551615 (by cases n <;> exact hk);simp[IntKind.min,IntKind.max,IntKind.signed,IntKind.bits];omega
 show(decide (k.min≤n)&&decide (n≤k.max))=true
 simp[key.1,key.2]
theorem wVI_true {x:Value}{K:IntKind→Int→Bool}(hk:wVI x K=true):∃k n,x=.int k n∧K k n=true:=by
 cases x <;> first|exact⟨_,_,rfl,hk⟩|(exact nomatch (show false=true from hk))
theorem wVS_true {x:Value}{K:ByteArray→Bool}(hk:wVS x K=true):∃s,x=.string s∧K s=true:=by
 cases x <;> first|exact⟨_,rfl,hk⟩|(exact nomatch (show false=true from hk))
structure KTy (P:Program)(t:Nat):Prop where
 und:∃vt,P.underlying t=some (.map (keyTy P t) vt)
 keyed:Keyed P (keyTy P t)
 is:∀{v:Value},(keyC P (keyTy P t)).r v=true→∃l,keyOf P (keyTy P t) v=some l
theorem keyOk_ty (hl:laidOutB P=true){t:Nat}(hk:keyOk P t=true):KTy P t:=by
 unfold keyOk at hk
 split at hk
 ·rename_i k vt hu
  have hkt:keyTy P t=k:=by unfold keyTy;rw[hu]
  refine⟨⟨vt,by rw[hkt];exact hu⟩,?_,?_⟩ <;> rw[hkt]
  ·split at hk
   ·rename_i q hq;exact int_keyed hq
   ·rename_i hq;exact string_keyed hq
   ·rename_i hq;exact bool_keyed hq
   ·rename_i n e hq
    rw[Bool.and_eq_true] at hk
    exact Keyed.of_law (deep_law_laid hl (m:=5) (by omega) (by simpa using hk.2) hk.1 (by rw[hq]))
   ·rename_i fs hq
    rw[Bool.and_eq_true] at hk
    exact Keyed.of_law (deep_law_laid hl (m:=5) (by omega) (by simpa using hk.2) hk.1 (by rw[hq]))
   ·cases hk
  ·intro v hv
   unfold keyC at hv
   split at hv
   ·rename_i q hq
    obtain⟨j,n,rfl,h1⟩:=wVI_true hv
    cases hj:kq q j with
    |false=>rw[hj] at h1;cases h1
    |true=>
     rw[hj] at h1
     have h1:inR q n=true:=h1
     obtain rfl:=kq_eq hj
     exact⟨_,keyOf_int_mk hq (inR_wf h1)⟩
   ·rename_i hq
    obtain⟨s,rfl,h1⟩:=wVS_true hv
    have h1:=ble h1
    refine⟨.string s.data.toList,?_⟩
    have hm:s.size≤maxLen:=by
     have:s.size=s.data.toList.length:=(Array.length_toList (xs:=s.data)).symm
     rw[this]
     have:maxLen=9223372036854775807:=rfl
     omega
    simp[keyOf,hq,mapKey,hm]
   ·cases hq:keyOf P k v with
    |none=>have hv:(keyOf P k v).isSome=true:=hv
           rw[hq] at hv;cases hv
    |some l=>exact⟨l,rfl⟩
 ·cases hk
theorem lenE_eq:∀(es:LE),lenE es=es.length
 |[]=>rfl
 |_::es=>by show Nat.succ (lenE es)=_;rw[lenE_eq];rfl
theorem mset_get (v:AV):∀(es:LE) (i j:Nat),(mset i v es)[j]? = if i=j then(es[j]?).map (fun e=>(e.1,v)) else es[j]?
 |[],i,j=>by
  have e:mset i v []=[]:=rfl
  rw[e];simp
 |e::es,0,j=>by
  have e1:mset 0 v (e::es)=(e.1,v)::es:=rfl
  rw[e1]
  cases j with
  |zero=>simp
  |succ j=>simp
 |e::es,i+1,j=>by
  have e1:mset (i+1) v (e::es)=e::mset i v es:=rfl
  rw[e1]
  cases j with
  |zero=>simp
  |succ j=>
   simp only[List.getElem?_cons_succ]
   rw[mset_get v es i j]
   by_cases hij:i=j
   ·rw[if_pos hij,if_pos (by omega)]
   ·rw[if_neg hij,if_neg (by omega)]
theorem mset_len (v:AV):∀(es:LE) (i:Nat),(mset i v es).length=es.length
 |[],i=>rfl
 |e::es,0=>rfl
 |e::es,i+1=>by
  show(mset i v es).length+1=_
  rw[mset_len v es i];rfl
theorem mset_fst (v:AV):∀(es:LE) (i:Nat),(mset i v es).map Prod.fst=es.map Prod.fst
 |[],i=>rfl
 |e::es,0=>rfl
 |e::es,i+1=>by
  show e.1::(mset i v es).map Prod.fst=_
  rw[mset_fst v es i];rfl
theorem mput_eq (k:Value)(v:AV):∀(es:LE),mput k v es=es++[(k,v)]
 |[]=>rfl
 |e::es=>by show e::mput k v es=_;rw[mput_eq k v es];rfl
theorem nats_eq (n:Nat):nats n=List.range n:=by
 have:∀(n i:Nat),(Nat.rec (motive:=fun _=>Nat→List Nat) (fun _=>[]) (fun _ ih i=>i::ih (Nat.succ i)) n i:List Nat)=List.range' i n:=by
  intro n
  induction n with
  |zero=>intro i;rfl
  |succ n ih=>intro i;rw[List.range'_succ];exact congrArg (i::·) (ih (i+1))
 rw[List.range_eq_range']
 exact this n 0
theorem delN_cons (i x:Nat)(l:List Nat):delN i (x::l)=bif Nat.beq i x then l else x::delN i l:=by
 show(Bool.rec (x::delN i l) l (Nat.beq i x):List Nat)=_
 cases Nat.beq i x <;> rfl
theorem delN_mem {i j:Nat}:∀{l:List Nat},l.Nodup→(j∈delN i l↔j∈l∧j≠i)
 |[],_=>by
  have:delN i []=[]:=rfl
  rw[this];simp
 |x::l,hn=>by
  obtain⟨h0,hn⟩:=List.nodup_cons.1 hn
  rw[delN_cons]
  cases hb:Nat.beq i x with
  |true=>
   obtain rfl:=beqN hb
   rw[cond_true,List.mem_cons]
   exact⟨fun h1=>⟨.inr h1,fun e=>h0 (e▸h1)⟩,fun ⟨h1,h2⟩=>h1.resolve_left h2⟩
  |false=>
   have hne:i≠x:=fun e=>by subst e;simp at hb
   rw[cond_false,List.mem_cons,delN_mem hn,List.mem_cons]
   refine⟨fun h1=>?_,fun ⟨h1,h2⟩=>?_⟩
   ·rcases h1 with rfl|⟨h1,h2⟩
    ·exact⟨.inl rfl,fun e=>hne e.symm⟩
    ·exact⟨.inr h1,h2⟩
   ·rcases h1 with rfl|h1
    ·exact .inl rfl
    ·exact .inr ⟨h1,h2⟩
theorem delN_nodup {i:Nat}:∀{l:List Nat},l.Nodup→(delN i l).Nodup
 |[],_=>by
  have:delN i []=[]:=rfl
  rw[this];simp
 |x::l,hn=>by
  obtain⟨h1,h2⟩:=List.nodup_cons.1 hn
  rw[delN_cons]
  cases Nat.beq i x with
  |true=>exact h2
  |false=>exact List.nodup_cons.2 ⟨fun h3=>h1 ((delN_mem h2).1 h3).1,delN_nodup h2⟩
theorem mat_some {K:AV→AV→Ans}:∀{i:Nat} {es:LE},mat i es K=some a→∃k v,es[i]? = some (k,v)∧K (ofVal1 k) v=some a
 |_,[],hk=>no hk
 |0,(k,v)::_,hk=>⟨k,v,rfl,hk⟩
 |i+1,_::es,hk=>mat_some (i:=i) (es:=es) hk
theorem key_inj {es:LE}(hn:(es.map Prod.fst).Nodup){i j:Nat}{k:Value}{u v:AV}(hi:es[i]? = some (k,u))(hj:es[j]? = some (k,v)):i=j:=by
 have hil:=(List.getElem?_eq_some_iff.1 hi).1
 refine((List.getElem?_inj (i:=i) (j:=j) (by simpa using hil) hn).1 ?_)
 rw[List.getElem?_map,List.getElem?_map,hi,hj];rfl
end
end Go.Bvm
namespace Go.Bvm
open Go Go.Avm
section
variable {P:Program}
def PostB (P:Program)(R:Res)(g:R.σ)(FM:Mem)(ρ:Plc)(w:World)(Φ:Oc→H→Prop)(e:Ending)(w':World):Prop:=
 ∃oc h',Φ oc h'∧HOk h'∧Post R g FM ρ w oc (toHp P h') g e w'
def ocK (K Pn:KVH)(a:AV):Oc→H→Prop
 |.ret v,h=>K v h=some a
 |.pan v,h=>Pn v h=some a
structure CallB (P:Program)(R:Res)(f:FuncId)(args:LA)(h:H)(g:R.σ)(Φ:Oc→H→Prop):Prop where
 h:∀FM ρ w vs,Ok R (toHp P h) g FM ρ w→DenL FM ρ args vs→Calls P f vs w (PostB P R g FM ρ w Φ)
structure RndB (P:Program)(R:Res)(o:Nat)(args:LA)(h:H)(g:R.σ)(Φ:Oc→H→Prop):Prop where
 h:∀FM ρ w vs p,Ok R (toHp P h) g FM ρ w→DenL FM ρ args vs→ρ[o]? = some p→∃fn tmps assign body,(Instr.yield p.1 vs).run P w=.ok (.round p.1 fn tmps assign body) w ∧
  ∀(r:Rd) (n:Nat),RoundIn (Fw r) n P p.1 fn tmps assign body w (PostB P R g FM ρ w Φ)
structure DefB (P:Program)(R:Res)(f:FuncId)(args:LA)(h:H)(g:R.σ)(rv:Option AV)(Φ:H→Prop):Prop where
 h:∀FM ρ w vs u,Ok R (toHp P h) g FM ρ w→DenL FM ρ args vs→rvDen FM ρ rv u →
  CallsD P f vs (rvMode false u) w (fun e u' w'=>(∃r,e=.returned r)∧u'=rvMode true u∧∃h' FM' ρ',Φ h'∧HOk h'∧Ok R (toHp P h') g FM' ρ' w'∧Goes R g FM ρ w g FM' ρ' w')
structure TbOk (P:Program)(t:Tb):Prop where
 C:∀{f:Nat} {l:LA} {h:H} {K Pn:KVH} {a:AV},(t.C f).r l h K Pn=some a→HOk h→isPlain P f=true∧∀(R:Res) (g:R.σ),CallB P R f l h g (ocK K Pn a)
 R:∀{o:Nat} {l:LA} {h:H} {K Pn:KVH} {a:AV},(t.R o).r l h K Pn=some a→HOk h→∀(R:Res) (g:R.σ),RndB P R o l h g (ocK K Pn a)
 D:∀{f:Nat} {v:Option AV} {l:LA} {h:H} {K Pn:KVH} {a:AV},(t.D f v).r l h K Pn=some a→HOk h→isPlain P f=true∧∀(R:Res) (g:R.σ),DefB P R f l h g v (fun h'=>K .any h'=some a)
def OpsOk (P:Program):Prop:=∀{lay:Lay} {prs:SlL} {o:Oper} {l:LA} {h:H} {X:X} {K:KVH} {a:AV},TbOk P X.t→(compOp P lay prs o.op).r l h X K=some a→HOk h →
 ∀{R:Res} {g:R.σ} {FM:Mem} {ρ:Plc} {w:World} {act:Act},Ok R (toHp P h) g FM ρ w→(∀x∈o.op.operands,Den FM ρ ((opnd lay x).g l) (act.eval x))→∀{r:Rd} {nn:Nat} {Kw:Act→World→Prop} {Q:Exit→Act→World→Prop},
 (∀v h' FM' ρ' w' u,K v h'=some a→HOk h'→Den FM' ρ' v u→Ok R (toHp P h') g FM' ρ' w'→Goes R g FM ρ w g FM' ρ' w'→Kw (act.put o.dst u) w') →
 (∀v h' FM' ρ' w' u,X.p (prs.g l) v h'=some a→HOk h'→Den FM' ρ' v u→Ok R (toHp P h') g FM' ρ' w'→Goes R g FM ρ w g FM' ρ' w'→Q (.panic [{ v:=u,recovered:=false }]) act w') →
 o.uponIn (Fw r) nn P act Kw Q ((execOp act.eval o).run P w)
theorem slot_cons (t s:Nat)(lay:Lay)(v:AV)(l:LA):(slot t (s::lay)).g (v::l)=bif Nat.beq t s then v else(slot t lay).g l:=by
 show Sl.g (Bool.rec ⟨fun l=>(slot t lay).g (tlL l)⟩ ⟨hd⟩ (Nat.beq t s)) (v::l)=_
 cases Nat.beq t s <;> rfl
theorem slot_sel (lay:Lay)(l:LA)(t:Nat):∀(out:Lay),(slot t out).g ((selLay lay out).g l)=.any∨(slot t out).g ((selLay lay out).g l)=(slot t lay).g l
 |[]=>.inl rfl
 |s::out=>by
  have e:(selLay lay (s::out)).g l=(slot s lay).g l::(selLay lay out).g l:=rfl
  rw[e,slot_cons]
  cases hb:Nat.beq t s with
  |true=>rw[beqN hb];exact .inr rfl
  |false=>exact slot_sel lay l t out
theorem fr_sel {FM:Mem}{ρ:Plc}{lay:Lay}{l:LA}{f:Nat→Value}(out:Lay)(h:∀t,Den FM ρ (lk (frOf lay l) t) (f t))(t:Nat):Den FM ρ (lk (frOf out ((selLay lay out).g l)) t) (f t):=by
 rw[lk_frOf]
 rcases slot_sel lay l t out with e|e
 ·rw[e];trivial
 ·rw[e,←lk_frOf];exact h t
theorem den_opnd {FM:Mem}{ρ:Plc}{lay:Lay}{l:LA}{act:Act}(h:∀t,Den FM ρ (lk (frOf lay l) t) (act.tmps.getD t undef))(x:Operand):Den FM ρ ((opnd lay x).g l) (act.eval x):=by
 cases x with
 |tmp t=>have:=h t;rw[lk_frOf] at this;exact this
 |const v=>exact den_ofVal1 FM ρ v
 |global b=>exact⟨rfl,rfl⟩
 |func f=>exact⟨#[],#[],rfl,rfl,rfl,fun i hi=>absurd hi (by omega),fun i hi=>absurd hi (by omega)⟩
theorem opNotDefer {lay:Lay}{prs:SlL}{o:Oper}{l:LA}{h:H}{X:X}{K:KVH}{a:AV}(hk:(compOp P lay prs o.op).r l h X K=some a):∀k,o.op≠.defer k:=fun k e=>by
 rw[e] at hk
 exact no hk
theorem guard_iff {ops:Array Oper}{FM:Mem}{ρ:Plc}{act:Act}{lay:Lay}{l:LA}(h:∀t,Den FM ρ (lk (frOf lay l) t) (act.tmps.getD t undef)){j:Nat}{w:Bool}{A B:Ans}{a:AV}(hk:wG w ((guardS lay ops.toList j).g l) A B=some a) :
  (holds ops act (some (j,w))∧A=some a)∨(¬holds ops act (some (j,w))∧B=some a):=by
 unfold guardS at hk
 cases hj:ops.toList[j]? with
 |none=>rw[hj] at hk;exact no hk
 |some o=>
  rw[hj] at hk
  cases hd:o.dst with
  |none=>simp only[hd] at hk;exact no hk
  |some d=>
   simp only[hd] at hk
   have hy:yielded ops act.tmps j=asB (act.tmps.getD d undef):=yielded_slot rfl hj hd
   have hden:=h d
   rw[lk_frOf] at hden
   rcases wG_some hk with⟨b,e,hb⟩|⟨g,e,hb⟩
   ·have hden:Den FM ρ ((slot d lay).g l) _:=hden
    have e:(slot d lay).g l=.bool b:=e
    rw[e] at hden
    have hden:act.tmps.getD d undef=.bool b:=hden
    unfold holds
    simp only[hy,hden,asB,Option.some.injEq]
    rcases hb with⟨h1,h2⟩|⟨h1,h2⟩
    ·exact .inl ⟨h1,h2⟩
    ·exact .inr ⟨h1,h2⟩
   ·have hden:Den FM ρ ((slot d lay).g l) _:=hden
    have e:(slot d lay).g l=.tup 0 g:=e
    rw[e] at hden
    obtain⟨cs,hcs,_⟩:=hden
    unfold holds
    simp only[hy,hcs,asB]
    exact .inr ⟨by simp,hb⟩
theorem den_skip {FM:Mem}{ρ:Plc}:Den FM ρ skipV undef:=⟨#[],rfl,rfl,fun j hj=>absurd hj (by omega)⟩
section
variable {R:Res}{g:R.σ}{C:Cx R}{nt:Nat}{rs out:Lay}{Q:AEx→St R.σ→Prop}{X:X}{K:LA→H→Ans}{a:AV}{r:Rd}{nn:Nat}
theorem sat_put {lay:Lay}{l:LA}{h h':H}{FM FM':Mem}{ρ ρ':Plc}{act:Act}{w w':World}(hs:Sat R C nt ⟨frOf lay l,toHp P h,g⟩ FM ρ act w){v:AV}{u:Value}(hd:Den FM' ρ' v u)(ok':Ok R (toHp P h') g FM' ρ' w')(go:Goes R g FM ρ w g FM' ρ' w'){t:Nat}(ht:Nat.blt t nt=true) :
  Sat R C nt ⟨frOf (t::lay) (v::l),toHp P h',g⟩ FM' ρ' (act.put (some t) u) w':=by
 have ht:t<act.tmps.size:=by rw[hs.size];simpa using ht
 refine⟨ok',hs.goes.trans go,by rw[put_size];exact hs.size,by rw[put_defers];exact hs.defs.goes go,fun t'=>?_⟩
 show Den FM' ρ' (bif Nat.beq t' t then v else lk (frOf lay l) t') _
 cases hb:Nat.beq t' t with
 |true=>rw[beqN hb,put_same ht];exact hd
 |false=>
  have hne:some t≠some t':=fun e=>by cases e;simp at hb
  rw[put_other hne]
  exact Den.mono go.ext.fm _ go.sub (hs.fr t')
theorem sat_go {lay:Lay}{l:LA}{h h':H}{FM FM':Mem}{ρ ρ':Plc}{act:Act}{w w':World}{u:Value}(hs:Sat R C nt ⟨frOf lay l,toHp P h,g⟩ FM ρ act w)(ok':Ok R (toHp P h') g FM' ρ' w')(go:Goes R g FM ρ w g FM' ρ' w') :
  Sat R C nt ⟨frOf lay l,toHp P h',g⟩ FM' ρ' (act.put none u) w':=
 ⟨ok',hs.goes.trans go,hs.size,hs.defs.goes go,fun t'=>Den.mono go.ext.fm _ go.sub (hs.fr t')⟩
theorem sat_sel {lay out:Lay}{l:LA}{h:H}{FM:Mem}{ρ:Plc}{act:Act}{w:World}(hs:Sat R C nt ⟨frOf lay l,toHp P h,g⟩ FM ρ act w):Sat R C nt ⟨frOf out ((selLay lay out).g l),toHp P h,g⟩ FM ρ act w:=
 ⟨hs.ok,hs.goes,hs.size,hs.defs,fr_sel out hs.fr⟩
theorem compG_ok (hO:OpsOk P)(hT:TbOk P X.t){ops:Array Oper}(hp:∀l' v h',HOk h'→X.p l' v h'=some a→Q (.pan v) ⟨frOf rs l',toHp P h',g⟩){i:Nat}{o:Oper}(hi:ops.toList[i]? = some o)
  {lay:Lay} {l:LA} {h:H} {KV:KVH} (hk:(compG P lay rs ops.toList o).r l h X KV=some a) (hok:HOk h) {FM:Mem} {ρ:Plc} {act:Act} {w:World} (hs:Sat R C nt ⟨frOf lay l,toHp P h,g⟩ FM ρ act w) {Kw:Act→World→Prop}
  (next:∀v h' FM' ρ' w' u,KV v h'=some a→HOk h'→Den FM' ρ' v u→Ok R (toHp P h') g FM' ρ' w'→Goes R g FM ρ w g FM' ρ' w'→Kw (act.put o.dst u) w') :
  wpOpIn (Fw r) nn P ops (PostA R C nt Q) i Kw act w:=by
 unfold wpOpIn
 have hoi:ops[i]? = some o:=by rw[←Array.getElem?_toList];exact hi
 simp only[hoi]
 have wanted:holds ops act o.guard→(compOp P lay (selLay lay rs) o.op).r l h X KV=some a →
   if Region.wanted o (yielded ops act.tmps)=true then o.wpIn (Fw r) nn P act w Kw (PostA R C nt Q) else(∀f,o.about P w act.eval=some f→(Fw r).fn f)∧Kw (act.put o.dst undef) w:=fun hw hk=>by
  rw[if_pos (wanted_iff.2 hw)]
  refine⟨fun _ _=>trivial,?_⟩
  rw[Oper.semAt_eq _ _ _ (opNotDefer hk)]
  exact hO hT hk hok hs.ok (fun x _=>den_opnd hs.fr x) next (fun v h' FM' ρ' w' u k1 k2 k3 k4 k5=>⟨_,v,u,FM',ρ',hp _ _ _ k2 k1,⟨k4,hs.goes.trans k5,hs.size,hs.defs.goes k5,fun t=>fr_sel rs (fun t=>Den.mono k5.ext.fm _ k5.sub (hs.fr t)) t⟩,rfl,k3⟩)
 cases hg:o.guard with
 |none=>
  unfold compG at hk
  rw[hg] at hk
  exact wanted (by rw[hg];trivial) hk
 |some jw=>
  obtain⟨j,b⟩:=jw
  unfold compG at hk
  rw[hg] at hk
  rcases guard_iff hs.fr hk with⟨h1,h2⟩|⟨h1,h2⟩
  ·exact wanted (by rw[hg];exact h1) h2
  ·rw[if_neg (fun hw=>h1 (by have:=wanted_iff.1 hw;rwa [hg] at this))]
   exact⟨fun _ _=>trivial,next _ _ FM ρ w undef h2 hok den_skip hs.ok (Goes.refl _ _ _ _ _)⟩
theorem compOps_ok (hO:OpsOk P)(hT:TbOk P X.t){ops:Array Oper}(hq:∀l' h',HOk h'→K l' h'=some a→Q .normal ⟨frOf out l',toHp P h',g⟩)(hp:∀l' v h',HOk h'→X.p l' v h'=some a→Q (.pan v) ⟨frOf rs l',toHp P h',g⟩) :
  ∀(rest:List Oper) (i:Nat),ops.toList.drop i=rest→∀(lay:Lay) (l:LA) (h:H) (FM:Mem) (ρ:Plc) (act:Act) (w:World),(compOps P rs nt ops.toList rest lay out).r l h X K=some a→HOk h→Sat R C nt ⟨frOf lay l,toHp P h,g⟩ FM ρ act w →
   wpOpsIn (Fw r) nn P ops (PostA R C nt Q) (List.range' i rest.length) act w
 |[],i,_,lay,l,h,FM,ρ,act,w,hk,hok,hs=>⟨_,hq _ _ hok hk,FM,ρ,sat_sel hs⟩
 |o::rest,i,hd,lay,l,h,FM,ρ,act,w,hk,hok,hs=>by
  have hi:ops.toList[i]? = some o:=by
   have:=List.getElem?_drop (xs:=ops.toList) (i:=i) (j:=0)
   rw[hd] at this
   simpa using this.symm
  have hd':ops.toList.drop (i+1)=rest:=by
   rw[←List.drop_drop,hd];rfl
  rw[List.length_cons,List.range'_succ,wpOpsIn_cons]
  cases ht:o.dst with
  |none=>
   have hk':(compG P lay rs ops.toList o).r l h X (fun _ h=>(compOps P rs nt ops.toList rest lay out).r l h X K)=some a:=by
    have e:compOps P rs nt ops.toList (o::rest) lay out=(match o.dst with
     |some t=>match Nat.blt t nt with
      |true=>(fun c k=>⟨fun l h X K=>c.r l h X fun v h=>k.r (v::l) h X K⟩) (compG P lay rs ops.toList o) (compOps P rs nt ops.toList rest (t::lay) out)
      |false=>badC
     |none=>(fun c k=>⟨fun l h X K=>c.r l h X fun _ h=>k.r l h X K⟩) (compG P lay rs ops.toList o) (compOps P rs nt ops.toList rest lay out):Cl):=rfl
    rw[e,ht] at hk
    exact hk
   refine compG_ok hO hT hp hi hk' hok hs (fun v h' FM' ρ' w' u k1 k2 k3 k4 k5=>?_)
   rw[ht]
   exact compOps_ok hO hT hq hp rest (i+1) hd' lay l h' FM' ρ' _ w' k1 k2 (sat_go hs k4 k5)
  |some t=>
   have e:compOps P rs nt ops.toList (o::rest) lay out=(match o.dst with
     |some t=>match Nat.blt t nt with
      |true=>(fun c k=>⟨fun l h X K=>c.r l h X fun v h=>k.r (v::l) h X K⟩) (compG P lay rs ops.toList o) (compOps P rs nt ops.toList rest (t::lay) out)
      |false=>badC
     |none=>(fun c k=>⟨fun l h X K=>c.r l h X fun _ h=>k.r l h X K⟩) (compG P lay rs ops.toList o) (compOps P rs nt ops.toList rest lay out):Cl):=rfl
   rw[e,ht] at hk
   cases hb:Nat.blt t nt with
   |false=>simp only[hb] at hk;exact no hk
   |true=>
    simp only[hb] at hk
    have hk':(compG P lay rs ops.toList o).r l h X (fun v h=>(compOps P rs nt ops.toList rest (t::lay) out).r (v::l) h X K)=some a:=hk
    refine compG_ok hO hT hp hi hk' hok hs (fun v h' FM' ρ' w' u k1 k2 k3 k4 k5=>?_)
    rw[ht]
    exact compOps_ok hO hT hq hp rest (i+1) hd' (t::lay) (v::l) h' FM' ρ' _ w' k1 k2 (sat_put hs k3 k4 k5 hb)
theorem region_ok (hO:OpsOk P)(hT:TbOk P X.t){id:Nat}{ops:Array Oper}{k0:Nat}{lay:Lay}{l:LA}{h:H}(hk:(compOps P rs nt ops.toList ops.toList lay out).r l h X K=some a)(hok:HOk h)
  (hq:∀l' h',HOk h'→K l' h'=some a→Q .normal ⟨frOf out l',toHp P h',g⟩) (hp:∀l' v h',HOk h'→X.p l' v h'=some a→Q (.pan v) ⟨frOf rs l',toHp P h',g⟩):wpA P R nt k0 r (.region id ops false) Q ⟨frOf lay l,toHp P h,g⟩:=by
 intro C hC n act w ⟨FM,ρ,hs⟩
 refine wpIn_region ?_
 have hr:List.range ops.size=List.range' 0 ops.toList.length:=by rw[Array.length_toList,List.range_eq_range']
 rw[hr]
 exact compOps_ok hO hT hq hp ops.toList 0 rfl lay l h FM ρ act w hk hok hs
end
end
end Go.Bvm
