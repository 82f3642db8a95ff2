/- Part 5 of the proof: lemmas. -/
import Derived.Test.YtbdagmhndndliaaDoorM4
namespace Go.Avm.Pack
open Go Go.Avm Go.Proofs
open Go.IntKind (i64 u64)
open Go.Avm.AV (int bool any fz fp sl ow ref fn ifc val agg tup)
open Go.Avm.AObj (cells dead)
open Go.Avm.Oc (ret)
set_option maxRecDepth 4000
def opC (n i:Nat):List Int:=List.replicate i 3++List.replicate (n-i) 0
theorem oh {n i j:Nat}:(opC n i).getD j 0=if j<i then 3 else 0:=by
 unfold opC
 rw[List.getD_eq_getElem?_getD,List.getElem?_append]
 simp only[List.length_replicate]
 split
 ·rw[List.getElem?_replicate_of_lt (by assumption)];rfl
 ·rw[List.getElem?_replicate]
  split <;> rfl
theorem yh {n i c:Nat}:ah (ab (opC n i)) i 1 (fun _=>.int .i64 3) c=ab (opC n (i+1)) c:=by
 rw[cL]
 unfold ab
 rw[oh,oh]
 split
 ·rw[if_pos (by omega)]
 ·rename_i h
  congr 1
  by_cases hc:c<i
  ·rw[if_pos hc,if_pos (by omega)]
  ·rw[if_neg hc,if_neg (by omega)]
theorem yi (R:Res)(n:Nat)(hn:0<n/\n<=1000)(g:R.σ):Does Tryd.prog R 63 [.int .i64 n] [] g (.ret (.ow true 0 n 1)) [.cells false (n*1) (ab (List.replicate n 3))] g:=by
 have hroom:aG=140737488355328:=rfl
 have hrep:List.replicate n (3:Int)=opC n n:=by unfold opC;rw[Nat.sub_self];exact(List.append_nil _).symm
 rw[hrep]
 refine az (nt:=16) (rs:=[.tmp 2]) (k0:=0) (by kernel_rfl) (by kernel_rfl) (by kernel_rfl) rfl ?_
 refine vcQ [] (lkL [(0,[0]),(1,[0,3]),(2,[0,3,4])]) (fun _=>[]) (fun Q=>0<=(n:Int)/\(n:Int)<=(n:Int)/\(n:Int)<=140737488355328/\n*8<=aG/\Wp Tryd.prog R 16 0 Rd.top (af Tryd.prog 63) [1,1,0,1,0] (aq Tryd.prog R 16 0 Rd.top (af Tryd.prog 63) Q [Kont.blk 0,Kont.seq [1,1,1]]) (St.mk [(0,int i64 (n:Int)),(3,sl 0 0 n n true 1),(4,int i64 0)] [cells false (n*1) fun (j:Nat)=>int i64 0] g)) (fun _=>by kernel_rfl) ⟨by omega,by omega,by omega,by omega,?_⟩
 refine(bg (by kernel_rfl) (fun (i:Nat)=>⟨[(0,int i64 (n:Int)),(3,sl 0 0 n n true 1),(4,.int .i64 i)],[.cells false (n*1) (ab (opC n i))],g⟩) (fun (i:Nat)=>(i<=n)) (fun (i:Nat)=>(n-i)) 0 (aX ⟨Le.refl _,Le.refl _,(Le.of_eq (by kernel_rfl)),trivial⟩ ⟨?_,trivial⟩ rfl) ?_ (fun i hi=>?_))
 ·exact⟨rfl,Nat.le_refl _,fun j _=>Le.of_eq (by show AV.int .i64 0=AV.int .i64 _;rw[oh,if_neg (by omega)])⟩
 ·omega
 ·rcases Nat.lt_or_ge i n with hlt|hge
  ·refine vcQ [] (lkL [(3,[0,3,4,9]),(5,[0,3,4]),(4,[0,3,4])]) (fun _=>[]) (fun Q=>(fun (u1:Int)=>(fun (u2:Int)=>(decide (u1<u2)=true->(0<=u1/\u1<u2)/\i+1<=n*1/\(-9223372036854775808<=u1+1/\u1+1<=9223372036854775807)/\Q AEx.normal (St.mk [(0,int i64 u2),(3,sl 0 0 n n true 1),(4,int i64 (u1+1))] [cells false (n*1) (ah (ab (opC n i)) i 1 fun (x:Nat)=>int i64 3)] g))/\(decide (u1<u2)=false->Q (AEx.exit 0) (St.mk [(0,int i64 u2),(3,sl 0 0 n n true 1),(4,int i64 u1),(9,AV.bool (decide (u1<u2)))] [cells false (n*1) fun (a:Nat)=>ab (opC n i) a] g))) ((n:Int))) ((i:Int))) (fun _=>by kernel_rfl) ⟨fun c1=>have c1:(i:Int)<(n:Int):=(of_decide_eq_true c1);⟨by omega,by omega,by omega,?_⟩,fun c1=>have c1:¬(i:Int)<(n:Int):=(of_decide_eq_false c1);?_⟩
   ·refine(aL (i+1) (aX ⟨Le.refl _,Le.refl _,(Le.of_eq (by kernel_rfl)),trivial⟩ ⟨?_,trivial⟩ rfl) ?_ ?_)
    ·exact⟨rfl,Nat.le_refl _,fun j _=>Le.of_eq (yh.trans (by rfl))⟩
    ·omega
    ·omega
   ·exfalso;omega
  ·have hie:i=n:=by omega
   subst hie
   refine vcQ [] (lkL [(3,[0,3,4,9]),(5,[0,3,4]),(4,[0,3,4])]) (fun _=>[]) (fun Q=>(fun (u1:Int)=>(decide (u1<u1)=true->(0<=u1/\u1<u1)/\i+1<=i*1/\(-9223372036854775808<=u1+1/\u1+1<=9223372036854775807)/\Q AEx.normal (St.mk [(0,int i64 u1),(3,sl 0 0 i i true 1),(4,int i64 (u1+1))] [cells false (i*1) (ah (ab (opC i i)) i 1 fun (x:Nat)=>int i64 3)] g))/\(decide (u1<u1)=false->Q (AEx.exit 0) (St.mk [(0,int i64 u1),(3,sl 0 0 i i true 1),(4,int i64 u1),(9,AV.bool (decide (u1<u1)))] [cells false (i*1) fun (a:Nat)=>ab (opC i i) a] g))) ((i:Int))) (fun _=>by kernel_rfl) ⟨fun c1=>have c1:(i:Int)<(i:Int):=(of_decide_eq_true c1);⟨by omega,by omega,by omega,?_⟩,fun c1=>have c1:¬(i:Int)<(i:Int):=(of_decide_eq_false c1);?_⟩
   all_goals first|(exfalso;omega)|skip
   refine⟨_,To.refl _,vcQ [] (lkL [(6,[2])]) (fun _=>[]) (fun Q=>Q AEx.ret (St.mk [(2,sl 0 0 i i true 1)] [cells false (i*1) fun (a:Nat)=>ab (opC i i) a] g)) (fun _=>by kernel_rfl) (?_)⟩
   show bw Tryd.prog R 0 _ _ _ _ .ret _
   refine dh (.sl 0 0 i i true 1) _ rfl trivial (aX ⟨Le.sl_ow (by omega),trivial⟩ (nr _) rfl)
def db (s:Step):Int:=if s.rule = -1 then 1 else 2
def dy (x:Int)(v:List Int)(l:List Int):List Int:=l.foldl (fun v a=>v.set a.toNat x) v
def ey (v:List Int)(s:Step):List Int:=dy (db s) v s.atoms.l
theorem jQ {x:Int}:∀{l v:List Int},(dy x v l).length=v.length
 |[],_=>rfl
 |a::l,v=>by
  show(dy x (v.set a.toNat x) l).length=_
  rw[jQ,List.length_set]
theorem yj {x:Int}{v l:List Int}{i:Nat}(h:i<l.length):dy x v (l.take (i+1))=(dy x v (l.take i)).set (l.getD i 0).toNat x:=by
 unfold dy
 rw[List.take_add_one,List.foldl_append,List.getElem?_eq_getElem h,List.getD_eq_getElem?_getD,List.getElem?_eq_getElem h]
 rfl
theorem rP {v:List Int}{a:Nat}{x:Int}(ha:a<v.length){c:Nat}:ah (ab v) a 1 (fun _=>.int .i64 x) c=ab (v.set a x) c:=by
 rw[cL]
 unfold ab
 rw[List.getD_eq_getElem?_getD,List.getD_eq_getElem?_getD,List.getElem?_set]
 by_cases h:a=c
 ·subst h
  rw[if_pos (by omega),if_pos rfl,if_pos ha]
  rfl
 ·rw[if_neg (by omega),if_neg h]
theorem yk {v:List Int}{a:Nat}{x y:Int}(ha:a<v.length){c:Nat}:ah (ah (ab v) a 1 (fun _=>.int .i64 y)) a 1 (fun _=>.int .i64 x) c=ab (v.set a x) c:=by
 rw[<-rP ha,cL,cL,cL]
 split
 ·rfl
 ·rfl
theorem ym (R:Res)(v:List Int)(s:Step)(hv:0<v.length/\v.length<1000000)(hl:s.atoms.l.length<1000000)(ha:∀i,i<s.atoms.l.length->0<=s.atoms.l.getD i 0/\s.atoms.l.getD i 0<v.length)(g:R.σ):Does Tryd.prog R 65 [.ow true 0 v.length 1,cX s] [.cells false (v.length*1) (ab v)] g (.ret (.ow true 1 v.length 1)) [.cells false (v.length*1) (ab v),.cells false (v.length*1) (ab (ey v s))] g:=by
 have hroom:aG=140737488355328:=rfl
 refine az (nt:=33) (rs:=[.tmp 4]) (k0:=1) (by kernel_rfl) (by kernel_rfl) (by kernel_rfl) rfl ?_
 refine vcQ [] (lkL [(0,[0,3]),(1,[0,3]),(2,[0,3,5])]) (lkL [(1,[(1,ROrc.val (Orc.obj (ab v)))])]) (fun Q=>(fun (u1:Nat)=>0<1/\u1*8<=aG/\u1<=aG/\v.length*1<=v.length*1/\(∀(c:Nat),c<u1*1->ab v c=ab v ((c-0)/1*1+(c-0)%1))/\Wp Tryd.prog R 33 1 Rd.top (af Tryd.prog 65) [1,1,0,1,0] (aq Tryd.prog R 33 1 Rd.top (af Tryd.prog 65) Q [Kont.blk 0,Kont.seq [1,1,1]]) (St.mk [(0,ow true 2 u1 1),(3,ref 1 0),(5,int i64 0)] [cells false (v.length*1) fun (a:Nat)=>ab v a,cells false 2 (nth [int i64 s.rule,fz s.atoms.2 1 (s.atoms.l.length) fun (i x:Nat)=>ab s.atoms.l i]),cells false (u1*1) fun (a:Nat)=>ab v a] g)) (0+v.length)) (fun _=>by kernel_rfl) ⟨by omega,by omega,by omega,by omega,?_,?_⟩
 ·intro c hc
  show _=ab v ((c-0)/1*1+(c-0)%1)
  rw[show(c-0)/1*1+(c-0)%1=c by omega]
 rw[Nat.zero_add]
 refine(bg (by kernel_rfl) (fun (i:Nat)=>⟨[(0,ow true 2 (v.length) 1),(3,ref 1 0),(5,.int .i64 i)],[.cells false (v.length*1) (ab v),.cells false 2 (nth [.int .i64 s.rule,ap s.atoms]),.cells false (v.length*1) (ab (dy (db s) v (s.atoms.l.take i)))],g⟩) (fun (i:Nat)=>(i<=s.atoms.l.length)) (fun (i:Nat)=>(s.atoms.l.length-i)) 0 (aX ⟨Le.refl _,Le.refl _,(Le.of_eq (by kernel_rfl)),trivial⟩ ⟨LeO.rflc,LeO.rflc,LeO.rflc,trivial⟩ rfl) ?_ (fun i hi=>?_))
 ·exact Nat.zero_le _
 ·rcases Nat.lt_or_ge i s.atoms.l.length with hlt|hge
  ·have hm:=ha i hlt
   have hal:=jQ (x:=db s) (l:=s.atoms.l.take i) (v:=v)
   have hs:=yj (x:=db s) (v:=v) hlt
   refine vcQ [] (lkL [(3,[0,3,5,12]),(5,[0,3,5]),(6,[0,3,5,24]),(7,[0,3,5]),(4,[0,3,5])]) (fun _=>[]) (fun Q=>(fun (u1:Int)=>(fun (u2:AObj)=>(fun (u3:Int)=>(fun (u4:Int)=>(fun (u5:AObj)=>(fun (u6:List Int)=>(fun (u7:Nat)=>(fun (u8:List (Nat × AV))=>2<=2/\(decide (u4<u1)=true->2<=2/\(0<=u4/\u4<u1)/\1<=1/\(0<=u3/\u3<(v.length:Int))/\u3.toNat+1<=u7/\1<=2/\((s.rule == -1)=true->2<=2/\(0<=u4/\u4<u1)/\1<=1/\(0<=u3/\u3<(v.length:Int))/\u3.toNat+1<=u7/\(-9223372036854775808<=u4+1/\u4+1<=9223372036854775807)/\Q AEx.normal (St.mk u8 [u5,u2,cells false u7 (ah (ah (ab u6) (u3.toNat) 1 fun (x:Nat)=>int i64 2) (u3.toNat) 1 fun (x:Nat)=>int i64 1)] g))/\((s.rule == -1)=false->(-9223372036854775808<=u4+1/\u4+1<=9223372036854775807)/\Q AEx.normal (St.mk u8 [u5,u2,cells false u7 (ah (ab u6) (u3.toNat) 1 fun (x:Nat)=>int i64 2)] g)))/\(decide (u4<u1)=false->Q (AEx.exit 0) (St.mk [(0,ow true 2 (v.length) 1),(3,ref 1 0),(5,int i64 u4),(12,AV.bool (decide (u4<u1)))] [u5,u2,cells false u7 fun (a:Nat)=>ab u6 a] g))) ([(0,ow true 2 (v.length) 1),(3,ref 1 0),(5,int i64 (u4+1))])) (v.length*1)) (dy (db s) v (List.take i s.atoms.l))) (cells false (v.length*1) fun (a:Nat)=>ab v a)) ((i:Int))) (s.atoms.l.getD i 0)) (cells false 2 (nth [int i64 s.rule,fz s.atoms.2 1 (s.atoms.l.length) fun (i x:Nat)=>ab s.atoms.l i]))) ((s.atoms.l.length:Int))) (fun _=>by kernel_rfl) ⟨by omega,fun c1=>have c1:(i:Int)<(s.atoms.l.length:Int):=(of_decide_eq_true c1);⟨by omega,by omega,by omega,by omega,by omega,by omega,fun c2=>have c2:s.rule = -1:=(beq_iff_eq.mp c2);⟨by omega,by omega,by omega,by omega,by omega,by omega,?_⟩,fun c2=>have c2:¬s.rule = -1:=(beq_eq_false_iff_ne.mp c2);⟨by omega,?_⟩⟩,fun c1=>have c1:¬(i:Int)<(s.atoms.l.length:Int):=(of_decide_eq_false c1);?_⟩
   ·have hx:db s=1:=if_pos c2
    rw[hx] at hs hal ⊢
    refine(aL (i+1) (aX ⟨Le.refl _,Le.refl _,(Le.of_eq (by kernel_rfl)),trivial⟩ ⟨LeO.rflc,LeO.rflc,?_,trivial⟩ rfl) ?_ ?_)
    ·exact⟨rfl,Nat.le_refl _,fun j _=>by
      rw[hs]
      exact Le.of_eq (yk (by omega))⟩
    ·omega
    ·omega
   ·have hx:db s=2:=if_neg c2
    rw[hx] at hs hal ⊢
    refine(aL (i+1) (aX ⟨Le.refl _,Le.refl _,(Le.of_eq (by kernel_rfl)),trivial⟩ ⟨LeO.rflc,LeO.rflc,?_,trivial⟩ rfl) ?_ ?_)
    ·exact⟨rfl,Nat.le_refl _,fun j _=>by
      rw[hs]
      exact Le.of_eq (rP (by omega))⟩
    ·omega
    ·omega
   ·exfalso;omega
  ·have hie:i=s.atoms.l.length:=by omega
   subst hie
   rw[List.take_length]
   refine vcQ [] (lkL [(3,[0,3,5,12]),(5,[0,3,5]),(6,[0,3,5,24]),(7,[0,3,5]),(4,[0,3,5])]) (fun _=>[]) (fun Q=>(fun (u1:Int)=>(fun (u2:Int)=>(fun (u3:AObj)=>(fun (u4:AObj)=>(fun (u5:Nat)=>(fun (u6:List (Nat × AV))=>2<=2/\(decide (u1<u1)=true->2<=2/\(0<=u1/\u1<u1)/\1<=1/\(0<=u2/\u2<(v.length:Int))/\u2.toNat+1<=u5/\1<=2/\((s.rule == -1)=true->2<=2/\(0<=u1/\u1<u1)/\1<=1/\(0<=u2/\u2<(v.length:Int))/\u2.toNat+1<=u5/\(-9223372036854775808<=u1+1/\u1+1<=9223372036854775807)/\Q AEx.normal (St.mk u6 [u4,u3,cells false u5 (ah (ah (ab (dy (db s) v s.atoms.l)) (u2.toNat) 1 fun (x:Nat)=>int i64 2) (u2.toNat) 1 fun (x:Nat)=>int i64 1)] g))/\((s.rule == -1)=false->(-9223372036854775808<=u1+1/\u1+1<=9223372036854775807)/\Q AEx.normal (St.mk u6 [u4,u3,cells false u5 (ah (ab (dy (db s) v s.atoms.l)) (u2.toNat) 1 fun (x:Nat)=>int i64 2)] g)))/\(decide (u1<u1)=false->Q (AEx.exit 0) (St.mk [(0,ow true 2 (v.length) 1),(3,ref 1 0),(5,int i64 u1),(12,AV.bool (decide (u1<u1)))] [u4,u3,cells false u5 fun (a:Nat)=>ab (dy (db s) v s.atoms.l) a] g))) ([(0,ow true 2 (v.length) 1),(3,ref 1 0),(5,int i64 (u1+1))])) (v.length*1)) (cells false (v.length*1) fun (a:Nat)=>ab v a)) (cells false 2 (nth [int i64 s.rule,fz s.atoms.2 1 (s.atoms.l.length) fun (i x:Nat)=>ab s.atoms.l i]))) (s.atoms.l.getD (s.atoms.l.length) 0)) ((s.atoms.l.length:Int))) (fun _=>by kernel_rfl) ⟨by omega,fun c1=>have c1:(s.atoms.l.length:Int)<(s.atoms.l.length:Int):=(of_decide_eq_true c1);⟨by omega,by omega,by omega,by omega,by omega,by omega,fun c2=>have c2:s.rule = -1:=(beq_iff_eq.mp c2);⟨by omega,by omega,by omega,by omega,by omega,by omega,?_⟩,fun c2=>have c2:¬s.rule = -1:=(beq_eq_false_iff_ne.mp c2);⟨by omega,?_⟩⟩,fun c1=>have c1:¬(s.atoms.l.length:Int)<(s.atoms.l.length:Int):=(of_decide_eq_false c1);?_⟩
   all_goals first|(exfalso;omega)|skip
   refine⟨_,To.refl _,vcQ [] (lkL [(8,[4])]) (fun _=>[]) (fun Q=>Q AEx.ret (St.mk [(4,ow true 2 (v.length) 1)] [cells false (v.length*1) fun (a:Nat)=>ab v a,cells false 2 (nth [int i64 s.rule,fz s.atoms.2 1 (s.atoms.l.length) fun (i x:Nat)=>ab s.atoms.l i]),cells false (v.length*1) fun (a:Nat)=>ab (dy (db s) v s.atoms.l) a] g)) (fun _=>by kernel_rfl) (?_)⟩
   show bw Tryd.prog R 1 _ _ _ _ .ret _
   refine dh (.ow true 2 v.length 1) _ rfl trivial (a9 (s':=⟨[(0,.ow true 1 v.length 1)],[.cells false (v.length*1) (ab v),.cells false (v.length*1) (ab (ey v s))],g⟩) [0,2] 3 rfl rfl rfl rfl rfl ⟨Le.refl _,trivial⟩ ⟨LeO.refl _,LeO.refl _,trivial⟩)
def lz (n:Nat)(l:List Int):List Bool:=l.foldl (fun b a=>b.set a.toNat true) (List.replicate n false)
theorem rQ:∀{l:List Int} {b:List Bool},(l.foldl (fun (b:List Bool) (a:Int)=>b.set a.toNat true) b).length=b.length
 |[],_=>rfl
 |a::l,b=>by
  show(l.foldl _ (b.set a.toNat true)).length=_
  rw[rQ,List.length_set]
theorem yn {n:Nat}{l:List Int}:(lz n l).length=n:=by
 unfold lz
 rw[rQ,List.length_replicate]
theorem rR {b:List Bool}{a:Nat}(ha:a<b.length){c:Nat}:ah (aF b) a 1 (fun _=>.bool true) c=aF (b.set a true) c:=by
 rw[cL]
 unfold aF
 rw[List.getD_eq_getElem?_getD,List.getD_eq_getElem?_getD,List.getElem?_set]
 by_cases h:a=c
 ·subst h
  rw[if_pos (by omega),if_pos rfl,if_pos ha]
  rfl
 ·rw[if_neg (by omega),if_neg h]
theorem yp {n j:Nat}:aF (lz n []) j=.bool false:=by
 show AV.bool _=_
 congr 1
 show(List.replicate n false).getD j false=false
 rw[List.getD_eq_getElem?_getD,List.getElem?_replicate]
 split <;> rfl
def cu (v:List Int)(s:List Bool)(r:Rule):List Bool:=if upholdsR v s r then s.set r.head.toNat false else s
def bW (v:List Int)(s:List Bool)(l:List Rule):List Bool:=l.foldl (cu v) s
def grCh (v:List Int):List Rule->List Bool->Bool
 |[],_=>false
 |r::l,s=>upholdsR v s r||grCh v l (cu v s r)
theorem yq {v:List Int}{s:List Bool}{r:Rule}:(cu v s r).length=s.length:=by
 unfold cu
 split
 ·exact List.length_set
 ·rfl
theorem lA {v:List Int}:∀{l:List Rule} {s:List Bool},(bW v s l).length=s.length
 |[],_=>rfl
 |r::l,s=>by
  show(bW v (cu v s r) l).length=_
  rw[lA,yq]
theorem rS {v:List Int}:∀{l m:List Rule} {s:List Bool},grCh v (l++m) s=(grCh v l s||grCh v m (bW v s l))
 |[],_,_=>by simp[grCh,bW]
 |r::l,m,s=>by
  show(upholdsR v s r||grCh v (l++m) (cu v s r))=((upholdsR v s r||grCh v l (cu v s r))||grCh v m (bW v (cu v s r) l))
  rw[rS,Bool.or_assoc]
theorem yr {v:List Int}{s:List Bool}{l:List Rule}{i:Nat}(h:i<l.length):bW v s (l.take (i+1))=cu v (bW v s (l.take i)) (l.getD i default):=iM (cu v) s l default h
theorem yu {v:List Int}{s:List Bool}{l:List Rule}{i:Nat}(h:i<l.length):grCh v (l.take (i+1)) s=(grCh v (l.take i) s||upholdsR v (bW v s (l.take i)) (l.getD i default)):=by
 rw[List.take_add_one,rS,List.getElem?_eq_getElem h,List.getD_eq_getElem?_getD,List.getElem?_eq_getElem h]
 show(_||(upholdsR v _ _||false))=_
 rw[Bool.or_false]
 rfl
def cS (s:List Bool):Nat:=s.count true
theorem rT (s:List Bool):cS s<=s.length:=List.count_le_length
theorem rU:∀{s:List Bool} {i:Nat},s.getD i false=true->cS (s.set i false)+1=cS s
 |[],i,h=>by simp at h
 |b::s,0,h=>by
  have h:b=true:=by simpa using h
  subst h
  show(false::s).count true+1=(true::s).count true
  simp
 |b::s,i+1,h=>by
  have ih:=rU (s:=s) (i:=i) (by simpa using h)
  unfold cS at ih ⊢
  rw[List.set_cons_succ,List.count_cons,List.count_cons]
  omega
theorem yv {v:List Int}{s:List Bool}{r:Rule}:cS (cu v s r)<=cS s/\(upholdsR v s r=true->cS (cu v s r)<cS s):=by
 unfold cu
 by_cases h:upholdsR v s r=true
 ·rw[if_pos h]
  have h2:s.getD r.head.toNat false=true:=by
   unfold upholdsR at h
   rw[Bool.and_eq_true] at h
   exact h.1
  have:=rU h2
  exact⟨by omega,fun _=>by omega⟩
 ·rw[if_neg h]
  exact⟨Nat.le_refl _,fun k=>absurd k h⟩
theorem oi {v:List Int}:∀{l:List Rule} {s:List Bool},cS (bW v s l)<=cS s/\(grCh v l s=true->cS (bW v s l)<cS s)/\(grCh v l s=false->bW v s l=s/\∀r,r∈l->upholdsR v s r=false)
 |[],_=>⟨Nat.le_refl _,fun h=>(by cases h),fun _=>⟨rfl,fun r h=>(by cases h)⟩⟩
 |r::l,s=>by
  obtain⟨a1,a2,a3⟩:=oi (v:=v) (l:=l) (s:=cu v s r)
  obtain⟨b1,b2⟩:=yv (v:=v) (s:=s) (r:=r)
  refine⟨Nat.le_trans a1 b1,fun h=>?_,fun h=>?_⟩
  ·have h:(upholdsR v s r||grCh v l (cu v s r))=true:=h
   rw[Bool.or_eq_true] at h
   rcases h with h|h
   ·exact Nat.lt_of_le_of_lt a1 (b2 h)
   ·exact Nat.lt_of_lt_of_le (a2 h) b1
  ·have h:(upholdsR v s r||grCh v l (cu v s r))=false:=h
   rw[Bool.or_eq_false_iff] at h
   have e:cu v s r=s:=if_neg (by rw[h.1];decide)
   obtain⟨c1,c2⟩:=a3 h.2
   rw[e] at c1 c2
   refine⟨?_,fun q hq=>?_⟩
   ·show bW v (cu v s r) l=s
    rw[e];exact c1
   ·rcases List.mem_cons.1 hq with rfl|hq
    ·exact h.1
    ·exact c2 q hq
def d8 (v:List Int)(p:Prg):Nat->List Bool->List Bool
 |0,s=>s
 |n+1,s=>if grCh v p.rules.l s then d8 v p n (bW v s p.rules.l) else s
def dU (v:List Int):List Bool:=v.map (fun x=>x==3)
def grR (v:List Int)(p:Prg):List Bool:=d8 v p (v.length+1) (dU v)
theorem jS (v:List Int):(dU v).length=v.length:=List.length_map _
def grO (v:List Int)(i:Nat):List Bool:=(dU v).take i++List.replicate (v.length-i) false
theorem ol {v:List Int}{i j:Nat}(hi:i<=v.length):(grO v i).getD j false=(decide (j<i)&&(v.getD j 0==3)):=by
 unfold grO dU
 rw[List.getD_eq_getElem?_getD,List.getElem?_append,List.length_take,List.length_map]
 by_cases h:j<i
 ·rw[if_pos (by omega),List.getElem?_take,if_pos h,List.getElem?_map,decide_eq_true h,List.getD_eq_getElem?_getD,List.getElem?_eq_getElem (by omega)]
  rfl
 ·rw[if_neg (by omega),decide_eq_false h,List.getElem?_replicate]
  split <;> rfl
theorem yw {v:List Int}:grO v v.length=dU v:=by
 unfold grO
 rw[Nat.sub_self,List.replicate_zero,List.append_nil,List.take_of_length_le (by rw[jS];exact Nat.le_refl _)]
theorem yx {v:List Int}{i c:Nat}(hi:i<v.length):ah (aF (grO v i)) i 1 (fun _=>.bool (v.getD i 0==3)) c=aF (grO v (i+1)) c:=by
 rw[cL]
 unfold aF
 rw[ol (by omega),ol (by omega)]
 by_cases h:i<=c/\c<i+1
 ·have:c=i:=by omega
  subst this
  rw[if_pos h,decide_eq_true (by omega)]
  rfl
 ·rw[if_neg h]
  congr 2
  exact decide_eq_decide.2 (by omega)
theorem yy {b:List Bool}{a:Nat}(ha:a<b.length){c:Nat}:ah (aF b) a 1 (fun _=>.bool false) c=aF (b.set a false) c:=by
 rw[cL]
 unfold aF
 rw[List.getD_eq_getElem?_getD,List.getD_eq_getElem?_getD,List.getElem?_set]
 by_cases h:a=c
 ·subst h
  rw[if_pos (by omega),if_pos rfl,if_pos ha]
  rfl
 ·rw[if_neg (by omega),if_neg h]
theorem rV {v:List Int}{p:Prg}:∀{n:Nat} {s:List Bool},(d8 v p n s).length=s.length
 |0,_=>rfl
 |n+1,s=>by
  show(if grCh v p.rules.l s then d8 v p n (bW v s p.rules.l) else s).length=_
  split
  ·rw[rV,lA]
  ·rfl
theorem rW {v:List Int}{p:Prg}:(grR v p).length=v.length:=by
 unfold grR
 rw[rV,jS]
def lB (v:List Int)(p:Prg)(x:List Bool × Bool):Prop:=x.1.length=v.length/\(x.2=true->∃f,cS x.1<f/\d8 v p f x.1=grR v p)/\(x.2=false->x.1=grR v p)
theorem yz (v:List Int)(p:Prg):lB v p (dU v,true):=
 ⟨jS v,fun _=>⟨v.length+1,Nat.lt_succ_of_le (by rw[<-jS v];exact rT _),rfl⟩,fun h=>(by cases h)⟩
theorem yA {v:List Int}{p:Prg}{s:List Bool}(h:lB v p (s,true)):lB v p (bW v s p.rules.l,grCh v p.rules.l s)/\(if grCh v p.rules.l s then cS (bW v s p.rules.l)+1 else 0)<cS s+1:=by
 obtain⟨h1,h2,_⟩:=h
 obtain⟨f,f1,f2⟩:=h2 rfl
 obtain⟨c1,c2,c3⟩:=oi (v:=v) (l:=p.rules.l) (s:=s)
 obtain⟨f,rfl⟩:∃k,f=k+1:=⟨f-1,by omega⟩
 have f1:cS s<f+1:=f1
 have f3:(if grCh v p.rules.l s then d8 v p f (bW v s p.rules.l) else s)=grR v p:=f2
 refine⟨⟨by rw[lA];exact h1,fun h=>⟨f,?_,?_⟩,fun h=>?_⟩,?_⟩
 ·have:=c2 h
  show cS (bW v s p.rules.l)<f
  omega
 ·have h:grCh v p.rules.l s=true:=h
  rw[if_pos h] at f3
  exact f3
 ·have h:grCh v p.rules.l s=false:=h
  rw[if_neg (by rw[h];decide)] at f3
  show bW v s p.rules.l=_
  rw[(c3 h).1,f3]
 ·split
  ·rename_i h
   have:=c2 h
   omega
  ·omega
theorem yB (R:Res)(v:List Int)(p:Prg)(hv:0<v.length/\v.length<1000000)(hpa:p.atoms=v.length)(hpl:p.rules.l.length<1000000)(hr:∀r,r∈p.rules.l->ct v.length r)(g:R.σ):Does Tryd.prog R 98 [.ow true 0 v.length 1,ay p] [.cells false (v.length*1) (ab v)] g (.ret (.ow true 1 (aV (grR v p) v.length).length 1)) [.cells false (v.length*1) (ab v),.cells false ((aV (grR v p) v.length).length*1) (ab (aV (grR v p) v.length))] g:=by
 have hroom:aG=140737488355328:=rfl
 have hN:=fun (R:Res) (s:List Bool) (hs:s.length=v.length) (g:R.σ)=>hs▸yg R s (by omega) g
 have hgl:(grR v p).length=v.length:=rW
 refine az (nt:=60) (rs:=[.tmp 4]) (k0:=1) (by kernel_rfl) (by kernel_rfl) (by kernel_rfl) rfl ?_
 refine vcQ [] (lkL [(0,[0,3]),(1,[0,3,5]),(2,[0,3,5,6])]) (fun _=>[]) (fun Q=>1<=2/\0<=p.atoms/\p.atoms<=p.atoms/\p.atoms<=140737488355328/\p.atoms.toNat*1<=aG/\Wp Tryd.prog R 60 1 Rd.top (af Tryd.prog 98) [1,1,0,1,0] (aq Tryd.prog R 60 1 Rd.top (af Tryd.prog 98) Q [Kont.blk 0,Kont.seq [1,1,1]]) (St.mk [(0,ow true 0 (v.length) 1),(3,ref 1 0),(5,sl 2 0 (p.atoms.toNat) (p.atoms.toNat) true 1),(6,int i64 0)] [cells false (v.length*1) fun (a:Nat)=>ab v a,cells false 2 (nth [int i64 p.atoms,ae p.rules]),cells false (p.atoms.toNat*1) fun (j:Nat)=>AV.bool false] g)) (fun _=>by kernel_rfl) ⟨by omega,by omega,by omega,by omega,by omega,?_⟩
 rw[show p.atoms.toNat=v.length by omega]
 refine bQ (aX (s':=⟨[(0,.ow true 0 v.length 1),(3,.ref 1 0),(5,.ow true 2 v.length 1),(6,.int .i64 0)],[.cells false (v.length*1) (ab v),.cells false 2 (nth [.int .i64 p.atoms,ae p.rules]),.cells false (v.length*1) (fun _=>.bool false)],g⟩) ?_ ?_ rfl) ?_
 ·exact⟨Le.refl _,Le.refl _,Le.sl_ow (by omega),Le.refl _,trivial⟩
 ·exact⟨LeO.refl _,LeO.refl _,LeO.refl _,trivial⟩
 refine(bg (by kernel_rfl) (fun (i:Nat)=>⟨[(0,ow true 0 (v.length) 1),(3,ref 1 0),(5,ow true 2 (v.length) 1),(6,.int .i64 i)],[.cells false (v.length*1) (ab v),.cells false 2 (nth [.int .i64 p.atoms,ae p.rules]),.cells false (v.length*1) (aF (grO v i))],g⟩) (fun (i:Nat)=>(i<=v.length)) (fun (i:Nat)=>(v.length-i)) 0 (aX ⟨Le.refl _,Le.refl _,Le.refl _,(Le.of_eq (by kernel_rfl)),trivial⟩ ⟨LeO.rflc,LeO.rflc,?_,trivial⟩ rfl) ?_ (fun i hi=>?_))
 ·exact⟨rfl,Nat.le_refl _,fun j _=>Le.of_eq (by
   show AV.bool false=AV.bool _
   rw[ol (by omega)]
   rfl)⟩
 ·omega
 ·rcases Nat.lt_or_ge i v.length with hlt|hge
  ·refine vcQ [] (lkL [(3,[0,3,5,6,16]),(5,[0,3,5,6]),(4,[0,3,5,6])]) (fun _=>[]) (fun Q=>(fun (u1:Int)=>(fun (u2:Nat)=>(fun (u3:AObj)=>1<=2/\(decide (u1<p.atoms)=true->(0<=u1/\u1<(v.length:Int))/\i+1<=u2/\(0<=u1/\u1<(v.length:Int))/\i+1<=u2/\(-9223372036854775808<=u1+1/\u1+1<=9223372036854775807)/\Q AEx.normal (St.mk [(0,ow true 0 (v.length) 1),(3,ref 1 0),(5,ow true 2 (v.length) 1),(6,int i64 (u1+1))] [cells false u2 fun (a:Nat)=>ab v a,u3,cells false u2 (ah (aF (grO v i)) i 1 fun (x:Nat)=>AV.bool (v.getD i 0==3))] g))/\(decide (u1<p.atoms)=false->Q (AEx.exit 0) (St.mk [(0,ow true 0 (v.length) 1),(3,ref 1 0),(5,ow true 2 (v.length) 1),(6,int i64 u1),(16,AV.bool (decide (u1<p.atoms)))] [cells false u2 fun (a:Nat)=>ab v a,u3,cells false u2 fun (a:Nat)=>aF (grO v i) a] g))) (cells false 2 (nth [int i64 p.atoms,ae p.rules]))) (v.length*1)) ((i:Int))) (fun _=>by kernel_rfl) ⟨by omega,fun c1=>have c1:(i:Int)<p.atoms:=(of_decide_eq_true c1);⟨by omega,by omega,by omega,by omega,by omega,?_⟩,fun c1=>have c1:¬(i:Int)<p.atoms:=(of_decide_eq_false c1);?_⟩
   ·refine(aL (i+1) (aX ⟨Le.refl _,Le.refl _,Le.refl _,(Le.of_eq (by kernel_rfl)),trivial⟩ ⟨LeO.rflc,LeO.rflc,?_,trivial⟩ rfl) ?_ ?_)
    ·exact⟨rfl,Nat.le_refl _,fun j _=>Le.of_eq (yx (by omega))⟩
    ·omega
    ·omega
   ·exfalso;omega
  ·have hie:i=v.length:=by omega
   subst hie
   rw[yw]
   refine vcQ [] (lkL [(3,[0,3,5,6,16]),(5,[0,3,5,6]),(4,[0,3,5,6])]) (fun _=>[]) (fun Q=>(fun (u1:Int)=>(fun (u2:Nat)=>(fun (u3:AObj)=>1<=2/\(decide (u1<p.atoms)=true->(0<=u1/\u1<u1)/\v.length+1<=u2/\(0<=u1/\u1<u1)/\v.length+1<=u2/\(-9223372036854775808<=u1+1/\u1+1<=9223372036854775807)/\Q AEx.normal (St.mk [(0,ow true 0 (v.length) 1),(3,ref 1 0),(5,ow true 2 (v.length) 1),(6,int i64 (u1+1))] [cells false u2 fun (a:Nat)=>ab v a,u3,cells false u2 (ah (aF (dU v)) (v.length) 1 fun (x:Nat)=>AV.bool (v.getD (v.length) 0==3))] g))/\(decide (u1<p.atoms)=false->Q (AEx.exit 0) (St.mk [(0,ow true 0 (v.length) 1),(3,ref 1 0),(5,ow true 2 (v.length) 1),(6,int i64 u1),(16,AV.bool (decide (u1<p.atoms)))] [cells false u2 fun (a:Nat)=>ab v a,u3,cells false u2 fun (a:Nat)=>aF (dU v) a] g))) (cells false 2 (nth [int i64 p.atoms,ae p.rules]))) (v.length*1)) ((v.length:Int))) (fun _=>by kernel_rfl) ⟨by omega,fun c1=>have c1:(v.length:Int)<p.atoms:=(of_decide_eq_true c1);⟨by omega,by omega,by omega,by omega,by omega,?_⟩,fun c1=>have c1:¬(v.length:Int)<p.atoms:=(of_decide_eq_false c1);?_⟩
   all_goals first|(exfalso;omega)|skip
   refine⟨_,To.refl _,vcQ [] (lkL [(6,[0,3,5,7])]) (fun _=>[]) (fun Q=>Wp Tryd.prog R 60 1 Rd.top (af Tryd.prog 98) [1,1,1,0,1,0] (aq Tryd.prog R 60 1 Rd.top (af Tryd.prog 98) Q [Kont.blk 2,Kont.seq [1,1,1,1]]) (St.mk [(0,ow true 0 (v.length) 1),(3,ref 1 0),(5,ow true 2 (v.length) 1),(7,AV.bool true)] [cells false (v.length*1) fun (a:Nat)=>ab v a,cells false 2 (nth [int i64 p.atoms,ae p.rules]),cells false (v.length*1) fun (a:Nat)=>aF (dU v) a] g)) (fun _=>by kernel_rfl) (?_)⟩
   refine(bg (by kernel_rfl) (fun (x:List Bool × Bool)=>⟨[(0,ow true 0 (v.length) 1),(3,ref 1 0),(5,ow true 2 (v.length) 1),(7,.bool x.2)],[.cells false (v.length*1) (ab v),.cells false 2 (nth [.int .i64 p.atoms,ae p.rules]),.cells false (v.length*1) (aF x.1)],g⟩) (fun (x:List Bool × Bool)=>(lB v p x)) (fun (x:List Bool × Bool)=>(if x.2 then cS x.1+1 else 0)) (dU v,true) (bh ⟨Le.refl _,Le.refl _,Le.refl _,Le.refl _,trivial⟩ rfl rfl) ?_ (fun x hi=>?_))
   ·exact yz v p
   ·obtain⟨s,ch⟩:=x
    have hok:=hi
    obtain⟨h1,h2,h3⟩:=hi
    simp only at h1 h2 h3
    cases ch with
    |false=>
     rw[h3 rfl]
     refine vcQ [[1,1,1,0,1,0,0,0,1,0]] (lkL [(7,[0,3,5,27])]) (fun _=>[]) (fun Q=>(fun (u1:St R.σ)=>(false=true->Wp Tryd.prog R 60 1 Rd.top (af Tryd.prog 98) [1,1,1,0,1,0,0,0,1,0] (aq Tryd.prog R 60 1 Rd.top (af Tryd.prog 98) Q [Kont.seq [1,1,1,0,1,0,0,1]]) u1)/\(false=false->Q (AEx.exit 2) u1)) (St.mk [(0,ow true 0 (v.length) 1),(3,ref 1 0),(5,ow true 2 (v.length) 1),(27,AV.bool false)] [cells false (v.length*1) fun (a:Nat)=>ab v a,cells false 2 (nth [int i64 p.atoms,ae p.rules]),cells false (v.length*1) fun (a:Nat)=>aF (grR v p) a] g)) (fun _=>by kernel_rfl) ⟨fun h=>(nomatch h),fun _=>?_⟩
     refine⟨_,To.refl _,vcQ [] (lkL [(16,[4])]) (lkL [(16,[(1,ROrc.call (ow true 3 ((aV (grR v p) (v.length)).length) 1) [cells false (v.length*1) fun (a:Nat)=>ab v a,cells false 2 (nth [int i64 p.atoms,ae p.rules]),cells false (v.length*1) fun (a:Nat)=>aF (grR v p) a,cells false ((aV (grR v p) (v.length)).length*1) (ab (aV (grR v p) (v.length)))] g)])]) (fun Q=>(fun (u1:List AObj)=>(fun (u2:AV)=>(true=true/\Does Tryd.prog R 85 [ow true 2 (v.length) 1] [cells false (v.length*1) fun (a:Nat)=>ab v a,cells false 2 (nth [int i64 p.atoms,ae p.rules]),cells false (v.length*1) fun (a:Nat)=>aF (grR v p) a] g (ret u2) u1 g)/\Q AEx.ret (St.mk [(4,u2)] u1 g)) (ow true 3 ((aV (grR v p) (v.length)).length) 1)) ([cells false (v.length*1) fun (a:Nat)=>ab v a,cells false 2 (nth [int i64 p.atoms,ae p.rules]),cells false (v.length*1) fun (a:Nat)=>aF (grR v p) a,cells false ((aV (grR v p) (v.length)).length*1) fun (a:Nat)=>ab (aV (grR v p) (v.length)) a])) (fun _=>by kernel_rfl) ⟨⟨rfl,(bz [2] 3 (fun R g=>hN R (grR v p) (by omega) g) rfl rfl rfl (by exact⟨⟨rfl,Nat.le_refl _,fun j hj=>(by first|exact au (by first|exact trivial|apply jP)|exact Le.of_eq (ly rfl).symm)⟩,trivial⟩) (by exact⟨by omega,trivial⟩) (by exact⟨Le.refl _,trivial⟩) (by exact(Le.refl _)) (by exact⟨LeO.rflc,LeO.rflc,⟨rfl,Nat.le_refl _,fun j hj=>(by first|exact aw (by first|exact trivial|apply jP)|exact Le.of_eq (ly rfl))⟩,⟨rfl,Nat.le_refl _,fun j hj=>(by first|exact aw (by first|exact trivial|apply bo)|exact Le.of_eq (bx rfl))⟩,trivial⟩))⟩,?_⟩⟩
     show bw Tryd.prog R 1 _ _ _ _ .ret _
     exact dh (.ow true 3 (aV (grR v p) v.length).length 1) _ rfl trivial (a9 (s':=⟨[(0,.ow true 1 (aV (grR v p) v.length).length 1)],[.cells false (v.length*1) (ab v),.cells false ((aV (grR v p) v.length).length*1) (ab (aV (grR v p) v.length))],g⟩) [0,3] 4 rfl rfl rfl rfl rfl ⟨Le.refl _,trivial⟩ ⟨LeO.refl _,LeO.refl _,trivial⟩)
    |true=>
     have hnx:=yA hok
     refine vcQ [[1,1,1,0,1,0,0,0,1,1]] (lkL [(7,[0,3,5,27]),(8,[0,3,5,7]),(9,[0,3,5,7,8])]) (fun _=>[]) (fun Q=>(fun (u1:List AObj)=>(true=true->Wp Tryd.prog R 60 1 Rd.top (af Tryd.prog 98) [1,1,1,0,1,0,0,1,0,1,1,0] (aq Tryd.prog R 60 1 Rd.top (af Tryd.prog 98) Q [Kont.blk 4,Kont.blk 3]) (St.mk [(0,ow true 0 (v.length) 1),(3,ref 1 0),(5,ow true 2 (v.length) 1),(7,AV.bool false),(8,int i64 0)] u1 g))/\(true=false->Wp Tryd.prog R 60 1 Rd.top (af Tryd.prog 98) [1,1,1,0,1,0,0,0,1,1] (aq Tryd.prog R 60 1 Rd.top (af Tryd.prog 98) Q [Kont.seq [1,1,1,0,1,0,0,1]]) (St.mk [(0,ow true 0 (v.length) 1),(3,ref 1 0),(5,ow true 2 (v.length) 1),(27,AV.bool true)] u1 g))) ([cells false (v.length*1) fun (a:Nat)=>ab v a,cells false 2 (nth [int i64 p.atoms,ae p.rules]),cells false (v.length*1) fun (a:Nat)=>aF s a])) (fun _=>by kernel_rfl) ⟨fun _=>?_,fun h=>(nomatch h)⟩
     refine(bg (by kernel_rfl) (fun (i:Nat)=>⟨[(0,ow true 0 (v.length) 1),(3,ref 1 0),(5,ow true 2 (v.length) 1),(7,.bool (grCh v (p.rules.l.take i) s)),(8,.int .i64 i)],[.cells false (v.length*1) (ab v),.cells false 2 (nth [.int .i64 p.atoms,ae p.rules]),.cells false (v.length*1) (aF (bW v s (p.rules.l.take i)))],g⟩) (fun (i:Nat)=>(i<=p.rules.l.length)) (fun (i:Nat)=>(p.rules.l.length-i)) 0 (aX ⟨Le.refl _,Le.refl _,Le.refl _,Le.refl _,(Le.of_eq (by kernel_rfl)),trivial⟩ ⟨LeO.rflc,LeO.rflc,LeO.rflc,trivial⟩ rfl) ?_ (fun i hi=>?_))
     ·exact Nat.zero_le _
     ·rcases Nat.lt_or_ge i p.rules.l.length with hlt|hge
      ·have hm:=hr _ (fc hlt)
       have hm1:=hm.1
       have hm2:=hm.2
       have hf:=yr (v:=v) (s:=s) hlt
       have hc:=yu (v:=v) (s:=s) hlt
       obtain⟨t,ht⟩:∃t,bW v s (p.rules.l.take i)=t:=⟨_,rfl⟩
       have htl:t.length=v.length:=by rw[<-ht,lA];exact h1
       have hS:=fun (R:Res) (g:R.σ)=>ye R v t (p.rules.l.getD i default) htl hm1 g
       simp only[htl] at hS
       rw[ht] at hf hc ⊢
       unfold cu upholdsR at hf
       unfold upholdsR at hc
       refine vcQ [] (lkL [(10,[0,3,5,7,8,32]),(12,[0,3,5,7,8,9]),(13,[0,3,5,7,8,9,54]),(14,[0,3,5,8]),(15,[0,3,5,7,8]),(11,[0,3,5,7,8])]) (lkL [(13,[(12,ROrc.kcall (AV.bool (dJ v t (p.rules.l.getD i default))))])]) (fun Q=>(fun (u1:List AObj)=>(fun (u2:Rule)=>(fun (u3:Int)=>(fun (u4:Bool)=>(fun (u5:Int)=>(fun (u6:AV)=>(fun (u7:AV)=>2<=2/\(decide (u5<u3)=true->2<=2/\(0<=u5/\u5<u3)/\1<=2/\(0<=u2.head/\u2.head<(v.length:Int))/\u2.head.toNat+1<=v.length*1/\(u4=true->2<=2)/\(u4=true->0<=u5/\u5<u3)/\(u4=true->2<=2)/\(u4=true->true=true/\Does Tryd.prog R 117 [u6,bK u2,u7] u1 g (ret (AV.bool (dJ v t u2))) u1 g)/\((bif u4 then dJ v t u2 else false)=true->(0<=u2.head/\u2.head<(v.length:Int))/\u2.head.toNat+1<=v.length*1/\(-9223372036854775808<=u5+1/\u5+1<=9223372036854775807)/\Q AEx.normal (St.mk [(0,u6),(3,ref 1 0),(5,u7),(7,AV.bool true),(8,int i64 (u5+1))] [cells false (v.length*1) fun (a:Nat)=>ab v a,cells false 2 (nth [int i64 p.atoms,ae p.rules]),cells false (v.length*1) (ah (aF t) (u2.head.toNat) 1 fun (x:Nat)=>AV.bool false)] g))/\((bif u4 then dJ v t u2 else false)=false->(-9223372036854775808<=u5+1/\u5+1<=9223372036854775807)/\Q AEx.normal (St.mk [(0,u6),(3,ref 1 0),(5,u7),(7,AV.bool (grCh v (List.take i p.rules.l) s)),(8,int i64 (u5+1))] u1 g)))/\(decide (u5<u3)=false->Q (AEx.exit 4) (St.mk [(0,u6),(3,ref 1 0),(5,u7),(7,AV.bool (grCh v (List.take i p.rules.l) s)),(8,int i64 u5),(32,AV.bool (decide (u5<u3)))] u1 g))) (ow true 2 (v.length) 1)) (ow true 0 (v.length) 1)) ((i:Int))) (t.getD (u2.head.toNat) false)) ((p.rules.l.length:Int))) (p.rules.l.getD i default)) ([cells false (v.length*1) fun (a:Nat)=>ab v a,cells false 2 (nth [int i64 p.atoms,ae p.rules]),cells false (v.length*1) fun (a:Nat)=>aF t a])) (fun _=>by kernel_rfl) ⟨by omega,fun c1=>have c1:(i:Int)<(p.rules.l.length:Int):=(of_decide_eq_true c1);⟨by omega,by omega,by omega,by omega,by omega,by omega,by omega,by omega,(fun hgd=>⟨rfl,(bz [0,2] 3 (fun R g=>hS R g) rfl rfl rfl (by exact⟨⟨rfl,Nat.le_refl _,fun j hj=>(by first|exact au (by first|exact trivial|apply bo)|exact Le.of_eq (bx rfl).symm)⟩,⟨rfl,Nat.le_refl _,fun j hj=>(by first|exact au (by first|exact trivial|apply jP)|exact Le.of_eq (ly rfl).symm)⟩,trivial⟩) (by exact⟨by omega,by omega,trivial⟩) (by exact⟨Le.refl _,au (by exact⟨⟨trivial,trivial⟩,trivial⟩),Le.refl _,trivial⟩) (by exact aw (by exact trivial)) (by exact⟨⟨rfl,Nat.le_refl _,fun j hj=>(by first|exact aw (by first|exact trivial|apply bo)|exact Le.of_eq (bx rfl))⟩,LeO.rflc,⟨rfl,Nat.le_refl _,fun j hj=>(by first|exact aw (by first|exact trivial|apply jP)|exact Le.of_eq (ly rfl))⟩,trivial⟩))⟩),fun c2=>have c2:t.getD ((p.rules.l.getD i default).head.toNat) false=true/\dJ v t (p.rules.l.getD i default)=true:=⟨(cV c2).1,(cV c2).2⟩;⟨by omega,by omega,by omega,?_⟩,fun c2=>have c2:t.getD ((p.rules.l.getD i default).head.toNat) false=false∨dJ v t (p.rules.l.getD i default)=false:=((fB c2).imp (fun h=>h) (fun h=>h));⟨by omega,?_⟩⟩,fun c1=>have c1:¬(i:Int)<(p.rules.l.length:Int):=(of_decide_eq_false c1);?_⟩
       ·rw[c2.1,c2.2,Bool.and_true,if_pos rfl] at hf
        rw[c2.1,c2.2,Bool.and_true,Bool.or_true] at hc
        refine(aL (i+1) (aX ⟨Le.refl _,Le.refl _,Le.refl _,(Le.of_eq ?_),(Le.of_eq (by kernel_rfl)),trivial⟩ ⟨LeO.rflc,LeO.rflc,?_,trivial⟩ rfl) ?_ ?_)
        ·show AV.bool _=AV.bool _
         rw[hc]
        ·exact⟨rfl,Nat.le_refl _,fun j _=>by
          rw[hf]
          exact Le.of_eq (yy (by omega))⟩
        ·omega
        ·omega
       ·have hb:(t.getD (p.rules.l.getD i default).head.toNat false&&dJ v t (p.rules.l.getD i default))=false:=by
         rcases c2 with b|b <;> rw[b] <;> simp
        rw[hb,if_neg (by decide)] at hf
        rw[hb,Bool.or_false] at hc
        refine(aL (i+1) (aX ⟨Le.refl _,Le.refl _,Le.refl _,(Le.of_eq ?_),(Le.of_eq (by kernel_rfl)),trivial⟩ ⟨LeO.rflc,LeO.rflc,?_,trivial⟩ rfl) ?_ ?_)
        ·show AV.bool _=AV.bool _
         rw[hc]
        ·exact⟨rfl,Nat.le_refl _,fun j _=>by
          rw[hf]
          exact Le.of_eq rfl⟩
        ·omega
        ·omega
       ·exfalso;omega
      ·have hie:i=p.rules.l.length:=by omega
       subst hie
       rw[List.take_length]
       have hbb:decide ((p.rules.l.length:Int)<(p.rules.l.length:Int))=false:=decide_eq_false (by omega)
       refine vcQ [[1,1,1,0,1,0,0,1,0,1,1,0,0,0,1,0]] (lkL [(10,[0,3,5,7,8,32])]) (fun _=>[]) (fun Q=>(fun (u1:Int)=>(fun (u2:St R.σ)=>2<=2/\(decide (u1<u1)=true->Wp Tryd.prog R 60 1 Rd.top (af Tryd.prog 98) [1,1,1,0,1,0,0,1,0,1,1,0,0,0,1,0] (aq Tryd.prog R 60 1 Rd.top (af Tryd.prog 98) Q [Kont.seq [1,1,1,0,1,0,0,1,0,1,1,0,0,1]]) u2)/\(decide (u1<u1)=false->Q (AEx.exit 4) u2)) (St.mk [(0,ow true 0 (v.length) 1),(3,ref 1 0),(5,ow true 2 (v.length) 1),(7,AV.bool (grCh v p.rules.l s)),(8,int i64 u1),(32,AV.bool (decide (u1<u1)))] [cells false (v.length*1) fun (a:Nat)=>ab v a,cells false 2 (nth [int i64 p.atoms,ae p.rules]),cells false (v.length*1) fun (a:Nat)=>aF (bW v s p.rules.l) a] g)) ((p.rules.l.length:Int))) (fun _=>by kernel_rfl) ⟨by omega,fun hcc=>(nomatch (hbb.symm.trans hcc)),fun _=>?_⟩
       refine⟨_,To.refl _,(aL (bW v s p.rules.l,grCh v p.rules.l s) (bh ⟨Le.refl _,Le.refl _,Le.refl _,Le.refl _,trivial⟩ rfl rfl) ?_ ?_)⟩
       ·exact hnx.1
       ·exact hnx.2
def fg (v:List Int)(r:Rule):Bool:=v.getD r.head.toNat 0==3&&dT v r
def ez (v:List Int)(p:Prg):Int:=aT (fg v) p.rules.l 0
def gm (v:List Int)(p:Prg):List Int:=aV (grR v p) v.length
def bf (v:List Int)(p:Prg):Stp:=if 0<=ez v p then⟨ez v p,[(p.rules.l.getD (ez v p).toNat default).head]⟩ else⟨-1,gm v p⟩
def cv (v:List Int)(p:Prg):Bool:=decide (0<=ez v p)||decide (0<(gm v p).length)
theorem yC (R:Res)(v:List Int)(p:Prg)(hv:0<v.length/\v.length<1000000)(hpa:p.atoms=v.length)(hpl:p.rules.l.length<1000000)(hr:∀r,r∈p.rules.l->ct v.length r)(g:R.σ):Does Tryd.prog R 64 [.ow true 0 v.length 1,ay p] [.cells false (v.length*1) (ab v)] g (.ret (.tup 2 (nth [.agg 2 (nth [.int .i64 (bf v p).rule,.ow true 1 (bf v p).atoms.length 1]),.bool (cv v p)]))) [.cells false (v.length*1) (ab v),.cells false ((bf v p).atoms.length*1) (ab (bf v p).atoms)] g:=by
 have hroom:aG=140737488355328:=rfl
 refine az (nt:=46) (rs:=[.cell 4 71,.tmp 5]) (k0:=1) (by kernel_rfl) (by kernel_rfl) (by kernel_rfl) rfl ?_
 refine vcQ [] (lkL [(0,[0,3,4]),(1,[0,3,4,6])]) (fun _=>[]) (fun Q=>Wp Tryd.prog R 46 1 Rd.top (af Tryd.prog 64) [1,0,1,0] (aq Tryd.prog R 46 1 Rd.top (af Tryd.prog 64) Q [Kont.blk 0,Kont.seq [1,1]]) (St.mk [(0,ow true 0 (v.length) 1),(3,ref 1 0),(4,ref 2 0),(6,int i64 0)] [cells false (v.length*1) fun (a:Nat)=>ab v a,cells false 2 (nth [int i64 p.atoms,ae p.rules]),cells false 2 (nth [int i64 0,fz Fz.nil 0 0 fun _ _=>any])] g)) (fun _=>by kernel_rfl) (?_)
 refine(bg (by kernel_rfl) (fun (i:Nat)=>⟨[(0,ow true 0 (v.length) 1),(3,ref 1 0),(4,ref 2 0),(6,.int .i64 i)],[cells false (v.length*1) fun (a:Nat)=>ab v a,cells false 2 (nth [int i64 p.atoms,ae p.rules]),cells false 2 (nth [int i64 0,fz Fz.nil 0 0 fun _ _=>any])],g⟩) (fun (i:Nat)=>(i<=p.rules.l.length/\ez v p=aT (fg v) (p.rules.l.drop i) i)) (fun (i:Nat)=>(p.rules.l.length-i)) 0 (bh ⟨Le.refl _,Le.refl _,Le.refl _,(Le.of_eq (by kernel_rfl)),trivial⟩ rfl rfl) ?_ (fun i hi=>?_))
 ·exact⟨Nat.zero_le _,rfl⟩
 ·obtain⟨h1,h2⟩:=hi
  rcases Nat.lt_or_ge i p.rules.l.length with hlt|hge
  ·have hm:=hr _ (fc hlt)
   have hm1:=hm.1
   have hm2:=hm.2
   rw[gG p.rules.l default hlt] at h2
   refine vcQ [] (lkL [(2,[0,3,4,6,13]),(4,[0,3,4,6,7]),(5,[0,3,4,6,7,31]),(6,[4,5]),(3,[0,3,4,6])]) (lkL [(4,[(6,ROrc.val (Orc.obj (nth [int i64 (p.rules.l.getD i default).head,al (p.rules.l.getD i default).body])))]),(5,[(9,ROrc.kcall (AV.bool (dT v (p.rules.l.getD i default))))]),(6,[(5,ROrc.val (Orc.obj (nth [int i64 (i:Int),sl 4 0 1 1 true 1])))])]) (fun Q=>(fun (u1:Rule)=>(fun (u2:List AObj)=>(fun (u3:Int)=>(fun (u4:Int)=>(fun (u5:Bool)=>(fun (u6:List AV)=>(fun (u7:List AV)=>(fun (u8:List AV)=>(fun (u9:AObj)=>(fun (u10:AObj)=>(fun (u11:AV)=>2<=2/\(decide (u4<u3)=true->2<=2/\(0<=u4/\u4<u3)/\2<=2/\2<=2/\(∀(c:Nat),c<2->nth u7 c=ah (nth u6) 0 2 (List.brecOn (motive:=fun (x:List AV)=>Nat->AV) u7 nth._f) c)/\1<=2/\(0<=u1.head/\u1.head<(v.length:Int))/\u1.head.toNat+1<=v.length*1/\(u5=true->2<=2)/\(u5=true->true=true/\Does Tryd.prog R 97 [u11,bK u1] u2 g (ret (AV.bool (dT v u1))) u2 g)/\((bif u5 then dT v u1 else false)=true->1<=2/\2<=2/\(∀(c:Nat),c<2->nth u8 c=ah (nth u6) 0 2 (List.brecOn (motive:=fun (x:List AV)=>Nat->AV) u8 nth._f) c)/\Q AEx.ret (St.mk [(4,ref 2 0),(5,AV.bool true)] [u9,u10,cells false 2 (nth u8),cells false 2 (nth u7),cells false 1 (ah (fun (j:Nat)=>int i64 0) 0 1 fun (x:Nat)=>int i64 u1.head)] g))/\((bif u5 then dT v u1 else false)=false->(-9223372036854775808<=u4+1/\u4+1<=9223372036854775807)/\Q AEx.normal (St.mk [(0,u11),(3,ref 1 0),(4,ref 2 0),(6,int i64 (u4+1))] u2 g)))/\(decide (u4<u3)=false->Q (AEx.exit 0) (St.mk [(0,u11),(3,ref 1 0),(4,ref 2 0),(6,int i64 u4),(13,AV.bool (decide (u4<u3)))] [u9,u10,cells false 2 (nth u6)] g))) (ow true 0 (v.length) 1)) (cells false 2 (nth [int i64 p.atoms,ae p.rules]))) (cells false (v.length*1) fun (a:Nat)=>ab v a)) ([int i64 u4,sl 4 0 1 1 true 1])) ([int i64 u1.head,al u1.body])) ([int i64 0,fz Fz.nil 0 0 fun _ _=>any])) (v.getD (u1.head.toNat) 0==3)) ((i:Int))) ((p.rules.l.length:Int))) ([cells false (v.length*1) fun (a:Nat)=>ab v a,cells false 2 (nth [int i64 p.atoms,ae p.rules]),cells false 2 (nth [int i64 0,fz Fz.nil 0 0 fun _ _=>any]),cells false 2 (nth [int i64 u1.head,al u1.body])])) (p.rules.l.getD i default)) (fun _=>by kernel_rfl) ⟨by omega,fun c1=>have c1:(i:Int)<(p.rules.l.length:Int):=(of_decide_eq_true c1);⟨by omega,by omega,by omega,by omega,(fun c hc=>match c,hc with|0,_=>(by kernel_rfl)|1,_=>(by kernel_rfl) ),by omega,by omega,by omega,by omega,(fun hgd=>⟨rfl,(bz [0] 4 (fun R g=>yd R (v) (p.rules.l.getD i default) (by omega) g) rfl rfl rfl (by exact⟨⟨rfl,Nat.le_refl _,fun j hj=>(by first|exact au (by first|exact trivial|apply bo)|exact Le.of_eq (bx rfl).symm)⟩,trivial⟩) (by exact⟨by omega,trivial⟩) (by exact⟨Le.refl _,au (by exact⟨⟨trivial,trivial⟩,trivial⟩),trivial⟩) (by exact aw (by exact trivial)) (by exact⟨⟨rfl,Nat.le_refl _,fun j hj=>(by first|exact aw (by first|exact trivial|apply bo)|exact Le.of_eq (bx rfl))⟩,LeO.rflc,LeO.rflc,LeO.rflc,trivial⟩))⟩),fun c2=>have c2:v.getD ((p.rules.l.getD i default).head.toNat) 0=3/\dT v (p.rules.l.getD i default)=true:=⟨(beq_iff_eq.mp (cV c2).1),(cV c2).2⟩;⟨by omega,by omega,(fun c hc=>match c,hc with|0,_=>(by kernel_rfl)|1,_=>(by kernel_rfl) ),?_⟩,fun c2=>have c2:¬v.getD ((p.rules.l.getD i default).head.toNat) 0=3∨dT v (p.rules.l.getD i default)=false:=((fB c2).imp (fun h=>(beq_eq_false_iff_ne.mp h)) (fun h=>h));⟨by omega,?_⟩⟩,fun c1=>have c1:¬(i:Int)<(p.rules.l.length:Int):=(of_decide_eq_false c1);?_⟩
   ·have hf:ez v p=i:=by
     rw[h2]
     exact if_pos (by unfold fg;rw[Bool.and_eq_true,beq_iff_eq];exact c2)
    have hn:bf v p=⟨i,[(p.rules.l.getD i default).head]⟩:=by
     unfold bf
     rw[hf,if_pos (by omega)]
     rfl
    have hb:cv v p=true:=by
     unfold cv
     rw[hf,decide_eq_true (by omega)]
     rfl
    rw[hn,hb]
    refine⟨_,To.refl _,?_⟩
    show bw Tryd.prog R 1 _ _ _ _ .ret _
    refine dh (.tup 2 (nth [.agg 2 (nth [.int .i64 i,.sl 4 0 1 1 true 1]),.bool true])) _ rfl (by exact⟨by decide,trivial⟩) (a9 [0,4] 5 rfl rfl rfl rfl rfl ⟨Le.tup (fun j hj=>match j,hj with|0,_=>Le.agg (fun j hj=>match j,hj with|0,_=>Le.refl _|1,_=>Le.sl_ow (by decide))|1,_=>Le.refl _),trivial⟩ ⟨LeO.refl _,LeO.cells (fun j hj=>match j,hj with|0,_=>rfl),trivial⟩)
   ·have hnf:fg v (p.rules.l.getD i default)=false:=by
     unfold fg
     rw[Bool.and_eq_false_iff,beq_eq_false_iff_ne]
     exact c2
    have h3:ez v p=aT (fg v) (p.rules.l.drop (i+1)) (i+1):=by
     rw[h2]
     exact if_neg (by rw[hnf];decide)
    refine(aL (i+1) (a9 [0,1,2] 4 rfl rfl rfl rfl rfl ⟨Le.refl _,Le.refl _,Le.refl _,Le.refl _,trivial⟩ ⟨?_,⟨rfl,Nat.le_refl _,fun j hj=>match j,hj with|0,_=>(Le.refl _)|1,_=>(Le.refl _) ⟩,⟨rfl,Nat.le_refl _,fun j hj=>match j,hj with|0,_=>(Le.refl _)|1,_=>(Le.refl _) ⟩,trivial⟩) ?_ ?_)
    ·exact⟨rfl,Nat.le_refl _,fun j _=>Le.of_eq rfl⟩
    ·exact⟨by omega,h3⟩
    ·omega
   ·exfalso;omega
  ·have hie:i=p.rules.l.length:=by omega
   subst hie
   rw[List.drop_length] at h2
   have hf:ez v p = -1:=h2
   have hn:bf v p=⟨-1,gm v p⟩:=by
    unfold bf
    rw[hf,if_neg (by omega)]
   have hb:cv v p=decide (0<(gm v p).length):=by
    unfold cv
    rw[hf,decide_eq_false (by omega)]
    rfl
   rw[hn,hb]
   have hbb:decide ((p.rules.l.length:Int)<(p.rules.l.length:Int))=false:=decide_eq_false (by omega)
   have hul:gm v p=aV (grR v p) v.length:=rfl
   have hln:=og (s:=grR v p) (n:=v.length)
   refine vcQ [[1,0,1,0,0,0,1,0]] (lkL [(2,[0,3,4,6,13])]) (fun _=>[]) (fun Q=>(fun (u1:Int)=>(fun (u2:St R.σ)=>2<=2/\(decide (u1<u1)=true->Wp Tryd.prog R 46 1 Rd.top (af Tryd.prog 64) [1,0,1,0,0,0,1,0] (aq Tryd.prog R 46 1 Rd.top (af Tryd.prog 64) Q [Kont.seq [1,0,1,0,0,1]]) u2)/\(decide (u1<u1)=false->Q (AEx.exit 0) u2)) (St.mk [(0,ow true 0 (v.length) 1),(3,ref 1 0),(4,ref 2 0),(6,int i64 u1),(13,AV.bool (decide (u1<u1)))] [cells false (v.length*1) fun (a:Nat)=>ab v a,cells false 2 (nth [int i64 p.atoms,ae p.rules]),cells false 2 (nth [int i64 0,fz Fz.nil 0 0 fun _ _=>any])] g)) ((p.rules.l.length:Int))) (fun _=>by kernel_rfl) ⟨by omega,fun hcc=>(nomatch (hbb.symm.trans hcc)),fun _=>?_⟩
   refine⟨_,To.refl _,vcQ [] (lkL [(7,[4,8]),(8,[4,5])]) (lkL [(7,[(2,ROrc.call (ow true 3 ((aV (grR v p) (v.length)).length) 1) [cells false (v.length*1) fun (a:Nat)=>ab v a,cells false 2 (nth [int i64 p.atoms,ae p.rules]),cells false 2 (nth [int i64 0,fz Fz.nil 0 0 fun _ _=>any]),cells false ((aV (grR v p) (v.length)).length*1) (ab (aV (grR v p) (v.length)))] g),(5,ROrc.val (Orc.obj (nth [int i64 (-1),ow true 3 ((aV (grR v p) (v.length)).length) 1])))]),(8,[(5,ROrc.val (Orc.obj (nth [int i64 (-1),ow true 3 ((aV (grR v p) (v.length)).length) 1])))])]) (fun Q=>(fun (u1:Nat)=>(fun (u2:List AV)=>(fun (u3:List AV)=>(fun (u4:AObj)=>(fun (u5:AObj)=>(fun (u6:AObj)=>2<=2/\(true=true/\Does Tryd.prog R 98 [ow true 0 (v.length) 1,ay p] [u4,u5,cells false 2 (nth u2)] g (ret (ow true 3 u1 1)) [u4,u5,cells false 2 (nth u2),u6] g)/\2<=2/\(∀(c:Nat),c<2->nth u3 c=ah (nth u2) 0 2 (List.brecOn (motive:=fun (x:List AV)=>Nat->AV) u3 nth._f) c)/\Tables.follows Tryd.prog.toTables Departure.mixedOrders=true/\2<=2/\2<=2/\2<=2/\(∀(c:Nat),c<2->nth u3 c=ah (nth u2) 0 2 (List.brecOn (motive:=fun (x:List AV)=>Nat->AV) u3 nth._f) c)/\Q AEx.ret (St.mk [(4,ref 2 0),(5,AV.bool (decide ((u1:Int) > 0)))] [u4,u5,cells false 2 (nth u3),u6,cells false 2 (nth u3)] g)) (cells false (u1*1) fun (a:Nat)=>ab (aV (grR v p) (v.length)) a)) (cells false 2 (nth [int i64 p.atoms,ae p.rules]))) (cells false (v.length*1) fun (a:Nat)=>ab v a)) ([int i64 (-1),ow true 3 u1 1])) ([int i64 0,fz Fz.nil 0 0 fun _ _=>any])) ((aV (grR v p) (v.length)).length)) (fun _=>by kernel_rfl) ⟨by omega,⟨rfl,(bz [0] 3 (fun R g=>yB R (v) (p) (by omega) (by omega) (by omega) (by omega) g) rfl rfl rfl (by exact⟨⟨rfl,Nat.le_refl _,fun j hj=>(by first|exact au (by first|exact trivial|apply bo)|exact Le.of_eq (bx rfl).symm)⟩,trivial⟩) (by exact⟨by omega,trivial⟩) (by exact⟨Le.refl _,au (by exact⟨⟨trivial,trivial⟩,trivial⟩),trivial⟩) (by exact(Le.refl _)) (by exact⟨⟨rfl,Nat.le_refl _,fun j hj=>(by first|exact aw (by first|exact trivial|apply bo)|exact Le.of_eq (bx rfl))⟩,LeO.rflc,LeO.rflc,⟨rfl,Nat.le_refl _,fun j hj=>(by first|exact aw (by first|exact trivial|apply bo)|exact Le.of_eq (bx rfl))⟩,trivial⟩))⟩,by omega,(fun c hc=>match c,hc with|0,_=>(by kernel_rfl)|1,_=>(by kernel_rfl) ),by kernel_rfl,by omega,by omega,by omega,(fun c hc=>match c,hc with|0,_=>(by kernel_rfl)|1,_=>(by kernel_rfl) ),?_⟩⟩
   show bw Tryd.prog R 1 _ _ _ _ .ret _
   refine dh (.tup 2 (nth [.agg 2 (nth [.int .i64 (-1),.ow true 3 (aV (grR v p) v.length).length 1]),.bool (decide (((aV (grR v p) v.length).length:Int) > 0))])) _ rfl (by exact⟨by decide,trivial⟩) (a9 [0,3] 5 rfl rfl rfl rfl rfl ⟨Le.tup (fun j hj=>match j,hj with|0,_=>Le.agg (fun j hj=>match j,hj with|0,_=>Le.refl _|1,_=>Le.refl _)|1,_=>Le.of_eq ?_),trivial⟩ ⟨LeO.refl _,LeO.refl _,trivial⟩)
   show AV.bool _=AV.bool _
   congr 1
   exact decide_eq_decide.2 (by rw[hul];omega)
theorem yD {v:List Int}{p:Prg}:(bf v p).atoms.length<=v.length+1:=by
 unfold bf
 split
 ·simp
 ·have:=og (s:=grR v p) (n:=v.length)
  unfold gm
  show(aV _ _).length<=_
  omega
theorem rX (R:Res)(v:List Int)(p:Prg)(hv:0<v.length/\v.length<1000000)(hpa:p.atoms=v.length)(hpl:p.rules.l.length<1000000)(hr:∀r,r∈p.rules.l->ct v.length r)(g:R.σ):Does Tryd.prog R 64 [.ow true 0 v.length 1,ay p] [.cells false (v.length*1) (ab v)] g (.ret (.tup 2 (nth [cX (bV (bf v p)),.bool (cv v p)]))) [.cells false (v.length*1) (ab v)] g:=by
 refine fE (yC R v p hv hpa hpl hr g) ?_
 refine fG 1 [(0,.tup 2 (nth [cX (bV (bf v p)),.bool (cv v p)]))] (Nat.le_refl _) (by show 1<=2;omega) (fun i hi=>?_) ⟨av.tup (fun j hj=>?_),trivial⟩
 ·match i,hi with
  |0,_=>exact fun j hj=>bo _ _
 ·match j,hj with
  |0,_=>exact av.agg (fun j hj=>match j,hj with|0,_=>av.below trivial|1,_=>ri rfl (Nat.le_refl _))
  |1,_=>exact av.below trivial
def bb (l:List Stp):Nat->AV:=fun c=>bif Nat.beq (c%2) 0 then .int .i64 (l.getD (c/2) default).rule else ap ⟨(l.getD (c/2) default).atoms,.auto⟩
theorem lC {k:Nat}(l:List Stp)(j:Nat):Below k (bb l j):=by
 unfold bb
 cases Nat.beq (j%2) 0 <;> trivial
theorem iP {f:Nat->Nat}(h:True){l:List Stp}{j:Nat}:aY f (bb l j)=bb l j:=by
 unfold bb
 cases Nat.beq (j%2) 0 with
 |true=>rfl
 |false=>rfl
theorem rY {l:List Stp}{t:Stp}{s:Step}(hs:s=bV t){z:Nat->AV}{c:Nat}(hc:c<(l.length+1)*2):bb (l++[t]) c=bc 2 l.length (fun i j=>bb l (i*2+j)) (fun i j=>ah z 0 2 (nth [.int .i64 s.rule,ap s.atoms]) (0+i*2+j)) c:=by
 subst hs
 unfold bc
 by_cases h:c<l.length*2
 ·rw[if_pos h]
  show bb (l++[t]) c=bb l (c/2*2+c%2)
  rw[show c/2*2+c%2=c by omega]
  unfold bb
  rw[jG,if_neg (by omega)]
 ·rw[if_neg h]
  show bb (l++[t]) c=ah z 0 2 _ (0+(c-l.length*2)/2*2+(c-l.length*2)%2)
  rw[cL,if_pos (by omega)]
  unfold bb
  rw[jG,if_pos (by omega)]
  have hj:0+(c-l.length*2)/2*2+(c-l.length*2)%2-0=c%2:=by omega
  rw[hj]
  have:c%2<2:=Nat.mod_lt _ (by decide)
  match c%2,this with
  |0,_=>rfl
  |1,_=>rfl
def eA (p:Prg):Nat->List Int->List Stp->List Stp × List Int
 |0,v,l=>(l,v)
 |n+1,v,l=>if cv v p then eA p n (ey v (bV (bf v p))) (l++[bf v p]) else(l,v)
def bI (p:Prg)(n:Nat):List Stp × List Int:=eA p (n+1) (List.replicate n 3) []
def cH (v:List Int):Nat:=v.count 3
theorem yE {s:List Bool}{n:Nat}{a:Int}:a∈aV s n↔∃k:Nat,k<n/\s.getD k false=true/\a=k:=by
 unfold aV
 rw[List.mem_map]
 constructor
 ·rintro ⟨k,hk,rfl⟩
  obtain⟨h1,h2⟩:=List.mem_filter.1 hk
  exact⟨k,List.mem_range.1 h1,h2,rfl⟩
 ·rintro ⟨k,h1,h2,rfl⟩
  exact⟨k,List.mem_filter.2 ⟨List.mem_range.2 h1,h2⟩,rfl⟩
def om (s t:List Bool):Prop:=∀k,s.getD k false=true->t.getD k false=true
theorem yF {s:List Bool}{i:Nat}:om (s.set i false) s:=fun k h=>by
 rw[List.getD_eq_getElem?_getD,List.getElem?_set] at h
 split at h
 ·split at h <;> cases h
 ·rw[List.getD_eq_getElem?_getD];exact h
theorem rZ {v:List Int}:∀{l:List Rule} {s:List Bool},om (bW v s l) s
 |[],_=>fun _ h=>h
 |r::l,s=>fun k h=>by
  have h:=rZ (v:=v) (l:=l) (s:=cu v s r) k h
  unfold cu at h
  split at h
  ·exact yF k h
  ·exact h
theorem r7 {v:List Int}{p:Prg}:∀{n:Nat} {s:List Bool},om (d8 v p n s) s
 |0,_=>fun _ h=>h
 |n+1,s=>fun k h=>by
  have h:(if grCh v p.rules.l s then d8 v p n (bW v s p.rules.l) else s).getD k false=true:=h
  split at h
  ·exact rZ k (r7 k h)
  ·exact h
theorem r8 {v:List Int}{p:Prg}{k:Nat}(h:(grR v p).getD k false=true):v.getD k 0=3:=by
 have h:=r7 k h
 unfold dU at h
 rw[List.getD_eq_getElem?_getD,List.getElem?_map] at h
 rw[List.getD_eq_getElem?_getD]
 cases hx:v[k]? with
 |none=>rw[hx] at h;cases h
 |some x=>rw[hx] at h;simpa using h
theorem r9 {x:Int}(hx:x≠3):∀{v:List Int} {i:Nat},cH (v.set i x)<=cH v/\(v.getD i 0=3->cH (v.set i x)<cH v)
 |[],i=>⟨Nat.le_refl _,fun h=>absurd h (by simp)⟩
 |y::v,0=>by
  unfold cH
  rw[List.set_cons_zero,List.count_cons,List.count_cons,if_neg (by simpa using hx)]
  refine⟨by omega,fun h=>?_⟩
  have h:y=3:=h
  rw[if_pos (by simpa using h)]
  omega
 |y::v,i+1=>by
  obtain⟨h1,h2⟩:=r9 hx (v:=v) (i:=i)
  unfold cH at h1 h2 ⊢
  rw[List.set_cons_succ,List.count_cons,List.count_cons]
  exact⟨by omega,fun h=>by have:=h2 (by simpa using h);omega⟩
theorem sa {x:Int}(hx:x≠3):∀{l v:List Int},cH (dy x v l)<=cH v/\((∃a l',l=a::l'/\v.getD a.toNat 0=3)->cH (dy x v l)<cH v)
 |[],v=>⟨Nat.le_refl _,fun ⟨a,l',h,_⟩=>by cases h⟩
 |a::l,v=>by
  have h1:=(sa hx (l:=l) (v:=v.set a.toNat x)).1
  obtain⟨h2,h3⟩:=r9 hx (v:=v) (i:=a.toNat)
  refine⟨Nat.le_trans h1 h2,fun ⟨b,l',e,h⟩=>?_⟩
  cases e
  exact Nat.lt_of_le_of_lt h1 (h3 h)
theorem sb {v:List Int}{p:Prg}(hr:∀r,r∈p.rules.l->ct v.length r):∀a,a∈(bf v p).atoms->0<=a/\a<v.length/\v.getD a.toNat 0=3:=by
 intro a ha
 unfold bf at ha
 split at ha
 ·rename_i h
  obtain⟨k,h1,h2,h3,_⟩:=iJ (fg v) default p.rules.l 0 h
  have hf:(ez v p).toNat=k:=by unfold ez;rw[h2];simp
  have hm:=(hr _ (bN p.rules.l default h1)).2
  have ha:a=(p.rules.l.getD (ez v p).toNat default).head:=by simpa using ha
  rw[hf] at ha
  unfold fg at h3
  rw[Bool.and_eq_true,beq_iff_eq] at h3
  rw[ha]
  exact⟨hm.1,hm.2,h3.1⟩
 ·obtain⟨k,h1,h2,rfl⟩:=yE.1 (show a∈aV (grR v p) v.length from ha)
  exact⟨by omega,by omega,by simpa using r8 h2⟩
theorem yG (s:Step):db s≠3:=by
 unfold db
 split <;> decide
theorem sc {v:List Int}{p:Prg}(hr:∀r,r∈p.rules.l->ct v.length r)(hb:cv v p=true):cH (ey v (bV (bf v p)))<cH v:=by
 refine(sa (yG _)).2 ?_
 have hne:0<(bf v p).atoms.length:=by
  unfold cv at hb
  unfold bf
  split
  ·exact Nat.zero_lt_one
  ·rename_i h
   rw[decide_eq_false h,Bool.false_or,decide_eq_true_eq] at hb
   exact hb
 cases hl:(bf v p).atoms with
 |nil=>rw[hl] at hne;cases hne
 |cons a l=>exact⟨a,l,hl,(sb hr a (by rw[hl];exact List.mem_cons_self)).2.2⟩
structure DerOk (p:Prg)(n:Nat)(x:Nat × List Int × List Stp × Step × Bool):Prop where
 num:x.1=x.2.2.1.length
 len:x.2.1.length=n
 step:x.2.2.2.1=bV (bf x.2.1 p)
 is:x.2.2.2.2=cv x.2.1 p
 few:x.1+cH x.2.1<=n
 der:∃f,cH x.2.1<f/\eA p f x.2.1 x.2.2.1=bI p n
theorem yH (R:Res)(p:Prg)(n:Nat)(hn:0<n/\n<=1000)(hpa:p.atoms=n)(hpl:p.rules.l.length<1000000)(hr:∀r,r∈p.rules.l->ct n r)(g:R.σ):Does Tryd.prog R 19 [ay p] [] g (.ret (.tup 2 (nth [.ow true 0 (bI p n).1.length 2,.ow true 1 n 1]))) [.cells false ((bI p n).1.length*2) (bb (bI p n).1),.cells false (n*1) (ab (bI p n).2)] g:=by
 have hroom:aG=140737488355328:=rfl
 refine az (nt:=33) (rs:=[.tmp 2,.tmp 3]) (k0:=0) (by kernel_rfl) (by kernel_rfl) (by kernel_rfl) rfl ?_
 have hO:=fun (R:Res) (g:R.σ)=>yi R n hn g
 simp only[<-hpa] at hO
 obtain⟨v0,hv0⟩:∃v0,List.replicate n (3:Int)=v0:=⟨_,rfl⟩
 rw[hv0] at hO
 have h3l:v0.length=n:=by rw[<-hv0];exact List.length_replicate
 have hN:∀(R:Res) (g:R.σ),Does Tryd.prog R 64 [.ow true 0 v0.length 1,ay p] [.cells false (v0.length*1) (ab v0)] g (.ret (.tup 2 (nth [.agg 2 (nth [.int .i64 (bV (bf v0 p)).rule,ap (bV (bf v0 p)).atoms]),.bool (cv v0 p)]))) [.cells false (v0.length*1) (ab v0)] g:=fun (R:Res) (g:R.σ)=>rX R v0 p (by omega) (by rw[h3l];exact hpa) hpl (by rw[h3l];exact hr) g
 obtain⟨s0,hs0⟩:∃s,s=bV (bf v0 p):=⟨_,rfl⟩
 obtain⟨b0,hb0⟩:∃b,b=cv v0 p:=⟨_,rfl⟩
 simp only[h3l,<-hs0,<-hb0] at hN
 refine vcQ [] (lkL [(0,[1]),(1,[1,4]),(2,[1,4,5]),(3,[1,4,5,6,7])]) (lkL [(1,[(2,ROrc.call (ow true 1 n 1) [cells false 2 (nth [int i64 p.atoms,ae p.rules]),cells false (n*1) (ab v0)] g)]),(3,[(2,ROrc.kcall (tup 2 (nth [agg 2 (nth [int i64 s0.rule,fz s0.atoms.2 1 (s0.atoms.l.length) fun (i x:Nat)=>ab s0.atoms.l i]),AV.bool b0]))),(7,ROrc.val (Orc.obj (nth [int i64 s0.rule,fz s0.atoms.2 1 (s0.atoms.l.length) fun (i x:Nat)=>ab s0.atoms.l i])))])]) (fun Q=>(fun (u1:List AV)=>(fun (u2:AObj)=>(fun (u3:AObj)=>1<=2/\(true=true/\Does Tryd.prog R 63 [int i64 p.atoms] [u2] g (ret (ow true 1 n 1)) [u2,u3] g)/\2<=2/\(true=true/\Does Tryd.prog R 64 [ow true 1 n 1,ay p] [u2,u3] g (ret (tup 2 (nth [agg 2 (nth u1),AV.bool b0]))) [u2,u3] g)/\2<=2/\(∀(c:Nat),c<2->nth u1 c=ah (nth [int i64 0,fz Fz.nil 0 0 fun _ _=>any]) 0 2 (List.brecOn (motive:=fun (x:List AV)=>Nat->AV) u1 nth._f) c)/\Wp Tryd.prog R 33 0 Rd.top (af Tryd.prog 19) [1,1,1,1,0,0] (aq Tryd.prog R 33 0 Rd.top (af Tryd.prog 19) Q [Kont.blk 0,Kont.seq [1,1,1,1,1]]) (St.mk [(1,ref 0 0),(4,ow true 1 n 1),(5,fz Fz.nil 0 0 fun _ _=>any),(6,ref 2 0),(7,AV.bool b0)] [u2,u3,cells false 2 (nth u1)] g)) (cells false (n*1) fun (a:Nat)=>ab v0 a)) (cells false 2 (nth [int i64 p.atoms,ae p.rules]))) ([int i64 s0.rule,fz s0.atoms.2 1 (s0.atoms.l.length) fun (i x:Nat)=>ab s0.atoms.l i])) (fun _=>by kernel_rfl) ⟨by omega,⟨rfl,(bz [] 1 (fun R g=>hO R g) rfl rfl rfl (by exact trivial) (by exact trivial) (by exact⟨au (by exact trivial),trivial⟩) (by exact(Le.refl _)) (by exact⟨LeO.rflc,⟨rfl,Nat.le_refl _,fun j hj=>(by first|exact aw (by first|exact trivial|apply bo)|exact Le.of_eq (bx rfl))⟩,trivial⟩))⟩,by omega,⟨rfl,(bz [1] 2 (fun R g=>hN R g) rfl rfl rfl (by exact⟨⟨rfl,Nat.le_refl _,fun j hj=>(by first|exact au (by first|exact trivial|apply bo)|exact Le.of_eq (bx rfl).symm)⟩,trivial⟩) (by exact⟨by omega,trivial⟩) (by exact⟨Le.refl _,au (by exact⟨⟨trivial,trivial⟩,trivial⟩),trivial⟩) (by exact aw (by exact⟨⟨trivial,⟨trivial,trivial⟩,trivial⟩,trivial⟩)) (by exact⟨LeO.rflc,⟨rfl,Nat.le_refl _,fun j hj=>(by first|exact aw (by first|exact trivial|apply bo)|exact Le.of_eq (bx rfl))⟩,trivial⟩))⟩,by omega,(fun c hc=>match c,hc with|0,_=>(by kernel_rfl)|1,_=>(by kernel_rfl) ),?_⟩
 refine bQ (eq (fun _=>.any) 1) ?_
 refine(bg (by kernel_rfl) (fun (x:Nat × List Int × List Stp × Step × Bool)=>⟨[(1,ref 0 0),(4,.ow true 1 n 1),(5,.ow true 3 x.1 2),(6,ref 2 0),(7,.bool x.2.2.2.2)],[.cells false 2 (nth [.int .i64 p.atoms,ae p.rules]),.cells false (n*1) (ab x.2.1),.cells false 2 (nth [.int .i64 x.2.2.2.1.rule,ap x.2.2.2.1.atoms]),.cells false (x.1*2) (bb x.2.2.1)],g⟩) (fun (x:Nat × List Int × List Stp × Step × Bool)=>(DerOk p n x)) (fun (x:Nat × List Int × List Stp × Step × Bool)=>(cH x.2.1)) (0,v0,[],s0,b0) (aX ⟨Le.refl _,Le.refl _,Le.nil_ow,Le.refl _,Le.refl _,trivial⟩ ⟨LeO.rflc,LeO.rflc,LeO.rflc,⟨rfl,Nat.le_refl _,fun j hj=>absurd hj (Nat.not_lt_zero j)⟩,trivial⟩ rfl) ?_ (fun x hi=>?_))
 ·refine⟨rfl,h3l,hs0,hb0,?_,n+1,?_,?_⟩
  ·show 0+cH v0<=n
   rw[Nat.zero_add,<-h3l]
   exact List.count_le_length
  ·refine Nat.lt_succ_of_le ?_
   show cH v0<=n
   rw[<-h3l]
   exact List.count_le_length
  ·unfold bI
   rw[hv0]
 ·obtain⟨m,v,l,s,b⟩:=x
  obtain⟨h0,h1,h2,h3,h4,h5⟩:=hi
  simp only at h0 h1 h2 h3 h4 h5
  have hln:m<1000000:=by omega
  cases b with
  |true=>
   obtain⟨w,hw⟩:∃w,ey v s=w:=⟨_,rfl⟩
   have hwl:w.length=n:=by rw[<-hw];exact jQ.trans h1
   have hat:s.atoms.l.length<1000000:=by
    rw[h2]
    have:=yD (v:=v) (p:=p)
    show(bf v p).atoms.length<_
    omega
   have hra:=sb (v:=v) (p:=p) (by rw[h1];exact hr)
   have hin:∀i,i<s.atoms.l.length->0<=s.atoms.l.getD i 0/\s.atoms.l.getD i 0<v.length:=fun i hi=>by
    have:=hra (s.atoms.l.getD i 0) (by rw[h2] at hi ⊢;exact bN _ 0 hi)
    exact⟨this.1,this.2.1⟩
   have hlt:=sc (v:=v) (p:=p) (by rw[h1];exact hr) h3.symm
   rw[<-h2,hw] at hlt
   have hA:=fun (R:Res) (g:R.σ)=>ym R v s (by omega) hat hin g
   have hN:∀(R:Res) (g:R.σ),Does Tryd.prog R 64 [.ow true 0 w.length 1,ay p] [.cells false (w.length*1) (ab w)] g (.ret (.tup 2 (nth [.agg 2 (nth [.int .i64 (bV (bf w p)).rule,ap (bV (bf w p)).atoms]),.bool (cv w p)]))) [.cells false (w.length*1) (ab w)] g:=fun (R:Res) (g:R.σ)=>rX R w p (by omega) (by rw[hwl];exact hpa) hpl (by rw[hwl];exact hr) g
   obtain⟨s1,hs1⟩:∃s,s=bV (bf w p):=⟨_,rfl⟩
   obtain⟨b1,hb1⟩:∃b,b=cv w p:=⟨_,rfl⟩
   simp only[hwl,<-hs1,<-hb1] at hN
   simp only[h1,hw] at hA
   refine vcQ [[1,1,1,1,0,0,0,0,1,1]] (lkL [(4,[1,4,5,6,17]),(5,[1,4,5,6]),(6,[1,4,5,6]),(7,[1,4,5,6,7])]) (lkL [(5,[(3,ROrc.val (Orc.obj (bb (l++[bf v p]))))]),(6,[(2,ROrc.call (ow true 6 n 1) [cells false 2 (nth [int i64 p.atoms,ae p.rules]),cells false (n*1) fun (a:Nat)=>ab v a,cells false 2 (nth [int i64 s.rule,fz s.atoms.2 1 (s.atoms.l.length) fun (i x:Nat)=>ab s.atoms.l i]),dead,cells false 2 (ah (fun (j:Nat)=>nth [int i64 0,fz Fz.nil 0 0 fun _ _=>any] (j%2)) 0 2 (List.brecOn (motive:=fun (x:List AV)=>Nat->AV) [int i64 s.rule,fz s.atoms.2 1 (s.atoms.l.length) fun (i x:Nat)=>ab s.atoms.l i] nth._f)),cells false ((m+1)*2) (bb (l++[bf v p])),cells false (n*1) (ab w)] g)]),(7,[(2,ROrc.kcall (tup 2 (nth [agg 2 (nth [int i64 s1.rule,fz s1.atoms.2 1 (s1.atoms.l.length) fun (i x:Nat)=>ab s1.atoms.l i]),AV.bool b1]))),(6,ROrc.val (Orc.obj (nth [int i64 s1.rule,fz s1.atoms.2 1 (s1.atoms.l.length) fun (i x:Nat)=>ab s1.atoms.l i])))])]) (fun Q=>(fun (u1:List AObj)=>(fun (u2:List AV)=>(fun (u3:List AV)=>(fun (u4:AObj)=>(fun (u5:AObj)=>(fun (u6:AObj)=>(true=true->2<=2/\0<2/\(m+1)*32<=aG/\m+1<=aG/\2<=2/\m*2<=m*2/\(∀(c:Nat),c<(m+1)*2->bb (l++[bf v p]) c=bc 2 m (fun (i j:Nat)=>bb l (i*2+j)) (fun (i j:Nat)=>ah (fun (j:Nat)=>nth [int i64 0,fz Fz.nil 0 0 fun _ _=>any] (j%2)) 0 2 (List.brecOn (motive:=fun (x:List AV)=>Nat->AV) u2 nth._f) (0+i*2+j)) c)/\2<=2/\(true=true/\Does Tryd.prog R 65 [ow true 1 n 1,agg 2 (nth u2)] [u5,u6,cells false 2 (nth u2),dead,u4,cells false ((m+1)*2) (bb (l++[bf v p]))] g (ret (ow true 6 n 1)) u1 g)/\2<=2/\(true=true/\Does Tryd.prog R 64 [ow true 6 n 1,ay p] u1 g (ret (tup 2 (nth [agg 2 (nth u3),AV.bool b1]))) u1 g)/\2<=2/\(∀(c:Nat),c<2->nth u3 c=ah (nth u2) 0 2 (List.brecOn (motive:=fun (x:List AV)=>Nat->AV) u3 nth._f) c)/\Q AEx.normal (St.mk [(1,ref 0 0),(4,ow true 6 n 1),(5,ow true 5 (m+1) 2),(6,ref 2 0),(7,AV.bool b1)] [u5,u6,cells false 2 (nth u3),dead,u4,cells false ((m+1)*2) (bb (l++[bf v p])),cells false (n*1) fun (a:Nat)=>ab w a] g))/\(true=false->Wp Tryd.prog R 33 0 Rd.top (af Tryd.prog 19) [1,1,1,1,0,0,0,0,1,1] (aq Tryd.prog R 33 0 Rd.top (af Tryd.prog 19) Q [Kont.seq [1,1,1,1,0,0,0,1]]) (St.mk [(1,ref 0 0),(4,ow true 1 n 1),(5,ow true 3 m 2),(6,ref 2 0),(17,AV.bool true)] [u5,u6,cells false 2 (nth u2),cells false (m*2) (bb l)] g))) (cells false (n*1) fun (a:Nat)=>ab v a)) (cells false 2 (nth [int i64 p.atoms,ae p.rules]))) (cells false 2 (ah (fun (j:Nat)=>nth [int i64 0,fz Fz.nil 0 0 fun _ _=>any] (j%2)) 0 2 (List.brecOn (motive:=fun (x:List AV)=>Nat->AV) u2 nth._f)))) ([int i64 s1.rule,fz s1.atoms.2 1 (s1.atoms.l.length) fun (i x:Nat)=>ab s1.atoms.l i])) ([int i64 s.rule,fz s.atoms.2 1 (s.atoms.l.length) fun (i x:Nat)=>ab s.atoms.l i])) ([cells false 2 (nth [int i64 p.atoms,ae p.rules]),cells false (n*1) fun (a:Nat)=>ab v a,cells false 2 (nth [int i64 s.rule,fz s.atoms.2 1 (s.atoms.l.length) fun (i x:Nat)=>ab s.atoms.l i]),dead,cells false 2 (ah (fun (j:Nat)=>nth [int i64 0,fz Fz.nil 0 0 fun _ _=>any] (j%2)) 0 2 (List.brecOn (motive:=fun (x:List AV)=>Nat->AV) [int i64 s.rule,fz s.atoms.2 1 (s.atoms.l.length) fun (i x:Nat)=>ab s.atoms.l i] nth._f)),cells false ((m+1)*2) (bb (l++[bf v p])),cells false (n*1) fun (a:Nat)=>ab w a])) (fun _=>by kernel_rfl) ⟨fun _=>⟨by omega,by omega,by omega,by omega,by omega,by omega,?_,by omega,⟨rfl,(bz [1] 6 (fun R g=>hA R g) rfl rfl rfl (by exact⟨⟨rfl,Nat.le_refl _,fun j hj=>(by first|exact au (by first|exact trivial|apply bo)|exact Le.of_eq (bx rfl).symm)⟩,trivial⟩) (by exact⟨by omega,trivial⟩) (by exact⟨Le.refl _,au (by exact⟨⟨trivial,trivial⟩,trivial⟩),trivial⟩) (by exact(Le.refl _)) (by exact⟨LeO.rflc,⟨rfl,Nat.le_refl _,fun j hj=>(by first|exact aw (by first|exact trivial|apply bo)|exact Le.of_eq (bx rfl))⟩,LeO.rflc,trivial,LeO.rflc,LeO.rflc,⟨rfl,Nat.le_refl _,fun j hj=>(by first|exact aw (by first|exact trivial|apply bo)|exact Le.of_eq (bx rfl))⟩,trivial⟩))⟩,by omega,⟨rfl,(bz [6] 7 (fun R g=>hN R g) rfl rfl rfl (by exact⟨⟨rfl,Nat.le_refl _,fun j hj=>(by first|exact au (by first|exact trivial|apply bo)|exact Le.of_eq (bx rfl).symm)⟩,trivial⟩) (by exact⟨by omega,trivial⟩) (by exact⟨Le.refl _,au (by exact⟨⟨trivial,trivial⟩,trivial⟩),trivial⟩) (by exact aw (by exact⟨⟨trivial,⟨trivial,trivial⟩,trivial⟩,trivial⟩)) (by exact⟨LeO.rflc,LeO.rflc,LeO.rflc,trivial,LeO.rflc,LeO.rflc,⟨rfl,Nat.le_refl _,fun j hj=>(by first|exact aw (by first|exact trivial|apply bo)|exact Le.of_eq (bx rfl))⟩,trivial⟩))⟩,by omega,(fun c hc=>match c,hc with|0,_=>(by kernel_rfl)|1,_=>(by kernel_rfl) ),?_⟩,fun h=>(nomatch h)⟩
   ·intro c hc
    rw[h0] at hc ⊢
    exact(rY (z:=fun j=>nth [.int .i64 0,.fz .nil 0 0 fun _ _=>.any] (j%2)) h2 hc).trans (by kernel_rfl)
   ·refine(aL (m+1,w,l++[bf v p],s1,b1) (a9 [0,6,2,5] 7 rfl rfl rfl rfl rfl ⟨Le.refl _,Le.refl _,Le.refl _,Le.refl _,Le.refl _,trivial⟩ ⟨⟨rfl,Nat.le_refl _,fun j hj=>match j,hj with|0,_=>(Le.refl _)|1,_=>(Le.refl _) ⟩,?_,⟨rfl,Nat.le_refl _,fun j hj=>match j,hj with|0,_=>(Le.refl _)|1,_=>(Le.refl _) ⟩,⟨by first|rfl|(simp;done),by first|exact Nat.le_refl _|(simp;done)|(simp;omega),fun j hj=>(by first|exact au (by first|exact trivial|apply lC)|exact Le.of_eq (iP rfl).symm)⟩,trivial⟩) ?_ ?_)
    ·exact⟨rfl,Nat.le_refl _,fun j _=>Le.of_eq rfl⟩
    ·refine⟨?_,hwl,hs1,hb1,?_,?_⟩
     ·show m+1=(l++[bf v p]).length
      rw[List.length_append,h0]
      rfl
     ·show m+1+cH w<=n
      omega
     ·obtain⟨f,f1,f2⟩:=h5
      obtain⟨f,rfl⟩:∃k,f=k+1:=⟨f-1,by omega⟩
      refine⟨f,by show cH w<f;omega,?_⟩
      rw[<-f2]
      show eA p f w (l++[bf v p])=(if cv v p then _ else _)
      rw[<-h3,if_pos rfl,<-hw,h2]
    ·exact hlt
  |false=>
   have e:bI p n=(l,v):=by
    obtain⟨f,f1,f2⟩:=h5
    obtain⟨f,rfl⟩:∃k,f=k+1:=⟨f-1,by omega⟩
    rw[<-f2]
    show(if cv v p then _ else _)=_
    rw[<-h3]
    rfl
   rw[e]
   subst h0
   refine vcQ [[1,1,1,1,0,0,0,0,1,0]] (lkL [(4,[1,4,5,6,17])]) (fun _=>[]) (fun Q=>(fun (u1:St R.σ)=>(false=true->Wp Tryd.prog R 33 0 Rd.top (af Tryd.prog 19) [1,1,1,1,0,0,0,0,1,0] (aq Tryd.prog R 33 0 Rd.top (af Tryd.prog 19) Q [Kont.seq [1,1,1,1,0,0,0,1]]) u1)/\(false=false->Q (AEx.exit 0) u1)) (St.mk [(1,ref 0 0),(4,ow true 1 n 1),(5,ow true 3 (l.length) 2),(6,ref 2 0),(17,AV.bool false)] [cells false 2 (nth [int i64 p.atoms,ae p.rules]),cells false (n*1) fun (a:Nat)=>ab v a,cells false 2 (nth [int i64 s.rule,fz s.atoms.2 1 (s.atoms.l.length) fun (i x:Nat)=>ab s.atoms.l i]),cells false (l.length*2) (bb l)] g)) (fun _=>by kernel_rfl) ⟨fun h=>(nomatch h),fun _=>?_⟩
   refine⟨_,To.refl _,vcQ [] (lkL [(8,[2,3])]) (fun _=>[]) (fun Q=>Q AEx.ret (St.mk [(2,ow true 3 (l.length) 2),(3,ow true 1 n 1)] [cells false 2 (nth [int i64 p.atoms,ae p.rules]),cells false (n*1) fun (a:Nat)=>ab v a,cells false 2 (nth [int i64 s.rule,fz s.atoms.2 1 (s.atoms.l.length) fun (i x:Nat)=>ab s.atoms.l i]),cells false (l.length*2) (bb l)] g)) (fun _=>by kernel_rfl) (?_)⟩
   show bw Tryd.prog R 0 _ _ _ _ .ret _
   exact dh (.tup 2 (nth [.ow true 3 l.length 2,.ow true 1 n 1])) _ rfl trivial (a9 (s':=⟨[(0,.tup 2 (nth [.ow true 0 l.length 2,.ow true 1 n 1]))],[.cells false (l.length*2) (bb l),.cells false (n*1) (ab v)],g⟩) [3,1] 4 rfl rfl rfl rfl rfl ⟨Le.tup (fun j hj=>match j,hj with|0,_=>Le.refl _|1,_=>Le.refl _),trivial⟩ ⟨LeO.cells (fun j hj=>(iP trivial).symm),LeO.refl _,trivial⟩)
theorem oo {hp:List AObj}{k m o:Nat}{l:List Int}{n:Nat}(hn:l.length=n)(ho:ag hp o=.cells false (n*1) (ab l))(hk:k<=o):av hp k m (.ow true o n 1) (ap ⟨l,.auto⟩):=by
 subst hn
 exact(av.ow ho hk (Nat.le_refl _) (by decide) (fun j _=>av.below (bo _ _))).le (Le.fz rfl (fun i j hi hj=>by
  show AV.int .i64 _=_
  rw[show i*1+j=i by omega]))
theorem sd {hp:List AObj}{k m o:Nat}{l:List Stp}(ho:ag hp o=.cells false (l.length*2) (bb l))(hk:k<=o):av hp k m (.ow true o l.length 2) (aJ (aA l)):=
 (av.ow ho hk (Nat.le_refl _) (by decide) (fun j _=>av.below (lC _ _))).le (Le.fz (lq _).symm (fun i j hi hj=>by
  show bb l (i*2+j)=co _ j
  rw[nW hi]
  unfold bb
  rw[show(i*2+j)%2=j by omega,show(i*2+j)/2=i by omega]
  match j,hj with
  |0,_=>rfl
  |1,_=>rfl))
theorem se {p:Prg}:∀{f:Nat} {v:List Int} {l:List Stp},(eA p f v l).2.length=v.length
 |0,_,_=>rfl
 |f+1,v,l=>by
  show(if cv v p then eA p f (ey v (bV (bf v p))) (l++[bf v p]) else(l,v)).2.length=_
  split
  ·rw[se];exact jQ
  ·rfl
theorem sf {p:Prg}{n:Nat}:(bI p n).2.length=n:=se.trans List.length_replicate
theorem yI (R:Res)(p:Prg)(n:Nat)(hn:0<n/\n<=1000)(hpa:p.atoms=n)(hpl:p.rules.l.length<1000000)(hr:∀r,r∈p.rules.l->ct n r)(g:R.σ):Does Tryd.prog R 19 [ay p] [] g (.ret (.tup 2 (nth [aJ (aA (bI p n).1),ap ⟨(bI p n).2,.auto⟩]))) [] g:=by
 refine fE (yH R p n hn hpa hpl hr g) ?_
 refine fG 0 [(0,.tup 2 (nth [aJ (aA (bI p n).1),ap ⟨(bI p n).2,.auto⟩]))] (Nat.le_refl _) (Nat.zero_le _) (fun i hi=>absurd hi (Nat.not_lt_zero i)) ⟨av.tup (fun j hj=>?_),trivial⟩
 match j,hj with
 |0,_=>exact sd rfl (Nat.zero_le _)
 |1,_=>exact oo sf rfl (Nat.zero_le _)
structure Agr (n:Nat)(v:List Int)(f:Nat->Int):Prop where
 len:v.length=n
 get:∀j,j<n->v.getD j 0=f j
 val:∀j,j<n->f j=1∨f j=2∨f j=3
theorem oq {U:Type}{q q':U->Bool}:∀{l:List U},(∀x,x∈l->q x=q' x)->l.any q=l.any q'
 |[],_=>rfl
 |x::l,h=>by rw[List.any_cons,List.any_cons,h x List.mem_cons_self,oq (fun y hy=>h y (List.mem_cons_of_mem _ hy))]
theorem yJ {n:Nat}{v:List Int}{f:Nat->Int}{r:Rule}(ha:Agr n v f)(h:dl n r):dT v r=dQ f r:=by
 unfold dT dQ
 congr 1
 refine oq (fun l hl=>?_)
 have hl:=h.2 l hl
 have hg:=ha.get l.atom.toNat (by omega)
 have hv:=ha.val l.atom.toNat (by omega)
 unfold cG cp
 rw[hg]
 cases l.neg <;> rcases hv with h|h|h <;> rw[h] <;> decide
theorem yK {n:Nat}{v:List Int}{f:Nat->Int}{r:Rule}(ha:Agr n v f)(h:ct n r):fg v r=dR f r:=by
 unfold fg dR
 have:=h.2
 rw[ha.get r.head.toNat (by omega),yJ ha h.1]
theorem sg {U:Type}{q q':U->Bool}:∀{l:List U} {i:Nat},(∀x,x∈l->q x=q' x)->aT q l i=aT q' l i
 |[],_,_=>rfl
 |x::l,i,h=>by
  unfold aT
  rw[h x List.mem_cons_self,sg (fun y hy=>h y (List.mem_cons_of_mem _ hy))]
def blk (f:Nat->Int)(m:Nat->Bool)(l:Lit):Bool:=cp f l==1||(!l.neg&&m l.atom.toNat)
theorem sh {f:Nat->Int}{m m':Nat->Bool}{l:Lit}(h:∀j,m j=true->m' j=true)(hb:blk f m l=true):blk f m' l=true:=by
 unfold blk at hb ⊢
 rw[Bool.or_eq_true,Bool.and_eq_true] at hb ⊢
 rcases hb with hb|⟨h1,h2⟩
 ·exact .inl hb
 ·exact .inr ⟨h1,h _ h2⟩
theorem yL {n:Nat}{v:List Int}{f:Nat->Int}{l:Lit}{s:List Bool}(ha:Agr n v f)(h:0<=l.atom/\l.atom<n):iO v s l=blk f (fun j=>s.getD j false) l:=by
 have hg:=ha.get l.atom.toNat (by omega)
 have hv:=ha.val l.atom.toNat (by omega)
 unfold iO blk cf cp
 rw[hg]
 cases l.neg <;> rcases hv with h|h|h <;> rw[h] <;> simp
theorem sj {n:Nat}{v:List Int}{f:Nat->Int}{r:Rule}{s:List Bool}(ha:Agr n v f)(h:dl n r):dJ v s r = !r.body.l.any (blk f (fun j=>s.getD j false)):=by
 unfold dJ
 rw[oq (fun l hl=>yL ha (h.2 l hl))]
def gn (p:Prg)(f:Nat->Int)(m:Nat->Bool):Prop:=∀r,r∈p.rules.l->m r.head.toNat=true->r.body.l.any (blk f m)=true
theorem sk {U:Type}{q q':U->Bool}{l:List U}(h:∀x,q x=true->q' x=true)(hq:l.any q=true):l.any q'=true:=by
 rw[List.any_eq_true] at hq ⊢
 obtain⟨x,h1,h2⟩:=hq
 exact⟨x,h1,h x h2⟩
section
variable {p:Prg}{n:Nat}{v:List Int}{f:Nat->Int}
theorem sm (ha:Agr n v f){m:Nat->Bool}(hu:gn p f m):∀{l:List Rule} {s:List Bool},(∀r,r∈l->r∈p.rules.l/\ct n r)->(∀j,m j=true->s.getD j false=true)->∀j,m j=true->(bW v s l).getD j false=true
 |[],_,_,h=>h
 |r::l,s,hl,h=>by
  refine sm ha hu (l:=l) (s:=cu v s r) (fun q hq=>hl q (List.mem_cons_of_mem _ hq)) (fun j hj=>?_)
  unfold cu
  split
  ·rename_i hup
   obtain⟨h1,h2⟩:=hl r List.mem_cons_self
   unfold upholdsR at hup
   rw[Bool.and_eq_true] at hup
   obtain⟨_,hs⟩:=hup
   rw[sj ha h2.1,Bool.not_eq_true'] at hs
   rw[List.getD_eq_getElem?_getD,List.getElem?_set]
   by_cases he:r.head.toNat=j
   ·subst he
    have:=sk (l:=r.body.l) (fun l hb=>sh h hb) (hu r h1 hj)
    rw[hs] at this
    cases this
   ·rw[if_neg he,<-List.getD_eq_getElem?_getD]
    exact h j hj
  ·exact h j hj
theorem sn (ha:Agr n v f)(hr:∀r,r∈p.rules.l->ct n r){m:Nat->Bool}(hu:gn p f m):∀{k:Nat} {s:List Bool},(∀j,m j=true->s.getD j false=true)->∀j,m j=true->(d8 v p k s).getD j false=true
 |0,_,h=>h
 |k+1,s,h=>fun j hj=>by
  show(if grCh v p.rules.l s then d8 v p k (bW v s p.rules.l) else s).getD j false=true
  split
  ·exact sn ha hr hu (fun j hj=>sm ha hu (fun r h=>⟨h,hr r h⟩) h j hj) j hj
  ·exact h j hj
theorem so:∀{k:Nat} {s:List Bool},cS s<k->∀r,r∈p.rules.l->upholdsR v (d8 v p k s) r=false
 |0,_,h=>absurd h (Nat.not_lt_zero _)
 |k+1,s,h=>fun r hr=>by
  show upholdsR v (if grCh v p.rules.l s then d8 v p k (bW v s p.rules.l) else s) r=false
  obtain⟨_,c2,c3⟩:=oi (v:=v) (l:=p.rules.l) (s:=s)
  split
  ·rename_i hc
   have:=c2 hc
   exact so (by omega) r hr
  ·rename_i hc
   exact(c3 (by simpa using hc)).2 r hr
theorem yM (ha:Agr n v f)(hr:∀r,r∈p.rules.l->ct n r):gn p f (fun j=>(grR v p).getD j false):=by
 intro r h hm
 have:=so (v:=v) (p:=p) (k:=v.length+1) (s:=dU v) (Nat.lt_succ_of_le (by rw[<-jS v];exact rT _)) r h
 unfold upholdsR at this
 have hm:(grR v p).getD r.head.toNat false=true:=hm
 have e:d8 v p (v.length+1) (dU v)=grR v p:=rfl
 rw[e,hm,Bool.true_and,sj ha (hr r h).1,Bool.not_eq_false'] at this
 exact this
theorem yN (ha:Agr n v f)(hr:∀r,r∈p.rules.l->ct n r){m:Nat->Bool}(hu:gn p f m)(ho:∀j,m j=true->j<n/\f j=3){j:Nat}(hj:m j=true):(grR v p).getD j false=true:=by
 refine sn ha hr hu (fun j hj=>?_) j hj
 obtain⟨h1,h2⟩:=ho j hj
 have hg:=ha.get j h1
 rw[h2,List.getD_eq_getElem?_getD,List.getElem?_eq_getElem (by rw[ha.len];exact h1)] at hg
 unfold dU
 rw[List.getD_eq_getElem?_getD,List.getElem?_map,List.getElem?_eq_getElem (by rw[ha.len];exact h1)]
 have hg:v[j]'(by rw[ha.len];exact h1)=3:=hg
 show(v[j]'_==3)=true
 rw[hg]
 rfl
theorem sq {l:List Rule}{a:Int}{r:Rule}:r∈ofH l a↔r∈l/\r.head=a:=by
 unfold ofH
 rw[List.mem_filter,beq_iff_eq]
theorem ot (hh:∀r,r∈p.rules.l->0<=r.head){m:Nat->Bool}(hu:gn p f m):∀{l:List Nat} {s:Nat},s<2^24->(∀a,a∈l->a<24)->(∀j,m j=true->s.testBit j=true)->∀j,m j=true->(di p f s l).testBit j=true
 |[],_,_,_,h=>h
 |a::l,s,hs,hl,h=>by
  show ∀j,m j=true->(di p f (if (ofH p.rules.l (a:Int)).any (ce f s) then clr s a else s) l).testBit j=true
  have hl':∀b,b∈l->b<24:=fun b hb=>hl b (List.mem_cons_of_mem _ hb)
  have ha:=hl a List.mem_cons_self
  split
  ·rename_i hg
   refine ot hh hu (Nat.lt_of_le_of_lt (iG hs) hs) hl' (fun j hj=>?_)
   rw[nJ hs ha,h j hj,Bool.true_and,decide_eq_true_eq]
   intro e
   subst e
   obtain⟨r,h1,h2⟩:=List.any_eq_true.1 hg
   obtain⟨h3,h4⟩:=sq.1 h1
   have h5:=sk (l:=r.body.l) (fun l hb=>sh h hb) (hu r h3 (by rw[h4];simpa using hj))
   unfold ce at h2
   rw[Bool.not_eq_true'] at h2
   have h6:r.body.l.any (gK f s)=r.body.l.any (blk f s.testBit):=rfl
   rw[h6,h5] at h2
   cases h2
  ·exact ot hh hu hs hl' h
theorem sr (hh:∀r,r∈p.rules.l->0<=r.head){m:Nat->Bool}(hu:gn p f m):∀{k s:Nat},s<2^24->(∀j,m j=true->s.testBit j=true)->∀j,m j=true->(d5 p f k s).testBit j=true
 |0,_,_,h=>h
 |k+1,s,hs,h=>fun j hj=>by
  show(if bT p f s=s then s else d5 p f k (bT p f s)).testBit j=true
  split
  ·exact h j hj
  ·exact sr hh hu (Nat.lt_of_le_of_lt (fM hs) hs) (fun j hj=>ot hh hu hs (fun a ha=>jB ha) h j hj) j hj
theorem yO (hp:b8 p)(hh:∀r,r∈p.rules.l->0<=r.head){m:Nat->Bool}(hu:gn p f m)(ho:∀j,m j=true->j<p.atoms.toNat/\f j=3){j:Nat}(hj:m j=true):(gre p f).testBit j=true:=by
 have:=hp.2
 refine sr hh hu (iI (by omega)) (fun j hj=>?_) j hj
 obtain⟨h1,h2⟩:=ho j hj
 rw[iH,decide_eq_true h1,decide_eq_true h2]
 rfl
theorem yP (hp:b8 p)(hr:∀r,r∈p.rules.l->aP r):gn p f (fun j=>(gre p f).testBit j):=by
 intro r h hm
 have hg:=qZ f hp
 obtain⟨_,_,h3⟩:=gh f hp
 have hk:=hr r h
 have hm:(gre p f).testBit r.head.toNat=true:=hm
 unfold gO at hg
 rw[Bool.not_eq_true',List.any_eq_false] at hg
 have h1:=hg r.head.toNat (Tb.mem_memN.2 ⟨gP h3 hm,hm⟩)
 have h1:(ofH p.rules.l (r.head.toNat:Int)).any (ce f (gre p f))=false:=by simpa using h1
 rw[List.any_eq_false] at h1
 have h2:=h1 r (sq.2 ⟨h,by have:=hk.2.1;omega⟩)
 unfold ce at h2
 have h2:r.body.l.any (gK f (gre p f))=true:=by simpa using h2
 exact h2
theorem yQ (hpn:p.atoms.toNat=n)(hp:b8 p)(ha:Agr n v f)(hr:∀r,r∈p.rules.l->aP r)(hrn:∀r,r∈p.rules.l->ct n r)(j:Nat):(grR v p).getD j false=(gre p f).testBit j:=by
 rw[Bool.eq_iff_iff]
 constructor
 ·intro h
  refine yO hp (fun r h=>(hr r h).2.1) (yM ha hrn) (fun k hk=>?_) h
  have hk:(grR v p).getD k false=true:=hk
  have h1:k<n:=by
   rcases Nat.lt_or_ge k n with h|h
   ·exact h
   ·rw[List.getD_eq_getElem?_getD,List.getElem?_eq_none (by rw[rW,ha.len];exact h)] at hk
    cases hk
  exact⟨by rw[hpn];exact h1,by rw[<-ha.get k h1];exact r8 hk⟩
 ·intro h
  refine yN ha hrn (yP hp hr) (fun k hk=>?_) h
  have hk:(gre p f).testBit k=true:=hk
  have:=(gh f hp).2.1 k hk
  rw[iH,Bool.and_eq_true,decide_eq_true_eq,decide_eq_true_eq,hpn] at this
  exact this
theorem su {q:Nat->Bool}:∀{k n:Nat},(∀j,n<=j->q j=false)->(List.range (n+k)).filter q=(List.range n).filter q
 |0,_,_=>rfl
 |k+1,n,h=>by
  rw[<-Nat.add_assoc,List.range_succ,List.filter_append,su h,List.filter_cons,if_neg (by rw[h (n+k) (by omega)];decide)]
  exact List.append_nil _
theorem yR (hpn:p.atoms.toNat=n)(hp:b8 p)(ha:Agr n v f)(hr:∀r,r∈p.rules.l->aP r)(hrn:∀r,r∈p.rules.l->ct n r):gm v p=bC (gre p f):=by
 have hn24:n<=24:=by have:=hp.2;omega
 unfold gm aV bC
 rw[ha.len]
 congr 1
 show _=(List.range 24).filter (fun j=>(gre p f).testBit j)
 rw[show 24=n+(24-n) by omega,su (fun j hj=>?_)]
 ·congr 1
  funext j
  exact yQ hpn hp ha hr hrn j
 ·cases hb:(gre p f).testBit j with
  |false=>rfl
  |true=>
   have:=(gh f hp).2.1 j hb
   rw[iH,Bool.and_eq_true,decide_eq_true_eq,hpn] at this
   omega
theorem yS (hpn:p.atoms.toNat=n)(hp:b8 p)(ha:Agr n v f)(hr:∀r,r∈p.rules.l->aP r)(hrn:∀r,r∈p.rules.l->ct n r):bf v p=ak p f/\cv v p=bl p f:=by
 have h1:ez v p=bm p f:=sg (fun r h=>yK ha (hrn r h))
 have h2:=yR hpn hp ha hr hrn
 unfold bf ak cv bl
 rw[h1,h2]
 refine⟨rfl,?_⟩
 congr 1
 obtain⟨_,_,h3⟩:=gh f hp
 rw[Bool.eq_iff_iff,decide_eq_true_eq,bne_iff_ne,gg]
 constructor
 ·rintro h e
  rw[e] at h
  exact absurd h (by decide)
 ·intro h
  rcases Nat.eq_zero_or_pos (aj (gre p f)).length with h0|h0
  ·exact absurd (Tb.zero_of_mem h3 (List.length_eq_zero_iff.1 h0)) h
  ·exact h0
theorem sw {x:Int}:∀{l v:List Int} {j:Nat},j<v.length->(∀a,a∈l->0<=a)->(dy x v l).getD j 0=if (j:Int)∈l then x else v.getD j 0
 |[],_,_,_,_=>by rw[if_neg (by simp)];rfl
 |a::l,v,j,hj,hl=>by
  show(dy x (v.set a.toNat x) l).getD j 0=_
  have ha:=hl a List.mem_cons_self
  rw[sw (by rw[List.length_set];exact hj) (fun b hb=>hl b (List.mem_cons_of_mem _ hb))]
  by_cases h:(j:Int)∈l
  ·rw[if_pos h,if_pos (List.mem_cons_of_mem _ h)]
  ·rw[if_neg h,List.getD_eq_getElem?_getD,List.getElem?_set]
   by_cases he:a.toNat=j
   ·rw[if_pos he,if_pos (by omega),if_pos (by rw[List.mem_cons];exact .inl (by omega))]
    rfl
   ·rw[if_neg he,if_neg (by rw[List.mem_cons];rintro (h1|h1);exact he (by omega);exact h h1),<-List.getD_eq_getElem?_getD]
theorem yT (hp:b8 p)(ha:Agr n v f)(hr:∀r,r∈p.rules.l->aP r)(hh:cZ p)(hpn:p.atoms.toNat=n)(hb:bl p f=true):Agr n (ey v (bV (ak p f))) (bU f (ak p f)):=by
 have hat:=(nP (v:=f) hp hr hh).1
 have h0:∀a,a∈(ak p f).atoms->0<=a:=fun a h=>(hat a h).1
 have key:∀j,j<n->(ey v (bV (ak p f))).getD j 0=bU f (ak p f) j/\(bU f (ak p f) j=db (bV (ak p f))∨bU f (ak p f) j=f j):=by
  intro j hj
  have e:(ey v (bV (ak p f))).getD j 0=if (j:Int)∈(ak p f).atoms then db (bV (ak p f)) else v.getD j 0:=sw (by rw[ha.len];exact hj) h0
  rw[e,ha.get j hj]
  unfold bU
  by_cases hs:(ak p f).rule = -1
  ·have e1:db (bV (ak p f))=1:=if_pos hs
   rw[if_pos hs,e1]
   unfold ep
   rw[q0]
   by_cases hm:(j:Int)∈(ak p f).atoms
   ·rw[if_pos hm,if_pos (List.any_eq_true.2 ⟨_,hm,by simp⟩)]
    exact⟨rfl,.inl rfl⟩
   ·rw[if_neg hm,if_neg (by
     rw[List.any_eq_true]
     rintro ⟨a,h1,h2⟩
     rw[beq_iff_eq] at h2
     have:=h0 a h1
     exact hm (by rw[show(j:Int)=a by omega];exact h1))]
    exact⟨rfl,.inr rfl⟩
  ·have e1:db (bV (ak p f))=2:=if_neg hs
   have hf:0<=bm p f:=by
    by_cases h:0<=bm p f
    ·exact h
    ·exact absurd (lm hp h hb).1 (fun e=>hs (by rw[e]))
   have hn:ak p f=⟨bm p f,[(p.rules.l.getD (bm p f).toNat default).head]⟩:=if_pos hf
   rw[if_neg hs,e1]
   have h1:=h0 (p.rules.l.getD (bm p f).toNat default).head (by rw[hn];exact List.mem_cons_self)
   rw[hn]
   unfold fJ
   show(if (j:Int)∈[(p.rules.l.getD (bm p f).toNat default).head] then 2 else f j)=(if j=((p.rules.l.getD (bm p f).toNat default).head).toNat then 2 else f j)/\_
   by_cases hm:j=((p.rules.l.getD (bm p f).toNat default).head).toNat
   ·rw[if_pos (by rw[List.mem_singleton];omega)]
    exact⟨(if_pos hm).symm,.inl (if_pos hm)⟩
   ·rw[if_neg (by rw[List.mem_singleton];omega)]
    exact⟨(if_neg hm).symm,.inr (if_neg hm)⟩
 refine⟨jQ.trans ha.len,fun j hj=>(key j hj).1,fun j hj=>?_⟩
 rcases(key j hj).2 with h|h
 ·rw[h]
  unfold db
  split
  ·exact .inl rfl
  ·exact .inr (.inl rfl)
 ·rw[h];exact ha.val j hj
theorem sx (hp:b8 p)(hr:∀r,r∈p.rules.l->aP r)(hrn:∀r,r∈p.rules.l->ct n r)(hh:cZ p)(hpn:p.atoms.toNat=n):∀{k k':Nat} {v:List Int} {f:Nat->Int} {l:List Stp},Agr n v f->cH v<k->cD p f<k'->(eA p k v l).1=(dx p k' f l).1/\Agr n (eA p k v l).2 (dx p k' f l).2
 |0,_,_,_,_,_,h,_=>absurd h (Nat.not_lt_zero _)
 |_+1,0,_,_,_,_,_,h=>absurd h (Nat.not_lt_zero _)
 |k+1,k'+1,v,f,l,ha,h1,h2=>by
  obtain⟨e1,e2⟩:=yS hpn hp ha hr hrn
  show(if cv v p then eA p k (ey v (bV (bf v p))) (l++[bf v p]) else(l,v)).1=(if bl p f then dx p k' (bU f (ak p f)) (l++[ak p f]) else(l,f)).1/\Agr n (if cv v p then eA p k (ey v (bV (bf v p))) (l++[bf v p]) else(l,v)).2 (if bl p f then dx p k' (bU f (ak p f)) (l++[ak p f]) else(l,f)).2
  cases hb:bl p f with
  |false=>
   rw[e2,hb]
   exact⟨rfl,ha⟩
  |true=>
   have l1:=sc (v:=v) (p:=p) (by rw[ha.len];exact hrn) (e2.trans hb)
   have l2:=lp hp hr hh hb
   rw[e2,hb,if_pos rfl,if_pos rfl,e1]
   rw[e1] at l1
   exact sx hp hr hrn hh hpn (yT hp ha hr hh hpn hb) (by omega) (by omega)
theorem sy (hp:b8 p)(hr:∀r,r∈p.rules.l->aP r)(hrn:∀r,r∈p.rules.l->ct n r)(hh:cZ p)(hpn:p.atoms.toNat=n):(bI p n).1=(am p).1/\Agr n (bI p n).2 (am p).2:=by
 refine sx hp hr hrn hh hpn ⟨List.length_replicate,fun j hj=>?_,fun j hj=>.inr (.inr rfl)⟩ ?_ ?_
 ·rw[List.getD_eq_getElem?_getD,List.getElem?_replicate_of_lt hj]
  rfl
 ·refine Nat.lt_succ_of_le ?_
  have:cH (List.replicate n 3)<=(List.replicate n (3:Int)).length:=List.count_le_length
  rw[List.length_replicate] at this
  exact this
 ·have:=ln p (fun _=>3)
  have:=hp.2
  omega
end
end Go.Avm.Pack
namespace Go.Avm.Pack
open Go Go.Avm Go.Proofs
open Go.IntKind (i64 u64)
open Go.Avm.AV (int bool any fz fp sl ow ref fn ifc val agg tup)
open Go.Avm.AObj (cells dead)
open Go.Avm.Oc (ret)
set_option maxRecDepth 4000
def hgL (x:List Bool × Bool)(l:Lit):List Bool × Bool:=if x.1.getD l.atom.toNat false then x else(x.1.set l.atom.toNat true,true)
def hgU (x:List Bool × Bool)(r:Rule):List Bool × Bool:=if x.1.getD r.head.toNat false then r.body.l.foldl hgL x else x
def hgD (p:Prg)(s:List Bool):List Bool × Bool:=p.rules.l.foldl hgU (s,false)
def hgI (p:Prg):Nat->List Bool->List Bool
 |0,s=>s
 |k+1,s=>if (hgD p s).2 then hgI p k (hgD p s).1 else s
def hgR (p:Prg)(n a:Nat):List Bool:=hgI p (n+1) ((List.replicate n false).set a true)
def cw (s:List Bool):Nat:=s.count false
theorem yU {s:List Bool}:∀{i:Nat},i<s.length->s.getD i false=false->cw (s.set i true)+1=cw s:=by
 induction s with
 |nil=>exact fun h=>absurd h (Nat.not_lt_zero _)
 |cons b s ih=>
  intro i hi h
  cases i with
  |zero=>
   cases b with
   |true=>exact absurd h (by simp)
   |false=>unfold cw;simp
  |succ i=>
   have ih:=ih (i:=i) (by simpa using hi) (by simpa using h)
   unfold cw at ih ⊢
   rw[List.set_cons_succ,List.count_cons,List.count_cons]
   omega
structure HgS (x y:List Bool × Bool):Prop where
 len:y.1.length=x.1.length
 up:∀k,x.1.getD k false=true->y.1.getD k false=true
 ch:x.2=true->y.2=true
 cnt:cw y.1<=cw x.1
 less:y.2=true->x.2=false->cw y.1<cw x.1
 same:y.2=false->y.1=x.1
theorem HgS.refl (x:List Bool × Bool):HgS x x:=⟨rfl,fun _ h=>h,fun h=>h,Nat.le_refl _,fun h1 h2=>absurd (h1.symm.trans h2) (by decide),fun _=>rfl⟩
theorem HgS.trans {x y z:List Bool × Bool}(h:HgS x y)(k:HgS y z):HgS x z:=by
 refine⟨k.len.trans h.len,fun j hj=>k.up j (h.up j hj),fun hx=>k.ch (h.ch hx),Nat.le_trans k.cnt h.cnt,fun h1 h2=>?_,fun h1=>?_⟩
 ·cases hy:y.2 with
  |true=>exact Nat.lt_of_le_of_lt k.cnt (h.less hy h2)
  |false=>exact Nat.lt_of_lt_of_le (k.less h1 hy) h.cnt
 ·have hy:y.2=false:=by
   cases hy:y.2 with
   |false=>rfl
   |true=>rw[k.ch hy] at h1;cases h1
  exact(k.same h1).trans (h.same hy)
theorem yV {s:List Bool}{i k:Nat}(h:s.getD k false=true):(s.set i true).getD k false=true:=by
 rw[List.getD_eq_getElem?_getD] at h ⊢
 rw[List.getElem?_set]
 split
 ·split
  ·rfl
  ·rename_i e hn
   subst e
   rw[List.getElem?_eq_none (by omega)] at h
   cases h
 ·exact h
theorem yW {u:List Bool}{d:Bool}{l:Lit}:hgL (u,d) l=if u.getD l.atom.toNat false=true then(u,d) else(u.set l.atom.toNat true,true):=rfl
theorem sz {x:List Bool × Bool}{l:Lit}(h:l.atom.toNat<x.1.length):HgS x (hgL x l):=by
 unfold hgL
 by_cases hb:x.1.getD l.atom.toNat false=true
 ·rw[if_pos hb];exact HgS.refl x
 ·rw[if_neg hb]
  have:=yU h (by simpa using hb)
  exact⟨List.length_set,fun k hk=>yV hk,fun _=>rfl,by show cw (x.1.set _ true)<=_;omega,fun _ _=>by show cw (x.1.set _ true)<_;omega,fun h=>by cases h⟩
theorem lE:∀{l:List Lit} {x:List Bool × Bool},(∀y,y∈l->y.atom.toNat<x.1.length)->HgS x (l.foldl hgL x)
 |[],x,_=>HgS.refl x
 |y::l,x,h=>by
  have h1:=sz (x:=x) (h y List.mem_cons_self)
  exact h1.trans (lE (fun z hz=>by rw[h1.len];exact h z (List.mem_cons_of_mem _ hz)))
theorem sA {n:Nat}{l:List Lit}(h:∀y,y∈l->0<=y.atom/\y.atom<n):∀y,y∈l->y.atom.toNat<n:=fun y hy=>by have:=h y hy;omega
theorem sB {x:List Bool × Bool}{r:Rule}(h:dl x.1.length r):HgS x (hgU x r):=by
 unfold hgU
 split
 ·exact lE (sA h.2)
 ·exact HgS.refl x
theorem gW:∀{l:List Rule} {x:List Bool × Bool},(∀r,r∈l->dl x.1.length r)->HgS x (l.foldl hgU x)
 |[],x,_=>HgS.refl x
 |r::l,x,h=>by
  have h1:=sB (x:=x) (h r List.mem_cons_self)
  exact h1.trans (gW (fun q hq=>by rw[h1.len];exact h q (List.mem_cons_of_mem _ hq)))
structure HgOk (p:Prg)(n a:Nat)(x:List Bool × Bool):Prop where
 len:x.1.length=n
 go:x.2=true->∃f,cw x.1<f/\hgI p f x.1=hgR p n a
 stop:x.2=false->x.1=hgR p n a
theorem yX {p:Prg}{n a:Nat}{s:List Bool}(hr:∀r,r∈p.rules.l->dl n r)(h:HgOk p n a (s,true)):HgOk p n a (hgD p s)/\(if (hgD p s).2 then cw (hgD p s).1+1 else 0)<cw s+1:=by
 obtain⟨h1,h2,_⟩:=h
 obtain⟨f,f1,f2⟩:=h2 rfl
 have f1:cw s<f:=f1
 have h1:s.length=n:=h1
 obtain⟨c1,c2,c3,c4,c5,c6⟩:=gW (l:=p.rules.l) (x:=(s,false)) (by rw[show(s,false).1.length=n from h1];exact hr)
 obtain⟨f,rfl⟩:∃k,f=k+1:=⟨f-1,by omega⟩
 have f3:(if (hgD p s).2 then hgI p f (hgD p s).1 else s)=hgR p n a:=f2
 refine⟨⟨c1.trans h1,fun h=>⟨f,?_,?_⟩,fun h=>?_⟩,?_⟩
 ·have:cw (hgD p s).1<cw s:=c5 h rfl
  omega
 ·rw[if_pos h] at f3
  exact f3
 ·rw[if_neg (by rw[h];decide)] at f3
  exact(c6 h).trans f3
 ·split
  ·rename_i h
   have:cw (hgD p s).1<cw s:=c5 h rfl
   omega
  ·omega
theorem sC {p:Prg}{n:Nat}(hr:∀r,r∈p.rules.l->dl n r):∀{k:Nat} {s:List Bool},s.length=n->(hgI p k s).length=n
 |0,_,h=>h
 |k+1,s,h=>by
  show(if (hgD p s).2 then hgI p k (hgD p s).1 else s).length=n
  split
  ·exact sC hr ((gW (l:=p.rules.l) (x:=(s,false)) (by rw[show(s,false).1.length=n from h];exact hr)).len.trans h)
  ·exact h
theorem ou {p:Prg}{n a:Nat}(hr:∀r,r∈p.rules.l->dl n r):(hgR p n a).length=n:=sC hr (by rw[List.length_set,List.length_replicate])
theorem yY {c:Bool}:(bif c then false else false)=false:=by cases c <;> rfl
theorem yZ (R:Res)(p:Prg)(n a:Nat)(hn:0<n/\n<=1000)(ha:a<n)(hpa:p.atoms=n)(hpl:p.rules.l.length<1000000)(hr:∀r,r∈p.rules.l->ct n r)(g:R.σ):Does Tryd.prog R 74 [ay p,.int .i64 a] [] g (.ret (.ow true 0 n 1)) [.cells false (n*1) (aF (hgR p n a))] g:=by
 have hroom:aG=140737488355328:=rfl
 have hrl:∀r,r∈p.rules.l->dl n r:=fun r h=>(hr r h).1
 have hRl:(hgR p n a).length=n:=ou hrl
 refine az (nt:=62) (rs:=[.tmp 4]) (k0:=0) (by kernel_rfl) (by kernel_rfl) (by kernel_rfl) rfl ?_
 refine vcQ [] (lkL [(0,[1,2]),(1,[1,2,5]),(2,[2,5]),(3,[2,5,6])]) (fun _=>[]) (fun Q=>1<=2/\0<=p.atoms/\p.atoms<=p.atoms/\p.atoms<=140737488355328/\p.atoms.toNat*1<=aG/\(0<=(a:Int)/\(a:Int)<(↑(p.atoms.toNat):Int))/\a+1<=p.atoms.toNat*1/\Wp Tryd.prog R 62 0 Rd.top (af Tryd.prog 74) [1,1,1,0,1,0] (aq Tryd.prog R 62 0 Rd.top (af Tryd.prog 74) Q [Kont.blk 0,Kont.seq [1,1,1,1]]) (St.mk [(2,ref 0 0),(5,sl 1 0 (p.atoms.toNat) (p.atoms.toNat) true 1),(6,AV.bool true)] [cells false 2 (nth [int i64 p.atoms,ae p.rules]),cells false (p.atoms.toNat*1) (ah (fun (j:Nat)=>AV.bool false) a 1 fun (x:Nat)=>AV.bool true)] g)) (fun _=>by kernel_rfl) ⟨by omega,by omega,by omega,by omega,by omega,by omega,by omega,?_⟩
 rw[show p.atoms.toNat=n by omega]
 have hs0:((List.replicate n false).set a true).length=n:=by rw[List.length_set,List.length_replicate]
 refine bQ (aX (s':=⟨[(2,.ref 0 0),(5,.ow true 1 n 1),(6,.bool true)],[.cells false 2 (nth [.int .i64 p.atoms,ae p.rules]),.cells false (n*1) (aF ((List.replicate n false).set a true))],g⟩) ?_ ?_ rfl) ?_
 ·exact⟨Le.refl _,Le.sl_ow (by omega),Le.refl _,trivial⟩
 ·exact⟨LeO.refl _,⟨rfl,Nat.le_refl _,fun j _=>Le.of_eq ((congrFun (congrArg (fun z=>ah z a 1 fun _=>AV.bool true) (funext fun _=>yp.symm)) j).trans (rR (b:=lz n []) (by rw[yn];exact ha)))⟩,trivial⟩
 refine(bg (by kernel_rfl) (fun (x:List Bool × Bool)=>⟨[(2,ref 0 0),(5,ow true 1 n 1),(6,.bool x.2)],[.cells false 2 (nth [.int .i64 p.atoms,ae p.rules]),.cells false (n*1) (aF x.1)],g⟩) (fun (x:List Bool × Bool)=>(HgOk p n a x)) (fun (x:List Bool × Bool)=>(if x.2 then cw x.1+1 else 0)) ((List.replicate n false).set a true,true) (bh ⟨Le.refl _,Le.refl _,Le.refl _,trivial⟩ rfl rfl) ?_ (fun x hi=>?_))
 ·exact⟨hs0,fun _=>⟨n+1,Nat.lt_succ_of_le (by have:=List.count_le_length (a:=false) (l:=(List.replicate n false).set a true);rw[hs0] at this;exact this),rfl⟩,fun h=>by cases h⟩
 ·obtain⟨s,ch⟩:=x
  have hok:=hi
  obtain⟨h1,h2,h3⟩:=hi
  simp only at h1 h2 h3
  cases ch with
  |false=>
   rw[h3 rfl]
   refine vcQ [[1,1,1,0,1,0,0,0,1,0]] (lkL [(4,[2,5,16])]) (fun _=>[]) (fun Q=>(fun (u1:St R.σ)=>(false=true->Wp Tryd.prog R 62 0 Rd.top (af Tryd.prog 74) [1,1,1,0,1,0,0,0,1,0] (aq Tryd.prog R 62 0 Rd.top (af Tryd.prog 74) Q [Kont.seq [1,1,1,0,1,0,0,1]]) u1)/\(false=false->Q (AEx.exit 0) u1)) (St.mk [(2,ref 0 0),(5,ow true 1 n 1),(16,AV.bool false)] [cells false 2 (nth [int i64 p.atoms,ae p.rules]),cells false (n*1) fun (a_1:Nat)=>aF (hgR p n a) a_1] g)) (fun _=>by kernel_rfl) ⟨fun h=>(nomatch h),fun _=>?_⟩
   refine⟨_,To.refl _,vcQ [] (lkL [(16,[4])]) (fun _=>[]) (fun Q=>Q AEx.ret (St.mk [(4,ow true 1 n 1)] [cells false 2 (nth [int i64 p.atoms,ae p.rules]),cells false (n*1) fun (a_1:Nat)=>aF (hgR p n a) a_1] g)) (fun _=>by kernel_rfl) (?_)⟩
   show bw Tryd.prog R 0 _ _ _ _ .ret _
   exact dh (.ow true 1 n 1) _ rfl trivial (a9 (s':=⟨[(0,.ow true 0 n 1)],[.cells false (n*1) (aF (hgR p n a))],g⟩) [1] 2 rfl rfl rfl rfl rfl ⟨Le.refl _,trivial⟩ ⟨LeO.refl _,trivial⟩)
  |true=>
   have hnx:=yX hrl hok
   refine vcQ [[1,1,1,0,1,0,0,0,1,1]] (lkL [(4,[2,5,16]),(5,[2,5,6]),(6,[2,5,6,7])]) (fun _=>[]) (fun Q=>(fun (u1:List AObj)=>(true=true->Wp Tryd.prog R 62 0 Rd.top (af Tryd.prog 74) [1,1,1,0,1,0,0,1,0,1,1,0] (aq Tryd.prog R 62 0 Rd.top (af Tryd.prog 74) Q [Kont.blk 2,Kont.blk 1]) (St.mk [(2,ref 0 0),(5,ow true 1 n 1),(6,AV.bool false),(7,int i64 0)] u1 g))/\(true=false->Wp Tryd.prog R 62 0 Rd.top (af Tryd.prog 74) [1,1,1,0,1,0,0,0,1,1] (aq Tryd.prog R 62 0 Rd.top (af Tryd.prog 74) Q [Kont.seq [1,1,1,0,1,0,0,1]]) (St.mk [(2,ref 0 0),(5,ow true 1 n 1),(16,AV.bool true)] u1 g))) ([cells false 2 (nth [int i64 p.atoms,ae p.rules]),cells false (n*1) fun (a:Nat)=>aF s a])) (fun _=>by kernel_rfl) ⟨fun _=>?_,fun h=>(nomatch h)⟩
   refine(bg (by kernel_rfl) (fun (i:Nat)=>⟨[(2,ref 0 0),(5,ow true 1 n 1),(6,.bool ((p.rules.l.take i).foldl hgU (s,false)).2),(7,.int .i64 i)],[.cells false 2 (nth [.int .i64 p.atoms,ae p.rules]),.cells false (n*1) (aF ((p.rules.l.take i).foldl hgU (s,false)).1)],g⟩) (fun (i:Nat)=>(i<=p.rules.l.length)) (fun (i:Nat)=>(p.rules.l.length-i)) 0 (bh ⟨Le.refl _,Le.refl _,Le.refl _,(Le.of_eq (by kernel_rfl)),trivial⟩ rfl rfl) ?_ (fun i hi=>?_))
   ·exact Nat.zero_le _
   ·rcases Nat.lt_or_ge i p.rules.l.length with hlt|hge
    ·have hm:=hr _ (fc hlt)
     have hm1:=hm.1
     have hm2:=hm.2
     have hbl:=hm1.1
     have hst:=iM hgU (s,false) p.rules.l default hlt
     have hyl:=(gW (l:=p.rules.l.take i) (x:=(s,false)) (fun r h=>by rw[show(s,false).1.length=n from h1];exact hrl r (List.mem_of_mem_take h))).len
     obtain⟨y,hy⟩:∃y,(p.rules.l.take i).foldl hgU (s,false)=y:=⟨_,rfl⟩
     rw[hy] at hst hyl ⊢
     have hyl:y.1.length=n:=hyl.trans h1
     obtain⟨t,b⟩:=y
     have hyl:t.length=n:=hyl
     cases hb:t.getD (p.rules.l.getD i default).head.toNat false with
     |false=>
      have hu:hgU (t,b) (p.rules.l.getD i default)=(t,b):=if_neg (by show ¬(t.getD _ _=true);rw[hb];decide)
      rw[hu] at hst
      refine vcQ [] (lkL [(7,[2,5,6,7,21]),(9,[2,5,6,7,8]),(10,[2,5,6,7,8,9])]) (lkL [(9,[(6,ROrc.val (Orc.obj (nth [int i64 (p.rules.l.getD i default).head,al (p.rules.l.getD i default).body])))])]) (fun Q=>(fun (u1:Int)=>(fun (u2:List AV)=>(fun (u3:Int)=>(fun (u4:AObj)=>2<=2/\(decide (u3<u1)=true->2<=2/\(0<=u3/\u3<u1)/\2<=2/\2<=2/\(∀(c:Nat),c<2->nth u2 c=ah (nth [int i64 0,fz Fz.nil 0 0 fun _ _=>any]) 0 2 (List.brecOn (motive:=fun (x:List AV)=>Nat->AV) u2 nth._f) c)/\Wp Tryd.prog R 62 0 Rd.top (af Tryd.prog 74) [1,1,1,0,1,0,0,1,0,1,1,0,0,1,0,0,1,1,0] (aq Tryd.prog R 62 0 Rd.top (af Tryd.prog 74) Q [Kont.blk 4,Kont.blk 3,Kont.seq [1,1,1,0,1,0,0,1,0,1,1,0,0,1,1]]) (St.mk [(2,ref 0 0),(5,ow true 1 n 1),(6,AV.bool b),(7,int i64 u3),(8,ref 2 0),(9,int i64 0)] [u4,cells false (n*1) fun (a:Nat)=>aF t a,cells false 2 (nth u2)] g))/\(decide (u3<u1)=false->Q (AEx.exit 2) (St.mk [(2,ref 0 0),(5,ow true 1 n 1),(6,AV.bool b),(7,int i64 u3),(21,AV.bool (decide (u3<u1)))] [u4,cells false (n*1) fun (a:Nat)=>aF t a] g))) (cells false 2 (nth [int i64 p.atoms,ae p.rules]))) ((i:Int))) ([int i64 (p.rules.l.getD i default).head,al (p.rules.l.getD i default).body])) ((p.rules.l.length:Int))) (fun _=>by kernel_rfl) ⟨by omega,fun c1=>have c1:(i:Int)<(p.rules.l.length:Int):=(of_decide_eq_true c1);⟨by omega,by omega,by omega,by omega,(fun c hc=>match c,hc with|0,_=>(by kernel_rfl)|1,_=>(by kernel_rfl) ),?_⟩,fun c1=>have c1:¬(i:Int)<(p.rules.l.length:Int):=(of_decide_eq_false c1);?_⟩
      ·refine(bg (by kernel_rfl) (fun (k:Nat)=>⟨[(2,ref 0 0),(5,ow true 1 n 1),(6,.bool b),(7,int i64 (i:Int)),(8,ref 2 0),(9,.int .i64 k)],[cells false 2 (nth [int i64 p.atoms,ae p.rules]),cells false (n*1) fun (a:Nat)=>aF t a,cells false 2 (nth [int i64 (p.rules.l.getD i default).head,al (p.rules.l.getD i default).body])],g⟩) (fun (k:Nat)=>(k=0)) (fun (k:Nat)=>0) 0 (bh ⟨Le.refl _,Le.refl _,Le.refl _,Le.refl _,Le.refl _,(Le.of_eq (by kernel_rfl)),trivial⟩ rfl rfl) ?_ (fun k hi=>?_))
       ·rfl
       ·subst hi
        have hknow:(bif decide (((0:Nat):Int)<((p.rules.l.getD i default).body.l.length:Int)) then t.getD (p.rules.l.getD i default).head.toNat false else false)=false:=by rw[hb];exact yY
        refine vcQ [[1,1,1,0,1,0,0,1,0,1,1,0,0,1,0,0,1,1,0,0,0,1,0]] (lkL [(11,[2,5,6,7,8,9,40])]) (fun _=>[]) (fun Q=>(fun (u1:Int)=>(fun (u2:St R.σ)=>(fun (u3:Int)=>(fun (u4:Bool)=>(fun (u5:Bool)=>2<=2/\(u4=true->1<=2)/\(u4=true->0<=u3/\u3<(n:Int))/\(u4=true->u3.toNat+1<=n*1)/\(u5=true->Wp Tryd.prog R 62 0 Rd.top (af Tryd.prog 74) [1,1,1,0,1,0,0,1,0,1,1,0,0,1,0,0,1,1,0,0,0,1,0] (aq Tryd.prog R 62 0 Rd.top (af Tryd.prog 74) Q [Kont.seq [1,1,1,0,1,0,0,1,0,1,1,0,0,1,0,0,1,1,0,0,1]]) u2)/\(u5=false->Q (AEx.exit 4) u2)) (bif u4 then t.getD (u3.toNat) false else false)) (decide ((↑0:Int)<u1))) ((p.rules.l.getD i default).head)) (St.mk [(2,ref 0 0),(5,ow true 1 n 1),(6,AV.bool b),(7,int i64 (i:Int)),(8,ref 2 0),(9,int i64 (↑0:Int)),(40,AV.bool (bif decide ((↑0:Int)<u1) then t.getD ((p.rules.l.getD i default).head.toNat) false else false))] [cells false 2 (nth [int i64 p.atoms,ae p.rules]),cells false (n*1) fun (a:Nat)=>aF t a,cells false 2 (nth [int i64 (p.rules.l.getD i default).head,al (p.rules.l.getD i default).body])] g)) ((↑((p.rules.l.getD i default).body.l.length):Int))) (fun _=>by kernel_rfl) ⟨by omega,by omega,by omega,by omega,fun hcc=>(nomatch (hknow.symm.trans hcc)),fun _=>?_⟩
        refine⟨_,To.refl _,vcQ [] (lkL [(8,[2,5,6,7])]) (fun _=>[]) (fun Q=>(-9223372036854775808<=(i:Int)+1/\(i:Int)+1<=9223372036854775807)/\Q AEx.normal (St.mk [(2,ref 0 0),(5,ow true 1 n 1),(6,AV.bool b),(7,int i64 ((i:Int)+1))] [cells false 2 (nth [int i64 p.atoms,ae p.rules]),cells false (n*1) fun (a:Nat)=>aF t a,cells false 2 (nth [int i64 (p.rules.l.getD i default).head,al (p.rules.l.getD i default).body])] g)) (fun _=>by kernel_rfl) ⟨by omega,?_⟩⟩
        refine(aL (i+1) (a9 [0,1] 3 rfl rfl rfl rfl rfl ⟨Le.refl _,Le.refl _,Le.of_eq ?_,Le.refl _,trivial⟩ ⟨⟨rfl,Nat.le_refl _,fun j hj=>match j,hj with|0,_=>(Le.refl _)|1,_=>(Le.refl _) ⟩,?_,trivial⟩) ?_ ?_)
        ·show AV.bool _=AV.bool _
         rw[hst]
        ·exact⟨rfl,Nat.le_refl _,fun j _=>by
          rw[hst]
          exact Le.of_eq rfl⟩
        ·omega
        ·omega
      ·exfalso;omega
     |true=>
      have hu:hgU (t,b) (p.rules.l.getD i default)=(p.rules.l.getD i default).body.l.foldl hgL (t,b):=if_pos hb
      rw[hu] at hst
      refine vcQ [] (lkL [(7,[2,5,6,7,21]),(9,[2,5,6,7,8]),(10,[2,5,6,7,8,9])]) (lkL [(9,[(6,ROrc.val (Orc.obj (nth [int i64 (p.rules.l.getD i default).head,al (p.rules.l.getD i default).body])))])]) (fun Q=>(fun (u1:Int)=>(fun (u2:List AV)=>(fun (u3:Int)=>(fun (u4:AObj)=>2<=2/\(decide (u3<u1)=true->2<=2/\(0<=u3/\u3<u1)/\2<=2/\2<=2/\(∀(c:Nat),c<2->nth u2 c=ah (nth [int i64 0,fz Fz.nil 0 0 fun _ _=>any]) 0 2 (List.brecOn (motive:=fun (x:List AV)=>Nat->AV) u2 nth._f) c)/\Wp Tryd.prog R 62 0 Rd.top (af Tryd.prog 74) [1,1,1,0,1,0,0,1,0,1,1,0,0,1,0,0,1,1,0] (aq Tryd.prog R 62 0 Rd.top (af Tryd.prog 74) Q [Kont.blk 4,Kont.blk 3,Kont.seq [1,1,1,0,1,0,0,1,0,1,1,0,0,1,1]]) (St.mk [(2,ref 0 0),(5,ow true 1 n 1),(6,AV.bool b),(7,int i64 u3),(8,ref 2 0),(9,int i64 0)] [u4,cells false (n*1) fun (a:Nat)=>aF t a,cells false 2 (nth u2)] g))/\(decide (u3<u1)=false->Q (AEx.exit 2) (St.mk [(2,ref 0 0),(5,ow true 1 n 1),(6,AV.bool b),(7,int i64 u3),(21,AV.bool (decide (u3<u1)))] [u4,cells false (n*1) fun (a:Nat)=>aF t a] g))) (cells false 2 (nth [int i64 p.atoms,ae p.rules]))) ((i:Int))) ([int i64 (p.rules.l.getD i default).head,al (p.rules.l.getD i default).body])) ((p.rules.l.length:Int))) (fun _=>by kernel_rfl) ⟨by omega,fun c1=>have c1:(i:Int)<(p.rules.l.length:Int):=(of_decide_eq_true c1);⟨by omega,by omega,by omega,by omega,(fun c hc=>match c,hc with|0,_=>(by kernel_rfl)|1,_=>(by kernel_rfl) ),?_⟩,fun c1=>have c1:¬(i:Int)<(p.rules.l.length:Int):=(of_decide_eq_false c1);?_⟩
      ·refine(bg (by kernel_rfl) (fun (k:Nat)=>⟨[(2,ref 0 0),(5,ow true 1 n 1),(6,.bool (((p.rules.l.getD i default).body.l.take k).foldl hgL (t,b)).2),(7,int i64 (i:Int)),(8,ref 2 0),(9,.int .i64 k)],[.cells false 2 (nth [.int .i64 p.atoms,ae p.rules]),.cells false (n*1) (aF (((p.rules.l.getD i default).body.l.take k).foldl hgL (t,b)).1),.cells false 2 (nth [.int .i64 (p.rules.l.getD i default).head,al (p.rules.l.getD i default).body])],g⟩) (fun (k:Nat)=>(k<=(p.rules.l.getD i default).body.l.length)) (fun (k:Nat)=>((p.rules.l.getD i default).body.l.length-k)) 0 (bh ⟨Le.refl _,Le.refl _,Le.refl _,Le.refl _,Le.refl _,(Le.of_eq (by kernel_rfl)),trivial⟩ rfl rfl) ?_ (fun k hi=>?_))
       ·exact Nat.zero_le _
       ·rcases Nat.lt_or_ge k (p.rules.l.getD i default).body.l.length with hlk|hgk
        ·have hml:=hm1.2 _ (bN (p.rules.l.getD i default).body.l default hlk)
         have hsk:=iM hgL (t,b) (p.rules.l.getD i default).body.l default hlk
         have hzs:=lE (l:=(p.rules.l.getD i default).body.l.take k) (x:=(t,b)) (fun y hy=>by have:=hm1.2 y (List.mem_of_mem_take hy);show _<t.length;omega)
         obtain⟨z,hz⟩:∃z,((p.rules.l.getD i default).body.l.take k).foldl hgL (t,b)=z:=⟨_,rfl⟩
         rw[hz] at hsk hzs ⊢
         obtain⟨u,d⟩:=z
         have hul:u.length=n:=hzs.len.trans hyl
         have hup:=hzs.up _ hb
         simp only at hup
         rw[yW] at hsk
         refine vcQ [] (lkL [(11,[2,5,6,7,8,9,40]),(13,[2,5,6,7,8,9,52]),(14,[2,5,7,8,9]),(15,[2,5,6,7,8,9]),(12,[2,5,6,7,8,9])]) (fun _=>[]) (fun Q=>(fun (u1:Rule)=>(fun (u2:Int)=>(fun (u3:Int)=>(fun (u4:Int)=>(fun (u5:List AObj)=>(fun (u6:Bool)=>2<=2/\(decide (u4<u2)=true->1<=2)/\(decide (u4<u2)=true->0<=u1.head/\u1.head<(n:Int))/\(decide (u4<u2)=true->u1.head.toNat+1<=n*1)/\(u6=true->2<=2/\(0<=u4/\u4<u2)/\1<=2/\(0<=u3/\u3<(n:Int))/\u3.toNat+1<=n*1/\((!u.getD (u3.toNat) false)=true->2<=2/\(0<=u4/\u4<u2)/\1<=2/\(0<=u3/\u3<(n:Int))/\u3.toNat+1<=n*1/\(-9223372036854775808<=u4+1/\u4+1<=9223372036854775807)/\Q AEx.normal (St.mk [(2,ref 0 0),(5,ow true 1 n 1),(6,AV.bool true),(7,int i64 (i:Int)),(8,ref 2 0),(9,int i64 (u4+1))] [cells false 2 (nth [int i64 p.atoms,ae p.rules]),cells false (n*1) (ah (aF u) (u3.toNat) 1 fun (x:Nat)=>AV.bool true),cells false 2 (nth [int i64 u1.head,al u1.body])] g))/\((!u.getD (u3.toNat) false)=false->(-9223372036854775808<=u4+1/\u4+1<=9223372036854775807)/\Q AEx.normal (St.mk [(2,ref 0 0),(5,ow true 1 n 1),(6,AV.bool d),(7,int i64 (i:Int)),(8,ref 2 0),(9,int i64 (u4+1))] u5 g)))/\(u6=false->Q (AEx.exit 4) (St.mk [(2,ref 0 0),(5,ow true 1 n 1),(6,AV.bool d),(7,int i64 (i:Int)),(8,ref 2 0),(9,int i64 u4),(40,AV.bool u6)] u5 g))) (bif decide (u4<u2) then u.getD (u1.head.toNat) false else false)) ([cells false 2 (nth [int i64 p.atoms,ae p.rules]),cells false (n*1) fun (a:Nat)=>aF u a,cells false 2 (nth [int i64 u1.head,al u1.body])])) ((k:Int))) ((u1.body.l.getD k default).atom)) ((u1.body.l.length:Int))) (p.rules.l.getD i default)) (fun _=>by kernel_rfl) ⟨by omega,by omega,by omega,by omega,fun c1=>have c1:(k:Int)<(↑((p.rules.l.getD i default).body.l.length):Int)/\u.getD ((p.rules.l.getD i default).head.toNat) false=true:=⟨(of_decide_eq_true (cV c1).1),(cV c1).2⟩;⟨by omega,by omega,by omega,by omega,by omega,fun c2=>have c2:u.getD (((p.rules.l.getD i default).body.l.getD k default).atom.toNat) false=false:=((Bool.not_eq_true' _).mp c2);⟨by omega,by omega,by omega,by omega,by omega,by omega,?_⟩,fun c2=>have c2:u.getD (((p.rules.l.getD i default).body.l.getD k default).atom.toNat) false=true:=((Bool.not_eq_false' _).mp c2);⟨by omega,?_⟩⟩,fun c1=>have c1:¬(k:Int)<(↑((p.rules.l.getD i default).body.l.length):Int)∨u.getD ((p.rules.l.getD i default).head.toNat) false=false:=((fB c1).imp (fun h=>(of_decide_eq_false h)) (fun h=>h));?_⟩
         ·have hng:¬(u.getD ((p.rules.l.getD i default).body.l.getD k default).atom.toNat false=true):=by rw[c2];decide
          rw[if_neg hng] at hsk
          refine(aL (k+1) (aX ⟨Le.refl _,Le.refl _,(Le.of_eq ?_),Le.refl _,Le.refl _,(Le.of_eq (by kernel_rfl)),trivial⟩ ⟨LeO.rflc,?_,LeO.rflc,trivial⟩ rfl) ?_ ?_)
          ·show AV.bool _=AV.bool _
           rw[hsk]
          ·exact⟨rfl,Nat.le_refl _,fun j _=>by
            rw[hsk]
            exact Le.of_eq (rR (by omega))⟩
          ·omega
          ·omega
         ·rw[if_pos c2] at hsk
          refine(aL (k+1) (aX ⟨Le.refl _,Le.refl _,(Le.of_eq ?_),Le.refl _,Le.refl _,(Le.of_eq (by kernel_rfl)),trivial⟩ ⟨LeO.rflc,?_,LeO.rflc,trivial⟩ rfl) ?_ ?_)
          ·show AV.bool _=AV.bool _
           rw[hsk]
          ·exact⟨rfl,Nat.le_refl _,fun j _=>by
            rw[hsk]
            exact Le.of_eq rfl⟩
          ·omega
          ·omega
         ·exfalso
          rcases c1 with c|c
          ·omega
          ·rw[hup] at c;cases c
        ·have hke:k=(p.rules.l.getD i default).body.l.length:=by omega
         subst hke
         rw[List.take_length]
         have hbb:decide (((p.rules.l.getD i default).body.l.length:Int)<((p.rules.l.getD i default).body.l.length:Int))=false:=decide_eq_false (by omega)
         rw[<-hst]
         have hknow:(bif decide (((p.rules.l.getD i default).body.l.length:Int)<((p.rules.l.getD i default).body.l.length:Int)) then((p.rules.l.take (i+1)).foldl hgU (s,false)).1.getD (p.rules.l.getD i default).head.toNat false else false)=false:=by rw[hbb];rfl
         refine vcQ [[1,1,1,0,1,0,0,1,0,1,1,0,0,1,0,0,1,1,0,0,0,1,0]] (lkL [(11,[2,5,6,7,8,9,40])]) (fun _=>[]) (fun Q=>(fun (u1:Int)=>(fun (u2:St R.σ)=>(fun (u3:Bool)=>(fun (u4:Int)=>2<=2/\(decide (u1<u1)=true->1<=2)/\(decide (u1<u1)=true->0<=u4/\u4<(n:Int))/\(decide (u1<u1)=true->u4.toNat+1<=n*1)/\(u3=true->Wp Tryd.prog R 62 0 Rd.top (af Tryd.prog 74) [1,1,1,0,1,0,0,1,0,1,1,0,0,1,0,0,1,1,0,0,0,1,0] (aq Tryd.prog R 62 0 Rd.top (af Tryd.prog 74) Q [Kont.seq [1,1,1,0,1,0,0,1,0,1,1,0,0,1,0,0,1,1,0,0,1]]) u2)/\(u3=false->Q (AEx.exit 4) u2)) ((p.rules.l.getD i default).head)) (bif decide (u1<u1) then(List.foldl hgU (s,false) (List.take (i+1) p.rules.l)).fst.getD ((p.rules.l.getD i default).head.toNat) false else false)) (St.mk [(2,ref 0 0),(5,ow true 1 n 1),(6,AV.bool (List.foldl hgU (s,false) (List.take (i+1) p.rules.l)).snd),(7,int i64 (i:Int)),(8,ref 2 0),(9,int i64 u1),(40,AV.bool (bif decide (u1<u1) then(List.foldl hgU (s,false) (List.take (i+1) p.rules.l)).fst.getD ((p.rules.l.getD i default).head.toNat) false else false))] [cells false 2 (nth [int i64 p.atoms,ae p.rules]),cells false (n*1) fun (a:Nat)=>aF (List.foldl hgU (s,false) (List.take (i+1) p.rules.l)).fst a,cells false 2 (nth [int i64 (p.rules.l.getD i default).head,al (p.rules.l.getD i default).body])] g)) ((↑((p.rules.l.getD i default).body.l.length):Int))) (fun _=>by kernel_rfl) ⟨by omega,by omega,by omega,by omega,fun hcc=>(nomatch (hknow.symm.trans hcc)),fun _=>?_⟩
         refine⟨_,To.refl _,vcQ [] (lkL [(8,[2,5,6,7])]) (fun _=>[]) (fun Q=>(-9223372036854775808<=(i:Int)+1/\(i:Int)+1<=9223372036854775807)/\Q AEx.normal (St.mk [(2,ref 0 0),(5,ow true 1 n 1),(6,AV.bool (List.foldl hgU (s,false) (List.take (i+1) p.rules.l)).snd),(7,int i64 ((i:Int)+1))] [cells false 2 (nth [int i64 p.atoms,ae p.rules]),cells false (n*1) fun (a:Nat)=>aF (List.foldl hgU (s,false) (List.take (i+1) p.rules.l)).fst a,cells false 2 (nth [int i64 (p.rules.l.getD i default).head,al (p.rules.l.getD i default).body])] g)) (fun _=>by kernel_rfl) ⟨by omega,?_⟩⟩
         refine(aL (i+1) (a9 [0,1] 3 rfl rfl rfl rfl rfl ⟨Le.refl _,Le.refl _,Le.refl _,Le.refl _,trivial⟩ ⟨⟨rfl,Nat.le_refl _,fun j hj=>match j,hj with|0,_=>(Le.refl _)|1,_=>(Le.refl _) ⟩,?_,trivial⟩) ?_ ?_)
         ·exact⟨rfl,Nat.le_refl _,fun j _=>Le.of_eq rfl⟩
         ·omega
         ·omega
      ·exfalso;omega
    ·have hie:i=p.rules.l.length:=by omega
     subst hie
     rw[List.take_length]
     have hbb:decide ((p.rules.l.length:Int)<(p.rules.l.length:Int))=false:=decide_eq_false (by omega)
     refine vcQ [[1,1,1,0,1,0,0,1,0,1,1,0,0,0,1,0]] (lkL [(7,[2,5,6,7,21])]) (fun _=>[]) (fun Q=>(fun (u1:Int)=>(fun (u2:St R.σ)=>2<=2/\(decide (u1<u1)=true->Wp Tryd.prog R 62 0 Rd.top (af Tryd.prog 74) [1,1,1,0,1,0,0,1,0,1,1,0,0,0,1,0] (aq Tryd.prog R 62 0 Rd.top (af Tryd.prog 74) Q [Kont.seq [1,1,1,0,1,0,0,1,0,1,1,0,0,1]]) u2)/\(decide (u1<u1)=false->Q (AEx.exit 2) u2)) (St.mk [(2,ref 0 0),(5,ow true 1 n 1),(6,AV.bool (List.foldl hgU (s,false) p.rules.l).snd),(7,int i64 u1),(21,AV.bool (decide (u1<u1)))] [cells false 2 (nth [int i64 p.atoms,ae p.rules]),cells false (n*1) fun (a:Nat)=>aF (List.foldl hgU (s,false) p.rules.l).fst a] g)) ((p.rules.l.length:Int))) (fun _=>by kernel_rfl) ⟨by omega,fun hcc=>(nomatch (hbb.symm.trans hcc)),fun _=>?_⟩
     refine⟨_,To.refl _,(aL (hgD p s) (aX ⟨Le.refl _,Le.refl _,(Le.of_eq (by kernel_rfl)),trivial⟩ ⟨LeO.rflc,LeO.rflc,trivial⟩ rfl) ?_ ?_)⟩
     ·exact hnx.1
     ·exact hnx.2
def gX (p:Prg)(a:Nat)(s:List Bool):Prop:=∀k,s.getD k false=true->Reach p a k
theorem sD {s:List Bool}{i k:Nat}(h:(s.set i true).getD k false=true):k=i∨s.getD k false=true:=by
 rw[List.getD_eq_getElem?_getD,List.getElem?_set] at h
 split at h
 ·rename_i e;exact .inl e.symm
 ·rw[List.getD_eq_getElem?_getD];exact .inr h
theorem sE {p:Prg}{a:Nat}{r:Rule}(hr:r∈p.rules.l)(hh:0<=r.head)(ha:Reach p a r.head.toNat):∀{l:List Lit} {x:List Bool × Bool},(∀y,y∈l->y∈r.body.l)->gX p a x.1->gX p a (l.foldl hgL x).1
 |[],_,_,h=>h
 |y::l,x,hl,h=>by
  refine sE hr hh ha (l:=l) (x:=hgL x y) (fun z hz=>hl z (List.mem_cons_of_mem _ hz)) ?_
  unfold hgL
  split
  ·exact h
  ·intro k hk
   rcases sD hk with e|hk
   ·rw[e]
    exact ha.trans (.step ⟨r,hr,by omega,y,hl y List.mem_cons_self,rfl⟩ (.refl _))
   ·exact h k hk
theorem sF {p:Prg}{a:Nat}:∀{l:List Rule} {x:List Bool × Bool},(∀r,r∈l->r∈p.rules.l/\0<=r.head)->gX p a x.1->gX p a (l.foldl hgU x).1
 |[],_,_,h=>h
 |r::l,x,hl,h=>by
  refine sF (l:=l) (x:=hgU x r) (fun q hq=>hl q (List.mem_cons_of_mem _ hq)) ?_
  obtain⟨h1,h2⟩:=hl r List.mem_cons_self
  unfold hgU
  split
  ·rename_i hb
   exact sE h1 h2 (h _ hb) (fun _ h=>h) h
  ·exact h
theorem sG {p:Prg}{a:Nat}(hr:∀r,r∈p.rules.l->0<=r.head):∀{k:Nat} {s:List Bool},gX p a s->gX p a (hgI p k s)
 |0,_,h=>h
 |k+1,s,h=>by
  show gX p a (if (hgD p s).2 then hgI p k (hgD p s).1 else s)
  split
  ·exact sG hr (sF (fun r h=>⟨h,hr r h⟩) h)
  ·exact h
def ov (l:List Rule)(s:List Bool):Prop:=∀r,r∈l->s.getD r.head.toNat false=true->∀y,y∈r.body.l->s.getD y.atom.toNat false=true
theorem sH:∀{l:List Lit} {x:List Bool × Bool},(∀y,y∈l->y.atom.toNat<x.1.length)->(l.foldl hgL x).2=false->∀y,y∈l->x.1.getD y.atom.toNat false=true
 |[],_,_,_=>fun y hy=>by cases hy
 |y::l,x,h,hf=>by
  have h1:=sz (x:=x) (h y List.mem_cons_self)
  have hl:∀z,z∈l->z.atom.toNat<(hgL x y).1.length:=fun z hz=>by rw[h1.len];exact h z (List.mem_cons_of_mem _ hz)
  have h2:=lE (l:=l) (x:=hgL x y) hl
  have hy:(hgL x y).2=false:=by
   cases hb:(hgL x y).2 with
   |false=>rfl
   |true=>
    have:=h2.ch hb
    have hf:(l.foldl hgL (hgL x y)).2=false:=hf
    rw[hf] at this
    cases this
  have hs:=h1.same hy
  intro z hz
  rcases List.mem_cons.1 hz with e|hz
  ·subst e
   unfold hgL at hy
   split at hy
   ·assumption
   ·cases hy
  ·have:=sH hl hf z hz
   rw[hs] at this
   exact this
theorem sI:∀{l:List Rule} {x:List Bool × Bool},(∀r,r∈l->dl x.1.length r)->(l.foldl hgU x).2=false->ov l x.1
 |[],_,_,_=>fun r hr=>by cases hr
 |r::l,x,h,hf=>by
  have h1:=sB (x:=x) (h r List.mem_cons_self)
  have hl:∀q,q∈l->dl (hgU x r).1.length q:=fun q hq=>by rw[h1.len];exact h q (List.mem_cons_of_mem _ hq)
  have h2:=gW (l:=l) (x:=hgU x r) hl
  have hy:(hgU x r).2=false:=by
   cases hb:(hgU x r).2 with
   |false=>rfl
   |true=>
    have:=h2.ch hb
    have hf:(l.foldl hgU (hgU x r)).2=false:=hf
    rw[hf] at this
    cases this
  have hs:=h1.same hy
  intro q hq hd
  rcases List.mem_cons.1 hq with e|hq
  ·subst e
   unfold hgU at hy
   rw[if_pos hd] at hy
   exact sH (sA (h q List.mem_cons_self).2) hy
  ·have:=sI hl hf q hq
   rw[hs] at this
   exact this hd
theorem sJ {p:Prg}{n:Nat}(hr:∀r,r∈p.rules.l->dl n r):∀{k:Nat} {s:List Bool},s.length=n->cw s<k->ov p.rules.l (hgI p k s)
 |0,_,_,h=>absurd h (Nat.not_lt_zero _)
 |k+1,s,hs,h=>by
  show ov p.rules.l (if (hgD p s).2 then hgI p k (hgD p s).1 else s)
  have hx:∀r,r∈p.rules.l->dl (s,false).1.length r:=by rw[show(s,false).1.length=n from hs];exact hr
  have h1:=gW (l:=p.rules.l) (x:=(s,false)) hx
  split
  ·rename_i hc
   have:=h1.less hc rfl
   have hs':cw (s,false).1=cw s:=rfl
   exact sJ hr (h1.len.trans hs) (by show cw (p.rules.l.foldl hgU (s,false)).1<k;omega)
  ·rename_i hc
   have hc:(p.rules.l.foldl hgU (s,false)).2=false:=by
    cases hb:(p.rules.l.foldl hgU (s,false)).2 with
    |false=>rfl
    |true=>exact absurd hb hc
   exact sI hx hc
theorem sK {p:Prg}{n:Nat}(hr:∀r,r∈p.rules.l->dl n r):∀{k:Nat} {s:List Bool},s.length=n->∀j,s.getD j false=true->(hgI p k s).getD j false=true
 |0,_,_=>fun _ h=>h
 |k+1,s,hs=>by
  show ∀j,s.getD j false=true->(if (hgD p s).2 then hgI p k (hgD p s).1 else s).getD j false=true
  have h1:=gW (l:=p.rules.l) (x:=(s,false)) (by rw[show(s,false).1.length=n from hs];exact hr)
  split
  ·exact fun j hj=>sK hr (h1.len.trans hs) j (h1.up j hj)
  ·exact fun _ h=>h
theorem y0 {p:Prg}{n a b:Nat}(hr:∀r,r∈p.rules.l->ct n r)(ha:a<n):(hgR p n a).getD b false=true↔Reach p a b:=by
 have hrl:∀r,r∈p.rules.l->dl n r:=fun r h=>(hr r h).1
 have hs0:((List.replicate n false).set a true).length=n:=by rw[List.length_set,List.length_replicate]
 have h0:((List.replicate n false).set a true).getD a false=true:=by
  rw[List.getD_eq_getElem?_getD,List.getElem?_set,if_pos rfl,if_pos (by rw[List.length_replicate];exact ha)]
  rfl
 constructor
 ·intro h
  refine sG (fun r h=>(hr r h).2.1) (fun k hk=>?_) b h
  rcases sD hk with e|hk
  ·rw[e];exact .refl _
  ·rw[List.getD_eq_getElem?_getD,List.getElem?_replicate] at hk
   split at hk <;> cases hk
 ·have hc:=sJ (k:=n+1) hrl hs0 (Nat.lt_succ_of_le (by
   have:=List.count_le_length (a:=false) (l:=(List.replicate n false).set a true)
   rw[hs0] at this
   exact this))
  have ha':=sK (k:=n+1) hrl hs0 a h0
  have key:∀x y,Reach p x y->(hgR p n a).getD x false=true->(hgR p n a).getD y false=true:=by
   intro x y h
   induction h with
   |refl=>exact fun h=>h
   |step h _ ih=>
    obtain⟨r,h1,h2,l,h3,h4⟩:=h
    refine fun hx=>ih ?_
    rw[<-h4]
    exact hc r h1 (by rw[h2];exact hx) l h3
  exact fun h=>key a b h ha'
theorem y7 {p:Prg}{n a:Nat}(hr:∀r,r∈p.rules.l->aP r)(hrn:∀r,r∈p.rules.l->ct n r)(ha:a<n)(hn:n<=24)(b:Nat):(hgR p n a).getD b false=(hgP p a).testBit b:=by
 rw[Bool.eq_iff_iff,y0 hrn ha,d6 hr (by omega)]
def gY (l:List Bool):AV:=.fz .auto 1 l.length (fun i _=>.bool (l.getD i false))
theorem y8 {hp:List AObj}{k m o:Nat}{l:List Bool}{n:Nat}(hn:l.length=n)(ho:ag hp o=.cells false (n*1) (aF l))(hk:k<=o):av hp k m (.ow true o n 1) (gY l):=by
 subst hn
 exact(av.ow ho hk (Nat.le_refl _) (by decide) (fun j _=>av.below (jP _ _))).le (Le.fz rfl (fun i j hi hj=>by
  show AV.bool _=AV.bool _
  rw[show i*1+j=i by omega]))
theorem y9 (R:Res)(p:Prg)(n a:Nat)(hn:0<n/\n<=1000)(ha:a<n)(hpa:p.atoms=n)(hpl:p.rules.l.length<1000000)(hr:∀r,r∈p.rules.l->ct n r)(g:R.σ):Does Tryd.prog R 74 [ay p,.int .i64 a] [] g (.ret (gY (hgR p n a))) [] g:=by
 refine fE (yZ R p n a hn ha hpa hpl hr g) ?_
 exact fG 0 [(0,gY (hgR p n a))] (Nat.le_refl _) (Nat.zero_le _) (fun i hi=>absurd hi (Nat.not_lt_zero i)) ⟨y8 (ou (fun r h=>(hr r h).1)) rfl (Nat.zero_le _),trivial⟩
end Go.Avm.Pack
namespace Go.Avm.Pack
open Go Go.Avm Go.Proofs Go.RowKit Go.Shelf
attribute [local go_sem] Oper.semAt_some
theorem za (n:Nat)(hn:1<=n)(l s:Nat)(hs:s<2^24)(A:Addr)(FM:Mem)(ht:cW gsT FM)(J:Nat->World->Prop)(E:Ending->World->Prop)(K:Nat)
  (hJ:∀k W,J k W->W.cell? A=some (.int .u64 (Tb.cutN s k))/\W.frozen? A=false/\(∀b o,FM b=some o->W.heap[b]? = some o))
  (hJg:∀k W W',J k W->W.grownBy W' none->J k W')
  (hY:∀k W,k<K->k<(aj s).length->J k W->YieldAt Fence.wide (n-1) Tryd.prog l #[.int .i64 ((aj s).getD k 0)] W fun e W'=>e=.returned (.bool true)/\W'.cell? A=some (.int .u64 (Tb.cutN s k))/\W'.frozen? A=false/\J (k+1) (W'.setCell A (.int .u64 (Tb.cutN s (k+1)))))
  (hE:∀W,K<(aj s).length->J K W->YieldAt Fence.wide (n-1) Tryd.prog l #[.int .i64 ((aj s).getD K 0)] W fun e W'=>(e=.returned (.bool false)∨∃ch,e=.panicked ch)/\E e W')
  (W:World) (h0:J 0 W) :
  CallsIn Fence.wide n Tryd.prog 105 #[.func (.yield l) #[] #[],.pointer (some A)] W fun e W'=>((aj s).length<=K/\(∃v,e=.returned v)/\J (aj s).length W')∨(K<(aj s).length/\(((∃v,e=.returned v)/\E (.returned (.bool false)) W')∨∃ch,e=.panicked ch/\E (.panicked ch) W')):=by
 refine callsIn_of_wp Tryd.func105 rfl trivial ?_ rfl
 simp only[Tryd.ntmps105,List.size_toArray,List.length_cons,List.length_nil,Nat.reduceAdd,Nat.reduceSub,Array.replicate_succ,Array.replicate_zero,List.push_toArray,List.append_toArray,List.nil_append,List.cons_append]
 gi_wp2
 gi_loopw [] (fun wr=>∃k,k<=(aj s).length/\k<=K/\J k wr) (fun wr=>match wr.cell? A with|some (.int _ v)=>v.toNat|_=>0)
 case atStart=>exact⟨0,Nat.zero_le _,Nat.zero_le _,h0⟩
 case round=>
  obtain⟨k,hk,hkK,hJk⟩:=hrel
  obtain⟨hc,hf,hFM⟩:=hJ k wr hJk
  have hlt:=Tb.cutN_lt hs k
  rcases Nat.lt_or_ge k (aj s).length with hkl|hkl
  ·obtain⟨m,hm⟩:=Tb.cutN_in hs hkl
   have k1:0<Tb.cutN s k:=by
    rw[hm]
    exact Nat.mul_pos (Nat.pow_pos (by decide)) (by omega)
   have k2:=kU hm hlt
   clear hm
   have hz:¬((Tb.cutN s k:Nat):Int)=0:=by omega
   have htz:=fun m=>qR m (Tb.cutN s k) k1 hlt wr FM hFM ht
   rcases Nat.lt_or_ge k K with hlK|hgK
   ·have hYk:=fun W=>hY k W hlK hkl
    obtain⟨x,hx⟩:∃x,(aj s).getD k 0=x:=⟨_,rfl⟩
    rw[hx] at k2
    simp only[hx] at hYk
    simp only[k2] at htz
    gi_wp2
    refine⟨trivial,(htz _).mono ?_⟩
    rintro e w' ⟨rfl,hg⟩
    have hJ':=hJg k wr w' hJk hg
    obtain⟨hc',hf',hFM'⟩:=hJ k w' hJ'
    obtain⟨fn,tmps,assign,body,hy,hR⟩:=hYk w' hJ'
    dsimp only
    gi_wp2
    refine hR.mono ?_
    rintro e W3 ⟨rfl,hc3,hf3,hJ3⟩
    dsimp only
    gi_wp2
    have hb:bits .and .u64 ((Tb.cutN s k:Nat):Int) (((Tb.cutN s k:Nat):Int)-1)=((Tb.cutN s (k+1):Nat):Int):=qS _ hlt k1
    rw[hb]
    refine⟨⟨k+1,hkl,hlK,hJ3⟩,?_⟩
    rw[(hJ _ _ hJ3).1,hc]
    show((Tb.cutN s (k+1):Nat):Int).toNat<((Tb.cutN s k:Nat):Int).toNat
    have:Tb.cutN s (k+1)<=Tb.cutN s k-1:=Nat.and_le_right
    omega
   ·have hkK:K=k:=by omega
    subst hkK
    have hYk:=fun W=>hE W hkl
    obtain⟨x,hx⟩:∃x,(aj s).getD K 0=x:=⟨_,rfl⟩
    rw[hx] at k2
    simp only[hx] at hYk
    simp only[k2] at htz
    gi_wp2
    refine⟨trivial,(htz _).mono ?_⟩
    rintro e w' ⟨rfl,hg⟩
    have hJ':=hJg K wr w' hJk hg
    obtain⟨hc',hf',hFM'⟩:=hJ K w' hJ'
    obtain⟨fn,tmps,assign,body,hy,hR⟩:=hYk w' hJ'
    dsimp only
    gi_wp2
    refine hR.mono ?_
    rintro e W3 ⟨he,hE3⟩
    rcases he with rfl|⟨ch,rfl⟩
    ·dsimp only
     gi_wp2
     (try simp only[Exit.inBlock,Exit.then])
     refine bodyPost_ret (results_none rfl _ _ _) rfl ?_
     exact .inr ⟨hkl,.inl ⟨⟨_,rfl⟩,hE3⟩⟩
    ·exact⟨rfl,.inr ⟨hkl,.inr ⟨ch,rfl,hE3⟩⟩⟩
  ·have hz:((Tb.cutN s k:Nat):Int)=0:=by rw[show k=(aj s).length by omega,Tb.cutN_end hs];rfl
   have hkk:k=(aj s).length:=by omega
   subst hkk
   gi_wp2
   go_end0
   exact .inl ⟨hkK,⟨_,rfl⟩,hJk⟩
end Go.Avm.Pack
namespace Go.Avm.Pack
open Go Go.Avm Go.Proofs
open Go.IntKind (i64 u64)
open Go.Avm.AV (int bool any fz fp sl ow ref fn ifc val agg tup)
open Go.Avm.AObj (cells dead)
open Go.Avm.Oc (ret)
set_option maxRecDepth 4000
end Go.Avm.Pack
namespace Go.Avm.Pack
open Go Go.Avm Go.Proofs Go.RowKit Go.Shelf
section
variable {R:Res}
theorem zb [Tab LT R]{nt k0:Nat}{Q:AEx->St R.σ->Prop}{s:St R.σ}{t:Nat}{ps:Array Tmp}{assign body:Code}{fa fb:Nat->AV}{m S K:Nat}{H:List AObj}
  (hf:lk s.fr t=.fn 105 0 fa 1 fb) (hfb:fb 0=.ref m 0) (hS:S<2^24) (h0:s.hp=H++[.cells false 1 (fun _=>.int .u64 S)]) (hl:H.length=m)
  (hlive:eF (H++[.cells false 1 (fun _=>.int .u64 S)])) (hBO:f7 m H) (hlen:1=ps.toList.length) (hlt:cd ps.toList nt=true) (ts:List Nat) (hBf:iz ts (fun t=>Below m (lk s.fr t)))
  (hround:∀k,k<K->k<(aj S).length->m4 Tryd.prog R nt assign body none H s.g ⟨dP ps.toList [.int .i64 (((aj S).getD k 0:Nat):Int)] (eG ts s.fr),H,s.g⟩)
  (hlast:K<(aj S).length->∀l,wpA Tryd.prog R nt (m+1) (.inr l) assign (fun e s1=>e=.normal/\wpA Tryd.prog R nt s1.hp.length (.inr l) body (kR (fun e s3=>Q e ⟨s.fr,s3.hp,s3.g⟩)) s1) ⟨dP ps.toList [.int .i64 (((aj S).getD K 0:Nat):Int)] s.fr,H++[.dead],s.g⟩)
  (hdone:(aj S).length<=K->Q .normal ⟨s.fr,H++[.dead],s.g⟩) :
  wpA Tryd.prog R nt k0 .top (.rangeFunc (.tmp t) ps assign body) Q s:=by
 intro C hC n a w ⟨FM,Z,hs⟩
 refine wpIn_rangeFunc (fun fn hfn=>?_)
 obtain⟨D,hD⟩:∃D,D=w.heap.size:=⟨_,rfl⟩
 obtain⟨L,hL⟩:∃L,L=w.heap.size+1:=⟨_,rfl⟩
 have hne:D≠L:=by omega
 obtain⟨rec,hrec⟩:∃rec:LoopState->Option Code->Loop,rec=fun st pe=>{ state:=st,pending:=pe,fn,tmps:=a.tmps,params:=ps,assign,body,defers:=D }:=⟨_,rfl⟩
 obtain⟨W1,hW1⟩:∃W1,(w.alloc (.deferred (some []))).alloc (.loop (rec .ready none))=W1:=⟨_,rfl⟩
 have hL1:W1.heap[L]? = some (.loop (rec .ready none)):=by
  rw[<-hW1,hL];have:=World.alloc_heap_new (w.alloc (.deferred (some []))) (.loop (rec .ready none));rwa [World.size_alloc] at this
 have hD1:W1.heap[D]? = some (.deferred (some [])):=by
  rw[<-hW1,hD];exact(_root_.Go.RowKit.Below.heap_alloc _ _ _ (by simp)).trans (World.alloc_heap_new w _)
 have hsz1:W1.heap.size=w.heap.size+2:=by rw[<-hW1];simp
 obtain⟨okA,goA⟩:=il hs.ok (.deferred (some []))
 obtain⟨ok1,goB⟩:=il okA (.loop (rec .ready none))
 have go1:=goA.trans goB
 rw[hW1] at ok1 go1
 obtain⟨o,ho⟩:∃o:AObj,o=.cells false 1 (fun _=>.int .u64 S):=⟨_,rfl⟩
 rw[<-ho] at h0 hlive
 have hlen0:s.hp.length=m+1:=by rw[h0];simp[hl]
 have hZl:Z.length=m+1:=by rw[hs.ok.rel.len,hlen0]
 obtain⟨pb,hpb⟩:∃pb,Z[m]? = some pb:=⟨_,List.getElem?_eq_getElem (by omega)⟩
 obtain⟨Z0,hZ0⟩:∃Z0,Z0=Z.take m:=⟨_,rfl⟩
 have hsub0:Sub Z0 Z:=fun i p hi=>by
  rw[hZ0,List.getElem?_take] at hi
  split at hi
  ·exact hi
  ·cases hi
 have hlt0:∀{i p},Z0[i]? = some p->i<m:=fun {i p} hi=>by
  rw[hZ0,List.getElem?_take] at hi
  split at hi
  ·assumption
  ·cases hi
 have hInB:∀b,InB Z b↔InB Z0 b∨InB [pb] b:=fun b=>by
  constructor
  ·rintro ⟨p,hp,hb,hre⟩
   obtain⟨i,hi⟩:=List.getElem?_of_mem hp
   have:i<m+1:=by rw[<-hZl];exact(List.getElem?_eq_some_iff.1 hi).1
   rcases Nat.lt_or_ge i m with h|h
   ·exact .inl ⟨p,List.mem_of_getElem? (i:=i) (by rw[hZ0,List.getElem?_take,if_pos h];exact hi),hb,hre⟩
   ·have:i=m:=by omega
    subst this
    rw[hpb] at hi;cases hi
    exact .inr ⟨pb,by simp,hb,hre⟩
  ·rintro (⟨p,hp,hb,hre⟩|⟨p,hp,hb,hre⟩)
   ·obtain⟨i,hi⟩:=List.getElem?_of_mem hp
    exact⟨p,bv (hsub0 i p hi),hb,hre⟩
   ·have:p=pb:=by simpa using hp
    subst this
    exact⟨p,bv hpb,hb,hre⟩
 have hgo:∀i,i<m->ag s.hp i=ag H i:=fun i hi=>by rw[h0,jl (by rw[hl];exact hi)]
 have hgm:ag s.hp m=o:=by rw[h0,jm (by rw[hl];exact Nat.le_refl _),hl,Nat.sub_self];rfl
 have hlv:∀i,i<m+1->aN (ag s.hp i)=true:=fun i hi=>by rw[h0];exact jo hlive i (by simp[hl];omega)
 have rel0:∀W,HRel FM Z s.hp W->HRel FM Z0 H W:=fun W hr=>by
  refine⟨hr.fm,by rw[hZ0,List.length_take,hl,hZl];omega,fun i p hi=>?_,fun i j p q hi hj _ _ e=>hr.inj i j p q (hsub0 i p hi) (hsub0 j q hj) (hlv i (by have:=hlt0 hi;omega)) (hlv j (by have:=hlt0 hj;omega)) e⟩
  obtain⟨k1,k2⟩:=hr.obj i p (hsub0 i p hi)
  rw[hgo i (hlt0 hi)] at k2
  refine⟨k1,?_⟩
  rw[hZ0]
  exact kL k2 (kK hBO i)
 have relI:∀W,HRel FM Z s.hp W->HRel FM [pb] [o] W:=fun W hr=>by
  refine⟨hr.fm,rfl,fun i p hi=>?_,fun i j p q hi hj _ _ _=>?_⟩
  ·have e:i=0:=by
    have:=(List.getElem?_eq_some_iff.1 hi).1
    simpa using this
   subst e
   have hi:pb=p:=by simpa using hi
   subst hi
   obtain⟨k1,k2⟩:=hr.obj m pb hpb
   rw[hgm] at k2
   refine⟨k1,?_⟩
   have:=kL (k:=0) k2 (by rw[ho];exact fun _ _=>trivial)
   exact kM (fun i p hi=>by simp at hi) this
  ·have e1:=(List.getElem?_eq_some_iff.1 hi).1
   have e2:=(List.getElem?_eq_some_iff.1 hj).1
   simp at e1 e2
   omega
 have hdis:∀b,InB [pb] b->¬InB Z0 b:=fun b ⟨p,hp,hb,hre⟩ ⟨q,hq,hb',hre'⟩=>by
  have:p=pb:=by simpa using hp
  subst this
  obtain⟨i,hi⟩:=List.getElem?_of_mem hq
  have:=hlt0 hi
  have:=hs.ok.rel.inj i m q p (hsub0 i q hi) hpb (hlv i (by omega)) (hlv m (by omega)) (by rw[hb,hb'])
  omega
 have nIn:∀X,w.heap.size<=X->¬InB Z X:=fun X hX ⟨p,hp,hb,hre⟩=>by
  obtain⟨i,hi⟩:=List.getElem?_of_mem hp
  have:=(hs.ok.rel.obj i p hi).1 hre
  omega
 have nB:∀X,w.heap.size<=X->¬R.B s.g X:=fun X hX hb=>by have:=(hs.ok.bd X hb).1;omega
 have nF:∀X,w.heap.size<=X->FM X=none:=fun X hX=>by
  cases hx:FM X with
  |none=>rfl
  |some o=>have:=(Array.getElem?_eq_some_iff.1 (hs.ok.rel.fm X o hx)).1;omega
 have hev:Den FM Z (.fn 105 0 fa 1 fb) (a.eval (.tmp t)):=by rw[<-hf];exact hs.fr t
 obtain⟨xs,ys,hu,hxs,hys,hda,hdb⟩:=hev
 have hfr0:∀t,Den FM Z0 (lk (eG ts s.fr) t) (a.tmps.getD t undef):=m0 (fun t=>hs.fr t) (fun t ht=>mZ hBf t ht) hZ0
 let u:Value:=.func (.yield L) #[] #[]
 let R2:Res:=e6 (gF R D L rec) FM Z0
 let G2:R2.σ:=((s.g,.ready,none),H)
 let box:Nat->AObj:=fun k=>.cells false 1 (fun _=>.int .u64 (Tb.cutN S k))
 have hbox0:box 0=o:=ho.symm
 have hpreal:pb.2.1+1<=pb.2.2/\FM pb.1=none:=by
  obtain⟨k1,k2⟩:=hs.ok.rel.obj m pb hpb
  rw[hgm,ho] at k2
  obtain⟨cs,e,b1,b2,b3,b4,b5,b6⟩:=k2 (by omega)
  exact⟨by omega,b6 rfl⟩
 have hpin:InB [pb] pb.1:=⟨pb,by simp,rfl,by omega⟩
 obtain⟨A,hA⟩:∃A:Addr,A=⟨pb.1,pb.2.1,none⟩:=⟨_,rfl⟩
 let J:Nat->World->Prop:=fun k W=>∃FMk,Ok R2 [box k] G2 FMk [pb] W/\Goes R s.g FM Z w s.g FMk Z W/\Goes R2 G2 FM [pb] W1 G2 FMk [pb] W
 have okI:Ok R2 [box 0] G2 FM [pb] W1:=by
  rw[hbox0]
  refine⟨relI W1 ok1.rel,⟨⟨rel0 W1 ok1.rel,⟨ok1.j,hD1,hL1,⟨nF D (by omega),nF L (by omega)⟩,nB D (by omega),nB L (by omega)⟩,fun b hb=>?_⟩,fun _ _ h=>h⟩,fun b hb=>⟨?_,fun hI=>?_⟩⟩
  ·rcases hb with hb|rfl|rfl
   ·exact⟨(ok1.bd b hb).1,fun h=>(ok1.bd b hb).2 ((hInB b).2 (.inl h))⟩
   ·exact⟨by omega,fun h=>nIn _ (by omega) ((hInB _).2 (.inl h))⟩
   ·exact⟨by omega,fun h=>nIn _ (by omega) ((hInB _).2 (.inl h))⟩
  ·rcases hb with(hb|rfl|rfl)|⟨p,hp,hb,hre⟩
   ·exact(ok1.bd b hb).1
   ·omega
   ·omega
   ·obtain⟨i,hi⟩:=List.getElem?_of_mem hp
    rw[<-hb];exact(ok1.rel.obj i p (hsub0 i p hi)).1 hre
  ·rcases hb with(hb|rfl|rfl)|hb
   ·exact(ok1.bd b hb).2 ((hInB b).2 (.inr hI))
   ·exact nIn _ (by omega) ((hInB _).2 (.inr hI))
   ·exact nIn _ (by omega) ((hInB _).2 (.inr hI))
   ·exact hdis b hI hb
 have hB2:∀b,b<w.heap.size->R2.B G2 b->R.B s.g b∨InB Z0 b:=fun b hlt hb=>by
  rcases hb with(hb|rfl|rfl)|hb
  ·exact .inl hb
  ·omega
  ·omega
  ·exact .inr hb
 -- a step of the iterator's, told of the whole
 have goR:∀{FMa FMb:Mem} {Wa Wb:World},Goes R s.g FM Z w s.g FMa Z Wa->Goes R2 G2 FMa [pb] Wa G2 FMb [pb] Wb->Goes R s.g FM Z w s.g FMb Z Wb:=fun {FMa FMb Wa Wb} h k=>by
  refine⟨⟨fun b o hb=>k.ext.fm b o (h.ext.fm b o hb),fun b o hb=>?_,fun b hb=>.inl hb,fun b h1 h2 h3=>?_,Nat.le_trans h.ext.size k.ext.size,k.ext.os.trans h.ext.os,k.ext.tape.trans h.ext.tape,k.ext.output.trans h.ext.output⟩,fun b hb=>.inl hb,Sub.refl _⟩
  ·rcases k.ext.grow b o hb with h1|h1|h1|h1
   ·exact h.ext.grow b o h1
   ·exact .inr (.inl (Nat.le_trans h.ext.size h1))
   ·exact .inr (.inr (.inl ((hInB b).2 (.inr h1))))
   ·rcases Nat.lt_or_ge b w.heap.size with hlt|hge
    ·rcases hB2 b hlt h1 with h2|h2
     ·exact .inr (.inr (.inr h2))
     ·exact .inr (.inr (.inl ((hInB b).2 (.inl h2))))
    ·exact .inr (.inl hge)
  ·refine(k.ext.keep b (Nat.lt_of_lt_of_le h1 h.ext.size) (fun hI=>h2 ((hInB b).2 (.inr hI))) (fun hb=>?_)).trans (h.ext.keep b h1 h2 h3)
   rcases hB2 b h1 hb with h4|h4
   ·exact h3 h4
   ·exact h2 ((hInB b).2 (.inl h4))
 have hJ:∀k W,J k W->W.cell? A=some (.int .u64 (Tb.cutN S k))/\W.frozen? A=false/\(∀b o,FM b=some o->W.heap[b]? = some o):=fun k W ⟨FMk,okk,_,_⟩=>by
  obtain⟨k1,k2⟩:=okk.rel.obj 0 pb rfl
  obtain⟨cs,e,b1,b2,b3,b4,_,b6⟩:=k2 (by omega)
  obtain⟨x,c1,c2,c3⟩:=b4 0 (by omega)
  have hx:x=.int .u64 (Tb.cutN S k):=c3
  subst hx
  refine⟨by rw[hA];simp only[World.cell?,b1];simpa using c1,by rw[hA];simp[World.frozen?,b1],fun b o hb=>okk.rel.fm b o (okk.j.2 b o hb)⟩
 have hJg:∀k W W',J k W->W.grownBy W' none->J k W':=fun k W W' ⟨FMk,okk,h1,h2⟩ hg=>
  let ⟨x1,x2⟩:=v8 okk hg
  ⟨FMk,x1,goR h1 x2,h2.trans x2⟩
 have hset:∀k W,(∃FMk,Ok R2 [box k] G2 FMk [pb] W/\Goes R s.g FM Z w s.g FMk Z W/\Goes R2 G2 FM [pb] W1 G2 FMk [pb] W)->J (k+1) (W.setCell A (.int .u64 (Tb.cutN S (k+1)))):=fun k W ⟨FMk,okk,h1,h2⟩=>by
  obtain⟨k1,k2⟩:=okk.rel.obj 0 pb rfl
  obtain⟨cs,e,b1,b2,b3,b4,_,b6⟩:=k2 (by omega)
  have hAb:A.block=pb.1:=by rw[hA]
  have hAb':(⟨pb.1,pb.2.1,none⟩:Addr).block=pb.1:=rfl
  have hF:FMk pb.1=none:=b6 rfl
  have keep:∀b,b≠pb.1->(W.setCell A (.int .u64 (Tb.cutN S (k+1)))).heap[b]? = W.heap[b]?:= fun b hb=>RowKit.Below.heap_setCell _ _ _ b (by rw[hAb];exact hb)
  have hsz:(W.setCell A (.int .u64 (Tb.cutN S (k+1)))).heap.size=W.heap.size:=by
   show(W.heap.modify _ _).size=_
   rw[Array.size_modify]
  have hnew:(W.setCell A (.int .u64 (Tb.cutN S (k+1)))).heap[pb.1]? = some (.cells (cs.setIfInBounds pb.2.1 (.int .u64 (Tb.cutN S (k+1)))) e (0,0)):=by
   show(W.heap.modify A.block _)[pb.1]? = _
   rw[hAb,Array.getElem?_modify,b1,hA]
   simp
  have hrel:HRel FMk [pb] [box (k+1)] (W.setCell A (.int .u64 (Tb.cutN S (k+1)))):=by
   refine⟨fun b o hb=>(keep b (fun e=>by rw[e,hF] at hb;cases hb)).trans (okk.rel.fm b o hb),rfl,fun i p hi=>?_,fun i j p q hi hj _ _ _=>?_⟩
   ·have e0:i=0:=by
     have:=(List.getElem?_eq_some_iff.1 hi).1
     simpa using this
    subst e0
    have hi:pb=p:=by simpa using hi
    subst hi
    refine⟨fun h=>by rw[hsz];exact k1 h,fun _=>⟨_,e,hnew,by rw[Array.size_setIfInBounds];exact b2,by rw[Array.size_setIfInBounds];exact b3,fun j hj=>?_,fun h=>(by cases h),fun _=>hF⟩⟩
    have:j=0:=by omega
    subst this
    refine⟨.int .u64 (Tb.cutN S (k+1)),?_,rfl,rfl⟩
    show(cs.setIfInBounds pb.2.1 _)[pb.2.1]? = _
    rw[Array.getElem?_setIfInBounds_self_of_lt (by omega)]
   ·have e1:=(List.getElem?_eq_some_iff.1 hi).1
    have e2:=(List.getElem?_eq_some_iff.1 hj).1
    simp at e1 e2
    omega
  obtain⟨x1,x2⟩:=fy (hp':=[box (k+1)]) (Z':=[pb]) (w':=W.setCell A (.int .u64 (Tb.cutN S (k+1)))) okk hrel ⟨fun _ _ h=>h,fun _ _ h=>.inl h,fun _ h=>.inl h,fun b _ h _=>keep b (fun e=>h (by rw[e];exact hpin)),Nat.le_of_eq hsz.symm,rfl,rfl,rfl⟩ (Sub.refl _)
  exact⟨FMk,x1,goR h1 x2,h2.trans x2⟩
 have hargI:∀(v:Nat) FMk (Zx:Plc),bX FMk Zx [.int .i64 (v:Int)] #[.int .i64 (v:Int)]:=fun v FMk Zx=>⟨rfl,fun i hi=>by
  have:i=0:=by simpa using hi
  subst this
  rfl⟩
 have hY:∀k W,k<K->k<(aj S).length->J k W->YieldAt Fence.wide (2-1) Tryd.prog L #[.int .i64 (((aj S).getD k 0:Nat):Int)] W fun e W'=>e=.returned (.bool true)/\W'.cell? A=some (.int .u64 (Tb.cutN S k))/\W'.frozen? A=false/\J (k+1) (W'.setCell A (.int .u64 (Tb.cutN S (k+1)))):=by
  rintro k W hk hkN ⟨FMk,okk,h1,h2⟩
  have hv:=qg (P:=Tryd.prog) (R:=R) (L:=L) hrec hs.size hfr0 hne (items:=[.int .i64 (((aj S).getD k 0:Nat):Int)]) hlen hlt (by exact⟨trivial,trivial⟩) (jmp:=none) (hp:=H) (hp':=H) (g:=s.g) (g':=s.g) rfl (hround k hk hkN) [box k]
  rcases hv.h with⟨f,_,_,he,_⟩|⟨l,he,hq⟩
  ·cases he
  ·cases he
   obtain⟨fn',tmps',assign',body',hr,hR⟩:=hq FMk [pb] W _ okk (hargI _ _ _)
   refine⟨fn',tmps',assign',body',hr,(hR .top _).mono ?_⟩
   rintro e W' ⟨FM',Z',⟨v,rfl,hden⟩,okp,gop⟩
   obtain rfl:Z'=[pb]:=by
    have hl1:Z'.length=1:=okp.rel.len
    match Z',hl1 with
    |[q],_=>
     have:=gop.sub 0 pb rfl
     cases this;rfl
   have hj:J k W':=⟨FM',okp,goR h1 gop,h2.trans gop⟩
   obtain⟨j1,j2,_⟩:=hJ k W' hj
   refine⟨by rw[show v=_ from hden];rfl,j1,j2,hset k W' hj⟩
 have okDead:∀{k FMk W},Ok R2 [box k] G2 FMk [pb] W->Goes R s.g FM Z w s.g FMk Z W->Ok R (H++[.dead]) s.g FMk Z W/\W.heap[D]? = some (.deferred (some []))/\W.heap[L]? = some (.loop (rec .ready none))/\Nb R D s.g FMk Z W/\Nb R L s.g FMk Z W:=by
  intro k FMk W okk hg
  obtain⟨okL,hmono⟩:=okk.j
  obtain⟨jR,hD3,hL3,⟨fD,fL⟩,bD,bL⟩:=okL.j
  have okR:=mS okL
  have hgd:∀i,i<m->ag (H++[.dead]) i=ag H i:=fun i hi=>jl (by rw[hl];exact hi)
  have hgdm:ag (H++[.dead]) m=.dead:=by rw[jm (by rw[hl];exact Nat.le_refl _),hl,Nat.sub_self];rfl
  have hback:∀i p,Z[i]? = some p->(i<m/\Z0[i]? = some p)∨(i=m/\p=pb):=fun i p hi=>by
   have:i<m+1:=by rw[<-hZl];exact(List.getElem?_eq_some_iff.1 hi).1
   rcases Nat.lt_or_ge i m with h|h
   ·exact .inl ⟨h,by rw[hZ0,List.getElem?_take,if_pos h];exact hi⟩
   ·have:i=m:=by omega
    subst this
    rw[hpb] at hi;cases hi
    exact .inr ⟨rfl,rfl⟩
  have hnl:∀i p,Z[i]? = some p->aN (ag (H++[.dead]) i)=true->i<m/\Z0[i]? = some p:=fun i p hi hv=>by
   rcases hback i p hi with h|⟨rfl,rfl⟩
   ·exact h
   ·rw[hgdm] at hv;cases hv
  refine⟨⟨⟨okR.rel.fm,by rw[hZl];simp[hl],fun i p hi=>?_,fun i j p q hi hj hv1 hv2 e=>?_⟩,okR.j,fun b hb=>⟨(okR.bd b hb).1,fun hI=>?_⟩⟩,hD3,hL3,?_,?_⟩
  ·rcases hback i p hi with⟨h1,h2⟩|⟨rfl,rfl⟩
   ·obtain⟨k1,k2⟩:=okR.rel.obj i p h2
    rw[hgd i h1]
    exact⟨k1,kM hsub0 k2⟩
   ·rw[hgdm]
    refine⟨fun hre=>?_,trivial⟩
    have h1:=(hs.ok.rel.obj i p hi).1 hre
    have:=hg.ext.size
    omega
  ·obtain⟨a1,a2⟩:=hnl i p hi hv1
   obtain⟨b1,b2⟩:=hnl j q hj hv2
   rw[hgd i a1] at hv1
   rw[hgd j b1] at hv2
   exact okR.rel.inj i j p q a2 b2 hv1 hv2 e
  ·rcases(hInB b).1 hI with h|h
   ·exact(okR.bd b hb).2 h
   ·exact(okk.bd b (.inl (.inl hb))).2 h
  ·exact⟨(Array.getElem?_eq_some_iff.1 hD3).1,nIn D (by omega),bD,fD⟩
  ·exact⟨(Array.getElem?_eq_some_iff.1 hL3).1,nIn L (by omega),bL,fL⟩
 let C0:Cx R:=⟨s.g,FM,Z,w,[],false⟩
 have hE:∀W,K<(aj S).length->J K W->YieldAt Fence.wide (2-1) Tryd.prog L #[.int .i64 (((aj S).getD K 0:Nat):Int)] W fun e W'=>(e=.returned (.bool false)∨∃ch,e=.panicked ch)/\kS R C0 D L rec (fun e s3=>Q e ⟨s.fr,s3.hp,s3.g⟩) e W':=by
  rintro W hK ⟨FMk,okk,h1,h2⟩
  obtain⟨okd,hDW,hLW,nD,nL⟩:=okDead okk h1
  obtain⟨fn',tmps',assign',body',hr,hR⟩:=v9 (P:=Tryd.prog) (R:=R) hrec (C:=C0) (by show w.heap.size<=D;omega) (by show w.heap.size<=L;omega) hne okd h1 hDW hLW nD nL hs.size (fun t=>Den.mono h1.ext.fm _ (Sub.refl _) (hs.fr t)) (hargI ((aj S).getD K 0) FMk Z) hlen hlt
   (Q:=fun e s3=>Q e ⟨s.fr,s3.hp,s3.g⟩) (by have:=hlast hK L;rw[show(H++[AObj.dead]).length=m+1 by simp[hl]];exact this)
  refine⟨fn',tmps',assign',body',hr,(hR .top _).mono ?_⟩
  intro e W' he
  have he':=he
  obtain⟨ex,j,s3,FM3,Z3,e1,_⟩:=he'
  exact⟨.inl e1,he⟩
 have hargs:(xs++#[u])++ys=#[.func (.yield L) #[] #[],.pointer (some A)]:=by
  have hxs0:xs=#[]:=Array.size_eq_zero_iff.1 hxs
  have hd0:=hdb 0 (by omega)
  rw[hfb] at hd0
  obtain⟨p,hp1,hp2⟩:=hd0
  rw[hpb] at hp1;cases hp1
  subst hxs0
  have hy:ys=#[.pointer (some A)]:=by
   refine Array.ext (by simp[hys]) (fun i h1 h2=>?_)
   have:i=0:=by simp at h2;omega
   subst this
   rw[Array.getD_eq_getD_getElem?,Array.getElem?_eq_getElem h1] at hp2
   rw[hA]
   simpa using hp2
  rw[hy]
  rfl
 have hcalls:=callsIn_wide.1 (za 2 (by omega) L S hS A FM (Tab.h (T:=LT) hs.ok.j) J (kS R C0 D L rec (fun e s3=>Q e ⟨s.fr,s3.hp,s3.g⟩)) K hJ hJg hY hE W1 ⟨FM,okI,go1,Goes.refl _ _ _ _ _⟩)
 have hpl:cx Tryd.prog 105=true:=by kernel_rfl
 have hfn':∃fn,Tryd.prog.funcs[105]? = some fn/\fn.name ≠ "runtime.NumGoroutine"/\fn.body.isSome=true:=by
  unfold cx at hpl
  split at hpl
  ·rename_i fn hfn
   simp only[Bool.and_eq_true,bne_iff_ne,ne_eq] at hpl
   exact⟨fn,hfn,hpl.1,hpl.2⟩
  ·cases hpl
 obtain⟨fnF,hF1,hF2,hF3⟩:=hfn'
 have hF3':¬fnF.body=none:=fun h=>by rw[h] at hF3;cases hF3
 refine⟨L,[ib D],W1,{ target:=.fn (.func 105) ys,args:=xs++#[u] },W1,105,(xs++#[u])++ys,W1,?_,?_,fun _ _=>trivial,?_,fun h=>(by cases h),?_⟩
 ·rw[<-hW1,hrec,hD,hL];exact run_enterLoop_outer _ _ _ _ _
 ·simp[resolve,hu,Deferred.ofValue,u]
  rfl
 ·simp[invoke,callFunc,hF1,hF2,hF3']
 rw[hargs]
 refine(fS hcalls).mono ?_
 have hsat:∀{hp3:List AObj} {g3:R.σ} {FM3:Mem} {Z3:Plc} {W:World} (st:LoopState) (pe:Option Code),Ok R hp3 g3 FM3 Z3 W->Goes R s.g FM Z w g3 FM3 Z3 W->W.heap[D]? = some (.deferred (some []))->Nb R D g3 FM3 Z3 W->Nb R L g3 FM3 Z3 W ->
   Sat R C nt ⟨s.fr,hp3,g3⟩ FM3 Z3 { a with defers:=[ib D]++a.defers } (W.putObj L (.loop { rec st pe with state:=.exhausted })):=by
  intro hp3 g3 FM3 Z3 W st pe ok3 go3 hD3 nD nL
  have go4:Goes R s.g FM Z w g3 FM3 Z3 (W.putObj L (.loop { rec st pe with state:=.exhausted })):=go3.put (by omega) _
  refine⟨iw _ nL.off nL.offB nL.nofm ok3,hs.goes.trans go4,hs.size,?_,fun t=>Den.mono go4.ext.fm _ go4.sub (hs.fr t)⟩
  obtain⟨ms,e1,e2,e3,e4⟩:=hs.defs
  refine⟨D::ms,by rw[e1];rfl,List.nodup_cons.2 ⟨fun hmem=>?_,e2⟩,fun h=>?_,fun X hX=>?_⟩
  ·have:=(Array.getElem?_eq_some_iff.1 (e4 D hmem).obj).1
   omega
  ·rw[hC.2] at h;cases h
  ·rcases List.mem_cons.1 hX with rfl|hX
   ·exact⟨(World.putObj_heap_other hne).trans hD3,nD.off,nD.offB,nD.nofm,by have:=hs.goes.ext.size;omega⟩
   ·exact(e4 X hX).goes go4
 rintro e w3 (⟨hNK,⟨v,rfl⟩,FMk,okk,h1,h2⟩|⟨hKN,⟨⟨v,rfl⟩,hL3⟩|⟨ch,rfl,hL3⟩⟩)
 ·obtain⟨okd,hD3,hL3,nD,nL⟩:=okDead okk h1
  have hend:=run_endLoop (P:=Tryd.prog) hL3 (by rw[hrec];intro h;cases h)
  obtain⟨p,w4,hend,hp,hw4⟩:∃p w4,(Instr.endLoop L).run Tryd.prog w3=.ok p w4/\p=none/\w4=w3.putObj L (.loop { rec .ready none with state:=.exhausted }):=⟨_,_,hend,by rw[hrec],rfl⟩
  subst hp
  have hs4:=hsat .ready none okd h1 hD3 nD nL
  rw[<-hw4] at hs4
  exact⟨none,w4,hend,_,hdone hNK,FMk,Z,hs4⟩
 ·obtain⟨ex,j,s3,FM3,Z3,_,hj,hq,ok3,go3,hD3,hL3,nD,nL⟩:=hL3
  have hend:=run_endLoop (P:=Tryd.prog) hL3 (by rw[hrec];intro h;cases h)
  obtain⟨p,w4,hend,hp,hw4⟩:∃p w4,(Instr.endLoop L).run Tryd.prog w3=.ok p w4/\p=some j/\w4=w3.putObj L (.loop { rec .done (some j) with state:=.exhausted }):=⟨_,_,hend,by rw[hrec],rfl⟩
  subst hp
  have hs4:=hsat .done (some j) ok3 go3 hD3 nD nL
  rw[<-hw4] at hs4
  refine⟨some j,w4,hend,?_⟩
  cases ex with
  |normal=>cases hj
  |pan v=>cases hj
  |ret=>cases hj;exact wpIn_ret ⟨_,hq,FM3,Z3,hs4⟩
  |exit id=>cases hj;exact wpIn_exit ⟨_,hq,FM3,Z3,hs4⟩
 ·obtain⟨_,_,_,_,_,he,_⟩:=hL3
  cases he
end
end Go.Avm.Pack
namespace Go.Avm.Pack
open Go Go.Avm Go.Proofs
open Go.IntKind (i64 u64)
open Go.Avm.AV (int bool any fz fp sl ow ref fn ifc val agg tup)
open Go.Avm.AObj (cells dead)
open Go.Avm.Oc (ret)
set_option maxRecDepth 4000
section
variable {R:Res}
def zc (P:Program)(R:Res)(nt l:Nat)(b:Code)(q:List Nat)(Q:AEx->St R.σ->Prop):AEx->St R.σ->Prop
 |.normal,s=>Wp P R nt s.hp.length (.inr l) b q (kR Q) s
 |_,_=>False
theorem sL [Tab LT R]{nt k0:Nat}{b:Code}{p:List Nat}{Q:AEx->St R.σ->Prop}{s:St R.σ}(t:Nat)(psl:List Nat)(m:Nat)(hrl:kC t psl (sub b p)=true){fa fb:Nat->AV}(hf:lk s.fr t=.fn 105 0 fa 1 fb)(hfb:fb 0=.ref m 0)
  (S K:Nat) (hS:S<2^24) (H:List AObj) (h0:To R k0 s ⟨s.fr,H++[.cells false 1 (fun _=>.int .u64 S)],s.g⟩) (hl:H.length=m)
  (hlive:eF (H++[.cells false 1 (fun _=>.int .u64 S)])) (hBO:f7 m H) (hlen:1=psl.length) (hlt:cd psl nt=true) (ts:List Nat) (hBf:iz ts (fun t=>Below m (lk s.fr t)))
  (hround:∀k l,k<K->k<(aj S).length->Wp Tryd.prog R nt m (.inr l) b (p++[0]) (qh Tryd.prog R nt m l b (p++[1]) none H s.g) ⟨dP psl [.int .i64 (((aj S).getD k 0:Nat):Int)] (eG ts s.fr),H,s.g⟩)
  (hlast:K<(aj S).length->∀l,Wp Tryd.prog R nt (m+1) (.inr l) b (p++[0]) (zc Tryd.prog R nt l b (p++[1]) (fun e s3=>Q e ⟨s.fr,s3.hp,s3.g⟩)) ⟨dP psl [.int .i64 (((aj S).getD K 0:Nat):Int)] s.fr,H++[.dead],s.g⟩)
  (hdone:(aj S).length<=K->Q .normal ⟨s.fr,H++[.dead],s.g⟩) :
  Wp Tryd.prog R nt k0 .top b p Q s:=by
 obtain⟨ps,assign,body,hc,rfl⟩:∃ps assign body,sub b p=.rangeFunc (.tmp t) ps assign body/\ps.toList=psl:=by
  unfold kC at hrl
  split at hrl
  ·rename_i u ps assign body hs
   simp only[Bool.and_eq_true] at hrl
   have:=Nat.eq_of_beq_eq_true hrl.1
   subst this
   exact⟨ps,assign,body,hs,kz hrl.2⟩
  ·cases hrl
 have e0:sub b (p++[0])=assign:=by rw[dq,hc];exact eE assign
 have e1:sub b (p++[1])=body:=by rw[dq,hc];exact eE body
 refine⟨?_⟩
 rw[hc]
 refine ko h0 (zb (s:=⟨s.fr,H++[.cells false 1 (fun _=>.int .u64 S)],s.g⟩) (K:=K) hf hfb hS rfl hl hlive hBO hlen hlt ts hBf (fun k hk hkN l=>?_) (fun hK l=>?_) hdone)
 ·have h1:=(hround k l hk hkN).h
  rw[e0] at h1
  rw[show(St.hp ⟨dP ps.toList [.int .i64 (((aj S).getD k 0:Nat):Int)] (eG ts s.fr),H,s.g⟩).length=m from hl]
  refine kj h1 (fun e s' hq=>?_)
  cases e with
  |normal=>
   have h2:=(show Wp _ _ _ _ _ _ _ _ _ from hq).h
   rw[e1] at h2
   exact⟨rfl,h2⟩
  |exit id=>exact hq.elim
  |ret=>exact hq.elim
  |pan v=>exact hq.elim
 ·have h1:=(hlast hK l).h
  rw[e0] at h1
  refine kj h1 (fun e s' hq=>?_)
  cases e with
  |normal=>
   have h2:=(show Wp _ _ _ _ _ _ _ _ _ from hq).h
   rw[e1] at h2
   exact⟨rfl,h2⟩
  |exit id=>exact hq.elim
  |ret=>exact hq.elim
  |pan v=>exact hq.elim
end
def aW (l:List Nat):Nat->AV:=fun k=>ap (ao (l.getD k 0))
theorem gZ {k:Nat}(l:List Nat)(j:Nat):Below k (aW l j):=trivial
theorem jT {f:Nat->Nat}(h:True){l:List Nat}{j:Nat}:aY f (aW l j)=aW l j:=rfl
theorem lF {p:Prg}{left a:Nat}(hg:hgP p a<2^24)(hl:left<2^24):(IntKind.u64.wrap ((BitVec.ofInt 64 (IntKind.u64.wrap ((BitVec.ofInt 64 (hgP p a:Int)&&&BitVec.ofInt 64 (left:Int)).toNat:Int)) &&& ~~~ BitVec.ofInt 64 (aB p a:Int)).toNat:Int)==0)=eL p left a:=by
 rw[Tb.u64_and (cb hg) (cb hl),n9 (Nat.lt_of_le_of_lt Nat.and_le_right hl)]
 unfold eL
 rw[Bool.eq_iff_iff,beq_iff_eq,beq_iff_eq]
 omega
theorem lG {p:Prg}(hr:∀r,r∈p.rules.l->aP r)(hx:∀r,r∈p.rules.l->∀l,l∈r.body.l->0<=l.atom/\l.atom<p.atoms){a c:Nat}(ha:a<24)(han:(a:Int)<p.atoms)(hc:c∈aj (hgP p a)):(c:Int)<p.atoms:=by
 obtain⟨m1,m2⟩:=Tb.mem_memN.1 hc
 rcases xG hx ((d6 hr ha).1 m2) with rfl|h
 ·exact han
 ·exact h
theorem lH {L:List Nat}{w m c:Nat}{z:Nat->AV}{old:Nat->Nat->AV}(hm:m=L.length)(hold:∀i,i<m->old i 0=aW L i)(hc:c<(m+1)*1):aW (L++[w]) c=bc 1 m old (fun i j=>ah z 0 1 (fun _=>ap (ao w)) (0+i*1+j)) c:=by
 unfold bc aW
 rw[List.getD_eq_getElem?_getD]
 by_cases h:c<m*1
 ·rw[if_pos h,show c/1=c by omega,show c%1=0 by omega,hold c (by omega),List.getElem?_append_left (by omega),<-List.getD_eq_getElem?_getD]
  rfl
 ·rw[if_neg h,List.getElem?_append_right (by omega),show c-L.length=0 by omega]
  show _=ah z 0 1 _ (0+(c-m*1)/1*1+(c-m*1)%1)
  rw[cL,if_pos (by omega)]
  rfl
theorem Le.ow_nil {get:Nat->Nat->AV}{s o es:Nat}:Le (.ow true o 0 es) (.fz .nil s 0 get):=by
 intro FM Z v h
 obtain⟨a,rfl,ha⟩:=h.1 rfl
 obtain rfl:=ha rfl
 exact⟨fun _=>⟨rfl,none,0,rfl,rfl,rfl⟩,fun h=>(by cases h)⟩
theorem zd {f z:Nat->AV}{a c:Nat}(hc:c<(a+1)*1):f c=bc 1 a (fun i j=>f (i*1+j)) (fun i j=>ah z 0 1 (fun _=>f a) (0+i*1+j)) c:=by
 unfold bc
 by_cases h:c<a*1
 ·rw[if_pos h]
  show f c=f (c/1*1+c%1)
  rw[show c/1*1+c%1=c by omega]
 ·rw[if_neg h]
  show f c=ah z 0 1 _ (0+(c-a*1)/1*1+(c-a*1)%1)
  rw[cL,if_pos (by omega),show c=a by omega]
structure OrdOk (p:Prg)(x:Nat × List Nat × Nat):Prop where
 num:x.1=x.2.1.length
 few:x.1+(aj x.2.2).length<=24
 lt:x.2.2<2^24
 at_:∀a,a∈aj x.2.2->a<p.atoms.toNat
 ord:∃f,(aj x.2.2).length<f/\x.2.1++jM p f x.2.2=cE p
theorem ze {p:Prg}(hr:∀r,r∈p.rules.l->aP r){m left:Nat}{L:List Nat}(h:OrdOk p (m,L,left))(h0:left≠0):OrdOk p (m+1,L++[aB p (dS p left)],dI left (aB p (dS p left)))/\(aj (dI left (aB p (dS p left)))).length<(aj left).length:=by
 obtain⟨o1,o2,o3,o4,f,f1,f2⟩:=h
 simp only at o1 o2 o3 o4 f1 f2
 have hlt:=xK hr o3 h0
 obtain⟨f,rfl⟩:∃k,f=k+1:=⟨f-1,by omega⟩
 refine⟨⟨?_,?_,Nat.lt_of_le_of_lt rr o3,fun a ha=>o4 a ?_,f,?_,?_⟩,hlt⟩
 ·show m+1=(L++[_]).length
  rw[List.length_append,o1]
  rfl
 ·show m+1+(aj (dI left (aB p (dS p left)))).length<=24
  omega
 ·obtain⟨m1,m2⟩:=Tb.mem_memN.1 ha
  have m2:(dI left (aB p (dS p left))).testBit a=true:=m2
  rw[jL o3,Bool.and_eq_true] at m2
  exact Tb.mem_memN.2 ⟨m1,m2.1⟩
 ·show(aj (dI left _)).length<f
  omega
 ·rw[<-f2]
  show(L++[_])++jM p f _=L++(if left=0 then[] else _::jM p f _)
  rw[if_neg h0,List.append_assoc]
  rfl
theorem zf {p:Prg}(hp:1<=p.atoms/\p.atoms<=24):OrdOk p (0,[],2^p.atoms.toNat-1):=by
 have hb:∀j,(2^p.atoms.toNat-1).testBit j=decide (j<p.atoms.toNat):=fun j=>Nat.testBit_two_pow_sub_one _ _
 refine⟨rfl,?_,?_,fun a ha=>?_,25,?_,rfl⟩
 ·have:=gQ (2^p.atoms.toNat-1)
  show 0+(aj (2^p.atoms.toNat-1)).length<=24
  omega
 ·have:2^p.atoms.toNat<=2^24:=Nat.pow_le_pow_right (by decide) (by omega)
  have:0<2^p.atoms.toNat:=Nat.pow_pos (by decide)
  show 2^p.atoms.toNat-1<2^24
  omega
 ·have h:=(Tb.mem_memN.1 ha).2
  have h:(2^p.atoms.toNat-1).testBit a=true:=h
  rw[hb,decide_eq_true_eq] at h
  exact h
 ·have:=gQ (2^p.atoms.toNat-1)
  show(aj (2^p.atoms.toNat-1)).length<25
  omega
theorem zg (R:Res)[Tab LT R](p:Prg)(hb:aR p=true)(g:R.σ):Does Tryd.prog R 31 [ay p] [] g (.ret (.tup 2 (nth [dv (cE p).length (fun i=>ao ((cE p).getD i 0)),.int .i64 0]))) [] g:=by
 have hroom:aG=140737488355328:=rfl
 obtain⟨hl,hr,hp,hh,hx⟩:=ff hb
 have hs:em p:=iK hb
 have hp':1<=p.atoms/\p.atoms<=24:=hp
 refine az (nt:=57) (rs:=[.tmp 2,.tmp 3]) (k0:=0) (by kernel_rfl) (by kernel_rfl) (by kernel_rfl) rfl ?_
 have hc:((if aR p then(0:Int) else 2) != 0)=false:=by rw[hb];rfl
 refine vcQ [[1,0,0,1,0]] (lkL [(0,[1]),(1,[1,13]),(3,[1,4]),(4,[1,4,15,16])]) (lkL [(1,[(1,ROrc.pcall (int i64 (if aR p=true then 0 else 2)))])]) (fun Q=>(fun (u1:Int)=>(fun (u2:AObj)=>2<=2/\(∀(hp:List AObj) (g:R.σ),true=true/\Does Tryd.prog R 16 [ay p] hp g (ret (int i64 u1)) hp g)/\((u1 != 0)=true->Wp Tryd.prog R 57 0 Rd.top (af Tryd.prog 31) [1,0,0,1,0] (aq Tryd.prog R 57 0 Rd.top (af Tryd.prog 31) Q [Kont.seq [1,0,1]]) (St.mk [(1,ref 0 0),(13,AV.bool (u1 != 0))] [u2] g))/\((u1 != 0)=false->1<=2/\Wp Tryd.prog R 57 0 Rd.top (af Tryd.prog 31) [1,0,1,1,0,1,0] (aq Tryd.prog R 57 0 Rd.top (af Tryd.prog 31) Q [Kont.blk 0,Kont.seq [1,0,1,1,1]]) (St.mk [(1,ref 0 0),(4,ref 1 0),(15,int i64 p.atoms),(16,int i64 0)] [u2,cells false 1 fun (a:Nat)=>fz Fz.nil 0 0 fun _ _=>any] g))) (cells false 2 (nth [int i64 p.atoms,ae p.rules]))) (if aR p=true then 0 else 2)) (fun _=>by kernel_rfl) ⟨by omega,(fun _ _=>⟨rfl,(f9 _ _ _ _ (by omega))⟩),fun hcc=>(nomatch (hc.symm.trans hcc)),fun _=>⟨by omega,?_⟩⟩
 refine bQ (eq (fun _=>.any) 1) ?_
 refine bQ (aX (s':=⟨[(1,.ref 0 0),(4,.ref 1 0),(15,.int .i64 p.atoms),(16,.int .i64 0)],[.cells false 2 (nth [.int .i64 p.atoms,ae p.rules]),.cells false 1 (fun _=>.ow true 2 0 1),.cells false (0*1) (onC p)],g⟩) ?_ ?_ rfl) ?_
 ·exact⟨Le.refl _,Le.refl _,Le.refl _,Le.refl _,trivial⟩
 ·exact⟨LeO.refl _,⟨rfl,Nat.le_refl _,fun _ _=>Le.nil_ow⟩,⟨rfl,Nat.le_refl _,fun j hj=>absurd hj (by omega)⟩,trivial⟩
 refine(bg (by kernel_rfl) (fun (a:Nat)=>⟨[(1,ref 0 0),(4,ref 1 0),(15,int i64 p.atoms),(16,.int .i64 a)],[.cells false 2 (nth [.int .i64 p.atoms,ae p.rules]),.cells false 1 (fun _=>.ow true 2 a 1),.cells false (a*1) (onC p)],g⟩) (fun (a:Nat)=>(a<=p.atoms.toNat)) (fun (a:Nat)=>(p.atoms.toNat-a)) 0 (bh ⟨Le.refl _,Le.refl _,Le.refl _,(Le.of_eq (by kernel_rfl)),trivial⟩ rfl rfl) ?_ (fun a hi=>?_))
 ·exact Nat.zero_le _
 ·refine vcQ [] (lkL [(5,[1,4,15,16,17]),(6,[1,4,5,15,16]),(7,[1,4,15,16]),(8,[1,4,15,16])]) (lkL [(7,[(3,ROrc.pcall (int u64 (↑(hgP p ((a:Int).toNat)):Int))),(5,ROrc.val (Orc.obj (onC p))),(6,ROrc.val (Orc.obj (nth [ow true 4 (a+1) 1])))])]) (fun Q=>(fun (u1:Int)=>(fun (u2:AV)=>(fun (u3:AObj)=>(decide (u1<p.atoms)=true->Tables.follows Tryd.prog.toTables Departure.mixedOrders=true/\1<=1/\2<=2/\(∀(hp:List AObj) (g:R.σ),true=true/\Does Tryd.prog R 70 [ay p,int i64 u1] hp g (ret u2) hp g)/\0<1/\(a+1)*8<=aG/\a+1<=aG/\1<=1/\a*1<=a*1/\(∀(c:Nat),c<(a+1)*1->int u64 (↑(hgP p c):Int)=bc 1 a (fun (i j:Nat)=>int u64 (↑(hgP p (i*1+j)):Int)) (fun (i j:Nat)=>ah (fun (j:Nat)=>int u64 0) 0 1 (fun (x:Nat)=>u2) (0+i*1+j)) c)/\1<=1/\(∀(c:Nat),c<1->nth [ow true 4 (a+1) 1] c=ah (fun (x:Nat)=>ow true 2 a 1) 0 1 (fun (x:Nat)=>ow true 4 (a+1) 1) c)/\(-9223372036854775808<=u1+1/\u1+1<=9223372036854775807)/\Q AEx.normal (St.mk [(1,ref 0 0),(4,ref 1 0),(15,int i64 p.atoms),(16,int i64 (u1+1))] [u3,cells false 1 (nth [ow true 4 (a+1) 1]),dead,cells false 1 (ah (fun (j:Nat)=>int u64 0) 0 1 fun (x:Nat)=>u2),cells false ((a+1)*1) fun (a:Nat)=>int u64 (↑(hgP p a):Int)] g))/\(decide (u1<p.atoms)=false->Q (AEx.exit 0) (St.mk [(1,ref 0 0),(4,ref 1 0),(15,int i64 p.atoms),(16,int i64 u1),(17,AV.bool (decide (u1<p.atoms)))] [u3,cells false 1 fun (x:Nat)=>ow true 2 a 1,cells false (a*1) fun (a:Nat)=>int u64 (↑(hgP p a):Int)] g))) (cells false 2 (nth [int i64 p.atoms,ae p.rules]))) (int u64 (↑(hgP p a):Int))) ((a:Int))) (fun _=>by kernel_rfl) ⟨fun c1=>have c1:(a:Int)<p.atoms:=(of_decide_eq_true c1);⟨by kernel_rfl,by omega,by omega,(fun _ _=>⟨rfl,(rk _ _ _ (by omega) (by omega) (by simp at * <;> omega) _ _)⟩),by omega,by omega,by omega,by omega,by omega,?_,by omega,(fun c hc=>match c,hc with|0,_=>(by kernel_rfl) ),by omega,?_⟩,fun c1=>have c1:¬(a:Int)<p.atoms:=(of_decide_eq_false c1);?_⟩
  ·exact fun c hc=>(zd (f:=onC p) (z:=fun _=>.int .u64 0) hc).trans (by kernel_rfl)
  ·refine(aL (a+1) (a9 [0,1,4] 5 rfl rfl rfl rfl rfl ⟨Le.refl _,Le.refl _,Le.refl _,Le.refl _,trivial⟩ ⟨⟨rfl,Nat.le_refl _,fun j hj=>match j,hj with|0,_=>(Le.refl _)|1,_=>(Le.refl _) ⟩,⟨rfl,Nat.le_refl _,fun j hj=>match j,hj with|0,_=>(Le.refl _) ⟩,?_,trivial⟩) ?_ ?_)
   ·exact⟨rfl,Nat.le_refl _,fun j _=>Le.of_eq rfl⟩
   ·omega
   ·omega
  ·have ha:a=p.atoms.toNat:=by omega
   subst ha
   have hA:=fun (R:Res) (hp:List AObj) (g:R.σ)=>wo R p.atoms.toNat (by omega) hp g
   rw[show((p.atoms.toNat:Nat):Int)=p.atoms by omega] at hA
   obtain⟨left0,hleft0⟩:∃l,2^p.atoms.toNat-1=l:=⟨_,rfl⟩
   simp only[hleft0] at hA
   obtain⟨n,hn⟩:∃n,p.atoms.toNat=n:=⟨_,rfl⟩
   rw[hn]
   refine⟨_,To.refl _,vcQ [] (lkL [(9,[1,4,6]),(10,[1,4,6,7]),(11,[4,6,7,8])]) (lkL [(9,[(2,ROrc.val (Orc.obj (nth [fn 82 0 (nth []) 1 (nth [ref 1 0])])))]),(11,[(2,ROrc.pcall (int u64 (left0:Int))),(4,ROrc.val (Orc.obj (nth [int u64 (left0:Int)])))])]) (fun Q=>(fun (u1:AV)=>(fun (u2:AV)=>1<=1/\(∀(c:Nat),c<1->nth [u2] c=ah (fun (a:Nat)=>AV.nilf) 0 1 (fun (x:Nat)=>u2) c)/\1<=2/\(∀(hp:List AObj) (g:R.σ),true=true/\Does Tryd.prog R 83 [int i64 p.atoms] hp g (ret u1) hp g)/\1<=1/\(∀(c:Nat),c<1->nth [u1] c=ah (fun (a:Nat)=>int u64 0) 0 1 (fun (x:Nat)=>u1) c)/\Wp Tryd.prog R 57 0 Rd.top (af Tryd.prog 31) [1,0,1,1,1,1,1,1,1,0,0] (aq Tryd.prog R 57 0 Rd.top (af Tryd.prog 31) Q [Kont.blk 2,Kont.seq [1,0,1,1,1,1,1,1,1,1]]) (St.mk [(4,ref 1 0),(6,ref 3 0),(7,ref 4 0),(8,ref 5 0)] [cells false 2 (nth [int i64 p.atoms,ae p.rules]),cells false 1 fun (x:Nat)=>ow true 2 n 1,cells false (n*1) fun (a:Nat)=>int u64 (↑(hgP p a):Int),cells false 1 (nth [u2]),cells false 1 fun (a:Nat)=>fz Fz.nil 0 0 fun _ _=>any,cells false 1 (nth [u1])] g)) (fn 82 0 (nth []) 1 (nth [ref 1 0]))) (int u64 (left0:Int))) (fun _=>by kernel_rfl) ⟨by omega,(fun c hc=>match c,hc with|0,_=>(by kernel_rfl) ),by omega,(fun _ _=>⟨rfl,(hA _ _ _)⟩),by omega,(fun c hc=>match c,hc with|0,_=>(by kernel_rfl) ),?_⟩⟩
   refine bQ (eq (fun _=>.any) 1) ?_
   refine bQ (aX (s':=⟨[(4,.ref 1 0),(6,.ref 3 0),(7,.ref 4 0),(8,.ref 5 0)],[.cells false 2 (nth [.int .i64 p.atoms,ae p.rules]),.cells false 1 (fun _=>.ow true 2 n 1),.cells false (n*1) (onC p),.cells false 1 (fun _=>.fn 82 0 (nth []) 1 (nth [.ref 1 0])),.cells false 1 (fun _=>.ow true 6 0 1),.cells false 1 (fun _=>.int .u64 left0),.cells false (0*1) (aW [])],g⟩) ?_ ?_ rfl) ?_
   ·exact⟨Le.refl _,Le.refl _,Le.refl _,Le.refl _,trivial⟩
   ·exact⟨LeO.refl _,LeO.refl _,LeO.refl _,⟨rfl,Nat.le_refl _,fun j hj=>match j,hj with|0,_=>Le.refl _⟩,⟨rfl,Nat.le_refl _,fun _ _=>Le.nil_ow⟩,⟨rfl,Nat.le_refl _,fun j hj=>match j,hj with|0,_=>Le.refl _⟩,⟨rfl,Nat.le_refl _,fun j hj=>absurd hj (by omega)⟩,trivial⟩
   refine(bg (by kernel_rfl) (fun (x:Nat × List Nat × Nat)=>⟨[(4,ref 1 0),(6,ref 3 0),(7,ref 4 0),(8,ref 5 0)],[.cells false 2 (nth [.int .i64 p.atoms,ae p.rules]),.cells false 1 (fun _=>.ow true 2 n 1),.cells false (n*1) (onC p),.cells false 1 (fun _=>.fn 82 0 (nth []) 1 (nth [.ref 1 0])),.cells false 1 (fun _=>.ow true 6 x.1 1),.cells false 1 (fun _=>.int .u64 x.2.2),.cells false (x.1*1) (aW x.2.1)],g⟩) (fun (x:Nat × List Nat × Nat)=>(OrdOk p x)) (fun (x:Nat × List Nat × Nat)=>((aj x.2.2).length)) (0,[],left0) (bh ⟨Le.refl _,Le.refl _,Le.refl _,Le.refl _,trivial⟩ rfl rfl) ?_ (fun x hi=>?_))
   ·rw[<-hleft0]
    exact zf hp'
   ·obtain⟨m,L,left⟩:=x
    have hok:=hi
    obtain⟨o1,o2,o3,o4,o5⟩:=hi
    simp only at o1 o2 o3 o4 o5
    have hat:0<n:=by omega
    refine vcQ [] (lkL [(12,[4,6,7,8,31]),(13,[4,6,7,8,33])]) (lkL [(13,[(1,ROrc.call (fn 105 0 (nth []) 1 (nth [ref (List.length [cells false 2 (nth [int i64 p.atoms,ae p.rules]),cells false 1 fun (x:Nat)=>ow true 2 n 1,cells false (n*1) fun (a:Nat)=>int u64 (↑(hgP p a):Int),cells false 1 fun (x:Nat)=>fn 82 0 (nth []) 1 (nth [ref 1 0]),cells false 1 fun (x:Nat)=>ow true 6 m 1,cells false 1 fun (x:Nat)=>int u64 (left:Int),cells false (m*1) fun (a:Nat)=>fz Fz.auto 1 ((ao (L.getD a 0)).l.length) fun (i x:Nat)=>ab (ao (L.getD a 0)).l i]) 0])) ([cells false 2 (nth [int i64 p.atoms,ae p.rules]),cells false 1 fun (x:Nat)=>ow true 2 n 1,cells false (n*1) fun (a:Nat)=>int u64 (↑(hgP p a):Int),cells false 1 fun (x:Nat)=>fn 82 0 (nth []) 1 (nth [ref 1 0]),cells false 1 fun (x:Nat)=>ow true 6 m 1,cells false 1 fun (x:Nat)=>int u64 (left:Int),cells false (m*1) fun (a:Nat)=>fz Fz.auto 1 ((ao (L.getD a 0)).l.length) fun (i x:Nat)=>ab (ao (L.getD a 0)).l i]++[cells false 1 fun (x:Nat)=>int u64 (left:Int)]) g)])]) (fun Q=>(fun (u1:List AObj)=>(fun (u2:List AObj)=>1<=1/\(((left:Int) != 0)=true->1<=1/\(true=true/\Does Tryd.prog R 77 [int u64 (left:Int)] u2 g (ret (fn 105 0 (nth []) 1 (nth [ref 7 0]))) u1 g)/\Wp Tryd.prog R 57 0 Rd.top (af Tryd.prog 31) [1,0,1,1,1,1,1,1,1,0,0,0,1,0,1,0] (aq Tryd.prog R 57 0 Rd.top (af Tryd.prog 31) Q [Kont.blk 4,Kont.blk 3]) (St.mk [(4,ref 1 0),(6,ref 3 0),(7,ref 4 0),(8,ref 5 0),(33,fn 105 0 (nth []) 1 (nth [ref 7 0]))] u1 g))/\(((left:Int) != 0)=false->Q (AEx.exit 2) (St.mk [(4,ref 1 0),(6,ref 3 0),(7,ref 4 0),(8,ref 5 0),(31,AV.bool ((left:Int) != 0))] u2 g))) ([cells false 2 (nth [int i64 p.atoms,ae p.rules]),cells false 1 fun (x:Nat)=>ow true 2 n 1,cells false (n*1) fun (a:Nat)=>int u64 (↑(hgP p a):Int),cells false 1 fun (x:Nat)=>fn 82 0 (nth []) 1 (nth [ref 1 0]),cells false 1 fun (x:Nat)=>ow true 6 m 1,cells false 1 fun (x:Nat)=>int u64 (left:Int),cells false (m*1) fun (a:Nat)=>fz Fz.auto 1 ((ao (L.getD a 0)).l.length) fun (i x:Nat)=>ab (ao (L.getD a 0)).l i])) ([cells false 2 (nth [int i64 p.atoms,ae p.rules]),cells false 1 fun (x:Nat)=>ow true 2 n 1,cells false (n*1) fun (a:Nat)=>int u64 (↑(hgP p a):Int),cells false 1 fun (x:Nat)=>fn 82 0 (nth []) 1 (nth [ref 1 0]),cells false 1 fun (x:Nat)=>ow true 6 m 1,cells false 1 fun (x:Nat)=>int u64 (left:Int),cells false (m*1) fun (a:Nat)=>fz Fz.auto 1 ((ao (L.getD a 0)).l.length) fun (i x:Nat)=>ab (ao (L.getD a 0)).l i,cells false 1 fun (x:Nat)=>int u64 (left:Int)])) (fun _=>by kernel_rfl) ⟨by omega,fun c1=>have c1:¬(left:Int)=0:=(bne_iff_ne.mp c1);⟨by omega,⟨rfl,(dG _ _ _ _)⟩,?_⟩,fun c1=>have c1:(left:Int)=0:=(bne_eq_false_iff_eq.mp c1);?_⟩
    ·have hne:left≠0:=by omega
     have hnx:=ze hr hok hne
     obtain⟨k1,k2,k3,k4⟩:=ru hr o3 hne
     obtain⟨K,hK⟩:∃K,iN p left=K:=⟨_,rfl⟩
     obtain⟨A,hA'⟩:∃A,dS p left=A:=⟨_,rfl⟩
     rw[hK] at k1 k3
     rw[hA'] at k2 k4 hnx
     have hAK:(aj left).getD K 0=A:=by rw[<-hA',<-hK];rfl
     rcases Nat.eq_zero_or_pos m with hm0|hm0
     ·subst hm0
      have hL:L=[]:=List.length_eq_zero_iff.1 o1.symm
      subst hL
      refine bQ (a9 (s':=⟨[(4,.ref 1 0),(6,.ref 3 0),(7,.ref 4 0),(8,.ref 5 0),(33,.fn 105 0 (nth []) 1 (nth [.ref 6 0]))],[.cells false 2 (nth [.int .i64 p.atoms,ae p.rules]),.cells false 1 (fun _=>.ow true 2 n 1),.cells false (n*1) (onC p),.cells false 1 (fun _=>.fn 82 0 (nth []) 1 (nth [.ref 1 0])),.cells false 1 (fun _=>.fz .nil 0 0 (fun _ _=>.any)),.cells false 1 (fun _=>.int .u64 left),.cells false 1 (fun _=>.int .u64 left)],g⟩) [0,1,2,3,4,5,7] 8 rfl rfl rfl rfl rfl ⟨Le.refl _,Le.refl _,Le.refl _,Le.refl _,Le.fn (fun i hi=>absurd hi (Nat.not_lt_zero i)) (fun i hi=>match i,hi with|0,_=>Le.refl _),trivial⟩ ⟨⟨rfl,Nat.le_refl _,fun j hj=>match j,hj with|0,_=>Le.refl _|1,_=>au (by exact trivial)⟩,LeO.refl _,LeO.refl _,⟨rfl,Nat.le_refl _,fun j hj=>Le.fn (fun i hi=>absurd hi (Nat.not_lt_zero i)) (fun i hi=>match i,hi with|0,_=>Le.refl _)⟩,⟨rfl,Nat.le_refl _,fun j hj=>Le.ow_nil⟩,LeO.refl _,LeO.refl _,trivial⟩) ?_
      refine sL 33 [34] 6 (by kernel_rfl) rfl rfl left K o3 [.cells false 2 (nth [.int .i64 p.atoms,ae p.rules]),.cells false 1 (fun _=>.ow true 2 n 1),.cells false (n*1) (onC p),.cells false 1 (fun _=>.fn 82 0 (nth []) 1 (nth [.ref 1 0])),.cells false 1 (fun _=>.fz .nil 0 0 (fun _ _=>.any)),.cells false 1 (fun _=>.int .u64 left)] (ix rfl rfl) rfl (by exact⟨by omega,by omega,by omega,by omega,by omega,by omega,by omega,trivial⟩) (by exact⟨fun j hj=>(match j,hj with|0,_=>trivial|1,_=>trivial),fun _ _=>show 2<6 by omega,fun _ _=>trivial,fun _ _=>⟨trivial,trivial,show 1<6 by omega⟩,fun _ _=>trivial,fun _ _=>trivial,trivial⟩) rfl (by kernel_rfl) [4,6,7,8] (by exact⟨show 1<6 by omega,show 3<6 by omega,show 4<6 by omega,show 5<6 by omega,trivial⟩) (fun k l' hk hkN=>?_) (fun hKN l'=>?_) (fun h=>?_)
      ·obtain⟨a,ha⟩:∃a,(aj left).getD k 0=a:=⟨_,rfl⟩
       have ham:a∈aj left:=by rw[<-ha];exact bN _ 0 hkN
       have han:a<n:=by rw[<-hn];exact o4 a ham
       have h3:=k3 k hk
       rw[ha] at h3 ⊢
       have hO:=fun (R:Res) [Tab LT R] (g:R.σ)=>ls R p n a hr (by omega) (by omega) (fun b hb=>by have:=lG hr hx (a:=a) (by omega) (by omega) hb;omega) g
       have hcd:=(lF (p:=p) (a:=a) (gT hr (by omega)) o3).trans h3
       refine vcQ [] (lkL [(14,[4,6,7,8,9])]) (fun _=>[]) (fun Q=>Q AEx.normal (St.mk [(4,ref 1 0),(6,ref 3 0),(7,ref 4 0),(8,ref 5 0),(9,int i64 (a:Int))] [cells false 2 (nth [int i64 p.atoms,ae p.rules]),cells false 1 fun (x:Nat)=>ow true 2 n 1,cells false (n*1) fun (a:Nat)=>int u64 (↑(hgP p a):Int),cells false 1 fun (x:Nat)=>fn 82 0 (nth []) 1 (nth [ref 1 0]),cells false 1 fun (x:Nat)=>fz Fz.nil 0 0 fun _ _=>any,cells false 1 fun (x:Nat)=>int u64 (left:Int)] g)) (fun _=>by kernel_rfl) (?_)
       show Wp _ _ _ 6 _ _ _ _ _
       refine vcQ [] (lkL [(15,[4,6,7,8,9,10]),(16,[4,6,7,8,10,46]),(17,[4,6,7,8,10]),(18,[4,6,7,8])]) (lkL [(15,[(2,ROrc.kcall (int u64 (↑(aB p a):Int)))]),(17,[(2,ROrc.callN (fn 105 0 (nth []) 1 (nth [ref (List.length [cells false 2 (nth [int i64 p.atoms,ae p.rules]),cells false 1 fun (x:Nat)=>ow true 2 n 1,cells false (n*1) fun (a:Nat)=>int u64 (↑(hgP p a):Int),cells false 1 fun (x:Nat)=>fn 82 0 (nth []) 1 (nth [ref 1 0]),cells false 1 fun (x:Nat)=>fz Fz.nil 0 0 fun _ _=>any,cells false 1 fun (x:Nat)=>int u64 (left:Int)]) 0])) [] [cells false 1 fun (x:Nat)=>int u64 (↑(aB p a):Int)] g),(3,ROrc.callN (ow true 7 ((aj (aB p a)).length) 1) [(6,cells false 1 fun (j:Nat)=>any)] [cells false ((aj (aB p a)).length*1) fun (j:Nat)=>int i64 (↑((aj (aB p a)).getD j 0):Int)] g),(6,ROrc.val (Orc.obj (nth [ow true 9 1 1])))]),(18,[(3,ROrc.val (Orc.obj (nth [int u64 (IntKind.wrap u64 (↑(BitVec.toNat (BitVec.ofInt 64 (left:Int) &&& ~~~BitVec.ofInt 64 (↑(aB p a):Int))):Int))])))])]) (fun Q=>(fun (u1:List AObj)=>(fun (u2:Bool)=>(fun (u3:List AObj)=>(fun (u4:AV)=>(fun (u5:AObj)=>(fun (u6:AV)=>(fun (u7:AV)=>(fun (u8:AObj)=>(fun (u9:AObj)=>(fun (u10:AV)=>(fun (u11:AObj)=>(fun (u12:Bool)=>1<=1/\(true=true/\Does Tryd.prog R 82 [int i64 (a:Int),ref 1 0] u1 g (ret u10) u1 g)/\u12=true/\1<=1/\(0<=(a:Int)/\(a:Int)<(n:Int))/\a+1<=n*1/\1<=1/\(u2=true->u12=true/\1<=1/\(true=true/\Does Tryd.prog R 77 [u10] u1 g (ret (fn 105 0 (nth []) 1 (nth [ref 6 0]))) u3 g)/\(true=true/\Does Tryd.prog R 75 [fn 105 0 (nth []) 1 (nth [ref 6 0])] u3 g (ret u7) [u11,cells false 1 fun (x:Nat)=>ow true 2 n 1,u9,u8,cells false 1 fun (x:Nat)=>u6,cells false 1 fun (x:Nat)=>int u64 (left:Int),cells false 1 fun (j:Nat)=>any,u5] g)/\0<1/\24<=aG/\1<=aG/\1<=1/\1<=1/\(∀(c:Nat),c<1->nth [ow true 9 1 1] c=ah (fun (x:Nat)=>u6) 0 1 (fun (x:Nat)=>ow true 9 1 1) c)/\1<=1/\1<=1/\(∀(c:Nat),c<1->nth [u4] c=ah (fun (x:Nat)=>int u64 (left:Int)) 0 1 (fun (x:Nat)=>u4) c)/\Q (AEx.exit 3) (St.mk [(4,ref 1 0),(6,ref 3 0),(7,ref 4 0),(8,ref 5 0)] [u11,cells false 1 fun (x:Nat)=>ow true 2 n 1,u9,u8,cells false 1 (nth [ow true 9 1 1]),cells false 1 (nth [u4]),cells false 1 fun (j:Nat)=>any,u5,cells false 1 (ah (fun (j:Nat)=>u6) 0 1 fun (x:Nat)=>u7),cells false 1 (bc 1 0 (fun _ _=>any) fun (i j:Nat)=>ah (fun (j:Nat)=>u6) 0 1 (fun (x:Nat)=>u7) (0+i*1+j))] g))/\(u2=false->Q AEx.normal (St.mk [(4,ref 1 0),(6,ref 3 0),(7,ref 4 0),(8,ref 5 0),(10,u10),(46,AV.bool u2)] u1 g))) (Tables.follows Tryd.prog.toTables Departure.mixedOrders)) (cells false 2 (nth [int i64 p.atoms,ae p.rules]))) (int u64 (↑(aB p a):Int))) (cells false (n*1) fun (a:Nat)=>int u64 (↑(hgP p a):Int))) (cells false 1 fun (x:Nat)=>fn 82 0 (nth []) 1 (nth [ref 1 0]))) (ow true 7 ((aj (aB p a)).length) 1)) (fz Fz.nil 0 0 fun _ _=>any)) (cells false ((aj (aB p a)).length*1) fun (j:Nat)=>int i64 (↑((aj (aB p a)).getD j 0):Int))) (int u64 (IntKind.wrap u64 (↑(BitVec.toNat (BitVec.ofInt 64 (left:Int) &&& ~~~BitVec.ofInt 64 (↑(aB p a):Int))):Int)))) ([cells false 2 (nth [int i64 p.atoms,ae p.rules]),cells false 1 fun (x:Nat)=>ow true 2 n 1,cells false (n*1) fun (a:Nat)=>int u64 (↑(hgP p a):Int),cells false 1 fun (x:Nat)=>fn 82 0 (nth []) 1 (nth [ref 1 0]),cells false 1 fun (x:Nat)=>fz Fz.nil 0 0 fun _ _=>any,cells false 1 fun (x:Nat)=>int u64 (left:Int),cells false 1 fun (x:Nat)=>int u64 (↑(aB p a):Int)])) (IntKind.wrap u64 (↑(BitVec.toNat (BitVec.ofInt 64 (IntKind.wrap u64 (↑(BitVec.toNat (BitVec.ofInt 64 (↑(hgP p a):Int)&&&BitVec.ofInt 64 (left:Int))):Int)) &&& ~~~BitVec.ofInt 64 (↑(aB p a):Int))):Int)==0)) ([cells false 2 (nth [int i64 p.atoms,ae p.rules]),cells false 1 fun (x:Nat)=>ow true 2 n 1,cells false (n*1) fun (a:Nat)=>int u64 (↑(hgP p a):Int),cells false 1 fun (x:Nat)=>fn 82 0 (nth []) 1 (nth [ref 1 0]),cells false 1 fun (x:Nat)=>fz Fz.nil 0 0 fun _ _=>any,cells false 1 fun (x:Nat)=>int u64 (left:Int)])) (fun _=>by kernel_rfl) ⟨by omega,⟨rfl,(bp (T:=LT) inferInstance [1,2] 6 (fun R _ g=>hO R g) rfl rfl rfl (by exact⟨⟨rfl,Nat.le_refl _,fun j hj=>match j,hj with|0,_=>(Le.refl _) ⟩,⟨rfl,Nat.le_refl _,fun j hj=>(by first|exact au (by first|exact trivial|apply gj)|exact Le.of_eq (gk rfl).symm)⟩,trivial⟩) (by exact⟨by omega,by omega,trivial⟩) (by exact⟨au (by exact trivial),Le.refl _,trivial⟩) (by exact aw (by exact trivial)) (by exact⟨LeO.rflc,⟨rfl,Nat.le_refl _,fun j hj=>match j,hj with|0,_=>(Le.refl _) ⟩,⟨rfl,Nat.le_refl _,fun j hj=>(by first|exact aw (by first|exact trivial|apply gj)|exact Le.of_eq (gk rfl))⟩,LeO.rflc,LeO.rflc,LeO.rflc,trivial⟩))⟩,by kernel_rfl,by omega,by omega,by omega,by omega,fun c1=>have c1:IntKind.wrap u64 (↑(BitVec.toNat (BitVec.ofInt 64 (IntKind.wrap u64 (↑(BitVec.toNat (BitVec.ofInt 64 (↑(hgP p a):Int)&&&BitVec.ofInt 64 (left:Int))):Int)) &&& ~~~BitVec.ofInt 64 (↑(aB p a):Int))):Int)=0:=(beq_iff_eq.mp c1);⟨by kernel_rfl,by omega,⟨rfl,(dG _ _ _ _)⟩,⟨rfl,(bp (T:=LT) inferInstance [6] 7 (fun R _ g=>ll R (aB p a) (by simp at * <;> omega) g) rfl rfl rfl (by exact⟨⟨rfl,Nat.le_refl _,fun j hj=>match j,hj with|0,_=>(Le.refl _) ⟩,trivial⟩) (by exact⟨by omega,trivial⟩) (by exact⟨(Le.fn (fun i hi=>absurd hi (by omega)) (fun i hi=>match i,hi with|0,_=>(Le.refl _) )),trivial⟩) (by exact(Le.refl _)) (by exact⟨LeO.rflc,LeO.rflc,LeO.rflc,LeO.rflc,LeO.rflc,LeO.rflc,LeO.rflc,LeO.rflc,trivial⟩))⟩,by omega,by omega,by omega,by omega,by omega,(fun c hc=>match c,hc with|0,_=>(by kernel_rfl) ),by omega,by omega,(fun c hc=>match c,hc with|0,_=>(by kernel_rfl) ),?_⟩,fun c1=>have c1:¬IntKind.wrap u64 (↑(BitVec.toNat (BitVec.ofInt 64 (IntKind.wrap u64 (↑(BitVec.toNat (BitVec.ofInt 64 (↑(hgP p a):Int)&&&BitVec.ofInt 64 (left:Int))):Int)) &&& ~~~BitVec.ofInt 64 (↑(aB p a):Int))):Int)=0:=(beq_eq_false_iff_ne.mp c1);?_⟩
       ·exfalso
        rename_i c0
        exact absurd (hcd.symm.trans c0) (by decide)
       ·refine(fZ rfl (bh trivial rfl rfl))
      ·rw[hAK]
       have han:A<n:=by rw[<-hn];exact o4 A k4
       have hO:=fun (R:Res) [Tab LT R] (g:R.σ)=>ls R p n A hr (by omega) (by omega) (fun b hb=>by have:=lG hr hx (a:=A) (by omega) (by omega) hb;omega) g
       have hcd:=(lF (p:=p) (a:=A) (gT hr (by omega)) o3).trans k2
       have hw24:=rl p A
       have hC:=fun (R:Res) [Tab LT R] (s:Nat) (hs:s<2^24) (g:R.σ)=>jJ R s hs g
       refine vcQ [] (lkL [(14,[4,6,7,8,9])]) (fun _=>[]) (fun Q=>Q AEx.normal (St.mk [(4,ref 1 0),(6,ref 3 0),(7,ref 4 0),(8,ref 5 0),(9,int i64 (A:Int))] [cells false 2 (nth [int i64 p.atoms,ae p.rules]),cells false 1 fun (x:Nat)=>ow true 2 n 1,cells false (n*1) fun (a:Nat)=>int u64 (↑(hgP p a):Int),cells false 1 fun (x:Nat)=>fn 82 0 (nth []) 1 (nth [ref 1 0]),cells false 1 fun (x:Nat)=>fz Fz.nil 0 0 fun _ _=>any,cells false 1 fun (x:Nat)=>int u64 (left:Int),dead] g)) (fun _=>by kernel_rfl) (?_)
       show Wp _ _ _ 7 _ _ _ _ _
       refine vcQ [] (lkL [(15,[4,6,7,8,9,10]),(16,[4,6,7,8,10,46]),(17,[4,6,7,8,10]),(18,[4,6,7,8])]) (lkL [(15,[(2,ROrc.kcall (int u64 (↑(aB p A):Int)))]),(17,[(2,ROrc.callN (fn 105 0 (nth []) 1 (nth [ref (List.length [cells false 2 (nth [int i64 p.atoms,ae p.rules]),cells false 1 fun (x:Nat)=>ow true 2 n 1,cells false (n*1) fun (a:Nat)=>int u64 (↑(hgP p a):Int),cells false 1 fun (x:Nat)=>fn 82 0 (nth []) 1 (nth [ref 1 0]),cells false 1 fun (x:Nat)=>fz Fz.nil 0 0 fun _ _=>any,cells false 1 fun (x:Nat)=>int u64 (left:Int),dead]) 0])) [] [cells false 1 fun (x:Nat)=>int u64 (↑(aB p A):Int)] g),(3,ROrc.callS (fz Fz.auto 1 ((ao (aB p A)).l.length) fun (i x:Nat)=>ab (ao (aB p A)).l i) [(7,cells false 1 fun (j:Nat)=>any)] g),(5,ROrc.val (Orc.obj (aW ([]++[aB p A])))),(6,ROrc.val (Orc.obj (nth [ow true 9 1 1])))]),(18,[(3,ROrc.val (Orc.obj (nth [int u64 (IntKind.wrap u64 (↑(BitVec.toNat (BitVec.ofInt 64 (left:Int) &&& ~~~BitVec.ofInt 64 (↑(aB p A):Int))):Int))])))])]) (fun Q=>(fun (u1:List AObj)=>(fun (u2:Bool)=>(fun (u3:List AObj)=>(fun (u4:AV)=>(fun (u5:AV)=>(fun (u6:AV)=>(fun (u7:AObj)=>(fun (u8:AObj)=>(fun (u9:AV)=>(fun (u10:AObj)=>(fun (u11:Bool)=>1<=1/\(true=true/\Does Tryd.prog R 82 [int i64 (A:Int),ref 1 0] u1 g (ret u9) u1 g)/\u11=true/\1<=1/\(0<=(A:Int)/\(A:Int)<(n:Int))/\A+1<=n*1/\1<=1/\(u2=true->u11=true/\1<=1/\(true=true/\Does Tryd.prog R 77 [u9] u1 g (ret (fn 105 0 (nth []) 1 (nth [ref 7 0]))) u3 g)/\(true=true/\Does Tryd.prog R 75 [fn 105 0 (nth []) 1 (nth [ref 7 0])] u3 g (ret u5) [u10,cells false 1 fun (x:Nat)=>ow true 2 n 1,u8,u7,cells false 1 fun (x:Nat)=>u6,cells false 1 fun (x:Nat)=>int u64 (left:Int),dead,cells false 1 fun (j:Nat)=>any] g)/\0<1/\24<=aG/\1<=aG/\1<=1/\(∀(c:Nat),c<1->(fz Fz.auto 1 ((ao (([]++[aB p A]).getD c 0)).l.length) fun (i x:Nat)=>ab (ao (([]++[aB p A]).getD c 0)).l i)=bc 1 0 (fun _ _=>any) (fun (i j:Nat)=>ah (fun (j:Nat)=>u6) 0 1 (fun (x:Nat)=>u5) (0+i*1+j)) c)/\1<=1/\(∀(c:Nat),c<1->nth [ow true 9 1 1] c=ah (fun (x:Nat)=>u6) 0 1 (fun (x:Nat)=>ow true 9 1 1) c)/\1<=1/\1<=1/\(∀(c:Nat),c<1->nth [u4] c=ah (fun (x:Nat)=>int u64 (left:Int)) 0 1 (fun (x:Nat)=>u4) c)/\Q (AEx.exit 3) (St.mk [(4,ref 1 0),(6,ref 3 0),(7,ref 4 0),(8,ref 5 0)] [u10,cells false 1 fun (x:Nat)=>ow true 2 n 1,u8,u7,cells false 1 (nth [ow true 9 1 1]),cells false 1 (nth [u4]),dead,cells false 1 fun (j:Nat)=>any,cells false 1 (ah (fun (j:Nat)=>u6) 0 1 fun (x:Nat)=>u5),cells false 1 fun (a:Nat)=>fz Fz.auto 1 ((ao (([]++[aB p A]).getD a 0)).l.length) fun (i x:Nat)=>ab (ao (([]++[aB p A]).getD a 0)).l i] g))/\(u2=false->Q AEx.normal (St.mk [(4,ref 1 0),(6,ref 3 0),(7,ref 4 0),(8,ref 5 0),(10,u9),(46,AV.bool u2)] u1 g))) (Tables.follows Tryd.prog.toTables Departure.mixedOrders)) (cells false 2 (nth [int i64 p.atoms,ae p.rules]))) (int u64 (↑(aB p A):Int))) (cells false (n*1) fun (a:Nat)=>int u64 (↑(hgP p a):Int))) (cells false 1 fun (x:Nat)=>fn 82 0 (nth []) 1 (nth [ref 1 0]))) (fz Fz.nil 0 0 fun _ _=>any)) (fz Fz.auto 1 ((ao (aB p A)).l.length) fun (i x:Nat)=>ab (ao (aB p A)).l i)) (int u64 (IntKind.wrap u64 (↑(BitVec.toNat (BitVec.ofInt 64 (left:Int) &&& ~~~BitVec.ofInt 64 (↑(aB p A):Int))):Int)))) ([cells false 2 (nth [int i64 p.atoms,ae p.rules]),cells false 1 fun (x:Nat)=>ow true 2 n 1,cells false (n*1) fun (a:Nat)=>int u64 (↑(hgP p a):Int),cells false 1 fun (x:Nat)=>fn 82 0 (nth []) 1 (nth [ref 1 0]),cells false 1 fun (x:Nat)=>fz Fz.nil 0 0 fun _ _=>any,cells false 1 fun (x:Nat)=>int u64 (left:Int),dead,cells false 1 fun (x:Nat)=>int u64 (↑(aB p A):Int)])) (IntKind.wrap u64 (↑(BitVec.toNat (BitVec.ofInt 64 (IntKind.wrap u64 (↑(BitVec.toNat (BitVec.ofInt 64 (↑(hgP p A):Int)&&&BitVec.ofInt 64 (left:Int))):Int)) &&& ~~~BitVec.ofInt 64 (↑(aB p A):Int))):Int)==0)) ([cells false 2 (nth [int i64 p.atoms,ae p.rules]),cells false 1 fun (x:Nat)=>ow true 2 n 1,cells false (n*1) fun (a:Nat)=>int u64 (↑(hgP p a):Int),cells false 1 fun (x:Nat)=>fn 82 0 (nth []) 1 (nth [ref 1 0]),cells false 1 fun (x:Nat)=>fz Fz.nil 0 0 fun _ _=>any,cells false 1 fun (x:Nat)=>int u64 (left:Int),dead])) (fun _=>by kernel_rfl) ⟨by omega,⟨rfl,(bp (T:=LT) inferInstance [1,2] 7 (fun R _ g=>hO R g) rfl rfl rfl (by exact⟨⟨rfl,Nat.le_refl _,fun j hj=>match j,hj with|0,_=>(Le.refl _) ⟩,⟨rfl,Nat.le_refl _,fun j hj=>(by first|exact au (by first|exact trivial|apply gj)|exact Le.of_eq (gk rfl).symm)⟩,trivial⟩) (by exact⟨by omega,by omega,trivial⟩) (by exact⟨au (by exact trivial),Le.refl _,trivial⟩) (by exact aw (by exact trivial)) (by exact⟨LeO.rflc,⟨rfl,Nat.le_refl _,fun j hj=>match j,hj with|0,_=>(Le.refl _) ⟩,⟨rfl,Nat.le_refl _,fun j hj=>(by first|exact aw (by first|exact trivial|apply gj)|exact Le.of_eq (gk rfl))⟩,LeO.rflc,LeO.rflc,LeO.rflc,trivial,trivial⟩))⟩,by kernel_rfl,by omega,by omega,by omega,by omega,fun c1=>have c1:IntKind.wrap u64 (↑(BitVec.toNat (BitVec.ofInt 64 (IntKind.wrap u64 (↑(BitVec.toNat (BitVec.ofInt 64 (↑(hgP p A):Int)&&&BitVec.ofInt 64 (left:Int))):Int)) &&& ~~~BitVec.ofInt 64 (↑(aB p A):Int))):Int)=0:=(beq_iff_eq.mp c1);⟨by kernel_rfl,by omega,⟨rfl,(dG _ _ _ _)⟩,⟨rfl,(bp (T:=LT) inferInstance [7] 8 (fun R _ g=>hC R (aB p A) (by omega) g) rfl rfl rfl (by exact⟨⟨rfl,Nat.le_refl _,fun j hj=>match j,hj with|0,_=>(Le.refl _) ⟩,trivial⟩) (by exact⟨by omega,trivial⟩) (by exact⟨(Le.fn (fun i hi=>absurd hi (by omega)) (fun i hi=>match i,hi with|0,_=>(Le.refl _) )),trivial⟩) (by exact aw (by exact trivial)) (by exact⟨LeO.rflc,LeO.rflc,LeO.rflc,LeO.rflc,LeO.rflc,LeO.rflc,trivial,LeO.rflc,trivial⟩))⟩,by omega,by omega,by omega,by omega,?_,by omega,(fun c hc=>match c,hc with|0,_=>(by kernel_rfl) ),by omega,by omega,(fun c hc=>match c,hc with|0,_=>(by kernel_rfl) ),?_⟩,fun c1=>have c1:¬IntKind.wrap u64 (↑(BitVec.toNat (BitVec.ofInt 64 (IntKind.wrap u64 (↑(BitVec.toNat (BitVec.ofInt 64 (↑(hgP p A):Int)&&&BitVec.ofInt 64 (left:Int))):Int)) &&& ~~~BitVec.ofInt 64 (↑(aB p A):Int))):Int)=0:=(beq_eq_false_iff_ne.mp c1);?_⟩
       ·exact fun c hc=>(lH (L:=[]) (m:=0) (z:=fun _=>.fz .nil 0 0 (fun _ _=>.any)) (old:=fun _ _=>.any) (by assumption) (fun i hi=>absurd hi (Nat.not_lt_zero i)) hc).trans (by kernel_rfl)
       ·show Cl R 0 (fU _ _) AEx.normal _
        refine(aL (0+1,[]++[aB p A],dI left (aB p A)) (a9 [0,1,2,3,4,5,9] 10 rfl rfl rfl rfl rfl ⟨Le.refl _,Le.refl _,Le.refl _,Le.refl _,trivial⟩ ⟨⟨rfl,Nat.le_refl _,fun j hj=>match j,hj with|0,_=>(Le.refl _)|1,_=>(Le.refl _) ⟩,⟨rfl,Nat.le_refl _,fun j hj=>match j,hj with|0,_=>(Le.refl _) ⟩,?_,⟨rfl,Nat.le_refl _,fun j hj=>match j,hj with|0,_=>(Le.fn (fun i hi=>absurd hi (by omega)) (fun i hi=>match i,hi with|0,_=>(Le.refl _) )) ⟩,⟨rfl,Nat.le_refl _,fun j hj=>match j,hj with|0,_=>(Le.refl _) ⟩,⟨rfl,Nat.le_refl _,fun j hj=>match j,hj with|0,_=>(Le.of_eq ?_) ⟩,⟨rfl,Nat.le_refl _,fun j hj=>match j,hj with|0,_=>(Le.refl _) ⟩,trivial⟩) ?_ ?_)
        ·exact⟨rfl,Nat.le_refl _,fun j _=>Le.of_eq rfl⟩
        ·show AV.int .u64 _=AV.int .u64 _
         rw[n9 o3]
        ·exact hnx.1
        ·exact hnx.2
       ·exfalso
        rename_i c0
        exact absurd (hcd.symm.trans c0) (by decide)
      ·exact absurd k1 (by omega)
     ·refine sL 33 [34] 7 (by kernel_rfl) rfl rfl left K o3 [.cells false 2 (nth [.int .i64 p.atoms,ae p.rules]),.cells false 1 (fun _=>.ow true 2 n 1),.cells false (n*1) (onC p),.cells false 1 (fun _=>.fn 82 0 (nth []) 1 (nth [.ref 1 0])),.cells false 1 (fun _=>.ow true 6 m 1),.cells false 1 (fun _=>.int .u64 left),.cells false (m*1) (aW L)] (ix rfl rfl) rfl (by exact⟨by omega,by omega,by omega,by omega,by omega,by omega,by omega,by omega,trivial⟩) (by exact⟨fun j hj=>(match j,hj with|0,_=>trivial|1,_=>trivial),fun _ _=>show 2<7 by omega,fun _ _=>trivial,fun _ _=>⟨trivial,trivial,show 1<7 by omega⟩,fun _ _=>show 6<7 by omega,fun _ _=>trivial,fun _ _=>trivial,trivial⟩) rfl (by kernel_rfl) [4,6,7,8] (by exact⟨show 1<7 by omega,show 3<7 by omega,show 4<7 by omega,show 5<7 by omega,trivial⟩) (fun k l' hk hkN=>?_) (fun hKN l'=>?_) (fun h=>?_)
      ·obtain⟨a,ha⟩:∃a,(aj left).getD k 0=a:=⟨_,rfl⟩
       have ham:a∈aj left:=by rw[<-ha];exact bN _ 0 hkN
       have han:a<n:=by rw[<-hn];exact o4 a ham
       have h3:=k3 k hk
       rw[ha] at h3 ⊢
       have hO:=fun (R:Res) [Tab LT R] (g:R.σ)=>ls R p n a hr (by omega) (by omega) (fun b hb=>by have:=lG hr hx (a:=a) (by omega) (by omega) hb;omega) g
       have hcd:=(lF (p:=p) (a:=a) (gT hr (by omega)) o3).trans h3
       refine vcQ [] (lkL [(14,[4,6,7,8,9])]) (fun _=>[]) (fun Q=>Q AEx.normal (St.mk [(4,ref 1 0),(6,ref 3 0),(7,ref 4 0),(8,ref 5 0),(9,int i64 (a:Int))] [cells false 2 (nth [int i64 p.atoms,ae p.rules]),cells false 1 fun (x:Nat)=>ow true 2 n 1,cells false (n*1) fun (a:Nat)=>int u64 (↑(hgP p a):Int),cells false 1 fun (x:Nat)=>fn 82 0 (nth []) 1 (nth [ref 1 0]),cells false 1 fun (x:Nat)=>ow true 6 m 1,cells false 1 fun (x:Nat)=>int u64 (left:Int),cells false (m*1) fun (a:Nat)=>fz Fz.auto 1 ((ao (L.getD a 0)).l.length) fun (i x:Nat)=>ab (ao (L.getD a 0)).l i] g)) (fun _=>by kernel_rfl) (?_)
       show Wp _ _ _ 7 _ _ _ _ _
       refine vcQ [] (lkL [(15,[4,6,7,8,9,10]),(16,[4,6,7,8,10,46]),(17,[4,6,7,8,10]),(18,[4,6,7,8])]) (lkL [(15,[(2,ROrc.kcall (int u64 (↑(aB p a):Int)))]),(17,[(2,ROrc.callN (fn 105 0 (nth []) 1 (nth [ref (List.length [cells false 2 (nth [int i64 p.atoms,ae p.rules]),cells false 1 fun (x:Nat)=>ow true 2 n 1,cells false (n*1) fun (a:Nat)=>int u64 (↑(hgP p a):Int),cells false 1 fun (x:Nat)=>fn 82 0 (nth []) 1 (nth [ref 1 0]),cells false 1 fun (x:Nat)=>ow true 6 m 1,cells false 1 fun (x:Nat)=>int u64 (left:Int),cells false (m*1) fun (a:Nat)=>fz Fz.auto 1 ((ao (L.getD a 0)).l.length) fun (i x:Nat)=>ab (ao (L.getD a 0)).l i]) 0])) [] [cells false 1 fun (x:Nat)=>int u64 (↑(aB p a):Int)] g),(3,ROrc.callN (ow true 8 ((aj (aB p a)).length) 1) [(7,cells false 1 fun (j:Nat)=>any)] [cells false ((aj (aB p a)).length*1) fun (j:Nat)=>int i64 (↑((aj (aB p a)).getD j 0):Int)] g),(6,ROrc.val (Orc.obj (nth [ow true 10 (m+1) 1])))]),(18,[(3,ROrc.val (Orc.obj (nth [int u64 (IntKind.wrap u64 (↑(BitVec.toNat (BitVec.ofInt 64 (left:Int) &&& ~~~BitVec.ofInt 64 (↑(aB p a):Int))):Int))])))])]) (fun Q=>(fun (u1:List AObj)=>(fun (u2:List AObj)=>(fun (u3:Bool)=>(fun (u4:AV)=>(fun (u5:AObj)=>(fun (u6:AV)=>(fun (u7:AObj)=>(fun (u8:AObj)=>(fun (u9:AV)=>(fun (u10:AObj)=>(fun (u11:Bool)=>1<=1/\(true=true/\Does Tryd.prog R 82 [int i64 (a:Int),ref 1 0] u1 g (ret u9) u1 g)/\u11=true/\1<=1/\(0<=(a:Int)/\(a:Int)<(n:Int))/\a+1<=n*1/\1<=1/\(u3=true->u11=true/\1<=1/\(true=true/\Does Tryd.prog R 77 [u9] u1 g (ret (fn 105 0 (nth []) 1 (nth [ref 7 0]))) u2 g)/\(true=true/\Does Tryd.prog R 75 [fn 105 0 (nth []) 1 (nth [ref 7 0])] u2 g (ret u6) [u10,cells false 1 fun (x:Nat)=>ow true 2 n 1,u8,u7,cells false 1 fun (x:Nat)=>ow true 6 m 1,cells false 1 fun (x:Nat)=>int u64 (left:Int),cells false (m*1) fun (a:Nat)=>fz Fz.auto 1 ((ao (L.getD a 0)).l.length) fun (i x:Nat)=>ab (ao (L.getD a 0)).l i,cells false 1 fun (j:Nat)=>any,u5] g)/\0<1/\(m+1)*24<=aG/\m+1<=aG/\1<=1/\m*1<=m*1/\1<=1/\(∀(c:Nat),c<1->nth [ow true 10 (m+1) 1] c=ah (fun (x:Nat)=>ow true 6 m 1) 0 1 (fun (x:Nat)=>ow true 10 (m+1) 1) c)/\1<=1/\1<=1/\(∀(c:Nat),c<1->nth [u4] c=ah (fun (x:Nat)=>int u64 (left:Int)) 0 1 (fun (x:Nat)=>u4) c)/\Q (AEx.exit 3) (St.mk [(4,ref 1 0),(6,ref 3 0),(7,ref 4 0),(8,ref 5 0)] [u10,cells false 1 fun (x:Nat)=>ow true 2 n 1,u8,u7,cells false 1 (nth [ow true 10 (m+1) 1]),cells false 1 (nth [u4]),dead,cells false 1 fun (j:Nat)=>any,u5,cells false 1 (ah (fun (j:Nat)=>fz Fz.nil 0 0 fun _ _=>any) 0 1 fun (x:Nat)=>u6),cells false ((m+1)*1) (bc 1 m (fun (i j:Nat)=>fz Fz.auto 1 ((ao (L.getD (i*1+j) 0)).l.length) fun (i_1 x:Nat)=>ab (ao (L.getD (i*1+j) 0)).l i_1) fun (i j:Nat)=>ah (fun (j:Nat)=>fz Fz.nil 0 0 fun _ _=>any) 0 1 (fun (x:Nat)=>u6) (0+i*1+j))] g))/\(u3=false->Q AEx.normal (St.mk [(4,ref 1 0),(6,ref 3 0),(7,ref 4 0),(8,ref 5 0),(10,u9),(46,AV.bool u3)] u1 g))) (Tables.follows Tryd.prog.toTables Departure.mixedOrders)) (cells false 2 (nth [int i64 p.atoms,ae p.rules]))) (int u64 (↑(aB p a):Int))) (cells false (n*1) fun (a:Nat)=>int u64 (↑(hgP p a):Int))) (cells false 1 fun (x:Nat)=>fn 82 0 (nth []) 1 (nth [ref 1 0]))) (ow true 8 ((aj (aB p a)).length) 1)) (cells false ((aj (aB p a)).length*1) fun (j:Nat)=>int i64 (↑((aj (aB p a)).getD j 0):Int))) (int u64 (IntKind.wrap u64 (↑(BitVec.toNat (BitVec.ofInt 64 (left:Int) &&& ~~~BitVec.ofInt 64 (↑(aB p a):Int))):Int)))) (IntKind.wrap u64 (↑(BitVec.toNat (BitVec.ofInt 64 (IntKind.wrap u64 (↑(BitVec.toNat (BitVec.ofInt 64 (↑(hgP p a):Int)&&&BitVec.ofInt 64 (left:Int))):Int)) &&& ~~~BitVec.ofInt 64 (↑(aB p a):Int))):Int)==0)) ([cells false 2 (nth [int i64 p.atoms,ae p.rules]),cells false 1 fun (x:Nat)=>ow true 2 n 1,cells false (n*1) fun (a:Nat)=>int u64 (↑(hgP p a):Int),cells false 1 fun (x:Nat)=>fn 82 0 (nth []) 1 (nth [ref 1 0]),cells false 1 fun (x:Nat)=>ow true 6 m 1,cells false 1 fun (x:Nat)=>int u64 (left:Int),cells false (m*1) fun (a:Nat)=>fz Fz.auto 1 ((ao (L.getD a 0)).l.length) fun (i x:Nat)=>ab (ao (L.getD a 0)).l i,cells false 1 fun (x:Nat)=>int u64 (↑(aB p a):Int)])) ([cells false 2 (nth [int i64 p.atoms,ae p.rules]),cells false 1 fun (x:Nat)=>ow true 2 n 1,cells false (n*1) fun (a:Nat)=>int u64 (↑(hgP p a):Int),cells false 1 fun (x:Nat)=>fn 82 0 (nth []) 1 (nth [ref 1 0]),cells false 1 fun (x:Nat)=>ow true 6 m 1,cells false 1 fun (x:Nat)=>int u64 (left:Int),cells false (m*1) fun (a:Nat)=>fz Fz.auto 1 ((ao (L.getD a 0)).l.length) fun (i x:Nat)=>ab (ao (L.getD a 0)).l i])) (fun _=>by kernel_rfl) ⟨by omega,⟨rfl,(bp (T:=LT) inferInstance [1,2] 7 (fun R _ g=>hO R g) rfl rfl rfl (by exact⟨⟨rfl,Nat.le_refl _,fun j hj=>match j,hj with|0,_=>(Le.refl _) ⟩,⟨rfl,Nat.le_refl _,fun j hj=>(by first|exact au (by first|exact trivial|apply gj)|exact Le.of_eq (gk rfl).symm)⟩,trivial⟩) (by exact⟨by omega,by omega,trivial⟩) (by exact⟨au (by exact trivial),Le.refl _,trivial⟩) (by exact aw (by exact trivial)) (by exact⟨LeO.rflc,⟨rfl,Nat.le_refl _,fun j hj=>match j,hj with|0,_=>(Le.refl _) ⟩,⟨rfl,Nat.le_refl _,fun j hj=>(by first|exact aw (by first|exact trivial|apply gj)|exact Le.of_eq (gk rfl))⟩,LeO.rflc,LeO.rflc,LeO.rflc,LeO.rflc,trivial⟩))⟩,by kernel_rfl,by omega,by omega,by omega,by omega,fun c1=>have c1:IntKind.wrap u64 (↑(BitVec.toNat (BitVec.ofInt 64 (IntKind.wrap u64 (↑(BitVec.toNat (BitVec.ofInt 64 (↑(hgP p a):Int)&&&BitVec.ofInt 64 (left:Int))):Int)) &&& ~~~BitVec.ofInt 64 (↑(aB p a):Int))):Int)=0:=(beq_iff_eq.mp c1);⟨by kernel_rfl,by omega,⟨rfl,(dG _ _ _ _)⟩,⟨rfl,(bp (T:=LT) inferInstance [7] 8 (fun R _ g=>ll R (aB p a) (by simp at * <;> omega) g) rfl rfl rfl (by exact⟨⟨rfl,Nat.le_refl _,fun j hj=>match j,hj with|0,_=>(Le.refl _) ⟩,trivial⟩) (by exact⟨by omega,trivial⟩) (by exact⟨(Le.fn (fun i hi=>absurd hi (by omega)) (fun i hi=>match i,hi with|0,_=>(Le.refl _) )),trivial⟩) (by exact(Le.refl _)) (by exact⟨LeO.rflc,LeO.rflc,LeO.rflc,LeO.rflc,LeO.rflc,LeO.rflc,LeO.rflc,LeO.rflc,LeO.rflc,trivial⟩))⟩,by omega,by omega,by omega,by omega,by omega,by omega,(fun c hc=>match c,hc with|0,_=>(by kernel_rfl) ),by omega,by omega,(fun c hc=>match c,hc with|0,_=>(by kernel_rfl) ),?_⟩,fun c1=>have c1:¬IntKind.wrap u64 (↑(BitVec.toNat (BitVec.ofInt 64 (IntKind.wrap u64 (↑(BitVec.toNat (BitVec.ofInt 64 (↑(hgP p a):Int)&&&BitVec.ofInt 64 (left:Int))):Int)) &&& ~~~BitVec.ofInt 64 (↑(aB p a):Int))):Int)=0:=(beq_eq_false_iff_ne.mp c1);?_⟩
       ·exfalso
        rename_i c0
        exact absurd (hcd.symm.trans c0) (by decide)
       ·refine(fZ rfl (bh trivial rfl rfl))
      ·rw[hAK]
       have han:A<n:=by rw[<-hn];exact o4 A k4
       have hO:=fun (R:Res) [Tab LT R] (g:R.σ)=>ls R p n A hr (by omega) (by omega) (fun b hb=>by have:=lG hr hx (a:=A) (by omega) (by omega) hb;omega) g
       have hcd:=(lF (p:=p) (a:=A) (gT hr (by omega)) o3).trans k2
       have hw24:=rl p A
       have hC:=fun (R:Res) [Tab LT R] (s:Nat) (hs:s<2^24) (g:R.σ)=>jJ R s hs g
       refine vcQ [] (lkL [(14,[4,6,7,8,9])]) (fun _=>[]) (fun Q=>Q AEx.normal (St.mk [(4,ref 1 0),(6,ref 3 0),(7,ref 4 0),(8,ref 5 0),(9,int i64 (A:Int))] [cells false 2 (nth [int i64 p.atoms,ae p.rules]),cells false 1 fun (x:Nat)=>ow true 2 n 1,cells false (n*1) fun (a:Nat)=>int u64 (↑(hgP p a):Int),cells false 1 fun (x:Nat)=>fn 82 0 (nth []) 1 (nth [ref 1 0]),cells false 1 fun (x:Nat)=>ow true 6 m 1,cells false 1 fun (x:Nat)=>int u64 (left:Int),cells false (m*1) fun (a:Nat)=>fz Fz.auto 1 ((ao (L.getD a 0)).l.length) fun (i x:Nat)=>ab (ao (L.getD a 0)).l i,dead] g)) (fun _=>by kernel_rfl) (?_)
       show Wp _ _ _ 8 _ _ _ _ _
       refine vcQ [] (lkL [(15,[4,6,7,8,9,10]),(16,[4,6,7,8,10,46]),(17,[4,6,7,8,10]),(18,[4,6,7,8])]) (lkL [(15,[(2,ROrc.kcall (int u64 (↑(aB p A):Int)))]),(17,[(2,ROrc.callN (fn 105 0 (nth []) 1 (nth [ref (List.length [cells false 2 (nth [int i64 p.atoms,ae p.rules]),cells false 1 fun (x:Nat)=>ow true 2 n 1,cells false (n*1) fun (a:Nat)=>int u64 (↑(hgP p a):Int),cells false 1 fun (x:Nat)=>fn 82 0 (nth []) 1 (nth [ref 1 0]),cells false 1 fun (x:Nat)=>ow true 6 m 1,cells false 1 fun (x:Nat)=>int u64 (left:Int),cells false (m*1) fun (a:Nat)=>fz Fz.auto 1 ((ao (L.getD a 0)).l.length) fun (i x:Nat)=>ab (ao (L.getD a 0)).l i,dead]) 0])) [] [cells false 1 fun (x:Nat)=>int u64 (↑(aB p A):Int)] g),(3,ROrc.callS (fz Fz.auto 1 ((ao (aB p A)).l.length) fun (i x:Nat)=>ab (ao (aB p A)).l i) [(8,cells false 1 fun (j:Nat)=>any)] g),(5,ROrc.val (Orc.obj (aW (L++[aB p A])))),(6,ROrc.val (Orc.obj (nth [ow true 10 (m+1) 1])))]),(18,[(3,ROrc.val (Orc.obj (nth [int u64 (IntKind.wrap u64 (↑(BitVec.toNat (BitVec.ofInt 64 (left:Int) &&& ~~~BitVec.ofInt 64 (↑(aB p A):Int))):Int))])))])]) (fun Q=>(fun (u1:List AObj)=>(fun (u2:List AObj)=>(fun (u3:Bool)=>(fun (u4:AV)=>(fun (u5:AV)=>(fun (u6:AObj)=>(fun (u7:AObj)=>(fun (u8:AV)=>(fun (u9:AObj)=>1<=1/\(true=true/\Does Tryd.prog R 82 [int i64 (A:Int),ref 1 0] u1 g (ret u8) u1 g)/\Tables.follows Tryd.prog.toTables Departure.mixedOrders=true/\1<=1/\(0<=(A:Int)/\(A:Int)<(n:Int))/\A+1<=n*1/\1<=1/\(u3=true->Tables.follows Tryd.prog.toTables Departure.mixedOrders=true/\1<=1/\(true=true/\Does Tryd.prog R 77 [u8] u1 g (ret (fn 105 0 (nth []) 1 (nth [ref 8 0]))) u2 g)/\(true=true/\Does Tryd.prog R 75 [fn 105 0 (nth []) 1 (nth [ref 8 0])] u2 g (ret u5) [u9,cells false 1 fun (x:Nat)=>ow true 2 n 1,u7,u6,cells false 1 fun (x:Nat)=>ow true 6 m 1,cells false 1 fun (x:Nat)=>int u64 (left:Int),cells false (m*1) fun (a:Nat)=>fz Fz.auto 1 ((ao (L.getD a 0)).l.length) fun (i x:Nat)=>ab (ao (L.getD a 0)).l i,dead,cells false 1 fun (j:Nat)=>any] g)/\0<1/\(m+1)*24<=aG/\m+1<=aG/\1<=1/\m*1<=m*1/\(∀(c:Nat),c<(m+1)*1->(fz Fz.auto 1 ((ao ((L++[aB p A]).getD c 0)).l.length) fun (i x:Nat)=>ab (ao ((L++[aB p A]).getD c 0)).l i)=bc 1 m (fun (i j:Nat)=>fz Fz.auto 1 ((ao (L.getD (i*1+j) 0)).l.length) fun (i_1 x:Nat)=>ab (ao (L.getD (i*1+j) 0)).l i_1) (fun (i j:Nat)=>ah (fun (j:Nat)=>fz Fz.nil 0 0 fun _ _=>any) 0 1 (fun (x:Nat)=>u5) (0+i*1+j)) c)/\1<=1/\(∀(c:Nat),c<1->nth [ow true 10 (m+1) 1] c=ah (fun (x:Nat)=>ow true 6 m 1) 0 1 (fun (x:Nat)=>ow true 10 (m+1) 1) c)/\1<=1/\1<=1/\(∀(c:Nat),c<1->nth [u4] c=ah (fun (x:Nat)=>int u64 (left:Int)) 0 1 (fun (x:Nat)=>u4) c)/\Q (AEx.exit 3) (St.mk [(4,ref 1 0),(6,ref 3 0),(7,ref 4 0),(8,ref 5 0)] [u9,cells false 1 fun (x:Nat)=>ow true 2 n 1,u7,u6,cells false 1 (nth [ow true 10 (m+1) 1]),cells false 1 (nth [u4]),dead,dead,cells false 1 fun (j:Nat)=>any,cells false 1 (ah (fun (j:Nat)=>fz Fz.nil 0 0 fun _ _=>any) 0 1 fun (x:Nat)=>u5),cells false ((m+1)*1) fun (a:Nat)=>fz Fz.auto 1 ((ao ((L++[aB p A]).getD a 0)).l.length) fun (i x:Nat)=>ab (ao ((L++[aB p A]).getD a 0)).l i] g))/\(u3=false->Q AEx.normal (St.mk [(4,ref 1 0),(6,ref 3 0),(7,ref 4 0),(8,ref 5 0),(10,u8),(46,AV.bool u3)] u1 g))) (cells false 2 (nth [int i64 p.atoms,ae p.rules]))) (int u64 (↑(aB p A):Int))) (cells false (n*1) fun (a:Nat)=>int u64 (↑(hgP p a):Int))) (cells false 1 fun (x:Nat)=>fn 82 0 (nth []) 1 (nth [ref 1 0]))) (fz Fz.auto 1 ((ao (aB p A)).l.length) fun (i x:Nat)=>ab (ao (aB p A)).l i)) (int u64 (IntKind.wrap u64 (↑(BitVec.toNat (BitVec.ofInt 64 (left:Int) &&& ~~~BitVec.ofInt 64 (↑(aB p A):Int))):Int)))) (IntKind.wrap u64 (↑(BitVec.toNat (BitVec.ofInt 64 (IntKind.wrap u64 (↑(BitVec.toNat (BitVec.ofInt 64 (↑(hgP p A):Int)&&&BitVec.ofInt 64 (left:Int))):Int)) &&& ~~~BitVec.ofInt 64 (↑(aB p A):Int))):Int)==0)) ([cells false 2 (nth [int i64 p.atoms,ae p.rules]),cells false 1 fun (x:Nat)=>ow true 2 n 1,cells false (n*1) fun (a:Nat)=>int u64 (↑(hgP p a):Int),cells false 1 fun (x:Nat)=>fn 82 0 (nth []) 1 (nth [ref 1 0]),cells false 1 fun (x:Nat)=>ow true 6 m 1,cells false 1 fun (x:Nat)=>int u64 (left:Int),cells false (m*1) fun (a:Nat)=>fz Fz.auto 1 ((ao (L.getD a 0)).l.length) fun (i x:Nat)=>ab (ao (L.getD a 0)).l i,dead,cells false 1 fun (x:Nat)=>int u64 (↑(aB p A):Int)])) ([cells false 2 (nth [int i64 p.atoms,ae p.rules]),cells false 1 fun (x:Nat)=>ow true 2 n 1,cells false (n*1) fun (a:Nat)=>int u64 (↑(hgP p a):Int),cells false 1 fun (x:Nat)=>fn 82 0 (nth []) 1 (nth [ref 1 0]),cells false 1 fun (x:Nat)=>ow true 6 m 1,cells false 1 fun (x:Nat)=>int u64 (left:Int),cells false (m*1) fun (a:Nat)=>fz Fz.auto 1 ((ao (L.getD a 0)).l.length) fun (i x:Nat)=>ab (ao (L.getD a 0)).l i,dead])) (fun _=>by kernel_rfl) ⟨by omega,⟨rfl,(bp (T:=LT) inferInstance [1,2] 8 (fun R _ g=>hO R g) rfl rfl rfl (by exact⟨⟨rfl,Nat.le_refl _,fun j hj=>match j,hj with|0,_=>(Le.refl _) ⟩,⟨rfl,Nat.le_refl _,fun j hj=>(by first|exact au (by first|exact trivial|apply gj)|exact Le.of_eq (gk rfl).symm)⟩,trivial⟩) (by exact⟨by omega,by omega,trivial⟩) (by exact⟨au (by exact trivial),Le.refl _,trivial⟩) (by exact aw (by exact trivial)) (by exact⟨LeO.rflc,⟨rfl,Nat.le_refl _,fun j hj=>match j,hj with|0,_=>(Le.refl _) ⟩,⟨rfl,Nat.le_refl _,fun j hj=>(by first|exact aw (by first|exact trivial|apply gj)|exact Le.of_eq (gk rfl))⟩,LeO.rflc,LeO.rflc,LeO.rflc,LeO.rflc,trivial,trivial⟩))⟩,by kernel_rfl,by omega,by omega,by omega,by omega,fun c1=>have c1:IntKind.wrap u64 (↑(BitVec.toNat (BitVec.ofInt 64 (IntKind.wrap u64 (↑(BitVec.toNat (BitVec.ofInt 64 (↑(hgP p A):Int)&&&BitVec.ofInt 64 (left:Int))):Int)) &&& ~~~BitVec.ofInt 64 (↑(aB p A):Int))):Int)=0:=(beq_iff_eq.mp c1);⟨by kernel_rfl,by omega,⟨rfl,(dG _ _ _ _)⟩,⟨rfl,(bp (T:=LT) inferInstance [8] 9 (fun R _ g=>hC R (aB p A) (by omega) g) rfl rfl rfl (by exact⟨⟨rfl,Nat.le_refl _,fun j hj=>match j,hj with|0,_=>(Le.refl _) ⟩,trivial⟩) (by exact⟨by omega,trivial⟩) (by exact⟨(Le.fn (fun i hi=>absurd hi (by omega)) (fun i hi=>match i,hi with|0,_=>(Le.refl _) )),trivial⟩) (by exact aw (by exact trivial)) (by exact⟨LeO.rflc,LeO.rflc,LeO.rflc,LeO.rflc,LeO.rflc,LeO.rflc,LeO.rflc,trivial,LeO.rflc,trivial⟩))⟩,by omega,by omega,by omega,by omega,by omega,?_,by omega,(fun c hc=>match c,hc with|0,_=>(by kernel_rfl) ),by omega,by omega,(fun c hc=>match c,hc with|0,_=>(by kernel_rfl) ),?_⟩,fun c1=>have c1:¬IntKind.wrap u64 (↑(BitVec.toNat (BitVec.ofInt 64 (IntKind.wrap u64 (↑(BitVec.toNat (BitVec.ofInt 64 (↑(hgP p A):Int)&&&BitVec.ofInt 64 (left:Int))):Int)) &&& ~~~BitVec.ofInt 64 (↑(aB p A):Int))):Int)=0:=(beq_eq_false_iff_ne.mp c1);?_⟩
       ·exact fun c hc=>(lH (L:=L) (m:=m) (z:=fun _=>.fz .nil 0 0 (fun _ _=>.any)) (old:=fun i j=>aW L (i*1+j)) (by assumption) (fun i hi=>by show aW L (i*1+0)=aW L i;rw[show i*1+0=i by omega]) hc).trans (by kernel_rfl)
       ·show Cl R 0 (fU _ _) AEx.normal _
        refine(aL (m+1,L++[aB p A],dI left (aB p A)) (a9 [0,1,2,3,4,5,10] 11 rfl rfl rfl rfl rfl ⟨Le.refl _,Le.refl _,Le.refl _,Le.refl _,trivial⟩ ⟨⟨rfl,Nat.le_refl _,fun j hj=>match j,hj with|0,_=>(Le.refl _)|1,_=>(Le.refl _) ⟩,⟨rfl,Nat.le_refl _,fun j hj=>match j,hj with|0,_=>(Le.refl _) ⟩,?_,⟨rfl,Nat.le_refl _,fun j hj=>match j,hj with|0,_=>(Le.fn (fun i hi=>absurd hi (by omega)) (fun i hi=>match i,hi with|0,_=>(Le.refl _) )) ⟩,⟨rfl,Nat.le_refl _,fun j hj=>match j,hj with|0,_=>(Le.refl _) ⟩,⟨rfl,Nat.le_refl _,fun j hj=>match j,hj with|0,_=>(Le.of_eq ?_) ⟩,?_,trivial⟩) ?_ ?_)
        ·exact⟨rfl,Nat.le_refl _,fun j _=>Le.of_eq rfl⟩
        ·show AV.int .u64 _=AV.int .u64 _
         rw[n9 o3]
        ·exact⟨rfl,Nat.le_refl _,fun j _=>Le.of_eq rfl⟩
        ·exact hnx.1
        ·exact hnx.2
       ·exfalso
        rename_i c0
        exact absurd (hcd.symm.trans c0) (by decide)
      ·exact absurd k1 (by omega)
    ·have hl0:left=0:=by omega
     subst hl0
     have hLo:L=cE p:=by
      obtain⟨f,f1,f2⟩:=o5
      obtain⟨f,rfl⟩:∃k,f=k+1:=⟨f-1,by omega⟩
      rw[<-f2]
      show L=L++(if (0:Nat)=0 then[] else _)
      rw[if_pos rfl,List.append_nil]
     subst hLo
     subst o1
     refine⟨_,To.refl _,vcQ [] (lkL [(19,[2,3])]) (fun _=>[]) (fun Q=>1<=1/\Q AEx.ret (St.mk [(2,ow true 6 ((cE p).length) 1),(3,int i64 0)] [cells false 2 (nth [int i64 p.atoms,ae p.rules]),cells false 1 fun (x:Nat)=>ow true 2 n 1,cells false (n*1) fun (a:Nat)=>int u64 (↑(hgP p a):Int),cells false 1 fun (x:Nat)=>fn 82 0 (nth []) 1 (nth [ref 1 0]),cells false 1 fun (x:Nat)=>ow true 6 ((cE p).length) 1,cells false 1 fun (x:Nat)=>int u64 (↑0:Int),cells false ((cE p).length*1) fun (a:Nat)=>fz Fz.auto 1 ((ao ((cE p).getD a 0)).l.length) fun (i x:Nat)=>ab (ao ((cE p).getD a 0)).l i] g)) (fun _=>by kernel_rfl) ⟨by omega,?_⟩⟩
     show bw Tryd.prog R 0 _ _ _ _ .ret _
     refine dh (.tup 2 (nth [.ow true 6 (cE p).length 1,.int .i64 0])) _ rfl trivial (fG 0 [(0,.tup 2 (nth [dv (cE p).length (fun i=>ao ((cE p).getD i 0)),.int .i64 0]))] (Nat.le_refl _) (Nat.zero_le _) (fun i hi=>absurd hi (Nat.not_lt_zero i)) ⟨av.tup (fun j hj=>?_),trivial⟩)
     match j,hj with
     |0,_=>exact av.le (av.ow (o:=6) (N:=(cE p).length*1) (c:=aW (cE p)) (get:=aW (cE p)) (fr:=false) rfl (Nat.zero_le _) (Nat.le_refl _) (by decide) (fun j _=>av.below (gZ _ _))) (Le.fz rfl (fun i j hi hj=>by
       show aW (cE p) (i*1+j)=_
       rw[show i*1+j=i by omega]
       rfl))
     |1,_=>exact av.below trivial
end Go.Avm.Pack
