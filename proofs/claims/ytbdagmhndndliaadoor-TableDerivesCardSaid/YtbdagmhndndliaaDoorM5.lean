/- Part 5 of the proof: lemmas. -/
import Derived.Test.YtbdagmhndndliaaDoorM4
namespace Go.Avm.Pack
open Go Go.Avm Go.Proofs
open Go.IntKind (i64 u64)
open Go.Avm.AV (int bool any fz fp sl ow ref fn ifc val agg tup)
open Go.Avm.AObj (cells dead)
open Go.Avm.Oc (ret)
set_option maxRecDepth 4000
def opC (n i:Nat):List Int:=List.replicate i 3++List.replicate (n-i) 0
theorem opC_get {n i j:Nat}:(opC n i).getD j 0=if j<i then 3 else 0:=by
 unfold opC
 rw[List.getD_eq_getElem?_getD,List.getElem?_append]
 simp only[List.length_replicate]
 split
 ·rw[List.getElem?_replicate_of_lt (by assumption)];rfl
 ·rw[List.getElem?_replicate]
  split <;> rfl
theorem opC_over {n i c:Nat}:over (intC (opC n i)) i 1 (fun _=>.int .i64 3) c=intC (opC n (i+1)) c:=by
 rw[over_eq]
 unfold intC
 rw[opC_get,opC_get]
 split
 ·rw[if_pos (by omega)]
 ·rename_i h
  congr 1
  by_cases hc:c<i
  ·rw[if_pos hc,if_pos (by omega)]
  ·rw[if_neg hc,if_neg (by omega)]
theorem c_openR (R:Res)(n:Nat)(hn:0<n∧n≤1000)(g:R.σ):Does Tryd.prog R 63 [.int .i64 n] [] g (.ret (.ow true 0 n 1)) [.cells false (n*1) (intC (List.replicate n 3))] g:=by
 have hroom:maxRoom=140737488355328:=rfl
 have hrep:List.replicate n (3:Int)=opC n n:=by unfold opC;rw[Nat.sub_self];exact(List.append_nil _).symm
 rw[hrep]
 refine spec_of_wp (nt:=16) (rs:=[.tmp 2]) (k0:=0) (by kernel_rfl) (by kernel_rfl) (by kernel_rfl) rfl ?_
 refine vcQ [] (lkL [(0,[0]),(1,[0,3]),(2,[0,3,4])]) (fun _=>[]) (fun Q=>0≤(n:Int)∧(n:Int)≤(n:Int)∧(n:Int)≤140737488355328∧n*8≤maxRoom∧Wp Tryd.prog R 16 0 Rd.top (bodyOf Tryd.prog 63) [1,1,0,1,0] (contQ Tryd.prog R 16 0 Rd.top (bodyOf Tryd.prog 63) Q [Kont.blk 0,Kont.seq [1,1,1]]) (St.mk [(0,int i64 (n:Int)),(3,sl 0 0 n n true 1),(4,int i64 0)] [cells false (n*1) fun (j:Nat)=>int i64 0] g)) (fun _=>by kernel_rfl) ⟨by omega,by omega,by omega,by omega,?_⟩
 refine(wp_loop (by kernel_rfl) (fun (i:Nat)=>⟨[(0,int i64 (n:Int)),(3,sl 0 0 n n true 1),(4,.int .i64 i)],[.cells false (n*1) (intC (opC n i))],g⟩) (fun (i:Nat)=>(i≤n)) (fun (i:Nat)=>(n-i)) 0 (to_le ⟨Le.refl _,Le.refl _,(Le.of_eq (by kernel_rfl)),trivial⟩ ⟨?_,trivial⟩ rfl) ?_ (fun i hi=>?_))
 ·exact⟨rfl,Nat.le_refl _,fun j _=>Le.of_eq (by show AV.int .i64 0=AV.int .i64 _;rw[opC_get,if_neg (by omega)])⟩
 ·omega
 ·rcases Nat.lt_or_ge i n with hlt|hge
  ·refine vcQ [] (lkL [(3,[0,3,4,9]),(5,[0,3,4]),(4,[0,3,4])]) (fun _=>[]) (fun Q=>(fun (u1:Int)=>(fun (u2:Int)=>(decide (u1<u2)=true→(0≤u1∧u1<u2)∧i+1≤n*1∧(-9223372036854775808≤u1+1∧u1+1≤9223372036854775807)∧Q AEx.normal (St.mk [(0,int i64 u2),(3,sl 0 0 n n true 1),(4,int i64 (u1+1))] [cells false (n*1) (over (intC (opC n i)) i 1 fun (x:Nat)=>int i64 3)] g))∧(decide (u1<u2)=false→Q (AEx.exit 0) (St.mk [(0,int i64 u2),(3,sl 0 0 n n true 1),(4,int i64 u1),(9,AV.bool (decide (u1<u2)))] [cells false (n*1) fun (a:Nat)=>intC (opC n i) a] g))) ((n:Int))) ((i:Int))) (fun _=>by kernel_rfl) ⟨fun c1=>have c1:(i:Int)<(n:Int):=(of_decide_eq_true c1);⟨by omega,by omega,by omega,?_⟩,fun c1=>have c1:¬(i:Int)<(n:Int):=(of_decide_eq_false c1);?_⟩
   ·refine(next_round (i+1) (to_le ⟨Le.refl _,Le.refl _,(Le.of_eq (by kernel_rfl)),trivial⟩ ⟨?_,trivial⟩ rfl) ?_ ?_)
    ·exact⟨rfl,Nat.le_refl _,fun j _=>Le.of_eq (opC_over.trans (by rfl))⟩
    ·omega
    ·omega
   ·exfalso;omega
  ·have hie:i=n:=by omega
   subst hie
   refine vcQ [] (lkL [(3,[0,3,4,9]),(5,[0,3,4]),(4,[0,3,4])]) (fun _=>[]) (fun Q=>(fun (u1:Int)=>(decide (u1<u1)=true→(0≤u1∧u1<u1)∧i+1≤i*1∧(-9223372036854775808≤u1+1∧u1+1≤9223372036854775807)∧Q AEx.normal (St.mk [(0,int i64 u1),(3,sl 0 0 i i true 1),(4,int i64 (u1+1))] [cells false (i*1) (over (intC (opC i i)) i 1 fun (x:Nat)=>int i64 3)] g))∧(decide (u1<u1)=false→Q (AEx.exit 0) (St.mk [(0,int i64 u1),(3,sl 0 0 i i true 1),(4,int i64 u1),(9,AV.bool (decide (u1<u1)))] [cells false (i*1) fun (a:Nat)=>intC (opC i i) a] g))) ((i:Int))) (fun _=>by kernel_rfl) ⟨fun c1=>have c1:(i:Int)<(i:Int):=(of_decide_eq_true c1);⟨by omega,by omega,by omega,?_⟩,fun c1=>have c1:¬(i:Int)<(i:Int):=(of_decide_eq_false c1);?_⟩
   all_goals first|(exfalso;omega)|skip
   refine⟨_,To.refl _,vcQ [] (lkL [(6,[2])]) (fun _=>[]) (fun Q=>Q AEx.ret (St.mk [(2,sl 0 0 i i true 1)] [cells false (i*1) fun (a:Nat)=>intC (opC i i) a] g)) (fun _=>by kernel_rfl) (?_)⟩
   show RetQ Tryd.prog R 0 _ _ _ _ .ret _
   refine retQ_via (.sl 0 0 i i true 1) _ rfl trivial (to_le ⟨Le.sl_ow (by omega),trivial⟩ (leH_refl _) rfl)
end Go.Avm.Pack
namespace Go.Avm.Pack
open Go Go.Avm Go.Proofs
open Go.IntKind (i64 u64)
open Go.Avm.AV (int bool any fz fp sl ow ref fn ifc val agg tup)
open Go.Avm.AObj (cells dead)
open Go.Avm.Oc (ret)
set_option maxRecDepth 4000
def sayR (s:Step):Int:=if s.rule = -1 then 1 else 2
def afterL (x:Int)(v:List Int)(l:List Int):List Int:=l.foldl (fun v a=>v.set a.toNat x) v
def afterR (v:List Int)(s:Step):List Int:=afterL (sayR s) v s.atoms.l
theorem afterL_len {x:Int}:∀{l v:List Int},(afterL x v l).length=v.length
 |[],_=>rfl
 |a::l,v=>by
  show(afterL x (v.set a.toNat x) l).length=_
  rw[afterL_len,List.length_set]
theorem afterL_succ {x:Int}{v l:List Int}{i:Nat}(h:i<l.length):afterL x v (l.take (i+1))=(afterL x v (l.take i)).set (l.getD i 0).toNat x:=by
 unfold afterL
 rw[List.take_add_one,List.foldl_append,List.getElem?_eq_getElem h,List.getD_eq_getElem?_getD,List.getElem?_eq_getElem h]
 rfl
theorem set_over {v:List Int}{a:Nat}{x:Int}(ha:a<v.length){c:Nat}:over (intC v) a 1 (fun _=>.int .i64 x) c=intC (v.set a x) c:=by
 rw[over_eq]
 unfold intC
 rw[List.getD_eq_getElem?_getD,List.getD_eq_getElem?_getD,List.getElem?_set]
 by_cases h:a=c
 ·subst h
  rw[if_pos (by omega),if_pos rfl,if_pos ha]
  rfl
 ·rw[if_neg (by omega),if_neg h]
theorem over_twice {v:List Int}{a:Nat}{x y:Int}(ha:a<v.length){c:Nat}:over (over (intC v) a 1 (fun _=>.int .i64 y)) a 1 (fun _=>.int .i64 x) c=intC (v.set a x) c:=by
 rw[←set_over ha,over_eq,over_eq,over_eq]
 split
 ·rfl
 ·rfl
theorem c_After (R:Res)(v:List Int)(s:Step)(hv:0<v.length∧v.length<1000000)(hl:s.atoms.l.length<1000000)(ha:∀i,i<s.atoms.l.length→0≤s.atoms.l.getD i 0∧s.atoms.l.getD i 0<v.length)(g:R.σ):Does Tryd.prog R 65 [.ow true 0 v.length 1,encStep s] [.cells false (v.length*1) (intC v)] g (.ret (.ow true 1 v.length 1)) [.cells false (v.length*1) (intC v),.cells false (v.length*1) (intC (afterR v s))] g:=by
 have hroom:maxRoom=140737488355328:=rfl
 refine spec_of_wp (nt:=33) (rs:=[.tmp 4]) (k0:=1) (by kernel_rfl) (by kernel_rfl) (by kernel_rfl) rfl ?_
 refine vcQ [] (lkL [(0,[0,3]),(1,[0,3]),(2,[0,3,5])]) (lkL [(1,[(1,ROrc.val (Orc.obj (intC v)))])]) (fun Q=>(fun (u1:Nat)=>0<1∧u1*8≤maxRoom∧u1≤maxRoom∧v.length*1≤v.length*1∧(∀(c:Nat),c<u1*1→intC v c=intC v ((c-0)/1*1+(c-0)%1))∧Wp Tryd.prog R 33 1 Rd.top (bodyOf Tryd.prog 65) [1,1,0,1,0] (contQ Tryd.prog R 33 1 Rd.top (bodyOf Tryd.prog 65) Q [Kont.blk 0,Kont.seq [1,1,1]]) (St.mk [(0,ow true 2 u1 1),(3,ref 1 0),(5,int i64 0)] [cells false (v.length*1) fun (a:Nat)=>intC v a,cells false 2 (nth [int i64 s.rule,fz s.atoms.2 1 (s.atoms.l.length) fun (i x:Nat)=>intC s.atoms.l i]),cells false (u1*1) fun (a:Nat)=>intC v a] g)) (0+v.length)) (fun _=>by kernel_rfl) ⟨by omega,by omega,by omega,by omega,?_,?_⟩
 ·intro c hc
  show _=intC v ((c-0)/1*1+(c-0)%1)
  rw[show(c-0)/1*1+(c-0)%1=c by omega]
 rw[Nat.zero_add]
 refine(wp_loop (by kernel_rfl) (fun (i:Nat)=>⟨[(0,ow true 2 (v.length) 1),(3,ref 1 0),(5,.int .i64 i)],[.cells false (v.length*1) (intC v),.cells false 2 (nth [.int .i64 s.rule,encI s.atoms]),.cells false (v.length*1) (intC (afterL (sayR s) v (s.atoms.l.take i)))],g⟩) (fun (i:Nat)=>(i≤s.atoms.l.length)) (fun (i:Nat)=>(s.atoms.l.length-i)) 0 (to_le ⟨Le.refl _,Le.refl _,(Le.of_eq (by kernel_rfl)),trivial⟩ ⟨LeO.rflc,LeO.rflc,LeO.rflc,trivial⟩ rfl) ?_ (fun i hi=>?_))
 ·exact Nat.zero_le _
 ·rcases Nat.lt_or_ge i s.atoms.l.length with hlt|hge
  ·have hm:=ha i hlt
   have hal:=afterL_len (x:=sayR s) (l:=s.atoms.l.take i) (v:=v)
   have hs:=afterL_succ (x:=sayR s) (v:=v) hlt
   refine vcQ [] (lkL [(3,[0,3,5,12]),(5,[0,3,5]),(6,[0,3,5,24]),(7,[0,3,5]),(4,[0,3,5])]) (fun _=>[]) (fun Q=>(fun (u1:Int)=>(fun (u2:AObj)=>(fun (u3:Int)=>(fun (u4:Int)=>(fun (u5:AObj)=>(fun (u6:List Int)=>(fun (u7:Nat)=>(fun (u8:List (Nat × AV))=>2≤2∧(decide (u4<u1)=true→2≤2∧(0≤u4∧u4<u1)∧1≤1∧(0≤u3∧u3<(v.length:Int))∧u3.toNat+1≤u7∧1≤2∧((s.rule == -1)=true→2≤2∧(0≤u4∧u4<u1)∧1≤1∧(0≤u3∧u3<(v.length:Int))∧u3.toNat+1≤u7∧(-9223372036854775808≤u4+1∧u4+1≤9223372036854775807)∧Q AEx.normal (St.mk u8 [u5,u2,cells false u7 (over (over (intC u6) (u3.toNat) 1 fun (x:Nat)=>int i64 2) (u3.toNat) 1 fun (x:Nat)=>int i64 1)] g))∧((s.rule == -1)=false→(-9223372036854775808≤u4+1∧u4+1≤9223372036854775807)∧Q AEx.normal (St.mk u8 [u5,u2,cells false u7 (over (intC u6) (u3.toNat) 1 fun (x:Nat)=>int i64 2)] g)))∧(decide (u4<u1)=false→Q (AEx.exit 0) (St.mk [(0,ow true 2 (v.length) 1),(3,ref 1 0),(5,int i64 u4),(12,AV.bool (decide (u4<u1)))] [u5,u2,cells false u7 fun (a:Nat)=>intC u6 a] g))) ([(0,ow true 2 (v.length) 1),(3,ref 1 0),(5,int i64 (u4+1))])) (v.length*1)) (afterL (sayR s) v (List.take i s.atoms.l))) (cells false (v.length*1) fun (a:Nat)=>intC v a)) ((i:Int))) (s.atoms.l.getD i 0)) (cells false 2 (nth [int i64 s.rule,fz s.atoms.2 1 (s.atoms.l.length) fun (i x:Nat)=>intC s.atoms.l i]))) ((s.atoms.l.length:Int))) (fun _=>by kernel_rfl) ⟨by omega,fun c1=>have c1:(i:Int)<(s.atoms.l.length:Int):=(of_decide_eq_true c1);⟨by omega,by omega,by omega,by omega,by omega,by omega,fun c2=>have c2:s.rule = -1:=(beq_iff_eq.mp c2);⟨by omega,by omega,by omega,by omega,by omega,by omega,?_⟩,fun c2=>have c2:¬s.rule = -1:=(beq_eq_false_iff_ne.mp c2);⟨by omega,?_⟩⟩,fun c1=>have c1:¬(i:Int)<(s.atoms.l.length:Int):=(of_decide_eq_false c1);?_⟩
   ·have hx:sayR s=1:=if_pos c2
    rw[hx] at hs hal ⊢
    refine(next_round (i+1) (to_le ⟨Le.refl _,Le.refl _,(Le.of_eq (by kernel_rfl)),trivial⟩ ⟨LeO.rflc,LeO.rflc,?_,trivial⟩ rfl) ?_ ?_)
    ·exact⟨rfl,Nat.le_refl _,fun j _=>by
      rw[hs]
      exact Le.of_eq (over_twice (by omega))⟩
    ·omega
    ·omega
   ·have hx:sayR s=2:=if_neg c2
    rw[hx] at hs hal ⊢
    refine(next_round (i+1) (to_le ⟨Le.refl _,Le.refl _,(Le.of_eq (by kernel_rfl)),trivial⟩ ⟨LeO.rflc,LeO.rflc,?_,trivial⟩ rfl) ?_ ?_)
    ·exact⟨rfl,Nat.le_refl _,fun j _=>by
      rw[hs]
      exact Le.of_eq (set_over (by omega))⟩
    ·omega
    ·omega
   ·exfalso;omega
  ·have hie:i=s.atoms.l.length:=by omega
   subst hie
   rw[List.take_length]
   refine vcQ [] (lkL [(3,[0,3,5,12]),(5,[0,3,5]),(6,[0,3,5,24]),(7,[0,3,5]),(4,[0,3,5])]) (fun _=>[]) (fun Q=>(fun (u1:Int)=>(fun (u2:Int)=>(fun (u3:AObj)=>(fun (u4:AObj)=>(fun (u5:Nat)=>(fun (u6:List (Nat × AV))=>2≤2∧(decide (u1<u1)=true→2≤2∧(0≤u1∧u1<u1)∧1≤1∧(0≤u2∧u2<(v.length:Int))∧u2.toNat+1≤u5∧1≤2∧((s.rule == -1)=true→2≤2∧(0≤u1∧u1<u1)∧1≤1∧(0≤u2∧u2<(v.length:Int))∧u2.toNat+1≤u5∧(-9223372036854775808≤u1+1∧u1+1≤9223372036854775807)∧Q AEx.normal (St.mk u6 [u4,u3,cells false u5 (over (over (intC (afterL (sayR s) v s.atoms.l)) (u2.toNat) 1 fun (x:Nat)=>int i64 2) (u2.toNat) 1 fun (x:Nat)=>int i64 1)] g))∧((s.rule == -1)=false→(-9223372036854775808≤u1+1∧u1+1≤9223372036854775807)∧Q AEx.normal (St.mk u6 [u4,u3,cells false u5 (over (intC (afterL (sayR s) v s.atoms.l)) (u2.toNat) 1 fun (x:Nat)=>int i64 2)] g)))∧(decide (u1<u1)=false→Q (AEx.exit 0) (St.mk [(0,ow true 2 (v.length) 1),(3,ref 1 0),(5,int i64 u1),(12,AV.bool (decide (u1<u1)))] [u4,u3,cells false u5 fun (a:Nat)=>intC (afterL (sayR s) v s.atoms.l) a] g))) ([(0,ow true 2 (v.length) 1),(3,ref 1 0),(5,int i64 (u1+1))])) (v.length*1)) (cells false (v.length*1) fun (a:Nat)=>intC v a)) (cells false 2 (nth [int i64 s.rule,fz s.atoms.2 1 (s.atoms.l.length) fun (i x:Nat)=>intC s.atoms.l i]))) (s.atoms.l.getD (s.atoms.l.length) 0)) ((s.atoms.l.length:Int))) (fun _=>by kernel_rfl) ⟨by omega,fun c1=>have c1:(s.atoms.l.length:Int)<(s.atoms.l.length:Int):=(of_decide_eq_true c1);⟨by omega,by omega,by omega,by omega,by omega,by omega,fun c2=>have c2:s.rule = -1:=(beq_iff_eq.mp c2);⟨by omega,by omega,by omega,by omega,by omega,by omega,?_⟩,fun c2=>have c2:¬s.rule = -1:=(beq_eq_false_iff_ne.mp c2);⟨by omega,?_⟩⟩,fun c1=>have c1:¬(s.atoms.l.length:Int)<(s.atoms.l.length:Int):=(of_decide_eq_false c1);?_⟩
   all_goals first|(exfalso;omega)|skip
   refine⟨_,To.refl _,vcQ [] (lkL [(8,[4])]) (fun _=>[]) (fun Q=>Q AEx.ret (St.mk [(4,ow true 2 (v.length) 1)] [cells false (v.length*1) fun (a:Nat)=>intC v a,cells false 2 (nth [int i64 s.rule,fz s.atoms.2 1 (s.atoms.l.length) fun (i x:Nat)=>intC s.atoms.l i]),cells false (v.length*1) fun (a:Nat)=>intC (afterL (sayR s) v s.atoms.l) a] g)) (fun _=>by kernel_rfl) (?_)⟩
   show RetQ Tryd.prog R 1 _ _ _ _ .ret _
   refine retQ_via (.ow true 2 v.length 1) _ rfl trivial (to_sel (s':=⟨[(0,.ow true 1 v.length 1)],[.cells false (v.length*1) (intC v),.cells false (v.length*1) (intC (afterR v s))],g⟩) [0,2] 3 rfl rfl rfl rfl rfl ⟨Le.refl _,trivial⟩ ⟨LeO.refl _,LeO.refl _,trivial⟩)
end Go.Avm.Pack
namespace Go.Avm.Pack
open Go Go.Avm Go.Proofs
open Go.IntKind (i64 u64)
open Go.Avm.AV (int bool any fz fp sl ow ref fn ifc val agg tup)
open Go.Avm.AObj (cells dead)
open Go.Avm.Oc (ret)
set_option maxRecDepth 4000
end Go.Avm.Pack
namespace Go.Avm.Pack
open Go Go.Avm Go.Proofs
open Go.IntKind (i64 u64)
open Go.Avm.AV (int bool any fz fp sl ow ref fn ifc val agg tup)
open Go.Avm.AObj (cells dead)
open Go.Avm.Oc (ret)
set_option maxRecDepth 4000
end Go.Avm.Pack
namespace Go.Avm.Pack
open Go Go.Avm Go.Proofs
open Go.IntKind (i64 u64)
open Go.Avm.AV (int bool any fz fp sl ow ref fn ifc val agg tup)
open Go.Avm.AObj (cells dead)
open Go.Avm.Oc (ret)
set_option maxRecDepth 4000
end Go.Avm.Pack
namespace Go.Avm.Pack
open Go Go.Avm Go.Proofs
open Go.IntKind (i64 u64)
open Go.Avm.AV (int bool any fz fp sl ow ref fn ifc val agg tup)
open Go.Avm.AObj (cells dead)
open Go.Avm.Oc (ret)
set_option maxRecDepth 4000
def grStep (v:List Int)(s:List Bool)(r:Rule):List Bool:=if upholdsR v s r then s.set r.head.toNat false else s
def grFold (v:List Int)(s:List Bool)(l:List Rule):List Bool:=l.foldl (grStep v) s
def grCh (v:List Int):List Rule→List Bool→Bool
 |[],_=>false
 |r::l,s=>upholdsR v s r||grCh v l (grStep v s r)
theorem grStep_len {v:List Int}{s:List Bool}{r:Rule}:(grStep v s r).length=s.length:=by
 unfold grStep
 split
 ·exact List.length_set
 ·rfl
theorem grFold_len {v:List Int}:∀{l:List Rule} {s:List Bool},(grFold v s l).length=s.length
 |[],_=>rfl
 |r::l,s=>by
  show(grFold v (grStep v s r) l).length=_
  rw[grFold_len,grStep_len]
theorem grCh_app {v:List Int}:∀{l m:List Rule} {s:List Bool},grCh v (l++m) s=(grCh v l s||grCh v m (grFold v s l))
 |[],_,_=>by simp[grCh,grFold]
 |r::l,m,s=>by
  show(upholdsR v s r||grCh v (l++m) (grStep v s r))=((upholdsR v s r||grCh v l (grStep v s r))||grCh v m (grFold v (grStep v s r) l))
  rw[grCh_app,Bool.or_assoc]
theorem grFold_take {v:List Int}{s:List Bool}{l:List Rule}{i:Nat}(h:i<l.length):grFold v s (l.take (i+1))=grStep v (grFold v s (l.take i)) (l.getD i default):=foldl_take (grStep v) s l default h
theorem grCh_take {v:List Int}{s:List Bool}{l:List Rule}{i:Nat}(h:i<l.length):grCh v (l.take (i+1)) s=(grCh v (l.take i) s||upholdsR v (grFold v s (l.take i)) (l.getD i default)):=by
 rw[List.take_add_one,grCh_app,List.getElem?_eq_getElem h,List.getD_eq_getElem?_getD,List.getElem?_eq_getElem h]
 show(_||(upholdsR v _ _||false))=_
 rw[Bool.or_false]
 rfl
def cntB (s:List Bool):Nat:=s.count true
theorem cntB_le (s:List Bool):cntB s≤s.length:=List.count_le_length
theorem cntB_clr:∀{s:List Bool} {i:Nat},s.getD i false=true→cntB (s.set i false)+1=cntB s
 |[],i,h=>by simp at h
 |b::s,0,h=>by
  have h:b=true:=by simpa using h
  subst h
  show(false::s).count true+1=(true::s).count true
  simp
 |b::s,i+1,h=>by
  have ih:=cntB_clr (s:=s) (i:=i) (by simpa using h)
  unfold cntB at ih ⊢
  rw[List.set_cons_succ,List.count_cons,List.count_cons]
  omega
theorem grStep_cnt {v:List Int}{s:List Bool}{r:Rule}:cntB (grStep v s r)≤cntB s∧(upholdsR v s r=true→cntB (grStep v s r)<cntB s):=by
 unfold grStep
 by_cases h:upholdsR v s r=true
 ·rw[if_pos h]
  have h2:s.getD r.head.toNat false=true:=by
   unfold upholdsR at h
   rw[Bool.and_eq_true] at h
   exact h.1
  have:=cntB_clr h2
  exact⟨by omega,fun _=>by omega⟩
 ·rw[if_neg h]
  exact⟨Nat.le_refl _,fun k=>absurd k h⟩
theorem grFold_cnt {v:List Int}:∀{l:List Rule} {s:List Bool},cntB (grFold v s l)≤cntB s∧(grCh v l s=true→cntB (grFold v s l)<cntB s)∧(grCh v l s=false→grFold v s l=s∧∀r,r∈l→upholdsR v s r=false)
 |[],_=>⟨Nat.le_refl _,fun h=>(by cases h),fun _=>⟨rfl,fun r h=>(by cases h)⟩⟩
 |r::l,s=>by
  obtain⟨a1,a2,a3⟩:=grFold_cnt (v:=v) (l:=l) (s:=grStep v s r)
  obtain⟨b1,b2⟩:=grStep_cnt (v:=v) (s:=s) (r:=r)
  refine⟨Nat.le_trans a1 b1,fun h=>?_,fun h=>?_⟩
  ·have h:(upholdsR v s r||grCh v l (grStep v s r))=true:=h
   rw[Bool.or_eq_true] at h
   rcases h with h|h
   ·exact Nat.lt_of_le_of_lt a1 (b2 h)
   ·exact Nat.lt_of_lt_of_le (a2 h) b1
  ·have h:(upholdsR v s r||grCh v l (grStep v s r))=false:=h
   rw[Bool.or_eq_false_iff] at h
   have e:grStep v s r=s:=if_neg (by rw[h.1];decide)
   obtain⟨c1,c2⟩:=a3 h.2
   rw[e] at c1 c2
   refine⟨?_,fun q hq=>?_⟩
   ·show grFold v (grStep v s r) l=s
    rw[e];exact c1
   ·rcases List.mem_cons.1 hq with rfl|hq
    ·exact h.1
    ·exact c2 q hq
def grIter (v:List Int)(p:Prg):Nat→List Bool→List Bool
 |0,s=>s
 |n+1,s=>if grCh v p.rules.l s then grIter v p n (grFold v s p.rules.l) else s
def grOpen (v:List Int):List Bool:=v.map (fun x=>x==3)
def grR (v:List Int)(p:Prg):List Bool:=grIter v p (v.length+1) (grOpen v)
theorem grOpen_len (v:List Int):(grOpen v).length=v.length:=List.length_map _
def grO (v:List Int)(i:Nat):List Bool:=(grOpen v).take i++List.replicate (v.length-i) false
theorem grO_get {v:List Int}{i j:Nat}(hi:i≤v.length):(grO v i).getD j false=(decide (j<i)&&(v.getD j 0==3)):=by
 unfold grO grOpen
 rw[List.getD_eq_getElem?_getD,List.getElem?_append,List.length_take,List.length_map]
 by_cases h:j<i
 ·rw[if_pos (by omega),List.getElem?_take,if_pos h,List.getElem?_map,decide_eq_true h,List.getD_eq_getElem?_getD,List.getElem?_eq_getElem (by omega)]
  rfl
 ·rw[if_neg (by omega),decide_eq_false h,List.getElem?_replicate]
  split <;> rfl
theorem grO_all {v:List Int}:grO v v.length=grOpen v:=by
 unfold grO
 rw[Nat.sub_self,List.replicate_zero,List.append_nil,List.take_of_length_le (by rw[grOpen_len];exact Nat.le_refl _)]
theorem grO_over {v:List Int}{i c:Nat}(hi:i<v.length):over (boolC (grO v i)) i 1 (fun _=>.bool (v.getD i 0==3)) c=boolC (grO v (i+1)) c:=by
 rw[over_eq]
 unfold boolC
 rw[grO_get (by omega),grO_get (by omega)]
 by_cases h:i≤c∧c<i+1
 ·have:c=i:=by omega
  subst this
  rw[if_pos h,decide_eq_true (by omega)]
  rfl
 ·rw[if_neg h]
  congr 2
  exact decide_eq_decide.2 (by omega)
theorem clrB_over {b:List Bool}{a:Nat}(ha:a<b.length){c:Nat}:over (boolC b) a 1 (fun _=>.bool false) c=boolC (b.set a false) c:=by
 rw[over_eq]
 unfold boolC
 rw[List.getD_eq_getElem?_getD,List.getD_eq_getElem?_getD,List.getElem?_set]
 by_cases h:a=c
 ·subst h
  rw[if_pos (by omega),if_pos rfl,if_pos ha]
  rfl
 ·rw[if_neg (by omega),if_neg h]
theorem grIter_len {v:List Int}{p:Prg}:∀{n:Nat} {s:List Bool},(grIter v p n s).length=s.length
 |0,_=>rfl
 |n+1,s=>by
  show(if grCh v p.rules.l s then grIter v p n (grFold v s p.rules.l) else s).length=_
  split
  ·rw[grIter_len,grFold_len]
  ·rfl
theorem grR_len {v:List Int}{p:Prg}:(grR v p).length=v.length:=by
 unfold grR
 rw[grIter_len,grOpen_len]
def grOk (v:List Int)(p:Prg)(x:List Bool × Bool):Prop:=x.1.length=v.length∧(x.2=true→∃f,cntB x.1<f∧grIter v p f x.1=grR v p)∧(x.2=false→x.1=grR v p)
theorem grOk_start (v:List Int)(p:Prg):grOk v p (grOpen v,true):=
 ⟨grOpen_len v,fun _=>⟨v.length+1,Nat.lt_succ_of_le (by rw[←grOpen_len v];exact cntB_le _),rfl⟩,fun h=>(by cases h)⟩
theorem grOk_next {v:List Int}{p:Prg}{s:List Bool}(h:grOk v p (s,true)):grOk v p (grFold v s p.rules.l,grCh v p.rules.l s)∧(if grCh v p.rules.l s then cntB (grFold v s p.rules.l)+1 else 0)<cntB s+1:=by
 obtain⟨h1,h2,_⟩:=h
 obtain⟨f,f1,f2⟩:=h2 rfl
 obtain⟨c1,c2,c3⟩:=grFold_cnt (v:=v) (l:=p.rules.l) (s:=s)
 obtain⟨f,rfl⟩:∃k,f=k+1:=⟨f-1,by omega⟩
 have f1:cntB s<f+1:=f1
 have f3:(if grCh v p.rules.l s then grIter v p f (grFold v s p.rules.l) else s)=grR v p:=f2
 refine⟨⟨by rw[grFold_len];exact h1,fun h=>⟨f,?_,?_⟩,fun h=>?_⟩,?_⟩
 ·have:=c2 h
  show cntB (grFold v s p.rules.l)<f
  omega
 ·have h:grCh v p.rules.l s=true:=h
  rw[if_pos h] at f3
  exact f3
 ·have h:grCh v p.rules.l s=false:=h
  rw[if_neg (by rw[h];decide)] at f3
  show grFold v s p.rules.l=_
  rw[(c3 h).1,f3]
 ·split
  ·rename_i h
   have:=c2 h
   omega
  ·omega
theorem c_greatest (R:Res)(v:List Int)(p:Prg)(hv:0<v.length∧v.length<1000000)(hpa:p.atoms=v.length)(hpl:p.rules.l.length<1000000)(hr:∀r,r∈p.rules.l→ruleN v.length r)(g:R.σ):Does Tryd.prog R 98 [.ow true 0 v.length 1,encPrg p] [.cells false (v.length*1) (intC v)] g (.ret (.ow true 1 (numF (grR v p) v.length).length 1)) [.cells false (v.length*1) (intC v),.cells false ((numF (grR v p) v.length).length*1) (intC (numF (grR v p) v.length))] g:=by
 have hroom:maxRoom=140737488355328:=rfl
 have hN:=fun (R:Res) (s:List Bool) (hs:s.length=v.length) (g:R.σ)=>hs▸c_Numbers R s (by omega) g
 have hgl:(grR v p).length=v.length:=grR_len
 refine spec_of_wp (nt:=60) (rs:=[.tmp 4]) (k0:=1) (by kernel_rfl) (by kernel_rfl) (by kernel_rfl) rfl ?_
 refine vcQ [] (lkL [(0,[0,3]),(1,[0,3,5]),(2,[0,3,5,6])]) (fun _=>[]) (fun Q=>1≤2∧0≤p.atoms∧p.atoms≤p.atoms∧p.atoms≤140737488355328∧p.atoms.toNat*1≤maxRoom∧Wp Tryd.prog R 60 1 Rd.top (bodyOf Tryd.prog 98) [1,1,0,1,0] (contQ Tryd.prog R 60 1 Rd.top (bodyOf Tryd.prog 98) Q [Kont.blk 0,Kont.seq [1,1,1]]) (St.mk [(0,ow true 0 (v.length) 1),(3,ref 1 0),(5,sl 2 0 (p.atoms.toNat) (p.atoms.toNat) true 1),(6,int i64 0)] [cells false (v.length*1) fun (a:Nat)=>intC v a,cells false 2 (nth [int i64 p.atoms,encRules p.rules]),cells false (p.atoms.toNat*1) fun (j:Nat)=>AV.bool false] g)) (fun _=>by kernel_rfl) ⟨by omega,by omega,by omega,by omega,by omega,?_⟩
 rw[show p.atoms.toNat=v.length by omega]
 refine wp_to (to_le (s':=⟨[(0,.ow true 0 v.length 1),(3,.ref 1 0),(5,.ow true 2 v.length 1),(6,.int .i64 0)],[.cells false (v.length*1) (intC v),.cells false 2 (nth [.int .i64 p.atoms,encRules p.rules]),.cells false (v.length*1) (fun _=>.bool false)],g⟩) ?_ ?_ rfl) ?_
 ·exact⟨Le.refl _,Le.refl _,Le.sl_ow (by omega),Le.refl _,trivial⟩
 ·exact⟨LeO.refl _,LeO.refl _,LeO.refl _,trivial⟩
 refine(wp_loop (by kernel_rfl) (fun (i:Nat)=>⟨[(0,ow true 0 (v.length) 1),(3,ref 1 0),(5,ow true 2 (v.length) 1),(6,.int .i64 i)],[.cells false (v.length*1) (intC v),.cells false 2 (nth [.int .i64 p.atoms,encRules p.rules]),.cells false (v.length*1) (boolC (grO v i))],g⟩) (fun (i:Nat)=>(i≤v.length)) (fun (i:Nat)=>(v.length-i)) 0 (to_le ⟨Le.refl _,Le.refl _,Le.refl _,(Le.of_eq (by kernel_rfl)),trivial⟩ ⟨LeO.rflc,LeO.rflc,?_,trivial⟩ rfl) ?_ (fun i hi=>?_))
 ·exact⟨rfl,Nat.le_refl _,fun j _=>Le.of_eq (by
   show AV.bool false=AV.bool _
   rw[grO_get (by omega)]
   rfl)⟩
 ·omega
 ·rcases Nat.lt_or_ge i v.length with hlt|hge
  ·refine vcQ [] (lkL [(3,[0,3,5,6,16]),(5,[0,3,5,6]),(4,[0,3,5,6])]) (fun _=>[]) (fun Q=>(fun (u1:Int)=>(fun (u2:Nat)=>(fun (u3:AObj)=>1≤2∧(decide (u1<p.atoms)=true→(0≤u1∧u1<(v.length:Int))∧i+1≤u2∧(0≤u1∧u1<(v.length:Int))∧i+1≤u2∧(-9223372036854775808≤u1+1∧u1+1≤9223372036854775807)∧Q AEx.normal (St.mk [(0,ow true 0 (v.length) 1),(3,ref 1 0),(5,ow true 2 (v.length) 1),(6,int i64 (u1+1))] [cells false u2 fun (a:Nat)=>intC v a,u3,cells false u2 (over (boolC (grO v i)) i 1 fun (x:Nat)=>AV.bool (v.getD i 0==3))] g))∧(decide (u1<p.atoms)=false→Q (AEx.exit 0) (St.mk [(0,ow true 0 (v.length) 1),(3,ref 1 0),(5,ow true 2 (v.length) 1),(6,int i64 u1),(16,AV.bool (decide (u1<p.atoms)))] [cells false u2 fun (a:Nat)=>intC v a,u3,cells false u2 fun (a:Nat)=>boolC (grO v i) a] g))) (cells false 2 (nth [int i64 p.atoms,encRules p.rules]))) (v.length*1)) ((i:Int))) (fun _=>by kernel_rfl) ⟨by omega,fun c1=>have c1:(i:Int)<p.atoms:=(of_decide_eq_true c1);⟨by omega,by omega,by omega,by omega,by omega,?_⟩,fun c1=>have c1:¬(i:Int)<p.atoms:=(of_decide_eq_false c1);?_⟩
   ·refine(next_round (i+1) (to_le ⟨Le.refl _,Le.refl _,Le.refl _,(Le.of_eq (by kernel_rfl)),trivial⟩ ⟨LeO.rflc,LeO.rflc,?_,trivial⟩ rfl) ?_ ?_)
    ·exact⟨rfl,Nat.le_refl _,fun j _=>Le.of_eq (grO_over (by omega))⟩
    ·omega
    ·omega
   ·exfalso;omega
  ·have hie:i=v.length:=by omega
   subst hie
   rw[grO_all]
   refine vcQ [] (lkL [(3,[0,3,5,6,16]),(5,[0,3,5,6]),(4,[0,3,5,6])]) (fun _=>[]) (fun Q=>(fun (u1:Int)=>(fun (u2:Nat)=>(fun (u3:AObj)=>1≤2∧(decide (u1<p.atoms)=true→(0≤u1∧u1<u1)∧v.length+1≤u2∧(0≤u1∧u1<u1)∧v.length+1≤u2∧(-9223372036854775808≤u1+1∧u1+1≤9223372036854775807)∧Q AEx.normal (St.mk [(0,ow true 0 (v.length) 1),(3,ref 1 0),(5,ow true 2 (v.length) 1),(6,int i64 (u1+1))] [cells false u2 fun (a:Nat)=>intC v a,u3,cells false u2 (over (boolC (grOpen v)) (v.length) 1 fun (x:Nat)=>AV.bool (v.getD (v.length) 0==3))] g))∧(decide (u1<p.atoms)=false→Q (AEx.exit 0) (St.mk [(0,ow true 0 (v.length) 1),(3,ref 1 0),(5,ow true 2 (v.length) 1),(6,int i64 u1),(16,AV.bool (decide (u1<p.atoms)))] [cells false u2 fun (a:Nat)=>intC v a,u3,cells false u2 fun (a:Nat)=>boolC (grOpen v) a] g))) (cells false 2 (nth [int i64 p.atoms,encRules p.rules]))) (v.length*1)) ((v.length:Int))) (fun _=>by kernel_rfl) ⟨by omega,fun c1=>have c1:(v.length:Int)<p.atoms:=(of_decide_eq_true c1);⟨by omega,by omega,by omega,by omega,by omega,?_⟩,fun c1=>have c1:¬(v.length:Int)<p.atoms:=(of_decide_eq_false c1);?_⟩
   all_goals first|(exfalso;omega)|skip
   refine⟨_,To.refl _,vcQ [] (lkL [(6,[0,3,5,7])]) (fun _=>[]) (fun Q=>Wp Tryd.prog R 60 1 Rd.top (bodyOf Tryd.prog 98) [1,1,1,0,1,0] (contQ Tryd.prog R 60 1 Rd.top (bodyOf Tryd.prog 98) Q [Kont.blk 2,Kont.seq [1,1,1,1]]) (St.mk [(0,ow true 0 (v.length) 1),(3,ref 1 0),(5,ow true 2 (v.length) 1),(7,AV.bool true)] [cells false (v.length*1) fun (a:Nat)=>intC v a,cells false 2 (nth [int i64 p.atoms,encRules p.rules]),cells false (v.length*1) fun (a:Nat)=>boolC (grOpen v) a] g)) (fun _=>by kernel_rfl) (?_)⟩
   refine(wp_loop (by kernel_rfl) (fun (x:List Bool × Bool)=>⟨[(0,ow true 0 (v.length) 1),(3,ref 1 0),(5,ow true 2 (v.length) 1),(7,.bool x.2)],[.cells false (v.length*1) (intC v),.cells false 2 (nth [.int .i64 p.atoms,encRules p.rules]),.cells false (v.length*1) (boolC x.1)],g⟩) (fun (x:List Bool × Bool)=>(grOk v p x)) (fun (x:List Bool × Bool)=>(if x.2 then cntB x.1+1 else 0)) (grOpen v,true) (to_fr ⟨Le.refl _,Le.refl _,Le.refl _,Le.refl _,trivial⟩ rfl rfl) ?_ (fun x hi=>?_))
   ·exact grOk_start v p
   ·obtain⟨s,ch⟩:=x
    have hok:=hi
    obtain⟨h1,h2,h3⟩:=hi
    simp only at h1 h2 h3
    cases ch with
    |false=>
     rw[h3 rfl]
     refine vcQ [[1,1,1,0,1,0,0,0,1,0]] (lkL [(7,[0,3,5,27])]) (fun _=>[]) (fun Q=>(fun (u1:St R.σ)=>(false=true→Wp Tryd.prog R 60 1 Rd.top (bodyOf Tryd.prog 98) [1,1,1,0,1,0,0,0,1,0] (contQ Tryd.prog R 60 1 Rd.top (bodyOf Tryd.prog 98) Q [Kont.seq [1,1,1,0,1,0,0,1]]) u1)∧(false=false→Q (AEx.exit 2) u1)) (St.mk [(0,ow true 0 (v.length) 1),(3,ref 1 0),(5,ow true 2 (v.length) 1),(27,AV.bool false)] [cells false (v.length*1) fun (a:Nat)=>intC v a,cells false 2 (nth [int i64 p.atoms,encRules p.rules]),cells false (v.length*1) fun (a:Nat)=>boolC (grR v p) a] g)) (fun _=>by kernel_rfl) ⟨fun h=>(nomatch h),fun _=>?_⟩
     refine⟨_,To.refl _,vcQ [] (lkL [(16,[4])]) (lkL [(16,[(1,ROrc.call (ow true 3 ((numF (grR v p) (v.length)).length) 1) [cells false (v.length*1) fun (a:Nat)=>intC v a,cells false 2 (nth [int i64 p.atoms,encRules p.rules]),cells false (v.length*1) fun (a:Nat)=>boolC (grR v p) a,cells false ((numF (grR v p) (v.length)).length*1) (intC (numF (grR v p) (v.length)))] g)])]) (fun Q=>(fun (u1:List AObj)=>(fun (u2:AV)=>(true=true∧Does Tryd.prog R 85 [ow true 2 (v.length) 1] [cells false (v.length*1) fun (a:Nat)=>intC v a,cells false 2 (nth [int i64 p.atoms,encRules p.rules]),cells false (v.length*1) fun (a:Nat)=>boolC (grR v p) a] g (ret u2) u1 g)∧Q AEx.ret (St.mk [(4,u2)] u1 g)) (ow true 3 ((numF (grR v p) (v.length)).length) 1)) ([cells false (v.length*1) fun (a:Nat)=>intC v a,cells false 2 (nth [int i64 p.atoms,encRules p.rules]),cells false (v.length*1) fun (a:Nat)=>boolC (grR v p) a,cells false ((numF (grR v p) (v.length)).length*1) fun (a:Nat)=>intC (numF (grR v p) (v.length)) a])) (fun _=>by kernel_rfl) ⟨⟨rfl,(does_sub' [2] 3 (fun R g=>hN R (grR v p) (by omega) g) rfl rfl rfl (by exact⟨⟨rfl,Nat.le_refl _,fun j hj=>(by first|exact le_ren (by first|exact trivial|apply below_boolC)|exact Le.of_eq (ren_boolC rfl).symm)⟩,trivial⟩) (by exact⟨by omega,trivial⟩) (by exact⟨Le.refl _,trivial⟩) (by exact(Le.refl _)) (by exact⟨LeO.rflc,LeO.rflc,⟨rfl,Nat.le_refl _,fun j hj=>(by first|exact le_unren (by first|exact trivial|apply below_boolC)|exact Le.of_eq (ren_boolC rfl))⟩,⟨rfl,Nat.le_refl _,fun j hj=>(by first|exact le_unren (by first|exact trivial|apply below_intC)|exact Le.of_eq (ren_intC rfl))⟩,trivial⟩))⟩,?_⟩⟩
     show RetQ Tryd.prog R 1 _ _ _ _ .ret _
     exact retQ_via (.ow true 3 (numF (grR v p) v.length).length 1) _ rfl trivial (to_sel (s':=⟨[(0,.ow true 1 (numF (grR v p) v.length).length 1)],[.cells false (v.length*1) (intC v),.cells false ((numF (grR v p) v.length).length*1) (intC (numF (grR v p) v.length))],g⟩) [0,3] 4 rfl rfl rfl rfl rfl ⟨Le.refl _,trivial⟩ ⟨LeO.refl _,LeO.refl _,trivial⟩)
    |true=>
     have hnx:=grOk_next hok
     refine vcQ [[1,1,1,0,1,0,0,0,1,1]] (lkL [(7,[0,3,5,27]),(8,[0,3,5,7]),(9,[0,3,5,7,8])]) (fun _=>[]) (fun Q=>(fun (u1:List AObj)=>(true=true→Wp Tryd.prog R 60 1 Rd.top (bodyOf Tryd.prog 98) [1,1,1,0,1,0,0,1,0,1,1,0] (contQ Tryd.prog R 60 1 Rd.top (bodyOf Tryd.prog 98) Q [Kont.blk 4,Kont.blk 3]) (St.mk [(0,ow true 0 (v.length) 1),(3,ref 1 0),(5,ow true 2 (v.length) 1),(7,AV.bool false),(8,int i64 0)] u1 g))∧(true=false→Wp Tryd.prog R 60 1 Rd.top (bodyOf Tryd.prog 98) [1,1,1,0,1,0,0,0,1,1] (contQ Tryd.prog R 60 1 Rd.top (bodyOf Tryd.prog 98) Q [Kont.seq [1,1,1,0,1,0,0,1]]) (St.mk [(0,ow true 0 (v.length) 1),(3,ref 1 0),(5,ow true 2 (v.length) 1),(27,AV.bool true)] u1 g))) ([cells false (v.length*1) fun (a:Nat)=>intC v a,cells false 2 (nth [int i64 p.atoms,encRules p.rules]),cells false (v.length*1) fun (a:Nat)=>boolC s a])) (fun _=>by kernel_rfl) ⟨fun _=>?_,fun h=>(nomatch h)⟩
     refine(wp_loop (by kernel_rfl) (fun (i:Nat)=>⟨[(0,ow true 0 (v.length) 1),(3,ref 1 0),(5,ow true 2 (v.length) 1),(7,.bool (grCh v (p.rules.l.take i) s)),(8,.int .i64 i)],[.cells false (v.length*1) (intC v),.cells false 2 (nth [.int .i64 p.atoms,encRules p.rules]),.cells false (v.length*1) (boolC (grFold v s (p.rules.l.take i)))],g⟩) (fun (i:Nat)=>(i≤p.rules.l.length)) (fun (i:Nat)=>(p.rules.l.length-i)) 0 (to_le ⟨Le.refl _,Le.refl _,Le.refl _,Le.refl _,(Le.of_eq (by kernel_rfl)),trivial⟩ ⟨LeO.rflc,LeO.rflc,LeO.rflc,trivial⟩ rfl) ?_ (fun i hi=>?_))
     ·exact Nat.zero_le _
     ·rcases Nat.lt_or_ge i p.rules.l.length with hlt|hge
      ·have hm:=hr _ (getD_mem' hlt)
       have hm1:=hm.1
       have hm2:=hm.2
       have hf:=grFold_take (v:=v) (s:=s) hlt
       have hc:=grCh_take (v:=v) (s:=s) hlt
       obtain⟨t,ht⟩:∃t,grFold v s (p.rules.l.take i)=t:=⟨_,rfl⟩
       have htl:t.length=v.length:=by rw[←ht,grFold_len];exact h1
       have hS:=fun (R:Res) (g:R.σ)=>c_supports R v t (p.rules.l.getD i default) htl hm1 g
       simp only[htl] at hS
       rw[ht] at hf hc ⊢
       unfold grStep upholdsR at hf
       unfold upholdsR at hc
       refine vcQ [] (lkL [(10,[0,3,5,7,8,32]),(12,[0,3,5,7,8,9]),(13,[0,3,5,7,8,9,54]),(14,[0,3,5,8]),(15,[0,3,5,7,8]),(11,[0,3,5,7,8])]) (lkL [(13,[(12,ROrc.kcall (AV.bool (supportsR v t (p.rules.l.getD i default))))])]) (fun Q=>(fun (u1:List AObj)=>(fun (u2:Rule)=>(fun (u3:Int)=>(fun (u4:Bool)=>(fun (u5:Int)=>(fun (u6:AV)=>(fun (u7:AV)=>2≤2∧(decide (u5<u3)=true→2≤2∧(0≤u5∧u5<u3)∧1≤2∧(0≤u2.head∧u2.head<(v.length:Int))∧u2.head.toNat+1≤v.length*1∧(u4=true→2≤2)∧(u4=true→0≤u5∧u5<u3)∧(u4=true→2≤2)∧(u4=true→true=true∧Does Tryd.prog R 117 [u6,encRule u2,u7] u1 g (ret (AV.bool (supportsR v t u2))) u1 g)∧((bif u4 then supportsR v t u2 else false)=true→(0≤u2.head∧u2.head<(v.length:Int))∧u2.head.toNat+1≤v.length*1∧(-9223372036854775808≤u5+1∧u5+1≤9223372036854775807)∧Q AEx.normal (St.mk [(0,u6),(3,ref 1 0),(5,u7),(7,AV.bool true),(8,int i64 (u5+1))] [cells false (v.length*1) fun (a:Nat)=>intC v a,cells false 2 (nth [int i64 p.atoms,encRules p.rules]),cells false (v.length*1) (over (boolC t) (u2.head.toNat) 1 fun (x:Nat)=>AV.bool false)] g))∧((bif u4 then supportsR v t u2 else false)=false→(-9223372036854775808≤u5+1∧u5+1≤9223372036854775807)∧Q AEx.normal (St.mk [(0,u6),(3,ref 1 0),(5,u7),(7,AV.bool (grCh v (List.take i p.rules.l) s)),(8,int i64 (u5+1))] u1 g)))∧(decide (u5<u3)=false→Q (AEx.exit 4) (St.mk [(0,u6),(3,ref 1 0),(5,u7),(7,AV.bool (grCh v (List.take i p.rules.l) s)),(8,int i64 u5),(32,AV.bool (decide (u5<u3)))] u1 g))) (ow true 2 (v.length) 1)) (ow true 0 (v.length) 1)) ((i:Int))) (t.getD (u2.head.toNat) false)) ((p.rules.l.length:Int))) (p.rules.l.getD i default)) ([cells false (v.length*1) fun (a:Nat)=>intC v a,cells false 2 (nth [int i64 p.atoms,encRules p.rules]),cells false (v.length*1) fun (a:Nat)=>boolC t a])) (fun _=>by kernel_rfl) ⟨by omega,fun c1=>have c1:(i:Int)<(p.rules.l.length:Int):=(of_decide_eq_true c1);⟨by omega,by omega,by omega,by omega,by omega,by omega,by omega,by omega,(fun hgd=>⟨rfl,(does_sub' [0,2] 3 (fun R g=>hS R g) rfl rfl rfl (by exact⟨⟨rfl,Nat.le_refl _,fun j hj=>(by first|exact le_ren (by first|exact trivial|apply below_intC)|exact Le.of_eq (ren_intC rfl).symm)⟩,⟨rfl,Nat.le_refl _,fun j hj=>(by first|exact le_ren (by first|exact trivial|apply below_boolC)|exact Le.of_eq (ren_boolC rfl).symm)⟩,trivial⟩) (by exact⟨by omega,by omega,trivial⟩) (by exact⟨Le.refl _,le_ren (by exact⟨⟨trivial,trivial⟩,trivial⟩),Le.refl _,trivial⟩) (by exact le_unren (by exact trivial)) (by exact⟨⟨rfl,Nat.le_refl _,fun j hj=>(by first|exact le_unren (by first|exact trivial|apply below_intC)|exact Le.of_eq (ren_intC rfl))⟩,LeO.rflc,⟨rfl,Nat.le_refl _,fun j hj=>(by first|exact le_unren (by first|exact trivial|apply below_boolC)|exact Le.of_eq (ren_boolC rfl))⟩,trivial⟩))⟩),fun c2=>have c2:t.getD ((p.rules.l.getD i default).head.toNat) false=true∧supportsR v t (p.rules.l.getD i default)=true:=⟨(cA_t c2).1,(cA_t c2).2⟩;⟨by omega,by omega,by omega,?_⟩,fun c2=>have c2:t.getD ((p.rules.l.getD i default).head.toNat) false=false∨supportsR v t (p.rules.l.getD i default)=false:=((cA_f c2).imp (fun h=>h) (fun h=>h));⟨by omega,?_⟩⟩,fun c1=>have c1:¬(i:Int)<(p.rules.l.length:Int):=(of_decide_eq_false c1);?_⟩
       ·rw[c2.1,c2.2,Bool.and_true,if_pos rfl] at hf
        rw[c2.1,c2.2,Bool.and_true,Bool.or_true] at hc
        refine(next_round (i+1) (to_le ⟨Le.refl _,Le.refl _,Le.refl _,(Le.of_eq ?_),(Le.of_eq (by kernel_rfl)),trivial⟩ ⟨LeO.rflc,LeO.rflc,?_,trivial⟩ rfl) ?_ ?_)
        ·show AV.bool _=AV.bool _
         rw[hc]
        ·exact⟨rfl,Nat.le_refl _,fun j _=>by
          rw[hf]
          exact Le.of_eq (clrB_over (by omega))⟩
        ·omega
        ·omega
       ·have hb:(t.getD (p.rules.l.getD i default).head.toNat false&&supportsR v t (p.rules.l.getD i default))=false:=by
         rcases c2 with b|b <;> rw[b] <;> simp
        rw[hb,if_neg (by decide)] at hf
        rw[hb,Bool.or_false] at hc
        refine(next_round (i+1) (to_le ⟨Le.refl _,Le.refl _,Le.refl _,(Le.of_eq ?_),(Le.of_eq (by kernel_rfl)),trivial⟩ ⟨LeO.rflc,LeO.rflc,?_,trivial⟩ rfl) ?_ ?_)
        ·show AV.bool _=AV.bool _
         rw[hc]
        ·exact⟨rfl,Nat.le_refl _,fun j _=>by
          rw[hf]
          exact Le.of_eq rfl⟩
        ·omega
        ·omega
       ·exfalso;omega
      ·have hie:i=p.rules.l.length:=by omega
       subst hie
       rw[List.take_length]
       have hbb:decide ((p.rules.l.length:Int)<(p.rules.l.length:Int))=false:=decide_eq_false (by omega)
       refine vcQ [[1,1,1,0,1,0,0,1,0,1,1,0,0,0,1,0]] (lkL [(10,[0,3,5,7,8,32])]) (fun _=>[]) (fun Q=>(fun (u1:Int)=>(fun (u2:St R.σ)=>2≤2∧(decide (u1<u1)=true→Wp Tryd.prog R 60 1 Rd.top (bodyOf Tryd.prog 98) [1,1,1,0,1,0,0,1,0,1,1,0,0,0,1,0] (contQ Tryd.prog R 60 1 Rd.top (bodyOf Tryd.prog 98) Q [Kont.seq [1,1,1,0,1,0,0,1,0,1,1,0,0,1]]) u2)∧(decide (u1<u1)=false→Q (AEx.exit 4) u2)) (St.mk [(0,ow true 0 (v.length) 1),(3,ref 1 0),(5,ow true 2 (v.length) 1),(7,AV.bool (grCh v p.rules.l s)),(8,int i64 u1),(32,AV.bool (decide (u1<u1)))] [cells false (v.length*1) fun (a:Nat)=>intC v a,cells false 2 (nth [int i64 p.atoms,encRules p.rules]),cells false (v.length*1) fun (a:Nat)=>boolC (grFold v s p.rules.l) a] g)) ((p.rules.l.length:Int))) (fun _=>by kernel_rfl) ⟨by omega,fun hcc=>(nomatch (hbb.symm.trans hcc)),fun _=>?_⟩
       refine⟨_,To.refl _,(next_round (grFold v s p.rules.l,grCh v p.rules.l s) (to_fr ⟨Le.refl _,Le.refl _,Le.refl _,Le.refl _,trivial⟩ rfl rfl) ?_ ?_)⟩
       ·exact hnx.1
       ·exact hnx.2
end Go.Avm.Pack
namespace Go.Avm.Pack
open Go Go.Avm Go.Proofs
open Go.IntKind (i64 u64)
open Go.Avm.AV (int bool any fz fp sl ow ref fn ifc val agg tup)
open Go.Avm.AObj (cells dead)
open Go.Avm.Oc (ret)
set_option maxRecDepth 4000
def firesR (v:List Int)(r:Rule):Bool:=v.getD r.head.toNat 0==3&&bodyR v r
def findQ (v:List Int)(p:Prg):Int:=idxFrom (firesR v) p.rules.l 0
def unfR (v:List Int)(p:Prg):List Int:=numF (grR v p) v.length
def nextR (v:List Int)(p:Prg):Stp:=if 0≤findQ v p then⟨findQ v p,[(p.rules.l.getD (findQ v p).toNat default).head]⟩ else⟨-1,unfR v p⟩
def nextRB (v:List Int)(p:Prg):Bool:=decide (0≤findQ v p)||decide (0<(unfR v p).length)
theorem c_nextRO (R:Res)(v:List Int)(p:Prg)(hv:0<v.length∧v.length<1000000)(hpa:p.atoms=v.length)(hpl:p.rules.l.length<1000000)(hr:∀r,r∈p.rules.l→ruleN v.length r)(g:R.σ):Does Tryd.prog R 64 [.ow true 0 v.length 1,encPrg p] [.cells false (v.length*1) (intC v)] g (.ret (.tup 2 (nth [.agg 2 (nth [.int .i64 (nextR v p).rule,.ow true 1 (nextR v p).atoms.length 1]),.bool (nextRB v p)]))) [.cells false (v.length*1) (intC v),.cells false ((nextR v p).atoms.length*1) (intC (nextR v p).atoms)] g:=by
 have hroom:maxRoom=140737488355328:=rfl
 refine spec_of_wp (nt:=46) (rs:=[.cell 4 71,.tmp 5]) (k0:=1) (by kernel_rfl) (by kernel_rfl) (by kernel_rfl) rfl ?_
 refine vcQ [] (lkL [(0,[0,3,4]),(1,[0,3,4,6])]) (fun _=>[]) (fun Q=>Wp Tryd.prog R 46 1 Rd.top (bodyOf Tryd.prog 64) [1,0,1,0] (contQ Tryd.prog R 46 1 Rd.top (bodyOf Tryd.prog 64) Q [Kont.blk 0,Kont.seq [1,1]]) (St.mk [(0,ow true 0 (v.length) 1),(3,ref 1 0),(4,ref 2 0),(6,int i64 0)] [cells false (v.length*1) fun (a:Nat)=>intC v a,cells false 2 (nth [int i64 p.atoms,encRules p.rules]),cells false 2 (nth [int i64 0,fz Fz.nil 0 0 fun _ _=>any])] g)) (fun _=>by kernel_rfl) (?_)
 refine(wp_loop (by kernel_rfl) (fun (i:Nat)=>⟨[(0,ow true 0 (v.length) 1),(3,ref 1 0),(4,ref 2 0),(6,.int .i64 i)],[cells false (v.length*1) fun (a:Nat)=>intC v a,cells false 2 (nth [int i64 p.atoms,encRules p.rules]),cells false 2 (nth [int i64 0,fz Fz.nil 0 0 fun _ _=>any])],g⟩) (fun (i:Nat)=>(i≤p.rules.l.length∧findQ v p=idxFrom (firesR v) (p.rules.l.drop i) i)) (fun (i:Nat)=>(p.rules.l.length-i)) 0 (to_fr ⟨Le.refl _,Le.refl _,Le.refl _,(Le.of_eq (by kernel_rfl)),trivial⟩ rfl rfl) ?_ (fun i hi=>?_))
 ·exact⟨Nat.zero_le _,rfl⟩
 ·obtain⟨h1,h2⟩:=hi
  rcases Nat.lt_or_ge i p.rules.l.length with hlt|hge
  ·have hm:=hr _ (getD_mem' hlt)
   have hm1:=hm.1
   have hm2:=hm.2
   rw[getD_drop p.rules.l default hlt] at h2
   refine vcQ [] (lkL [(2,[0,3,4,6,13]),(4,[0,3,4,6,7]),(5,[0,3,4,6,7,31]),(6,[4,5]),(3,[0,3,4,6])]) (lkL [(4,[(6,ROrc.val (Orc.obj (nth [int i64 (p.rules.l.getD i default).head,encLits (p.rules.l.getD i default).body])))]),(5,[(9,ROrc.kcall (AV.bool (bodyR v (p.rules.l.getD i default))))]),(6,[(5,ROrc.val (Orc.obj (nth [int i64 (i:Int),sl 4 0 1 1 true 1])))])]) (fun Q=>(fun (u1:Rule)=>(fun (u2:List AObj)=>(fun (u3:Int)=>(fun (u4:Int)=>(fun (u5:Bool)=>(fun (u6:List AV)=>(fun (u7:List AV)=>(fun (u8:List AV)=>(fun (u9:AObj)=>(fun (u10:AObj)=>(fun (u11:AV)=>2≤2∧(decide (u4<u3)=true→2≤2∧(0≤u4∧u4<u3)∧2≤2∧2≤2∧(∀(c:Nat),c<2→nth u7 c=over (nth u6) 0 2 (List.brecOn (motive:=fun (x:List AV)=>Nat→AV) u7 nth._f) c)∧1≤2∧(0≤u1.head∧u1.head<(v.length:Int))∧u1.head.toNat+1≤v.length*1∧(u5=true→2≤2)∧(u5=true→true=true∧Does Tryd.prog R 97 [u11,encRule u1] u2 g (ret (AV.bool (bodyR v u1))) u2 g)∧((bif u5 then bodyR v u1 else false)=true→1≤2∧2≤2∧(∀(c:Nat),c<2→nth u8 c=over (nth u6) 0 2 (List.brecOn (motive:=fun (x:List AV)=>Nat→AV) u8 nth._f) c)∧Q AEx.ret (St.mk [(4,ref 2 0),(5,AV.bool true)] [u9,u10,cells false 2 (nth u8),cells false 2 (nth u7),cells false 1 (over (fun (j:Nat)=>int i64 0) 0 1 fun (x:Nat)=>int i64 u1.head)] g))∧((bif u5 then bodyR v u1 else false)=false→(-9223372036854775808≤u4+1∧u4+1≤9223372036854775807)∧Q AEx.normal (St.mk [(0,u11),(3,ref 1 0),(4,ref 2 0),(6,int i64 (u4+1))] u2 g)))∧(decide (u4<u3)=false→Q (AEx.exit 0) (St.mk [(0,u11),(3,ref 1 0),(4,ref 2 0),(6,int i64 u4),(13,AV.bool (decide (u4<u3)))] [u9,u10,cells false 2 (nth u6)] g))) (ow true 0 (v.length) 1)) (cells false 2 (nth [int i64 p.atoms,encRules p.rules]))) (cells false (v.length*1) fun (a:Nat)=>intC v a)) ([int i64 u4,sl 4 0 1 1 true 1])) ([int i64 u1.head,encLits u1.body])) ([int i64 0,fz Fz.nil 0 0 fun _ _=>any])) (v.getD (u1.head.toNat) 0==3)) ((i:Int))) ((p.rules.l.length:Int))) ([cells false (v.length*1) fun (a:Nat)=>intC v a,cells false 2 (nth [int i64 p.atoms,encRules p.rules]),cells false 2 (nth [int i64 0,fz Fz.nil 0 0 fun _ _=>any]),cells false 2 (nth [int i64 u1.head,encLits u1.body])])) (p.rules.l.getD i default)) (fun _=>by kernel_rfl) ⟨by omega,fun c1=>have c1:(i:Int)<(p.rules.l.length:Int):=(of_decide_eq_true c1);⟨by omega,by omega,by omega,by omega,(fun c hc=>match c,hc with|0,_=>(by kernel_rfl)|1,_=>(by kernel_rfl) ),by omega,by omega,by omega,by omega,(fun hgd=>⟨rfl,(does_sub' [0] 4 (fun R g=>c_BodyR R (v) (p.rules.l.getD i default) (by omega) g) rfl rfl rfl (by exact⟨⟨rfl,Nat.le_refl _,fun j hj=>(by first|exact le_ren (by first|exact trivial|apply below_intC)|exact Le.of_eq (ren_intC rfl).symm)⟩,trivial⟩) (by exact⟨by omega,trivial⟩) (by exact⟨Le.refl _,le_ren (by exact⟨⟨trivial,trivial⟩,trivial⟩),trivial⟩) (by exact le_unren (by exact trivial)) (by exact⟨⟨rfl,Nat.le_refl _,fun j hj=>(by first|exact le_unren (by first|exact trivial|apply below_intC)|exact Le.of_eq (ren_intC rfl))⟩,LeO.rflc,LeO.rflc,LeO.rflc,trivial⟩))⟩),fun c2=>have c2:v.getD ((p.rules.l.getD i default).head.toNat) 0=3∧bodyR v (p.rules.l.getD i default)=true:=⟨(beq_iff_eq.mp (cA_t c2).1),(cA_t c2).2⟩;⟨by omega,by omega,(fun c hc=>match c,hc with|0,_=>(by kernel_rfl)|1,_=>(by kernel_rfl) ),?_⟩,fun c2=>have c2:¬v.getD ((p.rules.l.getD i default).head.toNat) 0=3∨bodyR v (p.rules.l.getD i default)=false:=((cA_f c2).imp (fun h=>(beq_eq_false_iff_ne.mp h)) (fun h=>h));⟨by omega,?_⟩⟩,fun c1=>have c1:¬(i:Int)<(p.rules.l.length:Int):=(of_decide_eq_false c1);?_⟩
   ·have hf:findQ v p=i:=by
     rw[h2]
     exact if_pos (by unfold firesR;rw[Bool.and_eq_true,beq_iff_eq];exact c2)
    have hn:nextR v p=⟨i,[(p.rules.l.getD i default).head]⟩:=by
     unfold nextR
     rw[hf,if_pos (by omega)]
     rfl
    have hb:nextRB v p=true:=by
     unfold nextRB
     rw[hf,decide_eq_true (by omega)]
     rfl
    rw[hn,hb]
    refine⟨_,To.refl _,?_⟩
    show RetQ Tryd.prog R 1 _ _ _ _ .ret _
    refine retQ_via (.tup 2 (nth [.agg 2 (nth [.int .i64 i,.sl 4 0 1 1 true 1]),.bool true])) _ rfl (by exact⟨by decide,trivial⟩) (to_sel [0,4] 5 rfl rfl rfl rfl rfl ⟨Le.tup (fun j hj=>match j,hj with|0,_=>Le.agg (fun j hj=>match j,hj with|0,_=>Le.refl _|1,_=>Le.sl_ow (by decide))|1,_=>Le.refl _),trivial⟩ ⟨LeO.refl _,LeO.cells (fun j hj=>match j,hj with|0,_=>rfl),trivial⟩)
   ·have hnf:firesR v (p.rules.l.getD i default)=false:=by
     unfold firesR
     rw[Bool.and_eq_false_iff,beq_eq_false_iff_ne]
     exact c2
    have h3:findQ v p=idxFrom (firesR v) (p.rules.l.drop (i+1)) (i+1):=by
     rw[h2]
     exact if_neg (by rw[hnf];decide)
    refine(next_round (i+1) (to_sel [0,1,2] 4 rfl rfl rfl rfl rfl ⟨Le.refl _,Le.refl _,Le.refl _,Le.refl _,trivial⟩ ⟨?_,⟨rfl,Nat.le_refl _,fun j hj=>match j,hj with|0,_=>(Le.refl _)|1,_=>(Le.refl _) ⟩,⟨rfl,Nat.le_refl _,fun j hj=>match j,hj with|0,_=>(Le.refl _)|1,_=>(Le.refl _) ⟩,trivial⟩) ?_ ?_)
    ·exact⟨rfl,Nat.le_refl _,fun j _=>Le.of_eq rfl⟩
    ·exact⟨by omega,h3⟩
    ·omega
   ·exfalso;omega
  ·have hie:i=p.rules.l.length:=by omega
   subst hie
   rw[List.drop_length] at h2
   have hf:findQ v p = -1:=h2
   have hn:nextR v p=⟨-1,unfR v p⟩:=by
    unfold nextR
    rw[hf,if_neg (by omega)]
   have hb:nextRB v p=decide (0<(unfR v p).length):=by
    unfold nextRB
    rw[hf,decide_eq_false (by omega)]
    rfl
   rw[hn,hb]
   have hbb:decide ((p.rules.l.length:Int)<(p.rules.l.length:Int))=false:=decide_eq_false (by omega)
   have hul:unfR v p=numF (grR v p) v.length:=rfl
   have hln:=numF_len (s:=grR v p) (n:=v.length)
   refine vcQ [[1,0,1,0,0,0,1,0]] (lkL [(2,[0,3,4,6,13])]) (fun _=>[]) (fun Q=>(fun (u1:Int)=>(fun (u2:St R.σ)=>2≤2∧(decide (u1<u1)=true→Wp Tryd.prog R 46 1 Rd.top (bodyOf Tryd.prog 64) [1,0,1,0,0,0,1,0] (contQ Tryd.prog R 46 1 Rd.top (bodyOf Tryd.prog 64) Q [Kont.seq [1,0,1,0,0,1]]) u2)∧(decide (u1<u1)=false→Q (AEx.exit 0) u2)) (St.mk [(0,ow true 0 (v.length) 1),(3,ref 1 0),(4,ref 2 0),(6,int i64 u1),(13,AV.bool (decide (u1<u1)))] [cells false (v.length*1) fun (a:Nat)=>intC v a,cells false 2 (nth [int i64 p.atoms,encRules p.rules]),cells false 2 (nth [int i64 0,fz Fz.nil 0 0 fun _ _=>any])] g)) ((p.rules.l.length:Int))) (fun _=>by kernel_rfl) ⟨by omega,fun hcc=>(nomatch (hbb.symm.trans hcc)),fun _=>?_⟩
   refine⟨_,To.refl _,vcQ [] (lkL [(7,[4,8]),(8,[4,5])]) (lkL [(7,[(2,ROrc.call (ow true 3 ((numF (grR v p) (v.length)).length) 1) [cells false (v.length*1) fun (a:Nat)=>intC v a,cells false 2 (nth [int i64 p.atoms,encRules p.rules]),cells false 2 (nth [int i64 0,fz Fz.nil 0 0 fun _ _=>any]),cells false ((numF (grR v p) (v.length)).length*1) (intC (numF (grR v p) (v.length)))] g),(5,ROrc.val (Orc.obj (nth [int i64 (-1),ow true 3 ((numF (grR v p) (v.length)).length) 1])))]),(8,[(5,ROrc.val (Orc.obj (nth [int i64 (-1),ow true 3 ((numF (grR v p) (v.length)).length) 1])))])]) (fun Q=>(fun (u1:Nat)=>(fun (u2:List AV)=>(fun (u3:List AV)=>(fun (u4:AObj)=>(fun (u5:AObj)=>(fun (u6:AObj)=>2≤2∧(true=true∧Does Tryd.prog R 98 [ow true 0 (v.length) 1,encPrg p] [u4,u5,cells false 2 (nth u2)] g (ret (ow true 3 u1 1)) [u4,u5,cells false 2 (nth u2),u6] g)∧2≤2∧(∀(c:Nat),c<2→nth u3 c=over (nth u2) 0 2 (List.brecOn (motive:=fun (x:List AV)=>Nat→AV) u3 nth._f) c)∧Tables.follows Tryd.prog.toTables Departure.mixedOrders=true∧2≤2∧2≤2∧2≤2∧(∀(c:Nat),c<2→nth u3 c=over (nth u2) 0 2 (List.brecOn (motive:=fun (x:List AV)=>Nat→AV) u3 nth._f) c)∧Q AEx.ret (St.mk [(4,ref 2 0),(5,AV.bool (decide ((u1:Int) > 0)))] [u4,u5,cells false 2 (nth u3),u6,cells false 2 (nth u3)] g)) (cells false (u1*1) fun (a:Nat)=>intC (numF (grR v p) (v.length)) a)) (cells false 2 (nth [int i64 p.atoms,encRules p.rules]))) (cells false (v.length*1) fun (a:Nat)=>intC v a)) ([int i64 (-1),ow true 3 u1 1])) ([int i64 0,fz Fz.nil 0 0 fun _ _=>any])) ((numF (grR v p) (v.length)).length)) (fun _=>by kernel_rfl) ⟨by omega,⟨rfl,(does_sub' [0] 3 (fun R g=>c_greatest R (v) (p) (by omega) (by omega) (by omega) (by omega) g) rfl rfl rfl (by exact⟨⟨rfl,Nat.le_refl _,fun j hj=>(by first|exact le_ren (by first|exact trivial|apply below_intC)|exact Le.of_eq (ren_intC rfl).symm)⟩,trivial⟩) (by exact⟨by omega,trivial⟩) (by exact⟨Le.refl _,le_ren (by exact⟨⟨trivial,trivial⟩,trivial⟩),trivial⟩) (by exact(Le.refl _)) (by exact⟨⟨rfl,Nat.le_refl _,fun j hj=>(by first|exact le_unren (by first|exact trivial|apply below_intC)|exact Le.of_eq (ren_intC rfl))⟩,LeO.rflc,LeO.rflc,⟨rfl,Nat.le_refl _,fun j hj=>(by first|exact le_unren (by first|exact trivial|apply below_intC)|exact Le.of_eq (ren_intC rfl))⟩,trivial⟩))⟩,by omega,(fun c hc=>match c,hc with|0,_=>(by kernel_rfl)|1,_=>(by kernel_rfl) ),by kernel_rfl,by omega,by omega,by omega,(fun c hc=>match c,hc with|0,_=>(by kernel_rfl)|1,_=>(by kernel_rfl) ),?_⟩⟩
   show RetQ Tryd.prog R 1 _ _ _ _ .ret _
   refine retQ_via (.tup 2 (nth [.agg 2 (nth [.int .i64 (-1),.ow true 3 (numF (grR v p) v.length).length 1]),.bool (decide (((numF (grR v p) v.length).length:Int) > 0))])) _ rfl (by exact⟨by decide,trivial⟩) (to_sel [0,3] 5 rfl rfl rfl rfl rfl ⟨Le.tup (fun j hj=>match j,hj with|0,_=>Le.agg (fun j hj=>match j,hj with|0,_=>Le.refl _|1,_=>Le.refl _)|1,_=>Le.of_eq ?_),trivial⟩ ⟨LeO.refl _,LeO.refl _,trivial⟩)
   show AV.bool _=AV.bool _
   congr 1
   exact decide_eq_decide.2 (by rw[hul];omega)
theorem nextR_le {v:List Int}{p:Prg}:(nextR v p).atoms.length≤v.length+1:=by
 unfold nextR
 split
 ·simp
 ·have:=numF_len (s:=grR v p) (n:=v.length)
  unfold unfR
  show(numF _ _).length≤_
  omega
theorem c_nextRK (R:Res)(v:List Int)(p:Prg)(hv:0<v.length∧v.length<1000000)(hpa:p.atoms=v.length)(hpl:p.rules.l.length<1000000)(hr:∀r,r∈p.rules.l→ruleN v.length r)(g:R.σ):Does Tryd.prog R 64 [.ow true 0 v.length 1,encPrg p] [.cells false (v.length*1) (intC v)] g (.ret (.tup 2 (nth [encStep (stpK (nextR v p)),.bool (nextRB v p)]))) [.cells false (v.length*1) (intC v)] g:=by
 refine does_to (c_nextRO R v p hv hpa hpl hr g) ?_
 refine to_frzK 1 [(0,.tup 2 (nth [encStep (stpK (nextR v p)),.bool (nextRB v p)]))] (Nat.le_refl _) (by show 1≤2;omega) (fun i hi=>?_) ⟨FzTo.tup (fun j hj=>?_),trivial⟩
 ·match i,hi with
  |0,_=>exact fun j hj=>below_intC _ _
 ·match j,hj with
  |0,_=>exact FzTo.agg (fun j hj=>match j,hj with|0,_=>FzTo.below trivial|1,_=>fz_row rfl (Nat.le_refl _))
  |1,_=>exact FzTo.below trivial
end Go.Avm.Pack
namespace Go.Avm.Pack
open Go Go.Avm Go.Proofs
open Go.IntKind (i64 u64)
open Go.Avm.AV (int bool any fz fp sl ow ref fn ifc val agg tup)
open Go.Avm.AObj (cells dead)
open Go.Avm.Oc (ret)
set_option maxRecDepth 4000
def stpsC (l:List Stp):Nat→AV:=fun c=>bif Nat.beq (c%2) 0 then .int .i64 (l.getD (c/2) default).rule else encI ⟨(l.getD (c/2) default).atoms,.auto⟩
theorem below_stpsC {k:Nat}(l:List Stp)(j:Nat):Below k (stpsC l j):=by
 unfold stpsC
 cases Nat.beq (j%2) 0 <;> trivial
theorem ren_stpsC {f:Nat→Nat}(h:True){l:List Stp}{j:Nat}:renA f (stpsC l j)=stpsC l j:=by
 unfold stpsC
 cases Nat.beq (j%2) 0 with
 |true=>rfl
 |false=>rfl
theorem stpsC_append {l:List Stp}{t:Stp}{s:Step}(hs:s=stpK t){z:Nat→AV}{c:Nat}(hc:c<(l.length+1)*2):stpsC (l++[t]) c=plainJ 2 l.length (fun i j=>stpsC l (i*2+j)) (fun i j=>over z 0 2 (nth [.int .i64 s.rule,encI s.atoms]) (0+i*2+j)) c:=by
 subst hs
 unfold plainJ
 by_cases h:c<l.length*2
 ·rw[if_pos h]
  show stpsC (l++[t]) c=stpsC l (c/2*2+c%2)
  rw[show c/2*2+c%2=c by omega]
  unfold stpsC
  rw[getD_app,if_neg (by omega)]
 ·rw[if_neg h]
  show stpsC (l++[t]) c=over z 0 2 _ (0+(c-l.length*2)/2*2+(c-l.length*2)%2)
  rw[over_eq,if_pos (by omega)]
  unfold stpsC
  rw[getD_app,if_pos (by omega)]
  have hj:0+(c-l.length*2)/2*2+(c-l.length*2)%2-0=c%2:=by omega
  rw[hj]
  have:c%2<2:=Nat.mod_lt _ (by decide)
  match c%2,this with
  |0,_=>rfl
  |1,_=>rfl
def derRN (p:Prg):Nat→List Int→List Stp→List Stp × List Int
 |0,v,l=>(l,v)
 |n+1,v,l=>if nextRB v p then derRN p n (afterR v (stpK (nextR v p))) (l++[nextR v p]) else(l,v)
def derR (p:Prg)(n:Nat):List Stp × List Int:=derRN p (n+1) (List.replicate n 3) []
def openL (v:List Int):Nat:=v.count 3
theorem mem_numF {s:List Bool}{n:Nat}{a:Int}:a∈numF s n↔∃k:Nat,k<n∧s.getD k false=true∧a=k:=by
 unfold numF
 rw[List.mem_map]
 constructor
 ·rintro ⟨k,hk,rfl⟩
  obtain⟨h1,h2⟩:=List.mem_filter.1 hk
  exact⟨k,List.mem_range.1 h1,h2,rfl⟩
 ·rintro ⟨k,h1,h2,rfl⟩
  exact⟨k,List.mem_filter.2 ⟨List.mem_range.2 h1,h2⟩,rfl⟩
def subB (s t:List Bool):Prop:=∀k,s.getD k false=true→t.getD k false=true
theorem clr_subB {s:List Bool}{i:Nat}:subB (s.set i false) s:=fun k h=>by
 rw[List.getD_eq_getElem?_getD,List.getElem?_set] at h
 split at h
 ·split at h <;> cases h
 ·rw[List.getD_eq_getElem?_getD];exact h
theorem grFold_subB {v:List Int}:∀{l:List Rule} {s:List Bool},subB (grFold v s l) s
 |[],_=>fun _ h=>h
 |r::l,s=>fun k h=>by
  have h:=grFold_subB (v:=v) (l:=l) (s:=grStep v s r) k h
  unfold grStep at h
  split at h
  ·exact clr_subB k h
  ·exact h
theorem grIter_subB {v:List Int}{p:Prg}:∀{n:Nat} {s:List Bool},subB (grIter v p n s) s
 |0,_=>fun _ h=>h
 |n+1,s=>fun k h=>by
  have h:(if grCh v p.rules.l s then grIter v p n (grFold v s p.rules.l) else s).getD k false=true:=h
  split at h
  ·exact grFold_subB k (grIter_subB k h)
  ·exact h
theorem grR_open {v:List Int}{p:Prg}{k:Nat}(h:(grR v p).getD k false=true):v.getD k 0=3:=by
 have h:=grIter_subB k h
 unfold grOpen at h
 rw[List.getD_eq_getElem?_getD,List.getElem?_map] at h
 rw[List.getD_eq_getElem?_getD]
 cases hx:v[k]? with
 |none=>rw[hx] at h;cases h
 |some x=>rw[hx] at h;simpa using h
theorem set_open {x:Int}(hx:x≠3):∀{v:List Int} {i:Nat},openL (v.set i x)≤openL v∧(v.getD i 0=3→openL (v.set i x)<openL v)
 |[],i=>⟨Nat.le_refl _,fun h=>absurd h (by simp)⟩
 |y::v,0=>by
  unfold openL
  rw[List.set_cons_zero,List.count_cons,List.count_cons,if_neg (by simpa using hx)]
  refine⟨by omega,fun h=>?_⟩
  have h:y=3:=h
  rw[if_pos (by simpa using h)]
  omega
 |y::v,i+1=>by
  obtain⟨h1,h2⟩:=set_open hx (v:=v) (i:=i)
  unfold openL at h1 h2 ⊢
  rw[List.set_cons_succ,List.count_cons,List.count_cons]
  exact⟨by omega,fun h=>by have:=h2 (by simpa using h);omega⟩
theorem afterL_open {x:Int}(hx:x≠3):∀{l v:List Int},openL (afterL x v l)≤openL v∧((∃a l',l=a::l'∧v.getD a.toNat 0=3)→openL (afterL x v l)<openL v)
 |[],v=>⟨Nat.le_refl _,fun ⟨a,l',h,_⟩=>by cases h⟩
 |a::l,v=>by
  have h1:=(afterL_open hx (l:=l) (v:=v.set a.toNat x)).1
  obtain⟨h2,h3⟩:=set_open hx (v:=v) (i:=a.toNat)
  refine⟨Nat.le_trans h1 h2,fun ⟨b,l',e,h⟩=>?_⟩
  cases e
  exact Nat.lt_of_le_of_lt h1 (h3 h)
theorem nextR_atoms {v:List Int}{p:Prg}(hr:∀r,r∈p.rules.l→ruleN v.length r):∀a,a∈(nextR v p).atoms→0≤a∧a<v.length∧v.getD a.toNat 0=3:=by
 intro a ha
 unfold nextR at ha
 split at ha
 ·rename_i h
  obtain⟨k,h1,h2,h3,_⟩:=idxFrom_hit (firesR v) default p.rules.l 0 h
  have hf:(findQ v p).toNat=k:=by unfold findQ;rw[h2];simp
  have hm:=(hr _ (getD_mem p.rules.l default h1)).2
  have ha:a=(p.rules.l.getD (findQ v p).toNat default).head:=by simpa using ha
  rw[hf] at ha
  unfold firesR at h3
  rw[Bool.and_eq_true,beq_iff_eq] at h3
  rw[ha]
  exact⟨hm.1,hm.2,h3.1⟩
 ·obtain⟨k,h1,h2,rfl⟩:=mem_numF.1 (show a∈numF (grR v p) v.length from ha)
  exact⟨by omega,by omega,by simpa using grR_open h2⟩
theorem sayR_ne (s:Step):sayR s≠3:=by
 unfold sayR
 split <;> decide
theorem nextR_lt {v:List Int}{p:Prg}(hr:∀r,r∈p.rules.l→ruleN v.length r)(hb:nextRB v p=true):openL (afterR v (stpK (nextR v p)))<openL v:=by
 refine(afterL_open (sayR_ne _)).2 ?_
 have hne:0<(nextR v p).atoms.length:=by
  unfold nextRB at hb
  unfold nextR
  split
  ·exact Nat.zero_lt_one
  ·rename_i h
   rw[decide_eq_false h,Bool.false_or,decide_eq_true_eq] at hb
   exact hb
 cases hl:(nextR v p).atoms with
 |nil=>rw[hl] at hne;cases hne
 |cons a l=>exact⟨a,l,hl,(nextR_atoms hr a (by rw[hl];exact List.mem_cons_self)).2.2⟩
structure DerOk (p:Prg)(n:Nat)(x:Nat × List Int × List Stp × Step × Bool):Prop where
 num:x.1=x.2.2.1.length
 len:x.2.1.length=n
 step:x.2.2.2.1=stpK (nextR x.2.1 p)
 is:x.2.2.2.2=nextRB x.2.1 p
 few:x.1+openL x.2.1≤n
 der:∃f,openL x.2.1<f∧derRN p f x.2.1 x.2.2.1=derR p n
theorem c_DeriveRO (R:Res)(p:Prg)(n:Nat)(hn:0<n∧n≤1000)(hpa:p.atoms=n)(hpl:p.rules.l.length<1000000)(hr:∀r,r∈p.rules.l→ruleN n r)(g:R.σ):Does Tryd.prog R 19 [encPrg p] [] g (.ret (.tup 2 (nth [.ow true 0 (derR p n).1.length 2,.ow true 1 n 1]))) [.cells false ((derR p n).1.length*2) (stpsC (derR p n).1),.cells false (n*1) (intC (derR p n).2)] g:=by
 have hroom:maxRoom=140737488355328:=rfl
 refine spec_of_wp (nt:=33) (rs:=[.tmp 2,.tmp 3]) (k0:=0) (by kernel_rfl) (by kernel_rfl) (by kernel_rfl) rfl ?_
 have hO:=fun (R:Res) (g:R.σ)=>c_openR R n hn g
 simp only[←hpa] at hO
 obtain⟨v0,hv0⟩:∃v0,List.replicate n (3:Int)=v0:=⟨_,rfl⟩
 rw[hv0] at hO
 have h3l:v0.length=n:=by rw[←hv0];exact List.length_replicate
 have hN:∀(R:Res) (g:R.σ),Does Tryd.prog R 64 [.ow true 0 v0.length 1,encPrg p] [.cells false (v0.length*1) (intC v0)] g (.ret (.tup 2 (nth [.agg 2 (nth [.int .i64 (stpK (nextR v0 p)).rule,encI (stpK (nextR v0 p)).atoms]),.bool (nextRB v0 p)]))) [.cells false (v0.length*1) (intC v0)] g:=fun (R:Res) (g:R.σ)=>c_nextRK R v0 p (by omega) (by rw[h3l];exact hpa) hpl (by rw[h3l];exact hr) g
 obtain⟨s0,hs0⟩:∃s,s=stpK (nextR v0 p):=⟨_,rfl⟩
 obtain⟨b0,hb0⟩:∃b,b=nextRB v0 p:=⟨_,rfl⟩
 simp only[h3l,←hs0,←hb0] at hN
 refine vcQ [] (lkL [(0,[1]),(1,[1,4]),(2,[1,4,5]),(3,[1,4,5,6,7])]) (lkL [(1,[(2,ROrc.call (ow true 1 n 1) [cells false 2 (nth [int i64 p.atoms,encRules p.rules]),cells false (n*1) (intC v0)] g)]),(3,[(2,ROrc.kcall (tup 2 (nth [agg 2 (nth [int i64 s0.rule,fz s0.atoms.2 1 (s0.atoms.l.length) fun (i x:Nat)=>intC s0.atoms.l i]),AV.bool b0]))),(7,ROrc.val (Orc.obj (nth [int i64 s0.rule,fz s0.atoms.2 1 (s0.atoms.l.length) fun (i x:Nat)=>intC s0.atoms.l i])))])]) (fun Q=>(fun (u1:List AV)=>(fun (u2:AObj)=>(fun (u3:AObj)=>1≤2∧(true=true∧Does Tryd.prog R 63 [int i64 p.atoms] [u2] g (ret (ow true 1 n 1)) [u2,u3] g)∧2≤2∧(true=true∧Does Tryd.prog R 64 [ow true 1 n 1,encPrg p] [u2,u3] g (ret (tup 2 (nth [agg 2 (nth u1),AV.bool b0]))) [u2,u3] g)∧2≤2∧(∀(c:Nat),c<2→nth u1 c=over (nth [int i64 0,fz Fz.nil 0 0 fun _ _=>any]) 0 2 (List.brecOn (motive:=fun (x:List AV)=>Nat→AV) u1 nth._f) c)∧Wp Tryd.prog R 33 0 Rd.top (bodyOf Tryd.prog 19) [1,1,1,1,0,0] (contQ Tryd.prog R 33 0 Rd.top (bodyOf Tryd.prog 19) Q [Kont.blk 0,Kont.seq [1,1,1,1,1]]) (St.mk [(1,ref 0 0),(4,ow true 1 n 1),(5,fz Fz.nil 0 0 fun _ _=>any),(6,ref 2 0),(7,AV.bool b0)] [u2,u3,cells false 2 (nth u1)] g)) (cells false (n*1) fun (a:Nat)=>intC v0 a)) (cells false 2 (nth [int i64 p.atoms,encRules p.rules]))) ([int i64 s0.rule,fz s0.atoms.2 1 (s0.atoms.l.length) fun (i x:Nat)=>intC s0.atoms.l i])) (fun _=>by kernel_rfl) ⟨by omega,⟨rfl,(does_sub' [] 1 (fun R g=>hO R g) rfl rfl rfl (by exact trivial) (by exact trivial) (by exact⟨le_ren (by exact trivial),trivial⟩) (by exact(Le.refl _)) (by exact⟨LeO.rflc,⟨rfl,Nat.le_refl _,fun j hj=>(by first|exact le_unren (by first|exact trivial|apply below_intC)|exact Le.of_eq (ren_intC rfl))⟩,trivial⟩))⟩,by omega,⟨rfl,(does_sub' [1] 2 (fun R g=>hN R g) rfl rfl rfl (by exact⟨⟨rfl,Nat.le_refl _,fun j hj=>(by first|exact le_ren (by first|exact trivial|apply below_intC)|exact Le.of_eq (ren_intC rfl).symm)⟩,trivial⟩) (by exact⟨by omega,trivial⟩) (by exact⟨Le.refl _,le_ren (by exact⟨⟨trivial,trivial⟩,trivial⟩),trivial⟩) (by exact le_unren (by exact⟨⟨trivial,⟨trivial,trivial⟩,trivial⟩,trivial⟩)) (by exact⟨LeO.rflc,⟨rfl,Nat.le_refl _,fun j hj=>(by first|exact le_unren (by first|exact trivial|apply below_intC)|exact Le.of_eq (ren_intC rfl))⟩,trivial⟩))⟩,by omega,(fun c hc=>match c,hc with|0,_=>(by kernel_rfl)|1,_=>(by kernel_rfl) ),?_⟩
 refine wp_to (to_ghosts (fun _=>.any) 1) ?_
 refine(wp_loop (by kernel_rfl) (fun (x:Nat × List Int × List Stp × Step × Bool)=>⟨[(1,ref 0 0),(4,.ow true 1 n 1),(5,.ow true 3 x.1 2),(6,ref 2 0),(7,.bool x.2.2.2.2)],[.cells false 2 (nth [.int .i64 p.atoms,encRules p.rules]),.cells false (n*1) (intC x.2.1),.cells false 2 (nth [.int .i64 x.2.2.2.1.rule,encI x.2.2.2.1.atoms]),.cells false (x.1*2) (stpsC x.2.2.1)],g⟩) (fun (x:Nat × List Int × List Stp × Step × Bool)=>(DerOk p n x)) (fun (x:Nat × List Int × List Stp × Step × Bool)=>(openL x.2.1)) (0,v0,[],s0,b0) (to_le ⟨Le.refl _,Le.refl _,Le.nil_ow,Le.refl _,Le.refl _,trivial⟩ ⟨LeO.rflc,LeO.rflc,LeO.rflc,⟨rfl,Nat.le_refl _,fun j hj=>absurd hj (Nat.not_lt_zero j)⟩,trivial⟩ rfl) ?_ (fun x hi=>?_))
 ·refine⟨rfl,h3l,hs0,hb0,?_,n+1,?_,?_⟩
  ·show 0+openL v0≤n
   rw[Nat.zero_add,←h3l]
   exact List.count_le_length
  ·refine Nat.lt_succ_of_le ?_
   show openL v0≤n
   rw[←h3l]
   exact List.count_le_length
  ·unfold derR
   rw[hv0]
 ·obtain⟨m,v,l,s,b⟩:=x
  obtain⟨h0,h1,h2,h3,h4,h5⟩:=hi
  simp only at h0 h1 h2 h3 h4 h5
  have hln:m<1000000:=by omega
  cases b with
  |true=>
   obtain⟨w,hw⟩:∃w,afterR v s=w:=⟨_,rfl⟩
   have hwl:w.length=n:=by rw[←hw];exact afterL_len.trans h1
   have hat:s.atoms.l.length<1000000:=by
    rw[h2]
    have:=nextR_le (v:=v) (p:=p)
    show(nextR v p).atoms.length<_
    omega
   have hra:=nextR_atoms (v:=v) (p:=p) (by rw[h1];exact hr)
   have hin:∀i,i<s.atoms.l.length→0≤s.atoms.l.getD i 0∧s.atoms.l.getD i 0<v.length:=fun i hi=>by
    have:=hra (s.atoms.l.getD i 0) (by rw[h2] at hi ⊢;exact getD_mem _ 0 hi)
    exact⟨this.1,this.2.1⟩
   have hlt:=nextR_lt (v:=v) (p:=p) (by rw[h1];exact hr) h3.symm
   rw[←h2,hw] at hlt
   have hA:=fun (R:Res) (g:R.σ)=>c_After R v s (by omega) hat hin g
   have hN:∀(R:Res) (g:R.σ),Does Tryd.prog R 64 [.ow true 0 w.length 1,encPrg p] [.cells false (w.length*1) (intC w)] g (.ret (.tup 2 (nth [.agg 2 (nth [.int .i64 (stpK (nextR w p)).rule,encI (stpK (nextR w p)).atoms]),.bool (nextRB w p)]))) [.cells false (w.length*1) (intC w)] g:=fun (R:Res) (g:R.σ)=>c_nextRK R w p (by omega) (by rw[hwl];exact hpa) hpl (by rw[hwl];exact hr) g
   obtain⟨s1,hs1⟩:∃s,s=stpK (nextR w p):=⟨_,rfl⟩
   obtain⟨b1,hb1⟩:∃b,b=nextRB w p:=⟨_,rfl⟩
   simp only[hwl,←hs1,←hb1] at hN
   simp only[h1,hw] at hA
   refine vcQ [[1,1,1,1,0,0,0,0,1,1]] (lkL [(4,[1,4,5,6,17]),(5,[1,4,5,6]),(6,[1,4,5,6]),(7,[1,4,5,6,7])]) (lkL [(5,[(3,ROrc.val (Orc.obj (stpsC (l++[nextR v p]))))]),(6,[(2,ROrc.call (ow true 6 n 1) [cells false 2 (nth [int i64 p.atoms,encRules p.rules]),cells false (n*1) fun (a:Nat)=>intC v a,cells false 2 (nth [int i64 s.rule,fz s.atoms.2 1 (s.atoms.l.length) fun (i x:Nat)=>intC s.atoms.l i]),dead,cells false 2 (over (fun (j:Nat)=>nth [int i64 0,fz Fz.nil 0 0 fun _ _=>any] (j%2)) 0 2 (List.brecOn (motive:=fun (x:List AV)=>Nat→AV) [int i64 s.rule,fz s.atoms.2 1 (s.atoms.l.length) fun (i x:Nat)=>intC s.atoms.l i] nth._f)),cells false ((m+1)*2) (stpsC (l++[nextR v p])),cells false (n*1) (intC w)] g)]),(7,[(2,ROrc.kcall (tup 2 (nth [agg 2 (nth [int i64 s1.rule,fz s1.atoms.2 1 (s1.atoms.l.length) fun (i x:Nat)=>intC s1.atoms.l i]),AV.bool b1]))),(6,ROrc.val (Orc.obj (nth [int i64 s1.rule,fz s1.atoms.2 1 (s1.atoms.l.length) fun (i x:Nat)=>intC s1.atoms.l i])))])]) (fun Q=>(fun (u1:List AObj)=>(fun (u2:List AV)=>(fun (u3:List AV)=>(fun (u4:AObj)=>(fun (u5:AObj)=>(fun (u6:AObj)=>(true=true→2≤2∧0<2∧(m+1)*32≤maxRoom∧m+1≤maxRoom∧2≤2∧m*2≤m*2∧(∀(c:Nat),c<(m+1)*2→stpsC (l++[nextR v p]) c=plainJ 2 m (fun (i j:Nat)=>stpsC l (i*2+j)) (fun (i j:Nat)=>over (fun (j:Nat)=>nth [int i64 0,fz Fz.nil 0 0 fun _ _=>any] (j%2)) 0 2 (List.brecOn (motive:=fun (x:List AV)=>Nat→AV) u2 nth._f) (0+i*2+j)) c)∧2≤2∧(true=true∧Does Tryd.prog R 65 [ow true 1 n 1,agg 2 (nth u2)] [u5,u6,cells false 2 (nth u2),dead,u4,cells false ((m+1)*2) (stpsC (l++[nextR v p]))] g (ret (ow true 6 n 1)) u1 g)∧2≤2∧(true=true∧Does Tryd.prog R 64 [ow true 6 n 1,encPrg p] u1 g (ret (tup 2 (nth [agg 2 (nth u3),AV.bool b1]))) u1 g)∧2≤2∧(∀(c:Nat),c<2→nth u3 c=over (nth u2) 0 2 (List.brecOn (motive:=fun (x:List AV)=>Nat→AV) u3 nth._f) c)∧Q AEx.normal (St.mk [(1,ref 0 0),(4,ow true 6 n 1),(5,ow true 5 (m+1) 2),(6,ref 2 0),(7,AV.bool b1)] [u5,u6,cells false 2 (nth u3),dead,u4,cells false ((m+1)*2) (stpsC (l++[nextR v p])),cells false (n*1) fun (a:Nat)=>intC w a] g))∧(true=false→Wp Tryd.prog R 33 0 Rd.top (bodyOf Tryd.prog 19) [1,1,1,1,0,0,0,0,1,1] (contQ Tryd.prog R 33 0 Rd.top (bodyOf Tryd.prog 19) Q [Kont.seq [1,1,1,1,0,0,0,1]]) (St.mk [(1,ref 0 0),(4,ow true 1 n 1),(5,ow true 3 m 2),(6,ref 2 0),(17,AV.bool true)] [u5,u6,cells false 2 (nth u2),cells false (m*2) (stpsC l)] g))) (cells false (n*1) fun (a:Nat)=>intC v a)) (cells false 2 (nth [int i64 p.atoms,encRules p.rules]))) (cells false 2 (over (fun (j:Nat)=>nth [int i64 0,fz Fz.nil 0 0 fun _ _=>any] (j%2)) 0 2 (List.brecOn (motive:=fun (x:List AV)=>Nat→AV) u2 nth._f)))) ([int i64 s1.rule,fz s1.atoms.2 1 (s1.atoms.l.length) fun (i x:Nat)=>intC s1.atoms.l i])) ([int i64 s.rule,fz s.atoms.2 1 (s.atoms.l.length) fun (i x:Nat)=>intC s.atoms.l i])) ([cells false 2 (nth [int i64 p.atoms,encRules p.rules]),cells false (n*1) fun (a:Nat)=>intC v a,cells false 2 (nth [int i64 s.rule,fz s.atoms.2 1 (s.atoms.l.length) fun (i x:Nat)=>intC s.atoms.l i]),dead,cells false 2 (over (fun (j:Nat)=>nth [int i64 0,fz Fz.nil 0 0 fun _ _=>any] (j%2)) 0 2 (List.brecOn (motive:=fun (x:List AV)=>Nat→AV) [int i64 s.rule,fz s.atoms.2 1 (s.atoms.l.length) fun (i x:Nat)=>intC s.atoms.l i] nth._f)),cells false ((m+1)*2) (stpsC (l++[nextR v p])),cells false (n*1) fun (a:Nat)=>intC w a])) (fun _=>by kernel_rfl) ⟨fun _=>⟨by omega,by omega,by omega,by omega,by omega,by omega,?_,by omega,⟨rfl,(does_sub' [1] 6 (fun R g=>hA R g) rfl rfl rfl (by exact⟨⟨rfl,Nat.le_refl _,fun j hj=>(by first|exact le_ren (by first|exact trivial|apply below_intC)|exact Le.of_eq (ren_intC rfl).symm)⟩,trivial⟩) (by exact⟨by omega,trivial⟩) (by exact⟨Le.refl _,le_ren (by exact⟨⟨trivial,trivial⟩,trivial⟩),trivial⟩) (by exact(Le.refl _)) (by exact⟨LeO.rflc,⟨rfl,Nat.le_refl _,fun j hj=>(by first|exact le_unren (by first|exact trivial|apply below_intC)|exact Le.of_eq (ren_intC rfl))⟩,LeO.rflc,trivial,LeO.rflc,LeO.rflc,⟨rfl,Nat.le_refl _,fun j hj=>(by first|exact le_unren (by first|exact trivial|apply below_intC)|exact Le.of_eq (ren_intC rfl))⟩,trivial⟩))⟩,by omega,⟨rfl,(does_sub' [6] 7 (fun R g=>hN R g) rfl rfl rfl (by exact⟨⟨rfl,Nat.le_refl _,fun j hj=>(by first|exact le_ren (by first|exact trivial|apply below_intC)|exact Le.of_eq (ren_intC rfl).symm)⟩,trivial⟩) (by exact⟨by omega,trivial⟩) (by exact⟨Le.refl _,le_ren (by exact⟨⟨trivial,trivial⟩,trivial⟩),trivial⟩) (by exact le_unren (by exact⟨⟨trivial,⟨trivial,trivial⟩,trivial⟩,trivial⟩)) (by exact⟨LeO.rflc,LeO.rflc,LeO.rflc,trivial,LeO.rflc,LeO.rflc,⟨rfl,Nat.le_refl _,fun j hj=>(by first|exact le_unren (by first|exact trivial|apply below_intC)|exact Le.of_eq (ren_intC rfl))⟩,trivial⟩))⟩,by omega,(fun c hc=>match c,hc with|0,_=>(by kernel_rfl)|1,_=>(by kernel_rfl) ),?_⟩,fun h=>(nomatch h)⟩
   ·intro c hc
    rw[h0] at hc ⊢
    exact(stpsC_append (z:=fun j=>nth [.int .i64 0,.fz .nil 0 0 fun _ _=>.any] (j%2)) h2 hc).trans (by kernel_rfl)
   ·refine(next_round (m+1,w,l++[nextR v p],s1,b1) (to_sel [0,6,2,5] 7 rfl rfl rfl rfl rfl ⟨Le.refl _,Le.refl _,Le.refl _,Le.refl _,Le.refl _,trivial⟩ ⟨⟨rfl,Nat.le_refl _,fun j hj=>match j,hj with|0,_=>(Le.refl _)|1,_=>(Le.refl _) ⟩,?_,⟨rfl,Nat.le_refl _,fun j hj=>match j,hj with|0,_=>(Le.refl _)|1,_=>(Le.refl _) ⟩,⟨by first|rfl|(simp;done),by first|exact Nat.le_refl _|(simp;done)|(simp;omega),fun j hj=>(by first|exact le_ren (by first|exact trivial|apply below_stpsC)|exact Le.of_eq (ren_stpsC rfl).symm)⟩,trivial⟩) ?_ ?_)
    ·exact⟨rfl,Nat.le_refl _,fun j _=>Le.of_eq rfl⟩
    ·refine⟨?_,hwl,hs1,hb1,?_,?_⟩
     ·show m+1=(l++[nextR v p]).length
      rw[List.length_append,h0]
      rfl
     ·show m+1+openL w≤n
      omega
     ·obtain⟨f,f1,f2⟩:=h5
      obtain⟨f,rfl⟩:∃k,f=k+1:=⟨f-1,by omega⟩
      refine⟨f,by show openL w<f;omega,?_⟩
      rw[←f2]
      show derRN p f w (l++[nextR v p])=(if nextRB v p then _ else _)
      rw[←h3,if_pos rfl,←hw,h2]
    ·exact hlt
  |false=>
   have e:derR p n=(l,v):=by
    obtain⟨f,f1,f2⟩:=h5
    obtain⟨f,rfl⟩:∃k,f=k+1:=⟨f-1,by omega⟩
    rw[←f2]
    show(if nextRB v p then _ else _)=_
    rw[←h3]
    rfl
   rw[e]
   subst h0
   refine vcQ [[1,1,1,1,0,0,0,0,1,0]] (lkL [(4,[1,4,5,6,17])]) (fun _=>[]) (fun Q=>(fun (u1:St R.σ)=>(false=true→Wp Tryd.prog R 33 0 Rd.top (bodyOf Tryd.prog 19) [1,1,1,1,0,0,0,0,1,0] (contQ Tryd.prog R 33 0 Rd.top (bodyOf Tryd.prog 19) Q [Kont.seq [1,1,1,1,0,0,0,1]]) u1)∧(false=false→Q (AEx.exit 0) u1)) (St.mk [(1,ref 0 0),(4,ow true 1 n 1),(5,ow true 3 (l.length) 2),(6,ref 2 0),(17,AV.bool false)] [cells false 2 (nth [int i64 p.atoms,encRules p.rules]),cells false (n*1) fun (a:Nat)=>intC v a,cells false 2 (nth [int i64 s.rule,fz s.atoms.2 1 (s.atoms.l.length) fun (i x:Nat)=>intC s.atoms.l i]),cells false (l.length*2) (stpsC l)] g)) (fun _=>by kernel_rfl) ⟨fun h=>(nomatch h),fun _=>?_⟩
   refine⟨_,To.refl _,vcQ [] (lkL [(8,[2,3])]) (fun _=>[]) (fun Q=>Q AEx.ret (St.mk [(2,ow true 3 (l.length) 2),(3,ow true 1 n 1)] [cells false 2 (nth [int i64 p.atoms,encRules p.rules]),cells false (n*1) fun (a:Nat)=>intC v a,cells false 2 (nth [int i64 s.rule,fz s.atoms.2 1 (s.atoms.l.length) fun (i x:Nat)=>intC s.atoms.l i]),cells false (l.length*2) (stpsC l)] g)) (fun _=>by kernel_rfl) (?_)⟩
   show RetQ Tryd.prog R 0 _ _ _ _ .ret _
   exact retQ_via (.tup 2 (nth [.ow true 3 l.length 2,.ow true 1 n 1])) _ rfl trivial (to_sel (s':=⟨[(0,.tup 2 (nth [.ow true 0 l.length 2,.ow true 1 n 1]))],[.cells false (l.length*2) (stpsC l),.cells false (n*1) (intC v)],g⟩) [3,1] 4 rfl rfl rfl rfl rfl ⟨Le.tup (fun j hj=>match j,hj with|0,_=>Le.refl _|1,_=>Le.refl _),trivial⟩ ⟨LeO.cells (fun j hj=>(ren_stpsC trivial).symm),LeO.refl _,trivial⟩)
theorem fz_ints {hp:List AObj}{k m o:Nat}{l:List Int}{n:Nat}(hn:l.length=n)(ho:getO hp o=.cells false (n*1) (intC l))(hk:k≤o):FzTo hp k m (.ow true o n 1) (encI ⟨l,.auto⟩):=by
 subst hn
 exact(FzTo.ow ho hk (Nat.le_refl _) (by decide) (fun j _=>FzTo.below (below_intC _ _))).le (Le.fz rfl (fun i j hi hj=>by
  show AV.int .i64 _=_
  rw[show i*1+j=i by omega]))
theorem fz_steps {hp:List AObj}{k m o:Nat}{l:List Stp}(ho:getO hp o=.cells false (l.length*2) (stpsC l))(hk:k≤o):FzTo hp k m (.ow true o l.length 2) (encSteps (stpsK l)):=
 (FzTo.ow ho hk (Nat.le_refl _) (by decide) (fun j _=>FzTo.below (below_stpsC _ _))).le (Le.fz (stps_len _).symm (fun i j hi hj=>by
  show stpsC l (i*2+j)=stepC _ j
  rw[stps_get hi]
  unfold stpsC
  rw[show(i*2+j)%2=j by omega,show(i*2+j)/2=i by omega]
  match j,hj with
  |0,_=>rfl
  |1,_=>rfl))
theorem derRN_len {p:Prg}:∀{f:Nat} {v:List Int} {l:List Stp},(derRN p f v l).2.length=v.length
 |0,_,_=>rfl
 |f+1,v,l=>by
  show(if nextRB v p then derRN p f (afterR v (stpK (nextR v p))) (l++[nextR v p]) else(l,v)).2.length=_
  split
  ·rw[derRN_len];exact afterL_len
  ·rfl
theorem derR_len {p:Prg}{n:Nat}:(derR p n).2.length=n:=derRN_len.trans List.length_replicate
theorem c_DeriveRK (R:Res)(p:Prg)(n:Nat)(hn:0<n∧n≤1000)(hpa:p.atoms=n)(hpl:p.rules.l.length<1000000)(hr:∀r,r∈p.rules.l→ruleN n r)(g:R.σ):Does Tryd.prog R 19 [encPrg p] [] g (.ret (.tup 2 (nth [encSteps (stpsK (derR p n).1),encI ⟨(derR p n).2,.auto⟩]))) [] g:=by
 refine does_to (c_DeriveRO R p n hn hpa hpl hr g) ?_
 refine to_frzK 0 [(0,.tup 2 (nth [encSteps (stpsK (derR p n).1),encI ⟨(derR p n).2,.auto⟩]))] (Nat.le_refl _) (Nat.zero_le _) (fun i hi=>absurd hi (Nat.not_lt_zero i)) ⟨FzTo.tup (fun j hj=>?_),trivial⟩
 match j,hj with
 |0,_=>exact fz_steps rfl (Nat.zero_le _)
 |1,_=>exact fz_ints derR_len rfl (Nat.zero_le _)
end Go.Avm.Pack
namespace Go.Avm.Pack
open Go Go.Avm Go.Proofs
open Go.IntKind (i64 u64)
open Go.Avm.AV (int bool any fz fp sl ow ref fn ifc val agg tup)
open Go.Avm.AObj (cells dead)
open Go.Avm.Oc (ret)
set_option maxRecDepth 4000
structure Agr (n:Nat)(v:List Int)(f:Nat→Int):Prop where
 len:v.length=n
 get:∀j,j<n→v.getD j 0=f j
 val:∀j,j<n→f j=1∨f j=2∨f j=3
theorem any_ext {α:Type}{q q':α→Bool}:∀{l:List α},(∀x,x∈l→q x=q' x)→l.any q=l.any q'
 |[],_=>rfl
 |x::l,h=>by rw[List.any_cons,List.any_cons,h x List.mem_cons_self,any_ext (fun y hy=>h y (List.mem_cons_of_mem _ hy))]
theorem agr_body {n:Nat}{v:List Int}{f:Nat→Int}{r:Rule}(ha:Agr n v f)(h:litsN n r):bodyR v r=bodyV f r:=by
 unfold bodyR bodyV
 congr 1
 refine any_ext (fun l hl=>?_)
 have hl:=h.2 l hl
 have hg:=ha.get l.atom.toNat (by omega)
 have hv:=ha.val l.atom.toNat (by omega)
 unfold holdsR litV
 rw[hg]
 cases l.neg <;> rcases hv with h|h|h <;> rw[h] <;> decide
theorem agr_fires {n:Nat}{v:List Int}{f:Nat→Int}{r:Rule}(ha:Agr n v f)(h:ruleN n r):firesR v r=firesV f r:=by
 unfold firesR firesV
 have:=h.2
 rw[ha.get r.head.toNat (by omega),agr_body ha h.1]
theorem idxFrom_ext {α:Type}{q q':α→Bool}:∀{l:List α} {i:Nat},(∀x,x∈l→q x=q' x)→idxFrom q l i=idxFrom q' l i
 |[],_,_=>rfl
 |x::l,i,h=>by
  unfold idxFrom
  rw[h x List.mem_cons_self,idxFrom_ext (fun y hy=>h y (List.mem_cons_of_mem _ hy))]
def blk (f:Nat→Int)(m:Nat→Bool)(l:Lit):Bool:=litV f l==1||(!l.neg&&m l.atom.toNat)
theorem blk_mono {f:Nat→Int}{m m':Nat→Bool}{l:Lit}(h:∀j,m j=true→m' j=true)(hb:blk f m l=true):blk f m' l=true:=by
 unfold blk at hb ⊢
 rw[Bool.or_eq_true,Bool.and_eq_true] at hb ⊢
 rcases hb with hb|⟨h1,h2⟩
 ·exact .inl hb
 ·exact .inr ⟨h1,h _ h2⟩
theorem agr_blocks {n:Nat}{v:List Int}{f:Nat→Int}{l:Lit}{s:List Bool}(ha:Agr n v f)(h:0≤l.atom∧l.atom<n):blocksR v s l=blk f (fun j=>s.getD j false) l:=by
 have hg:=ha.get l.atom.toNat (by omega)
 have hv:=ha.val l.atom.toNat (by omega)
 unfold blocksR blk failsR litV
 rw[hg]
 cases l.neg <;> rcases hv with h|h|h <;> rw[h] <;> simp
theorem agr_supports {n:Nat}{v:List Int}{f:Nat→Int}{r:Rule}{s:List Bool}(ha:Agr n v f)(h:litsN n r):supportsR v s r = !r.body.l.any (blk f (fun j=>s.getD j false)):=by
 unfold supportsR
 rw[any_ext (fun l hl=>agr_blocks ha (h.2 l hl))]
def unfM (p:Prg)(f:Nat→Int)(m:Nat→Bool):Prop:=∀r,r∈p.rules.l→m r.head.toNat=true→r.body.l.any (blk f m)=true
theorem any_mono {α:Type}{q q':α→Bool}{l:List α}(h:∀x,q x=true→q' x=true)(hq:l.any q=true):l.any q'=true:=by
 rw[List.any_eq_true] at hq ⊢
 obtain⟨x,h1,h2⟩:=hq
 exact⟨x,h1,h x h2⟩
section
variable {p:Prg}{n:Nat}{v:List Int}{f:Nat→Int}
theorem grFold_max (ha:Agr n v f){m:Nat→Bool}(hu:unfM p f m):∀{l:List Rule} {s:List Bool},(∀r,r∈l→r∈p.rules.l∧ruleN n r)→(∀j,m j=true→s.getD j false=true)→∀j,m j=true→(grFold v s l).getD j false=true
 |[],_,_,h=>h
 |r::l,s,hl,h=>by
  refine grFold_max ha hu (l:=l) (s:=grStep v s r) (fun q hq=>hl q (List.mem_cons_of_mem _ hq)) (fun j hj=>?_)
  unfold grStep
  split
  ·rename_i hup
   obtain⟨h1,h2⟩:=hl r List.mem_cons_self
   unfold upholdsR at hup
   rw[Bool.and_eq_true] at hup
   obtain⟨_,hs⟩:=hup
   rw[agr_supports ha h2.1,Bool.not_eq_true'] at hs
   rw[List.getD_eq_getElem?_getD,List.getElem?_set]
   by_cases he:r.head.toNat=j
   ·subst he
    have:=any_mono (l:=r.body.l) (fun l hb=>blk_mono h hb) (hu r h1 hj)
    rw[hs] at this
    cases this
   ·rw[if_neg he,←List.getD_eq_getElem?_getD]
    exact h j hj
  ·exact h j hj
theorem grIter_max (ha:Agr n v f)(hr:∀r,r∈p.rules.l→ruleN n r){m:Nat→Bool}(hu:unfM p f m):∀{k:Nat} {s:List Bool},(∀j,m j=true→s.getD j false=true)→∀j,m j=true→(grIter v p k s).getD j false=true
 |0,_,h=>h
 |k+1,s,h=>fun j hj=>by
  show(if grCh v p.rules.l s then grIter v p k (grFold v s p.rules.l) else s).getD j false=true
  split
  ·exact grIter_max ha hr hu (fun j hj=>grFold_max ha hu (fun r h=>⟨h,hr r h⟩) h j hj) j hj
  ·exact h j hj
theorem grIter_fix:∀{k:Nat} {s:List Bool},cntB s<k→∀r,r∈p.rules.l→upholdsR v (grIter v p k s) r=false
 |0,_,h=>absurd h (Nat.not_lt_zero _)
 |k+1,s,h=>fun r hr=>by
  show upholdsR v (if grCh v p.rules.l s then grIter v p k (grFold v s p.rules.l) else s) r=false
  obtain⟨_,c2,c3⟩:=grFold_cnt (v:=v) (l:=p.rules.l) (s:=s)
  split
  ·rename_i hc
   have:=c2 hc
   exact grIter_fix (by omega) r hr
  ·rename_i hc
   exact(c3 (by simpa using hc)).2 r hr
theorem grR_unf (ha:Agr n v f)(hr:∀r,r∈p.rules.l→ruleN n r):unfM p f (fun j=>(grR v p).getD j false):=by
 intro r h hm
 have:=grIter_fix (v:=v) (p:=p) (k:=v.length+1) (s:=grOpen v) (Nat.lt_succ_of_le (by rw[←grOpen_len v];exact cntB_le _)) r h
 unfold upholdsR at this
 have hm:(grR v p).getD r.head.toNat false=true:=hm
 have e:grIter v p (v.length+1) (grOpen v)=grR v p:=rfl
 rw[e,hm,Bool.true_and,agr_supports ha (hr r h).1,Bool.not_eq_false'] at this
 exact this
theorem grR_max (ha:Agr n v f)(hr:∀r,r∈p.rules.l→ruleN n r){m:Nat→Bool}(hu:unfM p f m)(ho:∀j,m j=true→j<n∧f j=3){j:Nat}(hj:m j=true):(grR v p).getD j false=true:=by
 refine grIter_max ha hr hu (fun j hj=>?_) j hj
 obtain⟨h1,h2⟩:=ho j hj
 have hg:=ha.get j h1
 rw[h2,List.getD_eq_getElem?_getD,List.getElem?_eq_getElem (by rw[ha.len];exact h1)] at hg
 unfold grOpen
 rw[List.getD_eq_getElem?_getD,List.getElem?_map,List.getElem?_eq_getElem (by rw[ha.len];exact h1)]
 have hg:v[j]'(by rw[ha.len];exact h1)=3:=hg
 show(v[j]'_==3)=true
 rw[hg]
 rfl
theorem mem_ofH {l:List Rule}{a:Int}{r:Rule}:r∈ofH l a↔r∈l∧r.head=a:=by
 unfold ofH
 rw[List.mem_filter,beq_iff_eq]
theorem cutR_max (hh:∀r,r∈p.rules.l→0≤r.head){m:Nat→Bool}(hu:unfM p f m):∀{l:List Nat} {s:Nat},s<2^24→(∀a,a∈l→a<24)→(∀j,m j=true→s.testBit j=true)→∀j,m j=true→(cutR p f s l).testBit j=true
 |[],_,_,_,h=>h
 |a::l,s,hs,hl,h=>by
  show ∀j,m j=true→(cutR p f (if (ofH p.rules.l (a:Int)).any (givesV f s) then clr s a else s) l).testBit j=true
  have hl':∀b,b∈l→b<24:=fun b hb=>hl b (List.mem_cons_of_mem _ hb)
  have ha:=hl a List.mem_cons_self
  split
  ·rename_i hg
   refine cutR_max hh hu (Nat.lt_of_le_of_lt (clr_le hs) hs) hl' (fun j hj=>?_)
   rw[clr_bit hs ha,h j hj,Bool.true_and,decide_eq_true_eq]
   intro e
   subst e
   obtain⟨r,h1,h2⟩:=List.any_eq_true.1 hg
   obtain⟨h3,h4⟩:=mem_ofH.1 h1
   have h5:=any_mono (l:=r.body.l) (fun l hb=>blk_mono h hb) (hu r h3 (by rw[h4];simpa using hj))
   unfold givesV at h2
   rw[Bool.not_eq_true'] at h2
   have h6:r.body.l.any (takesV f s)=r.body.l.any (blk f s.testBit):=rfl
   rw[h6,h5] at h2
   cases h2
  ·exact cutR_max hh hu hs hl' h
theorem greF_max (hh:∀r,r∈p.rules.l→0≤r.head){m:Nat→Bool}(hu:unfM p f m):∀{k s:Nat},s<2^24→(∀j,m j=true→s.testBit j=true)→∀j,m j=true→(greF p f k s).testBit j=true
 |0,_,_,h=>h
 |k+1,s,hs,h=>fun j hj=>by
  show(if cutStep p f s=s then s else greF p f k (cutStep p f s)).testBit j=true
  split
  ·exact h j hj
  ·exact greF_max hh hu (Nat.lt_of_le_of_lt (cutR_le hs) hs) (fun j hj=>cutR_max hh hu hs (fun a ha=>memS_lt ha) h j hj) j hj
theorem gre_max (hp:atomsOk p)(hh:∀r,r∈p.rules.l→0≤r.head){m:Nat→Bool}(hu:unfM p f m)(ho:∀j,m j=true→j<p.atoms.toNat∧f j=3){j:Nat}(hj:m j=true):(gre p f).testBit j=true:=by
 have:=hp.2
 refine greF_max hh hu (setV_lt24 (by omega)) (fun j hj=>?_) j hj
 obtain⟨h1,h2⟩:=ho j hj
 rw[setV_bit,decide_eq_true h1,decide_eq_true h2]
 rfl
theorem gre_unf (hp:atomsOk p)(hr:∀r,r∈p.rules.l→ruleOk r):unfM p f (fun j=>(gre p f).testBit j):=by
 intro r h hm
 have hg:=gre_noSup f hp
 obtain⟨_,_,h3⟩:=gre_fix f hp
 have hk:=hr r h
 have hm:(gre p f).testBit r.head.toNat=true:=hm
 unfold noSup at hg
 rw[Bool.not_eq_true',List.any_eq_false] at hg
 have h1:=hg r.head.toNat (Tb.mem_memN.2 ⟨lt_of_bit h3 hm,hm⟩)
 have h1:(ofH p.rules.l (r.head.toNat:Int)).any (givesV f (gre p f))=false:=by simpa using h1
 rw[List.any_eq_false] at h1
 have h2:=h1 r (mem_ofH.2 ⟨h,by have:=hk.2.1;omega⟩)
 unfold givesV at h2
 have h2:r.body.l.any (takesV f (gre p f))=true:=by simpa using h2
 exact h2
theorem gre_eq (hpn:p.atoms.toNat=n)(hp:atomsOk p)(ha:Agr n v f)(hr:∀r,r∈p.rules.l→ruleOk r)(hrn:∀r,r∈p.rules.l→ruleN n r)(j:Nat):(grR v p).getD j false=(gre p f).testBit j:=by
 rw[Bool.eq_iff_iff]
 constructor
 ·intro h
  refine gre_max hp (fun r h=>(hr r h).2.1) (grR_unf ha hrn) (fun k hk=>?_) h
  have hk:(grR v p).getD k false=true:=hk
  have h1:k<n:=by
   rcases Nat.lt_or_ge k n with h|h
   ·exact h
   ·rw[List.getD_eq_getElem?_getD,List.getElem?_eq_none (by rw[grR_len,ha.len];exact h)] at hk
    cases hk
  exact⟨by rw[hpn];exact h1,by rw[←ha.get k h1];exact grR_open hk⟩
 ·intro h
  refine grR_max ha hrn (gre_unf hp hr) (fun k hk=>?_) h
  have hk:(gre p f).testBit k=true:=hk
  have:=(gre_fix f hp).2.1 k hk
  rw[setV_bit,Bool.and_eq_true,decide_eq_true_eq,decide_eq_true_eq,hpn] at this
  exact this
theorem filter_range {q:Nat→Bool}:∀{k n:Nat},(∀j,n≤j→q j=false)→(List.range (n+k)).filter q=(List.range n).filter q
 |0,_,_=>rfl
 |k+1,n,h=>by
  rw[←Nat.add_assoc,List.range_succ,List.filter_append,filter_range h,List.filter_cons,if_neg (by rw[h (n+k) (by omega)];decide)]
  exact List.append_nil _
theorem unf_eq (hpn:p.atoms.toNat=n)(hp:atomsOk p)(ha:Agr n v f)(hr:∀r,r∈p.rules.l→ruleOk r)(hrn:∀r,r∈p.rules.l→ruleN n r):unfR v p=memI (gre p f):=by
 have hn24:n≤24:=by have:=hp.2;omega
 unfold unfR numF memI
 rw[ha.len]
 congr 1
 show _=(List.range 24).filter (fun j=>(gre p f).testBit j)
 rw[show 24=n+(24-n) by omega,filter_range (fun j hj=>?_)]
 ·congr 1
  funext j
  exact gre_eq hpn hp ha hr hrn j
 ·cases hb:(gre p f).testBit j with
  |false=>rfl
  |true=>
   have:=(gre_fix f hp).2.1 j hb
   rw[setV_bit,Bool.and_eq_true,decide_eq_true_eq,hpn] at this
   omega
theorem next_eq (hpn:p.atoms.toNat=n)(hp:atomsOk p)(ha:Agr n v f)(hr:∀r,r∈p.rules.l→ruleOk r)(hrn:∀r,r∈p.rules.l→ruleN n r):nextR v p=nextS p f∧nextRB v p=nextB p f:=by
 have h1:findQ v p=findR p f:=idxFrom_ext (fun r h=>agr_fires ha (hrn r h))
 have h2:=unf_eq hpn hp ha hr hrn
 unfold nextR nextS nextRB nextB
 rw[h1,h2]
 refine⟨rfl,?_⟩
 congr 1
 obtain⟨_,_,h3⟩:=gre_fix f hp
 rw[Bool.eq_iff_iff,decide_eq_true_eq,bne_iff_ne,memI_len]
 constructor
 ·rintro h e
  rw[e] at h
  exact absurd h (by decide)
 ·intro h
  rcases Nat.eq_zero_or_pos (memS (gre p f)).length with h0|h0
  ·exact absurd (Tb.zero_of_mem h3 (List.length_eq_zero_iff.1 h0)) h
  ·exact h0
theorem afterL_get {x:Int}:∀{l v:List Int} {j:Nat},j<v.length→(∀a,a∈l→0≤a)→(afterL x v l).getD j 0=if (j:Int)∈l then x else v.getD j 0
 |[],_,_,_,_=>by rw[if_neg (by simp)];rfl
 |a::l,v,j,hj,hl=>by
  show(afterL x (v.set a.toNat x) l).getD j 0=_
  have ha:=hl a List.mem_cons_self
  rw[afterL_get (by rw[List.length_set];exact hj) (fun b hb=>hl b (List.mem_cons_of_mem _ hb))]
  by_cases h:(j:Int)∈l
  ·rw[if_pos h,if_pos (List.mem_cons_of_mem _ h)]
  ·rw[if_neg h,List.getD_eq_getElem?_getD,List.getElem?_set]
   by_cases he:a.toNat=j
   ·rw[if_pos he,if_pos (by omega),if_pos (by rw[List.mem_cons];exact .inl (by omega))]
    rfl
   ·rw[if_neg he,if_neg (by rw[List.mem_cons];rintro (h1|h1);exact he (by omega);exact h h1),←List.getD_eq_getElem?_getD]
theorem after_eq (hp:atomsOk p)(ha:Agr n v f)(hr:∀r,r∈p.rules.l→ruleOk r)(hh:headsIn p)(hpn:p.atoms.toNat=n)(hb:nextB p f=true):Agr n (afterR v (stpK (nextS p f))) (afterV f (nextS p f)):=by
 have hat:=(next_atoms (v:=f) hp hr hh).1
 have h0:∀a,a∈(nextS p f).atoms→0≤a:=fun a h=>(hat a h).1
 have key:∀j,j<n→(afterR v (stpK (nextS p f))).getD j 0=afterV f (nextS p f) j∧(afterV f (nextS p f) j=sayR (stpK (nextS p f))∨afterV f (nextS p f) j=f j):=by
  intro j hj
  have e:(afterR v (stpK (nextS p f))).getD j 0=if (j:Int)∈(nextS p f).atoms then sayR (stpK (nextS p f)) else v.getD j 0:=afterL_get (by rw[ha.len];exact hj) h0
  rw[e,ha.get j hj]
  unfold afterV
  by_cases hs:(nextS p f).rule = -1
  ·have e1:sayR (stpK (nextS p f))=1:=if_pos hs
   rw[if_pos hs,e1]
   unfold falseV
   rw[setL_bit]
   by_cases hm:(j:Int)∈(nextS p f).atoms
   ·rw[if_pos hm,if_pos (List.any_eq_true.2 ⟨_,hm,by simp⟩)]
    exact⟨rfl,.inl rfl⟩
   ·rw[if_neg hm,if_neg (by
     rw[List.any_eq_true]
     rintro ⟨a,h1,h2⟩
     rw[beq_iff_eq] at h2
     have:=h0 a h1
     exact hm (by rw[show(j:Int)=a by omega];exact h1))]
    exact⟨rfl,.inr rfl⟩
  ·have e1:sayR (stpK (nextS p f))=2:=if_neg hs
   have hf:0≤findR p f:=by
    by_cases h:0≤findR p f
    ·exact h
    ·exact absurd (next_unf hp h hb).1 (fun e=>hs (by rw[e]))
   have hn:nextS p f=⟨findR p f,[(p.rules.l.getD (findR p f).toNat default).head]⟩:=if_pos hf
   rw[if_neg hs,e1]
   have h1:=h0 (p.rules.l.getD (findR p f).toNat default).head (by rw[hn];exact List.mem_cons_self)
   rw[hn]
   unfold setAt
   show(if (j:Int)∈[(p.rules.l.getD (findR p f).toNat default).head] then 2 else f j)=(if j=((p.rules.l.getD (findR p f).toNat default).head).toNat then 2 else f j)∧_
   by_cases hm:j=((p.rules.l.getD (findR p f).toNat default).head).toNat
   ·rw[if_pos (by rw[List.mem_singleton];omega)]
    exact⟨(if_pos hm).symm,.inl (if_pos hm)⟩
   ·rw[if_neg (by rw[List.mem_singleton];omega)]
    exact⟨(if_neg hm).symm,.inr (if_neg hm)⟩
 refine⟨afterL_len.trans ha.len,fun j hj=>(key j hj).1,fun j hj=>?_⟩
 rcases(key j hj).2 with h|h
 ·rw[h]
  unfold sayR
  split
  ·exact .inl rfl
  ·exact .inr (.inl rfl)
 ·rw[h];exact ha.val j hj
theorem derN_eq (hp:atomsOk p)(hr:∀r,r∈p.rules.l→ruleOk r)(hrn:∀r,r∈p.rules.l→ruleN n r)(hh:headsIn p)(hpn:p.atoms.toNat=n):∀{k k':Nat} {v:List Int} {f:Nat→Int} {l:List Stp},Agr n v f→openL v<k→openN p f<k'→(derRN p k v l).1=(derN p k' f l).1∧Agr n (derRN p k v l).2 (derN p k' f l).2
 |0,_,_,_,_,_,h,_=>absurd h (Nat.not_lt_zero _)
 |_+1,0,_,_,_,_,_,h=>absurd h (Nat.not_lt_zero _)
 |k+1,k'+1,v,f,l,ha,h1,h2=>by
  obtain⟨e1,e2⟩:=next_eq hpn hp ha hr hrn
  show(if nextRB v p then derRN p k (afterR v (stpK (nextR v p))) (l++[nextR v p]) else(l,v)).1=(if nextB p f then derN p k' (afterV f (nextS p f)) (l++[nextS p f]) else(l,f)).1∧Agr n (if nextRB v p then derRN p k (afterR v (stpK (nextR v p))) (l++[nextR v p]) else(l,v)).2 (if nextB p f then derN p k' (afterV f (nextS p f)) (l++[nextS p f]) else(l,f)).2
  cases hb:nextB p f with
  |false=>
   rw[e2,hb]
   exact⟨rfl,ha⟩
  |true=>
   have l1:=nextR_lt (v:=v) (p:=p) (by rw[ha.len];exact hrn) (e2.trans hb)
   have l2:=next_lt hp hr hh hb
   rw[e2,hb,if_pos rfl,if_pos rfl,e1]
   rw[e1] at l1
   exact derN_eq hp hr hrn hh hpn (after_eq hp ha hr hh hpn hb) (by omega) (by omega)
theorem der_eq (hp:atomsOk p)(hr:∀r,r∈p.rules.l→ruleOk r)(hrn:∀r,r∈p.rules.l→ruleN n r)(hh:headsIn p)(hpn:p.atoms.toNat=n):(derR p n).1=(derP p).1∧Agr n (derR p n).2 (derP p).2:=by
 refine derN_eq hp hr hrn hh hpn ⟨List.length_replicate,fun j hj=>?_,fun j hj=>.inr (.inr rfl)⟩ ?_ ?_
 ·rw[List.getD_eq_getElem?_getD,List.getElem?_replicate_of_lt hj]
  rfl
 ·refine Nat.lt_succ_of_le ?_
  have:openL (List.replicate n 3)≤(List.replicate n (3:Int)).length:=List.count_le_length
  rw[List.length_replicate] at this
  exact this
 ·have:=open_le p (fun _=>3)
  have:=hp.2
  omega
theorem vals_eq (hpn:p.atoms.toNat=n)(ha:Agr n v f):v=(valsK p f).l:=by
 refine ext_getD 0 (by rw[ha.len,vals_len,hpn]) (fun j hj=>?_)
 rw[ha.len] at hj
 rw[ha.get j hj,vals_get (by rw[hpn];exact hj)]
end
end Go.Avm.Pack
namespace Go.Avm.Pack
open Go Go.Avm Go.Proofs
open Go.IntKind (i64 u64)
open Go.Avm.AV (int bool any fz fp sl ow ref fn ifc val agg tup)
open Go.Avm.AObj (cells dead)
open Go.Avm.Oc (ret)
set_option maxRecDepth 4000
def hgL (x:List Bool × Bool)(l:Lit):List Bool × Bool:=if x.1.getD l.atom.toNat false then x else(x.1.set l.atom.toNat true,true)
def hgU (x:List Bool × Bool)(r:Rule):List Bool × Bool:=if x.1.getD r.head.toNat false then r.body.l.foldl hgL x else x
def hgD (p:Prg)(s:List Bool):List Bool × Bool:=p.rules.l.foldl hgU (s,false)
def hgI (p:Prg):Nat→List Bool→List Bool
 |0,s=>s
 |k+1,s=>if (hgD p s).2 then hgI p k (hgD p s).1 else s
def hgR (p:Prg)(n a:Nat):List Bool:=hgI p (n+1) ((List.replicate n false).set a true)
def cntF (s:List Bool):Nat:=s.count false
structure HgS (x y:List Bool × Bool):Prop where
 len:y.1.length=x.1.length
 up:∀k,x.1.getD k false=true→y.1.getD k false=true
 ch:x.2=true→y.2=true
 cnt:cntF y.1≤cntF x.1
 less:y.2=true→x.2=false→cntF y.1<cntF x.1
 same:y.2=false→y.1=x.1
structure HgOk (p:Prg)(n a:Nat)(x:List Bool × Bool):Prop where
 len:x.1.length=n
 go:x.2=true→∃f,cntF x.1<f∧hgI p f x.1=hgR p n a
 stop:x.2=false→x.1=hgR p n a
end Go.Avm.Pack
namespace Go.Avm.Pack
open Go Go.Avm Go.Proofs
open Go.IntKind (i64 u64)
open Go.Avm.AV (int bool any fz fp sl ow ref fn ifc val agg tup)
open Go.Avm.AObj (cells dead)
open Go.Avm.Oc (ret)
set_option maxRecDepth 4000
end Go.Avm.Pack
namespace Go.Avm.Pack
open Go Go.Avm Go.Proofs
open Go.IntKind (i64 u64)
open Go.Avm.AV (int bool any fz fp sl ow ref fn ifc val agg tup)
open Go.Avm.AObj (cells dead)
open Go.Avm.Oc (ret)
set_option maxRecDepth 4000
end Go.Avm.Pack
namespace Go.Avm.Pack
open Go Go.Avm Go.Proofs
open Go.IntKind (i64 u64)
open Go.Avm.AV (int bool any fz fp sl ow ref fn ifc val agg tup)
open Go.Avm.AObj (cells dead)
open Go.Avm.Oc (ret)
set_option maxRecDepth 4000
end Go.Avm.Pack
namespace Go.Avm.Pack
open Go Go.Avm Go.Proofs Go.RowKit Go.Shelf
attribute [local go_sem] Oper.semAt_some
theorem members_raw2 (n:Nat)(hn:1≤n)(l s:Nat)(hs:s<2^24)(A:Addr)(FM:Mem)(ht:Tabs gsT FM)(J:Nat→World→Prop)(E:Ending→World→Prop)(K:Nat)
  (hJ:∀k W,J k W→W.cell? A=some (.int .u64 (Tb.cutN s k))∧W.frozen? A=false∧(∀b o,FM b=some o→W.heap[b]? = some o))
  (hJg:∀k W W',J k W→W.grownBy W' none→J k W')
  (hY:∀k W,k<K→k<(memS s).length→J k W→YieldAt Fence.wide (n-1) Tryd.prog l #[.int .i64 ((memS s).getD k 0)] W fun e W'=>e=.returned (.bool true)∧W'.cell? A=some (.int .u64 (Tb.cutN s k))∧W'.frozen? A=false∧J (k+1) (W'.setCell A (.int .u64 (Tb.cutN s (k+1)))))
  (hE:∀W,K<(memS s).length→J K W→YieldAt Fence.wide (n-1) Tryd.prog l #[.int .i64 ((memS s).getD K 0)] W fun e W'=>(e=.returned (.bool false)∨∃ch,e=.panicked ch)∧E e W')
  (W:World) (h0:J 0 W) :
  CallsIn Fence.wide n Tryd.prog 105 #[.func (.yield l) #[] #[],.pointer (some A)] W fun e W'=>((memS s).length≤K∧(∃v,e=.returned v)∧J (memS s).length W')∨(K<(memS s).length∧(((∃v,e=.returned v)∧E (.returned (.bool false)) W')∨∃ch,e=.panicked ch∧E (.panicked ch) W')):=by
 refine callsIn_of_wp Tryd.func105 rfl trivial ?_ rfl
 simp only[Tryd.ntmps105,List.size_toArray,List.length_cons,List.length_nil,Nat.reduceAdd,Nat.reduceSub,Array.replicate_succ,Array.replicate_zero,List.push_toArray,List.append_toArray,List.nil_append,List.cons_append]
 gi_wp2
 gi_loopw [] (fun wr=>∃k,k≤(memS s).length∧k≤K∧J k wr) (fun wr=>match wr.cell? A with|some (.int _ v)=>v.toNat|_=>0)
 case atStart=>exact⟨0,Nat.zero_le _,Nat.zero_le _,h0⟩
 case round=>
  obtain⟨k,hk,hkK,hJk⟩:=hrel
  obtain⟨hc,hf,hFM⟩:=hJ k wr hJk
  have hlt:=Tb.cutN_lt hs k
  rcases Nat.lt_or_ge k (memS s).length with hkl|hkl
  ·obtain⟨m,hm⟩:=Tb.cutN_in hs hkl
   have k1:0<Tb.cutN s k:=by
    rw[hm]
    exact Nat.mul_pos (Nat.pow_pos (by decide)) (by omega)
   have k2:=lowS_of hm hlt
   clear hm
   have hz:¬((Tb.cutN s k:Nat):Int)=0:=by omega
   have htz:=fun m=>tz_calls m (Tb.cutN s k) k1 hlt wr FM hFM ht
   rcases Nat.lt_or_ge k K with hlK|hgK
   ·have hYk:=fun W=>hY k W hlK hkl
    obtain⟨x,hx⟩:∃x,(memS s).getD k 0=x:=⟨_,rfl⟩
    rw[hx] at k2
    simp only[hx] at hYk
    simp only[k2] at htz
    gi_wp2
    refine⟨trivial,(htz _).mono ?_⟩
    rintro e w' ⟨rfl,hg⟩
    have hJ':=hJg k wr w' hJk hg
    obtain⟨hc',hf',hFM'⟩:=hJ k w' hJ'
    obtain⟨fn,tmps,assign,body,hy,hR⟩:=hYk w' hJ'
    dsimp only
    gi_wp2
    refine hR.mono ?_
    rintro e W3 ⟨rfl,hc3,hf3,hJ3⟩
    dsimp only
    gi_wp2
    have hb:bits .and .u64 ((Tb.cutN s k:Nat):Int) (((Tb.cutN s k:Nat):Int)-1)=((Tb.cutN s (k+1):Nat):Int):=and_bits _ hlt k1
    rw[hb]
    refine⟨⟨k+1,hkl,hlK,hJ3⟩,?_⟩
    rw[(hJ _ _ hJ3).1,hc]
    show((Tb.cutN s (k+1):Nat):Int).toNat<((Tb.cutN s k:Nat):Int).toNat
    have:Tb.cutN s (k+1)≤Tb.cutN s k-1:=Nat.and_le_right
    omega
   ·have hkK:K=k:=by omega
    subst hkK
    have hYk:=fun W=>hE W hkl
    obtain⟨x,hx⟩:∃x,(memS s).getD K 0=x:=⟨_,rfl⟩
    rw[hx] at k2
    simp only[hx] at hYk
    simp only[k2] at htz
    gi_wp2
    refine⟨trivial,(htz _).mono ?_⟩
    rintro e w' ⟨rfl,hg⟩
    have hJ':=hJg K wr w' hJk hg
    obtain⟨hc',hf',hFM'⟩:=hJ K w' hJ'
    obtain⟨fn,tmps,assign,body,hy,hR⟩:=hYk w' hJ'
    dsimp only
    gi_wp2
    refine hR.mono ?_
    rintro e W3 ⟨he,hE3⟩
    rcases he with rfl|⟨ch,rfl⟩
    ·dsimp only
     gi_wp2
     (try simp only[Exit.inBlock,Exit.then])
     refine bodyPost_ret (results_none rfl _ _ _) rfl ?_
     exact .inr ⟨hkl,.inl ⟨⟨_,rfl⟩,hE3⟩⟩
    ·exact⟨rfl,.inr ⟨hkl,.inr ⟨ch,rfl,hE3⟩⟩⟩
  ·have hz:((Tb.cutN s k:Nat):Int)=0:=by rw[show k=(memS s).length by omega,Tb.cutN_end hs];rfl
   have hkk:k=(memS s).length:=by omega
   subst hkk
   gi_wp2
   go_end0
   exact .inl ⟨hkK,⟨_,rfl⟩,hJk⟩
end Go.Avm.Pack
namespace Go.Avm.Pack
open Go Go.Avm Go.Proofs
open Go.IntKind (i64 u64)
open Go.Avm.AV (int bool any fz fp sl ow ref fn ifc val agg tup)
open Go.Avm.AObj (cells dead)
open Go.Avm.Oc (ret)
set_option maxRecDepth 4000
end Go.Avm.Pack
namespace Go.Avm.Pack
open Go Go.Avm Go.Proofs Go.RowKit Go.Shelf
section
variable {R:Res}
theorem wpA_rangeE [Tab LT R]{nt k0:Nat}{Q:AEx→St R.σ→Prop}{s:St R.σ}{t:Nat}{ps:Array Tmp}{assign body:Code}{fa fb:Nat→AV}{m S K:Nat}{H:List AObj}
  (hf:lk s.fr t=.fn 105 0 fa 1 fb) (hfb:fb 0=.ref m 0) (hS:S<2^24) (h0:s.hp=H++[.cells false 1 (fun _=>.int .u64 S)]) (hl:H.length=m)
  (hlive:allLive (H++[.cells false 1 (fun _=>.int .u64 S)])) (hBO:allBO m H) (hlen:1=ps.toList.length) (hlt:allLt ps.toList nt=true) (ts:List Nat) (hBf:allIn ts (fun t=>Below m (lk s.fr t)))
  (hround:∀k,k<K→k<(memS S).length→RoundB Tryd.prog R nt assign body none H s.g ⟨setPs ps.toList [.int .i64 (((memS S).getD k 0:Nat):Int)] (slotsOf ts s.fr),H,s.g⟩)
  (hlast:K<(memS S).length→∀l,wpA Tryd.prog R nt (m+1) (.inr l) assign (fun e s1=>e=.normal∧wpA Tryd.prog R nt s1.hp.length (.inr l) body (LastQ (fun e s3=>Q e ⟨s.fr,s3.hp,s3.g⟩)) s1) ⟨setPs ps.toList [.int .i64 (((memS S).getD K 0:Nat):Int)] s.fr,H++[.dead],s.g⟩)
  (hdone:(memS S).length≤K→Q .normal ⟨s.fr,H++[.dead],s.g⟩) :
  wpA Tryd.prog R nt k0 .top (.rangeFunc (.tmp t) ps assign body) Q s:=by
 intro C hC n a w ⟨FM,ρ,hs⟩
 refine wpIn_rangeFunc (fun fn hfn=>?_)
 obtain⟨D,hD⟩:∃D,D=w.heap.size:=⟨_,rfl⟩
 obtain⟨L,hL⟩:∃L,L=w.heap.size+1:=⟨_,rfl⟩
 have hne:D≠L:=by omega
 obtain⟨rec,hrec⟩:∃rec:LoopState→Option Code→Loop,rec=fun st pe=>{ state:=st,pending:=pe,fn,tmps:=a.tmps,params:=ps,assign,body,defers:=D }:=⟨_,rfl⟩
 obtain⟨W1,hW1⟩:∃W1,(w.alloc (.deferred (some []))).alloc (.loop (rec .ready none))=W1:=⟨_,rfl⟩
 have hL1:W1.heap[L]? = some (.loop (rec .ready none)):=by
  rw[←hW1,hL];have:=World.alloc_heap_new (w.alloc (.deferred (some []))) (.loop (rec .ready none));rwa [World.size_alloc] at this
 have hD1:W1.heap[D]? = some (.deferred (some [])):=by
  rw[←hW1,hD];exact(_root_.Go.RowKit.Below.heap_alloc _ _ _ (by simp)).trans (World.alloc_heap_new w _)
 have hsz1:W1.heap.size=w.heap.size+2:=by rw[←hW1];simp
 obtain⟨okA,goA⟩:=ok_other hs.ok (.deferred (some []))
 obtain⟨ok1,goB⟩:=ok_other okA (.loop (rec .ready none))
 have go1:=goA.trans goB
 rw[hW1] at ok1 go1
 obtain⟨o,ho⟩:∃o:AObj,o=.cells false 1 (fun _=>.int .u64 S):=⟨_,rfl⟩
 rw[←ho] at h0 hlive
 have hlen0:s.hp.length=m+1:=by rw[h0];simp[hl]
 have hρl:ρ.length=m+1:=by rw[hs.ok.rel.len,hlen0]
 obtain⟨pb,hpb⟩:∃pb,ρ[m]? = some pb:=⟨_,List.getElem?_eq_getElem (by omega)⟩
 obtain⟨ρ0,hρ0⟩:∃ρ0,ρ0=ρ.take m:=⟨_,rfl⟩
 have hsub0:Sub ρ0 ρ:=fun i p hi=>by
  rw[hρ0,List.getElem?_take] at hi
  split at hi
  ·exact hi
  ·cases hi
 have hlt0:∀{i p},ρ0[i]? = some p→i<m:=fun {i p} hi=>by
  rw[hρ0,List.getElem?_take] at hi
  split at hi
  ·assumption
  ·cases hi
 have hInB:∀b,InB ρ b↔InB ρ0 b∨InB [pb] b:=fun b=>by
  constructor
  ·rintro ⟨p,hp,hb,hre⟩
   obtain⟨i,hi⟩:=List.getElem?_of_mem hp
   have:i<m+1:=by rw[←hρl];exact(List.getElem?_eq_some_iff.1 hi).1
   rcases Nat.lt_or_ge i m with h|h
   ·exact .inl ⟨p,List.mem_of_getElem? (i:=i) (by rw[hρ0,List.getElem?_take,if_pos h];exact hi),hb,hre⟩
   ·have:i=m:=by omega
    subst this
    rw[hpb] at hi;cases hi
    exact .inr ⟨pb,by simp,hb,hre⟩
  ·rintro (⟨p,hp,hb,hre⟩|⟨p,hp,hb,hre⟩)
   ·obtain⟨i,hi⟩:=List.getElem?_of_mem hp
    exact⟨p,mem_of_get (hsub0 i p hi),hb,hre⟩
   ·have:p=pb:=by simpa using hp
    subst this
    exact⟨p,mem_of_get hpb,hb,hre⟩
 have hgo:∀i,i<m→getO s.hp i=getO H i:=fun i hi=>by rw[h0,getO_append_lt (by rw[hl];exact hi)]
 have hgm:getO s.hp m=o:=by rw[h0,getO_append_ge (by rw[hl];exact Nat.le_refl _),hl,Nat.sub_self];rfl
 have hlv:∀i,i<m+1→isLive (getO s.hp i)=true:=fun i hi=>by rw[h0];exact allLive_get hlive i (by simp[hl];omega)
 have rel0:∀W,HRel FM ρ s.hp W→HRel FM ρ0 H W:=fun W hr=>by
  refine⟨hr.fm,by rw[hρ0,List.length_take,hl,hρl];omega,fun i p hi=>?_,fun i j p q hi hj _ _ e=>hr.inj i j p q (hsub0 i p hi) (hsub0 j q hj) (hlv i (by have:=hlt0 hi;omega)) (hlv j (by have:=hlt0 hj;omega)) e⟩
  obtain⟨k1,k2⟩:=hr.obj i p (hsub0 i p hi)
  rw[hgo i (hlt0 hi)] at k2
  refine⟨k1,?_⟩
  rw[hρ0]
  exact objRel_cut k2 (allBO_get hBO i)
 have relI:∀W,HRel FM ρ s.hp W→HRel FM [pb] [o] W:=fun W hr=>by
  refine⟨hr.fm,rfl,fun i p hi=>?_,fun i j p q hi hj _ _ _=>?_⟩
  ·have e:i=0:=by
    have:=(List.getElem?_eq_some_iff.1 hi).1
    simpa using this
   subst e
   have hi:pb=p:=by simpa using hi
   subst hi
   obtain⟨k1,k2⟩:=hr.obj m pb hpb
   rw[hgm] at k2
   refine⟨k1,?_⟩
   have:=objRel_cut (k:=0) k2 (by rw[ho];exact fun _ _=>trivial)
   exact objRel_sub (fun i p hi=>by simp at hi) this
  ·have e1:=(List.getElem?_eq_some_iff.1 hi).1
   have e2:=(List.getElem?_eq_some_iff.1 hj).1
   simp at e1 e2
   omega
 have hdis:∀b,InB [pb] b→¬InB ρ0 b:=fun b ⟨p,hp,hb,hre⟩ ⟨q,hq,hb',hre'⟩=>by
  have:p=pb:=by simpa using hp
  subst this
  obtain⟨i,hi⟩:=List.getElem?_of_mem hq
  have:=hlt0 hi
  have:=hs.ok.rel.inj i m q p (hsub0 i q hi) hpb (hlv i (by omega)) (hlv m (by omega)) (by rw[hb,hb'])
  omega
 have nIn:∀X,w.heap.size≤X→¬InB ρ X:=fun X hX ⟨p,hp,hb,hre⟩=>by
  obtain⟨i,hi⟩:=List.getElem?_of_mem hp
  have:=(hs.ok.rel.obj i p hi).1 hre
  omega
 have nB:∀X,w.heap.size≤X→¬R.B s.g X:=fun X hX hb=>by have:=(hs.ok.bd X hb).1;omega
 have nF:∀X,w.heap.size≤X→FM X=none:=fun X hX=>by
  cases hx:FM X with
  |none=>rfl
  |some o=>have:=(Array.getElem?_eq_some_iff.1 (hs.ok.rel.fm X o hx)).1;omega
 have hev:Den FM ρ (.fn 105 0 fa 1 fb) (a.eval (.tmp t)):=by rw[←hf];exact hs.fr t
 obtain⟨xs,ys,hu,hxs,hys,hda,hdb⟩:=hev
 have hfr0:∀t,Den FM ρ0 (lk (slotsOf ts s.fr) t) (a.tmps.getD t undef):=slotsOf_den (fun t=>hs.fr t) (fun t ht=>allIn_mem hBf t ht) hρ0
 let u:Value:=.func (.yield L) #[] #[]
 let R2:Res:=absorb (loopR R D L rec) FM ρ0
 let G2:R2.σ:=((s.g,.ready,none),H)
 let box:Nat→AObj:=fun k=>.cells false 1 (fun _=>.int .u64 (Tb.cutN S k))
 have hbox0:box 0=o:=ho.symm
 have hpreal:pb.2.1+1≤pb.2.2∧FM pb.1=none:=by
  obtain⟨k1,k2⟩:=hs.ok.rel.obj m pb hpb
  rw[hgm,ho] at k2
  obtain⟨cs,e,b1,b2,b3,b4,b5,b6⟩:=k2 (by omega)
  exact⟨by omega,b6 rfl⟩
 have hpin:InB [pb] pb.1:=⟨pb,by simp,rfl,by omega⟩
 obtain⟨A,hA⟩:∃A:Addr,A=⟨pb.1,pb.2.1,none⟩:=⟨_,rfl⟩
 let J:Nat→World→Prop:=fun k W=>∃FMk,Ok R2 [box k] G2 FMk [pb] W∧Goes R s.g FM ρ w s.g FMk ρ W∧Goes R2 G2 FM [pb] W1 G2 FMk [pb] W
 have okI:Ok R2 [box 0] G2 FM [pb] W1:=by
  rw[hbox0]
  refine⟨relI W1 ok1.rel,⟨⟨rel0 W1 ok1.rel,⟨ok1.j,hD1,hL1,⟨nF D (by omega),nF L (by omega)⟩,nB D (by omega),nB L (by omega)⟩,fun b hb=>?_⟩,fun _ _ h=>h⟩,fun b hb=>⟨?_,fun hI=>?_⟩⟩
  ·rcases hb with hb|rfl|rfl
   ·exact⟨(ok1.bd b hb).1,fun h=>(ok1.bd b hb).2 ((hInB b).2 (.inl h))⟩
   ·exact⟨by omega,fun h=>nIn _ (by omega) ((hInB _).2 (.inl h))⟩
   ·exact⟨by omega,fun h=>nIn _ (by omega) ((hInB _).2 (.inl h))⟩
  ·rcases hb with(hb|rfl|rfl)|⟨p,hp,hb,hre⟩
   ·exact(ok1.bd b hb).1
   ·omega
   ·omega
   ·obtain⟨i,hi⟩:=List.getElem?_of_mem hp
    rw[←hb];exact(ok1.rel.obj i p (hsub0 i p hi)).1 hre
  ·rcases hb with(hb|rfl|rfl)|hb
   ·exact(ok1.bd b hb).2 ((hInB b).2 (.inr hI))
   ·exact nIn _ (by omega) ((hInB _).2 (.inr hI))
   ·exact nIn _ (by omega) ((hInB _).2 (.inr hI))
   ·exact hdis b hI hb
 have hB2:∀b,b<w.heap.size→R2.B G2 b→R.B s.g b∨InB ρ0 b:=fun b hlt hb=>by
  rcases hb with(hb|rfl|rfl)|hb
  ·exact .inl hb
  ·omega
  ·omega
  ·exact .inr hb
 -- a step of the iterator's, told of the whole
 have goR:∀{FMa FMb:Mem} {Wa Wb:World},Goes R s.g FM ρ w s.g FMa ρ Wa→Goes R2 G2 FMa [pb] Wa G2 FMb [pb] Wb→Goes R s.g FM ρ w s.g FMb ρ Wb:=fun {FMa FMb Wa Wb} h k=>by
  refine⟨⟨fun b o hb=>k.ext.fm b o (h.ext.fm b o hb),fun b o hb=>?_,fun b hb=>.inl hb,fun b h1 h2 h3=>?_,Nat.le_trans h.ext.size k.ext.size,k.ext.os.trans h.ext.os,k.ext.tape.trans h.ext.tape,k.ext.output.trans h.ext.output⟩,fun b hb=>.inl hb,Sub.refl _⟩
  ·rcases k.ext.grow b o hb with h1|h1|h1|h1
   ·exact h.ext.grow b o h1
   ·exact .inr (.inl (Nat.le_trans h.ext.size h1))
   ·exact .inr (.inr (.inl ((hInB b).2 (.inr h1))))
   ·rcases Nat.lt_or_ge b w.heap.size with hlt|hge
    ·rcases hB2 b hlt h1 with h2|h2
     ·exact .inr (.inr (.inr h2))
     ·exact .inr (.inr (.inl ((hInB b).2 (.inl h2))))
    ·exact .inr (.inl hge)
  ·refine(k.ext.keep b (Nat.lt_of_lt_of_le h1 h.ext.size) (fun hI=>h2 ((hInB b).2 (.inr hI))) (fun hb=>?_)).trans (h.ext.keep b h1 h2 h3)
   rcases hB2 b h1 hb with h4|h4
   ·exact h3 h4
   ·exact h2 ((hInB b).2 (.inl h4))
 have hJ:∀k W,J k W→W.cell? A=some (.int .u64 (Tb.cutN S k))∧W.frozen? A=false∧(∀b o,FM b=some o→W.heap[b]? = some o):=fun k W ⟨FMk,okk,_,_⟩=>by
  obtain⟨k1,k2⟩:=okk.rel.obj 0 pb rfl
  obtain⟨cs,e,b1,b2,b3,b4,_,b6⟩:=k2 (by omega)
  obtain⟨x,c1,c2,c3⟩:=b4 0 (by omega)
  have hx:x=.int .u64 (Tb.cutN S k):=c3
  subst hx
  refine⟨by rw[hA];simp only[World.cell?,b1];simpa using c1,by rw[hA];simp[World.frozen?,b1],fun b o hb=>okk.rel.fm b o (okk.j.2 b o hb)⟩
 have hJg:∀k W W',J k W→W.grownBy W' none→J k W':=fun k W W' ⟨FMk,okk,h1,h2⟩ hg=>
  let ⟨x1,x2⟩:=ok_grown okk hg
  ⟨FMk,x1,goR h1 x2,h2.trans x2⟩
 have hset:∀k W,(∃FMk,Ok R2 [box k] G2 FMk [pb] W∧Goes R s.g FM ρ w s.g FMk ρ W∧Goes R2 G2 FM [pb] W1 G2 FMk [pb] W)→J (k+1) (W.setCell A (.int .u64 (Tb.cutN S (k+1)))):=fun k W ⟨FMk,okk,h1,h2⟩=>by
  obtain⟨k1,k2⟩:=okk.rel.obj 0 pb rfl
  obtain⟨cs,e,b1,b2,b3,b4,_,b6⟩:=k2 (by omega)
  have hAb:A.block=pb.1:=by rw[hA]
  have hAb':(⟨pb.1,pb.2.1,none⟩:Addr).block=pb.1:=rfl
  have hF:FMk pb.1=none:=b6 rfl
  have keep:∀b,b≠pb.1→(W.setCell A (.int .u64 (Tb.cutN S (k+1)))).heap[b]? = W.heap[b]?:= fun b hb=>RowKit.Below.heap_setCell _ _ _ b (by rw[hAb];exact hb)
  have hsz:(W.setCell A (.int .u64 (Tb.cutN S (k+1)))).heap.size=W.heap.size:=by
   show(W.heap.modify _ _).size=_
   rw[Array.size_modify]
  have hnew:(W.setCell A (.int .u64 (Tb.cutN S (k+1)))).heap[pb.1]? = some (.cells (cs.setIfInBounds pb.2.1 (.int .u64 (Tb.cutN S (k+1)))) e (0,0)):=by
   show(W.heap.modify A.block _)[pb.1]? = _
   rw[hAb,Array.getElem?_modify,b1,hA]
   simp
  have hrel:HRel FMk [pb] [box (k+1)] (W.setCell A (.int .u64 (Tb.cutN S (k+1)))):=by
   refine⟨fun b o hb=>(keep b (fun e=>by rw[e,hF] at hb;cases hb)).trans (okk.rel.fm b o hb),rfl,fun i p hi=>?_,fun i j p q hi hj _ _ _=>?_⟩
   ·have e0:i=0:=by
     have:=(List.getElem?_eq_some_iff.1 hi).1
     simpa using this
    subst e0
    have hi:pb=p:=by simpa using hi
    subst hi
    refine⟨fun h=>by rw[hsz];exact k1 h,fun _=>⟨_,e,hnew,by rw[Array.size_setIfInBounds];exact b2,by rw[Array.size_setIfInBounds];exact b3,fun j hj=>?_,fun h=>(by cases h),fun _=>hF⟩⟩
    have:j=0:=by omega
    subst this
    refine⟨.int .u64 (Tb.cutN S (k+1)),?_,rfl,rfl⟩
    show(cs.setIfInBounds pb.2.1 _)[pb.2.1]? = _
    rw[Array.getElem?_setIfInBounds_self_of_lt (by omega)]
   ·have e1:=(List.getElem?_eq_some_iff.1 hi).1
    have e2:=(List.getElem?_eq_some_iff.1 hj).1
    simp at e1 e2
    omega
  obtain⟨x1,x2⟩:=own_step (hp':=[box (k+1)]) (ρ':=[pb]) (w':=W.setCell A (.int .u64 (Tb.cutN S (k+1)))) okk hrel ⟨fun _ _ h=>h,fun _ _ h=>.inl h,fun _ h=>.inl h,fun b _ h _=>keep b (fun e=>h (by rw[e];exact hpin)),Nat.le_of_eq hsz.symm,rfl,rfl,rfl⟩ (Sub.refl _)
  exact⟨FMk,x1,goR h1 x2,h2.trans x2⟩
 have hargI:∀(v:Nat) FMk (ρx:Plc),DenL FMk ρx [.int .i64 (v:Int)] #[.int .i64 (v:Int)]:=fun v FMk ρx=>⟨rfl,fun i hi=>by
  have:i=0:=by simpa using hi
  subst this
  rfl⟩
 have hY:∀k W,k<K→k<(memS S).length→J k W→YieldAt Fence.wide (2-1) Tryd.prog L #[.int .i64 (((memS S).getD k 0:Nat):Int)] W fun e W'=>e=.returned (.bool true)∧W'.cell? A=some (.int .u64 (Tb.cutN S k))∧W'.frozen? A=false∧J (k+1) (W'.setCell A (.int .u64 (Tb.cutN S (k+1)))):=by
  rintro k W hk hkN ⟨FMk,okk,h1,h2⟩
  have hv:=vdoes_yieldB (P:=Tryd.prog) (R:=R) (L:=L) hrec hs.size hfr0 hne (items:=[.int .i64 (((memS S).getD k 0:Nat):Int)]) hlen hlt (by exact⟨trivial,trivial⟩) (jmp:=none) (hp:=H) (hp':=H) (g:=s.g) (g':=s.g) rfl (hround k hk hkN) [box k]
  rcases hv.h with⟨f,_,_,he,_⟩|⟨l,he,hq⟩
  ·cases he
  ·cases he
   obtain⟨fn',tmps',assign',body',hr,hR⟩:=hq FMk [pb] W _ okk (hargI _ _ _)
   refine⟨fn',tmps',assign',body',hr,(hR .top _).mono ?_⟩
   rintro e W' ⟨FM',ρ',⟨v,rfl,hden⟩,okp,gop⟩
   obtain rfl:ρ'=[pb]:=by
    have hl1:ρ'.length=1:=okp.rel.len
    match ρ',hl1 with
    |[q],_=>
     have:=gop.sub 0 pb rfl
     cases this;rfl
   have hj:J k W':=⟨FM',okp,goR h1 gop,h2.trans gop⟩
   obtain⟨j1,j2,_⟩:=hJ k W' hj
   refine⟨by rw[show v=_ from hden];rfl,j1,j2,hset k W' hj⟩
 have okDead:∀{k FMk W},Ok R2 [box k] G2 FMk [pb] W→Goes R s.g FM ρ w s.g FMk ρ W→Ok R (H++[.dead]) s.g FMk ρ W∧W.heap[D]? = some (.deferred (some []))∧W.heap[L]? = some (.loop (rec .ready none))∧Nb R D s.g FMk ρ W∧Nb R L s.g FMk ρ W:=by
  intro k FMk W okk hg
  obtain⟨okL,hmono⟩:=okk.j
  obtain⟨jR,hD3,hL3,⟨fD,fL⟩,bD,bL⟩:=okL.j
  have okR:=ok_of_loopR okL
  have hgd:∀i,i<m→getO (H++[.dead]) i=getO H i:=fun i hi=>getO_append_lt (by rw[hl];exact hi)
  have hgdm:getO (H++[.dead]) m=.dead:=by rw[getO_append_ge (by rw[hl];exact Nat.le_refl _),hl,Nat.sub_self];rfl
  have hback:∀i p,ρ[i]? = some p→(i<m∧ρ0[i]? = some p)∨(i=m∧p=pb):=fun i p hi=>by
   have:i<m+1:=by rw[←hρl];exact(List.getElem?_eq_some_iff.1 hi).1
   rcases Nat.lt_or_ge i m with h|h
   ·exact .inl ⟨h,by rw[hρ0,List.getElem?_take,if_pos h];exact hi⟩
   ·have:i=m:=by omega
    subst this
    rw[hpb] at hi;cases hi
    exact .inr ⟨rfl,rfl⟩
  have hnl:∀i p,ρ[i]? = some p→isLive (getO (H++[.dead]) i)=true→i<m∧ρ0[i]? = some p:=fun i p hi hv=>by
   rcases hback i p hi with h|⟨rfl,rfl⟩
   ·exact h
   ·rw[hgdm] at hv;cases hv
  refine⟨⟨⟨okR.rel.fm,by rw[hρl];simp[hl],fun i p hi=>?_,fun i j p q hi hj hv1 hv2 e=>?_⟩,okR.j,fun b hb=>⟨(okR.bd b hb).1,fun hI=>?_⟩⟩,hD3,hL3,?_,?_⟩
  ·rcases hback i p hi with⟨h1,h2⟩|⟨rfl,rfl⟩
   ·obtain⟨k1,k2⟩:=okR.rel.obj i p h2
    rw[hgd i h1]
    exact⟨k1,objRel_sub hsub0 k2⟩
   ·rw[hgdm]
    refine⟨fun hre=>?_,trivial⟩
    have h1:=(hs.ok.rel.obj i p hi).1 hre
    have:=hg.ext.size
    omega
  ·obtain⟨a1,a2⟩:=hnl i p hi hv1
   obtain⟨b1,b2⟩:=hnl j q hj hv2
   rw[hgd i a1] at hv1
   rw[hgd j b1] at hv2
   exact okR.rel.inj i j p q a2 b2 hv1 hv2 e
  ·rcases(hInB b).1 hI with h|h
   ·exact(okR.bd b hb).2 h
   ·exact(okk.bd b (.inl (.inl hb))).2 h
  ·exact⟨(Array.getElem?_eq_some_iff.1 hD3).1,nIn D (by omega),bD,fD⟩
  ·exact⟨(Array.getElem?_eq_some_iff.1 hL3).1,nIn L (by omega),bL,fL⟩
 let C0:Cx R:=⟨s.g,FM,ρ,w,[],false⟩
 have hE:∀W,K<(memS S).length→J K W→YieldAt Fence.wide (2-1) Tryd.prog L #[.int .i64 (((memS S).getD K 0:Nat):Int)] W fun e W'=>(e=.returned (.bool false)∨∃ch,e=.panicked ch)∧LastE R C0 D L rec (fun e s3=>Q e ⟨s.fr,s3.hp,s3.g⟩) e W':=by
  rintro W hK ⟨FMk,okk,h1,h2⟩
  obtain⟨okd,hDW,hLW,nD,nL⟩:=okDead okk h1
  obtain⟨fn',tmps',assign',body',hr,hR⟩:=round_last (P:=Tryd.prog) (R:=R) hrec (C:=C0) (by show w.heap.size≤D;omega) (by show w.heap.size≤L;omega) hne okd h1 hDW hLW nD nL hs.size (fun t=>Den.mono h1.ext.fm _ (Sub.refl _) (hs.fr t)) (hargI ((memS S).getD K 0) FMk ρ) hlen hlt
   (Q:=fun e s3=>Q e ⟨s.fr,s3.hp,s3.g⟩) (by have:=hlast hK L;rw[show(H++[AObj.dead]).length=m+1 by simp[hl]];exact this)
  refine⟨fn',tmps',assign',body',hr,(hR .top _).mono ?_⟩
  intro e W' he
  have he':=he
  obtain⟨ex,j,s3,FM3,ρ3,e1,_⟩:=he'
  exact⟨.inl e1,he⟩
 have hargs:(xs++#[u])++ys=#[.func (.yield L) #[] #[],.pointer (some A)]:=by
  have hxs0:xs=#[]:=Array.size_eq_zero_iff.1 hxs
  have hd0:=hdb 0 (by omega)
  rw[hfb] at hd0
  obtain⟨p,hp1,hp2⟩:=hd0
  rw[hpb] at hp1;cases hp1
  subst hxs0
  have hy:ys=#[.pointer (some A)]:=by
   refine Array.ext (by simp[hys]) (fun i h1 h2=>?_)
   have:i=0:=by simp at h2;omega
   subst this
   rw[Array.getD_eq_getD_getElem?,Array.getElem?_eq_getElem h1] at hp2
   rw[hA]
   simpa using hp2
  rw[hy]
  rfl
 have hcalls:=callsIn_wide.1 (members_raw2 2 (by omega) L S hS A FM (Tab.h (T:=LT) hs.ok.j) J (LastE R C0 D L rec (fun e s3=>Q e ⟨s.fr,s3.hp,s3.g⟩)) K hJ hJg hY hE W1 ⟨FM,okI,go1,Goes.refl _ _ _ _ _⟩)
 have hpl:isPlain Tryd.prog 105=true:=by kernel_rfl
 have hfn':∃fn,Tryd.prog.funcs[105]? = some fn∧fn.name ≠ "runtime.NumGoroutine"∧fn.body.isSome=true:=by
  unfold isPlain at hpl
  split at hpl
  ·rename_i fn hfn
   simp only[Bool.and_eq_true,bne_iff_ne,ne_eq] at hpl
   exact⟨fn,hfn,hpl.1,hpl.2⟩
  ·cases hpl
 obtain⟨fnF,hF1,hF2,hF3⟩:=hfn'
 have hF3':¬fnF.body=none:=fun h=>by rw[h] at hF3;cases hF3
 refine⟨L,[markOf D],W1,{ target:=.fn (.func 105) ys,args:=xs++#[u] },W1,105,(xs++#[u])++ys,W1,?_,?_,fun _ _=>trivial,?_,fun h=>(by cases h),?_⟩
 ·rw[←hW1,hrec,hD,hL];exact run_enterLoop_outer _ _ _ _ _
 ·simp[resolve,hu,Deferred.ofValue,u]
  rfl
 ·simp[invoke,callFunc,hF1,hF2,hF3']
 rw[hargs]
 refine(callsIn_Fw hcalls).mono ?_
 have hsat:∀{hp3:List AObj} {g3:R.σ} {FM3:Mem} {ρ3:Plc} {W:World} (st:LoopState) (pe:Option Code),Ok R hp3 g3 FM3 ρ3 W→Goes R s.g FM ρ w g3 FM3 ρ3 W→W.heap[D]? = some (.deferred (some []))→Nb R D g3 FM3 ρ3 W→Nb R L g3 FM3 ρ3 W →
   Sat R C nt ⟨s.fr,hp3,g3⟩ FM3 ρ3 { a with defers:=[markOf D]++a.defers } (W.putObj L (.loop { rec st pe with state:=.exhausted })):=by
  intro hp3 g3 FM3 ρ3 W st pe ok3 go3 hD3 nD nL
  have go4:Goes R s.g FM ρ w g3 FM3 ρ3 (W.putObj L (.loop { rec st pe with state:=.exhausted })):=go3.put (by omega) _
  refine⟨ok_put _ nL.off nL.offB nL.nofm ok3,hs.goes.trans go4,hs.size,?_,fun t=>Den.mono go4.ext.fm _ go4.sub (hs.fr t)⟩
  obtain⟨ms,e1,e2,e3,e4⟩:=hs.defs
  refine⟨D::ms,by rw[e1];rfl,List.nodup_cons.2 ⟨fun hmem=>?_,e2⟩,fun h=>?_,fun X hX=>?_⟩
  ·have:=(Array.getElem?_eq_some_iff.1 (e4 D hmem).obj).1
   omega
  ·rw[hC.2] at h;cases h
  ·rcases List.mem_cons.1 hX with rfl|hX
   ·exact⟨(World.putObj_heap_other hne).trans hD3,nD.off,nD.offB,nD.nofm,by have:=hs.goes.ext.size;omega⟩
   ·exact(e4 X hX).goes go4
 rintro e w3 (⟨hNK,⟨v,rfl⟩,FMk,okk,h1,h2⟩|⟨hKN,⟨⟨v,rfl⟩,hL3⟩|⟨ch,rfl,hL3⟩⟩)
 ·obtain⟨okd,hD3,hL3,nD,nL⟩:=okDead okk h1
  have hend:=run_endLoop (P:=Tryd.prog) hL3 (by rw[hrec];intro h;cases h)
  obtain⟨p,w4,hend,hp,hw4⟩:∃p w4,(Instr.endLoop L).run Tryd.prog w3=.ok p w4∧p=none∧w4=w3.putObj L (.loop { rec .ready none with state:=.exhausted }):=⟨_,_,hend,by rw[hrec],rfl⟩
  subst hp
  have hs4:=hsat .ready none okd h1 hD3 nD nL
  rw[←hw4] at hs4
  exact⟨none,w4,hend,_,hdone hNK,FMk,ρ,hs4⟩
 ·obtain⟨ex,j,s3,FM3,ρ3,_,hj,hq,ok3,go3,hD3,hL3,nD,nL⟩:=hL3
  have hend:=run_endLoop (P:=Tryd.prog) hL3 (by rw[hrec];intro h;cases h)
  obtain⟨p,w4,hend,hp,hw4⟩:∃p w4,(Instr.endLoop L).run Tryd.prog w3=.ok p w4∧p=some j∧w4=w3.putObj L (.loop { rec .done (some j) with state:=.exhausted }):=⟨_,_,hend,by rw[hrec],rfl⟩
  subst hp
  have hs4:=hsat .done (some j) ok3 go3 hD3 nD nL
  rw[←hw4] at hs4
  refine⟨some j,w4,hend,?_⟩
  cases ex with
  |normal=>cases hj
  |pan v=>cases hj
  |ret=>cases hj;exact wpIn_ret ⟨_,hq,FM3,ρ3,hs4⟩
  |exit id=>cases hj;exact wpIn_exit ⟨_,hq,FM3,ρ3,hs4⟩
 ·obtain⟨_,_,_,_,_,he,_⟩:=hL3
  cases he
end
end Go.Avm.Pack
namespace Go.Avm.Pack
open Go Go.Avm Go.Proofs
open Go.IntKind (i64 u64)
open Go.Avm.AV (int bool any fz fp sl ow ref fn ifc val agg tup)
open Go.Avm.AObj (cells dead)
open Go.Avm.Oc (ret)
set_option maxRecDepth 4000
section
variable {R:Res}
def AssL (P:Program)(R:Res)(nt l:Nat)(b:Code)(q:List Nat)(Q:AEx→St R.σ→Prop):AEx→St R.σ→Prop
 |.normal,s=>Wp P R nt s.hp.length (.inr l) b q (LastQ Q) s
 |_,_=>False
theorem wp_rangeE [Tab LT R]{nt k0:Nat}{b:Code}{p:List Nat}{Q:AEx→St R.σ→Prop}{s:St R.σ}(t:Nat)(psl:List Nat)(m:Nat)(hrl:rangeAt t psl (sub b p)=true){fa fb:Nat→AV}(hf:lk s.fr t=.fn 105 0 fa 1 fb)(hfb:fb 0=.ref m 0)
  (S K:Nat) (hS:S<2^24) (H:List AObj) (h0:To R k0 s ⟨s.fr,H++[.cells false 1 (fun _=>.int .u64 S)],s.g⟩) (hl:H.length=m)
  (hlive:allLive (H++[.cells false 1 (fun _=>.int .u64 S)])) (hBO:allBO m H) (hlen:1=psl.length) (hlt:allLt psl nt=true) (ts:List Nat) (hBf:allIn ts (fun t=>Below m (lk s.fr t)))
  (hround:∀k l,k<K→k<(memS S).length→Wp Tryd.prog R nt m (.inr l) b (p++[0]) (AssB Tryd.prog R nt m l b (p++[1]) none H s.g) ⟨setPs psl [.int .i64 (((memS S).getD k 0:Nat):Int)] (slotsOf ts s.fr),H,s.g⟩)
  (hlast:K<(memS S).length→∀l,Wp Tryd.prog R nt (m+1) (.inr l) b (p++[0]) (AssL Tryd.prog R nt l b (p++[1]) (fun e s3=>Q e ⟨s.fr,s3.hp,s3.g⟩)) ⟨setPs psl [.int .i64 (((memS S).getD K 0:Nat):Int)] s.fr,H++[.dead],s.g⟩)
  (hdone:(memS S).length≤K→Q .normal ⟨s.fr,H++[.dead],s.g⟩) :
  Wp Tryd.prog R nt k0 .top b p Q s:=by
 obtain⟨ps,assign,body,hc,rfl⟩:∃ps assign body,sub b p=.rangeFunc (.tmp t) ps assign body∧ps.toList=psl:=by
  unfold rangeAt at hrl
  split at hrl
  ·rename_i u ps assign body hs
   simp only[Bool.and_eq_true] at hrl
   have:=Nat.eq_of_beq_eq_true hrl.1
   subst this
   exact⟨ps,assign,body,hs,eqPath_eq hrl.2⟩
  ·cases hrl
 have e0:sub b (p++[0])=assign:=by rw[sub_snoc,hc];exact sub_nil assign
 have e1:sub b (p++[1])=body:=by rw[sub_snoc,hc];exact sub_nil body
 refine⟨?_⟩
 rw[hc]
 refine wpA_to h0 (wpA_rangeE (s:=⟨s.fr,H++[.cells false 1 (fun _=>.int .u64 S)],s.g⟩) (K:=K) hf hfb hS rfl hl hlive hBO hlen hlt ts hBf (fun k hk hkN l=>?_) (fun hK l=>?_) hdone)
 ·have h1:=(hround k l hk hkN).h
  rw[e0] at h1
  rw[show(St.hp ⟨setPs ps.toList [.int .i64 (((memS S).getD k 0:Nat):Int)] (slotsOf ts s.fr),H,s.g⟩).length=m from hl]
  refine wpA_conseq h1 (fun e s' hq=>?_)
  cases e with
  |normal=>
   have h2:=(show Wp _ _ _ _ _ _ _ _ _ from hq).h
   rw[e1] at h2
   exact⟨rfl,h2⟩
  |exit id=>exact hq.elim
  |ret=>exact hq.elim
  |pan v=>exact hq.elim
 ·have h1:=(hlast hK l).h
  rw[e0] at h1
  refine wpA_conseq h1 (fun e s' hq=>?_)
  cases e with
  |normal=>
   have h2:=(show Wp _ _ _ _ _ _ _ _ _ from hq).h
   rw[e1] at h2
   exact⟨rfl,h2⟩
  |exit id=>exact hq.elim
  |ret=>exact hq.elim
  |pan v=>exact hq.elim
end
def outC (l:List Nat):Nat→AV:=fun k=>encI (setK (l.getD k 0))
theorem below_outC {k:Nat}(l:List Nat)(j:Nat):Below k (outC l j):=trivial
theorem ren_outC {f:Nat→Nat}(h:True){l:List Nat}{j:Nat}:renA f (outC l j)=outC l j:=rfl
theorem ord_cond {p:Prg}{left a:Nat}(hg:hgP p a<2^24)(hl:left<2^24):(IntKind.u64.wrap ((BitVec.ofInt 64 (IntKind.u64.wrap ((BitVec.ofInt 64 (hgP p a:Int)&&&BitVec.ofInt 64 (left:Int)).toNat:Int)) &&& ~~~ BitVec.ofInt 64 (withS p a:Int)).toNat:Int)==0)=ordOk p left a:=by
 rw[Tb.u64_and (lt64 hg) (lt64 hl),u64_minus (Nat.lt_of_le_of_lt Nat.and_le_right hl)]
 unfold ordOk
 rw[Bool.eq_iff_iff,beq_iff_eq,beq_iff_eq]
 omega
theorem hg_in {p:Prg}(hr:∀r,r∈p.rules.l→ruleOk r)(hx:∀r,r∈p.rules.l→∀l,l∈r.body.l→0≤l.atom∧l.atom<p.atoms){a c:Nat}(ha:a<24)(han:(a:Int)<p.atoms)(hc:c∈memS (hgP p a)):(c:Int)<p.atoms:=by
 obtain⟨m1,m2⟩:=Tb.mem_memN.1 hc
 rcases reach_in hx ((hg_iff hr ha).1 m2) with rfl|h
 ·exact han
 ·exact h
theorem out_append {L:List Nat}{w m c:Nat}{z:Nat→AV}{old:Nat→Nat→AV}(hm:m=L.length)(hold:∀i,i<m→old i 0=outC L i)(hc:c<(m+1)*1):outC (L++[w]) c=plainJ 1 m old (fun i j=>over z 0 1 (fun _=>encI (setK w)) (0+i*1+j)) c:=by
 unfold plainJ outC
 rw[List.getD_eq_getElem?_getD]
 by_cases h:c<m*1
 ·rw[if_pos h,show c/1=c by omega,show c%1=0 by omega,hold c (by omega),List.getElem?_append_left (by omega),←List.getD_eq_getElem?_getD]
  rfl
 ·rw[if_neg h,List.getElem?_append_right (by omega),show c-L.length=0 by omega]
  show _=over z 0 1 _ (0+(c-m*1)/1*1+(c-m*1)%1)
  rw[over_eq,if_pos (by omega)]
  rfl
theorem Le.ow_nil {get:Nat→Nat→AV}{s o es:Nat}:Le (.ow true o 0 es) (.fz .nil s 0 get):=by
 intro FM ρ v h
 obtain⟨a,rfl,ha⟩:=h.1 rfl
 obtain rfl:=ha rfl
 exact⟨fun _=>⟨rfl,none,0,rfl,rfl,rfl⟩,fun h=>(by cases h)⟩
theorem app1 {f z:Nat→AV}{a c:Nat}(hc:c<(a+1)*1):f c=plainJ 1 a (fun i j=>f (i*1+j)) (fun i j=>over z 0 1 (fun _=>f a) (0+i*1+j)) c:=by
 unfold plainJ
 by_cases h:c<a*1
 ·rw[if_pos h]
  show f c=f (c/1*1+c%1)
  rw[show c/1*1+c%1=c by omega]
 ·rw[if_neg h]
  show f c=over z 0 1 _ (0+(c-a*1)/1*1+(c-a*1)%1)
  rw[over_eq,if_pos (by omega),show c=a by omega]
structure OrdOk (p:Prg)(x:Nat × List Nat × Nat):Prop where
 num:x.1=x.2.1.length
 few:x.1+(memS x.2.2).length≤24
 lt:x.2.2<2^24
 at_:∀a,a∈memS x.2.2→a<p.atoms.toNat
 ord:∃f,(memS x.2.2).length<f∧x.2.1++ordF p f x.2.2=ordP p
theorem ord_next {p:Prg}(hr:∀r,r∈p.rules.l→ruleOk r){m left:Nat}{L:List Nat}(h:OrdOk p (m,L,left))(h0:left≠0):OrdOk p (m+1,L++[withS p (ordA p left)],minus left (withS p (ordA p left)))∧(memS (minus left (withS p (ordA p left)))).length<(memS left).length:=by
 obtain⟨o1,o2,o3,o4,f,f1,f2⟩:=h
 simp only at o1 o2 o3 o4 f1 f2
 have hlt:=ord_less hr o3 h0
 obtain⟨f,rfl⟩:∃k,f=k+1:=⟨f-1,by omega⟩
 refine⟨⟨?_,?_,Nat.lt_of_le_of_lt minus_le o3,fun a ha=>o4 a ?_,f,?_,?_⟩,hlt⟩
 ·show m+1=(L++[_]).length
  rw[List.length_append,o1]
  rfl
 ·show m+1+(memS (minus left (withS p (ordA p left)))).length≤24
  omega
 ·obtain⟨m1,m2⟩:=Tb.mem_memN.1 ha
  have m2:(minus left (withS p (ordA p left))).testBit a=true:=m2
  rw[minus_bit o3,Bool.and_eq_true] at m2
  exact Tb.mem_memN.2 ⟨m1,m2.1⟩
 ·show(memS (minus left _)).length<f
  omega
 ·rw[←f2]
  show(L++[_])++ordF p f _=L++(if left=0 then[] else _::ordF p f _)
  rw[if_neg h0,List.append_assoc]
  rfl
theorem ord_start {p:Prg}(hp:1≤p.atoms∧p.atoms≤24):OrdOk p (0,[],2^p.atoms.toNat-1):=by
 have hb:∀j,(2^p.atoms.toNat-1).testBit j=decide (j<p.atoms.toNat):=fun j=>Nat.testBit_two_pow_sub_one _ _
 refine⟨rfl,?_,?_,fun a ha=>?_,25,?_,rfl⟩
 ·have:=memS_le (2^p.atoms.toNat-1)
  show 0+(memS (2^p.atoms.toNat-1)).length≤24
  omega
 ·have:2^p.atoms.toNat≤2^24:=Nat.pow_le_pow_right (by decide) (by omega)
  have:0<2^p.atoms.toNat:=Nat.pow_pos (by decide)
  show 2^p.atoms.toNat-1<2^24
  omega
 ·have h:=(Tb.mem_memN.1 ha).2
  have h:(2^p.atoms.toNat-1).testBit a=true:=h
  rw[hb,decide_eq_true_eq] at h
  exact h
 ·have:=memS_le (2^p.atoms.toNat-1)
  show(memS (2^p.atoms.toNat-1)).length<25
  omega
theorem c_Order (R:Res)[Tab LT R](p:Prg)(hb:prgB p=true)(g:R.σ):Does Tryd.prog R 31 [encPrg p] [] g (.ret (.tup 2 (nth [encLs (ordP p).length (fun i=>setK ((ordP p).getD i 0)),.int .i64 0]))) [] g:=by
 have hroom:maxRoom=140737488355328:=rfl
 obtain⟨hl,hr,hp,hh,hx⟩:=prg_ok hb
 have hs:small p:=prg_small hb
 have hp':1≤p.atoms∧p.atoms≤24:=hp
 refine spec_of_wp (nt:=57) (rs:=[.tmp 2,.tmp 3]) (k0:=0) (by kernel_rfl) (by kernel_rfl) (by kernel_rfl) rfl ?_
 have hc:((if prgB p then(0:Int) else 2) != 0)=false:=by rw[hb];rfl
 refine vcQ [[1,0,0,1,0]] (lkL [(0,[1]),(1,[1,13]),(3,[1,4]),(4,[1,4,15,16])]) (lkL [(1,[(1,ROrc.pcall (int i64 (if prgB p=true then 0 else 2)))])]) (fun Q=>(fun (u1:Int)=>(fun (u2:AObj)=>2≤2∧(∀(hp:List AObj) (g:R.σ),true=true∧Does Tryd.prog R 16 [encPrg p] hp g (ret (int i64 u1)) hp g)∧((u1 != 0)=true→Wp Tryd.prog R 57 0 Rd.top (bodyOf Tryd.prog 31) [1,0,0,1,0] (contQ Tryd.prog R 57 0 Rd.top (bodyOf Tryd.prog 31) Q [Kont.seq [1,0,1]]) (St.mk [(1,ref 0 0),(13,AV.bool (u1 != 0))] [u2] g))∧((u1 != 0)=false→1≤2∧Wp Tryd.prog R 57 0 Rd.top (bodyOf Tryd.prog 31) [1,0,1,1,0,1,0] (contQ Tryd.prog R 57 0 Rd.top (bodyOf Tryd.prog 31) Q [Kont.blk 0,Kont.seq [1,0,1,1,1]]) (St.mk [(1,ref 0 0),(4,ref 1 0),(15,int i64 p.atoms),(16,int i64 0)] [u2,cells false 1 fun (a:Nat)=>fz Fz.nil 0 0 fun _ _=>any] g))) (cells false 2 (nth [int i64 p.atoms,encRules p.rules]))) (if prgB p=true then 0 else 2)) (fun _=>by kernel_rfl) ⟨by omega,(fun _ _=>⟨rfl,(c_Check _ _ _ _ (by omega))⟩),fun hcc=>(nomatch (hc.symm.trans hcc)),fun _=>⟨by omega,?_⟩⟩
 refine wp_to (to_ghosts (fun _=>.any) 1) ?_
 refine wp_to (to_le (s':=⟨[(1,.ref 0 0),(4,.ref 1 0),(15,.int .i64 p.atoms),(16,.int .i64 0)],[.cells false 2 (nth [.int .i64 p.atoms,encRules p.rules]),.cells false 1 (fun _=>.ow true 2 0 1),.cells false (0*1) (onC p)],g⟩) ?_ ?_ rfl) ?_
 ·exact⟨Le.refl _,Le.refl _,Le.refl _,Le.refl _,trivial⟩
 ·exact⟨LeO.refl _,⟨rfl,Nat.le_refl _,fun _ _=>Le.nil_ow⟩,⟨rfl,Nat.le_refl _,fun j hj=>absurd hj (by omega)⟩,trivial⟩
 refine(wp_loop (by kernel_rfl) (fun (a:Nat)=>⟨[(1,ref 0 0),(4,ref 1 0),(15,int i64 p.atoms),(16,.int .i64 a)],[.cells false 2 (nth [.int .i64 p.atoms,encRules p.rules]),.cells false 1 (fun _=>.ow true 2 a 1),.cells false (a*1) (onC p)],g⟩) (fun (a:Nat)=>(a≤p.atoms.toNat)) (fun (a:Nat)=>(p.atoms.toNat-a)) 0 (to_fr ⟨Le.refl _,Le.refl _,Le.refl _,(Le.of_eq (by kernel_rfl)),trivial⟩ rfl rfl) ?_ (fun a hi=>?_))
 ·exact Nat.zero_le _
 ·refine vcQ [] (lkL [(5,[1,4,15,16,17]),(6,[1,4,5,15,16]),(7,[1,4,15,16]),(8,[1,4,15,16])]) (lkL [(7,[(3,ROrc.pcall (int u64 (↑(hgP p ((a:Int).toNat)):Int))),(5,ROrc.val (Orc.obj (onC p))),(6,ROrc.val (Orc.obj (nth [ow true 4 (a+1) 1])))])]) (fun Q=>(fun (u1:Int)=>(fun (u2:AV)=>(fun (u3:AObj)=>(decide (u1<p.atoms)=true→Tables.follows Tryd.prog.toTables Departure.mixedOrders=true∧1≤1∧2≤2∧(∀(hp:List AObj) (g:R.σ),true=true∧Does Tryd.prog R 70 [encPrg p,int i64 u1] hp g (ret u2) hp g)∧0<1∧(a+1)*8≤maxRoom∧a+1≤maxRoom∧1≤1∧a*1≤a*1∧(∀(c:Nat),c<(a+1)*1→int u64 (↑(hgP p c):Int)=plainJ 1 a (fun (i j:Nat)=>int u64 (↑(hgP p (i*1+j)):Int)) (fun (i j:Nat)=>over (fun (j:Nat)=>int u64 0) 0 1 (fun (x:Nat)=>u2) (0+i*1+j)) c)∧1≤1∧(∀(c:Nat),c<1→nth [ow true 4 (a+1) 1] c=over (fun (x:Nat)=>ow true 2 a 1) 0 1 (fun (x:Nat)=>ow true 4 (a+1) 1) c)∧(-9223372036854775808≤u1+1∧u1+1≤9223372036854775807)∧Q AEx.normal (St.mk [(1,ref 0 0),(4,ref 1 0),(15,int i64 p.atoms),(16,int i64 (u1+1))] [u3,cells false 1 (nth [ow true 4 (a+1) 1]),dead,cells false 1 (over (fun (j:Nat)=>int u64 0) 0 1 fun (x:Nat)=>u2),cells false ((a+1)*1) fun (a:Nat)=>int u64 (↑(hgP p a):Int)] g))∧(decide (u1<p.atoms)=false→Q (AEx.exit 0) (St.mk [(1,ref 0 0),(4,ref 1 0),(15,int i64 p.atoms),(16,int i64 u1),(17,AV.bool (decide (u1<p.atoms)))] [u3,cells false 1 fun (x:Nat)=>ow true 2 a 1,cells false (a*1) fun (a:Nat)=>int u64 (↑(hgP p a):Int)] g))) (cells false 2 (nth [int i64 p.atoms,encRules p.rules]))) (int u64 (↑(hgP p a):Int))) ((a:Int))) (fun _=>by kernel_rfl) ⟨fun c1=>have c1:(a:Int)<p.atoms:=(of_decide_eq_true c1);⟨by kernel_rfl,by omega,by omega,(fun _ _=>⟨rfl,(c_hangs _ _ _ (by omega) (by omega) (by simp at * <;> omega) _ _)⟩),by omega,by omega,by omega,by omega,by omega,?_,by omega,(fun c hc=>match c,hc with|0,_=>(by kernel_rfl) ),by omega,?_⟩,fun c1=>have c1:¬(a:Int)<p.atoms:=(of_decide_eq_false c1);?_⟩
  ·exact fun c hc=>(app1 (f:=onC p) (z:=fun _=>.int .u64 0) hc).trans (by kernel_rfl)
  ·refine(next_round (a+1) (to_sel [0,1,4] 5 rfl rfl rfl rfl rfl ⟨Le.refl _,Le.refl _,Le.refl _,Le.refl _,trivial⟩ ⟨⟨rfl,Nat.le_refl _,fun j hj=>match j,hj with|0,_=>(Le.refl _)|1,_=>(Le.refl _) ⟩,⟨rfl,Nat.le_refl _,fun j hj=>match j,hj with|0,_=>(Le.refl _) ⟩,?_,trivial⟩) ?_ ?_)
   ·exact⟨rfl,Nat.le_refl _,fun j _=>Le.of_eq rfl⟩
   ·omega
   ·omega
  ·have ha:a=p.atoms.toNat:=by omega
   subst ha
   have hA:=fun (R:Res) (hp:List AObj) (g:R.σ)=>c_all R p.atoms.toNat (by omega) hp g
   rw[show((p.atoms.toNat:Nat):Int)=p.atoms by omega] at hA
   obtain⟨left0,hleft0⟩:∃l,2^p.atoms.toNat-1=l:=⟨_,rfl⟩
   simp only[hleft0] at hA
   obtain⟨n,hn⟩:∃n,p.atoms.toNat=n:=⟨_,rfl⟩
   rw[hn]
   refine⟨_,To.refl _,vcQ [] (lkL [(9,[1,4,6]),(10,[1,4,6,7]),(11,[4,6,7,8])]) (lkL [(9,[(2,ROrc.val (Orc.obj (nth [fn 82 0 (nth []) 1 (nth [ref 1 0])])))]),(11,[(2,ROrc.pcall (int u64 (left0:Int))),(4,ROrc.val (Orc.obj (nth [int u64 (left0:Int)])))])]) (fun Q=>(fun (u1:AV)=>(fun (u2:AV)=>1≤1∧(∀(c:Nat),c<1→nth [u2] c=over (fun (a:Nat)=>AV.nilf) 0 1 (fun (x:Nat)=>u2) c)∧1≤2∧(∀(hp:List AObj) (g:R.σ),true=true∧Does Tryd.prog R 83 [int i64 p.atoms] hp g (ret u1) hp g)∧1≤1∧(∀(c:Nat),c<1→nth [u1] c=over (fun (a:Nat)=>int u64 0) 0 1 (fun (x:Nat)=>u1) c)∧Wp Tryd.prog R 57 0 Rd.top (bodyOf Tryd.prog 31) [1,0,1,1,1,1,1,1,1,0,0] (contQ Tryd.prog R 57 0 Rd.top (bodyOf Tryd.prog 31) Q [Kont.blk 2,Kont.seq [1,0,1,1,1,1,1,1,1,1]]) (St.mk [(4,ref 1 0),(6,ref 3 0),(7,ref 4 0),(8,ref 5 0)] [cells false 2 (nth [int i64 p.atoms,encRules p.rules]),cells false 1 fun (x:Nat)=>ow true 2 n 1,cells false (n*1) fun (a:Nat)=>int u64 (↑(hgP p a):Int),cells false 1 (nth [u2]),cells false 1 fun (a:Nat)=>fz Fz.nil 0 0 fun _ _=>any,cells false 1 (nth [u1])] g)) (fn 82 0 (nth []) 1 (nth [ref 1 0]))) (int u64 (left0:Int))) (fun _=>by kernel_rfl) ⟨by omega,(fun c hc=>match c,hc with|0,_=>(by kernel_rfl) ),by omega,(fun _ _=>⟨rfl,(hA _ _ _)⟩),by omega,(fun c hc=>match c,hc with|0,_=>(by kernel_rfl) ),?_⟩⟩
   refine wp_to (to_ghosts (fun _=>.any) 1) ?_
   refine wp_to (to_le (s':=⟨[(4,.ref 1 0),(6,.ref 3 0),(7,.ref 4 0),(8,.ref 5 0)],[.cells false 2 (nth [.int .i64 p.atoms,encRules p.rules]),.cells false 1 (fun _=>.ow true 2 n 1),.cells false (n*1) (onC p),.cells false 1 (fun _=>.fn 82 0 (nth []) 1 (nth [.ref 1 0])),.cells false 1 (fun _=>.ow true 6 0 1),.cells false 1 (fun _=>.int .u64 left0),.cells false (0*1) (outC [])],g⟩) ?_ ?_ rfl) ?_
   ·exact⟨Le.refl _,Le.refl _,Le.refl _,Le.refl _,trivial⟩
   ·exact⟨LeO.refl _,LeO.refl _,LeO.refl _,⟨rfl,Nat.le_refl _,fun j hj=>match j,hj with|0,_=>Le.refl _⟩,⟨rfl,Nat.le_refl _,fun _ _=>Le.nil_ow⟩,⟨rfl,Nat.le_refl _,fun j hj=>match j,hj with|0,_=>Le.refl _⟩,⟨rfl,Nat.le_refl _,fun j hj=>absurd hj (by omega)⟩,trivial⟩
   refine(wp_loop (by kernel_rfl) (fun (x:Nat × List Nat × Nat)=>⟨[(4,ref 1 0),(6,ref 3 0),(7,ref 4 0),(8,ref 5 0)],[.cells false 2 (nth [.int .i64 p.atoms,encRules p.rules]),.cells false 1 (fun _=>.ow true 2 n 1),.cells false (n*1) (onC p),.cells false 1 (fun _=>.fn 82 0 (nth []) 1 (nth [.ref 1 0])),.cells false 1 (fun _=>.ow true 6 x.1 1),.cells false 1 (fun _=>.int .u64 x.2.2),.cells false (x.1*1) (outC x.2.1)],g⟩) (fun (x:Nat × List Nat × Nat)=>(OrdOk p x)) (fun (x:Nat × List Nat × Nat)=>((memS x.2.2).length)) (0,[],left0) (to_fr ⟨Le.refl _,Le.refl _,Le.refl _,Le.refl _,trivial⟩ rfl rfl) ?_ (fun x hi=>?_))
   ·rw[←hleft0]
    exact ord_start hp'
   ·obtain⟨m,L,left⟩:=x
    have hok:=hi
    obtain⟨o1,o2,o3,o4,o5⟩:=hi
    simp only at o1 o2 o3 o4 o5
    have hat:0<n:=by omega
    refine vcQ [] (lkL [(12,[4,6,7,8,31]),(13,[4,6,7,8,33])]) (lkL [(13,[(1,ROrc.call (fn 105 0 (nth []) 1 (nth [ref (List.length [cells false 2 (nth [int i64 p.atoms,encRules p.rules]),cells false 1 fun (x:Nat)=>ow true 2 n 1,cells false (n*1) fun (a:Nat)=>int u64 (↑(hgP p a):Int),cells false 1 fun (x:Nat)=>fn 82 0 (nth []) 1 (nth [ref 1 0]),cells false 1 fun (x:Nat)=>ow true 6 m 1,cells false 1 fun (x:Nat)=>int u64 (left:Int),cells false (m*1) fun (a:Nat)=>fz Fz.auto 1 ((setK (L.getD a 0)).l.length) fun (i x:Nat)=>intC (setK (L.getD a 0)).l i]) 0])) ([cells false 2 (nth [int i64 p.atoms,encRules p.rules]),cells false 1 fun (x:Nat)=>ow true 2 n 1,cells false (n*1) fun (a:Nat)=>int u64 (↑(hgP p a):Int),cells false 1 fun (x:Nat)=>fn 82 0 (nth []) 1 (nth [ref 1 0]),cells false 1 fun (x:Nat)=>ow true 6 m 1,cells false 1 fun (x:Nat)=>int u64 (left:Int),cells false (m*1) fun (a:Nat)=>fz Fz.auto 1 ((setK (L.getD a 0)).l.length) fun (i x:Nat)=>intC (setK (L.getD a 0)).l i]++[cells false 1 fun (x:Nat)=>int u64 (left:Int)]) g)])]) (fun Q=>(fun (u1:List AObj)=>(fun (u2:List AObj)=>1≤1∧(((left:Int) != 0)=true→1≤1∧(true=true∧Does Tryd.prog R 77 [int u64 (left:Int)] u2 g (ret (fn 105 0 (nth []) 1 (nth [ref 7 0]))) u1 g)∧Wp Tryd.prog R 57 0 Rd.top (bodyOf Tryd.prog 31) [1,0,1,1,1,1,1,1,1,0,0,0,1,0,1,0] (contQ Tryd.prog R 57 0 Rd.top (bodyOf Tryd.prog 31) Q [Kont.blk 4,Kont.blk 3]) (St.mk [(4,ref 1 0),(6,ref 3 0),(7,ref 4 0),(8,ref 5 0),(33,fn 105 0 (nth []) 1 (nth [ref 7 0]))] u1 g))∧(((left:Int) != 0)=false→Q (AEx.exit 2) (St.mk [(4,ref 1 0),(6,ref 3 0),(7,ref 4 0),(8,ref 5 0),(31,AV.bool ((left:Int) != 0))] u2 g))) ([cells false 2 (nth [int i64 p.atoms,encRules p.rules]),cells false 1 fun (x:Nat)=>ow true 2 n 1,cells false (n*1) fun (a:Nat)=>int u64 (↑(hgP p a):Int),cells false 1 fun (x:Nat)=>fn 82 0 (nth []) 1 (nth [ref 1 0]),cells false 1 fun (x:Nat)=>ow true 6 m 1,cells false 1 fun (x:Nat)=>int u64 (left:Int),cells false (m*1) fun (a:Nat)=>fz Fz.auto 1 ((setK (L.getD a 0)).l.length) fun (i x:Nat)=>intC (setK (L.getD a 0)).l i])) ([cells false 2 (nth [int i64 p.atoms,encRules p.rules]),cells false 1 fun (x:Nat)=>ow true 2 n 1,cells false (n*1) fun (a:Nat)=>int u64 (↑(hgP p a):Int),cells false 1 fun (x:Nat)=>fn 82 0 (nth []) 1 (nth [ref 1 0]),cells false 1 fun (x:Nat)=>ow true 6 m 1,cells false 1 fun (x:Nat)=>int u64 (left:Int),cells false (m*1) fun (a:Nat)=>fz Fz.auto 1 ((setK (L.getD a 0)).l.length) fun (i x:Nat)=>intC (setK (L.getD a 0)).l i,cells false 1 fun (x:Nat)=>int u64 (left:Int)])) (fun _=>by kernel_rfl) ⟨by omega,fun c1=>have c1:¬(left:Int)=0:=(bne_iff_ne.mp c1);⟨by omega,⟨rfl,(c_each _ _ _ _)⟩,?_⟩,fun c1=>have c1:(left:Int)=0:=(bne_eq_false_iff_eq.mp c1);?_⟩
    ·have hne:left≠0:=by omega
     have hnx:=ord_next hr hok hne
     obtain⟨k1,k2,k3,k4⟩:=ord_at hr o3 hne
     obtain⟨K,hK⟩:∃K,ordK p left=K:=⟨_,rfl⟩
     obtain⟨A,hA'⟩:∃A,ordA p left=A:=⟨_,rfl⟩
     rw[hK] at k1 k3
     rw[hA'] at k2 k4 hnx
     have hAK:(memS left).getD K 0=A:=by rw[←hA',←hK];rfl
     rcases Nat.eq_zero_or_pos m with hm0|hm0
     ·subst hm0
      have hL:L=[]:=List.length_eq_zero_iff.1 o1.symm
      subst hL
      refine wp_to (to_sel (s':=⟨[(4,.ref 1 0),(6,.ref 3 0),(7,.ref 4 0),(8,.ref 5 0),(33,.fn 105 0 (nth []) 1 (nth [.ref 6 0]))],[.cells false 2 (nth [.int .i64 p.atoms,encRules p.rules]),.cells false 1 (fun _=>.ow true 2 n 1),.cells false (n*1) (onC p),.cells false 1 (fun _=>.fn 82 0 (nth []) 1 (nth [.ref 1 0])),.cells false 1 (fun _=>.fz .nil 0 0 (fun _ _=>.any)),.cells false 1 (fun _=>.int .u64 left),.cells false 1 (fun _=>.int .u64 left)],g⟩) [0,1,2,3,4,5,7] 8 rfl rfl rfl rfl rfl ⟨Le.refl _,Le.refl _,Le.refl _,Le.refl _,Le.fn (fun i hi=>absurd hi (Nat.not_lt_zero i)) (fun i hi=>match i,hi with|0,_=>Le.refl _),trivial⟩ ⟨⟨rfl,Nat.le_refl _,fun j hj=>match j,hj with|0,_=>Le.refl _|1,_=>le_ren (by exact trivial)⟩,LeO.refl _,LeO.refl _,⟨rfl,Nat.le_refl _,fun j hj=>Le.fn (fun i hi=>absurd hi (Nat.not_lt_zero i)) (fun i hi=>match i,hi with|0,_=>Le.refl _)⟩,⟨rfl,Nat.le_refl _,fun j hj=>Le.ow_nil⟩,LeO.refl _,LeO.refl _,trivial⟩) ?_
      refine wp_rangeE 33 [34] 6 (by kernel_rfl) rfl rfl left K o3 [.cells false 2 (nth [.int .i64 p.atoms,encRules p.rules]),.cells false 1 (fun _=>.ow true 2 n 1),.cells false (n*1) (onC p),.cells false 1 (fun _=>.fn 82 0 (nth []) 1 (nth [.ref 1 0])),.cells false 1 (fun _=>.fz .nil 0 0 (fun _ _=>.any)),.cells false 1 (fun _=>.int .u64 left)] (to_hp rfl rfl) rfl (by exact⟨by omega,by omega,by omega,by omega,by omega,by omega,by omega,trivial⟩) (by exact⟨fun j hj=>(match j,hj with|0,_=>trivial|1,_=>trivial),fun _ _=>show 2<6 by omega,fun _ _=>trivial,fun _ _=>⟨trivial,trivial,show 1<6 by omega⟩,fun _ _=>trivial,fun _ _=>trivial,trivial⟩) rfl (by kernel_rfl) [4,6,7,8] (by exact⟨show 1<6 by omega,show 3<6 by omega,show 4<6 by omega,show 5<6 by omega,trivial⟩) (fun k l' hk hkN=>?_) (fun hKN l'=>?_) (fun h=>?_)
      ·obtain⟨a,ha⟩:∃a,(memS left).getD k 0=a:=⟨_,rfl⟩
       have ham:a∈memS left:=by rw[←ha];exact getD_mem _ 0 hkN
       have han:a<n:=by rw[←hn];exact o4 a ham
       have h3:=k3 k hk
       rw[ha] at h3 ⊢
       have hO:=fun (R:Res) [Tab LT R] (g:R.σ)=>c_Order1 R p n a hr (by omega) (by omega) (fun b hb=>by have:=hg_in hr hx (a:=a) (by omega) (by omega) hb;omega) g
       have hcd:=(ord_cond (p:=p) (a:=a) (hgP_lt hr (by omega)) o3).trans h3
       refine vcQ [] (lkL [(14,[4,6,7,8,9])]) (fun _=>[]) (fun Q=>Q AEx.normal (St.mk [(4,ref 1 0),(6,ref 3 0),(7,ref 4 0),(8,ref 5 0),(9,int i64 (a:Int))] [cells false 2 (nth [int i64 p.atoms,encRules p.rules]),cells false 1 fun (x:Nat)=>ow true 2 n 1,cells false (n*1) fun (a:Nat)=>int u64 (↑(hgP p a):Int),cells false 1 fun (x:Nat)=>fn 82 0 (nth []) 1 (nth [ref 1 0]),cells false 1 fun (x:Nat)=>fz Fz.nil 0 0 fun _ _=>any,cells false 1 fun (x:Nat)=>int u64 (left:Int)] g)) (fun _=>by kernel_rfl) (?_)
       show Wp _ _ _ 6 _ _ _ _ _
       refine vcQ [] (lkL [(15,[4,6,7,8,9,10]),(16,[4,6,7,8,10,46]),(17,[4,6,7,8,10]),(18,[4,6,7,8])]) (lkL [(15,[(2,ROrc.kcall (int u64 (↑(withS p a):Int)))]),(17,[(2,ROrc.callN (fn 105 0 (nth []) 1 (nth [ref (List.length [cells false 2 (nth [int i64 p.atoms,encRules p.rules]),cells false 1 fun (x:Nat)=>ow true 2 n 1,cells false (n*1) fun (a:Nat)=>int u64 (↑(hgP p a):Int),cells false 1 fun (x:Nat)=>fn 82 0 (nth []) 1 (nth [ref 1 0]),cells false 1 fun (x:Nat)=>fz Fz.nil 0 0 fun _ _=>any,cells false 1 fun (x:Nat)=>int u64 (left:Int)]) 0])) [] [cells false 1 fun (x:Nat)=>int u64 (↑(withS p a):Int)] g),(3,ROrc.callN (ow true 7 ((memS (withS p a)).length) 1) [(6,cells false 1 fun (j:Nat)=>any)] [cells false ((memS (withS p a)).length*1) fun (j:Nat)=>int i64 (↑((memS (withS p a)).getD j 0):Int)] g),(6,ROrc.val (Orc.obj (nth [ow true 9 1 1])))]),(18,[(3,ROrc.val (Orc.obj (nth [int u64 (IntKind.wrap u64 (↑(BitVec.toNat (BitVec.ofInt 64 (left:Int) &&& ~~~BitVec.ofInt 64 (↑(withS p a):Int))):Int))])))])]) (fun Q=>(fun (u1:List AObj)=>(fun (u2:Bool)=>(fun (u3:List AObj)=>(fun (u4:AV)=>(fun (u5:AObj)=>(fun (u6:AV)=>(fun (u7:AV)=>(fun (u8:AObj)=>(fun (u9:AObj)=>(fun (u10:AV)=>(fun (u11:AObj)=>(fun (u12:Bool)=>1≤1∧(true=true∧Does Tryd.prog R 82 [int i64 (a:Int),ref 1 0] u1 g (ret u10) u1 g)∧u12=true∧1≤1∧(0≤(a:Int)∧(a:Int)<(n:Int))∧a+1≤n*1∧1≤1∧(u2=true→u12=true∧1≤1∧(true=true∧Does Tryd.prog R 77 [u10] u1 g (ret (fn 105 0 (nth []) 1 (nth [ref 6 0]))) u3 g)∧(true=true∧Does Tryd.prog R 75 [fn 105 0 (nth []) 1 (nth [ref 6 0])] u3 g (ret u7) [u11,cells false 1 fun (x:Nat)=>ow true 2 n 1,u9,u8,cells false 1 fun (x:Nat)=>u6,cells false 1 fun (x:Nat)=>int u64 (left:Int),cells false 1 fun (j:Nat)=>any,u5] g)∧0<1∧24≤maxRoom∧1≤maxRoom∧1≤1∧1≤1∧(∀(c:Nat),c<1→nth [ow true 9 1 1] c=over (fun (x:Nat)=>u6) 0 1 (fun (x:Nat)=>ow true 9 1 1) c)∧1≤1∧1≤1∧(∀(c:Nat),c<1→nth [u4] c=over (fun (x:Nat)=>int u64 (left:Int)) 0 1 (fun (x:Nat)=>u4) c)∧Q (AEx.exit 3) (St.mk [(4,ref 1 0),(6,ref 3 0),(7,ref 4 0),(8,ref 5 0)] [u11,cells false 1 fun (x:Nat)=>ow true 2 n 1,u9,u8,cells false 1 (nth [ow true 9 1 1]),cells false 1 (nth [u4]),cells false 1 fun (j:Nat)=>any,u5,cells false 1 (over (fun (j:Nat)=>u6) 0 1 fun (x:Nat)=>u7),cells false 1 (plainJ 1 0 (fun _ _=>any) fun (i j:Nat)=>over (fun (j:Nat)=>u6) 0 1 (fun (x:Nat)=>u7) (0+i*1+j))] g))∧(u2=false→Q AEx.normal (St.mk [(4,ref 1 0),(6,ref 3 0),(7,ref 4 0),(8,ref 5 0),(10,u10),(46,AV.bool u2)] u1 g))) (Tables.follows Tryd.prog.toTables Departure.mixedOrders)) (cells false 2 (nth [int i64 p.atoms,encRules p.rules]))) (int u64 (↑(withS p a):Int))) (cells false (n*1) fun (a:Nat)=>int u64 (↑(hgP p a):Int))) (cells false 1 fun (x:Nat)=>fn 82 0 (nth []) 1 (nth [ref 1 0]))) (ow true 7 ((memS (withS p a)).length) 1)) (fz Fz.nil 0 0 fun _ _=>any)) (cells false ((memS (withS p a)).length*1) fun (j:Nat)=>int i64 (↑((memS (withS p a)).getD j 0):Int))) (int u64 (IntKind.wrap u64 (↑(BitVec.toNat (BitVec.ofInt 64 (left:Int) &&& ~~~BitVec.ofInt 64 (↑(withS p a):Int))):Int)))) ([cells false 2 (nth [int i64 p.atoms,encRules p.rules]),cells false 1 fun (x:Nat)=>ow true 2 n 1,cells false (n*1) fun (a:Nat)=>int u64 (↑(hgP p a):Int),cells false 1 fun (x:Nat)=>fn 82 0 (nth []) 1 (nth [ref 1 0]),cells false 1 fun (x:Nat)=>fz Fz.nil 0 0 fun _ _=>any,cells false 1 fun (x:Nat)=>int u64 (left:Int),cells false 1 fun (x:Nat)=>int u64 (↑(withS p a):Int)])) (IntKind.wrap u64 (↑(BitVec.toNat (BitVec.ofInt 64 (IntKind.wrap u64 (↑(BitVec.toNat (BitVec.ofInt 64 (↑(hgP p a):Int)&&&BitVec.ofInt 64 (left:Int))):Int)) &&& ~~~BitVec.ofInt 64 (↑(withS p a):Int))):Int)==0)) ([cells false 2 (nth [int i64 p.atoms,encRules p.rules]),cells false 1 fun (x:Nat)=>ow true 2 n 1,cells false (n*1) fun (a:Nat)=>int u64 (↑(hgP p a):Int),cells false 1 fun (x:Nat)=>fn 82 0 (nth []) 1 (nth [ref 1 0]),cells false 1 fun (x:Nat)=>fz Fz.nil 0 0 fun _ _=>any,cells false 1 fun (x:Nat)=>int u64 (left:Int)])) (fun _=>by kernel_rfl) ⟨by omega,⟨rfl,(does_subT (T:=LT) inferInstance [1,2] 6 (fun R _ g=>hO R g) rfl rfl rfl (by exact⟨⟨rfl,Nat.le_refl _,fun j hj=>match j,hj with|0,_=>(Le.refl _) ⟩,⟨rfl,Nat.le_refl _,fun j hj=>(by first|exact le_ren (by first|exact trivial|apply below_onC)|exact Le.of_eq (ren_onC rfl).symm)⟩,trivial⟩) (by exact⟨by omega,by omega,trivial⟩) (by exact⟨le_ren (by exact trivial),Le.refl _,trivial⟩) (by exact le_unren (by exact trivial)) (by exact⟨LeO.rflc,⟨rfl,Nat.le_refl _,fun j hj=>match j,hj with|0,_=>(Le.refl _) ⟩,⟨rfl,Nat.le_refl _,fun j hj=>(by first|exact le_unren (by first|exact trivial|apply below_onC)|exact Le.of_eq (ren_onC rfl))⟩,LeO.rflc,LeO.rflc,LeO.rflc,trivial⟩))⟩,by kernel_rfl,by omega,by omega,by omega,by omega,fun c1=>have c1:IntKind.wrap u64 (↑(BitVec.toNat (BitVec.ofInt 64 (IntKind.wrap u64 (↑(BitVec.toNat (BitVec.ofInt 64 (↑(hgP p a):Int)&&&BitVec.ofInt 64 (left:Int))):Int)) &&& ~~~BitVec.ofInt 64 (↑(withS p a):Int))):Int)=0:=(beq_iff_eq.mp c1);⟨by kernel_rfl,by omega,⟨rfl,(c_each _ _ _ _)⟩,⟨rfl,(does_subT (T:=LT) inferInstance [6] 7 (fun R _ g=>c_CollectO R (withS p a) (by simp at * <;> omega) g) rfl rfl rfl (by exact⟨⟨rfl,Nat.le_refl _,fun j hj=>match j,hj with|0,_=>(Le.refl _) ⟩,trivial⟩) (by exact⟨by omega,trivial⟩) (by exact⟨(Le.fn (fun i hi=>absurd hi (by omega)) (fun i hi=>match i,hi with|0,_=>(Le.refl _) )),trivial⟩) (by exact(Le.refl _)) (by exact⟨LeO.rflc,LeO.rflc,LeO.rflc,LeO.rflc,LeO.rflc,LeO.rflc,LeO.rflc,LeO.rflc,trivial⟩))⟩,by omega,by omega,by omega,by omega,by omega,(fun c hc=>match c,hc with|0,_=>(by kernel_rfl) ),by omega,by omega,(fun c hc=>match c,hc with|0,_=>(by kernel_rfl) ),?_⟩,fun c1=>have c1:¬IntKind.wrap u64 (↑(BitVec.toNat (BitVec.ofInt 64 (IntKind.wrap u64 (↑(BitVec.toNat (BitVec.ofInt 64 (↑(hgP p a):Int)&&&BitVec.ofInt 64 (left:Int))):Int)) &&& ~~~BitVec.ofInt 64 (↑(withS p a):Int))):Int)=0:=(beq_eq_false_iff_ne.mp c1);?_⟩
       ·exfalso
        rename_i c0
        exact absurd (hcd.symm.trans c0) (by decide)
       ·refine(rnd_next rfl (to_fr trivial rfl rfl))
      ·rw[hAK]
       have han:A<n:=by rw[←hn];exact o4 A k4
       have hO:=fun (R:Res) [Tab LT R] (g:R.σ)=>c_Order1 R p n A hr (by omega) (by omega) (fun b hb=>by have:=hg_in hr hx (a:=A) (by omega) (by omega) hb;omega) g
       have hcd:=(ord_cond (p:=p) (a:=A) (hgP_lt hr (by omega)) o3).trans k2
       have hw24:=withS_lt p A
       have hC:=fun (R:Res) [Tab LT R] (s:Nat) (hs:s<2^24) (g:R.σ)=>c_CollectI R s hs g
       refine vcQ [] (lkL [(14,[4,6,7,8,9])]) (fun _=>[]) (fun Q=>Q AEx.normal (St.mk [(4,ref 1 0),(6,ref 3 0),(7,ref 4 0),(8,ref 5 0),(9,int i64 (A:Int))] [cells false 2 (nth [int i64 p.atoms,encRules p.rules]),cells false 1 fun (x:Nat)=>ow true 2 n 1,cells false (n*1) fun (a:Nat)=>int u64 (↑(hgP p a):Int),cells false 1 fun (x:Nat)=>fn 82 0 (nth []) 1 (nth [ref 1 0]),cells false 1 fun (x:Nat)=>fz Fz.nil 0 0 fun _ _=>any,cells false 1 fun (x:Nat)=>int u64 (left:Int),dead] g)) (fun _=>by kernel_rfl) (?_)
       show Wp _ _ _ 7 _ _ _ _ _
       refine vcQ [] (lkL [(15,[4,6,7,8,9,10]),(16,[4,6,7,8,10,46]),(17,[4,6,7,8,10]),(18,[4,6,7,8])]) (lkL [(15,[(2,ROrc.kcall (int u64 (↑(withS p A):Int)))]),(17,[(2,ROrc.callN (fn 105 0 (nth []) 1 (nth [ref (List.length [cells false 2 (nth [int i64 p.atoms,encRules p.rules]),cells false 1 fun (x:Nat)=>ow true 2 n 1,cells false (n*1) fun (a:Nat)=>int u64 (↑(hgP p a):Int),cells false 1 fun (x:Nat)=>fn 82 0 (nth []) 1 (nth [ref 1 0]),cells false 1 fun (x:Nat)=>fz Fz.nil 0 0 fun _ _=>any,cells false 1 fun (x:Nat)=>int u64 (left:Int),dead]) 0])) [] [cells false 1 fun (x:Nat)=>int u64 (↑(withS p A):Int)] g),(3,ROrc.callS (fz Fz.auto 1 ((setK (withS p A)).l.length) fun (i x:Nat)=>intC (setK (withS p A)).l i) [(7,cells false 1 fun (j:Nat)=>any)] g),(5,ROrc.val (Orc.obj (outC ([]++[withS p A])))),(6,ROrc.val (Orc.obj (nth [ow true 9 1 1])))]),(18,[(3,ROrc.val (Orc.obj (nth [int u64 (IntKind.wrap u64 (↑(BitVec.toNat (BitVec.ofInt 64 (left:Int) &&& ~~~BitVec.ofInt 64 (↑(withS p A):Int))):Int))])))])]) (fun Q=>(fun (u1:List AObj)=>(fun (u2:Bool)=>(fun (u3:List AObj)=>(fun (u4:AV)=>(fun (u5:AV)=>(fun (u6:AV)=>(fun (u7:AObj)=>(fun (u8:AObj)=>(fun (u9:AV)=>(fun (u10:AObj)=>(fun (u11:Bool)=>1≤1∧(true=true∧Does Tryd.prog R 82 [int i64 (A:Int),ref 1 0] u1 g (ret u9) u1 g)∧u11=true∧1≤1∧(0≤(A:Int)∧(A:Int)<(n:Int))∧A+1≤n*1∧1≤1∧(u2=true→u11=true∧1≤1∧(true=true∧Does Tryd.prog R 77 [u9] u1 g (ret (fn 105 0 (nth []) 1 (nth [ref 7 0]))) u3 g)∧(true=true∧Does Tryd.prog R 75 [fn 105 0 (nth []) 1 (nth [ref 7 0])] u3 g (ret u5) [u10,cells false 1 fun (x:Nat)=>ow true 2 n 1,u8,u7,cells false 1 fun (x:Nat)=>u6,cells false 1 fun (x:Nat)=>int u64 (left:Int),dead,cells false 1 fun (j:Nat)=>any] g)∧0<1∧24≤maxRoom∧1≤maxRoom∧1≤1∧(∀(c:Nat),c<1→(fz Fz.auto 1 ((setK (([]++[withS p A]).getD c 0)).l.length) fun (i x:Nat)=>intC (setK (([]++[withS p A]).getD c 0)).l i)=plainJ 1 0 (fun _ _=>any) (fun (i j:Nat)=>over (fun (j:Nat)=>u6) 0 1 (fun (x:Nat)=>u5) (0+i*1+j)) c)∧1≤1∧(∀(c:Nat),c<1→nth [ow true 9 1 1] c=over (fun (x:Nat)=>u6) 0 1 (fun (x:Nat)=>ow true 9 1 1) c)∧1≤1∧1≤1∧(∀(c:Nat),c<1→nth [u4] c=over (fun (x:Nat)=>int u64 (left:Int)) 0 1 (fun (x:Nat)=>u4) c)∧Q (AEx.exit 3) (St.mk [(4,ref 1 0),(6,ref 3 0),(7,ref 4 0),(8,ref 5 0)] [u10,cells false 1 fun (x:Nat)=>ow true 2 n 1,u8,u7,cells false 1 (nth [ow true 9 1 1]),cells false 1 (nth [u4]),dead,cells false 1 fun (j:Nat)=>any,cells false 1 (over (fun (j:Nat)=>u6) 0 1 fun (x:Nat)=>u5),cells false 1 fun (a:Nat)=>fz Fz.auto 1 ((setK (([]++[withS p A]).getD a 0)).l.length) fun (i x:Nat)=>intC (setK (([]++[withS p A]).getD a 0)).l i] g))∧(u2=false→Q AEx.normal (St.mk [(4,ref 1 0),(6,ref 3 0),(7,ref 4 0),(8,ref 5 0),(10,u9),(46,AV.bool u2)] u1 g))) (Tables.follows Tryd.prog.toTables Departure.mixedOrders)) (cells false 2 (nth [int i64 p.atoms,encRules p.rules]))) (int u64 (↑(withS p A):Int))) (cells false (n*1) fun (a:Nat)=>int u64 (↑(hgP p a):Int))) (cells false 1 fun (x:Nat)=>fn 82 0 (nth []) 1 (nth [ref 1 0]))) (fz Fz.nil 0 0 fun _ _=>any)) (fz Fz.auto 1 ((setK (withS p A)).l.length) fun (i x:Nat)=>intC (setK (withS p A)).l i)) (int u64 (IntKind.wrap u64 (↑(BitVec.toNat (BitVec.ofInt 64 (left:Int) &&& ~~~BitVec.ofInt 64 (↑(withS p A):Int))):Int)))) ([cells false 2 (nth [int i64 p.atoms,encRules p.rules]),cells false 1 fun (x:Nat)=>ow true 2 n 1,cells false (n*1) fun (a:Nat)=>int u64 (↑(hgP p a):Int),cells false 1 fun (x:Nat)=>fn 82 0 (nth []) 1 (nth [ref 1 0]),cells false 1 fun (x:Nat)=>fz Fz.nil 0 0 fun _ _=>any,cells false 1 fun (x:Nat)=>int u64 (left:Int),dead,cells false 1 fun (x:Nat)=>int u64 (↑(withS p A):Int)])) (IntKind.wrap u64 (↑(BitVec.toNat (BitVec.ofInt 64 (IntKind.wrap u64 (↑(BitVec.toNat (BitVec.ofInt 64 (↑(hgP p A):Int)&&&BitVec.ofInt 64 (left:Int))):Int)) &&& ~~~BitVec.ofInt 64 (↑(withS p A):Int))):Int)==0)) ([cells false 2 (nth [int i64 p.atoms,encRules p.rules]),cells false 1 fun (x:Nat)=>ow true 2 n 1,cells false (n*1) fun (a:Nat)=>int u64 (↑(hgP p a):Int),cells false 1 fun (x:Nat)=>fn 82 0 (nth []) 1 (nth [ref 1 0]),cells false 1 fun (x:Nat)=>fz Fz.nil 0 0 fun _ _=>any,cells false 1 fun (x:Nat)=>int u64 (left:Int),dead])) (fun _=>by kernel_rfl) ⟨by omega,⟨rfl,(does_subT (T:=LT) inferInstance [1,2] 7 (fun R _ g=>hO R g) rfl rfl rfl (by exact⟨⟨rfl,Nat.le_refl _,fun j hj=>match j,hj with|0,_=>(Le.refl _) ⟩,⟨rfl,Nat.le_refl _,fun j hj=>(by first|exact le_ren (by first|exact trivial|apply below_onC)|exact Le.of_eq (ren_onC rfl).symm)⟩,trivial⟩) (by exact⟨by omega,by omega,trivial⟩) (by exact⟨le_ren (by exact trivial),Le.refl _,trivial⟩) (by exact le_unren (by exact trivial)) (by exact⟨LeO.rflc,⟨rfl,Nat.le_refl _,fun j hj=>match j,hj with|0,_=>(Le.refl _) ⟩,⟨rfl,Nat.le_refl _,fun j hj=>(by first|exact le_unren (by first|exact trivial|apply below_onC)|exact Le.of_eq (ren_onC rfl))⟩,LeO.rflc,LeO.rflc,LeO.rflc,trivial,trivial⟩))⟩,by kernel_rfl,by omega,by omega,by omega,by omega,fun c1=>have c1:IntKind.wrap u64 (↑(BitVec.toNat (BitVec.ofInt 64 (IntKind.wrap u64 (↑(BitVec.toNat (BitVec.ofInt 64 (↑(hgP p A):Int)&&&BitVec.ofInt 64 (left:Int))):Int)) &&& ~~~BitVec.ofInt 64 (↑(withS p A):Int))):Int)=0:=(beq_iff_eq.mp c1);⟨by kernel_rfl,by omega,⟨rfl,(c_each _ _ _ _)⟩,⟨rfl,(does_subT (T:=LT) inferInstance [7] 8 (fun R _ g=>hC R (withS p A) (by omega) g) rfl rfl rfl (by exact⟨⟨rfl,Nat.le_refl _,fun j hj=>match j,hj with|0,_=>(Le.refl _) ⟩,trivial⟩) (by exact⟨by omega,trivial⟩) (by exact⟨(Le.fn (fun i hi=>absurd hi (by omega)) (fun i hi=>match i,hi with|0,_=>(Le.refl _) )),trivial⟩) (by exact le_unren (by exact trivial)) (by exact⟨LeO.rflc,LeO.rflc,LeO.rflc,LeO.rflc,LeO.rflc,LeO.rflc,trivial,LeO.rflc,trivial⟩))⟩,by omega,by omega,by omega,by omega,?_,by omega,(fun c hc=>match c,hc with|0,_=>(by kernel_rfl) ),by omega,by omega,(fun c hc=>match c,hc with|0,_=>(by kernel_rfl) ),?_⟩,fun c1=>have c1:¬IntKind.wrap u64 (↑(BitVec.toNat (BitVec.ofInt 64 (IntKind.wrap u64 (↑(BitVec.toNat (BitVec.ofInt 64 (↑(hgP p A):Int)&&&BitVec.ofInt 64 (left:Int))):Int)) &&& ~~~BitVec.ofInt 64 (↑(withS p A):Int))):Int)=0:=(beq_eq_false_iff_ne.mp c1);?_⟩
       ·exact fun c hc=>(out_append (L:=[]) (m:=0) (z:=fun _=>.fz .nil 0 0 (fun _ _=>.any)) (old:=fun _ _=>.any) (by assumption) (fun i hi=>absurd hi (Nat.not_lt_zero i)) hc).trans (by kernel_rfl)
       ·show Cl R 0 (thenA _ _) AEx.normal _
        refine(next_round (0+1,[]++[withS p A],minus left (withS p A)) (to_sel [0,1,2,3,4,5,9] 10 rfl rfl rfl rfl rfl ⟨Le.refl _,Le.refl _,Le.refl _,Le.refl _,trivial⟩ ⟨⟨rfl,Nat.le_refl _,fun j hj=>match j,hj with|0,_=>(Le.refl _)|1,_=>(Le.refl _) ⟩,⟨rfl,Nat.le_refl _,fun j hj=>match j,hj with|0,_=>(Le.refl _) ⟩,?_,⟨rfl,Nat.le_refl _,fun j hj=>match j,hj with|0,_=>(Le.fn (fun i hi=>absurd hi (by omega)) (fun i hi=>match i,hi with|0,_=>(Le.refl _) )) ⟩,⟨rfl,Nat.le_refl _,fun j hj=>match j,hj with|0,_=>(Le.refl _) ⟩,⟨rfl,Nat.le_refl _,fun j hj=>match j,hj with|0,_=>(Le.of_eq ?_) ⟩,⟨rfl,Nat.le_refl _,fun j hj=>match j,hj with|0,_=>(Le.refl _) ⟩,trivial⟩) ?_ ?_)
        ·exact⟨rfl,Nat.le_refl _,fun j _=>Le.of_eq rfl⟩
        ·show AV.int .u64 _=AV.int .u64 _
         rw[u64_minus o3]
        ·exact hnx.1
        ·exact hnx.2
       ·exfalso
        rename_i c0
        exact absurd (hcd.symm.trans c0) (by decide)
      ·exact absurd k1 (by omega)
     ·refine wp_rangeE 33 [34] 7 (by kernel_rfl) rfl rfl left K o3 [.cells false 2 (nth [.int .i64 p.atoms,encRules p.rules]),.cells false 1 (fun _=>.ow true 2 n 1),.cells false (n*1) (onC p),.cells false 1 (fun _=>.fn 82 0 (nth []) 1 (nth [.ref 1 0])),.cells false 1 (fun _=>.ow true 6 m 1),.cells false 1 (fun _=>.int .u64 left),.cells false (m*1) (outC L)] (to_hp rfl rfl) rfl (by exact⟨by omega,by omega,by omega,by omega,by omega,by omega,by omega,by omega,trivial⟩) (by exact⟨fun j hj=>(match j,hj with|0,_=>trivial|1,_=>trivial),fun _ _=>show 2<7 by omega,fun _ _=>trivial,fun _ _=>⟨trivial,trivial,show 1<7 by omega⟩,fun _ _=>show 6<7 by omega,fun _ _=>trivial,fun _ _=>trivial,trivial⟩) rfl (by kernel_rfl) [4,6,7,8] (by exact⟨show 1<7 by omega,show 3<7 by omega,show 4<7 by omega,show 5<7 by omega,trivial⟩) (fun k l' hk hkN=>?_) (fun hKN l'=>?_) (fun h=>?_)
      ·obtain⟨a,ha⟩:∃a,(memS left).getD k 0=a:=⟨_,rfl⟩
       have ham:a∈memS left:=by rw[←ha];exact getD_mem _ 0 hkN
       have han:a<n:=by rw[←hn];exact o4 a ham
       have h3:=k3 k hk
       rw[ha] at h3 ⊢
       have hO:=fun (R:Res) [Tab LT R] (g:R.σ)=>c_Order1 R p n a hr (by omega) (by omega) (fun b hb=>by have:=hg_in hr hx (a:=a) (by omega) (by omega) hb;omega) g
       have hcd:=(ord_cond (p:=p) (a:=a) (hgP_lt hr (by omega)) o3).trans h3
       refine vcQ [] (lkL [(14,[4,6,7,8,9])]) (fun _=>[]) (fun Q=>Q AEx.normal (St.mk [(4,ref 1 0),(6,ref 3 0),(7,ref 4 0),(8,ref 5 0),(9,int i64 (a:Int))] [cells false 2 (nth [int i64 p.atoms,encRules p.rules]),cells false 1 fun (x:Nat)=>ow true 2 n 1,cells false (n*1) fun (a:Nat)=>int u64 (↑(hgP p a):Int),cells false 1 fun (x:Nat)=>fn 82 0 (nth []) 1 (nth [ref 1 0]),cells false 1 fun (x:Nat)=>ow true 6 m 1,cells false 1 fun (x:Nat)=>int u64 (left:Int),cells false (m*1) fun (a:Nat)=>fz Fz.auto 1 ((setK (L.getD a 0)).l.length) fun (i x:Nat)=>intC (setK (L.getD a 0)).l i] g)) (fun _=>by kernel_rfl) (?_)
       show Wp _ _ _ 7 _ _ _ _ _
       refine vcQ [] (lkL [(15,[4,6,7,8,9,10]),(16,[4,6,7,8,10,46]),(17,[4,6,7,8,10]),(18,[4,6,7,8])]) (lkL [(15,[(2,ROrc.kcall (int u64 (↑(withS p a):Int)))]),(17,[(2,ROrc.callN (fn 105 0 (nth []) 1 (nth [ref (List.length [cells false 2 (nth [int i64 p.atoms,encRules p.rules]),cells false 1 fun (x:Nat)=>ow true 2 n 1,cells false (n*1) fun (a:Nat)=>int u64 (↑(hgP p a):Int),cells false 1 fun (x:Nat)=>fn 82 0 (nth []) 1 (nth [ref 1 0]),cells false 1 fun (x:Nat)=>ow true 6 m 1,cells false 1 fun (x:Nat)=>int u64 (left:Int),cells false (m*1) fun (a:Nat)=>fz Fz.auto 1 ((setK (L.getD a 0)).l.length) fun (i x:Nat)=>intC (setK (L.getD a 0)).l i]) 0])) [] [cells false 1 fun (x:Nat)=>int u64 (↑(withS p a):Int)] g),(3,ROrc.callN (ow true 8 ((memS (withS p a)).length) 1) [(7,cells false 1 fun (j:Nat)=>any)] [cells false ((memS (withS p a)).length*1) fun (j:Nat)=>int i64 (↑((memS (withS p a)).getD j 0):Int)] g),(6,ROrc.val (Orc.obj (nth [ow true 10 (m+1) 1])))]),(18,[(3,ROrc.val (Orc.obj (nth [int u64 (IntKind.wrap u64 (↑(BitVec.toNat (BitVec.ofInt 64 (left:Int) &&& ~~~BitVec.ofInt 64 (↑(withS p a):Int))):Int))])))])]) (fun Q=>(fun (u1:List AObj)=>(fun (u2:List AObj)=>(fun (u3:Bool)=>(fun (u4:AV)=>(fun (u5:AObj)=>(fun (u6:AV)=>(fun (u7:AObj)=>(fun (u8:AObj)=>(fun (u9:AV)=>(fun (u10:AObj)=>(fun (u11:Bool)=>1≤1∧(true=true∧Does Tryd.prog R 82 [int i64 (a:Int),ref 1 0] u1 g (ret u9) u1 g)∧u11=true∧1≤1∧(0≤(a:Int)∧(a:Int)<(n:Int))∧a+1≤n*1∧1≤1∧(u3=true→u11=true∧1≤1∧(true=true∧Does Tryd.prog R 77 [u9] u1 g (ret (fn 105 0 (nth []) 1 (nth [ref 7 0]))) u2 g)∧(true=true∧Does Tryd.prog R 75 [fn 105 0 (nth []) 1 (nth [ref 7 0])] u2 g (ret u6) [u10,cells false 1 fun (x:Nat)=>ow true 2 n 1,u8,u7,cells false 1 fun (x:Nat)=>ow true 6 m 1,cells false 1 fun (x:Nat)=>int u64 (left:Int),cells false (m*1) fun (a:Nat)=>fz Fz.auto 1 ((setK (L.getD a 0)).l.length) fun (i x:Nat)=>intC (setK (L.getD a 0)).l i,cells false 1 fun (j:Nat)=>any,u5] g)∧0<1∧(m+1)*24≤maxRoom∧m+1≤maxRoom∧1≤1∧m*1≤m*1∧1≤1∧(∀(c:Nat),c<1→nth [ow true 10 (m+1) 1] c=over (fun (x:Nat)=>ow true 6 m 1) 0 1 (fun (x:Nat)=>ow true 10 (m+1) 1) c)∧1≤1∧1≤1∧(∀(c:Nat),c<1→nth [u4] c=over (fun (x:Nat)=>int u64 (left:Int)) 0 1 (fun (x:Nat)=>u4) c)∧Q (AEx.exit 3) (St.mk [(4,ref 1 0),(6,ref 3 0),(7,ref 4 0),(8,ref 5 0)] [u10,cells false 1 fun (x:Nat)=>ow true 2 n 1,u8,u7,cells false 1 (nth [ow true 10 (m+1) 1]),cells false 1 (nth [u4]),dead,cells false 1 fun (j:Nat)=>any,u5,cells false 1 (over (fun (j:Nat)=>fz Fz.nil 0 0 fun _ _=>any) 0 1 fun (x:Nat)=>u6),cells false ((m+1)*1) (plainJ 1 m (fun (i j:Nat)=>fz Fz.auto 1 ((setK (L.getD (i*1+j) 0)).l.length) fun (i_1 x:Nat)=>intC (setK (L.getD (i*1+j) 0)).l i_1) fun (i j:Nat)=>over (fun (j:Nat)=>fz Fz.nil 0 0 fun _ _=>any) 0 1 (fun (x:Nat)=>u6) (0+i*1+j))] g))∧(u3=false→Q AEx.normal (St.mk [(4,ref 1 0),(6,ref 3 0),(7,ref 4 0),(8,ref 5 0),(10,u9),(46,AV.bool u3)] u1 g))) (Tables.follows Tryd.prog.toTables Departure.mixedOrders)) (cells false 2 (nth [int i64 p.atoms,encRules p.rules]))) (int u64 (↑(withS p a):Int))) (cells false (n*1) fun (a:Nat)=>int u64 (↑(hgP p a):Int))) (cells false 1 fun (x:Nat)=>fn 82 0 (nth []) 1 (nth [ref 1 0]))) (ow true 8 ((memS (withS p a)).length) 1)) (cells false ((memS (withS p a)).length*1) fun (j:Nat)=>int i64 (↑((memS (withS p a)).getD j 0):Int))) (int u64 (IntKind.wrap u64 (↑(BitVec.toNat (BitVec.ofInt 64 (left:Int) &&& ~~~BitVec.ofInt 64 (↑(withS p a):Int))):Int)))) (IntKind.wrap u64 (↑(BitVec.toNat (BitVec.ofInt 64 (IntKind.wrap u64 (↑(BitVec.toNat (BitVec.ofInt 64 (↑(hgP p a):Int)&&&BitVec.ofInt 64 (left:Int))):Int)) &&& ~~~BitVec.ofInt 64 (↑(withS p a):Int))):Int)==0)) ([cells false 2 (nth [int i64 p.atoms,encRules p.rules]),cells false 1 fun (x:Nat)=>ow true 2 n 1,cells false (n*1) fun (a:Nat)=>int u64 (↑(hgP p a):Int),cells false 1 fun (x:Nat)=>fn 82 0 (nth []) 1 (nth [ref 1 0]),cells false 1 fun (x:Nat)=>ow true 6 m 1,cells false 1 fun (x:Nat)=>int u64 (left:Int),cells false (m*1) fun (a:Nat)=>fz Fz.auto 1 ((setK (L.getD a 0)).l.length) fun (i x:Nat)=>intC (setK (L.getD a 0)).l i,cells false 1 fun (x:Nat)=>int u64 (↑(withS p a):Int)])) ([cells false 2 (nth [int i64 p.atoms,encRules p.rules]),cells false 1 fun (x:Nat)=>ow true 2 n 1,cells false (n*1) fun (a:Nat)=>int u64 (↑(hgP p a):Int),cells false 1 fun (x:Nat)=>fn 82 0 (nth []) 1 (nth [ref 1 0]),cells false 1 fun (x:Nat)=>ow true 6 m 1,cells false 1 fun (x:Nat)=>int u64 (left:Int),cells false (m*1) fun (a:Nat)=>fz Fz.auto 1 ((setK (L.getD a 0)).l.length) fun (i x:Nat)=>intC (setK (L.getD a 0)).l i])) (fun _=>by kernel_rfl) ⟨by omega,⟨rfl,(does_subT (T:=LT) inferInstance [1,2] 7 (fun R _ g=>hO R g) rfl rfl rfl (by exact⟨⟨rfl,Nat.le_refl _,fun j hj=>match j,hj with|0,_=>(Le.refl _) ⟩,⟨rfl,Nat.le_refl _,fun j hj=>(by first|exact le_ren (by first|exact trivial|apply below_onC)|exact Le.of_eq (ren_onC rfl).symm)⟩,trivial⟩) (by exact⟨by omega,by omega,trivial⟩) (by exact⟨le_ren (by exact trivial),Le.refl _,trivial⟩) (by exact le_unren (by exact trivial)) (by exact⟨LeO.rflc,⟨rfl,Nat.le_refl _,fun j hj=>match j,hj with|0,_=>(Le.refl _) ⟩,⟨rfl,Nat.le_refl _,fun j hj=>(by first|exact le_unren (by first|exact trivial|apply below_onC)|exact Le.of_eq (ren_onC rfl))⟩,LeO.rflc,LeO.rflc,LeO.rflc,LeO.rflc,trivial⟩))⟩,by kernel_rfl,by omega,by omega,by omega,by omega,fun c1=>have c1:IntKind.wrap u64 (↑(BitVec.toNat (BitVec.ofInt 64 (IntKind.wrap u64 (↑(BitVec.toNat (BitVec.ofInt 64 (↑(hgP p a):Int)&&&BitVec.ofInt 64 (left:Int))):Int)) &&& ~~~BitVec.ofInt 64 (↑(withS p a):Int))):Int)=0:=(beq_iff_eq.mp c1);⟨by kernel_rfl,by omega,⟨rfl,(c_each _ _ _ _)⟩,⟨rfl,(does_subT (T:=LT) inferInstance [7] 8 (fun R _ g=>c_CollectO R (withS p a) (by simp at * <;> omega) g) rfl rfl rfl (by exact⟨⟨rfl,Nat.le_refl _,fun j hj=>match j,hj with|0,_=>(Le.refl _) ⟩,trivial⟩) (by exact⟨by omega,trivial⟩) (by exact⟨(Le.fn (fun i hi=>absurd hi (by omega)) (fun i hi=>match i,hi with|0,_=>(Le.refl _) )),trivial⟩) (by exact(Le.refl _)) (by exact⟨LeO.rflc,LeO.rflc,LeO.rflc,LeO.rflc,LeO.rflc,LeO.rflc,LeO.rflc,LeO.rflc,LeO.rflc,trivial⟩))⟩,by omega,by omega,by omega,by omega,by omega,by omega,(fun c hc=>match c,hc with|0,_=>(by kernel_rfl) ),by omega,by omega,(fun c hc=>match c,hc with|0,_=>(by kernel_rfl) ),?_⟩,fun c1=>have c1:¬IntKind.wrap u64 (↑(BitVec.toNat (BitVec.ofInt 64 (IntKind.wrap u64 (↑(BitVec.toNat (BitVec.ofInt 64 (↑(hgP p a):Int)&&&BitVec.ofInt 64 (left:Int))):Int)) &&& ~~~BitVec.ofInt 64 (↑(withS p a):Int))):Int)=0:=(beq_eq_false_iff_ne.mp c1);?_⟩
       ·exfalso
        rename_i c0
        exact absurd (hcd.symm.trans c0) (by decide)
       ·refine(rnd_next rfl (to_fr trivial rfl rfl))
      ·rw[hAK]
       have han:A<n:=by rw[←hn];exact o4 A k4
       have hO:=fun (R:Res) [Tab LT R] (g:R.σ)=>c_Order1 R p n A hr (by omega) (by omega) (fun b hb=>by have:=hg_in hr hx (a:=A) (by omega) (by omega) hb;omega) g
       have hcd:=(ord_cond (p:=p) (a:=A) (hgP_lt hr (by omega)) o3).trans k2
       have hw24:=withS_lt p A
       have hC:=fun (R:Res) [Tab LT R] (s:Nat) (hs:s<2^24) (g:R.σ)=>c_CollectI R s hs g
       refine vcQ [] (lkL [(14,[4,6,7,8,9])]) (fun _=>[]) (fun Q=>Q AEx.normal (St.mk [(4,ref 1 0),(6,ref 3 0),(7,ref 4 0),(8,ref 5 0),(9,int i64 (A:Int))] [cells false 2 (nth [int i64 p.atoms,encRules p.rules]),cells false 1 fun (x:Nat)=>ow true 2 n 1,cells false (n*1) fun (a:Nat)=>int u64 (↑(hgP p a):Int),cells false 1 fun (x:Nat)=>fn 82 0 (nth []) 1 (nth [ref 1 0]),cells false 1 fun (x:Nat)=>ow true 6 m 1,cells false 1 fun (x:Nat)=>int u64 (left:Int),cells false (m*1) fun (a:Nat)=>fz Fz.auto 1 ((setK (L.getD a 0)).l.length) fun (i x:Nat)=>intC (setK (L.getD a 0)).l i,dead] g)) (fun _=>by kernel_rfl) (?_)
       show Wp _ _ _ 8 _ _ _ _ _
       refine vcQ [] (lkL [(15,[4,6,7,8,9,10]),(16,[4,6,7,8,10,46]),(17,[4,6,7,8,10]),(18,[4,6,7,8])]) (lkL [(15,[(2,ROrc.kcall (int u64 (↑(withS p A):Int)))]),(17,[(2,ROrc.callN (fn 105 0 (nth []) 1 (nth [ref (List.length [cells false 2 (nth [int i64 p.atoms,encRules p.rules]),cells false 1 fun (x:Nat)=>ow true 2 n 1,cells false (n*1) fun (a:Nat)=>int u64 (↑(hgP p a):Int),cells false 1 fun (x:Nat)=>fn 82 0 (nth []) 1 (nth [ref 1 0]),cells false 1 fun (x:Nat)=>ow true 6 m 1,cells false 1 fun (x:Nat)=>int u64 (left:Int),cells false (m*1) fun (a:Nat)=>fz Fz.auto 1 ((setK (L.getD a 0)).l.length) fun (i x:Nat)=>intC (setK (L.getD a 0)).l i,dead]) 0])) [] [cells false 1 fun (x:Nat)=>int u64 (↑(withS p A):Int)] g),(3,ROrc.callS (fz Fz.auto 1 ((setK (withS p A)).l.length) fun (i x:Nat)=>intC (setK (withS p A)).l i) [(8,cells false 1 fun (j:Nat)=>any)] g),(5,ROrc.val (Orc.obj (outC (L++[withS p A])))),(6,ROrc.val (Orc.obj (nth [ow true 10 (m+1) 1])))]),(18,[(3,ROrc.val (Orc.obj (nth [int u64 (IntKind.wrap u64 (↑(BitVec.toNat (BitVec.ofInt 64 (left:Int) &&& ~~~BitVec.ofInt 64 (↑(withS p A):Int))):Int))])))])]) (fun Q=>(fun (u1:List AObj)=>(fun (u2:List AObj)=>(fun (u3:Bool)=>(fun (u4:AV)=>(fun (u5:AV)=>(fun (u6:AObj)=>(fun (u7:AObj)=>(fun (u8:AV)=>(fun (u9:AObj)=>1≤1∧(true=true∧Does Tryd.prog R 82 [int i64 (A:Int),ref 1 0] u1 g (ret u8) u1 g)∧Tables.follows Tryd.prog.toTables Departure.mixedOrders=true∧1≤1∧(0≤(A:Int)∧(A:Int)<(n:Int))∧A+1≤n*1∧1≤1∧(u3=true→Tables.follows Tryd.prog.toTables Departure.mixedOrders=true∧1≤1∧(true=true∧Does Tryd.prog R 77 [u8] u1 g (ret (fn 105 0 (nth []) 1 (nth [ref 8 0]))) u2 g)∧(true=true∧Does Tryd.prog R 75 [fn 105 0 (nth []) 1 (nth [ref 8 0])] u2 g (ret u5) [u9,cells false 1 fun (x:Nat)=>ow true 2 n 1,u7,u6,cells false 1 fun (x:Nat)=>ow true 6 m 1,cells false 1 fun (x:Nat)=>int u64 (left:Int),cells false (m*1) fun (a:Nat)=>fz Fz.auto 1 ((setK (L.getD a 0)).l.length) fun (i x:Nat)=>intC (setK (L.getD a 0)).l i,dead,cells false 1 fun (j:Nat)=>any] g)∧0<1∧(m+1)*24≤maxRoom∧m+1≤maxRoom∧1≤1∧m*1≤m*1∧(∀(c:Nat),c<(m+1)*1→(fz Fz.auto 1 ((setK ((L++[withS p A]).getD c 0)).l.length) fun (i x:Nat)=>intC (setK ((L++[withS p A]).getD c 0)).l i)=plainJ 1 m (fun (i j:Nat)=>fz Fz.auto 1 ((setK (L.getD (i*1+j) 0)).l.length) fun (i_1 x:Nat)=>intC (setK (L.getD (i*1+j) 0)).l i_1) (fun (i j:Nat)=>over (fun (j:Nat)=>fz Fz.nil 0 0 fun _ _=>any) 0 1 (fun (x:Nat)=>u5) (0+i*1+j)) c)∧1≤1∧(∀(c:Nat),c<1→nth [ow true 10 (m+1) 1] c=over (fun (x:Nat)=>ow true 6 m 1) 0 1 (fun (x:Nat)=>ow true 10 (m+1) 1) c)∧1≤1∧1≤1∧(∀(c:Nat),c<1→nth [u4] c=over (fun (x:Nat)=>int u64 (left:Int)) 0 1 (fun (x:Nat)=>u4) c)∧Q (AEx.exit 3) (St.mk [(4,ref 1 0),(6,ref 3 0),(7,ref 4 0),(8,ref 5 0)] [u9,cells false 1 fun (x:Nat)=>ow true 2 n 1,u7,u6,cells false 1 (nth [ow true 10 (m+1) 1]),cells false 1 (nth [u4]),dead,dead,cells false 1 fun (j:Nat)=>any,cells false 1 (over (fun (j:Nat)=>fz Fz.nil 0 0 fun _ _=>any) 0 1 fun (x:Nat)=>u5),cells false ((m+1)*1) fun (a:Nat)=>fz Fz.auto 1 ((setK ((L++[withS p A]).getD a 0)).l.length) fun (i x:Nat)=>intC (setK ((L++[withS p A]).getD a 0)).l i] g))∧(u3=false→Q AEx.normal (St.mk [(4,ref 1 0),(6,ref 3 0),(7,ref 4 0),(8,ref 5 0),(10,u8),(46,AV.bool u3)] u1 g))) (cells false 2 (nth [int i64 p.atoms,encRules p.rules]))) (int u64 (↑(withS p A):Int))) (cells false (n*1) fun (a:Nat)=>int u64 (↑(hgP p a):Int))) (cells false 1 fun (x:Nat)=>fn 82 0 (nth []) 1 (nth [ref 1 0]))) (fz Fz.auto 1 ((setK (withS p A)).l.length) fun (i x:Nat)=>intC (setK (withS p A)).l i)) (int u64 (IntKind.wrap u64 (↑(BitVec.toNat (BitVec.ofInt 64 (left:Int) &&& ~~~BitVec.ofInt 64 (↑(withS p A):Int))):Int)))) (IntKind.wrap u64 (↑(BitVec.toNat (BitVec.ofInt 64 (IntKind.wrap u64 (↑(BitVec.toNat (BitVec.ofInt 64 (↑(hgP p A):Int)&&&BitVec.ofInt 64 (left:Int))):Int)) &&& ~~~BitVec.ofInt 64 (↑(withS p A):Int))):Int)==0)) ([cells false 2 (nth [int i64 p.atoms,encRules p.rules]),cells false 1 fun (x:Nat)=>ow true 2 n 1,cells false (n*1) fun (a:Nat)=>int u64 (↑(hgP p a):Int),cells false 1 fun (x:Nat)=>fn 82 0 (nth []) 1 (nth [ref 1 0]),cells false 1 fun (x:Nat)=>ow true 6 m 1,cells false 1 fun (x:Nat)=>int u64 (left:Int),cells false (m*1) fun (a:Nat)=>fz Fz.auto 1 ((setK (L.getD a 0)).l.length) fun (i x:Nat)=>intC (setK (L.getD a 0)).l i,dead,cells false 1 fun (x:Nat)=>int u64 (↑(withS p A):Int)])) ([cells false 2 (nth [int i64 p.atoms,encRules p.rules]),cells false 1 fun (x:Nat)=>ow true 2 n 1,cells false (n*1) fun (a:Nat)=>int u64 (↑(hgP p a):Int),cells false 1 fun (x:Nat)=>fn 82 0 (nth []) 1 (nth [ref 1 0]),cells false 1 fun (x:Nat)=>ow true 6 m 1,cells false 1 fun (x:Nat)=>int u64 (left:Int),cells false (m*1) fun (a:Nat)=>fz Fz.auto 1 ((setK (L.getD a 0)).l.length) fun (i x:Nat)=>intC (setK (L.getD a 0)).l i,dead])) (fun _=>by kernel_rfl) ⟨by omega,⟨rfl,(does_subT (T:=LT) inferInstance [1,2] 8 (fun R _ g=>hO R g) rfl rfl rfl (by exact⟨⟨rfl,Nat.le_refl _,fun j hj=>match j,hj with|0,_=>(Le.refl _) ⟩,⟨rfl,Nat.le_refl _,fun j hj=>(by first|exact le_ren (by first|exact trivial|apply below_onC)|exact Le.of_eq (ren_onC rfl).symm)⟩,trivial⟩) (by exact⟨by omega,by omega,trivial⟩) (by exact⟨le_ren (by exact trivial),Le.refl _,trivial⟩) (by exact le_unren (by exact trivial)) (by exact⟨LeO.rflc,⟨rfl,Nat.le_refl _,fun j hj=>match j,hj with|0,_=>(Le.refl _) ⟩,⟨rfl,Nat.le_refl _,fun j hj=>(by first|exact le_unren (by first|exact trivial|apply below_onC)|exact Le.of_eq (ren_onC rfl))⟩,LeO.rflc,LeO.rflc,LeO.rflc,LeO.rflc,trivial,trivial⟩))⟩,by kernel_rfl,by omega,by omega,by omega,by omega,fun c1=>have c1:IntKind.wrap u64 (↑(BitVec.toNat (BitVec.ofInt 64 (IntKind.wrap u64 (↑(BitVec.toNat (BitVec.ofInt 64 (↑(hgP p A):Int)&&&BitVec.ofInt 64 (left:Int))):Int)) &&& ~~~BitVec.ofInt 64 (↑(withS p A):Int))):Int)=0:=(beq_iff_eq.mp c1);⟨by kernel_rfl,by omega,⟨rfl,(c_each _ _ _ _)⟩,⟨rfl,(does_subT (T:=LT) inferInstance [8] 9 (fun R _ g=>hC R (withS p A) (by omega) g) rfl rfl rfl (by exact⟨⟨rfl,Nat.le_refl _,fun j hj=>match j,hj with|0,_=>(Le.refl _) ⟩,trivial⟩) (by exact⟨by omega,trivial⟩) (by exact⟨(Le.fn (fun i hi=>absurd hi (by omega)) (fun i hi=>match i,hi with|0,_=>(Le.refl _) )),trivial⟩) (by exact le_unren (by exact trivial)) (by exact⟨LeO.rflc,LeO.rflc,LeO.rflc,LeO.rflc,LeO.rflc,LeO.rflc,LeO.rflc,trivial,LeO.rflc,trivial⟩))⟩,by omega,by omega,by omega,by omega,by omega,?_,by omega,(fun c hc=>match c,hc with|0,_=>(by kernel_rfl) ),by omega,by omega,(fun c hc=>match c,hc with|0,_=>(by kernel_rfl) ),?_⟩,fun c1=>have c1:¬IntKind.wrap u64 (↑(BitVec.toNat (BitVec.ofInt 64 (IntKind.wrap u64 (↑(BitVec.toNat (BitVec.ofInt 64 (↑(hgP p A):Int)&&&BitVec.ofInt 64 (left:Int))):Int)) &&& ~~~BitVec.ofInt 64 (↑(withS p A):Int))):Int)=0:=(beq_eq_false_iff_ne.mp c1);?_⟩
       ·exact fun c hc=>(out_append (L:=L) (m:=m) (z:=fun _=>.fz .nil 0 0 (fun _ _=>.any)) (old:=fun i j=>outC L (i*1+j)) (by assumption) (fun i hi=>by show outC L (i*1+0)=outC L i;rw[show i*1+0=i by omega]) hc).trans (by kernel_rfl)
       ·show Cl R 0 (thenA _ _) AEx.normal _
        refine(next_round (m+1,L++[withS p A],minus left (withS p A)) (to_sel [0,1,2,3,4,5,10] 11 rfl rfl rfl rfl rfl ⟨Le.refl _,Le.refl _,Le.refl _,Le.refl _,trivial⟩ ⟨⟨rfl,Nat.le_refl _,fun j hj=>match j,hj with|0,_=>(Le.refl _)|1,_=>(Le.refl _) ⟩,⟨rfl,Nat.le_refl _,fun j hj=>match j,hj with|0,_=>(Le.refl _) ⟩,?_,⟨rfl,Nat.le_refl _,fun j hj=>match j,hj with|0,_=>(Le.fn (fun i hi=>absurd hi (by omega)) (fun i hi=>match i,hi with|0,_=>(Le.refl _) )) ⟩,⟨rfl,Nat.le_refl _,fun j hj=>match j,hj with|0,_=>(Le.refl _) ⟩,⟨rfl,Nat.le_refl _,fun j hj=>match j,hj with|0,_=>(Le.of_eq ?_) ⟩,?_,trivial⟩) ?_ ?_)
        ·exact⟨rfl,Nat.le_refl _,fun j _=>Le.of_eq rfl⟩
        ·show AV.int .u64 _=AV.int .u64 _
         rw[u64_minus o3]
        ·exact⟨rfl,Nat.le_refl _,fun j _=>Le.of_eq rfl⟩
        ·exact hnx.1
        ·exact hnx.2
       ·exfalso
        rename_i c0
        exact absurd (hcd.symm.trans c0) (by decide)
      ·exact absurd k1 (by omega)
    ·have hl0:left=0:=by omega
     subst hl0
     have hLo:L=ordP p:=by
      obtain⟨f,f1,f2⟩:=o5
      obtain⟨f,rfl⟩:∃k,f=k+1:=⟨f-1,by omega⟩
      rw[←f2]
      show L=L++(if (0:Nat)=0 then[] else _)
      rw[if_pos rfl,List.append_nil]
     subst hLo
     subst o1
     refine⟨_,To.refl _,vcQ [] (lkL [(19,[2,3])]) (fun _=>[]) (fun Q=>1≤1∧Q AEx.ret (St.mk [(2,ow true 6 ((ordP p).length) 1),(3,int i64 0)] [cells false 2 (nth [int i64 p.atoms,encRules p.rules]),cells false 1 fun (x:Nat)=>ow true 2 n 1,cells false (n*1) fun (a:Nat)=>int u64 (↑(hgP p a):Int),cells false 1 fun (x:Nat)=>fn 82 0 (nth []) 1 (nth [ref 1 0]),cells false 1 fun (x:Nat)=>ow true 6 ((ordP p).length) 1,cells false 1 fun (x:Nat)=>int u64 (↑0:Int),cells false ((ordP p).length*1) fun (a:Nat)=>fz Fz.auto 1 ((setK ((ordP p).getD a 0)).l.length) fun (i x:Nat)=>intC (setK ((ordP p).getD a 0)).l i] g)) (fun _=>by kernel_rfl) ⟨by omega,?_⟩⟩
     show RetQ Tryd.prog R 0 _ _ _ _ .ret _
     refine retQ_via (.tup 2 (nth [.ow true 6 (ordP p).length 1,.int .i64 0])) _ rfl trivial (to_frzK 0 [(0,.tup 2 (nth [encLs (ordP p).length (fun i=>setK ((ordP p).getD i 0)),.int .i64 0]))] (Nat.le_refl _) (Nat.zero_le _) (fun i hi=>absurd hi (Nat.not_lt_zero i)) ⟨FzTo.tup (fun j hj=>?_),trivial⟩)
     match j,hj with
     |0,_=>exact FzTo.le (FzTo.ow (o:=6) (N:=(ordP p).length*1) (c:=outC (ordP p)) (get:=outC (ordP p)) (fr:=false) rfl (Nat.zero_le _) (Nat.le_refl _) (by decide) (fun j _=>FzTo.below (below_outC _ _))) (Le.fz rfl (fun i j hi hj=>by
       show outC (ordP p) (i*1+j)=_
       rw[show i*1+j=i by omega]
       rfl))
     |1,_=>exact FzTo.below trivial
end Go.Avm.Pack
