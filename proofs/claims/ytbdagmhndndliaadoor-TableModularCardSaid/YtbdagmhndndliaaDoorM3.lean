/- Part 3 of the proof: lemmas. -/
import Derived.Test.YtbdagmhndndliaaDoorM2
namespace Go.Avm.Pack
open Go Go.Avm Go.Proofs
open Go.IntKind (i64 u64)
open Go.Avm.AV (int bool any fz fp sl ow ref fn ifc val agg tup)
open Go.Avm.AObj (cells dead)
open Go.Avm.Oc (ret)
set_option maxRecDepth 4000
def gN:List Int:=[0,1,56,2,57,49,28,3,61,58,42,50,38,29,17,4,62,47,59,36,45,43,51,22,53,39,33,30,24,18,12,5,63,55,48,27,60,41,37,16,46,35,44,21,52,32,23,11,54,26,40,15,34,20,31,10,25,14,19,9,13,8,7,6]
abbrev gsT:List (Nat × List Int):=[(0,gN)]
abbrev LT:Mem->Prop:=cU gsT
def iF (s:Nat):Int:=Int.fdiv (IntKind.wrap .u64 (IntKind.wrap .u64 (↑(BitVec.toNat (BitVec.ofInt 64 (↑s:Int)&&&BitVec.ofInt 64 (IntKind.wrap .u64 (0-(↑s:Int))))):Int)*285870213051353865)) (2^58)
def gc (k:Nat):Int:=Int.fdiv (IntKind.wrap .u64 (((2^k:Nat):Int)*285870213051353865)) (2^58)
theorem xn {k:Nat}(hk:k<24):0<=gc k/\gc k<64/\gN.getD (gc k).toNat 0=(k:Int):=by
 have h:(List.range 24).all (fun k=>decide (0<=gc k/\gc k<64/\gN.getD (gc k).toNat 0=(k:Int)))=true:=by decide +kernel
 exact of_decide_eq_true ((List.all_eq_true.1 h) k (List.mem_range.2 hk))
theorem bG {s:Nat}(hs:s<2^24):s<2^64:=Nat.lt_trans hs dcd
theorem xp {s k m:Nat}(h:s=2^k*(2*m+1))(hs:s<2^24):0<=iF s/\iF s<64/\gN.getD (iF s).toNat 0=(k:Int):=by
 have e:iF s=gc k:=by
  unfold iF gc
  rw[Tb.u64_low h (bG hs)]
 rw[e]
 exact xn (Tb.low_lt h hs)
abbrev ak (s:Nat):List Nat:=Tb.memN 24 s
def gO (s:Nat):Nat:=(ak s).headD 0
theorem ly {s k m:Nat}(h:s=2^k*(2*m+1))(hs:s<2^24):gO s=k:=by
 unfold gO ak
 rw[Tb.mem_low h (Tb.low_lt h hs)]
 rfl
theorem rI (R:Res)[Tab LT R](s:Nat)(h0:0<s)(hs:s<2^24)(g:R.σ):Does Tryd.prog R 106 [.int .u64 s] [] g (.ret (.int .i64 (gO s))) [] g:=by
 obtain⟨k,m,h⟩:=Tb.low_of h0
 rw[ly h hs]
 have hk:=Tb.low_lt h hs
 have hI:=xp h hs
 refine spW (nt:=14) (rs:=[.tmp 2]) (k0:=0) ?_
 refine vcR [] (lkL [(0,[0]),(1,[0,4]),(2,[2]),(3,[2])]) (lkL [(3,[(6,ROrc.kop (fp 1 fun (x:Nat)=>int IntKind.u8 (↑k:Int)))])]) (fun Q=>(fun (u1:Int)=>(fun (u2:Int)=>((u2==0)=true->Q AEx.ret (St.mk [(2,i6 64)] [] g))/\((u2==0)=false->(↑0:Int)<=58/\OpOk Tryd.prog R (Oper.mk (some 11) (Op.indexAddr 164 (Operand.global 0) (Operand.tmp 10)) 0 "bits.go:105" #[Edge.mk 5 Ground.data] none) (evO [Row.mk (some 10) none (int u64 (Int.fdiv (IntKind.wrap u64 (u1*285870213051353865)) (2^58))) false (some []) [],Row.mk (some 9) none (int u64 (IntKind.wrap u64 (u1*285870213051353865))) false (some []) [],Row.mk (some 8) none (int u64 u1) false (some []) [],Row.mk (some 7) none (int u64 (IntKind.wrap u64 (0-u2))) false (some []) [],Row.mk (some 6) none (int u64 u2) false (some []) [],Row.mk (some 5) none (int u64 u2) false (some []) []] [(0,int u64 u2),(4,AV.bool (u2==0))] []) [] g (fp 1 fun x=>int IntKind.u8 (↑k:Int)) [] g/\1<=1/\Q AEx.ret (St.mk [(2,i6 (IntKind.wrap i64 (↑k:Int)))] [] g))) ((↑s:Int))) (IntKind.wrap u64 (↑(BitVec.toNat (BitVec.ofInt 64 (↑s:Int)&&&BitVec.ofInt 64 (IntKind.wrap u64 (0-(↑s:Int))))):Int))) ⟨fun c1=>have c1:(↑s:Int)=0:=(beq_iff_eq.mp c1);?_,fun c1=>have c1:¬(↑s:Int)=0:=(beq_eq_false_iff_ne.mp c1);⟨omg,?_,omg,?_⟩⟩
 ·exact absurd c1 omg
 ·exact wl (gs:=gsT) 0 gN (by simp) rfl rfl rfl (i:=iF s) rfl krf hI.1 (by rw[show(gN.length:Int)=64 from rfl];exact hI.2.1) hI.2.2
 ·refine(av (aX _ _ rfl trivial rfl rfl rfl) (AN ?_))
  show(i6 (IntKind.wrap i64 (↑k:Int)))=_
  show AV.int .i64 _=AV.int .i64 _
  congr 1
  rw[IntKind.wrap_i64]
  omega
theorem gP (R:Res)(a:Nat)(ha:a<25)(hp:List AObj)(g:R.σ):Does Tryd.prog R 79 [.int .i64 a] hp g (.ret (.int .u64 ((2^a:Nat):Int))) hp g:=by
 refine bN (fun R g=>?_) (by exact⟨trivial,trivial⟩) R hp g
 refine spW (nt:=5) (rs:=[.tmp 2]) (k0:=0) ?_
 refine vcR [] (lkL [(0,[0]),(1,[2])]) (fun _=>[]) (fun Q=>0<=(↑a:Int)/\Q AEx.ret (St.mk [(2,int u64 (IntKind.wrap u64 (1*2^min a 64)))] [] g)) ⟨omg,?_⟩
 refine(av (aX _ _ rfl trivial rfl rfl rfl) (AN ?_))
 show(int u64 (IntKind.wrap u64 (1*2^min a 64)))=_
 show AV.int .u64 _=AV.int .u64 _
 congr 1
 have h:(List.range 25).all (fun a=>decide (IntKind.u64.wrap (1*2^(min (a:Int).toNat 64))=((2^a:Nat):Int)))=true:=by decide +kernel
 exact of_decide_eq_true ((List.all_eq_true.1 h) a (List.mem_range.2 ha))
theorem xq {s a:Nat}(hs:s<2^64)(ha:a<64):(IntKind.u64.wrap ↑(BitVec.ofInt 64 ((s:Int).fdiv (2^min a 64))&&&BitVec.ofInt 64 1).toNat==1)=s.testBit a:=by
 have e:(s:Int).fdiv (2^min a 64)=((s/2^a:Nat):Int):=by
  rw[Nat.min_eq_left omg,Int.ofNat_fdiv]
  rfl
 have h1:s/2^a<2^64:=Nat.lt_of_le_of_lt (Nat.div_le_self _ _) hs
 rw[e,show BitVec.ofInt 64 1=BitVec.ofInt 64 ((1:Nat):Int) from rfl,Tb.u64_and h1 dcd,Nat.and_one_is_mod,Nat.testBit_eq_decide_div_mod_eq]
 rw[Bool.eq_iff_iff,beq_iff_eq,decide_eq_true_iff]
 omega
theorem jU (R:Res)(s a:Nat)(hs:s<2^24)(ha:a<24)(hp:List AObj)(g:R.σ):Does Tryd.prog R 71 [.int .u64 s,.int .i64 a] hp g (.ret (.bool (s.testBit a))) hp g:=by
 refine bN (fun R g=>?_) (by exact⟨trivial,trivial,trivial⟩) R hp g
 refine spW (nt:=10) (rs:=[.tmp 4]) (k0:=0) ?_
 refine vcR [] (lkL [(0,[0,1]),(1,[4])]) (fun _=>[]) (fun Q=>0<=(↑a:Int)/\Q AEx.ret (St.mk [(4,AV.bool (IntKind.wrap u64 (↑(BitVec.toNat (BitVec.ofInt 64 (Int.fdiv (↑s:Int) (2^min a 64))&&&BitVec.ofInt 64 1)):Int)==1))] [] g)) ⟨omg,?_⟩
 refine(av (aX _ _ rfl trivial rfl rfl rfl) (AN ?_))
 show(AV.bool (IntKind.wrap u64 (↑(BitVec.toNat (BitVec.ofInt 64 (Int.fdiv (↑s:Int) (2^min a 64))&&&BitVec.ofInt 64 1)):Int)==1))=_
 show AV.bool _=AV.bool _
 congr 1
 exact xq (bG hs) omg
theorem xu (R:Res)(n:Nat)(hn:n<=24)(hp:List AObj)(g:R.σ):Does Tryd.prog R 83 [.int .i64 n] hp g (.ret (.int .u64 ((2^n-1:Nat):Int))) hp g:=by
 refine bN (fun R g=>?_) (by exact⟨trivial,trivial⟩) R hp g
 refine spW (nt:=6) (rs:=[.tmp 2]) (k0:=0) ?_
 refine vcR [] (lkL [(0,[0]),(1,[2])]) (lkL [(1,[(1,ROrc.pcall (int u64 (↑(2^n):Int)))])]) (fun Q=>(∀(hp:List AObj) (g:R.σ),true=true/\Does Tryd.prog R 79 [i6 (↑n:Int)] hp g (ret (int u64 (↑(2^n):Int))) hp g)/\Q AEx.ret (St.mk [(2,int u64 (IntKind.wrap u64 ((↑(2^n):Int)-1)))] [] g)) ⟨(fun _ _=>⟨rfl,(gP _ _ omg _ _)⟩),?_⟩
 ·refine(av (aX _ _ rfl trivial rfl rfl rfl) (AN ?_))
  show(int u64 (IntKind.wrap u64 (2^n-1)))=_
  show AV.int .u64 _=AV.int .u64 _
  congr 1
  exact Tb.u64_sub (t:=1) (Nat.pow_lt_pow_right dcd omg) (Nat.pow_pos dcd)
theorem xw (R:Res)(s:Nat)(g:R.σ):Does Tryd.prog R 77 [.int .u64 s] [] g (.ret (.fn 105 0 (nth []) 1 (nth [.ref 0 0]))) [cO 1 (fun _=>.int .u64 s)] g:=by
 refine spW (nt:=4) (rs:=[.tmp 2]) (k0:=0) ?_
 refine vcR [] (lkL [(0,[1]),(1,[2])]) (fun _=>[]) (fun (Q:AEx->St R.σ->Prop)=>Q AEx.ret (St.mk [(2,fn 105 0 (nth []) 1 (nth [ref 0 0]))] [cO 1 fun (a:Nat)=>int u64 (↑s:Int)] g)) (?_)
 refine(av (aX _ _ rfl trivial rfl rfl rfl) (AM _))
theorem rJ:∀hp:List AObj,leH hp hp
 |[]=>trivial
 |x::r=>⟨AP x,rJ r⟩
theorem cQ (R:Res)(s:Nat)(hp:List AObj)(g:R.σ):Does Tryd.prog R 77 [.int .u64 s] hp g (.ret (.fn 105 0 (nth []) 1 (nth [.ref hp.length 0]))) (hp++[cO 1 (fun _=>.int .u64 s)]) g:=
 fB [] hp.length (fun R g=>xw R s g) rfl rfl rfl trivial trivial ⟨AM _,trivial⟩ (Le.fn (fun i hi=>absurd hi (Nat.not_lt_zero i)) (fun i hi=>by
  have:i=0:=by omega
  subst this
  exact AM _)) (rJ _)
theorem rK {c:Nat->Bool}{n k:Nat}(h:∀j,j<k->c j=true)(hk:k<n)(hc:c k=false):eZ c n 0=k+1:=by
 rcases kX c n 0 with⟨h1,_⟩|⟨i,_,h2,h3,h4,h5⟩
 ·rw[h1 k omg omg] at hc;cases hc
 ·rw[h5]
  rcases Nat.lt_trichotomy i k with hl|hl|hl
  ·rw[h i hl] at h4;cases h4
  ·rw[hl]
  ·rw[h3 k omg hl] at hc;cases hc
theorem xx {c:Nat->Bool}{n:Nat}(h:∀j,j<n->c j=true):eZ c n 0=n:=by
 rcases kX c n 0 with⟨_,h2⟩|⟨i,_,h2,_,h4,_⟩
 ·omega
 ·rw[h i omg] at h4;cases h4
def jV (s:Nat)(c:Nat->Bool):Nat:=if (List.range (ak s).length).all c then Tb.cutN s (ak s).length else Tb.cutN s (eZ c (ak s).length 0-1)
theorem xy {s:Nat}{c:Nat->Bool}{k:Nat}(h:∀j,j<k->c j=true)(hk:k<(ak s).length)(hc:c k=false):jV s c=Tb.cutN s k:=by
 have e:(List.range (ak s).length).all c=false:=by
  rw[List.all_eq_false]
  exact⟨k,by simpa using hk,by simp[hc]⟩
 unfold jV
 rw[e,rK h hk hc]
 rfl
theorem xz {s:Nat}{c:Nat->Bool}(h:∀j,j<(ak s).length->c j=true):jV s c=Tb.cutN s (ak s).length:=by
 have e:(List.range (ak s).length).all c=true:=by
  rw[List.all_eq_true]
  intro j hj
  exact h j (by simpa using hj)
 unfold jV
 rw[e]
 rfl
theorem lz (s:Nat)(hs:s<2^24):SeqO Tryd.prog 105 (cO 1 (fun _=>.int .u64 s)) (ak s).length (fun k=>[.int .i64 ((ak s).getD k 0)]) LT:=by
 refine⟨fun R _ u G c hu=>⟨[cO 1 (fun _=>.int .u64 (jV s c))],rfl,?_⟩⟩
 refine spW (nt:=14) (rs:=[]) (k0:=1) ?_
 refine vcR [] (lkL []) (fun _=>[]) (fun (Q:AEx->St R.σ->Prop)=>WpC Tryd.prog R 14 1 105 [0] Q [Kont.blk 0] (St.mk [(0,val u),(1,ref 0 0)] [cO 1 fun (x:Nat)=>int u64 (↑s:Int)] (G 0))) (?_)
 refine(bi krf (fun (k:Nat)=>⟨[(0,val u),(1,ref 0 0)],[cO 1 (fun _=>.int .u64 (Tb.cutN s k))],(G k)⟩) (fun (k:Nat)=>(k<=(ak s).length/\∀j,j<k->c j=true)) (fun (k:Nat)=>((ak s).length-k)) 0 (toL) ?_ (fun k hi=>?_))
 ·exact⟨Nat.zero_le _,fun j hj=>absurd hj omg⟩
 ·obtain⟨h1,h2⟩:=hi
  have hlt:=Tb.cutN_lt hs k
  rcases Nat.lt_or_ge k (ak s).length with hk|hk
  ·obtain⟨m,hm⟩:=Tb.cutN_in hs hk
   have hy:=hu k hk (fun j hj=>h2 j hj)
   obtain⟨q,hq⟩:∃q,(ak s).getD k 0=q:=⟨_,rfl⟩
   rw[hq] at hy hm
   have hpos:0<Tb.cutN s k:=by
    rw[hm]
    exact Nat.mul_pos (Nat.pow_pos dcd) omg
   have hb:(((Tb.cutN s k:Nat):Int) != 0)=true:=by
    rw[bne_iff_ne];omega
   rw[<-ly hm hlt] at hy
   refine vcR [[0,0,0,1,1]] (lkL [(0,[0,1,4]),(2,[0,1,13]),(1,[0,1])]) (lkL [(2,[(2,ROrc.kcall (i6 (↑(gO (Tb.cutN s k)):Int))),(3,ROrc.gcall (AV.bool (c k)) (G (k+1)))]),(1,[(4,ROrc.val (Orc.obj (nth [int u64 (IntKind.wrap u64 (↑(BitVec.toNat (BitVec.ofInt 64 (↑(Tb.cutN s k):Int)&&&BitVec.ofInt 64 (IntKind.wrap u64 ((↑(Tb.cutN s k):Int)-1)))):Int))])))])]) (fun Q=>(fun (u1:Int)=>(fun (u2:AV)=>(fun (u3:List AObj)=>1<=1/\((u1 != 0)=true->1<=1/\(true=true/\Does Tryd.prog R 106 [int u64 u1] u3 (G k) (ret (i6 (↑(gO (Tb.cutN s k)):Int))) u3 (G k))/\VDoes Tryd.prog R u [i6 (↑(gO (Tb.cutN s k)):Int)] u3 (G k) (ret (AV.bool (c k))) u3 (G (k+1))/\((!c k)=true->Q AEx.ret (St.mk [(0,val u),(1,ref 0 0),(13,AV.bool !c k)] u3 (G (k+1))))/\((!c k)=false->1<=1/\1<=1/\1<=1/\(∀(c:Nat),c<1->nth [u2] c=ao (fun (x:Nat)=>int u64 u1) 0 1 (fun (x:Nat)=>u2) c)/\Q AEx.normal (St.mk [(0,val u),(1,ref 0 0)] [cO 1 (nth [u2])] (G (k+1)))))/\((u1 != 0)=false->WpC Tryd.prog R 14 1 105 [0,0,0,1,1] Q [Kont.seq [0,0,1]] (St.mk [(0,val u),(1,ref 0 0),(4,AV.bool (u1 != 0))] u3 (G k)))) ([cO 1 fun x=>int u64 u1])) (int u64 (IntKind.wrap u64 (↑(BitVec.toNat (BitVec.ofInt 64 u1&&&BitVec.ofInt 64 (IntKind.wrap u64 (u1-1)))):Int)))) ((↑(Tb.cutN s k):Int))) ⟨omg,fun _=>⟨omg,⟨rfl,(doT (T:=LT) [] 1 (fun R _ g=>rI R (Tb.cutN s k) omg omg g))⟩,(hy _),fun c1=>have c1:c k=false:=((Bool.not_eq_true' _).mp c1);?_,fun c1=>have c1:c k=true:=((Bool.not_eq_false' _).mp c1);⟨omg,omg,omg,(fun c hc=>match c,hc with|0,_=>krf ),?_⟩⟩,fun hcc=>(nomatch (hb.symm.trans hcc))⟩
   ·rw[rK h2 hk c1,xy h2 hk c1]
    refine⟨_,A0 _,(av (aX _ _ rfl trivial rfl rfl rfl) (AM _))⟩
   ·refine(aW (k+1) (toL (h2:=⟨⟨rfl,Nat.le_refl _,fun j hj=>match j,hj with|0,_=>(AN ?_) ⟩,trivial⟩)) ?_ ?_)
    ·show AV.int .u64 _=AV.int .u64 _
     congr 1
     exact Tb.u64_cut hpos (bG hlt)
    ·refine⟨omg,fun j hj=>?_⟩
     rcases Nat.lt_or_ge j k with h|h
     ·exact h2 j h
     ·have:j=k:=by omega
      subst this;exact c1
    ·omega
  ·have hk':k=(ak s).length:=by omega
   subst hk'
   have hz:=Tb.cutN_end hs
   have hb:(((Tb.cutN s (ak s).length:Nat):Int) != 0)=false:=by rw[hz];rfl
   refine vcR [[0,0,0,1,0]] (lkL [(0,[0,1,4])]) (fun _=>[]) (fun Q=>(fun (u1:Int)=>(fun (u2:St R.σ)=>1<=1/\((u1 != 0)=true->WpC Tryd.prog R 14 1 105 [0,0,0,1,0] Q [Kont.seq [0,0,1]] u2)/\((u1 != 0)=false->Q (AEx.exit 0) u2)) (St.mk [(0,val u),(1,ref 0 0),(4,AV.bool (u1 != 0))] [cO 1 fun x=>int u64 u1] (G (List.length (ak s))))) ((↑(Tb.cutN s (List.length (ak s))):Int))) ⟨omg,fun hcc=>(nomatch (hb.symm.trans hcc)),fun _=>?_⟩
   rw[xx h2,xz h2]
   refine⟨_,A0 _,(av (aX _ _ rfl trivial rfl rfl rfl) (AM _))⟩
def jW (v:Nat->Int):AV:=.agg 24 (fun j=>.int .i64 (v j))
theorem rr (v:Nat->Int):Below 0 (jW v):=dW.2 (fun _ _=>trivial)
def lA (k:Nat):Nat->AV:=fun j=>.int .i64 (if j<k then 3 else 0)
theorem rL {j:Nat}(hj:j<24):nth [.int .i64 0,.int .i64 0,.int .i64 0,.int .i64 0,.int .i64 0,.int .i64 0,.int .i64 0,.int .i64 0,.int .i64 0,.int .i64 0,.int .i64 0,.int .i64 0,.int .i64 0,.int .i64 0,.int .i64 0,.int .i64 0,.int .i64 0,.int .i64 0,.int .i64 0,.int .i64 0,.int .i64 0,.int .i64 0,.int .i64 0,.int .i64 0] j=lA 0 j:=by
 match j,hj with
 |0,_=>rfl
 |1,_=>rfl
 |2,_=>rfl
 |3,_=>rfl
 |4,_=>rfl
 |5,_=>rfl
 |6,_=>rfl
 |7,_=>rfl
 |8,_=>rfl
 |9,_=>rfl
 |10,_=>rfl
 |11,_=>rfl
 |12,_=>rfl
 |13,_=>rfl
 |14,_=>rfl
 |15,_=>rfl
 |16,_=>rfl
 |17,_=>rfl
 |18,_=>rfl
 |19,_=>rfl
 |20,_=>rfl
 |21,_=>rfl
 |22,_=>rfl
 |23,_=>rfl
 |n+24,h=>exact absurd h omg
theorem xA (R:Res)(hp:List AObj)(g:R.σ):Does Tryd.prog R 99 [] hp g (.ret (jW (fun _=>3))) hp g:=by
 refine bN (fun R g=>?_) (by exact trivial) R hp g
 refine spW (nt:=10) (rs:=[.cell 0 95]) (k0:=0) ?_
 refine vcR [] (lkL [(0,[0]),(1,[0,1]),(2,[0,1,3])]) (fun _=>[]) (fun (Q:AEx->St R.σ->Prop)=>WpC Tryd.prog R 10 0 99 [1,1,0,1,0] Q [Kont.blk 0,Kont.seq [1,1,1]] (St.mk [(0,ref 0 0),(1,ref 1 0),(3,i6 0)] [cO 24 (nth [i6 0,i6 0,i6 0,i6 0,i6 0,i6 0,i6 0,i6 0,i6 0,i6 0,i6 0,i6 0,i6 0,i6 0,i6 0,i6 0,i6 0,i6 0,i6 0,i6 0,i6 0,i6 0,i6 0,i6 0]),cO 24 (nth [i6 0,i6 0,i6 0,i6 0,i6 0,i6 0,i6 0,i6 0,i6 0,i6 0,i6 0,i6 0,i6 0,i6 0,i6 0,i6 0,i6 0,i6 0,i6 0,i6 0,i6 0,i6 0,i6 0,i6 0])] g)) (?_)
 refine(bi krf (fun (k:Nat)=>⟨[(0,ref 0 0),(1,ref 1 0),(3,.int .i64 k)],[cO 24 (lA 0),cO 24 (lA k)],g⟩) (fun (k:Nat)=>(k<=24)) (fun (k:Nat)=>(24-k)) 0 (toL (h1:=⟨AM _,AM _,(AN krf),trivial⟩) (h2:=⟨(AY (fun j hj=>?_)),(AY (fun j hj=>?_)),trivial⟩)) ?_ (fun k hi=>?_))
 ·exact rL hj
 ·exact rL hj
 ·omega
 ·refine vcR [] (lkL [(3,[0,1,3,4]),(4,[0,1,2,3]),(5,[0,1,3]),(6,[0,1,3])]) (fun _=>[]) (fun Q=>(fun (u1:Int)=>(fun (u2:AObj)=>(decide (u1<24)=true->(0<=u1/\u1<(↑24:Int))/\k+1<=24/\(-9223372036854775808<=u1+1/\u1+1<=9223372036854775807)/\Q AEx.normal (St.mk [(0,ref 0 0),(1,ref 1 0),(3,i6 (u1+1))] [u2,cO 24 (ao (fun (a:Nat)=>i6 (if a<k then 3 else 0)) k 1 fun x=>i6 3)] g))/\(decide (u1<24)=false->Q (AEx.exit 0) (St.mk [(0,ref 0 0),(1,ref 1 0),(3,i6 u1),(4,AV.bool (decide (u1<24)))] [u2,cO 24 fun a=>i6 (if a<k then 3 else 0)] g))) (cO 24 fun a=>i6 (if a<0 then 3 else 0))) ((↑k:Int))) ⟨fun c1=>have c1:(↑k:Int)<24:=(of_decide_eq_true c1);⟨omg,omg,omg,?_⟩,fun c1=>have c1:¬(↑k:Int)<24:=(of_decide_eq_false c1);?_⟩
  ·refine(aW (k+1) (toL (h1:=⟨AM _,AM _,(AN krf),trivial⟩) (h2:=⟨AO,(AY (fun j hj=>?_)),trivial⟩)) ?_ ?_)
   ·unfold lA
    rw[eD]
    split
    ·have:j=k:=by omega
     subst this
     simp
    ·have:(j<k)=(j<k+1):=by apply propext;omega
     simp only[this]
   ·omega
   ·omega
  ·have hk:k=24:=by omega
   subst hk
   refine⟨_,A0 _,vcR [] (lkL [(7,[0])]) (fun _=>[]) (fun Q=>24<=24/\24<=24/\Q AEx.ret (St.mk [(0,ref 0 0)] [cO 24 (ao (fun (a:Nat)=>i6 (if a<0 then 3 else 0)) 0 24 fun j=>i6 ((fun (j:Nat)=>if j<24 then 3 else 0) j)),cO 24 fun a=>i6 (if a<24 then 3 else 0)] g)) ⟨omg,omg,?_⟩⟩
   refine(av (bE (agg 24 (ao (fun (a:Nat)=>i6 (if a<0 then 3 else 0)) 0 24 fun (j:Nat)=>i6 (if j<24 then 3 else 0))) ([0+(TyI.mk ((fun (x:TypeInfo)=>x.desc) Tryd.prog.types[94]) Tryd.prog.types[95].size Tryd.prog.types[95].bytes (cd (dk (Value.agg #[Value.int i64 0,Value.int i64 0,Value.int i64 0,Value.int i64 0,Value.int i64 0,Value.int i64 0,Value.int i64 0,Value.int i64 0,Value.int i64 0,Value.int i64 0,Value.int i64 0,Value.int i64 0,Value.int i64 0,Value.int i64 0,Value.int i64 0,Value.int i64 0,Value.int i64 0,Value.int i64 0,Value.int i64 0,Value.int i64 0,Value.int i64 0,Value.int i64 0,Value.int i64 0,Value.int i64 0]))) (cL ((fun (x:TypeInfo)=>x.desc) Tryd.prog.types[94])) (dI Tryd.prog 95)).size<=24]) krf (by exact⟨dcd,trivial⟩) ⟨⟨⟨⟨⟨⟨⟨⟨⟨⟨⟨⟨⟨⟨⟨⟨⟨⟨⟨⟨⟨⟨⟨⟨trivial,trivial⟩,trivial⟩,trivial⟩,trivial⟩,trivial⟩,trivial⟩,trivial⟩,trivial⟩,trivial⟩,trivial⟩,trivial⟩,trivial⟩,trivial⟩,trivial⟩,trivial⟩,trivial⟩,trivial⟩,trivial⟩,trivial⟩,trivial⟩,trivial⟩,trivial⟩,trivial⟩,trivial⟩ rfl) (AS (fun j hj=>?_)))
   ·exact AN (by rw[eD];simp[hj])
def bc (v:Nat->Int)(l:Lit):Int:=if !l.neg||v l.atom.toNat==3 then v l.atom.toNat else if v l.atom.toNat==2 then 1 else 2
def ad (p:Prg)(v:Nat->Int)(m:AV):Nat->AV:=fun j=>if j=0 then .int .i64 p.atoms else if j=1 then ae p.rules else if j<26 then .int .i64 (v (j-2)) else m
theorem d5 {p:Prg}{v:Nat->Int}{m:AV}{k j:Nat}(e:k=j+2)(h:j<24):ad p v m k=.int .i64 (v j):=by
 subst e
 unfold ad
 rw[if_neg omg,if_neg omg,if_pos omg]
 rfl
theorem aZ (p:Prg)(v:Nat->Int)(k j:Nat):Below (k+2) (ad p v (.mp 1) j):=by
 unfold ad
 split
 ·trivial
 ·split
  ·trivial
  ·split
   ·trivial
   ·exact(Nat.lt_add_left k (Nat.lt_succ_self 1):1<k+2)
theorem cz {f:Nat->Nat}(h:f 1=1){p:Prg}{v:Nat->Int}{j:Nat}:aI f (ad p v (.mp 1) j)=ad p v (.mp 1) j:=by
 unfold ad
 split
 ·rfl
 ·split
  ·rfl
  ·split
   ·rfl
   ·show AV.mp (f 1)=_
    rw[h]
theorem rM (R:Res)(p:Prg)(v:Nat->Int)(es:List (Value × AV))(l:Lit)(h:0<=l.atom/\l.atom<24)(g:R.σ):Does Tryd.prog R 119 [.ref 0 2,ca l] [cO 27 (ad p v (.mp 1)),.map es] g (.ret (.int .i64 (bc v l))) [cO 27 (ad p v (.mp 1)),.map es] g:=by
 refine spW (nt:=24) (rs:=[.tmp 4]) (k0:=2) ?_
 refine vcR [] (lkL [(0,[0,3]),(1,[3,5]),(2,[5,12]),(4,[21]),(5,[4]),(3,[4]),(6,[4])]) (lkL [(1,[(5,ROrc.kop (i6 (v (Int.toNat l.atom))))])]) (fun Q=>(fun (u1:List AObj)=>(fun (u2:Int)=>Flw Tryd.prog/\1<=2/\(0<=l.atom/\l.atom<(↑24:Int))/\OpOk Tryd.prog R (Oper.mk (some 11) (Op.load 43 (Operand.tmp 10)) 43 "table.go:76" #[Edge.mk 4 Ground.data] none) (evO [Row.mk (some 10) none (ref 0 (Int.toNat l.atom+2)) false (some []) [],Row.mk (some 9) none (ref 0 2) false (some []) [],Row.mk (some 8) none (i6 l.atom) false (some []) [2],Row.mk (some 7) none (ref 2 0) false (some []) [],Row.mk (some 6) none (ref 0 2) false (some []) []] [(0,ref 0 2),(3,ref 2 0)] []) u1 g (i6 u2) u1 g/\2<=2/\((bif !l.neg then true else u2==3)=true->Q AEx.ret (St.mk [(4,i6 u2)] u1 g))/\((bif !l.neg then true else u2==3)=false->((u2==2)=true->Q AEx.ret (St.mk [(4,i6 1)] u1 g))/\((u2==2)=false->Q AEx.ret (St.mk [(4,i6 2)] u1 g)))) (v (Int.toNat l.atom))) ([cO 27 (ad p v (AV.mp 1)),AObj.map es,cO 2 (nth [i6 l.atom,AV.bool l.neg])])) ⟨krf,omg,omg,?_,omg,fun c1=>have c1:l.neg=false∨v (Int.toNat l.atom)=3:=((ek c1).imp (fun h=>((Bool.not_eq_true' _).mp h)) (fun h=>(beq_iff_eq.mp h)));?_,fun c1=>have c1:l.neg=true/\¬v (Int.toNat l.atom)=3:=⟨((Bool.not_eq_false' _).mp (bQ c1).1),(beq_eq_false_iff_ne.mp (bQ c1).2)⟩;⟨fun c2=>have c2:v (Int.toNat l.atom)=2:=(beq_iff_eq.mp c2);?_,fun c2=>have c2:¬v (Int.toNat l.atom)=2:=(beq_eq_false_iff_ne.mp c2);?_⟩⟩
 ·exact dY rfl rfl krf rfl (by show _+1<=27;omega) (d5 omg omg)
 ·refine(av (bZ 2 _ _ rfl trivial omg trivial ⟨(fun _ _=>(by first|exact trivial|apply aZ)),trivial⟩ krf rfl rfl) (AN ?_))
  show(i6 (v (Int.toNat l.atom)))=_
  show AV.int .i64 _=AV.int .i64 _
  unfold bc
  rcases c1 with h1|h1 <;> simp[h1]
 ·refine(av (bZ 2 _ _ rfl trivial omg trivial ⟨(fun _ _=>(by first|exact trivial|apply aZ)),trivial⟩ krf rfl rfl) (AN ?_))
  show(i6 1)=_
  show AV.int .i64 _=AV.int .i64 _
  unfold bc
  simp[c1.1,c2]
 ·refine(av (bZ 2 _ _ rfl trivial omg trivial ⟨(fun _ _=>(by first|exact trivial|apply aZ)),trivial⟩ krf rfl rfl) (AN ?_))
  show(i6 2)=_
  show AV.int .i64 _=AV.int .i64 _
  unfold bc
  simp[c1.1,c1.2,c2]
theorem xB (R:Res)(p:Prg)(v:Nat->Int)(es:List (Value × AV))(l:Lit)(h:0<=l.atom/\l.atom<24)(g:R.σ):Does Tryd.prog R 118 [ca l,.ref 2 0] [cO 27 (ad p v (.mp 1)),.map es,cO 1 (fun _=>.ref 0 2)] g (.ret (.bool (bc v l != 2))) [cO 27 (ad p v (.mp 1)),.map es,cO 1 (fun _=>.ref 0 2)] g:=by
 refine spW (nt:=8) (rs:=[.tmp 3]) (k0:=3) ?_
 refine vcR [] (lkL [(0,[1,2]),(1,[3])]) (lkL [(1,[(2,ROrc.kcall (i6 (bc v l)))])]) (fun Q=>(fun (u1:List AObj)=>1<=1/\2<=2/\(true=true/\Does Tryd.prog R 119 [ref 0 2,ca l] u1 g (ret (i6 (bc v l))) u1 g)/\Q AEx.ret (St.mk [(3,AV.bool (bc v l != 2))] u1 g)) ([cO 27 (ad p v (AV.mp 1)),AObj.map es,cO 1 fun x=>ref 0 2,cO 2 (nth [i6 l.atom,AV.bool l.neg])])) ⟨omg,omg,⟨rfl,(doS [0,1] 4 (fun R g=>rM R (p) (v) (es) (l) omg g))⟩,?_⟩
 refine(av (bZ 3 _ _ rfl trivial omg trivial ⟨(fun _ _=>(by first|exact trivial|apply aZ)),(fun j hj=>match j,hj with|0,_=>(show 1<=3 by omega) ),trivial⟩ krf rfl rfl) (AM _))
def cb (v:Nat->Int)(r:Rule):Bool:= !r.body.l.any (fun l=>bc v l != 2)
def lB (r:Rule):Prop:=r.body.l.length<1000000/\∀l,l∈r.body.l->0<=l.atom/\l.atom<24
theorem lC (R:Res)(p:Prg)(v:Nat->Int)(es:List (Value × AV))(r:Rule)(h:lB r)(g:R.σ):Does Tryd.prog R 114 [.ref 0 2,bU r] [cO 27 (ad p v (.mp 1)),.map es] g (.ret (.bool (cb v r))) [cO 27 (ad p v (.mp 1)),.map es] g:=by
 have h1:=h.1
 have hb:=h.2
 refine spW (nt:=10) (rs:=[.tmp 4]) (k0:=2) ?_
 refine vcR [] (lkL [(0,[2,3]),(1,[4])]) (lkL [(1,[(3,ROrc.kcall (AV.bool (List.any r.body.l fun (r:Lit)=>bc v r != 2)))])]) (fun Q=>(fun (u1:List AObj)=>2<=2/\(true=true/\Does Tryd.prog R 50 [ap r.body,fn 118 0 (nth []) 1 (nth [ref 2 0])] u1 g (ret (AV.bool (List.any r.body.l fun (r:Lit)=>bc v r != 2))) u1 g)/\Q AEx.ret (St.mk [(4,AV.bool !List.any r.body.l fun (r:Lit)=>bc v r != 2)] u1 g)) ([cO 27 (ad p v (AV.mp 1)),AObj.map es,cO 1 fun a=>ref 0 2,cO 2 (nth [i6 r.head,ap r.body])])) ⟨omg,⟨rfl,(jT _ _ _ _ _ _ _ _ _ _ omg krf (fun r _=>(doS [0,1,2] 4 (fun R g=>xB R (p) (v) (es) (r) ?_ g))))⟩,?_⟩
 ·exact hb _ (by assumption)
 ·refine(av (bZ 2 _ _ rfl trivial omg trivial ⟨(fun _ _=>(by first|exact trivial|apply aZ)),trivial⟩ krf rfl rfl) (AN krf))
def aG (v:Nat->Int)(x:Int)(n:Nat):Nat:=(List.range n).foldl (fun s a=>if v a=x then s|||2^a else s) 0
theorem iG (v:Nat->Int)(x:Int)(n:Nat):aG v x (n+1)=if v n=x then aG v x n|||2^n else aG v x n:=by
 unfold aG
 rw[List.range_succ,List.foldl_append]
 rfl
theorem lE (v:Nat->Int)(x:Int)(n:Nat):aG v x n<2^n:=by
 induction n with
 |zero=>exact Nat.zero_lt_one
 |succ n ih=>
  rw[iG]
  have h1:aG v x n<2^(n+1):=Nat.lt_trans ih (Nat.pow_lt_pow_right dcd omg)
  split
  ·exact Nat.or_lt_two_pow h1 (Nat.pow_lt_pow_right dcd omg)
  ·exact h1
theorem xC (R:Res)(p:Prg)(v:Nat->Int)(es:List (Value × AV))(n:Nat)(x:Int)(h:n<=24)(g:R.σ):Does Tryd.prog R 76 [.ref 0 2,.int .i64 n,.int .i64 x] [cO 27 (ad p v (.mp 1)),.map es] g (.ret (.int .u64 (aG v x n))) [cO 27 (ad p v (.mp 1)),.map es] g:=by
 refine spW (nt:=26) (rs:=[.tmp 6]) (k0:=2) ?_
 refine vcR [] (lkL [(0,[0,1,2]),(1,[0,1,2,7]),(2,[0,2,7,9,10])]) (fun _=>[]) (fun (Q:AEx->St R.σ->Prop)=>WpC Tryd.prog R 26 2 76 [1,1,0,1,0] Q [Kont.blk 0,Kont.seq [1,1,1]] (St.mk [(0,ref 0 2),(2,i6 x),(7,int u64 0),(9,i6 (↑n:Int)),(10,i6 0)] [cO 27 (ad p v (AV.mp 1)),AObj.map es] g)) (?_)
 refine(bi krf (fun (k:Nat)=>⟨[(0,ref 0 2),(2,i6 x),(7,.int .u64 (aG v x k)),(9,i6 (n:Int)),(10,.int .i64 k)],[cO 27 (ad p v (AV.mp 1)),AObj.map es],g⟩) (fun (k:Nat)=>(k<=n)) (fun (k:Nat)=>(n-k)) 0 (aY ⟨AM _,AM _,(AN krf),AM _,(AN krf),trivial⟩ rfl rfl) ?_ (fun k hi=>?_))
 ·omega
 ·refine vcR [] (lkL [(3,[0,2,7,9,10,11]),(4,[0,2,7,8,9,10]),(5,[0,2,7,8,9,10,19]),(6,[0,2,7,9,10]),(7,[0,2,7,9,10])]) (lkL [(5,[(4,ROrc.kop (i6 (v k)))]),(6,[(2,ROrc.pcall (int u64 (↑(2^k):Int)))])]) (fun Q=>(fun (u1:List AObj)=>(fun (u2:Int)=>(fun (u3:Int)=>(fun (u4:Int)=>(decide (u2<u3)=true->(0<=u2/\u2<(↑24:Int))/\OpOk Tryd.prog R (Oper.mk (some 17) (Op.load 43 (Operand.tmp 16)) 43 "table.go:67" #[Edge.mk 3 Ground.data] none) (evO [Row.mk (some 16) none (ref 0 (k+2)) false (some []) [],Row.mk (some 15) none (ref 0 2) false (some []) [],Row.mk (some 14) none (i6 u2) false (some []) [],Row.mk (some 13) none (ref 0 2) false (some []) []] [(0,ref 0 2),(2,i6 x),(7,int u64 u4),(8,i6 u2),(9,i6 u3),(10,i6 u2)] []) u1 g (i6 (v k)) u1 g/\((v k==x)=true->(∀(hp:List AObj) (g:R.σ),true=true/\Does Tryd.prog R 79 [i6 u2] hp g (ret (int u64 (↑(2^k):Int))) hp g)/\(-9223372036854775808<=u2+1/\u2+1<=9223372036854775807)/\Q AEx.normal (St.mk [(0,ref 0 2),(2,i6 x),(7,int u64 (IntKind.wrap u64 (↑(BitVec.toNat (BitVec.ofInt 64 u4|||BitVec.ofInt 64 (↑(2^k):Int))):Int))),(9,i6 u3),(10,i6 (u2+1))] u1 g))/\((v k==x)=false->(-9223372036854775808<=u2+1/\u2+1<=9223372036854775807)/\Q AEx.normal (St.mk [(0,ref 0 2),(2,i6 x),(7,int u64 u4),(9,i6 u3),(10,i6 (u2+1))] u1 g)))/\(decide (u2<u3)=false->Q (AEx.exit 0) (St.mk [(0,ref 0 2),(2,i6 x),(7,int u64 u4),(9,i6 u3),(10,i6 u2),(11,AV.bool (decide (u2<u3)))] u1 g))) ((↑(aG v x k):Int))) ((↑n:Int))) ((↑k:Int))) ([cO 27 (ad p v (AV.mp 1)),AObj.map es])) ⟨fun c1=>have c1:(↑k:Int)<(↑n:Int):=(of_decide_eq_true c1);⟨omg,?_,fun c2=>have c2:v k=x:=(beq_iff_eq.mp c2);⟨(fun _ _=>⟨rfl,(gP _ _ omg _ _)⟩),omg,?_⟩,fun c2=>have c2:¬v k=x:=(beq_eq_false_iff_ne.mp c2);⟨omg,?_⟩⟩,fun c1=>have c1:¬(↑k:Int)<(↑n:Int):=(of_decide_eq_false c1);?_⟩
  ·exact dY rfl rfl krf rfl (by show _+1<=27;omega) (d5 omg omg)
  ·refine(aW (k+1) (aY ⟨AM _,AM _,(AN ?_),AM _,(AN krf),trivial⟩ rfl rfl) ?_ ?_)
   ·show AV.int .u64 _=AV.int .u64 _
    congr 1
    rw[iG,if_pos c2]
    exact Tb.u64_or (bG (Nat.lt_of_lt_of_le (lE v x k) (Nat.pow_le_pow_right dcd omg))) (bG (Nat.pow_lt_pow_right dcd omg))
   ·omega
   ·omega
  ·refine(aW (k+1) (aY ⟨AM _,AM _,(AN ?_),AM _,(AN krf),trivial⟩ rfl rfl) ?_ ?_)
   ·show AV.int .u64 _=AV.int .u64 _
    rw[iG,if_neg c2]
   ·omega
   ·omega
  ·have hk:k=n:=by omega
   subst hk
   refine⟨_,A0 _,vcR [] (lkL [(8,[6])]) (fun _=>[]) (fun (Q:AEx->St R.σ->Prop)=>Q AEx.ret (St.mk [(6,int u64 (↑(aG v x k):Int))] [cO 27 (ad p v (AV.mp 1)),AObj.map es] g)) (?_)⟩
   refine(av (aX _ _ rfl trivial rfl rfl rfl) (AM _))
def eH (s out:Nat)(l:Lit):Bool:=if l.neg then s.testBit l.atom.toNat else !out.testBit l.atom.toNat
theorem rN (R:Res)(s out:Nat)(l:Lit)(h:0<=l.atom/\l.atom<24)(hs:s<2^24)(ho:out<2^24)(g:R.σ):Does Tryd.prog R 107 [ca l,.ref 0 0,.ref 1 0] [cO 1 (fun _=>.int .u64 s),cO 1 (fun _=>.int .u64 out)] g (.ret (.bool (eH s out l))) [cO 1 (fun _=>.int .u64 s),cO 1 (fun _=>.int .u64 out)] g:=by
 obtain⟨n,hn⟩:∃n:Nat,l.atom=n:=⟨l.atom.toNat,omg⟩
 obtain⟨at',ng⟩:=l
 simp only at hn h
 subst hn
 have hs':=bG hs
 have ho':=bG ho
 refine spW (nt:=25) (rs:=[.tmp 4]) (k0:=2) ?_
 refine vcR [] (lkL [(0,[1,2,3]),(1,[4])]) (lkL [(1,[(6,ROrc.pcall (AV.bool (Nat.testBit s n))),(16,ROrc.pcall (AV.bool (Nat.testBit out n)))])]) (fun Q=>(fun (u1:Bool)=>2<=2/\(ng=true->1<=1)/\(ng=true->1<=2)/\(ng=true->∀(hp:List AObj) (g:R.σ),true=true/\Does Tryd.prog R 71 [int u64 (↑s:Int),i6 (↑n:Int)] hp g (ret (AV.bool (Nat.testBit s n))) hp g)/\((!u1)=true->2<=2)/\((!u1 && !ng)=true->1<=1)/\((!u1 && !ng)=true->1<=2)/\((!u1 && !ng)=true->∀(hp:List AObj) (g:R.σ),true=true/\Does Tryd.prog R 71 [int u64 (↑out:Int),i6 (↑n:Int)] hp g (ret (AV.bool (Nat.testBit out n))) hp g)/\Q AEx.ret (St.mk [(4,AV.bool (bif u1 then true else bif !ng then !Nat.testBit out n else false))] [cO 1 fun x=>int u64 (↑s:Int),cO 1 fun x=>int u64 (↑out:Int),cO 2 (nth [i6 (↑n:Int),AV.bool ng])] g)) (bif ng then Nat.testBit s n else false)) ⟨omg,omg,omg,(fun hgd=>(fun _ _=>⟨rfl,(jU _ _ _ omg omg _ _)⟩)),omg,omg,omg,(fun hgd=>(fun _ _=>⟨rfl,(jU _ _ _ omg omg _ _)⟩)),?_⟩
 refine(av (bZ 2 _ _ rfl trivial omg trivial ⟨(fun j hj=>match j,hj with|0,_=>trivial ),(fun j hj=>match j,hj with|0,_=>trivial ),trivial⟩ krf rfl rfl) (AN ?_))
 show(AV.bool (bif bif ng then Nat.testBit s n else false then true else bif !ng then !Nat.testBit out n else false))=_
 show AV.bool _=AV.bool _
 unfold eH
 cases ng <;> simp
def ge (s o:Nat)(r:Rule):Nat:=if r.body.l.any (eH s o) then o else o|||2^r.head.toNat
def bu (l:List Rule)(s o:Nat):Nat:=l.foldl (ge s) o
def jX (l:List Rule)(s:Nat):Nat->Nat->Nat
 |0,o=>o
 |n+1,o=>if bu l s o=o then o else jX l s n (bu l s o)
def fol (l:List Rule)(s:Nat):Nat:=jX l s (2^24+1) 0
def aE (r:Rule):Prop:=lB r/\0<=r.head/\r.head<24
theorem xD {s o:Nat}{r:Rule}:o<=ge s o r:=by
 unfold ge
 split
 ·exact Nat.le_refl _
 ·exact Nat.left_le_or
theorem xE {s o:Nat}{r:Rule}(h:r.head<24)(h0:0<=r.head)(ho:o<2^24):ge s o r<2^24:=by
 unfold ge
 split
 ·exact ho
 ·exact Nat.or_lt_two_pow ho (Nat.pow_lt_pow_right dcd omg)
theorem rO {l:List Rule}{s o i:Nat}(h:i<l.length):bu (l.take (i+1)) s o=ge s (bu (l.take i) s o) (l.getD i default):=by
 unfold bu
 rw[List.take_add_one,List.foldl_append,List.getElem?_eq_getElem h,List.getD_eq_getElem?_getD,List.getElem?_eq_getElem h]
 rfl
theorem rP {l:List Rule}{s o:Nat}(h:∀r,r∈l->aE r)(ho:o<2^24):bu l s o<2^24:=by
 unfold bu
 induction l generalizing o with
 |nil=>exact ho
 |cons r l ih=>
  have hr:=h r (List.mem_cons_self ..)
  exact ih (fun q hq=>h q (List.mem_cons_of_mem _ hq)) (xE hr.2.2 hr.2.1 ho)
theorem xF (l:List Rule)(s o:Nat):o<=bu l s o:=by
 unfold bu
 induction l generalizing o with
 |nil=>exact Nat.le_refl _
 |cons r l ih=>exact Nat.le_trans xD (ih _)
theorem e8 {l:List Rule}{i:Nat}(h:i<l.length):l.getD i default∈l:=by
 rw[List.getD_eq_getElem?_getD,List.getElem?_eq_getElem h,Option.getD_some]
 exact List.getElem_mem h
theorem d6 (R:Res)(a:Int)(ha:0<=a/\a<25)(hp:List AObj)(g:R.σ):Does Tryd.prog R 79 [.int .i64 a] hp g (.ret (.int .u64 ((2^a.toNat:Nat):Int))) hp g:=by
 obtain⟨n,rfl⟩:∃n:Nat,a=n:=⟨a.toNat,omg⟩
 exact gP R n omg hp g
theorem lF (R:Res)(p:Prg)(s:Nat)(hp:List AObj)(hl:p.rules.l.length<1000000)(hr:∀r,r∈p.rules.l->aE r)(hs:s<2^24)(g:R.σ):Does Tryd.prog R 80 [aw p,.int .u64 s] hp g (.ret (.int .u64 (fol p.rules.l s))) hp g:=by
 refine bN (fun R g=>?_) (by exact⟨⟨⟨trivial,trivial⟩,trivial⟩,trivial,trivial⟩) R hp g
 refine spW (nt:=34) (rs:=[.tmp 4]) (k0:=0) ?_
 refine vcR [] (lkL [(0,[2,3]),(1,[2,3,5]),(2,[2,3,5,6])]) (fun _=>[]) (fun (Q:AEx->St R.σ->Prop)=>WpC Tryd.prog R 34 0 80 [1,1,0,1,0] Q [Kont.blk 0,Kont.seq [1,1,1]] (St.mk [(2,ref 0 0),(3,ref 1 0),(5,ref 2 0),(6,int u64 1)] [cO 2 (nth [i6 p.atoms,ae p.rules]),cO 1 fun (a:Nat)=>int u64 (↑s:Int),cO 1 fun (a:Nat)=>int u64 0] g)) (?_)
 refine(bi krf (fun (x:Nat × Nat)=>⟨[(2,ref 0 0),(3,ref 1 0),(5,ref 2 0),(6,.int .u64 x.1)],[cO 2 (nth [.int .i64 p.atoms,ae p.rules]),cO 1 (fun _=>.int .u64 s),cO 1 (fun _=>.int .u64 x.2)],g⟩) (fun (x:Nat × Nat)=>(x.2<2^24/\x.1<2^24/\(x.2=x.1->fol p.rules.l s=x.2)/\(x.2≠x.1->∃f,2^24+1<=f+x.2/\jX p.rules.l s f x.2=fol p.rules.l s))) (fun (x:Nat × Nat)=>(if x.2=x.1 then 0 else 2^24+1-x.2)) (1,0) (toL (h1:=⟨AM _,AM _,AM _,(AN krf),trivial⟩)) ?_ (fun x hi=>?_))
 ·refine⟨dcd,dcd,fun h=>absurd h dcd,fun _=>⟨2^24+1,Nat.le_refl _,rfl⟩⟩
 ·obtain⟨b,o⟩:=x
  obtain⟨h1,h2,h3,h4⟩:=hi
  simp only at h1 h2 h3 h4
  refine vcR [] (lkL [(3,[2,3,5,12]),(4,[2,3,5,6]),(5,[2,3,5,6,15,16,17])]) (fun _=>[]) (fun Q=>(fun (u1:List AObj)=>(fun (u2:Bool)=>1<=1/\(u2=true->1<=1/\2<=2/\WpC Tryd.prog R 34 0 80 [1,1,0,1,0,0,1,0,1,1,0] Q [Kont.blk 2,Kont.blk 1] (St.mk [(2,ref 0 0),(3,ref 1 0),(5,ref 2 0),(6,int u64 (↑o:Int)),(15,ae p.rules),(16,i6 (↑(List.length p.rules.l):Int)),(17,i6 0)] u1 g))/\(u2=false->Q (AEx.exit 0) (St.mk [(2,ref 0 0),(3,ref 1 0),(5,ref 2 0),(12,AV.bool u2)] u1 g))) ((↑o:Int) != (↑b:Int))) ([cO 2 (nth [i6 p.atoms,ae p.rules]),cO 1 fun x=>int u64 (↑s:Int),cO 1 fun x=>int u64 (↑o:Int)])) ⟨omg,fun c1=>have c1:¬(↑o:Int)=(↑b:Int):=(bne_iff_ne.mp c1);⟨omg,omg,?_⟩,fun c1=>have c1:(↑o:Int)=(↑b:Int):=(bne_eq_false_iff_eq.mp c1);?_⟩
  ·have hne:o≠b:=by omega
   refine(bi krf (fun (i:Nat)=>⟨[(2,ref 0 0),(3,ref 1 0),(5,ref 2 0),(6,int u64 (o:Int)),(15,ae p.rules),(16,i6 (p.rules.l.length:Int)),(17,.int .i64 i)],[cO 2 (nth [.int .i64 p.atoms,ae p.rules]),cO 1 (fun _=>.int .u64 s),cO 1 (fun _=>.int .u64 (bu (p.rules.l.take i) s o))],g⟩) (fun (i:Nat)=>(i<=p.rules.l.length)) (fun (i:Nat)=>(p.rules.l.length-i)) 0 (toL (h1:=⟨AM _,AM _,AM _,AM _,AM _,AM _,(AN krf),trivial⟩)) ?_ (fun i hi=>?_))
   ·exact Nat.zero_le _
   ·rcases Nat.lt_or_ge i p.rules.l.length with hi'|hi'
    ·have hq:=hr _ (e8 hi')
     have ht:bu (p.rules.l.take i) s o<2^24:=rP (fun q hq=>hr q (List.mem_of_mem_take hq)) h1
     have q1:=hq.1.1
     have q2:=hq.1.2
     have q3:=hq.2
     refine vcR [] (lkL [(6,[2,3,5,6,15,16,17,18]),(7,[2,3,5,6,8,15,16,17]),(8,[2,3,5,6,8,9,15,16,17]),(9,[2,3,5,6,8,15,16,17,26]),(10,[2,3,5,6,15,16,17]),(11,[2,3,5,6,15,16,17])]) (lkL [(7,[(3,ROrc.val (Orc.obj (nth [i6 (List.getD p.rules.l i default).head,ap (List.getD p.rules.l i default).body])))]),(8,[(3,ROrc.kcall (AV.bool (List.any (List.getD p.rules.l i default).body.l (eH s (bu (List.take i p.rules.l) s o)))))]),(10,[(3,ROrc.pcall (int u64 (↑(2^Int.toNat (List.getD p.rules.l i default).head):Int))),(5,ROrc.val (Orc.obj (nth [int u64 (IntKind.wrap u64 (↑(BitVec.toNat (BitVec.ofInt 64 (↑(bu (List.take i p.rules.l) s o):Int)|||BitVec.ofInt 64 (↑(2^Int.toNat (List.getD p.rules.l i default).head):Int))):Int))])))])]) (fun Q=>(fun (u1:List AObj)=>(fun (u2:AV)=>(fun (u3:Rule)=>(fun (u4:Int)=>(fun (u5:Int)=>(fun (u6:Nat)=>(fun (u7:List (Nat × AV))=>(fun (u8:List AV)=>(fun (u9:Bool)=>(fun (u10:AObj)=>(decide (u5<u4)=true->(0<=u5/\u5<u4)/\2<=2/\2<=2/\(∀(c:Nat),c<2->nth u8 c=ao (nth [i6 0,fz Fz.nil 0 0 fun x x_1=>any]) 0 2 (List.brecOn (motive:=fun (x:List AV)=>Nat->AV) u8 nth._f) c)/\2<=2/\(true=true/\Does Tryd.prog R 50 [ap u3.body,fn 107 0 (nth []) 2 (nth [ref 1 0,ref 2 0])] u1 g (ret (AV.bool u9)) u1 g)/\((!u9)=true->Flw Tryd.prog/\1<=1/\1<=2/\(∀(hp:List AObj) (g:R.σ),true=true/\Does Tryd.prog R 79 [i6 u3.head] hp g (ret (int u64 (↑(2^Int.toNat u3.head):Int))) hp g)/\1<=1/\(∀(c:Nat),c<1->nth [u2] c=ao (fun (x:Nat)=>int u64 (↑u6:Int)) 0 1 (fun (x:Nat)=>u2) c)/\(-9223372036854775808<=u5+1/\u5+1<=9223372036854775807)/\Q AEx.normal (St.mk u7 [u10,cO 1 fun x=>int u64 (↑s:Int),cO 1 (nth [u2]),cO 2 (nth u8)] g))/\((!u9)=false->(-9223372036854775808<=u5+1/\u5+1<=9223372036854775807)/\Q AEx.normal (St.mk u7 u1 g)))/\(decide (u5<u4)=false->Q (AEx.exit 2) (St.mk [(2,ref 0 0),(3,ref 1 0),(5,ref 2 0),(6,int u64 (↑o:Int)),(15,ae p.rules),(16,i6 u4),(17,i6 u5),(18,AV.bool (decide (u5<u4)))] [u10,cO 1 fun x=>int u64 (↑s:Int),cO 1 fun x=>int u64 (↑u6:Int)] g))) (cO 2 (nth [i6 p.atoms,ae p.rules]))) (List.any u3.body.l (eH s u6))) ([i6 u3.head,ap u3.body])) ([(2,ref 0 0),(3,ref 1 0),(5,ref 2 0),(6,int u64 (↑o:Int)),(15,ae p.rules),(16,i6 u4),(17,i6 (u5+1))])) (bu (List.take i p.rules.l) s o)) ((↑i:Int))) ((↑(List.length p.rules.l):Int))) (List.getD p.rules.l i default)) (int u64 (IntKind.wrap u64 (↑(BitVec.toNat (BitVec.ofInt 64 (↑(bu (List.take i p.rules.l) s o):Int)|||BitVec.ofInt 64 (↑(2^Int.toNat (List.getD p.rules.l i default).head):Int))):Int)))) ([cO 2 (nth [i6 p.atoms,ae p.rules]),cO 1 fun x=>int u64 (↑s:Int),cO 1 fun x=>int u64 (↑(bu (List.take i p.rules.l) s o):Int),cO 2 (nth [i6 (List.getD p.rules.l i default).head,ap (List.getD p.rules.l i default).body])])) ⟨fun c1=>have c1:(↑i:Int)<(↑(List.length p.rules.l):Int):=(of_decide_eq_true c1);⟨omg,omg,omg,(fun c hc=>match c,hc with|0,_=>krf|1,_=>krf ),omg,⟨rfl,(jT _ _ _ _ _ _ _ _ _ _ omg krf (fun r _=>(doS [1,2] 4 (fun R g=>rN R (s) (bu (List.take i p.rules.l) s o) (r) ?_ omg omg g))))⟩,fun c2=>have c2:List.any (List.getD p.rules.l i default).body.l (eH s (bu (List.take i p.rules.l) s o))=false:=((Bool.not_eq_true' _).mp c2);⟨krf,omg,omg,(fun _ _=>⟨rfl,(d6 _ _ omg _ _)⟩),omg,(fun c hc=>match c,hc with|0,_=>krf ),omg,?_⟩,fun c2=>have c2:List.any (List.getD p.rules.l i default).body.l (eH s (bu (List.take i p.rules.l) s o))=true:=((Bool.not_eq_false' _).mp c2);⟨omg,?_⟩⟩,fun c1=>have c1:¬(↑i:Int)<(↑(List.length p.rules.l):Int):=(of_decide_eq_false c1);?_⟩
     ·exact q2 _ (by assumption)
     ·refine(aW (i+1) (toS [0,1,2] 4 (hob:=⟨⟨rfl,Nat.le_refl _,fun j hj=>match j,hj with|0,_=>(AM _)|1,_=>(AM _) ⟩,⟨rfl,Nat.le_refl _,fun j hj=>match j,hj with|0,_=>(AM _) ⟩,⟨rfl,Nat.le_refl _,fun j hj=>match j,hj with|0,_=>(AN ?_) ⟩,trivial⟩)) ?_ ?_)
      ·show AV.int .u64 _=AV.int .u64 _
       congr 1
       rw[rO hi']
       unfold ge
       rw[if_neg (by rw[c2];decide)]
       exact Tb.u64_or (bG ht) (bG (Nat.pow_lt_pow_right dcd omg))
      ·omega
      ·omega
     ·refine(aW (i+1) (toS [0,1,2] 4 (hob:=⟨⟨rfl,Nat.le_refl _,fun j hj=>match j,hj with|0,_=>(AM _)|1,_=>(AM _) ⟩,⟨rfl,Nat.le_refl _,fun j hj=>match j,hj with|0,_=>(AM _) ⟩,⟨rfl,Nat.le_refl _,fun j hj=>match j,hj with|0,_=>(AN ?_) ⟩,trivial⟩)) ?_ ?_)
      ·show AV.int .u64 _=AV.int .u64 _
       rw[rO hi']
       unfold ge
       rw[if_pos c2]
      ·omega
      ·omega
     ·exact absurd hi' omg
    ·have hk:i=p.rules.l.length:=by omega
     subst hk
     rw[List.take_length]
     obtain⟨f,e1,e2⟩:=h4 hne
     have hle:=xF p.rules.l s o
     have hlt:=rP (s:=s) hr h1
     obtain⟨f,rfl⟩:∃k,f=k+1:=⟨f-1,omg⟩
     have e3:jX p.rules.l s (f+1) o=if bu p.rules.l s o=o then o else jX p.rules.l s f (bu p.rules.l s o):=rfl
     rw[e3] at e2
     refine vcR [] (lkL [(6,[2,3,5,6,15,16,17,18]),(7,[2,3,5,6,8,15,16,17]),(8,[2,3,5,6,8,9,15,16,17]),(9,[2,3,5,6,8,15,16,17,26]),(10,[2,3,5,6,15,16,17]),(11,[2,3,5,6,15,16,17])]) (lkL [(7,[(3,ROrc.val (Orc.obj (nth [i6 (List.getD p.rules.l (List.length p.rules.l) default).head,ap (List.getD p.rules.l (List.length p.rules.l) default).body])))]),(8,[(3,ROrc.kcall (AV.bool (List.any (List.getD p.rules.l (List.length p.rules.l) default).body.l (eH s (bu p.rules.l s o)))))]),(10,[(3,ROrc.pcall (int u64 (↑(2^Int.toNat (List.getD p.rules.l (List.length p.rules.l) default).head):Int))),(5,ROrc.val (Orc.obj (nth [int u64 (IntKind.wrap u64 (↑(BitVec.toNat (BitVec.ofInt 64 (↑(bu p.rules.l s o):Int)|||BitVec.ofInt 64 (↑(2^Int.toNat (List.getD p.rules.l (List.length p.rules.l) default).head):Int))):Int))])))])]) (fun Q=>(fun (u1:Rule)=>(fun (u2:Int)=>(fun (u3:List AObj)=>(fun (u4:AV)=>(fun (u5:List (Nat × AV))=>(fun (u6:Bool)=>(fun (u7:List AV)=>(fun (u8:AObj)=>(decide (u2<u2)=true->(0<=u2/\u2<u2)/\2<=2/\2<=2/\(∀(c:Nat),c<2->nth u7 c=ao (nth [i6 0,fz Fz.nil 0 0 fun x x_1=>any]) 0 2 (List.brecOn (motive:=fun (x:List AV)=>Nat->AV) u7 nth._f) c)/\2<=2/\(true=true/\Does Tryd.prog R 50 [ap u1.body,fn 107 0 (nth []) 2 (nth [ref 1 0,ref 2 0])] u3 g (ret (AV.bool u6)) u3 g)/\((!u6)=true->Flw Tryd.prog/\1<=1/\1<=2/\(∀(hp:List AObj) (g:R.σ),true=true/\Does Tryd.prog R 79 [i6 u1.head] hp g (ret (int u64 (↑(2^Int.toNat u1.head):Int))) hp g)/\1<=1/\(∀(c:Nat),c<1->nth [u4] c=ao (fun (x:Nat)=>int u64 (↑(bu p.rules.l s o):Int)) 0 1 (fun (x:Nat)=>u4) c)/\(-9223372036854775808<=u2+1/\u2+1<=9223372036854775807)/\Q AEx.normal (St.mk u5 [u8,cO 1 fun x=>int u64 (↑s:Int),cO 1 (nth [u4]),cO 2 (nth u7)] g))/\((!u6)=false->(-9223372036854775808<=u2+1/\u2+1<=9223372036854775807)/\Q AEx.normal (St.mk u5 u3 g)))/\(decide (u2<u2)=false->Q (AEx.exit 2) (St.mk [(2,ref 0 0),(3,ref 1 0),(5,ref 2 0),(6,int u64 (↑o:Int)),(15,ae p.rules),(16,i6 u2),(17,i6 u2),(18,AV.bool (decide (u2<u2)))] [u8,cO 1 fun x=>int u64 (↑s:Int),cO 1 fun x=>int u64 (↑(bu p.rules.l s o):Int)] g))) (cO 2 (nth [i6 p.atoms,ae p.rules]))) ([i6 u1.head,ap u1.body])) (List.any u1.body.l (eH s (bu p.rules.l s o)))) ([(2,ref 0 0),(3,ref 1 0),(5,ref 2 0),(6,int u64 (↑o:Int)),(15,ae p.rules),(16,i6 u2),(17,i6 (u2+1))])) (int u64 (IntKind.wrap u64 (↑(BitVec.toNat (BitVec.ofInt 64 (↑(bu p.rules.l s o):Int)|||BitVec.ofInt 64 (↑(2^Int.toNat u1.head):Int))):Int)))) ([cO 2 (nth [i6 p.atoms,ae p.rules]),cO 1 fun x=>int u64 (↑s:Int),cO 1 fun x=>int u64 (↑(bu p.rules.l s o):Int),cO 2 (nth [i6 u1.head,ap u1.body])])) ((↑(List.length p.rules.l):Int))) (List.getD p.rules.l (List.length p.rules.l) default)) ⟨fun c1=>have c1:(↑(List.length p.rules.l):Int)<(↑(List.length p.rules.l):Int):=(of_decide_eq_true c1);⟨omg,omg,omg,(fun c hc=>match c,hc with|0,_=>krf|1,_=>krf ),omg,⟨rfl,(jT _ _ _ _ _ _ _ _ _ _ (by simp at * <;> omega) krf (fun r _=>(doS [1,2] 4 (fun R g=>rN R (s) (bu p.rules.l s o) (r) (by simp at * <;> omega) omg omg g))))⟩,fun c2=>have c2:List.any (List.getD p.rules.l (List.length p.rules.l) default).body.l (eH s (bu p.rules.l s o))=false:=((Bool.not_eq_true' _).mp c2);⟨krf,omg,omg,(fun _ _=>⟨rfl,(d6 _ _ (by simp at * <;> omega) _ _)⟩),omg,(fun c hc=>match c,hc with|0,_=>krf ),omg,?_⟩,fun c2=>have c2:List.any (List.getD p.rules.l (List.length p.rules.l) default).body.l (eH s (bu p.rules.l s o))=true:=((Bool.not_eq_false' _).mp c2);⟨omg,?_⟩⟩,fun c1=>have c1:¬(↑(List.length p.rules.l):Int)<(↑(List.length p.rules.l):Int):=(of_decide_eq_false c1);?_⟩
     any_goals (exfalso;omega)
     refine⟨_,A0 _,(aW (o,bu p.rules.l s o) (aY ⟨AM _,AM _,AM _,AM _,trivial⟩ rfl rfl) ?_ ?_)⟩
     ·refine⟨hlt,h1,fun h=>?_,fun h=>⟨f,?_,?_⟩⟩
      ·simp only at h ⊢
       rw[if_pos h] at e2
       rw[h];exact e2.symm
      ·simp only at h ⊢
       omega
      ·simp only at h ⊢
       rw[if_neg h] at e2
       exact e2
     ·simp only
      rw[if_neg hne]
      split <;> omega
  ·have hb:o=b:=by omega
   refine⟨_,A0 _,vcR [] (lkL [(12,[4])]) (fun _=>[]) (fun Q=>1<=1/\Q AEx.ret (St.mk [(4,int u64 (↑o:Int))] [cO 2 (nth [i6 p.atoms,ae p.rules]),cO 1 fun x=>int u64 (↑s:Int),cO 1 fun x=>int u64 (↑o:Int)] g)) ⟨omg,?_⟩⟩
   refine(av (bE _ _ rfl trivial trivial rfl) (AN ?_))
   show(int u64 (↑o:Int))=_
   show AV.int .u64 _=AV.int .u64 _
   rw[h3 hb]
def eq (v:Nat->Int)(s:Nat)(l:Lit):Bool:=bc v l==1||(!l.neg&&s.testBit l.atom.toNat)
theorem nX (R:Res)(s:Nat)(a:Int)(hs:s<2^24)(ha:0<=a/\a<24)(hp:List AObj)(g:R.σ):Does Tryd.prog R 71 [.int .u64 s,.int .i64 a] hp g (.ret (.bool (s.testBit a.toNat))) hp g:=by
 obtain⟨n,rfl⟩:∃n:Nat,a=n:=⟨a.toNat,omg⟩
 exact jU R s n hs omg hp g
theorem xG (R:Res)(p:Prg)(v:Nat->Int)(es:List (Value × AV))(s:Nat)(l:Lit)(h:0<=l.atom/\l.atom<24)(hs:s<2^24)(g:R.σ):Does Tryd.prog R 122 [ca l,.ref 2 0,.ref 3 0] [cO 27 (ad p v (.mp 1)),.map es,cO 1 (fun _=>.ref 0 0),cO 1 (fun _=>.int .u64 s)] g (.ret (.bool (eq v s l))) [cO 27 (ad p v (.mp 1)),.map es,cO 1 (fun _=>.ref 0 0),cO 1 (fun _=>.int .u64 s)] g:=by
 refine spW (nt:=22) (rs:=[.tmp 4]) (k0:=4) ?_
 refine vcR [] (lkL [(0,[1,2,3]),(1,[4])]) (lkL [(1,[(4,ROrc.kcall (i6 (bc v l))),(14,ROrc.pcall (AV.bool (Nat.testBit s (Int.toNat l.atom))))])]) (fun Q=>(fun (u1:List AObj)=>Flw Tryd.prog/\1<=1/\2<=2/\(true=true/\Does Tryd.prog R 119 [ref 0 2,ca l] u1 g (ret (i6 (bc v l))) u1 g)/\((!bc v l==1)=true->2<=2)/\((!bc v l==1 && !l.neg)=true->1<=1)/\((!bc v l==1 && !l.neg)=true->1<=2)/\((!bc v l==1 && !l.neg)=true->∀(hp:List AObj) (g:R.σ),true=true/\Does Tryd.prog R 71 [int u64 (↑s:Int),i6 l.atom] hp g (ret (AV.bool (Nat.testBit s (Int.toNat l.atom)))) hp g)/\Q AEx.ret (St.mk [(4,AV.bool (bif bc v l==1 then true else bif !l.neg then Nat.testBit s (Int.toNat l.atom) else false))] u1 g)) ([cO 27 (ad p v (AV.mp 1)),AObj.map es,cO 1 fun x=>ref 0 0,cO 1 fun x=>int u64 (↑s:Int),cO 2 (nth [i6 l.atom,AV.bool l.neg])])) ⟨krf,omg,omg,⟨rfl,(doS [0,1] 5 (fun R g=>rM R (p) (v) (es) (l) omg g))⟩,omg,omg,omg,(fun hgd=>(fun _ _=>⟨rfl,(nX _ _ _ omg omg _ _)⟩)),?_⟩
 refine(av (bZ 4 _ _ rfl trivial omg trivial ⟨(fun _ _=>(by first|exact trivial|apply aZ)),(fun j hj=>match j,hj with|0,_=>(show 1<=4 by omega) ),(fun j hj=>match j,hj with|0,_=>trivial ),trivial⟩ krf rfl rfl) (AN krf))
def a8 (v:Nat->Int)(s:Nat)(r:Rule):Bool:= !r.body.l.any (eq v s)
theorem xH (R:Res)(p:Prg)(v:Nat->Int)(es:List (Value × AV))(s:Nat)(r:Rule)(h:lB r)(hs:s<2^24)(g:R.σ):Does Tryd.prog R 121 [bU r,.ref 2 0,.ref 3 0] [cO 27 (ad p v (.mp 1)),.map es,cO 1 (fun _=>.ref 0 0),cO 1 (fun _=>.int .u64 s)] g (.ret (.bool (a8 v s r))) [cO 27 (ad p v (.mp 1)),.map es,cO 1 (fun _=>.ref 0 0),cO 1 (fun _=>.int .u64 s)] g:=by
 have h1:=h.1
 have hb:=h.2
 refine spW (nt:=10) (rs:=[.tmp 4]) (k0:=4) ?_
 refine vcR [] (lkL [(0,[1,2,3]),(1,[4])]) (lkL [(1,[(3,ROrc.kcall (AV.bool (List.any r.body.l (eq v s))))])]) (fun Q=>(fun (u1:List AObj)=>2<=2/\(true=true/\Does Tryd.prog R 50 [ap r.body,fn 122 0 (nth []) 2 (nth [ref 2 0,ref 3 0])] u1 g (ret (AV.bool (List.any r.body.l (eq v s)))) u1 g)/\Q AEx.ret (St.mk [(4,AV.bool !List.any r.body.l (eq v s))] u1 g)) ([cO 27 (ad p v (AV.mp 1)),AObj.map es,cO 1 fun x=>ref 0 0,cO 1 fun x=>int u64 (↑s:Int),cO 2 (nth [i6 r.head,ap r.body])])) ⟨omg,⟨rfl,(jT _ _ _ _ _ _ _ _ _ _ omg krf (fun r _=>(doS [0,1,2,3] 5 (fun R g=>xG R (p) (v) (es) (s) (r) ?_ omg g))))⟩,?_⟩
 ·exact hb _ (by assumption)
 ·refine(av (bZ 4 _ _ rfl trivial omg trivial ⟨(fun _ _=>(by first|exact trivial|apply aZ)),(fun j hj=>match j,hj with|0,_=>(show 1<=4 by omega) ),(fun j hj=>match j,hj with|0,_=>trivial ),trivial⟩ krf rfl rfl) (AN krf))
def ofH (l:List Rule)(a:Int):List Rule:=l.filter (fun r=>r.head==a)
structure HeadsOk (es:List (Value × AV))(l:List Rule):Prop where
 key:∀e,e∈es->∃a:Nat,e.1=.int .i64 a/\a<24
 hit:∀a,ofH l a≠[]->(∃e,e∈es/\e.1=.int .i64 a)/\∀e,e∈es->e.1=.int .i64 a->e.2=ae ⟨ofH l a,.opn⟩
 miss:∀a,ofH l a=[]->∀e,e∈es->e.1≠.int .i64 a
theorem gQ {a:Nat}(h:a<24):∃l,Go.keyOf Tryd.prog 3 (.int .i64 a)=some l:=by
 have w:(List.range 24).all (fun n=>(Lit.int .i64 (n:Int)).wf)=true:=by decide
 exact⟨_,Go.Maps.keyOf_int_mk (q:=.i64) krf ((List.all_eq_true.1 w) a (List.mem_range.2 h))⟩
theorem xI (R:Res)(p:Prg)(v:Nat->Int)(es:List (Value × AV))(s:Nat)(a:Nat)(k:Fz)(hk:(ofH p.rules.l a=[]->k=.nil)/\(ofH p.rules.l a≠[]->k=.opn))(ha:a<24)(hes:HeadsOk es p.rules.l)(hl:p.rules.l.length<1000000)(hr:∀r,r∈p.rules.l->aE r)(hs:s<2^24)(g:R.σ):Does Tryd.prog R 115 [.ref 0 0,.int .i64 a,.int .u64 s] [cO 27 (ad p v (.mp 1)),.map es] g (.ret (.bool ((ofH p.rules.l a).any (a8 v s)))) [cO 27 (ad p v (.mp 1)),.map es] g:=by
 refine spW (nt:=15) (rs:=[.tmp 6]) (k0:=2) ?_
 have hlf:(ofH p.rules.l a).length<1000000:=Nat.lt_of_le_of_lt (List.length_filter_le _ _) hl
 have hrf:∀r,r∈ofH p.rules.l a->lB r:=fun r h=>(hr r (List.mem_filter.1 h |>.1)).1
 refine vcR [] (lkL [(0,[1,3,5]),(1,[6])]) (lkL [(1,[(5,ROrc.kop (ae (KL.mk (ofH p.rules.l (↑a:Int)) k))),(7,ROrc.kcall (AV.bool (List.any (KL.mk (List.filter (fun (r:Rule)=>r.head==(↑a:Int)) p.rules.l) k).l (a8 v s))))])]) (fun Q=>(fun (u1:List AObj)=>(fun (u2:AV)=>(fun (u3:AV)=>1<=1/\27<=27/\OpOk Tryd.prog R (Oper.mk (some 12) (Op.lookup 96 (Operand.tmp 10) (Operand.tmp 11) false) 22 "table.go:109" #[Edge.mk 3 Ground.data,Edge.mk 4 Ground.data] none) (evO [Row.mk (some 11) none (i6 (↑a:Int)) false (some []) [],Row.mk (some 10) none (AV.mp 1) false (some []) [0],Row.mk (some 9) none (ref 0 26) false (some []) [],Row.mk (some 8) none (ref 0 0) false (some []) [],Row.mk (some 7) none (ref 0 0) false (some []) [2]] [(1,i6 (↑a:Int)),(3,ref 2 0),(5,ref 3 0)] []) u1 g u2 u1 g/\(true=true/\Does Tryd.prog R 120 [u2,fn 121 0 (nth []) 2 (nth [ref 2 0,ref 3 0])] u1 g (ret u3) u1 g)/\Q AEx.ret (St.mk [(6,u3)] u1 g)) (AV.bool (List.any (List.filter (fun (r:Rule)=>r.head==(↑a:Int)) p.rules.l) (a8 v s)))) (fz k 2 (List.length (ofH p.rules.l (↑a:Int))) fun i=>br (List.getD (ofH p.rules.l (↑a:Int)) i default))) ([cO 27 (ad p v (AV.mp 1)),AObj.map es,cO 1 fun a=>ref 0 0,cO 1 fun a=>int u64 (↑s:Int)])) ⟨omg,omg,?_,⟨rfl,(xh _ (KL.mk (List.filter (fun (r:Rule)=>r.head==(↑a:Int)) p.rules.l) k) _ _ _ _ _ _ _ _ (by assumption) krf (fun r _=>(xH _ _ _ _ _ _ ?_ omg _)))⟩,?_⟩
 ·have hks:∀e∈es,∃l,Go.keyOf Tryd.prog 3 e.1=some l:=fun e he=>by
   obtain⟨b,e1,e2⟩:=hes.key e he
   rw[e1]
   exact gQ e2
  by_cases h0:ofH p.rules.l a=[]
  ·rw[hk.1 h0,h0]
   refine qX (t:=96) (kt:=3) (vt:=22) (m:=.tmp 10) (x:=.tmp 11) (ob:=1) (es:=es) (kv:=.int .i64 a) rfl krf (Go.Maps.int_keyed (q:=.i64) krf) rfl (by exact Le.nil) rfl rfl (fun FM Z v h=>h) (gQ ha) hks (hes.miss a h0)
  ·rw[hk.2 h0]
   exact qW (t:=96) (kt:=3) (vt:=22) (m:=.tmp 10) (x:=.tmp 11) (ob:=1) (es:=es) (kv:=.int .i64 a) (d:=ae ⟨ofH p.rules.l a,.opn⟩) rfl krf (Go.Maps.int_keyed (q:=.i64) krf) rfl rfl (fun FM Z v h=>h) (gQ ha) hks (hes.hit a h0).1 (hes.hit a h0).2
 ·exact hrf _ (by assumption)
 ·refine(av (bZ 2 _ _ rfl trivial omg trivial ⟨(fun _ _=>(by first|exact trivial|apply aZ)),trivial⟩ krf rfl rfl) (AN krf))
theorem jY (R:Res)(p:Prg)(v:Nat->Int)(es:List (Value × AV))(s:Nat)(a:Nat)(ha:a<24)(hes:HeadsOk es p.rules.l)(hl:p.rules.l.length<1000000)(hr:∀r,r∈p.rules.l->aE r)(hs:s<2^24)(g:R.σ):Does Tryd.prog R 115 [.ref 0 0,.int .i64 a,.int .u64 s] [cO 27 (ad p v (.mp 1)),.map es] g (.ret (.bool ((ofH p.rules.l a).any (a8 v s)))) [cO 27 (ad p v (.mp 1)),.map es] g:=
 xI R p v es s a (if ofH p.rules.l a=[] then .nil else .opn) ⟨fun h=>if_pos h,fun h=>if_neg h⟩ ha hes hl hr hs g
theorem dQ (R:Res)(is:Bool)(h:is=true)(hp:List AObj)(g:R.σ):Does Tryd.prog R 140 [.bool is] hp g (.ret (.tup 0 (nth []))) hp g:=by
 subst h
 refine bN (fun R g=>?_) (by exact⟨trivial,trivial⟩) R hp g
 refine spW (nt:=6) (rs:=[]) (k0:=0) ?_
 refine vcR [[1,0]] (lkL [(0,[3])]) (fun _=>[]) (fun Q=>(false=true->WpC Tryd.prog R 6 0 140 [1,0] Q [] (St.mk [(3,AV.bool false)] [] g))/\(false=false->Q AEx.normal (St.mk [(3,AV.bool false)] [] g))) ⟨fun h=>(nomatch h),fun _=>?_⟩
 refine(av (aX _ _ rfl trivial rfl rfl rfl) (AM _))
theorem iH (R:Res)(is:Bool)(h:is=false)(hp:List AObj)(g:R.σ):Does Tryd.prog R 140 [.bool is] hp g (.pan (.ifc 145 (.agg 0 (nth [])))) hp g:=by
 subst h
 refine bN (fun R g=>?_) (by exact⟨trivial,trivial⟩) R hp g
 refine spW (nt:=6) (rs:=[]) (k0:=0) ?_
 refine vcR [[1,1]] (lkL [(0,[3])]) (fun _=>[]) (fun Q=>(true=true->Q (AEx.pan (ifc 145 (agg 0 (nth [])))) (St.mk [] [] g))/\(true=false->WpC Tryd.prog R 6 0 140 [1,1] Q [] (St.mk [(3,AV.bool true)] [] g))) ⟨fun _=>?_,fun h=>(nomatch h)⟩
 refine(vK (P:=Tryd.prog) (rs:=[]) rfl rfl (AM _))
def de (s:Step):AV:=if s.rule = -1 then .ifc 148 (bm s) else .ifc 149 (bm s)
theorem lG (R:Res)(s:Step)(hp:List AObj)(g:R.σ):Does Tryd.prog R 68 [bm s] hp g (.ret (de s)) hp g:=by
 refine bN (fun R g=>?_) (by exact⟨⟨⟨trivial,trivial⟩,trivial⟩,trivial⟩) R hp g
 refine spW (nt:=12) (rs:=[.tmp 2]) (k0:=0) ?_
 refine vcR [] (lkL [(0,[1]),(1,[1,5]),(2,[2]),(3,[2])]) (fun _=>[]) (fun Q=>1<=2/\((s.rule == -1)=true->2<=2/\Q AEx.ret (St.mk [(2,ifc 148 (bm s))] [cO 2 (nth [i6 s.rule,ah s.atoms])] g))/\((s.rule == -1)=false->2<=2/\Q AEx.ret (St.mk [(2,ifc 149 (bm s))] [cO 2 (nth [i6 s.rule,ah s.atoms])] g))) ⟨omg,fun c1=>have c1:s.rule = -1:=(beq_iff_eq.mp c1);⟨omg,?_⟩,fun c1=>have c1:¬s.rule = -1:=(beq_eq_false_iff_ne.mp c1);⟨omg,?_⟩⟩
 ·refine(av (bE _ _ rfl trivial ⟨⟨trivial,trivial⟩,trivial⟩ rfl) (AN ?_))
  show(ifc 148 (bm s))=_
  ·unfold de
   rw[if_pos c1]
 ·refine(av (bE _ _ rfl trivial ⟨⟨trivial,trivial⟩,trivial⟩ rfl) (AN ?_))
  show(ifc 149 (bm s))=_
  ·unfold de
   rw[if_neg c1]
def cH (p:Prg)(v:Nat->Int)(s:Step):Bool:=decide (0<=s.rule/\s.rule<=(p.rules.l.length:Int)-1)&&(s.atoms.l.length==1&&(s.atoms.l.getD 0 0==(p.rules.l.getD s.rule.toNat default).head&&(v (p.rules.l.getD s.rule.toNat default).head.toNat==3&&cb v (p.rules.l.getD s.rule.toNat default))))
def ck (v:Nat->Int)(a:Nat)(x:Int):Nat->Int:=fun b=>if b=a then x else v b
def er (p:Prg)(v:Nat->Int)(s:Step):Nat->Int:=ck v (p.rules.l.getD s.rule.toNat default).head.toNat 2
def rQ (b:Bool):Oc:=match b with
 |true=>.ret (.tup 0 (nth []))
 |false=>.pan (.ifc 145 (.agg 0 (nth [])))
theorem lH {p:Prg}{v:Nat->Int}{m:AV}{k a:Nat}{x:Int}(e:k=a+2)(ha:a<24){j:Nat}(f:Nat->AV)(hf:f 0=.int .i64 x):ao (ad p v m) k 1 f j=ad p (ck v a x) m j:=by
 subst e
 rw[eD]
 unfold ad ck
 by_cases h:j=a+2
 ·subst h
  rw[if_pos omg,if_neg omg,if_neg omg,if_pos omg,show a+2-(a+2)=0 by omega,hf,if_pos omg]
 ·rw[if_neg omg]
  split
  ·rfl
  ·split
   ·rfl
   ·split
    ·rw[if_neg omg]
    ·rfl
theorem xJ (R:Res)(p:Prg)(v:Nat->Int)(es:List (Value × AV))(s:Step)(hl:p.rules.l.length<1000000)(hr:∀r,r∈p.rules.l->aE r)(h:cH p v s=true)(g:R.σ):Does Tryd.prog R 141 [bm s,.ref 0 0] [cO 27 (ad p v (.mp 1)),.map es] g (.ret (.tup 0 (nth []))) [cO 27 (ad p (er p v s) (.mp 1)),.map es] g:=by
 unfold cH at h
 simp only[Bool.and_eq_true,beq_iff_eq,decide_eq_true_eq] at h
 obtain⟨hA,hB,hC,hD,hE⟩:=h
 have hq:=hr _ (e8 (show s.rule.toNat<p.rules.l.length by omega))
 have q1:=hq.1
 have q2:=hq.2
 have ho:∀j,ao (ad p v (.mp 1)) ((p.rules.l.getD s.rule.toNat default).head.toNat+2) 1 (fun _=>.int .i64 2) j=ad p (ck v (p.rules.l.getD s.rule.toNat default).head.toNat 2) (.mp 1) j:=fun j=>lH rfl omg (fun _=>.int .i64 2) rfl
 refine spW (nt:=66) (rs:=[]) (k0:=2) ?_
 refine vcR [] (lkL [(0,[1,2]),(1,[1,2]),(2,[1,2,4]),(3,[1,4])]) (lkL [(1,[(10,ROrc.pcall (AV.bool (decide (0<=s.rule/\s.rule<=(p.rules.l.length:Int)-1)))),(18,ROrc.pcall (tup 0 (nth [])))]),(2,[(11,ROrc.val (Orc.obj (nth [i6 (p.rules.l.getD (s.rule.toNat) default).head,ap (p.rules.l.getD (s.rule.toNat) default).body])))]),(3,[(15,ROrc.kop (i6 (v ((p.rules.l.getD (s.rule.toNat) default).head.toNat)))),(23,ROrc.kcall (AV.bool true)),(25,ROrc.pcall (tup 0 (nth [])))])]) (fun Q=>(fun (u1:Rule)=>(fun (u2:List AObj)=>(fun (u3:Int)=>(fun (u4:Bool)=>(fun (u5:Bool)=>(fun (u6:List AObj)=>(fun (u7:Bool)=>(fun (u8:Bool)=>(fun (u9:Option (List Nat))=>(fun (u10:Option (Nat × Bool))=>u5=true/\1<=2/\2<=27/\(-9223372036854775808<=u3/\u3<=9223372036854775807)/\(∀(hp:List AObj) (g:R.σ),true=true/\Does Tryd.prog R 58 [i6 s.rule,i6 0,i6 u3] hp g (ret (AV.bool u8)) hp g)/\(u8=true->2<=2)/\(∀(hp:List AObj) (g:R.σ),true=true/\Does Tryd.prog R 140 [AV.bool (bif u8 then(s.atoms.l.length:Int)==1 else false)] hp g (ret (tup 0 (nth []))) hp g)/\u5=true/\2<=27/\1<=2/\(0<=s.rule/\s.rule<(p.rules.l.length:Int))/\2<=2/\2<=2/\(∀(c:Nat),c<2->nth [i6 u1.head,ap u1.body] c=ao (nth [i6 0,fz Fz.nil 0 0 fun x x_1=>any]) 0 2 (List.brecOn (motive:=fun (x:List AV)=>Nat->AV) [i6 u1.head,ap u1.body] nth._f) c)/\u5=true/\2<=2/\((↑0:Int)<=0/\0<(s.atoms.l.length:Int))/\1<=1/\1<=2/\(u4=true->1<=2)/\(u4=true->0<=u1.head/\u1.head<(↑24:Int))/\(u4=true->OpOk Tryd.prog R (Oper.mk (some 49) (Op.load 43 (Operand.tmp 48)) 43 "table.go:147" #[Edge.mk 14 Ground.data,Edge.mk 8 Ground.guard] u10) (evO [Row.mk (some 48) u10 (ref 0 (u1.head.toNat+2)) false u9 [],Row.mk (some 47) u10 (ref 0 2) false u9 [],Row.mk (some 46) u10 (ref 0 0) false u9 [],Row.mk (some 45) u10 (i6 u1.head) false u9 [3],Row.mk (some 44) u10 (ref 3 0) false u9 [],Row.mk (some 43) u10 (ref 0 0) false u9 [],Row.mk (some 42) none (AV.bool u4) false u9 [],Row.mk (some 41) none (AV.bool u4) false u9 [],Row.mk (some 40) none (i6 u1.head) false u9 [3],Row.mk (some 39) none (ref 3 0) false u9 [],Row.mk (some 38) none (i6 (s.atoms.l.getD 0 0)) false u9 [],Row.mk (some 37) none (fp 1 fun x=>i6 (s.atoms.l.getD 0 0)) false u9 [],Row.mk (some 36) none (ah s.atoms) false u9 [2],Row.mk (some 35) none (ref 2 1) false u9 [],Row.mk (some 34) none (ref 2 0) false u9 []] [(1,ref 0 0),(2,ref 2 0),(4,ref 3 0)] [(8,true)]) u6 g (i6 (v (u1.head.toNat))) u6 g)/\(u7=true->2<=2)/\(u7=true->true=true/\Does Tryd.prog R 114 [ref 0 2,bU u1] u6 g (ret (AV.bool true)) u6 g)/\(∀(hp:List AObj) (g:R.σ),true=true/\Does Tryd.prog R 140 [AV.bool (bif u7 then true else false)] hp g (ret (tup 0 (nth []))) hp g)/\u5=true/\1<=2/\(0<=u1.head/\u1.head<(↑24:Int))/\u1.head.toNat+2+1<=27/\Q AEx.normal (St.mk [] (cO 27 (ao (ad p v (AV.mp 1)) (u1.head.toNat+2) 1 fun x=>i6 2)::u2) g)) (some (8,true))) (some [])) (decide (0<=s.rule/\s.rule<=u3))) (bif u4 then v (u1.head.toNat)==3 else false)) (cO 27 (ad p v (AV.mp 1))::u2)) (Tables.follows Tryd.prog.toTables Departure.mixedOrders)) (s.atoms.l.getD 0 0==u1.head)) ((p.rules.l.length:Int)-1)) ([AObj.map es,cO 2 (nth [i6 s.rule,ah s.atoms]),cO 2 (nth [i6 u1.head,ap u1.body])])) (p.rules.l.getD (s.rule.toNat) default)) ⟨krf,omg,omg,omg,(fun _ _=>⟨rfl,(dv _ _ _ _ _ _)⟩),omg,(fun _ _=>⟨rfl,(dQ _ _ (by simp at * <;> omega) _ _)⟩),krf,omg,omg,omg,omg,omg,(fun c hc=>match c,hc with|0,_=>krf|1,_=>krf ),krf,omg,omg,omg,omg,omg,omg,?_,omg,(fun hgd=>⟨rfl,(jJ hE (doS [0,1] 4 (fun R g=>lC R (p) (v) (es) (p.rules.l.getD (s.rule.toNat) default) omg g)))⟩),(fun _ _=>⟨rfl,(dQ _ _ (by simp at * <;> omega) _ _)⟩),krf,omg,omg,omg,?_⟩
 ·intro _
  exact dY rfl rfl krf rfl (by show _+1<=27;omega) (d5 omg omg)
 ·refine(av (bZ 2 _ _ rfl trivial omg trivial ⟨(fun _ _=>?_),trivial⟩ ?_ rfl rfl) (AM _))
  ·rw[ho];exact aZ _ _ 0 _
  ·show [cO 27 (ao (ad p v (.mp 1)) ((p.rules.l.getD s.rule.toNat default).head.toNat+2) 1 (fun _=>.int .i64 2)),AObj.map es]=_
   rw[show ao (ad p v (.mp 1)) ((p.rules.l.getD s.rule.toNat default).head.toNat+2) 1 (fun _=>.int .i64 2)=ad p (ck v (p.rules.l.getD s.rule.toNat default).head.toNat 2) (.mp 1) from funext ho]
   rfl
theorem rR (R:Res)(p:Prg)(v:Nat->Int)(es:List (Value × AV))(s:Step)(hl:p.rules.l.length<1000000)(hr:∀r,r∈p.rules.l->aE r)(h:cH p v s=false)(g:R.σ):Does Tryd.prog R 141 [bm s,.ref 0 0] [cO 27 (ad p v (.mp 1)),.map es] g (.pan (.ifc 145 (.agg 0 (nth [])))) [cO 27 (ad p v (.mp 1)),.map es] g:=by
 by_cases hA:0<=s.rule/\s.rule<=(p.rules.l.length:Int)-1
 ·have hq:=hr _ (e8 (show s.rule.toNat<p.rules.l.length by omega))
  have q1:=hq.1
  have q2:=hq.2
  by_cases hB:(s.atoms.l.length:Int)=1
  ·have hm:(bif (bif (s.atoms.l.getD 0 0==(p.rules.l.getD s.rule.toNat default).head) then(v (p.rules.l.getD s.rule.toNat default).head.toNat==3) else false) then cb v (p.rules.l.getD s.rule.toNat default) else false)=false:=by
    unfold cH at h
    rw[decide_eq_true hA,show(s.atoms.l.length==1)=true by rw[beq_iff_eq];omega] at h
    revert h
    cases (s.atoms.l.getD 0 0==(p.rules.l.getD s.rule.toNat default).head) <;> cases (v (p.rules.l.getD s.rule.toNat default).head.toNat==3) <;> cases cb v (p.rules.l.getD s.rule.toNat default) <;> simp
   refine spW (nt:=66) (rs:=[]) (k0:=2) ?_
   refine vcR [] (lkL [(0,[1,2]),(1,[1,2]),(2,[1,2,4]),(3,[1,4])]) (lkL [(1,[(10,ROrc.pcall (AV.bool (decide (0<=s.rule/\s.rule<=(↑(List.length p.rules.l):Int)-1)))),(18,ROrc.pcall (tup 0 (nth [])))]),(2,[(11,ROrc.val (Orc.obj (nth [i6 (List.getD p.rules.l (Int.toNat s.rule) default).head,ap (List.getD p.rules.l (Int.toNat s.rule) default).body])))]),(3,[(15,ROrc.kop (i6 (v (Int.toNat (List.getD p.rules.l (Int.toNat s.rule) default).head)))),(23,ROrc.kcall (AV.bool (cb v (List.getD p.rules.l (Int.toNat s.rule) default)))),(25,ROrc.cpan (ifc 145 (agg 0 (nth []))) [cO 27 (ad p v (AV.mp 1)),AObj.map es,cO 2 (nth [i6 s.rule,ah s.atoms]),cO 2 (nth [i6 (List.getD p.rules.l (Int.toNat s.rule) default).head,ap (List.getD p.rules.l (Int.toNat s.rule) default).body])] g)])]) (fun Q=>(fun (u1:Rule)=>(fun (u2:List AObj)=>(fun (u3:Int)=>(fun (u4:Bool)=>(fun (u5:Bool)=>(fun (u6:Bool)=>(fun (u7:Bool)=>(fun (u8:Option (List Nat))=>(fun (u9:Option (Nat × Bool))=>u7=true/\1<=2/\2<=27/\(-9223372036854775808<=u3/\u3<=9223372036854775807)/\(∀(hp:List AObj) (g:R.σ),true=true/\Does Tryd.prog R 58 [i6 s.rule,i6 0,i6 u3] hp g (ret (AV.bool u6)) hp g)/\(u6=true->2<=2)/\(∀(hp:List AObj) (g:R.σ),true=true/\Does Tryd.prog R 140 [AV.bool (bif u6 then(↑(List.length s.atoms.l):Int)==1 else false)] hp g (ret (tup 0 (nth []))) hp g)/\u7=true/\2<=27/\1<=2/\(0<=s.rule/\s.rule<(↑(List.length p.rules.l):Int))/\2<=2/\2<=2/\(∀(c:Nat),c<2->nth [i6 u1.head,ap u1.body] c=ao (nth [i6 0,fz Fz.nil 0 0 fun x x_1=>any]) 0 2 (List.brecOn (motive:=fun (x:List AV)=>Nat->AV) [i6 u1.head,ap u1.body] nth._f) c)/\u7=true/\2<=2/\((↑0:Int)<=0/\0<(↑(List.length s.atoms.l):Int))/\1<=1/\1<=2/\(u4=true->1<=2)/\(u4=true->0<=u1.head/\u1.head<(↑24:Int))/\(u4=true->OpOk Tryd.prog R (Oper.mk (some 49) (Op.load 43 (Operand.tmp 48)) 43 "table.go:147" #[Edge.mk 14 Ground.data,Edge.mk 8 Ground.guard] u9) (evO [Row.mk (some 48) u9 (ref 0 (Int.toNat u1.head+2)) false u8 [],Row.mk (some 47) u9 (ref 0 2) false u8 [],Row.mk (some 46) u9 (ref 0 0) false u8 [],Row.mk (some 45) u9 (i6 u1.head) false u8 [3],Row.mk (some 44) u9 (ref 3 0) false u8 [],Row.mk (some 43) u9 (ref 0 0) false u8 [],Row.mk (some 42) none (AV.bool u4) false u8 [],Row.mk (some 41) none (AV.bool u4) false u8 [],Row.mk (some 40) none (i6 u1.head) false u8 [3],Row.mk (some 39) none (ref 3 0) false u8 [],Row.mk (some 38) none (i6 (List.getD s.atoms.l 0 0)) false u8 [],Row.mk (some 37) none (fp 1 fun x=>i6 (List.getD s.atoms.l 0 0)) false u8 [],Row.mk (some 36) none (ah s.atoms) false u8 [2],Row.mk (some 35) none (ref 2 1) false u8 [],Row.mk (some 34) none (ref 2 0) false u8 []] [(1,ref 0 0),(2,ref 2 0),(4,ref 3 0)] [(8,true)]) u2 g (i6 (v (Int.toNat u1.head))) u2 g)/\(u5=true->2<=2)/\(u5=true->true=true/\Does Tryd.prog R 114 [ref 0 2,bU u1] u2 g (ret (AV.bool (cb v u1))) u2 g)/\(true=true/\Does Tryd.prog R 140 [AV.bool (bif u5 then cb v u1 else false)] u2 g (Oc.pan (ifc 145 (agg 0 (nth [])))) u2 g)/\Q (AEx.pan (ifc 145 (agg 0 (nth [])))) (St.mk [(1,ref 0 0),(4,ref 3 0)] u2 g)) (some (8,true))) (some [])) (Tables.follows Tryd.prog.toTables Departure.mixedOrders)) (decide (0<=s.rule/\s.rule<=u3))) (bif u4 then v (Int.toNat u1.head)==3 else false)) (List.getD s.atoms.l 0 0==u1.head)) ((↑(List.length p.rules.l):Int)-1)) ([cO 27 (ad p v (AV.mp 1)),AObj.map es,cO 2 (nth [i6 s.rule,ah s.atoms]),cO 2 (nth [i6 u1.head,ap u1.body])])) (List.getD p.rules.l (Int.toNat s.rule) default)) ⟨krf,omg,omg,omg,(fun _ _=>⟨rfl,(dv _ _ _ _ _ _)⟩),omg,(fun _ _=>⟨rfl,(dQ _ _ (by simp at * <;> omega) _ _)⟩),krf,omg,omg,omg,omg,omg,(fun c hc=>match c,hc with|0,_=>krf|1,_=>krf ),krf,omg,omg,omg,omg,omg,omg,?_,omg,(fun hgd=>⟨rfl,(doS [0,1] 4 (fun R g=>lC R (p) (v) (es) (List.getD p.rules.l (Int.toNat s.rule) default) omg g))⟩),⟨rfl,(iH _ _ omg _ _)⟩,?_⟩
   ·intro _
    exact dY rfl rfl krf rfl (by show _+1<=27;omega) (d5 omg omg)
   ·refine(jI (P:=Tryd.prog) (rs:=[]) 2 omg trivial ⟨(fun _ _=>(by first|exact trivial|apply aZ)),trivial⟩ krf rfl (AM _))
  ·refine spW (nt:=66) (rs:=[]) (k0:=2) ?_
   refine vcR [] (lkL [(0,[1,2]),(1,[1,2])]) (lkL [(1,[(10,ROrc.pcall (AV.bool (decide (0<=s.rule/\s.rule<=(↑(List.length p.rules.l):Int)-1)))),(18,ROrc.cpan (ifc 145 (agg 0 (nth []))) [cO 27 (ad p v (AV.mp 1)),AObj.map es,cO 2 (nth [i6 s.rule,ah s.atoms])] g)])]) (fun Q=>(fun (u1:Int)=>(fun (u2:List AObj)=>(fun (u3:Bool)=>Flw Tryd.prog/\1<=2/\2<=27/\(-9223372036854775808<=u1/\u1<=9223372036854775807)/\(∀(hp:List AObj) (g:R.σ),true=true/\Does Tryd.prog R 58 [i6 s.rule,i6 0,i6 u1] hp g (ret (AV.bool u3)) hp g)/\(u3=true->2<=2)/\(true=true/\Does Tryd.prog R 140 [AV.bool (bif u3 then(↑(List.length s.atoms.l):Int)==1 else false)] u2 g (Oc.pan (ifc 145 (agg 0 (nth [])))) u2 g)/\Q (AEx.pan (ifc 145 (agg 0 (nth [])))) (St.mk [(1,ref 0 0),(2,ref 2 0)] u2 g)) (decide (0<=s.rule/\s.rule<=u1))) ([cO 27 (ad p v (AV.mp 1)),AObj.map es,cO 2 (nth [i6 s.rule,ah s.atoms])])) ((↑(List.length p.rules.l):Int)-1)) ⟨krf,omg,omg,omg,(fun _ _=>⟨rfl,(dv _ _ _ _ _ _)⟩),omg,⟨rfl,(iH _ _ (by simp at * <;> omega) _ _)⟩,?_⟩
   refine(jI (P:=Tryd.prog) (rs:=[]) 2 omg trivial ⟨(fun _ _=>(by first|exact trivial|apply aZ)),trivial⟩ krf rfl (AM _))
 ·refine spW (nt:=66) (rs:=[]) (k0:=2) ?_
  refine vcR [] (lkL [(0,[1,2]),(1,[1,2])]) (lkL [(1,[(10,ROrc.pcall (AV.bool (decide (0<=s.rule/\s.rule<=(↑(List.length p.rules.l):Int)-1)))),(18,ROrc.cpan (ifc 145 (agg 0 (nth []))) [cO 27 (ad p v (AV.mp 1)),AObj.map es,cO 2 (nth [i6 s.rule,ah s.atoms])] g)])]) (fun Q=>(fun (u1:Int)=>(fun (u2:List AObj)=>(fun (u3:Bool)=>Flw Tryd.prog/\1<=2/\2<=27/\(-9223372036854775808<=u1/\u1<=9223372036854775807)/\(∀(hp:List AObj) (g:R.σ),true=true/\Does Tryd.prog R 58 [i6 s.rule,i6 0,i6 u1] hp g (ret (AV.bool u3)) hp g)/\(u3=true->2<=2)/\(true=true/\Does Tryd.prog R 140 [AV.bool (bif u3 then(↑(List.length s.atoms.l):Int)==1 else false)] u2 g (Oc.pan (ifc 145 (agg 0 (nth [])))) u2 g)/\Q (AEx.pan (ifc 145 (agg 0 (nth [])))) (St.mk [(1,ref 0 0),(2,ref 2 0)] u2 g)) (decide (0<=s.rule/\s.rule<=u1))) ([cO 27 (ad p v (AV.mp 1)),AObj.map es,cO 2 (nth [i6 s.rule,ah s.atoms])])) ((↑(List.length p.rules.l):Int)-1)) ⟨krf,omg,omg,omg,(fun _ _=>⟨rfl,(dv _ _ _ _ _ _)⟩),omg,⟨rfl,(iH _ _ (by simp at * <;> omega) _ _)⟩,?_⟩
  refine(jI (P:=Tryd.prog) (rs:=[]) 2 omg trivial ⟨(fun _ _=>(by first|exact trivial|apply aZ)),trivial⟩ krf rfl (AM _))
def aH (l:List Int):Nat:=l.foldl (fun s a=>s|||2^a.toNat) 0
def et (p:Prg)(l:List Int)(i:Nat):Bool:=bif decide (0<=l.getD i 0/\l.getD i 0<=p.atoms-1) then bif (i:Int)==0 then true else decide (l.getD i 0 > l.getD ((i:Int)-1).toNat 0) else false
def eI (p:Prg)(v:Nat->Int)(l:List Int)(i:Nat):Bool:=bif et p l i then v (l.getD i 0).toNat==3 else false
theorem jZ {p:Prg}{l:List Int}{i:Nat}(h:et p l i=true):0<=l.getD i 0/\l.getD i 0<=p.atoms-1:=by
 unfold et at h
 by_cases hA:0<=l.getD i 0/\l.getD i 0<=p.atoms-1
 ·exact hA
 ·rw[decide_eq_false hA] at h;cases h
theorem lI {p:Prg}{v:Nat->Int}{l:List Int}{i:Nat}(h:eI p v l i=true):et p l i=true:=by
 unfold eI at h
 cases hp:et p l i with
 |true=>rfl
 |false=>rw[hp] at h;cases h
def cV (p:Prg)(v:Nat->Int)(l:List Int):Bool:=decide (0<l.length)&&(List.range l.length).all (eI p v l)
def dg (p:Prg)(v:Nat->Int)(s:Nat):Bool:= !(ak s).any (fun a=>(ofH p.rules.l a).any (a8 v s))
def dh (p:Prg)(v:Nat->Int)(s:Step):Bool:=cV p v s.atoms.l&&dg p v (aH s.atoms.l)
def bI (v:Nat->Int)(s:Nat):Nat->Int:=fun b=>if s.testBit b then 1 else v b
theorem gf {s b:Nat}(hs:s<2^24)(h:s.testBit b=true):b<24:=
 (Nat.pow_lt_pow_iff_right dcd).1 (Nat.lt_of_le_of_lt (Nat.ge_two_pow_of_testBit h) hs)
theorem nY {l:List Int}{i:Nat}(h:i<l.length):aH (l.take (i+1))=aH (l.take i)|||2^(l.getD i 0).toNat:=by
 unfold aH
 rw[List.take_add_one,List.foldl_append,List.getElem?_eq_getElem h,List.getD_eq_getElem?_getD,List.getElem?_eq_getElem h]
 rfl
theorem xK (R:Res)[Tab LT R](p:Prg)(v:Nat->Int)(es:List (Value × AV))(s:Step)(hl:p.rules.l.length<1000000)(hr:∀r,r∈p.rules.l->aE r)(hes:HeadsOk es p.rules.l)(hp:1<=p.atoms/\p.atoms<=24)(hsl:s.atoms.l.length<1000000)(h:cV p v s.atoms.l=true->dg p v (aH s.atoms.l)=true)(g:R.σ):Does Tryd.prog R 139 [bm s,.ref 0 0] [cO 27 (ad p v (.mp 1)),.map es] g (rQ (dh p v s)) [cO 27 (ad p (match dh p v s with|true=>bI v (aH s.atoms.l)|false=>v) (.mp 1)),.map es] g:=by
 by_cases h0:(s.atoms.l.length:Int) > 0
 ·refine spW (nt:=79) (rs:=[]) (k0:=2) ?_
  refine vcR [] (lkL [(0,[2,3]),(1,[2,3]),(2,[2,3,4]),(3,[2,3,4,17,18,19])]) (lkL [(1,[(5,ROrc.pcall (tup 0 (nth [])))])]) (fun Q=>(fun (u1:Int)=>2<=2/\(∀(hp:List AObj) (g:R.σ),true=true/\Does Tryd.prog R 140 [AV.bool (decide (u1 > 0))] hp g (ret (tup 0 (nth []))) hp g)/\2<=2/\WpC Tryd.prog R 79 2 139 [1,1,1,0,1,0] Q [Kont.blk 0,Kont.seq [1,1,1,1]] (St.mk [(2,ref 2 0),(3,ref 3 0),(4,ref 4 0),(17,ah s.atoms),(18,i6 u1),(19,i6 0)] [cO 27 (ad p v (AV.mp 1)),AObj.map es,cO 2 (nth [i6 s.rule,ah s.atoms]),cO 1 fun a=>ref 0 0,cO 1 fun a=>int u64 0] g)) ((↑(List.length s.atoms.l):Int))) ⟨omg,(fun _ _=>⟨rfl,(dQ _ _ (by simp at * <;> omega) _ _)⟩),omg,?_⟩
  refine(bi krf (fun (i:Nat)=>⟨[(2,ref 2 0),(3,ref 3 0),(4,ref 4 0),(17,ah s.atoms),(18,i6 (s.atoms.l.length:Int)),(19,.int .i64 i)],[cO 27 (ad p v (.mp 1)),.map es,cO 2 (nth [.int .i64 s.rule,ah s.atoms]),cO 1 (fun _=>.ref 0 0),cO 1 (fun _=>.int .u64 (aH (s.atoms.l.take i)))],g⟩) (fun (i:Nat)=>(i<=s.atoms.l.length/\aH (s.atoms.l.take i)<2^24/\∀j,j<i->eI p v s.atoms.l j=true)) (fun (i:Nat)=>(s.atoms.l.length-i)) 0 (toL (h1:=⟨AM _,AM _,AM _,AM _,AM _,(AN krf),trivial⟩)) ?_ (fun i hi=>?_))
  ·exact⟨Nat.zero_le _,(by decide:(0:Nat)<2^24),fun j hj=>absurd hj omg⟩
  ·obtain⟨h1,h2,h3⟩:=hi
   rcases Nat.lt_or_ge i s.atoms.l.length with hlt|hge
   ·have hx:=nY hlt
    cases hm:eI p v s.atoms.l i with
    |true=>
     have hm':(bif et p s.atoms.l i then v (s.atoms.l.getD i 0).toNat==3 else false)=true:=hm
     have hA:=jZ (lI hm)
     refine vcR [] (lkL [(4,[2,3,4,17,18,19,20]),(5,[2,3,4,5,6,17,18,19]),(6,[2,3,4,6,17,18,19]),(7,[2,3,4,17,18,19]),(8,[2,3,4,17,18,19])]) (lkL [(6,[(7,ROrc.pcall (AV.bool (decide (0<=List.getD s.atoms.l i 0/\List.getD s.atoms.l i 0<=p.atoms-1)))),(29,ROrc.kop (i6 (v (Int.toNat (List.getD s.atoms.l i 0))))),(32,ROrc.pcall (tup 0 (nth [])))]),(7,[(2,ROrc.pcall (int u64 (↑(2^Int.toNat (List.getD s.atoms.l i 0)):Int))),(4,ROrc.val (Orc.obj (nth [int u64 (IntKind.wrap u64 (↑(BitVec.toNat (BitVec.ofInt 64 (↑(aH (List.take i s.atoms.l)):Int)|||BitVec.ofInt 64 (↑(2^Int.toNat (List.getD s.atoms.l i 0)):Int))):Int))])))])]) (fun Q=>(fun (u1:Int)=>(fun (u2:Int)=>(fun (u3:Bool)=>(fun (u4:List AObj)=>(fun (u5:AV)=>(fun (u6:Int)=>(fun (u7:Int)=>(fun (u8:Bool)=>(fun (u9:Option (List Nat))=>(fun (u10:Option (Nat × Bool))=>(decide (u7<u6)=true->(0<=u7/\u7<u6)/\1<=1/\1<=1/\1<=27/\(-9223372036854775808<=p.atoms-1/\p.atoms-1<=9223372036854775807)/\(∀(hp:List AObj) (g:R.σ),true=true/\Does Tryd.prog R 58 [i6 u1,i6 0,i6 (p.atoms-1)] hp g (ret (AV.bool u8)) hp g)/\((u8 && !u7==0)=true->2<=2)/\((u8 && !u7==0)=true -> -9223372036854775808<=u7-1/\u7-1<=9223372036854775807)/\((u8 && !u7==0)=true->0<=u7-1/\u7-1<u6)/\((u8 && !u7==0)=true->1<=1)/\(u3=true->1<=1)/\(u3=true->0<=u1/\u1<(↑24:Int))/\(u3=true->OpOk Tryd.prog R (Oper.mk (some 53) (Op.load 43 (Operand.tmp 52)) 43 "table.go:155" #[Edge.mk 28 Ground.data,Edge.mk 23 Ground.guard] (some (23,true))) (evO [Row.mk (some 52) (some (23,true)) (ref 0 (Int.toNat u1+2)) false u9 [],Row.mk (some 51) (some (23,true)) (ref 0 2) false u9 [],Row.mk (some 50) (some (23,true)) (ref 0 0) false u9 [],Row.mk (some 49) (some (23,true)) (i6 u1) false u9 [],Row.mk (some 48) (some (23,true)) (ref 0 0) false u9 [3],Row.mk (some 47) none (AV.bool u3) false u9 [],Row.mk (some 46) none (AV.bool u3) false u9 [],Row.mk (some 45) (some (8,true)) (AV.bool (bif u7==0 then true else decide (u1 > u2))) false u9 [],Row.mk (some 44) u10 (AV.bool (decide (u1 > u2))) false u9 [],Row.mk (some 43) u10 (i6 u2) false u9 [],Row.mk (some 42) u10 (fp 1 fun x=>i6 u2) false u9 [],Row.mk (some 41) u10 (i6 (u7-1)) false u9 [],Row.mk (some 40) u10 (i6 u7) false u9 [],Row.mk (some 39) u10 (ah s.atoms) false u9 [2],Row.mk (some 38) u10 (ref 2 1) false u9 [],Row.mk (some 37) u10 (ref 2 0) false u9 [],Row.mk (some 36) u10 (i6 u1) false u9 [],Row.mk (some 35) (some (8,true)) (AV.bool (u7==0)) false u9 [],Row.mk (some 34) (some (8,true)) (AV.bool (u7==0)) false u9 [],Row.mk (some 33) (some (8,true)) (i6 u7) false u9 [],Row.mk (some 32) none (AV.bool u8) false u9 [],Row.mk (some 31) none (AV.bool u8) false u9 [],Row.mk (some 30) none (i6 (p.atoms-1)) false u9 [],Row.mk (some 29) none (i6 p.atoms) false u9 [0],Row.mk (some 28) none (ref 0 0) false u9 [],Row.mk (some 27) none (ref 0 0) false u9 [],Row.mk (some 26) none (ref 0 0) false u9 [],Row.mk (some 25) none (ref 0 0) false u9 [3],Row.mk (some 24) none (i6 u1) false u9 []] [(2,ref 2 0),(3,ref 3 0),(4,ref 4 0),(5,i6 u7),(6,i6 u1),(17,ah s.atoms),(18,i6 u6),(19,i6 u7)] [(23,true)]) u4 g (i6 (v (Int.toNat u1))) u4 g)/\(∀(hp:List AObj) (g:R.σ),true=true/\Does Tryd.prog R 140 [AV.bool (bif u3 then v (Int.toNat u1)==3 else false)] hp g (ret (tup 0 (nth []))) hp g)/\Flw Tryd.prog/\1<=1/\(∀(hp:List AObj) (g:R.σ),true=true/\Does Tryd.prog R 79 [i6 u1] hp g (ret (int u64 (↑(2^Int.toNat u1):Int))) hp g)/\1<=1/\(∀(c:Nat),c<1->nth [u5] c=ao (fun (x:Nat)=>int u64 (↑(aH (List.take i s.atoms.l)):Int)) 0 1 (fun (x:Nat)=>u5) c)/\(-9223372036854775808<=u7+1/\u7+1<=9223372036854775807)/\Q AEx.normal (St.mk [(2,ref 2 0),(3,ref 3 0),(4,ref 4 0),(17,ah s.atoms),(18,i6 u6),(19,i6 (u7+1))] [cO 27 (ad p v (AV.mp 1)),AObj.map es,cO 2 (nth [i6 s.rule,ah s.atoms]),cO 1 fun x=>ref 0 0,cO 1 (nth [u5])] g))/\(decide (u7<u6)=false->Q (AEx.exit 0) (St.mk [(2,ref 2 0),(3,ref 3 0),(4,ref 4 0),(17,ah s.atoms),(18,i6 u6),(19,i6 u7),(20,AV.bool (decide (u7<u6)))] u4 g))) (some (11,false))) (some [])) (decide (0<=u1/\u1<=p.atoms-1))) ((↑i:Int))) ((↑(List.length s.atoms.l):Int))) (int u64 (IntKind.wrap u64 (↑(BitVec.toNat (BitVec.ofInt 64 (↑(aH (List.take i s.atoms.l)):Int)|||BitVec.ofInt 64 (↑(2^Int.toNat u1):Int))):Int)))) ([cO 27 (ad p v (AV.mp 1)),AObj.map es,cO 2 (nth [i6 s.rule,ah s.atoms]),cO 1 fun x=>ref 0 0,cO 1 fun x=>int u64 (↑(aH (List.take i s.atoms.l)):Int)])) (bif decide (0<=u1/\u1<=p.atoms-1) then bif (↑i:Int)==0 then true else decide (u1 > u2) else false)) (List.getD s.atoms.l (Int.toNat ((↑i:Int)-1)) 0)) (List.getD s.atoms.l i 0)) ⟨fun c1=>have c1:(↑i:Int)<(↑(List.length s.atoms.l):Int):=(of_decide_eq_true c1);⟨omg,omg,omg,omg,omg,(fun _ _=>⟨rfl,(dv _ _ _ _ _ _)⟩),omg,omg,(by intro h;simp at h <;> omega),omg,omg,omg,?_,(fun _ _=>⟨rfl,(dQ _ _ (by assumption) _ _)⟩),krf,omg,(fun _ _=>⟨rfl,(d6 _ _ omg _ _)⟩),omg,(fun c hc=>match c,hc with|0,_=>krf ),omg,?_⟩,fun c1=>have c1:¬(↑i:Int)<(↑(List.length s.atoms.l):Int):=(of_decide_eq_false c1);?_⟩
     ·intro _
      exact dY rfl rfl krf rfl (by show _+1<=27;omega) (d5 omg omg)
     ·refine(aW (i+1) (toL (h1:=⟨AM _,AM _,AM _,AM _,AM _,(AN krf),trivial⟩) (h2:=⟨AO,rfl,AO,AO,⟨rfl,Nat.le_refl _,fun j hj=>match j,hj with|0,_=>(AN ?_) ⟩,trivial⟩)) ?_ ?_)
      ·show AV.int .u64 _=AV.int .u64 _
       congr 1
       rw[hx]
       exact Tb.u64_or (bG h2) (bG (Nat.pow_lt_pow_right dcd omg))
      ·refine⟨omg,?_,fun j hj=>?_⟩
       ·rw[hx]
        exact Nat.or_lt_two_pow h2 (Nat.pow_lt_pow_right dcd omg)
       ·rcases Nat.lt_or_ge j i with h|h
        ·exact h3 j h
        ·have:j=i:=by omega
         subst this
         exact hm
      ·omega
     all_goals (exfalso;omega)
    |false=>
     have hm':(bif et p s.atoms.l i then v (s.atoms.l.getD i 0).toNat==3 else false)=false:=hm
     have hf:dh p v s=false:=by
      unfold dh cV
      rw[show(List.range s.atoms.l.length).all (eI p v s.atoms.l)=false from List.all_eq_false.2 ⟨i,by simpa using hlt,by rw[hm];simp⟩]
      simp
     rw[hf]
     refine vcR [] (lkL [(4,[2,3,4,17,18,19,20]),(5,[2,3,4,5,6,17,18,19]),(6,[2,3,4,6,17,18,19])]) (lkL [(6,[(7,ROrc.pcall (AV.bool (decide (0<=List.getD s.atoms.l i 0/\List.getD s.atoms.l i 0<=p.atoms-1)))),(29,ROrc.kop (i6 (v (Int.toNat (List.getD s.atoms.l i 0))))),(32,ROrc.cpan (ifc 145 (agg 0 (nth []))) [cO 27 (ad p v (AV.mp 1)),AObj.map es,cO 2 (nth [i6 s.rule,ah s.atoms]),cO 1 fun (x:Nat)=>ref 0 0,cO 1 fun (x:Nat)=>int u64 (↑(aH (List.take i s.atoms.l)):Int)] g)])]) (fun Q=>(fun (u1:Int)=>(fun (u2:List AObj)=>(fun (u3:Int)=>(fun (u4:Bool)=>(fun (u5:Int)=>(fun (u6:Int)=>(fun (u7:Bool)=>(fun (u8:Option (List Nat))=>(fun (u9:Option (Nat × Bool))=>(fun (u10:List (Nat × AV))=>(decide (u6<u5)=true->(0<=u6/\u6<u5)/\1<=1/\1<=1/\1<=27/\(-9223372036854775808<=p.atoms-1/\p.atoms-1<=9223372036854775807)/\(∀(hp:List AObj) (g:R.σ),true=true/\Does Tryd.prog R 58 [i6 u1,i6 0,i6 (p.atoms-1)] hp g (ret (AV.bool u7)) hp g)/\((u7 && !u6==0)=true->2<=2)/\((u7 && !u6==0)=true -> -9223372036854775808<=u6-1/\u6-1<=9223372036854775807)/\((u7 && !u6==0)=true->0<=u6-1/\u6-1<u5)/\((u7 && !u6==0)=true->1<=1)/\(u4=true->1<=1)/\(u4=true->0<=u1/\u1<(↑24:Int))/\(u4=true->OpOk Tryd.prog R (Oper.mk (some 53) (Op.load 43 (Operand.tmp 52)) 43 "table.go:155" #[Edge.mk 28 Ground.data,Edge.mk 23 Ground.guard] (some (23,true))) (evO [Row.mk (some 52) (some (23,true)) (ref 0 (Int.toNat u1+2)) false u8 [],Row.mk (some 51) (some (23,true)) (ref 0 2) false u8 [],Row.mk (some 50) (some (23,true)) (ref 0 0) false u8 [],Row.mk (some 49) (some (23,true)) (i6 u1) false u8 [],Row.mk (some 48) (some (23,true)) (ref 0 0) false u8 [3],Row.mk (some 47) none (AV.bool u4) false u8 [],Row.mk (some 46) none (AV.bool u4) false u8 [],Row.mk (some 45) (some (8,true)) (AV.bool (bif u6==0 then true else decide (u1 > u3))) false u8 [],Row.mk (some 44) u9 (AV.bool (decide (u1 > u3))) false u8 [],Row.mk (some 43) u9 (i6 u3) false u8 [],Row.mk (some 42) u9 (fp 1 fun x=>i6 u3) false u8 [],Row.mk (some 41) u9 (i6 (u6-1)) false u8 [],Row.mk (some 40) u9 (i6 u6) false u8 [],Row.mk (some 39) u9 (ah s.atoms) false u8 [2],Row.mk (some 38) u9 (ref 2 1) false u8 [],Row.mk (some 37) u9 (ref 2 0) false u8 [],Row.mk (some 36) u9 (i6 u1) false u8 [],Row.mk (some 35) (some (8,true)) (AV.bool (u6==0)) false u8 [],Row.mk (some 34) (some (8,true)) (AV.bool (u6==0)) false u8 [],Row.mk (some 33) (some (8,true)) (i6 u6) false u8 [],Row.mk (some 32) none (AV.bool u7) false u8 [],Row.mk (some 31) none (AV.bool u7) false u8 [],Row.mk (some 30) none (i6 (p.atoms-1)) false u8 [],Row.mk (some 29) none (i6 p.atoms) false u8 [0],Row.mk (some 28) none (ref 0 0) false u8 [],Row.mk (some 27) none (ref 0 0) false u8 [],Row.mk (some 26) none (ref 0 0) false u8 [],Row.mk (some 25) none (ref 0 0) false u8 [3],Row.mk (some 24) none (i6 u1) false u8 []] ((2,ref 2 0)::(3,ref 3 0)::(4,ref 4 0)::(5,i6 u6)::u10) [(23,true)]) u2 g (i6 (v (Int.toNat u1))) u2 g)/\(true=true/\Does Tryd.prog R 140 [AV.bool (bif u4 then v (Int.toNat u1)==3 else false)] u2 g (Oc.pan (ifc 145 (agg 0 (nth [])))) u2 g)/\Q (AEx.pan (ifc 145 (agg 0 (nth [])))) (St.mk ((2,ref 2 0)::(3,ref 3 0)::(4,ref 4 0)::u10) u2 g))/\(decide (u6<u5)=false->Q (AEx.exit 0) (St.mk [(2,ref 2 0),(3,ref 3 0),(4,ref 4 0),(17,ah s.atoms),(18,i6 u5),(19,i6 u6),(20,AV.bool (decide (u6<u5)))] u2 g))) ([(6,i6 u1),(17,ah s.atoms),(18,i6 u5),(19,i6 u6)])) (some (11,false))) (some [])) (decide (0<=u1/\u1<=p.atoms-1))) ((↑i:Int))) ((↑(List.length s.atoms.l):Int))) (bif decide (0<=u1/\u1<=p.atoms-1) then bif (↑i:Int)==0 then true else decide (u1 > u3) else false)) (List.getD s.atoms.l (Int.toNat ((↑i:Int)-1)) 0)) ([cO 27 (ad p v (AV.mp 1)),AObj.map es,cO 2 (nth [i6 s.rule,ah s.atoms]),cO 1 fun x=>ref 0 0,cO 1 fun x=>int u64 (↑(aH (List.take i s.atoms.l)):Int)])) (List.getD s.atoms.l i 0)) ⟨fun c1=>have c1:(↑i:Int)<(↑(List.length s.atoms.l):Int):=(of_decide_eq_true c1);⟨omg,omg,omg,omg,omg,(fun _ _=>⟨rfl,(dv _ _ _ _ _ _)⟩),omg,omg,(by intro h;simp at h <;> omega),omg,omg,(by intro h;simp at h <;> simp <;> omega),?_,⟨rfl,(iH _ _ (by assumption) _ _)⟩,?_⟩,fun c1=>have c1:¬(↑i:Int)<(↑(List.length s.atoms.l):Int):=(of_decide_eq_false c1);?_⟩
     ·intro hg
      have hA:=jZ hg
      exact dY rfl rfl krf rfl (by show _+1<=27;omega) (d5 omg omg)
     ·refine(jI (P:=Tryd.prog) (rs:=[]) 2 omg trivial ⟨(fun _ _=>(by first|exact trivial|apply aZ)),trivial⟩ krf rfl (AM _))
     all_goals (exfalso;omega)
   ·have hi':i=s.atoms.l.length:=by omega
    subst hi'
    rw[List.take_length] at h2 ⊢
    have hall:cV p v s.atoms.l=true:=by
     unfold cV
     rw[decide_eq_true omg,Bool.true_and,List.all_eq_true]
     exact fun j hj=>h3 j (by simpa using hj)
    have hns:=h hall
    have ht:dh p v s=true:=by unfold dh;rw[hall,hns];rfl
    rw[ht]
    obtain⟨S,hS⟩:∃S,aH s.atoms.l=S:=⟨_,rfl⟩
    rw[hS] at h2 hns ⊢
    have hseq:=lz S h2
    obtain⟨l,hle⟩:∃l,ak S=l:=⟨_,rfl⟩
    rw[hle] at hseq
    have hb:decide ((s.atoms.l.length:Int)<(s.atoms.l.length:Int))=false:=decide_eq_false omg
    refine vcR [[1,1,1,0,1,0,0,1,0,0]] (lkL [(4,[2,3,4,17,18,19,20])]) (fun _=>[]) (fun Q=>(fun (u1:Int)=>(fun (u2:St R.σ)=>(decide (u1<u1)=true->WpC Tryd.prog R 79 2 139 [1,1,1,0,1,0,0,1,0,0] Q [Kont.seq [1,1,1,0,1,0,0,1,1]] u2)/\(decide (u1<u1)=false->Q (AEx.exit 0) u2)) (St.mk [(2,ref 2 0),(3,ref 3 0),(4,ref 4 0),(17,ah s.atoms),(18,i6 u1),(19,i6 u1),(20,AV.bool (decide (u1<u1)))] [cO 27 (ad p v (AV.mp 1)),AObj.map es,cO 2 (nth [i6 s.rule,ah s.atoms]),cO 1 fun x=>ref 0 0,cO 1 fun x=>int u64 (↑S:Int)] g)) ((↑(List.length s.atoms.l):Int))) ⟨fun hcc=>(nomatch (hb.symm.trans hcc)),fun _=>?_⟩
    refine⟨_,A0 _,vcR [] (lkL [(9,[3,4,63])]) (lkL [(9,[(1,ROrc.call (fn 105 0 (nth []) 1 (nth [ref (List.length [cO 27 (ad p v (AV.mp 1)),AObj.map es,cO 2 (nth [i6 s.rule,ah s.atoms]),cO 1 fun (x:Nat)=>ref 0 0,cO 1 fun (x:Nat)=>int u64 (↑S:Int)]) 0])) ([cO 27 (ad p v (AV.mp 1)),AObj.map es,cO 2 (nth [i6 s.rule,ah s.atoms]),cO 1 fun (x:Nat)=>ref 0 0,cO 1 fun (x:Nat)=>int u64 (↑S:Int)]++[cO 1 fun (x:Nat)=>int u64 (↑S:Int)]) g)])]) (fun Q=>(fun (u1:List AObj)=>1<=1/\(true=true/\Does Tryd.prog R 77 [int u64 (↑S:Int)] [cO 27 (ad p v (AV.mp 1)),AObj.map es,cO 2 (nth [i6 s.rule,ah s.atoms]),cO 1 fun x=>ref 0 0,cO 1 fun x=>int u64 (↑S:Int)] g (ret (fn 105 0 (nth []) 1 (nth [ref 5 0]))) u1 g)/\WpC Tryd.prog R 79 2 139 [1,1,1,1,0,1,0] Q [Kont.blk 2,Kont.seq [1,1,1,1,1]] (St.mk [(3,ref 3 0),(4,ref 4 0),(63,fn 105 0 (nth []) 1 (nth [ref 5 0]))] u1 g)) ([cO 27 (ad p v (AV.mp 1)),AObj.map es,cO 2 (nth [i6 s.rule,ah s.atoms]),cO 1 fun x=>ref 0 0,cO 1 fun x=>int u64 (↑S:Int),cO 1 fun x=>int u64 (↑S:Int)])) ⟨omg,⟨rfl,(cQ _ _ _ _)⟩,?_⟩⟩
    have hin:∀k,k<l.length->l.getD k 0<24:=fun k hk=>by
     have h:=bx l 0 hk
     have h':l.getD k 0∈ak S:=by rw[hle];exact h
     exact(Tb.mem_memN.1 h').1
    have hns':∀k,k<l.length->(ofH p.rules.l (l.getD k 0)).any (a8 v S)=false:=fun k hk=>by
     unfold dg at hns
     rw[hle,Bool.not_eq_true'] at hns
     have:=List.any_eq_false.1 hns _ (bx l 0 hk)
     cases h:(ofH p.rules.l (l.getD k 0)).any (a8 v S) with
     |false=>rfl
     |true=>exact absurd h this
    refine iA 63 [64] 5 krf rfl rfl rfl hseq (fun _=>rfl) krf (fun _=>⟨trivial,trivial⟩)
     (fun _=>none) (fun _=>rfl)
     (fun _=>[cO 27 (ad p v (.mp 1)),.map es,cO 2 (nth [.int .i64 s.rule,ah s.atoms]),cO 1 (fun _=>.ref 0 0),cO 1 (fun _=>.int .u64 S)])
     (fun _=>g) (fC rfl rfl) (fun _=>rfl) (by exact⟨omg,omg,omg,omg,omg,trivial⟩) (by exact⟨fun j _=>aZ _ _ 3 _,trivial,fun j hj=>(match j with|0=>trivial|1=>trivial|_+2=>trivial),fun _ _=>show 0<5 by omega,fun _ _=>trivial,trivial⟩) (by exact⟨fun _ _=>trivial,trivial⟩) [3,4] (by exact⟨show 3<5 by omega,show 4<5 by omega,trivial⟩) (fun k l' hk hjk=>?_) (fun _=>?_) (fun k hk hj hr=>by cases hr) (fun k id hk hj hr=>by cases hr)
    ·refine vcR [] (lkL [(10,[3,4,7])]) (fun _=>[]) (fun (Q:AEx->St R.σ->Prop)=>Q AEx.normal (St.mk [(3,ref 3 0),(4,ref 4 0),(7,i6 (↑(List.getD l k 0):Int))] [cO 27 (ad p v (AV.mp 1)),AObj.map es,cO 2 (nth [i6 s.rule,ah s.atoms]),cO 1 fun (x:Nat)=>ref 0 0,cO 1 fun (x:Nat)=>int u64 (↑S:Int)] g)) (?_)
     show Wp _ _ _ 5 _ _ _ _ _
     obtain⟨a,ha⟩:∃a,l.getD k 0=a:=⟨_,rfl⟩
     have ha24:a<24:=by rw[<-ha];exact hin k hk
     have hm:(!(ofH p.rules.l a).any (a8 v S))=true:=by rw[<-ha,hns' k hk];rfl
     rw[ha]
     refine vcR [] (lkL [(11,[3,4])]) (lkL [(11,[(3,ROrc.kcall (AV.bool (List.any (ofH p.rules.l (↑a:Int)) (a8 v S)))),(5,ROrc.pcall (tup 0 (nth [])))])]) (fun Q=>(fun (u1:List AObj)=>1<=1/\1<=1/\(true=true/\Does Tryd.prog R 115 [ref 0 0,i6 (↑a:Int),int u64 (↑S:Int)] u1 g (ret (AV.bool (List.any (ofH p.rules.l (↑a:Int)) (a8 v S)))) u1 g)/\(∀(hp:List AObj) (g:R.σ),true=true/\Does Tryd.prog R 140 [AV.bool !List.any (ofH p.rules.l (↑a:Int)) (a8 v S)] hp g (ret (tup 0 (nth []))) hp g)/\Q AEx.normal (St.mk [(3,ref 3 0),(4,ref 4 0)] u1 g)) ([cO 27 (ad p v (AV.mp 1)),AObj.map es,cO 2 (nth [i6 s.rule,ah s.atoms]),cO 1 fun x=>ref 0 0,cO 1 fun x=>int u64 (↑S:Int)])) ⟨omg,omg,⟨rfl,(doT (T:=LT) [0,1] 5 (fun R _ g=>jY R (p) (v) (es) (S) (a) omg omg omg omg omg g))⟩,(fun _ _=>⟨rfl,(dQ _ _ omg _ _)⟩),?_⟩
     refine(eE rfl (aY trivial rfl rfl))
    ·show Wp _ _ _ 2 _ _ _ _ _
     refine cp (gD 5 omg [3,4] (by exact⟨show 3<5 by omega,show 4<5 by omega,fun j _=>aZ _ _ 3 _,fun j hj=>(match j with|0=>trivial|1=>trivial|_+2=>trivial),fun _ _=>show 0<5 by omega,fun _ _=>trivial,trivial⟩)) ?_
     refine vcR [] (lkL [(12,[3,72])]) (lkL [(12,[(1,ROrc.call (fn 105 0 (nth []) 1 (nth [ref (List.length [cO 27 (ad p v (AV.mp 1)),AObj.map es,cO 2 (nth [i6 s.rule,ah s.atoms]),cO 1 fun (x:Nat)=>ref 0 0,cO 1 fun (x:Nat)=>int u64 (↑S:Int)]) 0])) ([cO 27 (ad p v (AV.mp 1)),AObj.map es,cO 2 (nth [i6 s.rule,ah s.atoms]),cO 1 fun (x:Nat)=>ref 0 0,cO 1 fun (x:Nat)=>int u64 (↑S:Int)]++[cO 1 fun (x:Nat)=>int u64 (↑S:Int)]) g)])]) (fun Q=>(fun (u1:List AObj)=>1<=1/\(true=true/\Does Tryd.prog R 77 [int u64 (↑S:Int)] [cO 27 (ad p v (AV.mp 1)),AObj.map es,cO 2 (nth [i6 s.rule,ah s.atoms]),cO 1 fun x=>ref 0 0,cO 1 fun x=>int u64 (↑S:Int)] g (ret (fn 105 0 (nth []) 1 (nth [ref 5 0]))) u1 g)/\WpC Tryd.prog R 79 2 139 [1,1,1,1,1,1,0] Q [Kont.blk 4] (St.mk [(3,ref 3 0),(72,fn 105 0 (nth []) 1 (nth [ref 5 0]))] u1 g)) ([cO 27 (ad p v (AV.mp 1)),AObj.map es,cO 2 (nth [i6 s.rule,ah s.atoms]),cO 1 fun x=>ref 0 0,cO 1 fun x=>int u64 (↑S:Int),cO 1 fun x=>int u64 (↑S:Int)])) ⟨omg,⟨rfl,(cQ _ _ _ _)⟩,?_⟩
     refine iA 72 [73] 5 krf rfl rfl rfl hseq (fun _=>rfl) krf (fun _=>⟨trivial,trivial⟩)
      (fun _=>none) (fun _=>rfl)
      (fun k=>[cO 27 (ad p (fun b=>if b∈l.take k then 1 else v b) (.mp 1)),.map es,cO 2 (nth [.int .i64 s.rule,ah s.atoms]),cO 1 (fun _=>.ref 0 0),cO 1 (fun _=>.int .u64 S)])
      (fun _=>g) (fC rfl rfl) (fun _=>rfl) (by exact⟨omg,omg,omg,omg,omg,trivial⟩) (by exact⟨fun j _=>aZ _ _ 3 _,trivial,fun j hj=>(match j with|0=>trivial|1=>trivial|_+2=>trivial),fun _ _=>show 0<5 by omega,fun _ _=>trivial,trivial⟩) (by exact⟨fun _ _=>trivial,trivial⟩) [3] (by exact⟨show 3<5 by omega,trivial⟩) (fun k l' hk hjk=>?_) (fun _=>?_) (fun k hk hj hr=>by cases hr) (fun k id hk hj hr=>by cases hr)
     ·refine vcR [] (lkL [(13,[3,8])]) (fun _=>[]) (fun (Q:AEx->St R.σ->Prop)=>Q AEx.normal (St.mk [(3,ref 3 0),(8,i6 (↑(List.getD l k 0):Int))] [cO 27 (ad p (fun (b:Nat)=>if b∈List.take k l then 1 else v b) (AV.mp 1)),AObj.map es,cO 2 (nth [i6 s.rule,ah s.atoms]),cO 1 fun (x:Nat)=>ref 0 0,cO 1 fun (x:Nat)=>int u64 (↑S:Int)] g)) (?_)
      show Wp _ _ _ 5 _ _ _ _ _
      obtain⟨a,ha⟩:∃a,l.getD k 0=a:=⟨_,rfl⟩
      have ha24:a<24:=by rw[<-ha];exact hin k hk
      rw[ha]
      have ho:ao (ad p (fun b=>if b∈l.take k then 1 else v b) (.mp 1)) (a+2) 1 (fun _=>.int .i64 1)=ad p (fun b=>if b∈l.take (k+1) then 1 else v b) (.mp 1):=by
       funext j
       rw[lH rfl ha24 (fun _=>.int .i64 1) rfl]
       congr 1
       funext b
       unfold ck
       have e:l[k]=a:=by rw[<-ha,List.getD_eq_getElem?_getD,List.getElem?_eq_getElem hk];rfl
       have hmem:b∈l.take (k+1)↔b∈l.take k∨b=a:=by
        rw[List.take_add_one,List.mem_append,List.getElem?_eq_getElem hk,e]
        simp
       by_cases h1:b=a
       ·rw[if_pos h1,if_pos (hmem.2 (.inr h1))]
       ·rw[if_neg h1]
        by_cases h2:b∈l.take k
        ·exact(if_pos h2).trans (if_pos (hmem.2 (.inl h2))).symm
        ·exact(if_neg h2).trans (if_neg (fun h=>(hmem.1 h).elim h2 h1)).symm
      refine vcR [] (lkL []) (fun _=>[]) (fun Q=>1<=1/\(0<=(↑a:Int)/\(↑a:Int)<(↑24:Int))/\a+2+1<=27/\Q AEx.normal (St.mk [] [cO 27 (ao (ad p (fun (b:Nat)=>if b∈List.take k l then 1 else v b) (AV.mp 1)) (a+2) 1 fun x=>i6 1),AObj.map es,cO 2 (nth [i6 s.rule,ah s.atoms]),cO 1 fun x=>ref 0 0,cO 1 fun x=>int u64 (↑S:Int)] g)) ⟨omg,omg,omg,?_⟩
      refine(eE rfl (toL (h2:=⟨(AY (fun j hj=>?_)),rfl,AO,AO,AO,trivial⟩)))
      rw[ho]
     ·have he:(fun b=>if b∈l.take l.length then(1:Int) else v b)=bI v S:=by
       funext b
       unfold bI
       rw[List.take_length,<-hle]
       by_cases hb:S.testBit b=true
       ·rw[if_pos hb,if_pos (Tb.mem_memN.2 ⟨gf h2 hb,hb⟩)]
       ·rw[if_neg hb,if_neg (fun h=>hb (Tb.mem_memN.1 h).2)]
      rw[he]
      refine(av (bZ 2 _ _ rfl trivial omg trivial ⟨(fun _ _=>(by first|exact trivial|apply aZ)),trivial⟩ krf rfl rfl) (AM _))
 ·have hf:dh p v s=false:=by
   unfold dh cV
   rw[decide_eq_false omg]
   rfl
  rw[hf]
  have hm:decide ((s.atoms.l.length:Int) > 0)=false:=decide_eq_false h0
  refine spW (nt:=79) (rs:=[]) (k0:=2) ?_
  refine vcR [] (lkL [(0,[2,3]),(1,[2,3])]) (lkL [(1,[(5,ROrc.cpan (ifc 145 (agg 0 (nth []))) [cO 27 (ad p v (AV.mp 1)),AObj.map es,cO 2 (nth [i6 s.rule,ah s.atoms]),cO 1 fun (a:Nat)=>ref 0 0] g)])]) (fun Q=>(fun (u1:List AObj)=>2<=2/\(true=true/\Does Tryd.prog R 140 [AV.bool (decide ((↑(List.length s.atoms.l):Int) > 0))] u1 g (Oc.pan (ifc 145 (agg 0 (nth [])))) u1 g)/\Q (AEx.pan (ifc 145 (agg 0 (nth [])))) (St.mk [(2,ref 2 0),(3,ref 3 0)] u1 g)) ([cO 27 (ad p v (AV.mp 1)),AObj.map es,cO 2 (nth [i6 s.rule,ah s.atoms]),cO 1 fun a=>ref 0 0])) ⟨omg,⟨rfl,(iH _ _ omg _ _)⟩,?_⟩
  refine(jI (P:=Tryd.prog) (rs:=[]) 2 omg trivial ⟨(fun _ _=>(by first|exact trivial|apply aZ)),trivial⟩ krf rfl (AM _))
def bz (l:List Rule):List Int:=l.foldl (fun ks r=>if r.head∈ks then ks else ks++[r.head]) []
theorem lJ (l:List Rule)(r:Rule):bz (l++[r])=if r.head∈bz l then bz l else bz l++[r.head]:=by
 unfold bz
 rw[List.foldl_append]
 rfl
theorem nZ (l:List Rule)(r:Rule)(a:Int):ofH (l++[r]) a=if r.head=a then ofH l a++[r] else ofH l a:=by
 unfold ofH
 rw[List.filter_append]
 by_cases h:r.head=a
 ·rw[if_pos h];simp[h]
 ·rw[if_neg h];simp[h]
theorem j3 {l:List Rule}{a:Int}:a∈bz l↔∃r,r∈l/\r.head=a:=by
 have key:∀n,n<=l.length->(a∈bz (l.take n)↔∃r,r∈l.take n/\r.head=a):=fun n=>by
  induction n with
  |zero=>intro _;simp[bz]
  |succ n ih=>
   intro hn
   have ih:=ih omg
   rw[List.take_add_one,List.getElem?_eq_getElem omg]
   show a∈bz (l.take n++[l[n]])↔∃r,r∈l.take n++[l[n]]/\r.head=a
   rw[lJ]
   have e:(∃r,r∈l.take n++[l[n]]/\r.head=a)↔(∃r,r∈l.take n/\r.head=a)∨l[n].head=a:=by
    constructor
    ·rintro ⟨r,hr,h⟩
     rcases List.mem_append.1 hr with hr|hr
     ·exact .inl ⟨r,hr,h⟩
     ·have:r=l[n]:=by simpa using hr
      subst this
      exact .inr h
    ·rintro (⟨r,hr,h⟩|h)
     ·exact⟨r,List.mem_append.2 (.inl hr),h⟩
     ·exact⟨l[n],List.mem_append.2 (.inr (by simp)),h⟩
   rw[e,<-ih]
   by_cases hk:l[n].head∈bz (l.take n)
   ·rw[if_pos hk]
    exact⟨.inl,fun h=>h.elim id (fun h=>h▸hk)⟩
   ·rw[if_neg hk,List.mem_append]
    simp[eq_comm]
 have:=key l.length (Nat.le_refl _)
 rwa [List.take_length] at this
theorem xL (l:List Rule):(bz l).Nodup:=by
 have key:∀n,n<=l.length->(bz (l.take n)).Nodup:=fun n=>by
  induction n with
  |zero=>intro _;simp[bz]
  |succ n ih=>
   intro hn
   rw[List.take_add_one,List.getElem?_eq_getElem omg]
   show(bz (l.take n++[l[n]])).Nodup
   rw[lJ]
   by_cases hk:l[n].head∈bz (l.take n)
   ·rw[if_pos hk];exact ih omg
   ·rw[if_neg hk,List.nodup_append]
    refine⟨ih omg,by simp,fun x hx y hy=>?_⟩
    have:y=l[n].head:=by simpa using hy
    subst this
    exact fun e=>hk (e▸hx)
 have:=key l.length (Nat.le_refl _)
 rwa [List.take_length] at this
theorem xM {l:List Int}(hn:l.Nodup){i j:Nat}(hi:i<l.length)(hj:j<l.length)(e:l[i]=l[j]):i=j:=by
 rw[List.Nodup,List.pairwise_iff_getElem] at hn
 rcases Nat.lt_trichotomy i j with h|h|h
 ·exact absurd e (hn i j hi hj h)
 ·exact h
 ·exact absurd e.symm (hn j i hj hi h)
theorem lK {l:List Rule}{a:Int}:ofH l a=[]↔a∉bz l:=by
 unfold ofH
 rw[List.filter_eq_nil_iff,j3]
 constructor
 ·rintro h ⟨r,hr,e⟩
  exact h r hr (by simp[e])
 ·intro h r hr
  simp only[beq_iff_eq]
  exact fun e=>h ⟨r,hr,e⟩
def bJ (f:Nat->AObj)(r:List AObj):List AObj:=f 0::f 1::f 2::f 3::f 4::f 5::f 6::f 7::f 8::f 9::f 10::f 11::f 12::f 13::f 14::f 15::f 16::f 17::f 18::f 19::f 20::f 21::f 22::f 23::r
theorem lM {f:Nat->AObj}{r:List AObj}{j:Nat}(hj:j<24):ag (bJ f r) j=f j:=by
 have h:j=0∨j=1∨j=2∨j=3∨j=4∨j=5∨j=6∨j=7∨j=8∨j=9∨j=10∨j=11∨j=12∨j=13∨j=14∨j=15∨j=16∨j=17∨j=18∨j=19∨j=20∨j=21∨j=22∨j=23:=by omega
 rcases h with rfl|rfl|rfl|rfl|rfl|rfl|rfl|rfl|rfl|rfl|rfl|rfl|rfl|rfl|rfl|rfl|rfl|rfl|rfl|rfl|rfl|rfl|rfl|rfl <;> rfl
theorem xN {f g:Nat->AObj}{r:List AObj}{j:Nat}{o:AObj}(hj:j<24)(h:∀m,m<24->m≠j->g m=f m)(ho:g j=o):aK (bJ f r) j o=bJ g r:=by
 subst ho
 have h':j=0∨j=1∨j=2∨j=3∨j=4∨j=5∨j=6∨j=7∨j=8∨j=9∨j=10∨j=11∨j=12∨j=13∨j=14∨j=15∨j=16∨j=17∨j=18∨j=19∨j=20∨j=21∨j=22∨j=23:=by omega
 unfold bJ
 rcases h' with rfl|rfl|rfl|rfl|rfl|rfl|rfl|rfl|rfl|rfl|rfl|rfl|rfl|rfl|rfl|rfl|rfl|rfl|rfl|rfl|rfl|rfl|rfl|rfl
 ·rw[h 1 dcd dcd,h 2 dcd dcd,h 3 dcd dcd,h 4 dcd dcd,h 5 dcd dcd,h 6 dcd dcd,h 7 dcd dcd,h 8 dcd dcd,h 9 dcd dcd,h 10 dcd dcd,h 11 dcd dcd,h 12 dcd dcd,h 13 dcd dcd,h 14 dcd dcd,h 15 dcd dcd,h 16 dcd dcd,h 17 dcd dcd,h 18 dcd dcd,h 19 dcd dcd,h 20 dcd dcd,h 21 dcd dcd,h 22 dcd dcd,h 23 dcd dcd];rfl
 ·rw[h 0 dcd dcd,h 2 dcd dcd,h 3 dcd dcd,h 4 dcd dcd,h 5 dcd dcd,h 6 dcd dcd,h 7 dcd dcd,h 8 dcd dcd,h 9 dcd dcd,h 10 dcd dcd,h 11 dcd dcd,h 12 dcd dcd,h 13 dcd dcd,h 14 dcd dcd,h 15 dcd dcd,h 16 dcd dcd,h 17 dcd dcd,h 18 dcd dcd,h 19 dcd dcd,h 20 dcd dcd,h 21 dcd dcd,h 22 dcd dcd,h 23 dcd dcd];rfl
 ·rw[h 0 dcd dcd,h 1 dcd dcd,h 3 dcd dcd,h 4 dcd dcd,h 5 dcd dcd,h 6 dcd dcd,h 7 dcd dcd,h 8 dcd dcd,h 9 dcd dcd,h 10 dcd dcd,h 11 dcd dcd,h 12 dcd dcd,h 13 dcd dcd,h 14 dcd dcd,h 15 dcd dcd,h 16 dcd dcd,h 17 dcd dcd,h 18 dcd dcd,h 19 dcd dcd,h 20 dcd dcd,h 21 dcd dcd,h 22 dcd dcd,h 23 dcd dcd];rfl
 ·rw[h 0 dcd dcd,h 1 dcd dcd,h 2 dcd dcd,h 4 dcd dcd,h 5 dcd dcd,h 6 dcd dcd,h 7 dcd dcd,h 8 dcd dcd,h 9 dcd dcd,h 10 dcd dcd,h 11 dcd dcd,h 12 dcd dcd,h 13 dcd dcd,h 14 dcd dcd,h 15 dcd dcd,h 16 dcd dcd,h 17 dcd dcd,h 18 dcd dcd,h 19 dcd dcd,h 20 dcd dcd,h 21 dcd dcd,h 22 dcd dcd,h 23 dcd dcd];rfl
 ·rw[h 0 dcd dcd,h 1 dcd dcd,h 2 dcd dcd,h 3 dcd dcd,h 5 dcd dcd,h 6 dcd dcd,h 7 dcd dcd,h 8 dcd dcd,h 9 dcd dcd,h 10 dcd dcd,h 11 dcd dcd,h 12 dcd dcd,h 13 dcd dcd,h 14 dcd dcd,h 15 dcd dcd,h 16 dcd dcd,h 17 dcd dcd,h 18 dcd dcd,h 19 dcd dcd,h 20 dcd dcd,h 21 dcd dcd,h 22 dcd dcd,h 23 dcd dcd];rfl
 ·rw[h 0 dcd dcd,h 1 dcd dcd,h 2 dcd dcd,h 3 dcd dcd,h 4 dcd dcd,h 6 dcd dcd,h 7 dcd dcd,h 8 dcd dcd,h 9 dcd dcd,h 10 dcd dcd,h 11 dcd dcd,h 12 dcd dcd,h 13 dcd dcd,h 14 dcd dcd,h 15 dcd dcd,h 16 dcd dcd,h 17 dcd dcd,h 18 dcd dcd,h 19 dcd dcd,h 20 dcd dcd,h 21 dcd dcd,h 22 dcd dcd,h 23 dcd dcd];rfl
 ·rw[h 0 dcd dcd,h 1 dcd dcd,h 2 dcd dcd,h 3 dcd dcd,h 4 dcd dcd,h 5 dcd dcd,h 7 dcd dcd,h 8 dcd dcd,h 9 dcd dcd,h 10 dcd dcd,h 11 dcd dcd,h 12 dcd dcd,h 13 dcd dcd,h 14 dcd dcd,h 15 dcd dcd,h 16 dcd dcd,h 17 dcd dcd,h 18 dcd dcd,h 19 dcd dcd,h 20 dcd dcd,h 21 dcd dcd,h 22 dcd dcd,h 23 dcd dcd];rfl
 ·rw[h 0 dcd dcd,h 1 dcd dcd,h 2 dcd dcd,h 3 dcd dcd,h 4 dcd dcd,h 5 dcd dcd,h 6 dcd dcd,h 8 dcd dcd,h 9 dcd dcd,h 10 dcd dcd,h 11 dcd dcd,h 12 dcd dcd,h 13 dcd dcd,h 14 dcd dcd,h 15 dcd dcd,h 16 dcd dcd,h 17 dcd dcd,h 18 dcd dcd,h 19 dcd dcd,h 20 dcd dcd,h 21 dcd dcd,h 22 dcd dcd,h 23 dcd dcd];rfl
 ·rw[h 0 dcd dcd,h 1 dcd dcd,h 2 dcd dcd,h 3 dcd dcd,h 4 dcd dcd,h 5 dcd dcd,h 6 dcd dcd,h 7 dcd dcd,h 9 dcd dcd,h 10 dcd dcd,h 11 dcd dcd,h 12 dcd dcd,h 13 dcd dcd,h 14 dcd dcd,h 15 dcd dcd,h 16 dcd dcd,h 17 dcd dcd,h 18 dcd dcd,h 19 dcd dcd,h 20 dcd dcd,h 21 dcd dcd,h 22 dcd dcd,h 23 dcd dcd];rfl
 ·rw[h 0 dcd dcd,h 1 dcd dcd,h 2 dcd dcd,h 3 dcd dcd,h 4 dcd dcd,h 5 dcd dcd,h 6 dcd dcd,h 7 dcd dcd,h 8 dcd dcd,h 10 dcd dcd,h 11 dcd dcd,h 12 dcd dcd,h 13 dcd dcd,h 14 dcd dcd,h 15 dcd dcd,h 16 dcd dcd,h 17 dcd dcd,h 18 dcd dcd,h 19 dcd dcd,h 20 dcd dcd,h 21 dcd dcd,h 22 dcd dcd,h 23 dcd dcd];rfl
 ·rw[h 0 dcd dcd,h 1 dcd dcd,h 2 dcd dcd,h 3 dcd dcd,h 4 dcd dcd,h 5 dcd dcd,h 6 dcd dcd,h 7 dcd dcd,h 8 dcd dcd,h 9 dcd dcd,h 11 dcd dcd,h 12 dcd dcd,h 13 dcd dcd,h 14 dcd dcd,h 15 dcd dcd,h 16 dcd dcd,h 17 dcd dcd,h 18 dcd dcd,h 19 dcd dcd,h 20 dcd dcd,h 21 dcd dcd,h 22 dcd dcd,h 23 dcd dcd];rfl
 ·rw[h 0 dcd dcd,h 1 dcd dcd,h 2 dcd dcd,h 3 dcd dcd,h 4 dcd dcd,h 5 dcd dcd,h 6 dcd dcd,h 7 dcd dcd,h 8 dcd dcd,h 9 dcd dcd,h 10 dcd dcd,h 12 dcd dcd,h 13 dcd dcd,h 14 dcd dcd,h 15 dcd dcd,h 16 dcd dcd,h 17 dcd dcd,h 18 dcd dcd,h 19 dcd dcd,h 20 dcd dcd,h 21 dcd dcd,h 22 dcd dcd,h 23 dcd dcd];rfl
 ·rw[h 0 dcd dcd,h 1 dcd dcd,h 2 dcd dcd,h 3 dcd dcd,h 4 dcd dcd,h 5 dcd dcd,h 6 dcd dcd,h 7 dcd dcd,h 8 dcd dcd,h 9 dcd dcd,h 10 dcd dcd,h 11 dcd dcd,h 13 dcd dcd,h 14 dcd dcd,h 15 dcd dcd,h 16 dcd dcd,h 17 dcd dcd,h 18 dcd dcd,h 19 dcd dcd,h 20 dcd dcd,h 21 dcd dcd,h 22 dcd dcd,h 23 dcd dcd];rfl
 ·rw[h 0 dcd dcd,h 1 dcd dcd,h 2 dcd dcd,h 3 dcd dcd,h 4 dcd dcd,h 5 dcd dcd,h 6 dcd dcd,h 7 dcd dcd,h 8 dcd dcd,h 9 dcd dcd,h 10 dcd dcd,h 11 dcd dcd,h 12 dcd dcd,h 14 dcd dcd,h 15 dcd dcd,h 16 dcd dcd,h 17 dcd dcd,h 18 dcd dcd,h 19 dcd dcd,h 20 dcd dcd,h 21 dcd dcd,h 22 dcd dcd,h 23 dcd dcd];rfl
 ·rw[h 0 dcd dcd,h 1 dcd dcd,h 2 dcd dcd,h 3 dcd dcd,h 4 dcd dcd,h 5 dcd dcd,h 6 dcd dcd,h 7 dcd dcd,h 8 dcd dcd,h 9 dcd dcd,h 10 dcd dcd,h 11 dcd dcd,h 12 dcd dcd,h 13 dcd dcd,h 15 dcd dcd,h 16 dcd dcd,h 17 dcd dcd,h 18 dcd dcd,h 19 dcd dcd,h 20 dcd dcd,h 21 dcd dcd,h 22 dcd dcd,h 23 dcd dcd];rfl
 ·rw[h 0 dcd dcd,h 1 dcd dcd,h 2 dcd dcd,h 3 dcd dcd,h 4 dcd dcd,h 5 dcd dcd,h 6 dcd dcd,h 7 dcd dcd,h 8 dcd dcd,h 9 dcd dcd,h 10 dcd dcd,h 11 dcd dcd,h 12 dcd dcd,h 13 dcd dcd,h 14 dcd dcd,h 16 dcd dcd,h 17 dcd dcd,h 18 dcd dcd,h 19 dcd dcd,h 20 dcd dcd,h 21 dcd dcd,h 22 dcd dcd,h 23 dcd dcd];rfl
 ·rw[h 0 dcd dcd,h 1 dcd dcd,h 2 dcd dcd,h 3 dcd dcd,h 4 dcd dcd,h 5 dcd dcd,h 6 dcd dcd,h 7 dcd dcd,h 8 dcd dcd,h 9 dcd dcd,h 10 dcd dcd,h 11 dcd dcd,h 12 dcd dcd,h 13 dcd dcd,h 14 dcd dcd,h 15 dcd dcd,h 17 dcd dcd,h 18 dcd dcd,h 19 dcd dcd,h 20 dcd dcd,h 21 dcd dcd,h 22 dcd dcd,h 23 dcd dcd];rfl
 ·rw[h 0 dcd dcd,h 1 dcd dcd,h 2 dcd dcd,h 3 dcd dcd,h 4 dcd dcd,h 5 dcd dcd,h 6 dcd dcd,h 7 dcd dcd,h 8 dcd dcd,h 9 dcd dcd,h 10 dcd dcd,h 11 dcd dcd,h 12 dcd dcd,h 13 dcd dcd,h 14 dcd dcd,h 15 dcd dcd,h 16 dcd dcd,h 18 dcd dcd,h 19 dcd dcd,h 20 dcd dcd,h 21 dcd dcd,h 22 dcd dcd,h 23 dcd dcd];rfl
 ·rw[h 0 dcd dcd,h 1 dcd dcd,h 2 dcd dcd,h 3 dcd dcd,h 4 dcd dcd,h 5 dcd dcd,h 6 dcd dcd,h 7 dcd dcd,h 8 dcd dcd,h 9 dcd dcd,h 10 dcd dcd,h 11 dcd dcd,h 12 dcd dcd,h 13 dcd dcd,h 14 dcd dcd,h 15 dcd dcd,h 16 dcd dcd,h 17 dcd dcd,h 19 dcd dcd,h 20 dcd dcd,h 21 dcd dcd,h 22 dcd dcd,h 23 dcd dcd];rfl
 ·rw[h 0 dcd dcd,h 1 dcd dcd,h 2 dcd dcd,h 3 dcd dcd,h 4 dcd dcd,h 5 dcd dcd,h 6 dcd dcd,h 7 dcd dcd,h 8 dcd dcd,h 9 dcd dcd,h 10 dcd dcd,h 11 dcd dcd,h 12 dcd dcd,h 13 dcd dcd,h 14 dcd dcd,h 15 dcd dcd,h 16 dcd dcd,h 17 dcd dcd,h 18 dcd dcd,h 20 dcd dcd,h 21 dcd dcd,h 22 dcd dcd,h 23 dcd dcd];rfl
 ·rw[h 0 dcd dcd,h 1 dcd dcd,h 2 dcd dcd,h 3 dcd dcd,h 4 dcd dcd,h 5 dcd dcd,h 6 dcd dcd,h 7 dcd dcd,h 8 dcd dcd,h 9 dcd dcd,h 10 dcd dcd,h 11 dcd dcd,h 12 dcd dcd,h 13 dcd dcd,h 14 dcd dcd,h 15 dcd dcd,h 16 dcd dcd,h 17 dcd dcd,h 18 dcd dcd,h 19 dcd dcd,h 21 dcd dcd,h 22 dcd dcd,h 23 dcd dcd];rfl
 ·rw[h 0 dcd dcd,h 1 dcd dcd,h 2 dcd dcd,h 3 dcd dcd,h 4 dcd dcd,h 5 dcd dcd,h 6 dcd dcd,h 7 dcd dcd,h 8 dcd dcd,h 9 dcd dcd,h 10 dcd dcd,h 11 dcd dcd,h 12 dcd dcd,h 13 dcd dcd,h 14 dcd dcd,h 15 dcd dcd,h 16 dcd dcd,h 17 dcd dcd,h 18 dcd dcd,h 19 dcd dcd,h 20 dcd dcd,h 22 dcd dcd,h 23 dcd dcd];rfl
 ·rw[h 0 dcd dcd,h 1 dcd dcd,h 2 dcd dcd,h 3 dcd dcd,h 4 dcd dcd,h 5 dcd dcd,h 6 dcd dcd,h 7 dcd dcd,h 8 dcd dcd,h 9 dcd dcd,h 10 dcd dcd,h 11 dcd dcd,h 12 dcd dcd,h 13 dcd dcd,h 14 dcd dcd,h 15 dcd dcd,h 16 dcd dcd,h 17 dcd dcd,h 18 dcd dcd,h 19 dcd dcd,h 20 dcd dcd,h 21 dcd dcd,h 23 dcd dcd];rfl
 ·rw[h 0 dcd dcd,h 1 dcd dcd,h 2 dcd dcd,h 3 dcd dcd,h 4 dcd dcd,h 5 dcd dcd,h 6 dcd dcd,h 7 dcd dcd,h 8 dcd dcd,h 9 dcd dcd,h 10 dcd dcd,h 11 dcd dcd,h 12 dcd dcd,h 13 dcd dcd,h 14 dcd dcd,h 15 dcd dcd,h 16 dcd dcd,h 17 dcd dcd,h 18 dcd dcd,h 19 dcd dcd,h 20 dcd dcd,h 21 dcd dcd,h 22 dcd dcd];rfl
def e9 (a:Nat):List Nat:=[0,1,2,(bif Nat.beq 0 a then 29 else 3),(bif Nat.beq 1 a then 29 else 4),(bif Nat.beq 2 a then 29 else 5),(bif Nat.beq 3 a then 29 else 6),(bif Nat.beq 4 a then 29 else 7),(bif Nat.beq 5 a then 29 else 8),(bif Nat.beq 6 a then 29 else 9),(bif Nat.beq 7 a then 29 else 10),(bif Nat.beq 8 a then 29 else 11),(bif Nat.beq 9 a then 29 else 12),(bif Nat.beq 10 a then 29 else 13),(bif Nat.beq 11 a then 29 else 14),(bif Nat.beq 12 a then 29 else 15),(bif Nat.beq 13 a then 29 else 16),(bif Nat.beq 14 a then 29 else 17),(bif Nat.beq 15 a then 29 else 18),(bif Nat.beq 16 a then 29 else 19),(bif Nat.beq 17 a then 29 else 20),(bif Nat.beq 18 a then 29 else 21),(bif Nat.beq 19 a then 29 else 22),(bif Nat.beq 20 a then 29 else 23),(bif Nat.beq 21 a then 29 else 24),(bif Nat.beq 22 a then 29 else 25),(bif Nat.beq 23 a then 29 else 26)]
theorem n6 {a:Nat}(ha:a<24):bF (e9 a) 30=true/\cN (e9 a)=true/\∀b,b<24->au (e9 a) 30 (3+b)=(bif Nat.beq b a then 29 else b+3):=by
 have h:(List.range 24).all (fun a=>bF (e9 a) 30&&(cN (e9 a)&&(List.range 24).all (fun b=>au (e9 a) 30 (3+b)==(bif Nat.beq b a then 29 else b+3))))=true:=by decide +kernel
 have h:=(List.all_eq_true.1 h) a (List.mem_range.2 ha)
 simp only[Bool.and_eq_true] at h
 exact⟨h.1,h.2.1,fun b hb=>by simpa using (List.all_eq_true.1 h.2.2) b (List.mem_range.2 hb)⟩
theorem xO {f:Nat->Nat}{hp:List AObj}{a:Nat}{g:Nat->AObj}{x0 x1 x2:AObj}(h:∀j,j<24->LeO (ag hp (bif Nat.beq j a then 29 else j+3)) (bW f (g j)))(h0:LeO (ag hp 0) (bW f x0))(h1:LeO (ag hp 1) (bW f x1))(h2:LeO (ag hp 2) (bW f x2)):dd f hp (e9 a) (x0::x1::x2::bJ g []):=
 ⟨h0,h1,h2,h 0 dcd,h 1 dcd,h 2 dcd,h 3 dcd,h 4 dcd,h 5 dcd,h 6 dcd,h 7 dcd,h 8 dcd,h 9 dcd,h 10 dcd,h 11 dcd,h 12 dcd,h 13 dcd,h 14 dcd,h 15 dcd,h 16 dcd,h 17 dcd,h 18 dcd,h 19 dcd,h 20 dcd,h 21 dcd,h 22 dcd,h 23 dcd,trivial⟩
def esO (l:List Rule):List (Value × AV):=(bz l).map (fun b=>(.int .i64 b,.ow true (3+b.toNat) (ofH l b).length 2))
def esF (l:List Rule):List (Value × AV):=(bz l).map (fun b=>(.int .i64 b,ae ⟨ofH l b,.opn⟩))
def es1 (l:List Rule)(h:Int):List (Value × AV):=(bz l).map (fun b=>(.int .i64 b,if b=h then .ow true 29 (ofH l b).length 2 else .ow true (3+b.toNat) (ofH l b).length 2))
def aJ (l:List Rule):Nat->AV:=fun c=>br (l.getD (c/2) default) (c%2)
def inH (l:List Rule)(j:Nat):AObj:=cO ((ofH l j).length*2) (aJ (ofH l j))
theorem n7 {l:List Rule}(hr:∀r,r∈l->aE r):HeadsOk (esF l) l:=by
 have hk:∀b,b∈bz l->0<=b/\b<24:=fun b hb=>by
  obtain⟨r,h1,h2⟩:=j3.1 hb
  have:=(hr r h1).2
  omega
 refine⟨fun e he=>?_,fun a ha=>⟨?_,fun e he hk'=>?_⟩,fun a ha e he hk'=>?_⟩
 ·obtain⟨b,hb,rfl⟩:=List.mem_map.1 he
  have:=hk b hb
  exact⟨b.toNat,by show Value.int .i64 b=_;congr 1;omega,omg⟩
 ·have hb:a∈bz l:=by
   by_cases h:a∈bz l
   ·exact h
   ·exact absurd (lK.2 h) ha
  exact⟨_,List.mem_map.2 ⟨a,hb,rfl⟩,rfl⟩
 ·obtain⟨b,hb,rfl⟩:=List.mem_map.1 he
  have e:b=a:=by
   have:Value.int .i64 b=.int .i64 a:=hk'
   simpa using this
  subst e
  rfl
 ·obtain⟨b,hb,rfl⟩:=List.mem_map.1 he
  have e:b=a:=by
   have:Value.int .i64 b=.int .i64 a:=hk'
   simpa using this
  subst e
  exact(lK.1 ha) hb
theorem xP {l:List Rule}{r:Rule}:MapPut (esO l) (es1 (l++[r]) r.head) (.int .i64 r.head) (.ow true 29 (ofH (l++[r]) r.head).length 2):=by
 have hkey:∀(b a:Int),(Value.int .i64 b=.int .i64 a)↔b=a:=fun b a=>by simp
 have hval:∀b,b≠r.head->ofH (l++[r]) b=ofH l b:=fun b hb=>by rw[nZ,if_neg (fun e=>hb e.symm)]
 have hin:(∃e∈esO l,e.1=Value.int .i64 r.head)↔r.head∈bz l:=by
  constructor
  ·rintro ⟨e,he,h⟩
   obtain⟨b,hb,rfl⟩:=List.mem_map.1 he
   rw[<-(hkey _ _).1 h];exact hb
  ·exact fun h=>⟨_,List.mem_map.2 ⟨_,h,rfl⟩,rfl⟩
 refine⟨fun h=>?_,fun h=>?_,fun i j k v v' hi hj=>?_⟩
 ·have hn:r.head∉bz l:=fun hc=>by
   obtain⟨e,he,h2⟩:=hin.2 hc
   exact h e he h2
  unfold es1 esO
  rw[lJ,if_neg hn,List.map_append]
  congr 1
  ·refine List.map_congr_left (fun b hb=>?_)
   have hne:b≠r.head:=fun e=>hn (e▸hb)
   rw[if_neg hne,hval b hne]
  ·show [(Value.int .i64 r.head,if r.head=r.head then AV.ow true 29 (ofH (l++[r]) r.head).length 2 else _)]=_
   rw[if_pos rfl]
 ·have hy:=hin.1 h
  have e:bz (l++[r])=bz l:=by rw[lJ,if_pos hy]
  unfold es1 esO
  rw[e]
  refine⟨by rw[List.length_map,List.length_map],fun i k v hi=>?_⟩
  rw[List.getElem?_map] at hi ⊢
  cases hx:(bz l)[i]? with
  |none=>rw[hx] at hi;cases hi
  |some b=>
   rw[hx] at hi
   cases hi
   by_cases hb:b=r.head
   ·subst hb
    exact .inl ⟨rfl,if_pos rfl,_,rfl⟩
   ·refine .inr ⟨fun e=>hb ((hkey _ _).1 e),?_⟩
    rw[if_neg hb,hval b hb]
    rfl
 ·unfold esO at hi hj
  rw[List.getElem?_map] at hi hj
  cases hx:(bz l)[i]? with
  |none=>rw[hx] at hi;cases hi
  |some b=>
   cases hy:(bz l)[j]? with
   |none=>rw[hy] at hj;cases hj
   |some c=>
    rw[hx] at hi
    rw[hy] at hj
    cases hi
    have e:c=b:=by
     have:=congrArg (fun x:Option (Value × AV)=>x.map Prod.fst) hj
     simpa using this
    subst e
    have h1:=(List.getElem?_eq_some_iff.1 hx)
    have h2:=(List.getElem?_eq_some_iff.1 hy)
    obtain⟨h1,h1'⟩:=h1
    obtain⟨h2,h2'⟩:=h2
    exact xM (xL l) h1 h2 (h1'.trans h2'.symm)
theorem xQ {l:List Rule}{h:Int}(hk:∀b,b∈bz l->0<=b/\b<24)(hh:0<=h/\h<24):es1 l h=(esO l).map (fun e=>(e.1,aI (au (e9 h.toNat) 30) e.2)):=by
 unfold es1 esO
 rw[List.map_map]
 refine List.map_congr_left (fun b hb=>?_)
 have h1:=hk b hb
 have h2:=(n6 (a:=h.toNat) omg).2.2 b.toNat omg
 show(Value.int .i64 b,_)=(Value.int .i64 b,AV.ow true (au (e9 h.toNat) 30 (3+b.toNat)) _ 2)
 rw[h2]
 by_cases e:b=h
 ·subst e
  rw[if_pos rfl,show Nat.beq b.toNat b.toNat=true by simp]
  rfl
 ·rw[if_neg e,show Nat.beq b.toNat h.toNat=false from by
   cases hx:Nat.beq b.toNat h.toNat with
   |false=>rfl
   |true=>exact absurd (Nat.eq_of_beq_eq_true hx) omg]
  congr 2
  simp[Nat.add_comm]
theorem rS {f g:Nat->AObj}{r r':List AObj}(h:∀j,j<24->LeO (f j) (g j))(hr:leH r r'):leH (bJ f r) (bJ g r'):=
 ⟨h 0 dcd,h 1 dcd,h 2 dcd,h 3 dcd,h 4 dcd,h 5 dcd,h 6 dcd,h 7 dcd,h 8 dcd,h 9 dcd,h 10 dcd,h 11 dcd,h 12 dcd,h 13 dcd,h 14 dcd,h 15 dcd,h 16 dcd,h 17 dcd,h 18 dcd,h 19 dcd,h 20 dcd,h 21 dcd,h 22 dcd,h 23 dcd,hr⟩
theorem gg {R:Res}{k0:Nat}(get:Nat->AV):∀(n:Nat) {s:St R.σ},To R k0 s ⟨s.fr,s.hp++List.replicate n (cO 0 get),s.g⟩
 |0,s=>by rw[List.replicate_zero,List.append_nil];exact A0 s
 |n+1,s=>by
  have h:=(vA (k0:=k0) (s:=s) get).trans (gg get n)
  rw[List.append_assoc] at h
  exact h
def mkH (p:Prg)(l:List Rule)(r:List AObj):List AObj:=cO 2 (nth [.int .i64 p.atoms,ae p.rules])::.mapo (esO l)::cO 27 (ad p (fun _=>3) (.mp 1))::bJ (inH l) r
theorem xR {p:Prg}{j:Nat}(hj:j<27):nth [.int .i64 p.atoms,ae p.rules,.int .i64 3,.int .i64 3,.int .i64 3,.int .i64 3,.int .i64 3,.int .i64 3,.int .i64 3,.int .i64 3,.int .i64 3,.int .i64 3,.int .i64 3,.int .i64 3,.int .i64 3,.int .i64 3,.int .i64 3,.int .i64 3,.int .i64 3,.int .i64 3,.int .i64 3,.int .i64 3,.int .i64 3,.int .i64 3,.int .i64 3,.int .i64 3,.mp 1] j=ad p (fun _=>3) (.mp 1) j:=by
 have h:j=0∨j=1∨j=2∨j=3∨j=4∨j=5∨j=6∨j=7∨j=8∨j=9∨j=10∨j=11∨j=12∨j=13∨j=14∨j=15∨j=16∨j=17∨j=18∨j=19∨j=20∨j=21∨j=22∨j=23∨j=24∨j=25∨j=26:=by omega
 rcases h with rfl|rfl|rfl|rfl|rfl|rfl|rfl|rfl|rfl|rfl|rfl|rfl|rfl|rfl|rfl|rfl|rfl|rfl|rfl|rfl|rfl|rfl|rfl|rfl|rfl|rfl|rfl <;> rfl
def aQ (f:Nat->AObj)(a:Nat):Nat->AObj:=fun j=>bif Nat.beq j a then .dead else f j
def xS (f:Nat->AObj):List (Nat × AObj):=[(3,f 0),(4,f 1),(5,f 2),(6,f 3),(7,f 4),(8,f 5),(9,f 6),(10,f 7),(11,f 8),(12,f 9),(13,f 10),(14,f 11),(15,f 12),(16,f 13),(17,f 14),(18,f 15),(19,f 16),(20,f 17),(21,f 18),(22,f 19),(23,f 20),(24,f 21),(25,f 22),(26,f 23)]
theorem xT {f:Nat->AObj}{x0 x1 x2:AObj}{r:List AObj}{a:Nat}(ha:a<24):aK (x0::x1::x2::bJ f r) (3+a) .dead=x0::x1::x2::bJ (aQ f a) r:=by
 rw[show 3+a=a+3 by omega]
 show x0::x1::x2::aK (bJ f r) a .dead=_
 rw[xN (g:=aQ f a) (o:=.dead) ha (fun m _ hne=>by
  unfold aQ
  rw[show Nat.beq m a=false from by
   cases h:Nat.beq m a with
   |false=>rfl
   |true=>exact absurd (Nat.eq_of_beq_eq_true h) hne]
  rfl) (by
  unfold aQ
  rw[show Nat.beq a a=true by simp]
  rfl)]
theorem lN {f:Nat->AObj}{x0 x1 x2:AObj}{r:List AObj}{a:Nat}(ha:a<24):ag (x0::x1::x2::bJ f r) (3+a)=f a:=by
 rw[show 3+a=a+3 by omega]
 exact lM ha
theorem xU {l:List Rule}{h:Int}(hm:∀e∈esO l,e.1≠.int .i64 h):ofH l h=[]:=by
 rw[lK]
 intro hk
 exact hm _ (List.mem_map.2 ⟨h,hk,rfl⟩) rfl
theorem xV {l:List Rule}{h:Int}{e:Value × AV}(he:e∈esO l)(hk:e.1=.int .i64 h):e.2=.ow true (3+h.toNat) (ofH l h).length 2:=by
 obtain⟨b,hb,rfl⟩:=List.mem_map.1 he
 have e:b=h:=by simpa using hk
 subst e
 rfl
theorem gh {h:Int}(hh:0<=h/\h<24):∃l,Go.keyOf Tryd.prog 3 (.int .i64 h)=some l:=by
 obtain⟨n,rfl⟩:∃n:Nat,h=n:=⟨h.toNat,omg⟩
 exact gQ omg
theorem rT {l:List Rule}(hr:∀r,r∈l->aE r){e:Value × AV}(he:e∈esO l):∃k,Go.keyOf Tryd.prog 3 e.1=some k:=by
 obtain⟨b,hb,rfl⟩:=List.mem_map.1 he
 obtain⟨r,h1,rfl⟩:=j3.1 hb
 exact gh (hr r h1).2
theorem lO {l:List Rule}{r:Rule}{z:Nat->AV}{c:Nat}(hc:c<(l.length+1)*2):aJ (l++[r]) c=bb 2 l.length (fun i j=>aJ l (i*2+j)) (fun i j=>ao z 0 2 (nth [.int .i64 r.head,ap r.body]) (0+i*2+j)) c:=by
 unfold bb
 by_cases h:c<l.length*2
 ·rw[if_pos h]
  show _=aJ l (c/2*2+c%2)
  rw[show c/2*2+c%2=c by omega]
  unfold aJ
  rw[List.getD_eq_getElem?_getD,List.getElem?_append_left omg,<-List.getD_eq_getElem?_getD]
 ·rw[if_neg h]
  show _=ao z 0 2 _ (0+(c-l.length*2)/2*2+(c-l.length*2)%2)
  rw[eD,if_pos omg]
  unfold aJ
  rw[show c/2=l.length by omega,List.getD_eq_getElem?_getD,List.getElem?_append_right (Nat.le_refl _),Nat.sub_self]
  show br r (c%2)=nth _ (0+(c-l.length*2)/2*2+(c-l.length*2)%2-0)
  rw[show 0+(c-l.length*2)/2*2+(c-l.length*2)%2-0=c%2 by omega]
  rfl
theorem lw {f:Nat->Nat}(r:Rule)(j:Nat):aI f (br r j)=br r j:=by
 match j with
 |0=>rfl
 |1=>rfl
 |_+2=>rfl
theorem lu {k:Nat}(r:Rule)(j:Nat):Below k (br r j):=by
 match j with
 |0=>trivial
 |1=>trivial
 |_+2=>trivial
theorem gM {f:Nat->Nat}{n:Nat}{l:List Rule}:bW f (cO n (aJ l))=cO n (aJ l):=by
 show cO n (fun j=>aI f (aJ l j))=_
 congr 1
 funext j
 exact lw _ _
theorem iC {f:Nat->Nat}{x:Int}{y:KL Rule}:LeO (cO 2 (nth [.int .i64 x,ae y])) (bW f (cO 2 (nth [.int .i64 x,ae y]))):=
 AY (fun j hj=>match j,hj with|0,_=>rfl|1,_=>rfl)
theorem rU {P:Program}{R:Res}{o:Oper}{ev:Operand->AV}{hp hp' hp'':List AObj}{g g':R.σ}{v:AV}(h:OpOk P R o ev hp g v hp' g')(e:hp'=hp''):OpOk P R o ev hp g v hp'' g':=e▸h
theorem xW (p:Prg):leH ([cO 2 (nth [.int .i64 p.atoms,ae p.rules]),.mapo [],cO 27 (nth [.int .i64 p.atoms,ae p.rules,.int .i64 3,.int .i64 3,.int .i64 3,.int .i64 3,.int .i64 3,.int .i64 3,.int .i64 3,.int .i64 3,.int .i64 3,.int .i64 3,.int .i64 3,.int .i64 3,.int .i64 3,.int .i64 3,.int .i64 3,.int .i64 3,.int .i64 3,.int .i64 3,.int .i64 3,.int .i64 3,.int .i64 3,.int .i64 3,.int .i64 3,.int .i64 3,.mp 1])]++List.replicate 24 (cO 0 (aJ []))) (mkH p [] []):=
 ⟨AP _,AP _,AY (fun j hj=>xR hj),rS (f:=fun _=>cO 0 (aJ [])) (fun j hj=>AP _) trivial⟩
theorem xX (R:Res)(p:Prg)(hl:p.rules.l.length<1000000)(hr:∀r,r∈p.rules.l->aE r)(g:R.σ):Does Tryd.prog R 66 [aw p] [] g (.ret (.ref 0 0)) [cO 27 (ad p (fun _=>3) (.mp 1)),.map (esF p.rules.l)] g:=by
 refine spW (nt:=36) (rs:=[.tmp 2]) (k0:=0) ?_
 refine vcR [] (lkL [(0,[1]),(1,[1,3]),(2,[3,12,13,14])]) (lkL [(1,[(1,ROrc.pcall (jW fun (x:Nat)=>3)),(2,ROrc.new (AV.mp 1) (AObj.mapo []))])]) (fun Q=>(fun (u1:AV)=>(fun (u2:AObj)=>Flw Tryd.prog/\2<=2/\(∀(hp:List AObj) (g:R.σ),true=true/\Does Tryd.prog R 99 [] hp g (ret (jW fun j=>3)) hp g)/\OpOk Tryd.prog R (Oper.mk (some 8) (Op.makeMap 96 none) 96 "table.go:100" #[] none) (evO [Row.mk (some 7) none (jW fun j=>3) false (some []) [],Row.mk (some 6) none (aw p) false (some []) [0]] [(1,ref 0 0)] []) [u2] g (AV.mp 1) [u2,AObj.mapo []] g/\2<=2/\WpC Tryd.prog R 36 0 66 [1,1,0,1,0] Q [Kont.blk 0,Kont.seq [1,1,1]] (St.mk [(3,ref 2 0),(12,ae p.rules),(13,i6 (↑(List.length p.rules.l):Int)),(14,i6 0)] [u2,AObj.mapo [],cO 27 (nth [i6 p.atoms,ae p.rules,u1,u1,u1,u1,u1,u1,u1,u1,u1,u1,u1,u1,u1,u1,u1,u1,u1,u1,u1,u1,u1,u1,u1,u1,AV.mp 1])] g)) (cO 2 (nth [i6 p.atoms,ae p.rules]))) (i6 3)) ⟨krf,omg,(fun _ _=>⟨rfl,(xA _ _ _)⟩),?_,omg,?_⟩
 ·exact qY rfl
 ·refine cp (gg (aJ []) 24) ?_
  refine cp (toL (s':=⟨[(3,.ref 2 0),(12,ae p.rules),(13,.int .i64 p.rules.l.length),(14,.int .i64 0)],mkH p [] [],g⟩) (h2:=xW p)) ?_
  refine(bi krf (fun (i:Nat)=>⟨[(3,ref 2 0),(12,ae p.rules),(13,i6 (p.rules.l.length:Int)),(14,.int .i64 i)],(mkH p (p.rules.l.take i) []),g⟩) (fun (i:Nat)=>(i<=p.rules.l.length)) (fun (i:Nat)=>(p.rules.l.length-i)) 0 (toL (h1:=⟨AM _,AM _,AM _,(AN krf),trivial⟩) (h2:=⟨AO,AP _,AO,AO,AO,AO,AO,AO,AO,AO,AO,AO,AO,AO,AO,AO,AO,AO,AO,AO,AO,AO,AO,AO,AO,AO,AO,trivial⟩)) ?_ (fun i hi=>?_))
  ·exact Nat.zero_le _
  ·rcases Nat.lt_or_ge i p.rules.l.length with hi'|hi'
   ·have hq:=(hr _ (e8 hi')).2
    have hrl:∀r,r∈(p.rules.l.take i)->aE r:=fun r h=>hr r (List.mem_of_mem_take h)
    have hcast:(((p.rules.l.getD i default).head.toNat:Nat):Int)=(p.rules.l.getD i default).head:=by omega
    have hln:(ofH (p.rules.l.take i) (p.rules.l.getD i default).head).length<=p.rules.l.length:=Nat.le_trans (List.length_filter_le _ _) (by rw[List.length_take];omega)
    have hsn:ofH ((p.rules.l.take i)++[(p.rules.l.getD i default)]) (p.rules.l.getD i default).head=ofH (p.rules.l.take i) (p.rules.l.getD i default).head++[(p.rules.l.getD i default)]:=by rw[nZ,if_pos rfl]
    have htk:p.rules.l.take (i+1)=(p.rules.l.take i)++[(p.rules.l.getD i default)]:=by
     rw[List.take_add_one,List.getElem?_eq_getElem hi',List.getD_eq_getElem?_getD,List.getElem?_eq_getElem hi']
     rfl
    have hmp:=xP (l:=(p.rules.l.take i)) (r:=(p.rules.l.getD i default))
    rw[hsn,List.length_append,List.length_singleton] at hmp
    refine vcR [] (lkL [(3,[3,12,13,14,15]),(4,[3,5,12,13,14]),(5,[3,12,13,14]),(6,[3,12,13,14])]) (lkL [(4,[(3,ROrc.val (Orc.obj (nth [i6 (List.getD p.rules.l i default).head,ap (List.getD p.rules.l i default).body])))]),(5,[(12,ROrc.look (ow true (3+Int.toNat (List.getD p.rules.l i default).head) (List.length (ofH (List.take i p.rules.l) (List.getD p.rules.l i default).head)) 2) [1]),(15,ROrc.newS (ow true 29 (List.length (ofH (List.take i p.rules.l) (List.getD p.rules.l i default).head)+1) 2) (xS (aQ (inH (List.take i p.rules.l)) (Int.toNat (List.getD p.rules.l i default).head))) (cO ((List.length (ofH (List.take i p.rules.l) (List.getD p.rules.l i default).head)+1)*2) (aJ (ofH (List.take i p.rules.l) (List.getD p.rules.l i default).head++[List.getD p.rules.l i default])))),(16,ROrc.own any (cO 2 (nth [i6 p.atoms,ae p.rules])::AObj.mapo (es1 (List.take i p.rules.l++[List.getD p.rules.l i default]) (List.getD p.rules.l i default).head)::cO 27 (ad p (fun (x:Nat)=>3) (AV.mp 1))::bJ (aQ (inH (List.take i p.rules.l)) (Int.toNat (List.getD p.rules.l i default).head)) [cO 2 (nth [i6 (List.getD p.rules.l i default).head,ap (List.getD p.rules.l i default).body]),cO 2 (ao (fun (j:Nat)=>nth [i6 0,fz Fz.nil 0 0 fun (x x_1:Nat)=>any] (j%2)) 0 2 (nth [i6 (List.getD p.rules.l i default).head,ap (List.getD p.rules.l i default).body])),cO ((List.length (ofH (List.take i p.rules.l) (List.getD p.rules.l i default).head)+1)*2) (aJ (ofH (List.take i p.rules.l) (List.getD p.rules.l i default).head++[List.getD p.rules.l i default]))]) g)])]) (fun Q=>(fun (u1:Int)=>(fun (u2:List Rule)=>(fun (u3:List AObj)=>(fun (u4:List AObj)=>(fun (u5:List Row)=>(fun (u6:Int)=>(fun (u7:List Row)=>(fun (u8:List AV)=>(fun (u9:List (Nat × AV))=>(fun (u10:Int)=>(fun (u11:AObj)=>(fun (u12:AObj)=>(decide (u10<u6)=true->(0<=u10/\u10<u6)/\2<=2/\2<=2/\(∀(c:Nat),c<2->nth u8 c=ao (nth [i6 0,fz Fz.nil 0 0 fun x x_1=>any]) 0 2 (List.brecOn (motive:=fun (x:List AV)=>Nat->AV) u8 nth._f) c)/\Flw Tryd.prog/\27<=27/\1<=2/\27<=27/\1<=2/\(∀(hp':List AObj) (g':R.σ),SameO [1] [u11,AObj.mapo (esO u2),u12,inH u2 0,inH u2 1,inH u2 2,inH u2 3,inH u2 4,inH u2 5,inH u2 6,inH u2 7,inH u2 8,inH u2 9,inH u2 10,inH u2 11,inH u2 12,inH u2 13,inH u2 14,inH u2 15,inH u2 16,inH u2 17,inH u2 18,inH u2 19,inH u2 20,inH u2 21,inH u2 22,inH u2 23,cO 2 (nth u8)] hp'->OpOk Tryd.prog R (Oper.mk (some 30) (Op.lookup 96 (Operand.tmp 27) (Operand.tmp 29) false) 22 "table.go:102" #[Edge.mk 9 Ground.data,Edge.mk 11 Ground.data] none) (evO u5 u9 []) hp' g' (ow true (3+Int.toNat u1) (List.length (ofH u2 u1)) 2) hp' g')/\2<=2/\OpOk Tryd.prog R (Oper.mk (some 33) (Op.call (Call.mk (Callee.builtin Builtin.append) #[Operand.tmp 30,Operand.tmp 32] #[22,22])) 22 "table.go:102" #[Edge.mk 12 Ground.data,Edge.mk 14 Ground.data] none) (evO u7 u9 []) [u11,AObj.mapo (esO u2),u12,inH u2 0,inH u2 1,inH u2 2,inH u2 3,inH u2 4,inH u2 5,inH u2 6,inH u2 7,inH u2 8,inH u2 9,inH u2 10,inH u2 11,inH u2 12,inH u2 13,inH u2 14,inH u2 15,inH u2 16,inH u2 17,inH u2 18,inH u2 19,inH u2 20,inH u2 21,inH u2 22,inH u2 23,cO 2 (nth u8),cO 2 (ao (fun (j:Nat)=>nth [i6 0,fz Fz.nil 0 0 fun x x_1=>any] (j%2)) 0 2 (List.brecOn (motive:=fun (x:List AV)=>Nat->AV) u8 nth._f))] g (ow true 29 (List.length (ofH u2 u1)+1) 2) u3 g/\OpOk Tryd.prog R (Oper.mk none (Op.mapUpdate 96 (Operand.tmp 21) (Operand.tmp 23) (Operand.tmp 33)) 0 "table.go:102" #[Edge.mk 3 Ground.data,Edge.mk 5 Ground.data,Edge.mk 15 Ground.data,Edge.mk 15 Ground.chain,Edge.mk 0 Ground.phase,Edge.mk 1 Ground.phase,Edge.mk 2 Ground.phase,Edge.mk 3 Ground.phase,Edge.mk 4 Ground.phase,Edge.mk 5 Ground.phase,Edge.mk 6 Ground.phase,Edge.mk 7 Ground.phase,Edge.mk 8 Ground.phase,Edge.mk 9 Ground.phase,Edge.mk 10 Ground.phase,Edge.mk 11 Ground.phase,Edge.mk 12 Ground.phase,Edge.mk 13 Ground.phase,Edge.mk 14 Ground.phase,Edge.mk 15 Ground.phase] none) (evO (Row.mk (some 33) none (ow true 29 (List.length (ofH u2 u1)+1) 2) true (some [29,3,4,5,6,7,8,9,10,11,12,13,14,15,16,17,18,19,20,21,22,23,24,25,26]) []::u7) u9 []) u3 g any u4 g/\(-9223372036854775808<=u10+1/\u10+1<=9223372036854775807)/\Q AEx.normal (St.mk [(3,ref 2 0),(12,ae p.rules),(13,i6 u6),(14,i6 (u10+1))] u4 g))/\(decide (u10<u6)=false->Q (AEx.exit 0) (St.mk [(3,ref 2 0),(12,ae p.rules),(13,i6 u6),(14,i6 u10),(15,AV.bool (decide (u10<u6)))] [u11,AObj.mapo (esO u2),u12,inH u2 0,inH u2 1,inH u2 2,inH u2 3,inH u2 4,inH u2 5,inH u2 6,inH u2 7,inH u2 8,inH u2 9,inH u2 10,inH u2 11,inH u2 12,inH u2 13,inH u2 14,inH u2 15,inH u2 16,inH u2 17,inH u2 18,inH u2 19,inH u2 20,inH u2 21,inH u2 22,inH u2 23] g))) (cO 27 (ad p (fun (x:Nat)=>3) (AV.mp 1)))) (cO 2 (nth [i6 p.atoms,ae p.rules]))) ((↑i:Int))) ([(3,ref 2 0),(5,ref 27 0),(12,ae p.rules),(13,i6 u6),(14,i6 (↑i:Int))])) ([i6 u1,ap (List.getD p.rules.l i default).body])) (Row.mk (some 32) none (sl 28 0 1 1 true 2) true (some [28]) []::Row.mk (some 31) none (bU (List.getD p.rules.l i default)) false (some []) [27]::Row.mk (some 30) none (ow true (3+Int.toNat u1) (List.length (ofH u2 u1)) 2) false (some []) [1]::u5)) ((↑(List.length p.rules.l):Int))) ([Row.mk (some 29) none (i6 u1) false (some []) [27],Row.mk (some 28) none (ref 27 0) false (some []) [],Row.mk (some 27) none (AV.mp 1) false (some []) [2],Row.mk (some 26) none (ref 2 26) false (some []) [],Row.mk (some 25) none (ref 2 0) false (some []) [],Row.mk (some 24) none (ref 2 0) false (some []) [],Row.mk (some 23) none (i6 u1) false (some []) [27],Row.mk (some 22) none (ref 27 0) false (some []) [],Row.mk (some 21) none (AV.mp 1) false (some []) [2],Row.mk (some 20) none (ref 2 26) false (some []) [],Row.mk (some 19) none (ref 2 0) false (some []) [],Row.mk (some 18) none (ref 2 0) false (some []) []])) ([cO 2 (nth [i6 p.atoms,ae p.rules]),AObj.mapo (es1 (u2++[List.getD p.rules.l i default]) u1),cO 27 (ad p (fun (x:Nat)=>3) (AV.mp 1)),aQ (inH u2) (Int.toNat u1) 0,aQ (inH u2) (Int.toNat u1) 1,aQ (inH u2) (Int.toNat u1) 2,aQ (inH u2) (Int.toNat u1) 3,aQ (inH u2) (Int.toNat u1) 4,aQ (inH u2) (Int.toNat u1) 5,aQ (inH u2) (Int.toNat u1) 6,aQ (inH u2) (Int.toNat u1) 7,aQ (inH u2) (Int.toNat u1) 8,aQ (inH u2) (Int.toNat u1) 9,aQ (inH u2) (Int.toNat u1) 10,aQ (inH u2) (Int.toNat u1) 11,aQ (inH u2) (Int.toNat u1) 12,aQ (inH u2) (Int.toNat u1) 13,aQ (inH u2) (Int.toNat u1) 14,aQ (inH u2) (Int.toNat u1) 15,aQ (inH u2) (Int.toNat u1) 16,aQ (inH u2) (Int.toNat u1) 17,aQ (inH u2) (Int.toNat u1) 18,aQ (inH u2) (Int.toNat u1) 19,aQ (inH u2) (Int.toNat u1) 20,aQ (inH u2) (Int.toNat u1) 21,aQ (inH u2) (Int.toNat u1) 22,aQ (inH u2) (Int.toNat u1) 23,cO 2 (nth [i6 u1,ap (List.getD p.rules.l i default).body]),cO 2 (ao (fun (j:Nat)=>nth [i6 0,fz Fz.nil 0 0 fun x x_1=>any] (j%2)) 0 2 (nth [i6 u1,ap (List.getD p.rules.l i default).body])),cO ((List.length (ofH u2 u1)+1)*2) (aJ (ofH u2 u1++[List.getD p.rules.l i default]))])) ([cO 2 (nth [i6 p.atoms,ae p.rules]),AObj.mapo (esO u2),cO 27 (ad p (fun (x:Nat)=>3) (AV.mp 1)),aQ (inH u2) (Int.toNat u1) 0,aQ (inH u2) (Int.toNat u1) 1,aQ (inH u2) (Int.toNat u1) 2,aQ (inH u2) (Int.toNat u1) 3,aQ (inH u2) (Int.toNat u1) 4,aQ (inH u2) (Int.toNat u1) 5,aQ (inH u2) (Int.toNat u1) 6,aQ (inH u2) (Int.toNat u1) 7,aQ (inH u2) (Int.toNat u1) 8,aQ (inH u2) (Int.toNat u1) 9,aQ (inH u2) (Int.toNat u1) 10,aQ (inH u2) (Int.toNat u1) 11,aQ (inH u2) (Int.toNat u1) 12,aQ (inH u2) (Int.toNat u1) 13,aQ (inH u2) (Int.toNat u1) 14,aQ (inH u2) (Int.toNat u1) 15,aQ (inH u2) (Int.toNat u1) 16,aQ (inH u2) (Int.toNat u1) 17,aQ (inH u2) (Int.toNat u1) 18,aQ (inH u2) (Int.toNat u1) 19,aQ (inH u2) (Int.toNat u1) 20,aQ (inH u2) (Int.toNat u1) 21,aQ (inH u2) (Int.toNat u1) 22,aQ (inH u2) (Int.toNat u1) 23,cO 2 (nth [i6 u1,ap (List.getD p.rules.l i default).body]),cO 2 (ao (fun (j:Nat)=>nth [i6 0,fz Fz.nil 0 0 fun x x_1=>any] (j%2)) 0 2 (List.brecOn (motive:=fun (x:List AV)=>Nat->AV) [i6 u1,ap (List.getD p.rules.l i default).body] nth._f)),cO ((List.length (ofH u2 u1)+1)*2) (aJ (ofH u2 u1++[List.getD p.rules.l i default]))])) (List.take i p.rules.l)) ((List.getD p.rules.l i default).head)) ⟨fun c1=>have c1:(↑i:Int)<(↑(List.length p.rules.l):Int):=(of_decide_eq_true c1);⟨omg,omg,omg,(fun c hc=>match c,hc with|0,_=>krf|1,_=>krf ),krf,omg,omg,omg,omg,?_,omg,?_,?_,omg,?_⟩,fun c1=>have c1:¬(↑i:Int)<(↑(List.length p.rules.l):Int):=(of_decide_eq_false c1);?_⟩
    ·intro hp' g' hh
     have h1:ag hp' 1=.mapo (esO (p.rules.l.take i)):=hh.h 1 (List.Mem.head _)
     exact q0 (t:=96) (kt:=3) (vt:=22) (m:=.tmp 27) (x:=.tmp 29) (ob:=1) (es:=esO (p.rules.l.take i)) (kv:=.int .i64 (p.rules.l.getD i default).head) rfl krf (Go.Maps.int_keyed (q:=.i64) krf) rfl rfl h1 (fun FM Z v h=>h) (gh hq) (fun e he=>rT hrl he) (fun h=>by rw[xU h];exact Le.nil_ow) (fun e he hk=>xV he hk)
    ·refine wx (t:=22) (es:=2) (b:=32) (n:=(ofH (p.rules.l.take i) (p.rules.l.getD i default).head).length) (m:=1) (get0:=aJ (ofH (p.rules.l.take i) (p.rules.l.getD i default).head)) (N0:=(ofH (p.rules.l.take i) (p.rules.l.getD i default).head).length*2) (get':=aJ (ofH (p.rules.l.take i) (p.rules.l.getD i default).head++[(p.rules.l.getD i default)])) rfl rfl rfl rfl rfl ?_ krf rfl ⟨dcd,trivial⟩ (Nat.le_refl _) dcd ?_ ?_ (fun c hc=>(lO (r:=(p.rules.l.getD i default)) (z:=fun j=>nth [.int .i64 0,.fz .nil 0 0 fun _ _=>.any] (j%2)) hc).trans krf) ?_
     ·refine(lN (f:=inH (p.rules.l.take i)) (a:=(p.rules.l.getD i default).head.toNat) omg).trans ?_
      unfold inH
      rw[hcast]
     ·rw[show aN=140737488355328 from rfl];omega
     ·rw[show aN=140737488355328 from rfl];omega
     ·exact Eq.trans krf (Eq.trans (congrArg (fun h=>aU h (cO (((ofH (p.rules.l.take i) (p.rules.l.getD i default).head).length+1)*2) (aJ (ofH (p.rules.l.take i) (p.rules.l.getD i default).head++[(p.rules.l.getD i default)])))) (xT (f:=inH (p.rules.l.take i)) (x0:=cO 2 (nth [.int .i64 p.atoms,ae p.rules])) (x1:=.mapo (esO (p.rules.l.take i))) (x2:=cO 27 (ad p (fun _=>3) (.mp 1))) (r:=[(cO 2 (nth [.int .i64 (p.rules.l.getD i default).head,ap (p.rules.l.getD i default).body])),(cO 2 (ao (fun j=>nth [.int .i64 0,.fz .nil 0 0 fun _ _=>.any] (j%2)) 0 2 (nth [.int .i64 (p.rules.l.getD i default).head,ap (p.rules.l.getD i default).body])))]) (a:=(p.rules.l.getD i default).head.toNat) omg).symm) krf)
    ·exact rU (ln (t:=96) (kt:=3) (vt:=22) (m:=.tmp 21) (x:=.tmp 23) (y:=.tmp 33) (ob:=1) (es:=esO (p.rules.l.take i)) (es':=es1 ((p.rules.l.take i)++[(p.rules.l.getD i default)]) (p.rules.l.getD i default).head) (kv:=.int .i64 (p.rules.l.getD i default).head) (d:=.ow true 29 ((ofH (p.rules.l.take i) (p.rules.l.getD i default).head).length+1) 2) rfl krf (Go.Maps.int_keyed (q:=.i64) krf) rfl rfl (by exact fun FM Z v h=>h) (by rfl) (gh hq) (fun e he=>rT hrl he) hmp) krf
    ·refine aW (i+1) (ej (e9 (p.rules.l.getD i default).head.toNat) 30 rfl (n6 omg).1 (n6 omg).2.1 rfl rfl ⟨AM _,AM _,AM _,AN rfl,trivial⟩ (xO (fun j hj=>?_) iC ?_ ?_)) ?_ ?_
     ·by_cases hja:j=(p.rules.l.getD i default).head.toNat
      ·subst hja
       have e1:inH (p.rules.l.take (i+1)) (p.rules.l.getD i default).head.toNat=(cO (((ofH (p.rules.l.take i) (p.rules.l.getD i default).head).length+1)*2) (aJ (ofH (p.rules.l.take i) (p.rules.l.getD i default).head++[(p.rules.l.getD i default)]))):=by
        unfold inH
        rw[htk,hcast,hsn,List.length_append]
        rfl
       rw[e1,gM,show Nat.beq (p.rules.l.getD i default).head.toNat (p.rules.l.getD i default).head.toNat=true by simp]
       exact AP _
      ·rw[show Nat.beq j (p.rules.l.getD i default).head.toNat=false from by
        cases h:Nat.beq j (p.rules.l.getD i default).head.toNat with
        |false=>rfl
        |true=>exact absurd (Nat.eq_of_beq_eq_true h) hja]
       have e1:inH (p.rules.l.take (i+1)) j=inH (p.rules.l.take i) j:=by
        unfold inH
        rw[htk,nZ,if_neg omg]
       have e2:aQ (inH (p.rules.l.take i)) (p.rules.l.getD i default).head.toNat j=inH (p.rules.l.take i) j:=by
        unfold aQ
        rw[show Nat.beq j (p.rules.l.getD i default).head.toNat=false from by
         cases h:Nat.beq j (p.rules.l.getD i default).head.toNat with
         |false=>rfl
         |true=>exact absurd (Nat.eq_of_beq_eq_true h) hja]
        rfl
       rw[e1]
       refine(congrArg (fun x=>LeO x _) (Eq.trans (Eq.trans krf (lM (f:=aQ (inH (p.rules.l.take i)) (p.rules.l.getD i default).head.toNat) (r:=[(cO 2 (nth [.int .i64 (p.rules.l.getD i default).head,ap (p.rules.l.getD i default).body])),(cO 2 (ao (fun j=>nth [.int .i64 0,.fz .nil 0 0 fun _ _=>.any] (j%2)) 0 2 (nth [.int .i64 (p.rules.l.getD i default).head,ap (p.rules.l.getD i default).body]))),(cO (((ofH (p.rules.l.take i) (p.rules.l.getD i default).head).length+1)*2) (aJ (ofH (p.rules.l.take i) (p.rules.l.getD i default).head++[(p.rules.l.getD i default)])))]) hj)) e2)).mpr ?_
       unfold inH
       rw[gM]
       exact AP _
     ·rw[htk]
      show LeO (.mapo (es1 ((p.rules.l.take i)++[(p.rules.l.getD i default)]) (p.rules.l.getD i default).head)) (.mapo _)
      rw[xQ (l:=(p.rules.l.take i)++[(p.rules.l.getD i default)]) (fun b hb=>?_) hq]
      ·exact AP _
      ·obtain⟨q,q1,q2⟩:=j3.1 hb
       rw[<-htk] at q1
       have:=(hr q (List.mem_of_mem_take q1)).2
       omega
     ·exact AY (fun j hj=>(cz rfl).symm)
     ·omega
     ·omega
    ·exact absurd hi' omg
   ·have hie:i=p.rules.l.length:=by omega
    subst hie
    rw[List.take_length]
    refine cp (ww 3 1 (esO p.rules.l) (esF p.rules.l) [3,12,13,14] omg rfl omg (by show 3<=27;omega) ?_ ?_ ?_ ?_ ?_) ?_
    ·intro b hb hlv
     rcases Nat.lt_or_ge b 27 with h|h
     ·obtain⟨a,rfl⟩:∃a,b=3+a:=⟨b-3,omg⟩
      have e:=lN (f:=inH p.rules.l) (x0:=cO 2 (nth [.int .i64 p.atoms,ae p.rules])) (x1:=.mapo (esO p.rules.l)) (x2:=cO 27 (ad p (fun _=>3) (.mp 1))) (r:=[]) (a:=a) omg
      exact⟨_,_,e,fun j _=>lu _ _⟩
     ·rw[dB (by show 27<=b;omega)] at hlv
      cases hlv
    ·unfold esO esF
     rw[List.length_map,List.length_map]
    ·intro b kv v' hb
     unfold esF at hb
     rw[List.getElem?_map] at hb
     cases hx:(bz p.rules.l)[b]? with
     |none=>rw[hx] at hb;cases hb
     |some h=>
      rw[hx] at hb
      cases hb
      have hm:=List.mem_of_getElem? hx
      obtain⟨q,q1,q2⟩:=j3.1 hm
      have hq:=(hr q q1).2
      have hne:(ofH p.rules.l h).length≠0:=fun e=>(lK.1 (List.length_eq_zero_iff.1 e)) hm
      have e:=lN (f:=inH p.rules.l) (x0:=cO 2 (nth [.int .i64 p.atoms,ae p.rules])) (x1:=.mapo (esO p.rules.l)) (x2:=cO 27 (ad p (fun _=>3) (.mp 1))) (r:=[]) (a:=h.toNat) omg
      unfold inH at e
      rw[show((h.toNat:Nat):Int)=h by omega] at e
      refine⟨true,3+h.toNat,(ofH p.rules.l h).length,2,(ofH p.rules.l h).length*2,aJ (ofH p.rules.l h),?_,omg,omg,omg,e,Nat.le_refl _,AT rfl (fun i j hi hj=>?_)⟩
      ·unfold esO
       rw[List.getElem?_map,hx]
       rfl
      ·unfold aJ
       rw[show(i*2+j)/2=i by omega,show(i*2+j)%2=j by omega]
    ·intro b hb hne
     match b,hb,hne with
     |0,_,_=>exact fun j hj=>(match j,hj with|0,_=>trivial|1,_=>trivial)
     |2,_,_=>exact fun j hj=>aZ p _ 1 j
    ·exact⟨(by decide:2<3),trivial,trivial,trivial,trivial⟩
    refine cp (toS (s':=⟨[(3,.ref 0 0),(12,ae p.rules),(13,.int .i64 p.rules.l.length),(14,.int .i64 p.rules.l.length)],[cO 27 (ad p (fun _=>3) (.mp 1)),.map (esF p.rules.l)],g⟩) [2,1] 3 (hob:=⟨AY (fun j hj=>(cz rfl).symm),rfl,trivial⟩)) ?_
    have hb:decide ((p.rules.l.length:Int)<(p.rules.l.length:Int))=false:=decide_eq_false omg
    refine vcR [[1,1,0,1,0,0,1,0,0]] (lkL [(3,[3,12,13,14,15])]) (fun _=>[]) (fun Q=>(fun (u1:Int)=>(fun (u2:St R.σ)=>(decide (u1<u1)=true->WpC Tryd.prog R 36 0 66 [1,1,0,1,0,0,1,0,0] Q [Kont.seq [1,1,0,1,0,0,1,1]] u2)/\(decide (u1<u1)=false->Q (AEx.exit 0) u2)) (St.mk [(3,ref 0 0),(12,ae p.rules),(13,i6 u1),(14,i6 u1),(15,AV.bool (decide (u1<u1)))] [cO 27 (ad p (fun (x:Nat)=>3) (AV.mp 1)),AObj.map (esF p.rules.l)] g)) ((↑(List.length p.rules.l):Int))) ⟨fun hcc=>(nomatch (hb.symm.trans hcc)),fun _=>?_⟩
    refine⟨_,A0 _,vcR [] (lkL [(7,[2])]) (fun _=>[]) (fun (Q:AEx->St R.σ->Prop)=>Q AEx.ret (St.mk [(2,ref 0 0)] [cO 27 (ad p (fun (x:Nat)=>3) (AV.mp 1)),AObj.map (esF p.rules.l)] g)) (?_)⟩
    refine(av (aX _ _ rfl trivial rfl rfl rfl) (AM _))
end Go.Avm.Pack
namespace Go.Proofs
open Go Go.Shelf
def Tryd.collectL_ren:Ren:=⟨fun|8=>75|11=>104|n=>n,fun|26=>3|28=>117|24=>53|0=>0|33=>112|4=>4|n=>n,fun n=>n⟩
theorem Tryd.collectL:SlLaysZI.n8 Tryd.prog Tryd.collectL_ren where
 mixed:=by kernel_rfl
 f8:=⟨Tryd.f75.name,by kernel_rfl,Tryd.func75.trans (congrArg some (by kernel_rfl))⟩
 f11:=⟨Tryd.f104.name,by kernel_rfl,Tryd.func104.trans (congrArg some (by kernel_rfl))⟩
 t0:=Tryd.underlying0
 a0:=Tryd.isAgg0
 z0:=Tryd.sizeOf0
 v0:=Tryd.zeroValue0
 t24:=Tryd.underlying53
 a24:=Tryd.isAgg53
 z24:=Tryd.sizeOf53
 v24:=Tryd.zeroValue53
 t26:=Tryd.underlying3
 a26:=Tryd.isAgg3
 z26:=Tryd.sizeOf3
 v26:=Tryd.zeroValue3
 t28:=Tryd.underlying117
 a28:=Tryd.isAgg117
 z28:=Tryd.sizeOf117
 v28:=Tryd.zeroValue117
 i26:=by kernel_rfl
end Go.Proofs
namespace Go.Avm.Pack
open Go Go.Avm Go.Proofs Go.RowKit Go.Shelf
attribute [local go_sem] Oper.semAt_some
theorem rV (n s:Nat)(h0:0<s)(h1:s<2^24)(W:World)(FM:Mem)(hFM:∀b o,FM b=some o->W.heap[b]? = some o)(ht:cU gsT FM) :
  CallsIn Fence.wide n Tryd.prog 106 #[.int .u64 s] W fun e W'=>e=.returned (.int .i64 ((gO s:Nat):Int))/\W.grownBy W' none:=by
 have okh:Ok (Res.tab gsT) [] () FM [] W:=⟨⟨hFM,rfl,fun i p h=>(by simp at h),fun i j p q h=>(by simp at h)⟩,ht,fun b h=>h.elim⟩
 refine callsIn_wide.2 (((rI (Res.tab gsT) s h0 h1 ()).h FM [] W #[.int .u64 s] okh ⟨rfl,fun i hi=>?_⟩).mono ?_)
 ·have:i=0:=by simpa using hi
  subst this
  rfl
 ·rintro e W' ⟨FM',Z',⟨v,he,hv⟩,okh',go⟩
  refine⟨by rw[he,show v=_ from hv],go.ext.os,go.ext.tape,go.ext.output,go.ext.size,fun k hk _=>go.ext.keep k hk (fun ⟨p,hp,_⟩=>by cases hp) (fun h=>h)⟩
theorem rW (s:Nat)(hs:s<2^24)(h0:0<s):bits .and .u64 ((s:Nat):Int) (((s:Nat):Int)-1)=((s&&&(s-1):Nat):Int):=by
 have h:=Tb.u64_cut h0 (bG hs)
 rw[show IntKind.u64.wrap ((s:Int)-1)=(s:Int)-1 from by
  rw[Tb.wrapu]
  have:(s:Int)<2^24:=by exact_mod_cast hs
  omega] at h
 exact h
theorem xY (n:Nat)(hn:1<=n)(l s:Nat)(hs:s<2^24)(A:Addr)(FM:Mem)(ht:cU gsT FM)(J:Nat->World->Prop)
  (hJ:∀k W,J k W->W.cell? A=some (.int .u64 (Tb.cutN s k))/\W.frozen? A=false/\(∀b o,FM b=some o->W.heap[b]? = some o))
  (hJg:∀k W W',J k W->W.grownBy W' none->J k W')
  (hY:∀k W,k<(ak s).length->J k W->YieldAt Fence.wide (n-1) Tryd.prog l #[.int .i64 ((ak s).getD k 0)] W fun e W'=>e=.returned (.bool true)/\W'.cell? A=some (.int .u64 (Tb.cutN s k))/\W'.frozen? A=false/\J (k+1) (W'.setCell A (.int .u64 (Tb.cutN s (k+1)))))
  (W:World) (h0:J 0 W) :
  CallsIn Fence.wide n Tryd.prog 105 #[.func (.yield l) #[] #[],.pointer (some A)] W fun e W'=>(∃v,e=.returned v)/\J (ak s).length W':=by
 refine callsIn_of_wp Tryd.func105 rfl trivial ?_ rfl
 simp only[Tryd.ntmps105,List.size_toArray,List.length_cons,List.length_nil,Nat.reduceAdd,Nat.reduceSub,Array.replicate_succ,Array.replicate_zero,List.push_toArray,List.append_toArray,List.nil_append,List.cons_append]
 gi_wp2
 gi_loopw [] (fun wr=>∃k,k<=(ak s).length/\J k wr) (fun wr=>match wr.cell? A with|some (.int _ v)=>v.toNat|_=>0)
 case atStart=>exact⟨0,Nat.zero_le _,h0⟩
 case round=>
  obtain⟨k,hk,hJk⟩:=hrel
  obtain⟨hc,hf,hFM⟩:=hJ k wr hJk
  have hlt:=Tb.cutN_lt hs k
  rcases Nat.lt_or_ge k (ak s).length with hkl|hkl
  ·obtain⟨m,hm⟩:=Tb.cutN_in hs hkl
   have k1:0<Tb.cutN s k:=by
    rw[hm]
    exact Nat.mul_pos (Nat.pow_pos (by decide)) (by omega)
   have k2:=ly hm hlt
   clear hm
   have hz:¬((Tb.cutN s k:Nat):Int)=0:=by omega
   have htz:=fun m=>rV m (Tb.cutN s k) k1 hlt wr FM hFM ht
   have hYk:=fun W=>hY k W hkl
   obtain⟨x,hx⟩:∃x,(ak s).getD k 0=x:=⟨_,rfl⟩
   rw[hx] at k2
   simp only[hx] at hYk
   simp only[k2] at htz
   gi_wp2
   refine⟨trivial,(htz _).mono ?_⟩
   rintro e w' ⟨rfl,hg⟩
   have hJ':=hJg k wr w' hJk hg
   obtain⟨hc',hf',hFM'⟩:=hJ k w' hJ'
   obtain⟨fn,tmps,assign,body,hy,hR⟩:=hYk w' hJ'
   dsimp only
   gi_wp2
   refine hR.mono ?_
   rintro e W3 ⟨rfl,hc3,hf3,hJ3⟩
   dsimp only
   gi_wp2
   have hb:bits .and .u64 ((Tb.cutN s k:Nat):Int) (((Tb.cutN s k:Nat):Int)-1)=((Tb.cutN s (k+1):Nat):Int):=rW _ hlt k1
   rw[hb]
   refine⟨⟨k+1,hkl,hJ3⟩,?_⟩
   rw[(hJ _ _ hJ3).1,hc]
   show((Tb.cutN s (k+1):Nat):Int).toNat<((Tb.cutN s k:Nat):Int).toNat
   have:Tb.cutN s (k+1)<=Tb.cutN s k-1:=Nat.and_le_right
   omega
  ·have hz:((Tb.cutN s k:Nat):Int)=0:=by rw[show k=(ak s).length by omega,Tb.cutN_end hs];rfl
   have hkk:k=(ak s).length:=by omega
   subst hkk
   gi_wp2
   go_end0
   exact⟨⟨_,rfl⟩,hJk⟩
def cW (s:Nat):List Int:=(ak s).map fun (n:Nat)=>(n:Int)
def dx (w:World)(A:Addr)(s:Nat):Nat->World
 |0=>w
 |k+1=>(dx w A s k).setCell A (.int .u64 (Tb.cutN s (k+1)))
theorem eu (w:World)(A:Addr)(s:Nat):∀k,(dx w A s k).heap.size=w.heap.size
 |0=>rfl
 |k+1=>by
  show((dx w A s k).heap.modify _ _).size=_
  rw[Array.size_modify,eu w A s k]
theorem n9 (w:World)(A:Addr)(s:Nat){b:Nat}(hb:b≠A.block):∀k,(dx w A s k).heap[b]? = w.heap[b]?
 |0=>rfl
 |k+1=>(RowKit.Below.heap_setCell _ _ _ b hb).trans (n9 w A s hb k)
theorem lP {w:World}{A:Addr}{s:Nat}(h:w.cell? A=some (.int .u64 s)):∀k,(dx w A s k).cell? A=some (.int .u64 (Tb.cutN s k))
 |0=>h
 |k+1=>World.cell?_setCell_same' _ _ _ (by rw[lP h k];rfl)
theorem xZ (w:World)(A:Addr)(v:Value):(w.setCell A v).frozen? A=w.frozen? A:=by
 unfold World.frozen?
 show(match (w.heap.modify A.block _)[A.block]? with|some (.cells _ _ (lo,hi))=>_|_=>_)=_
 rw[Array.getElem?_modify]
 simp only[if_true]
 cases h:w.heap[A.block]? with
 |none=>rfl
 |some o=>cases o <;> rfl
theorem oa {w:World}{A:Addr}{s:Nat}(h:w.frozen? A=false):∀k,(dx w A s k).frozen? A=false
 |0=>h
 |k+1=>(xZ _ _ _).trans (oa h k)
theorem x7 (w:World)(A:Addr)(v:Value):w.grownBy (w.setCell A v) (some A.block):=
 ⟨rfl,rfl,rfl,by show _<=(w.heap.modify _ _).size;rw[Array.size_modify];exact Nat.le_refl _,fun k _ hk=>RowKit.Below.heap_setCell _ _ _ k (fun e=>hk (by rw[e]))⟩
theorem nS {B:Nat}{w w':World}(h:RowKit.Below B w w')(A:Addr)(v:Value):RowKit.Below B (w.setCell A v) (w'.setCell A v):=by
 refine⟨h.os,h.tape,h.output,?_,fun k hk=>?_⟩
 ·show(w.heap.modify _ _).size<=(w'.heap.modify _ _).size
  rw[Array.size_modify,Array.size_modify];exact h.size
 ·show(w'.heap.modify _ _)[k]? = (w.heap.modify _ _)[k]?
  rw[Array.getElem?_modify,Array.getElem?_modify,h.block k hk]
theorem x8 {s k:Nat}(hk:k<(ak s).length):(cW s).take k++[(((ak s).getD k 0:Nat):Int)]=(cW s).take (k+1):=by
 unfold cW
 rw[List.take_add_one,List.getElem?_map,List.getElem?_eq_getElem hk,List.getD_eq_getElem?_getD,List.getElem?_eq_getElem hk]
 rfl
theorem lQ (s:Nat):(cW s).length=(ak s).length:=by unfold cW;simp
abbrev ZC:Ren:=Tryd.collectL_ren
theorem gR (s:Nat):(ak s).length<=24:=by
 unfold ak Tb.memN
 exact Nat.le_trans (List.length_filter_le _ _) (by simp)
theorem x9 (n:Nat)(hn:2<=n)(s:Nat)(hs:s<2^24)(A:Addr)(FM:Mem)(ht:cU gsT FM)(w:World)(hFM:∀b o,FM b=some o->w.heap[b]? = some o)(hFA:FM A.block=none)(hc:w.cell? A=some (.int .u64 s))(hf:w.frozen? A=false) :
  CallsIn Fence.wide n Tryd.prog 104 #[.slice none 0 0,.func (.func 105) #[] #[.pointer (some A)]] w fun e w'=>∃v,e=.returned v/\w'.ownsRow w.heap.size 3 1 v (cW s).length ((cW s).map encZ)/\(v=.slice none 0 0↔cW s=[])/\RowKit.Below w.heap.size (dx w A s (ak s).length) w':=by
 have L:=Tryd.collectL
 have hAb:A.block<w.heap.size:=by
  rcases Nat.lt_or_ge A.block w.heap.size with h|h
  ·exact h
  ·rw[World.cell?,Array.getElem?_eq_none h] at hc;cases hc
 refine callsIn_of_wp_marks Tryd.func104 rfl trivial ?_ rfl
 simp only[Tryd.ntmps104,List.size_toArray,List.length_cons,List.length_nil,Nat.reduceAdd,Nat.reduceSub,Array.replicate_succ,Array.replicate_zero,List.push_toArray,List.append_toArray,List.nil_append,List.cons_append]
 gi_wp2
 refine wpIn_rangeFunc ?_
 intro fn hfn
 have hne:ZC.t 24≠ZC.t 26:=by decide
 obtain⟨W0,hW0⟩:∃W0,w.alloc (.cells #[.slice none 0 0] 53)=W0:=⟨_,rfl⟩
 rw[show Fence.wide.round=none from rfl,hW0]
 obtain⟨W1,hW1⟩:∃W1,(W0.alloc (.deferred (some []))).alloc (.loop (AnyZI.apRec ZC fn (.func (.func 105) #[] #[.pointer (some A)]) w.heap.size W0.heap.size .ready none))=W1:=⟨_,rfl⟩
 have hs0:W0.heap.size=w.heap.size+1:=by rw[<-hW0];simp
 have hs1:W1.heap.size=W0.heap.size+2:=by rw[<-hW1];simp
 have hb0:RowKit.Below w.heap.size w W0:=by rw[<-hW0];exact(RowKit.Below.refl _ w).alloc (Nat.le_refl _) _
 have hsA:w.heap.size≠A.block:=by omega
 have hb1:RowKit.Below w.heap.size w W1:=by rw[<-hW1];exact(hb0.alloc hb0.size _).alloc (by have:=hb0.size;simp;omega) _
 have old:∀k,k<W0.heap.size->W1.heap[k]? = W0.heap[k]?:= fun k hk=>by
  rw[<-hW1];exact(RowKit.Below.heap_alloc _ _ k (by simp;omega)).trans (RowKit.Below.heap_alloc _ _ k hk)
 have hbox:W1.heap[w.heap.size]? = some (.cells #[.slice none 0 0] (ZC.t 24) (0,0)):=(old _ (by omega)).trans (by rw[<-hW0];exact World.alloc_heap_new w _)
 have hD:W1.heap[W0.heap.size]? = some (.deferred (some [])):=by rw[<-hW1];exact(RowKit.Below.heap_alloc _ _ _ (by simp)).trans (World.alloc_heap_new W0 _)
 have hL:W1.heap[W0.heap.size+1]? = some (.loop (AnyZI.apRec ZC fn (.func (.func 105) #[] #[.pointer (some A)]) w.heap.size W0.heap.size .ready none)):=by
  rw[<-hW1]
  have:=World.alloc_heap_new (W0.alloc (.deferred (some []))) (.loop (AnyZI.apRec ZC fn (.func (.func 105) #[] #[.pointer (some A)]) w.heap.size W0.heap.size .ready none))
  rwa [World.size_alloc] at this
 let J:Nat->World->Prop:=fun k W=>AnyZI.ApAt ZC (dx w A s k) fn (.func (.func 105) #[] #[.pointer (some A)]) w.heap.size (W0.heap.size+1) W0.heap.size ((cW s).take k) W
 have hJ:∀k W,J k W->W.cell? A=some (.int .u64 (Tb.cutN s k))/\W.frozen? A=false/\(∀b o,FM b=some o->W.heap[b]? = some o):=fun k W h=>by
  have hb:=h.below
  rw[eu] at hb
  refine⟨(hb.cell hAb).trans (lP hc k),(hb.frozen hAb).trans (oa hf k),fun b o hbo=>?_⟩
  have h1:=hFM b o hbo
  rw[hb.block b (Array.getElem?_eq_some_iff.1 h1).1,n9 w A s (fun e=>by rw[e,hFA] at hbo;cases hbo),h1]
 have hJ0:J 0 W1:=⟨⟨_,hbox,⟨by simp,.inl ⟨rfl,by simp⟩⟩,by simp⟩,hL,hD,hb1⟩
 refine⟨W0.heap.size+1,[{ target:=.collected W0.heap.size,args:=#[] }],W1,{ target:=.fn (.func 105) #[.pointer (some A)],args:=#[.func (.yield (W0.heap.size+1)) #[] #[]] },W1,105,
  #[.func (.yield (W0.heap.size+1)) #[] #[],.pointer (some A)],W1,?_,?_,?_,?_,fun _=>(by omega),(xY (n-1) (by omega) (W0.heap.size+1) s hs A FM ht J hJ (fun k W W' h hg=>?_) (fun k W hk h=>?_) W1 hJ0).mono ?_⟩
 ·rw[<-hW1];exact run_enterLoop_outer _ _ _ _ _
 ·simp[resolve,go_sem]
 ·intro f' hf';trivial
 ·simp[invoke,go_sem]
 ·exact AnyZI.ap_abides ZC _ _ _ _ _ _ _ (Nat.le_refl _) _ _ _ none h hg (fun r e=>by cases e)
 ·have hlen:((cW s).take k).length<24:=by
   have:=gR s
   rw[List.length_take,lQ];omega
  obtain⟨fn',tmps,assign,body,hy,hR⟩:=AnyZI.apYield (ρ:=ZC) { L with } Fence.wide (n-1-1) (dx w A s k) fn hfn (.func (.func 105) #[] #[.pointer (some A)]) w.heap.size (W0.heap.size+1) W0.heap.size (by omega) (by omega) (by omega) (by rw[eu];exact Nat.le_refl _) (by rw[eu];omega) 24 (by decide) (by decide) ((cW s).take k) (((ak s).getD k 0:Nat):Int) W h hlen
  refine⟨fn',tmps,assign,body,hy,hR.mono ?_⟩
  rintro e W' ⟨he,h',hk'⟩
  obtain⟨v,hv,hrow,hnil⟩:=h'.box
  have hb':=h'.below
  rw[eu] at hb'
  refine⟨he,(hb'.cell hAb).trans (lP hc k),(hb'.frozen hAb).trans (oa hf k),?_⟩
  have hgs:=x7 W' A (.int .u64 (Tb.cutN s (k+1)))
  rw[x8 hk] at hrow hnil
  refine⟨⟨v,(RowKit.Below.heap_setCell _ _ _ _ hsA).trans hv,?_,hnil⟩,(RowKit.Below.heap_setCell _ _ _ _ (by omega)).trans h'.L,(RowKit.Below.heap_setCell _ _ _ _ (by omega)).trans h'.K,?_⟩
  ·rw[eu] at hrow ⊢
   refine hrow.kept hgs ?_
   rcases hrow.2 with⟨rfl,_⟩|⟨g,cap,cur,rfl,hg,_⟩
   ·exact .inl rfl
   ·refine .inr (fun e=>?_)
    have:g=A.block:=by simpa[Value.ownBlock] using e
    omega
  ·rw[eu]
   exact nS hb' A _
 ·rintro e W2 ⟨⟨v0,rfl⟩,h2⟩
  have h2:J (ak s).length W2:=h2
  obtain⟨v,hv,hrow,hnil⟩:=h2.box
  rw[show(cW s).take (ak s).length=cW s by rw[<-lQ,List.take_length]] at hrow hnil
  rw[eu] at hrow
  have hb2:=h2.below
  rw[eu] at hb2
  have hend:=run_endLoop (P:=Tryd.prog) h2.L (by simp[AnyZI.apRec])
  obtain⟨W3,hW3⟩:∃W3,W2.putObj (W0.heap.size+1) (.loop { AnyZI.apRec ZC fn (.func (.func 105) #[] #[.pointer (some A)]) w.heap.size W0.heap.size .ready none with state:=.exhausted })=W3:=⟨_,rfl⟩
  rw[hW3] at hend
  have hg3:W2.grownBy W3 (some (W0.heap.size+1)):=by rw[<-hW3];exact grownBy_putObj_a _ _ _
  have hv3:W3.heap[w.heap.size]? = some (.cells #[v] (ZC.t 24) (0,0)):=by rw[<-hW3];exact(World.putObj_heap_other (by omega)).trans hv
  have hD3:W3.heap[W0.heap.size]? = some (.deferred (some [])):=by rw[<-hW3];exact(World.putObj_heap_other (by omega)).trans h2.K
  have hrow3:=hrow.kept hg3 (ownsRow_ne_a hrow h2.L (fun cur e=>by cases e))
  have hb3:RowKit.Below w.heap.size (dx w A s (ak s).length) W3:=hb2.grown hg3 (by have:=hb2.size;rw[eu] at this;exact this) (fun k e=>by cases e;omega)
  obtain⟨hc3,hf3⟩:=cell_of_box_a hv3
  clear hW3
  refine⟨none,W3,hend,?_⟩
  gi_wp2
  rw[<-hs0]
  refine⟨by simp,.inl ⟨_,_,rfl,run_takeDeferred hD3,?_⟩⟩
  exact⟨_,results_tmp rfl _ _ _,v,rfl,hrow3.kept (grownBy_putObj_a _ _ _) (ownsRow_ne_a hrow3 hD3 (fun cur e=>by cases e)),hnil,hb3.grown (grownBy_putObj_a _ _ _) (by have:=hb3.size;rw[eu] at this;exact this) (fun k e=>by cases e;omega)⟩
theorem ya (s:Nat)(hs:s<2^24)(A:Addr)(FM:Mem)(ht:cU gsT FM)(w:World)(hFM:∀b o,FM b=some o->w.heap[b]? = some o)(hFA:FM A.block=none)(hc:w.cell? A=some (.int .u64 s))(hf:w.frozen? A=false) :
  Calls Tryd.prog 75 #[.func (.func 105) #[] #[.pointer (some A)]] w fun e w'=>∃v,e=.returned v/\w'.ownsRow w.heap.size 3 1 v (cW s).length ((cW s).map encZ)/\(v=.slice none 0 0↔cW s=[])/\RowKit.Below w.heap.size (dx w A s (ak s).length) w':=by
 refine(callsIn_wide (n:=4)).1 ?_
 have hap:=x9 3 (by omega) s hs A FM ht w hFM hFA hc hf
 refine callsIn_of_wp Tryd.func75 rfl trivial ?_ rfl
 simp only[Tryd.ntmps75,List.size_toArray,List.length_cons,List.length_nil,Nat.reduceAdd,Nat.reduceSub,Array.replicate_succ,Array.replicate_zero,List.push_toArray,List.append_toArray,List.nil_append,List.cons_append]
 gi_wp2
 refine⟨trivial,hap.mono ?_⟩
 rintro e w' ⟨v,rfl,hrow,hnil,hb⟩
 dsimp only
 gi_wp2
 go_ret
 exact⟨v,rfl,hrow,hnil,hb⟩
theorem rX {w:World}{A:Addr}{s:Nat}{cs:Array Value}{e:TypeId}{fz:Nat × Nat}(h:w.heap[A.block]? = some (.cells cs e fz)):∀k,∃cs',(dx w A s k).heap[A.block]? = some (.cells cs' e fz)/\cs'.size=cs.size
 |0=>⟨cs,h,rfl⟩
 |k+1=>by
  obtain⟨cs',h1,h2⟩:=rX (s:=s) h k
  refine⟨if A.spot.isSome then cs' else cs'.setIfInBounds A.off (.int .u64 (Tb.cutN s (k+1))),?_,?_⟩
  ·show((dx w A s k).heap.modify A.block _)[A.block]? = _
   rw[Array.getElem?_modify,h1]
   simp only[if_true]
   rfl
  ·split
   ·exact h2
   ·rw[Array.size_setIfInBounds,h2]
theorem rY (w:World)(A:Addr)(s:Nat):∀k,(dx w A s k).os=w.os/\(dx w A s k).tape=w.tape/\(dx w A s k).output=w.output
 |0=>⟨rfl,rfl,rfl⟩
 |k+1=>rY w A s k
def od (s:Nat):Nat->AV:=fun j=>.int .i64 (((ak s).getD j 0:Nat):Int)
theorem lR (R:Res)[Tab LT R](s:Nat)(hs:s<2^24)(g:R.σ):Does Tryd.prog R 75 [.fn 105 0 (nth []) 1 (nth [.ref 0 0])] [.cells false 1 (fun _=>.int .u64 s)] g
  (.ret (.ow true 1 (ak s).length 1)) [.cells false 1 (fun _=>.any),.cells false ((ak s).length*1) (od s)] g:=by
 refine⟨fun FM Z w vs okh hvs=>?_⟩
 have hT:cU gsT FM:=Tab.h (T:=LT) okh.j
 obtain⟨hsz,hden⟩:=hvs
 have h0:=hden 0 (by simp)
 obtain⟨xs,ys,hu,hxs,hys,_,hdb⟩:=h0
 obtain⟨p,hp,hy0⟩:=hdb 0 (by omega)
 have hxs0:xs=#[]:=Array.size_eq_zero_iff.1 hxs
 subst hxs0
 have hysE:ys=#[.pointer (some ⟨p.1,p.2.1,none⟩)]:=by
  refine Array.ext (by simp[hys]) (fun i h1 h2=>?_)
  have:i=0:=by simp at h2;omega
  subst this
  rw[Array.getD_eq_getD_getElem?,Array.getElem?_eq_getElem h1] at hy0
  simpa using hy0
 have hvsE:vs=#[.func (.func 105) #[] #[.pointer (some ⟨p.1,p.2.1,none⟩)]]:=by
  have hsz1:vs.size=1:=by simpa using hsz
  refine Array.ext (by simp[hsz1]) (fun i h1 h2=>?_)
  have:i=0:=by simp at h2;omega
  subst this
  rw[Array.getD_eq_getD_getElem?,Array.getElem?_eq_getElem h1] at hu
  rw[hysE] at hu
  simpa using hu
 obtain⟨A,hA⟩:∃A:Addr,A=⟨p.1,p.2.1,none⟩:=⟨_,rfl⟩
 have hAb:A.block=p.1:=by rw[hA]
 obtain⟨k1,k2⟩:=okh.rel.obj 0 p hp
 obtain⟨cs,e,b1,b2,b3,b4,_,b6⟩:=k2 (by omega)
 obtain⟨x,c1,c2,c3⟩:=b4 0 (by omega)
 have hx:x=.int .u64 s:=c3
 subst hx
 have hcell:w.cell? A=some (.int .u64 s):=by rw[hA];simp only[World.cell?,b1];simpa using c1
 have hfroz:w.frozen? A=false:=by rw[hA];simp[World.frozen?,b1]
 have hreal:p.2.1<=p.2.2:=by omega
 have hAlt:A.block<w.heap.size:=by rw[hAb];exact k1 hreal
 have hin:InB Z A.block:=⟨p,bq hp,hAb.symm,hreal⟩
 have hFA:FM A.block=none:=by rw[hAb];exact b6 rfl
 rw[hvsE,<-hA]
 refine(ya s hs A FM hT w okh.rel.fm hFA hcell hfroz).mono ?_
 rintro en w' ⟨v,rfl,hrow,hnil,hb⟩
 obtain⟨o1,o2,o3⟩:=rY w A s (ak s).length
 have hsize:w.heap.size<=w'.heap.size:=by have:=hb.size;rwa [eu] at this
 have hheap:∀b,b<w.heap.size->b≠A.block->w'.heap[b]? = w.heap[b]?:= fun b h1 h2=>(hb.block b h1).trans (n9 w A s h2 _)
 obtain⟨cs',s1,s2⟩:=rX (s:=s) (A:=A) (by rw[hAb];exact b1) (ak s).length
 have hA':w'.heap[A.block]? = some (.cells cs' e (0,0)):=(hb.block _ hAlt).trans s1
 have hcell':w'.cell? A=some (.int .u64 (Tb.cutN s (ak s).length)):=(hb.cell hAlt).trans (lP hcell _)
 -- the new place
 have hZl:Z.length=1:=okh.rel.len
 have hFMs:∀b o,FM b=some o->w'.heap[b]? = some o:=fun b o h=>by
  have h1:=okh.rel.fm b o h
  exact(hheap b (Array.getElem?_eq_some_iff.1 h1).1 (fun e=>by rw[e,hFA] at h;cases h)).trans h1
 obtain⟨q,q1,q2,q3,q4⟩:∃q:Nat × Nat × Nat,(∀Z':Plc,Z'[1]? = some q->Den FM Z' (.ow true 1 (ak s).length 1) v)/\(q.2.1<=q.2.2->q.1<w'.heap.size)/\(q.2.1<=q.2.2->w.heap.size<=q.1)/\(∀Z',cw FM Z' q w' (.cells false ((ak s).length*1) (od s))):=by
  rw[lQ] at hrow
  rcases hrow.2 with⟨rfl,hn0⟩|⟨g',cap,cur,rfl,hg',hh,h5,_,h6,h7⟩
  ·refine⟨dT,fun Z' _=>⟨fun _=>⟨none,rfl,fun _=>rfl⟩,fun h=>absurd hn0 h⟩,fun h=>absurd h (by simp[dT]),fun h=>absurd h (by simp[dT]),fun Z' hlt=>?_⟩
   rw[hn0] at hlt
   exact absurd hlt (by omega)
  ·have hfmg:FM g'=none:=by
    cases hx:FM g' with
    |none=>rfl
    |some o=>have:=(Array.getElem?_eq_some_iff.1 (okh.rel.fm g' o hx)).1;omega
   refine⟨(g',0,cur.size),fun Z' hp'=>⟨fun hz=>?_,fun _=>⟨_,cap,hp',by rfl,h5,by simp[h6]⟩⟩,fun _=>(Array.getElem?_eq_some_iff.1 hh).1,fun _=>hg',fun Z' hlt=>⟨cur,_,hh,by show 0+_<=_;rw[h6];omega,rfl,fun j hj=>?_,fun h=>(by cases h),fun _=>hfmg⟩⟩
   ·exfalso
    have:=hnil.2 (List.length_eq_zero_iff.1 (by rw[lQ];exact hz))
    cases this
   ·have hj':j<(ak s).length:=by omega
    refine⟨.int .i64 (((ak s).getD j 0:Nat):Int),?_,rfl,rfl⟩
    have e1:cur[j]? = ((cW s).map encZ)[j]?:= by
     rw[<-h7,List.getElem?_take,if_pos (by omega),Array.getElem?_toList]
    show cur[0+j]? = _
    rw[Nat.zero_add,e1]
    unfold cW
    rw[List.map_map,List.getElem?_map,List.getElem?_eq_getElem hj',List.getD_eq_getElem?_getD,List.getElem?_eq_getElem hj']
    rfl
 have hq1:(Z++[q])[1]? = some q:=by rw[<-hZl];simp
 have hpl:p.1<w.heap.size:=by rw[<-hAb];exact hAlt
 have hback:∀i r,(Z++[q])[i]? = some r->(i=0/\r=p)∨(i=1/\r=q):=fun i r hi=>by
  have hi1:i<2:=by have:=(List.getElem?_eq_some_iff.1 hi).1;simp[hZl] at this;omega
  rcases Nat.lt_or_ge i 1 with h|h
  ·have:i=0:=by omega
   subst this
   rw[List.getElem?_append_left (by omega),hp] at hi
   cases hi
   exact .inl ⟨rfl,rfl⟩
  ·have:i=1:=by omega
   subst this
   rw[hq1] at hi
   cases hi
   exact .inr ⟨rfl,rfl⟩
 refine⟨FM,Z++[q],⟨v,rfl,q1 _ hq1⟩,⟨⟨hFMs,by simp[hZl],fun i r hi=>?_,fun i j r t hi hj hli hlj hrt=>?_⟩,R.st okh.j ⟨fun _ _ h=>h,fun _ _=>rfl,hFMs,fun b h=>hheap b (okh.bd b h).1 (fun e=>(okh.bd b h).2 (e▸hin)),hsize,hb.os.trans o1,hb.tape.trans o2,hb.output.trans o3⟩,fun b h=>⟨Nat.lt_of_lt_of_le (okh.bd b h).1 hsize,?_⟩⟩,
  ⟨⟨fun _ _ h=>h,fun b o h=>.inl h,fun b h=>?_,fun b h1 h2 h3=>hheap b h1 (fun e=>h2 (e▸hin)),hsize,hb.os.trans o1,hb.tape.trans o2,hb.output.trans o3⟩,fun b h=>.inl h,Sub.snoc _ _⟩⟩
 ·rcases hback i r hi with⟨rfl,rfl⟩|⟨rfl,rfl⟩
  ·refine⟨fun h=>Nat.lt_of_lt_of_le (k1 h) hsize,fun _=>⟨cs',e,by rw[<-hAb];exact hA',by omega,by omega,fun j hj=>?_,fun h=>(by cases h),fun _=>?_⟩⟩
   ·have:j=0:=by omega
    subst this
    refine⟨.int .u64 (Tb.cutN s (ak s).length),?_,rfl,trivial⟩
    simp only[World.cell?,hA'] at hcell'
    rw[hA] at hcell'
    simpa using hcell'
   ·rw[<-hAb];exact hFA
  ·exact⟨q2,q4 _⟩
 ·rcases hback i r hi with⟨rfl,rfl⟩|⟨rfl,rfl⟩ <;> rcases hback j t hj with⟨rfl,rfl⟩|⟨rfl,rfl⟩
  ·rfl
  ·exfalso
   have hn:0<(ak s).length*1:=by simpa[aL,ag] using hlj
   obtain⟨cs2,e2,d1,d2,d3,_⟩:=q4 Z hn
   have:=q3 (by omega)
   omega
  ·exfalso
   have hn:0<(ak s).length*1:=by simpa[aL,ag] using hli
   obtain⟨cs2,e2,d1,d2,d3,_⟩:=q4 Z hn
   have:=q3 (by omega)
   omega
  ·rfl
 ·rintro ⟨r,hr,hrb,hre⟩
  rcases List.mem_append.1 hr with hr|hr
  ·exact(okh.bd b h).2 ⟨r,hr,hrb,hre⟩
  ·have:r=q:=by simpa using hr
   subst this
   have:=q3 hre
   have:=(okh.bd b h).1
   omega
 ·obtain⟨r,hr,hrb,hre⟩:=h
  rcases List.mem_append.1 hr with hr|hr
  ·exact .inl ⟨r,hr,hrb,hre⟩
  ·have:r=q:=by simpa using hr
   subst this
   exact .inr (by rw[<-hrb];exact q3 hre)
theorem yb (R:Res)[Tab LT R](s:Nat)(hs:s<2^24)(g:R.σ):Does Tryd.prog R 75 [.fn 105 0 (nth []) 1 (nth [.ref 0 0])] [.cells false 1 (fun _=>.int .u64 s)] g
  (.ret (.fz .auto 1 (ak s).length (fun i _=>.int .i64 (((ak s).getD i 0:Nat):Int)))) [.cells false 1 (fun _=>.any)] g:=by
 refine iy (vM 1 [1] (hp2:=[.cells false 1 (fun _=>.any)]) (x:=.fz .auto 1 (ak s).length (fun i j=>od s (i*1+j))) (lR R s hs g) (Nat.le_refl _) ⟨fun j _=>trivial,by show(ak s).length*1<=_;omega,trivial⟩ trivial ⟨fun j _=>trivial,trivial⟩ rfl rfl) (jt ⟨AT rfl (fun i j hi hj=>?_),trivial⟩ ⟨AP _,trivial⟩ rfl)
 show AV.int .i64 _=_
 rw[show i*1+j=i by omega]
end Go.Avm.Pack
namespace Go.Avm.Pack
open Go Go.Avm Go.Proofs
open Go.IntKind (i64 u64)
open Go.Avm.AV (int bool any fz fp sl ow ref fn ifc val agg tup)
open Go.Avm.AObj (cells dead)
open Go.Avm.Oc (ret)
set_option maxRecDepth 4000
def clr (s a:Nat):Nat:=(BitVec.ofNat 64 s &&& ~~~ BitVec.ofNat 64 (2^a)).toNat
theorem oe {s a:Nat}(hs:s<2^24)(ha:a<24)(j:Nat):(clr s a).testBit j=(s.testBit j&&decide (j≠a)):=by
 unfold clr
 rw[BitVec.testBit_toNat,BitVec.getLsbD_and,BitVec.getLsbD_not,BitVec.getLsbD_ofNat,BitVec.getLsbD_ofNat,Nat.testBit_two_pow]
 by_cases hj:j<64
 ·simp only[hj,decide_true,Bool.true_and]
  by_cases h:j=a
  ·subst h;simp
  ·have h':¬a=j:=fun e=>h e.symm
   simp[h,h']
 ·rw[Nat.testBit_lt_two_pow (Nat.lt_of_lt_of_le (bG hs) (Nat.pow_le_pow_right dcd omg))]
  simp[hj]
theorem iI {s a:Nat}(hs:s<2^24):clr s a<=s:=by
 unfold clr
 rw[BitVec.toNat_and]
 refine Nat.le_trans Nat.and_le_left ?_
 rw[BitVec.toNat_ofNat]
 exact Nat.mod_le _ _
theorem yd {s a:Nat}(hs:s<2^24)(ha:a<24):IntKind.u64.wrap ((BitVec.ofInt 64 (s:Int) &&& ~~~ BitVec.ofInt 64 ((2^a:Nat):Int)).toNat:Int)=((clr s a:Nat):Int):=by
 rw[BitVec.ofInt_natCast,BitVec.ofInt_natCast]
 exact Tb.wrapU (bG (Nat.lt_of_le_of_lt (iI (a:=a) hs) hs))
def cX (v:Nat->Int)(r:Rule):Bool:=v r.head.toNat==3&&cb v r
def a9 (p:Prg)(v:Nat->Int):Int:=aC (cX v) p.rules.l 0
theorem ye (R:Res)(p:Prg)(v:Nat->Int)(es:List (Value × AV))(r:Rule)(h:aE r)(g:R.σ):Does Tryd.prog R 113 [bU r,.ref 2 0] [cO 27 (ad p v (.mp 1)),.map es,cO 1 (fun _=>.ref 0 0)] g (.ret (.bool (cX v r))) [cO 27 (ad p v (.mp 1)),.map es,cO 1 (fun _=>.ref 0 0)] g:=by
 have h1:=h.1
 have h2:=h.2
 refine spW (nt:=19) (rs:=[.tmp 3]) (k0:=3) ?_
 refine vcR [] (lkL [(0,[1,2]),(1,[3])]) (lkL [(1,[(6,ROrc.kop (i6 (v (Int.toNat r.head)))),(13,ROrc.kcall (AV.bool (cb v r)))])]) (fun Q=>(fun (u1:List AObj)=>(fun (u2:Int)=>Flw Tryd.prog/\1<=1/\1<=2/\(0<=r.head/\r.head<(↑24:Int))/\OpOk Tryd.prog R (Oper.mk (some 10) (Op.load 43 (Operand.tmp 9)) 43 "table.go:168" #[Edge.mk 5 Ground.data] none) (evO [Row.mk (some 9) none (ref 0 (Int.toNat r.head+2)) false (some []) [],Row.mk (some 8) none (ref 0 2) false (some []) [],Row.mk (some 7) none (ref 0 0) false (some []) [],Row.mk (some 6) none (i6 r.head) false (some []) [3],Row.mk (some 5) none (ref 3 0) false (some []) [],Row.mk (some 4) none (ref 0 0) false (some []) [2]] [(1,ref 2 0),(2,ref 3 0)] []) u1 g (i6 u2) u1 g/\((u2==3)=true->1<=1)/\((u2==3)=true->2<=2)/\((u2==3)=true->true=true/\Does Tryd.prog R 114 [ref 0 2,bU r] u1 g (ret (AV.bool (cb v r))) u1 g)/\Q AEx.ret (St.mk [(3,AV.bool (bif u2==3 then cb v r else false))] u1 g)) (v (Int.toNat r.head))) ([cO 27 (ad p v (AV.mp 1)),AObj.map es,cO 1 fun x=>ref 0 0,cO 2 (nth [i6 r.head,ap r.body])])) ⟨krf,omg,omg,omg,?_,omg,omg,(fun hgd=>⟨rfl,(doS [0,1] 4 (fun R g=>lC R (p) (v) (es) (r) omg g))⟩),?_⟩
 ·exact dY rfl rfl krf rfl (by show _+1<=27;omega) (d5 omg omg)
 ·refine(av (bZ 3 _ _ rfl trivial omg trivial ⟨(fun _ _=>(by first|exact trivial|apply aZ)),(fun j hj=>match j,hj with|0,_=>(show 1<=3 by omega) ),trivial⟩ krf rfl rfl) (AN krf))
def di (p:Prg)(v:Nat->Int)(s:Nat)(l:List Nat):Nat:=l.foldl (fun (s:Nat) (a:Nat)=>if (ofH p.rules.l (a:Int)).any (a8 v s) then clr s a else s) s
def bR (p:Prg)(v:Nat->Int)(s:Nat):Nat:=di p v s (ak s)
def d7 (p:Prg)(v:Nat->Int):Nat->Nat->Nat
 |0,s=>s
 |n+1,s=>if bR p v s=s then s else d7 p v n (bR p v s)
def gre (p:Prg)(v:Nat->Int):Nat:=d7 p v (2^24+1) (aG v 3 p.atoms.toNat)
theorem yf {p:Prg}{v:Nat->Int}{s:Nat}{l:List Nat}{k:Nat}(hk:k<l.length):di p v s (l.take (k+1))=if (ofH p.rules.l (l.getD k 0:Int)).any (a8 v (di p v s (l.take k))) then clr (di p v s (l.take k)) (l.getD k 0) else di p v s (l.take k):=by
 unfold di
 rw[List.take_add_one,List.foldl_append,List.getElem?_eq_getElem hk,List.getD_eq_getElem?_getD,List.getElem?_eq_getElem hk]
 rfl
theorem fI {p:Prg}{v:Nat->Int}:∀{l:List Nat} {s:Nat},s<2^24->di p v s l<=s
 |[],s,_=>Nat.le_refl _
 |a::l,s,hs=>by
  show di p v (if (ofH p.rules.l (a:Int)).any (a8 v s) then clr s a else s) l<=s
  split
  ·exact Nat.le_trans (fI (Nat.lt_of_le_of_lt (iI hs) hs)) (iI hs)
  ·exact fI hs
theorem yg (p:Prg)(v:Nat->Int)(n:Nat):d7 p v n 0=0:=by
 cases n with
 |zero=>rfl
 |succ n=>
  have h:bR p v 0=0:=by
   have:=fI (p:=p) (v:=v) (l:=ak 0) (s:=0) dcd
   exact Nat.le_zero.1 this
  show(if bR p v 0=0 then 0 else _)=0
  rw[if_pos h]
structure Stp where
 rule:Int
 atoms:List Int
 deriving Inhabited,DecidableEq
def bo (s:Nat):List Int:=(ak s).map (fun (a:Nat)=>(a:Int))
theorem fJ (s:Nat):(bo s).length=(ak s).length:=by unfold bo;rw[List.length_map]
theorem gS (s j:Nat):(bo s).getD j 0=(((ak s).getD j 0:Nat):Int):=by
 unfold bo
 rw[List.getD_eq_getElem?_getD,List.getD_eq_getElem?_getD,List.getElem?_map]
 cases (ak s)[j]? <;> rfl
def aj (p:Prg)(v:Nat->Int):Stp:=if 0<=a9 p v then⟨a9 p v,[(p.rules.l.getD (a9 p v).toNat default).head]⟩ else⟨-1,bo (gre p v)⟩
def aS (p:Prg)(v:Nat->Int):Bool:=decide (0<=a9 p v)||gre p v != 0
def af (l:List Int):Nat->AV:=fun j=>.int .i64 (l.getD j 0)
theorem rZ {U:Type}(q:U->Bool):∀(l:List U) (i:Nat),aC q l i<(i:Int)+l.length
 |[],i=>by show(-1:Int)<_;simp;omega
 |x::r,i=>by
  unfold aC
  split
  ·simp;omega
  ·have:=rZ q r (i+1)
   simp only[List.length_cons]
   omega
theorem AX {o n es:Nat}{x ex:Bool}(h:n≠0):Le (.sl o 0 n n ex es) (.ow x o n es):=by
 rintro FM Z v ⟨p,cap',h1,rfl,h3,_,h5⟩
 refine⟨fun e=>absurd e h,fun _=>⟨p,cap',h1,by rw[Nat.add_zero],h3,omg⟩⟩
theorem yh (R:Res)(p:Prg)(v:Nat->Int)(es:List (Value × AV))(n:Int)(x:Int)(h:0<=n/\n<=24)(g:R.σ):Does Tryd.prog R 76 [.ref 0 2,.int .i64 n,.int .i64 x] [cO 27 (ad p v (.mp 1)),.map es] g (.ret (.int .u64 (aG v x n.toNat))) [cO 27 (ad p v (.mp 1)),.map es] g:=by
 obtain⟨m,rfl⟩:∃m:Nat,n=m:=⟨n.toNat,omg⟩
 exact xC R p v es m x omg g
theorem og (R:Res)[Tab LT R](p:Prg)(v:Nat->Int)(es:List (Value × AV))(hl:p.rules.l.length<1000000)(hr:∀r,r∈p.rules.l->aE r)(hes:HeadsOk es p.rules.l)(hp:1<=p.atoms/\p.atoms<=24)(g:R.σ):Does Tryd.prog R 96 [.ref 0 0] [cO 27 (ad p v (.mp 1)),.map es] g (.ret (.tup 2 (nth [.agg 2 (nth [.int .i64 (aj p v).rule,.ow true 2 (aj p v).atoms.length 1]),.bool (aS p v)]))) [cO 27 (ad p v (.mp 1)),.map es,cO ((aj p v).atoms.length*1) (af (aj p v).atoms)] g:=by
 have hlt:=rZ (cX v) p.rules.l 0
 refine spW (nt:=59) (rs:=[.cell 2 71,.tmp 3]) (k0:=2) ?_
 refine vcR [] (lkL [(0,[1,2]),(1,[1,2,4]),(2,[1,2,4,16]),(3,[2,3]),(4,[1,2,5]),(5,[1,2,5,6])]) (lkL [(1,[(6,ROrc.kcall (i6 (aC (cX v) p.rules.l 0)))]),(3,[(12,ROrc.val (Orc.obj (nth [i6 (aC (cX v) p.rules.l 0),sl 4 0 1 1 true 1])))]),(4,[(8,ROrc.lcall (int u64 (↑(aG v 3 (Int.toNat p.atoms)):Int)) [0,1]),(10,ROrc.val (Orc.obj (nth [int u64 (↑(aG v 3 (Int.toNat p.atoms)):Int)])))])]) (fun Q=>(fun (u1:List AObj)=>(fun (u2:Int)=>(fun (u3:AV)=>(fun (u4:List AV)=>1<=1/\2<=27/\(true=true/\Does Tryd.prog R 112 [ae p.rules,fn 113 0 (nth []) 1 (nth [ref 2 0])] u1 g (ret (i6 u2)) u1 g)/\(decide (u2 >= 0)=true->1<=1/\2<=27/\(0<=u2/\u2<(↑(List.length p.rules.l):Int))/\1<=2/\2<=2/\(∀(c:Nat),c<2->nth u4 c=ao (nth [i6 0,fz Fz.nil 0 0 fun x x_1=>any]) 0 2 (List.brecOn (motive:=fun (x:List AV)=>Nat->AV) u4 nth._f) c)/\Q AEx.ret (St.mk [(2,ref 3 0),(3,AV.bool true)] [cO 27 (ad p v (AV.mp 1)),AObj.map es,cO 1 fun a=>ref 0 0,cO 2 (nth u4),cO 1 (ao (fun (j:Nat)=>i6 0) 0 1 fun x=>i6 (List.getD p.rules.l (Int.toNat u2) default).head)] g))/\(decide (u2 >= 0)=false->Flw Tryd.prog/\1<=1/\1<=1/\1<=27/\(∀(hp':List AObj) (g':R.σ),SameO [0,1] u1 hp'->true=true/\Does Tryd.prog R 76 [ref 0 2,i6 p.atoms,i6 3] hp' g' (ret u3) hp' g')/\1<=1/\(∀(c:Nat),c<1->nth [u3] c=ao (fun (a:Nat)=>int u64 0) 0 1 (fun (x:Nat)=>u3) c)/\WpC Tryd.prog R 59 2 96 [1,1,1,1,0,1,0] Q [Kont.blk 0,Kont.seq [1,1,1,1,1]] (St.mk [(1,ref 2 0),(2,ref 3 0),(5,ref 4 0),(6,int u64 0)] [cO 27 (ad p v (AV.mp 1)),AObj.map es,cO 1 fun a=>ref 0 0,cO 2 (nth [i6 0,fz Fz.nil 0 0 fun x x_1=>any]),cO 1 (nth [u3])] g))) ([i6 u2,sl 4 0 1 1 true 1])) (int u64 (↑(aG v 3 (Int.toNat p.atoms)):Int))) (aC (cX v) p.rules.l 0)) ([cO 27 (ad p v (AV.mp 1)),AObj.map es,cO 1 fun a=>ref 0 0,cO 2 (nth [i6 0,fz Fz.nil 0 0 fun x x_1=>any])])) ⟨omg,omg,⟨rfl,(xf _ _ _ _ _ _ _ _ _ _ omg krf (fun r _=>(doT (T:=LT) [0,1,2] 4 (fun R _ g=>ye R (p) (v) (es) (r) ?_ g))))⟩,fun c1=>have c1:aC (cX v) p.rules.l 0 >= 0:=(of_decide_eq_true c1);⟨omg,omg,omg,omg,omg,(fun c hc=>match c,hc with|0,_=>krf|1,_=>krf ),?_⟩,fun c1=>have c1:¬aC (cX v) p.rules.l 0 >= 0:=(of_decide_eq_false c1);⟨krf,omg,omg,omg,?_,omg,(fun c hc=>match c,hc with|0,_=>krf ),?_⟩⟩
 ·exact hr _ (by assumption)
 ·have c1':0<=a9 p v:=by unfold a9;omega
  have hn:aj p v=⟨a9 p v,[(p.rules.l.getD (a9 p v).toNat default).head]⟩:=if_pos c1'
  have hb:aS p v=true:=by unfold aS;rw[decide_eq_true c1'];rfl
  rw[hn,hb]
  refine fA (.tup 2 (nth [.agg 2 (nth [.int .i64 (a9 p v),.sl 4 0 1 1 true 1]),.bool true])) _ rfl (by exact⟨dcd,trivial⟩) (toS [0,1,4] 5 (hfr:=⟨AR (fun j hj=>match j,hj with|0,_=>AS (fun j hj=>match j,hj with|0,_=>AM _|1,_=>AX dcd)|1,_=>AM _),trivial⟩) (hob:=⟨AY (fun j hj=>(cz rfl).symm),rfl,AY (fun j hj=>match j,hj with|0,_=>rfl),trivial⟩))
 ·intro hp' g' hs
  exact⟨rfl,jO [0,1] (fun R g=>yh R p v es p.atoms 3 omg g) (by exact⟨rfl,rfl,trivial⟩) rfl (by exact fun n=>⟨AY (fun j hj=>(cz rfl).symm),rfl,trivial⟩) ⟨omg,trivial⟩ (by exact fun n=>⟨AM _,AM _,AM _,trivial⟩) rfl (by exact fun n=>AM _) (by exact fun n=>⟨AY (fun j hj=>cz rfl),rfl,trivial⟩) hp' g' hs⟩
 ·have hset:=lE v 3 p.atoms.toNat
  have hs0:aG v 3 p.atoms.toNat<2^24:=Nat.lt_of_lt_of_le hset (Nat.pow_le_pow_right dcd omg)
  refine(bi krf (fun (x:Nat × Nat)=>⟨[(1,ref 2 0),(2,ref 3 0),(5,ref 4 0),(6,.int .u64 x.1)],[cO 27 (ad p v (.mp 1)),.map es,cO 1 (fun _=>.ref 0 0),cO 2 (nth [.int .i64 0,.fz .nil 0 0 fun _ _=>.any]),cO 1 (fun _=>.int .u64 x.2)],g⟩) (fun (x:Nat × Nat)=>(x.2<2^24/\(x.2=x.1->gre p v=x.2)/\(x.2≠x.1->∃f,x.2<f/\d7 p v f x.2=gre p v))) (fun (x:Nat × Nat)=>(if x.2=x.1 then 0 else x.2+1)) (0,aG v 3 p.atoms.toNat) (toL (h1:=⟨AM _,AM _,AM _,(AN krf),trivial⟩)) ?_ (fun x hi=>?_))
  ·refine⟨hs0,fun h=>?_,fun _=>⟨2^24+1,by show aG v 3 p.atoms.toNat<_;omega,rfl⟩⟩
   have h:aG v 3 p.atoms.toNat=0:=h
   show gre p v=aG v 3 p.atoms.toNat
   unfold gre
   rw[h]
   exact yg p v _
  ·obtain⟨b,s⟩:=x
   obtain⟨h1,h2,h3⟩:=hi
   simp only at h1 h2 h3
   refine vcR [] (lkL [(6,[1,2,5,40]),(7,[1,2,5,6]),(8,[1,2,5,6,43])]) (lkL [(8,[(1,ROrc.call (fn 105 0 (nth []) 1 (nth [ref (List.length [cO 27 (ad p v (AV.mp 1)),AObj.map es,cO 1 fun (x:Nat)=>ref 0 0,cO 2 (nth [i6 0,fz Fz.nil 0 0 fun (x x_1:Nat)=>any]),cO 1 fun (x:Nat)=>int u64 (↑s:Int)]) 0])) ([cO 27 (ad p v (AV.mp 1)),AObj.map es,cO 1 fun (x:Nat)=>ref 0 0,cO 2 (nth [i6 0,fz Fz.nil 0 0 fun (x x_1:Nat)=>any]),cO 1 fun (x:Nat)=>int u64 (↑s:Int)]++[cO 1 fun (x:Nat)=>int u64 (↑s:Int)]) g)])]) (fun Q=>(fun (u1:List AObj)=>(fun (u2:List AObj)=>(fun (u3:Bool)=>1<=1/\(u3=true->1<=1/\(true=true/\Does Tryd.prog R 77 [int u64 (↑s:Int)] u2 g (ret (fn 105 0 (nth []) 1 (nth [ref 5 0]))) u1 g)/\WpC Tryd.prog R 59 2 96 [1,1,1,1,0,1,0,0,1,0,1,1,0] Q [Kont.blk 2,Kont.blk 1] (St.mk [(1,ref 2 0),(2,ref 3 0),(5,ref 4 0),(6,int u64 (↑s:Int)),(43,fn 105 0 (nth []) 1 (nth [ref 5 0]))] u1 g))/\(u3=false->Q (AEx.exit 0) (St.mk [(1,ref 2 0),(2,ref 3 0),(5,ref 4 0),(40,AV.bool u3)] u2 g))) ((↑s:Int) != (↑b:Int))) ([cO 27 (ad p v (AV.mp 1)),AObj.map es,cO 1 fun x=>ref 0 0,cO 2 (nth [i6 0,fz Fz.nil 0 0 fun x x_1=>any]),cO 1 fun x=>int u64 (↑s:Int)])) ([cO 27 (ad p v (AV.mp 1)),AObj.map es,cO 1 fun x=>ref 0 0,cO 2 (nth [i6 0,fz Fz.nil 0 0 fun x x_1=>any]),cO 1 fun x=>int u64 (↑s:Int),cO 1 fun x=>int u64 (↑s:Int)])) ⟨omg,fun c1=>have c1:¬(↑s:Int)=(↑b:Int):=(bne_iff_ne.mp c1);⟨omg,⟨rfl,(cQ _ _ _ _)⟩,?_⟩,fun c1=>have c1:(↑s:Int)=(↑b:Int):=(bne_eq_false_iff_eq.mp c1);?_⟩
   ·have hne:s≠b:=by omega
    have hseq:=lz s h1
    obtain⟨l,hle⟩:∃l,ak s=l:=⟨_,rfl⟩
    have hcs:bR p v s=di p v s l:=by unfold bR;rw[hle]
    rw[hle] at hseq
    have hin:∀k,k<l.length->l.getD k 0<24:=fun k hk=>by
     have h:=bx l 0 hk
     have h':l.getD k 0∈ak s:=by rw[hle];exact h
     exact(Tb.mem_memN.1 h').1
    refine iA 43 [44] 5 krf rfl rfl rfl hseq (fun _=>rfl) krf (fun _=>⟨trivial,trivial⟩)
     (fun _=>none) (fun _=>rfl)
     (fun k=>[cO 27 (ad p v (.mp 1)),.map es,cO 1 (fun _=>.ref 0 0),cO 2 (nth [.int .i64 0,.fz .nil 0 0 fun _ _=>.any]),cO 1 (fun _=>.int .u64 (di p v s (l.take k)))])
     (fun _=>g) (fC rfl rfl) (fun _=>rfl) (by exact⟨omg,omg,omg,omg,omg,trivial⟩) (by exact⟨fun j _=>aZ _ _ 3 _,trivial,fun _ _=>show 0<5 by omega,fun j hj=>(match j,hj with|0,_=>trivial|1,_=>trivial),fun _ _=>trivial,trivial⟩) (by exact⟨fun _ _=>trivial,trivial⟩) [1,5] (by exact⟨show 2<5 by omega,show 4<5 by omega,trivial⟩) (fun k l' hk hjk=>?_) (fun _=>?_) (fun k hk hj hr=>by cases hr) (fun k id hk hj hr=>by cases hr)
    ·obtain⟨a,ha⟩:∃a,l.getD k 0=a:=⟨_,rfl⟩
     have ha24:a<24:=by rw[<-ha];exact hin k hk
     obtain⟨t,ht⟩:∃t,di p v s (l.take k)=t:=⟨_,rfl⟩
     have ht24:t<2^24:=by rw[<-ht];exact Nat.lt_of_le_of_lt (fI h1) h1
     have hnx:=yf (p:=p) (v:=v) (s:=s) hk
     rw[ha,ht] at hnx
     rw[ha,ht,hnx]
     refine vcR [] (lkL [(9,[1,2,5,6,7])]) (fun _=>[]) (fun (Q:AEx->St R.σ->Prop)=>Q AEx.normal (St.mk [(1,ref 2 0),(2,any),(5,ref 4 0),(6,any),(7,i6 (↑a:Int))] [cO 27 (ad p v (AV.mp 1)),AObj.map es,cO 1 fun (x:Nat)=>ref 0 0,cO 2 (nth [i6 0,fz Fz.nil 0 0 fun (x x_1:Nat)=>any]),cO 1 fun (x:Nat)=>int u64 (↑t:Int)] g)) (?_)
     show Wp _ _ _ 5 _ _ _ _ _
     refine vcR [] (lkL [(10,[1,2,5,6,7,48]),(11,[1,2,5,6])]) (lkL [(10,[(3,ROrc.kcall (AV.bool (List.any (ofH p.rules.l (↑a:Int)) (a8 v t))))]),(11,[(2,ROrc.pcall (int u64 (↑(2^a):Int))),(4,ROrc.val (Orc.obj (nth [int u64 (IntKind.wrap u64 (↑(BitVec.toNat (BitVec.ofInt 64 (↑t:Int) &&& ~~~BitVec.ofInt 64 (↑(2^a):Int))):Int))])))])]) (fun Q=>(fun (u1:List AObj)=>(fun (u2:AV)=>(fun (u3:Bool)=>1<=1/\1<=1/\(true=true/\Does Tryd.prog R 115 [ref 0 0,i6 (↑a:Int),int u64 (↑t:Int)] u1 g (ret (AV.bool u3)) u1 g)/\(u3=true->Flw Tryd.prog/\1<=1/\(∀(hp:List AObj) (g:R.σ),true=true/\Does Tryd.prog R 79 [i6 (↑a:Int)] hp g (ret (int u64 (↑(2^a):Int))) hp g)/\1<=1/\(∀(c:Nat),c<1->nth [u2] c=ao (fun (x:Nat)=>int u64 (↑t:Int)) 0 1 (fun (x:Nat)=>u2) c)/\Q AEx.normal (St.mk [(1,ref 2 0),(2,any),(5,ref 4 0),(6,any)] [cO 27 (ad p v (AV.mp 1)),AObj.map es,cO 1 fun x=>ref 0 0,cO 2 (nth [i6 0,fz Fz.nil 0 0 fun x x_1=>any]),cO 1 (nth [u2])] g))/\(u3=false->Q AEx.normal (St.mk [(1,ref 2 0),(2,any),(5,ref 4 0),(6,any),(7,i6 (↑a:Int)),(48,AV.bool u3)] u1 g))) (List.any (ofH p.rules.l (↑a:Int)) (a8 v t))) (int u64 (IntKind.wrap u64 (↑(BitVec.toNat (BitVec.ofInt 64 (↑t:Int) &&& ~~~BitVec.ofInt 64 (↑(2^a):Int))):Int)))) ([cO 27 (ad p v (AV.mp 1)),AObj.map es,cO 1 fun x=>ref 0 0,cO 2 (nth [i6 0,fz Fz.nil 0 0 fun x x_1=>any]),cO 1 fun x=>int u64 (↑t:Int)])) ⟨omg,omg,⟨rfl,(doT (T:=LT) [0,1] 5 (fun R _ g=>jY R (p) (v) (es) (t) (a) omg omg omg omg omg g))⟩,fun c1=>⟨krf,omg,(fun _ _=>⟨rfl,(gP _ _ omg _ _)⟩),omg,(fun c hc=>match c,hc with|0,_=>krf ),?_⟩,fun c1=>?_⟩
     ·refine(eE rfl (toL (h2:=⟨AO,rfl,AO,AO,⟨rfl,Nat.le_refl _,fun j hj=>match j,hj with|0,_=>(AN ?_) ⟩,trivial⟩)))
      show AV.int .u64 _=AV.int .u64 _
      rw[if_pos c1]
      congr 1
      exact yd ht24 ha24
     ·refine(eE rfl (toL (h2:=⟨AO,rfl,AO,AO,⟨rfl,Nat.le_refl _,fun j hj=>match j,hj with|0,_=>(AN ?_) ⟩,trivial⟩)))
      show AV.int .u64 _=AV.int .u64 _
      rw[if_neg (by rw[c1];decide)]
    ·rw[List.take_length,<-hcs]
     have hle':bR p v s<=s:=by rw[hcs];exact fI h1
     obtain⟨f,f1,f2⟩:=h3 hne
     obtain⟨f,rfl⟩:∃k,f=k+1:=⟨f-1,omg⟩
     have f3:d7 p v (f+1) s=if bR p v s=s then s else d7 p v f (bR p v s):=rfl
     rw[f3] at f2
     refine(aW (s,bR p v s) (toS [0,1,2,3,4] 6 (hob:=⟨⟨by first|rfl|(simp;done),by first|exact Nat.le_refl _|(simp;done)|(simp;omega),fun j hj=>(by first|exact bp (by first|exact trivial|apply aZ)|exact AN (cz rfl).symm)⟩,rfl,⟨rfl,Nat.le_refl _,fun j hj=>match j,hj with|0,_=>(AM _) ⟩,⟨rfl,Nat.le_refl _,fun j hj=>match j,hj with|0,_=>(AM _)|1,_=>(AM _) ⟩,⟨rfl,Nat.le_refl _,fun j hj=>match j,hj with|0,_=>(AM _) ⟩,trivial⟩)) ?_ ?_)
     ·refine⟨omg,fun h=>?_,fun h=>⟨f,?_,?_⟩⟩
      ·have h:bR p v s=s:=h
       rw[if_pos h] at f2
       rw[<-f2];exact h.symm
      ·have h:bR p v s≠s:=h
       omega
      ·have h:bR p v s≠s:=h
       rw[if_neg h] at f2
       exact f2
     ·show(if bR p v s=s then 0 else bR p v s+1)<if s=b then 0 else s+1
      rw[if_neg hne]
      split <;> omega
   ·have hsb:s=b:=by omega
    subst hsb
    have hg:=h2 rfl
    refine⟨_,A0 _,vcR [] (lkL [(12,[2,3])]) (lkL [(12,[(1,ROrc.callN (fn 105 0 (nth []) 1 (nth [ref (List.length [cO 27 (ad p v (AV.mp 1)),AObj.map es,cO 1 fun (x:Nat)=>ref 0 0,cO 2 (nth [i6 0,fz Fz.nil 0 0 fun (x x_1:Nat)=>any]),cO 1 fun (x:Nat)=>int u64 (↑s:Int)]) 0])) [] [cO 1 fun (x:Nat)=>int u64 (↑s:Int)] g),(2,ROrc.callN (ow true 6 (List.length (ak s)) 1) [(5,cO 1 fun (j:Nat)=>any)] [cO (List.length (ak s)*1) fun (j:Nat)=>i6 (↑(List.getD (ak s) j 0):Int)] g),(6,ROrc.val (Orc.obj (nth [i6 (-1),ow true 6 (List.length (ak s)) 1])))])]) (fun Q=>(fun (u1:AObj)=>(fun (u2:AObj)=>(fun (u3:AObj)=>(fun (u4:List AObj)=>(fun (u5:AObj)=>(fun (u6:AV)=>Flw Tryd.prog/\1<=1/\(true=true/\Does Tryd.prog R 77 [int u64 (↑s:Int)] [u5,AObj.map es,u3,u2,u1] g (ret (fn 105 0 (nth []) 1 (nth [ref 5 0]))) [u5,AObj.map es,u3,u2,u1,u1] g)/\(true=true/\Does Tryd.prog R 75 [fn 105 0 (nth []) 1 (nth [ref 5 0])] [u5,AObj.map es,u3,u2,u1,u1] g (ret u6) (u5::AObj.map es::u3::u2::u4) g)/\1<=1/\2<=2/\(∀(c:Nat),c<2->nth [i6 (-1),u6] c=ao (nth [i6 0,fz Fz.nil 0 0 fun x x_1=>any]) 0 2 (List.brecOn (motive:=fun (x:List AV)=>Nat->AV) [i6 (-1),u6] nth._f) c)/\Q AEx.ret (St.mk [(2,ref 3 0),(3,AV.bool ((↑s:Int) != 0))] (u5::AObj.map es::u3::cO 2 (nth [i6 (-1),u6])::u4) g)) (ow true 6 (List.length (ak s)) 1)) (cO 27 (ad p v (AV.mp 1)))) ([u1,cO 1 fun j=>any,cO (List.length (ak s)*1) fun j=>i6 (↑(List.getD (ak s) j 0):Int)])) (cO 1 fun x=>ref 0 0)) (cO 2 (nth [i6 0,fz Fz.nil 0 0 fun x x_1=>any]))) (cO 1 fun x=>int u64 (↑s:Int))) ⟨krf,omg,⟨rfl,(cQ _ _ _ _)⟩,⟨rfl,(doT (T:=LT) [5] 6 (fun R _ g=>lR R (s) omg g))⟩,omg,omg,(fun c hc=>match c,hc with|0,_=>krf|1,_=>krf ),?_⟩⟩
    have hnf:¬0<=a9 p v:=by unfold a9;omega
    have hn:aj p v=⟨-1,bo s⟩:=by unfold aj;rw[if_neg hnf,hg]
    have hb:aS p v=(s != 0):=by unfold aS;rw[decide_eq_false hnf,hg];rfl
    rw[hn,hb]
    show bK Tryd.prog R 2 _ _ _ _ .ret _
    refine fA (.tup 2 (nth [.agg 2 (nth [.int .i64 (-1),.ow true 6 (ak s).length 1]),.bool ((s:Int) != 0)])) _ rfl (by exact⟨dcd,trivial⟩) (toS [0,1,6] 7 (hfr:=⟨AR (fun j hj=>match j,hj with|0,_=>AS (fun j hj=>match j,hj with|0,_=>AM _|1,_=>AN ?_)|1,_=>AN ?_),trivial⟩) (hob:=⟨AY (fun j hj=>(cz rfl).symm),rfl,⟨rfl,?_,fun j hj=>AN ?_⟩,trivial⟩))
    ·show AV.ow _ _ _ _=AV.ow _ 6 (bo s).length 1
     rw[fJ]
    ·show AV.bool _=AV.bool _
     congr 1
     rw[Bool.eq_iff_iff,bne_iff_ne,bne_iff_ne]
     omega
    ·show(bo s).length*1<=(ak s).length*1
     rw[fJ]
     exact Nat.le_refl _
    ·show AV.int .i64 _=AV.int .i64 ((bo s).getD j 0)
     rw[gS]
def eJ (s:Stp):Step:=⟨s.rule,s.atoms,.opn⟩
theorem yi (R:Res)(p:Prg)(v:Nat->Int)(es:List (Value × AV))(s:Stp)(hl:p.rules.l.length<1000000)(hr:∀r,r∈p.rules.l->aE r)(h:cH p v (eJ s)=true)(g:R.σ):Does Tryd.prog R 141 [.agg 2 (nth [.int .i64 s.rule,.ow true 2 s.atoms.length 1]),.ref 0 0] [cO 27 (ad p v (.mp 1)),.map es,cO (s.atoms.length*1) (af s.atoms)] g (.ret (.tup 0 (nth []))) [cO 27 (ad p (er p v (eJ s)) (.mp 1)),.map es,cO (s.atoms.length*1) (af s.atoms)] g:=by
 unfold cH at h
 simp only[Bool.and_eq_true,beq_iff_eq,decide_eq_true_eq] at h
 obtain⟨hA,hB,hC,hD,hE⟩:=h
 have hA:0<=s.rule/\s.rule<=(p.rules.l.length:Int)-1:=hA
 have hB:s.atoms.length=1:=hB
 have hC:s.atoms.getD 0 0=(p.rules.l.getD s.rule.toNat default).head:=hC
 have hD:v (p.rules.l.getD s.rule.toNat default).head.toNat=3:=hD
 have hE:cb v (p.rules.l.getD s.rule.toNat default)=true:=hE
 have hq:=hr _ (e8 (show s.rule.toNat<p.rules.l.length by omega))
 have q1:=hq.1
 have q2:=hq.2
 have ho:∀j,ao (ad p v (.mp 1)) ((p.rules.l.getD s.rule.toNat default).head.toNat+2) 1 (fun _=>.int .i64 2) j=ad p (ck v (p.rules.l.getD s.rule.toNat default).head.toNat 2) (.mp 1) j:=fun j=>lH rfl omg (fun _=>.int .i64 2) rfl
 refine spW (nt:=66) (rs:=[]) (k0:=3) ?_
 refine vcR [] (lkL [(0,[1,2]),(1,[1,2]),(2,[1,2,4]),(3,[1,4])]) (lkL [(1,[(10,ROrc.pcall (AV.bool (decide (0<=s.rule/\s.rule<=(p.rules.l.length:Int)-1)))),(18,ROrc.pcall (tup 0 (nth [])))]),(2,[(11,ROrc.val (Orc.obj (nth [i6 (p.rules.l.getD (s.rule.toNat) default).head,ap (p.rules.l.getD (s.rule.toNat) default).body])))]),(3,[(15,ROrc.kop (i6 (v ((p.rules.l.getD (s.rule.toNat) default).head.toNat)))),(23,ROrc.kcall (AV.bool true)),(25,ROrc.pcall (tup 0 (nth [])))])]) (fun Q=>(fun (u1:Rule)=>(fun (u2:List AObj)=>(fun (u3:Int)=>(fun (u4:Bool)=>(fun (u5:Bool)=>(fun (u6:List AObj)=>(fun (u7:Bool)=>(fun (u8:Bool)=>(fun (u9:Option (List Nat))=>(fun (u10:Option (Nat × Bool))=>(fun (u11:Nat)=>u5=true/\1<=2/\2<=27/\(-9223372036854775808<=u3/\u3<=9223372036854775807)/\(∀(hp:List AObj) (g:R.σ),true=true/\Does Tryd.prog R 58 [i6 s.rule,i6 0,i6 u3] hp g (ret (AV.bool u8)) hp g)/\(u8=true->2<=2)/\(∀(hp:List AObj) (g:R.σ),true=true/\Does Tryd.prog R 140 [AV.bool (bif u8 then(u11:Int)==1 else false)] hp g (ret (tup 0 (nth []))) hp g)/\u5=true/\2<=27/\1<=2/\(0<=s.rule/\s.rule<(p.rules.l.length:Int))/\2<=2/\2<=2/\(∀(c:Nat),c<2->nth [i6 u1.head,ap u1.body] c=ao (nth [i6 0,fz Fz.nil 0 0 fun x x_1=>any]) 0 2 (List.brecOn (motive:=fun (x:List AV)=>Nat->AV) [i6 u1.head,ap u1.body] nth._f) c)/\u5=true/\2<=2/\((↑0:Int)<=0/\0<(u11:Int))/\1<=u11*1/\1<=2/\(u4=true->1<=2)/\(u4=true->0<=u1.head/\u1.head<(↑24:Int))/\(u4=true->OpOk Tryd.prog R (Oper.mk (some 49) (Op.load 43 (Operand.tmp 48)) 43 "table.go:147" #[Edge.mk 14 Ground.data,Edge.mk 8 Ground.guard] u10) (evO [Row.mk (some 48) u10 (ref 0 (u1.head.toNat+2)) false u9 [],Row.mk (some 47) u10 (ref 0 2) false u9 [],Row.mk (some 46) u10 (ref 0 0) false u9 [],Row.mk (some 45) u10 (i6 u1.head) false u9 [4],Row.mk (some 44) u10 (ref 4 0) false u9 [],Row.mk (some 43) u10 (ref 0 0) false u9 [],Row.mk (some 42) none (AV.bool u4) false u9 [],Row.mk (some 41) none (AV.bool u4) false u9 [],Row.mk (some 40) none (i6 u1.head) false u9 [4],Row.mk (some 39) none (ref 4 0) false u9 [],Row.mk (some 38) none (af s.atoms 0) false u9 [2],Row.mk (some 37) none (ref 2 0) false u9 [],Row.mk (some 36) none (ow true 2 u11 1) false u9 [3],Row.mk (some 35) none (ref 3 1) false u9 [],Row.mk (some 34) none (ref 3 0) false u9 []] [(1,ref 0 0),(2,ref 3 0),(4,ref 4 0)] [(8,true)]) u6 g (i6 (v (u1.head.toNat))) u6 g)/\(u7=true->2<=2)/\(u7=true->true=true/\Does Tryd.prog R 114 [ref 0 2,bU u1] u6 g (ret (AV.bool true)) u6 g)/\(∀(hp:List AObj) (g:R.σ),true=true/\Does Tryd.prog R 140 [AV.bool (bif u7 then true else false)] hp g (ret (tup 0 (nth []))) hp g)/\u5=true/\1<=2/\(0<=u1.head/\u1.head<(↑24:Int))/\u1.head.toNat+2+1<=27/\Q AEx.normal (St.mk [] (cO 27 (ao (ad p v (AV.mp 1)) (u1.head.toNat+2) 1 fun x=>i6 2)::u2) g)) (s.atoms.length)) (some (8,true))) (some [])) (decide (0<=s.rule/\s.rule<=u3))) (bif u4 then v (u1.head.toNat)==3 else false)) (cO 27 (ad p v (AV.mp 1))::u2)) (Tables.follows Tryd.prog.toTables Departure.mixedOrders)) (s.atoms.getD 0 0==u1.head)) ((p.rules.l.length:Int)-1)) ([AObj.map es,cO (s.atoms.length*1) fun a=>af s.atoms a,cO 2 (nth [i6 s.rule,ow true 2 (s.atoms.length) 1]),cO 2 (nth [i6 u1.head,ap u1.body])])) (p.rules.l.getD (s.rule.toNat) default)) ⟨krf,omg,omg,omg,(fun _ _=>⟨rfl,(dv _ _ _ _ _ _)⟩),omg,(fun _ _=>⟨rfl,(dQ _ _ (by simp at * <;> omega) _ _)⟩),krf,omg,omg,omg,omg,omg,(fun c hc=>match c,hc with|0,_=>krf|1,_=>krf ),krf,omg,omg,omg,omg,omg,omg,?_,omg,(fun hgd=>⟨rfl,(jJ hE (doS [0,1] 5 (fun R g=>lC R (p) (v) (es) (p.rules.l.getD (s.rule.toNat) default) omg g)))⟩),(fun _ _=>⟨rfl,(dQ _ _ (by simp at * <;> omega) _ _)⟩),krf,omg,omg,omg,?_⟩
 ·intro _
  exact dY rfl rfl krf rfl (by show _+1<=27;omega) (d5 omg omg)
 ·refine(av (bZ 3 _ _ rfl trivial omg trivial ⟨(fun _ _=>?_),(fun _ _=>trivial),trivial⟩ ?_ rfl rfl) (AM _))
  ·rw[ho];exact aZ _ _ 1 _
  ·show [cO 27 (ao (ad p v (.mp 1)) ((p.rules.l.getD s.rule.toNat default).head.toNat+2) 1 (fun _=>.int .i64 2)),AObj.map es,_]=_
   rw[show ao (ad p v (.mp 1)) ((p.rules.l.getD s.rule.toNat default).head.toNat+2) 1 (fun _=>.int .i64 2)=ad p (ck v (p.rules.l.getD s.rule.toNat default).head.toNat 2) (.mp 1) from funext ho]
   rfl
theorem yj (R:Res)[Tab LT R](p:Prg)(v:Nat->Int)(es:List (Value × AV))(s:Stp)(hl:p.rules.l.length<1000000)(hr:∀r,r∈p.rules.l->aE r)(hes:HeadsOk es p.rules.l)(hp:1<=p.atoms/\p.atoms<=24)(hsl:s.atoms.length<1000000)(h1':cV p v s.atoms=true)(hns:dg p v (aH s.atoms)=true)(g:R.σ):Does Tryd.prog R 139 [.agg 2 (nth [.int .i64 s.rule,.ow true 2 s.atoms.length 1]),.ref 0 0] [cO 27 (ad p v (.mp 1)),.map es,cO (s.atoms.length*1) (af s.atoms)] g (.ret (.tup 0 (nth []))) [cO 27 (ad p (bI v (aH s.atoms)) (.mp 1)),.map es,cO (s.atoms.length*1) (af s.atoms)] g:=by
 unfold cV at h1'
 rw[Bool.and_eq_true] at h1'
 obtain⟨h0,hall⟩:=h1'
 have h0:0<s.atoms.length:=of_decide_eq_true h0
 have hck:∀i,i<s.atoms.length->eI p v s.atoms i=true:=fun i hi=>(List.all_eq_true.1 hall) i (List.mem_range.2 hi)
 have hpos:((s.atoms.length:Nat):Int) > 0:=by omega
 refine spW (nt:=79) (rs:=[]) (k0:=3) ?_
 refine vcR [] (lkL [(0,[2,3]),(1,[2,3]),(2,[2,3,4]),(3,[2,3,4,17,18,19])]) (lkL [(1,[(5,ROrc.pcall (tup 0 (nth [])))])]) (fun Q=>(fun (u1:Nat)=>2<=2/\(∀(hp:List AObj) (g:R.σ),true=true/\Does Tryd.prog R 140 [AV.bool (decide ((↑u1:Int) > 0))] hp g (ret (tup 0 (nth []))) hp g)/\2<=2/\WpC Tryd.prog R 79 3 139 [1,1,1,0,1,0] Q [Kont.blk 0,Kont.seq [1,1,1,1]] (St.mk [(2,ref 3 0),(3,ref 4 0),(4,ref 5 0),(17,ow true 2 u1 1),(18,i6 (↑u1:Int)),(19,i6 0)] [cO 27 (ad p v (AV.mp 1)),AObj.map es,cO (u1*1) fun a=>af s.atoms a,cO 2 (nth [i6 s.rule,ow true 2 u1 1]),cO 1 fun a=>ref 0 0,cO 1 fun a=>int u64 0] g)) (List.length s.atoms)) ⟨omg,(fun _ _=>⟨rfl,(dQ _ _ (by simp at * <;> omega) _ _)⟩),omg,?_⟩
 refine(bi krf (fun (i:Nat)=>⟨[(2,ref 3 0),(3,ref 4 0),(4,ref 5 0),(17,ow true 2 (s.atoms.length) 1),(18,i6 (s.atoms.length:Int)),(19,.int .i64 i)],[cO 27 (ad p v (.mp 1)),.map es,cO (s.atoms.length*1) (af s.atoms),cO 2 (nth [.int .i64 s.rule,.ow true 2 s.atoms.length 1]),cO 1 (fun _=>.ref 0 0),cO 1 (fun _=>.int .u64 (aH (s.atoms.take i)))],g⟩) (fun (i:Nat)=>(i<=s.atoms.length/\aH (s.atoms.take i)<2^24)) (fun (i:Nat)=>(s.atoms.length-i)) 0 (toL (h1:=⟨AM _,AM _,AM _,AM _,AM _,(AN krf),trivial⟩)) ?_ (fun i hi=>?_))
 ·exact⟨Nat.zero_le _,(by decide:(0:Nat)<2^24)⟩
 ·obtain⟨h1,h2⟩:=hi
  rcases Nat.lt_or_ge i s.atoms.length with hlt|hge
  ·have hx:=nY hlt
   have hm:=hck i hlt
   have hm':(bif et p s.atoms i then v (s.atoms.getD i 0).toNat==3 else false)=true:=hm
   have hA:=jZ (lI hm)
   refine vcR [] (lkL [(4,[2,3,4,17,18,19,20]),(5,[2,3,4,5,6,17,18,19]),(6,[2,3,4,6,17,18,19]),(7,[2,3,4,17,18,19]),(8,[2,3,4,17,18,19])]) (lkL [(6,[(7,ROrc.pcall (AV.bool (decide (0<=List.getD s.atoms i 0/\List.getD s.atoms i 0<=p.atoms-1)))),(29,ROrc.kop (i6 (v (Int.toNat (List.getD s.atoms i 0))))),(32,ROrc.pcall (tup 0 (nth [])))]),(7,[(2,ROrc.pcall (int u64 (↑(2^Int.toNat (List.getD s.atoms i 0)):Int))),(4,ROrc.val (Orc.obj (nth [int u64 (IntKind.wrap u64 (↑(BitVec.toNat (BitVec.ofInt 64 (↑(aH (List.take i s.atoms)):Int)|||BitVec.ofInt 64 (↑(2^Int.toNat (List.getD s.atoms i 0)):Int))):Int))])))])]) (fun Q=>(fun (u1:Int)=>(fun (u2:Bool)=>(fun (u3:List AObj)=>(fun (u4:Int)=>(fun (u5:AV)=>(fun (u6:Nat)=>(fun (u7:Bool)=>(fun (u8:Option (List Nat))=>(fun (u9:Int)=>(fun (u10:Int)=>(fun (u11:Option (Nat × Bool))=>(fun (u12:AV)=>(decide (u4<u10)=true->(0<=u4/\u4<u10)/\i+1<=u6*1/\1<=1/\1<=27/\(-9223372036854775808<=p.atoms-1/\p.atoms-1<=9223372036854775807)/\(∀(hp:List AObj) (g:R.σ),true=true/\Does Tryd.prog R 58 [u12,i6 0,i6 (p.atoms-1)] hp g (ret (AV.bool u7)) hp g)/\((u7 && !u4==0)=true->2<=2)/\((u7 && !u4==0)=true -> -9223372036854775808<=u4-1/\u4-1<=9223372036854775807)/\((u7 && !u4==0)=true->0<=u4-1/\u4-1<u10)/\((u7 && !u4==0)=true->Int.toNat (u4-1)+1<=u6*1)/\(u2=true->1<=1)/\(u2=true->0<=u1/\u1<(↑24:Int))/\(u2=true->OpOk Tryd.prog R (Oper.mk (some 53) (Op.load 43 (Operand.tmp 52)) 43 "table.go:155" #[Edge.mk 28 Ground.data,Edge.mk 23 Ground.guard] (some (23,true))) (evO [Row.mk (some 52) (some (23,true)) (ref 0 (Int.toNat u1+2)) false u8 [],Row.mk (some 51) (some (23,true)) (ref 0 2) false u8 [],Row.mk (some 50) (some (23,true)) (ref 0 0) false u8 [],Row.mk (some 49) (some (23,true)) u12 false u8 [],Row.mk (some 48) (some (23,true)) (ref 0 0) false u8 [4],Row.mk (some 47) none (AV.bool u2) false u8 [],Row.mk (some 46) none (AV.bool u2) false u8 [],Row.mk (some 45) (some (8,true)) (AV.bool (bif u4==0 then true else decide (u1 > u9))) false u8 [],Row.mk (some 44) u11 (AV.bool (decide (u1 > u9))) false u8 [],Row.mk (some 43) u11 (af s.atoms (Int.toNat (u4-1))) false u8 [2],Row.mk (some 42) u11 (ref 2 (Int.toNat (u4-1))) false u8 [],Row.mk (some 41) u11 (i6 (u4-1)) false u8 [],Row.mk (some 40) u11 (i6 u4) false u8 [],Row.mk (some 39) u11 (ow true 2 u6 1) false u8 [3],Row.mk (some 38) u11 (ref 3 1) false u8 [],Row.mk (some 37) u11 (ref 3 0) false u8 [],Row.mk (some 36) u11 u12 false u8 [],Row.mk (some 35) (some (8,true)) (AV.bool (u4==0)) false u8 [],Row.mk (some 34) (some (8,true)) (AV.bool (u4==0)) false u8 [],Row.mk (some 33) (some (8,true)) (i6 u4) false u8 [],Row.mk (some 32) none (AV.bool u7) false u8 [],Row.mk (some 31) none (AV.bool u7) false u8 [],Row.mk (some 30) none (i6 (p.atoms-1)) false u8 [],Row.mk (some 29) none (i6 p.atoms) false u8 [0],Row.mk (some 28) none (ref 0 0) false u8 [],Row.mk (some 27) none (ref 0 0) false u8 [],Row.mk (some 26) none (ref 0 0) false u8 [],Row.mk (some 25) none (ref 0 0) false u8 [4],Row.mk (some 24) none u12 false u8 []] [(2,ref 3 0),(3,ref 4 0),(4,ref 5 0),(5,i6 u4),(6,u12),(17,ow true 2 u6 1),(18,i6 u10),(19,i6 u4)] [(23,true)]) u3 g (i6 (v (Int.toNat u1))) u3 g)/\(∀(hp:List AObj) (g:R.σ),true=true/\Does Tryd.prog R 140 [AV.bool (bif u2 then v (Int.toNat u1)==3 else false)] hp g (ret (tup 0 (nth []))) hp g)/\Flw Tryd.prog/\1<=1/\(∀(hp:List AObj) (g:R.σ),true=true/\Does Tryd.prog R 79 [u12] hp g (ret (int u64 (↑(2^Int.toNat u1):Int))) hp g)/\1<=1/\(∀(c:Nat),c<1->nth [u5] c=ao (fun (x:Nat)=>int u64 (↑(aH (List.take i s.atoms)):Int)) 0 1 (fun (x:Nat)=>u5) c)/\(-9223372036854775808<=u4+1/\u4+1<=9223372036854775807)/\Q AEx.normal (St.mk [(2,ref 3 0),(3,ref 4 0),(4,ref 5 0),(17,ow true 2 u6 1),(18,i6 u10),(19,i6 (u4+1))] [cO 27 (ad p v (AV.mp 1)),AObj.map es,cO (u6*1) fun a=>af s.atoms a,cO 2 (nth [i6 s.rule,ow true 2 u6 1]),cO 1 fun x=>ref 0 0,cO 1 (nth [u5])] g))/\(decide (u4<u10)=false->Q (AEx.exit 0) (St.mk [(2,ref 3 0),(3,ref 4 0),(4,ref 5 0),(17,ow true 2 u6 1),(18,i6 u10),(19,i6 u4),(20,AV.bool (decide (u4<u10)))] u3 g))) (af s.atoms i)) (some (11,false))) ((↑u6:Int))) (List.getD s.atoms (Int.toNat (u4-1)) 0)) (some [])) (decide (0<=u1/\u1<=p.atoms-1))) (List.length s.atoms)) (int u64 (IntKind.wrap u64 (↑(BitVec.toNat (BitVec.ofInt 64 (↑(aH (List.take i s.atoms)):Int)|||BitVec.ofInt 64 (↑(2^Int.toNat u1):Int))):Int)))) ((↑i:Int))) ([cO 27 (ad p v (AV.mp 1)),AObj.map es,cO (List.length s.atoms*1) fun a=>af s.atoms a,cO 2 (nth [i6 s.rule,ow true 2 (List.length s.atoms) 1]),cO 1 fun x=>ref 0 0,cO 1 fun x=>int u64 (↑(aH (List.take i s.atoms)):Int)])) (bif decide (0<=u1/\u1<=p.atoms-1) then bif (↑i:Int)==0 then true else decide (u1 > List.getD s.atoms (Int.toNat ((↑i:Int)-1)) 0) else false)) (List.getD s.atoms i 0)) ⟨fun c1=>have c1:(↑i:Int)<(↑(List.length s.atoms):Int):=(of_decide_eq_true c1);⟨omg,omg,omg,omg,omg,(fun _ _=>⟨rfl,(dv _ _ _ _ _ _)⟩),omg,omg,(by intro h;simp at h <;> omega),omg,omg,omg,?_,(fun _ _=>⟨rfl,(dQ _ _ (by assumption) _ _)⟩),krf,omg,(fun _ _=>⟨rfl,(d6 _ _ omg _ _)⟩),omg,(fun c hc=>match c,hc with|0,_=>krf ),omg,?_⟩,fun c1=>have c1:¬(↑i:Int)<(↑(List.length s.atoms):Int):=(of_decide_eq_false c1);?_⟩
   ·intro _
    exact dY rfl rfl krf rfl (by show _+1<=27;omega) (d5 omg omg)
   ·refine(aW (i+1) (toL (h1:=⟨AM _,AM _,AM _,AM _,AM _,(AN krf),trivial⟩) (h2:=⟨AO,rfl,AO,AO,AO,⟨rfl,Nat.le_refl _,fun j hj=>match j,hj with|0,_=>(AN ?_) ⟩,trivial⟩)) ?_ ?_)
    ·show AV.int .u64 _=AV.int .u64 _
     congr 1
     rw[hx]
     exact Tb.u64_or (bG h2) (bG (Nat.pow_lt_pow_right dcd omg))
    ·refine⟨omg,?_⟩
     rw[hx]
     exact Nat.or_lt_two_pow h2 (Nat.pow_lt_pow_right dcd omg)
    ·omega
   all_goals (exfalso;omega)
  ·have hi':i=s.atoms.length:=by omega
   subst hi'
   rw[List.take_length] at h2 ⊢
   obtain⟨S,hS⟩:∃S,aH s.atoms=S:=⟨_,rfl⟩
   rw[hS] at h2 hns ⊢
   have hseq:=lz S h2
   obtain⟨l,hle⟩:∃l,ak S=l:=⟨_,rfl⟩
   rw[hle] at hseq
   have hb:decide ((s.atoms.length:Int)<(s.atoms.length:Int))=false:=decide_eq_false omg
   refine vcR [[1,1,1,0,1,0,0,1,0,0]] (lkL [(4,[2,3,4,17,18,19,20])]) (fun _=>[]) (fun Q=>(fun (u1:Int)=>(fun (u2:St R.σ)=>(decide (u1<u1)=true->WpC Tryd.prog R 79 3 139 [1,1,1,0,1,0,0,1,0,0] Q [Kont.seq [1,1,1,0,1,0,0,1,1]] u2)/\(decide (u1<u1)=false->Q (AEx.exit 0) u2)) (St.mk [(2,ref 3 0),(3,ref 4 0),(4,ref 5 0),(17,ow true 2 (List.length s.atoms) 1),(18,i6 u1),(19,i6 u1),(20,AV.bool (decide (u1<u1)))] [cO 27 (ad p v (AV.mp 1)),AObj.map es,cO (List.length s.atoms*1) fun a=>af s.atoms a,cO 2 (nth [i6 s.rule,ow true 2 (List.length s.atoms) 1]),cO 1 fun x=>ref 0 0,cO 1 fun x=>int u64 (↑S:Int)] g)) ((↑(List.length s.atoms):Int))) ⟨fun hcc=>(nomatch (hb.symm.trans hcc)),fun _=>?_⟩
   refine⟨_,A0 _,vcR [] (lkL [(9,[3,4,63])]) (lkL [(9,[(1,ROrc.call (fn 105 0 (nth []) 1 (nth [ref (List.length [cO 27 (ad p v (AV.mp 1)),AObj.map es,cO (List.length s.atoms*1) fun (a:Nat)=>af s.atoms a,cO 2 (nth [i6 s.rule,ow true 2 (List.length s.atoms) 1]),cO 1 fun (x:Nat)=>ref 0 0,cO 1 fun (x:Nat)=>int u64 (↑S:Int)]) 0])) ([cO 27 (ad p v (AV.mp 1)),AObj.map es,cO (List.length s.atoms*1) fun (a:Nat)=>af s.atoms a,cO 2 (nth [i6 s.rule,ow true 2 (List.length s.atoms) 1]),cO 1 fun (x:Nat)=>ref 0 0,cO 1 fun (x:Nat)=>int u64 (↑S:Int)]++[cO 1 fun (x:Nat)=>int u64 (↑S:Int)]) g)])]) (fun Q=>(fun (u1:List AObj)=>1<=1/\(true=true/\Does Tryd.prog R 77 [int u64 (↑S:Int)] [cO 27 (ad p v (AV.mp 1)),AObj.map es,cO (List.length s.atoms*1) fun a=>af s.atoms a,cO 2 (nth [i6 s.rule,ow true 2 (List.length s.atoms) 1]),cO 1 fun x=>ref 0 0,cO 1 fun x=>int u64 (↑S:Int)] g (ret (fn 105 0 (nth []) 1 (nth [ref 6 0]))) u1 g)/\WpC Tryd.prog R 79 3 139 [1,1,1,1,0,1,0] Q [Kont.blk 2,Kont.seq [1,1,1,1,1]] (St.mk [(3,ref 4 0),(4,ref 5 0),(63,fn 105 0 (nth []) 1 (nth [ref 6 0]))] u1 g)) ([cO 27 (ad p v (AV.mp 1)),AObj.map es,cO (List.length s.atoms*1) fun a=>af s.atoms a,cO 2 (nth [i6 s.rule,ow true 2 (List.length s.atoms) 1]),cO 1 fun x=>ref 0 0,cO 1 fun x=>int u64 (↑S:Int),cO 1 fun x=>int u64 (↑S:Int)])) ⟨omg,⟨rfl,(cQ _ _ _ _)⟩,?_⟩⟩
   have hin:∀k,k<l.length->l.getD k 0<24:=fun k hk=>by
    have h:=bx l 0 hk
    have h':l.getD k 0∈ak S:=by rw[hle];exact h
    exact(Tb.mem_memN.1 h').1
   have hns':∀k,k<l.length->(ofH p.rules.l (l.getD k 0)).any (a8 v S)=false:=fun k hk=>by
    unfold dg at hns
    rw[hle,Bool.not_eq_true'] at hns
    have:=List.any_eq_false.1 hns _ (bx l 0 hk)
    cases h:(ofH p.rules.l (l.getD k 0)).any (a8 v S) with
    |false=>rfl
    |true=>exact absurd h this
   refine iA 63 [64] 6 krf rfl rfl rfl hseq (fun _=>rfl) krf (fun _=>⟨trivial,trivial⟩)
    (fun _=>none) (fun _=>rfl)
    (fun _=>[cO 27 (ad p v (.mp 1)),.map es,cO (s.atoms.length*1) (af s.atoms),cO 2 (nth [.int .i64 s.rule,.ow true 2 s.atoms.length 1]),cO 1 (fun _=>.ref 0 0),cO 1 (fun _=>.int .u64 S)])
    (fun _=>g) (fC rfl rfl) (fun _=>rfl) (by exact⟨omg,omg,omg,omg,omg,omg,trivial⟩) (by exact⟨fun j _=>aZ _ _ 4 _,trivial,fun _ _=>trivial,fun j hj=>(match j,hj with|0,_=>trivial|1,_=>(show 2<6 by omega)),fun _ _=>show 0<6 by omega,fun _ _=>trivial,trivial⟩) (by exact⟨fun _ _=>trivial,trivial⟩) [3,4] (by exact⟨show 4<6 by omega,show 5<6 by omega,trivial⟩) (fun k l' hk hjk=>?_) (fun _=>?_) (fun k hk hj hr=>by cases hr) (fun k id hk hj hr=>by cases hr)
   ·refine vcR [] (lkL [(10,[3,4,7])]) (fun _=>[]) (fun (Q:AEx->St R.σ->Prop)=>Q AEx.normal (St.mk [(3,ref 4 0),(4,ref 5 0),(7,i6 (↑(List.getD l k 0):Int))] [cO 27 (ad p v (AV.mp 1)),AObj.map es,cO (List.length s.atoms*1) fun (a:Nat)=>af s.atoms a,cO 2 (nth [i6 s.rule,ow true 2 (List.length s.atoms) 1]),cO 1 fun (x:Nat)=>ref 0 0,cO 1 fun (x:Nat)=>int u64 (↑S:Int)] g)) (?_)
    show Wp _ _ _ 6 _ _ _ _ _
    obtain⟨a,ha⟩:∃a,l.getD k 0=a:=⟨_,rfl⟩
    have ha24:a<24:=by rw[<-ha];exact hin k hk
    have hm:(!(ofH p.rules.l a).any (a8 v S))=true:=by rw[<-ha,hns' k hk];rfl
    rw[ha]
    refine vcR [] (lkL [(11,[3,4])]) (lkL [(11,[(3,ROrc.kcall (AV.bool (List.any (ofH p.rules.l (↑a:Int)) (a8 v S)))),(5,ROrc.pcall (tup 0 (nth [])))])]) (fun Q=>(fun (u1:List AObj)=>1<=1/\1<=1/\(true=true/\Does Tryd.prog R 115 [ref 0 0,i6 (↑a:Int),int u64 (↑S:Int)] u1 g (ret (AV.bool (List.any (ofH p.rules.l (↑a:Int)) (a8 v S)))) u1 g)/\(∀(hp:List AObj) (g:R.σ),true=true/\Does Tryd.prog R 140 [AV.bool !List.any (ofH p.rules.l (↑a:Int)) (a8 v S)] hp g (ret (tup 0 (nth []))) hp g)/\Q AEx.normal (St.mk [(3,ref 4 0),(4,ref 5 0)] u1 g)) ([cO 27 (ad p v (AV.mp 1)),AObj.map es,cO (List.length s.atoms*1) fun a=>af s.atoms a,cO 2 (nth [i6 s.rule,ow true 2 (List.length s.atoms) 1]),cO 1 fun x=>ref 0 0,cO 1 fun x=>int u64 (↑S:Int)])) ⟨omg,omg,⟨rfl,(doT (T:=LT) [0,1] 6 (fun R _ g=>jY R (p) (v) (es) (S) (a) omg omg omg omg omg g))⟩,(fun _ _=>⟨rfl,(dQ _ _ omg _ _)⟩),?_⟩
    refine(eE rfl (aY trivial rfl rfl))
   ·show Wp _ _ _ 3 _ _ _ _ _
    refine cp (gD 6 omg [3,4] (by exact⟨show 4<6 by omega,show 5<6 by omega,fun j _=>aZ _ _ 4 _,fun _ _=>trivial,fun j hj=>(match j,hj with|0,_=>trivial|1,_=>(show 2<6 by omega)),fun _ _=>show 0<6 by omega,fun _ _=>trivial,trivial⟩)) ?_
    refine vcR [] (lkL [(12,[3,72])]) (lkL [(12,[(1,ROrc.call (fn 105 0 (nth []) 1 (nth [ref (List.length [cO 27 (ad p v (AV.mp 1)),AObj.map es,cO (List.length s.atoms*1) fun (a:Nat)=>af s.atoms a,cO 2 (nth [i6 s.rule,ow true 2 (List.length s.atoms) 1]),cO 1 fun (x:Nat)=>ref 0 0,cO 1 fun (x:Nat)=>int u64 (↑S:Int)]) 0])) ([cO 27 (ad p v (AV.mp 1)),AObj.map es,cO (List.length s.atoms*1) fun (a:Nat)=>af s.atoms a,cO 2 (nth [i6 s.rule,ow true 2 (List.length s.atoms) 1]),cO 1 fun (x:Nat)=>ref 0 0,cO 1 fun (x:Nat)=>int u64 (↑S:Int)]++[cO 1 fun (x:Nat)=>int u64 (↑S:Int)]) g)])]) (fun Q=>(fun (u1:List AObj)=>1<=1/\(true=true/\Does Tryd.prog R 77 [int u64 (↑S:Int)] [cO 27 (ad p v (AV.mp 1)),AObj.map es,cO (List.length s.atoms*1) fun a=>af s.atoms a,cO 2 (nth [i6 s.rule,ow true 2 (List.length s.atoms) 1]),cO 1 fun x=>ref 0 0,cO 1 fun x=>int u64 (↑S:Int)] g (ret (fn 105 0 (nth []) 1 (nth [ref 6 0]))) u1 g)/\WpC Tryd.prog R 79 3 139 [1,1,1,1,1,1,0] Q [Kont.blk 4] (St.mk [(3,ref 4 0),(72,fn 105 0 (nth []) 1 (nth [ref 6 0]))] u1 g)) ([cO 27 (ad p v (AV.mp 1)),AObj.map es,cO (List.length s.atoms*1) fun a=>af s.atoms a,cO 2 (nth [i6 s.rule,ow true 2 (List.length s.atoms) 1]),cO 1 fun x=>ref 0 0,cO 1 fun x=>int u64 (↑S:Int),cO 1 fun x=>int u64 (↑S:Int)])) ⟨omg,⟨rfl,(cQ _ _ _ _)⟩,?_⟩
    refine iA 72 [73] 6 krf rfl rfl rfl hseq (fun _=>rfl) krf (fun _=>⟨trivial,trivial⟩)
     (fun _=>none) (fun _=>rfl)
     (fun k=>[cO 27 (ad p (fun b=>if b∈l.take k then 1 else v b) (.mp 1)),.map es,cO (s.atoms.length*1) (af s.atoms),cO 2 (nth [.int .i64 s.rule,.ow true 2 s.atoms.length 1]),cO 1 (fun _=>.ref 0 0),cO 1 (fun _=>.int .u64 S)])
     (fun _=>g) (fC rfl rfl) (fun _=>rfl) (by exact⟨omg,omg,omg,omg,omg,omg,trivial⟩) (by exact⟨fun j _=>aZ _ _ 4 _,trivial,fun _ _=>trivial,fun j hj=>(match j,hj with|0,_=>trivial|1,_=>(show 2<6 by omega)),fun _ _=>show 0<6 by omega,fun _ _=>trivial,trivial⟩) (by exact⟨fun _ _=>trivial,trivial⟩) [3] (by exact⟨show 4<6 by omega,trivial⟩) (fun k l' hk hjk=>?_) (fun _=>?_) (fun k hk hj hr=>by cases hr) (fun k id hk hj hr=>by cases hr)
    ·refine vcR [] (lkL [(13,[3,8])]) (fun _=>[]) (fun (Q:AEx->St R.σ->Prop)=>Q AEx.normal (St.mk [(3,ref 4 0),(8,i6 (↑(List.getD l k 0):Int))] [cO 27 (ad p (fun (b:Nat)=>if b∈List.take k l then 1 else v b) (AV.mp 1)),AObj.map es,cO (List.length s.atoms*1) fun (a:Nat)=>af s.atoms a,cO 2 (nth [i6 s.rule,ow true 2 (List.length s.atoms) 1]),cO 1 fun (x:Nat)=>ref 0 0,cO 1 fun (x:Nat)=>int u64 (↑S:Int)] g)) (?_)
     show Wp _ _ _ 6 _ _ _ _ _
     obtain⟨a,ha⟩:∃a,l.getD k 0=a:=⟨_,rfl⟩
     have ha24:a<24:=by rw[<-ha];exact hin k hk
     rw[ha]
     have ho:ao (ad p (fun b=>if b∈l.take k then 1 else v b) (.mp 1)) (a+2) 1 (fun _=>.int .i64 1)=ad p (fun b=>if b∈l.take (k+1) then 1 else v b) (.mp 1):=by
      funext j
      rw[lH rfl ha24 (fun _=>.int .i64 1) rfl]
      congr 1
      funext b
      unfold ck
      have e:l[k]=a:=by rw[<-ha,List.getD_eq_getElem?_getD,List.getElem?_eq_getElem hk];rfl
      have hmem:b∈l.take (k+1)↔b∈l.take k∨b=a:=by
       rw[List.take_add_one,List.mem_append,List.getElem?_eq_getElem hk,e]
       simp
      by_cases h1:b=a
      ·rw[if_pos h1,if_pos (hmem.2 (.inr h1))]
      ·rw[if_neg h1]
       by_cases h2:b∈l.take k
       ·exact(if_pos h2).trans (if_pos (hmem.2 (.inl h2))).symm
       ·exact(if_neg h2).trans (if_neg (fun h=>(hmem.1 h).elim h2 h1)).symm
     refine vcR [] (lkL []) (fun _=>[]) (fun Q=>1<=1/\(0<=(↑a:Int)/\(↑a:Int)<(↑24:Int))/\a+2+1<=27/\Q AEx.normal (St.mk [] [cO 27 (ao (ad p (fun (b:Nat)=>if b∈List.take k l then 1 else v b) (AV.mp 1)) (a+2) 1 fun x=>i6 1),AObj.map es,cO (List.length s.atoms*1) fun a=>af s.atoms a,cO 2 (nth [i6 s.rule,ow true 2 (List.length s.atoms) 1]),cO 1 fun x=>ref 0 0,cO 1 fun x=>int u64 (↑S:Int)] g)) ⟨omg,omg,omg,?_⟩
     refine(eE rfl (toL (h2:=⟨(AY (fun j hj=>?_)),rfl,AO,AO,AO,AO,trivial⟩)))
     rw[ho]
    ·have he:(fun b=>if b∈l.take l.length then(1:Int) else v b)=bI v S:=by
      funext b
      unfold bI
      rw[List.take_length,<-hle]
      by_cases hb:S.testBit b=true
      ·rw[if_pos hb,if_pos (Tb.mem_memN.2 ⟨gf h2 hb,hb⟩)]
      ·rw[if_neg hb,if_neg (fun h=>hb (Tb.mem_memN.1 h).2)]
     rw[he]
     refine(av (bZ 3 _ _ rfl trivial omg trivial ⟨(fun _ _=>(by first|exact trivial|apply aZ)),(fun _ _=>trivial),trivial⟩ krf rfl rfl) (AM _))
theorem r7 {p:Prg}{v:Nat->Int}:∀{l:List Nat} {s:Nat},s<2^24->(∀a,a∈l->a<24/\s.testBit a=true)->di p v s l=s->∀a,a∈l->(ofH p.rules.l (a:Int)).any (a8 v s)=false
 |[],_,_,_,_,_,h=>by cases h
 |a::l,s,hs,hl,he,b,hb=>by
  have he:di p v (if (ofH p.rules.l (a:Int)).any (a8 v s) then clr s a else s) l=s:=he
  cases hg:(ofH p.rules.l (a:Int)).any (a8 v s) with
  |true=>
   exfalso
   rw[if_pos hg] at he
   have h1:=iI (a:=a) hs
   have h2:=fI (p:=p) (v:=v) (l:=l) (Nat.lt_of_le_of_lt h1 hs)
   have h3:clr s a=s:=by omega
   have h4:=oe hs (hl a List.mem_cons_self).1 a
   rw[h3,(hl a List.mem_cons_self).2] at h4
   simp at h4
  |false=>
   rw[if_neg (by rw[hg];decide)] at he
   rcases List.mem_cons.1 hb with rfl|hb
   ·exact hg
   ·exact r7 hs (fun a ha=>hl a (List.mem_cons_of_mem _ ha)) he b hb
theorem r8 {p:Prg}{v:Nat->Int}:∀{n s:Nat},s<2^24->s<n->bR p v (d7 p v n s)=d7 p v n s/\d7 p v n s<=s
 |0,s,_,h=>by omega
 |n+1,s,hs,h=>by
  show bR p v (if bR p v s=s then s else _)=(if bR p v s=s then s else _)/\(if bR p v s=s then s else _)<=s
  have hle:bR p v s<=s:=fI hs
  by_cases he:bR p v s=s
  ·rw[if_pos he];exact⟨he,Nat.le_refl _⟩
  ·rw[if_neg he]
   have ih:=r8 (p:=p) (v:=v) (n:=n) (s:=bR p v s) omg omg
   exact⟨ih.1,Nat.le_trans ih.2 hle⟩
def ew (s t:Nat):Prop:=∀j,s.testBit j=true->t.testBit j=true
theorem yk {s a:Nat}(hs:s<2^24)(ha:a<24):ew (clr s a) s:=fun j h=>by
 rw[oe hs ha,Bool.and_eq_true] at h
 exact h.1
theorem oh {p:Prg}{v:Nat->Int}:∀{l:List Nat} {s:Nat},s<2^24->(∀a,a∈l->a<24)->ew (di p v s l) s
 |[],_,_,_=>fun _ h=>h
 |a::l,s,hs,hl=>by
  show ew (di p v (if (ofH p.rules.l (a:Int)).any (a8 v s) then clr s a else s) l) s
  split
  ·exact fun j h=>yk hs (hl a List.mem_cons_self) j (oh (Nat.lt_of_le_of_lt (iI hs) hs) (fun b hb=>hl b (List.mem_cons_of_mem _ hb)) j h)
  ·exact oh hs (fun b hb=>hl b (List.mem_cons_of_mem _ hb))
theorem iJ {s a:Nat}(h:a∈ak s):a<24:=(Tb.mem_memN.1 h).1
theorem r9 {p:Prg}{v:Nat->Int}:∀{n s:Nat},s<2^24->ew (d7 p v n s) s
 |0,_,_=>fun _ h=>h
 |n+1,s,hs=>by
  show ew (if bR p v s=s then s else d7 p v n (bR p v s)) s
  split
  ·exact fun _ h=>h
  ·exact fun j h=>oh hs (fun a ha=>iJ ha) j (r9 (Nat.lt_of_le_of_lt (fI hs) hs) j h)
theorem gi (v:Nat->Int)(x:Int)(n j:Nat):(aG v x n).testBit j=(decide (j<n)&&decide (v j=x)):=by
 induction n with
 |zero=>simp[aG]
 |succ n ih=>
  rw[iG]
  by_cases h:v n=x
  ·rw[if_pos h,Nat.testBit_or,ih,Nat.testBit_two_pow,Bool.eq_iff_iff]
   simp only[Bool.or_eq_true,Bool.and_eq_true,decide_eq_true_eq]
   constructor
   ·rintro (⟨h1,h2⟩|h1)
    ·exact⟨omg,h2⟩
    ·subst h1;exact⟨omg,h⟩
   ·rintro ⟨h1,h2⟩
    rcases Nat.lt_or_ge j n with h3|h3
    ·exact .inl ⟨h3,h2⟩
    ·exact .inr omg
  ·rw[if_neg h,ih,Bool.eq_iff_iff]
   simp only[Bool.and_eq_true,decide_eq_true_eq]
   constructor
   ·rintro ⟨h1,h2⟩;exact⟨omg,h2⟩
   ·rintro ⟨h1,h2⟩
    refine⟨?_,h2⟩
    rcases Nat.lt_or_ge j n with h3|h3
    ·exact h3
    ·exact absurd (by rw[show n=j by omega];exact h2) h
theorem iK {v:Nat->Int}{x:Int}{n:Nat}(h:n<=24):aG v x n<2^24:=Nat.lt_of_lt_of_le (lE v x n) (Nat.pow_le_pow_right dcd h)
def bA (p:Prg):Prop:=1<=p.atoms/\p.atoms<=24
theorem gj {p:Prg}(v:Nat->Int)(hp:bA p):bR p v (gre p v)=gre p v/\ew (gre p v) (aG v 3 p.atoms.toNat)/\gre p v<2^24:=by
 have hp:=hp.2
 have hs:aG v 3 p.atoms.toNat<2^24:=iK omg
 have h:=r8 (p:=p) (v:=v) (n:=2^24+1) hs omg
 exact⟨h.1,r9 hs,Nat.lt_of_le_of_lt h.2 hs⟩
theorem oi {p:Prg}(v:Nat->Int)(hp:bA p):dg p v (gre p v)=true:=by
 obtain⟨h1,h2,h3⟩:=gj v hp
 unfold dg
 rw[Bool.not_eq_true',List.any_eq_false]
 intro a ha
 have:=r7 h3 (fun a ha=>Tb.mem_memN.1 ha) h1 a ha
 rw[this]
 decide
theorem sa (l:List Int)(j:Nat):(aH l).testBit j=l.any (fun a=>a.toNat==j):=by
 have key:∀(l:List Int) (s:Nat),(l.foldl (fun s a=>s|||2^a.toNat) s).testBit j=(s.testBit j||l.any (fun a=>a.toNat==j)):=by
  intro l
  induction l with
  |nil=>intro s;simp
  |cons a l ih=>
   intro s
   rw[List.foldl_cons,ih,Nat.testBit_or,Nat.testBit_two_pow,List.any_cons,Bool.or_assoc]
   rfl
 unfold aH
 rw[key]
 simp
theorem lS {s:Nat}{a:Int}:a∈bo s↔0<=a/\a<24/\s.testBit a.toNat=true:=by
 unfold bo
 rw[List.mem_map]
 constructor
 ·rintro ⟨n,hn,rfl⟩
  have:=Tb.mem_memN.1 hn
  exact⟨omg,omg,by simpa using this.2⟩
 ·rintro ⟨h1,h2,h3⟩
  exact⟨a.toNat,Tb.mem_memN.2 ⟨omg,h3⟩,omg⟩
theorem iM {s:Nat}(hs:s<2^24):aH (bo s)=s:=by
 refine Nat.eq_of_testBit_eq fun j=>?_
 rw[sa,Bool.eq_iff_iff,List.any_eq_true]
 constructor
 ·rintro ⟨a,ha,hj⟩
  have:=lS.1 ha
  rw[beq_iff_eq] at hj
  rw[<-hj]
  exact this.2.2
 ·intro h
  have hj:=gf hs h
  exact⟨(j:Int),lS.2 ⟨omg,omg,by simpa using h⟩,by simp⟩
theorem sb {s i j:Nat}(hij:i<j)(hj:j<(ak s).length):(ak s).getD i 0<(ak s).getD j 0:=by
 have hp:(ak s).Pairwise (·<·):=(List.pairwise_lt_range (n:=24)).sublist List.filter_sublist
 rw[List.pairwise_iff_getElem] at hp
 have:=hp i j omg hj hij
 rw[List.getD_eq_getElem?_getD,List.getD_eq_getElem?_getD,List.getElem?_eq_getElem hj,List.getElem?_eq_getElem (by omega:i<(ak s).length)]
 exact this
theorem sc {p:Prg}{v:Nat->Int}{s:Nat}(hp:bA p)(h0:s≠0)(hs:s<2^24)(h:ew s (aG v 3 p.atoms.toNat)):cV p v (bo s)=true:=by
 unfold cV
 rw[Bool.and_eq_true,List.all_eq_true]
 constructor
 ·rw[decide_eq_true_eq,fJ]
  rcases Nat.eq_zero_or_pos (ak s).length with h|h
  ·exact absurd (Tb.zero_of_mem hs (List.length_eq_zero_iff.1 h)) h0
  ·exact h
 ·intro i hi
  have hi:=List.mem_range.1 hi
  rw[fJ] at hi
  have hm:=Tb.mem_memN.1 (show(ak s).getD i 0∈ak s from bx _ 0 hi)
  have hb:=h _ hm.2
  rw[gi,Bool.and_eq_true,decide_eq_true_eq,decide_eq_true_eq] at hb
  have hpos:et p (bo s) i=true:=by
   unfold et
   rw[gS]
   rw[decide_eq_true omg]
   show(bif (i:Int)==0 then true else _)=true
   cases hz:((i:Int)==0) with
   |true=>rfl
   |false=>
    have hz:(i:Int)≠0:=by simpa using hz
    show decide _=true
    rw[decide_eq_true_eq,gS]
    have:=sb (s:=s) (i:=i-1) (j:=i) omg hi
    rw[show((i:Int)-1).toNat=i-1 by omega]
    omega
  unfold eI
  rw[hpos,gS]
  show(v _==3)=true
  rw[beq_iff_eq]
  simpa using hb.2
def ba (v:Nat->Int)(s:Stp):Nat->Int:=if s.rule = -1 then bI v (aH s.atoms) else ck v (s.atoms.getD 0 0).toNat 2
theorem gk {U:Type}(q:U->Bool)(d:U):∀(l:List U) (i:Nat),0<=aC q l i->∃k,k<l.length/\aC q l i=(i+k:Nat)/\q (l.getD k d)=true/\∀j,j<k->q (l.getD j d)=false
 |[],_,h=>by exact absurd h (by show ¬(0:Int) <= -1;omega)
 |x::r,i,h=>by
  unfold aC at h ⊢
  cases hq:q x with
  |true=>exact⟨0,by simp,by simp,by simpa using hq,fun j hj=>absurd hj omg⟩
  |false=>
   rw[hq] at h
   obtain⟨k,h1,h2,h3,h4⟩:=gk q d r (i+1) (by simpa using h)
   refine⟨k+1,by simp;omega,?_,by simpa using h3,fun j hj=>?_⟩
   ·simp only[Bool.false_eq_true,if_false]
    rw[h2];congr 1;omega
   ·cases j with
    |zero=>simpa using hq
    |succ j=>simpa using h4 j omg
theorem lT {U:Type}(q:U->Bool):∀(l:List U) (i:Nat),¬0<=aC q l i->aC q l i = -1/\∀x,x∈l->q x=false
 |[],_,_=>⟨rfl,fun x h=>by cases h⟩
 |x::r,i,h=>by
  unfold aC at h ⊢
  cases hq:q x with
  |true=>rw[hq] at h;exact absurd (by simp) h
  |false=>
   rw[hq] at h
   have:=lT q r (i+1) (by simpa using h)
   refine⟨by simpa using this.1,fun y hy=>?_⟩
   rcases List.mem_cons.1 hy with rfl|hy
   ·exact hq
   ·exact this.2 y hy
theorem ol {p:Prg}{v:Nat->Int}(hr:∀r,r∈p.rules.l->aE r)(h:0<=a9 p v):cH p v (eJ (aj p v))=true/\ba v (aj p v)=er p v (eJ (aj p v))/\0<=(aj p v).rule/\aS p v=true:=by
 obtain⟨k,h1,h2,h3,_⟩:=gk (cX v) default p.rules.l 0 h
 have hf:a9 p v=k:=by unfold a9;rw[h2];simp
 have hn:aj p v=⟨a9 p v,[(p.rules.l.getD (a9 p v).toNat default).head]⟩:=if_pos h
 have hk:(a9 p v).toNat=k:=by omega
 unfold cX at h3
 rw[Bool.and_eq_true] at h3
 refine⟨?_,?_,?_,?_⟩
 ·rw[hn]
  unfold cH eJ
  simp only[Bool.and_eq_true,beq_iff_eq,decide_eq_true_eq]
  rw[hk]
  exact⟨omg,rfl,rfl,by simpa using h3.1,h3.2⟩
 ·rw[hn]
  unfold ba
  rw[if_neg (by show ¬a9 p v = -1;omega)]
  rfl
 ·rw[hn];exact h
 ·unfold aS
  rw[decide_eq_true h];rfl
theorem iN {p:Prg}{v:Nat->Int}(hp:bA p)(h:¬0<=a9 p v)(hb:aS p v=true):aj p v=⟨-1,bo (gre p v)⟩/\cV p v (aj p v).atoms=true/\dg p v (aH (aj p v).atoms)=true/\ba v (aj p v)=bI v (aH (aj p v).atoms)/\gre p v≠0:=by
 have hn:aj p v=⟨-1,bo (gre p v)⟩:=if_neg h
 have h0:gre p v≠0:=by
  unfold aS at hb
  rw[decide_eq_false h] at hb
  simpa using hb
 obtain⟨g1,g2,g3⟩:=gj v hp
 refine⟨hn,?_,?_,?_,h0⟩
 ·rw[hn];exact sc hp h0 g3 g2
 ·rw[hn]
  show dg p v (aH (bo (gre p v)))=true
  rw[iM g3]
  exact oi v hp
 ·unfold ba
  rw[if_pos (by rw[hn])]
theorem ym {p:Prg}{v:Nat->Int}(hb:aS p v=false):¬0<=a9 p v/\gre p v=0:=by
 unfold aS at hb
 rw[Bool.or_eq_false_iff,decide_eq_false_iff_not] at hb
 exact⟨hb.1,by simpa using hb.2⟩
def cq (p:Prg)(v:Nat->Int):Nat:=((List.range p.atoms.toNat).filter (fun a=>v a==3)).length
theorem lU {U:Type}{q q':U->Bool}:∀{l:List U},(∀a,a∈l->q' a=true->q a=true)->(l.filter q').length<=(l.filter q).length
 |[],_=>Nat.le_refl _
 |y::l,hsub=>by
  have ih:=lU (q:=q) (q':=q') (l:=l) (fun a ha=>hsub a (List.mem_cons_of_mem _ ha))
  rw[List.filter_cons,List.filter_cons]
  cases hy':q' y with
  |true=>rw[hsub y (by simp) hy'];simpa using ih
  |false=>cases q y <;> simp <;> omega
theorem j4 {U:Type}{q q':U->Bool}:∀{l:List U},(∀a,a∈l->q' a=true->q a=true)->(∃a,a∈l/\q a=true/\q' a=false)->(l.filter q').length<(l.filter q).length
 |[],_,⟨a,h,_⟩=>by cases h
 |x::l,hsub,⟨a,ha,h1,h2⟩=>by
  have hle:(l.filter q').length<=(l.filter q).length:=lU (fun a ha=>hsub a (List.mem_cons_of_mem _ ha))
  rw[List.filter_cons,List.filter_cons]
  rcases List.mem_cons.1 ha with rfl|ha
  ·rw[h1,h2];simp;omega
  ·have ih:=j4 (q:=q) (q':=q') (l:=l) (fun a ha=>hsub a (List.mem_cons_of_mem _ ha)) ⟨a,ha,h1,h2⟩
   cases hx':q' x with
   |true=>rw[hsub x (by simp) hx'];simpa using ih
   |false=>cases q x <;> simp <;> omega
theorem yn {p:Prg}{v w:Nat->Int}(hsub:∀a,w a=3->v a=3)(h:∃a:Nat,(a:Int)<p.atoms/\v a=3/\w a≠3):cq p w<cq p v:=by
 obtain⟨a,h1,h2,h3⟩:=h
 refine j4 (fun b _ hb=>?_) ⟨a,List.mem_range.2 omg,by simpa using h2,by simpa using h3⟩
 have:w b=3:=by simpa using hb
 simpa using hsub b this
theorem j5 (p:Prg)(v:Nat->Int):cq p v<=p.atoms.toNat:=by
 unfold cq
 exact Nat.le_trans (List.length_filter_le _ _) (by rw[List.length_range];exact Nat.le_refl _)
def cl (p:Prg):Prop:=∀r,r∈p.rules.l->r.head<p.atoms
theorem sd {p:Prg}{v:Nat->Int}(hp:bA p)(hr:∀r,r∈p.rules.l->aE r)(hh:cl p)(hb:aS p v=true):(∀a,ba v (aj p v) a=3->v a=3)/\∃a:Nat,(a:Int)<p.atoms/\v a=3/\ba v (aj p v) a≠3:=by
 by_cases h:0<=a9 p v
 ·obtain⟨h1,h2,_,_⟩:=ol hr h
  unfold cH at h1
  simp only[Bool.and_eq_true,beq_iff_eq,decide_eq_true_eq] at h1
  obtain⟨k1,k2,k3,k4,k5⟩:=h1
  have hm:=bx p.rules.l default (show(eJ (aj p v)).rule.toNat<p.rules.l.length by omega)
  have h3:=(hr _ hm).2
  have h4:=hh _ hm
  rw[h2]
  unfold er ck
  refine⟨fun a ha=>?_,(p.rules.l.getD (eJ (aj p v)).rule.toNat default).head.toNat,omg,k4,?_⟩
  ·split at ha
   ·cases ha
   ·exact ha
  ·rw[if_pos rfl];decide
 ·obtain⟨h1,h2,h3,h4,h5⟩:=iN hp h hb
  obtain⟨g1,g2,g3⟩:=gj v hp
  rw[h4,h1]
  show(∀a,bI v (aH (bo (gre p v))) a=3->_)/\_
  rw[iM g3]
  unfold bI
  refine⟨fun a ha=>?_,?_⟩
  ·split at ha
   ·cases ha
   ·exact ha
  ·obtain⟨a,ha⟩:∃a,(gre p v).testBit a=true:=by
    obtain⟨k,m,h⟩:=Tb.low_of (show 0<gre p v by omega)
    exact⟨k,by rw[Tb.low_bit h];simp⟩
   have:=g2 a ha
   rw[gi,Bool.and_eq_true,decide_eq_true_eq,decide_eq_true_eq] at this
   refine⟨a,by have:=this.1;omega,this.2,?_⟩
   rw[if_pos ha];decide
theorem lV {p:Prg}{v:Nat->Int}(hp:bA p)(hr:∀r,r∈p.rules.l->aE r)(hh:cl p)(hb:aS p v=true):cq p (ba v (aj p v))<cq p v:=
 let ⟨h1,h2⟩:=sd hp hr hh hb
 yn h1 h2
theorem se {p:Prg}{v:Nat->Int}(hp:bA p)(hr:∀r,r∈p.rules.l->aE r)(hh:cl p):(∀a,a∈(aj p v).atoms->0<=a/\a<p.atoms)/\(aj p v).atoms.length<=24:=by
 by_cases h:0<=a9 p v
 ·obtain⟨k,h1,h2,_,_⟩:=gk (cX v) default p.rules.l 0 h
  have hn:aj p v=⟨a9 p v,[(p.rules.l.getD (a9 p v).toNat default).head]⟩:=if_pos h
  have hf:(a9 p v).toNat=k:=by unfold a9;rw[h2];simp
  have hm:=bx p.rules.l default h1
  rw[hn,hf]
  refine⟨fun a ha=>?_,by simp⟩
  have:a=(p.rules.l.getD k default).head:=by simpa using ha
  rw[this]
  exact⟨(hr _ hm).2.1,hh _ hm⟩
 ·have hn:aj p v=⟨-1,bo (gre p v)⟩:=if_neg h
  obtain⟨g1,g2,g3⟩:=gj v hp
  rw[hn]
  refine⟨fun a ha=>?_,?_⟩
  ·obtain⟨m1,m2,m3⟩:=lS.1 ha
   have:=g2 _ m3
   rw[gi,Bool.and_eq_true,decide_eq_true_eq] at this
   have:=this.1
   omega
  ·show(bo _).length<=24
   rw[fJ]
   exact gR _
def cI (p:Prg):Nat->(Nat->Int)->List Stp->List Stp × (Nat->Int)
 |0,v,l=>(l,v)
 |n+1,v,l=>if aS p v then cI p n (ba v (aj p v)) (l++[aj p v]) else(l,v)
def am (p:Prg):List Stp × (Nat->Int):=cI p 25 (fun _=>3) []
theorem om {p:Prg}(hp:bA p)(hr:∀r,r∈p.rules.l->aE r)(hh:cl p):∀(n:Nat) (v:Nat->Int) (l:List Stp),cq p (cI p n v l).2+(cI p n v l).1.length<=cq p v+l.length
 |0,_,_=>Nat.le_refl _
 |n+1,v,l=>by
  show cq p (if aS p v then cI p n (ba v (aj p v)) (l++[aj p v]) else(l,v)).2+(if aS p v then cI p n (ba v (aj p v)) (l++[aj p v]) else(l,v)).1.length<=_
  by_cases hb:aS p v=true
  ·rw[if_pos hb]
   have h1:=om hp hr hh n (ba v (aj p v)) (l++[aj p v])
   have h2:=lV hp hr hh hb
   rw[List.length_append,List.length_singleton] at h1
   omega
  ·rw[if_neg hb]
   exact Nat.le_refl _
theorem oo {p:Prg}(hp:bA p)(hr:∀r,r∈p.rules.l->aE r)(hh:cl p):(am p).1.length<=24:=by
 have h:=om hp hr hh 25 (fun _=>3) []
 have h2:=j5 p (fun _=>3)
 have h3:=hp.2
 have h4:(am p).1.length<=cq p (fun _=>3):=by
  show(cI p 25 (fun _=>3) []).1.length<=_
  simp only[List.length_nil] at h
  omega
 omega
end Go.Avm.Pack
