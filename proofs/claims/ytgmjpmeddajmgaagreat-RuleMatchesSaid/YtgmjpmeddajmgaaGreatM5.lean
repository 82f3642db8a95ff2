/- Part 5 of the proof: lemmas. -/
import Derived.Test.YtgmjpmeddajmgaaGreatM4
namespace Go.Proofs.YtgmjpmeddajmgaaGreat
open Go Go.Avm Go.Bvm
set_option maxRecDepth 100000
noncomputable section
def c0:Cf:=⟨Tryz.prog,drawsC Tryz.prog,fun _=>[],fun f=>Nat.beq f 126⟩
theorem c0_ok:CfOk c0:=⟨by kernel_rfl,by kernel_rfl,rfl,fun _ m hm=>(by cases hm)⟩
def pv:AV:=runV c0 45 []
theorem pv_does:∀(R:Res) (hp:List AObj) (g:R.σ),Does Tryz.prog R 45 [] hp g (.ret pv) hp g:=known_does c0_ok (by decide +kernel) (by decide +kernel)
def wA (x:AV)(j:Nat):AV:=AV.rec (motive:=fun _=>AV) .any (fun _=>.any) (fun _ _=>.any) (fun _=>.any) .any .any .any .any (fun _ _ _ _ _=>.any) (fun _ _ _=>.any) (fun _ _ _ _ _ _=>.any) (fun _ _ _ _=>.any) (fun _ _=>.any) (fun _=>.any) (fun _ _ _ _ _ _ _=>.any) (fun _ _ _=>.any) (fun _=>.any) (fun _ g _=>g j) (fun _ _ _=>.any) (fun _=>.any) x
def sg:AV:=.agg 2 fun j=>wA pv j
def cs1:AV:=runV c0 123 [sg]
theorem cs1_does:∀(R:Res) (hp:List AObj) (g:R.σ),Does Tryz.prog R 123 [sg] hp g (.ret cs1) hp g:=known_does c0_ok (by decide +kernel) (by decide +kernel)
def c1:Cf:=addK c0 123 [sg] cs1
theorem c1_ok:CfOk c1:=c0_ok.add cs1_does
def rv:AV:=runV c1 73 [pv]
theorem rv_does:∀(R:Res) (hp:List AObj) (g:R.σ),Does Tryz.prog R 73 [pv] hp g (.ret rv) hp g:=known_does c1_ok (by decide +kernel) (by decide +kernel)
def c2:Cf:=addK (addK c1 73 [pv] rv) 45 [] pv
theorem c2_ok:CfOk c2:=(c1_ok.add rv_does).add pv_does
end
end Go.Proofs.YtgmjpmeddajmgaaGreat
