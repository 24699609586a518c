/- Calls of the examples that are known. -/
import Derived.Test.YtgdbpnpolelfoaaGreatDoorAiD
import Derived.Test.YtgdbpnpolelfoaaGreatDoorTab
import Derived.KernelRfl
set_option linter.all false
namespace Go.AJ
open Go Go.Proofs
set_option maxRecDepth 100000
variable [BN]
theorem FnOK.upd {P : Program} {X : Cx} {t : T FnE} {f : Nat} {g : Eo} (h : ∀ k,FnOK P X k (T.get .no k t)) (hg : CZ P X f g) : ∀ k,FnOK P X k (T.get .no k (T.ins .no (.prim g) (K.of f) t)) := by
  intro k
  rw [T.get_ins]
  split
  · subst k
    exact FnOK.prim rfl hg
  · exact h k
noncomputable def pW : List V := [(.agg ([(vS 0 2 0),vZ,(vS 1 2 0),vZ,vZ]++xE 11 0 (vS 2 2 0)++xE 12 0 (vS 3 2 0)++[vZ,vZ,vZ,(vS 4 1 0),vZ,vZ,vZ,vF]))]
noncomputable def px : List (List V) := [[(.str [97]),(.str [98])],[(.str [120])]++xE 46 10 (vS 5 2 0)++[(.str [121])]++xE 22 0 (vS 6 2 0),xE 19 0 (vS 7 2 0)++xE 19 0 (vS 8 2 0),xE 11 0 (vS 9 2 0)++xE 11 0 (vS 10 3 0),xE 46 8 (vS 11 2 0),xL 1 0 2 0 vZ vE++xL 1 0 2 0 (vS 12 1 1) vE,xL 1 0 4 0 vZ (.str [97])++xL 1 0 4 0 vZ (.str [98]),xZ 2 0++xL 1 0 2 0 vZ vE,xZ 2 1++xL 1 0 4 0 vZ (.str [97]),xE 19 0 (vS 13 2 0)++xE 45 0 (vS 14 1 0),xE 19 0 (vS 15 2 0)++xE 19 0 (vS 16 2 0)++xE 19 0 (vS 17 2 0),xZ 2 0++xL 1 0 2 0 (vS 18 1 1) vE,[(vI 4)],xE 5 0 (vS 19 1 0)++xE 46 1 (vS 20 2 0),xZ 2 1,xZ 2 1++xL 1 0 4 0 vZ (.str [97]),xE 5 0 (vS 21 1 0)++xL 1 0 4 0 vZ (.str [98]),xE 5 0 (vS 22 1 0)++xL 1 0 2 0 vZ vE,[(vI 2)],xZ 2 0,xZ 2 0++xL 1 0 2 0 (vS 23 1 1) vE,xZ 2 1,xZ 2 0,[(vI 1)]]
noncomputable def oP : List (List V) := []
noncomputable def kR : V := (vI 0)
theorem AbP : Bt Ez 2000 100 71 px pW oP kR = true := by kernel_rfl
noncomputable def g71 : Eo := (En px pW oP kR)
theorem zB : CZ Tryz.prog Xz 71 g71 := (BC ES Em Ac5 AbP)
noncomputable def Aci : T FnE := (T.ins .no (.prim g71) (K.of 71) fnT)
noncomputable def EzA : Env := ⟨Aci⟩
theorem cO : ∀ k,FnOK Tryz.prog Xz k (T.get .no k Aci) := (FnOK.upd o9 zB)
theorem IQ : DB Tryz.prog Xz EzA := DB.of cO
end Go.AJ
namespace Go.AJ
open Go Go.Proofs
set_option maxRecDepth 100000
variable [BN]
noncomputable def pV : List V := [(.agg ([(vS 0 2 0),vZ,(vS 1 2 0),vZ,vZ]++xE 11 0 (vS 2 2 0)++xE 12 0 (vS 3 2 0)++[vZ,vZ,vZ,(vS 4 1 0),vZ,vZ,vZ,vF]))]
noncomputable def pw : List (List V) := [[(.str [97]),(.str [98])],[(.str [120])]++xE 46 10 (vS 5 2 0)++[(.str [121])]++xE 22 0 (vS 6 2 0),xE 19 0 (vS 7 2 0)++xE 19 0 (vS 8 2 0),xE 11 0 (vS 9 2 0)++xE 11 0 (vS 10 3 0),xE 46 8 (vS 11 2 0),xL 1 0 2 0 vZ vE++xL 1 0 2 0 (vS 12 1 1) vE,xL 1 0 4 0 vZ (.str [97])++xL 1 0 4 0 vZ (.str [98]),xZ 2 0++xL 1 0 2 0 vZ vE,xZ 2 1++xL 1 0 4 0 vZ (.str [97]),xE 19 0 (vS 13 2 0)++xE 45 0 (vS 14 1 0),xE 19 0 (vS 15 2 0)++xE 19 0 (vS 16 2 0)++xE 19 0 (vS 17 2 0),xZ 2 0++xL 1 0 2 0 (vS 18 1 1) vE,[(vI 4)],xE 5 0 (vS 19 1 0)++xE 46 1 (vS 20 2 0),xZ 2 1,xZ 2 1++xL 1 0 4 0 vZ (.str [97]),xE 5 0 (vS 21 1 0)++xL 1 0 4 0 vZ (.str [98]),xE 5 0 (vS 22 1 0)++xL 1 0 2 0 vZ vE,[(vI 2)],xZ 2 0,xZ 2 0++xL 1 0 2 0 (vS 23 1 1) vE,xZ 2 1,xZ 2 0,[(vI 1)]]
noncomputable def oO : List (List V) := [[(vS 25 2 7)],xV 2 0 vE++xV 4 0 (.str [97])]
noncomputable def kQ : V := (.tup [(vS 24 1 1),(vI 0),(vI 0)])
theorem AbO : Bt EzA 2000 100 72 pw pV oO kQ = true := by kernel_rfl
noncomputable def g72 : Eo := (En pw pV oO kQ)
theorem zA : CZ Tryz.prog Xz 72 g72 := (BC ES Em IQ AbO)
end Go.AJ
