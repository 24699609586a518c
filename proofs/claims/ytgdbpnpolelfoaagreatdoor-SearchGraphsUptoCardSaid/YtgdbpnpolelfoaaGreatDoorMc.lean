/- Calls of the examples that are known. -/
import Derived.Test.YtgdbpnpolelfoaaGreatDoorMa
import Derived.Test.YtgdbpnpolelfoaaGreatDoorMb
import Derived.KernelRfl
set_option linter.all false
namespace Go.AJ
open Go Go.Proofs
set_option maxRecDepth 100000
variable [BN]
noncomputable def Ach : T FnE := (T.ins .no (.prim g77) (K.of 77) (T.ins .no (.prim g72) (K.of 72) Aci))
noncomputable def EzB : Env := ⟨Ach⟩
theorem cN : ∀ k,FnOK Tryz.prog Xz k (T.get .no k Ach) := (FnOK.upd (FnOK.upd cO zA) zy)
theorem Q7 : DB Tryz.prog Xz EzB := DB.of cN
noncomputable def pX : List V := [(.agg [(vS 0 6 1),(vS 1 1 1),(vS 2 6 2)])]
noncomputable def py : List (List V) := [[(vS 3 2 7),(vS 4 2 7),(vS 5 2 7),(vS 6 2 7),(vS 7 2 7),(vS 8 2 7)],[(vI 0)],[(vI 0),(vI 1),(vI 0),(vI 2),(vI 1),(vI 3),(vI 2),(vI 1),(vI 2),(vI 4),(vI 3),(vI 5)],xV 2 0 vE++xV 4 0 (.str [97]),xV 2 0 vE++xV 4 0 (.str [98]),[(vI 2),(vI 0),vF,(vS 9 1 1),vE,vZ,vZ]++xV 4 0 (.str [97]),[(vI 2),(vI 0),vF,(vS 10 1 1),vE,vZ,vZ]++xV 4 0 (.str [98]),[(vI 2),(vI 0),vF,(vS 11 1 1),vE,vZ,vZ]++xV 4 0 (.str [97]),[(vI 2),(vI 0),vF,(vS 12 1 1),vE,vZ,vZ]++xV 4 0 (.str [98]),[(vI 1)],[(vI 1)],[(vI 2)],[(vI 2)]]
noncomputable def oQ : List (List V) := []
noncomputable def kT : V := (.bool true)
theorem AbQ : Bt EzB 2000 100 46 py pX oQ kT = true := by kernel_rfl
noncomputable def g46 : Eo := (En py pX oQ kT)
theorem zC : CZ Tryz.prog Xz 46 g46 := (BC ES Em Q7 AbQ)
noncomputable def qa : List V := [(.agg ([(vS 0 2 0),vZ,(vS 1 2 0),vZ,vZ]++xE 11 0 (vS 2 2 0)++xE 12 0 (vS 3 2 0)++[vZ,vZ,vZ,(vS 4 1 0),vZ,vZ,vZ,vF])),(vI 100)]
noncomputable def pF : List (List V) := [[(.str [97]),(.str [98])],[(.str [120])]++xE 46 10 (vS 5 2 0)++[(.str [121])]++xE 22 0 (vS 6 2 0),xE 19 0 (vS 7 2 0)++xE 19 0 (vS 8 2 0),xE 11 0 (vS 9 2 0)++xE 11 0 (vS 10 3 0),xE 46 8 (vS 11 2 0),xL 1 0 2 0 vZ vE++xL 1 0 2 0 (vS 12 1 1) vE,xL 1 0 4 0 vZ (.str [97])++xL 1 0 4 0 vZ (.str [98]),xZ 2 0++xL 1 0 2 0 vZ vE,xZ 2 1++xL 1 0 4 0 vZ (.str [97]),xE 19 0 (vS 13 2 0)++xE 45 0 (vS 14 1 0),xE 19 0 (vS 15 2 0)++xE 19 0 (vS 16 2 0)++xE 19 0 (vS 17 2 0),xZ 2 0++xL 1 0 2 0 (vS 18 1 1) vE,[(vI 4)],xE 5 0 (vS 19 1 0)++xE 46 1 (vS 20 2 0),xZ 2 1,xZ 2 1++xL 1 0 4 0 vZ (.str [97]),xE 5 0 (vS 21 1 0)++xL 1 0 4 0 vZ (.str [98]),xE 5 0 (vS 22 1 0)++xL 1 0 2 0 vZ vE,[(vI 2)],xZ 2 0,xZ 2 0++xL 1 0 2 0 (vS 23 1 1) vE,xZ 2 1,xZ 2 0,[(vI 1)]]
noncomputable def oY : List (List V) := [[(vS 27 2 7),(vS 28 2 7),(vS 29 2 7),(vS 30 2 7),(vS 31 2 7),(vS 32 2 7)],[(vI 0)],[(vI 0),(vI 1),(vI 0),(vI 2),(vI 1),(vI 3),(vI 2),(vI 1),(vI 2),(vI 4),(vI 3),(vI 5)],xV 2 0 vE++xV 4 0 (.str [97]),xV 2 0 vE++xV 4 0 (.str [98]),[(vI 2),(vI 0),vF,(vS 33 1 1),vE,vZ,vZ]++xV 4 0 (.str [97]),[(vI 2),(vI 0),vF,(vS 34 1 1),vE,vZ,vZ]++xV 4 0 (.str [98]),[(vI 2),(vI 0),vF,(vS 35 1 1),vE,vZ,vZ]++xV 4 0 (.str [97]),[(vI 2),(vI 0),vF,(vS 36 1 1),vE,vZ,vZ]++xV 4 0 (.str [98]),[(vI 1)],[(vI 1)],[(vI 2)],[(vI 2)]]
noncomputable def lf : V := (.tup [(.agg [(vS 24 6 1),(vS 25 1 1),(vS 26 6 2)]),(.int .i64 (.negSucc 0)),(vI 0),(vI 0)])
noncomputable def p9 : List V := [(.agg ([(vS 0 2 0),vZ,(vS 1 2 0),vZ,vZ]++xE 11 0 (vS 2 2 0)++xE 12 0 (vS 3 2 0)++[vZ,vZ,vZ,(vS 4 1 0),vZ,vZ,vZ,vF])),(vI 5)]
noncomputable def pE : List (List V) := [[(.str [97]),(.str [98])],[(.str [120])]++xE 46 10 (vS 5 2 0)++[(.str [121])]++xE 22 0 (vS 6 2 0),xE 19 0 (vS 7 2 0)++xE 19 0 (vS 8 2 0),xE 11 0 (vS 9 2 0)++xE 11 0 (vS 10 3 0),xE 46 8 (vS 11 2 0),xL 1 0 2 0 vZ vE++xL 1 0 2 0 (vS 12 1 1) vE,xL 1 0 4 0 vZ (.str [97])++xL 1 0 4 0 vZ (.str [98]),xZ 2 0++xL 1 0 2 0 vZ vE,xZ 2 1++xL 1 0 4 0 vZ (.str [97]),xE 19 0 (vS 13 2 0)++xE 45 0 (vS 14 1 0),xE 19 0 (vS 15 2 0)++xE 19 0 (vS 16 2 0)++xE 19 0 (vS 17 2 0),xZ 2 0++xL 1 0 2 0 (vS 18 1 1) vE,[(vI 4)],xE 5 0 (vS 19 1 0)++xE 46 1 (vS 20 2 0),xZ 2 1,xZ 2 1++xL 1 0 4 0 vZ (.str [97]),xE 5 0 (vS 21 1 0)++xL 1 0 4 0 vZ (.str [98]),xE 5 0 (vS 22 1 0)++xL 1 0 2 0 vZ vE,[(vI 2)],xZ 2 0,xZ 2 0++xL 1 0 2 0 (vS 23 1 1) vE,xZ 2 1,xZ 2 0,[(vI 1)]]
noncomputable def oX : List (List V) := []
noncomputable def kZ : V := (.tup [(.agg [vZ,vZ,vZ]),(vI 0),(vI 0),(vI 2)])
noncomputable def p8 : List V := [(.agg ([(vS 0 2 0),vZ,(vS 1 2 0),vZ,vZ]++xE 11 0 (vS 2 2 0)++xE 12 0 (vS 3 2 0)++[vZ,vZ,vZ,(vS 4 1 0),vZ,vZ,vZ,vF])),(vI 6)]
noncomputable def pD : List (List V) := [[(.str [97]),(.str [98])],[(.str [120])]++xE 46 10 (vS 5 2 0)++[(.str [121])]++xE 22 0 (vS 6 2 0),xE 19 0 (vS 7 2 0)++xE 19 0 (vS 8 2 0),xE 11 0 (vS 9 2 0)++xE 11 0 (vS 10 3 0),xE 46 8 (vS 11 2 0),xL 1 0 2 0 vZ vE++xL 1 0 2 0 (vS 12 1 1) vE,xL 1 0 4 0 vZ (.str [97])++xL 1 0 4 0 vZ (.str [98]),xZ 2 0++xL 1 0 2 0 vZ vE,xZ 2 1++xL 1 0 4 0 vZ (.str [97]),xE 19 0 (vS 13 2 0)++xE 45 0 (vS 14 1 0),xE 19 0 (vS 15 2 0)++xE 19 0 (vS 16 2 0)++xE 19 0 (vS 17 2 0),xZ 2 0++xL 1 0 2 0 (vS 18 1 1) vE,[(vI 4)],xE 5 0 (vS 19 1 0)++xE 46 1 (vS 20 2 0),xZ 2 1,xZ 2 1++xL 1 0 4 0 vZ (.str [97]),xE 5 0 (vS 21 1 0)++xL 1 0 4 0 vZ (.str [98]),xE 5 0 (vS 22 1 0)++xL 1 0 2 0 vZ vE,[(vI 2)],xZ 2 0,xZ 2 0++xL 1 0 2 0 (vS 23 1 1) vE,xZ 2 1,xZ 2 0,[(vI 1)]]
noncomputable def oW : List (List V) := [[(vS 27 2 7),(vS 28 2 7),(vS 29 2 7),(vS 30 2 7),(vS 31 2 7),(vS 32 2 7)],[(vI 0)],[(vI 0),(vI 1),(vI 0),(vI 2),(vI 1),(vI 3),(vI 2),(vI 1),(vI 2),(vI 4),(vI 3),(vI 5)],xV 2 0 vE++xV 4 0 (.str [97]),xV 2 0 vE++xV 4 0 (.str [98]),[(vI 2),(vI 0),vF,(vS 33 1 1),vE,vZ,vZ]++xV 4 0 (.str [97]),[(vI 2),(vI 0),vF,(vS 34 1 1),vE,vZ,vZ]++xV 4 0 (.str [98]),[(vI 2),(vI 0),vF,(vS 35 1 1),vE,vZ,vZ]++xV 4 0 (.str [97]),[(vI 2),(vI 0),vF,(vS 36 1 1),vE,vZ,vZ]++xV 4 0 (.str [98]),[(vI 1)],[(vI 1)],[(vI 2)],[(vI 2)]]
noncomputable def kY : V := (.tup [(.agg [(vS 24 6 1),(vS 25 1 1),(vS 26 6 2)]),(.int .i64 (.negSucc 0)),(vI 0),(vI 0)])
theorem AbX : Bt EzB 2000 100 32 pF qa oY lf = true := by kernel_rfl
theorem AbW : Bt EzB 2000 100 32 pE p9 oX kZ = true := by kernel_rfl
theorem AbV : Bt EzB 2000 100 32 pD p8 oW kY = true := by kernel_rfl
noncomputable def g32 : Eo := (either (En pF qa oY lf) (either (En pE p9 oX kZ) (En pD p8 oW kY)))
theorem zF : CZ Tryz.prog Xz 32 g32 := (CD (BC ES Em Q7 AbX) (CD (BC ES Em Q7 AbW) (BC ES Em Q7 AbV)))
noncomputable def Acg : T FnE := (T.ins .no (.prim g32) (K.of 32) (T.ins .no (.prim g46) (K.of 46) Ach))
noncomputable def EzC : Env := ⟨Acg⟩
theorem cM : ∀ k,FnOK Tryz.prog Xz k (T.get .no k Acg) := (FnOK.upd (FnOK.upd cN zC) zF)
theorem Q6 : DB Tryz.prog Xz EzC := DB.of cM
end Go.AJ
