/- A call of the examples that is known. -/
import Derived.Test.YtgdbpnpolelfoaaGreatDoorMc
import Derived.KernelRfl
set_option linter.all false
namespace Go.AJ
open Go Go.Proofs
set_option maxRecDepth 100000
variable [BN]
noncomputable def p7 : List V := [(.agg ([(vS 0 2 0),vZ,(vS 1 2 0),vZ,vZ]++xE 11 0 (vS 2 2 0)++xE 12 0 (vS 3 2 0)++[vZ,vZ,vZ,(vS 4 1 0),vZ,vZ,vZ,vF])),(.agg [(vS 5 6 1),(vS 6 1 1),(vS 7 6 2)]),(.agg [(vI 13),(vI 0),vZ,(vI 0),(vI 0),vF,vZ,vE,vZ,vZ,(vS 8 1 0)])]
noncomputable def pC : List (List V) := [[(.str [97]),(.str [98])],[(.str [120])]++xE 46 10 (vS 9 2 0)++[(.str [121])]++xE 22 0 (vS 10 2 0),xE 19 0 (vS 11 2 0)++xE 19 0 (vS 12 2 0),xE 11 0 (vS 13 2 0)++xE 11 0 (vS 14 3 0),xE 46 8 (vS 15 2 0),[(vS 16 2 7),(vS 17 2 7),(vS 18 2 7),(vS 19 2 7),(vS 20 2 7),(vS 21 2 7)],[(vI 0)],[(vI 0),(vI 1),(vI 0),(vI 2),(vI 1),(vI 3),(vI 2),(vI 1),(vI 2),(vI 4),(vI 3),(vI 5)],xE 19 0 (vS 22 2 0),xL 1 0 2 0 vZ vE++xL 1 0 2 0 (vS 23 1 1) vE,xL 1 0 4 0 vZ (.str [97])++xL 1 0 4 0 vZ (.str [98]),xZ 2 0++xL 1 0 2 0 vZ vE,xZ 2 1++xL 1 0 4 0 vZ (.str [97]),xE 19 0 (vS 24 2 0)++xE 45 0 (vS 25 1 0),xE 19 0 (vS 26 2 0)++xE 19 0 (vS 27 2 0)++xE 19 0 (vS 28 2 0),xZ 2 0++xL 1 0 2 0 (vS 29 1 1) vE,xV 2 0 vE++xV 4 0 (.str [97]),xV 2 0 vE++xV 4 0 (.str [98]),[(vI 2),(vI 0),vF,(vS 30 1 1),vE,vZ,vZ]++xV 4 0 (.str [97]),[(vI 2),(vI 0),vF,(vS 31 1 1),vE,vZ,vZ]++xV 4 0 (.str [98]),[(vI 2),(vI 0),vF,(vS 32 1 1),vE,vZ,vZ]++xV 4 0 (.str [97]),[(vI 2),(vI 0),vF,(vS 33 1 1),vE,vZ,vZ]++xV 4 0 (.str [98]),xZ 2 0++xL 1 0 2 0 (vS 34 1 1) vE,[(vI 4)],xE 5 0 (vS 35 1 0)++xE 46 1 (vS 36 2 0),xZ 2 1,xZ 2 1++xL 1 0 4 0 vZ (.str [97]),xE 5 0 (vS 37 1 0)++xL 1 0 4 0 vZ (.str [98]),xE 5 0 (vS 38 1 0)++xL 1 0 2 0 vZ vE,[(vI 2)],[(vI 1)],[(vI 1)],[(vI 2)],[(vI 2)],[(vI 2)],xZ 2 0,xZ 2 0++xL 1 0 2 0 (vS 39 1 1) vE,xZ 2 1,xZ 2 0,[(vI 1)]]
noncomputable def oV : List (List V) := []
noncomputable def kX : V := (.tup [(vI 4),(vI 0),(vI 0)])
noncomputable def p6 : List V := [(.agg ([(vS 0 2 0),vZ,(vS 1 2 0),vZ,vZ]++xE 11 0 (vS 2 2 0)++xE 12 0 (vS 3 2 0)++[vZ,vZ,vZ,(vS 4 1 0),vZ,vZ,vZ,vF])),(.agg [(vS 5 6 1),(vS 6 1 1),(vS 7 6 2)]),(.agg [(vI 20),(vI 0),vZ,(vI 0),(vI 0),vF,vZ,vE,vZ,vZ,(vS 8 2 0)])]
noncomputable def pB : List (List V) := [[(.str [97]),(.str [98])],[(.str [120])]++xE 46 10 (vS 9 2 0)++[(.str [121])]++xE 22 0 (vS 10 2 0),xE 19 0 (vS 11 2 0)++xE 19 0 (vS 12 2 0),xE 11 0 (vS 13 2 0)++xE 11 0 (vS 14 3 0),xE 46 8 (vS 15 2 0),[(vS 16 2 7),(vS 17 2 7),(vS 18 2 7),(vS 19 2 7),(vS 20 2 7),(vS 21 2 7)],[(vI 0)],[(vI 0),(vI 1),(vI 0),(vI 2),(vI 1),(vI 3),(vI 2),(vI 1),(vI 2),(vI 4),(vI 3),(vI 5)],xZ 2 1++xE 22 0 (vS 22 2 0),xL 1 0 2 0 vZ vE++xL 1 0 2 0 (vS 23 1 1) vE,xL 1 0 4 0 vZ (.str [97])++xL 1 0 4 0 vZ (.str [98]),xZ 2 0++xL 1 0 2 0 vZ vE,xZ 2 1++xL 1 0 4 0 vZ (.str [97]),xE 19 0 (vS 24 2 0)++xE 45 0 (vS 25 1 0),xE 19 0 (vS 26 2 0)++xE 19 0 (vS 27 2 0)++xE 19 0 (vS 28 2 0),xZ 2 0++xL 1 0 2 0 (vS 29 1 1) vE,xV 2 0 vE++xV 4 0 (.str [97]),xV 2 0 vE++xV 4 0 (.str [98]),[(vI 2),(vI 0),vF,(vS 30 1 1),vE,vZ,vZ]++xV 4 0 (.str [97]),[(vI 2),(vI 0),vF,(vS 31 1 1),vE,vZ,vZ]++xV 4 0 (.str [98]),[(vI 2),(vI 0),vF,(vS 32 1 1),vE,vZ,vZ]++xV 4 0 (.str [97]),[(vI 2),(vI 0),vF,(vS 33 1 1),vE,vZ,vZ]++xV 4 0 (.str [98]),xL 1 0 4 0 vZ (.str [97])++xL 1 0 4 0 vZ (.str [98]),[(vI 4)],xE 5 0 (vS 34 1 0)++xE 46 1 (vS 35 2 0),xZ 2 1,xZ 2 1++xL 1 0 4 0 vZ (.str [97]),xE 5 0 (vS 36 1 0)++xL 1 0 4 0 vZ (.str [98]),xE 5 0 (vS 37 1 0)++xL 1 0 2 0 vZ vE,[(vI 2)],[(vI 1)],[(vI 1)],[(vI 2)],[(vI 2)],xZ 2 0,xZ 2 0++xL 1 0 2 0 (vS 38 1 1) vE,xZ 2 1,xZ 2 0,[(vI 1)]]
noncomputable def oU : List (List V) := []
noncomputable def kW : V := (.tup [(.int .i64 (.negSucc 0)),(vI 0),(vI 0)])
theorem AbU : Bt EzC 2000 100 37 pC p7 oV kX = true := by kernel_rfl
theorem AbT : Bt EzC 2000 100 37 pB p6 oU kW = true := by kernel_rfl
noncomputable def g37 : Eo := (either (En pC p7 oV kX) (En pB p6 oU kW))
theorem zE : CZ Tryz.prog Xz 37 g37 := (CD (BC ES Em Q6 AbU) (BC ES Em Q6 AbT))
end Go.AJ
