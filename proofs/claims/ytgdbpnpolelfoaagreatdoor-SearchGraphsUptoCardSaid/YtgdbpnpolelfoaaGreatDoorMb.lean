/- A call of the examples that is known. -/
import Derived.Test.YtgdbpnpolelfoaaGreatDoorMa
import Derived.KernelRfl
set_option linter.all false
namespace Go.AJ
open Go Go.Proofs
set_option maxRecDepth 100000
variable [BN]
noncomputable def pU : List V := [(.agg ([(vS 0 2 0),vZ,(vS 1 2 0),vZ,vZ]++xE 11 0 (vS 2 2 0)++xE 12 0 (vS 3 2 0)++[vZ,vZ,vZ,(vS 4 1 0),vZ,vZ,vZ,vF])),(vS 5 2 7)]
noncomputable def pu : List (List V) := [[(.str [97]),(.str [98])],[(.str [120])]++xE 46 10 (vS 6 2 0)++[(.str [121])]++xE 22 0 (vS 7 2 0),xE 19 0 (vS 8 2 0)++xE 19 0 (vS 9 2 0),xE 11 0 (vS 10 2 0)++xE 11 0 (vS 11 3 0),xE 46 8 (vS 12 2 0),xV 2 0 vE++xV 4 0 (.str [97]),xL 1 0 2 0 vZ vE++xL 1 0 2 0 (vS 13 1 1) vE,xL 1 0 4 0 vZ (.str [97])++xL 1 0 4 0 vZ (.str [98]),xZ 2 0++xL 1 0 2 0 vZ vE,xZ 2 1++xL 1 0 4 0 vZ (.str [97]),xE 19 0 (vS 14 2 0)++xE 45 0 (vS 15 1 0),xE 19 0 (vS 16 2 0)++xE 19 0 (vS 17 2 0)++xE 19 0 (vS 18 2 0),xZ 2 0++xL 1 0 2 0 (vS 19 1 1) vE,[(vI 4)],xE 5 0 (vS 20 1 0)++xE 46 1 (vS 21 2 0),xZ 2 1,xZ 2 1++xL 1 0 4 0 vZ (.str [97]),xE 5 0 (vS 22 1 0)++xL 1 0 4 0 vZ (.str [98]),xE 5 0 (vS 23 1 0)++xL 1 0 2 0 vZ vE,[(vI 2)],xZ 2 0,xZ 2 0++xL 1 0 2 0 (vS 24 1 1) vE,xZ 2 1,xZ 2 0,[(vI 1)]]
noncomputable def oN : List (List V) := [[(vS 26 2 7),(vS 27 2 7)],xV 2 0 vE++xV 4 0 (.str [98]),[(vI 2),(vI 0),vF,(vS 28 1 1),vE,vZ,vZ]++xV 4 0 (.str [97]),[(vI 1)]]
noncomputable def kM : V := (.tup [(vS 25 2 1),(vI 0),(vI 0)])
noncomputable def pT : List V := [(.agg ([(vS 0 2 0),vZ,(vS 1 2 0),vZ,vZ]++xE 11 0 (vS 2 2 0)++xE 12 0 (vS 3 2 0)++[vZ,vZ,vZ,(vS 4 1 0),vZ,vZ,vZ,vF])),(vS 5 2 7)]
noncomputable def pp : List (List V) := [[(.str [97]),(.str [98])],[(.str [120])]++xE 46 10 (vS 6 2 0)++[(.str [121])]++xE 22 0 (vS 7 2 0),xE 19 0 (vS 8 2 0)++xE 19 0 (vS 9 2 0),xE 11 0 (vS 10 2 0)++xE 11 0 (vS 11 3 0),xE 46 8 (vS 12 2 0),xV 2 0 vE++xV 4 0 (.str [98]),xL 1 0 2 0 vZ vE++xL 1 0 2 0 (vS 13 1 1) vE,xL 1 0 4 0 vZ (.str [97])++xL 1 0 4 0 vZ (.str [98]),xZ 2 0++xL 1 0 2 0 vZ vE,xZ 2 1++xL 1 0 4 0 vZ (.str [97]),xE 19 0 (vS 14 2 0)++xE 45 0 (vS 15 1 0),xE 19 0 (vS 16 2 0)++xE 19 0 (vS 17 2 0)++xE 19 0 (vS 18 2 0),xZ 2 0++xL 1 0 2 0 (vS 19 1 1) vE,[(vI 4)],xE 5 0 (vS 20 1 0)++xE 46 1 (vS 21 2 0),xZ 2 1,xZ 2 1++xL 1 0 4 0 vZ (.str [97]),xE 5 0 (vS 22 1 0)++xL 1 0 4 0 vZ (.str [98]),xE 5 0 (vS 23 1 0)++xL 1 0 2 0 vZ vE,[(vI 2)],xZ 2 0,xZ 2 0++xL 1 0 2 0 (vS 24 1 1) vE,xZ 2 1,xZ 2 0,[(vI 1)]]
noncomputable def oM : List (List V) := [[(vS 26 2 7)],[(vI 2),(vI 0),vF,(vS 27 1 1),vE,vZ,vZ]++xV 4 0 (.str [98]),[(vI 1)]]
noncomputable def kL : V := (.tup [(vS 25 1 1),(vI 0),(vI 0)])
noncomputable def pS : List V := [(.agg ([(vS 0 2 0),vZ,(vS 1 2 0),vZ,vZ]++xE 11 0 (vS 2 2 0)++xE 12 0 (vS 3 2 0)++[vZ,vZ,vZ,(vS 4 1 0),vZ,vZ,vZ,vF])),(vS 5 2 7)]
noncomputable def po : List (List V) := [[(.str [97]),(.str [98])],[(.str [120])]++xE 46 10 (vS 6 2 0)++[(.str [121])]++xE 22 0 (vS 7 2 0),xE 19 0 (vS 8 2 0)++xE 19 0 (vS 9 2 0),xE 11 0 (vS 10 2 0)++xE 11 0 (vS 11 3 0),xE 46 8 (vS 12 2 0),[(vI 2),(vI 0),vF,(vS 13 1 1),vE,vZ,vZ]++xV 4 0 (.str [97]),xL 1 0 2 0 vZ vE++xL 1 0 2 0 (vS 14 1 1) vE,xL 1 0 4 0 vZ (.str [97])++xL 1 0 4 0 vZ (.str [98]),xZ 2 0++xL 1 0 2 0 vZ vE,xZ 2 1++xL 1 0 4 0 vZ (.str [97]),xE 19 0 (vS 15 2 0)++xE 45 0 (vS 16 1 0),xE 19 0 (vS 17 2 0)++xE 19 0 (vS 18 2 0)++xE 19 0 (vS 19 2 0),xZ 2 0++xL 1 0 2 0 (vS 20 1 1) vE,[(vI 1)],[(vI 4)],xE 5 0 (vS 21 1 0)++xE 46 1 (vS 22 2 0),xZ 2 1,xZ 2 1++xL 1 0 4 0 vZ (.str [97]),xE 5 0 (vS 23 1 0)++xL 1 0 4 0 vZ (.str [98]),xE 5 0 (vS 24 1 0)++xL 1 0 2 0 vZ vE,[(vI 2)],xZ 2 0,xZ 2 0++xL 1 0 2 0 (vS 25 1 1) vE,xZ 2 1,xZ 2 0,[(vI 1)]]
noncomputable def oL : List (List V) := [[(vS 27 2 7),(vS 28 2 7)],xV 2 0 vE++xV 4 0 (.str [98]),[(vI 2),(vI 0),vF,(vS 29 1 1),vE,vZ,vZ]++xV 4 0 (.str [97]),[(vI 2)]]
noncomputable def kJ : V := (.tup [(vS 26 2 1),(vI 0),(vI 0)])
noncomputable def pR : List V := [(.agg ([(vS 0 2 0),vZ,(vS 1 2 0),vZ,vZ]++xE 11 0 (vS 2 2 0)++xE 12 0 (vS 3 2 0)++[vZ,vZ,vZ,(vS 4 1 0),vZ,vZ,vZ,vF])),(vS 5 2 7)]
noncomputable def pn : List (List V) := [[(.str [97]),(.str [98])],[(.str [120])]++xE 46 10 (vS 6 2 0)++[(.str [121])]++xE 22 0 (vS 7 2 0),xE 19 0 (vS 8 2 0)++xE 19 0 (vS 9 2 0),xE 11 0 (vS 10 2 0)++xE 11 0 (vS 11 3 0),xE 46 8 (vS 12 2 0),[(vI 2),(vI 0),vF,(vS 13 1 1),vE,vZ,vZ]++xV 4 0 (.str [98]),xL 1 0 2 0 vZ vE++xL 1 0 2 0 (vS 14 1 1) vE,xL 1 0 4 0 vZ (.str [97])++xL 1 0 4 0 vZ (.str [98]),xZ 2 0++xL 1 0 2 0 vZ vE,xZ 2 1++xL 1 0 4 0 vZ (.str [97]),xE 19 0 (vS 15 2 0)++xE 45 0 (vS 16 1 0),xE 19 0 (vS 17 2 0)++xE 19 0 (vS 18 2 0)++xE 19 0 (vS 19 2 0),xZ 2 0++xL 1 0 2 0 (vS 20 1 1) vE,[(vI 1)],[(vI 4)],xE 5 0 (vS 21 1 0)++xE 46 1 (vS 22 2 0),xZ 2 1,xZ 2 1++xL 1 0 4 0 vZ (.str [97]),xE 5 0 (vS 23 1 0)++xL 1 0 4 0 vZ (.str [98]),xE 5 0 (vS 24 1 0)++xL 1 0 2 0 vZ vE,[(vI 2)],xZ 2 0,xZ 2 0++xL 1 0 2 0 (vS 25 1 1) vE,xZ 2 1,xZ 2 0,[(vI 1)]]
noncomputable def oK : List (List V) := [[(vS 27 2 7)],[(vI 2),(vI 0),vF,(vS 28 1 1),vE,vZ,vZ]++xV 4 0 (.str [98]),[(vI 2)]]
noncomputable def kI : V := (.tup [(vS 26 1 1),(vI 0),(vI 0)])
noncomputable def pQ : List V := [(.agg ([(vS 0 2 0),vZ,(vS 1 2 0),vZ,vZ]++xE 11 0 (vS 2 2 0)++xE 12 0 (vS 3 2 0)++[vZ,vZ,vZ,(vS 4 1 0),vZ,vZ,vZ,vF])),(vS 5 2 7)]
noncomputable def pm : List (List V) := [[(.str [97]),(.str [98])],[(.str [120])]++xE 46 10 (vS 6 2 0)++[(.str [121])]++xE 22 0 (vS 7 2 0),xE 19 0 (vS 8 2 0)++xE 19 0 (vS 9 2 0),xE 11 0 (vS 10 2 0)++xE 11 0 (vS 11 3 0),xE 46 8 (vS 12 2 0),[(vI 2),(vI 0),vF,(vS 13 1 1),vE,vZ,vZ]++xV 4 0 (.str [97]),xL 1 0 2 0 vZ vE++xL 1 0 2 0 (vS 14 1 1) vE,xL 1 0 4 0 vZ (.str [97])++xL 1 0 4 0 vZ (.str [98]),xZ 2 0++xL 1 0 2 0 vZ vE,xZ 2 1++xL 1 0 4 0 vZ (.str [97]),xE 19 0 (vS 15 2 0)++xE 45 0 (vS 16 1 0),xE 19 0 (vS 17 2 0)++xE 19 0 (vS 18 2 0)++xE 19 0 (vS 19 2 0),xZ 2 0++xL 1 0 2 0 (vS 20 1 1) vE,[(vI 2)],[(vI 4)],xE 5 0 (vS 21 1 0)++xE 46 1 (vS 22 2 0),xZ 2 1,xZ 2 1++xL 1 0 4 0 vZ (.str [97]),xE 5 0 (vS 23 1 0)++xL 1 0 4 0 vZ (.str [98]),xE 5 0 (vS 24 1 0)++xL 1 0 2 0 vZ vE,[(vI 2)],xZ 2 0,xZ 2 0++xL 1 0 2 0 (vS 25 1 1) vE,xZ 2 1,xZ 2 0,[(vI 1)]]
noncomputable def oJ : List (List V) := []
noncomputable def kG : V := (.tup [vZ,(vI 0),(vI 0)])
noncomputable def pP : List V := [(.agg ([(vS 0 2 0),vZ,(vS 1 2 0),vZ,vZ]++xE 11 0 (vS 2 2 0)++xE 12 0 (vS 3 2 0)++[vZ,vZ,vZ,(vS 4 1 0),vZ,vZ,vZ,vF])),(vS 5 2 7)]
noncomputable def pk : List (List V) := [[(.str [97]),(.str [98])],[(.str [120])]++xE 46 10 (vS 6 2 0)++[(.str [121])]++xE 22 0 (vS 7 2 0),xE 19 0 (vS 8 2 0)++xE 19 0 (vS 9 2 0),xE 11 0 (vS 10 2 0)++xE 11 0 (vS 11 3 0),xE 46 8 (vS 12 2 0),[(vI 2),(vI 0),vF,(vS 13 1 1),vE,vZ,vZ]++xV 4 0 (.str [98]),xL 1 0 2 0 vZ vE++xL 1 0 2 0 (vS 14 1 1) vE,xL 1 0 4 0 vZ (.str [97])++xL 1 0 4 0 vZ (.str [98]),xZ 2 0++xL 1 0 2 0 vZ vE,xZ 2 1++xL 1 0 4 0 vZ (.str [97]),xE 19 0 (vS 15 2 0)++xE 45 0 (vS 16 1 0),xE 19 0 (vS 17 2 0)++xE 19 0 (vS 18 2 0)++xE 19 0 (vS 19 2 0),xZ 2 0++xL 1 0 2 0 (vS 20 1 1) vE,[(vI 2)],[(vI 4)],xE 5 0 (vS 21 1 0)++xE 46 1 (vS 22 2 0),xZ 2 1,xZ 2 1++xL 1 0 4 0 vZ (.str [97]),xE 5 0 (vS 23 1 0)++xL 1 0 4 0 vZ (.str [98]),xE 5 0 (vS 24 1 0)++xL 1 0 2 0 vZ vE,[(vI 2)],xZ 2 0,xZ 2 0++xL 1 0 2 0 (vS 25 1 1) vE,xZ 2 1,xZ 2 0,[(vI 1)]]
noncomputable def oI : List (List V) := []
noncomputable def kF : V := (.tup [vZ,(vI 0),(vI 0)])
theorem AbN : Bt EzA 2000 100 77 pu pU oN kM = true := by kernel_rfl
theorem AbM : Bt EzA 2000 100 77 pp pT oM kL = true := by kernel_rfl
theorem AbL : Bt EzA 2000 100 77 po pS oL kJ = true := by kernel_rfl
theorem AbK : Bt EzA 2000 100 77 pn pR oK kI = true := by kernel_rfl
theorem AbJ : Bt EzA 2000 100 77 pm pQ oJ kG = true := by kernel_rfl
theorem AbI : Bt EzA 2000 100 77 pk pP oI kF = true := by kernel_rfl
noncomputable def g77 : Eo := (either (En pu pU oN kM) (either (En pp pT oM kL) (either (En po pS oL kJ) (either (En pn pR oK kI) (either (En pm pQ oJ kG) (En pk pP oI kF))))))
theorem zy : CZ Tryz.prog Xz 77 g77 := (CD (BC ES Em IQ AbN) (CD (BC ES Em IQ AbM) (CD (BC ES Em IQ AbL) (CD (BC ES Em IQ AbK) (CD (BC ES Em IQ AbJ) (BC ES Em IQ AbI))))))
end Go.AJ
