/- Calls of the examples that are known. -/
import Derived.Test.YtgdbpnpolelfoaaGreatDoorAiD
import Derived.Test.YtgdbpnpolelfoaaGreatDoorTab
import Derived.KernelRfl
set_option linter.all false
namespace Go.AJ
open Go Go.Proofs
set_option maxRecDepth 100000
variable [BE]
theorem FnOK.upd {P:Program} {X:Cx} {t:T FnE} {f:Nat} {g:D8} (h:∀k,FnOK P X k (T.get .no k t)) (hg:CL P X f g):∀k,FnOK P X k (T.get .no k (T.ins .no (.prim g) (K.of f) t)):=by
  intro k;rw[T.get_ins];split
  · subst k;exact FnOK.prim rfl hg
  · exact h k
noncomputable def ar71_0:List V:= [(.agg [(vS 0 2 0),vZ,(vS 1 2 0),vZ,vZ,(vI 11),(vI 0),vZ,(vI 0),(vI 0),vF,vZ,vE,vZ,vZ,(vS 2 2 0),(vI 12),(vI 0),vZ,(vI 0),(vI 0),vF,vZ,vE,vZ,vZ,(vS 3 2 0),vZ,vZ,vZ,(vS 4 1 0),vZ,vZ,vZ,vF])]
noncomputable def bl71_0:List (List V):= [[(.str [97]),(.str [98])],[(.str [120]),(vI 46),(vI 10),vZ,(vI 0),(vI 0),vF,vZ,vE,vZ,vZ,(vS 5 2 0),(.str [121]),(vI 22),(vI 0),vZ,(vI 0),(vI 0),vF,vZ,vE,vZ,vZ,(vS 6 2 0)],[(vI 19),(vI 0),vZ,(vI 0),(vI 0),vF,vZ,vE,vZ,vZ,(vS 7 2 0),(vI 19),(vI 0),vZ,(vI 0),(vI 0),vF,vZ,vE,vZ,vZ,(vS 8 2 0)],[(vI 11),(vI 0),vZ,(vI 0),(vI 0),vF,vZ,vE,vZ,vZ,(vS 9 2 0),(vI 11),(vI 0),vZ,(vI 0),(vI 0),vF,vZ,vE,vZ,vZ,(vS 10 3 0)],[(vI 46),(vI 8),vZ,(vI 0),(vI 0),vF,vZ,vE,vZ,vZ,(vS 11 2 0)],[(vI 1),(vI 0),vZ,(vI 2),(vI 0),vF,vZ,vE,vZ,vZ,vZ,(vI 1),(vI 0),vZ,(vI 2),(vI 0),vF,(vS 12 1 1),vE,vZ,vZ,vZ],[(vI 1),(vI 0),vZ,(vI 4),(vI 0),vF,vZ,(.str [97]),vZ,vZ,vZ,(vI 1),(vI 0),vZ,(vI 4),(vI 0),vF,vZ,(.str [98]),vZ,vZ,vZ],[(vI 2),(vI 0),vZ,(vI 0),(vI 0),vF,vZ,vE,vZ,vZ,vZ,(vI 1),(vI 0),vZ,(vI 2),(vI 0),vF,vZ,vE,vZ,vZ,vZ],[(vI 2),(vI 1),vZ,(vI 0),(vI 0),vF,vZ,vE,vZ,vZ,vZ,(vI 1),(vI 0),vZ,(vI 4),(vI 0),vF,vZ,(.str [97]),vZ,vZ,vZ],[(vI 19),(vI 0),vZ,(vI 0),(vI 0),vF,vZ,vE,vZ,vZ,(vS 13 2 0),(vI 45),(vI 0),vZ,(vI 0),(vI 0),vF,vZ,vE,vZ,vZ,(vS 14 1 0)],[(vI 19),(vI 0),vZ,(vI 0),(vI 0),vF,vZ,vE,vZ,vZ,(vS 15 2 0),(vI 19),(vI 0),vZ,(vI 0),(vI 0),vF,vZ,vE,vZ,vZ,(vS 16 2 0),(vI 19),(vI 0),vZ,(vI 0),(vI 0),vF,vZ,vE,vZ,vZ,(vS 17 2 0)],[(vI 2),(vI 0),vZ,(vI 0),(vI 0),vF,vZ,vE,vZ,vZ,vZ,(vI 1),(vI 0),vZ,(vI 2),(vI 0),vF,(vS 18 1 1),vE,vZ,vZ,vZ],[(vI 4)],[(vI 5),(vI 0),vZ,(vI 0),(vI 0),vF,vZ,vE,vZ,vZ,(vS 19 1 0),(vI 46),(vI 1),vZ,(vI 0),(vI 0),vF,vZ,vE,vZ,vZ,(vS 20 2 0)],[(vI 2),(vI 1),vZ,(vI 0),(vI 0),vF,vZ,vE,vZ,vZ,vZ],[(vI 2),(vI 1),vZ,(vI 0),(vI 0),vF,vZ,vE,vZ,vZ,vZ,(vI 1),(vI 0),vZ,(vI 4),(vI 0),vF,vZ,(.str [97]),vZ,vZ,vZ],[(vI 5),(vI 0),vZ,(vI 0),(vI 0),vF,vZ,vE,vZ,vZ,(vS 21 1 0),(vI 1),(vI 0),vZ,(vI 4),(vI 0),vF,vZ,(.str [98]),vZ,vZ,vZ],[(vI 5),(vI 0),vZ,(vI 0),(vI 0),vF,vZ,vE,vZ,vZ,(vS 22 1 0),(vI 1),(vI 0),vZ,(vI 2),(vI 0),vF,vZ,vE,vZ,vZ,vZ],[(vI 2)],[(vI 2),(vI 0),vZ,(vI 0),(vI 0),vF,vZ,vE,vZ,vZ,vZ],[(vI 2),(vI 0),vZ,(vI 0),(vI 0),vF,vZ,vE,vZ,vZ,vZ,(vI 1),(vI 0),vZ,(vI 2),(vI 0),vF,(vS 23 1 1),vE,vZ,vZ,vZ],[(vI 2),(vI 1),vZ,(vI 0),(vI 0),vF,vZ,vE,vZ,vZ,vZ],[(vI 2),(vI 0),vZ,(vI 0),(vI 0),vF,vZ,vE,vZ,vZ,vZ],[(vI 1)]]
noncomputable def nw71_0:List (List V):= []
noncomputable def rt71_0:V:=(vI 0)
theorem m71_0:Bl Ez 2000 100 71 bl71_0 ar71_0 nw71_0 rt71_0=true:=by kernel_rfl
noncomputable def g71:D8:=(D6 bl71_0 ar71_0 nw71_0 rt71_0)
theorem g71_ok:CL Tryz.prog Xz 71 g71:=(Bu Ey D5 Ez_ok m71_0)
noncomputable def fnTA:T FnE:=(T.ins .no (.prim g71) (K.of 71) fnT)
noncomputable def EzA:Env:=⟨fnTA⟩
theorem fnTA_ok:∀k,FnOK Tryz.prog Xz k (T.get .no k fnTA):=(FnOK.upd fnT_ok g71_ok)
theorem HU:Dk Tryz.prog Xz EzA:=Dk.of fnTA_ok
end Go.AJ
namespace Go.AJ
open Go Go.Proofs
set_option maxRecDepth 100000
variable [BE]
noncomputable def ar72_0:List V:= [(.agg [(vS 0 2 0),vZ,(vS 1 2 0),vZ,vZ,(vI 11),(vI 0),vZ,(vI 0),(vI 0),vF,vZ,vE,vZ,vZ,(vS 2 2 0),(vI 12),(vI 0),vZ,(vI 0),(vI 0),vF,vZ,vE,vZ,vZ,(vS 3 2 0),vZ,vZ,vZ,(vS 4 1 0),vZ,vZ,vZ,vF])]
noncomputable def bl72_0:List (List V):= [[(.str [97]),(.str [98])],[(.str [120]),(vI 46),(vI 10),vZ,(vI 0),(vI 0),vF,vZ,vE,vZ,vZ,(vS 5 2 0),(.str [121]),(vI 22),(vI 0),vZ,(vI 0),(vI 0),vF,vZ,vE,vZ,vZ,(vS 6 2 0)],[(vI 19),(vI 0),vZ,(vI 0),(vI 0),vF,vZ,vE,vZ,vZ,(vS 7 2 0),(vI 19),(vI 0),vZ,(vI 0),(vI 0),vF,vZ,vE,vZ,vZ,(vS 8 2 0)],[(vI 11),(vI 0),vZ,(vI 0),(vI 0),vF,vZ,vE,vZ,vZ,(vS 9 2 0),(vI 11),(vI 0),vZ,(vI 0),(vI 0),vF,vZ,vE,vZ,vZ,(vS 10 3 0)],[(vI 46),(vI 8),vZ,(vI 0),(vI 0),vF,vZ,vE,vZ,vZ,(vS 11 2 0)],[(vI 1),(vI 0),vZ,(vI 2),(vI 0),vF,vZ,vE,vZ,vZ,vZ,(vI 1),(vI 0),vZ,(vI 2),(vI 0),vF,(vS 12 1 1),vE,vZ,vZ,vZ],[(vI 1),(vI 0),vZ,(vI 4),(vI 0),vF,vZ,(.str [97]),vZ,vZ,vZ,(vI 1),(vI 0),vZ,(vI 4),(vI 0),vF,vZ,(.str [98]),vZ,vZ,vZ],[(vI 2),(vI 0),vZ,(vI 0),(vI 0),vF,vZ,vE,vZ,vZ,vZ,(vI 1),(vI 0),vZ,(vI 2),(vI 0),vF,vZ,vE,vZ,vZ,vZ],[(vI 2),(vI 1),vZ,(vI 0),(vI 0),vF,vZ,vE,vZ,vZ,vZ,(vI 1),(vI 0),vZ,(vI 4),(vI 0),vF,vZ,(.str [97]),vZ,vZ,vZ],[(vI 19),(vI 0),vZ,(vI 0),(vI 0),vF,vZ,vE,vZ,vZ,(vS 13 2 0),(vI 45),(vI 0),vZ,(vI 0),(vI 0),vF,vZ,vE,vZ,vZ,(vS 14 1 0)],[(vI 19),(vI 0),vZ,(vI 0),(vI 0),vF,vZ,vE,vZ,vZ,(vS 15 2 0),(vI 19),(vI 0),vZ,(vI 0),(vI 0),vF,vZ,vE,vZ,vZ,(vS 16 2 0),(vI 19),(vI 0),vZ,(vI 0),(vI 0),vF,vZ,vE,vZ,vZ,(vS 17 2 0)],[(vI 2),(vI 0),vZ,(vI 0),(vI 0),vF,vZ,vE,vZ,vZ,vZ,(vI 1),(vI 0),vZ,(vI 2),(vI 0),vF,(vS 18 1 1),vE,vZ,vZ,vZ],[(vI 4)],[(vI 5),(vI 0),vZ,(vI 0),(vI 0),vF,vZ,vE,vZ,vZ,(vS 19 1 0),(vI 46),(vI 1),vZ,(vI 0),(vI 0),vF,vZ,vE,vZ,vZ,(vS 20 2 0)],[(vI 2),(vI 1),vZ,(vI 0),(vI 0),vF,vZ,vE,vZ,vZ,vZ],[(vI 2),(vI 1),vZ,(vI 0),(vI 0),vF,vZ,vE,vZ,vZ,vZ,(vI 1),(vI 0),vZ,(vI 4),(vI 0),vF,vZ,(.str [97]),vZ,vZ,vZ],[(vI 5),(vI 0),vZ,(vI 0),(vI 0),vF,vZ,vE,vZ,vZ,(vS 21 1 0),(vI 1),(vI 0),vZ,(vI 4),(vI 0),vF,vZ,(.str [98]),vZ,vZ,vZ],[(vI 5),(vI 0),vZ,(vI 0),(vI 0),vF,vZ,vE,vZ,vZ,(vS 22 1 0),(vI 1),(vI 0),vZ,(vI 2),(vI 0),vF,vZ,vE,vZ,vZ,vZ],[(vI 2)],[(vI 2),(vI 0),vZ,(vI 0),(vI 0),vF,vZ,vE,vZ,vZ,vZ],[(vI 2),(vI 0),vZ,(vI 0),(vI 0),vF,vZ,vE,vZ,vZ,vZ,(vI 1),(vI 0),vZ,(vI 2),(vI 0),vF,(vS 23 1 1),vE,vZ,vZ,vZ],[(vI 2),(vI 1),vZ,(vI 0),(vI 0),vF,vZ,vE,vZ,vZ,vZ],[(vI 2),(vI 0),vZ,(vI 0),(vI 0),vF,vZ,vE,vZ,vZ,vZ],[(vI 1)]]
noncomputable def nw72_0:List (List V):= [[(vS 25 2 7)],[(vI 2),(vI 0),vF,vZ,vE,vZ,vZ,(vI 4),(vI 0),vF,vZ,(.str [97]),vZ,vZ]]
noncomputable def rt72_0:V:=(.tup [(vS 24 1 1),(vI 0),(vI 0)])
theorem m72_0:Bl EzA 2000 100 72 bl72_0 ar72_0 nw72_0 rt72_0=true:=by kernel_rfl
noncomputable def g72:D8:=(D6 bl72_0 ar72_0 nw72_0 rt72_0)
theorem g72_ok:CL Tryz.prog Xz 72 g72:=(Bu Ey D5 HU m72_0)
end Go.AJ
