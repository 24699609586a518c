/- Closed facts of the whole program, each by itself. No condition. -/
import Derived.Test.YtflhojkjjlfegaaGreatDoorRows
import Derived.JoinedOf
import GoSem.ClaimGoes
import Derived.KernelRfl
namespace Go.Proofs.YtflhojkjjlfegaaGreatDoor
open Go
set_option maxRecDepth 100000
theorem both {a b : Bool} (ha : a = true) (hb : b = true) : (a && b) = true := by rw [ha, hb]; rfl
theorem glaid : laidOutB Tryz.prog = true := by kernel_rfl
theorem gmaps : mapsRowed Tryz.prog = true := by kernel_rfl
theorem gstops : (Tryz.prog.stops == []) = true := by kernel_rfl
theorem gknobs : (Tryz.prog.stopKnobs == []) = true := by kernel_rfl
theorem gheard : Tryz.prog.stopsHeard = true := by kernel_rfl
theorem genter : Tryz.prog.mayEnter = true := by kernel_rfl
theorem gnogo : Tryz.prog.funcs.toList.all (fun fn => !fn.goes) = true := by kernel_rfl
theorem goes_none {P : Program} (h : P.funcs.toList.all (fun fn => !fn.goes) = true) (f : FuncId) : P.goes f = false := by
  have hall : ∀ fn ∈ P.funcs.toList, fn.goes = false := fun fn hfn => by simpa using List.all_eq_true.1 h fn hfn
  unfold Program.goes
  rw [Bool.or_eq_false_iff]
  refine ⟨?_, ?_⟩
  · rw [List.any_eq_false]
    intro g _
    cases hg : P.funcs[g]? with
    | none => simp
    | some fn =>
      have hm : fn ∈ P.funcs.toList := by
        rw [Array.mem_toList_iff]
        exact Array.mem_of_getElem? hg
      simp [hall fn hm]
  · rw [Bool.and_eq_false_iff]
    right
    rw [Array.any_eq_false']
    intro fn hfn
    simp [hall fn (by simpa using hfn)]
end Go.Proofs.YtflhojkjjlfegaaGreatDoor
