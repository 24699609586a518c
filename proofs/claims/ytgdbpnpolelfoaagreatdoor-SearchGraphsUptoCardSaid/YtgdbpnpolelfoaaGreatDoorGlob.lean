/- Closed facts of the whole program, each by itself. No condition. -/
import Derived.Test.YtgdbpnpolelfoaaGreatDoorRows
import Derived.JoinedOf
import GoSem.ClaimGoes
import Derived.KernelRfl
namespace Go.Proofs.YtgdbpnpolelfoaaGreatDoor
open Go
set_option maxRecDepth 100000
theorem both {a b : Bool} (ha : a = true) (hb : b = true) : (a && b) = true := by rw [ha, hb]; rfl
theorem tsize : Tryz.prog.types.size = 593 := by kernel_rfl
def rb0 : List Nat := List.range' 0 94
theorem rf0 : rb0.all (rowFine Tryz.prog) = true := by kernel_rfl
def rb1 : List Nat := List.range' 94 94
theorem rf1 : rb1.all (rowFine Tryz.prog) = true := by kernel_rfl
def rb2 : List Nat := List.range' 188 94
theorem rf2 : rb2.all (rowFine Tryz.prog) = true := by kernel_rfl
def rb3 : List Nat := List.range' 282 94
theorem rf3 : rb3.all (rowFine Tryz.prog) = true := by kernel_rfl
def rb4 : List Nat := List.range' 376 94
theorem rf4 : rb4.all (rowFine Tryz.prog) = true := by kernel_rfl
def rb5 : List Nat := List.range' 470 94
theorem rf5 : rb5.all (rowFine Tryz.prog) = true := by kernel_rfl
def rb6 : List Nat := List.range' 564 29
theorem rf6 : rb6.all (rowFine Tryz.prog) = true := by kernel_rfl
theorem trange : List.range 593 = rb0 ++ (rb1 ++ (rb2 ++ (rb3 ++ (rb4 ++ (rb5 ++ (rb6)))))) := by decide +kernel
theorem glaid : laidOutB Tryz.prog = true := by
  unfold laidOutB
  rw [tsize, trange]
  simp only [List.all_append, rf0, rf1, rf2, rf3, rf4, rf5, rf6, Bool.true_and, Bool.and_true]
  kernel_rfl
def mrow (P : Program) (n : Nat) (t : TypeId) : Bool := match P.underlying t with | some (.map _ e) => decide (e < n) | _ => true
theorem mr0 : rb0.all (mrow Tryz.prog 593) = true := by kernel_rfl
theorem mr1 : rb1.all (mrow Tryz.prog 593) = true := by kernel_rfl
theorem mr2 : rb2.all (mrow Tryz.prog 593) = true := by kernel_rfl
theorem mr3 : rb3.all (mrow Tryz.prog 593) = true := by kernel_rfl
theorem mr4 : rb4.all (mrow Tryz.prog 593) = true := by kernel_rfl
theorem mr5 : rb5.all (mrow Tryz.prog 593) = true := by kernel_rfl
theorem mr6 : rb6.all (mrow Tryz.prog 593) = true := by kernel_rfl
theorem mall : (List.range 593).all (mrow Tryz.prog 593) = true := by
  rw [trange]
  simp only [List.all_append, mr0, mr1, mr2, mr3, mr4, mr5, mr6, Bool.and_self]
theorem gmaps : mapsRowed Tryz.prog = true := by
  unfold mapsRowed
  rw [tsize]
  exact mall
theorem gstops : (Tryz.prog.stops == []) = true := by kernel_rfl
theorem gknobs : (Tryz.prog.stopKnobs == []) = true := by kernel_rfl
theorem gheard : Tryz.prog.stopsHeard = true := by kernel_rfl
theorem genter : Tryz.prog.mayEnter = true := by kernel_rfl
theorem gnogo : Tryz.prog.funcs.toList.all (fun fn => !fn.goes) = true := by kernel_rfl
theorem goes_none {P : Program} (h : P.funcs.toList.all (fun fn => !fn.goes) = true) (f : FuncId) : P.goes f = false := by
  have hall : ∀ fn ∈ P.funcs.toList, fn.goes = false := fun fn hfn => by simpa using List.all_eq_true.1 h fn hfn
  unfold Program.goes
  rw [Bool.or_eq_false_iff]
  refine ⟨?_, ?_⟩
  · rw [List.any_eq_false]
    intro g _
    cases hg : P.funcs[g]? with
    | none => simp
    | some fn =>
      have hm : fn ∈ P.funcs.toList := by
        rw [Array.mem_toList_iff]
        exact Array.mem_of_getElem? hg
      simp [hall fn hm]
  · rw [Bool.and_eq_false_iff]
    right
    rw [Array.any_eq_false']
    intro fn hfn
    simp [hall fn (by simpa using hfn)]
end Go.Proofs.YtgdbpnpolelfoaaGreatDoor
