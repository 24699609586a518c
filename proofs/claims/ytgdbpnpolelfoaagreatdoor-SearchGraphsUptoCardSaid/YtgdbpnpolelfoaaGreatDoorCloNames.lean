/- Which functions bear which names. -/
import Derived.Test.YtgdbpnpolelfoaaGreatDoorClo
import Derived.KernelRfl
set_option linter.all false
namespace Go.TF
open Go Go.Proofs
set_option maxRecDepth 100000
def ra0 : List Nat := List.range' 0 110
def ra1 : List Nat := List.range' 110 110
def ra2 : List Nat := List.range' 220 110
def ra3 : List Nat := List.range' 330 110
def ra4 : List Nat := List.range' 440 110
def ra5 : List Nat := List.range' 550 110
def ra6 : List Nat := List.range' 660 48
theorem range_eq : List.range 708 = ra0 ++ (ra1 ++ (ra2 ++ (ra3 ++ (ra4 ++ (ra5 ++ (ra6)))))) := by decide +kernel
theorem n707_0 : ra0.filter (fun i => (Tryz.prog.funcs[i]?).any (·.name == "gosem.cut.vars")) = [] := by kernel_rfl
theorem n707_1 : ra1.filter (fun i => (Tryz.prog.funcs[i]?).any (·.name == "gosem.cut.vars")) = [] := by kernel_rfl
theorem n707_2 : ra2.filter (fun i => (Tryz.prog.funcs[i]?).any (·.name == "gosem.cut.vars")) = [] := by kernel_rfl
theorem n707_3 : ra3.filter (fun i => (Tryz.prog.funcs[i]?).any (·.name == "gosem.cut.vars")) = [] := by kernel_rfl
theorem n707_4 : ra4.filter (fun i => (Tryz.prog.funcs[i]?).any (·.name == "gosem.cut.vars")) = [] := by kernel_rfl
theorem n707_5 : ra5.filter (fun i => (Tryz.prog.funcs[i]?).any (·.name == "gosem.cut.vars")) = [] := by kernel_rfl
theorem n707_6 : ra6.filter (fun i => (Tryz.prog.funcs[i]?).any (·.name == "gosem.cut.vars")) = [707] := by kernel_rfl
theorem named707 : Tryz.prog.funcNamed "gosem.cut.vars" = some 707 := Clo.named_of fsize range_eq (by
  simp only [List.filter_append, n707_0, n707_1, n707_2, n707_3, n707_4, n707_5, n707_6]
  rfl)
theorem n3_0 : ra0.filter (fun i => (Tryz.prog.funcs[i]?).any (·.name == "foregone/foregonelaw23.SearchGraphs")) = [3] := by kernel_rfl
theorem n3_1 : ra1.filter (fun i => (Tryz.prog.funcs[i]?).any (·.name == "foregone/foregonelaw23.SearchGraphs")) = [] := by kernel_rfl
theorem n3_2 : ra2.filter (fun i => (Tryz.prog.funcs[i]?).any (·.name == "foregone/foregonelaw23.SearchGraphs")) = [] := by kernel_rfl
theorem n3_3 : ra3.filter (fun i => (Tryz.prog.funcs[i]?).any (·.name == "foregone/foregonelaw23.SearchGraphs")) = [] := by kernel_rfl
theorem n3_4 : ra4.filter (fun i => (Tryz.prog.funcs[i]?).any (·.name == "foregone/foregonelaw23.SearchGraphs")) = [] := by kernel_rfl
theorem n3_5 : ra5.filter (fun i => (Tryz.prog.funcs[i]?).any (·.name == "foregone/foregonelaw23.SearchGraphs")) = [] := by kernel_rfl
theorem n3_6 : ra6.filter (fun i => (Tryz.prog.funcs[i]?).any (·.name == "foregone/foregonelaw23.SearchGraphs")) = [] := by kernel_rfl
theorem named3 : Tryz.prog.funcNamed "foregone/foregonelaw23.SearchGraphs" = some 3 := Clo.named_of fsize range_eq (by
  simp only [List.filter_append, n3_0, n3_1, n3_2, n3_3, n3_4, n3_5, n3_6]
  rfl)
end Go.TF
