/- The tie of the listed package-level variables to the program's text. No condition. -/
import Derived.Test.YtgdbpnpolelfoaaGreatDoorTiedA
import Derived.SevenTiedAt
import Derived.LaidMore
import Derived.LaidLaws
import Derived.LaidHandle
import Derived.MakeChecks
namespace Go.Proofs.YtgdbpnpolelfoaaGreatDoor
open Go Go.TF
set_option maxRecDepth 100000
abbrev laidV : List (String × DataW Unit) := [("internal/strconv.uint64pow10", Rows.laid_internal_strconv_uint64pow10), ("math/bits.deBruijn32tab", Rows.laid_math_bits_deBruijn32tab), ("math/bits.deBruijn64tab", Rows.laid_math_bits_deBruijn64tab), ("strconv.ErrSyntax", Rows.laid_strconv_ErrSyntax), ("strconv.ErrRange", Rows.laid_strconv_ErrRange), ("bytes.ErrTooLarge", Rows.laid_bytes_ErrTooLarge)]
abbrev kindsV : List LaidKind := [.data, .data, .data, .sentinel, .sentinel, .sentinel]
theorem tie4 : laidV.map (fun x => Tryz.prog.kindOfLater x.1) = kindsV.map some := by
  simp only [List.map_cons, List.map_nil, kl0, kl1, kl2, kl3, kl4, kl5]
theorem tie5 : (Tryz.prog.funcNamed "gosem.cut.vars").isSome = true := by rw [named707]; rfl
noncomputable def cv : Code := Tryz.f707.body.getD .skip
theorem cv_eq : (Tryz.prog.funcs[707]?).bind (·.body) = some cv := by rw [Tryz.func707]; kernel_rfl
noncomputable def sv : List Nat := (cv.laysInOrder []).getD []
theorem sv_eq : cv.laysInOrder [] = some sv := by kernel_rfl
theorem cv_alone : Tryz.prog.callsLaidAlone 707 cv = true := by kernel_rfl
theorem tie6 : varsNamedLaterB Tryz.prog (varsId Tryz.prog) laidV = true := by
  rw [varsId_eq]
  unfold varsNamedLaterB
  rw [cv_eq]
  dsimp only
  rw [sv_eq]
  dsimp only
  rw [cv_alone]
  simp only [List.all_cons, List.all_nil, kb0, kb1, kb2, kb3, kb4, kb5]
  kernel_rfl
theorem tie7 (os : Os) (tape : Tape) : varsDone Tryz.prog 400 (varsId Tryz.prog) os tape = true := by rw [varsId_eq]; kernel_rfl
theorem tie8 (os : Os) (tape : Tape) : (DataW.laidRun Tryz.prog (varsWorld Tryz.prog 400 (varsId Tryz.prog) os tape).memory 8 (laidV.map (·.1))).map (·.1) = some laidV := by rw [varsId_eq]; kernel_rfl
theorem tie9 (os : Os) (tape : Tape) : (DataW.laidRun Tryz.prog (varsWorld Tryz.prog 400 (varsId Tryz.prog) os tape).memory 8 (laidV.map (·.1))).map (fun x => decide x.2.Nodup && laidRowsB Tryz.prog (varsWorld Tryz.prog 400 (varsId Tryz.prog) os tape).memory x.2) = some true := by rw [varsId_eq]; kernel_rfl
theorem met3 : (laidV.all fun x => x.2.handleName?.isNone) = true := by kernel_rfl
theorem tied : Tryz.prog.laidByTextLater laidV kindsV true :=
  Program.laidByTextLater_by_run 400 8 tie1 tie2 tie3 tie4 tie5 tie6 tie7 tie8 tie9 met3
theorem met1 (os : Os) (args : Array Value) : (DataW.laidRun Tryz.prog (((World.doorLaid Tryz.prog 400 os).forCall (fun _ _ => 0) ⟨#[], args, []⟩)).memory 8 (laidV.map (·.1))).map (·.1) = some laidV := by unfold World.doorLaid; rw [varsId_eq]; kernel_rfl
theorem met2 (os : Os) (args : Array Value) : (DataW.laidRun Tryz.prog (((World.doorLaid Tryz.prog 400 os).forCall (fun _ _ => 0) ⟨#[], args, []⟩)).memory 8 (laidV.map (·.1))).map (fun x => decide x.2.Nodup && laidRowsB Tryz.prog (((World.doorLaid Tryz.prog 400 os).forCall (fun _ _ => 0) ⟨#[], args, []⟩)).memory x.2) = some true := by unfold World.doorLaid; rw [varsId_eq]; kernel_rfl
theorem door_met (os : Os) (args : Array Value) : laidMetH Tryz.prog laidV (((World.doorLaid Tryz.prog 400 os).forCall (fun _ _ => 0) ⟨#[], args, []⟩)).memory := by
  rw [MakeChecks.laidMetH_plain _ _ _ met3]
  exact laidMet_of_run' 8 (met1 os args) (met2 os args)
end Go.Proofs.YtgdbpnpolelfoaaGreatDoor
