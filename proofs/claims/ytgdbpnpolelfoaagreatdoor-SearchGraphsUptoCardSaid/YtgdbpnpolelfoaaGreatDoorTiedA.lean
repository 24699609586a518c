/- What the program's text says of the listed package-level variables. No condition. -/
import Derived.Test.YtgdbpnpolelfoaaGreatDoorRows
import Derived.Test.YtgdbpnpolelfoaaGreatDoorCloNames
import Derived.LaidByTextLater
import Derived.KernelRfl
namespace Go.Proofs.YtgdbpnpolelfoaaGreatDoor
open Go Go.TF
set_option maxRecDepth 100000
theorem noUnsafe : Tryz.pinned.checked.prog.headLifts.contains "ownunsafe" = false := by kernel_rfl
theorem tie1 : Tryz.prog.worded (varsWordLater true) = true := by kernel_rfl
theorem tie2 : Tryz.prog.worded (varsWordLater !true) = false := by kernel_rfl
theorem tie3 : Tryz.prog.worded rootWordLater = true := by kernel_rfl
theorem kb0 : Tryz.prog.kindBase "internal/strconv.uint64pow10" = some .data := by kernel_rfl
theorem kl0 : Tryz.prog.kindOfLater "internal/strconv.uint64pow10" = some .data := by unfold Program.kindOfLater; rw [kb0]
theorem kb1 : Tryz.prog.kindBase "math/bits.deBruijn32tab" = some .data := by kernel_rfl
theorem kl1 : Tryz.prog.kindOfLater "math/bits.deBruijn32tab" = some .data := by unfold Program.kindOfLater; rw [kb1]
theorem kb2 : Tryz.prog.kindBase "math/bits.deBruijn64tab" = some .data := by kernel_rfl
theorem kl2 : Tryz.prog.kindOfLater "math/bits.deBruijn64tab" = some .data := by unfold Program.kindOfLater; rw [kb2]
theorem kb3 : Tryz.prog.kindBase "strconv.ErrSyntax" = some .sentinel := by kernel_rfl
theorem kl3 : Tryz.prog.kindOfLater "strconv.ErrSyntax" = some .sentinel := by unfold Program.kindOfLater; rw [kb3]
theorem kb4 : Tryz.prog.kindBase "strconv.ErrRange" = some .sentinel := by kernel_rfl
theorem kl4 : Tryz.prog.kindOfLater "strconv.ErrRange" = some .sentinel := by unfold Program.kindOfLater; rw [kb4]
theorem kb5 : Tryz.prog.kindBase "bytes.ErrTooLarge" = some .sentinel := by kernel_rfl
theorem kl5 : Tryz.prog.kindOfLater "bytes.ErrTooLarge" = some .sentinel := by unfold Program.kindOfLater; rw [kb5]
theorem varsId_eq : varsId Tryz.prog = 707 := by unfold varsId; rw [named707]; rfl
end Go.Proofs.YtgdbpnpolelfoaaGreatDoor
