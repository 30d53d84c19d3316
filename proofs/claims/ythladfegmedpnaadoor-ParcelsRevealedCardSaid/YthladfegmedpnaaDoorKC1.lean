import Derived.Test.YthladfegmedpnaaDoorK4
import Derived.Test.YthladfegmedpnaaDoorRows
import Derived.Test.YthladfegmedpnaaDoorTie
import Derived.Test.YthladfegmedpnaaDoorCards
import Derived.Lib.LaidTab
import Derived.Stop.LaidErr
import Derived.Lib.SmallJoins
import Derived.ProofKit
import Derived.LaidMore
import Derived.OpenShut
import Derived.Stop.Joined
import Derived.SevenTiedAt
set_option linter.unusedVariables false
set_option linter.unusedSimpArgs false

/- What all rows of this seat share: the listed variables hold what the walks read; the witness. -/
namespace Go.Proofs.YthladfegmedpnaaDoor.P
open Go Go.RowKit Go.ChangeShapes Go.WideShapes Go.ChangeAt Go.WideMaps Go.WideElems

def laidList : List (String × DataW Unit) := [("signatory/digest.start", Rows.laid_signatory_digest_start), ("signatory/digest.numbers", Rows.laid_signatory_digest_numbers)]

theorem own0 : ownKnob Tryd.prog.godebug = none := by kernel_rfl
theorem gStart : Tryd.prog.globalNamed "signatory/digest.start" = some 0 := by kernel_rfl
theorem gNumbers : Tryd.prog.globalNamed "signatory/digest.numbers" = some 1 := by kernel_rfl
theorem tStart : (Tryd.prog.globals[0]?).map (·.type) = some 104 := by kernel_rfl
theorem tNumbers : (Tryd.prog.globals[1]?).map (·.type) = some 116 := by kernel_rfl
theorem c8 : Tryd.prog.cellsOf 104 = 8 := by kernel_rfl
theorem c64 : Tryd.prog.cellsOf 116 = 64 := by kernel_rfl
theorem c1 : Tryd.prog.cellsOf 103 = 1 := by kernel_rfl

/-- The door's own heap meets the condition. -/
theorem door_met (os : Os) (args : Array Value) : laidMetH Tryd.prog laidList ((World.doorLaid Tryd.prog 400 os).forCall (fun _ _ => 0) ⟨#[], args, []⟩).memory :=
  laidMetH_of_parts3 (fuel := 8) (laidMet_of_run' 8 (by kernel_rfl) (by kernel_rfl)) (by kernel_rfl) (by kernel_rfl)

theorem glob_of_laid {W : World} (h : laidMetH Tryd.prog laidList W) : Glob W := by
  rw [MakeChecks.laidMetH_plain _ _ _ (by kernel_rfl)] at h
  have h1 : laidMet Tryd.prog (("signatory/digest.start", Lib.tabData .u32 startL) :: [("signatory/digest.numbers", Lib.tabData .u32 numL)]) W := h
  have t1 := Lib.tabIs_of_head gStart tStart Tryd.underlying104 Tryd.underlying103 c1 c8 h1
  have t2 := Lib.tabIs_of_head gNumbers tNumbers Tryd.underlying116 Tryd.underlying103 c1 c64 (laidMet.tail h1)
  exact ⟨fun i hi => t1.cell gStart i hi, fun i hi => t2.cell gNumbers i hi⟩

theorem i64_wf {a : Int} (h : (Lit.int .i64 a).wf = true) : i64 a := by
  simp only [Lit.wf, Bool.and_eq_true, decide_eq_true_eq] at h
  exact h

end Go.Proofs.YthladfegmedpnaaDoor.P
