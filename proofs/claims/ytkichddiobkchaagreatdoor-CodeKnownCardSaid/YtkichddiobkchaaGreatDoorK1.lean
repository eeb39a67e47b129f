/-
  CodeKnown, part 1: the run, told by a Bool; the heap that it starts in.
-/
import Derived.Test.YtkichddiobkchaaGreatDoorSt
import Derived.Test.YtkichddiobkchaaGreatDoorL1
set_option linter.unusedSectionVars false
set_option linter.unusedVariables false
set_option linter.unusedSimpArgs false
namespace Go.Am.S
open Go Go.Am Go.Proofs
set_option maxRecDepth 100000
noncomputable def pow23 : List Nat := [4607182418800017408, 4621819117588971520, 4636737291354636288, 4652007308841189376, 4666723172467343360, 4681608360884174848, 4696837146684686336, 4711630319722168320, 4726483295884279808, 4741671816366391296, 4756540486875873280, 4771362005757984768, 4786511204640096256, 4801453603149578240, 4816244402031689728, 4831355200913801216, 4846369599423283200, 4861130398305394688, 4876203697187506176, 4891288408196988160, 4906019910204099648, 4921056587992461136, 4936209963552724370]
/-- The program's variables that the run reads, as the text lays them. -/
noncomputable def h01 : AH := ((((AH.mk 22 .leaf).set 12 (.cells true [.bool true])).set 14 (.cells true [.int .u64 52, .int .u64 11, .int .i64 (-1023)])).push (.cells true (pow23.map fun n => .float .f64 n))).set 19 (.cells true [.slice (some ⟨22, 0, none⟩) 23 1])
def isT : Value → AH → Bool
  | .bool b, _ => b
  | _, _ => false
theorem isT_eq {v : Value} {h : AH} (e : isT v h = true) : v = .bool true := by
  unfold isT at e
  split at e
  · subst e; rfl
  · cases e
theorem codeKnown_run : callSN ABool (tabS Bool ABool) (loopSN ABool 5000) .leaf 100 4 [] h01 isT = true := by kernel_rfl
end Go.Am.S
