/- What an argument that comes in looks like. No condition beyond those that each theorem states. -/
import Derived.Test.YtjmmhdkjjmlnlaaGreatDoorKl
import Derived.Test.YtjmmhdkjjmlnlaaGreatDoorXe
import Derived.Test.YtjmmhdkjjmlnlaaGreatDoorRows
set_option linter.unusedSimpArgs false
set_option linter.unusedVariables false
set_option linter.unusedSectionVars false
namespace Px
open Go Go.RowKit Go.Proofs
theorem sz26 : Tryz.prog.cellsOf 26 = 32 := by kernel_rfl
theorem sz5 : Tryz.prog.cellsOf 5 = 1 := by kernel_rfl
section
variable {H : Type} {enc : TypeId × Value → H} {w : World} {held : Bool}
/-- a digest that comes in -/
theorem dg_in {cs : Array Value} {m : Nat} {y : DataW H × List MemPlace} (hl : cs.size = 32) (h : DataW.trod enc Tryz.prog w 0 (fun _ => true) held m 26 cs.toList = some y) : ∃ f, cs = dg f := by
  obtain ⟨f, _, hb⟩ := bytes_in Tryz.underlying26 Tryz.underlying5 sz5 sz26 h
  refine ⟨f, ?_⟩
  refine (arr_of (l := (dg f).toList) hl (fun i hi => ?_)).trans (Array.toArray_toList)
  have hi2 : i < 32 := hi
  rw [← Array.getElem?_toList, hb i hi2]
  exact (by rw [Array.getElem?_toList]; exact dg_at f i hi2 : (dg f).toList[i]? = some (.int .u8 (f i))).symm
end
end Px
