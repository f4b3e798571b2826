/- What an argument that comes in looks like. No condition beyond those that each theorem states. -/
import Derived.Test.YtjmmhdkjjmlnlaaGreatDoorKl
import Derived.Test.YtjmmhdkjjmlnlaaGreatDoorXe
import Derived.Test.YtjmmhdkjjmlnlaaGreatDoorRows
set_option linter.unusedSimpArgs false
set_option linter.unusedVariables false
set_option linter.unusedSectionVars false
namespace Px
open Go Go.RowKit Go.Proofs
theorem sz3 : Tryz.prog.cellsOf 3 = 1 := by kernel_rfl
theorem sz4 : Tryz.prog.cellsOf 4 = 1 := by kernel_rfl
theorem sz24 : Tryz.prog.cellsOf 24 = 6 := by kernel_rfl
theorem sz22 : Tryz.prog.cellsOf 22 = 1 := by kernel_rfl
theorem sz26 : Tryz.prog.cellsOf 26 = 32 := by kernel_rfl
theorem sz5 : Tryz.prog.cellsOf 5 = 1 := by kernel_rfl
section
variable {H : Type} {enc : TypeId × Value → H} {w : World} {held : Bool}
theorem int_in (cs' : List Value) (m : Nat) (y : DataW H × List MemPlace) (_ : cs'.length = 1) (h : DataW.trod enc Tryz.prog w 0 (fun _ => true) held m 3 cs' = some y) : ∃ z, cs' = (encI z).toList ∧ True := by
  obtain ⟨n, e, _⟩ := DataW.trod_int Tryz.underlying3 h
  exact ⟨n, e, trivial⟩
/-- a policy that comes in -/
theorem po_in {cs : Array Value} {m : Nat} {y : DataW H × List MemPlace} (hl : cs.size = 6) (h : DataW.trod enc Tryz.prog w 0 (fun _ => true) held m 24 cs.toList = some y) : ∃ p, cs = poC p ∧ PoAt w.heap.size w p := by
  obtain ⟨xs, n, rfl, _, _, hxl, hf⟩ := DataW.trod_struct Tryz.underlying24 h
  have f0 : DataW.trod enc Tryz.prog w 0 (fun _ => true) held n 3 ((cs.toList.drop 0).take (Tryz.prog.cellsOf 3)) = xs[0]? := hf 0 _ rfl
  rw [sz3, List.getElem?_eq_getElem (show 0 < xs.length by rw [hxl]; decide)] at f0
  obtain ⟨n0, e0, _, _⟩ := DataW.trod_int Tryz.underlying3 f0
  have g0 := fld1 e0
  have f1 : DataW.trod enc Tryz.prog w 0 (fun _ => true) held n 4 ((cs.toList.drop 1).take (Tryz.prog.cellsOf 4)) = xs[1]? := hf 1 _ rfl
  rw [sz4, List.getElem?_eq_getElem (show 1 < xs.length by rw [hxl]; decide)] at f1
  obtain ⟨n1, e1, _⟩ := DataW.trod_bool Tryz.underlying4 f1
  have g1 := fld1 e1
  have f2 : DataW.trod enc Tryz.prog w 0 (fun _ => true) held n 22 ((cs.toList.drop 2).take (Tryz.prog.cellsOf 22)) = xs[2]? := hf 2 _ rfl
  rw [sz22, List.getElem?_eq_getElem (show 2 < xs.length by rw [hxl]; decide)] at f2
  obtain ⟨a2, l2, c2, e2, s2, _, _⟩ := sl_in (el := encI) (n := 1) (fun _ => True) (by decide) Tryz.underlying22 sz3 f2 int_in
  have g2 := fld1 e2
  have f3 : DataW.trod enc Tryz.prog w 0 (fun _ => true) held n 22 ((cs.toList.drop 3).take (Tryz.prog.cellsOf 22)) = xs[3]? := hf 3 _ rfl
  rw [sz22, List.getElem?_eq_getElem (show 3 < xs.length by rw [hxl]; decide)] at f3
  obtain ⟨a3, l3, c3, e3, s3, _, _⟩ := sl_in (el := encI) (n := 1) (fun _ => True) (by decide) Tryz.underlying22 sz3 f3 int_in
  have g3 := fld1 e3
  have f4 : DataW.trod enc Tryz.prog w 0 (fun _ => true) held n 3 ((cs.toList.drop 4).take (Tryz.prog.cellsOf 3)) = xs[4]? := hf 4 _ rfl
  rw [sz3, List.getElem?_eq_getElem (show 4 < xs.length by rw [hxl]; decide)] at f4
  obtain ⟨n4, e4, _, _⟩ := DataW.trod_int Tryz.underlying3 f4
  have g4 := fld1 e4
  have f5 : DataW.trod enc Tryz.prog w 0 (fun _ => true) held n 3 ((cs.toList.drop 5).take (Tryz.prog.cellsOf 3)) = xs[5]? := hf 5 _ rfl
  rw [sz3, List.getElem?_eq_getElem (show 5 < xs.length by rw [hxl]; decide)] at f5
  obtain ⟨n5, e5, _, _⟩ := DataW.trod_int Tryz.underlying3 f5
  have g5 := fld1 e5
  refine ⟨⟨n0, n1, a2, l2, c2, a3, l3, c3, n4, n5⟩, ?_, ⟨s2, s3⟩⟩
  refine (arr_of (l := (poC ⟨n0, n1, a2, l2, c2, a3, l3, c3, n4, n5⟩).toList) hl (fun i hi => ?_)).trans (Array.toArray_toList)
  have hi2 : i < 6 := hi
  rw [← Array.getElem?_toList]
  match i, hi2 with
  | 0, _ => exact g0
  | 1, _ => exact g1
  | 2, _ => exact g2
  | 3, _ => exact g3
  | 4, _ => exact g4
  | 5, _ => exact g5
  | i + 6, hlt => exact absurd hlt (by omega)
/-- a digest that comes in -/
theorem dg_in {cs : Array Value} {m : Nat} {y : DataW H × List MemPlace} (hl : cs.size = 32) (h : DataW.trod enc Tryz.prog w 0 (fun _ => true) held m 26 cs.toList = some y) : ∃ f, cs = dg f := by
  obtain ⟨f, _, hb⟩ := bytes_in Tryz.underlying26 Tryz.underlying5 sz5 sz26 h
  refine ⟨f, ?_⟩
  refine (arr_of (l := (dg f).toList) hl (fun i hi => ?_)).trans (Array.toArray_toList)
  have hi2 : i < 32 := hi
  rw [← Array.getElem?_toList, hb i hi2]
  exact (by rw [Array.getElem?_toList]; exact dg_at f i hi2 : (dg f).toList[i]? = some (.int .u8 (f i))).symm
end
end Px
