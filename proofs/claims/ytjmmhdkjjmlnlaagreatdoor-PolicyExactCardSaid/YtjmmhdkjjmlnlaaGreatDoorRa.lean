/- What an argument that comes in looks like. No condition beyond those that each theorem states. -/
import Derived.Test.YtjmmhdkjjmlnlaaGreatDoorKl
import Derived.Test.YtjmmhdkjjmlnlaaGreatDoorXe
import Derived.Test.YtjmmhdkjjmlnlaaGreatDoorRows
set_option linter.unusedSimpArgs false
set_option linter.unusedVariables false
set_option linter.unusedSectionVars false
namespace Px
open Go Go.RowKit Go.Proofs
theorem sz3 : Tryz.prog.cellsOf 3 = 1 := by kernel_rfl
theorem sz4 : Tryz.prog.cellsOf 4 = 1 := by kernel_rfl
theorem sz24 : Tryz.prog.cellsOf 24 = 6 := by kernel_rfl
theorem sz22 : Tryz.prog.cellsOf 22 = 1 := by kernel_rfl
theorem sz49 : Tryz.prog.cellsOf 49 = 5 := by kernel_rfl
theorem sz41 : Tryz.prog.cellsOf 41 = 33 := by kernel_rfl
theorem sz39 : Tryz.prog.cellsOf 39 = 1 := by kernel_rfl
theorem sz32 : Tryz.prog.cellsOf 32 = 3 := by kernel_rfl
theorem sz30 : Tryz.prog.cellsOf 30 = 2 := by kernel_rfl
theorem sz26 : Tryz.prog.cellsOf 26 = 32 := by kernel_rfl
theorem sz5 : Tryz.prog.cellsOf 5 = 1 := by kernel_rfl
section
variable {H : Type} {enc : TypeId × Value → H} {w : World} {held : Bool}
/-- a listing that comes in -/
theorem ls_in (cs' : List Value) (m : Nat) (y : DataW H × List MemPlace) (hl : cs'.length = 5) (h : DataW.trod enc Tryz.prog w 0 (fun _ => true) held m 49 cs' = some y) : ∃ z, cs' = (lsC z).toList ∧ True := by
  obtain ⟨xs, n, rfl, _, _, hxl, hf⟩ := DataW.trod_struct Tryz.underlying49 h
  have f0 : DataW.trod enc Tryz.prog w 0 (fun _ => true) held n 3 ((cs'.drop 0).take (Tryz.prog.cellsOf 3)) = xs[0]? := hf 0 _ rfl
  rw [sz3, List.getElem?_eq_getElem (show 0 < xs.length by rw [hxl]; decide)] at f0
  obtain ⟨n0, e0, _, _⟩ := DataW.trod_int Tryz.underlying3 f0
  have g0 := fld1 e0
  have f1 : DataW.trod enc Tryz.prog w 0 (fun _ => true) held n 3 ((cs'.drop 1).take (Tryz.prog.cellsOf 3)) = xs[1]? := hf 1 _ rfl
  rw [sz3, List.getElem?_eq_getElem (show 1 < xs.length by rw [hxl]; decide)] at f1
  obtain ⟨n1, e1, _, _⟩ := DataW.trod_int Tryz.underlying3 f1
  have g1 := fld1 e1
  have f2 : DataW.trod enc Tryz.prog w 0 (fun _ => true) held n 3 ((cs'.drop 2).take (Tryz.prog.cellsOf 3)) = xs[2]? := hf 2 _ rfl
  rw [sz3, List.getElem?_eq_getElem (show 2 < xs.length by rw [hxl]; decide)] at f2
  obtain ⟨n2, e2, _, _⟩ := DataW.trod_int Tryz.underlying3 f2
  have g2 := fld1 e2
  have f3 : DataW.trod enc Tryz.prog w 0 (fun _ => true) held n 3 ((cs'.drop 3).take (Tryz.prog.cellsOf 3)) = xs[3]? := hf 3 _ rfl
  rw [sz3, List.getElem?_eq_getElem (show 3 < xs.length by rw [hxl]; decide)] at f3
  obtain ⟨n3, e3, _, _⟩ := DataW.trod_int Tryz.underlying3 f3
  have g3 := fld1 e3
  have f4 : DataW.trod enc Tryz.prog w 0 (fun _ => true) held n 4 ((cs'.drop 4).take (Tryz.prog.cellsOf 4)) = xs[4]? := hf 4 _ rfl
  rw [sz4, List.getElem?_eq_getElem (show 4 < xs.length by rw [hxl]; decide)] at f4
  obtain ⟨n4, e4, _⟩ := DataW.trod_bool Tryz.underlying4 f4
  have g4 := fld1 e4
  clear h hf f0 f1 f2 f3 f4 e0 e1 e2 e3 e4
  obtain ⟨a, b, c, d, e, rfl⟩ := len5 hl
  simp at g0 g1 g2 g3 g4
  subst g0 g1 g2 g3 g4
  exact ⟨⟨n0, n1, n2, n3, n4⟩, rfl, trivial⟩
/-- an approval that comes in -/
theorem cn_in (cs' : List Value) (m : Nat) (y : DataW H × List MemPlace) (hl : cs'.length = 3) (h : DataW.trod enc Tryz.prog w 0 (fun _ => true) held m 32 cs' = some y) : ∃ z, cs' = (cnC z).toList ∧ I64 z.dev := by
  obtain ⟨xs, n, rfl, _, _, hxl, hf⟩ := DataW.trod_struct Tryz.underlying32 h
  have f0 : DataW.trod enc Tryz.prog w 0 (fun _ => true) held n 3 ((cs'.drop 0).take (Tryz.prog.cellsOf 3)) = xs[0]? := hf 0 _ rfl
  rw [sz3, List.getElem?_eq_getElem (show 0 < xs.length by rw [hxl]; decide)] at f0
  obtain ⟨n0, e0, _, w0⟩ := DataW.trod_int Tryz.underlying3 f0
  have g0 := fld1 e0
  have f1 : DataW.trod enc Tryz.prog w 0 (fun _ => true) held n 30 ((cs'.drop 1).take (Tryz.prog.cellsOf 30)) = xs[1]? := hf 1 _ rfl
  rw [sz30, List.getElem?_eq_getElem (show 1 < xs.length by rw [hxl]; decide)] at f1
  obtain ⟨xs2, n2, rfl, _, _, hxl2, hf2⟩ := DataW.trod_struct Tryz.underlying30 f1
  have h0 : DataW.trod enc Tryz.prog w 0 (fun _ => true) held n2 3 ((((cs'.drop 1).take 2).drop 0).take (Tryz.prog.cellsOf 3)) = xs2[0]? := hf2 0 _ rfl
  rw [sz3, List.getElem?_eq_getElem (show 0 < xs2.length by rw [hxl2]; decide)] at h0
  obtain ⟨m0, k0, _, _⟩ := DataW.trod_int Tryz.underlying3 h0
  have q0 := fld1 k0
  have h1 : DataW.trod enc Tryz.prog w 0 (fun _ => true) held n2 3 ((((cs'.drop 1).take 2).drop 1).take (Tryz.prog.cellsOf 3)) = xs2[1]? := hf2 1 _ rfl
  rw [sz3, List.getElem?_eq_getElem (show 1 < xs2.length by rw [hxl2]; decide)] at h1
  obtain ⟨m1, k1, _, _⟩ := DataW.trod_int Tryz.underlying3 h1
  have q1 := fld1 k1
  clear h hf f0 f1 e0 hf2 h0 h1 k0 k1
  obtain ⟨a, b, c, rfl⟩ := len3 hl
  simp at g0 q0 q1
  subst g0 q0 q1
  exact ⟨⟨n0, m0, m1⟩, rfl, wfI w0⟩
theorem int_in (cs' : List Value) (m : Nat) (y : DataW H × List MemPlace) (_ : cs'.length = 1) (h : DataW.trod enc Tryz.prog w 0 (fun _ => true) held m 3 cs' = some y) : ∃ z, cs' = (encI z).toList ∧ True := by
  obtain ⟨n, e, _⟩ := DataW.trod_int Tryz.underlying3 h
  exact ⟨n, e, trivial⟩
/-- a policy that comes in -/
theorem po_in {cs : Array Value} {m : Nat} {y : DataW H × List MemPlace} (hl : cs.size = 6) (h : DataW.trod enc Tryz.prog w 0 (fun _ => true) held m 24 cs.toList = some y) : ∃ p, cs = poC p ∧ PoAt w.heap.size w p := by
  obtain ⟨xs, n, rfl, _, _, hxl, hf⟩ := DataW.trod_struct Tryz.underlying24 h
  have f0 : DataW.trod enc Tryz.prog w 0 (fun _ => true) held n 3 ((cs.toList.drop 0).take (Tryz.prog.cellsOf 3)) = xs[0]? := hf 0 _ rfl
  rw [sz3, List.getElem?_eq_getElem (show 0 < xs.length by rw [hxl]; decide)] at f0
  obtain ⟨n0, e0, _, _⟩ := DataW.trod_int Tryz.underlying3 f0
  have g0 := fld1 e0
  have f1 : DataW.trod enc Tryz.prog w 0 (fun _ => true) held n 4 ((cs.toList.drop 1).take (Tryz.prog.cellsOf 4)) = xs[1]? := hf 1 _ rfl
  rw [sz4, List.getElem?_eq_getElem (show 1 < xs.length by rw [hxl]; decide)] at f1
  obtain ⟨n1, e1, _⟩ := DataW.trod_bool Tryz.underlying4 f1
  have g1 := fld1 e1
  have f2 : DataW.trod enc Tryz.prog w 0 (fun _ => true) held n 22 ((cs.toList.drop 2).take (Tryz.prog.cellsOf 22)) = xs[2]? := hf 2 _ rfl
  rw [sz22, List.getElem?_eq_getElem (show 2 < xs.length by rw [hxl]; decide)] at f2
  obtain ⟨a2, l2, c2, e2, s2, _, _⟩ := sl_in (el := encI) (n := 1) (fun _ => True) (by decide) Tryz.underlying22 sz3 f2 int_in
  have g2 := fld1 e2
  have f3 : DataW.trod enc Tryz.prog w 0 (fun _ => true) held n 22 ((cs.toList.drop 3).take (Tryz.prog.cellsOf 22)) = xs[3]? := hf 3 _ rfl
  rw [sz22, List.getElem?_eq_getElem (show 3 < xs.length by rw [hxl]; decide)] at f3
  obtain ⟨a3, l3, c3, e3, s3, _, _⟩ := sl_in (el := encI) (n := 1) (fun _ => True) (by decide) Tryz.underlying22 sz3 f3 int_in
  have g3 := fld1 e3
  have f4 : DataW.trod enc Tryz.prog w 0 (fun _ => true) held n 3 ((cs.toList.drop 4).take (Tryz.prog.cellsOf 3)) = xs[4]? := hf 4 _ rfl
  rw [sz3, List.getElem?_eq_getElem (show 4 < xs.length by rw [hxl]; decide)] at f4
  obtain ⟨n4, e4, _, _⟩ := DataW.trod_int Tryz.underlying3 f4
  have g4 := fld1 e4
  have f5 : DataW.trod enc Tryz.prog w 0 (fun _ => true) held n 3 ((cs.toList.drop 5).take (Tryz.prog.cellsOf 3)) = xs[5]? := hf 5 _ rfl
  rw [sz3, List.getElem?_eq_getElem (show 5 < xs.length by rw [hxl]; decide)] at f5
  obtain ⟨n5, e5, _, _⟩ := DataW.trod_int Tryz.underlying3 f5
  have g5 := fld1 e5
  refine ⟨⟨n0, n1, a2, l2, c2, a3, l3, c3, n4, n5⟩, ?_, ⟨s2, s3⟩⟩
  refine (arr_of (l := (poC ⟨n0, n1, a2, l2, c2, a3, l3, c3, n4, n5⟩).toList) hl (fun i hi => ?_)).trans (Array.toArray_toList)
  have hi2 : i < 6 := hi
  rw [← Array.getElem?_toList]
  match i, hi2 with
  | 0, _ => exact g0
  | 1, _ => exact g1
  | 2, _ => exact g2
  | 3, _ => exact g3
  | 4, _ => exact g4
  | 5, _ => exact g5
  | i + 6, hlt => exact absurd hlt (by omega)
/-- an export that comes in -/
theorem ex_in {cs : Array Value} {m : Nat} {y : DataW H × List MemPlace} (hl : cs.size = 33) (h : DataW.trod enc Tryz.prog w 0 (fun _ => true) held m 41 cs.toList = some y) : ∃ f ca l cc, cs = exC ⟨f, ca, l, cc⟩ ∧ SlAt cnC 3 w.heap.size w ca l ∧ ∀ z ∈ l, I64 z.dev := by
  obtain ⟨xs, n, rfl, _, _, hxl, hf⟩ := DataW.trod_struct Tryz.underlying41 h
  have f0 : DataW.trod enc Tryz.prog w 0 (fun _ => true) held n 26 ((cs.toList.drop 0).take (Tryz.prog.cellsOf 26)) = xs[0]? := hf 0 _ rfl
  rw [sz26, List.getElem?_eq_getElem (show 0 < xs.length by rw [hxl]; decide)] at f0
  have f1 : DataW.trod enc Tryz.prog w 0 (fun _ => true) held n 39 ((cs.toList.drop 32).take (Tryz.prog.cellsOf 39)) = xs[1]? := hf 1 _ rfl
  rw [sz39, List.getElem?_eq_getElem (show 1 < xs.length by rw [hxl]; decide)] at f1
  obtain ⟨f, _, hb⟩ := bytes_in Tryz.underlying26 Tryz.underlying5 sz5 sz26 f0
  have hb2 : ∀ i, i < 32 → cs.toList[i]? = some (.int .u8 (f i)) := fun i hi => by
    have := hb i hi
    rw [List.drop_zero, List.getElem?_take_of_lt hi] at this
    exact this
  obtain ⟨a1, l1, c1, e1, s1, q1, _⟩ := sl_in (el := cnC) (n := 3) (fun z => I64 z.dev) (by decide) Tryz.underlying39 sz32 f1 cn_in
  have g1 := fld1 e1
  refine ⟨f, a1, l1, c1, ?_, s1, q1⟩
  refine (arr_of (l := (exC ⟨f, a1, l1, c1⟩).toList) hl (fun i hi => ?_)).trans (Array.toArray_toList)
  have hi2 : i < 33 := hi
  rw [← Array.getElem?_toList]
  match i, hi2 with
  | 0, _ => exact hb2 0 (by decide)
  | 1, _ => exact hb2 1 (by decide)
  | 2, _ => exact hb2 2 (by decide)
  | 3, _ => exact hb2 3 (by decide)
  | 4, _ => exact hb2 4 (by decide)
  | 5, _ => exact hb2 5 (by decide)
  | 6, _ => exact hb2 6 (by decide)
  | 7, _ => exact hb2 7 (by decide)
  | 8, _ => exact hb2 8 (by decide)
  | 9, _ => exact hb2 9 (by decide)
  | 10, _ => exact hb2 10 (by decide)
  | 11, _ => exact hb2 11 (by decide)
  | 12, _ => exact hb2 12 (by decide)
  | 13, _ => exact hb2 13 (by decide)
  | 14, _ => exact hb2 14 (by decide)
  | 15, _ => exact hb2 15 (by decide)
  | 16, _ => exact hb2 16 (by decide)
  | 17, _ => exact hb2 17 (by decide)
  | 18, _ => exact hb2 18 (by decide)
  | 19, _ => exact hb2 19 (by decide)
  | 20, _ => exact hb2 20 (by decide)
  | 21, _ => exact hb2 21 (by decide)
  | 22, _ => exact hb2 22 (by decide)
  | 23, _ => exact hb2 23 (by decide)
  | 24, _ => exact hb2 24 (by decide)
  | 25, _ => exact hb2 25 (by decide)
  | 26, _ => exact hb2 26 (by decide)
  | 27, _ => exact hb2 27 (by decide)
  | 28, _ => exact hb2 28 (by decide)
  | 29, _ => exact hb2 29 (by decide)
  | 30, _ => exact hb2 30 (by decide)
  | 31, _ => exact hb2 31 (by decide)
  | 32, _ => exact g1
  | i + 33, hlt => exact absurd hlt (by omega)
end
end Px
