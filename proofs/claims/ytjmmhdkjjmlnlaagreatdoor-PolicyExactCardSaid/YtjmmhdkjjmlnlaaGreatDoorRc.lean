/- The row of PolicyExact, lifted. No condition beyond those that each theorem states. -/
import Derived.Test.YtjmmhdkjjmlnlaaGreatDoorRb
import Derived.SevenTiedAt
set_option linter.unusedSimpArgs false
set_option linter.unusedVariables false
set_option linter.unusedSectionVars false
namespace Go.Proofs.YtjmmhdkjjmlnlaaGreatDoor
open Go Go.ChangeShapes Go.WideShapes Go.ChangeAt Go.RowKit Px
def wit : Array Value := #[.agg #[.int .i64 0, .bool false, .slice none 0 0, .slice none 0 0, .int .i64 0, .int .i64 0], .slice none 0 0, .agg #[.int .u8 0, .int .u8 0, .int .u8 0, .int .u8 0, .int .u8 0, .int .u8 0, .int .u8 0, .int .u8 0, .int .u8 0, .int .u8 0, .int .u8 0, .int .u8 0, .int .u8 0, .int .u8 0, .int .u8 0, .int .u8 0, .int .u8 0, .int .u8 0, .int .u8 0, .int .u8 0, .int .u8 0, .int .u8 0, .int .u8 0, .int .u8 0, .int .u8 0, .int .u8 0, .int .u8 0, .int .u8 0, .int .u8 0, .int .u8 0, .int .u8 0, .int .u8 0, .slice none 0 0]]
def theZ : Fx := ⟨scalL, fun s xs => tagged s xs.length (fU xs), gExp⟩
theorem theZ_ok : FxOk theZ := ⟨fun _ _ => rfl, fun _ _ => rfl, fun _ _ => rfl⟩
set_option maxRecDepth 100000 in
theorem lifted (os : Os) (started : os.Started) (H : Type) (enc : TypeId × Value → H) :
    ReturnsInHanded {} Tryz.checked os 6 .any (fun w args => (Rows.policyExactSpec.pre enc Tryz.prog Tryz.f6 [] false w args ∧ laidMetH Tryz.prog laid3 w) ∧ sizedMet enc Tryz.prog Tryz.f6 (OpenSpec.ofChange Rows.policyExactSpec) false w args)
      (Rows.policyExactSpec.post enc Tryz.prog Tryz.f6 false true false false) := by
  refine returnsInHanded_of_change_and (C := Tryz.checked) (X := fun w _ => laidMetH Tryz.prog laid3 w) (fun _ _ _ hh h => h.of_heap hh) own started (by kernel_rfl) Tryz.func6
    (ChangeSpec.witness_shaped (enc := enc) (C := Tryz.checked) (os := os) (X := fun w _ => laidMetH Tryz.prog laid3 w) false (World.doorLaid Tryz.prog 62 os) wit 8 rfl (World.shaped_of_RefB (by kernel_rfl) (by kernel_rfl)) (by kernel_rfl) (by kernel_rfl) (by kernel_rfl) (door_met os _)) ?_
  intro W base args ds gs before hval0 hW _ _ hL _
  have hval : ∀ (j : Nat) t v, Tryz.f6.params[j]? = some t → args[j]? = some v → Value.okWide Tryz.prog W .any base t v := hval0
  have hW' := hW
  obtain ⟨p, q, hA0, hV, rfl, hfz, hnd⟩ := hW
  have hA : DataW.TrodAll enc Tryz.prog W 0 (fun _ => true) true Tryz.f6.params.toList args.toList ds p := hA0
  rw [Tryz.params6] at hA hval
  obtain ⟨v0, v1, v2, d0, d1, d2, p0, p1, p2, rfl, rfl, rfl, h0, h1, h2⟩ := trodAll_three hA
  obtain ⟨rfl, rfl⟩ := trodVars_none hV
  have k0 := hval 0 24 v0 rfl rfl
  simp only [Value.okWide, Tryz.underlying24] at k0
  obtain ⟨cs0, rfl, hs0, _⟩ := k0
  obtain ⟨m0, q0⟩ := h0
  obtain ⟨p, rfl, hp⟩ := po_in (hs0.trans sz24) q0
  have h0 : DataW.Trod enc Tryz.prog W 0 (fun _ => true) true 24 (.agg (poC p)) d0 p0 := ⟨_, q0⟩
  obtain ⟨m1, q1⟩ := h1
  obtain ⟨a1, ls, cp1, e1, s1, _, _⟩ := sl_in (el := lsC) (n := 5) (fun _ => True) (by decide) Tryz.underlying38 sz49 q1 ls_in
  have k1 := hval 1 38 v1 rfl rfl
  simp only [Value.okWide, Tryz.underlying38] at k1
  obtain rfl : v1 = .slice a1 ls.length cp1 := by
    cases v1 <;> simp_all [Value.cells, Cell.okWide, Cell.ok]
  have h1 : DataW.Trod enc Tryz.prog W 0 (fun _ => true) true 38 (.slice a1 ls.length cp1) d1 p1 := ⟨_, q1⟩
  have k2 := hval 2 41 v2 rfl rfl
  simp only [Value.okWide, Tryz.underlying41] at k2
  obtain ⟨cs2, rfl, hs2, _⟩ := k2
  obtain ⟨m2, q2⟩ := h2
  obtain ⟨f, ca, cs, cc, rfl, hcs, hdev⟩ := ex_in (hs2.trans sz41) q2
  have h2 : DataW.Trod enc Tryz.prog W 0 (fun _ => true) true 41 (.agg (exC ⟨f, ca, cs, cc⟩)) d2 p2 := ⟨_, q2⟩
  have hG := glb_of_laid hL
  have hlt : ∀ y ∈ p0 ++ p1 ++ p2 ++ [], y.block < W.heap.size := fun y hy => hW'.lt y hy
  refine (law46_PolicyExact theZ_ok p W.heap.size W (Nat.le_refl _) hp ls f cs a1 cp1 ca cc s1 hcs hG hG.lt hdev).mono fun e W' ⟨he, hB⟩ => ?_
  subst he
  have e1 : Rows.policyExactSpec.fn H ([d0, d1, d2] ++ []) = { results := [.lit (.bool true)], args := [d0, d1, d2] } := by simp [Rows.policyExactSpec]
  refine ⟨_, rfl, _, _, _, [], p0 ++ (p1 ++ (p2)), [], hW', ?_, ?_, ?_, hB.frame _, fun h => by cases h⟩
  · rw [e1]; exact trodAll_mk1 (shut_bool Tryz.underlying4 true)
  · rw [e1]
    exact trodAll_mk3 (Below.trod laidOut (by kernel_rfl) (of_decide_eq_true (by kernel_rfl)) h0 hB (fun y hy => hlt y (by simp [hy]))) (Below.trod laidOut (by kernel_rfl) (of_decide_eq_true (by kernel_rfl)) h1 hB (fun y hy => hlt y (by simp [hy]))) (Below.trod laidOut (by kernel_rfl) (of_decide_eq_true (by kernel_rfl)) h2 hB (fun y hy => hlt y (by simp [hy])))
  · rw [e1]; rfl
end Go.Proofs.YtjmmhdkjjmlnlaaGreatDoor
