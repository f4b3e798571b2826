/- The row of LinksMakeSpec, lifted. No condition beyond those that each theorem states. -/
import Derived.Test.YtcfkhjpgdpeimaaGreatDoorRb
import Derived.SevenTiedAt
set_option linter.unusedSimpArgs false
set_option linter.unusedVariables false
namespace Go.Proofs.YtcfkhjpgdpeimaaGreatDoor
open Go Go.ChangeShapes Go.WideShapes Go.ChangeAt Go.RowKit Px
def wit : Array Value := #[.agg #[.int .i64 0, .int .i64 0, .int .i64 0, .int .i64 0, .int .i64 0, .bool false, .int .u8 0, .int .u8 0, .int .u8 0, .int .u8 0, .int .u8 0, .int .u8 0, .int .u8 0, .int .u8 0, .int .u8 0, .int .u8 0, .int .u8 0, .int .u8 0, .int .u8 0, .int .u8 0, .int .u8 0, .int .u8 0, .int .u8 0, .int .u8 0, .int .u8 0, .int .u8 0, .int .u8 0, .int .u8 0, .int .u8 0, .int .u8 0, .int .u8 0, .int .u8 0, .int .u8 0, .int .u8 0, .int .u8 0, .int .u8 0, .int .u8 0, .int .u8 0, .int .i64 0, .int .i64 0], .agg #[.int .u8 0, .int .u8 0, .int .u8 0, .int .u8 0, .int .u8 0, .int .u8 0, .int .u8 0, .int .u8 0, .int .u8 0, .int .u8 0, .int .u8 0, .int .u8 0, .int .u8 0, .int .u8 0, .int .u8 0, .int .u8 0, .int .u8 0, .int .u8 0, .int .u8 0, .int .u8 0, .int .u8 0, .int .u8 0, .int .u8 0, .int .u8 0, .int .u8 0, .int .u8 0, .int .u8 0, .int .u8 0, .int .u8 0, .int .u8 0, .int .u8 0, .int .u8 0, .int .u8 0, .int .u8 0, .int .u8 0, .int .u8 0, .int .u8 0, .int .u8 0, .int .u8 0, .int .u8 0, .int .u8 0, .int .u8 0, .int .u8 0, .int .u8 0, .int .u8 0, .int .u8 0, .int .u8 0, .int .u8 0, .int .u8 0, .int .u8 0, .int .u8 0, .int .u8 0, .int .u8 0, .int .u8 0, .int .u8 0, .int .u8 0, .int .u8 0, .int .u8 0, .int .u8 0, .int .u8 0, .int .u8 0, .int .u8 0, .int .u8 0, .int .u8 0], .int .i64 0, .int .i64 0, .int .i64 0]
def theZ : Fx := ⟨scalL, fun s xs => tagged s xs.length (fU xs), gExp⟩
theorem theZ_ok : FxOk theZ := ⟨fun _ _ => rfl, fun _ _ => rfl, fun _ _ => rfl⟩
theorem spec_said (W : World) (hg : Glb W) (l : Lk) (hl : LkOk l) (k : Ek) (hkc : Byt k.com) (hks : Byt k.sec) (b x sec : Int) (hb : I64 b) : Calls Tryz.prog 3 #[.agg (lkC l), .agg (ekC k), .int .i64 b, .int .i64 x, .int .i64 sec] W (Ret W (.bool true)) :=
  law40_LinksMakeSpec theZ_ok l hl k hkc hks b x sec W hb hg
set_option maxRecDepth 100000 in
theorem lifted (os : Os) (started : os.Started) (H : Type) (enc : TypeId × Value → H) :
    ReturnsInHanded {} Tryz.checked os 3 .any (fun w args => (Rows.linksMakeSpecSpec.pre enc Tryz.prog Tryz.f3 [] false w args ∧ laidMetH Tryz.prog laid3 w) ∧ sizedMet enc Tryz.prog Tryz.f3 (OpenSpec.ofChange Rows.linksMakeSpecSpec) false w args)
      (Rows.linksMakeSpecSpec.post enc Tryz.prog Tryz.f3 false true false false) := by
  refine returnsInHanded_of_change_and (C := Tryz.checked) (X := fun w _ => laidMetH Tryz.prog laid3 w) (fun _ _ _ hh h => h.of_heap hh) own started (by kernel_rfl) Tryz.func3
    (ChangeSpec.witness_shaped (enc := enc) (C := Tryz.checked) (os := os) (X := fun w _ => laidMetH Tryz.prog laid3 w) false (World.doorLaid Tryz.prog 38 os) wit 8 rfl (World.shaped_of_RefB (by kernel_rfl) (by kernel_rfl)) (by kernel_rfl) (by kernel_rfl) (by kernel_rfl) (door_met os _)) ?_
  intro W base args ds gs before hval0 hW _ _ hL _
  have hval : ∀ (j : Nat) t v, Tryz.f3.params[j]? = some t → args[j]? = some v → Value.okWide Tryz.prog W .any base t v := hval0
  have hW' := hW
  obtain ⟨p, q, hA0, hV, rfl, hfz, hnd⟩ := hW
  have hA : DataW.TrodAll enc Tryz.prog W 0 (fun _ => true) true Tryz.f3.params.toList args.toList ds p := hA0
  rw [Tryz.params3] at hA hval
  obtain ⟨v0, vs1, d0, ds1, p0, q0, ea, rfl, rfl, h0, hA⟩ := trodAll_cons hA
  obtain ⟨v1, v2, v3, v4, d1, d2, d3, d4, p1, p2, p3, p4, e1, rfl, rfl, h1, h2, h3, h4⟩ := trodAll_four (args := vs1.toArray) (by simpa using hA)
  obtain ⟨rfl, rfl⟩ := trodVars_none hV
  have ea2 : args = #[v0, v1, v2, v3, v4] := by
    apply Array.ext'
    rw [ea]
    have := congrArg Array.toList e1
    simp at this
    rw [this]
  subst ea2
  obtain ⟨b, rfl, rfl, rfl, wb⟩ := open_int Tryz.underlying3 (hval 2 3 v2 rfl rfl) h2
  obtain ⟨x, rfl, rfl, rfl, wx⟩ := open_int Tryz.underlying3 (hval 3 3 v3 rfl rfl) h3
  obtain ⟨sec, rfl, rfl, rfl, wsec⟩ := open_int Tryz.underlying3 (hval 4 3 v4 rfl rfl) h4
  have k0 := hval 0 27 v0 rfl rfl
  have k1 := hval 1 30 v1 rfl rfl
  simp only [Value.okWide, Tryz.underlying27] at k0
  simp only [Value.okWide, Tryz.underlying30] at k1
  obtain ⟨cs0, rfl, hs0, hr0⟩ := k0
  obtain ⟨cs1, rfl, hs1, hr1⟩ := k1
  obtain ⟨l, rfl, hl⟩ := lk_in (hs0.trans (by kernel_rfl)) hr0
  obtain ⟨k, rfl, hkc, hks⟩ := ek_in (hs1.trans (by kernel_rfl)) hr1
  have wb0 := wb
  have hb : I64 b := by
    simp only [Lit.wf, Bool.and_eq_true, decide_eq_true_eq] at wb
    exact wb
  refine (spec_said W (glb_of_laid hL) l hl k hkc hks b x sec hb).mono fun e W' ⟨he, hB⟩ => ?_
  subst he
  have hlt : ∀ y ∈ p0 ++ (p1 ++ [] ++ [] ++ []) ++ [], y.block < W.heap.size := fun y hy => by simpa using hW'.lt y hy
  have e1 : Rows.linksMakeSpecSpec.fn H ([d0, d1, .lit (.int .i64 b), .lit (.int .i64 x), .lit (.int .i64 sec)] ++ []) = { results := [.lit (.bool true)], args := [d0, d1, .lit (.int .i64 b), .lit (.int .i64 x), .lit (.int .i64 sec)] } := by simp [Rows.linksMakeSpecSpec]
  refine ⟨_, rfl, _, _, _, [], p0 ++ (p1 ++ ([] ++ ([] ++ []))), [], hW', ?_, ?_, ?_, hB.frame _, fun h => by cases h⟩
  · rw [e1]; exact trodAll_mk1 (shut_bool Tryz.underlying4 true)
  · rw [e1]
    refine ⟨p0, p1 ++ ([] ++ ([] ++ [])), ?_, trodAll_mk4 ?_ (shut_int Tryz.underlying3 wb0) (shut_int Tryz.underlying3 wx) (shut_int Tryz.underlying3 wsec), rfl⟩
    · exact Below.trod laidOut (by kernel_rfl) (of_decide_eq_true (by kernel_rfl)) h0 hB (fun y hy => hlt y (by simp [hy]))
    · exact Below.trod laidOut (by kernel_rfl) (of_decide_eq_true (by kernel_rfl)) h1 hB (fun y hy => hlt y (by simp [hy]))
  · rw [e1]; rfl

end Go.Proofs.YtcfkhjpgdpeimaaGreatDoor
