/- What an argument that comes in looks like. No condition beyond those that each theorem states. -/
import Derived.Test.YtcfkhjpgdpeimaaGreatDoorKl
import Derived.Test.YtcfkhjpgdpeimaaGreatDoorRows
import Derived.ProofKit
import Derived.LaidMore
import Derived.OpenShut
import Derived.Stop.Joined
import Derived.Carry
set_option linter.unusedSimpArgs false
set_option linter.unusedVariables false
namespace Px
open Go Go.RowKit Go.Proofs
section
variable {H : Type} {enc : TypeId × Value → H} {P : Program} {w : World} {base : Nat} {spare : Nat → Bool} {held : Bool}
/-- an array of numbers that reads as these -/
theorem arr_ints {t e n fuel : Nat} {k : IntKind} {cs : List Value} {ns : List Int} {ps : List MemPlace} (ht : P.underlying t = some (.array n e)) (he : P.underlying e = some (.int k)) (hc : P.cellsOf e = 1) (hn : P.cellsOf t = n)
    (h : DataW.trod enc P w base spare held fuel t cs = some (.agg (ns.map fun x => .lit (.int k x)), ps)) : cs = ns.map fun x => .int k x := by
  obtain ⟨xs, m, rfl, hx, hl, hxl, hel⟩ := DataW.trod_array ht h
  simp only [Prod.mk.injEq, DataW.agg.injEq] at hx
  have hlen : ns.length = n := by have := congrArg List.length hx.1; simpa [hxl] using this
  apply List.ext_getElem (by rw [hl, hn]; simp [hlen])
  intro i h1 h2
  have hi : i < n := by rw [hl, hn] at h1; exact h1
  have hi2 : i < ns.length := by omega
  have e1 := hel i hi
  rw [hc] at e1
  have hxi : i < xs.length := by omega
  rw [List.getElem?_eq_getElem hxi] at e1
  obtain ⟨q, e2, e3, _⟩ := DataW.trod_int he e1
  have e4 : (xs.map (·.1))[i]'(by simpa using hxi) = .lit (.int k q) := by simp [e3]
  have e5 : (xs.map (·.1))[i]'(by simpa using hxi) = .lit (.int k ns[i]) := by
    have : (xs.map (·.1)) = ns.map fun x => .lit (.int k x) := hx.1.symm
    simp only [this, List.getElem_map]
  rw [e4] at e5
  have e6 : q = ns[i] := by injection e5 with e7; injection e7
  subst e6
  have e8 : cs[i] = .int k ns[i] := by
    have := congrArg (fun l => l[0]?) e2
    simp [List.getElem?_take, List.getElem?_drop] at this
    rw [List.getElem?_eq_getElem h1] at this
    exact Option.some.inj this
  rw [e8, List.getElem_map]
end
/-- the cells of an aggregate argument -/
theorem okCells {P : Program} {w : World} {r : Reach} {base t n : Nat} {cs : Array Value} {ts : List Nat} (hct : P.cellTypes P.depth t = some ts) (hn : ts.length = n) (hcs : cs.size = n) (h : Row.okWide P w r base t cs) :
    ∀ i, (hi : i < n) → ∃ u v, ts[i]? = some u ∧ cs[i]? = some v ∧ Cell.okWide P w r base u v := by
  obtain ⟨ts', h1, _, h3⟩ := h
  rw [hct] at h1
  obtain rfl := Option.some.inj h1
  intro i hi
  have hlt : i < cs.size := by omega
  obtain ⟨u, hu, hok⟩ := h3 i cs[i] (Array.getElem?_eq_getElem hlt)
  rw [Nat.mod_eq_of_lt (by omega)] at hu
  exact ⟨u, cs[i], hu, Array.getElem?_eq_getElem hlt, hok⟩
theorem okI {P : Program} {w : World} {r : Reach} {base t : Nat} {k : IntKind} {v : Value} (ht : P.underlying t = some (.int k)) (h : Cell.okWide P w r base t v) : ∃ n, v = .int k n ∧ k.has n := by
  simp only [ht, Cell.okWide] at h
  cases v <;> simp_all [Cell.ok]
theorem okB {P : Program} {w : World} {r : Reach} {base t : Nat} {v : Value} (ht : P.underlying t = some .bool) (h : Cell.okWide P w r base t v) : ∃ b, v = .bool b := by
  simp only [ht, Cell.okWide] at h
  cases v <;> simp_all [Cell.ok]

theorem arr_of {cs : Array Value} {l : List Value} (hs : cs.size = l.length) (h : ∀ i, i < l.length → cs[i]? = l[i]?) : cs = l.toArray := by
  apply Array.ext'
  apply List.ext_getElem?
  intro i
  rw [Array.getElem?_toList]
  by_cases hi : i < l.length
  · rw [h i hi]
  · rw [List.getElem?_eq_none (by simpa using hi), Array.getElem?_eq_none (by omega)]
theorem bytesAt {cs : Array Value} {off : Nat} (h : ∀ i, i < 32 → ∃ n, cs[off + i]? = some (.int .u8 n) ∧ 0 ≤ n ∧ n < 256) : ∃ f, Byt f ∧ ∀ i, i < 32 → cs[off + i]? = some (.int .u8 (f i)) := by
  refine ⟨fun i => if hi : i < 32 then Classical.choose (h i hi) else 0, fun i => ?_, fun i hi => ?_⟩
  · by_cases hi : i < 32
    · simp only [dif_pos hi]; exact (Classical.choose_spec (h i hi)).2
    · simp only [dif_neg hi]; exact ⟨by decide, by decide⟩
  · simp only [dif_pos hi]; exact (Classical.choose_spec (h i hi)).1
theorem hasI {n : Int} (h : IntKind.i64.has n) : I64 n := h
theorem hasB {n : Int} (h : IntKind.u8.has n) : 0 ≤ n ∧ n < 256 := by
  obtain ⟨h1, h2⟩ := h
  have e1 : IntKind.u8.min = 0 := rfl
  have e2 : IntKind.u8.max = 255 := rfl
  omega
def ts27 : List Nat := [3, 3, 3, 3, 3, 4] ++ List.replicate 32 5 ++ [3, 3]
def ts30 : List Nat := List.replicate 64 5
theorem ct27 : Tryz.prog.cellTypes Tryz.prog.depth 27 = some ts27 := by kernel_rfl
theorem ct30 : Tryz.prog.cellTypes Tryz.prog.depth 30 = some ts30 := by kernel_rfl
theorem cellAtI {P : Program} {W : World} {r : Reach} {base n t : Nat} {k : IntKind} {cs : Array Value} {ts : List Nat} (hu : P.underlying t = some (.int k)) (h : ∀ i, (hi : i < n) → ∃ u v, ts[i]? = some u ∧ cs[i]? = some v ∧ Cell.okWide P W r base u v) (i : Nat) (hi : i < n) (ht : ts[i]? = some t) : ∃ m, cs[i]? = some (.int k m) ∧ k.has m := by
  obtain ⟨u, v, h1, h2, h3⟩ := h i hi
  rw [ht] at h1
  obtain rfl := Option.some.inj h1
  obtain ⟨m, rfl, hm⟩ := okI hu h3
  exact ⟨m, h2, hm⟩
theorem cellAtB {P : Program} {W : World} {r : Reach} {base n t : Nat} {cs : Array Value} {ts : List Nat} (hu : P.underlying t = some .bool) (h : ∀ i, (hi : i < n) → ∃ u v, ts[i]? = some u ∧ cs[i]? = some v ∧ Cell.okWide P W r base u v) (i : Nat) (hi : i < n) (ht : ts[i]? = some t) : ∃ m, cs[i]? = some (.bool m) := by
  obtain ⟨u, v, h1, h2, h3⟩ := h i hi
  rw [ht] at h1
  obtain rfl := Option.some.inj h1
  obtain ⟨m, rfl⟩ := okB hu h3
  exact ⟨m, h2⟩
/-- a link that comes in -/
theorem lk_in {W : World} {r : Reach} {base : Nat} {cs : Array Value} (hs : cs.size = 40) (h : Row.okWide Tryz.prog W r base 27 cs) : ∃ l, cs = lkC l ∧ LkOk l := by
  have hc := okCells ct27 (n := 40) rfl hs h
  obtain ⟨n0, h0, g0⟩ := cellAtI Tryz.underlying3 hc 0 (by decide) rfl
  obtain ⟨n1, h1, g1⟩ := cellAtI Tryz.underlying3 hc 1 (by decide) rfl
  obtain ⟨n2, h2, g2⟩ := cellAtI Tryz.underlying3 hc 2 (by decide) rfl
  obtain ⟨n3, h3, g3⟩ := cellAtI Tryz.underlying3 hc 3 (by decide) rfl
  obtain ⟨n4, h4, g4⟩ := cellAtI Tryz.underlying3 hc 4 (by decide) rfl
  obtain ⟨n38, h38, g38⟩ := cellAtI Tryz.underlying3 hc 38 (by decide) rfl
  obtain ⟨n39, h39, g39⟩ := cellAtI Tryz.underlying3 hc 39 (by decide) rfl
  obtain ⟨n5, h5⟩ := cellAtB Tryz.underlying4 hc 5 (by decide) rfl
  have h32 : ∀ i, i < 32 → ts27[6 + i]? = some 5 := by decide
  obtain ⟨f, hf, hp⟩ := bytesAt (cs := cs) (off := 6) (fun i hi => by
    obtain ⟨m, h1, h2⟩ := cellAtI Tryz.underlying5 hc (6 + i) (by omega) (h32 i hi)
    exact ⟨m, h1, hasB h2⟩)
  refine ⟨⟨n0, n1, n2, n3, n4, n5, f, n38, n39⟩, ?_, ⟨hasI g0, hasI g1, hasI g2, hasI g3, hasI g4, hf, hasI g38, hasI g39⟩⟩
  refine (arr_of (l := (lkC ⟨n0, n1, n2, n3, n4, n5, f, n38, n39⟩).toList) hs (fun i hi => ?_)).trans (Array.toArray_toList)
  have hi2 : i < 40 := hi
  match i, hi2 with
  | 0, _ => exact h0
  | 1, _ => exact h1
  | 2, _ => exact h2
  | 3, _ => exact h3
  | 4, _ => exact h4
  | 5, _ => exact h5
  | 6, _ => exact hp 0 (by decide)
  | 7, _ => exact hp 1 (by decide)
  | 8, _ => exact hp 2 (by decide)
  | 9, _ => exact hp 3 (by decide)
  | 10, _ => exact hp 4 (by decide)
  | 11, _ => exact hp 5 (by decide)
  | 12, _ => exact hp 6 (by decide)
  | 13, _ => exact hp 7 (by decide)
  | 14, _ => exact hp 8 (by decide)
  | 15, _ => exact hp 9 (by decide)
  | 16, _ => exact hp 10 (by decide)
  | 17, _ => exact hp 11 (by decide)
  | 18, _ => exact hp 12 (by decide)
  | 19, _ => exact hp 13 (by decide)
  | 20, _ => exact hp 14 (by decide)
  | 21, _ => exact hp 15 (by decide)
  | 22, _ => exact hp 16 (by decide)
  | 23, _ => exact hp 17 (by decide)
  | 24, _ => exact hp 18 (by decide)
  | 25, _ => exact hp 19 (by decide)
  | 26, _ => exact hp 20 (by decide)
  | 27, _ => exact hp 21 (by decide)
  | 28, _ => exact hp 22 (by decide)
  | 29, _ => exact hp 23 (by decide)
  | 30, _ => exact hp 24 (by decide)
  | 31, _ => exact hp 25 (by decide)
  | 32, _ => exact hp 26 (by decide)
  | 33, _ => exact hp 27 (by decide)
  | 34, _ => exact hp 28 (by decide)
  | 35, _ => exact hp 29 (by decide)
  | 36, _ => exact hp 30 (by decide)
  | 37, _ => exact hp 31 (by decide)
  | 38, _ => exact h38
  | 39, _ => exact h39
  | i + 40, hlt => exact absurd hlt (by omega)
/-- an epoch's key that comes in -/
theorem ek_in {W : World} {r : Reach} {base : Nat} {cs : Array Value} (hs : cs.size = 64) (h : Row.okWide Tryz.prog W r base 30 cs) : ∃ k, cs = ekC k ∧ Byt k.com ∧ Byt k.sec := by
  have hc := okCells ct30 (n := 64) rfl hs h
  have h64 : ∀ i, i < 64 → ts30[i]? = some 5 := by decide
  obtain ⟨f, hf, hp⟩ := bytesAt (cs := cs) (off := 0) (fun i hi => by
    obtain ⟨m, h1, h2⟩ := cellAtI Tryz.underlying5 hc (0 + i) (by omega) (h64 _ (by omega))
    exact ⟨m, h1, hasB h2⟩)
  obtain ⟨g, hg, hq⟩ := bytesAt (cs := cs) (off := 32) (fun i hi => by
    obtain ⟨m, h1, h2⟩ := cellAtI Tryz.underlying5 hc (32 + i) (by omega) (h64 _ (by omega))
    exact ⟨m, h1, hasB h2⟩)
  refine ⟨⟨f, g⟩, ?_, hf, hg⟩
  refine (arr_of (l := (ekC ⟨f, g⟩).toList) hs (fun i hi => ?_)).trans (Array.toArray_toList)
  have hi2 : i < 64 := hi
  match i, hi2 with
  | 0, _ => exact hp 0 (by decide)
  | 1, _ => exact hp 1 (by decide)
  | 2, _ => exact hp 2 (by decide)
  | 3, _ => exact hp 3 (by decide)
  | 4, _ => exact hp 4 (by decide)
  | 5, _ => exact hp 5 (by decide)
  | 6, _ => exact hp 6 (by decide)
  | 7, _ => exact hp 7 (by decide)
  | 8, _ => exact hp 8 (by decide)
  | 9, _ => exact hp 9 (by decide)
  | 10, _ => exact hp 10 (by decide)
  | 11, _ => exact hp 11 (by decide)
  | 12, _ => exact hp 12 (by decide)
  | 13, _ => exact hp 13 (by decide)
  | 14, _ => exact hp 14 (by decide)
  | 15, _ => exact hp 15 (by decide)
  | 16, _ => exact hp 16 (by decide)
  | 17, _ => exact hp 17 (by decide)
  | 18, _ => exact hp 18 (by decide)
  | 19, _ => exact hp 19 (by decide)
  | 20, _ => exact hp 20 (by decide)
  | 21, _ => exact hp 21 (by decide)
  | 22, _ => exact hp 22 (by decide)
  | 23, _ => exact hp 23 (by decide)
  | 24, _ => exact hp 24 (by decide)
  | 25, _ => exact hp 25 (by decide)
  | 26, _ => exact hp 26 (by decide)
  | 27, _ => exact hp 27 (by decide)
  | 28, _ => exact hp 28 (by decide)
  | 29, _ => exact hp 29 (by decide)
  | 30, _ => exact hp 30 (by decide)
  | 31, _ => exact hp 31 (by decide)
  | 32, _ => exact hq 0 (by decide)
  | 33, _ => exact hq 1 (by decide)
  | 34, _ => exact hq 2 (by decide)
  | 35, _ => exact hq 3 (by decide)
  | 36, _ => exact hq 4 (by decide)
  | 37, _ => exact hq 5 (by decide)
  | 38, _ => exact hq 6 (by decide)
  | 39, _ => exact hq 7 (by decide)
  | 40, _ => exact hq 8 (by decide)
  | 41, _ => exact hq 9 (by decide)
  | 42, _ => exact hq 10 (by decide)
  | 43, _ => exact hq 11 (by decide)
  | 44, _ => exact hq 12 (by decide)
  | 45, _ => exact hq 13 (by decide)
  | 46, _ => exact hq 14 (by decide)
  | 47, _ => exact hq 15 (by decide)
  | 48, _ => exact hq 16 (by decide)
  | 49, _ => exact hq 17 (by decide)
  | 50, _ => exact hq 18 (by decide)
  | 51, _ => exact hq 19 (by decide)
  | 52, _ => exact hq 20 (by decide)
  | 53, _ => exact hq 21 (by decide)
  | 54, _ => exact hq 22 (by decide)
  | 55, _ => exact hq 23 (by decide)
  | 56, _ => exact hq 24 (by decide)
  | 57, _ => exact hq 25 (by decide)
  | 58, _ => exact hq 26 (by decide)
  | 59, _ => exact hq 27 (by decide)
  | 60, _ => exact hq 28 (by decide)
  | 61, _ => exact hq 29 (by decide)
  | 62, _ => exact hq 30 (by decide)
  | 63, _ => exact hq 31 (by decide)
  | i + 64, hlt => exact absurd hlt (by omega)
end Px
