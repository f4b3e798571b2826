/- Contracts of the packages field, chartroomref03, chartroomref04 and of the keys. No condition beyond those that each theorem states. -/
import Derived.Test.YtjmmhdkjjmlnlaaGreatDoorKa
import Derived.Test.YtjmmhdkjjmlnlaaGreatDoorProg
set_option linter.unusedSimpArgs false
set_option linter.unusedVariables false
set_option linter.unusedSectionVars false
namespace Px
open Go
theorem pow_mod (x m : Int) (n : Nat) : (x % m) ^ n % m = x ^ n % m := by
  induction n with
  | zero => simp
  | succ n ih => rw [Int.pow_succ, Int.pow_succ, Int.mul_emod, ih, Int.emod_emod, ← Int.mul_emod]
/-- the number of a row of bits -/
def valB : List Bool → Nat → Nat
  | [], v => v
  | b :: bs, v => valB bs (2 * v + if b then 1 else 0)
theorem valB_snoc (bs : List Bool) (b : Bool) (v : Nat) : valB (bs ++ [b]) v = 2 * valB bs v + if b then 1 else 0 := by
  induction bs generalizing v with
  | nil => rfl
  | cons x bs ih => exact ih _
theorem powBits_val (a m : Int) (bs : List Bool) : ∀ (c : Int) (v : Nat), c % m = a ^ v % m → powBits a m bs c % m = a ^ valB bs v % m := by
  induction bs with
  | nil => intro c v h; exact h
  | cons x bs ih =>
    intro c v h
    simp only [powBits, valB]
    apply ih
    have hs : c * c % m = a ^ (2 * v) % m := by rw [Int.mul_emod, h, ← Int.mul_emod, ← Int.pow_add]; congr 2; omega
    cases x with
    | false => simp only [Bool.false_eq_true, if_false, Int.emod_emod, Nat.add_zero]; exact hs
    | true => simp only [if_true, Int.emod_emod]; rw [hs, Int.mul_emod, Int.emod_emod, ← Int.mul_emod, ← Int.pow_succ]
theorem bitsOf_val (n : Nat) : ∀ j, j ≤ blen n → valB ((bitsOf n).take j) 0 = n / 2 ^ (blen n - j)
  | 0, _ => by
    simp only [List.take_zero, valB, Nat.sub_zero]
    have hlt : n < 2 ^ blen n := by
      by_cases h : n = 0
      · subst h; exact Nat.pow_pos (by decide)
      · exact (blen_pos n h).2.1
    exact (Nat.div_eq_of_lt hlt).symm
  | j + 1, h => by
    rw [bitsOf_take n j (by omega), valB_snoc, bitsOf_val n j (by omega)]
    have e : blen n - j = (blen n - 1 - j) + 1 := by omega
    have e2 : blen n - (j + 1) = blen n - 1 - j := by omega
    rw [e, e2, Nat.pow_succ, ← Nat.div_div_eq_div_mul, Nat.testBit_eq_decide_div_mod_eq]
    by_cases hb : n / 2 ^ (blen n - 1 - j) % 2 = 1
    · simp only [hb, decide_true, if_true]; omega
    · simp only [hb, decide_false, Bool.false_eq_true, if_false]; omega
theorem powM_eq (a k m : Int) (h0 : 0 ≤ k) (hm : 1 < m) : powM a k m = a ^ k.toNat % m := by
  have h1 := powBits_val a m (bitsOf k.toNat) 1 0 (by simp)
  have h2 := bitsOf_val k.toNat (blen k.toNat) (Nat.le_refl _)
  rw [List.take_of_length_le (by rw [bitsOf_length]; exact Nat.le_refl _)] at h2
  simp only [Nat.sub_self, Nat.pow_zero, Nat.div_one] at h2
  rw [h2] at h1
  rw [← h1]
  have hb := powM_bd a k m hm
  exact (Int.emod_eq_of_lt hb.1 hb.2).symm
end Px
namespace Px
open Go Go.RowKit Go.Proofs
def sOut (a : Int) : Bool := decide (a < 0) || decide (2305843009213688669 ≤ a)
theorem sOut_false {a : Int} : sOut a = false ↔ 0 ≤ a ∧ a < 2305843009213688669 := by simp [sOut]
theorem sOut_true {a : Int} : sOut a = true ↔ ¬ (0 ≤ a ∧ a < 2305843009213688669) := by simp [sOut]; omega
/-- chartroom/field.outside$1 -/
theorem field_outside1 (a : Int) (w : World) :
    Calls Tryz.prog 123 #[.int .i64 a] w (Ret w (.bool (sOut a))) := by
  
  refine enter (vs := [_]) Tryz.func123 rfl Tryz.ntmps123 rfl ?_
  refine CJ.seq ?_
  refine CJ.region ?_
  refine rv rfl rfl rfl (asg_r rfl) ?_
  refine OJ.done ?_
  refine PJ.next ?_
  refine CJ.seq ?_
  refine CJ.region ?_
  refine rv rfl rfl rfl (mv_r rfl) ?_
  refine rv rfl rfl rfl (lss_r rfl rfl) ?_
  refine rv rfl rfl rfl (mv_r rfl) ?_
  refine OJ.split (t := 5) rfl (fun hc1 => ?_) (fun hc1 => ?_)
  · try simp only [decide_eq_true_eq, decide_eq_false_iff_not, Bool.not_eq_true', Bool.not_eq_false'] at hc1
    refine OJ.off rfl (by decide) rfl ?_
    refine OJ.off rfl (by decide) rfl ?_
    refine rv rfl rfl rfl (pkT_r rfl rfl) ?_
    refine rv rfl rfl rfl (asg_r rfl) ?_
    refine OJ.done ?_
    refine PJ.next ?_
    refine CJ.ret ?_
    refine retV Tryz.results123 rfl (.head _) ?_
    refine congrArg Value.bool ?_
    unfold sOut
    simp; try omega
  · try simp only [decide_eq_true_eq, decide_eq_false_iff_not, Bool.not_eq_true', Bool.not_eq_false'] at hc1
    refine rv rfl rfl rfl (mv_r rfl) ?_
    refine rv rfl rfl rfl (geq_r rfl rfl) ?_
    refine rv rfl rfl rfl (pkF_r rfl rfl) ?_
    refine rv rfl rfl rfl (asg_r rfl) ?_
    refine OJ.done ?_
    refine PJ.next ?_
    refine CJ.ret ?_
    refine retV Tryz.results123 rfl (.head _) ?_
    refine congrArg Value.bool ?_
    unfold sOut
    simp; try omega
def ixOf (p : Int → Bool) (xs : List Int) : Int := match xs.findIdx? p with | some i => (i : Int) | none => -1
theorem ixOf_hit (p : Int → Bool) (xs : List Int) (j : Nat) (hj : j < xs.length) (h : ∀ x ∈ xs.take j, p x = false) (hp : p xs[j] = true) : ixOf p xs = (j : Int) := by
  unfold ixOf
  have : xs.findIdx? p = some j := by
    rw [List.findIdx?_eq_some_iff_getElem]
    refine ⟨hj, hp, fun i hi => ?_⟩
    have := h (xs[i]'(by omega)) (by rw [List.mem_take_iff_getElem]; exact ⟨i, by omega, rfl⟩)
    simp [this]
  rw [this]
theorem ixOf_none (p : Int → Bool) (xs : List Int) (h : ∀ x ∈ xs, p x = false) : ixOf p xs = -1 := by
  unfold ixOf
  have : xs.findIdx? p = none := by rw [List.findIdx?_eq_none_iff]; exact h
  rw [this]
theorem ixOf_any (p : Int → Bool) (xs : List Int) : decide (0 ≤ ixOf p xs) = xs.any p := by
  unfold ixOf
  cases h : xs.findIdx? p with
  | some i =>
    obtain ⟨h1, h2, _⟩ := List.findIdx?_eq_some_iff_getElem.1 h
    have : xs.any p = true := List.any_eq_true.2 ⟨xs[i], List.getElem_mem h1, h2⟩
    rw [this]; simp
  | none =>
    have : xs.any p = false := List.any_eq_false.2 (by simpa using List.findIdx?_eq_none_iff.1 h)
    rw [this]; simp
def ints (xs : List Int) : Array Value := (xs.map fun x => Value.int .i64 x).toArray
theorem ints_at (xs : List Int) (j : Nat) (h : j < xs.length) : (ints xs)[j]? = some (.int .i64 xs[j]) := by simp [ints, h]
/-- slices.IndexFunc[[]int,int] -/
theorem IndexFunc_int (p : Int → Bool) (f : Nat) (hent : Ent Tryz.prog f) (hp : ∀ x W, Calls Tryz.prog f #[.int .i64 x] W (Ret W (.bool (p x)))) (xs : List Int) (b T n c : Nat) (fr : Nat × Nat) (hn : xs.length = n) (hn2 : n < 9223372036854775807) (w : World) (hb0 : w.heap[b]? = some (.cells (ints xs) T fr)) :
    Calls Tryz.prog 78 #[.slice (some ⟨b, 0, none⟩) n c, .func (.func f) #[] #[]] w (Ret w (.int .i64 (ixOf p xs))) := by
  have hm0 : ¬ Gh.no.M b := fun h => h
  refine enter (vs := [_, _]) Tryz.func78 rfl Tryz.ntmps78 rfl ?_
  refine CJ.seq ?_
  refine CJ.region ?_
  refine rv rfl rfl rfl (asg_r rfl) ?_
  refine OJ.done ?_
  refine PJ.next ?_
  refine CJ.seq ?_
  refine CJ.seq ?_
  refine CJ.region ?_
  refine rv rfl rfl rfl (mv_r rfl) ?_
  refine rv rfl rfl rfl (lenS_r Tryz.underlying22 rfl) ?_
  refine rv rfl rfl rfl (mv_r rfl) ?_
  refine OJ.done ?_
  refine PJ.next ?_
  refine CJ.block ?_
  refine CJ.loop (α := Nat) (fun j => [(0, .slice (some ⟨b, 0, none⟩) n c), (1, .func (.func f) #[] #[]), (7, .int .i64 (n : Int)), (8, .int .i64 (j : Int))]) (fun j => []) (fun j => [w]) (fun j => Gh.no) (fun j => j ≤ n ∧ ∀ x ∈ xs.take j, p x = false) (fun j => n - j) 0 ⟨Nat.zero_le _, by simp⟩ ⟨rfl, rfl, rfl, rfl, trivial⟩ rfl rfl (by simp) ?_
  rintro j ⟨hj, hjp⟩
  refine CJ.seq ?_
  refine CJ.region ?_
  refine rv rfl rfl rfl (lss_r rfl rfl) ?_
  refine OJ.done ?_
  refine PJ.next ?_
  refine CJ.seq ?_
  refine CJ.cond rfl (fun hc1 => ?_) (fun hc1 => ?_)
  · try simp only [decide_eq_true_eq, decide_eq_false_iff_not, Bool.not_eq_true', Bool.not_eq_false'] at hc1
    refine CJ.skip ?_
    refine PJ.next ?_
    refine CJ.seq ?_
    refine CJ.block ?_
    refine CJ.seq ?_
    refine CJ.region ?_
    refine rv rfl rfl rfl (mv_r rfl) ?_
    refine rv rfl rfl rfl (asg_r rfl) ?_
    refine OJ.done ?_
    refine PJ.next ?_
    refine CJ.seq ?_
    refine CJ.region ?_
    refine rv rfl rfl rfl (mv_r rfl) ?_
    refine rv rfl rfl rfl (mv_r rfl) ?_
    refine rv rfl rfl rfl (mv_r rfl) ?_
    refine rv rfl rfl rfl (idxS_r Tryz.underlying22 Tryz.sizeOf3 rfl rfl (by omega) (by omega)) ?_
    refine rv rfl rfl rfl (ldR_r (v := .int .i64 (xs[j]'(by omega))) Tryz.isAgg3 rfl (.head _) hb0 hm0 trivial (by rw [← ints_at xs j (by omega)]; congr 1; omega)) ?_
    refine callC (f := f) (cap := []) rfl hent rfl rfl rfl (fun W hS => hp _ W) ?_
    refine OJ.done ?_
    refine PJ.next ?_
    refine CJ.cond rfl (fun hc2 => ?_) (fun hc2 => ?_)
    · try simp only [decide_eq_true_eq, decide_eq_false_iff_not, Bool.not_eq_true', Bool.not_eq_false'] at hc2
      refine CJ.seq ?_
      refine CJ.region ?_
      refine rv rfl rfl rfl (mv_r rfl) ?_
      refine rv rfl rfl rfl (asg_r rfl) ?_
      refine OJ.done ?_
      refine PJ.next ?_
      refine CJ.ret ?_
      refine PJ.retBlock ?_
      refine PJ.retThen ?_
      refine PJ.retThen ?_
      refine PJ.retBlock ?_
      refine PJ.retThen ?_
      refine retV Tryz.results78 rfl (.head _) ?_
      exact congrArg (Value.int .i64) (ixOf_hit p xs j (by omega) hjp hc2).symm
    · try simp only [decide_eq_true_eq, decide_eq_false_iff_not, Bool.not_eq_true', Bool.not_eq_false'] at hc2
      refine CJ.skip ?_
      refine PJ.norBlock ?_
      refine PJ.next ?_
      refine CJ.region ?_
      refine rv rfl rfl rfl (addI_r rfl rfl (by omega) (by omega)) ?_
      refine rv rfl rfl rfl (mv_r rfl) ?_
      refine OJ.done ?_
      refine PJ.again (j + 1) ⟨by omega, by intro x hx; rw [List.take_succ_eq_append_getElem (by omega)] at hx; simp only [List.mem_append, List.mem_singleton] at hx; rcases hx with hx | rfl; exact hjp x hx; exact hc2⟩ (by omega) ⟨rfl, rfl, rfl, rfl, trivial⟩ rfl rfl (by simp)
  · try simp only [decide_eq_true_eq, decide_eq_false_iff_not, Bool.not_eq_true', Bool.not_eq_false'] at hc1
    refine CJ.exit ?_
    refine PJ.exThen ?_
    refine PJ.exThen ?_
    refine PJ.exHit ?_
    refine PJ.next ?_
    refine CJ.seq ?_
    refine CJ.region ?_
    refine rv rfl rfl rfl (asg_r rfl) ?_
    refine OJ.done ?_
    refine PJ.next ?_
    refine CJ.ret ?_
    refine retV Tryz.results78 rfl (.head _) ?_
    exact congrArg (Value.int .i64) (ixOf_none p xs (by rw [← List.take_of_length_le (l := xs) (i := j) (by omega)]; exact hjp)).symm
/-- slices.ContainsFunc[[]int,int] -/
theorem ContainsFunc_int (p : Int → Bool) (f : Nat) (hent : Ent Tryz.prog f) (hp : ∀ x W, Calls Tryz.prog f #[.int .i64 x] W (Ret W (.bool (p x)))) (xs : List Int) (b T n c : Nat) (fr : Nat × Nat) (hn : xs.length = n) (hn2 : n < 9223372036854775807) (w : World) (hb0 : w.heap[b]? = some (.cells (ints xs) T fr)) :
    Calls Tryz.prog 31 #[.slice (some ⟨b, 0, none⟩) n c, .func (.func f) #[] #[]] w (Ret w (.bool (xs.any p))) := by
  
  refine enter (vs := [_, _]) Tryz.func31 rfl Tryz.ntmps31 rfl ?_
  refine CJ.seq ?_
  refine CJ.region ?_
  refine rv rfl rfl rfl (asg_r rfl) ?_
  refine OJ.done ?_
  refine PJ.next ?_
  refine CJ.seq ?_
  refine CJ.region ?_
  refine rv rfl rfl rfl (mv_r rfl) ?_
  refine rv rfl rfl rfl (mv_r rfl) ?_
  refine call Tryz.call78 rfl rfl rfl (fun W hS => IndexFunc_int p f hent hp xs b T n c fr hn hn2 W (hS.old (.head _) hb0 (fun h => h) trivial)) ?_
  refine rv rfl rfl rfl (geq_r rfl rfl) ?_
  refine rv rfl rfl rfl (asg_r rfl) ?_
  refine OJ.done ?_
  refine PJ.next ?_
  refine CJ.ret ?_
  refine retV Tryz.results31 rfl (.head _) ?_
  exact congrArg Value.bool (ixOf_any p xs)
/-- chartroom/field.outside -/
theorem field_outside (xs : List Int) (b T n c : Nat) (fr : Nat × Nat) (hn : xs.length = n) (hn2 : n < 9223372036854775807) (w : World) (hb0 : w.heap[b]? = some (.cells (ints xs) T fr)) :
    Calls Tryz.prog 95 #[.slice (some ⟨b, 0, none⟩) n c] w (Ret w (.bool (xs.any sOut))) := by
  
  refine enter (vs := [_]) Tryz.func95 rfl Tryz.ntmps95 rfl ?_
  refine CJ.seq ?_
  refine CJ.region ?_
  refine rv rfl rfl rfl (asg_r rfl) ?_
  refine OJ.done ?_
  refine PJ.next ?_
  refine CJ.seq ?_
  refine CJ.region ?_
  refine rv rfl rfl rfl (mv_r rfl) ?_
  refine call Tryz.call31 rfl rfl rfl (fun W hS => ContainsFunc_int sOut 123 Tryz.call123 (fun x W => field_outside1 x W) xs b T n c fr hn hn2 W (hS.old (.head _) hb0 (fun h => h) trivial)) ?_
  refine rv rfl rfl rfl (asg_r rfl) ?_
  refine OJ.done ?_
  refine PJ.next ?_
  refine CJ.ret ?_
  refine retV Tryz.results95 rfl (.head _) ?_
  rfl
/-- chartroom/field.product -/
theorem field_product (a b : Int) (ha : 0 ≤ a) (ha1 : a < 2305843009213688669) (hb : 0 ≤ b) (hb1 : b < 2305843009213688669) (w : World) :
    Calls Tryz.prog 107 #[.int .i64 a, .int .i64 b] w (Ret w (.int .i64 (a * b % 2305843009213688669))) := by
  obtain ⟨m1, m2, m3, m4, m5⟩ := mul_lt_128 ha ha1 hb hb1 (by decide)
  have m6 := Int.emod_nonneg (a * b) (b := 2305843009213688669) (by decide)
  have m7 := Int.emod_lt_of_pos (a * b) (b := 2305843009213688669) (by decide)
  refine enter (vs := [_, _]) Tryz.func107 rfl Tryz.ntmps107 rfl ?_
  refine CJ.seq ?_
  refine CJ.region ?_
  refine rv rfl rfl rfl (asg_r rfl) ?_
  refine OJ.done ?_
  refine PJ.next ?_
  refine CJ.seq ?_
  refine CJ.region ?_
  refine rv rfl rfl rfl (mv_r rfl) ?_
  refine rv rfl rfl rfl (cvtU_r Tryz.underlying3 Tryz.underlying148 rfl (by omega) (by omega)) ?_
  refine rv rfl rfl rfl (mv_r rfl) ?_
  refine rv rfl rfl rfl (cvtU_r Tryz.underlying3 Tryz.underlying148 rfl (by omega) (by omega)) ?_
  refine call Tryz.call125 rfl rfl rfl (fun W hS => bits_Mul64 _ _ (by omega) (by omega) (by omega) (by omega) W) ?_
  refine rv rfl rfl rfl (mv_r rfl) ?_
  refine rv rfl rfl rfl (ext_r rfl rfl) ?_
  refine rv rfl rfl rfl (ext_r rfl rfl) ?_
  refine rv rfl rfl rfl (asg_r rfl) ?_
  refine rv rfl rfl rfl (asg_r rfl) ?_
  refine OJ.done ?_
  refine PJ.next ?_
  refine CJ.seq ?_
  refine CJ.region ?_
  refine rv rfl rfl rfl (mv_r rfl) ?_
  refine rv rfl rfl rfl (mv_r rfl) ?_
  refine call Tryz.call126 rfl rfl rfl (fun W hS => bits_Div64 _ _ _ (by omega) (by omega) (by omega) (by omega) (by omega) W) ?_
  refine rv rfl rfl rfl (mv_r rfl) ?_
  refine rv rfl rfl rfl (ext_r rfl rfl) ?_
  refine rv rfl rfl rfl (ext_r rfl rfl) ?_
  refine rv rfl rfl rfl (asg_r rfl) ?_
  refine rv rfl rfl rfl (asg_r rfl) ?_
  refine OJ.done ?_
  refine PJ.next ?_
  refine CJ.seq ?_
  refine CJ.region ?_
  refine rv rfl rfl rfl (mv_r rfl) ?_
  refine rv rfl rfl rfl (RV.re (v' := .int .i64 (a * b % 2305843009213688669)) (cvtI_r Tryz.underlying148 Tryz.underlying3 rfl (by rw [m5]; omega) (by rw [m5]; omega)) (by rw [m5])) ?_
  refine rv rfl rfl rfl (asg_r rfl) ?_
  refine OJ.done ?_
  refine PJ.next ?_
  refine CJ.ret ?_
  refine retV Tryz.results107 rfl (.head _) ?_
  rfl
/-- chartroom/field.Check -/
theorem field_Check (a : Int) (w : World) :
    Calls Tryz.prog 45 #[.int .i64 a] w (Ret w (.int .i64 (if sOut a then 1 else 0))) := by
  
  refine enter (vs := [_]) Tryz.func45 rfl Tryz.ntmps45 rfl ?_
  refine CJ.seq ?_
  refine CJ.region ?_
  refine rv rfl rfl rfl (asg_r rfl) ?_
  refine OJ.done ?_
  refine PJ.next ?_
  refine CJ.seq ?_
  refine CJ.seq ?_
  refine CJ.region ?_
  refine rv rfl rfl rfl (mv_r rfl) ?_
  refine bslR Tryz.underlying22 Tryz.sizeOf3 Tryz.zeroValue3 rfl rfl rfl rfl rfl rfl rfl ?_
  intro b4 w4 hb4 ha4 ho4 hm4 hz4
  simp only [Above] at ha4
  try simp only [Off, book, List.cons_append, List.nil_append, List.set_cons_zero, List.set_cons_succ, ne_eq] at ho4
  refine call Tryz.call95 rfl rfl rfl (fun W hS => field_outside [a] _ _ _ _ _ rfl (by simp) W (hS.old (.head _) hb4 hm4 trivial)) ?_
  refine OJ.done ?_
  refine PJ.next ?_
  refine CJ.cond rfl (fun hc1 => ?_) (fun hc1 => ?_)
  · try simp only [decide_eq_true_eq, decide_eq_false_iff_not, Bool.not_eq_true', Bool.not_eq_false'] at hc1
    refine CJ.seq ?_
    refine CJ.region ?_
    refine rv rfl rfl rfl (asg_r rfl) ?_
    refine OJ.done ?_
    refine PJ.next ?_
    refine CJ.ret ?_
    refine PJ.retThen ?_
    refine retV Tryz.results45 rfl (.tail _ (.head _)) ?_
    refine congrArg (Value.int .i64) ?_
    simp_all
  · try simp only [decide_eq_true_eq, decide_eq_false_iff_not, Bool.not_eq_true', Bool.not_eq_false'] at hc1
    refine CJ.skip ?_
    refine PJ.next ?_
    refine CJ.seq ?_
    refine CJ.region ?_
    refine rv rfl rfl rfl (asg_r rfl) ?_
    refine OJ.done ?_
    refine PJ.next ?_
    refine CJ.ret ?_
    refine retV Tryz.results45 rfl (.tail _ (.head _)) ?_
    refine congrArg (Value.int .i64) ?_
    simp_all
abbrev SOk (a : Int) : Prop := 0 ≤ a ∧ a < 2305843009213688669
def sMul (a b : Int) : Int × Int := if SOk a ∧ SOk b then (a * b % 2305843009213688669, 0) else (0, 1)
def sAdd (a b : Int) : Int × Int := if SOk a ∧ SOk b then ((a + b) % 2305843009213688669, 0) else (0, 1)
def sInv (a : Int) : Int × Int := if SOk a then if a = 0 then (0, 30) else (powM a 2305843009213688667 2305843009213688669, 0) else (0, 1)
theorem out2 {a b : Int} (h : [a, b].any sOut = false) : SOk a ∧ SOk b := by simp only [List.any_cons, List.any_nil, Bool.or_false, Bool.or_eq_false_iff] at h; exact ⟨sOut_false.1 h.1, sOut_false.1 h.2⟩
theorem out2' {a b : Int} (h : [a, b].any sOut = true) : ¬ (SOk a ∧ SOk b) := by
  simp only [List.any_cons, List.any_nil, Bool.or_false, Bool.or_eq_true] at h
  intro ⟨h1, h2⟩
  rcases h with h | h
  · exact sOut_true.1 h h1
  · exact sOut_true.1 h h2
/-- chartroom/field.Mul -/
theorem field_Mul (a b : Int) (w : World) :
    Calls Tryz.prog 64 #[.int .i64 a, .int .i64 b] w (Ret w (eTup (sMul a b))) := by
  
  refine enter (vs := [_, _]) Tryz.func64 rfl Tryz.ntmps64 rfl ?_
  refine CJ.seq ?_
  refine CJ.region ?_
  refine rv rfl rfl rfl (asg_r rfl) ?_
  refine rv rfl rfl rfl (asg_r rfl) ?_
  refine OJ.done ?_
  refine PJ.next ?_
  refine CJ.seq ?_
  refine CJ.seq ?_
  refine CJ.region ?_
  refine rv rfl rfl rfl (mv_r rfl) ?_
  refine rv rfl rfl rfl (mv_r rfl) ?_
  refine bslR Tryz.underlying22 Tryz.sizeOf3 Tryz.zeroValue3 rfl rfl rfl rfl rfl rfl rfl ?_
  intro b8 w8 hb8 ha8 ho8 hm8 hz8
  simp only [Above] at ha8
  try simp only [Off, book, List.cons_append, List.nil_append, List.set_cons_zero, List.set_cons_succ, ne_eq] at ho8
  refine call Tryz.call95 rfl rfl rfl (fun W hS => field_outside [a, b] _ _ _ _ _ rfl (by simp) W (hS.old (.head _) hb8 hm8 trivial)) ?_
  refine OJ.done ?_
  refine PJ.next ?_
  refine CJ.cond rfl (fun hc1 => ?_) (fun hc1 => ?_)
  · try simp only [decide_eq_true_eq, decide_eq_false_iff_not, Bool.not_eq_true', Bool.not_eq_false'] at hc1
    refine CJ.seq ?_
    have hg := out2' hc1
    refine CJ.region ?_
    refine rv rfl rfl rfl (asg_r rfl) ?_
    refine rv rfl rfl rfl (asg_r rfl) ?_
    refine OJ.done ?_
    refine PJ.next ?_
    refine CJ.ret ?_
    refine PJ.retThen ?_
    refine retV2 Tryz.results64 rfl rfl (.tail _ (.head _)) ?_ ?_
    all_goals (refine congrArg (Value.int .i64) ?_; unfold sMul; first | (rw [if_neg hg]; done) | (rw [if_pos hg]; done))
  · try simp only [decide_eq_true_eq, decide_eq_false_iff_not, Bool.not_eq_true', Bool.not_eq_false'] at hc1
    refine CJ.skip ?_
    refine PJ.next ?_
    refine CJ.seq ?_
    have hg := out2 hc1
    refine CJ.region ?_
    refine rv rfl rfl rfl (mv_r rfl) ?_
    refine rv rfl rfl rfl (mv_r rfl) ?_
    refine call Tryz.call107 rfl rfl rfl (fun W hS => field_product _ _ (by omega) (by omega) (by omega) (by omega) W) ?_
    refine rv rfl rfl rfl (asg_r rfl) ?_
    refine rv rfl rfl rfl (asg_r rfl) ?_
    refine OJ.done ?_
    refine PJ.next ?_
    refine CJ.ret ?_
    refine retV2 Tryz.results64 rfl rfl (.tail _ (.head _)) ?_ ?_
    all_goals (refine congrArg (Value.int .i64) ?_; unfold sMul; first | (rw [if_neg hg]; done) | (rw [if_pos hg]; done))
/-- chartroom/field.Add -/
theorem field_Add (a b : Int) (w : World) :
    Calls Tryz.prog 65 #[.int .i64 a, .int .i64 b] w (Ret w (eTup (sAdd a b))) := by
  
  refine enter (vs := [_, _]) Tryz.func65 rfl Tryz.ntmps65 rfl ?_
  refine CJ.seq ?_
  refine CJ.region ?_
  refine rv rfl rfl rfl (asg_r rfl) ?_
  refine rv rfl rfl rfl (asg_r rfl) ?_
  refine OJ.done ?_
  refine PJ.next ?_
  refine CJ.seq ?_
  refine CJ.seq ?_
  refine CJ.region ?_
  refine rv rfl rfl rfl (mv_r rfl) ?_
  refine rv rfl rfl rfl (mv_r rfl) ?_
  refine bslR Tryz.underlying22 Tryz.sizeOf3 Tryz.zeroValue3 rfl rfl rfl rfl rfl rfl rfl ?_
  intro b8 w8 hb8 ha8 ho8 hm8 hz8
  simp only [Above] at ha8
  try simp only [Off, book, List.cons_append, List.nil_append, List.set_cons_zero, List.set_cons_succ, ne_eq] at ho8
  refine call Tryz.call95 rfl rfl rfl (fun W hS => field_outside [a, b] _ _ _ _ _ rfl (by simp) W (hS.old (.head _) hb8 hm8 trivial)) ?_
  refine OJ.done ?_
  refine PJ.next ?_
  refine CJ.cond rfl (fun hc1 => ?_) (fun hc1 => ?_)
  · try simp only [decide_eq_true_eq, decide_eq_false_iff_not, Bool.not_eq_true', Bool.not_eq_false'] at hc1
    refine CJ.seq ?_
    have hg := out2' hc1
    refine CJ.region ?_
    refine rv rfl rfl rfl (asg_r rfl) ?_
    refine rv rfl rfl rfl (asg_r rfl) ?_
    refine OJ.done ?_
    refine PJ.next ?_
    refine CJ.ret ?_
    refine PJ.retThen ?_
    refine retV2 Tryz.results65 rfl rfl (.tail _ (.head _)) ?_ ?_
    all_goals (refine congrArg (Value.int .i64) ?_; unfold sAdd; first | (rw [if_neg hg]; done) | (rw [if_pos hg]; done))
  · try simp only [decide_eq_true_eq, decide_eq_false_iff_not, Bool.not_eq_true', Bool.not_eq_false'] at hc1
    refine CJ.skip ?_
    refine PJ.next ?_
    refine CJ.seq ?_
    have hg := out2 hc1
    refine CJ.region ?_
    refine rv rfl rfl rfl (mv_r rfl) ?_
    refine rv rfl rfl rfl (mv_r rfl) ?_
    refine rv rfl rfl rfl (addI_r rfl rfl (by omega) (by omega)) ?_
    refine rv rfl rfl rfl (remU_r rfl rfl (by omega) (by omega)) ?_
    refine rv rfl rfl rfl (asg_r rfl) ?_
    refine rv rfl rfl rfl (asg_r rfl) ?_
    refine OJ.done ?_
    refine PJ.next ?_
    refine CJ.ret ?_
    refine retV2 Tryz.results65 rfl rfl (.tail _ (.head _)) ?_ ?_
    all_goals (refine congrArg (Value.int .i64) ?_; unfold sAdd; first | (rw [if_neg hg]; done) | (rw [if_pos hg]; done))
end Px
namespace Px
open Go Go.RowKit Go.Proofs
end Px
namespace Px
open Go Go.RowKit Go.Proofs
abbrev KOk (x : Int) : Prop := 1 ≤ x ∧ x < 2305843009213688669
theorem gok4 : GOk 4 := by decide +kernel
def kPub (x : Int) : Int × Int := if KOk x then (powM 4 x 4611686018427377339, 0) else (0, 50)
theorem gExp4 {x : Int} (h : KOk x) : gExp 4 x = (powM 4 x 4611686018427377339, 0) := by unfold gExp; rw [if_pos gok4, if_pos (by omega)]
/-- (chartroom/sign.key).valid -/
theorem sign_valid (a : Int) (w : World) :
    Calls Tryz.prog 62 #[.int .i64 a] w (Ret w (.bool (decide (KOk a)))) := by
  
  refine enter (vs := [_]) Tryz.func62 rfl Tryz.ntmps62 rfl ?_
  refine CJ.seq ?_
  refine CJ.region ?_
  refine rv rfl rfl rfl (asg_r rfl) ?_
  refine OJ.done ?_
  refine PJ.next ?_
  refine CJ.seq ?_
  refine CJ.region ?_
  refine rv rfl rfl rfl (mv_r rfl) ?_
  refine rv rfl rfl rfl (geq_r rfl rfl) ?_
  refine rv rfl rfl rfl (mv_r rfl) ?_
  refine OJ.split (t := 5) rfl (fun hc1 => ?_) (fun hc1 => ?_)
  · try simp only [decide_eq_true_eq, decide_eq_false_iff_not, Bool.not_eq_true', Bool.not_eq_false'] at hc1
    refine rv rfl rfl rfl (mv_r rfl) ?_
    refine rv rfl rfl rfl (lss_r rfl rfl) ?_
    refine rv rfl rfl rfl (pkT_r rfl rfl) ?_
    refine rv rfl rfl rfl (asg_r rfl) ?_
    refine OJ.done ?_
    refine PJ.next ?_
    refine CJ.ret ?_
    refine retV Tryz.results62 rfl (.head _) ?_
    refine congrArg Value.bool (Bool.eq_iff_iff.2 ?_)
    (try simp only [decide_eq_true_eq, Bool.false_eq_true, false_iff, true_iff])
    first | omega | (intro h; omega)
  · try simp only [decide_eq_true_eq, decide_eq_false_iff_not, Bool.not_eq_true', Bool.not_eq_false'] at hc1
    refine OJ.off rfl (by decide) rfl ?_
    refine OJ.off rfl (by decide) rfl ?_
    refine rv rfl rfl rfl (pkF_r rfl rfl) ?_
    refine rv rfl rfl rfl (asg_r rfl) ?_
    refine OJ.done ?_
    refine PJ.next ?_
    refine CJ.ret ?_
    refine retV Tryz.results62 rfl (.head _) ?_
    refine congrArg Value.bool (Bool.eq_iff_iff.2 ?_)
    (try simp only [decide_eq_true_eq, Bool.false_eq_true, false_iff, true_iff])
    first | omega | (intro h; omega)
/-- (chartroom/sign.key).public -/
theorem sign_public (a : Int) (w : World) :
    Calls Tryz.prog 63 #[.int .i64 a] w (Ret w (.int .i64 (gExp 4 a).1)) := by
  
  refine enter (vs := [_]) Tryz.func63 rfl Tryz.ntmps63 rfl ?_
  refine CJ.seq ?_
  refine CJ.region ?_
  refine rv rfl rfl rfl (asg_r rfl) ?_
  refine OJ.done ?_
  refine PJ.next ?_
  refine CJ.seq ?_
  refine CJ.region ?_
  refine rv rfl rfl rfl (mv_r rfl) ?_
  refine call Tryz.call46 rfl rfl rfl (fun W hS => group_Base _ W) ?_
  refine rv rfl rfl rfl (mv_r rfl) ?_
  refine rv rfl rfl rfl (ext_r rfl rfl) ?_
  refine rv rfl rfl rfl (ext_r rfl rfl) ?_
  refine rv rfl rfl rfl (asg_r rfl) ?_
  refine rv rfl rfl rfl (asg_r rfl) ?_
  refine OJ.done ?_
  refine PJ.next ?_
  refine CJ.seq ?_
  refine CJ.region ?_
  refine rv rfl rfl rfl (mv_r rfl) ?_
  refine rv rfl rfl rfl (asg_r rfl) ?_
  refine OJ.done ?_
  refine PJ.next ?_
  refine CJ.ret ?_
  refine retV Tryz.results63 rfl (.head _) ?_
  rfl
/-- chartroom/sign.Public -/
theorem sign_Public (a : Int) (w : World) :
    Calls Tryz.prog 24 #[.int .i64 a] w (Ret w (eTup (kPub a))) := by
  
  refine enter (vs := [_]) Tryz.func24 rfl Tryz.ntmps24 rfl ?_
  refine CJ.seq ?_
  refine CJ.region ?_
  refine rv rfl rfl rfl (asg_r rfl) ?_
  refine rv rfl rfl rfl (asg_r rfl) ?_
  refine OJ.done ?_
  refine PJ.next ?_
  refine CJ.seq ?_
  refine CJ.seq ?_
  refine CJ.region ?_
  refine rv rfl rfl rfl (mv_r rfl) ?_
  refine call Tryz.call62 rfl rfl rfl (fun W hS => sign_valid _ W) ?_
  refine rv rfl rfl rfl (notB_r rfl) ?_
  refine OJ.done ?_
  refine PJ.next ?_
  refine CJ.cond rfl (fun hc1 => ?_) (fun hc1 => ?_)
  · try simp only [decide_eq_true_eq, decide_eq_false_iff_not, Bool.not_eq_true', Bool.not_eq_false'] at hc1
    refine CJ.seq ?_
    refine CJ.region ?_
    refine rv rfl rfl rfl (asg_r rfl) ?_
    refine rv rfl rfl rfl (asg_r rfl) ?_
    refine OJ.done ?_
    refine PJ.next ?_
    refine CJ.ret ?_
    refine PJ.retThen ?_
    refine retV2 Tryz.results24 rfl rfl (.head _) ?_ ?_
    all_goals (refine congrArg (Value.int .i64) ?_; unfold kPub; first | (rw [if_neg (by omega)]; done) | (rw [if_pos (by omega)]; try first | (rw [gExp4 (by omega)]; done) | skip))
  · try simp only [decide_eq_true_eq, decide_eq_false_iff_not, Bool.not_eq_true', Bool.not_eq_false'] at hc1
    refine CJ.skip ?_
    refine PJ.next ?_
    refine CJ.seq ?_
    refine CJ.region ?_
    refine rv rfl rfl rfl (mv_r rfl) ?_
    refine call Tryz.call63 rfl rfl rfl (fun W hS => sign_public _ W) ?_
    refine rv rfl rfl rfl (asg_r rfl) ?_
    refine rv rfl rfl rfl (asg_r rfl) ?_
    refine OJ.done ?_
    refine PJ.next ?_
    refine CJ.ret ?_
    refine retV2 Tryz.results24 rfl rfl (.head _) ?_ ?_
    all_goals (refine congrArg (Value.int .i64) ?_; unfold kPub; first | (rw [if_neg (by omega)]; done) | (rw [if_pos (by omega)]; try first | (rw [gExp4 (by omega)]; done) | skip))
end Px
