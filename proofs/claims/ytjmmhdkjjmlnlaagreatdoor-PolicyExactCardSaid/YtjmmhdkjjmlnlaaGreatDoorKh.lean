/- Contracts of Verify and of Check; a signature that was made is verified. No condition beyond those that each theorem states. -/
import Derived.Test.YtjmmhdkjjmlnlaaGreatDoorKg
import Derived.Test.YtjmmhdkjjmlnlaaGreatDoorProg
import Derived.Test.YtjmmhdkjjmlnlaaGreatDoorXe
set_option linter.unusedSimpArgs false
set_option linter.unusedVariables false
set_option linter.unusedSectionVars false
namespace Px
open Go Go.RowKit Go.Proofs
/-- products in the group -/
def gMul (a b : Int) : Int × Int := if GOk a ∧ GOk b then (a * b % 4611686018427377339, 0) else (0, 40)
theorem gMul_no {a b : Int} (h : ¬ (GOk a ∧ GOk b)) : gMul a b = (0, 40) := by unfold gMul; rw [if_neg h]
theorem gMul_ok {a b : Int} (ha : GOk a) (hb : GOk b) : gMul a b = (a * b % 4611686018427377339, 0) := by unfold gMul; rw [if_pos ⟨ha, hb⟩]
theorem chk_no {x : Int} (h : ¬ (if GOk x then (0 : Int) else 40) = 0) : ¬ GOk x := fun g => h (if_pos g)
theorem chk_ok {x : Int} (h : (if GOk x then (0 : Int) else 40) = 0) : GOk x := Decidable.byContradiction fun g => by rw [if_neg g] at h; exact absurd h (by decide)
def pick2 (a b : Int) (j : Nat) : Int := match j with | 0 => a | _ => b
theorem pick2_at (a b : Int) (j : Nat) (h : j < 2) : (#[.int .i64 a, .int .i64 b] : Array Value)[j]? = some (.int .i64 (pick2 a b j)) := by
  match j, h with
  | 0, _ => rfl
  | 1, _ => rfl
/-- chartroom/group.Mul -/
theorem group_Mul (a b : Int) (w : World) :
    Calls Tryz.prog 49 #[.int .i64 a, .int .i64 b] w (Ret w (eTup (gMul a b))) := by
  
  refine enter (vs := [_, _]) Tryz.func49 rfl Tryz.ntmps49 rfl ?_
  refine CJ.seq ?_
  refine CJ.region ?_
  refine rv rfl rfl rfl (asg_r rfl) ?_
  refine rv rfl rfl rfl (asg_r rfl) ?_
  refine OJ.done ?_
  refine PJ.next ?_
  refine CJ.seq ?_
  refine CJ.seq ?_
  refine CJ.region ?_
  refine rv rfl rfl rfl (mv_r rfl) ?_
  refine rv rfl rfl rfl (mv_r rfl) ?_
  refine rv rfl rfl rfl (bldQ_r Tryz.underlying159 Tryz.zeroValue159 Tryz.sizeOf3 rfl rfl rfl rfl) ?_
  refine rv rfl rfl rfl (mv_r rfl) ?_
  refine OJ.done ?_
  refine PJ.next ?_
  refine CJ.block ?_
  refine CJ.loop (α := Nat) (fun j => [(0, .int .i64 a), (1, .int .i64 b), (11, .agg #[.int .i64 a, .int .i64 b]), (12, .int .i64 (j : Int))]) (fun j => []) (fun j => [w]) (fun j => Gh.no) (fun j => j ≤ 2 ∧ (1 ≤ j → GOk a) ∧ (2 ≤ j → GOk b)) (fun j => 2 - j) 0 ⟨by omega, fun h => absurd h (by omega), fun h => absurd h (by omega)⟩ ⟨rfl, rfl, rfl, rfl, trivial⟩ rfl rfl (by simp) ?_
  rintro j ⟨hj, hok1, hok2⟩
  refine CJ.seq ?_
  refine CJ.region ?_
  refine rv rfl rfl rfl (lss_r rfl rfl) ?_
  refine OJ.done ?_
  refine PJ.next ?_
  refine CJ.seq ?_
  refine CJ.cond rfl (fun hc1 => ?_) (fun hc1 => ?_)
  · try simp only [decide_eq_true_eq, decide_eq_false_iff_not, Bool.not_eq_true', Bool.not_eq_false'] at hc1
    refine CJ.skip ?_
    refine PJ.next ?_
    refine CJ.seq ?_
    refine CJ.block ?_
    refine CJ.seq ?_
    refine CJ.region ?_
    refine rv rfl rfl rfl (RV.re (v' := .int .i64 (pick2 a b j)) (idxV_r Tryz.underlying159 Tryz.isAgg3 Tryz.sizeOf3 rfl rfl (by omega) (by omega) (by rw [Nat.mul_one]; exact pick2_at a b _ (by omega))) (congrArg (fun k => Value.int .i64 (pick2 a b k)) (by omega))) ?_
    refine rv rfl rfl rfl (asg_r rfl) ?_
    refine OJ.done ?_
    refine PJ.next ?_
    refine CJ.seq ?_
    refine CJ.region ?_
    refine rv rfl rfl rfl (mv_r rfl) ?_
    obtain ⟨e, he⟩ : ∃ e, (if GOk (pick2 a b j) then (0 : Int) else 40) = e := ⟨_, rfl⟩
    refine call Tryz.call44 rfl rfl rfl (fun W hS => by rw [← he]; exact group_Check _ W) (v := .int .i64 e) ?_
    refine rv rfl rfl rfl (asg_r rfl) ?_
    refine OJ.done ?_
    refine PJ.next ?_
    refine CJ.seq ?_
    refine CJ.region ?_
    refine rv rfl rfl rfl (mv_r rfl) ?_
    refine rv rfl rfl rfl (neqI_r rfl rfl) ?_
    refine OJ.done ?_
    refine PJ.next ?_
    refine CJ.cond rfl (fun hc2 => ?_) (fun hc2 => ?_)
    · try simp only [decide_eq_true_eq, decide_eq_false_iff_not, Bool.not_eq_true', Bool.not_eq_false'] at hc2
      refine CJ.seq ?_
      refine CJ.region ?_
      refine rv rfl rfl rfl (mv_r rfl) ?_
      refine rv rfl rfl rfl (asg_r rfl) ?_
      refine rv rfl rfl rfl (asg_r rfl) ?_
      refine OJ.done ?_
      refine PJ.next ?_
      refine CJ.ret ?_
      refine PJ.retBlock ?_
      refine PJ.retThen ?_
      refine PJ.retThen ?_
      refine PJ.retBlock ?_
      refine PJ.retThen ?_
      refine retV2 Tryz.results49 rfl rfl (.head _) ?_ ?_
      · exact congrArg (Value.int .i64) (by rw [gMul_no (fun g => by match j, he with | 0, he => exact chk_no (x := pick2 a b 0) (by rw [he]; omega) g.1 | j + 1, he => exact chk_no (x := pick2 a b (j + 1)) (by rw [he]; omega) g.2)])
      · exact congrArg (Value.int .i64) (by rw [gMul_no (fun g => by match j, he with | 0, he => exact chk_no (x := pick2 a b 0) (by rw [he]; omega) g.1 | j + 1, he => exact chk_no (x := pick2 a b (j + 1)) (by rw [he]; omega) g.2), ← he]; exact if_neg (chk_no (by rw [he]; omega)))
    · try simp only [decide_eq_true_eq, decide_eq_false_iff_not, Bool.not_eq_true', Bool.not_eq_false'] at hc2
      refine CJ.skip ?_
      refine PJ.norBlock ?_
      refine PJ.next ?_
      refine CJ.region ?_
      refine rv rfl rfl rfl (addI_r rfl rfl (by omega) (by omega)) ?_
      refine rv rfl rfl rfl (mv_r rfl) ?_
      refine OJ.done ?_
      refine PJ.again (j + 1) ⟨by omega, fun _ => by match j, hok1, he with | 0, _, he => exact chk_ok (x := pick2 a b 0) (by rw [he]; omega) | j + 1, hok1, _ => exact hok1 (by omega), fun h => by match j, hj, he with | 0, _, _ => exact absurd h (by omega) | 1, _, he => exact chk_ok (x := pick2 a b 1) (by rw [he]; omega) | j + 2, hj, _ => exact absurd hc1 (by omega)⟩ (by omega) ⟨rfl, rfl, rfl, rfl, trivial⟩ rfl rfl (by simp)
  · try simp only [decide_eq_true_eq, decide_eq_false_iff_not, Bool.not_eq_true', Bool.not_eq_false'] at hc1
    refine CJ.exit ?_
    refine PJ.exThen ?_
    refine PJ.exThen ?_
    refine PJ.exHit ?_
    refine PJ.next ?_
    refine CJ.seq ?_
    have hj2 : j = 2 := by omega
    have hga := hok1 (by omega)
    have hgb := hok2 (by omega)
    have ha1 := hga.1
    have ha2 := hga.2.1
    have hb1 := hgb.1
    have hb2 := hgb.2.1
    have hm0 := Int.emod_nonneg (a * b) (b := 4611686018427377339) (by decide)
    have hm1 := Int.emod_lt_of_pos (a * b) (b := 4611686018427377339) (by decide)
    refine CJ.region ?_
    refine rv rfl rfl rfl (mv_r rfl) ?_
    refine rv rfl rfl rfl (cvtU_r Tryz.underlying3 Tryz.underlying148 rfl (by omega) (by omega)) ?_
    refine rv rfl rfl rfl (mv_r rfl) ?_
    refine rv rfl rfl rfl (cvtU_r Tryz.underlying3 Tryz.underlying148 rfl (by omega) (by omega)) ?_
    refine call Tryz.call97 rfl rfl rfl (fun W hS => group_times a b (by omega) (by omega) (by omega) (by omega) W) ?_
    refine rv rfl rfl rfl (cvtI_r Tryz.underlying148 Tryz.underlying3 rfl (by omega) (by omega)) ?_
    refine rv rfl rfl rfl (asg_r rfl) ?_
    refine rv rfl rfl rfl (asg_r rfl) ?_
    refine OJ.done ?_
    refine PJ.next ?_
    refine CJ.ret ?_
    refine retV2 Tryz.results49 rfl rfl (.head _) ?_ ?_
    · exact congrArg (Value.int .i64) (by rw [gMul_ok hga hgb])
    · exact congrArg (Value.int .i64) (by rw [gMul_ok hga hgb])
def ks101 : List TK := repK 3 [.i]
theorem eqA101 : EqA Tryz.prog 2 101 ks101 := EqA.array Tryz.underlying101 Tryz.sizeOf33 rfl ((EqP.int Tryz.underlying33 Tryz.isAgg33).up (by decide) : EqP Tryz.prog 1 33 [.i])
theorem eqG101 : Tryz.prog.eqGuardType Tryz.prog.depth 101 = false := by kernel_rfl
/-- what Verify answers -/
def verB (Z : Fx) (p : Int) (msg : List UInt8) (r s : Int) : Bool := decide (GOk p ∧ GOk r ∧ SOk s ∧ (Z.ge 4 s).1 = (gMul r (Z.ge p (chalOf Z r p msg)).1).1)
theorem chk_iff {x e : Int} (h : (if GOk x then (0 : Int) else 40) = e) : e = 0 ↔ GOk x := ⟨fun g => chk_ok (h.trans g), fun g => by rw [← h, if_pos g]⟩
theorem schk_iff {x e : Int} (h : (if sOut x then (1 : Int) else 0) = e) : e = 0 ↔ SOk x := by
  subst h
  by_cases g : SOk x
  · rw [sOut_false.2 g]; exact ⟨fun _ => g, fun _ => rfl⟩
  · rw [sOut_true.2 g]; exact ⟨fun h => absurd h (by decide), fun h => absurd h g⟩
theorem verB_no {Z : Fx} {p r s e1 e2 e3 : Int} {msg : List UInt8} (h1 : e1 = 0 ↔ GOk p) (h2 : e2 = 0 ↔ GOk r) (h3 : e3 = 0 ↔ SOk s) (h : ¬ (e1 = 0 ∧ e2 = 0 ∧ e3 = 0)) : Value.bool false = .bool (verB Z p msg r s) := by
  refine congrArg Value.bool (decide_eq_false ?_).symm
  rintro ⟨g1, g2, g3, _⟩
  exact h ⟨h1.2 g1, h2.2 g2, h3.2 g3⟩
theorem verB_yes {Z : Fx} {p r s e1 e2 e3 e : Int} {msg : List UInt8} {m : Int × Int} (h1 : e1 = 0 ↔ GOk p) (h2 : e2 = 0 ↔ GOk r) (h3 : e3 = 0 ↔ SOk s) (h : e1 = 0 ∧ e2 = 0 ∧ e3 = 0) (he : chalOf Z r p msg = e) (hm : gMul r (Z.ge p e).1 = m) : Value.bool (decide ((Z.ge 4 s).1 = m.1)) = .bool (verB Z p msg r s) := by
  subst he
  subst hm
  refine congrArg Value.bool (decide_eq_decide.2 ?_)
  exact ⟨fun g => ⟨h1.1 h.1, h2.1 h.2.1, h3.1 h.2.2, g⟩, fun g => g.2.2.2⟩
theorem expG {Z : Fx} (hZ : FxOk Z) (a k : Int) (w : World) : Calls Tryz.prog 47 #[.int .i64 a, .int .i64 k] w (Ret w (eTup (Z.ge a k))) := by
  rw [← hZ.ge]; exact group_Exp a k w
theorem eq3 (a b c : Int) : (!eqL [.int .i64 a, .int .i64 b, .int .i64 c] [.int .i64 0, .int .i64 0, .int .i64 0]) = decide (¬ (a = 0 ∧ b = 0 ∧ c = 0)) := by
  simp only [eqL, eqV, Bool.and_true]
  by_cases h1 : a = 0 <;> by_cases h2 : b = 0 <;> by_cases h3 : c = 0 <;> simp [h1, h2, h3]
set_option maxHeartbeats 400000 in
/-- chartroom/sign.Verify -/
theorem sign_Verify {Z : Fx} (hZ : FxOk Z) (p r s : Int) (msg : List UInt8) (bm om cm : Nat) (hml : msg.length ≤ 100000000000) (w : World) (hmsg : SegU w bm om msg) (hg : Glb w) :
    Calls Tryz.prog 20 #[.int .i64 p, .slice (some ⟨bm, om, none⟩) msg.length cm, .agg #[.int .i64 r, .int .i64 s]] w (Ret w (.bool (verB Z p msg r s))) := by
  have hmsl := hmsg.lt
  obtain ⟨e1, he1⟩ : ∃ e, (if GOk p then (0 : Int) else 40) = e := ⟨_, rfl⟩
  obtain ⟨e2, he2⟩ : ∃ e, (if GOk r then (0 : Int) else 40) = e := ⟨_, rfl⟩
  obtain ⟨e, he⟩ : ∃ e, chalOf Z r p msg = e := ⟨_, rfl⟩
  obtain ⟨m, hm⟩ : ∃ m, gMul r (Z.ge p e).1 = m := ⟨_, rfl⟩
  have hi1 := chk_iff he1
  have hi2 := chk_iff he2
  have hg4 := hg.lt
  obtain ⟨e3, he3⟩ : ∃ e, (if sOut s then (1 : Int) else 0) = e := ⟨_, rfl⟩
  have hi3 := schk_iff he3
  refine enter (vs := [_, _, _]) Tryz.func20 rfl Tryz.ntmps20 rfl ?_
  refine CJ.seq ?_
  refine CJ.region ?_
  refine boxR rfl rfl rfl ?_
  intro b5 w5 hb5 ha5 ho5 hm5 hz5
  simp only [Above] at ha5
  try simp only [Off, book, List.cons_append, List.nil_append, List.set_cons_zero, List.set_cons_succ, ne_eq] at ho5
  refine rv rfl rfl rfl (asg_r rfl) ?_
  refine OJ.done ?_
  refine PJ.next ?_
  refine CJ.seq ?_
  refine CJ.less (E' := [(0, _), (1, _), (2, _), (5, _), (6, _)]) ⟨rfl, rfl, rfl, rfl, rfl, trivial⟩ ?_
  refine CJ.chn 10 [9] [([], some _), ([0], some (.int .i64 e1)), ([], some _), ([2], some (.int .i64 r)), ([3], some (.int .i64 e2)), ([], some _), ([5], some (.int .i64 s)), ([6], some (.int .i64 e3)), ([1, 4, 7], some (.agg #[.int .i64 e1, .int .i64 e2, .int .i64 e3])), ([], none)] (fun cv L' H' => match cv with | [] => L' = [w5, w] ∧ H' = [] | [v1] => ∃ (b7 : Nat), v1 = ptr b7 0 ∧ L' = [w5, w] ∧ H' = [(b7, .cells #[.int .i64 0, .int .i64 0, .int .i64 0] 101 (0, 0))] ∧ (w5.heap.size ≤ b7 ∧ w.heap.size ≤ b7) | _ => False) (by kernel_rfl) ⟨rfl, rfl⟩ (by kernel_rfl) (by kernel_rfl) (by kernel_rfl) (by kernel_rfl) (by kernel_rfl) (by kernel_rfl) (pc (fun cv L' H' hd hP => X.val rfl rfl (mv_r rfl) (fun _ _ => rfl)) (pc (fun cv L' H' hd hP => X.callV Tryz.call44 rfl rfl (fun W hS _ => by rw [← he1]; exact group_Check p W) (fun _ => rfl)) (pc (fun cv L' H' hd hP => X.val rfl rfl (fld_r Tryz.underlying30 rfl Tryz.sizeOf3 rfl) (fun _ _ => rfl)) (pc (fun cv L' H' hd hP => match cv, hd, hP with | [], hd, hP => (by obtain ⟨rfl, rfl⟩ := hP; exact X.val rfl rfl (ldR_r Tryz.isAgg3 rfl (.head _) hb5 hm5 trivial rfl) (fun _ _ => rfl)) | [v1], hd, hP => (by obtain ⟨b7, rfl, rfl, rfl, ha7⟩ := hP; exact X.val rfl rfl (ldR_r Tryz.isAgg3 rfl (.head _) hb5 hm5 (by first | (simp only [Off, book, List.cons_append, List.nil_append, List.set_cons_zero, List.set_cons_succ, List.eraseIdx_cons_zero, List.eraseIdx_cons_succ, ne_eq, and_true]; omega) | (simp [Off] <;> omega)) rfl) (fun _ _ => rfl)) | _ :: _ :: _, _, hP => hP.elim) (pc (fun cv L' H' hd hP => X.callV Tryz.call44 rfl rfl (fun W hS _ => by rw [← he2]; exact group_Check r W) (fun _ => rfl)) (pc (fun cv L' H' hd hP => X.val rfl rfl (fld_r Tryz.underlying30 rfl Tryz.sizeOf3 rfl) (fun _ _ => rfl)) (pc (fun cv L' H' hd hP => match cv, hd, hP with | [], hd, hP => (by obtain ⟨rfl, rfl⟩ := hP; exact X.val rfl rfl (ldR_r Tryz.isAgg3 rfl (.head _) hb5 hm5 trivial rfl) (fun _ _ => rfl)) | [v1], hd, hP => (by obtain ⟨b7, rfl, rfl, rfl, ha7⟩ := hP; exact X.val rfl rfl (ldR_r Tryz.isAgg3 rfl (.head _) hb5 hm5 (by first | (simp only [Off, book, List.cons_append, List.nil_append, List.set_cons_zero, List.set_cons_succ, List.eraseIdx_cons_zero, List.eraseIdx_cons_succ, ne_eq, and_true]; omega) | (simp [Off] <;> omega)) rfl) (fun _ _ => rfl)) | _ :: _ :: _, _, hP => hP.elim) (pc (fun cv L' H' hd hP => X.callV Tryz.call45 rfl rfl (fun W hS _ => by rw [← he3]; exact field_Check s W) (fun _ => rfl)) (pc (fun cv L' H' hd hP => X.val rfl rfl (bldQ_r Tryz.underlying101 Tryz.zeroValue101 Tryz.sizeOf33 rfl rfl rfl rfl) (fun _ _ => rfl)) (pk (pn))))))))))) ?_ ?_
  · refine sc rfl rfl rfl ?_ ?_
    · intro cv L' H' hl hP F Q' hk
      obtain rfl := List.eq_nil_of_length_eq_zero hl
      obtain ⟨rfl, rfl⟩ := hP
      refine allW Tryz.zeroValue101 rfl rfl ?_
      intro b7 ha ho
      exact OJ.done (hk _ _ _ ⟨b7, rfl, rfl, rfl, ⟨ha.1, ha.2.1⟩⟩)
    exact sn
  · intro cv L' H' hl hP
    obtain ⟨v1, rfl⟩ := len1 hl
    obtain ⟨b7, rfl, rfl, rfl, ha7⟩ := hP
    refine stWw (i := 0) rfl Tryz.sizeOf101 rfl rfl rfl rfl rfl rfl ?_
    refine OJ.done ?_
    refine PJ.next ?_
    refine CJ.seq ?_
    refine CJ.seq ?_
    refine CJ.region ?_
    refine rv rfl rfl rfl (ldWAw_r (i := 0) rfl Tryz.isAgg101 Tryz.sizeOf101 rfl rfl) ?_
    refine rv rfl rfl rfl (bldA_r Tryz.underlying101 Tryz.zeroValue101 Tryz.sizeOf33 rfl rfl) ?_
    refine rv rfl rfl rfl (RV.re (v' := .bool (decide (¬ (e1 = 0 ∧ e2 = 0 ∧ e3 = 0)))) (neqA_r eqA101 (by decide) eqG101 rfl rfl rfl) (congrArg Value.bool (eq3 e1 e2 e3))) ?_
    refine OJ.done ?_
    refine PJ.next ?_
    refine CJ.cond rfl (fun hc1 => ?_) (fun hc1 => ?_)
    · try simp only [decide_eq_true_eq, decide_eq_false_iff_not, Bool.not_eq_true', Bool.not_eq_false'] at hc1
      refine CJ.seq ?_
      refine CJ.region ?_
      refine rv rfl rfl rfl (asg_r rfl) ?_
      refine OJ.done ?_
      refine PJ.next ?_
      refine CJ.ret ?_
      refine PJ.retThen ?_
      refine retO (.inl rfl) Tryz.results20 (RS.t rfl (RS.n)) (.tail _ (.head _)) (by first | (simp only [Over, List.set_cons_zero, List.set_cons_succ, List.eraseIdx_cons_zero, List.eraseIdx_cons_succ, and_true]; omega) | (simp [Over] <;> omega)) ?_
      exact verB_no hi1 hi2 hi3 (by simpa using hc1)
    · try simp only [decide_eq_true_eq, decide_eq_false_iff_not, Bool.not_eq_true', Bool.not_eq_false'] at hc1
      refine CJ.skip ?_
      refine PJ.next ?_
      refine CJ.seq ?_
      refine CJ.region ?_
      refine rv rfl rfl rfl (fld_r Tryz.underlying30 rfl Tryz.sizeOf3 rfl) ?_
      refine rv rfl rfl rfl (ldR_r Tryz.isAgg3 rfl (.head _) hb5 hm5 (by first | (simp only [Off, book, List.cons_append, List.nil_append, List.set_cons_zero, List.set_cons_succ, List.eraseIdx_cons_zero, List.eraseIdx_cons_succ, ne_eq, and_true]; omega) | (simp [Off] <;> omega)) rfl) ?_
      refine call Tryz.call46 rfl rfl rfl (fun W hS => baseG hZ _ W) ?_
      refine rv rfl rfl rfl (mv_r rfl) ?_
      refine rv rfl rfl rfl (ext_r rfl rfl) ?_
      refine rv rfl rfl rfl (ext_r rfl rfl) ?_
      refine rv rfl rfl rfl (asg_r rfl) ?_
      refine rv rfl rfl rfl (asg_r rfl) ?_
      refine OJ.done ?_
      refine PJ.next ?_
      refine CJ.seq ?_
      refine CJ.region ?_
      refine rv rfl rfl rfl (mv_r rfl) ?_
      refine rv rfl rfl rfl (mv_r rfl) ?_
      refine rv rfl rfl rfl (fld_r Tryz.underlying30 rfl Tryz.sizeOf3 rfl) ?_
      refine rv rfl rfl rfl (ldR_r Tryz.isAgg3 rfl (.head _) hb5 hm5 (by first | (simp only [Off, book, List.cons_append, List.nil_append, List.set_cons_zero, List.set_cons_succ, List.eraseIdx_cons_zero, List.eraseIdx_cons_succ, ne_eq, and_true]; omega) | (simp [Off] <;> omega)) rfl) ?_
      refine rv rfl rfl rfl (mv_r rfl) ?_
      refine bslR Tryz.underlying22 Tryz.sizeOf3 Tryz.zeroValue3 rfl rfl rfl rfl rfl rfl rfl ?_
      intro b38 w38 hb38 ha38 ho38 hm38 hz38
      simp only [Above] at ha38
      try simp only [Off, book, List.cons_append, List.nil_append, List.set_cons_zero, List.set_cons_succ, ne_eq] at ho38
      refine call Tryz.call48 rfl rfl rfl (fun W hS => sign_hash2 hZ r p e msg he hml bm om cm b38 _ _ _ W (hmsg.old hS (.tail _ (.tail _ (.head _))) (fun h => h) (by first | exact True.intro | (simp only [Off, List.set_cons_zero, List.set_cons_succ, List.eraseIdx_cons_zero, List.eraseIdx_cons_succ, ne_eq, and_true]; omega))) (hS.old (.head _) hb38 hm38 (by first | exact True.intro | (simp only [Off, List.set_cons_zero, List.set_cons_succ, List.eraseIdx_cons_zero, List.eraseIdx_cons_succ, ne_eq, and_true]; omega))) (hg.old hS (.tail _ (.tail _ (.head _))) (fun _ _ h => h) (by first | exact True.intro | (simp only [Over, List.set_cons_zero, List.set_cons_succ, List.eraseIdx_cons_zero, List.eraseIdx_cons_succ, and_true]; omega)))) ?_
      refine call Tryz.call47 rfl rfl rfl (fun W hS => expG hZ p e W) ?_
      refine rv rfl rfl rfl (mv_r rfl) ?_
      refine rv rfl rfl rfl (ext_r rfl rfl) ?_
      refine rv rfl rfl rfl (ext_r rfl rfl) ?_
      refine rv rfl rfl rfl (asg_r rfl) ?_
      refine rv rfl rfl rfl (asg_r rfl) ?_
      refine OJ.done ?_
      refine PJ.next ?_
      refine CJ.seq ?_
      refine CJ.region ?_
      refine rv rfl rfl rfl (fld_r Tryz.underlying30 rfl Tryz.sizeOf3 rfl) ?_
      refine rv rfl rfl rfl (ldR_r Tryz.isAgg3 rfl (.tail _ (.head _)) hb5 hm5 (by first | (simp only [Off, book, List.cons_append, List.nil_append, List.set_cons_zero, List.set_cons_succ, List.eraseIdx_cons_zero, List.eraseIdx_cons_succ, ne_eq, and_true]; omega) | (simp [Off] <;> omega)) rfl) ?_
      refine rv rfl rfl rfl (mv_r rfl) ?_
      refine call Tryz.call49 rfl rfl rfl (fun W hS => by rw [← hm]; exact group_Mul _ _ W) (v := eTup m) ?_
      refine rv rfl rfl rfl (mv_r rfl) ?_
      refine rv rfl rfl rfl (ext_r rfl rfl) ?_
      refine rv rfl rfl rfl (ext_r rfl rfl) ?_
      refine rv rfl rfl rfl (asg_r rfl) ?_
      refine rv rfl rfl rfl (asg_r rfl) ?_
      refine OJ.done ?_
      refine PJ.next ?_
      refine CJ.seq ?_
      refine CJ.region ?_
      refine rv rfl rfl rfl (mv_r rfl) ?_
      refine rv rfl rfl rfl (mv_r rfl) ?_
      refine rv rfl rfl rfl (eqlI_r rfl rfl) ?_
      refine rv rfl rfl rfl (asg_r rfl) ?_
      refine OJ.done ?_
      refine PJ.next ?_
      refine CJ.ret ?_
      refine retO (.inl rfl) Tryz.results20 (RS.t rfl (RS.n)) (.tail _ (.tail _ (.head _))) (by first | (simp only [Over, List.set_cons_zero, List.set_cons_succ, List.eraseIdx_cons_zero, List.eraseIdx_cons_succ, and_true]; omega) | (simp [Over] <;> omega)) ?_
      exact verB_yes hi1 hi2 hi3 (by simpa using hc1) he hm
end Px
namespace Px
open Go Go.RowKit Go.Proofs
theorem pow_cycle (m : Int) (q : Nat) (h : (4 : Int) ^ q % m = 1) (n : Nat) : (4 : Int) ^ (n % q) % m = 4 ^ n % m := by
  have e : (4 : Int) ^ n = (4 ^ q) ^ (n / q) * 4 ^ (n % q) := by rw [← Int.pow_mul, ← Int.pow_add, Nat.div_add_mod]
  rw [e, Int.mul_emod, ← pow_mod (4 ^ q) m (n / q), h, Int.one_pow]
  by_cases hm : m = 1
  · subst hm; simp [Int.emod_one]
  · have h1 : (1 : Int) % m = 1 := by
      have := h
      rw [← this, Int.emod_emod_of_dvd _ (Int.dvd_refl m)]
    rw [h1, Int.one_mul, Int.emod_emod_of_dvd _ (Int.dvd_refl m)]
theorem four_pow (k : Int) (h0 : 0 ≤ k) : powM 4 k 4611686018427377339 = 4 ^ k.toNat % 4611686018427377339 := powM_eq 4 k 4611686018427377339 h0 (by decide)
theorem four_q : (4 : Int) ^ (Int.toNat (2305843009213688669 : Int)) % 4611686018427377339 = 1 := by rw [← four_pow (2305843009213688669 : Int) (by decide)]; exact gok4.2.2
theorem pow_gok (n : Nat) : GOk ((4 : Int) ^ n % 4611686018427377339) := by
  have hq := four_q
  obtain ⟨q, hqq⟩ : ∃ q, Int.toNat (2305843009213688669 : Int) = q := ⟨_, rfl⟩
  rw [hqq] at hq
  have h1 : powM ((4 : Int) ^ n % 4611686018427377339) (2305843009213688669 : Int) 4611686018427377339 = 1 := by
    rw [powM_eq _ (2305843009213688669 : Int) 4611686018427377339 (by decide) (by decide), hqq, pow_mod, ← Int.pow_mul, Nat.mul_comm, Int.pow_mul, ← pow_mod, hq, Int.one_pow]; rfl
  refine ⟨?_, Int.emod_lt_of_pos _ (by decide), h1⟩
  have h0 := Int.emod_nonneg ((4 : Int) ^ n) (b := 4611686018427377339) (by decide)
  by_cases hz : (4 : Int) ^ n % 4611686018427377339 = 0
  · rw [hz] at h1
    exact absurd h1 (by decide +kernel)
  · omega
/-- Sign and Verify belong together -/
theorem verB_sign {Z : Fx} (hZ : FxOk Z) (x : Int) (hx : KOk x) (msg : List UInt8) : verB Z (Z.ge 4 x).1 msg (sigR Z x msg) (sigS Z x msg) = true := by
  have hk := nonce_ok hZ x msg
  unfold verB sigS
  have hR : sigR Z x msg = 4 ^ (nonceOf Z x msg).toNat % 4611686018427377339 := by
    unfold sigR; rw [← hZ.ge]; unfold gExp; rw [if_pos gok4, if_pos hk]; exact four_pow _ hk.1
  have hX : (Z.ge 4 x).1 = 4 ^ x.toNat % 4611686018427377339 := by rw [← hZ.ge, gExp4 hx]; exact four_pow x (by have := hx.1; omega)
  obtain ⟨e, he⟩ : ∃ e, chalOf Z (sigR Z x msg) (Z.ge 4 x).1 msg = e := ⟨_, rfl⟩
  have heb : 1 ≤ e ∧ e < (2305843009213688669 : Int) := by rw [← he]; unfold chalOf; exact hZ.bd _ _
  rw [he]
  obtain ⟨k, hkk⟩ : ∃ k, nonceOf Z x msg = k := ⟨_, rfl⟩
  rw [hkk] at hk hR ⊢
  have hxS : SOk x := ⟨by have := hx.1; omega, hx.2⟩
  have hm1 : (sMul e x).1 = e * x % (2305843009213688669 : Int) := by unfold sMul; rw [if_pos ⟨⟨by omega, heb.2⟩, hxS⟩]
  have hmo := sMul_ok e x
  have hs1 : (sAdd k (sMul e x).1).1 = (k + e * x % (2305843009213688669 : Int)) % (2305843009213688669 : Int) := by
    unfold sAdd; rw [if_pos ⟨hk, hmo⟩, hm1]
  have hso : SOk ((k + e * x % (2305843009213688669 : Int)) % (2305843009213688669 : Int)) := ⟨Int.emod_nonneg _ (by decide), Int.emod_lt_of_pos _ (by decide)⟩
  rw [hs1, hR, hX]
  have hgx := pow_gok x.toNat
  have hgk := pow_gok k.toNat
  have hpe : (Z.ge (4 ^ x.toNat % 4611686018427377339) e).1 = 4 ^ (x.toNat * e.toNat) % 4611686018427377339 := by
    rw [← hZ.ge]; unfold gExp
    rw [if_pos hgx, if_pos ⟨by omega, heb.2⟩]
    show powM _ _ _ = _
    rw [powM_eq _ e 4611686018427377339 (by omega) (by decide), pow_mod, ← Int.pow_mul]
  have hge := pow_gok (x.toNat * e.toNat)
  rw [hpe, gMul_ok hgk hge]
  have hl : (Z.ge 4 ((k + e * x % (2305843009213688669 : Int)) % (2305843009213688669 : Int))).1 = 4 ^ ((k + e * x % (2305843009213688669 : Int)) % (2305843009213688669 : Int)).toNat % 4611686018427377339 := by
    rw [← hZ.ge]; unfold gExp; rw [if_pos gok4, if_pos hso]; exact four_pow _ hso.1
  rw [hl]
  refine decide_eq_true ⟨hgx, hgk, hso, ?_⟩
  show _ = (4 ^ k.toNat % 4611686018427377339 * (4 ^ (x.toNat * e.toNat) % 4611686018427377339)) % 4611686018427377339
  rw [← Int.mul_emod, ← Int.pow_add]
  have hq := four_q
  obtain ⟨q, hqq⟩ : ∃ q, Int.toNat (2305843009213688669 : Int) = q := ⟨_, rfl⟩
  rw [hqq] at hq
  have hqi : (2305843009213688669 : Int) = (q : Int) := by rw [← hqq]; rfl
  obtain ⟨k', rfl⟩ := Int.eq_ofNat_of_zero_le hk.1
  obtain ⟨x', rfl⟩ := Int.eq_ofNat_of_zero_le hxS.1
  obtain ⟨e', rfl⟩ := Int.eq_ofNat_of_zero_le (show 0 ≤ e by omega)
  have ht : (((k' : Int) + (e' : Int) * (x' : Int) % (2305843009213688669 : Int)) % (2305843009213688669 : Int)).toNat = (k' + x' * e') % q := by
    rw [Int.add_emod_emod, hqi]
    have : ((k' : Int) + (e' : Int) * (x' : Int)) % (q : Int) = (((k' + x' * e') % q : Nat) : Int) := by
      rw [Int.mul_comm]; push_cast; rfl
    rw [this, Int.toNat_natCast]
  rw [ht, pow_cycle 4611686018427377339 q hq]
  rfl
end Px
namespace Px
open Go Go.RowKit Go.Proofs
/-- a policy -/
structure Po where
  fo : Int
  two : Bool
  la : Option Addr
  left : List Int
  lc : Nat
  ra : Option Addr
  right : List Int
  rc : Nat
  least : Int
  most : Int
def poC (p : Po) : Array Value := #[.int .i64 p.fo, .bool p.two, .slice p.la p.left.length p.lc, .slice p.ra p.right.length p.rc, .int .i64 p.least, .int .i64 p.most]
structure PoAt (N : Nat) (w : World) (p : Po) : Prop where
  left : SlAt encI 1 N w p.la p.left
  right : SlAt encI 1 N w p.ra p.right
theorem PoAt.up {N N' : Nat} {w w' : World} {p : Po} (h : PoAt N w p) (hN : N ≤ N') (hw : ∀ k, k < N → w'.heap[k]? = w.heap[k]?) : PoAt N' w' p := ⟨h.left.up hN hw, h.right.up hN hw⟩
structure PoFew (p : Po) : Prop where
  left : p.left.length ≤ 1000000
  right : p.right.length ≤ 1000000
def FineTo (l : List Int) (n : Nat) : Prop := ∀ j x, j < n → l[j]? = some x → 0 ≤ x ∧ x < 64 ∧ ∀ y, 0 < j → l[j - 1]? = some y → y < x
noncomputable def fineB (l : List Int) : Bool := @decide (FineTo l l.length) (Classical.propDecidable _)
theorem fine_no1 {l : List Int} {j : Nat} {x : Int} (hx : l[j]? = some x) (h : x < 0 ∨ 64 ≤ x) : fineB l = false := by
  refine @decide_eq_false _ (Classical.propDecidable _) fun g => ?_
  have := g j x (lt_of_get hx) hx
  omega
theorem fine_no2 {l : List Int} {j : Nat} {x y : Int} (hx : l[j]? = some x) (hy : l[j - 1]? = some y) (hj : 0 < j) (h : x ≤ y) : fineB l = false := by
  refine @decide_eq_false _ (Classical.propDecidable _) fun g => ?_
  have := (g j x (lt_of_get hx) hx).2.2 y hj hy
  omega
theorem fine_yes {l : List Int} {j : Nat} (h : FineTo l j) (hj : l.length ≤ j) : fineB l = true := @decide_eq_true _ (Classical.propDecidable _) fun i x hi hx => h i x (by omega) hx
theorem FineTo.next {l : List Int} {j : Nat} {x : Int} (h : FineTo l j) (hx : l[j]? = some x) (h0 : 0 ≤ x) (h1 : x < 64) (h2 : ∀ y, 0 < j → l[j - 1]? = some y → y < x) : FineTo l (j + 1) := by
  intro i z hi hz
  by_cases e : i = j
  · subst e
    obtain rfl := Option.some.inj (hx.symm.trans hz)
    exact ⟨h0, h1, h2⟩
  · exact h i z (by omega) hz
noncomputable def polB (p : Po) : Bool := decide (0 ≤ p.fo) && decide (p.fo < 16) && fineB p.left && fineB p.right && decide (0 ≤ p.least) && decide (p.least ≤ p.most) && decide (p.most ≤ 1099511627776) && !(p.left.any fun x => decide (x ∈ p.right))
/-- what Check answers -/
noncomputable def chkI (p : Po) : Int := if polB p then 0 else 460
theorem chkI_no (p : Po) (h : p.fo < 0 ∨ 16 ≤ p.fo ∨ fineB p.left = false ∨ fineB p.right = false ∨ p.least < 0 ∨ p.most < p.least ∨ 1099511627776 < p.most ∨ (p.left.any fun x => decide (x ∈ p.right)) = true) : chkI p = 460 := by
  unfold chkI polB
  rw [if_neg]
  simp only [Bool.and_eq_true, decide_eq_true_eq, Bool.not_eq_true']
  rintro ⟨⟨⟨⟨⟨⟨⟨g1, g2⟩, g3⟩, g4⟩, g5⟩, g6⟩, g7⟩, g8⟩
  rcases h with h | h | h | h | h | h | h | h
  · omega
  · omega
  · rw [h] at g3; cases g3
  · rw [h] at g4; cases g4
  · omega
  · omega
  · omega
  · rw [h] at g8; cases g8
theorem chkI_ok (p : Po) (h1 : 0 ≤ p.fo) (h2 : p.fo < 16) (h3 : fineB p.left = true) (h4 : fineB p.right = true) (h5 : 0 ≤ p.least) (h6 : p.least ≤ p.most) (h7 : p.most ≤ 1099511627776) (h8 : (p.left.any fun x => decide (x ∈ p.right)) = false) : chkI p = 0 := by
  unfold chkI polB
  rw [if_pos]
  simp [h1, h2, h3, h4, h5, h6, h7, h8]
theorem chkI_two (p : Po) : chkI p = 0 ∨ chkI p = 460 := by unfold chkI; split <;> simp
theorem any_set (l r : List Int) : (l.any fun x => decide (x ∈ setK r)) = l.any fun x => decide (x ∈ r) := by
  congr 1
  funext x
  exact decide_eq_decide.2 (setK_mem r x)
/-- chartroom/policy.fine -/
theorem policy_fine (l : List Int) (hl : l.length ≤ 1000000) (N : Nat) (a : Option Addr) (c : Nat) (w : World) (hN : N ≤ w.heap.size) (hsl : SlAt encI 1 N w a l) :
    Calls Tryz.prog 30 #[.slice a l.length c] w (Ret w (.bool (fineB l))) := by
  
  refine enter (vs := [_]) Tryz.func30 rfl Tryz.ntmps30 rfl ?_
  refine CJ.seq ?_
  refine CJ.region ?_
  refine rv rfl rfl rfl (asg_r rfl) ?_
  refine OJ.done ?_
  refine PJ.next ?_
  refine CJ.seq ?_
  refine CJ.seq ?_
  refine CJ.region ?_
  refine rv rfl rfl rfl (mv_r rfl) ?_
  refine rv rfl rfl rfl (lenS_r Tryz.underlying22 rfl) ?_
  refine rv rfl rfl rfl (mv_r rfl) ?_
  refine OJ.done ?_
  refine PJ.next ?_
  refine CJ.block ?_
  refine CJ.loop (α := Nat) (fun j => [(0, .slice a l.length c), (5, .slice a l.length c), (6, .int .i64 (l.length : Int)), (7, .int .i64 (j : Int))]) (fun j => []) (fun j => [w]) (fun j => Gh.no) (fun j => j ≤ l.length ∧ FineTo l j) (fun j => l.length - j) 0 ⟨Nat.zero_le _, fun i x hi => absurd hi (by omega)⟩ ⟨rfl, rfl, rfl, rfl, trivial⟩ rfl rfl (by simp) ?_
  rintro j ⟨hj, hft⟩
  refine CJ.seq ?_
  refine CJ.region ?_
  refine rv rfl rfl rfl (lss_r rfl rfl) ?_
  refine OJ.done ?_
  refine PJ.next ?_
  refine CJ.seq ?_
  refine CJ.cond rfl (fun hc1 => ?_) (fun hc1 => ?_)
  · try simp only [decide_eq_true_eq, decide_eq_false_iff_not, Bool.not_eq_true', Bool.not_eq_false'] at hc1
    refine CJ.skip ?_
    refine PJ.next ?_
    refine CJ.seq ?_
    refine CJ.block ?_
    refine CJ.seq ?_
    obtain ⟨b0, off0, cs0, t0, fr0, rfl, hbl0, hcs0, hel0⟩ := hsl.get (by omega)
    obtain ⟨x, hx⟩ := get_of l j (by omega)
    refine CJ.region ?_
    refine rv rfl rfl rfl (mv_r rfl) ?_
    refine rv rfl rfl rfl (idxS_r Tryz.underlying22 Tryz.sizeOf3 rfl rfl (by omega) (by omega)) ?_
    refine rv rfl rfl rfl (ldR_r (v := .int .i64 x) Tryz.isAgg3 rfl (.head _) hcs0 (fun h => h) trivial (el_at0 hel0 hx rfl (by decide))) ?_
    refine rv rfl rfl rfl (asg_r rfl) ?_
    refine rv rfl rfl rfl (asg_r rfl) ?_
    refine OJ.done ?_
    refine PJ.next ?_
    refine CJ.seq ?_
    refine CJ.region ?_
    refine rv rfl rfl rfl (mv_r rfl) ?_
    refine rv rfl rfl rfl (lss_r rfl rfl) ?_
    refine rv rfl rfl rfl (mv_r rfl) ?_
    refine OJ.split (t := 14) rfl (fun hc2 => ?_) (fun hc2 => ?_)
    · try simp only [decide_eq_true_eq, decide_eq_false_iff_not, Bool.not_eq_true', Bool.not_eq_false'] at hc2
      refine OJ.off rfl (by decide) rfl ?_
      refine OJ.off rfl (by decide) rfl ?_
      refine rv rfl rfl rfl (pkT_r rfl rfl) ?_
      refine rv rfl rfl rfl (mv_r rfl) ?_
      refine OJ.off rfl (by decide) rfl ?_
      refine OJ.off rfl (by decide) rfl ?_
      refine OJ.off rfl (by decide) rfl ?_
      refine OJ.off rfl (by decide) rfl ?_
      refine OJ.off rfl (by decide) rfl ?_
      refine OJ.off rfl (by decide) rfl ?_
      refine OJ.off rfl (by decide) rfl ?_
      refine OJ.off rfl (by decide) rfl ?_
      refine OJ.off rfl (by decide) rfl ?_
      refine OJ.off rfl (by decide) rfl ?_
      refine OJ.off rfl (by decide) rfl ?_
      refine rv rfl rfl rfl (pkT_r rfl rfl) ?_
      refine OJ.done ?_
      refine PJ.next ?_
      refine CJ.condT rfl ?_
      refine CJ.seq ?_
      refine CJ.region ?_
      refine rv rfl rfl rfl (asg_r rfl) ?_
      refine OJ.done ?_
      refine PJ.next ?_
      refine CJ.ret ?_
      refine PJ.retBlock ?_
      refine PJ.retThen ?_
      refine PJ.retThen ?_
      refine PJ.retBlock ?_
      refine PJ.retThen ?_
      refine retV Tryz.results30 rfl (.head _) ?_
      first | exact congrArg Value.bool (fine_no1 hx (by omega)).symm | exact congrArg Value.bool (fine_no2 hx hy (by omega) (by omega)).symm | exact congrArg Value.bool (fine_yes hft (by omega)).symm
    · try simp only [decide_eq_true_eq, decide_eq_false_iff_not, Bool.not_eq_true', Bool.not_eq_false'] at hc2
      refine rv rfl rfl rfl (mv_r rfl) ?_
      refine rv rfl rfl rfl (geq_r rfl rfl) ?_
      refine rv rfl rfl rfl (pkF_r rfl rfl) ?_
      refine rv rfl rfl rfl (mv_r rfl) ?_
      refine OJ.split (t := 18) rfl (fun hc3 => ?_) (fun hc3 => ?_)
      · try simp only [decide_eq_true_eq, decide_eq_false_iff_not, Bool.not_eq_true', Bool.not_eq_false'] at hc3
        refine OJ.off rfl (by decide) rfl ?_
        refine OJ.off rfl (by decide) rfl ?_
        refine OJ.off rfl (by decide) rfl ?_
        refine OJ.off rfl (by decide) rfl ?_
        refine OJ.off rfl (by decide) rfl ?_
        refine OJ.off rfl (by decide) rfl ?_
        refine OJ.off rfl (by decide) rfl ?_
        refine OJ.off rfl (by decide) rfl ?_
        refine OJ.off rfl (by decide) rfl ?_
        refine OJ.off rfl (by decide) rfl ?_
        refine OJ.off rfl (by decide) rfl ?_
        refine rv rfl rfl rfl (pkT_r rfl rfl) ?_
        refine OJ.done ?_
        refine PJ.next ?_
        refine CJ.condT rfl ?_
        refine CJ.seq ?_
        refine CJ.region ?_
        refine rv rfl rfl rfl (asg_r rfl) ?_
        refine OJ.done ?_
        refine PJ.next ?_
        refine CJ.ret ?_
        refine PJ.retBlock ?_
        refine PJ.retThen ?_
        refine PJ.retThen ?_
        refine PJ.retBlock ?_
        refine PJ.retThen ?_
        refine retV Tryz.results30 rfl (.head _) ?_
        first | exact congrArg Value.bool (fine_no1 hx (by omega)).symm | exact congrArg Value.bool (fine_no2 hx hy (by omega) (by omega)).symm | exact congrArg Value.bool (fine_yes hft (by omega)).symm
      · try simp only [decide_eq_true_eq, decide_eq_false_iff_not, Bool.not_eq_true', Bool.not_eq_false'] at hc3
        refine rv rfl rfl rfl (mv_r rfl) ?_
        refine rv rfl rfl rfl (gtr_r rfl rfl) ?_
        refine rv rfl rfl rfl (mv_r rfl) ?_
        refine OJ.split (t := 21) rfl (fun hc4 => ?_) (fun hc4 => ?_)
        · try simp only [decide_eq_true_eq, decide_eq_false_iff_not, Bool.not_eq_true', Bool.not_eq_false'] at hc4
          refine rv rfl rfl rfl (mv_r rfl) ?_
          refine rv rfl rfl rfl (mv_r rfl) ?_
          refine rv rfl rfl rfl (subI_r rfl rfl (by omega) (by omega)) ?_
          refine rv rfl rfl rfl (idxS_r Tryz.underlying22 Tryz.sizeOf3 rfl rfl (by omega) (by omega)) ?_
          obtain ⟨y, hy⟩ := get_of l (j - 1) (by omega)
          refine rv rfl rfl rfl (ldR_r (v := .int .i64 y) Tryz.isAgg3 rfl (.head _) hcs0 (fun h => h) trivial (el_at0 hel0 hy (by omega) (by decide))) ?_
          refine rv rfl rfl rfl (mv_r rfl) ?_
          refine rv rfl rfl rfl (geq_r rfl rfl) ?_
          refine rv rfl rfl rfl (pkT_r rfl rfl) ?_
          refine rv rfl rfl rfl (pkF_r rfl rfl) ?_
          refine OJ.done ?_
          refine PJ.next ?_
          refine CJ.cond rfl (fun hc5 => ?_) (fun hc5 => ?_)
          · try simp only [decide_eq_true_eq, decide_eq_false_iff_not, Bool.not_eq_true', Bool.not_eq_false'] at hc5
            refine CJ.seq ?_
            refine CJ.region ?_
            refine rv rfl rfl rfl (asg_r rfl) ?_
            refine OJ.done ?_
            refine PJ.next ?_
            refine CJ.ret ?_
            refine PJ.retBlock ?_
            refine PJ.retThen ?_
            refine PJ.retThen ?_
            refine PJ.retBlock ?_
            refine PJ.retThen ?_
            refine retV Tryz.results30 rfl (.head _) ?_
            first | exact congrArg Value.bool (fine_no1 hx (by omega)).symm | exact congrArg Value.bool (fine_no2 hx hy (by omega) (by omega)).symm | exact congrArg Value.bool (fine_yes hft (by omega)).symm
          · try simp only [decide_eq_true_eq, decide_eq_false_iff_not, Bool.not_eq_true', Bool.not_eq_false'] at hc5
            refine CJ.skip ?_
            refine PJ.norBlock ?_
            refine PJ.next ?_
            refine CJ.region ?_
            refine rv rfl rfl rfl (addI_r rfl rfl (by omega) (by omega)) ?_
            refine rv rfl rfl rfl (mv_r rfl) ?_
            refine OJ.done ?_
            refine PJ.again (j + 1) ⟨by omega, hft.next hx (by omega) (by omega) (fun y2 hj2 hy2 => by first | (rw [hy] at hy2; obtain rfl := Option.some.inj hy2; omega) | omega)⟩ (by omega) ⟨rfl, rfl, rfl, rfl, trivial⟩ rfl rfl (by simp)
        · try simp only [decide_eq_true_eq, decide_eq_false_iff_not, Bool.not_eq_true', Bool.not_eq_false'] at hc4
          refine OJ.off rfl (by decide) rfl ?_
          refine OJ.off rfl (by decide) rfl ?_
          refine OJ.off rfl (by decide) rfl ?_
          refine OJ.off rfl (by decide) rfl ?_
          refine OJ.off rfl (by decide) rfl ?_
          refine OJ.off rfl (by decide) rfl ?_
          refine OJ.off rfl (by decide) rfl ?_
          refine rv rfl rfl rfl (pkF_r rfl rfl) ?_
          refine rv rfl rfl rfl (pkF_r rfl rfl) ?_
          refine OJ.done ?_
          refine PJ.next ?_
          refine CJ.condF rfl ?_
          refine CJ.skip ?_
          refine PJ.norBlock ?_
          refine PJ.next ?_
          refine CJ.region ?_
          refine rv rfl rfl rfl (addI_r rfl rfl (by omega) (by omega)) ?_
          refine rv rfl rfl rfl (mv_r rfl) ?_
          refine OJ.done ?_
          refine PJ.again (j + 1) ⟨by omega, hft.next hx (by omega) (by omega) (fun y2 hj2 hy2 => by first | (rw [hy] at hy2; obtain rfl := Option.some.inj hy2; omega) | omega)⟩ (by omega) ⟨rfl, rfl, rfl, rfl, trivial⟩ rfl rfl (by simp)
  · try simp only [decide_eq_true_eq, decide_eq_false_iff_not, Bool.not_eq_true', Bool.not_eq_false'] at hc1
    refine CJ.exit ?_
    refine PJ.exThen ?_
    refine PJ.exThen ?_
    refine PJ.exHit ?_
    refine PJ.next ?_
    refine CJ.seq ?_
    refine CJ.region ?_
    refine rv rfl rfl rfl (asg_r rfl) ?_
    refine OJ.done ?_
    refine PJ.next ?_
    refine CJ.ret ?_
    refine retV Tryz.results30 rfl (.head _) ?_
    first | exact congrArg Value.bool (fine_no1 hx (by omega)).symm | exact congrArg Value.bool (fine_no2 hx hy (by omega) (by omega)).symm | exact congrArg Value.bool (fine_yes hft (by omega)).symm
/-- (chartroom/policy.set[int]).add -/
theorem set_add (b : Nat) (ks : List Int) (k : Int) (w : World) (hb : w.heap[b]? = some (mpO (.agg #[]) ks)) :
    Calls Tryz.prog 37 #[.map (some b), .int .i64 k] w (RetM w (.tuple #[]) b (mpO (.agg #[]) (putK ks k))) := by
  
  refine enterG Gh.no [(b, _)] (vs := [_, _]) Tryz.func37 rfl Tryz.ntmps37 rfl (st_own hb) ?_
  refine CJ.region ?_
  refine rv rfl rfl rfl (mv_r rfl) ?_
  refine rv rfl rfl rfl (mv_r rfl) ?_
  refine rv rfl rfl rfl (bldS_r Tryz.underlying138 Tryz.zeroValue138 (PlF.n) rfl rfl) ?_
  refine mputW (i := 0) rfl Tryz.underlying84 Tryz.underlying3 rfl rfl rfl rfl ?_
  refine OJ.done ?_
  refine retG (.inr rfl) Tryz.results37 RS.n (fun W hS => ⟨rfl, (hS.links w (.head _)).mono fun k _ hk => ?_, hS.own _ (.head _)⟩)
  simpa [Gh.no] using hk
/-- (chartroom/policy.set[int]).has -/
theorem set_has (b : Nat) (ks : List Int) (k : Int) (w : World) (hb : w.heap[b]? = some (mpO (.agg #[]) ks)) :
    Calls Tryz.prog 33 #[.map (some b), .int .i64 k] w (Ret w (.bool (decide (k ∈ ks)))) := by
  
  refine enter (vs := [_, _]) Tryz.func33 rfl Tryz.ntmps33 rfl ?_
  refine CJ.seq ?_
  refine CJ.region ?_
  refine rv rfl rfl rfl (asg_r rfl) ?_
  refine OJ.done ?_
  refine PJ.next ?_
  refine CJ.seq ?_
  refine CJ.region ?_
  refine rv rfl rfl rfl (mv_r rfl) ?_
  refine rv rfl rfl rfl (mv_r rfl) ?_
  refine rv rfl rfl rfl (RV.re (v' := .tuple #[.agg #[], .bool (decide (k ∈ ks))]) (mlook_r Tryz.underlying84 Tryz.underlying3 Tryz.zeroValue138 (Lies.old (.head _) hb (fun h => h) trivial) rfl rfl) (by rw [ite_self])) ?_
  refine rv rfl rfl rfl (mv_r rfl) ?_
  refine rv rfl rfl rfl (ext_r rfl rfl) ?_
  refine rv rfl rfl rfl (ext_r rfl rfl) ?_
  refine allW Tryz.zeroValue138 rfl rfl ?_
  intro b5 ha5 ho5
  simp only [Above] at ha5
  try simp only [Off, book, List.cons_append, List.nil_append, List.set_cons_zero, List.set_cons_succ, ne_eq] at ho5
  refine stWw (i := 0) rfl Tryz.sizeOf138 rfl rfl rfl rfl rfl rfl ?_
  refine rv rfl rfl rfl (asg_r rfl) ?_
  refine OJ.done ?_
  refine PJ.next ?_
  refine CJ.seq ?_
  refine CJ.region ?_
  refine rv rfl rfl rfl (mv_r rfl) ?_
  refine rv rfl rfl rfl (asg_r rfl) ?_
  refine OJ.done ?_
  refine PJ.next ?_
  refine CJ.ret ?_
  refine retO (.inl rfl) Tryz.results33 (RS.t rfl (RS.n)) (.head _) (by first | (simp only [Over, List.set_cons_zero, List.set_cons_succ, List.eraseIdx_cons_zero, List.eraseIdx_cons_succ, and_true]; omega) | (simp [Over] <;> omega)) ?_
  rfl
/-- chartroom/policy.setOf[int] -/
theorem policy_setOf (l : List Int) (hl : l.length ≤ 1000000) (N : Nat) (a : Option Addr) (c : Nat) (w : World) (hN : N ≤ w.heap.size) (hsl : SlAt encI 1 N w a l) :
    Calls Tryz.prog 32 #[.slice a l.length c] w (RetX w (fun b : Nat => .map (some b)) (fun b w1 => w.heap.size ≤ b ∧ w1.heap[b]? = some (mpO (.agg #[]) (setK l)))) := by
  
  refine enter (vs := [_]) Tryz.func32 rfl Tryz.ntmps32 rfl ?_
  refine CJ.seq ?_
  refine CJ.region ?_
  refine rv rfl rfl rfl (asg_r rfl) ?_
  refine OJ.done ?_
  refine PJ.next ?_
  refine CJ.seq ?_
  refine CJ.region ?_
  refine mkMW (v := .agg #[]) rfl rfl ?_
  intro b6 ha6 ho6
  simp only [Above] at ha6
  try simp only [Off, book, List.cons_append, List.nil_append, List.set_cons_zero, List.set_cons_succ, ne_eq] at ho6
  refine rv rfl rfl rfl (asg_r rfl) ?_
  refine OJ.done ?_
  refine PJ.next ?_
  refine CJ.seq ?_
  refine CJ.seq ?_
  refine CJ.region ?_
  refine rv rfl rfl rfl (mv_r rfl) ?_
  refine rv rfl rfl rfl (lenS_r Tryz.underlying22 rfl) ?_
  refine rv rfl rfl rfl (mv_r rfl) ?_
  refine OJ.done ?_
  refine PJ.next ?_
  refine CJ.block ?_
  refine CJ.loop (α := Nat) (fun j => [(3, .map (some b6)), (7, .slice a l.length c), (8, .int .i64 (l.length : Int)), (9, .int .i64 (j : Int))]) (fun j => [(b6, mpO (.agg #[]) (setK (l.take j)))]) (fun j => [w]) (fun j => Gh.no) (fun j => j ≤ l.length) (fun j => l.length - j) 0 (Nat.zero_le _) ⟨rfl, rfl, rfl, rfl, trivial⟩ rfl rfl (by simp) ?_
  rintro j hj
  refine CJ.seq ?_
  refine CJ.region ?_
  refine rv rfl rfl rfl (lss_r rfl rfl) ?_
  refine OJ.done ?_
  refine PJ.next ?_
  refine CJ.seq ?_
  refine CJ.cond rfl (fun hc1 => ?_) (fun hc1 => ?_)
  · try simp only [decide_eq_true_eq, decide_eq_false_iff_not, Bool.not_eq_true', Bool.not_eq_false'] at hc1
    refine CJ.skip ?_
    refine PJ.next ?_
    refine CJ.seq ?_
    refine CJ.block ?_
    refine CJ.seq ?_
    obtain ⟨b0, off0, cs0, t0, fr0, rfl, hbl0, hcs0, hel0⟩ := hsl.get (by omega)
    obtain ⟨x, hx⟩ := get_of l j (by omega)
    refine CJ.region ?_
    refine rv rfl rfl rfl (idxS_r Tryz.underlying22 Tryz.sizeOf3 rfl rfl (by omega) (by omega)) ?_
    refine rv rfl rfl rfl (ldR_r (v := .int .i64 x) Tryz.isAgg3 rfl (.head _) hcs0 (fun h => h) (by simp only [Off, ne_eq, and_true]; omega) (el_at0 hel0 hx rfl (by decide))) ?_
    refine rv rfl rfl rfl (asg_r rfl) ?_
    refine OJ.done ?_
    refine PJ.next ?_
    refine CJ.region ?_
    refine rv rfl rfl rfl (mv_r rfl) ?_
    refine rv rfl rfl rfl (mv_r rfl) ?_
    refine callCM (f := 37) (i := 0) (first := []) (cap := []) rfl rfl Tryz.call37 rfl rfl rfl (fun W hS hW => set_add b6 _ x W hW) ?_
    refine OJ.reH (H' := [(b6, mpO (.agg #[]) (setK (l.take (j + 1))))]) (by rw [take_snoc hx, setK_snoc]; rfl) ?_
    refine OJ.done ?_
    refine PJ.norBlock ?_
    refine PJ.next ?_
    refine CJ.region ?_
    refine rv rfl rfl rfl (addI_r rfl rfl (by omega) (by omega)) ?_
    refine rv rfl rfl rfl (mv_r rfl) ?_
    refine OJ.done ?_
    refine PJ.again (j + 1) (by omega) (by omega) ⟨rfl, rfl, rfl, rfl, trivial⟩ rfl rfl (by simp)
  · try simp only [decide_eq_true_eq, decide_eq_false_iff_not, Bool.not_eq_true', Bool.not_eq_false'] at hc1
    refine CJ.exit ?_
    refine PJ.exThen ?_
    refine PJ.exThen ?_
    refine PJ.exHit ?_
    refine PJ.next ?_
    refine CJ.seq ?_
    refine CJ.region ?_
    refine rv rfl rfl rfl (mv_r rfl) ?_
    refine rv rfl rfl rfl (asg_r rfl) ?_
    refine OJ.done ?_
    refine PJ.next ?_
    refine CJ.ret ?_
    exact retG (.inl rfl) Tryz.results32 (RS.t rfl RS.n) (fun W hS => ⟨b6, rfl, hS.base (.head _) (by first | (simp only [Over, List.set_cons_zero, List.set_cons_succ, List.eraseIdx_cons_zero, List.eraseIdx_cons_succ, and_true]; omega) | (simp [Over] <;> omega)), by omega, by have := hS.own _ (.head _); rw [List.take_of_length_le (by omega)] at this; exact this⟩)
/-- slices.IndexFunc[[]int,int] -/
theorem IndexFunc_set (l : List Int) (hl : l.length ≤ 1000000) (N : Nat) (a : Option Addr) (c : Nat) (w : World) (hN : N ≤ w.heap.size) (hsl : SlAt encI 1 N w a l) (b : Nat) (ks : List Int) (hb : w.heap[b]? = some (mpO (.agg #[]) ks)) :
    Calls Tryz.prog 78 #[.slice a l.length c, .func (.func 33) #[.map (some b)] #[]] w (Ret w (.int .i64 (ixOf (fun x => decide (x ∈ ks)) l))) := by
  
  refine enter (vs := [_, _]) Tryz.func78 rfl Tryz.ntmps78 rfl ?_
  refine CJ.seq ?_
  refine CJ.region ?_
  refine rv rfl rfl rfl (asg_r rfl) ?_
  refine OJ.done ?_
  refine PJ.next ?_
  refine CJ.seq ?_
  refine CJ.seq ?_
  refine CJ.region ?_
  refine rv rfl rfl rfl (mv_r rfl) ?_
  refine rv rfl rfl rfl (lenS_r Tryz.underlying22 rfl) ?_
  refine rv rfl rfl rfl (mv_r rfl) ?_
  refine OJ.done ?_
  refine PJ.next ?_
  refine CJ.block ?_
  refine CJ.loop (α := Nat) (fun j => [(0, .slice a l.length c), (1, .func (.func 33) #[.map (some b)] #[]), (7, .int .i64 (l.length : Int)), (8, .int .i64 (j : Int))]) (fun j => []) (fun j => [w]) (fun j => Gh.no) (fun j => j ≤ l.length ∧ ∀ x ∈ l.take j, (fun x => decide (x ∈ ks)) x = false) (fun j => l.length - j) 0 ⟨Nat.zero_le _, by simp⟩ ⟨rfl, rfl, rfl, rfl, trivial⟩ rfl rfl (by simp) ?_
  rintro j ⟨hj, hjp⟩
  refine CJ.seq ?_
  refine CJ.region ?_
  refine rv rfl rfl rfl (lss_r rfl rfl) ?_
  refine OJ.done ?_
  refine PJ.next ?_
  refine CJ.seq ?_
  refine CJ.cond rfl (fun hc1 => ?_) (fun hc1 => ?_)
  · try simp only [decide_eq_true_eq, decide_eq_false_iff_not, Bool.not_eq_true', Bool.not_eq_false'] at hc1
    refine CJ.skip ?_
    refine PJ.next ?_
    refine CJ.seq ?_
    refine CJ.block ?_
    refine CJ.seq ?_
    refine CJ.region ?_
    refine rv rfl rfl rfl (mv_r rfl) ?_
    refine rv rfl rfl rfl (asg_r rfl) ?_
    refine OJ.done ?_
    refine PJ.next ?_
    refine CJ.seq ?_
    obtain ⟨b0, off0, cs0, t0, fr0, rfl, hbl0, hcs0, hel0⟩ := hsl.get (by omega)
    obtain ⟨x, hx⟩ := get_of l j (by omega)
    refine CJ.region ?_
    refine rv rfl rfl rfl (mv_r rfl) ?_
    refine rv rfl rfl rfl (mv_r rfl) ?_
    refine rv rfl rfl rfl (mv_r rfl) ?_
    refine rv rfl rfl rfl (idxS_r Tryz.underlying22 Tryz.sizeOf3 rfl rfl (by omega) (by omega)) ?_
    refine rv rfl rfl rfl (ldR_r (v := .int .i64 x) Tryz.isAgg3 rfl (.head _) hcs0 (fun h => h) trivial (el_at0 hel0 hx rfl (by decide))) ?_
    refine callF (first := [.map (some b)]) (cap := []) rfl Tryz.call33 rfl rfl rfl (fun W hS => set_has b ks x W (hS.old (.head _) hb (fun h => h) trivial)) ?_
    refine OJ.done ?_
    refine PJ.next ?_
    refine CJ.cond rfl (fun hc2 => ?_) (fun hc2 => ?_)
    · try simp only [decide_eq_true_eq, decide_eq_false_iff_not, Bool.not_eq_true', Bool.not_eq_false'] at hc2
      refine CJ.seq ?_
      refine CJ.region ?_
      refine rv rfl rfl rfl (mv_r rfl) ?_
      refine rv rfl rfl rfl (asg_r rfl) ?_
      refine OJ.done ?_
      refine PJ.next ?_
      refine CJ.ret ?_
      refine PJ.retBlock ?_
      refine PJ.retThen ?_
      refine PJ.retThen ?_
      refine PJ.retBlock ?_
      refine PJ.retThen ?_
      refine retV Tryz.results78 rfl (.head _) ?_
      exact congrArg (Value.int .i64) (ixOf_hit (fun x => decide (x ∈ ks)) l j (by omega) hjp (by obtain ⟨h1, h2⟩ := List.getElem?_eq_some_iff.1 hx; rw [h2]; exact decide_eq_true hc2)).symm
    · try simp only [decide_eq_true_eq, decide_eq_false_iff_not, Bool.not_eq_true', Bool.not_eq_false'] at hc2
      refine CJ.skip ?_
      refine PJ.norBlock ?_
      refine PJ.next ?_
      refine CJ.region ?_
      refine rv rfl rfl rfl (addI_r rfl rfl (by omega) (by omega)) ?_
      refine rv rfl rfl rfl (mv_r rfl) ?_
      refine OJ.done ?_
      refine PJ.again (j + 1) ⟨by omega, by intro z hz; rw [take_snoc hx] at hz; simp only [List.mem_append, List.mem_singleton] at hz; rcases hz with hz | rfl; exact hjp z hz; exact decide_eq_false hc2⟩ (by omega) ⟨rfl, rfl, rfl, rfl, trivial⟩ rfl rfl (by simp)
  · try simp only [decide_eq_true_eq, decide_eq_false_iff_not, Bool.not_eq_true', Bool.not_eq_false'] at hc1
    refine CJ.exit ?_
    refine PJ.exThen ?_
    refine PJ.exThen ?_
    refine PJ.exHit ?_
    refine PJ.next ?_
    refine CJ.seq ?_
    refine CJ.region ?_
    refine rv rfl rfl rfl (asg_r rfl) ?_
    refine OJ.done ?_
    refine PJ.next ?_
    refine CJ.ret ?_
    refine retV Tryz.results78 rfl (.head _) ?_
    exact congrArg (Value.int .i64) (ixOf_none (fun x => decide (x ∈ ks)) l (by rw [← List.take_of_length_le (l := l) (i := j) (by omega)]; exact hjp)).symm
/-- slices.ContainsFunc[[]int,int] -/
theorem ContainsFunc_set (l : List Int) (hl : l.length ≤ 1000000) (N : Nat) (a : Option Addr) (c : Nat) (w : World) (hN : N ≤ w.heap.size) (hsl : SlAt encI 1 N w a l) (b : Nat) (ks : List Int) (hb : w.heap[b]? = some (mpO (.agg #[]) ks)) :
    Calls Tryz.prog 31 #[.slice a l.length c, .func (.func 33) #[.map (some b)] #[]] w (Ret w (.bool (l.any (fun x => decide (x ∈ ks))))) := by
  
  refine enter (vs := [_, _]) Tryz.func31 rfl Tryz.ntmps31 rfl ?_
  refine CJ.seq ?_
  refine CJ.region ?_
  refine rv rfl rfl rfl (asg_r rfl) ?_
  refine OJ.done ?_
  refine PJ.next ?_
  refine CJ.seq ?_
  refine CJ.region ?_
  refine rv rfl rfl rfl (mv_r rfl) ?_
  refine rv rfl rfl rfl (mv_r rfl) ?_
  refine call Tryz.call78 rfl rfl rfl (fun W hS => IndexFunc_set l hl N a c W (Nat.le_trans hN (hS.links _ (.head _)).size) (hsl.up (Nat.le_refl _) (hS.same (.head _) hN (fun _ _ h => h) True.intro)) b ks (hS.old (.head _) hb (fun h => h) trivial)) ?_
  refine rv rfl rfl rfl (geq_r rfl rfl) ?_
  refine rv rfl rfl rfl (asg_r rfl) ?_
  refine OJ.done ?_
  refine PJ.next ?_
  refine CJ.ret ?_
  refine retV Tryz.results31 rfl (.head _) ?_
  exact congrArg Value.bool (ixOf_any (fun x => decide (x ∈ ks)) l)
set_option maxHeartbeats 800000 in
/-- chartroom/policy.Check -/
theorem policy_Check (p : Po) (hf : PoFew p) (N : Nat) (w : World) (hN : N ≤ w.heap.size) (hp : PoAt N w p) :
    Calls Tryz.prog 11 #[.agg (poC p)] w (Ret w (.int .i64 (chkI p))) := by
  
  refine enter (vs := [_]) Tryz.func11 rfl Tryz.ntmps11 rfl ?_
  refine CJ.seq ?_
  refine CJ.region ?_
  refine boxR rfl rfl rfl ?_
  intro b1 w1 hb1 ha1 ho1 hm1 hz1
  simp only [Above] at ha1
  try simp only [Off, book, List.cons_append, List.nil_append, List.set_cons_zero, List.set_cons_succ, ne_eq] at ho1
  refine rv rfl rfl rfl (asg_r rfl) ?_
  refine OJ.done ?_
  refine PJ.next ?_
  refine CJ.seq ?_
  refine CJ.seq ?_
  refine CJ.region ?_
  refine rv rfl rfl rfl (fld_r Tryz.underlying24 rfl Tryz.sizeOf3 rfl) ?_
  refine rv rfl rfl rfl (ldR_r Tryz.isAgg3 rfl (.head _) hb1 hm1 trivial rfl) ?_
  refine rv rfl rfl rfl (lss_r rfl rfl) ?_
  refine rv rfl rfl rfl (mv_r rfl) ?_
  refine OJ.split (t := 6) rfl (fun hc1 => ?_) (fun hc1 => ?_)
  · try simp only [decide_eq_true_eq, decide_eq_false_iff_not, Bool.not_eq_true', Bool.not_eq_false'] at hc1
    refine OJ.off rfl (by decide) rfl ?_
    refine OJ.off rfl (by decide) rfl ?_
    refine OJ.off rfl (by decide) rfl ?_
    refine rv rfl rfl rfl (pkT_r rfl rfl) ?_
    refine rv rfl rfl rfl (mv_r rfl) ?_
    refine OJ.off rfl (by decide) rfl ?_
    refine OJ.off rfl (by decide) rfl ?_
    refine OJ.off rfl (by decide) rfl ?_
    refine OJ.off rfl (by decide) rfl ?_
    refine rv rfl rfl rfl (pkT_r rfl rfl) ?_
    refine rv rfl rfl rfl (mv_r rfl) ?_
    refine OJ.off rfl (by decide) rfl ?_
    refine OJ.off rfl (by decide) rfl ?_
    refine OJ.off rfl (by decide) rfl ?_
    refine OJ.off rfl (by decide) rfl ?_
    refine rv rfl rfl rfl (pkT_r rfl rfl) ?_
    refine rv rfl rfl rfl (mv_r rfl) ?_
    refine OJ.off rfl (by decide) rfl ?_
    refine OJ.off rfl (by decide) rfl ?_
    refine OJ.off rfl (by decide) rfl ?_
    refine rv rfl rfl rfl (pkT_r rfl rfl) ?_
    refine rv rfl rfl rfl (mv_r rfl) ?_
    refine OJ.off rfl (by decide) rfl ?_
    refine OJ.off rfl (by decide) rfl ?_
    refine OJ.off rfl (by decide) rfl ?_
    refine OJ.off rfl (by decide) rfl ?_
    refine OJ.off rfl (by decide) rfl ?_
    refine rv rfl rfl rfl (pkT_r rfl rfl) ?_
    refine rv rfl rfl rfl (mv_r rfl) ?_
    refine OJ.off rfl (by decide) rfl ?_
    refine OJ.off rfl (by decide) rfl ?_
    refine OJ.off rfl (by decide) rfl ?_
    refine rv rfl rfl rfl (pkT_r rfl rfl) ?_
    refine OJ.done ?_
    refine PJ.next ?_
    refine CJ.condT rfl ?_
    refine CJ.seq ?_
    refine CJ.region ?_
    refine rv rfl rfl rfl (asg_r rfl) ?_
    refine OJ.done ?_
    refine PJ.next ?_
    refine CJ.ret ?_
    refine PJ.retThen ?_
    refine retV Tryz.results11 rfl (.tail _ (.head _)) ?_
    first | exact congrArg (Value.int .i64) (chkI_no p (.inl (by omega))).symm | exact congrArg (Value.int .i64) (chkI_no p (.inr (.inl (by omega)))).symm | exact congrArg (Value.int .i64) (chkI_no p (.inr (.inr (.inl (by assumption))))).symm | exact congrArg (Value.int .i64) (chkI_no p (.inr (.inr (.inr (.inl (by assumption)))))).symm | exact congrArg (Value.int .i64) (chkI_no p (.inr (.inr (.inr (.inr (.inl (by omega))))))).symm | exact congrArg (Value.int .i64) (chkI_no p (.inr (.inr (.inr (.inr (.inr (.inl (by omega)))))))).symm | exact congrArg (Value.int .i64) (chkI_no p (.inr (.inr (.inr (.inr (.inr (.inr (.inl (by omega))))))))).symm | exact congrArg (Value.int .i64) (chkI_no p (.inr (.inr (.inr (.inr (.inr (.inr (.inr (by assumption))))))))).symm | exact congrArg (Value.int .i64) (chkI_ok p (by omega) (by omega) (by assumption) (by assumption) (by omega) (by omega) (by omega) (by assumption)).symm
  · try simp only [decide_eq_true_eq, decide_eq_false_iff_not, Bool.not_eq_true', Bool.not_eq_false'] at hc1
    refine rv rfl rfl rfl (fld_r Tryz.underlying24 rfl Tryz.sizeOf3 rfl) ?_
    refine rv rfl rfl rfl (ldR_r Tryz.isAgg3 rfl (.head _) hb1 hm1 trivial rfl) ?_
    refine rv rfl rfl rfl (geq_r rfl rfl) ?_
    refine rv rfl rfl rfl (pkF_r rfl rfl) ?_
    refine rv rfl rfl rfl (mv_r rfl) ?_
    refine OJ.split (t := 11) rfl (fun hc2 => ?_) (fun hc2 => ?_)
    · try simp only [decide_eq_true_eq, decide_eq_false_iff_not, Bool.not_eq_true', Bool.not_eq_false'] at hc2
      refine OJ.off rfl (by decide) rfl ?_
      refine OJ.off rfl (by decide) rfl ?_
      refine OJ.off rfl (by decide) rfl ?_
      refine OJ.off rfl (by decide) rfl ?_
      refine rv rfl rfl rfl (pkT_r rfl rfl) ?_
      refine rv rfl rfl rfl (mv_r rfl) ?_
      refine OJ.off rfl (by decide) rfl ?_
      refine OJ.off rfl (by decide) rfl ?_
      refine OJ.off rfl (by decide) rfl ?_
      refine OJ.off rfl (by decide) rfl ?_
      refine rv rfl rfl rfl (pkT_r rfl rfl) ?_
      refine rv rfl rfl rfl (mv_r rfl) ?_
      refine OJ.off rfl (by decide) rfl ?_
      refine OJ.off rfl (by decide) rfl ?_
      refine OJ.off rfl (by decide) rfl ?_
      refine rv rfl rfl rfl (pkT_r rfl rfl) ?_
      refine rv rfl rfl rfl (mv_r rfl) ?_
      refine OJ.off rfl (by decide) rfl ?_
      refine OJ.off rfl (by decide) rfl ?_
      refine OJ.off rfl (by decide) rfl ?_
      refine OJ.off rfl (by decide) rfl ?_
      refine OJ.off rfl (by decide) rfl ?_
      refine rv rfl rfl rfl (pkT_r rfl rfl) ?_
      refine rv rfl rfl rfl (mv_r rfl) ?_
      refine OJ.off rfl (by decide) rfl ?_
      refine OJ.off rfl (by decide) rfl ?_
      refine OJ.off rfl (by decide) rfl ?_
      refine rv rfl rfl rfl (pkT_r rfl rfl) ?_
      refine OJ.done ?_
      refine PJ.next ?_
      refine CJ.condT rfl ?_
      refine CJ.seq ?_
      refine CJ.region ?_
      refine rv rfl rfl rfl (asg_r rfl) ?_
      refine OJ.done ?_
      refine PJ.next ?_
      refine CJ.ret ?_
      refine PJ.retThen ?_
      refine retV Tryz.results11 rfl (.tail _ (.head _)) ?_
      first | exact congrArg (Value.int .i64) (chkI_no p (.inl (by omega))).symm | exact congrArg (Value.int .i64) (chkI_no p (.inr (.inl (by omega)))).symm | exact congrArg (Value.int .i64) (chkI_no p (.inr (.inr (.inl (by assumption))))).symm | exact congrArg (Value.int .i64) (chkI_no p (.inr (.inr (.inr (.inl (by assumption)))))).symm | exact congrArg (Value.int .i64) (chkI_no p (.inr (.inr (.inr (.inr (.inl (by omega))))))).symm | exact congrArg (Value.int .i64) (chkI_no p (.inr (.inr (.inr (.inr (.inr (.inl (by omega)))))))).symm | exact congrArg (Value.int .i64) (chkI_no p (.inr (.inr (.inr (.inr (.inr (.inr (.inl (by omega))))))))).symm | exact congrArg (Value.int .i64) (chkI_no p (.inr (.inr (.inr (.inr (.inr (.inr (.inr (by assumption))))))))).symm | exact congrArg (Value.int .i64) (chkI_ok p (by omega) (by omega) (by assumption) (by assumption) (by omega) (by omega) (by omega) (by assumption)).symm
    · try simp only [decide_eq_true_eq, decide_eq_false_iff_not, Bool.not_eq_true', Bool.not_eq_false'] at hc2
      refine rv rfl rfl rfl (fld_r Tryz.underlying24 rfl Tryz.sizeOf22 rfl) ?_
      refine rv rfl rfl rfl (ldR_r Tryz.isAgg22 rfl (.head _) hb1 hm1 trivial rfl) ?_
      refine call Tryz.call30 rfl rfl rfl (fun W hS => policy_fine p.left hf.left N p.la p.lc W (Nat.le_trans hN (hS.links _ (.tail _ (.head _))).size) (hp.left.up (Nat.le_refl _) (hS.same (.tail _ (.head _)) hN (fun _ _ h => h) (by first | exact True.intro | (simp only [Over, List.set_cons_zero, List.set_cons_succ, List.eraseIdx_cons_zero, List.eraseIdx_cons_succ, and_true]; omega))))) ?_
      refine rv rfl rfl rfl (notB_r rfl) ?_
      refine rv rfl rfl rfl (pkF_r rfl rfl) ?_
      refine rv rfl rfl rfl (mv_r rfl) ?_
      refine OJ.split (t := 17) rfl (fun hc3 => ?_) (fun hc3 => ?_)
      · try simp only [decide_eq_true_eq, decide_eq_false_iff_not, Bool.not_eq_true', Bool.not_eq_false'] at hc3
        refine OJ.off rfl (by decide) rfl ?_
        refine OJ.off rfl (by decide) rfl ?_
        refine OJ.off rfl (by decide) rfl ?_
        refine OJ.off rfl (by decide) rfl ?_
        refine rv rfl rfl rfl (pkT_r rfl rfl) ?_
        refine rv rfl rfl rfl (mv_r rfl) ?_
        refine OJ.off rfl (by decide) rfl ?_
        refine OJ.off rfl (by decide) rfl ?_
        refine OJ.off rfl (by decide) rfl ?_
        refine rv rfl rfl rfl (pkT_r rfl rfl) ?_
        refine rv rfl rfl rfl (mv_r rfl) ?_
        refine OJ.off rfl (by decide) rfl ?_
        refine OJ.off rfl (by decide) rfl ?_
        refine OJ.off rfl (by decide) rfl ?_
        refine OJ.off rfl (by decide) rfl ?_
        refine OJ.off rfl (by decide) rfl ?_
        refine rv rfl rfl rfl (pkT_r rfl rfl) ?_
        refine rv rfl rfl rfl (mv_r rfl) ?_
        refine OJ.off rfl (by decide) rfl ?_
        refine OJ.off rfl (by decide) rfl ?_
        refine OJ.off rfl (by decide) rfl ?_
        refine rv rfl rfl rfl (pkT_r rfl rfl) ?_
        refine OJ.done ?_
        refine PJ.next ?_
        refine CJ.condT rfl ?_
        refine CJ.seq ?_
        refine CJ.region ?_
        refine rv rfl rfl rfl (asg_r rfl) ?_
        refine OJ.done ?_
        refine PJ.next ?_
        refine CJ.ret ?_
        refine PJ.retThen ?_
        refine retV Tryz.results11 rfl (.tail _ (.head _)) ?_
        first | exact congrArg (Value.int .i64) (chkI_no p (.inl (by omega))).symm | exact congrArg (Value.int .i64) (chkI_no p (.inr (.inl (by omega)))).symm | exact congrArg (Value.int .i64) (chkI_no p (.inr (.inr (.inl (by assumption))))).symm | exact congrArg (Value.int .i64) (chkI_no p (.inr (.inr (.inr (.inl (by assumption)))))).symm | exact congrArg (Value.int .i64) (chkI_no p (.inr (.inr (.inr (.inr (.inl (by omega))))))).symm | exact congrArg (Value.int .i64) (chkI_no p (.inr (.inr (.inr (.inr (.inr (.inl (by omega)))))))).symm | exact congrArg (Value.int .i64) (chkI_no p (.inr (.inr (.inr (.inr (.inr (.inr (.inl (by omega))))))))).symm | exact congrArg (Value.int .i64) (chkI_no p (.inr (.inr (.inr (.inr (.inr (.inr (.inr (by assumption))))))))).symm | exact congrArg (Value.int .i64) (chkI_ok p (by omega) (by omega) (by assumption) (by assumption) (by omega) (by omega) (by omega) (by assumption)).symm
      · try simp only [decide_eq_true_eq, decide_eq_false_iff_not, Bool.not_eq_true', Bool.not_eq_false'] at hc3
        refine rv rfl rfl rfl (fld_r Tryz.underlying24 rfl Tryz.sizeOf22 rfl) ?_
        refine rv rfl rfl rfl (ldR_r Tryz.isAgg22 rfl (.head _) hb1 hm1 trivial rfl) ?_
        refine call Tryz.call30 rfl rfl rfl (fun W hS => policy_fine p.right hf.right N p.ra p.rc W (Nat.le_trans hN (hS.links _ (.tail _ (.head _))).size) (hp.right.up (Nat.le_refl _) (hS.same (.tail _ (.head _)) hN (fun _ _ h => h) (by first | exact True.intro | (simp only [Over, List.set_cons_zero, List.set_cons_succ, List.eraseIdx_cons_zero, List.eraseIdx_cons_succ, and_true]; omega))))) ?_
        refine rv rfl rfl rfl (notB_r rfl) ?_
        refine rv rfl rfl rfl (pkF_r rfl rfl) ?_
        refine rv rfl rfl rfl (mv_r rfl) ?_
        refine OJ.split (t := 23) rfl (fun hc4 => ?_) (fun hc4 => ?_)
        · try simp only [decide_eq_true_eq, decide_eq_false_iff_not, Bool.not_eq_true', Bool.not_eq_false'] at hc4
          refine OJ.off rfl (by decide) rfl ?_
          refine OJ.off rfl (by decide) rfl ?_
          refine OJ.off rfl (by decide) rfl ?_
          refine rv rfl rfl rfl (pkT_r rfl rfl) ?_
          refine rv rfl rfl rfl (mv_r rfl) ?_
          refine OJ.off rfl (by decide) rfl ?_
          refine OJ.off rfl (by decide) rfl ?_
          refine OJ.off rfl (by decide) rfl ?_
          refine OJ.off rfl (by decide) rfl ?_
          refine OJ.off rfl (by decide) rfl ?_
          refine rv rfl rfl rfl (pkT_r rfl rfl) ?_
          refine rv rfl rfl rfl (mv_r rfl) ?_
          refine OJ.off rfl (by decide) rfl ?_
          refine OJ.off rfl (by decide) rfl ?_
          refine OJ.off rfl (by decide) rfl ?_
          refine rv rfl rfl rfl (pkT_r rfl rfl) ?_
          refine OJ.done ?_
          refine PJ.next ?_
          refine CJ.condT rfl ?_
          refine CJ.seq ?_
          refine CJ.region ?_
          refine rv rfl rfl rfl (asg_r rfl) ?_
          refine OJ.done ?_
          refine PJ.next ?_
          refine CJ.ret ?_
          refine PJ.retThen ?_
          refine retV Tryz.results11 rfl (.tail _ (.head _)) ?_
          first | exact congrArg (Value.int .i64) (chkI_no p (.inl (by omega))).symm | exact congrArg (Value.int .i64) (chkI_no p (.inr (.inl (by omega)))).symm | exact congrArg (Value.int .i64) (chkI_no p (.inr (.inr (.inl (by assumption))))).symm | exact congrArg (Value.int .i64) (chkI_no p (.inr (.inr (.inr (.inl (by assumption)))))).symm | exact congrArg (Value.int .i64) (chkI_no p (.inr (.inr (.inr (.inr (.inl (by omega))))))).symm | exact congrArg (Value.int .i64) (chkI_no p (.inr (.inr (.inr (.inr (.inr (.inl (by omega)))))))).symm | exact congrArg (Value.int .i64) (chkI_no p (.inr (.inr (.inr (.inr (.inr (.inr (.inl (by omega))))))))).symm | exact congrArg (Value.int .i64) (chkI_no p (.inr (.inr (.inr (.inr (.inr (.inr (.inr (by assumption))))))))).symm | exact congrArg (Value.int .i64) (chkI_ok p (by omega) (by omega) (by assumption) (by assumption) (by omega) (by omega) (by omega) (by assumption)).symm
        · try simp only [decide_eq_true_eq, decide_eq_false_iff_not, Bool.not_eq_true', Bool.not_eq_false'] at hc4
          refine rv rfl rfl rfl (fld_r Tryz.underlying24 rfl Tryz.sizeOf3 rfl) ?_
          refine rv rfl rfl rfl (ldR_r Tryz.isAgg3 rfl (.head _) hb1 hm1 trivial rfl) ?_
          refine rv rfl rfl rfl (lss_r rfl rfl) ?_
          refine rv rfl rfl rfl (pkF_r rfl rfl) ?_
          refine rv rfl rfl rfl (mv_r rfl) ?_
          refine OJ.split (t := 28) rfl (fun hc5 => ?_) (fun hc5 => ?_)
          · try simp only [decide_eq_true_eq, decide_eq_false_iff_not, Bool.not_eq_true', Bool.not_eq_false'] at hc5
            refine OJ.off rfl (by decide) rfl ?_
            refine OJ.off rfl (by decide) rfl ?_
            refine OJ.off rfl (by decide) rfl ?_
            refine OJ.off rfl (by decide) rfl ?_
            refine OJ.off rfl (by decide) rfl ?_
            refine rv rfl rfl rfl (pkT_r rfl rfl) ?_
            refine rv rfl rfl rfl (mv_r rfl) ?_
            refine OJ.off rfl (by decide) rfl ?_
            refine OJ.off rfl (by decide) rfl ?_
            refine OJ.off rfl (by decide) rfl ?_
            refine rv rfl rfl rfl (pkT_r rfl rfl) ?_
            refine OJ.done ?_
            refine PJ.next ?_
            refine CJ.condT rfl ?_
            refine CJ.seq ?_
            refine CJ.region ?_
            refine rv rfl rfl rfl (asg_r rfl) ?_
            refine OJ.done ?_
            refine PJ.next ?_
            refine CJ.ret ?_
            refine PJ.retThen ?_
            refine retV Tryz.results11 rfl (.tail _ (.head _)) ?_
            first | exact congrArg (Value.int .i64) (chkI_no p (.inl (by omega))).symm | exact congrArg (Value.int .i64) (chkI_no p (.inr (.inl (by omega)))).symm | exact congrArg (Value.int .i64) (chkI_no p (.inr (.inr (.inl (by assumption))))).symm | exact congrArg (Value.int .i64) (chkI_no p (.inr (.inr (.inr (.inl (by assumption)))))).symm | exact congrArg (Value.int .i64) (chkI_no p (.inr (.inr (.inr (.inr (.inl (by omega))))))).symm | exact congrArg (Value.int .i64) (chkI_no p (.inr (.inr (.inr (.inr (.inr (.inl (by omega)))))))).symm | exact congrArg (Value.int .i64) (chkI_no p (.inr (.inr (.inr (.inr (.inr (.inr (.inl (by omega))))))))).symm | exact congrArg (Value.int .i64) (chkI_no p (.inr (.inr (.inr (.inr (.inr (.inr (.inr (by assumption))))))))).symm | exact congrArg (Value.int .i64) (chkI_ok p (by omega) (by omega) (by assumption) (by assumption) (by omega) (by omega) (by omega) (by assumption)).symm
          · try simp only [decide_eq_true_eq, decide_eq_false_iff_not, Bool.not_eq_true', Bool.not_eq_false'] at hc5
            refine rv rfl rfl rfl (fld_r Tryz.underlying24 rfl Tryz.sizeOf3 rfl) ?_
            refine rv rfl rfl rfl (ldR_r Tryz.isAgg3 rfl (.head _) hb1 hm1 trivial rfl) ?_
            refine rv rfl rfl rfl (fld_r Tryz.underlying24 rfl Tryz.sizeOf3 rfl) ?_
            refine rv rfl rfl rfl (ldR_r Tryz.isAgg3 rfl (.head _) hb1 hm1 trivial rfl) ?_
            refine rv rfl rfl rfl (lss_r rfl rfl) ?_
            refine rv rfl rfl rfl (pkF_r rfl rfl) ?_
            refine rv rfl rfl rfl (mv_r rfl) ?_
            refine OJ.split (t := 35) rfl (fun hc6 => ?_) (fun hc6 => ?_)
            · try simp only [decide_eq_true_eq, decide_eq_false_iff_not, Bool.not_eq_true', Bool.not_eq_false'] at hc6
              refine OJ.off rfl (by decide) rfl ?_
              refine OJ.off rfl (by decide) rfl ?_
              refine OJ.off rfl (by decide) rfl ?_
              refine rv rfl rfl rfl (pkT_r rfl rfl) ?_
              refine OJ.done ?_
              refine PJ.next ?_
              refine CJ.condT rfl ?_
              refine CJ.seq ?_
              refine CJ.region ?_
              refine rv rfl rfl rfl (asg_r rfl) ?_
              refine OJ.done ?_
              refine PJ.next ?_
              refine CJ.ret ?_
              refine PJ.retThen ?_
              refine retV Tryz.results11 rfl (.tail _ (.head _)) ?_
              first | exact congrArg (Value.int .i64) (chkI_no p (.inl (by omega))).symm | exact congrArg (Value.int .i64) (chkI_no p (.inr (.inl (by omega)))).symm | exact congrArg (Value.int .i64) (chkI_no p (.inr (.inr (.inl (by assumption))))).symm | exact congrArg (Value.int .i64) (chkI_no p (.inr (.inr (.inr (.inl (by assumption)))))).symm | exact congrArg (Value.int .i64) (chkI_no p (.inr (.inr (.inr (.inr (.inl (by omega))))))).symm | exact congrArg (Value.int .i64) (chkI_no p (.inr (.inr (.inr (.inr (.inr (.inl (by omega)))))))).symm | exact congrArg (Value.int .i64) (chkI_no p (.inr (.inr (.inr (.inr (.inr (.inr (.inl (by omega))))))))).symm | exact congrArg (Value.int .i64) (chkI_no p (.inr (.inr (.inr (.inr (.inr (.inr (.inr (by assumption))))))))).symm | exact congrArg (Value.int .i64) (chkI_ok p (by omega) (by omega) (by assumption) (by assumption) (by omega) (by omega) (by omega) (by assumption)).symm
            · try simp only [decide_eq_true_eq, decide_eq_false_iff_not, Bool.not_eq_true', Bool.not_eq_false'] at hc6
              refine rv rfl rfl rfl (fld_r Tryz.underlying24 rfl Tryz.sizeOf3 rfl) ?_
              refine rv rfl rfl rfl (ldR_r Tryz.isAgg3 rfl (.head _) hb1 hm1 trivial rfl) ?_
              refine rv rfl rfl rfl (gtr_r rfl rfl) ?_
              refine rv rfl rfl rfl (pkF_r rfl rfl) ?_
              refine OJ.done ?_
              refine PJ.next ?_
              refine CJ.cond rfl (fun hc7 => ?_) (fun hc7 => ?_)
              · try simp only [decide_eq_true_eq, decide_eq_false_iff_not, Bool.not_eq_true', Bool.not_eq_false'] at hc7
                refine CJ.seq ?_
                refine CJ.region ?_
                refine rv rfl rfl rfl (asg_r rfl) ?_
                refine OJ.done ?_
                refine PJ.next ?_
                refine CJ.ret ?_
                refine PJ.retThen ?_
                refine retV Tryz.results11 rfl (.tail _ (.head _)) ?_
                first | exact congrArg (Value.int .i64) (chkI_no p (.inl (by omega))).symm | exact congrArg (Value.int .i64) (chkI_no p (.inr (.inl (by omega)))).symm | exact congrArg (Value.int .i64) (chkI_no p (.inr (.inr (.inl (by assumption))))).symm | exact congrArg (Value.int .i64) (chkI_no p (.inr (.inr (.inr (.inl (by assumption)))))).symm | exact congrArg (Value.int .i64) (chkI_no p (.inr (.inr (.inr (.inr (.inl (by omega))))))).symm | exact congrArg (Value.int .i64) (chkI_no p (.inr (.inr (.inr (.inr (.inr (.inl (by omega)))))))).symm | exact congrArg (Value.int .i64) (chkI_no p (.inr (.inr (.inr (.inr (.inr (.inr (.inl (by omega))))))))).symm | exact congrArg (Value.int .i64) (chkI_no p (.inr (.inr (.inr (.inr (.inr (.inr (.inr (by assumption))))))))).symm | exact congrArg (Value.int .i64) (chkI_ok p (by omega) (by omega) (by assumption) (by assumption) (by omega) (by omega) (by omega) (by assumption)).symm
              · try simp only [decide_eq_true_eq, decide_eq_false_iff_not, Bool.not_eq_true', Bool.not_eq_false'] at hc7
                refine CJ.skip ?_
                refine PJ.next ?_
                refine CJ.seq ?_
                refine CJ.seq ?_
                refine CJ.less (E' := [(0, _), (1, _), (2, _), (3, _), (4, _), (5, _), (6, _), (7, _), (8, _), (9, _), (10, _), (11, _), (12, _), (13, _), (14, _), (15, _), (16, _), (17, _), (18, _), (19, _), (20, _), (21, _), (22, _), (23, _), (24, _), (25, _), (26, _), (27, _), (28, _), (29, _), (30, _), (31, _), (32, _), (33, _), (34, _), (35, _), (36, _), (37, _), (38, _), (39, _)]) ⟨rfl, rfl, rfl, rfl, rfl, rfl, rfl, rfl, rfl, rfl, rfl, rfl, rfl, rfl, rfl, rfl, rfl, rfl, rfl, rfl, rfl, rfl, rfl, rfl, rfl, rfl, rfl, rfl, rfl, rfl, rfl, rfl, rfl, rfl, rfl, rfl, rfl, rfl, rfl, rfl, trivial⟩ ?_
                refine CJ.chn 6 [4, 5] [([], some _), ([0], some (.slice p.la p.left.length p.lc)), ([], some _), ([2], some (.slice p.ra p.right.length p.rc)), ([3], none), ([4], none)] (fun cv L' H' => match cv with | [] => L' = [w1, w] ∧ H' = [] | [v1] => ∃ (b44 : Nat) (w44 : World), v1 = .map (some b44) ∧ L' = [w44, w1, w] ∧ H' = [] ∧ w44.heap[b44]? = some (mpO (.agg #[]) (setK p.right)) | [v1, v2] => ∃ (b44 : Nat) (w44 : World), v1 = .map (some b44) ∧ v2 = .func (.func 33) #[.map (some b44)] #[] ∧ L' = [w44, w1, w] ∧ H' = [] ∧ w44.heap[b44]? = some (mpO (.agg #[]) (setK p.right)) | _ => False) (by kernel_rfl) ⟨rfl, rfl⟩ (by kernel_rfl) (by kernel_rfl) (by kernel_rfl) (by kernel_rfl) (by kernel_rfl) (by kernel_rfl) (pc (fun cv L' H' hd hP => X.val rfl rfl (fld_r Tryz.underlying24 rfl Tryz.sizeOf22 rfl) (fun _ _ => rfl)) (pc (fun cv L' H' hd hP => match cv, hd, hP with | [], hd, hP => (by obtain ⟨rfl, rfl⟩ := hP; exact X.val rfl rfl (ldR_r Tryz.isAgg22 rfl (.head _) hb1 hm1 trivial rfl) (fun _ _ => rfl)) | [v1], hd, hP => (by obtain ⟨b44, w44, rfl, rfl, rfl, hb44⟩ := hP; exact X.val rfl rfl (ldR_r Tryz.isAgg22 rfl (.tail _ (.head _)) hb1 hm1 trivial rfl) (fun _ _ => rfl)) | [v1, v2], hd, hP => (by obtain ⟨b44, w44, rfl, rfl, rfl, rfl, hb44⟩ := hP; exact X.val rfl rfl (ldR_r Tryz.isAgg22 rfl (.tail _ (.head _)) hb1 hm1 trivial rfl) (fun _ _ => rfl)) | _ :: _ :: _ :: _, _, hP => hP.elim) (pc (fun cv L' H' hd hP => X.val rfl rfl (fld_r Tryz.underlying24 rfl Tryz.sizeOf22 rfl) (fun _ _ => rfl)) (pc (fun cv L' H' hd hP => match cv, hd, hP with | [], hd, hP => (by obtain ⟨rfl, rfl⟩ := hP; exact X.val rfl rfl (ldR_r Tryz.isAgg22 rfl (.head _) hb1 hm1 trivial rfl) (fun _ _ => rfl)) | [v1], hd, hP => (by obtain ⟨b44, w44, rfl, rfl, rfl, hb44⟩ := hP; exact X.val rfl rfl (ldR_r Tryz.isAgg22 rfl (.tail _ (.head _)) hb1 hm1 trivial rfl) (fun _ _ => rfl)) | [v1, v2], hd, hP => (by obtain ⟨b44, w44, rfl, rfl, rfl, rfl, hb44⟩ := hP; exact X.val rfl rfl (ldR_r Tryz.isAgg22 rfl (.tail _ (.head _)) hb1 hm1 trivial rfl) (fun _ _ => rfl)) | _ :: _ :: _ :: _, _, hP => hP.elim) (pk (pk (pn))))))) ?_ ?_
                · refine sc rfl rfl rfl ?_ ?_
                  · intro cv L' H' hl hP F Q' hk
                    obtain rfl := List.eq_nil_of_length_eq_zero hl
                    obtain ⟨rfl, rfl⟩ := hP
                    refine callX (α := Nat) (v := fun b : Nat => .map (some b)) (Φ := fun (W : World) (b : Nat) (v1 : World) => W.heap.size ≤ b ∧ v1.heap[b]? = some (mpO (.agg #[]) (setK p.right))) Tryz.call32 rfl rfl rfl (fun W hS => policy_setOf p.right hf.right N p.ra p.rc W (Nat.le_trans hN (hS.links _ (.tail _ (.head _))).size) (hp.right.up (Nat.le_refl _) (hS.same (.tail _ (.head _)) hN (fun _ _ h => h) True.intro))) ?_
                    rintro W44 b44 w44 hS44 hB44 ⟨h1, h2⟩
                    exact OJ.done (hk _ _ _ ⟨b44, w44, rfl, rfl, rfl, h2⟩)
                  refine sc rfl rfl rfl ?_ ?_
                  · intro cv L' H' hl hP F Q' hk
                    obtain ⟨v1, rfl⟩ := len1 hl
                    obtain ⟨b44, w44, rfl, rfl, rfl, hb44⟩ := hP
                    refine rv rfl rfl rfl (mkFF_r rfl rfl) ?_
                    exact OJ.done (hk _ _ _ ⟨b44, w44, rfl, rfl, rfl, rfl, hb44⟩)
                  exact sn
                · intro cv L' H' hl hP
                  obtain ⟨v1, v2, rfl⟩ := len2 hl
                  obtain ⟨b44, w44, rfl, rfl, rfl, rfl, hb44⟩ := hP
                  refine call Tryz.call31 rfl rfl rfl (fun W hS => by have := ContainsFunc_set p.left hf.left N p.la p.lc W (Nat.le_trans hN (hS.links _ (.tail _ (.tail _ (.head _)))).size) (hp.left.up (Nat.le_refl _) (hS.same (.tail _ (.tail _ (.head _))) hN (fun _ _ h => h) (by first | exact True.intro | (simp only [Over, List.set_cons_zero, List.set_cons_succ, List.eraseIdx_cons_zero, List.eraseIdx_cons_succ, and_true]; omega)))) b44 (setK p.right) (hS.old (.head _) hb44 (fun h => h) trivial); rw [any_set] at this; exact this) (v := .bool (p.left.any fun x => decide (x ∈ p.right))) ?_
                  refine OJ.done ?_
                  refine PJ.next ?_
                  refine CJ.cond rfl (fun hc8 => ?_) (fun hc8 => ?_)
                  · try simp only [decide_eq_true_eq, decide_eq_false_iff_not, Bool.not_eq_true', Bool.not_eq_false'] at hc8
                    refine CJ.seq ?_
                    refine CJ.region ?_
                    refine rv rfl rfl rfl (asg_r rfl) ?_
                    refine OJ.done ?_
                    refine PJ.next ?_
                    refine CJ.ret ?_
                    refine PJ.retThen ?_
                    refine retV Tryz.results11 rfl (.tail _ (.tail _ (.head _))) ?_
                    first | exact congrArg (Value.int .i64) (chkI_no p (.inl (by omega))).symm | exact congrArg (Value.int .i64) (chkI_no p (.inr (.inl (by omega)))).symm | exact congrArg (Value.int .i64) (chkI_no p (.inr (.inr (.inl (by assumption))))).symm | exact congrArg (Value.int .i64) (chkI_no p (.inr (.inr (.inr (.inl (by assumption)))))).symm | exact congrArg (Value.int .i64) (chkI_no p (.inr (.inr (.inr (.inr (.inl (by omega))))))).symm | exact congrArg (Value.int .i64) (chkI_no p (.inr (.inr (.inr (.inr (.inr (.inl (by omega)))))))).symm | exact congrArg (Value.int .i64) (chkI_no p (.inr (.inr (.inr (.inr (.inr (.inr (.inl (by omega))))))))).symm | exact congrArg (Value.int .i64) (chkI_no p (.inr (.inr (.inr (.inr (.inr (.inr (.inr (by assumption))))))))).symm | exact congrArg (Value.int .i64) (chkI_ok p (by omega) (by omega) (by assumption) (by assumption) (by omega) (by omega) (by omega) (by assumption)).symm
                  · try simp only [decide_eq_true_eq, decide_eq_false_iff_not, Bool.not_eq_true', Bool.not_eq_false'] at hc8
                    refine CJ.skip ?_
                    refine PJ.next ?_
                    refine CJ.seq ?_
                    refine CJ.region ?_
                    refine rv rfl rfl rfl (asg_r rfl) ?_
                    refine OJ.done ?_
                    refine PJ.next ?_
                    refine CJ.ret ?_
                    refine retV Tryz.results11 rfl (.tail _ (.tail _ (.head _))) ?_
                    first | exact congrArg (Value.int .i64) (chkI_no p (.inl (by omega))).symm | exact congrArg (Value.int .i64) (chkI_no p (.inr (.inl (by omega)))).symm | exact congrArg (Value.int .i64) (chkI_no p (.inr (.inr (.inl (by assumption))))).symm | exact congrArg (Value.int .i64) (chkI_no p (.inr (.inr (.inr (.inl (by assumption)))))).symm | exact congrArg (Value.int .i64) (chkI_no p (.inr (.inr (.inr (.inr (.inl (by omega))))))).symm | exact congrArg (Value.int .i64) (chkI_no p (.inr (.inr (.inr (.inr (.inr (.inl (by omega)))))))).symm | exact congrArg (Value.int .i64) (chkI_no p (.inr (.inr (.inr (.inr (.inr (.inr (.inl (by omega))))))))).symm | exact congrArg (Value.int .i64) (chkI_no p (.inr (.inr (.inr (.inr (.inr (.inr (.inr (by assumption))))))))).symm | exact congrArg (Value.int .i64) (chkI_ok p (by omega) (by omega) (by assumption) (by assumption) (by omega) (by omega) (by omega) (by assumption)).symm
def fewB (p : Po) : Bool := decide (p.left.length ≤ 10) && decide (p.right.length ≤ 10)
theorem fewB_po {p : Po} (h : fewB p = true) : PoFew p := by
  simp only [fewB, Bool.and_eq_true, decide_eq_true_eq] at h
  exact ⟨by omega, by omega⟩
/-- chartroom/chartroomref46.FewPeople -/
theorem r46_FewPeople (p : Po) (w : World) :
    Calls Tryz.prog 8 #[.agg (poC p)] w (Ret w (.bool (fewB p))) := by
  
  refine enter (vs := [_]) Tryz.func8 rfl Tryz.ntmps8 rfl ?_
  refine CJ.seq ?_
  refine CJ.region ?_
  refine boxR rfl rfl rfl ?_
  intro b1 w1 hb1 ha1 ho1 hm1 hz1
  simp only [Above] at ha1
  try simp only [Off, book, List.cons_append, List.nil_append, List.set_cons_zero, List.set_cons_succ, ne_eq] at ho1
  refine rv rfl rfl rfl (asg_r rfl) ?_
  refine OJ.done ?_
  refine PJ.next ?_
  refine CJ.seq ?_
  refine CJ.region ?_
  refine rv rfl rfl rfl (fld_r Tryz.underlying24 rfl Tryz.sizeOf22 rfl) ?_
  refine rv rfl rfl rfl (ldR_r Tryz.isAgg22 rfl (.head _) hb1 hm1 trivial rfl) ?_
  refine rv rfl rfl rfl (lenS_r Tryz.underlying22 rfl) ?_
  refine rv rfl rfl rfl (leq_r rfl rfl) ?_
  refine rv rfl rfl rfl (mv_r rfl) ?_
  refine OJ.split (t := 7) rfl (fun hc1 => ?_) (fun hc1 => ?_)
  · try simp only [decide_eq_true_eq, decide_eq_false_iff_not, Bool.not_eq_true', Bool.not_eq_false'] at hc1
    refine rv rfl rfl rfl (fld_r Tryz.underlying24 rfl Tryz.sizeOf22 rfl) ?_
    refine rv rfl rfl rfl (ldR_r Tryz.isAgg22 rfl (.head _) hb1 hm1 trivial rfl) ?_
    refine rv rfl rfl rfl (lenS_r Tryz.underlying22 rfl) ?_
    refine rv rfl rfl rfl (leq_r rfl rfl) ?_
    refine rv rfl rfl rfl (pkT_r rfl rfl) ?_
    refine rv rfl rfl rfl (asg_r rfl) ?_
    refine OJ.done ?_
    refine PJ.next ?_
    refine CJ.ret ?_
    refine retV Tryz.results8 rfl (.tail _ (.head _)) ?_
    first | exact congrArg Value.bool (by unfold fewB; rw [Bool.eq_iff_iff]; simp; omega)
  · try simp only [decide_eq_true_eq, decide_eq_false_iff_not, Bool.not_eq_true', Bool.not_eq_false'] at hc1
    refine OJ.off rfl (by decide) rfl ?_
    refine OJ.off rfl (by decide) rfl ?_
    refine OJ.off rfl (by decide) rfl ?_
    refine OJ.off rfl (by decide) rfl ?_
    refine rv rfl rfl rfl (pkF_r rfl rfl) ?_
    refine rv rfl rfl rfl (asg_r rfl) ?_
    refine OJ.done ?_
    refine PJ.next ?_
    refine CJ.ret ?_
    refine retV Tryz.results8 rfl (.tail _ (.head _)) ?_
    first | exact congrArg Value.bool (by unfold fewB; rw [Bool.eq_iff_iff]; simp; omega)
end Px
