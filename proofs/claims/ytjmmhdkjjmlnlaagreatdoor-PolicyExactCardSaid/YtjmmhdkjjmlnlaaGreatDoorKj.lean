/- Contracts of the reference, of Apart and Retain at the empty record. No condition beyond those that each theorem states. -/
import Derived.Test.YtjmmhdkjjmlnlaaGreatDoorKi
import Derived.Test.YtjmmhdkjjmlnlaaGreatDoorProg
set_option linter.unusedSimpArgs false
set_option linter.unusedVariables false
set_option linter.unusedSectionVars false
namespace Px
open Go Go.RowKit Go.Proofs
def fexB (cs : List Cn) (ls : List Ls) : Bool := decide (cs.length ≤ 5) && decide (ls.length ≤ 10)
/-- chartroom/chartroomref46.FewExports -/
theorem r46_FewExports (y : Ex) (ls : List Ls) (b : Nat) (a : Option Addr) (cp : Nat) (w : World) (hb : w.heap[b]? = some (.cells (exC y) 41 (0, 0))) :
    Calls Tryz.prog 13 #[.slice (some ⟨b, 0, none⟩) 1 1, .slice a ls.length cp] w (Ret w (.bool (fexB y.cs ls))) := by
  
  refine enter (vs := [_, _]) Tryz.func13 rfl Tryz.ntmps13 rfl ?_
  refine CJ.seq ?_
  refine CJ.region ?_
  refine rv rfl rfl rfl (asg_r rfl) ?_
  refine OJ.done ?_
  refine PJ.next ?_
  refine CJ.seq ?_
  refine CJ.seq ?_
  refine CJ.region ?_
  refine rv rfl rfl rfl (asg_r rfl) ?_
  refine OJ.done ?_
  refine PJ.next ?_
  refine CJ.block ?_
  refine CJ.loop (α := Nat) (fun j => [(0, .slice (some ⟨b, 0, none⟩) 1 1), (1, .slice a ls.length cp), (5, .int .i64 (j : Int))]) (fun j => []) (fun j => [w]) (fun j => Gh.no) (fun j => j ≤ 1 ∧ (1 ≤ j → y.cs.length ≤ 5)) (fun j => 1 - j) 0 ⟨by omega, fun h => absurd h (by omega)⟩ ⟨rfl, rfl, rfl, trivial⟩ rfl rfl (by simp) ?_
  rintro j ⟨hj, hj5⟩
  refine CJ.seq ?_
  refine CJ.seq ?_
  refine CJ.region ?_
  refine rv rfl rfl rfl (mv_r rfl) ?_
  refine rv rfl rfl rfl (mv_r rfl) ?_
  refine rv rfl rfl rfl (lenS_r Tryz.underlying43 rfl) ?_
  refine rv rfl rfl rfl (lss_r rfl rfl) ?_
  refine OJ.done ?_
  refine PJ.next ?_
  refine CJ.cond rfl (fun hc1 => ?_) (fun hc1 => ?_)
  · try simp only [decide_eq_true_eq, decide_eq_false_iff_not, Bool.not_eq_true', Bool.not_eq_false'] at hc1
    refine CJ.skip ?_
    refine PJ.next ?_
    refine CJ.seq ?_
    refine CJ.block ?_
    refine CJ.seq ?_
    obtain rfl : j = 0 := by omega
    refine CJ.region ?_
    refine rv rfl rfl rfl (mv_r rfl) ?_
    refine rv rfl rfl rfl (mv_r rfl) ?_
    refine rv rfl rfl rfl (idxS_r Tryz.underlying43 Tryz.sizeOf41 rfl rfl (by omega) (by omega)) ?_
    refine rv rfl rfl rfl (fld_r Tryz.underlying41 rfl Tryz.sizeOf39 rfl) ?_
    refine rv rfl rfl rfl (ldR_r (v := .slice y.ca y.cs.length y.cc) Tryz.isAgg39 rfl (.head _) hb (fun h => h) trivial rfl) ?_
    refine rv rfl rfl rfl (lenS_r Tryz.underlying39 rfl) ?_
    refine rv rfl rfl rfl (gtr_r rfl rfl) ?_
    refine OJ.done ?_
    refine PJ.next ?_
    refine CJ.cond rfl (fun hc2 => ?_) (fun hc2 => ?_)
    · try simp only [decide_eq_true_eq, decide_eq_false_iff_not, Bool.not_eq_true', Bool.not_eq_false'] at hc2
      refine CJ.seq ?_
      refine CJ.region ?_
      refine rv rfl rfl rfl (asg_r rfl) ?_
      refine OJ.done ?_
      refine PJ.next ?_
      refine CJ.ret ?_
      refine PJ.retBlock ?_
      refine PJ.retThen ?_
      refine PJ.retThen ?_
      refine PJ.retBlock ?_
      refine PJ.retThen ?_
      refine retV Tryz.results13 rfl (.head _) ?_
      first | exact congrArg Value.bool (by unfold fexB; rw [Bool.eq_iff_iff]; simp; omega)
    · try simp only [decide_eq_true_eq, decide_eq_false_iff_not, Bool.not_eq_true', Bool.not_eq_false'] at hc2
      refine CJ.skip ?_
      refine PJ.norBlock ?_
      refine PJ.next ?_
      refine CJ.region ?_
      refine rv rfl rfl rfl (mv_r rfl) ?_
      refine rv rfl rfl rfl (addI_r rfl rfl (by omega) (by omega)) ?_
      refine rv rfl rfl rfl (asg_r rfl) ?_
      refine OJ.done ?_
      refine PJ.again 1 ⟨by omega, fun _ => by omega⟩ (by omega) ⟨rfl, rfl, rfl, trivial⟩ rfl rfl (by simp)
  · try simp only [decide_eq_true_eq, decide_eq_false_iff_not, Bool.not_eq_true', Bool.not_eq_false'] at hc1
    refine CJ.exit ?_
    refine PJ.exThen ?_
    refine PJ.exThen ?_
    refine PJ.exHit ?_
    refine PJ.next ?_
    refine CJ.seq ?_
    refine CJ.region ?_
    refine rv rfl rfl rfl (mv_r rfl) ?_
    refine rv rfl rfl rfl (lenS_r Tryz.underlying43 rfl) ?_
    refine rv rfl rfl rfl (leq_r rfl rfl) ?_
    refine rv rfl rfl rfl (mv_r rfl) ?_
    refine OJ.split (t := 22) rfl (fun hc3 => ?_) (fun hc3 => ?_)
    · try simp only [decide_eq_true_eq, decide_eq_false_iff_not, Bool.not_eq_true', Bool.not_eq_false'] at hc3
      refine rv rfl rfl rfl (mv_r rfl) ?_
      refine rv rfl rfl rfl (lenS_r Tryz.underlying38 rfl) ?_
      refine rv rfl rfl rfl (leq_r rfl rfl) ?_
      refine rv rfl rfl rfl (pkT_r rfl rfl) ?_
      refine rv rfl rfl rfl (asg_r rfl) ?_
      refine OJ.done ?_
      refine PJ.next ?_
      refine CJ.ret ?_
      refine retV Tryz.results13 rfl (.head _) ?_
      first | exact congrArg Value.bool (by unfold fexB; rw [Bool.eq_iff_iff]; simp; omega)
    · try simp only [decide_eq_true_eq, decide_eq_false_iff_not, Bool.not_eq_true', Bool.not_eq_false'] at hc3
      refine OJ.off rfl (by decide) rfl ?_
      refine OJ.off rfl (by decide) rfl ?_
      refine OJ.off rfl (by decide) rfl ?_
      refine rv rfl rfl rfl (pkF_r rfl rfl) ?_
      refine rv rfl rfl rfl (asg_r rfl) ?_
      refine OJ.done ?_
      refine PJ.next ?_
      refine CJ.ret ?_
      refine retV Tryz.results13 rfl (.head _) ?_
      first | exact congrArg Value.bool (by unfold fexB; rw [Bool.eq_iff_iff]; simp; omega)
end Px
namespace Px
open Go Go.RowKit Go.Proofs
/-- an empty record -/
def nilsR : Array Value := #[.slice none 0 0, .slice none 0 0, .slice none 0 0, .slice none 0 0, .slice none 0 0, .slice none 0 0, .slice none 0 0, .slice none 0 0]
section
variable {C : Cx} {fn : Func} {R : Ending → World → Prop} {E : Env} {G : Gh} {L : List World} {H : Heap}
/-- the end of a function with one mark, whose result is a cell -/
theorem retMC {Dk t T b ct : Nat} {cs : Array Value} {fr : Nat × Nat} {v : Value} {e : Exit} (he : e = .ret ∨ e = .normal) (hr : fn.results = #[.cell t T]) (hA : AggF C.P T false) (hx : look E t = some (ptr b 0))
    (hm : (Dk, .deferred (some [])) ∈ H) (hb : (b, .cells cs ct fr) ∈ H) (hne : b ≠ Dk) (hv : cs[0]? = some v) (h : ∀ W H', St G L H' W → H'.map (·.1) = H.map (·.1) → R (.returned v) W) :
    PJ C (bodyPostM (FW none) 0 C.P fn R) e E [coll Dk] G L H :=
  retM he hm fun a W H' hF hS hst hmap => by
    obtain ⟨i, hi⟩ := List.mem_iff_getElem?.1 (hst _ hb hne)
    exact ⟨v, (RS.w (C := C) hi hA hx hv RS.n).res hr hF hS, h W H' hS hmap⟩
end
/-- the listing of a device whose key is its number and 1 -/
def lstd (Z : Fx) (d : Int) : Ls := ⟨d, (Z.ge 4 (d + 1)).1, (Z.ge 4 (d + 1)).1, 1, false⟩
/-- chartroom/chartroomlaw46.listed -/
theorem law46_listed {Z : Fx} (hZ : FxOk Z) (d : Int) (hd : KOk (d + 1)) (w : World) :
    Calls Tryz.prog 17 #[.int .i64 d] w (Ret w (.agg (lsC (lstd Z d)))) := by
  have hd1 := hd.1
  have hd2 := hd.2
  refine enter (vs := [_]) Tryz.func17 rfl Tryz.ntmps17 rfl ?_
  refine CJ.seq ?_
  refine CJ.region ?_
  refine allW Tryz.zeroValue49 rfl rfl ?_
  intro b2 ha2 ho2
  simp only [Above] at ha2
  try simp only [Off, book, List.cons_append, List.nil_append, List.set_cons_zero, List.set_cons_succ, ne_eq] at ho2
  refine OJ.done ?_
  refine PJ.next ?_
  refine CJ.seq ?_
  refine CJ.region ?_
  refine rv rfl rfl rfl (mv_r rfl) ?_
  refine rv rfl rfl rfl (addI_r rfl rfl (by omega) (by omega)) ?_
  refine call Tryz.call24 rfl rfl rfl (fun W hS => pubG_ok hZ (d + 1) hd W) ?_
  refine rv rfl rfl rfl (mv_r rfl) ?_
  refine rv rfl rfl rfl (ext_r rfl rfl) ?_
  refine rv rfl rfl rfl (ext_r rfl rfl) ?_
  refine rv rfl rfl rfl (asg_r rfl) ?_
  refine rv rfl rfl rfl (asg_r rfl) ?_
  refine OJ.done ?_
  refine PJ.next ?_
  refine CJ.seq ?_
  refine CJ.region ?_
  refine rv rfl rfl rfl (mv_r rfl) ?_
  refine rv rfl rfl rfl (mv_r rfl) ?_
  refine rv rfl rfl rfl (mv_r rfl) ?_
  refine rv rfl rfl rfl (bldS_r Tryz.underlying49 Tryz.zeroValue49 (PlF.c Tryz.sizeOf3 (PlF.c Tryz.sizeOf3 (PlF.c Tryz.sizeOf3 (PlF.c Tryz.sizeOf3 (PlF.c Tryz.sizeOf4 (PlF.n)))))) rfl rfl) ?_
  refine stWw (i := 0) rfl Tryz.sizeOf49 rfl rfl rfl rfl rfl rfl ?_
  refine OJ.done ?_
  refine PJ.next ?_
  refine CJ.ret ?_
  refine retO (.inl rfl) Tryz.results17 (RS.wA (i := 0) rfl Tryz.isAgg49 Tryz.sizeOf49 rfl (Nat.le_of_ble_eq_true rfl) (RS.n)) (.head _) (by first | (simp only [Over, List.set_cons_zero, List.set_cons_succ, List.eraseIdx_cons_zero, List.eraseIdx_cons_succ, and_true]; omega) | (simp [Over] <;> omega)) ?_
  rfl
/-- chartroom/policy.of -/
theorem policy_of (p : Po) (w : World) :
    Calls Tryz.prog 50 #[.agg nilsR, .agg (poC p)] w (RetX w (fun b : Nat × Nat => .func (.func 98) #[] #[ptr b.1 0, ptr b.2 0]) (fun b w1 => w.heap.size ≤ b.1 ∧ w1.heap[b.1]? = some (.cells nilsR 74 (0, 0)))) := by
  
  refine enter (vs := [_, _]) Tryz.func50 rfl Tryz.ntmps50 rfl ?_
  refine CJ.seq ?_
  refine CJ.region ?_
  refine boxR rfl rfl rfl ?_
  intro b2 w2 hb2 ha2 ho2 hm2 hz2
  simp only [Above] at ha2
  try simp only [Off, book, List.cons_append, List.nil_append, List.set_cons_zero, List.set_cons_succ, ne_eq] at ho2
  refine boxR rfl rfl rfl ?_
  intro b3 w3 hb3 ha3 ho3 hm3 hz3
  simp only [Above] at ha3
  try simp only [Off, book, List.cons_append, List.nil_append, List.set_cons_zero, List.set_cons_succ, ne_eq] at ho3
  refine rv rfl rfl rfl (asg_r rfl) ?_
  refine OJ.done ?_
  refine PJ.next ?_
  refine CJ.seq ?_
  refine CJ.region ?_
  refine rv rfl rfl rfl (mkF_r rfl) ?_
  refine rv rfl rfl rfl (asg_r rfl) ?_
  refine OJ.done ?_
  refine PJ.next ?_
  refine CJ.ret ?_
  refine retX1 (b2, b3) Tryz.results50 rfl (.tail _ (.tail _ (.head _))) rfl ?_
  exact fun W hS => ⟨ha2.1, hS.old (.tail _ (.head _)) hb2 hm2 trivial⟩
/-- chartroom/policy.of$1 -/
theorem of1_iter (b c : Nat) (W : World) (hb1 : W.heap[b]? = some (.cells nilsR 74 (0, 0))) :
    IterSpec Tryz.prog 98 [ptr b 0, ptr c 0] (fun _ : Unit => [.bool true]) ([]) (fun _ => False) (fun k => k = b) W := by
  intro l M I X0 hM hI hX hy h0
  have hm1 : ¬ M b := fun h => (hM b h).2.2 rfl
  refine enterG (itG hM (hI [])) [] (vs := [_, _, _]) Tryz.func98 rfl Tryz.ntmps98 rfl (st_it hM (hI []) h0) ?_
  refine CJ.seq ?_
  refine CJ.region ?_
  refine rv rfl rfl rfl (fld_r Tryz.underlying74 rfl Tryz.sizeOf72 rfl) ?_
  refine rv rfl rfl rfl (RV.re (v' := .slice none 0 0) (ldR_r Tryz.isAgg72 rfl (.head _) hb1 hm1 trivial rfl) (rfl)) ?_
  refine rv rfl rfl rfl (lenS_r Tryz.underlying72 rfl) ?_
  refine rv rfl rfl rfl (mv_r rfl) ?_
  refine OJ.done ?_
  refine PJ.next ?_
  refine CJ.block ?_
  refine CJ.loop (α := Nat) (fun j => [(8, .int .i64 0), (9, .int .i64 0)]) (fun j => []) (fun j => [W]) (fun j => itG hM (hI [])) (fun j => True) (fun j => 0) 0 True.intro ⟨rfl, rfl, trivial⟩ rfl rfl (by simp) ?_
  rintro j _
  refine CJ.seq ?_
  refine CJ.region ?_
  refine rv rfl rfl rfl (RV.re (v' := .bool false) (lss_r rfl rfl) (congrArg Value.bool (decide_eq_false (by omega)))) ?_
  refine OJ.done ?_
  refine PJ.next ?_
  refine CJ.seq ?_
  refine CJ.condF rfl ?_
  refine CJ.exit ?_
  refine PJ.exThen ?_
  refine PJ.exThen ?_
  refine PJ.exHit ?_
  exact retIt (.inr rfl) Tryz.results98 (.head _) (fun A hA => .inl hA)
theorem retX_any {α : Type} {w : World} {v : α → Value} {Φ : α → World → Prop} {P : Program} {f : Nat} {args : Array Value} (h : Calls P f args w (RetX w v Φ)) : Calls P f args w (RetX w v (fun _ _ => True)) :=
  h.mono fun _ _ ⟨x, h1, h2, _⟩ => ⟨x, h1, h2, trivial⟩
set_option maxHeartbeats 1600000 in
/-- chartroom/policy.Apart -/
theorem policy_Apart0 (p : Po) (hf : PoFew p) (hk0 : chkI p = 0) (N : Nat) (w : World) (hN : N ≤ w.heap.size) (hp : PoAt N w p) :
    Calls Tryz.prog 21 #[.agg nilsR, .slice none 0 0, .agg (poC p)] w (Ret w (.int .i64 0)) := by
  
  refine enterM Gh.no [] (vs := [_, _, _]) Tryz.func21 rfl Tryz.ntmps21 rfl (st_no w) ?_
  refine CJ.seq ?_
  refine CJ.region ?_
  refine boxR rfl rfl rfl ?_
  intro b3 w3 hb3 ha3 ho3 hm3 hz3
  simp only [Above] at ha3
  try simp only [Off, book, List.cons_append, List.nil_append, List.set_cons_zero, List.set_cons_succ, ne_eq] at ho3
  refine boxR rfl rfl rfl ?_
  intro b4 w4 hb4 ha4 ho4 hm4 hz4
  simp only [Above] at ha4
  try simp only [Off, book, List.cons_append, List.nil_append, List.set_cons_zero, List.set_cons_succ, ne_eq] at ho4
  refine boxR rfl rfl rfl ?_
  intro b5 w5 hb5 ha5 ho5 hm5 hz5
  simp only [Above] at ha5
  try simp only [Off, book, List.cons_append, List.nil_append, List.set_cons_zero, List.set_cons_succ, ne_eq] at ho5
  refine allW Tryz.zeroValue33 rfl rfl ?_
  intro b6 ha6 ho6
  simp only [Above] at ha6
  try simp only [Off, book, List.cons_append, List.nil_append, List.set_cons_zero, List.set_cons_succ, ne_eq] at ho6
  refine OJ.done ?_
  refine PJ.next ?_
  refine CJ.seq ?_
  refine CJ.seq ?_
  refine CJ.region ?_
  refine rv rfl rfl rfl (RV.re (v' := .agg (poC p)) (ldRAw_r Tryz.isAgg24 Tryz.sizeOf24 rfl (.head _) hb5 hm5 (by first | (simp only [Off, book, List.cons_append, List.nil_append, List.set_cons_zero, List.set_cons_succ, List.eraseIdx_cons_zero, List.eraseIdx_cons_succ, ne_eq, and_true]; omega) | (simp [Off] <;> omega)) rfl) (rfl)) ?_
  refine call Tryz.call11 rfl rfl rfl (fun W hS => by rw [← hk0]; exact policy_Check p hf N W (Nat.le_trans hN (hS.links _ (.tail _ (.tail _ (.tail _ (.head _))))).size) (hp.up (Nat.le_refl _) (hS.same (.tail _ (.tail _ (.tail _ (.head _)))) hN (fun _ _ h => h) (by first | exact True.intro | (simp only [Over, List.set_cons_zero, List.set_cons_succ, List.eraseIdx_cons_zero, List.eraseIdx_cons_succ, and_true]; omega))))) (v := .int .i64 0) ?_
  refine rv rfl rfl rfl (asg_r rfl) ?_
  refine OJ.done ?_
  refine PJ.next ?_
  refine CJ.seq ?_
  refine CJ.region ?_
  refine rv rfl rfl rfl (mv_r rfl) ?_
  refine rv rfl rfl rfl (RV.re (v' := .bool false) (neqI_r rfl rfl) rfl) ?_
  refine OJ.done ?_
  refine PJ.next ?_
  refine CJ.condF rfl ?_
  refine CJ.skip ?_
  refine PJ.next ?_
  refine CJ.seq ?_
  refine CJ.less (E' := [(0, _), (1, _), (2, _), (3, _), (4, _), (5, _), (6, _), (7, _), (16, _), (17, _), (18, _), (19, _)]) ⟨rfl, rfl, rfl, rfl, rfl, rfl, rfl, rfl, rfl, rfl, rfl, rfl, trivial⟩ ?_
  refine CJ.nt 8 [2, 5, 6, 7] [([], some _), ([0], some (.slice p.la p.left.length p.lc)), ([1], none), ([], some _), ([3], some (.slice p.ra p.right.length p.rc)), ([4], none), ([], none), ([], none)] [[], [0], [], []] (fun cv L' H' => match cv with | [none, none, none, none] => L' = [w5, w4, w3, w] ∧ H' = [(b6, .cells #[.int .i64 0] 33 (0, 0))] | [none, none, none, some v7] => ∃ (b9 : Nat), v7 = ptr b9 0 ∧ L' = [w5, w4, w3, w] ∧ H' = [(b9, .cells #[.map none] 84 (0, 0)), (b6, .cells #[.int .i64 0] 33 (0, 0))] ∧ (w5.heap.size ≤ b9 ∧ w4.heap.size ≤ b9 ∧ w3.heap.size ≤ b9 ∧ w.heap.size ≤ b9) | [none, none, some v6, none] => ∃ (b8 : Nat), v6 = ptr b8 0 ∧ L' = [w5, w4, w3, w] ∧ H' = [(b8, .cells #[.map none] 84 (0, 0)), (b6, .cells #[.int .i64 0] 33 (0, 0))] ∧ (w5.heap.size ≤ b8 ∧ w4.heap.size ≤ b8 ∧ w3.heap.size ≤ b8 ∧ w.heap.size ≤ b8) | [none, none, some v6, some v7] => ∃ (b8 : Nat) (b9 : Nat), v6 = ptr b8 0 ∧ v7 = ptr b9 0 ∧ L' = [w5, w4, w3, w] ∧ H' = [(b9, .cells #[.map none] 84 (0, 0)), (b8, .cells #[.map none] 84 (0, 0)), (b6, .cells #[.int .i64 0] 33 (0, 0))] ∧ (w5.heap.size ≤ b8 ∧ w4.heap.size ≤ b8 ∧ w3.heap.size ≤ b8 ∧ w.heap.size ≤ b8) ∧ (w5.heap.size ≤ b9 ∧ w4.heap.size ≤ b9 ∧ w3.heap.size ≤ b9 ∧ w.heap.size ≤ b9) | [some v2, none, none, none] => ∃ (b23 : Nat), v2 = .map (some b23) ∧ L' = [w5, w4, w3, w] ∧ H' = [(b6, .cells #[.int .i64 0] 33 (0, 0))] | [some v2, none, none, some v7] => ∃ (b23 : Nat) (b9 : Nat), v2 = .map (some b23) ∧ v7 = ptr b9 0 ∧ L' = [w5, w4, w3, w] ∧ H' = [(b9, .cells #[.map none] 84 (0, 0)), (b6, .cells #[.int .i64 0] 33 (0, 0))] ∧ (w5.heap.size ≤ b9 ∧ w4.heap.size ≤ b9 ∧ w3.heap.size ≤ b9 ∧ w.heap.size ≤ b9) | [some v2, none, some v6, none] => ∃ (b23 : Nat) (b8 : Nat), v2 = .map (some b23) ∧ v6 = ptr b8 0 ∧ L' = [w5, w4, w3, w] ∧ H' = [(b8, .cells #[.map none] 84 (0, 0)), (b6, .cells #[.int .i64 0] 33 (0, 0))] ∧ (w5.heap.size ≤ b8 ∧ w4.heap.size ≤ b8 ∧ w3.heap.size ≤ b8 ∧ w.heap.size ≤ b8) | [some v2, none, some v6, some v7] => ∃ (b23 : Nat) (b8 : Nat) (b9 : Nat), v2 = .map (some b23) ∧ v6 = ptr b8 0 ∧ v7 = ptr b9 0 ∧ L' = [w5, w4, w3, w] ∧ H' = [(b9, .cells #[.map none] 84 (0, 0)), (b8, .cells #[.map none] 84 (0, 0)), (b6, .cells #[.int .i64 0] 33 (0, 0))] ∧ (w5.heap.size ≤ b8 ∧ w4.heap.size ≤ b8 ∧ w3.heap.size ≤ b8 ∧ w.heap.size ≤ b8) ∧ (w5.heap.size ≤ b9 ∧ w4.heap.size ≤ b9 ∧ w3.heap.size ≤ b9 ∧ w.heap.size ≤ b9) | [some v2, some v5, none, none] => ∃ (b23 : Nat) (b26 : Nat), v2 = .map (some b23) ∧ v5 = .map (some b26) ∧ L' = [w5, w4, w3, w] ∧ H' = [(b6, .cells #[.int .i64 0] 33 (0, 0))] | [some v2, some v5, none, some v7] => ∃ (b23 : Nat) (b26 : Nat) (b9 : Nat), v2 = .map (some b23) ∧ v5 = .map (some b26) ∧ v7 = ptr b9 0 ∧ L' = [w5, w4, w3, w] ∧ H' = [(b9, .cells #[.map none] 84 (0, 0)), (b6, .cells #[.int .i64 0] 33 (0, 0))] ∧ (w5.heap.size ≤ b9 ∧ w4.heap.size ≤ b9 ∧ w3.heap.size ≤ b9 ∧ w.heap.size ≤ b9) | [some v2, some v5, some v6, none] => ∃ (b23 : Nat) (b26 : Nat) (b8 : Nat), v2 = .map (some b23) ∧ v5 = .map (some b26) ∧ v6 = ptr b8 0 ∧ L' = [w5, w4, w3, w] ∧ H' = [(b8, .cells #[.map none] 84 (0, 0)), (b6, .cells #[.int .i64 0] 33 (0, 0))] ∧ (w5.heap.size ≤ b8 ∧ w4.heap.size ≤ b8 ∧ w3.heap.size ≤ b8 ∧ w.heap.size ≤ b8) | [some v2, some v5, some v6, some v7] => ∃ (b23 : Nat) (b26 : Nat) (b8 : Nat) (b9 : Nat), v2 = .map (some b23) ∧ v5 = .map (some b26) ∧ v6 = ptr b8 0 ∧ v7 = ptr b9 0 ∧ L' = [w5, w4, w3, w] ∧ H' = [(b9, .cells #[.map none] 84 (0, 0)), (b8, .cells #[.map none] 84 (0, 0)), (b6, .cells #[.int .i64 0] 33 (0, 0))] ∧ (w5.heap.size ≤ b8 ∧ w4.heap.size ≤ b8 ∧ w3.heap.size ≤ b8 ∧ w.heap.size ≤ b8) ∧ (w5.heap.size ≤ b9 ∧ w4.heap.size ≤ b9 ∧ w3.heap.size ≤ b9 ∧ w.heap.size ≤ b9) | _ => False) (by kernel_rfl) ⟨rfl, rfl⟩ (by kernel_rfl) (by kernel_rfl) (by kernel_rfl) (by kernel_rfl) (by kernel_rfl) (by kernel_rfl) rfl (qc (fun cv L' H' _ _ hP => X.val rfl rfl (fld_r Tryz.underlying24 rfl Tryz.sizeOf22 rfl) (fun _ _ => rfl)) (qc (fun cv L' H' hl hd hP => by obtain ⟨x2, x5, x6, x7, rfl⟩ := len4 hl; exact (match x2, x5, x6, x7, hd, hP with | none, none, none, none, hd, hP => (by obtain ⟨rfl, rfl⟩ := hP; exact X.val rfl rfl (ldR_r Tryz.isAgg22 rfl (.head _) hb5 hm5 (by first | (simp only [Off, book, List.cons_append, List.nil_append, List.set_cons_zero, List.set_cons_succ, List.eraseIdx_cons_zero, List.eraseIdx_cons_succ, ne_eq, and_true]; omega) | (simp [Off] <;> omega)) rfl) (fun _ _ => rfl)) | none, none, none, some v7, hd, hP => (by obtain ⟨b9, rfl, rfl, rfl, ha9⟩ := hP; exact X.val rfl rfl (ldR_r Tryz.isAgg22 rfl (.head _) hb5 hm5 (by first | (simp only [Off, book, List.cons_append, List.nil_append, List.set_cons_zero, List.set_cons_succ, List.eraseIdx_cons_zero, List.eraseIdx_cons_succ, ne_eq, and_true]; omega) | (simp [Off] <;> omega)) rfl) (fun _ _ => rfl)) | none, none, some v6, none, hd, hP => (by obtain ⟨b8, rfl, rfl, rfl, ha8⟩ := hP; exact X.val rfl rfl (ldR_r Tryz.isAgg22 rfl (.head _) hb5 hm5 (by first | (simp only [Off, book, List.cons_append, List.nil_append, List.set_cons_zero, List.set_cons_succ, List.eraseIdx_cons_zero, List.eraseIdx_cons_succ, ne_eq, and_true]; omega) | (simp [Off] <;> omega)) rfl) (fun _ _ => rfl)) | none, none, some v6, some v7, hd, hP => (by obtain ⟨b8, b9, rfl, rfl, rfl, rfl, ha8, ha9⟩ := hP; exact X.val rfl rfl (ldR_r Tryz.isAgg22 rfl (.head _) hb5 hm5 (by first | (simp only [Off, book, List.cons_append, List.nil_append, List.set_cons_zero, List.set_cons_succ, List.eraseIdx_cons_zero, List.eraseIdx_cons_succ, ne_eq, and_true]; omega) | (simp [Off] <;> omega)) rfl) (fun _ _ => rfl)) | none, some v5, none, none, hd, hP => hP.elim | none, some v5, none, some v7, hd, hP => hP.elim | none, some v5, some v6, none, hd, hP => hP.elim | none, some v5, some v6, some v7, hd, hP => hP.elim | some v2, none, none, none, hd, hP => (by obtain ⟨b23, rfl, rfl, rfl⟩ := hP; exact X.val rfl rfl (ldR_r Tryz.isAgg22 rfl (.head _) hb5 hm5 (by first | (simp only [Off, book, List.cons_append, List.nil_append, List.set_cons_zero, List.set_cons_succ, List.eraseIdx_cons_zero, List.eraseIdx_cons_succ, ne_eq, and_true]; omega) | (simp [Off] <;> omega)) rfl) (fun _ _ => rfl)) | some v2, none, none, some v7, hd, hP => (by obtain ⟨b23, b9, rfl, rfl, rfl, rfl, ha9⟩ := hP; exact X.val rfl rfl (ldR_r Tryz.isAgg22 rfl (.head _) hb5 hm5 (by first | (simp only [Off, book, List.cons_append, List.nil_append, List.set_cons_zero, List.set_cons_succ, List.eraseIdx_cons_zero, List.eraseIdx_cons_succ, ne_eq, and_true]; omega) | (simp [Off] <;> omega)) rfl) (fun _ _ => rfl)) | some v2, none, some v6, none, hd, hP => (by obtain ⟨b23, b8, rfl, rfl, rfl, rfl, ha8⟩ := hP; exact X.val rfl rfl (ldR_r Tryz.isAgg22 rfl (.head _) hb5 hm5 (by first | (simp only [Off, book, List.cons_append, List.nil_append, List.set_cons_zero, List.set_cons_succ, List.eraseIdx_cons_zero, List.eraseIdx_cons_succ, ne_eq, and_true]; omega) | (simp [Off] <;> omega)) rfl) (fun _ _ => rfl)) | some v2, none, some v6, some v7, hd, hP => (by obtain ⟨b23, b8, b9, rfl, rfl, rfl, rfl, rfl, ha8, ha9⟩ := hP; exact X.val rfl rfl (ldR_r Tryz.isAgg22 rfl (.head _) hb5 hm5 (by first | (simp only [Off, book, List.cons_append, List.nil_append, List.set_cons_zero, List.set_cons_succ, List.eraseIdx_cons_zero, List.eraseIdx_cons_succ, ne_eq, and_true]; omega) | (simp [Off] <;> omega)) rfl) (fun _ _ => rfl)) | some v2, some v5, none, none, hd, hP => (by obtain ⟨b23, b26, rfl, rfl, rfl, rfl⟩ := hP; exact X.val rfl rfl (ldR_r Tryz.isAgg22 rfl (.head _) hb5 hm5 (by first | (simp only [Off, book, List.cons_append, List.nil_append, List.set_cons_zero, List.set_cons_succ, List.eraseIdx_cons_zero, List.eraseIdx_cons_succ, ne_eq, and_true]; omega) | (simp [Off] <;> omega)) rfl) (fun _ _ => rfl)) | some v2, some v5, none, some v7, hd, hP => (by obtain ⟨b23, b26, b9, rfl, rfl, rfl, rfl, rfl, ha9⟩ := hP; exact X.val rfl rfl (ldR_r Tryz.isAgg22 rfl (.head _) hb5 hm5 (by first | (simp only [Off, book, List.cons_append, List.nil_append, List.set_cons_zero, List.set_cons_succ, List.eraseIdx_cons_zero, List.eraseIdx_cons_succ, ne_eq, and_true]; omega) | (simp [Off] <;> omega)) rfl) (fun _ _ => rfl)) | some v2, some v5, some v6, none, hd, hP => (by obtain ⟨b23, b26, b8, rfl, rfl, rfl, rfl, rfl, ha8⟩ := hP; exact X.val rfl rfl (ldR_r Tryz.isAgg22 rfl (.head _) hb5 hm5 (by first | (simp only [Off, book, List.cons_append, List.nil_append, List.set_cons_zero, List.set_cons_succ, List.eraseIdx_cons_zero, List.eraseIdx_cons_succ, ne_eq, and_true]; omega) | (simp [Off] <;> omega)) rfl) (fun _ _ => rfl)) | some v2, some v5, some v6, some v7, hd, hP => (by obtain ⟨b23, b26, b8, b9, rfl, rfl, rfl, rfl, rfl, rfl, ha8, ha9⟩ := hP; exact X.val rfl rfl (ldR_r Tryz.isAgg22 rfl (.head _) hb5 hm5 (by first | (simp only [Off, book, List.cons_append, List.nil_append, List.set_cons_zero, List.set_cons_succ, List.eraseIdx_cons_zero, List.eraseIdx_cons_succ, ne_eq, and_true]; omega) | (simp [Off] <;> omega)) rfl) (fun _ _ => rfl)))) (qk (qc (fun cv L' H' _ _ hP => X.val rfl rfl (fld_r Tryz.underlying24 rfl Tryz.sizeOf22 rfl) (fun _ _ => rfl)) (qc (fun cv L' H' hl hd hP => by obtain ⟨x2, x5, x6, x7, rfl⟩ := len4 hl; exact (match x2, x5, x6, x7, hd, hP with | none, none, none, none, hd, hP => (by obtain ⟨rfl, rfl⟩ := hP; exact X.val rfl rfl (ldR_r Tryz.isAgg22 rfl (.head _) hb5 hm5 (by first | (simp only [Off, book, List.cons_append, List.nil_append, List.set_cons_zero, List.set_cons_succ, List.eraseIdx_cons_zero, List.eraseIdx_cons_succ, ne_eq, and_true]; omega) | (simp [Off] <;> omega)) rfl) (fun _ _ => rfl)) | none, none, none, some v7, hd, hP => (by obtain ⟨b9, rfl, rfl, rfl, ha9⟩ := hP; exact X.val rfl rfl (ldR_r Tryz.isAgg22 rfl (.head _) hb5 hm5 (by first | (simp only [Off, book, List.cons_append, List.nil_append, List.set_cons_zero, List.set_cons_succ, List.eraseIdx_cons_zero, List.eraseIdx_cons_succ, ne_eq, and_true]; omega) | (simp [Off] <;> omega)) rfl) (fun _ _ => rfl)) | none, none, some v6, none, hd, hP => (by obtain ⟨b8, rfl, rfl, rfl, ha8⟩ := hP; exact X.val rfl rfl (ldR_r Tryz.isAgg22 rfl (.head _) hb5 hm5 (by first | (simp only [Off, book, List.cons_append, List.nil_append, List.set_cons_zero, List.set_cons_succ, List.eraseIdx_cons_zero, List.eraseIdx_cons_succ, ne_eq, and_true]; omega) | (simp [Off] <;> omega)) rfl) (fun _ _ => rfl)) | none, none, some v6, some v7, hd, hP => (by obtain ⟨b8, b9, rfl, rfl, rfl, rfl, ha8, ha9⟩ := hP; exact X.val rfl rfl (ldR_r Tryz.isAgg22 rfl (.head _) hb5 hm5 (by first | (simp only [Off, book, List.cons_append, List.nil_append, List.set_cons_zero, List.set_cons_succ, List.eraseIdx_cons_zero, List.eraseIdx_cons_succ, ne_eq, and_true]; omega) | (simp [Off] <;> omega)) rfl) (fun _ _ => rfl)) | none, some v5, none, none, hd, hP => hP.elim | none, some v5, none, some v7, hd, hP => hP.elim | none, some v5, some v6, none, hd, hP => hP.elim | none, some v5, some v6, some v7, hd, hP => hP.elim | some v2, none, none, none, hd, hP => (by obtain ⟨b23, rfl, rfl, rfl⟩ := hP; exact X.val rfl rfl (ldR_r Tryz.isAgg22 rfl (.head _) hb5 hm5 (by first | (simp only [Off, book, List.cons_append, List.nil_append, List.set_cons_zero, List.set_cons_succ, List.eraseIdx_cons_zero, List.eraseIdx_cons_succ, ne_eq, and_true]; omega) | (simp [Off] <;> omega)) rfl) (fun _ _ => rfl)) | some v2, none, none, some v7, hd, hP => (by obtain ⟨b23, b9, rfl, rfl, rfl, rfl, ha9⟩ := hP; exact X.val rfl rfl (ldR_r Tryz.isAgg22 rfl (.head _) hb5 hm5 (by first | (simp only [Off, book, List.cons_append, List.nil_append, List.set_cons_zero, List.set_cons_succ, List.eraseIdx_cons_zero, List.eraseIdx_cons_succ, ne_eq, and_true]; omega) | (simp [Off] <;> omega)) rfl) (fun _ _ => rfl)) | some v2, none, some v6, none, hd, hP => (by obtain ⟨b23, b8, rfl, rfl, rfl, rfl, ha8⟩ := hP; exact X.val rfl rfl (ldR_r Tryz.isAgg22 rfl (.head _) hb5 hm5 (by first | (simp only [Off, book, List.cons_append, List.nil_append, List.set_cons_zero, List.set_cons_succ, List.eraseIdx_cons_zero, List.eraseIdx_cons_succ, ne_eq, and_true]; omega) | (simp [Off] <;> omega)) rfl) (fun _ _ => rfl)) | some v2, none, some v6, some v7, hd, hP => (by obtain ⟨b23, b8, b9, rfl, rfl, rfl, rfl, rfl, ha8, ha9⟩ := hP; exact X.val rfl rfl (ldR_r Tryz.isAgg22 rfl (.head _) hb5 hm5 (by first | (simp only [Off, book, List.cons_append, List.nil_append, List.set_cons_zero, List.set_cons_succ, List.eraseIdx_cons_zero, List.eraseIdx_cons_succ, ne_eq, and_true]; omega) | (simp [Off] <;> omega)) rfl) (fun _ _ => rfl)) | some v2, some v5, none, none, hd, hP => (by obtain ⟨b23, b26, rfl, rfl, rfl, rfl⟩ := hP; exact X.val rfl rfl (ldR_r Tryz.isAgg22 rfl (.head _) hb5 hm5 (by first | (simp only [Off, book, List.cons_append, List.nil_append, List.set_cons_zero, List.set_cons_succ, List.eraseIdx_cons_zero, List.eraseIdx_cons_succ, ne_eq, and_true]; omega) | (simp [Off] <;> omega)) rfl) (fun _ _ => rfl)) | some v2, some v5, none, some v7, hd, hP => (by obtain ⟨b23, b26, b9, rfl, rfl, rfl, rfl, rfl, ha9⟩ := hP; exact X.val rfl rfl (ldR_r Tryz.isAgg22 rfl (.head _) hb5 hm5 (by first | (simp only [Off, book, List.cons_append, List.nil_append, List.set_cons_zero, List.set_cons_succ, List.eraseIdx_cons_zero, List.eraseIdx_cons_succ, ne_eq, and_true]; omega) | (simp [Off] <;> omega)) rfl) (fun _ _ => rfl)) | some v2, some v5, some v6, none, hd, hP => (by obtain ⟨b23, b26, b8, rfl, rfl, rfl, rfl, rfl, ha8⟩ := hP; exact X.val rfl rfl (ldR_r Tryz.isAgg22 rfl (.head _) hb5 hm5 (by first | (simp only [Off, book, List.cons_append, List.nil_append, List.set_cons_zero, List.set_cons_succ, List.eraseIdx_cons_zero, List.eraseIdx_cons_succ, ne_eq, and_true]; omega) | (simp [Off] <;> omega)) rfl) (fun _ _ => rfl)) | some v2, some v5, some v6, some v7, hd, hP => (by obtain ⟨b23, b26, b8, b9, rfl, rfl, rfl, rfl, rfl, rfl, ha8, ha9⟩ := hP; exact X.val rfl rfl (ldR_r Tryz.isAgg22 rfl (.head _) hb5 hm5 (by first | (simp only [Off, book, List.cons_append, List.nil_append, List.set_cons_zero, List.set_cons_succ, List.eraseIdx_cons_zero, List.eraseIdx_cons_succ, ne_eq, and_true]; omega) | (simp [Off] <;> omega)) rfl) (fun _ _ => rfl)))) (qk (qk (qk (qn))))))))) ?_ ?_
  · refine nc rfl rfl rfl rfl ?_ ?_
    · intro cv L' H' hl hr hP F Q' hk
      obtain ⟨x2, x5, x6, x7, rfl⟩ := len4 hl
      rcases x2 with _ | v2 <;> rcases x5 with _ | v5 <;> rcases x6 with _ | v6 <;> rcases x7 with _ | v7
      · obtain ⟨rfl, rfl⟩ := hP
        refine callX (α := Nat) (v := fun b : Nat => .map (some b)) (Φ := fun (_ : World) (_ : Nat) (_ : World) => True) Tryz.call32 rfl rfl rfl (fun W hS => retX_any (policy_setOf p.left hf.left N p.la p.lc W (Nat.le_trans hN (hS.links _ (.tail _ (.tail _ (.tail _ (.head _))))).size) (hp.left.up (Nat.le_refl _) (hS.same (.tail _ (.tail _ (.tail _ (.head _)))) hN (fun _ _ h => h) (by simp only [Over, and_true]; omega))))) ?_
        rintro _ b23 wq _ _ _
        exact OJ.done (PJ.fewL (fun v hv => .tail _ hv) (hk _ _ _ ⟨b23, rfl, rfl, rfl⟩))
      · obtain ⟨b9, rfl, rfl, rfl, ha9⟩ := hP
        refine callX (α := Nat) (v := fun b : Nat => .map (some b)) (Φ := fun (_ : World) (_ : Nat) (_ : World) => True) Tryz.call32 rfl rfl rfl (fun W hS => retX_any (policy_setOf p.left hf.left N p.la p.lc W (Nat.le_trans hN (hS.links _ (.tail _ (.tail _ (.tail _ (.head _))))).size) (hp.left.up (Nat.le_refl _) (hS.same (.tail _ (.tail _ (.tail _ (.head _)))) hN (fun _ _ h => h) (by simp only [Over, and_true]; omega))))) ?_
        rintro _ b23 wq _ _ _
        exact OJ.done (PJ.fewL (fun v hv => .tail _ hv) (hk _ _ _ ⟨b23, b9, rfl, rfl, rfl, rfl, ha9⟩))
      · obtain ⟨b8, rfl, rfl, rfl, ha8⟩ := hP
        refine callX (α := Nat) (v := fun b : Nat => .map (some b)) (Φ := fun (_ : World) (_ : Nat) (_ : World) => True) Tryz.call32 rfl rfl rfl (fun W hS => retX_any (policy_setOf p.left hf.left N p.la p.lc W (Nat.le_trans hN (hS.links _ (.tail _ (.tail _ (.tail _ (.head _))))).size) (hp.left.up (Nat.le_refl _) (hS.same (.tail _ (.tail _ (.tail _ (.head _)))) hN (fun _ _ h => h) (by simp only [Over, and_true]; omega))))) ?_
        rintro _ b23 wq _ _ _
        exact OJ.done (PJ.fewL (fun v hv => .tail _ hv) (hk _ _ _ ⟨b23, b8, rfl, rfl, rfl, rfl, ha8⟩))
      · obtain ⟨b8, b9, rfl, rfl, rfl, rfl, ha8, ha9⟩ := hP
        refine callX (α := Nat) (v := fun b : Nat => .map (some b)) (Φ := fun (_ : World) (_ : Nat) (_ : World) => True) Tryz.call32 rfl rfl rfl (fun W hS => retX_any (policy_setOf p.left hf.left N p.la p.lc W (Nat.le_trans hN (hS.links _ (.tail _ (.tail _ (.tail _ (.head _))))).size) (hp.left.up (Nat.le_refl _) (hS.same (.tail _ (.tail _ (.tail _ (.head _)))) hN (fun _ _ h => h) (by simp only [Over, and_true]; omega))))) ?_
        rintro _ b23 wq _ _ _
        exact OJ.done (PJ.fewL (fun v hv => .tail _ hv) (hk _ _ _ ⟨b23, b8, b9, rfl, rfl, rfl, rfl, rfl, ha8, ha9⟩))
      · exact hP.elim
      · exact hP.elim
      · exact hP.elim
      · exact hP.elim
      · exact absurd (show false = true from hr) (by decide)
      · exact absurd (show false = true from hr) (by decide)
      · exact absurd (show false = true from hr) (by decide)
      · exact absurd (show false = true from hr) (by decide)
      · exact absurd (show false = true from hr) (by decide)
      · exact absurd (show false = true from hr) (by decide)
      · exact absurd (show false = true from hr) (by decide)
      · exact absurd (show false = true from hr) (by decide)
    refine nc rfl rfl rfl rfl ?_ ?_
    · intro cv L' H' hl hr hP F Q' hk
      obtain ⟨x2, x5, x6, x7, rfl⟩ := len4 hl
      rcases x2 with _ | v2 <;> rcases x5 with _ | v5 <;> rcases x6 with _ | v6 <;> rcases x7 with _ | v7
      · exact absurd (show false = true from hr) (by decide)
      · exact absurd (show false = true from hr) (by decide)
      · exact absurd (show false = true from hr) (by decide)
      · exact absurd (show false = true from hr) (by decide)
      · exact hP.elim
      · exact hP.elim
      · exact hP.elim
      · exact hP.elim
      · obtain ⟨b23, rfl, rfl, rfl⟩ := hP
        refine callX (α := Nat) (v := fun b : Nat => .map (some b)) (Φ := fun (_ : World) (_ : Nat) (_ : World) => True) Tryz.call32 rfl rfl rfl (fun W hS => retX_any (policy_setOf p.right hf.right N p.ra p.rc W (Nat.le_trans hN (hS.links _ (.tail _ (.tail _ (.tail _ (.head _))))).size) (hp.right.up (Nat.le_refl _) (hS.same (.tail _ (.tail _ (.tail _ (.head _)))) hN (fun _ _ h => h) (by simp only [Over, and_true]; omega))))) ?_
        rintro _ b26 wq _ _ _
        exact OJ.done (PJ.fewL (fun v hv => .tail _ hv) (hk _ _ _ ⟨b23, b26, rfl, rfl, rfl, rfl⟩))
      · obtain ⟨b23, b9, rfl, rfl, rfl, rfl, ha9⟩ := hP
        refine callX (α := Nat) (v := fun b : Nat => .map (some b)) (Φ := fun (_ : World) (_ : Nat) (_ : World) => True) Tryz.call32 rfl rfl rfl (fun W hS => retX_any (policy_setOf p.right hf.right N p.ra p.rc W (Nat.le_trans hN (hS.links _ (.tail _ (.tail _ (.tail _ (.head _))))).size) (hp.right.up (Nat.le_refl _) (hS.same (.tail _ (.tail _ (.tail _ (.head _)))) hN (fun _ _ h => h) (by simp only [Over, and_true]; omega))))) ?_
        rintro _ b26 wq _ _ _
        exact OJ.done (PJ.fewL (fun v hv => .tail _ hv) (hk _ _ _ ⟨b23, b26, b9, rfl, rfl, rfl, rfl, rfl, ha9⟩))
      · obtain ⟨b23, b8, rfl, rfl, rfl, rfl, ha8⟩ := hP
        refine callX (α := Nat) (v := fun b : Nat => .map (some b)) (Φ := fun (_ : World) (_ : Nat) (_ : World) => True) Tryz.call32 rfl rfl rfl (fun W hS => retX_any (policy_setOf p.right hf.right N p.ra p.rc W (Nat.le_trans hN (hS.links _ (.tail _ (.tail _ (.tail _ (.head _))))).size) (hp.right.up (Nat.le_refl _) (hS.same (.tail _ (.tail _ (.tail _ (.head _)))) hN (fun _ _ h => h) (by simp only [Over, and_true]; omega))))) ?_
        rintro _ b26 wq _ _ _
        exact OJ.done (PJ.fewL (fun v hv => .tail _ hv) (hk _ _ _ ⟨b23, b26, b8, rfl, rfl, rfl, rfl, rfl, ha8⟩))
      · obtain ⟨b23, b8, b9, rfl, rfl, rfl, rfl, rfl, ha8, ha9⟩ := hP
        refine callX (α := Nat) (v := fun b : Nat => .map (some b)) (Φ := fun (_ : World) (_ : Nat) (_ : World) => True) Tryz.call32 rfl rfl rfl (fun W hS => retX_any (policy_setOf p.right hf.right N p.ra p.rc W (Nat.le_trans hN (hS.links _ (.tail _ (.tail _ (.tail _ (.head _))))).size) (hp.right.up (Nat.le_refl _) (hS.same (.tail _ (.tail _ (.tail _ (.head _)))) hN (fun _ _ h => h) (by simp only [Over, and_true]; omega))))) ?_
        rintro _ b26 wq _ _ _
        exact OJ.done (PJ.fewL (fun v hv => .tail _ hv) (hk _ _ _ ⟨b23, b26, b8, b9, rfl, rfl, rfl, rfl, rfl, rfl, ha8, ha9⟩))
      · exact absurd (show false = true from hr) (by decide)
      · exact absurd (show false = true from hr) (by decide)
      · exact absurd (show false = true from hr) (by decide)
      · exact absurd (show false = true from hr) (by decide)
    refine nc rfl rfl rfl rfl ?_ ?_
    · intro cv L' H' hl hr hP F Q' hk
      obtain ⟨x2, x5, x6, x7, rfl⟩ := len4 hl
      rcases x2 with _ | v2 <;> rcases x5 with _ | v5 <;> rcases x6 with _ | v6 <;> rcases x7 with _ | v7
      · obtain ⟨rfl, rfl⟩ := hP
        refine allW Tryz.zeroValue84 rfl rfl ?_
        intro b8 ha ho
        exact OJ.done (hk _ _ _ ⟨b8, rfl, rfl, rfl, ⟨ha.1, ha.2.1, ha.2.2.1, ha.2.2.2.1⟩⟩)
      · obtain ⟨b9, rfl, rfl, rfl, ha9⟩ := hP
        refine allW Tryz.zeroValue84 rfl rfl ?_
        intro b8 ha ho
        exact OJ.done (PJ.swp (hk _ _ _ ⟨b8, b9, rfl, rfl, rfl, rfl, ⟨ha.1, ha.2.1, ha.2.2.1, ha.2.2.2.1⟩, ha9⟩))
      · exact absurd (show false = true from hr) (by decide)
      · exact absurd (show false = true from hr) (by decide)
      · exact hP.elim
      · exact hP.elim
      · exact hP.elim
      · exact hP.elim
      · obtain ⟨b23, rfl, rfl, rfl⟩ := hP
        refine allW Tryz.zeroValue84 rfl rfl ?_
        intro b8 ha ho
        exact OJ.done (hk _ _ _ ⟨b23, b8, rfl, rfl, rfl, rfl, ⟨ha.1, ha.2.1, ha.2.2.1, ha.2.2.2.1⟩⟩)
      · obtain ⟨b23, b9, rfl, rfl, rfl, rfl, ha9⟩ := hP
        refine allW Tryz.zeroValue84 rfl rfl ?_
        intro b8 ha ho
        exact OJ.done (PJ.swp (hk _ _ _ ⟨b23, b8, b9, rfl, rfl, rfl, rfl, rfl, ⟨ha.1, ha.2.1, ha.2.2.1, ha.2.2.2.1⟩, ha9⟩))
      · exact absurd (show false = true from hr) (by decide)
      · exact absurd (show false = true from hr) (by decide)
      · obtain ⟨b23, b26, rfl, rfl, rfl, rfl⟩ := hP
        refine allW Tryz.zeroValue84 rfl rfl ?_
        intro b8 ha ho
        exact OJ.done (hk _ _ _ ⟨b23, b26, b8, rfl, rfl, rfl, rfl, rfl, ⟨ha.1, ha.2.1, ha.2.2.1, ha.2.2.2.1⟩⟩)
      · obtain ⟨b23, b26, b9, rfl, rfl, rfl, rfl, rfl, ha9⟩ := hP
        refine allW Tryz.zeroValue84 rfl rfl ?_
        intro b8 ha ho
        exact OJ.done (PJ.swp (hk _ _ _ ⟨b23, b26, b8, b9, rfl, rfl, rfl, rfl, rfl, rfl, ⟨ha.1, ha.2.1, ha.2.2.1, ha.2.2.2.1⟩, ha9⟩))
      · exact absurd (show false = true from hr) (by decide)
      · exact absurd (show false = true from hr) (by decide)
    refine nc rfl rfl rfl rfl ?_ ?_
    · intro cv L' H' hl hr hP F Q' hk
      obtain ⟨x2, x5, x6, x7, rfl⟩ := len4 hl
      rcases x2 with _ | v2 <;> rcases x5 with _ | v5 <;> rcases x6 with _ | v6 <;> rcases x7 with _ | v7
      · obtain ⟨rfl, rfl⟩ := hP
        refine allW Tryz.zeroValue84 rfl rfl ?_
        intro b9 ha ho
        exact OJ.done (hk _ _ _ ⟨b9, rfl, rfl, rfl, ⟨ha.1, ha.2.1, ha.2.2.1, ha.2.2.2.1⟩⟩)
      · exact absurd (show false = true from hr) (by decide)
      · obtain ⟨b8, rfl, rfl, rfl, ha8⟩ := hP
        refine allW Tryz.zeroValue84 rfl rfl ?_
        intro b9 ha ho
        exact OJ.done (hk _ _ _ ⟨b8, b9, rfl, rfl, rfl, rfl, ha8, ⟨ha.1, ha.2.1, ha.2.2.1, ha.2.2.2.1⟩⟩)
      · exact absurd (show false = true from hr) (by decide)
      · exact hP.elim
      · exact hP.elim
      · exact hP.elim
      · exact hP.elim
      · obtain ⟨b23, rfl, rfl, rfl⟩ := hP
        refine allW Tryz.zeroValue84 rfl rfl ?_
        intro b9 ha ho
        exact OJ.done (hk _ _ _ ⟨b23, b9, rfl, rfl, rfl, rfl, ⟨ha.1, ha.2.1, ha.2.2.1, ha.2.2.2.1⟩⟩)
      · exact absurd (show false = true from hr) (by decide)
      · obtain ⟨b23, b8, rfl, rfl, rfl, rfl, ha8⟩ := hP
        refine allW Tryz.zeroValue84 rfl rfl ?_
        intro b9 ha ho
        exact OJ.done (hk _ _ _ ⟨b23, b8, b9, rfl, rfl, rfl, rfl, rfl, ha8, ⟨ha.1, ha.2.1, ha.2.2.1, ha.2.2.2.1⟩⟩)
      · exact absurd (show false = true from hr) (by decide)
      · obtain ⟨b23, b26, rfl, rfl, rfl, rfl⟩ := hP
        refine allW Tryz.zeroValue84 rfl rfl ?_
        intro b9 ha ho
        exact OJ.done (hk _ _ _ ⟨b23, b26, b9, rfl, rfl, rfl, rfl, rfl, ⟨ha.1, ha.2.1, ha.2.2.1, ha.2.2.2.1⟩⟩)
      · exact absurd (show false = true from hr) (by decide)
      · obtain ⟨b23, b26, b8, rfl, rfl, rfl, rfl, rfl, ha8⟩ := hP
        refine allW Tryz.zeroValue84 rfl rfl ?_
        intro b9 ha ho
        exact OJ.done (hk _ _ _ ⟨b23, b26, b8, b9, rfl, rfl, rfl, rfl, rfl, rfl, ha8, ⟨ha.1, ha.2.1, ha.2.2.1, ha.2.2.2.1⟩⟩)
      · exact absurd (show false = true from hr) (by decide)
    exact nn
  · intro cv L' H' hl hr hP
    obtain ⟨x2, x5, x6, x7, rfl⟩ := len4 hl
    rcases x2 with _ | v2 <;> rcases x5 with _ | v5 <;> rcases x6 with _ | v6 <;> rcases x7 with _ | v7
    · exact absurd (show false = true from hr) (by decide)
    · exact absurd (show false = true from hr) (by decide)
    · exact absurd (show false = true from hr) (by decide)
    · exact absurd (show false = true from hr) (by decide)
    · exact absurd (show false = true from hr) (by decide)
    · exact absurd (show false = true from hr) (by decide)
    · exact absurd (show false = true from hr) (by decide)
    · exact absurd (show false = true from hr) (by decide)
    · exact absurd (show false = true from hr) (by decide)
    · exact absurd (show false = true from hr) (by decide)
    · exact absurd (show false = true from hr) (by decide)
    · exact absurd (show false = true from hr) (by decide)
    · exact absurd (show false = true from hr) (by decide)
    · exact absurd (show false = true from hr) (by decide)
    · exact absurd (show false = true from hr) (by decide)
    obtain ⟨b23, b26, b8, b9, rfl, rfl, rfl, rfl, rfl, rfl, ha8, ha9⟩ := hP
    refine stWw (i := 1) rfl Tryz.sizeOf84 rfl rfl rfl rfl rfl rfl ?_
    refine stWw (i := 0) rfl Tryz.sizeOf84 rfl rfl rfl rfl rfl rfl ?_
    refine OJ.done ?_
    refine PJ.next ?_
    refine CJ.seq ?_
    refine CJ.seq ?_
    refine CJ.region ?_
    refine rv rfl rfl rfl (RV.re (v' := .agg nilsR) (ldRAw_r Tryz.isAgg74 Tryz.sizeOf74 rfl (.tail _ (.tail _ (.head _))) hb3 hm3 (by first | (simp only [Off, book, List.cons_append, List.nil_append, List.set_cons_zero, List.set_cons_succ, List.eraseIdx_cons_zero, List.eraseIdx_cons_succ, ne_eq, and_true]; omega) | (simp [Off] <;> omega)) rfl) (rfl)) ?_
    refine rv rfl rfl rfl (RV.re (v' := .agg (poC p)) (ldRAw_r Tryz.isAgg24 Tryz.sizeOf24 rfl (.head _) hb5 hm5 (by first | (simp only [Off, book, List.cons_append, List.nil_append, List.set_cons_zero, List.set_cons_succ, List.eraseIdx_cons_zero, List.eraseIdx_cons_succ, ne_eq, and_true]; omega) | (simp [Off] <;> omega)) rfl) (rfl)) ?_
    refine callX (α := Nat × Nat) (v := fun b : Nat × Nat => .func (.func 98) #[] #[ptr b.1 0, ptr b.2 0]) (Φ := fun (W : World) (b : Nat × Nat) (w1 : World) => W.heap.size ≤ b.1 ∧ w1.heap[b.1]? = some (.cells nilsR 74 (0, 0))) Tryz.call50 rfl rfl rfl (fun W hS => policy_of p W) ?_
    rintro Wd ⟨bd, bf⟩ wd hSd hBd ⟨hbd1, hbd2⟩
    simp only at hbd1 hbd2
    have hUd := hSd.under
    simp only [Under, List.set_cons_zero, List.set_cons_succ] at hUd
    have hAd := hSd.sizes
    simp only [Above] at hAd
    have hzd := hBd.size
    refine OJ.done ?_
    refine PJ.next ?_
    refine CJ.block ?_
    refine CJ.range (f := 98) (cap := [ptr bd 0, ptr bf 0]) (α := Unit) (enc := (fun _ : Unit => [.bool true])) (xs := []) (MI := fun _ => False) (RO := fun k => k = bd) rfl Tryz.call98 (fun W W2 hS hB => of1_iter bd bf W2 ((hS.step hB).old (.head _) hbd2 (fun h => h) (by simp only [Off, List.set_cons_zero, List.set_cons_succ, ne_eq, and_true]; omega))) (fun _ _ _ hk => hk.elim) (fun W hS k hk => by subst hk; have := hS.sizes; simp only [Above] at this; have := (Array.getElem?_eq_some_iff.1 hbd2).1; refine ⟨by omega, by simp only [List.set_cons_zero, List.set_cons_succ, List.map_cons, List.map_nil, List.mem_cons, List.not_mem_nil, or_false, not_or]; omega, fun h => h⟩) (fun _ => rfl) (fun _ Hc => Hc = [(b9, .cells #[.map (some b26)] 84 (0, 0)), (b8, .cells #[.map (some b23)] 84 (0, 0)), (b6, .cells #[.int .i64 0] 33 (0, 0))]) (fun _ _ => False) rfl (by rintro pre Hc rfl; rfl) (fun _ _ hk => hk.elim) (by decide) ?_ ?_ ?_
    · exact fun pre x _ _ _ _ _ _ _ hp => absurd hp.length_le (by simp)
    · rintro l Dk rec Hc haD hlD rfl
      simp only [Above] at haD
      refine PJ.norBlock ?_
      refine PJ.next ?_
      refine CJ.seq ?_
      refine CJ.region ?_
      refine stWw (i := 2) rfl Tryz.sizeOf33 rfl rfl rfl rfl rfl rfl ?_
      refine OJ.done ?_
      refine PJ.next ?_
      refine CJ.ret ?_
      refine retMC (b := b6) (.inl rfl) Tryz.results21 Tryz.isAgg33 rfl (by simp [book]) (cs := #[.int .i64 0]) (ct := 33) (fr := (0, 0)) (by exact (.tail _ (.tail _ (.head _)))) (by omega) rfl (fun W H' hS hmap => ⟨?_, ?_⟩)
      · exact congrArg Ending.returned rfl
      · refine (hS.links w (.tail _ (.tail _ (.tail _ (.tail _ (.head _)))))).below fun k hk hx => ?_
        rw [hmap] at hx; simp [Gh.no, book] at hx; omega
    · exact fun _ _ _ _ _ _ _ hk => hk.elim
/-- slices.IndexFunc[[]chartroom/api.Folder,chartroom/api.Folder] -/
theorem IndexFunc_Folder0 (fv : Value) (w : World) :
    Calls Tryz.prog 102 #[.slice none 0 0, fv] w (Ret w (.int .i64 (-1))) := by
  
  refine enter (vs := [_, _]) Tryz.func102 rfl Tryz.ntmps102 rfl ?_
  refine CJ.seq ?_
  refine CJ.region ?_
  refine rv rfl rfl rfl (asg_r rfl) ?_
  refine OJ.done ?_
  refine PJ.next ?_
  refine CJ.seq ?_
  refine CJ.seq ?_
  refine CJ.region ?_
  refine rv rfl rfl rfl (mv_r rfl) ?_
  refine rv rfl rfl rfl (lenS_r Tryz.underlying65 rfl) ?_
  refine rv rfl rfl rfl (mv_r rfl) ?_
  refine OJ.done ?_
  refine PJ.next ?_
  refine CJ.block ?_
  refine CJ.loop (α := Nat) (fun j => [(7, .int .i64 0), (8, .int .i64 0)]) (fun j => []) (fun j => [w]) (fun j => Gh.no) (fun j => True) (fun j => 0) 0 True.intro ⟨rfl, rfl, trivial⟩ rfl rfl (by simp) ?_
  rintro j _
  refine CJ.seq ?_
  refine CJ.region ?_
  refine rv rfl rfl rfl (RV.re (v' := .bool false) (lss_r rfl rfl) (congrArg Value.bool (decide_eq_false (by omega)))) ?_
  refine OJ.done ?_
  refine PJ.next ?_
  refine CJ.seq ?_
  refine CJ.condF rfl ?_
  refine CJ.exit ?_
  refine PJ.exThen ?_
  refine PJ.exThen ?_
  refine PJ.exHit ?_
  refine PJ.next ?_
  refine CJ.seq ?_
  refine CJ.region ?_
  refine rv rfl rfl rfl (asg_r rfl) ?_
  refine OJ.done ?_
  refine PJ.next ?_
  refine CJ.ret ?_
  refine retV Tryz.results102 rfl (.head _) ?_
  rfl
/-- chartroom/policy.ages -/
theorem policy_ages0 (n : Int) (w : World) :
    Calls Tryz.prog 54 #[.agg nilsR, .int .i64 n] w (Ret w (.map none)) := by
  
  refine enter (vs := [_, _]) Tryz.func54 rfl Tryz.ntmps54 rfl ?_
  refine CJ.seq ?_
  refine CJ.region ?_
  refine boxR rfl rfl rfl ?_
  intro b2 w2 hb2 ha2 ho2 hm2 hz2
  simp only [Above] at ha2
  try simp only [Off, book, List.cons_append, List.nil_append, List.set_cons_zero, List.set_cons_succ, ne_eq] at ho2
  refine boxR rfl rfl rfl ?_
  intro b3 w3 hb3 ha3 ho3 hm3 hz3
  simp only [Above] at ha3
  try simp only [Off, book, List.cons_append, List.nil_append, List.set_cons_zero, List.set_cons_succ, ne_eq] at ho3
  refine rv rfl rfl rfl (asg_r rfl) ?_
  refine OJ.done ?_
  refine PJ.next ?_
  refine CJ.seq ?_
  refine CJ.region ?_
  refine rv rfl rfl rfl (fld_r Tryz.underlying74 rfl Tryz.sizeOf65 rfl) ?_
  refine rv rfl rfl rfl (RV.re (v' := .slice none 0 0) (ldR_r Tryz.isAgg65 rfl (.tail _ (.head _)) hb2 hm2 trivial rfl) (rfl)) ?_
  refine rv rfl rfl rfl (mkF_r rfl) ?_
  refine call Tryz.call102 rfl rfl rfl (fun W hS => IndexFunc_Folder0 _ W) ?_
  refine rv rfl rfl rfl (asg_r rfl) ?_
  refine OJ.done ?_
  refine PJ.next ?_
  refine CJ.seq ?_
  refine CJ.seq ?_
  refine CJ.region ?_
  refine rv rfl rfl rfl (mv_r rfl) ?_
  refine rv rfl rfl rfl (RV.re (v' := .bool true) (lss_r rfl rfl) (congrArg Value.bool (decide_eq_true (by omega)))) ?_
  refine OJ.done ?_
  refine PJ.next ?_
  refine CJ.condT rfl ?_
  refine CJ.seq ?_
  refine CJ.region ?_
  refine rv rfl rfl rfl (asg_r rfl) ?_
  refine OJ.done ?_
  refine PJ.next ?_
  refine CJ.ret ?_
  refine PJ.retThen ?_
  refine retV Tryz.results54 rfl (.tail _ (.tail _ (.head _))) ?_
  rfl
/-- chartroom/policy.setOf[chartroom/api.Digest] -/
theorem policy_setOfD0 (w : World) :
    Calls Tryz.prog 53 #[.slice none 0 0] w (RetX w (fun b : Nat => .map (some b)) (fun _ _ => True)) := by
  
  refine enter (vs := [_]) Tryz.func53 rfl Tryz.ntmps53 rfl ?_
  refine CJ.seq ?_
  refine CJ.region ?_
  refine rv rfl rfl rfl (asg_r rfl) ?_
  refine OJ.done ?_
  refine PJ.next ?_
  refine CJ.seq ?_
  refine CJ.region ?_
  refine mkMW (v := .agg #[]) rfl rfl ?_
  intro b6 ha6 ho6
  simp only [Above] at ha6
  try simp only [Off, book, List.cons_append, List.nil_append, List.set_cons_zero, List.set_cons_succ, ne_eq] at ho6
  refine rv rfl rfl rfl (asg_r rfl) ?_
  refine OJ.done ?_
  refine PJ.next ?_
  refine CJ.seq ?_
  refine CJ.seq ?_
  refine CJ.region ?_
  refine rv rfl rfl rfl (mv_r rfl) ?_
  refine rv rfl rfl rfl (lenS_r Tryz.underlying61 rfl) ?_
  refine rv rfl rfl rfl (mv_r rfl) ?_
  refine OJ.done ?_
  refine PJ.next ?_
  refine CJ.block ?_
  refine CJ.loop (α := Nat) (fun j => [(3, .map (some b6)), (8, .int .i64 0), (9, .int .i64 0)]) (fun j => [(b6, mpO (.agg #[]) [])]) (fun j => [w]) (fun j => Gh.no) (fun j => True) (fun j => 0) 0 True.intro ⟨rfl, rfl, rfl, trivial⟩ rfl rfl (by simp) ?_
  rintro j _
  refine CJ.seq ?_
  refine CJ.region ?_
  refine rv rfl rfl rfl (RV.re (v' := .bool false) (lss_r rfl rfl) (congrArg Value.bool (decide_eq_false (by omega)))) ?_
  refine OJ.done ?_
  refine PJ.next ?_
  refine CJ.seq ?_
  refine CJ.condF rfl ?_
  refine CJ.exit ?_
  refine PJ.exThen ?_
  refine PJ.exThen ?_
  refine PJ.exHit ?_
  refine PJ.next ?_
  refine CJ.seq ?_
  refine CJ.region ?_
  refine rv rfl rfl rfl (mv_r rfl) ?_
  refine rv rfl rfl rfl (asg_r rfl) ?_
  refine OJ.done ?_
  refine PJ.next ?_
  refine CJ.ret ?_
  exact retG (.inl rfl) Tryz.results53 (RS.t rfl RS.n) (fun W hS => ⟨b6, rfl, hS.base (.head _) (by first | (simp only [Over, List.set_cons_zero, List.set_cons_succ, List.eraseIdx_cons_zero, List.eraseIdx_cons_succ, and_true]; omega) | (simp [Over] <;> omega)), trivial⟩)
set_option maxHeartbeats 1600000 in
/-- chartroom/policy.Retain -/
theorem policy_Retain0 (p : Po) (hf : PoFew p) (hk0 : chkI p = 0) (N : Nat) (w : World) (hN : N ≤ w.heap.size) (hp : PoAt N w p) :
    Calls Tryz.prog 22 #[.agg nilsR, .agg (poC p), .slice none 0 0] w (Ret w (.int .i64 0)) := by
  
  refine enterM Gh.no [] (vs := [_, _, _]) Tryz.func22 rfl Tryz.ntmps22 rfl (st_no w) ?_
  refine CJ.seq ?_
  refine CJ.region ?_
  refine boxR rfl rfl rfl ?_
  intro b3 w3 hb3 ha3 ho3 hm3 hz3
  simp only [Above] at ha3
  try simp only [Off, book, List.cons_append, List.nil_append, List.set_cons_zero, List.set_cons_succ, ne_eq] at ho3
  refine boxR rfl rfl rfl ?_
  intro b4 w4 hb4 ha4 ho4 hm4 hz4
  simp only [Above] at ha4
  try simp only [Off, book, List.cons_append, List.nil_append, List.set_cons_zero, List.set_cons_succ, ne_eq] at ho4
  refine allW Tryz.zeroValue33 rfl rfl ?_
  intro b6 ha6 ho6
  simp only [Above] at ha6
  try simp only [Off, book, List.cons_append, List.nil_append, List.set_cons_zero, List.set_cons_succ, ne_eq] at ho6
  refine OJ.done ?_
  refine PJ.next ?_
  refine CJ.seq ?_
  refine CJ.seq ?_
  refine CJ.region ?_
  refine rv rfl rfl rfl (RV.re (v' := .agg (poC p)) (ldRAw_r Tryz.isAgg24 Tryz.sizeOf24 rfl (.head _) hb4 hm4 (by first | (simp only [Off, book, List.cons_append, List.nil_append, List.set_cons_zero, List.set_cons_succ, List.eraseIdx_cons_zero, List.eraseIdx_cons_succ, ne_eq, and_true]; omega) | (simp [Off] <;> omega)) rfl) (rfl)) ?_
  refine call Tryz.call11 rfl rfl rfl (fun W hS => by rw [← hk0]; exact policy_Check p hf N W (Nat.le_trans hN (hS.links _ (.tail _ (.tail _ (.head _)))).size) (hp.up (Nat.le_refl _) (hS.same (.tail _ (.tail _ (.head _))) hN (fun _ _ h => h) (by first | exact True.intro | (simp only [Over, List.set_cons_zero, List.set_cons_succ, List.eraseIdx_cons_zero, List.eraseIdx_cons_succ, and_true]; omega))))) (v := .int .i64 0) ?_
  refine rv rfl rfl rfl (asg_r rfl) ?_
  refine OJ.done ?_
  refine PJ.next ?_
  refine CJ.seq ?_
  refine CJ.region ?_
  refine rv rfl rfl rfl (mv_r rfl) ?_
  refine rv rfl rfl rfl (RV.re (v' := .bool false) (neqI_r rfl rfl) rfl) ?_
  refine OJ.done ?_
  refine PJ.next ?_
  refine CJ.condF rfl ?_
  refine CJ.skip ?_
  refine PJ.next ?_
  refine CJ.seq ?_
  refine CJ.less (E' := [(0, _), (1, _), (2, _), (3, _), (4, _), (6, _), (7, _), (14, _), (15, _), (16, _), (17, _)]) ⟨rfl, rfl, rfl, rfl, rfl, rfl, rfl, rfl, rfl, rfl, rfl, trivial⟩ ?_
  refine CJ.nt 8 [1, 6, 7] [([], some _), ([0], none), ([], some (.agg nilsR)), ([], some _), ([3], some (.int .i64 p.fo)), ([2, 4], some (.map none)), ([], none), ([], none)] [[], [], []] (fun cv L' H' => match cv with | [none, none, none] => L' = [w4, w3, w] ∧ H' = [(b6, .cells #[.int .i64 0] 33 (0, 0))] | [none, none, some v7] => ∃ (b9 : Nat), v7 = ptr b9 0 ∧ L' = [w4, w3, w] ∧ H' = [(b9, .cells #[.map none] 122 (0, 0)), (b6, .cells #[.int .i64 0] 33 (0, 0))] ∧ (w4.heap.size ≤ b9 ∧ w3.heap.size ≤ b9 ∧ w.heap.size ≤ b9) | [none, some v6, none] => ∃ (b8 : Nat), v6 = ptr b8 0 ∧ L' = [w4, w3, w] ∧ H' = [(b8, .cells #[.map none] 120 (0, 0)), (b6, .cells #[.int .i64 0] 33 (0, 0))] ∧ (w4.heap.size ≤ b8 ∧ w3.heap.size ≤ b8 ∧ w.heap.size ≤ b8) | [none, some v6, some v7] => ∃ (b8 : Nat) (b9 : Nat), v6 = ptr b8 0 ∧ v7 = ptr b9 0 ∧ L' = [w4, w3, w] ∧ H' = [(b9, .cells #[.map none] 122 (0, 0)), (b8, .cells #[.map none] 120 (0, 0)), (b6, .cells #[.int .i64 0] 33 (0, 0))] ∧ (w4.heap.size ≤ b8 ∧ w3.heap.size ≤ b8 ∧ w.heap.size ≤ b8) ∧ (w4.heap.size ≤ b9 ∧ w3.heap.size ≤ b9 ∧ w.heap.size ≤ b9) | [some v1, none, none] => ∃ (b20 : Nat), v1 = .map (some b20) ∧ L' = [w4, w3, w] ∧ H' = [(b6, .cells #[.int .i64 0] 33 (0, 0))] | [some v1, none, some v7] => ∃ (b20 : Nat) (b9 : Nat), v1 = .map (some b20) ∧ v7 = ptr b9 0 ∧ L' = [w4, w3, w] ∧ H' = [(b9, .cells #[.map none] 122 (0, 0)), (b6, .cells #[.int .i64 0] 33 (0, 0))] ∧ (w4.heap.size ≤ b9 ∧ w3.heap.size ≤ b9 ∧ w.heap.size ≤ b9) | [some v1, some v6, none] => ∃ (b20 : Nat) (b8 : Nat), v1 = .map (some b20) ∧ v6 = ptr b8 0 ∧ L' = [w4, w3, w] ∧ H' = [(b8, .cells #[.map none] 120 (0, 0)), (b6, .cells #[.int .i64 0] 33 (0, 0))] ∧ (w4.heap.size ≤ b8 ∧ w3.heap.size ≤ b8 ∧ w.heap.size ≤ b8) | [some v1, some v6, some v7] => ∃ (b20 : Nat) (b8 : Nat) (b9 : Nat), v1 = .map (some b20) ∧ v6 = ptr b8 0 ∧ v7 = ptr b9 0 ∧ L' = [w4, w3, w] ∧ H' = [(b9, .cells #[.map none] 122 (0, 0)), (b8, .cells #[.map none] 120 (0, 0)), (b6, .cells #[.int .i64 0] 33 (0, 0))] ∧ (w4.heap.size ≤ b8 ∧ w3.heap.size ≤ b8 ∧ w.heap.size ≤ b8) ∧ (w4.heap.size ≤ b9 ∧ w3.heap.size ≤ b9 ∧ w.heap.size ≤ b9) | _ => False) (by kernel_rfl) ⟨rfl, rfl⟩ (by kernel_rfl) (by kernel_rfl) (by kernel_rfl) (by kernel_rfl) (by kernel_rfl) (by kernel_rfl) rfl (qc (fun cv L' H' _ _ hP => X.val rfl rfl (mv_r rfl) (fun _ _ => rfl)) (qk (qc (fun cv L' H' hl hd hP => by obtain ⟨x1, x6, x7, rfl⟩ := len3 hl; exact (match x1, x6, x7, hd, hP with | none, none, none, hd, hP => (by obtain ⟨rfl, rfl⟩ := hP; exact X.val rfl rfl (ldRAw_r Tryz.isAgg74 Tryz.sizeOf74 rfl (.tail _ (.head _)) hb3 hm3 (by first | (simp only [Off, book, List.cons_append, List.nil_append, List.set_cons_zero, List.set_cons_succ, List.eraseIdx_cons_zero, List.eraseIdx_cons_succ, ne_eq, and_true]; omega) | (simp [Off] <;> omega)) rfl) (fun _ _ => rfl)) | none, none, some v7, hd, hP => (by obtain ⟨b9, rfl, rfl, rfl, ha9⟩ := hP; exact X.val rfl rfl (ldRAw_r Tryz.isAgg74 Tryz.sizeOf74 rfl (.tail _ (.head _)) hb3 hm3 (by first | (simp only [Off, book, List.cons_append, List.nil_append, List.set_cons_zero, List.set_cons_succ, List.eraseIdx_cons_zero, List.eraseIdx_cons_succ, ne_eq, and_true]; omega) | (simp [Off] <;> omega)) rfl) (fun _ _ => rfl)) | none, some v6, none, hd, hP => (by obtain ⟨b8, rfl, rfl, rfl, ha8⟩ := hP; exact X.val rfl rfl (ldRAw_r Tryz.isAgg74 Tryz.sizeOf74 rfl (.tail _ (.head _)) hb3 hm3 (by first | (simp only [Off, book, List.cons_append, List.nil_append, List.set_cons_zero, List.set_cons_succ, List.eraseIdx_cons_zero, List.eraseIdx_cons_succ, ne_eq, and_true]; omega) | (simp [Off] <;> omega)) rfl) (fun _ _ => rfl)) | none, some v6, some v7, hd, hP => (by obtain ⟨b8, b9, rfl, rfl, rfl, rfl, ha8, ha9⟩ := hP; exact X.val rfl rfl (ldRAw_r Tryz.isAgg74 Tryz.sizeOf74 rfl (.tail _ (.head _)) hb3 hm3 (by first | (simp only [Off, book, List.cons_append, List.nil_append, List.set_cons_zero, List.set_cons_succ, List.eraseIdx_cons_zero, List.eraseIdx_cons_succ, ne_eq, and_true]; omega) | (simp [Off] <;> omega)) rfl) (fun _ _ => rfl)) | some v1, none, none, hd, hP => (by obtain ⟨b20, rfl, rfl, rfl⟩ := hP; exact X.val rfl rfl (ldRAw_r Tryz.isAgg74 Tryz.sizeOf74 rfl (.tail _ (.head _)) hb3 hm3 (by first | (simp only [Off, book, List.cons_append, List.nil_append, List.set_cons_zero, List.set_cons_succ, List.eraseIdx_cons_zero, List.eraseIdx_cons_succ, ne_eq, and_true]; omega) | (simp [Off] <;> omega)) rfl) (fun _ _ => rfl)) | some v1, none, some v7, hd, hP => (by obtain ⟨b20, b9, rfl, rfl, rfl, rfl, ha9⟩ := hP; exact X.val rfl rfl (ldRAw_r Tryz.isAgg74 Tryz.sizeOf74 rfl (.tail _ (.head _)) hb3 hm3 (by first | (simp only [Off, book, List.cons_append, List.nil_append, List.set_cons_zero, List.set_cons_succ, List.eraseIdx_cons_zero, List.eraseIdx_cons_succ, ne_eq, and_true]; omega) | (simp [Off] <;> omega)) rfl) (fun _ _ => rfl)) | some v1, some v6, none, hd, hP => (by obtain ⟨b20, b8, rfl, rfl, rfl, rfl, ha8⟩ := hP; exact X.val rfl rfl (ldRAw_r Tryz.isAgg74 Tryz.sizeOf74 rfl (.tail _ (.head _)) hb3 hm3 (by first | (simp only [Off, book, List.cons_append, List.nil_append, List.set_cons_zero, List.set_cons_succ, List.eraseIdx_cons_zero, List.eraseIdx_cons_succ, ne_eq, and_true]; omega) | (simp [Off] <;> omega)) rfl) (fun _ _ => rfl)) | some v1, some v6, some v7, hd, hP => (by obtain ⟨b20, b8, b9, rfl, rfl, rfl, rfl, rfl, ha8, ha9⟩ := hP; exact X.val rfl rfl (ldRAw_r Tryz.isAgg74 Tryz.sizeOf74 rfl (.tail _ (.head _)) hb3 hm3 (by first | (simp only [Off, book, List.cons_append, List.nil_append, List.set_cons_zero, List.set_cons_succ, List.eraseIdx_cons_zero, List.eraseIdx_cons_succ, ne_eq, and_true]; omega) | (simp [Off] <;> omega)) rfl) (fun _ _ => rfl)))) (qc (fun cv L' H' _ _ hP => X.val rfl rfl (fld_r Tryz.underlying24 rfl Tryz.sizeOf3 rfl) (fun _ _ => rfl)) (qc (fun cv L' H' hl hd hP => by obtain ⟨x1, x6, x7, rfl⟩ := len3 hl; exact (match x1, x6, x7, hd, hP with | none, none, none, hd, hP => (by obtain ⟨rfl, rfl⟩ := hP; exact X.val rfl rfl (ldR_r Tryz.isAgg3 rfl (.head _) hb4 hm4 (by first | (simp only [Off, book, List.cons_append, List.nil_append, List.set_cons_zero, List.set_cons_succ, List.eraseIdx_cons_zero, List.eraseIdx_cons_succ, ne_eq, and_true]; omega) | (simp [Off] <;> omega)) rfl) (fun _ _ => rfl)) | none, none, some v7, hd, hP => (by obtain ⟨b9, rfl, rfl, rfl, ha9⟩ := hP; exact X.val rfl rfl (ldR_r Tryz.isAgg3 rfl (.head _) hb4 hm4 (by first | (simp only [Off, book, List.cons_append, List.nil_append, List.set_cons_zero, List.set_cons_succ, List.eraseIdx_cons_zero, List.eraseIdx_cons_succ, ne_eq, and_true]; omega) | (simp [Off] <;> omega)) rfl) (fun _ _ => rfl)) | none, some v6, none, hd, hP => (by obtain ⟨b8, rfl, rfl, rfl, ha8⟩ := hP; exact X.val rfl rfl (ldR_r Tryz.isAgg3 rfl (.head _) hb4 hm4 (by first | (simp only [Off, book, List.cons_append, List.nil_append, List.set_cons_zero, List.set_cons_succ, List.eraseIdx_cons_zero, List.eraseIdx_cons_succ, ne_eq, and_true]; omega) | (simp [Off] <;> omega)) rfl) (fun _ _ => rfl)) | none, some v6, some v7, hd, hP => (by obtain ⟨b8, b9, rfl, rfl, rfl, rfl, ha8, ha9⟩ := hP; exact X.val rfl rfl (ldR_r Tryz.isAgg3 rfl (.head _) hb4 hm4 (by first | (simp only [Off, book, List.cons_append, List.nil_append, List.set_cons_zero, List.set_cons_succ, List.eraseIdx_cons_zero, List.eraseIdx_cons_succ, ne_eq, and_true]; omega) | (simp [Off] <;> omega)) rfl) (fun _ _ => rfl)) | some v1, none, none, hd, hP => (by obtain ⟨b20, rfl, rfl, rfl⟩ := hP; exact X.val rfl rfl (ldR_r Tryz.isAgg3 rfl (.head _) hb4 hm4 (by first | (simp only [Off, book, List.cons_append, List.nil_append, List.set_cons_zero, List.set_cons_succ, List.eraseIdx_cons_zero, List.eraseIdx_cons_succ, ne_eq, and_true]; omega) | (simp [Off] <;> omega)) rfl) (fun _ _ => rfl)) | some v1, none, some v7, hd, hP => (by obtain ⟨b20, b9, rfl, rfl, rfl, rfl, ha9⟩ := hP; exact X.val rfl rfl (ldR_r Tryz.isAgg3 rfl (.head _) hb4 hm4 (by first | (simp only [Off, book, List.cons_append, List.nil_append, List.set_cons_zero, List.set_cons_succ, List.eraseIdx_cons_zero, List.eraseIdx_cons_succ, ne_eq, and_true]; omega) | (simp [Off] <;> omega)) rfl) (fun _ _ => rfl)) | some v1, some v6, none, hd, hP => (by obtain ⟨b20, b8, rfl, rfl, rfl, rfl, ha8⟩ := hP; exact X.val rfl rfl (ldR_r Tryz.isAgg3 rfl (.head _) hb4 hm4 (by first | (simp only [Off, book, List.cons_append, List.nil_append, List.set_cons_zero, List.set_cons_succ, List.eraseIdx_cons_zero, List.eraseIdx_cons_succ, ne_eq, and_true]; omega) | (simp [Off] <;> omega)) rfl) (fun _ _ => rfl)) | some v1, some v6, some v7, hd, hP => (by obtain ⟨b20, b8, b9, rfl, rfl, rfl, rfl, rfl, ha8, ha9⟩ := hP; exact X.val rfl rfl (ldR_r Tryz.isAgg3 rfl (.head _) hb4 hm4 (by first | (simp only [Off, book, List.cons_append, List.nil_append, List.set_cons_zero, List.set_cons_succ, List.eraseIdx_cons_zero, List.eraseIdx_cons_succ, ne_eq, and_true]; omega) | (simp [Off] <;> omega)) rfl) (fun _ _ => rfl)))) (qc (fun cv L' H' _ _ hP => X.callV Tryz.call54 rfl rfl (fun W hS _ => policy_ages0 _ W) (fun _ => rfl)) (qk (qk (qn))))))))) ?_ ?_
  · refine nc rfl rfl rfl rfl ?_ ?_
    · intro cv L' H' hl hr hP F Q' hk
      obtain ⟨x1, x6, x7, rfl⟩ := len3 hl
      rcases x1 with _ | v1 <;> rcases x6 with _ | v6 <;> rcases x7 with _ | v7
      · obtain ⟨rfl, rfl⟩ := hP
        refine callX (α := Nat) (v := fun b : Nat => .map (some b)) (Φ := fun (_ : World) (_ : Nat) (_ : World) => True) Tryz.call53 rfl rfl rfl (fun W hS => policy_setOfD0 W) ?_
        rintro _ b20 wq _ _ _
        exact OJ.done (PJ.fewL (fun v hv => .tail _ hv) (hk _ _ _ ⟨b20, rfl, rfl, rfl⟩))
      · obtain ⟨b9, rfl, rfl, rfl, ha9⟩ := hP
        refine callX (α := Nat) (v := fun b : Nat => .map (some b)) (Φ := fun (_ : World) (_ : Nat) (_ : World) => True) Tryz.call53 rfl rfl rfl (fun W hS => policy_setOfD0 W) ?_
        rintro _ b20 wq _ _ _
        exact OJ.done (PJ.fewL (fun v hv => .tail _ hv) (hk _ _ _ ⟨b20, b9, rfl, rfl, rfl, rfl, ha9⟩))
      · obtain ⟨b8, rfl, rfl, rfl, ha8⟩ := hP
        refine callX (α := Nat) (v := fun b : Nat => .map (some b)) (Φ := fun (_ : World) (_ : Nat) (_ : World) => True) Tryz.call53 rfl rfl rfl (fun W hS => policy_setOfD0 W) ?_
        rintro _ b20 wq _ _ _
        exact OJ.done (PJ.fewL (fun v hv => .tail _ hv) (hk _ _ _ ⟨b20, b8, rfl, rfl, rfl, rfl, ha8⟩))
      · obtain ⟨b8, b9, rfl, rfl, rfl, rfl, ha8, ha9⟩ := hP
        refine callX (α := Nat) (v := fun b : Nat => .map (some b)) (Φ := fun (_ : World) (_ : Nat) (_ : World) => True) Tryz.call53 rfl rfl rfl (fun W hS => policy_setOfD0 W) ?_
        rintro _ b20 wq _ _ _
        exact OJ.done (PJ.fewL (fun v hv => .tail _ hv) (hk _ _ _ ⟨b20, b8, b9, rfl, rfl, rfl, rfl, rfl, ha8, ha9⟩))
      · exact absurd (show false = true from hr) (by decide)
      · exact absurd (show false = true from hr) (by decide)
      · exact absurd (show false = true from hr) (by decide)
      · exact absurd (show false = true from hr) (by decide)
    refine nc rfl rfl rfl rfl ?_ ?_
    · intro cv L' H' hl hr hP F Q' hk
      obtain ⟨x1, x6, x7, rfl⟩ := len3 hl
      rcases x1 with _ | v1 <;> rcases x6 with _ | v6 <;> rcases x7 with _ | v7
      · obtain ⟨rfl, rfl⟩ := hP
        refine allW Tryz.zeroValue120 rfl rfl ?_
        intro b8 ha ho
        exact OJ.done (hk _ _ _ ⟨b8, rfl, rfl, rfl, ⟨ha.1, ha.2.1, ha.2.2.1⟩⟩)
      · obtain ⟨b9, rfl, rfl, rfl, ha9⟩ := hP
        refine allW Tryz.zeroValue120 rfl rfl ?_
        intro b8 ha ho
        exact OJ.done (PJ.swp (hk _ _ _ ⟨b8, b9, rfl, rfl, rfl, rfl, ⟨ha.1, ha.2.1, ha.2.2.1⟩, ha9⟩))
      · exact absurd (show false = true from hr) (by decide)
      · exact absurd (show false = true from hr) (by decide)
      · obtain ⟨b20, rfl, rfl, rfl⟩ := hP
        refine allW Tryz.zeroValue120 rfl rfl ?_
        intro b8 ha ho
        exact OJ.done (hk _ _ _ ⟨b20, b8, rfl, rfl, rfl, rfl, ⟨ha.1, ha.2.1, ha.2.2.1⟩⟩)
      · obtain ⟨b20, b9, rfl, rfl, rfl, rfl, ha9⟩ := hP
        refine allW Tryz.zeroValue120 rfl rfl ?_
        intro b8 ha ho
        exact OJ.done (PJ.swp (hk _ _ _ ⟨b20, b8, b9, rfl, rfl, rfl, rfl, rfl, ⟨ha.1, ha.2.1, ha.2.2.1⟩, ha9⟩))
      · exact absurd (show false = true from hr) (by decide)
      · exact absurd (show false = true from hr) (by decide)
    refine nc rfl rfl rfl rfl ?_ ?_
    · intro cv L' H' hl hr hP F Q' hk
      obtain ⟨x1, x6, x7, rfl⟩ := len3 hl
      rcases x1 with _ | v1 <;> rcases x6 with _ | v6 <;> rcases x7 with _ | v7
      · obtain ⟨rfl, rfl⟩ := hP
        refine allW Tryz.zeroValue122 rfl rfl ?_
        intro b9 ha ho
        exact OJ.done (hk _ _ _ ⟨b9, rfl, rfl, rfl, ⟨ha.1, ha.2.1, ha.2.2.1⟩⟩)
      · exact absurd (show false = true from hr) (by decide)
      · obtain ⟨b8, rfl, rfl, rfl, ha8⟩ := hP
        refine allW Tryz.zeroValue122 rfl rfl ?_
        intro b9 ha ho
        exact OJ.done (hk _ _ _ ⟨b8, b9, rfl, rfl, rfl, rfl, ha8, ⟨ha.1, ha.2.1, ha.2.2.1⟩⟩)
      · exact absurd (show false = true from hr) (by decide)
      · obtain ⟨b20, rfl, rfl, rfl⟩ := hP
        refine allW Tryz.zeroValue122 rfl rfl ?_
        intro b9 ha ho
        exact OJ.done (hk _ _ _ ⟨b20, b9, rfl, rfl, rfl, rfl, ⟨ha.1, ha.2.1, ha.2.2.1⟩⟩)
      · exact absurd (show false = true from hr) (by decide)
      · obtain ⟨b20, b8, rfl, rfl, rfl, rfl, ha8⟩ := hP
        refine allW Tryz.zeroValue122 rfl rfl ?_
        intro b9 ha ho
        exact OJ.done (hk _ _ _ ⟨b20, b8, b9, rfl, rfl, rfl, rfl, rfl, ha8, ⟨ha.1, ha.2.1, ha.2.2.1⟩⟩)
      · exact absurd (show false = true from hr) (by decide)
    exact nn
  · intro cv L' H' hl hr hP
    obtain ⟨x1, x6, x7, rfl⟩ := len3 hl
    rcases x1 with _ | v1 <;> rcases x6 with _ | v6 <;> rcases x7 with _ | v7
    · exact absurd (show false = true from hr) (by decide)
    · exact absurd (show false = true from hr) (by decide)
    · exact absurd (show false = true from hr) (by decide)
    · exact absurd (show false = true from hr) (by decide)
    · exact absurd (show false = true from hr) (by decide)
    · exact absurd (show false = true from hr) (by decide)
    · exact absurd (show false = true from hr) (by decide)
    obtain ⟨b20, b8, b9, rfl, rfl, rfl, rfl, rfl, ha8, ha9⟩ := hP
    refine stWw (i := 1) rfl Tryz.sizeOf120 rfl rfl rfl rfl rfl rfl ?_
    refine stWw (i := 0) rfl Tryz.sizeOf122 rfl rfl rfl rfl rfl rfl ?_
    refine OJ.done ?_
    refine PJ.next ?_
    refine CJ.seq ?_
    refine CJ.seq ?_
    refine CJ.region ?_
    refine rv rfl rfl rfl (RV.re (v' := .agg nilsR) (ldRAw_r Tryz.isAgg74 Tryz.sizeOf74 rfl (.tail _ (.head _)) hb3 hm3 (by first | (simp only [Off, book, List.cons_append, List.nil_append, List.set_cons_zero, List.set_cons_succ, List.eraseIdx_cons_zero, List.eraseIdx_cons_succ, ne_eq, and_true]; omega) | (simp [Off] <;> omega)) rfl) (rfl)) ?_
    refine rv rfl rfl rfl (RV.re (v' := .agg (poC p)) (ldRAw_r Tryz.isAgg24 Tryz.sizeOf24 rfl (.head _) hb4 hm4 (by first | (simp only [Off, book, List.cons_append, List.nil_append, List.set_cons_zero, List.set_cons_succ, List.eraseIdx_cons_zero, List.eraseIdx_cons_succ, ne_eq, and_true]; omega) | (simp [Off] <;> omega)) rfl) (rfl)) ?_
    refine callX (α := Nat × Nat) (v := fun b : Nat × Nat => .func (.func 98) #[] #[ptr b.1 0, ptr b.2 0]) (Φ := fun (W : World) (b : Nat × Nat) (w1 : World) => W.heap.size ≤ b.1 ∧ w1.heap[b.1]? = some (.cells nilsR 74 (0, 0))) Tryz.call50 rfl rfl rfl (fun W hS => policy_of p W) ?_
    rintro Wd ⟨bd, bf⟩ wd hSd hBd ⟨hbd1, hbd2⟩
    simp only at hbd1 hbd2
    have hUd := hSd.under
    simp only [Under, List.set_cons_zero, List.set_cons_succ] at hUd
    have hAd := hSd.sizes
    simp only [Above] at hAd
    have hzd := hBd.size
    refine OJ.done ?_
    refine PJ.next ?_
    refine CJ.block ?_
    refine CJ.range (f := 98) (cap := [ptr bd 0, ptr bf 0]) (α := Unit) (enc := (fun _ : Unit => [.bool true])) (xs := []) (MI := fun _ => False) (RO := fun k => k = bd) rfl Tryz.call98 (fun W W2 hS hB => of1_iter bd bf W2 ((hS.step hB).old (.head _) hbd2 (fun h => h) (by simp only [Off, List.set_cons_zero, List.set_cons_succ, ne_eq, and_true]; omega))) (fun _ _ _ hk => hk.elim) (fun W hS k hk => by subst hk; have := hS.sizes; simp only [Above] at this; have := (Array.getElem?_eq_some_iff.1 hbd2).1; refine ⟨by omega, by simp only [List.set_cons_zero, List.set_cons_succ, List.map_cons, List.map_nil, List.mem_cons, List.not_mem_nil, or_false, not_or]; omega, fun h => h⟩) (fun _ => rfl) (fun _ Hc => Hc = [(b9, .cells #[.map none] 122 (0, 0)), (b8, .cells #[.map (some b20)] 120 (0, 0)), (b6, .cells #[.int .i64 0] 33 (0, 0))]) (fun _ _ => False) rfl (by rintro pre Hc rfl; rfl) (fun _ _ hk => hk.elim) (by decide) ?_ ?_ ?_
    · exact fun pre x _ _ _ _ _ _ _ hp => absurd hp.length_le (by simp)
    · rintro l Dk rec Hc haD hlD rfl
      simp only [Above] at haD
      refine PJ.norBlock ?_
      refine PJ.next ?_
      refine CJ.seq ?_
      refine CJ.region ?_
      refine stWw (i := 2) rfl Tryz.sizeOf33 rfl rfl rfl rfl rfl rfl ?_
      refine OJ.done ?_
      refine PJ.next ?_
      refine CJ.ret ?_
      refine retMC (b := b6) (.inl rfl) Tryz.results22 Tryz.isAgg33 rfl (by simp [book]) (cs := #[.int .i64 0]) (ct := 33) (fr := (0, 0)) (by exact (.tail _ (.tail _ (.head _)))) (by omega) rfl (fun W H' hS hmap => ⟨?_, ?_⟩)
      · exact congrArg Ending.returned rfl
      · refine (hS.links w (.tail _ (.tail _ (.tail _ (.head _))))).below fun k hk hx => ?_
        rw [hmap] at hx; simp [Gh.no, book] at hx; omega
    · exact fun _ _ _ _ _ _ _ hk => hk.elim
end Px
