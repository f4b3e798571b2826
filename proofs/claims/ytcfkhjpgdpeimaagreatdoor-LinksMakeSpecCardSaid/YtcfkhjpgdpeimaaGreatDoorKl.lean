/- The contract of LinksMakeSpec: called with any values of its types it returns true. No condition beyond those that each theorem states. -/
import Derived.Test.YtcfkhjpgdpeimaaGreatDoorKk
import Derived.Test.YtcfkhjpgdpeimaaGreatDoorProg
set_option linter.unusedSimpArgs false
set_option linter.unusedVariables false
namespace Px
open Go Go.RowKit Go.Proofs
/-- n nil slices -/
def nils9 : Array Value := #[.slice none 0 0, .slice none 0 0, .slice none 0 0, .slice none 0 0, .slice none 0 0, .slice none 0 0, .slice none 0 0, .slice none 0 0, .slice none 0 0]
def nils8 : Array Value := #[.slice none 0 0, .slice none 0 0, .slice none 0 0, .slice none 0 0, .slice none 0 0, .slice none 0 0, .slice none 0 0, .slice none 0 0]
section
variable {C : Cx} {fn : Func} {R : Ending → World → Prop} {E : Env} {G : Gh} {L : List World} {H : Heap}
/-- the end of a function with one mark, whose result is a cell -/
theorem retMC {Dk t T b ct : Nat} {cs : Array Value} {fr : Nat × Nat} {v : Value} {e : Exit} (he : e = .ret ∨ e = .normal) (hr : fn.results = #[.cell t T]) (hA : AggF C.P T false) (hx : look E t = some (ptr b 0))
    (hm : (Dk, .deferred (some [])) ∈ H) (hb : (b, .cells cs ct fr) ∈ H) (hne : b ≠ Dk) (hv : cs[0]? = some v) (h : ∀ W H', St G L H' W → H'.map (·.1) = H.map (·.1) → R (.returned v) W) :
    PJ C (bodyPostM (FW none) 0 C.P fn R) e E [coll Dk] G L H :=
  retM he hm fun a W H' hF hS hst hmap => by
    obtain ⟨i, hi⟩ := List.mem_iff_getElem?.1 (hst _ hb hne)
    exact ⟨v, (RS.w (C := C) hi hA hx hv RS.n).res hr hF hS, h W H' hS hmap⟩
end
/-- slices.IndexFunc[[]chartroom/api.Folder,chartroom/api.Folder] -/
theorem IndexFunc_Folder0 (fv : Value) (w : World) :
    Calls Tryz.prog 115 #[.slice none 0 0, fv] w (Ret w (.int .i64 (-1))) := by
  
  refine enter (vs := [_, _]) Tryz.func115 rfl Tryz.ntmps115 rfl ?_
  refine CJ.seq ?_
  refine CJ.region ?_
  refine rv (fun _ h => Op.noConfusion h) rfl rfl (asg_r rfl) ?_
  refine OJ.done ?_
  refine PJ.next ?_
  refine CJ.seq ?_
  refine CJ.seq ?_
  refine CJ.region ?_
  refine rv (fun _ h => Op.noConfusion h) rfl rfl (mv_r rfl) ?_
  refine rv (fun _ h => Op.noConfusion h) rfl rfl (lenS_r Tryz.underlying45 rfl) ?_
  refine rv (fun _ h => Op.noConfusion h) rfl rfl (mv_r rfl) ?_
  refine OJ.done ?_
  refine PJ.next ?_
  refine CJ.block ?_
  refine CJ.loop (α := Nat) (fun j => [(7, .int .i64 0), (8, .int .i64 0)]) (fun j => []) (fun j => [w]) (fun j => Gh.no) (fun j => True) (fun j => 0) 0 True.intro ⟨rfl, rfl, trivial⟩ rfl rfl (by simp) ?_
  rintro j _
  refine CJ.seq ?_
  refine CJ.region ?_
  refine rv (fun _ h => Op.noConfusion h) rfl rfl (RV.re (v' := .bool false) (lss_r rfl rfl) (congrArg Value.bool (decide_eq_false (by omega)))) ?_
  refine OJ.done ?_
  refine PJ.next ?_
  refine CJ.seq ?_
  refine CJ.condF rfl ?_
  refine CJ.exit ?_
  refine PJ.exThen ?_
  refine PJ.exThen ?_
  refine PJ.exHit ?_
  refine PJ.next ?_
  refine CJ.seq ?_
  refine CJ.region ?_
  refine rv (fun _ h => Op.noConfusion h) rfl rfl (asg_r rfl) ?_
  refine OJ.done ?_
  refine PJ.next ?_
  refine CJ.ret ?_
  refine retV Tryz.results115 rfl (.head _) ?_
  rfl

/-- (chartroom/links.scene).groups -/
theorem scene_groups (sc_ : Array Value) (hsz : sc_.size = 9) (n : Int) (w : World) :
    Calls Tryz.prog 75 #[.agg sc_, .int .i64 n] w (RetX w (fun b : Nat × Nat => .func (.func 114) #[] #[ptr b.1 0, ptr b.2 0]) (fun b w1 => w.heap.size ≤ b.1 ∧ w.heap.size ≤ b.2 ∧ w1.heap[b.1]? = some (.cells sc_ 82 (0, 0)) ∧ w1.heap[b.2]? = some (.cells #[.int .i64 n] 3 (0, 0)))) := by
  
  refine enter (vs := [_, _]) Tryz.func75 rfl Tryz.ntmps75 rfl ?_
  refine CJ.seq ?_
  refine CJ.region ?_
  refine boxR rfl rfl rfl ?_
  intro b2 w2 hb2 ha2 ho2 hm2 hz2
  simp only [Above] at ha2
  try simp only [Off, book, List.cons_append, List.nil_append, List.set_cons_zero, List.set_cons_succ, ne_eq] at ho2
  refine boxR rfl rfl rfl ?_
  intro b3 w3 hb3 ha3 ho3 hm3 hz3
  simp only [Above] at ha3
  try simp only [Off, book, List.cons_append, List.nil_append, List.set_cons_zero, List.set_cons_succ, ne_eq] at ho3
  refine rv (fun _ h => Op.noConfusion h) rfl rfl (asg_r rfl) ?_
  refine OJ.done ?_
  refine PJ.next ?_
  refine CJ.seq ?_
  refine CJ.region ?_
  refine rv (fun _ h => Op.noConfusion h) rfl rfl (mkF_r rfl) ?_
  refine rv (fun _ h => Op.noConfusion h) rfl rfl (asg_r rfl) ?_
  refine OJ.done ?_
  refine PJ.next ?_
  refine CJ.ret ?_
  refine retX1 (b2, b3) Tryz.results75 rfl (.tail _ (.tail _ (.head _))) rfl ?_
  exact fun W hS => ⟨ha2.1, ha3.2.1, hS.old (.tail _ (.head _)) hb2 hm2 trivial, hS.old (.head _) hb3 hm3 trivial⟩

/-- (chartroom/links.scene).groups$1 -/
theorem groups1_iter (b c : Nat) (W : World) (hb1 : W.heap[b]? = some (.cells nils9 82 (0, 0))) :
    IterSpec Tryz.prog 114 [ptr b 0, ptr c 0] (fun _ : Unit => [.bool true]) ([]) (fun _ => False) (fun k => k = b) W := by
  intro l M I X hM hI hX hy h0
  have hm1 : ¬ M b := fun h => (hM b h).2.2 rfl
  refine enterG (itG hM (hI [])) [] (vs := [_, _, _]) Tryz.func114 rfl Tryz.ntmps114 rfl (st_it hM (hI []) h0) ?_
  refine CJ.seq ?_
  refine CJ.region ?_
  refine rv (fun _ h => Op.noConfusion h) rfl rfl (fld_r Tryz.underlying82 rfl Tryz.sizeOf54 rfl) ?_
  refine rv (fun _ h => Op.noConfusion h) rfl rfl (fld_r Tryz.underlying54 rfl Tryz.sizeOf45 rfl) ?_
  refine rv (fun _ h => Op.noConfusion h) rfl rfl (RV.re (v' := .slice none 0 0) (ldR_r Tryz.isAgg45 rfl (.head _) hb1 hm1 trivial rfl) (rfl)) ?_
  refine rv (fun _ h => Op.noConfusion h) rfl rfl (mkF_r rfl) ?_
  refine call Tryz.call115 rfl rfl rfl (fun W hS => IndexFunc_Folder0 _ W) ?_
  refine rv (fun _ h => Op.noConfusion h) rfl rfl (asg_r rfl) ?_
  refine OJ.done ?_
  refine PJ.next ?_
  refine CJ.seq ?_
  refine CJ.seq ?_
  refine CJ.region ?_
  refine rv (fun _ h => Op.noConfusion h) rfl rfl (mv_r rfl) ?_
  refine rv (fun _ h => Op.noConfusion h) rfl rfl (RV.re (v' := .bool true) (lss_r rfl rfl) (congrArg Value.bool (decide_eq_true (by omega)))) ?_
  refine OJ.done ?_
  refine PJ.next ?_
  refine CJ.condT rfl ?_
  refine CJ.ret ?_
  refine PJ.retThen ?_
  exact retIt (.inl rfl) Tryz.results114 (.head _) (fun A hA => .inl hA)

/-- (chartroom/links.scene).byDevice -/
theorem byDevice0 (l : Lk) (w : World) :
    Calls Tryz.prog 69 #[.agg nils9, .agg (lkC l)] w (Ret w (.bool false)) := by
  
  refine enterM Gh.no [] (vs := [_, _]) Tryz.func69 rfl Tryz.ntmps69 rfl (st_no w) ?_
  refine CJ.seq ?_
  refine CJ.region ?_
  refine boxR rfl rfl rfl ?_
  intro b2 w2 hb2 ha2 ho2 hm2 hz2
  simp only [Above] at ha2
  try simp only [Off, book, List.cons_append, List.nil_append, List.set_cons_zero, List.set_cons_succ, ne_eq] at ho2
  refine boxR rfl rfl rfl ?_
  intro b3 w3 hb3 ha3 ho3 hm3 hz3
  simp only [Above] at ha3
  try simp only [Off, book, List.cons_append, List.nil_append, List.set_cons_zero, List.set_cons_succ, ne_eq] at ho3
  refine allW Tryz.zeroValue4 rfl rfl ?_
  intro b4 ha4 ho4
  simp only [Above] at ha4
  try simp only [Off, book, List.cons_append, List.nil_append, List.set_cons_zero, List.set_cons_succ, ne_eq] at ho4
  refine OJ.done ?_
  refine PJ.next ?_
  refine CJ.seq ?_
  refine CJ.seq ?_
  refine CJ.region ?_
  refine rv (fun _ h => Op.noConfusion h) rfl rfl (ldRAw_r Tryz.isAgg82 Tryz.sizeOf82 rfl (.tail _ (.head _)) hb2 hm2 (by first | (simp only [Off, book, List.cons_append, List.nil_append, List.set_cons_zero, List.set_cons_succ, List.eraseIdx_cons_zero, List.eraseIdx_cons_succ, ne_eq, and_true]; omega) | (simp [Off] <;> omega)) rfl) ?_
  refine rv (fun _ h => Op.noConfusion h) rfl rfl (fld_r Tryz.underlying64 rfl Tryz.sizeOf27 rfl) ?_
  refine rv (fun _ h => Op.noConfusion h) rfl rfl (fld_r Tryz.underlying27 rfl Tryz.sizeOf3 rfl) ?_
  refine rv (fun _ h => Op.noConfusion h) rfl rfl (ldR_r Tryz.isAgg3 rfl (.head _) hb3 hm3 (by first | (simp only [Off, book, List.cons_append, List.nil_append, List.set_cons_zero, List.set_cons_succ, List.eraseIdx_cons_zero, List.eraseIdx_cons_succ, ne_eq, and_true]; omega) | (simp [Off] <;> omega)) rfl) ?_
  refine callX (α := Nat × Nat) (v := fun b : Nat × Nat => .func (.func 114) #[] #[ptr b.1 0, ptr b.2 0]) (Φ := fun (W : World) (b : Nat × Nat) (w1 : World) => W.heap.size ≤ b.1 ∧ W.heap.size ≤ b.2 ∧ w1.heap[b.1]? = some (.cells nils9 82 (0, 0)) ∧ w1.heap[b.2]? = some (.cells #[.int .i64 l.fo] 3 (0, 0))) Tryz.call75 rfl rfl rfl (fun W hS => scene_groups nils9 rfl _ W) ?_
  rintro Wd ⟨bd, be⟩ wd hSd hBd ⟨hbd1, hbe1, hbd2, hbe2⟩
  simp only at hbd1 hbe1 hbd2 hbe2
  have hUd := hSd.under
  simp only [Under, List.set_cons_zero, List.set_cons_succ] at hUd
  have hAd := hSd.sizes
  simp only [Above] at hAd
  have hzd := hBd.size
  refine OJ.done ?_
  refine PJ.next ?_
  refine CJ.block ?_
  refine CJ.range (f := 114) (cap := [ptr bd 0, ptr be 0]) (α := Unit) (enc := (fun _ : Unit => [.bool true])) (xs := []) (MI := fun _ => False) (RO := fun k => k = bd) rfl Tryz.call114 (fun W W2 hS hB => groups1_iter bd be W2 (by rw [hB.block bd (by have := (hS.sizes); simp only [Above] at this; have := (Array.getElem?_eq_some_iff.1 hbd2).1; omega)]; exact hS.old (.head _) hbd2 (fun h => h) (by simp only [Off, List.set_cons_zero, List.set_cons_succ, ne_eq, and_true]; omega))) (fun _ _ _ hk => hk.elim) (fun W hS k hk => by subst hk; have := hS.sizes; simp only [Above] at this; have := (Array.getElem?_eq_some_iff.1 hbd2).1; refine ⟨by omega, by simp only [List.set_cons_zero, List.set_cons_succ, List.map_cons, List.map_nil, List.mem_cons, List.not_mem_nil, or_false, not_or]; omega, fun h => h⟩) (fun _ => rfl) (fun _ Hc => Hc = [(b4, .cells #[.bool false] 4 (0, 0))]) (fun _ _ => False) rfl (by rintro pre Hc rfl; rfl) (fun _ _ hk => hk.elim) (by decide) ?_ ?_ ?_
  · exact fun pre x _ _ _ _ _ _ _ hp => absurd hp.length_le (by simp)
  · rintro l Dk rec Hc haD hlD rfl
    simp only [Above] at haD
    refine PJ.norBlock ?_
    refine PJ.next ?_
    refine CJ.seq ?_
    refine CJ.region ?_
    refine stWw (i := 0) rfl Tryz.sizeOf4 rfl rfl rfl rfl rfl rfl ?_
    refine OJ.done ?_
    refine PJ.next ?_
    refine CJ.ret ?_
    refine retMC (b := b4) (.inl rfl) Tryz.results69 Tryz.isAgg4 rfl (by simp [book]) (cs := #[.bool false]) (ct := 4) (fr := (0, 0)) (by exact .head _) (by omega) rfl (fun W H' hS hmap => ⟨?_, ?_⟩)
    · exact congrArg Ending.returned rfl
    · refine (hS.links w (.tail _ (.tail _ (.tail _ (.head _))))).below fun k hk hx => ?_
      rw [hmap] at hx; simp [Gh.no, book] at hx; omega
  · exact fun _ _ _ _ _ _ _ hk => hk.elim

/-- (chartroom/links.scene).accepted -/
theorem accepted0 (l : Lk) (hE : linkOk l = false ∨ l.by_ ≠ -1) (w : World) :
    Calls Tryz.prog 32 #[.agg nils9, .agg (lkC l), .int .i64 256] w (Ret w (.bool false)) := by
  
  refine enter (vs := [_, _, _]) Tryz.func32 rfl Tryz.ntmps32 rfl ?_
  refine CJ.seq ?_
  refine CJ.region ?_
  refine boxR rfl rfl rfl ?_
  intro b3 w3 hb3 ha3 ho3 hm3 hz3
  simp only [Above] at ha3
  try simp only [Off, book, List.cons_append, List.nil_append, List.set_cons_zero, List.set_cons_succ, ne_eq] at ho3
  refine boxR rfl rfl rfl ?_
  intro b4 w4 hb4 ha4 ho4 hm4 hz4
  simp only [Above] at ha4
  try simp only [Off, book, List.cons_append, List.nil_append, List.set_cons_zero, List.set_cons_succ, ne_eq] at ho4
  refine rv (fun _ h => Op.noConfusion h) rfl rfl (asg_r rfl) ?_
  refine OJ.done ?_
  refine PJ.next ?_
  refine CJ.seq ?_
  refine CJ.seq ?_
  refine CJ.region ?_
  refine rv (fun _ h => Op.noConfusion h) rfl rfl (RV.re (v' := .agg (lkC l)) (ldRAw_r Tryz.isAgg64 Tryz.sizeOf64 rfl (.head _) hb4 hm4 trivial rfl) (rfl)) ?_
  refine call Tryz.call15 rfl rfl rfl (fun W hS => links_valid l W) ?_
  refine rv (fun _ h => Op.noConfusion h) rfl rfl (notB_r rfl) ?_
  refine OJ.done ?_
  refine PJ.next ?_
  refine CJ.cond rfl (fun hc1 => ?_) (fun hc1 => ?_)
  · try simp only [decide_eq_true_eq, decide_eq_false_iff_not, Bool.not_eq_true', Bool.not_eq_false'] at hc1
    refine CJ.seq ?_
    refine CJ.region ?_
    refine rv (fun _ h => Op.noConfusion h) rfl rfl (asg_r rfl) ?_
    refine OJ.done ?_
    refine PJ.next ?_
    refine CJ.ret ?_
    refine PJ.retThen ?_
    refine retV Tryz.results32 rfl (.tail _ (.tail _ (.head _))) ?_
    rfl
  · try simp only [decide_eq_true_eq, decide_eq_false_iff_not, Bool.not_eq_true', Bool.not_eq_false'] at hc1
    refine CJ.skip ?_
    refine PJ.next ?_
    refine CJ.seq ?_
    refine CJ.seq ?_
    refine CJ.region ?_
    refine rv (fun _ h => Op.noConfusion h) rfl rfl (fld_r Tryz.underlying64 rfl Tryz.sizeOf27 rfl) ?_
    refine rv (fun _ h => Op.noConfusion h) rfl rfl (fld_r Tryz.underlying27 rfl Tryz.sizeOf3 rfl) ?_
    refine rv (fun _ h => Op.noConfusion h) rfl rfl (ldR_r Tryz.isAgg3 rfl (.head _) hb4 hm4 trivial rfl) ?_
    refine rv (fun _ h => Op.noConfusion h) rfl rfl (RV.re (v' := .bool true) (neqI_r rfl rfl) (by rw [decide_eq_false (hE.resolve_left (by simp_all))]; rfl)) ?_
    refine OJ.done ?_
    refine PJ.next ?_
    refine CJ.condT rfl ?_
    refine CJ.seq ?_
    refine CJ.region ?_
    refine rv (fun _ h => Op.noConfusion h) rfl rfl (RV.re (v' := .agg nils9) (ldRAw_r Tryz.isAgg82 Tryz.sizeOf82 rfl (.tail _ (.head _)) hb3 hm3 trivial rfl) (rfl)) ?_
    refine rv (fun _ h => Op.noConfusion h) rfl rfl (RV.re (v' := .agg (lkC l)) (ldRAw_r Tryz.isAgg64 Tryz.sizeOf64 rfl (.head _) hb4 hm4 trivial rfl) (rfl)) ?_
    refine call Tryz.call69 rfl rfl rfl (fun W hS => byDevice0 l W) ?_
    refine rv (fun _ h => Op.noConfusion h) rfl rfl (asg_r rfl) ?_
    refine OJ.done ?_
    refine PJ.next ?_
    refine CJ.ret ?_
    refine PJ.retThen ?_
    refine retV Tryz.results32 rfl (.tail _ (.tail _ (.head _))) ?_
    rfl

/-- chartroom/links.Accepted -/
theorem Accepted0 (l : Lk) (hE : linkOk l = false ∨ l.by_ ≠ -1) (w : World) :
    Calls Tryz.prog 13 #[.agg nils8, .slice none 0 0, .agg (lkC l)] w (Ret w (.bool false)) := by
  
  refine enter (vs := [_, _, _]) Tryz.func13 rfl Tryz.ntmps13 rfl ?_
  refine CJ.seq ?_
  refine CJ.region ?_
  refine boxR rfl rfl rfl ?_
  intro b3 w3 hb3 ha3 ho3 hm3 hz3
  simp only [Above] at ha3
  try simp only [Off, book, List.cons_append, List.nil_append, List.set_cons_zero, List.set_cons_succ, ne_eq] at ho3
  refine boxR rfl rfl rfl ?_
  intro b5 w5 hb5 ha5 ho5 hm5 hz5
  simp only [Above] at ha5
  try simp only [Off, book, List.cons_append, List.nil_append, List.set_cons_zero, List.set_cons_succ, ne_eq] at ho5
  refine rv (fun _ h => Op.noConfusion h) rfl rfl (asg_r rfl) ?_
  refine OJ.done ?_
  refine PJ.next ?_
  refine CJ.seq ?_
  refine CJ.region ?_
  refine rv (fun _ h => Op.noConfusion h) rfl rfl (ldRAw_r Tryz.isAgg54 Tryz.sizeOf54 rfl (.tail _ (.head _)) hb3 hm3 trivial rfl) ?_
  refine rv (fun _ h => Op.noConfusion h) rfl rfl (mv_r rfl) ?_
  refine rv (fun _ h => Op.noConfusion h) rfl rfl (RV.re (v' := .agg nils9) (bldS_r Tryz.underlying82 Tryz.zeroValue82 (PlF.c Tryz.sizeOf54 (PlF.c Tryz.sizeOf80 (PlF.n))) rfl rfl) (rfl)) ?_
  refine rv (fun _ h => Op.noConfusion h) rfl rfl (ldRAw_r Tryz.isAgg27 Tryz.sizeOf27 rfl (.head _) hb5 hm5 trivial rfl) ?_
  refine rv (fun _ h => Op.noConfusion h) rfl rfl (RV.re (v' := .agg (lkC l)) (bldS_r Tryz.underlying64 Tryz.zeroValue64 (PlF.c Tryz.sizeOf27 (PlF.n)) rfl rfl) (rfl)) ?_
  refine call Tryz.call32 rfl rfl rfl (fun W hS => accepted0 l hE W) ?_
  refine rv (fun _ h => Op.noConfusion h) rfl rfl (asg_r rfl) ?_
  refine OJ.done ?_
  refine PJ.next ?_
  refine CJ.ret ?_
  refine retV Tryz.results13 rfl (.tail _ (.tail _ (.head _))) ?_
  rfl

/-- chartroom/links.Reach -/
theorem Reach0 (l : Lk) (hE : linkOk l = false ∨ l.by_ ≠ -1) (w : World) :
    Calls Tryz.prog 14 #[.agg nils8, .slice none 0 0, .agg (lkC l)] w (Ret w (.slice none 0 0)) := by
  
  refine enter (vs := [_, _, _]) Tryz.func14 rfl Tryz.ntmps14 rfl ?_
  refine CJ.seq ?_
  refine CJ.region ?_
  refine boxR rfl rfl rfl ?_
  intro b3 w3 hb3 ha3 ho3 hm3 hz3
  simp only [Above] at ha3
  try simp only [Off, book, List.cons_append, List.nil_append, List.set_cons_zero, List.set_cons_succ, ne_eq] at ho3
  refine boxR rfl rfl rfl ?_
  intro b5 w5 hb5 ha5 ho5 hm5 hz5
  simp only [Above] at ha5
  try simp only [Off, book, List.cons_append, List.nil_append, List.set_cons_zero, List.set_cons_succ, ne_eq] at ho5
  refine allW Tryz.zeroValue61 rfl rfl ?_
  intro b6 ha6 ho6
  simp only [Above] at ha6
  try simp only [Off, book, List.cons_append, List.nil_append, List.set_cons_zero, List.set_cons_succ, ne_eq] at ho6
  refine OJ.done ?_
  refine PJ.next ?_
  refine CJ.seq ?_
  refine CJ.region ?_
  refine rv (fun _ h => Op.noConfusion h) rfl rfl (ldRAw_r Tryz.isAgg54 Tryz.sizeOf54 rfl (.tail _ (.head _)) hb3 hm3 (by first | (simp only [Off, book, List.cons_append, List.nil_append, List.set_cons_zero, List.set_cons_succ, List.eraseIdx_cons_zero, List.eraseIdx_cons_succ, ne_eq, and_true]; omega) | (simp [Off] <;> omega)) rfl) ?_
  refine rv (fun _ h => Op.noConfusion h) rfl rfl (mv_r rfl) ?_
  refine rv (fun _ h => Op.noConfusion h) rfl rfl (RV.re (v' := .agg nils9) (bldS_r Tryz.underlying82 Tryz.zeroValue82 (PlF.c Tryz.sizeOf54 (PlF.c Tryz.sizeOf80 (PlF.n))) rfl rfl) (rfl)) ?_
  refine allW Tryz.zeroValue82 rfl rfl ?_
  intro b7 ha7 ho7
  simp only [Above] at ha7
  try simp only [Off, book, List.cons_append, List.nil_append, List.set_cons_zero, List.set_cons_succ, ne_eq] at ho7
  refine stWw (i := 0) rfl Tryz.sizeOf82 rfl rfl rfl rfl rfl rfl ?_
  refine OJ.done ?_
  refine PJ.next ?_
  refine CJ.seq ?_
  refine CJ.seq ?_
  refine CJ.region ?_
  refine rv (fun _ h => Op.noConfusion h) rfl rfl (RV.re (v' := .agg nils9) (ldWAw_r (i := 0) rfl Tryz.isAgg82 Tryz.sizeOf82 rfl rfl) (rfl)) ?_
  refine rv (fun _ h => Op.noConfusion h) rfl rfl (ldRAw_r Tryz.isAgg27 Tryz.sizeOf27 rfl (.head _) hb5 hm5 (by first | (simp only [Off, book, List.cons_append, List.nil_append, List.set_cons_zero, List.set_cons_succ, List.eraseIdx_cons_zero, List.eraseIdx_cons_succ, ne_eq, and_true]; omega) | (simp [Off] <;> omega)) rfl) ?_
  refine rv (fun _ h => Op.noConfusion h) rfl rfl (RV.re (v' := .agg (lkC l)) (bldS_r Tryz.underlying64 Tryz.zeroValue64 (PlF.c Tryz.sizeOf27 (PlF.n)) rfl rfl) (rfl)) ?_
  refine call Tryz.call32 rfl rfl rfl (fun W hS => accepted0 l hE W) ?_
  refine rv (fun _ h => Op.noConfusion h) rfl rfl (notB_r rfl) ?_
  refine OJ.done ?_
  refine PJ.next ?_
  refine CJ.condT rfl ?_
  refine CJ.seq ?_
  refine CJ.region ?_
  refine stWw (i := 1) rfl Tryz.sizeOf61 rfl rfl rfl rfl rfl rfl ?_
  refine OJ.done ?_
  refine PJ.next ?_
  refine CJ.ret ?_
  refine PJ.retThen ?_
  refine retO (.inl rfl) Tryz.results14 (RS.w (i := 1) rfl Tryz.isAgg61 rfl rfl (RS.n)) (.tail _ (.tail _ (.head _))) (by first | (simp only [Over, List.set_cons_zero, List.set_cons_succ, List.eraseIdx_cons_zero, List.eraseIdx_cons_succ, and_true]; omega) | (simp [Over] <;> omega)) ?_
  rfl

def zCap : Array Value := #[.int .i64 0, .int .i64 0, .int .u8 0, .int .u8 0, .int .u8 0, .int .u8 0, .int .u8 0, .int .u8 0, .int .u8 0, .int .u8 0, .int .u8 0, .int .u8 0, .int .u8 0, .int .u8 0, .int .u8 0, .int .u8 0, .int .u8 0, .int .u8 0, .int .u8 0, .int .u8 0, .int .u8 0, .int .u8 0, .int .u8 0, .int .u8 0, .int .u8 0, .int .u8 0, .int .u8 0, .int .u8 0, .int .u8 0, .int .u8 0, .int .u8 0, .int .u8 0, .int .u8 0, .int .u8 0]
/-- chartroom/links.Turn -/
theorem Turn0 (l : Lk) (hE : linkOk l = false ∨ l.by_ ≠ -1) (it : Array Value) (w : World) :
    Calls Tryz.prog 11 #[.agg nils8, .slice none 0 0, .agg (lkC l), .agg it] w (Ret w (.tuple #[.agg zCap, .int .i64 400])) := by
  
  refine enter (vs := [_, _, _, _]) Tryz.func11 rfl Tryz.ntmps11 rfl ?_
  refine CJ.seq ?_
  refine CJ.region ?_
  refine boxR rfl rfl rfl ?_
  intro b4 w4 hb4 ha4 ho4 hm4 hz4
  simp only [Above] at ha4
  try simp only [Off, book, List.cons_append, List.nil_append, List.set_cons_zero, List.set_cons_succ, ne_eq] at ho4
  refine boxR rfl rfl rfl ?_
  intro b6 w6 hb6 ha6 ho6 hm6 hz6
  simp only [Above] at ha6
  try simp only [Off, book, List.cons_append, List.nil_append, List.set_cons_zero, List.set_cons_succ, ne_eq] at ho6
  refine boxR rfl rfl rfl ?_
  intro b7 w7 hb7 ha7 ho7 hm7 hz7
  simp only [Above] at ha7
  try simp only [Off, book, List.cons_append, List.nil_append, List.set_cons_zero, List.set_cons_succ, ne_eq] at ho7
  refine allW Tryz.zeroValue42 rfl rfl ?_
  intro b8 ha8 ho8
  simp only [Above] at ha8
  try simp only [Off, book, List.cons_append, List.nil_append, List.set_cons_zero, List.set_cons_succ, ne_eq] at ho8
  refine allW Tryz.zeroValue32 rfl rfl ?_
  intro b9 ha9 ho9
  simp only [Above] at ha9
  try simp only [Off, book, List.cons_append, List.nil_append, List.set_cons_zero, List.set_cons_succ, ne_eq] at ho9
  refine OJ.done ?_
  refine PJ.next ?_
  refine CJ.seq ?_
  refine CJ.region ?_
  refine rv (fun _ h => Op.noConfusion h) rfl rfl (ldRAw_r Tryz.isAgg54 Tryz.sizeOf54 rfl (.tail _ (.tail _ (.head _))) hb4 hm4 (by first | (simp only [Off, book, List.cons_append, List.nil_append, List.set_cons_zero, List.set_cons_succ, List.eraseIdx_cons_zero, List.eraseIdx_cons_succ, ne_eq, and_true]; omega) | (simp [Off] <;> omega)) rfl) ?_
  refine rv (fun _ h => Op.noConfusion h) rfl rfl (mv_r rfl) ?_
  refine rv (fun _ h => Op.noConfusion h) rfl rfl (RV.re (v' := .agg nils9) (bldS_r Tryz.underlying82 Tryz.zeroValue82 (PlF.c Tryz.sizeOf54 (PlF.c Tryz.sizeOf80 (PlF.n))) rfl rfl) (rfl)) ?_
  refine allW Tryz.zeroValue82 rfl rfl ?_
  intro b10 ha10 ho10
  simp only [Above] at ha10
  try simp only [Off, book, List.cons_append, List.nil_append, List.set_cons_zero, List.set_cons_succ, ne_eq] at ho10
  refine stWw (i := 0) rfl Tryz.sizeOf82 rfl rfl rfl rfl rfl rfl ?_
  refine OJ.done ?_
  refine PJ.next ?_
  refine CJ.seq ?_
  refine CJ.seq ?_
  refine CJ.region ?_
  refine rv (fun _ h => Op.noConfusion h) rfl rfl (RV.re (v' := .agg nils9) (ldWAw_r (i := 0) rfl Tryz.isAgg82 Tryz.sizeOf82 rfl rfl) (rfl)) ?_
  refine rv (fun _ h => Op.noConfusion h) rfl rfl (ldRAw_r Tryz.isAgg27 Tryz.sizeOf27 rfl (.tail _ (.head _)) hb6 hm6 (by first | (simp only [Off, book, List.cons_append, List.nil_append, List.set_cons_zero, List.set_cons_succ, List.eraseIdx_cons_zero, List.eraseIdx_cons_succ, ne_eq, and_true]; omega) | (simp [Off] <;> omega)) rfl) ?_
  refine rv (fun _ h => Op.noConfusion h) rfl rfl (RV.re (v' := .agg (lkC l)) (bldS_r Tryz.underlying64 Tryz.zeroValue64 (PlF.c Tryz.sizeOf27 (PlF.n)) rfl rfl) (rfl)) ?_
  refine call Tryz.call32 rfl rfl rfl (fun W hS => accepted0 l hE W) ?_
  refine rv (fun _ h => Op.noConfusion h) rfl rfl (notB_r rfl) ?_
  refine OJ.done ?_
  refine PJ.next ?_
  refine CJ.condT rfl ?_
  refine CJ.seq ?_
  refine CJ.region ?_
  refine rv (fun _ h => Op.noConfusion h) rfl rfl (ldWAw_r (i := 2) rfl Tryz.isAgg42 Tryz.sizeOf42 rfl rfl) ?_
  refine stWw (i := 2) rfl Tryz.sizeOf42 rfl rfl rfl rfl rfl rfl ?_
  refine stWw (i := 1) rfl Tryz.sizeOf32 rfl rfl rfl rfl rfl rfl ?_
  refine OJ.done ?_
  refine PJ.next ?_
  refine CJ.ret ?_
  refine PJ.retThen ?_
  refine retO (.inl rfl) Tryz.results11 (RS.wA (i := 2) rfl Tryz.isAgg42 Tryz.sizeOf42 rfl (Nat.le_of_ble_eq_true rfl) (RS.w (i := 1) rfl Tryz.isAgg32 rfl rfl (RS.n))) (.tail _ (.tail _ (.tail _ (.head _)))) (by first | (simp only [Over, List.set_cons_zero, List.set_cons_succ, List.eraseIdx_cons_zero, List.eraseIdx_cons_succ, and_true]; omega) | (simp [Over] <;> omega)) ?_
  rfl

end Px
namespace Px
open Go Go.RowKit Go.Proofs
theorem ge_bd {Z : Fx} (hZ : FxOk Z) (k : Int) : 0 ≤ (Z.ge 4 k).1 ∧ (Z.ge 4 k).1 < 4611686018427377339 := by
  rw [← hZ.ge]
  unfold gExp
  split
  · split
    · exact powM_bd 4 k _ (by decide)
    · exact ⟨by decide, by decide⟩
  · exact ⟨by decide, by decide⟩
theorem sAdd_ok (a b : Int) : SOk (sAdd a b).1 := by
  unfold sAdd
  split
  · exact ⟨Int.emod_nonneg _ (by decide), Int.emod_lt_of_pos _ (by decide)⟩
  · exact ⟨by decide, by decide⟩
theorem sigR_bd {Z : Fx} (hZ : FxOk Z) (x : Int) (m : List UInt8) : I64 (sigR Z x m) := by
  have := ge_bd hZ (nonceOf Z x m)
  unfold sigR; exact ⟨by omega, by omega⟩
theorem sigS_bd (Z : Fx) (x : Int) (m : List UInt8) : I64 (sigS Z x m) := by
  have := sAdd_ok (nonceOf Z x m) (sMul (chalOf Z (sigR Z x m) (Z.ge 4 x).1 m) x).1
  unfold sigS; exact ⟨by have := this.1; omega, by have := this.2; omega⟩
def sl (e : Int) (r s : Int) : Lk := ⟨0, 0, 4, 4, e, false, fun _ => 0, r, s⟩
def spl : Lk := ⟨0, 0, 4, 4, 1, false, fun i => if i = 0 then 1 else 0, 0, 0⟩
theorem sl_ok (e r s : Int) (he : I64 e) (hr : I64 r) (hs : I64 s) : LkOk (sl e r s) := ⟨show I64 0 by decide, show I64 0 by decide, show I64 4 by decide, show I64 4 by decide, he, fun _ => show (0 : Int) ≤ 0 ∧ (0 : Int) < 256 by decide, hr, hs⟩
theorem spl_ok : LkOk spl := ⟨by decide, by decide, by decide, by decide, by decide, fun i => by unfold spl; simp only; split <;> decide, by decide, by decide⟩
theorem sl0 : linkOk (sl 0 0 0) = false := by decide +kernel
theorem sl1' : linkOk (sl 1 0 0) = true := by decide +kernel
theorem sl1 (r s : Int) : linkOk (sl 1 r s) = true := sl1'
theorem spl0 : linkOk spl = false := by decide +kernel
theorem zLk0 : linkOk zLk = false := by decide +kernel
theorem kok0 : ¬ KOk 0 := by decide
theorem kok1 : KOk 1 := by decide
theorem kok2 : KOk 2 := by decide
theorem ge1 {Z : Fx} (hZ : FxOk Z) : (Z.ge 4 1).1 = 4 := by rw [← hZ.ge, gExp4 kok1]; decide +kernel
theorem ge2 {Z : Fx} (hZ : FxOk Z) : (Z.ge 4 2).1 ≠ 4 := by rw [← hZ.ge, gExp4 kok2]; decide +kernel
def zEk : Ek := ⟨fun _ => 0, fun _ => 0⟩
theorem mk_a (Z : Fx) : mkT Z (sl 0 0 0) 1 = .tuple #[.agg (lkC zLk), .int .i64 400] := by unfold mkT; rw [if_neg (by rw [sl0]; decide)]
theorem mk_b (Z : Fx) : mkT Z (sl 1 0 0) 0 = .tuple #[.agg (lkC zLk), .int .i64 50] := by unfold mkT; rw [if_pos sl1', if_neg kok0]
theorem mk_d (Z : Fx) : mkT Z spl 1 = .tuple #[.agg (lkC zLk), .int .i64 400] := by unfold mkT; rw [if_neg (by rw [spl0]; decide)]
theorem mk_c {Z : Fx} (hZ : FxOk Z) : ∃ r s, I64 r ∧ I64 s ∧ mkT Z (sl 1 0 0) 1 = .tuple #[.agg (lkC (sl 1 r s)), .int .i64 0] := by
  refine ⟨_, _, sigR_bd hZ 1 (dgU (msgD Z (sl 1 0 0))), sigS_bd Z 1 (dgU (msgD Z (sl 1 0 0))), ?_⟩
  unfold mkT; rw [if_pos sl1', if_pos kok1]; rfl
theorem fa_a {Z : Fx} (hZ : FxOk Z) (r s : Int) : facT Z (sl 1 r s) zEk 0 1 2 = .tuple #[.agg (faC zFa), .int .i64 400] := by
  unfold facT; rw [if_pos ⟨sl1 r s, by decide, by decide⟩, if_pos kok1, if_pos kok2, if_neg (show ¬ (Z.ge 4 2).1 = (sl 1 r s).pub from ge2 hZ)]
theorem fa_b {Z : Fx} (hZ : FxOk Z) (r s : Int) : ∃ n r2 s2, facT Z (sl 1 r s) zEk 0 1 1 = .tuple #[.agg (faC ⟨idD Z (sl 1 r s), fun _ => 0, 0, n, r2, s2⟩), .int .i64 0] := by
  refine ⟨facN Z zEk 1, sigR Z 1 (dgU (fmD Z (facF Z (sl 1 r s) zEk 0 1))), sigS Z 1 (dgU (fmD Z (facF Z (sl 1 r s) zEk 0 1))), ?_⟩
  unfold facT; rw [if_pos ⟨sl1 r s, by decide, by decide⟩, if_pos kok1, if_pos kok1, if_pos (show (Z.ge 4 1).1 = (sl 1 r s).pub from ge1 hZ)]; rfl
theorem zEk_b : Byt zEk.com := fun _ => show (0 : Int) ≤ 0 ∧ (0 : Int) < 256 by decide
theorem zEk_s : Byt zEk.sec := fun _ => show (0 : Int) ≤ 0 ∧ (0 : Int) < 256 by decide
theorem eqD_refl (f : Nat → Int) : eqD f f = true := eqL_refl (ks := repK 32 [.i]) (ys := (dg f).toList) rfl
def zItem : Array Value := #[.int .i64 0, .int .u8 0, .int .u8 0, .int .u8 0, .int .u8 0, .int .u8 0, .int .u8 0, .int .u8 0, .int .u8 0, .int .u8 0, .int .u8 0, .int .u8 0, .int .u8 0, .int .u8 0, .int .u8 0, .int .u8 0, .int .u8 0, .int .u8 0, .int .u8 0, .int .u8 0, .int .u8 0, .int .u8 0, .int .u8 0, .int .u8 0, .int .u8 0, .int .u8 0, .int .u8 0, .int .u8 0, .int .u8 0, .int .u8 0, .int .u8 0, .int .u8 0, .int .u8 0, .int .i64 0, .int .i64 0, .int .i64 0, .int .i64 0, .int .i64 0, .int .i64 0, .int .u8 0, .int .u8 0, .int .u8 0, .int .u8 0, .int .u8 0, .int .u8 0, .int .u8 0, .int .u8 0, .int .u8 0, .int .u8 0, .int .u8 0, .int .u8 0, .int .u8 0, .int .u8 0, .int .u8 0, .int .u8 0, .int .u8 0, .int .u8 0, .int .u8 0, .int .u8 0, .int .u8 0, .int .u8 0, .int .u8 0, .int .u8 0, .int .u8 0, .int .u8 0, .int .u8 0, .int .u8 0, .int .u8 0, .int .u8 0, .int .u8 0, .int .u8 0, .slice none 0 0, .int .i64 0, .int .i64 0]
set_option maxHeartbeats 1600000 in
/-- chartroom/chartroomlaw40.sane -/
theorem law40_sane {Z : Fx} (hZ : FxOk Z) (w : World) (hg : Glb w) :
    Calls Tryz.prog 4 #[] w (Ret w (.bool true)) := by
  have hg4 := hg.lt
  obtain ⟨r, sg, hr, hs, hmk⟩ := mk_c hZ
  obtain ⟨idf, hid⟩ : ∃ f, idD Z (sl 1 r sg) = f := ⟨_, rfl⟩
  obtain ⟨fn, fr_, fs_, hfa⟩ := fa_b hZ r sg
  rw [hid] at hfa
  refine enter (vs := []) Tryz.func4 rfl Tryz.ntmps4 rfl ?_
  refine CJ.seq ?_
  refine CJ.region ?_
  refine rv (fun _ h => Op.noConfusion h) rfl rfl (asg_r rfl) ?_
  refine OJ.done ?_
  refine PJ.next ?_
  refine CJ.seq ?_
  refine CJ.region ?_
  refine rv (fun _ h => Op.noConfusion h) rfl rfl (RV.re (v' := .agg (dg (sl 0 0 0).par)) (bldA_r Tryz.underlying23 Tryz.zeroValue23 Tryz.sizeOf5 rfl rfl) (rfl)) ?_
  refine call Tryz.call5 rfl rfl rfl (fun W hS => by have := links_Make hZ (sl 0 0 0) (sl_ok 0 0 0 (by decide) (by decide) (by decide)) rfl rfl 1 W (hg.old hS (by simp) (fun _ _ h => h) (by first | exact True.intro | (simp only [Over, List.set_cons_zero, List.set_cons_succ, List.eraseIdx_cons_zero, List.eraseIdx_cons_succ, and_true]; omega))); rw [mk_a] at this; exact this) (v := .tuple #[.agg (lkC zLk), .int .i64 400]) ?_
  refine rv (fun _ h => Op.noConfusion h) rfl rfl (mv_r rfl) ?_
  refine rv (fun _ h => Op.noConfusion h) rfl rfl (ext_r rfl rfl) ?_
  refine rv (fun _ h => Op.noConfusion h) rfl rfl (ext_r rfl rfl) ?_
  refine allW Tryz.zeroValue27 rfl rfl ?_
  intro b1 ha1 ho1
  simp only [Above] at ha1
  try simp only [Off, book, List.cons_append, List.nil_append, List.set_cons_zero, List.set_cons_succ, ne_eq] at ho1
  refine stWw (i := 0) rfl Tryz.sizeOf27 rfl rfl rfl rfl rfl rfl ?_
  refine rv (fun _ h => Op.noConfusion h) rfl rfl (asg_r rfl) ?_
  refine OJ.done ?_
  refine PJ.next ?_
  refine CJ.seq ?_
  refine CJ.region ?_
  refine rv (fun _ h => Op.noConfusion h) rfl rfl (RV.re (v' := .agg (dg (sl 1 0 0).par)) (bldA_r Tryz.underlying23 Tryz.zeroValue23 Tryz.sizeOf5 rfl rfl) (rfl)) ?_
  refine call Tryz.call5 rfl rfl rfl (fun W hS => by have := links_Make hZ (sl 1 0 0) (sl_ok 1 0 0 (by decide) (by decide) (by decide)) rfl rfl 0 W (hg.old hS (by simp) (fun _ _ h => h) (by first | exact True.intro | (simp only [Over, List.set_cons_zero, List.set_cons_succ, List.eraseIdx_cons_zero, List.eraseIdx_cons_succ, and_true]; omega))); rw [mk_b] at this; exact this) (v := .tuple #[.agg (lkC zLk), .int .i64 50]) ?_
  refine rv (fun _ h => Op.noConfusion h) rfl rfl (mv_r rfl) ?_
  refine rv (fun _ h => Op.noConfusion h) rfl rfl (ext_r rfl rfl) ?_
  refine rv (fun _ h => Op.noConfusion h) rfl rfl (ext_r rfl rfl) ?_
  refine allW Tryz.zeroValue27 rfl rfl ?_
  intro b3 ha3 ho3
  simp only [Above] at ha3
  try simp only [Off, book, List.cons_append, List.nil_append, List.set_cons_zero, List.set_cons_succ, ne_eq] at ho3
  refine stWw (i := 0) rfl Tryz.sizeOf27 rfl rfl rfl rfl rfl rfl ?_
  refine rv (fun _ h => Op.noConfusion h) rfl rfl (asg_r rfl) ?_
  refine OJ.done ?_
  refine PJ.next ?_
  refine CJ.seq ?_
  refine CJ.region ?_
  refine rv (fun _ h => Op.noConfusion h) rfl rfl (RV.re (v' := .agg (dg (sl 1 0 0).par)) (bldA_r Tryz.underlying23 Tryz.zeroValue23 Tryz.sizeOf5 rfl rfl) (rfl)) ?_
  refine call Tryz.call5 rfl rfl rfl (fun W hS => by have := links_Make hZ (sl 1 0 0) (sl_ok 1 0 0 (by decide) (by decide) (by decide)) rfl rfl 1 W (hg.old hS (by simp) (fun _ _ h => h) (by first | exact True.intro | (simp only [Over, List.set_cons_zero, List.set_cons_succ, List.eraseIdx_cons_zero, List.eraseIdx_cons_succ, and_true]; omega))); rw [hmk] at this; exact this) (v := .tuple #[.agg (lkC (sl 1 r sg)), .int .i64 0]) ?_
  refine rv (fun _ h => Op.noConfusion h) rfl rfl (mv_r rfl) ?_
  refine rv (fun _ h => Op.noConfusion h) rfl rfl (ext_r rfl rfl) ?_
  refine rv (fun _ h => Op.noConfusion h) rfl rfl (ext_r rfl rfl) ?_
  refine allW Tryz.zeroValue27 rfl rfl ?_
  intro b5 ha5 ho5
  simp only [Above] at ha5
  try simp only [Off, book, List.cons_append, List.nil_append, List.set_cons_zero, List.set_cons_succ, ne_eq] at ho5
  refine stWw (i := 0) rfl Tryz.sizeOf27 rfl rfl rfl rfl rfl rfl ?_
  refine rv (fun _ h => Op.noConfusion h) rfl rfl (asg_r rfl) ?_
  refine OJ.done ?_
  refine PJ.next ?_
  refine CJ.seq ?_
  refine CJ.region ?_
  refine rv (fun _ h => Op.noConfusion h) rfl rfl (RV.re (v' := .agg (dg spl.par)) (bldA_r Tryz.underlying23 Tryz.zeroValue23 Tryz.sizeOf5 rfl rfl) (rfl)) ?_
  refine call Tryz.call5 rfl rfl rfl (fun W hS => by have := links_Make hZ spl spl_ok rfl rfl 1 W (hg.old hS (by simp) (fun _ _ h => h) (by first | exact True.intro | (simp only [Over, List.set_cons_zero, List.set_cons_succ, List.eraseIdx_cons_zero, List.eraseIdx_cons_succ, and_true]; omega))); rw [mk_d] at this; exact this) (v := .tuple #[.agg (lkC zLk), .int .i64 400]) ?_
  refine rv (fun _ h => Op.noConfusion h) rfl rfl (mv_r rfl) ?_
  refine rv (fun _ h => Op.noConfusion h) rfl rfl (ext_r rfl rfl) ?_
  refine rv (fun _ h => Op.noConfusion h) rfl rfl (ext_r rfl rfl) ?_
  refine allW Tryz.zeroValue27 rfl rfl ?_
  intro b7 ha7 ho7
  simp only [Above] at ha7
  try simp only [Off, book, List.cons_append, List.nil_append, List.set_cons_zero, List.set_cons_succ, ne_eq] at ho7
  refine stWw (i := 0) rfl Tryz.sizeOf27 rfl rfl rfl rfl rfl rfl ?_
  refine rv (fun _ h => Op.noConfusion h) rfl rfl (asg_r rfl) ?_
  refine OJ.done ?_
  refine PJ.next ?_
  refine CJ.seq ?_
  refine CJ.region ?_
  refine rv (fun _ h => Op.noConfusion h) rfl rfl (RV.re (v' := .agg nils8) (bldS_r Tryz.underlying54 Tryz.zeroValue54 (PlF.c Tryz.sizeOf45 (PlF.c Tryz.sizeOf46 (PlF.c Tryz.sizeOf47 (PlF.c Tryz.sizeOf48 (PlF.c Tryz.sizeOf49 (PlF.c Tryz.sizeOf50 (PlF.c Tryz.sizeOf51 (PlF.c Tryz.sizeOf52 (PlF.n))))))))) rfl rfl) (rfl)) ?_
  refine rv (fun _ h => Op.noConfusion h) rfl rfl (RV.re (v' := .agg (lkC zLk)) (bldS_r Tryz.underlying27 Tryz.zeroValue27 (PlF.c Tryz.sizeOf3 (PlF.c Tryz.sizeOf3 (PlF.c Tryz.sizeOf3 (PlF.c Tryz.sizeOf3 (PlF.c Tryz.sizeOf3 (PlF.c Tryz.sizeOf4 (PlF.c Tryz.sizeOf23 (PlF.c Tryz.sizeOf25 (PlF.n))))))))) rfl rfl) (rfl)) ?_
  refine rv (fun _ h => Op.noConfusion h) rfl rfl (RV.re (v' := .agg zItem) (bldS_r Tryz.underlying57 Tryz.zeroValue57 (PlF.c Tryz.sizeOf3 (PlF.c Tryz.sizeOf23 (PlF.c Tryz.sizeOf3 (PlF.c Tryz.sizeOf3 (PlF.c Tryz.sizeOf3 (PlF.c Tryz.sizeOf3 (PlF.c Tryz.sizeOf42 (PlF.c Tryz.sizeOf55 (PlF.c Tryz.sizeOf25 (PlF.n)))))))))) rfl rfl) (rfl)) ?_
  refine call Tryz.call11 rfl rfl rfl (fun W hS => Turn0 zLk (.inl zLk0) zItem W) ?_
  refine rv (fun _ h => Op.noConfusion h) rfl rfl (mv_r rfl) ?_
  refine rv (fun _ h => Op.noConfusion h) rfl rfl (ext_r rfl rfl) ?_
  refine rv (fun _ h => Op.noConfusion h) rfl rfl (ext_r rfl rfl) ?_
  refine allW Tryz.zeroValue42 rfl rfl ?_
  intro b9 ha9 ho9
  simp only [Above] at ha9
  try simp only [Off, book, List.cons_append, List.nil_append, List.set_cons_zero, List.set_cons_succ, ne_eq] at ho9
  refine stWw (i := 0) rfl Tryz.sizeOf42 rfl rfl rfl rfl rfl rfl ?_
  refine rv (fun _ h => Op.noConfusion h) rfl rfl (asg_r rfl) ?_
  refine OJ.done ?_
  refine PJ.next ?_
  refine CJ.seq ?_
  refine CJ.region ?_
  refine rv (fun _ h => Op.noConfusion h) rfl rfl (RV.re (v' := .agg (lkC (sl 1 r sg))) (ldWAw_r (i := 2) rfl Tryz.isAgg27 Tryz.sizeOf27 rfl rfl) (rfl)) ?_
  refine rv (fun _ h => Op.noConfusion h) rfl rfl (RV.re (v' := .agg (ekC zEk)) (bldS_r Tryz.underlying30 Tryz.zeroValue30 (PlF.c Tryz.sizeOf23 (PlF.c Tryz.sizeOf28 (PlF.n))) rfl rfl) (rfl)) ?_
  refine call Tryz.call7 rfl rfl rfl (fun W hS => by have := links_Factor hZ (sl 1 r sg) (sl_ok 1 r sg (by decide) hr hs) zEk zEk_b zEk_s 0 1 2 W (by decide) (hg.old hS (by simp) (fun _ _ h => h) (by first | exact True.intro | (simp only [Over, List.set_cons_zero, List.set_cons_succ, List.eraseIdx_cons_zero, List.eraseIdx_cons_succ, and_true]; omega))); rw [fa_a hZ] at this; exact this) (v := .tuple #[.agg (faC zFa), .int .i64 400]) ?_
  refine rv (fun _ h => Op.noConfusion h) rfl rfl (mv_r rfl) ?_
  refine rv (fun _ h => Op.noConfusion h) rfl rfl (ext_r rfl rfl) ?_
  refine rv (fun _ h => Op.noConfusion h) rfl rfl (ext_r rfl rfl) ?_
  refine allW Tryz.zeroValue36 rfl rfl ?_
  intro b11 ha11 ho11
  simp only [Above] at ha11
  try simp only [Off, book, List.cons_append, List.nil_append, List.set_cons_zero, List.set_cons_succ, ne_eq] at ho11
  refine stWw (i := 0) rfl Tryz.sizeOf36 rfl rfl rfl rfl rfl rfl ?_
  refine rv (fun _ h => Op.noConfusion h) rfl rfl (asg_r rfl) ?_
  refine OJ.done ?_
  refine PJ.next ?_
  refine CJ.seq ?_
  refine CJ.region ?_
  refine rv (fun _ h => Op.noConfusion h) rfl rfl (RV.re (v' := .agg (lkC (sl 1 r sg))) (ldWAw_r (i := 3) rfl Tryz.isAgg27 Tryz.sizeOf27 rfl rfl) (rfl)) ?_
  refine rv (fun _ h => Op.noConfusion h) rfl rfl (RV.re (v' := .agg (ekC zEk)) (bldS_r Tryz.underlying30 Tryz.zeroValue30 (PlF.c Tryz.sizeOf23 (PlF.c Tryz.sizeOf28 (PlF.n))) rfl rfl) (rfl)) ?_
  refine call Tryz.call7 rfl rfl rfl (fun W hS => by have := links_Factor hZ (sl 1 r sg) (sl_ok 1 r sg (by decide) hr hs) zEk zEk_b zEk_s 0 1 1 W (by decide) (hg.old hS (by simp) (fun _ _ h => h) (by first | exact True.intro | (simp only [Over, List.set_cons_zero, List.set_cons_succ, List.eraseIdx_cons_zero, List.eraseIdx_cons_succ, and_true]; omega))); rw [hfa] at this; exact this) (v := .tuple #[.agg (faC ⟨idf, fun _ => 0, 0, fn, fr_, fs_⟩), .int .i64 0]) ?_
  refine rv (fun _ h => Op.noConfusion h) rfl rfl (mv_r rfl) ?_
  refine rv (fun _ h => Op.noConfusion h) rfl rfl (ext_r rfl rfl) ?_
  refine rv (fun _ h => Op.noConfusion h) rfl rfl (ext_r rfl rfl) ?_
  refine allW Tryz.zeroValue36 rfl rfl ?_
  intro b13 ha13 ho13
  simp only [Above] at ha13
  try simp only [Off, book, List.cons_append, List.nil_append, List.set_cons_zero, List.set_cons_succ, ne_eq] at ho13
  refine stWw (i := 0) rfl Tryz.sizeOf36 rfl rfl rfl rfl rfl rfl ?_
  refine rv (fun _ h => Op.noConfusion h) rfl rfl (asg_r rfl) ?_
  refine OJ.done ?_
  refine PJ.next ?_
  refine CJ.seq ?_
  refine CJ.region ?_
  refine call Tryz.call12 rfl rfl rfl (fun W hS => pubG_no 0 kok0 W) ?_
  refine rv (fun _ h => Op.noConfusion h) rfl rfl (mv_r rfl) ?_
  refine rv (fun _ h => Op.noConfusion h) rfl rfl (ext_r rfl rfl) ?_
  refine rv (fun _ h => Op.noConfusion h) rfl rfl (ext_r rfl rfl) ?_
  refine rv (fun _ h => Op.noConfusion h) rfl rfl (asg_r rfl) ?_
  refine rv (fun _ h => Op.noConfusion h) rfl rfl (asg_r rfl) ?_
  refine OJ.done ?_
  refine PJ.next ?_
  refine CJ.seq ?_
  refine CJ.less (E' := [(0, _), (1, _), (2, _), (3, _), (4, _), (5, _), (6, _), (7, _), (8, _), (9, _), (10, _), (11, _), (12, _), (13, _), (14, _), (16, _), (17, _), (18, _), (19, _), (20, _), (21, _), (22, _), (23, _), (24, _), (25, _), (26, _), (27, _), (28, _), (29, _), (30, _), (31, _), (32, _), (33, _), (34, _), (35, _), (36, _), (37, _), (38, _), (39, _), (40, _), (41, _), (42, _), (43, _), (44, _), (45, _), (46, _), (47, _), (48, _), (49, _), (50, _), (51, _), (52, _), (53, _), (54, _), (55, _), (56, _), (57, _), (58, _), (59, _)]) ⟨rfl, rfl, rfl, rfl, rfl, rfl, rfl, rfl, rfl, rfl, rfl, rfl, rfl, rfl, rfl, rfl, rfl, rfl, rfl, rfl, rfl, rfl, rfl, rfl, rfl, rfl, rfl, rfl, rfl, rfl, rfl, rfl, rfl, rfl, rfl, rfl, rfl, rfl, rfl, rfl, rfl, rfl, rfl, rfl, rfl, rfl, rfl, rfl, rfl, rfl, rfl, rfl, rfl, rfl, rfl, rfl, rfl, rfl, rfl, trivial⟩ ?_
  refine CJ.drwD 58 ((.det [] _) :: (.det [0] _) :: (.det [1] _) :: (.det [2] _) :: (.det [2] _) :: (.det [2, 3, 4] _) :: (.det [2, 5] _) :: (.det [6] _) :: (.det [7] _) :: (.det [7, 8] _) :: (.det [7, 9] _) :: (.det [10] _) :: (.det [11] _) :: (.det [11, 12] _) :: (.det [11, 13] _) :: (.det [14] _) :: (.det [15] _) :: (.det [15, 16] _) :: (.det [15, 17] _) :: (.det [18] _) :: (.det [19] _) :: (.det [19, 20] _) :: (.det [19, 21] _) :: (.det [22] _) :: (.det [23] _) :: (.det [23, 24] _) :: (.det [23, 25] _) :: (.det [26] _) :: (.det [27] _) :: (.det [27, 28] _) :: (.det [27, 29] _) :: (.det [30] _) :: (.det [31] _) :: (.det [31, 32] _) :: (.det [31] _) :: (.det [31, 34] _) :: (.det [31, 33, 35] _) :: (.det [31, 36] _) :: (.det [37] _) :: (.det [38] _) :: (.det [38, 39] _) :: (.det [38, 40] _) :: (.det [38, 41] _) :: (.det [42] _) :: (.det [43] _) :: (.det [43] _) :: (.det [43, 44, 45] _) :: (.det [43, 46] _) :: (.det [43, 47] _) :: (.det [48] _) :: (.det [49] _) :: (.det [49] _) :: (.det [49, 50, 51] _) :: (.det [49, 52] _) :: (.det [49, 53] _) :: (.det [54] _) :: (.det [55] _) :: (.det [55] _) :: []) (by kernel_rfl) (xc (fun vals => X.val (fun _ h => Op.noConfusion h) rfl (mv_r rfl) (fun _ _ => rfl)) (xc (fun vals => X.val (fun _ h => Op.noConfusion h) rfl (RV.re (v' := .bool true) (eqlI_r rfl rfl) rfl) (fun _ _ => rfl)) (xc (fun vals => X.val (fun _ h => Op.noConfusion h) rfl (mv_r rfl) (fun _ _ => rfl)) (xc (fun vals => X.val (fun _ h => Op.noConfusion h) rfl (mv_r rfl) (fun _ _ => rfl)) (xc (fun vals => X.val (fun _ h => Op.noConfusion h) rfl (mv_r rfl) (fun _ _ => rfl)) (xc (fun vals => X.val (fun _ h => Op.noConfusion h) rfl (RV.re (v' := .bool true) (eqlI_r rfl rfl) rfl) (fun _ _ => rfl)) (xc (fun vals => X.val (fun _ h => Op.noConfusion h) rfl (pkT_r rfl rfl) (fun _ _ => rfl)) (xc (fun vals => X.val (fun _ h => Op.noConfusion h) rfl (mv_r rfl) (fun _ _ => rfl)) (xc (fun vals => X.val (fun _ h => Op.noConfusion h) rfl (mv_r rfl) (fun _ _ => rfl)) (xc (fun vals => X.val (fun _ h => Op.noConfusion h) rfl (RV.re (v' := .bool true) (neqI_r rfl rfl) rfl) (fun _ _ => rfl)) (xc (fun vals => X.val (fun _ h => Op.noConfusion h) rfl (pkT_r rfl rfl) (fun _ _ => rfl)) (xc (fun vals => X.val (fun _ h => Op.noConfusion h) rfl (mv_r rfl) (fun _ _ => rfl)) (xc (fun vals => X.val (fun _ h => Op.noConfusion h) rfl (mv_r rfl) (fun _ _ => rfl)) (xc (fun vals => X.val (fun _ h => Op.noConfusion h) rfl (RV.re (v' := .bool true) (eqlI_r rfl rfl) rfl) (fun _ _ => rfl)) (xc (fun vals => X.val (fun _ h => Op.noConfusion h) rfl (pkT_r rfl rfl) (fun _ _ => rfl)) (xc (fun vals => X.val (fun _ h => Op.noConfusion h) rfl (mv_r rfl) (fun _ _ => rfl)) (xc (fun vals => X.val (fun _ h => Op.noConfusion h) rfl (mv_r rfl) (fun _ _ => rfl)) (xc (fun vals => X.val (fun _ h => Op.noConfusion h) rfl (RV.re (v' := .bool true) (eqlI_r rfl rfl) rfl) (fun _ _ => rfl)) (xc (fun vals => X.val (fun _ h => Op.noConfusion h) rfl (pkT_r rfl rfl) (fun _ _ => rfl)) (xc (fun vals => X.val (fun _ h => Op.noConfusion h) rfl (mv_r rfl) (fun _ _ => rfl)) (xc (fun vals => X.val (fun _ h => Op.noConfusion h) rfl (mv_r rfl) (fun _ _ => rfl)) (xc (fun vals => X.val (fun _ h => Op.noConfusion h) rfl (RV.re (v' := .bool true) (eqlI_r rfl rfl) rfl) (fun _ _ => rfl)) (xc (fun vals => X.val (fun _ h => Op.noConfusion h) rfl (pkT_r rfl rfl) (fun _ _ => rfl)) (xc (fun vals => X.val (fun _ h => Op.noConfusion h) rfl (mv_r rfl) (fun _ _ => rfl)) (xc (fun vals => X.val (fun _ h => Op.noConfusion h) rfl (mv_r rfl) (fun _ _ => rfl)) (xc (fun vals => X.val (fun _ h => Op.noConfusion h) rfl (RV.re (v' := .bool true) (eqlI_r rfl rfl) rfl) (fun _ _ => rfl)) (xc (fun vals => X.val (fun _ h => Op.noConfusion h) rfl (pkT_r rfl rfl) (fun _ _ => rfl)) (xc (fun vals => X.val (fun _ h => Op.noConfusion h) rfl (mv_r rfl) (fun _ _ => rfl)) (xc (fun vals => X.val (fun _ h => Op.noConfusion h) rfl (mv_r rfl) (fun _ _ => rfl)) (xc (fun vals => X.val (fun _ h => Op.noConfusion h) rfl (RV.re (v' := .bool true) (eqlI_r rfl rfl) rfl) (fun _ _ => rfl)) (xc (fun vals => X.val (fun _ h => Op.noConfusion h) rfl (pkT_r rfl rfl) (fun _ _ => rfl)) (xc (fun vals => X.val (fun _ h => Op.noConfusion h) rfl (mv_r rfl) (fun _ _ => rfl)) (xc (fun vals => X.val (fun _ h => Op.noConfusion h) rfl (fld_r Tryz.underlying36 rfl Tryz.sizeOf23 rfl) (fun _ _ => rfl)) (xc (fun vals => X.val (fun _ h => Op.noConfusion h) rfl (RV.re (v' := .agg (dg idf)) (ldWA_r (i := 0) rfl Tryz.isAgg23 Tryz.sizeOf23 rfl (Nat.le_of_ble_eq_true rfl)) (rfl)) (fun _ _ => rfl)) (xc (fun vals => X.val (fun _ h => Op.noConfusion h) rfl (RV.re (v' := .agg (lkC (sl 1 r sg))) (ldWAw_r (i := 4) rfl Tryz.isAgg27 Tryz.sizeOf27 rfl rfl) (rfl)) (fun _ _ => rfl)) (xc (fun vals => X.callV Tryz.call9 rfl rfl (fun W hS _ => by rw [← hid]; exact links_ID hZ (sl 1 r sg) (sl_ok 1 r sg (by decide) hr hs) W (hg.old hS (by simp) (fun _ _ h => h) (by first | exact True.intro | (simp only [Over, List.set_cons_zero, List.set_cons_succ, List.eraseIdx_cons_zero, List.eraseIdx_cons_succ, and_true]; omega)))) (fun _ => rfl)) (xc (fun vals => X.val (fun _ h => Op.noConfusion h) rfl (RV.re (v' := .bool true) (eqlA_r eqD_dig (by decide) guard_dig rfl rfl rfl) (congrArg Value.bool (eqD_refl idf))) (fun _ _ => rfl)) (xc (fun vals => X.val (fun _ h => Op.noConfusion h) rfl (pkT_r rfl rfl) (fun _ _ => rfl)) (xc (fun vals => X.val (fun _ h => Op.noConfusion h) rfl (mv_r rfl) (fun _ _ => rfl)) (xc (fun vals => X.val (fun _ h => Op.noConfusion h) rfl (fld_r Tryz.underlying27 rfl Tryz.sizeOf3 rfl) (fun _ _ => rfl)) (xc (fun vals => X.val (fun _ h => Op.noConfusion h) rfl (ldW_r (i := 4) rfl Tryz.isAgg3 rfl rfl) (fun _ _ => rfl)) (xc (fun vals => X.val (fun _ h => Op.noConfusion h) rfl (RV.re (v' := .bool true) (eqlI_r rfl rfl) rfl) (fun _ _ => rfl)) (xc (fun vals => X.val (fun _ h => Op.noConfusion h) rfl (pkT_r rfl rfl) (fun _ _ => rfl)) (xc (fun vals => X.val (fun _ h => Op.noConfusion h) rfl (mv_r rfl) (fun _ _ => rfl)) (xc (fun vals => X.val (fun _ h => Op.noConfusion h) rfl (RV.re (v' := .agg nils8) (bldS_r Tryz.underlying54 Tryz.zeroValue54 (PlF.c Tryz.sizeOf45 (PlF.c Tryz.sizeOf46 (PlF.c Tryz.sizeOf47 (PlF.c Tryz.sizeOf48 (PlF.c Tryz.sizeOf49 (PlF.c Tryz.sizeOf50 (PlF.c Tryz.sizeOf51 (PlF.c Tryz.sizeOf52 (PlF.n))))))))) rfl rfl) (rfl)) (fun _ _ => rfl)) (xc (fun vals => X.val (fun _ h => Op.noConfusion h) rfl (RV.re (v' := .agg (lkC (sl 1 r sg))) (ldWAw_r (i := 4) rfl Tryz.isAgg27 Tryz.sizeOf27 rfl rfl) (rfl)) (fun _ _ => rfl)) (xc (fun vals => X.callV Tryz.call13 rfl rfl (fun W hS _ => Accepted0 (sl 1 r sg) (.inr (show (0 : Int) ≠ -1 by decide)) W) (fun _ => rfl)) (xc (fun vals => X.val (fun _ h => Op.noConfusion h) rfl (RV.re (v' := .bool true) (notB_r rfl) rfl) (fun _ _ => rfl)) (xc (fun vals => X.val (fun _ h => Op.noConfusion h) rfl (pkT_r rfl rfl) (fun _ _ => rfl)) (xc (fun vals => X.val (fun _ h => Op.noConfusion h) rfl (mv_r rfl) (fun _ _ => rfl)) (xc (fun vals => X.val (fun _ h => Op.noConfusion h) rfl (RV.re (v' := .agg nils8) (bldS_r Tryz.underlying54 Tryz.zeroValue54 (PlF.c Tryz.sizeOf45 (PlF.c Tryz.sizeOf46 (PlF.c Tryz.sizeOf47 (PlF.c Tryz.sizeOf48 (PlF.c Tryz.sizeOf49 (PlF.c Tryz.sizeOf50 (PlF.c Tryz.sizeOf51 (PlF.c Tryz.sizeOf52 (PlF.n))))))))) rfl rfl) (rfl)) (fun _ _ => rfl)) (xc (fun vals => X.val (fun _ h => Op.noConfusion h) rfl (RV.re (v' := .agg (lkC zLk)) (bldS_r Tryz.underlying27 Tryz.zeroValue27 (PlF.c Tryz.sizeOf3 (PlF.c Tryz.sizeOf3 (PlF.c Tryz.sizeOf3 (PlF.c Tryz.sizeOf3 (PlF.c Tryz.sizeOf3 (PlF.c Tryz.sizeOf4 (PlF.c Tryz.sizeOf23 (PlF.c Tryz.sizeOf25 (PlF.n))))))))) rfl rfl) (rfl)) (fun _ _ => rfl)) (xc (fun vals => X.callV Tryz.call13 rfl rfl (fun W hS _ => Accepted0 zLk (.inl zLk0) W) (fun _ => rfl)) (xc (fun vals => X.val (fun _ h => Op.noConfusion h) rfl (RV.re (v' := .bool true) (notB_r rfl) rfl) (fun _ _ => rfl)) (xc (fun vals => X.val (fun _ h => Op.noConfusion h) rfl (pkT_r rfl rfl) (fun _ _ => rfl)) (xc (fun vals => X.val (fun _ h => Op.noConfusion h) rfl (mv_r rfl) (fun _ _ => rfl)) (xc (fun vals => X.val (fun _ h => Op.noConfusion h) rfl (RV.re (v' := .agg nils8) (bldS_r Tryz.underlying54 Tryz.zeroValue54 (PlF.c Tryz.sizeOf45 (PlF.c Tryz.sizeOf46 (PlF.c Tryz.sizeOf47 (PlF.c Tryz.sizeOf48 (PlF.c Tryz.sizeOf49 (PlF.c Tryz.sizeOf50 (PlF.c Tryz.sizeOf51 (PlF.c Tryz.sizeOf52 (PlF.n))))))))) rfl rfl) (rfl)) (fun _ _ => rfl)) (xc (fun vals => X.val (fun _ h => Op.noConfusion h) rfl (RV.re (v' := .agg (lkC (sl 1 r sg))) (ldWAw_r (i := 4) rfl Tryz.isAgg27 Tryz.sizeOf27 rfl rfl) (rfl)) (fun _ _ => rfl)) (xn))))))))))))))))))))))))))))))))))))))))))))))))))))))))))) (by kernel_rfl) (by kernel_rfl) (by kernel_rfl) (fun vals => ?_)
  refine call Tryz.call14 rfl rfl rfl (fun W hS => Reach0 (sl 1 r sg) (.inr (show (0 : Int) ≠ -1 by decide)) W) ?_
  refine rv (fun _ h => Op.noConfusion h) rfl rfl (lenS_r Tryz.underlying61 rfl) ?_
  refine rv (fun _ h => Op.noConfusion h) rfl rfl (RV.re (v' := .bool true) (eqlI_r rfl rfl) rfl) ?_
  refine rv (fun _ h => Op.noConfusion h) rfl rfl (pkT_r rfl rfl) ?_
  refine rv (fun _ h => Op.noConfusion h) rfl rfl (asg_r rfl) ?_
  refine OJ.done ?_
  refine PJ.next ?_
  refine CJ.ret ?_
  refine retO (.inl rfl) Tryz.results4 (RS.t rfl (RS.n)) (.head _) (by first | (simp only [Over, List.set_cons_zero, List.set_cons_succ, List.eraseIdx_cons_zero, List.eraseIdx_cons_succ, and_true]; omega) | (simp [Over] <;> omega)) ?_
  rfl

end Px
namespace Px
open Go Go.RowKit Go.Proofs
def ks23 : List TK := repK 32 [.i]
theorem eqA23 : EqA Tryz.prog 2 23 ks23 := EqA.array Tryz.underlying23 Tryz.sizeOf5 rfl ((EqP.int Tryz.underlying5 Tryz.isAgg5).up (by decide) : EqP Tryz.prog 1 5 [.i])
theorem eqG23 : Tryz.prog.eqGuardType Tryz.prog.depth 23 = false := by kernel_rfl
def ks25 : List TK := [.i] ++ ([.i] ++ ([]))
theorem eqA25 : EqA Tryz.prog 2 25 ks25 := EqA.struct Tryz.underlying25 (by kernel_rfl) (EqFs.c rfl (by decide) ((EqP.int Tryz.underlying3 Tryz.isAgg3).up (by decide) : EqP Tryz.prog 1 3 [.i]) (EqFs.c rfl (by decide) ((EqP.int Tryz.underlying3 Tryz.isAgg3).up (by decide) : EqP Tryz.prog 1 3 [.i]) (EqFs.n)))
theorem eqG25 : Tryz.prog.eqGuardType Tryz.prog.depth 25 = false := by kernel_rfl
def ks27 : List TK := [.i] ++ ([.i] ++ ([.i] ++ ([.i] ++ ([.i] ++ ([.b] ++ (ks23 ++ (ks25 ++ ([]))))))))
theorem eqA27 : EqA Tryz.prog 3 27 ks27 := EqA.struct Tryz.underlying27 (by kernel_rfl) (EqFs.c rfl (by decide) ((EqP.int Tryz.underlying3 Tryz.isAgg3).up (by decide) : EqP Tryz.prog 2 3 [.i]) (EqFs.c rfl (by decide) ((EqP.int Tryz.underlying3 Tryz.isAgg3).up (by decide) : EqP Tryz.prog 2 3 [.i]) (EqFs.c rfl (by decide) ((EqP.int Tryz.underlying3 Tryz.isAgg3).up (by decide) : EqP Tryz.prog 2 3 [.i]) (EqFs.c rfl (by decide) ((EqP.int Tryz.underlying3 Tryz.isAgg3).up (by decide) : EqP Tryz.prog 2 3 [.i]) (EqFs.c rfl (by decide) ((EqP.int Tryz.underlying3 Tryz.isAgg3).up (by decide) : EqP Tryz.prog 2 3 [.i]) (EqFs.c rfl (by decide) ((EqP.bool Tryz.underlying4 Tryz.isAgg4).up (by decide) : EqP Tryz.prog 2 4 [.b]) (EqFs.c rfl (by decide) ((EqP.agg Tryz.isAgg23 Tryz.sizeOf23 rfl eqA23).up (by decide) : EqP Tryz.prog 2 23 ks23) (EqFs.c rfl (by decide) ((EqP.agg Tryz.isAgg25 Tryz.sizeOf25 rfl eqA25).up (by decide) : EqP Tryz.prog 2 25 ks25) (EqFs.n)))))))))
theorem eqG27 : Tryz.prog.eqGuardType Tryz.prog.depth 27 = false := by kernel_rfl
def ks36 : List TK := ks23 ++ (ks23 ++ ([.i] ++ ([.i] ++ (ks25 ++ ([])))))
theorem eqA36 : EqA Tryz.prog 3 36 ks36 := EqA.struct Tryz.underlying36 (by kernel_rfl) (EqFs.c rfl (by decide) ((EqP.agg Tryz.isAgg23 Tryz.sizeOf23 rfl eqA23).up (by decide) : EqP Tryz.prog 2 23 ks23) (EqFs.c rfl (by decide) ((EqP.agg Tryz.isAgg23 Tryz.sizeOf23 rfl eqA23).up (by decide) : EqP Tryz.prog 2 23 ks23) (EqFs.c rfl (by decide) ((EqP.int Tryz.underlying3 Tryz.isAgg3).up (by decide) : EqP Tryz.prog 2 3 [.i]) (EqFs.c rfl (by decide) ((EqP.int Tryz.underlying3 Tryz.isAgg3).up (by decide) : EqP Tryz.prog 2 3 [.i]) (EqFs.c rfl (by decide) ((EqP.agg Tryz.isAgg25 Tryz.sizeOf25 rfl eqA25).up (by decide) : EqP Tryz.prog 2 25 ks25) (EqFs.n))))))
theorem eqG36 : Tryz.prog.eqGuardType Tryz.prog.depth 36 = false := by kernel_rfl
theorem mk_sh (Z : Fx) (l : Lk) (x : Int) : ∃ l2 e, mkT Z l x = .tuple #[.agg (lkC l2), .int .i64 e] := by
  unfold mkT
  split
  · split
    · exact ⟨_, _, rfl⟩
    · exact ⟨_, _, rfl⟩
  · exact ⟨_, _, rfl⟩
theorem fa_sh (Z : Fx) (l : Lk) (k : Ek) (b x s : Int) : ∃ f e, facT Z l k b x s = .tuple #[.agg (faC f), .int .i64 e] := by
  unfold facT
  split
  · split
    · split
      · split
        · exact ⟨_, _, rfl⟩
        · exact ⟨_, _, rfl⟩
      · exact ⟨_, _, rfl⟩
    · exact ⟨_, _, rfl⟩
  · exact ⟨_, _, rfl⟩
def lz (l : Lk) : Lk := { l with sr := 0, ss := 0 }
theorem lz_ok {l : Lk} (h : LkOk l) : LkOk (lz l) := ⟨h.fo, h.by_, h.pub, h.ver, h.exp, h.par, show I64 0 by decide, show I64 0 by decide⟩
theorem eqLk (l : Lk) : eqL (lkC l).toList (lkC l).toList = true := eqL_refl (ks := ks27) (ys := (lkC l).toList) rfl
theorem eqFa (f : Fa) : eqL (faC f).toList (faC f).toList = true := eqL_refl (ks := ks36) (ys := (faC f).toList) rfl
set_option maxHeartbeats 1600000 in
/-- chartroom/chartroomlaw40.LinksMakeSpec -/
theorem law40_LinksMakeSpec {Z : Fx} (hZ : FxOk Z) (l : Lk) (hl : LkOk l) (k : Ek) (hkc : Byt k.com) (hks : Byt k.sec) (b x sec : Int) (w : World) (hb1 : I64 b) (hg : Glb w) :
    Calls Tryz.prog 3 #[.agg (lkC l), .agg (ekC k), .int .i64 b, .int .i64 x, .int .i64 sec] w (Ret w (.bool true)) := by
  have hg4 := hg.lt
  obtain ⟨l2, e1, hmk⟩ := mk_sh Z (lz l) x
  obtain ⟨f2, e2, hfa⟩ := fa_sh Z l k b x sec
  obtain ⟨idf, hid⟩ : ∃ idf, idD Z l = idf := ⟨_, rfl⟩
  refine enter (vs := [_, _, _, _, _]) Tryz.func3 rfl Tryz.ntmps3 rfl ?_
  refine CJ.seq ?_
  refine CJ.region ?_
  refine boxR rfl rfl rfl ?_
  intro b5 w5 hb5 ha5 ho5 hm5 hz5
  simp only [Above] at ha5
  try simp only [Off, book, List.cons_append, List.nil_append, List.set_cons_zero, List.set_cons_succ, ne_eq] at ho5
  refine boxR rfl rfl rfl ?_
  intro b6 w6 hb6 ha6 ho6 hm6 hz6
  simp only [Above] at ha6
  try simp only [Off, book, List.cons_append, List.nil_append, List.set_cons_zero, List.set_cons_succ, ne_eq] at ho6
  refine rv (fun _ h => Op.noConfusion h) rfl rfl (asg_r rfl) ?_
  refine OJ.done ?_
  refine PJ.next ?_
  refine CJ.seq ?_
  refine CJ.seq ?_
  refine CJ.region ?_
  refine call Tryz.call4 rfl rfl rfl (fun W hS => law40_sane hZ W (hg.old hS (by simp) (fun _ _ h => h) (by first | exact True.intro | (simp only [Over, List.set_cons_zero, List.set_cons_succ, List.eraseIdx_cons_zero, List.eraseIdx_cons_succ, and_true]; omega)))) ?_
  refine rv (fun _ h => Op.noConfusion h) rfl rfl (notB_r rfl) ?_
  refine OJ.done ?_
  refine PJ.next ?_
  refine CJ.condF rfl ?_
  refine CJ.skip ?_
  refine PJ.next ?_
  refine CJ.seq ?_
  refine CJ.region ?_
  refine rv (fun _ h => Op.noConfusion h) rfl rfl (fld_r Tryz.underlying27 rfl Tryz.sizeOf3 rfl) ?_
  refine rv (fun _ h => Op.noConfusion h) rfl rfl (ldR_r Tryz.isAgg3 rfl (.tail _ (.head _)) hb5 hm5 trivial rfl) ?_
  refine rv (fun _ h => Op.noConfusion h) rfl rfl (fld_r Tryz.underlying27 rfl Tryz.sizeOf3 rfl) ?_
  refine rv (fun _ h => Op.noConfusion h) rfl rfl (ldR_r Tryz.isAgg3 rfl (.tail _ (.head _)) hb5 hm5 trivial rfl) ?_
  refine rv (fun _ h => Op.noConfusion h) rfl rfl (fld_r Tryz.underlying27 rfl Tryz.sizeOf3 rfl) ?_
  refine rv (fun _ h => Op.noConfusion h) rfl rfl (ldR_r Tryz.isAgg3 rfl (.tail _ (.head _)) hb5 hm5 trivial rfl) ?_
  refine rv (fun _ h => Op.noConfusion h) rfl rfl (fld_r Tryz.underlying27 rfl Tryz.sizeOf3 rfl) ?_
  refine rv (fun _ h => Op.noConfusion h) rfl rfl (ldR_r Tryz.isAgg3 rfl (.tail _ (.head _)) hb5 hm5 trivial rfl) ?_
  refine rv (fun _ h => Op.noConfusion h) rfl rfl (fld_r Tryz.underlying27 rfl Tryz.sizeOf3 rfl) ?_
  refine rv (fun _ h => Op.noConfusion h) rfl rfl (ldR_r Tryz.isAgg3 rfl (.tail _ (.head _)) hb5 hm5 trivial rfl) ?_
  refine rv (fun _ h => Op.noConfusion h) rfl rfl (fld_r Tryz.underlying27 rfl Tryz.sizeOf4 rfl) ?_
  refine rv (fun _ h => Op.noConfusion h) rfl rfl (ldR_r Tryz.isAgg4 rfl (.tail _ (.head _)) hb5 hm5 trivial rfl) ?_
  refine rv (fun _ h => Op.noConfusion h) rfl rfl (fld_r Tryz.underlying27 rfl Tryz.sizeOf23 rfl) ?_
  refine rv (fun _ h => Op.noConfusion h) rfl rfl (RV.re (v' := .agg (dg (lz l).par)) (ldRA_r Tryz.isAgg23 Tryz.sizeOf23 rfl (.tail _ (.head _)) hb5 hm5 trivial (Nat.le_of_ble_eq_true rfl)) (rfl)) ?_
  refine rv (fun _ h => Op.noConfusion h) rfl rfl (mv_r rfl) ?_
  refine call Tryz.call5 rfl rfl rfl (fun W hS => by have := links_Make hZ (lz l) (lz_ok hl) rfl rfl x W (hg.old hS (by simp) (fun _ _ h => h) (by first | exact True.intro | (simp only [Over, List.set_cons_zero, List.set_cons_succ, List.eraseIdx_cons_zero, List.eraseIdx_cons_succ, and_true]; omega))); rw [hmk] at this; exact this) (v := .tuple #[.agg (lkC l2), .int .i64 e1]) ?_
  refine rv (fun _ h => Op.noConfusion h) rfl rfl (mv_r rfl) ?_
  refine rv (fun _ h => Op.noConfusion h) rfl rfl (ext_r rfl rfl) ?_
  refine rv (fun _ h => Op.noConfusion h) rfl rfl (ext_r rfl rfl) ?_
  refine allW Tryz.zeroValue27 rfl rfl ?_
  intro b11 ha11 ho11
  simp only [Above] at ha11
  try simp only [Off, book, List.cons_append, List.nil_append, List.set_cons_zero, List.set_cons_succ, ne_eq] at ho11
  refine stWw (i := 0) rfl Tryz.sizeOf27 rfl rfl rfl rfl rfl rfl ?_
  refine rv (fun _ h => Op.noConfusion h) rfl rfl (asg_r rfl) ?_
  refine OJ.done ?_
  refine PJ.next ?_
  refine CJ.seq ?_
  refine CJ.region ?_
  refine rv (fun _ h => Op.noConfusion h) rfl rfl (fld_r Tryz.underlying27 rfl Tryz.sizeOf3 rfl) ?_
  refine rv (fun _ h => Op.noConfusion h) rfl rfl (ldR_r Tryz.isAgg3 rfl (.tail _ (.head _)) hb5 hm5 (by first | (simp only [Off, book, List.cons_append, List.nil_append, List.set_cons_zero, List.set_cons_succ, List.eraseIdx_cons_zero, List.eraseIdx_cons_succ, ne_eq, and_true]; omega) | (simp [Off] <;> omega)) rfl) ?_
  refine rv (fun _ h => Op.noConfusion h) rfl rfl (fld_r Tryz.underlying27 rfl Tryz.sizeOf3 rfl) ?_
  refine rv (fun _ h => Op.noConfusion h) rfl rfl (ldR_r Tryz.isAgg3 rfl (.tail _ (.head _)) hb5 hm5 (by first | (simp only [Off, book, List.cons_append, List.nil_append, List.set_cons_zero, List.set_cons_succ, List.eraseIdx_cons_zero, List.eraseIdx_cons_succ, ne_eq, and_true]; omega) | (simp [Off] <;> omega)) rfl) ?_
  refine rv (fun _ h => Op.noConfusion h) rfl rfl (fld_r Tryz.underlying27 rfl Tryz.sizeOf3 rfl) ?_
  refine rv (fun _ h => Op.noConfusion h) rfl rfl (ldR_r Tryz.isAgg3 rfl (.tail _ (.head _)) hb5 hm5 (by first | (simp only [Off, book, List.cons_append, List.nil_append, List.set_cons_zero, List.set_cons_succ, List.eraseIdx_cons_zero, List.eraseIdx_cons_succ, ne_eq, and_true]; omega) | (simp [Off] <;> omega)) rfl) ?_
  refine rv (fun _ h => Op.noConfusion h) rfl rfl (fld_r Tryz.underlying27 rfl Tryz.sizeOf3 rfl) ?_
  refine rv (fun _ h => Op.noConfusion h) rfl rfl (ldR_r Tryz.isAgg3 rfl (.tail _ (.head _)) hb5 hm5 (by first | (simp only [Off, book, List.cons_append, List.nil_append, List.set_cons_zero, List.set_cons_succ, List.eraseIdx_cons_zero, List.eraseIdx_cons_succ, ne_eq, and_true]; omega) | (simp [Off] <;> omega)) rfl) ?_
  refine rv (fun _ h => Op.noConfusion h) rfl rfl (fld_r Tryz.underlying27 rfl Tryz.sizeOf3 rfl) ?_
  refine rv (fun _ h => Op.noConfusion h) rfl rfl (ldR_r Tryz.isAgg3 rfl (.tail _ (.head _)) hb5 hm5 (by first | (simp only [Off, book, List.cons_append, List.nil_append, List.set_cons_zero, List.set_cons_succ, List.eraseIdx_cons_zero, List.eraseIdx_cons_succ, ne_eq, and_true]; omega) | (simp [Off] <;> omega)) rfl) ?_
  refine rv (fun _ h => Op.noConfusion h) rfl rfl (fld_r Tryz.underlying27 rfl Tryz.sizeOf4 rfl) ?_
  refine rv (fun _ h => Op.noConfusion h) rfl rfl (ldR_r Tryz.isAgg4 rfl (.tail _ (.head _)) hb5 hm5 (by first | (simp only [Off, book, List.cons_append, List.nil_append, List.set_cons_zero, List.set_cons_succ, List.eraseIdx_cons_zero, List.eraseIdx_cons_succ, ne_eq, and_true]; omega) | (simp [Off] <;> omega)) rfl) ?_
  refine rv (fun _ h => Op.noConfusion h) rfl rfl (fld_r Tryz.underlying27 rfl Tryz.sizeOf23 rfl) ?_
  refine rv (fun _ h => Op.noConfusion h) rfl rfl (RV.re (v' := .agg (dg (lz l).par)) (ldRA_r Tryz.isAgg23 Tryz.sizeOf23 rfl (.tail _ (.head _)) hb5 hm5 (by first | (simp only [Off, book, List.cons_append, List.nil_append, List.set_cons_zero, List.set_cons_succ, List.eraseIdx_cons_zero, List.eraseIdx_cons_succ, ne_eq, and_true]; omega) | (simp [Off] <;> omega)) (Nat.le_of_ble_eq_true rfl)) (rfl)) ?_
  refine rv (fun _ h => Op.noConfusion h) rfl rfl (mv_r rfl) ?_
  refine call Tryz.call6 rfl rfl rfl (fun W hS => by have := r40_Make hZ (lz l) (lz_ok hl) rfl rfl x W; rw [hmk] at this; exact this) (v := .tuple #[.agg (lkC l2), .int .i64 e1]) ?_
  refine rv (fun _ h => Op.noConfusion h) rfl rfl (mv_r rfl) ?_
  refine rv (fun _ h => Op.noConfusion h) rfl rfl (ext_r rfl rfl) ?_
  refine rv (fun _ h => Op.noConfusion h) rfl rfl (ext_r rfl rfl) ?_
  refine allW Tryz.zeroValue27 rfl rfl ?_
  intro b13 ha13 ho13
  simp only [Above] at ha13
  try simp only [Off, book, List.cons_append, List.nil_append, List.set_cons_zero, List.set_cons_succ, ne_eq] at ho13
  refine stWw (i := 0) rfl Tryz.sizeOf27 rfl rfl rfl rfl rfl rfl ?_
  refine rv (fun _ h => Op.noConfusion h) rfl rfl (asg_r rfl) ?_
  refine OJ.done ?_
  refine PJ.next ?_
  refine CJ.seq ?_
  refine CJ.region ?_
  refine rv (fun _ h => Op.noConfusion h) rfl rfl (RV.re (v' := .agg (lkC l)) (ldRAw_r Tryz.isAgg27 Tryz.sizeOf27 rfl (.tail _ (.head _)) hb5 hm5 (by first | (simp only [Off, book, List.cons_append, List.nil_append, List.set_cons_zero, List.set_cons_succ, List.eraseIdx_cons_zero, List.eraseIdx_cons_succ, ne_eq, and_true]; omega) | (simp [Off] <;> omega)) rfl) (rfl)) ?_
  refine rv (fun _ h => Op.noConfusion h) rfl rfl (RV.re (v' := .agg (ekC k)) (ldRAw_r Tryz.isAgg30 Tryz.sizeOf30 rfl (.head _) hb6 hm6 (by first | (simp only [Off, book, List.cons_append, List.nil_append, List.set_cons_zero, List.set_cons_succ, List.eraseIdx_cons_zero, List.eraseIdx_cons_succ, ne_eq, and_true]; omega) | (simp [Off] <;> omega)) rfl) (rfl)) ?_
  refine rv (fun _ h => Op.noConfusion h) rfl rfl (mv_r rfl) ?_
  refine rv (fun _ h => Op.noConfusion h) rfl rfl (mv_r rfl) ?_
  refine rv (fun _ h => Op.noConfusion h) rfl rfl (mv_r rfl) ?_
  refine call Tryz.call7 rfl rfl rfl (fun W hS => by have := links_Factor hZ l hl k hkc hks b x sec W hb1 (hg.old hS (by simp) (fun _ _ h => h) (by first | exact True.intro | (simp only [Over, List.set_cons_zero, List.set_cons_succ, List.eraseIdx_cons_zero, List.eraseIdx_cons_succ, and_true]; omega))); rw [hfa] at this; exact this) (v := .tuple #[.agg (faC f2), .int .i64 e2]) ?_
  refine rv (fun _ h => Op.noConfusion h) rfl rfl (mv_r rfl) ?_
  refine rv (fun _ h => Op.noConfusion h) rfl rfl (ext_r rfl rfl) ?_
  refine rv (fun _ h => Op.noConfusion h) rfl rfl (ext_r rfl rfl) ?_
  refine allW Tryz.zeroValue36 rfl rfl ?_
  intro b15 ha15 ho15
  simp only [Above] at ha15
  try simp only [Off, book, List.cons_append, List.nil_append, List.set_cons_zero, List.set_cons_succ, ne_eq] at ho15
  refine stWw (i := 0) rfl Tryz.sizeOf36 rfl rfl rfl rfl rfl rfl ?_
  refine rv (fun _ h => Op.noConfusion h) rfl rfl (asg_r rfl) ?_
  refine OJ.done ?_
  refine PJ.next ?_
  refine CJ.seq ?_
  refine CJ.region ?_
  refine rv (fun _ h => Op.noConfusion h) rfl rfl (RV.re (v' := .agg (lkC l)) (ldRAw_r Tryz.isAgg27 Tryz.sizeOf27 rfl (.tail _ (.head _)) hb5 hm5 (by first | (simp only [Off, book, List.cons_append, List.nil_append, List.set_cons_zero, List.set_cons_succ, List.eraseIdx_cons_zero, List.eraseIdx_cons_succ, ne_eq, and_true]; omega) | (simp [Off] <;> omega)) rfl) (rfl)) ?_
  refine rv (fun _ h => Op.noConfusion h) rfl rfl (RV.re (v' := .agg (ekC k)) (ldRAw_r Tryz.isAgg30 Tryz.sizeOf30 rfl (.head _) hb6 hm6 (by first | (simp only [Off, book, List.cons_append, List.nil_append, List.set_cons_zero, List.set_cons_succ, List.eraseIdx_cons_zero, List.eraseIdx_cons_succ, ne_eq, and_true]; omega) | (simp [Off] <;> omega)) rfl) (rfl)) ?_
  refine rv (fun _ h => Op.noConfusion h) rfl rfl (mv_r rfl) ?_
  refine rv (fun _ h => Op.noConfusion h) rfl rfl (mv_r rfl) ?_
  refine rv (fun _ h => Op.noConfusion h) rfl rfl (mv_r rfl) ?_
  refine call Tryz.call8 rfl rfl rfl (fun W hS => by have := r40_Factor hZ l hl k hkc hks b x sec W hb1; rw [hfa] at this; exact this) (v := .tuple #[.agg (faC f2), .int .i64 e2]) ?_
  refine rv (fun _ h => Op.noConfusion h) rfl rfl (mv_r rfl) ?_
  refine rv (fun _ h => Op.noConfusion h) rfl rfl (ext_r rfl rfl) ?_
  refine rv (fun _ h => Op.noConfusion h) rfl rfl (ext_r rfl rfl) ?_
  refine allW Tryz.zeroValue36 rfl rfl ?_
  intro b17 ha17 ho17
  simp only [Above] at ha17
  try simp only [Off, book, List.cons_append, List.nil_append, List.set_cons_zero, List.set_cons_succ, ne_eq] at ho17
  refine stWw (i := 0) rfl Tryz.sizeOf36 rfl rfl rfl rfl rfl rfl ?_
  refine rv (fun _ h => Op.noConfusion h) rfl rfl (asg_r rfl) ?_
  refine OJ.done ?_
  refine PJ.next ?_
  refine CJ.seq ?_
  refine CJ.less (E' := [(0, _), (1, _), (2, _), (3, _), (4, _), (5, _), (6, _), (10, _), (11, _), (12, _), (13, _), (14, _), (15, _), (16, _), (17, _), (18, _), (19, _), (20, _), (21, _), (22, _), (23, _), (24, _), (25, _), (26, _), (27, _), (28, _), (29, _), (30, _), (31, _), (32, _), (33, _), (34, _), (35, _), (36, _), (37, _), (38, _), (39, _), (40, _), (41, _), (42, _), (43, _), (44, _), (45, _), (46, _), (47, _), (48, _), (49, _), (50, _), (51, _), (52, _), (53, _), (54, _), (55, _), (56, _), (57, _), (58, _), (59, _), (60, _), (61, _), (62, _), (63, _), (64, _), (65, _), (66, _), (67, _), (68, _), (69, _), (70, _), (71, _), (72, _), (73, _), (74, _), (75, _), (76, _)]) ⟨rfl, rfl, rfl, rfl, rfl, rfl, rfl, rfl, rfl, rfl, rfl, rfl, rfl, rfl, rfl, rfl, rfl, rfl, rfl, rfl, rfl, rfl, rfl, rfl, rfl, rfl, rfl, rfl, rfl, rfl, rfl, rfl, rfl, rfl, rfl, rfl, rfl, rfl, rfl, rfl, rfl, rfl, rfl, rfl, rfl, rfl, rfl, rfl, rfl, rfl, rfl, rfl, rfl, rfl, rfl, rfl, rfl, rfl, rfl, rfl, rfl, rfl, rfl, rfl, rfl, rfl, rfl, rfl, rfl, rfl, rfl, rfl, rfl, rfl, trivial⟩ ?_
  refine CJ.drwD 23 [.det [] _, .det [] _, .det [0, 1] _, .det [2] _, .det [3] _, .det [3] _, .det [3, 4, 5] _, .det [3, 6] _, .det [7] _, .det [8] _, .det [8, 9] _, .det [8] _, .det [8, 11] _, .det [8, 10, 12] _, .det [8, 13] _, .det [14] _, .det [15] _, .det [15] _, .det [15, 16, 17] _, .det [15, 18] _, .det [19] _, .det [20] _, .det [20] _] (by kernel_rfl) (xc (fun vals => X.val (fun _ h => Op.noConfusion h) rfl (RV.re (v' := .agg (lkC l2)) (ldWAw_r (i := 3) rfl Tryz.isAgg27 Tryz.sizeOf27 rfl rfl) (rfl)) (fun _ _ => rfl)) (xc (fun vals => X.val (fun _ h => Op.noConfusion h) rfl (RV.re (v' := .agg (lkC l2)) (ldWAw_r (i := 2) rfl Tryz.isAgg27 Tryz.sizeOf27 rfl rfl) (rfl)) (fun _ _ => rfl)) (xc (fun vals => X.val (fun _ h => Op.noConfusion h) rfl (RV.re (v' := .bool true) (eqlA_r eqA27 (by decide) eqG27 rfl rfl rfl) (congrArg Value.bool (eqLk l2))) (fun _ _ => rfl)) (xc (fun vals => X.val (fun _ h => Op.noConfusion h) rfl (mv_r rfl) (fun _ _ => rfl)) (xc (fun vals => X.val (fun _ h => Op.noConfusion h) rfl (mv_r rfl) (fun _ _ => rfl)) (xc (fun vals => X.val (fun _ h => Op.noConfusion h) rfl (mv_r rfl) (fun _ _ => rfl)) (xc (fun vals => X.val (fun _ h => Op.noConfusion h) rfl (RV.re (v' := .bool true) (eqlI_r rfl rfl) (congrArg Value.bool (decide_eq_true rfl))) (fun _ _ => rfl)) (xc (fun vals => X.val (fun _ h => Op.noConfusion h) rfl (pkT_r rfl rfl) (fun _ _ => rfl)) (xc (fun vals => X.val (fun _ h => Op.noConfusion h) rfl (mv_r rfl) (fun _ _ => rfl)) (xc (fun vals => X.val (fun _ h => Op.noConfusion h) rfl (RV.re (v' := .agg (lkC l)) (ldRAw_r Tryz.isAgg27 Tryz.sizeOf27 rfl (.tail _ (.head _)) hb5 hm5 (by first | (simp only [Off, book, List.cons_append, List.nil_append, List.set_cons_zero, List.set_cons_succ, List.eraseIdx_cons_zero, List.eraseIdx_cons_succ, ne_eq, and_true]; omega) | (simp [Off] <;> omega)) rfl) (rfl)) (fun _ _ => rfl)) (xc (fun vals => X.callV Tryz.call9 rfl rfl (fun W hS _ => by rw [← hid]; exact links_ID hZ l hl W (hg.old hS (by simp) (fun _ _ h => h) (by first | exact True.intro | (simp only [Over, List.set_cons_zero, List.set_cons_succ, List.eraseIdx_cons_zero, List.eraseIdx_cons_succ, and_true]; omega)))) (fun _ => rfl)) (xc (fun vals => X.val (fun _ h => Op.noConfusion h) rfl (RV.re (v' := .agg (lkC l)) (ldRAw_r Tryz.isAgg27 Tryz.sizeOf27 rfl (.tail _ (.head _)) hb5 hm5 (by first | (simp only [Off, book, List.cons_append, List.nil_append, List.set_cons_zero, List.set_cons_succ, List.eraseIdx_cons_zero, List.eraseIdx_cons_succ, ne_eq, and_true]; omega) | (simp [Off] <;> omega)) rfl) (rfl)) (fun _ _ => rfl)) (xc (fun vals => X.callV Tryz.call10 rfl rfl (fun W hS _ => by rw [← hid]; exact r40_ID hZ l hl W) (fun _ => rfl)) (xc (fun vals => X.val (fun _ h => Op.noConfusion h) rfl (RV.re (v' := .bool true) (eqlA_r eqD_dig (by decide) guard_dig rfl rfl rfl) (congrArg Value.bool (eqD_refl idf))) (fun _ _ => rfl)) (xc (fun vals => X.val (fun _ h => Op.noConfusion h) rfl (pkT_r rfl rfl) (fun _ _ => rfl)) (xc (fun vals => X.val (fun _ h => Op.noConfusion h) rfl (mv_r rfl) (fun _ _ => rfl)) (xc (fun vals => X.val (fun _ h => Op.noConfusion h) rfl (RV.re (v' := .agg (faC f2)) (ldWAw_r (i := 1) rfl Tryz.isAgg36 Tryz.sizeOf36 rfl rfl) (rfl)) (fun _ _ => rfl)) (xc (fun vals => X.val (fun _ h => Op.noConfusion h) rfl (RV.re (v' := .agg (faC f2)) (ldWAw_r (i := 0) rfl Tryz.isAgg36 Tryz.sizeOf36 rfl rfl) (rfl)) (fun _ _ => rfl)) (xc (fun vals => X.val (fun _ h => Op.noConfusion h) rfl (RV.re (v' := .bool true) (eqlA_r eqA36 (by decide) eqG36 rfl rfl rfl) (congrArg Value.bool (eqFa f2))) (fun _ _ => rfl)) (xc (fun vals => X.val (fun _ h => Op.noConfusion h) rfl (pkT_r rfl rfl) (fun _ _ => rfl)) (xc (fun vals => X.val (fun _ h => Op.noConfusion h) rfl (mv_r rfl) (fun _ _ => rfl)) (xc (fun vals => X.val (fun _ h => Op.noConfusion h) rfl (mv_r rfl) (fun _ _ => rfl)) (xc (fun vals => X.val (fun _ h => Op.noConfusion h) rfl (mv_r rfl) (fun _ _ => rfl)) (xn)))))))))))))))))))))))) (by kernel_rfl) (by kernel_rfl) (by kernel_rfl) (fun vals => ?_)
  refine rv (fun _ h => Op.noConfusion h) rfl rfl (RV.re (v' := .bool true) (eqlI_r rfl rfl) (congrArg Value.bool (decide_eq_true rfl))) ?_
  refine rv (fun _ h => Op.noConfusion h) rfl rfl (pkT_r rfl rfl) ?_
  refine rv (fun _ h => Op.noConfusion h) rfl rfl (asg_r rfl) ?_
  refine OJ.done ?_
  refine PJ.next ?_
  refine CJ.ret ?_
  refine retO (.inl rfl) Tryz.results3 (RS.t rfl (RS.n)) (.tail _ (.tail _ (.head _))) (by first | (simp only [Over, List.set_cons_zero, List.set_cons_succ, List.eraseIdx_cons_zero, List.eraseIdx_cons_succ, and_true]; omega) | (simp [Over] <;> omega)) ?_
  rfl

end Px
