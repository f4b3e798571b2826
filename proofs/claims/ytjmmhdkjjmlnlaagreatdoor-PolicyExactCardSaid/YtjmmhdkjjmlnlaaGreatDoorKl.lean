/- The contract of PolicyExact: called with any values of its types it returns true. No condition beyond those that each theorem states. -/
import Derived.Test.YtjmmhdkjjmlnlaaGreatDoorKk
import Derived.Test.YtjmmhdkjjmlnlaaGreatDoorProg
set_option linter.unusedSimpArgs false
set_option linter.unusedVariables false
set_option linter.unusedSectionVars false
namespace Px
open Go Go.RowKit Go.Proofs
def ks30 : List TK := [.i] ++ ([.i] ++ ([]))
def ks32 : List TK := [.i] ++ (ks30 ++ ([]))
end Px
namespace Px
open Go Go.RowKit Go.Proofs
def gon (l : Ls) : Ls := { l with gone := true }
theorem ix_x {x : Int} {l : Ls} {m : Ls} (h : l.dev = x) : ixL x [l, m] = some 0 := ixL_hit (l := l) rfl (by simp) h
theorem ix_y {x y : Int} {l : Ls} {m : Ls} (hl : l.dev = x) (hm : m.dev = y) (h : ¬ x = y) : ixL y [l, m] = some 1 := ixL_hit (l := m) rfl (by intro z hz; simp at hz; subst hz; rw [hl]; exact h) hm
section
variable {Z : Fx} (hZ : FxOk Z) (f : Nat → Int) {x y : Int} (hx : DevOk x) (hy : DevOk y) (h : ¬ x = y) (ca : Option Addr) (cc : Nat)
include hZ hx hy h
theorem two_2 : cntL Z [gon (lstd Z x), gon (lstd Z y)] f [apC Z f x (x + 1), apC Z f y (y + 1)] = [] := by
  rw [cntL_two (cnt_gone (c := apC Z f x (x + 1)) f (ix_x (l := gon (lstd Z x)) rfl) rfl rfl) (cnt_gone (c := apC Z f y (y + 1)) f (ix_y (l := gon (lstd Z x)) (m := gon (lstd Z y)) rfl rfl h) rfl rfl)]; rfl
theorem t2 (two : Bool) : expI Z (polT two) [gon (lstd Z x), gon (lstd Z y)] ⟨f, ca, [apC Z f x (x + 1), apC Z f y (y + 1)], cc⟩ = 460 :=
  (expI_bad (polT_ok two) (.inl (by rw [two_2 hZ f hx hy h]; rfl))).symm
end
end Px
namespace Px
open Go Go.RowKit Go.Proofs
theorem exact_leaf {Z : Fx} {p : Po} {ls : List Ls} {y : Ex} {e : Int} (h0 : chkI p = 0) (he : expI Z p ls y = e) (need : Int) (hn : need = if p.two then 2 else 1) : ((decide (e = 0)) == decide (need ≤ ((setK (cntL Z ls y.it y.cs)).length : Int))) = true := by
  subst he
  subst hn
  unfold expI
  rw [if_pos h0]
  generalize (setK (cntL Z ls y.it y.cs)).length = n
  cases p.two <;> by_cases h1 : n = 0 <;> by_cases h2 : n = 1 <;> simp [h1, h2] <;> omega
set_option maxHeartbeats 3200000 in
/-- chartroom/chartroomlaw46.PolicyExact -/
theorem law46_PolicyExact {Z : Fx} (hZ : FxOk Z) (p : Po) (N : Nat) (w : World) (hN : N ≤ w.heap.size) (hp : PoAt N w p) (ls : List Ls) (f : Nat → Int) (cs : List Cn) (a : Option Addr) (cp : Nat) (ca : Option Addr) (cc : Nat) (hsl : SlAt lsC 5 N w a ls) (hcs : SlAt cnC 3 N w ca cs) (hg : Glb w) (hg2 : 2 ≤ N) (hdev : ∀ c ∈ cs, I64 c.dev) :
    Calls Tryz.prog 6 #[.agg (poC p), .slice a ls.length cp, .agg (exC (⟨f, ca, cs, cc⟩ : Ex))] w (Ret w (.bool true)) := by
  have hg4 := hg.lt
  obtain ⟨e, he⟩ : ∃ e, chkI p = e := ⟨_, rfl⟩
  obtain ⟨ei, hei⟩ : ∃ ei, expI Z p ls (⟨f, ca, cs, cc⟩ : Ex) = ei := ⟨_, rfl⟩
  refine enter (vs := [_, _, _]) Tryz.func6 rfl Tryz.ntmps6 rfl ?_
  refine CJ.seq ?_
  refine CJ.region ?_
  refine boxR rfl rfl rfl ?_
  intro b3 w3 hb3 ha3 ho3 hm3 hz3
  simp only [Above] at ha3
  try simp only [Off, book, List.cons_append, List.nil_append, List.set_cons_zero, List.set_cons_succ, ne_eq] at ho3
  refine boxR rfl rfl rfl ?_
  intro b5 w5 hb5 ha5 ho5 hm5 hz5
  simp only [Above] at ha5
  try simp only [Off, book, List.cons_append, List.nil_append, List.set_cons_zero, List.set_cons_succ, ne_eq] at ho5
  refine rv rfl rfl rfl (asg_r rfl) ?_
  refine OJ.done ?_
  refine PJ.next ?_
  refine CJ.seq ?_
  refine CJ.seq ?_
  refine CJ.region ?_
  refine call Tryz.call7 rfl rfl rfl (fun W hS => law46_sane hZ W (hg.old hS (by simp) (fun _ _ h => h) (by first | exact True.intro | (simp only [Over, List.set_cons_zero, List.set_cons_succ, List.eraseIdx_cons_zero, List.eraseIdx_cons_succ, and_true]; omega)))) ?_
  refine rv rfl rfl rfl (notB_r rfl) ?_
  refine OJ.done ?_
  refine PJ.next ?_
  refine CJ.condF rfl ?_
  refine CJ.skip ?_
  refine PJ.next ?_
  refine CJ.seq ?_
  refine CJ.seq ?_
  refine CJ.region ?_
  refine rv rfl rfl rfl (RV.re (v' := .agg (poC p)) (ldRAw_r Tryz.isAgg24 Tryz.sizeOf24 rfl (.tail _ (.head _)) hb3 hm3 trivial rfl) (rfl)) ?_
  refine call Tryz.call8 rfl rfl rfl (fun W hS => r46_FewPeople p W) ?_
  refine rv rfl rfl rfl (notB_r rfl) ?_
  refine rv rfl rfl rfl (mv_r rfl) ?_
  refine OJ.split (t := 23) rfl (fun hc1 => ?_) (fun hc1 => ?_)
  · try simp only [decide_eq_true_eq, decide_eq_false_iff_not, Bool.not_eq_true', Bool.not_eq_false'] at hc1
    refine OJ.off rfl (by decide) rfl ?_
    refine OJ.off rfl (by decide) rfl ?_
    refine OJ.off rfl (by decide) rfl ?_
    refine OJ.off rfl (by decide) rfl ?_
    refine OJ.off rfl (by decide) rfl ?_
    refine rv rfl rfl rfl (pkT_r rfl rfl) ?_
    refine rv rfl rfl rfl (mv_r rfl) ?_
    refine OJ.off rfl (by decide) rfl ?_
    refine OJ.off rfl (by decide) rfl ?_
    refine OJ.off rfl (by decide) rfl ?_
    refine rv rfl rfl rfl (pkT_r rfl rfl) ?_
    refine OJ.done ?_
    refine PJ.next ?_
    refine CJ.condT rfl ?_
    refine CJ.seq ?_
    refine CJ.region ?_
    refine rv rfl rfl rfl (asg_r rfl) ?_
    refine OJ.done ?_
    refine PJ.next ?_
    refine CJ.ret ?_
    refine PJ.retThen ?_
    refine retV Tryz.results6 rfl (.tail _ (.tail _ (.head _))) ?_
    rfl
  · try simp only [decide_eq_true_eq, decide_eq_false_iff_not, Bool.not_eq_true', Bool.not_eq_false'] at hc1
    refine rv rfl rfl rfl (RV.re (v' := .agg (exC (⟨f, ca, cs, cc⟩ : Ex))) (ldRAw_r Tryz.isAgg41 Tryz.sizeOf41 rfl (.head _) hb5 hm5 trivial rfl) (rfl)) ?_
    refine bslR Tryz.underlying43 Tryz.sizeOf41 Tryz.zeroValue41 rfl rfl rfl rfl rfl rfl rfl ?_
    intro b25 w25 hb25 ha25 ho25 hm25 hz25
    simp only [Above] at ha25
    try simp only [Off, book, List.cons_append, List.nil_append, List.set_cons_zero, List.set_cons_succ, ne_eq] at ho25
    refine rv rfl rfl rfl (mv_r rfl) ?_
    refine call Tryz.call13 rfl rfl rfl (fun W hS => r46_FewExports (⟨f, ca, cs, cc⟩ : Ex) ls b25 a cp W (hS.old (.head _) hb25 hm25 trivial)) ?_
    refine rv rfl rfl rfl (notB_r rfl) ?_
    refine rv rfl rfl rfl (pkF_r rfl rfl) ?_
    refine rv rfl rfl rfl (mv_r rfl) ?_
    refine OJ.split (t := 30) rfl (fun hc2 => ?_) (fun hc2 => ?_)
    · try simp only [decide_eq_true_eq, decide_eq_false_iff_not, Bool.not_eq_true', Bool.not_eq_false'] at hc2
      refine OJ.off rfl (by decide) rfl ?_
      refine OJ.off rfl (by decide) rfl ?_
      refine OJ.off rfl (by decide) rfl ?_
      refine rv rfl rfl rfl (pkT_r rfl rfl) ?_
      refine OJ.done ?_
      refine PJ.next ?_
      refine CJ.condT rfl ?_
      refine CJ.seq ?_
      refine CJ.region ?_
      refine rv rfl rfl rfl (asg_r rfl) ?_
      refine OJ.done ?_
      refine PJ.next ?_
      refine CJ.ret ?_
      refine PJ.retThen ?_
      refine retV Tryz.results6 rfl (.tail _ (.tail _ (.tail _ (.head _)))) ?_
      rfl
    · try simp only [decide_eq_true_eq, decide_eq_false_iff_not, Bool.not_eq_true', Bool.not_eq_false'] at hc2
      refine rv rfl rfl rfl (RV.re (v' := .agg (poC p)) (ldRAw_r Tryz.isAgg24 Tryz.sizeOf24 rfl (.tail _ (.tail _ (.head _))) hb3 hm3 trivial rfl) (rfl)) ?_
      have hf := fewB_po (p := p) (by assumption)
      refine call Tryz.call11 rfl rfl rfl (fun W hS => by rw [← he]; exact policy_Check p hf N W (Nat.le_trans hN (hS.links _ (.tail _ (.tail _ (.tail _ (.head _))))).size) (hp.up (Nat.le_refl _) (hS.same (.tail _ (.tail _ (.tail _ (.head _)))) hN (fun _ _ h => h) (by first | exact True.intro | (simp only [Over, List.set_cons_zero, List.set_cons_succ, List.eraseIdx_cons_zero, List.eraseIdx_cons_succ, and_true]; omega))))) (v := .int .i64 e) ?_
      refine rv rfl rfl rfl (neqI_r rfl rfl) ?_
      refine rv rfl rfl rfl (pkF_r rfl rfl) ?_
      refine OJ.done ?_
      refine PJ.next ?_
      refine CJ.cond rfl (fun hc3 => ?_) (fun hc3 => ?_)
      · try simp only [decide_eq_true_eq, decide_eq_false_iff_not, Bool.not_eq_true', Bool.not_eq_false'] at hc3
        refine CJ.seq ?_
        refine CJ.region ?_
        refine rv rfl rfl rfl (asg_r rfl) ?_
        refine OJ.done ?_
        refine PJ.next ?_
        refine CJ.ret ?_
        refine PJ.retThen ?_
        refine retV Tryz.results6 rfl (.tail _ (.tail _ (.tail _ (.head _)))) ?_
        rfl
      · try simp only [decide_eq_true_eq, decide_eq_false_iff_not, Bool.not_eq_true', Bool.not_eq_false'] at hc3
        refine CJ.skip ?_
        refine PJ.next ?_
        refine CJ.seq ?_
        have hf := fewB_po (p := p) (by assumption)
        have hfe : fexB cs ls = true := by assumption
        simp only [fexB, Bool.and_eq_true, decide_eq_true_eq] at hfe
        have he0 : e = 0 := by omega
        refine CJ.region ?_
        refine mkMW (v := .bool true) rfl rfl ?_
        intro b35 ha35 ho35
        simp only [Above] at ha35
        try simp only [Off, book, List.cons_append, List.nil_append, List.set_cons_zero, List.set_cons_succ, ne_eq] at ho35
        refine rv rfl rfl rfl (asg_r rfl) ?_
        refine OJ.done ?_
        refine PJ.next ?_
        refine CJ.seq ?_
        refine CJ.seq ?_
        refine CJ.region ?_
        refine rv rfl rfl rfl (fld_r Tryz.underlying41 rfl Tryz.sizeOf39 rfl) ?_
        refine rv rfl rfl rfl (RV.re (v' := .slice ca cs.length cc) (ldR_r Tryz.isAgg39 rfl (.tail _ (.head _)) hb5 hm5 (by first | (simp only [Off, book, List.cons_append, List.nil_append, List.set_cons_zero, List.set_cons_succ, List.eraseIdx_cons_zero, List.eraseIdx_cons_succ, ne_eq, and_true]; omega) | (simp [Off] <;> omega)) rfl) (rfl)) ?_
        refine rv rfl rfl rfl (lenS_r Tryz.underlying39 rfl) ?_
        refine rv rfl rfl rfl (mv_r rfl) ?_
        refine OJ.done ?_
        refine PJ.next ?_
        refine CJ.block ?_
        refine CJ.loop (α := Nat) (fun j => [(1, .slice a ls.length cp), (3, ptr b3 0), (5, ptr b5 0), (7, .map (some b35)), (37, .slice ca cs.length cc), (38, .int .i64 (cs.length : Int)), (39, .int .i64 (j : Int))]) (fun j => [(b35, mpO (.bool true) (setK (cntL Z ls f (cs.take j))))]) (fun j => [w5, w3, w]) (fun j => Gh.no) (fun j => j ≤ cs.length) (fun j => cs.length - j) 0 (Nat.zero_le _) ⟨rfl, rfl, rfl, rfl, rfl, rfl, rfl, trivial⟩ rfl rfl (by simp) ?_
        rintro j hj
        refine CJ.seq ?_
        refine CJ.region ?_
        refine rv rfl rfl rfl (lss_r rfl rfl) ?_
        refine OJ.done ?_
        refine PJ.next ?_
        refine CJ.seq ?_
        refine CJ.cond rfl (fun hc4 => ?_) (fun hc4 => ?_)
        · try simp only [decide_eq_true_eq, decide_eq_false_iff_not, Bool.not_eq_true', Bool.not_eq_false'] at hc4
          refine CJ.skip ?_
          refine PJ.next ?_
          refine CJ.seq ?_
          refine CJ.block ?_
          refine CJ.seq ?_
          obtain ⟨b0, off0, cs0, t0, fr0, rfl, hbl0, hcs0, hel0⟩ := hcs.get (by omega)
          obtain ⟨c, hc⟩ := get_of cs j (by omega)
          have hdv := hdev c (List.mem_of_getElem? hc)
          have hff := flat_fine (mV f c.dev) rfl (mV_fine f c.dev hdv) (by simp [mV])
          have hB := mg_byt hZ f c.dev
          obtain ⟨mf, hmf⟩ : ∃ mf, mgD Z f c.dev = mf := ⟨_, rfl⟩
          rw [hmf] at hB
          refine CJ.region ?_
          refine rv rfl rfl rfl (idxS_r Tryz.underlying39 Tryz.sizeOf32 rfl rfl (by omega) (by omega)) ?_
          refine rv rfl rfl rfl (RV.re (v' := .agg (cnC c)) (ldRA_r Tryz.isAgg32 Tryz.sizeOf32 rfl (.tail _ (.tail _ (.head _))) hcs0 (fun h => h) (by simp only [Off, List.set_cons_zero, List.set_cons_succ, ne_eq, and_true]; omega) (el_size hel0 hc rfl)) (congrArg Value.agg (el_cut hel0 hc rfl))) ?_
          refine allW Tryz.zeroValue32 rfl rfl ?_
          intro b9 ha9 ho9
          simp only [Above] at ha9
          try simp only [Off, book, List.cons_append, List.nil_append, List.set_cons_zero, List.set_cons_succ, ne_eq] at ho9
          refine stWw (i := 0) rfl Tryz.sizeOf32 rfl rfl rfl rfl rfl rfl ?_
          refine OJ.done ?_
          refine PJ.next ?_
          refine CJ.seq ?_
          refine CJ.less (E' := [(1, _), (3, _), (5, _), (7, _), (9, _), (37, _), (38, _), (39, _), (40, _), (41, _), (42, _)]) ⟨rfl, rfl, rfl, rfl, rfl, rfl, rfl, rfl, rfl, rfl, rfl, trivial⟩ ?_
          refine CJ.chn 14 [7, 8, 9, 10, 11, 13] [([], some _), ([0], some _), ([1], some (.string (dT f))), ([2], some (vT (dT f))), ([], some _), ([4], some (.int .i64 c.dev)), ([5], some (vI c.dev)), ([3, 6], none), ([7], none), ([8], none), ([9], none), ([10], none), ([10], some (.int .i64 0)), ([11], none)] (fun cv L' H' => match cv with | [] => L' = [w5, w3, w] ∧ H' = [(b9, .cells (cnC c) 32 (0, 0)), (b35, mpO (.bool true) (setK (cntL Z ls f (cs.take j))))] | [v1] => ∃ (b51 : Nat) (w51 : World), v1 = .slice (some ⟨b51, 0, none⟩) 2 2 ∧ L' = [w51, w5, w3, w] ∧ H' = [(b9, .cells (cnC c) 32 (0, 0)), (b35, mpO (.bool true) (setK (cntL Z ls f (cs.take j))))] ∧ w51.heap[b51]? = some (.cells (vCells (mV f c.dev)).toArray 58 (0, 0)) ∧ w51.heap.size = b51 + 1 ∧ (w5.heap.size ≤ b51 ∧ w3.heap.size ≤ b51 ∧ w.heap.size ≤ b51) ∧ (b9 ≠ b51 ∧ b35 ≠ b51) ∧ ¬ Gh.no.X b51 | [v1, v2] => ∃ (b51 : Nat) (w51 : World), v1 = .slice (some ⟨b51, 0, none⟩) 2 2 ∧ v2 = vL (some ⟨b51, 0, none⟩) 2 2 ∧ L' = [w51, w5, w3, w] ∧ H' = [(b9, .cells (cnC c) 32 (0, 0)), (b35, mpO (.bool true) (setK (cntL Z ls f (cs.take j))))] ∧ w51.heap[b51]? = some (.cells (vCells (mV f c.dev)).toArray 58 (0, 0)) ∧ w51.heap.size = b51 + 1 ∧ (w5.heap.size ≤ b51 ∧ w3.heap.size ≤ b51 ∧ w.heap.size ≤ b51) ∧ (b9 ≠ b51 ∧ b35 ≠ b51) ∧ ¬ Gh.no.X b51 | [v1, v2, v3] => ∃ (b51 : Nat) (w51 : World) (b53 : Nat) (c53 : Nat) (s53 : List Value), v1 = .slice (some ⟨b51, 0, none⟩) 2 2 ∧ v2 = vL (some ⟨b51, 0, none⟩) 2 2 ∧ v3 = .tuple #[rowV b53 (V.list (mV f c.dev)).enc.length c53, .int .i64 0] ∧ L' = [w51, w5, w3, w] ∧ H' = [(b53, rowC 5 (V.list (mV f c.dev)).enc s53), (b9, .cells (cnC c) 32 (0, 0)), (b35, mpO (.bool true) (setK (cntL Z ls f (cs.take j))))] ∧ w51.heap[b51]? = some (.cells (vCells (mV f c.dev)).toArray 58 (0, 0)) ∧ w51.heap.size = b51 + 1 ∧ (w5.heap.size ≤ b51 ∧ w3.heap.size ≤ b51 ∧ w.heap.size ≤ b51) ∧ (b9 ≠ b51 ∧ b35 ≠ b51) ∧ ¬ Gh.no.X b51 ∧ (w51.heap.size ≤ b53 ∧ w5.heap.size ≤ b53 ∧ w3.heap.size ≤ b53 ∧ w.heap.size ≤ b53) ∧ (b9 ≠ b53 ∧ b35 ≠ b53) ∧ RowOk (V.list (mV f c.dev)).enc c53 s53 | [v1, v2, v3, v4] => ∃ (b51 : Nat) (w51 : World) (b53 : Nat) (c53 : Nat) (s53 : List Value), v1 = .slice (some ⟨b51, 0, none⟩) 2 2 ∧ v2 = vL (some ⟨b51, 0, none⟩) 2 2 ∧ v3 = .tuple #[rowV b53 (V.list (mV f c.dev)).enc.length c53, .int .i64 0] ∧ v4 = .tuple #[rowV b53 (V.list (mV f c.dev)).enc.length c53, .int .i64 0] ∧ L' = [w51, w5, w3, w] ∧ H' = [(b53, rowC 5 (V.list (mV f c.dev)).enc s53), (b9, .cells (cnC c) 32 (0, 0)), (b35, mpO (.bool true) (setK (cntL Z ls f (cs.take j))))] ∧ w51.heap[b51]? = some (.cells (vCells (mV f c.dev)).toArray 58 (0, 0)) ∧ w51.heap.size = b51 + 1 ∧ (w5.heap.size ≤ b51 ∧ w3.heap.size ≤ b51 ∧ w.heap.size ≤ b51) ∧ (b9 ≠ b51 ∧ b35 ≠ b51) ∧ ¬ Gh.no.X b51 ∧ (w51.heap.size ≤ b53 ∧ w5.heap.size ≤ b53 ∧ w3.heap.size ≤ b53 ∧ w.heap.size ≤ b53) ∧ (b9 ≠ b53 ∧ b35 ≠ b53) ∧ RowOk (V.list (mV f c.dev)).enc c53 s53 | [v1, v2, v3, v4, v5] => ∃ (b51 : Nat) (w51 : World) (b53 : Nat) (c53 : Nat) (s53 : List Value), v1 = .slice (some ⟨b51, 0, none⟩) 2 2 ∧ v2 = vL (some ⟨b51, 0, none⟩) 2 2 ∧ v3 = .tuple #[rowV b53 (V.list (mV f c.dev)).enc.length c53, .int .i64 0] ∧ v4 = .tuple #[rowV b53 (V.list (mV f c.dev)).enc.length c53, .int .i64 0] ∧ v5 = rowV b53 (V.list (mV f c.dev)).enc.length c53 ∧ L' = [w51, w5, w3, w] ∧ H' = [(b53, rowC 5 (V.list (mV f c.dev)).enc s53), (b9, .cells (cnC c) 32 (0, 0)), (b35, mpO (.bool true) (setK (cntL Z ls f (cs.take j))))] ∧ w51.heap[b51]? = some (.cells (vCells (mV f c.dev)).toArray 58 (0, 0)) ∧ w51.heap.size = b51 + 1 ∧ (w5.heap.size ≤ b51 ∧ w3.heap.size ≤ b51 ∧ w.heap.size ≤ b51) ∧ (b9 ≠ b51 ∧ b35 ≠ b51) ∧ ¬ Gh.no.X b51 ∧ (w51.heap.size ≤ b53 ∧ w5.heap.size ≤ b53 ∧ w3.heap.size ≤ b53 ∧ w.heap.size ≤ b53) ∧ (b9 ≠ b53 ∧ b35 ≠ b53) ∧ RowOk (V.list (mV f c.dev)).enc c53 s53 | [v1, v2, v3, v4, v5, v6] => ∃ (b51 : Nat) (w51 : World) (b53 : Nat) (c53 : Nat) (s53 : List Value), v1 = .slice (some ⟨b51, 0, none⟩) 2 2 ∧ v2 = vL (some ⟨b51, 0, none⟩) 2 2 ∧ v3 = .tuple #[rowV b53 (V.list (mV f c.dev)).enc.length c53, .int .i64 0] ∧ v4 = .tuple #[rowV b53 (V.list (mV f c.dev)).enc.length c53, .int .i64 0] ∧ v5 = rowV b53 (V.list (mV f c.dev)).enc.length c53 ∧ v6 = rowV b53 (V.list (mV f c.dev)).enc.length c53 ∧ L' = [w51, w5, w3, w] ∧ H' = [(b53, rowC 5 (V.list (mV f c.dev)).enc s53), (b9, .cells (cnC c) 32 (0, 0)), (b35, mpO (.bool true) (setK (cntL Z ls f (cs.take j))))] ∧ w51.heap[b51]? = some (.cells (vCells (mV f c.dev)).toArray 58 (0, 0)) ∧ w51.heap.size = b51 + 1 ∧ (w5.heap.size ≤ b51 ∧ w3.heap.size ≤ b51 ∧ w.heap.size ≤ b51) ∧ (b9 ≠ b51 ∧ b35 ≠ b51) ∧ ¬ Gh.no.X b51 ∧ (w51.heap.size ≤ b53 ∧ w5.heap.size ≤ b53 ∧ w3.heap.size ≤ b53 ∧ w.heap.size ≤ b53) ∧ (b9 ≠ b53 ∧ b35 ≠ b53) ∧ RowOk (V.list (mV f c.dev)).enc c53 s53 | _ => False) (by kernel_rfl) ⟨rfl, rfl⟩ (by kernel_rfl) (by kernel_rfl) (by kernel_rfl) (by kernel_rfl) (by kernel_rfl) (by kernel_rfl) (pc (fun cv L' H' hd hP => X.val rfl rfl (fld_r Tryz.underlying41 rfl Tryz.sizeOf26 rfl) (fun _ _ => rfl)) (pc (fun cv L' H' hd hP => X.val rfl rfl (slA0_r (h := 32) Tryz.underlying26 Tryz.sizeOf5 rfl rfl (by omega)) (fun _ _ => rfl)) (pc (fun cv L' H' hd hP => match cv, hd, hP with | [], hd, hP => (by obtain ⟨rfl, rfl⟩ := hP; exact X.val rfl rfl (cvtDo_r Tryz.underlying53 Tryz.underlying5 Tryz.underlying9 rfl (.head _) hb5 hm5 (by first | exact True.intro | (simp only [Off, List.set_cons_zero, List.set_cons_succ, List.eraseIdx_cons_zero, List.eraseIdx_cons_succ, ne_eq, and_true]; omega)) rfl) (fun _ _ => rfl)) | [v1], hd, hP => (by obtain ⟨b51, w51, rfl, rfl, rfl, hb51, hz51, ha51, ho51, hm51⟩ := hP; exact X.val rfl rfl (cvtDo_r Tryz.underlying53 Tryz.underlying5 Tryz.underlying9 rfl (.tail _ (.head _)) hb5 hm5 (by first | exact True.intro | (simp only [Off, List.set_cons_zero, List.set_cons_succ, List.eraseIdx_cons_zero, List.eraseIdx_cons_succ, ne_eq, and_true]; omega)) rfl) (fun _ _ => rfl)) | [v1, v2], hd, hP => (by obtain ⟨b51, w51, rfl, rfl, rfl, rfl, hb51, hz51, ha51, ho51, hm51⟩ := hP; exact X.val rfl rfl (cvtDo_r Tryz.underlying53 Tryz.underlying5 Tryz.underlying9 rfl (.tail _ (.head _)) hb5 hm5 (by first | exact True.intro | (simp only [Off, List.set_cons_zero, List.set_cons_succ, List.eraseIdx_cons_zero, List.eraseIdx_cons_succ, ne_eq, and_true]; omega)) rfl) (fun _ _ => rfl)) | [v1, v2, v3], hd, hP => (by obtain ⟨b51, w51, b53, c53, s53, rfl, rfl, rfl, rfl, rfl, hb51, hz51, ha51, ho51, hm51, ha53, ho53, hr53⟩ := hP; exact X.val rfl rfl (cvtDo_r Tryz.underlying53 Tryz.underlying5 Tryz.underlying9 rfl (.tail _ (.head _)) hb5 hm5 (by first | exact True.intro | (simp only [Off, List.set_cons_zero, List.set_cons_succ, List.eraseIdx_cons_zero, List.eraseIdx_cons_succ, ne_eq, and_true]; omega)) rfl) (fun _ _ => rfl)) | [v1, v2, v3, v4], hd, hP => (by obtain ⟨b51, w51, b53, c53, s53, rfl, rfl, rfl, rfl, rfl, rfl, hb51, hz51, ha51, ho51, hm51, ha53, ho53, hr53⟩ := hP; exact X.val rfl rfl (cvtDo_r Tryz.underlying53 Tryz.underlying5 Tryz.underlying9 rfl (.tail _ (.head _)) hb5 hm5 (by first | exact True.intro | (simp only [Off, List.set_cons_zero, List.set_cons_succ, List.eraseIdx_cons_zero, List.eraseIdx_cons_succ, ne_eq, and_true]; omega)) rfl) (fun _ _ => rfl)) | [v1, v2, v3, v4, v5], hd, hP => (by obtain ⟨b51, w51, b53, c53, s53, rfl, rfl, rfl, rfl, rfl, rfl, rfl, hb51, hz51, ha51, ho51, hm51, ha53, ho53, hr53⟩ := hP; exact X.val rfl rfl (cvtDo_r Tryz.underlying53 Tryz.underlying5 Tryz.underlying9 rfl (.tail _ (.head _)) hb5 hm5 (by first | exact True.intro | (simp only [Off, List.set_cons_zero, List.set_cons_succ, List.eraseIdx_cons_zero, List.eraseIdx_cons_succ, ne_eq, and_true]; omega)) rfl) (fun _ _ => rfl)) | [v1, v2, v3, v4, v5, v6], hd, hP => (by obtain ⟨b51, w51, b53, c53, s53, rfl, rfl, rfl, rfl, rfl, rfl, rfl, rfl, hb51, hz51, ha51, ho51, hm51, ha53, ho53, hr53⟩ := hP; exact X.val rfl rfl (cvtDo_r Tryz.underlying53 Tryz.underlying5 Tryz.underlying9 rfl (.tail _ (.head _)) hb5 hm5 (by first | exact True.intro | (simp only [Off, List.set_cons_zero, List.set_cons_succ, List.eraseIdx_cons_zero, List.eraseIdx_cons_succ, ne_eq, and_true]; omega)) rfl) (fun _ _ => rfl)) | _ :: _ :: _ :: _ :: _ :: _ :: _ :: _, _, hP => hP.elim) (pc (fun cv L' H' hd hP => X.val rfl rfl (bldS_r Tryz.underlying58 Tryz.zeroValue58 (PlF.c Tryz.sizeOf3 (PlF.c Tryz.sizeOf3 (PlF.c Tryz.sizeOf9 (PlF.c Tryz.sizeOf56 (PlF.n))))) rfl rfl) (fun _ _ => rfl)) (pc (fun cv L' H' hd hP => X.val rfl rfl (fld_r Tryz.underlying32 rfl Tryz.sizeOf3 rfl) (fun _ _ => rfl)) (pc (fun cv L' H' hd hP => match cv, hd, hP with | [], hd, hP => (by obtain ⟨rfl, rfl⟩ := hP; exact X.val rfl rfl (ldW_r (i := 0) rfl Tryz.isAgg3 rfl rfl) (fun _ _ => rfl)) | [v1], hd, hP => (by obtain ⟨b51, w51, rfl, rfl, rfl, hb51, hz51, ha51, ho51, hm51⟩ := hP; exact X.val rfl rfl (ldW_r (i := 0) rfl Tryz.isAgg3 rfl rfl) (fun _ _ => rfl)) | [v1, v2], hd, hP => (by obtain ⟨b51, w51, rfl, rfl, rfl, rfl, hb51, hz51, ha51, ho51, hm51⟩ := hP; exact X.val rfl rfl (ldW_r (i := 0) rfl Tryz.isAgg3 rfl rfl) (fun _ _ => rfl)) | [v1, v2, v3], hd, hP => (by obtain ⟨b51, w51, b53, c53, s53, rfl, rfl, rfl, rfl, rfl, hb51, hz51, ha51, ho51, hm51, ha53, ho53, hr53⟩ := hP; exact X.val rfl rfl (ldW_r (i := 1) rfl Tryz.isAgg3 rfl rfl) (fun _ _ => rfl)) | [v1, v2, v3, v4], hd, hP => (by obtain ⟨b51, w51, b53, c53, s53, rfl, rfl, rfl, rfl, rfl, rfl, hb51, hz51, ha51, ho51, hm51, ha53, ho53, hr53⟩ := hP; exact X.val rfl rfl (ldW_r (i := 1) rfl Tryz.isAgg3 rfl rfl) (fun _ _ => rfl)) | [v1, v2, v3, v4, v5], hd, hP => (by obtain ⟨b51, w51, b53, c53, s53, rfl, rfl, rfl, rfl, rfl, rfl, rfl, hb51, hz51, ha51, ho51, hm51, ha53, ho53, hr53⟩ := hP; exact X.val rfl rfl (ldW_r (i := 1) rfl Tryz.isAgg3 rfl rfl) (fun _ _ => rfl)) | [v1, v2, v3, v4, v5, v6], hd, hP => (by obtain ⟨b51, w51, b53, c53, s53, rfl, rfl, rfl, rfl, rfl, rfl, rfl, rfl, hb51, hz51, ha51, ho51, hm51, ha53, ho53, hr53⟩ := hP; exact X.val rfl rfl (ldW_r (i := 1) rfl Tryz.isAgg3 rfl rfl) (fun _ _ => rfl)) | _ :: _ :: _ :: _ :: _ :: _ :: _ :: _, _, hP => hP.elim) (pc (fun cv L' H' hd hP => X.val rfl rfl (bldS_r Tryz.underlying58 Tryz.zeroValue58 (PlF.c Tryz.sizeOf3 (PlF.c Tryz.sizeOf3 (PlF.c Tryz.sizeOf9 (PlF.c Tryz.sizeOf56 (PlF.n))))) rfl rfl) (fun _ _ => rfl)) (pk (pk (pk (pk (pk (pc (fun cv L' H' hd hP => match cv, hd, hP with | [], hd, hP => (absurd (show false = true from hd) (by decide)) | [v1], hd, hP => (absurd (show false = true from hd) (by decide)) | [v1, v2], hd, hP => (absurd (show false = true from hd) (by decide)) | [v1, v2, v3], hd, hP => (absurd (show false = true from hd) (by decide)) | [v1, v2, v3, v4], hd, hP => (by obtain ⟨b51, w51, b53, c53, s53, rfl, rfl, rfl, rfl, rfl, rfl, hb51, hz51, ha51, ho51, hm51, ha53, ho53, hr53⟩ := hP; exact X.val rfl rfl (ext_r rfl rfl) (fun _ _ => rfl)) | [v1, v2, v3, v4, v5], hd, hP => (by obtain ⟨b51, w51, b53, c53, s53, rfl, rfl, rfl, rfl, rfl, rfl, rfl, hb51, hz51, ha51, ho51, hm51, ha53, ho53, hr53⟩ := hP; exact X.val rfl rfl (ext_r rfl rfl) (fun _ _ => rfl)) | [v1, v2, v3, v4, v5, v6], hd, hP => (by obtain ⟨b51, w51, b53, c53, s53, rfl, rfl, rfl, rfl, rfl, rfl, rfl, rfl, hb51, hz51, ha51, ho51, hm51, ha53, ho53, hr53⟩ := hP; exact X.val rfl rfl (ext_r rfl rfl) (fun _ _ => rfl)) | _ :: _ :: _ :: _ :: _ :: _ :: _ :: _, _, hP => hP.elim) (pk (pn))))))))))))))) ?_ ?_
          · refine sc rfl rfl rfl ?_ ?_
            · intro cv L' H' hl hP F Q' hk
              obtain rfl := List.eq_nil_of_length_eq_zero hl
              obtain ⟨rfl, rfl⟩ := hP
              refine bslR Tryz.underlying56 Tryz.sizeOf58 Tryz.zeroValue58 rfl rfl rfl rfl rfl rfl rfl ?_
              intro b51 w51 hb51 ha ho hm51 hz51
              exact OJ.done (hk _ _ _ ⟨b51, w51, rfl, rfl, rfl, hb51, hz51, ⟨ha.1, ha.2.1, ha.2.2.1⟩, ⟨ho.1, ho.2.1⟩, hm51⟩)
            refine sc rfl rfl rfl ?_ ?_
            · intro cv L' H' hl hP F Q' hk
              obtain ⟨v1, rfl⟩ := len1 hl
              obtain ⟨b51, w51, rfl, rfl, rfl, hb51, hz51, ha51, ho51, hm51⟩ := hP
              refine rv rfl rfl rfl (RV.re (v' := vL (some ⟨b51, 0, none⟩) 2 2) (bldS_r Tryz.underlying58 Tryz.zeroValue58 (PlF.c Tryz.sizeOf3 (PlF.c Tryz.sizeOf3 (PlF.c Tryz.sizeOf9 (PlF.c Tryz.sizeOf56 (PlF.n))))) rfl rfl) rfl) ?_
              exact OJ.done (hk _ _ _ ⟨b51, w51, rfl, rfl, rfl, rfl, hb51, hz51, ha51, ho51, hm51⟩)
            refine sc rfl rfl rfl ?_ ?_
            · intro cv L' H' hl hP F Q' hk
              obtain ⟨v1, v2, rfl⟩ := len2 hl
              obtain ⟨b51, w51, rfl, rfl, rfl, rfl, hb51, hz51, ha51, ho51, hm51⟩ := hP
              refine callEnc (ys := (V.list (mV f c.dev)).enc) Tryz.call18 rfl rfl rfl (fun W hS => codec_Encode (mV f c.dev) hff.1 hff.2.1 hff.2.2 w51.heap.size (some ⟨b51, 0, none⟩) 2 W (hS.links _ (.head _)).size (flat_at (sp := []) rfl (by omega) (Nat.le_refl 2) (by rw [List.append_nil]; exact hS.old (.head _) hb51 hm51 (by simp only [Off, ne_eq, and_true]; omega)))) ?_
              intro b53 c53 s53 ha ho hx53 hr53
              exact OJ.done (hk _ _ _ ⟨b51, w51, b53, c53, s53, rfl, rfl, rfl, rfl, rfl, hb51, hz51, ha51, ho51, hm51, ⟨ha.1, ha.2.1, ha.2.2.1, ha.2.2.2.1⟩, ⟨ho.1, ho.2.1⟩, hr53⟩)
            refine sc rfl rfl rfl ?_ ?_
            · intro cv L' H' hl hP F Q' hk
              obtain ⟨v1, v2, v3, rfl⟩ := len3 hl
              obtain ⟨b51, w51, b53, c53, s53, rfl, rfl, rfl, rfl, rfl, hb51, hz51, ha51, ho51, hm51, ha53, ho53, hr53⟩ := hP
              refine rv rfl rfl rfl (mv_r rfl) ?_
              exact OJ.done (hk _ _ _ ⟨b51, w51, b53, c53, s53, rfl, rfl, rfl, rfl, rfl, rfl, hb51, hz51, ha51, ho51, hm51, ha53, ho53, hr53⟩)
            refine sc rfl rfl rfl ?_ ?_
            · intro cv L' H' hl hP F Q' hk
              obtain ⟨v1, v2, v3, v4, rfl⟩ := len4 hl
              obtain ⟨b51, w51, b53, c53, s53, rfl, rfl, rfl, rfl, rfl, rfl, hb51, hz51, ha51, ho51, hm51, ha53, ho53, hr53⟩ := hP
              refine rv rfl rfl rfl (ext_r rfl rfl) ?_
              exact OJ.done (hk _ _ _ ⟨b51, w51, b53, c53, s53, rfl, rfl, rfl, rfl, rfl, rfl, rfl, hb51, hz51, ha51, ho51, hm51, ha53, ho53, hr53⟩)
            refine sc rfl rfl rfl ?_ ?_
            · intro cv L' H' hl hP F Q' hk
              obtain ⟨v1, v2, v3, v4, v5, rfl⟩ := len5 hl
              obtain ⟨b51, w51, b53, c53, s53, rfl, rfl, rfl, rfl, rfl, rfl, rfl, hb51, hz51, ha51, ho51, hm51, ha53, ho53, hr53⟩ := hP
              refine rv rfl rfl rfl (asg_r rfl) ?_
              exact OJ.done (hk _ _ _ ⟨b51, w51, b53, c53, s53, rfl, rfl, rfl, rfl, rfl, rfl, rfl, rfl, hb51, hz51, ha51, ho51, hm51, ha53, ho53, hr53⟩)
            exact sn
          · intro cv L' H' hl hP
            obtain ⟨v1, v2, v3, v4, v5, v6, rfl⟩ := len6 hl
            obtain ⟨b51, w51, b53, c53, s53, rfl, rfl, rfl, rfl, rfl, rfl, rfl, rfl, hb51, hz51, ha51, ho51, hm51, ha53, ho53, hr53⟩ := hP
            refine rv rfl rfl rfl (asg_r rfl) ?_
            refine OJ.done ?_
            refine PJ.next ?_
            refine CJ.seq ?_
            refine CJ.region ?_
            refine rv rfl rfl rfl (mv_r rfl) ?_
            refine call Tryz.call19 rfl rfl rfl (fun W hS => by rw [← hmf]; exact taggedG hZ (⟨#[101, 120, 112, 111, 114, 116]⟩ : ByteArray) (by decide) (V.list (mV f c.dev)).enc (by omega) b53 0 c53 hr53.le W (SegU.row (hS.own _ (.head _))) (hg.old hS (by simp) (fun _ _ h => h) (by first | exact True.intro | (simp only [Over, List.set_cons_zero, List.set_cons_succ, List.eraseIdx_cons_zero, List.eraseIdx_cons_succ, and_true]; omega)))) (v := .agg (dg mf)) ?_
            refine allW Tryz.zeroValue26 rfl rfl ?_
            intro b12 ha12 ho12
            simp only [Above] at ha12
            try simp only [Off, book, List.cons_append, List.nil_append, List.set_cons_zero, List.set_cons_succ, ne_eq] at ho12
            refine stWw (i := 0) rfl Tryz.sizeOf26 rfl rfl rfl rfl rfl rfl ?_
            refine OJ.done ?_
            refine PJ.next ?_
            refine CJ.seq ?_
            refine CJ.region ?_
            refine rv rfl rfl rfl (fld_r Tryz.underlying32 rfl Tryz.sizeOf3 rfl) ?_
            refine rv rfl rfl rfl (ldW_r (i := 2) rfl Tryz.isAgg3 rfl rfl) ?_
            by_cases hD : DevOk c.dev
            · refine call Tryz.call16 rfl rfl rfl (fun W hS => people_Owner_ok hD W) ?_
              refine rv rfl rfl rfl (mv_r rfl) ?_
              refine rv rfl rfl rfl (ext_r rfl rfl) ?_
              refine rv rfl rfl rfl (ext_r rfl rfl) ?_
              refine rv rfl rfl rfl (asg_r rfl) ?_
              refine rv rfl rfl rfl (asg_r rfl) ?_
              refine OJ.done ?_
              refine PJ.next ?_
              refine CJ.seq ?_
              refine CJ.seq ?_
              refine CJ.region ?_
              refine rv rfl rfl rfl (mv_r rfl) ?_
              refine rv rfl rfl rfl (RV.re (v' := .bool false) (neqI_r rfl rfl) rfl) ?_
              refine OJ.done ?_
              refine PJ.next ?_
              refine CJ.condF rfl ?_
              refine CJ.skip ?_
              refine PJ.next ?_
              refine CJ.seq ?_
              refine CJ.region ?_
              refine rv rfl rfl rfl (mv_r rfl) ?_
              refine rv rfl rfl rfl (lenS_r Tryz.underlying38 rfl) ?_
              refine rv rfl rfl rfl (mv_r rfl) ?_
              refine OJ.done ?_
              refine PJ.next ?_
              refine CJ.block ?_
              refine CJ.loop (α := Nat) (fun i => [(1, .slice a ls.length cp), (3, ptr b3 0), (5, ptr b5 0), (7, .map (some b35)), (9, ptr b9 0), (12, ptr b12 0), (13, .int .i64 (c.dev / 8)), (14, .int .i64 0), (37, .slice (some ⟨b0, off0, none⟩) cs.length cc), (38, .int .i64 (cs.length : Int)), (39, .int .i64 (j : Int)), (66, .slice a ls.length cp), (67, .int .i64 (ls.length : Int)), (68, .int .i64 (i : Int))]) (fun i => [(b12, .cells (dg mf) 26 (0, 0)), (b53, rowC 5 (V.list (mV f c.dev)).enc s53), (b9, .cells (cnC c) 32 (0, 0)), (b35, mpO (.bool true) (setK (cntL Z ls f (cs.take j))))]) (fun i => [w51, w5, w3, w]) (fun i => Gh.no) (fun i => i ≤ ls.length ∧ ∀ x ∈ ls.take i, ¬ x.dev = c.dev) (fun i => ls.length - i) 0 ⟨Nat.zero_le _, by simp⟩ ⟨rfl, rfl, rfl, rfl, rfl, rfl, rfl, rfl, rfl, rfl, rfl, rfl, rfl, rfl, trivial⟩ rfl rfl (by simp) ?_
              rintro i ⟨hi, hjp⟩
              refine CJ.seq ?_
              refine CJ.region ?_
              refine rv rfl rfl rfl (lss_r rfl rfl) ?_
              refine OJ.done ?_
              refine PJ.next ?_
              refine CJ.seq ?_
              refine CJ.cond rfl (fun hc5 => ?_) (fun hc5 => ?_)
              · try simp only [decide_eq_true_eq, decide_eq_false_iff_not, Bool.not_eq_true', Bool.not_eq_false'] at hc5
                refine CJ.skip ?_
                refine PJ.next ?_
                refine CJ.seq ?_
                refine CJ.block ?_
                refine CJ.seq ?_
                obtain ⟨b6, off6, cs6, t6, fr6, hla, hbl6, hcs6, hel6⟩ := hsl.get (by omega)
                obtain ⟨z, hz⟩ := get_of ls i (by omega)
                refine CJ.region ?_
                refine rv rfl rfl rfl (idxS_r (b := b6) (off := off6) Tryz.underlying38 Tryz.sizeOf49 (by rw [← hla]; rfl) rfl (by omega) (by omega)) ?_
                refine rv rfl rfl rfl (RV.re (v' := .agg (lsC z)) (ldRA_r Tryz.isAgg49 Tryz.sizeOf49 rfl (.tail _ (.tail _ (.tail _ (.head _)))) hcs6 (fun h => h) (by first | exact True.intro | (simp only [Off, List.set_cons_zero, List.set_cons_succ, List.eraseIdx_cons_zero, List.eraseIdx_cons_succ, ne_eq, and_true]; omega)) (el_size hel6 hz rfl)) (congrArg Value.agg (el_cut hel6 hz rfl))) ?_
                refine allW Tryz.zeroValue49 rfl rfl ?_
                intro b16 ha16 ho16
                simp only [Above] at ha16
                try simp only [Off, book, List.cons_append, List.nil_append, List.set_cons_zero, List.set_cons_succ, ne_eq] at ho16
                refine stWw (i := 0) rfl Tryz.sizeOf49 rfl rfl rfl rfl rfl rfl ?_
                refine OJ.done ?_
                refine PJ.next ?_
                refine CJ.seq ?_
                refine CJ.seq ?_
                refine CJ.region ?_
                refine rv rfl rfl rfl (fld_r Tryz.underlying49 rfl Tryz.sizeOf3 rfl) ?_
                refine rv rfl rfl rfl (ldW_r (i := 0) rfl Tryz.isAgg3 rfl rfl) ?_
                refine rv rfl rfl rfl (fld_r Tryz.underlying32 rfl Tryz.sizeOf3 rfl) ?_
                refine rv rfl rfl rfl (ldW_r (i := 3) rfl Tryz.isAgg3 rfl rfl) ?_
                refine rv rfl rfl rfl (neqI_r rfl rfl) ?_
                refine OJ.done ?_
                refine PJ.next ?_
                refine CJ.cond rfl (fun hc6 => ?_) (fun hc6 => ?_)
                · try simp only [decide_eq_true_eq, decide_eq_false_iff_not, Bool.not_eq_true', Bool.not_eq_false'] at hc6
                  refine CJ.exit ?_
                  refine PJ.exThen ?_
                  refine PJ.exHit ?_
                  refine PJ.next ?_
                  refine CJ.region ?_
                  refine rv rfl rfl rfl (addI_r rfl rfl (by omega) (by omega)) ?_
                  refine rv rfl rfl rfl (mv_r rfl) ?_
                  refine OJ.done ?_
                  refine PJ.dropAt (i := 0) rfl ⟨by omega, by omega, by omega, by omega, trivial⟩ ?_
                  refine PJ.again (i + 1) ⟨by omega, by intro q hq; rw [take_snoc hz] at hq; simp only [List.mem_append, List.mem_singleton] at hq; rcases hq with hq | rfl; exact hjp q hq; omega⟩ (by omega) ⟨rfl, rfl, rfl, rfl, rfl, rfl, rfl, rfl, rfl, rfl, rfl, rfl, rfl, rfl, trivial⟩ rfl rfl (by simp)
                · try simp only [decide_eq_true_eq, decide_eq_false_iff_not, Bool.not_eq_true', Bool.not_eq_false'] at hc6
                  refine CJ.skip ?_
                  refine PJ.next ?_
                  refine CJ.seq ?_
                  refine CJ.seq ?_
                  have hix0 := ixL_hit hz hjp (by omega)
                  rcases hgo : z.gone with _ | _
                  · rcases hv : verB Z z.ver (dgU mf) c.r c.s with _ | _
                    · have hcnt : cntO Z ls f c = none := cntO_no hix0 hz (.inr (.inr (by rw [hmf]; exact hv)))
                      refine CJ.less (E' := [(1, _), (3, _), (5, _), (7, _), (9, _), (12, _), (13, _), (14, _), (16, _), (37, _), (38, _), (39, _), (66, _), (67, _), (68, _), (69, _), (70, _), (71, _), (72, _), (73, _), (74, _), (75, _), (76, _)]) ⟨rfl, rfl, rfl, rfl, rfl, rfl, rfl, rfl, rfl, rfl, rfl, rfl, rfl, rfl, rfl, rfl, rfl, rfl, rfl, rfl, rfl, rfl, rfl, trivial⟩ ?_
                      refine CJ.drwD 13 [.det [] _, .det [0] _, .det [1] _, .det [2] _, .det [3] _, .det [3, 4] _, .det [3, 5] _, .det [6] _, .det [7] _, .det [7, 8] _, .det [7] _, .det [7] _, .det [7, 11] _] (by kernel_rfl) (xc (fun vals => X.val rfl rfl (fld_r Tryz.underlying49 rfl Tryz.sizeOf4 rfl) (fun _ _ => rfl)) (xc (fun vals => X.val rfl rfl (RV.re (v' := .bool false) (ldW_r (v := .bool z.gone) (i := 0) rfl Tryz.isAgg4 rfl rfl) (by rw [hgo])) (fun _ _ => rfl)) (xc (fun vals => X.val rfl rfl (RV.re (v' := .bool true) (notB_r rfl) rfl) (fun _ _ => rfl)) (xc (fun vals => X.val rfl rfl (mv_r rfl) (fun _ _ => rfl)) (xc (fun vals => X.val rfl rfl (mv_r rfl) (fun _ _ => rfl)) (xc (fun vals => X.val rfl rfl (RV.re (v' := .bool true) (eqlI_r rfl rfl) rfl) (fun _ _ => rfl)) (xc (fun vals => X.val rfl rfl (pkT_r rfl rfl) (fun _ _ => rfl)) (xc (fun vals => X.val rfl rfl (mv_r rfl) (fun _ _ => rfl)) (xc (fun vals => X.val rfl rfl (fld_r Tryz.underlying49 rfl Tryz.sizeOf3 rfl) (fun _ _ => rfl)) (xc (fun vals => X.val rfl rfl (ldW_r (i := 0) rfl Tryz.isAgg3 rfl rfl) (fun _ _ => rfl)) (xc (fun vals => X.val rfl rfl (slA0_r (h := 32) Tryz.underlying26 Tryz.sizeOf5 rfl rfl (by omega)) (fun _ _ => rfl)) (xc (fun vals => X.val rfl rfl (fld_r Tryz.underlying32 rfl Tryz.sizeOf30 rfl) (fun _ _ => rfl)) (xc (fun vals => X.val rfl rfl (RV.re (v' := .agg #[.int .i64 c.r, .int .i64 c.s]) (ldWA_r (i := 3) rfl Tryz.isAgg30 Tryz.sizeOf30 rfl (Nat.le_of_ble_eq_true rfl)) (rfl)) (fun _ _ => rfl)) (xn)))))))))))))) (by kernel_rfl) (by kernel_rfl) (by kernel_rfl) (fun vals => ?_)
                      refine call Tryz.call20 rfl rfl rfl (fun W hS => verG32v hZ hv hB b12 _ _ W (hS.own _ (.tail _ (.head _))) (hg.old hS (by simp) (fun _ _ h => h) (by first | exact True.intro | (simp only [Over, List.set_cons_zero, List.set_cons_succ, List.eraseIdx_cons_zero, List.eraseIdx_cons_succ, and_true]; omega)))) (v := .bool false) ?_
                      refine rv rfl rfl rfl (pkT_r rfl rfl) ?_
                      refine OJ.done ?_
                      refine PJ.next ?_
                      refine CJ.condF rfl ?_
                      refine CJ.skip ?_
                      refine PJ.next ?_
                      refine CJ.exit ?_
                      refine PJ.exMiss rfl ?_
                      refine PJ.exThen ?_
                      refine PJ.exThen ?_
                      refine PJ.exHit ?_
                      refine PJ.norBlock ?_
                      refine PJ.next ?_
                      refine CJ.region ?_
                      refine rv rfl rfl rfl (addI_r rfl rfl (by omega) (by omega)) ?_
                      refine rv rfl rfl rfl (mv_r rfl) ?_
                      refine OJ.done ?_
                      refine PJ.fewL (L' := [w5, w3, w]) (by simp) ?_
                      refine PJ.dropAt (i := 0) rfl ⟨by omega, by omega, by omega, trivial⟩ ?_
                      refine PJ.dropAt (i := 0) rfl ⟨by omega, by omega, by omega, trivial⟩ ?_
                      refine PJ.dropAt (i := 0) rfl ⟨by omega, by omega, by omega, trivial⟩ ?_
                      refine PJ.dropAt (i := 0) rfl ⟨by omega, by omega, by omega, trivial⟩ ?_
                      refine PJ.reH (H' := [(b35, mpO (.bool true) (setK (cntL Z ls f (cs.take (j + 1)))))]) (by rw [cntL_none hc hcnt]; rfl) ?_
                      refine PJ.again (j + 1) (by omega) (by omega) ⟨rfl, rfl, rfl, rfl, rfl, rfl, rfl, trivial⟩ rfl rfl (by simp)
                    · have hcnt : cntO Z ls f c = some (c.dev / 8) := cntO_yes hix0 hz hgo hD (by rw [hmf]; exact hv)
                      refine CJ.less (E' := [(1, _), (3, _), (5, _), (7, _), (9, _), (12, _), (13, _), (14, _), (16, _), (37, _), (38, _), (39, _), (66, _), (67, _), (68, _), (69, _), (70, _), (71, _), (72, _), (73, _), (74, _), (75, _), (76, _)]) ⟨rfl, rfl, rfl, rfl, rfl, rfl, rfl, rfl, rfl, rfl, rfl, rfl, rfl, rfl, rfl, rfl, rfl, rfl, rfl, rfl, rfl, rfl, rfl, trivial⟩ ?_
                      refine CJ.drwD 13 [.det [] _, .det [0] _, .det [1] _, .det [2] _, .det [3] _, .det [3, 4] _, .det [3, 5] _, .det [6] _, .det [7] _, .det [7, 8] _, .det [7] _, .det [7] _, .det [7, 11] _] (by kernel_rfl) (xc (fun vals => X.val rfl rfl (fld_r Tryz.underlying49 rfl Tryz.sizeOf4 rfl) (fun _ _ => rfl)) (xc (fun vals => X.val rfl rfl (RV.re (v' := .bool false) (ldW_r (v := .bool z.gone) (i := 0) rfl Tryz.isAgg4 rfl rfl) (by rw [hgo])) (fun _ _ => rfl)) (xc (fun vals => X.val rfl rfl (RV.re (v' := .bool true) (notB_r rfl) rfl) (fun _ _ => rfl)) (xc (fun vals => X.val rfl rfl (mv_r rfl) (fun _ _ => rfl)) (xc (fun vals => X.val rfl rfl (mv_r rfl) (fun _ _ => rfl)) (xc (fun vals => X.val rfl rfl (RV.re (v' := .bool true) (eqlI_r rfl rfl) rfl) (fun _ _ => rfl)) (xc (fun vals => X.val rfl rfl (pkT_r rfl rfl) (fun _ _ => rfl)) (xc (fun vals => X.val rfl rfl (mv_r rfl) (fun _ _ => rfl)) (xc (fun vals => X.val rfl rfl (fld_r Tryz.underlying49 rfl Tryz.sizeOf3 rfl) (fun _ _ => rfl)) (xc (fun vals => X.val rfl rfl (ldW_r (i := 0) rfl Tryz.isAgg3 rfl rfl) (fun _ _ => rfl)) (xc (fun vals => X.val rfl rfl (slA0_r (h := 32) Tryz.underlying26 Tryz.sizeOf5 rfl rfl (by omega)) (fun _ _ => rfl)) (xc (fun vals => X.val rfl rfl (fld_r Tryz.underlying32 rfl Tryz.sizeOf30 rfl) (fun _ _ => rfl)) (xc (fun vals => X.val rfl rfl (RV.re (v' := .agg #[.int .i64 c.r, .int .i64 c.s]) (ldWA_r (i := 3) rfl Tryz.isAgg30 Tryz.sizeOf30 rfl (Nat.le_of_ble_eq_true rfl)) (rfl)) (fun _ _ => rfl)) (xn)))))))))))))) (by kernel_rfl) (by kernel_rfl) (by kernel_rfl) (fun vals => ?_)
                      refine call Tryz.call20 rfl rfl rfl (fun W hS => verG32v hZ hv hB b12 _ _ W (hS.own _ (.tail _ (.head _))) (hg.old hS (by simp) (fun _ _ h => h) (by first | exact True.intro | (simp only [Over, List.set_cons_zero, List.set_cons_succ, List.eraseIdx_cons_zero, List.eraseIdx_cons_succ, and_true]; omega)))) (v := .bool true) ?_
                      refine rv rfl rfl rfl (pkT_r rfl rfl) ?_
                      refine OJ.done ?_
                      refine PJ.next ?_
                      refine CJ.condT rfl ?_
                      refine CJ.region ?_
                      refine rv rfl rfl rfl (mv_r rfl) ?_
                      refine rv rfl rfl rfl (mv_r rfl) ?_
                      refine mputW (i := 4) rfl Tryz.underlying52 Tryz.underlying3 rfl rfl rfl rfl ?_
                      refine OJ.done ?_
                      refine PJ.next ?_
                      refine CJ.exit ?_
                      refine PJ.exMiss rfl ?_
                      refine PJ.exThen ?_
                      refine PJ.exThen ?_
                      refine PJ.exHit ?_
                      refine PJ.norBlock ?_
                      refine PJ.next ?_
                      refine CJ.region ?_
                      refine rv rfl rfl rfl (addI_r rfl rfl (by omega) (by omega)) ?_
                      refine rv rfl rfl rfl (mv_r rfl) ?_
                      refine OJ.done ?_
                      refine PJ.fewL (L' := [w5, w3, w]) (by simp) ?_
                      refine PJ.dropAt (i := 0) rfl ⟨by omega, by omega, by omega, trivial⟩ ?_
                      refine PJ.dropAt (i := 0) rfl ⟨by omega, by omega, by omega, trivial⟩ ?_
                      refine PJ.dropAt (i := 0) rfl ⟨by omega, by omega, by omega, trivial⟩ ?_
                      refine PJ.dropAt (i := 0) rfl ⟨by omega, by omega, by omega, trivial⟩ ?_
                      refine PJ.reH (H' := [(b35, mpO (.bool true) (setK (cntL Z ls f (cs.take (j + 1)))))]) (by rw [cntL_some hc hcnt, setK_snoc]; rfl) ?_
                      refine PJ.again (j + 1) (by omega) (by omega) ⟨rfl, rfl, rfl, rfl, rfl, rfl, rfl, trivial⟩ rfl rfl (by simp)
                  · have hcnt : cntO Z ls f c = none := cntO_no hix0 hz (.inl hgo)
                    refine CJ.less (E' := [(1, _), (3, _), (5, _), (7, _), (9, _), (12, _), (13, _), (14, _), (16, _), (37, _), (38, _), (39, _), (66, _), (67, _), (68, _), (69, _), (70, _), (71, _), (72, _), (73, _), (74, _), (75, _), (76, _)]) ⟨rfl, rfl, rfl, rfl, rfl, rfl, rfl, rfl, rfl, rfl, rfl, rfl, rfl, rfl, rfl, rfl, rfl, rfl, rfl, rfl, rfl, rfl, rfl, trivial⟩ ?_
                    refine CJ.drwD 13 [.det [] _, .det [0] _, .det [1] _, .det [2] _, .det [3] undef, .det [3, 4] undef, .det [3, 5] _, .det [6] _, .det [7] undef, .det [7, 8] undef, .det [7] undef, .det [7] undef, .det [7, 11] undef] (by kernel_rfl) (xc (fun vals => X.val rfl rfl (fld_r Tryz.underlying49 rfl Tryz.sizeOf4 rfl) (fun _ _ => rfl)) (xc (fun vals => X.val rfl rfl (RV.re (v' := .bool true) (ldW_r (v := .bool z.gone) (i := 0) rfl Tryz.isAgg4 rfl rfl) (by rw [hgo])) (fun _ _ => rfl)) (xc (fun vals => X.val rfl rfl (RV.re (v' := .bool false) (notB_r rfl) rfl) (fun _ _ => rfl)) (xc (fun vals => X.val rfl rfl (mv_r rfl) (fun _ _ => rfl)) (xc (fun vals => X.off rfl (fun _ _ => rfl)) (xc (fun vals => X.off rfl (fun _ _ => rfl)) (xc (fun vals => X.val rfl rfl (pkF_r rfl rfl) (fun _ _ => rfl)) (xc (fun vals => X.val rfl rfl (mv_r rfl) (fun _ _ => rfl)) (xc (fun vals => X.off rfl (fun _ _ => rfl)) (xc (fun vals => X.off rfl (fun _ _ => rfl)) (xc (fun vals => X.off rfl (fun _ _ => rfl)) (xc (fun vals => X.off rfl (fun _ _ => rfl)) (xc (fun vals => X.off rfl (fun _ _ => rfl)) (xn)))))))))))))) (by kernel_rfl) (by kernel_rfl) (by kernel_rfl) (fun vals => ?_)
                    refine OJ.off rfl (by decide) rfl ?_
                    refine rv rfl rfl rfl (pkF_r rfl rfl) ?_
                    refine OJ.done ?_
                    refine PJ.next ?_
                    refine CJ.condF rfl ?_
                    refine CJ.skip ?_
                    refine PJ.next ?_
                    refine CJ.exit ?_
                    refine PJ.exMiss rfl ?_
                    refine PJ.exThen ?_
                    refine PJ.exThen ?_
                    refine PJ.exHit ?_
                    refine PJ.norBlock ?_
                    refine PJ.next ?_
                    refine CJ.region ?_
                    refine rv rfl rfl rfl (addI_r rfl rfl (by omega) (by omega)) ?_
                    refine rv rfl rfl rfl (mv_r rfl) ?_
                    refine OJ.done ?_
                    refine PJ.fewL (L' := [w5, w3, w]) (by simp) ?_
                    refine PJ.dropAt (i := 0) rfl ⟨by omega, by omega, by omega, trivial⟩ ?_
                    refine PJ.dropAt (i := 0) rfl ⟨by omega, by omega, by omega, trivial⟩ ?_
                    refine PJ.dropAt (i := 0) rfl ⟨by omega, by omega, by omega, trivial⟩ ?_
                    refine PJ.dropAt (i := 0) rfl ⟨by omega, by omega, by omega, trivial⟩ ?_
                    refine PJ.reH (H' := [(b35, mpO (.bool true) (setK (cntL Z ls f (cs.take (j + 1)))))]) (by rw [cntL_none hc hcnt]; rfl) ?_
                    refine PJ.again (j + 1) (by omega) (by omega) ⟨rfl, rfl, rfl, rfl, rfl, rfl, rfl, trivial⟩ rfl rfl (by simp)
              · try simp only [decide_eq_true_eq, decide_eq_false_iff_not, Bool.not_eq_true', Bool.not_eq_false'] at hc5
                refine CJ.exit ?_
                refine PJ.exThen ?_
                refine PJ.exThen ?_
                refine PJ.exHit ?_
                refine PJ.norBlock ?_
                refine PJ.next ?_
                refine CJ.region ?_
                refine rv rfl rfl rfl (addI_r rfl rfl (by omega) (by omega)) ?_
                refine rv rfl rfl rfl (mv_r rfl) ?_
                refine OJ.done ?_
                refine PJ.fewL (L' := [w5, w3, w]) (by simp) ?_
                refine PJ.dropAt (i := 0) rfl ⟨by omega, by omega, by omega, trivial⟩ ?_
                refine PJ.dropAt (i := 0) rfl ⟨by omega, by omega, by omega, trivial⟩ ?_
                refine PJ.dropAt (i := 0) rfl ⟨by omega, by omega, by omega, trivial⟩ ?_
                have hcnt : cntO Z ls f c = none := cntO_none (ixL_none (by rw [List.take_of_length_le (by omega)] at hjp; exact hjp))
                refine PJ.reH (H' := [(b35, mpO (.bool true) (setK (cntL Z ls f (cs.take (j + 1)))))]) (by rw [cntL_none hc hcnt]; rfl) ?_
                refine PJ.again (j + 1) (by omega) (by omega) ⟨rfl, rfl, rfl, rfl, rfl, rfl, rfl, trivial⟩ rfl rfl (by simp)
            · refine call Tryz.call16 rfl rfl rfl (fun W hS => people_Owner_no hD W) ?_
              refine rv rfl rfl rfl (mv_r rfl) ?_
              refine rv rfl rfl rfl (ext_r rfl rfl) ?_
              refine rv rfl rfl rfl (ext_r rfl rfl) ?_
              refine rv rfl rfl rfl (asg_r rfl) ?_
              refine rv rfl rfl rfl (asg_r rfl) ?_
              refine OJ.done ?_
              refine PJ.next ?_
              refine CJ.seq ?_
              refine CJ.seq ?_
              refine CJ.region ?_
              refine rv rfl rfl rfl (mv_r rfl) ?_
              refine rv rfl rfl rfl (RV.re (v' := .bool false) (neqI_r rfl rfl) rfl) ?_
              refine OJ.done ?_
              refine PJ.next ?_
              refine CJ.condF rfl ?_
              refine CJ.skip ?_
              refine PJ.next ?_
              refine CJ.seq ?_
              refine CJ.region ?_
              refine rv rfl rfl rfl (mv_r rfl) ?_
              refine rv rfl rfl rfl (lenS_r Tryz.underlying38 rfl) ?_
              refine rv rfl rfl rfl (mv_r rfl) ?_
              refine OJ.done ?_
              refine PJ.next ?_
              refine CJ.block ?_
              refine CJ.loop (α := Nat) (fun i => [(1, .slice a ls.length cp), (3, ptr b3 0), (5, ptr b5 0), (7, .map (some b35)), (9, ptr b9 0), (12, ptr b12 0), (13, .int .i64 0), (14, .int .i64 371), (37, .slice (some ⟨b0, off0, none⟩) cs.length cc), (38, .int .i64 (cs.length : Int)), (39, .int .i64 (j : Int)), (66, .slice a ls.length cp), (67, .int .i64 (ls.length : Int)), (68, .int .i64 (i : Int))]) (fun i => [(b12, .cells (dg mf) 26 (0, 0)), (b53, rowC 5 (V.list (mV f c.dev)).enc s53), (b9, .cells (cnC c) 32 (0, 0)), (b35, mpO (.bool true) (setK (cntL Z ls f (cs.take j))))]) (fun i => [w51, w5, w3, w]) (fun i => Gh.no) (fun i => i ≤ ls.length ∧ ∀ x ∈ ls.take i, ¬ x.dev = c.dev) (fun i => ls.length - i) 0 ⟨Nat.zero_le _, by simp⟩ ⟨rfl, rfl, rfl, rfl, rfl, rfl, rfl, rfl, rfl, rfl, rfl, rfl, rfl, rfl, trivial⟩ rfl rfl (by simp) ?_
              rintro i ⟨hi, hjp⟩
              refine CJ.seq ?_
              refine CJ.region ?_
              refine rv rfl rfl rfl (lss_r rfl rfl) ?_
              refine OJ.done ?_
              refine PJ.next ?_
              refine CJ.seq ?_
              refine CJ.cond rfl (fun hc7 => ?_) (fun hc7 => ?_)
              · try simp only [decide_eq_true_eq, decide_eq_false_iff_not, Bool.not_eq_true', Bool.not_eq_false'] at hc7
                refine CJ.skip ?_
                refine PJ.next ?_
                refine CJ.seq ?_
                refine CJ.block ?_
                refine CJ.seq ?_
                obtain ⟨b6, off6, cs6, t6, fr6, hla, hbl6, hcs6, hel6⟩ := hsl.get (by omega)
                obtain ⟨z, hz⟩ := get_of ls i (by omega)
                refine CJ.region ?_
                refine rv rfl rfl rfl (idxS_r (b := b6) (off := off6) Tryz.underlying38 Tryz.sizeOf49 (by rw [← hla]; rfl) rfl (by omega) (by omega)) ?_
                refine rv rfl rfl rfl (RV.re (v' := .agg (lsC z)) (ldRA_r Tryz.isAgg49 Tryz.sizeOf49 rfl (.tail _ (.tail _ (.tail _ (.head _)))) hcs6 (fun h => h) (by first | exact True.intro | (simp only [Off, List.set_cons_zero, List.set_cons_succ, List.eraseIdx_cons_zero, List.eraseIdx_cons_succ, ne_eq, and_true]; omega)) (el_size hel6 hz rfl)) (congrArg Value.agg (el_cut hel6 hz rfl))) ?_
                refine allW Tryz.zeroValue49 rfl rfl ?_
                intro b16 ha16 ho16
                simp only [Above] at ha16
                try simp only [Off, book, List.cons_append, List.nil_append, List.set_cons_zero, List.set_cons_succ, ne_eq] at ho16
                refine stWw (i := 0) rfl Tryz.sizeOf49 rfl rfl rfl rfl rfl rfl ?_
                refine OJ.done ?_
                refine PJ.next ?_
                refine CJ.seq ?_
                refine CJ.seq ?_
                refine CJ.region ?_
                refine rv rfl rfl rfl (fld_r Tryz.underlying49 rfl Tryz.sizeOf3 rfl) ?_
                refine rv rfl rfl rfl (ldW_r (i := 0) rfl Tryz.isAgg3 rfl rfl) ?_
                refine rv rfl rfl rfl (fld_r Tryz.underlying32 rfl Tryz.sizeOf3 rfl) ?_
                refine rv rfl rfl rfl (ldW_r (i := 3) rfl Tryz.isAgg3 rfl rfl) ?_
                refine rv rfl rfl rfl (neqI_r rfl rfl) ?_
                refine OJ.done ?_
                refine PJ.next ?_
                refine CJ.cond rfl (fun hc8 => ?_) (fun hc8 => ?_)
                · try simp only [decide_eq_true_eq, decide_eq_false_iff_not, Bool.not_eq_true', Bool.not_eq_false'] at hc8
                  refine CJ.exit ?_
                  refine PJ.exThen ?_
                  refine PJ.exHit ?_
                  refine PJ.next ?_
                  refine CJ.region ?_
                  refine rv rfl rfl rfl (addI_r rfl rfl (by omega) (by omega)) ?_
                  refine rv rfl rfl rfl (mv_r rfl) ?_
                  refine OJ.done ?_
                  refine PJ.dropAt (i := 0) rfl ⟨by omega, by omega, by omega, by omega, trivial⟩ ?_
                  refine PJ.again (i + 1) ⟨by omega, by intro q hq; rw [take_snoc hz] at hq; simp only [List.mem_append, List.mem_singleton] at hq; rcases hq with hq | rfl; exact hjp q hq; omega⟩ (by omega) ⟨rfl, rfl, rfl, rfl, rfl, rfl, rfl, rfl, rfl, rfl, rfl, rfl, rfl, rfl, trivial⟩ rfl rfl (by simp)
                · try simp only [decide_eq_true_eq, decide_eq_false_iff_not, Bool.not_eq_true', Bool.not_eq_false'] at hc8
                  refine CJ.skip ?_
                  refine PJ.next ?_
                  refine CJ.seq ?_
                  refine CJ.seq ?_
                  have hix0 := ixL_hit hz hjp (by omega)
                  rcases hgo : z.gone with _ | _
                  · have hcnt : cntO Z ls f c = none := cntO_no hix0 hz (.inr (.inl hD))
                    refine CJ.less (E' := [(1, _), (3, _), (5, _), (7, _), (9, _), (12, _), (13, _), (14, _), (16, _), (37, _), (38, _), (39, _), (66, _), (67, _), (68, _), (69, _), (70, _), (71, _), (72, _), (73, _), (74, _), (75, _), (76, _)]) ⟨rfl, rfl, rfl, rfl, rfl, rfl, rfl, rfl, rfl, rfl, rfl, rfl, rfl, rfl, rfl, rfl, rfl, rfl, rfl, rfl, rfl, rfl, rfl, trivial⟩ ?_
                    refine CJ.drwD 13 [.det [] _, .det [0] _, .det [1] _, .det [2] _, .det [3] _, .det [3, 4] _, .det [3, 5] _, .det [6] _, .det [7] undef, .det [7, 8] undef, .det [7] undef, .det [7] undef, .det [7, 11] undef] (by kernel_rfl) (xc (fun vals => X.val rfl rfl (fld_r Tryz.underlying49 rfl Tryz.sizeOf4 rfl) (fun _ _ => rfl)) (xc (fun vals => X.val rfl rfl (RV.re (v' := .bool false) (ldW_r (v := .bool z.gone) (i := 0) rfl Tryz.isAgg4 rfl rfl) (by rw [hgo])) (fun _ _ => rfl)) (xc (fun vals => X.val rfl rfl (RV.re (v' := .bool true) (notB_r rfl) rfl) (fun _ _ => rfl)) (xc (fun vals => X.val rfl rfl (mv_r rfl) (fun _ _ => rfl)) (xc (fun vals => X.val rfl rfl (mv_r rfl) (fun _ _ => rfl)) (xc (fun vals => X.val rfl rfl (RV.re (v' := .bool false) (eqlI_r rfl rfl) rfl) (fun _ _ => rfl)) (xc (fun vals => X.val rfl rfl (pkT_r rfl rfl) (fun _ _ => rfl)) (xc (fun vals => X.val rfl rfl (mv_r rfl) (fun _ _ => rfl)) (xc (fun vals => X.off rfl (fun _ _ => rfl)) (xc (fun vals => X.off rfl (fun _ _ => rfl)) (xc (fun vals => X.off rfl (fun _ _ => rfl)) (xc (fun vals => X.off rfl (fun _ _ => rfl)) (xc (fun vals => X.off rfl (fun _ _ => rfl)) (xn)))))))))))))) (by kernel_rfl) (by kernel_rfl) (by kernel_rfl) (fun vals => ?_)
                    refine OJ.off rfl (by decide) rfl ?_
                    refine rv rfl rfl rfl (pkF_r rfl rfl) ?_
                    refine OJ.done ?_
                    refine PJ.next ?_
                    refine CJ.condF rfl ?_
                    refine CJ.skip ?_
                    refine PJ.next ?_
                    refine CJ.exit ?_
                    refine PJ.exMiss rfl ?_
                    refine PJ.exThen ?_
                    refine PJ.exThen ?_
                    refine PJ.exHit ?_
                    refine PJ.norBlock ?_
                    refine PJ.next ?_
                    refine CJ.region ?_
                    refine rv rfl rfl rfl (addI_r rfl rfl (by omega) (by omega)) ?_
                    refine rv rfl rfl rfl (mv_r rfl) ?_
                    refine OJ.done ?_
                    refine PJ.fewL (L' := [w5, w3, w]) (by simp) ?_
                    refine PJ.dropAt (i := 0) rfl ⟨by omega, by omega, by omega, trivial⟩ ?_
                    refine PJ.dropAt (i := 0) rfl ⟨by omega, by omega, by omega, trivial⟩ ?_
                    refine PJ.dropAt (i := 0) rfl ⟨by omega, by omega, by omega, trivial⟩ ?_
                    refine PJ.dropAt (i := 0) rfl ⟨by omega, by omega, by omega, trivial⟩ ?_
                    refine PJ.reH (H' := [(b35, mpO (.bool true) (setK (cntL Z ls f (cs.take (j + 1)))))]) (by rw [cntL_none hc hcnt]; rfl) ?_
                    refine PJ.again (j + 1) (by omega) (by omega) ⟨rfl, rfl, rfl, rfl, rfl, rfl, rfl, trivial⟩ rfl rfl (by simp)
                  · have hcnt : cntO Z ls f c = none := cntO_no hix0 hz (.inl hgo)
                    refine CJ.less (E' := [(1, _), (3, _), (5, _), (7, _), (9, _), (12, _), (13, _), (14, _), (16, _), (37, _), (38, _), (39, _), (66, _), (67, _), (68, _), (69, _), (70, _), (71, _), (72, _), (73, _), (74, _), (75, _), (76, _)]) ⟨rfl, rfl, rfl, rfl, rfl, rfl, rfl, rfl, rfl, rfl, rfl, rfl, rfl, rfl, rfl, rfl, rfl, rfl, rfl, rfl, rfl, rfl, rfl, trivial⟩ ?_
                    refine CJ.drwD 13 [.det [] _, .det [0] _, .det [1] _, .det [2] _, .det [3] undef, .det [3, 4] undef, .det [3, 5] _, .det [6] _, .det [7] undef, .det [7, 8] undef, .det [7] undef, .det [7] undef, .det [7, 11] undef] (by kernel_rfl) (xc (fun vals => X.val rfl rfl (fld_r Tryz.underlying49 rfl Tryz.sizeOf4 rfl) (fun _ _ => rfl)) (xc (fun vals => X.val rfl rfl (RV.re (v' := .bool true) (ldW_r (v := .bool z.gone) (i := 0) rfl Tryz.isAgg4 rfl rfl) (by rw [hgo])) (fun _ _ => rfl)) (xc (fun vals => X.val rfl rfl (RV.re (v' := .bool false) (notB_r rfl) rfl) (fun _ _ => rfl)) (xc (fun vals => X.val rfl rfl (mv_r rfl) (fun _ _ => rfl)) (xc (fun vals => X.off rfl (fun _ _ => rfl)) (xc (fun vals => X.off rfl (fun _ _ => rfl)) (xc (fun vals => X.val rfl rfl (pkF_r rfl rfl) (fun _ _ => rfl)) (xc (fun vals => X.val rfl rfl (mv_r rfl) (fun _ _ => rfl)) (xc (fun vals => X.off rfl (fun _ _ => rfl)) (xc (fun vals => X.off rfl (fun _ _ => rfl)) (xc (fun vals => X.off rfl (fun _ _ => rfl)) (xc (fun vals => X.off rfl (fun _ _ => rfl)) (xc (fun vals => X.off rfl (fun _ _ => rfl)) (xn)))))))))))))) (by kernel_rfl) (by kernel_rfl) (by kernel_rfl) (fun vals => ?_)
                    refine OJ.off rfl (by decide) rfl ?_
                    refine rv rfl rfl rfl (pkF_r rfl rfl) ?_
                    refine OJ.done ?_
                    refine PJ.next ?_
                    refine CJ.condF rfl ?_
                    refine CJ.skip ?_
                    refine PJ.next ?_
                    refine CJ.exit ?_
                    refine PJ.exMiss rfl ?_
                    refine PJ.exThen ?_
                    refine PJ.exThen ?_
                    refine PJ.exHit ?_
                    refine PJ.norBlock ?_
                    refine PJ.next ?_
                    refine CJ.region ?_
                    refine rv rfl rfl rfl (addI_r rfl rfl (by omega) (by omega)) ?_
                    refine rv rfl rfl rfl (mv_r rfl) ?_
                    refine OJ.done ?_
                    refine PJ.fewL (L' := [w5, w3, w]) (by simp) ?_
                    refine PJ.dropAt (i := 0) rfl ⟨by omega, by omega, by omega, trivial⟩ ?_
                    refine PJ.dropAt (i := 0) rfl ⟨by omega, by omega, by omega, trivial⟩ ?_
                    refine PJ.dropAt (i := 0) rfl ⟨by omega, by omega, by omega, trivial⟩ ?_
                    refine PJ.dropAt (i := 0) rfl ⟨by omega, by omega, by omega, trivial⟩ ?_
                    refine PJ.reH (H' := [(b35, mpO (.bool true) (setK (cntL Z ls f (cs.take (j + 1)))))]) (by rw [cntL_none hc hcnt]; rfl) ?_
                    refine PJ.again (j + 1) (by omega) (by omega) ⟨rfl, rfl, rfl, rfl, rfl, rfl, rfl, trivial⟩ rfl rfl (by simp)
              · try simp only [decide_eq_true_eq, decide_eq_false_iff_not, Bool.not_eq_true', Bool.not_eq_false'] at hc7
                refine CJ.exit ?_
                refine PJ.exThen ?_
                refine PJ.exThen ?_
                refine PJ.exHit ?_
                refine PJ.norBlock ?_
                refine PJ.next ?_
                refine CJ.region ?_
                refine rv rfl rfl rfl (addI_r rfl rfl (by omega) (by omega)) ?_
                refine rv rfl rfl rfl (mv_r rfl) ?_
                refine OJ.done ?_
                refine PJ.fewL (L' := [w5, w3, w]) (by simp) ?_
                refine PJ.dropAt (i := 0) rfl ⟨by omega, by omega, by omega, trivial⟩ ?_
                refine PJ.dropAt (i := 0) rfl ⟨by omega, by omega, by omega, trivial⟩ ?_
                refine PJ.dropAt (i := 0) rfl ⟨by omega, by omega, by omega, trivial⟩ ?_
                have hcnt : cntO Z ls f c = none := cntO_none (ixL_none (by rw [List.take_of_length_le (by omega)] at hjp; exact hjp))
                refine PJ.reH (H' := [(b35, mpO (.bool true) (setK (cntL Z ls f (cs.take (j + 1)))))]) (by rw [cntL_none hc hcnt]; rfl) ?_
                refine PJ.again (j + 1) (by omega) (by omega) ⟨rfl, rfl, rfl, rfl, rfl, rfl, rfl, trivial⟩ rfl rfl (by simp)
        · try simp only [decide_eq_true_eq, decide_eq_false_iff_not, Bool.not_eq_true', Bool.not_eq_false'] at hc4
          refine CJ.exit ?_
          refine PJ.exThen ?_
          refine PJ.exThen ?_
          refine PJ.exHit ?_
          refine PJ.next ?_
          refine CJ.seq ?_
          refine CJ.region ?_
          refine rv rfl rfl rfl (asg_r rfl) ?_
          refine OJ.done ?_
          refine PJ.next ?_
          refine CJ.seq ?_
          refine CJ.seq ?_
          refine CJ.region ?_
          refine rv rfl rfl rfl (fld_r Tryz.underlying24 rfl Tryz.sizeOf4 rfl) ?_
          refine rv rfl rfl rfl (ldR_r Tryz.isAgg4 rfl (.tail _ (.head _)) hb3 hm3 (by first | (simp only [Off, book, List.cons_append, List.nil_append, List.set_cons_zero, List.set_cons_succ, List.eraseIdx_cons_zero, List.eraseIdx_cons_succ, ne_eq, and_true]; omega) | (simp [Off] <;> omega)) rfl) ?_
          refine OJ.done ?_
          refine PJ.next ?_
          refine CJ.cond rfl (fun hc9 => ?_) (fun hc9 => ?_)
          · try simp only [decide_eq_true_eq, decide_eq_false_iff_not, Bool.not_eq_true', Bool.not_eq_false'] at hc9
            refine CJ.region ?_
            refine rv rfl rfl rfl (asg_r rfl) ?_
            refine OJ.done ?_
            refine PJ.next ?_
            refine CJ.seq ?_
            refine CJ.region ?_
            refine rv rfl rfl rfl (RV.re (v' := .agg (poC p)) (ldRAw_r Tryz.isAgg24 Tryz.sizeOf24 rfl (.tail _ (.head _)) hb3 hm3 (by first | (simp only [Off, book, List.cons_append, List.nil_append, List.set_cons_zero, List.set_cons_succ, List.eraseIdx_cons_zero, List.eraseIdx_cons_succ, ne_eq, and_true]; omega) | (simp [Off] <;> omega)) rfl) (rfl)) ?_
            refine rv rfl rfl rfl (mv_r rfl) ?_
            refine rv rfl rfl rfl (RV.re (v' := .agg (exC (⟨f, ca, cs, cc⟩ : Ex))) (ldRAw_r Tryz.isAgg41 Tryz.sizeOf41 rfl (.head _) hb5 hm5 (by first | (simp only [Off, book, List.cons_append, List.nil_append, List.set_cons_zero, List.set_cons_succ, List.eraseIdx_cons_zero, List.eraseIdx_cons_succ, ne_eq, and_true]; omega) | (simp [Off] <;> omega)) rfl) (rfl)) ?_
            refine call Tryz.call14 rfl rfl rfl (fun W hS => by rw [← hei]; exact policy_Export hZ p hf ls (by omega) f cs (by omega) N a cp ca cc W (Nat.le_trans hN (hS.links _ (.tail _ (.tail _ (.head _)))).size) (hp.up (Nat.le_refl _) (hS.same (.tail _ (.tail _ (.head _))) hN (fun _ _ h => h) (by first | exact True.intro | (simp only [Over, List.set_cons_zero, List.set_cons_succ, List.eraseIdx_cons_zero, List.eraseIdx_cons_succ, and_true]; omega)))) (hsl.up (Nat.le_refl _) (hS.same (.tail _ (.tail _ (.head _))) hN (fun _ _ h => h) (by first | exact True.intro | (simp only [Over, List.set_cons_zero, List.set_cons_succ, List.eraseIdx_cons_zero, List.eraseIdx_cons_succ, and_true]; omega)))) (hcs.up (Nat.le_refl _) (hS.same (.tail _ (.tail _ (.head _))) hN (fun _ _ h => h) (by first | exact True.intro | (simp only [Over, List.set_cons_zero, List.set_cons_succ, List.eraseIdx_cons_zero, List.eraseIdx_cons_succ, and_true]; omega)))) (hg.old hS (by simp) (fun _ _ h => h) (by first | exact True.intro | (simp only [Over, List.set_cons_zero, List.set_cons_succ, List.eraseIdx_cons_zero, List.eraseIdx_cons_succ, and_true]; omega))) hg2) (v := .int .i64 ei) ?_
            refine rv rfl rfl rfl (eqlI_r rfl rfl) ?_
            refine rv rfl rfl rfl (mv_r rfl) ?_
            refine rv rfl rfl rfl (mlen_r Tryz.underlying52 (Lies.own (i := 0) rfl) rfl) ?_
            refine rv rfl rfl rfl (mv_r rfl) ?_
            refine rv rfl rfl rfl (geq_r rfl rfl) ?_
            refine rv rfl rfl rfl (RV.re (v' := .bool true) (eqlB_r Tryz.underlying4 rfl rfl) (congrArg Value.bool (by rw [List.take_of_length_le (by omega)]; exact exact_leaf (by omega) hei _ (by rw [show p.two = true by assumption]; rfl)))) ?_
            refine rv rfl rfl rfl (asg_r rfl) ?_
            refine OJ.done ?_
            refine PJ.next ?_
            refine CJ.ret ?_
            refine retO (.inl rfl) Tryz.results6 (RS.t rfl (RS.n)) (.tail _ (.tail _ (.head _))) (by first | (simp only [Over, List.set_cons_zero, List.set_cons_succ, List.eraseIdx_cons_zero, List.eraseIdx_cons_succ, and_true]; omega) | (simp [Over] <;> omega)) ?_
            rfl
          · try simp only [decide_eq_true_eq, decide_eq_false_iff_not, Bool.not_eq_true', Bool.not_eq_false'] at hc9
            refine CJ.skip ?_
            refine PJ.next ?_
            refine CJ.seq ?_
            refine CJ.region ?_
            refine rv rfl rfl rfl (RV.re (v' := .agg (poC p)) (ldRAw_r Tryz.isAgg24 Tryz.sizeOf24 rfl (.tail _ (.head _)) hb3 hm3 (by first | (simp only [Off, book, List.cons_append, List.nil_append, List.set_cons_zero, List.set_cons_succ, List.eraseIdx_cons_zero, List.eraseIdx_cons_succ, ne_eq, and_true]; omega) | (simp [Off] <;> omega)) rfl) (rfl)) ?_
            refine rv rfl rfl rfl (mv_r rfl) ?_
            refine rv rfl rfl rfl (RV.re (v' := .agg (exC (⟨f, ca, cs, cc⟩ : Ex))) (ldRAw_r Tryz.isAgg41 Tryz.sizeOf41 rfl (.head _) hb5 hm5 (by first | (simp only [Off, book, List.cons_append, List.nil_append, List.set_cons_zero, List.set_cons_succ, List.eraseIdx_cons_zero, List.eraseIdx_cons_succ, ne_eq, and_true]; omega) | (simp [Off] <;> omega)) rfl) (rfl)) ?_
            refine call Tryz.call14 rfl rfl rfl (fun W hS => by rw [← hei]; exact policy_Export hZ p hf ls (by omega) f cs (by omega) N a cp ca cc W (Nat.le_trans hN (hS.links _ (.tail _ (.tail _ (.head _)))).size) (hp.up (Nat.le_refl _) (hS.same (.tail _ (.tail _ (.head _))) hN (fun _ _ h => h) (by first | exact True.intro | (simp only [Over, List.set_cons_zero, List.set_cons_succ, List.eraseIdx_cons_zero, List.eraseIdx_cons_succ, and_true]; omega)))) (hsl.up (Nat.le_refl _) (hS.same (.tail _ (.tail _ (.head _))) hN (fun _ _ h => h) (by first | exact True.intro | (simp only [Over, List.set_cons_zero, List.set_cons_succ, List.eraseIdx_cons_zero, List.eraseIdx_cons_succ, and_true]; omega)))) (hcs.up (Nat.le_refl _) (hS.same (.tail _ (.tail _ (.head _))) hN (fun _ _ h => h) (by first | exact True.intro | (simp only [Over, List.set_cons_zero, List.set_cons_succ, List.eraseIdx_cons_zero, List.eraseIdx_cons_succ, and_true]; omega)))) (hg.old hS (by simp) (fun _ _ h => h) (by first | exact True.intro | (simp only [Over, List.set_cons_zero, List.set_cons_succ, List.eraseIdx_cons_zero, List.eraseIdx_cons_succ, and_true]; omega))) hg2) (v := .int .i64 ei) ?_
            refine rv rfl rfl rfl (eqlI_r rfl rfl) ?_
            refine rv rfl rfl rfl (mv_r rfl) ?_
            refine rv rfl rfl rfl (mlen_r Tryz.underlying52 (Lies.own (i := 0) rfl) rfl) ?_
            refine rv rfl rfl rfl (mv_r rfl) ?_
            refine rv rfl rfl rfl (geq_r rfl rfl) ?_
            refine rv rfl rfl rfl (RV.re (v' := .bool true) (eqlB_r Tryz.underlying4 rfl rfl) (congrArg Value.bool (by rw [List.take_of_length_le (by omega)]; exact exact_leaf (by omega) hei _ (by rw [show p.two = false by assumption]; rfl)))) ?_
            refine rv rfl rfl rfl (asg_r rfl) ?_
            refine OJ.done ?_
            refine PJ.next ?_
            refine CJ.ret ?_
            refine retO (.inl rfl) Tryz.results6 (RS.t rfl (RS.n)) (.tail _ (.tail _ (.head _))) (by first | (simp only [Over, List.set_cons_zero, List.set_cons_succ, List.eraseIdx_cons_zero, List.eraseIdx_cons_succ, and_true]; omega) | (simp [Over] <;> omega)) ?_
            rfl
end Px
