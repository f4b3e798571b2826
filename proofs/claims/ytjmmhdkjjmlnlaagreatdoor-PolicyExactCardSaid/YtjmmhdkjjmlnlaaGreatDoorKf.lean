/- Contracts of the package codec and of chartroomref01. No condition beyond those that each theorem states. -/
import Derived.Test.YtjmmhdkjjmlnlaaGreatDoorKe
import Derived.Test.YtjmmhdkjjmlnlaaGreatDoorProg
import Derived.Test.YtjmmhdkjjmlnlaaGreatDoorXd
set_option linter.unusedSimpArgs false
set_option linter.unusedVariables false
set_option linter.unusedSectionVars false
namespace Px
open Go Go.RowKit Go.Proofs
theorem V.encL_drop (l : List V) (i : Nat) (h : i < l.length) : V.encL (l.drop i) = (l[i]).enc ++ V.encL (l.drop (i + 1)) := by
  rw [List.drop_eq_getElem_cons h, V.encL]
theorem fn_ent (x : V) : Ent Tryz.prog x.fn := by
  cases x
  · exact Tryz.call86
  · exact Tryz.call89
  · exact Tryz.call90
/-- chartroom/codec.newWriter$2 -/
theorem write_text (x : ByteArray) (hn : (V.text x).fine) (xs : List UInt8) (b cap : Nat) (sp : List Value) (hrow : RowOk xs cap sp) (w : World) (hb : w.heap[b]? = some (rowC 5 xs sp)) (hlim : xs.length + (V.text x).enc.length ≤ 800000000000) :
    Calls Tryz.prog 89 #[rowV b xs.length cap, vT x] w (RetRow w b 5 (xs ++ (V.text x).enc)) := by
  have hbl := (Array.getElem?_eq_some_iff.1 hb).1
  simp only [V.fine] at hn
  simp only [V.enc, List.length_cons, List.length_append] at hlim
  have hxl : x.data.toList.length = x.size := Array.length_toList
  refine enterG (vs := [_, _]) (Gh.lent (· = b)) [(b, rowC 5 xs sp)] Tryz.func89 rfl Tryz.ntmps89 rfl (st_lent hb) ?_
  refine CJ.seq ?_
  refine CJ.region ?_
  refine boxR rfl rfl rfl ?_
  intro b3 w3 hb3 ha3 ho3 hm3 hz3
  simp only [Above] at ha3
  try simp only [Off, book, List.cons_append, List.nil_append, List.set_cons_zero, List.set_cons_succ, ne_eq] at ho3
  refine rv rfl rfl rfl (asg_r rfl) ?_
  refine OJ.done ?_
  refine PJ.next ?_
  refine CJ.seq ?_
  refine CJ.less (E' := [(0, _), (1, _), (3, _), (4, _)]) ⟨rfl, rfl, rfl, rfl, trivial⟩ ?_
  refine CJ.chn 10 [1, 2, 7] [([], some _), ([], none), ([0, 1], none), ([], some _), ([3], some (.string x)), ([4], some _), ([5], some _), ([2, 6], none), ([], some _), ([8], some (.string x))] (fun cv L' H' => match cv with | [] => L' = [w3, w] ∧ H' = [(b, rowC 5 xs sp)] | [v1] => ∃ (b6 : Nat), v1 = rowV b6 ([2] : List UInt8).length 1 ∧ L' = [w3, w] ∧ H' = [(b6, rowC 5 [2] []), (b, rowC 5 xs sp)] ∧ w3.heap.size ≤ b6 ∧ w.heap.size ≤ b6 | [v1, v2] => ∃ (b6 : Nat) (b7 : Nat) (c7 : Nat) (s7 : List Value), v1 = rowV b6 ([2] : List UInt8).length 1 ∧ v2 = rowV b7 (xs ++ [2]).length c7 ∧ L' = [w3, w] ∧ H' = [(b6, rowC 5 [2] []), (b7, rowC 5 (xs ++ [2]) s7)] ∧ w3.heap.size ≤ b6 ∧ w.heap.size ≤ b6 ∧ Fr (Gh.lent (· = b)) [w3, w] b7 ∧ (b7 = b ∨ w3.heap.size ≤ b7 ∧ w.heap.size ≤ b7) ∧ RowOk (xs ++ [2]) c7 s7 | [v1, v2, v3] => ∃ (b6 : Nat) (b7 : Nat) (c7 : Nat) (s7 : List Value) (b12 : Nat) (c12 : Nat) (s12 : List Value), v1 = rowV b6 ([2] : List UInt8).length 1 ∧ v2 = rowV b7 (xs ++ [2]).length c7 ∧ v3 = rowV b12 (xs ++ [2] ++ num x.size).length c12 ∧ L' = [w3, w] ∧ H' = [(b6, rowC 5 [2] []), (b12, rowC 5 (xs ++ [2] ++ num x.size) s12)] ∧ w3.heap.size ≤ b6 ∧ w.heap.size ≤ b6 ∧ Fr (Gh.lent (· = b)) [w3, w] b7 ∧ (b7 = b ∨ w3.heap.size ≤ b7 ∧ w.heap.size ≤ b7) ∧ RowOk (xs ++ [2]) c7 s7 ∧ Fr (Gh.lent (· = b)) [w3, w] b12 ∧ (b12 = b ∨ w3.heap.size ≤ b12 ∧ w.heap.size ≤ b12) ∧ RowOk (xs ++ [2] ++ num x.size) c12 s12 | _ => False) (by kernel_rfl) ⟨rfl, rfl⟩ (by kernel_rfl) (by kernel_rfl) (by kernel_rfl) (by kernel_rfl) (by kernel_rfl) (by kernel_rfl) (pc (fun cv L' H' hd hP => X.val rfl rfl (mv_r rfl) (fun _ _ => rfl)) (pk (pk (pc (fun cv L' H' hd hP => X.val rfl rfl (fld_r Tryz.underlying58 rfl Tryz.sizeOf9 rfl) (fun _ _ => rfl)) (pc (fun cv L' H' hd hP => match cv, hd, hP with | [], hd, hP => (by obtain ⟨rfl, rfl⟩ := hP; exact X.val rfl rfl (ldR_r Tryz.isAgg9 rfl (.head _) hb3 hm3 (by first | (simp only [Off, book, List.cons_append, List.nil_append, List.set_cons_zero, List.set_cons_succ, List.eraseIdx_cons_zero, List.eraseIdx_cons_succ, ne_eq, and_true]; omega) | (simp [Off] <;> omega)) rfl) (fun _ _ => rfl)) | [v1], hd, hP => (by obtain ⟨b6, rfl, rfl, rfl, ha6, hA6⟩ := hP; exact X.val rfl rfl (ldR_r Tryz.isAgg9 rfl (.head _) hb3 hm3 (by first | (simp only [Off, book, List.cons_append, List.nil_append, List.set_cons_zero, List.set_cons_succ, List.eraseIdx_cons_zero, List.eraseIdx_cons_succ, ne_eq, and_true]; omega) | (simp [Off] <;> omega)) rfl) (fun _ _ => rfl)) | [v1, v2], hd, hP => (by obtain ⟨b6, b7, c7, s7, rfl, rfl, rfl, rfl, ha6, hA6, hf7, hg7, hr7⟩ := hP; exact X.val rfl rfl (ldR_r Tryz.isAgg9 rfl (.head _) hb3 hm3 (by first | (simp only [Off, book, List.cons_append, List.nil_append, List.set_cons_zero, List.set_cons_succ, List.eraseIdx_cons_zero, List.eraseIdx_cons_succ, ne_eq, and_true]; omega) | (simp [Off] <;> omega)) rfl) (fun _ _ => rfl)) | [v1, v2, v3], hd, hP => (by obtain ⟨b6, b7, c7, s7, b12, c12, s12, rfl, rfl, rfl, rfl, rfl, ha6, hA6, hf7, hg7, hr7, hf12, hg12, hr12⟩ := hP; exact X.val rfl rfl (ldR_r Tryz.isAgg9 rfl (.head _) hb3 hm3 (by first | (simp only [Off, book, List.cons_append, List.nil_append, List.set_cons_zero, List.set_cons_succ, List.eraseIdx_cons_zero, List.eraseIdx_cons_succ, ne_eq, and_true]; omega) | (simp [Off] <;> omega)) rfl) (fun _ _ => rfl)) | _ :: _ :: _ :: _ :: _, _, hP => hP.elim) (pc (fun cv L' H' hd hP => X.val rfl rfl (lenStr_r Tryz.underlying9 rfl) (fun _ _ => rfl)) (pc (fun cv L' H' hd hP => X.val rfl rfl (cvtU_r Tryz.underlying3 Tryz.underlying148 rfl (by omega) (by omega)) (fun _ _ => rfl)) (pk (pc (fun cv L' H' hd hP => X.val rfl rfl (fld_r Tryz.underlying58 rfl Tryz.sizeOf9 rfl) (fun _ _ => rfl)) (pc (fun cv L' H' hd hP => match cv, hd, hP with | [], hd, hP => (by obtain ⟨rfl, rfl⟩ := hP; exact X.val rfl rfl (ldR_r Tryz.isAgg9 rfl (.head _) hb3 hm3 (by first | (simp only [Off, book, List.cons_append, List.nil_append, List.set_cons_zero, List.set_cons_succ, List.eraseIdx_cons_zero, List.eraseIdx_cons_succ, ne_eq, and_true]; omega) | (simp [Off] <;> omega)) rfl) (fun _ _ => rfl)) | [v1], hd, hP => (by obtain ⟨b6, rfl, rfl, rfl, ha6, hA6⟩ := hP; exact X.val rfl rfl (ldR_r Tryz.isAgg9 rfl (.head _) hb3 hm3 (by first | (simp only [Off, book, List.cons_append, List.nil_append, List.set_cons_zero, List.set_cons_succ, List.eraseIdx_cons_zero, List.eraseIdx_cons_succ, ne_eq, and_true]; omega) | (simp [Off] <;> omega)) rfl) (fun _ _ => rfl)) | [v1, v2], hd, hP => (by obtain ⟨b6, b7, c7, s7, rfl, rfl, rfl, rfl, ha6, hA6, hf7, hg7, hr7⟩ := hP; exact X.val rfl rfl (ldR_r Tryz.isAgg9 rfl (.head _) hb3 hm3 (by first | (simp only [Off, book, List.cons_append, List.nil_append, List.set_cons_zero, List.set_cons_succ, List.eraseIdx_cons_zero, List.eraseIdx_cons_succ, ne_eq, and_true]; omega) | (simp [Off] <;> omega)) rfl) (fun _ _ => rfl)) | [v1, v2, v3], hd, hP => (by obtain ⟨b6, b7, c7, s7, b12, c12, s12, rfl, rfl, rfl, rfl, rfl, ha6, hA6, hf7, hg7, hr7, hf12, hg12, hr12⟩ := hP; exact X.val rfl rfl (ldR_r Tryz.isAgg9 rfl (.head _) hb3 hm3 (by first | (simp only [Off, book, List.cons_append, List.nil_append, List.set_cons_zero, List.set_cons_succ, List.eraseIdx_cons_zero, List.eraseIdx_cons_succ, ne_eq, and_true]; omega) | (simp [Off] <;> omega)) rfl) (fun _ _ => rfl)) | _ :: _ :: _ :: _ :: _, _, hP => hP.elim) (pn))))))))))) ?_ ?_
  · refine sc rfl rfl rfl ?_ ?_
    · intro cv L' H' hl hP F Q' hk
      obtain rfl := List.eq_nil_of_length_eq_zero hl
      obtain ⟨rfl, rfl⟩ := hP
      refine bsB [2] bt Tryz.zeroValue5 rfl rfl rfl rfl rfl rfl rfl rfl rfl ?_
      intro b6 ha ho hx hr
      exact OJ.done (hk _ _ _ ⟨b6, rfl, rfl, rfl, ha.1, ha.2.1⟩)
    refine sc rfl rfl rfl ?_ ?_
    · intro cv L' H' hl hP F Q' hk
      obtain ⟨v1, rfl⟩ := len1 hl
      obtain ⟨b6, rfl, rfl, rfl, ha6, hA6⟩ := hP
      refine apB (i := 1) (xs := xs) (zs := [2]) (sp := sp) rfl bt rfl rfl rfl rfl (SrcB.own (i := 0) Tryz.underlying53 rfl) hrow (.inl rfl) (by simp only [List.length_append, List.length_cons, List.length_nil]; omega) ?_
      intro b7 c7 s7 hf7 hr7
      exact OJ.done (hk _ _ _ ⟨b6, b7, c7, s7, rfl, rfl, rfl, rfl, ha6, hA6, hf7, by simpa only [Fr, Gh.lent, Above, and_true] using hf7, hr7⟩)
    refine sc rfl rfl rfl ?_ ?_
    · intro cv L' H' hl hP F Q' hk
      obtain ⟨v1, v2, rfl⟩ := len2 hl
      obtain ⟨b6, b7, c7, s7, rfl, rfl, rfl, rfl, ha6, hA6, hf7, hg7, hr7⟩ := hP
      refine callR (i := 1) (ys := xs ++ [2] ++ num x.size) (first := []) (cap := []) rfl rfl Tryz.call87 rfl rfl rfl hf7 (fun W hS hW => codec_numeral (xs ++ [2]) x.size (by omega) b7 c7 s7 hr7 (by simp only [List.length_append, List.length_cons, List.length_nil]; omega) W hW) ?_
      intro bn cn sn hfn hrn
      have hgn := hfn
      simp only [Fr, Gh.lent, Gh.no, Above, and_true, false_or] at hgn
      exact OJ.done (hk _ _ _ ⟨b6, b7, c7, s7, bn, cn, sn, rfl, rfl, rfl, rfl, rfl, ha6, hA6, hf7, hg7, hr7, hfn, by simpa only [Fr, Gh.lent, Above, and_true] using hfn, hrn⟩)
    exact sn
  · intro cv L' H' hl hP
    obtain ⟨v1, v2, v3, rfl⟩ := len3 hl
    obtain ⟨b6, b7, c7, s7, b12, c12, s12, rfl, rfl, rfl, rfl, rfl, ha6, hA6, hf7, hg7, hr7, hf12, hg12, hr12⟩ := hP
    refine apB (i := 1) (xs := xs ++ [2] ++ num x.size) (zs := x.data.toList) (sp := s12) rfl bt rfl rfl rfl rfl (SrcB.str Tryz.underlying9) hr12 hf12 (by simp only [List.length_append, List.length_cons, List.length_nil]; omega) ?_
    intro b15 c15 s15 hf15 hr15
    have hg15 := hf15
    simp only [Fr, Gh.lent, Gh.no, Above, and_true, false_or] at hg15
    refine rv rfl rfl rfl (asg_r rfl) ?_
    refine OJ.done ?_
    refine PJ.next ?_
    refine CJ.ret ?_
    have henc : xs ++ (V.text x).enc = xs ++ [2] ++ num x.size ++ x.data.toList := by simp [V.enc]
    rw [henc]
    exact retRow (i := 1) (.inl rfl) Tryz.results89 rfl rfl (.tail _ (.head _)) (by simp only [OverX, List.set_cons_zero, List.set_cons_succ, List.eraseIdx_cons_zero, List.eraseIdx_cons_succ, and_true]; simp only [Fr, Gh.lent, Above] at hf15; omega) hr15
set_option maxHeartbeats 400000 in
/-- chartroom/codec.newWriter$3 -/
theorem write_list (l : List V) (ih : ∀ y ∈ l, WriteOk y) (hfin : (V.list l).fine) (N : Nat) (base : Option Addr) (lc bv bw : Nat) (xs : List UInt8) (b cap : Nat) (sp : List Value) (hrow : RowOk xs cap sp) (w : World) (hb : w.heap[b]? = some (rowC 5 xs sp)) (hN : N ≤ w.heap.size) (hNb : N ≤ b) (hel : ElAt N w base l) (hwr : Wr N w bv bw) (hlim : xs.length + (V.list l).enc.length ≤ 800000000000) :
    Calls Tryz.prog 90 #[rowV b xs.length cap, vL base l.length lc, ptr bv 0] w (RetRow w b 5 (xs ++ (V.list l).enc)) := by
  have hbl := (Array.getElem?_eq_some_iff.1 hb).1
  simp only [V.fine] at hfin
  obtain ⟨hf1, hf2, hf3⟩ := hfin
  have hlv := hwr.ltv
  have hlw := hwr.ltw
  simp only [V.enc, List.length_cons, List.length_append] at hlim
  refine enterG (vs := [_, _, _]) (Gh.lent (· = b)) [(b, rowC 5 xs sp)] Tryz.func90 rfl Tryz.ntmps90 rfl (st_lent hb) ?_
  refine CJ.seq ?_
  refine CJ.region ?_
  refine boxR rfl rfl rfl ?_
  intro b4 w4 hb4 ha4 ho4 hm4 hz4
  simp only [Above] at ha4
  try simp only [Off, book, List.cons_append, List.nil_append, List.set_cons_zero, List.set_cons_succ, ne_eq] at ho4
  refine rv rfl rfl rfl (asg_r rfl) ?_
  refine OJ.done ?_
  refine PJ.next ?_
  refine CJ.seq ?_
  refine CJ.less (E' := [(0, _), (1, _), (2, _), (4, _), (5, _)]) ⟨rfl, rfl, rfl, rfl, rfl, trivial⟩ ?_
  refine CJ.chn 7 [1, 2] [([], some _), ([], none), ([0, 1], none), ([], some _), ([3], some (.slice base l.length lc)), ([4], some _), ([5], some _)] (fun cv L' H' => match cv with | [] => L' = [w4, w] ∧ H' = [(b, rowC 5 xs sp)] | [v1] => ∃ (b9 : Nat), v1 = rowV b9 ([3] : List UInt8).length 1 ∧ L' = [w4, w] ∧ H' = [(b9, rowC 5 [3] []), (b, rowC 5 xs sp)] ∧ w4.heap.size ≤ b9 ∧ w.heap.size ≤ b9 | [v1, v2] => ∃ (b9 : Nat) (b10 : Nat) (c10 : Nat) (s10 : List Value), v1 = rowV b9 ([3] : List UInt8).length 1 ∧ v2 = rowV b10 (xs ++ [3]).length c10 ∧ L' = [w4, w] ∧ H' = [(b9, rowC 5 [3] []), (b10, rowC 5 (xs ++ [3]) s10)] ∧ w4.heap.size ≤ b9 ∧ w.heap.size ≤ b9 ∧ Fr (Gh.lent (· = b)) [w4, w] b10 ∧ (b10 = b ∨ w4.heap.size ≤ b10 ∧ w.heap.size ≤ b10) ∧ RowOk (xs ++ [3]) c10 s10 | _ => False) (by kernel_rfl) ⟨rfl, rfl⟩ (by kernel_rfl) (by kernel_rfl) (by kernel_rfl) (by kernel_rfl) (by kernel_rfl) (by kernel_rfl) (pc (fun cv L' H' hd hP => X.val rfl rfl (mv_r rfl) (fun _ _ => rfl)) (pk (pk (pc (fun cv L' H' hd hP => X.val rfl rfl (fld_r Tryz.underlying58 rfl Tryz.sizeOf56 rfl) (fun _ _ => rfl)) (pc (fun cv L' H' hd hP => match cv, hd, hP with | [], hd, hP => (by obtain ⟨rfl, rfl⟩ := hP; exact X.val rfl rfl (ldR_r Tryz.isAgg56 rfl (.head _) hb4 hm4 (by first | (simp only [Off, book, List.cons_append, List.nil_append, List.set_cons_zero, List.set_cons_succ, List.eraseIdx_cons_zero, List.eraseIdx_cons_succ, ne_eq, and_true]; omega) | (simp [Off] <;> omega)) rfl) (fun _ _ => rfl)) | [v1], hd, hP => (by obtain ⟨b9, rfl, rfl, rfl, ha9, hA9⟩ := hP; exact X.val rfl rfl (ldR_r Tryz.isAgg56 rfl (.head _) hb4 hm4 (by first | (simp only [Off, book, List.cons_append, List.nil_append, List.set_cons_zero, List.set_cons_succ, List.eraseIdx_cons_zero, List.eraseIdx_cons_succ, ne_eq, and_true]; omega) | (simp [Off] <;> omega)) rfl) (fun _ _ => rfl)) | [v1, v2], hd, hP => (by obtain ⟨b9, b10, c10, s10, rfl, rfl, rfl, rfl, ha9, hA9, hf10, hg10, hr10⟩ := hP; exact X.val rfl rfl (ldR_r Tryz.isAgg56 rfl (.head _) hb4 hm4 (by first | (simp only [Off, book, List.cons_append, List.nil_append, List.set_cons_zero, List.set_cons_succ, List.eraseIdx_cons_zero, List.eraseIdx_cons_succ, ne_eq, and_true]; omega) | (simp [Off] <;> omega)) rfl) (fun _ _ => rfl)) | _ :: _ :: _ :: _, _, hP => hP.elim) (pc (fun cv L' H' hd hP => X.val rfl rfl (lenS_r Tryz.underlying56 rfl) (fun _ _ => rfl)) (pc (fun cv L' H' hd hP => X.val rfl rfl (cvtU_r Tryz.underlying3 Tryz.underlying148 rfl (by omega) (by omega)) (fun _ _ => rfl)) (pn)))))))) ?_ ?_
  · refine sc rfl rfl rfl ?_ ?_
    · intro cv L' H' hl hP F Q' hk
      obtain rfl := List.eq_nil_of_length_eq_zero hl
      obtain ⟨rfl, rfl⟩ := hP
      refine bsB [3] bt Tryz.zeroValue5 rfl rfl rfl rfl rfl rfl rfl rfl rfl ?_
      intro b9 ha ho hx hr
      exact OJ.done (hk _ _ _ ⟨b9, rfl, rfl, rfl, ha.1, ha.2.1⟩)
    refine sc rfl rfl rfl ?_ ?_
    · intro cv L' H' hl hP F Q' hk
      obtain ⟨v1, rfl⟩ := len1 hl
      obtain ⟨b9, rfl, rfl, rfl, ha9, hA9⟩ := hP
      refine apB (i := 1) (xs := xs) (zs := [3]) (sp := sp) rfl bt rfl rfl rfl rfl (SrcB.own (i := 0) Tryz.underlying53 rfl) hrow (.inl rfl) (by simp only [List.length_append, List.length_cons, List.length_nil]; omega) ?_
      intro b7 c7 s7 hf7 hr7
      exact OJ.done (hk _ _ _ ⟨b9, b7, c7, s7, rfl, rfl, rfl, rfl, ha9, hA9, hf7, by simpa only [Fr, Gh.lent, Above, and_true] using hf7, hr7⟩)
    exact sn
  · intro cv L' H' hl hP
    obtain ⟨v1, v2, rfl⟩ := len2 hl
    obtain ⟨b9, b10, c10, s10, rfl, rfl, rfl, rfl, ha9, hA9, hf10, hg10, hr10⟩ := hP
    refine OJ.dropF (i := 0) rfl (.inr ⟨ha9, hA9, trivial⟩) ?_
    refine callR (i := 0) (ys := xs ++ [3] ++ num l.length) (first := []) (cap := []) rfl rfl Tryz.call87 rfl rfl rfl hf10 (fun W hS hW => codec_numeral (xs ++ [3]) l.length (by omega) b10 c10 s10 hr10 (by simp only [List.length_append, List.length_cons, List.length_nil]; omega) W hW) ?_
    intro b15 c15 s15 hf15 hr15
    have hg15 := hf15
    simp only [Fr, Gh.lent, Gh.no, Above, and_true, false_or] at hg15
    refine rv rfl rfl rfl (asg_r rfl) ?_
    refine OJ.done ?_
    refine PJ.next ?_
    refine CJ.seq ?_
    refine CJ.seq ?_
    refine CJ.region ?_
    refine rv rfl rfl rfl (fld_r Tryz.underlying58 rfl Tryz.sizeOf56 rfl) ?_
    refine rv rfl rfl rfl (ldR_r Tryz.isAgg56 rfl (.head _) hb4 hm4 (by first | (simp only [Off, book, List.cons_append, List.nil_append, List.set_cons_zero, List.set_cons_succ, List.eraseIdx_cons_zero, List.eraseIdx_cons_succ, ne_eq, and_true]; omega) | (simp [Off] <;> omega)) rfl) ?_
    refine rv rfl rfl rfl (lenS_r Tryz.underlying56 rfl) ?_
    refine rv rfl rfl rfl (mv_r rfl) ?_
    refine OJ.done ?_
    refine PJ.next ?_
    refine CJ.block ?_
    refine CJ.loop (α := List UInt8 × Nat × Nat × Nat × List Value) (fun p => [(0, rowV p.2.2.1 p.1.length p.2.2.2.1), (2, ptr bv 0), (17, .slice base l.length lc), (18, .int .i64 (l.length : Int)), (19, .int .i64 (p.2.1 : Int))]) (fun p => [(p.2.2.1, rowC 5 p.1 p.2.2.2.2)]) (fun p => [w4, w]) (fun p => Gh.lent (· = b)) (fun p => p.1 ++ V.encL (l.drop p.2.1) = xs ++ (V.list l).enc ∧ p.2.1 ≤ l.length ∧ Fr (Gh.lent (· = b)) [w4, w] p.2.2.1 ∧ (p.2.2.1 = b ∨ w4.heap.size ≤ p.2.2.1 ∧ w.heap.size ≤ p.2.2.1) ∧ RowOk p.1 p.2.2.2.1 p.2.2.2.2) (fun p => l.length - p.2.1) (xs ++ [3] ++ num l.length, 0, b15, c15, s15) ⟨by simp [V.enc], Nat.zero_le _, hf15, by simpa only [Fr, Gh.lent, Gh.no, Above, and_true, false_or] using hf15, hr15⟩ ⟨rfl, rfl, rfl, rfl, rfl, trivial⟩ rfl rfl (by simp) ?_
    rintro ⟨ys, i, b1, c1, s1⟩ ⟨hinv, hi, hf, hg, hr⟩
    dsimp only at hinv hi hf hg hr ⊢
    have hll := congrArg List.length hinv
    simp only [V.enc, List.length_append, List.length_cons] at hll
    refine CJ.seq ?_
    refine CJ.region ?_
    refine rv rfl rfl rfl (lss_r rfl rfl) ?_
    refine OJ.done ?_
    refine PJ.next ?_
    refine CJ.seq ?_
    refine CJ.cond rfl (fun hc1 => ?_) (fun hc1 => ?_)
    · try simp only [decide_eq_true_eq, decide_eq_false_iff_not, Bool.not_eq_true', Bool.not_eq_false'] at hc1
      refine CJ.skip ?_
      refine PJ.next ?_
      refine CJ.seq ?_
      refine CJ.block ?_
      refine CJ.seq ?_
      obtain ⟨bl, cs, te, fre, rfl, hbl, hcs, hcz, a1, a2, p3, n3, c3, hcut, hva⟩ := hel i (by omega)
      have hbl2 := (Array.getElem?_eq_some_iff.1 hcs).1
      obtain ⟨y, hy⟩ : ∃ y, l[i]'(by omega) = y := ⟨_, rfl⟩
      rw [hy] at hcut hva
      have hym : y ∈ l := hy ▸ List.getElem_mem _
      have hkb := V.kind_bd y
      have hed := congrArg List.length (V.encL_drop l i (by omega))
      rw [List.length_append, hy] at hed
      refine CJ.region ?_
      refine rv rfl rfl rfl (idxS_r Tryz.underlying56 Tryz.sizeOf58 rfl rfl (by omega) (by omega)) ?_
      refine rv rfl rfl rfl (RV.re (v' := .agg #[.int .i64 y.kind, .int .i64 a1, .string a2, .slice p3 n3 c3]) (ldRA_r Tryz.isAgg58 Tryz.sizeOf58 rfl (.tail _ (.head _)) hcs (by show ¬ (_ = _); omega) (by first | (simp only [Off, book, List.cons_append, List.nil_append, List.set_cons_zero, List.set_cons_succ, List.eraseIdx_cons_zero, List.eraseIdx_cons_succ, ne_eq, and_true]; omega) | (simp [Off] <;> omega)) (by omega)) (congrArg Value.agg (by rw [← hcut]; congr 1; omega))) ?_
      refine allW Tryz.zeroValue58 rfl rfl ?_
      intro b7 ha7 ho7
      simp only [Above] at ha7
      try simp only [Off, book, List.cons_append, List.nil_append, List.set_cons_zero, List.set_cons_succ, ne_eq] at ho7
      refine stWw (i := 0) rfl Tryz.sizeOf58 rfl rfl rfl rfl rfl rfl ?_
      refine OJ.done ?_
      refine PJ.next ?_
      refine CJ.less (E' := [(0, _), (2, _), (7, _), (17, _), (18, _), (19, _), (20, _), (21, _), (22, _)]) ⟨rfl, rfl, rfl, rfl, rfl, rfl, rfl, rfl, rfl, trivial⟩ ?_
      refine CJ.drwD 9 [.det [] _, .det [] _, .det [1] _, .det [0] _, .det [2, 3] _, .det [4] _, .det [5] _, .det [] _, .det [] _] (by kernel_rfl) (xc (fun vals => X.val rfl rfl (ldR_r Tryz.isAgg96 rfl (.tail _ (.head _)) hwr.atv (by show ¬ (_ = _); omega) (by simp only [Off, List.set_cons_zero, List.set_cons_succ, List.eraseIdx_cons_zero, List.eraseIdx_cons_succ, ne_eq, and_true]; omega) rfl) (fun _ _ => rfl)) (xc (fun vals => X.val rfl rfl (fld_r Tryz.underlying58 rfl Tryz.sizeOf3 rfl) (fun _ _ => rfl)) (xc (fun vals => X.val rfl rfl (ldW_r (i := 0) rfl Tryz.isAgg3 rfl rfl) (fun _ _ => rfl)) (xc (fun vals => X.val rfl rfl (nilC_r rfl) (fun _ _ => rfl)) (xc (fun vals => X.val rfl rfl (idxA_r Tryz.underlying146 Tryz.sizeOf95 rfl rfl (by omega) (by omega)) (fun _ _ => rfl)) (xc (fun vals => X.val rfl rfl (fld_r Tryz.underlying95 rfl Tryz.sizeOf93 rfl) (fun _ _ => rfl)) (xc (fun vals => X.val rfl rfl (ldR_r (v := .func (.func y.fn) #[] (y.cap bv).toArray) Tryz.isAgg93 rfl (.tail _ (.head _)) hwr.atw (by show ¬ (_ = _); omega) (by simp only [Off, List.set_cons_zero, List.set_cons_succ, List.eraseIdx_cons_zero, List.eraseIdx_cons_succ, ne_eq, and_true]; omega) (wrC_at bv _ _ (by show ((0 + Int.toNat y.kind * 1 + 0 : Nat) : Int) = _; omega))) (fun _ _ => rfl)) (xc (fun vals => X.val rfl rfl (mv_r rfl) (fun _ _ => rfl)) (xc (fun vals => X.val rfl rfl (ldWAw_r (i := 0) rfl Tryz.isAgg58 Tryz.sizeOf58 rfl rfl) (fun _ _ => rfl)) (xn)))))))))) (by kernel_rfl) (by kernel_rfl) (by kernel_rfl) (fun vals => ?_)
      refine callR (i := 1) (ys := ys ++ y.enc) (first := []) (cap := y.cap bv) rfl rfl (fn_ent _) rfl rfl rfl hf (fun W hS hW => ih y hym N b1 c1 bv bw ys s1 W _ (VAt.up (Nat.le_refl _) (hS.same (.tail _ (.head _)) hN (fun k hk (h : k = b) => by omega) (by first | exact True.intro | (simp only [Over, List.set_cons_zero, List.set_cons_succ, List.eraseIdx_cons_zero, List.eraseIdx_cons_succ, and_true]; omega))) _ _ hva) (V.fineL_mem hf3 y hym) (hwr.up (Nat.le_refl _) (hS.same (.tail _ (.head _)) hN (fun k hk (h : k = b) => by omega) (by first | exact True.intro | (simp only [Over, List.set_cons_zero, List.set_cons_succ, List.eraseIdx_cons_zero, List.eraseIdx_cons_succ, and_true]; omega)))) (by omega) (Nat.le_trans hN (hS.links _ (.tail _ (.head _))).size) hr (by omega) hW) ?_
      intro b32 c32 s32 hf32 hr32
      refine OJ.dropF (i := 0) rfl (.inr ⟨by omega, by omega, trivial⟩) ?_
      refine rv rfl rfl rfl (asg_r rfl) ?_
      refine OJ.done ?_
      refine PJ.norBlock ?_
      refine PJ.next ?_
      refine CJ.region ?_
      refine rv rfl rfl rfl (addI_r rfl rfl (by omega) (by omega)) ?_
      refine rv rfl rfl rfl (mv_r rfl) ?_
      refine OJ.done ?_
      refine PJ.again (ys ++ y.enc, i + 1, b32, c32, s32) ⟨by dsimp only; rw [List.append_assoc, ← hy, ← V.encL_drop l i (by omega)]; exact hinv, by dsimp only; omega, hf32, by simpa only [Fr, Gh.lent, Gh.no, Above, and_true, false_or] using hf32, hr32⟩ (by dsimp only; omega) ⟨rfl, rfl, rfl, rfl, rfl, trivial⟩ rfl rfl (by simp)
    · try simp only [decide_eq_true_eq, decide_eq_false_iff_not, Bool.not_eq_true', Bool.not_eq_false'] at hc1
      refine CJ.exit ?_
      refine PJ.exThen ?_
      refine PJ.exThen ?_
      refine PJ.exHit ?_
      refine PJ.next ?_
      refine CJ.seq ?_
      refine CJ.region ?_
      refine rv rfl rfl rfl (mv_r rfl) ?_
      refine rv rfl rfl rfl (asg_r rfl) ?_
      refine OJ.done ?_
      refine PJ.next ?_
      refine CJ.ret ?_
      have e : i = l.length := by omega
      subst e
      rw [List.drop_of_length_le (Nat.le_refl _)] at hinv
      simp only [V.encL, List.append_nil] at hinv
      rw [← hinv]
      exact retRow (i := 0) (.inl rfl) Tryz.results90 rfl rfl (.tail _ (.head _)) (by simp only [OverX, List.set_cons_zero, List.set_cons_succ, List.eraseIdx_cons_zero, List.eraseIdx_cons_succ, and_true]; omega) hr
set_option maxHeartbeats 400000 in
/-- chartroom/codec.newWriter$3 -/
theorem write_list_nil (l : List V) (ih : ∀ y ∈ l, WriteOk y) (hfin : (V.list l).fine) (N : Nat) (base : Option Addr) (lc bv bw : Nat) (w : World) (hN : N ≤ w.heap.size) (hel : ElAt N w base l) (hwr : Wr N w bv bw) (hlim : (V.list l).enc.length ≤ 800000000000) :
    Calls Tryz.prog 90 #[.slice none 0 0, vL base l.length lc, ptr bv 0] w (RetNew w 5 ((V.list l).enc)) := by
  simp only [V.fine] at hfin
  obtain ⟨hf1, hf2, hf3⟩ := hfin
  have hlv := hwr.ltv
  have hlw := hwr.ltw
  simp only [V.enc, List.length_cons, List.length_append] at hlim
  refine enter (vs := [_, _, _]) Tryz.func90 rfl Tryz.ntmps90 rfl ?_
  refine CJ.seq ?_
  refine CJ.region ?_
  refine boxR rfl rfl rfl ?_
  intro b4 w4 hb4 ha4 ho4 hm4 hz4
  simp only [Above] at ha4
  try simp only [Off, book, List.cons_append, List.nil_append, List.set_cons_zero, List.set_cons_succ, ne_eq] at ho4
  refine rv rfl rfl rfl (asg_r rfl) ?_
  refine OJ.done ?_
  refine PJ.next ?_
  refine CJ.seq ?_
  refine CJ.less (E' := [(0, _), (1, _), (2, _), (4, _), (5, _)]) ⟨rfl, rfl, rfl, rfl, rfl, trivial⟩ ?_
  refine CJ.chn 7 [1, 2] [([], some _), ([], none), ([0, 1], none), ([], some _), ([3], some (.slice base l.length lc)), ([4], some _), ([5], some _)] (fun cv L' H' => match cv with | [] => L' = [w4, w] ∧ H' = [] | [v1] => ∃ (b9 : Nat), v1 = rowV b9 ([3] : List UInt8).length 1 ∧ L' = [w4, w] ∧ H' = [(b9, rowC 5 [3] [])] ∧ w4.heap.size ≤ b9 ∧ w.heap.size ≤ b9 | [v1, v2] => ∃ (b9 : Nat) (b10 : Nat) (c10 : Nat) (s10 : List Value), v1 = rowV b9 ([3] : List UInt8).length 1 ∧ v2 = rowV b10 ([3] : List UInt8).length c10 ∧ L' = [w4, w] ∧ H' = [(b10, rowC 5 [3] s10), (b9, rowC 5 [3] [])] ∧ w4.heap.size ≤ b9 ∧ w.heap.size ≤ b9 ∧ w4.heap.size ≤ b10 ∧ w.heap.size ≤ b10 ∧ RowOk [3] c10 s10 | _ => False) (by kernel_rfl) ⟨rfl, rfl⟩ (by kernel_rfl) (by kernel_rfl) (by kernel_rfl) (by kernel_rfl) (by kernel_rfl) (by kernel_rfl) (pc (fun cv L' H' hd hP => X.val rfl rfl (mv_r rfl) (fun _ _ => rfl)) (pk (pk (pc (fun cv L' H' hd hP => X.val rfl rfl (fld_r Tryz.underlying58 rfl Tryz.sizeOf56 rfl) (fun _ _ => rfl)) (pc (fun cv L' H' hd hP => match cv, hd, hP with | [], hd, hP => (by obtain ⟨rfl, rfl⟩ := hP; exact X.val rfl rfl (ldR_r Tryz.isAgg56 rfl (.head _) hb4 hm4 trivial rfl) (fun _ _ => rfl)) | [v1], hd, hP => (by obtain ⟨b9, rfl, rfl, rfl, ha9, hA9⟩ := hP; exact X.val rfl rfl (ldR_r Tryz.isAgg56 rfl (.head _) hb4 hm4 (by first | (simp only [Off, book, List.cons_append, List.nil_append, List.set_cons_zero, List.set_cons_succ, List.eraseIdx_cons_zero, List.eraseIdx_cons_succ, ne_eq, and_true]; omega) | (simp [Off] <;> omega)) rfl) (fun _ _ => rfl)) | [v1, v2], hd, hP => (by obtain ⟨b9, b10, c10, s10, rfl, rfl, rfl, rfl, ha9, hA9, hf10, hg10, hr10⟩ := hP; exact X.val rfl rfl (ldR_r Tryz.isAgg56 rfl (.head _) hb4 hm4 (by first | (simp only [Off, book, List.cons_append, List.nil_append, List.set_cons_zero, List.set_cons_succ, List.eraseIdx_cons_zero, List.eraseIdx_cons_succ, ne_eq, and_true]; omega) | (simp [Off] <;> omega)) rfl) (fun _ _ => rfl)) | _ :: _ :: _ :: _, _, hP => hP.elim) (pc (fun cv L' H' hd hP => X.val rfl rfl (lenS_r Tryz.underlying56 rfl) (fun _ _ => rfl)) (pc (fun cv L' H' hd hP => X.val rfl rfl (cvtU_r Tryz.underlying3 Tryz.underlying148 rfl (by omega) (by omega)) (fun _ _ => rfl)) (pn)))))))) ?_ ?_
  · refine sc rfl rfl rfl ?_ ?_
    · intro cv L' H' hl hP F Q' hk
      obtain rfl := List.eq_nil_of_length_eq_zero hl
      obtain ⟨rfl, rfl⟩ := hP
      refine bsB [3] bt Tryz.zeroValue5 rfl rfl rfl rfl rfl rfl rfl rfl rfl ?_
      intro b9 ha ho hx hr
      exact OJ.done (hk _ _ _ ⟨b9, rfl, rfl, rfl, ha.1, ha.2.1⟩)
    refine sc rfl rfl rfl ?_ ?_
    · intro cv L' H' hl hP F Q' hk
      obtain ⟨v1, rfl⟩ := len1 hl
      obtain ⟨b9, rfl, rfl, rfl, ha9, hA9⟩ := hP
      refine apN (zs := [3]) bt rfl rfl rfl rfl (SrcB.own (i := 0) Tryz.underlying53 rfl) (by decide) (by decide) ?_
      intro b7 c7 s7 ha7 ho7 hx7 hr7
      exact OJ.done (hk _ _ _ ⟨b9, b7, c7, s7, rfl, rfl, rfl, rfl, ha9, hA9, ha7.1, ha7.2.1, hr7⟩)
    exact sn
  · intro cv L' H' hl hP
    obtain ⟨v1, v2, rfl⟩ := len2 hl
    obtain ⟨b9, b10, c10, s10, rfl, rfl, rfl, rfl, ha9, hA9, hf10, hg10, hr10⟩ := hP
    refine OJ.dropF (i := 1) rfl (.inr ⟨ha9, hA9, trivial⟩) ?_
    refine callR (i := 0) (ys := [3] ++ num l.length) (first := []) (cap := []) rfl rfl Tryz.call87 rfl rfl rfl (.inr ⟨hf10, hg10, trivial⟩) (fun W hS hW => codec_numeral ([3]) l.length (by omega) b10 c10 s10 hr10 (by simp only [List.length_append, List.length_cons, List.length_nil]; omega) W hW) ?_
    intro b15 c15 s15 hf15 hr15
    have hg15 := hf15
    simp only [Fr, Gh.lent, Gh.no, Above, and_true, false_or] at hg15
    refine rv rfl rfl rfl (asg_r rfl) ?_
    refine OJ.done ?_
    refine PJ.next ?_
    refine CJ.seq ?_
    refine CJ.seq ?_
    refine CJ.region ?_
    refine rv rfl rfl rfl (fld_r Tryz.underlying58 rfl Tryz.sizeOf56 rfl) ?_
    refine rv rfl rfl rfl (ldR_r Tryz.isAgg56 rfl (.head _) hb4 hm4 (by first | (simp only [Off, book, List.cons_append, List.nil_append, List.set_cons_zero, List.set_cons_succ, List.eraseIdx_cons_zero, List.eraseIdx_cons_succ, ne_eq, and_true]; omega) | (simp [Off] <;> omega)) rfl) ?_
    refine rv rfl rfl rfl (lenS_r Tryz.underlying56 rfl) ?_
    refine rv rfl rfl rfl (mv_r rfl) ?_
    refine OJ.done ?_
    refine PJ.next ?_
    refine CJ.block ?_
    refine CJ.loop (α := List UInt8 × Nat × Nat × Nat × List Value) (fun p => [(0, rowV p.2.2.1 p.1.length p.2.2.2.1), (2, ptr bv 0), (17, .slice base l.length lc), (18, .int .i64 (l.length : Int)), (19, .int .i64 (p.2.1 : Int))]) (fun p => [(p.2.2.1, rowC 5 p.1 p.2.2.2.2)]) (fun p => [w4, w]) (fun p => Gh.no) (fun p => p.1 ++ V.encL (l.drop p.2.1) = (V.list l).enc ∧ p.2.1 ≤ l.length ∧ Fr (Gh.no) [w4, w] p.2.2.1 ∧ (w4.heap.size ≤ p.2.2.1 ∧ w.heap.size ≤ p.2.2.1) ∧ RowOk p.1 p.2.2.2.1 p.2.2.2.2) (fun p => l.length - p.2.1) ([3] ++ num l.length, 0, b15, c15, s15) ⟨by simp [V.enc], Nat.zero_le _, hf15, by simpa only [Fr, Gh.lent, Gh.no, Above, and_true, false_or] using hf15, hr15⟩ ⟨rfl, rfl, rfl, rfl, rfl, trivial⟩ rfl rfl (by simp) ?_
    rintro ⟨ys, i, b1, c1, s1⟩ ⟨hinv, hi, hf, hg, hr⟩
    dsimp only at hinv hi hf hg hr ⊢
    have hll := congrArg List.length hinv
    simp only [V.enc, List.length_append, List.length_cons] at hll
    refine CJ.seq ?_
    refine CJ.region ?_
    refine rv rfl rfl rfl (lss_r rfl rfl) ?_
    refine OJ.done ?_
    refine PJ.next ?_
    refine CJ.seq ?_
    refine CJ.cond rfl (fun hc1 => ?_) (fun hc1 => ?_)
    · try simp only [decide_eq_true_eq, decide_eq_false_iff_not, Bool.not_eq_true', Bool.not_eq_false'] at hc1
      refine CJ.skip ?_
      refine PJ.next ?_
      refine CJ.seq ?_
      refine CJ.block ?_
      refine CJ.seq ?_
      obtain ⟨bl, cs, te, fre, rfl, hbl, hcs, hcz, a1, a2, p3, n3, c3, hcut, hva⟩ := hel i (by omega)
      have hbl2 := (Array.getElem?_eq_some_iff.1 hcs).1
      obtain ⟨y, hy⟩ : ∃ y, l[i]'(by omega) = y := ⟨_, rfl⟩
      rw [hy] at hcut hva
      have hym : y ∈ l := hy ▸ List.getElem_mem _
      have hkb := V.kind_bd y
      have hed := congrArg List.length (V.encL_drop l i (by omega))
      rw [List.length_append, hy] at hed
      refine CJ.region ?_
      refine rv rfl rfl rfl (idxS_r Tryz.underlying56 Tryz.sizeOf58 rfl rfl (by omega) (by omega)) ?_
      refine rv rfl rfl rfl (RV.re (v' := .agg #[.int .i64 y.kind, .int .i64 a1, .string a2, .slice p3 n3 c3]) (ldRA_r Tryz.isAgg58 Tryz.sizeOf58 rfl (.tail _ (.head _)) hcs (fun h => h) (by first | (simp only [Off, book, List.cons_append, List.nil_append, List.set_cons_zero, List.set_cons_succ, List.eraseIdx_cons_zero, List.eraseIdx_cons_succ, ne_eq, and_true]; omega) | (simp [Off] <;> omega)) (by omega)) (congrArg Value.agg (by rw [← hcut]; congr 1; omega))) ?_
      refine allW Tryz.zeroValue58 rfl rfl ?_
      intro b7 ha7 ho7
      simp only [Above] at ha7
      try simp only [Off, book, List.cons_append, List.nil_append, List.set_cons_zero, List.set_cons_succ, ne_eq] at ho7
      refine stWw (i := 0) rfl Tryz.sizeOf58 rfl rfl rfl rfl rfl rfl ?_
      refine OJ.done ?_
      refine PJ.next ?_
      refine CJ.less (E' := [(0, _), (2, _), (7, _), (17, _), (18, _), (19, _), (20, _), (21, _), (22, _)]) ⟨rfl, rfl, rfl, rfl, rfl, rfl, rfl, rfl, rfl, trivial⟩ ?_
      refine CJ.drwD 9 [.det [] _, .det [] _, .det [1] _, .det [0] _, .det [2, 3] _, .det [4] _, .det [5] _, .det [] _, .det [] _] (by kernel_rfl) (xc (fun vals => X.val rfl rfl (ldR_r Tryz.isAgg96 rfl (.tail _ (.head _)) hwr.atv (fun h => h) (by simp only [Off, List.set_cons_zero, List.set_cons_succ, List.eraseIdx_cons_zero, List.eraseIdx_cons_succ, ne_eq, and_true]; omega) rfl) (fun _ _ => rfl)) (xc (fun vals => X.val rfl rfl (fld_r Tryz.underlying58 rfl Tryz.sizeOf3 rfl) (fun _ _ => rfl)) (xc (fun vals => X.val rfl rfl (ldW_r (i := 0) rfl Tryz.isAgg3 rfl rfl) (fun _ _ => rfl)) (xc (fun vals => X.val rfl rfl (nilC_r rfl) (fun _ _ => rfl)) (xc (fun vals => X.val rfl rfl (idxA_r Tryz.underlying146 Tryz.sizeOf95 rfl rfl (by omega) (by omega)) (fun _ _ => rfl)) (xc (fun vals => X.val rfl rfl (fld_r Tryz.underlying95 rfl Tryz.sizeOf93 rfl) (fun _ _ => rfl)) (xc (fun vals => X.val rfl rfl (ldR_r (v := .func (.func y.fn) #[] (y.cap bv).toArray) Tryz.isAgg93 rfl (.tail _ (.head _)) hwr.atw (fun h => h) (by simp only [Off, List.set_cons_zero, List.set_cons_succ, List.eraseIdx_cons_zero, List.eraseIdx_cons_succ, ne_eq, and_true]; omega) (wrC_at bv _ _ (by show ((0 + Int.toNat y.kind * 1 + 0 : Nat) : Int) = _; omega))) (fun _ _ => rfl)) (xc (fun vals => X.val rfl rfl (mv_r rfl) (fun _ _ => rfl)) (xc (fun vals => X.val rfl rfl (ldWAw_r (i := 0) rfl Tryz.isAgg58 Tryz.sizeOf58 rfl rfl) (fun _ _ => rfl)) (xn)))))))))) (by kernel_rfl) (by kernel_rfl) (by kernel_rfl) (fun vals => ?_)
      refine callR (i := 1) (ys := ys ++ y.enc) (first := []) (cap := y.cap bv) rfl rfl (fn_ent _) rfl rfl rfl hf (fun W hS hW => ih y hym N b1 c1 bv bw ys s1 W _ (VAt.up (Nat.le_refl _) (hS.same (.tail _ (.head _)) hN (fun _ _ h => h) (by first | exact True.intro | (simp only [Over, List.set_cons_zero, List.set_cons_succ, List.eraseIdx_cons_zero, List.eraseIdx_cons_succ, and_true]; omega))) _ _ hva) (V.fineL_mem hf3 y hym) (hwr.up (Nat.le_refl _) (hS.same (.tail _ (.head _)) hN (fun _ _ h => h) (by first | exact True.intro | (simp only [Over, List.set_cons_zero, List.set_cons_succ, List.eraseIdx_cons_zero, List.eraseIdx_cons_succ, and_true]; omega)))) (by omega) (Nat.le_trans hN (hS.links _ (.tail _ (.head _))).size) hr (by omega) hW) ?_
      intro b32 c32 s32 hf32 hr32
      refine OJ.dropF (i := 0) rfl (.inr ⟨by omega, by omega, trivial⟩) ?_
      refine rv rfl rfl rfl (asg_r rfl) ?_
      refine OJ.done ?_
      refine PJ.norBlock ?_
      refine PJ.next ?_
      refine CJ.region ?_
      refine rv rfl rfl rfl (addI_r rfl rfl (by omega) (by omega)) ?_
      refine rv rfl rfl rfl (mv_r rfl) ?_
      refine OJ.done ?_
      refine PJ.again (ys ++ y.enc, i + 1, b32, c32, s32) ⟨by dsimp only; rw [List.append_assoc, ← hy, ← V.encL_drop l i (by omega)]; exact hinv, by dsimp only; omega, hf32, by simpa only [Fr, Gh.lent, Gh.no, Above, and_true, false_or] using hf32, hr32⟩ (by dsimp only; omega) ⟨rfl, rfl, rfl, rfl, rfl, trivial⟩ rfl rfl (by simp)
    · try simp only [decide_eq_true_eq, decide_eq_false_iff_not, Bool.not_eq_true', Bool.not_eq_false'] at hc1
      refine CJ.exit ?_
      refine PJ.exThen ?_
      refine PJ.exThen ?_
      refine PJ.exHit ?_
      refine PJ.next ?_
      refine CJ.seq ?_
      refine CJ.region ?_
      refine rv rfl rfl rfl (mv_r rfl) ?_
      refine rv rfl rfl rfl (asg_r rfl) ?_
      refine OJ.done ?_
      refine PJ.next ?_
      refine CJ.ret ?_
      have e : i = l.length := by omega
      subst e
      rw [List.drop_of_length_le (Nat.le_refl _)] at hinv
      simp only [V.encL, List.append_nil] at hinv
      rw [← hinv]
      exact retNew (i := 0) (.inl rfl) Tryz.results90 rfl rfl (.tail _ (.head _)) (by simp only [Over, and_true]; omega) hr
theorem write_ok : ∀ x, WriteOk x := by
  refine V.ind ?_ ?_ ?_
  · intro n N b cap bv bw xs sp w v hv hf _ _ _ hr hl hb
    simp only [VAt] at hv; subst hv
    exact write_int n hf xs b cap sp hr w hb hl
  · intro s N b cap bv bw xs sp w v hv hf _ _ _ hr hl hb
    simp only [VAt] at hv; subst hv
    exact write_text s hf xs b cap sp hr w hb hl
  · intro l ih N b cap bv bw xs sp w v hv hf hwr hNb hN hr hl hb
    obtain ⟨base, lc, rfl, hc, hel⟩ := hv.list
    exact write_list l ih hf N base lc bv bw xs b cap sp hr w hb hN hNb hel hwr hl
end Px
namespace Px
open Go Go.RowKit Go.Proofs
/-- chartroom/codec.Encode -/
theorem codec_Encode (l : List V) (hfin : (V.list l).fine) (hd : (V.list l).depth ≤ 16) (hlim : (V.list l).enc.length ≤ 800000000000) (N : Nat) (base : Option Addr) (lc : Nat) (w : World) (hN : N ≤ w.heap.size) (hva : VAt N w (.list l) (vL base l.length lc)) :
    Calls Tryz.prog 18 #[vL base l.length lc] w (RetEnc w 5 (V.list l).enc) := by
  obtain ⟨base', lc', hveq, hlc, hel'⟩ := hva.list
  obtain ⟨rfl, rfl⟩ : base = base' ∧ lc = lc' := by simpa [vL] using hveq
  refine enter (vs := [_]) Tryz.func18 rfl Tryz.ntmps18 rfl ?_
  refine CJ.seq ?_
  refine CJ.region ?_
  refine boxR rfl rfl rfl ?_
  intro b1 w1 hb1 ha1 ho1 hm1 hz1
  simp only [Above] at ha1
  try simp only [Off, book, List.cons_append, List.nil_append, List.set_cons_zero, List.set_cons_succ, ne_eq] at ho1
  refine rv rfl rfl rfl (asg_r rfl) ?_
  refine rv rfl rfl rfl (asg_r rfl) ?_
  refine OJ.done ?_
  refine PJ.next ?_
  refine CJ.seq ?_
  refine CJ.seq ?_
  refine CJ.region ?_
  refine rv rfl rfl rfl (ldRAw_r Tryz.isAgg58 Tryz.sizeOf58 rfl (.head _) hb1 hm1 trivial rfl) ?_
  refine call Tryz.call40 rfl rfl rfl (fun W hS => codec_Check (.list l) _ _ _ _ _ hfin hd N W (Nat.le_trans hN (hS.links _ (.tail _ (.head _))).size) (VAt.up (by omega) (hS.same (.tail _ (.head _)) hN (fun _ _ h => h) (by first | exact True.intro | (simp only [Over, List.set_cons_zero, List.set_cons_succ, List.eraseIdx_cons_zero, List.eraseIdx_cons_succ, and_true]; omega))) _ _ hva)) ?_
  refine rv rfl rfl rfl (asg_r rfl) ?_
  refine OJ.done ?_
  refine PJ.next ?_
  refine CJ.seq ?_
  refine CJ.region ?_
  refine rv rfl rfl rfl (mv_r rfl) ?_
  refine rv rfl rfl rfl (RV.re (v' := .bool false) (neqI_r rfl rfl) rfl) ?_
  refine OJ.done ?_
  refine PJ.next ?_
  refine CJ.condF rfl ?_
  refine CJ.skip ?_
  refine PJ.next ?_
  refine CJ.seq ?_
  refine CJ.less (E' := [(0, _), (1, _), (2, _), (3, _), (4, _), (5, _), (6, _), (7, _), (8, _)]) ⟨rfl, rfl, rfl, rfl, rfl, rfl, rfl, rfl, rfl, trivial⟩ ?_
  refine CJ.chn 8 [0, 3, 4, 5, 6] [([], none), ([], some _), ([1], some (.int .i64 3)), ([0], none), ([2, 3], none), ([4], none), ([5], none), ([], some (vL base l.length lc))] (fun cv L' H' => match cv with | [] => L' = [w1, w] ∧ H' = [] | [v1] => ∃ (bw : Nat) (bv : Nat) (w10 : World), v1 = ptr bw 0 ∧ L' = [w10, w1, w] ∧ H' = [] ∧ w1.heap.size ≤ bw ∧ w1.heap.size ≤ bv ∧ bw < w10.heap.size ∧ bv < w10.heap.size ∧ w10.heap[bv]? = some (.cells #[ptr bw 0] 96 (0, 0)) ∧ w10.heap[bw]? = some (.cells (wrC bv) 146 (0, 0)) ∧ w1.heap.size ≤ w10.heap.size | [v1, v2] => ∃ (bw : Nat) (bv : Nat) (w10 : World), v1 = ptr bw 0 ∧ v2 = ptr bw 0 ∧ L' = [w10, w1, w] ∧ H' = [] ∧ w1.heap.size ≤ bw ∧ w1.heap.size ≤ bv ∧ bw < w10.heap.size ∧ bv < w10.heap.size ∧ w10.heap[bv]? = some (.cells #[ptr bw 0] 96 (0, 0)) ∧ w10.heap[bw]? = some (.cells (wrC bv) 146 (0, 0)) ∧ w1.heap.size ≤ w10.heap.size | [v1, v2, v3] => ∃ (bw : Nat) (bv : Nat) (w10 : World), v1 = ptr bw 0 ∧ v2 = ptr bw 0 ∧ v3 = ptr bw 3 ∧ L' = [w10, w1, w] ∧ H' = [] ∧ w1.heap.size ≤ bw ∧ w1.heap.size ≤ bv ∧ bw < w10.heap.size ∧ bv < w10.heap.size ∧ w10.heap[bv]? = some (.cells #[ptr bw 0] 96 (0, 0)) ∧ w10.heap[bw]? = some (.cells (wrC bv) 146 (0, 0)) ∧ w1.heap.size ≤ w10.heap.size | [v1, v2, v3, v4] => ∃ (bw : Nat) (bv : Nat) (w10 : World), v1 = ptr bw 0 ∧ v2 = ptr bw 0 ∧ v3 = ptr bw 3 ∧ v4 = ptr bw 3 ∧ L' = [w10, w1, w] ∧ H' = [] ∧ w1.heap.size ≤ bw ∧ w1.heap.size ≤ bv ∧ bw < w10.heap.size ∧ bv < w10.heap.size ∧ w10.heap[bv]? = some (.cells #[ptr bw 0] 96 (0, 0)) ∧ w10.heap[bw]? = some (.cells (wrC bv) 146 (0, 0)) ∧ w1.heap.size ≤ w10.heap.size | [v1, v2, v3, v4, v5] => ∃ (bw : Nat) (bv : Nat) (w10 : World), v1 = ptr bw 0 ∧ v2 = ptr bw 0 ∧ v3 = ptr bw 3 ∧ v4 = ptr bw 3 ∧ v5 = .func (.func 90) #[] #[ptr bv 0] ∧ L' = [w10, w1, w] ∧ H' = [] ∧ w1.heap.size ≤ bw ∧ w1.heap.size ≤ bv ∧ bw < w10.heap.size ∧ bv < w10.heap.size ∧ w10.heap[bv]? = some (.cells #[ptr bw 0] 96 (0, 0)) ∧ w10.heap[bw]? = some (.cells (wrC bv) 146 (0, 0)) ∧ w1.heap.size ≤ w10.heap.size | _ => False) (by kernel_rfl) ⟨rfl, rfl⟩ (by kernel_rfl) (by kernel_rfl) (by kernel_rfl) (by kernel_rfl) (by kernel_rfl) (by kernel_rfl) (pk (pc (fun cv L' H' hd hP => X.val rfl rfl (fld_r Tryz.underlying58 rfl Tryz.sizeOf3 rfl) (fun _ _ => rfl)) (pc (fun cv L' H' hd hP => match cv, hd, hP with | [], hd, hP => (by obtain ⟨rfl, rfl⟩ := hP; exact X.val rfl rfl (ldR_r Tryz.isAgg3 rfl (.head _) hb1 hm1 trivial rfl) (fun _ _ => rfl)) | [v1], hd, hP => (by obtain ⟨bw, bv, w10, rfl, rfl, rfl, e1, e2, e3, e4, e5, e6, e7⟩ := hP; exact X.val rfl rfl (ldR_r Tryz.isAgg3 rfl (.tail _ (.head _)) hb1 hm1 trivial rfl) (fun _ _ => rfl)) | [v1, v2], hd, hP => (by obtain ⟨bw, bv, w10, rfl, rfl, rfl, rfl, e1, e2, e3, e4, e5, e6, e7⟩ := hP; exact X.val rfl rfl (ldR_r Tryz.isAgg3 rfl (.tail _ (.head _)) hb1 hm1 trivial rfl) (fun _ _ => rfl)) | [v1, v2, v3], hd, hP => (by obtain ⟨bw, bv, w10, rfl, rfl, rfl, rfl, rfl, e1, e2, e3, e4, e5, e6, e7⟩ := hP; exact X.val rfl rfl (ldR_r Tryz.isAgg3 rfl (.tail _ (.head _)) hb1 hm1 trivial rfl) (fun _ _ => rfl)) | [v1, v2, v3, v4], hd, hP => (by obtain ⟨bw, bv, w10, rfl, rfl, rfl, rfl, rfl, rfl, e1, e2, e3, e4, e5, e6, e7⟩ := hP; exact X.val rfl rfl (ldR_r Tryz.isAgg3 rfl (.tail _ (.head _)) hb1 hm1 trivial rfl) (fun _ _ => rfl)) | [v1, v2, v3, v4, v5], hd, hP => (by obtain ⟨bw, bv, w10, rfl, rfl, rfl, rfl, rfl, rfl, rfl, e1, e2, e3, e4, e5, e6, e7⟩ := hP; exact X.val rfl rfl (ldR_r Tryz.isAgg3 rfl (.tail _ (.head _)) hb1 hm1 trivial rfl) (fun _ _ => rfl)) | _ :: _ :: _ :: _ :: _ :: _ :: _, _, hP => hP.elim) (pk (pk (pk (pk (pc (fun cv L' H' hd hP => match cv, hd, hP with | [], hd, hP => (by obtain ⟨rfl, rfl⟩ := hP; exact X.val rfl rfl (ldRAw_r Tryz.isAgg58 Tryz.sizeOf58 rfl (.head _) hb1 hm1 trivial rfl) (fun _ _ => rfl)) | [v1], hd, hP => (by obtain ⟨bw, bv, w10, rfl, rfl, rfl, e1, e2, e3, e4, e5, e6, e7⟩ := hP; exact X.val rfl rfl (ldRAw_r Tryz.isAgg58 Tryz.sizeOf58 rfl (.tail _ (.head _)) hb1 hm1 trivial rfl) (fun _ _ => rfl)) | [v1, v2], hd, hP => (by obtain ⟨bw, bv, w10, rfl, rfl, rfl, rfl, e1, e2, e3, e4, e5, e6, e7⟩ := hP; exact X.val rfl rfl (ldRAw_r Tryz.isAgg58 Tryz.sizeOf58 rfl (.tail _ (.head _)) hb1 hm1 trivial rfl) (fun _ _ => rfl)) | [v1, v2, v3], hd, hP => (by obtain ⟨bw, bv, w10, rfl, rfl, rfl, rfl, rfl, e1, e2, e3, e4, e5, e6, e7⟩ := hP; exact X.val rfl rfl (ldRAw_r Tryz.isAgg58 Tryz.sizeOf58 rfl (.tail _ (.head _)) hb1 hm1 trivial rfl) (fun _ _ => rfl)) | [v1, v2, v3, v4], hd, hP => (by obtain ⟨bw, bv, w10, rfl, rfl, rfl, rfl, rfl, rfl, e1, e2, e3, e4, e5, e6, e7⟩ := hP; exact X.val rfl rfl (ldRAw_r Tryz.isAgg58 Tryz.sizeOf58 rfl (.tail _ (.head _)) hb1 hm1 trivial rfl) (fun _ _ => rfl)) | [v1, v2, v3, v4, v5], hd, hP => (by obtain ⟨bw, bv, w10, rfl, rfl, rfl, rfl, rfl, rfl, rfl, e1, e2, e3, e4, e5, e6, e7⟩ := hP; exact X.val rfl rfl (ldRAw_r Tryz.isAgg58 Tryz.sizeOf58 rfl (.tail _ (.head _)) hb1 hm1 trivial rfl) (fun _ _ => rfl)) | _ :: _ :: _ :: _ :: _ :: _ :: _, _, hP => hP.elim) (pn))))))))) ?_ ?_
  · refine sc rfl rfl rfl ?_ ?_
    · intro cv L' H' hl hP F Q' hk
      obtain rfl := List.eq_nil_of_length_eq_zero hl
      obtain ⟨rfl, rfl⟩ := hP
      refine callX (Φ := fun (W : World) (p : Nat × Nat) (v1 : World) => W.heap.size ≤ p.1 ∧ W.heap.size ≤ p.2 ∧ v1.heap[p.2]? = some (.cells #[ptr p.1 0] 96 (0, 0)) ∧ v1.heap[p.1]? = some (.cells (wrC p.2) 146 (0, 0))) Tryz.call41 rfl rfl rfl (fun W hS => codec_newWriter W) ?_
      rintro W ⟨bw, bv⟩ w10 hSW hbel ⟨h1, h2, h3, h4⟩
      have h5 := hSW.sizes
      simp only [Above] at h5
      dsimp only at h1 h2 h3 h4
      have e3 := (Array.getElem?_eq_some_iff.1 h4).1
      have e4 := (Array.getElem?_eq_some_iff.1 h3).1
      have e7 := hbel.size
      exact OJ.done (hk _ _ _ ⟨bw, bv, w10, rfl, rfl, rfl, by omega, by omega, e3, e4, h3, h4, by omega⟩)
    refine sc rfl rfl rfl ?_ ?_
    · intro cv L' H' hl hP F Q' hk
      obtain ⟨v1, rfl⟩ := len1 hl
      obtain ⟨bw, bv, w10, rfl, rfl, rfl, e1, e2, e3, e4, e5, e6, e7⟩ := hP
      refine rv rfl rfl rfl (nilC_r rfl) ?_
      exact OJ.done (hk _ _ _ ⟨bw, bv, w10, rfl, rfl, rfl, rfl, e1, e2, e3, e4, e5, e6, e7⟩)
    refine sc rfl rfl rfl ?_ ?_
    · intro cv L' H' hl hP F Q' hk
      obtain ⟨v1, v2, rfl⟩ := len2 hl
      obtain ⟨bw, bv, w10, rfl, rfl, rfl, rfl, e1, e2, e3, e4, e5, e6, e7⟩ := hP
      refine rv rfl rfl rfl (idxA_r Tryz.underlying146 Tryz.sizeOf95 rfl rfl (by omega) (by omega)) ?_
      exact OJ.done (hk _ _ _ ⟨bw, bv, w10, rfl, rfl, rfl, rfl, rfl, e1, e2, e3, e4, e5, e6, e7⟩)
    refine sc rfl rfl rfl ?_ ?_
    · intro cv L' H' hl hP F Q' hk
      obtain ⟨v1, v2, v3, rfl⟩ := len3 hl
      obtain ⟨bw, bv, w10, rfl, rfl, rfl, rfl, rfl, e1, e2, e3, e4, e5, e6, e7⟩ := hP
      refine rv rfl rfl rfl (fld_r Tryz.underlying95 rfl Tryz.sizeOf93 rfl) ?_
      exact OJ.done (hk _ _ _ ⟨bw, bv, w10, rfl, rfl, rfl, rfl, rfl, rfl, e1, e2, e3, e4, e5, e6, e7⟩)
    refine sc rfl rfl rfl ?_ ?_
    · intro cv L' H' hl hP F Q' hk
      obtain ⟨v1, v2, v3, v4, rfl⟩ := len4 hl
      obtain ⟨bw, bv, w10, rfl, rfl, rfl, rfl, rfl, rfl, e1, e2, e3, e4, e5, e6, e7⟩ := hP
      refine rv rfl rfl rfl (ldR_r (v := .func (.func 90) #[] #[ptr bv 0]) Tryz.isAgg93 rfl (.head _) e6 (fun h => h) trivial rfl) ?_
      exact OJ.done (hk _ _ _ ⟨bw, bv, w10, rfl, rfl, rfl, rfl, rfl, rfl, rfl, e1, e2, e3, e4, e5, e6, e7⟩)
    exact sn
  · intro cv L' H' hl hP
    obtain ⟨v1, v2, v3, v4, v5, rfl⟩ := len5 hl
    obtain ⟨bw, bv, w10, rfl, rfl, rfl, rfl, rfl, rfl, rfl, e1, e2, e3, e4, e5, e6, e7⟩ := hP
    refine callNC (ys := (V.list l).enc) (first := []) (cap := [ptr bv 0]) rfl Tryz.call90 rfl rfl rfl (fun W hS => write_list_nil l (fun y _ => write_ok y) hfin w10.heap.size base lc bv bw W (hS.links _ (.head _)).size (fun i hi => by
      obtain ⟨bl, cs, t, fr, h1, h2, h3, h4, a1, a2, p3, n3, c3, h5, h6⟩ := hel' i hi
      have hsm := hS.same (.tail _ (.tail _ (.head _))) hN (fun _ _ h => h) (by first | exact True.intro | (simp only [Over, List.set_cons_zero, List.set_cons_succ, List.eraseIdx_cons_zero, List.eraseIdx_cons_succ, and_true]; omega))
      exact ⟨bl, cs, t, fr, h1, by omega, (hsm bl h2).trans h3, h4, a1, a2, p3, n3, c3, h5, VAt.up (by omega) hsm _ _ h6⟩) ⟨e4, e3, hS.old (.head _) e5 (fun h => h) trivial, hS.old (.head _) e6 (fun h => h) trivial⟩ hlim) ?_
    intro b18 c18 s18 ha18 ho18 hx18 hr18
    simp only [Above] at ha18
    refine rv rfl rfl rfl (asg_r rfl) ?_
    refine rv rfl rfl rfl (asg_r rfl) ?_
    refine OJ.done ?_
    refine PJ.next ?_
    refine CJ.ret ?_
    exact retEnc (i := 0) (.inl rfl) Tryz.results18 rfl rfl rfl (.tail _ (.tail _ (.head _))) (by simp only [Over, and_true]; omega) hr18
end Px
namespace Px
open Go Go.RowKit Go.Proofs
def RFormedOk (x : V) : Prop := ∀ (N : Nat) (w : World) (v : Value), N ≤ w.heap.size → VAt N w x v → x.fine → Calls Tryz.prog 141 #[v] w (Ret w (.bool true))
def RDepthOk (x : V) : Prop := ∀ (N : Nat) (w : World) (v : Value), N ≤ w.heap.size → VAt N w x v → x.fine → Calls Tryz.prog 142 #[v] w (Ret w (.int .i64 (x.depth : Int)))
end Px
namespace Px
open Go Go.RowKit Go.Proofs
def REncOk (x : V) : Prop := ∀ (N : Nat) (w : World) (v : Value), N ≤ w.heap.size → VAt N w x v → x.fine → x.enc.length ≤ 800000000000 → Calls Tryz.prog 114 #[v] w (RetNew w 5 x.enc)
end Px
