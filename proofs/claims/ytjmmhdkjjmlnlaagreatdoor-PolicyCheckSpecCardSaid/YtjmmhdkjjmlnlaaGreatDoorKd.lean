/- Contracts of group.Scalar and of chartroomref02. No condition beyond those that each theorem states. -/
import Derived.Test.YtjmmhdkjjmlnlaaGreatDoorKc
import Derived.Test.YtjmmhdkjjmlnlaaGreatDoorProg
set_option linter.unusedSimpArgs false
set_option linter.unusedVariables false
set_option linter.unusedSectionVars false
namespace Px
open Go Go.RowKit Go.Proofs
def tScal (s : ByteArray) (n : Nat) (m : Nat → Int) : Int := 1 + foldB 2305843009213688668 (dgL (tagged s n m)) 0
theorem tagged_byt (s : ByteArray) (n : Nat) (m : Nat → Int) : Byt (tagged s n m) := sha_byt _ _
/-- chartroom/group.Scalar -/
theorem group_Scalar (s : ByteArray) (n : Nat) (m : Nat → Int) (bb off c t t2 t3 : Nat) (fr fr2 fr3 : Nat × Nat) (cs : Array Value) (hs0 : s.size < 1000) (hc : n ≤ c) (hn : n < 1000000000000) (w : World) (hbb : w.heap[bb]? = some (.cells cs t fr)) (hoff : off + n ≤ cs.size) (hm : ∀ i, i < n → cs[off + i]? = some (.int .u8 (m i))) (hg2 : w.heap[0]? = some (.cells S8.init.cells t2 fr2)) (hg : w.heap[1]? = some (.cells (cf 64 (fun i => u32 (kk i))) t3 fr3)) :
    Calls Tryz.prog 96 #[.string s, .slice (some ⟨bb, off, none⟩) n c] w (Ret w (.int .i64 (tScal s n m))) := by
  have hB := tagged_byt s n m
  have hbd := foldB_bd 2305843009213688668 (by decide) (dgL (tagged s n m)) 0 (by decide) (by decide)
  refine enter (vs := [_, _]) Tryz.func96 rfl Tryz.ntmps96 rfl ?_
  refine CJ.seq ?_
  refine CJ.region ?_
  refine rv rfl rfl rfl (asg_r rfl) ?_
  refine OJ.done ?_
  refine PJ.next ?_
  refine CJ.seq ?_
  refine CJ.region ?_
  refine rv rfl rfl rfl (mv_r rfl) ?_
  refine rv rfl rfl rfl (mv_r rfl) ?_
  refine call Tryz.call19 rfl rfl rfl (fun W hS => digest_Tagged s n m bb off c _ _ _ _ _ _ cs hs0 hc hn W (hS.old (.head _) hbb (fun h => h) trivial) hoff hm (hS.old (.head _) hg2 (fun h => h) trivial) (hS.old (.head _) hg (fun h => h) trivial)) ?_
  refine call Tryz.call124 rfl rfl rfl (fun W hS => group_rest _ hB _ (by decide) (by decide) W) ?_
  refine rv rfl rfl rfl (cvtI_r Tryz.underlying148 Tryz.underlying3 rfl (by omega) (by omega)) ?_
  refine rv rfl rfl rfl (addI_r rfl rfl (by omega) (by omega)) ?_
  refine rv rfl rfl rfl (asg_r rfl) ?_
  refine OJ.done ?_
  refine PJ.next ?_
  refine CJ.ret ?_
  refine retV Tryz.results96 rfl (.head _) ?_
  rfl
/-- chartroom/chartroomref02.ror -/
theorem r02_ror (x : BitVec 32) (n : Nat) (h1 : 1 ≤ n) (h2 : n ≤ 31) (w : World) :
    Calls Tryz.prog 166 #[u32 x, .int .i64 (n : Int)] w (Ret w (u32 (ror32 x n))) := by
  
  refine enter (vs := [_, _]) Tryz.func166 rfl Tryz.ntmps166 rfl ?_
  refine CJ.seq ?_
  refine CJ.region ?_
  refine rv rfl rfl rfl (asg_r rfl) ?_
  refine OJ.done ?_
  refine PJ.next ?_
  refine CJ.seq ?_
  refine CJ.less (E' := [(0, _), (1, _), (4, _)]) ⟨rfl, rfl, rfl, trivial⟩ ?_
  refine CJ.drwD 7 [.det [] _, .det [] _, .det [0, 1] _, .det [] _, .det [] _, .det [4] _, .det [3, 5] _] (by kernel_rfl) (xc (fun vals => X.val rfl rfl (mv_r rfl) (fun _ _ => rfl)) (xc (fun vals => X.val rfl rfl (mv_r rfl) (fun _ _ => rfl)) (xc (fun vals => X.val rfl rfl (shrV_r n (by omega) rfl rfl rfl) (fun _ _ => rfl)) (xc (fun vals => X.val rfl rfl (mv_r rfl) (fun _ _ => rfl)) (xc (fun vals => X.val rfl rfl (mv_r rfl) (fun _ _ => rfl)) (xc (fun vals => X.val rfl rfl (subI_r rfl rfl (by omega) (by omega)) (fun _ _ => rfl)) (xc (fun vals => X.val rfl rfl (shlV_r (32 - n) (by omega) (by omega) rfl rfl) (fun _ _ => rfl)) (xn)))))))) (by kernel_rfl) (by kernel_rfl) (by kernel_rfl) (fun vals => ?_)
  refine rv rfl rfl rfl (orV_r rfl rfl) ?_
  refine rv rfl rfl rfl (asg_r rfl) ?_
  refine OJ.done ?_
  refine PJ.next ?_
  refine CJ.ret ?_
  refine retV Tryz.results166 rfl (.head _) ?_
  rfl
/-- chartroom/chartroomref02.word -/
theorem r02_word (m : Nat → Int) (b off n c t : Nat) (fr : Nat × Nat) (cs : Array Value) (hn : 4 ≤ n) (w : World) (hb0 : w.heap[b]? = some (.cells cs t fr)) (hm : ∀ i, i < 4 → cs[off + i]? = some (.int .u8 (m i))) :
    Calls Tryz.prog 165 #[.slice (some ⟨b, off, none⟩) n c] w (Ret w (u32 (wordOf m 0))) := by
  have hm0 : ¬ Gh.no.M b := fun h => h
  refine enter (vs := [_]) Tryz.func165 rfl Tryz.ntmps165 rfl ?_
  refine CJ.seq ?_
  refine CJ.region ?_
  refine rv rfl rfl rfl (asg_r rfl) ?_
  refine OJ.done ?_
  refine PJ.next ?_
  refine CJ.seq ?_
  refine CJ.less (E' := [(0, _), (2, _)]) ⟨rfl, rfl, trivial⟩ ?_
  refine CJ.drwD 21 [.det [] _, .det [0] _, .det [1] _, .det [2] _, .det [3] _, .det [] _, .det [5] _, .det [6] _, .det [7] _, .det [8] _, .det [4, 9] _, .det [] _, .det [11] _, .det [12] _, .det [13] _, .det [14] _, .det [10, 15] _, .det [] _, .det [17] _, .det [18] _, .det [19] _] (by kernel_rfl) (xc (fun vals => X.val rfl rfl (mv_r rfl) (fun _ _ => rfl)) (xc (fun vals => X.val rfl rfl (idxS_r Tryz.underlying53 Tryz.sizeOf5 rfl rfl (by omega) (by omega)) (fun _ _ => rfl)) (xc (fun vals => X.val rfl rfl (ldR_r (v := .int .u8 (m 0)) Tryz.isAgg5 rfl (.head _) hb0 hm0 trivial (hm 0 (by omega))) (fun _ _ => rfl)) (xc (fun vals => X.val rfl rfl (cvtV_r Tryz.underlying5 Tryz.underlying150 rfl) (fun _ _ => rfl)) (xc (fun vals => X.val rfl rfl (shlV_r 24 (by decide) rfl rfl rfl) (fun _ _ => rfl)) (xc (fun vals => X.val rfl rfl (mv_r rfl) (fun _ _ => rfl)) (xc (fun vals => X.val rfl rfl (idxS_r Tryz.underlying53 Tryz.sizeOf5 rfl rfl (by omega) (by omega)) (fun _ _ => rfl)) (xc (fun vals => X.val rfl rfl (ldR_r (v := .int .u8 (m 1)) Tryz.isAgg5 rfl (.head _) hb0 hm0 trivial (hm 1 (by omega))) (fun _ _ => rfl)) (xc (fun vals => X.val rfl rfl (cvtV_r Tryz.underlying5 Tryz.underlying150 rfl) (fun _ _ => rfl)) (xc (fun vals => X.val rfl rfl (shlV_r 16 (by decide) rfl rfl rfl) (fun _ _ => rfl)) (xc (fun vals => X.val rfl rfl (orV_r rfl rfl) (fun _ _ => rfl)) (xc (fun vals => X.val rfl rfl (mv_r rfl) (fun _ _ => rfl)) (xc (fun vals => X.val rfl rfl (idxS_r Tryz.underlying53 Tryz.sizeOf5 rfl rfl (by omega) (by omega)) (fun _ _ => rfl)) (xc (fun vals => X.val rfl rfl (ldR_r (v := .int .u8 (m 2)) Tryz.isAgg5 rfl (.head _) hb0 hm0 trivial (hm 2 (by omega))) (fun _ _ => rfl)) (xc (fun vals => X.val rfl rfl (cvtV_r Tryz.underlying5 Tryz.underlying150 rfl) (fun _ _ => rfl)) (xc (fun vals => X.val rfl rfl (shlV_r 8 (by decide) rfl rfl rfl) (fun _ _ => rfl)) (xc (fun vals => X.val rfl rfl (orV_r rfl rfl) (fun _ _ => rfl)) (xc (fun vals => X.val rfl rfl (mv_r rfl) (fun _ _ => rfl)) (xc (fun vals => X.val rfl rfl (idxS_r Tryz.underlying53 Tryz.sizeOf5 rfl rfl (by omega) (by omega)) (fun _ _ => rfl)) (xc (fun vals => X.val rfl rfl (ldR_r (v := .int .u8 (m 3)) Tryz.isAgg5 rfl (.head _) hb0 hm0 trivial (hm 3 (by omega))) (fun _ _ => rfl)) (xc (fun vals => X.val rfl rfl (cvtV_r Tryz.underlying5 Tryz.underlying150 rfl) (fun _ _ => rfl)) (xn)))))))))))))))))))))) (by kernel_rfl) (by kernel_rfl) (by kernel_rfl) (fun vals => ?_)
  refine rv rfl rfl rfl (orV_r rfl rfl) ?_
  refine rv rfl rfl rfl (asg_r rfl) ?_
  refine OJ.done ?_
  refine PJ.next ?_
  refine CJ.ret ?_
  refine retV Tryz.results165 rfl (.head _) ?_
  rfl
set_option maxRecDepth 4000 in
/-- chartroom/chartroomref02.numbers -/
theorem r02_numbers (w : World) :
    Calls Tryz.prog 167 #[] w (Ret w (.agg (cf 64 (fun i => u32 (kk i))))) := by
  
  refine enter (vs := []) Tryz.func167 rfl Tryz.ntmps167 rfl ?_
  refine CJ.seq ?_
  refine CJ.region ?_
  refine allW Tryz.zeroValue191 rfl rfl ?_
  intro b0 ha0 ho0
  simp only [Above] at ha0
  try simp only [Off, book, List.cons_append, List.nil_append, List.set_cons_zero, List.set_cons_succ, ne_eq] at ho0
  refine OJ.done ?_
  refine PJ.next ?_
  refine CJ.seq ?_
  refine CJ.region ?_
  refine rv rfl rfl rfl (bldQ_r Tryz.underlying191 Tryz.zeroValue191 Tryz.sizeOf150 rfl rfl rfl rfl) ?_
  refine stWw (i := 0) rfl Tryz.sizeOf191 rfl rfl rfl rfl rfl rfl ?_
  refine OJ.done ?_
  refine PJ.next ?_
  refine CJ.ret ?_
  refine retO (.inl rfl) Tryz.results167 (RS.wA (i := 0) rfl Tryz.isAgg191 Tryz.sizeOf191 rfl (Nat.le_of_ble_eq_true rfl) (RS.n)) (.head _) (by first | (simp only [Over, List.set_cons_zero, List.set_cons_succ, List.eraseIdx_cons_zero, List.eraseIdx_cons_succ, and_true]; omega) | (simp [Over] <;> omega)) ?_
  rfl
end Px
namespace Px
open Go Go.RowKit Go.Proofs
set_option maxHeartbeats 1600000 in
/-- chartroom/chartroomref02.block -/
theorem r02_block (s : S8) (m : Nat → Int) (bb off n c t : Nat) (fr : Nat × Nat) (cs : Array Value) (hn : 64 ≤ n) (hc : n ≤ c) (w : World) (hbb : w.heap[bb]? = some (.cells cs t fr)) (hm : ∀ i, i < 64 → cs[off + i]? = some (.int .u8 (m i))) :
    Calls Tryz.prog 146 #[.agg s.cells, .slice (some ⟨bb, off, none⟩) n c] w (Ret w (.agg (s.comp m).cells)) := by
  have hbbl := (Array.getElem?_eq_some_iff.1 hbb).1
  refine enter (vs := [_, _]) Tryz.func146 rfl Tryz.ntmps146 rfl ?_
  refine CJ.seq ?_
  refine CJ.region ?_
  refine boxR rfl rfl rfl ?_
  intro b2 w2 hb2 ha2 ho2 hm2 hz2
  simp only [Above] at ha2
  try simp only [Off, book, List.cons_append, List.nil_append, List.set_cons_zero, List.set_cons_succ, ne_eq] at ho2
  refine allW Tryz.zeroValue151 rfl rfl ?_
  intro b4 ha4 ho4
  simp only [Above] at ha4
  try simp only [Off, book, List.cons_append, List.nil_append, List.set_cons_zero, List.set_cons_succ, ne_eq] at ho4
  refine OJ.done ?_
  refine PJ.next ?_
  refine CJ.seq ?_
  refine CJ.region ?_
  refine rv rfl rfl rfl (bldA_r Tryz.underlying191 Tryz.zeroValue191 Tryz.sizeOf150 rfl rfl) ?_
  refine allW Tryz.zeroValue191 rfl rfl ?_
  intro b5 ha5 ho5
  simp only [Above] at ha5
  try simp only [Off, book, List.cons_append, List.nil_append, List.set_cons_zero, List.set_cons_succ, ne_eq] at ho5
  refine stWw (i := 0) rfl Tryz.sizeOf191 rfl rfl rfl rfl rfl rfl ?_
  refine OJ.done ?_
  refine PJ.next ?_
  refine CJ.seq ?_
  refine CJ.seq ?_
  refine CJ.region ?_
  refine rv rfl rfl rfl (asg_r rfl) ?_
  refine OJ.done ?_
  refine PJ.next ?_
  refine CJ.block ?_
  refine CJ.loop (α := Nat) (fun j => [(1, .slice (some ⟨bb, off, none⟩) n c), (2, ptr b2 0), (4, ptr b4 0), (5, ptr b5 0), (6, .int .i64 (j : Int))]) (fun j => [(b5, .cells (cf 64 (fun i => u32 (schN m j i))) 191 (0, 0)), (b4, .cells #[.int .u32 0, .int .u32 0, .int .u32 0, .int .u32 0, .int .u32 0, .int .u32 0, .int .u32 0, .int .u32 0] 151 (0, 0))]) (fun j => [w2, w]) (fun j => Gh.no) (fun j => j ≤ 16) (fun j => 16 - j) 0 (by decide) ⟨rfl, rfl, rfl, rfl, rfl, trivial⟩ rfl rfl (by simp) ?_
  rintro j hj
  refine CJ.seq ?_
  refine CJ.seq ?_
  refine CJ.region ?_
  refine rv rfl rfl rfl (mv_r rfl) ?_
  refine rv rfl rfl rfl (lss_r rfl rfl) ?_
  refine OJ.done ?_
  refine PJ.next ?_
  refine CJ.cond rfl (fun hc1 => ?_) (fun hc1 => ?_)
  · try simp only [decide_eq_true_eq, decide_eq_false_iff_not, Bool.not_eq_true', Bool.not_eq_false'] at hc1
    refine CJ.skip ?_
    refine PJ.next ?_
    refine CJ.seq ?_
    refine CJ.block ?_
    refine CJ.region ?_
    refine rv rfl rfl rfl (mv_r rfl) ?_
    refine rv rfl rfl rfl (mv_r rfl) ?_
    refine rv rfl rfl rfl (mv_r rfl) ?_
    refine rv rfl rfl rfl (mulI_r rfl rfl (by omega) (by omega)) ?_
    refine rv rfl rfl rfl (mv_r rfl) ?_
    refine rv rfl rfl rfl (mulI_r rfl rfl (by omega) (by omega)) ?_
    refine rv rfl rfl rfl (addI_r rfl rfl (by omega) (by omega)) ?_
    refine rv rfl rfl rfl (slS_r (l := 4 * j) (h := 4 * j + 4) (off' := off + 4 * j) Tryz.underlying53 Tryz.sizeOf5 rfl ⟨_, _, rfl, by omega⟩ ⟨_, _, rfl, by omega⟩ (by omega) (by omega) (by rw [if_neg (by omega)]; omega)) ?_
    refine call Tryz.call165 rfl rfl rfl (fun W hS => r02_word (fun i => m (4 * j + i)) _ _ _ _ _ _ _ (by omega) W (hS.old (.tail _ (.head _)) hbb (fun h => h) (by simp only [Off, List.set_cons_zero, List.set_cons_succ, ne_eq, and_true]; omega)) (fun i hi => by rw [Nat.add_assoc]; exact hm _ (by omega))) ?_
    refine rv rfl rfl rfl (RV.re (v' := ptr b5 j) (idxA_r Tryz.underlying191 Tryz.sizeOf150 rfl rfl (by omega) (by omega)) (congrArg (ptr b5) (by omega))) ?_
    refine stW (i := 0) rfl Tryz.sizeOf150 rfl rfl rfl rfl (by rw [cf_size]; omega) rfl ?_
    refine OJ.done ?_
    refine PJ.norBlock ?_
    refine PJ.next ?_
    refine CJ.region ?_
    refine rv rfl rfl rfl (mv_r rfl) ?_
    refine rv rfl rfl rfl (addI_r rfl rfl (by omega) (by omega)) ?_
    refine rv rfl rfl rfl (asg_r rfl) ?_
    refine OJ.done ?_
    refine PJ.reH (H' := [(b5, .cells (cf 64 (fun i => u32 (schN m (j + 1) i))) 191 (0, 0)), (b4, .cells #[.int .u32 0, .int .u32 0, .int .u32 0, .int .u32 0, .int .u32 0, .int .u32 0, .int .u32 0, .int .u32 0] 151 (0, 0))]) (by rw [← cf_sch m j (wordOf (fun i => m (4 * j + i)) 0) (by rw [if_pos (by omega)]; rfl)]; rfl) ?_
    refine PJ.again (j + 1) (by omega) (by omega) ⟨rfl, rfl, rfl, rfl, rfl, trivial⟩ rfl rfl (by simp)
  · try simp only [decide_eq_true_eq, decide_eq_false_iff_not, Bool.not_eq_true', Bool.not_eq_false'] at hc1
    refine CJ.exit ?_
    refine PJ.exThen ?_
    refine PJ.exThen ?_
    refine PJ.exHit ?_
    refine PJ.next ?_
    refine CJ.seq ?_
    refine CJ.seq ?_
    refine CJ.region ?_
    refine rv rfl rfl rfl (asg_r rfl) ?_
    refine OJ.done ?_
    refine PJ.next ?_
    refine CJ.block ?_
    have e : j = 16 := by omega
    subst e
    refine CJ.loop (α := Nat) (fun j => [(2, ptr b2 0), (4, ptr b4 0), (5, ptr b5 0), (7, .int .i64 (j : Int))]) (fun j => [(b5, .cells (cf 64 (fun i => u32 (schN m j i))) 191 (0, 0)), (b4, .cells #[.int .u32 0, .int .u32 0, .int .u32 0, .int .u32 0, .int .u32 0, .int .u32 0, .int .u32 0, .int .u32 0] 151 (0, 0))]) (fun j => [w2, w]) (fun j => Gh.no) (fun j => 16 ≤ j ∧ j ≤ 64) (fun j => 64 - j) 16 (by decide) ⟨rfl, rfl, rfl, rfl, trivial⟩ rfl rfl (by simp) ?_
    rintro j ⟨hj1, hj⟩
    refine CJ.seq ?_
    refine CJ.seq ?_
    refine CJ.region ?_
    refine rv rfl rfl rfl (mv_r rfl) ?_
    refine rv rfl rfl rfl (lss_r rfl rfl) ?_
    refine OJ.done ?_
    refine PJ.next ?_
    refine CJ.cond rfl (fun hc2 => ?_) (fun hc2 => ?_)
    · try simp only [decide_eq_true_eq, decide_eq_false_iff_not, Bool.not_eq_true', Bool.not_eq_false'] at hc2
      refine CJ.skip ?_
      refine PJ.next ?_
      refine CJ.seq ?_
      refine CJ.block ?_
      refine CJ.seq ?_
      refine CJ.region ?_
      refine rv rfl rfl rfl (mv_r rfl) ?_
      refine rv rfl rfl rfl (subI_r rfl rfl (by omega) (by omega)) ?_
      refine rv rfl rfl rfl (idxA_r Tryz.underlying191 Tryz.sizeOf150 rfl rfl (by omega) (by omega)) ?_
      refine rv rfl rfl rfl (ldW_r (v := u32 (schN m j (j - 15))) (i := 0) rfl Tryz.isAgg150 rfl (cf_ld 64 (fun i => u32 (schN m j i)) (j - 15) _ (by omega) (by omega))) ?_
      refine rv rfl rfl rfl (asg_r rfl) ?_
      refine OJ.done ?_
      refine PJ.next ?_
      refine CJ.seq ?_
      refine CJ.region ?_
      refine rv rfl rfl rfl (mv_r rfl) ?_
      refine rv rfl rfl rfl (subI_r rfl rfl (by omega) (by omega)) ?_
      refine rv rfl rfl rfl (idxA_r Tryz.underlying191 Tryz.sizeOf150 rfl rfl (by omega) (by omega)) ?_
      refine rv rfl rfl rfl (ldW_r (v := u32 (schN m j (j - 2))) (i := 0) rfl Tryz.isAgg150 rfl (cf_ld 64 (fun i => u32 (schN m j i)) (j - 2) _ (by omega) (by omega))) ?_
      refine rv rfl rfl rfl (asg_r rfl) ?_
      refine OJ.done ?_
      refine PJ.next ?_
      refine CJ.less (E' := [(2, _), (4, _), (5, _), (7, _), (8, _), (9, _), (37, _), (38, _), (41, _), (42, _), (43, _), (44, _), (45, _), (46, _), (47, _), (48, _)]) ⟨rfl, rfl, rfl, rfl, rfl, rfl, rfl, rfl, rfl, rfl, rfl, rfl, rfl, rfl, rfl, rfl, trivial⟩ ?_
      refine CJ.drwD 28 [.det [] _, .det [] _, .det [1] _, .det [2] _, .det [3] _, .det [] _, .det [5] _, .det [] _, .det [7] _, .det [6, 8] _, .det [] _, .det [10] _, .det [9, 11] _, .det [4, 12] _, .det [] _, .det [14] _, .det [15] _, .det [16] _, .det [13, 17] _, .det [] _, .det [19] _, .det [] _, .det [21] _, .det [20, 22] _, .det [] _, .det [24] _, .det [23, 25] _, .det [18, 26] _] (by kernel_rfl) (xc (fun vals => X.val rfl rfl (mv_r rfl) (fun _ _ => rfl)) (xc (fun vals => X.val rfl rfl (mv_r rfl) (fun _ _ => rfl)) (xc (fun vals => X.val rfl rfl (subI_r rfl rfl (by omega) (by omega)) (fun _ _ => rfl)) (xc (fun vals => X.val rfl rfl (idxA_r Tryz.underlying191 Tryz.sizeOf150 rfl rfl (by omega) (by omega)) (fun _ _ => rfl)) (xc (fun vals => X.val rfl rfl (ldW_r (v := u32 (schN m j (j - 16))) (i := 0) rfl Tryz.isAgg150 rfl (cf_ld 64 (fun i => u32 (schN m j i)) (j - 16) _ (by omega) (by omega))) (fun _ _ => rfl)) (xc (fun vals => X.val rfl rfl (mv_r rfl) (fun _ _ => rfl)) (xc (fun vals => X.callV Tryz.call166 rfl rfl (fun W hS _ => r02_ror _ 7 (by decide) (by decide) W) (fun _ => rfl)) (xc (fun vals => X.val rfl rfl (mv_r rfl) (fun _ _ => rfl)) (xc (fun vals => X.callV Tryz.call166 rfl rfl (fun W hS _ => r02_ror _ 18 (by decide) (by decide) W) (fun _ => rfl)) (xc (fun vals => X.val rfl rfl (xorV_r rfl rfl) (fun _ _ => rfl)) (xc (fun vals => X.val rfl rfl (mv_r rfl) (fun _ _ => rfl)) (xc (fun vals => X.val rfl rfl (shrV_r 3 (by decide) rfl rfl rfl) (fun _ _ => rfl)) (xc (fun vals => X.val rfl rfl (xorV_r rfl rfl) (fun _ _ => rfl)) (xc (fun vals => X.val rfl rfl (addV_r rfl rfl) (fun _ _ => rfl)) (xc (fun vals => X.val rfl rfl (mv_r rfl) (fun _ _ => rfl)) (xc (fun vals => X.val rfl rfl (subI_r rfl rfl (by omega) (by omega)) (fun _ _ => rfl)) (xc (fun vals => X.val rfl rfl (idxA_r Tryz.underlying191 Tryz.sizeOf150 rfl rfl (by omega) (by omega)) (fun _ _ => rfl)) (xc (fun vals => X.val rfl rfl (ldW_r (v := u32 (schN m j (j - 7))) (i := 0) rfl Tryz.isAgg150 rfl (cf_ld 64 (fun i => u32 (schN m j i)) (j - 7) _ (by omega) (by omega))) (fun _ _ => rfl)) (xc (fun vals => X.val rfl rfl (addV_r rfl rfl) (fun _ _ => rfl)) (xc (fun vals => X.val rfl rfl (mv_r rfl) (fun _ _ => rfl)) (xc (fun vals => X.callV Tryz.call166 rfl rfl (fun W hS _ => r02_ror _ 17 (by decide) (by decide) W) (fun _ => rfl)) (xc (fun vals => X.val rfl rfl (mv_r rfl) (fun _ _ => rfl)) (xc (fun vals => X.callV Tryz.call166 rfl rfl (fun W hS _ => r02_ror _ 19 (by decide) (by decide) W) (fun _ => rfl)) (xc (fun vals => X.val rfl rfl (xorV_r rfl rfl) (fun _ _ => rfl)) (xc (fun vals => X.val rfl rfl (mv_r rfl) (fun _ _ => rfl)) (xc (fun vals => X.val rfl rfl (shrV_r 10 (by decide) rfl rfl rfl) (fun _ _ => rfl)) (xc (fun vals => X.val rfl rfl (xorV_r rfl rfl) (fun _ _ => rfl)) (xc (fun vals => X.val rfl rfl (addV_r rfl rfl) (fun _ _ => rfl)) (xn))))))))))))))))))))))))))))) (by kernel_rfl) (by kernel_rfl) (by kernel_rfl) (fun vals => ?_)
      refine rv rfl rfl rfl (RV.re (v' := ptr b5 j) (idxA_r Tryz.underlying191 Tryz.sizeOf150 rfl rfl (by omega) (by omega)) (congrArg (ptr b5) (by omega))) ?_
      refine stW (i := 0) rfl Tryz.sizeOf150 rfl rfl rfl rfl (by rw [cf_size]; omega) rfl ?_
      refine OJ.done ?_
      refine PJ.norBlock ?_
      refine PJ.next ?_
      refine CJ.region ?_
      refine rv rfl rfl rfl (mv_r rfl) ?_
      refine rv rfl rfl rfl (addI_r rfl rfl (by omega) (by omega)) ?_
      refine rv rfl rfl rfl (asg_r rfl) ?_
      refine OJ.done ?_
      refine PJ.reH (H' := [(b5, .cells (cf 64 (fun i => u32 (schN m (j + 1) i))) 191 (0, 0)), (b4, .cells #[.int .u32 0, .int .u32 0, .int .u32 0, .int .u32 0, .int .u32 0, .int .u32 0, .int .u32 0, .int .u32 0] 151 (0, 0))]) (by rw [← cf_sch m j _ (by rw [if_neg (by omega)])]; rfl) ?_
      refine PJ.again (j + 1) (by omega) (by omega) ⟨rfl, rfl, rfl, rfl, trivial⟩ rfl rfl (by simp)
    · try simp only [decide_eq_true_eq, decide_eq_false_iff_not, Bool.not_eq_true', Bool.not_eq_false'] at hc2
      refine CJ.exit ?_
      refine PJ.exThen ?_
      refine PJ.exThen ?_
      refine PJ.exHit ?_
      refine PJ.next ?_
      refine CJ.seq ?_
      refine CJ.region ?_
      refine call Tryz.call167 rfl rfl rfl (fun W hS => r02_numbers W) ?_
      refine allW Tryz.zeroValue191 rfl rfl ?_
      intro b10 ha10 ho10
      simp only [Above] at ha10
      try simp only [Off, book, List.cons_append, List.nil_append, List.set_cons_zero, List.set_cons_succ, ne_eq] at ho10
      refine stWw (i := 0) rfl Tryz.sizeOf191 rfl rfl rfl (cf_size 64 _) rfl rfl ?_
      refine OJ.done ?_
      refine PJ.next ?_
      refine CJ.seq ?_
      refine CJ.less (E' := [(2, _), (4, _), (5, _), (7, _), (10, _), (37, _), (38, _), (78, _)]) ⟨rfl, rfl, rfl, rfl, rfl, rfl, rfl, rfl, trivial⟩ ?_
      refine CJ.drwD 23 [.det [] _, .det [0] _, .det [] _, .det [2] _, .det [] _, .det [4] _, .det [] _, .det [6] _, .det [] _, .det [8] _, .det [] _, .det [10] _, .det [] _, .det [12] _, .det [] _, .det [14] _, .det [1] _, .det [3] _, .det [5] _, .det [7] _, .det [9] _, .det [11] _, .det [13] _] (by kernel_rfl) (xc (fun vals => X.val rfl rfl (idxA_r Tryz.underlying151 Tryz.sizeOf150 rfl rfl (by omega) (by omega)) (fun _ _ => rfl)) (xc (fun vals => X.val rfl rfl (ldR_r Tryz.isAgg150 rfl (.head _) hb2 hm2 (by first | (simp only [Off, book, List.cons_append, List.nil_append, List.set_cons_zero, List.set_cons_succ, List.eraseIdx_cons_zero, List.eraseIdx_cons_succ, ne_eq, and_true]; omega) | (simp [Off] <;> omega)) rfl) (fun _ _ => rfl)) (xc (fun vals => X.val rfl rfl (idxA_r Tryz.underlying151 Tryz.sizeOf150 rfl rfl (by omega) (by omega)) (fun _ _ => rfl)) (xc (fun vals => X.val rfl rfl (ldR_r Tryz.isAgg150 rfl (.head _) hb2 hm2 (by first | (simp only [Off, book, List.cons_append, List.nil_append, List.set_cons_zero, List.set_cons_succ, List.eraseIdx_cons_zero, List.eraseIdx_cons_succ, ne_eq, and_true]; omega) | (simp [Off] <;> omega)) rfl) (fun _ _ => rfl)) (xc (fun vals => X.val rfl rfl (idxA_r Tryz.underlying151 Tryz.sizeOf150 rfl rfl (by omega) (by omega)) (fun _ _ => rfl)) (xc (fun vals => X.val rfl rfl (ldR_r Tryz.isAgg150 rfl (.head _) hb2 hm2 (by first | (simp only [Off, book, List.cons_append, List.nil_append, List.set_cons_zero, List.set_cons_succ, List.eraseIdx_cons_zero, List.eraseIdx_cons_succ, ne_eq, and_true]; omega) | (simp [Off] <;> omega)) rfl) (fun _ _ => rfl)) (xc (fun vals => X.val rfl rfl (idxA_r Tryz.underlying151 Tryz.sizeOf150 rfl rfl (by omega) (by omega)) (fun _ _ => rfl)) (xc (fun vals => X.val rfl rfl (ldR_r Tryz.isAgg150 rfl (.head _) hb2 hm2 (by first | (simp only [Off, book, List.cons_append, List.nil_append, List.set_cons_zero, List.set_cons_succ, List.eraseIdx_cons_zero, List.eraseIdx_cons_succ, ne_eq, and_true]; omega) | (simp [Off] <;> omega)) rfl) (fun _ _ => rfl)) (xc (fun vals => X.val rfl rfl (idxA_r Tryz.underlying151 Tryz.sizeOf150 rfl rfl (by omega) (by omega)) (fun _ _ => rfl)) (xc (fun vals => X.val rfl rfl (ldR_r Tryz.isAgg150 rfl (.head _) hb2 hm2 (by first | (simp only [Off, book, List.cons_append, List.nil_append, List.set_cons_zero, List.set_cons_succ, List.eraseIdx_cons_zero, List.eraseIdx_cons_succ, ne_eq, and_true]; omega) | (simp [Off] <;> omega)) rfl) (fun _ _ => rfl)) (xc (fun vals => X.val rfl rfl (idxA_r Tryz.underlying151 Tryz.sizeOf150 rfl rfl (by omega) (by omega)) (fun _ _ => rfl)) (xc (fun vals => X.val rfl rfl (ldR_r Tryz.isAgg150 rfl (.head _) hb2 hm2 (by first | (simp only [Off, book, List.cons_append, List.nil_append, List.set_cons_zero, List.set_cons_succ, List.eraseIdx_cons_zero, List.eraseIdx_cons_succ, ne_eq, and_true]; omega) | (simp [Off] <;> omega)) rfl) (fun _ _ => rfl)) (xc (fun vals => X.val rfl rfl (idxA_r Tryz.underlying151 Tryz.sizeOf150 rfl rfl (by omega) (by omega)) (fun _ _ => rfl)) (xc (fun vals => X.val rfl rfl (ldR_r Tryz.isAgg150 rfl (.head _) hb2 hm2 (by first | (simp only [Off, book, List.cons_append, List.nil_append, List.set_cons_zero, List.set_cons_succ, List.eraseIdx_cons_zero, List.eraseIdx_cons_succ, ne_eq, and_true]; omega) | (simp [Off] <;> omega)) rfl) (fun _ _ => rfl)) (xc (fun vals => X.val rfl rfl (idxA_r Tryz.underlying151 Tryz.sizeOf150 rfl rfl (by omega) (by omega)) (fun _ _ => rfl)) (xc (fun vals => X.val rfl rfl (ldR_r Tryz.isAgg150 rfl (.head _) hb2 hm2 (by first | (simp only [Off, book, List.cons_append, List.nil_append, List.set_cons_zero, List.set_cons_succ, List.eraseIdx_cons_zero, List.eraseIdx_cons_succ, ne_eq, and_true]; omega) | (simp [Off] <;> omega)) rfl) (fun _ _ => rfl)) (xc (fun vals => X.val rfl rfl (asg_r rfl) (fun _ _ => rfl)) (xc (fun vals => X.val rfl rfl (asg_r rfl) (fun _ _ => rfl)) (xc (fun vals => X.val rfl rfl (asg_r rfl) (fun _ _ => rfl)) (xc (fun vals => X.val rfl rfl (asg_r rfl) (fun _ _ => rfl)) (xc (fun vals => X.val rfl rfl (asg_r rfl) (fun _ _ => rfl)) (xc (fun vals => X.val rfl rfl (asg_r rfl) (fun _ _ => rfl)) (xc (fun vals => X.val rfl rfl (asg_r rfl) (fun _ _ => rfl)) (xn)))))))))))))))))))))))) (by kernel_rfl) (by kernel_rfl) (by kernel_rfl) (fun vals => ?_)
      refine rv rfl rfl rfl (asg_r rfl) ?_
      refine OJ.done ?_
      refine PJ.next ?_
      refine CJ.seq ?_
      refine CJ.seq ?_
      refine CJ.region ?_
      refine rv rfl rfl rfl (asg_r rfl) ?_
      refine OJ.done ?_
      refine PJ.next ?_
      refine CJ.block ?_
      have e : j = 64 := by omega
      subst e
      obtain ⟨ws, hX⟩ : ∃ ws, ws = schN m 64 := ⟨_, rfl⟩
      refine CJ.reH (H' := [(b10, .cells (cf 64 (fun i => u32 (kk i))) 191 (0, 0)), (b5, .cells (cf 64 (fun i => u32 (ws i))) 191 (0, 0)), (b4, .cells #[.int .u32 0, .int .u32 0, .int .u32 0, .int .u32 0, .int .u32 0, .int .u32 0, .int .u32 0, .int .u32 0] 151 (0, 0))]) (by rw [hX]; rfl) ?_
      refine CJ.loop (α := Nat) (fun j => [(2, ptr b2 0), (4, ptr b4 0), (5, ptr b5 0), (10, ptr b10 0), (11, u32 (S8.run ws s j).a), (12, u32 (S8.run ws s j).b), (13, u32 (S8.run ws s j).c), (14, u32 (S8.run ws s j).d), (15, u32 (S8.run ws s j).e), (16, u32 (S8.run ws s j).f), (17, u32 (S8.run ws s j).g), (18, u32 (S8.run ws s j).h), (19, .int .i64 (j : Int))]) (fun j => [(b10, .cells (cf 64 (fun i => u32 (kk i))) 191 (0, 0)), (b5, .cells (cf 64 (fun i => u32 (ws i))) 191 (0, 0)), (b4, .cells #[.int .u32 0, .int .u32 0, .int .u32 0, .int .u32 0, .int .u32 0, .int .u32 0, .int .u32 0, .int .u32 0] 151 (0, 0))]) (fun j => [w2, w]) (fun j => Gh.no) (fun j => j ≤ 64) (fun j => 64 - j) 0 (by decide) ⟨rfl, rfl, rfl, rfl, rfl, rfl, rfl, rfl, rfl, rfl, rfl, rfl, rfl, trivial⟩ rfl rfl (by simp) ?_
      rintro j hj
      dsimp only
      generalize hv : S8.run ws s j = v
      refine CJ.seq ?_
      refine CJ.seq ?_
      refine CJ.region ?_
      refine rv rfl rfl rfl (mv_r rfl) ?_
      refine rv rfl rfl rfl (lss_r rfl rfl) ?_
      refine OJ.done ?_
      refine PJ.next ?_
      refine CJ.cond rfl (fun hc3 => ?_) (fun hc3 => ?_)
      · try simp only [decide_eq_true_eq, decide_eq_false_iff_not, Bool.not_eq_true', Bool.not_eq_false'] at hc3
        refine CJ.skip ?_
        refine PJ.next ?_
        refine CJ.seq ?_
        refine CJ.block ?_
        refine CJ.seq ?_
        refine CJ.less (E' := [(2, _), (4, _), (5, _), (10, _), (11, _), (12, _), (13, _), (14, _), (15, _), (16, _), (17, _), (18, _), (19, _), (95, _), (96, _)]) ⟨rfl, rfl, rfl, rfl, rfl, rfl, rfl, rfl, rfl, rfl, rfl, rfl, rfl, rfl, rfl, trivial⟩ ?_
        refine CJ.drwD 26 [.det [] _, .det [] _, .det [1] _, .det [] _, .det [3] _, .det [2, 4] _, .det [] _, .det [6] _, .det [5, 7] _, .det [0, 8] _, .det [] _, .det [] _, .det [10, 11] _, .det [] _, .det [13] _, .det [] _, .det [14, 15] _, .det [12, 16] _, .det [9, 17] _, .det [] _, .det [19] _, .det [20] _, .det [18, 21] _, .det [] _, .det [23] _, .det [24] _] (by kernel_rfl) (xc (fun vals => X.val rfl rfl (mv_r rfl) (fun _ _ => rfl)) (xc (fun vals => X.val rfl rfl (mv_r rfl) (fun _ _ => rfl)) (xc (fun vals => X.callV Tryz.call166 rfl rfl (fun W hS _ => r02_ror _ 6 (by decide) (by decide) W) (fun _ => rfl)) (xc (fun vals => X.val rfl rfl (mv_r rfl) (fun _ _ => rfl)) (xc (fun vals => X.callV Tryz.call166 rfl rfl (fun W hS _ => r02_ror _ 11 (by decide) (by decide) W) (fun _ => rfl)) (xc (fun vals => X.val rfl rfl (xorV_r rfl rfl) (fun _ _ => rfl)) (xc (fun vals => X.val rfl rfl (mv_r rfl) (fun _ _ => rfl)) (xc (fun vals => X.callV Tryz.call166 rfl rfl (fun W hS _ => r02_ror _ 25 (by decide) (by decide) W) (fun _ => rfl)) (xc (fun vals => X.val rfl rfl (xorV_r rfl rfl) (fun _ _ => rfl)) (xc (fun vals => X.val rfl rfl (addV_r rfl rfl) (fun _ _ => rfl)) (xc (fun vals => X.val rfl rfl (mv_r rfl) (fun _ _ => rfl)) (xc (fun vals => X.val rfl rfl (mv_r rfl) (fun _ _ => rfl)) (xc (fun vals => X.val rfl rfl (andV_r rfl rfl) (fun _ _ => rfl)) (xc (fun vals => X.val rfl rfl (mv_r rfl) (fun _ _ => rfl)) (xc (fun vals => X.val rfl rfl (notV_r rfl) (fun _ _ => rfl)) (xc (fun vals => X.val rfl rfl (mv_r rfl) (fun _ _ => rfl)) (xc (fun vals => X.val rfl rfl (andV_r rfl rfl) (fun _ _ => rfl)) (xc (fun vals => X.val rfl rfl (xorV_r rfl rfl) (fun _ _ => rfl)) (xc (fun vals => X.val rfl rfl (addV_r rfl rfl) (fun _ _ => rfl)) (xc (fun vals => X.val rfl rfl (mv_r rfl) (fun _ _ => rfl)) (xc (fun vals => X.val rfl rfl (idxA_r Tryz.underlying191 Tryz.sizeOf150 rfl rfl (by omega) (by omega)) (fun _ _ => rfl)) (xc (fun vals => X.val rfl rfl (ldW_r (v := u32 (kk j)) (i := 0) rfl Tryz.isAgg150 rfl (cf_ld 64 (fun i => u32 (kk i)) j _ (by omega) (by omega))) (fun _ _ => rfl)) (xc (fun vals => X.val rfl rfl (addV_r rfl rfl) (fun _ _ => rfl)) (xc (fun vals => X.val rfl rfl (mv_r rfl) (fun _ _ => rfl)) (xc (fun vals => X.val rfl rfl (idxA_r Tryz.underlying191 Tryz.sizeOf150 rfl rfl (by omega) (by omega)) (fun _ _ => rfl)) (xc (fun vals => X.val rfl rfl (ldW_r (v := u32 (ws j)) (i := 1) rfl Tryz.isAgg150 rfl (cf_ld 64 (fun i => u32 (ws i)) j _ (by omega) (by omega))) (fun _ _ => rfl)) (xn))))))))))))))))))))))))))) (by kernel_rfl) (by kernel_rfl) (by kernel_rfl) (fun vals => ?_)
        refine rv rfl rfl rfl (addV_r rfl rfl) ?_
        refine rv rfl rfl rfl (asg_r rfl) ?_
        refine OJ.done ?_
        refine PJ.next ?_
        refine CJ.seq ?_
        refine CJ.region ?_
        refine rv rfl rfl rfl (mv_r rfl) ?_
        refine call Tryz.call166 rfl rfl rfl (fun W hS => r02_ror _ 2 (by decide) (by decide) W) ?_
        refine rv rfl rfl rfl (mv_r rfl) ?_
        refine call Tryz.call166 rfl rfl rfl (fun W hS => r02_ror _ 13 (by decide) (by decide) W) ?_
        refine rv rfl rfl rfl (xorV_r rfl rfl) ?_
        refine rv rfl rfl rfl (mv_r rfl) ?_
        refine call Tryz.call166 rfl rfl rfl (fun W hS => r02_ror _ 22 (by decide) (by decide) W) ?_
        refine rv rfl rfl rfl (xorV_r rfl rfl) ?_
        refine rv rfl rfl rfl (mv_r rfl) ?_
        refine rv rfl rfl rfl (mv_r rfl) ?_
        refine rv rfl rfl rfl (andV_r rfl rfl) ?_
        refine rv rfl rfl rfl (mv_r rfl) ?_
        refine rv rfl rfl rfl (mv_r rfl) ?_
        refine rv rfl rfl rfl (andV_r rfl rfl) ?_
        refine rv rfl rfl rfl (xorV_r rfl rfl) ?_
        refine rv rfl rfl rfl (mv_r rfl) ?_
        refine rv rfl rfl rfl (mv_r rfl) ?_
        refine rv rfl rfl rfl (andV_r rfl rfl) ?_
        refine rv rfl rfl rfl (xorV_r rfl rfl) ?_
        refine rv rfl rfl rfl (addV_r rfl rfl) ?_
        refine rv rfl rfl rfl (asg_r rfl) ?_
        refine OJ.done ?_
        refine PJ.next ?_
        refine CJ.region ?_
        refine rv rfl rfl rfl (mv_r rfl) ?_
        refine rv rfl rfl rfl (mv_r rfl) ?_
        refine rv rfl rfl rfl (mv_r rfl) ?_
        refine rv rfl rfl rfl (mv_r rfl) ?_
        refine rv rfl rfl rfl (mv_r rfl) ?_
        refine rv rfl rfl rfl (addV_r rfl rfl) ?_
        refine rv rfl rfl rfl (mv_r rfl) ?_
        refine rv rfl rfl rfl (mv_r rfl) ?_
        refine rv rfl rfl rfl (mv_r rfl) ?_
        refine rv rfl rfl rfl (mv_r rfl) ?_
        refine rv rfl rfl rfl (mv_r rfl) ?_
        refine rv rfl rfl rfl (addV_r rfl rfl) ?_
        refine rv rfl rfl rfl (asg_r rfl) ?_
        refine rv rfl rfl rfl (asg_r rfl) ?_
        refine rv rfl rfl rfl (asg_r rfl) ?_
        refine rv rfl rfl rfl (asg_r rfl) ?_
        refine rv rfl rfl rfl (asg_r rfl) ?_
        refine rv rfl rfl rfl (asg_r rfl) ?_
        refine rv rfl rfl rfl (asg_r rfl) ?_
        refine rv rfl rfl rfl (asg_r rfl) ?_
        refine OJ.done ?_
        refine PJ.norBlock ?_
        refine PJ.next ?_
        refine CJ.region ?_
        refine rv rfl rfl rfl (mv_r rfl) ?_
        refine rv rfl rfl rfl (addI_r rfl rfl (by omega) (by omega)) ?_
        refine rv rfl rfl rfl (asg_r rfl) ?_
        refine OJ.done ?_
        refine PJ.again (j + 1) (by omega) (by omega) ⟨rfl, rfl, rfl, rfl, by simp only [S8.run, hv]; rfl, by simp only [S8.run, hv]; rfl, by simp only [S8.run, hv]; rfl, by simp only [S8.run, hv]; rfl, by simp only [S8.run, hv]; rfl, by simp only [S8.run, hv]; rfl, by simp only [S8.run, hv]; rfl, by simp only [S8.run, hv]; rfl, rfl, trivial⟩ rfl rfl (by simp)
      · try simp only [decide_eq_true_eq, decide_eq_false_iff_not, Bool.not_eq_true', Bool.not_eq_false'] at hc3
        refine CJ.exit ?_
        refine PJ.exThen ?_
        refine PJ.exThen ?_
        refine PJ.exHit ?_
        refine PJ.next ?_
        refine CJ.seq ?_
        refine CJ.region ?_
        refine rv rfl rfl rfl (idxA_r Tryz.underlying151 Tryz.sizeOf150 rfl rfl (by omega) (by omega)) ?_
        refine rv rfl rfl rfl (ldR_r Tryz.isAgg150 rfl (.head _) hb2 hm2 (by first | (simp only [Off, book, List.cons_append, List.nil_append, List.set_cons_zero, List.set_cons_succ, List.eraseIdx_cons_zero, List.eraseIdx_cons_succ, ne_eq, and_true]; omega) | (simp [Off] <;> omega)) rfl) ?_
        refine rv rfl rfl rfl (mv_r rfl) ?_
        refine rv rfl rfl rfl (addV_r rfl rfl) ?_
        refine rv rfl rfl rfl (idxA_r Tryz.underlying151 Tryz.sizeOf150 rfl rfl (by omega) (by omega)) ?_
        refine rv rfl rfl rfl (ldR_r Tryz.isAgg150 rfl (.head _) hb2 hm2 (by first | (simp only [Off, book, List.cons_append, List.nil_append, List.set_cons_zero, List.set_cons_succ, List.eraseIdx_cons_zero, List.eraseIdx_cons_succ, ne_eq, and_true]; omega) | (simp [Off] <;> omega)) rfl) ?_
        refine rv rfl rfl rfl (mv_r rfl) ?_
        refine rv rfl rfl rfl (addV_r rfl rfl) ?_
        refine rv rfl rfl rfl (idxA_r Tryz.underlying151 Tryz.sizeOf150 rfl rfl (by omega) (by omega)) ?_
        refine rv rfl rfl rfl (ldR_r Tryz.isAgg150 rfl (.head _) hb2 hm2 (by first | (simp only [Off, book, List.cons_append, List.nil_append, List.set_cons_zero, List.set_cons_succ, List.eraseIdx_cons_zero, List.eraseIdx_cons_succ, ne_eq, and_true]; omega) | (simp [Off] <;> omega)) rfl) ?_
        refine rv rfl rfl rfl (mv_r rfl) ?_
        refine rv rfl rfl rfl (addV_r rfl rfl) ?_
        refine rv rfl rfl rfl (idxA_r Tryz.underlying151 Tryz.sizeOf150 rfl rfl (by omega) (by omega)) ?_
        refine rv rfl rfl rfl (ldR_r Tryz.isAgg150 rfl (.head _) hb2 hm2 (by first | (simp only [Off, book, List.cons_append, List.nil_append, List.set_cons_zero, List.set_cons_succ, List.eraseIdx_cons_zero, List.eraseIdx_cons_succ, ne_eq, and_true]; omega) | (simp [Off] <;> omega)) rfl) ?_
        refine rv rfl rfl rfl (mv_r rfl) ?_
        refine rv rfl rfl rfl (addV_r rfl rfl) ?_
        refine rv rfl rfl rfl (idxA_r Tryz.underlying151 Tryz.sizeOf150 rfl rfl (by omega) (by omega)) ?_
        refine rv rfl rfl rfl (ldR_r Tryz.isAgg150 rfl (.head _) hb2 hm2 (by first | (simp only [Off, book, List.cons_append, List.nil_append, List.set_cons_zero, List.set_cons_succ, List.eraseIdx_cons_zero, List.eraseIdx_cons_succ, ne_eq, and_true]; omega) | (simp [Off] <;> omega)) rfl) ?_
        refine rv rfl rfl rfl (mv_r rfl) ?_
        refine rv rfl rfl rfl (addV_r rfl rfl) ?_
        refine rv rfl rfl rfl (idxA_r Tryz.underlying151 Tryz.sizeOf150 rfl rfl (by omega) (by omega)) ?_
        refine rv rfl rfl rfl (ldR_r Tryz.isAgg150 rfl (.head _) hb2 hm2 (by first | (simp only [Off, book, List.cons_append, List.nil_append, List.set_cons_zero, List.set_cons_succ, List.eraseIdx_cons_zero, List.eraseIdx_cons_succ, ne_eq, and_true]; omega) | (simp [Off] <;> omega)) rfl) ?_
        refine rv rfl rfl rfl (mv_r rfl) ?_
        refine rv rfl rfl rfl (addV_r rfl rfl) ?_
        refine rv rfl rfl rfl (idxA_r Tryz.underlying151 Tryz.sizeOf150 rfl rfl (by omega) (by omega)) ?_
        refine rv rfl rfl rfl (ldR_r Tryz.isAgg150 rfl (.head _) hb2 hm2 (by first | (simp only [Off, book, List.cons_append, List.nil_append, List.set_cons_zero, List.set_cons_succ, List.eraseIdx_cons_zero, List.eraseIdx_cons_succ, ne_eq, and_true]; omega) | (simp [Off] <;> omega)) rfl) ?_
        refine rv rfl rfl rfl (mv_r rfl) ?_
        refine rv rfl rfl rfl (addV_r rfl rfl) ?_
        refine rv rfl rfl rfl (idxA_r Tryz.underlying151 Tryz.sizeOf150 rfl rfl (by omega) (by omega)) ?_
        refine rv rfl rfl rfl (ldR_r Tryz.isAgg150 rfl (.head _) hb2 hm2 (by first | (simp only [Off, book, List.cons_append, List.nil_append, List.set_cons_zero, List.set_cons_succ, List.eraseIdx_cons_zero, List.eraseIdx_cons_succ, ne_eq, and_true]; omega) | (simp [Off] <;> omega)) rfl) ?_
        refine rv rfl rfl rfl (mv_r rfl) ?_
        refine rv rfl rfl rfl (addV_r rfl rfl) ?_
        refine rv rfl rfl rfl (bldQ_r Tryz.underlying151 Tryz.zeroValue151 Tryz.sizeOf150 rfl rfl rfl rfl) ?_
        refine stWw (i := 2) rfl Tryz.sizeOf151 rfl rfl rfl rfl rfl rfl ?_
        refine OJ.done ?_
        refine PJ.next ?_
        refine CJ.ret ?_
        have e : j = 64 := by omega
        subst e
        refine retO (.inl rfl) Tryz.results146 (RS.wAw (i := 2) rfl Tryz.isAgg151 Tryz.sizeOf151 rfl rfl RS.n) (.tail _ (.head _)) (by simp only [Over, List.set_cons_zero, List.set_cons_succ, and_true]; omega) ?_
        rw [show s.comp m = s.add v from by rw [S8.comp, ← hX, hv]]
        rfl
end Px
namespace Px
open Go Go.RowKit Go.Proofs
theorem byts_snoc (i : Nat) (f : Nat → Int) : byts (i + 1) f = byts i f ++ [.int .u8 (f i)] := by simp [byts, List.range_succ]
theorem byts_congr (n : Nat) (f g : Nat → Int) (h : ∀ i, i < n → f i = g i) : byts n f = byts n g := by
  unfold byts
  apply List.map_congr_left
  intro i hi
  rw [h i (by simpa using hi)]
theorem pad_at (n : Nat) (m : Nat → Int) : padF n m n = 128 := by unfold padF; rw [if_neg (by omega), if_pos rfl]
theorem pad_zero (n : Nat) (m : Nat → Int) (i : Nat) (h : n < i) (h2 : i < 64 * nBlk n - 8) : padF n m i = 0 := by unfold padF; rw [if_neg (by omega), if_neg (by omega), if_pos h2]
theorem pad_len (n : Nat) (m : Nat → Int) (q : Nat) (h : q < 8) : padF n m (64 * nBlk n - 8 + q) = ((8 * n / 2 ^ (8 * (7 - q)) : Nat) : Int) % 256 := by
  have : n + 9 ≤ 64 * nBlk n := by unfold nBlk; omega
  unfold padF
  rw [if_neg (by omega), if_neg (by omega), if_neg (by omega), show 64 * nBlk n - 1 - (64 * nBlk n - 8 + q) = 7 - q by omega]
/-- chartroom/chartroomref02.padded -/
theorem r02_padded (n : Nat) (m : Nat → Int) (bb off c t : Nat) (fr : Nat × Nat) (cs : Array Value) (hn : n < 1000000000000) (w : World) (hbb : w.heap[bb]? = some (.cells cs t fr)) (hoff : off + n ≤ cs.size) (hm : ∀ i, i < n → cs[off + i]? = some (.int .u8 (m i))) :
    Calls Tryz.prog 145 #[.slice (some ⟨bb, off, none⟩) n c] w (RetX w (fun p : Nat × Nat × List Value => .slice (some ⟨p.1, 0, none⟩) (64 * nBlk n) p.2.1) (fun p w1 => w.heap.size ≤ p.1 ∧ (64 * nBlk n ≤ p.2.1 ∧ p.2.2.length = p.2.1 - 64 * nBlk n) ∧ w1.heap[p.1]? = some (.cells (byts (64 * nBlk n) (padF n m) ++ p.2.2).toArray 5 (0, 0)))) := by
  have hbbl := (Array.getElem?_eq_some_iff.1 hbb).1
  have hnb : n + 9 ≤ 64 * nBlk n ∧ 64 * nBlk n ≤ n + 72 := by unfold nBlk; omega
  refine enter (vs := [_]) Tryz.func145 rfl Tryz.ntmps145 rfl ?_
  refine CJ.seq ?_
  refine CJ.region ?_
  refine rv rfl rfl rfl (asg_r rfl) ?_
  refine OJ.done ?_
  refine PJ.next ?_
  refine CJ.seq ?_
  refine CJ.region ?_
  refine bslW Tryz.underlying53 Tryz.sizeOf5 Tryz.zeroValue5 rfl rfl rfl rfl rfl rfl rfl ?_
  intro b6 ha6 ho6
  simp only [Above] at ha6
  try simp only [Off, book, List.cons_append, List.nil_append, List.set_cons_zero, List.set_cons_succ, ne_eq] at ho6
  refine rv rfl rfl rfl (mv_r rfl) ?_
  refine appW (i := 0) (m := 1) (ys := []) (sp := []) (len := 0) (cap := 0) (news := byts n m) (n := n) rfl Tryz.underlying53 info5 rfl rfl rfl rfl rfl rfl rfl (SrcJ.sl Tryz.underlying53 (Rd.old (.head _) hbb (fun h => h) (by simp only [Off, List.set_cons_zero, List.set_cons_succ, ne_eq, and_true]; omega) (by omega) (byts_of hoff hm)) (by rw [Nat.mul_one]; exact byts_len _ _) (byts_one _ _)) (by (try simp only [byts_len, List.length_nil, List.nil_append]) <;> omega) (by (try simp only [List.length_nil]) <;> omega) (by omega) ⟨ha6.1, trivial⟩ (by omega) (by show _ * 1 ≤ _; omega) ?_
  intro b8 cap8 sp8 ha8 hc8 hs8
  simp only [Above] at ha8
  refine bslW Tryz.underlying53 Tryz.sizeOf5 Tryz.zeroValue5 rfl rfl rfl rfl rfl rfl rfl ?_
  intro b9 ha9 ho9
  simp only [Above] at ha9
  try simp only [Off, book, List.cons_append, List.nil_append, List.set_cons_zero, List.set_cons_succ, ne_eq] at ho9
  refine appW (i := 1) (m := 1) (ys := [] ++ byts n m) (sp := sp8) (len := (0 + n)) (cap := cap8) (news := [.int .u8 128]) (n := 1) rfl Tryz.underlying53 info5 rfl rfl rfl rfl rfl rfl rfl (SrcJ.sl Tryz.underlying53 (Rd.own (i := 0) rfl (Nat.le_refl _) rfl) rfl (by intro u hu; simp only [List.mem_singleton] at hu; subst hu; rfl)) (by (try simp only [byts_len, List.length_nil, List.nil_append]) <;> omega) (by (try simp only [List.length_nil]) <;> omega) (by omega) ⟨ha8.1, trivial⟩ (by omega) (by show _ * 1 ≤ _; omega) ?_
  intro b10 cap10 sp10 ha10 hc10 hs10
  simp only [Above] at ha10
  refine OJ.dropAt (i := 0) rfl ⟨ha9.1, trivial⟩ ?_
  refine OJ.reH (H' := [(b10, .cells (byts (n + 1) (padF n m) ++ sp10).toArray 5 (0, 0))]) (by rw [byts_snoc, pad_at, byts_congr n (padF n m) m (fun i hi => pad_raw n m i hi)]; rfl) ?_
  refine rv rfl rfl rfl (asg_r rfl) ?_
  refine OJ.done ?_
  refine PJ.next ?_
  refine CJ.seq ?_
  refine CJ.block ?_
  refine CJ.loop (α := Nat × Nat × Nat × List Value) (fun p => [(0, .slice (some ⟨bb, off, none⟩) n c), (3, .slice (some ⟨p.2.1, 0, none⟩) p.1 p.2.2.1)]) (fun p => [(p.2.1, .cells (byts p.1 (padF n m) ++ p.2.2.2).toArray 5 (0, 0))]) (fun p => [w]) (fun p => Gh.no) (fun p => w.heap.size ≤ p.2.1 ∧ n + 1 ≤ p.1 ∧ p.1 ≤ (64 * nBlk n - 8) ∧ p.1 ≤ p.2.2.1 ∧ p.2.2.2.length = p.2.2.1 - p.1) (fun p => (64 * nBlk n - 8) - p.1) (n + 1, b10, cap10, sp10) ⟨ha10.1, by dsimp only; omega, by dsimp only; omega, by dsimp only; omega, by dsimp only; omega⟩ ⟨rfl, by rw [Nat.zero_add]; rfl, trivial⟩ rfl rfl (by simp) ?_
  rintro ⟨i, b, cap, sp⟩ ⟨h2, h3, h4, h5, h6⟩
  dsimp only at h2 h3 h4 h5 h6 ⊢
  refine CJ.seq ?_
  refine CJ.seq ?_
  refine CJ.region ?_
  refine rv rfl rfl rfl (mv_r rfl) ?_
  refine rv rfl rfl rfl (lenS_r Tryz.underlying53 rfl) ?_
  refine rv rfl rfl rfl (remU_r rfl rfl (by omega) (by omega)) ?_
  refine rv rfl rfl rfl (neqI_r rfl rfl) ?_
  refine OJ.done ?_
  refine PJ.next ?_
  refine CJ.cond rfl (fun hc1 => ?_) (fun hc1 => ?_)
  · try simp only [decide_eq_true_eq, decide_eq_false_iff_not, Bool.not_eq_true', Bool.not_eq_false'] at hc1
    refine CJ.skip ?_
    refine PJ.next ?_
    refine CJ.block ?_
    refine CJ.region ?_
    refine rv rfl rfl rfl (mv_r rfl) ?_
    refine bslW Tryz.underlying53 Tryz.sizeOf5 Tryz.zeroValue5 rfl rfl rfl rfl rfl rfl rfl ?_
    intro b16 ha16 ho16
    simp only [Above] at ha16
    try simp only [Off, book, List.cons_append, List.nil_append, List.set_cons_zero, List.set_cons_succ, ne_eq] at ho16
    refine appW (i := 1) (m := 1) (ys := byts i (padF n m)) (sp := sp) (len := i) (cap := cap) (news := [.int .u8 0]) (n := 1) rfl Tryz.underlying53 info5 rfl rfl rfl rfl rfl rfl rfl (SrcJ.sl Tryz.underlying53 (Rd.own (i := 0) rfl (Nat.le_refl _) rfl) rfl (by intro u hu; simp only [List.mem_singleton] at hu; subst hu; rfl)) (by (try simp only [byts_len, List.length_nil, List.nil_append]) <;> omega) (by (try simp only [List.length_nil]) <;> omega) (by omega) ⟨h2, trivial⟩ (by omega) (by show _ * 1 ≤ _; omega) ?_
    intro b17 cap17 sp17 ha17 hc17 hs17
    simp only [Above] at ha17
    refine OJ.dropAt (i := 0) rfl ⟨ha16.1, trivial⟩ ?_
    refine OJ.reH (H' := [(b17, .cells (byts (i + 1) (padF n m) ++ sp17).toArray 5 (0, 0))]) (by rw [byts_snoc, pad_zero n m i (by omega) (by unfold nBlk at *; omega)]; rfl) ?_
    refine rv rfl rfl rfl (asg_r rfl) ?_
    refine OJ.done ?_
    refine PJ.norBlock ?_
    refine PJ.again (i + 1, b17, cap17, sp17) ⟨ha17.1, by dsimp only; omega, by dsimp only; unfold nBlk at *; omega, by dsimp only; omega, by dsimp only; omega⟩ (by dsimp only; omega) ⟨rfl, rfl, trivial⟩ rfl rfl (by simp)
  · try simp only [decide_eq_true_eq, decide_eq_false_iff_not, Bool.not_eq_true', Bool.not_eq_false'] at hc1
    refine CJ.exit ?_
    refine PJ.exThen ?_
    refine PJ.exThen ?_
    refine PJ.exHit ?_
    refine PJ.next ?_
    refine CJ.seq ?_
    refine CJ.region ?_
    refine rv rfl rfl rfl (mv_r rfl) ?_
    refine rv rfl rfl rfl (lenS_r Tryz.underlying53 rfl) ?_
    refine rv rfl rfl rfl (cvtU_r Tryz.underlying3 Tryz.underlying148 rfl (by omega) (by omega)) ?_
    refine rv rfl rfl rfl (RV.re (v' := .int .u64 ((8 * n : Nat) : Int)) (mulU_r rfl rfl (by omega) (by omega)) (congrArg (Value.int .u64) (by omega))) ?_
    refine rv rfl rfl rfl (asg_r rfl) ?_
    refine OJ.done ?_
    refine PJ.next ?_
    refine CJ.seq ?_
    refine CJ.seq ?_
    refine CJ.region ?_
    refine rv rfl rfl rfl (asg_r rfl) ?_
    refine OJ.done ?_
    refine PJ.next ?_
    refine CJ.block ?_
    have hie : i = (64 * nBlk n - 8) := by unfold nBlk at *; omega
    subst hie
    refine CJ.loop (α := Nat × Nat × Nat × List Value) (fun p => [(3, .slice (some ⟨p.2.1, 0, none⟩) ((64 * nBlk n - 8) + p.1) p.2.2.1), (4, .int .u64 ((8 * n : Nat) : Int)), (5, .int .i64 (7 - (p.1 : Int)))]) (fun p => [(p.2.1, .cells (byts ((64 * nBlk n - 8) + p.1) (padF n m) ++ p.2.2.2).toArray 5 (0, 0))]) (fun p => [w]) (fun p => Gh.no) (fun p => w.heap.size ≤ p.2.1 ∧ p.1 ≤ 8 ∧ True ∧ (64 * nBlk n - 8) + p.1 ≤ p.2.2.1 ∧ p.2.2.2.length = p.2.2.1 - ((64 * nBlk n - 8) + p.1)) (fun p => 8 - p.1) (0, b, cap, sp) ⟨h2, by dsimp only; omega, trivial, h5, h6⟩ ⟨rfl, rfl, rfl, trivial⟩ rfl rfl (by simp) ?_
    rintro ⟨i, b, cap, sp⟩ ⟨h2, h3, h4, h5, h6⟩
    dsimp only at h2 h3 h4 h5 h6 ⊢
    refine CJ.seq ?_
    refine CJ.seq ?_
    refine CJ.region ?_
    refine rv rfl rfl rfl (mv_r rfl) ?_
    refine rv rfl rfl rfl (geq_r rfl rfl) ?_
    refine OJ.done ?_
    refine PJ.next ?_
    refine CJ.cond rfl (fun hc2 => ?_) (fun hc2 => ?_)
    · try simp only [decide_eq_true_eq, decide_eq_false_iff_not, Bool.not_eq_true', Bool.not_eq_false'] at hc2
      refine CJ.skip ?_
      refine PJ.next ?_
      refine CJ.seq ?_
      refine CJ.block ?_
      refine CJ.region ?_
      refine rv rfl rfl rfl (mv_r rfl) ?_
      refine rv rfl rfl rfl (mv_r rfl) ?_
      refine rv rfl rfl rfl (mv_r rfl) ?_
      refine rv rfl rfl rfl (mulI_r rfl rfl (by omega) (by omega)) ?_
      refine rv rfl rfl rfl (shrW_r rfl rfl (by omega)) ?_
      refine rv rfl rfl rfl (RV.re (v' := .int .u8 (padF n m ((64 * nBlk n - 8) + i))) (cvtB_r Tryz.underlying148 Tryz.underlying5 rfl) (congrArg (Value.int .u8) (by rw [pad_len n m i (by omega), shr_v (8 * n) (8 * (7 - i)) _ (by omega) (by omega)]))) ?_
      refine bslW Tryz.underlying53 Tryz.sizeOf5 Tryz.zeroValue5 rfl rfl rfl rfl rfl rfl rfl ?_
      intro b32 ha32 ho32
      simp only [Above] at ha32
      try simp only [Off, book, List.cons_append, List.nil_append, List.set_cons_zero, List.set_cons_succ, ne_eq] at ho32
      refine appW (i := 1) (m := 1) (ys := byts ((64 * nBlk n - 8) + i) (padF n m)) (sp := sp) (len := ((64 * nBlk n - 8) + i)) (cap := cap) (news := [.int .u8 (padF n m ((64 * nBlk n - 8) + i))]) (n := 1) rfl Tryz.underlying53 info5 rfl rfl rfl rfl rfl rfl rfl (SrcJ.sl Tryz.underlying53 (Rd.own (i := 0) rfl (Nat.le_refl _) rfl) rfl (by intro u hu; simp only [List.mem_singleton] at hu; subst hu; rfl)) (by (try simp only [byts_len, List.length_nil, List.nil_append]) <;> omega) (by (try simp only [List.length_nil]) <;> omega) (by omega) ⟨h2, trivial⟩ (by omega) (by show _ * 1 ≤ _; omega) ?_
      intro b33 cap33 sp33 ha33 hc33 hs33
      simp only [Above] at ha33
      refine OJ.dropAt (i := 0) rfl ⟨ha32.1, trivial⟩ ?_
      refine OJ.reH (H' := [(b33, .cells (byts ((64 * nBlk n - 8) + (i + 1)) (padF n m) ++ sp33).toArray 5 (0, 0))]) (by rw [← Nat.add_assoc, byts_snoc]; rfl) ?_
      refine rv rfl rfl rfl (asg_r rfl) ?_
      refine OJ.done ?_
      refine PJ.norBlock ?_
      refine PJ.next ?_
      refine CJ.region ?_
      refine rv rfl rfl rfl (mv_r rfl) ?_
      refine rv rfl rfl rfl (subI_r rfl rfl (by omega) (by omega)) ?_
      refine rv rfl rfl rfl (asg_r rfl) ?_
      refine OJ.done ?_
      refine PJ.again (i + 1, b33, cap33, sp33) ⟨ha33.1, by dsimp only; omega, trivial, by dsimp only; omega, by dsimp only; omega⟩ (by dsimp only; omega) ⟨rfl, rfl, congrArg some (congrArg (Value.int .i64) (by dsimp only; omega)), trivial⟩ rfl rfl (by simp)
    · try simp only [decide_eq_true_eq, decide_eq_false_iff_not, Bool.not_eq_true', Bool.not_eq_false'] at hc2
      refine CJ.exit ?_
      refine PJ.exThen ?_
      refine PJ.exThen ?_
      refine PJ.exHit ?_
      refine PJ.next ?_
      refine CJ.seq ?_
      refine CJ.region ?_
      refine rv rfl rfl rfl (mv_r rfl) ?_
      refine rv rfl rfl rfl (asg_r rfl) ?_
      refine OJ.done ?_
      refine PJ.next ?_
      refine CJ.ret ?_
      have e : i = 8 := by omega
      subst e
      have e2 : 64 * nBlk n - 8 + 8 = 64 * nBlk n := by omega
      rw [e2] at h5 h6 ⊢
      exact retG (.inl rfl) Tryz.results145 (RS.t rfl RS.n) (fun W hS => ⟨(b, cap, sp), rfl, hS.base (.head _) (by simp only [Over, and_true]; omega), h2, ⟨h5, h6⟩, hS.own _ (.head _)⟩)
end Px
namespace Px
open Go Go.RowKit Go.Proofs
def outC (s : S8) (i : Nat) : Array Value := cf 32 (fun k => .int .u8 (if k < i then outB s k else 0))
theorem outC_step (s : S8) (i : Nat) : setCells (outC s i) i [.int .u8 (outB s i)] = outC s (i + 1) := by
  unfold outC
  rw [cf_set]
  apply cf_congr
  intro k _
  simp only [upd]
  by_cases h : k = i
  · subst h; simp
  · by_cases h2 : k < i
    · simp [h, h2, show k < i + 1 by omega]
    · simp [h, h2, show ¬ k < i + 1 by omega]
theorem outC_32 (s : S8) : outC s 32 = dg (outB s) := by
  rw [← dg_cf]
  unfold outC
  apply cf_congr
  intro k hk
  rw [if_pos hk]
theorem out_re (x : BitVec 32) (k : Int) (e : Nat) (hk : k = (e : Int)) (he : e ≤ 32) : ((x.toNat : Int).fdiv (2 ^ (min (Int.toNat k) IntKind.u32.bits))) % 256 = ((x.toNat / 2 ^ e % 256 : Nat) : Int) := by
  subst hk
  have e1 : min (Int.toNat (e : Int)) IntKind.u32.bits = e := by simp [IntKind.bits]; omega
  rw [e1, fdiv_pow, natdiv_pow]
  omega
set_option maxHeartbeats 800000 in
/-- chartroom/chartroomref02.Sum -/
theorem r02_Sum (n : Nat) (m : Nat → Int) (bb off c t : Nat) (fr : Nat × Nat) (cs : Array Value) (hn : n < 1000000000000) (w : World) (hbb : w.heap[bb]? = some (.cells cs t fr)) (hoff : off + n ≤ cs.size) (hm : ∀ i, i < n → cs[off + i]? = some (.int .u8 (m i))) :
    Calls Tryz.prog 115 #[.slice (some ⟨bb, off, none⟩) n c] w (Ret w (.agg (dg (sha n m)))) := by
  have hbbl := (Array.getElem?_eq_some_iff.1 hbb).1
  have hnb : n + 9 ≤ 64 * nBlk n ∧ 64 * nBlk n ≤ n + 72 := by unfold nBlk; omega
  refine enter (vs := [_]) Tryz.func115 rfl Tryz.ntmps115 rfl ?_
  refine CJ.seq ?_
  refine CJ.region ?_
  refine allW Tryz.zeroValue26 rfl rfl ?_
  intro b2 ha2 ho2
  simp only [Above] at ha2
  try simp only [Off, book, List.cons_append, List.nil_append, List.set_cons_zero, List.set_cons_succ, ne_eq] at ho2
  refine OJ.done ?_
  refine PJ.next ?_
  refine CJ.seq ?_
  refine CJ.region ?_
  refine rv rfl rfl rfl (bldQ_r Tryz.underlying151 Tryz.zeroValue151 Tryz.sizeOf150 rfl rfl rfl rfl) ?_
  refine allW Tryz.zeroValue151 rfl rfl ?_
  intro b3 ha3 ho3
  simp only [Above] at ha3
  try simp only [Off, book, List.cons_append, List.nil_append, List.set_cons_zero, List.set_cons_succ, ne_eq] at ho3
  refine stWw (i := 0) rfl Tryz.sizeOf151 rfl rfl rfl rfl rfl rfl ?_
  refine OJ.done ?_
  refine PJ.next ?_
  refine CJ.seq ?_
  refine CJ.region ?_
  refine rv rfl rfl rfl (mv_r rfl) ?_
  refine callXA (bo := fun p : Nat × Nat × List Value => (p.1, .cells (byts (64 * nBlk n) (padF n m) ++ p.2.2).toArray 5 (0, 0))) (Φ := fun p => 64 * nBlk n ≤ p.2.1 ∧ p.2.2.length = p.2.1 - 64 * nBlk n) Tryz.call145 rfl rfl rfl (fun W hS => r02_padded n m bb off c _ _ cs hn W (hS.old (.head _) hbb (fun h => h) (by simp only [Off, List.set_cons_zero, List.set_cons_succ, ne_eq, and_true]; omega)) hoff hm) ?_
  rintro ⟨bp, cp, sp⟩ hap hop ⟨hcp, hsp⟩
  simp only [Above] at hap
  try simp only [Off, List.set_cons_zero, List.set_cons_succ, ne_eq] at hop
  dsimp only at hcp hsp hap hop
  refine rv rfl rfl rfl (asg_r rfl) ?_
  refine OJ.done ?_
  refine PJ.next ?_
  refine CJ.seq ?_
  refine CJ.seq ?_
  refine CJ.region ?_
  refine rv rfl rfl rfl (asg_r rfl) ?_
  refine OJ.done ?_
  refine PJ.next ?_
  refine CJ.block ?_
  refine CJ.loop (α := Nat) (fun j => [(2, ptr b2 0), (3, ptr b3 0), (4, .slice (some ⟨bp, 0, none⟩) (64 * nBlk n) cp), (5, .int .i64 ((64 * j : Nat) : Int))]) (fun j => [(bp, .cells (byts (64 * nBlk n) (padF n m) ++ sp).toArray 5 (0, 0)), (b3, .cells (stN n m j).cells 151 (0, 0)), (b2, .cells #[.int .u8 0, .int .u8 0, .int .u8 0, .int .u8 0, .int .u8 0, .int .u8 0, .int .u8 0, .int .u8 0, .int .u8 0, .int .u8 0, .int .u8 0, .int .u8 0, .int .u8 0, .int .u8 0, .int .u8 0, .int .u8 0, .int .u8 0, .int .u8 0, .int .u8 0, .int .u8 0, .int .u8 0, .int .u8 0, .int .u8 0, .int .u8 0, .int .u8 0, .int .u8 0, .int .u8 0, .int .u8 0, .int .u8 0, .int .u8 0, .int .u8 0, .int .u8 0] 26 (0, 0))]) (fun j => [w]) (fun j => Gh.no) (fun j => j ≤ nBlk n) (fun j => nBlk n - j) 0 (Nat.zero_le _) ⟨rfl, rfl, rfl, rfl, trivial⟩ rfl rfl (by simp) ?_
  rintro j hj
  refine CJ.seq ?_
  refine CJ.seq ?_
  refine CJ.region ?_
  refine rv rfl rfl rfl (mv_r rfl) ?_
  refine rv rfl rfl rfl (mv_r rfl) ?_
  refine rv rfl rfl rfl (lenS_r Tryz.underlying53 rfl) ?_
  refine rv rfl rfl rfl (lss_r rfl rfl) ?_
  refine OJ.done ?_
  refine PJ.next ?_
  refine CJ.cond rfl (fun hc1 => ?_) (fun hc1 => ?_)
  · try simp only [decide_eq_true_eq, decide_eq_false_iff_not, Bool.not_eq_true', Bool.not_eq_false'] at hc1
    refine CJ.skip ?_
    refine PJ.next ?_
    refine CJ.seq ?_
    refine CJ.block ?_
    refine CJ.less (E' := [(2, _), (3, _), (4, _), (5, _), (11, _), (12, _), (13, _), (14, _)]) ⟨rfl, rfl, rfl, rfl, rfl, rfl, rfl, rfl, trivial⟩ ?_
    refine CJ.drwD 6 [.det [] _, .det [] _, .det [] _, .det [] _, .det [3] _, .det [1, 2, 4] _] (by kernel_rfl) (xc (fun vals => X.val rfl rfl (ldWAw_r (i := 1) rfl Tryz.isAgg151 Tryz.sizeOf151 rfl rfl) (fun _ _ => rfl)) (xc (fun vals => X.val rfl rfl (mv_r rfl) (fun _ _ => rfl)) (xc (fun vals => X.val rfl rfl (mv_r rfl) (fun _ _ => rfl)) (xc (fun vals => X.val rfl rfl (mv_r rfl) (fun _ _ => rfl)) (xc (fun vals => X.val rfl rfl (addI_r rfl rfl (by omega) (by omega)) (fun _ _ => rfl)) (xc (fun vals => X.val rfl rfl (slS_r (l := 64 * j) (h := 64 * j + 64) (off' := 64 * j) Tryz.underlying53 Tryz.sizeOf5 rfl ⟨_, _, rfl, by omega⟩ ⟨_, _, rfl, by omega⟩ (by omega) (by omega) (by rw [if_neg (by omega)]; omega)) (fun _ _ => rfl)) (xn))))))) (by kernel_rfl) (by kernel_rfl) (by kernel_rfl) (fun vals => ?_)
    refine call Tryz.call146 rfl rfl rfl (fun W hS => r02_block (stN n m j) (fun i => padF n m (64 * j + i)) bp (64 * j) _ _ _ _ _ (by omega) (by omega) W (hS.own _ (.head _)) (fun i hi => by rw [← byts_at (64 * nBlk n) (padF n m) sp (64 * j + i) (by omega), Nat.zero_add])) ?_
    refine stWw (i := 1) rfl Tryz.sizeOf151 rfl rfl rfl rfl rfl rfl ?_
    refine OJ.done ?_
    refine PJ.norBlock ?_
    refine PJ.next ?_
    refine CJ.region ?_
    refine rv rfl rfl rfl (mv_r rfl) ?_
    refine rv rfl rfl rfl (addI_r rfl rfl (by omega) (by omega)) ?_
    refine rv rfl rfl rfl (asg_r rfl) ?_
    refine OJ.done ?_
    refine PJ.reH (H' := [(bp, .cells (byts (64 * nBlk n) (padF n m) ++ sp).toArray 5 (0, 0)), (b3, .cells (stN n m (j + 1)).cells 151 (0, 0)), (b2, .cells #[.int .u8 0, .int .u8 0, .int .u8 0, .int .u8 0, .int .u8 0, .int .u8 0, .int .u8 0, .int .u8 0, .int .u8 0, .int .u8 0, .int .u8 0, .int .u8 0, .int .u8 0, .int .u8 0, .int .u8 0, .int .u8 0, .int .u8 0, .int .u8 0, .int .u8 0, .int .u8 0, .int .u8 0, .int .u8 0, .int .u8 0, .int .u8 0, .int .u8 0, .int .u8 0, .int .u8 0, .int .u8 0, .int .u8 0, .int .u8 0, .int .u8 0, .int .u8 0] 26 (0, 0))]) rfl ?_
    refine PJ.again (j + 1) (by omega) (by omega) ⟨rfl, rfl, rfl, congrArg some (congrArg (Value.int .i64) (by omega)), trivial⟩ rfl rfl (by simp)
  · try simp only [decide_eq_true_eq, decide_eq_false_iff_not, Bool.not_eq_true', Bool.not_eq_false'] at hc1
    refine CJ.exit ?_
    refine PJ.exThen ?_
    refine PJ.exThen ?_
    refine PJ.exHit ?_
    refine PJ.next ?_
    refine CJ.seq ?_
    refine CJ.region ?_
    refine rv rfl rfl rfl (bldA_r Tryz.underlying26 Tryz.zeroValue26 Tryz.sizeOf5 rfl rfl) ?_
    refine allW Tryz.zeroValue26 rfl rfl ?_
    intro b6 ha6 ho6
    simp only [Above] at ha6
    try simp only [Off, book, List.cons_append, List.nil_append, List.set_cons_zero, List.set_cons_succ, ne_eq] at ho6
    refine stWw (i := 0) rfl Tryz.sizeOf26 rfl rfl rfl rfl rfl rfl ?_
    refine OJ.done ?_
    refine PJ.next ?_
    refine CJ.seq ?_
    refine CJ.seq ?_
    refine CJ.region ?_
    refine rv rfl rfl rfl (asg_r rfl) ?_
    refine OJ.done ?_
    refine PJ.next ?_
    refine CJ.block ?_
    have e : j = nBlk n := by omega
    rw [e]
    refine CJ.loop (α := Nat) (fun i => [(2, ptr b2 0), (3, ptr b3 0), (6, ptr b6 0), (7, .int .i64 (i : Int))]) (fun i => [(b6, .cells (outC (stN n m (nBlk n)) i) 26 (0, 0)), (bp, .cells (byts (64 * nBlk n) (padF n m) ++ sp).toArray 5 (0, 0)), (b3, .cells (stN n m (nBlk n)).cells 151 (0, 0)), (b2, .cells #[.int .u8 0, .int .u8 0, .int .u8 0, .int .u8 0, .int .u8 0, .int .u8 0, .int .u8 0, .int .u8 0, .int .u8 0, .int .u8 0, .int .u8 0, .int .u8 0, .int .u8 0, .int .u8 0, .int .u8 0, .int .u8 0, .int .u8 0, .int .u8 0, .int .u8 0, .int .u8 0, .int .u8 0, .int .u8 0, .int .u8 0, .int .u8 0, .int .u8 0, .int .u8 0, .int .u8 0, .int .u8 0, .int .u8 0, .int .u8 0, .int .u8 0, .int .u8 0] 26 (0, 0))]) (fun i => [w]) (fun i => Gh.no) (fun i => i ≤ 32) (fun i => 32 - i) 0 (by decide) ⟨rfl, rfl, rfl, rfl, trivial⟩ rfl rfl (by simp) ?_
    rintro i hi
    refine CJ.seq ?_
    refine CJ.seq ?_
    refine CJ.region ?_
    refine rv rfl rfl rfl (mv_r rfl) ?_
    refine rv rfl rfl rfl (lss_r rfl rfl) ?_
    refine OJ.done ?_
    refine PJ.next ?_
    refine CJ.cond rfl (fun hc2 => ?_) (fun hc2 => ?_)
    · try simp only [decide_eq_true_eq, decide_eq_false_iff_not, Bool.not_eq_true', Bool.not_eq_false'] at hc2
      refine CJ.skip ?_
      refine PJ.next ?_
      refine CJ.seq ?_
      refine CJ.block ?_
      refine CJ.region ?_
      refine rv rfl rfl rfl (mv_r rfl) ?_
      refine rv rfl rfl rfl (mv_r rfl) ?_
      refine rv rfl rfl rfl (quoI_r rfl rfl (by omega) (by omega) (by omega)) ?_
      refine rv rfl rfl rfl (idxA_r Tryz.underlying151 Tryz.sizeOf150 rfl rfl (by omega) (by omega)) ?_
      refine rv rfl rfl rfl (ldW_r (v := u32 (S8.at (stN n m (nBlk n)) (i / 4))) (i := 2) rfl Tryz.isAgg150 rfl (S8.cells_ld _ (i / 4) _ (by omega) (by omega))) ?_
      refine rv rfl rfl rfl (mv_r rfl) ?_
      refine rv rfl rfl rfl (remU_r rfl rfl (by omega) (by omega)) ?_
      refine rv rfl rfl rfl (mulI_r rfl rfl (by omega) (by omega)) ?_
      refine rv rfl rfl rfl (subI_r rfl rfl (by omega) (by omega)) ?_
      refine rv rfl rfl rfl (shrW_r rfl rfl (by omega)) ?_
      refine rv rfl rfl rfl (RV.re (v' := .int .u8 (outB (stN n m (nBlk n)) i)) (cvtB_r Tryz.underlying150 Tryz.underlying5 rfl) (congrArg (Value.int .u8) (out_re _ _ (24 - 8 * (i % 4)) (by omega) (by omega)))) ?_
      refine rv rfl rfl rfl (RV.re (v' := ptr b6 i) (idxA_r Tryz.underlying26 Tryz.sizeOf5 rfl rfl (by omega) (by omega)) (congrArg (ptr b6) (by omega))) ?_
      refine stW (i := 0) rfl Tryz.sizeOf5 rfl rfl rfl rfl (by rw [outC, cf_size]; omega) rfl ?_
      refine OJ.done ?_
      refine PJ.norBlock ?_
      refine PJ.next ?_
      refine CJ.region ?_
      refine rv rfl rfl rfl (mv_r rfl) ?_
      refine rv rfl rfl rfl (addI_r rfl rfl (by omega) (by omega)) ?_
      refine rv rfl rfl rfl (asg_r rfl) ?_
      refine OJ.done ?_
      refine PJ.reH (H' := [(b6, .cells (outC (stN n m (nBlk n)) (i + 1)) 26 (0, 0)), (bp, .cells (byts (64 * nBlk n) (padF n m) ++ sp).toArray 5 (0, 0)), (b3, .cells (stN n m (nBlk n)).cells 151 (0, 0)), (b2, .cells #[.int .u8 0, .int .u8 0, .int .u8 0, .int .u8 0, .int .u8 0, .int .u8 0, .int .u8 0, .int .u8 0, .int .u8 0, .int .u8 0, .int .u8 0, .int .u8 0, .int .u8 0, .int .u8 0, .int .u8 0, .int .u8 0, .int .u8 0, .int .u8 0, .int .u8 0, .int .u8 0, .int .u8 0, .int .u8 0, .int .u8 0, .int .u8 0, .int .u8 0, .int .u8 0, .int .u8 0, .int .u8 0, .int .u8 0, .int .u8 0, .int .u8 0, .int .u8 0] 26 (0, 0))]) (by rw [← outC_step]; rfl) ?_
      refine PJ.again (i + 1) (by omega) (by omega) ⟨rfl, rfl, rfl, rfl, trivial⟩ rfl rfl (by simp)
    · try simp only [decide_eq_true_eq, decide_eq_false_iff_not, Bool.not_eq_true', Bool.not_eq_false'] at hc2
      refine CJ.exit ?_
      refine PJ.exThen ?_
      refine PJ.exThen ?_
      refine PJ.exHit ?_
      refine PJ.next ?_
      refine CJ.seq ?_
      refine CJ.region ?_
      refine rv rfl rfl rfl (ldWAw_r (i := 0) rfl Tryz.isAgg26 Tryz.sizeOf26 rfl (cf_size 32 _)) ?_
      refine stWw (i := 3) rfl Tryz.sizeOf26 rfl rfl rfl (cf_size 32 _) rfl rfl ?_
      refine OJ.done ?_
      refine PJ.next ?_
      refine CJ.ret ?_
      have e : i = 32 := by omega
      subst e
      refine retO (.inl rfl) Tryz.results115 (RS.wAw (i := 3) rfl Tryz.isAgg26 Tryz.sizeOf26 rfl (cf_size 32 _) RS.n) (.head _) (by simp only [Over, List.set_cons_zero, List.set_cons_succ, and_true]; omega) ?_
      show Value.agg (outC (stN n m (nBlk n)) 32) = _
      rw [outC_32]; rfl
end Px
namespace Px
open Go Go.RowKit Go.Proofs
theorem dg_byts (f : Nat → Int) : ((dg f).toList.drop 0).take (32 * 1) = byts 32 f := rfl
set_option maxHeartbeats 400000 in
/-- chartroom/chartroomref02.Tagged -/
theorem r02_Tagged (s : ByteArray) (n : Nat) (m : Nat → Int) (bb off c t : Nat) (fr : Nat × Nat) (cs : Array Value) (hs0 : s.size < 1000) (hn : n < 900000000000) (w : World) (hbb : w.heap[bb]? = some (.cells cs t fr)) (hoff : off + n ≤ cs.size) (hm : ∀ i, i < n → cs[off + i]? = some (.int .u8 (m i))) :
    Calls Tryz.prog 77 #[.string s, .slice (some ⟨bb, off, none⟩) n c] w (Ret w (.agg (dg (tagged s n m)))) := by
  have hbbl := (Array.getElem?_eq_some_iff.1 hbb).1
  refine enter (vs := [_, _]) Tryz.func77 rfl Tryz.ntmps77 rfl ?_
  refine CJ.seq ?_
  refine CJ.region ?_
  refine allW Tryz.zeroValue26 rfl rfl ?_
  intro b4 ha4 ho4
  simp only [Above] at ha4
  try simp only [Off, book, List.cons_append, List.nil_append, List.set_cons_zero, List.set_cons_succ, ne_eq] at ho4
  refine OJ.done ?_
  refine PJ.next ?_
  refine CJ.seq ?_
  refine CJ.region ?_
  refine rv rfl rfl rfl (mv_r rfl) ?_
  refine cvtSB Tryz.underlying9 Tryz.underlying53 Tryz.underlying5 rfl rfl rfl ?_
  intro b7 cap7 w7 cs7 fr7 hb7 ha7 ho7 hm7 hz7 hc7 hz7b hs7
  simp only [Above] at ha7
  try simp only [Off, ne_eq] at ho7
  refine call Tryz.call115 rfl rfl rfl (fun W hS => r02_Sum s.size (sB s) b7 0 cap7 _ _ cs7 (by omega) W (hS.old (.head _) hb7 hm7 (by simp only [Off, List.set_cons_zero, List.set_cons_succ, ne_eq, and_true]; omega)) (by omega) hs7) ?_
  refine allW Tryz.zeroValue26 rfl rfl ?_
  intro b5 ha5 ho5
  simp only [Above] at ha5
  try simp only [Off, book, List.cons_append, List.nil_append, List.set_cons_zero, List.set_cons_succ, ne_eq] at ho5
  refine stWw (i := 0) rfl Tryz.sizeOf26 rfl rfl rfl rfl rfl rfl ?_
  refine OJ.done ?_
  refine PJ.next ?_
  refine CJ.seq ?_
  refine CJ.region ?_
  refine bslW Tryz.underlying53 Tryz.sizeOf5 Tryz.zeroValue5 rfl rfl rfl rfl rfl rfl rfl ?_
  intro b9 ha9 ho9
  simp only [Above] at ha9
  try simp only [Off, book, List.cons_append, List.nil_append, List.set_cons_zero, List.set_cons_succ, ne_eq] at ho9
  refine rv rfl rfl rfl (slA0_r (h := 32) Tryz.underlying26 Tryz.sizeOf5 rfl rfl (by omega)) ?_
  refine appW (i := 0) (m := 1) (ys := []) (sp := []) (len := 0) (cap := 0) (news := byts 32 (sha s.size (sB s))) (n := 32) rfl Tryz.underlying53 info5 rfl rfl rfl rfl rfl rfl rfl (SrcJ.sl Tryz.underlying53 (Rd.own (i := 1) rfl (Nat.le_refl 32) (dg_byts _)) (by rw [byts_len]) (byts_one _ _)) (by (try simp only [byts_len, List.length_nil, List.nil_append]) <;> omega) (by (try simp only [List.length_nil]) <;> omega) (by omega) ⟨by omega, by omega, trivial⟩ (by omega) (by show _ * 1 ≤ _; omega) ?_
  intro b11 cap11 sp11 ha11 hc11 hs11
  simp only [Above] at ha11
  refine rv rfl rfl rfl (mv_r rfl) ?_
  refine appW (i := 0) (m := 1) (ys := [] ++ byts 32 (sha s.size (sB s))) (sp := sp11) (len := (0 + 32)) (cap := cap11) (news := byts n m) (n := n) rfl Tryz.underlying53 info5 rfl rfl rfl rfl rfl rfl rfl (SrcJ.sl Tryz.underlying53 (Rd.old (.tail _ (.head _)) hbb (fun h => h) (by simp only [Off, List.set_cons_zero, List.set_cons_succ, ne_eq, and_true]; omega) (by omega) (byts_of hoff hm)) (by rw [Nat.mul_one]; exact byts_len _ _) (byts_one _ _)) (by (try simp only [byts_len, List.length_nil, List.nil_append]) <;> omega) (by (try simp only [List.length_nil]) <;> omega) (by omega) ⟨by omega, by omega, trivial⟩ (by omega) (by show _ * 1 ≤ _; omega) ?_
  intro b13 cap13 sp13 ha13 hc13 hs13
  simp only [Above] at ha13
  refine OJ.reH (H' := [(b13, .cells (byts (32 + n) (cat2 32 (sha s.size (sB s)) m) ++ sp13).toArray 5 (0, 0)), (b5, .cells (dg (sha s.size (sB s))) 26 (0, 0)), (b4, .cells #[.int .u8 0, .int .u8 0, .int .u8 0, .int .u8 0, .int .u8 0, .int .u8 0, .int .u8 0, .int .u8 0, .int .u8 0, .int .u8 0, .int .u8 0, .int .u8 0, .int .u8 0, .int .u8 0, .int .u8 0, .int .u8 0, .int .u8 0, .int .u8 0, .int .u8 0, .int .u8 0, .int .u8 0, .int .u8 0, .int .u8 0, .int .u8 0, .int .u8 0, .int .u8 0, .int .u8 0, .int .u8 0, .int .u8 0, .int .u8 0, .int .u8 0, .int .u8 0] 26 (0, 0))]) (by rw [← cat2_byts]; rfl) ?_
  refine call Tryz.call115 rfl rfl rfl (fun W hS => r02_Sum (32 + n) (cat2 32 (sha s.size (sB s)) m) b13 0 cap13 _ _ _ (by omega) W (hS.own _ (.head _)) (by simp only [List.size_toArray, List.length_append, byts_len]; omega) (fun i hi => byts_at _ _ _ i hi)) ?_
  refine stWw (i := 2) rfl Tryz.sizeOf26 rfl rfl rfl rfl rfl rfl ?_
  refine OJ.done ?_
  refine PJ.next ?_
  refine CJ.ret ?_
  refine retO (.inl rfl) Tryz.results77 (RS.wA (i := 2) rfl Tryz.isAgg26 Tryz.sizeOf26 rfl (Nat.le_of_ble_eq_true rfl) (RS.n)) (.tail _ (.head _)) (by first | (simp only [Over, List.set_cons_zero, List.set_cons_succ, List.eraseIdx_cons_zero, List.eraseIdx_cons_succ, and_true]; omega) | (simp [Over] <;> omega)) ?_
  rfl
/-- chartroom/chartroomref04.Scalar -/
theorem r04_Scalar (s : ByteArray) (n : Nat) (m : Nat → Int) (bb off c t : Nat) (fr : Nat × Nat) (cs : Array Value) (hs0 : s.size < 1000) (hn : n < 900000000000) (w : World) (hbb : w.heap[bb]? = some (.cells cs t fr)) (hoff : off + n ≤ cs.size) (hm : ∀ i, i < n → cs[off + i]? = some (.int .u8 (m i))) :
    Calls Tryz.prog 68 #[.string s, .slice (some ⟨bb, off, none⟩) n c] w (Ret w (.int .i64 (tScal s n m))) := by
  have hB := tagged_byt s n m
  have hbd := foldB_bd 2305843009213688668 (by decide) (dgL (tagged s n m)) 0 (by decide) (by decide)
  refine enter (vs := [_, _]) Tryz.func68 rfl Tryz.ntmps68 rfl ?_
  refine CJ.seq ?_
  refine CJ.region ?_
  refine rv rfl rfl rfl (asg_r rfl) ?_
  refine OJ.done ?_
  refine PJ.next ?_
  refine CJ.seq ?_
  refine CJ.region ?_
  refine rv rfl rfl rfl (mv_r rfl) ?_
  refine rv rfl rfl rfl (mv_r rfl) ?_
  refine call Tryz.call77 rfl rfl rfl (fun W hS => r02_Tagged s n m bb off c _ _ cs hs0 hn W (hS.old (.head _) hbb (fun h => h) trivial) hoff hm) ?_
  refine call Tryz.call109 rfl rfl rfl (fun W hS => r04_Rest _ hB _ (by decide) (by decide) W) ?_
  refine rv rfl rfl rfl (addI_r rfl rfl (by omega) (by omega)) ?_
  refine rv rfl rfl rfl (asg_r rfl) ?_
  refine OJ.done ?_
  refine PJ.next ?_
  refine CJ.ret ?_
  refine retV Tryz.results68 rfl (.head _) ?_
  rfl
end Px
