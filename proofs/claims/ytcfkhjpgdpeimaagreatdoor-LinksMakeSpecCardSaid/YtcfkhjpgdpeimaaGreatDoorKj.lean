/- Contracts of the package links and of chartroomref40, the second part. No condition beyond those that each theorem states. -/
import Derived.Test.YtcfkhjpgdpeimaaGreatDoorKi
import Derived.Test.YtcfkhjpgdpeimaaGreatDoorXe
import Derived.Test.YtcfkhjpgdpeimaaGreatDoorProg
set_option linter.unusedSimpArgs false
set_option linter.unusedVariables false
namespace Px
open Go Go.RowKit Go.Proofs
/-- a factor's data -/
structure Fa where
  lnk : Nat → Int
  com : Nat → Int
  by_ : Int
  n : Int
  sr : Int
  ss : Int
def faC (f : Fa) : Array Value := #[.int .u8 (f.lnk 0), .int .u8 (f.lnk 1), .int .u8 (f.lnk 2), .int .u8 (f.lnk 3), .int .u8 (f.lnk 4), .int .u8 (f.lnk 5), .int .u8 (f.lnk 6), .int .u8 (f.lnk 7), .int .u8 (f.lnk 8), .int .u8 (f.lnk 9), .int .u8 (f.lnk 10), .int .u8 (f.lnk 11), .int .u8 (f.lnk 12), .int .u8 (f.lnk 13), .int .u8 (f.lnk 14), .int .u8 (f.lnk 15), .int .u8 (f.lnk 16), .int .u8 (f.lnk 17), .int .u8 (f.lnk 18), .int .u8 (f.lnk 19), .int .u8 (f.lnk 20), .int .u8 (f.lnk 21), .int .u8 (f.lnk 22), .int .u8 (f.lnk 23), .int .u8 (f.lnk 24), .int .u8 (f.lnk 25), .int .u8 (f.lnk 26), .int .u8 (f.lnk 27), .int .u8 (f.lnk 28), .int .u8 (f.lnk 29), .int .u8 (f.lnk 30), .int .u8 (f.lnk 31), .int .u8 (f.com 0), .int .u8 (f.com 1), .int .u8 (f.com 2), .int .u8 (f.com 3), .int .u8 (f.com 4), .int .u8 (f.com 5), .int .u8 (f.com 6), .int .u8 (f.com 7), .int .u8 (f.com 8), .int .u8 (f.com 9), .int .u8 (f.com 10), .int .u8 (f.com 11), .int .u8 (f.com 12), .int .u8 (f.com 13), .int .u8 (f.com 14), .int .u8 (f.com 15), .int .u8 (f.com 16), .int .u8 (f.com 17), .int .u8 (f.com 18), .int .u8 (f.com 19), .int .u8 (f.com 20), .int .u8 (f.com 21), .int .u8 (f.com 22), .int .u8 (f.com 23), .int .u8 (f.com 24), .int .u8 (f.com 25), .int .u8 (f.com 26), .int .u8 (f.com 27), .int .u8 (f.com 28), .int .u8 (f.com 29), .int .u8 (f.com 30), .int .u8 (f.com 31), .int .i64 f.by_, .int .i64 f.n, .int .i64 f.sr, .int .i64 f.ss]
def fV (f : Fa) : List V := [.text (dT f.lnk), .text (dT f.com), .int f.by_, .int f.n]
theorem fV_fine (f : Fa) (h1 : I64 f.by_) (h2 : I64 f.n) : V.fineL (fV f) := by
  simp only [fV, V.fineL, V.fine, dT_size]
  exact ⟨by decide, by decide, h1, h2, trivial⟩
def fmD (Z : Fx) (f : Fa) : Nat → Int := Z.tg (⟨#[102, 97, 99, 116, 111, 114, 32, 115, 105, 103, 110]⟩ : ByteArray) (V.list (fV f)).enc
set_option maxHeartbeats 400000 in
/-- chartroom/links.message -/
theorem links_fmessage {Z : Fx} (hZ : FxOk Z) (f : Fa) (h1 : I64 f.by_) (h2 : I64 f.n) (w : World) (hg : Glb w) :
    Calls Tryz.prog 24 #[.agg (faC f)] w (RetX w (fun b : Nat => .slice (some ⟨b, 0, none⟩) 32 32) (fun b w1 => w.heap.size ≤ b ∧ w1.heap[b]? = some (.cells (dg (fmD Z f)) 23 (0, 0)))) := by
  have hg4 := hg.lt
  obtain ⟨df, hdf⟩ : ∃ df, fmD Z f = df := ⟨_, rfl⟩
  have hff := flat_fine (fV f) rfl (fV_fine f h1 h2) (by simp [fV])
  refine enter (vs := [_]) Tryz.func24 rfl Tryz.ntmps24 rfl ?_
  refine CJ.seq ?_
  refine CJ.region ?_
  refine boxR rfl rfl rfl ?_
  intro b1 w1 hb1 ha1 ho1 hm1 hz1
  simp only [Above] at ha1
  try simp only [Off, book, List.cons_append, List.nil_append, List.set_cons_zero, List.set_cons_succ, ne_eq] at ho1
  refine rv (fun _ h => Op.noConfusion h) rfl rfl (asg_r rfl) ?_
  refine OJ.done ?_
  refine PJ.next ?_
  refine CJ.seq ?_
  refine CJ.less (E' := [(0, _), (1, _), (2, _)]) ⟨rfl, rfl, rfl, trivial⟩ ?_
  refine CJ.nt 15 [12, 14] [([], some _), ([0], some (.agg (dg f.lnk))), ([1], some _), ([], some _), ([3], some (.agg (dg f.com))), ([4], some _), ([], some _), ([6], some (.int .i64 f.by_)), ([7], some _), ([], some _), ([9], some (.int .i64 f.n)), ([10], some _), ([2, 5, 8, 11], none), ([12], some (.agg (dg df))), ([], none)] [[], []] (fun cv L' H' => match cv with | [none, none] => L' = [w1, w] ∧ H' = [] | [none, some v14] => ∃ (b3 : Nat), v14 = ptr b3 0 ∧ L' = [w1, w] ∧ H' = [(b3, .cells zK 23 (0, 0))] ∧ w1.heap.size ≤ b3 ∧ w.heap.size ≤ b3 | [some v12, none] => ∃ (b16 : Nat), v12 = .slice (some ⟨b16, 0, none⟩) 4 4 ∧ L' = [w1, w] ∧ H' = [(b16, vRowC (fV f) [] 78)] ∧ w1.heap.size ≤ b16 ∧ w.heap.size ≤ b16 | [some v12, some v14] => ∃ (b16 : Nat) (b3 : Nat), v12 = .slice (some ⟨b16, 0, none⟩) 4 4 ∧ v14 = ptr b3 0 ∧ L' = [w1, w] ∧ H' = [(b16, vRowC (fV f) [] 78), (b3, .cells zK 23 (0, 0))] ∧ w1.heap.size ≤ b16 ∧ w.heap.size ≤ b16 ∧ w1.heap.size ≤ b3 ∧ w.heap.size ≤ b3 | _ => False) (by kernel_rfl) ⟨rfl, rfl⟩ (by kernel_rfl) (by kernel_rfl) (by kernel_rfl) (by kernel_rfl) (by kernel_rfl) (by kernel_rfl) rfl (qc (fun cv L' H' _ _ hP => X.val (fun _ h => Op.noConfusion h) rfl (fld_r Tryz.underlying36 rfl Tryz.sizeOf23 rfl) (fun _ _ => rfl)) (qc (fun cv L' H' hl hd hP => by obtain ⟨x12, x14, rfl⟩ := len2 hl; exact (match x12, x14, hd, hP with | none, none, hd, hP => (by obtain ⟨rfl, rfl⟩ := hP; exact X.val (fun _ h => Op.noConfusion h) rfl (ldRA_r Tryz.isAgg23 Tryz.sizeOf23 rfl (.head _) hb1 hm1 trivial (Nat.le_of_ble_eq_true rfl)) (fun _ _ => rfl)) | none, some v14, hd, hP => (by obtain ⟨b3, rfl, rfl, rfl, ha3, hA3⟩ := hP; exact X.val (fun _ h => Op.noConfusion h) rfl (ldRA_r Tryz.isAgg23 Tryz.sizeOf23 rfl (.head _) hb1 hm1 (by first | (simp only [Off, book, List.cons_append, List.nil_append, List.set_cons_zero, List.set_cons_succ, List.eraseIdx_cons_zero, List.eraseIdx_cons_succ, ne_eq, and_true]; omega) | (simp [Off] <;> omega)) (Nat.le_of_ble_eq_true rfl)) (fun _ _ => rfl)) | some v12, none, hd, hP => (by obtain ⟨b16, rfl, rfl, rfl, ha16, hA16⟩ := hP; exact X.val (fun _ h => Op.noConfusion h) rfl (ldRA_r Tryz.isAgg23 Tryz.sizeOf23 rfl (.head _) hb1 hm1 (by first | (simp only [Off, book, List.cons_append, List.nil_append, List.set_cons_zero, List.set_cons_succ, List.eraseIdx_cons_zero, List.eraseIdx_cons_succ, ne_eq, and_true]; omega) | (simp [Off] <;> omega)) (Nat.le_of_ble_eq_true rfl)) (fun _ _ => rfl)) | some v12, some v14, hd, hP => (by obtain ⟨b16, b3, rfl, rfl, rfl, rfl, ha16, hA16, ha3, hA3⟩ := hP; exact X.val (fun _ h => Op.noConfusion h) rfl (ldRA_r Tryz.isAgg23 Tryz.sizeOf23 rfl (.head _) hb1 hm1 (by first | (simp only [Off, book, List.cons_append, List.nil_append, List.set_cons_zero, List.set_cons_succ, List.eraseIdx_cons_zero, List.eraseIdx_cons_succ, ne_eq, and_true]; omega) | (simp [Off] <;> omega)) (Nat.le_of_ble_eq_true rfl)) (fun _ _ => rfl)))) (qc (fun cv L' H' _ _ hP => X.callV Tryz.call59 rfl rfl (fun W hS _ => links_text _ W) (fun _ => rfl)) (qc (fun cv L' H' _ _ hP => X.val (fun _ h => Op.noConfusion h) rfl (fld_r Tryz.underlying36 rfl Tryz.sizeOf23 rfl) (fun _ _ => rfl)) (qc (fun cv L' H' hl hd hP => by obtain ⟨x12, x14, rfl⟩ := len2 hl; exact (match x12, x14, hd, hP with | none, none, hd, hP => (by obtain ⟨rfl, rfl⟩ := hP; exact X.val (fun _ h => Op.noConfusion h) rfl (ldRA_r Tryz.isAgg23 Tryz.sizeOf23 rfl (.head _) hb1 hm1 trivial (Nat.le_of_ble_eq_true rfl)) (fun _ _ => rfl)) | none, some v14, hd, hP => (by obtain ⟨b3, rfl, rfl, rfl, ha3, hA3⟩ := hP; exact X.val (fun _ h => Op.noConfusion h) rfl (ldRA_r Tryz.isAgg23 Tryz.sizeOf23 rfl (.head _) hb1 hm1 (by first | (simp only [Off, book, List.cons_append, List.nil_append, List.set_cons_zero, List.set_cons_succ, List.eraseIdx_cons_zero, List.eraseIdx_cons_succ, ne_eq, and_true]; omega) | (simp [Off] <;> omega)) (Nat.le_of_ble_eq_true rfl)) (fun _ _ => rfl)) | some v12, none, hd, hP => (by obtain ⟨b16, rfl, rfl, rfl, ha16, hA16⟩ := hP; exact X.val (fun _ h => Op.noConfusion h) rfl (ldRA_r Tryz.isAgg23 Tryz.sizeOf23 rfl (.head _) hb1 hm1 (by first | (simp only [Off, book, List.cons_append, List.nil_append, List.set_cons_zero, List.set_cons_succ, List.eraseIdx_cons_zero, List.eraseIdx_cons_succ, ne_eq, and_true]; omega) | (simp [Off] <;> omega)) (Nat.le_of_ble_eq_true rfl)) (fun _ _ => rfl)) | some v12, some v14, hd, hP => (by obtain ⟨b16, b3, rfl, rfl, rfl, rfl, ha16, hA16, ha3, hA3⟩ := hP; exact X.val (fun _ h => Op.noConfusion h) rfl (ldRA_r Tryz.isAgg23 Tryz.sizeOf23 rfl (.head _) hb1 hm1 (by first | (simp only [Off, book, List.cons_append, List.nil_append, List.set_cons_zero, List.set_cons_succ, List.eraseIdx_cons_zero, List.eraseIdx_cons_succ, ne_eq, and_true]; omega) | (simp [Off] <;> omega)) (Nat.le_of_ble_eq_true rfl)) (fun _ _ => rfl)))) (qc (fun cv L' H' _ _ hP => X.callV Tryz.call59 rfl rfl (fun W hS _ => links_text _ W) (fun _ => rfl)) (qc (fun cv L' H' _ _ hP => X.val (fun _ h => Op.noConfusion h) rfl (fld_r Tryz.underlying36 rfl Tryz.sizeOf3 rfl) (fun _ _ => rfl)) (qc (fun cv L' H' hl hd hP => by obtain ⟨x12, x14, rfl⟩ := len2 hl; exact (match x12, x14, hd, hP with | none, none, hd, hP => (by obtain ⟨rfl, rfl⟩ := hP; exact X.val (fun _ h => Op.noConfusion h) rfl (ldR_r Tryz.isAgg3 rfl (.head _) hb1 hm1 trivial rfl) (fun _ _ => rfl)) | none, some v14, hd, hP => (by obtain ⟨b3, rfl, rfl, rfl, ha3, hA3⟩ := hP; exact X.val (fun _ h => Op.noConfusion h) rfl (ldR_r Tryz.isAgg3 rfl (.head _) hb1 hm1 (by first | (simp only [Off, book, List.cons_append, List.nil_append, List.set_cons_zero, List.set_cons_succ, List.eraseIdx_cons_zero, List.eraseIdx_cons_succ, ne_eq, and_true]; omega) | (simp [Off] <;> omega)) rfl) (fun _ _ => rfl)) | some v12, none, hd, hP => (by obtain ⟨b16, rfl, rfl, rfl, ha16, hA16⟩ := hP; exact X.val (fun _ h => Op.noConfusion h) rfl (ldR_r Tryz.isAgg3 rfl (.head _) hb1 hm1 (by first | (simp only [Off, book, List.cons_append, List.nil_append, List.set_cons_zero, List.set_cons_succ, List.eraseIdx_cons_zero, List.eraseIdx_cons_succ, ne_eq, and_true]; omega) | (simp [Off] <;> omega)) rfl) (fun _ _ => rfl)) | some v12, some v14, hd, hP => (by obtain ⟨b16, b3, rfl, rfl, rfl, rfl, ha16, hA16, ha3, hA3⟩ := hP; exact X.val (fun _ h => Op.noConfusion h) rfl (ldR_r Tryz.isAgg3 rfl (.head _) hb1 hm1 (by first | (simp only [Off, book, List.cons_append, List.nil_append, List.set_cons_zero, List.set_cons_succ, List.eraseIdx_cons_zero, List.eraseIdx_cons_succ, ne_eq, and_true]; omega) | (simp [Off] <;> omega)) rfl) (fun _ _ => rfl)))) (qc (fun cv L' H' _ _ hP => X.callV Tryz.call60 rfl rfl (fun W hS _ => links_number _ W) (fun _ => rfl)) (qc (fun cv L' H' _ _ hP => X.val (fun _ h => Op.noConfusion h) rfl (fld_r Tryz.underlying36 rfl Tryz.sizeOf3 rfl) (fun _ _ => rfl)) (qc (fun cv L' H' hl hd hP => by obtain ⟨x12, x14, rfl⟩ := len2 hl; exact (match x12, x14, hd, hP with | none, none, hd, hP => (by obtain ⟨rfl, rfl⟩ := hP; exact X.val (fun _ h => Op.noConfusion h) rfl (ldR_r Tryz.isAgg3 rfl (.head _) hb1 hm1 trivial rfl) (fun _ _ => rfl)) | none, some v14, hd, hP => (by obtain ⟨b3, rfl, rfl, rfl, ha3, hA3⟩ := hP; exact X.val (fun _ h => Op.noConfusion h) rfl (ldR_r Tryz.isAgg3 rfl (.head _) hb1 hm1 (by first | (simp only [Off, book, List.cons_append, List.nil_append, List.set_cons_zero, List.set_cons_succ, List.eraseIdx_cons_zero, List.eraseIdx_cons_succ, ne_eq, and_true]; omega) | (simp [Off] <;> omega)) rfl) (fun _ _ => rfl)) | some v12, none, hd, hP => (by obtain ⟨b16, rfl, rfl, rfl, ha16, hA16⟩ := hP; exact X.val (fun _ h => Op.noConfusion h) rfl (ldR_r Tryz.isAgg3 rfl (.head _) hb1 hm1 (by first | (simp only [Off, book, List.cons_append, List.nil_append, List.set_cons_zero, List.set_cons_succ, List.eraseIdx_cons_zero, List.eraseIdx_cons_succ, ne_eq, and_true]; omega) | (simp [Off] <;> omega)) rfl) (fun _ _ => rfl)) | some v12, some v14, hd, hP => (by obtain ⟨b16, b3, rfl, rfl, rfl, rfl, ha16, hA16, ha3, hA3⟩ := hP; exact X.val (fun _ h => Op.noConfusion h) rfl (ldR_r Tryz.isAgg3 rfl (.head _) hb1 hm1 (by first | (simp only [Off, book, List.cons_append, List.nil_append, List.set_cons_zero, List.set_cons_succ, List.eraseIdx_cons_zero, List.eraseIdx_cons_succ, ne_eq, and_true]; omega) | (simp [Off] <;> omega)) rfl) (fun _ _ => rfl)))) (qc (fun cv L' H' _ _ hP => X.callV Tryz.call60 rfl rfl (fun W hS _ => links_number _ W) (fun _ => rfl)) (qk (qc (fun cv L' H' hl hd hP => by obtain ⟨x12, x14, rfl⟩ := len2 hl; exact (match x12, x14, hd, hP with | none, none, hd, hP => (absurd (show false = true from hd) (by decide)) | none, some v14, hd, hP => (absurd (show false = true from hd) (by decide)) | some v12, none, hd, hP => (by obtain ⟨b16, rfl, rfl, rfl, ha16, hA16⟩ := hP; exact X.callV Tryz.call42 rfl rfl (fun W hS _ => by rw [← hdf]; exact links_hash hZ (⟨#[102, 97, 99, 116, 111, 114, 32, 115, 105, 103, 110]⟩ : ByteArray) (by decide) (fV f) hff.1 hff.2.1 hff.2.2 W.heap.size b16 4 W (Nat.le_refl _) (flat_at (sp := []) rfl (hS.lt _ (.head _)) (Nat.le_refl 4) (hS.own _ (.head _))) (hg.old hS (.tail _ (.head _)) (fun _ _ h => h) (by first | exact True.intro | (simp only [Over, List.set_cons_zero, List.set_cons_succ, List.eraseIdx_cons_zero, List.eraseIdx_cons_succ, and_true]; omega)))) (fun _ => rfl)) | some v12, some v14, hd, hP => (by obtain ⟨b16, b3, rfl, rfl, rfl, rfl, ha16, hA16, ha3, hA3⟩ := hP; exact X.callV Tryz.call42 rfl rfl (fun W hS _ => by rw [← hdf]; exact links_hash hZ (⟨#[102, 97, 99, 116, 111, 114, 32, 115, 105, 103, 110]⟩ : ByteArray) (by decide) (fV f) hff.1 hff.2.1 hff.2.2 W.heap.size b16 4 W (Nat.le_refl _) (flat_at (sp := []) rfl (hS.lt _ (.head _)) (Nat.le_refl 4) (hS.own _ (.head _))) (hg.old hS (.tail _ (.head _)) (fun _ _ h => h) (by first | exact True.intro | (simp only [Over, List.set_cons_zero, List.set_cons_succ, List.eraseIdx_cons_zero, List.eraseIdx_cons_succ, and_true]; omega)))) (fun _ => rfl)))) (qk (qn)))))))))))))))) ?_ ?_
  · refine nc rfl rfl rfl rfl ?_ ?_
    · intro cv L' H' hl hr hP F Q' hk
      obtain ⟨x12, x14, rfl⟩ := len2 hl
      rcases x12 with _ | v12 <;> rcases x14 with _ | v14
      · obtain ⟨rfl, rfl⟩ := hP
        refine bslW Tryz.underlying75 Tryz.sizeOf78 Tryz.zeroValue78 rfl rfl rfl rfl rfl rfl rfl ?_
        intro b16 ha ho
        exact OJ.done (hk _ _ _ ⟨b16, rfl, rfl, rfl, ha.1, ha.2.1⟩)
      · obtain ⟨b3, rfl, rfl, rfl, ha3, hA3⟩ := hP
        refine bslW Tryz.underlying75 Tryz.sizeOf78 Tryz.zeroValue78 rfl rfl rfl rfl rfl rfl rfl ?_
        intro b16 ha ho
        exact OJ.done (hk _ _ _ ⟨b16, b3, rfl, rfl, rfl, rfl, ha.1, ha.2.1, ha3, hA3⟩)
      · exact absurd (show false = true from hr) (by decide)
      · exact absurd (show false = true from hr) (by decide)
    refine nc rfl rfl rfl rfl ?_ ?_
    · intro cv L' H' hl hr hP F Q' hk
      obtain ⟨x12, x14, rfl⟩ := len2 hl
      rcases x12 with _ | v12 <;> rcases x14 with _ | v14
      · obtain ⟨rfl, rfl⟩ := hP
        refine allW Tryz.zeroValue23 rfl rfl ?_
        intro b3 ha ho
        exact OJ.done (hk _ _ _ ⟨b3, rfl, rfl, rfl, ha.1, ha.2.1⟩)
      · exact absurd (show false = true from hr) (by decide)
      · obtain ⟨b16, rfl, rfl, rfl, ha16, hA16⟩ := hP
        refine allW Tryz.zeroValue23 rfl rfl ?_
        intro b3 ha ho
        exact OJ.done (PJ.swp (hk _ _ _ ⟨b16, b3, rfl, rfl, rfl, rfl, ha16, hA16, ha.1, ha.2.1⟩))
      · exact absurd (show false = true from hr) (by decide)
    exact nn
  · intro cv L' H' hl hr hP
    obtain ⟨x12, x14, rfl⟩ := len2 hl
    rcases x12 with _ | v12 <;> rcases x14 with _ | v14
    · exact absurd (show false = true from hr) (by decide)
    · exact absurd (show false = true from hr) (by decide)
    · exact absurd (show false = true from hr) (by decide)
    obtain ⟨b16, b3, rfl, rfl, rfl, rfl, ha16, hA16, ha3, hA3⟩ := hP
    refine stWw (i := 1) rfl Tryz.sizeOf23 rfl rfl rfl rfl rfl rfl ?_
    refine OJ.done ?_
    refine PJ.next ?_
    refine CJ.seq ?_
    refine CJ.region ?_
    refine rv (fun _ h => Op.noConfusion h) rfl rfl (slA0_r (h := 32) Tryz.underlying23 Tryz.sizeOf5 rfl rfl (by omega)) ?_
    refine rv (fun _ h => Op.noConfusion h) rfl rfl (asg_r rfl) ?_
    refine OJ.done ?_
    refine PJ.next ?_
    refine CJ.ret ?_
    exact retG (.inl rfl) Tryz.results24 (RS.t rfl RS.n) (fun W hS => ⟨b3, rfl, hS.base (.tail _ (.head _)) (by first | (simp only [Over, List.set_cons_zero, List.set_cons_succ, List.eraseIdx_cons_zero, List.eraseIdx_cons_succ, and_true]; omega) | (simp [Over] <;> omega)), by omega, by rw [hdf]; exact hS.own (b3, _) (.tail _ (.head _))⟩)

set_option maxHeartbeats 400000 in
/-- chartroom/chartroomref40.FactorMessage -/
theorem r40_FactorMessage {Z : Fx} (hZ : FxOk Z) (f : Fa) (h1 : I64 f.by_) (h2 : I64 f.n) (w : World) :
    Calls Tryz.prog 27 #[.agg (faC f)] w (RetX w (fun b : Nat => .slice (some ⟨b, 0, none⟩) 32 32) (fun b w1 => w.heap.size ≤ b ∧ w1.heap[b]? = some (.cells (dg (fmD Z f)) 23 (0, 0)))) := by
  obtain ⟨df, hdf⟩ : ∃ df, fmD Z f = df := ⟨_, rfl⟩
  have hff := flat_fine (fV f) rfl (fV_fine f h1 h2) (by simp [fV])
  refine enter (vs := [_]) Tryz.func27 rfl Tryz.ntmps27 rfl ?_
  refine CJ.seq ?_
  refine CJ.region ?_
  refine boxR rfl rfl rfl ?_
  intro b1 w1 hb1 ha1 ho1 hm1 hz1
  simp only [Above] at ha1
  try simp only [Off, book, List.cons_append, List.nil_append, List.set_cons_zero, List.set_cons_succ, ne_eq] at ho1
  refine rv (fun _ h => Op.noConfusion h) rfl rfl (asg_r rfl) ?_
  refine OJ.done ?_
  refine PJ.next ?_
  refine CJ.seq ?_
  refine CJ.less (E' := [(0, _), (1, _), (2, _)]) ⟨rfl, rfl, rfl, trivial⟩ ?_
  refine CJ.nt 17 [14, 16] [([], some _), ([0], some _), ([1], some (.string (dT f.lnk))), ([2], some _), ([], some _), ([4], some _), ([5], some (.string (dT f.com))), ([6], some _), ([], some _), ([8], some (.int .i64 f.by_)), ([9], some _), ([], some _), ([11], some (.int .i64 f.n)), ([12], some _), ([3, 7, 10, 13], none), ([14], some (.agg (dg df))), ([], none)] [[], []] (fun cv L' H' => match cv with | [none, none] => L' = [w1, w] ∧ H' = [] | [none, some v16] => ∃ (b3 : Nat), v16 = ptr b3 0 ∧ L' = [w1, w] ∧ H' = [(b3, .cells zK 23 (0, 0))] ∧ w1.heap.size ≤ b3 ∧ w.heap.size ≤ b3 | [some v14, none] => ∃ (b18 : Nat), v14 = .slice (some ⟨b18, 0, none⟩) 4 4 ∧ L' = [w1, w] ∧ H' = [(b18, vRowC (fV f) [] 78)] ∧ w1.heap.size ≤ b18 ∧ w.heap.size ≤ b18 | [some v14, some v16] => ∃ (b18 : Nat) (b3 : Nat), v14 = .slice (some ⟨b18, 0, none⟩) 4 4 ∧ v16 = ptr b3 0 ∧ L' = [w1, w] ∧ H' = [(b18, vRowC (fV f) [] 78), (b3, .cells zK 23 (0, 0))] ∧ w1.heap.size ≤ b18 ∧ w.heap.size ≤ b18 ∧ w1.heap.size ≤ b3 ∧ w.heap.size ≤ b3 | _ => False) (by kernel_rfl) ⟨rfl, rfl⟩ (by kernel_rfl) (by kernel_rfl) (by kernel_rfl) (by kernel_rfl) (by kernel_rfl) (by kernel_rfl) rfl (qc (fun cv L' H' _ _ hP => X.val (fun _ h => Op.noConfusion h) rfl (fld_r Tryz.underlying36 rfl Tryz.sizeOf23 rfl) (fun _ _ => rfl)) (qc (fun cv L' H' _ _ hP => X.val (fun _ h => Op.noConfusion h) rfl (slA0_r (h := 32) Tryz.underlying23 Tryz.sizeOf5 rfl rfl (by omega)) (fun _ _ => rfl)) (qc (fun cv L' H' hl hd hP => by obtain ⟨x14, x16, rfl⟩ := len2 hl; exact (match x14, x16, hd, hP with | none, none, hd, hP => (by obtain ⟨rfl, rfl⟩ := hP; exact X.val (fun _ h => Op.noConfusion h) rfl (cvtDo_r Tryz.underlying55 Tryz.underlying5 Tryz.underlying9 rfl (.head _) hb1 hm1 trivial rfl) (fun _ _ => rfl)) | none, some v16, hd, hP => (by obtain ⟨b3, rfl, rfl, rfl, ha3, hA3⟩ := hP; exact X.val (fun _ h => Op.noConfusion h) rfl (cvtDo_r Tryz.underlying55 Tryz.underlying5 Tryz.underlying9 rfl (.head _) hb1 hm1 (by first | (simp only [Off, book, List.cons_append, List.nil_append, List.set_cons_zero, List.set_cons_succ, List.eraseIdx_cons_zero, List.eraseIdx_cons_succ, ne_eq, and_true]; omega) | (simp [Off] <;> omega)) rfl) (fun _ _ => rfl)) | some v14, none, hd, hP => (by obtain ⟨b18, rfl, rfl, rfl, ha18, hA18⟩ := hP; exact X.val (fun _ h => Op.noConfusion h) rfl (cvtDo_r Tryz.underlying55 Tryz.underlying5 Tryz.underlying9 rfl (.head _) hb1 hm1 (by first | (simp only [Off, book, List.cons_append, List.nil_append, List.set_cons_zero, List.set_cons_succ, List.eraseIdx_cons_zero, List.eraseIdx_cons_succ, ne_eq, and_true]; omega) | (simp [Off] <;> omega)) rfl) (fun _ _ => rfl)) | some v14, some v16, hd, hP => (by obtain ⟨b18, b3, rfl, rfl, rfl, rfl, ha18, hA18, ha3, hA3⟩ := hP; exact X.val (fun _ h => Op.noConfusion h) rfl (cvtDo_r Tryz.underlying55 Tryz.underlying5 Tryz.underlying9 rfl (.head _) hb1 hm1 (by first | (simp only [Off, book, List.cons_append, List.nil_append, List.set_cons_zero, List.set_cons_succ, List.eraseIdx_cons_zero, List.eraseIdx_cons_succ, ne_eq, and_true]; omega) | (simp [Off] <;> omega)) rfl) (fun _ _ => rfl)))) (qc (fun cv L' H' _ _ hP => X.callV Tryz.call64 rfl rfl (fun W hS _ => r01_Text _ W) (fun _ => rfl)) (qc (fun cv L' H' _ _ hP => X.val (fun _ h => Op.noConfusion h) rfl (fld_r Tryz.underlying36 rfl Tryz.sizeOf23 rfl) (fun _ _ => rfl)) (qc (fun cv L' H' _ _ hP => X.val (fun _ h => Op.noConfusion h) rfl (slA0_r (h := 32) Tryz.underlying23 Tryz.sizeOf5 rfl rfl (by omega)) (fun _ _ => rfl)) (qc (fun cv L' H' hl hd hP => by obtain ⟨x14, x16, rfl⟩ := len2 hl; exact (match x14, x16, hd, hP with | none, none, hd, hP => (by obtain ⟨rfl, rfl⟩ := hP; exact X.val (fun _ h => Op.noConfusion h) rfl (cvtDo_r Tryz.underlying55 Tryz.underlying5 Tryz.underlying9 rfl (.head _) hb1 hm1 trivial rfl) (fun _ _ => rfl)) | none, some v16, hd, hP => (by obtain ⟨b3, rfl, rfl, rfl, ha3, hA3⟩ := hP; exact X.val (fun _ h => Op.noConfusion h) rfl (cvtDo_r Tryz.underlying55 Tryz.underlying5 Tryz.underlying9 rfl (.head _) hb1 hm1 (by first | (simp only [Off, book, List.cons_append, List.nil_append, List.set_cons_zero, List.set_cons_succ, List.eraseIdx_cons_zero, List.eraseIdx_cons_succ, ne_eq, and_true]; omega) | (simp [Off] <;> omega)) rfl) (fun _ _ => rfl)) | some v14, none, hd, hP => (by obtain ⟨b18, rfl, rfl, rfl, ha18, hA18⟩ := hP; exact X.val (fun _ h => Op.noConfusion h) rfl (cvtDo_r Tryz.underlying55 Tryz.underlying5 Tryz.underlying9 rfl (.head _) hb1 hm1 (by first | (simp only [Off, book, List.cons_append, List.nil_append, List.set_cons_zero, List.set_cons_succ, List.eraseIdx_cons_zero, List.eraseIdx_cons_succ, ne_eq, and_true]; omega) | (simp [Off] <;> omega)) rfl) (fun _ _ => rfl)) | some v14, some v16, hd, hP => (by obtain ⟨b18, b3, rfl, rfl, rfl, rfl, ha18, hA18, ha3, hA3⟩ := hP; exact X.val (fun _ h => Op.noConfusion h) rfl (cvtDo_r Tryz.underlying55 Tryz.underlying5 Tryz.underlying9 rfl (.head _) hb1 hm1 (by first | (simp only [Off, book, List.cons_append, List.nil_append, List.set_cons_zero, List.set_cons_succ, List.eraseIdx_cons_zero, List.eraseIdx_cons_succ, ne_eq, and_true]; omega) | (simp [Off] <;> omega)) rfl) (fun _ _ => rfl)))) (qc (fun cv L' H' _ _ hP => X.callV Tryz.call64 rfl rfl (fun W hS _ => r01_Text _ W) (fun _ => rfl)) (qc (fun cv L' H' _ _ hP => X.val (fun _ h => Op.noConfusion h) rfl (fld_r Tryz.underlying36 rfl Tryz.sizeOf3 rfl) (fun _ _ => rfl)) (qc (fun cv L' H' hl hd hP => by obtain ⟨x14, x16, rfl⟩ := len2 hl; exact (match x14, x16, hd, hP with | none, none, hd, hP => (by obtain ⟨rfl, rfl⟩ := hP; exact X.val (fun _ h => Op.noConfusion h) rfl (ldR_r Tryz.isAgg3 rfl (.head _) hb1 hm1 trivial rfl) (fun _ _ => rfl)) | none, some v16, hd, hP => (by obtain ⟨b3, rfl, rfl, rfl, ha3, hA3⟩ := hP; exact X.val (fun _ h => Op.noConfusion h) rfl (ldR_r Tryz.isAgg3 rfl (.head _) hb1 hm1 (by first | (simp only [Off, book, List.cons_append, List.nil_append, List.set_cons_zero, List.set_cons_succ, List.eraseIdx_cons_zero, List.eraseIdx_cons_succ, ne_eq, and_true]; omega) | (simp [Off] <;> omega)) rfl) (fun _ _ => rfl)) | some v14, none, hd, hP => (by obtain ⟨b18, rfl, rfl, rfl, ha18, hA18⟩ := hP; exact X.val (fun _ h => Op.noConfusion h) rfl (ldR_r Tryz.isAgg3 rfl (.head _) hb1 hm1 (by first | (simp only [Off, book, List.cons_append, List.nil_append, List.set_cons_zero, List.set_cons_succ, List.eraseIdx_cons_zero, List.eraseIdx_cons_succ, ne_eq, and_true]; omega) | (simp [Off] <;> omega)) rfl) (fun _ _ => rfl)) | some v14, some v16, hd, hP => (by obtain ⟨b18, b3, rfl, rfl, rfl, rfl, ha18, hA18, ha3, hA3⟩ := hP; exact X.val (fun _ h => Op.noConfusion h) rfl (ldR_r Tryz.isAgg3 rfl (.head _) hb1 hm1 (by first | (simp only [Off, book, List.cons_append, List.nil_append, List.set_cons_zero, List.set_cons_succ, List.eraseIdx_cons_zero, List.eraseIdx_cons_succ, ne_eq, and_true]; omega) | (simp [Off] <;> omega)) rfl) (fun _ _ => rfl)))) (qc (fun cv L' H' _ _ hP => X.callV Tryz.call31 rfl rfl (fun W hS _ => r01_Int _ W) (fun _ => rfl)) (qc (fun cv L' H' _ _ hP => X.val (fun _ h => Op.noConfusion h) rfl (fld_r Tryz.underlying36 rfl Tryz.sizeOf3 rfl) (fun _ _ => rfl)) (qc (fun cv L' H' hl hd hP => by obtain ⟨x14, x16, rfl⟩ := len2 hl; exact (match x14, x16, hd, hP with | none, none, hd, hP => (by obtain ⟨rfl, rfl⟩ := hP; exact X.val (fun _ h => Op.noConfusion h) rfl (ldR_r Tryz.isAgg3 rfl (.head _) hb1 hm1 trivial rfl) (fun _ _ => rfl)) | none, some v16, hd, hP => (by obtain ⟨b3, rfl, rfl, rfl, ha3, hA3⟩ := hP; exact X.val (fun _ h => Op.noConfusion h) rfl (ldR_r Tryz.isAgg3 rfl (.head _) hb1 hm1 (by first | (simp only [Off, book, List.cons_append, List.nil_append, List.set_cons_zero, List.set_cons_succ, List.eraseIdx_cons_zero, List.eraseIdx_cons_succ, ne_eq, and_true]; omega) | (simp [Off] <;> omega)) rfl) (fun _ _ => rfl)) | some v14, none, hd, hP => (by obtain ⟨b18, rfl, rfl, rfl, ha18, hA18⟩ := hP; exact X.val (fun _ h => Op.noConfusion h) rfl (ldR_r Tryz.isAgg3 rfl (.head _) hb1 hm1 (by first | (simp only [Off, book, List.cons_append, List.nil_append, List.set_cons_zero, List.set_cons_succ, List.eraseIdx_cons_zero, List.eraseIdx_cons_succ, ne_eq, and_true]; omega) | (simp [Off] <;> omega)) rfl) (fun _ _ => rfl)) | some v14, some v16, hd, hP => (by obtain ⟨b18, b3, rfl, rfl, rfl, rfl, ha18, hA18, ha3, hA3⟩ := hP; exact X.val (fun _ h => Op.noConfusion h) rfl (ldR_r Tryz.isAgg3 rfl (.head _) hb1 hm1 (by first | (simp only [Off, book, List.cons_append, List.nil_append, List.set_cons_zero, List.set_cons_succ, List.eraseIdx_cons_zero, List.eraseIdx_cons_succ, ne_eq, and_true]; omega) | (simp [Off] <;> omega)) rfl) (fun _ _ => rfl)))) (qc (fun cv L' H' _ _ hP => X.callV Tryz.call31 rfl rfl (fun W hS _ => r01_Int _ W) (fun _ => rfl)) (qk (qc (fun cv L' H' hl hd hP => by obtain ⟨x14, x16, rfl⟩ := len2 hl; exact (match x14, x16, hd, hP with | none, none, hd, hP => (absurd (show false = true from hd) (by decide)) | none, some v16, hd, hP => (absurd (show false = true from hd) (by decide)) | some v14, none, hd, hP => (by obtain ⟨b18, rfl, rfl, rfl, ha18, hA18⟩ := hP; exact X.callV Tryz.call29 rfl rfl (fun W hS _ => by rw [← hdf]; exact r40_hash hZ (⟨#[102, 97, 99, 116, 111, 114, 32, 115, 105, 103, 110]⟩ : ByteArray) (by decide) (fV f) hff.1 hff.2.1 hff.2.2 W.heap.size b18 4 W (Nat.le_refl _) (flat_at (sp := []) rfl (hS.lt _ (.head _)) (Nat.le_refl 4) (hS.own _ (.head _)))) (fun _ => rfl)) | some v14, some v16, hd, hP => (by obtain ⟨b18, b3, rfl, rfl, rfl, rfl, ha18, hA18, ha3, hA3⟩ := hP; exact X.callV Tryz.call29 rfl rfl (fun W hS _ => by rw [← hdf]; exact r40_hash hZ (⟨#[102, 97, 99, 116, 111, 114, 32, 115, 105, 103, 110]⟩ : ByteArray) (by decide) (fV f) hff.1 hff.2.1 hff.2.2 W.heap.size b18 4 W (Nat.le_refl _) (flat_at (sp := []) rfl (hS.lt _ (.head _)) (Nat.le_refl 4) (hS.own _ (.head _)))) (fun _ => rfl)))) (qk (qn)))))))))))))))))) ?_ ?_
  · refine nc rfl rfl rfl rfl ?_ ?_
    · intro cv L' H' hl hr hP F Q' hk
      obtain ⟨x14, x16, rfl⟩ := len2 hl
      rcases x14 with _ | v14 <;> rcases x16 with _ | v16
      · obtain ⟨rfl, rfl⟩ := hP
        refine bslW Tryz.underlying75 Tryz.sizeOf78 Tryz.zeroValue78 rfl rfl rfl rfl rfl rfl rfl ?_
        intro b18 ha ho
        exact OJ.done (hk _ _ _ ⟨b18, rfl, rfl, rfl, ha.1, ha.2.1⟩)
      · obtain ⟨b3, rfl, rfl, rfl, ha3, hA3⟩ := hP
        refine bslW Tryz.underlying75 Tryz.sizeOf78 Tryz.zeroValue78 rfl rfl rfl rfl rfl rfl rfl ?_
        intro b18 ha ho
        exact OJ.done (hk _ _ _ ⟨b18, b3, rfl, rfl, rfl, rfl, ha.1, ha.2.1, ha3, hA3⟩)
      · exact absurd (show false = true from hr) (by decide)
      · exact absurd (show false = true from hr) (by decide)
    refine nc rfl rfl rfl rfl ?_ ?_
    · intro cv L' H' hl hr hP F Q' hk
      obtain ⟨x14, x16, rfl⟩ := len2 hl
      rcases x14 with _ | v14 <;> rcases x16 with _ | v16
      · obtain ⟨rfl, rfl⟩ := hP
        refine allW Tryz.zeroValue23 rfl rfl ?_
        intro b3 ha ho
        exact OJ.done (hk _ _ _ ⟨b3, rfl, rfl, rfl, ha.1, ha.2.1⟩)
      · exact absurd (show false = true from hr) (by decide)
      · obtain ⟨b18, rfl, rfl, rfl, ha18, hA18⟩ := hP
        refine allW Tryz.zeroValue23 rfl rfl ?_
        intro b3 ha ho
        exact OJ.done (PJ.swp (hk _ _ _ ⟨b18, b3, rfl, rfl, rfl, rfl, ha18, hA18, ha.1, ha.2.1⟩))
      · exact absurd (show false = true from hr) (by decide)
    exact nn
  · intro cv L' H' hl hr hP
    obtain ⟨x14, x16, rfl⟩ := len2 hl
    rcases x14 with _ | v14 <;> rcases x16 with _ | v16
    · exact absurd (show false = true from hr) (by decide)
    · exact absurd (show false = true from hr) (by decide)
    · exact absurd (show false = true from hr) (by decide)
    obtain ⟨b18, b3, rfl, rfl, rfl, rfl, ha18, hA18, ha3, hA3⟩ := hP
    refine stWw (i := 1) rfl Tryz.sizeOf23 rfl rfl rfl rfl rfl rfl ?_
    refine OJ.done ?_
    refine PJ.next ?_
    refine CJ.seq ?_
    refine CJ.region ?_
    refine rv (fun _ h => Op.noConfusion h) rfl rfl (slA0_r (h := 32) Tryz.underlying23 Tryz.sizeOf5 rfl rfl (by omega)) ?_
    refine rv (fun _ h => Op.noConfusion h) rfl rfl (asg_r rfl) ?_
    refine OJ.done ?_
    refine PJ.next ?_
    refine CJ.ret ?_
    exact retG (.inl rfl) Tryz.results27 (RS.t rfl RS.n) (fun W hS => ⟨b3, rfl, hS.base (.tail _ (.head _)) (by first | (simp only [Over, List.set_cons_zero, List.set_cons_succ, List.eraseIdx_cons_zero, List.eraseIdx_cons_succ, and_true]; omega) | (simp [Over] <;> omega)), by omega, by rw [hdf]; exact hS.own (b3, _) (.tail _ (.head _))⟩)

theorem eqD_dig : EqA Tryz.prog 2 23 (repK 32 [.i]) := EqA.array Tryz.underlying23 Tryz.sizeOf5 rfl (EqP.int Tryz.underlying5 Tryz.isAgg5)
theorem guard_dig : Tryz.prog.eqGuardType Tryz.prog.depth 23 = false := by kernel_rfl
def eqD (f g : Nat → Int) : Bool := eqL (dg f).toList (dg g).toList
/-- a link's form -/
def linkOk (l : Lk) : Bool := decide (0 ≤ l.fo) && decide (l.fo < 16) && decide (-1 ≤ l.by_) && decide (l.by_ < 512) && decide (GOk l.pub) && decide (GOk l.ver) && decide (1 ≤ l.exp) && decide (l.exp ≤ 1099511627776) && (decide (l.by_ = -1) || eqD l.par (fun _ => 0))
theorem gchk (a : Int) : decide ((if GOk a then (0 : Int) else 40) = 0) = decide (GOk a) := by by_cases h : GOk a <;> simp [h]
/-- (chartroom/links.link).valid -/
theorem links_valid (l : Lk) (w : World) :
    Calls Tryz.prog 15 #[.agg (lkC l)] w (Ret w (.bool (linkOk l))) := by
  
  refine enter (vs := [_]) Tryz.func15 rfl Tryz.ntmps15 rfl ?_
  refine CJ.seq ?_
  refine CJ.region ?_
  refine boxR rfl rfl rfl ?_
  intro b1 w1 hb1 ha1 ho1 hm1 hz1
  simp only [Above] at ha1
  try simp only [Off, book, List.cons_append, List.nil_append, List.set_cons_zero, List.set_cons_succ, ne_eq] at ho1
  refine rv (fun _ h => Op.noConfusion h) rfl rfl (asg_r rfl) ?_
  refine OJ.done ?_
  refine PJ.next ?_
  refine CJ.seq ?_
  refine CJ.region ?_
  refine rv (fun _ h => Op.noConfusion h) rfl rfl (fld_r Tryz.underlying64 rfl Tryz.sizeOf27 rfl) ?_
  refine rv (fun _ h => Op.noConfusion h) rfl rfl (fld_r Tryz.underlying27 rfl Tryz.sizeOf3 rfl) ?_
  refine rv (fun _ h => Op.noConfusion h) rfl rfl (ldR_r Tryz.isAgg3 rfl (.head _) hb1 hm1 trivial rfl) ?_
  refine rv (fun _ h => Op.noConfusion h) rfl rfl (geq_r rfl rfl) ?_
  refine rv (fun _ h => Op.noConfusion h) rfl rfl (mv_r rfl) ?_
  refine OJ.split (t := 7) rfl (fun hc1 => ?_) (fun hc1 => ?_)
  · try simp only [decide_eq_true_eq, decide_eq_false_iff_not, Bool.not_eq_true', Bool.not_eq_false'] at hc1
    refine rv (fun _ h => Op.noConfusion h) rfl rfl (fld_r Tryz.underlying64 rfl Tryz.sizeOf27 rfl) ?_
    refine rv (fun _ h => Op.noConfusion h) rfl rfl (fld_r Tryz.underlying27 rfl Tryz.sizeOf3 rfl) ?_
    refine rv (fun _ h => Op.noConfusion h) rfl rfl (ldR_r Tryz.isAgg3 rfl (.head _) hb1 hm1 trivial rfl) ?_
    refine rv (fun _ h => Op.noConfusion h) rfl rfl (lss_r rfl rfl) ?_
    refine rv (fun _ h => Op.noConfusion h) rfl rfl (pkT_r rfl rfl) ?_
    refine rv (fun _ h => Op.noConfusion h) rfl rfl (mv_r rfl) ?_
    refine OJ.split (t := 13) rfl (fun hc2 => ?_) (fun hc2 => ?_)
    · try simp only [decide_eq_true_eq, decide_eq_false_iff_not, Bool.not_eq_true', Bool.not_eq_false'] at hc2
      refine rv (fun _ h => Op.noConfusion h) rfl rfl (fld_r Tryz.underlying64 rfl Tryz.sizeOf27 rfl) ?_
      refine rv (fun _ h => Op.noConfusion h) rfl rfl (fld_r Tryz.underlying27 rfl Tryz.sizeOf3 rfl) ?_
      refine rv (fun _ h => Op.noConfusion h) rfl rfl (ldR_r Tryz.isAgg3 rfl (.head _) hb1 hm1 trivial rfl) ?_
      refine rv (fun _ h => Op.noConfusion h) rfl rfl (geq_r rfl rfl) ?_
      refine rv (fun _ h => Op.noConfusion h) rfl rfl (pkT_r rfl rfl) ?_
      refine rv (fun _ h => Op.noConfusion h) rfl rfl (mv_r rfl) ?_
      refine OJ.split (t := 19) rfl (fun hc3 => ?_) (fun hc3 => ?_)
      · try simp only [decide_eq_true_eq, decide_eq_false_iff_not, Bool.not_eq_true', Bool.not_eq_false'] at hc3
        refine rv (fun _ h => Op.noConfusion h) rfl rfl (fld_r Tryz.underlying64 rfl Tryz.sizeOf27 rfl) ?_
        refine rv (fun _ h => Op.noConfusion h) rfl rfl (fld_r Tryz.underlying27 rfl Tryz.sizeOf3 rfl) ?_
        refine rv (fun _ h => Op.noConfusion h) rfl rfl (ldR_r Tryz.isAgg3 rfl (.head _) hb1 hm1 trivial rfl) ?_
        refine rv (fun _ h => Op.noConfusion h) rfl rfl (lss_r rfl rfl) ?_
        refine rv (fun _ h => Op.noConfusion h) rfl rfl (pkT_r rfl rfl) ?_
        refine rv (fun _ h => Op.noConfusion h) rfl rfl (mv_r rfl) ?_
        refine OJ.split (t := 25) rfl (fun hc4 => ?_) (fun hc4 => ?_)
        · try simp only [decide_eq_true_eq, decide_eq_false_iff_not, Bool.not_eq_true', Bool.not_eq_false'] at hc4
          refine rv (fun _ h => Op.noConfusion h) rfl rfl (fld_r Tryz.underlying64 rfl Tryz.sizeOf27 rfl) ?_
          refine rv (fun _ h => Op.noConfusion h) rfl rfl (fld_r Tryz.underlying27 rfl Tryz.sizeOf3 rfl) ?_
          refine rv (fun _ h => Op.noConfusion h) rfl rfl (ldR_r Tryz.isAgg3 rfl (.head _) hb1 hm1 trivial rfl) ?_
          refine call Tryz.call37 rfl rfl rfl (fun W hS => group_Check _ W) ?_
          refine rv (fun _ h => Op.noConfusion h) rfl rfl (RV.re (v' := .bool (decide (GOk l.pub))) (eqlI_r rfl rfl) (congrArg Value.bool (gchk _))) ?_
          refine rv (fun _ h => Op.noConfusion h) rfl rfl (pkT_r rfl rfl) ?_
          refine rv (fun _ h => Op.noConfusion h) rfl rfl (mv_r rfl) ?_
          refine OJ.split (t := 32) rfl (fun hc5 => ?_) (fun hc5 => ?_)
          · try simp only [decide_eq_true_eq, decide_eq_false_iff_not, Bool.not_eq_true', Bool.not_eq_false'] at hc5
            refine rv (fun _ h => Op.noConfusion h) rfl rfl (fld_r Tryz.underlying64 rfl Tryz.sizeOf27 rfl) ?_
            refine rv (fun _ h => Op.noConfusion h) rfl rfl (fld_r Tryz.underlying27 rfl Tryz.sizeOf3 rfl) ?_
            refine rv (fun _ h => Op.noConfusion h) rfl rfl (ldR_r Tryz.isAgg3 rfl (.head _) hb1 hm1 trivial rfl) ?_
            refine call Tryz.call37 rfl rfl rfl (fun W hS => group_Check _ W) ?_
            refine rv (fun _ h => Op.noConfusion h) rfl rfl (RV.re (v' := .bool (decide (GOk l.ver))) (eqlI_r rfl rfl) (congrArg Value.bool (gchk _))) ?_
            refine rv (fun _ h => Op.noConfusion h) rfl rfl (pkT_r rfl rfl) ?_
            refine rv (fun _ h => Op.noConfusion h) rfl rfl (mv_r rfl) ?_
            refine OJ.split (t := 39) rfl (fun hc6 => ?_) (fun hc6 => ?_)
            · try simp only [decide_eq_true_eq, decide_eq_false_iff_not, Bool.not_eq_true', Bool.not_eq_false'] at hc6
              refine rv (fun _ h => Op.noConfusion h) rfl rfl (fld_r Tryz.underlying64 rfl Tryz.sizeOf27 rfl) ?_
              refine rv (fun _ h => Op.noConfusion h) rfl rfl (fld_r Tryz.underlying27 rfl Tryz.sizeOf3 rfl) ?_
              refine rv (fun _ h => Op.noConfusion h) rfl rfl (ldR_r Tryz.isAgg3 rfl (.head _) hb1 hm1 trivial rfl) ?_
              refine rv (fun _ h => Op.noConfusion h) rfl rfl (geq_r rfl rfl) ?_
              refine rv (fun _ h => Op.noConfusion h) rfl rfl (pkT_r rfl rfl) ?_
              refine rv (fun _ h => Op.noConfusion h) rfl rfl (mv_r rfl) ?_
              refine OJ.split (t := 45) rfl (fun hc7 => ?_) (fun hc7 => ?_)
              · try simp only [decide_eq_true_eq, decide_eq_false_iff_not, Bool.not_eq_true', Bool.not_eq_false'] at hc7
                refine rv (fun _ h => Op.noConfusion h) rfl rfl (fld_r Tryz.underlying64 rfl Tryz.sizeOf27 rfl) ?_
                refine rv (fun _ h => Op.noConfusion h) rfl rfl (fld_r Tryz.underlying27 rfl Tryz.sizeOf3 rfl) ?_
                refine rv (fun _ h => Op.noConfusion h) rfl rfl (ldR_r Tryz.isAgg3 rfl (.head _) hb1 hm1 trivial rfl) ?_
                refine rv (fun _ h => Op.noConfusion h) rfl rfl (leq_r rfl rfl) ?_
                refine rv (fun _ h => Op.noConfusion h) rfl rfl (pkT_r rfl rfl) ?_
                refine rv (fun _ h => Op.noConfusion h) rfl rfl (mv_r rfl) ?_
                refine OJ.split (t := 51) rfl (fun hc8 => ?_) (fun hc8 => ?_)
                · try simp only [decide_eq_true_eq, decide_eq_false_iff_not, Bool.not_eq_true', Bool.not_eq_false'] at hc8
                  refine rv (fun _ h => Op.noConfusion h) rfl rfl (fld_r Tryz.underlying64 rfl Tryz.sizeOf27 rfl) ?_
                  refine rv (fun _ h => Op.noConfusion h) rfl rfl (fld_r Tryz.underlying27 rfl Tryz.sizeOf3 rfl) ?_
                  refine rv (fun _ h => Op.noConfusion h) rfl rfl (ldR_r Tryz.isAgg3 rfl (.head _) hb1 hm1 trivial rfl) ?_
                  refine rv (fun _ h => Op.noConfusion h) rfl rfl (eqlI_r rfl rfl) ?_
                  refine rv (fun _ h => Op.noConfusion h) rfl rfl (mv_r rfl) ?_
                  refine OJ.split (t := 56) rfl (fun hc9 => ?_) (fun hc9 => ?_)
                  · try simp only [decide_eq_true_eq, decide_eq_false_iff_not, Bool.not_eq_true', Bool.not_eq_false'] at hc9
                    refine OJ.off rfl (by decide) rfl ?_
                    refine OJ.off rfl (by decide) rfl ?_
                    refine OJ.off rfl (by decide) rfl ?_
                    refine OJ.off rfl (by decide) rfl ?_
                    refine OJ.off rfl (by decide) rfl ?_
                    refine rv (fun _ h => Op.noConfusion h) rfl rfl (pkT_r rfl rfl) ?_
                    refine rv (fun _ h => Op.noConfusion h) rfl rfl (pkT_r rfl rfl) ?_
                    refine rv (fun _ h => Op.noConfusion h) rfl rfl (asg_r rfl) ?_
                    refine OJ.done ?_
                    refine PJ.next ?_
                    refine CJ.ret ?_
                    refine retV Tryz.results15 rfl (.tail _ (.head _)) ?_
                    refine congrArg Value.bool ?_
                    unfold linkOk
                    simp [*]
                  · try simp only [decide_eq_true_eq, decide_eq_false_iff_not, Bool.not_eq_true', Bool.not_eq_false'] at hc9
                    refine rv (fun _ h => Op.noConfusion h) rfl rfl (fld_r Tryz.underlying64 rfl Tryz.sizeOf27 rfl) ?_
                    refine rv (fun _ h => Op.noConfusion h) rfl rfl (fld_r Tryz.underlying27 rfl Tryz.sizeOf23 rfl) ?_
                    refine rv (fun _ h => Op.noConfusion h) rfl rfl (ldRA_r Tryz.isAgg23 Tryz.sizeOf23 rfl (.head _) hb1 hm1 trivial (Nat.le_of_ble_eq_true rfl)) ?_
                    refine rv (fun _ h => Op.noConfusion h) rfl rfl (bldA_r Tryz.underlying23 Tryz.zeroValue23 Tryz.sizeOf5 rfl rfl) ?_
                    refine rv (fun _ h => Op.noConfusion h) rfl rfl (RV.re (v' := .bool (eqD l.par (fun _ => 0))) (eqlA_r eqD_dig (by decide) guard_dig rfl rfl rfl) rfl) ?_
                    refine rv (fun _ h => Op.noConfusion h) rfl rfl (pkF_r rfl rfl) ?_
                    refine rv (fun _ h => Op.noConfusion h) rfl rfl (pkT_r rfl rfl) ?_
                    refine rv (fun _ h => Op.noConfusion h) rfl rfl (asg_r rfl) ?_
                    refine OJ.done ?_
                    refine PJ.next ?_
                    refine CJ.ret ?_
                    refine retV Tryz.results15 rfl (.tail _ (.head _)) ?_
                    refine congrArg Value.bool ?_
                    unfold linkOk
                    simp [*]
                · try simp only [decide_eq_true_eq, decide_eq_false_iff_not, Bool.not_eq_true', Bool.not_eq_false'] at hc8
                  refine OJ.off rfl (by decide) rfl ?_
                  refine OJ.off rfl (by decide) rfl ?_
                  refine OJ.off rfl (by decide) rfl ?_
                  refine OJ.off rfl (by decide) rfl ?_
                  refine OJ.off rfl (by decide) rfl ?_
                  refine OJ.off rfl (by decide) rfl ?_
                  refine OJ.off rfl (by decide) rfl ?_
                  refine OJ.off rfl (by decide) rfl ?_
                  refine OJ.off rfl (by decide) rfl ?_
                  refine OJ.off rfl (by decide) rfl ?_
                  refine OJ.off rfl (by decide) rfl ?_
                  refine rv (fun _ h => Op.noConfusion h) rfl rfl (pkF_r rfl rfl) ?_
                  refine rv (fun _ h => Op.noConfusion h) rfl rfl (asg_r rfl) ?_
                  refine OJ.done ?_
                  refine PJ.next ?_
                  refine CJ.ret ?_
                  refine retV Tryz.results15 rfl (.tail _ (.head _)) ?_
                  refine congrArg Value.bool ?_
                  unfold linkOk
                  simp [*]
              · try simp only [decide_eq_true_eq, decide_eq_false_iff_not, Bool.not_eq_true', Bool.not_eq_false'] at hc7
                refine OJ.off rfl (by decide) rfl ?_
                refine OJ.off rfl (by decide) rfl ?_
                refine OJ.off rfl (by decide) rfl ?_
                refine OJ.off rfl (by decide) rfl ?_
                refine rv (fun _ h => Op.noConfusion h) rfl rfl (pkF_r rfl rfl) ?_
                refine rv (fun _ h => Op.noConfusion h) rfl rfl (mv_r rfl) ?_
                refine OJ.off rfl (by decide) rfl ?_
                refine OJ.off rfl (by decide) rfl ?_
                refine OJ.off rfl (by decide) rfl ?_
                refine OJ.off rfl (by decide) rfl ?_
                refine OJ.off rfl (by decide) rfl ?_
                refine OJ.off rfl (by decide) rfl ?_
                refine OJ.off rfl (by decide) rfl ?_
                refine OJ.off rfl (by decide) rfl ?_
                refine OJ.off rfl (by decide) rfl ?_
                refine OJ.off rfl (by decide) rfl ?_
                refine OJ.off rfl (by decide) rfl ?_
                refine rv (fun _ h => Op.noConfusion h) rfl rfl (pkF_r rfl rfl) ?_
                refine rv (fun _ h => Op.noConfusion h) rfl rfl (asg_r rfl) ?_
                refine OJ.done ?_
                refine PJ.next ?_
                refine CJ.ret ?_
                refine retV Tryz.results15 rfl (.tail _ (.head _)) ?_
                refine congrArg Value.bool ?_
                unfold linkOk
                simp [*]
            · try simp only [decide_eq_true_eq, decide_eq_false_iff_not, Bool.not_eq_true', Bool.not_eq_false'] at hc6
              refine OJ.off rfl (by decide) rfl ?_
              refine OJ.off rfl (by decide) rfl ?_
              refine OJ.off rfl (by decide) rfl ?_
              refine OJ.off rfl (by decide) rfl ?_
              refine rv (fun _ h => Op.noConfusion h) rfl rfl (pkF_r rfl rfl) ?_
              refine rv (fun _ h => Op.noConfusion h) rfl rfl (mv_r rfl) ?_
              refine OJ.off rfl (by decide) rfl ?_
              refine OJ.off rfl (by decide) rfl ?_
              refine OJ.off rfl (by decide) rfl ?_
              refine OJ.off rfl (by decide) rfl ?_
              refine rv (fun _ h => Op.noConfusion h) rfl rfl (pkF_r rfl rfl) ?_
              refine rv (fun _ h => Op.noConfusion h) rfl rfl (mv_r rfl) ?_
              refine OJ.off rfl (by decide) rfl ?_
              refine OJ.off rfl (by decide) rfl ?_
              refine OJ.off rfl (by decide) rfl ?_
              refine OJ.off rfl (by decide) rfl ?_
              refine OJ.off rfl (by decide) rfl ?_
              refine OJ.off rfl (by decide) rfl ?_
              refine OJ.off rfl (by decide) rfl ?_
              refine OJ.off rfl (by decide) rfl ?_
              refine OJ.off rfl (by decide) rfl ?_
              refine OJ.off rfl (by decide) rfl ?_
              refine OJ.off rfl (by decide) rfl ?_
              refine rv (fun _ h => Op.noConfusion h) rfl rfl (pkF_r rfl rfl) ?_
              refine rv (fun _ h => Op.noConfusion h) rfl rfl (asg_r rfl) ?_
              refine OJ.done ?_
              refine PJ.next ?_
              refine CJ.ret ?_
              refine retV Tryz.results15 rfl (.tail _ (.head _)) ?_
              refine congrArg Value.bool ?_
              unfold linkOk
              simp [*]
          · try simp only [decide_eq_true_eq, decide_eq_false_iff_not, Bool.not_eq_true', Bool.not_eq_false'] at hc5
            refine OJ.off rfl (by decide) rfl ?_
            refine OJ.off rfl (by decide) rfl ?_
            refine OJ.off rfl (by decide) rfl ?_
            refine OJ.off rfl (by decide) rfl ?_
            refine OJ.off rfl (by decide) rfl ?_
            refine rv (fun _ h => Op.noConfusion h) rfl rfl (pkF_r rfl rfl) ?_
            refine rv (fun _ h => Op.noConfusion h) rfl rfl (mv_r rfl) ?_
            refine OJ.off rfl (by decide) rfl ?_
            refine OJ.off rfl (by decide) rfl ?_
            refine OJ.off rfl (by decide) rfl ?_
            refine OJ.off rfl (by decide) rfl ?_
            refine rv (fun _ h => Op.noConfusion h) rfl rfl (pkF_r rfl rfl) ?_
            refine rv (fun _ h => Op.noConfusion h) rfl rfl (mv_r rfl) ?_
            refine OJ.off rfl (by decide) rfl ?_
            refine OJ.off rfl (by decide) rfl ?_
            refine OJ.off rfl (by decide) rfl ?_
            refine OJ.off rfl (by decide) rfl ?_
            refine rv (fun _ h => Op.noConfusion h) rfl rfl (pkF_r rfl rfl) ?_
            refine rv (fun _ h => Op.noConfusion h) rfl rfl (mv_r rfl) ?_
            refine OJ.off rfl (by decide) rfl ?_
            refine OJ.off rfl (by decide) rfl ?_
            refine OJ.off rfl (by decide) rfl ?_
            refine OJ.off rfl (by decide) rfl ?_
            refine OJ.off rfl (by decide) rfl ?_
            refine OJ.off rfl (by decide) rfl ?_
            refine OJ.off rfl (by decide) rfl ?_
            refine OJ.off rfl (by decide) rfl ?_
            refine OJ.off rfl (by decide) rfl ?_
            refine OJ.off rfl (by decide) rfl ?_
            refine OJ.off rfl (by decide) rfl ?_
            refine rv (fun _ h => Op.noConfusion h) rfl rfl (pkF_r rfl rfl) ?_
            refine rv (fun _ h => Op.noConfusion h) rfl rfl (asg_r rfl) ?_
            refine OJ.done ?_
            refine PJ.next ?_
            refine CJ.ret ?_
            refine retV Tryz.results15 rfl (.tail _ (.head _)) ?_
            refine congrArg Value.bool ?_
            unfold linkOk
            simp [*]
        · try simp only [decide_eq_true_eq, decide_eq_false_iff_not, Bool.not_eq_true', Bool.not_eq_false'] at hc4
          refine OJ.off rfl (by decide) rfl ?_
          refine OJ.off rfl (by decide) rfl ?_
          refine OJ.off rfl (by decide) rfl ?_
          refine OJ.off rfl (by decide) rfl ?_
          refine OJ.off rfl (by decide) rfl ?_
          refine rv (fun _ h => Op.noConfusion h) rfl rfl (pkF_r rfl rfl) ?_
          refine rv (fun _ h => Op.noConfusion h) rfl rfl (mv_r rfl) ?_
          refine OJ.off rfl (by decide) rfl ?_
          refine OJ.off rfl (by decide) rfl ?_
          refine OJ.off rfl (by decide) rfl ?_
          refine OJ.off rfl (by decide) rfl ?_
          refine OJ.off rfl (by decide) rfl ?_
          refine rv (fun _ h => Op.noConfusion h) rfl rfl (pkF_r rfl rfl) ?_
          refine rv (fun _ h => Op.noConfusion h) rfl rfl (mv_r rfl) ?_
          refine OJ.off rfl (by decide) rfl ?_
          refine OJ.off rfl (by decide) rfl ?_
          refine OJ.off rfl (by decide) rfl ?_
          refine OJ.off rfl (by decide) rfl ?_
          refine rv (fun _ h => Op.noConfusion h) rfl rfl (pkF_r rfl rfl) ?_
          refine rv (fun _ h => Op.noConfusion h) rfl rfl (mv_r rfl) ?_
          refine OJ.off rfl (by decide) rfl ?_
          refine OJ.off rfl (by decide) rfl ?_
          refine OJ.off rfl (by decide) rfl ?_
          refine OJ.off rfl (by decide) rfl ?_
          refine rv (fun _ h => Op.noConfusion h) rfl rfl (pkF_r rfl rfl) ?_
          refine rv (fun _ h => Op.noConfusion h) rfl rfl (mv_r rfl) ?_
          refine OJ.off rfl (by decide) rfl ?_
          refine OJ.off rfl (by decide) rfl ?_
          refine OJ.off rfl (by decide) rfl ?_
          refine OJ.off rfl (by decide) rfl ?_
          refine OJ.off rfl (by decide) rfl ?_
          refine OJ.off rfl (by decide) rfl ?_
          refine OJ.off rfl (by decide) rfl ?_
          refine OJ.off rfl (by decide) rfl ?_
          refine OJ.off rfl (by decide) rfl ?_
          refine OJ.off rfl (by decide) rfl ?_
          refine OJ.off rfl (by decide) rfl ?_
          refine rv (fun _ h => Op.noConfusion h) rfl rfl (pkF_r rfl rfl) ?_
          refine rv (fun _ h => Op.noConfusion h) rfl rfl (asg_r rfl) ?_
          refine OJ.done ?_
          refine PJ.next ?_
          refine CJ.ret ?_
          refine retV Tryz.results15 rfl (.tail _ (.head _)) ?_
          refine congrArg Value.bool ?_
          unfold linkOk
          simp [*]
      · try simp only [decide_eq_true_eq, decide_eq_false_iff_not, Bool.not_eq_true', Bool.not_eq_false'] at hc3
        refine OJ.off rfl (by decide) rfl ?_
        refine OJ.off rfl (by decide) rfl ?_
        refine OJ.off rfl (by decide) rfl ?_
        refine OJ.off rfl (by decide) rfl ?_
        refine rv (fun _ h => Op.noConfusion h) rfl rfl (pkF_r rfl rfl) ?_
        refine rv (fun _ h => Op.noConfusion h) rfl rfl (mv_r rfl) ?_
        refine OJ.off rfl (by decide) rfl ?_
        refine OJ.off rfl (by decide) rfl ?_
        refine OJ.off rfl (by decide) rfl ?_
        refine OJ.off rfl (by decide) rfl ?_
        refine OJ.off rfl (by decide) rfl ?_
        refine rv (fun _ h => Op.noConfusion h) rfl rfl (pkF_r rfl rfl) ?_
        refine rv (fun _ h => Op.noConfusion h) rfl rfl (mv_r rfl) ?_
        refine OJ.off rfl (by decide) rfl ?_
        refine OJ.off rfl (by decide) rfl ?_
        refine OJ.off rfl (by decide) rfl ?_
        refine OJ.off rfl (by decide) rfl ?_
        refine OJ.off rfl (by decide) rfl ?_
        refine rv (fun _ h => Op.noConfusion h) rfl rfl (pkF_r rfl rfl) ?_
        refine rv (fun _ h => Op.noConfusion h) rfl rfl (mv_r rfl) ?_
        refine OJ.off rfl (by decide) rfl ?_
        refine OJ.off rfl (by decide) rfl ?_
        refine OJ.off rfl (by decide) rfl ?_
        refine OJ.off rfl (by decide) rfl ?_
        refine rv (fun _ h => Op.noConfusion h) rfl rfl (pkF_r rfl rfl) ?_
        refine rv (fun _ h => Op.noConfusion h) rfl rfl (mv_r rfl) ?_
        refine OJ.off rfl (by decide) rfl ?_
        refine OJ.off rfl (by decide) rfl ?_
        refine OJ.off rfl (by decide) rfl ?_
        refine OJ.off rfl (by decide) rfl ?_
        refine rv (fun _ h => Op.noConfusion h) rfl rfl (pkF_r rfl rfl) ?_
        refine rv (fun _ h => Op.noConfusion h) rfl rfl (mv_r rfl) ?_
        refine OJ.off rfl (by decide) rfl ?_
        refine OJ.off rfl (by decide) rfl ?_
        refine OJ.off rfl (by decide) rfl ?_
        refine OJ.off rfl (by decide) rfl ?_
        refine OJ.off rfl (by decide) rfl ?_
        refine OJ.off rfl (by decide) rfl ?_
        refine OJ.off rfl (by decide) rfl ?_
        refine OJ.off rfl (by decide) rfl ?_
        refine OJ.off rfl (by decide) rfl ?_
        refine OJ.off rfl (by decide) rfl ?_
        refine OJ.off rfl (by decide) rfl ?_
        refine rv (fun _ h => Op.noConfusion h) rfl rfl (pkF_r rfl rfl) ?_
        refine rv (fun _ h => Op.noConfusion h) rfl rfl (asg_r rfl) ?_
        refine OJ.done ?_
        refine PJ.next ?_
        refine CJ.ret ?_
        refine retV Tryz.results15 rfl (.tail _ (.head _)) ?_
        refine congrArg Value.bool ?_
        unfold linkOk
        simp [*]
    · try simp only [decide_eq_true_eq, decide_eq_false_iff_not, Bool.not_eq_true', Bool.not_eq_false'] at hc2
      refine OJ.off rfl (by decide) rfl ?_
      refine OJ.off rfl (by decide) rfl ?_
      refine OJ.off rfl (by decide) rfl ?_
      refine OJ.off rfl (by decide) rfl ?_
      refine rv (fun _ h => Op.noConfusion h) rfl rfl (pkF_r rfl rfl) ?_
      refine rv (fun _ h => Op.noConfusion h) rfl rfl (mv_r rfl) ?_
      refine OJ.off rfl (by decide) rfl ?_
      refine OJ.off rfl (by decide) rfl ?_
      refine OJ.off rfl (by decide) rfl ?_
      refine OJ.off rfl (by decide) rfl ?_
      refine rv (fun _ h => Op.noConfusion h) rfl rfl (pkF_r rfl rfl) ?_
      refine rv (fun _ h => Op.noConfusion h) rfl rfl (mv_r rfl) ?_
      refine OJ.off rfl (by decide) rfl ?_
      refine OJ.off rfl (by decide) rfl ?_
      refine OJ.off rfl (by decide) rfl ?_
      refine OJ.off rfl (by decide) rfl ?_
      refine OJ.off rfl (by decide) rfl ?_
      refine rv (fun _ h => Op.noConfusion h) rfl rfl (pkF_r rfl rfl) ?_
      refine rv (fun _ h => Op.noConfusion h) rfl rfl (mv_r rfl) ?_
      refine OJ.off rfl (by decide) rfl ?_
      refine OJ.off rfl (by decide) rfl ?_
      refine OJ.off rfl (by decide) rfl ?_
      refine OJ.off rfl (by decide) rfl ?_
      refine OJ.off rfl (by decide) rfl ?_
      refine rv (fun _ h => Op.noConfusion h) rfl rfl (pkF_r rfl rfl) ?_
      refine rv (fun _ h => Op.noConfusion h) rfl rfl (mv_r rfl) ?_
      refine OJ.off rfl (by decide) rfl ?_
      refine OJ.off rfl (by decide) rfl ?_
      refine OJ.off rfl (by decide) rfl ?_
      refine OJ.off rfl (by decide) rfl ?_
      refine rv (fun _ h => Op.noConfusion h) rfl rfl (pkF_r rfl rfl) ?_
      refine rv (fun _ h => Op.noConfusion h) rfl rfl (mv_r rfl) ?_
      refine OJ.off rfl (by decide) rfl ?_
      refine OJ.off rfl (by decide) rfl ?_
      refine OJ.off rfl (by decide) rfl ?_
      refine OJ.off rfl (by decide) rfl ?_
      refine rv (fun _ h => Op.noConfusion h) rfl rfl (pkF_r rfl rfl) ?_
      refine rv (fun _ h => Op.noConfusion h) rfl rfl (mv_r rfl) ?_
      refine OJ.off rfl (by decide) rfl ?_
      refine OJ.off rfl (by decide) rfl ?_
      refine OJ.off rfl (by decide) rfl ?_
      refine OJ.off rfl (by decide) rfl ?_
      refine OJ.off rfl (by decide) rfl ?_
      refine OJ.off rfl (by decide) rfl ?_
      refine OJ.off rfl (by decide) rfl ?_
      refine OJ.off rfl (by decide) rfl ?_
      refine OJ.off rfl (by decide) rfl ?_
      refine OJ.off rfl (by decide) rfl ?_
      refine OJ.off rfl (by decide) rfl ?_
      refine rv (fun _ h => Op.noConfusion h) rfl rfl (pkF_r rfl rfl) ?_
      refine rv (fun _ h => Op.noConfusion h) rfl rfl (asg_r rfl) ?_
      refine OJ.done ?_
      refine PJ.next ?_
      refine CJ.ret ?_
      refine retV Tryz.results15 rfl (.tail _ (.head _)) ?_
      refine congrArg Value.bool ?_
      unfold linkOk
      simp [*]
  · try simp only [decide_eq_true_eq, decide_eq_false_iff_not, Bool.not_eq_true', Bool.not_eq_false'] at hc1
    refine OJ.off rfl (by decide) rfl ?_
    refine OJ.off rfl (by decide) rfl ?_
    refine OJ.off rfl (by decide) rfl ?_
    refine OJ.off rfl (by decide) rfl ?_
    refine rv (fun _ h => Op.noConfusion h) rfl rfl (pkF_r rfl rfl) ?_
    refine rv (fun _ h => Op.noConfusion h) rfl rfl (mv_r rfl) ?_
    refine OJ.off rfl (by decide) rfl ?_
    refine OJ.off rfl (by decide) rfl ?_
    refine OJ.off rfl (by decide) rfl ?_
    refine OJ.off rfl (by decide) rfl ?_
    refine rv (fun _ h => Op.noConfusion h) rfl rfl (pkF_r rfl rfl) ?_
    refine rv (fun _ h => Op.noConfusion h) rfl rfl (mv_r rfl) ?_
    refine OJ.off rfl (by decide) rfl ?_
    refine OJ.off rfl (by decide) rfl ?_
    refine OJ.off rfl (by decide) rfl ?_
    refine OJ.off rfl (by decide) rfl ?_
    refine rv (fun _ h => Op.noConfusion h) rfl rfl (pkF_r rfl rfl) ?_
    refine rv (fun _ h => Op.noConfusion h) rfl rfl (mv_r rfl) ?_
    refine OJ.off rfl (by decide) rfl ?_
    refine OJ.off rfl (by decide) rfl ?_
    refine OJ.off rfl (by decide) rfl ?_
    refine OJ.off rfl (by decide) rfl ?_
    refine OJ.off rfl (by decide) rfl ?_
    refine rv (fun _ h => Op.noConfusion h) rfl rfl (pkF_r rfl rfl) ?_
    refine rv (fun _ h => Op.noConfusion h) rfl rfl (mv_r rfl) ?_
    refine OJ.off rfl (by decide) rfl ?_
    refine OJ.off rfl (by decide) rfl ?_
    refine OJ.off rfl (by decide) rfl ?_
    refine OJ.off rfl (by decide) rfl ?_
    refine OJ.off rfl (by decide) rfl ?_
    refine rv (fun _ h => Op.noConfusion h) rfl rfl (pkF_r rfl rfl) ?_
    refine rv (fun _ h => Op.noConfusion h) rfl rfl (mv_r rfl) ?_
    refine OJ.off rfl (by decide) rfl ?_
    refine OJ.off rfl (by decide) rfl ?_
    refine OJ.off rfl (by decide) rfl ?_
    refine OJ.off rfl (by decide) rfl ?_
    refine rv (fun _ h => Op.noConfusion h) rfl rfl (pkF_r rfl rfl) ?_
    refine rv (fun _ h => Op.noConfusion h) rfl rfl (mv_r rfl) ?_
    refine OJ.off rfl (by decide) rfl ?_
    refine OJ.off rfl (by decide) rfl ?_
    refine OJ.off rfl (by decide) rfl ?_
    refine OJ.off rfl (by decide) rfl ?_
    refine rv (fun _ h => Op.noConfusion h) rfl rfl (pkF_r rfl rfl) ?_
    refine rv (fun _ h => Op.noConfusion h) rfl rfl (mv_r rfl) ?_
    refine OJ.off rfl (by decide) rfl ?_
    refine OJ.off rfl (by decide) rfl ?_
    refine OJ.off rfl (by decide) rfl ?_
    refine OJ.off rfl (by decide) rfl ?_
    refine OJ.off rfl (by decide) rfl ?_
    refine OJ.off rfl (by decide) rfl ?_
    refine OJ.off rfl (by decide) rfl ?_
    refine OJ.off rfl (by decide) rfl ?_
    refine OJ.off rfl (by decide) rfl ?_
    refine OJ.off rfl (by decide) rfl ?_
    refine OJ.off rfl (by decide) rfl ?_
    refine rv (fun _ h => Op.noConfusion h) rfl rfl (pkF_r rfl rfl) ?_
    refine rv (fun _ h => Op.noConfusion h) rfl rfl (asg_r rfl) ?_
    refine OJ.done ?_
    refine PJ.next ?_
    refine CJ.ret ?_
    refine retV Tryz.results15 rfl (.tail _ (.head _)) ?_
    refine congrArg Value.bool ?_
    unfold linkOk
    simp [*]

/-- chartroom/chartroomref40.Formed -/
theorem r40_Formed (l : Lk) (w : World) :
    Calls Tryz.prog 18 #[.agg (lkC l)] w (Ret w (.bool (linkOk l))) := by
  
  refine enter (vs := [_]) Tryz.func18 rfl Tryz.ntmps18 rfl ?_
  refine CJ.seq ?_
  refine CJ.region ?_
  refine boxR rfl rfl rfl ?_
  intro b1 w1 hb1 ha1 ho1 hm1 hz1
  simp only [Above] at ha1
  try simp only [Off, book, List.cons_append, List.nil_append, List.set_cons_zero, List.set_cons_succ, ne_eq] at ho1
  refine rv (fun _ h => Op.noConfusion h) rfl rfl (asg_r rfl) ?_
  refine OJ.done ?_
  refine PJ.next ?_
  refine CJ.seq ?_
  refine CJ.region ?_
  refine rv (fun _ h => Op.noConfusion h) rfl rfl (fld_r Tryz.underlying27 rfl Tryz.sizeOf3 rfl) ?_
  refine rv (fun _ h => Op.noConfusion h) rfl rfl (ldR_r Tryz.isAgg3 rfl (.head _) hb1 hm1 trivial rfl) ?_
  refine rv (fun _ h => Op.noConfusion h) rfl rfl (geq_r rfl rfl) ?_
  refine rv (fun _ h => Op.noConfusion h) rfl rfl (mv_r rfl) ?_
  refine OJ.split (t := 6) rfl (fun hc1 => ?_) (fun hc1 => ?_)
  · try simp only [decide_eq_true_eq, decide_eq_false_iff_not, Bool.not_eq_true', Bool.not_eq_false'] at hc1
    refine rv (fun _ h => Op.noConfusion h) rfl rfl (fld_r Tryz.underlying27 rfl Tryz.sizeOf3 rfl) ?_
    refine rv (fun _ h => Op.noConfusion h) rfl rfl (ldR_r Tryz.isAgg3 rfl (.head _) hb1 hm1 trivial rfl) ?_
    refine rv (fun _ h => Op.noConfusion h) rfl rfl (lss_r rfl rfl) ?_
    refine rv (fun _ h => Op.noConfusion h) rfl rfl (pkT_r rfl rfl) ?_
    refine rv (fun _ h => Op.noConfusion h) rfl rfl (mv_r rfl) ?_
    refine OJ.split (t := 11) rfl (fun hc2 => ?_) (fun hc2 => ?_)
    · try simp only [decide_eq_true_eq, decide_eq_false_iff_not, Bool.not_eq_true', Bool.not_eq_false'] at hc2
      refine rv (fun _ h => Op.noConfusion h) rfl rfl (fld_r Tryz.underlying27 rfl Tryz.sizeOf3 rfl) ?_
      refine rv (fun _ h => Op.noConfusion h) rfl rfl (ldR_r Tryz.isAgg3 rfl (.head _) hb1 hm1 trivial rfl) ?_
      refine rv (fun _ h => Op.noConfusion h) rfl rfl (geq_r rfl rfl) ?_
      refine rv (fun _ h => Op.noConfusion h) rfl rfl (pkT_r rfl rfl) ?_
      refine rv (fun _ h => Op.noConfusion h) rfl rfl (mv_r rfl) ?_
      refine OJ.split (t := 16) rfl (fun hc3 => ?_) (fun hc3 => ?_)
      · try simp only [decide_eq_true_eq, decide_eq_false_iff_not, Bool.not_eq_true', Bool.not_eq_false'] at hc3
        refine rv (fun _ h => Op.noConfusion h) rfl rfl (fld_r Tryz.underlying27 rfl Tryz.sizeOf3 rfl) ?_
        refine rv (fun _ h => Op.noConfusion h) rfl rfl (ldR_r Tryz.isAgg3 rfl (.head _) hb1 hm1 trivial rfl) ?_
        refine rv (fun _ h => Op.noConfusion h) rfl rfl (lss_r rfl rfl) ?_
        refine rv (fun _ h => Op.noConfusion h) rfl rfl (pkT_r rfl rfl) ?_
        refine rv (fun _ h => Op.noConfusion h) rfl rfl (mv_r rfl) ?_
        refine OJ.split (t := 21) rfl (fun hc4 => ?_) (fun hc4 => ?_)
        · try simp only [decide_eq_true_eq, decide_eq_false_iff_not, Bool.not_eq_true', Bool.not_eq_false'] at hc4
          refine rv (fun _ h => Op.noConfusion h) rfl rfl (fld_r Tryz.underlying27 rfl Tryz.sizeOf3 rfl) ?_
          refine rv (fun _ h => Op.noConfusion h) rfl rfl (ldR_r Tryz.isAgg3 rfl (.head _) hb1 hm1 trivial rfl) ?_
          refine call Tryz.call44 rfl rfl rfl (fun W hS => r04_Check _ W) ?_
          refine rv (fun _ h => Op.noConfusion h) rfl rfl (RV.re (v' := .bool (decide (GOk l.pub))) (eqlI_r rfl rfl) (congrArg Value.bool (gchk _))) ?_
          refine rv (fun _ h => Op.noConfusion h) rfl rfl (pkT_r rfl rfl) ?_
          refine rv (fun _ h => Op.noConfusion h) rfl rfl (mv_r rfl) ?_
          refine OJ.split (t := 27) rfl (fun hc5 => ?_) (fun hc5 => ?_)
          · try simp only [decide_eq_true_eq, decide_eq_false_iff_not, Bool.not_eq_true', Bool.not_eq_false'] at hc5
            refine rv (fun _ h => Op.noConfusion h) rfl rfl (fld_r Tryz.underlying27 rfl Tryz.sizeOf3 rfl) ?_
            refine rv (fun _ h => Op.noConfusion h) rfl rfl (ldR_r Tryz.isAgg3 rfl (.head _) hb1 hm1 trivial rfl) ?_
            refine call Tryz.call44 rfl rfl rfl (fun W hS => r04_Check _ W) ?_
            refine rv (fun _ h => Op.noConfusion h) rfl rfl (RV.re (v' := .bool (decide (GOk l.ver))) (eqlI_r rfl rfl) (congrArg Value.bool (gchk _))) ?_
            refine rv (fun _ h => Op.noConfusion h) rfl rfl (pkT_r rfl rfl) ?_
            refine rv (fun _ h => Op.noConfusion h) rfl rfl (mv_r rfl) ?_
            refine OJ.split (t := 33) rfl (fun hc6 => ?_) (fun hc6 => ?_)
            · try simp only [decide_eq_true_eq, decide_eq_false_iff_not, Bool.not_eq_true', Bool.not_eq_false'] at hc6
              refine rv (fun _ h => Op.noConfusion h) rfl rfl (fld_r Tryz.underlying27 rfl Tryz.sizeOf3 rfl) ?_
              refine rv (fun _ h => Op.noConfusion h) rfl rfl (ldR_r Tryz.isAgg3 rfl (.head _) hb1 hm1 trivial rfl) ?_
              refine rv (fun _ h => Op.noConfusion h) rfl rfl (geq_r rfl rfl) ?_
              refine rv (fun _ h => Op.noConfusion h) rfl rfl (pkT_r rfl rfl) ?_
              refine rv (fun _ h => Op.noConfusion h) rfl rfl (mv_r rfl) ?_
              refine OJ.split (t := 38) rfl (fun hc7 => ?_) (fun hc7 => ?_)
              · try simp only [decide_eq_true_eq, decide_eq_false_iff_not, Bool.not_eq_true', Bool.not_eq_false'] at hc7
                refine rv (fun _ h => Op.noConfusion h) rfl rfl (fld_r Tryz.underlying27 rfl Tryz.sizeOf3 rfl) ?_
                refine rv (fun _ h => Op.noConfusion h) rfl rfl (ldR_r Tryz.isAgg3 rfl (.head _) hb1 hm1 trivial rfl) ?_
                refine rv (fun _ h => Op.noConfusion h) rfl rfl (leq_r rfl rfl) ?_
                refine rv (fun _ h => Op.noConfusion h) rfl rfl (pkT_r rfl rfl) ?_
                refine rv (fun _ h => Op.noConfusion h) rfl rfl (mv_r rfl) ?_
                refine OJ.split (t := 43) rfl (fun hc8 => ?_) (fun hc8 => ?_)
                · try simp only [decide_eq_true_eq, decide_eq_false_iff_not, Bool.not_eq_true', Bool.not_eq_false'] at hc8
                  refine rv (fun _ h => Op.noConfusion h) rfl rfl (fld_r Tryz.underlying27 rfl Tryz.sizeOf3 rfl) ?_
                  refine rv (fun _ h => Op.noConfusion h) rfl rfl (ldR_r Tryz.isAgg3 rfl (.head _) hb1 hm1 trivial rfl) ?_
                  refine rv (fun _ h => Op.noConfusion h) rfl rfl (eqlI_r rfl rfl) ?_
                  refine rv (fun _ h => Op.noConfusion h) rfl rfl (mv_r rfl) ?_
                  refine OJ.split (t := 47) rfl (fun hc9 => ?_) (fun hc9 => ?_)
                  · try simp only [decide_eq_true_eq, decide_eq_false_iff_not, Bool.not_eq_true', Bool.not_eq_false'] at hc9
                    refine OJ.off rfl (by decide) rfl ?_
                    refine OJ.off rfl (by decide) rfl ?_
                    refine OJ.off rfl (by decide) rfl ?_
                    refine OJ.off rfl (by decide) rfl ?_
                    refine rv (fun _ h => Op.noConfusion h) rfl rfl (pkT_r rfl rfl) ?_
                    refine rv (fun _ h => Op.noConfusion h) rfl rfl (pkT_r rfl rfl) ?_
                    refine rv (fun _ h => Op.noConfusion h) rfl rfl (asg_r rfl) ?_
                    refine OJ.done ?_
                    refine PJ.next ?_
                    refine CJ.ret ?_
                    refine retV Tryz.results18 rfl (.tail _ (.head _)) ?_
                    refine congrArg Value.bool ?_
                    unfold linkOk
                    simp [*]
                  · try simp only [decide_eq_true_eq, decide_eq_false_iff_not, Bool.not_eq_true', Bool.not_eq_false'] at hc9
                    refine rv (fun _ h => Op.noConfusion h) rfl rfl (fld_r Tryz.underlying27 rfl Tryz.sizeOf23 rfl) ?_
                    refine rv (fun _ h => Op.noConfusion h) rfl rfl (ldRA_r Tryz.isAgg23 Tryz.sizeOf23 rfl (.head _) hb1 hm1 trivial (Nat.le_of_ble_eq_true rfl)) ?_
                    refine rv (fun _ h => Op.noConfusion h) rfl rfl (bldA_r Tryz.underlying23 Tryz.zeroValue23 Tryz.sizeOf5 rfl rfl) ?_
                    refine rv (fun _ h => Op.noConfusion h) rfl rfl (RV.re (v' := .bool (eqD l.par (fun _ => 0))) (eqlA_r eqD_dig (by decide) guard_dig rfl rfl rfl) rfl) ?_
                    refine rv (fun _ h => Op.noConfusion h) rfl rfl (pkF_r rfl rfl) ?_
                    refine rv (fun _ h => Op.noConfusion h) rfl rfl (pkT_r rfl rfl) ?_
                    refine rv (fun _ h => Op.noConfusion h) rfl rfl (asg_r rfl) ?_
                    refine OJ.done ?_
                    refine PJ.next ?_
                    refine CJ.ret ?_
                    refine retV Tryz.results18 rfl (.tail _ (.head _)) ?_
                    refine congrArg Value.bool ?_
                    unfold linkOk
                    simp [*]
                · try simp only [decide_eq_true_eq, decide_eq_false_iff_not, Bool.not_eq_true', Bool.not_eq_false'] at hc8
                  refine OJ.off rfl (by decide) rfl ?_
                  refine OJ.off rfl (by decide) rfl ?_
                  refine OJ.off rfl (by decide) rfl ?_
                  refine OJ.off rfl (by decide) rfl ?_
                  refine OJ.off rfl (by decide) rfl ?_
                  refine OJ.off rfl (by decide) rfl ?_
                  refine OJ.off rfl (by decide) rfl ?_
                  refine OJ.off rfl (by decide) rfl ?_
                  refine OJ.off rfl (by decide) rfl ?_
                  refine rv (fun _ h => Op.noConfusion h) rfl rfl (pkF_r rfl rfl) ?_
                  refine rv (fun _ h => Op.noConfusion h) rfl rfl (asg_r rfl) ?_
                  refine OJ.done ?_
                  refine PJ.next ?_
                  refine CJ.ret ?_
                  refine retV Tryz.results18 rfl (.tail _ (.head _)) ?_
                  refine congrArg Value.bool ?_
                  unfold linkOk
                  simp [*]
              · try simp only [decide_eq_true_eq, decide_eq_false_iff_not, Bool.not_eq_true', Bool.not_eq_false'] at hc7
                refine OJ.off rfl (by decide) rfl ?_
                refine OJ.off rfl (by decide) rfl ?_
                refine OJ.off rfl (by decide) rfl ?_
                refine rv (fun _ h => Op.noConfusion h) rfl rfl (pkF_r rfl rfl) ?_
                refine rv (fun _ h => Op.noConfusion h) rfl rfl (mv_r rfl) ?_
                refine OJ.off rfl (by decide) rfl ?_
                refine OJ.off rfl (by decide) rfl ?_
                refine OJ.off rfl (by decide) rfl ?_
                refine OJ.off rfl (by decide) rfl ?_
                refine OJ.off rfl (by decide) rfl ?_
                refine OJ.off rfl (by decide) rfl ?_
                refine OJ.off rfl (by decide) rfl ?_
                refine OJ.off rfl (by decide) rfl ?_
                refine OJ.off rfl (by decide) rfl ?_
                refine rv (fun _ h => Op.noConfusion h) rfl rfl (pkF_r rfl rfl) ?_
                refine rv (fun _ h => Op.noConfusion h) rfl rfl (asg_r rfl) ?_
                refine OJ.done ?_
                refine PJ.next ?_
                refine CJ.ret ?_
                refine retV Tryz.results18 rfl (.tail _ (.head _)) ?_
                refine congrArg Value.bool ?_
                unfold linkOk
                simp [*]
            · try simp only [decide_eq_true_eq, decide_eq_false_iff_not, Bool.not_eq_true', Bool.not_eq_false'] at hc6
              refine OJ.off rfl (by decide) rfl ?_
              refine OJ.off rfl (by decide) rfl ?_
              refine OJ.off rfl (by decide) rfl ?_
              refine rv (fun _ h => Op.noConfusion h) rfl rfl (pkF_r rfl rfl) ?_
              refine rv (fun _ h => Op.noConfusion h) rfl rfl (mv_r rfl) ?_
              refine OJ.off rfl (by decide) rfl ?_
              refine OJ.off rfl (by decide) rfl ?_
              refine OJ.off rfl (by decide) rfl ?_
              refine rv (fun _ h => Op.noConfusion h) rfl rfl (pkF_r rfl rfl) ?_
              refine rv (fun _ h => Op.noConfusion h) rfl rfl (mv_r rfl) ?_
              refine OJ.off rfl (by decide) rfl ?_
              refine OJ.off rfl (by decide) rfl ?_
              refine OJ.off rfl (by decide) rfl ?_
              refine OJ.off rfl (by decide) rfl ?_
              refine OJ.off rfl (by decide) rfl ?_
              refine OJ.off rfl (by decide) rfl ?_
              refine OJ.off rfl (by decide) rfl ?_
              refine OJ.off rfl (by decide) rfl ?_
              refine OJ.off rfl (by decide) rfl ?_
              refine rv (fun _ h => Op.noConfusion h) rfl rfl (pkF_r rfl rfl) ?_
              refine rv (fun _ h => Op.noConfusion h) rfl rfl (asg_r rfl) ?_
              refine OJ.done ?_
              refine PJ.next ?_
              refine CJ.ret ?_
              refine retV Tryz.results18 rfl (.tail _ (.head _)) ?_
              refine congrArg Value.bool ?_
              unfold linkOk
              simp [*]
          · try simp only [decide_eq_true_eq, decide_eq_false_iff_not, Bool.not_eq_true', Bool.not_eq_false'] at hc5
            refine OJ.off rfl (by decide) rfl ?_
            refine OJ.off rfl (by decide) rfl ?_
            refine OJ.off rfl (by decide) rfl ?_
            refine OJ.off rfl (by decide) rfl ?_
            refine rv (fun _ h => Op.noConfusion h) rfl rfl (pkF_r rfl rfl) ?_
            refine rv (fun _ h => Op.noConfusion h) rfl rfl (mv_r rfl) ?_
            refine OJ.off rfl (by decide) rfl ?_
            refine OJ.off rfl (by decide) rfl ?_
            refine OJ.off rfl (by decide) rfl ?_
            refine rv (fun _ h => Op.noConfusion h) rfl rfl (pkF_r rfl rfl) ?_
            refine rv (fun _ h => Op.noConfusion h) rfl rfl (mv_r rfl) ?_
            refine OJ.off rfl (by decide) rfl ?_
            refine OJ.off rfl (by decide) rfl ?_
            refine OJ.off rfl (by decide) rfl ?_
            refine rv (fun _ h => Op.noConfusion h) rfl rfl (pkF_r rfl rfl) ?_
            refine rv (fun _ h => Op.noConfusion h) rfl rfl (mv_r rfl) ?_
            refine OJ.off rfl (by decide) rfl ?_
            refine OJ.off rfl (by decide) rfl ?_
            refine OJ.off rfl (by decide) rfl ?_
            refine OJ.off rfl (by decide) rfl ?_
            refine OJ.off rfl (by decide) rfl ?_
            refine OJ.off rfl (by decide) rfl ?_
            refine OJ.off rfl (by decide) rfl ?_
            refine OJ.off rfl (by decide) rfl ?_
            refine OJ.off rfl (by decide) rfl ?_
            refine rv (fun _ h => Op.noConfusion h) rfl rfl (pkF_r rfl rfl) ?_
            refine rv (fun _ h => Op.noConfusion h) rfl rfl (asg_r rfl) ?_
            refine OJ.done ?_
            refine PJ.next ?_
            refine CJ.ret ?_
            refine retV Tryz.results18 rfl (.tail _ (.head _)) ?_
            refine congrArg Value.bool ?_
            unfold linkOk
            simp [*]
        · try simp only [decide_eq_true_eq, decide_eq_false_iff_not, Bool.not_eq_true', Bool.not_eq_false'] at hc4
          refine OJ.off rfl (by decide) rfl ?_
          refine OJ.off rfl (by decide) rfl ?_
          refine OJ.off rfl (by decide) rfl ?_
          refine OJ.off rfl (by decide) rfl ?_
          refine rv (fun _ h => Op.noConfusion h) rfl rfl (pkF_r rfl rfl) ?_
          refine rv (fun _ h => Op.noConfusion h) rfl rfl (mv_r rfl) ?_
          refine OJ.off rfl (by decide) rfl ?_
          refine OJ.off rfl (by decide) rfl ?_
          refine OJ.off rfl (by decide) rfl ?_
          refine OJ.off rfl (by decide) rfl ?_
          refine rv (fun _ h => Op.noConfusion h) rfl rfl (pkF_r rfl rfl) ?_
          refine rv (fun _ h => Op.noConfusion h) rfl rfl (mv_r rfl) ?_
          refine OJ.off rfl (by decide) rfl ?_
          refine OJ.off rfl (by decide) rfl ?_
          refine OJ.off rfl (by decide) rfl ?_
          refine rv (fun _ h => Op.noConfusion h) rfl rfl (pkF_r rfl rfl) ?_
          refine rv (fun _ h => Op.noConfusion h) rfl rfl (mv_r rfl) ?_
          refine OJ.off rfl (by decide) rfl ?_
          refine OJ.off rfl (by decide) rfl ?_
          refine OJ.off rfl (by decide) rfl ?_
          refine rv (fun _ h => Op.noConfusion h) rfl rfl (pkF_r rfl rfl) ?_
          refine rv (fun _ h => Op.noConfusion h) rfl rfl (mv_r rfl) ?_
          refine OJ.off rfl (by decide) rfl ?_
          refine OJ.off rfl (by decide) rfl ?_
          refine OJ.off rfl (by decide) rfl ?_
          refine OJ.off rfl (by decide) rfl ?_
          refine OJ.off rfl (by decide) rfl ?_
          refine OJ.off rfl (by decide) rfl ?_
          refine OJ.off rfl (by decide) rfl ?_
          refine OJ.off rfl (by decide) rfl ?_
          refine OJ.off rfl (by decide) rfl ?_
          refine rv (fun _ h => Op.noConfusion h) rfl rfl (pkF_r rfl rfl) ?_
          refine rv (fun _ h => Op.noConfusion h) rfl rfl (asg_r rfl) ?_
          refine OJ.done ?_
          refine PJ.next ?_
          refine CJ.ret ?_
          refine retV Tryz.results18 rfl (.tail _ (.head _)) ?_
          refine congrArg Value.bool ?_
          unfold linkOk
          simp [*]
      · try simp only [decide_eq_true_eq, decide_eq_false_iff_not, Bool.not_eq_true', Bool.not_eq_false'] at hc3
        refine OJ.off rfl (by decide) rfl ?_
        refine OJ.off rfl (by decide) rfl ?_
        refine OJ.off rfl (by decide) rfl ?_
        refine rv (fun _ h => Op.noConfusion h) rfl rfl (pkF_r rfl rfl) ?_
        refine rv (fun _ h => Op.noConfusion h) rfl rfl (mv_r rfl) ?_
        refine OJ.off rfl (by decide) rfl ?_
        refine OJ.off rfl (by decide) rfl ?_
        refine OJ.off rfl (by decide) rfl ?_
        refine OJ.off rfl (by decide) rfl ?_
        refine rv (fun _ h => Op.noConfusion h) rfl rfl (pkF_r rfl rfl) ?_
        refine rv (fun _ h => Op.noConfusion h) rfl rfl (mv_r rfl) ?_
        refine OJ.off rfl (by decide) rfl ?_
        refine OJ.off rfl (by decide) rfl ?_
        refine OJ.off rfl (by decide) rfl ?_
        refine OJ.off rfl (by decide) rfl ?_
        refine rv (fun _ h => Op.noConfusion h) rfl rfl (pkF_r rfl rfl) ?_
        refine rv (fun _ h => Op.noConfusion h) rfl rfl (mv_r rfl) ?_
        refine OJ.off rfl (by decide) rfl ?_
        refine OJ.off rfl (by decide) rfl ?_
        refine OJ.off rfl (by decide) rfl ?_
        refine rv (fun _ h => Op.noConfusion h) rfl rfl (pkF_r rfl rfl) ?_
        refine rv (fun _ h => Op.noConfusion h) rfl rfl (mv_r rfl) ?_
        refine OJ.off rfl (by decide) rfl ?_
        refine OJ.off rfl (by decide) rfl ?_
        refine OJ.off rfl (by decide) rfl ?_
        refine rv (fun _ h => Op.noConfusion h) rfl rfl (pkF_r rfl rfl) ?_
        refine rv (fun _ h => Op.noConfusion h) rfl rfl (mv_r rfl) ?_
        refine OJ.off rfl (by decide) rfl ?_
        refine OJ.off rfl (by decide) rfl ?_
        refine OJ.off rfl (by decide) rfl ?_
        refine OJ.off rfl (by decide) rfl ?_
        refine OJ.off rfl (by decide) rfl ?_
        refine OJ.off rfl (by decide) rfl ?_
        refine OJ.off rfl (by decide) rfl ?_
        refine OJ.off rfl (by decide) rfl ?_
        refine OJ.off rfl (by decide) rfl ?_
        refine rv (fun _ h => Op.noConfusion h) rfl rfl (pkF_r rfl rfl) ?_
        refine rv (fun _ h => Op.noConfusion h) rfl rfl (asg_r rfl) ?_
        refine OJ.done ?_
        refine PJ.next ?_
        refine CJ.ret ?_
        refine retV Tryz.results18 rfl (.tail _ (.head _)) ?_
        refine congrArg Value.bool ?_
        unfold linkOk
        simp [*]
    · try simp only [decide_eq_true_eq, decide_eq_false_iff_not, Bool.not_eq_true', Bool.not_eq_false'] at hc2
      refine OJ.off rfl (by decide) rfl ?_
      refine OJ.off rfl (by decide) rfl ?_
      refine OJ.off rfl (by decide) rfl ?_
      refine rv (fun _ h => Op.noConfusion h) rfl rfl (pkF_r rfl rfl) ?_
      refine rv (fun _ h => Op.noConfusion h) rfl rfl (mv_r rfl) ?_
      refine OJ.off rfl (by decide) rfl ?_
      refine OJ.off rfl (by decide) rfl ?_
      refine OJ.off rfl (by decide) rfl ?_
      refine rv (fun _ h => Op.noConfusion h) rfl rfl (pkF_r rfl rfl) ?_
      refine rv (fun _ h => Op.noConfusion h) rfl rfl (mv_r rfl) ?_
      refine OJ.off rfl (by decide) rfl ?_
      refine OJ.off rfl (by decide) rfl ?_
      refine OJ.off rfl (by decide) rfl ?_
      refine OJ.off rfl (by decide) rfl ?_
      refine rv (fun _ h => Op.noConfusion h) rfl rfl (pkF_r rfl rfl) ?_
      refine rv (fun _ h => Op.noConfusion h) rfl rfl (mv_r rfl) ?_
      refine OJ.off rfl (by decide) rfl ?_
      refine OJ.off rfl (by decide) rfl ?_
      refine OJ.off rfl (by decide) rfl ?_
      refine OJ.off rfl (by decide) rfl ?_
      refine rv (fun _ h => Op.noConfusion h) rfl rfl (pkF_r rfl rfl) ?_
      refine rv (fun _ h => Op.noConfusion h) rfl rfl (mv_r rfl) ?_
      refine OJ.off rfl (by decide) rfl ?_
      refine OJ.off rfl (by decide) rfl ?_
      refine OJ.off rfl (by decide) rfl ?_
      refine rv (fun _ h => Op.noConfusion h) rfl rfl (pkF_r rfl rfl) ?_
      refine rv (fun _ h => Op.noConfusion h) rfl rfl (mv_r rfl) ?_
      refine OJ.off rfl (by decide) rfl ?_
      refine OJ.off rfl (by decide) rfl ?_
      refine OJ.off rfl (by decide) rfl ?_
      refine rv (fun _ h => Op.noConfusion h) rfl rfl (pkF_r rfl rfl) ?_
      refine rv (fun _ h => Op.noConfusion h) rfl rfl (mv_r rfl) ?_
      refine OJ.off rfl (by decide) rfl ?_
      refine OJ.off rfl (by decide) rfl ?_
      refine OJ.off rfl (by decide) rfl ?_
      refine OJ.off rfl (by decide) rfl ?_
      refine OJ.off rfl (by decide) rfl ?_
      refine OJ.off rfl (by decide) rfl ?_
      refine OJ.off rfl (by decide) rfl ?_
      refine OJ.off rfl (by decide) rfl ?_
      refine OJ.off rfl (by decide) rfl ?_
      refine rv (fun _ h => Op.noConfusion h) rfl rfl (pkF_r rfl rfl) ?_
      refine rv (fun _ h => Op.noConfusion h) rfl rfl (asg_r rfl) ?_
      refine OJ.done ?_
      refine PJ.next ?_
      refine CJ.ret ?_
      refine retV Tryz.results18 rfl (.tail _ (.head _)) ?_
      refine congrArg Value.bool ?_
      unfold linkOk
      simp [*]
  · try simp only [decide_eq_true_eq, decide_eq_false_iff_not, Bool.not_eq_true', Bool.not_eq_false'] at hc1
    refine OJ.off rfl (by decide) rfl ?_
    refine OJ.off rfl (by decide) rfl ?_
    refine OJ.off rfl (by decide) rfl ?_
    refine rv (fun _ h => Op.noConfusion h) rfl rfl (pkF_r rfl rfl) ?_
    refine rv (fun _ h => Op.noConfusion h) rfl rfl (mv_r rfl) ?_
    refine OJ.off rfl (by decide) rfl ?_
    refine OJ.off rfl (by decide) rfl ?_
    refine OJ.off rfl (by decide) rfl ?_
    refine rv (fun _ h => Op.noConfusion h) rfl rfl (pkF_r rfl rfl) ?_
    refine rv (fun _ h => Op.noConfusion h) rfl rfl (mv_r rfl) ?_
    refine OJ.off rfl (by decide) rfl ?_
    refine OJ.off rfl (by decide) rfl ?_
    refine OJ.off rfl (by decide) rfl ?_
    refine rv (fun _ h => Op.noConfusion h) rfl rfl (pkF_r rfl rfl) ?_
    refine rv (fun _ h => Op.noConfusion h) rfl rfl (mv_r rfl) ?_
    refine OJ.off rfl (by decide) rfl ?_
    refine OJ.off rfl (by decide) rfl ?_
    refine OJ.off rfl (by decide) rfl ?_
    refine OJ.off rfl (by decide) rfl ?_
    refine rv (fun _ h => Op.noConfusion h) rfl rfl (pkF_r rfl rfl) ?_
    refine rv (fun _ h => Op.noConfusion h) rfl rfl (mv_r rfl) ?_
    refine OJ.off rfl (by decide) rfl ?_
    refine OJ.off rfl (by decide) rfl ?_
    refine OJ.off rfl (by decide) rfl ?_
    refine OJ.off rfl (by decide) rfl ?_
    refine rv (fun _ h => Op.noConfusion h) rfl rfl (pkF_r rfl rfl) ?_
    refine rv (fun _ h => Op.noConfusion h) rfl rfl (mv_r rfl) ?_
    refine OJ.off rfl (by decide) rfl ?_
    refine OJ.off rfl (by decide) rfl ?_
    refine OJ.off rfl (by decide) rfl ?_
    refine rv (fun _ h => Op.noConfusion h) rfl rfl (pkF_r rfl rfl) ?_
    refine rv (fun _ h => Op.noConfusion h) rfl rfl (mv_r rfl) ?_
    refine OJ.off rfl (by decide) rfl ?_
    refine OJ.off rfl (by decide) rfl ?_
    refine OJ.off rfl (by decide) rfl ?_
    refine rv (fun _ h => Op.noConfusion h) rfl rfl (pkF_r rfl rfl) ?_
    refine rv (fun _ h => Op.noConfusion h) rfl rfl (mv_r rfl) ?_
    refine OJ.off rfl (by decide) rfl ?_
    refine OJ.off rfl (by decide) rfl ?_
    refine OJ.off rfl (by decide) rfl ?_
    refine OJ.off rfl (by decide) rfl ?_
    refine OJ.off rfl (by decide) rfl ?_
    refine OJ.off rfl (by decide) rfl ?_
    refine OJ.off rfl (by decide) rfl ?_
    refine OJ.off rfl (by decide) rfl ?_
    refine OJ.off rfl (by decide) rfl ?_
    refine rv (fun _ h => Op.noConfusion h) rfl rfl (pkF_r rfl rfl) ?_
    refine rv (fun _ h => Op.noConfusion h) rfl rfl (asg_r rfl) ?_
    refine OJ.done ?_
    refine PJ.next ?_
    refine CJ.ret ?_
    refine retV Tryz.results18 rfl (.tail _ (.head _)) ?_
    refine congrArg Value.bool ?_
    unfold linkOk
    simp [*]

end Px
namespace Px
open Go Go.RowKit Go.Proofs
theorem sign32 {Z : Fx} (hZ : FxOk Z) (x : Int) (f : Nat → Int) (hf : Byt f) (b t : Nat) (fr : Nat × Nat) (w : World) (h : w.heap[b]? = some (.cells (dg f) t fr)) (hg : Glb w) : Calls Tryz.prog 16 #[.int .i64 x, .slice (some ⟨b, 0, none⟩) 32 32] w (Ret w (sigT Z x (dgU f))) := by
  have := sign_Sign hZ x (dgU f) b 0 32 (by rw [dgU_len]; decide) w (SegU.dg h hf) hg
  rwa [dgU_len] at this
theorem sign32_ok {Z : Fx} (hZ : FxOk Z) (x : Int) (hx : KOk x) (f : Nat → Int) (hf : Byt f) (r s : Int) (hr : sigR Z x (dgU f) = r) (hs : sigS Z x (dgU f) = s) (b t : Nat) (fr : Nat × Nat) (w : World) (h : w.heap[b]? = some (.cells (dg f) t fr)) (hg : Glb w) : Calls Tryz.prog 16 #[.int .i64 x, .slice (some ⟨b, 0, none⟩) 32 32] w (Ret w (.tuple #[.agg #[.int .i64 r, .int .i64 s], .int .i64 0])) := by
  have := sign32 hZ x f hf b t fr w h hg
  unfold sigT at this
  rw [if_pos hx, hr, hs] at this; exact this
theorem sign32_no {Z : Fx} (hZ : FxOk Z) (x : Int) (hx : ¬ KOk x) (f : Nat → Int) (hf : Byt f) (b t : Nat) (fr : Nat × Nat) (w : World) (h : w.heap[b]? = some (.cells (dg f) t fr)) (hg : Glb w) : Calls Tryz.prog 16 #[.int .i64 x, .slice (some ⟨b, 0, none⟩) 32 32] w (Ret w (.tuple #[.agg #[.int .i64 0, .int .i64 0], .int .i64 50])) := by
  have := sign32 hZ x f hf b t fr w h hg
  unfold sigT at this
  rw [if_neg hx] at this; exact this
theorem rsign32_ok {Z : Fx} (hZ : FxOk Z) (x : Int) (hx : KOk x) (f : Nat → Int) (hf : Byt f) (r s : Int) (hr : sigR Z x (dgU f) = r) (hs : sigS Z x (dgU f) = s) (b t : Nat) (fr : Nat × Nat) (w : World) (h : w.heap[b]? = some (.cells (dg f) t fr)) : Calls Tryz.prog 20 #[.int .i64 x, .slice (some ⟨b, 0, none⟩) 32 32] w (Ret w (.tuple #[.agg #[.int .i64 r, .int .i64 s], .int .i64 0])) := by
  have := r05_Sign hZ x (dgU f) b 0 32 (by rw [dgU_len]; decide) w (SegU.dg h hf)
  rw [dgU_len] at this
  unfold sigT at this
  rw [if_pos hx, hr, hs] at this; exact this
theorem pubG_ok {Z : Fx} (hZ : FxOk Z) (x : Int) (hx : KOk x) (w : World) : Calls Tryz.prog 12 #[.int .i64 x] w (Ret w (eTup ((Z.ge 4 x).1, 0))) := by
  have h := sign_Public x w
  rw [kPub_ge hZ, if_pos hx] at h
  exact h
theorem pubG_no (x : Int) (hx : ¬ KOk x) (w : World) : Calls Tryz.prog 12 #[.int .i64 x] w (Ret w (eTup (0, 50))) := by
  have h := sign_Public x w
  unfold kPub at h
  rw [if_neg hx] at h
  exact h
theorem msg_byt {Z : Fx} (hZ : FxOk Z) (l : Lk) : Byt (msgD Z l) := hZ.byt _ _
theorem fm_byt {Z : Fx} (hZ : FxOk Z) (f : Fa) : Byt (fmD Z f) := hZ.byt _ _
theorem id_byt {Z : Fx} (hZ : FxOk Z) (l : Lk) : Byt (idD Z l) := hZ.byt _ _
def zLk : Lk := ⟨0, 0, 0, 0, 0, false, fun _ => 0, 0, 0⟩
/-- what Make returns -/
def mkT (Z : Fx) (l : Lk) (x : Int) : Value :=
  if linkOk l then if KOk x then .tuple #[.agg (lkC { l with sr := sigR Z x (dgU (msgD Z l)), ss := sigS Z x (dgU (msgD Z l)) }), .int .i64 0] else .tuple #[.agg (lkC zLk), .int .i64 50] else .tuple #[.agg (lkC zLk), .int .i64 400]
set_option maxHeartbeats 800000 in
/-- chartroom/links.Make -/
theorem links_Make {Z : Fx} (hZ : FxOk Z) (l : Lk) (hl : LkOk l) (h1 : l.sr = 0) (h2 : l.ss = 0) (x : Int) (w : World) (hg : Glb w) :
    Calls Tryz.prog 5 #[.int .i64 l.fo, .int .i64 l.by_, .int .i64 l.pub, .int .i64 l.ver, .int .i64 l.exp, .bool l.resh, .agg (dg l.par), .int .i64 x] w (Ret w (mkT Z l x)) := by
  have hg4 := hg.lt
  have hB := msg_byt hZ l
  obtain ⟨mf, hmf⟩ : ∃ mf, msgD Z l = mf := ⟨_, rfl⟩
  rw [hmf] at hB
  obtain ⟨r, hr⟩ : ∃ r, sigR Z x (dgU mf) = r := ⟨_, rfl⟩
  obtain ⟨sg, hsg⟩ : ∃ sg, sigS Z x (dgU mf) = sg := ⟨_, rfl⟩
  refine enter (vs := [_, _, _, _, _, _, _, _]) Tryz.func5 rfl Tryz.ntmps5 rfl ?_
  refine CJ.seq ?_
  refine CJ.region ?_
  refine boxR rfl rfl rfl ?_
  intro b14 w14 hb14 ha14 ho14 hm14 hz14
  simp only [Above] at ha14
  try simp only [Off, book, List.cons_append, List.nil_append, List.set_cons_zero, List.set_cons_succ, ne_eq] at ho14
  refine allW Tryz.zeroValue27 rfl rfl ?_
  intro b16 ha16 ho16
  simp only [Above] at ha16
  try simp only [Off, book, List.cons_append, List.nil_append, List.set_cons_zero, List.set_cons_succ, ne_eq] at ho16
  refine rv (fun _ h => Op.noConfusion h) rfl rfl (asg_r rfl) ?_
  refine OJ.done ?_
  refine PJ.next ?_
  refine CJ.seq ?_
  refine CJ.region ?_
  refine rv (fun _ h => Op.noConfusion h) rfl rfl (mv_r rfl) ?_
  refine rv (fun _ h => Op.noConfusion h) rfl rfl (mv_r rfl) ?_
  refine rv (fun _ h => Op.noConfusion h) rfl rfl (mv_r rfl) ?_
  refine rv (fun _ h => Op.noConfusion h) rfl rfl (mv_r rfl) ?_
  refine rv (fun _ h => Op.noConfusion h) rfl rfl (mv_r rfl) ?_
  refine rv (fun _ h => Op.noConfusion h) rfl rfl (mv_r rfl) ?_
  refine rv (fun _ h => Op.noConfusion h) rfl rfl (ldRAw_r Tryz.isAgg23 Tryz.sizeOf23 rfl (.head _) hb14 hm14 (by first | (simp only [Off, book, List.cons_append, List.nil_append, List.set_cons_zero, List.set_cons_succ, List.eraseIdx_cons_zero, List.eraseIdx_cons_succ, ne_eq, and_true]; omega) | (simp [Off] <;> omega)) rfl) ?_
  refine rv (fun _ h => Op.noConfusion h) rfl rfl (RV.re (v' := .agg (lkC l)) (bldS_r Tryz.underlying27 Tryz.zeroValue27 (PlF.c Tryz.sizeOf3 (PlF.c Tryz.sizeOf3 (PlF.c Tryz.sizeOf3 (PlF.c Tryz.sizeOf3 (PlF.c Tryz.sizeOf3 (PlF.c Tryz.sizeOf4 (PlF.c Tryz.sizeOf23 (PlF.c Tryz.sizeOf25 (PlF.n))))))))) rfl rfl) (by unfold lkC; rw [h1, h2]; rfl)) ?_
  refine rv (fun _ h => Op.noConfusion h) rfl rfl (RV.re (v' := .agg (lkC l)) (bldS_r Tryz.underlying64 Tryz.zeroValue64 (PlF.c Tryz.sizeOf27 (PlF.n)) rfl rfl) (rfl)) ?_
  refine allW Tryz.zeroValue64 rfl rfl ?_
  intro b18 ha18 ho18
  simp only [Above] at ha18
  try simp only [Off, book, List.cons_append, List.nil_append, List.set_cons_zero, List.set_cons_succ, ne_eq] at ho18
  refine stWw (i := 0) rfl Tryz.sizeOf64 rfl rfl rfl rfl rfl rfl ?_
  refine OJ.done ?_
  refine PJ.next ?_
  refine CJ.seq ?_
  refine CJ.seq ?_
  refine CJ.region ?_
  refine rv (fun _ h => Op.noConfusion h) rfl rfl (ldWAw_r (i := 0) rfl Tryz.isAgg64 Tryz.sizeOf64 rfl rfl) ?_
  refine call Tryz.call15 rfl rfl rfl (fun W hS => links_valid l W) ?_
  refine rv (fun _ h => Op.noConfusion h) rfl rfl (notB_r rfl) ?_
  refine OJ.done ?_
  refine PJ.next ?_
  refine CJ.cond rfl (fun hc1 => ?_) (fun hc1 => ?_)
  · try simp only [decide_eq_true_eq, decide_eq_false_iff_not, Bool.not_eq_true', Bool.not_eq_false'] at hc1
    refine CJ.seq ?_
    refine CJ.region ?_
    refine rv (fun _ h => Op.noConfusion h) rfl rfl (ldWAw_r (i := 1) rfl Tryz.isAgg27 Tryz.sizeOf27 rfl rfl) ?_
    refine stWw (i := 1) rfl Tryz.sizeOf27 rfl rfl rfl rfl rfl rfl ?_
    refine rv (fun _ h => Op.noConfusion h) rfl rfl (asg_r rfl) ?_
    refine OJ.done ?_
    refine PJ.next ?_
    refine CJ.ret ?_
    refine PJ.retThen ?_
    refine retO (.inl rfl) Tryz.results5 (RS.wA (i := 1) rfl Tryz.isAgg27 Tryz.sizeOf27 rfl (Nat.le_of_ble_eq_true rfl) (RS.t rfl (RS.n))) (.tail _ (.head _)) (by first | (simp only [Over, List.set_cons_zero, List.set_cons_succ, List.eraseIdx_cons_zero, List.eraseIdx_cons_succ, and_true]; omega) | (simp [Over] <;> omega)) ?_
    unfold mkT; rw [if_neg (by simp_all)]; rfl
  · try simp only [decide_eq_true_eq, decide_eq_false_iff_not, Bool.not_eq_true', Bool.not_eq_false'] at hc1
    refine CJ.skip ?_
    refine PJ.next ?_
    refine CJ.seq ?_
    refine CJ.region ?_
    refine rv (fun _ h => Op.noConfusion h) rfl rfl (mv_r rfl) ?_
    refine rv (fun _ h => Op.noConfusion h) rfl rfl (ldWAw_r (i := 0) rfl Tryz.isAgg64 Tryz.sizeOf64 rfl rfl) ?_
    refine callX (v := fun b : Nat => .slice (some ⟨b, 0, none⟩) 32 32) (Φ := fun (W : World) (b : Nat) (v1 : World) => W.heap.size ≤ b ∧ v1.heap[b]? = some (.cells (dg mf) 23 (0, 0))) Tryz.call17 rfl rfl rfl (fun W hS => by rw [← hmf]; exact links_message hZ l hl W (hg.old hS (.tail _ (.head _)) (fun _ _ h => h) (by first | exact True.intro | (simp only [Over, List.set_cons_zero, List.set_cons_succ, List.eraseIdx_cons_zero, List.eraseIdx_cons_succ, and_true]; omega)))) ?_
    rintro W36 b36 w36 hS36 hB36 ⟨hq36, hb36⟩
    have hz36 := (Array.getElem?_eq_some_iff.1 hb36).1
    have hA36 := hS36.sizes
    simp only [Above] at hA36
    have hB36s := hB36.size
    have hU36 := hS36.under
    simp only [Under, List.set_cons_zero, List.set_cons_succ] at hU36
    by_cases hK : KOk x
    · refine call Tryz.call16 rfl rfl rfl (fun W hS => sign32_ok hZ x hK mf hB r sg hr hsg b36 _ _ W (hS.old (.head _) hb36 (fun h => h) (by simp only [Off, List.set_cons_zero, List.set_cons_succ, List.eraseIdx_cons_zero, List.eraseIdx_cons_succ, ne_eq, and_true]; omega)) (hg.old hS (.tail _ (.tail _ (.head _))) (fun _ _ h => h) (by first | exact True.intro | (simp only [Over, List.set_cons_zero, List.set_cons_succ, List.eraseIdx_cons_zero, List.eraseIdx_cons_succ, and_true]; omega)))) ?_
      refine rv (fun _ h => Op.noConfusion h) rfl rfl (mv_r rfl) ?_
      refine rv (fun _ h => Op.noConfusion h) rfl rfl (ext_r rfl rfl) ?_
      refine rv (fun _ h => Op.noConfusion h) rfl rfl (ext_r rfl rfl) ?_
      refine allW Tryz.zeroValue25 rfl rfl ?_
      intro b19 ha19 ho19
      simp only [Above] at ha19
      try simp only [Off, book, List.cons_append, List.nil_append, List.set_cons_zero, List.set_cons_succ, ne_eq] at ho19
      refine stWw (i := 0) rfl Tryz.sizeOf25 rfl rfl rfl rfl rfl rfl ?_
      refine rv (fun _ h => Op.noConfusion h) rfl rfl (asg_r rfl) ?_
      refine OJ.done ?_
      refine PJ.next ?_
      refine CJ.seq ?_
      refine CJ.seq ?_
      refine CJ.region ?_
      refine rv (fun _ h => Op.noConfusion h) rfl rfl (mv_r rfl) ?_
      refine rv (fun _ h => Op.noConfusion h) rfl rfl (RV.re (v' := .bool false) (neqI_r rfl rfl) rfl) ?_
      refine OJ.done ?_
      refine PJ.next ?_
      refine CJ.condF rfl ?_
      refine CJ.skip ?_
      refine PJ.next ?_
      refine CJ.seq ?_
      refine CJ.region ?_
      refine rv (fun _ h => Op.noConfusion h) rfl rfl (ldWAw_r (i := 0) rfl Tryz.isAgg25 Tryz.sizeOf25 rfl rfl) ?_
      refine rv (fun _ h => Op.noConfusion h) rfl rfl (fld_r Tryz.underlying64 rfl Tryz.sizeOf27 rfl) ?_
      refine rv (fun _ h => Op.noConfusion h) rfl rfl (fld_r Tryz.underlying27 rfl Tryz.sizeOf25 rfl) ?_
      refine stW (i := 1) rfl Tryz.sizeOf25 rfl rfl rfl rfl (Nat.le_of_ble_eq_true rfl) rfl ?_
      refine OJ.done ?_
      refine PJ.next ?_
      refine CJ.seq ?_
      refine CJ.region ?_
      refine rv (fun _ h => Op.noConfusion h) rfl rfl (fld_r Tryz.underlying64 rfl Tryz.sizeOf27 rfl) ?_
      refine rv (fun _ h => Op.noConfusion h) rfl rfl (ldWA_r (i := 1) rfl Tryz.isAgg27 Tryz.sizeOf27 rfl (Nat.le_of_ble_eq_true rfl)) ?_
      refine stWw (i := 2) rfl Tryz.sizeOf27 rfl rfl rfl rfl rfl rfl ?_
      refine rv (fun _ h => Op.noConfusion h) rfl rfl (asg_r rfl) ?_
      refine OJ.done ?_
      refine PJ.next ?_
      refine CJ.ret ?_
      refine retO (.inl rfl) Tryz.results5 (RS.wA (i := 2) rfl Tryz.isAgg27 Tryz.sizeOf27 rfl (Nat.le_of_ble_eq_true rfl) (RS.t rfl (RS.n))) (.tail _ (.tail _ (.head _))) (by first | (simp only [Over, List.set_cons_zero, List.set_cons_succ, List.eraseIdx_cons_zero, List.eraseIdx_cons_succ, and_true]; omega) | (simp [Over] <;> omega)) ?_
      unfold mkT; rw [if_pos (by simp_all), if_pos hK, hmf, hr, hsg]; rfl
    · refine call Tryz.call16 rfl rfl rfl (fun W hS => sign32_no hZ x hK mf hB b36 _ _ W (hS.old (.head _) hb36 (fun h => h) (by simp only [Off, List.set_cons_zero, List.set_cons_succ, List.eraseIdx_cons_zero, List.eraseIdx_cons_succ, ne_eq, and_true]; omega)) (hg.old hS (.tail _ (.tail _ (.head _))) (fun _ _ h => h) (by first | exact True.intro | (simp only [Over, List.set_cons_zero, List.set_cons_succ, List.eraseIdx_cons_zero, List.eraseIdx_cons_succ, and_true]; omega)))) ?_
      refine rv (fun _ h => Op.noConfusion h) rfl rfl (mv_r rfl) ?_
      refine rv (fun _ h => Op.noConfusion h) rfl rfl (ext_r rfl rfl) ?_
      refine rv (fun _ h => Op.noConfusion h) rfl rfl (ext_r rfl rfl) ?_
      refine allW Tryz.zeroValue25 rfl rfl ?_
      intro b19 ha19 ho19
      simp only [Above] at ha19
      try simp only [Off, book, List.cons_append, List.nil_append, List.set_cons_zero, List.set_cons_succ, ne_eq] at ho19
      refine stWw (i := 0) rfl Tryz.sizeOf25 rfl rfl rfl rfl rfl rfl ?_
      refine rv (fun _ h => Op.noConfusion h) rfl rfl (asg_r rfl) ?_
      refine OJ.done ?_
      refine PJ.next ?_
      refine CJ.seq ?_
      refine CJ.seq ?_
      refine CJ.region ?_
      refine rv (fun _ h => Op.noConfusion h) rfl rfl (mv_r rfl) ?_
      refine rv (fun _ h => Op.noConfusion h) rfl rfl (RV.re (v' := .bool true) (neqI_r rfl rfl) rfl) ?_
      refine OJ.done ?_
      refine PJ.next ?_
      refine CJ.condT rfl ?_
      refine CJ.seq ?_
      refine CJ.region ?_
      refine rv (fun _ h => Op.noConfusion h) rfl rfl (ldWAw_r (i := 2) rfl Tryz.isAgg27 Tryz.sizeOf27 rfl rfl) ?_
      refine rv (fun _ h => Op.noConfusion h) rfl rfl (mv_r rfl) ?_
      refine stWw (i := 2) rfl Tryz.sizeOf27 rfl rfl rfl rfl rfl rfl ?_
      refine rv (fun _ h => Op.noConfusion h) rfl rfl (asg_r rfl) ?_
      refine OJ.done ?_
      refine PJ.next ?_
      refine CJ.ret ?_
      refine PJ.retThen ?_
      refine retO (.inl rfl) Tryz.results5 (RS.wA (i := 2) rfl Tryz.isAgg27 Tryz.sizeOf27 rfl (Nat.le_of_ble_eq_true rfl) (RS.t rfl (RS.n))) (.tail _ (.tail _ (.head _))) (by first | (simp only [Over, List.set_cons_zero, List.set_cons_succ, List.eraseIdx_cons_zero, List.eraseIdx_cons_succ, and_true]; omega) | (simp [Over] <;> omega)) ?_
      unfold mkT; rw [if_pos (by simp_all), if_neg hK]; rfl

end Px
