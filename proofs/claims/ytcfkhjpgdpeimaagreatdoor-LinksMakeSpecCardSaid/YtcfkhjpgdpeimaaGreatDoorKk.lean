/- Contracts of Make and Factor. No condition beyond those that each theorem states. -/
import Derived.Test.YtcfkhjpgdpeimaaGreatDoorKj
import Derived.Test.YtcfkhjpgdpeimaaGreatDoorProg
set_option linter.unusedSimpArgs false
set_option linter.unusedVariables false
namespace Px
open Go Go.RowKit Go.Proofs
set_option maxHeartbeats 800000 in
/-- chartroom/chartroomref40.Make -/
theorem r40_Make {Z : Fx} (hZ : FxOk Z) (l : Lk) (hl : LkOk l) (h1 : l.sr = 0) (h2 : l.ss = 0) (x : Int) (w : World) :
    Calls Tryz.prog 6 #[.int .i64 l.fo, .int .i64 l.by_, .int .i64 l.pub, .int .i64 l.ver, .int .i64 l.exp, .bool l.resh, .agg (dg l.par), .int .i64 x] w (Ret w (mkT Z l x)) := by
  have hB := msg_byt hZ l
  obtain ⟨mf, hmf⟩ : ∃ mf, msgD Z l = mf := ⟨_, rfl⟩
  rw [hmf] at hB
  obtain ⟨r, hr⟩ : ∃ r, sigR Z x (dgU mf) = r := ⟨_, rfl⟩
  obtain ⟨sg, hsg⟩ : ∃ sg, sigS Z x (dgU mf) = sg := ⟨_, rfl⟩
  refine enter (vs := [_, _, _, _, _, _, _, _]) Tryz.func6 rfl Tryz.ntmps6 rfl ?_
  refine CJ.seq ?_
  refine CJ.region ?_
  refine boxR rfl rfl rfl ?_
  intro b14 w14 hb14 ha14 ho14 hm14 hz14
  simp only [Above] at ha14
  try simp only [Off, book, List.cons_append, List.nil_append, List.set_cons_zero, List.set_cons_succ, ne_eq] at ho14
  refine allW Tryz.zeroValue27 rfl rfl ?_
  intro b16 ha16 ho16
  simp only [Above] at ha16
  try simp only [Off, book, List.cons_append, List.nil_append, List.set_cons_zero, List.set_cons_succ, ne_eq] at ho16
  refine rv (fun _ h => Op.noConfusion h) rfl rfl (asg_r rfl) ?_
  refine OJ.done ?_
  refine PJ.next ?_
  refine CJ.seq ?_
  refine CJ.region ?_
  refine rv (fun _ h => Op.noConfusion h) rfl rfl (mv_r rfl) ?_
  refine rv (fun _ h => Op.noConfusion h) rfl rfl (mv_r rfl) ?_
  refine rv (fun _ h => Op.noConfusion h) rfl rfl (mv_r rfl) ?_
  refine rv (fun _ h => Op.noConfusion h) rfl rfl (mv_r rfl) ?_
  refine rv (fun _ h => Op.noConfusion h) rfl rfl (mv_r rfl) ?_
  refine rv (fun _ h => Op.noConfusion h) rfl rfl (mv_r rfl) ?_
  refine rv (fun _ h => Op.noConfusion h) rfl rfl (ldRAw_r Tryz.isAgg23 Tryz.sizeOf23 rfl (.head _) hb14 hm14 (by first | (simp only [Off, book, List.cons_append, List.nil_append, List.set_cons_zero, List.set_cons_succ, List.eraseIdx_cons_zero, List.eraseIdx_cons_succ, ne_eq, and_true]; omega) | (simp [Off] <;> omega)) rfl) ?_
  refine rv (fun _ h => Op.noConfusion h) rfl rfl (RV.re (v' := .agg (lkC l)) (bldS_r Tryz.underlying27 Tryz.zeroValue27 (PlF.c Tryz.sizeOf3 (PlF.c Tryz.sizeOf3 (PlF.c Tryz.sizeOf3 (PlF.c Tryz.sizeOf3 (PlF.c Tryz.sizeOf3 (PlF.c Tryz.sizeOf4 (PlF.c Tryz.sizeOf23 (PlF.c Tryz.sizeOf25 (PlF.n))))))))) rfl rfl) (by unfold lkC; rw [h1, h2]; rfl)) ?_
  refine allW Tryz.zeroValue27 rfl rfl ?_
  intro b18 ha18 ho18
  simp only [Above] at ha18
  try simp only [Off, book, List.cons_append, List.nil_append, List.set_cons_zero, List.set_cons_succ, ne_eq] at ho18
  refine stWw (i := 0) rfl Tryz.sizeOf27 rfl rfl rfl rfl rfl rfl ?_
  refine OJ.done ?_
  refine PJ.next ?_
  refine CJ.seq ?_
  refine CJ.seq ?_
  refine CJ.region ?_
  refine rv (fun _ h => Op.noConfusion h) rfl rfl (ldWAw_r (i := 0) rfl Tryz.isAgg27 Tryz.sizeOf27 rfl rfl) ?_
  refine call Tryz.call18 rfl rfl rfl (fun W hS => r40_Formed l W) ?_
  refine rv (fun _ h => Op.noConfusion h) rfl rfl (notB_r rfl) ?_
  refine OJ.done ?_
  refine PJ.next ?_
  refine CJ.cond rfl (fun hc1 => ?_) (fun hc1 => ?_)
  · try simp only [decide_eq_true_eq, decide_eq_false_iff_not, Bool.not_eq_true', Bool.not_eq_false'] at hc1
    refine CJ.seq ?_
    refine CJ.region ?_
    refine rv (fun _ h => Op.noConfusion h) rfl rfl (bldS_r Tryz.underlying27 Tryz.zeroValue27 (PlF.c Tryz.sizeOf3 (PlF.c Tryz.sizeOf3 (PlF.c Tryz.sizeOf3 (PlF.c Tryz.sizeOf3 (PlF.c Tryz.sizeOf3 (PlF.c Tryz.sizeOf4 (PlF.c Tryz.sizeOf23 (PlF.c Tryz.sizeOf25 (PlF.n))))))))) rfl rfl) ?_
    refine stWw (i := 1) rfl Tryz.sizeOf27 rfl rfl rfl rfl rfl rfl ?_
    refine rv (fun _ h => Op.noConfusion h) rfl rfl (asg_r rfl) ?_
    refine OJ.done ?_
    refine PJ.next ?_
    refine CJ.ret ?_
    refine PJ.retThen ?_
    refine retO (.inl rfl) Tryz.results6 (RS.wA (i := 1) rfl Tryz.isAgg27 Tryz.sizeOf27 rfl (Nat.le_of_ble_eq_true rfl) (RS.t rfl (RS.n))) (.tail _ (.head _)) (by first | (simp only [Over, List.set_cons_zero, List.set_cons_succ, List.eraseIdx_cons_zero, List.eraseIdx_cons_succ, and_true]; omega) | (simp [Over] <;> omega)) ?_
    unfold mkT; rw [if_neg (by simp_all)]; rfl
  · try simp only [decide_eq_true_eq, decide_eq_false_iff_not, Bool.not_eq_true', Bool.not_eq_false'] at hc1
    refine CJ.skip ?_
    refine PJ.next ?_
    refine CJ.seq ?_
    refine CJ.region ?_
    refine rv (fun _ h => Op.noConfusion h) rfl rfl (mv_r rfl) ?_
    by_cases hK : KOk x
    · refine call Tryz.call19 rfl rfl rfl (fun W hS => publicR hZ x hK W) ?_
      refine rv (fun _ h => Op.noConfusion h) rfl rfl (mv_r rfl) ?_
      refine rv (fun _ h => Op.noConfusion h) rfl rfl (ext_r rfl rfl) ?_
      refine rv (fun _ h => Op.noConfusion h) rfl rfl (ext_r rfl rfl) ?_
      refine rv (fun _ h => Op.noConfusion h) rfl rfl (asg_r rfl) ?_
      refine rv (fun _ h => Op.noConfusion h) rfl rfl (asg_r rfl) ?_
      refine OJ.done ?_
      refine PJ.next ?_
      refine CJ.seq ?_
      refine CJ.seq ?_
      refine CJ.region ?_
      refine rv (fun _ h => Op.noConfusion h) rfl rfl (mv_r rfl) ?_
      refine rv (fun _ h => Op.noConfusion h) rfl rfl (RV.re (v' := .bool false) (neqI_r rfl rfl) rfl) ?_
      refine OJ.done ?_
      refine PJ.next ?_
      refine CJ.condF rfl ?_
      refine CJ.skip ?_
      refine PJ.next ?_
      refine CJ.seq ?_
      refine CJ.region ?_
      refine rv (fun _ h => Op.noConfusion h) rfl rfl (mv_r rfl) ?_
      refine rv (fun _ h => Op.noConfusion h) rfl rfl (ldWAw_r (i := 0) rfl Tryz.isAgg27 Tryz.sizeOf27 rfl rfl) ?_
      refine callX (v := fun b : Nat => .slice (some ⟨b, 0, none⟩) 32 32) (Φ := fun (W : World) (b : Nat) (v1 : World) => W.heap.size ≤ b ∧ v1.heap[b]? = some (.cells (dg mf) 23 (0, 0))) Tryz.call21 rfl rfl rfl (fun W hS => by rw [← hmf]; exact r40_Message hZ l hl W) ?_
      rintro W45 b45 w45 hS45 hB45 ⟨hq45, hb45⟩
      have hz45 := (Array.getElem?_eq_some_iff.1 hb45).1
      have hA45 := hS45.sizes
      simp only [Above] at hA45
      have hB45s := hB45.size
      have hU45 := hS45.under
      simp only [Under, List.set_cons_zero, List.set_cons_succ] at hU45
      refine call Tryz.call20 rfl rfl rfl (fun W hS => rsign32_ok hZ x hK mf hB r sg hr hsg b45 _ _ W (hS.old (.head _) hb45 (fun h => h) (by simp only [Off, List.set_cons_zero, List.set_cons_succ, List.eraseIdx_cons_zero, List.eraseIdx_cons_succ, ne_eq, and_true]; omega))) ?_
      refine rv (fun _ h => Op.noConfusion h) rfl rfl (mv_r rfl) ?_
      refine rv (fun _ h => Op.noConfusion h) rfl rfl (ext_r rfl rfl) ?_
      refine rv (fun _ h => Op.noConfusion h) rfl rfl (ext_r rfl rfl) ?_
      refine rv (fun _ h => Op.noConfusion h) rfl rfl (fld_r Tryz.underlying27 rfl Tryz.sizeOf25 rfl) ?_
      refine stW (i := 0) rfl Tryz.sizeOf25 rfl rfl rfl rfl (Nat.le_of_ble_eq_true rfl) rfl ?_
      refine OJ.done ?_
      refine PJ.next ?_
      refine CJ.seq ?_
      refine CJ.region ?_
      refine rv (fun _ h => Op.noConfusion h) rfl rfl (ldWAw_r (i := 0) rfl Tryz.isAgg27 Tryz.sizeOf27 rfl rfl) ?_
      refine stWw (i := 1) rfl Tryz.sizeOf27 rfl rfl rfl rfl rfl rfl ?_
      refine rv (fun _ h => Op.noConfusion h) rfl rfl (asg_r rfl) ?_
      refine OJ.done ?_
      refine PJ.next ?_
      refine CJ.ret ?_
      refine retO (.inl rfl) Tryz.results6 (RS.wA (i := 1) rfl Tryz.isAgg27 Tryz.sizeOf27 rfl (Nat.le_of_ble_eq_true rfl) (RS.t rfl (RS.n))) (.tail _ (.tail _ (.head _))) (by first | (simp only [Over, List.set_cons_zero, List.set_cons_succ, List.eraseIdx_cons_zero, List.eraseIdx_cons_succ, and_true]; omega) | (simp [Over] <;> omega)) ?_
      unfold mkT; rw [if_pos (by simp_all), if_pos hK, hmf, hr, hsg]; rfl
    · refine call Tryz.call19 rfl rfl rfl (fun W hS => publicR0 x hK W) ?_
      refine rv (fun _ h => Op.noConfusion h) rfl rfl (mv_r rfl) ?_
      refine rv (fun _ h => Op.noConfusion h) rfl rfl (ext_r rfl rfl) ?_
      refine rv (fun _ h => Op.noConfusion h) rfl rfl (ext_r rfl rfl) ?_
      refine rv (fun _ h => Op.noConfusion h) rfl rfl (asg_r rfl) ?_
      refine rv (fun _ h => Op.noConfusion h) rfl rfl (asg_r rfl) ?_
      refine OJ.done ?_
      refine PJ.next ?_
      refine CJ.seq ?_
      refine CJ.seq ?_
      refine CJ.region ?_
      refine rv (fun _ h => Op.noConfusion h) rfl rfl (mv_r rfl) ?_
      refine rv (fun _ h => Op.noConfusion h) rfl rfl (RV.re (v' := .bool true) (neqI_r rfl rfl) rfl) ?_
      refine OJ.done ?_
      refine PJ.next ?_
      refine CJ.condT rfl ?_
      refine CJ.seq ?_
      refine CJ.region ?_
      refine rv (fun _ h => Op.noConfusion h) rfl rfl (bldS_r Tryz.underlying27 Tryz.zeroValue27 (PlF.c Tryz.sizeOf3 (PlF.c Tryz.sizeOf3 (PlF.c Tryz.sizeOf3 (PlF.c Tryz.sizeOf3 (PlF.c Tryz.sizeOf3 (PlF.c Tryz.sizeOf4 (PlF.c Tryz.sizeOf23 (PlF.c Tryz.sizeOf25 (PlF.n))))))))) rfl rfl) ?_
      refine rv (fun _ h => Op.noConfusion h) rfl rfl (mv_r rfl) ?_
      refine stWw (i := 1) rfl Tryz.sizeOf27 rfl rfl rfl rfl rfl rfl ?_
      refine rv (fun _ h => Op.noConfusion h) rfl rfl (asg_r rfl) ?_
      refine OJ.done ?_
      refine PJ.next ?_
      refine CJ.ret ?_
      refine PJ.retThen ?_
      refine retO (.inl rfl) Tryz.results6 (RS.wA (i := 1) rfl Tryz.isAgg27 Tryz.sizeOf27 rfl (Nat.le_of_ble_eq_true rfl) (RS.t rfl (RS.n))) (.tail _ (.head _)) (by first | (simp only [Over, List.set_cons_zero, List.set_cons_succ, List.eraseIdx_cons_zero, List.eraseIdx_cons_succ, and_true]; omega) | (simp [Over] <;> omega)) ?_
      unfold mkT; rw [if_pos (by simp_all), if_neg hK]; rfl

/-- an epoch's key -/
structure Ek where
  com : Nat → Int
  sec : Nat → Int
def ekC (k : Ek) : Array Value := #[.int .u8 (k.com 0), .int .u8 (k.com 1), .int .u8 (k.com 2), .int .u8 (k.com 3), .int .u8 (k.com 4), .int .u8 (k.com 5), .int .u8 (k.com 6), .int .u8 (k.com 7), .int .u8 (k.com 8), .int .u8 (k.com 9), .int .u8 (k.com 10), .int .u8 (k.com 11), .int .u8 (k.com 12), .int .u8 (k.com 13), .int .u8 (k.com 14), .int .u8 (k.com 15), .int .u8 (k.com 16), .int .u8 (k.com 17), .int .u8 (k.com 18), .int .u8 (k.com 19), .int .u8 (k.com 20), .int .u8 (k.com 21), .int .u8 (k.com 22), .int .u8 (k.com 23), .int .u8 (k.com 24), .int .u8 (k.com 25), .int .u8 (k.com 26), .int .u8 (k.com 27), .int .u8 (k.com 28), .int .u8 (k.com 29), .int .u8 (k.com 30), .int .u8 (k.com 31), .int .u8 (k.sec 0), .int .u8 (k.sec 1), .int .u8 (k.sec 2), .int .u8 (k.sec 3), .int .u8 (k.sec 4), .int .u8 (k.sec 5), .int .u8 (k.sec 6), .int .u8 (k.sec 7), .int .u8 (k.sec 8), .int .u8 (k.sec 9), .int .u8 (k.sec 10), .int .u8 (k.sec 11), .int .u8 (k.sec 12), .int .u8 (k.sec 13), .int .u8 (k.sec 14), .int .u8 (k.sec 15), .int .u8 (k.sec 16), .int .u8 (k.sec 17), .int .u8 (k.sec 18), .int .u8 (k.sec 19), .int .u8 (k.sec 20), .int .u8 (k.sec 21), .int .u8 (k.sec 22), .int .u8 (k.sec 23), .int .u8 (k.sec 24), .int .u8 (k.sec 25), .int .u8 (k.sec 26), .int .u8 (k.sec 27), .int .u8 (k.sec 28), .int .u8 (k.sec 29), .int .u8 (k.sec 30), .int .u8 (k.sec 31)]
def zFa : Fa := ⟨fun _ => 0, fun _ => 0, 0, 0, 0, 0⟩
def facN (Z : Fx) (k : Ek) (sec : Int) : Int := (sMul sec (sInv (dScal Z k.sec (⟨#[108, 105, 110, 107]⟩ : ByteArray))).1).1
def facF (Z : Fx) (l : Lk) (k : Ek) (by_ sec : Int) : Fa := ⟨idD Z l, k.com, by_, facN Z k sec, 0, 0⟩
def facT (Z : Fx) (l : Lk) (k : Ek) (by_ x sec : Int) : Value :=
  if linkOk l = true ∧ -1 ≤ by_ ∧ by_ < 512 then
    if KOk x then
      if KOk sec then
        if (Z.ge 4 sec).1 = l.pub then .tuple #[.agg (faC { facF Z l k by_ sec with sr := sigR Z x (dgU (fmD Z (facF Z l k by_ sec))), ss := sigS Z x (dgU (fmD Z (facF Z l k by_ sec))) }), .int .i64 0]
        else .tuple #[.agg (faC zFa), .int .i64 400]
      else .tuple #[.agg (faC zFa), .int .i64 50]
    else .tuple #[.agg (faC zFa), .int .i64 50]
  else .tuple #[.agg (faC zFa), .int .i64 400]
theorem dScal_ok {Z : Fx} (hZ : FxOk Z) (f : Nat → Int) (s : ByteArray) : KOk (dScal Z f s) := by
  have := hZ.bd (⟨#[115, 99, 97, 108, 97, 114]⟩ : ByteArray) (dgU (expL Z f s))
  unfold dScal
  exact ⟨this.1, this.2⟩
theorem facN_bd (Z : Fx) (k : Ek) (sec : Int) : I64 (facN Z k sec) := by
  have := sMul_ok sec (sInv (dScal Z k.sec (⟨#[108, 105, 110, 107]⟩ : ByteArray))).1
  unfold facN
  exact ⟨by have := this.1; omega, by have := this.2; omega⟩
set_option maxHeartbeats 1600000 in
/-- chartroom/links.Factor -/
theorem links_Factor {Z : Fx} (hZ : FxOk Z) (l : Lk) (hl : LkOk l) (k : Ek) (hkc : Byt k.com) (hks : Byt k.sec) (b x sec : Int) (w : World) (hb1 : I64 b) (hg : Glb w) :
    Calls Tryz.prog 7 #[.agg (lkC l), .agg (ekC k), .int .i64 b, .int .i64 x, .int .i64 sec] w (Ret w (facT Z l k b x sec)) := by
  have hg4 := hg.lt
  have hbI := hb1
  clear hb1
  obtain ⟨idf, hid⟩ : ∃ idf, idD Z l = idf := ⟨_, rfl⟩
  obtain ⟨scv, hsc⟩ : ∃ scv, dScal Z k.sec (⟨#[108, 105, 110, 107]⟩ : ByteArray) = scv := ⟨_, rfl⟩
  have hscK := dScal_ok hZ k.sec (⟨#[108, 105, 110, 107]⟩ : ByteArray)
  rw [hsc] at hscK
  obtain ⟨nn, hnn⟩ : ∃ nn, (sMul sec (sInv scv).1).1 = nn := ⟨_, rfl⟩
  have hnb := facN_bd Z k sec
  have hfn : facN Z k sec = nn := by unfold facN; rw [hsc]; exact hnn
  rw [hfn] at hnb
  have hF0 : facF Z l k b sec = ⟨idf, k.com, b, nn, 0, 0⟩ := by unfold facF; rw [hid, hfn]
  have hB := fm_byt hZ (⟨idf, k.com, b, nn, 0, 0⟩ : Fa)
  obtain ⟨mf, hmf⟩ : ∃ mf, fmD Z (⟨idf, k.com, b, nn, 0, 0⟩ : Fa) = mf := ⟨_, rfl⟩
  rw [hmf] at hB
  obtain ⟨r, hr⟩ : ∃ r, sigR Z x (dgU mf) = r := ⟨_, rfl⟩
  obtain ⟨sg, hsg⟩ : ∃ sg, sigS Z x (dgU mf) = sg := ⟨_, rfl⟩
  refine enter (vs := [_, _, _, _, _]) Tryz.func7 rfl Tryz.ntmps7 rfl ?_
  refine CJ.seq ?_
  refine CJ.region ?_
  refine boxR rfl rfl rfl ?_
  intro b5 w5 hb5 ha5 ho5 hm5 hz5
  simp only [Above] at ha5
  try simp only [Off, book, List.cons_append, List.nil_append, List.set_cons_zero, List.set_cons_succ, ne_eq] at ho5
  refine boxR rfl rfl rfl ?_
  intro b6 w6 hb6 ha6 ho6 hm6 hz6
  simp only [Above] at ha6
  try simp only [Off, book, List.cons_append, List.nil_append, List.set_cons_zero, List.set_cons_succ, ne_eq] at ho6
  refine allW Tryz.zeroValue36 rfl rfl ?_
  intro b10 ha10 ho10
  simp only [Above] at ha10
  try simp only [Off, book, List.cons_append, List.nil_append, List.set_cons_zero, List.set_cons_succ, ne_eq] at ho10
  refine rv (fun _ h => Op.noConfusion h) rfl rfl (asg_r rfl) ?_
  refine OJ.done ?_
  refine PJ.next ?_
  refine CJ.seq ?_
  refine CJ.seq ?_
  refine CJ.region ?_
  refine rv (fun _ h => Op.noConfusion h) rfl rfl (ldRAw_r Tryz.isAgg27 Tryz.sizeOf27 rfl (.tail _ (.head _)) hb5 hm5 (by first | (simp only [Off, book, List.cons_append, List.nil_append, List.set_cons_zero, List.set_cons_succ, List.eraseIdx_cons_zero, List.eraseIdx_cons_succ, ne_eq, and_true]; omega) | (simp [Off] <;> omega)) rfl) ?_
  refine rv (fun _ h => Op.noConfusion h) rfl rfl (RV.re (v' := .agg (lkC l)) (bldS_r Tryz.underlying64 Tryz.zeroValue64 (PlF.c Tryz.sizeOf27 (PlF.n)) rfl rfl) (rfl)) ?_
  refine call Tryz.call15 rfl rfl rfl (fun W hS => links_valid l W) ?_
  refine rv (fun _ h => Op.noConfusion h) rfl rfl (notB_r rfl) ?_
  refine rv (fun _ h => Op.noConfusion h) rfl rfl (mv_r rfl) ?_
  refine OJ.split (t := 20) rfl (fun hc1 => ?_) (fun hc1 => ?_)
  · try simp only [decide_eq_true_eq, decide_eq_false_iff_not, Bool.not_eq_true', Bool.not_eq_false'] at hc1
    refine OJ.off rfl (by decide) rfl ?_
    refine OJ.off rfl (by decide) rfl ?_
    refine rv (fun _ h => Op.noConfusion h) rfl rfl (pkT_r rfl rfl) ?_
    refine rv (fun _ h => Op.noConfusion h) rfl rfl (mv_r rfl) ?_
    refine OJ.off rfl (by decide) rfl ?_
    refine OJ.off rfl (by decide) rfl ?_
    refine rv (fun _ h => Op.noConfusion h) rfl rfl (pkT_r rfl rfl) ?_
    refine OJ.done ?_
    refine PJ.next ?_
    refine CJ.condT rfl ?_
    refine CJ.seq ?_
    refine CJ.region ?_
    refine rv (fun _ h => Op.noConfusion h) rfl rfl (ldWAw_r (i := 0) rfl Tryz.isAgg36 Tryz.sizeOf36 rfl rfl) ?_
    refine stWw (i := 0) rfl Tryz.sizeOf36 rfl rfl rfl rfl rfl rfl ?_
    refine rv (fun _ h => Op.noConfusion h) rfl rfl (asg_r rfl) ?_
    refine OJ.done ?_
    refine PJ.next ?_
    refine CJ.ret ?_
    refine PJ.retThen ?_
    refine retO (.inl rfl) Tryz.results7 (RS.wA (i := 0) rfl Tryz.isAgg36 Tryz.sizeOf36 rfl (Nat.le_of_ble_eq_true rfl) (RS.t rfl (RS.n))) (.tail _ (.tail _ (.head _))) (by first | (simp only [Over, List.set_cons_zero, List.set_cons_succ, List.eraseIdx_cons_zero, List.eraseIdx_cons_succ, and_true]; omega) | (simp [Over] <;> omega)) ?_
    unfold facT
    rw [if_neg (by rintro ⟨g1, g2, g3⟩; first | omega | simp_all)]
    rfl
  · try simp only [decide_eq_true_eq, decide_eq_false_iff_not, Bool.not_eq_true', Bool.not_eq_false'] at hc1
    refine rv (fun _ h => Op.noConfusion h) rfl rfl (mv_r rfl) ?_
    refine rv (fun _ h => Op.noConfusion h) rfl rfl (lss_r rfl rfl) ?_
    refine rv (fun _ h => Op.noConfusion h) rfl rfl (pkF_r rfl rfl) ?_
    refine rv (fun _ h => Op.noConfusion h) rfl rfl (mv_r rfl) ?_
    refine OJ.split (t := 24) rfl (fun hc2 => ?_) (fun hc2 => ?_)
    · try simp only [decide_eq_true_eq, decide_eq_false_iff_not, Bool.not_eq_true', Bool.not_eq_false'] at hc2
      refine OJ.off rfl (by decide) rfl ?_
      refine OJ.off rfl (by decide) rfl ?_
      refine rv (fun _ h => Op.noConfusion h) rfl rfl (pkT_r rfl rfl) ?_
      refine OJ.done ?_
      refine PJ.next ?_
      refine CJ.condT rfl ?_
      refine CJ.seq ?_
      refine CJ.region ?_
      refine rv (fun _ h => Op.noConfusion h) rfl rfl (ldWAw_r (i := 0) rfl Tryz.isAgg36 Tryz.sizeOf36 rfl rfl) ?_
      refine stWw (i := 0) rfl Tryz.sizeOf36 rfl rfl rfl rfl rfl rfl ?_
      refine rv (fun _ h => Op.noConfusion h) rfl rfl (asg_r rfl) ?_
      refine OJ.done ?_
      refine PJ.next ?_
      refine CJ.ret ?_
      refine PJ.retThen ?_
      refine retO (.inl rfl) Tryz.results7 (RS.wA (i := 0) rfl Tryz.isAgg36 Tryz.sizeOf36 rfl (Nat.le_of_ble_eq_true rfl) (RS.t rfl (RS.n))) (.tail _ (.tail _ (.head _))) (by first | (simp only [Over, List.set_cons_zero, List.set_cons_succ, List.eraseIdx_cons_zero, List.eraseIdx_cons_succ, and_true]; omega) | (simp [Over] <;> omega)) ?_
      unfold facT
      rw [if_neg (by rintro ⟨g1, g2, g3⟩; first | omega | simp_all)]
      rfl
    · try simp only [decide_eq_true_eq, decide_eq_false_iff_not, Bool.not_eq_true', Bool.not_eq_false'] at hc2
      refine rv (fun _ h => Op.noConfusion h) rfl rfl (mv_r rfl) ?_
      refine rv (fun _ h => Op.noConfusion h) rfl rfl (geq_r rfl rfl) ?_
      refine rv (fun _ h => Op.noConfusion h) rfl rfl (pkF_r rfl rfl) ?_
      refine OJ.done ?_
      refine PJ.next ?_
      refine CJ.cond rfl (fun hc3 => ?_) (fun hc3 => ?_)
      · try simp only [decide_eq_true_eq, decide_eq_false_iff_not, Bool.not_eq_true', Bool.not_eq_false'] at hc3
        refine CJ.seq ?_
        refine CJ.region ?_
        refine rv (fun _ h => Op.noConfusion h) rfl rfl (ldWAw_r (i := 0) rfl Tryz.isAgg36 Tryz.sizeOf36 rfl rfl) ?_
        refine stWw (i := 0) rfl Tryz.sizeOf36 rfl rfl rfl rfl rfl rfl ?_
        refine rv (fun _ h => Op.noConfusion h) rfl rfl (asg_r rfl) ?_
        refine OJ.done ?_
        refine PJ.next ?_
        refine CJ.ret ?_
        refine PJ.retThen ?_
        refine retO (.inl rfl) Tryz.results7 (RS.wA (i := 0) rfl Tryz.isAgg36 Tryz.sizeOf36 rfl (Nat.le_of_ble_eq_true rfl) (RS.t rfl (RS.n))) (.tail _ (.tail _ (.head _))) (by first | (simp only [Over, List.set_cons_zero, List.set_cons_succ, List.eraseIdx_cons_zero, List.eraseIdx_cons_succ, and_true]; omega) | (simp [Over] <;> omega)) ?_
        unfold facT
        rw [if_neg (by rintro ⟨g1, g2, g3⟩; first | omega | simp_all)]
        rfl
      · try simp only [decide_eq_true_eq, decide_eq_false_iff_not, Bool.not_eq_true', Bool.not_eq_false'] at hc3
        refine CJ.skip ?_
        refine PJ.next ?_
        refine CJ.seq ?_
        refine CJ.seq ?_
        refine CJ.region ?_
        refine rv (fun _ h => Op.noConfusion h) rfl rfl (mv_r rfl) ?_
        by_cases hK1 : KOk x
        · refine call Tryz.call12 rfl rfl rfl (fun W hS => pubG_ok hZ x hK1 W) ?_
          refine rv (fun _ h => Op.noConfusion h) rfl rfl (mv_r rfl) ?_
          refine rv (fun _ h => Op.noConfusion h) rfl rfl (ext_r rfl rfl) ?_
          refine rv (fun _ h => Op.noConfusion h) rfl rfl (ext_r rfl rfl) ?_
          refine rv (fun _ h => Op.noConfusion h) rfl rfl (asg_r rfl) ?_
          refine rv (fun _ h => Op.noConfusion h) rfl rfl (asg_r rfl) ?_
          refine OJ.done ?_
          refine PJ.next ?_
          refine CJ.seq ?_
          refine CJ.region ?_
          refine rv (fun _ h => Op.noConfusion h) rfl rfl (mv_r rfl) ?_
          refine rv (fun _ h => Op.noConfusion h) rfl rfl (RV.re (v' := .bool false) (neqI_r rfl rfl) rfl) ?_
          refine OJ.done ?_
          refine PJ.next ?_
          refine CJ.condF rfl ?_
          refine CJ.skip ?_
          refine PJ.next ?_
          refine CJ.seq ?_
          refine CJ.region ?_
          refine rv (fun _ h => Op.noConfusion h) rfl rfl (mv_r rfl) ?_
          by_cases hS2 : KOk sec
          · refine call Tryz.call12 rfl rfl rfl (fun W hS => pubG_ok hZ sec hS2 W) ?_
            refine rv (fun _ h => Op.noConfusion h) rfl rfl (mv_r rfl) ?_
            refine rv (fun _ h => Op.noConfusion h) rfl rfl (ext_r rfl rfl) ?_
            refine rv (fun _ h => Op.noConfusion h) rfl rfl (ext_r rfl rfl) ?_
            refine rv (fun _ h => Op.noConfusion h) rfl rfl (asg_r rfl) ?_
            refine rv (fun _ h => Op.noConfusion h) rfl rfl (asg_r rfl) ?_
            refine OJ.done ?_
            refine PJ.next ?_
            refine CJ.seq ?_
            refine CJ.seq ?_
            refine CJ.region ?_
            refine rv (fun _ h => Op.noConfusion h) rfl rfl (mv_r rfl) ?_
            refine rv (fun _ h => Op.noConfusion h) rfl rfl (RV.re (v' := .bool false) (neqI_r rfl rfl) rfl) ?_
            refine OJ.done ?_
            refine PJ.next ?_
            refine CJ.condF rfl ?_
            refine CJ.skip ?_
            refine PJ.next ?_
            refine CJ.seq ?_
            refine CJ.seq ?_
            refine CJ.region ?_
            refine rv (fun _ h => Op.noConfusion h) rfl rfl (mv_r rfl) ?_
            refine rv (fun _ h => Op.noConfusion h) rfl rfl (fld_r Tryz.underlying27 rfl Tryz.sizeOf3 rfl) ?_
            refine rv (fun _ h => Op.noConfusion h) rfl rfl (ldR_r Tryz.isAgg3 rfl (.tail _ (.head _)) hb5 hm5 (by first | (simp only [Off, book, List.cons_append, List.nil_append, List.set_cons_zero, List.set_cons_succ, List.eraseIdx_cons_zero, List.eraseIdx_cons_succ, ne_eq, and_true]; omega) | (simp [Off] <;> omega)) rfl) ?_
            refine rv (fun _ h => Op.noConfusion h) rfl rfl (neqI_r rfl rfl) ?_
            refine OJ.done ?_
            refine PJ.next ?_
            refine CJ.cond rfl (fun hc4 => ?_) (fun hc4 => ?_)
            · try simp only [decide_eq_true_eq, decide_eq_false_iff_not, Bool.not_eq_true', Bool.not_eq_false'] at hc4
              refine CJ.seq ?_
              refine CJ.region ?_
              refine rv (fun _ h => Op.noConfusion h) rfl rfl (ldWAw_r (i := 0) rfl Tryz.isAgg36 Tryz.sizeOf36 rfl rfl) ?_
              refine stWw (i := 0) rfl Tryz.sizeOf36 rfl rfl rfl rfl rfl rfl ?_
              refine rv (fun _ h => Op.noConfusion h) rfl rfl (asg_r rfl) ?_
              refine OJ.done ?_
              refine PJ.next ?_
              refine CJ.ret ?_
              refine PJ.retThen ?_
              refine retO (.inl rfl) Tryz.results7 (RS.wA (i := 0) rfl Tryz.isAgg36 Tryz.sizeOf36 rfl (Nat.le_of_ble_eq_true rfl) (RS.t rfl (RS.n))) (.tail _ (.tail _ (.head _))) (by first | (simp only [Over, List.set_cons_zero, List.set_cons_succ, List.eraseIdx_cons_zero, List.eraseIdx_cons_succ, and_true]; omega) | (simp [Over] <;> omega)) ?_
              unfold facT
              rw [if_pos (show linkOk l = true ∧ -1 ≤ b ∧ b < 512 from ⟨by simp_all, by omega, by omega⟩), if_pos hK1, if_pos hS2, if_neg (by assumption)]
              rfl
            · try simp only [decide_eq_true_eq, decide_eq_false_iff_not, Bool.not_eq_true', Bool.not_eq_false'] at hc4
              refine CJ.skip ?_
              refine PJ.next ?_
              refine CJ.seq ?_
              refine CJ.less (E' := [(0, _), (1, _), (2, _), (3, _), (4, _), (5, _), (6, _), (10, _), (11, _), (13, _), (14, _), (16, _), (17, _), (18, _), (19, _), (20, _), (21, _), (22, _), (23, _), (24, _), (25, _), (26, _), (27, _), (29, _), (30, _), (31, _), (32, _), (33, _), (34, _), (35, _), (38, _), (39, _), (40, _), (41, _), (42, _), (43, _), (44, _), (47, _), (48, _), (49, _), (50, _)]) ⟨rfl, rfl, rfl, rfl, rfl, rfl, rfl, rfl, rfl, rfl, rfl, rfl, rfl, rfl, rfl, rfl, rfl, rfl, rfl, rfl, rfl, rfl, rfl, rfl, rfl, rfl, rfl, rfl, rfl, rfl, rfl, rfl, rfl, rfl, rfl, rfl, rfl, rfl, rfl, rfl, rfl, trivial⟩ ?_
              refine CJ.chn 7 [6] [([], some (.agg (lkC l))), ([0], some (.agg (dg idf))), ([], some _), ([2], some (.agg (dg k.com))), ([], some _), ([1, 3, 4], some _), ([], none)] (fun cv L' H' => match cv with | [] => L' = [w6, w5, w] ∧ H' = [(b10, .cells (faC zFa) 36 (0, 0))] | [v1] => ∃ (b15 : Nat), v1 = ptr b15 0 ∧ L' = [w6, w5, w] ∧ H' = [(b15, .cells (faC zFa) 36 (0, 0)), (b10, .cells (faC zFa) 36 (0, 0))] ∧ w6.heap.size ≤ b15 ∧ w5.heap.size ≤ b15 ∧ w.heap.size ≤ b15 ∧ b10 ≠ b15 | _ => False) (by kernel_rfl) ⟨rfl, rfl⟩ (by kernel_rfl) (by kernel_rfl) (by kernel_rfl) (by kernel_rfl) (by kernel_rfl) (by kernel_rfl) (pc (fun cv L' H' hd hP => match cv, hd, hP with | [], hd, hP => (by obtain ⟨rfl, rfl⟩ := hP; exact X.val (fun _ h => Op.noConfusion h) rfl (ldRAw_r Tryz.isAgg27 Tryz.sizeOf27 rfl (.tail _ (.head _)) hb5 hm5 (by first | (simp only [Off, book, List.cons_append, List.nil_append, List.set_cons_zero, List.set_cons_succ, List.eraseIdx_cons_zero, List.eraseIdx_cons_succ, ne_eq, and_true]; omega) | (simp [Off] <;> omega)) rfl) (fun _ _ => rfl)) | [v1], hd, hP => (by obtain ⟨b15, rfl, rfl, rfl, ha15, hA15, hC15, ho15⟩ := hP; exact X.val (fun _ h => Op.noConfusion h) rfl (ldRAw_r Tryz.isAgg27 Tryz.sizeOf27 rfl (.tail _ (.head _)) hb5 hm5 (by first | (simp only [Off, book, List.cons_append, List.nil_append, List.set_cons_zero, List.set_cons_succ, List.eraseIdx_cons_zero, List.eraseIdx_cons_succ, ne_eq, and_true]; omega) | (simp [Off] <;> omega)) rfl) (fun _ _ => rfl)) | _ :: _ :: _, _, hP => hP.elim) (pc (fun cv L' H' hd hP => match cv, hd, hP with | [], hd, hP => (by obtain ⟨rfl, rfl⟩ := hP; exact X.callV Tryz.call9 rfl rfl (fun W hS _ => by rw [← hid]; exact links_ID hZ l hl W (hg.old hS (.tail _ (.tail _ (.head _))) (fun _ _ h => h) (by first | exact True.intro | (simp only [Over, List.set_cons_zero, List.set_cons_succ, List.eraseIdx_cons_zero, List.eraseIdx_cons_succ, and_true]; omega)))) (fun _ => rfl)) | [v1], hd, hP => (by obtain ⟨b15, rfl, rfl, rfl, ha15, hA15, hC15, ho15⟩ := hP; exact X.callV Tryz.call9 rfl rfl (fun W hS _ => by rw [← hid]; exact links_ID hZ l hl W (hg.old hS (.tail _ (.tail _ (.head _))) (fun _ _ h => h) (by first | exact True.intro | (simp only [Over, List.set_cons_zero, List.set_cons_succ, List.eraseIdx_cons_zero, List.eraseIdx_cons_succ, and_true]; omega)))) (fun _ => rfl)) | _ :: _ :: _, _, hP => hP.elim) (pc (fun cv L' H' hd hP => X.val (fun _ h => Op.noConfusion h) rfl (fld_r Tryz.underlying30 rfl Tryz.sizeOf23 rfl) (fun _ _ => rfl)) (pc (fun cv L' H' hd hP => match cv, hd, hP with | [], hd, hP => (by obtain ⟨rfl, rfl⟩ := hP; exact X.val (fun _ h => Op.noConfusion h) rfl (ldRA_r Tryz.isAgg23 Tryz.sizeOf23 rfl (.head _) hb6 hm6 (by first | (simp only [Off, book, List.cons_append, List.nil_append, List.set_cons_zero, List.set_cons_succ, List.eraseIdx_cons_zero, List.eraseIdx_cons_succ, ne_eq, and_true]; omega) | (simp [Off] <;> omega)) (Nat.le_of_ble_eq_true rfl)) (fun _ _ => rfl)) | [v1], hd, hP => (by obtain ⟨b15, rfl, rfl, rfl, ha15, hA15, hC15, ho15⟩ := hP; exact X.val (fun _ h => Op.noConfusion h) rfl (ldRA_r Tryz.isAgg23 Tryz.sizeOf23 rfl (.head _) hb6 hm6 (by first | (simp only [Off, book, List.cons_append, List.nil_append, List.set_cons_zero, List.set_cons_succ, List.eraseIdx_cons_zero, List.eraseIdx_cons_succ, ne_eq, and_true]; omega) | (simp [Off] <;> omega)) (Nat.le_of_ble_eq_true rfl)) (fun _ _ => rfl)) | _ :: _ :: _, _, hP => hP.elim) (pc (fun cv L' H' hd hP => X.val (fun _ h => Op.noConfusion h) rfl (mv_r rfl) (fun _ _ => rfl)) (pc (fun cv L' H' hd hP => X.val (fun _ h => Op.noConfusion h) rfl (RV.re (v' := .agg (faC ⟨idf, k.com, b, 0, 0, 0⟩)) (bldS_r Tryz.underlying36 Tryz.zeroValue36 (PlF.c Tryz.sizeOf23 (PlF.c Tryz.sizeOf23 (PlF.c Tryz.sizeOf3 (PlF.c Tryz.sizeOf3 (PlF.c Tryz.sizeOf25 (PlF.n)))))) rfl rfl) (rfl)) (fun _ _ => rfl)) (pk (pn)))))))) ?_ ?_
              · refine sc rfl rfl rfl ?_ ?_
                · intro cv L' H' hl hP F Q' hk
                  obtain rfl := List.eq_nil_of_length_eq_zero hl
                  obtain ⟨rfl, rfl⟩ := hP
                  refine allW Tryz.zeroValue36 rfl rfl ?_
                  intro b15 ha ho
                  exact OJ.done (hk _ _ _ ⟨b15, rfl, rfl, rfl, ha.1, ha.2.1, ha.2.2.1, ho.1⟩)
                exact sn
              · intro cv L' H' hl hP
                obtain ⟨v1, rfl⟩ := len1 hl
                obtain ⟨b15, rfl, rfl, rfl, ha15, hA15, hC15, ho15⟩ := hP
                refine stWw (i := 0) rfl Tryz.sizeOf36 rfl rfl rfl rfl rfl rfl ?_
                refine OJ.done ?_
                refine PJ.next ?_
                refine CJ.seq ?_
                refine CJ.seq ?_
                refine CJ.region ?_
                refine rv (fun _ h => Op.noConfusion h) rfl rfl (fld_r Tryz.underlying30 rfl Tryz.sizeOf28 rfl) ?_
                refine rv (fun _ h => Op.noConfusion h) rfl rfl (ldRA_r Tryz.isAgg28 Tryz.sizeOf28 rfl (.head _) hb6 hm6 (by first | (simp only [Off, book, List.cons_append, List.nil_append, List.set_cons_zero, List.set_cons_succ, List.eraseIdx_cons_zero, List.eraseIdx_cons_succ, ne_eq, and_true]; omega) | (simp [Off] <;> omega)) (Nat.le_of_ble_eq_true rfl)) ?_
                refine call Tryz.call23 rfl rfl rfl (fun W hS => by rw [← hsc]; exact schedule_Link hZ k.sec hks W (hg.old hS (.tail _ (.tail _ (.head _))) (fun _ _ h => h) (by first | exact True.intro | (simp only [Over, List.set_cons_zero, List.set_cons_succ, List.eraseIdx_cons_zero, List.eraseIdx_cons_succ, and_true]; omega)))) (v := .int .i64 scv) ?_
                refine rv (fun _ h => Op.noConfusion h) rfl rfl (mv_r rfl) ?_
                refine call Tryz.call22 rfl rfl rfl (fun W hS => by have := proxy_Factor scv sec hscK hS2 W; rw [hnn] at this; exact this) (v := .tuple #[.int .i64 nn, .int .i64 0]) ?_
                refine rv (fun _ h => Op.noConfusion h) rfl rfl (mv_r rfl) ?_
                refine rv (fun _ h => Op.noConfusion h) rfl rfl (ext_r rfl rfl) ?_
                refine rv (fun _ h => Op.noConfusion h) rfl rfl (ext_r rfl rfl) ?_
                refine rv (fun _ h => Op.noConfusion h) rfl rfl (fld_r Tryz.underlying36 rfl Tryz.sizeOf3 rfl) ?_
                refine stW (i := 0) rfl Tryz.sizeOf3 rfl rfl rfl rfl (Nat.le_of_ble_eq_true rfl) rfl ?_
                refine OJ.reH (H' := [(b15, .cells (faC ⟨idf, k.com, b, nn, 0, 0⟩) 36 (0, 0)), (b10, .cells (faC zFa) 36 (0, 0))]) rfl ?_
                refine rv (fun _ h => Op.noConfusion h) rfl rfl (asg_r rfl) ?_
                refine OJ.done ?_
                refine PJ.next ?_
                refine CJ.seq ?_
                refine CJ.region ?_
                refine rv (fun _ h => Op.noConfusion h) rfl rfl (mv_r rfl) ?_
                refine rv (fun _ h => Op.noConfusion h) rfl rfl (RV.re (v' := .bool false) (neqI_r rfl rfl) rfl) ?_
                refine OJ.done ?_
                refine PJ.next ?_
                refine CJ.condF rfl ?_
                refine CJ.skip ?_
                refine PJ.next ?_
                refine CJ.seq ?_
                refine CJ.seq ?_
                refine CJ.region ?_
                refine rv (fun _ h => Op.noConfusion h) rfl rfl (mv_r rfl) ?_
                refine rv (fun _ h => Op.noConfusion h) rfl rfl (ldWAw_r (i := 0) rfl Tryz.isAgg36 Tryz.sizeOf36 rfl rfl) ?_
                refine callX (v := fun b : Nat => .slice (some ⟨b, 0, none⟩) 32 32) (Φ := fun (W : World) (b : Nat) (v1 : World) => W.heap.size ≤ b ∧ v1.heap[b]? = some (.cells (dg mf) 23 (0, 0))) Tryz.call24 rfl rfl rfl (fun W hS => by rw [← hmf]; exact links_fmessage hZ (⟨idf, k.com, b, nn, 0, 0⟩ : Fa) hbI hnb W (hg.old hS (.tail _ (.tail _ (.head _))) (fun _ _ h => h) (by first | exact True.intro | (simp only [Over, List.set_cons_zero, List.set_cons_succ, List.eraseIdx_cons_zero, List.eraseIdx_cons_succ, and_true]; omega)))) ?_
                rintro W74 b74 w74 hS74 hB74 ⟨hq74, hb74⟩
                have hz74 := (Array.getElem?_eq_some_iff.1 hb74).1
                have hA74 := hS74.sizes
                simp only [Above] at hA74
                have hB74s := hB74.size
                have hU74 := hS74.under
                simp only [Under, List.set_cons_zero, List.set_cons_succ] at hU74
                refine call Tryz.call16 rfl rfl rfl (fun W hS => sign32_ok hZ x hK1 mf hB r sg hr hsg b74 _ _ W (hS.old (.head _) hb74 (fun h => h) (by simp only [Off, List.set_cons_zero, List.set_cons_succ, List.eraseIdx_cons_zero, List.eraseIdx_cons_succ, ne_eq, and_true]; omega)) (hg.old hS (.tail _ (.tail _ (.tail _ (.head _)))) (fun _ _ h => h) (by first | exact True.intro | (simp only [Over, List.set_cons_zero, List.set_cons_succ, List.eraseIdx_cons_zero, List.eraseIdx_cons_succ, and_true]; omega)))) ?_
                refine rv (fun _ h => Op.noConfusion h) rfl rfl (mv_r rfl) ?_
                refine rv (fun _ h => Op.noConfusion h) rfl rfl (ext_r rfl rfl) ?_
                refine rv (fun _ h => Op.noConfusion h) rfl rfl (ext_r rfl rfl) ?_
                refine rv (fun _ h => Op.noConfusion h) rfl rfl (fld_r Tryz.underlying36 rfl Tryz.sizeOf25 rfl) ?_
                refine stW (i := 0) rfl Tryz.sizeOf25 rfl rfl rfl rfl (Nat.le_of_ble_eq_true rfl) rfl ?_
                refine rv (fun _ h => Op.noConfusion h) rfl rfl (asg_r rfl) ?_
                refine OJ.done ?_
                refine PJ.next ?_
                refine CJ.seq ?_
                refine CJ.region ?_
                refine rv (fun _ h => Op.noConfusion h) rfl rfl (mv_r rfl) ?_
                refine rv (fun _ h => Op.noConfusion h) rfl rfl (RV.re (v' := .bool false) (neqI_r rfl rfl) rfl) ?_
                refine OJ.done ?_
                refine PJ.next ?_
                refine CJ.condF rfl ?_
                refine CJ.skip ?_
                refine PJ.next ?_
                refine CJ.seq ?_
                refine CJ.region ?_
                refine rv (fun _ h => Op.noConfusion h) rfl rfl (ldWAw_r (i := 0) rfl Tryz.isAgg36 Tryz.sizeOf36 rfl rfl) ?_
                refine stWw (i := 1) rfl Tryz.sizeOf36 rfl rfl rfl rfl rfl rfl ?_
                refine rv (fun _ h => Op.noConfusion h) rfl rfl (asg_r rfl) ?_
                refine OJ.done ?_
                refine PJ.next ?_
                refine CJ.ret ?_
                refine retO (.inl rfl) Tryz.results7 (RS.wA (i := 1) rfl Tryz.isAgg36 Tryz.sizeOf36 rfl (Nat.le_of_ble_eq_true rfl) (RS.t rfl (RS.n))) (.tail _ (.tail _ (.tail _ (.head _)))) (by first | (simp only [Over, List.set_cons_zero, List.set_cons_succ, List.eraseIdx_cons_zero, List.eraseIdx_cons_succ, and_true]; omega) | (simp [Over] <;> omega)) ?_
                unfold facT
                rw [if_pos (show linkOk l = true ∧ -1 ≤ b ∧ b < 512 from ⟨by simp_all, by omega, by omega⟩), if_pos hK1, if_pos hS2, if_pos (by simp_all), hF0, hmf, hr, hsg]
                rfl
          · refine call Tryz.call12 rfl rfl rfl (fun W hS => pubG_no sec hS2 W) ?_
            refine rv (fun _ h => Op.noConfusion h) rfl rfl (mv_r rfl) ?_
            refine rv (fun _ h => Op.noConfusion h) rfl rfl (ext_r rfl rfl) ?_
            refine rv (fun _ h => Op.noConfusion h) rfl rfl (ext_r rfl rfl) ?_
            refine rv (fun _ h => Op.noConfusion h) rfl rfl (asg_r rfl) ?_
            refine rv (fun _ h => Op.noConfusion h) rfl rfl (asg_r rfl) ?_
            refine OJ.done ?_
            refine PJ.next ?_
            refine CJ.seq ?_
            refine CJ.seq ?_
            refine CJ.region ?_
            refine rv (fun _ h => Op.noConfusion h) rfl rfl (mv_r rfl) ?_
            refine rv (fun _ h => Op.noConfusion h) rfl rfl (RV.re (v' := .bool true) (neqI_r rfl rfl) rfl) ?_
            refine OJ.done ?_
            refine PJ.next ?_
            refine CJ.condT rfl ?_
            refine CJ.seq ?_
            refine CJ.region ?_
            refine rv (fun _ h => Op.noConfusion h) rfl rfl (ldWAw_r (i := 0) rfl Tryz.isAgg36 Tryz.sizeOf36 rfl rfl) ?_
            refine rv (fun _ h => Op.noConfusion h) rfl rfl (mv_r rfl) ?_
            refine stWw (i := 0) rfl Tryz.sizeOf36 rfl rfl rfl rfl rfl rfl ?_
            refine rv (fun _ h => Op.noConfusion h) rfl rfl (asg_r rfl) ?_
            refine OJ.done ?_
            refine PJ.next ?_
            refine CJ.ret ?_
            refine PJ.retThen ?_
            refine retO (.inl rfl) Tryz.results7 (RS.wA (i := 0) rfl Tryz.isAgg36 Tryz.sizeOf36 rfl (Nat.le_of_ble_eq_true rfl) (RS.t rfl (RS.n))) (.tail _ (.tail _ (.head _))) (by first | (simp only [Over, List.set_cons_zero, List.set_cons_succ, List.eraseIdx_cons_zero, List.eraseIdx_cons_succ, and_true]; omega) | (simp [Over] <;> omega)) ?_
            unfold facT
            rw [if_pos (show linkOk l = true ∧ -1 ≤ b ∧ b < 512 from ⟨by simp_all, by omega, by omega⟩), if_pos hK1, if_neg hS2]
            rfl
        · refine call Tryz.call12 rfl rfl rfl (fun W hS => pubG_no x hK1 W) ?_
          refine rv (fun _ h => Op.noConfusion h) rfl rfl (mv_r rfl) ?_
          refine rv (fun _ h => Op.noConfusion h) rfl rfl (ext_r rfl rfl) ?_
          refine rv (fun _ h => Op.noConfusion h) rfl rfl (ext_r rfl rfl) ?_
          refine rv (fun _ h => Op.noConfusion h) rfl rfl (asg_r rfl) ?_
          refine rv (fun _ h => Op.noConfusion h) rfl rfl (asg_r rfl) ?_
          refine OJ.done ?_
          refine PJ.next ?_
          refine CJ.seq ?_
          refine CJ.region ?_
          refine rv (fun _ h => Op.noConfusion h) rfl rfl (mv_r rfl) ?_
          refine rv (fun _ h => Op.noConfusion h) rfl rfl (RV.re (v' := .bool true) (neqI_r rfl rfl) rfl) ?_
          refine OJ.done ?_
          refine PJ.next ?_
          refine CJ.condT rfl ?_
          refine CJ.seq ?_
          refine CJ.region ?_
          refine rv (fun _ h => Op.noConfusion h) rfl rfl (ldWAw_r (i := 0) rfl Tryz.isAgg36 Tryz.sizeOf36 rfl rfl) ?_
          refine rv (fun _ h => Op.noConfusion h) rfl rfl (mv_r rfl) ?_
          refine stWw (i := 0) rfl Tryz.sizeOf36 rfl rfl rfl rfl rfl rfl ?_
          refine rv (fun _ h => Op.noConfusion h) rfl rfl (asg_r rfl) ?_
          refine OJ.done ?_
          refine PJ.next ?_
          refine CJ.ret ?_
          refine PJ.retThen ?_
          refine retO (.inl rfl) Tryz.results7 (RS.wA (i := 0) rfl Tryz.isAgg36 Tryz.sizeOf36 rfl (Nat.le_of_ble_eq_true rfl) (RS.t rfl (RS.n))) (.tail _ (.tail _ (.head _))) (by first | (simp only [Over, List.set_cons_zero, List.set_cons_succ, List.eraseIdx_cons_zero, List.eraseIdx_cons_succ, and_true]; omega) | (simp [Over] <;> omega)) ?_
          unfold facT
          rw [if_pos (show linkOk l = true ∧ -1 ≤ b ∧ b < 512 from ⟨by simp_all, by omega, by omega⟩), if_neg hK1]
          rfl

end Px
namespace Px
open Go Go.RowKit Go.Proofs
set_option maxHeartbeats 1600000 in
/-- chartroom/chartroomref40.Factor -/
theorem r40_Factor {Z : Fx} (hZ : FxOk Z) (l : Lk) (hl : LkOk l) (k : Ek) (hkc : Byt k.com) (hks : Byt k.sec) (b x sec : Int) (w : World) (hb1 : I64 b) :
    Calls Tryz.prog 8 #[.agg (lkC l), .agg (ekC k), .int .i64 b, .int .i64 x, .int .i64 sec] w (Ret w (facT Z l k b x sec)) := by
  have hbI := hb1
  clear hb1
  obtain ⟨idf, hid⟩ : ∃ idf, idD Z l = idf := ⟨_, rfl⟩
  obtain ⟨scv, hsc⟩ : ∃ scv, dScal Z k.sec (⟨#[108, 105, 110, 107]⟩ : ByteArray) = scv := ⟨_, rfl⟩
  have hscK := dScal_ok hZ k.sec (⟨#[108, 105, 110, 107]⟩ : ByteArray)
  rw [hsc] at hscK
  obtain ⟨nn, hnn⟩ : ∃ nn, (sMul sec (sInv scv).1).1 = nn := ⟨_, rfl⟩
  have hnb := facN_bd Z k sec
  have hfn : facN Z k sec = nn := by unfold facN; rw [hsc]; exact hnn
  rw [hfn] at hnb
  have hF0 : facF Z l k b sec = ⟨idf, k.com, b, nn, 0, 0⟩ := by unfold facF; rw [hid, hfn]
  have hB := fm_byt hZ (⟨idf, k.com, b, nn, 0, 0⟩ : Fa)
  obtain ⟨mf, hmf⟩ : ∃ mf, fmD Z (⟨idf, k.com, b, nn, 0, 0⟩ : Fa) = mf := ⟨_, rfl⟩
  rw [hmf] at hB
  obtain ⟨r, hr⟩ : ∃ r, sigR Z x (dgU mf) = r := ⟨_, rfl⟩
  obtain ⟨sg, hsg⟩ : ∃ sg, sigS Z x (dgU mf) = sg := ⟨_, rfl⟩
  refine enter (vs := [_, _, _, _, _]) Tryz.func8 rfl Tryz.ntmps8 rfl ?_
  refine CJ.seq ?_
  refine CJ.region ?_
  refine boxR rfl rfl rfl ?_
  intro b5 w5 hb5 ha5 ho5 hm5 hz5
  simp only [Above] at ha5
  try simp only [Off, book, List.cons_append, List.nil_append, List.set_cons_zero, List.set_cons_succ, ne_eq] at ho5
  refine boxR rfl rfl rfl ?_
  intro b6 w6 hb6 ha6 ho6 hm6 hz6
  simp only [Above] at ha6
  try simp only [Off, book, List.cons_append, List.nil_append, List.set_cons_zero, List.set_cons_succ, ne_eq] at ho6
  refine allW Tryz.zeroValue36 rfl rfl ?_
  intro b10 ha10 ho10
  simp only [Above] at ha10
  try simp only [Off, book, List.cons_append, List.nil_append, List.set_cons_zero, List.set_cons_succ, ne_eq] at ho10
  refine rv (fun _ h => Op.noConfusion h) rfl rfl (asg_r rfl) ?_
  refine OJ.done ?_
  refine PJ.next ?_
  refine CJ.seq ?_
  refine CJ.seq ?_
  refine CJ.region ?_
  refine rv (fun _ h => Op.noConfusion h) rfl rfl (ldRAw_r Tryz.isAgg27 Tryz.sizeOf27 rfl (.tail _ (.head _)) hb5 hm5 (by first | (simp only [Off, book, List.cons_append, List.nil_append, List.set_cons_zero, List.set_cons_succ, List.eraseIdx_cons_zero, List.eraseIdx_cons_succ, ne_eq, and_true]; omega) | (simp [Off] <;> omega)) rfl) ?_
  refine call Tryz.call18 rfl rfl rfl (fun W hS => r40_Formed l W) ?_
  refine rv (fun _ h => Op.noConfusion h) rfl rfl (notB_r rfl) ?_
  refine rv (fun _ h => Op.noConfusion h) rfl rfl (mv_r rfl) ?_
  refine OJ.split (t := 19) rfl (fun hc1 => ?_) (fun hc1 => ?_)
  · try simp only [decide_eq_true_eq, decide_eq_false_iff_not, Bool.not_eq_true', Bool.not_eq_false'] at hc1
    refine OJ.off rfl (by decide) rfl ?_
    refine OJ.off rfl (by decide) rfl ?_
    refine rv (fun _ h => Op.noConfusion h) rfl rfl (pkT_r rfl rfl) ?_
    refine rv (fun _ h => Op.noConfusion h) rfl rfl (mv_r rfl) ?_
    refine OJ.off rfl (by decide) rfl ?_
    refine OJ.off rfl (by decide) rfl ?_
    refine rv (fun _ h => Op.noConfusion h) rfl rfl (pkT_r rfl rfl) ?_
    refine OJ.done ?_
    refine PJ.next ?_
    refine CJ.condT rfl ?_
    refine CJ.seq ?_
    refine CJ.region ?_
    refine rv (fun _ h => Op.noConfusion h) rfl rfl (bldS_r Tryz.underlying36 Tryz.zeroValue36 (PlF.c Tryz.sizeOf23 (PlF.c Tryz.sizeOf23 (PlF.c Tryz.sizeOf3 (PlF.c Tryz.sizeOf3 (PlF.c Tryz.sizeOf25 (PlF.n)))))) rfl rfl) ?_
    refine stWw (i := 0) rfl Tryz.sizeOf36 rfl rfl rfl rfl rfl rfl ?_
    refine rv (fun _ h => Op.noConfusion h) rfl rfl (asg_r rfl) ?_
    refine OJ.done ?_
    refine PJ.next ?_
    refine CJ.ret ?_
    refine PJ.retThen ?_
    refine retO (.inl rfl) Tryz.results8 (RS.wA (i := 0) rfl Tryz.isAgg36 Tryz.sizeOf36 rfl (Nat.le_of_ble_eq_true rfl) (RS.t rfl (RS.n))) (.tail _ (.tail _ (.head _))) (by first | (simp only [Over, List.set_cons_zero, List.set_cons_succ, List.eraseIdx_cons_zero, List.eraseIdx_cons_succ, and_true]; omega) | (simp [Over] <;> omega)) ?_
    unfold facT
    rw [if_neg (by rintro ⟨g1, g2, g3⟩; first | omega | simp_all)]
    rfl
  · try simp only [decide_eq_true_eq, decide_eq_false_iff_not, Bool.not_eq_true', Bool.not_eq_false'] at hc1
    refine rv (fun _ h => Op.noConfusion h) rfl rfl (mv_r rfl) ?_
    refine rv (fun _ h => Op.noConfusion h) rfl rfl (lss_r rfl rfl) ?_
    refine rv (fun _ h => Op.noConfusion h) rfl rfl (pkF_r rfl rfl) ?_
    refine rv (fun _ h => Op.noConfusion h) rfl rfl (mv_r rfl) ?_
    refine OJ.split (t := 23) rfl (fun hc2 => ?_) (fun hc2 => ?_)
    · try simp only [decide_eq_true_eq, decide_eq_false_iff_not, Bool.not_eq_true', Bool.not_eq_false'] at hc2
      refine OJ.off rfl (by decide) rfl ?_
      refine OJ.off rfl (by decide) rfl ?_
      refine rv (fun _ h => Op.noConfusion h) rfl rfl (pkT_r rfl rfl) ?_
      refine OJ.done ?_
      refine PJ.next ?_
      refine CJ.condT rfl ?_
      refine CJ.seq ?_
      refine CJ.region ?_
      refine rv (fun _ h => Op.noConfusion h) rfl rfl (bldS_r Tryz.underlying36 Tryz.zeroValue36 (PlF.c Tryz.sizeOf23 (PlF.c Tryz.sizeOf23 (PlF.c Tryz.sizeOf3 (PlF.c Tryz.sizeOf3 (PlF.c Tryz.sizeOf25 (PlF.n)))))) rfl rfl) ?_
      refine stWw (i := 0) rfl Tryz.sizeOf36 rfl rfl rfl rfl rfl rfl ?_
      refine rv (fun _ h => Op.noConfusion h) rfl rfl (asg_r rfl) ?_
      refine OJ.done ?_
      refine PJ.next ?_
      refine CJ.ret ?_
      refine PJ.retThen ?_
      refine retO (.inl rfl) Tryz.results8 (RS.wA (i := 0) rfl Tryz.isAgg36 Tryz.sizeOf36 rfl (Nat.le_of_ble_eq_true rfl) (RS.t rfl (RS.n))) (.tail _ (.tail _ (.head _))) (by first | (simp only [Over, List.set_cons_zero, List.set_cons_succ, List.eraseIdx_cons_zero, List.eraseIdx_cons_succ, and_true]; omega) | (simp [Over] <;> omega)) ?_
      unfold facT
      rw [if_neg (by rintro ⟨g1, g2, g3⟩; first | omega | simp_all)]
      rfl
    · try simp only [decide_eq_true_eq, decide_eq_false_iff_not, Bool.not_eq_true', Bool.not_eq_false'] at hc2
      refine rv (fun _ h => Op.noConfusion h) rfl rfl (mv_r rfl) ?_
      refine rv (fun _ h => Op.noConfusion h) rfl rfl (geq_r rfl rfl) ?_
      refine rv (fun _ h => Op.noConfusion h) rfl rfl (pkF_r rfl rfl) ?_
      refine OJ.done ?_
      refine PJ.next ?_
      refine CJ.cond rfl (fun hc3 => ?_) (fun hc3 => ?_)
      · try simp only [decide_eq_true_eq, decide_eq_false_iff_not, Bool.not_eq_true', Bool.not_eq_false'] at hc3
        refine CJ.seq ?_
        refine CJ.region ?_
        refine rv (fun _ h => Op.noConfusion h) rfl rfl (bldS_r Tryz.underlying36 Tryz.zeroValue36 (PlF.c Tryz.sizeOf23 (PlF.c Tryz.sizeOf23 (PlF.c Tryz.sizeOf3 (PlF.c Tryz.sizeOf3 (PlF.c Tryz.sizeOf25 (PlF.n)))))) rfl rfl) ?_
        refine stWw (i := 0) rfl Tryz.sizeOf36 rfl rfl rfl rfl rfl rfl ?_
        refine rv (fun _ h => Op.noConfusion h) rfl rfl (asg_r rfl) ?_
        refine OJ.done ?_
        refine PJ.next ?_
        refine CJ.ret ?_
        refine PJ.retThen ?_
        refine retO (.inl rfl) Tryz.results8 (RS.wA (i := 0) rfl Tryz.isAgg36 Tryz.sizeOf36 rfl (Nat.le_of_ble_eq_true rfl) (RS.t rfl (RS.n))) (.tail _ (.tail _ (.head _))) (by first | (simp only [Over, List.set_cons_zero, List.set_cons_succ, List.eraseIdx_cons_zero, List.eraseIdx_cons_succ, and_true]; omega) | (simp [Over] <;> omega)) ?_
        unfold facT
        rw [if_neg (by rintro ⟨g1, g2, g3⟩; first | omega | simp_all)]
        rfl
      · try simp only [decide_eq_true_eq, decide_eq_false_iff_not, Bool.not_eq_true', Bool.not_eq_false'] at hc3
        refine CJ.skip ?_
        refine PJ.next ?_
        refine CJ.seq ?_
        refine CJ.region ?_
        refine rv (fun _ h => Op.noConfusion h) rfl rfl (mv_r rfl) ?_
        by_cases hK1 : KOk x
        · refine call Tryz.call19 rfl rfl rfl (fun W hS => publicR hZ x hK1 W) ?_
          refine rv (fun _ h => Op.noConfusion h) rfl rfl (mv_r rfl) ?_
          refine rv (fun _ h => Op.noConfusion h) rfl rfl (ext_r rfl rfl) ?_
          refine rv (fun _ h => Op.noConfusion h) rfl rfl (ext_r rfl rfl) ?_
          refine rv (fun _ h => Op.noConfusion h) rfl rfl (asg_r rfl) ?_
          refine rv (fun _ h => Op.noConfusion h) rfl rfl (asg_r rfl) ?_
          refine OJ.done ?_
          refine PJ.next ?_
          refine CJ.seq ?_
          refine CJ.seq ?_
          refine CJ.region ?_
          refine rv (fun _ h => Op.noConfusion h) rfl rfl (mv_r rfl) ?_
          refine rv (fun _ h => Op.noConfusion h) rfl rfl (RV.re (v' := .bool false) (neqI_r rfl rfl) rfl) ?_
          refine OJ.done ?_
          refine PJ.next ?_
          refine CJ.condF rfl ?_
          refine CJ.skip ?_
          refine PJ.next ?_
          refine CJ.seq ?_
          refine CJ.region ?_
          refine rv (fun _ h => Op.noConfusion h) rfl rfl (mv_r rfl) ?_
          by_cases hS2 : KOk sec
          · refine call Tryz.call19 rfl rfl rfl (fun W hS => publicR hZ sec hS2 W) ?_
            refine rv (fun _ h => Op.noConfusion h) rfl rfl (mv_r rfl) ?_
            refine rv (fun _ h => Op.noConfusion h) rfl rfl (ext_r rfl rfl) ?_
            refine rv (fun _ h => Op.noConfusion h) rfl rfl (ext_r rfl rfl) ?_
            refine rv (fun _ h => Op.noConfusion h) rfl rfl (asg_r rfl) ?_
            refine rv (fun _ h => Op.noConfusion h) rfl rfl (asg_r rfl) ?_
            refine OJ.done ?_
            refine PJ.next ?_
            refine CJ.seq ?_
            refine CJ.seq ?_
            refine CJ.region ?_
            refine rv (fun _ h => Op.noConfusion h) rfl rfl (mv_r rfl) ?_
            refine rv (fun _ h => Op.noConfusion h) rfl rfl (RV.re (v' := .bool false) (neqI_r rfl rfl) rfl) ?_
            refine OJ.done ?_
            refine PJ.next ?_
            refine CJ.condF rfl ?_
            refine CJ.skip ?_
            refine PJ.next ?_
            refine CJ.seq ?_
            refine CJ.seq ?_
            refine CJ.region ?_
            refine rv (fun _ h => Op.noConfusion h) rfl rfl (mv_r rfl) ?_
            refine rv (fun _ h => Op.noConfusion h) rfl rfl (fld_r Tryz.underlying27 rfl Tryz.sizeOf3 rfl) ?_
            refine rv (fun _ h => Op.noConfusion h) rfl rfl (ldR_r Tryz.isAgg3 rfl (.tail _ (.head _)) hb5 hm5 (by first | (simp only [Off, book, List.cons_append, List.nil_append, List.set_cons_zero, List.set_cons_succ, List.eraseIdx_cons_zero, List.eraseIdx_cons_succ, ne_eq, and_true]; omega) | (simp [Off] <;> omega)) rfl) ?_
            refine rv (fun _ h => Op.noConfusion h) rfl rfl (neqI_r rfl rfl) ?_
            refine OJ.done ?_
            refine PJ.next ?_
            refine CJ.cond rfl (fun hc4 => ?_) (fun hc4 => ?_)
            · try simp only [decide_eq_true_eq, decide_eq_false_iff_not, Bool.not_eq_true', Bool.not_eq_false'] at hc4
              refine CJ.seq ?_
              refine CJ.region ?_
              refine rv (fun _ h => Op.noConfusion h) rfl rfl (bldS_r Tryz.underlying36 Tryz.zeroValue36 (PlF.c Tryz.sizeOf23 (PlF.c Tryz.sizeOf23 (PlF.c Tryz.sizeOf3 (PlF.c Tryz.sizeOf3 (PlF.c Tryz.sizeOf25 (PlF.n)))))) rfl rfl) ?_
              refine stWw (i := 0) rfl Tryz.sizeOf36 rfl rfl rfl rfl rfl rfl ?_
              refine rv (fun _ h => Op.noConfusion h) rfl rfl (asg_r rfl) ?_
              refine OJ.done ?_
              refine PJ.next ?_
              refine CJ.ret ?_
              refine PJ.retThen ?_
              refine retO (.inl rfl) Tryz.results8 (RS.wA (i := 0) rfl Tryz.isAgg36 Tryz.sizeOf36 rfl (Nat.le_of_ble_eq_true rfl) (RS.t rfl (RS.n))) (.tail _ (.tail _ (.head _))) (by first | (simp only [Over, List.set_cons_zero, List.set_cons_succ, List.eraseIdx_cons_zero, List.eraseIdx_cons_succ, and_true]; omega) | (simp [Over] <;> omega)) ?_
              unfold facT
              rw [if_pos (show linkOk l = true ∧ -1 ≤ b ∧ b < 512 from ⟨by simp_all, by omega, by omega⟩), if_pos hK1, if_pos hS2, if_neg (by assumption)]
              rfl
            · try simp only [decide_eq_true_eq, decide_eq_false_iff_not, Bool.not_eq_true', Bool.not_eq_false'] at hc4
              refine CJ.skip ?_
              refine PJ.next ?_
              refine CJ.seq ?_
              refine CJ.less (E' := [(0, _), (1, _), (2, _), (3, _), (4, _), (5, _), (6, _), (10, _), (11, _), (13, _), (14, _), (16, _), (17, _), (18, _), (19, _), (20, _), (21, _), (22, _), (23, _), (24, _), (25, _), (26, _), (28, _), (29, _), (30, _), (31, _), (32, _), (33, _), (34, _), (37, _), (38, _), (39, _), (40, _), (41, _), (42, _), (43, _), (46, _), (47, _), (48, _), (49, _)]) ⟨rfl, rfl, rfl, rfl, rfl, rfl, rfl, rfl, rfl, rfl, rfl, rfl, rfl, rfl, rfl, rfl, rfl, rfl, rfl, rfl, rfl, rfl, rfl, rfl, rfl, rfl, rfl, rfl, rfl, rfl, rfl, rfl, rfl, rfl, rfl, rfl, rfl, rfl, rfl, rfl, trivial⟩ ?_
              refine CJ.chn 7 [6] [([], some (.agg (lkC l))), ([0], some (.agg (dg idf))), ([], some _), ([2], some (.agg (dg k.com))), ([], some _), ([1, 3, 4], some _), ([], none)] (fun cv L' H' => match cv with | [] => L' = [w6, w5, w] ∧ H' = [(b10, .cells (faC zFa) 36 (0, 0))] | [v1] => ∃ (b15 : Nat), v1 = ptr b15 0 ∧ L' = [w6, w5, w] ∧ H' = [(b15, .cells (faC zFa) 36 (0, 0)), (b10, .cells (faC zFa) 36 (0, 0))] ∧ w6.heap.size ≤ b15 ∧ w5.heap.size ≤ b15 ∧ w.heap.size ≤ b15 ∧ b10 ≠ b15 | _ => False) (by kernel_rfl) ⟨rfl, rfl⟩ (by kernel_rfl) (by kernel_rfl) (by kernel_rfl) (by kernel_rfl) (by kernel_rfl) (by kernel_rfl) (pc (fun cv L' H' hd hP => match cv, hd, hP with | [], hd, hP => (by obtain ⟨rfl, rfl⟩ := hP; exact X.val (fun _ h => Op.noConfusion h) rfl (ldRAw_r Tryz.isAgg27 Tryz.sizeOf27 rfl (.tail _ (.head _)) hb5 hm5 (by first | (simp only [Off, book, List.cons_append, List.nil_append, List.set_cons_zero, List.set_cons_succ, List.eraseIdx_cons_zero, List.eraseIdx_cons_succ, ne_eq, and_true]; omega) | (simp [Off] <;> omega)) rfl) (fun _ _ => rfl)) | [v1], hd, hP => (by obtain ⟨b15, rfl, rfl, rfl, ha15, hA15, hC15, ho15⟩ := hP; exact X.val (fun _ h => Op.noConfusion h) rfl (ldRAw_r Tryz.isAgg27 Tryz.sizeOf27 rfl (.tail _ (.head _)) hb5 hm5 (by first | (simp only [Off, book, List.cons_append, List.nil_append, List.set_cons_zero, List.set_cons_succ, List.eraseIdx_cons_zero, List.eraseIdx_cons_succ, ne_eq, and_true]; omega) | (simp [Off] <;> omega)) rfl) (fun _ _ => rfl)) | _ :: _ :: _, _, hP => hP.elim) (pc (fun cv L' H' hd hP => match cv, hd, hP with | [], hd, hP => (by obtain ⟨rfl, rfl⟩ := hP; exact X.callV Tryz.call10 rfl rfl (fun W hS _ => by rw [← hid]; exact r40_ID hZ l hl W) (fun _ => rfl)) | [v1], hd, hP => (by obtain ⟨b15, rfl, rfl, rfl, ha15, hA15, hC15, ho15⟩ := hP; exact X.callV Tryz.call10 rfl rfl (fun W hS _ => by rw [← hid]; exact r40_ID hZ l hl W) (fun _ => rfl)) | _ :: _ :: _, _, hP => hP.elim) (pc (fun cv L' H' hd hP => X.val (fun _ h => Op.noConfusion h) rfl (fld_r Tryz.underlying30 rfl Tryz.sizeOf23 rfl) (fun _ _ => rfl)) (pc (fun cv L' H' hd hP => match cv, hd, hP with | [], hd, hP => (by obtain ⟨rfl, rfl⟩ := hP; exact X.val (fun _ h => Op.noConfusion h) rfl (ldRA_r Tryz.isAgg23 Tryz.sizeOf23 rfl (.head _) hb6 hm6 (by first | (simp only [Off, book, List.cons_append, List.nil_append, List.set_cons_zero, List.set_cons_succ, List.eraseIdx_cons_zero, List.eraseIdx_cons_succ, ne_eq, and_true]; omega) | (simp [Off] <;> omega)) (Nat.le_of_ble_eq_true rfl)) (fun _ _ => rfl)) | [v1], hd, hP => (by obtain ⟨b15, rfl, rfl, rfl, ha15, hA15, hC15, ho15⟩ := hP; exact X.val (fun _ h => Op.noConfusion h) rfl (ldRA_r Tryz.isAgg23 Tryz.sizeOf23 rfl (.head _) hb6 hm6 (by first | (simp only [Off, book, List.cons_append, List.nil_append, List.set_cons_zero, List.set_cons_succ, List.eraseIdx_cons_zero, List.eraseIdx_cons_succ, ne_eq, and_true]; omega) | (simp [Off] <;> omega)) (Nat.le_of_ble_eq_true rfl)) (fun _ _ => rfl)) | _ :: _ :: _, _, hP => hP.elim) (pc (fun cv L' H' hd hP => X.val (fun _ h => Op.noConfusion h) rfl (mv_r rfl) (fun _ _ => rfl)) (pc (fun cv L' H' hd hP => X.val (fun _ h => Op.noConfusion h) rfl (RV.re (v' := .agg (faC ⟨idf, k.com, b, 0, 0, 0⟩)) (bldS_r Tryz.underlying36 Tryz.zeroValue36 (PlF.c Tryz.sizeOf23 (PlF.c Tryz.sizeOf23 (PlF.c Tryz.sizeOf3 (PlF.c Tryz.sizeOf3 (PlF.c Tryz.sizeOf25 (PlF.n)))))) rfl rfl) (rfl)) (fun _ _ => rfl)) (pk (pn)))))))) ?_ ?_
              · refine sc rfl rfl rfl ?_ ?_
                · intro cv L' H' hl hP F Q' hk
                  obtain rfl := List.eq_nil_of_length_eq_zero hl
                  obtain ⟨rfl, rfl⟩ := hP
                  refine allW Tryz.zeroValue36 rfl rfl ?_
                  intro b15 ha ho
                  exact OJ.done (hk _ _ _ ⟨b15, rfl, rfl, rfl, ha.1, ha.2.1, ha.2.2.1, ho.1⟩)
                exact sn
              · intro cv L' H' hl hP
                obtain ⟨v1, rfl⟩ := len1 hl
                obtain ⟨b15, rfl, rfl, rfl, ha15, hA15, hC15, ho15⟩ := hP
                refine stWw (i := 0) rfl Tryz.sizeOf36 rfl rfl rfl rfl rfl rfl ?_
                refine OJ.done ?_
                refine PJ.next ?_
                refine CJ.seq ?_
                refine CJ.region ?_
                refine rv (fun _ h => Op.noConfusion h) rfl rfl (fld_r Tryz.underlying30 rfl Tryz.sizeOf28 rfl) ?_
                refine rv (fun _ h => Op.noConfusion h) rfl rfl (ldRA_r Tryz.isAgg28 Tryz.sizeOf28 rfl (.head _) hb6 hm6 (by first | (simp only [Off, book, List.cons_append, List.nil_append, List.set_cons_zero, List.set_cons_succ, List.eraseIdx_cons_zero, List.eraseIdx_cons_succ, ne_eq, and_true]; omega) | (simp [Off] <;> omega)) (Nat.le_of_ble_eq_true rfl)) ?_
                refine call Tryz.call26 rfl rfl rfl (fun W hS => by rw [← hsc]; exact r22_Link hZ k.sec hks W) (v := .int .i64 scv) ?_
                refine rv (fun _ h => Op.noConfusion h) rfl rfl (mv_r rfl) ?_
                refine call Tryz.call25 rfl rfl rfl (fun W hS => by have := r11_Factor scv sec hscK hS2 W; rw [hnn] at this; exact this) (v := .tuple #[.int .i64 nn, .int .i64 0]) ?_
                refine rv (fun _ h => Op.noConfusion h) rfl rfl (mv_r rfl) ?_
                refine rv (fun _ h => Op.noConfusion h) rfl rfl (ext_r rfl rfl) ?_
                refine rv (fun _ h => Op.noConfusion h) rfl rfl (ext_r rfl rfl) ?_
                refine rv (fun _ h => Op.noConfusion h) rfl rfl (fld_r Tryz.underlying36 rfl Tryz.sizeOf3 rfl) ?_
                refine stW (i := 0) rfl Tryz.sizeOf3 rfl rfl rfl rfl (Nat.le_of_ble_eq_true rfl) rfl ?_
                refine OJ.reH (H' := [(b15, .cells (faC ⟨idf, k.com, b, nn, 0, 0⟩) 36 (0, 0)), (b10, .cells (faC zFa) 36 (0, 0))]) rfl ?_
                refine OJ.done ?_
                refine PJ.next ?_
                refine CJ.seq ?_
                refine CJ.region ?_
                refine rv (fun _ h => Op.noConfusion h) rfl rfl (mv_r rfl) ?_
                refine rv (fun _ h => Op.noConfusion h) rfl rfl (ldWAw_r (i := 0) rfl Tryz.isAgg36 Tryz.sizeOf36 rfl rfl) ?_
                refine callX (v := fun b : Nat => .slice (some ⟨b, 0, none⟩) 32 32) (Φ := fun (W : World) (b : Nat) (v1 : World) => W.heap.size ≤ b ∧ v1.heap[b]? = some (.cells (dg mf) 23 (0, 0))) Tryz.call27 rfl rfl rfl (fun W hS => by rw [← hmf]; exact r40_FactorMessage hZ (⟨idf, k.com, b, nn, 0, 0⟩ : Fa) hbI hnb W) ?_
                rintro W69 b69 w69 hS69 hB69 ⟨hq69, hb69⟩
                have hz69 := (Array.getElem?_eq_some_iff.1 hb69).1
                have hA69 := hS69.sizes
                simp only [Above] at hA69
                have hB69s := hB69.size
                have hU69 := hS69.under
                simp only [Under, List.set_cons_zero, List.set_cons_succ] at hU69
                refine call Tryz.call20 rfl rfl rfl (fun W hS => rsign32_ok hZ x hK1 mf hB r sg hr hsg b69 _ _ W (hS.old (.head _) hb69 (fun h => h) (by simp only [Off, List.set_cons_zero, List.set_cons_succ, List.eraseIdx_cons_zero, List.eraseIdx_cons_succ, ne_eq, and_true]; omega))) ?_
                refine rv (fun _ h => Op.noConfusion h) rfl rfl (mv_r rfl) ?_
                refine rv (fun _ h => Op.noConfusion h) rfl rfl (ext_r rfl rfl) ?_
                refine rv (fun _ h => Op.noConfusion h) rfl rfl (ext_r rfl rfl) ?_
                refine rv (fun _ h => Op.noConfusion h) rfl rfl (fld_r Tryz.underlying36 rfl Tryz.sizeOf25 rfl) ?_
                refine stW (i := 0) rfl Tryz.sizeOf25 rfl rfl rfl rfl (Nat.le_of_ble_eq_true rfl) rfl ?_
                refine OJ.done ?_
                refine PJ.next ?_
                refine CJ.seq ?_
                refine CJ.region ?_
                refine rv (fun _ h => Op.noConfusion h) rfl rfl (ldWAw_r (i := 0) rfl Tryz.isAgg36 Tryz.sizeOf36 rfl rfl) ?_
                refine stWw (i := 1) rfl Tryz.sizeOf36 rfl rfl rfl rfl rfl rfl ?_
                refine rv (fun _ h => Op.noConfusion h) rfl rfl (asg_r rfl) ?_
                refine OJ.done ?_
                refine PJ.next ?_
                refine CJ.ret ?_
                refine retO (.inl rfl) Tryz.results8 (RS.wA (i := 1) rfl Tryz.isAgg36 Tryz.sizeOf36 rfl (Nat.le_of_ble_eq_true rfl) (RS.t rfl (RS.n))) (.tail _ (.tail _ (.tail _ (.head _)))) (by first | (simp only [Over, List.set_cons_zero, List.set_cons_succ, List.eraseIdx_cons_zero, List.eraseIdx_cons_succ, and_true]; omega) | (simp [Over] <;> omega)) ?_
                unfold facT
                rw [if_pos (show linkOk l = true ∧ -1 ≤ b ∧ b < 512 from ⟨by simp_all, by omega, by omega⟩), if_pos hK1, if_pos hS2, if_pos (by simp_all), hF0, hmf, hr, hsg]
                rfl
          · refine call Tryz.call19 rfl rfl rfl (fun W hS => publicR0 sec hS2 W) ?_
            refine rv (fun _ h => Op.noConfusion h) rfl rfl (mv_r rfl) ?_
            refine rv (fun _ h => Op.noConfusion h) rfl rfl (ext_r rfl rfl) ?_
            refine rv (fun _ h => Op.noConfusion h) rfl rfl (ext_r rfl rfl) ?_
            refine rv (fun _ h => Op.noConfusion h) rfl rfl (asg_r rfl) ?_
            refine rv (fun _ h => Op.noConfusion h) rfl rfl (asg_r rfl) ?_
            refine OJ.done ?_
            refine PJ.next ?_
            refine CJ.seq ?_
            refine CJ.seq ?_
            refine CJ.region ?_
            refine rv (fun _ h => Op.noConfusion h) rfl rfl (mv_r rfl) ?_
            refine rv (fun _ h => Op.noConfusion h) rfl rfl (RV.re (v' := .bool true) (neqI_r rfl rfl) rfl) ?_
            refine OJ.done ?_
            refine PJ.next ?_
            refine CJ.condT rfl ?_
            refine CJ.seq ?_
            refine CJ.region ?_
            refine rv (fun _ h => Op.noConfusion h) rfl rfl (bldS_r Tryz.underlying36 Tryz.zeroValue36 (PlF.c Tryz.sizeOf23 (PlF.c Tryz.sizeOf23 (PlF.c Tryz.sizeOf3 (PlF.c Tryz.sizeOf3 (PlF.c Tryz.sizeOf25 (PlF.n)))))) rfl rfl) ?_
            refine rv (fun _ h => Op.noConfusion h) rfl rfl (mv_r rfl) ?_
            refine stWw (i := 0) rfl Tryz.sizeOf36 rfl rfl rfl rfl rfl rfl ?_
            refine rv (fun _ h => Op.noConfusion h) rfl rfl (asg_r rfl) ?_
            refine OJ.done ?_
            refine PJ.next ?_
            refine CJ.ret ?_
            refine PJ.retThen ?_
            refine retO (.inl rfl) Tryz.results8 (RS.wA (i := 0) rfl Tryz.isAgg36 Tryz.sizeOf36 rfl (Nat.le_of_ble_eq_true rfl) (RS.t rfl (RS.n))) (.tail _ (.tail _ (.head _))) (by first | (simp only [Over, List.set_cons_zero, List.set_cons_succ, List.eraseIdx_cons_zero, List.eraseIdx_cons_succ, and_true]; omega) | (simp [Over] <;> omega)) ?_
            unfold facT
            rw [if_pos (show linkOk l = true ∧ -1 ≤ b ∧ b < 512 from ⟨by simp_all, by omega, by omega⟩), if_pos hK1, if_neg hS2]
            rfl
        · refine call Tryz.call19 rfl rfl rfl (fun W hS => publicR0 x hK1 W) ?_
          refine rv (fun _ h => Op.noConfusion h) rfl rfl (mv_r rfl) ?_
          refine rv (fun _ h => Op.noConfusion h) rfl rfl (ext_r rfl rfl) ?_
          refine rv (fun _ h => Op.noConfusion h) rfl rfl (ext_r rfl rfl) ?_
          refine rv (fun _ h => Op.noConfusion h) rfl rfl (asg_r rfl) ?_
          refine rv (fun _ h => Op.noConfusion h) rfl rfl (asg_r rfl) ?_
          refine OJ.done ?_
          refine PJ.next ?_
          refine CJ.seq ?_
          refine CJ.seq ?_
          refine CJ.region ?_
          refine rv (fun _ h => Op.noConfusion h) rfl rfl (mv_r rfl) ?_
          refine rv (fun _ h => Op.noConfusion h) rfl rfl (RV.re (v' := .bool true) (neqI_r rfl rfl) rfl) ?_
          refine OJ.done ?_
          refine PJ.next ?_
          refine CJ.condT rfl ?_
          refine CJ.seq ?_
          refine CJ.region ?_
          refine rv (fun _ h => Op.noConfusion h) rfl rfl (bldS_r Tryz.underlying36 Tryz.zeroValue36 (PlF.c Tryz.sizeOf23 (PlF.c Tryz.sizeOf23 (PlF.c Tryz.sizeOf3 (PlF.c Tryz.sizeOf3 (PlF.c Tryz.sizeOf25 (PlF.n)))))) rfl rfl) ?_
          refine rv (fun _ h => Op.noConfusion h) rfl rfl (mv_r rfl) ?_
          refine stWw (i := 0) rfl Tryz.sizeOf36 rfl rfl rfl rfl rfl rfl ?_
          refine rv (fun _ h => Op.noConfusion h) rfl rfl (asg_r rfl) ?_
          refine OJ.done ?_
          refine PJ.next ?_
          refine CJ.ret ?_
          refine PJ.retThen ?_
          refine retO (.inl rfl) Tryz.results8 (RS.wA (i := 0) rfl Tryz.isAgg36 Tryz.sizeOf36 rfl (Nat.le_of_ble_eq_true rfl) (RS.t rfl (RS.n))) (.tail _ (.tail _ (.head _))) (by first | (simp only [Over, List.set_cons_zero, List.set_cons_succ, List.eraseIdx_cons_zero, List.eraseIdx_cons_succ, and_true]; omega) | (simp [Over] <;> omega)) ?_
          unfold facT
          rw [if_pos (show linkOk l = true ∧ -1 ≤ b ∧ b < 512 from ⟨by simp_all, by omega, by omega⟩), if_neg hK1]
          rfl

end Px
