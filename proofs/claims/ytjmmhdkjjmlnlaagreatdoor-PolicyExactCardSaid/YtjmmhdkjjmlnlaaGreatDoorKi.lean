/- Contracts of Approve, approved and Export. No condition beyond those that each theorem states. -/
import Derived.Test.YtjmmhdkjjmlnlaaGreatDoorKh
import Derived.Test.YtjmmhdkjjmlnlaaGreatDoorProg
set_option linter.unusedSimpArgs false
set_option linter.unusedVariables false
set_option linter.unusedSectionVars false
namespace Px
open Go Go.RowKit Go.Proofs
/-- what is signed -/
def mV (f : Nat → Int) (d : Int) : List V := [.text (dT f), .int d]
theorem mV_fine (f : Nat → Int) (d : Int) (h : I64 d) : V.fineL (mV f d) := by
  simp only [mV, V.fineL, V.fine, dT_size]
  exact ⟨by decide, h, trivial⟩
def mgD (Z : Fx) (f : Nat → Int) (d : Int) : Nat → Int := Z.tg (⟨#[101, 120, 112, 111, 114, 116]⟩ : ByteArray) (V.list (mV f d)).enc
theorem mg_byt {Z : Fx} (hZ : FxOk Z) (f : Nat → Int) (d : Int) : Byt (mgD Z f d) := hZ.byt _ _
abbrev DevOk (d : Int) : Prop := 0 ≤ d ∧ d < 512
theorem DevOk.i64 {d : Int} (h : DevOk d) : I64 d := ⟨by omega, by omega⟩
def ownT (d : Int) : Value := if DevOk d then .tuple #[.int .i64 (d / 8), .int .i64 0] else .tuple #[.int .i64 0, .int .i64 371]
theorem ownT_ok {d : Int} (h : DevOk d) : ownT d = .tuple #[.int .i64 (d / 8), .int .i64 0] := if_pos h
theorem ownT_no {d : Int} (h : ¬ DevOk d) : ownT d = .tuple #[.int .i64 0, .int .i64 371] := if_neg h
/-- an approval -/
structure Cn where
  dev : Int
  r : Int
  s : Int
def cnC (c : Cn) : Array Value := #[.int .i64 c.dev, .int .i64 c.r, .int .i64 c.s]
def zCn : Cn := ⟨0, 0, 0⟩
def apC (Z : Fx) (f : Nat → Int) (d x : Int) : Cn := ⟨d, sigR Z x (dgU (mgD Z f d)), sigS Z x (dgU (mgD Z f d))⟩
def apT (Z : Fx) (f : Nat → Int) (d x : Int) : Value := if DevOk d then if KOk x then .tuple #[.agg (cnC (apC Z f d x)), .int .i64 0] else .tuple #[.agg (cnC zCn), .int .i64 50] else .tuple #[.agg (cnC zCn), .int .i64 1]
theorem apT_ok (Z : Fx) (f : Nat → Int) {d x : Int} (h : DevOk d) (hk : KOk x) : apT Z f d x = .tuple #[.agg (cnC (apC Z f d x)), .int .i64 0] := by unfold apT; rw [if_pos h, if_pos hk]
theorem apT_no (Z : Fx) (f : Nat → Int) {d x : Int} (h : ¬ DevOk d) : apT Z f d x = .tuple #[.agg (cnC zCn), .int .i64 1] := by unfold apT; rw [if_neg h]
/-- chartroom/people.isDevice -/
theorem people_isDevice (d : Int) (w : World) :
    Calls Tryz.prog 39 #[.int .i64 d] w (Ret w (.bool (decide (DevOk d)))) := by
  
  refine enter (vs := [_]) Tryz.func39 rfl Tryz.ntmps39 rfl ?_
  refine CJ.seq ?_
  refine CJ.region ?_
  refine rv rfl rfl rfl (asg_r rfl) ?_
  refine OJ.done ?_
  refine PJ.next ?_
  refine CJ.seq ?_
  refine CJ.region ?_
  refine rv rfl rfl rfl (mv_r rfl) ?_
  refine rv rfl rfl rfl (geq_r rfl rfl) ?_
  refine rv rfl rfl rfl (mv_r rfl) ?_
  refine OJ.split (t := 5) rfl (fun hc1 => ?_) (fun hc1 => ?_)
  · try simp only [decide_eq_true_eq, decide_eq_false_iff_not, Bool.not_eq_true', Bool.not_eq_false'] at hc1
    refine rv rfl rfl rfl (mv_r rfl) ?_
    refine rv rfl rfl rfl (lss_r rfl rfl) ?_
    refine rv rfl rfl rfl (pkT_r rfl rfl) ?_
    refine rv rfl rfl rfl (asg_r rfl) ?_
    refine OJ.done ?_
    refine PJ.next ?_
    refine CJ.ret ?_
    refine retV Tryz.results39 rfl (.head _) ?_
    refine congrArg Value.bool (Bool.eq_iff_iff.2 ?_)
    (try simp only [decide_eq_true_eq, Bool.false_eq_true, false_iff, true_iff])
    first | omega | (intro h; omega)
  · try simp only [decide_eq_true_eq, decide_eq_false_iff_not, Bool.not_eq_true', Bool.not_eq_false'] at hc1
    refine OJ.off rfl (by decide) rfl ?_
    refine OJ.off rfl (by decide) rfl ?_
    refine rv rfl rfl rfl (pkF_r rfl rfl) ?_
    refine rv rfl rfl rfl (asg_r rfl) ?_
    refine OJ.done ?_
    refine PJ.next ?_
    refine CJ.ret ?_
    refine retV Tryz.results39 rfl (.head _) ?_
    refine congrArg Value.bool (Bool.eq_iff_iff.2 ?_)
    (try simp only [decide_eq_true_eq, Bool.false_eq_true, false_iff, true_iff])
    first | omega | (intro h; omega)
/-- chartroom/people.Owner -/
theorem people_Owner (d : Int) (w : World) :
    Calls Tryz.prog 16 #[.int .i64 d] w (Ret w (ownT d)) := by
  
  refine enter (vs := [_]) Tryz.func16 rfl Tryz.ntmps16 rfl ?_
  refine CJ.seq ?_
  refine CJ.region ?_
  refine rv rfl rfl rfl (asg_r rfl) ?_
  refine rv rfl rfl rfl (asg_r rfl) ?_
  refine OJ.done ?_
  refine PJ.next ?_
  refine CJ.seq ?_
  refine CJ.seq ?_
  refine CJ.region ?_
  refine rv rfl rfl rfl (mv_r rfl) ?_
  refine call Tryz.call39 rfl rfl rfl (fun W hS => people_isDevice _ W) ?_
  refine rv rfl rfl rfl (notB_r rfl) ?_
  refine OJ.done ?_
  refine PJ.next ?_
  refine CJ.cond rfl (fun hc1 => ?_) (fun hc1 => ?_)
  · try simp only [decide_eq_true_eq, decide_eq_false_iff_not, Bool.not_eq_true', Bool.not_eq_false'] at hc1
    refine CJ.seq ?_
    refine CJ.region ?_
    refine rv rfl rfl rfl (asg_r rfl) ?_
    refine rv rfl rfl rfl (asg_r rfl) ?_
    refine OJ.done ?_
    refine PJ.next ?_
    refine CJ.ret ?_
    refine PJ.retThen ?_
    refine retO (.inl rfl) Tryz.results16 (RS.t rfl (RS.t rfl RS.n)) (.head _) trivial ?_
    first | exact (ownT_no (by assumption)).symm | exact (ownT_ok (by assumption)).symm
  · try simp only [decide_eq_true_eq, decide_eq_false_iff_not, Bool.not_eq_true', Bool.not_eq_false'] at hc1
    refine CJ.skip ?_
    refine PJ.next ?_
    refine CJ.seq ?_
    refine CJ.region ?_
    refine rv rfl rfl rfl (mv_r rfl) ?_
    refine rv rfl rfl rfl (quoI_r rfl rfl (by omega) (by omega) (by omega)) ?_
    refine rv rfl rfl rfl (asg_r rfl) ?_
    refine rv rfl rfl rfl (asg_r rfl) ?_
    refine OJ.done ?_
    refine PJ.next ?_
    refine CJ.ret ?_
    refine retO (.inl rfl) Tryz.results16 (RS.t rfl (RS.t rfl RS.n)) (.head _) trivial ?_
    first | exact (ownT_no (by assumption)).symm | exact (ownT_ok (by assumption)).symm
set_option maxHeartbeats 400000 in
/-- chartroom/policy.message -/
theorem policy_message {Z : Fx} (hZ : FxOk Z) (f : Nat → Int) (d : Int) (hd : I64 d) (w : World) (hg : Glb w) :
    Calls Tryz.prog 26 #[.agg (dg f), .int .i64 d] w (RetX w (fun b : Nat => .slice (some ⟨b, 0, none⟩) 32 32) (fun b w1 => w.heap.size ≤ b ∧ w1.heap[b]? = some (.cells (dg (mgD Z f d)) 26 (0, 0)))) := by
  have hg4 := hg.lt
  obtain ⟨df, hdf⟩ : ∃ df, mgD Z f d = df := ⟨_, rfl⟩
  have hff := flat_fine (mV f d) rfl (mV_fine f d hd) (by simp [mV])
  refine enter (vs := [_, _]) Tryz.func26 rfl Tryz.ntmps26 rfl ?_
  refine CJ.seq ?_
  refine CJ.region ?_
  refine boxR rfl rfl rfl ?_
  intro b2 w2 hb2 ha2 ho2 hm2 hz2
  simp only [Above] at ha2
  try simp only [Off, book, List.cons_append, List.nil_append, List.set_cons_zero, List.set_cons_succ, ne_eq] at ho2
  refine rv rfl rfl rfl (asg_r rfl) ?_
  refine OJ.done ?_
  refine PJ.next ?_
  refine CJ.seq ?_
  refine CJ.region ?_
  refine rv rfl rfl rfl (slA0_r (h := 32) Tryz.underlying26 Tryz.sizeOf5 rfl rfl (by omega)) ?_
  refine rv rfl rfl rfl (cvtD_r Tryz.underlying53 Tryz.underlying5 Tryz.underlying9 rfl (.head _) hb2 hm2 trivial) ?_
  refine rv rfl rfl rfl (bldS_r Tryz.underlying58 Tryz.zeroValue58 (PlF.c Tryz.sizeOf3 (PlF.c Tryz.sizeOf3 (PlF.c Tryz.sizeOf9 (PlF.c Tryz.sizeOf56 (PlF.n))))) rfl rfl) ?_
  refine rv rfl rfl rfl (mv_r rfl) ?_
  refine rv rfl rfl rfl (bldS_r Tryz.underlying58 Tryz.zeroValue58 (PlF.c Tryz.sizeOf3 (PlF.c Tryz.sizeOf3 (PlF.c Tryz.sizeOf9 (PlF.c Tryz.sizeOf56 (PlF.n))))) rfl rfl) ?_
  refine bslR Tryz.underlying56 Tryz.sizeOf58 Tryz.zeroValue58 rfl rfl rfl rfl rfl rfl rfl ?_
  intro b14 w14 hb14 ha14 ho14 hm14 hz14
  simp only [Above] at ha14
  try simp only [Off, book, List.cons_append, List.nil_append, List.set_cons_zero, List.set_cons_succ, ne_eq] at ho14
  refine rv rfl rfl rfl (bldS_r Tryz.underlying58 Tryz.zeroValue58 (PlF.c Tryz.sizeOf3 (PlF.c Tryz.sizeOf3 (PlF.c Tryz.sizeOf9 (PlF.c Tryz.sizeOf56 (PlF.n))))) rfl rfl) ?_
  refine callEnc (ys := (V.list (mV f d)).enc) Tryz.call18 rfl rfl rfl (fun W hS => codec_Encode (mV f d) hff.1 hff.2.1 hff.2.2 w14.heap.size (some ⟨b14, 0, none⟩) 2 W (hS.links _ (.head _)).size (flat_at (sp := []) rfl (by omega) (Nat.le_refl 2) (by rw [List.append_nil]; exact hS.old (.head _) hb14 hm14 trivial))) ?_
  intro b16 c16 s16 ha16 ho16 hx16 hr16
  simp only [Above] at ha16
  try simp only [Off, List.set_cons_zero, List.set_cons_succ, ne_eq, and_true] at ho16
  refine rv rfl rfl rfl (mv_r rfl) ?_
  refine rv rfl rfl rfl (ext_r rfl rfl) ?_
  refine rv rfl rfl rfl (ext_r rfl rfl) ?_
  refine rv rfl rfl rfl (asg_r rfl) ?_
  refine rv rfl rfl rfl (asg_r rfl) ?_
  refine OJ.done ?_
  refine PJ.next ?_
  refine CJ.seq ?_
  refine CJ.region ?_
  refine rv rfl rfl rfl (mv_r rfl) ?_
  refine call Tryz.call19 rfl rfl rfl (fun W hS => by rw [← hdf]; exact taggedG hZ (⟨#[101, 120, 112, 111, 114, 116]⟩ : ByteArray) (by decide) (V.list (mV f d)).enc (by omega) b16 0 c16 hr16.le W (SegU.row (hS.own _ (.head _))) (hg.old hS (.tail _ (.tail _ (.head _))) (fun _ _ h => h) (by first | exact True.intro | (simp only [Over, List.set_cons_zero, List.set_cons_succ, List.eraseIdx_cons_zero, List.eraseIdx_cons_succ, and_true]; omega)))) (v := .agg (dg df)) ?_
  refine allW Tryz.zeroValue26 rfl rfl ?_
  intro b7 ha7 ho7
  simp only [Above] at ha7
  try simp only [Off, book, List.cons_append, List.nil_append, List.set_cons_zero, List.set_cons_succ, ne_eq] at ho7
  refine stWw (i := 0) rfl Tryz.sizeOf26 rfl rfl rfl rfl rfl rfl ?_
  refine OJ.done ?_
  refine PJ.next ?_
  refine CJ.seq ?_
  refine CJ.region ?_
  refine rv rfl rfl rfl (slA0_r (h := 32) Tryz.underlying26 Tryz.sizeOf5 rfl rfl (by omega)) ?_
  refine rv rfl rfl rfl (asg_r rfl) ?_
  refine OJ.done ?_
  refine PJ.next ?_
  refine CJ.ret ?_
  exact retG (.inl rfl) Tryz.results26 (RS.t rfl RS.n) (fun W hS => ⟨b7, rfl, hS.base (.tail _ (.tail _ (.head _))) (by first | (simp only [Over, List.set_cons_zero, List.set_cons_succ, List.eraseIdx_cons_zero, List.eraseIdx_cons_succ, and_true]; omega) | (simp [Over] <;> omega)), by omega, by rw [hdf]; exact hS.own _ (.head _)⟩)
set_option maxHeartbeats 800000 in
/-- chartroom/policy.Approve -/
theorem policy_Approve {Z : Fx} (hZ : FxOk Z) (f : Nat → Int) (d x : Int) (w : World) (hg : Glb w) :
    Calls Tryz.prog 9 #[.agg (dg f), .int .i64 d, .int .i64 x] w (Ret w (apT Z f d x)) := by
  have hg4 := hg.lt
  have hB := mg_byt hZ f d
  obtain ⟨mf, hmf⟩ : ∃ mf, mgD Z f d = mf := ⟨_, rfl⟩
  rw [hmf] at hB
  obtain ⟨r, hr⟩ : ∃ r, sigR Z x (dgU mf) = r := ⟨_, rfl⟩
  obtain ⟨sg, hsg⟩ : ∃ sg, sigS Z x (dgU mf) = sg := ⟨_, rfl⟩
  refine enter (vs := [_, _, _]) Tryz.func9 rfl Tryz.ntmps9 rfl ?_
  refine CJ.seq ?_
  refine CJ.region ?_
  refine boxR rfl rfl rfl ?_
  intro b3 w3 hb3 ha3 ho3 hm3 hz3
  simp only [Above] at ha3
  try simp only [Off, book, List.cons_append, List.nil_append, List.set_cons_zero, List.set_cons_succ, ne_eq] at ho3
  refine allW Tryz.zeroValue32 rfl rfl ?_
  intro b6 ha6 ho6
  simp only [Above] at ha6
  try simp only [Off, book, List.cons_append, List.nil_append, List.set_cons_zero, List.set_cons_succ, ne_eq] at ho6
  refine rv rfl rfl rfl (asg_r rfl) ?_
  refine OJ.done ?_
  refine PJ.next ?_
  refine CJ.seq ?_
  refine CJ.seq ?_
  refine CJ.region ?_
  refine rv rfl rfl rfl (mv_r rfl) ?_
  refine rv rfl rfl rfl (lss_r rfl rfl) ?_
  refine rv rfl rfl rfl (mv_r rfl) ?_
  refine OJ.split (t := 12) rfl (fun hc1 => ?_) (fun hc1 => ?_)
  · try simp only [decide_eq_true_eq, decide_eq_false_iff_not, Bool.not_eq_true', Bool.not_eq_false'] at hc1
    refine OJ.off rfl (by decide) rfl ?_
    refine OJ.off rfl (by decide) rfl ?_
    refine rv rfl rfl rfl (pkT_r rfl rfl) ?_
    refine OJ.done ?_
    refine PJ.next ?_
    refine CJ.condT rfl ?_
    refine CJ.seq ?_
    refine CJ.region ?_
    refine rv rfl rfl rfl (ldWAw_r (i := 0) rfl Tryz.isAgg32 Tryz.sizeOf32 rfl rfl) ?_
    refine stWw (i := 0) rfl Tryz.sizeOf32 rfl rfl rfl rfl rfl rfl ?_
    refine rv rfl rfl rfl (asg_r rfl) ?_
    refine OJ.done ?_
    refine PJ.next ?_
    refine CJ.ret ?_
    refine PJ.retThen ?_
    refine retO (.inl rfl) Tryz.results9 (RS.wA (i := 0) rfl Tryz.isAgg32 Tryz.sizeOf32 rfl (Nat.le_of_ble_eq_true rfl) (RS.t rfl (RS.n))) (.tail _ (.head _)) (by first | (simp only [Over, List.set_cons_zero, List.set_cons_succ, List.eraseIdx_cons_zero, List.eraseIdx_cons_succ, and_true]; omega) | (simp [Over] <;> omega)) ?_
    rw [apT_no Z f (by omega)]; rfl
  · try simp only [decide_eq_true_eq, decide_eq_false_iff_not, Bool.not_eq_true', Bool.not_eq_false'] at hc1
    refine rv rfl rfl rfl (mv_r rfl) ?_
    refine rv rfl rfl rfl (geq_r rfl rfl) ?_
    refine rv rfl rfl rfl (pkF_r rfl rfl) ?_
    refine OJ.done ?_
    refine PJ.next ?_
    refine CJ.cond rfl (fun hc2 => ?_) (fun hc2 => ?_)
    · try simp only [decide_eq_true_eq, decide_eq_false_iff_not, Bool.not_eq_true', Bool.not_eq_false'] at hc2
      refine CJ.seq ?_
      refine CJ.region ?_
      refine rv rfl rfl rfl (ldWAw_r (i := 0) rfl Tryz.isAgg32 Tryz.sizeOf32 rfl rfl) ?_
      refine stWw (i := 0) rfl Tryz.sizeOf32 rfl rfl rfl rfl rfl rfl ?_
      refine rv rfl rfl rfl (asg_r rfl) ?_
      refine OJ.done ?_
      refine PJ.next ?_
      refine CJ.ret ?_
      refine PJ.retThen ?_
      refine retO (.inl rfl) Tryz.results9 (RS.wA (i := 0) rfl Tryz.isAgg32 Tryz.sizeOf32 rfl (Nat.le_of_ble_eq_true rfl) (RS.t rfl (RS.n))) (.tail _ (.head _)) (by first | (simp only [Over, List.set_cons_zero, List.set_cons_succ, List.eraseIdx_cons_zero, List.eraseIdx_cons_succ, and_true]; omega) | (simp [Over] <;> omega)) ?_
      rw [apT_no Z f (by omega)]; rfl
    · try simp only [decide_eq_true_eq, decide_eq_false_iff_not, Bool.not_eq_true', Bool.not_eq_false'] at hc2
      refine CJ.skip ?_
      refine PJ.next ?_
      refine CJ.seq ?_
      refine CJ.seq ?_
      have hD : DevOk d := ⟨by omega, by omega⟩
      refine CJ.region ?_
      refine rv rfl rfl rfl (mv_r rfl) ?_
      by_cases hK : KOk x
      · refine call Tryz.call24 rfl rfl rfl (fun W hS => pubG_ok hZ x hK W) ?_
        refine rv rfl rfl rfl (mv_r rfl) ?_
        refine rv rfl rfl rfl (ext_r rfl rfl) ?_
        refine rv rfl rfl rfl (ext_r rfl rfl) ?_
        refine rv rfl rfl rfl (asg_r rfl) ?_
        refine rv rfl rfl rfl (asg_r rfl) ?_
        refine OJ.done ?_
        refine PJ.next ?_
        refine CJ.seq ?_
        refine CJ.region ?_
        refine rv rfl rfl rfl (mv_r rfl) ?_
        refine rv rfl rfl rfl (RV.re (v' := .bool false) (neqI_r rfl rfl) rfl) ?_
        refine OJ.done ?_
        refine PJ.next ?_
        refine CJ.condF rfl ?_
        refine CJ.skip ?_
        refine PJ.next ?_
        refine CJ.seq ?_
        refine CJ.region ?_
        refine rv rfl rfl rfl (mv_r rfl) ?_
        refine rv rfl rfl rfl (fld_r Tryz.underlying32 rfl Tryz.sizeOf3 rfl) ?_
        refine stW (i := 0) rfl Tryz.sizeOf3 rfl rfl rfl rfl (Nat.le_of_ble_eq_true rfl) rfl ?_
        refine OJ.done ?_
        refine PJ.next ?_
        refine CJ.seq ?_
        refine CJ.region ?_
        refine rv rfl rfl rfl (mv_r rfl) ?_
        refine rv rfl rfl rfl (ldRAw_r Tryz.isAgg26 Tryz.sizeOf26 rfl (.head _) hb3 hm3 (by first | (simp only [Off, book, List.cons_append, List.nil_append, List.set_cons_zero, List.set_cons_succ, List.eraseIdx_cons_zero, List.eraseIdx_cons_succ, ne_eq, and_true]; omega) | (simp [Off] <;> omega)) rfl) ?_
        refine rv rfl rfl rfl (mv_r rfl) ?_
        refine callX (v := fun b : Nat => .slice (some ⟨b, 0, none⟩) 32 32) (Φ := fun (W : World) (b : Nat) (v1 : World) => W.heap.size ≤ b ∧ v1.heap[b]? = some (.cells (dg mf) 26 (0, 0))) Tryz.call26 rfl rfl rfl (fun W hS => by rw [← hmf]; exact policy_message hZ f d hD.i64 W (hg.old hS (.tail _ (.head _)) (fun _ _ h => h) (by first | exact True.intro | (simp only [Over, List.set_cons_zero, List.set_cons_succ, List.eraseIdx_cons_zero, List.eraseIdx_cons_succ, and_true]; omega)))) ?_
        rintro W32 b32 w32 hS32 hB32 ⟨hq32, hb32⟩
        have hz32 := (Array.getElem?_eq_some_iff.1 hb32).1
        have hA32 := hS32.sizes
        simp only [Above] at hA32
        have hB32s := hB32.size
        have hU32 := hS32.under
        simp only [Under, List.set_cons_zero, List.set_cons_succ] at hU32
        refine call Tryz.call25 rfl rfl rfl (fun W hS => sign32_ok hZ x hK mf hB r sg hr hsg b32 _ _ W (hS.old (.head _) hb32 (fun h => h) (by first | exact True.intro | (simp only [Off, List.set_cons_zero, List.set_cons_succ, List.eraseIdx_cons_zero, List.eraseIdx_cons_succ, ne_eq, and_true]; omega))) (hg.old hS (.tail _ (.tail _ (.head _))) (fun _ _ h => h) (by first | exact True.intro | (simp only [Over, List.set_cons_zero, List.set_cons_succ, List.eraseIdx_cons_zero, List.eraseIdx_cons_succ, and_true]; omega)))) ?_
        refine rv rfl rfl rfl (mv_r rfl) ?_
        refine rv rfl rfl rfl (ext_r rfl rfl) ?_
        refine rv rfl rfl rfl (ext_r rfl rfl) ?_
        refine rv rfl rfl rfl (fld_r Tryz.underlying32 rfl Tryz.sizeOf30 rfl) ?_
        refine stW (i := 0) rfl Tryz.sizeOf30 rfl rfl rfl rfl (Nat.le_of_ble_eq_true rfl) rfl ?_
        refine OJ.done ?_
        refine PJ.next ?_
        refine CJ.seq ?_
        refine CJ.region ?_
        refine rv rfl rfl rfl (ldWAw_r (i := 0) rfl Tryz.isAgg32 Tryz.sizeOf32 rfl rfl) ?_
        refine stWw (i := 0) rfl Tryz.sizeOf32 rfl rfl rfl rfl rfl rfl ?_
        refine rv rfl rfl rfl (asg_r rfl) ?_
        refine OJ.done ?_
        refine PJ.next ?_
        refine CJ.ret ?_
        refine retO (.inl rfl) Tryz.results9 (RS.wA (i := 0) rfl Tryz.isAgg32 Tryz.sizeOf32 rfl (Nat.le_of_ble_eq_true rfl) (RS.t rfl (RS.n))) (.tail _ (.tail _ (.head _))) (by first | (simp only [Over, List.set_cons_zero, List.set_cons_succ, List.eraseIdx_cons_zero, List.eraseIdx_cons_succ, and_true]; omega) | (simp [Over] <;> omega)) ?_
        unfold apT apC; rw [if_pos hD, if_pos hK, hmf, hr, hsg]; rfl
      · refine call Tryz.call24 rfl rfl rfl (fun W hS => pubG_no x hK W) ?_
        refine rv rfl rfl rfl (mv_r rfl) ?_
        refine rv rfl rfl rfl (ext_r rfl rfl) ?_
        refine rv rfl rfl rfl (ext_r rfl rfl) ?_
        refine rv rfl rfl rfl (asg_r rfl) ?_
        refine rv rfl rfl rfl (asg_r rfl) ?_
        refine OJ.done ?_
        refine PJ.next ?_
        refine CJ.seq ?_
        refine CJ.region ?_
        refine rv rfl rfl rfl (mv_r rfl) ?_
        refine rv rfl rfl rfl (RV.re (v' := .bool true) (neqI_r rfl rfl) rfl) ?_
        refine OJ.done ?_
        refine PJ.next ?_
        refine CJ.condT rfl ?_
        refine CJ.seq ?_
        refine CJ.region ?_
        refine rv rfl rfl rfl (ldWAw_r (i := 0) rfl Tryz.isAgg32 Tryz.sizeOf32 rfl rfl) ?_
        refine rv rfl rfl rfl (mv_r rfl) ?_
        refine stWw (i := 0) rfl Tryz.sizeOf32 rfl rfl rfl rfl rfl rfl ?_
        refine rv rfl rfl rfl (asg_r rfl) ?_
        refine OJ.done ?_
        refine PJ.next ?_
        refine CJ.ret ?_
        refine PJ.retThen ?_
        refine retO (.inl rfl) Tryz.results9 (RS.wA (i := 0) rfl Tryz.isAgg32 Tryz.sizeOf32 rfl (Nat.le_of_ble_eq_true rfl) (RS.t rfl (RS.n))) (.tail _ (.head _)) (by first | (simp only [Over, List.set_cons_zero, List.set_cons_succ, List.eraseIdx_cons_zero, List.eraseIdx_cons_succ, and_true]; omega) | (simp [Over] <;> omega)) ?_
        unfold apT; rw [if_pos hD, if_neg hK]; rfl
end Px
namespace Px
open Go Go.RowKit Go.Proofs
/-- a listing -/
structure Ls where
  dev : Int
  ver : Int
  leaf : Int
  vsn : Int
  gone : Bool
def lsC (l : Ls) : Array Value := #[.int .i64 l.dev, .int .i64 l.ver, .int .i64 l.leaf, .int .i64 l.vsn, .bool l.gone]
def zLs : Ls := ⟨0, 0, 0, 0, false⟩
/-- an export -/
structure Ex where
  it : Nat → Int
  ca : Option Addr
  cs : List Cn
  cc : Nat
def exC (y : Ex) : Array Value := #[.int .u8 (y.it 0), .int .u8 (y.it 1), .int .u8 (y.it 2), .int .u8 (y.it 3), .int .u8 (y.it 4), .int .u8 (y.it 5), .int .u8 (y.it 6), .int .u8 (y.it 7), .int .u8 (y.it 8), .int .u8 (y.it 9), .int .u8 (y.it 10), .int .u8 (y.it 11), .int .u8 (y.it 12), .int .u8 (y.it 13), .int .u8 (y.it 14), .int .u8 (y.it 15), .int .u8 (y.it 16), .int .u8 (y.it 17), .int .u8 (y.it 18), .int .u8 (y.it 19), .int .u8 (y.it 20), .int .u8 (y.it 21), .int .u8 (y.it 22), .int .u8 (y.it 23), .int .u8 (y.it 24), .int .u8 (y.it 25), .int .u8 (y.it 26), .int .u8 (y.it 27), .int .u8 (y.it 28), .int .u8 (y.it 29), .int .u8 (y.it 30), .int .u8 (y.it 31), .slice y.ca y.cs.length y.cc]
def ixL (d : Int) (ls : List Ls) : Option Nat := ls.findIdx? fun l => decide (l.dev = d)
def ixI (d : Int) (ls : List Ls) : Int := match ixL d ls with | some i => (i : Int) | none => -1
theorem ixL_hit {d : Int} {ls : List Ls} {j : Nat} {l : Ls} (hl : ls[j]? = some l) (h : ∀ x ∈ ls.take j, ¬ x.dev = d) (hp : l.dev = d) : ixL d ls = some j := by
  obtain ⟨h1, h2⟩ := List.getElem?_eq_some_iff.1 hl
  unfold ixL
  rw [List.findIdx?_eq_some_iff_getElem]
  refine ⟨h1, by rw [h2]; exact decide_eq_true hp, fun i hi => ?_⟩
  have := h (ls[i]'(by omega)) (by rw [List.mem_take_iff_getElem]; exact ⟨i, by omega, rfl⟩)
  simp [this]
theorem ixL_none {d : Int} {ls : List Ls} (h : ∀ x ∈ ls, ¬ x.dev = d) : ixL d ls = none := by
  unfold ixL
  rw [List.findIdx?_eq_none_iff]
  exact fun x hx => decide_eq_false (h x hx)
theorem ixL_get {d : Int} {ls : List Ls} {j : Nat} (h : ixL d ls = some j) : ∃ l, ls[j]? = some l ∧ l.dev = d := by
  unfold ixL at h
  obtain ⟨h1, h2, _⟩ := List.findIdx?_eq_some_iff_getElem.1 h
  exact ⟨ls[j], List.getElem?_eq_getElem h1, of_decide_eq_true h2⟩
theorem ixI_some {d : Int} {ls : List Ls} {j : Nat} (h : ixL d ls = some j) : ixI d ls = (j : Int) := by unfold ixI; rw [h]
theorem ixI_none {d : Int} {ls : List Ls} (h : ixL d ls = none) : ixI d ls = -1 := by unfold ixI; rw [h]
/-- the owner of an approval that counts -/
def cntO (Z : Fx) (ls : List Ls) (f : Nat → Int) (c : Cn) : Option Int :=
  match (ixL c.dev ls).bind (ls[·]?) with
  | none => none
  | some l => if l.gone = false ∧ DevOk c.dev ∧ verB Z l.ver (dgU (mgD Z f c.dev)) c.r c.s = true then some (c.dev / 8) else none
def cntL (Z : Fx) (ls : List Ls) (f : Nat → Int) (cs : List Cn) : List Int := cs.filterMap (cntO Z ls f)
theorem cntL_snoc (Z : Fx) (ls : List Ls) (f : Nat → Int) (cs : List Cn) (c : Cn) : cntL Z ls f (cs ++ [c]) = cntL Z ls f cs ++ (cntO Z ls f c).toList := by
  unfold cntL
  rw [List.filterMap_append]
  congr 1
theorem cntL_none {Z : Fx} {ls : List Ls} {f : Nat → Int} {cs : List Cn} {j : Nat} {c : Cn} (hc : cs[j]? = some c) (h : cntO Z ls f c = none) : cntL Z ls f (cs.take (j + 1)) = cntL Z ls f (cs.take j) := by
  rw [take_snoc hc, cntL_snoc, h]; simp
theorem cntL_some {Z : Fx} {ls : List Ls} {f : Nat → Int} {cs : List Cn} {j : Nat} {c : Cn} {o : Int} (hc : cs[j]? = some c) (h : cntO Z ls f c = some o) : cntL Z ls f (cs.take (j + 1)) = cntL Z ls f (cs.take j) ++ [o] := by
  rw [take_snoc hc, cntL_snoc, h]; rfl
theorem cntL_pre (Z : Fx) (ls : List Ls) (f : Nat → Int) (cs : List Cn) (j : Nat) : cntL Z ls f (cs.take j) <+: cntL Z ls f cs := by
  unfold cntL
  exact (List.take_prefix j cs).filterMap _
theorem cntO_none {Z : Fx} {ls : List Ls} {f : Nat → Int} {c : Cn} (h : ixL c.dev ls = none) : cntO Z ls f c = none := by unfold cntO; rw [h]; rfl
theorem cntO_at {Z : Fx} {ls : List Ls} {f : Nat → Int} {c : Cn} {i : Nat} {l : Ls} (h : ixL c.dev ls = some i) (hl : ls[i]? = some l) : cntO Z ls f c = if l.gone = false ∧ DevOk c.dev ∧ verB Z l.ver (dgU (mgD Z f c.dev)) c.r c.s = true then some (c.dev / 8) else none := by
  unfold cntO; rw [h]; simp only [Option.bind_some, hl]
theorem cntO_no {Z : Fx} {ls : List Ls} {f : Nat → Int} {c : Cn} {i : Nat} {l : Ls} (h : ixL c.dev ls = some i) (hl : ls[i]? = some l) (hn : l.gone = true ∨ ¬ DevOk c.dev ∨ verB Z l.ver (dgU (mgD Z f c.dev)) c.r c.s = false) : cntO Z ls f c = none := by
  rw [cntO_at h hl, if_neg]
  rintro ⟨g1, g2, g3⟩
  rcases hn with hn | hn | hn
  · rw [hn] at g1; cases g1
  · exact hn g2
  · rw [hn] at g3; cases g3
theorem cntO_yes {Z : Fx} {ls : List Ls} {f : Nat → Int} {c : Cn} {i : Nat} {l : Ls} (h : ixL c.dev ls = some i) (hl : ls[i]? = some l) (h1 : l.gone = false) (h2 : DevOk c.dev) (h3 : verB Z l.ver (dgU (mgD Z f c.dev)) c.r c.s = true) : cntO Z ls f c = some (c.dev / 8) := by
  rw [cntO_at h hl, if_pos ⟨h1, h2, h3⟩]
/-- what Export answers -/
noncomputable def expI (Z : Fx) (p : Po) (ls : List Ls) (y : Ex) : Int := if chkI p = 0 then if (setK (cntL Z ls y.it y.cs)).length = 0 ∨ (p.two = true ∧ (setK (cntL Z ls y.it y.cs)).length = 1) then 460 else 0 else 460
theorem verG32 {Z : Fx} (hZ : FxOk Z) (p r s : Int) (f : Nat → Int) (hf : Byt f) (b t : Nat) (fr : Nat × Nat) (w : World) (h : w.heap[b]? = some (.cells (dg f) t fr)) (hg : Glb w) : Calls Tryz.prog 20 #[.int .i64 p, .slice (some ⟨b, 0, none⟩) 32 32, .agg #[.int .i64 r, .int .i64 s]] w (Ret w (.bool (verB Z p (dgU f) r s))) := by
  have := sign_Verify hZ p r s (dgU f) b 0 32 (by rw [dgU_len]; decide) w (SegU.dg h hf) hg
  rwa [dgU_len] at this
theorem verG32v {Z : Fx} (hZ : FxOk Z) {p r s : Int} {f : Nat → Int} {bv : Bool} (hv : verB Z p (dgU f) r s = bv) (hf : Byt f) (b t : Nat) (fr : Nat × Nat) (w : World) (h : w.heap[b]? = some (.cells (dg f) t fr)) (hg : Glb w) : Calls Tryz.prog 20 #[.int .i64 p, .slice (some ⟨b, 0, none⟩) 32 32, .agg #[.int .i64 r, .int .i64 s]] w (Ret w (.bool bv)) := by
  subst hv; exact verG32 hZ p r s f hf b t fr w h hg
theorem people_Owner_ok {d : Int} (h : DevOk d) (w : World) : Calls Tryz.prog 16 #[.int .i64 d] w (Ret w (.tuple #[.int .i64 (d / 8), .int .i64 0])) := by rw [← ownT_ok h]; exact people_Owner d w
theorem people_Owner_no {d : Int} (h : ¬ DevOk d) (w : World) : Calls Tryz.prog 16 #[.int .i64 d] w (Ret w (.tuple #[.int .i64 0, .int .i64 371])) := by rw [← ownT_no h]; exact people_Owner d w
/-- chartroom/policy.approved$1$1 -/
theorem approved11 (l : Ls) (c : Cn) (b : Nat) (w : World) (hb1 : w.heap[b]? = some (.cells (cnC c) 32 (0, 0))) :
    Calls Tryz.prog 81 #[.agg (lsC l), ptr b 0] w (Ret w (.bool (decide (l.dev = c.dev)))) := by
  have hm1 : ¬ Gh.no.X b := fun h => h
  refine enter (vs := [_, _]) Tryz.func81 rfl Tryz.ntmps81 rfl ?_
  refine CJ.seq ?_
  refine CJ.region ?_
  refine boxR rfl rfl rfl ?_
  intro b2 w2 hb2 ha2 ho2 hm2 hz2
  simp only [Above] at ha2
  try simp only [Off, book, List.cons_append, List.nil_append, List.set_cons_zero, List.set_cons_succ, ne_eq] at ho2
  refine rv rfl rfl rfl (asg_r rfl) ?_
  refine OJ.done ?_
  refine PJ.next ?_
  refine CJ.seq ?_
  refine CJ.region ?_
  refine rv rfl rfl rfl (fld_r Tryz.underlying49 rfl Tryz.sizeOf3 rfl) ?_
  refine rv rfl rfl rfl (ldR_r Tryz.isAgg3 rfl (.head _) hb2 hm2 trivial rfl) ?_
  refine rv rfl rfl rfl (fld_r Tryz.underlying32 rfl Tryz.sizeOf3 rfl) ?_
  refine rv rfl rfl rfl (ldR_r Tryz.isAgg3 rfl (.tail _ (.head _)) hb1 hm1 trivial rfl) ?_
  refine rv rfl rfl rfl (eqlI_r rfl rfl) ?_
  refine rv rfl rfl rfl (asg_r rfl) ?_
  refine OJ.done ?_
  refine PJ.next ?_
  refine CJ.ret ?_
  refine retV Tryz.results81 rfl (.tail _ (.head _)) ?_
  rfl
/-- slices.IndexFunc[[]chartroom/api.Listing,chartroom/api.Listing] -/
theorem IndexFunc_L (ls : List Ls) (hl : ls.length ≤ 1000000) (N : Nat) (a : Option Addr) (cp : Nat) (w : World) (hN : N ≤ w.heap.size) (hsl : SlAt lsC 5 N w a ls) (c : Cn) (b : Nat) (hb : w.heap[b]? = some (.cells (cnC c) 32 (0, 0))) :
    Calls Tryz.prog 80 #[.slice a ls.length cp, .func (.func 81) #[] #[ptr b 0]] w (Ret w (.int .i64 (ixI c.dev ls))) := by
  
  refine enter (vs := [_, _]) Tryz.func80 rfl Tryz.ntmps80 rfl ?_
  refine CJ.seq ?_
  refine CJ.region ?_
  refine rv rfl rfl rfl (asg_r rfl) ?_
  refine OJ.done ?_
  refine PJ.next ?_
  refine CJ.seq ?_
  refine CJ.seq ?_
  refine CJ.region ?_
  refine rv rfl rfl rfl (mv_r rfl) ?_
  refine rv rfl rfl rfl (lenS_r Tryz.underlying38 rfl) ?_
  refine rv rfl rfl rfl (mv_r rfl) ?_
  refine OJ.done ?_
  refine PJ.next ?_
  refine CJ.block ?_
  refine CJ.loop (α := Nat) (fun j => [(0, .slice a ls.length cp), (1, .func (.func 81) #[] #[ptr b 0]), (7, .int .i64 (ls.length : Int)), (8, .int .i64 (j : Int))]) (fun j => []) (fun j => [w]) (fun j => Gh.no) (fun j => j ≤ ls.length ∧ ∀ x ∈ ls.take j, ¬ x.dev = c.dev) (fun j => ls.length - j) 0 ⟨Nat.zero_le _, by simp⟩ ⟨rfl, rfl, rfl, rfl, trivial⟩ rfl rfl (by simp) ?_
  rintro j ⟨hj, hjp⟩
  refine CJ.seq ?_
  refine CJ.region ?_
  refine rv rfl rfl rfl (lss_r rfl rfl) ?_
  refine OJ.done ?_
  refine PJ.next ?_
  refine CJ.seq ?_
  refine CJ.cond rfl (fun hc1 => ?_) (fun hc1 => ?_)
  · try simp only [decide_eq_true_eq, decide_eq_false_iff_not, Bool.not_eq_true', Bool.not_eq_false'] at hc1
    refine CJ.skip ?_
    refine PJ.next ?_
    refine CJ.seq ?_
    refine CJ.block ?_
    refine CJ.seq ?_
    refine CJ.region ?_
    refine rv rfl rfl rfl (mv_r rfl) ?_
    refine rv rfl rfl rfl (asg_r rfl) ?_
    refine OJ.done ?_
    refine PJ.next ?_
    refine CJ.seq ?_
    obtain ⟨b0, off0, cs0, t0, fr0, rfl, hbl0, hcs0, hel0⟩ := hsl.get (by omega)
    obtain ⟨x, hx⟩ := get_of ls j (by omega)
    refine CJ.region ?_
    refine rv rfl rfl rfl (mv_r rfl) ?_
    refine rv rfl rfl rfl (mv_r rfl) ?_
    refine rv rfl rfl rfl (mv_r rfl) ?_
    refine rv rfl rfl rfl (idxS_r Tryz.underlying38 Tryz.sizeOf49 rfl rfl (by omega) (by omega)) ?_
    refine rv rfl rfl rfl (RV.re (v' := .agg (lsC x)) (ldRA_r Tryz.isAgg49 Tryz.sizeOf49 rfl (.head _) hcs0 (fun h => h) trivial (el_size hel0 hx rfl)) (congrArg Value.agg (el_cut hel0 hx rfl))) ?_
    refine callC (f := 81) (cap := [ptr b 0]) rfl Tryz.call81 rfl rfl rfl (fun W hS => approved11 x c b W (hS.old (.head _) hb (fun h => h) trivial)) ?_
    refine OJ.done ?_
    refine PJ.next ?_
    refine CJ.cond rfl (fun hc2 => ?_) (fun hc2 => ?_)
    · try simp only [decide_eq_true_eq, decide_eq_false_iff_not, Bool.not_eq_true', Bool.not_eq_false'] at hc2
      refine CJ.seq ?_
      refine CJ.region ?_
      refine rv rfl rfl rfl (mv_r rfl) ?_
      refine rv rfl rfl rfl (asg_r rfl) ?_
      refine OJ.done ?_
      refine PJ.next ?_
      refine CJ.ret ?_
      refine PJ.retBlock ?_
      refine PJ.retThen ?_
      refine PJ.retThen ?_
      refine PJ.retBlock ?_
      refine PJ.retThen ?_
      refine retV Tryz.results80 rfl (.head _) ?_
      exact congrArg (Value.int .i64) (ixI_some (ixL_hit hx hjp hc2)).symm
    · try simp only [decide_eq_true_eq, decide_eq_false_iff_not, Bool.not_eq_true', Bool.not_eq_false'] at hc2
      refine CJ.skip ?_
      refine PJ.norBlock ?_
      refine PJ.next ?_
      refine CJ.region ?_
      refine rv rfl rfl rfl (addI_r rfl rfl (by omega) (by omega)) ?_
      refine rv rfl rfl rfl (mv_r rfl) ?_
      refine OJ.done ?_
      refine PJ.again (j + 1) ⟨by omega, by intro z hz; rw [take_snoc hx] at hz; simp only [List.mem_append, List.mem_singleton] at hz; rcases hz with hz | rfl; exact hjp z hz; exact hc2⟩ (by omega) ⟨rfl, rfl, rfl, rfl, trivial⟩ rfl rfl (by simp)
  · try simp only [decide_eq_true_eq, decide_eq_false_iff_not, Bool.not_eq_true', Bool.not_eq_false'] at hc1
    refine CJ.exit ?_
    refine PJ.exThen ?_
    refine PJ.exThen ?_
    refine PJ.exHit ?_
    refine PJ.next ?_
    refine CJ.seq ?_
    refine CJ.region ?_
    refine rv rfl rfl rfl (asg_r rfl) ?_
    refine OJ.done ?_
    refine PJ.next ?_
    refine CJ.ret ?_
    refine retV Tryz.results80 rfl (.head _) ?_
    exact congrArg (Value.int .i64) (ixI_none (ixL_none (by rw [← List.take_of_length_le (l := ls) (i := j) (by omega)]; exact hjp))).symm
def lsT (d : Int) (ls : List Ls) : Value := match (ixL d ls).bind (ls[·]?) with | some l => .tuple #[.agg (lsC l), .bool true] | none => .tuple #[.agg (lsC zLs), .bool false]
end Px
namespace Px
open Go Go.RowKit Go.Proofs
/-- chartroom/policy.approved -/
theorem policy_approved (a : Option Addr) (n cp : Nat) (y : Ex) (w : World) :
    Calls Tryz.prog 36 #[.slice a n cp, .agg (exC y)] w (RetX w (fun b : Nat × Nat => .func (.func 79) #[] #[ptr b.1 0, ptr b.2 0]) (fun b w1 => w.heap.size ≤ b.1 ∧ w.heap.size ≤ b.2 ∧ b.1 ≠ b.2 ∧ w1.heap[b.1]? = some (.cells (exC y) 41 (0, 0)) ∧ w1.heap[b.2]? = some (.cells #[.slice a n cp] 38 (0, 0)))) := by
  
  refine enter (vs := [_, _]) Tryz.func36 rfl Tryz.ntmps36 rfl ?_
  refine CJ.seq ?_
  refine CJ.region ?_
  refine boxR rfl rfl rfl ?_
  intro b2 w2 hb2 ha2 ho2 hm2 hz2
  simp only [Above] at ha2
  try simp only [Off, book, List.cons_append, List.nil_append, List.set_cons_zero, List.set_cons_succ, ne_eq] at ho2
  refine boxR rfl rfl rfl ?_
  intro b3 w3 hb3 ha3 ho3 hm3 hz3
  simp only [Above] at ha3
  try simp only [Off, book, List.cons_append, List.nil_append, List.set_cons_zero, List.set_cons_succ, ne_eq] at ho3
  refine rv rfl rfl rfl (asg_r rfl) ?_
  refine OJ.done ?_
  refine PJ.next ?_
  refine CJ.seq ?_
  refine CJ.region ?_
  refine rv rfl rfl rfl (mkF_r rfl) ?_
  refine rv rfl rfl rfl (asg_r rfl) ?_
  refine OJ.done ?_
  refine PJ.next ?_
  refine CJ.ret ?_
  refine retX1 (b3, b2) Tryz.results36 rfl (.tail _ (.tail _ (.head _))) rfl ?_
  exact fun W hS => ⟨ha3.2.1, ha2.1, by have := (Array.getElem?_eq_some_iff.1 hb2).1; intro e; dsimp only at e; omega, hS.old (.head _) hb3 hm3 trivial, hS.old (.tail _ (.head _)) hb2 hm2 trivial⟩
set_option maxHeartbeats 800000 in
/-- chartroom/policy.approved$1 -/
theorem approved_iter {Z : Fx} (hZ : FxOk Z) (ls : List Ls) (hl : ls.length ≤ 1000000) (f : Nat → Int) (cs : List Cn) (hcl : cs.length ≤ 1000000) (N : Nat) (a : Option Addr) (cp : Nat) (ca : Option Addr) (cc : Nat) (by_ bx : Nat) (W : World) (hN : N ≤ W.heap.size) (hsl : SlAt lsC 5 N W a ls) (hcs : SlAt cnC 3 N W ca cs) (hb1 : W.heap[by_]? = some (.cells (exC (⟨f, ca, cs, cc⟩ : Ex)) 41 (0, 0))) (hb2 : W.heap[bx]? = some (.cells #[.slice a ls.length cp] 38 (0, 0))) (hg : Glb W) (hg2 : 2 ≤ N) :
    IterSpec Tryz.prog 79 [ptr by_ 0, ptr bx 0] (fun o : Int => [.int .i64 o]) (cntL Z ls f cs) (fun _ => False) (fun k => k < N ∨ k = by_ ∨ k = bx) W := by
  intro l M I X0 hM hI hX hy h0
  have hm1 : ¬ M by_ := fun h => (hM _ h).2.2 (.inr (.inl rfl))
  have hm2 : ¬ M bx := fun h => (hM _ h).2.2 (.inr (.inr rfl))
  have hN0 : ∀ k, k < N → ¬ M k := fun k hk h => (hM k h).2.2 (.inl hk)
  have hl1 := (Array.getElem?_eq_some_iff.1 hb1).1
  have hl2 := (Array.getElem?_eq_some_iff.1 hb2).1
  refine enterG (itG hM (hI [])) [] (vs := [_, _, _]) Tryz.func79 rfl Tryz.ntmps79 rfl (st_it hM (hI []) h0) ?_
  refine CJ.seq ?_
  refine CJ.region ?_
  refine rv rfl rfl rfl (fld_r Tryz.underlying41 rfl Tryz.sizeOf39 rfl) ?_
  refine rv rfl rfl rfl (RV.re (v' := .slice ca cs.length cc) (ldR_r Tryz.isAgg39 rfl (.head _) hb1 hm1 trivial rfl) (rfl)) ?_
  refine rv rfl rfl rfl (lenS_r Tryz.underlying39 rfl) ?_
  refine rv rfl rfl rfl (mv_r rfl) ?_
  refine OJ.done ?_
  refine PJ.next ?_
  refine CJ.block ?_
  refine CJ.loop (α := Nat) (fun j => [(0, yv l), (1, ptr by_ 0), (2, ptr bx 0), (10, .slice ca cs.length cc), (11, .int .i64 (cs.length : Int)), (12, .int .i64 (j : Int))]) (fun j => []) (fun j => [W]) (fun j => itG hM (hI (cntL Z ls f (cs.take j)))) (fun j => j ≤ cs.length) (fun j => cs.length - j) 0 (Nat.zero_le _) ⟨rfl, rfl, rfl, rfl, rfl, rfl, trivial⟩ rfl rfl (by simp) ?_
  rintro j hj
  refine CJ.seq ?_
  refine CJ.region ?_
  refine rv rfl rfl rfl (lss_r rfl rfl) ?_
  refine OJ.done ?_
  refine PJ.next ?_
  refine CJ.seq ?_
  refine CJ.cond rfl (fun hc1 => ?_) (fun hc1 => ?_)
  · try simp only [decide_eq_true_eq, decide_eq_false_iff_not, Bool.not_eq_true', Bool.not_eq_false'] at hc1
    refine CJ.skip ?_
    refine PJ.next ?_
    refine CJ.seq ?_
    refine CJ.block ?_
    refine CJ.seq ?_
    obtain ⟨b0, off0, cs0, t0, fr0, rfl, hbl0, hcs0, hel0⟩ := hcs.get (by omega)
    obtain ⟨c, hc⟩ := get_of cs j (by omega)
    refine CJ.region ?_
    refine rv rfl rfl rfl (idxS_r Tryz.underlying39 Tryz.sizeOf32 rfl rfl (by omega) (by omega)) ?_
    refine rv rfl rfl rfl (RV.re (v' := .agg (cnC c)) (ldRA_r Tryz.isAgg32 Tryz.sizeOf32 rfl (.head _) hcs0 (hN0 b0 hbl0) trivial (el_size hel0 hc rfl)) (congrArg Value.agg (el_cut hel0 hc rfl))) ?_
    refine allW Tryz.zeroValue32 rfl rfl ?_
    intro b5 ha5 ho5
    simp only [Above] at ha5
    try simp only [Off, book, List.cons_append, List.nil_append, List.set_cons_zero, List.set_cons_succ, ne_eq] at ho5
    refine stWw (i := 0) rfl Tryz.sizeOf32 rfl rfl rfl rfl rfl rfl ?_
    refine OJ.done ?_
    refine PJ.next ?_
    refine CJ.seq ?_
    refine CJ.region ?_
    refine rv rfl rfl rfl (RV.re (v' := .slice a ls.length cp) (ldR_r Tryz.isAgg38 rfl (.head _) hb2 hm2 (by first | (simp only [Off, book, List.cons_append, List.nil_append, List.set_cons_zero, List.set_cons_succ, List.eraseIdx_cons_zero, List.eraseIdx_cons_succ, ne_eq, and_true]; omega) | (simp [Off] <;> omega)) rfl) (rfl)) ?_
    refine rv rfl rfl rfl (mkF_r rfl) ?_
    refine call Tryz.call80 rfl rfl rfl (fun W1 hS => IndexFunc_L ls hl N a cp W1 (Nat.le_trans hN (hS.links _ (.head _)).size) (hsl.up (Nat.le_refl _) (hS.same (.head _) hN (fun k hk => hN0 k hk) (by first | exact True.intro | (simp only [Over, List.set_cons_zero, List.set_cons_succ, List.eraseIdx_cons_zero, List.eraseIdx_cons_succ, and_true]; omega)))) c b5 (hS.own _ (.head _))) ?_
    refine rv rfl rfl rfl (asg_r rfl) ?_
    refine OJ.done ?_
    refine PJ.next ?_
    refine CJ.seq ?_
    refine CJ.region ?_
    refine rv rfl rfl rfl (fld_r Tryz.underlying32 rfl Tryz.sizeOf3 rfl) ?_
    refine rv rfl rfl rfl (ldW_r (i := 0) rfl Tryz.isAgg3 rfl rfl) ?_
    by_cases hD : DevOk c.dev
    · refine call Tryz.call16 rfl rfl rfl (fun W hS => people_Owner_ok hD W) ?_
      refine rv rfl rfl rfl (mv_r rfl) ?_
      refine rv rfl rfl rfl (ext_r rfl rfl) ?_
      refine rv rfl rfl rfl (ext_r rfl rfl) ?_
      refine rv rfl rfl rfl (asg_r rfl) ?_
      refine rv rfl rfl rfl (asg_r rfl) ?_
      refine OJ.done ?_
      refine PJ.next ?_
      refine CJ.seq ?_
      refine CJ.seq ?_
      rcases hix0 : ixL c.dev ls with _ | i
      · have hix := ixI_none hix0
        have hcnt : cntO Z ls f c = none := cntO_none hix0
        refine CJ.less (E' := [(0, _), (1, _), (2, _), (5, _), (6, _), (7, _), (8, _), (10, _), (11, _), (12, _), (13, _), (14, _), (15, _), (16, _), (17, _), (18, _), (19, _), (20, _), (21, _), (22, _), (23, _), (24, _)]) ⟨rfl, rfl, rfl, rfl, rfl, rfl, rfl, rfl, rfl, rfl, rfl, rfl, rfl, rfl, rfl, rfl, rfl, rfl, rfl, rfl, rfl, rfl, trivial⟩ ?_
        refine CJ.drwD 26 [.det [] _, .det [0] _, .det [1] _, .det [2] undef, .det [2] undef, .det [2, 3, 4] undef, .det [2, 5] undef, .det [2, 6] undef, .det [2, 7] _, .det [8] _, .det [9] undef, .det [9, 10] undef, .det [9, 11] _, .det [12] _, .det [13] undef, .det [13] undef, .det [13, 14, 15] undef, .det [13, 16] undef, .det [13, 17] undef, .det [13] undef, .det [13, 19] undef, .det [13] undef, .det [13, 21] undef, .det [13, 20, 22] undef, .det [13] undef, .det [13, 24] undef] (by kernel_rfl) (xc (fun vals => X.val rfl rfl (mv_r rfl) (fun _ _ => rfl)) (xc (fun vals => X.val rfl rfl (RV.re (v' := .bool true) (lss_r rfl rfl) (congrArg Value.bool (decide_eq_true (by omega)))) (fun _ _ => rfl)) (xc (fun vals => X.val rfl rfl (mv_r rfl) (fun _ _ => rfl)) (xc (fun vals => X.off rfl (fun _ _ => rfl)) (xc (fun vals => X.off rfl (fun _ _ => rfl)) (xc (fun vals => X.off rfl (fun _ _ => rfl)) (xc (fun vals => X.off rfl (fun _ _ => rfl)) (xc (fun vals => X.off rfl (fun _ _ => rfl)) (xc (fun vals => X.val rfl rfl (pkT_r rfl rfl) (fun _ _ => rfl)) (xc (fun vals => X.val rfl rfl (mv_r rfl) (fun _ _ => rfl)) (xc (fun vals => X.off rfl (fun _ _ => rfl)) (xc (fun vals => X.off rfl (fun _ _ => rfl)) (xc (fun vals => X.val rfl rfl (pkT_r rfl rfl) (fun _ _ => rfl)) (xc (fun vals => X.val rfl rfl (mv_r rfl) (fun _ _ => rfl)) (xc (fun vals => X.off rfl (fun _ _ => rfl)) (xc (fun vals => X.off rfl (fun _ _ => rfl)) (xc (fun vals => X.off rfl (fun _ _ => rfl)) (xc (fun vals => X.off rfl (fun _ _ => rfl)) (xc (fun vals => X.off rfl (fun _ _ => rfl)) (xc (fun vals => X.off rfl (fun _ _ => rfl)) (xc (fun vals => X.off rfl (fun _ _ => rfl)) (xc (fun vals => X.off rfl (fun _ _ => rfl)) (xc (fun vals => X.off rfl (fun _ _ => rfl)) (xc (fun vals => X.off rfl (fun _ _ => rfl)) (xc (fun vals => X.off rfl (fun _ _ => rfl)) (xc (fun vals => X.off rfl (fun _ _ => rfl)) (xn))))))))))))))))))))))))))) (by kernel_rfl) (by kernel_rfl) (by kernel_rfl) (fun vals => ?_)
        refine OJ.off rfl (by decide) rfl ?_
        refine OJ.off rfl (by decide) rfl ?_
        refine rv rfl rfl rfl (pkT_r rfl rfl) ?_
        refine OJ.done ?_
        refine PJ.next ?_
        refine CJ.condT rfl ?_
        refine CJ.exit ?_
        refine PJ.exThen ?_
        refine PJ.exHit ?_
        refine PJ.next ?_
        refine CJ.region ?_
        refine rv rfl rfl rfl (addI_r rfl rfl (by omega) (by omega)) ?_
        refine rv rfl rfl rfl (mv_r rfl) ?_
        refine OJ.done ?_
        refine PJ.fewL (L' := [W]) (by simp) ?_
        refine PJ.dropAt (i := 0) rfl ⟨by omega, trivial⟩ ?_
        refine PJ.again (j + 1) (by omega) (by omega) ⟨rfl, rfl, rfl, rfl, rfl, rfl, trivial⟩ rfl (by show itG hM (hI (cntL Z ls f (cs.take (j + 1)))) = _; rw [cntL_none hc hcnt]) (by simp)
      · have hix := ixI_some hix0
        obtain ⟨z, hz, hzd⟩ := ixL_get hix0
        obtain ⟨b1, off1, cs1, t1, fr1, rfl, hbl1, hcs1, hel1⟩ := hsl.get (by have := lt_of_get hz; omega)
        have hil := lt_of_get hz
        rcases hgo : z.gone with _ | _
        · have hB := mg_byt hZ f c.dev
          rcases hv : verB Z z.ver (dgU (mgD Z f c.dev)) c.r c.s with _ | _
          · have hcnt : cntO Z ls f c = none := cntO_no hix0 hz (.inr (.inr hv))
            obtain ⟨mf, hmf⟩ : ∃ mf, mgD Z f c.dev = mf := ⟨_, rfl⟩
            rw [hmf] at hB hv
            refine CJ.less (E' := [(0, _), (1, _), (2, _), (5, _), (6, _), (7, _), (8, _), (10, _), (11, _), (12, _), (13, _), (14, _), (15, _), (16, _), (17, _), (18, _), (19, _), (20, _), (21, _), (22, _), (23, _), (24, _)]) ⟨rfl, rfl, rfl, rfl, rfl, rfl, rfl, rfl, rfl, rfl, rfl, rfl, rfl, rfl, rfl, rfl, rfl, rfl, rfl, rfl, rfl, rfl, trivial⟩ ?_
            refine CJ.chn 26 [23] [([], some _), ([0], some _), ([1], some _), ([2], some (.slice (some ⟨b1, off1, none⟩) ls.length cp)), ([2], some _), ([2, 3, 4], some _), ([2, 5], some _), ([2, 6], some (.bool false)), ([2, 7], some _), ([8], some _), ([9], some _), ([9, 10], some _), ([9, 11], some _), ([12], some _), ([13], some (.slice (some ⟨b1, off1, none⟩) ls.length cp)), ([13], some _), ([13, 14, 15], some _), ([13, 16], some _), ([13, 17], some (.int .i64 z.ver)), ([13], some _), ([13, 19], some (.agg (dg f))), ([13], some _), ([13, 21], some (.int .i64 c.dev)), ([13, 20, 22], none), ([13], some _), ([13, 24], some (.agg #[.int .i64 c.r, .int .i64 c.s]))] (fun cv L' H' => match cv with | [] => L' = [W] ∧ H' = [(b5, .cells (cnC c) 32 (0, 0))] | [v1] => ∃ (b48 : Nat) (w48 : World), v1 = .slice (some ⟨b48, 0, none⟩) 32 32 ∧ L' = [w48, W] ∧ H' = [(b5, .cells (cnC c) 32 (0, 0))] ∧ w48.heap[b48]? = some (.cells (dg mf) 26 (0, 0)) ∧ W.heap.size ≤ b48 ∧ b5 ≠ b48 | _ => False) (by kernel_rfl) ⟨rfl, rfl⟩ (by kernel_rfl) (by kernel_rfl) (by kernel_rfl) (by kernel_rfl) (by kernel_rfl) (by kernel_rfl) (pc (fun cv L' H' hd hP => X.val rfl rfl (mv_r rfl) (fun _ _ => rfl)) (pc (fun cv L' H' hd hP => X.val rfl rfl (RV.re (v' := .bool false) (lss_r rfl rfl) (congrArg Value.bool (decide_eq_false (by omega)))) (fun _ _ => rfl)) (pc (fun cv L' H' hd hP => X.val rfl rfl (mv_r rfl) (fun _ _ => rfl)) (pc (fun cv L' H' hd hP => match cv, hd, hP with | [], hd, hP => (by obtain ⟨rfl, rfl⟩ := hP; exact X.val rfl rfl (ldR_r Tryz.isAgg38 rfl (.head _) hb2 hm2 (by first | (simp only [Off, book, List.cons_append, List.nil_append, List.set_cons_zero, List.set_cons_succ, List.eraseIdx_cons_zero, List.eraseIdx_cons_succ, ne_eq, and_true]; omega) | (simp [Off] <;> omega)) rfl) (fun _ _ => rfl)) | [v1], hd, hP => (by obtain ⟨b48, w48, rfl, rfl, rfl, hb48, hq48, ho48⟩ := hP; exact X.val rfl rfl (ldR_r Tryz.isAgg38 rfl (.tail _ (.head _)) hb2 hm2 (by first | (simp only [Off, book, List.cons_append, List.nil_append, List.set_cons_zero, List.set_cons_succ, List.eraseIdx_cons_zero, List.eraseIdx_cons_succ, ne_eq, and_true]; omega) | (simp [Off] <;> omega)) rfl) (fun _ _ => rfl)) | _ :: _ :: _, _, hP => hP.elim) (pc (fun cv L' H' hd hP => X.val rfl rfl (mv_r rfl) (fun _ _ => rfl)) (pc (fun cv L' H' hd hP => X.val rfl rfl (idxS_r Tryz.underlying38 Tryz.sizeOf49 rfl rfl (by omega) (by omega)) (fun _ _ => rfl)) (pc (fun cv L' H' hd hP => X.val rfl rfl (fld_r Tryz.underlying49 rfl Tryz.sizeOf4 rfl) (fun _ _ => rfl)) (pc (fun cv L' H' hd hP => match cv, hd, hP with | [], hd, hP => (by obtain ⟨rfl, rfl⟩ := hP; exact X.val rfl rfl (RV.re (v' := .bool false) (ldR_r (v := .bool z.gone) Tryz.isAgg4 rfl (.head _) hcs1 (hN0 b1 hbl1) (by first | exact True.intro | (simp only [Off, List.set_cons_zero, List.set_cons_succ, List.eraseIdx_cons_zero, List.eraseIdx_cons_succ, ne_eq, and_true]; omega)) (el_at hel1 hz hix 4 (by decide))) (by rw [hgo])) (fun _ _ => rfl)) | [v1], hd, hP => (by obtain ⟨b48, w48, rfl, rfl, rfl, hb48, hq48, ho48⟩ := hP; exact X.val rfl rfl (RV.re (v' := .bool false) (ldR_r (v := .bool z.gone) Tryz.isAgg4 rfl (.tail _ (.head _)) hcs1 (hN0 b1 hbl1) (by first | exact True.intro | (simp only [Off, List.set_cons_zero, List.set_cons_succ, List.eraseIdx_cons_zero, List.eraseIdx_cons_succ, ne_eq, and_true]; omega)) (el_at hel1 hz hix 4 (by decide))) (by rw [hgo])) (fun _ _ => rfl)) | _ :: _ :: _, _, hP => hP.elim) (pc (fun cv L' H' hd hP => X.val rfl rfl (pkF_r rfl rfl) (fun _ _ => rfl)) (pc (fun cv L' H' hd hP => X.val rfl rfl (mv_r rfl) (fun _ _ => rfl)) (pc (fun cv L' H' hd hP => X.val rfl rfl (mv_r rfl) (fun _ _ => rfl)) (pc (fun cv L' H' hd hP => X.val rfl rfl (RV.re (v' := .bool false) (neqI_r rfl rfl) rfl) (fun _ _ => rfl)) (pc (fun cv L' H' hd hP => X.val rfl rfl (pkF_r rfl rfl) (fun _ _ => rfl)) (pc (fun cv L' H' hd hP => X.val rfl rfl (mv_r rfl) (fun _ _ => rfl)) (pc (fun cv L' H' hd hP => match cv, hd, hP with | [], hd, hP => (by obtain ⟨rfl, rfl⟩ := hP; exact X.val rfl rfl (ldR_r Tryz.isAgg38 rfl (.head _) hb2 hm2 (by first | (simp only [Off, book, List.cons_append, List.nil_append, List.set_cons_zero, List.set_cons_succ, List.eraseIdx_cons_zero, List.eraseIdx_cons_succ, ne_eq, and_true]; omega) | (simp [Off] <;> omega)) rfl) (fun _ _ => rfl)) | [v1], hd, hP => (by obtain ⟨b48, w48, rfl, rfl, rfl, hb48, hq48, ho48⟩ := hP; exact X.val rfl rfl (ldR_r Tryz.isAgg38 rfl (.tail _ (.head _)) hb2 hm2 (by first | (simp only [Off, book, List.cons_append, List.nil_append, List.set_cons_zero, List.set_cons_succ, List.eraseIdx_cons_zero, List.eraseIdx_cons_succ, ne_eq, and_true]; omega) | (simp [Off] <;> omega)) rfl) (fun _ _ => rfl)) | _ :: _ :: _, _, hP => hP.elim) (pc (fun cv L' H' hd hP => X.val rfl rfl (mv_r rfl) (fun _ _ => rfl)) (pc (fun cv L' H' hd hP => X.val rfl rfl (idxS_r Tryz.underlying38 Tryz.sizeOf49 rfl rfl (by omega) (by omega)) (fun _ _ => rfl)) (pc (fun cv L' H' hd hP => X.val rfl rfl (fld_r Tryz.underlying49 rfl Tryz.sizeOf3 rfl) (fun _ _ => rfl)) (pc (fun cv L' H' hd hP => match cv, hd, hP with | [], hd, hP => (by obtain ⟨rfl, rfl⟩ := hP; exact X.val rfl rfl (ldR_r (v := .int .i64 z.ver) Tryz.isAgg3 rfl (.head _) hcs1 (hN0 b1 hbl1) (by first | exact True.intro | (simp only [Off, List.set_cons_zero, List.set_cons_succ, List.eraseIdx_cons_zero, List.eraseIdx_cons_succ, ne_eq, and_true]; omega)) (el_at hel1 hz hix 1 (by decide))) (fun _ _ => rfl)) | [v1], hd, hP => (by obtain ⟨b48, w48, rfl, rfl, rfl, hb48, hq48, ho48⟩ := hP; exact X.val rfl rfl (ldR_r (v := .int .i64 z.ver) Tryz.isAgg3 rfl (.tail _ (.head _)) hcs1 (hN0 b1 hbl1) (by first | exact True.intro | (simp only [Off, List.set_cons_zero, List.set_cons_succ, List.eraseIdx_cons_zero, List.eraseIdx_cons_succ, ne_eq, and_true]; omega)) (el_at hel1 hz hix 1 (by decide))) (fun _ _ => rfl)) | _ :: _ :: _, _, hP => hP.elim) (pc (fun cv L' H' hd hP => X.val rfl rfl (fld_r Tryz.underlying41 rfl Tryz.sizeOf26 rfl) (fun _ _ => rfl)) (pc (fun cv L' H' hd hP => match cv, hd, hP with | [], hd, hP => (by obtain ⟨rfl, rfl⟩ := hP; exact X.val rfl rfl (ldRA_r Tryz.isAgg26 Tryz.sizeOf26 rfl (.head _) hb1 hm1 (by first | (simp only [Off, book, List.cons_append, List.nil_append, List.set_cons_zero, List.set_cons_succ, List.eraseIdx_cons_zero, List.eraseIdx_cons_succ, ne_eq, and_true]; omega) | (simp [Off] <;> omega)) (Nat.le_of_ble_eq_true rfl)) (fun _ _ => rfl)) | [v1], hd, hP => (by obtain ⟨b48, w48, rfl, rfl, rfl, hb48, hq48, ho48⟩ := hP; exact X.val rfl rfl (ldRA_r Tryz.isAgg26 Tryz.sizeOf26 rfl (.tail _ (.head _)) hb1 hm1 (by first | (simp only [Off, book, List.cons_append, List.nil_append, List.set_cons_zero, List.set_cons_succ, List.eraseIdx_cons_zero, List.eraseIdx_cons_succ, ne_eq, and_true]; omega) | (simp [Off] <;> omega)) (Nat.le_of_ble_eq_true rfl)) (fun _ _ => rfl)) | _ :: _ :: _, _, hP => hP.elim) (pc (fun cv L' H' hd hP => X.val rfl rfl (fld_r Tryz.underlying32 rfl Tryz.sizeOf3 rfl) (fun _ _ => rfl)) (pc (fun cv L' H' hd hP => match cv, hd, hP with | [], hd, hP => (by obtain ⟨rfl, rfl⟩ := hP; exact X.val rfl rfl (ldW_r (i := 0) rfl Tryz.isAgg3 rfl rfl) (fun _ _ => rfl)) | [v1], hd, hP => (by obtain ⟨b48, w48, rfl, rfl, rfl, hb48, hq48, ho48⟩ := hP; exact X.val rfl rfl (ldW_r (i := 0) rfl Tryz.isAgg3 rfl rfl) (fun _ _ => rfl)) | _ :: _ :: _, _, hP => hP.elim) (pk (pc (fun cv L' H' hd hP => X.val rfl rfl (fld_r Tryz.underlying32 rfl Tryz.sizeOf30 rfl) (fun _ _ => rfl)) (pc (fun cv L' H' hd hP => match cv, hd, hP with | [], hd, hP => (by obtain ⟨rfl, rfl⟩ := hP; exact X.val rfl rfl (ldWA_r (i := 0) rfl Tryz.isAgg30 Tryz.sizeOf30 rfl (Nat.le_of_ble_eq_true rfl)) (fun _ _ => rfl)) | [v1], hd, hP => (by obtain ⟨b48, w48, rfl, rfl, rfl, hb48, hq48, ho48⟩ := hP; exact X.val rfl rfl (ldWA_r (i := 0) rfl Tryz.isAgg30 Tryz.sizeOf30 rfl (Nat.le_of_ble_eq_true rfl)) (fun _ _ => rfl)) | _ :: _ :: _, _, hP => hP.elim) (pn))))))))))))))))))))))))))) ?_ ?_
            · refine sc rfl rfl rfl ?_ ?_
              · intro cv L' H' hl hP F Q' hk
                obtain rfl := List.eq_nil_of_length_eq_zero hl
                obtain ⟨rfl, rfl⟩ := hP
                refine callX (v := fun b : Nat => .slice (some ⟨b, 0, none⟩) 32 32) (Φ := fun (W1 : World) (b : Nat) (v1 : World) => W1.heap.size ≤ b ∧ v1.heap[b]? = some (.cells (dg mf) 26 (0, 0))) Tryz.call26 rfl rfl rfl (fun W1 hS => by rw [← hmf]; exact policy_message hZ f c.dev hD.i64 W1 (hg.old hS (.head _) (fun k hk => hN0 k (by omega)) (by simp only [Over, and_true]; omega))) ?_
                rintro W48 b48 w48 hS48 hB48 ⟨h1, h2⟩
                have hA := hS48.sizes
                simp only [Above] at hA
                have hU := hS48.under
                simp only [Under] at hU
                exact OJ.done (hk _ _ _ ⟨b48, w48, rfl, rfl, rfl, h2, by omega, by omega⟩)
              exact sn
            · intro cv L' H' hl hP
              obtain ⟨v1, rfl⟩ := len1 hl
              obtain ⟨b48, w48, rfl, rfl, rfl, hb48, hq48, ho48⟩ := hP
              refine call Tryz.call20 rfl rfl rfl (fun W1 hS => verG32v hZ hv hB b48 _ _ W1 (hS.old (.head _) hb48 (fun h => absurd (hM b48 h).1 (by omega)) (by first | exact True.intro | (simp only [Off, List.set_cons_zero, List.set_cons_succ, List.eraseIdx_cons_zero, List.eraseIdx_cons_succ, ne_eq, and_true]; omega))) (hg.old hS (.tail _ (.head _)) (fun k hk => hN0 k (by omega)) (by first | exact True.intro | (simp only [Over, List.set_cons_zero, List.set_cons_succ, List.eraseIdx_cons_zero, List.eraseIdx_cons_succ, and_true]; omega)))) (v := .bool false) ?_
              refine rv rfl rfl rfl (notB_r rfl) ?_
              refine rv rfl rfl rfl (pkF_r rfl rfl) ?_
              refine OJ.done ?_
              refine PJ.next ?_
              refine CJ.condT rfl ?_
              refine CJ.exit ?_
              refine PJ.exThen ?_
              refine PJ.exHit ?_
              refine PJ.next ?_
              refine CJ.region ?_
              refine rv rfl rfl rfl (addI_r rfl rfl (by omega) (by omega)) ?_
              refine rv rfl rfl rfl (mv_r rfl) ?_
              refine OJ.done ?_
              refine PJ.fewL (L' := [W]) (by simp) ?_
              refine PJ.dropAt (i := 0) rfl ⟨by omega, trivial⟩ ?_
              refine PJ.again (j + 1) (by omega) (by omega) ⟨rfl, rfl, rfl, rfl, rfl, rfl, trivial⟩ rfl (by show itG hM (hI (cntL Z ls f (cs.take (j + 1)))) = _; rw [cntL_none hc hcnt]) (by simp)
          · have hcnt : cntO Z ls f c = some (c.dev / 8) := cntO_yes hix0 hz hgo hD hv
            obtain ⟨mf, hmf⟩ : ∃ mf, mgD Z f c.dev = mf := ⟨_, rfl⟩
            rw [hmf] at hB hv
            refine CJ.less (E' := [(0, _), (1, _), (2, _), (5, _), (6, _), (7, _), (8, _), (10, _), (11, _), (12, _), (13, _), (14, _), (15, _), (16, _), (17, _), (18, _), (19, _), (20, _), (21, _), (22, _), (23, _), (24, _)]) ⟨rfl, rfl, rfl, rfl, rfl, rfl, rfl, rfl, rfl, rfl, rfl, rfl, rfl, rfl, rfl, rfl, rfl, rfl, rfl, rfl, rfl, rfl, trivial⟩ ?_
            refine CJ.chn 26 [23] [([], some _), ([0], some _), ([1], some _), ([2], some (.slice (some ⟨b1, off1, none⟩) ls.length cp)), ([2], some _), ([2, 3, 4], some _), ([2, 5], some _), ([2, 6], some (.bool false)), ([2, 7], some _), ([8], some _), ([9], some _), ([9, 10], some _), ([9, 11], some _), ([12], some _), ([13], some (.slice (some ⟨b1, off1, none⟩) ls.length cp)), ([13], some _), ([13, 14, 15], some _), ([13, 16], some _), ([13, 17], some (.int .i64 z.ver)), ([13], some _), ([13, 19], some (.agg (dg f))), ([13], some _), ([13, 21], some (.int .i64 c.dev)), ([13, 20, 22], none), ([13], some _), ([13, 24], some (.agg #[.int .i64 c.r, .int .i64 c.s]))] (fun cv L' H' => match cv with | [] => L' = [W] ∧ H' = [(b5, .cells (cnC c) 32 (0, 0))] | [v1] => ∃ (b48 : Nat) (w48 : World), v1 = .slice (some ⟨b48, 0, none⟩) 32 32 ∧ L' = [w48, W] ∧ H' = [(b5, .cells (cnC c) 32 (0, 0))] ∧ w48.heap[b48]? = some (.cells (dg mf) 26 (0, 0)) ∧ W.heap.size ≤ b48 ∧ b5 ≠ b48 | _ => False) (by kernel_rfl) ⟨rfl, rfl⟩ (by kernel_rfl) (by kernel_rfl) (by kernel_rfl) (by kernel_rfl) (by kernel_rfl) (by kernel_rfl) (pc (fun cv L' H' hd hP => X.val rfl rfl (mv_r rfl) (fun _ _ => rfl)) (pc (fun cv L' H' hd hP => X.val rfl rfl (RV.re (v' := .bool false) (lss_r rfl rfl) (congrArg Value.bool (decide_eq_false (by omega)))) (fun _ _ => rfl)) (pc (fun cv L' H' hd hP => X.val rfl rfl (mv_r rfl) (fun _ _ => rfl)) (pc (fun cv L' H' hd hP => match cv, hd, hP with | [], hd, hP => (by obtain ⟨rfl, rfl⟩ := hP; exact X.val rfl rfl (ldR_r Tryz.isAgg38 rfl (.head _) hb2 hm2 (by first | (simp only [Off, book, List.cons_append, List.nil_append, List.set_cons_zero, List.set_cons_succ, List.eraseIdx_cons_zero, List.eraseIdx_cons_succ, ne_eq, and_true]; omega) | (simp [Off] <;> omega)) rfl) (fun _ _ => rfl)) | [v1], hd, hP => (by obtain ⟨b48, w48, rfl, rfl, rfl, hb48, hq48, ho48⟩ := hP; exact X.val rfl rfl (ldR_r Tryz.isAgg38 rfl (.tail _ (.head _)) hb2 hm2 (by first | (simp only [Off, book, List.cons_append, List.nil_append, List.set_cons_zero, List.set_cons_succ, List.eraseIdx_cons_zero, List.eraseIdx_cons_succ, ne_eq, and_true]; omega) | (simp [Off] <;> omega)) rfl) (fun _ _ => rfl)) | _ :: _ :: _, _, hP => hP.elim) (pc (fun cv L' H' hd hP => X.val rfl rfl (mv_r rfl) (fun _ _ => rfl)) (pc (fun cv L' H' hd hP => X.val rfl rfl (idxS_r Tryz.underlying38 Tryz.sizeOf49 rfl rfl (by omega) (by omega)) (fun _ _ => rfl)) (pc (fun cv L' H' hd hP => X.val rfl rfl (fld_r Tryz.underlying49 rfl Tryz.sizeOf4 rfl) (fun _ _ => rfl)) (pc (fun cv L' H' hd hP => match cv, hd, hP with | [], hd, hP => (by obtain ⟨rfl, rfl⟩ := hP; exact X.val rfl rfl (RV.re (v' := .bool false) (ldR_r (v := .bool z.gone) Tryz.isAgg4 rfl (.head _) hcs1 (hN0 b1 hbl1) (by first | exact True.intro | (simp only [Off, List.set_cons_zero, List.set_cons_succ, List.eraseIdx_cons_zero, List.eraseIdx_cons_succ, ne_eq, and_true]; omega)) (el_at hel1 hz hix 4 (by decide))) (by rw [hgo])) (fun _ _ => rfl)) | [v1], hd, hP => (by obtain ⟨b48, w48, rfl, rfl, rfl, hb48, hq48, ho48⟩ := hP; exact X.val rfl rfl (RV.re (v' := .bool false) (ldR_r (v := .bool z.gone) Tryz.isAgg4 rfl (.tail _ (.head _)) hcs1 (hN0 b1 hbl1) (by first | exact True.intro | (simp only [Off, List.set_cons_zero, List.set_cons_succ, List.eraseIdx_cons_zero, List.eraseIdx_cons_succ, ne_eq, and_true]; omega)) (el_at hel1 hz hix 4 (by decide))) (by rw [hgo])) (fun _ _ => rfl)) | _ :: _ :: _, _, hP => hP.elim) (pc (fun cv L' H' hd hP => X.val rfl rfl (pkF_r rfl rfl) (fun _ _ => rfl)) (pc (fun cv L' H' hd hP => X.val rfl rfl (mv_r rfl) (fun _ _ => rfl)) (pc (fun cv L' H' hd hP => X.val rfl rfl (mv_r rfl) (fun _ _ => rfl)) (pc (fun cv L' H' hd hP => X.val rfl rfl (RV.re (v' := .bool false) (neqI_r rfl rfl) rfl) (fun _ _ => rfl)) (pc (fun cv L' H' hd hP => X.val rfl rfl (pkF_r rfl rfl) (fun _ _ => rfl)) (pc (fun cv L' H' hd hP => X.val rfl rfl (mv_r rfl) (fun _ _ => rfl)) (pc (fun cv L' H' hd hP => match cv, hd, hP with | [], hd, hP => (by obtain ⟨rfl, rfl⟩ := hP; exact X.val rfl rfl (ldR_r Tryz.isAgg38 rfl (.head _) hb2 hm2 (by first | (simp only [Off, book, List.cons_append, List.nil_append, List.set_cons_zero, List.set_cons_succ, List.eraseIdx_cons_zero, List.eraseIdx_cons_succ, ne_eq, and_true]; omega) | (simp [Off] <;> omega)) rfl) (fun _ _ => rfl)) | [v1], hd, hP => (by obtain ⟨b48, w48, rfl, rfl, rfl, hb48, hq48, ho48⟩ := hP; exact X.val rfl rfl (ldR_r Tryz.isAgg38 rfl (.tail _ (.head _)) hb2 hm2 (by first | (simp only [Off, book, List.cons_append, List.nil_append, List.set_cons_zero, List.set_cons_succ, List.eraseIdx_cons_zero, List.eraseIdx_cons_succ, ne_eq, and_true]; omega) | (simp [Off] <;> omega)) rfl) (fun _ _ => rfl)) | _ :: _ :: _, _, hP => hP.elim) (pc (fun cv L' H' hd hP => X.val rfl rfl (mv_r rfl) (fun _ _ => rfl)) (pc (fun cv L' H' hd hP => X.val rfl rfl (idxS_r Tryz.underlying38 Tryz.sizeOf49 rfl rfl (by omega) (by omega)) (fun _ _ => rfl)) (pc (fun cv L' H' hd hP => X.val rfl rfl (fld_r Tryz.underlying49 rfl Tryz.sizeOf3 rfl) (fun _ _ => rfl)) (pc (fun cv L' H' hd hP => match cv, hd, hP with | [], hd, hP => (by obtain ⟨rfl, rfl⟩ := hP; exact X.val rfl rfl (ldR_r (v := .int .i64 z.ver) Tryz.isAgg3 rfl (.head _) hcs1 (hN0 b1 hbl1) (by first | exact True.intro | (simp only [Off, List.set_cons_zero, List.set_cons_succ, List.eraseIdx_cons_zero, List.eraseIdx_cons_succ, ne_eq, and_true]; omega)) (el_at hel1 hz hix 1 (by decide))) (fun _ _ => rfl)) | [v1], hd, hP => (by obtain ⟨b48, w48, rfl, rfl, rfl, hb48, hq48, ho48⟩ := hP; exact X.val rfl rfl (ldR_r (v := .int .i64 z.ver) Tryz.isAgg3 rfl (.tail _ (.head _)) hcs1 (hN0 b1 hbl1) (by first | exact True.intro | (simp only [Off, List.set_cons_zero, List.set_cons_succ, List.eraseIdx_cons_zero, List.eraseIdx_cons_succ, ne_eq, and_true]; omega)) (el_at hel1 hz hix 1 (by decide))) (fun _ _ => rfl)) | _ :: _ :: _, _, hP => hP.elim) (pc (fun cv L' H' hd hP => X.val rfl rfl (fld_r Tryz.underlying41 rfl Tryz.sizeOf26 rfl) (fun _ _ => rfl)) (pc (fun cv L' H' hd hP => match cv, hd, hP with | [], hd, hP => (by obtain ⟨rfl, rfl⟩ := hP; exact X.val rfl rfl (ldRA_r Tryz.isAgg26 Tryz.sizeOf26 rfl (.head _) hb1 hm1 (by first | (simp only [Off, book, List.cons_append, List.nil_append, List.set_cons_zero, List.set_cons_succ, List.eraseIdx_cons_zero, List.eraseIdx_cons_succ, ne_eq, and_true]; omega) | (simp [Off] <;> omega)) (Nat.le_of_ble_eq_true rfl)) (fun _ _ => rfl)) | [v1], hd, hP => (by obtain ⟨b48, w48, rfl, rfl, rfl, hb48, hq48, ho48⟩ := hP; exact X.val rfl rfl (ldRA_r Tryz.isAgg26 Tryz.sizeOf26 rfl (.tail _ (.head _)) hb1 hm1 (by first | (simp only [Off, book, List.cons_append, List.nil_append, List.set_cons_zero, List.set_cons_succ, List.eraseIdx_cons_zero, List.eraseIdx_cons_succ, ne_eq, and_true]; omega) | (simp [Off] <;> omega)) (Nat.le_of_ble_eq_true rfl)) (fun _ _ => rfl)) | _ :: _ :: _, _, hP => hP.elim) (pc (fun cv L' H' hd hP => X.val rfl rfl (fld_r Tryz.underlying32 rfl Tryz.sizeOf3 rfl) (fun _ _ => rfl)) (pc (fun cv L' H' hd hP => match cv, hd, hP with | [], hd, hP => (by obtain ⟨rfl, rfl⟩ := hP; exact X.val rfl rfl (ldW_r (i := 0) rfl Tryz.isAgg3 rfl rfl) (fun _ _ => rfl)) | [v1], hd, hP => (by obtain ⟨b48, w48, rfl, rfl, rfl, hb48, hq48, ho48⟩ := hP; exact X.val rfl rfl (ldW_r (i := 0) rfl Tryz.isAgg3 rfl rfl) (fun _ _ => rfl)) | _ :: _ :: _, _, hP => hP.elim) (pk (pc (fun cv L' H' hd hP => X.val rfl rfl (fld_r Tryz.underlying32 rfl Tryz.sizeOf30 rfl) (fun _ _ => rfl)) (pc (fun cv L' H' hd hP => match cv, hd, hP with | [], hd, hP => (by obtain ⟨rfl, rfl⟩ := hP; exact X.val rfl rfl (ldWA_r (i := 0) rfl Tryz.isAgg30 Tryz.sizeOf30 rfl (Nat.le_of_ble_eq_true rfl)) (fun _ _ => rfl)) | [v1], hd, hP => (by obtain ⟨b48, w48, rfl, rfl, rfl, hb48, hq48, ho48⟩ := hP; exact X.val rfl rfl (ldWA_r (i := 0) rfl Tryz.isAgg30 Tryz.sizeOf30 rfl (Nat.le_of_ble_eq_true rfl)) (fun _ _ => rfl)) | _ :: _ :: _, _, hP => hP.elim) (pn))))))))))))))))))))))))))) ?_ ?_
            · refine sc rfl rfl rfl ?_ ?_
              · intro cv L' H' hl hP F Q' hk
                obtain rfl := List.eq_nil_of_length_eq_zero hl
                obtain ⟨rfl, rfl⟩ := hP
                refine callX (v := fun b : Nat => .slice (some ⟨b, 0, none⟩) 32 32) (Φ := fun (W1 : World) (b : Nat) (v1 : World) => W1.heap.size ≤ b ∧ v1.heap[b]? = some (.cells (dg mf) 26 (0, 0))) Tryz.call26 rfl rfl rfl (fun W1 hS => by rw [← hmf]; exact policy_message hZ f c.dev hD.i64 W1 (hg.old hS (.head _) (fun k hk => hN0 k (by omega)) (by simp only [Over, and_true]; omega))) ?_
                rintro W48 b48 w48 hS48 hB48 ⟨h1, h2⟩
                have hA := hS48.sizes
                simp only [Above] at hA
                have hU := hS48.under
                simp only [Under] at hU
                exact OJ.done (hk _ _ _ ⟨b48, w48, rfl, rfl, rfl, h2, by omega, by omega⟩)
              exact sn
            · intro cv L' H' hl hP
              obtain ⟨v1, rfl⟩ := len1 hl
              obtain ⟨b48, w48, rfl, rfl, rfl, hb48, hq48, ho48⟩ := hP
              refine call Tryz.call20 rfl rfl rfl (fun W1 hS => verG32v hZ hv hB b48 _ _ W1 (hS.old (.head _) hb48 (fun h => absurd (hM b48 h).1 (by omega)) (by first | exact True.intro | (simp only [Off, List.set_cons_zero, List.set_cons_succ, List.eraseIdx_cons_zero, List.eraseIdx_cons_succ, ne_eq, and_true]; omega))) (hg.old hS (.tail _ (.head _)) (fun k hk => hN0 k (by omega)) (by first | exact True.intro | (simp only [Over, List.set_cons_zero, List.set_cons_succ, List.eraseIdx_cons_zero, List.eraseIdx_cons_succ, and_true]; omega)))) (v := .bool true) ?_
              refine rv rfl rfl rfl (notB_r rfl) ?_
              refine rv rfl rfl rfl (pkF_r rfl rfl) ?_
              refine OJ.done ?_
              refine PJ.next ?_
              refine CJ.condF rfl ?_
              refine CJ.skip ?_
              refine PJ.next ?_
              refine CJ.seq ?_
              refine CJ.region ?_
              refine rv rfl rfl rfl (mv_r rfl) ?_
              refine rv rfl rfl rfl (mv_r rfl) ?_
              refine yld (itG hM (hI (cntL Z ls f (cs.take (j + 1))))) (itG hM hX) rfl rfl rfl rfl (fun W1 hS => by have := hy (cntL Z ls f (cs.take j)) (c.dev / 8) W1 (by rw [← cntL_some hc hcnt]; exact cntL_pre Z ls f cs (j + 1)) hS.ghost; rw [← cntL_some hc hcnt] at this; exact this) rfl rfl rfl rfl ?_ ?_
              · refine rv rfl rfl rfl (notB_r rfl) ?_
                refine OJ.done ?_
                refine PJ.next ?_
                refine CJ.condF rfl ?_
                refine CJ.skip ?_
                refine PJ.norBlock ?_
                refine PJ.next ?_
                refine CJ.region ?_
                refine rv rfl rfl rfl (addI_r rfl rfl (by omega) (by omega)) ?_
                refine rv rfl rfl rfl (mv_r rfl) ?_
                refine OJ.done ?_
                refine PJ.fewL (L' := [W]) (by simp) ?_
                refine PJ.dropAt (i := 0) rfl ⟨by omega, trivial⟩ ?_
                refine PJ.again (j + 1) (by omega) (by omega) ⟨rfl, rfl, rfl, rfl, rfl, rfl, trivial⟩ rfl rfl (by simp)
              · refine rv rfl rfl rfl (notB_r rfl) ?_
                refine OJ.done ?_
                refine PJ.next ?_
                refine CJ.condT rfl ?_
                refine CJ.ret ?_
                refine PJ.retBlock ?_
                refine PJ.retThen ?_
                refine PJ.retThen ?_
                refine PJ.retBlock ?_
                refine PJ.fewL (L' := [W]) (by simp) ?_
                refine PJ.dropAt (i := 0) rfl ⟨by omega, trivial⟩ ?_
                exact retIt (.inl rfl) Tryz.results79 (.head _) (fun A hA => .inr hA)
        · have hcnt : cntO Z ls f c = none := cntO_no hix0 hz (.inl hgo)
          refine CJ.less (E' := [(0, _), (1, _), (2, _), (5, _), (6, _), (7, _), (8, _), (10, _), (11, _), (12, _), (13, _), (14, _), (15, _), (16, _), (17, _), (18, _), (19, _), (20, _), (21, _), (22, _), (23, _), (24, _)]) ⟨rfl, rfl, rfl, rfl, rfl, rfl, rfl, rfl, rfl, rfl, rfl, rfl, rfl, rfl, rfl, rfl, rfl, rfl, rfl, rfl, rfl, rfl, trivial⟩ ?_
          refine CJ.drwD 26 [.det [] _, .det [0] _, .det [1] _, .det [2] _, .det [2] _, .det [2, 3, 4] _, .det [2, 5] _, .det [2, 6] _, .det [2, 7] _, .det [8] _, .det [9] undef, .det [9, 10] undef, .det [9, 11] _, .det [12] _, .det [13] undef, .det [13] undef, .det [13, 14, 15] undef, .det [13, 16] undef, .det [13, 17] undef, .det [13] undef, .det [13, 19] undef, .det [13] undef, .det [13, 21] undef, .det [13, 20, 22] undef, .det [13] undef, .det [13, 24] undef] (by kernel_rfl) (xc (fun vals => X.val rfl rfl (mv_r rfl) (fun _ _ => rfl)) (xc (fun vals => X.val rfl rfl (RV.re (v' := .bool false) (lss_r rfl rfl) (congrArg Value.bool (decide_eq_false (by omega)))) (fun _ _ => rfl)) (xc (fun vals => X.val rfl rfl (mv_r rfl) (fun _ _ => rfl)) (xc (fun vals => X.val rfl rfl (RV.re (v' := .slice (some ⟨b1, off1, none⟩) ls.length cp) (ldR_r Tryz.isAgg38 rfl (.head _) hb2 hm2 (by first | (simp only [Off, book, List.cons_append, List.nil_append, List.set_cons_zero, List.set_cons_succ, List.eraseIdx_cons_zero, List.eraseIdx_cons_succ, ne_eq, and_true]; omega) | (simp [Off] <;> omega)) rfl) (rfl)) (fun _ _ => rfl)) (xc (fun vals => X.val rfl rfl (mv_r rfl) (fun _ _ => rfl)) (xc (fun vals => X.val rfl rfl (idxS_r Tryz.underlying38 Tryz.sizeOf49 rfl rfl (by omega) (by omega)) (fun _ _ => rfl)) (xc (fun vals => X.val rfl rfl (fld_r Tryz.underlying49 rfl Tryz.sizeOf4 rfl) (fun _ _ => rfl)) (xc (fun vals => X.val rfl rfl (RV.re (v' := .bool true) (ldR_r (v := .bool z.gone) Tryz.isAgg4 rfl (.head _) hcs1 (hN0 b1 hbl1) (by first | exact True.intro | (simp only [Off, List.set_cons_zero, List.set_cons_succ, List.eraseIdx_cons_zero, List.eraseIdx_cons_succ, ne_eq, and_true]; omega)) (el_at hel1 hz hix 4 (by decide))) (by rw [hgo])) (fun _ _ => rfl)) (xc (fun vals => X.val rfl rfl (pkF_r rfl rfl) (fun _ _ => rfl)) (xc (fun vals => X.val rfl rfl (mv_r rfl) (fun _ _ => rfl)) (xc (fun vals => X.off rfl (fun _ _ => rfl)) (xc (fun vals => X.off rfl (fun _ _ => rfl)) (xc (fun vals => X.val rfl rfl (pkT_r rfl rfl) (fun _ _ => rfl)) (xc (fun vals => X.val rfl rfl (mv_r rfl) (fun _ _ => rfl)) (xc (fun vals => X.off rfl (fun _ _ => rfl)) (xc (fun vals => X.off rfl (fun _ _ => rfl)) (xc (fun vals => X.off rfl (fun _ _ => rfl)) (xc (fun vals => X.off rfl (fun _ _ => rfl)) (xc (fun vals => X.off rfl (fun _ _ => rfl)) (xc (fun vals => X.off rfl (fun _ _ => rfl)) (xc (fun vals => X.off rfl (fun _ _ => rfl)) (xc (fun vals => X.off rfl (fun _ _ => rfl)) (xc (fun vals => X.off rfl (fun _ _ => rfl)) (xc (fun vals => X.off rfl (fun _ _ => rfl)) (xc (fun vals => X.off rfl (fun _ _ => rfl)) (xc (fun vals => X.off rfl (fun _ _ => rfl)) (xn))))))))))))))))))))))))))) (by kernel_rfl) (by kernel_rfl) (by kernel_rfl) (fun vals => ?_)
          refine OJ.off rfl (by decide) rfl ?_
          refine OJ.off rfl (by decide) rfl ?_
          refine rv rfl rfl rfl (pkT_r rfl rfl) ?_
          refine OJ.done ?_
          refine PJ.next ?_
          refine CJ.condT rfl ?_
          refine CJ.exit ?_
          refine PJ.exThen ?_
          refine PJ.exHit ?_
          refine PJ.next ?_
          refine CJ.region ?_
          refine rv rfl rfl rfl (addI_r rfl rfl (by omega) (by omega)) ?_
          refine rv rfl rfl rfl (mv_r rfl) ?_
          refine OJ.done ?_
          refine PJ.fewL (L' := [W]) (by simp) ?_
          refine PJ.dropAt (i := 0) rfl ⟨by omega, trivial⟩ ?_
          refine PJ.again (j + 1) (by omega) (by omega) ⟨rfl, rfl, rfl, rfl, rfl, rfl, trivial⟩ rfl (by show itG hM (hI (cntL Z ls f (cs.take (j + 1)))) = _; rw [cntL_none hc hcnt]) (by simp)
    · refine call Tryz.call16 rfl rfl rfl (fun W hS => people_Owner_no hD W) ?_
      refine rv rfl rfl rfl (mv_r rfl) ?_
      refine rv rfl rfl rfl (ext_r rfl rfl) ?_
      refine rv rfl rfl rfl (ext_r rfl rfl) ?_
      refine rv rfl rfl rfl (asg_r rfl) ?_
      refine rv rfl rfl rfl (asg_r rfl) ?_
      refine OJ.done ?_
      refine PJ.next ?_
      refine CJ.seq ?_
      refine CJ.seq ?_
      rcases hix0 : ixL c.dev ls with _ | i
      · have hix := ixI_none hix0
        have hcnt : cntO Z ls f c = none := cntO_none hix0
        refine CJ.less (E' := [(0, _), (1, _), (2, _), (5, _), (6, _), (7, _), (8, _), (10, _), (11, _), (12, _), (13, _), (14, _), (15, _), (16, _), (17, _), (18, _), (19, _), (20, _), (21, _), (22, _), (23, _), (24, _)]) ⟨rfl, rfl, rfl, rfl, rfl, rfl, rfl, rfl, rfl, rfl, rfl, rfl, rfl, rfl, rfl, rfl, rfl, rfl, rfl, rfl, rfl, rfl, trivial⟩ ?_
        refine CJ.drwD 26 [.det [] _, .det [0] _, .det [1] _, .det [2] undef, .det [2] undef, .det [2, 3, 4] undef, .det [2, 5] undef, .det [2, 6] undef, .det [2, 7] _, .det [8] _, .det [9] undef, .det [9, 10] undef, .det [9, 11] _, .det [12] _, .det [13] undef, .det [13] undef, .det [13, 14, 15] undef, .det [13, 16] undef, .det [13, 17] undef, .det [13] undef, .det [13, 19] undef, .det [13] undef, .det [13, 21] undef, .det [13, 20, 22] undef, .det [13] undef, .det [13, 24] undef] (by kernel_rfl) (xc (fun vals => X.val rfl rfl (mv_r rfl) (fun _ _ => rfl)) (xc (fun vals => X.val rfl rfl (RV.re (v' := .bool true) (lss_r rfl rfl) (congrArg Value.bool (decide_eq_true (by omega)))) (fun _ _ => rfl)) (xc (fun vals => X.val rfl rfl (mv_r rfl) (fun _ _ => rfl)) (xc (fun vals => X.off rfl (fun _ _ => rfl)) (xc (fun vals => X.off rfl (fun _ _ => rfl)) (xc (fun vals => X.off rfl (fun _ _ => rfl)) (xc (fun vals => X.off rfl (fun _ _ => rfl)) (xc (fun vals => X.off rfl (fun _ _ => rfl)) (xc (fun vals => X.val rfl rfl (pkT_r rfl rfl) (fun _ _ => rfl)) (xc (fun vals => X.val rfl rfl (mv_r rfl) (fun _ _ => rfl)) (xc (fun vals => X.off rfl (fun _ _ => rfl)) (xc (fun vals => X.off rfl (fun _ _ => rfl)) (xc (fun vals => X.val rfl rfl (pkT_r rfl rfl) (fun _ _ => rfl)) (xc (fun vals => X.val rfl rfl (mv_r rfl) (fun _ _ => rfl)) (xc (fun vals => X.off rfl (fun _ _ => rfl)) (xc (fun vals => X.off rfl (fun _ _ => rfl)) (xc (fun vals => X.off rfl (fun _ _ => rfl)) (xc (fun vals => X.off rfl (fun _ _ => rfl)) (xc (fun vals => X.off rfl (fun _ _ => rfl)) (xc (fun vals => X.off rfl (fun _ _ => rfl)) (xc (fun vals => X.off rfl (fun _ _ => rfl)) (xc (fun vals => X.off rfl (fun _ _ => rfl)) (xc (fun vals => X.off rfl (fun _ _ => rfl)) (xc (fun vals => X.off rfl (fun _ _ => rfl)) (xc (fun vals => X.off rfl (fun _ _ => rfl)) (xc (fun vals => X.off rfl (fun _ _ => rfl)) (xn))))))))))))))))))))))))))) (by kernel_rfl) (by kernel_rfl) (by kernel_rfl) (fun vals => ?_)
        refine OJ.off rfl (by decide) rfl ?_
        refine OJ.off rfl (by decide) rfl ?_
        refine rv rfl rfl rfl (pkT_r rfl rfl) ?_
        refine OJ.done ?_
        refine PJ.next ?_
        refine CJ.condT rfl ?_
        refine CJ.exit ?_
        refine PJ.exThen ?_
        refine PJ.exHit ?_
        refine PJ.next ?_
        refine CJ.region ?_
        refine rv rfl rfl rfl (addI_r rfl rfl (by omega) (by omega)) ?_
        refine rv rfl rfl rfl (mv_r rfl) ?_
        refine OJ.done ?_
        refine PJ.fewL (L' := [W]) (by simp) ?_
        refine PJ.dropAt (i := 0) rfl ⟨by omega, trivial⟩ ?_
        refine PJ.again (j + 1) (by omega) (by omega) ⟨rfl, rfl, rfl, rfl, rfl, rfl, trivial⟩ rfl (by show itG hM (hI (cntL Z ls f (cs.take (j + 1)))) = _; rw [cntL_none hc hcnt]) (by simp)
      · have hix := ixI_some hix0
        obtain ⟨z, hz, hzd⟩ := ixL_get hix0
        obtain ⟨b1, off1, cs1, t1, fr1, rfl, hbl1, hcs1, hel1⟩ := hsl.get (by have := lt_of_get hz; omega)
        have hil := lt_of_get hz
        rcases hgo : z.gone with _ | _
        · have hcnt : cntO Z ls f c = none := cntO_no hix0 hz (.inr (.inl hD))
          refine CJ.less (E' := [(0, _), (1, _), (2, _), (5, _), (6, _), (7, _), (8, _), (10, _), (11, _), (12, _), (13, _), (14, _), (15, _), (16, _), (17, _), (18, _), (19, _), (20, _), (21, _), (22, _), (23, _), (24, _)]) ⟨rfl, rfl, rfl, rfl, rfl, rfl, rfl, rfl, rfl, rfl, rfl, rfl, rfl, rfl, rfl, rfl, rfl, rfl, rfl, rfl, rfl, rfl, trivial⟩ ?_
          refine CJ.drwD 26 [.det [] _, .det [0] _, .det [1] _, .det [2] _, .det [2] _, .det [2, 3, 4] _, .det [2, 5] _, .det [2, 6] _, .det [2, 7] _, .det [8] _, .det [9] _, .det [9, 10] _, .det [9, 11] _, .det [12] _, .det [13] undef, .det [13] undef, .det [13, 14, 15] undef, .det [13, 16] undef, .det [13, 17] undef, .det [13] undef, .det [13, 19] undef, .det [13] undef, .det [13, 21] undef, .det [13, 20, 22] undef, .det [13] undef, .det [13, 24] undef] (by kernel_rfl) (xc (fun vals => X.val rfl rfl (mv_r rfl) (fun _ _ => rfl)) (xc (fun vals => X.val rfl rfl (RV.re (v' := .bool false) (lss_r rfl rfl) (congrArg Value.bool (decide_eq_false (by omega)))) (fun _ _ => rfl)) (xc (fun vals => X.val rfl rfl (mv_r rfl) (fun _ _ => rfl)) (xc (fun vals => X.val rfl rfl (RV.re (v' := .slice (some ⟨b1, off1, none⟩) ls.length cp) (ldR_r Tryz.isAgg38 rfl (.head _) hb2 hm2 (by first | (simp only [Off, book, List.cons_append, List.nil_append, List.set_cons_zero, List.set_cons_succ, List.eraseIdx_cons_zero, List.eraseIdx_cons_succ, ne_eq, and_true]; omega) | (simp [Off] <;> omega)) rfl) (rfl)) (fun _ _ => rfl)) (xc (fun vals => X.val rfl rfl (mv_r rfl) (fun _ _ => rfl)) (xc (fun vals => X.val rfl rfl (idxS_r Tryz.underlying38 Tryz.sizeOf49 rfl rfl (by omega) (by omega)) (fun _ _ => rfl)) (xc (fun vals => X.val rfl rfl (fld_r Tryz.underlying49 rfl Tryz.sizeOf4 rfl) (fun _ _ => rfl)) (xc (fun vals => X.val rfl rfl (RV.re (v' := .bool false) (ldR_r (v := .bool z.gone) Tryz.isAgg4 rfl (.head _) hcs1 (hN0 b1 hbl1) (by first | exact True.intro | (simp only [Off, List.set_cons_zero, List.set_cons_succ, List.eraseIdx_cons_zero, List.eraseIdx_cons_succ, ne_eq, and_true]; omega)) (el_at hel1 hz hix 4 (by decide))) (by rw [hgo])) (fun _ _ => rfl)) (xc (fun vals => X.val rfl rfl (pkF_r rfl rfl) (fun _ _ => rfl)) (xc (fun vals => X.val rfl rfl (mv_r rfl) (fun _ _ => rfl)) (xc (fun vals => X.val rfl rfl (mv_r rfl) (fun _ _ => rfl)) (xc (fun vals => X.val rfl rfl (RV.re (v' := .bool true) (neqI_r rfl rfl) rfl) (fun _ _ => rfl)) (xc (fun vals => X.val rfl rfl (pkF_r rfl rfl) (fun _ _ => rfl)) (xc (fun vals => X.val rfl rfl (mv_r rfl) (fun _ _ => rfl)) (xc (fun vals => X.off rfl (fun _ _ => rfl)) (xc (fun vals => X.off rfl (fun _ _ => rfl)) (xc (fun vals => X.off rfl (fun _ _ => rfl)) (xc (fun vals => X.off rfl (fun _ _ => rfl)) (xc (fun vals => X.off rfl (fun _ _ => rfl)) (xc (fun vals => X.off rfl (fun _ _ => rfl)) (xc (fun vals => X.off rfl (fun _ _ => rfl)) (xc (fun vals => X.off rfl (fun _ _ => rfl)) (xc (fun vals => X.off rfl (fun _ _ => rfl)) (xc (fun vals => X.off rfl (fun _ _ => rfl)) (xc (fun vals => X.off rfl (fun _ _ => rfl)) (xc (fun vals => X.off rfl (fun _ _ => rfl)) (xn))))))))))))))))))))))))))) (by kernel_rfl) (by kernel_rfl) (by kernel_rfl) (fun vals => ?_)
          refine OJ.off rfl (by decide) rfl ?_
          refine OJ.off rfl (by decide) rfl ?_
          refine rv rfl rfl rfl (pkT_r rfl rfl) ?_
          refine OJ.done ?_
          refine PJ.next ?_
          refine CJ.condT rfl ?_
          refine CJ.exit ?_
          refine PJ.exThen ?_
          refine PJ.exHit ?_
          refine PJ.next ?_
          refine CJ.region ?_
          refine rv rfl rfl rfl (addI_r rfl rfl (by omega) (by omega)) ?_
          refine rv rfl rfl rfl (mv_r rfl) ?_
          refine OJ.done ?_
          refine PJ.fewL (L' := [W]) (by simp) ?_
          refine PJ.dropAt (i := 0) rfl ⟨by omega, trivial⟩ ?_
          refine PJ.again (j + 1) (by omega) (by omega) ⟨rfl, rfl, rfl, rfl, rfl, rfl, trivial⟩ rfl (by show itG hM (hI (cntL Z ls f (cs.take (j + 1)))) = _; rw [cntL_none hc hcnt]) (by simp)
        · have hcnt : cntO Z ls f c = none := cntO_no hix0 hz (.inl hgo)
          refine CJ.less (E' := [(0, _), (1, _), (2, _), (5, _), (6, _), (7, _), (8, _), (10, _), (11, _), (12, _), (13, _), (14, _), (15, _), (16, _), (17, _), (18, _), (19, _), (20, _), (21, _), (22, _), (23, _), (24, _)]) ⟨rfl, rfl, rfl, rfl, rfl, rfl, rfl, rfl, rfl, rfl, rfl, rfl, rfl, rfl, rfl, rfl, rfl, rfl, rfl, rfl, rfl, rfl, trivial⟩ ?_
          refine CJ.drwD 26 [.det [] _, .det [0] _, .det [1] _, .det [2] _, .det [2] _, .det [2, 3, 4] _, .det [2, 5] _, .det [2, 6] _, .det [2, 7] _, .det [8] _, .det [9] undef, .det [9, 10] undef, .det [9, 11] _, .det [12] _, .det [13] undef, .det [13] undef, .det [13, 14, 15] undef, .det [13, 16] undef, .det [13, 17] undef, .det [13] undef, .det [13, 19] undef, .det [13] undef, .det [13, 21] undef, .det [13, 20, 22] undef, .det [13] undef, .det [13, 24] undef] (by kernel_rfl) (xc (fun vals => X.val rfl rfl (mv_r rfl) (fun _ _ => rfl)) (xc (fun vals => X.val rfl rfl (RV.re (v' := .bool false) (lss_r rfl rfl) (congrArg Value.bool (decide_eq_false (by omega)))) (fun _ _ => rfl)) (xc (fun vals => X.val rfl rfl (mv_r rfl) (fun _ _ => rfl)) (xc (fun vals => X.val rfl rfl (RV.re (v' := .slice (some ⟨b1, off1, none⟩) ls.length cp) (ldR_r Tryz.isAgg38 rfl (.head _) hb2 hm2 (by first | (simp only [Off, book, List.cons_append, List.nil_append, List.set_cons_zero, List.set_cons_succ, List.eraseIdx_cons_zero, List.eraseIdx_cons_succ, ne_eq, and_true]; omega) | (simp [Off] <;> omega)) rfl) (rfl)) (fun _ _ => rfl)) (xc (fun vals => X.val rfl rfl (mv_r rfl) (fun _ _ => rfl)) (xc (fun vals => X.val rfl rfl (idxS_r Tryz.underlying38 Tryz.sizeOf49 rfl rfl (by omega) (by omega)) (fun _ _ => rfl)) (xc (fun vals => X.val rfl rfl (fld_r Tryz.underlying49 rfl Tryz.sizeOf4 rfl) (fun _ _ => rfl)) (xc (fun vals => X.val rfl rfl (RV.re (v' := .bool true) (ldR_r (v := .bool z.gone) Tryz.isAgg4 rfl (.head _) hcs1 (hN0 b1 hbl1) (by first | exact True.intro | (simp only [Off, List.set_cons_zero, List.set_cons_succ, List.eraseIdx_cons_zero, List.eraseIdx_cons_succ, ne_eq, and_true]; omega)) (el_at hel1 hz hix 4 (by decide))) (by rw [hgo])) (fun _ _ => rfl)) (xc (fun vals => X.val rfl rfl (pkF_r rfl rfl) (fun _ _ => rfl)) (xc (fun vals => X.val rfl rfl (mv_r rfl) (fun _ _ => rfl)) (xc (fun vals => X.off rfl (fun _ _ => rfl)) (xc (fun vals => X.off rfl (fun _ _ => rfl)) (xc (fun vals => X.val rfl rfl (pkT_r rfl rfl) (fun _ _ => rfl)) (xc (fun vals => X.val rfl rfl (mv_r rfl) (fun _ _ => rfl)) (xc (fun vals => X.off rfl (fun _ _ => rfl)) (xc (fun vals => X.off rfl (fun _ _ => rfl)) (xc (fun vals => X.off rfl (fun _ _ => rfl)) (xc (fun vals => X.off rfl (fun _ _ => rfl)) (xc (fun vals => X.off rfl (fun _ _ => rfl)) (xc (fun vals => X.off rfl (fun _ _ => rfl)) (xc (fun vals => X.off rfl (fun _ _ => rfl)) (xc (fun vals => X.off rfl (fun _ _ => rfl)) (xc (fun vals => X.off rfl (fun _ _ => rfl)) (xc (fun vals => X.off rfl (fun _ _ => rfl)) (xc (fun vals => X.off rfl (fun _ _ => rfl)) (xc (fun vals => X.off rfl (fun _ _ => rfl)) (xn))))))))))))))))))))))))))) (by kernel_rfl) (by kernel_rfl) (by kernel_rfl) (fun vals => ?_)
          refine OJ.off rfl (by decide) rfl ?_
          refine OJ.off rfl (by decide) rfl ?_
          refine rv rfl rfl rfl (pkT_r rfl rfl) ?_
          refine OJ.done ?_
          refine PJ.next ?_
          refine CJ.condT rfl ?_
          refine CJ.exit ?_
          refine PJ.exThen ?_
          refine PJ.exHit ?_
          refine PJ.next ?_
          refine CJ.region ?_
          refine rv rfl rfl rfl (addI_r rfl rfl (by omega) (by omega)) ?_
          refine rv rfl rfl rfl (mv_r rfl) ?_
          refine OJ.done ?_
          refine PJ.fewL (L' := [W]) (by simp) ?_
          refine PJ.dropAt (i := 0) rfl ⟨by omega, trivial⟩ ?_
          refine PJ.again (j + 1) (by omega) (by omega) ⟨rfl, rfl, rfl, rfl, rfl, rfl, trivial⟩ rfl (by show itG hM (hI (cntL Z ls f (cs.take (j + 1)))) = _; rw [cntL_none hc hcnt]) (by simp)
  · try simp only [decide_eq_true_eq, decide_eq_false_iff_not, Bool.not_eq_true', Bool.not_eq_false'] at hc1
    refine CJ.exit ?_
    refine PJ.exThen ?_
    refine PJ.exThen ?_
    refine PJ.exHit ?_
    exact retIt (.inr rfl) Tryz.results79 (.head _) (fun A hA => .inl (by rw [List.take_of_length_le (by omega)] at hA; exact hA))
end Px
namespace Px
open Go Go.RowKit Go.Proofs
theorem expI_chk {Z : Fx} {p : Po} {ls : List Ls} {y : Ex} {e : Int} (he : chkI p = e) (h : ¬ e = 0) : e = expI Z p ls y := by
  have h1 := chkI_two p
  unfold expI
  rw [if_neg (by omega)]
  omega
theorem expI_bad {Z : Fx} {p : Po} {ls : List Ls} {f : Nat → Int} {ca : Option Addr} {cs : List Cn} {cc : Nat} (h0 : chkI p = 0) (h : (setK (cntL Z ls f cs)).length = 0 ∨ (p.two = true ∧ (setK (cntL Z ls f cs)).length = 1)) : 460 = expI Z p ls ⟨f, ca, cs, cc⟩ := by
  unfold expI
  rw [if_pos h0, if_pos h]
theorem expI_good {Z : Fx} {p : Po} {ls : List Ls} {f : Nat → Int} {ca : Option Addr} {cs : List Cn} {cc : Nat} (h0 : chkI p = 0) (h1 : ¬ (setK (cntL Z ls f cs)).length = 0) (h2 : p.two = false ∨ ¬ (setK (cntL Z ls f cs)).length = 1) : 0 = expI Z p ls ⟨f, ca, cs, cc⟩ := by
  unfold expI
  rw [if_pos h0, if_neg]
  rintro (h | ⟨h3, h4⟩)
  · exact h1 h
  · rcases h2 with h2 | h2
    · rw [h2] at h3; cases h3
    · exact h2 h4
def cntT (Z : Fx) (ls : List Ls) (f : Nat → Int) (c : Cn) : Value := match cntO Z ls f c with | some o => .tuple #[.int .i64 o, .bool true] | none => .tuple #[.int .i64 0, .bool false]
def intC (ks : List Int) : List Value := ks.map (Value.int .i64)
set_option maxHeartbeats 800000 in
/-- chartroom/policy.Export -/
theorem policy_Export {Z : Fx} (hZ : FxOk Z) (p : Po) (hf : PoFew p) (ls : List Ls) (hl : ls.length ≤ 1000000) (f : Nat → Int) (cs : List Cn) (hcl : cs.length ≤ 1000000) (N : Nat) (a : Option Addr) (cp : Nat) (ca : Option Addr) (cc : Nat) (w : World) (hN : N ≤ w.heap.size) (hp : PoAt N w p) (hsl : SlAt lsC 5 N w a ls) (hcs : SlAt cnC 3 N w ca cs) (hg : Glb w) (hg2 : 2 ≤ N) :
    Calls Tryz.prog 14 #[.agg (poC p), .slice a ls.length cp, .agg (exC (⟨f, ca, cs, cc⟩ : Ex))] w (Ret w (.int .i64 (expI Z p ls (⟨f, ca, cs, cc⟩ : Ex)))) := by
  obtain ⟨e, he⟩ : ∃ e, chkI p = e := ⟨_, rfl⟩
  refine enterM Gh.no [] (vs := [_, _, _]) Tryz.func14 rfl Tryz.ntmps14 rfl (st_no w) ?_
  refine CJ.seq ?_
  refine CJ.region ?_
  refine boxR rfl rfl rfl ?_
  intro b3 w3 hb3 ha3 ho3 hm3 hz3
  simp only [Above] at ha3
  try simp only [Off, book, List.cons_append, List.nil_append, List.set_cons_zero, List.set_cons_succ, ne_eq] at ho3
  refine boxR rfl rfl rfl ?_
  intro b5 w5 hb5 ha5 ho5 hm5 hz5
  simp only [Above] at ha5
  try simp only [Off, book, List.cons_append, List.nil_append, List.set_cons_zero, List.set_cons_succ, ne_eq] at ho5
  refine rv rfl rfl rfl (asg_r rfl) ?_
  refine OJ.done ?_
  refine PJ.next ?_
  refine CJ.seq ?_
  refine CJ.seq ?_
  refine CJ.region ?_
  refine rv rfl rfl rfl (RV.re (v' := .agg (poC p)) (ldRAw_r Tryz.isAgg24 Tryz.sizeOf24 rfl (.tail _ (.head _)) hb3 hm3 trivial rfl) (rfl)) ?_
  refine call Tryz.call11 rfl rfl rfl (fun W hS => by rw [← he]; exact policy_Check p hf N W (Nat.le_trans hN (hS.links _ (.tail _ (.tail _ (.head _)))).size) (hp.up (Nat.le_refl _) (hS.same (.tail _ (.tail _ (.head _))) hN (fun _ _ h => h) (by first | exact True.intro | (simp only [Over, List.set_cons_zero, List.set_cons_succ, List.eraseIdx_cons_zero, List.eraseIdx_cons_succ, and_true]; omega))))) (v := .int .i64 e) ?_
  refine rv rfl rfl rfl (asg_r rfl) ?_
  refine OJ.done ?_
  refine PJ.next ?_
  refine CJ.seq ?_
  refine CJ.region ?_
  refine rv rfl rfl rfl (mv_r rfl) ?_
  refine rv rfl rfl rfl (neqI_r rfl rfl) ?_
  refine OJ.done ?_
  refine PJ.next ?_
  refine CJ.cond rfl (fun hc1 => ?_) (fun hc1 => ?_)
  · try simp only [decide_eq_true_eq, decide_eq_false_iff_not, Bool.not_eq_true', Bool.not_eq_false'] at hc1
    refine CJ.seq ?_
    refine CJ.region ?_
    refine rv rfl rfl rfl (mv_r rfl) ?_
    refine rv rfl rfl rfl (asg_r rfl) ?_
    refine OJ.done ?_
    refine PJ.next ?_
    refine CJ.ret ?_
    refine PJ.retThen ?_
    exact retM0 (.inl rfl) Tryz.results14 rfl (fun W hS => ⟨congrArg Ending.returned (congrArg (Value.int .i64) (expI_chk he (by omega))), hS.base (.tail _ (.tail _ (.head _))) trivial⟩)
  · try simp only [decide_eq_true_eq, decide_eq_false_iff_not, Bool.not_eq_true', Bool.not_eq_false'] at hc1
    refine CJ.skip ?_
    refine PJ.next ?_
    refine CJ.seq ?_
    refine CJ.region ?_
    refine mkMW (v := .agg #[]) rfl rfl ?_
    intro b15 ha15 ho15
    simp only [Above] at ha15
    try simp only [Off, book, List.cons_append, List.nil_append, List.set_cons_zero, List.set_cons_succ, ne_eq] at ho15
    refine allW Tryz.zeroValue84 rfl rfl ?_
    intro b8 ha8 ho8
    simp only [Above] at ha8
    try simp only [Off, book, List.cons_append, List.nil_append, List.set_cons_zero, List.set_cons_succ, ne_eq] at ho8
    refine stWw (i := 0) rfl Tryz.sizeOf84 rfl rfl rfl rfl rfl rfl ?_
    refine OJ.done ?_
    refine PJ.next ?_
    refine CJ.seq ?_
    refine CJ.seq ?_
    refine CJ.region ?_
    refine rv rfl rfl rfl (mv_r rfl) ?_
    refine rv rfl rfl rfl (RV.re (v' := .agg (exC (⟨f, ca, cs, cc⟩ : Ex))) (ldRAw_r Tryz.isAgg41 Tryz.sizeOf41 rfl (.head _) hb5 hm5 (by first | (simp only [Off, book, List.cons_append, List.nil_append, List.set_cons_zero, List.set_cons_succ, List.eraseIdx_cons_zero, List.eraseIdx_cons_succ, ne_eq, and_true]; omega) | (simp [Off] <;> omega)) rfl) (rfl)) ?_
    refine callX (α := Nat × Nat) (v := fun b : Nat × Nat => .func (.func 79) #[] #[ptr b.1 0, ptr b.2 0]) (Φ := fun (W : World) (b : Nat × Nat) (w1 : World) => W.heap.size ≤ b.1 ∧ W.heap.size ≤ b.2 ∧ b.1 ≠ b.2 ∧ w1.heap[b.1]? = some (.cells (exC (⟨f, ca, cs, cc⟩ : Ex)) 41 (0, 0)) ∧ w1.heap[b.2]? = some (.cells #[.slice a ls.length cp] 38 (0, 0))) Tryz.call36 rfl rfl rfl (fun W hS => policy_approved a ls.length cp (⟨f, ca, cs, cc⟩ : Ex) W) ?_
    rintro Wd ⟨bd, be⟩ wd hSd hBd ⟨hbd1, hbe1, hne, hbd2, hbe2⟩
    simp only at hbd1 hbe1 hne hbd2 hbe2
    have hUd := hSd.under
    simp only [Under, List.set_cons_zero, List.set_cons_succ] at hUd
    have hAd := hSd.sizes
    simp only [Above] at hAd
    have hzd := hBd.size
    refine OJ.done ?_
    refine PJ.next ?_
    refine CJ.block ?_
    refine CJ.range (f := 79) (cap := [ptr bd 0, ptr be 0]) (α := Int) (enc := (fun o : Int => [.int .i64 o])) (xs := cntL Z ls f cs) (MI := fun _ => False) (RO := fun k => k < N ∨ k = bd ∨ k = be) rfl Tryz.call79 (fun W W2 hS hB => by
      have hS2 := hS.step hB
      have hsm := hS2.same (w := w) (.tail _ (.tail _ (.tail _ (.head _)))) hN (fun _ _ h => h) (by simp only [Over, List.set_cons_zero, List.set_cons_succ, and_true]; omega)
      exact approved_iter hZ ls hl f cs hcl N a cp ca cc bd be W2 (Nat.le_trans hN (hS2.links w (.tail _ (.tail _ (.tail _ (.head _))))).size) (hsl.up (Nat.le_refl _) hsm) (hcs.up (Nat.le_refl _) hsm) (hS2.old (.head _) hbd2 (fun h => h) (by simp only [Off, List.set_cons_zero, List.set_cons_succ, ne_eq, and_true]; omega)) (hS2.old (.head _) hbe2 (fun h => h) (by simp only [Off, List.set_cons_zero, List.set_cons_succ, ne_eq, and_true]; omega)) (hg.old hS2 (.tail _ (.tail _ (.tail _ (.head _)))) (fun _ _ h => h) (by simp only [Over, List.set_cons_zero, List.set_cons_succ, and_true]; omega)) hg2) (fun _ _ _ hk => hk.elim) (fun W hS k hk => by have hAz := hS.sizes; simp only [Above] at hAz; have h1 := (Array.getElem?_eq_some_iff.1 hbd2).1; have h2 := (Array.getElem?_eq_some_iff.1 hbe2).1; refine ⟨by omega, by simp only [List.set_cons_zero, List.set_cons_succ, List.map_cons, List.map_nil, List.mem_cons, List.not_mem_nil, or_false, not_or]; omega, fun h => h⟩) (fun _ => rfl) (fun pre Hc => Hc = [(b8, .cells #[.map (some b15)] 84 (0, 0)), (b15, mpO (.agg #[]) (setK pre))]) (fun _ _ => False) rfl (by rintro pre Hc rfl; rfl) (fun _ _ hk => hk.elim) (by decide) ?_ ?_ ?_
    · rintro pre x Hc l Dk rec Wy hrs hrp hpre rfl haD hlD hlW haW
      simp only [Above] at haD haW
      refine CJ.region ?_
      refine rv rfl rfl rfl (asg_r rfl) ?_
      refine OJ.done ?_
      refine PJ.begin hrs ?_
      refine CJ.block ?_
      refine CJ.region ?_
      refine rv rfl rfl rfl (ldW_r (i := 0) rfl Tryz.isAgg84 rfl rfl) ?_
      refine rv rfl rfl rfl (mv_r rfl) ?_
      refine callCM (f := 37) (i := 1) (first := []) (cap := []) rfl rfl Tryz.call37 rfl rfl rfl (fun W hS hW => set_add b15 _ x W hW) ?_
      refine OJ.done ?_
      refine PJ.norBlock ?_
      exact PJ.roundN (Hc := [(b8, .cells #[.map (some b15)] 84 (0, 0)), (b15, mpO (.agg #[]) (putK (setK pre) x))]) (fun _ hk => hk) (by cases rec; simp_all) (by rw [setK_snoc])
    · rintro l Dk rec Hc haD hlD rfl
      simp only [Above] at haD
      refine PJ.norBlock ?_
      refine PJ.next ?_
      refine CJ.seq ?_
      refine CJ.seq ?_
      refine CJ.region ?_
      refine rv rfl rfl rfl (ldW_r (i := 0) rfl Tryz.isAgg84 rfl rfl) ?_
      refine rv rfl rfl rfl (mlen_r Tryz.underlying84 (Lies.own (i := 1) rfl) rfl) ?_
      refine rv rfl rfl rfl (eqlI_r rfl rfl) ?_
      refine rv rfl rfl rfl (mv_r rfl) ?_
      refine OJ.split (t := 26) rfl (fun hc2 => ?_) (fun hc2 => ?_)
      · try simp only [decide_eq_true_eq, decide_eq_false_iff_not, Bool.not_eq_true', Bool.not_eq_false'] at hc2
        refine OJ.off rfl (by decide) rfl ?_
        refine OJ.off rfl (by decide) rfl ?_
        refine OJ.off rfl (by decide) rfl ?_
        refine OJ.off rfl (by decide) rfl ?_
        refine OJ.off rfl (by decide) rfl ?_
        refine OJ.off rfl (by decide) rfl ?_
        refine OJ.off rfl (by decide) rfl ?_
        refine rv rfl rfl rfl (pkT_r rfl rfl) ?_
        refine OJ.done ?_
        refine PJ.next ?_
        refine CJ.condT rfl ?_
        refine CJ.seq ?_
        refine CJ.region ?_
        refine rv rfl rfl rfl (asg_r rfl) ?_
        refine OJ.done ?_
        refine PJ.next ?_
        refine CJ.ret ?_
        refine PJ.retThen ?_
        refine retM1 (.inl rfl) Tryz.results14 rfl (by simp [book]) (fun W H' hS hmap => ⟨congrArg Ending.returned (congrArg (Value.int .i64) ?_), ?_⟩)
        · first | exact expI_bad (by omega) (.inl (by omega)) | exact expI_bad (by omega) (.inr ⟨by assumption, by omega⟩) | exact expI_good (by omega) (by omega) (.inl (by assumption)) | exact expI_good (by omega) (by omega) (.inr (by omega))
        · refine (hS.links w (.tail _ (.tail _ (.tail _ (.head _))))).below fun k hk hx => ?_
          rw [hmap] at hx; simp [Gh.no, book] at hx; omega
      · try simp only [decide_eq_true_eq, decide_eq_false_iff_not, Bool.not_eq_true', Bool.not_eq_false'] at hc2
        refine rv rfl rfl rfl (fld_r Tryz.underlying24 rfl Tryz.sizeOf4 rfl) ?_
        refine rv rfl rfl rfl (ldR_r Tryz.isAgg4 rfl (.tail _ (.tail _ (.head _))) hb3 hm3 (by first | (simp only [Off, book, List.cons_append, List.nil_append, List.set_cons_zero, List.set_cons_succ, List.eraseIdx_cons_zero, List.eraseIdx_cons_succ, ne_eq, and_true]; omega) | (simp [Off] <;> omega)) rfl) ?_
        refine rv rfl rfl rfl (mv_r rfl) ?_
        refine OJ.split (t := 29) rfl (fun hc3 => ?_) (fun hc3 => ?_)
        · try simp only [decide_eq_true_eq, decide_eq_false_iff_not, Bool.not_eq_true', Bool.not_eq_false'] at hc3
          refine rv rfl rfl rfl (ldW_r (i := 0) rfl Tryz.isAgg84 rfl rfl) ?_
          refine rv rfl rfl rfl (mlen_r Tryz.underlying84 (Lies.own (i := 1) rfl) rfl) ?_
          refine rv rfl rfl rfl (eqlI_r rfl rfl) ?_
          refine rv rfl rfl rfl (pkT_r rfl rfl) ?_
          refine rv rfl rfl rfl (pkF_r rfl rfl) ?_
          refine OJ.done ?_
          refine PJ.next ?_
          refine CJ.cond rfl (fun hc4 => ?_) (fun hc4 => ?_)
          · try simp only [decide_eq_true_eq, decide_eq_false_iff_not, Bool.not_eq_true', Bool.not_eq_false'] at hc4
            refine CJ.seq ?_
            refine CJ.region ?_
            refine rv rfl rfl rfl (asg_r rfl) ?_
            refine OJ.done ?_
            refine PJ.next ?_
            refine CJ.ret ?_
            refine PJ.retThen ?_
            refine retM1 (.inl rfl) Tryz.results14 rfl (by simp [book]) (fun W H' hS hmap => ⟨congrArg Ending.returned (congrArg (Value.int .i64) ?_), ?_⟩)
            · first | exact expI_bad (by omega) (.inl (by omega)) | exact expI_bad (by omega) (.inr ⟨by assumption, by omega⟩) | exact expI_good (by omega) (by omega) (.inl (by assumption)) | exact expI_good (by omega) (by omega) (.inr (by omega))
            · refine (hS.links w (.tail _ (.tail _ (.tail _ (.head _))))).below fun k hk hx => ?_
              rw [hmap] at hx; simp [Gh.no, book] at hx; omega
          · try simp only [decide_eq_true_eq, decide_eq_false_iff_not, Bool.not_eq_true', Bool.not_eq_false'] at hc4
            refine CJ.skip ?_
            refine PJ.next ?_
            refine CJ.seq ?_
            refine CJ.region ?_
            refine rv rfl rfl rfl (asg_r rfl) ?_
            refine OJ.done ?_
            refine PJ.next ?_
            refine CJ.ret ?_
            refine retM1 (.inl rfl) Tryz.results14 rfl (by simp [book]) (fun W H' hS hmap => ⟨congrArg Ending.returned (congrArg (Value.int .i64) ?_), ?_⟩)
            · first | exact expI_bad (by omega) (.inl (by omega)) | exact expI_bad (by omega) (.inr ⟨by assumption, by omega⟩) | exact expI_good (by omega) (by omega) (.inl (by assumption)) | exact expI_good (by omega) (by omega) (.inr (by omega))
            · refine (hS.links w (.tail _ (.tail _ (.tail _ (.head _))))).below fun k hk hx => ?_
              rw [hmap] at hx; simp [Gh.no, book] at hx; omega
        · try simp only [decide_eq_true_eq, decide_eq_false_iff_not, Bool.not_eq_true', Bool.not_eq_false'] at hc3
          refine OJ.off rfl (by decide) rfl ?_
          refine OJ.off rfl (by decide) rfl ?_
          refine OJ.off rfl (by decide) rfl ?_
          refine rv rfl rfl rfl (pkF_r rfl rfl) ?_
          refine rv rfl rfl rfl (pkF_r rfl rfl) ?_
          refine OJ.done ?_
          refine PJ.next ?_
          refine CJ.condF rfl ?_
          refine CJ.skip ?_
          refine PJ.next ?_
          refine CJ.seq ?_
          refine CJ.region ?_
          refine rv rfl rfl rfl (asg_r rfl) ?_
          refine OJ.done ?_
          refine PJ.next ?_
          refine CJ.ret ?_
          refine retM1 (.inl rfl) Tryz.results14 rfl (by simp [book]) (fun W H' hS hmap => ⟨congrArg Ending.returned (congrArg (Value.int .i64) ?_), ?_⟩)
          · first | exact expI_bad (by omega) (.inl (by omega)) | exact expI_bad (by omega) (.inr ⟨by assumption, by omega⟩) | exact expI_good (by omega) (by omega) (.inl (by assumption)) | exact expI_good (by omega) (by omega) (.inr (by omega))
          · refine (hS.links w (.tail _ (.tail _ (.tail _ (.head _))))).below fun k hk hx => ?_
            rw [hmap] at hx; simp [Gh.no, book] at hx; omega
    · exact fun _ _ _ _ _ _ _ hk => hk.elim
end Px
