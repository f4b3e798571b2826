/- Contracts of the packages derive and schedule, of chartroomref07 and chartroomref22. No condition beyond those that each theorem states. -/
import Derived.Test.YtcfkhjpgdpeimaaGreatDoorKg
import Derived.Test.YtcfkhjpgdpeimaaGreatDoorProg
import Derived.Test.YtcfkhjpgdpeimaaGreatDoorXe
set_option linter.unusedSimpArgs false
set_option linter.unusedVariables false
namespace Px
open Go Go.RowKit Go.Proofs
def dgU (f : Nat → Int) : List UInt8 := (List.range 32).map fun i => UInt8.ofNat (f i).toNat
theorem dgU_len (f : Nat → Int) : (dgU f).length = 32 := by simp [dgU]
theorem dgU_fU (f : Nat → Int) (hf : Byt f) (i : Nat) (h : i < 32) : fU (dgU f) i = f i := by
  have := hf i
  simp only [fU, dgU, List.getElem?_map, List.getElem?_range h, Option.map_some, Option.getD_some, UInt8.toNat_ofNat']
  omega
theorem SegU.dg {w : World} {b t : Nat} {fr : Nat × Nat} {f : Nat → Int} (h : w.heap[b]? = some (.cells (dg f) t fr)) (hf : Byt f) : SegU w b 0 (dgU f) :=
  ⟨_, _, _, h, by rw [dgU_len]; exact Nat.le_refl 32, fun i hi => by rw [dgU_len] at hi; rw [Nat.zero_add, dg_at f i hi, dgU_fU f hf i hi]⟩
theorem taggedG {Z : Fx} (hZ : FxOk Z) (s : ByteArray) (hs0 : s.size < 1000) (xs : List UInt8) (hn : xs.length < 900000000000) (b off c : Nat) (hc : xs.length ≤ c) (w : World) (h : SegU w b off xs) (hg : Glb w) : Calls Tryz.prog 88 #[.string s, .slice (some ⟨b, off, none⟩) xs.length c] w (Ret w (.agg (Px.dg (Z.tg s xs)))) := by
  rw [← hZ.tg]
  obtain ⟨cs, t, fr, h1, h2, h3⟩ := h
  obtain ⟨⟨t2, fr2, g1⟩, t3, fr3, g2⟩ := hg
  exact digest_Tagged s xs.length (fU xs) b off c t t2 t3 fr fr2 fr3 cs hs0 hc (by omega) w h1 h2 h3 g1 g2
theorem taggedR {Z : Fx} (hZ : FxOk Z) (s : ByteArray) (hs0 : s.size < 1000) (xs : List UInt8) (hn : xs.length < 900000000000) (b off c : Nat) (w : World) (h : SegU w b off xs) : Calls Tryz.prog 67 #[.string s, .slice (some ⟨b, off, none⟩) xs.length c] w (Ret w (.agg (Px.dg (Z.tg s xs)))) := by
  rw [← hZ.tg]
  obtain ⟨cs, t, fr, h1, h2, h3⟩ := h
  exact r02_Tagged s xs.length (fU xs) b off c t fr cs hs0 hn w h1 h2 h3
def bufC (s : Value) (r : Int) : Array Value := #[s, .int .i64 0, .int .i8 r]
def zsB (n : Nat) : List Value := List.replicate n (.int .u8 0)
/-- (*bytes.Buffer).Len -/
theorem buf_Len (bI : Nat) (lr : Int) (t : Nat) (fr : Nat × Nat) (w : World) (hb0 : w.heap[bI]? = some (.cells (bufC (.slice none 0 0) lr) t fr)) :
    Calls Tryz.prog 206 #[ptr bI 0] w (Ret w (.int .i64 0)) := by
  have hm0 : ¬ Gh.no.X bI := fun h => h
  refine enter (vs := [_]) Tryz.func206 rfl Tryz.ntmps206 rfl ?_
  refine CJ.seq ?_
  refine CJ.region ?_
  refine rv (fun _ h => Op.noConfusion h) rfl rfl (asg_r rfl) ?_
  refine OJ.done ?_
  refine PJ.next ?_
  refine CJ.seq ?_
  refine CJ.less (E' := [(0, _), (2, _)]) ⟨rfl, rfl, trivial⟩ ?_
  refine CJ.drwD 9 [.det [] _, .det [0] _, .det [1] _, .det [2] _, .det [3] _, .det [] _, .det [5] _, .det [6] _, .det [7] _] (by kernel_rfl) (xc (fun vals => X.val (fun _ h => Op.noConfusion h) rfl (mv_r rfl) (fun _ _ => rfl)) (xc (fun vals => X.val (fun _ h => Op.noConfusion h) rfl (nilC_r rfl) (fun _ _ => rfl)) (xc (fun vals => X.val (fun _ h => Op.noConfusion h) rfl (fld_r Tryz.underlying183 rfl Tryz.sizeOf55 rfl) (fun _ _ => rfl)) (xc (fun vals => X.val (fun _ h => Op.noConfusion h) rfl (ldR_r Tryz.isAgg55 rfl (.head _) hb0 hm0 trivial rfl) (fun _ _ => rfl)) (xc (fun vals => X.val (fun _ h => Op.noConfusion h) rfl (lenS_r Tryz.underlying55 rfl) (fun _ _ => rfl)) (xc (fun vals => X.val (fun _ h => Op.noConfusion h) rfl (mv_r rfl) (fun _ _ => rfl)) (xc (fun vals => X.val (fun _ h => Op.noConfusion h) rfl (nilC_r rfl) (fun _ _ => rfl)) (xc (fun vals => X.val (fun _ h => Op.noConfusion h) rfl (fld_r Tryz.underlying183 rfl Tryz.sizeOf3 rfl) (fun _ _ => rfl)) (xc (fun vals => X.val (fun _ h => Op.noConfusion h) rfl (ldR_r Tryz.isAgg3 rfl (.head _) hb0 hm0 trivial rfl) (fun _ _ => rfl)) (xn)))))))))) (by kernel_rfl) (by kernel_rfl) (by kernel_rfl) (fun vals => ?_)
  refine rv (fun _ h => Op.noConfusion h) rfl rfl (subI_r rfl rfl (by omega) (by omega)) ?_
  refine rv (fun _ h => Op.noConfusion h) rfl rfl (asg_r rfl) ?_
  refine OJ.done ?_
  refine PJ.next ?_
  refine CJ.ret ?_
  refine retV Tryz.results206 rfl (.head _) ?_
  rfl

/-- (*bytes.Buffer).tryGrowByReslice -/
theorem buf_try_nil (bI : Nat) (lr : Int) (t : Nat) (fr : Nat × Nat) (n : Nat) (hn : 0 < n) (w : World) (hb0 : w.heap[bI]? = some (.cells (bufC (.slice none 0 0) lr) t fr)) :
    Calls Tryz.prog 173 #[ptr bI 0, .int .i64 (n : Int)] w (Ret w (.tuple #[.int .i64 0, .bool false])) := by
  have hm0 : ¬ Gh.no.X bI := fun h => h
  refine enter (vs := [_, _]) Tryz.func173 rfl Tryz.ntmps173 rfl ?_
  refine CJ.seq ?_
  refine CJ.region ?_
  refine rv (fun _ h => Op.noConfusion h) rfl rfl (asg_r rfl) ?_
  refine rv (fun _ h => Op.noConfusion h) rfl rfl (asg_r rfl) ?_
  refine OJ.done ?_
  refine PJ.next ?_
  refine CJ.seq ?_
  refine CJ.seq ?_
  refine CJ.region ?_
  refine rv (fun _ h => Op.noConfusion h) rfl rfl (mv_r rfl) ?_
  refine rv (fun _ h => Op.noConfusion h) rfl rfl (nilC_r rfl) ?_
  refine rv (fun _ h => Op.noConfusion h) rfl rfl (fld_r Tryz.underlying183 rfl Tryz.sizeOf55 rfl) ?_
  refine rv (fun _ h => Op.noConfusion h) rfl rfl (ldR_r Tryz.isAgg55 rfl (.head _) hb0 hm0 trivial rfl) ?_
  refine rv (fun _ h => Op.noConfusion h) rfl rfl (lenS_r Tryz.underlying55 rfl) ?_
  refine rv (fun _ h => Op.noConfusion h) rfl rfl (asg_r rfl) ?_
  refine OJ.done ?_
  refine PJ.next ?_
  refine CJ.seq ?_
  refine CJ.region ?_
  refine rv (fun _ h => Op.noConfusion h) rfl rfl (mv_r rfl) ?_
  refine rv (fun _ h => Op.noConfusion h) rfl rfl (mv_r rfl) ?_
  refine rv (fun _ h => Op.noConfusion h) rfl rfl (nilC_r rfl) ?_
  refine rv (fun _ h => Op.noConfusion h) rfl rfl (fld_r Tryz.underlying183 rfl Tryz.sizeOf55 rfl) ?_
  refine rv (fun _ h => Op.noConfusion h) rfl rfl (ldR_r Tryz.isAgg55 rfl (.head _) hb0 hm0 trivial rfl) ?_
  refine rv (fun _ h => Op.noConfusion h) rfl rfl (capS_r Tryz.underlying55 rfl) ?_
  refine rv (fun _ h => Op.noConfusion h) rfl rfl (mv_r rfl) ?_
  refine rv (fun _ h => Op.noConfusion h) rfl rfl (subI_r rfl rfl (by omega) (by omega)) ?_
  refine rv (fun _ h => Op.noConfusion h) rfl rfl (RV.re (v' := .bool false) (leq_r rfl rfl) (congrArg Value.bool (decide_eq_false (by omega)))) ?_
  refine OJ.done ?_
  refine PJ.next ?_
  refine CJ.condF rfl ?_
  refine CJ.skip ?_
  refine PJ.next ?_
  refine CJ.seq ?_
  refine CJ.region ?_
  refine rv (fun _ h => Op.noConfusion h) rfl rfl (asg_r rfl) ?_
  refine rv (fun _ h => Op.noConfusion h) rfl rfl (asg_r rfl) ?_
  refine OJ.done ?_
  refine PJ.next ?_
  refine CJ.ret ?_
  refine retV2 Tryz.results173 rfl rfl (.head _) ?_ ?_
  all_goals rfl

/-- (*bytes.Buffer).tryGrowByReslice -/
theorem buf_try_row (bI bR m c n : Nat) (lr : Int) (t : Nat) (hc : m + n ≤ c) (hc2 : c ≤ 1000000) (w : World) (hb : w.heap[bI]? = some (.cells (bufC (rowV bR m c) lr) t (0, 0))) :
    Calls Tryz.prog 173 #[ptr bI 0, .int .i64 (n : Int)] w (RetZ w [bI] (fun _ : Unit => .tuple #[.int .i64 (m : Int), .bool true]) (fun _ => [(bI, .cells (bufC (rowV bR (m + n) c) lr) t (0, 0))]) (fun _ => True)) := by
  have hbl := (Array.getElem?_eq_some_iff.1 hb).1
  refine enterG (vs := [_, _]) (Gh.lent (fun k => k ∈ keys [(bI, .cells (bufC (rowV bR m c) lr) t (0, 0))])) [(bI, .cells (bufC (rowV bR m c) lr) t (0, 0))] Tryz.func173 rfl Tryz.ntmps173 rfl (st_lentZ (OwnAll.mem ⟨hb, trivial⟩) (dist1 _)) ?_
  refine CJ.seq ?_
  refine CJ.region ?_
  refine rv (fun _ h => Op.noConfusion h) rfl rfl (asg_r rfl) ?_
  refine rv (fun _ h => Op.noConfusion h) rfl rfl (asg_r rfl) ?_
  refine OJ.done ?_
  refine PJ.next ?_
  refine CJ.seq ?_
  refine CJ.seq ?_
  refine CJ.region ?_
  refine rv (fun _ h => Op.noConfusion h) rfl rfl (mv_r rfl) ?_
  refine rv (fun _ h => Op.noConfusion h) rfl rfl (nilC_r rfl) ?_
  refine rv (fun _ h => Op.noConfusion h) rfl rfl (fld_r Tryz.underlying183 rfl Tryz.sizeOf55 rfl) ?_
  refine rv (fun _ h => Op.noConfusion h) rfl rfl (ldW_r (i := 0) rfl Tryz.isAgg55 rfl rfl) ?_
  refine rv (fun _ h => Op.noConfusion h) rfl rfl (lenS_r Tryz.underlying55 rfl) ?_
  refine rv (fun _ h => Op.noConfusion h) rfl rfl (asg_r rfl) ?_
  refine OJ.done ?_
  refine PJ.next ?_
  refine CJ.seq ?_
  refine CJ.region ?_
  refine rv (fun _ h => Op.noConfusion h) rfl rfl (mv_r rfl) ?_
  refine rv (fun _ h => Op.noConfusion h) rfl rfl (mv_r rfl) ?_
  refine rv (fun _ h => Op.noConfusion h) rfl rfl (nilC_r rfl) ?_
  refine rv (fun _ h => Op.noConfusion h) rfl rfl (fld_r Tryz.underlying183 rfl Tryz.sizeOf55 rfl) ?_
  refine rv (fun _ h => Op.noConfusion h) rfl rfl (ldW_r (i := 0) rfl Tryz.isAgg55 rfl rfl) ?_
  refine rv (fun _ h => Op.noConfusion h) rfl rfl (capS_r Tryz.underlying55 rfl) ?_
  refine rv (fun _ h => Op.noConfusion h) rfl rfl (mv_r rfl) ?_
  refine rv (fun _ h => Op.noConfusion h) rfl rfl (subI_r rfl rfl (by omega) (by omega)) ?_
  refine rv (fun _ h => Op.noConfusion h) rfl rfl (RV.re (v' := .bool true) (leq_r rfl rfl) (congrArg Value.bool (decide_eq_true (by omega)))) ?_
  refine OJ.done ?_
  refine PJ.next ?_
  refine CJ.condT rfl ?_
  refine CJ.seq ?_
  refine CJ.region ?_
  refine rv (fun _ h => Op.noConfusion h) rfl rfl (mv_r rfl) ?_
  refine rv (fun _ h => Op.noConfusion h) rfl rfl (mv_r rfl) ?_
  refine rv (fun _ h => Op.noConfusion h) rfl rfl (nilC_r rfl) ?_
  refine rv (fun _ h => Op.noConfusion h) rfl rfl (fld_r Tryz.underlying183 rfl Tryz.sizeOf55 rfl) ?_
  refine rv (fun _ h => Op.noConfusion h) rfl rfl (ldW_r (i := 0) rfl Tryz.isAgg55 rfl rfl) ?_
  refine rv (fun _ h => Op.noConfusion h) rfl rfl (mv_r rfl) ?_
  refine rv (fun _ h => Op.noConfusion h) rfl rfl (mv_r rfl) ?_
  refine rv (fun _ h => Op.noConfusion h) rfl rfl (RV.re (v' := .int .i64 ((m + n : Nat) : Int)) (addI_r rfl rfl (by omega) (by omega)) (congrArg (Value.int .i64) (by omega))) ?_
  refine rv (fun _ h => Op.noConfusion h) rfl rfl (slS0_r (h := m + n) Tryz.underlying55 Tryz.sizeOf5 rfl ⟨_, _, rfl, rfl⟩ (by omega)) ?_
  refine rv (fun _ h => Op.noConfusion h) rfl rfl (nilC_r rfl) ?_
  refine rv (fun _ h => Op.noConfusion h) rfl rfl (fld_r Tryz.underlying183 rfl Tryz.sizeOf55 rfl) ?_
  refine stW (i := 0) rfl Tryz.sizeOf55 rfl rfl rfl rfl (Nat.le_of_ble_eq_true rfl) rfl ?_
  refine OJ.done ?_
  refine PJ.next ?_
  refine CJ.seq ?_
  refine CJ.region ?_
  refine rv (fun _ h => Op.noConfusion h) rfl rfl (mv_r rfl) ?_
  refine rv (fun _ h => Op.noConfusion h) rfl rfl (asg_r rfl) ?_
  refine rv (fun _ h => Op.noConfusion h) rfl rfl (asg_r rfl) ?_
  refine OJ.done ?_
  refine PJ.next ?_
  refine CJ.ret ?_
  refine PJ.retThen ?_
  exact retZ (Hz := [(bI, .cells (bufC (rowV bR m c) lr) t (0, 0))]) (H0 := []) () (.inl rfl) Tryz.results173 ((RS.t rfl (RS.t rfl RS.n))) (.head _) (by simp [OverZ, keys] <;> try omega) rfl (by first | trivial | exact True.intro)

end Px
namespace Px
open Go Go.RowKit Go.Proofs
theorem mkz (c : Nat) : cf c (fun _ => Value.int .u8 0) = (ub ([] : List UInt8) ++ zsB c).toArray := by
  apply Array.ext'
  simp [cf, ub, zsB, List.map_const']
theorem zsB_drop (c n : Nat) : (zsB c).drop n = zsB (c - n) := by simp [zsB, List.drop_replicate]
theorem zsB_len (n : Nat) : (zsB n).length = n := by simp [zsB]
/-- bytes copied over a row's spare cells -/
theorem row_copy (xs zs : List UInt8) (sp : List Value) (h : zs.length ≤ sp.length) : setCells (ub xs ++ sp).toArray xs.length (ub zs) = (ub (xs ++ zs) ++ sp.drop zs.length).toArray := by
  apply Array.ext'
  rw [setCells_toList]
  show setL (ub xs ++ sp) xs.length (ub zs) = ub (xs ++ zs) ++ sp.drop zs.length
  have hs : sp = sp.take zs.length ++ sp.drop zs.length := (List.take_append_drop _ _).symm
  conv => lhs; rw [hs]
  rw [← ub_len xs, setL_mid _ _ _ _ (by rw [ub_len, List.length_take]; omega), ub_app, List.append_assoc]
/-- (*bytes.Buffer).grow -/
theorem buf_grow (bI n : Nat) (lr : Int) (t : Nat) (hn0 : 0 < n) (hn : n ≤ 64) (w : World) (hb : w.heap[bI]? = some (.cells (bufC (.slice none 0 0) lr) t (0, 0))) :
    Calls Tryz.prog 174 #[ptr bI 0, .int .i64 (n : Int)] w (RetZ w [bI] (fun _ : Nat => .int .i64 0) (fun bR => [(bI, .cells (bufC (rowV bR n 64) lr) t (0, 0)), (bR, .cells (cf 64 (fun _ => .int .u8 0)) 5 (0, 0))]) (fun _ => True)) := by
  have hbl := (Array.getElem?_eq_some_iff.1 hb).1
  refine enterG (vs := [_, _]) (Gh.lent (fun k => k ∈ keys [(bI, .cells (bufC (.slice none 0 0) lr) t (0, 0))])) [(bI, .cells (bufC (.slice none 0 0) lr) t (0, 0))] Tryz.func174 rfl Tryz.ntmps174 rfl (st_lentZ (OwnAll.mem ⟨hb, trivial⟩) (dist1 _)) ?_
  refine CJ.seq ?_
  refine CJ.region ?_
  refine rv (fun _ h => Op.noConfusion h) rfl rfl (asg_r rfl) ?_
  refine OJ.done ?_
  refine PJ.next ?_
  refine CJ.seq ?_
  refine CJ.region ?_
  refine rv (fun _ h => Op.noConfusion h) rfl rfl (mv_r rfl) ?_
  refine call Tryz.call206 rfl rfl rfl (fun W hS => buf_Len bI lr _ _ W (hS.own _ (.head _))) ?_
  refine rv (fun _ h => Op.noConfusion h) rfl rfl (asg_r rfl) ?_
  refine OJ.done ?_
  refine PJ.next ?_
  refine CJ.seq ?_
  refine CJ.seq ?_
  refine CJ.region ?_
  refine rv (fun _ h => Op.noConfusion h) rfl rfl (mv_r rfl) ?_
  refine rv (fun _ h => Op.noConfusion h) rfl rfl (RV.re (v' := .bool true) (eqlI_r rfl rfl) (congrArg Value.bool (decide_eq_true (by omega)))) ?_
  refine rv (fun _ h => Op.noConfusion h) rfl rfl (mv_r rfl) ?_
  refine rv (fun _ h => Op.noConfusion h) rfl rfl (mv_r rfl) ?_
  refine rv (fun _ h => Op.noConfusion h) rfl rfl (nilC_r rfl) ?_
  refine rv (fun _ h => Op.noConfusion h) rfl rfl (fld_r Tryz.underlying183 rfl Tryz.sizeOf3 rfl) ?_
  refine rv (fun _ h => Op.noConfusion h) rfl rfl (ldW_r (i := 0) rfl Tryz.isAgg3 rfl rfl) ?_
  refine rv (fun _ h => Op.noConfusion h) rfl rfl (RV.re (v' := .bool false) (neqI_r rfl rfl) rfl) ?_
  refine rv (fun _ h => Op.noConfusion h) rfl rfl (pkT_r rfl rfl) ?_
  refine OJ.done ?_
  refine PJ.next ?_
  refine CJ.condF rfl ?_
  refine CJ.skip ?_
  refine PJ.next ?_
  refine CJ.seq ?_
  refine CJ.seq ?_
  refine CJ.region ?_
  refine rv (fun _ h => Op.noConfusion h) rfl rfl (mv_r rfl) ?_
  refine rv (fun _ h => Op.noConfusion h) rfl rfl (mv_r rfl) ?_
  refine call Tryz.call173 rfl rfl rfl (fun W hS => buf_try_nil bI lr _ _ n hn0 W (hS.own _ (.head _))) ?_
  refine rv (fun _ h => Op.noConfusion h) rfl rfl (mv_r rfl) ?_
  refine rv (fun _ h => Op.noConfusion h) rfl rfl (ext_r rfl rfl) ?_
  refine rv (fun _ h => Op.noConfusion h) rfl rfl (ext_r rfl rfl) ?_
  refine rv (fun _ h => Op.noConfusion h) rfl rfl (asg_r rfl) ?_
  refine rv (fun _ h => Op.noConfusion h) rfl rfl (asg_r rfl) ?_
  refine OJ.done ?_
  refine PJ.next ?_
  refine CJ.seq ?_
  refine CJ.region ?_
  refine rv (fun _ h => Op.noConfusion h) rfl rfl (mv_r rfl) ?_
  refine OJ.done ?_
  refine PJ.next ?_
  refine CJ.condF rfl ?_
  refine CJ.skip ?_
  refine PJ.next ?_
  refine CJ.seq ?_
  refine CJ.seq ?_
  refine CJ.region ?_
  refine rv (fun _ h => Op.noConfusion h) rfl rfl (mv_r rfl) ?_
  refine rv (fun _ h => Op.noConfusion h) rfl rfl (nilC_r rfl) ?_
  refine rv (fun _ h => Op.noConfusion h) rfl rfl (fld_r Tryz.underlying183 rfl Tryz.sizeOf55 rfl) ?_
  refine rv (fun _ h => Op.noConfusion h) rfl rfl (ldW_r (i := 0) rfl Tryz.isAgg55 rfl rfl) ?_
  refine rv (fun _ h => Op.noConfusion h) rfl rfl (eqSn_r Tryz.underlying55 rfl rfl) ?_
  refine rv (fun _ h => Op.noConfusion h) rfl rfl (mv_r rfl) ?_
  refine rv (fun _ h => Op.noConfusion h) rfl rfl (mv_r rfl) ?_
  refine rv (fun _ h => Op.noConfusion h) rfl rfl (RV.re (v' := .bool true) (leq_r rfl rfl) (congrArg Value.bool (decide_eq_true (by omega)))) ?_
  refine rv (fun _ h => Op.noConfusion h) rfl rfl (pkT_r rfl rfl) ?_
  refine OJ.done ?_
  refine PJ.next ?_
  refine CJ.condT rfl ?_
  refine CJ.seq ?_
  refine CJ.region ?_
  refine rv (fun _ h => Op.noConfusion h) rfl rfl (mv_r rfl) ?_
  refine rv (fun _ h => Op.noConfusion h) rfl rfl (mv_r rfl) ?_
  refine mkSW (ln := n) (cp := 64) Tryz.underlying55 info5 rfl rfl rfl rfl rfl rfl rfl (by omega) (by decide) (by omega) ?_
  intro b41 ha41 ho41
  simp only [Above] at ha41
  try simp only [Off, ne_eq, and_true] at ho41
  refine rv (fun _ h => Op.noConfusion h) rfl rfl (nilC_r rfl) ?_
  refine rv (fun _ h => Op.noConfusion h) rfl rfl (fld_r Tryz.underlying183 rfl Tryz.sizeOf55 rfl) ?_
  refine stW (i := 1) rfl Tryz.sizeOf55 rfl rfl rfl rfl (Nat.le_of_ble_eq_true rfl) rfl ?_
  refine OJ.done ?_
  refine PJ.next ?_
  refine CJ.seq ?_
  refine CJ.region ?_
  refine rv (fun _ h => Op.noConfusion h) rfl rfl (asg_r rfl) ?_
  refine OJ.done ?_
  refine PJ.next ?_
  refine CJ.ret ?_
  refine PJ.retThen ?_
  refine PJ.swp ?_
  exact retZ (Hz := [(bI, .cells (bufC (.slice none 0 0) lr) t (0, 0))]) (H0 := []) b41 (.inl rfl) Tryz.results174 (RS.t rfl RS.n) (.head _) (by simp [OverZ, keys] <;> try omega) rfl (by first | trivial | exact True.intro)

theorem Rd.seg {C : Cx} {G : Gh} {L : List World} {H : Heap} {b off c : Nat} {zs : List UInt8} {w1 : World} (hm : w1 ∈ L) (h : SegU w1 b off zs) (hG : ¬ G.X b) (hO : Off H b) : Rd C G L H 1 zs.length (.slice (some ⟨b, off, none⟩) zs.length c) (ub zs) := by
  obtain ⟨cs, t, fr, h1, h2, h3⟩ := h
  exact Rd.old hm h1 hG hO (by omega) (by rw [byts_of h2 h3, ← ub_byts])
theorem oneB (zs : List UInt8) : oneCells (ub zs) = true := by
  induction zs with
  | nil => rfl
  | cons z zs ih => simp only [ub, List.map_cons, oneCells, one1, Bool.true_and]; exact ih
/-- (*bytes.Buffer).Write -/
theorem buf_Write_nil (bI : Nat) (lr : Int) (t : Nat) (zs : List UInt8) (bz oz cz : Nat) (hz0 : 0 < zs.length) (hz1 : zs.length ≤ 64) (w : World) (hb : w.heap[bI]? = some (.cells (bufC (.slice none 0 0) lr) t (0, 0))) (hseg : SegU w bz oz zs) (hne : bz ≠ bI) :
    Calls Tryz.prog 135 #[ptr bI 0, .slice (some ⟨bz, oz, none⟩) zs.length cz] w (RetZ w [bI] (fun _ : Nat => .tuple #[.int .i64 (zs.length : Int), .nilIface]) (fun bR => [(bI, .cells (bufC (rowV bR zs.length 64) 0) t (0, 0)), (bR, rowC 5 zs (zsB (64 - zs.length)))]) (fun _ => True)) := by
  have hbl := (Array.getElem?_eq_some_iff.1 hb).1
  have hsl := hseg.lt
  refine enterG (vs := [_, _]) (Gh.lent (fun k => k ∈ keys [(bI, .cells (bufC (.slice none 0 0) lr) t (0, 0))])) [(bI, .cells (bufC (.slice none 0 0) lr) t (0, 0))] Tryz.func135 rfl Tryz.ntmps135 rfl (st_lentZ (OwnAll.mem ⟨hb, trivial⟩) (dist1 _)) ?_
  refine CJ.seq ?_
  refine CJ.region ?_
  refine rv (fun _ h => Op.noConfusion h) rfl rfl (asg_r rfl) ?_
  refine rv (fun _ h => Op.noConfusion h) rfl rfl (asg_r rfl) ?_
  refine OJ.done ?_
  refine PJ.next ?_
  refine CJ.seq ?_
  refine CJ.region ?_
  refine rv (fun _ h => Op.noConfusion h) rfl rfl (mv_r rfl) ?_
  refine rv (fun _ h => Op.noConfusion h) rfl rfl (nilC_r rfl) ?_
  refine rv (fun _ h => Op.noConfusion h) rfl rfl (fld_r Tryz.underlying183 rfl Tryz.sizeOf181 rfl) ?_
  refine stW (i := 0) rfl Tryz.sizeOf181 rfl rfl rfl rfl (Nat.le_of_ble_eq_true rfl) rfl ?_
  refine OJ.done ?_
  refine PJ.next ?_
  refine CJ.seq ?_
  refine CJ.region ?_
  refine rv (fun _ h => Op.noConfusion h) rfl rfl (mv_r rfl) ?_
  refine rv (fun _ h => Op.noConfusion h) rfl rfl (mv_r rfl) ?_
  refine rv (fun _ h => Op.noConfusion h) rfl rfl (lenS_r Tryz.underlying55 rfl) ?_
  refine call Tryz.call173 rfl rfl rfl (fun W hS => buf_try_nil bI 0 _ _ zs.length hz0 W (hS.own _ (.head _))) ?_
  refine rv (fun _ h => Op.noConfusion h) rfl rfl (mv_r rfl) ?_
  refine rv (fun _ h => Op.noConfusion h) rfl rfl (ext_r rfl rfl) ?_
  refine rv (fun _ h => Op.noConfusion h) rfl rfl (ext_r rfl rfl) ?_
  refine rv (fun _ h => Op.noConfusion h) rfl rfl (asg_r rfl) ?_
  refine rv (fun _ h => Op.noConfusion h) rfl rfl (asg_r rfl) ?_
  refine OJ.done ?_
  refine PJ.next ?_
  refine CJ.seq ?_
  refine CJ.seq ?_
  refine CJ.region ?_
  refine rv (fun _ h => Op.noConfusion h) rfl rfl (mv_r rfl) ?_
  refine rv (fun _ h => Op.noConfusion h) rfl rfl (notB_r rfl) ?_
  refine OJ.done ?_
  refine PJ.next ?_
  refine CJ.condT rfl ?_
  refine CJ.region ?_
  refine rv (fun _ h => Op.noConfusion h) rfl rfl (mv_r rfl) ?_
  refine rv (fun _ h => Op.noConfusion h) rfl rfl (mv_r rfl) ?_
  refine rv (fun _ h => Op.noConfusion h) rfl rfl (lenS_r Tryz.underlying55 rfl) ?_
  refine callZ (Hz := [(bI, .cells (bufC (.slice none 0 0) 0) t (0, 0))]) (H0 := []) (first := []) (cap := []) (v := fun _ : Nat => .int .i64 0) (Hn := fun bR => [(bI, .cells (bufC (rowV bR zs.length 64) 0) t (0, 0)), (bR, .cells (cf 64 (fun _ => .int .u8 0)) 5 (0, 0))]) (Φ := fun _ => True) rfl rfl Tryz.call174 rfl rfl rfl ⟨.inl (by simp [Gh.lent, keys]), trivial⟩ (fun W hS => buf_grow bI zs.length 0 t hz0 hz1 W (hS.own _ (.head _))) ?_
  rintro bR - hfr
  have hbR : bR = bI ∨ w.heap.size ≤ bR := by
    rcases hfr (bR, _) (.tail _ (.head _)) with h | h
    · left; simpa [keys] using h
    · right; exact h.1.1
  refine OJ.reH (H' := [(bI, .cells (bufC (rowV bR zs.length 64) 0) t (0, 0)), (bR, rowC 5 [] (zsB 64))]) (by rw [mkz]; rfl) ?_
  refine rv (fun _ h => Op.noConfusion h) rfl rfl (asg_r rfl) ?_
  refine OJ.done ?_
  refine PJ.next ?_
  refine CJ.seq ?_
  refine CJ.region ?_
  refine rv (fun _ h => Op.noConfusion h) rfl rfl (mv_r rfl) ?_
  refine rv (fun _ h => Op.noConfusion h) rfl rfl (nilC_r rfl) ?_
  refine rv (fun _ h => Op.noConfusion h) rfl rfl (fld_r Tryz.underlying183 rfl Tryz.sizeOf55 rfl) ?_
  refine rv (fun _ h => Op.noConfusion h) rfl rfl (ldW_r (i := 0) rfl Tryz.isAgg55 rfl rfl) ?_
  refine rv (fun _ h => Op.noConfusion h) rfl rfl (mv_r rfl) ?_
  refine rv (fun _ h => Op.noConfusion h) rfl rfl (slS_r (l := 0) (h := zs.length) (off' := 0) Tryz.underlying55 Tryz.sizeOf5 rfl ⟨_, _, rfl, rfl⟩ rfl (by omega) (by omega) (by rw [if_neg (by omega)])) ?_
  refine rv (fun _ h => Op.noConfusion h) rfl rfl (mv_r rfl) ?_
  refine cpW (i := 1) (m := 1) (n := zs.length) (k := zs.length) (news := ub zs) rfl Tryz.underlying55 Tryz.sizeOf5 rfl rfl rfl rfl (fun _ => rfl) (by omega) (Rd.seg (.head _) hseg (by simp [Gh.lent, keys] <;> omega) (by simp only [Off, List.set_cons_zero, List.set_cons_succ, List.eraseIdx_cons_zero, List.eraseIdx_cons_succ, ne_eq, and_true]; omega)) (by simp only [List.size_toArray, List.length_append, ub_len, zsB_len]; omega) (oneB _) ?_
  refine rv (fun _ h => Op.noConfusion h) rfl rfl (asg_r rfl) ?_
  refine rv (fun _ h => Op.noConfusion h) rfl rfl (asg_r rfl) ?_
  refine OJ.done ?_
  refine PJ.next ?_
  refine CJ.ret ?_
  refine PJ.reH (H' := [(bI, .cells (bufC (rowV bR zs.length 64) 0) t (0, 0)), (bR, rowC 5 zs (zsB (64 - zs.length)))]) (by have := row_copy [] zs (zsB 64) (by rw [zsB_len]; omega); simp only [List.length_nil, List.nil_append] at this; simp only [List.set_cons_succ, List.set_cons_zero, rowC]; rw [this, zsB_drop]) ?_
  exact retZ (Hz := [(bI, .cells (bufC (.slice none 0 0) lr) t (0, 0))]) (H0 := []) bR (.inl rfl) Tryz.results135 (RS.t rfl (RS.t rfl RS.n)) (.head _) (by simp [OverZ, keys] <;> try omega) rfl (by first | trivial | exact True.intro)

/-- (*bytes.Buffer).Write -/
theorem buf_Write_row (bI bR t : Nat) (xs : List UInt8) (sp : List Value) (zs : List UInt8) (bz oz cz : Nat) (hz1 : xs.length + zs.length ≤ 64) (hsp : sp.length = 64 - xs.length) (hx : xs.length < 64) (w : World) (hb : w.heap[bI]? = some (.cells (bufC (rowV bR xs.length 64) 0) t (0, 0))) (hbR : w.heap[bR]? = some (rowC 5 xs sp)) (hIR : bI ≠ bR) (hseg : SegU w bz oz zs) (hne : bz ≠ bI) (hne2 : bz ≠ bR) :
    Calls Tryz.prog 135 #[ptr bI 0, .slice (some ⟨bz, oz, none⟩) zs.length cz] w (RetZ w [bI, bR] (fun _ : Unit => .tuple #[.int .i64 (zs.length : Int), .nilIface]) (fun _ => [(bI, .cells (bufC (rowV bR (xs ++ zs).length 64) 0) t (0, 0)), (bR, rowC 5 (xs ++ zs) (sp.drop zs.length))]) (fun _ => True)) := by
  have hbl := (Array.getElem?_eq_some_iff.1 hb).1
  have hbl2 := (Array.getElem?_eq_some_iff.1 hbR).1
  have hsl := hseg.lt
  refine enterG (vs := [_, _]) (Gh.lent (fun k => k ∈ keys [(bI, .cells (bufC (rowV bR xs.length 64) 0) t (0, 0)), (bR, rowC 5 xs sp)])) [(bI, .cells (bufC (rowV bR xs.length 64) 0) t (0, 0)), (bR, rowC 5 xs sp)] Tryz.func135 rfl Tryz.ntmps135 rfl (st_lentZ (OwnAll.mem ⟨hb, hbR, trivial⟩) (dist2 hIR)) ?_
  refine CJ.seq ?_
  refine CJ.region ?_
  refine rv (fun _ h => Op.noConfusion h) rfl rfl (asg_r rfl) ?_
  refine rv (fun _ h => Op.noConfusion h) rfl rfl (asg_r rfl) ?_
  refine OJ.done ?_
  refine PJ.next ?_
  refine CJ.seq ?_
  refine CJ.region ?_
  refine rv (fun _ h => Op.noConfusion h) rfl rfl (mv_r rfl) ?_
  refine rv (fun _ h => Op.noConfusion h) rfl rfl (nilC_r rfl) ?_
  refine rv (fun _ h => Op.noConfusion h) rfl rfl (fld_r Tryz.underlying183 rfl Tryz.sizeOf181 rfl) ?_
  refine stW (i := 0) rfl Tryz.sizeOf181 rfl rfl rfl rfl (Nat.le_of_ble_eq_true rfl) rfl ?_
  refine OJ.done ?_
  refine PJ.next ?_
  refine CJ.seq ?_
  refine CJ.region ?_
  refine rv (fun _ h => Op.noConfusion h) rfl rfl (mv_r rfl) ?_
  refine rv (fun _ h => Op.noConfusion h) rfl rfl (mv_r rfl) ?_
  refine rv (fun _ h => Op.noConfusion h) rfl rfl (lenS_r Tryz.underlying55 rfl) ?_
  refine callZ (Hz := [(bI, .cells (bufC (rowV bR xs.length 64) 0) t (0, 0))]) (H0 := [(bR, rowC 5 xs sp)]) (first := []) (cap := []) (v := fun _ : Unit => .tuple #[.int .i64 (xs.length : Int), .bool true]) (Hn := fun _ => [(bI, .cells (bufC (rowV bR (xs.length + zs.length) 64) 0) t (0, 0))]) (Φ := fun _ => True) rfl rfl Tryz.call173 rfl rfl rfl ⟨.inl (by simp [Gh.lent, keys]), trivial⟩ (fun W hS => buf_try_row bI bR xs.length 64 zs.length 0 t (by omega) (by decide) W (hS.own _ (.head _))) ?_
  rintro _ - hfr
  refine OJ.reH (H' := [(bI, .cells (bufC (rowV bR (xs.length + zs.length) 64) 0) t (0, 0)), (bR, rowC 5 xs sp)]) rfl ?_
  refine rv (fun _ h => Op.noConfusion h) rfl rfl (mv_r rfl) ?_
  refine rv (fun _ h => Op.noConfusion h) rfl rfl (ext_r rfl rfl) ?_
  refine rv (fun _ h => Op.noConfusion h) rfl rfl (ext_r rfl rfl) ?_
  refine rv (fun _ h => Op.noConfusion h) rfl rfl (asg_r rfl) ?_
  refine rv (fun _ h => Op.noConfusion h) rfl rfl (asg_r rfl) ?_
  refine OJ.done ?_
  refine PJ.next ?_
  refine CJ.seq ?_
  refine CJ.seq ?_
  refine CJ.region ?_
  refine rv (fun _ h => Op.noConfusion h) rfl rfl (mv_r rfl) ?_
  refine rv (fun _ h => Op.noConfusion h) rfl rfl (notB_r rfl) ?_
  refine OJ.done ?_
  refine PJ.next ?_
  refine CJ.condF rfl ?_
  refine CJ.skip ?_
  refine PJ.next ?_
  refine CJ.seq ?_
  refine CJ.region ?_
  refine rv (fun _ h => Op.noConfusion h) rfl rfl (mv_r rfl) ?_
  refine rv (fun _ h => Op.noConfusion h) rfl rfl (nilC_r rfl) ?_
  refine rv (fun _ h => Op.noConfusion h) rfl rfl (fld_r Tryz.underlying183 rfl Tryz.sizeOf55 rfl) ?_
  refine rv (fun _ h => Op.noConfusion h) rfl rfl (ldW_r (i := 0) rfl Tryz.isAgg55 rfl rfl) ?_
  refine rv (fun _ h => Op.noConfusion h) rfl rfl (mv_r rfl) ?_
  refine rv (fun _ h => Op.noConfusion h) rfl rfl (slS_r (l := xs.length) (h := xs.length + zs.length) (off' := xs.length) Tryz.underlying55 Tryz.sizeOf5 rfl ⟨_, _, rfl, rfl⟩ rfl (by omega) (by omega) (by rw [if_neg (by omega)]; omega)) ?_
  refine rv (fun _ h => Op.noConfusion h) rfl rfl (mv_r rfl) ?_
  refine cpW (i := 1) (m := 1) (n := zs.length) (k := zs.length) (news := ub zs) rfl Tryz.underlying55 Tryz.sizeOf5 rfl rfl rfl rfl (fun _ => rfl) (by omega) (Rd.seg (.head _) hseg (by simp [Gh.lent, keys] <;> omega) (by simp only [Off, List.set_cons_zero, List.set_cons_succ, List.eraseIdx_cons_zero, List.eraseIdx_cons_succ, ne_eq, and_true]; omega)) (by simp only [List.size_toArray, List.length_append, ub_len]; omega) (oneB _) ?_
  refine rv (fun _ h => Op.noConfusion h) rfl rfl (asg_r rfl) ?_
  refine rv (fun _ h => Op.noConfusion h) rfl rfl (asg_r rfl) ?_
  refine OJ.done ?_
  refine PJ.next ?_
  refine CJ.ret ?_
  refine PJ.reH (H' := [(bI, .cells (bufC (rowV bR (xs ++ zs).length 64) 0) t (0, 0)), (bR, rowC 5 (xs ++ zs) (sp.drop zs.length))]) (by have := row_copy xs zs sp (by omega); show [(bI, _), (bR, Obj.cells (setCells (ub xs ++ sp).toArray xs.length (ub zs)) _ _)] = _; rw [this, List.length_append]; first | done | rfl) ?_
  exact retZ (Hz := [(bI, .cells (bufC (rowV bR xs.length 64) 0) t (0, 0)), (bR, rowC 5 xs sp)]) (H0 := []) () (.inl rfl) Tryz.results135 (RS.t rfl (RS.t rfl RS.n)) (.head _) (by simp [OverZ, keys] <;> try omega) rfl (by first | trivial | exact True.intro)

/-- (*bytes.Buffer).Bytes -/
theorem buf_Bytes (bI bR n : Nat) (lr : Int) (t : Nat) (fr : Nat × Nat) (hn : n ≤ 64) (w : World) (hb0 : w.heap[bI]? = some (.cells (bufC (rowV bR n 64) lr) t fr)) :
    Calls Tryz.prog 175 #[ptr bI 0] w (Ret w (rowV bR n 64)) := by
  have hm0 : ¬ Gh.no.X bI := fun h => h
  refine enter (vs := [_]) Tryz.func175 rfl Tryz.ntmps175 rfl ?_
  refine CJ.seq ?_
  refine CJ.region ?_
  refine rv (fun _ h => Op.noConfusion h) rfl rfl (asg_r rfl) ?_
  refine OJ.done ?_
  refine PJ.next ?_
  refine CJ.seq ?_
  refine CJ.less (E' := [(0, _), (2, _)]) ⟨rfl, rfl, trivial⟩ ?_
  refine CJ.drwD 8 [.det [] _, .det [0] _, .det [1] _, .det [2] _, .det [] _, .det [4] _, .det [5] _, .det [6] _] (by kernel_rfl) (xc (fun vals => X.val (fun _ h => Op.noConfusion h) rfl (mv_r rfl) (fun _ _ => rfl)) (xc (fun vals => X.val (fun _ h => Op.noConfusion h) rfl (nilC_r rfl) (fun _ _ => rfl)) (xc (fun vals => X.val (fun _ h => Op.noConfusion h) rfl (fld_r Tryz.underlying183 rfl Tryz.sizeOf55 rfl) (fun _ _ => rfl)) (xc (fun vals => X.val (fun _ h => Op.noConfusion h) rfl (ldR_r Tryz.isAgg55 rfl (.head _) hb0 hm0 trivial rfl) (fun _ _ => rfl)) (xc (fun vals => X.val (fun _ h => Op.noConfusion h) rfl (mv_r rfl) (fun _ _ => rfl)) (xc (fun vals => X.val (fun _ h => Op.noConfusion h) rfl (nilC_r rfl) (fun _ _ => rfl)) (xc (fun vals => X.val (fun _ h => Op.noConfusion h) rfl (fld_r Tryz.underlying183 rfl Tryz.sizeOf3 rfl) (fun _ _ => rfl)) (xc (fun vals => X.val (fun _ h => Op.noConfusion h) rfl (ldR_r Tryz.isAgg3 rfl (.head _) hb0 hm0 trivial rfl) (fun _ _ => rfl)) (xn))))))))) (by kernel_rfl) (by kernel_rfl) (by kernel_rfl) (fun vals => ?_)
  refine rv (fun _ h => Op.noConfusion h) rfl rfl (slS_r (l := 0) (h := n) (off' := 0) Tryz.underlying55 Tryz.sizeOf5 rfl ⟨_, _, rfl, rfl⟩ rfl (by omega) (by omega) (by rw [if_neg (by omega)])) ?_
  refine rv (fun _ h => Op.noConfusion h) rfl rfl (asg_r rfl) ?_
  refine OJ.done ?_
  refine PJ.next ?_
  refine CJ.ret ?_
  refine retV Tryz.results175 rfl (.head _) ?_
  rfl

end Px
namespace Px
open Go Go.RowKit Go.Proofs
theorem buf_Write_key (bI t : Nat) (f : Nat → Int) (b3 t3 : Nat) (fr3 : Nat × Nat) (hf : Byt f) (w : World) (hb : w.heap[bI]? = some (.cells (bufC (.slice none 0 0) 0) t (0, 0))) (hb3 : w.heap[b3]? = some (.cells (dg f) t3 fr3)) (hne : b3 ≠ bI) :
    Calls Tryz.prog 135 #[ptr bI 0, .slice (some ⟨b3, 0, none⟩) 32 32] w (RetZ w [bI] (fun _ : Nat => .tuple #[.int .i64 32, .nilIface]) (fun bR => [(bI, .cells (bufC (rowV bR 32 64) 0) t (0, 0)), (bR, rowC 5 (dgU f) (zsB 32))]) (fun _ => True)) := by
  have h := buf_Write_nil bI 0 t (dgU f) b3 0 32 (by rw [dgU_len]; decide) (by rw [dgU_len]; decide) w hb (SegU.dg hb3 hf) hne
  simp only [dgU_len] at h
  exact h
/-- (*chartroom/derive.input).key -/
theorem derive_key (bI t : Nat) (f : Nat → Int) (hf : Byt f) (w : World) (hb : w.heap[bI]? = some (.cells (bufC (.slice none 0 0) 0) t (0, 0))) :
    Calls Tryz.prog 134 #[ptr bI 0, .agg (dg f)] w (RetZ w [bI] (fun _ : Nat => ptr bI 0) (fun bR => [(bI, .cells (bufC (rowV bR 32 64) 0) t (0, 0)), (bR, rowC 5 (dgU f) (zsB 32))]) (fun _ => True)) := by
  have hbl := (Array.getElem?_eq_some_iff.1 hb).1
  refine enterG (vs := [_, _]) (Gh.lent (fun k => k ∈ keys [(bI, .cells (bufC (.slice none 0 0) 0) t (0, 0))])) [(bI, .cells (bufC (.slice none 0 0) 0) t (0, 0))] Tryz.func134 rfl Tryz.ntmps134 rfl (st_lentZ (OwnAll.mem ⟨hb, trivial⟩) (dist1 _)) ?_
  refine CJ.seq ?_
  refine CJ.region ?_
  refine boxR rfl rfl rfl ?_
  intro b3 w3 hb3 ha3 ho3 hm3 hz3
  simp only [Above] at ha3
  try simp only [Off, book, List.cons_append, List.nil_append, List.set_cons_zero, List.set_cons_succ, ne_eq] at ho3
  refine rv (fun _ h => Op.noConfusion h) rfl rfl (asg_r rfl) ?_
  refine OJ.done ?_
  refine PJ.next ?_
  refine CJ.seq ?_
  refine CJ.less (E' := [(0, _), (1, _), (3, _), (4, _)]) ⟨rfl, rfl, rfl, rfl, trivial⟩ ?_
  refine CJ.drwD 4 [.det [] _, .det [0] _, .det [1] _, .det [] _] (by kernel_rfl) (xc (fun vals => X.val (fun _ h => Op.noConfusion h) rfl (mv_r rfl) (fun _ _ => rfl)) (xc (fun vals => X.val (fun _ h => Op.noConfusion h) rfl (nilC_r rfl) (fun _ _ => rfl)) (xc (fun vals => X.val (fun _ h => Op.noConfusion h) rfl (fld_r Tryz.underlying185 rfl Tryz.sizeOf183 rfl) (fun _ _ => rfl)) (xc (fun vals => X.val (fun _ h => Op.noConfusion h) rfl (slA0_r (h := 32) Tryz.underlying28 Tryz.sizeOf5 rfl rfl (by omega)) (fun _ _ => rfl)) (xn))))) (by kernel_rfl) (by kernel_rfl) (by kernel_rfl) (fun vals => ?_)
  refine callZ (Hz := [(bI, .cells (bufC (.slice none 0 0) 0) t (0, 0))]) (H0 := []) (first := []) (cap := []) (v := fun _ : Nat => .tuple #[.int .i64 32, .nilIface]) (Hn := fun bR => [(bI, .cells (bufC (rowV bR 32 64) 0) t (0, 0)), (bR, rowC 5 (dgU f) (zsB 32))]) (Φ := fun _ => True) rfl rfl Tryz.call135 rfl rfl rfl ⟨.inl (by simp [Gh.lent, keys]), trivial⟩ (fun W hS => buf_Write_key bI t f b3 _ _ hf W (hS.own _ (.head _)) (hS.old (.head _) hb3 hm3 (by simp [Off] <;> omega)) (by omega)) ?_
  rintro bR - hfr
  have hbR : bR = bI ∨ w.heap.size ≤ bR := by
    rcases hfr (bR, _) (.tail _ (.head _)) with h | h
    · left; simpa [keys] using h
    · right; exact h.1.2.1
  refine OJ.done ?_
  refine PJ.next ?_
  refine CJ.seq ?_
  refine CJ.region ?_
  refine rv (fun _ h => Op.noConfusion h) rfl rfl (mv_r rfl) ?_
  refine rv (fun _ h => Op.noConfusion h) rfl rfl (asg_r rfl) ?_
  refine OJ.done ?_
  refine PJ.next ?_
  refine CJ.ret ?_
  exact retZ (Hz := [(bI, .cells (bufC (.slice none 0 0) 0) t (0, 0))]) (H0 := []) bR (.inl rfl) Tryz.results134 (RS.t rfl RS.n) (.tail _ (.head _)) (by simp [OverZ, keys] <;> try omega) rfl (by first | trivial | exact True.intro)

/-- (*chartroom/derive.input).under -/
theorem derive_under {Z : Fx} (hZ : FxOk Z) (bI bR t : Nat) (s : ByteArray) (hs0 : s.size < 1000) (xs : List UInt8) (hxl : xs.length ≤ 64) (w : World) (hb : w.heap[bI]? = some (.cells (bufC (rowV bR xs.length 64) 0) t (0, 0))) (hR : SegU w bR 0 xs) (hg : Glb w) :
    Calls Tryz.prog 136 #[ptr bI 0, .string s] w (Ret w (.agg (dg (Z.tg s xs)))) := by
  have hbl := (Array.getElem?_eq_some_iff.1 hb).1
  have hRl := hR.lt
  have hg4 := hg.lt
  obtain ⟨df, hdf⟩ : ∃ df, Z.tg s xs = df := ⟨_, rfl⟩
  refine enter (vs := [_, _]) Tryz.func136 rfl Tryz.ntmps136 rfl ?_
  refine CJ.seq ?_
  refine CJ.region ?_
  refine allW Tryz.zeroValue28 rfl rfl ?_
  intro b4 ha4 ho4
  simp only [Above] at ha4
  try simp only [Off, book, List.cons_append, List.nil_append, List.set_cons_zero, List.set_cons_succ, ne_eq] at ho4
  refine OJ.done ?_
  refine PJ.next ?_
  refine CJ.seq ?_
  refine CJ.region ?_
  refine rv (fun _ h => Op.noConfusion h) rfl rfl (mv_r rfl) ?_
  refine rv (fun _ h => Op.noConfusion h) rfl rfl (mv_r rfl) ?_
  refine rv (fun _ h => Op.noConfusion h) rfl rfl (nilC_r rfl) ?_
  refine rv (fun _ h => Op.noConfusion h) rfl rfl (fld_r Tryz.underlying185 rfl Tryz.sizeOf183 rfl) ?_
  refine call Tryz.call175 rfl rfl rfl (fun W hS => buf_Bytes bI bR xs.length 0 t _ hxl W (hS.old (.head _) hb (fun h => h) (by simp only [Off, List.set_cons_zero, List.set_cons_succ, List.eraseIdx_cons_zero, List.eraseIdx_cons_succ, ne_eq, and_true]; omega))) ?_
  refine call Tryz.call88 rfl rfl rfl (fun W hS => by rw [← hdf]; exact taggedG hZ s hs0 xs (by omega) bR 0 64 hxl W (hR.old hS (.head _) (fun h => h) (by simp only [Off, List.set_cons_zero, List.set_cons_succ, List.eraseIdx_cons_zero, List.eraseIdx_cons_succ, ne_eq, and_true]; omega)) (hg.old hS (.head _) (fun _ _ h => h) (by first | exact True.intro | (simp only [Over, List.set_cons_zero, List.set_cons_succ, List.eraseIdx_cons_zero, List.eraseIdx_cons_succ, and_true]; omega)))) (v := .agg (dg df)) ?_
  refine stWw (i := 0) rfl Tryz.sizeOf28 rfl rfl rfl rfl rfl rfl ?_
  refine OJ.done ?_
  refine PJ.next ?_
  refine CJ.ret ?_
  refine retO (.inl rfl) Tryz.results136 (RS.wA (i := 0) rfl Tryz.isAgg28 Tryz.sizeOf28 rfl (Nat.le_of_ble_eq_true rfl) (RS.n)) (.head _) (by first | (simp only [Over, List.set_cons_zero, List.set_cons_succ, List.eraseIdx_cons_zero, List.eraseIdx_cons_succ, and_true]; omega) | (simp [Over] <;> omega)) ?_
  rw [hdf]; rfl

/-- what is hashed for a purpose -/
def purB (s : ByteArray) : List UInt8 := (V.list [.text s]).enc
theorem purB_len (s : ByteArray) (h : s.size < 128) : (purB s).length = 4 + s.size := by
  have h1 : num 1 = [UInt8.ofNat 1] := num_lt (by decide)
  have h2 := num_lt h
  have h3 : s.data.toList.length = s.size := Array.length_toList
  simp [purB, V.enc, V.encL, h1, h2, h3]
  omega
theorem pur_fine (s : ByteArray) (h : s.size < 128) : (V.list [.text s]).fine := by
  simp [V.fine, V.fineL, V.depthL, V.depth]; omega
theorem pur_depth (s : ByteArray) : (V.list [.text s]).depth ≤ 16 := by simp [V.depth, V.depthL]
theorem pur_at (s : ByteArray) (N b t : Nat) (fr : Nat × Nat) (w : World) (hb : b < N) (h : w.heap[b]? = some (.cells #[.int .i64 2, .int .i64 0, .string s, .slice none 0 0] t fr)) : VAt N w (.list [.text s]) (vL (some ⟨b, 0, none⟩) 1 1) := by
  simp only [VAt, VsAt]
  exact ⟨_, _, rfl, Nat.le_refl _, .inr ⟨b, _, t, fr, rfl, hb, h, Nat.le_refl 4, rfl, trivial⟩⟩
def zK : Array Value := cf 32 (fun _ => .int .u8 0)
def expL (Z : Fx) (f : Nat → Int) (s : ByteArray) : Nat → Int := Z.tg (⟨#[100, 101, 114, 105, 118, 101]⟩ : ByteArray) (dgU f ++ purB s)
def dScal (Z : Fx) (f : Nat → Int) (s : ByteArray) : Int := Z.sc (⟨#[115, 99, 97, 108, 97, 114]⟩ : ByteArray) (dgU (expL Z f s))
set_option maxHeartbeats 400000 in
/-- chartroom/derive.Expand -/
theorem derive_Expand {Z : Fx} (hZ : FxOk Z) (f : Nat → Int) (hf : Byt f) (s : ByteArray) (hs28 : s.size ≤ 28) (w : World) (hg : Glb w) :
    Calls Tryz.prog 96 #[.agg (dg f), .string s, .slice none 0 0] w (Ret w (.agg (dg (expL Z f s)))) := by
  have hsz : s.size < 128 := by omega
  have hpl := purB_len s hsz
  have hg4 := hg.lt
  obtain ⟨df, hdf⟩ : ∃ df, Z.tg (⟨#[100, 101, 114, 105, 118, 101]⟩ : ByteArray) (dgU f ++ purB s) = df := ⟨_, rfl⟩
  refine enter (vs := [_, _, _]) Tryz.func96 rfl Tryz.ntmps96 rfl ?_
  refine CJ.seq ?_
  refine CJ.region ?_
  refine boxR rfl rfl rfl ?_
  intro b3 w3 hb3 ha3 ho3 hm3 hz3
  simp only [Above] at ha3
  try simp only [Off, book, List.cons_append, List.nil_append, List.set_cons_zero, List.set_cons_succ, ne_eq] at ho3
  refine allW Tryz.zeroValue28 rfl rfl ?_
  intro b6 ha6 ho6
  simp only [Above] at ha6
  try simp only [Off, book, List.cons_append, List.nil_append, List.set_cons_zero, List.set_cons_succ, ne_eq] at ho6
  refine OJ.done ?_
  refine PJ.next ?_
  refine CJ.seq ?_
  refine CJ.region ?_
  refine rv (fun _ h => Op.noConfusion h) rfl rfl (mv_r rfl) ?_
  refine rv (fun _ h => Op.noConfusion h) rfl rfl (bldS_r Tryz.underlying78 Tryz.zeroValue78 (PlF.c Tryz.sizeOf3 (PlF.c Tryz.sizeOf3 (PlF.c Tryz.sizeOf9 (PlF.c Tryz.sizeOf75 (PlF.n))))) rfl rfl) ?_
  refine bslR Tryz.underlying75 Tryz.sizeOf78 Tryz.zeroValue78 rfl rfl rfl rfl rfl rfl rfl ?_
  intro b15 w15 hb15 ha15 ho15 hm15 hz15
  simp only [Above] at ha15
  try simp only [Off, book, List.cons_append, List.nil_append, List.set_cons_zero, List.set_cons_succ, ne_eq] at ho15
  refine rv (fun _ h => Op.noConfusion h) rfl rfl (asg_r rfl) ?_
  refine OJ.done ?_
  refine PJ.next ?_
  refine CJ.seq ?_
  refine CJ.seq ?_
  refine CJ.region ?_
  refine rv (fun _ h => Op.noConfusion h) rfl rfl (mv_r rfl) ?_
  refine rv (fun _ h => Op.noConfusion h) rfl rfl (lenS_r Tryz.underlying123 rfl) ?_
  refine rv (fun _ h => Op.noConfusion h) rfl rfl (mv_r rfl) ?_
  refine OJ.done ?_
  refine PJ.next ?_
  refine CJ.block ?_
  refine CJ.loop (α := Unit) (fun p => [(3, ptr b3 0), (6, ptr b6 0), (7, .slice (some ⟨b15, 0, none⟩) 1 1), (17, .int .i64 0), (18, .int .i64 0)]) (fun p => [(b6, .cells (zK) 28 (0, 0))]) (fun p => [w15, w3, w]) (fun p => Gh.no) (fun p => True) (fun p => 0) () trivial ⟨rfl, rfl, rfl, rfl, rfl, trivial⟩ rfl rfl (by simp) ?_
  rintro ⟨⟩ -
  refine CJ.seq ?_
  refine CJ.region ?_
  refine rv (fun _ h => Op.noConfusion h) rfl rfl (RV.re (v' := .bool false) (lss_r rfl rfl) (congrArg Value.bool (decide_eq_false (by omega)))) ?_
  refine OJ.done ?_
  refine PJ.next ?_
  refine CJ.seq ?_
  refine CJ.condF rfl ?_
  refine CJ.exit ?_
  refine PJ.exThen ?_
  refine PJ.exThen ?_
  refine PJ.exHit ?_
  refine PJ.next ?_
  refine CJ.seq ?_
  refine CJ.region ?_
  refine rv (fun _ h => Op.noConfusion h) rfl rfl (mv_r rfl) ?_
  refine rv (fun _ h => Op.noConfusion h) rfl rfl (bldS_r Tryz.underlying78 Tryz.zeroValue78 (PlF.c Tryz.sizeOf3 (PlF.c Tryz.sizeOf3 (PlF.c Tryz.sizeOf9 (PlF.c Tryz.sizeOf75 (PlF.n))))) rfl rfl) ?_
  refine callEnc (ys := purB s) Tryz.call87 rfl rfl rfl (fun W hS => codec_Encode [.text s] (pur_fine s hsz) (pur_depth s) (by have := purB_len s hsz; unfold purB at this; omega) w15.heap.size (some ⟨b15, 0, none⟩) 1 W (hS.links _ (.head _)).size (pur_at s _ b15 _ _ W (by omega) (hS.old (.head _) hb15 hm15 (by simp only [Off, List.set_cons_zero, List.set_cons_succ, List.eraseIdx_cons_zero, List.eraseIdx_cons_succ, ne_eq, and_true]; omega)))) ?_
  intro b31 c31 s31 ha31 ho31 hx31 hr31
  simp only [Above] at ha31
  try simp only [Off, List.set_cons_zero, List.set_cons_succ, ne_eq, and_true] at ho31
  refine rv (fun _ h => Op.noConfusion h) rfl rfl (mv_r rfl) ?_
  refine rv (fun _ h => Op.noConfusion h) rfl rfl (ext_r rfl rfl) ?_
  refine rv (fun _ h => Op.noConfusion h) rfl rfl (ext_r rfl rfl) ?_
  refine rv (fun _ h => Op.noConfusion h) rfl rfl (asg_r rfl) ?_
  refine rv (fun _ h => Op.noConfusion h) rfl rfl (asg_r rfl) ?_
  refine OJ.done ?_
  refine PJ.next ?_
  refine CJ.seq ?_
  refine CJ.region ?_
  refine allW Tryz.zeroValue185 rfl rfl ?_
  intro b12 ha12 ho12
  simp only [Above] at ha12
  try simp only [Off, book, List.cons_append, List.nil_append, List.set_cons_zero, List.set_cons_succ, ne_eq] at ho12
  refine OJ.done ?_
  refine PJ.next ?_
  refine CJ.seq ?_
  refine CJ.region ?_
  refine rv (fun _ h => Op.noConfusion h) rfl rfl (ldRAw_r Tryz.isAgg28 Tryz.sizeOf28 rfl (.tail _ (.head _)) hb3 hm3 (by first | (simp only [Off, book, List.cons_append, List.nil_append, List.set_cons_zero, List.set_cons_succ, List.eraseIdx_cons_zero, List.eraseIdx_cons_succ, ne_eq, and_true]; omega) | (simp [Off] <;> omega)) rfl) ?_
  refine callZ (Hz := [(b12, .cells (bufC (.slice none 0 0) 0) 185 (0, 0))]) (H0 := [(b31, rowC 5 (purB s) s31), (b6, .cells (zK) 28 (0, 0))]) (first := []) (cap := []) (v := fun _ : Nat => ptr b12 0) (Hn := fun bR => [(b12, .cells (bufC (rowV bR 32 64) 0) 185 (0, 0)), (bR, rowC 5 (dgU f) (zsB 32))]) (Φ := fun _ => True) rfl rfl Tryz.call134 rfl rfl rfl ⟨.inr ⟨by omega, by omega, by omega, trivial⟩, trivial⟩ (fun W hS => derive_key b12 185 f hf W (hS.own _ (.head _))) ?_
  rintro bR - hfr
  have hbR : bR = b12 ∨ (w15.heap.size ≤ bR ∧ w3.heap.size ≤ bR ∧ w.heap.size ≤ bR ∧ b31 ≠ bR ∧ b6 ≠ bR) := by
    rcases hfr (bR, _) (.tail _ (.head _)) with h | h
    · left; simpa [keys] using h
    · right; obtain ⟨⟨h1, h2, h3, _⟩, h4⟩ := h; simp only [Off] at h4; exact ⟨h1, h2, h3, h4.2.1, h4.2.2.1⟩
  refine rv (fun _ h => Op.noConfusion h) rfl rfl (nilC_r rfl) ?_
  refine rv (fun _ h => Op.noConfusion h) rfl rfl (fld_r Tryz.underlying185 rfl Tryz.sizeOf183 rfl) ?_
  refine rv (fun _ h => Op.noConfusion h) rfl rfl (mv_r rfl) ?_
  refine OJ.nodupAt (i := 0) (j := 1) rfl rfl (by decide) fun hIR => ?_
  refine OJ.nodupAt (i := 1) (j := 2) rfl rfl (by decide) fun hR31 => ?_
  refine callZ (Hz := [(b12, .cells (bufC (rowV bR (dgU f).length 64) 0) 185 (0, 0)), (bR, rowC 5 (dgU f) (zsB 32))]) (H0 := [(b31, rowC 5 (purB s) s31), (b6, .cells (zK) 28 (0, 0))]) (first := []) (cap := []) (v := fun _ : Unit => .tuple #[.int .i64 ((purB s).length : Int), .nilIface]) (Hn := fun _ => [(b12, .cells (bufC (rowV bR (dgU f ++ purB s).length 64) 0) 185 (0, 0)), (bR, rowC 5 (dgU f ++ purB s) ((zsB 32).drop (purB s).length))]) (Φ := fun _ => True) (by rw [dgU_len]) rfl Tryz.call135 rfl rfl rfl ⟨.inr ⟨by omega, by omega, by omega, trivial⟩, .inr ⟨by omega, by omega, by omega, trivial⟩, trivial⟩ (fun W hS => buf_Write_row b12 bR 185 (dgU f) (zsB 32) (purB s) b31 0 c31 (by rw [dgU_len, purB_len s hsz]; omega) (by rw [zsB_len, dgU_len]) (by rw [dgU_len]; decide) W (hS.own _ (.head _)) (hS.own _ (.tail _ (.head _))) hIR (SegU.row (hS.own _ (.tail _ (.tail _ (.head _))))) (by omega) (by omega)) ?_
  rintro _ - hfr2
  refine OJ.done ?_
  refine PJ.next ?_
  refine CJ.seq ?_
  refine CJ.region ?_
  refine call Tryz.call136 rfl rfl rfl (fun W hS => by rw [← hdf]; exact derive_under hZ b12 bR 185 (⟨#[100, 101, 114, 105, 118, 101]⟩ : ByteArray) (by decide) (dgU f ++ purB s) (by rw [List.length_append, dgU_len]; omega) W (hS.own _ (.head _)) (SegU.row (hS.own _ (.tail _ (.head _)))) (hg.old hS (.tail _ (.tail _ (.head _))) (fun _ _ h => h) (by simp [Over] <;> omega))) (v := .agg (dg df)) ?_
  refine stWw (i := 3) rfl Tryz.sizeOf28 rfl rfl rfl rfl rfl rfl ?_
  refine OJ.done ?_
  refine PJ.next ?_
  refine CJ.ret ?_
  refine retO (.inl rfl) Tryz.results96 (RS.wA (i := 3) rfl Tryz.isAgg28 Tryz.sizeOf28 rfl (Nat.le_of_ble_eq_true rfl) (RS.n)) (.tail _ (.tail _ (.head _))) (by first | (simp only [Over, List.set_cons_zero, List.set_cons_succ, List.eraseIdx_cons_zero, List.eraseIdx_cons_succ, and_true]; omega) | (simp [Over] <;> omega)) ?_
  rw [show expL Z f s = df from hdf]; rfl

end Px
namespace Px
open Go Go.RowKit Go.Proofs
theorem scalG_dg {Z : Fx} (hZ : FxOk Z) (s : ByteArray) (hs0 : s.size < 1000) (f : Nat → Int) (hf : Byt f) (b t : Nat) (fr : Nat × Nat) (w : World) (h : w.heap[b]? = some (.cells (dg f) t fr)) (hg : Glb w) : Calls Tryz.prog 84 #[.string s, .slice (some ⟨b, 0, none⟩) 32 32] w (Ret w (.int .i64 (Z.sc s (dgU f)))) := by
  have := scalG hZ s hs0 (dgU f) (by rw [dgU_len]; decide) b 0 32 (by rw [dgU_len]; decide) w (SegU.dg h hf) hg
  rwa [dgU_len] at this
theorem scalR_dg {Z : Fx} (hZ : FxOk Z) (s : ByteArray) (hs0 : s.size < 1000) (f : Nat → Int) (hf : Byt f) (b t : Nat) (fr : Nat × Nat) (w : World) (h : w.heap[b]? = some (.cells (dg f) t fr)) : Calls Tryz.prog 47 #[.string s, .slice (some ⟨b, 0, none⟩) 32 32] w (Ret w (.int .i64 (Z.sc s (dgU f)))) := by
  have := scalR hZ s hs0 (dgU f) (by rw [dgU_len]; decide) b 0 32 w (SegU.dg h hf)
  rwa [dgU_len] at this
theorem SrcB.dg {C : Cx} {G : Gh} {L : List World} {H : Heap} {tx e' b c t : Nat} {fr : Nat × Nat} {f : Nat → Int} {w1 : World} (hU : C.P.underlying tx = some (.slice e')) (hf : Byt f) (hm : w1 ∈ L) (h : w1.heap[b]? = some (.cells (Px.dg f) t fr)) (hG : ¬ G.X b) (hO : Off H b) : SrcB C G L H tx (.slice (some ⟨b, 0, none⟩) 32 c) (dgU f) := by
  have := SrcB.seg (c := c) hU hm (SegU.dg h hf) hG hO
  rwa [dgU_len] at this
theorem exp_byt {Z : Fx} (hZ : FxOk Z) (f : Nat → Int) (s : ByteArray) : Byt (expL Z f s) := hZ.byt _ _
/-- chartroom/derive.Scalar -/
theorem derive_Scalar {Z : Fx} (hZ : FxOk Z) (f : Nat → Int) (hf : Byt f) (s : ByteArray) (hs28 : s.size ≤ 28) (w : World) (hg : Glb w) :
    Calls Tryz.prog 58 #[.agg (dg f), .string s] w (Ret w (.int .i64 (dScal Z f s))) := by
  have hg4 := hg.lt
  have hB := exp_byt hZ f s
  obtain ⟨df, hdf⟩ : ∃ df, expL Z f s = df := ⟨_, rfl⟩
  rw [hdf] at hB
  refine enter (vs := [_, _]) Tryz.func58 rfl Tryz.ntmps58 rfl ?_
  refine CJ.seq ?_
  refine CJ.region ?_
  refine boxR rfl rfl rfl ?_
  intro b2 w2 hb2 ha2 ho2 hm2 hz2
  simp only [Above] at ha2
  try simp only [Off, book, List.cons_append, List.nil_append, List.set_cons_zero, List.set_cons_succ, ne_eq] at ho2
  refine rv (fun _ h => Op.noConfusion h) rfl rfl (asg_r rfl) ?_
  refine OJ.done ?_
  refine PJ.next ?_
  refine CJ.seq ?_
  refine CJ.region ?_
  refine rv (fun _ h => Op.noConfusion h) rfl rfl (ldRAw_r Tryz.isAgg28 Tryz.sizeOf28 rfl (.head _) hb2 hm2 trivial rfl) ?_
  refine rv (fun _ h => Op.noConfusion h) rfl rfl (mv_r rfl) ?_
  refine call Tryz.call96 rfl rfl rfl (fun W hS => by rw [← hdf]; exact derive_Expand hZ f hf s hs28 W (hg.old hS (.tail _ (.head _)) (fun _ _ h => h) (by first | exact True.intro | (simp only [Over, List.set_cons_zero, List.set_cons_succ, List.eraseIdx_cons_zero, List.eraseIdx_cons_succ, and_true]; omega)))) (v := .agg (dg df)) ?_
  refine allW Tryz.zeroValue28 rfl rfl ?_
  intro b5 ha5 ho5
  simp only [Above] at ha5
  try simp only [Off, book, List.cons_append, List.nil_append, List.set_cons_zero, List.set_cons_succ, ne_eq] at ho5
  refine stWw (i := 0) rfl Tryz.sizeOf28 rfl rfl rfl rfl rfl rfl ?_
  refine OJ.done ?_
  refine PJ.next ?_
  refine CJ.seq ?_
  refine CJ.region ?_
  refine rv (fun _ h => Op.noConfusion h) rfl rfl (slA0_r (h := 32) Tryz.underlying28 Tryz.sizeOf5 rfl rfl (by omega)) ?_
  refine call Tryz.call84 rfl rfl rfl (fun W hS => scalG_dg hZ (⟨#[115, 99, 97, 108, 97, 114]⟩ : ByteArray) (by decide) df hB b5 _ _ W (hS.own _ (.head _)) (hg.old hS (.tail _ (.head _)) (fun _ _ h => h) (by first | exact True.intro | (simp only [Over, List.set_cons_zero, List.set_cons_succ, List.eraseIdx_cons_zero, List.eraseIdx_cons_succ, and_true]; omega)))) ?_
  refine rv (fun _ h => Op.noConfusion h) rfl rfl (asg_r rfl) ?_
  refine OJ.done ?_
  refine PJ.next ?_
  refine CJ.ret ?_
  refine retO (.inl rfl) Tryz.results58 (RS.t rfl (RS.n)) (.tail _ (.head _)) (by first | (simp only [Over, List.set_cons_zero, List.set_cons_succ, List.eraseIdx_cons_zero, List.eraseIdx_cons_succ, and_true]; omega) | (simp [Over] <;> omega)) ?_
  unfold dScal; rw [hdf]; rfl

/-- chartroom/schedule.Link -/
theorem schedule_Link {Z : Fx} (hZ : FxOk Z) (f : Nat → Int) (hf : Byt f) (w : World) (hg : Glb w) :
    Calls Tryz.prog 23 #[.agg (dg f)] w (Ret w (.int .i64 (dScal Z f (⟨#[108, 105, 110, 107]⟩ : ByteArray)))) := by
  have hg4 := hg.lt
  refine enter (vs := [_]) Tryz.func23 rfl Tryz.ntmps23 rfl ?_
  refine CJ.seq ?_
  refine CJ.region ?_
  refine boxR rfl rfl rfl ?_
  intro b1 w1 hb1 ha1 ho1 hm1 hz1
  simp only [Above] at ha1
  try simp only [Off, book, List.cons_append, List.nil_append, List.set_cons_zero, List.set_cons_succ, ne_eq] at ho1
  refine rv (fun _ h => Op.noConfusion h) rfl rfl (asg_r rfl) ?_
  refine OJ.done ?_
  refine PJ.next ?_
  refine CJ.seq ?_
  refine CJ.region ?_
  refine rv (fun _ h => Op.noConfusion h) rfl rfl (ldRAw_r Tryz.isAgg28 Tryz.sizeOf28 rfl (.head _) hb1 hm1 trivial rfl) ?_
  refine call Tryz.call58 rfl rfl rfl (fun W hS => derive_Scalar hZ f hf (⟨#[108, 105, 110, 107]⟩ : ByteArray) (by decide) W (hg.old hS (.tail _ (.head _)) (fun _ _ h => h) (by first | exact True.intro | (simp only [Over, List.set_cons_zero, List.set_cons_succ, List.eraseIdx_cons_zero, List.eraseIdx_cons_succ, and_true]; omega)))) ?_
  refine rv (fun _ h => Op.noConfusion h) rfl rfl (asg_r rfl) ?_
  refine OJ.done ?_
  refine PJ.next ?_
  refine CJ.ret ?_
  refine retV Tryz.results23 rfl (.tail _ (.head _)) ?_
  rfl

/-- chartroom/chartroomref07.Purpose -/
theorem r07_Purpose (s : ByteArray) (hsz : s.size < 128) (w : World) :
    Calls Tryz.prog 137 #[.string s, .slice none 0 0] w (RetNew w 5 (purB s)) := by
  have hpl := purB_len s hsz
  refine enter (vs := [_, _]) Tryz.func137 rfl Tryz.ntmps137 rfl ?_
  refine CJ.seq ?_
  refine CJ.region ?_
  refine rv (fun _ h => Op.noConfusion h) rfl rfl (asg_r rfl) ?_
  refine OJ.done ?_
  refine PJ.next ?_
  refine CJ.seq ?_
  refine CJ.region ?_
  refine rv (fun _ h => Op.noConfusion h) rfl rfl (mv_r rfl) ?_
  refine rv (fun _ h => Op.noConfusion h) rfl rfl (bldS_r Tryz.underlying78 Tryz.zeroValue78 (PlF.c Tryz.sizeOf3 (PlF.c Tryz.sizeOf3 (PlF.c Tryz.sizeOf9 (PlF.c Tryz.sizeOf75 (PlF.n))))) rfl rfl) ?_
  refine bslR Tryz.underlying75 Tryz.sizeOf78 Tryz.zeroValue78 rfl rfl rfl rfl rfl rfl rfl ?_
  intro b11 w11 hb11 ha11 ho11 hm11 hz11
  simp only [Above] at ha11
  try simp only [Off, book, List.cons_append, List.nil_append, List.set_cons_zero, List.set_cons_succ, ne_eq] at ho11
  refine rv (fun _ h => Op.noConfusion h) rfl rfl (asg_r rfl) ?_
  refine OJ.done ?_
  refine PJ.next ?_
  refine CJ.seq ?_
  refine CJ.seq ?_
  refine CJ.region ?_
  refine rv (fun _ h => Op.noConfusion h) rfl rfl (asg_r rfl) ?_
  refine OJ.done ?_
  refine PJ.next ?_
  refine CJ.block ?_
  refine CJ.loop (α := Unit) (fun p => [(1, .slice none 0 0), (5, .slice (some ⟨b11, 0, none⟩) 1 1), (6, .int .i64 0)]) (fun p => []) (fun p => [w11, w]) (fun p => Gh.no) (fun p => True) (fun p => 0) () trivial ⟨rfl, rfl, rfl, trivial⟩ rfl rfl (by simp) ?_
  rintro ⟨⟩ -
  refine CJ.seq ?_
  refine CJ.seq ?_
  refine CJ.region ?_
  refine rv (fun _ h => Op.noConfusion h) rfl rfl (mv_r rfl) ?_
  refine rv (fun _ h => Op.noConfusion h) rfl rfl (mv_r rfl) ?_
  refine rv (fun _ h => Op.noConfusion h) rfl rfl (lenS_r Tryz.underlying123 rfl) ?_
  refine rv (fun _ h => Op.noConfusion h) rfl rfl (RV.re (v' := .bool false) (lss_r rfl rfl) (congrArg Value.bool (decide_eq_false (by omega)))) ?_
  refine OJ.done ?_
  refine PJ.next ?_
  refine CJ.condF rfl ?_
  refine CJ.exit ?_
  refine PJ.exThen ?_
  refine PJ.exThen ?_
  refine PJ.exHit ?_
  refine PJ.next ?_
  refine CJ.seq ?_
  refine CJ.region ?_
  refine rv (fun _ h => Op.noConfusion h) rfl rfl (mv_r rfl) ?_
  refine rv (fun _ h => Op.noConfusion h) rfl rfl (bldS_r Tryz.underlying78 Tryz.zeroValue78 (PlF.c Tryz.sizeOf3 (PlF.c Tryz.sizeOf3 (PlF.c Tryz.sizeOf9 (PlF.c Tryz.sizeOf75 (PlF.n))))) rfl rfl) ?_
  refine callEnc (ys := purB s) Tryz.call65 rfl rfl rfl (fun W hS => r01_Encode [.text s] (pur_fine s hsz) (pur_depth s) (by have := purB_len s hsz; unfold purB at this; omega) w11.heap.size (some ⟨b11, 0, none⟩) 1 W (hS.links _ (.head _)).size (pur_at s _ b11 _ _ W (by omega) (hS.old (.head _) hb11 hm11 trivial))) ?_
  intro b29 c29 s29 ha29 ho29 hx29 hr29
  simp only [Above] at ha29
  try simp only [Off, List.set_cons_zero, List.set_cons_succ, ne_eq, and_true] at ho29
  refine rv (fun _ h => Op.noConfusion h) rfl rfl (mv_r rfl) ?_
  refine rv (fun _ h => Op.noConfusion h) rfl rfl (ext_r rfl rfl) ?_
  refine rv (fun _ h => Op.noConfusion h) rfl rfl (ext_r rfl rfl) ?_
  refine rv (fun _ h => Op.noConfusion h) rfl rfl (asg_r rfl) ?_
  refine rv (fun _ h => Op.noConfusion h) rfl rfl (asg_r rfl) ?_
  refine OJ.done ?_
  refine PJ.next ?_
  refine CJ.seq ?_
  refine CJ.seq ?_
  refine CJ.region ?_
  refine rv (fun _ h => Op.noConfusion h) rfl rfl (mv_r rfl) ?_
  refine rv (fun _ h => Op.noConfusion h) rfl rfl (RV.re (v' := .bool false) (neqI_r rfl rfl) rfl) ?_
  refine OJ.done ?_
  refine PJ.next ?_
  refine CJ.condF rfl ?_
  refine CJ.skip ?_
  refine PJ.next ?_
  refine CJ.seq ?_
  refine CJ.region ?_
  refine rv (fun _ h => Op.noConfusion h) rfl rfl (mv_r rfl) ?_
  refine rv (fun _ h => Op.noConfusion h) rfl rfl (asg_r rfl) ?_
  refine OJ.done ?_
  refine PJ.next ?_
  refine CJ.ret ?_
  exact retNew (i := 0) (.inl rfl) Tryz.results137 rfl rfl (.tail _ (.head _)) (by simp only [Over, List.set_cons_zero, List.set_cons_succ, List.eraseIdx_cons_zero, List.eraseIdx_cons_succ, and_true]; omega) hr29

set_option maxHeartbeats 400000 in
/-- chartroom/chartroomref07.Expand -/
theorem r07_Expand {Z : Fx} (hZ : FxOk Z) (f : Nat → Int) (hf : Byt f) (s : ByteArray) (hs28 : s.size ≤ 28) (w : World) :
    Calls Tryz.prog 98 #[.agg (dg f), .string s, .slice none 0 0] w (Ret w (.agg (dg (expL Z f s)))) := by
  have hsz : s.size < 128 := by omega
  have hpl := purB_len s hsz
  obtain ⟨df, hdf⟩ : ∃ df, Z.tg (⟨#[100, 101, 114, 105, 118, 101]⟩ : ByteArray) (dgU f ++ purB s) = df := ⟨_, rfl⟩
  refine enter (vs := [_, _, _]) Tryz.func98 rfl Tryz.ntmps98 rfl ?_
  refine CJ.seq ?_
  refine CJ.region ?_
  refine boxR rfl rfl rfl ?_
  intro b3 w3 hb3 ha3 ho3 hm3 hz3
  simp only [Above] at ha3
  try simp only [Off, book, List.cons_append, List.nil_append, List.set_cons_zero, List.set_cons_succ, ne_eq] at ho3
  refine allW Tryz.zeroValue28 rfl rfl ?_
  intro b6 ha6 ho6
  simp only [Above] at ha6
  try simp only [Off, book, List.cons_append, List.nil_append, List.set_cons_zero, List.set_cons_succ, ne_eq] at ho6
  refine OJ.done ?_
  refine PJ.next ?_
  refine CJ.seq ?_
  refine CJ.region ?_
  refine bsB [] bt Tryz.zeroValue5 rfl rfl rfl rfl rfl rfl rfl rfl rfl ?_
  intro b7 ha7 ho7 hx7 hr7
  simp only [Above] at ha7
  try simp only [Off, List.set_cons_zero, List.set_cons_succ, ne_eq, and_true] at ho7
  refine rv (fun _ h => Op.noConfusion h) rfl rfl (slA0_r (h := 32) Tryz.underlying28 Tryz.sizeOf5 rfl rfl (by omega)) ?_
  refine apB (i := 0) (xs := []) (zs := dgU f) (sp := []) rfl bt rfl rfl rfl rfl (SrcB.dg Tryz.underlying55 hf (.head _) hb3 hm3 (by simp only [Off, List.set_cons_zero, List.set_cons_succ, List.eraseIdx_cons_zero, List.eraseIdx_cons_succ, ne_eq, and_true]; omega)) hr7 (.inr ⟨ha7.1, ha7.2.1, trivial⟩) (by rw [dgU_len]; decide) ?_
  intro b9 c9 s9 hf9 hr9
  have hg9 := hf9
  simp only [Fr, Gh.lent, Gh.no, Above, and_true, false_or] at hg9
  refine rv (fun _ h => Op.noConfusion h) rfl rfl (mv_r rfl) ?_
  refine rv (fun _ h => Op.noConfusion h) rfl rfl (mv_r rfl) ?_
  refine callN (ys := purB s) Tryz.call137 rfl rfl rfl (fun W hS => r07_Purpose s hsz W) ?_
  intro b12 c12 s12 ha12 ho12 hx12 hr12
  simp only [Above] at ha12
  try simp only [Off, List.set_cons_zero, List.set_cons_succ, ne_eq, and_true] at ho12
  refine apB (i := 1) (xs := [] ++ dgU f) (zs := purB s) (sp := s9) rfl bt rfl rfl rfl rfl (SrcB.own (i := 0) Tryz.underlying55 rfl) hr9 hf9 (by rw [List.nil_append, dgU_len]; omega) ?_
  intro b13 c13 s13 hf13 hr13
  have hg13 := hf13
  simp only [Fr, Gh.lent, Gh.no, Above, and_true, false_or] at hg13
  refine call Tryz.call67 rfl rfl rfl (fun W hS => by rw [← hdf]; exact taggedR hZ (⟨#[100, 101, 114, 105, 118, 101]⟩ : ByteArray) (by decide) (dgU f ++ purB s) (by rw [List.length_append, dgU_len]; omega) b13 0 c13 W (SegU.row (hS.own _ (.tail _ (.head _))))) (v := .agg (dg df)) ?_
  refine stWw (i := 2) rfl Tryz.sizeOf28 rfl rfl rfl rfl rfl rfl ?_
  refine OJ.done ?_
  refine PJ.next ?_
  refine CJ.ret ?_
  refine retO (.inl rfl) Tryz.results98 (RS.wA (i := 2) rfl Tryz.isAgg28 Tryz.sizeOf28 rfl (Nat.le_of_ble_eq_true rfl) (RS.n)) (.tail _ (.head _)) (by first | (simp only [Over, List.set_cons_zero, List.set_cons_succ, List.eraseIdx_cons_zero, List.eraseIdx_cons_succ, and_true]; omega) | (simp [Over] <;> omega)) ?_
  rw [show expL Z f s = df from hdf]; rfl

/-- chartroom/chartroomref07.Scalar -/
theorem r07_Scalar {Z : Fx} (hZ : FxOk Z) (f : Nat → Int) (hf : Byt f) (s : ByteArray) (hs28 : s.size ≤ 28) (w : World) :
    Calls Tryz.prog 63 #[.agg (dg f), .string s] w (Ret w (.int .i64 (dScal Z f s))) := by
  have hB := exp_byt hZ f s
  obtain ⟨df, hdf⟩ : ∃ df, expL Z f s = df := ⟨_, rfl⟩
  rw [hdf] at hB
  refine enter (vs := [_, _]) Tryz.func63 rfl Tryz.ntmps63 rfl ?_
  refine CJ.seq ?_
  refine CJ.region ?_
  refine boxR rfl rfl rfl ?_
  intro b2 w2 hb2 ha2 ho2 hm2 hz2
  simp only [Above] at ha2
  try simp only [Off, book, List.cons_append, List.nil_append, List.set_cons_zero, List.set_cons_succ, ne_eq] at ho2
  refine rv (fun _ h => Op.noConfusion h) rfl rfl (asg_r rfl) ?_
  refine OJ.done ?_
  refine PJ.next ?_
  refine CJ.seq ?_
  refine CJ.region ?_
  refine rv (fun _ h => Op.noConfusion h) rfl rfl (ldRAw_r Tryz.isAgg28 Tryz.sizeOf28 rfl (.head _) hb2 hm2 trivial rfl) ?_
  refine rv (fun _ h => Op.noConfusion h) rfl rfl (mv_r rfl) ?_
  refine call Tryz.call98 rfl rfl rfl (fun W hS => by rw [← hdf]; exact r07_Expand hZ f hf s hs28 W) (v := .agg (dg df)) ?_
  refine allW Tryz.zeroValue28 rfl rfl ?_
  intro b5 ha5 ho5
  simp only [Above] at ha5
  try simp only [Off, book, List.cons_append, List.nil_append, List.set_cons_zero, List.set_cons_succ, ne_eq] at ho5
  refine stWw (i := 0) rfl Tryz.sizeOf28 rfl rfl rfl rfl rfl rfl ?_
  refine OJ.done ?_
  refine PJ.next ?_
  refine CJ.seq ?_
  refine CJ.region ?_
  refine rv (fun _ h => Op.noConfusion h) rfl rfl (slA0_r (h := 32) Tryz.underlying28 Tryz.sizeOf5 rfl rfl (by omega)) ?_
  refine call Tryz.call47 rfl rfl rfl (fun W hS => scalR_dg hZ (⟨#[115, 99, 97, 108, 97, 114]⟩ : ByteArray) (by decide) df hB b5 _ _ W (hS.own _ (.head _))) ?_
  refine rv (fun _ h => Op.noConfusion h) rfl rfl (asg_r rfl) ?_
  refine OJ.done ?_
  refine PJ.next ?_
  refine CJ.ret ?_
  refine retO (.inl rfl) Tryz.results63 (RS.t rfl (RS.n)) (.tail _ (.head _)) (by first | (simp only [Over, List.set_cons_zero, List.set_cons_succ, List.eraseIdx_cons_zero, List.eraseIdx_cons_succ, and_true]; omega) | (simp [Over] <;> omega)) ?_
  unfold dScal; rw [hdf]; rfl

/-- chartroom/chartroomref22.Link -/
theorem r22_Link {Z : Fx} (hZ : FxOk Z) (f : Nat → Int) (hf : Byt f) (w : World) :
    Calls Tryz.prog 26 #[.agg (dg f)] w (Ret w (.int .i64 (dScal Z f (⟨#[108, 105, 110, 107]⟩ : ByteArray)))) := by
  
  refine enter (vs := [_]) Tryz.func26 rfl Tryz.ntmps26 rfl ?_
  refine CJ.seq ?_
  refine CJ.region ?_
  refine boxR rfl rfl rfl ?_
  intro b1 w1 hb1 ha1 ho1 hm1 hz1
  simp only [Above] at ha1
  try simp only [Off, book, List.cons_append, List.nil_append, List.set_cons_zero, List.set_cons_succ, ne_eq] at ho1
  refine rv (fun _ h => Op.noConfusion h) rfl rfl (asg_r rfl) ?_
  refine OJ.done ?_
  refine PJ.next ?_
  refine CJ.seq ?_
  refine CJ.region ?_
  refine rv (fun _ h => Op.noConfusion h) rfl rfl (ldRAw_r Tryz.isAgg28 Tryz.sizeOf28 rfl (.head _) hb1 hm1 trivial rfl) ?_
  refine call Tryz.call63 rfl rfl rfl (fun W hS => r07_Scalar hZ f hf (⟨#[108, 105, 110, 107]⟩ : ByteArray) (by decide) W) ?_
  refine rv (fun _ h => Op.noConfusion h) rfl rfl (asg_r rfl) ?_
  refine OJ.done ?_
  refine PJ.next ?_
  refine CJ.ret ?_
  refine retV Tryz.results26 rfl (.tail _ (.head _)) ?_
  rfl

end Px
