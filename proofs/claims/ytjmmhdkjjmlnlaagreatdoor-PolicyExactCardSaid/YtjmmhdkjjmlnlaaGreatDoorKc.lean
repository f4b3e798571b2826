/- Contracts of the package digest. No condition beyond those that each theorem states. -/
import Derived.Test.YtjmmhdkjjmlnlaaGreatDoorKb
import Derived.Test.YtjmmhdkjjmlnlaaGreatDoorXc
import Derived.Test.YtjmmhdkjjmlnlaaGreatDoorProg
set_option linter.unusedSimpArgs false
set_option linter.unusedVariables false
set_option linter.unusedSectionVars false
namespace Px
open Go Go.RowKit Go.Proofs
theorem rot_s (n : Nat) (h1 : 1 ≤ n) (h2 : n ≤ 31) : (IntKind.u64.wrap (-(n : Int))) % 32 = ((32 - n : Nat) : Int) := by rw [wrap_u64']; omega
/-- math/bits.RotateLeft32 -/
theorem bits_rotl (x : BitVec 32) (n : Nat) (h1 : 1 ≤ n) (h2 : n ≤ 31) (w : World) :
    Calls Tryz.prog 120 #[u32 x, .int .i64 (-(n : Int))] w (Ret w (u32 (ror32 x n))) := by
  
  refine enter (vs := [_, _]) Tryz.func120 rfl Tryz.ntmps120 rfl ?_
  refine CJ.seq ?_
  refine CJ.region ?_
  refine rv rfl rfl rfl (asg_r rfl) ?_
  refine OJ.done ?_
  refine PJ.next ?_
  refine CJ.seq ?_
  refine CJ.region ?_
  refine rv rfl rfl rfl (mv_r rfl) ?_
  refine rv rfl rfl rfl (cvtW_r Tryz.underlying3 Tryz.underlying189 rfl) ?_
  refine rv rfl rfl rfl (RV.re (v' := .int .u64 ((32 - n : Nat) : Int)) (mskC_r 5 32 (by decide) rfl rfl rfl rfl (by rw [wrap_u64']; omega) (by rw [wrap_u64']; omega)) (congrArg (Value.int .u64) (rot_s n h1 h2))) ?_
  refine rv rfl rfl rfl (asg_r rfl) ?_
  refine OJ.done ?_
  refine PJ.next ?_
  refine CJ.seq ?_
  refine CJ.region ?_
  refine rv rfl rfl rfl (mv_r rfl) ?_
  refine rv rfl rfl rfl (mv_r rfl) ?_
  refine rv rfl rfl rfl (shlV_r (32 - n) (by omega) rfl rfl rfl) ?_
  refine rv rfl rfl rfl (mv_r rfl) ?_
  refine rv rfl rfl rfl (mv_r rfl) ?_
  refine rv rfl rfl rfl (RV.re (v' := .int .u64 (n : Int)) (subU_r rfl rfl (by omega) (by omega)) (congrArg (Value.int .u64) (by omega))) ?_
  refine rv rfl rfl rfl (shrV_r n (by omega) rfl rfl rfl) ?_
  refine rv rfl rfl rfl (orV_r rfl rfl) ?_
  refine rv rfl rfl rfl (asg_r rfl) ?_
  refine OJ.done ?_
  refine PJ.next ?_
  refine CJ.ret ?_
  refine retV Tryz.results120 rfl (.head _) ?_
  exact congrArg u32 (BitVec.or_comm _ _)
/-- chartroom/digest.rotated -/
theorem digest_rotated (x : BitVec 32) (a b c : Nat) (ha : 1 ≤ a) (ha1 : a ≤ 31) (hb : 1 ≤ b) (hb1 : b ≤ 31) (hc : 1 ≤ c) (hc1 : c ≤ 31) (w : World) :
    Calls Tryz.prog 121 #[u32 x, .int .i64 (a : Int), .int .i64 (b : Int), .int .i64 (c : Int)] w (Ret w (u32 (ror32 x a ^^^ ror32 x b ^^^ ror32 x c))) := by
  
  refine enter (vs := [_, _, _, _]) Tryz.func121 rfl Tryz.ntmps121 rfl ?_
  refine CJ.seq ?_
  refine CJ.region ?_
  refine rv rfl rfl rfl (asg_r rfl) ?_
  refine OJ.done ?_
  refine PJ.next ?_
  refine CJ.seq ?_
  refine CJ.region ?_
  refine rv rfl rfl rfl (mv_r rfl) ?_
  refine rv rfl rfl rfl (mv_r rfl) ?_
  refine rv rfl rfl rfl (negI_r rfl (by omega) (by omega)) ?_
  refine call Tryz.call120 rfl rfl rfl (fun W hS => bits_rotl _ a (by omega) (by omega) W) ?_
  refine rv rfl rfl rfl (mv_r rfl) ?_
  refine rv rfl rfl rfl (mv_r rfl) ?_
  refine rv rfl rfl rfl (negI_r rfl (by omega) (by omega)) ?_
  refine call Tryz.call120 rfl rfl rfl (fun W hS => bits_rotl _ b (by omega) (by omega) W) ?_
  refine rv rfl rfl rfl (xorV_r rfl rfl) ?_
  refine rv rfl rfl rfl (mv_r rfl) ?_
  refine rv rfl rfl rfl (mv_r rfl) ?_
  refine rv rfl rfl rfl (negI_r rfl (by omega) (by omega)) ?_
  refine call Tryz.call120 rfl rfl rfl (fun W hS => bits_rotl _ c (by omega) (by omega) W) ?_
  refine rv rfl rfl rfl (xorV_r rfl rfl) ?_
  refine rv rfl rfl rfl (asg_r rfl) ?_
  refine OJ.done ?_
  refine PJ.next ?_
  refine CJ.ret ?_
  refine retV Tryz.results121 rfl (.head _) ?_
  rfl
/-- four bytes, by steps -/
def wordN (m : Nat → Int) : Nat → BitVec 32
  | 0 => 0
  | n + 1 => wordN m n <<< 8 ||| BitVec.ofInt 32 (m n)
theorem wordN_4 (m : Nat → Int) : wordN m 4 = wordOf m 0 := by
  simp only [wordN, wordOf, BitVec.shiftLeft_or_distrib, ← BitVec.shiftLeft_add, Nat.zero_add]
  simp
/-- chartroom/digest.word -/
theorem digest_word (m : Nat → Int) (b off n c t : Nat) (fr : Nat × Nat) (cs : Array Value) (hn : 4 ≤ n) (hc : n ≤ c) (w : World) (hb0 : w.heap[b]? = some (.cells cs t fr)) (hm : ∀ i, i < 4 → cs[off + i]? = some (.int .u8 (m i))) :
    Calls Tryz.prog 119 #[.slice (some ⟨b, off, none⟩) n c] w (Ret w (u32 (wordOf m 0))) := by
  have hm0 : ¬ Gh.no.M b := fun h => h
  refine enter (vs := [_]) Tryz.func119 rfl Tryz.ntmps119 rfl ?_
  refine CJ.seq ?_
  refine CJ.region ?_
  refine rv rfl rfl rfl (asg_r rfl) ?_
  refine OJ.done ?_
  refine PJ.next ?_
  refine CJ.seq ?_
  refine CJ.seq ?_
  refine CJ.region ?_
  refine rv rfl rfl rfl (mv_r rfl) ?_
  refine rv rfl rfl rfl (slS0_r (h := 4) Tryz.underlying53 Tryz.sizeOf5 rfl ⟨_, _, rfl, rfl⟩ (by omega)) ?_
  refine rv rfl rfl rfl (lenS_r Tryz.underlying53 rfl) ?_
  refine rv rfl rfl rfl (mv_r rfl) ?_
  refine OJ.done ?_
  refine PJ.next ?_
  refine CJ.block ?_
  refine CJ.loop (α := Nat) (fun j => [(2, u32 (wordN m j)), (6, .slice (some ⟨b, off, none⟩) 4 c), (7, .int .i64 4), (8, .int .i64 (j : Int))]) (fun j => []) (fun j => [w]) (fun j => Gh.no) (fun j => j ≤ 4) (fun j => 4 - j) 0 (by decide) ⟨rfl, rfl, rfl, rfl, trivial⟩ rfl rfl (by simp) ?_
  rintro j hj
  refine CJ.seq ?_
  refine CJ.region ?_
  refine rv rfl rfl rfl (lss_r rfl rfl) ?_
  refine OJ.done ?_
  refine PJ.next ?_
  refine CJ.seq ?_
  refine CJ.cond rfl (fun hc1 => ?_) (fun hc1 => ?_)
  · try simp only [decide_eq_true_eq, decide_eq_false_iff_not, Bool.not_eq_true', Bool.not_eq_false'] at hc1
    refine CJ.skip ?_
    refine PJ.next ?_
    refine CJ.seq ?_
    refine CJ.block ?_
    refine CJ.seq ?_
    refine CJ.region ?_
    refine rv rfl rfl rfl (idxS_r Tryz.underlying53 Tryz.sizeOf5 rfl rfl (by omega) (by omega)) ?_
    refine rv rfl rfl rfl (ldR_r (v := .int .u8 (m j)) Tryz.isAgg5 rfl (.head _) hb0 hm0 trivial (by rw [← hm j (by omega)]; exact congrArg (fun i => cs[i]?) (by omega))) ?_
    refine rv rfl rfl rfl (asg_r rfl) ?_
    refine OJ.done ?_
    refine PJ.next ?_
    refine CJ.region ?_
    refine rv rfl rfl rfl (mv_r rfl) ?_
    refine rv rfl rfl rfl (shlV_r 8 (by decide) rfl rfl rfl) ?_
    refine rv rfl rfl rfl (mv_r rfl) ?_
    refine rv rfl rfl rfl (cvtV_r Tryz.underlying5 Tryz.underlying150 rfl) ?_
    refine rv rfl rfl rfl (orV_r rfl rfl) ?_
    refine rv rfl rfl rfl (asg_r rfl) ?_
    refine OJ.done ?_
    refine PJ.norBlock ?_
    refine PJ.next ?_
    refine CJ.region ?_
    refine rv rfl rfl rfl (addI_r rfl rfl (by omega) (by omega)) ?_
    refine rv rfl rfl rfl (mv_r rfl) ?_
    refine OJ.done ?_
    refine PJ.again (j + 1) (by omega) (by omega) ⟨rfl, rfl, rfl, rfl, trivial⟩ rfl rfl (by simp)
  · try simp only [decide_eq_true_eq, decide_eq_false_iff_not, Bool.not_eq_true', Bool.not_eq_false'] at hc1
    refine CJ.exit ?_
    refine PJ.exThen ?_
    refine PJ.exThen ?_
    refine PJ.exHit ?_
    refine PJ.next ?_
    refine CJ.seq ?_
    refine CJ.region ?_
    refine rv rfl rfl rfl (mv_r rfl) ?_
    refine rv rfl rfl rfl (asg_r rfl) ?_
    refine OJ.done ?_
    refine PJ.next ?_
    refine CJ.ret ?_
    refine retV Tryz.results119 rfl (.head _) ?_
    have e : j = 4 := by omega
    subst e
    exact congrArg u32 (wordN_4 m)
/-- bytes of a number, the last first -/
def putN (cs : Array Value) (off len : Nat) (n : Nat) : Nat → Array Value
  | 0 => cs
  | i + 1 => setCells (putN cs off len n i) (off + (len - 1 - i)) [.int .u8 ((n / 2 ^ (8 * i) % 256 : Nat) : Int)]
theorem putN_size (cs : Array Value) (off len n : Nat) : ∀ i, (putN cs off len n i).size = cs.size
  | 0 => rfl
  | i + 1 => by rw [putN, size_setCells]; exact putN_size cs off len n i
theorem shr_b (n i : Nat) (k : Int) (hk : k = ((8 * i : Nat) : Int)) (hi : i ≤ 7) : (n : Int).fdiv (2 ^ (min (Int.toNat k) IntKind.u64.bits)) % 256 = ((n / 2 ^ (8 * i) % 256 : Nat) : Int) := by
  rw [shr_v n (8 * i) k hk (by omega)]; omega
/-- chartroom/digest.put -/
theorem digest_put (n : Nat) (b off len cap t : Nat) (cs : Array Value) (hlen : len ≤ 8) (hsz : off + len ≤ cs.size) (w : World) (hb : w.heap[b]? = some (.cells cs t (0, 0))) :
    Calls Tryz.prog 92 #[.slice (some ⟨b, off, none⟩) len cap, .int .u64 (n : Int)] w (RetM w (.tuple #[]) b (.cells (putN cs off len n len) t (0, 0))) := by
  
  refine enterG Gh.no [(b, _)] (vs := [_, _]) Tryz.func92 rfl Tryz.ntmps92 rfl (st_own hb) ?_
  refine CJ.seq ?_
  refine CJ.region ?_
  refine rv rfl rfl rfl (mv_r rfl) ?_
  refine rv rfl rfl rfl (lenS_r Tryz.underlying53 rfl) ?_
  refine rv rfl rfl rfl (mv_r rfl) ?_
  refine OJ.done ?_
  refine PJ.next ?_
  refine CJ.block ?_
  refine CJ.loop (α := Nat) (fun j => [(0, .slice (some ⟨b, off, none⟩) len cap), (1, .int .u64 (n : Int)), (6, .int .i64 (len : Int)), (7, .int .i64 (j : Int))]) (fun j => [(b, .cells (putN cs off len n j) t (0, 0))]) (fun j => [w]) (fun j => Gh.no) (fun j => j ≤ len) (fun j => len - j) 0 (Nat.zero_le _) ⟨rfl, rfl, rfl, rfl, trivial⟩ rfl rfl (by simp) ?_
  rintro j hj
  refine CJ.seq ?_
  refine CJ.region ?_
  refine rv rfl rfl rfl (lss_r rfl rfl) ?_
  refine OJ.done ?_
  refine PJ.next ?_
  refine CJ.seq ?_
  refine CJ.cond rfl (fun hc1 => ?_) (fun hc1 => ?_)
  · try simp only [decide_eq_true_eq, decide_eq_false_iff_not, Bool.not_eq_true', Bool.not_eq_false'] at hc1
    refine CJ.skip ?_
    refine PJ.next ?_
    refine CJ.seq ?_
    refine CJ.block ?_
    refine CJ.seq ?_
    refine CJ.region ?_
    refine rv rfl rfl rfl (mv_r rfl) ?_
    refine rv rfl rfl rfl (asg_r rfl) ?_
    refine OJ.done ?_
    refine PJ.next ?_
    refine CJ.region ?_
    refine rv rfl rfl rfl (mv_r rfl) ?_
    refine rv rfl rfl rfl (mv_r rfl) ?_
    refine rv rfl rfl rfl (lenS_r Tryz.underlying53 rfl) ?_
    refine rv rfl rfl rfl (subI_r rfl rfl (by omega) (by omega)) ?_
    refine rv rfl rfl rfl (mv_r rfl) ?_
    refine rv rfl rfl rfl (subI_r rfl rfl (by omega) (by omega)) ?_
    refine rv rfl rfl rfl (mv_r rfl) ?_
    refine rv rfl rfl rfl (mv_r rfl) ?_
    refine rv rfl rfl rfl (mulI_r rfl rfl (by omega) (by omega)) ?_
    refine rv rfl rfl rfl (shrW_r rfl rfl (by omega)) ?_
    refine rv rfl rfl rfl (RV.re (v' := .int .u8 ((n / 2 ^ (8 * j) % 256 : Nat) : Int)) (cvtB_r Tryz.underlying148 Tryz.underlying5 rfl) (congrArg (Value.int .u8) (shr_b n j _ (by omega) (by omega)))) ?_
    refine rv rfl rfl rfl (RV.re (v' := ptr b (off + (len - 1 - j))) (idxS_r Tryz.underlying53 Tryz.sizeOf5 rfl rfl (by omega) (by omega)) (congrArg (fun k => ptr b (off + k)) (by omega))) ?_
    refine stW (i := 0) rfl Tryz.sizeOf5 rfl rfl rfl rfl (by rw [putN_size]; omega) rfl ?_
    refine OJ.done ?_
    refine PJ.norBlock ?_
    refine PJ.next ?_
    refine CJ.region ?_
    refine rv rfl rfl rfl (addI_r rfl rfl (by omega) (by omega)) ?_
    refine rv rfl rfl rfl (mv_r rfl) ?_
    refine OJ.done ?_
    refine PJ.again (j + 1) (by omega) (by omega) ⟨rfl, rfl, rfl, rfl, trivial⟩ rfl rfl (by simp)
  · try simp only [decide_eq_true_eq, decide_eq_false_iff_not, Bool.not_eq_true', Bool.not_eq_false'] at hc1
    refine CJ.exit ?_
    refine PJ.exThen ?_
    refine PJ.exThen ?_
    refine PJ.exHit ?_
    have e : j = len := by omega
    subst e
    refine retG (.inr rfl) Tryz.results92 RS.n (fun W hS => ⟨rfl, (hS.links w (.head _)).mono fun k _ hk => ?_, hS.own _ (.head _)⟩)
    simpa [Gh.no] using hk
end Px
namespace Px
open Go Go.RowKit Go.Proofs
theorem cf_ld (n : Nat) (f : Nat → Value) (i k : Nat) (h : k = i) (hi : i < n) : (cf n f)[k]? = some (f i) := by subst h; exact cf_at n f k hi
theorem S8.cells_ld (s : S8) (i k : Nat) (h : k = i) (hi : i < 8) : s.cells[k]? = some (u32 (s.at i)) := by subst h; exact s.cells_at k hi
theorem cf_sch (m : Nat → Int) (j : Nat) (v : BitVec 32) (hv : v = if j < 16 then wordOf m (4 * j) else schN m j (j - 16) + s0 (schN m j (j - 15)) + schN m j (j - 7) + s1 (schN m j (j - 2))) :
    setCells (cf 64 (fun i => u32 (schN m j i))) j (u32 v).cells.toList = cf 64 (fun i => u32 (schN m (j + 1) i)) := by
  show setCells (cf 64 (fun i => u32 (schN m j i))) j [u32 v] = _
  rw [cf_set]
  congr 1
  funext i
  simp only [schN, upd]
  split <;> simp_all
def addN (s v : S8) (j : Nat) : Array Value := cf 8 (fun k => u32 (if k < j then s.at k + v.at k else s.at k))
theorem addN_step (s v : S8) (j : Nat) : setCells (addN s v j) j (u32 (s.at j + v.at j)).cells.toList = addN s v (j + 1) := by
  show setCells (cf 8 _) j [u32 (s.at j + v.at j)] = _
  rw [cf_set]
  unfold addN
  congr 1
  funext i
  simp only [upd]
  by_cases h : i = j
  · subst h; simp
  · by_cases h2 : i < j
    · simp [h, h2, show i < j + 1 by omega]
    · simp [h, h2, show ¬ i < j + 1 by omega]
theorem addN_8 (s v : S8) : addN s v 8 = (s.add v).cells := rfl
theorem addN_ld (s v : S8) (j k : Nat) (h : k = j) (hj : j < 8) : (addN s v j)[k]? = some (u32 (s.at j)) := by
  rw [addN, cf_ld 8 _ j k h hj]; simp
set_option maxHeartbeats 1600000 in
/-- (*chartroom/digest.state).absorb -/
theorem digest_absorb (s : S8) (m : Nat → Int) (b bb off n c t : Nat) (fr fr3 : Nat × Nat) (t3 : Nat) (cs : Array Value) (hn : 64 ≤ n) (hc : n ≤ c) (w : World) (hb : w.heap[b]? = some (.cells s.cells 152 (0, 0))) (hbb : w.heap[bb]? = some (.cells cs t fr)) (hm : ∀ i, i < 64 → cs[off + i]? = some (.int .u8 (m i))) (hne : bb ≠ b) (hg : w.heap[1]? = some (.cells (cf 64 (fun i => u32 (kk i))) t3 fr3)) (hgb : b ≠ 1) :
    Calls Tryz.prog 91 #[ptr b 0, .slice (some ⟨bb, off, none⟩) n c] w (RetM w (.tuple #[]) b (.cells (s.comp m).cells 152 (0, 0))) := by
  have hbbl := (Array.getElem?_eq_some_iff.1 hbb).1
  have hbl := (Array.getElem?_eq_some_iff.1 hb).1
  have hgl := (Array.getElem?_eq_some_iff.1 hg).1
  refine enterG Gh.no [(b, _)] (vs := [_, _]) Tryz.func91 rfl Tryz.ntmps91 rfl (st_own hb) ?_
  refine CJ.seq ?_
  refine CJ.region ?_
  refine allW Tryz.zeroValue191 rfl rfl ?_
  intro b4 ha4 ho4
  simp only [Above] at ha4
  try simp only [Off, book, List.cons_append, List.nil_append, List.set_cons_zero, List.set_cons_succ, ne_eq] at ho4
  refine OJ.done ?_
  refine PJ.next ?_
  refine CJ.seq ?_
  refine CJ.seq ?_
  refine CJ.region ?_
  refine rv rfl rfl rfl (mv_r rfl) ?_
  refine OJ.done ?_
  refine PJ.next ?_
  refine CJ.block ?_
  refine CJ.loop (α := Nat) (fun j => [(0, ptr b 0), (1, .slice (some ⟨bb, off, none⟩) n c), (4, ptr b4 0), (14, .int .i64 (j : Int))]) (fun j => [(b4, .cells (cf 64 (fun i => u32 (schN m j i))) 191 (0, 0)), (b, .cells s.cells 152 (0, 0))]) (fun j => [w]) (fun j => Gh.no) (fun j => j ≤ 16) (fun j => 16 - j) 0 (by decide) ⟨rfl, rfl, rfl, rfl, trivial⟩ rfl rfl (by simp) ?_
  rintro j hj
  refine CJ.seq ?_
  refine CJ.region ?_
  refine rv rfl rfl rfl (lss_r rfl rfl) ?_
  refine OJ.done ?_
  refine PJ.next ?_
  refine CJ.seq ?_
  refine CJ.cond rfl (fun hc1 => ?_) (fun hc1 => ?_)
  · try simp only [decide_eq_true_eq, decide_eq_false_iff_not, Bool.not_eq_true', Bool.not_eq_false'] at hc1
    refine CJ.skip ?_
    refine PJ.next ?_
    refine CJ.seq ?_
    refine CJ.block ?_
    refine CJ.seq ?_
    refine CJ.region ?_
    refine rv rfl rfl rfl (mv_r rfl) ?_
    refine rv rfl rfl rfl (asg_r rfl) ?_
    refine OJ.done ?_
    refine PJ.next ?_
    refine CJ.region ?_
    refine rv rfl rfl rfl (mv_r rfl) ?_
    refine rv rfl rfl rfl (mv_r rfl) ?_
    refine rv rfl rfl rfl (mv_r rfl) ?_
    refine rv rfl rfl rfl (mulI_r rfl rfl (by omega) (by omega)) ?_
    refine rv rfl rfl rfl (slS_r (l := 4 * j) (h := n) (off' := off + 4 * j) Tryz.underlying53 Tryz.sizeOf5 rfl ⟨_, _, rfl, by omega⟩ rfl (by omega) (by omega) (by rw [if_neg (by omega)]; omega)) ?_
    refine call Tryz.call119 rfl rfl rfl (fun W hS => digest_word (fun i => m (4 * j + i)) _ _ _ _ _ _ _ (by omega) (by omega) W (hS.old (.head _) hbb (fun h => h) (by simp only [Off, List.set_cons_zero, List.set_cons_succ, ne_eq, and_true]; omega)) (fun i hi => by rw [Nat.add_assoc]; exact hm _ (by omega))) ?_
    refine rv rfl rfl rfl (RV.re (v' := ptr b4 j) (idxA_r Tryz.underlying191 Tryz.sizeOf150 rfl rfl (by omega) (by omega)) (congrArg (ptr b4) (by omega))) ?_
    refine stW (i := 0) rfl Tryz.sizeOf150 rfl rfl rfl rfl (by rw [cf_size]; omega) rfl ?_
    refine OJ.done ?_
    refine PJ.norBlock ?_
    refine PJ.next ?_
    refine CJ.region ?_
    refine rv rfl rfl rfl (addI_r rfl rfl (by omega) (by omega)) ?_
    refine rv rfl rfl rfl (mv_r rfl) ?_
    refine OJ.done ?_
    refine PJ.reH (H' := [(b4, .cells (cf 64 (fun i => u32 (schN m (j + 1) i))) 191 (0, 0)), (b, .cells s.cells 152 (0, 0))]) (by rw [← cf_sch m j (wordOf (fun i => m (4 * j + i)) 0) (by rw [if_pos (by omega)]; rfl)]; rfl) ?_
    refine PJ.again (j + 1) (by omega) (by omega) ⟨rfl, rfl, rfl, rfl, trivial⟩ rfl rfl (by simp)
  · try simp only [decide_eq_true_eq, decide_eq_false_iff_not, Bool.not_eq_true', Bool.not_eq_false'] at hc1
    refine CJ.exit ?_
    refine PJ.exThen ?_
    refine PJ.exThen ?_
    refine PJ.exHit ?_
    refine PJ.next ?_
    refine CJ.seq ?_
    refine CJ.seq ?_
    refine CJ.region ?_
    refine rv rfl rfl rfl (asg_r rfl) ?_
    refine OJ.done ?_
    refine PJ.next ?_
    refine CJ.block ?_
    have e : j = 16 := by omega
    subst e
    refine CJ.loop (α := Nat) (fun j => [(0, ptr b 0), (4, ptr b4 0), (6, .int .i64 (j : Int))]) (fun j => [(b4, .cells (cf 64 (fun i => u32 (schN m j i))) 191 (0, 0)), (b, .cells s.cells 152 (0, 0))]) (fun j => [w]) (fun j => Gh.no) (fun j => 16 ≤ j ∧ j ≤ 64) (fun j => 64 - j) 16 (by decide) ⟨rfl, rfl, rfl, trivial⟩ rfl rfl (by simp) ?_
    rintro j ⟨hj1, hj⟩
    refine CJ.seq ?_
    refine CJ.seq ?_
    refine CJ.region ?_
    refine rv rfl rfl rfl (mv_r rfl) ?_
    refine rv rfl rfl rfl (lss_r rfl rfl) ?_
    refine OJ.done ?_
    refine PJ.next ?_
    refine CJ.cond rfl (fun hc2 => ?_) (fun hc2 => ?_)
    · try simp only [decide_eq_true_eq, decide_eq_false_iff_not, Bool.not_eq_true', Bool.not_eq_false'] at hc2
      refine CJ.skip ?_
      refine PJ.next ?_
      refine CJ.seq ?_
      refine CJ.block ?_
      refine CJ.seq ?_
      refine CJ.less (E' := [(0, _), (4, _), (6, _), (25, _), (26, _)]) ⟨rfl, rfl, rfl, rfl, rfl, trivial⟩ ?_
      refine CJ.drwD 9 [.det [] _, .det [0] _, .det [1] _, .det [2] _, .det [] _, .det [4] _, .det [5] _, .det [6] _, .det [3] _] (by kernel_rfl) (xc (fun vals => X.val rfl rfl (mv_r rfl) (fun _ _ => rfl)) (xc (fun vals => X.val rfl rfl (subI_r rfl rfl (by omega) (by omega)) (fun _ _ => rfl)) (xc (fun vals => X.val rfl rfl (idxA_r Tryz.underlying191 Tryz.sizeOf150 rfl rfl (by omega) (by omega)) (fun _ _ => rfl)) (xc (fun vals => X.val rfl rfl (ldW_r (v := u32 (schN m j (j - 15))) (i := 0) rfl Tryz.isAgg150 rfl (cf_ld 64 (fun i => u32 (schN m j i)) (j - 15) _ (by omega) (by omega))) (fun _ _ => rfl)) (xc (fun vals => X.val rfl rfl (mv_r rfl) (fun _ _ => rfl)) (xc (fun vals => X.val rfl rfl (subI_r rfl rfl (by omega) (by omega)) (fun _ _ => rfl)) (xc (fun vals => X.val rfl rfl (idxA_r Tryz.underlying191 Tryz.sizeOf150 rfl rfl (by omega) (by omega)) (fun _ _ => rfl)) (xc (fun vals => X.val rfl rfl (ldW_r (v := u32 (schN m j (j - 2))) (i := 0) rfl Tryz.isAgg150 rfl (cf_ld 64 (fun i => u32 (schN m j i)) (j - 2) _ (by omega) (by omega))) (fun _ _ => rfl)) (xc (fun vals => X.val rfl rfl (asg_r rfl) (fun _ _ => rfl)) (xn)))))))))) (by kernel_rfl) (by kernel_rfl) (by kernel_rfl) (fun vals => ?_)
      refine rv rfl rfl rfl (asg_r rfl) ?_
      refine OJ.done ?_
      refine PJ.next ?_
      refine CJ.less (E' := [(0, _), (4, _), (6, _), (7, _), (8, _), (25, _), (26, _), (29, _), (30, _), (31, _), (32, _), (33, _), (34, _), (35, _), (36, _)]) ⟨rfl, rfl, rfl, rfl, rfl, rfl, rfl, rfl, rfl, rfl, rfl, rfl, rfl, rfl, rfl, trivial⟩ ?_
      refine CJ.drwD 28 [.det [] _, .det [] _, .det [1] _, .det [2] _, .det [3] _, .det [] _, .det [5] _, .det [] _, .det [7] _, .det [6, 8] _, .det [] _, .det [10] _, .det [9, 11] _, .det [4, 12] _, .det [] _, .det [14] _, .det [15] _, .det [16] _, .det [13, 17] _, .det [] _, .det [19] _, .det [] _, .det [21] _, .det [20, 22] _, .det [] _, .det [24] _, .det [23, 25] _, .det [18, 26] _] (by kernel_rfl) (xc (fun vals => X.val rfl rfl (mv_r rfl) (fun _ _ => rfl)) (xc (fun vals => X.val rfl rfl (mv_r rfl) (fun _ _ => rfl)) (xc (fun vals => X.val rfl rfl (subI_r rfl rfl (by omega) (by omega)) (fun _ _ => rfl)) (xc (fun vals => X.val rfl rfl (idxA_r Tryz.underlying191 Tryz.sizeOf150 rfl rfl (by omega) (by omega)) (fun _ _ => rfl)) (xc (fun vals => X.val rfl rfl (ldW_r (v := u32 (schN m j (j - 16))) (i := 0) rfl Tryz.isAgg150 rfl (cf_ld 64 (fun i => u32 (schN m j i)) (j - 16) _ (by omega) (by omega))) (fun _ _ => rfl)) (xc (fun vals => X.val rfl rfl (mv_r rfl) (fun _ _ => rfl)) (xc (fun vals => X.callV Tryz.call120 rfl rfl (fun W hS _ => bits_rotl _ 7 (by decide) (by decide) W) (fun _ => rfl)) (xc (fun vals => X.val rfl rfl (mv_r rfl) (fun _ _ => rfl)) (xc (fun vals => X.callV Tryz.call120 rfl rfl (fun W hS _ => bits_rotl _ 18 (by decide) (by decide) W) (fun _ => rfl)) (xc (fun vals => X.val rfl rfl (xorV_r rfl rfl) (fun _ _ => rfl)) (xc (fun vals => X.val rfl rfl (mv_r rfl) (fun _ _ => rfl)) (xc (fun vals => X.val rfl rfl (shrV_r 3 (by decide) rfl rfl rfl) (fun _ _ => rfl)) (xc (fun vals => X.val rfl rfl (xorV_r rfl rfl) (fun _ _ => rfl)) (xc (fun vals => X.val rfl rfl (addV_r rfl rfl) (fun _ _ => rfl)) (xc (fun vals => X.val rfl rfl (mv_r rfl) (fun _ _ => rfl)) (xc (fun vals => X.val rfl rfl (subI_r rfl rfl (by omega) (by omega)) (fun _ _ => rfl)) (xc (fun vals => X.val rfl rfl (idxA_r Tryz.underlying191 Tryz.sizeOf150 rfl rfl (by omega) (by omega)) (fun _ _ => rfl)) (xc (fun vals => X.val rfl rfl (ldW_r (v := u32 (schN m j (j - 7))) (i := 0) rfl Tryz.isAgg150 rfl (cf_ld 64 (fun i => u32 (schN m j i)) (j - 7) _ (by omega) (by omega))) (fun _ _ => rfl)) (xc (fun vals => X.val rfl rfl (addV_r rfl rfl) (fun _ _ => rfl)) (xc (fun vals => X.val rfl rfl (mv_r rfl) (fun _ _ => rfl)) (xc (fun vals => X.callV Tryz.call120 rfl rfl (fun W hS _ => bits_rotl _ 17 (by decide) (by decide) W) (fun _ => rfl)) (xc (fun vals => X.val rfl rfl (mv_r rfl) (fun _ _ => rfl)) (xc (fun vals => X.callV Tryz.call120 rfl rfl (fun W hS _ => bits_rotl _ 19 (by decide) (by decide) W) (fun _ => rfl)) (xc (fun vals => X.val rfl rfl (xorV_r rfl rfl) (fun _ _ => rfl)) (xc (fun vals => X.val rfl rfl (mv_r rfl) (fun _ _ => rfl)) (xc (fun vals => X.val rfl rfl (shrV_r 10 (by decide) rfl rfl rfl) (fun _ _ => rfl)) (xc (fun vals => X.val rfl rfl (xorV_r rfl rfl) (fun _ _ => rfl)) (xc (fun vals => X.val rfl rfl (addV_r rfl rfl) (fun _ _ => rfl)) (xn))))))))))))))))))))))))))))) (by kernel_rfl) (by kernel_rfl) (by kernel_rfl) (fun vals => ?_)
      refine rv rfl rfl rfl (RV.re (v' := ptr b4 j) (idxA_r Tryz.underlying191 Tryz.sizeOf150 rfl rfl (by omega) (by omega)) (congrArg (ptr b4) (by omega))) ?_
      refine stW (i := 0) rfl Tryz.sizeOf150 rfl rfl rfl rfl (by rw [cf_size]; omega) rfl ?_
      refine OJ.done ?_
      refine PJ.norBlock ?_
      refine PJ.next ?_
      refine CJ.region ?_
      refine rv rfl rfl rfl (mv_r rfl) ?_
      refine rv rfl rfl rfl (addI_r rfl rfl (by omega) (by omega)) ?_
      refine rv rfl rfl rfl (asg_r rfl) ?_
      refine OJ.done ?_
      refine PJ.reH (H' := [(b4, .cells (cf 64 (fun i => u32 (schN m (j + 1) i))) 191 (0, 0)), (b, .cells s.cells 152 (0, 0))]) (by rw [← cf_sch m j _ (by rw [if_neg (by omega)])]; rfl) ?_
      refine PJ.again (j + 1) (by omega) (by omega) ⟨rfl, rfl, rfl, trivial⟩ rfl rfl (by simp)
    · try simp only [decide_eq_true_eq, decide_eq_false_iff_not, Bool.not_eq_true', Bool.not_eq_false'] at hc2
      refine CJ.exit ?_
      refine PJ.exThen ?_
      refine PJ.exThen ?_
      refine PJ.exHit ?_
      refine PJ.next ?_
      refine CJ.seq ?_
      refine CJ.region ?_
      refine rv rfl rfl rfl (mv_r rfl) ?_
      refine rv rfl rfl rfl (nilC_r rfl) ?_
      refine rv rfl rfl rfl (ldWAw_r (i := 1) rfl Tryz.isAgg152 Tryz.sizeOf152 rfl rfl) ?_
      refine allW Tryz.zeroValue152 rfl rfl ?_
      intro b9 ha9 ho9
      simp only [Above] at ha9
      try simp only [Off, book, List.cons_append, List.nil_append, List.set_cons_zero, List.set_cons_succ, ne_eq] at ho9
      refine stWw (i := 0) rfl Tryz.sizeOf152 rfl rfl rfl rfl rfl rfl ?_
      refine OJ.done ?_
      refine PJ.next ?_
      refine CJ.seq ?_
      refine CJ.seq ?_
      refine CJ.region ?_
      refine rv rfl rfl rfl (mv_r rfl) ?_
      refine OJ.done ?_
      refine PJ.next ?_
      refine CJ.block ?_
      have e : j = 64 := by omega
      subst e
      obtain ⟨ws, hX⟩ : ∃ ws, ws = schN m 64 := ⟨_, rfl⟩
      refine CJ.reH (H' := [(b9, .cells s.cells 152 (0, 0)), (b4, .cells (cf 64 (fun i => u32 (ws i))) 191 (0, 0)), (b, .cells s.cells 152 (0, 0))]) (by rw [hX]; rfl) ?_
      refine CJ.loop (α := Nat) (fun j => [(0, ptr b 0), (4, ptr b4 0), (9, ptr b9 0), (69, .int .i64 (j : Int))]) (fun j => [(b9, .cells (S8.run ws s j).cells 152 (0, 0)), (b4, .cells (cf 64 (fun i => u32 (ws i))) 191 (0, 0)), (b, .cells s.cells 152 (0, 0))]) (fun j => [w]) (fun j => Gh.no) (fun j => j ≤ 64) (fun j => 64 - j) 0 (by decide) ⟨rfl, rfl, rfl, rfl, trivial⟩ rfl rfl (by simp) ?_
      rintro j hj
      dsimp only
      generalize hv : S8.run ws s j = v
      refine CJ.seq ?_
      refine CJ.region ?_
      refine rv rfl rfl rfl (lss_r rfl rfl) ?_
      refine OJ.done ?_
      refine PJ.next ?_
      refine CJ.seq ?_
      refine CJ.cond rfl (fun hc3 => ?_) (fun hc3 => ?_)
      · try simp only [decide_eq_true_eq, decide_eq_false_iff_not, Bool.not_eq_true', Bool.not_eq_false'] at hc3
        refine CJ.skip ?_
        refine PJ.next ?_
        refine CJ.seq ?_
        refine CJ.block ?_
        refine CJ.seq ?_
        refine CJ.region ?_
        refine rv rfl rfl rfl (mv_r rfl) ?_
        refine rv rfl rfl rfl (asg_r rfl) ?_
        refine OJ.done ?_
        refine PJ.next ?_
        refine CJ.seq ?_
        refine CJ.less (E' := [(0, _), (4, _), (9, _), (10, _), (69, _), (70, _), (71, _)]) ⟨rfl, rfl, rfl, rfl, rfl, rfl, rfl, trivial⟩ ?_
        refine CJ.drwD 25 [.det [] _, .det [0] _, .det [] _, .det [2] _, .det [3] _, .det [1, 4] _, .det [] _, .det [6] _, .det [] _, .det [8] _, .det [] _, .det [10] _, .det [] _, .det [12] _, .det [11, 13] _, .det [9, 14] _, .det [7, 15] _, .det [5, 16] _, .det [] _, .det [18] _, .det [19] _, .det [17, 20] _, .det [] _, .det [22] _, .det [23] _] (by kernel_rfl) (xc (fun vals => X.val rfl rfl (idxA_r Tryz.underlying152 Tryz.sizeOf150 rfl rfl (by omega) (by omega)) (fun _ _ => rfl)) (xc (fun vals => X.val rfl rfl (ldW_r (i := 0) rfl Tryz.isAgg150 rfl rfl) (fun _ _ => rfl)) (xc (fun vals => X.val rfl rfl (idxA_r Tryz.underlying152 Tryz.sizeOf150 rfl rfl (by omega) (by omega)) (fun _ _ => rfl)) (xc (fun vals => X.val rfl rfl (ldW_r (i := 0) rfl Tryz.isAgg150 rfl rfl) (fun _ _ => rfl)) (xc (fun vals => X.callV Tryz.call121 rfl rfl (fun W hS _ => digest_rotated _ 6 11 25 (by decide) (by decide) (by decide) (by decide) (by decide) (by decide) W) (fun _ => rfl)) (xc (fun vals => X.val rfl rfl (addV_r rfl rfl) (fun _ _ => rfl)) (xc (fun vals => X.val rfl rfl (idxA_r Tryz.underlying152 Tryz.sizeOf150 rfl rfl (by omega) (by omega)) (fun _ _ => rfl)) (xc (fun vals => X.val rfl rfl (ldW_r (i := 0) rfl Tryz.isAgg150 rfl rfl) (fun _ _ => rfl)) (xc (fun vals => X.val rfl rfl (idxA_r Tryz.underlying152 Tryz.sizeOf150 rfl rfl (by omega) (by omega)) (fun _ _ => rfl)) (xc (fun vals => X.val rfl rfl (ldW_r (i := 0) rfl Tryz.isAgg150 rfl rfl) (fun _ _ => rfl)) (xc (fun vals => X.val rfl rfl (idxA_r Tryz.underlying152 Tryz.sizeOf150 rfl rfl (by omega) (by omega)) (fun _ _ => rfl)) (xc (fun vals => X.val rfl rfl (ldW_r (i := 0) rfl Tryz.isAgg150 rfl rfl) (fun _ _ => rfl)) (xc (fun vals => X.val rfl rfl (idxA_r Tryz.underlying152 Tryz.sizeOf150 rfl rfl (by omega) (by omega)) (fun _ _ => rfl)) (xc (fun vals => X.val rfl rfl (ldW_r (i := 0) rfl Tryz.isAgg150 rfl rfl) (fun _ _ => rfl)) (xc (fun vals => X.val rfl rfl (xorV_r rfl rfl) (fun _ _ => rfl)) (xc (fun vals => X.val rfl rfl (andV_r rfl rfl) (fun _ _ => rfl)) (xc (fun vals => X.val rfl rfl (xorV_r rfl rfl) (fun _ _ => rfl)) (xc (fun vals => X.val rfl rfl (addV_r rfl rfl) (fun _ _ => rfl)) (xc (fun vals => X.val rfl rfl (mv_r rfl) (fun _ _ => rfl)) (xc (fun vals => X.val rfl rfl (idxA_r Tryz.underlying191 Tryz.sizeOf150 rfl rfl (by omega) (by omega)) (fun _ _ => rfl)) (xc (fun vals => X.val rfl rfl (ldR_r (v := u32 (kk j)) Tryz.isAgg150 rfl (.head _) hg (fun h => h) (by simp only [Off, List.set_cons_zero, List.set_cons_succ, ne_eq, and_true]; omega) (cf_ld 64 (fun i => u32 (kk i)) j _ (by omega) (by omega))) (fun _ _ => rfl)) (xc (fun vals => X.val rfl rfl (addV_r rfl rfl) (fun _ _ => rfl)) (xc (fun vals => X.val rfl rfl (mv_r rfl) (fun _ _ => rfl)) (xc (fun vals => X.val rfl rfl (idxA_r Tryz.underlying191 Tryz.sizeOf150 rfl rfl (by omega) (by omega)) (fun _ _ => rfl)) (xc (fun vals => X.val rfl rfl (ldW_r (v := u32 (ws j)) (i := 1) rfl Tryz.isAgg150 rfl (cf_ld 64 (fun i => u32 (ws i)) j _ (by omega) (by omega))) (fun _ _ => rfl)) (xn)))))))))))))))))))))))))) (by kernel_rfl) (by kernel_rfl) (by kernel_rfl) (fun vals => ?_)
        refine rv rfl rfl rfl (addV_r rfl rfl) ?_
        refine rv rfl rfl rfl (asg_r rfl) ?_
        refine OJ.done ?_
        refine PJ.next ?_
        refine CJ.seq ?_
        refine CJ.less (E' := [(0, _), (4, _), (9, _), (10, _), (11, _), (69, _), (70, _), (71, _), (72, _), (73, _), (74, _), (75, _), (76, _), (77, _), (78, _), (79, _), (80, _), (81, _), (82, _), (83, _), (84, _), (85, _), (86, _), (87, _), (88, _), (89, _), (90, _), (91, _), (92, _), (93, _), (94, _), (95, _), (96, _), (97, _)]) ⟨rfl, rfl, rfl, rfl, rfl, rfl, rfl, rfl, rfl, rfl, rfl, rfl, rfl, rfl, rfl, rfl, rfl, rfl, rfl, rfl, rfl, rfl, rfl, rfl, rfl, rfl, rfl, rfl, rfl, rfl, rfl, rfl, rfl, rfl, trivial⟩ ?_
        refine CJ.drwD 17 [.det [] _, .det [0] _, .det [1] _, .det [] _, .det [3] _, .det [] _, .det [5] _, .det [4, 6] _, .det [] _, .det [8] _, .det [] _, .det [10] _, .det [] _, .det [12] _, .det [11, 13] _, .det [9, 14] _, .det [7, 15] _] (by kernel_rfl) (xc (fun vals => X.val rfl rfl (idxA_r Tryz.underlying152 Tryz.sizeOf150 rfl rfl (by omega) (by omega)) (fun _ _ => rfl)) (xc (fun vals => X.val rfl rfl (ldW_r (i := 0) rfl Tryz.isAgg150 rfl rfl) (fun _ _ => rfl)) (xc (fun vals => X.callV Tryz.call121 rfl rfl (fun W hS _ => digest_rotated _ 2 13 22 (by decide) (by decide) (by decide) (by decide) (by decide) (by decide) W) (fun _ => rfl)) (xc (fun vals => X.val rfl rfl (idxA_r Tryz.underlying152 Tryz.sizeOf150 rfl rfl (by omega) (by omega)) (fun _ _ => rfl)) (xc (fun vals => X.val rfl rfl (ldW_r (i := 0) rfl Tryz.isAgg150 rfl rfl) (fun _ _ => rfl)) (xc (fun vals => X.val rfl rfl (idxA_r Tryz.underlying152 Tryz.sizeOf150 rfl rfl (by omega) (by omega)) (fun _ _ => rfl)) (xc (fun vals => X.val rfl rfl (ldW_r (i := 0) rfl Tryz.isAgg150 rfl rfl) (fun _ _ => rfl)) (xc (fun vals => X.val rfl rfl (andV_r rfl rfl) (fun _ _ => rfl)) (xc (fun vals => X.val rfl rfl (idxA_r Tryz.underlying152 Tryz.sizeOf150 rfl rfl (by omega) (by omega)) (fun _ _ => rfl)) (xc (fun vals => X.val rfl rfl (ldW_r (i := 0) rfl Tryz.isAgg150 rfl rfl) (fun _ _ => rfl)) (xc (fun vals => X.val rfl rfl (idxA_r Tryz.underlying152 Tryz.sizeOf150 rfl rfl (by omega) (by omega)) (fun _ _ => rfl)) (xc (fun vals => X.val rfl rfl (ldW_r (i := 0) rfl Tryz.isAgg150 rfl rfl) (fun _ _ => rfl)) (xc (fun vals => X.val rfl rfl (idxA_r Tryz.underlying152 Tryz.sizeOf150 rfl rfl (by omega) (by omega)) (fun _ _ => rfl)) (xc (fun vals => X.val rfl rfl (ldW_r (i := 0) rfl Tryz.isAgg150 rfl rfl) (fun _ _ => rfl)) (xc (fun vals => X.val rfl rfl (orV_r rfl rfl) (fun _ _ => rfl)) (xc (fun vals => X.val rfl rfl (andV_r rfl rfl) (fun _ _ => rfl)) (xc (fun vals => X.val rfl rfl (orV_r rfl rfl) (fun _ _ => rfl)) (xn)))))))))))))))))) (by kernel_rfl) (by kernel_rfl) (by kernel_rfl) (fun vals => ?_)
        refine rv rfl rfl rfl (addV_r rfl rfl) ?_
        refine rv rfl rfl rfl (asg_r rfl) ?_
        refine OJ.done ?_
        refine PJ.next ?_
        refine CJ.seq ?_
        refine CJ.less (E' := [(0, _), (4, _), (9, _), (10, _), (11, _), (12, _), (69, _), (70, _), (71, _), (72, _), (73, _), (74, _), (75, _), (76, _), (77, _), (78, _), (79, _), (80, _), (81, _), (82, _), (83, _), (84, _), (85, _), (86, _), (87, _), (88, _), (89, _), (90, _), (91, _), (92, _), (93, _), (94, _), (95, _), (96, _), (97, _), (98, _), (99, _), (100, _), (101, _), (102, _), (103, _), (104, _), (105, _), (106, _), (107, _), (108, _), (109, _), (110, _), (111, _), (112, _), (113, _), (114, _), (115, _)]) ⟨rfl, rfl, rfl, rfl, rfl, rfl, rfl, rfl, rfl, rfl, rfl, rfl, rfl, rfl, rfl, rfl, rfl, rfl, rfl, rfl, rfl, rfl, rfl, rfl, rfl, rfl, rfl, rfl, rfl, rfl, rfl, rfl, rfl, rfl, rfl, rfl, rfl, rfl, rfl, rfl, rfl, rfl, rfl, rfl, rfl, rfl, rfl, rfl, rfl, rfl, rfl, rfl, rfl, trivial⟩ ?_
        refine CJ.drwD 2 [.det [] _, .det [] _] (by kernel_rfl) (xc (fun vals => X.val rfl rfl (slA_r (l := 1) Tryz.underlying152 Tryz.sizeOf150 rfl ⟨_, _, rfl, rfl⟩ rfl (by omega) (by omega) (by rw [if_neg (by omega)])) (fun _ _ => rfl)) (xc (fun vals => X.val rfl rfl (slA0_r (h := 7) Tryz.underlying152 Tryz.sizeOf150 rfl ⟨_, _, rfl, rfl⟩ (by omega)) (fun _ _ => rfl)) (xn))) (by kernel_rfl) (by kernel_rfl) (by kernel_rfl) (fun vals => ?_)
        refine cpW (i := 0) (n := 7) rfl Tryz.underlying195 Tryz.sizeOf150 rfl rfl rfl rfl (fun _ => rfl) (by decide) (Rd.own (i := 0) rfl (Nat.le_of_ble_eq_true rfl) rfl) (Nat.le_of_ble_eq_true rfl) rfl ?_
        refine OJ.done ?_
        refine PJ.next ?_
        refine CJ.seq ?_
        refine CJ.reH (H' := [(b9, .cells #[u32 v.a, u32 v.a, u32 v.b, u32 v.c, u32 v.d, u32 v.e, u32 v.f, u32 v.g] 152 (0, 0)), (b4, .cells (cf 64 (fun i => u32 (ws i))) 191 (0, 0)), (b, .cells s.cells 152 (0, 0))]) rfl ?_
        refine CJ.region ?_
        refine rv rfl rfl rfl (idxA_r Tryz.underlying152 Tryz.sizeOf150 rfl rfl (by omega) (by omega)) ?_
        refine rv rfl rfl rfl (ldW_r (i := 0) rfl Tryz.isAgg150 rfl rfl) ?_
        refine rv rfl rfl rfl (mv_r rfl) ?_
        refine rv rfl rfl rfl (addV_r rfl rfl) ?_
        refine rv rfl rfl rfl (idxA_r Tryz.underlying152 Tryz.sizeOf150 rfl rfl (by omega) (by omega)) ?_
        refine stW (i := 0) rfl Tryz.sizeOf150 rfl rfl rfl rfl (Nat.le_of_ble_eq_true rfl) rfl ?_
        refine OJ.done ?_
        refine PJ.next ?_
        refine CJ.region ?_
        refine rv rfl rfl rfl (mv_r rfl) ?_
        refine rv rfl rfl rfl (mv_r rfl) ?_
        refine rv rfl rfl rfl (addV_r rfl rfl) ?_
        refine rv rfl rfl rfl (idxA_r Tryz.underlying152 Tryz.sizeOf150 rfl rfl (by omega) (by omega)) ?_
        refine stW (i := 0) rfl Tryz.sizeOf150 rfl rfl rfl rfl (Nat.le_of_ble_eq_true rfl) rfl ?_
        refine OJ.done ?_
        refine PJ.norBlock ?_
        refine PJ.next ?_
        refine CJ.region ?_
        refine rv rfl rfl rfl (addI_r rfl rfl (by omega) (by omega)) ?_
        refine rv rfl rfl rfl (mv_r rfl) ?_
        refine OJ.done ?_
        refine PJ.reH (H' := [(b9, .cells (S8.run ws s (j + 1)).cells 152 (0, 0)), (b4, .cells (cf 64 (fun i => u32 (ws i))) 191 (0, 0)), (b, .cells s.cells 152 (0, 0))]) (by simp only [S8.run, hv, S8.step, S8.P, S8.Q, ← chf_alt, ← maj_alt]; rfl) ?_
        refine PJ.again (j + 1) (by omega) (by omega) ⟨rfl, rfl, rfl, rfl, trivial⟩ rfl rfl (by simp)
      · try simp only [decide_eq_true_eq, decide_eq_false_iff_not, Bool.not_eq_true', Bool.not_eq_false'] at hc3
        refine CJ.exit ?_
        refine PJ.exThen ?_
        refine PJ.exThen ?_
        refine PJ.exHit ?_
        refine PJ.next ?_
        refine CJ.seq ?_
        refine CJ.region ?_
        refine rv rfl rfl rfl (mv_r rfl) ?_
        refine OJ.done ?_
        refine PJ.next ?_
        refine CJ.block ?_
        have e : j = 64 := by omega
        subst e
        refine CJ.loop (α := Nat) (fun j => [(0, ptr b 0), (9, ptr b9 0), (129, .int .i64 (j : Int))]) (fun j => [(b9, .cells v.cells 152 (0, 0)), (b4, .cells (cf 64 (fun i => u32 (ws i))) 191 (0, 0)), (b, .cells (addN s v j) 152 (0, 0))]) (fun j => [w]) (fun j => Gh.no) (fun j => j ≤ 8) (fun j => 8 - j) 0 (by decide) ⟨rfl, rfl, rfl, trivial⟩ rfl rfl (by simp) ?_
        rintro j hj
        refine CJ.seq ?_
        refine CJ.region ?_
        refine rv rfl rfl rfl (lss_r rfl rfl) ?_
        refine OJ.done ?_
        refine PJ.next ?_
        refine CJ.seq ?_
        refine CJ.cond rfl (fun hc4 => ?_) (fun hc4 => ?_)
        · try simp only [decide_eq_true_eq, decide_eq_false_iff_not, Bool.not_eq_true', Bool.not_eq_false'] at hc4
          refine CJ.skip ?_
          refine PJ.next ?_
          refine CJ.seq ?_
          refine CJ.block ?_
          refine CJ.seq ?_
          refine CJ.region ?_
          refine rv rfl rfl rfl (mv_r rfl) ?_
          refine rv rfl rfl rfl (asg_r rfl) ?_
          refine OJ.done ?_
          refine PJ.next ?_
          refine CJ.less (E' := [(0, _), (9, _), (13, _), (129, _), (130, _), (131, _)]) ⟨rfl, rfl, rfl, rfl, rfl, rfl, trivial⟩ ?_
          refine CJ.drwD 10 [.det [] _, .det [] _, .det [0] _, .det [1, 2] _, .det [3] _, .det [] _, .det [5] _, .det [6] _, .det [4, 7] _, .det [0] _] (by kernel_rfl) (xc (fun vals => X.val rfl rfl (mv_r rfl) (fun _ _ => rfl)) (xc (fun vals => X.val rfl rfl (mv_r rfl) (fun _ _ => rfl)) (xc (fun vals => X.val rfl rfl (nilC_r rfl) (fun _ _ => rfl)) (xc (fun vals => X.val rfl rfl (idxA_r Tryz.underlying152 Tryz.sizeOf150 rfl rfl (by omega) (by omega)) (fun _ _ => rfl)) (xc (fun vals => X.val rfl rfl (ldW_r (v := u32 (s.at j)) (i := 2) rfl Tryz.isAgg150 rfl (addN_ld s v j _ (by omega) (by omega))) (fun _ _ => rfl)) (xc (fun vals => X.val rfl rfl (mv_r rfl) (fun _ _ => rfl)) (xc (fun vals => X.val rfl rfl (idxA_r Tryz.underlying152 Tryz.sizeOf150 rfl rfl (by omega) (by omega)) (fun _ _ => rfl)) (xc (fun vals => X.val rfl rfl (ldW_r (v := u32 (v.at j)) (i := 0) rfl Tryz.isAgg150 rfl (S8.cells_ld _ j _ (by omega) (by omega))) (fun _ _ => rfl)) (xc (fun vals => X.val rfl rfl (addV_r rfl rfl) (fun _ _ => rfl)) (xc (fun vals => X.val rfl rfl (nilC_r rfl) (fun _ _ => rfl)) (xn))))))))))) (by kernel_rfl) (by kernel_rfl) (by kernel_rfl) (fun vals => ?_)
          refine rv rfl rfl rfl (RV.re (v' := ptr b j) (idxA_r Tryz.underlying152 Tryz.sizeOf150 rfl rfl (by omega) (by omega)) (congrArg (ptr b) (by omega))) ?_
          refine stW (i := 2) rfl Tryz.sizeOf150 rfl rfl rfl rfl (by rw [addN, cf_size]; omega) rfl ?_
          refine OJ.done ?_
          refine PJ.norBlock ?_
          refine PJ.next ?_
          refine CJ.region ?_
          refine rv rfl rfl rfl (addI_r rfl rfl (by omega) (by omega)) ?_
          refine rv rfl rfl rfl (mv_r rfl) ?_
          refine OJ.done ?_
          refine PJ.reH (H' := [(b9, .cells v.cells 152 (0, 0)), (b4, .cells (cf 64 (fun i => u32 (ws i))) 191 (0, 0)), (b, .cells (addN s v (j + 1)) 152 (0, 0))]) (by rw [← addN_step]; rfl) ?_
          refine PJ.again (j + 1) (by omega) (by omega) ⟨rfl, rfl, rfl, trivial⟩ rfl rfl (by simp)
        · try simp only [decide_eq_true_eq, decide_eq_false_iff_not, Bool.not_eq_true', Bool.not_eq_false'] at hc4
          refine CJ.exit ?_
          refine PJ.exThen ?_
          refine PJ.exThen ?_
          refine PJ.exHit ?_
          have e : j = 8 := by omega
          subst e
          rw [show (s.comp m).cells = addN s v 8 from by rw [addN_8, S8.comp, ← hX, hv]]
          refine retG (.inr rfl) Tryz.results91 RS.n (fun W hS => ⟨rfl, (hS.links w (.head _)).mono fun k hk hx => ?_, hS.own _ (.tail _ (.tail _ (.head _)))⟩)
          simp only [Gh.no, List.map_cons, List.map_nil, List.mem_cons, List.not_mem_nil, or_false, false_or] at hx; omega
end Px
namespace Px
open Go Go.RowKit Go.Proofs
theorem info5 : Tryz.prog.info? 5 = some Tryz.t5 := by kernel_rfl
theorem cf_lay (N : Nat) (g : Nat → Value) : ∀ (news : List Value) (f : Nat → Value) (off : Nat), (∀ i, i < news.length → news[i]? = some (g (off + i))) →
    setCells (cf N f) off news = cf N (fun i => if off ≤ i ∧ i < off + news.length then g i else f i)
  | [], f, off, _ => by
    show cf N f = _
    apply cf_congr
    intro i _
    rw [if_neg (by simp only [List.length_nil]; omega)]
  | v :: vs, f, off, h => by
    have h0 := h 0 (by simp)
    simp only [List.getElem?_cons_zero, Option.some.injEq, Nat.add_zero] at h0
    show setCells (setCells (cf N f) off [v]) (off + 1) vs = _
    rw [cf_set, cf_lay N g vs _ (off + 1) (fun i hi => by
      have := h (i + 1) (by simp; omega)
      simp only [List.getElem?_cons_succ] at this
      rw [this]; congr 2; omega)]
    apply cf_congr
    intro i _
    simp only [List.length_cons, upd]
    by_cases h1 : i = off
    · subst h1; rw [if_neg (by omega), if_pos rfl, if_pos (by omega), h0]
    · by_cases h2 : off + 1 ≤ i ∧ i < off + 1 + vs.length
      · rw [if_pos h2, if_pos (by omega)]
      · rw [if_neg h2, if_neg h1, if_neg (by omega)]
theorem putN_cf (N : Nat) (f : Nat → Value) (off len n : Nat) : ∀ k, k ≤ len → putN (cf N f) off len n k = cf N (fun i => if off + (len - k) ≤ i ∧ i < off + len then .int .u8 ((n / 2 ^ (8 * (off + len - 1 - i)) % 256 : Nat) : Int) else f i)
  | 0, _ => by
    show cf N f = _
    apply cf_congr
    intro i _
    rw [if_neg (by omega)]
  | k + 1, hk => by
    rw [putN, putN_cf N f off len n k (by omega), cf_set]
    apply cf_congr
    intro i _
    simp only [upd]
    by_cases h1 : i = off + (len - 1 - k)
    · rw [if_pos h1, if_pos (by omega), show off + len - 1 - i = k by omega]
    · rw [if_neg h1]
      by_cases h2 : off + (len - k) ≤ i ∧ i < off + len
      · rw [if_pos h2, if_pos (by omega)]
      · rw [if_neg h2, if_neg (by omega)]
theorem dg_cf (f : Nat → Int) : cf 32 (fun k => .int .u8 (f k)) = dg f := rfl
theorem take_at {cs : Array Value} {o r : Nat} {m : Nat → Int} (h : o + r ≤ cs.size) (hm : ∀ i, i < r → cs[o + i]? = some (.int .u8 (m i))) : ∀ i, i < ((cs.toList.drop o).take (r * 1)).length → ((cs.toList.drop o).take (r * 1))[i]? = some (.int .u8 (m i)) := by
  intro i hi
  have hi' : i < r := by simp at hi; omega
  rw [List.getElem?_take_of_lt (by omega), List.getElem?_drop, Array.getElem?_toList, hm i hi']
theorem take_len {cs : Array Value} {o r : Nat} (h : o + r ≤ cs.size) : ((cs.toList.drop o).take (r * 1)).length = r := by simp; omega
theorem ones_of {m : Nat → Int} : ∀ (l : List Value), (∀ i, i < l.length → l[i]? = some (.int .u8 (m i))) → oneCells l = true
  | [], _ => rfl
  | v :: l, h => by
    have h0 := h 0 (by simp)
    simp at h0; subst h0
    simp only [oneCells, one1, Bool.true_and]
    exact ones_of (m := fun i => m (i + 1)) l fun i hi => by have := h (i + 1) (by simp; omega); simpa using this
/-- the last bytes -/
def endF (n : Nat) (m : Nat → Int) (j N i : Nat) : Value := if (N - 8) + (8 - 8) ≤ i ∧ i < (N - 8) + 8 then .int .u8 ((8 * n / 2 ^ (8 * ((N - 8) + 8 - 1 - i)) % 256 : Nat) : Int) else upd (fun i => if 0 ≤ i ∧ i < 0 + (n - 64 * j) then .int .u8 (m (64 * j + i)) else .int .u8 0) (n - 64 * j) (.int .u8 128) i
theorem endF_put (n : Nat) (m : Nat → Int) (j N : Nat) : putN (setCells (cf 128 (fun i => if 0 ≤ i ∧ i < 0 + (n - 64 * j) then .int .u8 (m (64 * j + i)) else .int .u8 0)) (n - 64 * j) [.int .u8 128]) (N - 8) 8 (8 * n) 8 = cf 128 (endF n m j N) := by
  rw [cf_set, putN_cf 128 _ _ 8 _ 8 (Nat.le_refl _)]; rfl
theorem endF_pad (n : Nat) (m : Nat → Int) (j N i : Nat) (hj : 64 * j ≤ n) (hN : 64 * (nBlk n - j) = N) (hr : n - 64 * j < 64) (hi : i < N) : endF n m j N i = .int .u8 (padF n m (64 * j + i)) := by
  have hb : nBlk n = j + N / 64 := by unfold nBlk at *; omega
  have hN8 : N = 64 ∨ N = 128 := by unfold nBlk at hN; omega
  have hrN : n - 64 * j + 9 ≤ N := by unfold nBlk at hN; omega
  simp only [endF, padF, upd]
  by_cases h1 : i < n - 64 * j
  · rw [if_neg (by omega), if_neg (by omega), if_pos (by omega), if_pos (by omega)]
  · rw [if_neg (show ¬ 64 * j + i < n by omega)]
    by_cases h2 : i = n - 64 * j
    · rw [if_neg (by omega), if_pos h2, if_pos (by omega)]
    · rw [if_neg (show ¬ 64 * j + i = n by omega)]
      by_cases h3 : i < N - 8
      · rw [if_neg (by omega), if_neg h2, if_neg (by omega), if_pos (by omega)]
      · rw [if_pos (by omega), if_neg (by omega), show 64 * nBlk n - 1 - (64 * j + i) = N - 8 + 8 - 1 - i by omega]
        congr 1
def outN (s : S8) (i : Nat) : Array Value := cf 32 (fun k => .int .u8 (if k < 4 * i then outB s k else 0))
theorem outN_step (s : S8) (i : Nat) (hi : i < 8) : putN (outN s i) (4 * i) 4 (s.at i).toNat 4 = outN s (i + 1) := by
  unfold outN
  rw [putN_cf 32 _ (4 * i) 4 _ 4 (Nat.le_refl _)]
  apply cf_congr
  intro k hk
  by_cases h : k < 4 * i
  · rw [if_neg (by omega), if_pos h, if_pos (by omega)]
  · by_cases h2 : k < 4 * i + 4
    · rw [if_pos (by omega), if_pos (by omega)]
      unfold outB
      rw [show k / 4 = i by omega, show 24 - 8 * (k % 4) = 8 * (4 * i + 4 - 1 - k) by omega]
    · rw [if_neg (by omega), if_neg h, if_neg (by omega)]
theorem outN_8 (s : S8) : outN s 8 = dg (outB s) := by
  rw [← dg_cf]
  unfold outN
  apply cf_congr
  intro k hk
  rw [if_pos (by omega)]
theorem pad_raw (n : Nat) (m : Nat → Int) (i : Nat) (h : i < n) : padF n m i = m i := by unfold padF; rw [if_pos h]
set_option maxHeartbeats 1600000 in
/-- chartroom/digest.Sum -/
theorem digest_Sum (n : Nat) (m : Nat → Int) (bb off c t t2 t3 : Nat) (fr fr2 fr3 : Nat × Nat) (cs : Array Value) (hc : n ≤ c) (hn : n < 1152921504606846976) (w : World) (hbb : w.heap[bb]? = some (.cells cs t fr)) (hoff : off + n ≤ cs.size) (hm : ∀ i, i < n → cs[off + i]? = some (.int .u8 (m i))) (hg2 : w.heap[0]? = some (.cells S8.init.cells t2 fr2)) (hg : w.heap[1]? = some (.cells (cf 64 (fun i => u32 (kk i))) t3 fr3)) :
    Calls Tryz.prog 42 #[.slice (some ⟨bb, off, none⟩) n c] w (Ret w (.agg (dg (sha n m)))) := by
  have hbbl := (Array.getElem?_eq_some_iff.1 hbb).1
  have hg2l := (Array.getElem?_eq_some_iff.1 hg2).1
  have hgl := (Array.getElem?_eq_some_iff.1 hg).1
  refine enter (vs := [_]) Tryz.func42 rfl Tryz.ntmps42 rfl ?_
  refine CJ.seq ?_
  refine CJ.region ?_
  refine allW Tryz.zeroValue26 rfl rfl ?_
  intro b2 ha2 ho2
  simp only [Above] at ha2
  try simp only [Off, book, List.cons_append, List.nil_append, List.set_cons_zero, List.set_cons_succ, ne_eq] at ho2
  refine OJ.done ?_
  refine PJ.next ?_
  refine CJ.seq ?_
  refine CJ.region ?_
  refine rv rfl rfl rfl (ldRAw_r Tryz.isAgg151 Tryz.sizeOf151 rfl (.head _) hg2 (fun h => h) (by simp only [Off, List.set_cons_zero, List.set_cons_succ, ne_eq, and_true]; omega) rfl) ?_
  refine allW Tryz.zeroValue152 rfl rfl ?_
  intro b3 ha3 ho3
  simp only [Above] at ha3
  try simp only [Off, book, List.cons_append, List.nil_append, List.set_cons_zero, List.set_cons_succ, ne_eq] at ho3
  refine stWw (i := 0) rfl Tryz.sizeOf152 rfl rfl rfl rfl rfl rfl ?_
  refine OJ.done ?_
  refine PJ.next ?_
  refine CJ.seq ?_
  refine CJ.region ?_
  refine rv rfl rfl rfl (mkFF_r rfl rfl) ?_
  refine rv rfl rfl rfl (asg_r rfl) ?_
  refine OJ.done ?_
  refine PJ.next ?_
  refine CJ.seq ?_
  refine CJ.region ?_
  refine rv rfl rfl rfl (mv_r rfl) ?_
  refine rv rfl rfl rfl (asg_r rfl) ?_
  refine OJ.done ?_
  refine PJ.next ?_
  refine CJ.seq ?_
  refine CJ.block ?_
  refine CJ.loop (α := Nat × Nat) (fun p => [(0, .slice (some ⟨bb, off, none⟩) n c), (2, ptr b2 0), (3, ptr b3 0), (4, .func (.func 91) #[ptr b3 0] #[]), (5, .slice (some ⟨bb, p.2, none⟩) (n - 64 * p.1) (c - 64 * p.1))]) (fun p => [(b3, .cells (stN n m p.1).cells 152 (0, 0)), (b2, .cells #[.int .u8 0, .int .u8 0, .int .u8 0, .int .u8 0, .int .u8 0, .int .u8 0, .int .u8 0, .int .u8 0, .int .u8 0, .int .u8 0, .int .u8 0, .int .u8 0, .int .u8 0, .int .u8 0, .int .u8 0, .int .u8 0, .int .u8 0, .int .u8 0, .int .u8 0, .int .u8 0, .int .u8 0, .int .u8 0, .int .u8 0, .int .u8 0, .int .u8 0, .int .u8 0, .int .u8 0, .int .u8 0, .int .u8 0, .int .u8 0, .int .u8 0, .int .u8 0] 26 (0, 0))]) (fun p => [w]) (fun p => Gh.no) (fun p => 64 * p.1 ≤ n ∧ (64 * p.1 < c → p.2 = off + 64 * p.1) ∧ p.2 ≤ off + 64 * p.1) (fun p => n - 64 * p.1) (0, off) (by dsimp only; omega) ⟨rfl, rfl, rfl, rfl, rfl, trivial⟩ rfl rfl (by simp) ?_
  rintro ⟨j, o⟩ ⟨hj, ho, ho1⟩
  dsimp only at hj ho ho1 ⊢
  refine CJ.seq ?_
  refine CJ.seq ?_
  refine CJ.region ?_
  refine rv rfl rfl rfl (mv_r rfl) ?_
  refine rv rfl rfl rfl (lenS_r Tryz.underlying53 rfl) ?_
  refine rv rfl rfl rfl (geq_r rfl rfl) ?_
  refine OJ.done ?_
  refine PJ.next ?_
  refine CJ.cond rfl (fun hc1 => ?_) (fun hc1 => ?_)
  · try simp only [decide_eq_true_eq, decide_eq_false_iff_not, Bool.not_eq_true', Bool.not_eq_false'] at hc1
    refine CJ.skip ?_
    refine PJ.next ?_
    refine CJ.seq ?_
    refine CJ.block ?_
    refine CJ.region ?_
    refine rv rfl rfl rfl (mv_r rfl) ?_
    refine rv rfl rfl rfl (mv_r rfl) ?_
    refine rv rfl rfl rfl (slS0_r (h := 64) Tryz.underlying53 Tryz.sizeOf5 rfl ⟨_, _, rfl, rfl⟩ (by omega)) ?_
    refine callCM (f := 91) (i := 0) (first := [ptr b3 0]) (cap := []) rfl rfl Tryz.call91 rfl rfl rfl (fun W hS hW => digest_absorb (stN n m j) (fun i => padF n m (64 * j + i)) b3 bb o 64 (c - 64 * j) t fr fr3 t3 cs (by omega) (by omega) W hW (hS.old (.head _) hbb (fun h => h) (by simp only [Off, List.set_cons_zero, List.set_cons_succ, ne_eq, and_true]; omega)) (fun i hi => by rw [pad_raw n m _ (by omega), ← hm _ (by omega)]; exact congrArg (fun k => cs[k]?) (by have := ho (by omega); omega)) (by omega) (hS.old (.head _) hg (fun h => h) (by simp only [Off, List.set_cons_zero, List.set_cons_succ, ne_eq, and_true]; omega)) (by omega)) ?_
    refine OJ.done ?_
    refine PJ.norBlock ?_
    refine PJ.next ?_
    refine CJ.region ?_
    refine rv rfl rfl rfl (mv_r rfl) ?_
    refine rv rfl rfl rfl (slS_r (l := 64) (h := n - 64 * j) Tryz.underlying53 Tryz.sizeOf5 rfl ⟨_, _, rfl, rfl⟩ rfl (by omega) (by omega) rfl) ?_
    refine rv rfl rfl rfl (asg_r rfl) ?_
    refine OJ.done ?_
    refine PJ.again (j + 1, if c - 64 * j = 64 then o else o + 64 * 1) (by dsimp only; split <;> omega) (by dsimp only; omega) ⟨rfl, rfl, rfl, rfl, by rw [show n - 64 * (j + 1) = n - 64 * j - 64 by omega, show c - 64 * (j + 1) = c - 64 * j - 64 by omega]; rfl, trivial⟩ rfl rfl (by simp)
  · try simp only [decide_eq_true_eq, decide_eq_false_iff_not, Bool.not_eq_true', Bool.not_eq_false'] at hc1
    refine CJ.exit ?_
    refine PJ.exThen ?_
    refine PJ.exThen ?_
    refine PJ.exHit ?_
    refine PJ.next ?_
    refine CJ.seq ?_
    refine CJ.region ?_
    refine mkSW (ln := 64) (cp := 128) Tryz.underlying53 info5 rfl rfl rfl rfl rfl rfl rfl (by omega) (by decide) (by omega) ?_
    intro b21 ha21 ho21
    simp only [Above] at ha21
    try simp only [Off, book, List.cons_append, List.nil_append, List.set_cons_zero, List.set_cons_succ, ne_eq] at ho21
    refine rv rfl rfl rfl (asg_r rfl) ?_
    refine OJ.done ?_
    refine PJ.next ?_
    refine CJ.seq ?_
    have hmr : ∀ i, i < n - 64 * j → cs[o + i]? = some (.int .u8 (m (64 * j + i))) := fun i hi => by rw [← hm _ (by omega)]; exact congrArg (fun k => cs[k]?) (by have := ho (by omega); omega)
    refine CJ.region ?_
    refine rv rfl rfl rfl (mv_r rfl) ?_
    refine rv rfl rfl rfl (mv_r rfl) ?_
    refine cpW (i := 0) (n := n - 64 * j) rfl Tryz.underlying53 Tryz.sizeOf5 rfl rfl rfl rfl (fun _ => rfl) (by omega) (Rd.old (.head _) hbb (fun h => h) (by simp only [Off, List.set_cons_zero, List.set_cons_succ, ne_eq, and_true]; omega) (by omega) rfl) (by rw [take_len (by omega), cf_size]; omega) (ones_of _ (take_at (m := fun i => m (64 * j + i)) (by omega) hmr)) ?_
    refine OJ.done ?_
    refine PJ.next ?_
    refine CJ.seq ?_
    refine CJ.reH (H' := [(b21, .cells (cf 128 (fun i => if 0 ≤ i ∧ i < 0 + (n - 64 * j) then .int .u8 (m (64 * j + i)) else .int .u8 0)) 5 (0, 0)), (b3, .cells (stN n m j).cells 152 (0, 0)), (b2, .cells #[.int .u8 0, .int .u8 0, .int .u8 0, .int .u8 0, .int .u8 0, .int .u8 0, .int .u8 0, .int .u8 0, .int .u8 0, .int .u8 0, .int .u8 0, .int .u8 0, .int .u8 0, .int .u8 0, .int .u8 0, .int .u8 0, .int .u8 0, .int .u8 0, .int .u8 0, .int .u8 0, .int .u8 0, .int .u8 0, .int .u8 0, .int .u8 0, .int .u8 0, .int .u8 0, .int .u8 0, .int .u8 0, .int .u8 0, .int .u8 0, .int .u8 0, .int .u8 0] 26 (0, 0))]) (by rw [← take_len (cs := cs) (o := o) (r := n - 64 * j) (by omega), ← cf_lay 128 (fun i => .int .u8 (m (64 * j + i))) _ _ 0 (by intro i hi; rw [Nat.zero_add]; exact take_at (m := fun i => m (64 * j + i)) (by omega) hmr i hi), take_len (by omega)]; rfl) ?_
    refine CJ.region ?_
    refine rv rfl rfl rfl (mv_r rfl) ?_
    refine rv rfl rfl rfl (mv_r rfl) ?_
    refine rv rfl rfl rfl (lenS_r Tryz.underlying53 rfl) ?_
    refine rv rfl rfl rfl (RV.re (v' := ptr b21 (n - 64 * j)) (idxS_r Tryz.underlying53 Tryz.sizeOf5 rfl rfl (by omega) (by omega)) (congrArg (ptr b21) (by omega))) ?_
    refine stW (i := 0) rfl Tryz.sizeOf5 rfl rfl rfl rfl (by rw [cf_size]; omega) rfl ?_
    refine OJ.done ?_
    refine PJ.next ?_
    refine CJ.seq ?_
    refine CJ.seq ?_
    refine CJ.region ?_
    refine rv rfl rfl rfl (mv_r rfl) ?_
    refine rv rfl rfl rfl (lenS_r Tryz.underlying53 rfl) ?_
    refine rv rfl rfl rfl (gtr_r rfl rfl) ?_
    refine OJ.done ?_
    refine PJ.next ?_
    refine CJ.cond rfl (fun hc2 => ?_) (fun hc2 => ?_)
    · try simp only [decide_eq_true_eq, decide_eq_false_iff_not, Bool.not_eq_true', Bool.not_eq_false'] at hc2
      refine CJ.region ?_
      refine rv rfl rfl rfl (mv_r rfl) ?_
      refine rv rfl rfl rfl (slS0_r (h := 128) Tryz.underlying53 Tryz.sizeOf5 rfl ⟨_, _, rfl, rfl⟩ (by omega)) ?_
      refine rv rfl rfl rfl (asg_r rfl) ?_
      refine OJ.done ?_
      refine PJ.next ?_
      refine CJ.seq ?_
      obtain ⟨N, hN, hNN⟩ : ∃ N, N = 128 ∧ 64 * (nBlk n - j) = N := ⟨128, rfl, by unfold nBlk; omega⟩
      refine CJ.region ?_
      refine rv rfl rfl rfl (mv_r rfl) ?_
      refine rv rfl rfl rfl (mv_r rfl) ?_
      refine rv rfl rfl rfl (lenS_r Tryz.underlying53 rfl) ?_
      refine rv rfl rfl rfl (subI_r rfl rfl (by omega) (by omega)) ?_
      refine rv rfl rfl rfl (slS_r (l := 120) (h := 128) (off' := 120) Tryz.underlying53 Tryz.sizeOf5 rfl ⟨_, _, rfl, rfl⟩ rfl (by omega) (by omega) rfl) ?_
      refine rv rfl rfl rfl (mv_r rfl) ?_
      refine rv rfl rfl rfl (lenS_r Tryz.underlying53 rfl) ?_
      refine rv rfl rfl rfl (cvtU_r Tryz.underlying3 Tryz.underlying148 rfl (by omega) (by omega)) ?_
      refine rv rfl rfl rfl (RV.re (v' := .int .u64 ((8 * n : Nat) : Int)) (mulU_r rfl rfl (by omega) (by omega)) (congrArg (Value.int .u64) (by omega))) ?_
      refine callCM (f := 92) (i := 0) (first := []) (cap := []) rfl rfl Tryz.call92 rfl rfl rfl (fun W hS hW => digest_put (8 * n) b21 _ 8 _ _ _ (by omega) (by rw [size_setCells, cf_size]; omega) W hW) ?_
      refine OJ.reH (H' := [(b21, .cells (cf 128 (endF n m j N)) 5 (0, 0)), (b3, .cells (stN n m j).cells 152 (0, 0)), (b2, .cells #[.int .u8 0, .int .u8 0, .int .u8 0, .int .u8 0, .int .u8 0, .int .u8 0, .int .u8 0, .int .u8 0, .int .u8 0, .int .u8 0, .int .u8 0, .int .u8 0, .int .u8 0, .int .u8 0, .int .u8 0, .int .u8 0, .int .u8 0, .int .u8 0, .int .u8 0, .int .u8 0, .int .u8 0, .int .u8 0, .int .u8 0, .int .u8 0, .int .u8 0, .int .u8 0, .int .u8 0, .int .u8 0, .int .u8 0, .int .u8 0, .int .u8 0, .int .u8 0] 26 (0, 0))]) (by subst hN; rw [← endF_put]; rfl) ?_
      refine OJ.done ?_
      refine PJ.next ?_
      refine CJ.seq ?_
      refine CJ.block ?_
      refine CJ.loop (α := Nat × Nat) (fun p => [(2, ptr b2 0), (3, ptr b3 0), (4, .func (.func 91) #[ptr b3 0] #[]), (6, .slice (some ⟨b21, p.2, none⟩) (N - 64 * p.1) (128 - 64 * p.1))]) (fun p => [(b21, .cells (cf 128 (endF n m j N)) 5 (0, 0)), (b3, .cells (stN n m (j + p.1)).cells 152 (0, 0)), (b2, .cells #[.int .u8 0, .int .u8 0, .int .u8 0, .int .u8 0, .int .u8 0, .int .u8 0, .int .u8 0, .int .u8 0, .int .u8 0, .int .u8 0, .int .u8 0, .int .u8 0, .int .u8 0, .int .u8 0, .int .u8 0, .int .u8 0, .int .u8 0, .int .u8 0, .int .u8 0, .int .u8 0, .int .u8 0, .int .u8 0, .int .u8 0, .int .u8 0, .int .u8 0, .int .u8 0, .int .u8 0, .int .u8 0, .int .u8 0, .int .u8 0, .int .u8 0, .int .u8 0] 26 (0, 0))]) (fun p => [w]) (fun p => Gh.no) (fun p => 64 * p.1 ≤ N ∧ (64 * p.1 < 128 → p.2 = 64 * p.1)) (fun p => N - 64 * p.1) (0, 0) (by dsimp only; omega) ⟨rfl, rfl, rfl, by subst hN; rfl, trivial⟩ rfl rfl (by simp) ?_
      rintro ⟨k, o2⟩ ⟨hk, ho2⟩
      dsimp only at hk ho2 ⊢
      refine CJ.seq ?_
      refine CJ.seq ?_
      refine CJ.region ?_
      refine rv rfl rfl rfl (mv_r rfl) ?_
      refine rv rfl rfl rfl (lenS_r Tryz.underlying53 rfl) ?_
      refine rv rfl rfl rfl (gtr_r rfl rfl) ?_
      refine OJ.done ?_
      refine PJ.next ?_
      refine CJ.cond rfl (fun hc3 => ?_) (fun hc3 => ?_)
      · try simp only [decide_eq_true_eq, decide_eq_false_iff_not, Bool.not_eq_true', Bool.not_eq_false'] at hc3
        refine CJ.skip ?_
        refine PJ.next ?_
        refine CJ.seq ?_
        refine CJ.block ?_
        refine CJ.region ?_
        refine rv rfl rfl rfl (mv_r rfl) ?_
        refine rv rfl rfl rfl (mv_r rfl) ?_
        refine rv rfl rfl rfl (slS0_r (h := 64) Tryz.underlying53 Tryz.sizeOf5 rfl ⟨_, _, rfl, rfl⟩ (by omega)) ?_
        refine callCM (f := 91) (i := 1) (first := [ptr b3 0]) (cap := []) rfl rfl Tryz.call91 rfl rfl rfl (fun W hS hW => digest_absorb (stN n m (j + k)) (fun i => padF n m (64 * (j + k) + i)) b3 b21 o2 64 _ _ _ fr3 t3 (cf 128 (endF n m j N)) (by omega) (by omega) W hW (hS.own _ (.head _)) (fun i hi => by rw [cf_ld 128 _ (64 * k + i) _ (by have := ho2 (by omega); omega) (by omega), endF_pad n m j N _ (by omega) hNN (by omega) (by omega)]; congr 3; omega) (by omega) (hS.old (.head _) hg (fun h => h) (by simp only [Off, List.set_cons_zero, List.set_cons_succ, ne_eq, and_true]; omega)) (by omega)) ?_
        refine OJ.done ?_
        refine PJ.norBlock ?_
        refine PJ.next ?_
        refine CJ.region ?_
        refine rv rfl rfl rfl (mv_r rfl) ?_
        refine rv rfl rfl rfl (slS_r (l := 64) (h := N - 64 * k) Tryz.underlying53 Tryz.sizeOf5 rfl ⟨_, _, rfl, rfl⟩ rfl (by omega) (by omega) rfl) ?_
        refine rv rfl rfl rfl (asg_r rfl) ?_
        refine OJ.done ?_
        refine PJ.again (k + 1, if 128 - 64 * k = 64 then o2 else o2 + 64 * 1) (by dsimp only; split <;> omega) (by dsimp only; omega) ⟨rfl, rfl, rfl, by rw [show N - 64 * (k + 1) = N - 64 * k - 64 by omega, show 128 - 64 * (k + 1) = 128 - 64 * k - 64 by omega]; rfl, trivial⟩ rfl rfl (by simp)
      · try simp only [decide_eq_true_eq, decide_eq_false_iff_not, Bool.not_eq_true', Bool.not_eq_false'] at hc3
        refine CJ.exit ?_
        refine PJ.exThen ?_
        refine PJ.exThen ?_
        refine PJ.exHit ?_
        refine PJ.next ?_
        refine CJ.seq ?_
        refine CJ.seq ?_
        refine CJ.region ?_
        refine rv rfl rfl rfl (ldWAw_r (i := 1) rfl Tryz.isAgg152 Tryz.sizeOf152 rfl rfl) ?_
        refine rv rfl rfl rfl (mv_r rfl) ?_
        refine OJ.done ?_
        refine PJ.next ?_
        refine CJ.block ?_
        have hjk : j + k = nBlk n := by unfold nBlk at *; omega
        rw [hjk]
        refine CJ.loop (α := Nat) (fun i => [(2, ptr b2 0), (53, .agg (stN n m (nBlk n)).cells), (54, .int .i64 (i : Int))]) (fun i => [(b21, .cells (cf 128 (endF n m j N)) 5 (0, 0)), (b3, .cells (stN n m (nBlk n)).cells 152 (0, 0)), (b2, .cells (outN (stN n m (nBlk n)) i) 26 (0, 0))]) (fun i => [w]) (fun i => Gh.no) (fun i => i ≤ 8) (fun i => 8 - i) 0 (by decide) ⟨rfl, rfl, rfl, trivial⟩ rfl rfl (by simp) ?_
        rintro i hi
        refine CJ.seq ?_
        refine CJ.region ?_
        refine rv rfl rfl rfl (lss_r rfl rfl) ?_
        refine OJ.done ?_
        refine PJ.next ?_
        refine CJ.seq ?_
        refine CJ.cond rfl (fun hc4 => ?_) (fun hc4 => ?_)
        · try simp only [decide_eq_true_eq, decide_eq_false_iff_not, Bool.not_eq_true', Bool.not_eq_false'] at hc4
          refine CJ.skip ?_
          refine PJ.next ?_
          refine CJ.seq ?_
          refine CJ.block ?_
          refine CJ.seq ?_
          refine CJ.region ?_
          refine rv rfl rfl rfl (mv_r rfl) ?_
          refine rv rfl rfl rfl (idxV_r Tryz.underlying152 Tryz.isAgg150 Tryz.sizeOf150 rfl rfl (by omega) (by omega) (S8.cells_ld _ i _ (by omega) (by omega))) ?_
          refine rv rfl rfl rfl (asg_r rfl) ?_
          refine rv rfl rfl rfl (asg_r rfl) ?_
          refine OJ.done ?_
          refine PJ.next ?_
          refine CJ.region ?_
          refine rv rfl rfl rfl (mv_r rfl) ?_
          refine rv rfl rfl rfl (mulI_r rfl rfl (by omega) (by omega)) ?_
          refine rv rfl rfl rfl (mv_r rfl) ?_
          refine rv rfl rfl rfl (mulI_r rfl rfl (by omega) (by omega)) ?_
          refine rv rfl rfl rfl (addI_r rfl rfl (by omega) (by omega)) ?_
          refine rv rfl rfl rfl (RV.re (v' := .slice (some ⟨b2, 4 * i, none⟩) 4 (32 - 4 * i)) (slA_r (l := 4 * i) (h := 4 * i + 4) (off' := 4 * i) Tryz.underlying26 Tryz.sizeOf5 rfl ⟨_, _, rfl, by omega⟩ ⟨_, _, rfl, by omega⟩ (by omega) (by omega) (by rw [if_neg (by omega)]; omega)) (by rw [show 4 * i + 4 - 4 * i = 4 by omega])) ?_
          refine rv rfl rfl rfl (mv_r rfl) ?_
          refine rv rfl rfl rfl (cvtU_r Tryz.underlying150 Tryz.underlying148 rfl (by omega) (by omega)) ?_
          refine callCM (f := 92) (i := 2) (first := []) (cap := []) rfl rfl Tryz.call92 rfl rfl rfl (fun W hS hW => digest_put (S8.at (stN n m (nBlk n)) i).toNat b2 (4 * i) _ _ _ _ (by omega) (by rw [outN, cf_size]; omega) W hW) ?_
          refine OJ.done ?_
          refine PJ.norBlock ?_
          refine PJ.next ?_
          refine CJ.region ?_
          refine rv rfl rfl rfl (addI_r rfl rfl (by omega) (by omega)) ?_
          refine rv rfl rfl rfl (mv_r rfl) ?_
          refine OJ.done ?_
          refine PJ.reH (H' := [(b21, .cells (cf 128 (endF n m j N)) 5 (0, 0)), (b3, .cells (stN n m (nBlk n)).cells 152 (0, 0)), (b2, .cells (outN (stN n m (nBlk n)) (i + 1)) 26 (0, 0))]) (by rw [← outN_step _ i (by omega)]; rfl) ?_
          refine PJ.again (i + 1) (by omega) (by omega) ⟨rfl, rfl, rfl, trivial⟩ rfl rfl (by simp)
        · try simp only [decide_eq_true_eq, decide_eq_false_iff_not, Bool.not_eq_true', Bool.not_eq_false'] at hc4
          refine CJ.exit ?_
          refine PJ.exThen ?_
          refine PJ.exThen ?_
          refine PJ.exHit ?_
          refine PJ.next ?_
          refine CJ.seq ?_
          refine CJ.region ?_
          refine rv rfl rfl rfl (ldWAw_r (i := 2) rfl Tryz.isAgg26 Tryz.sizeOf26 rfl (by rw [outN, cf_size])) ?_
          refine stWw (i := 2) rfl Tryz.sizeOf26 rfl rfl rfl (by rw [show (Value.agg (outN (stN n m (nBlk n)) i)).cells = outN (stN n m (nBlk n)) i from rfl, outN, cf_size]) (by rw [outN, cf_size]) rfl ?_
          refine OJ.done ?_
          refine PJ.next ?_
          refine CJ.ret ?_
          have e : i = 8 := by omega
          subst e
          refine PJ.reH (H' := [(b21, .cells (cf 128 (endF n m j N)) 5 (0, 0)), (b3, .cells (stN n m (nBlk n)).cells 152 (0, 0)), (b2, .cells (outN (stN n m (nBlk n)) 8) 26 (0, 0))]) rfl ?_
          refine retO (.inl rfl) Tryz.results42 (RS.wA (i := 2) rfl Tryz.isAgg26 Tryz.sizeOf26 rfl (by rw [outN, cf_size]; omega) RS.n) (.head _) (by simp only [Over, List.set_cons_zero, List.set_cons_succ, and_true]; omega) ?_
          show Value.agg (cut (outN (stN n m (nBlk n)) 8) 0 32) = _
          rw [cut_all _ 32 (by rw [outN, cf_size]), outN_8]; rfl
    · try simp only [decide_eq_true_eq, decide_eq_false_iff_not, Bool.not_eq_true', Bool.not_eq_false'] at hc2
      refine CJ.skip ?_
      refine PJ.next ?_
      refine CJ.seq ?_
      obtain ⟨N, hN, hNN⟩ : ∃ N, N = 64 ∧ 64 * (nBlk n - j) = N := ⟨64, rfl, by unfold nBlk; omega⟩
      refine CJ.region ?_
      refine rv rfl rfl rfl (mv_r rfl) ?_
      refine rv rfl rfl rfl (mv_r rfl) ?_
      refine rv rfl rfl rfl (lenS_r Tryz.underlying53 rfl) ?_
      refine rv rfl rfl rfl (subI_r rfl rfl (by omega) (by omega)) ?_
      refine rv rfl rfl rfl (slS_r (l := 56) (h := 64) (off' := 56) Tryz.underlying53 Tryz.sizeOf5 rfl ⟨_, _, rfl, rfl⟩ rfl (by omega) (by omega) rfl) ?_
      refine rv rfl rfl rfl (mv_r rfl) ?_
      refine rv rfl rfl rfl (lenS_r Tryz.underlying53 rfl) ?_
      refine rv rfl rfl rfl (cvtU_r Tryz.underlying3 Tryz.underlying148 rfl (by omega) (by omega)) ?_
      refine rv rfl rfl rfl (RV.re (v' := .int .u64 ((8 * n : Nat) : Int)) (mulU_r rfl rfl (by omega) (by omega)) (congrArg (Value.int .u64) (by omega))) ?_
      refine callCM (f := 92) (i := 0) (first := []) (cap := []) rfl rfl Tryz.call92 rfl rfl rfl (fun W hS hW => digest_put (8 * n) b21 _ 8 _ _ _ (by omega) (by rw [size_setCells, cf_size]; omega) W hW) ?_
      refine OJ.reH (H' := [(b21, .cells (cf 128 (endF n m j N)) 5 (0, 0)), (b3, .cells (stN n m j).cells 152 (0, 0)), (b2, .cells #[.int .u8 0, .int .u8 0, .int .u8 0, .int .u8 0, .int .u8 0, .int .u8 0, .int .u8 0, .int .u8 0, .int .u8 0, .int .u8 0, .int .u8 0, .int .u8 0, .int .u8 0, .int .u8 0, .int .u8 0, .int .u8 0, .int .u8 0, .int .u8 0, .int .u8 0, .int .u8 0, .int .u8 0, .int .u8 0, .int .u8 0, .int .u8 0, .int .u8 0, .int .u8 0, .int .u8 0, .int .u8 0, .int .u8 0, .int .u8 0, .int .u8 0, .int .u8 0] 26 (0, 0))]) (by subst hN; rw [← endF_put]; rfl) ?_
      refine OJ.done ?_
      refine PJ.next ?_
      refine CJ.seq ?_
      refine CJ.block ?_
      refine CJ.loop (α := Nat × Nat) (fun p => [(2, ptr b2 0), (3, ptr b3 0), (4, .func (.func 91) #[ptr b3 0] #[]), (6, .slice (some ⟨b21, p.2, none⟩) (N - 64 * p.1) (128 - 64 * p.1))]) (fun p => [(b21, .cells (cf 128 (endF n m j N)) 5 (0, 0)), (b3, .cells (stN n m (j + p.1)).cells 152 (0, 0)), (b2, .cells #[.int .u8 0, .int .u8 0, .int .u8 0, .int .u8 0, .int .u8 0, .int .u8 0, .int .u8 0, .int .u8 0, .int .u8 0, .int .u8 0, .int .u8 0, .int .u8 0, .int .u8 0, .int .u8 0, .int .u8 0, .int .u8 0, .int .u8 0, .int .u8 0, .int .u8 0, .int .u8 0, .int .u8 0, .int .u8 0, .int .u8 0, .int .u8 0, .int .u8 0, .int .u8 0, .int .u8 0, .int .u8 0, .int .u8 0, .int .u8 0, .int .u8 0, .int .u8 0] 26 (0, 0))]) (fun p => [w]) (fun p => Gh.no) (fun p => 64 * p.1 ≤ N ∧ (64 * p.1 < 128 → p.2 = 64 * p.1)) (fun p => N - 64 * p.1) (0, 0) (by dsimp only; omega) ⟨rfl, rfl, rfl, by subst hN; rfl, trivial⟩ rfl rfl (by simp) ?_
      rintro ⟨k, o2⟩ ⟨hk, ho2⟩
      dsimp only at hk ho2 ⊢
      refine CJ.seq ?_
      refine CJ.seq ?_
      refine CJ.region ?_
      refine rv rfl rfl rfl (mv_r rfl) ?_
      refine rv rfl rfl rfl (lenS_r Tryz.underlying53 rfl) ?_
      refine rv rfl rfl rfl (gtr_r rfl rfl) ?_
      refine OJ.done ?_
      refine PJ.next ?_
      refine CJ.cond rfl (fun hc5 => ?_) (fun hc5 => ?_)
      · try simp only [decide_eq_true_eq, decide_eq_false_iff_not, Bool.not_eq_true', Bool.not_eq_false'] at hc5
        refine CJ.skip ?_
        refine PJ.next ?_
        refine CJ.seq ?_
        refine CJ.block ?_
        refine CJ.region ?_
        refine rv rfl rfl rfl (mv_r rfl) ?_
        refine rv rfl rfl rfl (mv_r rfl) ?_
        refine rv rfl rfl rfl (slS0_r (h := 64) Tryz.underlying53 Tryz.sizeOf5 rfl ⟨_, _, rfl, rfl⟩ (by omega)) ?_
        refine callCM (f := 91) (i := 1) (first := [ptr b3 0]) (cap := []) rfl rfl Tryz.call91 rfl rfl rfl (fun W hS hW => digest_absorb (stN n m (j + k)) (fun i => padF n m (64 * (j + k) + i)) b3 b21 o2 64 _ _ _ fr3 t3 (cf 128 (endF n m j N)) (by omega) (by omega) W hW (hS.own _ (.head _)) (fun i hi => by rw [cf_ld 128 _ (64 * k + i) _ (by have := ho2 (by omega); omega) (by omega), endF_pad n m j N _ (by omega) hNN (by omega) (by omega)]; congr 3; omega) (by omega) (hS.old (.head _) hg (fun h => h) (by simp only [Off, List.set_cons_zero, List.set_cons_succ, ne_eq, and_true]; omega)) (by omega)) ?_
        refine OJ.done ?_
        refine PJ.norBlock ?_
        refine PJ.next ?_
        refine CJ.region ?_
        refine rv rfl rfl rfl (mv_r rfl) ?_
        refine rv rfl rfl rfl (slS_r (l := 64) (h := N - 64 * k) Tryz.underlying53 Tryz.sizeOf5 rfl ⟨_, _, rfl, rfl⟩ rfl (by omega) (by omega) rfl) ?_
        refine rv rfl rfl rfl (asg_r rfl) ?_
        refine OJ.done ?_
        refine PJ.again (k + 1, if 128 - 64 * k = 64 then o2 else o2 + 64 * 1) (by dsimp only; split <;> omega) (by dsimp only; omega) ⟨rfl, rfl, rfl, by rw [show N - 64 * (k + 1) = N - 64 * k - 64 by omega, show 128 - 64 * (k + 1) = 128 - 64 * k - 64 by omega]; rfl, trivial⟩ rfl rfl (by simp)
      · try simp only [decide_eq_true_eq, decide_eq_false_iff_not, Bool.not_eq_true', Bool.not_eq_false'] at hc5
        refine CJ.exit ?_
        refine PJ.exThen ?_
        refine PJ.exThen ?_
        refine PJ.exHit ?_
        refine PJ.next ?_
        refine CJ.seq ?_
        refine CJ.seq ?_
        refine CJ.region ?_
        refine rv rfl rfl rfl (ldWAw_r (i := 1) rfl Tryz.isAgg152 Tryz.sizeOf152 rfl rfl) ?_
        refine rv rfl rfl rfl (mv_r rfl) ?_
        refine OJ.done ?_
        refine PJ.next ?_
        refine CJ.block ?_
        have hjk : j + k = nBlk n := by unfold nBlk at *; omega
        rw [hjk]
        refine CJ.loop (α := Nat) (fun i => [(2, ptr b2 0), (53, .agg (stN n m (nBlk n)).cells), (54, .int .i64 (i : Int))]) (fun i => [(b21, .cells (cf 128 (endF n m j N)) 5 (0, 0)), (b3, .cells (stN n m (nBlk n)).cells 152 (0, 0)), (b2, .cells (outN (stN n m (nBlk n)) i) 26 (0, 0))]) (fun i => [w]) (fun i => Gh.no) (fun i => i ≤ 8) (fun i => 8 - i) 0 (by decide) ⟨rfl, rfl, rfl, trivial⟩ rfl rfl (by simp) ?_
        rintro i hi
        refine CJ.seq ?_
        refine CJ.region ?_
        refine rv rfl rfl rfl (lss_r rfl rfl) ?_
        refine OJ.done ?_
        refine PJ.next ?_
        refine CJ.seq ?_
        refine CJ.cond rfl (fun hc6 => ?_) (fun hc6 => ?_)
        · try simp only [decide_eq_true_eq, decide_eq_false_iff_not, Bool.not_eq_true', Bool.not_eq_false'] at hc6
          refine CJ.skip ?_
          refine PJ.next ?_
          refine CJ.seq ?_
          refine CJ.block ?_
          refine CJ.seq ?_
          refine CJ.region ?_
          refine rv rfl rfl rfl (mv_r rfl) ?_
          refine rv rfl rfl rfl (idxV_r Tryz.underlying152 Tryz.isAgg150 Tryz.sizeOf150 rfl rfl (by omega) (by omega) (S8.cells_ld _ i _ (by omega) (by omega))) ?_
          refine rv rfl rfl rfl (asg_r rfl) ?_
          refine rv rfl rfl rfl (asg_r rfl) ?_
          refine OJ.done ?_
          refine PJ.next ?_
          refine CJ.region ?_
          refine rv rfl rfl rfl (mv_r rfl) ?_
          refine rv rfl rfl rfl (mulI_r rfl rfl (by omega) (by omega)) ?_
          refine rv rfl rfl rfl (mv_r rfl) ?_
          refine rv rfl rfl rfl (mulI_r rfl rfl (by omega) (by omega)) ?_
          refine rv rfl rfl rfl (addI_r rfl rfl (by omega) (by omega)) ?_
          refine rv rfl rfl rfl (RV.re (v' := .slice (some ⟨b2, 4 * i, none⟩) 4 (32 - 4 * i)) (slA_r (l := 4 * i) (h := 4 * i + 4) (off' := 4 * i) Tryz.underlying26 Tryz.sizeOf5 rfl ⟨_, _, rfl, by omega⟩ ⟨_, _, rfl, by omega⟩ (by omega) (by omega) (by rw [if_neg (by omega)]; omega)) (by rw [show 4 * i + 4 - 4 * i = 4 by omega])) ?_
          refine rv rfl rfl rfl (mv_r rfl) ?_
          refine rv rfl rfl rfl (cvtU_r Tryz.underlying150 Tryz.underlying148 rfl (by omega) (by omega)) ?_
          refine callCM (f := 92) (i := 2) (first := []) (cap := []) rfl rfl Tryz.call92 rfl rfl rfl (fun W hS hW => digest_put (S8.at (stN n m (nBlk n)) i).toNat b2 (4 * i) _ _ _ _ (by omega) (by rw [outN, cf_size]; omega) W hW) ?_
          refine OJ.done ?_
          refine PJ.norBlock ?_
          refine PJ.next ?_
          refine CJ.region ?_
          refine rv rfl rfl rfl (addI_r rfl rfl (by omega) (by omega)) ?_
          refine rv rfl rfl rfl (mv_r rfl) ?_
          refine OJ.done ?_
          refine PJ.reH (H' := [(b21, .cells (cf 128 (endF n m j N)) 5 (0, 0)), (b3, .cells (stN n m (nBlk n)).cells 152 (0, 0)), (b2, .cells (outN (stN n m (nBlk n)) (i + 1)) 26 (0, 0))]) (by rw [← outN_step _ i (by omega)]; rfl) ?_
          refine PJ.again (i + 1) (by omega) (by omega) ⟨rfl, rfl, rfl, trivial⟩ rfl rfl (by simp)
        · try simp only [decide_eq_true_eq, decide_eq_false_iff_not, Bool.not_eq_true', Bool.not_eq_false'] at hc6
          refine CJ.exit ?_
          refine PJ.exThen ?_
          refine PJ.exThen ?_
          refine PJ.exHit ?_
          refine PJ.next ?_
          refine CJ.seq ?_
          refine CJ.region ?_
          refine rv rfl rfl rfl (ldWAw_r (i := 2) rfl Tryz.isAgg26 Tryz.sizeOf26 rfl (by rw [outN, cf_size])) ?_
          refine stWw (i := 2) rfl Tryz.sizeOf26 rfl rfl rfl (by rw [show (Value.agg (outN (stN n m (nBlk n)) i)).cells = outN (stN n m (nBlk n)) i from rfl, outN, cf_size]) (by rw [outN, cf_size]) rfl ?_
          refine OJ.done ?_
          refine PJ.next ?_
          refine CJ.ret ?_
          have e : i = 8 := by omega
          subst e
          refine PJ.reH (H' := [(b21, .cells (cf 128 (endF n m j N)) 5 (0, 0)), (b3, .cells (stN n m (nBlk n)).cells 152 (0, 0)), (b2, .cells (outN (stN n m (nBlk n)) 8) 26 (0, 0))]) rfl ?_
          refine retO (.inl rfl) Tryz.results42 (RS.wA (i := 2) rfl Tryz.isAgg26 Tryz.sizeOf26 rfl (by rw [outN, cf_size]; omega) RS.n) (.head _) (by simp only [Over, List.set_cons_zero, List.set_cons_succ, and_true]; omega) ?_
          show Value.agg (cut (outN (stN n m (nBlk n)) 8) 0 32) = _
          rw [cut_all _ 32 (by rw [outN, cf_size]), outN_8]; rfl
end Px
namespace Px
open Go Go.RowKit Go.Proofs
/-- slices.Grow[[]byte,byte] -/
theorem Grow_nil (n : Nat) (h0 : 0 < n) (h1 : n ≤ 1099511627776) (w : World) :
    Calls Tryz.prog 93 #[.slice none 0 0, .int .i64 (n : Int)] w (RetX w (fun p : Nat × Nat => .slice (some ⟨p.1, 0, none⟩) 0 p.2) (fun p w1 => w.heap.size ≤ p.1 ∧ n ≤ p.2 ∧ w1.heap[p.1]? = some (.cells (cf p.2 (fun _ => .int .u8 0)) 5 (0, 0)))) := by
  
  refine enter (vs := [_, _]) Tryz.func93 rfl Tryz.ntmps93 rfl ?_
  refine CJ.seq ?_
  refine CJ.region ?_
  refine rv rfl rfl rfl (asg_r rfl) ?_
  refine OJ.done ?_
  refine PJ.next ?_
  refine CJ.seq ?_
  refine CJ.seq ?_
  refine CJ.region ?_
  refine rv rfl rfl rfl (mv_r rfl) ?_
  refine rv rfl rfl rfl (RV.re (v' := .bool false) (lss_r rfl rfl) (congrArg Value.bool (decide_eq_false (by omega)))) ?_
  refine OJ.done ?_
  refine PJ.next ?_
  refine CJ.condF rfl ?_
  refine CJ.skip ?_
  refine PJ.next ?_
  refine CJ.seq ?_
  refine CJ.seq ?_
  refine CJ.region ?_
  refine rv rfl rfl rfl (mv_r rfl) ?_
  refine rv rfl rfl rfl (mv_r rfl) ?_
  refine rv rfl rfl rfl (capS_r Tryz.underlying53 rfl) ?_
  refine rv rfl rfl rfl (mv_r rfl) ?_
  refine rv rfl rfl rfl (lenS_r Tryz.underlying53 rfl) ?_
  refine rv rfl rfl rfl (subI_r rfl rfl (by omega) (by omega)) ?_
  refine rv rfl rfl rfl (RV.re (v' := .int .i64 (n : Int)) (subI_r rfl rfl (by omega) (by omega)) (congrArg (Value.int .i64) (by omega))) ?_
  refine rv rfl rfl rfl (asg_r rfl) ?_
  refine OJ.done ?_
  refine PJ.next ?_
  refine CJ.seq ?_
  refine CJ.region ?_
  refine rv rfl rfl rfl (mv_r rfl) ?_
  refine rv rfl rfl rfl (RV.re (v' := .bool true) (gtr_r rfl rfl) (congrArg Value.bool (decide_eq_true (by omega)))) ?_
  refine OJ.done ?_
  refine PJ.next ?_
  refine CJ.condT rfl ?_
  refine CJ.region ?_
  refine rv rfl rfl rfl (mv_r rfl) ?_
  refine rv rfl rfl rfl (mv_r rfl) ?_
  refine rv rfl rfl rfl (capS_r Tryz.underlying53 rfl) ?_
  refine rv rfl rfl rfl (slN_r Tryz.underlying53 Tryz.sizeOf5 rfl ⟨_, _, rfl, rfl⟩) ?_
  refine rv rfl rfl rfl (mv_r rfl) ?_
  refine appZ Tryz.underlying53 Tryz.underlying3 info5 rfl rfl rfl rfl rfl rfl rfl rfl h0 h1 ?_
  intro b22 cap ha22 ho22 hcap
  simp only [Above] at ha22
  refine rv rfl rfl rfl (mv_r rfl) ?_
  refine rv rfl rfl rfl (lenS_r Tryz.underlying53 rfl) ?_
  refine rv rfl rfl rfl (slS0_r (h := 0) Tryz.underlying53 Tryz.sizeOf5 rfl ⟨_, _, rfl, rfl⟩ (by omega)) ?_
  refine rv rfl rfl rfl (asg_r rfl) ?_
  refine OJ.done ?_
  refine PJ.next ?_
  refine CJ.seq ?_
  refine CJ.region ?_
  refine rv rfl rfl rfl (mv_r rfl) ?_
  refine rv rfl rfl rfl (asg_r rfl) ?_
  refine OJ.done ?_
  refine PJ.next ?_
  refine CJ.ret ?_
  exact retG (.inl rfl) Tryz.results93 (RS.t rfl RS.n) (fun W hS => ⟨(b22, cap), rfl, hS.base (.head _) (by simp only [Over, and_true]; omega), by omega, by omega, hS.own _ (.head _)⟩)
def segVals (ss : List Seg) : Array Value := (ss.map Seg.val).toArray
theorem segVals_at (ss : List Seg) (j k : Nat) (h : k = j) (hj : j < ss.length) : (segVals ss)[k]? = some ss[j].val := by subst h; simp [segVals, hj]
/-- slices.Concat[[]byte,byte] -/
theorem Concat_bytes (ss : List Seg) (b0 c0 t0 : Nat) (fr0 : Nat × Nat) (hk : ss.length < 1000) (h0 : 0 < (segsL ss).length) (h1 : (segsL ss).length ≤ 1099511627776) (w : World) (hb0 : w.heap[b0]? = some (.cells (segVals ss) t0 fr0)) (hss : ∀ s ∈ ss, s.At w) :
    Calls Tryz.prog 43 #[.slice (some ⟨b0, 0, none⟩) ss.length c0] w (RetX w (fun p : Nat × Nat × List Value => .slice (some ⟨p.1, 0, none⟩) (segsL ss).length p.2.1) (fun p w1 => w.heap.size ≤ p.1 ∧ ((segsL ss).length ≤ p.2.1 ∧ p.2.2.length = p.2.1 - (segsL ss).length) ∧ w1.heap[p.1]? = some (.cells (segsL ss ++ p.2.2).toArray 5 (0, 0)))) := by
  have hb0l := (Array.getElem?_eq_some_iff.1 hb0).1
  refine enter (vs := [_]) Tryz.func43 rfl Tryz.ntmps43 rfl ?_
  refine CJ.seq ?_
  refine CJ.region ?_
  refine rv rfl rfl rfl (asg_r rfl) ?_
  refine OJ.done ?_
  refine PJ.next ?_
  refine CJ.seq ?_
  refine CJ.region ?_
  refine rv rfl rfl rfl (asg_r rfl) ?_
  refine OJ.done ?_
  refine PJ.next ?_
  refine CJ.seq ?_
  refine CJ.seq ?_
  refine CJ.region ?_
  refine rv rfl rfl rfl (mv_r rfl) ?_
  refine rv rfl rfl rfl (lenS_r Tryz.underlying155 rfl) ?_
  refine rv rfl rfl rfl (mv_r rfl) ?_
  refine OJ.done ?_
  refine PJ.next ?_
  refine CJ.block ?_
  refine CJ.loop (α := Nat) (fun j => [(0, .slice (some ⟨b0, 0, none⟩) ss.length c0), (3, .int .i64 (((segsL (ss.take j)).length : Nat) : Int)), (9, .slice (some ⟨b0, 0, none⟩) ss.length c0), (10, .int .i64 (ss.length : Int)), (11, .int .i64 (j : Int))]) (fun j => []) (fun j => [w]) (fun j => Gh.no) (fun j => j ≤ ss.length) (fun j => ss.length - j) 0 (Nat.zero_le _) ⟨rfl, rfl, rfl, rfl, rfl, trivial⟩ rfl rfl (by simp) ?_
  rintro j hj
  have hl1 := segsL_take_le ss (j + 1)
  have hlj : ∀ h : j < ss.length, (segsL (ss.take (j + 1))).length = (segsL (ss.take j)).length + (ss[j]).n := fun h => by rw [segsL_take ss j h, List.length_append]; exact congrArg (_ + ·) (byts_len _ _)
  refine CJ.seq ?_
  refine CJ.region ?_
  refine rv rfl rfl rfl (lss_r rfl rfl) ?_
  refine OJ.done ?_
  refine PJ.next ?_
  refine CJ.seq ?_
  refine CJ.cond rfl (fun hc1 => ?_) (fun hc1 => ?_)
  · try simp only [decide_eq_true_eq, decide_eq_false_iff_not, Bool.not_eq_true', Bool.not_eq_false'] at hc1
    refine CJ.skip ?_
    refine PJ.next ?_
    refine CJ.seq ?_
    refine CJ.block ?_
    refine CJ.seq ?_
    have hjl : j < ss.length := by omega
    have hlj2 := hlj hjl
    refine CJ.region ?_
    refine rv rfl rfl rfl (idxS_r Tryz.underlying155 Tryz.sizeOf53 rfl rfl (by omega) (by omega)) ?_
    refine rv rfl rfl rfl (ldR_r (v := (ss[j]'(by omega)).val) Tryz.isAgg53 rfl (.head _) hb0 (fun h => h) trivial (segVals_at ss j _ (by omega) (by omega))) ?_
    refine rv rfl rfl rfl (asg_r rfl) ?_
    refine OJ.done ?_
    refine PJ.next ?_
    refine CJ.seq ?_
    refine CJ.region ?_
    refine rv rfl rfl rfl (mv_r rfl) ?_
    refine rv rfl rfl rfl (mv_r rfl) ?_
    refine rv rfl rfl rfl (lenS_r Tryz.underlying53 rfl) ?_
    refine rv rfl rfl rfl (RV.re (v' := .int .i64 (((segsL (ss.take (j + 1))).length : Nat) : Int)) (addI_r rfl rfl (by omega) (by omega)) (congrArg (Value.int .i64) (by omega))) ?_
    refine rv rfl rfl rfl (asg_r rfl) ?_
    refine OJ.done ?_
    refine PJ.next ?_
    refine CJ.seq ?_
    refine CJ.region ?_
    refine rv rfl rfl rfl (mv_r rfl) ?_
    refine rv rfl rfl rfl (RV.re (v' := .bool false) (lss_r rfl rfl) (congrArg Value.bool (decide_eq_false (by omega)))) ?_
    refine OJ.done ?_
    refine PJ.next ?_
    refine CJ.condF rfl ?_
    refine CJ.skip ?_
    refine PJ.norBlock ?_
    refine PJ.next ?_
    refine CJ.region ?_
    refine rv rfl rfl rfl (addI_r rfl rfl (by omega) (by omega)) ?_
    refine rv rfl rfl rfl (mv_r rfl) ?_
    refine OJ.done ?_
    refine PJ.again (j + 1) (by omega) (by omega) ⟨rfl, rfl, rfl, rfl, rfl, trivial⟩ rfl rfl (by simp)
  · try simp only [decide_eq_true_eq, decide_eq_false_iff_not, Bool.not_eq_true', Bool.not_eq_false'] at hc1
    refine CJ.exit ?_
    refine PJ.exThen ?_
    refine PJ.exThen ?_
    refine PJ.exHit ?_
    refine PJ.next ?_
    refine CJ.seq ?_
    have e : j = ss.length := by omega
    subst e
    rw [List.take_of_length_le (Nat.le_refl _)]
    refine CJ.region ?_
    refine rv rfl rfl rfl (mv_r rfl) ?_
    refine callXA (bo := fun p : Nat × Nat => (p.1, .cells (cf p.2 (fun _ => .int .u8 0)) 5 (0, 0))) (Φ := fun p => (segsL ss).length ≤ p.2) Tryz.call93 rfl rfl rfl (fun W hS => Grow_nil _ h0 h1 W) ?_
    rintro ⟨bg, cg⟩ hag hog hcg
    simp only [Above] at hag hcg
    refine rv rfl rfl rfl (asg_r rfl) ?_
    refine OJ.done ?_
    refine PJ.next ?_
    refine CJ.seq ?_
    refine CJ.seq ?_
    refine CJ.region ?_
    refine rv rfl rfl rfl (mv_r rfl) ?_
    refine rv rfl rfl rfl (lenS_r Tryz.underlying155 rfl) ?_
    refine rv rfl rfl rfl (mv_r rfl) ?_
    refine OJ.done ?_
    refine PJ.next ?_
    refine CJ.block ?_
    refine CJ.loop (α := Nat × Nat × Nat × List Value) (fun p => [(6, .slice (some ⟨p.2.1, 0, none⟩) (segsL (ss.take p.1)).length p.2.2.1), (25, .slice (some ⟨b0, 0, none⟩) ss.length c0), (26, .int .i64 (ss.length : Int)), (27, .int .i64 (p.1 : Int))]) (fun p => [(p.2.1, .cells (segsL (ss.take p.1) ++ p.2.2.2).toArray 5 (0, 0))]) (fun p => [w]) (fun p => Gh.no) (fun p => p.1 ≤ ss.length ∧ w.heap.size ≤ p.2.1 ∧ (segsL (ss.take p.1)).length ≤ p.2.2.1 ∧ p.2.2.2.length = p.2.2.1 - (segsL (ss.take p.1)).length) (fun p => ss.length - p.1) (0, bg, cg, (List.range cg).map (fun _ => .int .u8 0)) ⟨Nat.zero_le _, hag.1, Nat.zero_le _, by simp [segsL]⟩ ⟨rfl, rfl, rfl, rfl, trivial⟩ rfl rfl (by simp) ?_
    rintro ⟨j, b, cap, sp⟩ ⟨hj, h2, h3, h4⟩
    dsimp only at hj h2 h3 h4 ⊢
    have hl1 := segsL_take_le ss (j + 1)
    have hlj : ∀ h : j < ss.length, (segsL (ss.take (j + 1))).length = (segsL (ss.take j)).length + (ss[j]).n := fun h => by rw [segsL_take ss j h, List.length_append]; exact congrArg (_ + ·) (byts_len _ _)
    refine CJ.seq ?_
    refine CJ.region ?_
    refine rv rfl rfl rfl (lss_r rfl rfl) ?_
    refine OJ.done ?_
    refine PJ.next ?_
    refine CJ.seq ?_
    refine CJ.cond rfl (fun hc2 => ?_) (fun hc2 => ?_)
    · try simp only [decide_eq_true_eq, decide_eq_false_iff_not, Bool.not_eq_true', Bool.not_eq_false'] at hc2
      refine CJ.skip ?_
      refine PJ.next ?_
      refine CJ.seq ?_
      refine CJ.block ?_
      refine CJ.seq ?_
      have hjl : j < ss.length := by omega
      have hlj2 := hlj hjl
      refine CJ.region ?_
      refine rv rfl rfl rfl (idxS_r Tryz.underlying155 Tryz.sizeOf53 rfl rfl (by omega) (by omega)) ?_
      refine rv rfl rfl rfl (ldR_r (v := (ss[j]'(by omega)).val) Tryz.isAgg53 rfl (.head _) hb0 (fun h => h) (by simp only [Off, List.set_cons_zero, List.set_cons_succ, ne_eq, and_true]; omega) (segVals_at ss j _ (by omega) (by omega))) ?_
      refine rv rfl rfl rfl (asg_r rfl) ?_
      refine OJ.done ?_
      refine PJ.next ?_
      obtain ⟨csj, tj, frj, hsb, hso, hsm⟩ := hss (ss[j]'(by omega)) (List.getElem_mem _)
      have hsbl := (Array.getElem?_eq_some_iff.1 hsb).1
      refine CJ.region ?_
      refine rv rfl rfl rfl (mv_r rfl) ?_
      refine rv rfl rfl rfl (mv_r rfl) ?_
      refine appW (i := 0) (m := 1) (ys := segsL (ss.take j)) (sp := sp) (news := (ss[j]'(by omega)).l) (n := (ss[j]'(by omega)).n) rfl Tryz.underlying53 info5 rfl rfl rfl rfl rfl rfl rfl (SrcJ.sl Tryz.underlying53 (Rd.old (.head _) hsb (fun h => h) (by simp only [Off, List.set_cons_zero, List.set_cons_succ, ne_eq, and_true]; omega) (by omega) (byts_of (by omega) hsm)) (by rw [Nat.mul_one]; exact byts_len _ _) (byts_one _ _)) (by omega) (by omega) h3 ⟨h2, trivial⟩ (by omega) (by show _ * 1 ≤ _; omega) ?_
      intro b' cap' sp' hab' hcap' hsp'
      simp only [Above] at hab'
      refine rv rfl rfl rfl (asg_r rfl) ?_
      refine OJ.done ?_
      refine PJ.norBlock ?_
      refine PJ.next ?_
      refine CJ.region ?_
      refine rv rfl rfl rfl (addI_r rfl rfl (by omega) (by omega)) ?_
      refine rv rfl rfl rfl (mv_r rfl) ?_
      refine OJ.done ?_
      refine PJ.reH (H' := [(b', .cells (segsL (ss.take (j + 1)) ++ sp').toArray 5 (0, 0))]) (by rw [segsL_take ss j (by omega)]; rfl) ?_
      refine PJ.again (j + 1, b', cap', sp') ⟨by dsimp only; omega, hab'.1, by dsimp only; rw [hlj (by omega)]; exact hcap', by dsimp only; rw [hlj (by omega)]; omega⟩ (by dsimp only; omega) ⟨by rw [hlj (by omega)]; rfl, rfl, rfl, rfl, trivial⟩ rfl rfl (by simp)
    · try simp only [decide_eq_true_eq, decide_eq_false_iff_not, Bool.not_eq_true', Bool.not_eq_false'] at hc2
      refine CJ.exit ?_
      refine PJ.exThen ?_
      refine PJ.exThen ?_
      refine PJ.exHit ?_
      refine PJ.next ?_
      refine CJ.seq ?_
      refine CJ.region ?_
      refine rv rfl rfl rfl (mv_r rfl) ?_
      refine rv rfl rfl rfl (asg_r rfl) ?_
      refine OJ.done ?_
      refine PJ.next ?_
      refine CJ.ret ?_
      have e : j = ss.length := by omega
      subst e
      rw [List.take_of_length_le (Nat.le_refl _)] at h3 h4 ⊢
      exact retG (.inl rfl) Tryz.results43 (RS.t rfl RS.n) (fun W hS => ⟨(b, cap, sp), rfl, hS.base (.head _) (by simp only [Over, and_true]; omega), h2, ⟨h3, h4⟩, hS.own _ (.head _)⟩)
/-- the bytes of two rows -/
def cat2 (n : Nat) (m m' : Nat → Int) (i : Nat) : Int := if i < n then m i else m' (i - n)
theorem cat2_byts (n n' : Nat) (m m' : Nat → Int) : byts n m ++ byts n' m' = byts (n + n') (cat2 n m m') := by
  apply List.ext_getElem?
  intro i
  by_cases h : i < n
  · rw [List.getElem?_append_left (by rw [byts_len]; exact h)]
    simp [byts, h, show i < n + n' by omega, cat2]
  · rw [List.getElem?_append_right (by rw [byts_len]; omega), byts_len]
    by_cases h2 : i < n + n'
    · simp [byts, h2, show i - n < n' by omega, cat2, h]
    · rw [List.getElem?_eq_none (by rw [byts_len]; omega), List.getElem?_eq_none (by rw [byts_len]; omega)]
theorem byts_at (n : Nat) (m : Nat → Int) (sp : List Value) (i : Nat) (h : i < n) : ((byts n m ++ sp).toArray)[0 + i]? = some (.int .u8 (m i)) := by
  rw [Nat.zero_add, List.getElem?_toArray, List.getElem?_append_left (by rw [byts_len]; exact h)]
  simp [byts, h]
/-- a hash under a tag -/
def tagged (s : ByteArray) (n : Nat) (m : Nat → Int) : Nat → Int := sha (32 + n) (cat2 32 (sha s.size (sB s)) m)
set_option maxHeartbeats 400000 in
/-- chartroom/digest.Tagged -/
theorem digest_Tagged (s : ByteArray) (n : Nat) (m : Nat → Int) (bb off c t t2 t3 : Nat) (fr fr2 fr3 : Nat × Nat) (cs : Array Value) (hs0 : s.size < 1000) (hc : n ≤ c) (hn : n < 1000000000000) (w : World) (hbb : w.heap[bb]? = some (.cells cs t fr)) (hoff : off + n ≤ cs.size) (hm : ∀ i, i < n → cs[off + i]? = some (.int .u8 (m i))) (hg2 : w.heap[0]? = some (.cells S8.init.cells t2 fr2)) (hg : w.heap[1]? = some (.cells (cf 64 (fun i => u32 (kk i))) t3 fr3)) :
    Calls Tryz.prog 19 #[.string s, .slice (some ⟨bb, off, none⟩) n c] w (Ret w (.agg (dg (tagged s n m)))) := by
  have hbbl := (Array.getElem?_eq_some_iff.1 hbb).1
  have hg2l := (Array.getElem?_eq_some_iff.1 hg2).1
  have hgl := (Array.getElem?_eq_some_iff.1 hg).1
  refine enter (vs := [_, _]) Tryz.func19 rfl Tryz.ntmps19 rfl ?_
  refine CJ.seq ?_
  refine CJ.region ?_
  refine allW Tryz.zeroValue26 rfl rfl ?_
  intro b4 ha4 ho4
  simp only [Above] at ha4
  try simp only [Off, book, List.cons_append, List.nil_append, List.set_cons_zero, List.set_cons_succ, ne_eq] at ho4
  refine OJ.done ?_
  refine PJ.next ?_
  refine CJ.seq ?_
  refine CJ.region ?_
  refine rv rfl rfl rfl (mv_r rfl) ?_
  refine cvtSB Tryz.underlying9 Tryz.underlying53 Tryz.underlying5 rfl rfl rfl ?_
  intro b7 cap7 w7 cs7 fr7 hb7 ha7 ho7 hm7 hz7 hc7 hz7b hs7
  simp only [Above] at ha7
  try simp only [Off, ne_eq] at ho7
  refine call Tryz.call42 rfl rfl rfl (fun W hS => digest_Sum s.size (sB s) b7 0 cap7 _ _ _ _ _ _ cs7 (by omega) (by omega) W (hS.old (.head _) hb7 hm7 (by simp only [Off, List.set_cons_zero, List.set_cons_succ, ne_eq, and_true]; omega)) (by omega) hs7 (hS.old (.tail _ (.head _)) hg2 (fun h => h) (by simp only [Off, List.set_cons_zero, List.set_cons_succ, ne_eq, and_true]; omega)) (hS.old (.tail _ (.head _)) hg (fun h => h) (by simp only [Off, List.set_cons_zero, List.set_cons_succ, ne_eq, and_true]; omega))) ?_
  refine allW Tryz.zeroValue26 rfl rfl ?_
  intro b5 ha5 ho5
  simp only [Above] at ha5
  try simp only [Off, book, List.cons_append, List.nil_append, List.set_cons_zero, List.set_cons_succ, ne_eq] at ho5
  refine stWw (i := 0) rfl Tryz.sizeOf26 rfl rfl rfl rfl rfl rfl ?_
  refine OJ.done ?_
  refine PJ.next ?_
  refine CJ.seq ?_
  have hsl : (segsL [⟨b5, 0, 32, 32, sha s.size (sB s)⟩, ⟨bb, off, n, c, m⟩]).length = 32 + n := by simp [segsL, Seg.l, byts_len]
  have hsegs : ∀ W, W.heap[b5]? = some (.cells (dg (sha s.size (sB s))) 26 (0, 0)) → W.heap[bb]? = some (.cells cs t fr) → ∀ x ∈ ([⟨b5, 0, 32, 32, sha s.size (sB s)⟩, ⟨bb, off, n, c, m⟩] : List Seg), x.At W := fun W h1 h2 x hx => by
    simp only [List.mem_cons, List.not_mem_nil, or_false] at hx
    rcases hx with rfl | rfl
    · exact ⟨_, _, _, h1, Nat.le_refl 32, fun i hi => by rw [Nat.zero_add]; exact dg_at _ i hi⟩
    · exact ⟨_, _, _, h2, hoff, hm⟩
  refine CJ.region ?_
  refine rv rfl rfl rfl (slA0_r (h := 32) Tryz.underlying26 Tryz.sizeOf5 rfl rfl (by omega)) ?_
  refine rv rfl rfl rfl (mv_r rfl) ?_
  refine bslR Tryz.underlying155 Tryz.sizeOf53 Tryz.zeroValue53 rfl rfl rfl rfl rfl rfl rfl ?_
  intro b11 w11 hb11 ha11 ho11 hm11 hz11
  simp only [Above] at ha11
  try simp only [Off, book, List.cons_append, List.nil_append, List.set_cons_zero, List.set_cons_succ, ne_eq] at ho11
  refine callXA (bo := fun p : Nat × Nat × List Value => (p.1, .cells (segsL [⟨b5, 0, 32, 32, sha s.size (sB s)⟩, ⟨bb, off, n, c, m⟩] ++ p.2.2).toArray 5 (0, 0))) (Φ := fun p => (segsL [⟨b5, 0, 32, 32, sha s.size (sB s)⟩, ⟨bb, off, n, c, m⟩]).length ≤ p.2.1 ∧ p.2.2.length = p.2.1 - (segsL [⟨b5, 0, 32, 32, sha s.size (sB s)⟩, ⟨bb, off, n, c, m⟩]).length) Tryz.call43 rfl rfl rfl (fun W hS => Concat_bytes [⟨b5, 0, 32, 32, sha s.size (sB s)⟩, ⟨bb, off, n, c, m⟩] b11 2 _ _ (by simp) (by rw [hsl]; omega) (by rw [hsl]; omega) W (hS.old (.head _) hb11 hm11 (by simp only [Off, List.set_cons_zero, List.set_cons_succ, ne_eq, and_true]; omega)) (hsegs W (hS.own _ (.head _)) (hS.old (.tail _ (.tail _ (.head _))) hbb (fun h => h) (by simp only [Off, List.set_cons_zero, List.set_cons_succ, ne_eq, and_true]; omega)))) ?_
  rintro ⟨bc, cc, spc⟩ hac hoc ⟨hcc, hspc⟩
  simp only [Above] at hac
  dsimp only at hcc hspc
  rw [hsl] at hcc hspc
  refine OJ.re (v' := .slice (some ⟨bc, 0, none⟩) (32 + n) cc) (by show Value.slice _ (segsL _).length _ = _; rw [hsl]) ?_
  refine OJ.reH (H' := [(bc, .cells (byts (32 + n) (cat2 32 (sha s.size (sB s)) m) ++ spc).toArray 5 (0, 0)), (b5, .cells (dg (sha s.size (sB s))) 26 (0, 0)), (b4, .cells #[.int .u8 0, .int .u8 0, .int .u8 0, .int .u8 0, .int .u8 0, .int .u8 0, .int .u8 0, .int .u8 0, .int .u8 0, .int .u8 0, .int .u8 0, .int .u8 0, .int .u8 0, .int .u8 0, .int .u8 0, .int .u8 0, .int .u8 0, .int .u8 0, .int .u8 0, .int .u8 0, .int .u8 0, .int .u8 0, .int .u8 0, .int .u8 0, .int .u8 0, .int .u8 0, .int .u8 0, .int .u8 0, .int .u8 0, .int .u8 0, .int .u8 0, .int .u8 0] 26 (0, 0))]) (by rw [← cat2_byts]; simp only [segsL, Seg.l, List.append_nil]; rfl) ?_
  refine call Tryz.call42 rfl rfl rfl (fun W hS => digest_Sum (32 + n) (cat2 32 (sha s.size (sB s)) m) bc 0 cc _ _ _ _ _ _ _ (by omega) (by omega) W (hS.own _ (.head _)) (by simp only [List.size_toArray, List.length_append, byts_len]; omega) (fun i hi => byts_at _ _ _ i hi) (hS.old (.tail _ (.tail _ (.head _))) hg2 (fun h => h) (by simp only [Off, List.set_cons_zero, List.set_cons_succ, ne_eq, and_true]; omega)) (hS.old (.tail _ (.tail _ (.head _))) hg (fun h => h) (by simp only [Off, List.set_cons_zero, List.set_cons_succ, ne_eq, and_true]; omega))) ?_
  refine stWw (i := 2) rfl Tryz.sizeOf26 rfl rfl rfl rfl rfl rfl ?_
  refine OJ.done ?_
  refine PJ.next ?_
  refine CJ.ret ?_
  refine retO (.inl rfl) Tryz.results19 (RS.wA (i := 2) rfl Tryz.isAgg26 Tryz.sizeOf26 rfl (Nat.le_of_ble_eq_true rfl) (RS.n)) (.tail _ (.tail _ (.head _))) (by first | (simp only [Over, List.set_cons_zero, List.set_cons_succ, List.eraseIdx_cons_zero, List.eraseIdx_cons_succ, and_true]; omega) | (simp [Over] <;> omega)) ?_
  rfl
end Px
