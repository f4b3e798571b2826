/- Contracts of the package links and of chartroomref40, the first part. No condition beyond those that each theorem states. -/
import Derived.Test.YtcfkhjpgdpeimaaGreatDoorKh
import Derived.Test.YtcfkhjpgdpeimaaGreatDoorProg
set_option linter.unusedSimpArgs false
set_option linter.unusedVariables false
namespace Px
open Go Go.RowKit Go.Proofs
/-- a link's data -/
structure Lk where
  fo : Int
  by_ : Int
  pub : Int
  ver : Int
  exp : Int
  resh : Bool
  par : Nat → Int
  sr : Int
  ss : Int
def lkC (l : Lk) : Array Value := #[.int .i64 l.fo, .int .i64 l.by_, .int .i64 l.pub, .int .i64 l.ver, .int .i64 l.exp, .bool l.resh, .int .u8 (l.par 0), .int .u8 (l.par 1), .int .u8 (l.par 2), .int .u8 (l.par 3), .int .u8 (l.par 4), .int .u8 (l.par 5), .int .u8 (l.par 6), .int .u8 (l.par 7), .int .u8 (l.par 8), .int .u8 (l.par 9), .int .u8 (l.par 10), .int .u8 (l.par 11), .int .u8 (l.par 12), .int .u8 (l.par 13), .int .u8 (l.par 14), .int .u8 (l.par 15), .int .u8 (l.par 16), .int .u8 (l.par 17), .int .u8 (l.par 18), .int .u8 (l.par 19), .int .u8 (l.par 20), .int .u8 (l.par 21), .int .u8 (l.par 22), .int .u8 (l.par 23), .int .u8 (l.par 24), .int .u8 (l.par 25), .int .u8 (l.par 26), .int .u8 (l.par 27), .int .u8 (l.par 28), .int .u8 (l.par 29), .int .u8 (l.par 30), .int .u8 (l.par 31), .int .i64 l.sr, .int .i64 l.ss]
abbrev I64 (n : Int) : Prop := -9223372036854775808 ≤ n ∧ n ≤ 9223372036854775807
structure LkOk (l : Lk) : Prop where
  fo : I64 l.fo
  by_ : I64 l.by_
  pub : I64 l.pub
  ver : I64 l.ver
  exp : I64 l.exp
  par : Byt l.par
  sr : I64 l.sr
  ss : I64 l.ss
/-- plain values, as cells -/
def vCell : V → List Value
  | .int n => [.int .i64 1, .int .i64 n, .string ⟨#[]⟩, .slice none 0 0]
  | .text s => [.int .i64 2, .int .i64 0, .string s, .slice none 0 0]
  | .list _ => []
def isFlat : V → Bool
  | .list _ => false
  | _ => true
def vCells (l : List V) : List Value := l.flatMap vCell
theorem vCell_len (x : V) (h : isFlat x = true) : (vCell x).length = 4 := by cases x <;> simp_all [isFlat, vCell]
theorem vCells_len (l : List V) (h : l.all isFlat = true) : (vCells l).length = l.length * 4 := by
  induction l with
  | nil => rfl
  | cons x l ih =>
    simp only [List.all_cons, Bool.and_eq_true] at h
    simp only [vCells, List.flatMap_cons, List.length_append, List.length_cons] at *
    rw [vCell_len x h.1, ih h.2]; omega
theorem flatVs (N : Nat) (w : World) : ∀ (l : List V), l.all isFlat = true → ∀ (pre sp : List Value), VsAt N w (pre ++ (vCells l ++ sp)).toArray pre.length l
  | [], _, _, _ => by simp only [VsAt]
  | x :: l, h, pre, sp => by
    simp only [List.all_cons, Bool.and_eq_true] at h
    have ih := flatVs N w l h.2 (pre ++ vCell x) sp
    have e : pre ++ vCell x ++ (vCells l ++ sp) = pre ++ (vCells (x :: l) ++ sp) := by simp [vCells]
    rw [e, List.length_append, vCell_len x h.1] at ih
    have hc : cut (pre ++ (vCells (x :: l) ++ sp)).toArray pre.length 4 = (vCell x).toArray := by
      unfold cut
      simp only [vCells, List.flatMap_cons, List.append_assoc]
      rw [List.drop_left' rfl, ← vCell_len x h.1, List.take_left' rfl]
    simp only [VsAt]
    refine ⟨?_, ?_, ih⟩
    · simp only [List.size_toArray, List.length_append, vCells_len (x :: l) (by simp [h.1, h.2]), List.length_cons]; omega
    · rw [hc]
      cases x with
      | int n => simp only [VAt]; rfl
      | text s => simp only [VAt]; rfl
      | list l' => simp [isFlat] at h
theorem flat_at {N b t cap : Nat} {fr : Nat × Nat} {w : World} {l : List V} {sp : List Value} (hl : l.all isFlat = true) (hb : b < N) (hc : l.length ≤ cap) (h : w.heap[b]? = some (.cells (vCells l ++ sp).toArray t fr)) : VAt N w (.list l) (vL (some ⟨b, 0, none⟩) l.length cap) := by
  simp only [VAt]
  exact ⟨_, _, rfl, hc, .inr ⟨b, _, t, fr, rfl, hb, h, by have := flatVs N w l hl [] sp; simpa using this⟩⟩
theorem flat_enc (x : V) (hf : isFlat x = true) (h : x.fine) : x.enc.length ≤ 1000000020 := by
  cases x with
  | int n =>
    simp only [V.fine] at h
    have := num_len10 (zig_lt n h.1 h.2)
    simp only [V.enc, List.length_cons]; omega
  | text s =>
    simp only [V.fine] at h
    have := num_len10 (u := s.size) (by omega)
    have e : s.data.toList.length = s.size := Array.length_toList
    simp only [V.enc, List.length_cons, List.length_append, e]; omega
  | list l => simp [isFlat] at hf
theorem flat_encL (l : List V) (hf : l.all isFlat = true) (h : V.fineL l) : (V.encL l).length ≤ l.length * 1000000020 ∧ V.depthL l = 0 := by
  induction l with
  | nil => simp [V.encL, V.depthL]
  | cons x l ih =>
    simp only [List.all_cons, Bool.and_eq_true] at hf
    simp only [V.fineL] at h
    obtain ⟨h1, h2⟩ := ih hf.2 h.2
    have h3 := flat_enc x hf.1 h.1
    simp only [V.encL, V.depthL, List.length_append, List.length_cons, h2]
    refine ⟨by omega, ?_⟩
    cases x with
    | int n => simp [V.depth]
    | text s => simp [V.depth]
    | list l' => simp [isFlat] at hf
theorem flat_fine (l : List V) (hf : l.all isFlat = true) (h : V.fineL l) (hl : l.length ≤ 100) : (V.list l).fine ∧ (V.list l).depth ≤ 16 ∧ (V.list l).enc.length ≤ 800000000000 := by
  obtain ⟨h1, h2⟩ := flat_encL l hf h
  have h3 := num_len10 (u := l.length) (by omega)
  simp only [V.fine, V.depth, V.enc, List.length_cons, List.length_append, h2]
  exact ⟨⟨by omega, by omega, h⟩, by omega, by omega⟩
abbrev dT (f : Nat → Int) : ByteArray := strOfNums (dgL f)
theorem dT_size (f : Nat → Int) : (dT f).size = 32 := by rw [strOfNums_size]; simp [dgL]
/-- string(d[:]) -/
theorem cvtD_r {C : Cx} {G : Gh} {L : List World} {H : Heap} {E : Env} {x : Operand} {src dst e b t : Nat} {fr : Nat × Nat} {f : Nat → Int} {w1 : World} (hs : C.P.underlying src = some (.slice e)) (he : C.P.underlying e = some (.int .u8)) (hd : C.P.underlying dst = some .string)
    (hx : ev E x = some (.slice (some ⟨b, 0, none⟩) 32 32)) (hm : w1 ∈ L) (hb : w1.heap[b]? = some (.cells (dg f) t fr)) (hG : ¬ G.X b) (hO : Off H b) : RV C G L H E (.convert src dst x) (.string (dT f)) := fun d ty pos aft g a W hF hS => by
  have hW := hS.old hm hb hG hO
  have hr := run_convert_bytes_arg (P := C.P) W src e hs he b 0 32 32 (dgL f) (by simp [dgL]) (fun i hi => by
    rw [cell_at hW, Nat.zero_add, dg_at f i hi]
    simp [dgL, List.getD, List.getElem?_range hi]) dst hd
  simp [execOp, hF.ev hx, hr]
/-- .. a part of a block -/
theorem cvtDo_r {C : Cx} {G : Gh} {L : List World} {H : Heap} {E : Env} {x : Operand} {src dst e b t off : Nat} {fr : Nat × Nat} {cs : Array Value} {f : Nat → Int} {w1 : World} (hs : C.P.underlying src = some (.slice e)) (he : C.P.underlying e = some (.int .u8)) (hd : C.P.underlying dst = some .string)
    (hx : ev E x = some (.slice (some ⟨b, off, none⟩) 32 32)) (hm : w1 ∈ L) (hb : w1.heap[b]? = some (.cells cs t fr)) (hG : ¬ G.X b) (hO : Off H b) (hc : cut cs off 32 = dg f) : RV C G L H E (.convert src dst x) (.string (dT f)) := fun d ty pos aft g a W hF hS => by
  have hW := hS.old hm hb hG hO
  have hr := run_convert_bytes_arg (P := C.P) W src e hs he b off 32 32 (dgL f) (by simp [dgL]) (fun i hi => by
    rw [cell_at hW]
    have h1 := dg_at f i hi
    rw [← hc] at h1
    unfold cut at h1
    rw [List.getElem?_toArray, List.getElem?_take_of_lt hi, List.getElem?_drop, Array.getElem?_toList] at h1
    rw [h1]
    simp [dgL, List.getD, List.getElem?_range hi]) dst hd
  simp [execOp, hF.ev hx, hr]
def cVn (l : Lk) (r : Int) : List V := [.int l.fo, .int l.by_, .int l.pub, .int l.ver, .int l.exp, .int r, .text (dT l.par)]
def cV (l : Lk) : List V := cVn l (if l.resh then 1 else 0)
theorem cV_flat (l : Lk) : (cV l).all isFlat = true := rfl
theorem cV_fine (l : Lk) (h : LkOk l) : V.fineL (cV l) := by
  simp only [cV, cVn, V.fineL, V.fine, dT_size]
  exact ⟨h.fo, h.by_, h.pub, h.ver, h.exp, by split <;> decide, by decide, trivial⟩
def idV (l : Lk) : List V := cV l ++ [.int l.sr, .int l.ss]
theorem idV_fine (l : Lk) (h : LkOk l) : V.fineL (idV l) := by
  simp only [idV, cV, cVn, List.cons_append, List.nil_append, V.fineL, V.fine, dT_size]
  exact ⟨h.fo, h.by_, h.pub, h.ver, h.exp, by split <;> decide, by decide, h.sr, h.ss, trivial⟩
/-- chartroom/links.number -/
theorem links_number (n : Int) (w : World) :
    Calls Tryz.prog 60 #[.int .i64 n] w (Ret w (vI n)) := by
  
  refine enter (vs := [_]) Tryz.func60 rfl Tryz.ntmps60 rfl ?_
  refine CJ.seq ?_
  refine CJ.region ?_
  refine allW Tryz.zeroValue78 rfl rfl ?_
  intro b2 ha2 ho2
  simp only [Above] at ha2
  try simp only [Off, book, List.cons_append, List.nil_append, List.set_cons_zero, List.set_cons_succ, ne_eq] at ho2
  refine OJ.done ?_
  refine PJ.next ?_
  refine CJ.seq ?_
  refine CJ.region ?_
  refine rv (fun _ h => Op.noConfusion h) rfl rfl (mv_r rfl) ?_
  refine rv (fun _ h => Op.noConfusion h) rfl rfl (bldS_r Tryz.underlying78 Tryz.zeroValue78 (PlF.c Tryz.sizeOf3 (PlF.c Tryz.sizeOf3 (PlF.c Tryz.sizeOf9 (PlF.c Tryz.sizeOf75 (PlF.n))))) rfl rfl) ?_
  refine stWw (i := 0) rfl Tryz.sizeOf78 rfl rfl rfl rfl rfl rfl ?_
  refine OJ.done ?_
  refine PJ.next ?_
  refine CJ.ret ?_
  refine retO (.inl rfl) Tryz.results60 (RS.wA (i := 0) rfl Tryz.isAgg78 Tryz.sizeOf78 rfl (Nat.le_of_ble_eq_true rfl) (RS.n)) (.head _) (by first | (simp only [Over, List.set_cons_zero, List.set_cons_succ, List.eraseIdx_cons_zero, List.eraseIdx_cons_succ, and_true]; omega) | (simp [Over] <;> omega)) ?_
  rfl

/-- chartroom/chartroomref01.Int -/
theorem r01_Int (n : Int) (w : World) :
    Calls Tryz.prog 31 #[.int .i64 n] w (Ret w (vI n)) := by
  
  refine enter (vs := [_]) Tryz.func31 rfl Tryz.ntmps31 rfl ?_
  refine CJ.seq ?_
  refine CJ.region ?_
  refine allW Tryz.zeroValue78 rfl rfl ?_
  intro b2 ha2 ho2
  simp only [Above] at ha2
  try simp only [Off, book, List.cons_append, List.nil_append, List.set_cons_zero, List.set_cons_succ, ne_eq] at ho2
  refine OJ.done ?_
  refine PJ.next ?_
  refine CJ.seq ?_
  refine CJ.region ?_
  refine rv (fun _ h => Op.noConfusion h) rfl rfl (mv_r rfl) ?_
  refine rv (fun _ h => Op.noConfusion h) rfl rfl (bldS_r Tryz.underlying78 Tryz.zeroValue78 (PlF.c Tryz.sizeOf3 (PlF.c Tryz.sizeOf3 (PlF.c Tryz.sizeOf9 (PlF.c Tryz.sizeOf75 (PlF.n))))) rfl rfl) ?_
  refine stWw (i := 0) rfl Tryz.sizeOf78 rfl rfl rfl rfl rfl rfl ?_
  refine OJ.done ?_
  refine PJ.next ?_
  refine CJ.ret ?_
  refine retO (.inl rfl) Tryz.results31 (RS.wA (i := 0) rfl Tryz.isAgg78 Tryz.sizeOf78 rfl (Nat.le_of_ble_eq_true rfl) (RS.n)) (.head _) (by first | (simp only [Over, List.set_cons_zero, List.set_cons_succ, List.eraseIdx_cons_zero, List.eraseIdx_cons_succ, and_true]; omega) | (simp [Over] <;> omega)) ?_
  rfl

/-- chartroom/chartroomref01.Text -/
theorem r01_Text (s : ByteArray) (w : World) :
    Calls Tryz.prog 64 #[.string s] w (Ret w (vT s)) := by
  
  refine enter (vs := [_]) Tryz.func64 rfl Tryz.ntmps64 rfl ?_
  refine CJ.seq ?_
  refine CJ.region ?_
  refine allW Tryz.zeroValue78 rfl rfl ?_
  intro b2 ha2 ho2
  simp only [Above] at ha2
  try simp only [Off, book, List.cons_append, List.nil_append, List.set_cons_zero, List.set_cons_succ, ne_eq] at ho2
  refine OJ.done ?_
  refine PJ.next ?_
  refine CJ.seq ?_
  refine CJ.region ?_
  refine rv (fun _ h => Op.noConfusion h) rfl rfl (mv_r rfl) ?_
  refine rv (fun _ h => Op.noConfusion h) rfl rfl (bldS_r Tryz.underlying78 Tryz.zeroValue78 (PlF.c Tryz.sizeOf3 (PlF.c Tryz.sizeOf3 (PlF.c Tryz.sizeOf9 (PlF.c Tryz.sizeOf75 (PlF.n))))) rfl rfl) ?_
  refine stWw (i := 0) rfl Tryz.sizeOf78 rfl rfl rfl rfl rfl rfl ?_
  refine OJ.done ?_
  refine PJ.next ?_
  refine CJ.ret ?_
  refine retO (.inl rfl) Tryz.results64 (RS.wA (i := 0) rfl Tryz.isAgg78 Tryz.sizeOf78 rfl (Nat.le_of_ble_eq_true rfl) (RS.n)) (.head _) (by first | (simp only [Over, List.set_cons_zero, List.set_cons_succ, List.eraseIdx_cons_zero, List.eraseIdx_cons_succ, and_true]; omega) | (simp [Over] <;> omega)) ?_
  rfl

/-- chartroom/chartroomref01.List -/
theorem r01_List (base : Option Addr) (n c : Nat) (w : World) :
    Calls Tryz.prog 66 #[.slice base n c] w (Ret w (vL base n c)) := by
  
  refine enter (vs := [_]) Tryz.func66 rfl Tryz.ntmps66 rfl ?_
  refine CJ.seq ?_
  refine CJ.region ?_
  refine allW Tryz.zeroValue78 rfl rfl ?_
  intro b2 ha2 ho2
  simp only [Above] at ha2
  try simp only [Off, book, List.cons_append, List.nil_append, List.set_cons_zero, List.set_cons_succ, ne_eq] at ho2
  refine OJ.done ?_
  refine PJ.next ?_
  refine CJ.seq ?_
  refine CJ.region ?_
  refine rv (fun _ h => Op.noConfusion h) rfl rfl (mv_r rfl) ?_
  refine rv (fun _ h => Op.noConfusion h) rfl rfl (bldS_r Tryz.underlying78 Tryz.zeroValue78 (PlF.c Tryz.sizeOf3 (PlF.c Tryz.sizeOf3 (PlF.c Tryz.sizeOf9 (PlF.c Tryz.sizeOf75 (PlF.n))))) rfl rfl) ?_
  refine stWw (i := 0) rfl Tryz.sizeOf78 rfl rfl rfl rfl rfl rfl ?_
  refine OJ.done ?_
  refine PJ.next ?_
  refine CJ.ret ?_
  refine retO (.inl rfl) Tryz.results66 (RS.wA (i := 0) rfl Tryz.isAgg78 Tryz.sizeOf78 rfl (Nat.le_of_ble_eq_true rfl) (RS.n)) (.head _) (by first | (simp only [Over, List.set_cons_zero, List.set_cons_succ, List.eraseIdx_cons_zero, List.eraseIdx_cons_succ, and_true]; omega) | (simp [Over] <;> omega)) ?_
  rfl

/-- chartroom/links.text -/
theorem links_text (f : Nat → Int) (w : World) :
    Calls Tryz.prog 59 #[.agg (dg f)] w (Ret w (vT (dT f))) := by
  
  refine enter (vs := [_]) Tryz.func59 rfl Tryz.ntmps59 rfl ?_
  refine CJ.seq ?_
  refine CJ.region ?_
  refine boxR rfl rfl rfl ?_
  intro b1 w1 hb1 ha1 ho1 hm1 hz1
  simp only [Above] at ha1
  try simp only [Off, book, List.cons_append, List.nil_append, List.set_cons_zero, List.set_cons_succ, ne_eq] at ho1
  refine allW Tryz.zeroValue78 rfl rfl ?_
  intro b2 ha2 ho2
  simp only [Above] at ha2
  try simp only [Off, book, List.cons_append, List.nil_append, List.set_cons_zero, List.set_cons_succ, ne_eq] at ho2
  refine OJ.done ?_
  refine PJ.next ?_
  refine CJ.seq ?_
  refine CJ.region ?_
  refine rv (fun _ h => Op.noConfusion h) rfl rfl (slA0_r (h := 32) Tryz.underlying23 Tryz.sizeOf5 rfl rfl (by omega)) ?_
  refine rv (fun _ h => Op.noConfusion h) rfl rfl (cvtD_r Tryz.underlying55 Tryz.underlying5 Tryz.underlying9 rfl (.head _) hb1 hm1 (by first | (simp only [Off, book, List.cons_append, List.nil_append, List.set_cons_zero, List.set_cons_succ, List.eraseIdx_cons_zero, List.eraseIdx_cons_succ, ne_eq, and_true]; omega) | (simp [Off] <;> omega))) ?_
  refine rv (fun _ h => Op.noConfusion h) rfl rfl (bldS_r Tryz.underlying78 Tryz.zeroValue78 (PlF.c Tryz.sizeOf3 (PlF.c Tryz.sizeOf3 (PlF.c Tryz.sizeOf9 (PlF.c Tryz.sizeOf75 (PlF.n))))) rfl rfl) ?_
  refine stWw (i := 0) rfl Tryz.sizeOf78 rfl rfl rfl rfl rfl rfl ?_
  refine OJ.done ?_
  refine PJ.next ?_
  refine CJ.ret ?_
  refine retO (.inl rfl) Tryz.results59 (RS.wA (i := 0) rfl Tryz.isAgg78 Tryz.sizeOf78 rfl (Nat.le_of_ble_eq_true rfl) (RS.n)) (.tail _ (.head _)) (by first | (simp only [Over, List.set_cons_zero, List.set_cons_succ, List.eraseIdx_cons_zero, List.eraseIdx_cons_succ, and_true]; omega) | (simp [Over] <;> omega)) ?_
  rfl

/-- chartroom/chartroomref40.flag -/
theorem r40_flag (b : Bool) (w : World) :
    Calls Tryz.prog 68 #[.bool b] w (Ret w (.int .i64 (if b then 1 else 0))) := by
  
  refine enter (vs := [_]) Tryz.func68 rfl Tryz.ntmps68 rfl ?_
  refine CJ.seq ?_
  refine CJ.region ?_
  refine rv (fun _ h => Op.noConfusion h) rfl rfl (asg_r rfl) ?_
  refine OJ.done ?_
  refine PJ.next ?_
  refine CJ.seq ?_
  refine CJ.seq ?_
  refine CJ.region ?_
  refine rv (fun _ h => Op.noConfusion h) rfl rfl (mv_r rfl) ?_
  refine OJ.done ?_
  refine PJ.next ?_
  refine CJ.cond rfl (fun hc1 => ?_) (fun hc1 => ?_)
  · try simp only [decide_eq_true_eq, decide_eq_false_iff_not, Bool.not_eq_true', Bool.not_eq_false'] at hc1
    refine CJ.seq ?_
    refine CJ.region ?_
    refine rv (fun _ h => Op.noConfusion h) rfl rfl (asg_r rfl) ?_
    refine OJ.done ?_
    refine PJ.next ?_
    refine CJ.ret ?_
    refine PJ.retThen ?_
    refine retV Tryz.results68 rfl (.head _) ?_
    (simp_all)
  · try simp only [decide_eq_true_eq, decide_eq_false_iff_not, Bool.not_eq_true', Bool.not_eq_false'] at hc1
    refine CJ.skip ?_
    refine PJ.next ?_
    refine CJ.seq ?_
    refine CJ.region ?_
    refine rv (fun _ h => Op.noConfusion h) rfl rfl (asg_r rfl) ?_
    refine OJ.done ?_
    refine PJ.next ?_
    refine CJ.ret ?_
    refine retV Tryz.results68 rfl (.head _) ?_
    (simp_all)

end Px
namespace Px
open Go Go.RowKit Go.Proofs
/-- (chartroom/links.link).contents -/
theorem links_contents (l : Lk) (w : World) :
    Calls Tryz.prog 43 #[.agg (lkC l)] w (RetX w (fun b : Nat => .slice (some ⟨b, 0, none⟩) 7 7) (fun b w1 => w.heap.size ≤ b ∧ w1.heap[b]? = some (.cells (vCells (cV l)).toArray 78 (0, 0)))) := by
  
  refine enter (vs := [_]) Tryz.func43 rfl Tryz.ntmps43 rfl ?_
  refine CJ.seq ?_
  refine CJ.region ?_
  refine boxR rfl rfl rfl ?_
  intro b1 w1 hb1 ha1 ho1 hm1 hz1
  simp only [Above] at ha1
  try simp only [Off, book, List.cons_append, List.nil_append, List.set_cons_zero, List.set_cons_succ, ne_eq] at ho1
  refine rv (fun _ h => Op.noConfusion h) rfl rfl (asg_r rfl) ?_
  refine OJ.done ?_
  refine PJ.next ?_
  refine CJ.seq ?_
  refine CJ.region ?_
  refine rv (fun _ h => Op.noConfusion h) rfl rfl (asg_r rfl) ?_
  refine OJ.done ?_
  refine PJ.next ?_
  refine CJ.seq ?_
  refine CJ.seq ?_
  refine CJ.region ?_
  refine rv (fun _ h => Op.noConfusion h) rfl rfl (fld_r Tryz.underlying64 rfl Tryz.sizeOf27 rfl) ?_
  refine rv (fun _ h => Op.noConfusion h) rfl rfl (fld_r Tryz.underlying27 rfl Tryz.sizeOf4 rfl) ?_
  refine rv (fun _ h => Op.noConfusion h) rfl rfl (ldR_r Tryz.isAgg4 rfl (.head _) hb1 hm1 trivial rfl) ?_
  refine OJ.done ?_
  refine PJ.next ?_
  refine CJ.cond rfl (fun hc1 => ?_) (fun hc1 => ?_)
  · try simp only [decide_eq_true_eq, decide_eq_false_iff_not, Bool.not_eq_true', Bool.not_eq_false'] at hc1
    refine CJ.region ?_
    refine rv (fun _ h => Op.noConfusion h) rfl rfl (asg_r rfl) ?_
    refine OJ.done ?_
    refine PJ.next ?_
    refine CJ.seq ?_
    refine CJ.less (E' := [(0, _), (1, _), (2, _), (3, _), (4, _), (5, _), (6, _)]) ⟨rfl, rfl, rfl, rfl, rfl, rfl, rfl, trivial⟩ ?_
    refine CJ.drwD 25 [.det [] _, .det [0] _, .det [1] _, .det [2] _, .det [] _, .det [4] _, .det [5] _, .det [6] _, .det [] _, .det [8] _, .det [9] _, .det [10] _, .det [] _, .det [12] _, .det [13] _, .det [14] _, .det [] _, .det [16] _, .det [17] _, .det [18] _, .det [] _, .det [20] _, .det [] _, .det [22] _, .det [23] _] (by kernel_rfl) (xc (fun vals => X.val (fun _ h => Op.noConfusion h) rfl (fld_r Tryz.underlying64 rfl Tryz.sizeOf27 rfl) (fun _ _ => rfl)) (xc (fun vals => X.val (fun _ h => Op.noConfusion h) rfl (fld_r Tryz.underlying27 rfl Tryz.sizeOf3 rfl) (fun _ _ => rfl)) (xc (fun vals => X.val (fun _ h => Op.noConfusion h) rfl (ldR_r Tryz.isAgg3 rfl (.head _) hb1 hm1 trivial rfl) (fun _ _ => rfl)) (xc (fun vals => X.callV Tryz.call60 rfl rfl (fun W hS _ => links_number _ W) (fun _ => rfl)) (xc (fun vals => X.val (fun _ h => Op.noConfusion h) rfl (fld_r Tryz.underlying64 rfl Tryz.sizeOf27 rfl) (fun _ _ => rfl)) (xc (fun vals => X.val (fun _ h => Op.noConfusion h) rfl (fld_r Tryz.underlying27 rfl Tryz.sizeOf3 rfl) (fun _ _ => rfl)) (xc (fun vals => X.val (fun _ h => Op.noConfusion h) rfl (ldR_r Tryz.isAgg3 rfl (.head _) hb1 hm1 trivial rfl) (fun _ _ => rfl)) (xc (fun vals => X.callV Tryz.call60 rfl rfl (fun W hS _ => links_number _ W) (fun _ => rfl)) (xc (fun vals => X.val (fun _ h => Op.noConfusion h) rfl (fld_r Tryz.underlying64 rfl Tryz.sizeOf27 rfl) (fun _ _ => rfl)) (xc (fun vals => X.val (fun _ h => Op.noConfusion h) rfl (fld_r Tryz.underlying27 rfl Tryz.sizeOf3 rfl) (fun _ _ => rfl)) (xc (fun vals => X.val (fun _ h => Op.noConfusion h) rfl (ldR_r Tryz.isAgg3 rfl (.head _) hb1 hm1 trivial rfl) (fun _ _ => rfl)) (xc (fun vals => X.callV Tryz.call60 rfl rfl (fun W hS _ => links_number _ W) (fun _ => rfl)) (xc (fun vals => X.val (fun _ h => Op.noConfusion h) rfl (fld_r Tryz.underlying64 rfl Tryz.sizeOf27 rfl) (fun _ _ => rfl)) (xc (fun vals => X.val (fun _ h => Op.noConfusion h) rfl (fld_r Tryz.underlying27 rfl Tryz.sizeOf3 rfl) (fun _ _ => rfl)) (xc (fun vals => X.val (fun _ h => Op.noConfusion h) rfl (ldR_r Tryz.isAgg3 rfl (.head _) hb1 hm1 trivial rfl) (fun _ _ => rfl)) (xc (fun vals => X.callV Tryz.call60 rfl rfl (fun W hS _ => links_number _ W) (fun _ => rfl)) (xc (fun vals => X.val (fun _ h => Op.noConfusion h) rfl (fld_r Tryz.underlying64 rfl Tryz.sizeOf27 rfl) (fun _ _ => rfl)) (xc (fun vals => X.val (fun _ h => Op.noConfusion h) rfl (fld_r Tryz.underlying27 rfl Tryz.sizeOf3 rfl) (fun _ _ => rfl)) (xc (fun vals => X.val (fun _ h => Op.noConfusion h) rfl (ldR_r Tryz.isAgg3 rfl (.head _) hb1 hm1 trivial rfl) (fun _ _ => rfl)) (xc (fun vals => X.callV Tryz.call60 rfl rfl (fun W hS _ => links_number _ W) (fun _ => rfl)) (xc (fun vals => X.val (fun _ h => Op.noConfusion h) rfl (mv_r rfl) (fun _ _ => rfl)) (xc (fun vals => X.callV Tryz.call60 rfl rfl (fun W hS _ => links_number _ W) (fun _ => rfl)) (xc (fun vals => X.val (fun _ h => Op.noConfusion h) rfl (fld_r Tryz.underlying64 rfl Tryz.sizeOf27 rfl) (fun _ _ => rfl)) (xc (fun vals => X.val (fun _ h => Op.noConfusion h) rfl (fld_r Tryz.underlying27 rfl Tryz.sizeOf23 rfl) (fun _ _ => rfl)) (xc (fun vals => X.val (fun _ h => Op.noConfusion h) rfl (ldRA_r Tryz.isAgg23 Tryz.sizeOf23 rfl (.head _) hb1 hm1 trivial (Nat.le_of_ble_eq_true rfl)) (fun _ _ => rfl)) (xn)))))))))))))))))))))))))) (by kernel_rfl) (by kernel_rfl) (by kernel_rfl) (fun vals => ?_)
    refine call Tryz.call59 rfl rfl rfl (fun W hS => links_text _ W) ?_
    refine bslR Tryz.underlying75 Tryz.sizeOf78 Tryz.zeroValue78 rfl rfl rfl rfl rfl rfl rfl ?_
    intro b33 w33 hb33 ha33 ho33 hm33 hz33
    simp only [Above] at ha33
    try simp only [Off, book, List.cons_append, List.nil_append, List.set_cons_zero, List.set_cons_succ, ne_eq] at ho33
    refine rv (fun _ h => Op.noConfusion h) rfl rfl (asg_r rfl) ?_
    refine OJ.done ?_
    refine PJ.next ?_
    refine CJ.ret ?_
    exact retG (.inl rfl) Tryz.results43 (RS.t rfl RS.n) (fun W hS => ⟨b33, rfl, hS.base (.tail _ (.tail _ (.head _))) trivial, by omega, by rw [show cV l = cVn l 1 from by unfold cV; rw [if_pos hc1]]; exact hS.old (.head _) hb33 hm33 trivial⟩)
  · try simp only [decide_eq_true_eq, decide_eq_false_iff_not, Bool.not_eq_true', Bool.not_eq_false'] at hc1
    refine CJ.skip ?_
    refine PJ.next ?_
    refine CJ.seq ?_
    refine CJ.less (E' := [(0, _), (1, _), (2, _), (3, _), (4, _), (5, _), (6, _)]) ⟨rfl, rfl, rfl, rfl, rfl, rfl, rfl, trivial⟩ ?_
    refine CJ.drwD 25 [.det [] _, .det [0] _, .det [1] _, .det [2] _, .det [] _, .det [4] _, .det [5] _, .det [6] _, .det [] _, .det [8] _, .det [9] _, .det [10] _, .det [] _, .det [12] _, .det [13] _, .det [14] _, .det [] _, .det [16] _, .det [17] _, .det [18] _, .det [] _, .det [20] _, .det [] _, .det [22] _, .det [23] _] (by kernel_rfl) (xc (fun vals => X.val (fun _ h => Op.noConfusion h) rfl (fld_r Tryz.underlying64 rfl Tryz.sizeOf27 rfl) (fun _ _ => rfl)) (xc (fun vals => X.val (fun _ h => Op.noConfusion h) rfl (fld_r Tryz.underlying27 rfl Tryz.sizeOf3 rfl) (fun _ _ => rfl)) (xc (fun vals => X.val (fun _ h => Op.noConfusion h) rfl (ldR_r Tryz.isAgg3 rfl (.head _) hb1 hm1 trivial rfl) (fun _ _ => rfl)) (xc (fun vals => X.callV Tryz.call60 rfl rfl (fun W hS _ => links_number _ W) (fun _ => rfl)) (xc (fun vals => X.val (fun _ h => Op.noConfusion h) rfl (fld_r Tryz.underlying64 rfl Tryz.sizeOf27 rfl) (fun _ _ => rfl)) (xc (fun vals => X.val (fun _ h => Op.noConfusion h) rfl (fld_r Tryz.underlying27 rfl Tryz.sizeOf3 rfl) (fun _ _ => rfl)) (xc (fun vals => X.val (fun _ h => Op.noConfusion h) rfl (ldR_r Tryz.isAgg3 rfl (.head _) hb1 hm1 trivial rfl) (fun _ _ => rfl)) (xc (fun vals => X.callV Tryz.call60 rfl rfl (fun W hS _ => links_number _ W) (fun _ => rfl)) (xc (fun vals => X.val (fun _ h => Op.noConfusion h) rfl (fld_r Tryz.underlying64 rfl Tryz.sizeOf27 rfl) (fun _ _ => rfl)) (xc (fun vals => X.val (fun _ h => Op.noConfusion h) rfl (fld_r Tryz.underlying27 rfl Tryz.sizeOf3 rfl) (fun _ _ => rfl)) (xc (fun vals => X.val (fun _ h => Op.noConfusion h) rfl (ldR_r Tryz.isAgg3 rfl (.head _) hb1 hm1 trivial rfl) (fun _ _ => rfl)) (xc (fun vals => X.callV Tryz.call60 rfl rfl (fun W hS _ => links_number _ W) (fun _ => rfl)) (xc (fun vals => X.val (fun _ h => Op.noConfusion h) rfl (fld_r Tryz.underlying64 rfl Tryz.sizeOf27 rfl) (fun _ _ => rfl)) (xc (fun vals => X.val (fun _ h => Op.noConfusion h) rfl (fld_r Tryz.underlying27 rfl Tryz.sizeOf3 rfl) (fun _ _ => rfl)) (xc (fun vals => X.val (fun _ h => Op.noConfusion h) rfl (ldR_r Tryz.isAgg3 rfl (.head _) hb1 hm1 trivial rfl) (fun _ _ => rfl)) (xc (fun vals => X.callV Tryz.call60 rfl rfl (fun W hS _ => links_number _ W) (fun _ => rfl)) (xc (fun vals => X.val (fun _ h => Op.noConfusion h) rfl (fld_r Tryz.underlying64 rfl Tryz.sizeOf27 rfl) (fun _ _ => rfl)) (xc (fun vals => X.val (fun _ h => Op.noConfusion h) rfl (fld_r Tryz.underlying27 rfl Tryz.sizeOf3 rfl) (fun _ _ => rfl)) (xc (fun vals => X.val (fun _ h => Op.noConfusion h) rfl (ldR_r Tryz.isAgg3 rfl (.head _) hb1 hm1 trivial rfl) (fun _ _ => rfl)) (xc (fun vals => X.callV Tryz.call60 rfl rfl (fun W hS _ => links_number _ W) (fun _ => rfl)) (xc (fun vals => X.val (fun _ h => Op.noConfusion h) rfl (mv_r rfl) (fun _ _ => rfl)) (xc (fun vals => X.callV Tryz.call60 rfl rfl (fun W hS _ => links_number _ W) (fun _ => rfl)) (xc (fun vals => X.val (fun _ h => Op.noConfusion h) rfl (fld_r Tryz.underlying64 rfl Tryz.sizeOf27 rfl) (fun _ _ => rfl)) (xc (fun vals => X.val (fun _ h => Op.noConfusion h) rfl (fld_r Tryz.underlying27 rfl Tryz.sizeOf23 rfl) (fun _ _ => rfl)) (xc (fun vals => X.val (fun _ h => Op.noConfusion h) rfl (ldRA_r Tryz.isAgg23 Tryz.sizeOf23 rfl (.head _) hb1 hm1 trivial (Nat.le_of_ble_eq_true rfl)) (fun _ _ => rfl)) (xn)))))))))))))))))))))))))) (by kernel_rfl) (by kernel_rfl) (by kernel_rfl) (fun vals => ?_)
    refine call Tryz.call59 rfl rfl rfl (fun W hS => links_text _ W) ?_
    refine bslR Tryz.underlying75 Tryz.sizeOf78 Tryz.zeroValue78 rfl rfl rfl rfl rfl rfl rfl ?_
    intro b33 w33 hb33 ha33 ho33 hm33 hz33
    simp only [Above] at ha33
    try simp only [Off, book, List.cons_append, List.nil_append, List.set_cons_zero, List.set_cons_succ, ne_eq] at ho33
    refine rv (fun _ h => Op.noConfusion h) rfl rfl (asg_r rfl) ?_
    refine OJ.done ?_
    refine PJ.next ?_
    refine CJ.ret ?_
    exact retG (.inl rfl) Tryz.results43 (RS.t rfl RS.n) (fun W hS => ⟨b33, rfl, hS.base (.tail _ (.tail _ (.head _))) trivial, by omega, by rw [show cV l = cVn l 0 from by unfold cV; rw [if_neg (by rw [hc1]; decide)]]; exact hS.old (.head _) hb33 hm33 trivial⟩)

/-- chartroom/chartroomref40.Contents -/
theorem r40_Contents (l : Lk) (w : World) :
    Calls Tryz.prog 30 #[.agg (lkC l)] w (RetX w (fun b : Nat => .slice (some ⟨b, 0, none⟩) 7 7) (fun b w1 => w.heap.size ≤ b ∧ w1.heap[b]? = some (.cells (vCells (cV l)).toArray 78 (0, 0)))) := by
  
  refine enter (vs := [_]) Tryz.func30 rfl Tryz.ntmps30 rfl ?_
  refine CJ.seq ?_
  refine CJ.region ?_
  refine boxR rfl rfl rfl ?_
  intro b1 w1 hb1 ha1 ho1 hm1 hz1
  simp only [Above] at ha1
  try simp only [Off, book, List.cons_append, List.nil_append, List.set_cons_zero, List.set_cons_succ, ne_eq] at ho1
  refine rv (fun _ h => Op.noConfusion h) rfl rfl (asg_r rfl) ?_
  refine OJ.done ?_
  refine PJ.next ?_
  refine CJ.seq ?_
  refine CJ.less (E' := [(0, _), (1, _), (2, _)]) ⟨rfl, rfl, rfl, trivial⟩ ?_
  refine CJ.drwD 22 [.det [] _, .det [0] _, .det [1] _, .det [] _, .det [3] _, .det [4] _, .det [] _, .det [6] _, .det [7] _, .det [] _, .det [9] _, .det [10] _, .det [] _, .det [12] _, .det [13] _, .det [] _, .det [15] _, .det [16] _, .det [17] _, .det [] _, .det [19] _, .det [20] _] (by kernel_rfl) (xc (fun vals => X.val (fun _ h => Op.noConfusion h) rfl (fld_r Tryz.underlying27 rfl Tryz.sizeOf3 rfl) (fun _ _ => rfl)) (xc (fun vals => X.val (fun _ h => Op.noConfusion h) rfl (ldR_r Tryz.isAgg3 rfl (.head _) hb1 hm1 trivial rfl) (fun _ _ => rfl)) (xc (fun vals => X.callV Tryz.call31 rfl rfl (fun W hS _ => r01_Int _ W) (fun _ => rfl)) (xc (fun vals => X.val (fun _ h => Op.noConfusion h) rfl (fld_r Tryz.underlying27 rfl Tryz.sizeOf3 rfl) (fun _ _ => rfl)) (xc (fun vals => X.val (fun _ h => Op.noConfusion h) rfl (ldR_r Tryz.isAgg3 rfl (.head _) hb1 hm1 trivial rfl) (fun _ _ => rfl)) (xc (fun vals => X.callV Tryz.call31 rfl rfl (fun W hS _ => r01_Int _ W) (fun _ => rfl)) (xc (fun vals => X.val (fun _ h => Op.noConfusion h) rfl (fld_r Tryz.underlying27 rfl Tryz.sizeOf3 rfl) (fun _ _ => rfl)) (xc (fun vals => X.val (fun _ h => Op.noConfusion h) rfl (ldR_r Tryz.isAgg3 rfl (.head _) hb1 hm1 trivial rfl) (fun _ _ => rfl)) (xc (fun vals => X.callV Tryz.call31 rfl rfl (fun W hS _ => r01_Int _ W) (fun _ => rfl)) (xc (fun vals => X.val (fun _ h => Op.noConfusion h) rfl (fld_r Tryz.underlying27 rfl Tryz.sizeOf3 rfl) (fun _ _ => rfl)) (xc (fun vals => X.val (fun _ h => Op.noConfusion h) rfl (ldR_r Tryz.isAgg3 rfl (.head _) hb1 hm1 trivial rfl) (fun _ _ => rfl)) (xc (fun vals => X.callV Tryz.call31 rfl rfl (fun W hS _ => r01_Int _ W) (fun _ => rfl)) (xc (fun vals => X.val (fun _ h => Op.noConfusion h) rfl (fld_r Tryz.underlying27 rfl Tryz.sizeOf3 rfl) (fun _ _ => rfl)) (xc (fun vals => X.val (fun _ h => Op.noConfusion h) rfl (ldR_r Tryz.isAgg3 rfl (.head _) hb1 hm1 trivial rfl) (fun _ _ => rfl)) (xc (fun vals => X.callV Tryz.call31 rfl rfl (fun W hS _ => r01_Int _ W) (fun _ => rfl)) (xc (fun vals => X.val (fun _ h => Op.noConfusion h) rfl (fld_r Tryz.underlying27 rfl Tryz.sizeOf4 rfl) (fun _ _ => rfl)) (xc (fun vals => X.val (fun _ h => Op.noConfusion h) rfl (ldR_r Tryz.isAgg4 rfl (.head _) hb1 hm1 trivial rfl) (fun _ _ => rfl)) (xc (fun vals => X.callV Tryz.call68 rfl rfl (fun W hS _ => r40_flag _ W) (fun _ => rfl)) (xc (fun vals => X.callV Tryz.call31 rfl rfl (fun W hS _ => r01_Int _ W) (fun _ => rfl)) (xc (fun vals => X.val (fun _ h => Op.noConfusion h) rfl (fld_r Tryz.underlying27 rfl Tryz.sizeOf23 rfl) (fun _ _ => rfl)) (xc (fun vals => X.val (fun _ h => Op.noConfusion h) rfl (slA0_r (h := 32) Tryz.underlying23 Tryz.sizeOf5 rfl rfl (by omega)) (fun _ _ => rfl)) (xc (fun vals => X.val (fun _ h => Op.noConfusion h) rfl (cvtDo_r Tryz.underlying55 Tryz.underlying5 Tryz.underlying9 rfl (.head _) hb1 hm1 trivial rfl) (fun _ _ => rfl)) (xn))))))))))))))))))))))) (by kernel_rfl) (by kernel_rfl) (by kernel_rfl) (fun vals => ?_)
  refine call Tryz.call64 rfl rfl rfl (fun W hS => r01_Text _ W) ?_
  refine bslR Tryz.underlying75 Tryz.sizeOf78 Tryz.zeroValue78 rfl rfl rfl rfl rfl rfl rfl ?_
  intro b26 w26 hb26 ha26 ho26 hm26 hz26
  simp only [Above] at ha26
  try simp only [Off, book, List.cons_append, List.nil_append, List.set_cons_zero, List.set_cons_succ, ne_eq] at ho26
  refine rv (fun _ h => Op.noConfusion h) rfl rfl (asg_r rfl) ?_
  refine OJ.done ?_
  refine PJ.next ?_
  refine CJ.ret ?_
  exact retG (.inl rfl) Tryz.results30 (RS.t rfl RS.n) (fun W hS => ⟨b26, rfl, hS.base (.tail _ (.tail _ (.head _))) trivial, by omega, by skip; exact hS.old (.head _) hb26 hm26 trivial⟩)

/-- chartroom/links.hash -/
theorem links_hash {Z : Fx} (hZ : FxOk Z) (s : ByteArray) (hs0 : s.size < 1000) (l : List V) (hfin : (V.list l).fine) (hd : (V.list l).depth ≤ 16) (hlim : (V.list l).enc.length ≤ 800000000000) (N bl lc : Nat) (w : World) (hN : N ≤ w.heap.size) (hva : VAt N w (.list l) (vL (some ⟨bl, 0, none⟩) l.length lc)) (hg : Glb w) :
    Calls Tryz.prog 42 #[.string s, .slice (some ⟨bl, 0, none⟩) l.length lc] w (Ret w (.agg (dg (Z.tg s (V.list l).enc)))) := by
  have hg4 := hg.lt
  obtain ⟨df, hdf⟩ : ∃ df, Z.tg s (V.list l).enc = df := ⟨_, rfl⟩
  refine enter (vs := [_, _]) Tryz.func42 rfl Tryz.ntmps42 rfl ?_
  refine CJ.seq ?_
  refine CJ.region ?_
  refine allW Tryz.zeroValue23 rfl rfl ?_
  intro b4 ha4 ho4
  simp only [Above] at ha4
  try simp only [Off, book, List.cons_append, List.nil_append, List.set_cons_zero, List.set_cons_succ, ne_eq] at ho4
  refine OJ.done ?_
  refine PJ.next ?_
  refine CJ.seq ?_
  refine CJ.region ?_
  refine rv (fun _ h => Op.noConfusion h) rfl rfl (mv_r rfl) ?_
  refine rv (fun _ h => Op.noConfusion h) rfl rfl (bldS_r Tryz.underlying78 Tryz.zeroValue78 (PlF.c Tryz.sizeOf3 (PlF.c Tryz.sizeOf3 (PlF.c Tryz.sizeOf9 (PlF.c Tryz.sizeOf75 (PlF.n))))) rfl rfl) ?_
  refine callEnc (ys := (V.list l).enc) Tryz.call87 rfl rfl rfl (fun W hS => codec_Encode l hfin hd hlim N (some ⟨bl, 0, none⟩) lc W (Nat.le_trans hN (hS.links _ (.head _)).size) (VAt.up (Nat.le_refl _) (hS.same (.head _) hN (fun _ _ h => h) (by first | exact True.intro | (simp only [Over, List.set_cons_zero, List.set_cons_succ, List.eraseIdx_cons_zero, List.eraseIdx_cons_succ, and_true]; omega))) _ _ hva)) ?_
  intro b10 c10 s10 ha10 ho10 hx10 hr10
  simp only [Above] at ha10
  try simp only [Off, List.set_cons_zero, List.set_cons_succ, ne_eq, and_true] at ho10
  refine rv (fun _ h => Op.noConfusion h) rfl rfl (mv_r rfl) ?_
  refine rv (fun _ h => Op.noConfusion h) rfl rfl (ext_r rfl rfl) ?_
  refine rv (fun _ h => Op.noConfusion h) rfl rfl (ext_r rfl rfl) ?_
  refine rv (fun _ h => Op.noConfusion h) rfl rfl (asg_r rfl) ?_
  refine rv (fun _ h => Op.noConfusion h) rfl rfl (asg_r rfl) ?_
  refine OJ.done ?_
  refine PJ.next ?_
  refine CJ.seq ?_
  refine CJ.region ?_
  refine rv (fun _ h => Op.noConfusion h) rfl rfl (mv_r rfl) ?_
  refine rv (fun _ h => Op.noConfusion h) rfl rfl (mv_r rfl) ?_
  refine call Tryz.call88 rfl rfl rfl (fun W hS => by rw [← hdf]; exact taggedG hZ s hs0 (V.list l).enc (by omega) b10 0 c10 hr10.le W (SegU.row (hS.own _ (.head _))) (hg.old hS (.head _) (fun _ _ h => h) (by first | exact True.intro | (simp only [Over, List.set_cons_zero, List.set_cons_succ, List.eraseIdx_cons_zero, List.eraseIdx_cons_succ, and_true]; omega)))) (v := .agg (dg df)) ?_
  refine stWw (i := 1) rfl Tryz.sizeOf23 rfl rfl rfl rfl rfl rfl ?_
  refine OJ.done ?_
  refine PJ.next ?_
  refine CJ.ret ?_
  refine retO (.inl rfl) Tryz.results42 (RS.wA (i := 1) rfl Tryz.isAgg23 Tryz.sizeOf23 rfl (Nat.le_of_ble_eq_true rfl) (RS.n)) (.head _) (by first | (simp only [Over, List.set_cons_zero, List.set_cons_succ, List.eraseIdx_cons_zero, List.eraseIdx_cons_succ, and_true]; omega) | (simp [Over] <;> omega)) ?_
  rw [hdf]; rfl

/-- chartroom/chartroomref40.hash -/
theorem r40_hash {Z : Fx} (hZ : FxOk Z) (s : ByteArray) (hs0 : s.size < 1000) (l : List V) (hfin : (V.list l).fine) (hd : (V.list l).depth ≤ 16) (hlim : (V.list l).enc.length ≤ 800000000000) (N bl lc : Nat) (w : World) (hN : N ≤ w.heap.size) (hva : VAt N w (.list l) (vL (some ⟨bl, 0, none⟩) l.length lc)) :
    Calls Tryz.prog 29 #[.string s, .slice (some ⟨bl, 0, none⟩) l.length lc] w (Ret w (.agg (dg (Z.tg s (V.list l).enc)))) := by
  obtain ⟨df, hdf⟩ : ∃ df, Z.tg s (V.list l).enc = df := ⟨_, rfl⟩
  refine enter (vs := [_, _]) Tryz.func29 rfl Tryz.ntmps29 rfl ?_
  refine CJ.seq ?_
  refine CJ.region ?_
  refine allW Tryz.zeroValue23 rfl rfl ?_
  intro b4 ha4 ho4
  simp only [Above] at ha4
  try simp only [Off, book, List.cons_append, List.nil_append, List.set_cons_zero, List.set_cons_succ, ne_eq] at ho4
  refine OJ.done ?_
  refine PJ.next ?_
  refine CJ.seq ?_
  refine CJ.region ?_
  refine rv (fun _ h => Op.noConfusion h) rfl rfl (mv_r rfl) ?_
  refine call Tryz.call66 rfl rfl rfl (fun W hS => r01_List _ _ _ W) ?_
  refine callEnc (ys := (V.list l).enc) Tryz.call65 rfl rfl rfl (fun W hS => r01_Encode l hfin hd hlim N (some ⟨bl, 0, none⟩) lc W (Nat.le_trans hN (hS.links _ (.head _)).size) (VAt.up (Nat.le_refl _) (hS.same (.head _) hN (fun _ _ h => h) (by first | exact True.intro | (simp only [Over, List.set_cons_zero, List.set_cons_succ, List.eraseIdx_cons_zero, List.eraseIdx_cons_succ, and_true]; omega))) _ _ hva)) ?_
  intro b10 c10 s10 ha10 ho10 hx10 hr10
  simp only [Above] at ha10
  try simp only [Off, List.set_cons_zero, List.set_cons_succ, ne_eq, and_true] at ho10
  refine rv (fun _ h => Op.noConfusion h) rfl rfl (mv_r rfl) ?_
  refine rv (fun _ h => Op.noConfusion h) rfl rfl (ext_r rfl rfl) ?_
  refine rv (fun _ h => Op.noConfusion h) rfl rfl (ext_r rfl rfl) ?_
  refine rv (fun _ h => Op.noConfusion h) rfl rfl (asg_r rfl) ?_
  refine rv (fun _ h => Op.noConfusion h) rfl rfl (asg_r rfl) ?_
  refine OJ.done ?_
  refine PJ.next ?_
  refine CJ.seq ?_
  refine CJ.region ?_
  refine rv (fun _ h => Op.noConfusion h) rfl rfl (mv_r rfl) ?_
  refine rv (fun _ h => Op.noConfusion h) rfl rfl (mv_r rfl) ?_
  refine call Tryz.call67 rfl rfl rfl (fun W hS => by rw [← hdf]; exact taggedR hZ s hs0 (V.list l).enc (by omega) b10 0 c10 W (SegU.row (hS.own _ (.head _)))) (v := .agg (dg df)) ?_
  refine stWw (i := 1) rfl Tryz.sizeOf23 rfl rfl rfl rfl rfl rfl ?_
  refine OJ.done ?_
  refine PJ.next ?_
  refine CJ.ret ?_
  refine retO (.inl rfl) Tryz.results29 (RS.wA (i := 1) rfl Tryz.isAgg23 Tryz.sizeOf23 rfl (Nat.le_of_ble_eq_true rfl) (RS.n)) (.head _) (by first | (simp only [Over, List.set_cons_zero, List.set_cons_succ, List.eraseIdx_cons_zero, List.eraseIdx_cons_succ, and_true]; omega) | (simp [Over] <;> omega)) ?_
  rw [hdf]; rfl

/-- the digest that is signed -/
def msgD (Z : Fx) (l : Lk) : Nat → Int := Z.tg (⟨#[108, 105, 110, 107, 32, 115, 105, 103, 110]⟩ : ByteArray) (V.list (cV l)).enc
def idD (Z : Fx) (l : Lk) : Nat → Int := Z.tg (⟨#[108, 105, 110, 107]⟩ : ByteArray) (V.list (idV l)).enc
/-- (chartroom/links.link).message -/
theorem links_message {Z : Fx} (hZ : FxOk Z) (l : Lk) (hl : LkOk l) (w : World) (hg : Glb w) :
    Calls Tryz.prog 17 #[.agg (lkC l)] w (RetX w (fun b : Nat => .slice (some ⟨b, 0, none⟩) 32 32) (fun b w1 => w.heap.size ≤ b ∧ w1.heap[b]? = some (.cells (dg (msgD Z l)) 23 (0, 0)))) := by
  have hg4 := hg.lt
  obtain ⟨df, hdf⟩ : ∃ df, msgD Z l = df := ⟨_, rfl⟩
  have hff := flat_fine (cV l) (cV_flat l) (cV_fine l hl) (by simp [cV, cVn])
  refine enter (vs := [_]) Tryz.func17 rfl Tryz.ntmps17 rfl ?_
  refine CJ.seq ?_
  refine CJ.region ?_
  refine boxR rfl rfl rfl ?_
  intro b1 w1 hb1 ha1 ho1 hm1 hz1
  simp only [Above] at ha1
  try simp only [Off, book, List.cons_append, List.nil_append, List.set_cons_zero, List.set_cons_succ, ne_eq] at ho1
  refine rv (fun _ h => Op.noConfusion h) rfl rfl (asg_r rfl) ?_
  refine OJ.done ?_
  refine PJ.next ?_
  refine CJ.seq ?_
  refine CJ.region ?_
  refine rv (fun _ h => Op.noConfusion h) rfl rfl (ldRAw_r Tryz.isAgg64 Tryz.sizeOf64 rfl (.head _) hb1 hm1 trivial rfl) ?_
  refine callX (Φ := fun (W : World) (b : Nat) (v1 : World) => W.heap.size ≤ b ∧ v1.heap[b]? = some (.cells (vCells (cV l)).toArray 78 (0, 0))) Tryz.call43 rfl rfl rfl (fun W hS => links_contents l W) ?_
  rintro W5 b5 w5 hS5 hB5 ⟨hq5, hb5⟩
  have hz5 := (Array.getElem?_eq_some_iff.1 hb5).1
  have hA5 := hS5.sizes
  simp only [Above] at hA5
  have hB5s := hB5.size
  refine call Tryz.call42 rfl rfl rfl (fun W hS => by rw [← hdf]; exact links_hash hZ (⟨#[108, 105, 110, 107, 32, 115, 105, 103, 110]⟩ : ByteArray) (by decide) (cV l) hff.1 hff.2.1 hff.2.2 w5.heap.size b5 7 W (hS.links _ (.head _)).size (flat_at (sp := []) (cV_flat l) hz5 (Nat.le_refl 7) (by rw [List.append_nil]; exact hS.old (.head _) hb5 (fun h => h) trivial)) (hg.old hS (.tail _ (.tail _ (.head _))) (fun _ _ h => h) (by first | exact True.intro | (simp only [Over, List.set_cons_zero, List.set_cons_succ, List.eraseIdx_cons_zero, List.eraseIdx_cons_succ, and_true]; omega)))) (v := .agg (dg df)) ?_
  refine allW Tryz.zeroValue23 rfl rfl ?_
  intro b3 ha3 ho3
  simp only [Above] at ha3
  try simp only [Off, book, List.cons_append, List.nil_append, List.set_cons_zero, List.set_cons_succ, ne_eq] at ho3
  refine stWw (i := 0) rfl Tryz.sizeOf23 rfl rfl rfl rfl rfl rfl ?_
  refine OJ.done ?_
  refine PJ.next ?_
  refine CJ.seq ?_
  refine CJ.region ?_
  refine rv (fun _ h => Op.noConfusion h) rfl rfl (slA0_r (h := 32) Tryz.underlying23 Tryz.sizeOf5 rfl rfl (by omega)) ?_
  refine rv (fun _ h => Op.noConfusion h) rfl rfl (asg_r rfl) ?_
  refine OJ.done ?_
  refine PJ.next ?_
  refine CJ.ret ?_
  exact retG (.inl rfl) Tryz.results17 (RS.t rfl RS.n) (fun W hS => ⟨b3, rfl, hS.base (.tail _ (.tail _ (.head _))) (by first | (simp only [Over, List.set_cons_zero, List.set_cons_succ, List.eraseIdx_cons_zero, List.eraseIdx_cons_succ, and_true]; omega) | (simp [Over] <;> omega)), by omega, by rw [hdf]; exact hS.own _ (.head _)⟩)

/-- chartroom/chartroomref40.Message -/
theorem r40_Message {Z : Fx} (hZ : FxOk Z) (l : Lk) (hl : LkOk l) (w : World) :
    Calls Tryz.prog 21 #[.agg (lkC l)] w (RetX w (fun b : Nat => .slice (some ⟨b, 0, none⟩) 32 32) (fun b w1 => w.heap.size ≤ b ∧ w1.heap[b]? = some (.cells (dg (msgD Z l)) 23 (0, 0)))) := by
  obtain ⟨df, hdf⟩ : ∃ df, msgD Z l = df := ⟨_, rfl⟩
  have hff := flat_fine (cV l) (cV_flat l) (cV_fine l hl) (by simp [cV, cVn])
  refine enter (vs := [_]) Tryz.func21 rfl Tryz.ntmps21 rfl ?_
  refine CJ.seq ?_
  refine CJ.region ?_
  refine boxR rfl rfl rfl ?_
  intro b1 w1 hb1 ha1 ho1 hm1 hz1
  simp only [Above] at ha1
  try simp only [Off, book, List.cons_append, List.nil_append, List.set_cons_zero, List.set_cons_succ, ne_eq] at ho1
  refine rv (fun _ h => Op.noConfusion h) rfl rfl (asg_r rfl) ?_
  refine OJ.done ?_
  refine PJ.next ?_
  refine CJ.seq ?_
  refine CJ.region ?_
  refine rv (fun _ h => Op.noConfusion h) rfl rfl (ldRAw_r Tryz.isAgg27 Tryz.sizeOf27 rfl (.head _) hb1 hm1 trivial rfl) ?_
  refine callX (Φ := fun (W : World) (b : Nat) (v1 : World) => W.heap.size ≤ b ∧ v1.heap[b]? = some (.cells (vCells (cV l)).toArray 78 (0, 0))) Tryz.call30 rfl rfl rfl (fun W hS => r40_Contents l W) ?_
  rintro W5 b5 w5 hS5 hB5 ⟨hq5, hb5⟩
  have hz5 := (Array.getElem?_eq_some_iff.1 hb5).1
  have hA5 := hS5.sizes
  simp only [Above] at hA5
  have hB5s := hB5.size
  refine call Tryz.call29 rfl rfl rfl (fun W hS => by rw [← hdf]; exact r40_hash hZ (⟨#[108, 105, 110, 107, 32, 115, 105, 103, 110]⟩ : ByteArray) (by decide) (cV l) hff.1 hff.2.1 hff.2.2 w5.heap.size b5 7 W (hS.links _ (.head _)).size (flat_at (sp := []) (cV_flat l) hz5 (Nat.le_refl 7) (by rw [List.append_nil]; exact hS.old (.head _) hb5 (fun h => h) trivial))) (v := .agg (dg df)) ?_
  refine allW Tryz.zeroValue23 rfl rfl ?_
  intro b3 ha3 ho3
  simp only [Above] at ha3
  try simp only [Off, book, List.cons_append, List.nil_append, List.set_cons_zero, List.set_cons_succ, ne_eq] at ho3
  refine stWw (i := 0) rfl Tryz.sizeOf23 rfl rfl rfl rfl rfl rfl ?_
  refine OJ.done ?_
  refine PJ.next ?_
  refine CJ.seq ?_
  refine CJ.region ?_
  refine rv (fun _ h => Op.noConfusion h) rfl rfl (slA0_r (h := 32) Tryz.underlying23 Tryz.sizeOf5 rfl rfl (by omega)) ?_
  refine rv (fun _ h => Op.noConfusion h) rfl rfl (asg_r rfl) ?_
  refine OJ.done ?_
  refine PJ.next ?_
  refine CJ.ret ?_
  exact retG (.inl rfl) Tryz.results21 (RS.t rfl RS.n) (fun W hS => ⟨b3, rfl, hS.base (.tail _ (.tail _ (.head _))) (by first | (simp only [Over, List.set_cons_zero, List.set_cons_succ, List.eraseIdx_cons_zero, List.eraseIdx_cons_succ, and_true]; omega) | (simp [Over] <;> omega)), by omega, by rw [hdf]; exact hS.own _ (.head _)⟩)

end Px
namespace Px
open Go Go.RowKit Go.Proofs
theorem info78 : Tryz.prog.info? 78 = some Tryz.t78 := by kernel_rfl
theorem vCells_one (l : List V) : ∀ u ∈ vCells l, u.oneCell' = true := by
  intro u hu
  obtain ⟨x, _, hx⟩ := List.mem_flatMap.1 hu
  cases x <;> simp only [vCell, List.mem_cons, List.not_mem_nil, or_false] at hx
  · rcases hx with rfl | rfl | rfl | rfl <;> rfl
  · rcases hx with rfl | rfl | rfl | rfl <;> rfl
theorem vRow {C : Cx} {G : Gh} {L : List World} {H : Heap} {tx e' i b c t : Nat} {l : List V} {sp : List Value} {fr : Nat × Nat} (hU : C.P.underlying tx = some (.slice e')) (hf : l.all isFlat = true) (hi : H[i]? = some (b, .cells (vCells l ++ sp).toArray t fr)) : SrcJ C G L H 4 tx (.slice (some ⟨b, 0, none⟩) l.length c) l.length (vCells l) :=
  SrcJ.sl hU (Rd.own hi (by simp only [List.size_toArray, List.length_append, vCells_len l hf]; omega) (by rw [List.drop_zero, ← vCells_len l hf, List.take_left' rfl])) (vCells_len l hf) (vCells_one l)
abbrev vRowC (l : List V) (sp : List Value) (t : Nat) : Obj := .cells (vCells l ++ sp).toArray t (0, 0)
theorem vCells_app (a b : List V) : vCells (a ++ b) = vCells a ++ vCells b := by simp [vCells]
theorem links_contentsA (l : Lk) (w : World) : Calls Tryz.prog 43 #[.agg (lkC l)] w (RetX w (fun b : Nat => .slice (some ⟨b, 0, none⟩) 7 7) (fun b w1 => w.heap.size ≤ b ∧ True ∧ w1.heap[b]? = some (.cells (vCells (cV l) ++ []).toArray 78 (0, 0)))) :=
  (links_contents l w).mono (by
    rintro e w' ⟨b, rfl, hb, h1, h2⟩
    exact ⟨b, rfl, hb, h1, trivial, by rw [List.append_nil]; exact h2⟩)
theorem r40_ContentsA (l : Lk) (w : World) : Calls Tryz.prog 30 #[.agg (lkC l)] w (RetX w (fun b : Nat => .slice (some ⟨b, 0, none⟩) 7 7) (fun b w1 => w.heap.size ≤ b ∧ True ∧ w1.heap[b]? = some (.cells (vCells (cV l) ++ []).toArray 78 (0, 0)))) :=
  (r40_Contents l w).mono (by
    rintro e w' ⟨b, rfl, hb, h1, h2⟩
    exact ⟨b, rfl, hb, h1, trivial, by rw [List.append_nil]; exact h2⟩)
set_option maxHeartbeats 400000 in
/-- (chartroom/links.link).id -/
theorem links_id {Z : Fx} (hZ : FxOk Z) (l : Lk) (hl : LkOk l) (w : World) (hg : Glb w) :
    Calls Tryz.prog 28 #[.agg (lkC l)] w (Ret w (.agg (dg (idD Z l)))) := by
  have hg4 := hg.lt
  obtain ⟨df, hdf⟩ : ∃ df, idD Z l = df := ⟨_, rfl⟩
  have hff := flat_fine (idV l) rfl (idV_fine l hl) (by simp [idV, cV, cVn])
  refine enter (vs := [_]) Tryz.func28 rfl Tryz.ntmps28 rfl ?_
  refine CJ.seq ?_
  refine CJ.region ?_
  refine boxR rfl rfl rfl ?_
  intro b1 w1 hb1 ha1 ho1 hm1 hz1
  simp only [Above] at ha1
  try simp only [Off, book, List.cons_append, List.nil_append, List.set_cons_zero, List.set_cons_succ, ne_eq] at ho1
  refine allW Tryz.zeroValue23 rfl rfl ?_
  intro b2 ha2 ho2
  simp only [Above] at ha2
  try simp only [Off, book, List.cons_append, List.nil_append, List.set_cons_zero, List.set_cons_succ, ne_eq] at ho2
  refine OJ.done ?_
  refine PJ.next ?_
  refine CJ.seq ?_
  refine CJ.less (E' := [(0, _), (1, _), (2, _)]) ⟨rfl, rfl, rfl, trivial⟩ ?_
  refine CJ.chn 11 [1] [([], some (.agg (lkC l))), ([0], none), ([], some _), ([2], some _), ([3], some _), ([4], some (.int .i64 l.sr)), ([5], some _), ([], some _), ([7], some _), ([8], some _), ([9], some (.int .i64 l.ss))] (fun cv L' H' => match cv with | [] => L' = [w1, w] ∧ H' = [(b2, .cells zK 23 (0, 0))] | [v1] => ∃ (b4 : Nat), v1 = .slice (some ⟨b4, 0, none⟩) 7 7 ∧ L' = [w1, w] ∧ H' = [(b4, vRowC (cV l) [] 78), (b2, .cells zK 23 (0, 0))] ∧ w1.heap.size ≤ b4 ∧ w.heap.size ≤ b4 ∧ b2 ≠ b4 | _ => False) (by kernel_rfl) ⟨rfl, rfl⟩ (by kernel_rfl) (by kernel_rfl) (by kernel_rfl) (by kernel_rfl) (by kernel_rfl) (by kernel_rfl) (pc (fun cv L' H' hd hP => match cv, hd, hP with | [], hd, hP => (by obtain ⟨rfl, rfl⟩ := hP; exact X.val (fun _ h => Op.noConfusion h) rfl (ldRAw_r Tryz.isAgg64 Tryz.sizeOf64 rfl (.head _) hb1 hm1 (by first | (simp only [Off, book, List.cons_append, List.nil_append, List.set_cons_zero, List.set_cons_succ, List.eraseIdx_cons_zero, List.eraseIdx_cons_succ, ne_eq, and_true]; omega) | (simp [Off] <;> omega)) rfl) (fun _ _ => rfl)) | [v1], hd, hP => (by obtain ⟨b4, rfl, rfl, rfl, ha4, hA4, ho4⟩ := hP; exact X.val (fun _ h => Op.noConfusion h) rfl (ldRAw_r Tryz.isAgg64 Tryz.sizeOf64 rfl (.head _) hb1 hm1 (by first | (simp only [Off, book, List.cons_append, List.nil_append, List.set_cons_zero, List.set_cons_succ, List.eraseIdx_cons_zero, List.eraseIdx_cons_succ, ne_eq, and_true]; omega) | (simp [Off] <;> omega)) rfl) (fun _ _ => rfl)) | _ :: _ :: _, _, hP => hP.elim) (pk (pc (fun cv L' H' hd hP => X.val (fun _ h => Op.noConfusion h) rfl (fld_r Tryz.underlying64 rfl Tryz.sizeOf27 rfl) (fun _ _ => rfl)) (pc (fun cv L' H' hd hP => X.val (fun _ h => Op.noConfusion h) rfl (fld_r Tryz.underlying27 rfl Tryz.sizeOf25 rfl) (fun _ _ => rfl)) (pc (fun cv L' H' hd hP => X.val (fun _ h => Op.noConfusion h) rfl (fld_r Tryz.underlying25 rfl Tryz.sizeOf3 rfl) (fun _ _ => rfl)) (pc (fun cv L' H' hd hP => match cv, hd, hP with | [], hd, hP => (by obtain ⟨rfl, rfl⟩ := hP; exact X.val (fun _ h => Op.noConfusion h) rfl (ldR_r Tryz.isAgg3 rfl (.head _) hb1 hm1 (by first | (simp only [Off, book, List.cons_append, List.nil_append, List.set_cons_zero, List.set_cons_succ, List.eraseIdx_cons_zero, List.eraseIdx_cons_succ, ne_eq, and_true]; omega) | (simp [Off] <;> omega)) rfl) (fun _ _ => rfl)) | [v1], hd, hP => (by obtain ⟨b4, rfl, rfl, rfl, ha4, hA4, ho4⟩ := hP; exact X.val (fun _ h => Op.noConfusion h) rfl (ldR_r Tryz.isAgg3 rfl (.head _) hb1 hm1 (by first | (simp only [Off, book, List.cons_append, List.nil_append, List.set_cons_zero, List.set_cons_succ, List.eraseIdx_cons_zero, List.eraseIdx_cons_succ, ne_eq, and_true]; omega) | (simp [Off] <;> omega)) rfl) (fun _ _ => rfl)) | _ :: _ :: _, _, hP => hP.elim) (pc (fun cv L' H' hd hP => X.callV Tryz.call60 rfl rfl (fun W hS _ => links_number _ W) (fun _ => rfl)) (pc (fun cv L' H' hd hP => X.val (fun _ h => Op.noConfusion h) rfl (fld_r Tryz.underlying64 rfl Tryz.sizeOf27 rfl) (fun _ _ => rfl)) (pc (fun cv L' H' hd hP => X.val (fun _ h => Op.noConfusion h) rfl (fld_r Tryz.underlying27 rfl Tryz.sizeOf25 rfl) (fun _ _ => rfl)) (pc (fun cv L' H' hd hP => X.val (fun _ h => Op.noConfusion h) rfl (fld_r Tryz.underlying25 rfl Tryz.sizeOf3 rfl) (fun _ _ => rfl)) (pc (fun cv L' H' hd hP => match cv, hd, hP with | [], hd, hP => (by obtain ⟨rfl, rfl⟩ := hP; exact X.val (fun _ h => Op.noConfusion h) rfl (ldR_r Tryz.isAgg3 rfl (.head _) hb1 hm1 (by first | (simp only [Off, book, List.cons_append, List.nil_append, List.set_cons_zero, List.set_cons_succ, List.eraseIdx_cons_zero, List.eraseIdx_cons_succ, ne_eq, and_true]; omega) | (simp [Off] <;> omega)) rfl) (fun _ _ => rfl)) | [v1], hd, hP => (by obtain ⟨b4, rfl, rfl, rfl, ha4, hA4, ho4⟩ := hP; exact X.val (fun _ h => Op.noConfusion h) rfl (ldR_r Tryz.isAgg3 rfl (.head _) hb1 hm1 (by first | (simp only [Off, book, List.cons_append, List.nil_append, List.set_cons_zero, List.set_cons_succ, List.eraseIdx_cons_zero, List.eraseIdx_cons_succ, ne_eq, and_true]; omega) | (simp [Off] <;> omega)) rfl) (fun _ _ => rfl)) | _ :: _ :: _, _, hP => hP.elim) (pn)))))))))))) ?_ ?_
  · refine sc rfl rfl rfl ?_ ?_
    · intro cv L' H' hl hP F Q' hk
      obtain rfl := List.eq_nil_of_length_eq_zero hl
      obtain ⟨rfl, rfl⟩ := hP
      refine callXA (v := fun b : Nat => .slice (some ⟨b, 0, none⟩) 7 7) (bo := fun b : Nat => (b, vRowC (cV l) [] 78)) (Φ := fun _ => True) Tryz.call43 rfl rfl rfl (fun W hS => links_contentsA l W) ?_
      intro b4 ha ho _
      exact OJ.done (hk _ _ _ ⟨b4, rfl, rfl, rfl, ha.1, ha.2.1, ho.1⟩)
    exact sn
  · intro cv L' H' hl hP
    obtain ⟨v1, rfl⟩ := len1 hl
    obtain ⟨b4, rfl, rfl, rfl, ha4, hA4, ho4⟩ := hP
    refine call Tryz.call60 rfl rfl rfl (fun W hS => links_number _ W) ?_
    refine bslW Tryz.underlying75 Tryz.sizeOf78 Tryz.zeroValue78 rfl rfl rfl rfl rfl rfl rfl ?_
    intro b15 ha15 ho15
    simp only [Above] at ha15
    try simp only [Off, book, List.cons_append, List.nil_append, List.set_cons_zero, List.set_cons_succ, ne_eq] at ho15
    refine appW (i := 1) (m := 4) (ys := vCells (cV l)) (sp := []) (len := 7) (cap := 7) (news := vCells ([.int l.sr, .int l.ss] : List V)) (n := 2) rfl Tryz.underlying75 info78 rfl rfl rfl rfl rfl rfl rfl (vRow (l := [.int l.sr, .int l.ss]) (sp := []) (i := 0) Tryz.underlying75 rfl rfl) (vCells_len _ (cV_flat l)) rfl (Nat.le_refl _) ⟨by omega, by omega, trivial⟩ (by decide) (by decide) ?_
    intro b16 c16 s16 ha16 hc16 hs16
    simp only [Above] at ha16
    refine OJ.reH (H' := [(b15, vRowC [.int l.sr, .int l.ss] [] 78), (b16, vRowC (idV l) s16 78), (b2, .cells zK 23 (0, 0))]) (by simp only [vRowC, idV, vCells_app]; rfl) ?_
    refine call Tryz.call42 rfl rfl rfl (fun W hS => by rw [← hdf]; exact links_hash hZ (⟨#[108, 105, 110, 107]⟩ : ByteArray) (by decide) (idV l) hff.1 hff.2.1 hff.2.2 W.heap.size b16 c16 W (Nat.le_refl _) (flat_at rfl (hS.lt _ (.tail _ (.head _))) hc16 (hS.own _ (.tail _ (.head _)))) (hg.old hS (.tail _ (.head _)) (fun _ _ h => h) (by first | exact True.intro | (simp only [Over, List.set_cons_zero, List.set_cons_succ, List.eraseIdx_cons_zero, List.eraseIdx_cons_succ, and_true]; omega)))) (v := .agg (dg df)) ?_
    refine stWw (i := 2) rfl Tryz.sizeOf23 rfl rfl rfl rfl rfl rfl ?_
    refine OJ.done ?_
    refine PJ.next ?_
    refine CJ.ret ?_
    refine retO (.inl rfl) Tryz.results28 (RS.wA (i := 2) rfl Tryz.isAgg23 Tryz.sizeOf23 rfl (Nat.le_of_ble_eq_true rfl) (RS.n)) (.tail _ (.head _)) (by first | (simp only [Over, List.set_cons_zero, List.set_cons_succ, List.eraseIdx_cons_zero, List.eraseIdx_cons_succ, and_true]; omega) | (simp [Over] <;> omega)) ?_
    rw [hdf]; rfl

set_option maxHeartbeats 400000 in
/-- chartroom/chartroomref40.ID -/
theorem r40_ID {Z : Fx} (hZ : FxOk Z) (l : Lk) (hl : LkOk l) (w : World) :
    Calls Tryz.prog 10 #[.agg (lkC l)] w (Ret w (.agg (dg (idD Z l)))) := by
  obtain ⟨df, hdf⟩ : ∃ df, idD Z l = df := ⟨_, rfl⟩
  have hff := flat_fine (idV l) rfl (idV_fine l hl) (by simp [idV, cV, cVn])
  refine enter (vs := [_]) Tryz.func10 rfl Tryz.ntmps10 rfl ?_
  refine CJ.seq ?_
  refine CJ.region ?_
  refine boxR rfl rfl rfl ?_
  intro b1 w1 hb1 ha1 ho1 hm1 hz1
  simp only [Above] at ha1
  try simp only [Off, book, List.cons_append, List.nil_append, List.set_cons_zero, List.set_cons_succ, ne_eq] at ho1
  refine allW Tryz.zeroValue23 rfl rfl ?_
  intro b2 ha2 ho2
  simp only [Above] at ha2
  try simp only [Off, book, List.cons_append, List.nil_append, List.set_cons_zero, List.set_cons_succ, ne_eq] at ho2
  refine OJ.done ?_
  refine PJ.next ?_
  refine CJ.seq ?_
  refine CJ.less (E' := [(0, _), (1, _), (2, _)]) ⟨rfl, rfl, rfl, trivial⟩ ?_
  refine CJ.chn 9 [1] [([], some (.agg (lkC l))), ([0], none), ([], some _), ([2], some _), ([3], some (.int .i64 l.sr)), ([4], some _), ([], some _), ([6], some _), ([7], some (.int .i64 l.ss))] (fun cv L' H' => match cv with | [] => L' = [w1, w] ∧ H' = [(b2, .cells zK 23 (0, 0))] | [v1] => ∃ (b4 : Nat), v1 = .slice (some ⟨b4, 0, none⟩) 7 7 ∧ L' = [w1, w] ∧ H' = [(b4, vRowC (cV l) [] 78), (b2, .cells zK 23 (0, 0))] ∧ w1.heap.size ≤ b4 ∧ w.heap.size ≤ b4 ∧ b2 ≠ b4 | _ => False) (by kernel_rfl) ⟨rfl, rfl⟩ (by kernel_rfl) (by kernel_rfl) (by kernel_rfl) (by kernel_rfl) (by kernel_rfl) (by kernel_rfl) (pc (fun cv L' H' hd hP => match cv, hd, hP with | [], hd, hP => (by obtain ⟨rfl, rfl⟩ := hP; exact X.val (fun _ h => Op.noConfusion h) rfl (ldRAw_r Tryz.isAgg27 Tryz.sizeOf27 rfl (.head _) hb1 hm1 (by first | (simp only [Off, book, List.cons_append, List.nil_append, List.set_cons_zero, List.set_cons_succ, List.eraseIdx_cons_zero, List.eraseIdx_cons_succ, ne_eq, and_true]; omega) | (simp [Off] <;> omega)) rfl) (fun _ _ => rfl)) | [v1], hd, hP => (by obtain ⟨b4, rfl, rfl, rfl, ha4, hA4, ho4⟩ := hP; exact X.val (fun _ h => Op.noConfusion h) rfl (ldRAw_r Tryz.isAgg27 Tryz.sizeOf27 rfl (.head _) hb1 hm1 (by first | (simp only [Off, book, List.cons_append, List.nil_append, List.set_cons_zero, List.set_cons_succ, List.eraseIdx_cons_zero, List.eraseIdx_cons_succ, ne_eq, and_true]; omega) | (simp [Off] <;> omega)) rfl) (fun _ _ => rfl)) | _ :: _ :: _, _, hP => hP.elim) (pk (pc (fun cv L' H' hd hP => X.val (fun _ h => Op.noConfusion h) rfl (fld_r Tryz.underlying27 rfl Tryz.sizeOf25 rfl) (fun _ _ => rfl)) (pc (fun cv L' H' hd hP => X.val (fun _ h => Op.noConfusion h) rfl (fld_r Tryz.underlying25 rfl Tryz.sizeOf3 rfl) (fun _ _ => rfl)) (pc (fun cv L' H' hd hP => match cv, hd, hP with | [], hd, hP => (by obtain ⟨rfl, rfl⟩ := hP; exact X.val (fun _ h => Op.noConfusion h) rfl (ldR_r Tryz.isAgg3 rfl (.head _) hb1 hm1 (by first | (simp only [Off, book, List.cons_append, List.nil_append, List.set_cons_zero, List.set_cons_succ, List.eraseIdx_cons_zero, List.eraseIdx_cons_succ, ne_eq, and_true]; omega) | (simp [Off] <;> omega)) rfl) (fun _ _ => rfl)) | [v1], hd, hP => (by obtain ⟨b4, rfl, rfl, rfl, ha4, hA4, ho4⟩ := hP; exact X.val (fun _ h => Op.noConfusion h) rfl (ldR_r Tryz.isAgg3 rfl (.head _) hb1 hm1 (by first | (simp only [Off, book, List.cons_append, List.nil_append, List.set_cons_zero, List.set_cons_succ, List.eraseIdx_cons_zero, List.eraseIdx_cons_succ, ne_eq, and_true]; omega) | (simp [Off] <;> omega)) rfl) (fun _ _ => rfl)) | _ :: _ :: _, _, hP => hP.elim) (pc (fun cv L' H' hd hP => X.callV Tryz.call31 rfl rfl (fun W hS _ => r01_Int _ W) (fun _ => rfl)) (pc (fun cv L' H' hd hP => X.val (fun _ h => Op.noConfusion h) rfl (fld_r Tryz.underlying27 rfl Tryz.sizeOf25 rfl) (fun _ _ => rfl)) (pc (fun cv L' H' hd hP => X.val (fun _ h => Op.noConfusion h) rfl (fld_r Tryz.underlying25 rfl Tryz.sizeOf3 rfl) (fun _ _ => rfl)) (pc (fun cv L' H' hd hP => match cv, hd, hP with | [], hd, hP => (by obtain ⟨rfl, rfl⟩ := hP; exact X.val (fun _ h => Op.noConfusion h) rfl (ldR_r Tryz.isAgg3 rfl (.head _) hb1 hm1 (by first | (simp only [Off, book, List.cons_append, List.nil_append, List.set_cons_zero, List.set_cons_succ, List.eraseIdx_cons_zero, List.eraseIdx_cons_succ, ne_eq, and_true]; omega) | (simp [Off] <;> omega)) rfl) (fun _ _ => rfl)) | [v1], hd, hP => (by obtain ⟨b4, rfl, rfl, rfl, ha4, hA4, ho4⟩ := hP; exact X.val (fun _ h => Op.noConfusion h) rfl (ldR_r Tryz.isAgg3 rfl (.head _) hb1 hm1 (by first | (simp only [Off, book, List.cons_append, List.nil_append, List.set_cons_zero, List.set_cons_succ, List.eraseIdx_cons_zero, List.eraseIdx_cons_succ, ne_eq, and_true]; omega) | (simp [Off] <;> omega)) rfl) (fun _ _ => rfl)) | _ :: _ :: _, _, hP => hP.elim) (pn)))))))))) ?_ ?_
  · refine sc rfl rfl rfl ?_ ?_
    · intro cv L' H' hl hP F Q' hk
      obtain rfl := List.eq_nil_of_length_eq_zero hl
      obtain ⟨rfl, rfl⟩ := hP
      refine callXA (v := fun b : Nat => .slice (some ⟨b, 0, none⟩) 7 7) (bo := fun b : Nat => (b, vRowC (cV l) [] 78)) (Φ := fun _ => True) Tryz.call30 rfl rfl rfl (fun W hS => r40_ContentsA l W) ?_
      intro b4 ha ho _
      exact OJ.done (hk _ _ _ ⟨b4, rfl, rfl, rfl, ha.1, ha.2.1, ho.1⟩)
    exact sn
  · intro cv L' H' hl hP
    obtain ⟨v1, rfl⟩ := len1 hl
    obtain ⟨b4, rfl, rfl, rfl, ha4, hA4, ho4⟩ := hP
    refine call Tryz.call31 rfl rfl rfl (fun W hS => r01_Int _ W) ?_
    refine bslW Tryz.underlying75 Tryz.sizeOf78 Tryz.zeroValue78 rfl rfl rfl rfl rfl rfl rfl ?_
    intro b13 ha13 ho13
    simp only [Above] at ha13
    try simp only [Off, book, List.cons_append, List.nil_append, List.set_cons_zero, List.set_cons_succ, ne_eq] at ho13
    refine appW (i := 1) (m := 4) (ys := vCells (cV l)) (sp := []) (len := 7) (cap := 7) (news := vCells ([.int l.sr, .int l.ss] : List V)) (n := 2) rfl Tryz.underlying75 info78 rfl rfl rfl rfl rfl rfl rfl (vRow (l := [.int l.sr, .int l.ss]) (sp := []) (i := 0) Tryz.underlying75 rfl rfl) (vCells_len _ (cV_flat l)) rfl (Nat.le_refl _) ⟨by omega, by omega, trivial⟩ (by decide) (by decide) ?_
    intro b14 c14 s14 ha14 hc14 hs14
    simp only [Above] at ha14
    refine OJ.reH (H' := [(b13, vRowC [.int l.sr, .int l.ss] [] 78), (b14, vRowC (idV l) s14 78), (b2, .cells zK 23 (0, 0))]) (by simp only [vRowC, idV, vCells_app]; rfl) ?_
    refine call Tryz.call29 rfl rfl rfl (fun W hS => by rw [← hdf]; exact r40_hash hZ (⟨#[108, 105, 110, 107]⟩ : ByteArray) (by decide) (idV l) hff.1 hff.2.1 hff.2.2 W.heap.size b14 c14 W (Nat.le_refl _) (flat_at rfl (hS.lt _ (.tail _ (.head _))) hc14 (hS.own _ (.tail _ (.head _))))) (v := .agg (dg df)) ?_
    refine stWw (i := 2) rfl Tryz.sizeOf23 rfl rfl rfl rfl rfl rfl ?_
    refine OJ.done ?_
    refine PJ.next ?_
    refine CJ.ret ?_
    refine retO (.inl rfl) Tryz.results10 (RS.wA (i := 2) rfl Tryz.isAgg23 Tryz.sizeOf23 rfl (Nat.le_of_ble_eq_true rfl) (RS.n)) (.tail _ (.head _)) (by first | (simp only [Over, List.set_cons_zero, List.set_cons_succ, List.eraseIdx_cons_zero, List.eraseIdx_cons_succ, and_true]; omega) | (simp [Over] <;> omega)) ?_
    rw [hdf]; rfl

/-- chartroom/links.ID -/
theorem links_ID {Z : Fx} (hZ : FxOk Z) (l : Lk) (hl : LkOk l) (w : World) (hg : Glb w) :
    Calls Tryz.prog 9 #[.agg (lkC l)] w (Ret w (.agg (dg (idD Z l)))) := by
  have hg4 := hg.lt
  obtain ⟨df, hdf⟩ : ∃ df, idD Z l = df := ⟨_, rfl⟩
  refine enter (vs := [_]) Tryz.func9 rfl Tryz.ntmps9 rfl ?_
  refine CJ.seq ?_
  refine CJ.region ?_
  refine boxR rfl rfl rfl ?_
  intro b1 w1 hb1 ha1 ho1 hm1 hz1
  simp only [Above] at ha1
  try simp only [Off, book, List.cons_append, List.nil_append, List.set_cons_zero, List.set_cons_succ, ne_eq] at ho1
  refine allW Tryz.zeroValue23 rfl rfl ?_
  intro b2 ha2 ho2
  simp only [Above] at ha2
  try simp only [Off, book, List.cons_append, List.nil_append, List.set_cons_zero, List.set_cons_succ, ne_eq] at ho2
  refine OJ.done ?_
  refine PJ.next ?_
  refine CJ.seq ?_
  refine CJ.region ?_
  refine rv (fun _ h => Op.noConfusion h) rfl rfl (ldRAw_r Tryz.isAgg27 Tryz.sizeOf27 rfl (.head _) hb1 hm1 (by first | (simp only [Off, book, List.cons_append, List.nil_append, List.set_cons_zero, List.set_cons_succ, List.eraseIdx_cons_zero, List.eraseIdx_cons_succ, ne_eq, and_true]; omega) | (simp [Off] <;> omega)) rfl) ?_
  refine rv (fun _ h => Op.noConfusion h) rfl rfl (bldS_r Tryz.underlying64 Tryz.zeroValue64 (PlF.c Tryz.sizeOf27 (PlF.n)) rfl rfl) ?_
  refine call Tryz.call28 rfl rfl rfl (fun W hS => by rw [← hdf]; exact links_id hZ l hl W (hg.old hS (.tail _ (.head _)) (fun _ _ h => h) (by first | exact True.intro | (simp only [Over, List.set_cons_zero, List.set_cons_succ, List.eraseIdx_cons_zero, List.eraseIdx_cons_succ, and_true]; omega)))) (v := .agg (dg df)) ?_
  refine stWw (i := 0) rfl Tryz.sizeOf23 rfl rfl rfl rfl rfl rfl ?_
  refine OJ.done ?_
  refine PJ.next ?_
  refine CJ.ret ?_
  refine retO (.inl rfl) Tryz.results9 (RS.wA (i := 0) rfl Tryz.isAgg23 Tryz.sizeOf23 rfl (Nat.le_of_ble_eq_true rfl) (RS.n)) (.tail _ (.head _)) (by first | (simp only [Over, List.set_cons_zero, List.set_cons_succ, List.eraseIdx_cons_zero, List.eraseIdx_cons_succ, and_true]; omega) | (simp [Over] <;> omega)) ?_
  rw [hdf]; rfl

end Px
