/- Contracts of Audit at the empty record; the examples of the chapter. No condition beyond those that each theorem states. -/
import Derived.Test.YtjmmhdkjjmlnlaaGreatDoorKj
import Derived.Test.YtjmmhdkjjmlnlaaGreatDoorProg
set_option linter.unusedSimpArgs false
set_option linter.unusedVariables false
set_option linter.unusedSectionVars false
namespace Px
open Go Go.RowKit Go.Proofs
/-- a report that deletes nothing -/
def rpC (p : Po) (ea : Option Addr) (en ec : Nat) : Array Value := #[.int .i64 p.fo, .bool p.two, .slice p.la p.left.length p.lc, .slice p.ra p.right.length p.rc, .int .i64 p.least, .int .i64 p.most, .slice ea en ec, .slice none 0 0]
/-- (chartroom/policy.set[chartroom/api.Digest]).has -/
theorem setD_has0 (m c : Nat) (f : Nat → Int) (w : World) (hm0 : w.heap[m]? = some (.map #[] c)) :
    Calls Tryz.prog 55 #[.map (some m), .agg (dg f)] w (Ret w (.bool false)) := by
  
  refine enter (vs := [_, _]) Tryz.func55 rfl Tryz.ntmps55 rfl ?_
  refine CJ.seq ?_
  refine CJ.region ?_
  refine boxR rfl rfl rfl ?_
  intro b3 w3 hb3 ha3 ho3 hm3 hz3
  simp only [Above] at ha3
  try simp only [Off, book, List.cons_append, List.nil_append, List.set_cons_zero, List.set_cons_succ, ne_eq] at ho3
  refine rv rfl rfl rfl (asg_r rfl) ?_
  refine OJ.done ?_
  refine PJ.next ?_
  refine CJ.seq ?_
  refine CJ.region ?_
  refine rv rfl rfl rfl (mv_r rfl) ?_
  refine rv rfl rfl rfl (RV.re (v' := .agg (dg f)) (ldRAw_r Tryz.isAgg26 Tryz.sizeOf26 rfl (.head _) hb3 hm3 trivial rfl) (rfl)) ?_
  refine rv rfl rfl rfl (mlook0_r Tryz.underlying120 Tryz.underlying26 Tryz.underlying5 Tryz.isAgg5 Tryz.sizeOf5 Tryz.zeroValue138 (fun i hi => ⟨_, dg_at f i hi⟩) (Lies.old (.tail _ (.head _)) hm0 (fun h => h) trivial) rfl rfl) ?_
  refine rv rfl rfl rfl (mv_r rfl) ?_
  refine rv rfl rfl rfl (ext_r rfl rfl) ?_
  refine rv rfl rfl rfl (ext_r rfl rfl) ?_
  refine allW Tryz.zeroValue138 rfl rfl ?_
  intro b5 ha5 ho5
  simp only [Above] at ha5
  try simp only [Off, book, List.cons_append, List.nil_append, List.set_cons_zero, List.set_cons_succ, ne_eq] at ho5
  refine stWw (i := 0) rfl Tryz.sizeOf138 rfl rfl rfl rfl rfl rfl ?_
  refine rv rfl rfl rfl (asg_r rfl) ?_
  refine OJ.done ?_
  refine PJ.next ?_
  refine CJ.seq ?_
  refine CJ.region ?_
  refine rv rfl rfl rfl (mv_r rfl) ?_
  refine rv rfl rfl rfl (asg_r rfl) ?_
  refine OJ.done ?_
  refine PJ.next ?_
  refine CJ.ret ?_
  refine retO (.inl rfl) Tryz.results55 (RS.t rfl (RS.n)) (.tail _ (.head _)) (by first | (simp only [Over, List.set_cons_zero, List.set_cons_succ, List.eraseIdx_cons_zero, List.eraseIdx_cons_succ, and_true]; omega) | (simp [Over] <;> omega)) ?_
  rfl
/-- chartroom/policy.Audit$1 -/
theorem audit1_nil (p : Po) (b7 b6 b9 : Nat) (w : World) (hb0 : w.heap[b7]? = some (.cells (rpC p none 0 0) 63 (0, 0))) :
    Calls Tryz.prog 58 #[ptr b7 0, ptr b6 0, ptr b9 0] w (Ret w (.int .i64 0)) := by
  have hm0 : ¬ Gh.no.X b7 := fun h => h
  refine enter (vs := [_, _, _]) Tryz.func58 rfl Tryz.ntmps58 rfl ?_
  refine CJ.seq ?_
  refine CJ.region ?_
  refine rv rfl rfl rfl (asg_r rfl) ?_
  refine OJ.done ?_
  refine PJ.next ?_
  refine CJ.seq ?_
  refine CJ.seq ?_
  refine CJ.region ?_
  refine rv rfl rfl rfl (fld_r Tryz.underlying63 rfl Tryz.sizeOf43 rfl) ?_
  refine rv rfl rfl rfl (RV.re (v' := .slice none 0 0) (ldR_r Tryz.isAgg43 rfl (.head _) hb0 hm0 trivial rfl) (rfl)) ?_
  refine rv rfl rfl rfl (lenS_r Tryz.underlying43 rfl) ?_
  refine rv rfl rfl rfl (mv_r rfl) ?_
  refine OJ.done ?_
  refine PJ.next ?_
  refine CJ.block ?_
  refine CJ.loop (α := Nat) (fun j => [(9, .int .i64 0), (10, .int .i64 0)]) (fun j => []) (fun j => [w]) (fun j => Gh.no) (fun j => True) (fun j => 0) 0 True.intro ⟨rfl, rfl, trivial⟩ rfl rfl (by simp) ?_
  rintro j _
  refine CJ.seq ?_
  refine CJ.region ?_
  refine rv rfl rfl rfl (RV.re (v' := .bool false) (lss_r rfl rfl) (congrArg Value.bool (decide_eq_false (by omega)))) ?_
  refine OJ.done ?_
  refine PJ.next ?_
  refine CJ.seq ?_
  refine CJ.condF rfl ?_
  refine CJ.exit ?_
  refine PJ.exThen ?_
  refine PJ.exThen ?_
  refine PJ.exHit ?_
  refine PJ.next ?_
  refine CJ.seq ?_
  refine CJ.region ?_
  refine rv rfl rfl rfl (asg_r rfl) ?_
  refine OJ.done ?_
  refine PJ.next ?_
  refine CJ.ret ?_
  refine retV Tryz.results58 rfl (.head _) ?_
  rfl
set_option maxHeartbeats 400000 in
/-- chartroom/policy.Audit$1 -/
theorem audit1_one {Z : Fx} (hZ : FxOk Z) (p : Po) (hf : PoFew p) (ls : List Ls) (hl : ls.length ≤ 1000000) (f : Nat → Int) (cs : List Cn) (hcl : cs.length ≤ 1000000) (N : Nat) (a : Option Addr) (cp : Nat) (ca : Option Addr) (cc : Nat) (w : World) (hN : N ≤ w.heap.size) (hp : PoAt N w p) (hsl : SlAt lsC 5 N w a ls) (hcs : SlAt cnC 3 N w ca cs) (hg : Glb w) (hg2 : 2 ≤ N) (hx0 : expI Z p ls (⟨f, ca, cs, cc⟩ : Ex) = 0) (be : Nat) (hbe : w.heap[be]? = some (.cells (exC (⟨f, ca, cs, cc⟩ : Ex)) 41 (0, 0))) (b7 b6 b9 m mc : Nat) (hb0 : w.heap[b7]? = some (.cells (rpC p (some ⟨be, 0, none⟩) 1 1) 63 (0, 0))) (hb1 : w.heap[b6]? = some (.cells #[.slice a ls.length cp] 38 (0, 0))) (hb2 : w.heap[b9]? = some (.cells #[.map (some m)] 120 (0, 0))) (hmm : w.heap[m]? = some (.map #[] mc)) :
    Calls Tryz.prog 58 #[ptr b7 0, ptr b6 0, ptr b9 0] w (Ret w (.int .i64 460)) := by
  have hm0 : ¬ Gh.no.X b7 := fun h => h
  have hm1 : ¬ Gh.no.X b6 := fun h => h
  have hm2 : ¬ Gh.no.X b9 := fun h => h
  have hl0 := (Array.getElem?_eq_some_iff.1 hb0).1
  have hl1 := (Array.getElem?_eq_some_iff.1 hb1).1
  have hl2 := (Array.getElem?_eq_some_iff.1 hb2).1
  have hl3 := (Array.getElem?_eq_some_iff.1 hmm).1
  have hl4 := (Array.getElem?_eq_some_iff.1 hbe).1
  refine enter (vs := [_, _, _]) Tryz.func58 rfl Tryz.ntmps58 rfl ?_
  refine CJ.seq ?_
  refine CJ.region ?_
  refine rv rfl rfl rfl (asg_r rfl) ?_
  refine OJ.done ?_
  refine PJ.next ?_
  refine CJ.seq ?_
  refine CJ.seq ?_
  refine CJ.region ?_
  refine rv rfl rfl rfl (fld_r Tryz.underlying63 rfl Tryz.sizeOf43 rfl) ?_
  refine rv rfl rfl rfl (RV.re (v' := .slice (some ⟨be, 0, none⟩) 1 1) (ldR_r Tryz.isAgg43 rfl (.head _) hb0 hm0 trivial rfl) (rfl)) ?_
  refine rv rfl rfl rfl (lenS_r Tryz.underlying43 rfl) ?_
  refine rv rfl rfl rfl (mv_r rfl) ?_
  refine OJ.done ?_
  refine PJ.next ?_
  refine CJ.block ?_
  refine CJ.loop (α := Nat) (fun j => [(0, ptr b7 0), (1, ptr b6 0), (2, ptr b9 0), (8, .slice (some ⟨be, 0, none⟩) 1 1), (9, .int .i64 1), (10, .int .i64 (j : Int))]) (fun j => []) (fun j => [w]) (fun j => Gh.no) (fun j => j = 0) (fun j => 0) 0 rfl ⟨rfl, rfl, rfl, rfl, rfl, rfl, trivial⟩ rfl rfl (by simp) ?_
  rintro j hj0
  obtain rfl : j = 0 := hj0
  refine CJ.seq ?_
  refine CJ.region ?_
  refine rv rfl rfl rfl (RV.re (v' := .bool true) (lss_r rfl rfl) (congrArg Value.bool (decide_eq_true (by omega)))) ?_
  refine OJ.done ?_
  refine PJ.next ?_
  refine CJ.seq ?_
  refine CJ.condT rfl ?_
  refine CJ.skip ?_
  refine PJ.next ?_
  refine CJ.seq ?_
  refine CJ.block ?_
  refine CJ.seq ?_
  refine CJ.region ?_
  refine rv rfl rfl rfl (idxS_r Tryz.underlying43 Tryz.sizeOf41 rfl rfl (by omega) (by omega)) ?_
  refine rv rfl rfl rfl (RV.re (v' := .agg (exC (⟨f, ca, cs, cc⟩ : Ex))) (ldRA_r Tryz.isAgg41 Tryz.sizeOf41 rfl (.head _) hbe (fun h => h) trivial (Nat.le_of_ble_eq_true rfl)) rfl) ?_
  refine allW Tryz.zeroValue41 rfl rfl ?_
  intro b5 ha5 ho5
  simp only [Above] at ha5
  try simp only [Off, book, List.cons_append, List.nil_append, List.set_cons_zero, List.set_cons_succ, ne_eq] at ho5
  refine stWw (i := 0) rfl Tryz.sizeOf41 rfl rfl rfl rfl rfl rfl ?_
  refine OJ.done ?_
  refine PJ.next ?_
  refine CJ.seq ?_
  refine CJ.seq ?_
  refine CJ.region ?_
  refine rv rfl rfl rfl (fld_r Tryz.underlying63 rfl Tryz.sizeOf24 rfl) ?_
  refine rv rfl rfl rfl (RV.re (v' := .agg (poC p)) (ldRA_r Tryz.isAgg24 Tryz.sizeOf24 rfl (.head _) hb0 hm0 (by first | (simp only [Off, book, List.cons_append, List.nil_append, List.set_cons_zero, List.set_cons_succ, List.eraseIdx_cons_zero, List.eraseIdx_cons_succ, ne_eq, and_true]; omega) | (simp [Off] <;> omega)) (Nat.le_of_ble_eq_true rfl)) (rfl)) ?_
  refine rv rfl rfl rfl (RV.re (v' := .slice a ls.length cp) (ldR_r Tryz.isAgg38 rfl (.head _) hb1 hm1 (by first | (simp only [Off, book, List.cons_append, List.nil_append, List.set_cons_zero, List.set_cons_succ, List.eraseIdx_cons_zero, List.eraseIdx_cons_succ, ne_eq, and_true]; omega) | (simp [Off] <;> omega)) rfl) (rfl)) ?_
  refine rv rfl rfl rfl (RV.re (v' := .agg (exC (⟨f, ca, cs, cc⟩ : Ex))) (ldWAw_r (i := 0) rfl Tryz.isAgg41 Tryz.sizeOf41 rfl rfl) (rfl)) ?_
  refine call Tryz.call14 rfl rfl rfl (fun W hS => by rw [← hx0]; have hsm := hS.same (w := w) (.head _) hN (fun _ _ h => h) (by first | exact True.intro | (simp only [Over, List.set_cons_zero, List.set_cons_succ, List.eraseIdx_cons_zero, List.eraseIdx_cons_succ, and_true]; omega)); exact policy_Export hZ p hf ls hl f cs hcl N a cp ca cc W (Nat.le_trans hN (hS.links _ (.head _)).size) (hp.up (Nat.le_refl _) hsm) (hsl.up (Nat.le_refl _) hsm) (hcs.up (Nat.le_refl _) hsm) (hg.old hS (.head _) (fun _ _ h => h) (by first | exact True.intro | (simp only [Over, List.set_cons_zero, List.set_cons_succ, List.eraseIdx_cons_zero, List.eraseIdx_cons_succ, and_true]; omega))) hg2) (v := .int .i64 0) ?_
  refine rv rfl rfl rfl (asg_r rfl) ?_
  refine OJ.done ?_
  refine PJ.next ?_
  refine CJ.seq ?_
  refine CJ.region ?_
  refine rv rfl rfl rfl (mv_r rfl) ?_
  refine rv rfl rfl rfl (RV.re (v' := .bool false) (neqI_r rfl rfl) rfl) ?_
  refine OJ.done ?_
  refine PJ.next ?_
  refine CJ.condF rfl ?_
  refine CJ.skip ?_
  refine PJ.next ?_
  refine CJ.seq ?_
  refine CJ.region ?_
  refine rv rfl rfl rfl (RV.re (v' := .map (some m)) (ldR_r Tryz.isAgg120 rfl (.head _) hb2 hm2 (by first | (simp only [Off, book, List.cons_append, List.nil_append, List.set_cons_zero, List.set_cons_succ, List.eraseIdx_cons_zero, List.eraseIdx_cons_succ, ne_eq, and_true]; omega) | (simp [Off] <;> omega)) rfl) (rfl)) ?_
  refine rv rfl rfl rfl (fld_r Tryz.underlying41 rfl Tryz.sizeOf26 rfl) ?_
  refine rv rfl rfl rfl (RV.re (v' := .agg (dg f)) (ldWA_r (i := 0) rfl Tryz.isAgg26 Tryz.sizeOf26 rfl (Nat.le_of_ble_eq_true rfl)) (rfl)) ?_
  refine call Tryz.call55 rfl rfl rfl (fun W hS => setD_has0 m mc f W (hS.old (.head _) hmm (fun h => h) (by first | exact True.intro | (simp only [Off, List.set_cons_zero, List.set_cons_succ, List.eraseIdx_cons_zero, List.eraseIdx_cons_succ, ne_eq, and_true]; omega)))) ?_
  refine rv rfl rfl rfl (notB_r rfl) ?_
  refine OJ.done ?_
  refine PJ.next ?_
  refine CJ.condT rfl ?_
  refine CJ.seq ?_
  refine CJ.region ?_
  refine rv rfl rfl rfl (asg_r rfl) ?_
  refine OJ.done ?_
  refine PJ.next ?_
  refine CJ.ret ?_
  refine PJ.retBlock ?_
  refine PJ.retThen ?_
  refine PJ.retThen ?_
  refine PJ.retBlock ?_
  refine PJ.retThen ?_
  refine retO (.inl rfl) Tryz.results58 (RS.t rfl (RS.n)) (.head _) (by first | (simp only [Over, List.set_cons_zero, List.set_cons_succ, List.eraseIdx_cons_zero, List.eraseIdx_cons_succ, and_true]; omega) | (simp [Over] <;> omega)) ?_
  rfl
/-- chartroom/policy.Audit$2 -/
theorem audit2 (p : Po) (hf : PoFew p) (hk0 : chkI p = 0) (N : Nat) (w : World) (hN : N ≤ w.heap.size) (hp : PoAt N w p) (ea : Option Addr) (en ec b4 b5 b7 : Nat) (hb0 : w.heap[b4]? = some (.cells nilsR 74 (0, 0))) (hb1 : w.heap[b5]? = some (.cells #[.slice none 0 0] 104 (0, 0))) (hb2 : w.heap[b7]? = some (.cells (rpC p ea en ec) 63 (0, 0))) :
    Calls Tryz.prog 59 #[ptr b4 0, ptr b5 0, ptr b7 0] w (Ret w (.int .i64 0)) := by
  have hm0 : ¬ Gh.no.X b4 := fun h => h
  have hm1 : ¬ Gh.no.X b5 := fun h => h
  have hm2 : ¬ Gh.no.X b7 := fun h => h
  refine enter (vs := [_, _, _]) Tryz.func59 rfl Tryz.ntmps59 rfl ?_
  refine CJ.seq ?_
  refine CJ.region ?_
  refine rv rfl rfl rfl (asg_r rfl) ?_
  refine OJ.done ?_
  refine PJ.next ?_
  refine CJ.seq ?_
  refine CJ.region ?_
  refine rv rfl rfl rfl (RV.re (v' := .agg nilsR) (ldRA_r Tryz.isAgg74 Tryz.sizeOf74 rfl (.head _) hb0 hm0 trivial (Nat.le_of_ble_eq_true rfl)) (rfl)) ?_
  refine rv rfl rfl rfl (RV.re (v' := .slice none 0 0) (ldR_r Tryz.isAgg104 rfl (.head _) hb1 hm1 trivial rfl) (rfl)) ?_
  refine rv rfl rfl rfl (fld_r Tryz.underlying63 rfl Tryz.sizeOf24 rfl) ?_
  refine rv rfl rfl rfl (RV.re (v' := .agg (poC p)) (ldRA_r Tryz.isAgg24 Tryz.sizeOf24 rfl (.head _) hb2 hm2 trivial (Nat.le_of_ble_eq_true rfl)) (rfl)) ?_
  refine call Tryz.call21 rfl rfl rfl (fun W hS => policy_Apart0 p hf hk0 N W (Nat.le_trans hN (hS.links _ (.head _)).size) (hp.up (Nat.le_refl _) (hS.same (.head _) hN (fun _ _ h => h) (by first | exact True.intro | (simp only [Over, List.set_cons_zero, List.set_cons_succ, List.eraseIdx_cons_zero, List.eraseIdx_cons_succ, and_true]; omega))))) ?_
  refine rv rfl rfl rfl (asg_r rfl) ?_
  refine OJ.done ?_
  refine PJ.next ?_
  refine CJ.ret ?_
  refine retV Tryz.results59 rfl (.head _) ?_
  rfl
/-- chartroom/policy.Audit$3 -/
theorem audit3 (p : Po) (hf : PoFew p) (hk0 : chkI p = 0) (N : Nat) (w : World) (hN : N ≤ w.heap.size) (hp : PoAt N w p) (ea : Option Addr) (en ec b4 b7 : Nat) (hb0 : w.heap[b4]? = some (.cells nilsR 74 (0, 0))) (hb1 : w.heap[b7]? = some (.cells (rpC p ea en ec) 63 (0, 0))) :
    Calls Tryz.prog 60 #[ptr b4 0, ptr b7 0] w (Ret w (.int .i64 0)) := by
  have hm0 : ¬ Gh.no.X b4 := fun h => h
  have hm1 : ¬ Gh.no.X b7 := fun h => h
  refine enter (vs := [_, _]) Tryz.func60 rfl Tryz.ntmps60 rfl ?_
  refine CJ.seq ?_
  refine CJ.region ?_
  refine rv rfl rfl rfl (asg_r rfl) ?_
  refine OJ.done ?_
  refine PJ.next ?_
  refine CJ.seq ?_
  refine CJ.region ?_
  refine rv rfl rfl rfl (RV.re (v' := .agg nilsR) (ldRA_r Tryz.isAgg74 Tryz.sizeOf74 rfl (.head _) hb0 hm0 trivial (Nat.le_of_ble_eq_true rfl)) (rfl)) ?_
  refine rv rfl rfl rfl (fld_r Tryz.underlying63 rfl Tryz.sizeOf24 rfl) ?_
  refine rv rfl rfl rfl (RV.re (v' := .agg (poC p)) (ldRA_r Tryz.isAgg24 Tryz.sizeOf24 rfl (.head _) hb1 hm1 trivial (Nat.le_of_ble_eq_true rfl)) (rfl)) ?_
  refine rv rfl rfl rfl (fld_r Tryz.underlying63 rfl Tryz.sizeOf61 rfl) ?_
  refine rv rfl rfl rfl (RV.re (v' := .slice none 0 0) (ldR_r Tryz.isAgg61 rfl (.head _) hb1 hm1 trivial rfl) (rfl)) ?_
  refine call Tryz.call22 rfl rfl rfl (fun W hS => policy_Retain0 p hf hk0 N W (Nat.le_trans hN (hS.links _ (.head _)).size) (hp.up (Nat.le_refl _) (hS.same (.head _) hN (fun _ _ h => h) (by first | exact True.intro | (simp only [Over, List.set_cons_zero, List.set_cons_succ, List.eraseIdx_cons_zero, List.eraseIdx_cons_succ, and_true]; omega))))) ?_
  refine rv rfl rfl rfl (asg_r rfl) ?_
  refine OJ.done ?_
  refine PJ.next ?_
  refine CJ.ret ?_
  refine retV Tryz.results60 rfl (.head _) ?_
  rfl
/-- chartroom/policy.first -/
theorem first_1 (g : Nat) (hent : Ent Tryz.prog g) (cap : List Value) (F1 F2 : Value) (b : Nat) (w : World) (hq0 : (∀ W, Below w.heap.size w W → Calls Tryz.prog g cap.toArray W (Ret W (.int .i64 460)))) (hb : w.heap[b]? = some (.cells #[.func (.func g) #[] cap.toArray, F1, F2] 127 (0, 0))) :
    Calls Tryz.prog 61 #[.slice (some ⟨b, 0, none⟩) 3 3] w (Ret w (.int .i64 460)) := by
  
  refine enter (vs := [_]) Tryz.func61 rfl Tryz.ntmps61 rfl ?_
  refine CJ.seq ?_
  refine CJ.region ?_
  refine rv rfl rfl rfl (asg_r rfl) ?_
  refine OJ.done ?_
  refine PJ.next ?_
  refine CJ.seq ?_
  refine CJ.seq ?_
  refine CJ.region ?_
  refine rv rfl rfl rfl (mv_r rfl) ?_
  refine rv rfl rfl rfl (lenS_r Tryz.underlying184 rfl) ?_
  refine rv rfl rfl rfl (mv_r rfl) ?_
  refine OJ.done ?_
  refine PJ.next ?_
  refine CJ.block ?_
  refine CJ.loop (α := Nat) (fun j => [(6, .slice (some ⟨b, 0, none⟩) 3 3), (7, .int .i64 3), (8, .int .i64 (j : Int))]) (fun j => []) (fun j => [w]) (fun j => Gh.no) (fun j => j = 0) (fun j => 0) 0 rfl ⟨rfl, rfl, rfl, trivial⟩ rfl rfl (by simp) ?_
  rintro j hj0
  obtain rfl : j = 0 := hj0
  refine CJ.seq ?_
  refine CJ.region ?_
  refine rv rfl rfl rfl (RV.re (v' := .bool true) (lss_r rfl rfl) (congrArg Value.bool (decide_eq_true (by omega)))) ?_
  refine OJ.done ?_
  refine PJ.next ?_
  refine CJ.seq ?_
  refine CJ.condT rfl ?_
  refine CJ.skip ?_
  refine PJ.next ?_
  refine CJ.seq ?_
  refine CJ.block ?_
  refine CJ.seq ?_
  refine CJ.region ?_
  refine rv rfl rfl rfl (idxS_r Tryz.underlying184 Tryz.sizeOf127 rfl rfl (by omega) (by omega)) ?_
  refine rv rfl rfl rfl (ldR_r (v := .func (.func g) #[] cap.toArray) Tryz.isAgg127 rfl (.head _) hb (fun h => h) trivial rfl) ?_
  refine rv rfl rfl rfl (asg_r rfl) ?_
  refine OJ.done ?_
  refine PJ.next ?_
  refine CJ.seq ?_
  refine CJ.region ?_
  refine rv rfl rfl rfl (mv_r rfl) ?_
  refine callC (f := g) (cap := cap) rfl hent rfl rfl rfl (fun W hS => hq0 W (hS.belowNo (.head _))) ?_
  refine rv rfl rfl rfl (asg_r rfl) ?_
  refine OJ.done ?_
  refine PJ.next ?_
  refine CJ.seq ?_
  refine CJ.region ?_
  refine rv rfl rfl rfl (mv_r rfl) ?_
  refine rv rfl rfl rfl (RV.re (v' := .bool true) (neqI_r rfl rfl) rfl) ?_
  refine OJ.done ?_
  refine PJ.next ?_
  refine CJ.condT rfl ?_
  refine CJ.seq ?_
  refine CJ.region ?_
  refine rv rfl rfl rfl (mv_r rfl) ?_
  refine rv rfl rfl rfl (asg_r rfl) ?_
  refine OJ.done ?_
  refine PJ.next ?_
  refine CJ.ret ?_
  refine PJ.retBlock ?_
  refine PJ.retThen ?_
  refine PJ.retThen ?_
  refine PJ.retBlock ?_
  refine PJ.retThen ?_
  refine retV Tryz.results61 rfl (.head _) ?_
  rfl
/-- chartroom/policy.first -/
theorem first_3 (g0 : Nat) (hent0 : Ent Tryz.prog g0) (cap0 : List Value) (g1 : Nat) (hent1 : Ent Tryz.prog g1) (cap1 : List Value) (g2 : Nat) (hent2 : Ent Tryz.prog g2) (cap2 : List Value) (b : Nat) (w : World) (hq0 : (∀ W, Below w.heap.size w W → Calls Tryz.prog g0 cap0.toArray W (Ret W (.int .i64 0)))) (hq1 : (∀ W, Below w.heap.size w W → Calls Tryz.prog g1 cap1.toArray W (Ret W (.int .i64 0)))) (hq2 : (∀ W, Below w.heap.size w W → Calls Tryz.prog g2 cap2.toArray W (Ret W (.int .i64 0)))) (hb : w.heap[b]? = some (.cells #[.func (.func g0) #[] cap0.toArray, .func (.func g1) #[] cap1.toArray, .func (.func g2) #[] cap2.toArray] 127 (0, 0))) :
    Calls Tryz.prog 61 #[.slice (some ⟨b, 0, none⟩) 3 3] w (Ret w (.int .i64 0)) := by
  
  refine enter (vs := [_]) Tryz.func61 rfl Tryz.ntmps61 rfl ?_
  refine CJ.seq ?_
  refine CJ.region ?_
  refine rv rfl rfl rfl (asg_r rfl) ?_
  refine OJ.done ?_
  refine PJ.next ?_
  refine CJ.seq ?_
  refine CJ.seq ?_
  refine CJ.region ?_
  refine rv rfl rfl rfl (mv_r rfl) ?_
  refine rv rfl rfl rfl (lenS_r Tryz.underlying184 rfl) ?_
  refine rv rfl rfl rfl (mv_r rfl) ?_
  refine OJ.done ?_
  refine PJ.next ?_
  refine CJ.block ?_
  refine CJ.loop (α := Nat) (fun j => [(6, .slice (some ⟨b, 0, none⟩) 3 3), (7, .int .i64 3), (8, .int .i64 (j : Int))]) (fun j => []) (fun j => [w]) (fun j => Gh.no) (fun j => j ≤ 3) (fun j => 3 - j) 0 (by omega) ⟨rfl, rfl, rfl, trivial⟩ rfl rfl (by simp) ?_
  rintro j hj
  refine CJ.seq ?_
  refine CJ.region ?_
  refine rv rfl rfl rfl (lss_r rfl rfl) ?_
  refine OJ.done ?_
  refine PJ.next ?_
  refine CJ.seq ?_
  refine CJ.cond rfl (fun hc1 => ?_) (fun hc1 => ?_)
  · try simp only [decide_eq_true_eq, decide_eq_false_iff_not, Bool.not_eq_true', Bool.not_eq_false'] at hc1
    refine CJ.skip ?_
    refine PJ.next ?_
    refine CJ.seq ?_
    refine CJ.block ?_
    refine CJ.seq ?_
    by_cases h1 : j = 0
    · subst h1
      refine CJ.region ?_
      refine rv rfl rfl rfl (idxS_r Tryz.underlying184 Tryz.sizeOf127 rfl rfl (by omega) (by omega)) ?_
      refine rv rfl rfl rfl (ldR_r (v := .func (.func g0) #[] cap0.toArray) Tryz.isAgg127 rfl (.head _) hb (fun h => h) trivial rfl) ?_
      refine rv rfl rfl rfl (asg_r rfl) ?_
      refine OJ.done ?_
      refine PJ.next ?_
      refine CJ.seq ?_
      refine CJ.region ?_
      refine rv rfl rfl rfl (mv_r rfl) ?_
      refine callC (f := g0) (cap := cap0) rfl hent0 rfl rfl rfl (fun W hS => hq0 W (hS.belowNo (.head _))) ?_
      refine rv rfl rfl rfl (asg_r rfl) ?_
      refine OJ.done ?_
      refine PJ.next ?_
      refine CJ.seq ?_
      refine CJ.region ?_
      refine rv rfl rfl rfl (mv_r rfl) ?_
      refine rv rfl rfl rfl (RV.re (v' := .bool false) (neqI_r rfl rfl) rfl) ?_
      refine OJ.done ?_
      refine PJ.next ?_
      refine CJ.condF rfl ?_
      refine CJ.skip ?_
      refine PJ.norBlock ?_
      refine PJ.next ?_
      refine CJ.region ?_
      refine rv rfl rfl rfl (addI_r rfl rfl (by omega) (by omega)) ?_
      refine rv rfl rfl rfl (mv_r rfl) ?_
      refine OJ.done ?_
      refine PJ.again 1 (by omega) (by omega) ⟨rfl, rfl, rfl, trivial⟩ rfl rfl (by simp)
    · by_cases h2 : j = 1
      · subst h2
        refine CJ.region ?_
        refine rv rfl rfl rfl (idxS_r Tryz.underlying184 Tryz.sizeOf127 rfl rfl (by omega) (by omega)) ?_
        refine rv rfl rfl rfl (ldR_r (v := .func (.func g1) #[] cap1.toArray) Tryz.isAgg127 rfl (.head _) hb (fun h => h) trivial rfl) ?_
        refine rv rfl rfl rfl (asg_r rfl) ?_
        refine OJ.done ?_
        refine PJ.next ?_
        refine CJ.seq ?_
        refine CJ.region ?_
        refine rv rfl rfl rfl (mv_r rfl) ?_
        refine callC (f := g1) (cap := cap1) rfl hent1 rfl rfl rfl (fun W hS => hq1 W (hS.belowNo (.head _))) ?_
        refine rv rfl rfl rfl (asg_r rfl) ?_
        refine OJ.done ?_
        refine PJ.next ?_
        refine CJ.seq ?_
        refine CJ.region ?_
        refine rv rfl rfl rfl (mv_r rfl) ?_
        refine rv rfl rfl rfl (RV.re (v' := .bool false) (neqI_r rfl rfl) rfl) ?_
        refine OJ.done ?_
        refine PJ.next ?_
        refine CJ.condF rfl ?_
        refine CJ.skip ?_
        refine PJ.norBlock ?_
        refine PJ.next ?_
        refine CJ.region ?_
        refine rv rfl rfl rfl (addI_r rfl rfl (by omega) (by omega)) ?_
        refine rv rfl rfl rfl (mv_r rfl) ?_
        refine OJ.done ?_
        refine PJ.again 2 (by omega) (by omega) ⟨rfl, rfl, rfl, trivial⟩ rfl rfl (by simp)
      · have h3 : j = 2 := by omega
        subst h3
        refine CJ.region ?_
        refine rv rfl rfl rfl (idxS_r Tryz.underlying184 Tryz.sizeOf127 rfl rfl (by omega) (by omega)) ?_
        refine rv rfl rfl rfl (ldR_r (v := .func (.func g2) #[] cap2.toArray) Tryz.isAgg127 rfl (.head _) hb (fun h => h) trivial rfl) ?_
        refine rv rfl rfl rfl (asg_r rfl) ?_
        refine OJ.done ?_
        refine PJ.next ?_
        refine CJ.seq ?_
        refine CJ.region ?_
        refine rv rfl rfl rfl (mv_r rfl) ?_
        refine callC (f := g2) (cap := cap2) rfl hent2 rfl rfl rfl (fun W hS => hq2 W (hS.belowNo (.head _))) ?_
        refine rv rfl rfl rfl (asg_r rfl) ?_
        refine OJ.done ?_
        refine PJ.next ?_
        refine CJ.seq ?_
        refine CJ.region ?_
        refine rv rfl rfl rfl (mv_r rfl) ?_
        refine rv rfl rfl rfl (RV.re (v' := .bool false) (neqI_r rfl rfl) rfl) ?_
        refine OJ.done ?_
        refine PJ.next ?_
        refine CJ.condF rfl ?_
        refine CJ.skip ?_
        refine PJ.norBlock ?_
        refine PJ.next ?_
        refine CJ.region ?_
        refine rv rfl rfl rfl (addI_r rfl rfl (by omega) (by omega)) ?_
        refine rv rfl rfl rfl (mv_r rfl) ?_
        refine OJ.done ?_
        refine PJ.again 3 (by omega) (by omega) ⟨rfl, rfl, rfl, trivial⟩ rfl rfl (by simp)
  · try simp only [decide_eq_true_eq, decide_eq_false_iff_not, Bool.not_eq_true', Bool.not_eq_false'] at hc1
    refine CJ.exit ?_
    refine PJ.exThen ?_
    refine PJ.exThen ?_
    refine PJ.exHit ?_
    refine PJ.next ?_
    refine CJ.seq ?_
    refine CJ.region ?_
    refine rv rfl rfl rfl (asg_r rfl) ?_
    refine OJ.done ?_
    refine PJ.next ?_
    refine CJ.ret ?_
    refine retV Tryz.results61 rfl (.head _) ?_
    rfl
set_option maxHeartbeats 800000 in
/-- chartroom/policy.Audit -/
theorem policy_Audit_one {Z : Fx} (hZ : FxOk Z) (p : Po) (hf : PoFew p) (ls : List Ls) (hl : ls.length ≤ 1000000) (f : Nat → Int) (cs : List Cn) (hcl : cs.length ≤ 1000000) (N : Nat) (a : Option Addr) (cp : Nat) (ca : Option Addr) (cc : Nat) (w : World) (hN : N ≤ w.heap.size) (hp : PoAt N w p) (hsl : SlAt lsC 5 N w a ls) (hcs : SlAt cnC 3 N w ca cs) (hg : Glb w) (hg2 : 2 ≤ N) (hx0 : expI Z p ls (⟨f, ca, cs, cc⟩ : Ex) = 0) (be : Nat) (hbe : w.heap[be]? = some (.cells (exC (⟨f, ca, cs, cc⟩ : Ex)) 41 (0, 0))) (hbeN : be < N) :
    Calls Tryz.prog 23 #[.agg nilsR, .slice none 0 0, .slice a ls.length cp, .agg (rpC p (some ⟨be, 0, none⟩) 1 1)] w (Ret w (.int .i64 460)) := by
  
  refine enterM Gh.no [] (vs := [_, _, _, _]) Tryz.func23 rfl Tryz.ntmps23 rfl (st_no w) ?_
  refine CJ.seq ?_
  refine CJ.region ?_
  refine boxR rfl rfl rfl ?_
  intro b4 w4 hb4 ha4 ho4 hm4 hz4
  simp only [Above] at ha4
  try simp only [Off, book, List.cons_append, List.nil_append, List.set_cons_zero, List.set_cons_succ, ne_eq] at ho4
  refine boxR rfl rfl rfl ?_
  intro b5 w5 hb5 ha5 ho5 hm5 hz5
  simp only [Above] at ha5
  try simp only [Off, book, List.cons_append, List.nil_append, List.set_cons_zero, List.set_cons_succ, ne_eq] at ho5
  refine boxR rfl rfl rfl ?_
  intro b6 w6 hb6 ha6 ho6 hm6 hz6
  simp only [Above] at ha6
  try simp only [Off, book, List.cons_append, List.nil_append, List.set_cons_zero, List.set_cons_succ, ne_eq] at ho6
  refine boxR rfl rfl rfl ?_
  intro b7 w7 hb7 ha7 ho7 hm7 hz7
  simp only [Above] at ha7
  try simp only [Off, book, List.cons_append, List.nil_append, List.set_cons_zero, List.set_cons_succ, ne_eq] at ho7
  refine rv rfl rfl rfl (asg_r rfl) ?_
  refine OJ.done ?_
  refine PJ.next ?_
  refine CJ.seq ?_
  refine CJ.region ?_
  refine mkMW (v := .agg #[]) rfl rfl ?_
  intro b14 ha14 ho14
  simp only [Above] at ha14
  try simp only [Off, book, List.cons_append, List.nil_append, List.set_cons_zero, List.set_cons_succ, ne_eq] at ho14
  refine allW Tryz.zeroValue120 rfl rfl ?_
  intro b9 ha9 ho9
  simp only [Above] at ha9
  try simp only [Off, book, List.cons_append, List.nil_append, List.set_cons_zero, List.set_cons_succ, ne_eq] at ho9
  refine stWw (i := 0) rfl Tryz.sizeOf120 rfl rfl rfl rfl rfl rfl ?_
  refine OJ.done ?_
  refine PJ.next ?_
  refine CJ.seq ?_
  refine CJ.seq ?_
  refine CJ.region ?_
  refine rv rfl rfl rfl (RV.re (v' := .agg nilsR) (ldRAw_r Tryz.isAgg74 Tryz.sizeOf74 rfl (.tail _ (.tail _ (.tail _ (.head _)))) hb4 hm4 (by first | (simp only [Off, book, List.cons_append, List.nil_append, List.set_cons_zero, List.set_cons_succ, List.eraseIdx_cons_zero, List.eraseIdx_cons_succ, ne_eq, and_true]; omega) | (simp [Off] <;> omega)) rfl) (rfl)) ?_
  refine rv rfl rfl rfl (fld_r Tryz.underlying63 rfl Tryz.sizeOf24 rfl) ?_
  refine rv rfl rfl rfl (RV.re (v' := .agg (poC p)) (ldRA_r Tryz.isAgg24 Tryz.sizeOf24 rfl (.head _) hb7 hm7 (by first | (simp only [Off, book, List.cons_append, List.nil_append, List.set_cons_zero, List.set_cons_succ, List.eraseIdx_cons_zero, List.eraseIdx_cons_succ, ne_eq, and_true]; omega) | (simp [Off] <;> omega)) (Nat.le_of_ble_eq_true rfl)) (rfl)) ?_
  refine callX (α := Nat × Nat) (v := fun b : Nat × Nat => .func (.func 98) #[] #[ptr b.1 0, ptr b.2 0]) (Φ := fun (W : World) (b : Nat × Nat) (w1 : World) => W.heap.size ≤ b.1 ∧ w1.heap[b.1]? = some (.cells nilsR 74 (0, 0))) Tryz.call50 rfl rfl rfl (fun W hS => policy_of p W) ?_
  rintro Wd ⟨bd, bf⟩ wd hSd hBd ⟨hbd1, hbd2⟩
  simp only at hbd1 hbd2
  have hUd := hSd.under
  simp only [Under, List.set_cons_zero, List.set_cons_succ] at hUd
  have hAd := hSd.sizes
  simp only [Above] at hAd
  have hzd := hBd.size
  refine OJ.done ?_
  refine PJ.next ?_
  refine CJ.block ?_
  refine CJ.range (f := 98) (cap := [ptr bd 0, ptr bf 0]) (α := Unit) (enc := (fun _ : Unit => [.bool true])) (xs := []) (MI := fun _ => False) (RO := fun k => k = bd) rfl Tryz.call98 (fun W W2 hS hB => of1_iter bd bf W2 ((hS.step hB).old (.head _) hbd2 (fun h => h) (by simp only [Off, List.set_cons_zero, List.set_cons_succ, ne_eq, and_true]; omega))) (fun _ _ _ hk => hk.elim) (fun W hS k hk => by subst hk; have := hS.sizes; simp only [Above] at this; have := (Array.getElem?_eq_some_iff.1 hbd2).1; refine ⟨by omega, by simp only [List.set_cons_zero, List.set_cons_succ, List.map_cons, List.map_nil, List.mem_cons, List.not_mem_nil, or_false, not_or]; omega, fun h => h⟩) (fun _ => rfl) (fun _ Hc => Hc = [(b9, .cells #[.map (some b14)] 120 (0, 0)), (b14, mpO (.agg #[]) [])]) (fun _ _ => False) rfl (by rintro pre Hc rfl; rfl) (fun _ _ hk => hk.elim) (by decide) ?_ ?_ ?_
  · exact fun pre x _ _ _ _ _ _ _ hp => absurd hp.length_le (by simp)
  · rintro l Dk rec Hc haD hlD rfl
    simp only [Above] at haD
    refine PJ.norBlock ?_
    refine PJ.next ?_
    refine CJ.seq ?_
    refine CJ.region ?_
    refine rv rfl rfl rfl (mkF_r rfl) ?_
    refine rv rfl rfl rfl (asg_r rfl) ?_
    refine OJ.done ?_
    refine PJ.next ?_
    refine CJ.seq ?_
    refine CJ.region ?_
    refine rv rfl rfl rfl (mkF_r rfl) ?_
    refine rv rfl rfl rfl (asg_r rfl) ?_
    refine OJ.done ?_
    refine PJ.next ?_
    refine CJ.seq ?_
    refine CJ.region ?_
    refine rv rfl rfl rfl (mkF_r rfl) ?_
    refine rv rfl rfl rfl (asg_r rfl) ?_
    refine OJ.done ?_
    refine PJ.next ?_
    refine CJ.seq ?_
    refine CJ.region ?_
    refine rv rfl rfl rfl (mv_r rfl) ?_
    refine rv rfl rfl rfl (mv_r rfl) ?_
    refine rv rfl rfl rfl (mv_r rfl) ?_
    refine bslR Tryz.underlying184 Tryz.sizeOf127 Tryz.zeroValue127 rfl rfl rfl rfl rfl rfl rfl ?_
    intro b30 w30 hb30 ha30 ho30 hm30 hz30
    simp only [Above] at ha30
    try simp only [Off, book, List.cons_append, List.nil_append, List.set_cons_zero, List.set_cons_succ, ne_eq] at ho30
    refine call Tryz.call61 rfl rfl rfl (fun W hS => first_1 58 Tryz.call58 [ptr b7 0, ptr b6 0, ptr b9 0] _ _ b30 W (fun W2 hB => by have hS2 := hS.step hB; have hsm := hS2.same (w := w) (.tail _ (.tail _ (.tail _ (.tail _ (.tail _ (.tail _ (.head _))))))) hN (fun _ _ h => h) (by simp only [Over, book, List.cons_append, List.nil_append, and_true]; omega); exact audit1_one hZ p hf ls hl f cs hcl N a cp ca cc W2 (Nat.le_trans hN (hS2.links _ (.tail _ (.tail _ (.tail _ (.tail _ (.tail _ (.tail _ (.head _)))))))).size) (hp.up (Nat.le_refl _) hsm) (hsl.up (Nat.le_refl _) hsm) (hcs.up (Nat.le_refl _) hsm) (hg.old hS2 (.tail _ (.tail _ (.tail _ (.tail _ (.tail _ (.tail _ (.head _))))))) (fun _ _ h => h) (by simp only [Over, book, List.cons_append, List.nil_append, and_true]; omega)) hg2 hx0 be ((hsm be hbeN).trans hbe) b7 b6 b9 b14 _ (hS2.old (.tail _ (.tail _ (.head _))) hb7 hm7 (by simp only [Off, book, List.cons_append, List.nil_append, ne_eq, and_true]; omega)) (hS2.old (.tail _ (.tail _ (.tail _ (.head _)))) hb6 hm6 (by simp only [Off, book, List.cons_append, List.nil_append, ne_eq, and_true]; omega)) (hS2.own _ (.head _)) (hS2.own _ (.tail _ (.head _)))) (hS.old (.head _) hb30 hm30 (by simp only [Off, book, List.cons_append, List.nil_append, ne_eq, and_true]; omega))) ?_
    refine rv rfl rfl rfl (asg_r rfl) ?_
    refine OJ.done ?_
    refine PJ.next ?_
    refine CJ.ret ?_
    refine retM1 (.inl rfl) Tryz.results23 rfl (by simp [book]) (fun W H' hS hmap => ⟨rfl, ?_⟩)
    refine (hS.links w (.tail _ (.tail _ (.tail _ (.tail _ (.tail _ (.tail _ (.head _)))))))).below fun k hk hx => ?_
    rw [hmap] at hx; simp [Gh.no, book] at hx; omega
  · exact fun _ _ _ _ _ _ _ hk => hk.elim
set_option maxHeartbeats 800000 in
/-- chartroom/policy.Audit -/
theorem policy_Audit_nil (p : Po) (hf : PoFew p) (hk0 : chkI p = 0) (N : Nat) (w : World) (hN : N ≤ w.heap.size) (hp : PoAt N w p) (a : Option Addr) (ln cp : Nat) :
    Calls Tryz.prog 23 #[.agg nilsR, .slice none 0 0, .slice a ln cp, .agg (rpC p none 0 0)] w (Ret w (.int .i64 0)) := by
  
  refine enterM Gh.no [] (vs := [_, _, _, _]) Tryz.func23 rfl Tryz.ntmps23 rfl (st_no w) ?_
  refine CJ.seq ?_
  refine CJ.region ?_
  refine boxR rfl rfl rfl ?_
  intro b4 w4 hb4 ha4 ho4 hm4 hz4
  simp only [Above] at ha4
  try simp only [Off, book, List.cons_append, List.nil_append, List.set_cons_zero, List.set_cons_succ, ne_eq] at ho4
  refine boxR rfl rfl rfl ?_
  intro b5 w5 hb5 ha5 ho5 hm5 hz5
  simp only [Above] at ha5
  try simp only [Off, book, List.cons_append, List.nil_append, List.set_cons_zero, List.set_cons_succ, ne_eq] at ho5
  refine boxR rfl rfl rfl ?_
  intro b6 w6 hb6 ha6 ho6 hm6 hz6
  simp only [Above] at ha6
  try simp only [Off, book, List.cons_append, List.nil_append, List.set_cons_zero, List.set_cons_succ, ne_eq] at ho6
  refine boxR rfl rfl rfl ?_
  intro b7 w7 hb7 ha7 ho7 hm7 hz7
  simp only [Above] at ha7
  try simp only [Off, book, List.cons_append, List.nil_append, List.set_cons_zero, List.set_cons_succ, ne_eq] at ho7
  refine rv rfl rfl rfl (asg_r rfl) ?_
  refine OJ.done ?_
  refine PJ.next ?_
  refine CJ.seq ?_
  refine CJ.region ?_
  refine mkMW (v := .agg #[]) rfl rfl ?_
  intro b14 ha14 ho14
  simp only [Above] at ha14
  try simp only [Off, book, List.cons_append, List.nil_append, List.set_cons_zero, List.set_cons_succ, ne_eq] at ho14
  refine allW Tryz.zeroValue120 rfl rfl ?_
  intro b9 ha9 ho9
  simp only [Above] at ha9
  try simp only [Off, book, List.cons_append, List.nil_append, List.set_cons_zero, List.set_cons_succ, ne_eq] at ho9
  refine stWw (i := 0) rfl Tryz.sizeOf120 rfl rfl rfl rfl rfl rfl ?_
  refine OJ.done ?_
  refine PJ.next ?_
  refine CJ.seq ?_
  refine CJ.seq ?_
  refine CJ.region ?_
  refine rv rfl rfl rfl (RV.re (v' := .agg nilsR) (ldRAw_r Tryz.isAgg74 Tryz.sizeOf74 rfl (.tail _ (.tail _ (.tail _ (.head _)))) hb4 hm4 (by first | (simp only [Off, book, List.cons_append, List.nil_append, List.set_cons_zero, List.set_cons_succ, List.eraseIdx_cons_zero, List.eraseIdx_cons_succ, ne_eq, and_true]; omega) | (simp [Off] <;> omega)) rfl) (rfl)) ?_
  refine rv rfl rfl rfl (fld_r Tryz.underlying63 rfl Tryz.sizeOf24 rfl) ?_
  refine rv rfl rfl rfl (RV.re (v' := .agg (poC p)) (ldRA_r Tryz.isAgg24 Tryz.sizeOf24 rfl (.head _) hb7 hm7 (by first | (simp only [Off, book, List.cons_append, List.nil_append, List.set_cons_zero, List.set_cons_succ, List.eraseIdx_cons_zero, List.eraseIdx_cons_succ, ne_eq, and_true]; omega) | (simp [Off] <;> omega)) (Nat.le_of_ble_eq_true rfl)) (rfl)) ?_
  refine callX (α := Nat × Nat) (v := fun b : Nat × Nat => .func (.func 98) #[] #[ptr b.1 0, ptr b.2 0]) (Φ := fun (W : World) (b : Nat × Nat) (w1 : World) => W.heap.size ≤ b.1 ∧ w1.heap[b.1]? = some (.cells nilsR 74 (0, 0))) Tryz.call50 rfl rfl rfl (fun W hS => policy_of p W) ?_
  rintro Wd ⟨bd, bf⟩ wd hSd hBd ⟨hbd1, hbd2⟩
  simp only at hbd1 hbd2
  have hUd := hSd.under
  simp only [Under, List.set_cons_zero, List.set_cons_succ] at hUd
  have hAd := hSd.sizes
  simp only [Above] at hAd
  have hzd := hBd.size
  refine OJ.done ?_
  refine PJ.next ?_
  refine CJ.block ?_
  refine CJ.range (f := 98) (cap := [ptr bd 0, ptr bf 0]) (α := Unit) (enc := (fun _ : Unit => [.bool true])) (xs := []) (MI := fun _ => False) (RO := fun k => k = bd) rfl Tryz.call98 (fun W W2 hS hB => of1_iter bd bf W2 ((hS.step hB).old (.head _) hbd2 (fun h => h) (by simp only [Off, List.set_cons_zero, List.set_cons_succ, ne_eq, and_true]; omega))) (fun _ _ _ hk => hk.elim) (fun W hS k hk => by subst hk; have := hS.sizes; simp only [Above] at this; have := (Array.getElem?_eq_some_iff.1 hbd2).1; refine ⟨by omega, by simp only [List.set_cons_zero, List.set_cons_succ, List.map_cons, List.map_nil, List.mem_cons, List.not_mem_nil, or_false, not_or]; omega, fun h => h⟩) (fun _ => rfl) (fun _ Hc => Hc = [(b9, .cells #[.map (some b14)] 120 (0, 0)), (b14, mpO (.agg #[]) [])]) (fun _ _ => False) rfl (by rintro pre Hc rfl; rfl) (fun _ _ hk => hk.elim) (by decide) ?_ ?_ ?_
  · exact fun pre x _ _ _ _ _ _ _ hp => absurd hp.length_le (by simp)
  · rintro l Dk rec Hc haD hlD rfl
    simp only [Above] at haD
    refine PJ.norBlock ?_
    refine PJ.next ?_
    refine CJ.seq ?_
    refine CJ.region ?_
    refine rv rfl rfl rfl (mkF_r rfl) ?_
    refine rv rfl rfl rfl (asg_r rfl) ?_
    refine OJ.done ?_
    refine PJ.next ?_
    refine CJ.seq ?_
    refine CJ.region ?_
    refine rv rfl rfl rfl (mkF_r rfl) ?_
    refine rv rfl rfl rfl (asg_r rfl) ?_
    refine OJ.done ?_
    refine PJ.next ?_
    refine CJ.seq ?_
    refine CJ.region ?_
    refine rv rfl rfl rfl (mkF_r rfl) ?_
    refine rv rfl rfl rfl (asg_r rfl) ?_
    refine OJ.done ?_
    refine PJ.next ?_
    refine CJ.seq ?_
    refine CJ.region ?_
    refine rv rfl rfl rfl (mv_r rfl) ?_
    refine rv rfl rfl rfl (mv_r rfl) ?_
    refine rv rfl rfl rfl (mv_r rfl) ?_
    refine bslR Tryz.underlying184 Tryz.sizeOf127 Tryz.zeroValue127 rfl rfl rfl rfl rfl rfl rfl ?_
    intro b30 w30 hb30 ha30 ho30 hm30 hz30
    simp only [Above] at ha30
    try simp only [Off, book, List.cons_append, List.nil_append, List.set_cons_zero, List.set_cons_succ, ne_eq] at ho30
    refine call Tryz.call61 rfl rfl rfl (fun W hS => first_3 58 Tryz.call58 [ptr b7 0, ptr b6 0, ptr b9 0] 59 Tryz.call59 [ptr b4 0, ptr b5 0, ptr b7 0] 60 Tryz.call60 [ptr b4 0, ptr b7 0] b30 W (fun W2 hB => by have hS2 := hS.step hB; have hsm := hS2.same (w := w) (.tail _ (.tail _ (.tail _ (.tail _ (.tail _ (.tail _ (.head _))))))) hN (fun _ _ h => h) (by simp only [Over, book, List.cons_append, List.nil_append, and_true]; omega); exact audit1_nil p b7 b6 b9 W2 (hS2.old (.tail _ (.tail _ (.head _))) hb7 hm7 (by simp only [Off, book, List.cons_append, List.nil_append, ne_eq, and_true]; omega))) (fun W2 hB => by have hS2 := hS.step hB; have hsm := hS2.same (w := w) (.tail _ (.tail _ (.tail _ (.tail _ (.tail _ (.tail _ (.head _))))))) hN (fun _ _ h => h) (by simp only [Over, book, List.cons_append, List.nil_append, and_true]; omega); exact audit2 p hf hk0 N W2 (Nat.le_trans hN (hS2.links _ (.tail _ (.tail _ (.tail _ (.tail _ (.tail _ (.tail _ (.head _)))))))).size) (hp.up (Nat.le_refl _) hsm) none 0 0 b4 b5 b7 (hS2.old (.tail _ (.tail _ (.tail _ (.tail _ (.tail _ (.head _)))))) hb4 hm4 (by simp only [Off, book, List.cons_append, List.nil_append, ne_eq, and_true]; omega)) (hS2.old (.tail _ (.tail _ (.tail _ (.tail _ (.head _))))) hb5 hm5 (by simp only [Off, book, List.cons_append, List.nil_append, ne_eq, and_true]; omega)) (hS2.old (.tail _ (.tail _ (.head _))) hb7 hm7 (by simp only [Off, book, List.cons_append, List.nil_append, ne_eq, and_true]; omega))) (fun W2 hB => by have hS2 := hS.step hB; have hsm := hS2.same (w := w) (.tail _ (.tail _ (.tail _ (.tail _ (.tail _ (.tail _ (.head _))))))) hN (fun _ _ h => h) (by simp only [Over, book, List.cons_append, List.nil_append, and_true]; omega); exact audit3 p hf hk0 N W2 (Nat.le_trans hN (hS2.links _ (.tail _ (.tail _ (.tail _ (.tail _ (.tail _ (.tail _ (.head _)))))))).size) (hp.up (Nat.le_refl _) hsm) none 0 0 b4 b7 (hS2.old (.tail _ (.tail _ (.tail _ (.tail _ (.tail _ (.head _)))))) hb4 hm4 (by simp only [Off, book, List.cons_append, List.nil_append, ne_eq, and_true]; omega)) (hS2.old (.tail _ (.tail _ (.head _))) hb7 hm7 (by simp only [Off, book, List.cons_append, List.nil_append, ne_eq, and_true]; omega))) (hS.old (.head _) hb30 hm30 (by simp only [Off, book, List.cons_append, List.nil_append, ne_eq, and_true]; omega))) ?_
    refine rv rfl rfl rfl (asg_r rfl) ?_
    refine OJ.done ?_
    refine PJ.next ?_
    refine CJ.ret ?_
    refine retM1 (.inl rfl) Tryz.results23 rfl (by simp [book]) (fun W H' hS hmap => ⟨rfl, ?_⟩)
    refine (hS.links w (.tail _ (.tail _ (.tail _ (.tail _ (.tail _ (.tail _ (.head _)))))))).below fun k hk hx => ?_
    rw [hmap] at hx; simp [Gh.no, book] at hx; omega
  · exact fun _ _ _ _ _ _ _ hk => hk.elim
end Px
namespace Px
open Go Go.RowKit Go.Proofs
theorem lt_heap {W : World} {b : Nat} {o : Obj} (h : W.heap[b]? = some o) : b < W.heap.size := (Array.getElem?_eq_some_iff.1 h).1
theorem sl_one {W : World} {b t : Nat} {fr : Nat × Nat} {x : Int} (h : W.heap[b]? = some (.cells #[.int .i64 x] t fr)) : SlAt encI 1 W.heap.size W (some ⟨b, 0, none⟩) [x] :=
  SlAt.block (lt_heap h) h fun i hi => by
    match i, hi with
    | 0, _ => exact ⟨by show 1 ≤ 1; decide, rfl⟩
theorem sl_nil {α : Type} {enc : α → Array Value} {n N : Nat} {W : World} {a : Option Addr} : SlAt enc n N W a [] := .inl rfl
theorem sl_cn2 {W : World} {b t : Nat} {fr : Nat × Nat} {x y : Cn} (h : W.heap[b]? = some (.cells #[.int .i64 x.dev, .int .i64 x.r, .int .i64 x.s, .int .i64 y.dev, .int .i64 y.r, .int .i64 y.s] t fr)) : SlAt cnC 3 W.heap.size W (some ⟨b, 0, none⟩) [x, y] :=
  SlAt.block (lt_heap h) h fun i hi => by
    match i, hi with
    | 0, _ => exact ⟨by show 3 ≤ 6; decide, rfl⟩
    | 1, _ => exact ⟨by show 6 ≤ 6; decide, rfl⟩
def lsC2 (x y : Ls) : Array Value := #[.int .i64 x.dev, .int .i64 x.ver, .int .i64 x.leaf, .int .i64 x.vsn, .bool x.gone, .int .i64 y.dev, .int .i64 y.ver, .int .i64 y.leaf, .int .i64 y.vsn, .bool y.gone]
def lsC3 (x y z : Ls) : Array Value := #[.int .i64 x.dev, .int .i64 x.ver, .int .i64 x.leaf, .int .i64 x.vsn, .bool x.gone, .int .i64 y.dev, .int .i64 y.ver, .int .i64 y.leaf, .int .i64 y.vsn, .bool y.gone, .int .i64 z.dev, .int .i64 z.ver, .int .i64 z.leaf, .int .i64 z.vsn, .bool z.gone]
theorem sl_ls3 {W : World} {b t : Nat} {fr : Nat × Nat} {x y z : Ls} (h : W.heap[b]? = some (.cells (lsC3 x y z) t fr)) : SlAt lsC 5 W.heap.size W (some ⟨b, 0, none⟩) [x, y, z] :=
  SlAt.block (lt_heap h) h fun i hi => by
    match i, hi with
    | 0, _ => exact ⟨by show 5 ≤ 15; decide, rfl⟩
    | 1, _ => exact ⟨by show 10 ≤ 15; decide, rfl⟩
    | 2, _ => exact ⟨by show 15 ≤ 15; decide, rfl⟩
/-- a device's own approval counts -/
theorem cnt_std {Z : Fx} (hZ : FxOk Z) {ls : List Ls} (f : Nat → Int) {d x : Int} {i : Nat} {l : Ls} (hd : DevOk d) (hx : x = d + 1) (hix : ixL d ls = some i) (hl : ls[i]? = some l) (hv : l.ver = (Z.ge 4 (d + 1)).1) (hg : l.gone = false) : cntO Z ls f (apC Z f d x) = some (d / 8) := by
  subst hx
  refine cntO_yes (c := apC Z f d (d + 1)) hix hl hg hd ?_
  rw [hv]
  exact verB_sign hZ (d + 1) ⟨by omega, by omega⟩ _
theorem cnt_gone {Z : Fx} {ls : List Ls} (f : Nat → Int) {c : Cn} {i : Nat} {l : Ls} (hix : ixL c.dev ls = some i) (hl : ls[i]? = some l) (hg : l.gone = true) : cntO Z ls f c = none := cntO_no hix hl (.inl hg)
theorem cntL_two {Z : Fx} {ls : List Ls} {f : Nat → Int} {c d : Cn} {x y : Option Int} (h1 : cntO Z ls f c = x) (h2 : cntO Z ls f d = y) : cntL Z ls f [c, d] = x.toList ++ y.toList := by
  have e1 := cntL_snoc Z ls f [c] d
  have e2 := cntL_snoc Z ls f [] c
  rw [h2] at e1
  rw [h1] at e2
  show cntL Z ls f ([c] ++ [d]) = _
  rw [e1]
  show cntL Z ls f ([] ++ [c]) ++ _ = _
  rw [e2]
  simp [cntL]
theorem fine1 {x : Int} (h0 : 0 ≤ x) (h1 : x < 64) : fineB [x] = true := fine_yes (j := 1) (fun i z hi hz => by
  obtain rfl : i = 0 := by omega
  obtain rfl : x = z := by simpa using hz
  exact ⟨h0, h1, fun y hy => absurd hy (by omega)⟩) (Nat.le_refl _)
theorem fine0 : fineB [] = true := fine_yes (j := 0) (fun i z hi => absurd hi (by omega)) (Nat.le_refl _)
def itf : Nat → Int := fun i => if i = 0 then 5 else 0
def pol1 (b c : Nat) : Po := ⟨1, true, some ⟨b, 0, none⟩, [0], 1, some ⟨c, 0, none⟩, [1], 1, 1, 2⟩
def pol2 (b c : Nat) : Po := ⟨0, false, some ⟨b, 0, none⟩, [3], 1, some ⟨c, 0, none⟩, [3], 1, 0, 0⟩
def pol3 : Po := ⟨0, false, none, [], 0, none, [], 0, 2, 1⟩
def polT (two : Bool) : Po := ⟨0, two, none, [], 0, none, [], 0, 0, 0⟩
theorem pol1_few (b c : Nat) : PoFew (pol1 b c) := ⟨by show 1 ≤ 1000000; decide, by show 1 ≤ 1000000; decide⟩
theorem pol2_few (b c : Nat) : PoFew (pol2 b c) := ⟨by show 1 ≤ 1000000; decide, by show 1 ≤ 1000000; decide⟩
theorem pol3_few : PoFew pol3 := ⟨by decide, by decide⟩
theorem pol1_ok (b c : Nat) : chkI (pol1 b c) = 0 := chkI_ok _ (show (0 : Int) ≤ 1 by decide) (show (1 : Int) < 16 by decide) (show fineB [0] = true from fine1 (by decide) (by decide)) (show fineB [1] = true from fine1 (by decide) (by decide)) (show (0 : Int) ≤ 1 by decide) (show (1 : Int) ≤ 2 by decide) (show (2 : Int) ≤ 1099511627776 by decide) rfl
theorem pol2_no (b c : Nat) : chkI (pol2 b c) = 460 := chkI_no _ (.inr (.inr (.inr (.inr (.inr (.inr (.inr rfl)))))))
theorem pol3_no : chkI pol3 = 460 := chkI_no _ (.inr (.inr (.inr (.inr (.inr (.inl (show (1 : Int) < 2 by decide)))))))
theorem polT_ok (two : Bool) : chkI (polT two) = 0 := chkI_ok _ (show (0 : Int) ≤ 0 by decide) (show (0 : Int) < 16 by decide) (show fineB [] = true from fine0) (show fineB [] = true from fine0) (show (0 : Int) ≤ 0 by decide) (show (0 : Int) ≤ 0 by decide) (show (0 : Int) ≤ 1099511627776 by decide) rfl
def ls3 (Z : Fx) : List Ls := [lstd Z 0, lstd Z 1, lstd Z 8]
theorem c_a {Z : Fx} (hZ : FxOk Z) : cntO Z (ls3 Z) itf (apC Z itf 0 1) = some 0 := cnt_std (i := 0) hZ itf (by decide) (by decide) rfl rfl rfl rfl
theorem c_b {Z : Fx} (hZ : FxOk Z) : cntO Z (ls3 Z) itf (apC Z itf 1 2) = some 0 := cnt_std (i := 1) hZ itf (by decide) (by decide) rfl rfl rfl rfl
theorem c_c {Z : Fx} (hZ : FxOk Z) : cntO Z (ls3 Z) itf (apC Z itf 8 9) = some 1 := cnt_std (i := 2) hZ itf (by decide) (by decide) rfl rfl rfl rfl
theorem e_ac {Z : Fx} (hZ : FxOk Z) (b c : Nat) (ca : Option Addr) (cc : Nat) : expI Z (pol1 b c) (ls3 Z) ⟨itf, ca, [apC Z itf 0 1, apC Z itf 8 9], cc⟩ = 0 := by
  refine (expI_good (pol1_ok b c) ?_ (.inr ?_)).symm
  · rw [cntL_two (c_a hZ) (c_c hZ)]; decide
  · rw [cntL_two (c_a hZ) (c_c hZ)]; decide
theorem e_ab {Z : Fx} (hZ : FxOk Z) (b c : Nat) (ca : Option Addr) (cc : Nat) : expI Z (pol1 b c) (ls3 Z) ⟨itf, ca, [apC Z itf 0 1, apC Z itf 1 2], cc⟩ = 460 := by
  refine (expI_bad (pol1_ok b c) (.inr ⟨rfl, ?_⟩)).symm
  rw [cntL_two (c_a hZ) (c_b hZ)]; decide
theorem e_0 (Z : Fx) (b c : Nat) : expI Z (pol1 b c) [] ⟨fun _ => 0, none, [], 0⟩ = 460 := (expI_bad (pol1_ok b c) (.inl rfl)).symm
theorem ap_ok {Z : Fx} (hZ : FxOk Z) (f : Nat → Int) {d x : Int} (h : DevOk d) (hk : KOk x) {c : Cn} (hc : apC Z f d x = c) (w : World) (hg : Glb w) : Calls Tryz.prog 9 #[.agg (dg f), .int .i64 d, .int .i64 x] w (Ret w (.tuple #[.agg (cnC c), .int .i64 0])) := by
  subst hc
  rw [← apT_ok Z f h hk]; exact policy_Approve hZ f d x w hg
theorem ap_no {Z : Fx} (hZ : FxOk Z) (f : Nat → Int) {d x : Int} (h : ¬ DevOk d) (w : World) (hg : Glb w) : Calls Tryz.prog 9 #[.agg (dg f), .int .i64 d, .int .i64 x] w (Ret w (.tuple #[.agg (cnC zCn), .int .i64 1])) := by
  rw [← apT_no Z f (x := x) h]; exact policy_Approve hZ f d x w hg
end Px
namespace Px
open Go Go.RowKit Go.Proofs
set_option maxHeartbeats 3200000 in
/-- chartroom/chartroomlaw46.sane -/
theorem law46_sane {Z : Fx} (hZ : FxOk Z) (w : World) (hg : Glb w) :
    Calls Tryz.prog 7 #[] w (Ret w (.bool true)) := by
  have hg4 := hg.lt
  refine enter (vs := []) Tryz.func7 rfl Tryz.ntmps7 rfl ?_
  refine CJ.seq ?_
  refine CJ.region ?_
  refine rv rfl rfl rfl (asg_r rfl) ?_
  refine OJ.done ?_
  refine PJ.next ?_
  refine CJ.seq ?_
  refine CJ.region ?_
  refine bslR Tryz.underlying22 Tryz.sizeOf3 Tryz.zeroValue3 rfl rfl rfl rfl rfl rfl rfl ?_
  intro b15 w15 hb15 ha15 ho15 hm15 hz15
  simp only [Above] at ha15
  try simp only [Off, book, List.cons_append, List.nil_append, List.set_cons_zero, List.set_cons_succ, ne_eq] at ho15
  refine bslR Tryz.underlying22 Tryz.sizeOf3 Tryz.zeroValue3 rfl rfl rfl rfl rfl rfl rfl ?_
  intro b16 w16 hb16 ha16 ho16 hm16 hz16
  simp only [Above] at ha16
  try simp only [Off, book, List.cons_append, List.nil_append, List.set_cons_zero, List.set_cons_succ, ne_eq] at ho16
  refine rv rfl rfl rfl (RV.re (v' := .agg (poC (pol1 b15 b16))) (bldS_r Tryz.underlying24 Tryz.zeroValue24 (PlF.c Tryz.sizeOf3 (PlF.c Tryz.sizeOf4 (PlF.c Tryz.sizeOf22 (PlF.c Tryz.sizeOf22 (PlF.c Tryz.sizeOf3 (PlF.c Tryz.sizeOf3 (PlF.n))))))) rfl rfl) (rfl)) ?_
  refine allW Tryz.zeroValue24 rfl rfl ?_
  intro b1 ha1 ho1
  simp only [Above] at ha1
  try simp only [Off, book, List.cons_append, List.nil_append, List.set_cons_zero, List.set_cons_succ, ne_eq] at ho1
  refine stWw (i := 0) rfl Tryz.sizeOf24 rfl rfl rfl rfl rfl rfl ?_
  refine OJ.done ?_
  refine PJ.next ?_
  refine CJ.seq ?_
  refine CJ.region ?_
  refine rv rfl rfl rfl (RV.re (v' := .agg (dg itf)) (bldA_r Tryz.underlying26 Tryz.zeroValue26 Tryz.sizeOf5 rfl rfl) (rfl)) ?_
  refine allW Tryz.zeroValue26 rfl rfl ?_
  intro b2 ha2 ho2
  simp only [Above] at ha2
  try simp only [Off, book, List.cons_append, List.nil_append, List.set_cons_zero, List.set_cons_succ, ne_eq] at ho2
  refine stWw (i := 0) rfl Tryz.sizeOf26 rfl rfl rfl rfl rfl rfl ?_
  refine OJ.done ?_
  refine PJ.next ?_
  refine CJ.seq ?_
  refine CJ.region ?_
  refine rv rfl rfl rfl (RV.re (v' := .agg (dg itf)) (ldWAw_r (i := 0) rfl Tryz.isAgg26 Tryz.sizeOf26 rfl rfl) (rfl)) ?_
  refine call Tryz.call9 rfl rfl rfl (fun W hS => ap_ok hZ itf (by decide) (by decide) (c := (apC Z itf 0 1)) rfl W (hg.old hS (by simp) (fun _ _ h => h) (by first | exact True.intro | (simp only [Over, List.set_cons_zero, List.set_cons_succ, List.eraseIdx_cons_zero, List.eraseIdx_cons_succ, and_true]; omega)))) ?_
  refine rv rfl rfl rfl (mv_r rfl) ?_
  refine rv rfl rfl rfl (ext_r rfl rfl) ?_
  refine rv rfl rfl rfl (ext_r rfl rfl) ?_
  refine allW Tryz.zeroValue32 rfl rfl ?_
  intro b3 ha3 ho3
  simp only [Above] at ha3
  try simp only [Off, book, List.cons_append, List.nil_append, List.set_cons_zero, List.set_cons_succ, ne_eq] at ho3
  refine stWw (i := 0) rfl Tryz.sizeOf32 rfl rfl rfl rfl rfl rfl ?_
  refine rv rfl rfl rfl (asg_r rfl) ?_
  refine OJ.done ?_
  refine PJ.next ?_
  refine CJ.seq ?_
  refine CJ.region ?_
  refine rv rfl rfl rfl (RV.re (v' := .agg (dg itf)) (ldWAw_r (i := 1) rfl Tryz.isAgg26 Tryz.sizeOf26 rfl rfl) (rfl)) ?_
  refine call Tryz.call9 rfl rfl rfl (fun W hS => ap_ok hZ itf (by decide) (by decide) (c := (apC Z itf 1 2)) rfl W (hg.old hS (by simp) (fun _ _ h => h) (by first | exact True.intro | (simp only [Over, List.set_cons_zero, List.set_cons_succ, List.eraseIdx_cons_zero, List.eraseIdx_cons_succ, and_true]; omega)))) ?_
  refine rv rfl rfl rfl (mv_r rfl) ?_
  refine rv rfl rfl rfl (ext_r rfl rfl) ?_
  refine rv rfl rfl rfl (ext_r rfl rfl) ?_
  refine allW Tryz.zeroValue32 rfl rfl ?_
  intro b5 ha5 ho5
  simp only [Above] at ha5
  try simp only [Off, book, List.cons_append, List.nil_append, List.set_cons_zero, List.set_cons_succ, ne_eq] at ho5
  refine stWw (i := 0) rfl Tryz.sizeOf32 rfl rfl rfl rfl rfl rfl ?_
  refine rv rfl rfl rfl (asg_r rfl) ?_
  refine OJ.done ?_
  refine PJ.next ?_
  refine CJ.seq ?_
  refine CJ.region ?_
  refine rv rfl rfl rfl (RV.re (v' := .agg (dg itf)) (ldWAw_r (i := 2) rfl Tryz.isAgg26 Tryz.sizeOf26 rfl rfl) (rfl)) ?_
  refine call Tryz.call9 rfl rfl rfl (fun W hS => ap_ok hZ itf (by decide) (by decide) (c := (apC Z itf 8 9)) rfl W (hg.old hS (by simp) (fun _ _ h => h) (by first | exact True.intro | (simp only [Over, List.set_cons_zero, List.set_cons_succ, List.eraseIdx_cons_zero, List.eraseIdx_cons_succ, and_true]; omega)))) ?_
  refine rv rfl rfl rfl (mv_r rfl) ?_
  refine rv rfl rfl rfl (ext_r rfl rfl) ?_
  refine rv rfl rfl rfl (ext_r rfl rfl) ?_
  refine allW Tryz.zeroValue32 rfl rfl ?_
  intro b7 ha7 ho7
  simp only [Above] at ha7
  try simp only [Off, book, List.cons_append, List.nil_append, List.set_cons_zero, List.set_cons_succ, ne_eq] at ho7
  refine stWw (i := 0) rfl Tryz.sizeOf32 rfl rfl rfl rfl rfl rfl ?_
  refine rv rfl rfl rfl (asg_r rfl) ?_
  refine OJ.done ?_
  refine PJ.next ?_
  refine CJ.seq ?_
  refine CJ.region ?_
  refine rv rfl rfl rfl (RV.re (v' := .agg (dg itf)) (ldWAw_r (i := 3) rfl Tryz.isAgg26 Tryz.sizeOf26 rfl rfl) (rfl)) ?_
  refine call Tryz.call9 rfl rfl rfl (fun W hS => ap_no hZ itf (by decide) W (hg.old hS (by simp) (fun _ _ h => h) (by first | exact True.intro | (simp only [Over, List.set_cons_zero, List.set_cons_succ, List.eraseIdx_cons_zero, List.eraseIdx_cons_succ, and_true]; omega)))) ?_
  refine rv rfl rfl rfl (mv_r rfl) ?_
  refine rv rfl rfl rfl (ext_r rfl rfl) ?_
  refine rv rfl rfl rfl (ext_r rfl rfl) ?_
  refine allW Tryz.zeroValue32 rfl rfl ?_
  intro b9 ha9 ho9
  simp only [Above] at ha9
  try simp only [Off, book, List.cons_append, List.nil_append, List.set_cons_zero, List.set_cons_succ, ne_eq] at ho9
  refine stWw (i := 0) rfl Tryz.sizeOf32 rfl rfl rfl rfl rfl rfl ?_
  refine rv rfl rfl rfl (asg_r rfl) ?_
  refine OJ.done ?_
  refine PJ.next ?_
  refine CJ.seq ?_
  refine CJ.region ?_
  refine call Tryz.call17 rfl rfl rfl (fun W hS => law46_listed hZ 0 (by decide) W) ?_
  refine call Tryz.call17 rfl rfl rfl (fun W hS => law46_listed hZ 1 (by decide) W) ?_
  refine call Tryz.call17 rfl rfl rfl (fun W hS => law46_listed hZ 8 (by decide) W) ?_
  refine bslR Tryz.underlying38 Tryz.sizeOf49 Tryz.zeroValue49 rfl rfl rfl rfl rfl rfl rfl ?_
  intro b42 w42 hb42 ha42 ho42 hm42 hz42
  simp only [Above] at ha42
  try simp only [Off, book, List.cons_append, List.nil_append, List.set_cons_zero, List.set_cons_succ, ne_eq] at ho42
  replace hb42 : w42.heap[b42]? = some (.cells (lsC3 (lstd Z 0) (lstd Z 1) (lstd Z 8)) 49 (0, 0)) := hb42
  refine rv rfl rfl rfl (asg_r rfl) ?_
  refine OJ.done ?_
  refine PJ.next ?_
  refine CJ.seq ?_
  refine CJ.region ?_
  refine bslR Tryz.underlying22 Tryz.sizeOf3 Tryz.zeroValue3 rfl rfl rfl rfl rfl rfl rfl ?_
  intro b43 w43 hb43 ha43 ho43 hm43 hz43
  simp only [Above] at ha43
  try simp only [Off, book, List.cons_append, List.nil_append, List.set_cons_zero, List.set_cons_succ, ne_eq] at ho43
  refine bslR Tryz.underlying22 Tryz.sizeOf3 Tryz.zeroValue3 rfl rfl rfl rfl rfl rfl rfl ?_
  intro b44 w44 hb44 ha44 ho44 hm44 hz44
  simp only [Above] at ha44
  try simp only [Off, book, List.cons_append, List.nil_append, List.set_cons_zero, List.set_cons_succ, ne_eq] at ho44
  refine rv rfl rfl rfl (RV.re (v' := .agg (poC (pol2 b43 b44))) (bldS_r Tryz.underlying24 Tryz.zeroValue24 (PlF.c Tryz.sizeOf3 (PlF.c Tryz.sizeOf4 (PlF.c Tryz.sizeOf22 (PlF.c Tryz.sizeOf22 (PlF.c Tryz.sizeOf3 (PlF.c Tryz.sizeOf3 (PlF.n))))))) rfl rfl) (rfl)) ?_
  refine allW Tryz.zeroValue24 rfl rfl ?_
  intro b12 ha12 ho12
  simp only [Above] at ha12
  try simp only [Off, book, List.cons_append, List.nil_append, List.set_cons_zero, List.set_cons_succ, ne_eq] at ho12
  refine stWw (i := 0) rfl Tryz.sizeOf24 rfl rfl rfl rfl rfl rfl ?_
  refine OJ.done ?_
  refine PJ.next ?_
  refine CJ.seq ?_
  refine CJ.region ?_
  refine rv rfl rfl rfl (RV.re (v' := .agg (poC (pol1 b15 b16))) (ldWAw_r (i := 6) rfl Tryz.isAgg24 Tryz.sizeOf24 rfl rfl) (rfl)) ?_
  refine rv rfl rfl rfl (RV.re (v' := .agg (dg itf)) (ldWAw_r (i := 5) rfl Tryz.isAgg26 Tryz.sizeOf26 rfl rfl) (rfl)) ?_
  refine rv rfl rfl rfl (RV.re (v' := .agg (cnC (apC Z itf 0 1))) (ldWAw_r (i := 4) rfl Tryz.isAgg32 Tryz.sizeOf32 rfl rfl) (rfl)) ?_
  refine rv rfl rfl rfl (RV.re (v' := .agg (cnC (apC Z itf 8 9))) (ldWAw_r (i := 2) rfl Tryz.isAgg32 Tryz.sizeOf32 rfl rfl) (rfl)) ?_
  refine bslR Tryz.underlying39 Tryz.sizeOf32 Tryz.zeroValue32 rfl rfl rfl rfl rfl rfl rfl ?_
  intro b50 w50 hb50 ha50 ho50 hm50 hz50
  simp only [Above] at ha50
  try simp only [Off, book, List.cons_append, List.nil_append, List.set_cons_zero, List.set_cons_succ, ne_eq] at ho50
  refine rv rfl rfl rfl (RV.re (v' := .agg (exC ⟨itf, some ⟨b50, 0, none⟩, [(apC Z itf 0 1), (apC Z itf 8 9)], 2⟩)) (bldS_r Tryz.underlying41 Tryz.zeroValue41 (PlF.c Tryz.sizeOf26 (PlF.c Tryz.sizeOf39 (PlF.n))) rfl rfl) (rfl)) ?_
  refine bslR Tryz.underlying43 Tryz.sizeOf41 Tryz.zeroValue41 rfl rfl rfl rfl rfl rfl rfl ?_
  intro b52 w52 hb52 ha52 ho52 hm52 hz52
  simp only [Above] at ha52
  try simp only [Off, book, List.cons_append, List.nil_append, List.set_cons_zero, List.set_cons_succ, ne_eq] at ho52
  refine rv rfl rfl rfl (RV.re (v' := .agg (rpC (pol1 b15 b16) (some ⟨b52, 0, none⟩) 1 1)) (bldS_r Tryz.underlying63 Tryz.zeroValue63 (PlF.c Tryz.sizeOf24 (PlF.c Tryz.sizeOf43 (PlF.c Tryz.sizeOf61 (PlF.n)))) rfl rfl) (rfl)) ?_
  refine allW Tryz.zeroValue63 rfl rfl ?_
  intro b13 ha13 ho13
  simp only [Above] at ha13
  try simp only [Off, book, List.cons_append, List.nil_append, List.set_cons_zero, List.set_cons_succ, ne_eq] at ho13
  refine stWw (i := 0) rfl Tryz.sizeOf63 rfl rfl rfl rfl rfl rfl ?_
  refine OJ.done ?_
  refine PJ.next ?_
  refine CJ.seq ?_
  refine CJ.region ?_
  refine rv rfl rfl rfl (mv_r rfl) ?_
  refine rv rfl rfl rfl (RV.re (v' := .bool true) (eqlI_r rfl rfl) rfl) ?_
  refine rv rfl rfl rfl (mv_r rfl) ?_
  refine rv rfl rfl rfl (mv_r rfl) ?_
  refine rv rfl rfl rfl (RV.re (v' := .bool true) (eqlI_r rfl rfl) rfl) ?_
  refine rv rfl rfl rfl (pkT_r rfl rfl) ?_
  refine rv rfl rfl rfl (mv_r rfl) ?_
  refine rv rfl rfl rfl (mv_r rfl) ?_
  refine rv rfl rfl rfl (RV.re (v' := .bool true) (eqlI_r rfl rfl) rfl) ?_
  refine rv rfl rfl rfl (pkT_r rfl rfl) ?_
  refine rv rfl rfl rfl (mv_r rfl) ?_
  refine rv rfl rfl rfl (mv_r rfl) ?_
  refine rv rfl rfl rfl (RV.re (v' := .bool true) (eqlI_r rfl rfl) rfl) ?_
  refine rv rfl rfl rfl (pkT_r rfl rfl) ?_
  refine rv rfl rfl rfl (mv_r rfl) ?_
  refine rv rfl rfl rfl (RV.re (v' := .agg (poC (pol1 b15 b16))) (ldWAw_r (i := 7) rfl Tryz.isAgg24 Tryz.sizeOf24 rfl rfl) (rfl)) ?_
  refine call Tryz.call11 rfl rfl rfl (fun W hS => by rw [← pol1_ok b15 b16]; exact policy_Check (pol1 b15 b16) (pol1_few _ _) W.heap.size W (Nat.le_refl _) ⟨sl_one (hS.old (.tail _ (.tail _ (.tail _ (.tail _ (.tail _ (.tail _ (.head _))))))) hb15 hm15 (by simp only [Off, List.set_cons_zero, List.set_cons_succ, ne_eq, and_true]; exact ⟨by omega, by omega, by omega, by omega, by omega, by omega, by omega, by omega⟩)), sl_one (hS.old (.tail _ (.tail _ (.tail _ (.tail _ (.tail _ (.head _)))))) hb16 hm16 (by simp only [Off, List.set_cons_zero, List.set_cons_succ, ne_eq, and_true]; exact ⟨by omega, by omega, by omega, by omega, by omega, by omega, by omega, by omega⟩))⟩) (v := .int .i64 0) ?_
  refine rv rfl rfl rfl (RV.re (v' := .bool true) (eqlI_r rfl rfl) rfl) ?_
  refine rv rfl rfl rfl (pkT_r rfl rfl) ?_
  refine rv rfl rfl rfl (mv_r rfl) ?_
  refine rv rfl rfl rfl (RV.re (v' := .agg (poC (pol2 b43 b44))) (ldWAw_r (i := 1) rfl Tryz.isAgg24 Tryz.sizeOf24 rfl rfl) (rfl)) ?_
  refine call Tryz.call11 rfl rfl rfl (fun W hS => by rw [← pol2_no b43 b44]; exact policy_Check (pol2 b43 b44) (pol2_few _ _) W.heap.size W (Nat.le_refl _) ⟨sl_one (hS.old (.tail _ (.tail _ (.tail _ (.head _)))) hb43 hm43 (by simp only [Off, List.set_cons_zero, List.set_cons_succ, ne_eq, and_true]; exact ⟨by omega, by omega, ho43.1, ho43.2.1, ho43.2.2.1, ho43.2.2.2.1, ho43.2.2.2.2.1, ho43.2.2.2.2.2.1⟩)), sl_one (hS.old (.tail _ (.tail _ (.head _))) hb44 hm44 (by simp only [Off, List.set_cons_zero, List.set_cons_succ, ne_eq, and_true]; exact ⟨by omega, by omega, ho44.1, ho44.2.1, ho44.2.2.1, ho44.2.2.2.1, ho44.2.2.2.2.1, ho44.2.2.2.2.2.1⟩))⟩) (v := .int .i64 460) ?_
  refine rv rfl rfl rfl (RV.re (v' := .bool true) (eqlI_r rfl rfl) rfl) ?_
  refine rv rfl rfl rfl (pkT_r rfl rfl) ?_
  refine rv rfl rfl rfl (mv_r rfl) ?_
  refine rv rfl rfl rfl (RV.re (v' := .agg (poC pol3)) (bldS_r Tryz.underlying24 Tryz.zeroValue24 (PlF.c Tryz.sizeOf3 (PlF.c Tryz.sizeOf4 (PlF.c Tryz.sizeOf22 (PlF.c Tryz.sizeOf22 (PlF.c Tryz.sizeOf3 (PlF.c Tryz.sizeOf3 (PlF.n))))))) rfl rfl) (rfl)) ?_
  refine call Tryz.call11 rfl rfl rfl (fun W hS => by rw [← pol3_no]; exact policy_Check pol3 pol3_few W.heap.size W (Nat.le_refl _) ⟨sl_nil, sl_nil⟩) (v := .int .i64 460) ?_
  refine rv rfl rfl rfl (RV.re (v' := .bool true) (eqlI_r rfl rfl) rfl) ?_
  refine rv rfl rfl rfl (pkT_r rfl rfl) ?_
  refine rv rfl rfl rfl (mv_r rfl) ?_
  refine rv rfl rfl rfl (RV.re (v' := .agg (poC (pol1 b15 b16))) (ldWAw_r (i := 7) rfl Tryz.isAgg24 Tryz.sizeOf24 rfl rfl) (rfl)) ?_
  refine rv rfl rfl rfl (mv_r rfl) ?_
  refine rv rfl rfl rfl (RV.re (v' := .agg (dg itf)) (ldWAw_r (i := 6) rfl Tryz.isAgg26 Tryz.sizeOf26 rfl rfl) (rfl)) ?_
  refine rv rfl rfl rfl (RV.re (v' := .agg (cnC (apC Z itf 0 1))) (ldWAw_r (i := 5) rfl Tryz.isAgg32 Tryz.sizeOf32 rfl rfl) (rfl)) ?_
  refine rv rfl rfl rfl (RV.re (v' := .agg (cnC (apC Z itf 8 9))) (ldWAw_r (i := 3) rfl Tryz.isAgg32 Tryz.sizeOf32 rfl rfl) (rfl)) ?_
  refine bslR Tryz.underlying39 Tryz.sizeOf32 Tryz.zeroValue32 rfl rfl rfl rfl rfl rfl rfl ?_
  intro b89 w89 hb89 ha89 ho89 hm89 hz89
  simp only [Above] at ha89
  try simp only [Off, book, List.cons_append, List.nil_append, List.set_cons_zero, List.set_cons_succ, ne_eq] at ho89
  refine rv rfl rfl rfl (RV.re (v' := .agg (exC ⟨itf, some ⟨b89, 0, none⟩, [(apC Z itf 0 1), (apC Z itf 8 9)], 2⟩)) (bldS_r Tryz.underlying41 Tryz.zeroValue41 (PlF.c Tryz.sizeOf26 (PlF.c Tryz.sizeOf39 (PlF.n))) rfl rfl) (rfl)) ?_
  refine call Tryz.call14 rfl rfl rfl (fun W hS => by have hgW := (hg.old hS (by simp) (fun _ _ h => h) (by first | exact True.intro | (simp only [Over, List.set_cons_zero, List.set_cons_succ, List.eraseIdx_cons_zero, List.eraseIdx_cons_succ, and_true]; omega))); rw [← e_ac hZ b15 b16 (some ⟨b89, 0, none⟩) 2]; exact policy_Export hZ (pol1 b15 b16) (pol1_few _ _) (ls3 Z) (by simp [ls3]) itf [(apC Z itf 0 1), (apC Z itf 8 9)] (by simp) W.heap.size (some ⟨b42, 0, none⟩) 3 (some ⟨b89, 0, none⟩) 2 W (Nat.le_refl _) ⟨sl_one (hS.old (.tail _ (.tail _ (.tail _ (.tail _ (.tail _ (.tail _ (.tail _ (.head _)))))))) hb15 hm15 (by simp only [Off, List.set_cons_zero, List.set_cons_succ, ne_eq, and_true]; exact ⟨by omega, by omega, by omega, by omega, by omega, by omega, by omega, by omega⟩)), sl_one (hS.old (.tail _ (.tail _ (.tail _ (.tail _ (.tail _ (.tail _ (.head _))))))) hb16 hm16 (by simp only [Off, List.set_cons_zero, List.set_cons_succ, ne_eq, and_true]; exact ⟨by omega, by omega, by omega, by omega, by omega, by omega, by omega, by omega⟩))⟩ (sl_ls3 (hS.old (.tail _ (.tail _ (.tail _ (.tail _ (.tail _ (.head _)))))) hb42 hm42 (by simp only [Off, List.set_cons_zero, List.set_cons_succ, ne_eq, and_true]; exact ⟨by omega, by omega, ho42.1, ho42.2.1, ho42.2.2.1, ho42.2.2.2.1, ho42.2.2.2.2.1, ho42.2.2.2.2.2.1⟩))) (sl_cn2 (hS.old (.head _) hb89 hm89 (by simp only [Off, List.set_cons_zero, List.set_cons_succ, ne_eq, and_true]; exact ⟨ho89.1, ho89.2.1, ho89.2.2.1, ho89.2.2.2.1, ho89.2.2.2.2.1, ho89.2.2.2.2.2.1, ho89.2.2.2.2.2.2.1, ho89.2.2.2.2.2.2.2.1⟩))) hgW hgW.lt) (v := .int .i64 0) ?_
  refine rv rfl rfl rfl (RV.re (v' := .bool true) (eqlI_r rfl rfl) rfl) ?_
  refine rv rfl rfl rfl (pkT_r rfl rfl) ?_
  refine rv rfl rfl rfl (mv_r rfl) ?_
  refine rv rfl rfl rfl (RV.re (v' := .agg (poC (pol1 b15 b16))) (ldWAw_r (i := 7) rfl Tryz.isAgg24 Tryz.sizeOf24 rfl rfl) (rfl)) ?_
  refine rv rfl rfl rfl (mv_r rfl) ?_
  refine rv rfl rfl rfl (RV.re (v' := .agg (dg itf)) (ldWAw_r (i := 6) rfl Tryz.isAgg26 Tryz.sizeOf26 rfl rfl) (rfl)) ?_
  refine rv rfl rfl rfl (RV.re (v' := .agg (cnC (apC Z itf 0 1))) (ldWAw_r (i := 5) rfl Tryz.isAgg32 Tryz.sizeOf32 rfl rfl) (rfl)) ?_
  refine rv rfl rfl rfl (RV.re (v' := .agg (cnC (apC Z itf 1 2))) (ldWAw_r (i := 4) rfl Tryz.isAgg32 Tryz.sizeOf32 rfl rfl) (rfl)) ?_
  refine bslR Tryz.underlying39 Tryz.sizeOf32 Tryz.zeroValue32 rfl rfl rfl rfl rfl rfl rfl ?_
  intro b100 w100 hb100 ha100 ho100 hm100 hz100
  simp only [Above] at ha100
  try simp only [Off, book, List.cons_append, List.nil_append, List.set_cons_zero, List.set_cons_succ, ne_eq] at ho100
  refine rv rfl rfl rfl (RV.re (v' := .agg (exC ⟨itf, some ⟨b100, 0, none⟩, [(apC Z itf 0 1), (apC Z itf 1 2)], 2⟩)) (bldS_r Tryz.underlying41 Tryz.zeroValue41 (PlF.c Tryz.sizeOf26 (PlF.c Tryz.sizeOf39 (PlF.n))) rfl rfl) (rfl)) ?_
  refine call Tryz.call14 rfl rfl rfl (fun W hS => by have hgW := (hg.old hS (by simp) (fun _ _ h => h) (by first | exact True.intro | (simp only [Over, List.set_cons_zero, List.set_cons_succ, List.eraseIdx_cons_zero, List.eraseIdx_cons_succ, and_true]; omega))); rw [← e_ab hZ b15 b16 (some ⟨b100, 0, none⟩) 2]; exact policy_Export hZ (pol1 b15 b16) (pol1_few _ _) (ls3 Z) (by simp [ls3]) itf [(apC Z itf 0 1), (apC Z itf 1 2)] (by simp) W.heap.size (some ⟨b42, 0, none⟩) 3 (some ⟨b100, 0, none⟩) 2 W (Nat.le_refl _) ⟨sl_one (hS.old (.tail _ (.tail _ (.tail _ (.tail _ (.tail _ (.tail _ (.tail _ (.tail _ (.head _))))))))) hb15 hm15 (by simp only [Off, List.set_cons_zero, List.set_cons_succ, ne_eq, and_true]; exact ⟨by omega, by omega, by omega, by omega, by omega, by omega, by omega, by omega⟩)), sl_one (hS.old (.tail _ (.tail _ (.tail _ (.tail _ (.tail _ (.tail _ (.tail _ (.head _)))))))) hb16 hm16 (by simp only [Off, List.set_cons_zero, List.set_cons_succ, ne_eq, and_true]; exact ⟨by omega, by omega, by omega, by omega, by omega, by omega, by omega, by omega⟩))⟩ (sl_ls3 (hS.old (.tail _ (.tail _ (.tail _ (.tail _ (.tail _ (.tail _ (.head _))))))) hb42 hm42 (by simp only [Off, List.set_cons_zero, List.set_cons_succ, ne_eq, and_true]; exact ⟨by omega, by omega, ho42.1, ho42.2.1, ho42.2.2.1, ho42.2.2.2.1, ho42.2.2.2.2.1, ho42.2.2.2.2.2.1⟩))) (sl_cn2 (hS.old (.head _) hb100 hm100 (by simp only [Off, List.set_cons_zero, List.set_cons_succ, ne_eq, and_true]; exact ⟨ho100.1, ho100.2.1, ho100.2.2.1, ho100.2.2.2.1, ho100.2.2.2.2.1, ho100.2.2.2.2.2.1, ho100.2.2.2.2.2.2.1, ho100.2.2.2.2.2.2.2.1⟩))) hgW hgW.lt) (v := .int .i64 460) ?_
  refine rv rfl rfl rfl (RV.re (v' := .bool true) (eqlI_r rfl rfl) rfl) ?_
  refine rv rfl rfl rfl (pkT_r rfl rfl) ?_
  refine rv rfl rfl rfl (asg_r rfl) ?_
  refine OJ.done ?_
  refine PJ.next ?_
  refine CJ.seq ?_
  refine CJ.region ?_
  refine rv rfl rfl rfl (mv_r rfl) ?_
  refine rv rfl rfl rfl (mv_r rfl) ?_
  refine rv rfl rfl rfl (RV.re (v' := .agg (poC (pol1 b15 b16))) (ldWAw_r (i := 7) rfl Tryz.isAgg24 Tryz.sizeOf24 rfl rfl) (rfl)) ?_
  refine rv rfl rfl rfl (RV.re (v' := .agg (exC ⟨fun _ => 0, none, [], 0⟩)) (bldS_r Tryz.underlying41 Tryz.zeroValue41 (PlF.c Tryz.sizeOf26 (PlF.c Tryz.sizeOf39 (PlF.n))) rfl rfl) (rfl)) ?_
  refine call Tryz.call14 rfl rfl rfl (fun W hS => by have hgW := (hg.old hS (by simp) (fun _ _ h => h) (by first | exact True.intro | (simp only [Over, List.set_cons_zero, List.set_cons_succ, List.eraseIdx_cons_zero, List.eraseIdx_cons_succ, and_true]; omega))); rw [← e_0 Z b15 b16]; exact policy_Export hZ (pol1 b15 b16) (pol1_few _ _) [] (by simp [ls3]) (fun _ => 0) [] (by simp) W.heap.size none 0 none 0 W (Nat.le_refl _) ⟨sl_one (hS.old (.tail _ (.tail _ (.tail _ (.tail _ (.tail _ (.tail _ (.tail _ (.tail _ (.head _))))))))) hb15 hm15 (by simp only [Off, List.set_cons_zero, List.set_cons_succ, ne_eq, and_true]; exact ⟨by omega, by omega, by omega, by omega, by omega, by omega, by omega, by omega⟩)), sl_one (hS.old (.tail _ (.tail _ (.tail _ (.tail _ (.tail _ (.tail _ (.tail _ (.head _)))))))) hb16 hm16 (by simp only [Off, List.set_cons_zero, List.set_cons_succ, ne_eq, and_true]; exact ⟨by omega, by omega, by omega, by omega, by omega, by omega, by omega, by omega⟩))⟩ sl_nil sl_nil hgW hgW.lt) (v := .int .i64 460) ?_
  refine rv rfl rfl rfl (RV.re (v' := .bool true) (eqlI_r rfl rfl) rfl) ?_
  refine rv rfl rfl rfl (pkT_r rfl rfl) ?_
  refine rv rfl rfl rfl (mv_r rfl) ?_
  refine rv rfl rfl rfl (RV.re (v' := .agg nilsR) (bldS_r Tryz.underlying74 Tryz.zeroValue74 (PlF.c Tryz.sizeOf65 (PlF.c Tryz.sizeOf66 (PlF.c Tryz.sizeOf67 (PlF.c Tryz.sizeOf68 (PlF.c Tryz.sizeOf69 (PlF.c Tryz.sizeOf70 (PlF.c Tryz.sizeOf71 (PlF.c Tryz.sizeOf72 (PlF.n))))))))) rfl rfl) (rfl)) ?_
  refine rv rfl rfl rfl (RV.re (v' := .agg (poC (pol1 b15 b16))) (ldWAw_r (i := 7) rfl Tryz.isAgg24 Tryz.sizeOf24 rfl rfl) (rfl)) ?_
  refine call Tryz.call21 rfl rfl rfl (fun W hS => policy_Apart0 (pol1 b15 b16) (pol1_few _ _) (pol1_ok _ _) W.heap.size W (Nat.le_refl _) ⟨sl_one (hS.old (.tail _ (.tail _ (.tail _ (.tail _ (.tail _ (.tail _ (.tail _ (.tail _ (.head _))))))))) hb15 hm15 (by simp only [Off, List.set_cons_zero, List.set_cons_succ, ne_eq, and_true]; exact ⟨by omega, by omega, by omega, by omega, by omega, by omega, by omega, by omega⟩)), sl_one (hS.old (.tail _ (.tail _ (.tail _ (.tail _ (.tail _ (.tail _ (.tail _ (.head _)))))))) hb16 hm16 (by simp only [Off, List.set_cons_zero, List.set_cons_succ, ne_eq, and_true]; exact ⟨by omega, by omega, by omega, by omega, by omega, by omega, by omega, by omega⟩))⟩) ?_
  refine rv rfl rfl rfl (RV.re (v' := .bool true) (eqlI_r rfl rfl) rfl) ?_
  refine rv rfl rfl rfl (pkT_r rfl rfl) ?_
  refine rv rfl rfl rfl (mv_r rfl) ?_
  refine rv rfl rfl rfl (RV.re (v' := .agg nilsR) (bldS_r Tryz.underlying74 Tryz.zeroValue74 (PlF.c Tryz.sizeOf65 (PlF.c Tryz.sizeOf66 (PlF.c Tryz.sizeOf67 (PlF.c Tryz.sizeOf68 (PlF.c Tryz.sizeOf69 (PlF.c Tryz.sizeOf70 (PlF.c Tryz.sizeOf71 (PlF.c Tryz.sizeOf72 (PlF.n))))))))) rfl rfl) (rfl)) ?_
  refine rv rfl rfl rfl (RV.re (v' := .agg (poC (pol1 b15 b16))) (ldWAw_r (i := 7) rfl Tryz.isAgg24 Tryz.sizeOf24 rfl rfl) (rfl)) ?_
  refine call Tryz.call22 rfl rfl rfl (fun W hS => policy_Retain0 (pol1 b15 b16) (pol1_few _ _) (pol1_ok _ _) W.heap.size W (Nat.le_refl _) ⟨sl_one (hS.old (.tail _ (.tail _ (.tail _ (.tail _ (.tail _ (.tail _ (.tail _ (.tail _ (.head _))))))))) hb15 hm15 (by simp only [Off, List.set_cons_zero, List.set_cons_succ, ne_eq, and_true]; exact ⟨by omega, by omega, by omega, by omega, by omega, by omega, by omega, by omega⟩)), sl_one (hS.old (.tail _ (.tail _ (.tail _ (.tail _ (.tail _ (.tail _ (.tail _ (.head _)))))))) hb16 hm16 (by simp only [Off, List.set_cons_zero, List.set_cons_succ, ne_eq, and_true]; exact ⟨by omega, by omega, by omega, by omega, by omega, by omega, by omega, by omega⟩))⟩) ?_
  refine rv rfl rfl rfl (RV.re (v' := .bool true) (eqlI_r rfl rfl) rfl) ?_
  refine rv rfl rfl rfl (pkT_r rfl rfl) ?_
  refine rv rfl rfl rfl (mv_r rfl) ?_
  refine rv rfl rfl rfl (RV.re (v' := .agg nilsR) (bldS_r Tryz.underlying74 Tryz.zeroValue74 (PlF.c Tryz.sizeOf65 (PlF.c Tryz.sizeOf66 (PlF.c Tryz.sizeOf67 (PlF.c Tryz.sizeOf68 (PlF.c Tryz.sizeOf69 (PlF.c Tryz.sizeOf70 (PlF.c Tryz.sizeOf71 (PlF.c Tryz.sizeOf72 (PlF.n))))))))) rfl rfl) (rfl)) ?_
  refine rv rfl rfl rfl (mv_r rfl) ?_
  refine rv rfl rfl rfl (RV.re (v' := .agg (rpC (pol1 b15 b16) (some ⟨b52, 0, none⟩) 1 1)) (ldWAw_r (i := 0) rfl Tryz.isAgg63 Tryz.sizeOf63 rfl rfl) (rfl)) ?_
  refine call Tryz.call23 rfl rfl rfl (fun W hS => by have hgW := (hg.old hS (by simp) (fun _ _ h => h) (by first | exact True.intro | (simp only [Over, List.set_cons_zero, List.set_cons_succ, List.eraseIdx_cons_zero, List.eraseIdx_cons_succ, and_true]; omega))); exact policy_Audit_one hZ (pol1 b15 b16) (pol1_few _ _) (ls3 Z) (by simp [ls3]) itf [(apC Z itf 0 1), (apC Z itf 8 9)] (by simp) W.heap.size (some ⟨b42, 0, none⟩) 3 (some ⟨b50, 0, none⟩) 2 W (Nat.le_refl _) ⟨sl_one (hS.old (.tail _ (.tail _ (.tail _ (.tail _ (.tail _ (.tail _ (.tail _ (.tail _ (.head _))))))))) hb15 hm15 (by simp only [Off, List.set_cons_zero, List.set_cons_succ, ne_eq, and_true]; exact ⟨by omega, by omega, by omega, by omega, by omega, by omega, by omega, by omega⟩)), sl_one (hS.old (.tail _ (.tail _ (.tail _ (.tail _ (.tail _ (.tail _ (.tail _ (.head _)))))))) hb16 hm16 (by simp only [Off, List.set_cons_zero, List.set_cons_succ, ne_eq, and_true]; exact ⟨by omega, by omega, by omega, by omega, by omega, by omega, by omega, by omega⟩))⟩ (sl_ls3 (hS.old (.tail _ (.tail _ (.tail _ (.tail _ (.tail _ (.tail _ (.head _))))))) hb42 hm42 (by simp only [Off, List.set_cons_zero, List.set_cons_succ, ne_eq, and_true]; exact ⟨by omega, by omega, ho42.1, ho42.2.1, ho42.2.2.1, ho42.2.2.2.1, ho42.2.2.2.2.1, ho42.2.2.2.2.2.1⟩))) (sl_cn2 (hS.old (.tail _ (.tail _ (.tail _ (.head _)))) hb50 hm50 (by simp only [Off, List.set_cons_zero, List.set_cons_succ, ne_eq, and_true]; exact ⟨by omega, ho50.1, ho50.2.1, ho50.2.2.1, ho50.2.2.2.1, ho50.2.2.2.2.1, ho50.2.2.2.2.2.1, ho50.2.2.2.2.2.2.1⟩))) hgW hgW.lt (e_ac hZ _ _ _ _) b52 (hS.old (.tail _ (.tail _ (.head _))) hb52 hm52 (by simp only [Off, List.set_cons_zero, List.set_cons_succ, ne_eq, and_true]; exact ⟨by omega, ho52.1, ho52.2.1, ho52.2.2.1, ho52.2.2.2.1, ho52.2.2.2.2.1, ho52.2.2.2.2.2.1, ho52.2.2.2.2.2.2.1⟩)) (lt_heap (hS.old (.tail _ (.tail _ (.head _))) hb52 hm52 (by simp only [Off, List.set_cons_zero, List.set_cons_succ, ne_eq, and_true]; exact ⟨by omega, ho52.1, ho52.2.1, ho52.2.2.1, ho52.2.2.2.1, ho52.2.2.2.2.1, ho52.2.2.2.2.2.1, ho52.2.2.2.2.2.2.1⟩)))) ?_
  refine rv rfl rfl rfl (RV.re (v' := .bool true) (eqlI_r rfl rfl) rfl) ?_
  refine rv rfl rfl rfl (pkT_r rfl rfl) ?_
  refine rv rfl rfl rfl (mv_r rfl) ?_
  refine rv rfl rfl rfl (RV.re (v' := .agg nilsR) (bldS_r Tryz.underlying74 Tryz.zeroValue74 (PlF.c Tryz.sizeOf65 (PlF.c Tryz.sizeOf66 (PlF.c Tryz.sizeOf67 (PlF.c Tryz.sizeOf68 (PlF.c Tryz.sizeOf69 (PlF.c Tryz.sizeOf70 (PlF.c Tryz.sizeOf71 (PlF.c Tryz.sizeOf72 (PlF.n))))))))) rfl rfl) (rfl)) ?_
  refine rv rfl rfl rfl (RV.re (v' := .agg (poC (pol1 b15 b16))) (ldWAw_r (i := 7) rfl Tryz.isAgg24 Tryz.sizeOf24 rfl rfl) (rfl)) ?_
  refine rv rfl rfl rfl (RV.re (v' := .agg (rpC (pol1 b15 b16) none 0 0)) (bldS_r Tryz.underlying63 Tryz.zeroValue63 (PlF.c Tryz.sizeOf24 (PlF.c Tryz.sizeOf43 (PlF.c Tryz.sizeOf61 (PlF.n)))) rfl rfl) (rfl)) ?_
  refine call Tryz.call23 rfl rfl rfl (fun W hS => policy_Audit_nil (pol1 b15 b16) (pol1_few _ _) (pol1_ok _ _) W.heap.size W (Nat.le_refl _) ⟨sl_one (hS.old (.tail _ (.tail _ (.tail _ (.tail _ (.tail _ (.tail _ (.tail _ (.tail _ (.head _))))))))) hb15 hm15 (by simp only [Off, List.set_cons_zero, List.set_cons_succ, ne_eq, and_true]; exact ⟨by omega, by omega, by omega, by omega, by omega, by omega, by omega, by omega⟩)), sl_one (hS.old (.tail _ (.tail _ (.tail _ (.tail _ (.tail _ (.tail _ (.tail _ (.head _)))))))) hb16 hm16 (by simp only [Off, List.set_cons_zero, List.set_cons_succ, ne_eq, and_true]; exact ⟨by omega, by omega, by omega, by omega, by omega, by omega, by omega, by omega⟩))⟩ none 0 0) ?_
  refine rv rfl rfl rfl (RV.re (v' := .bool true) (eqlI_r rfl rfl) rfl) ?_
  refine rv rfl rfl rfl (pkT_r rfl rfl) ?_
  refine rv rfl rfl rfl (asg_r rfl) ?_
  refine OJ.done ?_
  refine PJ.next ?_
  refine CJ.ret ?_
  refine retO (.inl rfl) Tryz.results7 (RS.t rfl (RS.n)) (.tail _ (.tail _ (.tail _ (.tail _ (.tail _ (.tail _ (.tail _ (.tail _ (.tail _ (.head _)))))))))) (by first | (simp only [Over, List.set_cons_zero, List.set_cons_succ, List.eraseIdx_cons_zero, List.eraseIdx_cons_succ, and_true]; omega) | (simp [Over] <;> omega)) ?_
  rfl
end Px
