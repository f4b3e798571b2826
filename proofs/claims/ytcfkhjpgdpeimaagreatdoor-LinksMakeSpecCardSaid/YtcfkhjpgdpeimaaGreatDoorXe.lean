/- Lent blocks, and the comparison of structs and arrays. No condition beyond those that each theorem states. -/
import Derived.Test.YtcfkhjpgdpeimaaGreatDoorXd
import Derived.Laws.StructEq
set_option linter.unusedSimpArgs false
set_option linter.unusedVariables false
namespace Px
open Go Go.RowKit

/-! ### several blocks that are lent -/
def keys (H : Heap) : List Nat := H.map (·.1)
def FrAll (G : Gh) (L : List World) : Heap → Prop
  | [] => True
  | p :: H => Fr G L p.1 ∧ FrAll G L H
theorem FrAll.mem {G : Gh} {L : List World} : ∀ {H : Heap}, FrAll G L H → ∀ p ∈ H, Fr G L p.1
  | [], _, p, hp => by cases hp
  | q :: H, h, p, hp => by
    rcases List.mem_cons.1 hp with rfl | hp
    · exact h.1
    · exact FrAll.mem h.2 p hp

theorem St.swapZ {G : Gh} {L : List World} {Hz H0 Hn : Heap} {W W' : World} (h : St G L (Hz ++ H0) W) (hk : Keep (fun k => k ∈ keys Hz) W W') (hfr : FrAll G L Hz)
    (hn : ∀ p ∈ Hn, W'.heap[p.1]? = some p.2 ∧ (p.1 ∈ keys Hz ∨ W.heap.size ≤ p.1)) (hd : Dist Hn) : St G L (Hn ++ H0) W' := by
  have hnd := (dist_iff (Hz ++ H0)).1 h.nodup
  rw [List.map_append, List.nodup_append] at hnd
  obtain ⟨hz1, hz2, hz3⟩ := hnd
  have hcross : ∀ p ∈ H0, p.1 ∉ keys Hz := fun p hp hm => hz3 p.1 hm p.1 (List.mem_map.2 ⟨p, hp, rfl⟩) rfl
  have hH0 : ∀ p ∈ H0, W'.heap[p.1]? = some p.2 := fun p hp => by
    rw [hk.block p.1 (h.lt p (by simp [hp])) (hcross p hp)]
    exact h.own p (by simp [hp])
  refine ⟨?_, fun k hv => Nat.lt_of_lt_of_le (h.vlt k hv) hk.size, fun k hv => Nat.lt_of_lt_of_le (h.xlt k hv) hk.size, fun w hw => ?_, fun p hp => ?_, ?_, fun p hp => ?_⟩
  · refine G.stab W W' h.ghost hk.os hk.tape hk.output hk.size (fun k hv => hk.block k (h.vlt k hv) fun hm => ?_)
    obtain ⟨p, hp, rfl⟩ := List.mem_map.1 hm
    exact h.apart p (by simp [hp]) hv
  · have hl := h.links w hw
    refine ⟨hk.os.trans hl.os, hk.tape.trans hl.tape, hk.output.trans hl.output, Nat.le_trans hl.size hk.size, fun k hkw hx => ?_⟩
    simp only [List.map_append, List.mem_append, not_or] at hx
    have hnz : k ∉ keys Hz := fun hm => by
      obtain ⟨p, hp, rfl⟩ := List.mem_map.1 hm
      rcases hfr.mem p hp with hf | hf
      · exact hx.1 hf
      · have := hf.mem w hw; omega
    rw [hk.block k (Nat.lt_of_lt_of_le hkw hl.size) hnz]
    refine hl.block k hkw fun hy => ?_
    simp only [List.map_append, List.mem_append] at hy
    rcases hy with hy | hy | hy
    · exact hx.1 hy
    · exact hnz hy
    · exact hx.2.2 hy
  · rcases List.mem_append.1 hp with hp | hp
    · exact (hn p hp).1
    · exact hH0 p hp
  · rw [dist_iff, List.map_append, List.nodup_append]
    refine ⟨(dist_iff Hn).1 hd, hz2, fun a ha b hb e => ?_⟩
    subst e
    obtain ⟨p, hp, rfl⟩ := List.mem_map.1 ha
    obtain ⟨q, hq, e⟩ := List.mem_map.1 hb
    rcases (hn p hp).2 with h1 | h1
    · exact hcross q hq (e ▸ h1)
    · have := h.lt q (by simp [hq]); omega
  · rcases List.mem_append.1 hp with hp | hp
    · intro hv
      rcases (hn p hp).2 with h1 | h1
      · obtain ⟨q, hq, e⟩ := List.mem_map.1 h1
        exact h.apart q (by simp [hq]) (e ▸ hv)
      · have := h.vlt _ hv; omega
    · exact h.apart p (by simp [hp])

/-- what a function does that is lent blocks -/
def RetZ {α : Type} (w : World) (Z : List Nat) (v : α → Value) (Hn : α → Heap) (Φ : α → Prop) : Ending → World → Prop := fun e w' =>
  ∃ x, e = .returned (v x) ∧ Keep (fun k => k ∈ Z) w w' ∧ Φ x ∧ (∀ p ∈ Hn x, w'.heap[p.1]? = some p.2 ∧ (p.1 ∈ Z ∨ w.heap.size ≤ p.1)) ∧ Dist (Hn x)

theorem st_lentZ {w : World} {Hz : Heap} (h : ∀ p ∈ Hz, w.heap[p.1]? = some p.2) (hd : Dist Hz) : St (Gh.lent (fun k => k ∈ keys Hz)) [w] Hz w where
  ghost := trivial
  vlt := fun _ h => h.elim
  xlt := fun k hk => by
    obtain ⟨p, hp, rfl⟩ := List.mem_map.1 (show k ∈ keys Hz from hk)
    exact (Array.getElem?_eq_some_iff.1 (h p hp)).1
  links := fun w' hw => by simp at hw; subst hw; exact Keep.refl _ _
  own := h
  nodup := hd
  apart := fun _ _ h => h.elim

/-- own facts of a list -/
def OwnAll (w : World) : Heap → Prop
  | [] => True
  | p :: H => w.heap[p.1]? = some p.2 ∧ OwnAll w H
theorem OwnAll.mem {w : World} : ∀ {H : Heap}, OwnAll w H → ∀ p ∈ H, w.heap[p.1]? = some p.2
  | [], _, p, hp => by cases hp
  | q :: H, h, p, hp => by
    rcases List.mem_cons.1 hp with rfl | hp
    · exact h.1
    · exact OwnAll.mem h.2 p hp
theorem dist1 (p : Nat × Obj) : Dist [p] := by rw [dist_iff]; simp
theorem dist2 {p q : Nat × Obj} (h : p.1 ≠ q.1) : Dist [p, q] := by rw [dist_iff]; simp [h]
theorem dist3 {p q r : Nat × Obj} (h : p.1 ≠ q.1) (h2 : p.1 ≠ r.1) (h3 : q.1 ≠ r.1) : Dist [p, q, r] := by rw [dist_iff]; simp [h, h2, h3]

def OverZ (Z : List Nat) (n : Nat) : Heap → Prop
  | [] => True
  | p :: H => (p.1 ∈ Z ∨ n ≤ p.1) ∧ OverZ Z n H
theorem OverZ.mem {Z : List Nat} {n : Nat} : ∀ {H : Heap}, OverZ Z n H → ∀ p ∈ H, p.1 ∈ Z ∨ n ≤ p.1
  | [], _, p, hp => by cases hp
  | q :: H, h, p, hp => by
    rcases List.mem_cons.1 hp with rfl | hp
    · exact h.1
    · exact OverZ.mem h.2 p hp

section
variable {C : Cx} {Q : Post} {E : Env} {D : List Deferred} {G : Gh} {L : List World} {H : Heap} {ops : Array Oper} {l : List Oper}
variable {d T ty f : Nat} {pos : String} {aft : Array Edge} {g : Option (Nat × Bool)} {x : Operand} {xs : List Operand} {vs : List Value} {tys : Array Nat} {fn : Func}

theorem retZ {α : Type} {v : α → Value} {Hn : α → Heap} {Φ : α → Prop} {Hz H0 : Heap} {rs : List ResultVar} {us : List Value} {w : World} {ex : Exit} (z : α) (he : ex = .ret ∨ ex = .normal) (hr : fn.results = rs.toArray) (h : RS C (Gh.lent (fun k => k ∈ keys Hz)) L (Hn z ++ H0) E rs us)
    (hw : w ∈ L) (ho : OverZ (keys Hz) w.heap.size (Hn z ++ H0)) (hv : oneOf us = v z) (hΦ : Φ z) : PJ C (bodyPost C.P fn (RetZ w (keys Hz) v Hn Φ)) ex E [] (Gh.lent (fun k => k ∈ keys Hz)) L (Hn z ++ H0) :=
  retG he hr h fun W hS => ⟨z, by rw [hv], (hS.links w hw).mono (fun k hk hx => by
      rcases hx with hx | hx
      · exact hx
      · obtain ⟨p, hp, rfl⟩ := List.mem_map.1 hx
        rcases ho.mem p hp with h | h
        · exact h
        · omega), hΦ, fun p hp => ⟨hS.own p (by simp [hp]), ho.mem p (by simp [hp])⟩, by
      have := (dist_iff _).1 hS.nodup
      rw [List.map_append, List.nodup_append] at this
      exact (dist_iff _).2 this.1⟩

/-- a call that is lent the first own blocks -/
theorem callZ {α : Type} {v : α → Value} {Hn : α → Heap} {Φ : α → Prop} {Hz H0 : Heap} {first cap : List Value} (hH : H = Hz ++ H0) (hx : ev E x = some (.func (.func f) first.toArray cap.toArray)) (hent : Ent C.P f) (hw : wantE ops E g = some true) (hN : Nat.blt d C.N = true) (ha : evs E xs = some vs) (hfr : FrAll G L Hz)
    (hc : ∀ W, St G L (Hz ++ H0) W → Calls C.P f (first ++ vs ++ cap).toArray W (RetZ W (keys Hz) v Hn Φ))
    (k : ∀ z, Φ z → (∀ p ∈ Hn z, p.1 ∈ keys Hz ∨ (Above L p.1 ∧ Off H p.1)) → OJ C ops Q l ((d, v z) :: E) D G L (Hn z ++ H0)) :
    OJ C ops Q (⟨some d, .call ⟨.value x, xs.toArray, tys⟩, ty, pos, aft, g⟩ :: l) E D G L H := by
  subst hH
  exact call_gen rfl hw hx ha (by simp) hent fun a W hN' hD hF hS => (hc W hS).mono (by
    rintro ed W' ⟨z, rfl, hk, hΦ, hn, hd⟩
    refine k z hΦ (fun p hp => ?_) (a.put (some d) (v z)) W' (by simp [Act.put, hN']) (by simp [Act.put, hD]) (hF.put _ (by rw [hN']; exact lt_of hN)) (hS.swapZ hk hfr hn hd)
    rcases (hn p hp).2 with h | h
    · exact .inl h
    · exact .inr ⟨above_up hS h, off_up hS h⟩)
theorem CJ.prm {c : Code} {H' : Heap} (hp : H.Perm H') (k : CJ C c Q E D G L H') : CJ C c Q E D G L H := fun a W hN hD hF hS => k a W hN hD hF (hS.perm hp)
/-- two own blocks are two -/
theorem OJ.nodupAt {i j : Nat} {p q : Nat × Obj} (hi : H[i]? = some p) (hj : H[j]? = some q) (hij : i ≠ j) (k : p.1 ≠ q.1 → OJ C ops Q l E D G L H) : OJ C ops Q l E D G L H :=
  fun a W hN hD hF hS => k (fun e => hij (hS.nodup i j p q hi hj e)) a W hN hD hF hS
end
end Px
namespace Px
open Go Go.RowKit

/-! ### equality of plain data -/
inductive TK where | i | b | s
def eqV : Value → Value → Bool
  | .int _ a, .int _ b => a == b
  | .bool a, .bool b => a == b
  | .string a, .string b => a.toList == b.toList
  | _, _ => false
def smK : TK → Value → Value → Bool
  | .i, .int k _, .int k' _ => decide (k = k')
  | .b, .bool _, .bool _ => true
  | .s, .string _, .string _ => true
  | _, _, _ => false
def eqL : List Value → List Value → Bool
  | x :: xs, y :: ys => eqV x y && eqL xs ys
  | _, _ => true
def smT : List TK → List Value → List Value → Bool
  | k :: ks, x :: xs, y :: ys => smK k x y && smT ks xs ys
  | [], [], [] => true
  | _, _, _ => false
theorem eqV_refl {k : TK} {x y : Value} (h : smK k x y = true) : eqV x x = true := by cases k <;> cases x <;> cases y <;> simp_all [smK, eqV]
theorem eqL_refl : ∀ {ks : List TK} {xs ys : List Value}, smT ks xs ys = true → eqL xs xs = true
  | [], [], _, _ => rfl
  | k :: ks, x :: xs, y :: ys, h => by
    simp only [smT, Bool.and_eq_true] at h
    simp only [eqL, eqV_refl h.1, eqL_refl h.2, Bool.and_self]
  | _ :: _, [], _, _ => rfl
  | _ :: _, _ :: _, [], h => by simp [smT] at h
  | [], _ :: _, _, h => by simp [smT] at h
theorem smT_len : ∀ {ks : List TK} {xs ys : List Value}, smT ks xs ys = true → xs.length = ks.length ∧ ys.length = ks.length
  | [], [], [], _ => ⟨rfl, rfl⟩
  | k :: ks, x :: xs, y :: ys, h => by
    simp only [smT, Bool.and_eq_true] at h
    have := smT_len h.2
    simp [this.1, this.2]
  | [], _ :: _, _, h => by simp [smT] at h
  | [], [], _ :: _, h => by simp [smT] at h
  | _ :: _, [], _, h => by simp [smT] at h
  | _ :: _, _ :: _, [], h => by simp [smT] at h
theorem eqL_append : ∀ {a b c d : List Value}, a.length = c.length → eqL (a ++ b) (c ++ d) = (eqL a c && eqL b d)
  | [], b, [], d, _ => by simp [eqL]
  | x :: a, b, y :: c, d, h => by
    simp only [List.cons_append, eqL]
    rw [eqL_append (by simpa using h), Bool.and_assoc]
  | [], b, y :: c, d, h => by simp at h
  | x :: a, b, [], d, h => by simp at h
theorem smT_append : ∀ {k1 k2 : List TK} {a b c d : List Value}, a.length = k1.length → c.length = k1.length → smT (k1 ++ k2) (a ++ b) (c ++ d) = (smT k1 a c && smT k2 b d)
  | [], k2, [], b, [], d, _, _ => by simp [smT]
  | k :: k1, k2, x :: a, b, y :: c, d, h, h' => by
    simp only [List.cons_append, smT]
    rw [smT_append (by simpa using h) (by simpa using h'), Bool.and_assoc]
  | [], k2, x :: a, b, c, d, h, h' => by simp at h
  | [], k2, [], b, y :: c, d, h, h' => by simp at h'
  | k :: k1, k2, [], b, c, d, h, h' => by simp at h
  | k :: k1, k2, x :: a, b, [], d, h, h' => by simp at h'

def EqA (P : Program) (k t : Nat) (ks : List TK) : Prop := ∀ (d : Nat) (xs ys : List Value) (w : World), smT ks xs ys = true → (Op.equalIn (d + k) t (.agg xs.toArray) (.agg ys.toArray)).run P w = .ok (eqL xs ys) w
/-- a part at an offset: of xs the cells pre ++ cs ++ post -/
def EqP (P : Program) (k t : Nat) (ks : List TK) : Prop := ∀ (d : Nat) (p1 c1 q1 p2 c2 q2 : List Value) (w : World), p1.length = p2.length → smT ks c1 c2 = true →
  ∃ a b, (part t (p1 ++ (c1 ++ q1)).toArray p1.length).run P w = .ok a w ∧ (part t (p2 ++ (c2 ++ q2)).toArray p1.length).run P w = .ok b w ∧ (Op.equalIn (d + k) t a b).run P w = .ok (eqL c1 c2) w

theorem EqA.up {P : Program} {k k' t : Nat} {ks : List TK} (h : EqA P k t ks) (hk : k ≤ k') : EqA P k' t ks := fun d xs ys w h1 => by
  have := h (d + (k' - k)) xs ys w h1
  rwa [show d + (k' - k) + k = d + k' by omega] at this
theorem EqP.up {P : Program} {k k' t : Nat} {ks : List TK} (h : EqP P k t ks) (hk : k ≤ k') : EqP P k' t ks := fun d p1 c1 q1 p2 c2 q2 w h1 h2 => by
  have := h (d + (k' - k)) p1 c1 q1 p2 c2 q2 w h1 h2
  rwa [show d + (k' - k) + k = d + k' by omega] at this
theorem EqP.one {P : Program} {t : Nat} {k : TK} (hA : AggF P t false) (h : ∀ (d : Nat) (v u : Value) (w : World), smK k v u = true → (Op.equalIn (d + 1) t v u).run P w = .ok (eqV v u) w) : EqP P 1 t [k] := by
  intro d p1 c1 q1 p2 c2 q2 w h1 h2
  match c1, c2, h2 with
  | [v], [u], h2 =>
    simp only [smT, Bool.and_true] at h2
    refine ⟨v, u, by simp [part, hA w], by rw [h1]; simp [part, hA w], ?_⟩
    rw [h d v u w h2]
    simp [eqL]
  | [], _, h2 => simp [smT] at h2
  | [_], [], h2 => simp [smT] at h2
  | _ :: _ :: _, [], h2 => simp [smT] at h2
  | [_], _ :: _ :: _, h2 => simp [smT] at h2
  | _ :: _ :: _, _ :: _, h2 => simp [smT] at h2
theorem EqP.int {P : Program} {t : Nat} {K : IntKind} (hU : P.underlying t = some (.int K)) (hA : AggF P t false) : EqP P 1 t [.i] := EqP.one hA (by
  intro d v u w h
  cases v <;> cases u <;> simp only [smK, Bool.false_eq_true] at h
  rename_i k a k' b
  have : k = k' := by simpa using h
  subst this
  rw [run_equalIn_int w d t k K a b hU]; rfl)
theorem EqP.bool {P : Program} {t : Nat} (hU : P.underlying t = some .bool) (hA : AggF P t false) : EqP P 1 t [.b] := EqP.one hA (by
  intro d v u w h
  cases v <;> cases u <;> simp only [smK, Bool.false_eq_true] at h
  rw [run_equalIn_bool' w d t _ _ hU]; rfl)
theorem EqP.str {P : Program} {t : Nat} (hU : P.underlying t = some .string) (hA : AggF P t false) : EqP P 1 t [.s] := EqP.one hA (by
  intro d v u w h
  cases v <;> cases u <;> simp only [smK, Bool.false_eq_true] at h
  rw [run_equalIn_string w d t _ _ hU]; rfl)
theorem EqP.agg {P : Program} {k t n : Nat} {ks : List TK} (hA : AggF P t true) (hZ : SizeF P t n) (hn : ks.length = n) (h : EqA P k t ks) : EqP P k t ks := by
  intro d p1 c1 q1 p2 c2 q2 w h1 h2
  have hl := smT_len h2
  have cutp : ∀ (p c q : List Value), c.length = n → (p ++ (c ++ q)).toArray.extract p.length (p.length + n) = c.toArray := by
    intro p c q hc
    apply Array.ext'
    rw [Array.toList_extract, List.extract_eq_take_drop]
    simp only [Nat.add_sub_cancel_left]
    rw [List.drop_left' rfl, ← hc, List.take_left' rfl]
  refine ⟨.agg c1.toArray, .agg c2.toArray, ?_, ?_, h d c1 c2 w h2⟩
  · simp only [part, Sem.run_bind, hA w, hZ w, Result.andThen, if_true, Sem.run_pure]
    rw [cutp p1 c1 q1 (by omega)]
  · simp only [part, Sem.run_bind, hA w, hZ w, Result.andThen, if_true, Sem.run_pure]
    rw [h1, cutp p2 c2 q2 (by omega)]

/-- the fields of a struct, one after the other -/
def EqFs (P : Program) (k : Nat) : List Field → Nat → List TK → Prop
  | [], _, ks => ks = []
  | f :: fs, off, ks => ∃ k1 k2, ks = k1 ++ k2 ∧ f.offset = off ∧ (f.name ≠ "_") ∧ EqP P k f.type k1 ∧ EqFs P k fs (off + k1.length) k2
theorem EqFs.n {P : Program} {k off : Nat} : EqFs P k [] off [] := rfl
theorem EqFs.c {P : Program} {k off : Nat} {f : Field} {fs : List Field} {k1 k2 : List TK} (ho : f.offset = off) (hn : f.name ≠ "_") (h : EqP P k f.type k1) (t : EqFs P k fs (off + k1.length) k2) : EqFs P k (f :: fs) off (k1 ++ k2) := ⟨k1, k2, rfl, ho, hn, h, t⟩
theorem eqFs_run {P : Program} {k : Nat} (d : Nat) : ∀ (fs : List Field) (ks : List TK) (p1 c1 p2 c2 : List Value) (w : World), p1.length = p2.length → EqFs P k fs p1.length ks → smT ks c1 c2 = true →
    (Op.eqFields (d + k) (p1 ++ c1).toArray (p2 ++ c2).toArray fs).run P w = .ok (eqL c1 c2) w
  | [], ks, p1, c1, p2, c2, w, _, h, hs => by
    cases h
    match c1, c2, hs with
    | [], [], _ => simp [Op.eqFields, eqL]
    | _ :: _, _, hs => simp [smT] at hs
    | [], _ :: _, hs => simp [smT] at hs
  | f :: fs, ks, p1, c1, p2, c2, w, hp, h, hs => by
    obtain ⟨k1, k2, rfl, ho, hn, hf, ht⟩ := h
    have hl := smT_len hs
    simp only [List.length_append] at hl
    obtain ⟨a1, b1, rfl, ha1⟩ : ∃ a b, c1 = a ++ b ∧ a.length = k1.length := ⟨c1.take k1.length, c1.drop k1.length, (List.take_append_drop _ _).symm, by simp; omega⟩
    obtain ⟨a2, b2, rfl, ha2⟩ : ∃ a b, c2 = a ++ b ∧ a.length = k1.length := ⟨c2.take k1.length, c2.drop k1.length, (List.take_append_drop _ _).symm, by simp; omega⟩
    rw [smT_append ha1 ha2, Bool.and_eq_true] at hs
    obtain ⟨x, y, hx, hy, he⟩ := hf d p1 a1 b1 p2 a2 b2 w hp hs.1
    have ih := eqFs_run d fs k2 (p1 ++ a1) b1 (p2 ++ a2) b2 w (by simp [hp, ha1, ha2]) (by rw [List.length_append, ha1]; exact ht) hs.2
    simp only [List.append_assoc] at ih
    have hx' : (part f.type (p1 ++ (a1 ++ b1)).toArray f.offset).run P w = .ok x w := by rw [ho]; exact hx
    have hy' : (part f.type (p2 ++ (a2 ++ b2)).toArray f.offset).run P w = .ok y w := by rw [ho]; exact hy
    rw [eqL_append (by omega)]
    simp only [Op.eqFields, if_pos hn, Sem.run_bind, hx', hy', he, Result.andThen]
    cases hq : eqL a1 a2 with
    | false => simp [Sem.run]
    | true =>
      simp only [Bool.not_true, Bool.false_eq_true, if_false, Bool.true_and]
      exact ih
theorem EqA.struct {P : Program} {k t : Nat} {ks : List TK} {fs : List Field} (hU : P.underlying t = some (.struct fs.toArray)) (hp : P.stoodInHeld t = false) (h : EqFs P k fs 0 ks) : EqA P (k + 1) t ks := by
  intro d xs ys w hs
  have hf : P.fieldsOf t = fs.toArray := by simp [Program.fieldsOf, hU]
  rw [← Nat.add_assoc, run_equalIn_struct w (d + k) t xs.toArray ys.toArray (by rw [hf]; exact hU) hp, hf]
  exact eqFs_run d fs ks [] xs [] ys w rfl h hs

def repK : Nat → List TK → List TK
  | 0, _ => []
  | n + 1, ks => ks ++ repK n ks
theorem EqA.array {P : Program} {k t len e m : Nat} {ks : List TK} (hU : P.underlying t = some (.array len e)) (hZ : SizeF P e m) (hm : ks.length = m) (h : EqP P k e ks) : EqA P (k + 1) t (repK len ks) := by
  intro d xs ys w hs
  have key : ∀ (n i : Nat) (p1 c1 p2 c2 : List Value), p1.length = i * m → p2.length = i * m → smT (repK n ks) c1 c2 = true →
      (do
        for j in List.range' i n do
          if !(← Op.equalIn (d + k) e (← part e (p1 ++ c1).toArray (j * m)) (← part e (p2 ++ c2).toArray (j * m))) then return false
        pure true : Sem Bool).run P w = .ok (eqL c1 c2) w := by
    intro n
    induction n with
    | zero =>
      intro i p1 c1 p2 c2 _ _ hs
      match c1, c2, hs with
      | [], [], _ => simp [eqL]
      | _ :: _, _, hs => simp [repK, smT] at hs
      | [], _ :: _, hs => simp [repK, smT] at hs
    | succ n ih =>
      intro i p1 c1 p2 c2 hp1 hp2 hs
      have hl := smT_len hs
      simp only [repK, List.length_append] at hl
      obtain ⟨a1, b1, rfl, ha1⟩ : ∃ a b, c1 = a ++ b ∧ a.length = ks.length := ⟨c1.take ks.length, c1.drop ks.length, (List.take_append_drop _ _).symm, by simp; omega⟩
      obtain ⟨a2, b2, rfl, ha2⟩ : ∃ a b, c2 = a ++ b ∧ a.length = ks.length := ⟨c2.take ks.length, c2.drop ks.length, (List.take_append_drop _ _).symm, by simp; omega⟩
      simp only [repK] at hs
      rw [smT_append ha1 ha2, Bool.and_eq_true] at hs
      obtain ⟨x, y, hx, hy, he⟩ := h d p1 a1 b1 p2 a2 b2 w (by omega) hs.1
      rw [hp1] at hx hy
      have ih' := ih (i + 1) (p1 ++ a1) b1 (p2 ++ a2) b2 (by rw [List.length_append, hp1, ha1, hm, Nat.add_mul]; omega) (by rw [List.length_append, hp2, ha2, hm, Nat.add_mul]; omega) hs.2
      simp only [List.append_assoc] at ih'
      rw [eqL_append (by omega)]
      simp only [List.range'_succ, List.forIn_cons, Sem.run_bind, hx, hy, he, Result.andThen] at ih' ⊢
      cases hq : eqL a1 a2 with
      | false => simp [Sem.run]
      | true =>
        simp only [Bool.not_true, Bool.false_eq_true, if_false, Bool.true_and, Sem.run_pure]
        exact ih'
  have := key len 0 [] xs [] ys (by simp) (by simp) hs
  simp only [List.nil_append] at this
  rw [← Nat.add_assoc]
  simp only [Op.equalIn, Sem.run_bind, run_underlying hU, Result.andThen_ok, hZ w]
  rw [Std.Legacy.Range.forIn_eq_forIn_range'] 
  simpa [Std.Legacy.Range.size] using this

section
variable {C : Cx} {E : Env} {G : Gh} {L : List World} {H : Heap} {T U : Nat} {x y : Operand}
theorem eqlA_r {k : Nat} {ks : List TK} {as bs : Array Value} (h : EqA C.P k T ks) (hk : Nat.ble k 10000 = true) (hg : C.P.eqGuardType C.P.depth T = false) (hx : ev E x = some (.agg as)) (hy : ev E y = some (.agg bs)) (hs : smT ks as.toList bs.toList = true) :
    RV C G L H E (.binOp .eql T x y U) (.bool (eqL as.toList bs.toList)) := fun d ty pos aft g a W hF _ => by
  have h1 := h (10000 - k) as.toList bs.toList W hs
  rw [show 10000 - k + k = 10000 by have := Nat.le_of_ble_eq_true hk; omega] at h1
  simp only [Array.toArray_toList] at h1
  have h2 := run_eql_struct (P := C.P) W T as bs
  rw [h1] at h2
  have h3 := run_eqGuard_agg (P := C.P) W .eql T x y as bs hg
  simp only [execOp, hF.ev hx, hF.ev hy, Sem.run_bind, h3, h2, Result.andThen]
  rfl
theorem neqA_r {k : Nat} {ks : List TK} {as bs : Array Value} (h : EqA C.P k T ks) (hk : Nat.ble k 10000 = true) (hg : C.P.eqGuardType C.P.depth T = false) (hx : ev E x = some (.agg as)) (hy : ev E y = some (.agg bs)) (hs : smT ks as.toList bs.toList = true) :
    RV C G L H E (.binOp .neq T x y U) (.bool (!eqL as.toList bs.toList)) := fun d ty pos aft g a W hF _ => by
  have h1 := h (10000 - k) as.toList bs.toList W hs
  rw [show 10000 - k + k = 10000 by have := Nat.le_of_ble_eq_true hk; omega] at h1
  simp only [Array.toArray_toList] at h1
  have h2 := run_neq_struct (P := C.P) W T as bs
  rw [h1] at h2
  have h3 := run_eqGuard_agg (P := C.P) W .neq T x y as bs hg
  simp only [execOp, hF.ev hx, hF.ev hy, Sem.run_bind, h3, h2, Result.andThen]
  rfl
theorem eqIn_sn {P : Program} {T e : Nat} (hU : P.underlying T = some (.slice e)) (n c : Nat) (d : Nat) (W : World) : (Op.equalIn (d + 1) T (.slice none n c) (.slice none 0 0)).run P W = .ok true W := by
  simp [Op.equalIn, run_underlying hU]
/-- a nil slice is nil -/
theorem eqSn_r {e : Nat} (hU : C.P.underlying T = some (.slice e)) (hx : ev E x = some (.slice none 0 0)) (hy : ev E y = some (.slice none 0 0)) : RV C G L H E (.binOp .eql T x y U) (.bool true) := fun d ty pos aft g a W hF _ => by
  have h1 : (eqGuard .eql T x y (.slice none 0 0) (.slice none 0 0)).run C.P W = .ok () W := by simp [eqGuard]
  have h2 : (binOp .eql T (.slice none 0 0) (.slice none 0 0)).run C.P W = .ok (.bool true) W := by
    have e : binOp .eql T (.slice none 0 0) (.slice none 0 0) = (do pure (.bool (← Op.equalIn (9999 + 1) T (.slice none 0 0) (.slice none 0 0)))) := rfl
    rw [e, Sem.run_bind, eqIn_sn hU]
    rfl
  simp only [execOp, hF.ev hx, hF.ev hy, Sem.run_bind, h1, h2, Result.andThen]
  rfl
end
end Px
