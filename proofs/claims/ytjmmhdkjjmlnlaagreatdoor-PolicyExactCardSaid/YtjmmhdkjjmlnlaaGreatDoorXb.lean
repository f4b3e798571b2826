/- Regions that draw their order, and slices: lemmas for the walks. No condition beyond those that each theorem states. -/
import Derived.Test.YtjmmhdkjjmlnlaaGreatDoorXa
import Derived.OrdersIn
import Derived.Deep.AppendSrc
set_option linter.unusedSimpArgs false
set_option linter.unusedVariables false
set_option linter.unusedSectionVars false
namespace Px
open Go Go.RowKit
/-- one operation of a region that draws: what it needs (numbers of operations), and what it gives -/
inductive OS where
  | det (deps : List Nat) (v : Value)
  | gen (deps : List Nat) (Φ : List Value → Value → World → Prop)
def OS.deps : OS → List Nat
  | .det ds _ => ds
  | .gen ds _ => ds
def OS.holds (s : OS) (ds : List Value) (v : Value) (W : World) : Prop :=
  match s with
  | .det _ u => v = u
  | .gen _ Φ => Φ ds v W
/-- what is known of the temporaries that an operation needs -/
def depE (ops : Array Oper) (sp : List OS) (vals : Nat → Value) : List Nat → Env
  | [] => []
  | j :: js =>
    match (ops[j]?).bind (·.dst) with
    | some d => (d, match sp[j]? with | some (.det _ u) => u | _ => vals j) :: depE ops sp vals js
    | none => depE ops sp vals js
/-- what holds of the operations that an operation needs -/
def depP (sp : List OS) (vals : Nat → Value) (W : World) : List Nat → Prop
  | [] => True
  | j :: js => (match sp[j]? with | some s => s.holds (s.deps.map vals) (vals j) W | none => True) ∧ depP sp vals W js
/-- an operation, run -/
def X (C : Cx) (ops : Array Oper) (G : Gh) (L : List World) (H : Heap) (E : Env) (Pre : World → Prop) (o : Oper) (Φ : Value → World → Prop) : Prop :=
  ∀ (a : Act) (W : World) (K : Act → World → Prop) (Q : Post), a.tmps.size = C.N → Fits E a → St G L H W → Pre W →
    (∀ v W', Below W.heap.size W W' → Φ v W' → K (a.put o.dst v) W') →
    if Region.wanted o (yielded ops a.tmps) then o.wpIn (FW C.r) 0 C.P a W K Q else K (a.put o.dst undef) W
section
variable {C : Cx} {G : Gh} {L : List World} {H : Heap} {E : Env} {Pre : World → Prop} {ops : Array Oper} {Φ : Value → World → Prop}
variable {d ty : Nat} {op : Op} {pos : String} {aft : Array Edge} {g : Option (Nat × Bool)}
theorem X.val {v : Value} (hnd : noDefer op = true) (hw : wantE ops E g = some true) (hr : RV C G L H E op v) (hΦ : ∀ W, Pre W → Φ v W) : X C ops G L H E Pre ⟨some d, op, ty, pos, aft, g⟩ Φ := by
  intro a W K Q _ hF hS hP hk
  rw [if_pos (want_of hF hw)]
  refine ⟨fun _ _ => trivial, ?_⟩
  rw [Oper.semAt_eq _ _ _ (nd_of hnd), hr d ty pos aft g a W hF hS, Oper.uponIn_value]
  exact hk v W (Below.refl _ _) (hΦ W hP)
theorem X.off (hw : wantE ops E g = some false) (hΦ : ∀ W, Pre W → Φ undef W) : X C ops G L H E Pre ⟨some d, op, ty, pos, aft, g⟩ Φ := by
  intro a W K Q _ hF hS hP hk
  rw [if_neg (by rw [want_of hF hw]; simp)]
  exact hk undef W (Below.refl _ _) (hΦ W hP)
variable {f : Nat} {xs : List Operand} {vs : List Value} {tys : Array Nat}
theorem X.call {R : World → Ending → World → Prop} (hent : Ent C.P f) (hw : wantE ops E g = some true) (ha : evs E xs = some vs)
    (hc : ∀ W, St G L H W → Pre W → Calls C.P f vs.toArray W (R W)) (hR : ∀ W e W', R W e W' → Pre W → ∃ v, e = .returned v ∧ Below W.heap.size W W' ∧ Φ v W') :
    X C ops G L H E Pre ⟨some d, .call ⟨.value (.func f), xs.toArray, tys⟩, ty, pos, aft, g⟩ Φ := by
  intro a W K Q _ hF hS hP hk
  rw [if_pos (want_of hF hw)]
  refine ⟨fun _ _ => trivial, ?_⟩
  have hr : (execOp a.eval ⟨some d, .call ⟨.value (.func f), xs.toArray, tys⟩, ty, pos, aft, g⟩).run C.P W = .ok (.enter f vs.toArray) W := by
    have h2 : (xs.toArray).map a.eval = vs.toArray := by rw [List.map_toArray, evs_map hF xs vs ha]
    simp only [execOp, resolve, Act.eval, Deferred.ofValue, h2]
    simp [invoke, hent _ W]
  rw [Oper.semAt_eq _ _ _ (by simp), hr, Oper.uponIn_enter]
  refine ⟨by simp, callsIn_FW.2 ((hc W hS hP).mono ?_)⟩
  intro e W' h
  obtain ⟨v, rfl, hb, hv⟩ := hR W e W' h hP
  exact hk v W' hb hv
theorem X.callV {v : Value} (hent : Ent C.P f) (hw : wantE ops E g = some true) (ha : evs E xs = some vs)
    (hc : ∀ W, St G L H W → Pre W → Calls C.P f vs.toArray W (Ret W v)) (hΦ : ∀ W, Φ v W) :
    X C ops G L H E Pre ⟨some d, .call ⟨.value (.func f), xs.toArray, tys⟩, ty, pos, aft, g⟩ Φ :=
  X.call hent hw ha hc fun _ _ W' h _ => ⟨v, h.1, h.2, hΦ W'⟩
end
theorem look_append (A B : Env) (t : Nat) : look (A ++ B) t = (look A t).or (look B t) := by
  induction A with
  | nil => simp [look]
  | cons p A ih =>
    obtain ⟨k, v⟩ := p
    simp only [List.cons_append, look]
    cases Nat.beq k t <;> simp [ih]
theorem fits_append {A B : Env} {a : Act} (h1 : Fits A a) (h2 : Fits B a) : Fits (A ++ B) a := by
  intro t v hv
  rw [look_append] at hv
  cases h : look A t with
  | some u => simp [h] at hv; subst hv; exact h1 t u h
  | none => simp [h] at hv; exact h2 t v hv
/-- the slots that the operations of a list write -/
def dsts (l : List Oper) : List Nat := l.filterMap (·.dst)
/-- what an operation stands behind, as bits -/
def bindsOf (o : Oper) : List Nat := (o.after.toList.filter (fun e => Region.binds .any e)).map (·.on)
def maskOf (acc : List Nat) : List Nat → Nat
  | [] => 0
  | j :: js => (1 <<< j) ||| acc.getD j 0 ||| maskOf acc js
def masks : List Oper → List Nat → List Nat
  | [], acc => acc
  | o :: l, acc => masks l (acc ++ [maskOf acc (bindsOf o)])
theorem maskOf_bit (acc : List Nat) (b : Nat) : ∀ js, (maskOf acc js).testBit b = true → ∃ d ∈ js, d = b ∨ (acc.getD d 0).testBit b = true
  | [], h => by simp [maskOf] at h
  | j :: js, h => by
    simp only [maskOf, Nat.testBit_or, Bool.or_eq_true] at h
    rcases h with (h | h) | h
    · refine ⟨j, by simp, .inl ?_⟩
      rw [Nat.testBit_shiftLeft] at h
      simp only [Bool.and_eq_true, decide_eq_true_eq] at h
      obtain ⟨h1, h2⟩ := h
      have : b - j = 0 := by
        rcases Nat.eq_zero_or_pos (b - j) with h0 | h0
        · exact h0
        · rw [Nat.testBit_one_eq_true_iff_self_eq_zero] at h2; omega
      omega
    · exact ⟨j, by simp, .inr h⟩
    · obtain ⟨d, hd, h⟩ := maskOf_bit acc b js h
      exact ⟨d, by simp [hd], h⟩
theorem masks_spec (ops : List Oper) (D : Nat → Prop) (hD : ∀ (k : Nat) (o' : Oper), ops[k]? = some o' → D k → ∀ e ∈ o'.after, Region.binds .any e = true → D e.on)
    (hlt : ∀ (i : Nat) (o : Oper), ops[i]? = some o → ∀ e ∈ o.after, Region.binds .any e = true → e.on < i) :
    ∀ (l : List Oper) (acc : List Nat), ops.drop acc.length = l →
      (∀ (k : Nat) (o : Oper), ops[k]? = some o → k < acc.length → (∀ e ∈ o.after, Region.binds .any e = true → D e.on) → ∀ j, (acc.getD k 0).testBit j = true → D j) →
      ∀ (k : Nat) (o : Oper), ops[k]? = some o → (∀ e ∈ o.after, Region.binds .any e = true → D e.on) → ∀ j, ((masks l acc).getD k 0).testBit j = true → D j
  | [], acc, hl, hP => by
    intro k o ho hr j hj
    refine hP k o ho ?_ hr j hj
    have h1 := (List.getElem?_eq_some_iff.1 ho).1
    have h2 : (ops.drop acc.length).length = 0 := by rw [hl]; rfl
    rw [List.length_drop] at h2
    omega
  | o :: l, acc, hl, hP => by
    have ho0 : ops[acc.length]? = some o := by
      have : (ops.drop acc.length)[0]? = some o := by rw [hl]; rfl
      rw [List.getElem?_drop] at this
      simpa using this
    refine masks_spec ops D hD hlt l (acc ++ [maskOf acc (bindsOf o)]) ?_ ?_
    · rw [List.length_append, ← List.drop_drop, hl]; rfl
    · intro k o' ho' hk hr j hj
      simp only [List.length_append, List.length_singleton] at hk
      by_cases e : k = acc.length
      · subst e
        rw [ho0] at ho'; cases ho'
        rw [List.getD_eq_getElem?_getD, List.getElem?_append_right (Nat.le_refl _)] at hj
        simp only [Nat.sub_self, List.getElem?_cons_zero, Option.getD_some] at hj
        obtain ⟨d, hd, h⟩ := maskOf_bit acc j _ hj
        obtain ⟨e', he', rfl⟩ := List.mem_map.1 hd
        rw [List.mem_filter] at he'
        have hdd := hr e' (by simpa using he'.1) he'.2
        have hlt' := hlt _ _ ho0 e' (by simpa using he'.1) he'.2
        rcases h with rfl | h
        · exact hdd
        · have hlen := (List.getElem?_eq_some_iff.1 ho0).1
          obtain ⟨o2, ho2⟩ : ∃ o2, ops[e'.on]? = some o2 := ⟨ops[e'.on]'(by omega), List.getElem?_eq_getElem _⟩
          exact hP e'.on o2 ho2 hlt' (hD e'.on o2 ho2 hdd) j h
      · rw [List.getD_eq_getElem?_getD, List.getElem?_append_left (by omega), ← List.getD_eq_getElem?_getD] at hj
        exact hP k o' ho' (by omega) hr j hj
structure DrawOk (ops : Array Oper) (nA : Nat) (sp : List OS) (E : Env) : Prop where
  len : sp.length = nA
  le : nA ≤ ops.size
  back : ∀ (i : Nat) (o : Oper), ops[i]? = some o → ∀ e ∈ o.after, Region.binds .any e = true → e.on < i
  deps : ∀ (i : Nat) (o : Oper) (s : OS), ops[i]? = some o → sp[i]? = some s → ∀ j ∈ s.deps, ∃ e ∈ o.after, e.on = j ∧ Region.binds .any e = true
  last : ∀ (i : Nat) (o : Oper), nA ≤ i → ops[i]? = some o → ∀ (D : Nat → Prop), (∀ (k : Nat) (o' : Oper), ops[k]? = some o' → D k → ∀ e ∈ o'.after, Region.binds .any e = true → D e.on) → (∀ e ∈ o.after, Region.binds .any e = true → D e.on) → ∀ j, j < i → D j
  uniq : ∀ (i j : Nat) (o o' : Oper) (d : Nat), i < nA → j < nA → ops[i]? = some o → ops[j]? = some o' → o.dst = some d → o'.dst = some d → i = j
  apart : ∀ (i : Nat) (o : Oper) (d : Nat), i < nA → ops[i]? = some o → o.dst = some d → look E d = none
  some_ : ∀ (i : Nat) (o : Oper), i < nA → ops[i]? = some o → ∃ d, o.dst = some d
/-- the same, to be reckoned -/
def drawOkB (ops : Array Oper) (nA : Nat) (ds : List (List Nat)) (E : Env) : Bool :=
  Nat.beq ds.length nA && Nat.ble nA ops.size &&
  (List.range ops.size).all fun i =>
    match ops[i]? with
    | none => true
    | some o =>
      (o.after.toList.all fun e => !Region.binds .any e || Nat.blt e.on i) &&
      (if Nat.blt i nA then
        (match ds[i]? with | some js => js.all (fun j => o.after.toList.any fun e => Nat.beq e.on j && Region.binds .any e) | none => true) &&
        (match o.dst with
          | none => false
          | some d => (look E d).isNone && (List.range nA).all fun j => Nat.beq i j || match (ops[j]?).bind (·.dst) with | some d' => !Nat.beq d d' | none => true)
       else (List.range i).all fun j => ((masks ops.toList []).getD i 0).testBit j)
theorem drawOk_of {ops : Array Oper} {nA : Nat} {sp : List OS} {E : Env} (h : drawOkB ops nA (sp.map (·.deps)) E = true) : DrawOk ops nA sp E := by
  unfold drawOkB at h
  simp only [Bool.and_eq_true, List.all_eq_true, List.mem_range] at h
  obtain ⟨⟨h1, h2⟩, h3⟩ := h
  have hlen : sp.length = nA := by simpa using Nat.eq_of_beq_eq_true h1
  have hle := Nat.le_of_ble_eq_true h2
  have at_ : ∀ (i : Nat) (o : Oper), ops[i]? = some o → i < ops.size := fun i o ho => (Array.getElem?_eq_some_iff.1 ho).1
  refine ⟨hlen, hle, ?_, ?_, ?_, ?_, ?_, ?_⟩
  · intro i o ho e he hb
    have := h3 i (at_ i o ho)
    simp only [ho, Bool.and_eq_true, List.all_eq_true] at this
    have := this.1 e (by simpa using he)
    simp only [hb, Bool.not_true, Bool.false_or] at this
    exact lt_of this
  · intro i o s ho hs j hj
    have hi : i < nA := by rw [← hlen]; exact (List.getElem?_eq_some_iff.1 hs).1
    have := h3 i (at_ i o ho)
    simp only [ho, Bool.and_eq_true] at this
    have := this.2
    rw [if_pos (by simpa [Nat.blt] using Nat.ble_eq_true_of_le hi)] at this
    simp only [List.getElem?_map, hs, Option.map_some, Bool.and_eq_true, List.all_eq_true] at this
    have := this.1 j hj
    simp only [List.any_eq_true, Bool.and_eq_true] at this
    obtain ⟨e, he, hb1, hb2⟩ := this
    exact ⟨e, by simpa using he, Nat.eq_of_beq_eq_true hb1, hb2⟩
  · intro i o hi ho D hD hr j hj
    have hback : ∀ (i : Nat) (o : Oper), ops[i]? = some o → ∀ e ∈ o.after, Region.binds .any e = true → e.on < i := by
      intro i o ho e he hb
      have := h3 i (at_ i o ho)
      simp only [ho, Bool.and_eq_true, List.all_eq_true] at this
      have := this.1 e (by simpa using he)
      simp only [hb, Bool.not_true, Bool.false_or] at this
      exact lt_of this
    have := h3 i (at_ i o ho)
    simp only [ho, Bool.and_eq_true] at this
    have := this.2
    rw [if_neg (by intro hb; have := lt_of hb; omega)] at this
    simp only [List.all_eq_true, List.mem_range] at this
    exact masks_spec ops.toList D (fun k o' hk => hD k o' (by simpa using hk)) (fun k o' hk => hback k o' (by simpa using hk)) ops.toList [] rfl (fun _ _ _ hk => by simp at hk) i o (by simpa using ho) hr j (this j hj)
  · intro i j o o' d hi hj ho ho' hd hd'
    have := h3 i (at_ i o ho)
    simp only [ho, Bool.and_eq_true] at this
    have := this.2
    rw [if_pos (by simpa [Nat.blt] using Nat.ble_eq_true_of_le hi)] at this
    simp only [hd, Bool.and_eq_true, List.all_eq_true, List.mem_range] at this
    have := this.2.2 j hj
    simp only [ho', Option.bind_some, hd', Bool.or_eq_true, Bool.not_eq_true'] at this
    rcases this with h | h
    · exact Nat.eq_of_beq_eq_true h
    · rw [beq_self] at h; cases h
  · intro i o d hi ho hd
    have := h3 i (at_ i o ho)
    simp only [ho, Bool.and_eq_true] at this
    have := this.2
    rw [if_pos (by simpa [Nat.blt] using Nat.ble_eq_true_of_le hi)] at this
    simp only [hd, Bool.and_eq_true] at this
    simpa using this.2.1
  · intro i o hi ho
    have := h3 i (at_ i o ho)
    simp only [ho, Bool.and_eq_true] at this
    have := this.2
    rw [if_pos (by simpa [Nat.blt] using Nat.ble_eq_true_of_le hi)] at this
    cases hd : o.dst with
    | none => simp [hd] at this
    | some d => exact ⟨d, rfl⟩
/-- the state while the first nA operations are under way -/
def InvA (C : Cx) (ops : Array Oper) (nA : Nat) (sp : List OS) (E : Env) (D : List Deferred) (G : Gh) (L : List World) (H : Heap) (lst : Nat → Bool) (a : Act) (W : World) : Prop :=
  ∃ vals : Nat → Value, a.tmps.size = C.N ∧ a.defers = D ∧ Fits E a ∧ St G L H W ∧
    (∀ (i : Nat) (o : Oper) (d : Nat), i < nA → lst i = true → ops[i]? = some o → o.dst = some d → a.eval (.tmp d) = vals i) ∧
    (∀ (i : Nat) (s : OS), lst i = true → sp[i]? = some s → s.holds (s.deps.map vals) (vals i) W)
theorem fits_depE {ops : Array Oper} {sp : List OS} {vals : Nat → Value} {a : Act} {W : World} {nA : Nat} : ∀ (js : List Nat),
    (∀ j ∈ js, ∀ o d, ops[j]? = some o → o.dst = some d → a.eval (.tmp d) = vals j) → (∀ j ∈ js, ∀ s, sp[j]? = some s → s.holds (s.deps.map vals) (vals j) W) → Fits (depE ops sp vals js) a
  | [], _, _ => by intro t v hv; simp [depE, look] at hv
  | j :: js, h1, h2 => by
    have ih := fits_depE (nA := nA) js (fun k hk => h1 k (by simp [hk])) (fun k hk => h2 k (by simp [hk]))
    unfold depE
    cases hd : (ops[j]?).bind (·.dst) with
    | none => exact ih
    | some d =>
      obtain ⟨o, ho, hod⟩ := Option.bind_eq_some_iff.1 hd
      have hv := h1 j (by simp) o d ho hod
      simp only
      intro t v ht
      simp only [look] at ht
      by_cases e : d = t
      · subst e
        simp only [beq_self, Option.some.injEq] at ht
        rw [hv, ← ht]
        cases hs : sp[j]? with
        | none => rfl
        | some s =>
          cases s with
          | det ds u => exact h2 j (by simp) _ hs
          | gen ds Φ => rfl
      · simp only [beq_ne e] at ht
        exact ih t v ht
theorem depP_of {sp : List OS} {vals : Nat → Value} {W : World} : ∀ (js : List Nat), (∀ j ∈ js, ∀ s, sp[j]? = some s → s.holds (s.deps.map vals) (vals j) W) → depP sp vals W js
  | [], _ => trivial
  | j :: js, h => ⟨by
      cases hs : sp[j]? with
      | none => trivial
      | some s => exact h j (by simp) s hs, depP_of js fun k hk => h k (by simp [hk])⟩
theorem map_congr' {vals vals' : Nat → Value} : ∀ (js : List Nat), (∀ j ∈ js, vals' j = vals j) → js.map vals' = js.map vals
  | [], _ => rfl
  | j :: js, h => by simp only [List.map_cons, h j (by simp), map_congr' js fun k hk => h k (by simp [hk])]
theorem countP_mono' {p q : Nat → Bool} : ∀ (l : List Nat), (∀ k ∈ l, q k = true → p k = true) → l.countP q ≤ l.countP p
  | [], _ => Nat.le_refl _
  | k :: l, h => by
    have ih := countP_mono' l fun j hj => h j (by simp [hj])
    simp only [List.countP_cons]
    cases hq : q k with
    | false => simp; omega
    | true => simp [h k (by simp) hq]; omega
theorem countP_strict {p q : Nat → Bool} : ∀ (l : List Nat), (∀ k ∈ l, q k = true → p k = true) → (∃ k ∈ l, p k = true ∧ q k = false) → l.countP q < l.countP p
  | [], _, h => by obtain ⟨k, hk, _⟩ := h; cases hk
  | k :: l, h, hx => by
    have hmono := countP_mono' (p := p) (q := q) l fun j hj => h j (by simp [hj])
    simp only [List.countP_cons]
    obtain ⟨j, hj, hp, hq⟩ := hx
    rcases List.mem_cons.1 hj with rfl | hj
    · simp [hp, hq]; omega
    · have ih := countP_strict l (fun j hj => h j (by simp [hj])) ⟨j, hj, hp, hq⟩
      cases hqk : q k with
      | false => simp; omega
      | true => simp [h k (by simp) hqk]; omega
/-- a region that draws its order: the first nA operations in whatever order, the others behind them -/
theorem CJ.draw {C : Cx} {Q : Post} {E : Env} {D : List Deferred} {G : Gh} {L : List World} {H : Heap} {l : List Oper} {id : Nat} (nA : Nat) (sp : List OS) (hm : C.P.follows .mixedOrders = true)
    (hok : drawOkB l.toArray nA (sp.map (·.deps)) E = true) (hN : ∀ o ∈ l, ∀ d, o.dst = some d → d < C.N)
    (stable : ∀ s ∈ sp, ∀ ds v W W', Below W.heap.size W W' → s.holds ds v W → s.holds ds v W')
    (exec : ∀ (i : Nat) (o : Oper) (s : OS), l[i]? = some o → sp[i]? = some s → ∀ vals : Nat → Value,
      X C l.toArray G L H (depE l.toArray sp vals s.deps ++ E) (fun W => depP sp vals W s.deps) o (fun v W => s.holds (s.deps.map vals) v W))
    (fin : ∀ (vals : Nat → Value) (W : World), St G L H W → depP sp vals W (List.range nA) → OJ C l.toArray Q (l.drop nA) (depE l.toArray sp vals (List.range nA) ++ E) D G (W :: L) H) :
    CJ C (.region id l.toArray true) Q E D G L H := by
  have ok := drawOk_of hok
  generalize hops : l.toArray = ops at *
  have hl : ∀ i : Nat, l[i]? = ops[i]? := fun i => by rw [← hops, List.getElem?_toArray]
  have hsz : ops.size = l.length := by rw [← hops]; simp
  intro a W hsize hD hF hS
  refine wpIn_region_draw fun t => ?_
  simp only [Region.schedule, hm, Bool.true_or, if_true]
  have hlt : ∀ (i : Nat) (o : Oper), ops[i]? = some o → i < ops.size := fun i o ho => (Array.getElem?_eq_some_iff.1 ho).1
  -- the invariant
  let Inv : Array Bool → Act → World → Prop := fun lst a W => lst.size = ops.size ∧ (∀ (k : Nat) (o : Oper), ops[k]? = some o → lst.getD k false = true → ∀ e ∈ o.after, Region.binds .any e = true → lst.getD e.on false = true) ∧
    (((∃ i, i < nA ∧ lst.getD i false = false) ∧ (∀ i, nA ≤ i → lst.getD i false = false) ∧ InvA C ops nA sp E D G L H (fun i => lst.getD i false) a W) ∨
     (∃ m, nA ≤ m ∧ (∀ i, i < ops.size → (lst.getD i false = true ↔ i < m)) ∧ wpListIn (FW C.r) 0 C.P ops Q (l.drop m) a W))
  -- all of the first are through
  have close : ∀ (lst : Array Bool) a W, lst.size = ops.size → (∀ (k : Nat) (o : Oper), ops[k]? = some o → lst.getD k false = true → ∀ e ∈ o.after, Region.binds .any e = true → lst.getD e.on false = true) → (∀ i, i < nA → lst.getD i false = true) → (∀ i, nA ≤ i → lst.getD i false = false) → InvA C ops nA sp E D G L H (fun i => lst.getD i false) a W → Inv lst a W := by
    rintro lst a W hls hcl hall hnone ⟨vals, h1, h2, h3, h4, h5, h6⟩
    refine ⟨hls, hcl, .inr ⟨nA, Nat.le_refl _, fun i hi => ⟨fun h => ?_, fun h => hall i h⟩, ?_⟩⟩
    · exact Nat.lt_of_not_le fun hle => by rw [hnone i hle] at h; cases h
    · refine fin vals W h4 (depP_of _ fun j hj s hs => h6 j s (hall j (List.mem_range.1 hj)) hs) a W h1 h2 (fits_append ?_ h3) h4.snap
      exact fits_depE (nA := nA) _ (fun j hj o d ho hd => h5 j o d (List.mem_range.1 hj) (hall j (List.mem_range.1 hj)) ho hd) (fun j hj s hs => h6 j s (hall j (List.mem_range.1 hj)) hs)
  have getD_set : ∀ (lst : Array Bool) (i k : Nat), lst.size = ops.size → i < ops.size → (lst.setIfInBounds i true).getD k false = if k = i then true else lst.getD k false := by
    intro lst i k hls hi
    simp only [Array.getD_eq_getD_getElem?, Array.getElem?_setIfInBounds]
    by_cases e : i = k
    · subst e; simp [hls, hi]
    · simp [e, show ¬ k = i from fun h => e h.symm]
  -- one operation
  have step : ∀ (lst : Array Bool) a W, Inv lst a W → ∀ (i : Nat) (o : Oper), ops[i]? = some o → lst.getD i false = false → (∀ e ∈ o.after, Region.binds .any e = true → lst.getD e.on false = true) →
      wpOpIn (FW C.r) 0 C.P ops Q i (fun a' W' => Inv (lst.setIfInBounds i true) a' W') a W := by
    rintro lst a W ⟨hls, hcl, hI⟩ i o ho hun hready
    have hi := hlt i o ho
    have hcl' : ∀ (k : Nat) (o' : Oper), ops[k]? = some o' → (lst.setIfInBounds i true).getD k false = true → ∀ e ∈ o'.after, Region.binds .any e = true → (lst.setIfInBounds i true).getD e.on false = true := by
      intro k o' ho' hk e he hb
      rw [getD_set lst i k hls hi] at hk
      rw [getD_set lst i e.on hls hi]
      by_cases e1 : e.on = i
      · rw [if_pos e1]
      · rw [if_neg e1]
        by_cases e2 : k = i
        · subst e2; rw [ho] at ho'; cases ho'; exact hready e he hb
        · rw [if_neg e2] at hk; exact hcl k o' ho' hk e he hb
    rcases hI with ⟨hex, hnone, vals, h1, h2, h3, h4, h5, h6⟩ | ⟨m, hnm, hlst, hw⟩
    · -- it is one of the first
      have hiA : i < nA := Nat.lt_of_not_le fun hle => by
        obtain ⟨k, hk, hkf⟩ := hex
        have := ok.last i o hle ho (fun k => lst.getD k false = true) (fun k o' h1 h2 e h3 h4 => hcl k o' h1 h2 e h3 h4) hready k (by omega)
        rw [hkf] at this; cases this
      obtain ⟨s, hs⟩ : ∃ s, sp[i]? = some s := ⟨sp[i]'(by rw [ok.len]; exact hiA), List.getElem?_eq_getElem _⟩
      obtain ⟨d, hd⟩ := ok.some_ i o hiA ho
      have hdN : d < C.N := hN o (List.mem_of_getElem? (by rw [hl]; exact ho)) d hd
      have hdep : ∀ j ∈ s.deps, lst.getD j false = true ∧ j < i := fun j hj => by
        obtain ⟨e, he, hon, hb⟩ := ok.deps i o s ho hs j hj
        exact ⟨hon ▸ hready e he hb, hon ▸ ok.back i o ho e he hb⟩
      have hfit : Fits (depE ops sp vals s.deps ++ E) a := fits_append (fits_depE (nA := nA) _ (fun j hj o' d' ho' hd' => h5 j o' d' (by have := (hdep j hj).2; omega) (hdep j hj).1 ho' hd') (fun j hj s' hs' => h6 j s' (hdep j hj).1 hs')) h3
      have hx := exec i o s (by rw [hl]; exact ho) hs vals a W (fun a' W' => Inv (lst.setIfInBounds i true) a' W') Q h1 hfit h4 (depP_of _ fun j hj s' hs' => h6 j s' (hdep j hj).1 hs') (by
        intro v W' hb hv
        have hls' : (lst.setIfInBounds i true).size = ops.size := by simp [hls]
        have hnone' : ∀ k, nA ≤ k → (lst.setIfInBounds i true).getD k false = false := fun k hk => by
          rw [getD_set lst i k hls hi, if_neg (by omega)]; exact hnone k hk
        -- the new state
        have hA : InvA C ops nA sp E D G L H (fun k => (lst.setIfInBounds i true).getD k false) (a.put o.dst v) W' := by
          refine ⟨fun k => if k = i then v else vals k, by simp [Act.put, hd, h1], by simp [Act.put, hd, h2], ?_, h4.step hb, ?_, ?_⟩
          · intro t u hu
            have hne : d ≠ t := fun e => by subst e; rw [ok.apart i o d hiA ho hd] at hu; cases hu
            have := h3 t u hu
            simp only [Act.eval, Act.put, hd] at this ⊢
            rw [← this]
            simp [Array.getElem?_setIfInBounds_ne hne]
          · intro k o' d' hk hlk ho' hd'
            replace hlk : (lst.setIfInBounds i true).getD k false = true := hlk
            rw [getD_set lst i k hls hi] at hlk
            by_cases e : k = i
            · subst e
              rw [ho] at ho'; cases ho'
              rw [hd] at hd'; cases hd'
              simp only [if_true]
              simp [Act.eval, Act.put, hd, h1, hdN]
            · rw [if_neg e] at hlk
              show (a.put o.dst v).eval (.tmp d') = if k = i then v else vals k
              rw [if_neg e]
              have hne : d ≠ d' := fun e' => e (ok.uniq k i o' o d hk hiA ho' ho (e' ▸ hd') hd)
              have := h5 k o' d' hk hlk ho' hd'
              simp only [Act.eval, Act.put, hd] at this ⊢
              rw [← this]
              simp [Array.getElem?_setIfInBounds_ne hne]
          · intro k s' hlk hs'
            replace hlk : (lst.setIfInBounds i true).getD k false = true := hlk
            rw [getD_set lst i k hls hi] at hlk
            have hdeps : ∀ (k : Nat) (s' : OS), sp[k]? = some s' → (k = i ∨ lst.getD k false = true) → ∀ j ∈ s'.deps, (if j = i then v else vals j) = vals j := by
              intro k s' hs' hk j hj
              have hkA : k < nA := by rw [← ok.len]; exact (List.getElem?_eq_some_iff.1 hs').1
              obtain ⟨o', ho'⟩ : ∃ o', ops[k]? = some o' := ⟨ops[k]'(Nat.lt_of_lt_of_le hkA ok.le), Array.getElem?_eq_getElem _⟩
              obtain ⟨e, he, hon, hb⟩ := ok.deps k o' s' ho' hs' j hj
              have hjk : j < k := hon ▸ ok.back k o' ho' e he hb
              rw [if_neg]
              rintro rfl
              rcases hk with rfl | hk
              · omega
              · have := hcl k o' ho' hk e he hb
                rw [hon, hun] at this; cases this
            by_cases e : k = i
            · subst e
              rw [hs] at hs'; cases hs'
              show s.holds (s.deps.map fun j => if j = k then v else vals j) (if k = k then v else vals k) W'
              rw [map_congr' _ (hdeps k s hs (.inl rfl)), if_pos rfl]
              exact hv
            · rw [if_neg e] at hlk
              show s'.holds (s'.deps.map fun k => if k = i then v else vals k) (if k = i then v else vals k) W'
              rw [map_congr' _ (hdeps k s' hs' (.inr hlk)), if_neg e]
              exact stable s' (List.mem_of_getElem? hs') _ _ _ _ hb (h6 k s' hlk hs')
        by_cases hall : ∀ k, k < nA → (lst.setIfInBounds i true).getD k false = true
        · exact close _ _ _ hls' hcl' hall hnone' hA
        · refine ⟨hls', hcl', .inl ⟨?_, hnone', hA⟩⟩
          obtain ⟨k, hk⟩ := Classical.not_forall.1 hall
          obtain ⟨hk1, hk2⟩ := Classical.not_imp.1 hk
          exact ⟨k, hk1, by simpa using hk2⟩)
      unfold wpOpIn
      simp only [ho]
      split
      · rename_i hw; rw [if_pos hw] at hx; exact hx
      · rename_i hw; rw [if_neg hw] at hx; exact ⟨fun _ _ => trivial, hx⟩
    · -- it is the next one
      have him : i = m := by
        have h1 : ¬ i < m := fun h => by rw [(hlst i hi).2 h] at hun; cases hun
        have h2 : i ≤ m := Nat.le_of_not_lt fun h => by
          have h3 := ok.last i o (by omega) ho (fun k => lst.getD k false = true) (fun k o' h1 h2 e h3 h4 => hcl k o' h1 h2 e h3 h4) hready m h
          have := (hlst m (by omega)).1 h3
          omega
        omega
      subst him
      have hdrop : l.drop i = o :: l.drop (i + 1) := by
        have := hl i
        rw [ho] at this
        exact (List.drop_eq_getElem_cons (List.getElem?_eq_some_iff.1 this).1).trans (by rw [(List.getElem?_eq_some_iff.1 this).2])
      rw [hdrop] at hw
      have hnext : ∀ a' W', wpListIn (FW C.r) 0 C.P ops Q (l.drop (i + 1)) a' W' → Inv (lst.setIfInBounds i true) a' W' := fun a' W' h => by
        refine ⟨by simp [hls], hcl', .inr ⟨i + 1, by omega, fun k hk => ?_, h⟩⟩
        rw [getD_set lst i k hls hi]
        by_cases e : k = i
        · subst e; simp
        · rw [if_neg e, hlst k hk]; omega
      unfold wpListIn at hw
      unfold wpOpIn
      simp only [ho]
      split
      · rename_i hwant
        rw [if_pos hwant] at hw
        exact Oper.wpIn_mono hnext hw
      · rename_i hwant
        rw [if_neg hwant] at hw
        exact ⟨hw.1, hnext _ _ hw.2⟩
  -- the end
  have ready_iff : ∀ (lst : Array Bool) (i : Nat), lst.size = ops.size → (i ∈ Region.ready .any ops lst ↔ ∃ o, ops[i]? = some o ∧ lst.getD i false = false ∧ ∀ e ∈ o.after, Region.binds .any e = true → lst.getD e.on false = true) := by
    intro lst i hls
    simp only [Region.ready, List.mem_filter, List.mem_range, Bool.and_eq_true, Bool.not_eq_true']
    constructor
    · rintro ⟨hi, hf, hr⟩
      refine ⟨ops[i], Array.getElem?_eq_getElem hi, ?_, ?_⟩
      · simp only [Array.getD_eq_getD_getElem?] at hf ⊢
        rw [Array.getElem?_eq_getElem (by rw [hls]; exact hi)] at hf ⊢
        simpa using hf
      · rw [Array.getElem?_eq_getElem hi] at hr
        simp only [Option.map_some, Option.getD_some, Array.all_eq_true_iff_forall_mem, Bool.or_eq_true, Bool.not_eq_true'] at hr
        intro e he hb
        rcases hr e he with h | h
        · rw [hb] at h; cases h
        · exact h
    · rintro ⟨o, ho, hf, hr⟩
      have hi := hlt i o ho
      refine ⟨hi, ?_, ?_⟩
      · simp only [Array.getD_eq_getD_getElem?] at hf ⊢
        rw [Array.getElem?_eq_getElem (by rw [hls]; exact hi)] at hf ⊢
        simpa using hf
      · rw [ho]
        simp only [Option.map_some, Option.getD_some, Array.all_eq_true_iff_forall_mem, Bool.or_eq_true, Bool.not_eq_true']
        intro e he
        by_cases hb : Region.binds .any e = true
        · exact .inr (hr e he hb)
        · exact .inl (by simpa using hb)
  have last : ∀ (lst : Array Bool) a W, Inv lst a W → Region.ready .any ops lst = [] → Q .normal a W := by
    rintro lst a W ⟨hls, hcl, hI⟩ hr
    -- all are listed: else the least one that is not is ready
    have hall : ∀ i, i < ops.size → lst.getD i false = true := by
      intro i
      induction i using Nat.strongRecOn with
      | _ i ih =>
        intro hi
        cases hf : lst.getD i false with
        | true => rfl
        | false =>
          have : i ∈ Region.ready .any ops lst := (ready_iff lst i hls).2 ⟨ops[i], Array.getElem?_eq_getElem hi, hf, fun e he hb => by
            have := ok.back i ops[i] (Array.getElem?_eq_getElem hi) e he hb
            exact ih e.on this (by omega)⟩
          rw [hr] at this; cases this
    rcases hI with ⟨⟨k, hk, hkf⟩, _⟩ | ⟨m, hnm, hlst, hw⟩
    · rw [hall k (Nat.lt_of_lt_of_le hk ok.le)] at hkf; cases hkf
    · have hm : ops.size ≤ m := Nat.le_of_not_lt fun h => by
        have := (hlst m h).1 (hall m h); omega
      rw [List.drop_eq_nil_of_le (by omega)] at hw
      exact hw
  have any : ∀ (fuel : Nat) (lst : Array Bool) a W, Inv lst a W → (List.range ops.size).countP (fun i => !lst.getD i false) ≤ fuel → wpAnyIn (FW C.r) 0 C.P .any ops Q fuel lst a W := by
    intro fuel
    induction fuel with
    | zero =>
      intro lst a W hI hc
      have hz : Region.ready .any ops lst = [] := by
        apply List.eq_nil_iff_forall_not_mem.2
        intro i hi
        obtain ⟨o, ho, hf, _⟩ := (ready_iff lst i hI.1).1 hi
        have := List.countP_eq_zero.1 (Nat.le_zero.1 hc) i (List.mem_range.2 (hlt i o ho))
        simp [hf] at this
      exact ⟨hz, last lst a W hI hz⟩
    | succ fuel ih =>
      intro lst a W hI hc
      refine ⟨last lst a W hI, fun i hi => ?_⟩
      obtain ⟨o, ho, hf, hr⟩ := (ready_iff lst i hI.1).1 hi
      refine wpOpIn_mono (fun a' W' hI' => ih _ a' W' hI' ?_) (step lst a W hI i o ho hf hr)
      have hlt' := hlt i o ho
      have hcount : (List.range ops.size).countP (fun k => !(lst.setIfInBounds i true).getD k false) < (List.range ops.size).countP (fun k => !lst.getD k false) := by
        refine countP_strict _ (fun k _ hk => ?_) ⟨i, List.mem_range.2 hlt', by simp [hf], ?_⟩
        · rw [getD_set lst i k hI.1 hlt'] at hk
          by_cases e : k = i
          · rw [if_pos e] at hk; cases hk
          · rw [if_neg e] at hk; exact hk
        · rw [getD_set lst i i hI.1 hlt', if_pos rfl]; rfl
      omega
  have hrep : ∀ k, (Array.replicate ops.size false).getD k false = false := fun k => by
    simp only [Array.getD_eq_getD_getElem?, Array.getElem?_replicate]
    split <;> rfl
  have hS0 : St G L H { W with drawn := W.drawn + 1 } := hS.step (below_drawn W _)
  have hA0 : InvA C ops nA sp E D G L H (fun i => (Array.replicate ops.size false).getD i false) a { W with drawn := W.drawn + 1 } :=
    ⟨fun _ => undef, hsize, hD, hF, hS0, fun i _ _ _ h => (Bool.false_ne_true ((hrep i).symm.trans h)).elim, fun i _ h => (Bool.false_ne_true ((hrep i).symm.trans h)).elim⟩
  refine wpAnyIn_sound ops.size t _ a _ (any ops.size (Array.replicate ops.size false) a _ ?_ ?_)
  · have hcl0 : ∀ (k : Nat) (o : Oper), ops[k]? = some o → (Array.replicate ops.size false).getD k false = true → ∀ e ∈ o.after, Region.binds .any e = true → (Array.replicate ops.size false).getD e.on false = true := fun k o _ h => by rw [hrep k] at h; cases h
    by_cases hz : nA = 0
    · exact close _ _ _ (by simp) hcl0 (fun i hi => by omega) (fun i _ => hrep i) hA0
    · exact ⟨by simp, hcl0, .inl ⟨⟨0, by omega, hrep 0⟩, fun i _ => hrep i, hA0⟩⟩
  · exact Nat.le_trans List.countP_le_length (by simp)
/-- an operation that writes own blocks -/
def XW {α : Type} (C : Cx) (ops : Array Oper) (G : Gh) (L : List World) (H : Heap) (E : Env) (Pre : World → Prop) (o : Oper) (vw : α → Value) (Hw : α → Heap) : Prop :=
  ∀ (a : Act) (W : World) (K : Act → World → Prop) (Q : Post), a.tmps.size = C.N → Fits E a → St G L H W → Pre W →
    (∀ x W', Keep (fun k => k ∈ H.map (·.1)) W W' → St G L (Hw x) W' → K (a.put o.dst (vw x)) W') →
    if Region.wanted o (yielded ops a.tmps) then o.wpIn (FW C.r) 0 C.P a W K Q else K (a.put o.dst undef) W
/-- the state while the first nA operations are under way, one of which writes -/
def InvW {α : Type} (C : Cx) (ops : Array Oper) (nA iw : Nat) (sp : List OS) (vw : α → Value) (Hw : α → Heap) (E : Env) (D : List Deferred) (G : Gh) (L : List World) (H : Heap) (lst : Nat → Bool) (a : Act) (W : World) : Prop :=
  ∃ vals : Nat → Value, a.tmps.size = C.N ∧ a.defers = D ∧ Fits E a ∧ (if lst iw = true then ∃ x, vals iw = vw x ∧ St G L (Hw x) W else St G L H W) ∧
    (∀ (i : Nat) (o : Oper) (d : Nat), i < nA → lst i = true → ops[i]? = some o → o.dst = some d → a.eval (.tmp d) = vals i) ∧
    (∀ (i : Nat) (s : OS), lst i = true → sp[i]? = some s → s.holds (s.deps.map vals) (vals i) W)
def ExecAll (C : Cx) (ops : Array Oper) (G : Gh) (L : List World) (H : Heap) (E : Env) (sp : List OS) : List Oper → List OS → Prop
  | o :: l, s :: ss => (∀ vals : Nat → Value, X C ops G L H (depE ops sp vals s.deps ++ E) (fun W => depP sp vals W s.deps) o (fun v W => s.holds (s.deps.map vals) v W)) ∧ ExecAll C ops G L H E sp l ss
  | _, _ => True
theorem xc {C : Cx} {ops : Array Oper} {G : Gh} {L : List World} {H : Heap} {E : Env} {sp : List OS} {o : Oper} {l : List Oper} {s : OS} {ss : List OS}
    (h : ∀ vals : Nat → Value, X C ops G L H (depE ops sp vals s.deps ++ E) (fun W => depP sp vals W s.deps) o (fun v W => s.holds (s.deps.map vals) v W)) (t : ExecAll C ops G L H E sp l ss) : ExecAll C ops G L H E sp (o :: l) (s :: ss) := ⟨h, t⟩
theorem xn {C : Cx} {ops : Array Oper} {G : Gh} {L : List World} {H : Heap} {E : Env} {sp : List OS} {l : List Oper} : ExecAll C ops G L H E sp l [] := by cases l <;> trivial
theorem execAll_at {C : Cx} {ops : Array Oper} {G : Gh} {L : List World} {H : Heap} {E : Env} {sp : List OS} : ∀ (l : List Oper) (ss : List OS), ExecAll C ops G L H E sp l ss → ∀ (i : Nat) (o : Oper) (s : OS), l[i]? = some o → ss[i]? = some s → ∀ vals : Nat → Value,
    X C ops G L H (depE ops sp vals s.deps ++ E) (fun W => depP sp vals W s.deps) o (fun v W => s.holds (s.deps.map vals) v W)
  | [], _, _, i, o, s, hl, _ => by simp at hl
  | _ :: _, [], _, i, o, s, _, hs => by simp at hs
  | o' :: l, s' :: ss, h, i, o, s, hl, hs => by
    cases i with
    | zero => simp at hl hs; subst hl; subst hs; exact h.1
    | succ i => exact execAll_at l ss h.2 i o s (by simpa using hl) (by simpa using hs)
def StableAll : List OS → Prop
  | [] => True
  | s :: ss => (∀ ds v W W', Below W.heap.size W W' → s.holds ds v W → s.holds ds v W') ∧ StableAll ss
theorem stableAll_mem : ∀ {sp : List OS}, StableAll sp → ∀ s ∈ sp, ∀ ds v W W', Below W.heap.size W W' → s.holds ds v W → s.holds ds v W'
  | [], _, s, hs => by cases hs
  | s' :: ss, h, s, hs => by
    rcases List.mem_cons.1 hs with rfl | hs
    · exact h.1
    · exact stableAll_mem h.2 s hs
theorem st_det {ds : List Nat} {u : Value} : ∀ ds' v W W', Below W.heap.size W W' → (OS.det ds u).holds ds' v W → (OS.det ds u).holds ds' v W' := fun _ _ _ _ _ h => h
def allDet : List OS → Bool
  | [] => true
  | .det _ _ :: ss => allDet ss
  | _ => false
theorem stable_of_det : ∀ {sp : List OS}, allDet sp = true → StableAll sp
  | [], _ => trivial
  | .det _ _ :: ss, h => ⟨st_det, stable_of_det (sp := ss) h⟩
  | .gen _ _ :: _, h => by cases h
def dstOk (N : Nat) : List Oper → Bool
  | [] => true
  | o :: l => (match o.dst with | some d => Nat.blt d N | none => true) && dstOk N l
theorem dstOk_mem {N : Nat} : ∀ {l : List Oper}, dstOk N l = true → ∀ o ∈ l, ∀ d, o.dst = some d → d < N
  | [], _, o, ho => by cases ho
  | o' :: l, h, o, ho => by
    simp only [dstOk, Bool.and_eq_true] at h
    rcases List.mem_cons.1 ho with rfl | ho
    · intro d hd; have := h.1; rw [hd] at this; exact lt_of this
    · exact dstOk_mem h.2 o ho
theorem CJ.drw {C : Cx} {Q : Post} {E : Env} {D : List Deferred} {G : Gh} {L : List World} {H : Heap} {l : List Oper} {id : Nat} (nA : Nat) (sp : List OS) (hm : C.P.follows .mixedOrders = true)
    (exec : ExecAll C l.toArray G L H E sp l sp) (hok : drawOkB l.toArray nA (sp.map (·.deps)) E = true) (hN : dstOk C.N l = true) (stable : StableAll sp)
    (fin : ∀ (vals : Nat → Value) (W : World), St G L H W → depP sp vals W (List.range nA) → OJ C l.toArray Q (l.drop nA) (depE l.toArray sp vals (List.range nA) ++ E) D G (W :: L) H) :
    CJ C (.region id l.toArray true) Q E D G L H :=
  CJ.draw nA sp hm hok (dstOk_mem hN) (stableAll_mem stable) (execAll_at l sp exec) fin
/-- where every value is known -/
theorem CJ.drwD {C : Cx} {Q : Post} {E : Env} {D : List Deferred} {G : Gh} {L : List World} {H : Heap} {l : List Oper} {id : Nat} (nA : Nat) (sp : List OS) (hm : C.P.follows .mixedOrders = true)
    (exec : ExecAll C l.toArray G L H E sp l sp) (hok : drawOkB l.toArray nA (sp.map (·.deps)) E = true) (hN : dstOk C.N l = true) (hd : allDet sp = true)
    (fin : ∀ (vals : Nat → Value), OJ C l.toArray Q (l.drop nA) (depE l.toArray sp vals (List.range nA) ++ E) D G L H) :
    CJ C (.region id l.toArray true) Q E D G L H :=
  CJ.drw nA sp hm exec hok hN (stable_of_det hd) fun vals _ _ _ a W' hN' hD hF hS => fin vals a W' hN' hD hF (hS.lessL fun _ hw => .tail _ hw)
end Px
namespace Px
open Go
theorem mul_bd {a b A B : Int} (ha : 0 ≤ a) (ha1 : a ≤ A) (hb : 0 ≤ b) (hb1 : b ≤ B) : 0 ≤ a * b ∧ a * b ≤ A * B :=
  ⟨Int.mul_nonneg ha hb, Int.mul_le_mul ha1 hb1 hb (Int.le_trans ha ha1)⟩
theorem mul64_hiI (x y : Int) (hx : 0 ≤ x) (hy : 0 ≤ y) (hx1 : x < 18446744073709551616) (hy1 : y < 18446744073709551616) :
    (x / 4294967296) * (y / 4294967296) + ((x / 4294967296) * (y % 4294967296) + (x % 4294967296) * (y % 4294967296) / 4294967296) / 4294967296 +
      (((x / 4294967296) * (y % 4294967296) + (x % 4294967296) * (y % 4294967296) / 4294967296) % 4294967296 + (x % 4294967296) * (y / 4294967296)) / 4294967296 = x * y / 18446744073709551616 := by
  obtain ⟨a, rfl⟩ := Int.eq_ofNat_of_zero_le hx
  obtain ⟨b, rfl⟩ := Int.eq_ofNat_of_zero_le hy
  have := mul64_hi a b (by omega) (by omega)
  have h2 : ((2 ^ 32 : Nat) : Int) = 4294967296 := by decide
  have h3 : ((2 ^ 64 : Nat) : Int) = 18446744073709551616 := by decide
  have := congrArg (Nat.cast (R := Int)) this
  simp only [Int.natCast_add, Int.natCast_mul, Int.natCast_ediv, Int.natCast_emod, h2, h3] at this
  exact this
def blenI (x : Int) : Int := blen x.toNat
theorem natdiv_pow (n k : Nat) : ((n : Int) / 2 ^ k) = ((n / 2 ^ k : Nat) : Int) := by
  rw [Int.natCast_ediv]; simp
theorem blenI_shift {x : Int} (k : Nat) (h : 2 ^ k ≤ x) : blenI x = blenI (x / 2 ^ k) + k := by
  have h0 : 0 ≤ x := Int.le_trans (Int.le_of_lt (Int.pow_pos (by decide))) h
  obtain ⟨n, rfl⟩ := Int.eq_ofNat_of_zero_le h0
  unfold blenI
  have h' : 2 ^ k ≤ n := by
    have : ((2 ^ k : Nat) : Int) ≤ n := by simpa using h
    exact Int.ofNat_le.1 this
  rw [natdiv_pow, Int.toNat_natCast, Int.toNat_natCast, blen_shift n k h']
  simp
theorem blenI_le {x : Int} (k : Nat) (h0 : 0 ≤ x) (h : x < 2 ^ k) : 0 ≤ blenI x ∧ blenI x ≤ k := by
  obtain ⟨n, rfl⟩ := Int.eq_ofNat_of_zero_le h0
  have h' : n < 2 ^ k := by
    have : (n : Int) < ((2 ^ k : Nat) : Int) := by simpa using h
    exact Int.ofNat_lt.1 this
  have := blen_le n k h'
  unfold blenI
  simp; omega
theorem shl_re (m s : Nat) (hs : s ≤ 64) (h : m * 2 ^ s < 18446744073709551616) : IntKind.u64.wrap ((m : Int) * 2 ^ (min (Int.toNat (s : Int)) IntKind.u64.bits)) = ((m * 2 ^ s : Nat) : Int) := by
  rw [show min (Int.toNat (s : Int)) IntKind.u64.bits = s by simp [IntKind.bits] <;> omega]
  have e : ((m * 2 ^ s : Nat) : Int) = (m : Int) * 2 ^ s := by simp
  rw [← e]
  exact wrap_u64 (by omega) (by omega)
theorem shl_mod (m s : Nat) (hs : s ≤ 64) : IntKind.u64.wrap ((m : Int) * 2 ^ (min (Int.toNat (s : Int)) IntKind.u64.bits)) = ((m * 2 ^ s % 2 ^ 64 : Nat) : Int) := by
  rw [show min (Int.toNat (s : Int)) IntKind.u64.bits = s by simp [IntKind.bits] <;> omega]
  have e : ((m * 2 ^ s : Nat) : Int) = (m : Int) * 2 ^ s := by simp
  rw [← e, wrap_u64']
  generalize m * 2 ^ s = z
  omega
theorem shr_re (m s : Nat) (k : Int) (hk : k = ((64 - s : Nat) : Int)) : (m : Int).fdiv (2 ^ (min (Int.toNat k) IntKind.u64.bits)) = ((m / 2 ^ (64 - s) : Nat) : Int) := by
  subst hk
  rw [show min (Int.toNat ((64 - s : Nat) : Int)) IntKind.u64.bits = 64 - s by simp [IntKind.bits] <;> omega, fdiv_pow, natdiv_pow]
theorem shr_re' (m s : Nat) (hs : s ≤ 64) : (m : Int).fdiv (2 ^ (min (Int.toNat (s : Int)) IntKind.u64.bits)) = ((m / 2 ^ s : Nat) : Int) := by
  rw [show min (Int.toNat (s : Int)) IntKind.u64.bits = s by simp [IntKind.bits] <;> omega, fdiv_pow, natdiv_pow]
theorem bv64 (k : Nat) (hk : k < 18446744073709551616) : (BitVec.ofInt IntKind.u64.bits (k : Int)).toNat = k := by
  rw [BitVec.ofInt_natCast, BitVec.toNat_ofNat]; exact Nat.mod_eq_of_lt hk
theorem or_re (a b i : Nat) (hb : b < 2 ^ i) (h : a * 2 ^ i + b < 18446744073709551616) : IntKind.u64.wrap ((BitVec.ofInt IntKind.u64.bits ((a * 2 ^ i : Nat) : Int) ||| BitVec.ofInt IntKind.u64.bits (b : Int)).toNat : Int) = ((a * 2 ^ i + b : Nat) : Int) := by
  rw [BitVec.toNat_or, bv64 _ (by omega), bv64 _ (by omega), or_disj a b i hb]
  exact wrap_u64 (by omega) (by omega)
theorem lo_shift (lo s : Nat) (hs : s ≤ 64) (h : lo < 18446744073709551616) : lo / 2 ^ (64 - s) < 2 ^ s := by
  rw [Nat.div_lt_iff_lt_mul (Nat.two_pow_pos _), ← Nat.pow_add, Nat.add_sub_cancel' hs]
  exact h
theorem castdiv (a b : Nat) : ((a : Int) / (b : Int)) = ((a / b : Nat) : Int) := (Int.natCast_ediv a b).symm
theorem shr_v (m i : Nat) (k : Int) (hk : k = (i : Int)) (hi : i ≤ 64) : (m : Int).fdiv (2 ^ (min (Int.toNat k) IntKind.u64.bits)) = ((m / 2 ^ i : Nat) : Int) := by
  subst hk; exact shr_re' m i hi
end Px
namespace Px
open Go Go.RowKit
/-! #### own blocks that are forgotten -/
def Over (n : Nat) : Heap → Prop
  | [] => True
  | p :: H => n ≤ p.1 ∧ Over n H
theorem Over.mem {n : Nat} {H : Heap} (h : Over n H) : ∀ p ∈ H, n ≤ p.1 := by
  induction H with
  | nil => intro p hp; simp at hp
  | cons q H ih =>
    intro p hp
    simp only [List.mem_cons] at hp
    rcases hp with rfl | hp
    · exact h.1
    · exact ih h.2 p hp
section
variable {G : Gh} {L : List World} {H : Heap} {W : World}
theorem St.base (h : St Gh.no L H W) {w : World} (hw : w ∈ L) (ho : Over w.heap.size H) : Below w.heap.size w W :=
  (h.links w hw).below fun k hk hx => by
    rcases hx with hx | hx
    · exact hx
    · obtain ⟨p, hp, rfl⟩ := List.mem_map.1 hx
      have := ho.mem p hp
      omega
/-- a block that may be given up: lent, or over all snapshots -/
def Fr (G : Gh) (L : List World) (b : Nat) : Prop := G.X b ∨ Above L b
/-- own blocks are given up -/
theorem St.dropF {b : Nat} {o : Obj} (h : St G L ((b, o) :: H) W) (ha : Fr G L b) : St G L H W where
  ghost := h.ghost
  vlt := h.vlt
  xlt := h.xlt
  links := fun w hw => (h.links w hw).mono fun k hk hx => by
    rcases hx with hx | hx
    · exact .inl hx
    · simp only [List.map_cons, List.mem_cons] at hx
      rcases hx with rfl | hx
      · rcases ha with ha | ha
        · exact .inl ha
        · have := ha.mem w hw; omega
      · exact .inr hx
  own := fun p hp => h.own p (List.mem_cons_of_mem _ hp)
  nodup := fun i j p q hi hj e => by
    have := h.nodup (i + 1) (j + 1) p q (by simpa using hi) (by simpa using hj) e
    omega
  apart := fun p hp => h.apart p (List.mem_cons_of_mem _ hp)
theorem St.drop {b : Nat} {o : Obj} (h : St G L ((b, o) :: H) W) (ha : Above L b) : St G L H W := h.dropF (.inr ha)
/-- a block that nobody knows of becomes an own one -/
theorem St.adopt {b : Nat} {o : Obj} (h : St G L H W) (hb : W.heap[b]? = some o) (ha : Off H b) (hV : ¬ G.V b) : St G L ((b, o) :: H) W where
  ghost := h.ghost
  vlt := h.vlt
  xlt := h.xlt
  links := fun w hw => (h.links w hw).mono fun k _ hx => hx.imp id fun hx => by simp [hx]
  own := fun p hp => by
    simp only [List.mem_cons] at hp
    rcases hp with rfl | hp
    · exact hb
    · exact h.own p hp
  nodup := fun i j p q hi hj e => by
    cases i with
    | zero =>
      cases j with
      | zero => rfl
      | succ j =>
        simp only [List.getElem?_cons_zero, Option.some.injEq, List.getElem?_cons_succ] at hi hj
        subst hi
        exact absurd (List.mem_map.2 ⟨q, List.mem_of_getElem? hj, e.symm⟩) ha.mem
    | succ i =>
      cases j with
      | zero =>
        simp only [List.getElem?_cons_zero, Option.some.injEq, List.getElem?_cons_succ] at hi hj
        subst hj
        exact absurd (List.mem_map.2 ⟨p, List.mem_of_getElem? hi, e⟩) ha.mem
      | succ j =>
        simp only [List.getElem?_cons_succ] at hi hj
        rw [h.nodup i j p q hi hj e]
  apart := fun p hp => by
    simp only [List.mem_cons] at hp
    rcases hp with rfl | hp
    · exact hV
    · exact h.apart p hp
end
/-! #### results -/
section
variable {C : Cx} {fn : Func} {R : Ending → World → Prop} {E : Env} {G : Gh} {L : List World} {H : Heap}
def RS (C : Cx) (G : Gh) (L : List World) (H : Heap) (E : Env) : List ResultVar → List Value → Prop
  | [], vs => vs = []
  | r :: rs, vs => ∃ v us, vs = v :: us ∧ (match r with
      | .tmp t => look E t = some v
      | .cell t T => ∀ a W, Fits E a → St G L H W → (do loadVar T (← asAddr (a.tmps.getD t undef)) : Sem Value).run C.P W = .ok v W) ∧ RS C G L H E rs us
theorem RS.run : ∀ {rs : List ResultVar} {vs : List Value}, RS C G L H E rs vs → ∀ (a : Act) (W : World), Fits E a → St G L H W →
    (rs.mapM fun r => (match r with
      | .tmp t => pure (a.tmps.getD t undef)
      | .cell b t => do loadVar t (← asAddr (a.tmps.getD b undef)) : Sem Value)).run C.P W = .ok vs W
  | [], vs, h, a, W, _, _ => by cases h; simp
  | r :: rs, vs, h, a, W, hF, hS => by
    obtain ⟨v, us, rfl, hr, h⟩ := h
    have ih := RS.run h a W hF hS
    cases r with
    | tmp t =>
      have := hF t v hr
      simp only [Act.eval] at this
      simp [-Array.getD_eq_getD_getElem?, List.mapM_cons, ih, this]
    | cell b T =>
      have := hr a W hF hS
      rw [List.mapM_cons, Sem.run_bind]
      simp only [this]
      simp [-Array.getD_eq_getD_getElem?, ih]
theorem RS.t {t : Nat} {v : Value} {rs : List ResultVar} {vs : List Value} (h : look E t = some v) (k : RS C G L H E rs vs) : RS C G L H E (.tmp t :: rs) (v :: vs) := ⟨v, vs, rfl, h, k⟩
/-- a result in an own block -/
theorem RS.w {t T i b off ct : Nat} {cs : Array Value} {fr : Nat × Nat} {v : Value} {rs : List ResultVar} {vs : List Value} (hi : H[i]? = some (b, .cells cs ct fr)) (hA : AggF C.P T false) (hx : look E t = some (ptr b off))
    (hv : cs[off]? = some v) (k : RS C G L H E rs vs) : RS C G L H E (.cell t T :: rs) (v :: vs) :=
  ⟨v, vs, rfl, fun a W hF hS => by
    have := hF t _ hx
    simp only [Act.eval] at this
    simp [-Array.getD_eq_getD_getElem?, this, asAddr, run_loadVar1 hA (hS.own _ (List.mem_of_getElem? hi)) hv], k⟩
theorem RS.wA {t T i b off ct n : Nat} {cs : Array Value} {fr : Nat × Nat} {rs : List ResultVar} {vs : List Value} (hi : H[i]? = some (b, .cells cs ct fr)) (hA : AggF C.P T true) (hZ : SizeF C.P T n) (hx : look E t = some (ptr b off))
    (hv : off + n ≤ cs.size) (k : RS C G L H E rs vs) : RS C G L H E (.cell t T :: rs) (.agg (cut cs off n) :: vs) :=
  ⟨_, vs, rfl, fun a W hF hS => by
    have := hF t _ hx
    simp only [Act.eval] at this
    simp [-Array.getD_eq_getD_getElem?, this, asAddr, run_loadVarA hA hZ (hS.own _ (List.mem_of_getElem? hi)) hv], k⟩
theorem RS.r {t T b off ct : Nat} {cs : Array Value} {fr : Nat × Nat} {v : Value} {w1 : World} {rs : List ResultVar} {vs : List Value} (hA : AggF C.P T false) (hx : look E t = some (ptr b off))
    (hm : w1 ∈ L) (hb : w1.heap[b]? = some (.cells cs ct fr)) (hG : ¬ G.X b) (hO : Off H b) (hv : cs[off]? = some v) (k : RS C G L H E rs vs) : RS C G L H E (.cell t T :: rs) (v :: vs) :=
  ⟨_, vs, rfl, fun a W hF hS => by
    have := hF t _ hx
    simp only [Act.eval] at this
    simp [-Array.getD_eq_getD_getElem?, this, asAddr, run_loadVar1 hA (hS.old hm hb hG hO) hv], k⟩
theorem RS.n : RS C G L H E [] [] := rfl
def oneOf : List Value → Value
  | [v] => v
  | vs => .tuple vs.toArray
theorem RS.res {rs : List ResultVar} {vs : List Value} (h : RS C G L H E rs vs) (hr : fn.results = rs.toArray) {a : Act} {W : World} (hF : Fits E a) (hS : St G L H W) : (results fn a.tmps).run C.P W = .ok (oneOf vs) W := by
  have := h.run a W hF hS
  unfold results
  rw [hr, Sem.run_bind, List.mapM_toArray]
  simp only [Sem.run_map]
  refine (congrArg (fun r => Result.andThen (Result.andThen r _) _) this).trans ?_
  match vs with
  | [] => rfl
  | [v] => rfl
  | v :: u :: vs => simp [oneOf]
/-- the end of a function -/
theorem retG {rs : List ResultVar} {vs : List Value} {e : Exit} (he : e = .ret ∨ e = .normal) (hr : fn.results = rs.toArray) (h : RS C G L H E rs vs) (hR : ∀ W, St G L H W → R (.returned (oneOf vs)) W) :
    PJ C (bodyPost C.P fn R) e E [] G L H := fun a W _ hD hF hS => by
  have : bodyPost C.P fn R .ret a W := ⟨hD, _, h.res hr hF hS, hR W hS⟩
  rcases he with rfl | rfl <;> exact this
/-- .. that says its value only -/
theorem retO {rs : List ResultVar} {vs : List Value} {v : Value} {w : World} {e : Exit} (he : e = .ret ∨ e = .normal) (hr : fn.results = rs.toArray) (h : RS C Gh.no L H E rs vs) (hw : w ∈ L) (ho : Over w.heap.size H) (hv : oneOf vs = v) :
    PJ C (bodyPost C.P fn (Ret w v)) e E [] Gh.no L H := retG he hr h fun _ hS => ⟨by rw [hv], hS.base hw ho⟩
/-! #### a callee that writes a block -/
def RetM (w : World) (v : Value) (b : Nat) (o : Obj) : Ending → World → Prop := fun e w' => e = .returned v ∧ Keep (· = b) w w' ∧ w'.heap[b]? = some o
theorem st_own {w : World} {b : Nat} {o : Obj} (h : w.heap[b]? = some o) : St Gh.no [w] [(b, o)] w where
  ghost := trivial
  vlt := fun _ h => h.elim
  xlt := fun _ h => h.elim
  links := fun w' hw => by simp at hw; subst hw; exact Keep.refl _ _
  own := fun p hp => by simp at hp; subst hp; exact h
  nodup := fun i j p q hi hj _ => by
    have h1 := (List.getElem?_eq_some_iff.1 hi).1
    have h2 := (List.getElem?_eq_some_iff.1 hj).1
    simp at h1 h2; omega
  apart := fun _ _ h => h.elim
end
section
variable {C : Cx} {Q : Post} {E : Env} {D : List Deferred} {G : Gh} {L : List World} {H : Heap} {ops : Array Oper} {l : List Oper}
variable {d T ty f : Nat} {pos : String} {aft : Array Edge} {g : Option (Nat × Bool)} {x y : Operand} {xs : List Operand} {vs : List Value} {tys : Array Nat}
/-- a call of a function value -/
theorem callC {v : Value} {cap : List Value} (hx : ev E x = some (.func (.func f) #[] cap.toArray)) (hent : Ent C.P f) (hw : wantE ops E g = some true) (hN : Nat.blt d C.N = true) (ha : evs E xs = some vs)
    (hc : ∀ W, St G L H W → Calls C.P f (vs ++ cap).toArray W (Ret W v)) (k : OJ C ops Q l ((d, v) :: E) D G L H) :
    OJ C ops Q (⟨some d, .call ⟨.value x, xs.toArray, tys⟩, ty, pos, aft, g⟩ :: l) E D G L H :=
  call_gen rfl hw hx ha (by simp) hent fun a W hN' hD hF hS => (hc W hS).mono (by
    rintro e W' ⟨rfl, hb⟩
    exact k (a.put (some d) v) W' (by simp [Act.put, hN']) (by simp [Act.put, hD]) (hF.put _ (by rw [hN']; exact lt_of hN)) (hS.step hb))
/-- .. that writes an own block (the i-th) -/
theorem callCM {v : Value} {first cap : List Value} {i b : Nat} {o o' : Obj} (hi : H[i]? = some (b, o)) (hx : ev E x = some (.func (.func f) first.toArray cap.toArray)) (hent : Ent C.P f) (hw : wantE ops E g = some true) (hN : Nat.blt d C.N = true) (ha : evs E xs = some vs)
    (hc : ∀ W, St G L H W → W.heap[b]? = some o → Calls C.P f (first ++ vs ++ cap).toArray W (RetM W v b o')) (k : OJ C ops Q l ((d, v) :: E) D G L (H.set i (b, o'))) :
    OJ C ops Q (⟨some d, .call ⟨.value x, xs.toArray, tys⟩, ty, pos, aft, g⟩ :: l) E D G L H :=
  call_gen rfl hw hx ha (by simp) hent fun a W hN' hD hF hS => (hc W hS (hS.own _ (List.mem_of_getElem? hi))).mono (by
    rintro e W' ⟨rfl, hk, hb⟩
    exact k (a.put (some d) v) W' (by simp [Act.put, hN']) (by simp [Act.put, hD]) (hF.put _ (by rw [hN']; exact lt_of hN)) (hS.put hi hk hb))
/-- the own blocks as they read best -/
theorem OJ.reH {H' : Heap} (e : H = H') (k : OJ C ops Q l E D G L H') : OJ C ops Q l E D G L H := by rw [e]; exact k
theorem CJ.reH {c : Code} {H' : Heap} (e : H = H') (k : CJ C c Q E D G L H') : CJ C c Q E D G L H := by rw [e]; exact k
theorem PJ.reH {e' : Exit} {H' : Heap} (e : H = H') (k : PJ C Q e' E D G L H') : PJ C Q e' E D G L H := by rw [e]; exact k
theorem PJ.drop {e' : Exit} {b : Nat} {o : Obj} (ha : Above L b) (k : PJ C Q e' E D G L H) : PJ C Q e' E D G L ((b, o) :: H) := fun a W hN hD hF hS => k a W hN hD hF (hS.drop ha)
/-! #### values -/
theorem lenS_r {base : Option Addr} {n c e : Nat} {t : Nat} (hU : C.P.underlying t = some (.slice e)) (hx : ev E x = some (.slice base n c)) : RV C G L H E (.call ⟨.builtin .len, #[x], #[t]⟩) (.int .i64 (n : Int)) := fun d ty pos aft g a W hF _ => by
  simp [execOp, hF.ev hx, resolve, invoke, Deferred.ofValue, builtin, Builtin.len_, run_underlying hU, goInt]
end
end Px
namespace Px
open Go Go.RowKit
section
variable {C : Cx} {Q : Post} {E : Env} {D : List Deferred} {G : Gh} {L : List World} {H : Heap} {ops : Array Oper} {l : List Oper}
variable {d T ty f : Nat} {pos : String} {aft : Array Edge} {g : Option (Nat × Bool)} {x y : Operand} {xs : List Operand} {vs : List Value} {tys : Array Nat}
def evp (E : Env) : List (Nat × Operand) → Option (List (Nat × Value))
  | [] => some []
  | (i, x) :: ps => match ev E x, evp E ps with
    | some v, some vs => some ((i, v) :: vs)
    | _, _ => none
theorem evp_map {a : Act} (h : Fits E a) : ∀ (ps : List (Nat × Operand)) (vs : List (Nat × Value)), evp E ps = some vs → ps.map (fun (i, x) => (i, a.eval x)) = vs
  | [], vs, e => by cases e; rfl
  | (i, x) :: ps, vs, e => by
    simp only [evp] at e
    split at e
    · rename_i v us hv hus
      cases e
      simp [h.ev hv, evp_map h ps us hus]
    · cases e
theorem fold_set (xs : List Value) : ∀ (cs : Array Value) (off k : Nat), (xs.zipIdx k).foldl (fun cs (c, j) => cs.setIfInBounds (off + j) c) cs = setCells cs (off + k) xs := by
  induction xs with
  | nil => intro cs off k; rfl
  | cons x xs ih => intro cs off k; simp only [List.zipIdx_cons, List.foldl_cons, setCells]; exact ih _ off (k + 1)
theorem fold_set' (xs cs : Array Value) (off : Nat) : xs.zipIdx.foldl (fun cs (c, j) => cs.setIfInBounds (off + j) c) cs = setCells cs off xs.toList := by
  rw [← Array.foldl_toList, Array.toList_zipIdx]; exact fold_set xs.toList cs off 0
/-- cells laid over others -/
def setL : List Value → Nat → List Value → List Value
  | [], _, _ => []
  | c :: cs, 0, [] => c :: cs
  | _ :: cs, 0, x :: xs => x :: setL cs 0 xs
  | c :: cs, n + 1, xs => c :: setL cs n xs
theorem setL_nil (cs : List Value) (n : Nat) : setL cs n [] = cs := by
  induction cs generalizing n with
  | nil => cases n <;> rfl
  | cons c cs ih => cases n with
    | zero => rfl
    | succ n => simp [setL, ih]
theorem setL_set (cs : List Value) (x : Value) (xs : List Value) : ∀ n, setL (cs.set n x) (n + 1) xs = setL cs n (x :: xs) := by
  induction cs with
  | nil => intro n; cases n <;> rfl
  | cons c cs ih => intro n; cases n with
    | zero => rfl
    | succ n => simp only [List.set_cons_succ, setL]; rw [ih]
theorem setCells_toList (xs : List Value) : ∀ (cs : Array Value) (off : Nat), (setCells cs off xs).toList = setL cs.toList off xs := by
  induction xs with
  | nil => intro cs off; rw [setL_nil]; rfl
  | cons x xs ih => intro cs off; rw [setCells, ih, Array.toList_setIfInBounds, setL_set]
theorem setC_all (cs xs : Array Value) (h : cs.size = xs.size) : setCells cs 0 xs.toList = xs := by
  apply Array.ext'
  rw [setCells_toList]
  have key : ∀ (l r : List Value), l.length = r.length → setL l 0 r = r := by
    intro l
    induction l with
    | nil => intro r h; simp at h; have := List.eq_nil_of_length_eq_zero h.symm; subst this; rfl
    | cons c l ih => intro r h; cases r with
      | nil => simp at h
      | cons x r => simp only [setL]; rw [ih r (by simpa using h)]
  exact key _ _ (by simpa using h)
/-- a store of all of an own block (the i-th) -/
theorem stWw {b t n i : Nat} {cs : Array Value} {v : Value} (hi : H[i]? = some (b, .cells cs t (0, 0))) (hZ : SizeF C.P T n) (hw : wantE ops E g = some true) (hx : ev E x = some (ptr b 0)) (hy : ev E y = some v)
    (hv : v.cells.size = n) (hn : cs.size = n) (h1 : oneCells v.cells.toList = true) (k : OJ C ops Q l E D G L (H.set i (b, .cells v.cells t (0, 0)))) :
    OJ C ops Q (⟨none, .store T x y, ty, pos, aft, g⟩ :: l) E D G L H :=
  stW hi hZ hw hx hy hv (by omega) h1 (by rw [setC_all cs v.cells (by omega)]; exact k)
/-- parts laid into cells -/
def fillL (pl : Nat → Option (Nat × Nat)) : List Value → List (Nat × Value) → Option (List Value)
  | cs, [] => some cs
  | cs, (i, v) :: ps => match pl i with
    | none => none
    | some (off, n) => match Nat.beq v.cells.size n && Nat.ble (off + n) cs.length with
      | true => fillL pl (setL cs off v.cells.toList) ps
      | false => none
theorem fill_of {pl : Nat → Option (Nat × Nat)} : ∀ {ps : List (Nat × Value)} {cs : Array Value} {ds : List Value}, fillL pl cs.toList ps = some ds → Instr.fill pl cs ps = some ds.toArray
  | [], cs, ds, h => by simp only [fillL, Option.some.injEq] at h; subst h; rfl
  | (i, v) :: ps, cs, ds, h => by
    simp only [fillL] at h
    unfold Instr.fill
    cases hp : pl i with
    | none => rw [hp] at h; simp at h
    | some q =>
      obtain ⟨off, n⟩ := q
      rw [hp] at h
      simp only at h ⊢
      split at h
      · rename_i hb
        simp only [Bool.and_eq_true, Nat.beq_eq, Nat.ble_eq] at hb
        have h1 : v.cells.size = n := hb.1
        have h2 : off + n ≤ cs.size := by simpa using hb.2
        rw [if_neg (by simp; omega), fold_set']
        exact fill_of (by rw [setCells_toList]; exact h)
      · simp at h
/-- parts one after the other -/
def seqP : Nat → List Value → List (Nat × Value)
  | _, [] => []
  | k, v :: vs => (k, v) :: seqP (k + 1) vs
def flatL : List Value → List Value
  | [] => []
  | v :: vs => v.cells.toList ++ flatL vs
def szAll (m : Nat) : List Value → Bool
  | [] => true
  | v :: vs => Nat.beq v.cells.size m && szAll m vs
theorem setL_mid (a b c xs : List Value) (h : xs.length = b.length) : setL (a ++ (b ++ c)) a.length xs = a ++ (xs ++ c) := by
  induction a with
  | nil =>
    simp only [List.nil_append, List.length_nil]
    induction b generalizing xs with
    | nil => simp at h; subst h; simp [setL_nil]
    | cons y b ih =>
      cases xs with
      | nil => simp at h
      | cons x xs => simp only [List.cons_append, setL]; rw [ih xs (by simpa using h)]
  | cons y a ih => simp only [List.cons_append, List.length_cons, setL]; rw [ih]
theorem fill_seq (m : Nat) : ∀ (vs : List Value) (k : Nat) (a c : List Value), szAll m vs = true → a.length = k * m → c.length = vs.length * m →
    fillL (fun i => some (i * m, m)) (a ++ c) (seqP k vs) = some (a ++ flatL vs)
  | [], k, a, c, _, _, hc => by
    have : c = [] := List.eq_nil_of_length_eq_zero (by simpa using hc)
    subst this; rfl
  | v :: vs, k, a, c, hs, ha, hc => by
    simp only [szAll, Bool.and_eq_true, Nat.beq_eq] at hs
    simp only [List.length_cons, Nat.add_mul, Nat.one_mul] at hc
    simp only [seqP, fillL]
    have hv : v.cells.toList.length = m := by simpa using hs.1
    obtain ⟨b, c', rfl, hb⟩ : ∃ b c', c = b ++ c' ∧ b.length = m := ⟨c.take m, c.drop m, (List.take_append_drop m c).symm, by simp; omega⟩
    have ht : (Nat.beq v.cells.size m && Nat.ble (k * m + m) (a ++ (b ++ c')).length) = true := by
      simp only [Bool.and_eq_true, Nat.beq_eq, Nat.ble_eq, List.length_append] at *
      omega
    rw [ht]
    simp only
    rw [← ha, setL_mid a b c' _ (by omega)]
    simp only [List.length_append] at hc
    have := fill_seq m vs (k + 1) (a ++ v.cells.toList) c' hs.2 (by rw [List.length_append, Nat.add_mul]; omega) (by omega)
    rw [List.append_assoc] at this
    rw [this, flatL, List.append_assoc]
/-- the places of a struct's fields -/
def PlF (P : Program) : List Field → List (Nat × Nat) → Prop
  | [], ps => ps = []
  | f :: fs, ps => ∃ n qs, ps = (f.offset, n) :: qs ∧ SizeF P f.type n ∧ PlF P fs qs
theorem PlF.n {P : Program} : PlF P [] [] := rfl
theorem PlF.c {P : Program} {fi : Field} {fs : List Field} {n : Nat} {qs : List (Nat × Nat)} (h : SizeF P fi.type n) (k : PlF P fs qs) : PlF P (fi :: fs) ((fi.offset, n) :: qs) := ⟨n, qs, rfl, h, k⟩
theorem PlF.run {P : Program} (W : World) : ∀ {fs : List Field} {ps : List (Nat × Nat)}, PlF P fs ps → (fs.mapM fun f => Functor.map (Prod.mk f.offset) (sizeOf f.type) : Sem _).run P W = .ok ps W
  | [], ps, h => by cases h; simp
  | f :: fs, ps, h => by
    obtain ⟨n, qs, rfl, hn, h⟩ := h
    simp [List.mapM_cons, hn W, PlF.run W h]
theorem bldS_r {fs : List Field} {z : Value} {ps : List (Nat × Operand)} {vs : List (Nat × Value)} {pl : List (Nat × Nat)} {cs : List Value} (hU : C.P.underlying T = some (.struct fs.toArray)) (hz : ZeroF C.P T z) (hp : PlF C.P fs pl)
    (ha : evp E ps = some vs) (hf' : fillL (pl[·]?) z.cells.toList vs = some cs) : RV C G L H E (.build T ps.toArray) (.agg cs.toArray) := fun d ty pos aft g a W hF _ => by
  have hf := fill_of hf'
  have h2 : (ps.toArray).map (fun (i, x) => (i, a.eval x)) = vs.toArray := by rw [List.map_toArray, evp_map hF ps vs ha]
  have h3 := hp.run W
  simp [execOp, h2, Instr.build, hz W, run_underlying hU, List.mapM_toArray, h3, hf]
theorem bldA_r {n e m : Nat} {z : Value} {ps : List (Nat × Operand)} {vs : List (Nat × Value)} {cs : List Value} (hU : C.P.underlying T = some (.array n e)) (hz : ZeroF C.P T z) (hp : SizeF C.P e m)
    (ha : evp E ps = some vs) (hf' : fillL (fun i => some (i * m, m)) z.cells.toList vs = some cs) : RV C G L H E (.build T ps.toArray) (.agg cs.toArray) := fun d ty pos aft g a W hF _ => by
  have hf := fill_of hf'
  have h2 : (ps.toArray).map (fun (i, x) => (i, a.eval x)) = vs.toArray := by rw [List.map_toArray, evp_map hF ps vs ha]
  simp [execOp, h2, Instr.build, hz W, run_underlying hU, hp W, hf]
theorem run_buildSlice {P : Program} {W : World} {a : Act} {n e m : Nat} {z : Value} {ps : List (Nat × Operand)} {vs : List (Nat × Value)} {cs : Array Value} (hU : P.underlying T = some (.slice e)) (hp : SizeF P e m) (hz : ZeroF P e z)
    (ha : ps.map (fun (i, x) => (i, a.eval x)) = vs) (h24 : Nat.ble (n * m) 16777216 = true) (hf : Instr.fill (fun i => some (i * m, m)) ((Array.range (n * m)).map (fun j => ((if n * m = 0 then #[] else z.cells)[j % (if n * m = 0 then #[] else z.cells).size]!))) vs = some cs) :
    (execOp a.eval ⟨some d, .buildSlice T n ps.toArray, ty, pos, aft, g⟩).run P W = .ok (.value (.slice (some ⟨W.heap.size, 0, none⟩) n n)) (W.alloc (.cells cs e (0, 0))) := by
  have h2 : (ps.toArray).map (fun (i, x) => (i, a.eval x)) = vs.toArray := by rw [List.map_toArray, ha]
  have h24' : ¬ (n * m > 2 ^ 24) := by have := Nat.le_of_ble_eq_true h24; omega
  by_cases h0 : n * m = 0
  · rw [if_pos h0] at hf
    simp [execOp, h2, Instr.buildSlice, run_underlying hU, hp W, newRow, newObj]
    rw [if_neg (by simpa using h24')]
    simp [h0] at hf ⊢
    simp [hf, Sem.run]
  · rw [if_neg h0] at hf
    simp only [execOp, h2, Instr.buildSlice, Sem.run_bind, run_underlying hU, hp W, Result.andThen, if_neg h24', if_neg h0, hz W, Sem.run_pure, hf, newRow, newObj]
    simp [Sem.run]
theorem range_len {α : Type} (n : Nat) (f : Nat → α) : ((Array.range n).map f).toList.length = n := by simp
theorem bslR {n e m : Nat} {z : Value} {ps : List (Nat × Operand)} {vs : List (Nat × Value)} (hU : C.P.underlying T = some (.slice e)) (hp : SizeF C.P e m) (hz : ZeroF C.P e z) (hw : wantE ops E g = some true) (hN : Nat.blt d C.N = true)
    (ha : evp E ps = some vs) (h24 : Nat.ble (n * m) 16777216 = true) (hs : vs = seqP 0 (vs.map (·.2))) (hl : vs.length = n) (hm : szAll m (vs.map (·.2)) = true)
    (k : ∀ (b : Nat) (w1 : World), w1.heap[b]? = some (.cells (flatL (vs.map (·.2))).toArray e (0, 0)) → Above L b → Off H b → ¬ G.X b → w1.heap.size = b + 1 → OJ C ops Q l ((d, .slice (some ⟨b, 0, none⟩) n n) :: E) D G (w1 :: L) H) :
    OJ C ops Q (⟨some d, .buildSlice T n ps.toArray, ty, pos, aft, g⟩ :: l) E D G L H :=
  OJ.go (by simp) hw hN fun a W hF hS => ⟨_, _, _, _, run_buildSlice hU hp hz (evp_map hF ps vs ha) h24 (fill_of (by
      have := fill_seq m (vs.map (·.2)) 0 [] ((Array.range (n * m)).map (fun j => ((if n * m = 0 then #[] else z.cells)[j % (if n * m = 0 then #[] else z.cells).size]!))).toList hm (by simp) (by rw [range_len, List.length_map, hl])
      rw [← hs, List.nil_append, List.nil_append] at this
      exact this)), (hS.step (below_alloc W _)).snap,
    k W.heap.size _ (heap_alloc_new W _) hS.sizes hS.offNew hS.mNew (by simp)⟩
/-- an element of an array value -/
theorem idxV_r {n e m : Nat} {K : IntKind} {i : Int} {cs : Array Value} {v : Value} (hU : C.P.underlying T = some (.array n e)) (hA : AggF C.P e false) (hZ : SizeF C.P e m) (hx : ev E x = some (.agg cs)) (hy : ev E y = some (.int K i))
    (h0 : 0 ≤ i) (h1 : i < n) (hv : cs[i.toNat * m]? = some v) : RV C G L H E (.index T x y) v := fun d ty pos aft g a W hF _ => by
  simp [execOp, hF.ev hx, hF.ev hy, Instr.index, asIntOf, run_underlying hU, h0, h1, hZ W, part, hA W, hv]
end
end Px
