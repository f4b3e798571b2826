/- Lent blocks, the comparison of structs and arrays, maps, slices of structs, what comes in. No condition beyond those that each theorem states. -/
import Derived.Test.YtjmmhdkjjmlnlaaGreatDoorXd
import Derived.RecoverIn
import Derived.Laws.StructEq
import Derived.ProofKit
import Derived.LaidMore
import Derived.OpenShut
import Derived.Stop.Joined
import Derived.Carry
import Derived.Deep.Slices
set_option linter.unusedSimpArgs false
set_option linter.unusedVariables false
set_option linter.unusedSectionVars false
namespace Px
open Go Go.RowKit
/-! ### deferred calls, and recover -/
def recStep (cs : List Frame) : Value × List Frame := match recoverD cs with | some p => p | none => (.nilIface, cs)
section
variable {P : Program} {N : Nat} {Q : Post} {E : Env} {D : List Deferred} {G : Gh} {L : List World} {H : Heap} {ops : Array Oper} {l : List Oper}
variable {ty f : Nat} {pos : String} {aft : Array Edge} {g : Option (Nat × Bool)} {x : Operand}
/-- 'defer f()' -/
theorem OJ.defer {cap : List Value} {tys : Array Nat} (hw : wantE ops E g = some true) (hx : ev E x = some (.func (.func f) #[] cap.toArray))
    (k : OJ ⟨P, none, N⟩ ops Q l E ({ target := .fn (.func f) cap.toArray, args := #[] } :: D) G L H) :
    OJ ⟨P, none, N⟩ ops Q (⟨none, .defer ⟨.value x, #[], tys⟩, ty, pos, aft, g⟩ :: l) E D G L H := by
  intro a W hN' hD hF hS
  unfold wpListIn
  rw [if_pos (want_of hF hw)]
  refine ⟨fun _ _ => trivial, ?_⟩
  have hr : (execOp a.eval ⟨none, .defer ⟨.value x, #[], tys⟩, ty, pos, aft, g⟩).run P W = .ok (.defer { target := .fn (.func f) cap.toArray, args := #[] }) W := by
    simp [execOp, resolve, hF.ev hx, Deferred.ofValue]
  dsimp only
  rw [Oper.semAt_none, hr, Oper.uponIn_defer]
  exact k _ W hN' (by simp [Act.put, hD]) (fun t v hv => hF t v hv) hS
end
end Px
namespace Px
open Go Go.RowKit
/-! ### several blocks that are lent -/
def keys (H : Heap) : List Nat := H.map (·.1)
def FrAll (G : Gh) (L : List World) : Heap → Prop
  | [] => True
  | p :: H => Fr G L p.1 ∧ FrAll G L H
theorem FrAll.mem {G : Gh} {L : List World} : ∀ {H : Heap}, FrAll G L H → ∀ p ∈ H, Fr G L p.1
  | [], _, p, hp => by cases hp
  | q :: H, h, p, hp => by
    rcases List.mem_cons.1 hp with rfl | hp
    · exact h.1
    · exact FrAll.mem h.2 p hp
/-- what a function does that is lent blocks -/
def RetZ {α : Type} (w : World) (Z : List Nat) (v : α → Value) (Hn : α → Heap) (Φ : α → Prop) : Ending → World → Prop := fun e w' =>
  ∃ x, e = .returned (v x) ∧ Keep (fun k => k ∈ Z) w w' ∧ Φ x ∧ (∀ p ∈ Hn x, w'.heap[p.1]? = some p.2 ∧ (p.1 ∈ Z ∨ w.heap.size ≤ p.1)) ∧ Dist (Hn x)
/-- own facts of a list -/
def OwnAll (w : World) : Heap → Prop
  | [] => True
  | p :: H => w.heap[p.1]? = some p.2 ∧ OwnAll w H
theorem OwnAll.mem {w : World} : ∀ {H : Heap}, OwnAll w H → ∀ p ∈ H, w.heap[p.1]? = some p.2
  | [], _, p, hp => by cases hp
  | q :: H, h, p, hp => by
    rcases List.mem_cons.1 hp with rfl | hp
    · exact h.1
    · exact OwnAll.mem h.2 p hp
def OverZ (Z : List Nat) (n : Nat) : Heap → Prop
  | [] => True
  | p :: H => (p.1 ∈ Z ∨ n ≤ p.1) ∧ OverZ Z n H
theorem OverZ.mem {Z : List Nat} {n : Nat} : ∀ {H : Heap}, OverZ Z n H → ∀ p ∈ H, p.1 ∈ Z ∨ n ≤ p.1
  | [], _, p, hp => by cases hp
  | q :: H, h, p, hp => by
    rcases List.mem_cons.1 hp with rfl | hp
    · exact h.1
    · exact OverZ.mem h.2 p hp
section
variable {C : Cx} {Q : Post} {E : Env} {D : List Deferred} {G : Gh} {L : List World} {H : Heap} {ops : Array Oper} {l : List Oper}
variable {d T ty f : Nat} {pos : String} {aft : Array Edge} {g : Option (Nat × Bool)} {x : Operand} {xs : List Operand} {vs : List Value} {tys : Array Nat} {fn : Func}
end
end Px
namespace Px
open Go Go.RowKit
/-! ### equality of plain data -/
inductive TK where | i | b | s
def eqV : Value → Value → Bool
  | .int _ a, .int _ b => a == b
  | .bool a, .bool b => a == b
  | .string a, .string b => a.toList == b.toList
  | _, _ => false
def smK : TK → Value → Value → Bool
  | .i, .int k _, .int k' _ => decide (k = k')
  | .b, .bool _, .bool _ => true
  | .s, .string _, .string _ => true
  | _, _, _ => false
def eqL : List Value → List Value → Bool
  | x :: xs, y :: ys => eqV x y && eqL xs ys
  | _, _ => true
def smT : List TK → List Value → List Value → Bool
  | k :: ks, x :: xs, y :: ys => smK k x y && smT ks xs ys
  | [], [], [] => true
  | _, _, _ => false
theorem smT_len : ∀ {ks : List TK} {xs ys : List Value}, smT ks xs ys = true → xs.length = ks.length ∧ ys.length = ks.length
  | [], [], [], _ => ⟨rfl, rfl⟩
  | k :: ks, x :: xs, y :: ys, h => by
    simp only [smT, Bool.and_eq_true] at h
    have := smT_len h.2
    simp [this.1, this.2]
  | [], _ :: _, _, h => by simp [smT] at h
  | [], [], _ :: _, h => by simp [smT] at h
  | _ :: _, [], _, h => by simp [smT] at h
  | _ :: _, _ :: _, [], h => by simp [smT] at h
theorem eqL_append : ∀ {a b c d : List Value}, a.length = c.length → eqL (a ++ b) (c ++ d) = (eqL a c && eqL b d)
  | [], b, [], d, _ => by simp [eqL]
  | x :: a, b, y :: c, d, h => by
    simp only [List.cons_append, eqL]
    rw [eqL_append (by simpa using h), Bool.and_assoc]
  | [], b, y :: c, d, h => by simp at h
  | x :: a, b, [], d, h => by simp at h
theorem smT_append : ∀ {k1 k2 : List TK} {a b c d : List Value}, a.length = k1.length → c.length = k1.length → smT (k1 ++ k2) (a ++ b) (c ++ d) = (smT k1 a c && smT k2 b d)
  | [], k2, [], b, [], d, _, _ => by simp [smT]
  | k :: k1, k2, x :: a, b, y :: c, d, h, h' => by
    simp only [List.cons_append, smT]
    rw [smT_append (by simpa using h) (by simpa using h'), Bool.and_assoc]
  | [], k2, x :: a, b, c, d, h, h' => by simp at h
  | [], k2, [], b, y :: c, d, h, h' => by simp at h'
  | k :: k1, k2, [], b, c, d, h, h' => by simp at h
  | k :: k1, k2, x :: a, b, [], d, h, h' => by simp at h'
def EqA (P : Program) (k t : Nat) (ks : List TK) : Prop := ∀ (d : Nat) (xs ys : List Value) (w : World), smT ks xs ys = true → (Op.equalIn (d + k) t (.agg xs.toArray) (.agg ys.toArray)).run P w = .ok (eqL xs ys) w
/-- a part at an offset: of xs the cells pre ++ cs ++ post -/
def EqP (P : Program) (k t : Nat) (ks : List TK) : Prop := ∀ (d : Nat) (p1 c1 q1 p2 c2 q2 : List Value) (w : World), p1.length = p2.length → smT ks c1 c2 = true →
  ∃ a b, (part t (p1 ++ (c1 ++ q1)).toArray p1.length).run P w = .ok a w ∧ (part t (p2 ++ (c2 ++ q2)).toArray p1.length).run P w = .ok b w ∧ (Op.equalIn (d + k) t a b).run P w = .ok (eqL c1 c2) w
theorem EqA.up {P : Program} {k k' t : Nat} {ks : List TK} (h : EqA P k t ks) (hk : k ≤ k') : EqA P k' t ks := fun d xs ys w h1 => by
  have := h (d + (k' - k)) xs ys w h1
  rwa [show d + (k' - k) + k = d + k' by omega] at this
theorem EqP.up {P : Program} {k k' t : Nat} {ks : List TK} (h : EqP P k t ks) (hk : k ≤ k') : EqP P k' t ks := fun d p1 c1 q1 p2 c2 q2 w h1 h2 => by
  have := h (d + (k' - k)) p1 c1 q1 p2 c2 q2 w h1 h2
  rwa [show d + (k' - k) + k = d + k' by omega] at this
theorem EqP.one {P : Program} {t : Nat} {k : TK} (hA : AggF P t false) (h : ∀ (d : Nat) (v u : Value) (w : World), smK k v u = true → (Op.equalIn (d + 1) t v u).run P w = .ok (eqV v u) w) : EqP P 1 t [k] := by
  intro d p1 c1 q1 p2 c2 q2 w h1 h2
  match c1, c2, h2 with
  | [v], [u], h2 =>
    simp only [smT, Bool.and_true] at h2
    refine ⟨v, u, by simp [part, hA w], by rw [h1]; simp [part, hA w], ?_⟩
    rw [h d v u w h2]
    simp [eqL]
  | [], _, h2 => simp [smT] at h2
  | [_], [], h2 => simp [smT] at h2
  | _ :: _ :: _, [], h2 => simp [smT] at h2
  | [_], _ :: _ :: _, h2 => simp [smT] at h2
  | _ :: _ :: _, _ :: _, h2 => simp [smT] at h2
theorem EqP.int {P : Program} {t : Nat} {K : IntKind} (hU : P.underlying t = some (.int K)) (hA : AggF P t false) : EqP P 1 t [.i] := EqP.one hA (by
  intro d v u w h
  cases v <;> cases u <;> simp only [smK, Bool.false_eq_true] at h
  rename_i k a k' b
  have : k = k' := by simpa using h
  subst this
  rw [run_equalIn_int w d t k K a b hU]; rfl)
theorem EqP.bool {P : Program} {t : Nat} (hU : P.underlying t = some .bool) (hA : AggF P t false) : EqP P 1 t [.b] := EqP.one hA (by
  intro d v u w h
  cases v <;> cases u <;> simp only [smK, Bool.false_eq_true] at h
  rw [run_equalIn_bool' w d t _ _ hU]; rfl)
theorem EqP.str {P : Program} {t : Nat} (hU : P.underlying t = some .string) (hA : AggF P t false) : EqP P 1 t [.s] := EqP.one hA (by
  intro d v u w h
  cases v <;> cases u <;> simp only [smK, Bool.false_eq_true] at h
  rw [run_equalIn_string w d t _ _ hU]; rfl)
theorem EqP.agg {P : Program} {k t n : Nat} {ks : List TK} (hA : AggF P t true) (hZ : SizeF P t n) (hn : ks.length = n) (h : EqA P k t ks) : EqP P k t ks := by
  intro d p1 c1 q1 p2 c2 q2 w h1 h2
  have hl := smT_len h2
  have cutp : ∀ (p c q : List Value), c.length = n → (p ++ (c ++ q)).toArray.extract p.length (p.length + n) = c.toArray := by
    intro p c q hc
    apply Array.ext'
    rw [Array.toList_extract, List.extract_eq_take_drop]
    simp only [Nat.add_sub_cancel_left]
    rw [List.drop_left' rfl, ← hc, List.take_left' rfl]
  refine ⟨.agg c1.toArray, .agg c2.toArray, ?_, ?_, h d c1 c2 w h2⟩
  · simp only [part, Sem.run_bind, hA w, hZ w, Result.andThen, if_true, Sem.run_pure]
    rw [cutp p1 c1 q1 (by omega)]
  · simp only [part, Sem.run_bind, hA w, hZ w, Result.andThen, if_true, Sem.run_pure]
    rw [h1, cutp p2 c2 q2 (by omega)]
/-- the fields of a struct, one after the other -/
def EqFs (P : Program) (k : Nat) : List Field → Nat → List TK → Prop
  | [], _, ks => ks = []
  | f :: fs, off, ks => ∃ k1 k2, ks = k1 ++ k2 ∧ f.offset = off ∧ (f.name ≠ "_") ∧ EqP P k f.type k1 ∧ EqFs P k fs (off + k1.length) k2
theorem EqFs.n {P : Program} {k off : Nat} : EqFs P k [] off [] := rfl
theorem EqFs.c {P : Program} {k off : Nat} {f : Field} {fs : List Field} {k1 k2 : List TK} (ho : f.offset = off) (hn : f.name ≠ "_") (h : EqP P k f.type k1) (t : EqFs P k fs (off + k1.length) k2) : EqFs P k (f :: fs) off (k1 ++ k2) := ⟨k1, k2, rfl, ho, hn, h, t⟩
theorem eqFs_run {P : Program} {k : Nat} (d : Nat) : ∀ (fs : List Field) (ks : List TK) (p1 c1 p2 c2 : List Value) (w : World), p1.length = p2.length → EqFs P k fs p1.length ks → smT ks c1 c2 = true →
    (Op.eqFields (d + k) (p1 ++ c1).toArray (p2 ++ c2).toArray fs).run P w = .ok (eqL c1 c2) w
  | [], ks, p1, c1, p2, c2, w, _, h, hs => by
    cases h
    match c1, c2, hs with
    | [], [], _ => simp [Op.eqFields, eqL]
    | _ :: _, _, hs => simp [smT] at hs
    | [], _ :: _, hs => simp [smT] at hs
  | f :: fs, ks, p1, c1, p2, c2, w, hp, h, hs => by
    obtain ⟨k1, k2, rfl, ho, hn, hf, ht⟩ := h
    have hl := smT_len hs
    simp only [List.length_append] at hl
    obtain ⟨a1, b1, rfl, ha1⟩ : ∃ a b, c1 = a ++ b ∧ a.length = k1.length := ⟨c1.take k1.length, c1.drop k1.length, (List.take_append_drop _ _).symm, by simp; omega⟩
    obtain ⟨a2, b2, rfl, ha2⟩ : ∃ a b, c2 = a ++ b ∧ a.length = k1.length := ⟨c2.take k1.length, c2.drop k1.length, (List.take_append_drop _ _).symm, by simp; omega⟩
    rw [smT_append ha1 ha2, Bool.and_eq_true] at hs
    obtain ⟨x, y, hx, hy, he⟩ := hf d p1 a1 b1 p2 a2 b2 w hp hs.1
    have ih := eqFs_run d fs k2 (p1 ++ a1) b1 (p2 ++ a2) b2 w (by simp [hp, ha1, ha2]) (by rw [List.length_append, ha1]; exact ht) hs.2
    simp only [List.append_assoc] at ih
    have hx' : (part f.type (p1 ++ (a1 ++ b1)).toArray f.offset).run P w = .ok x w := by rw [ho]; exact hx
    have hy' : (part f.type (p2 ++ (a2 ++ b2)).toArray f.offset).run P w = .ok y w := by rw [ho]; exact hy
    rw [eqL_append (by omega)]
    simp only [Op.eqFields, if_pos hn, Sem.run_bind, hx', hy', he, Result.andThen]
    cases hq : eqL a1 a2 with
    | false => simp [Sem.run]
    | true =>
      simp only [Bool.not_true, Bool.false_eq_true, if_false, Bool.true_and]
      exact ih
theorem EqA.struct {P : Program} {k t : Nat} {ks : List TK} {fs : List Field} (hU : P.underlying t = some (.struct fs.toArray)) (hp : P.stoodInHeld t = false) (h : EqFs P k fs 0 ks) : EqA P (k + 1) t ks := by
  intro d xs ys w hs
  have hf : P.fieldsOf t = fs.toArray := by simp [Program.fieldsOf, hU]
  rw [← Nat.add_assoc, run_equalIn_struct w (d + k) t xs.toArray ys.toArray (by rw [hf]; exact hU) hp, hf]
  exact eqFs_run d fs ks [] xs [] ys w rfl h hs
def repK : Nat → List TK → List TK
  | 0, _ => []
  | n + 1, ks => ks ++ repK n ks
theorem EqA.array {P : Program} {k t len e m : Nat} {ks : List TK} (hU : P.underlying t = some (.array len e)) (hZ : SizeF P e m) (hm : ks.length = m) (h : EqP P k e ks) : EqA P (k + 1) t (repK len ks) := by
  intro d xs ys w hs
  have key : ∀ (n i : Nat) (p1 c1 p2 c2 : List Value), p1.length = i * m → p2.length = i * m → smT (repK n ks) c1 c2 = true →
      (do
        for j in List.range' i n do
          if !(← Op.equalIn (d + k) e (← part e (p1 ++ c1).toArray (j * m)) (← part e (p2 ++ c2).toArray (j * m))) then return false
        pure true : Sem Bool).run P w = .ok (eqL c1 c2) w := by
    intro n
    induction n with
    | zero =>
      intro i p1 c1 p2 c2 _ _ hs
      match c1, c2, hs with
      | [], [], _ => simp [eqL]
      | _ :: _, _, hs => simp [repK, smT] at hs
      | [], _ :: _, hs => simp [repK, smT] at hs
    | succ n ih =>
      intro i p1 c1 p2 c2 hp1 hp2 hs
      have hl := smT_len hs
      simp only [repK, List.length_append] at hl
      obtain ⟨a1, b1, rfl, ha1⟩ : ∃ a b, c1 = a ++ b ∧ a.length = ks.length := ⟨c1.take ks.length, c1.drop ks.length, (List.take_append_drop _ _).symm, by simp; omega⟩
      obtain ⟨a2, b2, rfl, ha2⟩ : ∃ a b, c2 = a ++ b ∧ a.length = ks.length := ⟨c2.take ks.length, c2.drop ks.length, (List.take_append_drop _ _).symm, by simp; omega⟩
      simp only [repK] at hs
      rw [smT_append ha1 ha2, Bool.and_eq_true] at hs
      obtain ⟨x, y, hx, hy, he⟩ := h d p1 a1 b1 p2 a2 b2 w (by omega) hs.1
      rw [hp1] at hx hy
      have ih' := ih (i + 1) (p1 ++ a1) b1 (p2 ++ a2) b2 (by rw [List.length_append, hp1, ha1, hm, Nat.add_mul]; omega) (by rw [List.length_append, hp2, ha2, hm, Nat.add_mul]; omega) hs.2
      simp only [List.append_assoc] at ih'
      rw [eqL_append (by omega)]
      simp only [List.range'_succ, List.forIn_cons, Sem.run_bind, hx, hy, he, Result.andThen] at ih' ⊢
      cases hq : eqL a1 a2 with
      | false => simp [Sem.run]
      | true =>
        simp only [Bool.not_true, Bool.false_eq_true, if_false, Bool.true_and, Sem.run_pure]
        exact ih'
  have := key len 0 [] xs [] ys (by simp) (by simp) hs
  simp only [List.nil_append] at this
  rw [← Nat.add_assoc]
  simp only [Op.equalIn, Sem.run_bind, run_underlying hU, Result.andThen_ok, hZ w]
  rw [Std.Legacy.Range.forIn_eq_forIn_range'] 
  simpa [Std.Legacy.Range.size] using this
section
variable {C : Cx} {E : Env} {G : Gh} {L : List World} {H : Heap} {T U : Nat} {x y : Operand}
theorem neqA_r {k : Nat} {ks : List TK} {as bs : Array Value} (h : EqA C.P k T ks) (hk : Nat.ble k 10000 = true) (hg : C.P.eqGuardType C.P.depth T = false) (hx : ev E x = some (.agg as)) (hy : ev E y = some (.agg bs)) (hs : smT ks as.toList bs.toList = true) :
    RV C G L H E (.binOp .neq T x y U) (.bool (!eqL as.toList bs.toList)) := fun d ty pos aft g a W hF _ => by
  have h1 := h (10000 - k) as.toList bs.toList W hs
  rw [show 10000 - k + k = 10000 by have := Nat.le_of_ble_eq_true hk; omega] at h1
  simp only [Array.toArray_toList] at h1
  have h2 := run_neq_struct (P := C.P) W T as bs
  rw [h1] at h2
  have h3 := run_eqGuard_agg (P := C.P) W .neq T x y as bs hg
  simp only [execOp, hF.ev hx, hF.ev hy, Sem.run_bind, h3, h2, Result.andThen]
  rfl
end
end Px
namespace Px
open Go Go.RowKit
/-- an entry of a map whose keys are numbers -/
def ent (v : Value) (k : Int) (i : Nat) : MapEntry := { key := .int .i64 k, val := v, born := i }
def ents (v : Value) : List Int → Nat → List MapEntry
  | [], _ => []
  | k :: ks, i => ent v k i :: ents v ks (i + 1)
/-- a map that holds v at the keys ks, in the order in which they came -/
def mpO (v : Value) (ks : List Int) : Obj := .map (ents v ks 0).toArray ks.length
/-- a key is put in -/
def putK (ks : List Int) (k : Int) : List Int := if k ∈ ks then ks else ks ++ [k]
theorem ents_len (v : Value) : ∀ (ks : List Int) (i : Nat), (ents v ks i).length = ks.length
  | [], _ => rfl
  | _ :: ks, i => by simp [ents, ents_len v ks]
theorem ents_snoc (v : Value) (k : Int) : ∀ (ks : List Int) (i : Nat), ents v (ks ++ [k]) i = ents v ks i ++ [ent v k (i + ks.length)]
  | [], i => rfl
  | x :: ks, i => by simp [ents, ents_snoc v k ks, Nat.add_assoc, Nat.add_comm 1]
theorem findNow_no (v : Value) (k : Int) : ∀ (ks : List Int) (i j : Nat), k ∉ ks → Instr.findNow (.int .i64) (.int .i64 k) (ents v ks i) j = some none
  | [], _, _, _ => rfl
  | x :: ks, i, j, h => by
    have hx : (k == x) = false := by simp; exact fun e => h (by simp [e])
    simp only [ents, Instr.findNow, ent, Instr.sameNow, if_true, hx]
    exact findNow_no v k ks (i + 1) (j + 1) (fun hm => h (by simp [hm]))
theorem findNow_yes (v : Value) (k : Int) : ∀ (ks : List Int) (i j : Nat), k ∈ ks → ∃ m, Instr.findNow (.int .i64) (.int .i64 k) (ents v ks i) j = some (some (j + m, v)) ∧ (ents v ks i)[m]? = some (ent v k (i + m))
  | [], _, _, h => by simp at h
  | x :: ks, i, j, h => by
    by_cases hx : k = x
    · subst hx
      exact ⟨0, by simp [ents, Instr.findNow, ent, Instr.sameNow], by simp [ents]⟩
    · have hx' : (k == x) = false := by simpa using hx
      obtain ⟨m, h1, h2⟩ := findNow_yes v k ks (i + 1) (j + 1) (by simpa [hx] using h)
      refine ⟨m + 1, ?_, ?_⟩
      · simp only [ents, Instr.findNow, ent, Instr.sameNow, if_true, hx']
        rw [h1]; simp [Nat.add_assoc, Nat.add_comm 1]
      · simp only [ents, List.getElem?_cons_succ]; rw [h2]; simp [Nat.add_assoc, Nat.add_comm 1]
theorem run_findKey {P : Program} {W : World} {kt : Nat} (hK : P.underlying kt = some (.int .i64)) (v : Value) (k : Int) (ks : List Int) :
    ((Instr.findKey kt (.int .i64 k) (ents v ks 0)).run P W = .ok none W ∧ k ∉ ks) ∨ (∃ m, (Instr.findKey kt (.int .i64 k) (ents v ks 0)).run P W = .ok (some (m, v)) W ∧ k ∈ ks ∧ (ents v ks 0)[m]? = some (ent v k m)) := by
  by_cases h : k ∈ ks
  · obtain ⟨m, h1, h2⟩ := findNow_yes v k ks 0 0 h
    refine .inr ⟨m, ?_, h, by simpa using h2⟩
    simp [Instr.findKey, run_underlying hK, h1]
  · refine .inl ⟨?_, h⟩
    simp [Instr.findKey, run_underlying hK, findNow_no v k ks 0 0 h]
theorem run_checkKey {P : Program} {W : World} {kt : Nat} (hK : P.underlying kt = some (.int .i64)) (b : Bool) (k : Int) : (Instr.checkKey b 10000 kt (.int .i64 k)).run P W = .ok () W := by
  show (Instr.checkKey b (9999 + 1) kt (.int .i64 k)).run P W = .ok () W
  generalize 9999 = n
  simp [Instr.checkKey, run_underlying hK]
theorem run_getO {P : Program} {W : World} {b c : Nat} {es : Array MapEntry} (h : W.heap[b]? = some (.map es c)) : (getObj b).run P W = .ok (.map es c) W := by simp [getObj, Sem.run, h]
theorem run_setO {P : Program} {W : World} {b c : Nat} {es : Array MapEntry} (o' : Obj) (h : W.heap[b]? = some (.map es c)) : (setObj b o').run P W = .ok () (W.putObj b o') := by simp [setObj, Sem.run, h, World.putObj]
/-- a key is put in: nothing but the map turns -/
theorem run_mput {P : Program} {W : World} {T kt et b : Nat} {v : Value} {ks : List Int} (hU : P.underlying T = some (.map kt et)) (hK : P.underlying kt = some (.int .i64)) (hb : W.heap[b]? = some (mpO v ks)) (k : Int) :
    (Instr.mapUpdate T (.map (some b)) (.int .i64 k) v).run P W = .ok () (W.putObj b (mpO v (putK ks k))) := by
  have hb' : W.heap[b]? = some (.map (ents v ks 0).toArray ks.length) := hb
  rcases run_findKey (P := P) (W := W) hK v k ks with ⟨h1, h2⟩ | ⟨m, h1, h2, h3⟩
  · simp only [Instr.mapUpdate, Sem.run_bind, run_underlying hU, Result.andThen, run_getO hb', run_checkKey hK, h1, run_setO _ hb']
    congr 2
    unfold mpO putK
    rw [if_neg h2, ents_snoc]
    simp [ent]
  · have hm : m < (ents v ks 0).length := (List.getElem?_eq_some_iff.1 h3).1
    have hk : ((((ents v ks 0).toArray[m]?).map (·.key)).getD (.int .i64 k)) = .int .i64 k := by simp [h3, ent]
    have hs : Instr.sameBits 10000 (.int .i64 k) (.int .i64 k) = true := by
      show Instr.sameBits (9999 + 1) _ _ = true
      generalize 9999 = n
      simp [Instr.sameBits]
    simp only [Instr.mapUpdate, Sem.run_bind, run_underlying hU, Result.andThen, run_getO hb', run_checkKey hK, h1, hk, Instr.keyThatStays, hs, if_true, Sem.run_pure, run_setO _ hb']
    congr 2
    unfold mpO putK
    rw [if_pos h2]
    congr 1
    apply Array.ext'
    apply List.ext_getElem?
    intro i
    simp only [Array.toList_modify, List.getElem?_modify]
    by_cases hi : m = i
    · subst hi; rw [h3]; simp [ent]
    · simp [hi]
section
variable {C : Cx} {Q : Post} {E : Env} {D : List Deferred} {G : Gh} {L : List World} {H : Heap} {ops : Array Oper} {l : List Oper}
variable {d T ty : Nat} {pos : String} {aft : Array Edge} {g : Option (Nat × Bool)} {x y z : Operand}
/-- where a block lies as the walk knows it -/
def Lies (G : Gh) (L : List World) (H : Heap) (b : Nat) (o : Obj) : Prop := ∀ W, St G L H W → W.heap[b]? = some o
theorem Lies.own {i b : Nat} {o : Obj} (hi : H[i]? = some (b, o)) : Lies G L H b o := fun _ hS => hS.own _ (List.mem_of_getElem? hi)
theorem Lies.old {w : World} {b : Nat} {o : Obj} (hm : w ∈ L) (hb : w.heap[b]? = some o) (hG : ¬ G.X b) (hO : Off H b) : Lies G L H b o := fun _ hS => hS.old hm hb hG hO
theorem mlook_r {b kt et : Nat} {v zv : Value} {ks : List Int} {k : Int} (hU : C.P.underlying T = some (.map kt et)) (hK : C.P.underlying kt = some (.int .i64)) (hz : ZeroF C.P et zv) (hb : Lies G L H b (mpO v ks)) (hx : ev E x = some (.map (some b))) (hy : ev E y = some (.int .i64 k)) :
    RV C G L H E (.lookup T x y true) (.tuple #[if k ∈ ks then v else zv, .bool (decide (k ∈ ks))]) := fun d ty pos aft g a W hF hS => by
  have hb' : W.heap[b]? = some (.map (ents v ks 0).toArray ks.length) := hb W hS
  rcases run_findKey (P := C.P) (W := W) hK v k ks with ⟨h1, h2⟩ | ⟨m, h1, h2, _⟩
  · simp [execOp, hF.ev hx, hF.ev hy, Instr.lookup, run_underlying hU, run_getO hb', run_checkKey hK, h1, h2, hz W]
  · simp [execOp, hF.ev hx, hF.ev hy, Instr.lookup, run_underlying hU, run_getO hb', run_checkKey hK, h1, h2]
theorem mlen_r {b kt et t : Nat} {v : Value} {ks : List Int} (hU : C.P.underlying t = some (.map kt et)) (hb : Lies G L H b (mpO v ks)) (hx : ev E x = some (.map (some b))) :
    RV C G L H E (.call ⟨.builtin .len, #[x], #[t]⟩) (.int .i64 (ks.length : Int)) := fun d ty pos aft g a W hF hS => by
  have hb' : W.heap[b]? = some (.map (ents v ks 0).toArray ks.length) := hb W hS
  simp [execOp, hF.ev hx, resolve, invoke, Deferred.ofValue, builtin, Builtin.len_, run_underlying hU, goInt, run_getO hb', ents_len]
/-- a new map -/
theorem mkMW {v : Value} (hw : wantE ops E g = some true) (hN : Nat.blt d C.N = true)
    (k : ∀ (b : Nat), Above L b → Off H b → OJ C ops Q l ((d, .map (some b)) :: E) D G L ((b, mpO v []) :: H)) :
    OJ C ops Q (⟨some d, .makeMap T none, ty, pos, aft, g⟩ :: l) E D G L H :=
  OJ.go (by simp) hw hN fun a W _ hS => ⟨.map (some W.heap.size), W.alloc (mpO v []), _, _, by simp [execOp, Instr.makeMap, mpO, ents], hS.alloc _, k W.heap.size hS.sizes hS.offNew⟩
/-- a key is put into an own map -/
theorem mputW {i b kt et : Nat} {v : Value} {ks : List Int} {k : Int} (hi : H[i]? = some (b, mpO v ks)) (hU : C.P.underlying T = some (.map kt et)) (hK : C.P.underlying kt = some (.int .i64)) (hw : wantE ops E g = some true)
    (hx : ev E x = some (.map (some b))) (hy : ev E y = some (.int .i64 k)) (hz : ev E z = some v) (kk : OJ C ops Q l E D G L (H.set i (b, mpO v (putK ks k)))) :
    OJ C ops Q (⟨none, .mapUpdate T x y z, ty, pos, aft, g⟩ :: l) E D G L H :=
  OJ.run0 rfl (by simp) hw (fun a W hF hS => by
    have hb := hS.own _ (List.mem_of_getElem? hi)
    have hlt : b < W.heap.size := (Array.getElem?_eq_some_iff.1 hb).1
    refine ⟨.skip, _, .inl rfl, ?_, hS.put hi (keep_putObj W b _) (World.putObj_heap_same hlt)⟩
    simp [execOp, hF.ev hx, hF.ev hy, hF.ev hz, run_mput hU hK hb]) kk
end
end Px
namespace Px
open Go Go.RowKit
/-- the elements of a slice, of n cells each, in blocks below N -/
def SlAt {α : Type} (enc : α → Array Value) (n N : Nat) (w : World) (a : Option Addr) (xs : List α) : Prop :=
  xs = [] ∨ ∃ b off cs t fr, a = some ⟨b, off, none⟩ ∧ b < N ∧ w.heap[b]? = some (.cells cs t fr) ∧ ∀ i (h : i < xs.length), off + i * n + n ≤ cs.size ∧ cut cs (off + i * n) n = enc xs[i]
section
variable {α : Type} {enc : α → Array Value} {n N N' : Nat} {w w' : World} {a : Option Addr} {xs : List α}
theorem SlAt.up (h : SlAt enc n N w a xs) (hN : N ≤ N') (hw : ∀ k, k < N → w'.heap[k]? = w.heap[k]?) : SlAt enc n N' w' a xs := by
  rcases h with h | ⟨b, off, cs, t, fr, h1, h2, h3, h4⟩
  · exact .inl h
  · exact .inr ⟨b, off, cs, t, fr, h1, by omega, (hw b h2).trans h3, h4⟩
theorem SlAt.get (h : SlAt enc n N w a xs) (hx : 0 < xs.length) : ∃ b off cs t fr, a = some ⟨b, off, none⟩ ∧ b < N ∧ w.heap[b]? = some (.cells cs t fr) ∧ ∀ i (h : i < xs.length), off + i * n + n ≤ cs.size ∧ cut cs (off + i * n) n = enc xs[i] := by
  rcases h with rfl | h
  · simp at hx
  · exact h
/-- a whole block -/
theorem SlAt.block {b t : Nat} {fr : Nat × Nat} {cs : Array Value} (hb : b < N) (h : w.heap[b]? = some (.cells cs t fr)) (hx : ∀ i (h : i < xs.length), i * n + n ≤ cs.size ∧ cut cs (i * n) n = enc xs[i]) : SlAt enc n N w (some ⟨b, 0, none⟩) xs :=
  .inr ⟨b, 0, cs, t, fr, rfl, hb, h, fun i hi => by rw [Nat.zero_add]; exact hx i hi⟩
end
theorem cut_at {cs : Array Value} {k n : Nat} {r : Array Value} (h : cut cs k n = r) (j : Nat) (hj : j < n) : cs[k + j]? = r[j]? := by
  subst h
  unfold cut
  conv => rhs; rw [List.getElem?_toArray, List.getElem?_take_of_lt hj, List.getElem?_drop, Array.getElem?_toList]
section
variable {α : Type} {enc : α → Array Value} {n off : Nat} {cs : Array Value} {xs : List α}
/-- the k-th cell of the j-th element -/
theorem el_at (h : ∀ i (h : i < xs.length), off + i * n + n ≤ cs.size ∧ cut cs (off + i * n) n = enc xs[i]) {j : Nat} {x : α} (hj : xs[j]? = some x) {i : Int} (hi : i = (j : Int)) (k : Nat) (hk : k < n) : cs[off + i.toNat * n + k]? = (enc x)[k]? := by
  obtain ⟨h1, h2⟩ := List.getElem?_eq_some_iff.1 hj
  subst hi
  rw [Int.toNat_natCast, cut_at (h j h1).2 k hk, h2]
theorem el_at0 (h : ∀ i (h : i < xs.length), off + i * n + n ≤ cs.size ∧ cut cs (off + i * n) n = enc xs[i]) {j : Nat} {x : α} (hj : xs[j]? = some x) {i : Int} (hi : i = (j : Int)) (hn : 0 < n) : cs[off + i.toNat * n]? = (enc x)[0]? := by
  have := el_at h hj hi 0 hn
  rwa [Nat.add_zero] at this
theorem el_cut (h : ∀ i (h : i < xs.length), off + i * n + n ≤ cs.size ∧ cut cs (off + i * n) n = enc xs[i]) {j : Nat} {x : α} (hj : xs[j]? = some x) {i : Int} (hi : i = (j : Int)) : cut cs (off + i.toNat * n) n = enc x := by
  obtain ⟨h1, h2⟩ := List.getElem?_eq_some_iff.1 hj
  subst hi
  rw [Int.toNat_natCast, (h j h1).2, h2]
theorem el_size (h : ∀ i (h : i < xs.length), off + i * n + n ≤ cs.size ∧ cut cs (off + i * n) n = enc xs[i]) {j : Nat} {x : α} (hj : xs[j]? = some x) {i : Int} (hi : i = (j : Int)) : off + i.toNat * n + n ≤ cs.size := by
  obtain ⟨h1, _⟩ := List.getElem?_eq_some_iff.1 hj
  subst hi
  rw [Int.toNat_natCast]; exact (h j h1).1
end
/-- numbers -/
def encI (x : Int) : Array Value := #[.int .i64 x]
/-- the set of the numbers of a list, in the order in which they came -/
def setK (xs : List Int) : List Int := xs.foldl putK []
theorem setK_snoc (xs : List Int) (x : Int) : setK (xs ++ [x]) = putK (setK xs) x := by simp [setK, List.foldl_append]
theorem putK_mem (ks : List Int) (k x : Int) : x ∈ putK ks k ↔ x ∈ ks ∨ x = k := by
  unfold putK
  split
  · rename_i h
    constructor
    · exact .inl
    · rintro (h1 | rfl)
      · exact h1
      · exact h
  · simp
theorem setK_mem (xs : List Int) (x : Int) : x ∈ setK xs ↔ x ∈ xs := by
  have key : ∀ (l ks : List Int), x ∈ l.foldl putK ks ↔ x ∈ ks ∨ x ∈ l := by
    intro l
    induction l with
    | nil => intro ks; simp
    | cons y l ih => intro ks; rw [List.foldl_cons, ih, putK_mem]; simp [or_assoc]
  simpa [setK] using key xs []
theorem take_snoc {α : Type} {xs : List α} {j : Nat} {x : α} (h : xs[j]? = some x) : xs.take (j + 1) = xs.take j ++ [x] := by
  obtain ⟨h1, h2⟩ := List.getElem?_eq_some_iff.1 h
  rw [List.take_succ_eq_append_getElem h1, h2]
theorem get_of {α : Type} (xs : List α) (j : Nat) (h : j < xs.length) : ∃ x, xs[j]? = some x := ⟨_, List.getElem?_eq_getElem h⟩
theorem lt_of_get {α : Type} {xs : List α} {j : Nat} {x : α} (h : xs[j]? = some x) : j < xs.length := (List.getElem?_eq_some_iff.1 h).1
section
variable {C : Cx} {Q : Post} {fn : Func} {R : Ending → World → Prop} {E : Env} {D : List Deferred} {G : Gh} {L L' : List World} {H : Heap} {e : Exit}
theorem PJ.fewL (h : ∀ w ∈ L', w ∈ L) (k : PJ C Q e E D G L' H) : PJ C Q e E D G L H := fun a W hN hD hF hS => k a W hN hD hF (hS.lessL h)
/-- the end of a function that may have marks, where it has none -/
theorem retM0 {t : Nat} {v : Value} (he : e = .ret ∨ e = .normal) (hr : fn.results = #[.tmp t]) (hv : look E t = some v) (h : ∀ W, St G L H W → R (.returned v) W) : PJ C (bodyPostM (FW none) 0 C.P fn R) e E [] G L H := by
  intro a W hN hD hF hS
  have key : LeavesInM (FW none) 0 C.P fn a.tmps R a.defers .returning W := by
    rw [hD]
    exact ⟨v, by rw [results_tmp hr]; exact congrArg (fun u => Result.ok u W) (hF t v hv), h W hS⟩
  rcases he with rfl | rfl <;> exact key
end
/-- a key that is an array of numbers -/
theorem run_checkKeyD {P : Program} {W : World} {kt e n : Nat} {K : IntKind} {cs : Array Value} (hU : P.underlying kt = some (.array n e)) (hE : P.underlying e = some (.int K)) (hA : AggF P e false) (hZ : SizeF P e 1) (hs : ∀ i, i < n → ∃ v, cs[i]? = some (.int K v)) (b : Bool) :
    (Instr.checkKey b 10000 kt (.agg cs)).run P W = .ok () W := by
  show (Instr.checkKey b (9998 + 1 + 1) kt (.agg cs)).run P W = .ok () W
  generalize 9998 = d
  rw [Instr.checkKey]
  simp only [Sem.run_bind, run_underlying hU, Result.andThen_ok]
  simp only [Std.Legacy.Range.forIn_eq_forIn_range', Std.Legacy.Range.size, Nat.sub_zero, Nat.add_one_sub_one, Nat.div_one]
  have each : ∀ i ∈ List.range' 0 n, ∃ v, cs[i]? = some (.int K v) := fun i hi => hs i (by rw [List.mem_range'_1] at hi; omega)
  clear hs
  generalize List.range' 0 n = is at each
  induction is with
  | nil => simp
  | cons j is ih =>
    obtain ⟨v, hv⟩ := each j (by simp)
    have p1 : (part e cs (j * 1)).run P W = .ok (.int K v) W := by rw [Nat.mul_one]; simp [part, hA W, hv]
    have p2 : (Instr.checkKey b (d + 1) e (.int K v)).run P W = .ok () W := by simp [Instr.checkKey, run_underlying hE]
    simp only [List.forIn_cons, Sem.run_bind, hZ W, Result.andThen_ok, p1, p2, Sem.run_pure]
    exact ih (fun y hy => each y (by simp [hy]))
section
variable {C : Cx} {E : Env} {G : Gh} {L : List World} {H : Heap} {T : Nat} {x y : Operand}
/-- nothing is found in a map that holds nothing -/
theorem mlook0_r {b kt e n et c : Nat} {K : IntKind} {zv : Value} {cs : Array Value} (hU : C.P.underlying T = some (.map kt et)) (hK : C.P.underlying kt = some (.array n e)) (hE : C.P.underlying e = some (.int K)) (hA : AggF C.P e false) (hZ : SizeF C.P e 1) (hz : ZeroF C.P et zv) (hs : ∀ i, i < n → ∃ v, cs[i]? = some (.int K v)) (hb : Lies G L H b (.map #[] c)) (hx : ev E x = some (.map (some b))) (hy : ev E y = some (.agg cs)) :
    RV C G L H E (.lookup T x y true) (.tuple #[zv, .bool false]) := fun d ty pos aft g a W hF hS => by
  have hb' := hb W hS
  have h1 := run_checkKeyD (P := C.P) (W := W) hK hE hA hZ hs
  simp [execOp, hF.ev hx, hF.ev hy, Instr.lookup, run_underlying hU, run_getO hb', h1, Instr.findKey, run_underlying hK, Instr.findNow, hz W]
end
theorem eqlB_r {C : Cx} {E : Env} {G : Gh} {L : List World} {H : Heap} {T U : Nat} {x y : Operand} {a b : Bool} (hU : C.P.underlying T = some .bool) (hx : ev E x = some (.bool a)) (hy : ev E y = some (.bool b)) : RV C G L H E (.binOp .eql T x y U) (.bool (a == b)) := fun d ty pos aft g ac W hF _ => by
  have h1 : (Op.equalIn (9999 + 1) T (.bool a) (.bool b)).run C.P W = .ok (a == b) W := by
    generalize 9999 = n
    simp [Op.equalIn, run_underlying hU]
  have h2 : (binOp .eql T (.bool a) (.bool b)).run C.P W = .ok (.bool (a == b)) W := by
    have e : binOp .eql T (.bool a) (.bool b) = (do pure (.bool (← Op.equalIn (9999 + 1) T (.bool a) (.bool b)))) := rfl
    rw [e, Sem.run_bind, h1]
    rfl
  have h3 : (eqGuard .eql T x y (.bool a) (.bool b)).run C.P W = .ok () W := by simp [eqGuard]
  simp only [execOp, hF.ev hx, hF.ev hy, Sem.run_bind, h3, h2, Result.andThen]
  rfl
theorem len6 {α : Type} {l : List α} (h : l.length = 6) : ∃ a b c d e f, l = [a, b, c, d, e, f] := by
  match l, h with
  | [a, b, c, d, e, f], _ => exact ⟨a, b, c, d, e, f, rfl⟩
end Px
namespace Px
open Go Go.RowKit
/-! ### what comes in -/
theorem exists_list {α : Type} {p : Nat → α → Prop} : ∀ n, (∀ i, i < n → ∃ x, p i x) → ∃ xs : List α, xs.length = n ∧ ∀ i x, xs[i]? = some x → p i x
  | 0, _ => ⟨[], rfl, fun i x h => by simp at h⟩
  | n + 1, h => by
    obtain ⟨xs, h1, h2⟩ := exists_list n fun i hi => h i (by omega)
    obtain ⟨x, hx⟩ := h n (by omega)
    refine ⟨xs ++ [x], by simp [h1], fun i y hy => ?_⟩
    by_cases hi : i < xs.length
    · rw [List.getElem?_append_left hi] at hy; exact h2 i y hy
    · have e : i = n := by
        have := lt_of_get hy
        simp at this; omega
      subst e
      rw [List.getElem?_append_right (by omega), h1, Nat.sub_self] at hy
      obtain rfl : x = y := by simpa using hy
      exact hx
theorem cut_of {cs : Array Value} {k n : Nat} {r : List Value} (hn : 0 < n) (hr : r.length = n) (h : ∀ j, j < n → cs[k + j]? = r[j]?) : k + n ≤ cs.size ∧ cut cs k n = r.toArray := by
  constructor
  · have h1 := h (n - 1) (by omega)
    rw [List.getElem?_eq_getElem (by omega)] at h1
    have := (Array.getElem?_eq_some_iff.1 h1).1
    omega
  · unfold cut
    congr 1
    apply List.ext_getElem?
    intro i
    by_cases hi : i < n
    · rw [List.getElem?_take_of_lt hi, List.getElem?_drop, Array.getElem?_toList]; exact h i hi
    · rw [List.getElem?_take_eq_none (by omega), List.getElem?_eq_none (by omega)]
theorem cell_block {W : World} {b i : Nat} {v : Value} (h : W.cell? ⟨b, i, none⟩ = some v) : ∃ cs t fr, W.heap[b]? = some (.cells cs t fr) ∧ cs[i]? = some v := by
  unfold World.cell? at h
  cases hb : W.heap[b]? with
  | none => simp [hb] at h
  | some o =>
    cases o with
    | cells cs t fr => simp [hb] at h; exact ⟨cs, t, fr, rfl, h⟩
    | _ => simp [hb] at h
theorem add_plain' (b off n : Nat) : (⟨b, off, none⟩ : Addr).add n = ⟨b, off + n, none⟩ := add_lit b off n
theorem slAt_of {α : Type} {enc : α → Array Value} {n : Nat} (hn : 0 < n) {W : World} {a : Addr} {xs : List α} (h : ∀ i x, xs[i]? = some x → ∃ cs' : List Value, W.cells? 0 (a.add (i * n)) n = some cs' ∧ cs' = (enc x).toList) : SlAt enc n W.heap.size W (some a) xs := by
  rcases xs with _ | ⟨x0, xs⟩
  · exact .inl rfl
  · right
    obtain ⟨c0, h0, _⟩ := h 0 x0 rfl
    rw [Nat.zero_mul] at h0
    obtain ⟨_, hl0, hc0⟩ := World.cells?_some h0
    have e0 := hc0 0 hn
    rw [List.getElem?_eq_getElem (by omega)] at e0
    obtain ⟨b, off, spot⟩ := a
    have hs : spot = none := by simpa [Addr.add] using World.cell?_spot e0
    subst hs
    rw [add_plain', add_plain'] at e0
    obtain ⟨cs, t, fr, hb, _⟩ := cell_block e0
    refine ⟨b, off, cs, t, fr, rfl, (Array.getElem?_eq_some_iff.1 hb).1, hb, fun i hi => ?_⟩
    obtain ⟨c1, h1, e1⟩ := h i _ (List.getElem?_eq_getElem hi)
    rw [add_plain'] at h1
    obtain ⟨_, hl1, hc1⟩ := World.cells?_some h1
    have := cut_of (cs := cs) (k := off + i * n) (r := c1) hn hl1 (fun j hj => by
      have := hc1 j hj
      rw [add_plain', cell_at hb] at this
      exact this)
    refine ⟨this.1, ?_⟩
    rw [this.2, e1]
section
variable {H : Type} {enc : TypeId × Value → H} {P : Program} {w : World} {held : Bool}
/-- a slice that comes in, by what its elements are -/
theorem sl_in {α : Type} {el : α → Array Value} {n t e fuel : Nat} {cs : List Value} {x : DataW H × List MemPlace} (q : α → Prop) (hn : 0 < n) (ht : P.underlying t = some (.slice e)) (hc : P.cellsOf e = n) (h : DataW.trod enc P w 0 (fun _ => true) held fuel t cs = some x)
    (hel : ∀ cs' m y, cs'.length = n → DataW.trod enc P w 0 (fun _ => true) held m e cs' = some y → ∃ z, cs' = (el z).toList ∧ q z) :
    ∃ a xs cap, cs = [.slice a xs.length cap] ∧ SlAt el n w.heap.size w a xs ∧ (∀ z ∈ xs, q z) ∧ xs.length ≤ maxLen := by
  rcases Go.Deep.open_slice ht h with ⟨rfl, _⟩ | ⟨a, len, cap, m, nn, D, Pl, rfl, _, hl, hm, hmm, _, hx⟩
  · exact ⟨none, [], 0, rfl, .inl rfl, by simp, Nat.zero_le _⟩
  · have hlm : len ≤ m := by rw [hmm]; simpa using hl
    obtain ⟨xs, h1, h2⟩ := exists_list (p := fun i z => ∃ cs', w.cells? 0 (a.add (i * n)) n = some cs' ∧ cs' = (el z).toList ∧ q z) len (fun i hi => by
      obtain ⟨cs', g1, g2⟩ := hx i (by omega)
      rw [hc] at g1
      obtain ⟨z, g3, g4⟩ := hel cs' nn _ (World.cells?_some g1).2.1 g2
      exact ⟨z, cs', g1, g3, g4⟩)
    refine ⟨some a, xs, cap, by rw [h1], slAt_of hn (fun i z hz => ?_), fun z hz => ?_, by omega⟩
    · obtain ⟨cs', g1, g2, _⟩ := h2 i z hz
      exact ⟨cs', g1, g2⟩
    · obtain ⟨i, hi⟩ := List.getElem?_of_mem hz
      exact (h2 i z hi).choose_spec.2.2
/-- a field of one cell -/
theorem fld1 {cs : List Value} {i : Nat} {v : Value} (h : (cs.drop i).take 1 = [v]) : cs[i]? = some v := by
  have := congrArg (fun l => l[0]?) h
  simpa [List.getElem?_take, List.getElem?_drop] using this
theorem wfI {n : Int} (h : (Lit.int .i64 n).wf = true) : -9223372036854775808 ≤ n ∧ n ≤ 9223372036854775807 := bounds_i64 h
/-- an array of numbers that reads as these -/
theorem arr_ints {t e n fuel base : Nat} {spare : Nat → Bool} {k : IntKind} {cs : List Value} {ns : List Int} {ps : List MemPlace} (ht : P.underlying t = some (.array n e)) (he : P.underlying e = some (.int k)) (hc : P.cellsOf e = 1) (hn : P.cellsOf t = n)
    (h : DataW.trod enc P w base spare held fuel t cs = some (.agg (ns.map fun x => .lit (.int k x)), ps)) : cs = ns.map fun x => .int k x := by
  obtain ⟨xs, m, rfl, hx, hl, hxl, hel⟩ := DataW.trod_array ht h
  simp only [Prod.mk.injEq, DataW.agg.injEq] at hx
  have hlen : ns.length = n := by have := congrArg List.length hx.1; simpa [hxl] using this
  apply List.ext_getElem (by rw [hl, hn]; simp [hlen])
  intro i h1 h2
  have hi : i < n := by rw [hl, hn] at h1; exact h1
  have hi2 : i < ns.length := by omega
  have e1 := hel i hi
  rw [hc] at e1
  have hxi : i < xs.length := by omega
  rw [List.getElem?_eq_getElem hxi] at e1
  obtain ⟨q, e2, e3, _⟩ := DataW.trod_int he e1
  have e4 : (xs.map (·.1))[i]'(by simpa using hxi) = .lit (.int k q) := by simp [e3]
  have e5 : (xs.map (·.1))[i]'(by simpa using hxi) = .lit (.int k ns[i]) := by
    have : (xs.map (·.1)) = ns.map fun x => .lit (.int k x) := hx.1.symm
    simp only [this, List.getElem_map]
  rw [e4] at e5
  have e6 : q = ns[i] := by injection e5 with e7; injection e7
  subst e6
  have e8 : cs[i] = .int k ns[i] := by
    have := congrArg (fun l => l[0]?) e2
    simp [List.getElem?_take, List.getElem?_drop] at this
    rw [List.getElem?_eq_getElem h1] at this
    exact Option.some.inj this
  rw [e8, List.getElem_map]
/-- an array of 32 bytes that comes in -/
theorem bytes_in {t e fuel : Nat} {cs : List Value} {x : DataW H × List MemPlace} {spare : Nat → Bool} (ht : P.underlying t = some (.array 32 e)) (he : P.underlying e = some (.int .u8)) (hc : P.cellsOf e = 1) (hn : P.cellsOf t = 32) (h : DataW.trod enc P w 0 spare held fuel t cs = some x) : ∃ f : Nat → Int, cs.length = 32 ∧ ∀ i, i < 32 → cs[i]? = some (.int .u8 (f i)) := by
  obtain ⟨xs, m, rfl, hx, hl, hxl, hel⟩ := DataW.trod_array ht h
  have key : ∀ i, i < 32 → ∃ v, cs[i]? = some (.int .u8 v) := fun i hi => by
    have e1 := hel i hi
    rw [hc, Nat.mul_one, List.getElem?_eq_getElem (by omega)] at e1
    obtain ⟨q, e2, _⟩ := DataW.trod_int he e1
    exact ⟨q, fld1 e2⟩
  refine ⟨fun i => if hi : i < 32 then Classical.choose (key i hi) else 0, by rw [hl, hn], fun i hi => ?_⟩
  simp only [dif_pos hi]
  exact Classical.choose_spec (key i hi)
end
theorem arr_of {cs : Array Value} {l : List Value} (hs : cs.size = l.length) (h : ∀ i, i < l.length → cs[i]? = l[i]?) : cs = l.toArray := by
  apply Array.ext'
  apply List.ext_getElem?
  intro i
  rw [Array.getElem?_toList]
  by_cases hi : i < l.length
  · rw [h i hi]
  · rw [List.getElem?_eq_none (by simpa using hi), Array.getElem?_eq_none (by omega)]
end Px
