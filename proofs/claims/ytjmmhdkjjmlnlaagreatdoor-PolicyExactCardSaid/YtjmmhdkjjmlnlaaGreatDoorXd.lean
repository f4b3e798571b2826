/- Rows of bytes, coded values, calls: lemmas for the walks. No condition beyond those that each theorem states. -/
import Derived.Test.YtjmmhdkjjmlnlaaGreatDoorXc
import Derived.Laws.BytesArg
set_option linter.unusedSimpArgs false
set_option linter.unusedVariables false
set_option linter.unusedSectionVars false
namespace Px
open Go Go.RowKit
/-! ### rows of bytes -/
def ub (l : List UInt8) : List Value := l.map fun b => Value.int .u8 b.toNat
theorem ub_len (l : List UInt8) : (ub l).length = l.length := by simp [ub]
theorem ub_app (a b : List UInt8) : ub (a ++ b) = ub a ++ ub b := by simp [ub]
theorem ub_one (l : List UInt8) : ∀ u ∈ ub l, u.oneCell' = true := by
  intro u hu
  obtain ⟨i, _, rfl⟩ := List.mem_map.1 hu
  rfl
/-- the bytes of a list, as numbers -/
def fU (l : List UInt8) (i : Nat) : Int := ((l[i]?.getD 0).toNat : Int)
theorem ub_byts (l : List UInt8) : ub l = byts l.length (fU l) := by
  apply List.ext_getElem?
  intro i
  by_cases h : i < l.length
  · simp [ub, byts, fU, h]
  · rw [List.getElem?_eq_none (by rw [ub_len]; omega), List.getElem?_eq_none (by rw [byts_len]; omega)]
theorem ub_at (l : List UInt8) (sp : List Value) (i : Nat) (h : i < l.length) : ((ub l ++ sp).toArray)[0 + i]? = some (.int .u8 (fU l i)) := by
  rw [Nat.zero_add, List.getElem?_toArray, List.getElem?_append_left (by rw [ub_len]; exact h)]
  simp [ub, fU, h]
abbrev rowV (b n cap : Nat) : Value := .slice (some ⟨b, 0, none⟩) n cap
abbrev rowC (e : Nat) (xs : List UInt8) (sp : List Value) : Obj := .cells (ub xs ++ sp).toArray e (0, 0)
/-- a row's length, capacity and spare cells fit -/
structure RowOk (xs : List UInt8) (cap : Nat) (sp : List Value) : Prop where
  le : xs.length ≤ cap
  sp : sp.length = cap - xs.length
/-- a byte's type and that of its slices -/
structure ByteT (P : Program) (t e : Nat) : Prop where
  und : P.underlying t = some (.slice e)
  el : P.underlying e = some (.int .u8)
  info : ∃ ti, P.info? e = some ti ∧ ti.zero = some (.int .u8 0) ∧ ti.size = 1 ∧ ti.bytes = 1
  sz : SizeF P e 1
section
variable {G : Gh} {L : List World} {H : Heap} {W : World}
/-- an own block is left for a new one -/
theorem St.renewF (h : St G L H W) {i b : Nat} {o : Obj} (o' : Obj) (hi : H[i]? = some (b, o)) (ha : Fr G L b) : St G L (H.set i (W.heap.size, o')) (W.alloc o') := by
  have hil := (List.getElem?_eq_some_iff.1 hi).1
  have hp : H.Perm ((b, o) :: H.eraseIdx i) := perm_erase H i _ hi
  exact (((h.perm hp).dropF ha).alloc o').perm (perm_set H i _ hil).symm
theorem St.dropAtF (h : St G L H W) {i b : Nat} {o : Obj} (hi : H[i]? = some (b, o)) (ha : Fr G L b) : St G L (H.eraseIdx i) W :=
  (h.perm (perm_erase H i _ hi)).dropF ha
theorem Fr.new (h : St G L H W) : Fr G L W.heap.size := .inr h.sizes
theorem Fr.up (h : St G L H W) {b : Nat} (hb : W.heap.size ≤ b) : Fr G L b := .inr (Above.of_mem fun w hw => Nat.le_trans (h.links w hw).size hb)
theorem above_up (h : St G L H W) {b : Nat} (hb : W.heap.size ≤ b) : Above L b := Above.of_mem fun w hw => Nat.le_trans (h.links w hw).size hb
theorem off_up (h : St G L H W) {b : Nat} (hb : W.heap.size ≤ b) : Off H b := Off.of_mem fun hm => by
  obtain ⟨p, hp, e⟩ := List.mem_map.1 hm
  have := h.lt p hp
  omega
/-- an append to an own row (the i-th own block) -/
theorem St.app {P : Program} {i b e n len cap m t tx ty : Nat} {ti : TypeInfo} {z sv : Value} {ys sp news : List Value} (hS : St G L H W) (hi : H[i]? = some (b, .cells (ys ++ sp).toArray e (0, 0)))
    (hU : P.underlying t = some (.slice e)) (hti : P.info? e = some ti) (hz : ti.zero = some z) (hm : ti.size = m) (hzs : z.cells.size = m)
    (hsrc : Src P m tx sv n news W) (hlen : ys.length = len * m) (hsp : sp.length = (cap - len) * m) (hlc : len ≤ cap) (ha : Fr G L b)
    (h63 : len + n ≤ 9223372036854775807) (hbytes : (len + n) * ti.bytes ≤ 140737488355328) :
    ∃ b' cap' sp' W', (Builtin.append_ #[t, tx] ty #[.slice (some ⟨b, 0, none⟩) len cap, sv]).run P W = .ok (.slice (some ⟨b', 0, none⟩) (len + n) cap') W' ∧
      St G L (H.set i (b', .cells (ys ++ news ++ sp').toArray e (0, 0))) W' ∧ (b' = b ∨ W.heap.size ≤ b') ∧ len + n ≤ cap' ∧ sp'.length = (cap' - (len + n)) * m := by
  subst hm
  have hb := hS.own _ (List.mem_of_getElem? hi)
  have hnl := hsrc.newsLen
  by_cases hroom : len + n ≤ cap
  · have hle : (len + n) * ti.size ≤ cap * ti.size := Nat.mul_le_mul_right _ hroom
    have hsz : (ys ++ sp).toArray.size = cap * ti.size := by
      simp only [List.size_toArray, List.length_append, hlen, hsp]
      rw [← Nat.add_mul]; congr 1; omega
    rw [Nat.add_mul] at hle
    have hr := run_append_room_src (P := P) W t tx ty e ti hU hti b 0 len cap sv n news hsrc hroom
      (fun j hj => by rw [cell_at hb]; simp only [Nat.zero_add]; rw [Array.getElem?_eq_getElem (by omega)]; rfl)
      (fun j hj => by simp [World.frozen?, hb])
    obtain ⟨h1, h2⟩ := heap_setCells b news (0 + len * ti.size) W _ _ hb
    have hsp' : (sp.drop (n * ti.size)).length = (cap - (len + n)) * ti.size := by
      rw [List.length_drop, hsp, ← Nat.sub_mul]; congr 1; omega
    have hc : setCells (ys ++ sp).toArray (0 + len * ti.size) news = (ys ++ news ++ sp.drop (n * ti.size)).toArray := by
      apply Array.ext'
      rw [setCells_toList, Nat.zero_add, ← hlen]
      show setL (ys ++ sp) ys.length news = _
      have hspl : n * ti.size ≤ sp.length := by rw [hsp, ← hnl, hnl]; exact Nat.mul_le_mul_right _ (by omega)
      conv => lhs; rw [← List.take_append_drop (n * ti.size) sp]
      rw [setL_mid _ _ _ _ (by rw [List.length_take]; omega), List.append_assoc]
    rw [hc] at h2
    exact ⟨_, _, _, _, hr, hS.put hi h1 h2, .inl rfl, hroom, hsp'⟩
  · have hold : (Builtin.firstCells ti.size len (.slice (some ⟨b, 0, none⟩) len cap)).run P W.drew = .ok ys.toArray W.drew := by
      have hb' : W.drew.heap[b]? = some (.cells (ys ++ sp).toArray e (0, 0)) := hb
      rw [rd_at hb' (by simp only [List.size_toArray, List.length_append, hlen]; omega)]
      unfold cut
      simp only [List.drop_zero, ← hlen]
      rw [List.take_left' rfl]
    have hr := run_append_grow_src (P := P) W t tx ty e ti z hU hti hz (some ⟨b, 0, none⟩) len cap ys hold sv n news hsrc (by omega) (by omega) (growslice_fits (by omega) hbytes)
    have hg := grownCap_ge W (len + n) cap e
    have hS' := (hS.step (below_drawn W (W.drawn + 1))).renewF (.cells ((ys ++ news).toArray ++ Builtin.zeroCells z.cells (grownCap W (len + n) cap e - (len + n))) e (0, 0)) hi ha
    have hzl : (Builtin.zeroCells z.cells (grownCap W (len + n) cap e - (len + n))).toList.length = (grownCap W (len + n) cap e - (len + n)) * ti.size := by
      simp [Builtin.zeroCells, hzs]
    have hc : (ys ++ news).toArray ++ Builtin.zeroCells z.cells (grownCap W (len + n) cap e - (len + n)) = (ys ++ news ++ (Builtin.zeroCells z.cells (grownCap W (len + n) cap e - (len + n))).toList).toArray := by
      apply Array.ext'; simp
    rw [hc] at hS' hr
    exact ⟨_, _, _, _, hr, hS', .inr (Nat.le_refl _), hg, hzl⟩
/-- an append to nil -/
theorem St.appN {P : Program} {e n m t tx ty : Nat} {ti : TypeInfo} {z sv : Value} {news : List Value} (hS : St G L H W)
    (hU : P.underlying t = some (.slice e)) (hti : P.info? e = some ti) (hz : ti.zero = some z) (hm : ti.size = m) (hzs : z.cells.size = m)
    (hsrc : Src P m tx sv n news W) (h0 : 0 < n) (h63 : n ≤ 9223372036854775807) (hbytes : n * ti.bytes ≤ 140737488355328) :
    ∃ cap' sp' W', (Builtin.append_ #[t, tx] ty #[.slice none 0 0, sv]).run P W = .ok (.slice (some ⟨W.heap.size, 0, none⟩) n cap') W' ∧
      St G L ((W.heap.size, .cells (news ++ sp').toArray e (0, 0)) :: H) W' ∧ n ≤ cap' ∧ sp'.length = (cap' - n) * m := by
  subst hm
  have hold : (Builtin.firstCells ti.size 0 (.slice none 0 0)).run P W.drew = .ok ([] : List Value).toArray W.drew := by simp [Builtin.firstCells]
  have hr := run_append_grow_src (P := P) W t tx ty e ti z hU hti hz none 0 0 [] hold sv n news hsrc (by omega) (by omega) (growslice_fits (by omega) (by rw [Nat.zero_add]; exact hbytes))
  rw [Nat.zero_add] at hr
  have hg := grownCap_ge W n 0 e
  have hS' := (hS.step (below_drawn W (W.drawn + 1))).alloc (.cells (([] ++ news : List Value).toArray ++ Builtin.zeroCells z.cells (grownCap W n 0 e - n)) e (0, 0))
  have hc : ([] ++ news : List Value).toArray ++ Builtin.zeroCells z.cells (grownCap W n 0 e - n) = (news ++ (Builtin.zeroCells z.cells (grownCap W n 0 e - n)).toList).toArray := by
    apply Array.ext'; simp
  rw [hc] at hS' hr
  exact ⟨_, _, _, hr, hS', hg, by simp [Builtin.zeroCells, hzs]⟩
end
section
variable {C : Cx} {Q : Post} {E : Env} {D : List Deferred} {G : Gh} {L : List World} {H : Heap} {ops : Array Oper} {l : List Oper}
variable {d T ty f : Nat} {pos : String} {aft : Array Edge} {g : Option (Nat × Bool)} {x y : Operand} {xs : List Operand} {vs : List Value} {tys : Array Nat}
/-- bytes that are read -/
def SrcB (C : Cx) (G : Gh) (L : List World) (H : Heap) (tx : Nat) (sv : Value) (zs : List UInt8) : Prop := SrcJ C G L H 1 tx sv zs.length (ub zs)
theorem SrcB.own {tx e' i b c t : Nat} {zs : List UInt8} {sp : List Value} {fr : Nat × Nat} (hU : C.P.underlying tx = some (.slice e')) (hi : H[i]? = some (b, .cells (ub zs ++ sp).toArray t fr)) : SrcB C G L H tx (rowV b zs.length c) zs :=
  SrcJ.sl hU (Rd.own hi (by simp only [List.size_toArray, List.length_append, ub_len]; omega) (by simp only [List.drop_zero, Nat.mul_one]; rw [← ub_len zs, List.take_left' rfl])) (by rw [ub_len, Nat.mul_one]) (ub_one _)
theorem SrcB.old {tx e' b c t : Nat} {zs : List UInt8} {sp : List Value} {fr : Nat × Nat} {w1 : World} (hU : C.P.underlying tx = some (.slice e')) (hm : w1 ∈ L) (hb : w1.heap[b]? = some (.cells (ub zs ++ sp).toArray t fr)) (hG : ¬ G.X b) (hO : Off H b) : SrcB C G L H tx (rowV b zs.length c) zs :=
  SrcJ.sl hU (Rd.old hm hb hG hO (by simp only [List.size_toArray, List.length_append, ub_len]; omega) (by simp only [List.drop_zero, Nat.mul_one]; rw [← ub_len zs, List.take_left' rfl])) (by rw [ub_len, Nat.mul_one]) (ub_one _)
theorem SrcB.str {tx : Nat} {s : ByteArray} (hU : C.P.underlying tx = some .string) : SrcB C G L H tx (.string s) s.data.toList :=
  ⟨.inr hU, fun _ => rfl, Rd.str, by rw [ub_len, Nat.mul_one], ub_one _⟩
/-- append to an own row of bytes (the i-th own block) -/
theorem apB {i b e cap t tx : Nat} {sv : Value} {xs zs : List UInt8} {sp : List Value} (hi : H[i]? = some (b, rowC e xs sp)) (hB : ByteT C.P t e) (hw : wantE ops E g = some true) (hN : Nat.blt d C.N = true)
    (hx : ev E x = some (rowV b xs.length cap)) (hy : ev E y = some sv) (hs : SrcB C G L H tx sv zs) (hr : RowOk xs cap sp) (ha : Fr G L b) (hlim : xs.length + zs.length ≤ 1000000000000)
    (k : ∀ (b' cap' : Nat) (sp' : List Value), Fr G L b' → RowOk (xs ++ zs) cap' sp' → OJ C ops Q l ((d, rowV b' (xs ++ zs).length cap') :: E) D G L (H.set i (b', rowC e (xs ++ zs) sp'))) :
    OJ C ops Q (⟨some d, .call ⟨.builtin .append, #[x, y], #[t, tx]⟩, ty, pos, aft, g⟩ :: l) E D G L H :=
  OJ.go (by simp) hw hN fun a W hF hS => by
    obtain ⟨ti, hti, hz, hsz, hby⟩ := hB.info
    obtain ⟨b', cap', sp', W', hrun, hS', hb', hc', hsp'⟩ := hS.app (P := C.P) (ty := ty) hi hB.und hti hz hsz rfl (hs.src hS) (by rw [ub_len, Nat.mul_one]) (by rw [hr.sp, Nat.mul_one]) hr.le ha (by omega) (by rw [hby]; omega)
    have hFr : Fr G L b' := by
      rcases hb' with rfl | hb'
      · exact ha
      · exact Fr.up hS hb'
    have hl : (xs ++ zs).length = xs.length + zs.length := List.length_append
    refine ⟨.slice (some ⟨b', 0, none⟩) (xs.length + zs.length) cap', W', L, _, ?_, hS', ?_⟩
    · simp [execOp, hF.ev hx, hF.ev hy, resolve, invoke, Deferred.ofValue, builtin, hrun]
    · have := k b' cap' sp' hFr ⟨by rw [hl]; exact hc', by rw [hl, hsp', Nat.mul_one]⟩
      rw [hl] at this
      simpa only [rowC, ub_app] using this
/-- append to nil: a new own row -/
theorem apN {e t tx : Nat} {sv : Value} {zs : List UInt8} (hB : ByteT C.P t e) (hw : wantE ops E g = some true) (hN : Nat.blt d C.N = true)
    (hx : ev E x = some (.slice none 0 0)) (hy : ev E y = some sv) (hs : SrcB C G L H tx sv zs) (h0 : 0 < zs.length) (hlim : zs.length ≤ 1000000000000)
    (k : ∀ (b' cap' : Nat) (sp' : List Value), Above L b' → Off H b' → ¬ G.X b' → RowOk zs cap' sp' → OJ C ops Q l ((d, rowV b' zs.length cap') :: E) D G L ((b', rowC e zs sp') :: H)) :
    OJ C ops Q (⟨some d, .call ⟨.builtin .append, #[x, y], #[t, tx]⟩, ty, pos, aft, g⟩ :: l) E D G L H :=
  OJ.go (by simp) hw hN fun a W hF hS => by
    obtain ⟨ti, hti, hz, hsz, hby⟩ := hB.info
    obtain ⟨cap', sp', W', hrun, hS', hc', hsp'⟩ := hS.appN (P := C.P) (ty := ty) hB.und hti hz hsz rfl (hs.src hS) h0 (by omega) (by rw [hby]; omega)
    refine ⟨.slice (some ⟨W.heap.size, 0, none⟩) zs.length cap', W', L, _, ?_, hS', k W.heap.size cap' sp' hS.sizes hS.offNew hS.mNew ⟨hc', by rw [hsp', Nat.mul_one]⟩⟩
    simp [execOp, hF.ev hx, hF.ev hy, resolve, invoke, Deferred.ofValue, builtin, hrun]
/-! #### functions that are lent a row and give one back -/
def RetRow (w : World) (b e : Nat) (ys : List UInt8) : Ending → World → Prop := fun ed w' =>
  ∃ b' cap' sp', ed = .returned (rowV b' ys.length cap') ∧ Keep (· = b) w w' ∧ (b' = b ∨ w.heap.size ≤ b') ∧ RowOk ys cap' sp' ∧ w'.heap[b']? = some (rowC e ys sp')
/-- .. a new row -/
def RetNew (w : World) (e : Nat) (ys : List UInt8) : Ending → World → Prop := fun ed w' =>
  ∃ b' cap' sp', ed = .returned (rowV b' ys.length cap') ∧ Below w.heap.size w w' ∧ w.heap.size ≤ b' ∧ RowOk ys cap' sp' ∧ w'.heap[b']? = some (rowC e ys sp')
theorem st_lent {w : World} {b : Nat} {o : Obj} (h : w.heap[b]? = some o) : St (Gh.lent (· = b)) [w] [(b, o)] w where
  ghost := trivial
  vlt := fun _ h => h.elim
  xlt := fun k hk => by
    have : k = b := hk
    subst this; exact (Array.getElem?_eq_some_iff.1 h).1
  links := fun w' hw => by simp at hw; subst hw; exact Keep.refl _ _
  own := fun p hp => by simp at hp; subst hp; exact h
  nodup := fun i j p q hi hj _ => by
    have h1 := (List.getElem?_eq_some_iff.1 hi).1
    have h2 := (List.getElem?_eq_some_iff.1 hj).1
    simp at h1 h2; omega
  apart := fun _ _ h => h.elim
/-- own blocks that are lent, or over a number -/
def OverX (Z : Nat → Prop) (n : Nat) : Heap → Prop
  | [] => True
  | p :: H => (Z p.1 ∨ n ≤ p.1) ∧ OverX Z n H
theorem OverX.mem {Z : Nat → Prop} {n : Nat} {H : Heap} (h : OverX Z n H) : ∀ p ∈ H, Z p.1 ∨ n ≤ p.1 := by
  induction H with
  | nil => intro p hp; simp at hp
  | cons q H ih =>
    intro p hp
    simp only [List.mem_cons] at hp
    rcases hp with rfl | hp
    · exact h.1
    · exact ih h.2 p hp
theorem St.baseX {Z : Nat → Prop} {w W : World} (h : St (Gh.lent Z) L H W) (hw : w ∈ L) (ho : OverX Z w.heap.size H) : Keep Z w W :=
  (h.links w hw).mono fun k hk hx => by
    rcases hx with hx | hx
    · exact hx
    · obtain ⟨p, hp, rfl⟩ := List.mem_map.1 hx
      rcases ho.mem p hp with h | h
      · exact h
      · omega
section
variable {fn : Func}
theorem retRow {t i b b' e cap' : Nat} {ys : List UInt8} {sp' : List Value} {w : World} {ex : Exit} (he : ex = .ret ∨ ex = .normal) (hr : fn.results = #[.tmp t]) (hv : look E t = some (rowV b' ys.length cap')) (hi : H[i]? = some (b', rowC e ys sp')) (hw : w ∈ L)
    (ho : OverX (· = b) w.heap.size H) (hk : RowOk ys cap' sp') : PJ C (bodyPost C.P fn (RetRow w b e ys)) ex E [] (Gh.lent (· = b)) L H :=
  retG he (rs := [.tmp t]) hr (RS.t hv RS.n) fun W hS => ⟨b', cap', sp', rfl, hS.baseX hw ho, ho.mem _ (List.mem_of_getElem? hi), hk, hS.own _ (List.mem_of_getElem? hi)⟩
theorem retNew {t i b' e cap' : Nat} {ys : List UInt8} {sp' : List Value} {w : World} {ex : Exit} (he : ex = .ret ∨ ex = .normal) (hr : fn.results = #[.tmp t]) (hv : look E t = some (rowV b' ys.length cap')) (hi : H[i]? = some (b', rowC e ys sp')) (hw : w ∈ L)
    (ho : Over w.heap.size H) (hk : RowOk ys cap' sp') : PJ C (bodyPost C.P fn (RetNew w e ys)) ex E [] Gh.no L H :=
  retG he (rs := [.tmp t]) hr (RS.t hv RS.n) fun W hS => ⟨b', cap', sp', rfl, hS.base hw ho, ho.mem _ (List.mem_of_getElem? hi), hk, hS.own _ (List.mem_of_getElem? hi)⟩
end
/-- a call that is lent an own row (the i-th) -/
theorem callR {i b e : Nat} {o : Obj} {ys : List UInt8} {first cap : List Value} (hi : H[i]? = some (b, o)) (hx : ev E x = some (.func (.func f) first.toArray cap.toArray)) (hent : Ent C.P f) (hw : wantE ops E g = some true) (hN : Nat.blt d C.N = true) (ha : evs E xs = some vs) (hF : Fr G L b)
    (hc : ∀ W, St G L H W → W.heap[b]? = some o → Calls C.P f (first ++ vs ++ cap).toArray W (RetRow W b e ys))
    (k : ∀ b' cap' sp', Fr G L b' → RowOk ys cap' sp' → OJ C ops Q l ((d, rowV b' ys.length cap') :: E) D G L (H.set i (b', rowC e ys sp'))) :
    OJ C ops Q (⟨some d, .call ⟨.value x, xs.toArray, tys⟩, ty, pos, aft, g⟩ :: l) E D G L H :=
  call_gen rfl hw hx ha (by simp) hent fun a W hN' hD hF' hS => (hc W hS (hS.own _ (List.mem_of_getElem? hi))).mono (by
    rintro ed W' ⟨b', cap', sp', rfl, hk, hb', hr, hat⟩
    have hgo := fun hFr hS' => k b' cap' sp' hFr hr (a.put (some d) (rowV b' ys.length cap')) W' (by simp [Act.put, hN']) (by simp [Act.put, hD]) (hF'.put _ (by rw [hN']; exact lt_of hN)) hS'
    rcases hb' with rfl | hb'
    · exact hgo hF (hS.put hi hk hat)
    · refine hgo (Fr.up hS hb') ?_
      have hbl := (Array.getElem?_eq_some_iff.1 (hS.own _ (List.mem_of_getElem? hi))).1
      obtain ⟨ob, hob⟩ : ∃ ob, W'.heap[b]? = some ob := ⟨W'.heap[b]'(Nat.lt_of_lt_of_le hbl hk.size), Array.getElem?_eq_getElem _⟩
      have h1 := hS.put hi hk hob
      have hil := (List.getElem?_eq_some_iff.1 hi).1
      have h2 : (H.set i (b, ob))[i]? = some (b, ob) := by rw [List.getElem?_set_self hil]
      have h3 := (h1.perm (perm_erase _ _ _ h2)).dropF hF
      have hse : (H.set i (b, ob)).eraseIdx i = H.eraseIdx i := by rw [List.eraseIdx_set_eq]
      rw [hse] at h3
      have hoff : Off (H.eraseIdx i) b' := Off.of_mem fun hm => by
        obtain ⟨p, hp, e⟩ := List.mem_map.1 hm
        have := hS.lt p (List.mem_of_mem_eraseIdx hp)
        omega
      have h4 := h3.adopt hat hoff (fun hv => by have := hS.vlt _ hv; omega)
      exact h4.perm (perm_set H i _ hil).symm)
theorem OJ.dropF {i b : Nat} {o : Obj} (hi : H[i]? = some (b, o)) (ha : Fr G L b) (k : OJ C ops Q l E D G L (H.eraseIdx i)) : OJ C ops Q l E D G L H := fun a W hN hD hF hS => k a W hN hD hF (hS.dropAtF hi ha)
theorem CJ.dropF {c : Code} {i b : Nat} {o : Obj} (hi : H[i]? = some (b, o)) (ha : Fr G L b) (k : CJ C c Q E D G L (H.eraseIdx i)) : CJ C c Q E D G L H := fun a W hN hD hF hS => k a W hN hD hF (hS.dropAtF hi ha)
theorem PJ.dropF {e' : Exit} {i b : Nat} {o : Obj} (hi : H[i]? = some (b, o)) (ha : Fr G L b) (k : PJ C Q e' E D G L (H.eraseIdx i)) : PJ C Q e' E D G L H := fun a W hN hD hF hS => k a W hN hD hF (hS.dropAtF hi ha)
/-- a slice literal of bytes: an own row -/
theorem bsB {n e : Nat} {z : Value} {ps : List (Nat × Operand)} {vs : List (Nat × Value)} (zs : List UInt8) (hB : ByteT C.P T e) (hz : ZeroF C.P e z) (hw : wantE ops E g = some true) (hN : Nat.blt d C.N = true)
    (ha : evp E ps = some vs) (h24 : Nat.ble (n * 1) 16777216 = true) (hs : vs = seqP 0 (vs.map (·.2))) (hl : vs.length = n) (hm : szAll 1 (vs.map (·.2)) = true) (hzs : flatL (vs.map (·.2)) = ub zs) (hn : n = zs.length)
    (k : ∀ (b : Nat), Above L b → Off H b → ¬ G.X b → RowOk zs n [] → OJ C ops Q l ((d, rowV b zs.length n) :: E) D G L ((b, rowC e zs []) :: H)) :
    OJ C ops Q (⟨some d, .buildSlice T n ps.toArray, ty, pos, aft, g⟩ :: l) E D G L H :=
  OJ.go (by simp) hw hN fun a W hF hS => ⟨_, _, _, _, run_buildSlice hB.und hB.sz hz (evp_map hF ps vs ha) h24 (fill_of (by
      have := fill_seq 1 (vs.map (·.2)) 0 [] ((Array.range (n * 1)).map (fun j => ((if n * 1 = 0 then #[] else z.cells)[j % (if n * 1 = 0 then #[] else z.cells).size]!))).toList hm (by simp) (by rw [range_len, List.length_map, hl])
      rw [← hs, List.nil_append, List.nil_append] at this
      exact this)), hS.alloc _, by
        have := k W.heap.size hS.sizes hS.offNew hS.mNew ⟨by omega, by simp; omega⟩
        rw [hzs]
        simp only [rowC, List.append_nil] at this
        rw [← hn] at this
        exact this⟩
end
end Px
namespace Px
open Go Go.RowKit
/-! ### values of the codec -/
inductive V where
  | int (n : Int)
  | text (s : ByteArray)
  | list (l : List V)
theorem V.ind {p : V → Prop} (h1 : ∀ n, p (.int n)) (h2 : ∀ s, p (.text s)) (h3 : ∀ l, (∀ y ∈ l, p y) → p (.list l)) : ∀ x, p x := by
  intro x
  exact V.rec (motive_1 := p) (motive_2 := fun l => ∀ y ∈ l, p y) h1 h2 h3 (by simp) (fun x l hx hl y hy => by
    rcases List.mem_cons.1 hy with rfl | hy
    · exact hx
    · exact hl y hy) x
def V.kind : V → Int
  | .int _ => 1
  | .text _ => 2
  | .list _ => 3
/-- the numeral of a number -/
def num (u : Nat) : List UInt8 := if h : u < 128 then [UInt8.ofNat u] else UInt8.ofNat (u % 128 + 128) :: num (u / 128)
termination_by u
decreasing_by omega
theorem num_lt {u : Nat} (h : u < 128) : num u = [UInt8.ofNat u] := by rw [num, dif_pos h]
theorem num_ge {u : Nat} (h : ¬ u < 128) : num u = UInt8.ofNat (u % 128 + 128) :: num (u / 128) := by rw [num, dif_neg h]
theorem num_pos (u : Nat) : 0 < (num u).length := by
  by_cases h : u < 128
  · rw [num_lt h]; simp
  · rw [num_ge h]; simp
theorem num_len : ∀ (k u : Nat), u < 128 ^ k → 0 < k → (num u).length ≤ k
  | 0, _, _, h => by omega
  | k + 1, u, hu, _ => by
    by_cases h : u < 128
    · rw [num_lt h]; simp
    · rw [num_ge h]
      simp only [List.length_cons]
      cases k with
      | zero => simp at hu; omega
      | succ k =>
        have h2 : u / 128 < 128 ^ (k + 1) := Nat.div_lt_of_lt_mul (by rw [Nat.pow_succ, Nat.mul_comm] at hu; exact hu)
        have := num_len (k + 1) (u / 128) h2 (by omega)
        omega
theorem num_len10 {u : Nat} (h : u < 18446744073709551616) : (num u).length ≤ 10 := num_len 10 u (Nat.lt_of_lt_of_le h (by decide)) (by omega)
/-- the unsigned form of an integer -/
def zig (n : Int) : Nat := if 0 ≤ n then (2 * n).toNat else (-2 * n - 1).toNat
mutual
def V.enc : V → List UInt8
  | .int n => 1 :: num (zig n)
  | .text s => 2 :: (num s.size ++ s.data.toList)
  | .list l => 3 :: (num l.length ++ V.encL l)
def V.encL : List V → List UInt8
  | [] => []
  | x :: l => V.enc x ++ V.encL l
end
mutual
def V.depth : V → Nat
  | .int _ => 0
  | .text _ => 0
  | .list l => V.depthL l + 1
def V.depthL : List V → Nat
  | [] => 0
  | x :: l => max (V.depth x) (V.depthL l)
end
theorem V.depthL_snoc (l : List V) (x : V) : V.depthL (l ++ [x]) = max (V.depthL l) x.depth := by
  induction l with
  | nil => simp [V.depthL]
  | cons y l ih => simp only [List.cons_append, V.depthL, ih]; omega
theorem V.depthL_take (l : List V) (i : Nat) (h : i < l.length) : V.depthL (l.take (i + 1)) = max (V.depthL (l.take i)) (l[i]).depth := by
  rw [List.take_succ_eq_append_getElem h, V.depthL_snoc]
mutual
/-- the numbers are of the machine, the lists short -/
def V.fine : V → Prop
  | .int n => -9223372036854775808 ≤ n ∧ n ≤ 9223372036854775807
  | .text s => s.size ≤ 1000000000
  | .list l => l.length ≤ 1000000000 ∧ V.depthL l ≤ 1000000000 ∧ V.fineL l
def V.fineL : List V → Prop
  | [] => True
  | x :: l => V.fine x ∧ V.fineL l
end
theorem V.fineL_mem : ∀ {l : List V}, V.fineL l → ∀ x ∈ l, x.fine
  | [], _, x, hx => by cases hx
  | y :: l, h, x, hx => by
    simp only [V.fineL] at h
    rcases List.mem_cons.1 hx with rfl | hx
    · exact h.1
    · exact V.fineL_mem h.2 x hx
theorem V.depthL_mem : ∀ {l : List V} (x : V), x ∈ l → x.depth ≤ V.depthL l
  | [], x, hx => by cases hx
  | y :: l, x, hx => by
    simp only [V.depthL]
    rcases List.mem_cons.1 hx with rfl | hx
    · omega
    · have := V.depthL_mem (l := l) x hx; omega
abbrev vI (n : Int) : Value := .agg #[.int .i64 1, .int .i64 n, .string ⟨#[]⟩, .slice none 0 0]
abbrev vT (s : ByteArray) : Value := .agg #[.int .i64 2, .int .i64 0, .string s, .slice none 0 0]
abbrev vL (base : Option Addr) (n cap : Nat) : Value := .agg #[.int .i64 3, .int .i64 0, .string ⟨#[]⟩, .slice base n cap]
mutual
/-- a value that lies in blocks below a number -/
def VAt (N : Nat) (w : World) : V → Value → Prop
  | .int n, v => v = vI n
  | .text s, v => v = vT s
  | .list l, v => ∃ base cap, v = vL base l.length cap ∧ l.length ≤ cap ∧ (l = [] ∨ ∃ b cs t fr, base = some ⟨b, 0, none⟩ ∧ b < N ∧ w.heap[b]? = some (.cells cs t fr) ∧ VsAt N w cs 0 l)
def VsAt (N : Nat) (w : World) (cs : Array Value) : Nat → List V → Prop
  | _, [] => True
  | off, x :: l => off + 4 ≤ cs.size ∧ VAt N w x (.agg (cut cs off 4)) ∧ VsAt N w cs (off + 4) l
end
theorem VsAt.get {N : Nat} {w : World} {cs : Array Value} : ∀ {l : List V} {off : Nat}, VsAt N w cs off l → ∀ (i : Nat) (h : i < l.length), off + 4 * i + 4 ≤ cs.size ∧ VAt N w l[i] (.agg (cut cs (off + 4 * i) 4))
  | [], _, _, i, h => by simp at h
  | x :: l, off, hv, i, h => by
    simp only [VsAt] at hv
    cases i with
    | zero => exact ⟨by omega, hv.2.1⟩
    | succ i =>
      have := VsAt.get hv.2.2 i (by simpa using h)
      rw [show off + 4 * (i + 1) = off + 4 + 4 * i by omega]
      simpa using this
theorem VAt.up {N N' : Nat} {w w' : World} (hN : N ≤ N') (hw : ∀ k, k < N → w'.heap[k]? = w.heap[k]?) : ∀ (x : V) (v : Value), VAt N w x v → VAt N' w' x v := by
  refine V.ind ?_ ?_ ?_
  · intro n v h; simpa only [VAt] using h
  · intro s v h; simpa only [VAt] using h
  · intro l ih v h
    simp only [VAt] at h ⊢
    obtain ⟨base, cap, hv, hc, hl⟩ := h
    refine ⟨base, cap, hv, hc, ?_⟩
    rcases hl with hl | ⟨b, cs, t, fr, hb, hlt, hcs, hs⟩
    · exact .inl hl
    · refine .inr ⟨b, cs, t, fr, hb, by omega, (hw b hlt).trans hcs, ?_⟩
      clear hb hlt hcs hc hv
      generalize 0 = off at *
      induction l generalizing off with
      | nil => simp only [VsAt]
      | cons x l ihl =>
        simp only [VsAt] at hs ⊢
        exact ⟨hs.1, ih x (by simp) _ hs.2.1, ihl (fun y hy => ih y (by simp [hy])) _ hs.2.2⟩
theorem VAt.shape {N : Nat} {w : World} : ∀ {x : V} {v : Value}, VAt N w x v → ∃ n s p m c, v = .agg #[.int .i64 x.kind, .int .i64 n, .string s, .slice p m c]
  | .int n, v, h => by simp only [VAt] at h; exact ⟨_, _, _, _, _, h⟩
  | .text s, v, h => by simp only [VAt] at h; exact ⟨_, _, _, _, _, h⟩
  | .list l, v, h => by simp only [VAt] at h; obtain ⟨_, _, h, _⟩ := h; exact ⟨_, _, _, _, _, h⟩
/-- the blocks below a number are as they were -/
theorem St.same {G : Gh} {L : List World} {H : Heap} {W w : World} {N : Nat} (h : St G L H W) (hw : w ∈ L) (hN : N ≤ w.heap.size) (hX : ∀ k, k < N → ¬ G.X k) (hH : Over N H) : ∀ k, k < N → W.heap[k]? = w.heap[k]? := fun k hk =>
  (h.links w hw).block k (by omega) (fun hx => by
    rcases hx with hx | hx
    · exact hX k hk hx
    · obtain ⟨p, hp, rfl⟩ := List.mem_map.1 hx
      have := hH.mem p hp
      omega)
section
variable {C : Cx} {Q : Post} {E : Env} {D : List Deferred} {G : Gh} {L : List World} {H : Heap} {ops : Array Oper} {l : List Oper}
variable {d T U ty f : Nat} {pos : String} {aft : Array Edge} {g : Option (Nat × Bool)} {x y : Operand} {xs : List Operand} {vs : List Value} {tys : Array Nat}
theorem lenStr_r {s : ByteArray} {t : Nat} (hU : C.P.underlying t = some .string) (hx : ev E x = some (.string s)) : RV C G L H E (.call ⟨.builtin .len, #[x], #[t]⟩) (.int .i64 (s.size : Int)) := fun d ty pos aft g a W hF _ => by
  simp [execOp, hF.ev hx, resolve, invoke, Deferred.ofValue, builtin, Builtin.len_, run_underlying hU, goInt]
theorem eqlS_r {s t : ByteArray} (hx : ev E x = some (.string s)) (hy : ev E y = some (.string t)) : RV C G L H E (.binOp .eql T x y U) (.bool (s.toList == t.toList)) := fun d ty pos aft g a W hF _ => by
  simp [execOp, eqGuard, binOp, Op.stringOp, hF.ev hx, hF.ev hy]
theorem maxI_r {K : IntKind} {m n : Int} {t1 t2 : Nat} (hx : ev E x = some (.int K m)) (hy : ev E y = some (.int K n)) : RV C G L H E (.call ⟨.builtin .max, #[x, y], #[t1, t2]⟩) (.int K (max m n)) := fun d ty pos aft g a W hF _ => by
  have : (if m < n then n else m) = max m n := by omega
  simp [execOp, hF.ev hx, hF.ev hy, resolve, invoke, Deferred.ofValue, builtin, Builtin.max_, Builtin.max2, this]
end
/-! #### the steps of a chain -/
section
variable {C : Cx} {Q : Post} {E : Env} {D : List Deferred} {G : Gh} {L : List World} {H : Heap} {id : Nat}
def PureAll (C : Cx) (ops : Array Oper) (G : Gh) (E : Env) (sp : Sp) (ch : List Nat) (Ph : List Value → List World → Heap → Prop) : List Oper → Sp → Prop
  | o :: l, (ds, some u) :: ss => (∀ cv L' H', depsIn ch ds cv.length = true → Ph cv L' H' → X C ops G L' H' (envD ops sp ch cv ds ++ E) (fun _ => True) o (fun v _ => v = u)) ∧ PureAll C ops G E sp ch Ph l ss
  | _ :: l, (_, none) :: ss => PureAll C ops G E sp ch Ph l ss
  | _, _ => True
theorem pureAll_at {ops : Array Oper} {sp : Sp} {ch : List Nat} {Ph : List Value → List World → Heap → Prop} : ∀ (l : List Oper) (ss : Sp), PureAll C ops G E sp ch Ph l ss → ∀ (i : Nat) (o : Oper) (ds : List Nat) (u : Value), l[i]? = some o → ss[i]? = some (ds, some u) →
    ∀ cv L' H', depsIn ch ds cv.length = true → Ph cv L' H' → X C ops G L' H' (envD ops sp ch cv ds ++ E) (fun _ => True) o (fun v _ => v = u)
  | [], _, _, i, o, ds, u, hl, _ => by simp at hl
  | _ :: _, [], _, i, o, ds, u, _, hs => by simp at hs
  | o' :: l, (ds', some u') :: ss, h, i, o, ds, u, hl, hs => by
    cases i with
    | zero => simp at hl hs; obtain ⟨rfl, rfl⟩ := hs; subst hl; exact h.1
    | succ i => exact pureAll_at l ss h.2 i o ds u (by simpa using hl) (by simpa using hs)
  | o' :: l, (ds', none) :: ss, h, i, o, ds, u, hl, hs => by
    cases i with
    | zero => simp at hs
    | succ i => exact pureAll_at l ss h i o ds u (by simpa using hl) (by simpa using hs)
theorem pc {ops : Array Oper} {sp : Sp} {ch : List Nat} {Ph : List Value → List World → Heap → Prop} {o : Oper} {l : List Oper} {ds : List Nat} {u : Value} {ss : Sp}
    (h : ∀ cv L' H', depsIn ch ds cv.length = true → Ph cv L' H' → X C ops G L' H' (envD ops sp ch cv ds ++ E) (fun _ => True) o (fun v _ => v = u)) (t : PureAll C ops G E sp ch Ph l ss) : PureAll C ops G E sp ch Ph (o :: l) ((ds, some u) :: ss) := ⟨h, t⟩
theorem pk {ops : Array Oper} {sp : Sp} {ch : List Nat} {Ph : List Value → List World → Heap → Prop} {o : Oper} {l : List Oper} {ds : List Nat} {ss : Sp} (t : PureAll C ops G E sp ch Ph l ss) : PureAll C ops G E sp ch Ph (o :: l) ((ds, none) :: ss) := t
theorem pn {ops : Array Oper} {sp : Sp} {ch : List Nat} {Ph : List Value → List World → Heap → Prop} {l : List Oper} : PureAll C ops G E sp ch Ph l [] := by cases l <;> trivial
def StepAll (C : Cx) (l : List Oper) (G : Gh) (E : Env) (D : List Deferred) (sp : Sp) (ch : List Nat) (Ph : List Value → List World → Heap → Prop) : Nat → List Nat → Prop
  | _, [] => True
  | k, c :: rest => (∀ (o : Oper) (ds : List Nat) (d : Nat), l[c]? = some o → sp[c]? = some (ds, none) → o.dst = some d → ∀ cv L' H', cv.length = k → Ph cv L' H' → ∀ (F : Env) (Q' : Post),
      (∀ v L'' H'', Ph (cv ++ [v]) L'' H'' → PJ C Q' .normal ((d, v) :: (envD l.toArray sp ch cv ds ++ (E ++ F))) D G L'' H'') → OJ C l.toArray Q' [o] (envD l.toArray sp ch cv ds ++ (E ++ F)) D G L' H') ∧ StepAll C l G E D sp ch Ph (k + 1) rest
theorem stepAll_at {l : List Oper} {sp : Sp} {ch : List Nat} {Ph : List Value → List World → Heap → Prop} : ∀ (rest : List Nat) (n : Nat), StepAll C l G E D sp ch Ph n rest → ∀ (k c : Nat) (o : Oper) (ds : List Nat) (d : Nat), rest[k]? = some c → l[c]? = some o → sp[c]? = some (ds, none) → o.dst = some d →
    ∀ cv L' H', cv.length = n + k → Ph cv L' H' → ∀ (F : Env) (Q' : Post), (∀ v L'' H'', Ph (cv ++ [v]) L'' H'' → PJ C Q' .normal ((d, v) :: (envD l.toArray sp ch cv ds ++ (E ++ F))) D G L'' H'') → OJ C l.toArray Q' [o] (envD l.toArray sp ch cv ds ++ (E ++ F)) D G L' H'
  | [], _, _, k, c, _, _, _, h, _, _, _ => by simp at h
  | c' :: rest, n, h, k, c, o, ds, d, hk, hl, hs, hd => by
    cases k with
    | zero => simp at hk; subst hk; exact fun cv L' H' hlen => h.1 o ds d hl hs hd cv L' H' (by simpa using hlen)
    | succ k => exact fun cv L' H' hlen => stepAll_at rest (n + 1) h.2 k c o ds d (by simpa using hk) hl hs hd cv L' H' (by omega)
theorem sc {l : List Oper} {sp : Sp} {ch : List Nat} {Ph : List Value → List World → Heap → Prop} {k c : Nat} {rest : List Nat} {o : Oper} {ds : List Nat} {d : Nat} (h1 : l[c]? = some o) (h2 : sp[c]? = some (ds, none)) (h3 : o.dst = some d)
    (h : ∀ cv L' H', cv.length = k → Ph cv L' H' → ∀ (F : Env) (Q' : Post), (∀ v L'' H'', Ph (cv ++ [v]) L'' H'' → PJ C Q' .normal ((d, v) :: (envD l.toArray sp ch cv ds ++ (E ++ F))) D G L'' H'') → OJ C l.toArray Q' [o] (envD l.toArray sp ch cv ds ++ (E ++ F)) D G L' H')
    (t : StepAll C l G E D sp ch Ph (k + 1) rest) : StepAll C l G E D sp ch Ph k (c :: rest) :=
  ⟨fun o' ds' d' e1 e2 e3 => by
    rw [h1] at e1; cases e1
    rw [h2] at e2; cases e2
    rw [h3] at e3; cases e3
    exact h, t⟩
theorem sn {l : List Oper} {sp : Sp} {ch : List Nat} {Ph : List Value → List World → Heap → Prop} {k : Nat} : StepAll C l G E D sp ch Ph k [] := trivial
theorem CJ.chn {l : List Oper} (nA : Nat) (ch : List Nat) (sp : Sp) (Ph : List Value → List World → Heap → Prop) (hm : C.P.follows .mixedOrders = true)
    (h0 : Ph [] L H) (hok : drawOkB l.toArray nA (sp.map (·.1)) E = true) (hN : dstOk C.N l = true) (hch : chainB l ch = true) (hnd : nodupB ch = true) (hpt : partB ch 0 sp = true) (hlt' : ch.all (fun c => Nat.blt c nA) = true)
    (pure : PureAll C l.toArray G E sp ch Ph l sp) (step : StepAll C l G E D sp ch Ph 0 ch)
    (fin : ∀ cv L' H', cv.length = ch.length → Ph cv L' H' → OJ C l.toArray Q (l.drop nA) (envD l.toArray sp ch cv (List.range nA) ++ E) D G L' H') :
    CJ C (.region id l.toArray true) Q E D G L H :=
  CJ.chain nA ch sp Ph hm h0 hok hN hch hnd hpt hlt' (pureAll_at l sp pure) (fun k c o ds d hk hl hs hd cv L' H' hlen => stepAll_at ch 0 step k c o ds d hk hl hs hd cv L' H' (by omega)) fin
end
theorem len1 {α : Type} {l : List α} (h : l.length = 1) : ∃ a, l = [a] := by
  match l, h with
  | [a], _ => exact ⟨a, rfl⟩
theorem len2 {α : Type} {l : List α} (h : l.length = 2) : ∃ a b, l = [a, b] := by
  match l, h with
  | [a, b], _ => exact ⟨a, b, rfl⟩
theorem len3 {α : Type} {l : List α} (h : l.length = 3) : ∃ a b c, l = [a, b, c] := by
  match l, h with
  | [a, b, c], _ => exact ⟨a, b, c, rfl⟩
theorem len4 {α : Type} {l : List α} (h : l.length = 4) : ∃ a b c d, l = [a, b, c, d] := by
  match l, h with
  | [a, b, c, d], _ => exact ⟨a, b, c, d, rfl⟩
theorem len5 {α : Type} {l : List α} (h : l.length = 5) : ∃ a b c d e, l = [a, b, c, d, e] := by
  match l, h with
  | [a, b, c, d, e], _ => exact ⟨a, b, c, d, e, rfl⟩
end Px
namespace Px
open Go Go.RowKit
section
variable {C : Cx} {Q : Post} {E : Env} {D : List Deferred} {G : Gh} {L : List World} {H : Heap} {ops : Array Oper} {l : List Oper}
variable {d T ty f : Nat} {pos : String} {aft : Array Edge} {g : Option (Nat × Bool)} {x y : Operand} {xs : List Operand} {vs : List Value} {tys : Array Nat}
/-- a call of a function value that gives a new row -/
theorem callNC {e : Nat} {ys : List UInt8} {first cap : List Value} (hx : ev E x = some (.func (.func f) first.toArray cap.toArray)) (hent : Ent C.P f) (hw : wantE ops E g = some true) (hN : Nat.blt d C.N = true) (ha : evs E xs = some vs)
    (hc : ∀ W, St G L H W → Calls C.P f (first ++ vs ++ cap).toArray W (RetNew W e ys))
    (k : ∀ b' cap' sp', Above L b' → Off H b' → ¬ G.X b' → RowOk ys cap' sp' → OJ C ops Q l ((d, rowV b' ys.length cap') :: E) D G L ((b', rowC e ys sp') :: H)) :
    OJ C ops Q (⟨some d, .call ⟨.value x, xs.toArray, tys⟩, ty, pos, aft, g⟩ :: l) E D G L H :=
  call_gen rfl hw hx ha (by simp) hent fun a W hN' hD hF hS => (hc W hS).mono (by
    rintro ed W' ⟨b', cap', sp', rfl, hb, hsz, hr, hat⟩
    exact k b' cap' sp' (above_up hS hsz) (off_up hS hsz) (fun hx => by have := hS.xlt _ hx; omega) hr (a.put (some d) (rowV b' ys.length cap')) W' (by simp [Act.put, hN']) (by simp [Act.put, hD]) (hF.put _ (by rw [hN']; exact lt_of hN))
      ((hS.step hb).adopt hat (off_up hS hsz) (fun hv => by have := hS.vlt _ hv; omega)))
/-- a new row, and no error -/
def RetEnc (w : World) (e : Nat) (ys : List UInt8) : Ending → World → Prop := fun ed w' =>
  ∃ b' cap' sp', ed = .returned (.tuple #[rowV b' ys.length cap', .int .i64 0]) ∧ Below w.heap.size w w' ∧ w.heap.size ≤ b' ∧ RowOk ys cap' sp' ∧ w'.heap[b']? = some (rowC e ys sp')
theorem retEnc {fn : Func} {t u i b' e cap' : Nat} {ys : List UInt8} {sp' : List Value} {w : World} {ex : Exit} (he : ex = .ret ∨ ex = .normal) (hr : fn.results = #[.tmp t, .tmp u]) (hv : look E t = some (rowV b' ys.length cap')) (hu : look E u = some (.int .i64 0)) (hi : H[i]? = some (b', rowC e ys sp')) (hw : w ∈ L)
    (ho : Over w.heap.size H) (hk : RowOk ys cap' sp') : PJ C (bodyPost C.P fn (RetEnc w e ys)) ex E [] Gh.no L H :=
  retG he (rs := [.tmp t, .tmp u]) hr (RS.t hv (RS.t hu RS.n)) fun W hS => ⟨b', cap', sp', rfl, hS.base hw ho, ho.mem _ (List.mem_of_getElem? hi), hk, hS.own _ (List.mem_of_getElem? hi)⟩
theorem callEnc {e : Nat} {ys : List UInt8} (hent : Ent C.P f) (hw : wantE ops E g = some true) (hN : Nat.blt d C.N = true) (ha : evs E xs = some vs)
    (hc : ∀ W, St G L H W → Calls C.P f vs.toArray W (RetEnc W e ys))
    (k : ∀ b' cap' sp', Above L b' → Off H b' → ¬ G.X b' → RowOk ys cap' sp' → OJ C ops Q l ((d, .tuple #[rowV b' ys.length cap', .int .i64 0]) :: E) D G L ((b', rowC e ys sp') :: H)) :
    OJ C ops Q (⟨some d, .call ⟨.value (.func f), xs.toArray, tys⟩, ty, pos, aft, g⟩ :: l) E D G L H :=
  call_gen rfl hw rfl ha (by simp) hent fun a W hN' hD hF hS => (hc W hS).mono (by
    rintro ed W' ⟨b', cap', sp', rfl, hb, hsz, hr, hat⟩
    exact k b' cap' sp' (above_up hS hsz) (off_up hS hsz) (fun hx => by have := hS.xlt _ hx; omega) hr (a.put (some d) _) W' (by simp [Act.put, hN']) (by simp [Act.put, hD]) (hF.put _ (by rw [hN']; exact lt_of hN))
      ((hS.step hb).adopt hat (off_up hS hsz) (fun hv => by have := hS.vlt _ hv; omega)))
/-- a call of a function value with a receiver -/
theorem callF {v : Value} {first cap : List Value} (hx : ev E x = some (.func (.func f) first.toArray cap.toArray)) (hent : Ent C.P f) (hw : wantE ops E g = some true) (hN : Nat.blt d C.N = true) (ha : evs E xs = some vs)
    (hc : ∀ W, St G L H W → Calls C.P f (first ++ vs ++ cap).toArray W (Ret W v)) (k : OJ C ops Q l ((d, v) :: E) D G L H) :
    OJ C ops Q (⟨some d, .call ⟨.value x, xs.toArray, tys⟩, ty, pos, aft, g⟩ :: l) E D G L H :=
  call_gen rfl hw hx ha (by simp) hent fun a W hN' hD hF hS => (hc W hS).mono (by
    rintro e W' ⟨rfl, hb⟩
    exact k (a.put (some d) v) W' (by simp [Act.put, hN']) (by simp [Act.put, hD]) (hF.put _ (by rw [hN']; exact lt_of hN)) (hS.step hb))
theorem X.callF {Pre : World → Prop} {Φ : Value → World → Prop} {v : Value} {first cap : List Value} (hx : ev E x = some (.func (.func f) first.toArray cap.toArray)) (hent : Ent C.P f) (hw : wantE ops E g = some true) (ha : evs E xs = some vs)
    (hc : ∀ W, St G L H W → Pre W → Calls C.P f (first ++ vs ++ cap).toArray W (Ret W v)) (hΦ : ∀ W, Φ v W) :
    X C ops G L H E Pre ⟨some d, .call ⟨.value x, xs.toArray, tys⟩, ty, pos, aft, g⟩ Φ := by
  intro a W K Q hN' hF hS hP hk
  rw [if_pos (want_of hF hw)]
  refine ⟨fun _ _ => trivial, ?_⟩
  have hr : (execOp a.eval ⟨some d, .call ⟨.value x, xs.toArray, tys⟩, ty, pos, aft, g⟩).run C.P W = .ok (.enter f (first ++ vs ++ cap).toArray) W := by
    have h2 : (xs.toArray).map a.eval = vs.toArray := by rw [List.map_toArray, evs_map hF xs vs ha]
    simp only [execOp, resolve, hF.ev hx, Deferred.ofValue, h2]
    simp [invoke, hent _ W]
  rw [Oper.semAt_eq _ _ _ (by simp), hr, Oper.uponIn_enter]
  refine ⟨by simp, callsIn_FW.2 ((hc W hS hP).mono ?_)⟩
  rintro e W' ⟨rfl, hb⟩
  exact hk v W' hb (hΦ W')
end
end Px
namespace Px
open Go Go.RowKit
/-! ### a region that draws its order: operations with unknown values, in whatever order they stand -/
def valN (sp : Sp) (ch : List Nat) (cv : List (Option Value)) (j : Nat) : Value :=
  match sp[j]? with
  | some (_, some u) => u
  | _ => ((cv[posOf ch j]?).join).getD undef
def envN (ops : Array Oper) (sp : Sp) (ch : List Nat) (cv : List (Option Value)) : List Nat → Env
  | [] => []
  | j :: js => match (ops[j]?).bind (·.dst) with
    | some d => (d, valN sp ch cv j) :: envN ops sp ch cv js
    | none => envN ops sp ch cv js
theorem fits_envN {ops : Array Oper} {sp : Sp} {ch : List Nat} {cv : List (Option Value)} {a : Act} : ∀ (js : List Nat), (∀ j ∈ js, ∀ o d, ops[j]? = some o → o.dst = some d → a.eval (.tmp d) = valN sp ch cv j) → Fits (envN ops sp ch cv js) a
  | [], _ => by intro t v hv; simp [envN, look] at hv
  | j :: js, h => by
    have ih := fits_envN (sp := sp) (ch := ch) (cv := cv) js (fun k hk => h k (by simp [hk]))
    unfold envN
    cases hd : (ops[j]?).bind (·.dst) with
    | none => exact ih
    | some d =>
      obtain ⟨o, ho, hod⟩ := Option.bind_eq_some_iff.1 hd
      have hv := h j (by simp) o d ho hod
      intro t v ht
      simp only [look] at ht
      by_cases e : d = t
      · subst e
        simp only [beq_self, Option.some.injEq] at ht
        rw [hv, ht]
      · simp only [beq_ne e] at ht
        exact ih t v ht
theorem valN_set {sp : Sp} {ch : List Nat} {cv : List (Option Value)} {v : Value} {j k : Nat} (h : (∃ ds u, sp[j]? = some (ds, some u)) ∨ posOf ch j ≠ k) : valN sp ch (cv.set k (some v)) j = valN sp ch cv j := by
  unfold valN
  rcases h with ⟨ds, u, h⟩ | h
  · rw [h]
  · split
    · rfl
    · rw [List.getElem?_set_ne (fun e => h e.symm)]
/-- an operation of the net may be next -/
def readyB (rq : List Nat) (k : Nat) (cv : List (Option Value)) : Bool :=
  ((cv[k]?).join).isNone && rq.all fun j => ((cv[j]?).join).isSome
def netB (ops : List Oper) (ch : List Nat) : Nat → List (List Nat) → Bool
  | _, [] => true
  | k, rq :: rqs => (match ch[k]? with | some c => rq.all (fun j => match ch[j]? with | some c' => ((masks ops []).getD c 0).testBit c' | none => false) | none => false) && netB ops ch (k + 1) rqs
theorem net_at (ops : List Oper) (ch : List Nat) : ∀ (rqs : List (List Nat)) (n : Nat), netB ops ch n rqs = true → ∀ (k c : Nat) (rq : List Nat), rqs[k]? = some rq → ch[n + k]? = some c → ∀ j ∈ rq, ∃ c', ch[j]? = some c' ∧ ((masks ops []).getD c 0).testBit c' = true
  | [], _, _, k, c, rq, h, _ => by simp at h
  | r :: rqs, n, h, k, c, rq, hk, hc => by
    simp only [netB, Bool.and_eq_true] at h
    cases k with
    | zero =>
      simp at hk; subst hk
      rw [Nat.add_zero] at hc
      rw [hc] at h
      intro j hj
      have h1 := h.1
      simp only [List.all_eq_true] at h1
      have := h1 j hj
      split at this
      · rename_i c' hc'; exact ⟨c', hc', this⟩
      · cases this
    | succ k => exact net_at ops ch rqs (n + 1) h.2 k c rq (by simpa using hk) (by rw [show n + 1 + k = n + (k + 1) by omega]; exact hc)
/-- what an operation needs of the net is there -/
def depsInN (ch ds : List Nat) (cv : List (Option Value)) : Bool := ds.all fun j => !(ch.any fun c => Nat.beq c j) || ((cv[posOf ch j]?).join).isSome
/-- the state on the way -/
def InvN (C : Cx) (ops : Array Oper) (nA : Nat) (ch : List Nat) (sp : Sp) (Ph : List (Option Value) → List World → Heap → Prop) (E : Env) (D : List Deferred) (G : Gh) (lst : Nat → Bool) (a : Act) (W : World) : Prop :=
  ∃ cv L' H', a.tmps.size = C.N ∧ a.defers = D ∧ Fits E a ∧ Ph cv L' H' ∧ St G L' H' W ∧ cv.length = ch.length ∧ (∀ (k c : Nat), ch[k]? = some c → (lst c = true ↔ ∃ v, cv[k]? = some (some v))) ∧
    (∀ (i : Nat) (o : Oper) (d : Nat), i < nA → lst i = true → ops[i]? = some o → o.dst = some d → a.eval (.tmp d) = valN sp ch cv i)
theorem CJ.net {C : Cx} {Q : Post} {E : Env} {D : List Deferred} {G : Gh} {L : List World} {H : Heap} {l : List Oper} {id : Nat} (nA : Nat) (ch : List Nat) (sp : Sp) (rqs : List (List Nat)) (Ph : List (Option Value) → List World → Heap → Prop) (hm : C.P.follows .mixedOrders = true)
    (h0 : Ph (ch.map fun _ => none) L H) (hok : drawOkB l.toArray nA (sp.map (·.1)) E = true) (hN : dstOk C.N l = true) (hch : netB l ch 0 rqs = true) (hnd : nodupB ch = true) (hpt : partB ch 0 sp = true) (hlt' : ch.all (fun c => Nat.blt c nA) = true)
    (pure : ∀ (i : Nat) (o : Oper) (ds : List Nat) (u : Value), l[i]? = some o → sp[i]? = some (ds, some u) → ∀ cv L' H', cv.length = ch.length → depsInN ch ds cv = true → Ph cv L' H' → X C l.toArray G L' H' (envN l.toArray sp ch cv ds ++ E) (fun _ => True) o (fun v _ => v = u))
    (step : ∀ (k c : Nat) (rq : List Nat) (o : Oper) (ds : List Nat) (d : Nat), ch[k]? = some c → rqs[k]? = some rq → l[c]? = some o → sp[c]? = some (ds, none) → o.dst = some d → ∀ cv L' H', cv.length = ch.length → readyB rq k cv = true → Ph cv L' H' → ∀ (F : Env) (Q' : Post),
      (∀ v L'' H'', Ph (cv.set k (some v)) L'' H'' → PJ C Q' .normal ((d, v) :: (envN l.toArray sp ch cv ds ++ (E ++ F))) D G L'' H'') → OJ C l.toArray Q' [o] (envN l.toArray sp ch cv ds ++ (E ++ F)) D G L' H')
    (hrq : rqs.length = ch.length) (fin : ∀ cv L' H', cv.length = ch.length → cv.all (fun x => x.isSome) = true → Ph cv L' H' → OJ C l.toArray Q (l.drop nA) (envN l.toArray sp ch cv (List.range nA) ++ E) D G L' H') :
    CJ C (.region id l.toArray true) Q E D G L H := by
  have ok : DrawOk l.toArray nA (sp.map fun p => OS.det p.1 undef) E := drawOk_of (by
    rw [List.map_map]; exact hok)
  have hspl : sp.length = nA := by have := ok.len; simpa using this
  have hdeps : ∀ (i : Nat) (o : Oper) (ds : List Nat) (u : Option Value), l.toArray[i]? = some o → sp[i]? = some (ds, u) → ∀ j ∈ ds, ∃ e ∈ o.after, e.on = j ∧ Region.binds .any e = true := by
    intro i o ds u ho hs j hj
    exact ok.deps i o (.det ds undef) ho (by simp [hs]) j hj
  have hnodup := nodup_of hnd
  have hchA : ∀ k c, ch[k]? = some c → c < nA := fun k c h => by
    rw [List.all_eq_true] at hlt'; exact lt_of (hlt' c (List.mem_of_getElem? h))
  generalize hops : l.toArray = ops at *
  have hl : ∀ i : Nat, l[i]? = ops[i]? := fun i => by rw [← hops, List.getElem?_toArray]
  have hsz : ops.size = l.length := by rw [← hops]; simp
  intro a W hsize hD hF hS
  refine wpIn_region_draw fun t => ?_
  simp only [Region.schedule, hm, Bool.true_or, if_true]
  have hlt : ∀ (i : Nat) (o : Oper), ops[i]? = some o → i < ops.size := fun i o ho => (Array.getElem?_eq_some_iff.1 ho).1
  let Inv : Array Bool → Act → World → Prop := fun lst a W => lst.size = ops.size ∧ (∀ (k : Nat) (o : Oper), ops[k]? = some o → lst.getD k false = true → ∀ e ∈ o.after, Region.binds .any e = true → lst.getD e.on false = true) ∧
    (((∃ i, i < nA ∧ lst.getD i false = false) ∧ (∀ i, nA ≤ i → lst.getD i false = false) ∧ InvN C ops nA ch sp Ph E D G (fun i => lst.getD i false) a W) ∨
     (∃ m, nA ≤ m ∧ (∀ i, i < ops.size → (lst.getD i false = true ↔ i < m)) ∧ wpListIn (FW C.r) 0 C.P ops Q (l.drop m) a W))
  have close : ∀ (lst : Array Bool) a W, lst.size = ops.size → (∀ (k : Nat) (o : Oper), ops[k]? = some o → lst.getD k false = true → ∀ e ∈ o.after, Region.binds .any e = true → lst.getD e.on false = true) → (∀ i, i < nA → lst.getD i false = true) → (∀ i, nA ≤ i → lst.getD i false = false) → InvN C ops nA ch sp Ph E D G (fun i => lst.getD i false) a W → Inv lst a W := by
    rintro lst a W hls hcl hall hnone ⟨cv, L', H', h1, h2, h3, h4, h5, h6, h7, h8⟩
    refine ⟨hls, hcl, .inr ⟨nA, Nat.le_refl _, fun i hi => ⟨fun h => ?_, fun h => hall i h⟩, ?_⟩⟩
    · exact Nat.lt_of_not_le fun hle => by rw [hnone i hle] at h; cases h
    · have hsm : cv.all (fun x => x.isSome) = true := by
        rw [List.all_eq_true]
        intro x hx
        obtain ⟨k, hk⟩ := List.mem_iff_getElem?.1 hx
        have hkl : k < ch.length := by rw [← h6]; exact (List.getElem?_eq_some_iff.1 hk).1
        have hc : ch[k]? = some (ch[k]'hkl) := List.getElem?_eq_getElem hkl
        obtain ⟨v, hv⟩ := (h7 _ _ hc).1 (hall _ (hchA _ _ hc))
        rw [hk] at hv; cases hv; rfl
      refine fin cv L' H' h6 hsm h4 a W h1 h2 (fits_append ?_ h3) h5
      exact fits_envN _ (fun j hj o d ho hd => h8 j o d (List.mem_range.1 hj) (hall j (List.mem_range.1 hj)) ho hd)
  have getD_set : ∀ (lst : Array Bool) (i k : Nat), lst.size = ops.size → i < ops.size → (lst.setIfInBounds i true).getD k false = if k = i then true else lst.getD k false := by
    intro lst i k hls hi
    simp only [Array.getD_eq_getD_getElem?, Array.getElem?_setIfInBounds]
    by_cases e : i = k
    · subst e; simp [hls, hi]
    · simp [e, show ¬ k = i from fun h => e h.symm]
  have hstep : ∀ (lst : Array Bool) a W, Inv lst a W → ∀ (i : Nat) (o : Oper), ops[i]? = some o → lst.getD i false = false → (∀ e ∈ o.after, Region.binds .any e = true → lst.getD e.on false = true) →
      wpOpIn (FW C.r) 0 C.P ops Q i (fun a' W' => Inv (lst.setIfInBounds i true) a' W') a W := by
    rintro lst a W ⟨hls, hcl, hI⟩ i o ho hun hready
    have hi := hlt i o ho
    have hcl' : ∀ (k : Nat) (o' : Oper), ops[k]? = some o' → (lst.setIfInBounds i true).getD k false = true → ∀ e ∈ o'.after, Region.binds .any e = true → (lst.setIfInBounds i true).getD e.on false = true := by
      intro k o' ho' hk e he hb
      rw [getD_set lst i k hls hi] at hk
      rw [getD_set lst i e.on hls hi]
      by_cases e1 : e.on = i
      · rw [if_pos e1]
      · rw [if_neg e1]
        by_cases e2 : k = i
        · subst e2; rw [ho] at ho'; cases ho'; exact hready e he hb
        · rw [if_neg e2] at hk; exact hcl k o' ho' hk e he hb
    rcases hI with ⟨hex, hnone, cv, L', H', h1, h2, h3, h4, h5, h6, h7, h8⟩ | ⟨m, hnm, hlst, hw⟩
    · have hiA : i < nA := Nat.lt_of_not_le fun hle => by
        obtain ⟨k, hk, hkf⟩ := hex
        have := ok.last i o hle ho (fun k => lst.getD k false = true) (fun k o' h1 h2 e h3 h4 => hcl k o' h1 h2 e h3 h4) hready k (by omega)
        rw [hkf] at this; cases this
      obtain ⟨⟨ds, u⟩, hs⟩ : ∃ s, sp[i]? = some s := ⟨sp[i]'(by rw [hspl]; exact hiA), List.getElem?_eq_getElem _⟩
      obtain ⟨d, hd⟩ := ok.some_ i o hiA ho
      have hdN : d < C.N := dstOk_mem hN o (List.mem_of_getElem? (by rw [hl]; exact ho)) d hd
      have hdep : ∀ j ∈ ds, lst.getD j false = true ∧ j < i := fun j hj => by
        obtain ⟨e, he, hon, hb⟩ := hdeps i o ds u ho hs j hj
        exact ⟨hon ▸ hready e he hb, hon ▸ ok.back i o ho e he hb⟩
      have hfit : Fits (envN ops sp ch cv ds) a := fits_envN _ (fun j hj o' d' ho' hd' => h8 j o' d' (by have := (hdep j hj).2; omega) (hdep j hj).1 ho' hd')
      have hls' : (lst.setIfInBounds i true).size = ops.size := by simp [hls]
      have hnone' : ∀ k, nA ≤ k → (lst.setIfInBounds i true).getD k false = false := fun k hk => by
        rw [getD_set lst i k hls hi, if_neg (by omega)]; exact hnone k hk
      have hfin : ∀ a' W', InvN C ops nA ch sp Ph E D G (fun k => (lst.setIfInBounds i true).getD k false) a' W' → Inv (lst.setIfInBounds i true) a' W' := by
        intro a' W' hA
        by_cases hall : ∀ k, k < nA → (lst.setIfInBounds i true).getD k false = true
        · exact close _ _ _ hls' hcl' hall hnone' hA
        · refine ⟨hls', hcl', .inl ⟨?_, hnone', hA⟩⟩
          obtain ⟨k, hk⟩ := Classical.not_forall.1 hall
          obtain ⟨hk1, hk2⟩ := Classical.not_imp.1 hk
          exact ⟨k, hk1, by simpa using hk2⟩
      cases u with
      | some u =>
        -- its value is known
        have hnot : i ∉ ch := by have := (part_at ch sp 0 hpt i ds).2 u hs; simpa using this
        have hdi : depsInN ch ds cv = true := by
          simp only [depsInN, List.all_eq_true, Bool.or_eq_true, Bool.not_eq_true']
          intro j hj
          by_cases hc : (ch.any fun c => Nat.beq c j) = true
          · right
            obtain ⟨c, hcm, hcb⟩ := List.any_eq_true.1 hc
            have := Nat.eq_of_beq_eq_true hcb
            subst this
            obtain ⟨q, hq⟩ := List.mem_iff_getElem?.1 hcm
            rw [posOf_at ch q c hq hnodup]
            obtain ⟨v, hv⟩ := (h7 q c hq).1 (hdep c hj).1
            rw [hv]; rfl
          · left; exact Bool.eq_false_iff.2 hc
        have hx := pure i o ds u (by rw [hl]; exact ho) hs cv L' H' h6 hdi h4 a W (fun a' W' => Inv (lst.setIfInBounds i true) a' W') Q h1 (fits_append hfit h3) h5 trivial (by
          rintro v W' hb rfl
          refine hfin _ _ ⟨cv, L', H', by simp [Act.put, hd, h1], by simp [Act.put, hd, h2], ?_, h4, h5.step hb, h6, ?_, ?_⟩
          · intro t u' hu
            have hne : d ≠ t := fun e => by subst e; rw [ok.apart i o d hiA ho hd] at hu; cases hu
            have := h3 t u' hu
            simp only [Act.eval, Act.put, hd] at this ⊢
            rw [← this]
            simp [Array.getElem?_setIfInBounds_ne hne]
          · intro k c hc
            show ((lst.setIfInBounds i true).getD c false = true ↔ _)
            rw [getD_set lst i c hls hi, if_neg (show ¬ c = i from fun e => hnot (by rw [← e]; exact List.mem_of_getElem? hc))]
            exact h7 k c hc
          · intro k o' d' hk hlk ho' hd'
            replace hlk : (lst.setIfInBounds i true).getD k false = true := hlk
            rw [getD_set lst i k hls hi] at hlk
            by_cases e : k = i
            · subst e
              rw [ho] at ho'; cases ho'
              rw [hd] at hd'; cases hd'
              simp [Act.eval, Act.put, hd, h1, hdN, valN, hs]
            · rw [if_neg e] at hlk
              have hne : d ≠ d' := fun e' => e (ok.uniq k i o' o d hk hiA ho' ho (e' ▸ hd') hd)
              have := h8 k o' d' hk hlk ho' hd'
              simp only [Act.eval, Act.put, hd] at this ⊢
              rw [← this]
              simp [Array.getElem?_setIfInBounds_ne hne])
        unfold wpOpIn
        simp only [ho]
        split
        · rename_i hw; rw [if_pos hw] at hx; exact hx
        · rename_i hw; rw [if_neg hw] at hx; exact ⟨fun _ _ => trivial, hx⟩
      | none =>
        -- it is the next one of the chain
        have hmem : i ∈ ch := by have := (part_at ch sp 0 hpt i ds).1 hs; simpa using this
        obtain ⟨k, hk⟩ := List.mem_iff_getElem?.1 hmem
        have hkl : k < ch.length := (List.getElem?_eq_some_iff.1 hk).1
        obtain ⟨rq, hrk⟩ : ∃ rq, rqs[k]? = some rq := ⟨rqs[k]'(by omega), List.getElem?_eq_getElem _⟩
        have hnone2 : cv[k]? = some none := by
          have h9 : cv[k]? = some (cv[k]'(by omega)) := List.getElem?_eq_getElem _
          cases hx : cv[k]'(by omega) with
          | none => rw [h9, hx]
          | some v =>
            exfalso
            have h' : lst.getD i false = true := (h7 k i hk).2 ⟨v, by rw [h9, hx]⟩
            rw [hun] at h'; cases h'
        have hrdy : readyB rq k cv = true := by
          simp only [readyB, Bool.and_eq_true, List.all_eq_true]
          refine ⟨by rw [hnone2]; rfl, fun j hj => ?_⟩
          obtain ⟨c', hc', hbit⟩ := net_at l ch rqs 0 hch k i rq hrk (by rw [Nat.zero_add]; exact hk) j hj
          have hD' := masks_spec l (fun j => lst.getD j false = true) (fun j o' hj => hcl j o' (by rw [← hl]; exact hj)) (fun j o' hj => ok.back j o' (by rw [← hl]; exact hj)) l [] rfl (fun _ _ _ hk => by simp at hk) i o (by rw [hl]; exact ho) hready _ hbit
          obtain ⟨v, hv⟩ := (h7 j c' hc').1 hD'
          rw [hv]; rfl
        have hwp := step k i rq o ds d hk hrk (by rw [hl]; exact ho) hs hd cv L' H' h6 hrdy h4 (envN ops sp ch cv ((List.range nA).filter fun j => lst.getD j false))
          (Qn Q (fun a' W' => Inv (lst.setIfInBounds i true) a' W')) (by
            intro v L'' H'' hP a' W' hs1 hs2 hs3 hs4
            refine hfin _ _ ⟨cv.set k (some v), L'', H'', hs1, hs2, ?_, hP, hs4, ?_, ?_, ?_⟩
            · intro t u' hu
              have hne : d ≠ t := fun e => by subst e; rw [ok.apart i o d hiA ho hd] at hu; cases hu
              have hfit2 : Fits (envN ops sp ch cv ds ++ (E ++ envN ops sp ch cv ((List.range nA).filter fun j => lst.getD j false))) a' := fun t' v' h' => by
                by_cases e2 : d = t'
                · subst e2
                  exfalso
                  have hno : ∀ js, (∀ j ∈ js, j < nA ∧ j ≠ i) → look (envN ops sp ch cv js) d = none := by
                    intro js
                    induction js with
                    | nil => intro _; rfl
                    | cons j js ih =>
                      intro hjs
                      have ih' := ih fun j' hj' => hjs j' (by simp [hj'])
                      unfold envN
                      cases hdj : (ops[j]?).bind (·.dst) with
                      | none => exact ih'
                      | some d' =>
                        obtain ⟨oj, hoj, hodj⟩ := Option.bind_eq_some_iff.1 hdj
                        have hned : d' ≠ d := fun e' => (hjs j (by simp)).2 (ok.uniq j i oj o d' (hjs j (by simp)).1 hiA hoj ho hodj (e' ▸ hd))
                        simp only [look, beq_ne hned]
                        exact ih'
                  rw [look_append, look_append, hno ds (fun j hj => ⟨by have := (hdep j hj).2; omega, by have := (hdep j hj).2; omega⟩), ok.apart i o d hiA ho hd, hno _ (fun j hj => by
                    simp only [List.mem_filter, List.mem_range] at hj
                    exact ⟨hj.1, fun e => by subst e; rw [hun] at hj; cases hj.2⟩)] at h'
                  cases h'
                · exact hs3 t' v' (by simp only [look, beq_ne e2]; exact h')
              have h9 : look (envN ops sp ch cv ds ++ (E ++ envN ops sp ch cv ((List.range nA).filter fun j => lst.getD j false))) t = some u' := by
                rw [look_append, look_append, hu]
                have hno : look (envN ops sp ch cv ds) t = none := by
                  have : ∀ js, (∀ j ∈ js, j < nA) → look (envN ops sp ch cv js) t = none := by
                    intro js
                    induction js with
                    | nil => intro _; rfl
                    | cons j js ih =>
                      intro hjs
                      have ih' := ih fun j' hj' => hjs j' (by simp [hj'])
                      unfold envN
                      cases hdj : (ops[j]?).bind (·.dst) with
                      | none => exact ih'
                      | some d' =>
                        obtain ⟨oj, hoj, hodj⟩ := Option.bind_eq_some_iff.1 hdj
                        have hned : d' ≠ t := fun e' => by
                          subst e'
                          rw [ok.apart j oj d' (hjs j (by simp)) hoj hodj] at hu; cases hu
                        simp only [look, beq_ne hned]
                        exact ih'
                  exact this ds (fun j hj => by have := (hdep j hj).2; omega)
                rw [hno]; rfl
              exact hfit2 t u' h9
            · rw [List.length_set]; exact h6
            · intro k' c hc
              show ((lst.setIfInBounds i true).getD c false = true ↔ _)
              rw [getD_set lst i c hls hi]
              by_cases e : c = i
              · subst e
                rw [if_pos rfl]
                have h1' := posOf_at ch k' c hc hnodup
                have h2' := posOf_at ch k c hk hnodup
                have : k' = k := by omega
                subst this
                exact ⟨fun _ => ⟨v, by rw [List.getElem?_set_self (by omega)]⟩, fun _ => rfl⟩
              · rw [if_neg e, h7 k' c hc]
                have hne : k ≠ k' := fun e' => e (by subst e'; rw [hk] at hc; cases hc; rfl)
                rw [List.getElem?_set_ne hne]
            · intro q o' d' hkn hlk ho' hd'
              replace hlk : (lst.setIfInBounds i true).getD q false = true := hlk
              rw [getD_set lst i q hls hi] at hlk
              by_cases e : q = i
              · subst e
                rw [ho] at ho'; cases ho'
                rw [hd] at hd'; cases hd'
                have := hs3 d v (by simp [look, beq_self])
                rw [this]
                unfold valN
                rw [hs]
                simp only
                rw [posOf_at ch k q hk hnodup, List.getElem?_set_self (by omega)]
                rfl
              · rw [if_neg e] at hlk
                have hne : d ≠ d' := fun e' => e (ok.uniq q i o' o d hkn hiA ho' ho (e' ▸ hd') hd)
                have hold : valN sp ch (cv.set k (some v)) q = valN sp ch cv q := valN_set (by
                  obtain ⟨⟨ds', u'⟩, hs'⟩ : ∃ s, sp[q]? = some s := ⟨sp[q]'(by rw [hspl]; exact hkn), List.getElem?_eq_getElem _⟩
                  cases u' with
                  | some u' => exact .inl ⟨ds', u', hs'⟩
                  | none =>
                    right
                    have hmem' : q ∈ ch := by have := (part_at ch sp 0 hpt q ds').1 hs'; simpa using this
                    obtain ⟨p, hp⟩ := List.mem_iff_getElem?.1 hmem'
                    rw [posOf_at ch p q hp hnodup]
                    exact fun e' => e (by subst e'; rw [hk] at hp; cases hp; rfl))
                rw [hold]
                -- it stands in F
                refine hs3 d' _ ?_
                simp only [look, beq_ne hne]
                have hin : ∀ js, q ∈ js → (∀ j ∈ js, j < nA) → look (envN ops sp ch cv js) d' = some (valN sp ch cv q) := by
                  intro js
                  induction js with
                  | nil => intro h; cases h
                  | cons j js ih =>
                    intro hkj hjs
                    unfold envN
                    by_cases ej : j = q
                    · subst ej
                      simp only [ho', Option.bind_some, hd', look, beq_self]
                    · have hkj' : q ∈ js := by
                        rcases List.mem_cons.1 hkj with h | h
                        · exact absurd h.symm ej
                        · exact h
                      have ih' := ih hkj' fun j' hj' => hjs j' (by simp [hj'])
                      cases hdj : (ops[j]?).bind (·.dst) with
                      | none => exact ih'
                      | some dj =>
                        obtain ⟨oj, hoj, hodj⟩ := Option.bind_eq_some_iff.1 hdj
                        have hned : dj ≠ d' := fun e' => ej (ok.uniq j q oj o' dj (hjs j (by simp)) hkn hoj ho' hodj (e' ▸ hd'))
                        simp only [look, beq_ne hned]
                        exact ih'
                have hE : look E d' = none := ok.apart q o' d' hkn ho' hd'
                have hF' := hin ((List.range nA).filter fun j => lst.getD j false) (List.mem_filter.2 ⟨List.mem_range.2 hkn, hlk⟩) (fun j hj => by
                  simp only [List.mem_filter, List.mem_range] at hj; exact hj.1)
                rw [look_append, look_append, hE, hF']
                by_cases hkd : q ∈ ds
                · rw [hin ds hkd (fun j hj => by have := (hdep j hj).2; omega)]; rfl
                · have hno : ∀ js, (∀ j ∈ js, j < nA) → q ∉ js → look (envN ops sp ch cv js) d' = none := by
                    intro js
                    induction js with
                    | nil => intro _ _; rfl
                    | cons j js ih =>
                      intro hjs hkj
                      have ih' := ih (fun j' hj' => hjs j' (by simp [hj'])) (fun h => hkj (by simp [h]))
                      unfold envN
                      cases hdj : (ops[j]?).bind (·.dst) with
                      | none => exact ih'
                      | some dj =>
                        obtain ⟨oj, hoj, hodj⟩ := Option.bind_eq_some_iff.1 hdj
                        have hned : dj ≠ d' := fun e' => hkj (by
                          have := ok.uniq j q oj o' dj (hjs j (by simp)) hkn hoj ho' hodj (e' ▸ hd')
                          simp [this])
                        simp only [look, beq_ne hned]
                        exact ih'
                  rw [hno ds (fun j hj => by have := (hdep j hj).2; omega) hkd]; rfl)
          a W h1 h2 (fits_append hfit (fits_append h3 (fits_envN _ (fun j hj o' d' ho' hd' => by
            simp only [List.mem_filter, List.mem_range] at hj
            exact h8 j o' d' hj.1 hj.2 ho' hd')))) h5
        unfold wpListIn at hwp
        unfold wpOpIn
        simp only [ho]
        split
        · rename_i hw
          rw [if_pos hw] at hwp
          exact wpIn_monoQ (fun a' W' h => h) (fun _ _ _ h => h) (fun h => h) hwp
        · rename_i hw
          rw [if_neg hw] at hwp
          exact hwp
    · -- it is the next one
      have him : i = m := by
        have h1 : ¬ i < m := fun h => by rw [(hlst i hi).2 h] at hun; cases hun
        have h2 : i ≤ m := Nat.le_of_not_lt fun h => by
          have h3 := ok.last i o (by omega) ho (fun k => lst.getD k false = true) (fun k o' h1 h2 e h3 h4 => hcl k o' h1 h2 e h3 h4) hready m h
          have := (hlst m (by omega)).1 h3
          omega
        omega
      subst him
      have hdrop : l.drop i = o :: l.drop (i + 1) := by
        have := hl i
        rw [ho] at this
        exact (List.drop_eq_getElem_cons (List.getElem?_eq_some_iff.1 this).1).trans (by rw [(List.getElem?_eq_some_iff.1 this).2])
      rw [hdrop] at hw
      have hnext : ∀ a' W', wpListIn (FW C.r) 0 C.P ops Q (l.drop (i + 1)) a' W' → Inv (lst.setIfInBounds i true) a' W' := fun a' W' h => by
        refine ⟨by simp [hls], hcl', .inr ⟨i + 1, by omega, fun k hk => ?_, h⟩⟩
        rw [getD_set lst i k hls hi]
        by_cases e : k = i
        · subst e; simp
        · rw [if_neg e, hlst k hk]; omega
      unfold wpListIn at hw
      unfold wpOpIn
      simp only [ho]
      split
      · rename_i hwant
        rw [if_pos hwant] at hw
        exact Oper.wpIn_mono hnext hw
      · rename_i hwant
        rw [if_neg hwant] at hw
        exact ⟨hw.1, hnext _ _ hw.2⟩
  -- the end
  have ready_iff : ∀ (lst : Array Bool) (i : Nat), lst.size = ops.size → (i ∈ Region.ready .any ops lst ↔ ∃ o, ops[i]? = some o ∧ lst.getD i false = false ∧ ∀ e ∈ o.after, Region.binds .any e = true → lst.getD e.on false = true) := by
    intro lst i hls
    simp only [Region.ready, List.mem_filter, List.mem_range, Bool.and_eq_true, Bool.not_eq_true']
    constructor
    · rintro ⟨hi, hf, hr⟩
      refine ⟨ops[i], Array.getElem?_eq_getElem hi, ?_, ?_⟩
      · simp only [Array.getD_eq_getD_getElem?] at hf ⊢
        rw [Array.getElem?_eq_getElem (by rw [hls]; exact hi)] at hf ⊢
        simpa using hf
      · rw [Array.getElem?_eq_getElem hi] at hr
        simp only [Option.map_some, Option.getD_some, Array.all_eq_true_iff_forall_mem, Bool.or_eq_true, Bool.not_eq_true'] at hr
        intro e he hb
        rcases hr e he with h | h
        · rw [hb] at h; cases h
        · exact h
    · rintro ⟨o, ho, hf, hr⟩
      have hi := hlt i o ho
      refine ⟨hi, ?_, ?_⟩
      · simp only [Array.getD_eq_getD_getElem?] at hf ⊢
        rw [Array.getElem?_eq_getElem (by rw [hls]; exact hi)] at hf ⊢
        simpa using hf
      · rw [ho]
        simp only [Option.map_some, Option.getD_some, Array.all_eq_true_iff_forall_mem, Bool.or_eq_true, Bool.not_eq_true']
        intro e he
        by_cases hb : Region.binds .any e = true
        · exact .inr (hr e he hb)
        · exact .inl (by simpa using hb)
  have last : ∀ (lst : Array Bool) a W, Inv lst a W → Region.ready .any ops lst = [] → Q .normal a W := by
    rintro lst a W ⟨hls, hcl, hI⟩ hr
    -- all are listed: else the least one that is not is ready
    have hall : ∀ i, i < ops.size → lst.getD i false = true := by
      intro i
      induction i using Nat.strongRecOn with
      | _ i ih =>
        intro hi
        cases hf : lst.getD i false with
        | true => rfl
        | false =>
          have : i ∈ Region.ready .any ops lst := (ready_iff lst i hls).2 ⟨ops[i], Array.getElem?_eq_getElem hi, hf, fun e he hb => by
            have := ok.back i ops[i] (Array.getElem?_eq_getElem hi) e he hb
            exact ih e.on this (by omega)⟩
          rw [hr] at this; cases this
    rcases hI with ⟨⟨k, hk, hkf⟩, _⟩ | ⟨m, hnm, hlst, hw⟩
    · rw [hall k (Nat.lt_of_lt_of_le hk ok.le)] at hkf; cases hkf
    · have hm : ops.size ≤ m := Nat.le_of_not_lt fun h => by
        have := (hlst m h).1 (hall m h); omega
      rw [List.drop_eq_nil_of_le (by omega)] at hw
      exact hw
  have any : ∀ (fuel : Nat) (lst : Array Bool) a W, Inv lst a W → (List.range ops.size).countP (fun i => !lst.getD i false) ≤ fuel → wpAnyIn (FW C.r) 0 C.P .any ops Q fuel lst a W := by
    intro fuel
    induction fuel with
    | zero =>
      intro lst a W hI hc
      have hz : Region.ready .any ops lst = [] := by
        apply List.eq_nil_iff_forall_not_mem.2
        intro i hi
        obtain ⟨o, ho, hf, _⟩ := (ready_iff lst i hI.1).1 hi
        have := List.countP_eq_zero.1 (Nat.le_zero.1 hc) i (List.mem_range.2 (hlt i o ho))
        simp [hf] at this
      exact ⟨hz, last lst a W hI hz⟩
    | succ fuel ih =>
      intro lst a W hI hc
      refine ⟨last lst a W hI, fun i hi => ?_⟩
      obtain ⟨o, ho, hf, hr⟩ := (ready_iff lst i hI.1).1 hi
      refine wpOpIn_mono (fun a' W' hI' => ih _ a' W' hI' ?_) (hstep lst a W hI i o ho hf hr)
      have hlt' := hlt i o ho
      have hcount : (List.range ops.size).countP (fun k => !(lst.setIfInBounds i true).getD k false) < (List.range ops.size).countP (fun k => !lst.getD k false) := by
        refine countP_strict _ (fun k _ hk => ?_) ⟨i, List.mem_range.2 hlt', by simp [hf], ?_⟩
        · rw [getD_set lst i k hI.1 hlt'] at hk
          by_cases e : k = i
          · rw [if_pos e] at hk; cases hk
          · rw [if_neg e] at hk; exact hk
        · rw [getD_set lst i i hI.1 hlt', if_pos rfl]; rfl
      omega
  have hrep : ∀ k, (Array.replicate ops.size false).getD k false = false := fun k => by
    simp only [Array.getD_eq_getD_getElem?, Array.getElem?_replicate]
    split <;> rfl
  have hS0 : St G L H { W with drawn := W.drawn + 1 } := hS.step (below_drawn W _)
  have hA0 : InvN C ops nA ch sp Ph E D G (fun i => (Array.replicate ops.size false).getD i false) a { W with drawn := W.drawn + 1 } :=
    ⟨_, L, H, hsize, hD, hF, h0, hS0, List.length_map _, fun k c _ => ⟨fun h => (Bool.false_ne_true ((hrep c).symm.trans h)).elim, fun ⟨v, h⟩ => by rw [List.getElem?_map] at h; cases hx : ch[k]? <;> rw [hx] at h <;> simp at h⟩, fun i _ _ _ h => (Bool.false_ne_true ((hrep i).symm.trans h)).elim⟩
  refine wpAnyIn_sound ops.size t _ a _ (any ops.size (Array.replicate ops.size false) a _ ?_ ?_)
  · have hcl0 : ∀ (k : Nat) (o : Oper), ops[k]? = some o → (Array.replicate ops.size false).getD k false = true → ∀ e ∈ o.after, Region.binds .any e = true → (Array.replicate ops.size false).getD e.on false = true := fun k o _ h => by rw [hrep k] at h; cases h
    by_cases hz : nA = 0
    · exact close _ _ _ (by simp) hcl0 (fun i hi => by omega) (fun i _ => hrep i) hA0
    · exact ⟨by simp, hcl0, .inl ⟨⟨0, by omega, hrep 0⟩, fun i _ => hrep i, hA0⟩⟩
  · exact Nat.le_trans List.countP_le_length (by simp)
section
variable {C : Cx} {Q : Post} {E : Env} {D : List Deferred} {G : Gh} {L : List World} {H : Heap} {id : Nat}
def PureAllN (C : Cx) (ops : Array Oper) (G : Gh) (E : Env) (sp : Sp) (ch : List Nat) (Ph : List (Option Value) → List World → Heap → Prop) : List Oper → Sp → Prop
  | o :: l, (ds, some u) :: ss => (∀ cv L' H', cv.length = ch.length → depsInN ch ds cv = true → Ph cv L' H' → X C ops G L' H' (envN ops sp ch cv ds ++ E) (fun _ => True) o (fun v _ => v = u)) ∧ PureAllN C ops G E sp ch Ph l ss
  | _ :: l, (_, none) :: ss => PureAllN C ops G E sp ch Ph l ss
  | _, _ => True
theorem pureAllN_at {ops : Array Oper} {sp : Sp} {ch : List Nat} {Ph : List (Option Value) → List World → Heap → Prop} : ∀ (l : List Oper) (ss : Sp), PureAllN C ops G E sp ch Ph l ss → ∀ (i : Nat) (o : Oper) (ds : List Nat) (u : Value), l[i]? = some o → ss[i]? = some (ds, some u) →
    ∀ cv L' H', cv.length = ch.length → depsInN ch ds cv = true → Ph cv L' H' → X C ops G L' H' (envN ops sp ch cv ds ++ E) (fun _ => True) o (fun v _ => v = u)
  | [], _, _, i, o, ds, u, hl, _ => by simp at hl
  | _ :: _, [], _, i, o, ds, u, _, hs => by simp at hs
  | o' :: l, (ds', some u') :: ss, h, i, o, ds, u, hl, hs => by
    cases i with
    | zero => simp at hl hs; obtain ⟨rfl, rfl⟩ := hs; subst hl; exact h.1
    | succ i => exact pureAllN_at l ss h.2 i o ds u (by simpa using hl) (by simpa using hs)
  | o' :: l, (ds', none) :: ss, h, i, o, ds, u, hl, hs => by
    cases i with
    | zero => simp at hs
    | succ i => exact pureAllN_at l ss h i o ds u (by simpa using hl) (by simpa using hs)
theorem qc {ops : Array Oper} {sp : Sp} {ch : List Nat} {Ph : List (Option Value) → List World → Heap → Prop} {o : Oper} {l : List Oper} {ds : List Nat} {u : Value} {ss : Sp}
    (h : ∀ cv L' H', cv.length = ch.length → depsInN ch ds cv = true → Ph cv L' H' → X C ops G L' H' (envN ops sp ch cv ds ++ E) (fun _ => True) o (fun v _ => v = u)) (t : PureAllN C ops G E sp ch Ph l ss) : PureAllN C ops G E sp ch Ph (o :: l) ((ds, some u) :: ss) := ⟨h, t⟩
theorem qk {ops : Array Oper} {sp : Sp} {ch : List Nat} {Ph : List (Option Value) → List World → Heap → Prop} {o : Oper} {l : List Oper} {ds : List Nat} {ss : Sp} (t : PureAllN C ops G E sp ch Ph l ss) : PureAllN C ops G E sp ch Ph (o :: l) ((ds, none) :: ss) := t
theorem qn {ops : Array Oper} {sp : Sp} {ch : List Nat} {Ph : List (Option Value) → List World → Heap → Prop} {l : List Oper} : PureAllN C ops G E sp ch Ph l [] := by cases l <;> trivial
def StepAllN (C : Cx) (l : List Oper) (G : Gh) (E : Env) (D : List Deferred) (sp : Sp) (ch : List Nat) (rqs : List (List Nat)) (Ph : List (Option Value) → List World → Heap → Prop) : Nat → List Nat → Prop
  | _, [] => True
  | k, c :: rest => (∀ (rq : List Nat) (o : Oper) (ds : List Nat) (d : Nat), rqs[k]? = some rq → l[c]? = some o → sp[c]? = some (ds, none) → o.dst = some d → ∀ cv L' H', cv.length = ch.length → readyB rq k cv = true → Ph cv L' H' → ∀ (F : Env) (Q' : Post),
      (∀ v L'' H'', Ph (cv.set k (some v)) L'' H'' → PJ C Q' .normal ((d, v) :: (envN l.toArray sp ch cv ds ++ (E ++ F))) D G L'' H'') → OJ C l.toArray Q' [o] (envN l.toArray sp ch cv ds ++ (E ++ F)) D G L' H') ∧ StepAllN C l G E D sp ch rqs Ph (k + 1) rest
theorem stepAllN_at {l : List Oper} {sp : Sp} {ch : List Nat} {rqs : List (List Nat)} {Ph : List (Option Value) → List World → Heap → Prop} : ∀ (rest : List Nat) (n : Nat), StepAllN C l G E D sp ch rqs Ph n rest → ∀ (k c : Nat) (rq : List Nat) (o : Oper) (ds : List Nat) (d : Nat), rest[k]? = some c → rqs[n + k]? = some rq → l[c]? = some o → sp[c]? = some (ds, none) → o.dst = some d →
    ∀ cv L' H', cv.length = ch.length → readyB rq (n + k) cv = true → Ph cv L' H' → ∀ (F : Env) (Q' : Post), (∀ v L'' H'', Ph (cv.set (n + k) (some v)) L'' H'' → PJ C Q' .normal ((d, v) :: (envN l.toArray sp ch cv ds ++ (E ++ F))) D G L'' H'') → OJ C l.toArray Q' [o] (envN l.toArray sp ch cv ds ++ (E ++ F)) D G L' H'
  | [], _, _, k, c, _, _, _, _, h, _, _, _, _ => by simp at h
  | c' :: rest, n, h, k, c, rq, o, ds, d, hk, hr, hl, hs, hd => by
    cases k with
    | zero => simp at hk; subst hk; exact h.1 rq o ds d hr hl hs hd
    | succ k =>
      rw [show n + (k + 1) = n + 1 + k by omega] at hr ⊢
      exact stepAllN_at rest (n + 1) h.2 k c rq o ds d (by simpa using hk) hr hl hs hd
theorem nc {l : List Oper} {sp : Sp} {ch : List Nat} {rqs : List (List Nat)} {Ph : List (Option Value) → List World → Heap → Prop} {k c : Nat} {rest rq : List Nat} {o : Oper} {ds : List Nat} {d : Nat} (h0 : rqs[k]? = some rq) (h1 : l[c]? = some o) (h2 : sp[c]? = some (ds, none)) (h3 : o.dst = some d)
    (h : ∀ cv L' H', cv.length = ch.length → readyB rq k cv = true → Ph cv L' H' → ∀ (F : Env) (Q' : Post), (∀ v L'' H'', Ph (cv.set k (some v)) L'' H'' → PJ C Q' .normal ((d, v) :: (envN l.toArray sp ch cv ds ++ (E ++ F))) D G L'' H'') → OJ C l.toArray Q' [o] (envN l.toArray sp ch cv ds ++ (E ++ F)) D G L' H')
    (t : StepAllN C l G E D sp ch rqs Ph (k + 1) rest) : StepAllN C l G E D sp ch rqs Ph k (c :: rest) :=
  ⟨fun rq' o' ds' d' e0 e1 e2 e3 => by
    rw [h0] at e0; cases e0
    rw [h1] at e1; cases e1
    rw [h2] at e2; cases e2
    rw [h3] at e3; cases e3
    exact h, t⟩
theorem nn {l : List Oper} {sp : Sp} {ch : List Nat} {rqs : List (List Nat)} {Ph : List (Option Value) → List World → Heap → Prop} {k : Nat} : StepAllN C l G E D sp ch rqs Ph k [] := trivial
theorem CJ.nt {l : List Oper} (nA : Nat) (ch : List Nat) (sp : Sp) (rqs : List (List Nat)) (Ph : List (Option Value) → List World → Heap → Prop) (hm : C.P.follows .mixedOrders = true)
    (h0 : Ph (ch.map fun _ => none) L H) (hok : drawOkB l.toArray nA (sp.map (·.1)) E = true) (hN : dstOk C.N l = true) (hch : netB l ch 0 rqs = true) (hnd : nodupB ch = true) (hpt : partB ch 0 sp = true) (hlt' : ch.all (fun c => Nat.blt c nA) = true) (hrq : rqs.length = ch.length)
    (pure : PureAllN C l.toArray G E sp ch Ph l sp) (step : StepAllN C l G E D sp ch rqs Ph 0 ch)
    (fin : ∀ cv L' H', cv.length = ch.length → cv.all (fun x => x.isSome) = true → Ph cv L' H' → OJ C l.toArray Q (l.drop nA) (envN l.toArray sp ch cv (List.range nA) ++ E) D G L' H') :
    CJ C (.region id l.toArray true) Q E D G L H :=
  CJ.net nA ch sp rqs Ph hm h0 hok hN hch hnd hpt hlt' (pureAllN_at l sp pure) (fun k c rq o ds d hk hr hl hs hd cv L' H' hlen hrd => by
    have := stepAllN_at ch 0 step k c rq o ds d hk (by rw [Nat.zero_add]; exact hr) hl hs hd cv L' H' hlen
    rw [Nat.zero_add] at this
    exact this hrd) hrq fin
theorem PJ.swp {e : Exit} {p q : Nat × Obj} (k : PJ C Q e E D G L (p :: q :: H)) : PJ C Q e E D G L (q :: p :: H) := fun a W hN hD hF hS => k a W hN hD hF (hS.perm (List.Perm.swap p q H))
end
end Px
