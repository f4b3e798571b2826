/- The specification of SHA-256, and more lemmas for the walks. No condition beyond those that each theorem states. -/
import Derived.Test.YtjmmhdkjjmlnlaaGreatDoorXb
import Derived.Laws.MakeOwn
import Derived.Laws.IdiomStrings
set_option linter.unusedSimpArgs false
set_option linter.unusedVariables false
set_option linter.unusedSectionVars false
namespace Px
open Go Go.RowKit
/-! #### numbers of 32 bits -/
abbrev u32 (x : BitVec 32) : Value := .int .u32 (x.toNat : Int)
theorem w32 (x : BitVec 32) : IntKind.u32.wrap (x.toNat : Int) = (x.toNat : Int) := by
  rw [wrap_u32']; have := x.isLt; omega
theorem bv32 (x : BitVec 32) : BitVec.ofInt IntKind.u32.bits (x.toNat : Int) = x := by
  show BitVec.ofInt 32 (x.toNat : Int) = x
  rw [BitVec.ofInt_natCast, BitVec.ofNat_toNat, BitVec.setWidth_eq]
section
variable {C : Cx} {E : Env} {G : Gh} {L : List World} {H : Heap} {T U : Nat} {x y : Operand} {a b : BitVec 32}
theorem addV_r (hx : ev E x = some (u32 a)) (hy : ev E y = some (u32 b)) : RV C G L H E (.binOp .add T x y U) (u32 (a + b)) :=
  RV.re (addW_r hx hy) (congrArg (Value.int .u32) (by rw [wrap_u32', BitVec.toNat_add]; omega))
theorem xorV_r (hx : ev E x = some (u32 a)) (hy : ev E y = some (u32 b)) : RV C G L H E (.binOp .xor T x y U) (u32 (a ^^^ b)) :=
  RV.re (xorW_r hx hy) (congrArg (Value.int .u32) (by rw [bv32, bv32]; exact w32 (a ^^^ b)))
theorem andV_r (hx : ev E x = some (u32 a)) (hy : ev E y = some (u32 b)) : RV C G L H E (.binOp .and T x y U) (u32 (a &&& b)) :=
  RV.re (andW_r hx hy) (congrArg (Value.int .u32) (by rw [bv32, bv32]; exact w32 (a &&& b)))
theorem orV_r (hx : ev E x = some (u32 a)) (hy : ev E y = some (u32 b)) : RV C G L H E (.binOp .or T x y U) (u32 (a ||| b)) :=
  RV.re (orW_r hx hy) (congrArg (Value.int .u32) (by rw [bv32, bv32]; exact w32 (a ||| b)))
theorem shlV_r {K' : IntKind} (j : Nat) (hj : j ≤ 32) {n : Int} (hn : n = (j : Int)) (hx : ev E x = some (u32 a)) (hy : ev E y = some (.int K' n)) : RV C G L H E (.binOp .shl T x y U) (u32 (a <<< j)) := by
  subst hn
  refine RV.re (shlW_r hx hy (Int.natCast_nonneg _)) (congrArg (Value.int .u32) ?_)
  have e : min (Int.toNat (j : Int)) IntKind.u32.bits = j := by simp [IntKind.bits]; omega
  rw [e, wrap_u32', BitVec.toNat_shiftLeft, Nat.shiftLeft_eq]
  simp
theorem shrV_r {K' : IntKind} (j : Nat) (hj : j ≤ 32) {n : Int} (hn : n = (j : Int)) (hx : ev E x = some (u32 a)) (hy : ev E y = some (.int K' n)) : RV C G L H E (.binOp .shr T x y U) (u32 (a >>> j)) := by
  subst hn
  refine RV.re (shrW_r hx hy (Int.natCast_nonneg _)) (congrArg (Value.int .u32) ?_)
  have e : min (Int.toNat (j : Int)) IntKind.u32.bits = j := by simp [IntKind.bits]; omega
  rw [e, fdiv_pow, BitVec.toNat_ushiftRight, Nat.shiftRight_eq_div_pow]
  simp
theorem cvtV_r {S T' : Nat} {ds : TypeDesc} {K : IntKind} {m : Int} (hU1 : C.P.underlying S = some ds) (hT : C.P.underlying T' = some (.int .u32)) (hx : ev E x = some (.int K m)) : RV C G L H E (.convert S T' x) (u32 (BitVec.ofInt 32 m)) :=
  RV.re (cvtW_r hU1 hT hx) (congrArg (Value.int .u32) (by rw [wrap_u32', BitVec.toNat_ofInt]; omega))
end
def ror32 (v : BitVec 32) (n : Nat) : BitVec 32 := v >>> n ||| v <<< (32 - n)
/-! #### cells by a function -/
def cf (n : Nat) (f : Nat → Value) : Array Value := ((List.range n).map f).toArray
theorem cf_at (n : Nat) (f : Nat → Value) (i : Nat) (h : i < n) : (cf n f)[i]? = some (f i) := by simp [cf, h]
theorem cf_size (n : Nat) (f : Nat → Value) : (cf n f).size = n := by simp [cf]
def upd {α : Type} (f : Nat → α) (i : Nat) (v : α) : Nat → α := fun j => if j = i then v else f j
theorem cf_set (n : Nat) (f : Nat → Value) (i : Nat) (v : Value) : setCells (cf n f) i [v] = cf n (upd f i v) := by
  apply Array.ext'
  rw [setCells_toList]
  simp only [cf]
  apply List.ext_getElem?
  intro j
  have key : ∀ (l : List Value) (k : Nat), setL l k [v] = l.set k v := by
    intro l
    induction l with
    | nil => intro k; cases k <;> rfl
    | cons c l ih => intro k; cases k with
      | zero => simp [setL, setL_nil]
      | succ k => simp [setL, ih]
  rw [key]
  by_cases hj : j = i
  · subst hj
    by_cases hn : j < n
    · rw [List.getElem?_set_self (by simpa using hn)]; simp [hn, upd]
    · rw [List.getElem?_eq_none (by simp; omega), List.getElem?_eq_none (by simp; omega)]
  · rw [List.getElem?_set_ne (fun e => hj e.symm)]
    by_cases hn : j < n
    · simp [hn, upd, hj]
    · rw [List.getElem?_eq_none (by simp; omega), List.getElem?_eq_none (by simp; omega)]
theorem cf_congr {n : Nat} {f g : Nat → Value} (h : ∀ i, i < n → f i = g i) : cf n f = cf n g := by
  unfold cf
  congr 1
  apply List.map_congr_left
  intro i hi
  exact h i (by simpa using hi)
/-! #### SHA-256, as numbers -/
def K256 : List (BitVec 32) := [1116352408, 1899447441, 3049323471, 3921009573, 961987163, 1508970993, 2453635748, 2870763221, 3624381080, 310598401, 607225278, 1426881987, 1925078388, 2162078206, 2614888103, 3248222580, 3835390401, 4022224774, 264347078, 604807628, 770255983, 1249150122, 1555081692, 1996064986, 2554220882, 2821834349, 2952996808, 3210313671, 3336571891, 3584528711, 113926993, 338241895, 666307205, 773529912, 1294757372, 1396182291, 1695183700, 1986661051, 2177026350, 2456956037, 2730485921, 2820302411, 3259730800, 3345764771, 3516065817, 3600352804, 4094571909, 275423344, 430227734, 506948616, 659060556, 883997877, 958139571, 1322822218, 1537002063, 1747873779, 1955562222, 2024104815, 2227730452, 2361852424, 2428436474, 2756734187, 3204031479, 3329325298]
def kk (i : Nat) : BitVec 32 := K256.getD i 0
def H256 : List (BitVec 32) := [1779033703, 3144134277, 1013904242, 2773480762, 1359893119, 2600822924, 528734635, 1541459225]
def hh (i : Nat) : BitVec 32 := H256.getD i 0
def wordOf (m : Nat → Int) (o : Nat) : BitVec 32 := BitVec.ofInt 32 (m o) <<< 24 ||| BitVec.ofInt 32 (m (o + 1)) <<< 16 ||| BitVec.ofInt 32 (m (o + 2)) <<< 8 ||| BitVec.ofInt 32 (m (o + 3))
def s0 (x : BitVec 32) : BitVec 32 := ror32 x 7 ^^^ ror32 x 18 ^^^ x >>> 3
def s1 (x : BitVec 32) : BitVec 32 := ror32 x 17 ^^^ ror32 x 19 ^^^ x >>> 10
/-- the words of a block after the first n of 64 have been laid -/
def schN (m : Nat → Int) : Nat → Nat → BitVec 32
  | 0 => fun _ => 0
  | n + 1 => upd (schN m n) n (if n < 16 then wordOf m (4 * n) else schN m n (n - 16) + s0 (schN m n (n - 15)) + schN m n (n - 7) + s1 (schN m n (n - 2)))
structure S8 where
  a : BitVec 32
  b : BitVec 32
  c : BitVec 32
  d : BitVec 32
  e : BitVec 32
  f : BitVec 32
  g : BitVec 32
  h : BitVec 32
def chf (e f g : BitVec 32) : BitVec 32 := (e &&& f) ^^^ ((~~~ e) &&& g)
def maj (a b c : BitVec 32) : BitVec 32 := (a &&& b) ^^^ (a &&& c) ^^^ (b &&& c)
theorem chf_alt (e f g : BitVec 32) : g ^^^ (e &&& (f ^^^ g)) = chf e f g := by
  unfold chf
  apply BitVec.eq_of_getLsbD_eq
  intro i hi
  simp only [BitVec.getLsbD_xor, BitVec.getLsbD_and, BitVec.getLsbD_not, hi, decide_true, Bool.true_and]
  cases e.getLsbD i <;> cases f.getLsbD i <;> cases g.getLsbD i <;> rfl
theorem maj_alt (a b c : BitVec 32) : (a &&& b) ||| (c &&& (a ||| b)) = maj a b c := by
  unfold maj
  apply BitVec.eq_of_getLsbD_eq
  intro i hi
  simp only [BitVec.getLsbD_xor, BitVec.getLsbD_and, BitVec.getLsbD_or]
  cases a.getLsbD i <;> cases b.getLsbD i <;> cases c.getLsbD i <;> rfl
def S8.P (s : S8) (k w : BitVec 32) : BitVec 32 := s.h + (ror32 s.e 6 ^^^ ror32 s.e 11 ^^^ ror32 s.e 25) + chf s.e s.f s.g + k + w
def S8.Q (s : S8) : BitVec 32 := (ror32 s.a 2 ^^^ ror32 s.a 13 ^^^ ror32 s.a 22) + maj s.a s.b s.c
def S8.step (s : S8) (k w : BitVec 32) : S8 := ⟨s.P k w + s.Q, s.a, s.b, s.c, s.d + s.P k w, s.e, s.f, s.g⟩
def S8.run (w : Nat → BitVec 32) (s : S8) : Nat → S8
  | 0 => s
  | n + 1 => (S8.run w s n).step (kk n) (w n)
def S8.add (s t : S8) : S8 := ⟨s.a + t.a, s.b + t.b, s.c + t.c, s.d + t.d, s.e + t.e, s.f + t.f, s.g + t.g, s.h + t.h⟩
/-- the state after a block -/
def S8.comp (s : S8) (m : Nat → Int) : S8 := s.add (s.run (schN m 64) 64)
def S8.at (s : S8) : Nat → BitVec 32
  | 0 => s.a | 1 => s.b | 2 => s.c | 3 => s.d | 4 => s.e | 5 => s.f | 6 => s.g | _ => s.h
def S8.cells (s : S8) : Array Value := #[u32 s.a, u32 s.b, u32 s.c, u32 s.d, u32 s.e, u32 s.f, u32 s.g, u32 s.h]
def S8.init : S8 := ⟨1779033703, 3144134277, 1013904242, 2773480762, 1359893119, 2600822924, 528734635, 1541459225⟩
/-- how many blocks -/
def nBlk (n : Nat) : Nat := (n + 72) / 64
/-- the bytes with their end -/
def padF (n : Nat) (m : Nat → Int) (i : Nat) : Int :=
  if i < n then m i else if i = n then 128 else if i < 64 * nBlk n - 8 then 0 else ((8 * n / 2 ^ (8 * (64 * nBlk n - 1 - i)) : Nat) : Int) % 256
def stN (n : Nat) (m : Nat → Int) : Nat → S8
  | 0 => S8.init
  | j + 1 => (stN n m j).comp (fun i => padF n m (64 * j + i))
def outB (s : S8) (i : Nat) : Int := ((s.at (i / 4)).toNat / 2 ^ (24 - 8 * (i % 4)) % 256 : Nat)
/-- SHA-256 -/
def sha (n : Nat) (m : Nat → Int) : Nat → Int := outB (stN n m (nBlk n))
theorem sha_byt (n : Nat) (m : Nat → Int) : ∀ i, 0 ≤ sha n m i ∧ sha n m i < 256 := fun i => by unfold sha outB; omega
theorem S8.cells_cf (s : S8) : s.cells = cf 8 (fun i => u32 (s.at i)) := rfl
theorem S8.cells_at (s : S8) (i : Nat) (h : i < 8) : s.cells[i]? = some (u32 (s.at i)) := by rw [S8.cells_cf]; exact cf_at 8 _ i h
end Px
namespace Px
open Go Go.RowKit
theorem perm_erase {α : Type} : ∀ (H : List α) (i : Nat) (p : α), H[i]? = some p → H.Perm (p :: H.eraseIdx i)
  | [], i, p, h => by simp at h
  | q :: H, 0, p, h => by simp at h; subst h; simp
  | q :: H, i + 1, p, h => by
    simp only [List.getElem?_cons_succ] at h
    simp only [List.eraseIdx_cons_succ]
    exact ((perm_erase H i p h).cons q).trans (List.Perm.swap _ _ _)
theorem perm_set {α : Type} : ∀ (H : List α) (i : Nat) (q : α), i < H.length → (H.set i q).Perm (q :: H.eraseIdx i)
  | [], i, q, h => by simp at h
  | r :: H, 0, q, _ => by simp
  | r :: H, i + 1, q, h => by
    simp only [List.set_cons_succ, List.eraseIdx_cons_succ]
    exact ((perm_set H i q (by simpa using h)).cons r).trans (List.Perm.swap _ _ _)
section
variable {G : Gh} {L : List World} {H : Heap} {W : World}
/-- an own block is left for a new one -/
theorem St.renew (h : St G L H W) {i b : Nat} {o : Obj} (o' : Obj) (hi : H[i]? = some (b, o)) (ha : Above L b) : St G L (H.set i (W.heap.size, o')) (W.alloc o') := by
  have hil := (List.getElem?_eq_some_iff.1 hi).1
  have hp : H.Perm ((b, o) :: H.eraseIdx i) := perm_erase H i _ hi
  have h1 := (h.perm hp).drop ha
  exact (h1.alloc o').perm (perm_set H i _ hil).symm
/-- an own block is given up -/
theorem St.dropAt (h : St G L H W) {i b : Nat} {o : Obj} (hi : H[i]? = some (b, o)) (ha : Above L b) : St G L (H.eraseIdx i) W := by
  have hil := (List.getElem?_eq_some_iff.1 hi).1
  have hp : H.Perm ((b, o) :: H.eraseIdx i) := perm_erase H i _ hi
  exact (h.perm hp).drop ha
end
/-- what is read first -/
def Rd (C : Cx) (G : Gh) (L : List World) (H : Heap) (size n : Nat) (v : Value) (news : List Value) : Prop :=
  ∀ W, St G L H W → (Builtin.firstCells size n v).run C.P W = .ok news.toArray W
section
variable {C : Cx} {Q : Post} {E : Env} {D : List Deferred} {G : Gh} {L : List World} {H : Heap} {ops : Array Oper} {l : List Oper}
variable {d T ty f : Nat} {pos : String} {aft : Array Edge} {g : Option (Nat × Bool)} {x y : Operand} {xs : List Operand} {vs : List Value} {tys : Array Nat}
theorem rd_at {P : Program} {W : World} {b off size n k c t : Nat} {cs : Array Value} {fr : Nat × Nat} (h : W.heap[b]? = some (.cells cs t fr)) (hn : off + n * size ≤ cs.size) :
    (Builtin.firstCells size n (.slice (some ⟨b, off, none⟩) k c)).run P W = .ok (cut cs off (n * size)) W := by
  simp only [Builtin.firstCells]
  rw [run_loadCells h hn, extract_cut]
theorem Rd.own {size n b off k c t i : Nat} {cs : Array Value} {fr : Nat × Nat} {news : List Value} (hi : H[i]? = some (b, .cells cs t fr)) (hn : off + n * size ≤ cs.size) (he : (cs.toList.drop off).take (n * size) = news) :
    Rd C G L H size n (.slice (some ⟨b, off, none⟩) k c) news := fun W hS => by rw [rd_at (hS.own _ (List.mem_of_getElem? hi)) hn]; unfold cut; rw [he]
theorem Rd.old {size n b off k c t : Nat} {cs : Array Value} {fr : Nat × Nat} {news : List Value} {w1 : World} (hm : w1 ∈ L) (hb : w1.heap[b]? = some (.cells cs t fr)) (hG : ¬ G.X b) (hO : Off H b) (hn : off + n * size ≤ cs.size) (he : (cs.toList.drop off).take (n * size) = news) :
    Rd C G L H size n (.slice (some ⟨b, off, none⟩) k c) news := fun W hS => by rw [rd_at (hS.old hm hb hG hO) hn]; unfold cut; rw [he]
theorem Rd.nil {size c : Nat} : Rd C G L H size 0 (.slice none 0 c) [] := fun W _ => by simp [Builtin.firstCells]
theorem Rd.str {s : ByteArray} : Rd C G L H 1 s.size (.string s) (byteCells s) := fun W _ => firstCells_string s W
/-- a source of elements -/
structure SrcJ (C : Cx) (G : Gh) (L : List World) (H : Heap) (size tx : Nat) (x : Value) (n : Nat) (news : List Value) : Prop where
  kind : (∃ e', C.P.underlying tx = some (.slice e')) ∨ C.P.underlying tx = some .string
  len : ∀ w' : World, (Builtin.lenOf x).run C.P w' = .ok n w'
  rd : Rd C G L H size n x news
  newsLen : news.length = n * size
  one : ∀ u ∈ news, u.oneCell' = true
theorem SrcJ.src {size tx : Nat} {v : Value} {n : Nat} {news : List Value} (h : SrcJ C G L H size tx v n news) {W : World} (hS : St G L H W) : Src C.P size tx v n news W :=
  ⟨h.kind, h.len, h.rd W hS, h.rd W.drew (hS.step (below_drawn W _)), h.newsLen, h.one⟩
theorem SrcJ.sl {size tx e' n c : Nat} {a : Option Addr} {news : List Value} (hU : C.P.underlying tx = some (.slice e')) (hr : Rd C G L H size n (.slice a n c) news) (hl : news.length = n * size) (h1 : ∀ u ∈ news, u.oneCell' = true) :
    SrcJ C G L H size tx (.slice a n c) n news := ⟨.inl ⟨e', hU⟩, fun _ => rfl, hr, hl, h1⟩
theorem heap_setCells (b : Nat) : ∀ (news : List Value) (o : Nat) (W : World) (cs : Array Value) (t : Nat), W.heap[b]? = some (.cells cs t (0, 0)) →
    Keep (· = b) W (W.setCells b o news) ∧ (W.setCells b o news).heap[b]? = some (.cells (setCells cs o news) t (0, 0))
  | [], o, W, cs, t, h => ⟨Keep.refl _ _, h⟩
  | v :: vs, o, W, cs, t, h => by
    obtain ⟨h1, h2⟩ := heap_setCells b vs (o + 1) (W.setCell ⟨b, o, none⟩ v) _ t (heap_setCell v h)
    exact ⟨(keep_setCell W b o v).trans h1, h2⟩
/-- append to an own row (the i-th own block) -/
theorem appW {i b e n len cap m t tx : Nat} {ti : TypeInfo} {z sv : Value} {ys sp news : List Value} (hi : H[i]? = some (b, .cells (ys ++ sp).toArray e (0, 0)))
    (hU : C.P.underlying t = some (.slice e)) (hti : C.P.info? e = some ti) (hz : ti.zero = some z) (hm : ti.size = m) (hzs : z.cells.size = m)
    (hw : wantE ops E g = some true) (hN : Nat.blt d C.N = true) (hx : ev E x = some (.slice (some ⟨b, 0, none⟩) len cap)) (hy : ev E y = some sv)
    (hs : SrcJ C G L H m tx sv n news) (hlen : ys.length = len * m) (hsp : sp.length = (cap - len) * m) (hlc : len ≤ cap) (ha : Above L b)
    (h63 : len + n ≤ 9223372036854775807) (hbytes : (len + n) * ti.bytes ≤ 140737488355328)
    (k : ∀ (b' cap' : Nat) (sp' : List Value), Above L b' → len + n ≤ cap' → sp'.length = (cap' - (len + n)) * m →
      OJ C ops Q l ((d, .slice (some ⟨b', 0, none⟩) (len + n) cap') :: E) D G L (H.set i (b', .cells (ys ++ news ++ sp').toArray e (0, 0)))) :
    OJ C ops Q (⟨some d, .call ⟨.builtin .append, #[x, y], #[t, tx]⟩, ty, pos, aft, g⟩ :: l) E D G L H :=
  OJ.go (by simp) hw hN fun a W hF hS => by
    subst hm
    have hsrc := hs.src hS
    have hb := hS.own _ (List.mem_of_getElem? hi)
    have hex : ∀ {v W'}, (Builtin.append_ #[t, tx] ty #[.slice (some ⟨b, 0, none⟩) len cap, sv]).run C.P W = .ok v W' → (execOp a.eval ⟨some d, .call ⟨.builtin .append, #[x, y], #[t, tx]⟩, ty, pos, aft, g⟩).run C.P W = .ok (.value v) W' := by
      intro v W' hr
      simp [execOp, hF.ev hx, hF.ev hy, resolve, invoke, Deferred.ofValue, builtin, hr]
    have hnl := hs.newsLen
    by_cases hroom : len + n ≤ cap
    · have hle : (len + n) * ti.size ≤ cap * ti.size := Nat.mul_le_mul_right _ hroom
      have hsz : (ys ++ sp).toArray.size = cap * ti.size := by
        simp only [List.size_toArray, List.length_append, hlen, hsp]
        rw [← Nat.add_mul]; congr 1; omega
      rw [Nat.add_mul] at hle
      have hr := run_append_room_src (P := C.P) W t tx ty e ti hU hti b 0 len cap sv n news hsrc hroom
        (fun j hj => by rw [cell_at hb]; simp only [Nat.zero_add]; rw [Array.getElem?_eq_getElem (by omega)]; rfl)
        (fun j hj => by simp [World.frozen?, hb])
      obtain ⟨h1, h2⟩ := heap_setCells b news (0 + len * ti.size) W _ _ hb
      have hsp' : (sp.drop (n * ti.size)).length = (cap - (len + n)) * ti.size := by
        rw [List.length_drop, hsp, ← Nat.sub_mul]; congr 1; omega
      have hc : setCells (ys ++ sp).toArray (0 + len * ti.size) news = (ys ++ news ++ sp.drop (n * ti.size)).toArray := by
        apply Array.ext'
        rw [setCells_toList, Nat.zero_add, ← hlen]
        show setL (ys ++ sp) ys.length news = _
        have hspl : n * ti.size ≤ sp.length := by rw [hsp, ← hnl, hnl]; exact Nat.mul_le_mul_right _ (by omega)
        conv => lhs; rw [← List.take_append_drop (n * ti.size) sp]
        rw [setL_mid _ _ _ _ (by rw [List.length_take]; omega), List.append_assoc]
      rw [hc] at h2
      exact ⟨_, _, _, _, hex hr, hS.put hi h1 h2, k b cap _ ha hroom hsp'⟩
    · have hold : (Builtin.firstCells ti.size len (.slice (some ⟨b, 0, none⟩) len cap)).run C.P W.drew = .ok ys.toArray W.drew := by
        have hb' : W.drew.heap[b]? = some (.cells (ys ++ sp).toArray e (0, 0)) := hb
        rw [rd_at hb' (by simp only [List.size_toArray, List.length_append, hlen]; omega)]
        unfold cut
        simp only [List.drop_zero, ← hlen]
        rw [List.take_left' rfl]
      have hr := run_append_grow_src (P := C.P) W t tx ty e ti z hU hti hz (some ⟨b, 0, none⟩) len cap ys hold sv n news hsrc (by omega) (by omega) (growslice_fits (by omega) hbytes)
      have hg := grownCap_ge W (len + n) cap e
      have hS' := (hS.step (below_drawn W (W.drawn + 1))).renew (.cells ((ys ++ news).toArray ++ Builtin.zeroCells z.cells (grownCap W (len + n) cap e - (len + n))) e (0, 0)) hi ha
      have hzl : (Builtin.zeroCells z.cells (grownCap W (len + n) cap e - (len + n))).toList.length = (grownCap W (len + n) cap e - (len + n)) * ti.size := by
        simp [Builtin.zeroCells, hzs]
      have hc : (ys ++ news).toArray ++ Builtin.zeroCells z.cells (grownCap W (len + n) cap e - (len + n)) = (ys ++ news ++ (Builtin.zeroCells z.cells (grownCap W (len + n) cap e - (len + n))).toList).toArray := by
        apply Array.ext'; simp
      rw [hc] at hS' hr
      exact ⟨_, _, _, _, hex hr, hS', k W.heap.size _ _ hS.sizes hg hzl⟩
/-- bounds of a slice expression -/
def BE (E : Env) : Option Operand → Nat → Nat → Prop
  | none, d, l => l = d
  | some o, _, l => ∃ K i, ev E o = some (.int K i) ∧ i = (l : Int)
theorem BE.val {a : Act} (hF : Fits E a) : ∀ {lo : Option Operand} {d' l : Nat}, BE E lo d' l → (lo.map a.eval = none ∧ l = d') ∨ ∃ K, lo.map a.eval = some (.int K (l : Int))
  | none, _, _, h => .inl ⟨rfl, h⟩
  | some o, _, _, h => by obtain ⟨K, i, h, rfl⟩ := h; exact .inr ⟨K, by simp [hF.ev h]⟩
theorem run_sb {P : Program} {W : World} {a : Act} (hF : Fits E a) (s : Bool) {n c l h : Nat} {lo hi : Option Operand} (hl : BE E lo 0 l) (hh : BE E hi n h) (h1 : l ≤ h) (h2 : h ≤ c) :
    (Instr.sliceBounds s n c (lo.map a.eval) (hi.map a.eval) none).run P W = .ok (l, h, c) W := by
  rcases hl.val hF with ⟨e1, e2⟩ | ⟨K, e1⟩ <;> rcases hh.val hF with ⟨f1, f2⟩ | ⟨K', f1⟩ <;> rw [e1, f1]
  · subst e2; subst f2; simp [Instr.sliceBounds]
  · subst e2; simp [Instr.sliceBounds, Instr.sliceBound, asIntOf, h2]
  · subst f2; simp [Instr.sliceBounds, Instr.sliceBound, asIntOf, h1]
  · simp [Instr.sliceBounds, Instr.sliceBound, asIntOf, h1, h2]
theorem slS_r {b off n c e m l h off' : Nat} {lo hi : Option Operand} (hU : C.P.underlying T = some (.slice e)) (hZ : SizeF C.P e m) (hx : ev E x = some (.slice (some ⟨b, off, none⟩) n c)) (hl : BE E lo 0 l) (hh : BE E hi n h)
    (h1 : l ≤ h) (h2 : h ≤ c) (ho : off' = if c = l then off else off + l * m) : RV C G L H E (.slice T x lo hi none) (.slice (some ⟨b, off', none⟩) (h - l) (c - l)) := fun d ty pos aft g a W hF _ => by
  subst ho
  have := run_sb (P := C.P) (W := W) hF true hl hh h1 h2
  simp [execOp, hF.ev hx, Instr.sliceAt, Instr.slice, run_underlying hU, this, hZ W, add_lit]
  split <;> rfl
theorem slA_r {b off n e m l h off' : Nat} {lo hi : Option Operand} (hU : C.P.underlying T = some (.array n e)) (hZ : SizeF C.P e m) (hx : ev E x = some (ptr b off)) (hl : BE E lo 0 l) (hh : BE E hi n h)
    (h1 : l ≤ h) (h2 : h ≤ n) (ho : off' = if n = l then off else off + l * m) : RV C G L H E (.slice T x lo hi none) (.slice (some ⟨b, off', none⟩) (h - l) (n - l)) := fun d ty pos aft g a W hF _ => by
  subst ho
  have := run_sb (P := C.P) (W := W) hF false hl hh h1 h2
  simp [execOp, hF.ev hx, Instr.sliceAt, run_underlying hU, Instr.sureAddr, this, hZ W, add_lit]
  split <;> rfl
theorem slS0_r {b off n c e m h : Nat} {hi : Option Operand} (hU : C.P.underlying T = some (.slice e)) (hZ : SizeF C.P e m) (hx : ev E x = some (.slice (some ⟨b, off, none⟩) n c)) (hh : BE E hi n h)
    (h2 : h ≤ c) : RV C G L H E (.slice T x none hi none) (.slice (some ⟨b, off, none⟩) h c) := slS_r (l := 0) hU hZ hx rfl hh (Nat.zero_le _) h2 (by split <;> omega)
theorem slA0_r {b off n e m h : Nat} {hi : Option Operand} (hU : C.P.underlying T = some (.array n e)) (hZ : SizeF C.P e m) (hx : ev E x = some (ptr b off)) (hh : BE E hi n h)
    (h2 : h ≤ n) : RV C G L H E (.slice T x none hi none) (.slice (some ⟨b, off, none⟩) h n) := slA_r (l := 0) hU hZ hx rfl hh (Nat.zero_le _) h2 (by split <;> omega)
theorem mkFF_r {fn : Fn} {fs xs : List Operand} {us vs : List Value} (hf : evs E fs = some us) (ha : evs E xs = some vs) : RV C G L H E (.makeFunc fn fs.toArray xs.toArray) (.func fn us.toArray vs.toArray) := fun d ty pos aft g a W hF _ => by
  have h1 : (fs.toArray).map a.eval = us.toArray := by rw [List.map_toArray, evs_map hF fs us hf]
  have h2 : (xs.toArray).map a.eval = vs.toArray := by rw [List.map_toArray, evs_map hF xs vs ha]
  simp [execOp, Instr.makeFunc, h1, h2]
theorem nilC_r {a : Addr} (hx : ev E x = some (.pointer (some a))) : RV C G L H E (.nilCheck x) (.pointer (some a)) := fun d ty pos aft g a' W hF _ => by
  simp [execOp, hF.ev hx]
theorem negI_r {m : Int} (hx : ev E x = some (.int .i64 m)) (h0 : -9223372036854775807 ≤ m) (h1 : m ≤ 9223372036854775807) : RV C G L H E (.unOp .neg T x) (.int .i64 (-m)) := fun d ty pos aft g a W hF _ => by
  simp [execOp, hF.ev hx, Op.unary, Op.intArith, wrap_i64 (n := -m) (by omega) (by omega)]
theorem capS_r {base : Option Addr} {n c e t : Nat} (hU : C.P.underlying t = some (.slice e)) (hx : ev E x = some (.slice base n c)) : RV C G L H E (.call ⟨.builtin .cap, #[x], #[t]⟩) (.int .i64 (c : Int)) := fun d ty pos aft g a W hF _ => by
  simp [execOp, hF.ev hx, resolve, invoke, Deferred.ofValue, builtin, Builtin.cap_, run_underlying hU, goInt]
/-- copy into an own block (the i-th) -/
theorem cpW {i b t off n k len cap m e tx t' : Nat} {cs : Array Value} {sv : Value} {news : List Value} (hi : H[i]? = some (b, .cells cs t' (0, 0))) (hU : C.P.underlying t = some (.slice e)) (hZ : SizeF C.P e m)
    (hw : wantE ops E g = some true) (hN : Nat.blt d C.N = true) (hx : ev E x = some (.slice (some ⟨b, off, none⟩) len cap)) (hy : ev E y = some sv) (hlen : ∀ w' : World, (Builtin.lenOf sv).run C.P w' = .ok k w') (hn : n = min k len)
    (hs : Rd C G L H m n sv news) (hl : off + news.length ≤ cs.size) (h1 : oneCells news = true) (kk : OJ C ops Q l ((d, .int .i64 (n : Int)) :: E) D G L (H.set i (b, .cells (setCells cs off news) t' (0, 0)))) :
    OJ C ops Q (⟨some d, .call ⟨.builtin .copy, #[x, y], #[t, tx]⟩, ty, pos, aft, g⟩ :: l) E D G L H :=
  OJ.go (by simp) hw hN fun a W hF hS => by
    have hb := hS.own _ (List.mem_of_getElem? hi)
    obtain ⟨W', hr, hk, hb'⟩ := run_storeCells (P := C.P) (off := off) news 0 cs W hb (by omega) h1
    refine ⟨_, W', _, _, ?_, hS.put hi hk hb', kk⟩
    have hrd := hs W hS
    subst hn
    simp [execOp, hF.ev hx, hF.ev hy, resolve, invoke, Deferred.ofValue, builtin, Builtin.copy_, run_underlying hU, hlen W, hZ W, Nat.min_def] at hrd ⊢
    split <;> simp_all [goInt]
/-- make: an own block -/
theorem mkSW {e t ln cp : Nat} {kl kc : IntKind} {ti : TypeInfo} {z : Value} (hU : C.P.underlying t = some (.slice e)) (hti : C.P.info? e = some ti) (hz : ti.zero = some z) (h1 : z.cells = #[z]) (hm : ti.size = 1) (hw : wantE ops E g = some true) (hN : Nat.blt d C.N = true)
    (hx : ev E x = some (.int kl (ln : Int))) (hy : ev E y = some (.int kc (cp : Int))) (hlc : ln ≤ cp) (hb : ti.bytes * cp ≤ 281474976710656) (h63 : cp ≤ 9223372036854775807)
    (k : ∀ (b : Nat), Above L b → Off H b → OJ C ops Q l ((d, .slice (some ⟨b, 0, none⟩) ln cp) :: E) D G L ((b, .cells (cf cp (fun _ => z)) e (0, 0)) :: H)) :
    OJ C ops Q (⟨some d, .makeSlice t x y, ty, pos, aft, g⟩ :: l) E D G L H :=
  OJ.go (by simp) hw hN fun a W hF hS => by
    have hr := run_make (P := C.P) W t e ti z hU hti hz kl kc ln cp (Int.natCast_nonneg _) (by omega) (by
      have : ((ti.bytes * cp : Nat) : Int) ≤ 281474976710656 := by omega
      rwa [Int.natCast_mul] at this) (by omega)
    simp only [Int.toNat_natCast, hm, Nat.mul_one] at hr
    have hc : madeCells z.cells cp = cf cp (fun _ => z) := by
      apply Array.ext'
      rw [h1]
      simp [madeCells, cf, Nat.mod_one]
    rw [hc] at hr
    exact ⟨_, _, _, _, by simp [execOp, hF.ev hx, hF.ev hy, hr], hS.alloc _, k W.heap.size hS.sizes hS.offNew⟩
theorem OJ.dropAt {i b : Nat} {o : Obj} (hi : H[i]? = some (b, o)) (ha : Above L b) (k : OJ C ops Q l E D G L (H.eraseIdx i)) : OJ C ops Q l E D G L H := fun a W hN hD hF hS => k a W hN hD hF (hS.dropAt hi ha)
theorem CJ.dropAt {c : Code} {i b : Nat} {o : Obj} (hi : H[i]? = some (b, o)) (ha : Above L b) (k : CJ C c Q E D G L (H.eraseIdx i)) : CJ C c Q E D G L H := fun a W hN hD hF hS => k a W hN hD hF (hS.dropAt hi ha)
theorem PJ.dropAt {e' : Exit} {i b : Nat} {o : Obj} (hi : H[i]? = some (b, o)) (ha : Above L b) (k : PJ C Q e' E D G L (H.eraseIdx i)) : PJ C Q e' E D G L H := fun a W hN hD hF hS => k a W hN hD hF (hS.dropAt hi ha)
end
end Px
namespace Px
open Go Go.RowKit
theorem run_append_zeros {P : Program} (W : World) (t tx ty e : TypeId) (i : TypeInfo) (z : Value) (ht : P.underlying t = some (.slice e)) (htx : P.underlying tx = some (.int .i64)) (hi : P.info? e = some i) (hz : i.zero = some z) (hzc : z.cells = #[z]) (hs : i.size = 1) (hb : i.bytes = 1)
    (n : Nat) (h0 : 0 < n) (h1 : n ≤ 1099511627776) :
    (Builtin.append_ #[t, tx] ty #[.slice none 0 0, .int .i64 (n : Int)]).run P W = .ok (.slice (some ⟨W.heap.size, 0, none⟩) n (grownCap W n 0 e))
      (W.drew.alloc (.cells (cf (grownCap W n 0 e) (fun _ => z)) e (0, 0))) := by
  have hw : IntKind.i64.wrap (n : Int) = (n : Int) := wrap_i64 (by omega) (by omega)
  have h48 : ¬ (281474976710656 < Builtin.nextslicecap n 0 * i.bytes) := by
    have := growslice_fits (need := n) (old := 0) (bytes := i.bytes) (by omega) (by rw [hb]; omega)
    omega
  have hge := grownCap_ge W n 0 e
  have hzc' : ∀ k, Builtin.zeroCells z.cells k = cf k (fun _ => z) := by
    intro k
    apply Array.ext'
    rw [hzc]
    simp [Builtin.zeroCells, cf, Nat.mod_one]
  have hcat : cf n (fun _ => z) ++ cf (grownCap W n 0 e - n) (fun _ => z) = cf (grownCap W n 0 e) (fun _ => z) := by
    apply Array.ext'
    simp only [cf, Array.toList_append]
    rw [List.map_const', List.map_const', List.map_const']
    simp only [List.length_range]
    rw [List.replicate_append_replicate]
    congr 1
    omega
  rw [← hcat]
  simp [Builtin.append_, run_underlying ht, run_underlying htx, Go.sizeOf, typeInfo, zeroValue, hi, hz, asInt, asIntOf, hw, hs, hb, show ¬ ((n : Int) < 0) by omega, show ¬ (281474976710656 < (n : Int)) by omega, Nat.not_le.2 h0,
    show ¬ (9223372036854775807 < (n : Int)) by omega, Question.forced, Builtin.firstCells, newRow, grownCap, hzc', show n ≠ 0 by omega] at h48 ⊢
  intro h; omega
/-- a row of bytes somewhere in memory -/
structure Seg where
  b : Nat
  off : Nat
  n : Nat
  c : Nat
  m : Nat → Int
def Seg.val (s : Seg) : Value := .slice (some ⟨s.b, s.off, none⟩) s.n s.c
def byts (n : Nat) (m : Nat → Int) : List Value := (List.range n).map fun i => .int .u8 (m i)
def Seg.l (s : Seg) : List Value := byts s.n s.m
def Seg.At (s : Seg) (w : World) : Prop := ∃ cs t fr, w.heap[s.b]? = some (.cells cs t fr) ∧ s.off + s.n ≤ cs.size ∧ ∀ i, i < s.n → cs[s.off + i]? = some (.int .u8 (s.m i))
theorem byts_len (n : Nat) (m : Nat → Int) : (byts n m).length = n := by simp [byts]
theorem byts_one (n : Nat) (m : Nat → Int) : ∀ u ∈ byts n m, u.oneCell' = true := by
  intro u hu
  obtain ⟨i, _, rfl⟩ := List.mem_map.1 hu
  rfl
theorem byts_of {cs : Array Value} {off n : Nat} {m : Nat → Int} (h : off + n ≤ cs.size) (hm : ∀ i, i < n → cs[off + i]? = some (.int .u8 (m i))) : (cs.toList.drop off).take (n * 1) = byts n m := by
  apply List.ext_getElem?
  intro i
  by_cases hi : i < n
  · rw [List.getElem?_take_of_lt (by omega), List.getElem?_drop, Array.getElem?_toList, hm i hi]
    simp [byts, hi]
  · rw [List.getElem?_eq_none (by simp; omega), List.getElem?_eq_none (by rw [byts_len]; omega)]
def segsL : List Seg → List Value
  | [] => []
  | s :: ss => s.l ++ segsL ss
theorem segsL_snoc (ss : List Seg) (s : Seg) : segsL (ss ++ [s]) = segsL ss ++ s.l := by
  induction ss with
  | nil => simp [segsL]
  | cons x ss ih => simp [segsL, ih]
theorem segsL_take (ss : List Seg) (j : Nat) (h : j < ss.length) : segsL (ss.take (j + 1)) = segsL (ss.take j) ++ ss[j].l := by
  rw [List.take_succ_eq_append_getElem h, segsL_snoc]
theorem segsL_take_le (ss : List Seg) : ∀ j, (segsL (ss.take j)).length ≤ (segsL ss).length := by
  induction ss with
  | nil => intro j; simp [segsL]
  | cons x ss ih => intro j; cases j with
    | zero => simp [segsL]
    | succ j => simp only [List.take_succ_cons, segsL, List.length_append]; have := ih j; omega
section
variable {C : Cx} {Q : Post} {E : Env} {D : List Deferred} {G : Gh} {L : List World} {H : Heap} {ops : Array Oper} {l : List Oper}
variable {d T ty f : Nat} {pos : String} {aft : Array Edge} {g : Option (Nat × Bool)} {x y : Operand}
/-- append(nil, make([]T, n)...): an own row -/
theorem appZ {n e t tx : Nat} {ti : TypeInfo} {z : Value} (hU : C.P.underlying t = some (.slice e)) (hUx : C.P.underlying tx = some (.int .i64)) (hti : C.P.info? e = some ti) (hz : ti.zero = some z) (hzc : z.cells = #[z]) (hs : ti.size = 1) (hb : ti.bytes = 1)
    (hw : wantE ops E g = some true) (hN : Nat.blt d C.N = true) (hx : ev E x = some (.slice none 0 0)) (hy : ev E y = some (.int .i64 (n : Int))) (h0 : 0 < n) (h1 : n ≤ 1099511627776)
    (k : ∀ (b cap : Nat), Above L b → Off H b → n ≤ cap → OJ C ops Q l ((d, .slice (some ⟨b, 0, none⟩) n cap) :: E) D G L ((b, .cells (cf cap (fun _ => z)) e (0, 0)) :: H)) :
    OJ C ops Q (⟨some d, .call ⟨.builtin .append, #[x, y], #[t, tx]⟩, ty, pos, aft, g⟩ :: l) E D G L H :=
  OJ.go (by simp) hw hN fun a W hF hS => by
    have hr := run_append_zeros (P := C.P) W t tx ty e ti z hU hUx hti hz hzc hs hb n h0 h1
    have hS' := (hS.step (below_drawn W (W.drawn + 1))).alloc (.cells (cf (grownCap W n 0 e) (fun _ => z)) e (0, 0))
    refine ⟨_, _, _, _, ?_, hS', k W.heap.size _ hS.sizes hS.offNew (grownCap_ge W n 0 e)⟩
    simp [execOp, hF.ev hx, hF.ev hy, resolve, invoke, Deferred.ofValue, builtin, hr]
/-- a call whose result's block becomes an own one -/
theorem callXA {f : Nat} {xs : List Operand} {vs : List Value} {tys : Array Nat} {α : Type} {v : α → Value} {bo : α → Nat × Obj} {Φ : α → Prop} (hent : Ent C.P f) (hw : wantE ops E g = some true) (hN : Nat.blt d C.N = true) (ha : evs E xs = some vs)
    (hc : ∀ W, St G L H W → Calls C.P f vs.toArray W (RetX W v (fun x w1 => W.heap.size ≤ (bo x).1 ∧ Φ x ∧ w1.heap[(bo x).1]? = some (bo x).2)))
    (k : ∀ x, Above L (bo x).1 → Off H (bo x).1 → Φ x → OJ C ops Q l ((d, v x) :: E) D G L (bo x :: H)) :
    OJ C ops Q (⟨some d, .call ⟨.value (.func f), xs.toArray, tys⟩, ty, pos, aft, g⟩ :: l) E D G L H :=
  call_gen rfl hw rfl ha (by simp) hent fun a W hN' hD hF hS => (hc W hS).mono (by
    rintro e W' ⟨x, rfl, hb, h1, h2, h3⟩
    have hoff : Off H (bo x).1 := Off.of_mem fun hm => by
      obtain ⟨p, hp, e⟩ := List.mem_map.1 hm
      have := hS.lt p hp
      omega
    have hab : Above L (bo x).1 := Above.of_mem fun w hw => Nat.le_trans (hS.links w hw).size h1
    exact k x hab hoff h2 (a.put (some d) (v x)) W' (by simp [Act.put, hN']) (by simp [Act.put, hD]) (hF.put _ (by rw [hN']; exact lt_of hN))
      ((hS.step hb).adopt h3 hoff (fun hv => by have := hS.vlt _ hv; omega)))
/-- a string's bytes -/
def sB (s : ByteArray) (i : Nat) : Int := ((s.data[i]?.getD 0).toNat : Int)
theorem bytesRow_at (s : ByteArray) (c i : Nat) (h : i < s.size) : (bytesRow s c)[0 + i]? = some (.int .u8 (sB s i)) := by
  have h' : i < s.data.size := h
  rw [Nat.zero_add]
  unfold bytesRow sB
  rw [Array.getElem?_append_left (by simpa using h')]
  simp only [Array.getElem?_map, Array.getElem?_eq_getElem h', Option.map_some, Option.getD_some]
theorem bytesRow_size (s : ByteArray) (c : Nat) : s.size ≤ (bytesRow s c).size := by
  unfold bytesRow
  simp only [Array.size_append, Array.size_map]
  exact Nat.le_add_right _ _
theorem cvtSB {src dst e : Nat} {s : ByteArray} (hs : C.P.underlying src = some .string) (hd : C.P.underlying dst = some (.slice e)) (he : C.P.underlying e = some (.int .u8)) (hw : wantE ops E g = some true) (hN : Nat.blt d C.N = true) (hx : ev E x = some (.string s))
    (k : ∀ (b cap : Nat) (w1 : World) (cs : Array Value) (fr : Nat × Nat), w1.heap[b]? = some (.cells cs e fr) → Above L b → Off H b → ¬ G.X b → w1.heap.size = b + 1 → s.size ≤ cap → 0 + s.size ≤ cs.size → (∀ i, i < s.size → cs[0 + i]? = some (.int .u8 (sB s i))) →
      OJ C ops Q l ((d, .slice (some ⟨b, 0, none⟩) s.size cap) :: E) D G (w1 :: L) H) :
    OJ C ops Q (⟨some d, .convert src dst x, ty, pos, aft, g⟩ :: l) E D G L H :=
  OJ.go (by simp) hw hN fun a W hF hS => by
    have hr := run_bytes_of_string (P := C.P) W src dst e s hs hd he
    have hS' := ((hS.step (below_drawn W (W.drawn + 1))).step (below_alloc _ (.cells (bytesRow s (grownCap W s.size 0 e)) e ((bytesRow s (grownCap W s.size 0 e)).size, (bytesRow s (grownCap W s.size 0 e)).size + 1)))).snap
    refine ⟨_, _, _, _, ?_, hS', k W.heap.size _ _ _ _ (heap_alloc_new W.drew _) hS.sizes hS.offNew hS.mNew (by simp) (grownCap_ge W s.size 0 e) (by rw [Nat.zero_add]; exact bytesRow_size s _) (fun i hi => bytesRow_at s _ i hi)⟩
    simp [execOp, hF.ev hx, hr]
/-- an array of parts one after the other -/
theorem bldQ_r {n e m : Nat} {z : Value} {ps : List (Nat × Operand)} {vs : List (Nat × Value)} (hU : C.P.underlying T = some (.array n e)) (hz : ZeroF C.P T z) (hp : SizeF C.P e m)
    (ha : evp E ps = some vs) (hs : vs = seqP 0 (vs.map (·.2))) (hl : z.cells.size = vs.length * m) (hm : szAll m (vs.map (·.2)) = true) : RV C G L H E (.build T ps.toArray) (.agg (flatL (vs.map (·.2))).toArray) := fun d ty pos aft g a W hF _ => by
  have hf := fill_of (pl := fun i => some (i * m, m)) (ps := vs) (cs := z.cells) (ds := flatL (vs.map (·.2))) (by
    have := fill_seq m (vs.map (·.2)) 0 [] z.cells.toList hm (by simp) (by simpa using hl)
    rw [← hs, List.nil_append, List.nil_append] at this
    exact this)
  have h2 : (ps.toArray).map (fun (i, x) => (i, a.eval x)) = vs.toArray := by rw [List.map_toArray, evp_map hF ps vs ha]
  simp [execOp, h2, Instr.build, hz W, run_underlying hU, hp W, hf]
theorem slN_r {e m : Nat} {hi : Option Operand} (hU : C.P.underlying T = some (.slice e)) (hZ : SizeF C.P e m) (hx : ev E x = some (.slice none 0 0)) (hh : BE E hi 0 0) : RV C G L H E (.slice T x none hi none) (.slice none 0 0) := fun d ty pos aft g a W hF _ => by
  have := run_sb (P := C.P) (W := W) hF true (lo := none) (hi := hi) (n := 0) (c := 0) (l := 0) (h := 0) rfl hh (Nat.le_refl _) (Nat.le_refl _)
  simp only [Option.map_none] at this
  simp [execOp, hF.ev hx, Instr.sliceAt, Instr.slice, run_underlying hU, this, hZ W]
end
end Px
namespace Px
open Go Go.RowKit
/-! ### a region that draws its order: a chain of operations among others whose values are known -/
abbrev Sp := List (List Nat × Option Value)
def posOf : List Nat → Nat → Nat
  | [], _ => 0
  | c :: ch, j => match Nat.beq c j with | true => 0 | false => posOf ch j + 1
def valOf (sp : Sp) (ch : List Nat) (cv : List Value) (j : Nat) : Value :=
  match sp[j]? with
  | some (_, some u) => u
  | _ => (cv[posOf ch j]?).getD undef
def envD (ops : Array Oper) (sp : Sp) (ch : List Nat) (cv : List Value) : List Nat → Env
  | [] => []
  | j :: js => match (ops[j]?).bind (·.dst) with
    | some d => (d, valOf sp ch cv j) :: envD ops sp ch cv js
    | none => envD ops sp ch cv js
theorem fits_envD {ops : Array Oper} {sp : Sp} {ch : List Nat} {cv : List Value} {a : Act} : ∀ (js : List Nat), (∀ j ∈ js, ∀ o d, ops[j]? = some o → o.dst = some d → a.eval (.tmp d) = valOf sp ch cv j) → Fits (envD ops sp ch cv js) a
  | [], _ => by intro t v hv; simp [envD, look] at hv
  | j :: js, h => by
    have ih := fits_envD (sp := sp) (ch := ch) (cv := cv) js (fun k hk => h k (by simp [hk]))
    unfold envD
    cases hd : (ops[j]?).bind (·.dst) with
    | none => exact ih
    | some d =>
      obtain ⟨o, ho, hod⟩ := Option.bind_eq_some_iff.1 hd
      have hv := h j (by simp) o d ho hod
      intro t v ht
      simp only [look] at ht
      by_cases e : d = t
      · subst e
        simp only [beq_self, Option.some.injEq] at ht
        rw [hv, ht]
      · simp only [beq_ne e] at ht
        exact ih t v ht
theorem posOf_at : ∀ (ch : List Nat) (k c : Nat), ch[k]? = some c → ch.Nodup → posOf ch c = k
  | [], k, c, h, _ => by simp at h
  | d :: ch, 0, c, h, _ => by simp at h; subst h; simp [posOf, beq_self]
  | d :: ch, k + 1, c, h, hn => by
    simp only [List.getElem?_cons_succ] at h
    obtain ⟨h1, h2⟩ := List.nodup_cons.1 hn
    have hne : ¬ d = c := fun e => h1 (e ▸ List.mem_of_getElem? h)
    simp only [posOf, beq_ne hne]
    rw [posOf_at ch k c h h2]
def chainB (ops : List Oper) : List Nat → Bool
  | c :: c' :: ch => ((masks ops []).getD c' 0).testBit c && chainB ops (c' :: ch)
  | _ => true
def nodupB : List Nat → Bool
  | [] => true
  | c :: ch => ch.all (fun j => !Nat.beq c j) && nodupB ch
theorem nodup_of : ∀ {ch : List Nat}, nodupB ch = true → ch.Nodup
  | [], _ => List.nodup_nil
  | c :: ch, h => by
    simp only [nodupB, Bool.and_eq_true, List.all_eq_true] at h
    refine List.nodup_cons.2 ⟨fun hm => ?_, nodup_of h.2⟩
    have := h.1 c hm
    simp [beq_self] at this
/-- the chain holds just those whose value is not known -/
def partB (ch : List Nat) : Nat → Sp → Bool
  | _, [] => true
  | i, (_, none) :: sp => ch.any (fun c => Nat.beq c i) && partB ch (i + 1) sp
  | i, (_, some _) :: sp => ch.all (fun c => !Nat.beq c i) && partB ch (i + 1) sp
theorem part_at (ch : List Nat) : ∀ (sp : Sp) (i : Nat), partB ch i sp = true → ∀ j ds, (sp[j]? = some (ds, none) → i + j ∈ ch) ∧ (∀ u, sp[j]? = some (ds, some u) → i + j ∉ ch)
  | [], i, _, j, ds => by simp
  | (d, none) :: sp, i, h, j, ds => by
    simp only [partB, Bool.and_eq_true, List.any_eq_true] at h
    cases j with
    | zero =>
      refine ⟨fun _ => ?_, fun u hu => by simp at hu⟩
      obtain ⟨c, hc, hb⟩ := h.1
      have := Nat.eq_of_beq_eq_true hb
      subst this; exact hc
    | succ j =>
      have := part_at ch sp (i + 1) h.2 j ds
      rw [show i + (j + 1) = i + 1 + j by omega]
      simpa using this
  | (d, some v) :: sp, i, h, j, ds => by
    simp only [partB, Bool.and_eq_true, List.all_eq_true] at h
    cases j with
    | zero =>
      refine ⟨fun hu => by simp at hu, fun u _ hm => ?_⟩
      have := h.1 _ hm
      simp [beq_self] at this
    | succ j =>
      have := part_at ch sp (i + 1) h.2 j ds
      rw [show i + (j + 1) = i + 1 + j by omega]
      simpa using this
theorem valOf_snoc {sp : Sp} {ch : List Nat} {cv : List Value} {v : Value} {j : Nat} (h : (∃ ds u, sp[j]? = some (ds, some u)) ∨ posOf ch j < cv.length) : valOf sp ch (cv ++ [v]) j = valOf sp ch cv j := by
  unfold valOf
  rcases h with ⟨ds, u, h⟩ | h
  · rw [h]
  · split
    · rfl
    · rw [List.getElem?_append_left h]
/-- what an operation needs of the chain is there -/
def depsIn (ch ds : List Nat) (n : Nat) : Bool := ds.all fun j => !(ch.any fun c => Nat.beq c j) || Nat.blt (posOf ch j) n
/-- the state on the way -/
def InvC (C : Cx) (ops : Array Oper) (nA : Nat) (ch : List Nat) (sp : Sp) (Ph : List Value → List World → Heap → Prop) (E : Env) (D : List Deferred) (G : Gh) (lst : Nat → Bool) (a : Act) (W : World) : Prop :=
  ∃ cv L' H', a.tmps.size = C.N ∧ a.defers = D ∧ Fits E a ∧ Ph cv L' H' ∧ St G L' H' W ∧ cv.length ≤ ch.length ∧ (∀ k c, ch[k]? = some c → (lst c = true ↔ k < cv.length)) ∧
    (∀ (i : Nat) (o : Oper) (d : Nat), i < nA → lst i = true → ops[i]? = some o → o.dst = some d → a.eval (.tmp d) = valOf sp ch cv i)
theorem wpIn_monoQ {F : Fence} {n : Nat} {P : Program} {Q Q' : Post} {o : Oper} {a : Act} {w : World} {K K' : Act → World → Prop} (h : ∀ a w, K a w → K' a w) (hq : ∀ c a w, Q (.panic c) a w → Q' (.panic c) a w) (hl : LetsOut Q → LetsOut Q')
    (hh : o.wpIn F n P a w K Q) : o.wpIn F n P a w K' Q' := by
  unfold Oper.wpIn at *
  refine ⟨hh.1, ?_⟩
  have hh := hh.2
  generalize (o.semAt F.round a.eval).run P w = r at *
  cases r with
  | ok x w' =>
    cases x <;> simp only [Oper.uponIn] at hh ⊢ <;>
      first
        | exact h _ _ hh
        | exact ⟨hh.1, CallsIn.mono hh.2 (fun e w'' he => by cases e <;> first | exact h _ _ he | exact hq _ _ _ he | exact hl he)⟩
        | exact ⟨hh.1, RowsIn.mono hh.2 (fun _ _ he => h _ _ he)⟩
        | exact ⟨hh.1, RoundIn.mono hh.2 (fun e w'' he => by cases e <;> first | exact h _ _ he | exact hq _ _ _ he | exact hl he)⟩
  | halt x w' => cases x <;> simp only [Oper.uponIn] at hh ⊢ <;> first | exact hh | exact hq _ _ _ hh
/-- a post at the end of an operation -/
def Qn (Q : Post) (K : Act → World → Prop) : Post := fun e a w => match e with | .normal => K a w | e => Q e a w
theorem CJ.chain {C : Cx} {Q : Post} {E : Env} {D : List Deferred} {G : Gh} {L : List World} {H : Heap} {l : List Oper} {id : Nat} (nA : Nat) (ch : List Nat) (sp : Sp) (Ph : List Value → List World → Heap → Prop) (hm : C.P.follows .mixedOrders = true)
    (h0 : Ph [] L H) (hok : drawOkB l.toArray nA (sp.map (·.1)) E = true) (hN : dstOk C.N l = true) (hch : chainB l ch = true) (hnd : nodupB ch = true) (hpt : partB ch 0 sp = true) (hlt' : ch.all (fun c => Nat.blt c nA) = true)
    (pure : ∀ (i : Nat) (o : Oper) (ds : List Nat) (u : Value), l[i]? = some o → sp[i]? = some (ds, some u) → ∀ cv L' H', depsIn ch ds cv.length = true → Ph cv L' H' → X C l.toArray G L' H' (envD l.toArray sp ch cv ds ++ E) (fun _ => True) o (fun v _ => v = u))
    (step : ∀ (k c : Nat) (o : Oper) (ds : List Nat) (d : Nat), ch[k]? = some c → l[c]? = some o → sp[c]? = some (ds, none) → o.dst = some d → ∀ cv L' H', cv.length = k → Ph cv L' H' → ∀ (F : Env) (Q' : Post),
      (∀ v L'' H'', Ph (cv ++ [v]) L'' H'' → PJ C Q' .normal ((d, v) :: (envD l.toArray sp ch cv ds ++ (E ++ F))) D G L'' H'') → OJ C l.toArray Q' [o] (envD l.toArray sp ch cv ds ++ (E ++ F)) D G L' H')
    (fin : ∀ cv L' H', cv.length = ch.length → Ph cv L' H' → OJ C l.toArray Q (l.drop nA) (envD l.toArray sp ch cv (List.range nA) ++ E) D G L' H') :
    CJ C (.region id l.toArray true) Q E D G L H := by
  have ok : DrawOk l.toArray nA (sp.map fun p => OS.det p.1 undef) E := drawOk_of (by
    rw [List.map_map]; exact hok)
  have hspl : sp.length = nA := by have := ok.len; simpa using this
  have hdeps : ∀ (i : Nat) (o : Oper) (ds : List Nat) (u : Option Value), l.toArray[i]? = some o → sp[i]? = some (ds, u) → ∀ j ∈ ds, ∃ e ∈ o.after, e.on = j ∧ Region.binds .any e = true := by
    intro i o ds u ho hs j hj
    exact ok.deps i o (.det ds undef) ho (by simp [hs]) j hj
  have hnodup := nodup_of hnd
  have hchA : ∀ k c, ch[k]? = some c → c < nA := fun k c h => by
    rw [List.all_eq_true] at hlt'; exact lt_of (hlt' c (List.mem_of_getElem? h))
  have hprev : ∀ k c c', ch[k]? = some c → ch[k + 1]? = some c' → ((masks l []).getD c' 0).testBit c = true := by
    clear hnodup hchA hlt' hpt hnd step fin h0
    clear pure
    induction ch with
    | nil => intro k c c' h; simp at h
    | cons x ch ih =>
      intro k c c' h1 h2
      cases ch with
      | nil => simp at h2
      | cons y ch =>
        simp only [chainB, Bool.and_eq_true] at hch
        cases k with
        | zero => simp at h1 h2; subst h1; subst h2; exact hch.1
        | succ k => exact ih hch.2 k c c' (by simpa using h1) (by simpa using h2)
  generalize hops : l.toArray = ops at *
  have hl : ∀ i : Nat, l[i]? = ops[i]? := fun i => by rw [← hops, List.getElem?_toArray]
  have hsz : ops.size = l.length := by rw [← hops]; simp
  intro a W hsize hD hF hS
  refine wpIn_region_draw fun t => ?_
  simp only [Region.schedule, hm, Bool.true_or, if_true]
  have hlt : ∀ (i : Nat) (o : Oper), ops[i]? = some o → i < ops.size := fun i o ho => (Array.getElem?_eq_some_iff.1 ho).1
  let Inv : Array Bool → Act → World → Prop := fun lst a W => lst.size = ops.size ∧ (∀ (k : Nat) (o : Oper), ops[k]? = some o → lst.getD k false = true → ∀ e ∈ o.after, Region.binds .any e = true → lst.getD e.on false = true) ∧
    (((∃ i, i < nA ∧ lst.getD i false = false) ∧ (∀ i, nA ≤ i → lst.getD i false = false) ∧ InvC C ops nA ch sp Ph E D G (fun i => lst.getD i false) a W) ∨
     (∃ m, nA ≤ m ∧ (∀ i, i < ops.size → (lst.getD i false = true ↔ i < m)) ∧ wpListIn (FW C.r) 0 C.P ops Q (l.drop m) a W))
  have close : ∀ (lst : Array Bool) a W, lst.size = ops.size → (∀ (k : Nat) (o : Oper), ops[k]? = some o → lst.getD k false = true → ∀ e ∈ o.after, Region.binds .any e = true → lst.getD e.on false = true) → (∀ i, i < nA → lst.getD i false = true) → (∀ i, nA ≤ i → lst.getD i false = false) → InvC C ops nA ch sp Ph E D G (fun i => lst.getD i false) a W → Inv lst a W := by
    rintro lst a W hls hcl hall hnone ⟨cv, L', H', h1, h2, h3, h4, h5, h6, h7, h8⟩
    refine ⟨hls, hcl, .inr ⟨nA, Nat.le_refl _, fun i hi => ⟨fun h => ?_, fun h => hall i h⟩, ?_⟩⟩
    · exact Nat.lt_of_not_le fun hle => by rw [hnone i hle] at h; cases h
    · have hlen : cv.length = ch.length := by
        refine Nat.le_antisymm h6 (Nat.le_of_not_lt fun h => ?_)
        have hc : ch[cv.length]? = some (ch[cv.length]'h) := List.getElem?_eq_getElem h
        have := (h7 _ _ hc).1 (hall _ (hchA _ _ hc))
        omega
      refine fin cv L' H' hlen h4 a W h1 h2 (fits_append ?_ h3) h5
      exact fits_envD _ (fun j hj o d ho hd => h8 j o d (List.mem_range.1 hj) (hall j (List.mem_range.1 hj)) ho hd)
  have getD_set : ∀ (lst : Array Bool) (i k : Nat), lst.size = ops.size → i < ops.size → (lst.setIfInBounds i true).getD k false = if k = i then true else lst.getD k false := by
    intro lst i k hls hi
    simp only [Array.getD_eq_getD_getElem?, Array.getElem?_setIfInBounds]
    by_cases e : i = k
    · subst e; simp [hls, hi]
    · simp [e, show ¬ k = i from fun h => e h.symm]
  have hstep : ∀ (lst : Array Bool) a W, Inv lst a W → ∀ (i : Nat) (o : Oper), ops[i]? = some o → lst.getD i false = false → (∀ e ∈ o.after, Region.binds .any e = true → lst.getD e.on false = true) →
      wpOpIn (FW C.r) 0 C.P ops Q i (fun a' W' => Inv (lst.setIfInBounds i true) a' W') a W := by
    rintro lst a W ⟨hls, hcl, hI⟩ i o ho hun hready
    have hi := hlt i o ho
    have hcl' : ∀ (k : Nat) (o' : Oper), ops[k]? = some o' → (lst.setIfInBounds i true).getD k false = true → ∀ e ∈ o'.after, Region.binds .any e = true → (lst.setIfInBounds i true).getD e.on false = true := by
      intro k o' ho' hk e he hb
      rw [getD_set lst i k hls hi] at hk
      rw [getD_set lst i e.on hls hi]
      by_cases e1 : e.on = i
      · rw [if_pos e1]
      · rw [if_neg e1]
        by_cases e2 : k = i
        · subst e2; rw [ho] at ho'; cases ho'; exact hready e he hb
        · rw [if_neg e2] at hk; exact hcl k o' ho' hk e he hb
    rcases hI with ⟨hex, hnone, cv, L', H', h1, h2, h3, h4, h5, h6, h7, h8⟩ | ⟨m, hnm, hlst, hw⟩
    · have hiA : i < nA := Nat.lt_of_not_le fun hle => by
        obtain ⟨k, hk, hkf⟩ := hex
        have := ok.last i o hle ho (fun k => lst.getD k false = true) (fun k o' h1 h2 e h3 h4 => hcl k o' h1 h2 e h3 h4) hready k (by omega)
        rw [hkf] at this; cases this
      obtain ⟨⟨ds, u⟩, hs⟩ : ∃ s, sp[i]? = some s := ⟨sp[i]'(by rw [hspl]; exact hiA), List.getElem?_eq_getElem _⟩
      obtain ⟨d, hd⟩ := ok.some_ i o hiA ho
      have hdN : d < C.N := dstOk_mem hN o (List.mem_of_getElem? (by rw [hl]; exact ho)) d hd
      have hdep : ∀ j ∈ ds, lst.getD j false = true ∧ j < i := fun j hj => by
        obtain ⟨e, he, hon, hb⟩ := hdeps i o ds u ho hs j hj
        exact ⟨hon ▸ hready e he hb, hon ▸ ok.back i o ho e he hb⟩
      have hfit : Fits (envD ops sp ch cv ds) a := fits_envD _ (fun j hj o' d' ho' hd' => h8 j o' d' (by have := (hdep j hj).2; omega) (hdep j hj).1 ho' hd')
      have hls' : (lst.setIfInBounds i true).size = ops.size := by simp [hls]
      have hnone' : ∀ k, nA ≤ k → (lst.setIfInBounds i true).getD k false = false := fun k hk => by
        rw [getD_set lst i k hls hi, if_neg (by omega)]; exact hnone k hk
      have hfin : ∀ a' W', InvC C ops nA ch sp Ph E D G (fun k => (lst.setIfInBounds i true).getD k false) a' W' → Inv (lst.setIfInBounds i true) a' W' := by
        intro a' W' hA
        by_cases hall : ∀ k, k < nA → (lst.setIfInBounds i true).getD k false = true
        · exact close _ _ _ hls' hcl' hall hnone' hA
        · refine ⟨hls', hcl', .inl ⟨?_, hnone', hA⟩⟩
          obtain ⟨k, hk⟩ := Classical.not_forall.1 hall
          obtain ⟨hk1, hk2⟩ := Classical.not_imp.1 hk
          exact ⟨k, hk1, by simpa using hk2⟩
      cases u with
      | some u =>
        -- its value is known
        have hnot : i ∉ ch := by have := (part_at ch sp 0 hpt i ds).2 u hs; simpa using this
        have hdi : depsIn ch ds cv.length = true := by
          simp only [depsIn, List.all_eq_true, Bool.or_eq_true, Bool.not_eq_true']
          intro j hj
          by_cases hc : (ch.any fun c => Nat.beq c j) = true
          · right
            obtain ⟨c, hcm, hcb⟩ := List.any_eq_true.1 hc
            have := Nat.eq_of_beq_eq_true hcb
            subst this
            obtain ⟨q, hq⟩ := List.mem_iff_getElem?.1 hcm
            rw [posOf_at ch q c hq hnodup]
            have := (h7 q c hq).1 (hdep c hj).1
            simpa [Nat.blt] using Nat.ble_eq_true_of_le this
          · left; exact Bool.eq_false_iff.2 hc
        have hx := pure i o ds u (by rw [hl]; exact ho) hs cv L' H' hdi h4 a W (fun a' W' => Inv (lst.setIfInBounds i true) a' W') Q h1 (fits_append hfit h3) h5 trivial (by
          rintro v W' hb rfl
          refine hfin _ _ ⟨cv, L', H', by simp [Act.put, hd, h1], by simp [Act.put, hd, h2], ?_, h4, h5.step hb, h6, ?_, ?_⟩
          · intro t u' hu
            have hne : d ≠ t := fun e => by subst e; rw [ok.apart i o d hiA ho hd] at hu; cases hu
            have := h3 t u' hu
            simp only [Act.eval, Act.put, hd] at this ⊢
            rw [← this]
            simp [Array.getElem?_setIfInBounds_ne hne]
          · intro k c hc
            show ((lst.setIfInBounds i true).getD c false = true ↔ _)
            rw [getD_set lst i c hls hi, if_neg (show ¬ c = i from fun e => hnot (by rw [← e]; exact List.mem_of_getElem? hc))]
            exact h7 k c hc
          · intro k o' d' hk hlk ho' hd'
            replace hlk : (lst.setIfInBounds i true).getD k false = true := hlk
            rw [getD_set lst i k hls hi] at hlk
            by_cases e : k = i
            · subst e
              rw [ho] at ho'; cases ho'
              rw [hd] at hd'; cases hd'
              simp [Act.eval, Act.put, hd, h1, hdN, valOf, hs]
            · rw [if_neg e] at hlk
              have hne : d ≠ d' := fun e' => e (ok.uniq k i o' o d hk hiA ho' ho (e' ▸ hd') hd)
              have := h8 k o' d' hk hlk ho' hd'
              simp only [Act.eval, Act.put, hd] at this ⊢
              rw [← this]
              simp [Array.getElem?_setIfInBounds_ne hne])
        unfold wpOpIn
        simp only [ho]
        split
        · rename_i hw; rw [if_pos hw] at hx; exact hx
        · rename_i hw; rw [if_neg hw] at hx; exact ⟨fun _ _ => trivial, hx⟩
      | none =>
        -- it is the next one of the chain
        have hmem : i ∈ ch := by have := (part_at ch sp 0 hpt i ds).1 hs; simpa using this
        obtain ⟨k, hk⟩ := List.mem_iff_getElem?.1 hmem
        have hkl : k = cv.length := by
          have hn : ¬ k < cv.length := fun h => by have h' : lst.getD i false = true := (h7 k i hk).2 h; rw [hun] at h'; cases h'
          rcases Nat.lt_or_ge cv.length k with hlt2 | hge
          · exfalso
            obtain ⟨k', rfl⟩ : ∃ k', k = k' + 1 := ⟨k - 1, by omega⟩
            have hk'l : k' < ch.length := by have := (List.getElem?_eq_some_iff.1 hk).1; omega
            have hk' : ch[k']? = some (ch[k']'hk'l) := List.getElem?_eq_getElem hk'l
            have hbit := hprev k' _ i hk' hk
            have hD' := masks_spec l (fun j => lst.getD j false = true) (fun j o' hj => hcl j o' (by rw [← hl]; exact hj)) (fun j o' hj => ok.back j o' (by rw [← hl]; exact hj)) l [] rfl (fun _ _ _ hk => by simp at hk) i o (by rw [hl]; exact ho) hready _ hbit
            have := (h7 k' _ hk').1 hD'
            omega
          · omega
        subst hkl
        have hwp := step cv.length i o ds d hk (by rw [hl]; exact ho) hs hd cv L' H' rfl h4 (envD ops sp ch cv ((List.range nA).filter fun j => lst.getD j false))
          (Qn Q (fun a' W' => Inv (lst.setIfInBounds i true) a' W')) (by
            intro v L'' H'' hP a' W' hs1 hs2 hs3 hs4
            refine hfin _ _ ⟨cv ++ [v], L'', H'', hs1, hs2, ?_, hP, hs4, ?_, ?_, ?_⟩
            · intro t u' hu
              have hne : d ≠ t := fun e => by subst e; rw [ok.apart i o d hiA ho hd] at hu; cases hu
              have hfit2 : Fits (envD ops sp ch cv ds ++ (E ++ envD ops sp ch cv ((List.range nA).filter fun j => lst.getD j false))) a' := fun t' v' h' => by
                by_cases e2 : d = t'
                · subst e2
                  exfalso
                  have hno : ∀ js, (∀ j ∈ js, j < nA ∧ j ≠ i) → look (envD ops sp ch cv js) d = none := by
                    intro js
                    induction js with
                    | nil => intro _; rfl
                    | cons j js ih =>
                      intro hjs
                      have ih' := ih fun j' hj' => hjs j' (by simp [hj'])
                      unfold envD
                      cases hdj : (ops[j]?).bind (·.dst) with
                      | none => exact ih'
                      | some d' =>
                        obtain ⟨oj, hoj, hodj⟩ := Option.bind_eq_some_iff.1 hdj
                        have hned : d' ≠ d := fun e' => (hjs j (by simp)).2 (ok.uniq j i oj o d' (hjs j (by simp)).1 hiA hoj ho hodj (e' ▸ hd))
                        simp only [look, beq_ne hned]
                        exact ih'
                  rw [look_append, look_append, hno ds (fun j hj => ⟨by have := (hdep j hj).2; omega, by have := (hdep j hj).2; omega⟩), ok.apart i o d hiA ho hd, hno _ (fun j hj => by
                    simp only [List.mem_filter, List.mem_range] at hj
                    exact ⟨hj.1, fun e => by subst e; rw [hun] at hj; cases hj.2⟩)] at h'
                  cases h'
                · exact hs3 t' v' (by simp only [look, beq_ne e2]; exact h')
              have h9 : look (envD ops sp ch cv ds ++ (E ++ envD ops sp ch cv ((List.range nA).filter fun j => lst.getD j false))) t = some u' := by
                rw [look_append, look_append, hu]
                have hno : look (envD ops sp ch cv ds) t = none := by
                  have : ∀ js, (∀ j ∈ js, j < nA) → look (envD ops sp ch cv js) t = none := by
                    intro js
                    induction js with
                    | nil => intro _; rfl
                    | cons j js ih =>
                      intro hjs
                      have ih' := ih fun j' hj' => hjs j' (by simp [hj'])
                      unfold envD
                      cases hdj : (ops[j]?).bind (·.dst) with
                      | none => exact ih'
                      | some d' =>
                        obtain ⟨oj, hoj, hodj⟩ := Option.bind_eq_some_iff.1 hdj
                        have hned : d' ≠ t := fun e' => by
                          subst e'
                          rw [ok.apart j oj d' (hjs j (by simp)) hoj hodj] at hu; cases hu
                        simp only [look, beq_ne hned]
                        exact ih'
                  exact this ds (fun j hj => by have := (hdep j hj).2; omega)
                rw [hno]; rfl
              exact hfit2 t u' h9
            · have := (List.getElem?_eq_some_iff.1 hk).1
              simp only [List.length_append, List.length_singleton]; omega
            · intro k c hc
              show ((lst.setIfInBounds i true).getD c false = true ↔ _)
              rw [getD_set lst i c hls hi]
              simp only [List.length_append, List.length_singleton]
              by_cases e : c = i
              · subst e
                rw [if_pos rfl]
                have h1 := posOf_at ch k c hc hnodup
                have h2 := posOf_at ch cv.length c hk hnodup
                constructor
                · intro _; omega
                · intro _; rfl
              · rw [if_neg e, h7 k c hc]
                constructor
                · intro h; omega
                · intro h
                  rcases Nat.lt_or_ge k cv.length with h' | h'
                  · exact h'
                  · exfalso
                    have : k = cv.length := by omega
                    subst this
                    rw [hk] at hc; cases hc; exact e rfl
            · intro k o' d' hkn hlk ho' hd'
              replace hlk : (lst.setIfInBounds i true).getD k false = true := hlk
              rw [getD_set lst i k hls hi] at hlk
              by_cases e : k = i
              · subst e
                rw [ho] at ho'; cases ho'
                rw [hd] at hd'; cases hd'
                have := hs3 d v (by simp [look, beq_self])
                rw [this]
                unfold valOf
                rw [hs]
                simp only
                rw [posOf_at ch cv.length k hk hnodup]
                simp
              · rw [if_neg e] at hlk
                have hne : d ≠ d' := fun e' => e (ok.uniq k i o' o d hkn hiA ho' ho (e' ▸ hd') hd)
                have hold : valOf sp ch (cv ++ [v]) k = valOf sp ch cv k := valOf_snoc (by
                  obtain ⟨⟨ds', u'⟩, hs'⟩ : ∃ s, sp[k]? = some s := ⟨sp[k]'(by rw [hspl]; exact hkn), List.getElem?_eq_getElem _⟩
                  cases u' with
                  | some u' => exact .inl ⟨ds', u', hs'⟩
                  | none =>
                    right
                    have hmem' : k ∈ ch := by have := (part_at ch sp 0 hpt k ds').1 hs'; simpa using this
                    obtain ⟨q, hq⟩ := List.mem_iff_getElem?.1 hmem'
                    rw [posOf_at ch q k hq hnodup]
                    exact (h7 q k hq).1 hlk)
                rw [hold]
                -- it stands in F
                refine hs3 d' _ ?_
                simp only [look, beq_ne hne]
                have hin : ∀ js, k ∈ js → (∀ j ∈ js, j < nA) → look (envD ops sp ch cv js) d' = some (valOf sp ch cv k) := by
                  intro js
                  induction js with
                  | nil => intro h; cases h
                  | cons j js ih =>
                    intro hkj hjs
                    unfold envD
                    by_cases ej : j = k
                    · subst ej
                      simp only [ho', Option.bind_some, hd', look, beq_self]
                    · have hkj' : k ∈ js := by
                        rcases List.mem_cons.1 hkj with h | h
                        · exact absurd h.symm ej
                        · exact h
                      have ih' := ih hkj' fun j' hj' => hjs j' (by simp [hj'])
                      cases hdj : (ops[j]?).bind (·.dst) with
                      | none => exact ih'
                      | some dj =>
                        obtain ⟨oj, hoj, hodj⟩ := Option.bind_eq_some_iff.1 hdj
                        have hned : dj ≠ d' := fun e' => ej (ok.uniq j k oj o' dj (hjs j (by simp)) hkn hoj ho' hodj (e' ▸ hd'))
                        simp only [look, beq_ne hned]
                        exact ih'
                have hE : look E d' = none := ok.apart k o' d' hkn ho' hd'
                have hF' := hin ((List.range nA).filter fun j => lst.getD j false) (List.mem_filter.2 ⟨List.mem_range.2 hkn, hlk⟩) (fun j hj => by
                  simp only [List.mem_filter, List.mem_range] at hj; exact hj.1)
                rw [look_append, look_append, hE, hF']
                by_cases hkd : k ∈ ds
                · rw [hin ds hkd (fun j hj => by have := (hdep j hj).2; omega)]; rfl
                · have hno : ∀ js, (∀ j ∈ js, j < nA) → k ∉ js → look (envD ops sp ch cv js) d' = none := by
                    intro js
                    induction js with
                    | nil => intro _ _; rfl
                    | cons j js ih =>
                      intro hjs hkj
                      have ih' := ih (fun j' hj' => hjs j' (by simp [hj'])) (fun h => hkj (by simp [h]))
                      unfold envD
                      cases hdj : (ops[j]?).bind (·.dst) with
                      | none => exact ih'
                      | some dj =>
                        obtain ⟨oj, hoj, hodj⟩ := Option.bind_eq_some_iff.1 hdj
                        have hned : dj ≠ d' := fun e' => hkj (by
                          have := ok.uniq j k oj o' dj (hjs j (by simp)) hkn hoj ho' hodj (e' ▸ hd')
                          simp [this])
                        simp only [look, beq_ne hned]
                        exact ih'
                  rw [hno ds (fun j hj => by have := (hdep j hj).2; omega) hkd]; rfl)
          a W h1 h2 (fits_append hfit (fits_append h3 (fits_envD _ (fun j hj o' d' ho' hd' => by
            simp only [List.mem_filter, List.mem_range] at hj
            exact h8 j o' d' hj.1 hj.2 ho' hd')))) h5
        unfold wpListIn at hwp
        unfold wpOpIn
        simp only [ho]
        split
        · rename_i hw
          rw [if_pos hw] at hwp
          exact wpIn_monoQ (fun a' W' h => h) (fun _ _ _ h => h) (fun h => h) hwp
        · rename_i hw
          rw [if_neg hw] at hwp
          exact hwp
    · -- it is the next one
      have him : i = m := by
        have h1 : ¬ i < m := fun h => by rw [(hlst i hi).2 h] at hun; cases hun
        have h2 : i ≤ m := Nat.le_of_not_lt fun h => by
          have h3 := ok.last i o (by omega) ho (fun k => lst.getD k false = true) (fun k o' h1 h2 e h3 h4 => hcl k o' h1 h2 e h3 h4) hready m h
          have := (hlst m (by omega)).1 h3
          omega
        omega
      subst him
      have hdrop : l.drop i = o :: l.drop (i + 1) := by
        have := hl i
        rw [ho] at this
        exact (List.drop_eq_getElem_cons (List.getElem?_eq_some_iff.1 this).1).trans (by rw [(List.getElem?_eq_some_iff.1 this).2])
      rw [hdrop] at hw
      have hnext : ∀ a' W', wpListIn (FW C.r) 0 C.P ops Q (l.drop (i + 1)) a' W' → Inv (lst.setIfInBounds i true) a' W' := fun a' W' h => by
        refine ⟨by simp [hls], hcl', .inr ⟨i + 1, by omega, fun k hk => ?_, h⟩⟩
        rw [getD_set lst i k hls hi]
        by_cases e : k = i
        · subst e; simp
        · rw [if_neg e, hlst k hk]; omega
      unfold wpListIn at hw
      unfold wpOpIn
      simp only [ho]
      split
      · rename_i hwant
        rw [if_pos hwant] at hw
        exact Oper.wpIn_mono hnext hw
      · rename_i hwant
        rw [if_neg hwant] at hw
        exact ⟨hw.1, hnext _ _ hw.2⟩
  -- the end
  have ready_iff : ∀ (lst : Array Bool) (i : Nat), lst.size = ops.size → (i ∈ Region.ready .any ops lst ↔ ∃ o, ops[i]? = some o ∧ lst.getD i false = false ∧ ∀ e ∈ o.after, Region.binds .any e = true → lst.getD e.on false = true) := by
    intro lst i hls
    simp only [Region.ready, List.mem_filter, List.mem_range, Bool.and_eq_true, Bool.not_eq_true']
    constructor
    · rintro ⟨hi, hf, hr⟩
      refine ⟨ops[i], Array.getElem?_eq_getElem hi, ?_, ?_⟩
      · simp only [Array.getD_eq_getD_getElem?] at hf ⊢
        rw [Array.getElem?_eq_getElem (by rw [hls]; exact hi)] at hf ⊢
        simpa using hf
      · rw [Array.getElem?_eq_getElem hi] at hr
        simp only [Option.map_some, Option.getD_some, Array.all_eq_true_iff_forall_mem, Bool.or_eq_true, Bool.not_eq_true'] at hr
        intro e he hb
        rcases hr e he with h | h
        · rw [hb] at h; cases h
        · exact h
    · rintro ⟨o, ho, hf, hr⟩
      have hi := hlt i o ho
      refine ⟨hi, ?_, ?_⟩
      · simp only [Array.getD_eq_getD_getElem?] at hf ⊢
        rw [Array.getElem?_eq_getElem (by rw [hls]; exact hi)] at hf ⊢
        simpa using hf
      · rw [ho]
        simp only [Option.map_some, Option.getD_some, Array.all_eq_true_iff_forall_mem, Bool.or_eq_true, Bool.not_eq_true']
        intro e he
        by_cases hb : Region.binds .any e = true
        · exact .inr (hr e he hb)
        · exact .inl (by simpa using hb)
  have last : ∀ (lst : Array Bool) a W, Inv lst a W → Region.ready .any ops lst = [] → Q .normal a W := by
    rintro lst a W ⟨hls, hcl, hI⟩ hr
    -- all are listed: else the least one that is not is ready
    have hall : ∀ i, i < ops.size → lst.getD i false = true := by
      intro i
      induction i using Nat.strongRecOn with
      | _ i ih =>
        intro hi
        cases hf : lst.getD i false with
        | true => rfl
        | false =>
          have : i ∈ Region.ready .any ops lst := (ready_iff lst i hls).2 ⟨ops[i], Array.getElem?_eq_getElem hi, hf, fun e he hb => by
            have := ok.back i ops[i] (Array.getElem?_eq_getElem hi) e he hb
            exact ih e.on this (by omega)⟩
          rw [hr] at this; cases this
    rcases hI with ⟨⟨k, hk, hkf⟩, _⟩ | ⟨m, hnm, hlst, hw⟩
    · rw [hall k (Nat.lt_of_lt_of_le hk ok.le)] at hkf; cases hkf
    · have hm : ops.size ≤ m := Nat.le_of_not_lt fun h => by
        have := (hlst m h).1 (hall m h); omega
      rw [List.drop_eq_nil_of_le (by omega)] at hw
      exact hw
  have any : ∀ (fuel : Nat) (lst : Array Bool) a W, Inv lst a W → (List.range ops.size).countP (fun i => !lst.getD i false) ≤ fuel → wpAnyIn (FW C.r) 0 C.P .any ops Q fuel lst a W := by
    intro fuel
    induction fuel with
    | zero =>
      intro lst a W hI hc
      have hz : Region.ready .any ops lst = [] := by
        apply List.eq_nil_iff_forall_not_mem.2
        intro i hi
        obtain ⟨o, ho, hf, _⟩ := (ready_iff lst i hI.1).1 hi
        have := List.countP_eq_zero.1 (Nat.le_zero.1 hc) i (List.mem_range.2 (hlt i o ho))
        simp [hf] at this
      exact ⟨hz, last lst a W hI hz⟩
    | succ fuel ih =>
      intro lst a W hI hc
      refine ⟨last lst a W hI, fun i hi => ?_⟩
      obtain ⟨o, ho, hf, hr⟩ := (ready_iff lst i hI.1).1 hi
      refine wpOpIn_mono (fun a' W' hI' => ih _ a' W' hI' ?_) (hstep lst a W hI i o ho hf hr)
      have hlt' := hlt i o ho
      have hcount : (List.range ops.size).countP (fun k => !(lst.setIfInBounds i true).getD k false) < (List.range ops.size).countP (fun k => !lst.getD k false) := by
        refine countP_strict _ (fun k _ hk => ?_) ⟨i, List.mem_range.2 hlt', by simp [hf], ?_⟩
        · rw [getD_set lst i k hI.1 hlt'] at hk
          by_cases e : k = i
          · rw [if_pos e] at hk; cases hk
          · rw [if_neg e] at hk; exact hk
        · rw [getD_set lst i i hI.1 hlt', if_pos rfl]; rfl
      omega
  have hrep : ∀ k, (Array.replicate ops.size false).getD k false = false := fun k => by
    simp only [Array.getD_eq_getD_getElem?, Array.getElem?_replicate]
    split <;> rfl
  have hS0 : St G L H { W with drawn := W.drawn + 1 } := hS.step (below_drawn W _)
  have hA0 : InvC C ops nA ch sp Ph E D G (fun i => (Array.replicate ops.size false).getD i false) a { W with drawn := W.drawn + 1 } :=
    ⟨[], L, H, hsize, hD, hF, h0, hS0, Nat.zero_le _, fun k c _ => ⟨fun h => (Bool.false_ne_true ((hrep c).symm.trans h)).elim, fun h => by simp at h⟩, fun i _ _ _ h => (Bool.false_ne_true ((hrep i).symm.trans h)).elim⟩
  refine wpAnyIn_sound ops.size t _ a _ (any ops.size (Array.replicate ops.size false) a _ ?_ ?_)
  · have hcl0 : ∀ (k : Nat) (o : Oper), ops[k]? = some o → (Array.replicate ops.size false).getD k false = true → ∀ e ∈ o.after, Region.binds .any e = true → (Array.replicate ops.size false).getD e.on false = true := fun k o _ h => by rw [hrep k] at h; cases h
    by_cases hz : nA = 0
    · exact close _ _ _ (by simp) hcl0 (fun i hi => by omega) (fun i _ => hrep i) hA0
    · exact ⟨by simp, hcl0, .inl ⟨⟨0, by omega, hrep 0⟩, fun i _ => hrep i, hA0⟩⟩
  · exact Nat.le_trans List.countP_le_length (by simp)
end Px
