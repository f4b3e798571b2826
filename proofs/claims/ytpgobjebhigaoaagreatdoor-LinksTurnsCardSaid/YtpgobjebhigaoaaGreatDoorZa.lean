/- Proofs by default. No condition beyond those stated. -/
import Derived.ProofKit
import Derived.KernelRfl
set_option linter.unusedSimpArgs false
set_option linter.unusedVariables false
set_option linter.unusedSectionVars false
namespace Px
variable {P Q A S':Prop}
theorem A0 {α:Type _} {a:α} {l:List α}:a∈a::l:=.head _
theorem A1 {α:Type _} {a x0:α} {l:List α}:a∈x0::a::l:=.tail _ (.head _)
theorem A2 {α:Type _} {a x0 x1:α} {l:List α}:a∈x0::x1::a::l:=.tail _ (.tail _ (.head _))
theorem A3 {α:Type _} {a x0 x1 x2:α} {l:List α}:a∈x0::x1::x2::a::l:=.tail _ (.tail _ (.tail _ (.head _)))
theorem A4 {α:Type _} {a x0 x1 x2 x3:α} {l:List α}:a∈x0::x1::x2::x3::a::l:=.tail _ (.tail _ (.tail _ (.tail _ (.head _))))
theorem A5 {α:Type _} {a x0 x1 x2 x3 x4:α} {l:List α}:a∈x0::x1::x2::x3::x4::a::l:=.tail _ (.tail _ (.tail _ (.tail _ (.tail _ (.head _)))))
theorem A6 {α:Type _} {a x0 x1 x2 x3 x4 x5:α} {l:List α}:a∈x0::x1::x2::x3::x4::x5::a::l:=.tail _ (.tail _ (.tail _ (.tail _ (.tail _ (.tail _ (.head _))))))
theorem A7 {α:Type _} {a x0 x1 x2 x3 x4 x5 x6:α} {l:List α}:a∈x0::x1::x2::x3::x4::x5::x6::a::l:=.tail _ (.tail _ (.tail _ (.tail _ (.tail _ (.tail _ (.tail _ (.head _)))))))
theorem A8 {α:Type _} {a x0 x1 x2 x3 x4 x5 x6 x7:α} {l:List α}:a∈x0::x1::x2::x3::x4::x5::x6::x7::a::l:=.tail _ (.tail _ (.tail _ (.tail _ (.tail _ (.tail _ (.tail _ (.tail _ (.head _))))))))
theorem A9 {α:Type _} {a x0 x1 x2 x3 x4 x5 x6 x7 x8:α} {l:List α}:a∈x0::x1::x2::x3::x4::x5::x6::x7::x8::a::l:=.tail _ (.tail _ (.tail _ (.tail _ (.tail _ (.tail _ (.tail _ (.tail _ (.tail _ (.head _)))))))))
theorem A10 {α:Type _} {a x0 x1 x2 x3 x4 x5 x6 x7 x8 x9:α} {l:List α}:a∈x0::x1::x2::x3::x4::x5::x6::x7::x8::x9::a::l:=.tail _ (.tail _ (.tail _ (.tail _ (.tail _ (.tail _ (.tail _ (.tail _ (.tail _ (.tail _ (.head _))))))))))
theorem A11 {α:Type _} {a x0 x1 x2 x3 x4 x5 x6 x7 x8 x9 jc:α} {l:List α}:a∈x0::x1::x2::x3::x4::x5::x6::x7::x8::x9::jc::a::l:=.tail _ (.tail _ (.tail _ (.tail _ (.tail _ (.tail _ (.tail _ (.tail _ (.tail _ (.tail _ (.tail _ (.head _)))))))))))
theorem A12 {α:Type _} {a x0 x1 x2 x3 x4 x5 x6 x7 x8 x9 jc mL:α} {l:List α}:a∈x0::x1::x2::x3::x4::x5::x6::x7::x8::x9::jc::mL::a::l:=.tail _ (.tail _ (.tail _ (.tail _ (.tail _ (.tail _ (.tail _ (.tail _ (.tail _ (.tail _ (.tail _ (.tail _ (.head _))))))))))))
theorem A13 {α:Type _} {a x0 x1 x2 x3 x4 x5 x6 x7 x8 x9 jc mL fC:α} {l:List α}:a∈x0::x1::x2::x3::x4::x5::x6::x7::x8::x9::jc::mL::fC::a::l:=.tail _ (.tail _ (.tail _ (.tail _ (.tail _ (.tail _ (.tail _ (.tail _ (.tail _ (.tail _ (.tail _ (.tail _ (.tail _ (.head _)))))))))))))
theorem A14 {α:Type _} {a x0 x1 x2 x3 x4 x5 x6 x7 x8 x9 jc mL fC ja:α} {l:List α}:a∈x0::x1::x2::x3::x4::x5::x6::x7::x8::x9::jc::mL::fC::ja::a::l:=.tail _ (.tail _ (.tail _ (.tail _ (.tail _ (.tail _ (.tail _ (.tail _ (.tail _ (.tail _ (.tail _ (.tail _ (.tail _ (.tail _ (.head _))))))))))))))
theorem A15 {α:Type _} {a x0 x1 x2 x3 x4 x5 x6 x7 x8 x9 jc mL fC ja ki:α} {l:List α}:a∈x0::x1::x2::x3::x4::x5::x6::x7::x8::x9::jc::mL::fC::ja::ki::a::l:=.tail _ (.tail _ (.tail _ (.tail _ (.tail _ (.tail _ (.tail _ (.tail _ (.tail _ (.tail _ (.tail _ (.tail _ (.tail _ (.tail _ (.tail _ (.head _)))))))))))))))
theorem A16 {α:Type _} {a x0 x1 x2 x3 x4 x5 x6 x7 x8 x9 jc mL fC ja ki x15:α} {l:List α}:a∈x0::x1::x2::x3::x4::x5::x6::x7::x8::x9::jc::mL::fC::ja::ki::x15::a::l:=.tail _ (.tail _ (.tail _ (.tail _ (.tail _ (.tail _ (.tail _ (.tail _ (.tail _ (.tail _ (.tail _ (.tail _ (.tail _ (.tail _ (.tail _ (.tail _ (.head _))))))))))))))))
theorem R2 (h:P:=by exact λ_ _=>rfl):P:=h
abbrev NY:=@Nat.eq_of_beq_eq_true
abbrev rS:=@Option.some.injEq
abbrev aup:=@Array.getElem?_setIfInBounds_ne
abbrev ao:=@Nat.le_refl
abbrev aS:=@Nat.le_trans
abbrev kQ:=@Nat.lt_of_lt_of_le
abbrev cP:=@List.mem_cons
abbrev eF:=@List.map_cons
abbrev aL:=@Array.getElem?_eq_some_iff
abbrev IH:=@List.getElem?_cons_zero
abbrev zb:=@List.getElem?_cons_succ
abbrev cB:=@List.mem_of_getElem?
abbrev gA:=@List.getElem?_eq_some_iff
abbrev J7:=@List.getElem?_set_self
abbrev HY:=@List.getElem?_set_ne
abbrev Yr:=@List.mem_or_eq_of_mem_set
abbrev bU:=@List.mem_map
abbrev iQ:=@List.mem_iff_getElem?
abbrev aT:=@Nat.le_of_ble_eq_true
abbrev DD:=@Int.eq_ofNat_of_zero_le
abbrev yD:=@List.map_toArray
abbrev U6:=@Array.getElem?_append_left
abbrev U9:=@Nat.le_of_not_lt
abbrev xW:=@Array.getElem?_toList
abbrev YN:=@Array.getElem?_modify
abbrev fX:=@Bool.and_eq_true
abbrev ec:=@List.length_cons
abbrev ga:=@List.map_append
abbrev cS:=@List.mem_append
abbrev fy:=@List.length_map
abbrev J3:=@List.getElem_map
abbrev fm:=@List.not_mem_nil
abbrev vr:=@List.ext_getElem?
abbrev fj:=@List.cons_append
abbrev AN:=@List.length_drop
abbrev wC:=@List.getElem?_drop
abbrev cC:=@List.length_append
abbrev BX:=@List.length_singleton
abbrev DJ:=@List.getElem?_append_right
abbrev vH:=@List.mem_filter
abbrev gR:=@List.getElem?_eq_getElem
abbrev xX:=@List.getElem?_append_left
abbrev pV:=@List.all_eq_true
abbrev Vj:=@Option.bind_eq_some_iff
abbrev pM:=@List.mem_range
abbrev rC:=@List.getElem?_map
abbrev wO:=@Option.map_some
abbrev DK:=@List.getElem?_toArray
abbrev jg:=@Nat.zero_add
abbrev Ht:=@List.length_set
abbrev Ie:=@Array.getElem?_eq_getElem
abbrev um:=@List.getElem?_eq_none
abbrev xU:=@Bool.eq_iff_iff
abbrev iz:=@List.map_nil
abbrev lF:=@List.length_nil
abbrev iH:=@List.append_assoc
abbrev dx:=@Nat.zero_le
abbrev wx:=@Nat.div_add_mod
abbrev lK:=@Nat.add_mul
abbrev ts:=@Nat.mul_comm
abbrev uR:=@Nat.mul_le_mul_right
abbrev wK:=@Int.toNat_natCast
abbrev fk:=@List.set_cons_succ
abbrev jt:=@List.eq_nil_of_length_eq_zero
abbrev eg:=@List.nil_append
abbrev yj:=@List.take_append_drop
abbrev dC:=@List.set_cons_zero
abbrev IA:=@List.take_succ_eq_append_getElem
abbrev jo:=@List.take_of_length_le
abbrev ql:=@List.mem_singleton
abbrev qx:=@List.eraseIdx_cons_zero
abbrev rV:=@List.eraseIdx_cons_succ
abbrev V4:=@List.findIdx?_eq_some_iff_getElem
abbrev QH:=@List.getElem_mem
abbrev rU:=@List.size_toArray
abbrev kx:=@List.length_take
abbrev RL:=@List.drop_zero
abbrev Pc:=@List.take_left'
abbrev uk:=@Nat.mul_one
abbrev dN:=@List.append_nil
abbrev KC:=@List.getElem?_take_of_lt
abbrev Tj:=@List.take_succ_cons
abbrev IM:=@List.flatMap_cons
abbrev Pe:=@List.mem_flatMap
abbrev I8:=@List.take_length
abbrev ML:=@Option.map_eq_some_iff
abbrev X7:=@List.getElem?_set
abbrev Ap:=@List.length_filter_le
abbrev DY:=@List.foldl_append
abbrev M8:=@List.filter_cons_of_pos
abbrev Uc:=@List.filter_cons_of_neg
abbrev Yw:=@List.mem_of_find?_eq_some
theorem ya (h:A) (s:A->S':=by intro h;(try simp only[decide_eq_true_eq,decide_eq_false_iff_not,Bool.not_eq_true',Bool.not_eq_false']at h);exact h):S':=s h
theorem yb (h:A) (s:A->S':=by intro h;(try simp only[ab]at h);exact h):S':=s h
theorem yc (h:A) (s:A->S':=by intro h;(try simp only[bE,book,fj,eg,dC,fk,ne_eq]at h);exact h):S':=s h
theorem ye (h:A) (s:A->S':=by intro h;(try simp only[bE,dC,fk,ne_eq,and_true]at h);exact h):S':=s h
theorem yf (h:A) (s:A->S':=by intro h;(try simp only[Fr,Gh.lent,Gh.no,ab,and_true,false_or]at h);exact h):S':=s h
theorem yg (h:A) (s:A->S':=by intro h;(try simp only[xS,and_true]at h);exact h):S':=s h
theorem zL (h:P:=by first|(first|(simp only[bE,book,fj,eg,dC,fk,qx,rV,ne_eq,and_true];omega)|(simp[bE]<;>omega))|fail):P:=h
theorem zM (h:P:=by omega):P:=h
theorem zN (h:P:=by exact λae=>X.off rfl (λ_ _=>rfl)):P:=h
theorem zO (h:P:=by exact λae=>X.val rfl rfl (fh rfl) (λ_ _=>rfl)):P:=h
theorem zP (h:P:=by first|exact True.intro|(simp only[Over,dC,fk,qx,rV,and_true];omega)):P:=h
theorem zQ (h:P:=by decide):P:=h
theorem zS (h:P:=by first|(first|(simp only[Over,dC,fk,qx,rV,and_true];omega)|(simp[Over]<;>omega))|fail):P:=h
theorem zT (h:P:=by kernel_rfl):P:=h
theorem zU (h:P:=by exact λ_ _ h=>h):P:=h
theorem zW (h:P:=by exact λcv L' H' hd hP=>X.val rfl rfl (fh rfl) R2):P:=h
theorem zX (h:P:=by simp only[ab,and_true];omega):P:=h
theorem zZ (h:P:=by exact λh=>h):P:=h
theorem z1 (h:P:=by simp):P:=h
theorem z2 (h:P:=by exact λae=>X.val rfl rfl (aH (i:=0) rfl isAgg3 rfl rfl) (λ_ _=>rfl)):P:=h
theorem z3 (h:P:=by exact λcv L' H' hd hP=>X.val rfl rfl (ak underlying84 rfl sizeOf38 rfl) R2):P:=h
theorem z4 (h:P:=by exact λae=>X.val rfl rfl (ak underlying135 rfl sizeOf3 rfl) (λ_ _=>rfl)):P:=h
theorem z5 (h:P:=by exact λae=>X.val rfl rfl (ak underlying355 rfl sizeOf3 rfl) (λ_ _=>rfl)):P:=h
theorem z6 (h:P:=by exact λae=>X.val rfl rfl (C5 rfl rfl) (λ_ _=>rfl)):P:=h
theorem z7 (h:P:=by first|exact True.intro|(simp only[Over,and_true];omega)):P:=h
theorem z8 (h:P:=by exact λae=>X.val rfl rfl (wj rfl rfl) (λ_ _=>rfl)):P:=h
theorem z9 (h:P:=by exact λcv L' H' hd hP=>X.val rfl rfl (ak underlying38 rfl sizeOf3 rfl) R2):P:=h
theorem p4 (h:P:=by exact λae=>X.val rfl rfl (aH (i:=1) rfl isAgg3 rfl rfl) (λ_ _=>rfl)):P:=h
theorem jS (h:P:=by simp only[bE,dC,fk,and_true];omega):P:=h
theorem qA (h:P:=by exact λae=>X.val rfl rfl (ak underlying84 rfl sizeOf38 rfl) (λ_ _=>rfl)):P:=h
theorem dE (h:P:=by dsimp only;omega):P:=h
theorem uA (h:P:=by exact λae=>X.val rfl rfl (ak underlying38 rfl sizeOf3 rfl) (λ_ _=>rfl)):P:=h
theorem gM (h:P:=by assumption):P:=h
theorem xr (h:P:=by exact λcv L' H' hd hP=>X.val rfl rfl (ak underlying99 rfl sizeOf3 rfl) R2):P:=h
theorem r4 (h:P:=by simp only[bE,dC,fk,qx,rV,ne_eq,and_true];omega):P:=h
theorem xV (h:P:=by exact λae=>X.val rfl rfl (aH (i:=0) rfl isAgg229 rfl rfl) (λ_ _=>rfl)):P:=h
theorem qo (h:P:=by simp only[bE,dC,fk,ne_eq,and_true];omega):P:=h
theorem pw (h:P:=by exact λcv L' H' hd hP=>X.off rfl R2):P:=h
theorem zlb (h:P:=by rw[show jw c.chs=false by assumption];decide):P:=h
theorem AX (h:P:=by exact λae=>X.val rfl rfl (ak underlying57 rfl sizeOf3 rfl) (λ_ _=>rfl)):P:=h
theorem qy (h:P:=by simp only[Over,dC,fk,and_true];omega):P:=h
theorem DQ (h:P:=by exact λae=>X.val rfl rfl (aa isAgg3 rfl A0 aP aX trivial rfl) (λ_ _=>rfl)):P:=h
theorem yl (h:P:=by exact λae=>nf call55 rfl rfl (λW hS _=>nN _ W) (λ_=>rfl)):P:=h
theorem D6 (h:P:=by exact λcv L' H' hd hP=>nf call142 rfl rfl (λW hS _=>nHb _ W) (λ_=>rfl)):P:=h
theorem yo (h:P:=by simp only[bE,and_true];omega):P:=h
theorem I5 (h:P:=by exact λae=>X.val rfl rfl (RV.re (v':=.bool true) (cM rfl rfl) rfl) (λ_ _=>rfl)):P:=h
theorem Y6 (h:P:=by first|(simp;done)|(simp;omega)):P:=h
theorem GP (h:P:=by exact λcv L' H' hd hP=>X.val rfl rfl (ak underlying99 rfl sizeOf95 rfl) R2):P:=h
theorem CD (h:P:=by exact λcv L' H' hd hP=>X.val rfl rfl (C5 rfl rfl) R2):P:=h
theorem Jr (h:P:=by exact λae=>X.val rfl rfl (ak underlying166 rfl sizeOf3 rfl) (λ_ _=>rfl)):P:=h
theorem zxb (h:P:=by first|rfl|(rw[xU];first|(simp;omega)|simp)):P:=h
theorem ke (h:P:=by simp[Act.put,hD]):P:=h
theorem lO (h:P:=by rw[ik];exact nW hN):P:=h
theorem kW (h:P:=by simp[Act.put,ik]):P:=h
theorem wU (h:P:=by first|rfl|simp[book,Ik,Value.cells]):P:=h
theorem zCb (h:P:=by exact λae=>X.val rfl rfl (RV.re (v':=.agg R3) (bL underlying31 zeroValue31 (bA.c sizeOf22 (bA.c sizeOf23 (bA.c sizeOf24 (bA.c sizeOf25 (bA.c sizeOf26 (bA.c sizeOf27 (bA.c sizeOf28 (bA.c sizeOf29 (bA.n))))))))) rfl rfl) (rfl)) (λ_ _=>rfl)):P:=h
theorem ER (h:P:=by exact λae=>X.val rfl rfl (Da rfl) (λ_ _=>rfl)):P:=h
theorem KV (h:P:=by exact λcv L' H' hd hP=>X.val rfl rfl (ak underlying36 rfl sizeOf3 rfl) R2):P:=h
theorem Qv (h:P:=by simp only[bE,and_true];(repeat' apply And.intro);all_goals first|omega|exact True.intro):P:=h
theorem wN (h:P:=by simp only[Over,dC,and_true];omega):P:=h
theorem zHb (h:P:=by simp only[nD];omega):P:=h
theorem wE (h:P:=by simp only[Over,and_true];omega):P:=h
theorem SM (h:P:=by exact λcv L' H' hd hP=>X.val rfl rfl (ak underlying57 rfl sizeOf55 rfl) R2):P:=h
theorem SL (h:P:=by exact λcv L' H' hd hP=>X.val rfl rfl (ak underlying57 rfl sizeOf52 rfl) R2):P:=h
theorem Pf (h:P:=by exact λcv L' H' hd hP=>X.val rfl rfl (ak underlying38 rfl sizeOf36 rfl) R2):P:=h
theorem KB (h:P:=by exact λae=>X.val rfl rfl (qu rfl rfl) (λ_ _=>rfl)):P:=h
theorem kh (h:P:=by simp;omega):P:=h
theorem xZ (h:P:=by simp only[cC,ec,lF];omega):P:=h
theorem Ur (h:P:=by exact λae=>X.val rfl rfl (aa isAgg3 rfl A1 aI aE trivial rfl) (λ_ _=>rfl)):P:=h
theorem qC (h:P:=by simp_all):P:=h
theorem Xe (h:P:=by exact λae=>nf (v:=.int .i64 e) call63 rfl rfl (λW hS _=>by rw[<-he];exact nE _ W) (λ_=>rfl)):P:=h
theorem Rg (h:P:=by exact λcv L' H' hd hP=>X.val rfl rfl (ak underlying149 rfl sizeOf146 rfl) R2):P:=h
theorem Tg (h:P:=by exact λcv L' H' hd hP=>X.val rfl rfl (ak underlying99 rfl sizeOf36 rfl) R2):P:=h
theorem Tc (h:P:=by exact λcv L' H' hd hP=>X.val rfl rfl (ak underlying233 rfl sizeOf3 rfl) R2):P:=h
theorem OZ (h:P:=by exact λae=>X.val rfl rfl (ug rfl rfl) (λ_ _=>rfl)):P:=h
theorem AY (h:P:=by simpa using h1):P:=h
theorem PW (h:P:=by exact λae=>X.val rfl rfl (dP rfl) (λ_ _=>rfl)):P:=h
theorem zYb (h:P:=by exact λae=>nf call207 rfl rfl (λW hS _=>by have h9:=Xm x.dev W;rw[decide_eq_true (Classical.not_not.1 h1)]at h9;exact h9) (λ_=>rfl)):P:=h
theorem zZb (h:P:=by exact λae=>nf call47 rfl rfl (λW hS _=>by have h9:=ned hinv.1 b9 m hm x.par x.fol W (hS.own (b9,_) A2);rwa[Ut]at h9) (λ_=>rfl)):P:=h
theorem P3 (h:P:=by simp only[eF,iz,cP,fm,or_false];omega):P:=h
theorem Sk (h:P:=by have h9:=(yp hnd gy jK lU).2.2;simp only[cC,ec,lF];omega):P:=h
theorem z2b (h:P:=by exact λae=>X.val rfl rfl (RV.re (v':=.agg (lkC (sl 1 r sg))) (aK (i:=4) rfl isAgg38 sizeOf38 rfl rfl) (rfl)) (λ_ _=>rfl)):P:=h
theorem Yp (h:P:=by exact λae=>X.val rfl rfl (aa isAgg3 rfl A0 aJ aD trivial rfl) (λ_ _=>rfl)):P:=h
theorem XS (h:P:=by exact λcv L' H' hd hP=>X.val rfl rfl (RV.re (v':=.bool false) (dP rfl) rfl) R2):P:=h
theorem z5b (h:P:=by first|(unfold pB;rw[sP,haw,xU];simp_all<;>omega)|fail):P:=h
theorem Xt (h:P:=by exact λae=>X.val rfl rfl (aH (i:=0) rfl isAgg4 rfl rfl) (λ_ _=>rfl)):P:=h
theorem FH (h:P:=by rw[he];omega):P:=h
theorem XT (h:P:=by exact λcv L' H' hd hP=>X.val rfl rfl (ak underlying99 rfl sizeOf97 rfl) R2):P:=h
theorem XR (h:P:=by exact λcv L' H' hd hP=>X.val rfl rfl (ak underlying99 rfl sizeOf96 rfl) R2):P:=h
theorem zac (h:P:=by exact λae=>X.val rfl rfl (RV.re (v':=.bool true) (fh rfl) (by first|rfl|(rw[hq];rfl))) (λ_ _=>rfl)):P:=h
theorem Yq (h:P:=by exact λae=>nf call125 rfl rfl (λW hS _=>nrf _ _ W) (λ_=>rfl)):P:=h
theorem rO (h:P:=by simpa using h):P:=h
theorem zdc (h:P:=by have:=sN _ e;dsimp only at this;simp only[bE,dC,and_true];omega):P:=h
theorem XW (h:P:=by simp only[bE,dC,and_true];omega):P:=h
theorem FX (h:P:=by simp only[ec,lF];omega):P:=h
theorem zgc (h:P:=by rw[hY,<-hN];exact bT):P:=h
theorem YC (h:P:=by simp only[bE,book,bQ,fj,eg,and_true];omega):P:=h
theorem zic (h:P:=by exact λae=>nf call26 rfl rfl (λW hS _=>by have h9:=nI p W;rwa[hv]at h9) (λ_=>rfl)):P:=h
theorem zjc (h:P:=by intro k hk hx;simp only[eF,iz,cP,fm,or_false]at hx;omega):P:=h
theorem zkc (h:P:=by exact λae=>X.val rfl rfl (af isAgg84 sizeOf84 rfl A0 ff gd trivial rfl) (λ_ _=>rfl)):P:=h
theorem zlc (h:P:=by simp only[dC,fk,fj,eg,dN,Over];exact⟨by omega,by omega,Rw.over (Rw.ge_of bH A2)⟩):P:=h
theorem Lj (h:P:=by simp only[fy,ec,lF];omega):P:=h
theorem Xu (h:P:=by exact λae=>X.val rfl rfl (p6 rfl rfl) (λ_ _=>rfl)):P:=h
theorem vE (h:P:=by simp[Rw.hp]):P:=h
theorem zpc (h:P:=by exact λae=>X.val rfl rfl (RV.re (v':=.bool false) (dP rfl) rfl) (λ_ _=>rfl)):P:=h
theorem yq (h:P:=by simpa using hl):P:=h
theorem zrc (h:P:=by exact λae=>X.val rfl rfl (RV.re (v':=.bool true) (dP rfl) rfl) (λ_ _=>rfl)):P:=h
theorem zsc (h:P:=by exact λae=>X.val rfl rfl (aa isAgg3 rfl A1 cT dI trivial rfl) (λ_ _=>rfl)):P:=h
theorem ztc (h:P:=by rw[<-kM,<-hv1]):P:=h
theorem zuc (h:P:=by exact λcv L' H' hd hP=>X.val rfl rfl (bL underlying101 zeroValue101 (bA.c sizeOf3 (bA.c sizeOf99 (bA.c sizeOf34 (bA.c sizeOf3 (bA.c sizeOf57 (bA.n)))))) rfl rfl) R2):P:=h
theorem Lw (h:P:=by simp[Gh.no]):P:=h
theorem vk (h:P:=by simp[book]):P:=h
theorem zxc (h:P:=by exact λae=>X.val rfl rfl (ak underlying55 rfl sizeOf53 rfl) (λ_ _=>rfl)):P:=h
theorem zyc (h:P:=by exact λae=>X.val rfl rfl (ak underlying38 rfl sizeOf34 rfl) (λ_ _=>rfl)):P:=h
theorem zzc (h:P:=by exact λae=>X.val rfl rfl (ak underlying59 rfl sizeOf3 rfl) (λ_ _=>rfl)):P:=h
theorem zAc (h:P:=by first|(unfold s4;rw[xU];simp_all<;>omega)|fail):P:=h
theorem zBc (h:P:=by exact λcv L' H' hd hP=>X.val rfl rfl (ak underlying99 rfl sizeOf44 rfl) R2):P:=h
theorem zCc (h:P:=by simp only[Over,book,bQ,fj,eg,and_true];omega):P:=h
theorem zDc (h:P:=by rw[hY];exact agC):P:=h
theorem zEc (h:P:=by exact λcv L' H' hd hP=>X.val rfl rfl (ak underlying59 rfl sizeOf3 rfl) R2):P:=h
theorem zFc (h:P:=by exact λcv L' H' hd hP=>X.val rfl rfl (ak underlying38 rfl sizeOf4 rfl) R2):P:=h
theorem D8 (h:P:=by cases h):P:=h
theorem zHc (h:P:=by show q-1<q;omega):P:=h
theorem zIc (h:P:=by have:=pW _ e;dsimp only at this;simp only[bE,dC,and_true];omega):P:=h
theorem Zo (h:P:=by have:=(hS.sizes);simp only[ab]at this;have:=(aL.1 oQ).1;omega):P:=h
theorem Sf (h:P:=by simp only[cS];exact .inr (.inl hp)):P:=h
theorem Xg (h:P:=by simp only[dC,fk,fj,eg];rfl):P:=h
theorem zMc (h:P:=by unfold PA;simp only[<-D2];rw[xU];first|(simp;omega)|simp):P:=h
theorem zNc (h:P:=by obtain⟨ta,tc,wr,r8,rfl,rfl,rfl,rfl,rfl,rfl,rfl,oL,eX,mH,kI,eT,eU⟩:=hP;exact X.val rfl rfl (gB rfl rfl) R2):P:=h
theorem YR (h:P:=by simpa[Nat.blt]using Nat.ble_eq_true_of_le hi):P:=h
theorem RA (h:P:=by first|trivial|exact True.intro):P:=h
theorem zQc (h:P:=by obtain⟨ta,tc,wr,r8,rfl,rfl,rfl,rfl,rfl,rfl,oL,eX,mH,kI,eT,eU⟩:=hP;exact X.val rfl rfl (gB rfl rfl) R2):P:=h
theorem Rz (h:P:=by first|(simp[qf,keys]<;>try omega)|fail):P:=h
theorem zSc (h:P:=by simp only[dC,fk,Over,and_true];omega):P:=h
theorem zTc (h:P:=by obtain⟨ta,tc,wr,r8,rfl,rfl,rfl,rfl,rfl,oL,eX,mH,kI,eT,eU⟩:=hP;exact X.val rfl rfl (gB rfl rfl) R2):P:=h
theorem Zy (h:P:=by exact λae=>X.val rfl rfl (Ow rfl rfl) (λ_ _=>rfl)):P:=h
theorem zVc (h:P:=by first|(unfold jZ;simp_all<;>omega)|fail):P:=h
theorem WZ (h:P:=by rw[dN];exact Rw.over (Rw.ge_of bH A0)):P:=h
theorem zXc (h:P:=by exact λae=>X.val rfl rfl (RV.re (v':=.int .i64 x.g.epoch) (aH (i:=0) rfl isAgg3 rfl rfl) (rfl)) (λ_ _=>rfl)):P:=h
theorem zYc (h:P:=by exact λcv L' H' hd hP=>X.val rfl rfl (RV.re (v':=.bool false) (cM rfl rfl) (vb (by simp[hf]))) R2):P:=h
theorem DZ (h:P:=by simp[jG]):P:=h
theorem z0c (h:P:=by simp only[dC,Over,and_true];omega):P:=h
theorem XJ (h:P:=by simp only[eg,Over,and_true];omega):P:=h
theorem rm (h:P:=by repeat' first|exact True.intro|exact Rw.off_ge (Rw.ge_of gI A0) zM|refine ne.2 ⟨?_,?_⟩|refine⟨by omega,?_⟩):P:=h
theorem GV (h:P:=by simp only[bE,ne,book,fj,eg,dN,iH,dC,fk,qx,rV,ne_eq,and_true];(repeat' apply And.intro);all_goals first|omega|exact True.intro|exact Rw.off_ge eU zM):P:=h
theorem MW (h:P:=by simp only[bE,ne,book,fj,eg,dN,iH,dC,fk,qx,rV,ne_eq,and_true];(repeat' apply And.intro);all_goals first|omega|exact True.intro|exact Rw.off_ge cO zM):P:=h
theorem vq (h:P:=by exact λae=>X.val rfl rfl (lb underlying336 sizeOf229 rfl rfl zM zM) (λ_ _=>rfl)):P:=h
theorem Gb (h:P:=by exact λae=>X.val rfl rfl (RV.re (v':=.bool false) (p6 rfl rfl) (vb (decide_eq_false zM))) (λ_ _=>rfl)):P:=h
theorem Jc (h:P:=by exact λae=>X.val rfl rfl (RV.re (v':=.bool true) (p6 rfl rfl) (vb (decide_eq_true zM))) (λ_ _=>rfl)):P:=h
theorem Nq (h:P:=by exact λae=>X.val rfl rfl (RV.re (v':=.bool true) (p7 rfl rfl) (vb (decide_eq_true zM))) (λ_ _=>rfl)):P:=h
theorem Pw (h:P:=by exact λae=>X.val rfl rfl (RV.re (v':=.bool false) (mZ rfl rfl) (vb (decide_eq_false zM))) (λ_ _=>rfl)):P:=h
theorem TZ (h:P:=by simp only[Over,n0,fj,eg,dN,dC,and_true];(repeat' apply And.intro);all_goals first|omega|exact True.intro|exact Rw.over (Rw.ge_mono cO zM)):P:=h
theorem zbd (h:P:=by unfold pB;rw[n0b (f:=(λx:We=>decide (x.w.body.length<=200))) hy (decide_eq_false zM),Bool.and_false];rfl):P:=h
theorem TY (h:P:=by simp only[bE,ne,fj,eg,dN,dC,and_true];(repeat' apply And.intro);all_goals first|omega|exact True.intro|exact Rw.off_ge cO zM):P:=h
theorem EM (h:P:=by exact λae=>X.val rfl rfl (gP rfl rfl zM zM) (λ_ _=>rfl)):P:=h
theorem Sw (h:P:=by simp only[bE,ne,fj,eg,dN,and_true];(repeat' apply And.intro);all_goals first|omega|exact True.intro|exact Rw.off_ge cO zM):P:=h
theorem Uu (h:P:=by exact λae=>X.val rfl rfl (RV.re (v':=.bool false) (p7 rfl rfl) (vb (decide_eq_false zM))) (λ_ _=>rfl)):P:=h
theorem zgd (h:P:=by unfold pB;rw[n0b (f:=(λx:Bx=>decide (x.w.body.length<=200))) hy (decide_eq_false zM)];rfl):P:=h
theorem L0 (h:P:=by exact λae=>X.val rfl rfl (aa isAgg3 rfl A1 aJ aD zL rfl) (λ_ _=>rfl)):P:=h
theorem OY (h:P:=by exact λae=>X.val rfl rfl (lb underlying375 sizeOf229 rfl rfl zM zM) (λ_ _=>rfl)):P:=h
theorem zjd (h:P:=by first|exact(decide_eq_true (n6g zM (λi x y hi=>er i x y zM))).symm|exact(decide_eq_false (n4g hx hy qC)).symm|exact(decide_eq_false (λe=>by have:=congrArg List.length e;simp at this;omega)).symm):P:=h
theorem Yy (h:P:=by repeat' first|exact True.intro|exact Rw.over (Rw.ge_mono (Rw.ge_of gI A0) zM)|refine n0.2 ⟨?_,?_⟩|refine⟨by omega,?_⟩):P:=h
theorem P4 (h:P:=by intro p hp;simp only[cP,fm,or_false]at hp;subst hp;exact .inl z1):P:=h
theorem zmd (h:P:=by exact λae=>X.val rfl rfl (aa (v:=.int .i64 y.at_) isAgg3 rfl A2 hcs zZ jS (by have:=D3 (i:=(j:Int)-1) ar hy zM 0 zQ;simpa[gf]using this)) (λ_ _=>rfl)):P:=h
theorem znd (h:P:=by obtain⟨a7,c7,w7,rfl,rfl,rfl,iD⟩:=hP;exact nf call204 rfl rfl (λW hS _=>by have h9:=n9c G.g.ms rB W.heap.size G.ma G.mc W (ao _) (hG.ms.up (aS hN (hS.links w A2).size) (hS.same A2 hN zU trivial)) (dm G.g.ns) a7 c7 (iD.up (hS.links w7 A0).size (hS.same A0 (ao _) zU trivial));rw[decide_eq_false h1]at h9;exact h9) (λ_=>rfl)):P:=h
theorem zod (h:P:=by obtain⟨a7,c7,w7,rfl,rfl,rfl,iD⟩:=hP;exact nf call204 rfl rfl (λW hS _=>by have h9:=n9c G.g.ms rB W.heap.size G.ma G.mc W (ao _) (hG.ms.up (aS hN (hS.links w A2).size) (hS.same A2 hN zU trivial)) (dm G.g.ns) a7 c7 (iD.up (hS.links w7 A0).size (hS.same A0 (ao _) zU trivial));rw[decide_eq_true h1]at h9;exact h9) (λ_=>rfl)):P:=h
theorem Yv (h:P:=by exact λae=>nf call93 rfl rfl (λW hS _=>nAd hinv.1 b9 m hm x.par zM W (hS.own (b9,_) A2)) (λ_=>rfl)):P:=h
theorem zqd (h:P:=by first|exact nwe zM|exact nDf hx hy gM|exact nse zM er zM):P:=h
theorem zrd (h:P:=by exact λae=>X.val rfl rfl (RV.re (v':=.slice (some ⟨bo,oo,none⟩) ns.length cp) (aa isAgg53 rfl A1 aP aX zL rfl) (rfl)) (λ_ _=>rfl)):P:=h
theorem YI (h:P:=by first|(intro p hp;simp only[cP,fm,or_false]at hp;rcases hp with rfl|rfl|rfl<;>exact .inl z1)|fail):P:=h
theorem Yd (h:P:=by have:=nR (enc:=λx=>(ai x).toArray) (n:=1) TX TH rfl zQ;simpa[ai]using this):P:=h
theorem zud (h:P:=by have:=nR (enc:=λx=>(ai x).toArray) (n:=1) sy hy rfl zQ;simpa[ai]using this):P:=h
theorem Yt (h:P:=by exact λae=>X.val rfl rfl (cL underlying32 sizeOf135 rfl rfl zM zM) (λ_ _=>rfl)):P:=h
theorem zwd (h:P:=by exact λae=>X.val rfl rfl (RV.re (v':=.bool false) (tb rfl rfl) (vb (decide_eq_false zM))) (λ_ _=>rfl)):P:=h
theorem zxd (h:P:=by exact λae=>X.val rfl rfl (RV.re (v':=.bool true) (cM rfl rfl) (vb (decide_eq_true zM))) (λ_ _=>rfl)):P:=h
theorem zyd (h:P:=by exact λae=>X.val rfl rfl (RV.re (v':=.bool false) (AV underlying4 rfl rfl) (vb AY)) (λ_ _=>rfl)):P:=h
theorem zzd (h:P:=by exact λcv L' H' hd hP=>X.val rfl rfl (RV.re (v':=.bool true) (p7 rfl rfl) (vb (decide_eq_true zM))) R2):P:=h
theorem PD (h:P:=by rw[hB.block q.2 zM];exact hS.old A0 eY zZ yo):P:=h
theorem PC (h:P:=by rw[hB.block q.1 zM];exact hS.old A0 eO zZ yo):P:=h
theorem zDd (h:P:=by by_cases h9:cp=i2;(left;apply jt;rw[AN];omega);(right;rw[if_neg h9,kx,Nat.min_eq_left zM,jg])):P:=h
theorem zEd (h:P:=by exact λae=>X.val rfl rfl (RV.re (v':=.slice (some ⟨bo,oo,none⟩) c.wes.length c.wc) (aa isAgg97 rfl A0 aP aX zL rfl) (congrArg (λq=>Value.slice q c.wes.length c.wc) iV)) (λ_ _=>rfl)):P:=h
theorem zFd (h:P:=by exact λae=>X.val rfl rfl (RV.re (v':=.agg (plA x)) (cN (i:=0) rfl isAgg135 sizeOf135 rfl (Jx (j:=j1+1) nH zM)) (va (Jw (j:=j1+1) (sp:=sp) nH hx))) (λ_ _=>rfl)):P:=h
theorem zGd (h:P:=by exact λae=>X.val rfl rfl (RV.re (v':=.agg (plA y)) (cN (i:=0) rfl isAgg135 sizeOf135 rfl (Jx (j:=j1) nH zM)) (va (Jw (j:=j1) (sp:=sp) nH hy))) (λ_ _=>rfl)):P:=h
theorem zHd (h:P:=by simp only[Over,n0,fj,eg,dN,dC,and_true];(repeat' apply And.intro);all_goals first|omega|exact True.intro|exact Rw.over (Rw.ge_mono iy zM)|exact Rw.over (Rw.ge_mono dW zM)):P:=h
theorem zId (h:P:=by exact λae=>X.val rfl rfl (cL underlying53 sizeOf355 rfl rfl zM zM) (λ_ _=>rfl)):P:=h
theorem zJd (h:P:=by exact λae=>X.val rfl rfl (aa (v:=.int .i64 y.dev) isAgg3 rfl A1 hcs zZ jS (by have:=D3 (i:=(j:Int)-1) ar hy zM 0 zQ;simpa[sH]using this)) (λ_ _=>rfl)):P:=h
theorem zKd (h:P:=by exact λcv L' H' hd hP=>X.val rfl rfl (cL underlying32 sizeOf135 rfl rfl zM zM) R2):P:=h
theorem zLd (h:P:=by simp only[bE,ne,book,fj,eg,dN,iH,dC,fk,qx,rV,ne_eq,and_true];(repeat' apply And.intro);all_goals first|omega|exact True.intro|exact Rw.off_ge og zM):P:=h
theorem ZZ (h:P:=by exact λcv L' H' hd hP=>X.val rfl rfl (tQ underlying3 underlying202 rfl zM zM) R2):P:=h
theorem zNd (h:P:=by exact λae=>nf call49 rfl rfl (λW hS _=>nXf hZ c dM N W (aS hN (hS.links w A5).size) (hC.up (ao _) (hS.same A5 hN zU zP)) (hg.old hS A5 zU zP)) (λ_=>rfl)):P:=h
theorem zOd (h:P:=by repeat' first|exact True.intro|exact Rw.off_ge (Rw.ge_of iE A0) zM|exact Rw.off_ge (Rw.ge_of oC A0) zM|refine ne.2 ⟨?_,?_⟩|refine⟨by omega,?_⟩):P:=h
theorem zPd (h:P:=by exact λae=>X.val rfl rfl (RV.re (v':=.int .i64 lk.exp) (aa isAgg3 rfl A6 aP (NI b1 (.inl (.inr (.inl rfl))) zM) (pj b1 zM) rfl) rfl) (λ_ _=>rfl)):P:=h
theorem zQd (h:P:=by simp only[Over,n0,fj,eg,dN,dC,and_true];(repeat' apply And.intro);all_goals first|omega|exact True.intro|exact Rw.over (Rw.ge_mono sR zM)):P:=h
theorem zRd (h:P:=by exact λae=>X.val rfl rfl (RV.re (v':=.int .i64 ((j1:Nat):Int)) (gP rfl rfl zM zM) (vi zM)) (λ_ _=>rfl)):P:=h
theorem zSd (h:P:=by exact λcv L' H' hd hP=>X.val rfl rfl (RV.re (v':=.int .i64 ((j1:Nat):Int)) (gP rfl rfl zM zM) (vi zM)) R2):P:=h
theorem zTd (h:P:=by simp only[bE,ne,fj,eg,dN,and_true];(repeat' apply And.intro);all_goals first|omega|exact True.intro|exact Rw.off_ge og zM):P:=h
theorem zUd (h:P:=by exact λae=>X.val rfl rfl (RV.re (v':=.bool false) (cM rfl rfl) (vb (decide_eq_false zM))) (λ_ _=>rfl)):P:=h
theorem zVd (h:P:=by exact λae=>X.val rfl rfl (RV.re (v':=.bool true) (tb rfl rfl) (vb (decide_eq_true zM))) (λ_ _=>rfl)):P:=h
theorem zWd (h:P:=by exact λae=>X.val rfl rfl (RV.re (v':=.agg (dZ c)) (af isAgg99 sizeOf99 rfl A3 aJ aD zL rfl) (rfl)) (λ_ _=>rfl)):P:=h
theorem zXd (h:P:=by exact λae=>X.val rfl rfl (RV.re (v':=.bool false) (bM rfl rfl) (vb kh)) (λ_ _=>rfl)):P:=h
theorem zYd (h:P:=by exact λae=>X.val rfl rfl (RV.re (v':=.bool true) (bM rfl rfl) (vb kh)) (λ_ _=>rfl)):P:=h
theorem XG (h:P:=by rw[dN];exact List.perm_append_comm):P:=h
theorem z0d (h:P:=by first|(first|omega|(unfold cy;(repeat' split)<;>omega))|fail):P:=h
theorem z1d (h:P:=by exact λcv L' H' _ _ hP=>X.val rfl rfl (fh rfl) R2):P:=h
theorem Oi (h:P:=by rw[hl];exact ho):P:=h
theorem JH (h:P:=by simpa using hi):P:=h
theorem Jp (h:P:=by simpa using h2):P:=h
theorem z5d (h:P:=by exact λae=>X.val rfl rfl (ag isAgg34 sizeOf34 rfl A0 aP aX trivial (aT rfl)) (λ_ _=>rfl)):P:=h
theorem z6d (h:P:=by rw[show(Value.agg (iO (oU n m (eG n)) i)).cells=iO (oU n m (eG n)) i from rfl,iO,y9]):P:=h
theorem Jg (h:P:=by simp[rf]):P:=h
theorem z8d (h:P:=by rintro⟨g1,g2,g3⟩;first|omega|simp_all):P:=h
theorem z9d (h:P:=by exact λae=>X.val rfl rfl (aK (i:=0) rfl isAgg149 sizeOf149 rfl rfl) (λ_ _=>rfl)):P:=h
theorem zae (h:P:=by intro p hp;simp at hp;subst hp;exact .inl z1):P:=h
theorem zbe (h:P:=by exact λae=>X.val rfl rfl (lb underlying332 sizeOf263 rfl rfl zM zM) (λ_ _=>rfl)):P:=h
theorem Nx (h:P:=by simp[hb]):P:=h
theorem zde (h:P:=by exact λae=>X.val rfl rfl (cL underlying97 sizeOf166 rfl rfl zM zM) (λ_ _=>rfl)):P:=h
theorem zee (h:P:=by unfold xH;rw[bT,decide_eq_true zM];rfl):P:=h
theorem zfe (h:P:=by exact λae=>X.val rfl rfl (cL underlying41 sizeOf34 rfl rfl zM zM) (λ_ _=>rfl)):P:=h
theorem Of (h:P:=by simpa using hk):P:=h
theorem zhe (h:P:=by first|(intro p hp;simp only[cP,fm,or_false]at hp;rcases hp with rfl|rfl<;>exact .inl z1)|fail):P:=h
theorem zie (h:P:=by have:=(Nr s.pls).2.2;have:=ho.pl;omega):P:=h
theorem zje (h:P:=by have:=(aL.1 pj).1;have:=hB.size;omega):P:=h
theorem zke (h:P:=by exact λae=>X.val rfl rfl (aa isAgg64 rfl A0 mA tX trivial rfl) (λ_ _=>rfl)):P:=h
theorem zle (h:P:=by simp only[dC,fk,fj,eg,dN,Over];exact⟨by omega,Rw.over (Rw.ge_of bH A1)⟩):P:=h
theorem zme (h:P:=by exact λae=>X.val rfl rfl (aa isAgg3 rfl A0 mA tX trivial rfl) (λ_ _=>rfl)):P:=h
theorem zne (h:P:=by unfold xH;rw[n0b hc qC,Bool.and_false]):P:=h
theorem zY (h:P:=by exact rfl):P:=h
theorem Vc (h:P:=by assumption):P:=h
theorem jl (h:P:=by first|(with_reducible exact Tryz.isAgg3)|(with_reducible exact Tryz.isAgg4)|(with_reducible exact Tryz.isAgg9)|(with_reducible exact Tryz.isAgg34)|(with_reducible exact Tryz.isAgg36)|(with_reducible exact Tryz.isAgg38)|(with_reducible exact Tryz.isAgg44)|(with_reducible exact Tryz.isAgg52)|(with_reducible exact Tryz.isAgg53)|(with_reducible exact Tryz.isAgg55)|(with_reducible exact Tryz.isAgg57)|(with_reducible exact Tryz.isAgg59)|(with_reducible exact Tryz.isAgg63)|(with_reducible exact Tryz.isAgg64)|(with_reducible exact Tryz.isAgg84)|(with_reducible exact Tryz.isAgg92)|(with_reducible exact Tryz.isAgg95)|(with_reducible exact Tryz.isAgg96)|(with_reducible exact Tryz.isAgg97)|(with_reducible exact Tryz.isAgg99)|(with_reducible exact Tryz.isAgg132)|(with_reducible exact Tryz.isAgg135)|(with_reducible exact Tryz.isAgg146)|(with_reducible exact Tryz.isAgg149)|(with_reducible exact Tryz.isAgg154)|(with_reducible exact Tryz.isAgg164)|(with_reducible exact Tryz.isAgg166)|(with_reducible exact Tryz.isAgg202)|(with_reducible exact Tryz.isAgg210)|(with_reducible exact Tryz.isAgg214)|(with_reducible exact Tryz.isAgg229)|(with_reducible exact Tryz.isAgg233)|(with_reducible exact Tryz.isAgg264)|(with_reducible exact Tryz.isAgg276)|(with_reducible exact Tryz.isAgg319)|(with_reducible exact Tryz.isAgg336)|(with_reducible exact Tryz.isAgg384)):P:=h
theorem Vd (h:P:=by first|exact A0|exact A1|exact A2|exact A3|exact A4|exact A5|exact A6|exact A7|exact A8|exact A9):P:=h
theorem Ve (h:P:=by first|exact trivial|exact zL):P:=h
theorem fM (h:P:=by(try(conv=>arg 2;whnf));first|(with_reducible exact Tryz.sizeOf3)|(with_reducible exact Tryz.sizeOf4)|(with_reducible exact Tryz.sizeOf5)|(with_reducible exact Tryz.sizeOf9)|(with_reducible exact Tryz.sizeOf22)|(with_reducible exact Tryz.sizeOf24)|(with_reducible exact Tryz.sizeOf27)|(with_reducible exact Tryz.sizeOf28)|(with_reducible exact Tryz.sizeOf31)|(with_reducible exact Tryz.sizeOf34)|(with_reducible exact Tryz.sizeOf36)|(with_reducible exact Tryz.sizeOf38)|(with_reducible exact Tryz.sizeOf41)|(with_reducible exact Tryz.sizeOf44)|(with_reducible exact Tryz.sizeOf46)|(with_reducible exact Tryz.sizeOf50)|(with_reducible exact Tryz.sizeOf52)|(with_reducible exact Tryz.sizeOf53)|(with_reducible exact Tryz.sizeOf55)|(with_reducible exact Tryz.sizeOf57)|(with_reducible exact Tryz.sizeOf59)|(with_reducible exact Tryz.sizeOf61)|(with_reducible exact Tryz.sizeOf63)|(with_reducible exact Tryz.sizeOf64)|(with_reducible exact Tryz.sizeOf67)|(with_reducible exact Tryz.sizeOf81)|(with_reducible exact Tryz.sizeOf84)|(with_reducible exact Tryz.sizeOf92)|(with_reducible exact Tryz.sizeOf95)|(with_reducible exact Tryz.sizeOf96)|(with_reducible exact Tryz.sizeOf97)|(with_reducible exact Tryz.sizeOf99)|(with_reducible exact Tryz.sizeOf101)|(with_reducible exact Tryz.sizeOf118)|(with_reducible exact Tryz.sizeOf126)|(with_reducible exact Tryz.sizeOf128)|(with_reducible exact Tryz.sizeOf135)|(with_reducible exact Tryz.sizeOf146)|(with_reducible exact Tryz.sizeOf149)|(with_reducible exact Tryz.sizeOf162)|(with_reducible exact Tryz.sizeOf164)|(with_reducible exact Tryz.sizeOf166)|(with_reducible exact Tryz.sizeOf183)|(with_reducible exact Tryz.sizeOf201)|(with_reducible exact Tryz.sizeOf202)|(with_reducible exact Tryz.sizeOf210)|(with_reducible exact Tryz.sizeOf214)|(with_reducible exact Tryz.sizeOf229)|(with_reducible exact Tryz.sizeOf233)|(with_reducible exact Tryz.sizeOf261)|(with_reducible exact Tryz.sizeOf263)|(with_reducible exact Tryz.sizeOf264)|(with_reducible exact Tryz.sizeOf276)|(with_reducible exact Tryz.sizeOf279)|(with_reducible exact Tryz.sizeOf281)|(with_reducible exact Tryz.sizeOf336)|(with_reducible exact Tryz.sizeOf355)|(with_reducible exact Tryz.sizeOf373)):P:=h
theorem bO (h:P:=by first|(with_reducible exact Tryz.underlying3)|(with_reducible exact Tryz.underlying5)|(with_reducible exact Tryz.underlying22)|(with_reducible exact Tryz.underlying24)|(with_reducible exact Tryz.underlying27)|(with_reducible exact Tryz.underlying28)|(with_reducible exact Tryz.underlying31)|(with_reducible exact Tryz.underlying32)|(with_reducible exact Tryz.underlying34)|(with_reducible exact Tryz.underlying36)|(with_reducible exact Tryz.underlying38)|(with_reducible exact Tryz.underlying41)|(with_reducible exact Tryz.underlying44)|(with_reducible exact Tryz.underlying46)|(with_reducible exact Tryz.underlying50)|(with_reducible exact Tryz.underlying52)|(with_reducible exact Tryz.underlying53)|(with_reducible exact Tryz.underlying55)|(with_reducible exact Tryz.underlying57)|(with_reducible exact Tryz.underlying59)|(with_reducible exact Tryz.underlying63)|(with_reducible exact Tryz.underlying64)|(with_reducible exact Tryz.underlying66)|(with_reducible exact Tryz.underlying76)|(with_reducible exact Tryz.underlying81)|(with_reducible exact Tryz.underlying84)|(with_reducible exact Tryz.underlying92)|(with_reducible exact Tryz.underlying95)|(with_reducible exact Tryz.underlying96)|(with_reducible exact Tryz.underlying97)|(with_reducible exact Tryz.underlying99)|(with_reducible exact Tryz.underlying101)|(with_reducible exact Tryz.underlying118)|(with_reducible exact Tryz.underlying128)|(with_reducible exact Tryz.underlying135)|(with_reducible exact Tryz.underlying146)|(with_reducible exact Tryz.underlying149)|(with_reducible exact Tryz.underlying162)|(with_reducible exact Tryz.underlying164)|(with_reducible exact Tryz.underlying166)|(with_reducible exact Tryz.underlying189)|(with_reducible exact Tryz.underlying194)|(with_reducible exact Tryz.underlying201)|(with_reducible exact Tryz.underlying202)|(with_reducible exact Tryz.underlying210)|(with_reducible exact Tryz.underlying214)|(with_reducible exact Tryz.underlying229)|(with_reducible exact Tryz.underlying233)|(with_reducible exact Tryz.underlying263)|(with_reducible exact Tryz.underlying281)|(with_reducible exact Tryz.underlying283)|(with_reducible exact Tryz.underlying332)|(with_reducible exact Tryz.underlying336)|(with_reducible exact Tryz.underlying339)|(with_reducible exact Tryz.underlying355)|(with_reducible exact Tryz.underlying373)):P:=h
theorem td (h:P:=by first|(with_reducible exact Tryz.zeroValue34)|(with_reducible exact Tryz.zeroValue214)|(with_reducible exact Tryz.zeroValue332)|(with_reducible exact Tryz.zeroValue373)):P:=h
theorem zR (h:P:=by repeat(first|exact trivial|refine⟨rfl,?_⟩)):P:=h
theorem zch (h:P:=by intro cv L' H' hd hP;(rcases cv with _|⟨v1,_|⟨v2,_|⟨_,_⟩⟩⟩<;>try exact False.elim hP);all_goals(first|obtain⟨rfl,rfl⟩:=hP|obtain⟨b6,rfl,rfl,rfl,gm,yh⟩:=hP|obtain⟨b6,b7,c7,s7,rfl,rfl,rfl,rfl,gm,yh,oH,O4,vw⟩:=hP);all_goals(first|exact X.val rfl rfl (aa isAgg3 rfl A0 aJ aD zL rfl) R2)):P:=h
theorem zci (h:P:=by intro cv L' H' hd hP;(rcases cv with _|⟨v1,_|⟨v2,_|⟨v3,_|⟨_,_⟩⟩⟩⟩<;>try exact False.elim hP);all_goals(first|obtain⟨rfl,rfl⟩:=hP|obtain⟨b6,rfl,rfl,rfl,gm,yh⟩:=hP|obtain⟨b6,b7,c7,s7,rfl,rfl,rfl,rfl,gm,yh,oH,O4,vw⟩:=hP|obtain⟨b6,b7,c7,s7,jH,O6,Rc,rfl,rfl,rfl,rfl,rfl,gm,yh,oH,O4,vw,Re,Z1,Rf⟩:=hP);all_goals(first|exact X.val rfl rfl (aa isAgg9 rfl A0 aJ aD zL rfl) R2)):P:=h
theorem zcj (h:P:=by intro cv L' H' hd hP;(rcases cv with _|⟨v1,_|⟨v2,_|⟨_,_⟩⟩⟩<;>try exact False.elim hP);all_goals(first|obtain⟨rfl,rfl⟩:=hP|obtain⟨b9,rfl,rfl,rfl,qt,E7⟩:=hP|obtain⟨b9,ix,wI,yi,rfl,rfl,rfl,rfl,qt,E7,E8,KO,uy⟩:=hP);all_goals(first|exact X.val rfl rfl (aa isAgg146 rfl A0 cT dI zL rfl) R2|exact X.val rfl rfl (aa isAgg146 rfl A0 cT dI trivial rfl) R2)):P:=h
theorem zck (h:P:=by intro cv L' H' hd hP;(rcases cv with _|⟨v1,_|⟨v2,_|⟨v3,_|⟨v4,_|⟨v5,_|⟨_,_⟩⟩⟩⟩⟩⟩<;>try exact False.elim hP);all_goals(first|obtain⟨rfl,rfl⟩:=hP|obtain⟨bw,bv,eK,rfl,rfl,rfl,rfl,rfl,rfl,rfl,e1,e2,e3,e4,e5,e6,e7⟩:=hP|obtain⟨bw,bv,eK,rfl,rfl,rfl,rfl,rfl,rfl,e1,e2,e3,e4,e5,e6,e7⟩:=hP|obtain⟨bw,bv,eK,rfl,rfl,rfl,rfl,rfl,e1,e2,e3,e4,e5,e6,e7⟩:=hP|obtain⟨bw,bv,eK,rfl,rfl,rfl,rfl,e1,e2,e3,e4,e5,e6,e7⟩:=hP|obtain⟨bw,bv,eK,rfl,rfl,rfl,e1,e2,e3,e4,e5,e6,e7⟩:=hP);all_goals(first|exact X.val rfl rfl (aa isAgg3 rfl A0 aP aX trivial rfl) R2|exact X.val rfl rfl (aa isAgg3 rfl A1 aP aX trivial rfl) R2|exact X.val rfl rfl (af isAgg149 sizeOf149 rfl A0 aP aX trivial rfl) R2|exact X.val rfl rfl (af isAgg149 sizeOf149 rfl A1 aP aX trivial rfl) R2)):P:=h
theorem zcl (h:P:=by intro cv L' H' hd hP;(rcases cv with _|⟨v1,_|⟨_,_⟩⟩<;>try exact False.elim hP);all_goals(first|obtain⟨rfl,rfl⟩:=hP|obtain⟨b4,rfl,rfl,rfl,dD,K7,dH⟩:=hP);all_goals(first|exact X.val rfl rfl (af isAgg84 sizeOf84 rfl A0 aP aX zL rfl) R2|exact X.val rfl rfl (aa isAgg3 rfl A0 aP aX zL rfl) R2)):P:=h
theorem WL (h:P:=by intro cv L' H' hl hd hP;(obtain⟨fC,ki,rfl⟩:=ju hl;rcases fC with _|v12<;>rcases ki with _|oI<;>try exact False.elim hP);all_goals(first|obtain⟨rfl,rfl⟩:=hP|obtain⟨cF,rfl,rfl,rfl,gU,wR⟩:=hP|obtain⟨b3,rfl,rfl,rfl,bY,RM⟩:=hP|obtain⟨cF,b3,rfl,rfl,rfl,rfl,gU,wR,bY,RM⟩:=hP);all_goals(first|exact X.val rfl rfl (ag isAgg34 sizeOf34 rfl A0 aP aX trivial (aT rfl)) R2|exact X.val rfl rfl (ag isAgg34 sizeOf34 rfl A0 aP aX zL (aT rfl)) R2|exact X.val rfl rfl (aa isAgg3 rfl A0 aP aX trivial rfl) R2|exact X.val rfl rfl (aa isAgg3 rfl A0 aP aX zL rfl) R2)):P:=h
theorem zcn (h:P:=by intro cv L' H' hd hP;(rcases cv with _|⟨v1,_|⟨_,_⟩⟩<;>try exact False.elim hP);all_goals(first|obtain⟨rfl,rfl⟩:=hP|obtain⟨eo,rfl,rfl,rfl,iC,aaV,aaW,Fs⟩:=hP);all_goals(first|exact X.val rfl rfl (af isAgg38 sizeOf38 rfl A1 ff gd zL rfl) R2|exact nf call13 rfl rfl (λW hS _=>by rw[<-RU];exact n1f hZ l hl W (hg.old hS A2 zU zP)) (λ_=>rfl)|exact X.val rfl rfl (ag isAgg34 sizeOf34 rfl A0 wz wB zL (aT rfl)) R2)):P:=h
theorem zco (h:P:=by intro cv L' H' hd hP;(rcases cv with _|⟨v1,_|⟨_,_⟩⟩<;>try exact False.elim hP);all_goals(first|obtain⟨rfl,rfl⟩:=hP|obtain⟨b7,rfl,rfl,rfl,fu⟩:=hP);all_goals(first|exact X.val rfl rfl (aa isAgg3 rfl A0 ff gd trivial rfl) R2|exact X.val rfl rfl (aa isAgg3 rfl A0 ff gd zL rfl) R2)):P:=h
theorem zcp (h:P:=by intro cv L' H' hd hP;(rcases cv with _|⟨v1,_|⟨_,_⟩⟩<;>try exact False.elim hP);all_goals(first|obtain⟨rfl,rfl⟩:=hP|obtain⟨DN,DO,rfl,rfl,rfl,Fi,KU,Fj⟩:=hP);all_goals(first|exact X.val rfl rfl (aH (i:=0) rfl isAgg44 rfl rfl) R2|exact X.val rfl rfl (aa isAgg382 rfl A1 aJ aD MW rfl) R2|exact X.val rfl rfl (aa isAgg382 rfl A2 aJ aD MW rfl) R2)):P:=h
theorem Jn (h:P:=by intro cv L' H' hd hP;(rcases cv with _|⟨v1,_|⟨_,_⟩⟩<;>try exact False.elim hP);all_goals(first|obtain⟨rfl,rfl⟩:=hP|obtain⟨a7,c7,w7,rfl,rfl,rfl,iD⟩:=hP);all_goals(first|exact X.val rfl rfl (aa isAgg52 rfl A0 aP aX trivial rfl) R2|exact X.val rfl rfl (aa isAgg52 rfl A1 aP aX trivial rfl) R2|exact X.val rfl rfl (ag isAgg55 sizeOf55 rfl A0 aP aX trivial (aT rfl)) R2|exact X.val rfl rfl (ag isAgg55 sizeOf55 rfl A1 aP aX trivial (aT rfl)) R2)):P:=h
theorem PH (h:P:=by intro cv L' H' hd hP;(rcases cv with _|⟨v1,_|⟨v2,_|⟨v3,_|⟨v4,_|⟨_,_⟩⟩⟩⟩⟩<;>try exact False.elim hP);all_goals(first|obtain⟨rfl,rfl⟩:=hP|obtain⟨kj,rfl,rfl,rfl,iW⟩:=hP|obtain⟨kj,bn,cn,sn,rfl,rfl,rfl,rfl,rfl,iW,hfn,Ju⟩:=hP|obtain⟨kj,bn,cn,sn,rfl,rfl,rfl,rfl,iW,hfn,Ju⟩:=hP|obtain⟨kj,bn,cn,sn,oM,rfl,rfl,rfl,rfl,rfl,rfl,iW,hfn,Ju,hfo⟩:=hP);all_goals(first|exact X.val rfl rfl (aH (i:=3) rfl isAgg146 rfl rfl) R2|exact X.val rfl rfl (aH (i:=4) rfl isAgg146 rfl rfl) R2|exact X.val rfl rfl (aH (i:=5) rfl isAgg146 rfl rfl) R2|exact X.val rfl rfl (aH (i:=6) rfl isAgg146 rfl rfl) R2|exact X.val rfl rfl (aH (i:=0) rfl isAgg3 rfl rfl) R2|exact X.val rfl rfl (aH (i:=1) rfl isAgg3 rfl rfl) R2|exact X.val rfl rfl (aH (i:=2) rfl isAgg3 rfl rfl) R2|exact X.val rfl rfl (aH (i:=3) rfl isAgg3 rfl rfl) R2)):P:=h
theorem Bo (h:P:=by intro cv L' H' hd hP;(rcases cv with _|⟨v1,_|⟨v2,_|⟨v3,_|⟨_,_⟩⟩⟩⟩<;>try exact False.elim hP);all_goals(first|obtain⟨rfl,rfl⟩:=hP|obtain⟨bn,rfl,rfl,rfl,rfl,hfn⟩:=hP|obtain⟨bn,rfl,rfl,rfl,hfn⟩:=hP|obtain⟨bn,oM,rfl,rfl,rfl,rfl,rfl,hfn,hfo⟩:=hP);all_goals(first|exact X.val rfl rfl (aH (i:=2) rfl isAgg146 rfl rfl) R2|exact X.val rfl rfl (aH (i:=3) rfl isAgg146 rfl rfl) R2|exact X.val rfl rfl (aH (i:=4) rfl isAgg146 rfl rfl) R2|exact X.val rfl rfl (aH (i:=0) rfl isAgg3 rfl rfl) R2|exact X.val rfl rfl (aH (i:=1) rfl isAgg3 rfl rfl) R2|exact X.val rfl rfl (aH (i:=2) rfl isAgg3 rfl rfl) R2|exact X.val rfl rfl (aH (i:=0) rfl isAgg64 rfl rfl) R2|exact X.val rfl rfl (aH (i:=1) rfl isAgg64 rfl rfl) R2|exact X.val rfl rfl (aH (i:=2) rfl isAgg64 rfl rfl) R2|exact nf call143 rfl rfl (λW hS _=>S7 x.w.body N x.w.ba x.w.bc W (aS hN (hS.links w A1).size) (oe.up ph (ao _) (λk hk=>(hS.links w A1).block k zM (λhx=>by first|(rcases hx with hx|hx;(exact hx);simp only[ga,eF,iz,fj,eg,dN,cS,cP,fm,or_false]at hx;rcases hx with hx|hx|hx|hx|hx<;>first|omega|(have:=hq _ hx;omega)|(have h9:=hfn.not (w:=w) A1;omega)|(have h9:=hfo.not (w:=w) A1;omega))|fail)))) (λ_=>rfl)|exact nf call143 rfl rfl (λW hS _=>S7 x.w.body N x.w.ba x.w.bc W (aS hN (hS.links w A1).size) (oe.up ph (ao _) (λk hk=>(hS.links w A1).block k zM (λhx=>by first|(rcases hx with hx|hx;(exact hx);simp only[ga,eF,iz,fj,eg,dN,cS,cP,fm,or_false]at hx;rcases hx with hx|hx|hx|hx|hx|hx<;>first|omega|(have:=hq _ hx;omega)|(have h9:=hfn.not (w:=w) A1;omega)|(have h9:=hfo.not (w:=w) A1;omega))|fail)))) (λ_=>rfl)|exact nf call143 rfl rfl (λW hS _=>S7 x.w.body N x.w.ba x.w.bc W (aS hN (hS.links w A1).size) (oe.up ph (ao _) (λk hk=>(hS.links w A1).block k zM (λhx=>by first|(rcases hx with hx|hx;(exact hx);simp only[ga,eF,iz,fj,eg,dN,cS,cP,fm,or_false]at hx;rcases hx with hx|hx|hx|hx|hx|hx|hx<;>first|omega|(have:=hq _ hx;omega)|(have h9:=hfn.not (w:=w) A1;omega)|(have h9:=hfo.not (w:=w) A1;omega))|fail)))) (λ_=>rfl)|exact X.val rfl rfl (aH (i:=1) rfl isAgg146 rfl rfl) R2)):P:=h
theorem Bq (h:P:=by intro cv L' H' hd hP;(rcases cv with _|⟨v1,_|⟨v2,_|⟨_,_⟩⟩⟩<;>try exact False.elim hP);all_goals(first|obtain⟨rfl,rfl⟩:=hP|obtain⟨tD,rfl,rfl,rfl,rfl,og,oh⟩:=hP|obtain⟨tD,rfl,rfl,rfl,og,oh⟩:=hP);all_goals(first|exact X.val rfl rfl (aa isAgg3 rfl A0 aP aX zLd rfl) R2|exact nf call143 rfl rfl (λW hS _=>by have h1:=hS.old A0 aP aX zTd;have h2:=S7 (dt c.par) W.heap.size (some ⟨b1,2,none⟩) 32 W (ao _) (.inr ⟨b1,2,rfl,(aL.1 h1).1,cG.dgo h1 rfl (aT rfl) pT.bp⟩);rw[PG]at h2;exact h2) (λ_=>rfl)|exact X.val rfl rfl (aK (i:=2) rfl isAgg149 sizeOf149 rfl rfl) R2|exact X.val rfl rfl (aa isAgg44 rfl A0 aP aX zLd rfl) R2|exact X.val rfl rfl (aK (i:=1) rfl isAgg149 sizeOf149 rfl rfl) R2|exact X.val rfl rfl (aK (i:=0) rfl isAgg149 sizeOf149 rfl rfl) R2|exact nf call143 rfl rfl (λW hS _=>by have h1:=hS.old A0 aP aX zTd;have h2:=S7 (dt c.conf) W.heap.size (some ⟨b1,39,none⟩) 32 W (ao _) (.inr ⟨b1,39,rfl,(aL.1 h1).1,cG.dgo h1 rfl (aT rfl) pT.bf⟩);rw[PG]at h2;exact h2) (λ_=>rfl))):P:=h
theorem pX (h:P:=by intro cv L' H' hd hP;(rcases cv with _|⟨v1,_|⟨_,_⟩⟩<;>try exact False.elim hP);all_goals(first|obtain⟨rfl,rfl⟩:=hP|obtain⟨aw,cw,ww,rfl,rfl,rfl,pY,sN⟩:=hP);all_goals(first|exact X.val rfl rfl (aa isAgg96 rfl A1 aJ aD zL rfl) R2|exact X.val rfl rfl (aa isAgg96 rfl A2 aJ aD zL rfl) R2|exact nf call149 rfl rfl (λW hS _=>by have h9:=nrb c.bxs zM W.heap.size c.ba c.bc W (ao _) (hC.bxs.up (aS hN (hS.links w A3).size) (hS.same A3 hN zU zP)) (gG G.g c.author c.chs) an cn (sL.to hS A0 (ao _) (λb off e=>.inr zIc));rw[show jX Jv c.bxs (gG G.g c.author c.chs)=true from hb]at h9;exact h9) (λ_=>rfl)|exact nf call149 rfl rfl (λW hS _=>by have h9:=nrb c.bxs zM W.heap.size c.ba c.bc W (ao _) (hC.bxs.up (aS hN (hS.links w A4).size) (hS.same A4 hN zU zP)) (gG G.g c.author c.chs) an cn (sL.to hS A1 (ao _) (λb off e=>.inr zIc));rw[show jX Jv c.bxs (gG G.g c.author c.chs)=true from hb]at h9;exact h9) (λ_=>rfl)|exact X.val rfl rfl (aa isAgg97 rfl A1 aJ aD zL rfl) R2|exact X.val rfl rfl (aa isAgg97 rfl A2 aJ aD zL rfl) R2|exact X.val rfl rfl (aa isAgg3 rfl A1 aJ aD zL rfl) R2|exact X.val rfl rfl (aa isAgg3 rfl A2 aJ aD zL rfl) R2|exact X.val rfl rfl (aa isAgg95 rfl A1 aJ aD zL rfl) R2|exact X.val rfl rfl (aa isAgg95 rfl A2 aJ aD zL rfl) R2)):P:=h
theorem rH (h:P:=by intro cv L' H' hd hP;(rcases cv with _|⟨v1,_|⟨_,_⟩⟩<;>try exact False.elim hP);all_goals(first|obtain⟨rfl,rfl⟩:=hP|obtain⟨bm,wm,rfl,rfl,rfl,jh,hgm⟩:=hP);all_goals(first|exact X.val rfl rfl (af isAgg57 sizeOf57 rfl A3 aI aE zL rfl) R2|exact X.val rfl rfl (af isAgg57 sizeOf57 rfl A4 aI aE zL rfl) R2|exact X.val rfl rfl (aa isAgg3 rfl A2 aJ aD zL rfl) R2|exact X.val rfl rfl (aa isAgg3 rfl A3 aJ aD zL rfl) R2|exact X.val rfl rfl (aa isAgg95 rfl A2 aJ aD zL rfl) R2|exact X.val rfl rfl (aa isAgg95 rfl A3 aJ aD zL rfl) R2|exact nf call152 rfl rfl (λW hS _=>nUb G N W (aS hN (hS.links w A4).size) (hG.up (ao _) (hS.same A4 hN zU zP)) c.chs zM c.ca c.cc (hC.chs.up (ao _) (hS.same A4 hN zU zP)) c.author (λhm=>nre pZ sK hm)) (λ_=>rfl)|exact nf call152 rfl rfl (λW hS _=>nUb G N W (aS hN (hS.links w A5).size) (hG.up (ao _) (hS.same A5 hN zU zP)) c.chs zM c.ca c.cc (hC.chs.up (ao _) (hS.same A5 hN zU zP)) c.author (λhm=>nre pZ sK hm)) (λ_=>rfl)|exact X.val rfl rfl (af isAgg99 sizeOf99 rfl A2 aJ aD zL rfl) R2|exact X.val rfl rfl (af isAgg99 sizeOf99 rfl A3 aJ aD zL rfl) R2|exact X.val rfl rfl (ag isAgg36 sizeOf36 rfl A2 aJ aD zL (aT rfl)) R2|exact X.val rfl rfl (ag isAgg36 sizeOf36 rfl A3 aJ aD zL (aT rfl)) R2)):P:=h
theorem JB (h:P:=by intro cv L' H' hd hP;(rcases cv with _|⟨v1,_|⟨v2,_|⟨v3,_|⟨v4,_|⟨v5,_|⟨_,_⟩⟩⟩⟩⟩⟩<;>try exact False.elim hP);all_goals(first|obtain⟨rfl,rfl⟩:=hP|obtain⟨ta,tc,wr,rfl,rfl,rfl,oL,eX,mH⟩:=hP|obtain⟨ta,tc,wr,r8,rfl,rfl,rfl,rfl,rfl,rfl,rfl,oL,eX,mH,kI,eT,eU⟩:=hP|obtain⟨ta,tc,wr,r8,rfl,rfl,rfl,rfl,rfl,rfl,oL,eX,mH,kI,eT,eU⟩:=hP|obtain⟨ta,tc,wr,r8,rfl,rfl,rfl,rfl,rfl,oL,eX,mH,kI,eT,eU⟩:=hP|obtain⟨ta,tc,wr,r8,rfl,rfl,rfl,rfl,oL,eX,mH,kI,eT,eU⟩:=hP);all_goals(first|exact X.val rfl rfl (af isAgg57 sizeOf57 rfl A4 aI aE GV rfl) R2|exact X.val rfl rfl (af isAgg57 sizeOf57 rfl A5 aI aE GV rfl) R2|exact X.val rfl rfl (aa isAgg95 rfl A3 aJ aD GV rfl) R2|exact X.val rfl rfl (aa isAgg95 rfl A4 aJ aD GV rfl) R2|exact X.val rfl rfl (aa isAgg3 rfl A3 aJ aD GV rfl) R2|exact X.val rfl rfl (aa isAgg3 rfl A4 aJ aD GV rfl) R2|exact X.val rfl rfl (aa isAgg44 rfl A3 aJ aD GV rfl) R2|exact X.val rfl rfl (aa isAgg44 rfl A4 aJ aD GV rfl) R2)):P:=h
theorem zcx (h:P:=by intro cv L' H' hl hd hP;(obtain⟨x3,x4,x8,x9,rfl⟩:=qz hl;rcases x3 with _|v3<;>rcases x4 with _|v4<;>rcases x8 with _|v8<;>rcases x9 with _|v9<;>try exact False.elim hP);all_goals(first|obtain⟨rfl,rfl⟩:=hP|obtain⟨gj,rfl,rfl,rfl,i6⟩:=hP|obtain⟨gC,rfl,rfl,rfl,jQ⟩:=hP|obtain⟨gj,gC,rfl,rfl,rfl,rfl,i6,jQ⟩:=hP|obtain⟨gj,iI,eA,eV,rfl,rfl,rfl,rfl,i6,i7,eB⟩:=hP|obtain⟨gj,iI,eA,eV,gC,rfl,rfl,rfl,rfl,rfl,i6,i7,eB,jQ⟩:=hP|obtain⟨gj,iI,eA,eV,gC,we,po,qW,rfl,rfl,rfl,rfl,rfl,rfl,i6,i7,eB,jQ,ow,lv⟩:=hP);all_goals(first|exact X.val rfl rfl (aH (i:=3) rfl isAgg41 rfl rfl) R2|exact X.val rfl rfl (aH (i:=4) rfl isAgg41 rfl rfl) R2|exact X.val rfl rfl (aH (i:=5) rfl isAgg41 rfl rfl) R2|exact X.val rfl rfl (aK (i:=0) rfl isAgg34 sizeOf34 rfl rfl) R2|exact X.val rfl rfl (aK (i:=1) rfl isAgg34 sizeOf34 rfl rfl) R2|exact X.val rfl rfl (aK (i:=2) rfl isAgg34 sizeOf34 rfl rfl) R2|exact X.val rfl rfl (aH (i:=3) rfl isAgg44 rfl rfl) R2|exact X.val rfl rfl (aH (i:=4) rfl isAgg44 rfl rfl) R2|exact X.val rfl rfl (aH (i:=5) rfl isAgg44 rfl rfl) R2)):P:=h
theorem MY (h:P:=by intro cv L' H' hd hP;(rcases cv with _|⟨v1,_|⟨_,_⟩⟩<;>try exact False.elim hP);all_goals(first|obtain⟨rfl,rfl⟩:=hP|obtain⟨PT,rfl,rfl,rfl,adH⟩:=hP);all_goals(first|exact X.val rfl rfl (aK (i:=1) rfl isAgg99 sizeOf99 rfl rfl) R2|exact X.val rfl rfl (aK (i:=2) rfl isAgg99 sizeOf99 rfl rfl) R2|exact X.val rfl rfl (aa isAgg41 rfl A1 aI aE MW rfl) R2|exact X.val rfl rfl (RV.re (v':=.agg (dg (aR Z c))) (ag isAgg34 sizeOf34 rfl A2 sx zZ TY (nl sy EB rfl)) (va (nq sy EB rfl))) R2|exact X.val rfl rfl (af isAgg57 sizeOf57 rfl A0 aJ aD MW rfl) R2|exact X.val rfl rfl (aH (i:=1) rfl isAgg3 rfl rfl) R2|exact X.val rfl rfl (aH (i:=2) rfl isAgg3 rfl rfl) R2|exact nf call163 rfl rfl (λW hS _=>nBn G N W (aS hN (hS.links w A2).size) (hG.up (ao _) (hS.same A2 hN zU TZ)) c.author) (λ_=>rfl)|exact X.val rfl rfl (aK (i:=0) rfl isAgg57 sizeOf57 rfl rfl) R2|exact X.val rfl rfl (aK (i:=1) rfl isAgg57 sizeOf57 rfl rfl) R2)):P:=h
theorem T9 (h:P:=by intro cv L' H' hl hd hP;(obtain⟨fC,ja,ki,u3,u4,rfl⟩:=iB hl;rcases fC with _|v12<;>rcases ja with _|kT<;>rcases ki with _|oI<;>rcases u3 with _|sS<;>rcases u4 with _|v17<;>try exact False.elim hP);all_goals(first|obtain⟨rfl,rfl⟩:=hP|obtain⟨b7,rfl,rfl,rfl,fu⟩:=hP|obtain⟨Xn,dR,rfl,rfl,rfl,rfl,rfl,fl,gO,jy,jz⟩:=hP|obtain⟨Xn,dR,rfl,rfl,rfl,rfl,fl,gO,jy,jz⟩:=hP|obtain⟨Xn,dR,rfl,rfl,rfl,fl,gO,jy,jz⟩:=hP|obtain⟨Xn,dR,b7,rfl,rfl,rfl,rfl,rfl,rfl,rfl,fl,gO,jy,jz,fu,oN⟩:=hP|obtain⟨Xn,dR,b7,rfl,rfl,rfl,rfl,rfl,rfl,fl,gO,jy,jz,fu,oN⟩:=hP|obtain⟨Xn,dR,b7,rfl,rfl,rfl,rfl,rfl,fl,gO,jy,jz,fu,oN⟩:=hP|obtain⟨Xn,dR,b7,rfl,rfl,rfl,rfl,fl,gO,jy,jz,fu,oN⟩:=hP);all_goals(first|exact X.val rfl rfl (aa isAgg3 rfl A0 aJ aD zL rfl) R2|exact X.val rfl rfl (aa isAgg3 rfl A1 aJ aD zL rfl) R2|exact X.val rfl rfl (aa isAgg24 rfl A1 aI aE zL rfl) R2|exact X.val rfl rfl (aa isAgg24 rfl A2 aI aE zL rfl) R2|exact X.val rfl rfl (aa isAgg44 rfl A1 aI aE zL rfl) R2|exact X.val rfl rfl (aa isAgg44 rfl A2 aI aE zL rfl) R2|exact X.val rfl rfl (aa (v:=.int .i64 (i:Int)) isAgg3 rfl A2 B8 zZ Qv Yd) R2|exact X.val rfl rfl (aa (v:=.int .i64 (i:Int)) isAgg3 rfl A3 B8 zZ Qv Yd) R2|exact X.val rfl rfl (RV.re (v':=.agg (dZ c)) (ag isAgg99 sizeOf99 rfl A2 uZ zZ Qv (nl mv hc rfl)) (va (nq mv hc rfl))) R2|exact X.val rfl rfl (RV.re (v':=.agg (dZ c)) (ag isAgg99 sizeOf99 rfl A3 uZ zZ Qv (nl mv hc rfl)) (va (nq mv hc rfl))) R2)):P:=h
theorem Eg (h:P:=by intro cv L' H' hd hP;(rcases cv with _|⟨v1,_|⟨_,_⟩⟩<;>try exact False.elim hP);all_goals(first|obtain⟨rfl,rfl,rfl⟩:=hP|obtain⟨rfl,rfl⟩:=hP);all_goals(first|exact X.val rfl rfl (aa isAgg44 rfl A2 aI aE zL rfl) R2|exact X.val rfl rfl (aa (v:=.int .i64 (i:Int)) isAgg3 rfl A3 B8 zZ Qv Yd) R2|exact X.val rfl rfl (aa isAgg24 rfl A2 aI aE zL rfl) R2|exact X.val rfl rfl (RV.re (v':=.agg (dZ c)) (ag isAgg99 sizeOf99 rfl A3 uZ zZ Qv (nl mv hc rfl)) (va (nq mv hc rfl))) R2|exact X.val rfl rfl (ag isAgg34 sizeOf34 rfl A1 aJ aD zL (aT rfl)) R2|exact X.val rfl rfl (aK (i:=0) rfl isAgg57 sizeOf57 rfl rfl) R2|exact X.val rfl rfl (aH (i:=1) rfl isAgg44 rfl rfl) R2|exact X.val rfl rfl (aH (i:=0) rfl isAgg46 rfl rfl) R2)):P:=h
theorem zcB (h:P:=by intro cv L' H' hd hP;(rcases cv with _|⟨v1,_|⟨v2,_|⟨_,_⟩⟩⟩<;>try exact False.elim hP);all_goals(first|obtain⟨rfl,rfl,rfl,rfl⟩:=hP|obtain⟨rfl,rfl,rfl⟩:=hP|obtain⟨rfl,rfl⟩:=hP);all_goals(first|exact X.val rfl rfl ((by first|exact RV.re (v':=.agg (plA y)) (cN (i:=0) rfl isAgg135 sizeOf135 rfl (Jx (j:=j1) nH zM)) (va (Jw (j:=j1) (sp:=sp) nH hy))|exact RV.re (v':=.agg (plA y)) (cN (i:=0) rfl isAgg135 sizeOf135 rfl (Jx (j:=j1) nH (by simp only[Ht];omega))) (va (Jw (j:=j1) (sp:=sp) nH (by rw[HY zM];exact hy))))) R2)):P:=h
theorem zcC (h:P:=by intro cv L' H' hl hd hP;(obtain⟨x5,x6,jc,rfl⟩:=gp hl;rcases x5 with _|v5<;>rcases x6 with _|v6<;>rcases jc with _|v10<;>try exact False.elim hP);all_goals(first|obtain⟨rfl,rfl⟩:=hP|obtain⟨(r5:Rw),rfl,rfl,rfl,iE,dp⟩:=hP|obtain⟨cF,rfl,rfl,rfl,gU⟩:=hP|obtain⟨r5,(r6:Rw),rfl,rfl,rfl,rfl,iE,dp,oC,ij⟩:=hP|obtain⟨r5,cF,rfl,rfl,rfl,rfl,iE,dp,gU⟩:=hP|obtain⟨r5,r6,cF,rfl,rfl,rfl,rfl,rfl,iE,dp,oC,ij,gU⟩:=hP);all_goals(first|exact X.val rfl rfl (aa isAgg32 rfl A1 aI aE zOd rfl) R2|exact X.val rfl rfl (aa isAgg3 rfl A0 aJ aD zOd rfl) R2)):P:=h
theorem Eo (h:P:=by intro cv L' H' hd hP;(rcases cv with _|⟨v1,_|⟨_,_⟩⟩<;>try exact False.elim hP);all_goals(first|obtain⟨rfl,rfl⟩:=hP|obtain⟨sV,wh,rfl,rfl,rfl,px⟩:=hP);all_goals(first|exact X.val rfl rfl (af isAgg84 sizeOf84 rfl A0 ff gd trivial rfl) R2|exact X.val rfl rfl (af isAgg84 sizeOf84 rfl A1 ff gd trivial rfl) R2|exact nf call26 rfl rfl (λW hS _=>by have h9:=nI p W;rwa[hv]at h9) (λ_=>rfl)|exact X.val rfl rfl (RV.re (v':=.bool true) (aa isAgg4 rfl A0 ff gd trivial rfl) (vb hr)) R2|exact X.val rfl rfl (RV.re (v':=.bool true) (aa isAgg4 rfl A1 ff gd trivial rfl) (vb hr)) R2|exact X.val rfl rfl (aa isAgg3 rfl A0 ff gd trivial rfl) R2|exact X.val rfl rfl (aa isAgg3 rfl A1 ff gd trivial rfl) R2|exact X.val rfl rfl (aa isAgg3 rfl A1 cT dI trivial rfl) R2|exact X.val rfl rfl (aa isAgg3 rfl A2 cT dI trivial rfl) R2|exact X.val rfl rfl (af isAgg84 sizeOf84 rfl A1 cT dI trivial rfl) R2|exact X.val rfl rfl (af isAgg84 sizeOf84 rfl A2 cT dI trivial rfl) R2|exact X.val rfl rfl (ag isAgg36 sizeOf36 rfl A1 cT dI trivial (aT rfl)) R2|exact X.val rfl rfl (ag isAgg36 sizeOf36 rfl A2 cT dI trivial (aT rfl)) R2)):P:=h
theorem xD (h:P:=by intro cv L' H' hd hP;(rcases cv with _|⟨v1,_|⟨v2,_|⟨_,_⟩⟩⟩<;>try exact False.elim hP);all_goals(first|obtain⟨rfl,rfl⟩:=hP|obtain⟨km,rfl,rfl,rfl,gI,dw⟩:=hP|obtain⟨km,sV,wh,rfl,rfl,rfl,rfl,gI,dw,px,CE⟩:=hP);all_goals(first|exact X.val rfl rfl (af isAgg84 sizeOf84 rfl A0 ff gd rm rfl) R2|exact X.val rfl rfl (af isAgg84 sizeOf84 rfl A1 ff gd rm rfl) R2|exact nf call26 rfl rfl (λW hS _=>by have h9:=nI p W;rwa[hv]at h9) (λ_=>rfl)|exact X.val rfl rfl (RV.re (v':=.bool true) (aa isAgg4 rfl A0 ff gd rm rfl) (vb hr)) R2|exact X.val rfl rfl (RV.re (v':=.bool true) (aa isAgg4 rfl A1 ff gd rm rfl) (vb hr)) R2|exact X.val rfl rfl (aa isAgg3 rfl A0 ff gd rm rfl) R2|exact X.val rfl rfl (aa isAgg3 rfl A1 ff gd rm rfl) R2|exact X.val rfl rfl (aa isAgg3 rfl A1 cT dI rm rfl) R2|exact X.val rfl rfl (aa isAgg3 rfl A2 cT dI rm rfl) R2|exact X.val rfl rfl (aa isAgg32 rfl A2 aJ aD rm rfl) R2|exact X.val rfl rfl (aa isAgg32 rfl A3 aJ aD rm rfl) R2|exact X.val rfl rfl (af isAgg84 sizeOf84 rfl A1 cT dI rm rfl) R2|exact X.val rfl rfl (af isAgg84 sizeOf84 rfl A2 cT dI rm rfl) R2|exact X.val rfl rfl (ag isAgg36 sizeOf36 rfl A1 cT dI rm (aT rfl)) R2|exact X.val rfl rfl (ag isAgg36 sizeOf36 rfl A2 cT dI rm (aT rfl)) R2)):P:=h
theorem Ep (h:P:=by intro cv L' H' hd hP;(rcases cv with _|⟨v1,_|⟨_,_⟩⟩<;>try exact False.elim hP);all_goals(first|obtain⟨rfl,rfl⟩:=hP|obtain⟨km,rfl,rfl,rfl,gI,dw⟩:=hP);all_goals(first|exact X.val rfl rfl (af isAgg84 sizeOf84 rfl A0 ff gd rm rfl) R2|exact nf call26 rfl rfl (λW hS _=>by have h9:=nI p W;rwa[hv]at h9) (λ_=>rfl)|exact X.val rfl rfl (RV.re (v':=.bool true) (aa isAgg4 rfl A0 ff gd rm rfl) (vb hr)) R2|exact X.val rfl rfl (aa isAgg3 rfl A0 ff gd rm rfl) R2|exact X.val rfl rfl (aa isAgg3 rfl A1 cT dI rm rfl) R2|exact X.val rfl rfl (aa isAgg32 rfl A2 aJ aD rm rfl) R2)):P:=h
theorem Es (h:P:=by intro cv L' H' hd hP;(rcases cv with _|⟨v1,_|⟨_,_⟩⟩<;>try exact False.elim hP);all_goals(first|obtain⟨rfl,rfl⟩:=hP|obtain⟨bm,wm,rfl,rfl,rfl,jh⟩:=hP);all_goals(first|exact X.val rfl rfl (aa isAgg3 rfl A1 aI aE trivial rfl) R2|exact X.val rfl rfl (aa isAgg3 rfl A2 aI aE trivial rfl) R2|exact X.val rfl rfl (af isAgg57 sizeOf57 rfl A0 aJ aD trivial rfl) R2|exact X.val rfl rfl (af isAgg57 sizeOf57 rfl A1 aJ aD trivial rfl) R2|exact X.val rfl rfl (af isAgg59 sizeOf59 rfl A1 aI aE trivial rfl) R2|exact X.val rfl rfl (af isAgg59 sizeOf59 rfl A2 aI aE trivial rfl) R2|exact X.val rfl rfl (ag isAgg36 sizeOf36 rfl A1 aI aE trivial (aT rfl)) R2|exact X.val rfl rfl (ag isAgg36 sizeOf36 rfl A2 aI aE trivial (aT rfl)) R2|exact X.val rfl rfl (aa isAgg3 rfl A1 cT dI trivial rfl) R2|exact X.val rfl rfl (aa isAgg3 rfl A2 cT dI trivial rfl) R2|exact X.val rfl rfl (RV.re (v':=.bool true) (aa isAgg4 rfl A2 aI aE trivial rfl) (vb ho)) R2|exact X.val rfl rfl (RV.re (v':=.bool true) (aa isAgg4 rfl A3 aI aE trivial rfl) (vb ho)) R2|exact X.val rfl rfl (aa isAgg3 rfl A2 aJ aD trivial rfl) R2|exact X.val rfl rfl (aa isAgg3 rfl A3 aJ aD trivial rfl) R2|exact X.val rfl rfl (af isAgg59 sizeOf59 rfl A1 cT dI trivial rfl) R2|exact X.val rfl rfl (af isAgg59 sizeOf59 rfl A2 cT dI trivial rfl) R2|exact X.val rfl rfl (ag isAgg36 sizeOf36 rfl A1 cT dI trivial (aT rfl)) R2|exact X.val rfl rfl (ag isAgg36 sizeOf36 rfl A2 cT dI trivial (aT rfl)) R2)):P:=h
theorem YA (h:P:=by intro cv L' H' hl hd hP;(obtain⟨x3,x4,x8,rfl⟩:=gp hl;rcases x3 with _|v3<;>rcases x4 with _|v4<;>rcases x8 with _|v8<;>try exact False.elim hP);all_goals(first|obtain⟨rfl,rfl⟩:=hP|obtain⟨eo,rfl,rfl,rfl,iC⟩:=hP|obtain⟨kC,rfl,rfl,rfl,qG⟩:=hP|obtain⟨eo,kC,rfl,rfl,rfl,rfl,iC,qG⟩:=hP|obtain⟨eo,cF,fZ,gH,rfl,rfl,rfl,rfl,iC,jW,fH⟩:=hP|obtain⟨eo,cF,fZ,gH,kC,rfl,rfl,rfl,rfl,rfl,iC,jW,fH,qG⟩:=hP);all_goals(first|exact X.val rfl rfl (aH (i:=2) rfl isAgg44 rfl rfl) R2|exact X.val rfl rfl (aH (i:=3) rfl isAgg44 rfl rfl) R2|exact X.val rfl rfl (aH (i:=4) rfl isAgg44 rfl rfl) R2|exact X.val rfl rfl (aH (i:=0) rfl isAgg3 rfl rfl) R2|exact X.val rfl rfl (aH (i:=1) rfl isAgg3 rfl rfl) R2|exact X.val rfl rfl (aH (i:=2) rfl isAgg3 rfl rfl) R2|exact X.val rfl rfl (aH (i:=1) rfl isAgg46 rfl rfl) R2|exact X.val rfl rfl (aH (i:=2) rfl isAgg46 rfl rfl) R2|exact X.val rfl rfl (aH (i:=3) rfl isAgg46 rfl rfl) R2|exact X.val rfl rfl (cN (i:=0) rfl isAgg57 sizeOf57 rfl (aT rfl)) R2|exact X.val rfl rfl (cN (i:=1) rfl isAgg57 sizeOf57 rfl (aT rfl)) R2|exact X.val rfl rfl (cN (i:=2) rfl isAgg57 sizeOf57 rfl (aT rfl)) R2)):P:=h
theorem zcI (h:P:=by intro cv L' H' hl hd hP;(obtain⟨x9,jc,mL,fC,ja,rfl⟩:=iB hl;rcases x9 with _|v9<;>rcases jc with _|v10<;>rcases mL with _|v11<;>rcases fC with _|v12<;>rcases ja with _|kT<;>try exact False.elim hP);all_goals(first|obtain⟨rfl,rfl⟩:=hP|obtain⟨a1,c1,a2,c2,ds,w9,rfl,rfl,rfl,rfl,rfl,rfl,rfl,gX,gY,eO,eY,qB,mF⟩:=hP|obtain⟨a1,c1,a2,c2,ds,w9,rfl,rfl,rfl,rfl,rfl,rfl,gX,gY,eO,eY,qB,mF⟩:=hP|obtain⟨a1,c1,a2,c2,ds,w9,rfl,rfl,rfl,rfl,rfl,gX,gY,eO,eY,qB,mF⟩:=hP|obtain⟨a1,c1,a2,c2,ds,w9,rfl,rfl,rfl,rfl,gX,gY,eO,eY,qB,mF⟩:=hP|obtain⟨a1,c1,a2,c2,ds,w9,rfl,rfl,rfl,gX,gY,eO,eY,qB,mF⟩:=hP);all_goals(first|exact X.val rfl rfl (RV.re (v':=.slice (some ⟨bo,oo,none⟩) s.fos.length s.fc) (aa isAgg22 rfl A1 aP aX trivial rfl) (by rw[<-iV];rfl)) R2|exact X.val rfl rfl (RV.re (v':=.slice (some ⟨bo,oo,none⟩) s.fos.length s.fc) (aa isAgg22 rfl A2 aP aX trivial rfl) (by rw[<-iV];rfl)) R2|exact X.val rfl rfl (RV.re (v':=.agg (rJ x0)) (ag isAgg50 sizeOf50 rfl A1 hcs hmo trivial (nl ar iU rfl)) (va (nq ar iU rfl))) R2|exact X.val rfl rfl (RV.re (v':=.agg (rJ x0)) (ag isAgg50 sizeOf50 rfl A2 hcs hmo trivial (nl ar iU rfl)) (va (nq ar iU rfl))) R2|exact X.val rfl rfl (RV.re (v':=.slice s.la s.cs.length s.lc) (aa isAgg24 rfl A1 aP aX trivial rfl) (rfl)) R2|exact X.val rfl rfl (RV.re (v':=.slice s.la s.cs.length s.lc) (aa isAgg24 rfl A2 aP aX trivial rfl) (rfl)) R2)):P:=h
theorem JZ (h:P:=by intro cv L' H' hd hP;(rcases cv with _|⟨v1,_|⟨_,_⟩⟩<;>try exact False.elim hP);all_goals(first|obtain⟨rfl,rfl⟩:=hP|obtain⟨bm,wm,rfl,rfl,rfl,jh,J0,pj⟩:=hP);all_goals(first|exact X.val rfl rfl (aK (i:=0) rfl isAgg57 sizeOf57 rfl rfl) R2|exact X.val rfl rfl (aa isAgg3 rfl A2 aJ aD zL rfl) R2|exact X.val rfl rfl (aa isAgg3 rfl A3 aJ aD zL rfl) R2|exact X.val rfl rfl (af isAgg84 sizeOf84 rfl A2 aJ aD zL rfl) R2|exact X.val rfl rfl (af isAgg84 sizeOf84 rfl A3 aJ aD zL rfl) R2|exact X.val rfl rfl (ag isAgg36 sizeOf36 rfl A2 aJ aD zL (aT rfl)) R2|exact X.val rfl rfl (ag isAgg36 sizeOf36 rfl A3 aJ aD zL (aT rfl)) R2)):P:=h
theorem YF (h:P:=by intro cv L' H' hl hd hP;(obtain⟨x4,x5,x6,rfl⟩:=gp hl;rcases x4 with _|v4<;>rcases x5 with _|v5<;>rcases x6 with _|v6<;>try exact False.elim hP);all_goals(first|obtain⟨rfl,rfl⟩:=hP|obtain⟨b4,rfl,rfl,rfl,rM,sY⟩:=hP|obtain⟨b5,rfl,rfl,rfl,rL,sX⟩:=hP|obtain⟨b4,b5,rfl,rfl,rfl,rfl,rM,sY,rL,sX⟩:=hP|obtain⟨q,wr,rfl,rfl,rfl,oD,mh,ov⟩:=hP|obtain⟨q,wr,b4,rfl,rfl,rfl,rfl,oD,mh,ov,rM,sY,HP⟩:=hP|obtain⟨q,wr,b5,rfl,rfl,rfl,rfl,oD,mh,ov,rL,sX,HO⟩:=hP|obtain⟨q,wr,b4,b5,rfl,rfl,rfl,rfl,rfl,oD,mh,ov,rM,sY,rL,sX,HP,HO⟩:=hP);all_goals(first|exact X.val rfl rfl (ag isAgg84 sizeOf84 rfl A1 aP aX trivial (aT rfl)) R2|exact X.val rfl rfl (ag isAgg84 sizeOf84 rfl A1 aP aX zL (aT rfl)) R2|exact X.val rfl rfl (ag isAgg84 sizeOf84 rfl A2 aP aX trivial (aT rfl)) R2|exact X.val rfl rfl (ag isAgg84 sizeOf84 rfl A2 aP aX zL (aT rfl)) R2|exact nf call24 rfl rfl (λW9 hS _=>noc hZ lk hlk W9 (hg.up (λk hk=>hS.ro A1 (λ_ h=>h.elim) z7 (.inl zM) zM))) (λ_=>rfl)|exact nf call24 rfl rfl (λW9 hS _=>noc hZ lk hlk W9 (hg.up (λk hk=>hS.ro A2 (λ_ h=>h.elim) z7 (.inl zM) zM))) (λ_=>rfl)|exact X.val rfl rfl (ag isAgg81 sizeOf81 rfl A1 aI aE trivial (aT rfl)) R2|exact X.val rfl rfl (ag isAgg81 sizeOf81 rfl A1 aI aE zL (aT rfl)) R2|exact X.val rfl rfl (ag isAgg81 sizeOf81 rfl A2 aI aE trivial (aT rfl)) R2|exact X.val rfl rfl (ag isAgg81 sizeOf81 rfl A2 aI aE zL (aT rfl)) R2)):P:=h
structure ZW (Q:Prop):Prop where
  p:Q
inductive Ct:Nat->Prop where
  |mk (n:Nat):Ct n
theorem Ct.dec {n:Nat} (_:Ct (n+1)):Ct n:=.mk n
theorem Ct.fin {P:Prop} (_:Ct 0) (h:P):P:=h
theorem B (n:Nat) (k:Q) (h:Ct n->ZW Q->P:=by intro Cz Kz;(repeat(replace Cz:=Ct.dec Cz;(first|(first|(with_reducible refine PJ.next ?_)|(with_reducible refine OJ.done ?_)|(with_reducible refine CJ.seq ?_)|(with_reducible refine CJ.region ?_)|(with_reducible refine CJ.ret ?_)|(with_reducible refine PJ.retThen ?_)|(with_reducible refine CJ.skip ?_))|(first|(with_reducible refine PJ.exThen ?_)|(with_reducible refine CJ.block ?_)|(with_reducible refine PJ.norBlock ?_)|(with_reducible refine PJ.retBlock ?_)|(with_reducible refine PJ.exHit ?_)|(with_reducible refine CJ.exit ?_)|refine rvA rfl rfl rfl ?_)|(first|refine OJ.off rfl zQ rfl ?_|((with_reducible refine CJ.condT ?_ ?_);· exact rfl)|((with_reducible refine CJ.condF ?_ ?_);· exact rfl)|refine Va rfl rfl rfl ?_))));exact Cz.fin Kz.p):P:=h (.mk n) ⟨k⟩
theorem aO {R:Prop} (k:Q) (l:R) (h:ZW Q->ZW R->P:=by intro Kz Kw;(refine CJ.cond rfl (λhc=>?_) (λhc=>?_)<;>(try simp only[decide_eq_true_eq,decide_eq_false_iff_not,Bool.not_eq_true',Bool.not_eq_false']at hc)<;>revert hc);exact Kz.p;exact Kw.p):P:=h ⟨k⟩ ⟨l⟩
theorem Tu (k:Q) (h:ZW Q->P:=by intro Kz;refine B 6 ?_;refine rr (.agg (aZ G)) (af isAgg57 sizeOf57 rfl A1 aI aE zL rfl) ?_;refine call call144 rfl rfl rfl (λW hS=>by rw[<-hv];exact nV G N W (aS hN (hS.links w A2).size) (hG.up (ao _) (hS.same A2 hN zU zP))) (v:=.bool true) ?_;refine rr (.bool false) (dP rfl) ?_;refine B 8 ?_;refine rr (.agg (dZ c)) (af isAgg99 sizeOf99 rfl A0 aJ aD zL rfl) ?_;refine call call145 rfl rfl rfl (λW hS=>by rw[<-jj];exact nvb c dM.few N W (aS hN (hS.links w A2).size) (hC.up (ao _) (hS.same A2 hN zU zP))) (v:=.int .i64 0) ?_;refine B 6 ?_;refine rr (.bool false) (bM rfl rfl) ?_;refine B 12 ?_;refine rq (.bool false) (bM rfl rfl) (vb Y6) ?_;refine B 6 ?_;refine rq (.bool false) (bM rfl rfl) (vb Y6) ?_;refine B 3 ?_;refine rv rfl rfl rfl (ag isAgg34 sizeOf34 rfl A0 aJ aD zL (aT rfl)) ?_;refine B 1 ?_;refine rv rfl rfl rfl (ag isAgg34 sizeOf34 rfl A1 aI aE zL (aT rfl)) ?_;refine rq (.bool false) (jR uB zQ nX rfl rfl rfl) (congrArg (λq=>Value.bool (!q)) h3) ?_;refine B 8 ?_;refine rr (.agg (aZ G)) (af isAgg57 sizeOf57 rfl A1 aI aE zL rfl) ?_;refine B 4 ?_;refine xe (enc:=sG) (m:=4) (t:=164) (xs:=(gG G.g c.author c.chs)) (v:=λs=>.tuple #[s,.int .i64 0]) (first:=[]) (cap:=[]) rfl call146 rfl rfl rfl Xx (λW hS=>by rw[<-dG];exact nSb G N W (aS hN (hS.links w A2).size) (hG.up (ao _) (hS.same A2 hN zU zP)) c.chs zM c.ca c.cc (hC.chs.up (ao _) (hS.same A2 hN zU zP)) c.author pL) ?_;exact Kz.p):P:=h ⟨k⟩
theorem wD (k:Q) (h:ZW Q->P:=by intro Kz;refine rq (.bool false) (mZ rfl rfl) (vb (decide_eq_false zM)) ?_;exact Kz.p):P:=h ⟨k⟩
theorem Jj (k:Q) (h:ZW Q->P:=by intro Kz;refine B 14 ?_;refine CJ.loop (α:=Nat) (λj=>[(0,.slice a xs.length cp),(1,.func (.func f) #[] cap.toArray),(7,.int .i64 (xs.length:Int)),(8,.int .i64 (j:Int))]) (λj=>[]) (λj=>[w]) (λj=>Gh.no) (λj=>j<=xs.length/\fY p xs j) (λj=>xs.length-j) 0 ⟨dx _,λi x hi=>absurd hi zM⟩ zR rfl rfl z1 ?_;exact Kz.p):P:=h ⟨k⟩
theorem YG (k:Q) (h:ZW Q->P:=by intro Kz;refine nr (α:=Nat×Nat×Nat) (v:=λq=>.slice (some ⟨q.1,0,none⟩) 2 2) (Φ:=λWr q w1=>Wr.heap.size<=q.1/\Wr.heap.size<=q.2.1/\Wr.heap.size<=q.2.2/\w1.heap[q.1]? =some (.cells #[.func (.func 79) #[] #[],.func (.func 80) #[] #[ptr q.2.1 0,ptr q.2.2 0]] 128 (0,0))/\w1.heap[q.2.1]? =some (.cells #[.bool (dh Z s.lks lk).isSome] 4 (0,0))/\w1.heap[q.2.2]? =some (.cells (lkC ((dh Z s.lks lk).getD kO)) 84 (0,0))) call39 rfl rfl rfl (λW9 hS=>nWd hZ s ho N W9 (aS hN (hS.links W A1).size) (hs.up (ao _) (λk hk=>hS.ro A1 (λ_ h=>h.elim) z7 (.inl hk) zM)) lk (hg.up (λk hk=>hS.ro A1 (λ_ h=>h.elim) z7 (.inl zM) zM))) ?_;exact Kz.p):P:=h ⟨k⟩
theorem zse (k:Q) (h:ZW Q->P:=by intro Kz;refine rr (.agg (lkC l)) (af isAgg84 sizeOf84 rfl A0 cT dI trivial rfl) ?_;refine call call26 rfl rfl rfl (λW hS=>by have h9:=nI l W;rwa[hv]at h9) (v:=.bool true) ?_;refine B 11 ?_;refine rr (.int .i64 l.by_) (aa isAgg3 rfl A0 cT dI trivial rfl) ?_;refine rq (.bool false) (bM rfl rfl) (vb Nx) ?_;refine B 7 ?_;refine rr (.agg (eZ s)) (af isAgg81 sizeOf81 rfl A1 aJ aD trivial rfl) ?_;refine rr (.agg (lkC l)) (af isAgg84 sizeOf84 rfl A0 cT dI trivial rfl) ?_;exact Kz.p):P:=h ⟨k⟩
theorem mD (k:Q) (h:ZW Q->P:=by intro Kz;refine PJ.dropAt (i:=0) rfl zX ?_;exact Kz.p):P:=h ⟨k⟩
theorem zue (k:Q) (h:ZW Q->P:=by intro Kz;refine B 17 ?_;refine ng (E':=[(0,_),(1,_),(2,_),(3,_),(4,_),(5,_),(6,_),(7,_),(8,_),(9,_),(13,_),(14,_),(15,_),(17,_),(18,_),(19,_),(20,_),(23,_),(24,_),(25,_),(26,_),(27,_),(28,_),(29,_),(30,_),(31,_),(32,_),(33,_),(34,_),(35,_),(36,_),(37,_),(38,_),(39,_),(40,_),(41,_),(42,_),(44,_),(45,_),(46,_),(47,_),(48,_),(49,_),(50,_),(51,_),(52,_),(53,_),(54,_)]) zR ?_;exact Kz.p):P:=h ⟨k⟩
theorem DC (k:Q) (h:ZW Q->P:=by intro Kz;refine rq (.bool true) (cM rfl rfl) (vb (decide_eq_true zM)) ?_;exact Kz.p):P:=h ⟨k⟩
theorem zwe (k:Q) (h:ZW Q->P:=by intro Kz;refine rv rfl rfl rfl (lA rfl rfl) ?_;refine B 2 ?_;refine rv rfl rfl rfl (iK rfl rfl) ?_;refine rq (.int .u64 (r0:Int)) (rh rfl rfl) (vu zHb) ?_;exact Kz.p):P:=h ⟨k⟩
theorem zxe (k:Q) (h:ZW Q->P:=by intro Kz;refine rv rfl rfl rfl (ri rfl rfl zM zM) ?_;refine rq (.int .u64 ((r1%y1:Nat):Int)) (mP rfl rfl zM zM) (vu (nmh _ _ _ _ d2.eq)) ?_;refine B 5 ?_;refine CJ.loop (α:=Nat×Nat) (λp=>[(2,.int .u64 (Y:Int)),(8,.int .u64 (s:Int)),(9,.int .u64 (y1:Int)),(10,.int .u64 (y0:Int)),(17,.int .u64 (r1:Int)),(14,.int .u64 (v0:Int)),(15,.int .u64 (q1:Int)),(18,.int .u64 (p.1:Int)),(16,.int .u64 (p.2:Int))]) (λp=>[]) (λp=>[w]) (λp=>Gh.no) (λp=>pF r1 y1 y0 v0 p.1 p.2) (λp=>p.1) (r1/y1,r1%y1) d2 zR rfl rfl z1 ?_;exact Kz.p):P:=h ⟨k⟩
theorem zye (k:Q) (h:ZW Q->P:=by intro Kz;refine ng (E':=[(0,_),(1,_),(2,_),(3,_),(4,_),(5,_),(6,_),(7,_),(8,_),(9,_),(13,_),(14,_),(15,_),(17,_),(18,_),(19,_),(20,_),(23,_),(24,_),(25,_),(26,_),(27,_),(28,_),(29,_),(30,_),(31,_),(32,_),(33,_),(34,_),(35,_),(36,_),(37,_),(38,_),(39,_),(40,_),(41,_),(42,_),(44,_),(45,_),(46,_),(47,_),(48,_),(49,_),(50,_),(51,_),(52,_),(53,_),(54,_),(57,_),(58,_),(59,_),(60,_),(61,_),(62,_),(63,_),(64,_),(65,_),(66,_),(67,_),(68,_),(69,_),(70,_),(71,_),(72,_),(73,_),(74,_)]) zR ?_;exact Kz.p):P:=h ⟨k⟩
theorem I0 (k:Q) (h:ZW Q->P:=by intro Kz;refine rq (.bool true) (mZ rfl rfl) (vb (decide_eq_true zM)) ?_;exact Kz.p):P:=h ⟨k⟩
theorem zAe (k:Q) (h:ZW Q->P:=by intro Kz;refine ng (E':=[(0,_),(1,_),(2,_),(3,_),(4,_),(5,_),(6,_),(7,_),(8,_),(9,_),(10,_),(11,_),(12,_),(13,_),(14,_),(15,_),(16,_),(17,_),(18,_),(19,_),(20,_),(21,_),(22,_),(23,_),(24,_),(25,_),(26,_),(27,_),(28,_),(29,_),(30,_),(31,_),(32,_),(33,_),(34,_),(35,_),(36,_),(37,_),(38,_),(39,_),(40,_)]) zR ?_;exact Kz.p):P:=h ⟨k⟩
theorem KL (k:Q) (h:ZW Q->P:=by intro Kz;refine rq (.bool false) (p6 rfl rfl) (vb (decide_eq_false zM)) ?_;exact Kz.p):P:=h ⟨k⟩
theorem zCe (k:Q) (h:ZW Q->P:=by intro Kz;refine rq (.int .u64 ((r0/2^s:Nat):Int)) (iL rfl rfl zM) (vu (nBc r0 s zM)) ?_;exact Kz.p):P:=h ⟨k⟩
theorem zDe (k:Q) (h:ZW Q->P:=by intro Kz;refine rq (.int .u64 ((r+y1:Nat):Int)) (C8 rfl rfl zM zM) (vu zM) ?_;refine B 9 ?_;exact Kz.p):P:=h ⟨k⟩
theorem WE (k:Q) (h:ZW Q->P:=by intro Kz;refine rv rfl rfl rfl (bL underlying149 zeroValue149 (bA.c sizeOf3 (bA.c sizeOf3 (bA.c sizeOf9 (bA.c sizeOf146 (bA.n))))) rfl rfl) ?_;exact Kz.p):P:=h ⟨k⟩
theorem GR (k:Q) (h:ZW Q->P:=by intro Kz;refine aV (i:=0) rfl sizeOf57 rfl rfl rfl rfl rfl rfl ?_;exact Kz.p):P:=h ⟨k⟩
theorem P6 (k:Q) (h:ZW Q->P:=by intro Kz;refine ng (E':=[(3,_),(6,_),(7,_),(8,_),(15,_),(16,_),(17,_),(18,_),(19,_),(20,_),(21,_),(22,_),(23,_),(24,_),(25,_),(26,_),(27,_)]) zR ?_;exact Kz.p):P:=h ⟨k⟩
theorem zHe (k:Q) (h:ZW Q->P:=by intro Kz;refine rq (.int .u64 ((q-1:Nat):Int)) (mP rfl rfl zM zM) (vu zM) ?_;exact Kz.p):P:=h ⟨k⟩
theorem zIe (k:Q) (h:ZW Q->P:=by intro Kz;refine ng (E':=[(0,_),(1,_),(2,_),(3,_),(4,_),(5,_),(6,_),(7,_),(8,_),(9,_),(13,_),(14,_),(15,_),(17,_),(18,_),(19,_),(20,_),(23,_),(24,_),(25,_),(26,_),(27,_),(28,_),(29,_),(30,_),(31,_),(32,_),(33,_),(34,_),(35,_),(36,_),(37,_),(38,_),(39,_),(40,_),(41,_),(42,_),(44,_),(45,_),(46,_),(47,_),(48,_),(49,_),(50,_),(51,_),(52,_),(53,_),(54,_),(57,_),(58,_),(59,_),(60,_),(61,_),(62,_),(63,_),(64,_),(65,_),(66,_),(67,_),(68,_),(69,_),(70,_),(71,_),(72,_),(73,_),(74,_),(76,_),(77,_),(78,_),(79,_),(80,_),(81,_),(82,_),(83,_),(84,_),(85,_),(86,_),(87,_),(89,_),(90,_),(91,_),(92,_),(93,_),(94,_),(95,_)]) zR ?_;exact Kz.p):P:=h ⟨k⟩
theorem wV (k:Q) (h:ZW Q->P:=by intro Kz;refine lj underlying44 sizeOf3 zeroValue3 rfl rfl rfl rfl rfl rfl rfl ?_;exact Kz.p):P:=h ⟨k⟩
theorem zKe (k:Q) (h:ZW Q->P:=by intro Kz;refine xe (enc:=lY) (m:=5) (t:=233) (xs:=ie c.author c.chs) (v:=id) (first:=[]) (cap:=[]) rfl call151 rfl rfl rfl AP (λW hS=>nGc c.author c.chs zM N c.ca c.cc W (aS hN (hS.links w A3).size) (hC.chs.up (ao _) (hS.same A3 hN zU zP))) ?_;exact Kz.p):P:=h ⟨k⟩
theorem zLe (k:Q) (h:ZW Q->P:=by intro Kz;refine ng (E':=[(0,_),(1,_),(2,_),(3,_),(4,_),(5,_),(6,_),(7,_),(8,_),(9,_),(13,_),(14,_),(15,_),(17,_),(18,_),(19,_),(20,_),(23,_),(24,_),(25,_),(26,_),(27,_),(28,_),(29,_),(30,_),(31,_),(32,_),(33,_),(34,_),(35,_),(36,_),(37,_),(38,_),(39,_),(40,_),(41,_),(42,_),(44,_),(45,_),(46,_),(47,_),(48,_),(49,_),(50,_),(51,_),(52,_),(53,_),(54,_),(57,_),(58,_),(59,_),(60,_),(61,_),(62,_),(63,_),(64,_),(65,_),(66,_),(67,_),(68,_),(69,_),(70,_),(71,_),(72,_),(73,_),(74,_),(76,_),(77,_),(78,_),(79,_),(80,_),(81,_),(82,_),(83,_),(84,_),(85,_),(86,_),(87,_)]) zR ?_;exact Kz.p):P:=h ⟨k⟩
theorem zMe (k:Q) (h:ZW Q->P:=by intro Kz;refine xe (enc:=ai) (m:=1) (t:=3) (xs:=dm G.g.ns) (v:=id) (first:=[]) (cap:=[]) rfl call205 rfl rfl rfl nu (λW hS=>n5b G.g.ns hn N G.na G.nc W (aS hN (hS.links w A1).size) (hG.ns.up (ao _) (hS.same A1 hN zU trivial))) ?_;exact Kz.p):P:=h ⟨k⟩
theorem zNe (k:Q) (h:ZW Q->P:=by intro Kz;refine nJ (f:=f) (cap:=cap) rfl ax rfl rfl rfl (λW hS=>hp j x hx W ((hS.links w A0).below Lw)) ?_;exact Kz.p):P:=h ⟨k⟩
theorem zOe (k:Q) (h:ZW Q->P:=by intro Kz;refine rr (.agg (eZ s)) (aK (i:=0) rfl isAgg81 sizeOf81 rfl rfl) ?_;refine rr (.agg (lkC lk)) (af isAgg38 sizeOf38 rfl A1 wz wB zL rfl) ?_;refine rr (.agg (lkC lk)) (bL underlying84 zeroValue84 (bA.c sizeOf38 (bA.n)) rfl rfl) ?_;exact Kz.p):P:=h ⟨k⟩
theorem L5 (k:Q) (h:ZW Q->P:=by intro Kz;refine rr (.agg (aZ G)) (af isAgg57 sizeOf57 rfl A0 aJ aD zL rfl) ?_;exact Kz.p):P:=h ⟨k⟩
theorem zQe (k:Q) (h:ZW Q->P:=by intro Kz;refine nr (α:=Nat) (v:=λb:Nat=>.slice (some ⟨b,0,none⟩) 32 32) (Φ:=λ(W:World) (b:Nat) (w1:World)=>W.heap.size<=b/\w1.heap[b]? =some (.cells (dg (oi Z c)) 34 (0,0))) call153 rfl rfl rfl (λW hS=>nod hZ c dM N W (aS hN (hS.links w A4).size) (hC.up (ao _) (hS.same A4 hN zU zP)) (hg.old hS A4 zU zP)) ?_;exact Kz.p):P:=h ⟨k⟩
theorem zRe (k:Q) (h:ZW Q->P:=by intro Kz;refine call call150 rfl rfl rfl (λW hS=>by have h9:=nyd c.wes zM W.heap.size c.wa c.wc W (ao _) (hC.wes.up (aS hN (hS.links w A4).size) (hS.same A4 hN zU zP)) (ie c.author c.chs) aw cw (pY.to hS A0 (ao _) (λb off e=>.inr zdc));rw[show jX PK c.wes (ie c.author c.chs)=true from hw]at h9;exact h9) (v:=.bool true) ?_;exact Kz.p):P:=h ⟨k⟩
theorem zSe (k:Q) (h:ZW Q->P:=by intro Kz;refine call call157 rfl rfl rfl (λW hS=>nFc (Gw G.g (gZ G.g.ms au) au) 254 [ptr b3 0,ptr b8 0,ptr b4 0] call254 l ck N _ cp W (aS hN (hS.links w A2).size) (aN.up (ao _) (hS.same A2 hN zU zP)) (λj x hx W2 hB=>by have h3:=(hS.links w3 A1).size;have h4:=(hS.links w4 A0).size;have h5:=(hS.links w A2).size;have h8:=hS.own (b8,_) A0;have h9:=(aL.1 h8).1;exact nei G N W2 (by have:=hB.size;omega) (hG.up (ao _) (λk hk=>by rw[hB.block k zM];exact hS.same A2 hN zU zP k hk)) b3 b8 b4 _ au (by rw[hB.block b3 zM];exact hS.old A1 aJ aD jS) (by rw[hB.block b8 h9];exact h8) (by rw[hB.block b4 zM];exact hS.old A0 cT dI jS) x)) ?_;exact Kz.p):P:=h ⟨k⟩
theorem LC (k:Q) (h:ZW Q->P:=by intro Kz;refine ng (E':=[(1,_),(3,_),(10,_),(11,_),(39,_),(40,_),(41,_),(42,_),(43,_),(44,_),(45,_)]) zR ?_;exact Kz.p):P:=h ⟨k⟩
theorem zUe (k:Q) (h:ZW Q->P:=by intro Kz;refine nJ (f:=f) (cap:=cap) rfl ax rfl rfl rfl (λW hS=>hp j x hx W ((hS.links w A0).mono (λk _ hk=>by rcases hk with hk|hk;(exact hk);(simp only[eF,iz,dC,fk,cP,fm,or_false]at hk;first|exact hk|(rcases hk with hk|hk;(exfalso;omega);exact hk)))) (by have:=hS.lt (b,_) A1;exact this)) ?_;exact Kz.p):P:=h ⟨k⟩
theorem IX (k:Q) (h:ZW Q->P:=by intro Kz;refine lj underlying146 sizeOf149 zeroValue149 rfl rfl rfl rfl rfl rfl rfl ?_;exact Kz.p):P:=h ⟨k⟩
theorem FB (k:Q) (h:ZW Q->P:=by intro Kz;refine rr (.bool true) (bM rfl rfl) ?_;exact Kz.p):P:=h ⟨k⟩
theorem WC (k:Q) (h:ZW Q->P:=by intro Kz;refine rq (.bool true) (tb rfl rfl) (vb (decide_eq_true zM)) ?_;exact Kz.p):P:=h ⟨k⟩
theorem zYe (k:Q) (h:ZW Q->P:=by intro Kz;refine rr (.agg #[.slice a ns.length cp]) (af isAgg55 sizeOf55 rfl A0 aJ aD zL rfl) ?_;exact Kz.p):P:=h ⟨k⟩
theorem zZe (k:Q) (h:ZW Q->P:=by intro Kz;refine CJ.loop (α:=Mp×Nat) (λp=>[(6,.map (some bf)),(7,.slice ap (cH d).length lV),(12,.func (.func 262) #[.map (some bf)] #[]),(53,.slice ap (cH d).length lV),(54,.int .i64 ((cH d).length:Int)),(55,.int .i64 (p.2:Int))]) (λp=>[(bf,p.1.obj (Value.int .i64) (((cH d).take p.2).foldl iT (iT (dc ns) (512+d))))]) (λp=>[wp,w3,w]) (λp=>Gh.no) (λp=>p.2<=(cH d).length/\p.1.Ok (((cH d).take p.2).foldl iT (iT (dc ns) (512+d)))) (λp=>(cH d).length-p.2) (m1,0) ⟨dx _,aX⟩ zR rfl rfl z1 ?_;exact Kz.p):P:=h ⟨k⟩
theorem YH (k:Q) (h:ZW Q->P:=by intro Kz;refine rr (.agg (eZ s)) (bL underlying81 zeroValue81 (bA.c sizeOf31 (bA.c sizeOf32 (bA.n))) rfl rfl) ?_;refine aY zeroValue81 rfl rfl ?_;exact Kz.p):P:=h ⟨k⟩
theorem QB (k:Q) (h:ZW Q->P:=by intro Kz;refine rq (.bool false) (cM rfl rfl) (vb (decide_eq_false zM)) ?_;exact Kz.p):P:=h ⟨k⟩
theorem EI (k:Q) (h:ZW Q->P:=by intro Kz;refine EU underlying44 sizeOf3 zeroValue3 rfl rfl rfl rfl rfl rfl rfl ?_;exact Kz.p):P:=h ⟨k⟩
theorem z3e (k:Q) (h:ZW Q->P:=by intro Kz;refine call call201 rfl rfl rfl (λW hS=>by rw[<-eX];exact nMb ns hn N a cp W (aS hN (hS.links w A1).size) (aN.up (ao _) (hS.same A1 hN zU z7))) (v:=.int .i64 0) ?_;exact Kz.p):P:=h ⟨k⟩
theorem Pp (k:Q) (h:ZW Q->P:=by intro Kz;refine rq (.bool false) (p7 rfl rfl) (vb (decide_eq_false zM)) ?_;exact Kz.p):P:=h ⟨k⟩
theorem z5e (k:Q) (h:ZW Q->P:=by intro Kz;refine bG (.inl rfl) results16 (RS.wA (i:=0) rfl isAgg59 sizeOf59 rfl (aT rfl) (RS.t rfl (RS.n))) A2 zS ?_;exact Kz.p):P:=h ⟨k⟩
theorem QT (k:Q) (h:ZW Q->P:=by intro Kz;refine rq (.bool true) (p6 rfl rfl) (vb (decide_eq_true zM)) ?_;exact Kz.p):P:=h ⟨k⟩
theorem z7e (k:Q) (h:ZW Q->P:=by intro Kz;refine Pz (enc:=fw) (m:=2) (t:=355) (xs:=(bD T c.author c.path)) (v:=λs=>.tuple #[.agg #[s],.int .i64 e]) (first:=[]) (cap:=[]) rfl call154 rfl rfl rfl (λW hS=>by rw[<-XX];exact nrg T zM W.heap.size ta tc W (ao _) (oL.to hS A0 (ao _) (λb off e=>by rcases eX b off e with h|h|h;(exact .inl h);(exact .inr XW);(exact .inr XW))) c.author pL c.path kD zM N c.pa c.pc (hC.path.up (ao _) (hS.same A6 hN zU zP)) (aS hN (hS.links w A6).size) hpl zM) ?_;exact Kz.p):P:=h ⟨k⟩
theorem z8e (k:Q) (h:ZW Q->P:=by intro Kz;refine ng (E':=[(0,_),(1,_),(2,_),(3,_),(4,_),(5,_),(6,_)]) zR ?_;exact Kz.p):P:=h ⟨k⟩
theorem z9e (k:Q) (h:ZW Q->P:=by intro Kz;refine rv rfl rfl rfl (gn (h:=64) underlying64 sizeOf5 rfl ⟨_,_,rfl,rfl⟩ zM) ?_;refine Kt (f:=237) (i:=1) (first:=[ptr b3 0]) (cap:=[]) rfl rfl call237 rfl rfl rfl (λW hS hW=>nce (oU n m (j+k)) (λi=>uj n m (64*(j+k)+i)) b3 pJ o2 64 _ _ _ uh t3 (cf 128 (mS n m j N)) zM zM W hW (hS.own _ A0) (λi hi=>by rw[IF 128 _ (64*k+i) _ (by have:=db zM;omega) zM,nbl n m j N _ zM hNN zM zM];congr 3;omega) zM (hS.old A0 hg zZ qo) zM) ?_;exact Kz.p):P:=h ⟨k⟩
theorem zaf (k:Q) (h:ZW Q->P:=by intro Kz;refine ay results26 rfl A1 ?_;refine vb ?_;exact Kz.p):P:=h ⟨k⟩
theorem zbf (k:Q) (h:ZW Q->P:=by intro Kz;refine rr (.agg #[.slice a ns.length cp]) (af isAgg55 sizeOf55 rfl A0 aJ aD trivial rfl) ?_;exact Kz.p):P:=h ⟨k⟩
theorem zcf (k:Q) (h:ZW Q->P:=by intro Kz;refine rr (.agg (lkC l)) (bL underlying84 zeroValue84 (bA.c sizeOf38 (bA.n)) rfl rfl) ?_;exact Kz.p):P:=h ⟨k⟩
theorem zdf (k:Q) (h:ZW Q->P:=by intro Kz;refine call call94 rfl rfl rfl (λW hS=>nad hinv.1 hinv.2.1 zM b9 m hm x.fol hxk.2.2.1.1 W (hS.own (b9,_) A2)) (v:=.int .i64 (rK (gN (cX l) j) x.fol)) ?_;exact Kz.p):P:=h ⟨k⟩
theorem zef (k:Q) (h:ZW Q->P:=by intro Kz;refine nr (α:=Gv) (v:=λXn=>.tuple #[.agg (aZ Xn),.int .i64 e]) (Φ:=λW Xn w1=>Xn.g=tE Z (g0 fo) c/\aM w1.heap.size w1 Xn/\(∀q,Xn.ma=some q->W.heap.size<=q.block)/\(∀q,Xn.na=some q->W.heap.size<=q.block)) call101 rfl rfl rfl (λW hS=>by rw[<-he];exact nOe hZ (T8 fo) c (dM c hcm) N W (aS hN (hS.links w A2).size) (M6 fo N W) ((hC c hcm).up (ao _) (hS.same A2 hN zU zP)) (hg.old hS A2 zU zP)) ?_;exact Kz.p):P:=h ⟨k⟩
theorem zff (k:Q) (h:ZW Q->P:=by intro Kz;refine call (v:=.tuple #[.agg (lkC p),.bool true]) call36 rfl rfl rfl (λW hS=>by have h9:=nOc hZ s ho N W (aS hN (hS.links w A2).size) (hs.up (ao _) (hS.same A2 hN zU trivial)) l (hg.old hS A2 zU trivial);rwa[hp]at h9) ?_;exact Kz.p):P:=h ⟨k⟩
theorem RY (k:Q) (h:ZW Q->P:=by intro Kz;refine aV (i:=0) rfl sizeOf59 rfl rfl rfl rfl rfl rfl ?_;exact Kz.p):P:=h ⟨k⟩
theorem zhf (k:Q) (h:ZW Q->P:=by intro Kz;refine rq (.agg (oK x)) (ag isAgg210 sizeOf210 rfl A0 hcs zZ trivial (nl ar hx rfl)) (va (nq ar hx rfl)) ?_;exact Kz.p):P:=h ⟨k⟩
theorem zif (k:Q) (h:ZW Q->P:=by intro Kz;refine ng (E':=[(1,_),(2,_),(3,_),(4,_),(5,_),(7,_),(8,_),(9,_),(17,_),(18,_),(19,_),(20,_),(21,_),(22,_),(23,_),(24,_),(25,_),(26,_),(27,_),(28,_),(29,_),(30,_),(31,_)]) zR ?_;exact Kz.p):P:=h ⟨k⟩
theorem zjf (k:Q) (h:ZW Q->P:=by intro Kz;refine nr (α:=Option Addr×Nat) (v:=λq=>.agg #[.slice q.1 T.length q.2]) (Φ:=λW q w1=>ah gf 2 w1.heap.size w1 q.1 T/\∀b off,q.1=some ⟨b,off,none⟩->T=[]\/b<N\/W.heap.size<=b) call155 rfl rfl rfl (λW hS=>by rw[<-hT];exact nvd G N W (aS hN (hS.links w A5).size) (hG.up (ao _) (hS.same A5 hN zU zP)) c.chs zM c.ca c.cc (hC.chs.up (ao _) (hS.same A5 hN zU zP)) uq PB) ?_;exact Kz.p):P:=h ⟨k⟩
theorem zkf (k:Q) (h:ZW Q->P:=by intro Kz;refine rv rfl rfl rfl (qm underlying336 isAgg229 sizeOf229 rfl rfl zM zM (S8.cells_ld _ i _ zM zM)) ?_;refine B 10 ?_;refine rq (.slice (some ⟨b2,4*i,none⟩) 4 (32-4*i)) (y6 (l:=4*i) (h:=4*i+4) (off':=4*i) underlying34 sizeOf5 rfl ⟨_,_,rfl,by omega⟩ ⟨_,_,rfl,by omega⟩ zM zM (by rw[if_neg zM];omega)) (by rw[show 4*i+4-4*i=4 by omega]) ?_;exact Kz.p):P:=h ⟨k⟩
theorem qV (k:Q) (h:ZW Q->P:=by intro Kz;refine aY zeroValue57 rfl rfl ?_;exact Kz.p):P:=h ⟨k⟩
theorem Qz (k:Q) (h:ZW Q->P:=by intro Kz;refine rv rfl rfl rfl (H2 underlying202 underlying5 rfl zM zM) ?_;exact Kz.p):P:=h ⟨k⟩
theorem Wl (k:Q) (h:ZW Q->P:=by intro Kz;refine aV (i:=0) rfl sizeOf149 rfl rfl rfl rfl rfl rfl ?_;exact Kz.p):P:=h ⟨k⟩
theorem zof (k:Q) (h:ZW Q->P:=by intro Kz;refine Yn (G2:=cj hM V2 (hX V2)) (Hc2:=jU ms) (c:=.ret) aW eW ⟨(λj h=>h.imp id (λh=>vM j (D1 j h))),(λj h=>h.elim (λh=>.inl (.inl h)) (λh=>(ll j h).imp .inr id)),(λj h=>h.elim (λh=>.inl (.inl h)) (λh=>(ll j h).imp .inr id)),(λp hp=>.inl (bU.2 ⟨p,hp,rfl⟩)),(λp hp=>.inl (bU.2 ⟨p,hp,rfl⟩))⟩ (.inl ⟨rfl,rfl⟩) rfl ?_;exact Kz.p):P:=h ⟨k⟩
theorem T7 (k:Q) (h:ZW Q->P:=by intro Kz;refine rr (.agg (dO d)) (aK (i:=0) rfl isAgg101 sizeOf101 rfl rfl) ?_;exact Kz.p):P:=h ⟨k⟩
theorem zqf (k:Q) (h:ZW Q->P:=by intro Kz;refine bG (.inl rfl) results145 (RS.t rfl (RS.n)) A1 zS ?_;exact Kz.p):P:=h ⟨k⟩
theorem Xs (k:Q) (h:ZW Q->P:=by intro Kz;refine ng (E':=[(0,_),(1,_),(2,_),(3,_),(4,_),(6,_),(8,_),(10,_),(11,_),(12,_),(13,_),(14,_),(15,_)]) zR ?_;exact Kz.p):P:=h ⟨k⟩
theorem rT (k:Q) (h:ZW Q->P:=by intro Kz;refine aY zeroValue34 rfl rfl ?_;exact Kz.p):P:=h ⟨k⟩
theorem ztf (k:Q) (h:ZW Q->P:=by intro Kz;refine CJ.loop (α:=Nat) (λi=>[(2,ptr b2 0),(53,.agg (oU n m (eG n)).cells),(54,.int .i64 (i:Int))]) (λi=>[(pJ,.cells (cf 128 (mS n m j N)) 5 (0,0)),(b3,.cells (oU n m (eG n)).cells 336 (0,0)),(b2,.cells (iO (oU n m (eG n)) i) 34 (0,0))]) (λi=>[w]) (λi=>Gh.no) (λi=>i<=8) (λi=>8-i) 0 zQ zR rfl rfl z1 ?_;exact Kz.p):P:=h ⟨k⟩
theorem Xk (k:Q) (h:ZW Q->P:=by intro Kz;refine rr (.agg #[.slice a ns.length cp]) (af isAgg55 sizeOf55 rfl A0 aI aE trivial rfl) ?_;exact Kz.p):P:=h ⟨k⟩
theorem Ym (k:Q) (h:ZW Q->P:=by intro Kz;refine nJ (v:=.bool true) (f:=122) (cap:=[]) rfl call122 rfl rfl rfl (λW hS=>Ui h1 W) ?_;exact Kz.p):P:=h ⟨k⟩
theorem zwf (k:Q) (h:ZW Q->P:=by intro Kz;refine enter (vs:=[_,_]) func101 rfl ntmps101 rfl ?_;exact Kz.p):P:=h ⟨k⟩
theorem JP (k:Q) (h:ZW Q->P:=by intro Kz;refine aV (i:=0) rfl sizeOf135 rfl rfl rfl rfl rfl rfl ?_;exact Kz.p):P:=h ⟨k⟩
theorem zyf (k:Q) (h:ZW Q->P:=by intro Kz;refine Yu (i:=0) (γ:=Mp) (v:=λ_=>.tuple #[]) (ob:=λm=>m.obj (Value.int .i64) (gF (((cH d).take i).foldl iT (iT (dc ns) (512+d))) n)) (Φ:=λm=>m.Ok (gF (((cH d).take i).foldl iT (iT (dc ns) (512+d))) n)) (first:=[.map (some bf)]) (cap:=[]) rfl rfl call262 rfl rfl rfl (λW hS hW=>nYd bf mi uK n W hW) ?_;exact Kz.p):P:=h ⟨k⟩
theorem zzf (k:Q) (h:ZW Q->P:=by intro Kz;refine nRg (ev:=(Value.int .i64)) (kv:=dc ns) (v:=id) call261 rfl rfl rfl (λW hS=>nRf ns hn N a cp W (aS hN (hS.links w A1).size) (aN.up (ao _) (hS.same A1 hN zU z7))) ?_;exact Kz.p):P:=h ⟨k⟩
theorem IY (k:Q) (h:ZW Q->P:=by intro Kz;refine aV (i:=0) rfl sizeOf84 rfl rfl rfl rfl rfl rfl ?_;exact Kz.p):P:=h ⟨k⟩
theorem zBf (k:Q) (h:ZW Q->P:=by intro Kz;refine bG (.inl rfl) results201 (RS.t rfl (RS.n)) A2 zS ?_;exact Kz.p):P:=h ⟨k⟩
theorem zCf (k:Q) (h:ZW Q->P:=by intro Kz;refine nr (α:=Nat×Nat) (v:=λq=>.func (.func 128) #[] #[ptr q.1 0,ptr q.2 0]) (Φ:=λW q w1=>W.heap.size<=q.1/\W.heap.size<=q.2/\q.1≠q.2/\w1.heap[q.1]? =some (.cells #[.map (some mb)] 132 (0,0))/\w1.heap[q.2]? =some (.cells #[.int .i64 f] 3 (0,0))) call95 rfl rfl rfl (λW hS=>neh (some mb) f W) ?_;exact Kz.p):P:=h ⟨k⟩
theorem zDf (k:Q) (h:ZW Q->P:=by intro Kz;refine xe (enc:=ai) (m:=1) (t:=3) (xs:=cH d) (v:=λs=>.tuple #[s,.int .i64 0]) (first:=[]) (cap:=[]) rfl call253 rfl rfl rfl nu (λW hS=>nbg d hd W) ?_;exact Kz.p):P:=h ⟨k⟩
theorem zEf (k:Q) (h:ZW Q->P:=by intro Kz;refine call call78 rfl rfl rfl (λW hS=>by have h9:=Po hZ (lu G.g c.author c.chs) c.sr c.ss (dt (oi Z c)) bm 0 32 (by rw[PG];decide) W (cG.dg (hS.old A0 jh zZ XW) (hZ.byt _ _)) (hg.old hS A5 zU zP);rw[PG,show kB Z (lu G.g c.author c.chs) (dt (oi Z c)) c.sr c.ss=true from o5]at h9;exact h9) (v:=.bool true) ?_;exact Kz.p):P:=h ⟨k⟩
theorem zFf (k:Q) (h:ZW Q->P:=by intro Kz;refine nr (α:=Nat) (v:=λb:Nat=>.slice (some ⟨b,0,none⟩) 11 11) (Φ:=λ(W:World) (b:Nat) (w1:World)=>W.heap.size<=b/\ef w1.heap.size w1 (.list (ml c)) (vL (some ⟨b,0,none⟩) 11 11)) call99 rfl rfl rfl (λW hS=>nKe c dM.few N W (aS hN (hS.links w A1).size) (hC.up (ao _) (hS.same A1 hN zU zP))) ?_;exact Kz.p):P:=h ⟨k⟩
theorem zGf (k:Q) (h:ZW Q->P:=by intro Kz;refine rr (.agg (eZ s)) (af isAgg81 sizeOf81 rfl A1 aJ aD zL rfl) ?_;refine rr (.agg (lkC l)) (af isAgg84 sizeOf84 rfl A0 cT dI zL rfl) ?_;refine rr (.agg (lkC p)) (aK (i:=0) rfl isAgg84 sizeOf84 rfl rfl) ?_;exact Kz.p):P:=h ⟨k⟩
theorem zHf (k:Q) (h:ZW Q->P:=by intro Kz;refine Am (enc:=ai) (m:=1) (t:=3) (xs:=(bZ s.pls l.fo)) (v:=id) (first:=[]) (cap:=[]) rfl call21 rfl rfl rfl (λW hS=>nzg s.pls ho.pl N s.pa s.pc W (aS hN (hS.links w A2).size) (hs.pl.up (ao _) (hS.same A2 hN zU (by first|exact True.intro|(simp only[eg,dN,Over,and_true];omega)))) l.fo) ?_;exact Kz.p):P:=h ⟨k⟩
theorem XC (k:Q) (h:ZW Q->P:=by intro Kz;refine ng (E':=[(1,_),(7,_),(8,_),(97,_),(98,_),(99,_),(100,_),(101,_),(102,_),(103,_)]) zR ?_;exact Kz.p):P:=h ⟨k⟩
theorem zJf (k:Q) (h:ZW Q->P:=by intro Kz;refine nr (α:=Nat×Nat) (v:=λq:Nat×Nat=>.func (.func 38) #[] #[ptr q.1 0,ptr q.2 0]) (Φ:=λW q w1=>W.heap.size<=q.1/\W.heap.size<=q.2/\w1.heap[q.1]? =some (.cells (lkC lk) 84 (0,0))/\w1.heap[q.2]? =some (.cells (eZ s) 81 (0,0))) call20 rfl rfl rfl (λW hS=>nxg s lk W) ?_;exact Kz.p):P:=h ⟨k⟩
theorem zKf (k:Q) (h:ZW Q->P:=by intro Kz;refine call call144 rfl rfl rfl (λW hS=>by rw[<-hv];exact nV G N W (aS hN (hS.links w A1).size) (hG.up (ao _) (hS.same A1 hN zU zP))) (v:=.bool true) ?_;exact Kz.p):P:=h ⟨k⟩
theorem OT (k:Q) (h:ZW Q->P:=by intro Kz;refine call call63 rfl rfl rfl (λW hS=>nE _ W) ?_;exact Kz.p):P:=h ⟨k⟩
theorem zMf (k:Q) (h:ZW Q->P:=by intro Kz;refine call call206 rfl rfl rfl (λW hS=>n6e (PA G.g.epoch) 202 [ptr b1 0] call202 G.g.ms rB N G.ma G.mc W (aS hN (hS.links w A2).size) (hG.ms.up (ao _) (hS.same A2 hN zU zP)) (λj x hx W2 hB=>n2m G b1 x W2 (by have:=(hS.links w1 A1).size;rw[hB.block b1 zM];exact hS.old A1 aP aX trivial))) ?_;exact Kz.p):P:=h ⟨k⟩
theorem zNf (k:Q) (h:ZW Q->P:=by intro Kz;refine aV (i:=0) rfl sizeOf373 rfl rfl rfl rfl rfl rfl ?_;exact Kz.p):P:=h ⟨k⟩
theorem LZ (k:Q) (h:ZW Q->P:=by intro Kz;refine aV (i:=0) rfl sizeOf233 rfl rfl rfl rfl rfl rfl ?_;exact Kz.p):P:=h ⟨k⟩
theorem M5 (k:Q) (h:ZW Q->P:=by intro Kz;refine aV (i:=0) rfl sizeOf101 rfl rfl rfl rfl rfl rfl ?_;exact Kz.p):P:=h ⟨k⟩
theorem zQf (k:Q) (h:ZW Q->P:=by intro Kz;refine bG (.inl rfl) results231 (RS.t rfl (RS.t rfl (RS.n))) A1 zS ?_;exact Kz.p):P:=h ⟨k⟩
theorem zRf (k:Q) (h:ZW Q->P:=by intro Kz;refine ngi (ev:=(Value.int .i64)) (kv:=lW (dc ns) d) (enc:=ai) (n:=1) (ds:=cH d) (v:=λmp s=>.tuple #[mp,s,.int .i64 0]) call218 rfl rfl rfl (λW hS=>nbf ns hn N a cp W (aS hN (hS.links w A1).size) (aN.up (ao _) (hS.same A1 hN zU z7)) eX d hd false (λh=>by cases h)) ?_;exact Kz.p):P:=h ⟨k⟩
theorem Sx (k:Q) (h:ZW Q->P:=by intro Kz;refine aV (i:=0) rfl sizeOf55 rfl rfl rfl rfl rfl rfl ?_;exact Kz.p):P:=h ⟨k⟩
theorem zTf (k:Q) (h:ZW Q->P:=by intro Kz;refine PJ.reH (H':=[(pJ,.cells (cf 128 (mS n m j N)) 5 (0,0)),(b3,.cells (oU n m (eG n)).cells 336 (0,0)),(b2,.cells (iO (oU n m (eG n)) 8) 34 (0,0))]) rfl ?_;refine bG (.inl rfl) results170 (RS.wA (i:=2) rfl isAgg34 sizeOf34 rfl (by rw[iO,y9];omega) RS.n) A0 qy ?_;exact Kz.p):P:=h ⟨k⟩
theorem zUf (k:Q) (h:ZW Q->P:=by intro Kz;refine ngi (ev:=(Value.int .i64)) (kv:=lW (dc ns) d) (enc:=ai) (n:=1) (ds:=cH d) (v:=λmp s=>.tuple #[mp,s,.int .i64 0]) call218 rfl rfl rfl (λW hS=>nbf ns hn N a cp W (aS hN (hS.links w A1).size) (aN.up (ao _) (hS.same A1 hN zU z7)) eX d hd true (λ_=>jT)) ?_;exact Kz.p):P:=h ⟨k⟩
theorem zVf (k:Q) (h:ZW Q->P:=by intro Kz;refine rq (.int .u64 ((8*n:Nat):Int)) (ri rfl rfl zM zM) (vu zM) ?_;refine Kt (f:=238) (i:=0) (first:=[]) (cap:=[]) rfl rfl call238 rfl rfl rfl (λW hS hW=>nle (8*n) pJ _ 8 _ _ _ zM (by rw[nae,y9];omega) W hW) ?_;exact Kz.p):P:=h ⟨k⟩
theorem xd (k:Q) (h:ZW Q->P:=by intro Kz;refine aY zeroValue55 rfl rfl ?_;exact Kz.p):P:=h ⟨k⟩
theorem zXf (k:Q) (h:ZW Q->P:=by intro Kz;refine Yu (i:=0) (γ:=Mp) (v:=λ_=>.tuple #[]) (ob:=λm=>m.obj (Value.int .i64) (gF (dc ns) (512+d))) (Φ:=λm=>m.Ok (gF (dc ns) (512+d))) (first:=[.map (some bf)]) (cap:=[]) rfl rfl call262 rfl rfl rfl (λW hS hW=>nYd bf m hm (512+d) W hW) ?_;exact Kz.p):P:=h ⟨k⟩
theorem zYf (k:Q) (h:ZW Q->P:=by intro Kz;refine enter (vs:=[_,_,_]) func19 rfl ntmps19 rfl ?_;exact Kz.p):P:=h ⟨k⟩
theorem zZf (k:Q) (h:ZW Q->P:=by intro Kz;refine nJ (v:=.bool true) (f:=122) (cap:=[]) rfl call122 rfl rfl rfl (λW hS=>Ui h2 W) ?_;exact Kz.p):P:=h ⟨k⟩
theorem z0f (k:Q) (h:ZW Q->P:=by intro Kz;refine rq (.int .u64 ((r1/y1:Nat):Int)) (tR rfl rfl zM zM zM) (vu (VM r1 y1)) ?_;exact Kz.p):P:=h ⟨k⟩
theorem z1f (k:Q) (h:ZW Q->P:=by intro Kz;refine Aj (G2:=cj hM V1 (hI (yd++ys) V1)) (Hc2:=jU ms) aW eW ⟨(λj h=>h.imp id (λh=>D1 j h)),(λ_ h=>.inl h),(λ_ h=>.inl h),(λp hp=>.inl (bU.2 ⟨p,hp,rfl⟩)),(λp hp=>.inl (bU.2 ⟨p,hp,rfl⟩))⟩ (Ak iM mz) ?_;exact Kz.p):P:=h ⟨k⟩
theorem Q1 (k:Q) (h:ZW Q->P:=by intro Kz;refine rv rfl rfl rfl (k9 (h:=32) underlying34 sizeOf5 rfl rfl zM) ?_;exact Kz.p):P:=h ⟨k⟩
theorem z3f (k:Q) (h:ZW Q->P:=by intro Kz;refine rr (.agg IZ) (bL underlying81 zeroValue81 (bA.c sizeOf31 (bA.c sizeOf32 (bA.n))) rfl rfl) ?_;exact Kz.p):P:=h ⟨k⟩
theorem z4f (k:Q) (h:ZW Q->P:=by intro Kz;refine nr (α:=Nat) (v:=λb=>.slice (some ⟨b,0,none⟩) 32 32) (Φ:=λW b w1=>W.heap.size<=b/\w1.heap[b]? =some (.cells (dg (fe Z lk)) 34 (0,0))) call28 rfl rfl rfl (λW hS=>WK hZ lk hlk W (hg.old hS A4 (λk hk=>Em k zM) zCc)) ?_;exact Kz.p):P:=h ⟨k⟩
theorem OL (k:Q) (h:ZW Q->P:=by intro Kz;refine rv rfl rfl rfl (gl 32 4294967296 zQ rfl rfl rfl) ?_;exact Kz.p):P:=h ⟨k⟩
theorem z6f (k:Q) (h:ZW Q->P:=by intro Kz;refine rr (.agg (aZ (⟨⟨G.g.folder,c.epoch,aR Z c,[],[]⟩,none,0,none,0⟩:Gv))) (bL underlying57 zeroValue57 (bA.c sizeOf3 (bA.c sizeOf3 (bA.c sizeOf34 (bA.c sizeOf52 (bA.c sizeOf55 (bA.n)))))) rfl rfl) ?_;exact Kz.p):P:=h ⟨k⟩
theorem Qw (k:Q) (h:ZW Q->P:=by intro Kz;refine rv rfl rfl rfl (C8 rfl rfl zM zM) ?_;exact Kz.p):P:=h ⟨k⟩
theorem WT (k:Q) (h:ZW Q->P:=by intro Kz;refine call call63 rfl rfl rfl (λW hS=>by rw[<-he];exact nE _ W) (v:=.int .i64 e) ?_;exact Kz.p):P:=h ⟨k⟩
theorem z9f (k:Q) (h:ZW Q->P:=by intro Kz;refine call call208 rfl rfl rfl (λW hS=>n1c l ck N a cp W (aS hN (hS.links w A1).size) (aN.up (ao _) (hS.same A1 hN zU zP))) ?_;exact Kz.p):P:=h ⟨k⟩
theorem zag (k:Q) (h:ZW Q->P:=by intro Kz;refine Am (enc:=ai) (m:=1) (t:=3) (xs:=(dJ (nw s.pls) l.fo)) (v:=id) (first:=[]) (cap:=[]) rfl call77 rfl rfl rfl (λW hS=>ntg s.pls ho.pl N s.pa s.pc W (aS hN (hS.links w A3).size) (hs.pl.up (ao _) (hS.same A3 hN zU trivial)) l.fo) ?_;exact Kz.p):P:=h ⟨k⟩
theorem UO (k:Q) (h:ZW Q->P:=by intro Kz;refine aV (i:=0) rfl sizeOf81 rfl rfl rfl rfl rfl rfl ?_;exact Kz.p):P:=h ⟨k⟩
theorem O2 (k:Q) (h:ZW Q->P:=by intro Kz;refine aV (i:=0) rfl sizeOf34 rfl rfl rfl rfl rfl rfl ?_;exact Kz.p):P:=h ⟨k⟩
theorem zdg (k:Q) (h:ZW Q->P:=by intro Kz;refine nr (α:=Nat) (v:=λb=>.slice (some ⟨b,0,none⟩) 32 32) (Φ:=λW b w1=>W.heap.size<=b/\w1.heap[b]? =some (.cells (dg (se Z f)) 34 (0,0))) call31 rfl rfl rfl (λW hS=>nEd hZ f hf.by_ hf.n W (hg.old hS A2 zU trivial)) ?_;exact Kz.p):P:=h ⟨k⟩
theorem Ea (k:Q) (h:ZW Q->P:=by intro Kz;refine OX.done ?_;refine PX.next ?_;exact Kz.p):P:=h ⟨k⟩
theorem zfg (k:Q) (h:ZW Q->P:=by intro Kz;refine CJ.loop (α:=Nat) (λj=>[(0,yv l),(1,ptr b 0),(3,.int .i64 ((cK n:Int)-1-(j:Int)))]) (λj=>[]) (λj=>[W]) (λj=>DE hM (hI ((pG n).take j))) (λj=>j<=cK n) (λj=>cK n-j) 0 (dx _) zR rfl rfl z1 ?_;exact Kz.p):P:=h ⟨k⟩
theorem zgg (k:Q) (h:ZW Q->P:=by intro Kz;refine call call108 rfl rfl rfl (λW hS=>by rw[<-jv];exact nOj hZ s hs0 (V.list l).enc zM ix 0 wI uy.le W (cG.row (hS.own _ A0)) (hg.old hS A0 zU zP)) (v:=.agg (dg df)) ?_;refine aV (i:=1) rfl sizeOf34 rfl rfl rfl rfl rfl rfl ?_;exact Kz.p):P:=h ⟨k⟩
theorem Pj (k:Q) (h:ZW Q->P:=by intro Kz;refine aV (i:=0) rfl sizeOf4 rfl rfl rfl rfl rfl rfl ?_;exact Kz.p):P:=h ⟨k⟩
theorem zj (k:Q) (h:ZW Q->P:=by intro Kz;refine aY zeroValue149 rfl rfl ?_;exact Kz.p):P:=h ⟨k⟩
theorem zkg (k:Q) (h:ZW Q->P:=by intro Kz;refine rr (.agg #[.slice a ns.length cp]) (af isAgg55 sizeOf55 rfl A0 aI aE zL rfl) ?_;exact Kz.p):P:=h ⟨k⟩
theorem zlg (k:Q) (h:ZW Q->P:=by intro Kz;refine aV (i:=2) rfl sizeOf63 rfl rfl rfl rfl rfl rfl ?_;refine aV (i:=1) rfl sizeOf67 rfl rfl rfl rfl rfl rfl ?_;exact Kz.p):P:=h ⟨k⟩
theorem zmg (k:Q) (h:ZW Q->P:=by intro Kz;refine enter (vs:=[_,_,_]) func37 rfl ntmps37 rfl ?_;exact Kz.p):P:=h ⟨k⟩
theorem zng (k:Q) (h:ZW Q->P:=by intro Kz;refine rr (.agg (wrA x.w)) (cN (i:=0) rfl isAgg162 sizeOf162 rfl (aT rfl)) ?_;exact Kz.p):P:=h ⟨k⟩
theorem zog (k:Q) (h:ZW Q->P:=by intro Kz;refine rr (.agg (rdA s)) (af isAgg31 sizeOf31 rfl A2 cT dI trivial rfl) ?_;exact Kz.p):P:=h ⟨k⟩
theorem zpg (k:Q) (h:ZW Q->P:=by intro Kz;refine rq (.bool false) (tb rfl rfl) (vb (decide_eq_false zM)) ?_;exact Kz.p):P:=h ⟨k⟩
theorem zqg (k:Q) (h:ZW Q->P:=by intro Kz;refine PJ.reH (H':=[(pJ,.cells (cf 128 (mS n m j N)) 5 (0,0)),(b3,.cells (oU n m (eG n)).cells 336 (0,0)),(b2,.cells (iO (oU n m (eG n)) (i+1)) 34 (0,0))]) (by rw[<-nhk _ i zM];rfl) ?_;exact Kz.p):P:=h ⟨k⟩
theorem zrg (k:Q) (h:ZW Q->P:=by intro Kz;refine rq (.int .u64 (r1:Int)) (rh rfl rfl) (vu zHb) ?_;exact Kz.p):P:=h ⟨k⟩
theorem zsg (k:Q) (h:ZW Q->P:=by intro Kz;refine rr (.agg (lkC lk)) (af isAgg38 sizeOf38 rfl A0 ff gd zL rfl) ?_;exact Kz.p):P:=h ⟨k⟩
theorem ztg (k:Q) (h:ZW Q->P:=by intro Kz;refine bG (.inl rfl) results210 (RS.t rfl (RS.n)) A2 zS ?_;exact Kz.p):P:=h ⟨k⟩
theorem JI (k:Q) (h:ZW Q->P:=by intro Kz;refine CX.seq ?_;refine CX.region ?_;exact Kz.p):P:=h ⟨k⟩
theorem zvg (k:Q) (h:ZW Q->P:=by intro Kz;refine ng (E':=[(2,_),(3,_),(4,_),(5,_),(6,_),(8,_),(9,_),(12,_),(13,_),(14,_),(15,_),(16,_),(17,_),(18,_),(19,_),(20,_),(21,_),(22,_),(23,_),(24,_),(25,_)]) zR ?_;exact Kz.p):P:=h ⟨k⟩
theorem zwg (k:Q) (h:ZW Q->P:=by intro Kz;refine rq (ptr b4 j) (lb underlying375 sizeOf229 rfl rfl zM zM) (congrArg (ptr b4) zM) ?_;refine kq (i:=0) rfl sizeOf229 rfl rfl rfl rfl (by rw[y9];omega) rfl ?_;exact Kz.p):P:=h ⟨k⟩
theorem zxg (k:Q) (h:ZW Q->P:=by intro Kz;refine nGj (ys:=(V.list l).enc) call107 rfl rfl rfl (λW hS=>nPe l bV hd gQ N (some ⟨bl,0,none⟩) lc W (aS hN (hS.links _ A0).size) (ef.up (ao _) (hS.same A0 hN zU zP) _ _ tw)) ?_;exact Kz.p):P:=h ⟨k⟩
theorem zyg (k:Q) (h:ZW Q->P:=by intro Kz;refine rq (.bool ((aC (vG (dm ns)) x.at_).getD false)) (qF (ev:=Value.bool) underlying351 underlying3 zeroValue4 hm (bN.own (i:=1) rfl) rfl rfl) (nsj _) ?_;exact Kz.p):P:=h ⟨k⟩
theorem zzg (k:Q) (h:ZW Q->P:=by intro Kz;refine Kt (f:=238) (i:=2) (first:=[]) (cap:=[]) rfl rfl call238 rfl rfl rfl (λW hS hW=>nle (S8.at (oU n m (eG n)) i).toNat b2 (4*i) _ _ _ _ zM (by rw[iO,y9];omega) W hW) ?_;exact Kz.p):P:=h ⟨k⟩
theorem zAg (k:Q) (h:ZW Q->P:=by intro Kz;refine rr (.int .i64 c.ca) (aa isAgg3 rfl A0 aP aX trivial rfl) ?_;exact Kz.p):P:=h ⟨k⟩
theorem zBg (k:Q) (h:ZW Q->P:=by intro Kz;refine rv rfl rfl rfl (gl 8 256 zQ rfl rfl rfl) ?_;refine B 13 ?_;exact Kz.p):P:=h ⟨k⟩
theorem zCg (k:Q) (h:ZW Q->P:=by intro Kz;refine rv rfl rfl rfl (ri rfl rfl zM (by have:=VN zM;omega)) ?_;exact Kz.p):P:=h ⟨k⟩
theorem zDg (k:Q) (h:ZW Q->P:=by intro Kz;refine nJ (v:=.bool true) (f:=122) (cap:=[]) rfl call122 rfl rfl rfl (λW hS=>Ui h3 W) ?_;exact Kz.p):P:=h ⟨k⟩
theorem VX (k:Q) (h:ZW Q->P:=by intro Kz;refine ay results63 rfl A0 ?_;refine vi ?_;exact Kz.p):P:=h ⟨k⟩
theorem Xy (k:Q) (h:ZW Q->P:=by intro Kz;refine rr (.bool true) (dP rfl) ?_;exact Kz.p):P:=h ⟨k⟩
theorem zGg (k:Q) (h:ZW Q->P:=by intro Kz;refine call call201 rfl rfl rfl (λW hS=>by rw[<-eX];exact nMb ns hn N a cp W (aS hN (hS.links w A1).size) (aN.up (ao _) (hS.same A1 hN zU z7))) (v:=.int .i64 210) ?_;exact Kz.p):P:=h ⟨k⟩
theorem zHg (k:Q) (h:ZW Q->P:=by intro Kz;refine call call210 rfl rfl rfl (λW hS=>nSe G N W (aS hN (hS.links w A1).size) (hG.up (ao _) (hS.same A1 hN zU zP)) l ck a cp (aN.up (ao _) (hS.same A1 hN zU zP)) au) ?_;exact Kz.p):P:=h ⟨k⟩
theorem zIg (k:Q) (h:ZW Q->P:=by intro Kz;refine rq (.bool true) (bM rfl rfl) (vb Y6) ?_;exact Kz.p):P:=h ⟨k⟩
theorem zJg (k:Q) (h:ZW Q->P:=by intro Kz;refine nRg (ev:=jA) (kv:=(nw l)) (v:=id) call46 rfl rfl rfl (λW hS=>n8g l ck N a cp W (aS hN (hS.links w A0).size) (aN.up (ao _) (hS.same A0 hN zU trivial))) ?_;exact Kz.p):P:=h ⟨k⟩
theorem V5 (k:Q) (h:ZW Q->P:=by intro Kz;refine kq (i:=0) rfl sizeOf3 rfl rfl rfl rfl (aT rfl) rfl ?_;exact Kz.p):P:=h ⟨k⟩
theorem Yo (k:Q) (h:ZW Q->P:=by intro Kz;refine ng (E':=[(0,_),(1,_),(2,_),(3,_),(4,_)]) zR ?_;exact Kz.p):P:=h ⟨k⟩
theorem zMg (k:Q) (h:ZW Q->P:=by intro Kz;refine rv rfl rfl rfl (aK (i:=2) rfl isAgg34 sizeOf34 rfl (by rw[iO,y9])) ?_;refine aV (i:=2) rfl sizeOf34 rfl rfl rfl z6d (by rw[iO,y9]) rfl ?_;exact Kz.p):P:=h ⟨k⟩
theorem VU (k:Q) (h:ZW Q->P:=by intro Kz;refine aV (i:=0) rfl sizeOf202 rfl rfl rfl rfl rfl rfl ?_;exact Kz.p):P:=h ⟨k⟩
theorem XB (k:Q) (h:ZW Q->P:=by intro Kz;refine aV (i:=0) rfl sizeOf164 rfl rfl rfl rfl rfl rfl ?_;exact Kz.p):P:=h ⟨k⟩
theorem zPg (k:Q) (h:ZW Q->P:=by intro Kz;refine B 2 ?_;refine rv rfl rfl rfl (iK rfl rfl) ?_;refine B 1 ?_;refine rv rfl rfl rfl (lA rfl rfl) ?_;refine B 1 ?_;refine rv rfl rfl rfl (iK rfl rfl) ?_;refine B 1 ?_;refine zwe ?_;refine B 1 ?_;refine zCe ?_;refine B 5 ?_;exact Kz.p):P:=h ⟨k⟩
theorem yk (k:Q) (h:ZW Q->P:=by intro Kz;refine rr (.bool false) (bM rfl rfl) ?_;exact Kz.p):P:=h ⟨k⟩
theorem zRg (k:Q) (h:ZW Q->P:=by intro Kz;refine B 6 ?_;refine rr (.agg (aZ G)) (af isAgg57 sizeOf57 rfl A1 aI aE zL rfl) ?_;refine call call144 rfl rfl rfl (λW hS=>by rw[<-hv];exact nV G N W (aS hN (hS.links w A2).size) (hG.up (ao _) (hS.same A2 hN zU zP))) (v:=.bool true) ?_;refine rr (.bool false) (dP rfl) ?_;refine B 8 ?_;refine rr (.agg (dZ c)) (af isAgg99 sizeOf99 rfl A0 aJ aD zL rfl) ?_;exact Kz.p):P:=h ⟨k⟩
theorem zSg (k:Q) (h:ZW Q->P:=by intro Kz;refine zNf ?_;refine B 7 ?_;refine wD ?_;refine B 3 ?_;refine KL ?_;refine B 18 ?_;refine I0 ?_;refine B 11 ?_;refine zQf ?_;exact Kz.p):P:=h ⟨k⟩
theorem zTg (k:Q) (h:ZW Q->P:=by intro Kz;refine rr (.agg (eZ s)) (aK (i:=0) rfl isAgg81 sizeOf81 rfl rfl) ?_;refine zsg ?_;refine rr (.agg (lkC lk)) (bL underlying84 zeroValue84 (bA.c sizeOf38 (bA.n)) rfl rfl) ?_;exact Kz.p):P:=h ⟨k⟩
theorem XQ (k:Q) (h:ZW Q->P:=by intro Kz;refine rq (.bool false) (bM rfl rfl) (vb Y6) ?_;exact Kz.p):P:=h ⟨k⟩
theorem R4 (k:Q) (h:ZW Q->P:=by intro Kz;refine rr (.agg (lkC l)) (af isAgg84 sizeOf84 rfl A0 cT dI trivial rfl) ?_;exact Kz.p):P:=h ⟨k⟩
theorem Ar (k:Q) (h:ZW Q->P:=by intro Kz;refine mD ?_;refine mD ?_;exact Kz.p):P:=h ⟨k⟩
theorem OM (k:Q) (h:ZW Q->P:=by intro Kz;refine rv rfl rfl rfl (ri rfl rfl zM zM) ?_;exact Kz.p):P:=h ⟨k⟩
theorem zYg (k:Q) (h:ZW Q->P:=by intro Kz;refine call call59 rfl rfl rfl (λW hS=>n3b n hn W) ?_;refine call call58 rfl rfl rfl (λW hS=>npd _ W) ?_;refine B 4 ?_;refine rr (.agg (kn c)) (aK (i:=2) rfl isAgg63 sizeOf63 rfl rfl) ?_;exact Kz.p):P:=h ⟨k⟩
theorem XP (k:Q) (h:ZW Q->P:=by intro Kz;refine B 12 ?_;refine call call97 rfl rfl rfl (λW hS=>Za 0 zQ zQ W) ?_;exact Kz.p):P:=h ⟨k⟩
theorem z0g (k:Q) (h:ZW Q->P:=by intro Kz;refine call call145 rfl rfl rfl (λW hS=>by rw[<-jj];exact nvb c dM.few N W (aS hN (hS.links w A2).size) (hC.up (ao _) (hS.same A2 hN zU zP))) (v:=.int .i64 0) ?_;exact Kz.p):P:=h ⟨k⟩
theorem z1g (k:Q) (h:ZW Q->P:=by intro Kz;refine B 9 ?_;refine rv rfl rfl rfl (gW (ev:=(Value.int .i64)) underlying319 underlying3 zeroValue3 hm (bN.own (i:=0) rfl) rfl rfl) ?_;refine B 10 ?_;exact Kz.p):P:=h ⟨k⟩
theorem WR (k:Q) (h:ZW Q->P:=by intro Kz;refine aV (i:=0) rfl sizeOf38 rfl rfl rfl rfl rfl rfl ?_;exact Kz.p):P:=h ⟨k⟩
theorem WA (k:Q) (h:ZW Q->P:=by intro Kz;refine aV (i:=0) rfl sizeOf36 rfl rfl rfl rfl rfl rfl ?_;exact Kz.p):P:=h ⟨k⟩
theorem z4g (k:Q) (h:ZW Q->P:=by intro Kz;refine bG (.inl rfl) results208 (RS.t rfl (RS.n)) A0 zS ?_;exact Kz.p):P:=h ⟨k⟩
theorem XE (k:Q) (h:ZW Q->P:=by intro Kz;refine call call140 rfl rfl rfl (λW hS=>S9 _ _ _ W) ?_;exact Kz.p):P:=h ⟨k⟩
theorem z6g (k:Q) (h:ZW Q->P:=by intro Kz;refine rq (.int .i64 ((cK n:Int)-1-(0:Nat))) (gP rfl rfl zM zM) (vi (by rw[VR];omega)) ?_;exact Kz.p):P:=h ⟨k⟩
theorem YD (k:Q) (h:ZW Q->P:=by intro Kz;refine bG (.inl rfl) results19 (RS.t rfl (RS.n)) A2 zS ?_;exact Kz.p):P:=h ⟨k⟩
theorem ZT (k:Q) (h:ZW Q->P:=by intro Kz;refine aY zeroValue373 rfl rfl ?_;exact Kz.p):P:=h ⟨k⟩
theorem LY (k:Q) (h:ZW Q->P:=by intro Kz;refine aY zeroValue233 rfl rfl ?_;exact Kz.p):P:=h ⟨k⟩
theorem Na (k:Q) (h:ZW Q->P:=by intro Kz;refine aY zeroValue135 rfl rfl ?_;exact Kz.p):P:=h ⟨k⟩
theorem zbh (k:Q) (h:ZW Q->P:=by intro Kz;refine Pz (enc:=fw) (m:=2) (t:=355) (xs:=[]) (v:=λs=>.agg #[s]) (first:=[]) (cap:=[]) rfl call220 rfl rfl rfl (λW hS=>nEf W) ?_;exact Kz.p):P:=h ⟨k⟩
theorem zdh (k:Q) (h:ZW Q->P:=by intro Kz;refine rv rfl rfl rfl (aa (v:=.int .i64 n) isAgg3 rfl A0 sx zZ jS zud) ?_;exact Kz.p):P:=h ⟨k⟩
theorem zeh (k:Q) (h:ZW Q->P:=by intro Kz;refine call call218 rfl rfl rfl (λW hS=>nek ns hn N a cp W (aS hN (hS.links w A1).size) (aN.up (ao _) (hS.same A1 hN zU z7)) eX d hd eN) ?_;exact Kz.p):P:=h ⟨k⟩
theorem RQ (k:Q) (h:ZW Q->P:=by intro Kz;refine aY zeroValue84 rfl rfl ?_;exact Kz.p):P:=h ⟨k⟩
theorem Lc (k:Q) (h:ZW Q->P:=by intro Kz;refine aY zeroValue63 rfl rfl ?_;exact Kz.p):P:=h ⟨k⟩
theorem zhh (k:Q) (h:ZW Q->P:=by intro Kz;refine call call218 rfl rfl rfl (λW hS=>nUf ns hn N a cp W (aS hN (hS.links w A1).size) (aN.up (ao _) (hS.same A1 hN zU z7)) eX d true) ?_;exact Kz.p):P:=h ⟨k⟩
theorem zih (k:Q) (h:ZW Q->P:=by intro Kz;refine EU underlying146 sizeOf149 zeroValue149 rfl rfl rfl rfl rfl rfl rfl ?_;exact Kz.p):P:=h ⟨k⟩
theorem zjh (k:Q) (h:ZW Q->P:=by intro Kz;refine rr (.agg (ekC DU)) (bL underlying76 zeroValue76 (bA.c sizeOf34 (bA.c sizeOf61 (bA.n))) rfl rfl) ?_;exact Kz.p):P:=h ⟨k⟩
theorem zkh (k:Q) (h:ZW Q->P:=by intro Kz;refine lj underlying46 sizeOf57 zeroValue57 rfl rfl rfl rfl rfl rfl rfl ?_;exact Kz.p):P:=h ⟨k⟩
theorem zlh (k:Q) (h:ZW Q->P:=by intro Kz;refine lj underlying41 sizeOf34 zeroValue34 rfl rfl rfl rfl rfl rfl rfl ?_;exact Kz.p):P:=h ⟨k⟩
theorem zmh (k:Q) (h:ZW Q->P:=by intro Kz;refine zAg ?_;refine OT ?_;refine rq (.bool false) (bM rfl rfl) (vb (by simp[hA])) ?_;exact Kz.p):P:=h ⟨k⟩
theorem znh (k:Q) (h:ZW Q->P:=by intro Kz;refine zcf ?_;refine call call19 rfl rfl rfl (λW hS=>nUg l hE W) ?_;exact Kz.p):P:=h ⟨k⟩
theorem zoh (k:Q) (h:ZW Q->P:=by intro Kz;refine Kt (f:=179) (i:=1) (first:=[]) (cap:=[ptr b5 0]) rfl rfl call179 rfl rfl rfl (λW hS hW=>nGg _ _ _ zM zM zM zM W hW) ?_;exact Kz.p):P:=h ⟨k⟩
theorem zph (k:Q) (h:ZW Q->P:=by intro Kz;refine call call178 rfl rfl rfl (λW hS=>n2f _ _ _ zM zM zM zM zM W) ?_;exact Kz.p):P:=h ⟨k⟩
theorem zqh (k:Q) (h:ZW Q->P:=by intro Kz;refine aV (i:=1) rfl sizeOf55 rfl rfl rfl rfl rfl (Rw.val_one2 _ _) ?_;exact Kz.p):P:=h ⟨k⟩
theorem zrh (k:Q) (h:ZW Q->P:=by intro Kz;refine aV (i:=0) rfl sizeOf55 rfl rfl rfl rfl rfl (Rw.val_one2 _ _) ?_;exact Kz.p):P:=h ⟨k⟩
theorem zsh (k:Q) (h:ZW Q->P:=by intro Kz;refine rr (.agg (dg im.com)) (ag isAgg34 sizeOf34 rfl A2 vt (aW.z zM zZ P3 zZ) YC (aT rfl)) ?_;exact Kz.p):P:=h ⟨k⟩
theorem zth (k:Q) (h:ZW Q->P:=by intro Kz;refine OJ.perm (H':=[(b5,.cells #[.slice none 0 0] 118 (0,0)),(b4,.cells (dg (λ_=>0)) 34 (0,0))]) (List.Perm.swap _ _ _) ?_;exact Kz.p):P:=h ⟨k⟩
theorem Y8 (k:Q) (h:ZW Q->P:=by intro Kz;refine rv rfl rfl rfl (mO 32 4294967296 zQ rfl rfl rfl rfl zM zM) ?_;exact Kz.p):P:=h ⟨k⟩
theorem zvh (k:Q) (h:ZW Q->P:=by intro Kz;refine ng (E':=[(0,_),(1,_),(2,_),(3,_),(8,_),(9,_)]) zR ?_;exact Kz.p):P:=h ⟨k⟩
theorem zwh (k:Q) (h:ZW Q->P:=by intro Kz;refine ng (E':=[(0,_),(1,_),(2,_),(3,_),(4,_),(6,_)]) zR ?_;exact Kz.p):P:=h ⟨k⟩
theorem zxh (k:Q) (h:ZW Q->P:=by intro Kz;refine ng (E':=[(0,_),(1,_),(2,_),(3,_),(4,_),(5,_),(7,_),(8,_),(9,_),(10,_),(11,_),(12,_),(13,_)]) zR ?_;exact Kz.p):P:=h ⟨k⟩
theorem QR (k:Q) (h:ZW Q->P:=by intro Kz;refine rv rfl rfl rfl (Oy rfl rfl) ?_;exact Kz.p):P:=h ⟨k⟩
theorem PV (k:Q) (h:ZW Q->P:=by intro Kz;refine aY zeroValue101 rfl rfl ?_;exact Kz.p):P:=h ⟨k⟩
theorem zAh (k:Q) (h:ZW Q->P:=by intro Kz;refine wpIn_loop (λa W=>∃m,Inv a W m) (λa W=>Qg (Inv a W)) ⟨_,x0,rfl,h0,hN,hD,hE.fits hF,hS.lessL hL⟩ ?_;exact Kz.p):P:=h ⟨k⟩
theorem zBh (k:Q) (h:ZW Q->P:=by intro Kz;refine rq (.bool (n.testBit (cK n-1-j))) (cM rfl rfl) (vb (Kq n _)) ?_;exact Kz.p):P:=h ⟨k⟩
theorem zCh (k:Q) (h:ZW Q->P:=by intro Kz;refine rr (.agg (kn pz)) (aK (i:=2) rfl isAgg63 sizeOf63 rfl rfl) ?_;refine zlg ?_;exact Kz.p):P:=h ⟨k⟩
theorem Pa (k:Q) (h:ZW Q->P:=by intro Kz;refine aY zeroValue67 rfl rfl ?_;exact Kz.p):P:=h ⟨k⟩
theorem zEh (k:Q) (h:ZW Q->P:=by intro Kz;refine nM (cj hM (λ_=>False) (hI [] _)) [] (vs:=[_,_]) func302 rfl ntmps302 rfl (I6 hM (hI [] _) h0 z1 Jg z1) ?_;exact Kz.p):P:=h ⟨k⟩
theorem zFh (k:Q) (h:ZW Q->P:=by intro Kz;refine ng (E':=[(0,_),(1,_),(2,_),(3,_),(4,_),(5,_),(6,_),(7,_),(8,_),(9,_),(10,_),(11,_)]) zR ?_;exact Kz.p):P:=h ⟨k⟩
theorem zGh (k:Q) (h:ZW Q->P:=by intro Kz;refine WX (L':=[Wy,wn,w7,Wb,w3,W]) z1 ?_;exact Kz.p):P:=h ⟨k⟩
theorem ZU (k:Q) (h:ZW Q->P:=by intro Kz;refine kq (i:=1) rfl sizeOf261 rfl rfl rfl rfl (aT rfl) rfl ?_;exact Kz.p):P:=h ⟨k⟩
theorem zIh (k:Q) (h:ZW Q->P:=by intro Kz;refine rr (.agg (dg (sl 1 0 0).par)) (qD underlying34 zeroValue34 sizeOf5 rfl rfl) ?_;exact Kz.p):P:=h ⟨k⟩
theorem zJh (k:Q) (h:ZW Q->P:=by intro Kz;refine rv rfl rfl rfl (iw (l:=64) (h:=N-64*k) underlying64 sizeOf5 rfl ⟨_,_,rfl,rfl⟩ rfl zM zM rfl) ?_;exact Kz.p):P:=h ⟨k⟩
theorem zKh (k:Q) (h:ZW Q->P:=by intro Kz;refine rr (.agg (dg x.1.g.last)) (cN (i:=1) rfl isAgg34 sizeOf34 rfl (aT rfl)) ?_;exact Kz.p):P:=h ⟨k⟩
theorem zLh (k:Q) (h:ZW Q->P:=by intro Kz;refine rr (.agg (dg G.g.last)) (ag isAgg34 sizeOf34 rfl A0 aJ aD MW (aT rfl)) ?_;exact Kz.p):P:=h ⟨k⟩
theorem zMh (k:Q) (h:ZW Q->P:=by intro Kz;refine ng (E':=[(1,_),(4,_),(6,_),(7,_),(9,_),(10,_),(11,_),(24,_),(25,_),(26,_),(27,_)]) zR ?_;exact Kz.p):P:=h ⟨k⟩
theorem Z2 (k:Q) (h:ZW Q->P:=by intro Kz;refine ng (E':=[(0,_),(1,_),(2,_),(4,_),(5,_)]) zR ?_;exact Kz.p):P:=h ⟨k⟩
theorem zOh (k:Q) (h:ZW Q->P:=by intro Kz;refine rr (.agg (dg c.par)) (cN (i:=0) rfl isAgg34 sizeOf34 rfl (aT rfl)) ?_;exact Kz.p):P:=h ⟨k⟩
theorem Y9 (k:Q) (h:ZW Q->P:=by intro Kz;refine call call139 rfl rfl rfl (λW hS=>nQf _ zM zM W) ?_;exact Kz.p):P:=h ⟨k⟩
theorem zQh (k:Q) (h:ZW Q->P:=by intro Kz;refine aV (i:=1) rfl sizeOf101 rfl rfl rfl rfl rfl rfl ?_;exact Kz.p):P:=h ⟨k⟩
theorem zRh (k:Q) (h:ZW Q->P:=by intro Kz;refine aV (i:=0) rfl sizeOf355 rfl rfl rfl rfl rfl rfl ?_;exact Kz.p):P:=h ⟨k⟩
theorem zSh (k:Q) (h:ZW Q->P:=by intro Kz;refine aV (i:=0) rfl sizeOf210 rfl rfl rfl rfl rfl rfl ?_;exact Kz.p):P:=h ⟨k⟩
theorem zTh (k:Q) (h:ZW Q->P:=by intro Kz;refine aV (i:=0) rfl sizeOf166 rfl rfl rfl rfl rfl rfl ?_;exact Kz.p):P:=h ⟨k⟩
theorem zUh (k:Q) (h:ZW Q->P:=by intro Kz;refine bG (.inl rfl) results15 (RS.wA (i:=2) rfl isAgg38 sizeOf38 rfl (aT rfl) (RS.t rfl (RS.n))) A2 zS ?_;exact Kz.p):P:=h ⟨k⟩
theorem zVh (k:Q) (h:ZW Q->P:=by intro Kz;refine leavesIn_cons (f:=f) (args:=cap.toArray) z1 z1 (by simp[invoke,ax _ W]) (λ_ _=>trivial) ?_;exact Kz.p):P:=h ⟨k⟩
theorem zWh (k:Q) (h:ZW Q->P:=by intro Kz;refine aV (i:=0) rfl sizeOf96 rfl rfl rfl rfl rfl rfl ?_;exact Kz.p):P:=h ⟨k⟩
theorem zXh (k:Q) (h:ZW Q->P:=by intro Kz;refine rr (.int .i64 d.c.author) (aa isAgg3 rfl A1 aP aX trivial rfl) ?_;exact Kz.p):P:=h ⟨k⟩
theorem zYh (k:Q) (h:ZW Q->P:=by intro Kz;refine rq (.bool true) (p7 rfl rfl) (vb (decide_eq_true zM)) ?_;exact Kz.p):P:=h ⟨k⟩
theorem zZh (k:Q) (h:ZW Q->P:=by intro Kz;refine rr (.agg (rdA s)) (af isAgg31 sizeOf31 rfl A2 cT dI zL rfl) ?_;exact Kz.p):P:=h ⟨k⟩
theorem z0h (k:Q) (h:ZW Q->P:=by intro Kz;refine rr (.agg (rdA s)) (af isAgg31 sizeOf31 rfl A1 aJ aD zL rfl) ?_;exact Kz.p):P:=h ⟨k⟩
theorem z1h (k:Q) (h:ZW Q->P:=by intro Kz;refine nJ (v:=.int .i64 (P1 x y)) (f:=92) (cap:=[]) rfl call92 rfl rfl rfl (λW hS=>nCg x y W) ?_;exact Kz.p):P:=h ⟨k⟩
theorem z2h (k:Q) (h:ZW Q->P:=by intro Kz;refine rq (.bool false) (bM rfl rfl) (vb (by simp[ph])) ?_;exact Kz.p):P:=h ⟨k⟩
theorem z3h (k:Q) (h:ZW Q->P:=by intro Kz;refine enter (vs:=[_,_,_,_]) func80 rfl ntmps80 rfl ?_;exact Kz.p):P:=h ⟨k⟩
theorem z4h (k:Q) (h:ZW Q->P:=by intro Kz;refine rq (.bool false) (bM rfl rfl) (vb (by simp[he])) ?_;exact Kz.p):P:=h ⟨k⟩
theorem z5h (k:Q) (h:ZW Q->P:=by intro Kz;refine call call111 rfl rfl rfl (λW hS=>Zs [a,b] _ _ _ _ _ rfl z1 W (hS.old A0 hb8 hm8 trivial)) ?_;exact Kz.p):P:=h ⟨k⟩
theorem z6h (k:Q) (h:ZW Q->P:=by intro Kz;refine Ja (i:=2) (ev:=jA) (k:=x.fol) (v:=x) rfl hm underlying132 underlying3 rfl rfl rfl rfl ?_;exact Kz.p):P:=h ⟨k⟩
theorem z7h (k:Q) (h:ZW Q->P:=by intro Kz;refine enter (vs:=[_,_,_]) func222 rfl ntmps222 rfl ?_;exact Kz.p):P:=h ⟨k⟩
theorem z8h (k:Q) (h:ZW Q->P:=by intro Kz;refine enter (vs:=[_,_,_]) func218 rfl ntmps218 rfl ?_;exact Kz.p):P:=h ⟨k⟩
theorem z9h (k:Q) (h:ZW Q->P:=by intro Kz;refine enter (vs:=[_,_,_]) func154 rfl ntmps154 rfl ?_;exact Kz.p):P:=h ⟨k⟩
theorem zai (k:Q) (h:ZW Q->P:=by intro Kz;refine enter (vs:=[_,_,_]) func146 rfl ntmps146 rfl ?_;exact Kz.p):P:=h ⟨k⟩
theorem Zg (k:Q) (h:ZW Q->P:=by intro Kz;refine B 2 ?_;refine rv rfl rfl rfl (iK rfl rfl) ?_;refine B 1 ?_;refine rv rfl rfl rfl (lA rfl rfl) ?_;refine B 2 ?_;refine rv rfl rfl rfl (iK rfl rfl) ?_;refine zrg ?_;refine B 7 ?_;refine z0f ?_;refine B 8 ?_;refine zxe ?_;exact Kz.p):P:=h ⟨k⟩
theorem S2 (k:Q) (h:ZW Q->P:=by intro Kz;refine rr (.bool false) (dP rfl) ?_;exact Kz.p):P:=h ⟨k⟩
theorem zei (k:Q) (h:ZW Q->P:=by intro Kz;refine B 4 ?_;refine Ym ?_;refine B 5 ?_;refine zZf ?_;refine B 6 ?_;refine zDg ?_;refine B 6 ?_;refine nJ (v:=.bool true) (f:=122) (cap:=[]) rfl call122 rfl rfl rfl (λW hS=>Ui h4 W) ?_;refine B 6 ?_;refine rv rfl rfl rfl (rY underlying9 rfl) ?_;exact Kz.p):P:=h ⟨k⟩
theorem GM (k:Q) (h:ZW Q->P:=by intro Kz;refine zwf ?_;refine B 3 ?_;exact Kz.p):P:=h ⟨k⟩
theorem Tv (k:Q) (h:ZW Q->P:=by intro Kz;refine B 11 ?_;refine yk ?_;refine zue ?_;exact Kz.p):P:=h ⟨k⟩
theorem zhi (k:Q) (h:ZW Q->P:=by intro Kz;refine enter (vs:=[_,_,_]) func178 rfl ntmps178 rfl ?_;refine B 10 ?_;refine QB ?_;refine B 10 ?_;refine zpg ?_;refine B 9 ?_;exact Kz.p):P:=h ⟨k⟩
theorem zii (k:Q) (h:ZW Q->P:=by intro Kz;refine rr (.int .i64 c.cb) (aa isAgg3 rfl A0 aP aX trivial rfl) ?_;refine OT ?_;exact Kz.p):P:=h ⟨k⟩
theorem zji (k:Q) (h:ZW Q->P:=by intro Kz;refine rr (.agg (aZ G)) (af isAgg57 sizeOf57 rfl A1 aI aE zL rfl) ?_;exact Kz.p):P:=h ⟨k⟩
theorem VP (k:Q) (h:ZW Q->P:=by intro Kz;refine B 2 ?_;refine zCg ?_;refine B 1 ?_;refine OM ?_;refine B 1 ?_;refine Qw ?_;refine B 4 ?_;exact Kz.p):P:=h ⟨k⟩
theorem wY (k:Q) (h:ZW Q->P:=by intro Kz;refine B 7 ?_;refine mD ?_;exact Kz.p):P:=h ⟨k⟩
theorem Iw (k:Q) (h:ZW Q->P:=by intro Kz;refine B 6 ?_;refine ay results139 rfl A0 ?_;exact Kz.p):P:=h ⟨k⟩
theorem PQ (k:Q) (h:ZW Q->P:=by intro Kz;refine GR ?_;refine B 5 ?_;exact Kz.p):P:=h ⟨k⟩
theorem zoi (k:Q) (h:ZW Q->P:=by intro Kz;refine L5 ?_;refine zKf ?_;refine S2 ?_;refine B 9 ?_;refine z9f ?_;refine rq (.bool false) (dP rfl) (by rw[hf];rfl) ?_;exact Kz.p):P:=h ⟨k⟩
theorem RJ (k:Q) (h:ZW Q->P:=by intro Kz;refine WE ?_;refine Wl ?_;refine B 3 ?_;exact Kz.p):P:=h ⟨k⟩
theorem PM (k:Q) (h:ZW Q->P:=by intro Kz;refine DC ?_;refine B 11 ?_;exact Kz.p):P:=h ⟨k⟩
theorem Ze (k:Q) (h:ZW Q->P:=by intro Kz;refine B 1 ?_;refine nmc rfl ?_;refine B 4 ?_;exact Kz.p):P:=h ⟨k⟩
theorem Iy (k:Q) (h:ZW Q->P:=by intro Kz;refine zHe ?_;refine B 7 ?_;refine zDe ?_;exact Kz.p):P:=h ⟨k⟩
theorem WN (k:Q) (h:ZW Q->P:=by intro Kz;refine RY ?_;refine B 5 ?_;refine z5e ?_;exact Kz.p):P:=h ⟨k⟩
theorem IJ (k:Q) (h:ZW Q->P:=by intro Kz;refine B 6 ?_;refine yk ?_;exact Kz.p):P:=h ⟨k⟩
theorem Jk (k:Q) (h:ZW Q->P:=by intro Kz;refine zNe ?_;refine B 2 ?_;exact Kz.p):P:=h ⟨k⟩
theorem zwi (k:Q) (h:ZW Q->P:=by intro Kz;refine enter (vs:=[_,_]) func257 rfl ntmps257 rfl ?_;refine B 3 ?_;exact Kz.p):P:=h ⟨k⟩
theorem zxi (k:Q) (h:ZW Q->P:=by intro Kz;refine call (v:=.bool true) call6 rfl rfl rfl (λW hS=>nli hZ W (hg.old hS A3 zU trivial)) ?_;refine B 9 ?_;refine zog ?_;exact Kz.p):P:=h ⟨k⟩
theorem Ta (k:Q) (h:ZW Q->P:=by intro Kz;refine B 8 ?_;refine mD ?_;exact Kz.p):P:=h ⟨k⟩
theorem zzi (k:Q) (h:ZW Q->P:=by intro Kz;refine call call177 rfl rfl rfl (λW hS=>nzi _ _ zM zM zM zM W) ?_;refine B 11 ?_;refine zph ?_;exact Kz.p):P:=h ⟨k⟩
theorem zAi (k:Q) (h:ZW Q->P:=by intro Kz;refine XQ ?_;refine B 6 ?_;refine XQ ?_;refine B 3 ?_;refine rv rfl rfl rfl (ag isAgg34 sizeOf34 rfl A0 aJ aD zL (aT rfl)) ?_;refine B 1 ?_;refine rv rfl rfl rfl (ag isAgg34 sizeOf34 rfl A1 aI aE zL (aT rfl)) ?_;exact Kz.p):P:=h ⟨k⟩
theorem zBi (k:Q) (h:ZW Q->P:=by intro Kz;refine B 13 ?_;refine FB ?_;refine B 7 ?_;refine Sx ?_;refine B 5 ?_;exact Kz.p):P:=h ⟨k⟩
theorem zCi (k:Q) (h:ZW Q->P:=by intro Kz;refine Wl ?_;refine B 2 ?_;refine ng (E':=[(0,_),(2,_),(7,_),(17,_),(18,_),(19,_),(20,_),(21,_),(22,_)]) zR ?_;exact Kz.p):P:=h ⟨k⟩
theorem ZX (k:Q) (h:ZW Q->P:=by intro Kz;refine B 4 ?_;refine ng (E':=[(0,_),(1,_),(3,_),(4,_)]) zR ?_;exact Kz.p):P:=h ⟨k⟩
theorem zEi (k:Q) (h:ZW Q->P:=by intro Kz;refine zRe ?_;refine S2 ?_;refine B 8 ?_;refine zye ?_;exact Kz.p):P:=h ⟨k⟩
theorem Py (k:Q) (h:ZW Q->P:=by intro Kz;refine B 5 ?_;refine zYe ?_;refine B 1 ?_;exact Kz.p):P:=h ⟨k⟩
theorem zGi (k:Q) (h:ZW Q->P:=by intro Kz;refine DC ?_;refine B 4 ?_;refine DC ?_;refine B 3 ?_;refine DC ?_;refine B 3 ?_;refine rv rfl rfl rfl (uu rfl rfl) ?_;refine B 2 ?_;refine ZT ?_;exact Kz.p):P:=h ⟨k⟩
theorem ME (k:Q) (h:ZW Q->P:=by intro Kz;refine B 7 ?_;refine Ar ?_;exact Kz.p):P:=h ⟨k⟩
theorem zIi (k:Q) (h:ZW Q->P:=by intro Kz;refine OJ.off rfl (aT rfl) rfl ?_;refine OJ.off rfl (aT rfl) rfl ?_;refine B 6 ?_;refine zGh ?_;refine mD ?_;refine z1f ?_;exact Kz.p):P:=h ⟨k⟩
theorem XO (k:Q) (h:ZW Q->P:=by intro Kz;refine B 13 ?_;refine WC ?_;refine B 9 ?_;exact Kz.p):P:=h ⟨k⟩
theorem zKi (k:Q) (h:ZW Q->P:=by intro Kz;refine B 6 ?_;refine zse ?_;refine zff ?_;refine B 3 ?_;refine RQ ?_;exact Kz.p):P:=h ⟨k⟩
theorem zLi (k:Q) (h:ZW Q->P:=by intro Kz;refine B 5 ?_;refine OJ.defer (cap:=[ptr b5 0]) rfl rfl ?_;refine B 5 ?_;exact Kz.p):P:=h ⟨k⟩
theorem zMi (k:Q) (h:ZW Q->P:=by intro Kz;refine rv rfl rfl rfl (qu rfl rfl) ?_;refine B 1 ?_;refine kq (i:=0) rfl sizeOf229 rfl rfl rfl rfl (aT rfl) rfl ?_;exact Kz.p):P:=h ⟨k⟩
theorem KY (k:Q) (h:ZW Q->P:=by intro Kz;refine B 2 ?_;refine wD ?_;exact Kz.p):P:=h ⟨k⟩
theorem zOi (k:Q) (h:ZW Q->P:=by intro Kz;refine zng ?_;refine call call209 rfl rfl rfl (λW hS=>nfg x.w W) (v:=.int .i64 (Jq x.w)) ?_;refine B 4 ?_;exact Kz.p):P:=h ⟨k⟩
theorem zPi (k:Q) (h:ZW Q->P:=by intro Kz;refine B 8 ?_;refine zbf ?_;refine z3e ?_;refine IJ ?_;refine B 7 ?_;refine zbf ?_;refine zzf ?_;exact Kz.p):P:=h ⟨k⟩
theorem zQi (k:Q) (h:ZW Q->P:=by intro Kz;refine UO ?_;refine B 5 ?_;refine rr (.agg IZ) (aK (i:=0) rfl isAgg81 sizeOf81 rfl rfl) ?_;exact Kz.p):P:=h ⟨k⟩
theorem zRi (k:Q) (h:ZW Q->P:=by intro Kz;refine enter (vs:=[_,_]) func221 rfl ntmps221 rfl ?_;refine B 3 ?_;exact Kz.p):P:=h ⟨k⟩
theorem zSi (k:Q) (h:ZW Q->P:=by intro Kz;refine zhf ?_;refine B 1 ?_;refine nJ (f:=260) (cap:=[]) rfl call260 rfl rfl rfl (λW hS=>nrl x d W) ?_;exact Kz.p):P:=h ⟨k⟩
theorem zTi (k:Q) (h:ZW Q->P:=by intro Kz;refine ntl (vs:=[_,_]) Gh.no [] func25 rfl ntmps25 rfl (rR w) ?_;refine B 2 ?_;refine KM rfl rfl rfl ?_;exact Kz.p):P:=h ⟨k⟩
theorem P9 (k:Q) (h:ZW Q->P:=by intro Kz;refine B 4 ?_;refine z8e ?_;exact Kz.p):P:=h ⟨k⟩
theorem WQ (k:Q) (h:ZW Q->P:=by intro Kz;refine B 3 ?_;refine aY zeroValue38 rfl rfl ?_;exact Kz.p):P:=h ⟨k⟩
theorem XN (k:Q) (h:ZW Q->P:=by intro Kz;refine B 5 ?_;refine wD ?_;refine B 7 ?_;exact Kz.p):P:=h ⟨k⟩
theorem ZR (k:Q) (h:ZW Q->P:=by intro Kz;refine enter (vs:=[_]) func231 rfl ntmps231 rfl ?_;refine B 3 ?_;exact Kz.p):P:=h ⟨k⟩
theorem OR (k:Q) (h:ZW Q->P:=by intro Kz;refine B 3 ?_;refine L7 iM ?_;exact Kz.p):P:=h ⟨k⟩
theorem La (k:Q) (h:ZW Q->P:=by intro Kz;refine zYf ?_;refine B 3 ?_;exact Kz.p):P:=h ⟨k⟩
theorem z0i (k:Q) (h:ZW Q->P:=by intro Kz;refine enter (vs:=[_]) func60 rfl ntmps60 rfl ?_;refine B 3 ?_;exact Kz.p):P:=h ⟨k⟩
theorem VK (k:Q) (h:ZW Q->P:=by intro Kz;refine B 3 ?_;refine zBg ?_;refine Qz ?_;exact Kz.p):P:=h ⟨k⟩
theorem P8 (k:Q) (h:ZW Q->P:=by intro Kz;refine zmg ?_;refine B 3 ?_;exact Kz.p):P:=h ⟨k⟩
theorem z3i (h:P:=by first|exact nb (λh=>absurd h.fo gM)|exact nb (λh=>by have:=h.e1;omega)|exact nb (λh=>by have:=h.e2;omega)|exact nb (λh=>absurd h.au gM)|exact nb (λh=>absurd h.ch zlb)|exact nb (λh=>by have:=h.pl;omega)|exact nb (λh=>by have:=h.bl;omega)|exact nb (λh=>by have:=h.wl;omega)|exact nb (λh=>by have:=D2.2 (h.path _ _ hy);omega)|exact nb (λh=>by have h9:=h.box _ _ hx;have h8:=h9.1;have h7:=ny.2 h9.2;omega)|exact nb (λh=>by have h9:=h.wel _ _ hx;exact h1 h9.1)|exact nb (λh=>by have h9:=h.wel _ _ hx;have h8:=ny.2 h9.2.2;omega)|exact nb (λh=>by have h9:=(h.wel _ _ hx).2.1 y zM hy;omega)|exact nob ⟨by assumption,by omega,by omega,by assumption,by assumption,by omega,by omega,by omega,hA1,hA2,er.all zM⟩):P:=h
theorem VQ (h:P:=by
  first|(have VH:=hd.stop fQ zM;obtain⟨q2,rfl⟩:∃q2,q2=q:=⟨_,rfl⟩)|(have VH:=VO zM zM aE aD fQ zM;generalize q-1=q2 at *)
  rw[ON]at VH
  obtain⟨r0,hr0⟩:∃z,(r1*2^32+v0)%Y=z:=⟨_,rfl⟩
  have agC:r0<Y:=by rw[<-hr0];exact Nat.mod_lt _ zM
  have hz0:q2*Y+r0=r1*2^32+v0:=by have:=wx (r1*2^32+v0) Y;rw[VH,hr0,ts]at this;exact this
  have bT:u*2^64+v=(q1*2^32+q2)*Y+r0:=by have:=n7b u v Y r1 ztc;rw[show v/2^32=v1 from hv1,show v%2^32=v0 from hv0,tS,VH,hr0]at this;exact this
  obtain⟨uw,wH⟩:=n6b hi lo y s (q1*2^32+q2) r0 zDc zgc
  have agE:=pF.small (un:=v1) fQ VL ED
  rw[ON,tS]at agE
  have agF:=pF.small (un:=v0) fQ qg oP
  rw[ON,VH]at agF
  refine zPg ?_
  refine nS results178 rfl rfl A0 ?_ ?_
  · rw[uw];exact vu zHb
  · rw[wH]
 ):P:=h
theorem az (h:P:=by exact absurd (show false=true from hr) zQ):P:=h
theorem Xf (h:P:=by
  refine zBf ?_
  first|exact vi (njd er zM)|exact vi (nQ hx (λg=>by have g1:=g.1;have g2:=g.2.1;omega))|exact vi (nQ hx (λg=>by have g3:=g.2.2.1 y zM hy;omega))|exact vi (nQ hx (λg=>Pm (x:=x.pub) FH g.2.2.2.1))|exact vi (nQ hx (λg=>by have g5:=(n4c _).2 g.2.2.2.2;simp_all))
 ):P:=h
theorem PZ (h:P:=by
  refine ay results90 rfl A1 ?_
  first|exact vi (if_pos ⟨h1,h2,h3,h4,h5⟩).symm|exact vi (if_neg (λh=>h1 h.1)).symm|exact vi (if_neg (λh=>h2 h.2.1)).symm|exact vi (if_neg (λh=>h3 h.2.2.1)).symm|exact vi (if_neg (λh=>h4 h.2.2.2.1)).symm|exact vi (if_neg (λh=>h5 h.2.2.2.2)).symm
 ):P:=h
theorem z8i (h:P:=by
  refine ss rfl rfl ?_ ?_
  · intro cv L' H' hl hP F Q' hk
    obtain rfl:=jt hl
    obtain⟨rfl,rfl⟩:=hP
    refine zjf ?_
    rintro W_ ⟨ta_,tc_⟩ w_ VI hB_ ⟨h1_,h2_⟩
    have hs_:=(VI.links wm A0).size
    exact OJ.done (hk _ _ _ ⟨ta_,tc_,w_,rfl,rfl,rfl,h1_,λb off e=>(h2_ b off e).imp id (λh=>h.imp id (λh=>aS hs_ h)),aS hs_ hB_.size⟩)
  refine ss rfl rfl ?_ ?_
  · intro cv L' H' hl hP F Q' hk
    obtain⟨v1,rfl⟩:=di hl
    obtain⟨ta,tc,wr,rfl,rfl,rfl,oL,eX,mH⟩:=hP
    refine z7e ?_
    intro r_ PI pU
    exact OJ.done (hk _ _ _ ⟨ta,tc,wr,r_,rfl,rfl,rfl,rfl,oL,eX,mH,PI,pU,Rw.ge_of PI A0⟩)
  refine ss rfl rfl ?_ ?_
  · intro cv L' H' hl hP F Q' hk
    obtain⟨v1,v2,rfl⟩:=ju hl
    obtain⟨ta,tc,wr,r8,rfl,rfl,rfl,rfl,oL,eX,mH,kI,eT,eU⟩:=hP
    refine B 1 ?_
    exact OJ.done (hk _ _ _ ⟨ta,tc,wr,r8,rfl,rfl,rfl,rfl,rfl,oL,eX,mH,kI,eT,eU⟩)
  refine ss rfl rfl ?_ ?_
  · intro cv L' H' hl hP F Q' hk
    obtain⟨v1,v2,v3,rfl⟩:=gp hl
    obtain⟨ta,tc,wr,r8,rfl,rfl,rfl,rfl,rfl,oL,eX,mH,kI,eT,eU⟩:=hP
    refine B 1 ?_
    exact OJ.done (hk _ _ _ ⟨ta,tc,wr,r8,rfl,rfl,rfl,rfl,rfl,rfl,oL,eX,mH,kI,eT,eU⟩)
  refine ss rfl rfl ?_ ?_
  · intro cv L' H' hl hP F Q' hk
    obtain⟨v1,v2,v3,v4,rfl⟩:=qz hl
    obtain⟨ta,tc,wr,r8,rfl,rfl,rfl,rfl,rfl,rfl,oL,eX,mH,kI,eT,eU⟩:=hP
    refine kq (i:=0) rfl sizeOf55 rfl rfl rfl rfl (aT rfl) (Rw.val_one2 _ _) ?_
    exact OJ.done (hk (.tuple #[]) _ _ ⟨ta,tc,wr,r8,rfl,rfl,rfl,rfl,rfl,rfl,rfl,oL,eX,mH,kI,eT,eU⟩)
  exact Yj
 ):P:=h
theorem z9i (h:P:=by
  refine zAe ?_
  refine nK 11 [4] [([],some _),([0],some (.slice G.ma G.g.ms.length G.mc)),([],some _),([2],some (.agg #[.slice G.na G.g.ns.length G.nc])),([3],none),([],some _),([1,4,5],some (.bool false)),([6],some _),([7],some undef),([7,8],some undef),([7],some undef)] (λcv L' H'=>match cv with| []=>L'=[w1,w]/\H'=[]| [v1]=>∃(a7:Option Addr) (c7:Nat) (w7:World),v1= .slice a7 (dm G.g.ns).length c7/\L'=[w7,w1,w]/\H'=[]/\ah (λx=>(ai x).toArray) 1 w7.heap.size w7 a7 (dm G.g.ns)|_=>False) zT ⟨rfl,rfl⟩ zT zT zT zT zT zT (pc SL (pc Jn (pc SM (pc Jn (pk (pc zW (pc (λcv L' H' hd hP=>match cv,hd,hP with| [],hd,hP=>(absurd (show false=true from hd) zQ)| [v1],hd,hP=>znd|_::_::_,_,hP=>hP.elim) (pc zW (pc pw (pc pw (pc pw (pn)))))))))))) ?_ ?_
  · refine sc rfl rfl rfl ?_ ?_
    · intro cv L' H' hl hP F Q' hk
      obtain rfl:=jt hl
      obtain⟨rfl,rfl⟩:=hP
      refine zMe ?_
      intro W7 a7 c7 w7 hS7 hB7 iD pN
      exact OJ.done (hk _ _ _ ⟨a7,c7,w7,rfl,rfl,rfl,iD⟩)
    exact sn
  · intro cv L' H' hl hP
    obtain⟨v1,rfl⟩:=di hl
    obtain⟨a7,c7,w7,rfl,rfl,rfl,iD⟩:=hP
    refine B 7 ?_
    refine ay results144 rfl A2 ?_
    exact LS (λh=>h1 h.2.2.1)
 ):P:=h
theorem zaj (h:P:=by
  have hv:∀W2,∀w∈L,∀k,oO V W1 W2 k->V k\/w.heap.size<=k:=λW2 w hw k hk=>by
    rcases hk with hk|hk
    · exact .inl hk
    · have:=(hS.links w hw).size;exact .inr zM
  refine⟨fn,tmps,assign,body,gv,gw.mono ?_⟩
  rintro e W2 ⟨b,rfl,hk,hb⟩
  refine⟨b,rfl,by rw[(hT _).1];exact hk,?_⟩
  have nx:∀{R:World->Prop} (hR:eC (λk=>(k<W0.heap.size/\¬MI k)\/(oO V W1 W2) k) R),R W2->Next (T (cj hM V hI)) W1 W2 (T (cj hM (oO V W1 W2) hR)):=λ{R} hR hb=>by
    refine⟨λk h=>?_,λk h=>?_,λk h=>?_,by rw[(hT _).2.2.1];exact hb⟩
    · rw[(hT _).2.2.2]at h ⊢
      rcases h with(h|h)|h
      · exact .inl (.inl h)
      · exact .inl (.inr (.inl h))
      · exact .inr h
    · rw[(hT _).2.2.2]at h ⊢
      rcases h with(h|h|h)|h
      · exact .inl (.inl (.inl h))
      · exact .inl (.inl (.inr h))
      · exact .inr h
      · exact .inl (.inr h)
    · rw[(hT _).2.1]at h ⊢
      rcases h with h|h|h
      · exact .inl (.inl h)
      · exact .inl (.inr h)
      · exact .inr h
  cases b with
  |true=>exact⟨_,⟨_,λk h=>.inl h,hv W2,rfl⟩,nx (kP _) hb⟩
  |false=>exact⟨_,⟨_,λk h=>.inl h,hv W2,rfl⟩,nx (fl _) hb⟩
 ):P:=h
theorem SR (h:P:=by
  refine ztg ?_
  show Value.bool _=Value.bool _
  refine vb ?_
  first|(have h1b:(gZ G.g.ms au != decide (0<G.g.epoch))=true:=AY;unfold pf;rw[h1b];rfl)|(have h1b:(gZ G.g.ms au != decide (0<G.g.epoch))=false:=AY;unfold pf;rw[h1b];simp_all)
 ):P:=h
theorem zdj (h:P:=by
  rw[H6,H6,hu]
  have eN:look (bP ops sp ch cv ds) t=none:=by
    have:∀js,(∀j∈js,j<nA)->look (bP ops sp ch cv js) t=none:=by
      intro js
      induction js with
      |nil=>intro _;rfl
      |cons j js ih=>
        intro gy
        have ve:=ih λj' u9=>gy j' (by simp[u9])
        unfold bP
        cases Ol:(ops[j]?).bind (·.dst)with
        |none=>exact ve
        |some d'=>
          obtain⟨oj,Om,vf⟩:=Vj.1 Ol
          have vg:d'≠t:=λe'=>by
            subst e'
            rw[ok.apart j oj d' (gy j z1) Om vf]at hu;cases hu
          simp only[look,yB vg]
          exact ve
    exact this ds (λj hj=>by have:=(pD j hj).2;omega)
  rw[eN];rfl
 ):P:=h
theorem zej (h:P:=by
  intro js
  induction js with
  |nil=>intro h;cases h
  |cons j js ih=>
    intro Y7 gy
    unfold bP
    by_cases ej:j=q
    · subst ej
      simp only[jm,Option.bind_some,lC,look,yC]
    · have agJ:q∈js:=by
        rcases cP.1 Y7 with h|h
        · exact absurd h.symm ej
        · exact h
      have ve:=ih agJ λj' u9=>gy j' (by simp[u9])
      cases Ol:(ops[j]?).bind (·.dst)with
      |none=>exact ve
      |some dj=>
        obtain⟨oj,Om,vf⟩:=Vj.1 Ol
        have vg:dj≠d':=λe'=>ej (ok.uniq j q oj o' dj (gy j z1) Ew Om jm vf (e'▸lC))
        simp only[look,yB vg]
        exact ve
 ):P:=h
theorem zfj (h:P:=by
  refine sc rfl rfl rfl ?_ ?_
  · intro cv L' H' hl hP F Q' hk
    obtain rfl:=jt hl
    obtain⟨rfl,rfl⟩:=hP
    refine zMe ?_
    intro W7 a7 c7 w7 hS7 hB7 iD pN
    exact OJ.done (hk _ _ _ ⟨a7,c7,w7,rfl,rfl,rfl,iD⟩)
  exact sn
 ):P:=h
theorem XU (h:P:=by
  refine sc rfl rfl rfl ?_ ?_
  · intro cv L' H' hl hP F Q' hk
    obtain rfl:=jt hl
    obtain⟨rfl,rfl⟩:=hP
    refine zKe ?_
    intro W_ a_ c_ w_ VI hB_ agK VJ
    have hq_:=(VI.links wn A0).size
    exact OJ.done (hk _ _ _ ⟨a_,c_,w_,rfl,rfl,rfl,agK,λq e=>aS hq_ (VJ q e)⟩)
  exact sn
 ):P:=h
theorem SQ (h:P:=by exact PJ.mid ⟨(congrArg (λb=>some (Value.bool b)) zxb),rfl,rfl,rfl,rfl,rfl,rfl,rfl,rfl,rfl,rfl,rfl,rfl,rfl,trivial⟩):P:=h
theorem zij (h:P:=by
  intro js
  induction js with
  |nil=>intro _ _;rfl
  |cons j js ih=>
    intro gy Y7
    have ve:=ih (λj' u9=>gy j' (by simp[u9])) (λh=>Y7 (by simp[h]))
    unfold bP
    cases Ol:(ops[j]?).bind (·.dst)with
    |none=>exact ve
    |some dj=>
      obtain⟨oj,Om,vf⟩:=Vj.1 Ol
      have vg:dj≠d':=λe'=>Y7 (by
        have:=ok.uniq j q oj o' dj (gy j z1) Ew Om jm vf (e'▸lC)
        simp[this])
      simp only[look,yB vg]
      exact ve
 ):P:=h
theorem zjj (h:P:=by
  refine⟨G'.stab A B hA.ghost ho ht o7 hs (λk hv=>ee k (fN.v k hv)),λk hv=>kQ (hA.vlt k hv) hs,λk hv=>kQ (hA.xlt k hv) hs,λw hw=>?_,λp hp=>?_,hA.nodup,hA.apart⟩
  · have h1:=hA.links w hw
    exact⟨ho.trans h1.os,ht.trans h1.tape,o7.trans h1.output,aS h1.size hs,λk hk hx=>(ee k (.inl ⟨kQ hk (mw.links w hw).size,λhm=>by have:=(lB k hm).2.1.mem w hw;omega⟩)).trans (h1.block k hk hx)⟩
  · have hq:M p.1\/V p.1:=by
      simp only[book,cS,cP,fm,or_false]at hp
      rcases hp with hp|rfl|rfl
      · exact fN.h p hp
      · exact .inl (.inr (.inr (.inr rfl)))
      · exact .inl (.inr (.inr (.inl rfl)))
    rw[ee p.1 (hq.imp (λh=>⟨(xR _ h).1,(xR _ h).2.1⟩) id)];exact hA.own p hp
 ):P:=h
theorem Tt (h:P:=by
  refine PQ ?_
  exact bJ (.inl rfl) results101 (RS.wA (i:=0) rfl isAgg57 sizeOf57 rfl (aT rfl) (RS.t rfl RS.n)) λW hS=>⟨kS,rfl,hS.base A2 zS,rfl,Ts _ _,λq h=>D8,λq h=>D8⟩
 ):P:=h
theorem Gs (h:P:=by
  intro aQ
  refine B 7 ?_
  refine PJ.again (j+1) ⟨by omega,er.next hx qC⟩ zM zR rfl rfl z1
 ):P:=h
theorem Xr (h:P:=by
  refine z4g ?_
  first|exact nAh er zM|exact nvc hx (λg=>by have g1:=g.1.1;rw[<-LW,<-LX]at g1;exact absurd g1 gM)|exact nvc hx (λg=>absurd g.1.2 gM)|exact nvc hx (λg=>by have g1:=g.2;simp_all)
 ):P:=h
theorem znj (h:P:=by
  intro a W hI
  obtain⟨x,hx,jk,hN,hD,hF,hS⟩:=nQe hI
  refine wpIn_mono (round x jk a W hN hD hF hS) ?_
  intro e a' W' hq
  cases e with
  |normal=>
    obtain⟨x',agM,hlt,h1,h2,h3,h4⟩:=hq
    have YT:Inv a' W' (μ x'):=⟨x',rfl,agM,h1,h2,h3,h4⟩
    exact⟨⟨_,YT⟩,by have:=npg YT;omega⟩
  |_=>exact hq
 ):P:=h
theorem zoj (h:P:=by
  refine sc rfl rfl rfl ?_ ?_
  · intro cv L' H' hl hP F Q' hk
    obtain rfl:=jt hl
    obtain⟨rfl,rfl⟩:=hP
    refine zQe ?_
    rintro W_ b_ w_ VI hB_ ⟨hq_,hb_⟩
    try dsimp only at hq_ hb_
    have hs_:=(VI.links wn A1).size
    exact OJ.done (hk _ _ _ ⟨b_,w_,rfl,rfl,rfl,hb_,by omega⟩)
  exact sn
 ):P:=h
theorem Iz (h:P:=by
  refine B 2 ?_
  refine PJ.again (q-1,r+y1) ⟨aE,by omega,aD,by omega⟩ zHc zR rfl rfl z1
 ):P:=h
theorem Qe (h:P:=by
  refine ay results34 rfl A1 ?_
  first|exact vb zgd|exact vb zbd|exact vb z5b
 ):P:=h
theorem zrj (h:P:=by
  intro k' c hc
  show((cd.setIfInBounds i true).getD c false=true↔_)
  rw[dB cd i c rk hi]
  by_cases e:c=i
  · subst e
    rw[if_pos rfl]
    have h1':=Od ch k' c hc lD
    have h2':=Od ch k c hk lD
    have:k'=k:=by omega
    subst this
    exact⟨λ_=>⟨v,by rw[J7 zM]⟩,λ_=>rfl⟩
  · rw[if_neg e,h7 k' c hc]
    have dG:k≠k':=λe'=>e (by subst e';rw[hk]at hc;cases hc;rfl)
    rw[HY dG]
 ):P:=h
theorem VY (h:P:=by
  refine nS results62 rfl rfl A0 ?_ ?_
  all_goals(refine vi ?_;unfold gExp;first|(simp only[if_neg hg];done)|(rw[if_pos hg];first|(rw[if_neg zM];done)|(rw[if_pos zM];done)))
 ):P:=h
theorem ztj (h:P:=by
  refine B 6 ?_
  have bT:=ndn (l:=cH d) (i:=i) zM (iT (dc ns) (512+d))
  rw[bT]at uK ⊢
  refine B 9 ?_
  refine bJ (.inl rfl) results218 (RS.t rfl (RS.t rfl (RS.t rfl RS.n))) λW hS=>⟨bf,mi,ap,lV,rfl,hS.base A2 wE,by omega,uK,hS.own _ A0,qH.blk λb off aP aI=>?_,λq hq=>?_⟩
  · have h1:=pO _ aP
    dsimp only at h1
    exact⟨kQ aI (hS.links wp A0).size,(hS.links wp A0).block b aI (by simp[Gh.no];omega)⟩
  · have h1:=pO _ hq
    have h2:=(xf.links w A1).size
    exact⟨by omega,by omega⟩
 ):P:=h
theorem zuj (h:P:=by
  refine sc rfl rfl rfl ?_ ?_
  · intro cv L' H' hl hP F Q' hk
    obtain rfl:=jt hl
    obtain⟨rfl,rfl⟩:=hP
    refine z4f ?_
    rintro Wm bm wm AF Sy ⟨mA,jh⟩
    try dsimp only at mA jh
    have lm5:=AF.lt (b5,_) A0
    have lm4:=AF.lt (b4,_) A1
    have lml:=AF.lt (l,.loop {rec with state:=.busy}) vk
    try dsimp only at lm5 lm4 lml
    exact OJ.done (hk _ _ _ ⟨bm,wm,rfl,rfl,rfl,jh,(aL.1 jh).1,⟨by omega,by omega,by omega⟩,λhx=>by have:=AF.xlt bm hx;omega⟩)
  exact sn
 ):P:=h
theorem zvj (h:P:=by
  refine B 14 ?_
  refine mD ?_
  refine PJ.again ((i2+1,cur.set i2 x),j+1) ⟨by dsimp only;omega,by dsimp only;omega,by dsimp only;rw[Ht];exact mj,by dsimp only;rw[n9d zM,D7,Tl hx,if_neg qC],by dsimp only;rw[nhf zM];exact GK⟩ dE zR rfl rfl z1
 ):P:=h
theorem zwj (h:P:=by
  refine zWh ?_
  refine B 5 ?_
  exact nT (enc:=sG) (m:=4) (t:=164) (xs:=[]) (H0:=[(b6,.cells #[.slice none 0 0] 96 (0,0))]) (H1:=[]) (r:=.nil) (.inl rfl) results146 (RS.w (i:=0) rfl isAgg96 rfl rfl (RS.t rfl RS.n)) A1 z0c rfl rfl True.intro rfl
 ):P:=h
theorem zxj (h:P:=by
  rintro k (hk|hk|hk|hk)
  · exact⟨mw.xlt k hk,λh=>(lB k h).2.2.2.2 hk,λh=>(mE W hS k h).2.2 hk⟩
  · exact⟨by obtain⟨p,hp,rfl⟩:=bU.1 hk;have:=hS.lt p hp;omega,λh=>(lB k h).2.2.1 hk,λh=>(mE W hS k h).2.1 hk⟩
  · exact⟨by omega,λh=>by have:=(lB k h).1;omega,λh=>by have:=(mE W hS k h).1;omega⟩
  · exact⟨by omega,λh=>by have:=(lB k h).1;omega,λh=>by have:=(mE W hS k h).1;omega⟩
 ):P:=h
theorem zyj (h:P:=by
  obtain⟨a1,c1,a2,c2,ds,w9,rfl,rfl,rfl,rfl,rfl,gX,gY,eO,eY,qB,mF⟩:=hP
  refine B 1 ?_
  exact OJ.done (hk _ _ _ ⟨a1,c1,a2,c2,ds,w9,rfl,rfl,rfl,rfl,rfl,rfl,gX,gY,eO,eY,qB,mF⟩)
 ):P:=h
theorem XA (h:P:=by
  refine ay results209 rfl A1 ?_
  first|exact S3 (λh=>by have h1:=D2.2 h.1;have h2:=h.2;omega)|exact nXi ⟨D2.1 zM,by omega,by omega⟩
 ):P:=h
theorem zAj (h:P:=by
  refine B 5 ?_
  obtain⟨bq,oq,Xb,tq,Xc,rfl,Xd,sx,sy⟩:=qH.get zM
  have AH:=pO _ rfl
  dsimp only at AH
  obtain⟨n,hy⟩:=nj (cH d) i zM
  refine B 2 ?_
  refine zdh ?_
  refine B 6 ?_
  refine zyf ?_
  intro m3 aD
  refine B 7 ?_
  refine PJ.again (m3,i+1) ⟨by dsimp only;omega,by rw[nig hy];exact aD⟩ dE zR (by rw[nig hy];rfl) rfl z1
 ):P:=h
theorem Zv (h:P:=by
  refine nS results69 rfl rfl A1 ?_ ?_
  all_goals(refine vi ?_;unfold oS;first|(rw[if_neg hg];done)|(rw[if_pos hg];first|(rw[if_neg aQ];done)|(rw[if_pos aQ];done)))
 ):P:=h
theorem ZS (h:P:=by
  intro b4 dD dH
  replace dD:=yb dD
  replace dH:=yc dH
  refine zSg ?_
  rfl
 ):P:=h
theorem zDj (h:P:=by
  intro aQ
  refine Ta ?_
  refine PJ.again ((i2,cur),j+1) ⟨by dsimp only;omega,by dsimp only;omega,mj,by dsimp only;rw[D7,Tl hx,if_pos qC,dN],GK⟩ dE zR rfl rfl z1
 ):P:=h
theorem zEj (h:P:=by
  intro we c32 s32 ow agN
  refine OJ.dropF (i:=0) rfl (.inr ⟨by omega,by omega,trivial⟩) ?_
  refine B 8 ?_
  refine PJ.again (ys++y.enc,i+1,we,c32,s32) ⟨by dsimp only;rw[iH,<-hy,<-V.encL_drop l i zM];exact hinv,by dsimp only;omega,ow,by simpa only[Fr,Gh.lent,Gh.no,ab,and_true,false_or]using ow,agN⟩ dE zR rfl rfl z1
 ):P:=h
theorem zFj (h:P:=by
  refine⟨bS.ghost,bS.vlt,λk hk=>?_,λw hw=>?_,bS.own,bS.nodup,bS.apart⟩
  · rcases hk with hk|hk|hk
    · exact bS.xlt k hk
    · exact kQ (xR k hk).1 sk
    · exact(hV k hk).2
  · rcases cP.1 hw with rfl|hw
    · exact aG.refl _ _
    · exact(bS.links w hw).mono λk _ hk=>hk.imp .inl id
 ):P:=h
theorem Jl (h:P:=by exact λW hS=>.inr ⟨j,x,rfl,hx,by assumption,er⟩):P:=h
theorem zHj (h:P:=by
  refine B 7 ?_
  refine z9e ?_
  refine B 5 ?_
  refine zJh ?_
  refine B 2 ?_
  refine PJ.again (k+1,if 128-64*k=64 then o2 else o2+64*1) (by dsimp only;split<;>omega) dE ⟨rfl,rfl,rfl,by rw[show N-64*(k+1)=N-64*k-64 by omega,show 128-64*(k+1)=128-64*k-64 by omega];rfl,trivial⟩ rfl rfl z1
 ):P:=h
theorem DS (h:P:=by
  refine zaf ?_
  unfold nz
  simp[*]
 ):P:=h
theorem zJj (h:P:=by
  refine B 12 ?_
  refine zbh ?_
  intro r bH al
  refine B 1 ?_
  refine zrh ?_
  refine B 4 ?_
  exact nT (enc:=fw) (m:=2) (t:=355) (xs:=[]) (H0:=[(b4,.cells #[r.val (([]:List Nd)).length] 55 (0,0))]) (H1:=[]) (r:=r) (.inl rfl) results221 (RS.wA (i:=0) rfl isAgg55 sizeOf55 rfl (aT rfl) (RS.t rfl RS.n)) A1 zle rfl al (Rw.ge_of bH A1) Xg
 ):P:=h
theorem zKj (h:P:=by
  refine ay results18 rfl A0 ?_
  first|exact vb (by unfold xH;rw[decide_eq_false zM];rfl)|exact vb zne|exact vb zee
 ):P:=h
theorem zLj (h:P:=by
  rw[bF]at hx
  simp only[ga,eF,iz,cS,cP,fm,or_false,Gh.no,false_or]at hx
  rcases hx with hx|hx|hx|hx<;>first|omega|(have:=hq _ hx;omega)
 ):P:=h
theorem zMj (h:P:=by
  refine sc rfl rfl rfl ?_ ?_
  · intro cv L' H' hl hP F Q' hk
    obtain⟨v1,v2,rfl⟩:=ju hl
    obtain⟨bn,rfl,rfl,rfl,rfl,hfn⟩:=hP
    refine IX ?_
    intro b_ GH XF
    exact OJ.done (hk _ _ _ ⟨bn,b_,rfl,rfl,rfl,rfl,rfl,hfn,GH⟩)
  exact sn
 ):P:=h
theorem zNj (h:P:=by exact nT (enc:=ai) (m:=1) (t:=3) (xs:=[]) (H0:=[]) (H1:=[]) (r:=.nil) (.inl rfl) results257 (RS.t rfl (RS.t rfl RS.n)) A1 trivial rfl rfl True.intro rfl):P:=h
theorem zOj (h:P:=by
  unfold wpListIn at Cg
  unfold wpOpIn
  simp only[ho]
  split
  · rename_i hw
    rw[if_pos hw]at Cg
    exact nNf (λa' W' h=>h) (λ_ _ _ h=>h) zZ Cg
  · rename_i hw
    rw[if_neg hw]at Cg
    exact Cg
 ):P:=h
theorem zPj (h:P:=by
  apply Array.ext'
  rw[Pb,jg,<-hlen]
  show gT (ys++sp) ys.length news=_
  have Ic:n*ti.size<=sp.length:=by rw[zE,<-L6,L6];exact uR _ zM
  conv=>lhs;rw[<-yj (n*ti.size) sp]
  rw[WD _ _ _ _ (by rw[kx];omega),iH]
 ):P:=h
theorem zQj (h:P:=by
  refine zdf ?_
  refine B 1 ?_
  refine QT ?_
  refine B 12 ?_
  refine Ar ?_
  refine PJ.again (j+1,m) ⟨by dsimp only;omega,by dsimp only;rw[Cv hx,Np (.inr h8)];exact hm⟩ dE zR (by rw[Cv hx,Np (.inr h8)];rfl) rfl z1
 ):P:=h
theorem Gt (h:P:=by exact λW hS=>.inl ⟨rfl,nNc er zM⟩):P:=h
theorem EH (h:P:=by refine PJ.again (j+1) zM zM zR rfl rfl z1):P:=h
theorem zTj (h:P:=by
  refine B 7 ?_
  refine zMg ?_
  refine B 3 ?_
  have e:i=8:=by omega
  subst e
  refine zTf ?_
  show Value.agg (cut (iO (oU n m (eG n)) 8) 0 32)=_
  rw[YM _ 32 (by rw[iO,y9]),KD];rfl
 ):P:=h
theorem zUj (h:P:=by
  refine sc rfl rfl rfl ?_ ?_
  · intro cv L' H' hl hP F Q' hk
    obtain rfl:=jt hl
    obtain⟨rfl,rfl⟩:=hP
    refine zdg ?_
    rintro Wm bm wm AF Sy ⟨mA,jh⟩
    exact OJ.done (hk _ _ _ ⟨bm,wm,rfl,rfl,rfl,jh⟩)
  exact sn
 ):P:=h
theorem zVj (h:P:=by
  obtain⟨a1,c1,a2,c2,ds,w9,rfl,rfl,rfl,rfl,rfl,rfl,gX,gY,eO,eY,qB,mF⟩:=hP
  refine B 1 ?_
  exact OJ.done (hk _ _ _ ⟨a1,c1,a2,c2,ds,w9,rfl,rfl,rfl,rfl,rfl,rfl,rfl,gX,gY,eO,eY,qB,mF⟩)
 ):P:=h
theorem zWj (h:P:=by
  intro cv L' H' hl hP F Q' hk
  obtain rfl:=jt hl
  obtain⟨rfl,rfl⟩:=hP
  refine O3 [3] bt zeroValue5 rfl rfl rfl rfl rfl rfl rfl rfl rfl ?_
  intro b9 ha ho hx hr
  exact OJ.done (hk _ _ _ ⟨b9,rfl,rfl,rfl,ha.1,ha.2.1⟩)
 ):P:=h
theorem zXj (h:P:=by
  refine wY ?_
  refine PJ.again (j+1) ⟨by omega,er.next hx ⟨Classical.not_not.1 h1,λy0 h0 rQ=>by first|omega|(rw[hy]at rQ;cases rQ;omega),ny.1 zM⟩⟩ zM zR rfl rfl z1
 ):P:=h
theorem UB (h:P:=by
  refine ay results43 rfl A1 ?_
  exact vb zVc
 ):P:=h
theorem zZj (h:P:=by
  obtain⟨a1,c1,a2,c2,ds,w9,rfl,rfl,rfl,rfl,gX,gY,eO,eY,qB,mF⟩:=hP
  refine B 1 ?_
  exact OJ.done (hk _ _ _ ⟨a1,c1,a2,c2,ds,w9,rfl,rfl,rfl,rfl,rfl,gX,gY,eO,eY,qB,mF⟩)
 ):P:=h
theorem z0j (h:P:=by
  refine wY ?_
  refine PJ.again (j+1) ⟨by omega,er.next hx ⟨by omega,by omega,λy0 h0 rQ=>by first|omega|(rw[hy]at rQ;cases rQ;omega),WS FH,(n4c _).1 qC⟩⟩ zM zR rfl rfl z1
 ):P:=h
theorem UP (h:P:=by
  refine ay results7 rfl A1 ?_
  exact vb zAc
 ):P:=h
theorem z2j (h:P:=by refine PJ.again (i+1,u6) ⟨by dsimp only;omega,by dsimp only;omega,Nl,by dsimp only;rw[<-Ys,nnl (cur:=cur) (n:=xs.length) (i:=i) zM,<-hsk];congr 1;try exact(n2l hx hy rn).symm⟩ dE zR rfl rfl z1):P:=h
theorem z3j (h:P:=by
  refine zBi ?_
  exact nT (enc:=fw) (m:=2) (t:=355) (xs:=[]) (H0:=_) (H1:=[]) (r:=.nil) (.inl rfl) results154 (RS.wA (i:=0) rfl isAgg55 sizeOf55 rfl (aT rfl) (RS.t rfl RS.n)) A1 zSc rfl rfl True.intro (dN _).symm
 ):P:=h
theorem z4j (h:P:=by exact OJ.done (hk _ _ _ ⟨q,wr,b4,b5,rfl,rfl,rfl,rfl,rfl,oD,mh,ov,rM,sY,rL,sX,HP,HO⟩)):P:=h
theorem z5j (h:P:=by
  refine nS results310 rfl rfl A0 ?_ ?_
  all_goals first|rfl|(exfalso;apply h;exact⟨by omega,by omega⟩)
 ):P:=h
theorem z6j (h:P:=by
  obtain⟨c,G',Hc,hi,fN,bS⟩:=hX
  refine⟨some c,_,run_endLoop bS.loopAt z1,?_⟩
  exact stop _ _ _ c G' Hc hS.sizes rfl hi _ _ (by simpa using hN) (by simp[hD]) (λt v hv=>hF t v hv) (bS.loop _)
 ):P:=h
theorem z7j (h:P:=by
  intro cv L' H' hl hP F Q' hk
  obtain rfl:=jt hl
  obtain⟨rfl,rfl⟩:=hP
  refine IX ?_
  intro b_ GH XF
  exact OJ.done (hk _ _ _ ⟨b_,rfl,rfl,rfl,GH⟩)
 ):P:=h
theorem z8j (h:P:=by
  rw[if_pos (bU.2 ⟨_,cB h1,rfl⟩)]
  simp only[List.map_set]
  apply vr
  intro j
  rw[X7]
  split
  · rename_i e;subst e
    have hl:=(gA.1 h1).1
    rw[if_pos yq];simp[h1]
  · rfl
 ):P:=h
theorem z9j (h:P:=by
  intro cv L' H' hl hP F Q' hk
  obtain rfl:=jt hl
  obtain⟨rfl,rfl⟩:=hP
  refine zag ?_
  intro km gI dw
  exact OJ.done (hk _ _ _ ⟨km,rfl,rfl,rfl,gI,dw⟩)
 ):P:=h
theorem zak (h:P:=by
  have eJ:W.drew.heap[b]? =some (.cells (ys++sp).toArray e (0,0)):=hb
  rw[YX eJ (by simp only[rU,cC,hlen];omega)]
  unfold cut
  simp only[RL,<-hlen]
  rw[Pc rfl]
 ):P:=h
theorem zbk (h:P:=by
  intro i o ho e he hb
  have:=h3 i (at_ i o ho)
  simp only[ho,fX,pV]at this
  have:=this.1 e (by simpa using he)
  simp only[hb,Bool.not_true,Bool.false_or]at this
  exact nW this
 ):P:=h
theorem zdk (h:P:=by
  refine PQ ?_
  exact bJ (.inl rfl) results101 (RS.wA (i:=0) rfl isAgg57 sizeOf57 rfl (aT rfl) (RS.t rfl RS.n)) λW hS=>⟨kS,rfl,hS.base A3 zS,rfl,Ts _ _,λq h=>D8,λq h=>D8⟩
 ):P:=h
theorem XK (h:P:=by exact⟨rfl,0,_,by rw[alloc_eq_grow,alloc_eq_grow,grow_grow];rfl⟩):P:=h
theorem zfk (h:P:=by
  try simp only[ab]at cA bY
  have Ru:=cA.1
  have K5:=bY.1
  try have aeS:=bY.2.1
  exact λW hS=>⟨by omega,by omega,hS.old A1 aI aE trivial,hS.old A0 aJ aD trivial⟩
 ):P:=h
theorem zgk (h:P:=by
  refine nS results17 rfl rfl A0 ?_ ?_
  all_goals(refine vi ?_;unfold yU;first|(rw[if_neg zM];done)|(rw[if_pos zM];try first|(rw[V6 zM];done)|skip))
 ):P:=h
theorem zhk (h:P:=by exact(hS.links w A2).below (λk hk hx=>by rcases hx with hx|hx;(exact hx);rw[bF]at hx;simp only[book,ga,eF,iz,dC,fk,fj,eg,cS,cP,fm,or_false]at hx;omega)):P:=h
theorem zik (h:P:=by refine PJ.again (r,j+1) ⟨by dsimp only;omega,bH,by rw[nvf hx zM];exact al⟩ dE ⟨rfl,by rw[nvf hx zM];rfl,rfl,rfl,rfl,trivial⟩ (by rw[nvf hx zM];rfl) rfl z1):P:=h
theorem zjk (h:P:=by
  refine B 7 ?_
  refine zkf ?_
  refine B 2 ?_
  refine zzg ?_
  refine B 7 ?_
  refine zqg ?_
  refine PJ.again (i+1) zM zM zR rfl rfl z1
 ):P:=h
theorem zkk (h:P:=by
  replace cY:=ya cY
  refine B 6 ?_
  exact PJ.mid ⟨(congrArg (λb=>some (Value.bool b)) zxb),rfl,rfl,rfl,rfl,rfl,rfl,rfl,rfl,rfl,rfl,trivial⟩
 ):P:=h
theorem zlk (h:P:=by
  intro b7 c7 s7 oH vw
  exact OJ.done (hk _ _ _ ⟨b6,b7,c7,s7,rfl,rfl,rfl,rfl,gm,yh,oH,by simpa only[Fr,Gh.lent,ab,and_true]using oH,vw⟩)
 ):P:=h
theorem zmk (h:P:=by
  induction H with
  |nil=>intro p hp;simp at hp
  |cons q H ih=>
    intro p hp
    simp only[cP]at hp
    rcases hp with rfl|hp
    · exact h.1
    · exact ih h.2 p hp
 ):P:=h
theorem znk (h:P:=by
  refine ay results254 rfl A1 ?_
  exact vb (by unfold Gw;simp_all)
 ):P:=h
theorem zok (h:P:=by
  have h2:(xs.toArray).map a.eval=vs.toArray:=by rw[yD,H3 hF xs vs ha]
  simp only[execOp,resolve,hF.ev hx,Deferred.ofValue,h2]
  simp[invoke,gv]
 ):P:=h
theorem zpk (h:P:=by
  refine B 12 ?_
  refine ay results124 rfl A0 ?_
  first|exact vi (Nc er hx zM)|exact vi (n7m er zM)
 ):P:=h
theorem zqk (h:P:=by
  refine nS results259 rfl rfl A0 ?_ ?_
  all_goals first|(rw[SJ];done)|exact vb (nEl SJ hx)|exact vb (nJj SJ h1)
 ):P:=h
theorem zrk (h:P:=by
  have h1:=(hS.alloc (.deferred (some []))).alloc (.loop rec)
  rw[jF]at h1
  rw[EA]
  exact h1.perm (List.perm_append_comm (l₁:=[_,_]) (l₂:=H))
 ):P:=h
theorem zsk (h:P:=by
  replace aj:=ya aj
  refine B 9 ?_
  refine ay results214 rfl A1 ?_
  exact vb (by unfold qS;rw[xU];first|(simp;omega)|simp)
 ):P:=h
theorem ztk (h:P:=by
  replace aj:=ya aj
  refine B 9 ?_
  refine ay results167 rfl A1 ?_
  exact vb (by unfold uU;rw[xU];first|(simp;omega)|simp)
 ):P:=h
theorem zuk (h:P:=by
  refine nS results67 rfl rfl A1 ?_ ?_
  all_goals(refine vi ?_;unfold qp;first|(rw[if_neg hg];done)|(rw[if_pos hg];done))
 ):P:=h
theorem zvk (h:P:=by
  refine nS results66 rfl rfl A1 ?_ ?_
  all_goals(refine vi ?_;unfold kr;first|(rw[if_neg hg];done)|(rw[if_pos hg];done))
 ):P:=h
theorem zwk (h:P:=by exact FO (.inr rfl) results128 A0 hV zjc (λA hA=>.inl ⟨pre,(by first|(rw[<-tB,n7k hF hq,dN])|(rw[<-tB,npn hF hq QA,dN])),hA⟩)):P:=h
theorem zxk (h:P:=by
  split
  · exact h
  · rename_i hn
    rw[List.nodup_append]
    exact⟨h,by simp,by intro a ha b hb;simp at hb;subst hb;exact λe=>hn (e▸ha)⟩
 ):P:=h
theorem zyk (h:P:=by
  intro i x' y' hi Nf VE
  by_cases e':i=j
  · subst e';rw[hx]at Nf;rw[hy]at VE;cases Nf;cases VE;exact e
  · exact h i x' y' zM Nf VE
 ):P:=h
theorem zzk (h:P:=by
  simp only[execOp,hF.ev hx,hF.ev hy,Sem.run_bind,h1,h2,Result.andThen]
  rfl
 ):P:=h
theorem zAk (h:P:=by
  simp only[book,ga,cS]at hk
  rcases hk with hk|hk
  · exact hH hk
  · obtain⟨p,hp,rfl⟩:=bU.1 hk
    have:=afJ p hp;omega
 ):P:=h
theorem zBk (h:P:=by
  simp only[Rw.val,Value.slice.injEq]at e9
  rw[<-e9.1]at h9;exact h9
 ):P:=h
theorem zCk (h:P:=by
  by_cases hi:i<l.length
  · rw[gR hi,gR (show i<bs.length by omega)]
    simp[List.getD,show i<bs.length by omega]
  · rw[um zM];simp
 ):P:=h
theorem zDk (h:P:=by
  refine ay results100 rfl A1 ?_
  exact vi (by first|exact nbn er hx (decide_eq_true gM)|exact MH er zM)
 ):P:=h
theorem zFk (h:P:=by
  replace aj:=ya aj
  refine B 7 ?_
  refine ay results176 rfl A0 ?_
  refine vb ?_
  unfold jO
  simp;try omega
 ):P:=h
theorem zGk (h:P:=by
  refine zof ?_
  exact⟨rfl,V2,λj hj=>by rcases xk j hj with h|h;(have:=pQ j h;omega);omega,rfl,rfl⟩
 ):P:=h
theorem Qh (h:P:=by rcases he with rfl|rfl<;>exact key):P:=h
theorem zIk (h:P:=by
  cases r1 with
  |nil=>trivial
  |row b cap sp=>exact hS.own (b,_) (bS _ (by simp[book,Rw.hp]) (kN _ vE).1)
 ):P:=h
theorem zJk (h:P:=by
  refine ay results152 rfl A1 ?_
  first|exact vi (nAl gM hx)|exact vi (nPn qC hx)
 ):P:=h
theorem zKk (h:P:=by
  refine ay results125 rfl A0 ?_
  exact vi z0d
 ):P:=h
theorem zMk (h:P:=by
  rw[List.nodup_append]
  exact⟨hm.nd,by simp,by intro a ha b' eJ;simp at eJ;subst eJ;have:=hm.lt a ha;omega⟩
 ):P:=h
theorem O9 (h:P:=by simp[Op.equalIn,run_underlying hU]):P:=h
theorem zOk (h:P:=by
  refine B 12 ?_
  refine PJ.again (j+1) zM zM ⟨rfl,rfl,congrArg some (vi zM),trivial⟩ rfl rfl z1
 ):P:=h
theorem zPk (h:P:=by
  replace aj:=ya aj
  refine B 10 ?_
  refine ay results147 rfl A2 ?_
  exact vb (by unfold Jv;simp_all)
 ):P:=h
theorem zQk (h:P:=by
  refine ay results73 rfl A4 ?_
  first|exact vb (Uv ib)|exact vb (Ns iU Bv eN)
 ):P:=h
theorem zRk (h:P:=by
  replace aj:=ya aj
  refine B 7 ?_
  refine ay results207 rfl A0 ?_
  exact vb (by simp[dV];omega)
 ):P:=h
theorem zSk (h:P:=by
  replace aj:=ya aj
  refine B 7 ?_
  refine ay results200 rfl A0 ?_
  exact vb (by simp[AQ];omega)
 ):P:=h
theorem zTk (h:P:=by
  simp only[Array.getD_eq_getD_getElem?]at hf ⊢
  rw[Ie (by rw[rk];exact hi)]at hf ⊢
  simpa using hf
 ):P:=h
theorem zUk (h:P:=by
  replace aj:=ya aj
  refine B 8 ?_
  refine ay results122 rfl A0 ?_
  exact vb (by simp;try omega)
 ):P:=h
theorem Sg (h:P:=by exact λ_ _ _ _ _ _ _ _ hk=>hk.elim):P:=h
theorem zWk (h:P:=by
  refine ay results202 rfl A1 ?_
  exact vb zMc
 ):P:=h
theorem zXk (h:P:=by exact PJ.mid ⟨(congrArg (λb=>some (Value.bool b)) zxb),rfl,rfl,rfl,rfl,rfl,rfl,rfl,rfl,rfl,trivial⟩):P:=h
theorem zYk (h:P:=by
  intro cY
  refine ME ?_
  refine PJ.again (j+1) ⟨by omega,er.next hx hy gM⟩ zM zR rfl rfl z1
 ):P:=h
theorem zZk (h:P:=by
  rcases h with h|⟨b,off,h1,h2,h3⟩
  · exact .inl h
  · exact .inr ⟨b,off,h1,by omega,h3.up (hw b h2)⟩
 ):P:=h
theorem z0k (h:P:=by
  rcases cS.1 hb with hb|hb
  · have:=hm.lt b hb;simp only;omega
  · simp at hb;subst hb;simp
 ):P:=h
theorem z1k (h:P:=by
  rcases hx with(hx|hx)|hx
  · exact .inl hx
  · have:=hV k hx;omega
  · exact .inr (hH k hk hx)
 ):P:=h
theorem z2k (h:P:=by
  obtain⟨d,lC⟩:=h3 c o (by rw[pV]at fq;exact nW (fq c (cB hk))) hl
  rw[hd]at lC;cases lC
 ):P:=h
theorem PL (h:P:=by exact vb zqd):P:=h
theorem z4k (h:P:=by
  refine WN ?_
  unfold o6
  rw[if_neg z8d]
  rfl
 ):P:=h
theorem z5k (h:P:=by
  split
  · exact⟨Int.emod_nonneg _ zQ,Int.emod_lt_of_pos _ zQ⟩
  · exact⟨by decide,by decide⟩
 ):P:=h
theorem z6k (h:P:=by
  refine(hS.links w A2).below λk hk hx=>?_
  rw[bF]at hx;simp[Gh.no,book]at hx;omega
 ):P:=h
theorem z7k (h:P:=by
  intro i y hi hy
  by_cases e:i=j
  · subst e;rw[hx]at hy;cases hy;exact hp
  · exact h i y zM hy
 ):P:=h
theorem z8k (h:P:=by
  intro i y hi hy
  by_cases e:i=j
  · subst e;rw[hx]at hy;cases hy;exact hk
  · exact h i y zM hy
 ):P:=h
theorem z9k (h:P:=by
  refine zIi ?_
  exact⟨V1,ys,D1,vK,nDn oX h1,by rw[cC];omega,rfl,rfl⟩
 ):P:=h
theorem zal (h:P:=by
  intro x
  rw[<-Array.foldl_toList,Array.toList_zip]
 ):P:=h
theorem U7 (h:P:=by
  have:=aT hl
  simp[hN];omega
 ):P:=h
theorem zdl (h:P:=by
  by_cases e3:j=i'
  · subst e3
    rw[h3]
    simp[(gA.1 h3).1]
  · simp[e3]
 ):P:=h
theorem zel (h:P:=by
  unfold IntKind.wrap
  simp[IntKind.bits,IntKind.signed]
 ):P:=h
theorem Zi (h:P:=by exact λW hS=>⟨eb.1,hS.old A0 aP aX trivial⟩):P:=h
theorem zgl (h:P:=by exact OJ.done (hk _ _ _ ⟨q,wr,b5,rfl,rfl,rfl,rfl,oD,mh,ov,rL,sX,HO⟩)):P:=h
theorem zhl (h:P:=by exact OJ.done (hk _ _ _ ⟨q,wr,b4,rfl,rfl,rfl,rfl,oD,mh,ov,rM,sY,HP⟩)):P:=h
theorem D5 (h:P:=by
  refine ay results145 rfl A1 ?_
  exact z3i
 ):P:=h
theorem Mf (h:P:=by
  refine zqf ?_
  exact z3i
 ):P:=h
theorem OP (h:P:=by
  refine Ze ?_
  exact VQ
 ):P:=h
theorem SC (h:P:=by
  refine B 17 ?_
  exact Xf
 ):P:=h
theorem Wj (h:P:=by
  refine B 5 ?_
  refine ZT ?_
  exact ZS
 ):P:=h
theorem Xq (h:P:=by
  refine B 5 ?_
  exact SQ
 ):P:=h
theorem zol (h:P:=by
  refine B 11 ?_
  exact Mf
 ):P:=h
theorem vb {a b:Bool} (h:a=b):Go.Value.bool a=Go.Value.bool b:=congrArg _ h
theorem va {a b:Array Go.Value} (h:a=b):Go.Value.agg a=Go.Value.agg b:=congrArg _ h
theorem vi {a b:Int} (h:a=b):Go.Value.int .i64 a=Go.Value.int .i64 b:=congrArg _ h
theorem vu {a b:Int} (h:a=b):Go.Value.int .u64 a=Go.Value.int .u64 b:=congrArg _ h
theorem yV (k:Q) (h:ZW Q->P:=by intro Kz;intro b w hb ha ho hm hz;replace ha:=yb ha;replace ho:=yc ho;revert b w hb hm hz ha ho;exact Kz.p):P:=h ⟨k⟩
theorem yX (k:Q) (h:ZW Q->P:=by intro Kz;refine Va rfl rfl rfl ?_;intro b w hb ha ho hm hz;replace ha:=yb ha;replace ho:=yc ho;revert b w hb hm hz ha ho;exact Kz.p):P:=h ⟨k⟩
theorem yW (k:Q) (h:ZW Q->P:=by intro Kz;intro b ha ho;replace ha:=yb ha;replace ho:=yc ho;revert b ha ho;exact Kz.p):P:=h ⟨k⟩
end Px
