/- Proofs by default. No condition beyond those stated. -/
import Derived.ProofKit
import Derived.KernelRfl
set_option linter.unusedSimpArgs false
set_option linter.unusedVariables false
set_option linter.unusedSectionVars false
set_option linter.unnecessarySimpa false
namespace Px
variable {P Q A S':Prop}
theorem A0 {α:Type _} {a:α} {l:List α}:a∈a::l:=.head _
theorem A1 {α:Type _} {a x0:α} {l:List α}:a∈x0::a::l:=.tail _ (.head _)
theorem A2 {α:Type _} {a x0 x1:α} {l:List α}:a∈x0::x1::a::l:=.tail _ (.tail _ (.head _))
theorem A3 {α:Type _} {a x0 x1 x2:α} {l:List α}:a∈x0::x1::x2::a::l:=.tail _ (.tail _ (.tail _ (.head _)))
theorem A4 {α:Type _} {a x0 x1 x2 x3:α} {l:List α}:a∈x0::x1::x2::x3::a::l:=.tail _ (.tail _ (.tail _ (.tail _ (.head _))))
theorem A5 {α:Type _} {a x0 x1 x2 x3 x4:α} {l:List α}:a∈x0::x1::x2::x3::x4::a::l:=.tail _ (.tail _ (.tail _ (.tail _ (.tail _ (.head _)))))
theorem A6 {α:Type _} {a x0 x1 x2 x3 x4 x5:α} {l:List α}:a∈x0::x1::x2::x3::x4::x5::a::l:=.tail _ (.tail _ (.tail _ (.tail _ (.tail _ (.tail _ (.head _))))))
theorem A7 {α:Type _} {a x0 x1 x2 x3 x4 x5 x6:α} {l:List α}:a∈x0::x1::x2::x3::x4::x5::x6::a::l:=.tail _ (.tail _ (.tail _ (.tail _ (.tail _ (.tail _ (.tail _ (.head _)))))))
theorem A8 {α:Type _} {a x0 x1 x2 x3 x4 x5 x6 x7:α} {l:List α}:a∈x0::x1::x2::x3::x4::x5::x6::x7::a::l:=.tail _ (.tail _ (.tail _ (.tail _ (.tail _ (.tail _ (.tail _ (.tail _ (.head _))))))))
theorem A9 {α:Type _} {a x0 x1 x2 x3 x4 x5 x6 x7 x8:α} {l:List α}:a∈x0::x1::x2::x3::x4::x5::x6::x7::x8::a::l:=.tail _ (.tail _ (.tail _ (.tail _ (.tail _ (.tail _ (.tail _ (.tail _ (.tail _ (.head _)))))))))
theorem A10 {α:Type _} {a x0 x1 x2 x3 x4 x5 x6 x7 x8 x9:α} {l:List α}:a∈x0::x1::x2::x3::x4::x5::x6::x7::x8::x9::a::l:=.tail _ (.tail _ (.tail _ (.tail _ (.tail _ (.tail _ (.tail _ (.tail _ (.tail _ (.tail _ (.head _))))))))))
theorem A11 {α:Type _} {a x0 x1 x2 x3 x4 x5 x6 x7 x8 x9 lB:α} {l:List α}:a∈x0::x1::x2::x3::x4::x5::x6::x7::x8::x9::lB::a::l:=.tail _ (.tail _ (.tail _ (.tail _ (.tail _ (.tail _ (.tail _ (.tail _ (.tail _ (.tail _ (.tail _ (.head _)))))))))))
theorem A12 {α:Type _} {a x0 x1 x2 x3 x4 x5 x6 x7 x8 x9 lB lJ:α} {l:List α}:a∈x0::x1::x2::x3::x4::x5::x6::x7::x8::x9::lB::lJ::a::l:=.tail _ (.tail _ (.tail _ (.tail _ (.tail _ (.tail _ (.tail _ (.tail _ (.tail _ (.tail _ (.tail _ (.tail _ (.head _))))))))))))
theorem A13 {α:Type _} {a x0 x1 x2 x3 x4 x5 x6 x7 x8 x9 lB lJ eY:α} {l:List α}:a∈x0::x1::x2::x3::x4::x5::x6::x7::x8::x9::lB::lJ::eY::a::l:=.tail _ (.tail _ (.tail _ (.tail _ (.tail _ (.tail _ (.tail _ (.tail _ (.tail _ (.tail _ (.tail _ (.tail _ (.tail _ (.head _)))))))))))))
theorem A14 {α:Type _} {a x0 x1 x2 x3 x4 x5 x6 x7 x8 x9 lB lJ eY ix:α} {l:List α}:a∈x0::x1::x2::x3::x4::x5::x6::x7::x8::x9::lB::lJ::eY::ix::a::l:=.tail _ (.tail _ (.tail _ (.tail _ (.tail _ (.tail _ (.tail _ (.tail _ (.tail _ (.tail _ (.tail _ (.tail _ (.tail _ (.tail _ (.head _))))))))))))))
theorem A15 {α:Type _} {a x0 x1 x2 x3 x4 x5 x6 x7 x8 x9 lB lJ eY ix jG:α} {l:List α}:a∈x0::x1::x2::x3::x4::x5::x6::x7::x8::x9::lB::lJ::eY::ix::jG::a::l:=.tail _ (.tail _ (.tail _ (.tail _ (.tail _ (.tail _ (.tail _ (.tail _ (.tail _ (.tail _ (.tail _ (.tail _ (.tail _ (.tail _ (.tail _ (.head _)))))))))))))))
theorem A16 {α:Type _} {a x0 x1 x2 x3 x4 x5 x6 x7 x8 x9 lB lJ eY ix jG x15:α} {l:List α}:a∈x0::x1::x2::x3::x4::x5::x6::x7::x8::x9::lB::lJ::eY::ix::jG::x15::a::l:=.tail _ (.tail _ (.tail _ (.tail _ (.tail _ (.tail _ (.tail _ (.tail _ (.tail _ (.tail _ (.tail _ (.tail _ (.tail _ (.tail _ (.tail _ (.tail _ (.head _))))))))))))))))
theorem R2 (h:P:=by exact λ_ _=>rfl):P:=h
abbrev LW:=@Nat.eq_of_beq_eq_true
abbrev qE:=@Option.some.injEq
abbrev aRo:=@Array.getElem?_setIfInBounds_ne
abbrev ao:=@Nat.le_refl
abbrev aR:=@Nat.le_trans
abbrev jT:=@Nat.lt_of_lt_of_le
abbrev cI:=@List.mem_cons
abbrev eh:=@List.map_cons
abbrev aT:=@Array.getElem?_eq_some_iff
abbrev GS:=@List.getElem?_cons_zero
abbrev xm:=@List.getElem?_cons_succ
abbrev cb:=@List.mem_of_getElem?
abbrev gi:=@List.getElem?_eq_some_iff
abbrev Iu:=@List.getElem?_set_self
abbrev F8:=@List.getElem?_set_ne
abbrev Ww:=@List.mem_or_eq_of_mem_set
abbrev bW:=@List.mem_map
abbrev ju:=@List.mem_iff_getElem?
abbrev bj:=@Nat.le_of_ble_eq_true
abbrev BZ:=@Int.eq_ofNat_of_zero_le
abbrev wK:=@List.map_toArray
abbrev Oe:=@Array.getElem?_append_left
abbrev Tl:=@Nat.le_of_not_lt
abbrev vY:=@Array.getElem?_toList
abbrev WS:=@Array.getElem?_modify
abbrev fm:=@Bool.and_eq_true
abbrev dQ:=@List.length_cons
abbrev gP:=@List.map_append
abbrev cQ:=@List.mem_append
abbrev fp:=@List.length_map
abbrev L8:=@List.getElem_map
abbrev fu:=@List.not_mem_nil
abbrev tS:=@List.ext_getElem?
abbrev eP:=@List.cons_append
abbrev yT:=@List.length_drop
abbrev uL:=@List.getElem?_drop
abbrev cK:=@List.length_append
abbrev HV:=@List.length_singleton
abbrev B6:=@List.getElem?_append_right
abbrev sP:=@List.mem_filter
abbrev gB:=@List.getElem?_eq_getElem
abbrev vZ:=@List.getElem?_append_left
abbrev o4:=@List.all_eq_true
abbrev Tv:=@Option.bind_eq_some_iff
abbrev oT:=@List.mem_range
abbrev qp:=@List.getElem?_map
abbrev uW:=@Option.map_some
abbrev B7:=@List.getElem?_toArray
abbrev iC:=@Nat.zero_add
abbrev FD:=@List.length_set
abbrev Gn:=@Array.getElem?_eq_getElem
abbrev so:=@List.getElem?_eq_none
abbrev vW:=@Bool.eq_iff_iff
abbrev iB:=@List.map_nil
abbrev mT:=@List.length_nil
abbrev iX:=@List.append_assoc
abbrev db:=@Nat.zero_le
abbrev uJ:=@Nat.div_add_mod
abbrev kN:=@Nat.add_mul
abbrev rE:=@Nat.mul_comm
abbrev s4:=@Nat.mul_le_mul_right
abbrev uS:=@Int.toNat_natCast
abbrev eB:=@List.set_cons_succ
abbrev iZ:=@List.eq_nil_of_length_eq_zero
abbrev dK:=@List.nil_append
abbrev DQ:=@List.take_append_drop
abbrev cZ:=@List.set_cons_zero
abbrev GK:=@List.take_succ_eq_append_getElem
abbrev iV:=@List.take_of_length_le
abbrev qi:=@List.mem_singleton
abbrev pG:=@List.eraseIdx_cons_zero
abbrev qG:=@List.eraseIdx_cons_succ
abbrev Uh:=@List.findIdx?_eq_some_iff_getElem
abbrev OM:=@List.getElem_mem
abbrev qF:=@List.size_toArray
abbrev jD:=@List.length_take
abbrev P0:=@List.drop_zero
abbrev PT:=@List.take_left'
abbrev sm:=@Nat.mul_one
abbrev dH:=@List.append_nil
abbrev I2:=@List.getElem?_take_of_lt
abbrev Rx:=@List.take_succ_cons
abbrev GZ:=@List.flatMap_cons
abbrev PZ:=@List.mem_flatMap
abbrev JU:=@List.take_length
abbrev K6:=@Option.map_eq_some_iff
abbrev VY:=@List.getElem?_set
abbrev yy:=@List.length_filter_le
abbrev Cq:=@List.foldl_append
abbrev Lu:=@List.filter_cons_of_pos
abbrev Sw:=@List.filter_cons_of_neg
theorem ya (h:A) (s:A->S':=by intro h;(try simp only[decide_eq_true_eq,decide_eq_false_iff_not,Bool.not_eq_true',Bool.not_eq_false']at h);exact h):S':=s h
theorem yb (h:A) (s:A->S':=by intro h;(try simp only[ad]at h);exact h):S':=s h
theorem yc (h:A) (s:A->S':=by intro h;(try simp only[bD,book,eP,dK,cZ,eB,ne_eq]at h);exact h):S':=s h
theorem yd (h:A) (s:A->S':=by intro h;(try simp only[bD,cZ,eB,ne_eq,and_true]at h);exact h):S':=s h
theorem ye (h:A) (s:A->S':=by intro h;(try simp only[Fr,Gh.lent,Gh.no,ad,and_true,false_or]at h);exact h):S':=s h
theorem yf (h:A) (s:A->S':=by intro h;(try simp only[nY,and_true]at h);exact h):S':=s h
theorem zI (h:P:=by first|(first|(simp only[bD,book,eP,dK,cZ,eB,pG,qG,ne_eq,and_true];omega)|(simp[bD]<;>omega))|fail):P:=h
theorem zJ (h:P:=by omega):P:=h
theorem zL (h:P:=by exact λaf=>X.off rfl (λ_ _=>rfl)):P:=h
theorem zM (h:P:=by first|exact True.intro|(simp only[Over,cZ,eB,pG,qG,and_true];omega)):P:=h
theorem zN (h:P:=by exact λaf=>X.val rfl rfl (fW rfl) (λ_ _=>rfl)):P:=h
theorem zO (h:P:=by decide):P:=h
theorem zP (h:P:=by first|(first|(simp only[Over,cZ,eB,pG,qG,and_true];omega)|(simp[Over]<;>omega))|fail):P:=h
theorem zQ (h:P:=by kernel_rfl):P:=h
theorem zS (h:P:=by exact λ_ _ h=>h):P:=h
theorem zT (h:P:=by exact λcv L' H' hd hP=>X.val rfl rfl (fW rfl) R2):P:=h
theorem zU (h:P:=by exact λh=>h):P:=h
theorem zW (h:P:=by simp only[ad,and_true];omega):P:=h
theorem zX (h:P:=by simp):P:=h
theorem zZ (h:P:=by exact λaf=>X.val rfl rfl (aK (i:=0) rfl isAgg3 rfl rfl) (λ_ _=>rfl)):P:=h
theorem z1 (h:P:=by exact λaf=>X.val rfl rfl (al underlying135 rfl sizeOf3 rfl) (λ_ _=>rfl)):P:=h
theorem z2 (h:P:=by exact λcv L' H' hd hP=>X.val rfl rfl (al underlying84 rfl sizeOf38 rfl) R2):P:=h
theorem z3 (h:P:=by exact λaf=>X.val rfl rfl (al underlying355 rfl sizeOf3 rfl) (λ_ _=>rfl)):P:=h
theorem z4 (h:P:=by exact λaf=>X.val rfl rfl (Bq rfl rfl) (λ_ _=>rfl)):P:=h
theorem z5 (h:P:=by exact λaf=>X.val rfl rfl (uE rfl rfl) (λ_ _=>rfl)):P:=h
theorem z6 (h:P:=by exact λaf=>X.val rfl rfl (aK (i:=1) rfl isAgg3 rfl rfl) (λ_ _=>rfl)):P:=h
theorem z7 (h:P:=by simp only[bD,cZ,eB,and_true];omega):P:=h
theorem z8 (h:P:=by exact λcv L' H' hd hP=>X.val rfl rfl (al underlying38 rfl sizeOf3 rfl) R2):P:=h
theorem z9 (h:P:=by exact λaf=>X.val rfl rfl (al underlying84 rfl sizeOf38 rfl) (λ_ _=>rfl)):P:=h
theorem dG (h:P:=by dsimp only;omega):P:=h
theorem Cs (h:P:=by first|exact True.intro|(simp only[Over,and_true];omega)):P:=h
theorem tW (h:P:=by exact λaf=>X.val rfl rfl (al underlying38 rfl sizeOf3 rfl) (λ_ _=>rfl)):P:=h
theorem gw (h:P:=by assumption):P:=h
theorem vr (h:P:=by exact λcv L' H' hd hP=>X.val rfl rfl (al underlying99 rfl sizeOf3 rfl) R2):P:=h
theorem qK (h:P:=by simp only[bD,cZ,eB,pG,qG,ne_eq,and_true];omega):P:=h
theorem vX (h:P:=by exact λaf=>X.val rfl rfl (aK (i:=0) rfl isAgg229 rfl rfl) (λ_ _=>rfl)):P:=h
theorem pz (h:P:=by simp only[bD,cZ,eB,ne_eq,and_true];omega):P:=h
theorem oC (h:P:=by exact λcv L' H' hd hP=>X.off rfl R2):P:=h
theorem zjb (h:P:=by rw[show iO c.chs=false by assumption];decide):P:=h
theorem Ce (h:P:=by exact λaf=>X.val rfl rfl (aa isAgg3 rfl A0 aQ aX trivial rfl) (λ_ _=>rfl)):P:=h
theorem wj (h:P:=by exact λaf=>nf call55 rfl rfl (λW hS _=>nM _ W) (λ_=>rfl)):P:=h
theorem CB (h:P:=by exact λcv L' H' hd hP=>nf call142 rfl rfl (λW hS _=>nCb _ W) (λ_=>rfl)):P:=h
theorem EH (h:P:=by exact λaf=>X.val rfl rfl (al underlying57 rfl sizeOf3 rfl) (λ_ _=>rfl)):P:=h
theorem Hj (h:P:=by exact λaf=>X.val rfl rfl (RV.re (v':=.bool true) (er rfl rfl) rfl) (λ_ _=>rfl)):P:=h
theorem Xh (h:P:=by first|(simp;done)|(simp;omega)):P:=h
theorem E1 (h:P:=by exact λcv L' H' hd hP=>X.val rfl rfl (al underlying99 rfl sizeOf95 rfl) R2):P:=h
theorem HJ (h:P:=by exact λaf=>X.val rfl rfl (al underlying166 rfl sizeOf3 rfl) (λ_ _=>rfl)):P:=h
theorem zsb (h:P:=by first|rfl|(rw[vW];first|(simp;omega)|simp)):P:=h
theorem jr (h:P:=by simp[Act.put,hD]):P:=h
theorem kT (h:P:=by rw[gQ];exact nV hN):P:=h
theorem jY (h:P:=by simp[Act.put,gQ]):P:=h
theorem CS (h:P:=by exact λcv L' H' hd hP=>X.val rfl rfl (Bq rfl rfl) R2):P:=h
theorem Zc (h:P:=by exact λaf=>X.val rfl rfl (RV.re (v':=.agg Qh) (bY underlying31 zeroValue31 (bA.c sizeOf22 (bA.c sizeOf23 (bA.c sizeOf24 (bA.c sizeOf25 (bA.c sizeOf26 (bA.c sizeOf27 (bA.c sizeOf28 (bA.c sizeOf29 (bA.n))))))))) rfl rfl) (rfl)) (λ_ _=>rfl)):P:=h
theorem Dl (h:P:=by exact λaf=>X.val rfl rfl (Bv rfl) (λ_ _=>rfl)):P:=h
theorem Jn (h:P:=by exact λcv L' H' hd hP=>X.val rfl rfl (al underlying36 rfl sizeOf3 rfl) R2):P:=h
theorem Oz (h:P:=by simp only[bD,and_true];(repeat' apply And.intro);all_goals first|omega|exact True.intro):P:=h
theorem uV (h:P:=by simp only[Over,cZ,and_true];omega):P:=h
theorem Ej (h:P:=by simp only[bD,and_true];omega):P:=h
theorem zDb (h:P:=by simp only[nz];omega):P:=h
theorem uN (h:P:=by simp only[Over,and_true];omega):P:=h
theorem yr (h:P:=by first|rfl|simp[book,Gu,Value.cells]):P:=h
theorem Q2 (h:P:=by exact λcv L' H' hd hP=>X.val rfl rfl (al underlying57 rfl sizeOf55 rfl) R2):P:=h
theorem Q1 (h:P:=by exact λcv L' H' hd hP=>X.val rfl rfl (al underlying57 rfl sizeOf52 rfl) R2):P:=h
theorem Na (h:P:=by exact λcv L' H' hd hP=>X.val rfl rfl (al underlying38 rfl sizeOf36 rfl) R2):P:=h
theorem IZ (h:P:=by exact λaf=>X.val rfl rfl (pD rfl rfl) (λ_ _=>rfl)):P:=h
theorem mH (h:P:=by simp_all):P:=h
theorem jB (h:P:=by simp;omega):P:=h
theorem v7 (h:P:=by simp only[cK,dQ,mT];omega):P:=h
theorem U8 (h:P:=by exact λaf=>nf (v:=.int .i64 e) call63 rfl rfl (λW hS _=>by rw[<-he];exact nJ _ W) (λ_=>rfl)):P:=h
theorem Pp (h:P:=by exact λcv L' H' hd hP=>X.val rfl rfl (al underlying149 rfl sizeOf146 rfl) R2):P:=h
theorem Ru (h:P:=by exact λcv L' H' hd hP=>X.val rfl rfl (al underlying99 rfl sizeOf36 rfl) R2):P:=h
theorem Rq (h:P:=by exact λcv L' H' hd hP=>X.val rfl rfl (al underlying233 rfl sizeOf3 rfl) R2):P:=h
theorem MW (h:P:=by exact λaf=>X.val rfl rfl (sh rfl rfl) (λ_ _=>rfl)):P:=h
theorem zc (h:P:=by simpa using h1):P:=h
theorem NZ (h:P:=by exact λaf=>X.val rfl rfl (dA rfl) (λ_ _=>rfl)):P:=h
theorem zUb (h:P:=by exact λaf=>nf call207 rfl rfl (λW hS _=>by have h9:=Vg x.dev W;rw[decide_eq_true (Classical.not_not.1 h1)]at h9;exact h9) (λ_=>rfl)):P:=h
theorem zVb (h:P:=by exact λaf=>nf call47 rfl rfl (λW hS _=>by have h9:=n5c hinv.1 b9 m hm x.par x.fol W (hS.own (b9,_) A2);rwa[SM]at h9) (λ_=>rfl)):P:=h
theorem QB (h:P:=by have h9:=(wu hnd gf ja kZ).2.2;simp only[cK,dQ,mT];omega):P:=h
theorem Zb (h:P:=by exact λaf=>X.val rfl rfl (RV.re (v':=.agg (lkC (sl 1 r sg))) (aO (i:=4) rfl isAgg38 sizeOf38 rfl rfl) (rfl)) (λ_ _=>rfl)):P:=h
theorem Wo (h:P:=by exact λaf=>X.val rfl rfl (aa isAgg3 rfl A1 aU aN trivial rfl) (λ_ _=>rfl)):P:=h
theorem Wt (h:P:=by exact λaf=>X.val rfl rfl (aa isAgg3 rfl A0 aM aD trivial rfl) (λ_ _=>rfl)):P:=h
theorem VM (h:P:=by exact λcv L' H' hd hP=>X.val rfl rfl (RV.re (v':=.bool false) (dA rfl) rfl) R2):P:=h
theorem z1b (h:P:=by first|(unfold oE;rw[pb,haw,vW];simp_all<;>omega)|fail):P:=h
theorem UI (h:P:=by exact λaf=>X.val rfl rfl (al underlying38 rfl sizeOf34 rfl) (λ_ _=>rfl)):P:=h
theorem Cp (h:P:=by simp only[dQ,mT];omega):P:=h
theorem Vm (h:P:=by exact λaf=>X.val rfl rfl (aK (i:=0) rfl isAgg4 rfl rfl) (λ_ _=>rfl)):P:=h
theorem D3 (h:P:=by rw[he];omega):P:=h
theorem VN (h:P:=by exact λcv L' H' hd hP=>X.val rfl rfl (al underlying99 rfl sizeOf97 rfl) R2):P:=h
theorem VL (h:P:=by exact λcv L' H' hd hP=>X.val rfl rfl (al underlying99 rfl sizeOf96 rfl) R2):P:=h
theorem z8b (h:P:=by exact λaf=>X.val rfl rfl (RV.re (v':=.bool true) (fW rfl) (by first|rfl|(rw[hq];rfl))) (λ_ _=>rfl)):P:=h
theorem Wv (h:P:=by exact λaf=>nf call125 rfl rfl (λW hS _=>nxf _ _ W) (λ_=>rfl)):P:=h
theorem qz (h:P:=by simpa using h):P:=h
theorem zbc (h:P:=by have:=rk _ e;dsimp only at this;simp only[bD,cZ,and_true];omega):P:=h
theorem VQ (h:P:=by simp only[bD,cZ,and_true];omega):P:=h
theorem R4 (h:P:=by exact λcv L' H' _ _ hP=>X.val rfl rfl (fW rfl) R2):P:=h
theorem zec (h:P:=by rw[hY,<-hN];exact bP):P:=h
theorem zfc (h:P:=by exact λaf=>nf call26 rfl rfl (λW hS _=>by have h9:=nH p W;rwa[hv]at h9) (λ_=>rfl)):P:=h
theorem Zy (h:P:=by intro k hk hx;simp only[eh,iB,cI,fu,or_false]at hx;omega):P:=h
theorem zhc (h:P:=by exact λaf=>X.val rfl rfl (ae isAgg84 sizeOf84 rfl A0 eo eH trivial rfl) (λ_ _=>rfl)):P:=h
theorem ZU (h:P:=by simp only[cZ,eB,eP,dK,dH,Over];exact⟨by omega,by omega,Rw.over (Rw.ge_of bE A2)⟩):P:=h
theorem JK (h:P:=by simp only[fp,dQ,mT];omega):P:=h
theorem Vn (h:P:=by exact λaf=>X.val rfl rfl (pd rfl rfl) (λ_ _=>rfl)):P:=h
theorem zlc (h:P:=by exact λaf=>X.val rfl rfl (RV.re (v':=.bool false) (dA rfl) rfl) (λ_ _=>rfl)):P:=h
theorem wv (h:P:=by simpa using hl):P:=h
theorem Zd (h:P:=by exact λaf=>X.val rfl rfl (RV.re (v':=.bool true) (dA rfl) rfl) (λ_ _=>rfl)):P:=h
theorem zoc (h:P:=by rw[<-C6,<-hv1]):P:=h
theorem zpc (h:P:=by exact λcv L' H' hd hP=>X.val rfl rfl (bY underlying101 zeroValue101 (bA.c sizeOf3 (bA.c sizeOf99 (bA.c sizeOf34 (bA.c sizeOf3 (bA.c sizeOf57 (bA.n)))))) rfl rfl) R2):P:=h
theorem ud (h:P:=by simp[Rw.hp]):P:=h
theorem ZI (h:P:=by exact λaf=>X.val rfl rfl (al underlying55 rfl sizeOf53 rfl) (λ_ _=>rfl)):P:=h
theorem zsc (h:P:=by first|(unfold oF;rw[vW];simp_all<;>omega)|fail):P:=h
theorem ztc (h:P:=by exact λcv L' H' hd hP=>X.val rfl rfl (al underlying99 rfl sizeOf44 rfl) R2):P:=h
theorem zuc (h:P:=by simp only[Over,book,bT,eP,dK,and_true];omega):P:=h
theorem zvc (h:P:=by rw[hY];exact aej):P:=h
theorem zwc (h:P:=by exact λcv L' H' hd hP=>X.val rfl rfl (al underlying38 rfl sizeOf4 rfl) R2):P:=h
theorem CD (h:P:=by cases h):P:=h
theorem zyc (h:P:=by show q-1<q;omega):P:=h
theorem zzc (h:P:=by have:=o5 _ e;dsimp only at this;simp only[bD,cZ,and_true];omega):P:=h
theorem Xz (h:P:=by have:=(hS.sizes);simp only[ad]at this;have:=(aT.1 mP).1;omega):P:=h
theorem Va (h:P:=by simp only[cZ,eB,eP,dK];rfl):P:=h
theorem Wl (h:P:=by simp only[eh,iB,cI,fu,or_false];omega):P:=h
theorem zDc (h:P:=by unfold Nz;simp only[<-Cw];rw[vW];first|(simp;omega)|simp):P:=h
theorem zEc (h:P:=by obtain⟨ta,tc,wr,r8,rfl,rfl,rfl,rfl,rfl,rfl,rfl,mK,eX,oW,jO,fg,eS⟩:=hP;exact X.val rfl rfl (gk rfl rfl) R2):P:=h
theorem WW (h:P:=by simpa[Nat.blt]using Nat.ble_eq_true_of_le hi):P:=h
theorem PH (h:P:=by first|trivial|exact True.intro):P:=h
theorem wW (h:P:=by simp[book]):P:=h
theorem zIc (h:P:=by obtain⟨ta,tc,wr,r8,rfl,rfl,rfl,rfl,rfl,rfl,mK,eX,oW,jO,fg,eS⟩:=hP;exact X.val rfl rfl (gk rfl rfl) R2):P:=h
theorem Nq (h:P:=by simp[Gh.no]):P:=h
theorem PG (h:P:=by first|(simp[pq,keys]<;>try omega)|fail):P:=h
theorem ZR (h:P:=by simp only[cZ,eB,Over,and_true];omega):P:=h
theorem zMc (h:P:=by obtain⟨ta,tc,wr,r8,rfl,rfl,rfl,rfl,rfl,mK,eX,oW,jO,fg,eS⟩:=hP;exact X.val rfl rfl (gk rfl rfl) R2):P:=h
theorem XH (h:P:=by exact λaf=>X.val rfl rfl (Mv rfl rfl) (λ_ _=>rfl)):P:=h
theorem UZ (h:P:=by rw[dH];exact Rw.over (Rw.ge_of bE A0)):P:=h
theorem zPc (h:P:=by exact λcv L' H' hd hP=>X.val rfl rfl (RV.re (v':=.bool false) (er rfl rfl) (vb (by simp[hf]))) R2):P:=h
theorem Cr (h:P:=by simp[iY]):P:=h
theorem zRc (h:P:=by simp only[cZ,Over,and_true];omega):P:=h
theorem UX (h:P:=by simp only[cQ];exact .inr (.inl hp)):P:=h
theorem VB (h:P:=by rw[dH];exact List.perm_append_comm):P:=h
theorem zUc (h:P:=by first|(first|omega|(unfold bZ;(repeat' split)<;>omega))|fail):P:=h
theorem Mi (h:P:=by rw[hl];exact ho):P:=h
theorem HY (h:P:=by simpa using hi):P:=h
theorem HG (h:P:=by simpa using h2):P:=h
theorem zYc (h:P:=by exact λaf=>X.val rfl rfl (ai isAgg34 sizeOf34 rfl A0 aQ aX trivial (bj rfl)) (λ_ _=>rfl)):P:=h
theorem qf (h:P:=by repeat' first|exact True.intro|exact Rw.off_ge (Rw.ge_of gr A0) zJ|refine ne.2 ⟨?_,?_⟩|refine⟨by omega,?_⟩):P:=h
theorem E5 (h:P:=by simp only[bD,ne,book,eP,dK,dH,iX,cZ,eB,pG,qG,ne_eq,and_true];(repeat' apply And.intro);all_goals first|omega|exact True.intro|exact Rw.off_ge eS zJ):P:=h
theorem Lj (h:P:=by simp only[bD,ne,book,eP,dK,dH,iX,cZ,eB,pG,qG,ne_eq,and_true];(repeat' apply And.intro);all_goals first|omega|exact True.intro|exact Rw.off_ge cE zJ):P:=h
theorem tQ (h:P:=by exact λaf=>X.val rfl rfl (kh underlying336 sizeOf229 rfl rfl zJ zJ) (λ_ _=>rfl)):P:=h
theorem Eu (h:P:=by exact λaf=>X.val rfl rfl (RV.re (v':=.bool false) (pd rfl rfl) (vb (decide_eq_false zJ))) (λ_ _=>rfl)):P:=h
theorem Hu (h:P:=by exact λaf=>X.val rfl rfl (RV.re (v':=.bool true) (pd rfl rfl) (vb (decide_eq_true zJ))) (λ_ _=>rfl)):P:=h
theorem Nr (h:P:=by exact λaf=>X.val rfl rfl (RV.re (v':=.bool false) (me rfl rfl) (vb (decide_eq_false zJ))) (λ_ _=>rfl)):P:=h
theorem Sk (h:P:=by simp only[Over,n9,eP,dK,dH,cZ,and_true];(repeat' apply And.intro);all_goals first|omega|exact True.intro|exact Rw.over (Rw.ge_mono cE zJ)):P:=h
theorem z7c (h:P:=by unfold oE;rw[nVb (f:=(λx:We=>decide (x.w.body.length<=200))) hy (decide_eq_false zJ),Bool.and_false];rfl):P:=h
theorem Sj (h:P:=by simp only[bD,ne,eP,dK,dH,cZ,and_true];(repeat' apply And.intro);all_goals first|omega|exact True.intro|exact Rw.off_ge cE zJ):P:=h
theorem Dg (h:P:=by exact λaf=>X.val rfl rfl (gz rfl rfl zJ zJ) (λ_ _=>rfl)):P:=h
theorem QK (h:P:=by simp only[bD,ne,eP,dK,dH,and_true];(repeat' apply And.intro);all_goals first|omega|exact True.intro|exact Rw.off_ge cE zJ):P:=h
theorem SL (h:P:=by exact λaf=>X.val rfl rfl (RV.re (v':=.bool true) (pe rfl rfl) (vb (decide_eq_true zJ))) (λ_ _=>rfl)):P:=h
theorem zcd (h:P:=by unfold oE;rw[nVb (f:=(λx:Bx=>decide (x.w.body.length<=200))) hy (decide_eq_false zJ)];rfl):P:=h
theorem Kr (h:P:=by exact λaf=>X.val rfl rfl (aa isAgg3 rfl A1 aM aD zI rfl) (λ_ _=>rfl)):P:=h
theorem MV (h:P:=by exact λaf=>X.val rfl rfl (kh underlying375 sizeOf229 rfl rfl zJ zJ) (λ_ _=>rfl)):P:=h
theorem zfd (h:P:=by first|exact(decide_eq_true (nKg zJ (λi x y hi=>dm i x y zJ))).symm|exact(decide_eq_false (nDg hx hy mH)).symm|exact(decide_eq_false (λe=>by have:=congrArg List.length e;simp at this;omega)).symm):P:=h
theorem WE (h:P:=by repeat' first|exact True.intro|exact Rw.over (Rw.ge_mono (Rw.ge_of gr A0) zJ)|refine n9.2 ⟨?_,?_⟩|refine⟨by omega,?_⟩):P:=h
theorem WD (h:P:=by exact λaf=>X.val rfl rfl (RV.re (v':=.bool false) (pe rfl rfl) (vb (decide_eq_false zJ))) (λ_ _=>rfl)):P:=h
theorem N4 (h:P:=by intro p hp;simp only[cI,fu,or_false]at hp;subst hp;exact .inl zX):P:=h
theorem ZL (h:P:=by exact λaf=>X.val rfl rfl (aa (v:=.int .i64 y.at_) isAgg3 rfl A2 hcs zU z7 (by have:=wz (i:=(j:Int)-1) ar hy zJ 0 zO;simpa[fF]using this)) (λ_ _=>rfl)):P:=h
theorem zkd (h:P:=by obtain⟨a7,c7,w7,rfl,rfl,rfl,jH⟩:=hP;exact nf call204 rfl rfl (λW hS _=>by have h9:=n2c G.g.ms qo W.heap.size G.ma G.mc W (ao _) (hG.ms.up (aR hN (hS.links w A2).size) (hS.same A2 hN zS trivial)) (cS G.g.ns) a7 c7 (jH.up (hS.links w7 A0).size (hS.same A0 (ao _) zS trivial));rw[decide_eq_false h1]at h9;exact h9) (λ_=>rfl)):P:=h
theorem zld (h:P:=by obtain⟨a7,c7,w7,rfl,rfl,rfl,jH⟩:=hP;exact nf call204 rfl rfl (λW hS _=>by have h9:=n2c G.g.ms qo W.heap.size G.ma G.mc W (ao _) (hG.ms.up (aR hN (hS.links w A2).size) (hS.same A2 hN zS trivial)) (cS G.g.ns) a7 c7 (jH.up (hS.links w7 A0).size (hS.same A0 (ao _) zS trivial));rw[decide_eq_true h1]at h9;exact h9) (λ_=>rfl)):P:=h
theorem WC (h:P:=by exact λaf=>nf call93 rfl rfl (λW hS _=>nsd hinv.1 b9 m hm x.par zJ W (hS.own (b9,_) A2)) (λ_=>rfl)):P:=h
theorem znd (h:P:=by first|exact noe zJ|exact nlf hx hy gw|exact nee zJ dm zJ):P:=h
theorem ZJ (h:P:=by exact λaf=>X.val rfl rfl (RV.re (v':=.slice (some ⟨bo,oo,none⟩) ns.length cp) (aa isAgg53 rfl A1 aQ aX zI rfl) (rfl)) (λ_ _=>rfl)):P:=h
theorem V7 (h:P:=by have:=nR (enc:=λx=>(aj x).toArray) (n:=1) Si R1 rfl zO;simpa[aj]using this):P:=h
theorem zqd (h:P:=by have:=nR (enc:=λx=>(aj x).toArray) (n:=1) qV hy rfl zO;simpa[aj]using this):P:=h
theorem Wz (h:P:=by exact λaf=>X.val rfl rfl (cD underlying32 sizeOf135 rfl rfl zJ zJ) (λ_ _=>rfl)):P:=h
theorem zsd (h:P:=by exact λaf=>X.val rfl rfl (RV.re (v':=.bool true) (er rfl rfl) (vb (decide_eq_true zJ))) (λ_ _=>rfl)):P:=h
theorem ztd (h:P:=by exact λaf=>X.val rfl rfl (RV.re (v':=.bool false) (zb underlying4 rfl rfl) (vb zc)) (λ_ _=>rfl)):P:=h
theorem zud (h:P:=by exact λcv L' H' hd hP=>X.val rfl rfl (RV.re (v':=.bool true) (pe rfl rfl) (vb (decide_eq_true zJ))) R2):P:=h
theorem zvd (h:P:=by by_cases h9:cp=i2;(left;apply iZ;rw[yT];omega);(right;rw[if_neg h9,jD,Nat.min_eq_left zJ,iC])):P:=h
theorem zwd (h:P:=by exact λaf=>X.val rfl rfl (RV.re (v':=.slice (some ⟨bo,oo,none⟩) c.wes.length c.wc) (aa isAgg97 rfl A0 aQ aX zI rfl) (congrArg (λq=>Value.slice q c.wes.length c.wc) im)) (λ_ _=>rfl)):P:=h
theorem zxd (h:P:=by exact λaf=>X.val rfl rfl (RV.re (v':=.agg (plA x)) (dd (i:=0) rfl isAgg135 sizeOf135 rfl (HP (j:=j1+1) nG zJ)) (va (HO (j:=j1+1) (sp:=sp) nG hx))) (λ_ _=>rfl)):P:=h
theorem zyd (h:P:=by exact λaf=>X.val rfl rfl (RV.re (v':=.agg (plA y)) (dd (i:=0) rfl isAgg135 sizeOf135 rfl (HP (j:=j1) nG zJ)) (va (HO (j:=j1) (sp:=sp) nG hy))) (λ_ _=>rfl)):P:=h
theorem zzd (h:P:=by simp only[Over,n9,eP,dK,dH,cZ,and_true];(repeat' apply And.intro);all_goals first|omega|exact True.intro|exact Rw.over (Rw.ge_mono kR zJ)|exact Rw.over (Rw.ge_mono dE zJ)):P:=h
theorem ZK (h:P:=by exact λaf=>X.val rfl rfl (cD underlying53 sizeOf355 rfl rfl zJ zJ) (λ_ _=>rfl)):P:=h
theorem zBd (h:P:=by exact λcv L' H' hd hP=>X.val rfl rfl (cD underlying32 sizeOf135 rfl rfl zJ zJ) R2):P:=h
theorem zDd (h:P:=by exact λaf=>X.val rfl rfl (aa (v:=.int .i64 y.dev) isAgg3 rfl A1 hcs zU z7 (by have:=wz (i:=(j:Int)-1) ar hy zJ 0 zO;simpa[ra]using this)) (λ_ _=>rfl)):P:=h
theorem zEd (h:P:=by simp only[bD,ne,book,eP,dK,dH,iX,cZ,eB,pG,qG,ne_eq,and_true];(repeat' apply And.intro);all_goals first|omega|exact True.intro|exact Rw.off_ge ml zJ):P:=h
theorem X6 (h:P:=by exact λcv L' H' hd hP=>X.val rfl rfl (rV underlying3 underlying202 rfl zJ zJ) R2):P:=h
theorem zGd (h:P:=by exact λaf=>nf call49 rfl rfl (λW hS _=>nSf hZ c dt N W (aR hN (hS.links w A5).size) (hC.up (ao _) (hS.same A5 hN zS zM)) (hg.old hS A5 zS zM)) (λ_=>rfl)):P:=h
theorem zHd (h:P:=by simp only[Over,n9,eP,dK,dH,cZ,and_true];(repeat' apply And.intro);all_goals first|omega|exact True.intro|exact Rw.over (Rw.ge_mono H6 zJ)):P:=h
theorem Vs (h:P:=by rw[hB.block q.2 zJ];exact hS.old A0 gg zU Ej):P:=h
theorem Vr (h:P:=by rw[hB.block q.1 zJ];exact hS.old A0 fw zU Ej):P:=h
theorem zKd (h:P:=by exact λaf=>X.val rfl rfl (RV.re (v':=.int .i64 ((j1:Nat):Int)) (gz rfl rfl zJ zJ) (vi zJ)) (λ_ _=>rfl)):P:=h
theorem zLd (h:P:=by exact λcv L' H' hd hP=>X.val rfl rfl (RV.re (v':=.int .i64 ((j1:Nat):Int)) (gz rfl rfl zJ zJ) (vi zJ)) R2):P:=h
theorem zMd (h:P:=by simp only[bD,ne,eP,dK,dH,and_true];(repeat' apply And.intro);all_goals first|omega|exact True.intro|exact Rw.off_ge ml zJ):P:=h
theorem zNd (h:P:=by exact λaf=>X.val rfl rfl (RV.re (v':=.bool false) (er rfl rfl) (vb (decide_eq_false zJ))) (λ_ _=>rfl)):P:=h
theorem zOd (h:P:=by exact λaf=>X.val rfl rfl (RV.re (v':=.bool false) (qW rfl rfl) (vb (decide_eq_false zJ))) (λ_ _=>rfl)):P:=h
theorem zPd (h:P:=by exact λaf=>X.val rfl rfl (RV.re (v':=.agg (dI c)) (ae isAgg99 sizeOf99 rfl A3 aM aD zI rfl) (rfl)) (λ_ _=>rfl)):P:=h
theorem zQd (h:P:=by exact λaf=>X.val rfl rfl (RV.re (v':=.bool false) (cq rfl rfl) (vb jB)) (λ_ _=>rfl)):P:=h
theorem zRd (h:P:=by exact λaf=>X.val rfl rfl (RV.re (v':=.bool true) (cq rfl rfl) (vb jB)) (λ_ _=>rfl)):P:=h
theorem zSd (h:P:=by rw[show(Value.agg (hQ (mU n m (ea n)) i)).cells=hQ (mU n m (ea n)) i from rfl,hQ,xj]):P:=h
theorem zTd (h:P:=by rintro⟨g1,g2,g3⟩;first|omega|simp_all):P:=h
theorem zUd (h:P:=by exact λaf=>X.val rfl rfl (aO (i:=0) rfl isAgg149 sizeOf149 rfl rfl) (λ_ _=>rfl)):P:=h
theorem Zo (h:P:=by intro p hp;simp at hp;subst hp;exact .inl zX):P:=h
theorem zWd (h:P:=by exact λaf=>X.val rfl rfl (kh underlying332 sizeOf263 rfl rfl zJ zJ) (λ_ _=>rfl)):P:=h
theorem zXd (h:P:=by exact λaf=>X.val rfl rfl (cD underlying97 sizeOf166 rfl rfl zJ zJ) (λ_ _=>rfl)):P:=h
theorem zYd (h:P:=by unfold vJ;rw[bP,decide_eq_true zJ];rfl):P:=h
theorem Mf (h:P:=by simpa using hk):P:=h
theorem z0d (h:P:=by have:=(Ig s.pls).2.2;have:=ho.pl;omega):P:=h
theorem z1d (h:P:=by have:=(aT.1 vv).1;have:=hB.size;omega):P:=h
theorem z2d (h:P:=by exact λaf=>X.val rfl rfl (aa isAgg64 rfl A0 lO r6 trivial rfl) (λ_ _=>rfl)):P:=h
theorem z3d (h:P:=by simp only[cZ,eB,eP,dK,dH,Over];exact⟨by omega,Rw.over (Rw.ge_of bE A1)⟩):P:=h
theorem z4d (h:P:=by exact λaf=>X.val rfl rfl (aa isAgg3 rfl A0 lO r6 trivial rfl) (λ_ _=>rfl)):P:=h
theorem z5d (h:P:=by unfold vJ;rw[nVb hc mH,Bool.and_false]):P:=h
theorem zY (h:P:=by exact rfl):P:=h
theorem To (h:P:=by assumption):P:=h
theorem jR (h:P:=by first|(with_reducible exact Tryz.isAgg3)|(with_reducible exact Tryz.isAgg4)|(with_reducible exact Tryz.isAgg9)|(with_reducible exact Tryz.isAgg34)|(with_reducible exact Tryz.isAgg36)|(with_reducible exact Tryz.isAgg38)|(with_reducible exact Tryz.isAgg44)|(with_reducible exact Tryz.isAgg52)|(with_reducible exact Tryz.isAgg53)|(with_reducible exact Tryz.isAgg55)|(with_reducible exact Tryz.isAgg57)|(with_reducible exact Tryz.isAgg59)|(with_reducible exact Tryz.isAgg64)|(with_reducible exact Tryz.isAgg84)|(with_reducible exact Tryz.isAgg92)|(with_reducible exact Tryz.isAgg95)|(with_reducible exact Tryz.isAgg96)|(with_reducible exact Tryz.isAgg97)|(with_reducible exact Tryz.isAgg99)|(with_reducible exact Tryz.isAgg132)|(with_reducible exact Tryz.isAgg135)|(with_reducible exact Tryz.isAgg146)|(with_reducible exact Tryz.isAgg149)|(with_reducible exact Tryz.isAgg154)|(with_reducible exact Tryz.isAgg164)|(with_reducible exact Tryz.isAgg166)|(with_reducible exact Tryz.isAgg202)|(with_reducible exact Tryz.isAgg210)|(with_reducible exact Tryz.isAgg214)|(with_reducible exact Tryz.isAgg229)|(with_reducible exact Tryz.isAgg233)|(with_reducible exact Tryz.isAgg264)|(with_reducible exact Tryz.isAgg276)|(with_reducible exact Tryz.isAgg319)|(with_reducible exact Tryz.isAgg336)|(with_reducible exact Tryz.isAgg384)):P:=h
theorem Tp (h:P:=by first|exact A0|exact A1|exact A2|exact A3|exact A4|exact A5|exact A6|exact A7|exact A8|exact A9):P:=h
theorem Tq (h:P:=by first|exact trivial|exact zI):P:=h
theorem gu (h:P:=by(try(conv=>arg 2;whnf));first|(with_reducible exact Tryz.sizeOf3)|(with_reducible exact Tryz.sizeOf4)|(with_reducible exact Tryz.sizeOf5)|(with_reducible exact Tryz.sizeOf9)|(with_reducible exact Tryz.sizeOf22)|(with_reducible exact Tryz.sizeOf24)|(with_reducible exact Tryz.sizeOf27)|(with_reducible exact Tryz.sizeOf28)|(with_reducible exact Tryz.sizeOf31)|(with_reducible exact Tryz.sizeOf34)|(with_reducible exact Tryz.sizeOf36)|(with_reducible exact Tryz.sizeOf38)|(with_reducible exact Tryz.sizeOf41)|(with_reducible exact Tryz.sizeOf44)|(with_reducible exact Tryz.sizeOf46)|(with_reducible exact Tryz.sizeOf50)|(with_reducible exact Tryz.sizeOf52)|(with_reducible exact Tryz.sizeOf53)|(with_reducible exact Tryz.sizeOf55)|(with_reducible exact Tryz.sizeOf57)|(with_reducible exact Tryz.sizeOf59)|(with_reducible exact Tryz.sizeOf61)|(with_reducible exact Tryz.sizeOf63)|(with_reducible exact Tryz.sizeOf64)|(with_reducible exact Tryz.sizeOf67)|(with_reducible exact Tryz.sizeOf81)|(with_reducible exact Tryz.sizeOf84)|(with_reducible exact Tryz.sizeOf92)|(with_reducible exact Tryz.sizeOf95)|(with_reducible exact Tryz.sizeOf96)|(with_reducible exact Tryz.sizeOf97)|(with_reducible exact Tryz.sizeOf99)|(with_reducible exact Tryz.sizeOf101)|(with_reducible exact Tryz.sizeOf135)|(with_reducible exact Tryz.sizeOf146)|(with_reducible exact Tryz.sizeOf149)|(with_reducible exact Tryz.sizeOf162)|(with_reducible exact Tryz.sizeOf164)|(with_reducible exact Tryz.sizeOf166)|(with_reducible exact Tryz.sizeOf183)|(with_reducible exact Tryz.sizeOf202)|(with_reducible exact Tryz.sizeOf210)|(with_reducible exact Tryz.sizeOf214)|(with_reducible exact Tryz.sizeOf229)|(with_reducible exact Tryz.sizeOf233)|(with_reducible exact Tryz.sizeOf261)|(with_reducible exact Tryz.sizeOf263)|(with_reducible exact Tryz.sizeOf264)|(with_reducible exact Tryz.sizeOf276)|(with_reducible exact Tryz.sizeOf279)|(with_reducible exact Tryz.sizeOf281)|(with_reducible exact Tryz.sizeOf336)|(with_reducible exact Tryz.sizeOf355)|(with_reducible exact Tryz.sizeOf373)):P:=h
theorem bJ (h:P:=by first|(with_reducible exact Tryz.underlying3)|(with_reducible exact Tryz.underlying5)|(with_reducible exact Tryz.underlying22)|(with_reducible exact Tryz.underlying24)|(with_reducible exact Tryz.underlying27)|(with_reducible exact Tryz.underlying28)|(with_reducible exact Tryz.underlying31)|(with_reducible exact Tryz.underlying32)|(with_reducible exact Tryz.underlying34)|(with_reducible exact Tryz.underlying36)|(with_reducible exact Tryz.underlying38)|(with_reducible exact Tryz.underlying41)|(with_reducible exact Tryz.underlying44)|(with_reducible exact Tryz.underlying46)|(with_reducible exact Tryz.underlying50)|(with_reducible exact Tryz.underlying52)|(with_reducible exact Tryz.underlying53)|(with_reducible exact Tryz.underlying55)|(with_reducible exact Tryz.underlying57)|(with_reducible exact Tryz.underlying59)|(with_reducible exact Tryz.underlying64)|(with_reducible exact Tryz.underlying76)|(with_reducible exact Tryz.underlying81)|(with_reducible exact Tryz.underlying84)|(with_reducible exact Tryz.underlying92)|(with_reducible exact Tryz.underlying95)|(with_reducible exact Tryz.underlying96)|(with_reducible exact Tryz.underlying97)|(with_reducible exact Tryz.underlying99)|(with_reducible exact Tryz.underlying101)|(with_reducible exact Tryz.underlying135)|(with_reducible exact Tryz.underlying146)|(with_reducible exact Tryz.underlying149)|(with_reducible exact Tryz.underlying162)|(with_reducible exact Tryz.underlying164)|(with_reducible exact Tryz.underlying166)|(with_reducible exact Tryz.underlying189)|(with_reducible exact Tryz.underlying194)|(with_reducible exact Tryz.underlying202)|(with_reducible exact Tryz.underlying210)|(with_reducible exact Tryz.underlying214)|(with_reducible exact Tryz.underlying229)|(with_reducible exact Tryz.underlying233)|(with_reducible exact Tryz.underlying263)|(with_reducible exact Tryz.underlying281)|(with_reducible exact Tryz.underlying283)|(with_reducible exact Tryz.underlying332)|(with_reducible exact Tryz.underlying336)|(with_reducible exact Tryz.underlying339)|(with_reducible exact Tryz.underlying355)|(with_reducible exact Tryz.underlying373)):P:=h
theorem rA (h:P:=by first|(with_reducible exact Tryz.zeroValue34)|(with_reducible exact Tryz.zeroValue214)|(with_reducible exact Tryz.zeroValue332)|(with_reducible exact Tryz.zeroValue373)):P:=h
theorem zR (h:P:=by repeat(first|exact trivial|refine⟨rfl,?_⟩)):P:=h
theorem zcg (h:P:=by intro cv L' H' hd hP;(rcases cv with _|⟨v1,_|⟨v2,_|⟨_,_⟩⟩⟩<;>try exact False.elim hP);all_goals(first|obtain⟨rfl,rfl⟩:=hP|obtain⟨b6,rfl,rfl,rfl,gV,we⟩:=hP|obtain⟨b6,b7,c7,s7,rfl,rfl,rfl,rfl,gV,we,oP,M4,tU⟩:=hP);all_goals(first|exact X.val rfl rfl (aa isAgg3 rfl A0 aM aD zI rfl) R2)):P:=h
theorem zch (h:P:=by intro cv L' H' hd hP;(rcases cv with _|⟨v1,_|⟨v2,_|⟨v3,_|⟨_,_⟩⟩⟩⟩<;>try exact False.elim hP);all_goals(first|obtain⟨rfl,rfl⟩:=hP|obtain⟨b6,rfl,rfl,rfl,gV,we⟩:=hP|obtain⟨b6,b7,c7,s7,rfl,rfl,rfl,rfl,gV,we,oP,M4,tU⟩:=hP|obtain⟨b6,b7,c7,s7,ki,Uv,Pm,rfl,rfl,rfl,rfl,rfl,gV,we,oP,M4,tU,Pn,X7,Po⟩:=hP);all_goals(first|exact X.val rfl rfl (aa isAgg9 rfl A0 aM aD zI rfl) R2)):P:=h
theorem zci (h:P:=by intro cv L' H' hd hP;(rcases cv with _|⟨v1,_|⟨v2,_|⟨_,_⟩⟩⟩<;>try exact False.elim hP);all_goals(first|obtain⟨rfl,rfl⟩:=hP|obtain⟨b9,rfl,rfl,rfl,qD,DA⟩:=hP|obtain⟨b9,kj,sC,wg,rfl,rfl,rfl,rfl,qD,DA,DB,Je,sD⟩:=hP);all_goals(first|exact X.val rfl rfl (aa isAgg146 rfl A0 ew eR zI rfl) R2|exact X.val rfl rfl (aa isAgg146 rfl A0 ew eR trivial rfl) R2)):P:=h
theorem zcj (h:P:=by intro cv L' H' hd hP;(rcases cv with _|⟨v1,_|⟨v2,_|⟨v3,_|⟨v4,_|⟨v5,_|⟨_,_⟩⟩⟩⟩⟩⟩<;>try exact False.elim hP);all_goals(first|obtain⟨rfl,rfl⟩:=hP|obtain⟨bw,bv,eb,rfl,rfl,rfl,rfl,rfl,rfl,rfl,e1,e2,e3,e4,e5,e6,e7⟩:=hP|obtain⟨bw,bv,eb,rfl,rfl,rfl,rfl,rfl,rfl,e1,e2,e3,e4,e5,e6,e7⟩:=hP|obtain⟨bw,bv,eb,rfl,rfl,rfl,rfl,rfl,e1,e2,e3,e4,e5,e6,e7⟩:=hP|obtain⟨bw,bv,eb,rfl,rfl,rfl,rfl,e1,e2,e3,e4,e5,e6,e7⟩:=hP|obtain⟨bw,bv,eb,rfl,rfl,rfl,e1,e2,e3,e4,e5,e6,e7⟩:=hP);all_goals(first|exact X.val rfl rfl (aa isAgg3 rfl A0 aQ aX trivial rfl) R2|exact X.val rfl rfl (aa isAgg3 rfl A1 aQ aX trivial rfl) R2|exact X.val rfl rfl (ae isAgg149 sizeOf149 rfl A0 aQ aX trivial rfl) R2|exact X.val rfl rfl (ae isAgg149 sizeOf149 rfl A1 aQ aX trivial rfl) R2)):P:=h
theorem YI (h:P:=by intro cv L' H' hd hP;(rcases cv with _|⟨v1,_|⟨_,_⟩⟩<;>try exact False.elim hP);all_goals(first|obtain⟨rfl,rfl⟩:=hP|obtain⟨b4,rfl,rfl,rfl,dO,P1,dU⟩:=hP);all_goals(first|exact X.val rfl rfl (ae isAgg84 sizeOf84 rfl A0 aQ aX zI rfl) R2|exact X.val rfl rfl (aa isAgg3 rfl A0 aQ aX zI rfl) R2)):P:=h
theorem UM (h:P:=by intro cv L' H' hl hd hP;(obtain⟨eY,jG,rfl⟩:=iL hl;rcases eY with _|v12<;>rcases jG with _|mF<;>try exact False.elim hP);all_goals(first|obtain⟨rfl,rfl⟩:=hP|obtain⟨ey,rfl,rfl,rfl,mZ,uZ⟩:=hP|obtain⟨b3,rfl,rfl,rfl,cd,P3⟩:=hP|obtain⟨ey,b3,rfl,rfl,rfl,rfl,mZ,uZ,cd,P3⟩:=hP);all_goals(first|exact X.val rfl rfl (ai isAgg34 sizeOf34 rfl A0 aQ aX trivial (bj rfl)) R2|exact X.val rfl rfl (ai isAgg34 sizeOf34 rfl A0 aQ aX zI (bj rfl)) R2|exact X.val rfl rfl (aa isAgg3 rfl A0 aQ aX trivial rfl) R2|exact X.val rfl rfl (aa isAgg3 rfl A0 aQ aX zI rfl) R2)):P:=h
theorem YT (h:P:=by intro cv L' H' hd hP;(rcases cv with _|⟨v1,_|⟨_,_⟩⟩<;>try exact False.elim hP);all_goals(first|obtain⟨rfl,rfl⟩:=hP|obtain⟨dR,rfl,rfl,rfl,gU,YU,YV,DR⟩:=hP);all_goals(first|exact X.val rfl rfl (ae isAgg38 sizeOf38 rfl A1 eo eH zI rfl) R2|exact nf call13 rfl rfl (λW hS _=>by rw[<-P9];exact UL hZ l hl W (hg.old hS A2 zS zM)) (λ_=>rfl)|exact X.val rfl rfl (ai isAgg34 sizeOf34 rfl A0 MS MT zI (bj rfl)) R2)):P:=h
theorem zcn (h:P:=by intro cv L' H' hd hP;(rcases cv with _|⟨v1,_|⟨_,_⟩⟩<;>try exact False.elim hP);all_goals(first|obtain⟨rfl,rfl⟩:=hP|obtain⟨b7,rfl,rfl,rfl,gd⟩:=hP);all_goals(first|exact X.val rfl rfl (aa isAgg3 rfl A0 eo eH trivial rfl) R2|exact X.val rfl rfl (aa isAgg3 rfl A0 eo eH zI rfl) R2)):P:=h
theorem zco (h:P:=by intro cv L' H' hd hP;(rcases cv with _|⟨v1,_|⟨_,_⟩⟩<;>try exact False.elim hP);all_goals(first|obtain⟨rfl,rfl⟩:=hP|obtain⟨Ca,Cb,rfl,rfl,rfl,DI,Jm,DJ⟩:=hP);all_goals(first|exact X.val rfl rfl (aK (i:=0) rfl isAgg44 rfl rfl) R2|exact X.val rfl rfl (aa isAgg382 rfl A1 aM aD Lj rfl) R2|exact X.val rfl rfl (aa isAgg382 rfl A2 aM aD Lj rfl) R2)):P:=h
theorem HE (h:P:=by intro cv L' H' hd hP;(rcases cv with _|⟨v1,_|⟨_,_⟩⟩<;>try exact False.elim hP);all_goals(first|obtain⟨rfl,rfl⟩:=hP|obtain⟨a7,c7,w7,rfl,rfl,rfl,jH⟩:=hP);all_goals(first|exact X.val rfl rfl (aa isAgg52 rfl A0 aQ aX trivial rfl) R2|exact X.val rfl rfl (aa isAgg52 rfl A1 aQ aX trivial rfl) R2|exact X.val rfl rfl (ai isAgg55 sizeOf55 rfl A0 aQ aX trivial (bj rfl)) R2|exact X.val rfl rfl (ai isAgg55 sizeOf55 rfl A1 aQ aX trivial (bj rfl)) R2)):P:=h
theorem NF (h:P:=by intro cv L' H' hd hP;(rcases cv with _|⟨v1,_|⟨v2,_|⟨v3,_|⟨v4,_|⟨_,_⟩⟩⟩⟩⟩<;>try exact False.elim hP);all_goals(first|obtain⟨rfl,rfl⟩:=hP|obtain⟨jv,rfl,rfl,rfl,iq⟩:=hP|obtain⟨jv,bn,cn,sn,rfl,rfl,rfl,rfl,rfl,iq,hfn,HM⟩:=hP|obtain⟨jv,bn,cn,sn,rfl,rfl,rfl,rfl,iq,hfn,HM⟩:=hP|obtain⟨jv,bn,cn,sn,mL,rfl,rfl,rfl,rfl,rfl,rfl,iq,hfn,HM,hfo⟩:=hP);all_goals(first|exact X.val rfl rfl (aK (i:=3) rfl isAgg146 rfl rfl) R2|exact X.val rfl rfl (aK (i:=4) rfl isAgg146 rfl rfl) R2|exact X.val rfl rfl (aK (i:=5) rfl isAgg146 rfl rfl) R2|exact X.val rfl rfl (aK (i:=6) rfl isAgg146 rfl rfl) R2|exact X.val rfl rfl (aK (i:=0) rfl isAgg3 rfl rfl) R2|exact X.val rfl rfl (aK (i:=1) rfl isAgg3 rfl rfl) R2|exact X.val rfl rfl (aK (i:=2) rfl isAgg3 rfl rfl) R2|exact X.val rfl rfl (aK (i:=3) rfl isAgg3 rfl rfl) R2)):P:=h
theorem zr (h:P:=by intro cv L' H' hd hP;(rcases cv with _|⟨v1,_|⟨v2,_|⟨v3,_|⟨_,_⟩⟩⟩⟩<;>try exact False.elim hP);all_goals(first|obtain⟨rfl,rfl⟩:=hP|obtain⟨bn,rfl,rfl,rfl,rfl,hfn⟩:=hP|obtain⟨bn,rfl,rfl,rfl,hfn⟩:=hP|obtain⟨bn,mL,rfl,rfl,rfl,rfl,rfl,hfn,hfo⟩:=hP);all_goals(first|exact X.val rfl rfl (aK (i:=2) rfl isAgg146 rfl rfl) R2|exact X.val rfl rfl (aK (i:=3) rfl isAgg146 rfl rfl) R2|exact X.val rfl rfl (aK (i:=4) rfl isAgg146 rfl rfl) R2|exact X.val rfl rfl (aK (i:=0) rfl isAgg3 rfl rfl) R2|exact X.val rfl rfl (aK (i:=1) rfl isAgg3 rfl rfl) R2|exact X.val rfl rfl (aK (i:=2) rfl isAgg3 rfl rfl) R2|exact X.val rfl rfl (aK (i:=0) rfl isAgg64 rfl rfl) R2|exact X.val rfl rfl (aK (i:=1) rfl isAgg64 rfl rfl) R2|exact X.val rfl rfl (aK (i:=2) rfl isAgg64 rfl rfl) R2|exact nf call143 rfl rfl (λW hS _=>Rm x.w.body N x.w.ba x.w.bc W (aR hN (hS.links w A1).size) (mj.up ox (ao _) (λk hk=>(hS.links w A1).block k zJ (λhx=>by first|(rcases hx with hx|hx;(exact hx);simp only[gP,eh,iB,eP,dK,dH,cQ,cI,fu,or_false]at hx;rcases hx with hx|hx|hx|hx|hx<;>first|omega|(have:=hq _ hx;omega)|(have h9:=hfn.not (w:=w) A1;omega)|(have h9:=hfo.not (w:=w) A1;omega))|fail)))) (λ_=>rfl)|exact nf call143 rfl rfl (λW hS _=>Rm x.w.body N x.w.ba x.w.bc W (aR hN (hS.links w A1).size) (mj.up ox (ao _) (λk hk=>(hS.links w A1).block k zJ (λhx=>by first|(rcases hx with hx|hx;(exact hx);simp only[gP,eh,iB,eP,dK,dH,cQ,cI,fu,or_false]at hx;rcases hx with hx|hx|hx|hx|hx|hx<;>first|omega|(have:=hq _ hx;omega)|(have h9:=hfn.not (w:=w) A1;omega)|(have h9:=hfo.not (w:=w) A1;omega))|fail)))) (λ_=>rfl)|exact nf call143 rfl rfl (λW hS _=>Rm x.w.body N x.w.ba x.w.bc W (aR hN (hS.links w A1).size) (mj.up ox (ao _) (λk hk=>(hS.links w A1).block k zJ (λhx=>by first|(rcases hx with hx|hx;(exact hx);simp only[gP,eh,iB,eP,dK,dH,cQ,cI,fu,or_false]at hx;rcases hx with hx|hx|hx|hx|hx|hx|hx<;>first|omega|(have:=hq _ hx;omega)|(have h9:=hfn.not (w:=w) A1;omega)|(have h9:=hfo.not (w:=w) A1;omega))|fail)))) (λ_=>rfl)|exact X.val rfl rfl (aK (i:=1) rfl isAgg146 rfl rfl) R2)):P:=h
theorem zu (h:P:=by intro cv L' H' hd hP;(rcases cv with _|⟨v1,_|⟨v2,_|⟨_,_⟩⟩⟩<;>try exact False.elim hP);all_goals(first|obtain⟨rfl,rfl⟩:=hP|obtain⟨rK,rfl,rfl,rfl,rfl,ml,mm⟩:=hP|obtain⟨rK,rfl,rfl,rfl,ml,mm⟩:=hP);all_goals(first|exact X.val rfl rfl (aa isAgg3 rfl A0 aQ aX zEd rfl) R2|exact nf call143 rfl rfl (λW hS _=>by have h1:=hS.old A0 aQ aX zMd;have h2:=Rm (dc c.par) W.heap.size (some ⟨b1,2,none⟩) 32 W (ao _) (.inr ⟨b1,2,rfl,(aT.1 h1).1,cC.dgo h1 rfl (bj rfl) oZ.bp⟩);rw[ND]at h2;exact h2) (λ_=>rfl)|exact X.val rfl rfl (aO (i:=2) rfl isAgg149 sizeOf149 rfl rfl) R2|exact X.val rfl rfl (aa isAgg44 rfl A0 aQ aX zEd rfl) R2|exact X.val rfl rfl (aO (i:=1) rfl isAgg149 sizeOf149 rfl rfl) R2|exact X.val rfl rfl (aO (i:=0) rfl isAgg149 sizeOf149 rfl rfl) R2|exact nf call143 rfl rfl (λW hS _=>by have h1:=hS.old A0 aQ aX zMd;have h2:=Rm (dc c.conf) W.heap.size (some ⟨b1,39,none⟩) 32 W (ao _) (.inr ⟨b1,39,rfl,(aT.1 h1).1,cC.dgo h1 rfl (bj rfl) oZ.bf⟩);rw[ND]at h2;exact h2) (λ_=>rfl))):P:=h
theorem o6 (h:P:=by intro cv L' H' hd hP;(rcases cv with _|⟨v1,_|⟨_,_⟩⟩<;>try exact False.elim hP);all_goals(first|obtain⟨rfl,rfl⟩:=hP|obtain⟨aw,cw,ww,rfl,rfl,rfl,o7,rk⟩:=hP);all_goals(first|exact X.val rfl rfl (aa isAgg96 rfl A1 aM aD zI rfl) R2|exact X.val rfl rfl (aa isAgg96 rfl A2 aM aD zI rfl) R2|exact nf call149 rfl rfl (λW hS _=>by have h9:=nnb c.bxs zJ W.heap.size c.ba c.bc W (ao _) (hC.bxs.up (aR hN (hS.links w A3).size) (hS.same A3 hN zS zM)) (gp G.g c.author c.chs) an cn (ri.to hS A0 (ao _) (λb off e=>.inr zzc));rw[show jo HN c.bxs (gp G.g c.author c.chs)=true from hb]at h9;exact h9) (λ_=>rfl)|exact nf call149 rfl rfl (λW hS _=>by have h9:=nnb c.bxs zJ W.heap.size c.ba c.bc W (ao _) (hC.bxs.up (aR hN (hS.links w A4).size) (hS.same A4 hN zS zM)) (gp G.g c.author c.chs) an cn (ri.to hS A1 (ao _) (λb off e=>.inr zzc));rw[show jo HN c.bxs (gp G.g c.author c.chs)=true from hb]at h9;exact h9) (λ_=>rfl)|exact X.val rfl rfl (aa isAgg97 rfl A1 aM aD zI rfl) R2|exact X.val rfl rfl (aa isAgg97 rfl A2 aM aD zI rfl) R2|exact X.val rfl rfl (aa isAgg3 rfl A1 aM aD zI rfl) R2|exact X.val rfl rfl (aa isAgg3 rfl A2 aM aD zI rfl) R2|exact X.val rfl rfl (aa isAgg95 rfl A1 aM aD zI rfl) R2|exact X.val rfl rfl (aa isAgg95 rfl A2 aM aD zI rfl) R2)):P:=h
theorem qv (h:P:=by intro cv L' H' hd hP;(rcases cv with _|⟨v1,_|⟨_,_⟩⟩<;>try exact False.elim hP);all_goals(first|obtain⟨rfl,rfl⟩:=hP|obtain⟨bm,wm,rfl,rfl,rfl,ku,hgm⟩:=hP);all_goals(first|exact X.val rfl rfl (ae isAgg57 sizeOf57 rfl A3 aU aN zI rfl) R2|exact X.val rfl rfl (ae isAgg57 sizeOf57 rfl A4 aU aN zI rfl) R2|exact X.val rfl rfl (aa isAgg3 rfl A2 aM aD zI rfl) R2|exact X.val rfl rfl (aa isAgg3 rfl A3 aM aD zI rfl) R2|exact X.val rfl rfl (aa isAgg95 rfl A2 aM aD zI rfl) R2|exact X.val rfl rfl (aa isAgg95 rfl A3 aM aD zI rfl) R2|exact nf call152 rfl rfl (λW hS _=>nOb G N W (aR hN (hS.links w A4).size) (hG.up (ao _) (hS.same A4 hN zS zM)) c.chs zJ c.ca c.cc (hC.chs.up (ao _) (hS.same A4 hN zS zM)) c.author (λhm=>nqe o8 rh hm)) (λ_=>rfl)|exact nf call152 rfl rfl (λW hS _=>nOb G N W (aR hN (hS.links w A5).size) (hG.up (ao _) (hS.same A5 hN zS zM)) c.chs zJ c.ca c.cc (hC.chs.up (ao _) (hS.same A5 hN zS zM)) c.author (λhm=>nqe o8 rh hm)) (λ_=>rfl)|exact X.val rfl rfl (ae isAgg99 sizeOf99 rfl A2 aM aD zI rfl) R2|exact X.val rfl rfl (ae isAgg99 sizeOf99 rfl A3 aM aD zI rfl) R2|exact X.val rfl rfl (ai isAgg36 sizeOf36 rfl A2 aM aD zI (bj rfl)) R2|exact X.val rfl rfl (ai isAgg36 sizeOf36 rfl A3 aM aD zI (bj rfl)) R2)):P:=h
theorem HT (h:P:=by intro cv L' H' hd hP;(rcases cv with _|⟨v1,_|⟨v2,_|⟨v3,_|⟨v4,_|⟨v5,_|⟨_,_⟩⟩⟩⟩⟩⟩<;>try exact False.elim hP);all_goals(first|obtain⟨rfl,rfl⟩:=hP|obtain⟨ta,tc,wr,rfl,rfl,rfl,mK,eX,oW⟩:=hP|obtain⟨ta,tc,wr,r8,rfl,rfl,rfl,rfl,rfl,rfl,rfl,mK,eX,oW,jO,fg,eS⟩:=hP|obtain⟨ta,tc,wr,r8,rfl,rfl,rfl,rfl,rfl,rfl,mK,eX,oW,jO,fg,eS⟩:=hP|obtain⟨ta,tc,wr,r8,rfl,rfl,rfl,rfl,rfl,mK,eX,oW,jO,fg,eS⟩:=hP|obtain⟨ta,tc,wr,r8,rfl,rfl,rfl,rfl,mK,eX,oW,jO,fg,eS⟩:=hP);all_goals(first|exact X.val rfl rfl (ae isAgg57 sizeOf57 rfl A4 aU aN E5 rfl) R2|exact X.val rfl rfl (ae isAgg57 sizeOf57 rfl A5 aU aN E5 rfl) R2|exact X.val rfl rfl (aa isAgg95 rfl A3 aM aD E5 rfl) R2|exact X.val rfl rfl (aa isAgg95 rfl A4 aM aD E5 rfl) R2|exact X.val rfl rfl (aa isAgg3 rfl A3 aM aD E5 rfl) R2|exact X.val rfl rfl (aa isAgg3 rfl A4 aM aD E5 rfl) R2|exact X.val rfl rfl (aa isAgg44 rfl A3 aM aD E5 rfl) R2|exact X.val rfl rfl (aa isAgg44 rfl A4 aM aD E5 rfl) R2)):P:=h
theorem zcw (h:P:=by intro cv L' H' hl hd hP;(obtain⟨x3,x4,x8,x9,rfl⟩:=pH hl;rcases x3 with _|v3<;>rcases x4 with _|v4<;>rcases x8 with _|v8<;>rcases x9 with _|v9<;>try exact False.elim hP);all_goals(first|obtain⟨rfl,rfl⟩:=hP|obtain⟨gj,rfl,rfl,rfl,iP⟩:=hP|obtain⟨gl,rfl,rfl,rfl,ji⟩:=hP|obtain⟨gj,gl,rfl,rfl,rfl,rfl,iP,ji⟩:=hP|obtain⟨gj,iM,eK,fA,rfl,rfl,rfl,rfl,iP,lz,eL⟩:=hP|obtain⟨gj,iM,eK,fA,gl,rfl,rfl,rfl,rfl,rfl,iP,lz,eL,ji⟩:=hP|obtain⟨gj,iM,eK,fA,gl,uB,oy,p4,rfl,rfl,rfl,rfl,rfl,rfl,iP,lz,eL,ji,mv,kA⟩:=hP);all_goals(first|exact X.val rfl rfl (aK (i:=3) rfl isAgg41 rfl rfl) R2|exact X.val rfl rfl (aK (i:=4) rfl isAgg41 rfl rfl) R2|exact X.val rfl rfl (aK (i:=5) rfl isAgg41 rfl rfl) R2|exact X.val rfl rfl (aO (i:=0) rfl isAgg34 sizeOf34 rfl rfl) R2|exact X.val rfl rfl (aO (i:=1) rfl isAgg34 sizeOf34 rfl rfl) R2|exact X.val rfl rfl (aO (i:=2) rfl isAgg34 sizeOf34 rfl rfl) R2|exact X.val rfl rfl (aK (i:=3) rfl isAgg44 rfl rfl) R2|exact X.val rfl rfl (aK (i:=4) rfl isAgg44 rfl rfl) R2|exact X.val rfl rfl (aK (i:=5) rfl isAgg44 rfl rfl) R2)):P:=h
theorem Lm (h:P:=by intro cv L' H' hd hP;(rcases cv with _|⟨v1,_|⟨_,_⟩⟩<;>try exact False.elim hP);all_goals(first|obtain⟨rfl,rfl⟩:=hP|obtain⟨NV,rfl,rfl,rfl,abD⟩:=hP);all_goals(first|exact X.val rfl rfl (aO (i:=1) rfl isAgg99 sizeOf99 rfl rfl) R2|exact X.val rfl rfl (aO (i:=2) rfl isAgg99 sizeOf99 rfl rfl) R2|exact X.val rfl rfl (aa isAgg41 rfl A1 aU aN Lj rfl) R2|exact X.val rfl rfl (RV.re (v':=.agg (dg (aI Z c))) (ai isAgg34 sizeOf34 rfl A2 qU zU Sj (nk qV C2 rfl)) (va (nr qV C2 rfl))) R2|exact X.val rfl rfl (ae isAgg57 sizeOf57 rfl A0 aM aD Lj rfl) R2|exact X.val rfl rfl (aK (i:=1) rfl isAgg3 rfl rfl) R2|exact X.val rfl rfl (aK (i:=2) rfl isAgg3 rfl rfl) R2|exact nf call163 rfl rfl (λW hS _=>nIm G N W (aR hN (hS.links w A2).size) (hG.up (ao _) (hS.same A2 hN zS Sk)) c.author) (λ_=>rfl)|exact X.val rfl rfl (aO (i:=0) rfl isAgg57 sizeOf57 rfl rfl) R2|exact X.val rfl rfl (aO (i:=1) rfl isAgg57 sizeOf57 rfl rfl) R2)):P:=h
theorem Ss (h:P:=by intro cv L' H' hl hd hP;(obtain⟨eY,ix,jG,tv,tw,rfl⟩:=gT hl;rcases eY with _|v12<;>rcases ix with _|jW<;>rcases jG with _|mF<;>rcases tv with _|rn<;>rcases tw with _|v17<;>try exact False.elim hP);all_goals(first|obtain⟨rfl,rfl⟩:=hP|obtain⟨b7,rfl,rfl,rfl,gd⟩:=hP|obtain⟨Xn,dC,rfl,rfl,rfl,rfl,rfl,eQ,gy,iQ,iR⟩:=hP|obtain⟨Xn,dC,rfl,rfl,rfl,rfl,eQ,gy,iQ,iR⟩:=hP|obtain⟨Xn,dC,rfl,rfl,rfl,eQ,gy,iQ,iR⟩:=hP|obtain⟨Xn,dC,b7,rfl,rfl,rfl,rfl,rfl,rfl,rfl,eQ,gy,iQ,iR,gd,mM⟩:=hP|obtain⟨Xn,dC,b7,rfl,rfl,rfl,rfl,rfl,rfl,eQ,gy,iQ,iR,gd,mM⟩:=hP|obtain⟨Xn,dC,b7,rfl,rfl,rfl,rfl,rfl,eQ,gy,iQ,iR,gd,mM⟩:=hP|obtain⟨Xn,dC,b7,rfl,rfl,rfl,rfl,eQ,gy,iQ,iR,gd,mM⟩:=hP);all_goals(first|exact X.val rfl rfl (aa isAgg3 rfl A0 aM aD zI rfl) R2|exact X.val rfl rfl (aa isAgg3 rfl A1 aM aD zI rfl) R2|exact X.val rfl rfl (aa isAgg24 rfl A1 aU aN zI rfl) R2|exact X.val rfl rfl (aa isAgg24 rfl A2 aU aN zI rfl) R2|exact X.val rfl rfl (aa isAgg44 rfl A1 aU aN zI rfl) R2|exact X.val rfl rfl (aa isAgg44 rfl A2 aU aN zI rfl) R2|exact X.val rfl rfl (aa (v:=.int .i64 (i:Int)) isAgg3 rfl A2 AD zU Oz V7) R2|exact X.val rfl rfl (aa (v:=.int .i64 (i:Int)) isAgg3 rfl A3 AD zU Oz V7) R2|exact X.val rfl rfl (RV.re (v':=.agg (dI c)) (ai isAgg99 sizeOf99 rfl A2 ts zU Oz (nk lA hc rfl)) (va (nr lA hc rfl))) R2|exact X.val rfl rfl (RV.re (v':=.agg (dI c)) (ai isAgg99 sizeOf99 rfl A3 ts zU Oz (nk lA hc rfl)) (va (nr lA hc rfl))) R2)):P:=h
theorem CN (h:P:=by intro cv L' H' hd hP;(rcases cv with _|⟨v1,_|⟨_,_⟩⟩<;>try exact False.elim hP);all_goals(first|obtain⟨rfl,rfl,rfl⟩:=hP|obtain⟨rfl,rfl⟩:=hP);all_goals(first|exact X.val rfl rfl (aa isAgg44 rfl A2 aU aN zI rfl) R2|exact X.val rfl rfl (aa (v:=.int .i64 (i:Int)) isAgg3 rfl A3 AD zU Oz V7) R2|exact X.val rfl rfl (aa isAgg24 rfl A2 aU aN zI rfl) R2|exact X.val rfl rfl (RV.re (v':=.agg (dI c)) (ai isAgg99 sizeOf99 rfl A3 ts zU Oz (nk lA hc rfl)) (va (nr lA hc rfl))) R2|exact X.val rfl rfl (ai isAgg34 sizeOf34 rfl A1 aM aD zI (bj rfl)) R2|exact X.val rfl rfl (aO (i:=0) rfl isAgg57 sizeOf57 rfl rfl) R2|exact X.val rfl rfl (aK (i:=1) rfl isAgg44 rfl rfl) R2|exact X.val rfl rfl (aK (i:=0) rfl isAgg46 rfl rfl) R2)):P:=h
theorem zcA (h:P:=by intro cv L' H' hd hP;(rcases cv with _|⟨v1,_|⟨v2,_|⟨_,_⟩⟩⟩<;>try exact False.elim hP);all_goals(first|obtain⟨rfl,rfl,rfl,rfl⟩:=hP|obtain⟨rfl,rfl,rfl⟩:=hP|obtain⟨rfl,rfl⟩:=hP);all_goals(first|exact X.val rfl rfl ((by first|exact RV.re (v':=.agg (plA y)) (dd (i:=0) rfl isAgg135 sizeOf135 rfl (HP (j:=j1) nG zJ)) (va (HO (j:=j1) (sp:=sp) nG hy))|exact RV.re (v':=.agg (plA y)) (dd (i:=0) rfl isAgg135 sizeOf135 rfl (HP (j:=j1) nG (by simp only[FD];omega))) (va (HO (j:=j1) (sp:=sp) nG (by rw[F8 zJ];exact hy))))) R2)):P:=h
theorem CR (h:P:=by intro cv L' H' hd hP;(rcases cv with _|⟨v1,_|⟨_,_⟩⟩<;>try exact False.elim hP);all_goals(first|obtain⟨rfl,rfl⟩:=hP|obtain⟨ry,uD,rfl,rfl,rfl,oD⟩:=hP);all_goals(first|exact X.val rfl rfl (ae isAgg84 sizeOf84 rfl A0 eo eH trivial rfl) R2|exact X.val rfl rfl (ae isAgg84 sizeOf84 rfl A1 eo eH trivial rfl) R2|exact nf call26 rfl rfl (λW hS _=>by have h9:=nH p W;rwa[hv]at h9) (λ_=>rfl)|exact X.val rfl rfl (RV.re (v':=.bool true) (aa isAgg4 rfl A0 eo eH trivial rfl) (vb hr)) R2|exact X.val rfl rfl (RV.re (v':=.bool true) (aa isAgg4 rfl A1 eo eH trivial rfl) (vb hr)) R2|exact X.val rfl rfl (aa isAgg3 rfl A0 eo eH trivial rfl) R2|exact X.val rfl rfl (aa isAgg3 rfl A1 eo eH trivial rfl) R2|exact X.val rfl rfl (aa isAgg3 rfl A1 ew eR trivial rfl) R2|exact X.val rfl rfl (aa isAgg3 rfl A2 ew eR trivial rfl) R2|exact X.val rfl rfl (ae isAgg84 sizeOf84 rfl A1 ew eR trivial rfl) R2|exact X.val rfl rfl (ae isAgg84 sizeOf84 rfl A2 ew eR trivial rfl) R2|exact X.val rfl rfl (ai isAgg36 sizeOf36 rfl A1 ew eR trivial (bj rfl)) R2|exact X.val rfl rfl (ai isAgg36 sizeOf36 rfl A2 ew eR trivial (bj rfl)) R2)):P:=h
theorem vF (h:P:=by intro cv L' H' hd hP;(rcases cv with _|⟨v1,_|⟨v2,_|⟨_,_⟩⟩⟩<;>try exact False.elim hP);all_goals(first|obtain⟨rfl,rfl⟩:=hP|obtain⟨jy,rfl,rfl,rfl,gr,cW⟩:=hP|obtain⟨jy,ry,uD,rfl,rfl,rfl,rfl,gr,cW,oD,Bb⟩:=hP);all_goals(first|exact X.val rfl rfl (ae isAgg84 sizeOf84 rfl A0 eo eH qf rfl) R2|exact X.val rfl rfl (ae isAgg84 sizeOf84 rfl A1 eo eH qf rfl) R2|exact nf call26 rfl rfl (λW hS _=>by have h9:=nH p W;rwa[hv]at h9) (λ_=>rfl)|exact X.val rfl rfl (RV.re (v':=.bool true) (aa isAgg4 rfl A0 eo eH qf rfl) (vb hr)) R2|exact X.val rfl rfl (RV.re (v':=.bool true) (aa isAgg4 rfl A1 eo eH qf rfl) (vb hr)) R2|exact X.val rfl rfl (aa isAgg3 rfl A0 eo eH qf rfl) R2|exact X.val rfl rfl (aa isAgg3 rfl A1 eo eH qf rfl) R2|exact X.val rfl rfl (aa isAgg3 rfl A1 ew eR qf rfl) R2|exact X.val rfl rfl (aa isAgg3 rfl A2 ew eR qf rfl) R2|exact X.val rfl rfl (aa isAgg32 rfl A2 aM aD qf rfl) R2|exact X.val rfl rfl (aa isAgg32 rfl A3 aM aD qf rfl) R2|exact X.val rfl rfl (ae isAgg84 sizeOf84 rfl A1 ew eR qf rfl) R2|exact X.val rfl rfl (ae isAgg84 sizeOf84 rfl A2 ew eR qf rfl) R2|exact X.val rfl rfl (ai isAgg36 sizeOf36 rfl A1 ew eR qf (bj rfl)) R2|exact X.val rfl rfl (ai isAgg36 sizeOf36 rfl A2 ew eR qf (bj rfl)) R2)):P:=h
theorem CT (h:P:=by intro cv L' H' hd hP;(rcases cv with _|⟨v1,_|⟨_,_⟩⟩<;>try exact False.elim hP);all_goals(first|obtain⟨rfl,rfl⟩:=hP|obtain⟨jy,rfl,rfl,rfl,gr,cW⟩:=hP);all_goals(first|exact X.val rfl rfl (ae isAgg84 sizeOf84 rfl A0 eo eH qf rfl) R2|exact nf call26 rfl rfl (λW hS _=>by have h9:=nH p W;rwa[hv]at h9) (λ_=>rfl)|exact X.val rfl rfl (RV.re (v':=.bool true) (aa isAgg4 rfl A0 eo eH qf rfl) (vb hr)) R2|exact X.val rfl rfl (aa isAgg3 rfl A0 eo eH qf rfl) R2|exact X.val rfl rfl (aa isAgg3 rfl A1 ew eR qf rfl) R2|exact X.val rfl rfl (aa isAgg32 rfl A2 aM aD qf rfl) R2)):P:=h
theorem WG (h:P:=by intro cv L' H' hl hd hP;(obtain⟨x3,x4,x8,rfl⟩:=lT hl;rcases x3 with _|v3<;>rcases x4 with _|v4<;>rcases x8 with _|v8<;>try exact False.elim hP);all_goals(first|obtain⟨rfl,rfl⟩:=hP|obtain⟨dR,rfl,rfl,rfl,gU⟩:=hP|obtain⟨jI,rfl,rfl,rfl,pO⟩:=hP|obtain⟨dR,jI,rfl,rfl,rfl,rfl,gU,pO⟩:=hP|obtain⟨dR,ey,fy,gq,rfl,rfl,rfl,rfl,gU,jm,fb⟩:=hP|obtain⟨dR,ey,fy,gq,jI,rfl,rfl,rfl,rfl,rfl,gU,jm,fb,pO⟩:=hP);all_goals(first|exact X.val rfl rfl (aK (i:=2) rfl isAgg44 rfl rfl) R2|exact X.val rfl rfl (aK (i:=3) rfl isAgg44 rfl rfl) R2|exact X.val rfl rfl (aK (i:=4) rfl isAgg44 rfl rfl) R2|exact X.val rfl rfl (aK (i:=0) rfl isAgg3 rfl rfl) R2|exact X.val rfl rfl (aK (i:=1) rfl isAgg3 rfl rfl) R2|exact X.val rfl rfl (aK (i:=2) rfl isAgg3 rfl rfl) R2|exact X.val rfl rfl (aK (i:=1) rfl isAgg46 rfl rfl) R2|exact X.val rfl rfl (aK (i:=2) rfl isAgg46 rfl rfl) R2|exact X.val rfl rfl (aK (i:=3) rfl isAgg46 rfl rfl) R2|exact X.val rfl rfl (dd (i:=0) rfl isAgg57 sizeOf57 rfl (bj rfl)) R2|exact X.val rfl rfl (dd (i:=1) rfl isAgg57 sizeOf57 rfl (bj rfl)) R2|exact X.val rfl rfl (dd (i:=2) rfl isAgg57 sizeOf57 rfl (bj rfl)) R2)):P:=h
theorem zcF (h:P:=by intro cv L' H' hl hd hP;(obtain⟨x9,lB,lJ,eY,ix,rfl⟩:=gT hl;rcases x9 with _|v9<;>rcases lB with _|v10<;>rcases lJ with _|v11<;>rcases eY with _|v12<;>rcases ix with _|jW<;>try exact False.elim hP);all_goals(first|obtain⟨rfl,rfl⟩:=hP|obtain⟨a1,c1,a2,c2,ds,w9,rfl,rfl,rfl,rfl,rfl,rfl,rfl,jb,jc,fw,gg,pI,lG⟩:=hP|obtain⟨a1,c1,a2,c2,ds,w9,rfl,rfl,rfl,rfl,rfl,rfl,jb,jc,fw,gg,pI,lG⟩:=hP|obtain⟨a1,c1,a2,c2,ds,w9,rfl,rfl,rfl,rfl,rfl,jb,jc,fw,gg,pI,lG⟩:=hP|obtain⟨a1,c1,a2,c2,ds,w9,rfl,rfl,rfl,rfl,jb,jc,fw,gg,pI,lG⟩:=hP|obtain⟨a1,c1,a2,c2,ds,w9,rfl,rfl,rfl,jb,jc,fw,gg,pI,lG⟩:=hP);all_goals(first|exact X.val rfl rfl (RV.re (v':=.slice (some ⟨bo,oo,none⟩) s.fos.length s.fc) (aa isAgg22 rfl A1 aQ aX trivial rfl) (by rw[<-im];rfl)) R2|exact X.val rfl rfl (RV.re (v':=.slice (some ⟨bo,oo,none⟩) s.fos.length s.fc) (aa isAgg22 rfl A2 aQ aX trivial rfl) (by rw[<-im];rfl)) R2|exact X.val rfl rfl (RV.re (v':=.agg (qw x0)) (ai isAgg50 sizeOf50 rfl A1 hcs hmo trivial (nk ar il rfl)) (va (nr ar il rfl))) R2|exact X.val rfl rfl (RV.re (v':=.agg (qw x0)) (ai isAgg50 sizeOf50 rfl A2 hcs hmo trivial (nk ar il rfl)) (va (nr ar il rfl))) R2|exact X.val rfl rfl (RV.re (v':=.slice s.la s.cs.length s.lc) (aa isAgg24 rfl A1 aQ aX trivial rfl) (rfl)) R2|exact X.val rfl rfl (RV.re (v':=.slice s.la s.cs.length s.lc) (aa isAgg24 rfl A2 aQ aX trivial rfl) (rfl)) R2)):P:=h
theorem Im (h:P:=by intro cv L' H' hd hP;(rcases cv with _|⟨v1,_|⟨_,_⟩⟩<;>try exact False.elim hP);all_goals(first|obtain⟨rfl,rfl⟩:=hP|obtain⟨bm,wm,rfl,rfl,rfl,ku,Io,vv⟩:=hP);all_goals(first|exact X.val rfl rfl (aO (i:=0) rfl isAgg57 sizeOf57 rfl rfl) R2|exact X.val rfl rfl (aa isAgg3 rfl A2 aM aD zI rfl) R2|exact X.val rfl rfl (aa isAgg3 rfl A3 aM aD zI rfl) R2|exact X.val rfl rfl (ae isAgg84 sizeOf84 rfl A2 aM aD zI rfl) R2|exact X.val rfl rfl (ae isAgg84 sizeOf84 rfl A3 aM aD zI rfl) R2|exact X.val rfl rfl (ai isAgg36 sizeOf36 rfl A2 aM aD zI (bj rfl)) R2|exact X.val rfl rfl (ai isAgg36 sizeOf36 rfl A3 aM aD zI (bj rfl)) R2)):P:=h
theorem zcH (h:P:=by intro cv L' H' hl hd hP;(obtain⟨x2,rfl⟩:=cM hl;rcases x2 with _|v2<;>try exact False.elim hP);all_goals(first|obtain⟨rfl,rfl⟩:=hP|obtain⟨a9,c9,w9,rfl,rfl,rfl,CK⟩:=hP);all_goals(first|exact X.val rfl rfl (RV.re (v':=.agg (lkC p)) (ae isAgg38 sizeOf38 rfl A0 Db Dc trivial rfl) rfl) R2|exact X.val rfl rfl (RV.re (v':=.agg (lkC p)) (ae isAgg38 sizeOf38 rfl A1 Db Dc trivial rfl) rfl) R2|exact X.val rfl rfl (RV.re (v':=.agg (lkC lk)) (ae isAgg38 sizeOf38 rfl A1 eo eH trivial rfl) rfl) R2|exact X.val rfl rfl (RV.re (v':=.agg (lkC lk)) (ae isAgg38 sizeOf38 rfl A2 eo eH trivial rfl) rfl) R2)):P:=h
structure ZW (Q:Prop):Prop where
  p:Q
inductive Ct:Nat->Prop where
  |mk (n:Nat):Ct n
theorem Ct.dec {n:Nat} (_:Ct (n+1)):Ct n:=.mk n
theorem Ct.fin {P:Prop} (_:Ct 0) (h:P):P:=h
theorem B (n:Nat) (k:Q) (h:Ct n->ZW Q->P:=by intro Cz Kz;(repeat(replace Cz:=Ct.dec Cz;(first|(first|(with_reducible refine PJ.next ?_)|(with_reducible refine OJ.done ?_)|(with_reducible refine CJ.seq ?_)|(with_reducible refine CJ.region ?_)|(with_reducible refine CJ.ret ?_)|(with_reducible refine PJ.retThen ?_)|(with_reducible refine CJ.skip ?_))|(first|(with_reducible refine PJ.exThen ?_)|(with_reducible refine CJ.block ?_)|(with_reducible refine PJ.norBlock ?_)|(with_reducible refine PJ.retBlock ?_)|(with_reducible refine PJ.exHit ?_)|(with_reducible refine CJ.exit ?_)|refine rvA rfl rfl rfl ?_)|(first|refine OJ.off rfl zO rfl ?_|((with_reducible refine CJ.condT ?_ ?_);· exact rfl)|((with_reducible refine CJ.condF ?_ ?_);· exact rfl)|refine Tm rfl rfl rfl ?_))));exact Cz.fin Kz.p):P:=h (.mk n) ⟨k⟩
theorem aG {R:Prop} (k:Q) (l:R) (h:ZW Q->ZW R->P:=by intro Kz Kw;(refine CJ.cond rfl (λhc=>?_) (λhc=>?_)<;>(try simp only[decide_eq_true_eq,decide_eq_false_iff_not,Bool.not_eq_true',Bool.not_eq_false']at hc)<;>revert hc);exact Kz.p;exact Kw.p):P:=h ⟨k⟩ ⟨l⟩
theorem RK (k:Q) (h:ZW Q->P:=by intro Kz;refine B 6 ?_;refine rr (.agg (bC G)) (ae isAgg57 sizeOf57 rfl A1 aU aN zI rfl) ?_;refine call call144 rfl rfl rfl (λW hS=>by rw[<-hv];exact nU G N W (aR hN (hS.links w A2).size) (hG.up (ao _) (hS.same A2 hN zS zM))) (v:=.bool true) ?_;refine rr (.bool false) (dA rfl) ?_;refine B 8 ?_;refine rr (.agg (dI c)) (ae isAgg99 sizeOf99 rfl A0 aM aD zI rfl) ?_;refine call call145 rfl rfl rfl (λW hS=>by rw[<-iE];exact nqb c dt.few N W (aR hN (hS.links w A2).size) (hC.up (ao _) (hS.same A2 hN zS zM))) (v:=.int .i64 0) ?_;refine B 6 ?_;refine rr (.bool false) (cq rfl rfl) ?_;refine B 12 ?_;refine rq (.bool false) (cq rfl rfl) (vb Xh) ?_;refine B 6 ?_;refine rq (.bool false) (cq rfl rfl) (vb Xh) ?_;refine B 3 ?_;refine rv rfl rfl rfl (ai isAgg34 sizeOf34 rfl A0 aM aD zI (bj rfl)) ?_;refine B 1 ?_;refine rv rfl rfl rfl (ai isAgg34 sizeOf34 rfl A1 aU aN zI (bj rfl)) ?_;refine rq (.bool false) (ie xX zO xY rfl rfl rfl) (congrArg (λq=>Value.bool (!q)) h3) ?_;refine B 8 ?_;refine rr (.agg (bC G)) (ae isAgg57 sizeOf57 rfl A1 aU aN zI rfl) ?_;refine B 4 ?_;refine n0 (enc:=qZ) (m:=4) (t:=164) (xs:=(gp G.g c.author c.chs)) (v:=λs=>.tuple #[s,.int .i64 0]) (first:=[]) (cap:=[]) rfl call146 rfl rfl rfl Vp (λW hS=>by rw[<-dn];exact nQb G N W (aR hN (hS.links w A2).size) (hG.up (ao _) (hS.same A2 hN zS zM)) c.chs zJ c.ca c.cc (hC.chs.up (ao _) (hS.same A2 hN zS zM)) c.author oS) ?_;exact Kz.p):P:=h ⟨k⟩
theorem tR (k:Q) (h:ZW Q->P:=by intro Kz;refine rq (.bool false) (me rfl rfl) (vb (decide_eq_false zJ)) ?_;exact Kz.p):P:=h ⟨k⟩
theorem z8d (k:Q) (h:ZW Q->P:=by intro Kz;refine rr (.agg (lkC l)) (ae isAgg84 sizeOf84 rfl A0 ew eR trivial rfl) ?_;refine call call26 rfl rfl rfl (λW hS=>by have h9:=nH l W;rwa[hv]at h9) (v:=.bool true) ?_;refine B 11 ?_;refine rr (.int .i64 l.by_) (aa isAgg3 rfl A0 ew eR trivial rfl) ?_;refine rq (.bool false) (cq rfl rfl) (vb (by simp[hb])) ?_;refine B 7 ?_;refine rr (.agg (kS s)) (ae isAgg81 sizeOf81 rfl A1 aM aD trivial rfl) ?_;refine rr (.agg (lkC l)) (ae isAgg84 sizeOf84 rfl A0 ew eR trivial rfl) ?_;exact Kz.p):P:=h ⟨k⟩
theorem z9d (k:Q) (h:ZW Q->P:=by intro Kz;refine B 17 ?_;refine ng (E':=[(0,_),(1,_),(2,_),(3,_),(4,_),(5,_),(6,_),(7,_),(8,_),(9,_),(13,_),(14,_),(15,_),(17,_),(18,_),(19,_),(20,_),(23,_),(24,_),(25,_),(26,_),(27,_),(28,_),(29,_),(30,_),(31,_),(32,_),(33,_),(34,_),(35,_),(36,_),(37,_),(38,_),(39,_),(40,_),(41,_),(42,_),(44,_),(45,_),(46,_),(47,_),(48,_),(49,_),(50,_),(51,_),(52,_),(53,_),(54,_)]) zR ?_;exact Kz.p):P:=h ⟨k⟩
theorem og (k:Q) (h:ZW Q->P:=by intro Kz;refine PJ.dropAt (i:=0) rfl zW ?_;exact Kz.p):P:=h ⟨k⟩
theorem Nw (k:Q) (h:ZW Q->P:=by intro Kz;refine B 14 ?_;refine CJ.loop (α:=Nat) (λj=>[(0,.slice a xs.length cp),(1,.func (.func f) #[] cap.toArray),(7,.int .i64 (xs.length:Int)),(8,.int .i64 (j:Int))]) (λj=>[]) (λj=>[w]) (λj=>Gh.no) (λj=>j<=xs.length/\eI p xs j) (λj=>xs.length-j) 0 ⟨db _,λi x hi=>absurd hi zJ⟩ zR rfl rfl zX ?_;exact Kz.p):P:=h ⟨k⟩
theorem BY (k:Q) (h:ZW Q->P:=by intro Kz;refine rq (.bool true) (er rfl rfl) (vb (decide_eq_true zJ)) ?_;exact Kz.p):P:=h ⟨k⟩
theorem zde (k:Q) (h:ZW Q->P:=by intro Kz;refine rv rfl rfl rfl (kC rfl rfl) ?_;refine B 2 ?_;refine rv rfl rfl rfl (gX rfl rfl) ?_;refine rq (.int .u64 (r0:Int)) (p8 rfl rfl) (vu zDb) ?_;exact Kz.p):P:=h ⟨k⟩
theorem zee (k:Q) (h:ZW Q->P:=by intro Kz;refine rv rfl rfl rfl (qa rfl rfl zJ zJ) ?_;refine rq (.int .u64 ((r1%y1:Nat):Int)) (lM rfl rfl zJ zJ) (vu (nfh _ _ _ _ d2.eq)) ?_;refine B 5 ?_;refine CJ.loop (α:=Nat×Nat) (λp=>[(2,.int .u64 (Y:Int)),(8,.int .u64 (s:Int)),(9,.int .u64 (y1:Int)),(10,.int .u64 (y0:Int)),(17,.int .u64 (r1:Int)),(14,.int .u64 (v0:Int)),(15,.int .u64 (q1:Int)),(18,.int .u64 (p.1:Int)),(16,.int .u64 (p.2:Int))]) (λp=>[]) (λp=>[w]) (λp=>Gh.no) (λp=>oJ r1 y1 y0 v0 p.1 p.2) (λp=>p.1) (r1/y1,r1%y1) d2 zR rfl rfl zX ?_;exact Kz.p):P:=h ⟨k⟩
theorem zfe (k:Q) (h:ZW Q->P:=by intro Kz;refine ng (E':=[(0,_),(1,_),(2,_),(3,_),(4,_),(5,_),(6,_),(7,_),(8,_),(9,_),(13,_),(14,_),(15,_),(17,_),(18,_),(19,_),(20,_),(23,_),(24,_),(25,_),(26,_),(27,_),(28,_),(29,_),(30,_),(31,_),(32,_),(33,_),(34,_),(35,_),(36,_),(37,_),(38,_),(39,_),(40,_),(41,_),(42,_),(44,_),(45,_),(46,_),(47,_),(48,_),(49,_),(50,_),(51,_),(52,_),(53,_),(54,_),(57,_),(58,_),(59,_),(60,_),(61,_),(62,_),(63,_),(64,_),(65,_),(66,_),(67,_),(68,_),(69,_),(70,_),(71,_),(72,_),(73,_),(74,_)]) zR ?_;exact Kz.p):P:=h ⟨k⟩
theorem He (k:Q) (h:ZW Q->P:=by intro Kz;refine rq (.bool true) (me rfl rfl) (vb (decide_eq_true zJ)) ?_;exact Kz.p):P:=h ⟨k⟩
theorem zhe (k:Q) (h:ZW Q->P:=by intro Kz;refine ng (E':=[(0,_),(1,_),(2,_),(3,_),(4,_),(5,_),(6,_),(7,_),(8,_),(9,_),(10,_),(11,_),(12,_),(13,_),(14,_),(15,_),(16,_),(17,_),(18,_),(19,_),(20,_),(21,_),(22,_),(23,_),(24,_),(25,_),(26,_),(27,_),(28,_),(29,_),(30,_),(31,_),(32,_),(33,_),(34,_),(35,_),(36,_),(37,_),(38,_),(39,_),(40,_)]) zR ?_;exact Kz.p):P:=h ⟨k⟩
theorem Jc (k:Q) (h:ZW Q->P:=by intro Kz;refine rq (.bool false) (pd rfl rfl) (vb (decide_eq_false zJ)) ?_;exact Kz.p):P:=h ⟨k⟩
theorem zje (k:Q) (h:ZW Q->P:=by intro Kz;refine rq (.int .u64 ((r0/2^s:Nat):Int)) (gY rfl rfl zJ) (vu (nqc r0 s zJ)) ?_;exact Kz.p):P:=h ⟨k⟩
theorem zke (k:Q) (h:ZW Q->P:=by intro Kz;refine rq (.int .u64 ((r+y1:Nat):Int)) (Bt rfl rfl zJ zJ) (vu zJ) ?_;refine B 9 ?_;exact Kz.p):P:=h ⟨k⟩
theorem UF (k:Q) (h:ZW Q->P:=by intro Kz;refine rv rfl rfl rfl (bY underlying149 zeroValue149 (bA.c sizeOf3 (bA.c sizeOf3 (bA.c sizeOf9 (bA.c sizeOf146 (bA.n))))) rfl rfl) ?_;exact Kz.p):P:=h ⟨k⟩
theorem N6 (k:Q) (h:ZW Q->P:=by intro Kz;refine ng (E':=[(3,_),(6,_),(7,_),(8,_),(15,_),(16,_),(17,_),(18,_),(19,_),(20,_),(21,_),(22,_),(23,_),(24,_),(25,_),(26,_),(27,_)]) zR ?_;exact Kz.p):P:=h ⟨k⟩
theorem zne (k:Q) (h:ZW Q->P:=by intro Kz;refine rq (.int .u64 ((q-1:Nat):Int)) (lM rfl rfl zJ zJ) (vu zJ) ?_;exact Kz.p):P:=h ⟨k⟩
theorem zoe (k:Q) (h:ZW Q->P:=by intro Kz;refine ng (E':=[(0,_),(1,_),(2,_),(3,_),(4,_),(5,_),(6,_),(7,_),(8,_),(9,_),(13,_),(14,_),(15,_),(17,_),(18,_),(19,_),(20,_),(23,_),(24,_),(25,_),(26,_),(27,_),(28,_),(29,_),(30,_),(31,_),(32,_),(33,_),(34,_),(35,_),(36,_),(37,_),(38,_),(39,_),(40,_),(41,_),(42,_),(44,_),(45,_),(46,_),(47,_),(48,_),(49,_),(50,_),(51,_),(52,_),(53,_),(54,_),(57,_),(58,_),(59,_),(60,_),(61,_),(62,_),(63,_),(64,_),(65,_),(66,_),(67,_),(68,_),(69,_),(70,_),(71,_),(72,_),(73,_),(74,_),(76,_),(77,_),(78,_),(79,_),(80,_),(81,_),(82,_),(83,_),(84,_),(85,_),(86,_),(87,_),(89,_),(90,_),(91,_),(92,_),(93,_),(94,_),(95,_)]) zR ?_;exact Kz.p):P:=h ⟨k⟩
theorem zpe (k:Q) (h:ZW Q->P:=by intro Kz;refine n0 (enc:=lf) (m:=5) (t:=233) (xs:=gH c.author c.chs) (v:=id) (first:=[]) (cap:=[]) rfl call151 rfl rfl rfl y4 (λW hS=>nyc c.author c.chs zJ N c.ca c.cc W (aR hN (hS.links w A3).size) (hC.chs.up (ao _) (hS.same A3 hN zS zM))) ?_;exact Kz.p):P:=h ⟨k⟩
theorem NO (k:Q) (h:ZW Q->P:=by intro Kz;refine bh (i:=0) rfl sizeOf57 rfl rfl rfl rfl rfl rfl ?_;exact Kz.p):P:=h ⟨k⟩
theorem WL (k:Q) (h:ZW Q->P:=by intro Kz;refine rr (.agg (rdA s)) (ae isAgg31 sizeOf31 rfl A1 aM aD trivial rfl) ?_;exact Kz.p):P:=h ⟨k⟩
theorem zse (k:Q) (h:ZW Q->P:=by intro Kz;refine ng (E':=[(0,_),(1,_),(2,_),(3,_),(4,_),(5,_),(6,_),(7,_),(8,_),(9,_),(13,_),(14,_),(15,_),(17,_),(18,_),(19,_),(20,_),(23,_),(24,_),(25,_),(26,_),(27,_),(28,_),(29,_),(30,_),(31,_),(32,_),(33,_),(34,_),(35,_),(36,_),(37,_),(38,_),(39,_),(40,_),(41,_),(42,_),(44,_),(45,_),(46,_),(47,_),(48,_),(49,_),(50,_),(51,_),(52,_),(53,_),(54,_),(57,_),(58,_),(59,_),(60,_),(61,_),(62,_),(63,_),(64,_),(65,_),(66,_),(67,_),(68,_),(69,_),(70,_),(71,_),(72,_),(73,_),(74,_),(76,_),(77,_),(78,_),(79,_),(80,_),(81,_),(82,_),(83,_),(84,_),(85,_),(86,_),(87,_)]) zR ?_;exact Kz.p):P:=h ⟨k⟩
theorem zte (k:Q) (h:ZW Q->P:=by intro Kz;refine n0 (enc:=aj) (m:=1) (t:=3) (xs:=cS G.g.ns) (v:=id) (first:=[]) (cap:=[]) rfl call205 rfl rfl rfl nw (λW hS=>n0b G.g.ns hn N G.na G.nc W (aR hN (hS.links w A1).size) (hG.ns.up (ao _) (hS.same A1 hN zS trivial))) ?_;exact Kz.p):P:=h ⟨k⟩
theorem Kx (k:Q) (h:ZW Q->P:=by intro Kz;refine rr (.agg (bC G)) (ae isAgg57 sizeOf57 rfl A0 aM aD zI rfl) ?_;exact Kz.p):P:=h ⟨k⟩
theorem zve (k:Q) (h:ZW Q->P:=by intro Kz;refine nB (α:=Nat) (v:=λb:Nat=>.slice (some ⟨b,0,none⟩) 32 32) (Φ:=λ(W:World) (b:Nat) (w1:World)=>W.heap.size<=b/\w1.heap[b]? =some (.cells (dg (mo Z c)) 34 (0,0))) call153 rfl rfl rfl (λW hS=>nnd hZ c dt N W (aR hN (hS.links w A4).size) (hC.up (ao _) (hS.same A4 hN zS zM)) (hg.old hS A4 zS zM)) ?_;exact Kz.p):P:=h ⟨k⟩
theorem zwe (k:Q) (h:ZW Q->P:=by intro Kz;refine call call150 rfl rfl rfl (λW hS=>by have h9:=njd c.wes zJ W.heap.size c.wa c.wc W (ao _) (hC.wes.up (aR hN (hS.links w A4).size) (hS.same A4 hN zS zM)) (gH c.author c.chs) aw cw (o7.to hS A0 (ao _) (λb off e=>.inr zbc));rw[show jo NH c.wes (gH c.author c.chs)=true from hw]at h9;exact h9) (v:=.bool true) ?_;exact Kz.p):P:=h ⟨k⟩
theorem zxe (k:Q) (h:ZW Q->P:=by intro Kz;refine call call157 rfl rfl rfl (λW hS=>nxc (EG G.g (gF G.g.ms au) au) 254 [ptr b3 0,ptr b8 0,ptr b4 0] call254 l cj N _ cp W (aR hN (hS.links w A2).size) (aH.up (ao _) (hS.same A2 hN zS zM)) (λj x hx W2 hB=>by have h3:=(hS.links w3 A1).size;have h4:=(hS.links w4 A0).size;have h5:=(hS.links w A2).size;have h8:=hS.own (b8,_) A0;have h9:=(aT.1 h8).1;exact nZh G N W2 (by have:=hB.size;omega) (hG.up (ao _) (λk hk=>by rw[hB.block k zJ];exact hS.same A2 hN zS zM k hk)) b3 b8 b4 _ au (by rw[hB.block b3 zJ];exact hS.old A1 aM aD z7) (by rw[hB.block b8 h9];exact h8) (by rw[hB.block b4 zJ];exact hS.old A0 ew eR z7) x)) ?_;exact Kz.p):P:=h ⟨k⟩
theorem J4 (k:Q) (h:ZW Q->P:=by intro Kz;refine ng (E':=[(1,_),(3,_),(10,_),(11,_),(39,_),(40,_),(41,_),(42,_),(43,_),(44,_),(45,_)]) zR ?_;exact Kz.p):P:=h ⟨k⟩
theorem zze (k:Q) (h:ZW Q->P:=by intro Kz;refine nK (f:=f) (cap:=cap) rfl az rfl rfl rfl (λW hS=>hp j x hx W ((hS.links w A0).mono (λk _ hk=>by rcases hk with hk|hk;(exact hk);(simp only[eh,iB,cZ,eB,cI,fu,or_false]at hk;first|exact hk|(rcases hk with hk|hk;(exfalso;omega);exact hk)))) (by have:=hS.lt (b,_) A1;exact this)) ?_;exact Kz.p):P:=h ⟨k⟩
theorem G8 (k:Q) (h:ZW Q->P:=by intro Kz;refine kr underlying146 sizeOf149 zeroValue149 rfl rfl rfl rfl rfl rfl rfl ?_;exact Kz.p):P:=h ⟨k⟩
theorem P8 (k:Q) (h:ZW Q->P:=by intro Kz;refine rr (.bool true) (cq rfl rfl) ?_;exact Kz.p):P:=h ⟨k⟩
theorem UD (k:Q) (h:ZW Q->P:=by intro Kz;refine rq (.bool true) (qW rfl rfl) (vb (decide_eq_true zJ)) ?_;exact Kz.p):P:=h ⟨k⟩
theorem zDe (k:Q) (h:ZW Q->P:=by intro Kz;refine rr (.agg #[.slice a ns.length cp]) (ae isAgg55 sizeOf55 rfl A0 aM aD zI rfl) ?_;exact Kz.p):P:=h ⟨k⟩
theorem Co (k:Q) (h:ZW Q->P:=by intro Kz;refine kr underlying44 sizeOf3 zeroValue3 rfl rfl rfl rfl rfl rfl rfl ?_;exact Kz.p):P:=h ⟨k⟩
theorem zFe (k:Q) (h:ZW Q->P:=by intro Kz;refine CJ.loop (α:=Mp×Nat) (λp=>[(6,.map (some bf)),(7,.slice ap (cu d).length k4),(12,.func (.func 262) #[.map (some bf)] #[]),(53,.slice ap (cu d).length k4),(54,.int .i64 ((cu d).length:Int)),(55,.int .i64 (p.2:Int))]) (λp=>[(bf,p.1.obj (Value.int .i64) (((cu d).take p.2).foldl ik (ik (cL ns) (512+d))))]) (λp=>[wp,w3,w]) (λp=>Gh.no) (λp=>p.2<=(cu d).length/\p.1.Ok (((cu d).take p.2).foldl ik (ik (cL ns) (512+d)))) (λp=>(cu d).length-p.2) (m1,0) ⟨db _,aX⟩ zR rfl rfl zX ?_;exact Kz.p):P:=h ⟨k⟩
theorem OF (k:Q) (h:ZW Q->P:=by intro Kz;refine rq (.bool false) (er rfl rfl) (vb (decide_eq_false zJ)) ?_;exact Kz.p):P:=h ⟨k⟩
theorem Z9 (k:Q) (h:ZW Q->P:=by intro Kz;refine call call201 rfl rfl rfl (λW hS=>by rw[<-eX];exact ZE ns hn N a cp W (aR hN (hS.links w A1).size) (aH.up (ao _) (hS.same A1 hN zS Cs))) (v:=.int .i64 0) ?_;exact Kz.p):P:=h ⟨k⟩
theorem Da (k:Q) (h:ZW Q->P:=by intro Kz;refine Dp underlying44 sizeOf3 zeroValue3 rfl rfl rfl rfl rfl rfl rfl ?_;exact Kz.p):P:=h ⟨k⟩
theorem Ni (k:Q) (h:ZW Q->P:=by intro Kz;refine rq (.bool false) (pe rfl rfl) (vb (decide_eq_false zJ)) ?_;exact Kz.p):P:=h ⟨k⟩
theorem zKe (k:Q) (h:ZW Q->P:=by intro Kz;refine bF (.inl rfl) results16 (RS.wA (i:=0) rfl isAgg59 sizeOf59 rfl (bj rfl) (RS.t rfl (RS.n))) A2 zP ?_;exact Kz.p):P:=h ⟨k⟩
theorem O0 (k:Q) (h:ZW Q->P:=by intro Kz;refine rq (.bool true) (pd rfl rfl) (vb (decide_eq_true zJ)) ?_;exact Kz.p):P:=h ⟨k⟩
theorem zMe (k:Q) (h:ZW Q->P:=by intro Kz;refine Nt (enc:=eW) (m:=2) (t:=355) (xs:=(bB T c.author c.path)) (v:=λs=>.tuple #[.agg #[s],.int .i64 e]) (first:=[]) (cap:=[]) rfl call154 rfl rfl rfl (λW hS=>by rw[<-NN];exact njg T zJ W.heap.size ta tc W (ao _) (mK.to hS A0 (ao _) (λb off e=>by rcases eX b off e with h|h|h;(exact .inl h);(exact .inr VQ);(exact .inr VQ))) c.author oS c.path jJ zJ N c.pa c.pc (hC.path.up (ao _) (hS.same A6 hN zS zM)) (aR hN (hS.links w A6).size) hpl zJ) ?_;exact Kz.p):P:=h ⟨k⟩
theorem zNe (k:Q) (h:ZW Q->P:=by intro Kz;refine nK (f:=f) (cap:=cap) rfl az rfl rfl rfl (λW hS=>hp j x hx W ((hS.links w A0).below Nq)) ?_;exact Kz.p):P:=h ⟨k⟩
theorem YD (k:Q) (h:ZW Q->P:=by intro Kz;refine ng (E':=[(0,_),(1,_),(2,_),(3,_),(4,_),(5,_),(6,_)]) zR ?_;exact Kz.p):P:=h ⟨k⟩
theorem zPe (k:Q) (h:ZW Q->P:=by intro Kz;refine rv rfl rfl rfl (fM (h:=64) underlying64 sizeOf5 rfl ⟨_,_,rfl,rfl⟩ zJ) ?_;refine MR (f:=237) (i:=1) (first:=[ptr b3 0]) (cap:=[]) rfl rfl call237 rfl rfl rfl (λW hS hW=>nWd (mU n m (j+k)) (λi=>sk n m (64*(j+k)+i)) b3 oM o2 64 _ _ _ si t3 (cf 128 (lR n m j N)) zJ zJ W hW (hS.own _ A0) (λi hi=>by rw[GQ 128 _ (64*k+i) _ (by have:=cX zJ;omega) zJ,nTl n m j N _ zJ hNN zJ zJ];congr 3;omega) zJ (hS.old A0 hg zU pz) zJ) ?_;exact Kz.p):P:=h ⟨k⟩
theorem zQe (k:Q) (h:ZW Q->P:=by intro Kz;refine ax results26 rfl A1 ?_;refine vb ?_;exact Kz.p):P:=h ⟨k⟩
theorem ZP (k:Q) (h:ZW Q->P:=by intro Kz;refine rr (.agg #[.slice a ns.length cp]) (ae isAgg55 sizeOf55 rfl A0 aM aD trivial rfl) ?_;exact Kz.p):P:=h ⟨k⟩
theorem YM (k:Q) (h:ZW Q->P:=by intro Kz;refine rr (.agg (lkC l)) (bY underlying84 zeroValue84 (bA.c sizeOf38 (bA.n)) rfl rfl) ?_;exact Kz.p):P:=h ⟨k⟩
theorem zTe (k:Q) (h:ZW Q->P:=by intro Kz;refine call call94 rfl rfl rfl (λW hS=>n4c hinv.1 hinv.2.1 zJ b9 m hm x.fol hxk.2.2.1.1 W (hS.own (b9,_) A2)) (v:=.int .i64 (qx (gN (cH l) j) x.fol)) ?_;exact Kz.p):P:=h ⟨k⟩
theorem zUe (k:Q) (h:ZW Q->P:=by intro Kz;refine nB (α:=Gv) (v:=λXn=>.tuple #[.agg (bC Xn),.int .i64 e]) (Φ:=λW Xn w1=>Xn.g=rM Z (g0 fo) c/\aL w1.heap.size w1 Xn/\(∀q,Xn.ma=some q->W.heap.size<=q.block)/\(∀q,Xn.na=some q->W.heap.size<=q.block)) call101 rfl rfl rfl (λW hS=>by rw[<-he];exact nMe hZ (Sr fo) c (dt c hcm) N W (aR hN (hS.links w A2).size) (Ls fo N W) ((hC c hcm).up (ao _) (hS.same A2 hN zS zM)) (hg.old hS A2 zS zM)) ?_;exact Kz.p):P:=h ⟨k⟩
theorem zVe (k:Q) (h:ZW Q->P:=by intro Kz;refine call (v:=.tuple #[.agg (lkC p),.bool true]) call36 rfl rfl rfl (λW hS=>by have h9:=nod hZ s ho N W (aR hN (hS.links w A2).size) (hs.up (ao _) (hS.same A2 hN zS trivial)) l (hg.old hS A2 zS trivial);rwa[hp]at h9) ?_;exact Kz.p):P:=h ⟨k⟩
theorem zWe (k:Q) (h:ZW Q->P:=by intro Kz;refine rq (.agg (mJ x)) (ai isAgg210 sizeOf210 rfl A0 hcs zU trivial (nk ar hx rfl)) (va (nr ar hx rfl)) ?_;exact Kz.p):P:=h ⟨k⟩
theorem zXe (k:Q) (h:ZW Q->P:=by intro Kz;refine nB (α:=Option Addr×Nat) (v:=λq=>.agg #[.slice q.1 T.length q.2]) (Φ:=λW q w1=>ag fF 2 w1.heap.size w1 q.1 T/\∀b off,q.1=some ⟨b,off,none⟩->T=[]\/b<N\/W.heap.size<=b) call155 rfl rfl rfl (λW hS=>by rw[<-hT];exact ngd G N W (aR hN (hS.links w A5).size) (hG.up (ao _) (hS.same A5 hN zS zM)) c.chs zJ c.ca c.cc (hC.chs.up (ao _) (hS.same A5 hN zS zM)) su NA) ?_;exact Kz.p):P:=h ⟨k⟩
theorem zYe (k:Q) (h:ZW Q->P:=by intro Kz;refine rv rfl rfl rfl (py underlying336 isAgg229 sizeOf229 rfl rfl zJ zJ (S8.cells_ld _ i _ zJ zJ)) ?_;refine B 10 ?_;refine rq (.slice (some ⟨b2,4*i,none⟩) 4 (32-4*i)) (xi (l:=4*i) (h:=4*i+4) (off':=4*i) underlying34 sizeOf5 rfl ⟨_,_,rfl,by omega⟩ ⟨_,_,rfl,by omega⟩ zJ zJ (by rw[if_neg zJ];omega)) (by rw[show 4*i+4-4*i=4 by omega]) ?_;exact Kz.p):P:=h ⟨k⟩
theorem OD (k:Q) (h:ZW Q->P:=by intro Kz;refine rv rfl rfl rfl (Ga underlying202 underlying5 rfl zJ zJ) ?_;exact Kz.p):P:=h ⟨k⟩
theorem Uu (k:Q) (h:ZW Q->P:=by intro Kz;refine bh (i:=0) rfl sizeOf149 rfl rfl rfl rfl rfl rfl ?_;exact Kz.p):P:=h ⟨k⟩
theorem z1e (k:Q) (h:ZW Q->P:=by intro Kz;refine call (v:=.bool true) call7 rfl rfl rfl (λW hS=>by have h9:=n2g s (λc hc=>(hin.cm c hc).lim) N W (aR hN (hS.links w A2).size) (hs.up (ao _) (hS.same A2 hN zS trivial));rwa[hf]at h9) ?_;exact Kz.p):P:=h ⟨k⟩
theorem UQ (k:Q) (h:ZW Q->P:=by intro Kz;refine bh (i:=0) rfl sizeOf59 rfl rfl rfl rfl rfl rfl ?_;exact Kz.p):P:=h ⟨k⟩
theorem Sq (k:Q) (h:ZW Q->P:=by intro Kz;refine rr (.agg (dw d)) (aO (i:=0) rfl isAgg101 sizeOf101 rfl rfl) ?_;exact Kz.p):P:=h ⟨k⟩
theorem z4e (k:Q) (h:ZW Q->P:=by intro Kz;refine bF (.inl rfl) results145 (RS.t rfl (RS.n)) A1 zP ?_;exact Kz.p):P:=h ⟨k⟩
theorem Vl (k:Q) (h:ZW Q->P:=by intro Kz;refine ng (E':=[(0,_),(1,_),(2,_),(3,_),(4,_),(6,_),(8,_),(10,_),(11,_),(12,_),(13,_),(14,_),(15,_)]) zR ?_;exact Kz.p):P:=h ⟨k⟩
theorem z6e (k:Q) (h:ZW Q->P:=by intro Kz;refine CJ.loop (α:=Nat) (λi=>[(2,ptr b2 0),(53,.agg (mU n m (ea n)).cells),(54,.int .i64 (i:Int))]) (λi=>[(oM,.cells (cf 128 (lR n m j N)) 5 (0,0)),(b3,.cells (mU n m (ea n)).cells 336 (0,0)),(b2,.cells (hQ (mU n m (ea n)) i) 34 (0,0))]) (λi=>[w]) (λi=>Gh.no) (λi=>i<=8) (λi=>8-i) 0 zO zR rfl rfl zX ?_;exact Kz.p):P:=h ⟨k⟩
theorem Ve (k:Q) (h:ZW Q->P:=by intro Kz;refine rr (.agg #[.slice a ns.length cp]) (ae isAgg55 sizeOf55 rfl A0 aU aN trivial rfl) ?_;exact Kz.p):P:=h ⟨k⟩
theorem Wj (k:Q) (h:ZW Q->P:=by intro Kz;refine nK (v:=.bool true) (f:=122) (cap:=[]) rfl call122 rfl rfl rfl (λW hS=>SA h1 W) ?_;exact Kz.p):P:=h ⟨k⟩
theorem z9e (k:Q) (h:ZW Q->P:=by intro Kz;refine enter (vs:=[_,_]) func101 rfl ntmps101 rfl ?_;exact Kz.p):P:=h ⟨k⟩
theorem H9 (k:Q) (h:ZW Q->P:=by intro Kz;refine bh (i:=0) rfl sizeOf135 rfl rfl rfl rfl rfl rfl ?_;exact Kz.p):P:=h ⟨k⟩
theorem zbf (k:Q) (h:ZW Q->P:=by intro Kz;refine nyg (ev:=(Value.int .i64)) (kv:=cL ns) (v:=id) call261 rfl rfl rfl (λW hS=>nCf ns hn N a cp W (aR hN (hS.links w A1).size) (aH.up (ao _) (hS.same A1 hN zS Cs))) ?_;exact Kz.p):P:=h ⟨k⟩
theorem zcf (k:Q) (h:ZW Q->P:=by intro Kz;refine WA (i:=0) (γ:=Mp) (v:=λ_=>.tuple #[]) (ob:=λm=>m.obj (Value.int .i64) (gn (((cu d).take i).foldl ik (ik (cL ns) (512+d))) n)) (Φ:=λm=>m.Ok (gn (((cu d).take i).foldl ik (ik (cL ns) (512+d))) n)) (first:=[.map (some bf)]) (cap:=[]) rfl rfl call262 rfl rfl rfl (λW hS hW=>nJd bf mi sQ n W hW) ?_;exact Kz.p):P:=h ⟨k⟩
theorem rL (k:Q) (h:ZW Q->P:=by intro Kz;refine aZ zeroValue57 rfl rfl ?_;exact Kz.p):P:=h ⟨k⟩
theorem Ha (k:Q) (h:ZW Q->P:=by intro Kz;refine bh (i:=0) rfl sizeOf84 rfl rfl rfl rfl rfl rfl ?_;exact Kz.p):P:=h ⟨k⟩
theorem zff (k:Q) (h:ZW Q->P:=by intro Kz;refine bF (.inl rfl) results201 (RS.t rfl (RS.n)) A2 zP ?_;exact Kz.p):P:=h ⟨k⟩
theorem zgf (k:Q) (h:ZW Q->P:=by intro Kz;refine nB (α:=Nat×Nat) (v:=λq=>.func (.func 128) #[] #[ptr q.1 0,ptr q.2 0]) (Φ:=λW q w1=>W.heap.size<=q.1/\W.heap.size<=q.2/\q.1≠q.2/\w1.heap[q.1]? =some (.cells #[.map (some mb)] 132 (0,0))/\w1.heap[q.2]? =some (.cells #[.int .i64 f] 3 (0,0))) call95 rfl rfl rfl (λW hS=>nJg (some mb) f W) ?_;exact Kz.p):P:=h ⟨k⟩
theorem zhf (k:Q) (h:ZW Q->P:=by intro Kz;refine call call78 rfl rfl rfl (λW hS=>by have h9:=Qs hZ (kz G.g c.author c.chs) c.sr c.ss (dc (mo Z c)) bm 0 32 (by rw[ND];decide) W (cC.dg (hS.old A0 ku zU VQ) (hZ.byt _ _)) (hg.old hS A5 zS zM);rw[ND,show kX Z (kz G.g c.author c.chs) (dc (mo Z c)) c.sr c.ss=true from nt]at h9;exact h9) (v:=.bool true) ?_;exact Kz.p):P:=h ⟨k⟩
theorem zif (k:Q) (h:ZW Q->P:=by intro Kz;refine nB (α:=Nat) (v:=λb:Nat=>.slice (some ⟨b,0,none⟩) 11 11) (Φ:=λ(W:World) (b:Nat) (w1:World)=>W.heap.size<=b/\dM w1.heap.size w1 (.list (lq c)) (vL (some ⟨b,0,none⟩) 11 11)) call99 rfl rfl rfl (λW hS=>nye c dt.few N W (aR hN (hS.links w A1).size) (hC.up (ao _) (hS.same A1 hN zS zM))) ?_;exact Kz.p):P:=h ⟨k⟩
theorem ZH (k:Q) (h:ZW Q->P:=by intro Kz;refine n0 (enc:=aj) (m:=1) (t:=3) (xs:=cu d) (v:=λs=>.tuple #[s,.int .i64 0]) (first:=[]) (cap:=[]) rfl call253 rfl rfl rfl nw (λW hS=>nOf d hd W) ?_;exact Kz.p):P:=h ⟨k⟩
theorem zkf (k:Q) (h:ZW Q->P:=by intro Kz;refine PJ.reH (H':=[(oM,.cells (cf 128 (lR n m j N)) 5 (0,0)),(b3,.cells (mU n m (ea n)).cells 336 (0,0)),(b2,.cells (hQ (mU n m (ea n)) 8) 34 (0,0))]) rfl ?_;refine bF (.inl rfl) results170 (RS.wA (i:=2) rfl isAgg34 sizeOf34 rfl (by rw[hQ,xj];omega) RS.n) A0 (by simp only[Over,cZ,eB,and_true];omega) ?_;exact Kz.p):P:=h ⟨k⟩
theorem zlf (k:Q) (h:ZW Q->P:=by intro Kz;refine rr (.agg (lkC lk)) (ae isAgg38 sizeOf38 rfl A0 eo eH trivial rfl) ?_;refine call (v:=.bool true) call9 rfl rfl rfl (λW hS=>by have h9:=nzc hZ s ho N W (aR hN (hS.links w A2).size) (hs.up (ao _) (hS.same A2 hN zS trivial)) lk hlk (hg.old hS A2 zS trivial);rwa[ha]at h9) ?_;exact Kz.p):P:=h ⟨k⟩
theorem zmf (k:Q) (h:ZW Q->P:=by intro Kz;refine rr (.agg (kS s)) (ae isAgg81 sizeOf81 rfl A1 aM aD zI rfl) ?_;refine rr (.agg (lkC l)) (ae isAgg84 sizeOf84 rfl A0 ew eR zI rfl) ?_;refine rr (.agg (lkC p)) (aO (i:=0) rfl isAgg84 sizeOf84 rfl rfl) ?_;exact Kz.p):P:=h ⟨k⟩
theorem Vx (k:Q) (h:ZW Q->P:=by intro Kz;refine ng (E':=[(1,_),(7,_),(8,_),(97,_),(98,_),(99,_),(100,_),(101,_),(102,_),(103,_)]) zR ?_;exact Kz.p):P:=h ⟨k⟩
theorem zof (k:Q) (h:ZW Q->P:=by intro Kz;refine call call144 rfl rfl rfl (λW hS=>by rw[<-hv];exact nU G N W (aR hN (hS.links w A1).size) (hG.up (ao _) (hS.same A1 hN zS zM))) (v:=.bool true) ?_;exact Kz.p):P:=h ⟨k⟩
theorem zpf (k:Q) (h:ZW Q->P:=by intro Kz;refine call call206 rfl rfl rfl (λW hS=>n7e (Nz G.g.epoch) 202 [ptr b1 0] call202 G.g.ms qo N G.ma G.mc W (aR hN (hS.links w A2).size) (hG.ms.up (ao _) (hS.same A2 hN zS zM)) (λj x hx W2 hB=>nQm G b1 x W2 (by have:=(hS.links w1 A1).size;rw[hB.block b1 zJ];exact hS.old A1 aQ aX trivial))) ?_;exact Kz.p):P:=h ⟨k⟩
theorem zqf (k:Q) (h:ZW Q->P:=by intro Kz;refine bh (i:=0) rfl sizeOf373 rfl rfl rfl rfl rfl rfl ?_;exact Kz.p):P:=h ⟨k⟩
theorem Kp (k:Q) (h:ZW Q->P:=by intro Kz;refine bh (i:=0) rfl sizeOf233 rfl rfl rfl rfl rfl rfl ?_;exact Kz.p):P:=h ⟨k⟩
theorem Lr (k:Q) (h:ZW Q->P:=by intro Kz;refine bh (i:=0) rfl sizeOf101 rfl rfl rfl rfl rfl rfl ?_;exact Kz.p):P:=h ⟨k⟩
theorem ztf (k:Q) (h:ZW Q->P:=by intro Kz;refine bF (.inl rfl) results231 (RS.t rfl (RS.t rfl (RS.n))) A1 zP ?_;exact Kz.p):P:=h ⟨k⟩
theorem zuf (k:Q) (h:ZW Q->P:=by intro Kz;refine nAi (ev:=(Value.int .i64)) (kv:=k9 (cL ns) d) (enc:=aj) (n:=1) (ds:=cu d) (v:=λmp s=>.tuple #[mp,s,.int .i64 0]) call218 rfl rfl rfl (λW hS=>nVe ns hn N a cp W (aR hN (hS.links w A1).size) (aH.up (ao _) (hS.same A1 hN zS Cs)) eX d hd false (λh=>by cases h)) ?_;exact Kz.p):P:=h ⟨k⟩
theorem QL (k:Q) (h:ZW Q->P:=by intro Kz;refine bh (i:=0) rfl sizeOf55 rfl rfl rfl rfl rfl rfl ?_;exact Kz.p):P:=h ⟨k⟩
theorem zwf (k:Q) (h:ZW Q->P:=by intro Kz;refine nAi (ev:=(Value.int .i64)) (kv:=k9 (cL ns) d) (enc:=aj) (n:=1) (ds:=cu d) (v:=λmp s=>.tuple #[mp,s,.int .i64 0]) call218 rfl rfl rfl (λW hS=>nVe ns hn N a cp W (aR hN (hS.links w A1).size) (aH.up (ao _) (hS.same A1 hN zS Cs)) eX d hd true (λ_=>jj)) ?_;exact Kz.p):P:=h ⟨k⟩
theorem zxf (k:Q) (h:ZW Q->P:=by intro Kz;refine rq (.int .u64 ((8*n:Nat):Int)) (qa rfl rfl zJ zJ) (vu zJ) ?_;refine MR (f:=238) (i:=0) (first:=[]) (cap:=[]) rfl rfl call238 rfl rfl rfl (λW hS hW=>n0d (8*n) oM _ 8 _ _ _ zJ (by rw[nVd,xj];omega) W hW) ?_;exact Kz.p):P:=h ⟨k⟩
theorem vf (k:Q) (h:ZW Q->P:=by intro Kz;refine aZ zeroValue55 rfl rfl ?_;exact Kz.p):P:=h ⟨k⟩
theorem uM (k:Q) (h:ZW Q->P:=by intro Kz;refine aZ zeroValue34 rfl rfl ?_;exact Kz.p):P:=h ⟨k⟩
theorem zAf (k:Q) (h:ZW Q->P:=by intro Kz;refine WA (i:=0) (γ:=Mp) (v:=λ_=>.tuple #[]) (ob:=λm=>m.obj (Value.int .i64) (gn (cL ns) (512+d))) (Φ:=λm=>m.Ok (gn (cL ns) (512+d))) (first:=[.map (some bf)]) (cap:=[]) rfl rfl call262 rfl rfl rfl (λW hS hW=>nJd bf m hm (512+d) W hW) ?_;exact Kz.p):P:=h ⟨k⟩
theorem zBf (k:Q) (h:ZW Q->P:=by intro Kz;refine enter (vs:=[_,_,_]) func19 rfl ntmps19 rfl ?_;exact Kz.p):P:=h ⟨k⟩
theorem zCf (k:Q) (h:ZW Q->P:=by intro Kz;refine nK (v:=.bool true) (f:=122) (cap:=[]) rfl call122 rfl rfl rfl (λW hS=>SA h2 W) ?_;exact Kz.p):P:=h ⟨k⟩
theorem zDf (k:Q) (h:ZW Q->P:=by intro Kz;refine call (v:=.bool true) call6 rfl rfl rfl (λW hS=>n7d hZ W (hg.old hS A2 zS trivial)) ?_;exact Kz.p):P:=h ⟨k⟩
theorem zEf (k:Q) (h:ZW Q->P:=by intro Kz;refine rq (.int .u64 ((r1/y1:Nat):Int)) (rW rfl rfl zJ zJ zJ) (vu (TX r1 y1)) ?_;exact Kz.p):P:=h ⟨k⟩
theorem O8 (k:Q) (h:ZW Q->P:=by intro Kz;refine rv rfl rfl rfl (kg (h:=32) underlying34 sizeOf5 rfl rfl zJ) ?_;exact Kz.p):P:=h ⟨k⟩
theorem Y1 (k:Q) (h:ZW Q->P:=by intro Kz;refine rr (.agg Hd) (bY underlying81 zeroValue81 (bA.c sizeOf31 (bA.c sizeOf32 (bA.n))) rfl rfl) ?_;exact Kz.p):P:=h ⟨k⟩
theorem zHf (k:Q) (h:ZW Q->P:=by intro Kz;refine nB (α:=Nat) (v:=λb=>.slice (some ⟨b,0,none⟩) 32 32) (Φ:=λW b w1=>W.heap.size<=b/\w1.heap[b]? =some (.cells (dg (eG Z lk)) 34 (0,0))) call28 rfl rfl rfl (λW hS=>UK hZ lk hlk W (hg.old hS A4 (λk hk=>SJ k zJ) zuc)) ?_;exact Kz.p):P:=h ⟨k⟩
theorem MK (k:Q) (h:ZW Q->P:=by intro Kz;refine rv rfl rfl rfl (fK 32 4294967296 zO rfl rfl rfl) ?_;exact Kz.p):P:=h ⟨k⟩
theorem zJf (k:Q) (h:ZW Q->P:=by intro Kz;refine rr (.agg (bC (⟨⟨G.g.folder,c.epoch,aI Z c,[],[]⟩,none,0,none,0⟩:Gv))) (bY underlying57 zeroValue57 (bA.c sizeOf3 (bA.c sizeOf3 (bA.c sizeOf34 (bA.c sizeOf52 (bA.c sizeOf55 (bA.n)))))) rfl rfl) ?_;exact Kz.p):P:=h ⟨k⟩
theorem OA (k:Q) (h:ZW Q->P:=by intro Kz;refine rv rfl rfl rfl (Bt rfl rfl zJ zJ) ?_;exact Kz.p):P:=h ⟨k⟩
theorem US (k:Q) (h:ZW Q->P:=by intro Kz;refine call call63 rfl rfl rfl (λW hS=>by rw[<-he];exact nJ _ W) (v:=.int .i64 e) ?_;exact Kz.p):P:=h ⟨k⟩
theorem zMf (k:Q) (h:ZW Q->P:=by intro Kz;refine call call208 rfl rfl rfl (λW hS=>nLc l cj N a cp W (aR hN (hS.links w A1).size) (aH.up (ao _) (hS.same A1 hN zS zM))) ?_;exact Kz.p):P:=h ⟨k⟩
theorem zNf (k:Q) (h:ZW Q->P:=by intro Kz;refine Ho (enc:=aj) (m:=1) (t:=3) (xs:=(cG (nq s.pls) l.fo)) (v:=id) (first:=[]) (cap:=[]) rfl call77 rfl rfl rfl (λW hS=>nbg s.pls ho.pl N s.pa s.pc W (aR hN (hS.links w A3).size) (hs.pl.up (ao _) (hS.same A3 hN zS trivial)) l.fo) ?_;exact Kz.p):P:=h ⟨k⟩
theorem MZ (k:Q) (h:ZW Q->P:=by intro Kz;refine bh (i:=0) rfl sizeOf34 rfl rfl rfl rfl rfl rfl ?_;exact Kz.p):P:=h ⟨k⟩
theorem CF (k:Q) (h:ZW Q->P:=by intro Kz;refine OX.done ?_;refine PX.next ?_;exact Kz.p):P:=h ⟨k⟩
theorem zQf (k:Q) (h:ZW Q->P:=by intro Kz;refine CJ.loop (α:=Nat) (λj=>[(0,yv l),(1,ptr b 0),(3,.int .i64 ((cA n:Int)-1-(j:Int)))]) (λj=>[]) (λj=>[W]) (λj=>B0 hM (hI ((oK n).take j))) (λj=>j<=cA n) (λj=>cA n-j) 0 (db _) zR rfl rfl zX ?_;exact Kz.p):P:=h ⟨k⟩
theorem zRf (k:Q) (h:ZW Q->P:=by intro Kz;refine call call108 rfl rfl rfl (λW hS=>by rw[<-iN];exact nvj hZ s hs0 (V.list l).enc zJ kj 0 sC sD.le W (cC.row (hS.own _ A0)) (hg.old hS A0 zS zM)) (v:=.agg (dg df)) ?_;refine bh (i:=1) rfl sizeOf34 rfl rfl rfl rfl rfl rfl ?_;exact Kz.p):P:=h ⟨k⟩
theorem xx (k:Q) (h:ZW Q->P:=by intro Kz;refine aZ zeroValue149 rfl rfl ?_;exact Kz.p):P:=h ⟨k⟩
theorem ZX (k:Q) (h:ZW Q->P:=by intro Kz;refine rr (.agg #[.slice a ns.length cp]) (ae isAgg55 sizeOf55 rfl A0 aU aN zI rfl) ?_;exact Kz.p):P:=h ⟨k⟩
theorem zUf (k:Q) (h:ZW Q->P:=by intro Kz;refine enter (vs:=[_,_,_]) func37 rfl ntmps37 rfl ?_;exact Kz.p):P:=h ⟨k⟩
theorem zVf (k:Q) (h:ZW Q->P:=by intro Kz;refine rr (.agg (wrA x.w)) (dd (i:=0) rfl isAgg162 sizeOf162 rfl (bj rfl)) ?_;exact Kz.p):P:=h ⟨k⟩
theorem zWf (k:Q) (h:ZW Q->P:=by intro Kz;refine rq (.bool false) (qW rfl rfl) (vb (decide_eq_false zJ)) ?_;exact Kz.p):P:=h ⟨k⟩
theorem zXf (k:Q) (h:ZW Q->P:=by intro Kz;refine PJ.reH (H':=[(oM,.cells (cf 128 (lR n m j N)) 5 (0,0)),(b3,.cells (mU n m (ea n)).cells 336 (0,0)),(b2,.cells (hQ (mU n m (ea n)) (i+1)) 34 (0,0))]) (by rw[<-nFj _ i zJ];rfl) ?_;exact Kz.p):P:=h ⟨k⟩
theorem zYf (k:Q) (h:ZW Q->P:=by intro Kz;refine rq (.int .u64 (r1:Int)) (p8 rfl rfl) (vu zDb) ?_;exact Kz.p):P:=h ⟨k⟩
theorem Qq (k:Q) (h:ZW Q->P:=by intro Kz;refine bh (i:=0) rfl sizeOf38 rfl rfl rfl rfl rfl rfl ?_;exact Kz.p):P:=h ⟨k⟩
theorem z0f (k:Q) (h:ZW Q->P:=by intro Kz;refine bF (.inl rfl) results210 (RS.t rfl (RS.n)) A2 zP ?_;exact Kz.p):P:=h ⟨k⟩
theorem HZ (k:Q) (h:ZW Q->P:=by intro Kz;refine CX.seq ?_;refine CX.region ?_;exact Kz.p):P:=h ⟨k⟩
theorem z2f (k:Q) (h:ZW Q->P:=by intro Kz;refine ng (E':=[(2,_),(3,_),(4,_),(5,_),(6,_),(8,_),(9,_),(12,_),(13,_),(14,_),(15,_),(16,_),(17,_),(18,_),(19,_),(20,_),(21,_),(22,_),(23,_),(24,_),(25,_)]) zR ?_;exact Kz.p):P:=h ⟨k⟩
theorem Qi (k:Q) (h:ZW Q->P:=by intro Kz;refine bh (i:=0) rfl sizeOf4 rfl rfl rfl rfl rfl rfl ?_;exact Kz.p):P:=h ⟨k⟩
theorem z4f (k:Q) (h:ZW Q->P:=by intro Kz;refine rq (ptr b4 j) (kh underlying375 sizeOf229 rfl rfl zJ zJ) (congrArg (ptr b4) zJ) ?_;refine kf (i:=0) rfl sizeOf229 rfl rfl rfl rfl (by rw[xj];omega) rfl ?_;exact Kz.p):P:=h ⟨k⟩
theorem z5f (k:Q) (h:ZW Q->P:=by intro Kz;refine ndj (ys:=(V.list l).enc) call107 rfl rfl rfl (λW hS=>nue l cB hd gA N (some ⟨bl,0,none⟩) lc W (aR hN (hS.links _ A0).size) (dM.up (ao _) (hS.same A0 hN zS zM) _ _ rH)) ?_;exact Kz.p):P:=h ⟨k⟩
theorem z6f (k:Q) (h:ZW Q->P:=by intro Kz;refine rq (.bool ((av (ug (cS ns)) x.at_).getD false)) (pN (ev:=Value.bool) underlying351 underlying3 zeroValue4 hm (bL.own (i:=1) rfl) rfl rfl) (nyj _) ?_;exact Kz.p):P:=h ⟨k⟩
theorem z7f (k:Q) (h:ZW Q->P:=by intro Kz;refine MR (f:=238) (i:=2) (first:=[]) (cap:=[]) rfl rfl call238 rfl rfl rfl (λW hS hW=>n0d (S8.at (mU n m (ea n)) i).toNat b2 (4*i) _ _ _ _ zJ (by rw[hQ,xj];omega) W hW) ?_;exact Kz.p):P:=h ⟨k⟩
theorem z8f (k:Q) (h:ZW Q->P:=by intro Kz;refine rv rfl rfl rfl (fK 8 256 zO rfl rfl rfl) ?_;refine B 13 ?_;exact Kz.p):P:=h ⟨k⟩
theorem z9f (k:Q) (h:ZW Q->P:=by intro Kz;refine rv rfl rfl rfl (qa rfl rfl zJ (by have:=TY zJ;omega)) ?_;exact Kz.p):P:=h ⟨k⟩
theorem zag (k:Q) (h:ZW Q->P:=by intro Kz;refine nK (v:=.bool true) (f:=122) (cap:=[]) rfl call122 rfl rfl rfl (λW hS=>SA h3 W) ?_;exact Kz.p):P:=h ⟨k⟩
theorem Uc (k:Q) (h:ZW Q->P:=by intro Kz;refine ax results63 rfl A0 ?_;refine vi ?_;exact Kz.p):P:=h ⟨k⟩
theorem Vq (k:Q) (h:ZW Q->P:=by intro Kz;refine rr (.bool true) (dA rfl) ?_;exact Kz.p):P:=h ⟨k⟩
theorem zeg (k:Q) (h:ZW Q->P:=by intro Kz;refine call call201 rfl rfl rfl (λW hS=>by rw[<-eX];exact ZE ns hn N a cp W (aR hN (hS.links w A1).size) (aH.up (ao _) (hS.same A1 hN zS Cs))) (v:=.int .i64 210) ?_;exact Kz.p):P:=h ⟨k⟩
theorem zfg (k:Q) (h:ZW Q->P:=by intro Kz;refine call call210 rfl rfl rfl (λW hS=>nse G N W (aR hN (hS.links w A1).size) (hG.up (ao _) (hS.same A1 hN zS zM)) l cj a cp (aH.up (ao _) (hS.same A1 hN zS zM)) au) ?_;exact Kz.p):P:=h ⟨k⟩
theorem zgg (k:Q) (h:ZW Q->P:=by intro Kz;refine rq (.bool true) (cq rfl rfl) (vb Xh) ?_;exact Kz.p):P:=h ⟨k⟩
theorem zhg (k:Q) (h:ZW Q->P:=by intro Kz;refine nyg (ev:=iS) (kv:=(nq l)) (v:=id) call46 rfl rfl rfl (λW hS=>nRg l cj N a cp W (aR hN (hS.links w A0).size) (aH.up (ao _) (hS.same A0 hN zS trivial))) ?_;exact Kz.p):P:=h ⟨k⟩
theorem Uj (k:Q) (h:ZW Q->P:=by intro Kz;refine kf (i:=0) rfl sizeOf3 rfl rfl rfl rfl (bj rfl) rfl ?_;exact Kz.p):P:=h ⟨k⟩
theorem zkg (k:Q) (h:ZW Q->P:=by intro Kz;refine rv rfl rfl rfl (aO (i:=2) rfl isAgg34 sizeOf34 rfl (by rw[hQ,xj])) ?_;refine bh (i:=2) rfl sizeOf34 rfl rfl rfl zSd (by rw[hQ,xj]) rfl ?_;exact Kz.p):P:=h ⟨k⟩
theorem T9 (k:Q) (h:ZW Q->P:=by intro Kz;refine bh (i:=0) rfl sizeOf202 rfl rfl rfl rfl rfl rfl ?_;exact Kz.p):P:=h ⟨k⟩
theorem Vw (k:Q) (h:ZW Q->P:=by intro Kz;refine bh (i:=0) rfl sizeOf164 rfl rfl rfl rfl rfl rfl ?_;exact Kz.p):P:=h ⟨k⟩
theorem zng (k:Q) (h:ZW Q->P:=by intro Kz;refine call call97 rfl rfl rfl (λW hS=>Xl 0 zO zO W) ?_;exact Kz.p):P:=h ⟨k⟩
theorem UB (k:Q) (h:ZW Q->P:=by intro Kz;refine bh (i:=0) rfl sizeOf36 rfl rfl rfl rfl rfl rfl ?_;exact Kz.p):P:=h ⟨k⟩
theorem zpg (k:Q) (h:ZW Q->P:=by intro Kz;refine bF (.inl rfl) results208 (RS.t rfl (RS.n)) A0 zP ?_;exact Kz.p):P:=h ⟨k⟩
theorem Vz (k:Q) (h:ZW Q->P:=by intro Kz;refine call call140 rfl rfl rfl (λW hS=>Rn _ _ _ W) ?_;exact Kz.p):P:=h ⟨k⟩
theorem zrg (k:Q) (h:ZW Q->P:=by intro Kz;refine rq (.int .i64 ((cA n:Int)-1-(0:Nat))) (gz rfl rfl zJ zJ) (vi (by rw[T6];omega)) ?_;exact Kz.p):P:=h ⟨k⟩
theorem WK (k:Q) (h:ZW Q->P:=by intro Kz;refine bF (.inl rfl) results19 (RS.t rfl (RS.n)) A2 zP ?_;exact Kz.p):P:=h ⟨k⟩
theorem ztg (k:Q) (h:ZW Q->P:=by intro Kz;refine aZ zeroValue373 rfl rfl ?_;exact Kz.p):P:=h ⟨k⟩
theorem Ko (k:Q) (h:ZW Q->P:=by intro Kz;refine aZ zeroValue233 rfl rfl ?_;exact Kz.p):P:=h ⟨k⟩
theorem Lw (k:Q) (h:ZW Q->P:=by intro Kz;refine aZ zeroValue135 rfl rfl ?_;exact Kz.p):P:=h ⟨k⟩
theorem zwg (k:Q) (h:ZW Q->P:=by intro Kz;refine Nt (enc:=eW) (m:=2) (t:=355) (xs:=[]) (v:=λs=>.agg #[s]) (first:=[]) (cap:=[]) rfl call220 rfl rfl rfl (λW hS=>nuf W) ?_;exact Kz.p):P:=h ⟨k⟩
theorem zxg (k:Q) (h:ZW Q->P:=by intro Kz;refine call call218 rfl rfl rfl (λW hS=>n4j ns hn N a cp W (aR hN (hS.links w A1).size) (aH.up (ao _) (hS.same A1 hN zS Cs)) eX d hd fN) ?_;exact Kz.p):P:=h ⟨k⟩
theorem zyg (k:Q) (h:ZW Q->P:=by intro Kz;refine B 2 ?_;refine rv rfl rfl rfl (gX rfl rfl) ?_;refine B 1 ?_;refine rv rfl rfl rfl (kC rfl rfl) ?_;refine B 1 ?_;refine rv rfl rfl rfl (gX rfl rfl) ?_;refine B 1 ?_;refine zde ?_;refine B 1 ?_;refine zje ?_;refine B 5 ?_;exact Kz.p):P:=h ⟨k⟩
theorem wh (k:Q) (h:ZW Q->P:=by intro Kz;refine rr (.bool false) (cq rfl rfl) ?_;exact Kz.p):P:=h ⟨k⟩
theorem zAg (k:Q) (h:ZW Q->P:=by intro Kz;refine B 6 ?_;refine rr (.agg (bC G)) (ae isAgg57 sizeOf57 rfl A1 aU aN zI rfl) ?_;refine call call144 rfl rfl rfl (λW hS=>by rw[<-hv];exact nU G N W (aR hN (hS.links w A2).size) (hG.up (ao _) (hS.same A2 hN zS zM))) (v:=.bool true) ?_;refine rr (.bool false) (dA rfl) ?_;refine B 8 ?_;refine rr (.agg (dI c)) (ae isAgg99 sizeOf99 rfl A0 aM aD zI rfl) ?_;exact Kz.p):P:=h ⟨k⟩
theorem zBg (k:Q) (h:ZW Q->P:=by intro Kz;refine zqf ?_;refine B 7 ?_;refine tR ?_;refine B 3 ?_;refine Jc ?_;refine B 18 ?_;refine He ?_;refine B 11 ?_;refine ztf ?_;exact Kz.p):P:=h ⟨k⟩
theorem VK (k:Q) (h:ZW Q->P:=by intro Kz;refine rq (.bool false) (cq rfl rfl) (vb Xh) ?_;exact Kz.p):P:=h ⟨k⟩
theorem Qj (k:Q) (h:ZW Q->P:=by intro Kz;refine rr (.agg (lkC l)) (ae isAgg84 sizeOf84 rfl A0 ew eR trivial rfl) ?_;exact Kz.p):P:=h ⟨k⟩
theorem Hp (k:Q) (h:ZW Q->P:=by intro Kz;refine og ?_;refine og ?_;exact Kz.p):P:=h ⟨k⟩
theorem ML (k:Q) (h:ZW Q->P:=by intro Kz;refine rv rfl rfl rfl (qa rfl rfl zJ zJ) ?_;exact Kz.p):P:=h ⟨k⟩
theorem zGg (k:Q) (h:ZW Q->P:=by intro Kz;refine call call145 rfl rfl rfl (λW hS=>by rw[<-iE];exact nqb c dt.few N W (aR hN (hS.links w A2).size) (hC.up (ao _) (hS.same A2 hN zS zM))) (v:=.int .i64 0) ?_;exact Kz.p):P:=h ⟨k⟩
theorem zHg (k:Q) (h:ZW Q->P:=by intro Kz;refine nec rfl ?_;refine B 4 ?_;exact Kz.p):P:=h ⟨k⟩
theorem zIg (k:Q) (h:ZW Q->P:=by intro Kz;refine B 9 ?_;refine rv rfl rfl rfl (gE (ev:=(Value.int .i64)) underlying319 underlying3 zeroValue3 hm (bL.own (i:=0) rfl) rfl rfl) ?_;refine B 10 ?_;exact Kz.p):P:=h ⟨k⟩
theorem zJg (k:Q) (h:ZW Q->P:=by intro Kz;refine rv rfl rfl rfl (aa (v:=.int .i64 n) isAgg3 rfl A0 qU zU z7 zqd) ?_;exact Kz.p):P:=h ⟨k⟩
theorem zKg (k:Q) (h:ZW Q->P:=by intro Kz;refine call call218 rfl rfl rfl (λW hS=>nXf ns hn N a cp W (aR hN (hS.links w A1).size) (aH.up (ao _) (hS.same A1 hN zS Cs)) eX d true) ?_;exact Kz.p):P:=h ⟨k⟩
theorem Yv (k:Q) (h:ZW Q->P:=by intro Kz;refine Dp underlying146 sizeOf149 zeroValue149 rfl rfl rfl rfl rfl rfl rfl ?_;exact Kz.p):P:=h ⟨k⟩
theorem zMg (k:Q) (h:ZW Q->P:=by intro Kz;refine rr (.agg (ekC Ck)) (bY underlying76 zeroValue76 (bA.c sizeOf34 (bA.c sizeOf61 (bA.n))) rfl rfl) ?_;exact Kz.p):P:=h ⟨k⟩
theorem zNg (k:Q) (h:ZW Q->P:=by intro Kz;refine kr underlying46 sizeOf57 zeroValue57 rfl rfl rfl rfl rfl rfl rfl ?_;exact Kz.p):P:=h ⟨k⟩
theorem WQ (k:Q) (h:ZW Q->P:=by intro Kz;refine enter (vs:=[_,_,_]) func4 rfl ntmps4 rfl ?_;exact Kz.p):P:=h ⟨k⟩
theorem Y2 (k:Q) (h:ZW Q->P:=by intro Kz;refine YM ?_;refine call call19 rfl rfl rfl (λW hS=>nHg l hE W) ?_;exact Kz.p):P:=h ⟨k⟩
theorem zQg (k:Q) (h:ZW Q->P:=by intro Kz;refine MR (f:=179) (i:=1) (first:=[]) (cap:=[ptr b5 0]) rfl rfl call179 rfl rfl rfl (λW hS hW=>nCg _ _ _ zJ zJ zJ zJ W hW) ?_;exact Kz.p):P:=h ⟨k⟩
theorem zRg (k:Q) (h:ZW Q->P:=by intro Kz;refine call call178 rfl rfl rfl (λW hS=>nPf _ _ _ zJ zJ zJ zJ zJ W) ?_;exact Kz.p):P:=h ⟨k⟩
theorem ZT (k:Q) (h:ZW Q->P:=by intro Kz;refine bh (i:=1) rfl sizeOf55 rfl rfl rfl rfl rfl (Rw.val_one2 _ _) ?_;exact Kz.p):P:=h ⟨k⟩
theorem zTg (k:Q) (h:ZW Q->P:=by intro Kz;refine bh (i:=0) rfl sizeOf55 rfl rfl rfl rfl rfl (Rw.val_one2 _ _) ?_;exact Kz.p):P:=h ⟨k⟩
theorem zUg (k:Q) (h:ZW Q->P:=by intro Kz;refine nL (cF hM (λ_=>False) (hI [] _)) [] (vs:=[_,_]) func302 rfl ntmps302 rfl (JI hM (hI [] _) h0 zX (by simp[jk]) zX) ?_;exact Kz.p):P:=h ⟨k⟩
theorem Xj (k:Q) (h:ZW Q->P:=by intro Kz;refine rv rfl rfl rfl (lL 32 4294967296 zO rfl rfl rfl rfl zJ zJ) ?_;exact Kz.p):P:=h ⟨k⟩
theorem zWg (k:Q) (h:ZW Q->P:=by intro Kz;refine ng (E':=[(0,_),(1,_),(2,_),(3,_),(8,_),(9,_)]) zR ?_;exact Kz.p):P:=h ⟨k⟩
theorem zXg (k:Q) (h:ZW Q->P:=by intro Kz;refine ng (E':=[(0,_),(1,_),(2,_),(3,_),(4,_),(5,_),(7,_),(8,_),(9,_),(10,_),(11,_),(12,_),(13,_)]) zR ?_;exact Kz.p):P:=h ⟨k⟩
theorem OY (k:Q) (h:ZW Q->P:=by intro Kz;refine rv rfl rfl rfl (Mx rfl rfl) ?_;exact Kz.p):P:=h ⟨k⟩
theorem NY (k:Q) (h:ZW Q->P:=by intro Kz;refine aZ zeroValue101 rfl rfl ?_;exact Kz.p):P:=h ⟨k⟩
theorem z0g (k:Q) (h:ZW Q->P:=by intro Kz;refine wpIn_loop (λa W=>∃m,Inv a W m) (λa W=>Of (Inv a W)) ⟨_,x0,rfl,h0,hN,hD,hE.fits hF,hS.lessL hL⟩ ?_;exact Kz.p):P:=h ⟨k⟩
theorem z1g (k:Q) (h:ZW Q->P:=by intro Kz;refine rq (.bool (n.testBit (cA n-1-j))) (er rfl rfl) (vb (IQ n _)) ?_;exact Kz.p):P:=h ⟨k⟩
theorem UO (k:Q) (h:ZW Q->P:=by intro Kz;refine aZ zeroValue84 rfl rfl ?_;exact Kz.p):P:=h ⟨k⟩
theorem Nb (k:Q) (h:ZW Q->P:=by intro Kz;refine aZ zeroValue38 rfl rfl ?_;exact Kz.p):P:=h ⟨k⟩
theorem z4g (k:Q) (h:ZW Q->P:=by intro Kz;refine ng (E':=[(0,_),(1,_),(2,_),(3,_),(4,_),(5,_),(6,_),(7,_),(8,_),(9,_),(10,_),(11,_)]) zR ?_;exact Kz.p):P:=h ⟨k⟩
theorem X2 (k:Q) (h:ZW Q->P:=by intro Kz;refine kf (i:=1) rfl sizeOf261 rfl rfl rfl rfl (bj rfl) rfl ?_;exact Kz.p):P:=h ⟨k⟩
theorem z6g (k:Q) (h:ZW Q->P:=by intro Kz;refine rr (.agg (dg (sl 1 0 0).par)) (pK underlying34 zeroValue34 sizeOf5 rfl rfl) ?_;exact Kz.p):P:=h ⟨k⟩
theorem z7g (k:Q) (h:ZW Q->P:=by intro Kz;refine rv rfl rfl rfl (gO (l:=64) (h:=N-64*k) underlying64 sizeOf5 rfl ⟨_,_,rfl,rfl⟩ rfl zJ zJ rfl) ?_;exact Kz.p):P:=h ⟨k⟩
theorem z8g (k:Q) (h:ZW Q->P:=by intro Kz;refine rr (.agg (dg G.g.last)) (ai isAgg34 sizeOf34 rfl A0 aM aD Lj (bj rfl)) ?_;exact Kz.p):P:=h ⟨k⟩
theorem X8 (k:Q) (h:ZW Q->P:=by intro Kz;refine ng (E':=[(0,_),(1,_),(2,_),(4,_),(5,_)]) zR ?_;exact Kz.p):P:=h ⟨k⟩
theorem zah (k:Q) (h:ZW Q->P:=by intro Kz;refine rr (.agg (dg c.par)) (dd (i:=0) rfl isAgg34 sizeOf34 rfl (bj rfl)) ?_;exact Kz.p):P:=h ⟨k⟩
theorem Xk (k:Q) (h:ZW Q->P:=by intro Kz;refine call call139 rfl rfl rfl (λW hS=>n1f _ zJ zJ W) ?_;exact Kz.p):P:=h ⟨k⟩
theorem zdh (k:Q) (h:ZW Q->P:=by intro Kz;refine bh (i:=1) rfl sizeOf101 rfl rfl rfl rfl rfl rfl ?_;exact Kz.p):P:=h ⟨k⟩
theorem Zu (k:Q) (h:ZW Q->P:=by intro Kz;refine bh (i:=0) rfl sizeOf355 rfl rfl rfl rfl rfl rfl ?_;exact Kz.p):P:=h ⟨k⟩
theorem zfh (k:Q) (h:ZW Q->P:=by intro Kz;refine bh (i:=0) rfl sizeOf210 rfl rfl rfl rfl rfl rfl ?_;exact Kz.p):P:=h ⟨k⟩
theorem zgh (k:Q) (h:ZW Q->P:=by intro Kz;refine bh (i:=0) rfl sizeOf166 rfl rfl rfl rfl rfl rfl ?_;exact Kz.p):P:=h ⟨k⟩
theorem zhh (k:Q) (h:ZW Q->P:=by intro Kz;refine bF (.inl rfl) results15 (RS.wA (i:=2) rfl isAgg38 sizeOf38 rfl (bj rfl) (RS.t rfl (RS.n))) A2 zP ?_;exact Kz.p):P:=h ⟨k⟩
theorem zih (k:Q) (h:ZW Q->P:=by intro Kz;refine bh (i:=0) rfl sizeOf96 rfl rfl rfl rfl rfl rfl ?_;exact Kz.p):P:=h ⟨k⟩
theorem zjh (k:Q) (h:ZW Q->P:=by intro Kz;refine rr (.int .i64 d.c.author) (aa isAgg3 rfl A1 aQ aX trivial rfl) ?_;exact Kz.p):P:=h ⟨k⟩
theorem zkh (k:Q) (h:ZW Q->P:=by intro Kz;refine rq (.bool true) (pe rfl rfl) (vb (decide_eq_true zJ)) ?_;exact Kz.p):P:=h ⟨k⟩
theorem zlh (k:Q) (h:ZW Q->P:=by intro Kz;refine nK (v:=.int .i64 (N3 x y)) (f:=92) (cap:=[]) rfl call92 rfl rfl rfl (λW hS=>nhg x y W) ?_;exact Kz.p):P:=h ⟨k⟩
theorem zmh (k:Q) (h:ZW Q->P:=by intro Kz;refine rq (.bool false) (cq rfl rfl) (vb (by simp[ox])) ?_;exact Kz.p):P:=h ⟨k⟩
theorem znh (k:Q) (h:ZW Q->P:=by intro Kz;refine call call111 rfl rfl rfl (λW hS=>XC [a,b] _ _ _ _ _ rfl zX W (hS.old A0 Db Dc trivial)) ?_;exact Kz.p):P:=h ⟨k⟩
theorem zoh (k:Q) (h:ZW Q->P:=by intro Kz;refine rr (.int .i64 lk.by_) (aa isAgg3 rfl A0 eo eH trivial rfl) ?_;exact Kz.p):P:=h ⟨k⟩
theorem zph (k:Q) (h:ZW Q->P:=by intro Kz;refine rq (.bool true) (cq rfl rfl) (vb (by simp[hb])) ?_;exact Kz.p):P:=h ⟨k⟩
theorem zqh (k:Q) (h:ZW Q->P:=by intro Kz;refine Hr (i:=2) (ev:=iS) (k:=x.fol) (v:=x) rfl hm underlying132 underlying3 rfl rfl rfl rfl ?_;exact Kz.p):P:=h ⟨k⟩
theorem ZQ (k:Q) (h:ZW Q->P:=by intro Kz;refine enter (vs:=[_,_,_]) func222 rfl ntmps222 rfl ?_;exact Kz.p):P:=h ⟨k⟩
theorem ZO (k:Q) (h:ZW Q->P:=by intro Kz;refine enter (vs:=[_,_,_]) func218 rfl ntmps218 rfl ?_;exact Kz.p):P:=h ⟨k⟩
theorem Z0 (k:Q) (h:ZW Q->P:=by intro Kz;refine enter (vs:=[_,_,_]) func154 rfl ntmps154 rfl ?_;exact Kz.p):P:=h ⟨k⟩
theorem zuh (k:Q) (h:ZW Q->P:=by intro Kz;refine enter (vs:=[_,_,_]) func146 rfl ntmps146 rfl ?_;exact Kz.p):P:=h ⟨k⟩
theorem Xr (k:Q) (h:ZW Q->P:=by intro Kz;refine B 2 ?_;refine rv rfl rfl rfl (gX rfl rfl) ?_;refine B 1 ?_;refine rv rfl rfl rfl (kC rfl rfl) ?_;refine B 2 ?_;refine rv rfl rfl rfl (gX rfl rfl) ?_;refine zYf ?_;refine B 7 ?_;refine zEf ?_;refine B 8 ?_;refine zee ?_;exact Kz.p):P:=h ⟨k⟩
theorem Rh (k:Q) (h:ZW Q->P:=by intro Kz;refine rr (.bool false) (dA rfl) ?_;exact Kz.p):P:=h ⟨k⟩
theorem zxh (k:Q) (h:ZW Q->P:=by intro Kz;refine B 4 ?_;refine Wj ?_;refine B 5 ?_;refine zCf ?_;refine B 6 ?_;refine zag ?_;refine B 6 ?_;refine nK (v:=.bool true) (f:=122) (cap:=[]) rfl call122 rfl rfl rfl (λW hS=>SA h4 W) ?_;refine B 6 ?_;refine rv rfl rfl rfl (qI underlying9 rfl) ?_;exact Kz.p):P:=h ⟨k⟩
theorem EX (k:Q) (h:ZW Q->P:=by intro Kz;refine z9e ?_;refine B 3 ?_;exact Kz.p):P:=h ⟨k⟩
theorem RL (k:Q) (h:ZW Q->P:=by intro Kz;refine B 11 ?_;refine wh ?_;refine z9d ?_;exact Kz.p):P:=h ⟨k⟩
theorem zAh (k:Q) (h:ZW Q->P:=by intro Kz;refine enter (vs:=[_,_,_]) func178 rfl ntmps178 rfl ?_;refine B 10 ?_;refine OF ?_;refine B 10 ?_;refine zWf ?_;refine B 9 ?_;exact Kz.p):P:=h ⟨k⟩
theorem zBh (k:Q) (h:ZW Q->P:=by intro Kz;refine rr (.agg (bC G)) (ae isAgg57 sizeOf57 rfl A1 aU aN zI rfl) ?_;exact Kz.p):P:=h ⟨k⟩
theorem T0 (k:Q) (h:ZW Q->P:=by intro Kz;refine B 2 ?_;refine z9f ?_;refine B 1 ?_;refine ML ?_;refine B 1 ?_;refine OA ?_;refine B 4 ?_;exact Kz.p):P:=h ⟨k⟩
theorem vd (k:Q) (h:ZW Q->P:=by intro Kz;refine B 7 ?_;refine og ?_;exact Kz.p):P:=h ⟨k⟩
theorem GG (k:Q) (h:ZW Q->P:=by intro Kz;refine B 6 ?_;refine ax results139 rfl A0 ?_;exact Kz.p):P:=h ⟨k⟩
theorem NM (k:Q) (h:ZW Q->P:=by intro Kz;refine NO ?_;refine B 5 ?_;exact Kz.p):P:=h ⟨k⟩
theorem zGh (k:Q) (h:ZW Q->P:=by intro Kz;refine Kx ?_;refine zof ?_;refine Rh ?_;refine B 9 ?_;refine zMf ?_;refine rq (.bool false) (dA rfl) (by rw[hf];rfl) ?_;exact Kz.p):P:=h ⟨k⟩
theorem PV (k:Q) (h:ZW Q->P:=by intro Kz;refine UF ?_;refine Uu ?_;refine B 3 ?_;exact Kz.p):P:=h ⟨k⟩
theorem NJ (k:Q) (h:ZW Q->P:=by intro Kz;refine BY ?_;refine B 11 ?_;exact Kz.p):P:=h ⟨k⟩
theorem zJh (k:Q) (h:ZW Q->P:=by intro Kz;refine B 6 ?_;refine zDf ?_;refine B 9 ?_;refine WL ?_;refine B 1 ?_;refine z1e ?_;refine B 2 ?_;refine WL ?_;refine B 1 ?_;exact Kz.p):P:=h ⟨k⟩
theorem GI (k:Q) (h:ZW Q->P:=by intro Kz;refine zne ?_;refine B 7 ?_;refine zke ?_;exact Kz.p):P:=h ⟨k⟩
theorem UP (k:Q) (h:ZW Q->P:=by intro Kz;refine UQ ?_;refine B 5 ?_;refine zKe ?_;exact Kz.p):P:=h ⟨k⟩
theorem zMh (k:Q) (h:ZW Q->P:=by intro Kz;refine BY ?_;refine B 4 ?_;refine BY ?_;refine B 3 ?_;refine BY ?_;refine B 3 ?_;refine rv rfl rfl rfl (sx rfl rfl) ?_;exact Kz.p):P:=h ⟨k⟩
theorem Ro (k:Q) (h:ZW Q->P:=by intro Kz;refine B 8 ?_;refine og ?_;exact Kz.p):P:=h ⟨k⟩
theorem zOh (k:Q) (h:ZW Q->P:=by intro Kz;refine call call177 rfl rfl rfl (λW hS=>nEi _ _ zJ zJ zJ zJ W) ?_;refine B 11 ?_;refine zRg ?_;exact Kz.p):P:=h ⟨k⟩
theorem zPh (k:Q) (h:ZW Q->P:=by intro Kz;refine VK ?_;refine B 6 ?_;refine VK ?_;refine B 3 ?_;refine rv rfl rfl rfl (ai isAgg34 sizeOf34 rfl A0 aM aD zI (bj rfl)) ?_;refine B 1 ?_;refine rv rfl rfl rfl (ai isAgg34 sizeOf34 rfl A1 aU aN zI (bj rfl)) ?_;exact Kz.p):P:=h ⟨k⟩
theorem zQh (k:Q) (h:ZW Q->P:=by intro Kz;refine bh (i:=0) rfl sizeOf81 rfl rfl rfl rfl rfl rfl ?_;refine B 5 ?_;refine rr (.agg Hd) (aO (i:=0) rfl isAgg81 sizeOf81 rfl rfl) ?_;exact Kz.p):P:=h ⟨k⟩
theorem K0 (k:Q) (h:ZW Q->P:=by intro Kz;refine B 7 ?_;refine Hp ?_;exact Kz.p):P:=h ⟨k⟩
theorem zSh (k:Q) (h:ZW Q->P:=by intro Kz;refine Uu ?_;refine B 2 ?_;refine ng (E':=[(0,_),(2,_),(7,_),(17,_),(18,_),(19,_),(20,_),(21,_),(22,_)]) zR ?_;exact Kz.p):P:=h ⟨k⟩
theorem X4 (k:Q) (h:ZW Q->P:=by intro Kz;refine B 4 ?_;refine ng (E':=[(0,_),(1,_),(3,_),(4,_)]) zR ?_;exact Kz.p):P:=h ⟨k⟩
theorem VI (k:Q) (h:ZW Q->P:=by intro Kz;refine B 13 ?_;refine UD ?_;refine B 9 ?_;exact Kz.p):P:=h ⟨k⟩
theorem zVh (k:Q) (h:ZW Q->P:=by intro Kz;refine zwe ?_;refine Rh ?_;refine B 8 ?_;refine zfe ?_;exact Kz.p):P:=h ⟨k⟩
theorem Ns (k:Q) (h:ZW Q->P:=by intro Kz;refine B 5 ?_;refine zDe ?_;refine B 1 ?_;exact Kz.p):P:=h ⟨k⟩
theorem GW (k:Q) (h:ZW Q->P:=by intro Kz;refine B 6 ?_;refine wh ?_;exact Kz.p):P:=h ⟨k⟩
theorem Z7 (k:Q) (h:ZW Q->P:=by intro Kz;refine enter (vs:=[_,_]) func257 rfl ntmps257 rfl ?_;refine B 3 ?_;exact Kz.p):P:=h ⟨k⟩
theorem Qg (k:Q) (h:ZW Q->P:=by intro Kz;refine P8 ?_;refine B 7 ?_;exact Kz.p):P:=h ⟨k⟩
theorem Jr (k:Q) (h:ZW Q->P:=by intro Kz;refine B 2 ?_;refine tR ?_;exact Kz.p):P:=h ⟨k⟩
theorem z1h (k:Q) (h:ZW Q->P:=by intro Kz;refine zVf ?_;refine call call209 rfl rfl rfl (λW hS=>nDf x.w W) (v:=.int .i64 (HI x.w)) ?_;refine B 4 ?_;exact Kz.p):P:=h ⟨k⟩
theorem z2h (k:Q) (h:ZW Q->P:=by intro Kz;refine B 6 ?_;refine z8d ?_;refine zVe ?_;refine B 3 ?_;refine UO ?_;exact Kz.p):P:=h ⟨k⟩
theorem Xq (k:Q) (h:ZW Q->P:=by intro Kz;refine B 1 ?_;refine zHg ?_;exact Kz.p):P:=h ⟨k⟩
theorem VH (k:Q) (h:ZW Q->P:=by intro Kz;refine B 5 ?_;refine tR ?_;refine B 7 ?_;exact Kz.p):P:=h ⟨k⟩
theorem Nx (k:Q) (h:ZW Q->P:=by intro Kz;refine zNe ?_;refine B 2 ?_;exact Kz.p):P:=h ⟨k⟩
theorem N8 (k:Q) (h:ZW Q->P:=by intro Kz;refine B 4 ?_;refine YD ?_;exact Kz.p):P:=h ⟨k⟩
theorem z7h (k:Q) (h:ZW Q->P:=by intro Kz;refine B 5 ?_;refine zWe ?_;refine B 1 ?_;refine nK (f:=260) (cap:=[]) rfl call260 rfl rfl rfl (λW hS=>nml x d W) ?_;exact Kz.p):P:=h ⟨k⟩
theorem ZV (k:Q) (h:ZW Q->P:=by intro Kz;refine enter (vs:=[_,_]) func221 rfl ntmps221 rfl ?_;refine B 3 ?_;exact Kz.p):P:=h ⟨k⟩
theorem z9h (k:Q) (h:ZW Q->P:=by intro Kz;refine B 8 ?_;refine ZP ?_;refine Z9 ?_;refine GW ?_;refine B 7 ?_;refine ZP ?_;refine zbf ?_;exact Kz.p):P:=h ⟨k⟩
theorem zai (k:Q) (h:ZW Q->P:=by intro Kz;refine rv rfl rfl rfl (pD rfl rfl) ?_;refine B 1 ?_;refine kf (i:=0) rfl sizeOf229 rfl rfl rfl rfl (bj rfl) rfl ?_;exact Kz.p):P:=h ⟨k⟩
theorem XZ (k:Q) (h:ZW Q->P:=by intro Kz;refine enter (vs:=[_]) func231 rfl ntmps231 rfl ?_;refine B 3 ?_;exact Kz.p):P:=h ⟨k⟩
theorem zdi (k:Q) (h:ZW Q->P:=by intro Kz;refine B 13 ?_;refine Qg ?_;refine QL ?_;refine B 5 ?_;exact Kz.p):P:=h ⟨k⟩
theorem MQ (k:Q) (h:ZW Q->P:=by intro Kz;refine B 3 ?_;refine Vt lN ?_;exact Kz.p):P:=h ⟨k⟩
theorem VJ (k:Q) (h:ZW Q->P:=by intro Kz;refine B 12 ?_;refine zng ?_;refine B 1 ?_;exact Kz.p):P:=h ⟨k⟩
theorem JC (k:Q) (h:ZW Q->P:=by intro Kz;refine zBf ?_;refine B 3 ?_;exact Kz.p):P:=h ⟨k⟩
theorem TV (k:Q) (h:ZW Q->P:=by intro Kz;refine B 3 ?_;refine z8f ?_;refine OD ?_;exact Kz.p):P:=h ⟨k⟩
theorem N7 (k:Q) (h:ZW Q->P:=by intro Kz;refine zUf ?_;refine B 3 ?_;exact Kz.p):P:=h ⟨k⟩
theorem zji (h:P:=by first|exact nb (λh=>absurd h.fo gw)|exact nb (λh=>by have:=h.e1;omega)|exact nb (λh=>by have:=h.e2;omega)|exact nb (λh=>absurd h.au gw)|exact nb (λh=>absurd h.ch zjb)|exact nb (λh=>by have:=h.pl;omega)|exact nb (λh=>by have:=h.bl;omega)|exact nb (λh=>by have:=h.wl;omega)|exact nb (λh=>by have:=Cw.2 (h.path _ _ hy);omega)|exact nb (λh=>by have h9:=h.box _ _ hx;have h8:=h9.1;have h7:=ny.2 h9.2;omega)|exact nb (λh=>by have h9:=h.wel _ _ hx;exact h1 h9.1)|exact nb (λh=>by have h9:=h.wel _ _ hx;have h8:=ny.2 h9.2.2;omega)|exact nb (λh=>by have h9:=(h.wel _ _ hx).2.1 y zJ hy;omega)|exact nmb ⟨by assumption,by omega,by omega,by assumption,by assumption,by omega,by omega,by omega,hA1,hA2,dm.all zJ⟩):P:=h
theorem T3 (h:P:=by
  first|(have TS:=hd.stop ft zJ;obtain⟨q2,rfl⟩:∃q2,q2=q:=⟨_,rfl⟩)|(have TS:=TZ zJ zJ aN aD ft zJ;generalize q-1=q2 at *)
  rw[MM]at TS
  obtain⟨r0,hr0⟩:∃z,(r1*2^32+v0)%Y=z:=⟨_,rfl⟩
  have aej:r0<Y:=by rw[<-hr0];exact Nat.mod_lt _ zJ
  have Ys:q2*Y+r0=r1*2^32+v0:=by have:=uJ (r1*2^32+v0) Y;rw[TS,hr0,rE]at this;exact this
  have bP:u*2^64+v=(q1*2^32+q2)*Y+r0:=by have:=nZb u v Y r1 zoc;rw[show v/2^32=v1 from hv1,show v%2^32=v0 from hv0,rY,TS,hr0]at this;exact this
  obtain⟨sy,uQ⟩:=nXb hi lo y s (q1*2^32+q2) r0 zvc zec
  have ael:=oJ.small (un:=v1) ft TW C4
  rw[MM,rY]at ael
  have aem:=oJ.small (un:=v0) ft pr mO
  rw[MM,TS]at aem
  refine zyg ?_
  refine nS results178 rfl rfl A0 ?_ ?_
  · rw[sy];exact vu zDb
  · rw[uQ]
 ):P:=h
theorem aE (h:P:=by exact absurd (show false=true from hr) zO):P:=h
theorem U9 (h:P:=by
  refine zff ?_
  first|exact vi (nad dm zJ)|exact vi (nO hx (λg=>by have g1:=g.1;have g2:=g.2.1;omega))|exact vi (nO hx (λg=>by have g3:=g.2.2.1 y zJ hy;omega))|exact vi (nO hx (λg=>Ng (x:=x.pub) D3 g.2.2.2.1))|exact vi (nO hx (λg=>by have g5:=(nVc _).2 g.2.2.2.2;simp_all))
 ):P:=h
theorem N1 (h:P:=by
  refine ax results90 rfl A1 ?_
  first|exact vi (if_pos ⟨h1,h2,h3,h4,h5⟩).symm|exact vi (if_neg (λh=>h1 h.1)).symm|exact vi (if_neg (λh=>h2 h.2.1)).symm|exact vi (if_neg (λh=>h3 h.2.2.1)).symm|exact vi (if_neg (λh=>h4 h.2.2.2.1)).symm|exact vi (if_neg (λh=>h5 h.2.2.2.2)).symm
 ):P:=h
theorem zoi (h:P:=by
  refine ss rfl rfl ?_ ?_
  · intro cv L' H' hl hP F Q' hk
    obtain rfl:=iZ hl
    obtain⟨rfl,rfl⟩:=hP
    refine zXe ?_
    rintro W_ ⟨ta_,tc_⟩ w_ TT hB_ ⟨h1_,h2_⟩
    have hs_:=(TT.links wm A0).size
    exact OJ.done (hk _ _ _ ⟨ta_,tc_,w_,rfl,rfl,rfl,h1_,λb off e=>(h2_ b off e).imp id (λh=>h.imp id (λh=>aR hs_ h)),aR hs_ hB_.size⟩)
  refine ss rfl rfl ?_ ?_
  · intro cv L' H' hl hP F Q' hk
    obtain⟨v1,rfl⟩:=cM hl
    obtain⟨ta,tc,wr,rfl,rfl,rfl,mK,eX,oW⟩:=hP
    refine zMe ?_
    intro r_ NG o3
    exact OJ.done (hk _ _ _ ⟨ta,tc,wr,r_,rfl,rfl,rfl,rfl,mK,eX,oW,NG,o3,Rw.ge_of NG A0⟩)
  refine ss rfl rfl ?_ ?_
  · intro cv L' H' hl hP F Q' hk
    obtain⟨v1,v2,rfl⟩:=iL hl
    obtain⟨ta,tc,wr,r8,rfl,rfl,rfl,rfl,mK,eX,oW,jO,fg,eS⟩:=hP
    refine B 1 ?_
    exact OJ.done (hk _ _ _ ⟨ta,tc,wr,r8,rfl,rfl,rfl,rfl,rfl,mK,eX,oW,jO,fg,eS⟩)
  refine ss rfl rfl ?_ ?_
  · intro cv L' H' hl hP F Q' hk
    obtain⟨v1,v2,v3,rfl⟩:=lT hl
    obtain⟨ta,tc,wr,r8,rfl,rfl,rfl,rfl,rfl,mK,eX,oW,jO,fg,eS⟩:=hP
    refine B 1 ?_
    exact OJ.done (hk _ _ _ ⟨ta,tc,wr,r8,rfl,rfl,rfl,rfl,rfl,rfl,mK,eX,oW,jO,fg,eS⟩)
  refine ss rfl rfl ?_ ?_
  · intro cv L' H' hl hP F Q' hk
    obtain⟨v1,v2,v3,v4,rfl⟩:=pH hl
    obtain⟨ta,tc,wr,r8,rfl,rfl,rfl,rfl,rfl,rfl,mK,eX,oW,jO,fg,eS⟩:=hP
    refine kf (i:=0) rfl sizeOf55 rfl rfl rfl rfl (bj rfl) (Rw.val_one2 _ _) ?_
    exact OJ.done (hk (.tuple #[]) _ _ ⟨ta,tc,wr,r8,rfl,rfl,rfl,rfl,rfl,rfl,rfl,mK,eX,oW,jO,fg,eS⟩)
  exact Wf
 ):P:=h
theorem zpi (h:P:=by
  refine zhe ?_
  refine nP 11 [4] [([],some _),([0],some (.slice G.ma G.g.ms.length G.mc)),([],some _),([2],some (.agg #[.slice G.na G.g.ns.length G.nc])),([3],none),([],some _),([1,4,5],some (.bool false)),([6],some _),([7],some undef),([7,8],some undef),([7],some undef)] (λcv L' H'=>match cv with| []=>L'=[w1,w]/\H'=[]| [v1]=>∃(a7:Option Addr) (c7:Nat) (w7:World),v1= .slice a7 (cS G.g.ns).length c7/\L'=[w7,w1,w]/\H'=[]/\ag (λx=>(aj x).toArray) 1 w7.heap.size w7 a7 (cS G.g.ns)|_=>False) zQ ⟨rfl,rfl⟩ zQ zQ zQ zQ zQ zQ (pc Q1 (pc HE (pc Q2 (pc HE (pk (pc zT (pc (λcv L' H' hd hP=>match cv,hd,hP with| [],hd,hP=>(absurd (show false=true from hd) zO)| [v1],hd,hP=>zkd|_::_::_,_,hP=>hP.elim) (pc zT (pc oC (pc oC (pc oC (pn)))))))))))) ?_ ?_
  · refine sc rfl rfl rfl ?_ ?_
    · intro cv L' H' hl hP F Q' hk
      obtain rfl:=iZ hl
      obtain⟨rfl,rfl⟩:=hP
      refine zte ?_
      intro W7 a7 c7 w7 hS7 hB7 jH uf
      exact OJ.done (hk _ _ _ ⟨a7,c7,w7,rfl,rfl,rfl,jH⟩)
    exact sn
  · intro cv L' H' hl hP
    obtain⟨v1,rfl⟩:=cM hl
    obtain⟨a7,c7,w7,rfl,rfl,rfl,jH⟩:=hP
    refine B 7 ?_
    refine ax results144 rfl A2 ?_
    exact Kj (λh=>h1 h.2.2.1)
 ):P:=h
theorem zqi (h:P:=by
  have hv:∀W2,∀w∈L,∀k,mN V W1 W2 k->V k\/w.heap.size<=k:=λW2 w hw k hk=>by
    rcases hk with hk|hk
    · exact .inl hk
    · have:=(hS.links w hw).size;exact .inr zJ
  refine⟨fn,tmps,assign,body,fZ,ga.mono ?_⟩
  rintro e W2 ⟨b,rfl,hk,hb⟩
  refine⟨b,rfl,by rw[(hT _).1];exact hk,?_⟩
  have nx:∀{R:World->Prop} (hR:dW (λk=>(k<W0.heap.size/\¬MI k)\/(mN V W1 W2) k) R),R W2->Next (T (cF hM V hI)) W1 W2 (T (cF hM (mN V W1 W2) hR)):=λ{R} hR hb=>by
    refine⟨λk h=>?_,λk h=>?_,λk h=>?_,by rw[(hT _).2.2.1];exact hb⟩
    · rw[(hT _).2.2.2]at h ⊢
      rcases h with(h|h)|h
      · exact .inl (.inl h)
      · exact .inl (.inr (.inl h))
      · exact .inr h
    · rw[(hT _).2.2.2]at h ⊢
      rcases h with(h|h|h)|h
      · exact .inl (.inl (.inl h))
      · exact .inl (.inl (.inr h))
      · exact .inr h
      · exact .inl (.inr h)
    · rw[(hT _).2.1]at h ⊢
      rcases h with h|h|h
      · exact .inl (.inl h)
      · exact .inl (.inr h)
      · exact .inr h
  cases b with
  |true=>exact⟨_,⟨_,λk h=>.inl h,hv W2,rfl⟩,nx (kJ _) hb⟩
  |false=>exact⟨_,⟨_,λk h=>.inl h,hv W2,rfl⟩,nx (eQ _) hb⟩
 ):P:=h
theorem Q7 (h:P:=by
  refine z0f ?_
  show Value.bool _=Value.bool _
  refine vb ?_
  first|(have h1b:(gF G.g.ms au != decide (0<G.g.epoch))=true:=zc;unfold ow;rw[h1b];rfl)|(have h1b:(gF G.g.ms au != decide (0<G.g.epoch))=false:=zc;unfold ow;rw[h1b];simp_all)
 ):P:=h
theorem zsi (h:P:=by
  rw[Ge,Ge,hu]
  have fN:look (bK ops sp ch cv ds) t=none:=by
    have:∀js,(∀j∈js,j<nA)->look (bK ops sp ch cv js) t=none:=by
      intro js
      induction js with
      |nil=>intro _;rfl
      |cons j js ih=>
        intro gf
        have tH:=ih λj' tE=>gf j' (by simp[tE])
        unfold bK
        cases Ml:(ops[j]?).bind (·.dst)with
        |none=>exact tH
        |some d'=>
          obtain⟨oj,Mm,tI⟩:=Tv.1 Ml
          have tJ:d'≠t:=λe'=>by
            subst e'
            rw[ok.apart j oj d' (gf j zX) Mm tI]at hu;cases hu
          simp only[look,wI tJ]
          exact tH
    exact this ds (λj hj=>by have:=(oH j hj).2;omega)
  rw[fN];rfl
 ):P:=h
theorem zti (h:P:=by
  intro js
  induction js with
  |nil=>intro h;cases h
  |cons j js ih=>
    intro Xi gf
    unfold bK
    by_cases ej:j=q
    · subst ej
      simp only[iG,Option.bind_some,kE,look,wJ]
    · have aes:q∈js:=by
        rcases cI.1 Xi with h|h
        · exact absurd h.symm ej
        · exact h
      have tH:=ih aes λj' tE=>gf j' (by simp[tE])
      cases Ml:(ops[j]?).bind (·.dst)with
      |none=>exact tH
      |some dj=>
        obtain⟨oj,Mm,tI⟩:=Tv.1 Ml
        have tJ:dj≠d':=λe'=>ej (ok.uniq j q oj o' dj (gf j zX) CW Mm iG tI (e'▸kE))
        simp only[look,wI tJ]
        exact tH
 ):P:=h
theorem zui (h:P:=by
  refine sc rfl rfl rfl ?_ ?_
  · intro cv L' H' hl hP F Q' hk
    obtain rfl:=iZ hl
    obtain⟨rfl,rfl⟩:=hP
    refine zte ?_
    intro W7 a7 c7 w7 hS7 hB7 jH uf
    exact OJ.done (hk _ _ _ ⟨a7,c7,w7,rfl,rfl,rfl,jH⟩)
  exact sn
 ):P:=h
theorem VO (h:P:=by
  refine sc rfl rfl rfl ?_ ?_
  · intro cv L' H' hl hP F Q' hk
    obtain rfl:=iZ hl
    obtain⟨rfl,rfl⟩:=hP
    refine zpe ?_
    intro W_ a_ c_ w_ TT hB_ aet TU
    have hq_:=(TT.links wn A0).size
    exact OJ.done (hk _ _ _ ⟨a_,c_,w_,rfl,rfl,rfl,aet,λq e=>aR hq_ (TU q e)⟩)
  exact sn
 ):P:=h
theorem Q6 (h:P:=by exact PJ.mid ⟨(congrArg (λb=>some (Value.bool b)) zsb),rfl,rfl,rfl,rfl,rfl,rfl,rfl,rfl,rfl,rfl,rfl,rfl,rfl,trivial⟩):P:=h
theorem zxi (h:P:=by
  intro js
  induction js with
  |nil=>intro _ _;rfl
  |cons j js ih=>
    intro gf Xi
    have tH:=ih (λj' tE=>gf j' (by simp[tE])) (λh=>Xi (by simp[h]))
    unfold bK
    cases Ml:(ops[j]?).bind (·.dst)with
    |none=>exact tH
    |some dj=>
      obtain⟨oj,Mm,tI⟩:=Tv.1 Ml
      have tJ:dj≠d':=λe'=>Xi (by
        have:=ok.uniq j q oj o' dj (gf j zX) CW Mm iG tI (e'▸kE)
        simp[this])
      simp only[look,wI tJ]
      exact tH
 ):P:=h
theorem zyi (h:P:=by
  refine⟨G'.stab A B hA.ghost ho ht od hs (λk hv=>dL k (fj.v k hv)),λk hv=>jT (hA.vlt k hv) hs,λk hv=>jT (hA.xlt k hv) hs,λw hw=>?_,λp hp=>?_,hA.nodup,hA.apart⟩
  · have h1:=hA.links w hw
    exact⟨ho.trans h1.os,ht.trans h1.tape,od.trans h1.output,aR h1.size hs,λk hk hx=>(dL k (.inl ⟨jT hk (lC.links w hw).size,λhm=>by have:=(kD k hm).2.1.mem w hw;omega⟩)).trans (h1.block k hk hx)⟩
  · have hq:M p.1\/V p.1:=by
      simp only[book,cQ,cI,fu,or_false]at hp
      rcases hp with hp|rfl|rfl
      · exact fj.h p hp
      · exact .inl (.inr (.inr (.inr rfl)))
      · exact .inl (.inr (.inr (.inl rfl)))
    rw[dL p.1 (hq.imp (λh=>⟨(vS _ h).1,(vS _ h).2.1⟩) id)];exact hA.own p hp
 ):P:=h
theorem RJ (h:P:=by
  refine NM ?_
  exact bH (.inl rfl) results101 (RS.wA (i:=0) rfl isAgg57 sizeOf57 rfl (bj rfl) (RS.t rfl RS.n)) λW hS=>⟨jV,rfl,hS.base A2 zP,rfl,RI _ _,λq h=>CD,λq h=>CD⟩
 ):P:=h
theorem Vk (h:P:=by
  refine zpg ?_
  first|exact n8g dm zJ|exact nmc hx (λg=>by have g1:=g.1.1;rw[<-Km,<-Kn]at g1;exact absurd g1 gw)|exact nmc hx (λg=>absurd g.1.2 gw)|exact nmc hx (λg=>by have g1:=g.2;simp_all)
 ):P:=h
theorem zBi (h:P:=by
  intro a W hI
  obtain⟨x,hx,iF,hN,hD,hF,hS⟩:=nAe hI
  refine wpIn_mono (round x iF a W hN hD hF hS) ?_
  intro e a' W' hq
  cases e with
  |normal=>
    obtain⟨x',aev,hlt,h1,h2,h3,h4⟩:=hq
    have WY:Inv a' W' (μ x'):=⟨x',rfl,aev,h1,h2,h3,h4⟩
    exact⟨⟨_,WY⟩,by have:=n7f WY;omega⟩
  |_=>exact hq
 ):P:=h
theorem zCi (h:P:=by
  refine sc rfl rfl rfl ?_ ?_
  · intro cv L' H' hl hP F Q' hk
    obtain rfl:=iZ hl
    obtain⟨rfl,rfl⟩:=hP
    refine zve ?_
    rintro W_ b_ w_ TT hB_ ⟨hq_,hb_⟩
    try dsimp only at hq_ hb_
    have hs_:=(TT.links wn A1).size
    exact OJ.done (hk _ _ _ ⟨b_,w_,rfl,rfl,rfl,hb_,by omega⟩)
  exact sn
 ):P:=h
theorem GJ (h:P:=by
  refine B 2 ?_
  refine PJ.again (q-1,r+y1) ⟨aN,by omega,aD,by omega⟩ zyc zR rfl rfl zX
 ):P:=h
theorem Ob (h:P:=by
  refine ax results34 rfl A1 ?_
  first|exact vb zcd|exact vb z7c|exact vb z1b
 ):P:=h
theorem zFi (h:P:=by
  intro k' c hc
  show((bU.setIfInBounds i true).getD c false=true↔_)
  rw[di bU i c qd hi]
  by_cases e:c=i
  · subst e
    rw[if_pos rfl]
    have h1':=Md ch k' c hc kF
    have h2':=Md ch k c hk kF
    have:k'=k:=by omega
    subst this
    exact⟨λ_=>⟨v,by rw[Iu zJ]⟩,λ_=>rfl⟩
  · rw[if_neg e,h7 k' c hc]
    have dn:k≠k':=λe'=>e (by subst e';rw[hk]at hc;cases hc;rfl)
    rw[F8 dn]
 ):P:=h
theorem Ud (h:P:=by
  refine nS results62 rfl rfl A0 ?_ ?_
  all_goals(refine vi ?_;unfold gExp;first|(simp only[if_neg hg];done)|(rw[if_pos hg];first|(rw[if_neg zJ];done)|(rw[if_pos zJ];done)))
 ):P:=h
theorem zHi (h:P:=by
  refine B 6 ?_
  have bP:=nin (l:=cu d) (i:=i) zJ (ik (cL ns) (512+d))
  rw[bP]at sQ ⊢
  refine B 9 ?_
  refine bH (.inl rfl) results218 (RS.t rfl (RS.t rfl (RS.t rfl RS.n))) λW hS=>⟨bf,mi,ap,k4,rfl,hS.base A2 uN,by omega,sQ,hS.own _ A0,pP.blk λb off aQ aU=>?_,λq hq=>?_⟩
  · have h1:=oU _ aQ
    dsimp only at h1
    exact⟨jT aU (hS.links wp A0).size,(hS.links wp A0).block b aU (by simp[Gh.no];omega)⟩
  · have h1:=oU _ hq
    have h2:=(vg.links w A1).size
    exact⟨by omega,by omega⟩
 ):P:=h
theorem zIi (h:P:=by
  refine sc rfl rfl rfl ?_ ?_
  · intro cv L' H' hl hP F Q' hk
    obtain rfl:=iZ hl
    obtain⟨rfl,rfl⟩:=hP
    refine zHf ?_
    rintro Wm bm wm Cu U4 ⟨lO,ku⟩
    try dsimp only at lO ku
    have lm5:=Cu.lt (b5,_) A0
    have lm4:=Cu.lt (b4,_) A1
    have lml:=Cu.lt (l,.loop {rec with state:=.busy}) wW
    try dsimp only at lm5 lm4 lml
    exact OJ.done (hk _ _ _ ⟨bm,wm,rfl,rfl,rfl,ku,(aT.1 ku).1,⟨by omega,by omega,by omega⟩,λhx=>by have:=Cu.xlt bm hx;omega⟩)
  exact sn
 ):P:=h
theorem WM (h:P:=by refine PJ.again (j+1) ⟨by omega,dm.next hx mH⟩ zJ zR rfl rfl zX):P:=h
theorem zKi (h:P:=by
  refine B 14 ?_
  refine og ?_
  refine PJ.again ((i2+1,cur.set i2 x),j+1) ⟨by dsimp only;omega,by dsimp only;omega,by dsimp only;rw[FD];exact ll,by dsimp only;rw[nXd zJ,CC,RB hx,if_neg mH],by dsimp only;rw[ndf zJ];exact EV⟩ dG zR rfl rfl zX
 ):P:=h
theorem zLi (h:P:=by
  refine zih ?_
  refine B 5 ?_
  exact nW (enc:=qZ) (m:=4) (t:=164) (xs:=[]) (H0:=[(b6,.cells #[.slice none 0 0] 96 (0,0))]) (H1:=[]) (r:=.nil) (.inl rfl) results146 (RS.w (i:=0) rfl isAgg96 rfl rfl (RS.t rfl RS.n)) A1 zRc rfl rfl True.intro rfl
 ):P:=h
theorem zMi (h:P:=by
  rintro k (hk|hk|hk|hk)
  · exact⟨lC.xlt k hk,λh=>(kD k h).2.2.2.2 hk,λh=>(lF W hS k h).2.2 hk⟩
  · exact⟨by obtain⟨p,hp,rfl⟩:=bW.1 hk;have:=hS.lt p hp;omega,λh=>(kD k h).2.2.1 hk,λh=>(lF W hS k h).2.1 hk⟩
  · exact⟨by omega,λh=>by have:=(kD k h).1;omega,λh=>by have:=(lF W hS k h).1;omega⟩
  · exact⟨by omega,λh=>by have:=(kD k h).1;omega,λh=>by have:=(lF W hS k h).1;omega⟩
 ):P:=h
theorem M3 (h:P:=by
  refine ztg ?_
  intro b4 dO dU
  replace dO:=yb dO
  replace dU:=yc dU
  refine zBg ?_
  rfl
 ):P:=h
theorem zOi (h:P:=by
  obtain⟨a1,c1,a2,c2,ds,w9,rfl,rfl,rfl,rfl,rfl,jb,jc,fw,gg,pI,lG⟩:=hP
  refine B 1 ?_
  exact OJ.done (hk _ _ _ ⟨a1,c1,a2,c2,ds,w9,rfl,rfl,rfl,rfl,rfl,rfl,jb,jc,fw,gg,pI,lG⟩)
 ):P:=h
theorem Vv (h:P:=by
  refine ax results209 rfl A1 ?_
  first|exact Ri (λh=>by have h1:=Cw.2 h.1;have h2:=h.2;omega)|exact nmi ⟨Cw.1 zJ,by omega,by omega⟩
 ):P:=h
theorem zQi (h:P:=by
  refine B 5 ?_
  obtain⟨bq,oq,U5,tq,U6,rfl,U7,qU,qV⟩:=pP.get zJ
  have yN:=oU _ rfl
  dsimp only at yN
  obtain⟨n,hy⟩:=nj (cu d) i zJ
  refine B 2 ?_
  refine zJg ?_
  refine B 6 ?_
  refine zcf ?_
  intro m3 aD
  refine B 7 ?_
  refine PJ.again (m3,i+1) ⟨by dsimp only;omega,by rw[nIf hy];exact aD⟩ dG zR (by rw[nIf hy];rfl) rfl zX
 ):P:=h
theorem XE (h:P:=by
  refine nS results69 rfl rfl A1 ?_ ?_
  all_goals(refine vi ?_;unfold mR;first|(rw[if_neg hg];done)|(rw[if_pos hg];first|(rw[if_neg aJ];done)|(rw[if_pos aJ];done)))
 ):P:=h
theorem zSi (h:P:=by
  intro aJ
  refine Ro ?_
  refine PJ.again ((i2,cur),j+1) ⟨by dsimp only;omega,by dsimp only;omega,ll,by dsimp only;rw[CC,RB hx,if_pos mH,dH],EV⟩ dG zR rfl rfl zX
 ):P:=h
theorem zTi (h:P:=by
  intro uB c32 s32 mv aew
  refine OJ.dropF (i:=0) rfl (.inr ⟨by omega,by omega,trivial⟩) ?_
  refine B 8 ?_
  refine PJ.again (ys++y.enc,i+1,uB,c32,s32) ⟨by dsimp only;rw[iX,<-hy,<-V.encL_drop l i zJ];exact hinv,by dsimp only;omega,mv,by simpa only[Fr,Gh.lent,Gh.no,ad,and_true,false_or]using mv,aew⟩ dG zR rfl rfl zX
 ):P:=h
theorem zUi (h:P:=by
  refine⟨bV.ghost,bV.vlt,λk hk=>?_,λw hw=>?_,bV.own,bV.nodup,bV.apart⟩
  · rcases hk with hk|hk|hk
    · exact bV.xlt k hk
    · exact jT (vS k hk).1 yq
    · exact(hV k hk).2
  · rcases cI.1 hw with rfl|hw
    · exact aF.refl _ _
    · exact(bV.links w hw).mono λk _ hk=>hk.imp .inl id
 ):P:=h
theorem zVi (h:P:=by
  refine B 7 ?_
  refine zPe ?_
  refine B 5 ?_
  refine z7g ?_
  refine B 2 ?_
  refine PJ.again (k+1,if 128-64*k=64 then o2 else o2+64*1) (by dsimp only;split<;>omega) dG ⟨rfl,rfl,rfl,by rw[show N-64*(k+1)=N-64*k-64 by omega,show 128-64*(k+1)=128-64*k-64 by omega];rfl,trivial⟩ rfl rfl zX
 ):P:=h
theorem Ci (h:P:=by
  refine zQe ?_
  unfold nu
  simp[*]
 ):P:=h
theorem zXi (h:P:=by
  refine B 12 ?_
  refine zwg ?_
  intro r bE ak
  refine B 1 ?_
  refine zTg ?_
  refine B 4 ?_
  exact nW (enc:=eW) (m:=2) (t:=355) (xs:=[]) (H0:=[(b4,.cells #[r.val (([]:List Nd)).length] 55 (0,0))]) (H1:=[]) (r:=r) (.inl rfl) results221 (RS.wA (i:=0) rfl isAgg55 sizeOf55 rfl (bj rfl) (RS.t rfl RS.n)) A1 z3d rfl ak (Rw.ge_of bE A1) Va
 ):P:=h
theorem zYi (h:P:=by
  refine ax results18 rfl A0 ?_
  first|exact vb (by unfold vJ;rw[decide_eq_false zJ];rfl)|exact vb z5d|exact vb zYd
 ):P:=h
theorem Zp (h:P:=by
  rw[bO]at hx
  simp only[gP,eh,iB,cQ,cI,fu,or_false,Gh.no,false_or]at hx
  rcases hx with hx|hx|hx|hx<;>first|omega|(have:=hq _ hx;omega)
 ):P:=h
theorem z0i (h:P:=by
  refine sc rfl rfl rfl ?_ ?_
  · intro cv L' H' hl hP F Q' hk
    obtain⟨v1,v2,rfl⟩:=iL hl
    obtain⟨bn,rfl,rfl,rfl,rfl,hfn⟩:=hP
    refine G8 ?_
    intro b_ ES VA
    exact OJ.done (hk _ _ _ ⟨bn,b_,rfl,rfl,rfl,rfl,rfl,hfn,ES⟩)
  exact sn
 ):P:=h
theorem Z8 (h:P:=by exact nW (enc:=aj) (m:=1) (t:=3) (xs:=[]) (H0:=[]) (H1:=[]) (r:=.nil) (.inl rfl) results257 (RS.t rfl (RS.t rfl RS.n)) A1 trivial rfl rfl True.intro rfl):P:=h
theorem z2i (h:P:=by
  unfold wpListIn at AK
  unfold wpOpIn
  simp only[ho]
  split
  · rename_i hw
    rw[if_pos hw]at AK
    exact n2f (λa' W' h=>h) (λ_ _ _ h=>h) zU AK
  · rename_i hw
    rw[if_neg hw]at AK
    exact AK
 ):P:=h
theorem z3i (h:P:=by
  apply Array.ext'
  rw[M9,iC,<-hlen]
  show gD (ys++sp) ys.length news=_
  have Gm:n*ti.size<=sp.length:=by rw[xR,<-Ky,Ky];exact s4 _ zJ
  conv=>lhs;rw[<-DQ (n*ti.size) sp]
  rw[UE _ _ _ _ (by rw[jD];omega),iX]
 ):P:=h
theorem z4i (h:P:=by
  refine zTe ?_
  refine B 1 ?_
  refine O0 ?_
  refine B 12 ?_
  refine Hp ?_
  refine PJ.again (j+1,m) ⟨by dsimp only;omega,by dsimp only;rw[wH hx,Ie (.inr h8)];exact hm⟩ dG zR (by rw[wH hx,Ie (.inr h8)];rfl) rfl zX
 ):P:=h
theorem C9 (h:P:=by refine PJ.again (j+1) zJ zJ zR rfl rfl zX):P:=h
theorem Ny (h:P:=by exact λW hS=>.inr ⟨j,x,rfl,hx,by assumption,dm⟩):P:=h
theorem z7i (h:P:=by
  refine B 7 ?_
  refine zkg ?_
  refine B 3 ?_
  have e:i=8:=by omega
  subst e
  refine zkf ?_
  show Value.agg (cut (hQ (mU n m (ea n)) 8) 0 32)=_
  rw[n7g _ 32 (by rw[hQ,xj]),I3];rfl
 ):P:=h
theorem z8i (h:P:=by
  obtain⟨a1,c1,a2,c2,ds,w9,rfl,rfl,rfl,rfl,rfl,rfl,jb,jc,fw,gg,pI,lG⟩:=hP
  refine B 1 ?_
  exact OJ.done (hk _ _ _ ⟨a1,c1,a2,c2,ds,w9,rfl,rfl,rfl,rfl,rfl,rfl,rfl,jb,jc,fw,gg,pI,lG⟩)
 ):P:=h
theorem z9i (h:P:=by
  intro cv L' H' hl hP F Q' hk
  obtain rfl:=iZ hl
  obtain⟨rfl,rfl⟩:=hP
  refine M1 [3] bt zeroValue5 rfl rfl rfl rfl rfl rfl rfl rfl rfl ?_
  intro b9 ha ho hx hr
  exact OJ.done (hk _ _ _ ⟨b9,rfl,rfl,rfl,ha.1,ha.2.1⟩)
 ):P:=h
theorem zaj (h:P:=by
  refine vd ?_
  refine PJ.again (j+1) ⟨by omega,dm.next hx ⟨Classical.not_not.1 h1,λy0 h0 BX=>by first|omega|(rw[hy]at BX;cases BX;omega),ny.1 zJ⟩⟩ zJ zR rfl rfl zX
 ):P:=h
theorem zbj (h:P:=by
  obtain⟨a1,c1,a2,c2,ds,w9,rfl,rfl,rfl,rfl,jb,jc,fw,gg,pI,lG⟩:=hP
  refine B 1 ?_
  exact OJ.done (hk _ _ _ ⟨a1,c1,a2,c2,ds,w9,rfl,rfl,rfl,rfl,rfl,jb,jc,fw,gg,pI,lG⟩)
 ):P:=h
theorem zdj (h:P:=by
  refine vd ?_
  refine PJ.again (j+1) ⟨by omega,dm.next hx ⟨by omega,by omega,λy0 h0 BX=>by first|omega|(rw[hy]at BX;cases BX;omega),UR D3,(nVc _).1 mH⟩⟩ zJ zR rfl rfl zX
 ):P:=h
theorem S0 (h:P:=by
  refine ax results7 rfl A1 ?_
  exact vb zsc
 ):P:=h
theorem zfj (h:P:=by refine PJ.again (i+1,tA) ⟨by dsimp only;omega,by dsimp only;omega,LG,by dsimp only;rw[<-Wx,ntl (cur:=cur) (n:=xs.length) (i:=i) zJ,<-hsk];congr 1;try exact(nzk hx hy qg).symm⟩ dG zR rfl rfl zX):P:=h
theorem zgj (h:P:=by
  refine zdi ?_
  exact nW (enc:=eW) (m:=2) (t:=355) (xs:=[]) (H0:=_) (H1:=[]) (r:=.nil) (.inl rfl) results154 (RS.wA (i:=0) rfl isAgg55 sizeOf55 rfl (bj rfl) (RS.t rfl RS.n)) A1 ZR rfl rfl True.intro (dH _).symm
 ):P:=h
theorem Zk (h:P:=by
  refine nS results310 rfl rfl A0 ?_ ?_
  all_goals first|rfl|(exfalso;apply h;exact⟨by omega,by omega⟩)
 ):P:=h
theorem zij (h:P:=by
  obtain⟨c,G',Hc,hi,fj,bV⟩:=hX
  refine⟨some c,_,run_endLoop bV.loopAt zX,?_⟩
  exact stop _ _ _ c G' Hc hS.sizes rfl hi _ _ (by simpa using hN) (by simp[hD]) (λt v hv=>hF t v hv) (bV.loop _)
 ):P:=h
theorem zjj (h:P:=by
  intro cv L' H' hl hP F Q' hk
  obtain rfl:=iZ hl
  obtain⟨rfl,rfl⟩:=hP
  refine G8 ?_
  intro b_ ES VA
  exact OJ.done (hk _ _ _ ⟨b_,rfl,rfl,rfl,ES⟩)
 ):P:=h
theorem zkj (h:P:=by
  rw[if_pos (bW.2 ⟨_,cb h1,rfl⟩)]
  simp only[List.map_set]
  apply tS
  intro j
  rw[VY]
  split
  · rename_i e;subst e
    have hl:=(gi.1 h1).1
    rw[if_pos wv];simp[h1]
  · rfl
 ):P:=h
theorem Kh (h:P:=by exact λW hS=>.inl ⟨rfl,Nv dm zJ⟩):P:=h
theorem zmj (h:P:=by
  intro cv L' H' hl hP F Q' hk
  obtain rfl:=iZ hl
  obtain⟨rfl,rfl⟩:=hP
  refine zNf ?_
  intro jy gr cW
  exact OJ.done (hk _ _ _ ⟨jy,rfl,rfl,rfl,gr,cW⟩)
 ):P:=h
theorem znj (h:P:=by
  have ef:W.drew.heap[b]? =some (.cells (ys++sp).toArray e (0,0)):=hb
  rw[W8 ef (by simp only[qF,cK,hlen];omega)]
  unfold cut
  simp only[P0,<-hlen]
  rw[PT rfl]
 ):P:=h
theorem zoj (h:P:=by
  intro i o ho e he hb
  have:=h3 i (at_ i o ho)
  simp only[ho,fm,o4]at this
  have:=this.1 e (by simpa using he)
  simp only[hb,Bool.not_true,Bool.false_or]at this
  exact nV this
 ):P:=h
theorem zpj (h:P:=by
  refine NM ?_
  exact bH (.inl rfl) results101 (RS.wA (i:=0) rfl isAgg57 sizeOf57 rfl (bj rfl) (RS.t rfl RS.n)) λW hS=>⟨jV,rfl,hS.base A3 zP,rfl,RI _ _,λq h=>CD,λq h=>CD⟩
 ):P:=h
theorem VE (h:P:=by exact⟨rfl,0,_,by rw[alloc_eq_grow,alloc_eq_grow,grow_grow];rfl⟩):P:=h
theorem zrj (h:P:=by
  try simp only[ad]at cR cd
  have Yo:=cR.1
  have PW:=cd.1
  try have afQ:=cd.2.1
  exact λW hS=>⟨by omega,by omega,hS.old A1 aU aN trivial,hS.old A0 aM aD trivial⟩
 ):P:=h
theorem zsj (h:P:=by
  refine nS results17 rfl rfl A0 ?_ ?_
  all_goals(refine vi ?_;unfold xe;first|(rw[if_neg zJ];done)|(rw[if_pos zJ];try first|(rw[Uk zJ];done)|skip))
 ):P:=h
theorem ztj (h:P:=by exact(hS.links w A2).below (λk hk hx=>by rcases hx with hx|hx;(exact hx);rw[bO]at hx;simp only[book,gP,eh,iB,cZ,eB,eP,dK,cQ,cI,fu,or_false]at hx;omega)):P:=h
theorem zuj (h:P:=by refine PJ.again (r,j+1) ⟨by dsimp only;omega,bE,by rw[Zs hx zJ];exact ak⟩ dG ⟨rfl,by rw[Zs hx zJ];rfl,rfl,rfl,rfl,trivial⟩ (by rw[Zs hx zJ];rfl) rfl zX):P:=h
theorem zvj (h:P:=by
  refine B 7 ?_
  refine zYe ?_
  refine B 2 ?_
  refine z7f ?_
  refine B 7 ?_
  refine zXf ?_
  refine PJ.again (i+1) zJ zJ zR rfl rfl zX
 ):P:=h
theorem zwj (h:P:=by
  replace cO:=ya cO
  refine B 6 ?_
  exact PJ.mid ⟨(congrArg (λb=>some (Value.bool b)) zsb),rfl,rfl,rfl,rfl,rfl,rfl,rfl,rfl,rfl,rfl,trivial⟩
 ):P:=h
theorem zxj (h:P:=by
  intro b7 c7 s7 oP tU
  exact OJ.done (hk _ _ _ ⟨b6,b7,c7,s7,rfl,rfl,rfl,rfl,gV,we,oP,by simpa only[Fr,Gh.lent,ad,and_true]using oP,tU⟩)
 ):P:=h
theorem zyj (h:P:=by
  induction H with
  |nil=>intro p hp;simp at hp
  |cons q H ih=>
    intro p hp
    simp only[cI]at hp
    rcases hp with rfl|hp
    · exact h.1
    · exact ih h.2 p hp
 ):P:=h
theorem zzj (h:P:=by
  refine ax results254 rfl A1 ?_
  exact vb (by unfold EG;simp_all)
 ):P:=h
theorem zAj (h:P:=by
  have h2:(xs.toArray).map a.eval=vs.toArray:=by rw[wK,Gb hF xs vs ha]
  simp only[execOp,resolve,hF.ev hx,Deferred.ofValue,h2]
  simp[invoke,fZ]
 ):P:=h
theorem zBj (h:P:=by
  refine B 12 ?_
  refine ax results124 rfl A0 ?_
  first|exact vi (Ly dm hx zJ)|exact vi (nhn dm zJ)
 ):P:=h
theorem zCj (h:P:=by
  refine nS results259 rfl rfl A0 ?_ ?_
  all_goals first|(rw[QZ];done)|exact vb (nPk QZ hx)|exact vb (nUi QZ h1)
 ):P:=h
theorem zDj (h:P:=by
  have h1:=(hS.alloc (.deferred (some []))).alloc (.loop rec)
  rw[iW]at h1
  rw[C1]
  exact h1.perm (List.perm_append_comm (l₁:=[_,_]) (l₂:=H))
 ):P:=h
theorem zEj (h:P:=by
  replace ah:=ya ah
  refine B 9 ?_
  refine ax results214 rfl A1 ?_
  exact vb (by unfold pX;rw[vW];first|(simp;omega)|simp)
 ):P:=h
theorem zFj (h:P:=by
  replace ah:=ya ah
  refine B 9 ?_
  refine ax results167 rfl A1 ?_
  exact vb (by unfold td;rw[vW];first|(simp;omega)|simp)
 ):P:=h
theorem zGj (h:P:=by
  refine nS results67 rfl rfl A1 ?_ ?_
  all_goals(refine vi ?_;unfold pB;first|(rw[if_neg hg];done)|(rw[if_pos hg];done))
 ):P:=h
theorem zHj (h:P:=by
  refine nS results66 rfl rfl A1 ?_ ?_
  all_goals(refine vi ?_;unfold jA;first|(rw[if_neg hg];done)|(rw[if_pos hg];done))
 ):P:=h
theorem zIj (h:P:=by exact D9 (.inr rfl) results128 A0 hV Zy (λA hA=>.inl ⟨pre,(by first|(rw[<-qu,nMh hF hq,dH])|(rw[<-qu,nxj hF hq OE,dH])),hA⟩)):P:=h
theorem zJj (h:P:=by
  split
  · exact h
  · rename_i hn
    rw[List.nodup_append]
    exact⟨h,by simp,by intro a ha b hb;simp at hb;subst hb;exact λe=>hn (e▸ha)⟩
 ):P:=h
theorem zKj (h:P:=by
  refine B 11 ?_
  refine ax results12 rfl A0 ?_
  first|exact vb (n0g hx mH).symm|exact vb (Nv dm zJ).symm
 ):P:=h
theorem zLj (h:P:=by
  intro i x' y' hi SC hy'
  by_cases e':i=j
  · subst e';rw[hx]at SC;rw[hy]at hy';cases SC;cases hy';exact e
  · exact h i x' y' zJ SC hy'
 ):P:=h
theorem zMj (h:P:=by
  simp only[execOp,hF.ev hx,hF.ev hy,Sem.run_bind,h1,h2,Result.andThen]
  rfl
 ):P:=h
theorem zNj (h:P:=by
  simp only[book,gP,cQ]at hk
  rcases hk with hk|hk
  · exact hH hk
  · obtain⟨p,hp,rfl⟩:=bW.1 hk
    have:=adv p hp;omega
 ):P:=h
theorem zOj (h:P:=by
  simp only[Rw.val,Value.slice.injEq]at e9
  rw[<-e9.1]at h9;exact h9
 ):P:=h
theorem zPj (h:P:=by
  by_cases hi:i<l.length
  · rw[gB hi,gB (show i<bs.length by omega)]
    simp[List.getD,show i<bs.length by omega]
  · rw[so zJ];simp
 ):P:=h
theorem zQj (h:P:=by
  refine ax results100 rfl A1 ?_
  exact vi (by first|exact ncn dm hx (decide_eq_true gw)|exact K3 dm zJ)
 ):P:=h
theorem zRj (h:P:=by
  replace ah:=ya ah
  refine B 7 ?_
  refine ax results176 rfl A0 ?_
  refine vb ?_
  unfold jg
  simp;try omega
 ):P:=h
theorem Oh (h:P:=by rcases he with rfl|rfl<;>exact key):P:=h
theorem zTj (h:P:=by
  refine ax results152 rfl A1 ?_
  first|exact vi (nVk gw hx)|exact vi (n1m mH hx)
 ):P:=h
theorem zUj (h:P:=by
  refine ax results125 rfl A0 ?_
  exact vi zUc
 ):P:=h
theorem zVj (h:P:=by
  rw[List.nodup_append]
  exact⟨hm.nd,by simp,by intro a ha b' ef;simp at ef;subst ef;have:=hm.lt a ha;omega⟩
 ):P:=h
theorem zWj (h:P:=by
  refine B 12 ?_
  refine PJ.again (j+1) zJ zJ ⟨rfl,rfl,congrArg some (vi zJ),trivial⟩ rfl rfl zX
 ):P:=h
theorem zXj (h:P:=by
  replace ah:=ya ah
  refine B 10 ?_
  refine ax results147 rfl A2 ?_
  exact vb (by unfold HN;simp_all)
 ):P:=h
theorem zYj (h:P:=by
  refine ax results73 rfl A4 ?_
  first|exact vb (SN ir)|exact vb (LJ il zB fN)
 ):P:=h
theorem zZj (h:P:=by
  replace ah:=ya ah
  refine B 7 ?_
  refine ax results207 rfl A0 ?_
  exact vb (by simp[dD];omega)
 ):P:=h
theorem z0j (h:P:=by
  replace ah:=ya ah
  refine B 7 ?_
  refine ax results200 rfl A0 ?_
  exact vb (by simp[y6];omega)
 ):P:=h
theorem z1j (h:P:=by
  simp only[Array.getD_eq_getD_getElem?]at hf ⊢
  rw[Gn (by rw[qd];exact hi)]at hf ⊢
  simpa using hf
 ):P:=h
theorem z2j (h:P:=by
  replace ah:=ya ah
  refine B 8 ?_
  refine ax results122 rfl A0 ?_
  exact vb (by simp;try omega)
 ):P:=h
theorem z3j (h:P:=by
  refine ax results202 rfl A1 ?_
  exact vb zDc
 ):P:=h
theorem z4j (h:P:=by exact PJ.mid ⟨(congrArg (λb=>some (Value.bool b)) zsb),rfl,rfl,rfl,rfl,rfl,rfl,rfl,rfl,rfl,trivial⟩):P:=h
theorem z5j (h:P:=by
  intro cO
  refine K0 ?_
  refine PJ.again (j+1) ⟨by omega,dm.next hx hy gw⟩ zJ zR rfl rfl zX
 ):P:=h
theorem z6j (h:P:=by
  rcases h with h|⟨b,off,h1,h2,h3⟩
  · exact .inl h
  · exact .inr ⟨b,off,h1,by omega,h3.up (hw b h2)⟩
 ):P:=h
theorem z7j (h:P:=by
  rcases cQ.1 hb with hb|hb
  · have:=hm.lt b hb;simp only;omega
  · simp at hb;subst hb;simp
 ):P:=h
theorem PD (h:P:=by simp[Op.equalIn,run_underlying hU]):P:=h
theorem z9j (h:P:=by
  rcases hx with(hx|hx)|hx
  · exact .inl hx
  · have:=hV k hx;omega
  · exact .inr (hH k hk hx)
 ):P:=h
theorem zak (h:P:=by
  obtain⟨d,kE⟩:=h3 c o (by rw[o4]at eU;exact nV (eU c (cb hk))) hl
  rw[hd]at kE;cases kE
 ):P:=h
theorem NI (h:P:=by exact vb znd):P:=h
theorem YS (h:P:=by
  refine UP ?_
  unfold oc
  rw[if_neg zTd]
  rfl
 ):P:=h
theorem zek (h:P:=by
  split
  · exact⟨Int.emod_nonneg _ zO,Int.emod_lt_of_pos _ zO⟩
  · exact⟨by decide,by decide⟩
 ):P:=h
theorem zfk (h:P:=by
  refine(hS.links w A2).below λk hk hx=>?_
  rw[bO]at hx;simp[Gh.no,book]at hx;omega
 ):P:=h
theorem zgk (h:P:=by
  intro i y hi hy
  by_cases e:i=j
  · subst e;rw[hx]at hy;cases hy;exact hp
  · exact h i y zJ hy
 ):P:=h
theorem zhk (h:P:=by
  intro i y hi hy
  by_cases e:i=j
  · subst e;rw[hx]at hy;cases hy;exact hk
  · exact h i y zJ hy
 ):P:=h
theorem zik (h:P:=by
  intro x
  rw[<-Array.foldl_toList,Array.toList_zip]
 ):P:=h
theorem Tj (h:P:=by
  have:=bj hl
  simp[hN];omega
 ):P:=h
theorem zkk (h:P:=by
  by_cases e3:j=i'
  · subst e3
    rw[h3]
    simp[(gi.1 h3).1]
  · simp[e3]
 ):P:=h
theorem zlk (h:P:=by
  unfold IntKind.wrap
  simp[IntKind.bits,IntKind.signed]
 ):P:=h
theorem Xt (h:P:=by exact λW hS=>⟨eO.1,hS.old A0 aQ aX trivial⟩):P:=h
theorem UY (h:P:=by exact λ_ _ _ _ _ _ _ _ hk=>hk.elim):P:=h
theorem CA (h:P:=by
  refine ax results145 rfl A1 ?_
  exact zji
 ):P:=h
theorem KG (h:P:=by
  refine z4e ?_
  exact zji
 ):P:=h
theorem Kg (h:P:=by
  intro aJ
  refine B 7 ?_
  exact WM
 ):P:=h
theorem MO (h:P:=by
  refine Xq ?_
  exact T3
 ):P:=h
theorem QP (h:P:=by
  refine B 17 ?_
  exact U9
 ):P:=h
theorem Vj (h:P:=by
  refine B 5 ?_
  exact Q6
 ):P:=h
theorem zuk (h:P:=by
  refine B 11 ?_
  exact KG
 ):P:=h
theorem vb {a b:Bool} (h:a=b):Go.Value.bool a=Go.Value.bool b:=congrArg _ h
theorem va {a b:Array Go.Value} (h:a=b):Go.Value.agg a=Go.Value.agg b:=congrArg _ h
theorem vi {a b:Int} (h:a=b):Go.Value.int .i64 a=Go.Value.int .i64 b:=congrArg _ h
theorem vu {a b:Int} (h:a=b):Go.Value.int .u64 a=Go.Value.int .u64 b:=congrArg _ h
theorem yV (k:Q) (h:ZW Q->P:=by intro Kz;intro b w hb ha ho hm hz;replace ha:=yb ha;replace ho:=yc ho;revert b w hb hm hz ha ho;exact Kz.p):P:=h ⟨k⟩
theorem yX (k:Q) (h:ZW Q->P:=by intro Kz;refine Tm rfl rfl rfl ?_;intro b w hb ha ho hm hz;replace ha:=yb ha;replace ho:=yc ho;revert b w hb hm hz ha ho;exact Kz.p):P:=h ⟨k⟩
theorem yW (k:Q) (h:ZW Q->P:=by intro Kz;intro b ha ho;replace ha:=yb ha;replace ho:=yc ho;revert b ha ho;exact Kz.p):P:=h ⟨k⟩
end Px
