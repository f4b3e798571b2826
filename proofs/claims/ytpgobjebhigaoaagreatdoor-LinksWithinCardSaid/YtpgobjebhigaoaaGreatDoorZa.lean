/- Proofs by default. No condition beyond those stated. -/
import Derived.ProofKit
import Derived.KernelRfl
set_option linter.unusedSimpArgs false
set_option linter.unusedVariables false
set_option linter.unusedSectionVars false
set_option linter.unnecessarySimpa false
namespace Px
variable {P Q A S':Prop}
theorem A0 {α:Type _} {a:α} {l:List α}:a∈a::l:=.head _
theorem A1 {α:Type _} {a x0:α} {l:List α}:a∈x0::a::l:=.tail _ (.head _)
theorem A2 {α:Type _} {a x0 x1:α} {l:List α}:a∈x0::x1::a::l:=.tail _ (.tail _ (.head _))
theorem A3 {α:Type _} {a x0 x1 x2:α} {l:List α}:a∈x0::x1::x2::a::l:=.tail _ (.tail _ (.tail _ (.head _)))
theorem A4 {α:Type _} {a x0 x1 x2 x3:α} {l:List α}:a∈x0::x1::x2::x3::a::l:=.tail _ (.tail _ (.tail _ (.tail _ (.head _))))
theorem A5 {α:Type _} {a x0 x1 x2 x3 x4:α} {l:List α}:a∈x0::x1::x2::x3::x4::a::l:=.tail _ (.tail _ (.tail _ (.tail _ (.tail _ (.head _)))))
theorem A6 {α:Type _} {a x0 x1 x2 x3 x4 x5:α} {l:List α}:a∈x0::x1::x2::x3::x4::x5::a::l:=.tail _ (.tail _ (.tail _ (.tail _ (.tail _ (.tail _ (.head _))))))
theorem A7 {α:Type _} {a x0 x1 x2 x3 x4 x5 x6:α} {l:List α}:a∈x0::x1::x2::x3::x4::x5::x6::a::l:=.tail _ (.tail _ (.tail _ (.tail _ (.tail _ (.tail _ (.tail _ (.head _)))))))
theorem A8 {α:Type _} {a x0 x1 x2 x3 x4 x5 x6 x7:α} {l:List α}:a∈x0::x1::x2::x3::x4::x5::x6::x7::a::l:=.tail _ (.tail _ (.tail _ (.tail _ (.tail _ (.tail _ (.tail _ (.tail _ (.head _))))))))
theorem A9 {α:Type _} {a x0 x1 x2 x3 x4 x5 x6 x7 x8:α} {l:List α}:a∈x0::x1::x2::x3::x4::x5::x6::x7::x8::a::l:=.tail _ (.tail _ (.tail _ (.tail _ (.tail _ (.tail _ (.tail _ (.tail _ (.tail _ (.head _)))))))))
theorem A10 {α:Type _} {a x0 x1 x2 x3 x4 x5 x6 x7 x8 x9:α} {l:List α}:a∈x0::x1::x2::x3::x4::x5::x6::x7::x8::x9::a::l:=.tail _ (.tail _ (.tail _ (.tail _ (.tail _ (.tail _ (.tail _ (.tail _ (.tail _ (.tail _ (.head _))))))))))
theorem A11 {α:Type _} {a x0 x1 x2 x3 x4 x5 x6 x7 x8 x9 eW:α} {l:List α}:a∈x0::x1::x2::x3::x4::x5::x6::x7::x8::x9::eW::a::l:=.tail _ (.tail _ (.tail _ (.tail _ (.tail _ (.tail _ (.tail _ (.tail _ (.tail _ (.tail _ (.tail _ (.head _)))))))))))
theorem A12 {α:Type _} {a x0 x1 x2 x3 x4 x5 x6 x7 x8 x9 eW ir:α} {l:List α}:a∈x0::x1::x2::x3::x4::x5::x6::x7::x8::x9::eW::ir::a::l:=.tail _ (.tail _ (.tail _ (.tail _ (.tail _ (.tail _ (.tail _ (.tail _ (.tail _ (.tail _ (.tail _ (.tail _ (.head _))))))))))))
theorem A13 {α:Type _} {a x0 x1 x2 x3 x4 x5 x6 x7 x8 x9 eW ir fN:α} {l:List α}:a∈x0::x1::x2::x3::x4::x5::x6::x7::x8::x9::eW::ir::fN::a::l:=.tail _ (.tail _ (.tail _ (.tail _ (.tail _ (.tail _ (.tail _ (.tail _ (.tail _ (.tail _ (.tail _ (.tail _ (.tail _ (.head _)))))))))))))
theorem A14 {α:Type _} {a x0 x1 x2 x3 x4 x5 x6 x7 x8 x9 eW ir fN iV:α} {l:List α}:a∈x0::x1::x2::x3::x4::x5::x6::x7::x8::x9::eW::ir::fN::iV::a::l:=.tail _ (.tail _ (.tail _ (.tail _ (.tail _ (.tail _ (.tail _ (.tail _ (.tail _ (.tail _ (.tail _ (.tail _ (.tail _ (.tail _ (.head _))))))))))))))
theorem A15 {α:Type _} {a x0 x1 x2 x3 x4 x5 x6 x7 x8 x9 eW ir fN iV kp:α} {l:List α}:a∈x0::x1::x2::x3::x4::x5::x6::x7::x8::x9::eW::ir::fN::iV::kp::a::l:=.tail _ (.tail _ (.tail _ (.tail _ (.tail _ (.tail _ (.tail _ (.tail _ (.tail _ (.tail _ (.tail _ (.tail _ (.tail _ (.tail _ (.tail _ (.head _)))))))))))))))
theorem A16 {α:Type _} {a x0 x1 x2 x3 x4 x5 x6 x7 x8 x9 eW ir fN iV kp x15:α} {l:List α}:a∈x0::x1::x2::x3::x4::x5::x6::x7::x8::x9::eW::ir::fN::iV::kp::x15::a::l:=.tail _ (.tail _ (.tail _ (.tail _ (.tail _ (.tail _ (.tail _ (.tail _ (.tail _ (.tail _ (.tail _ (.tail _ (.tail _ (.tail _ (.tail _ (.tail _ (.head _))))))))))))))))
theorem R2 (h:P:=by exact λ_ _=>rfl):P:=h
abbrev NA:=@Nat.eq_of_beq_eq_true
abbrev rF:=@Option.some.injEq
abbrev anp:=@Array.getElem?_setIfInBounds_ne
abbrev ao:=@Nat.le_refl
abbrev aS:=@Nat.le_trans
abbrev kJ:=@Nat.lt_of_lt_of_le
abbrev cP:=@List.mem_cons
abbrev eE:=@List.map_cons
abbrev aM:=@Array.getElem?_eq_some_iff
abbrev Ir:=@List.getElem?_cons_zero
abbrev yS:=@List.getElem?_cons_succ
abbrev cC:=@List.mem_of_getElem?
abbrev gD:=@List.getElem?_eq_some_iff
abbrev JU:=@List.getElem?_set_self
abbrev HK:=@List.getElem?_set_ne
abbrev Yb:=@List.mem_or_eq_of_mem_set
abbrev bU:=@List.mem_map
abbrev jL:=@List.mem_iff_getElem?
abbrev aV:=@Nat.le_of_ble_eq_true
abbrev Df:=@Int.eq_ofNat_of_zero_le
abbrev yt:=@List.map_toArray
abbrev PS:=@Array.getElem?_append_left
abbrev UT:=@Nat.le_of_not_lt
abbrev xO:=@Array.getElem?_toList
abbrev Yx:=@Array.getElem?_modify
abbrev gb:=@Bool.and_eq_true
abbrev dW:=@List.length_cons
abbrev gj:=@List.map_append
abbrev cO:=@List.mem_append
abbrev fl:=@List.length_map
abbrev JQ:=@List.getElem_map
abbrev fG:=@List.not_mem_nil
abbrev vg:=@List.ext_getElem?
abbrev eY:=@List.cons_append
abbrev Az:=@List.length_drop
abbrev wv:=@List.getElem?_drop
abbrev cF:=@List.length_append
abbrev Pm:=@List.drop_drop
abbrev BH:=@List.length_singleton
abbrev Dq:=@List.getElem?_append_right
abbrev vz:=@List.mem_filter
abbrev gV:=@List.getElem?_eq_getElem
abbrev xP:=@List.getElem?_append_left
abbrev pP:=@List.all_eq_true
abbrev U4:=@Option.bind_eq_some_iff
abbrev pG:=@List.mem_range
abbrev ra:=@List.getElem?_map
abbrev wI:=@Option.map_some
abbrev Dr:=@List.getElem?_toArray
abbrev i6:=@Nat.zero_add
abbrev G8:=@List.length_set
abbrev HX:=@Array.getElem?_eq_getElem
abbrev tY:=@List.getElem?_eq_none
abbrev xM:=@Bool.eq_iff_iff
abbrev iD:=@List.map_nil
abbrev lC:=@List.length_nil
abbrev i7:=@List.append_assoc
abbrev cZ:=@Nat.zero_le
abbrev wo:=@Nat.div_add_mod
abbrev lI:=@Nat.add_mul
abbrev sY:=@Nat.mul_comm
abbrev uF:=@Nat.mul_le_mul_right
abbrev wE:=@Int.toNat_natCast
abbrev fj:=@List.set_cons_succ
abbrev ja:=@List.eq_nil_of_length_eq_zero
abbrev dX:=@List.nil_append
abbrev Dy:=@List.take_append_drop
abbrev dz:=@List.set_cons_zero
abbrev Ij:=@List.take_succ_eq_append_getElem
abbrev iZ:=@List.take_of_length_le
abbrev qd:=@List.mem_singleton
abbrev qo:=@List.eraseIdx_cons_zero
abbrev rJ:=@List.eraseIdx_cons_succ
abbrev VK:=@List.findIdx?_eq_some_iff_getElem
abbrev Qm:=@List.getElem_mem
abbrev rH:=@List.size_toArray
abbrev kj:=@List.length_take
abbrev Rs:=@List.drop_zero
abbrev Ro:=@List.take_left'
abbrev tX:=@Nat.mul_one
abbrev dE:=@List.append_nil
abbrev Kn:=@List.getElem?_take_of_lt
abbrev S1:=@List.take_succ_cons
abbrev Iy:=@List.flatMap_cons
abbrev OP:=@List.mem_flatMap
abbrev IS:=@List.take_length
abbrev My:=@Option.map_eq_some_iff
abbrev XP:=@List.getElem?_set
abbrev Ad:=@List.length_filter_le
abbrev DP:=@List.foldl_append
abbrev MU:=@List.filter_cons_of_pos
abbrev TW:=@List.filter_cons_of_neg
theorem ya (h:A) (s:A->S':=by intro h;(try simp only[decide_eq_true_eq,decide_eq_false_iff_not,Bool.not_eq_true',Bool.not_eq_false']at h);exact h):S':=s h
theorem yb (h:A) (s:A->S':=by intro h;(try simp only[ad]at h);exact h):S':=s h
theorem yc (h:A) (s:A->S':=by intro h;(try simp only[bE,book,eY,dX,dz,fj,ne_eq]at h);exact h):S':=s h
theorem ye (h:A) (s:A->S':=by intro h;(try simp only[bE,dz,fj,ne_eq,and_true]at h);exact h):S':=s h
theorem yf (h:A) (s:A->S':=by intro h;(try simp only[Fr,Gh.lent,Gh.no,ad,and_true,false_or]at h);exact h):S':=s h
theorem yg (h:A) (s:A->S':=by intro h;(try simp only[n0,and_true]at h);exact h):S':=s h
theorem zL (h:P:=by first|(first|(simp only[bE,book,eY,dX,dz,fj,qo,rJ,ne_eq,and_true];omega)|(simp[bE]<;>omega))|fail):P:=h
theorem zM (h:P:=by omega):P:=h
theorem zN (h:P:=by exact λab=>X.off rfl (λ_ _=>rfl)):P:=h
theorem zO (h:P:=by exact λab=>X.val rfl rfl (fW rfl) (λ_ _=>rfl)):P:=h
theorem zP (h:P:=by first|exact True.intro|(simp only[Over,dz,fj,qo,rJ,and_true];omega)):P:=h
theorem zQ (h:P:=by decide):P:=h
theorem zS (h:P:=by first|(first|(simp only[Over,dz,fj,qo,rJ,and_true];omega)|(simp[Over]<;>omega))|fail):P:=h
theorem zT (h:P:=by kernel_rfl):P:=h
theorem zU (h:P:=by exact λ_ _ h=>h):P:=h
theorem zW (h:P:=by exact λcv L' H' hd hP=>X.val rfl rfl (fW rfl) R2):P:=h
theorem zX (h:P:=by exact λh=>h):P:=h
theorem zZ (h:P:=by simp only[ad,and_true];omega):P:=h
theorem z1 (h:P:=by simp):P:=h
theorem z2 (h:P:=by exact λab=>X.val rfl rfl (aO (i:=0) rfl isAgg3 rfl rfl) (λ_ _=>rfl)):P:=h
theorem z3 (h:P:=by exact λcv L' H' hd hP=>X.val rfl rfl (ak underlying84 rfl sizeOf38 rfl) R2):P:=h
theorem z4 (h:P:=by exact λab=>X.val rfl rfl (ak underlying135 rfl sizeOf3 rfl) (λ_ _=>rfl)):P:=h
theorem z5 (h:P:=by exact λab=>X.val rfl rfl (ak underlying355 rfl sizeOf3 rfl) (λ_ _=>rfl)):P:=h
theorem z6 (h:P:=by exact λab=>X.val rfl rfl (CH rfl rfl) (λ_ _=>rfl)):P:=h
theorem z7 (h:P:=by first|exact True.intro|(simp only[Over,and_true];omega)):P:=h
theorem z8 (h:P:=by exact λab=>X.val rfl rfl (vY rfl rfl) (λ_ _=>rfl)):P:=h
theorem z9 (h:P:=by exact λcv L' H' hd hP=>X.val rfl rfl (ak underlying38 rfl sizeOf3 rfl) R2):P:=h
theorem pU (h:P:=by exact λab=>X.val rfl rfl (aO (i:=1) rfl isAgg3 rfl rfl) (λ_ _=>rfl)):P:=h
theorem jN (h:P:=by simp only[bE,dz,fj,and_true];omega):P:=h
theorem qq (h:P:=by exact λab=>X.val rfl rfl (ak underlying84 rfl sizeOf38 rfl) (λ_ _=>rfl)):P:=h
theorem dL (h:P:=by dsimp only;omega):P:=h
theorem rQ (h:P:=by exact λab=>X.val rfl rfl (ak underlying38 rfl sizeOf3 rfl) (λ_ _=>rfl)):P:=h
theorem gO (h:P:=by assumption):P:=h
theorem xh (h:P:=by exact λcv L' H' hd hP=>X.val rfl rfl (ak underlying99 rfl sizeOf3 rfl) R2):P:=h
theorem rN (h:P:=by simp only[bE,dz,fj,qo,rJ,ne_eq,and_true];omega):P:=h
theorem xN (h:P:=by exact λab=>X.val rfl rfl (aO (i:=0) rfl isAgg229 rfl rfl) (λ_ _=>rfl)):P:=h
theorem qf (h:P:=by simp only[bE,dz,fj,ne_eq,and_true];omega):P:=h
theorem ph (h:P:=by exact λcv L' H' hd hP=>X.off rfl R2):P:=h
theorem yj (h:P:=by exact λab=>X.val rfl rfl (ak underlying57 rfl sizeOf3 rfl) (λ_ _=>rfl)):P:=h
theorem zmb (h:P:=by rw[show jm c.chs=false by assumption];decide):P:=h
theorem DA (h:P:=by exact λab=>X.val rfl rfl (aa isAgg3 rfl A0 aR aY trivial rfl) (λ_ _=>rfl)):P:=h
theorem xU (h:P:=by exact λab=>nf call55 rfl rfl (λW hS _=>nM _ W) (λ_=>rfl)):P:=h
theorem DY (h:P:=by exact λcv L' H' hd hP=>nf call142 rfl rfl (λW hS _=>nGb _ W) (λ_=>rfl)):P:=h
theorem IM (h:P:=by exact λab=>X.val rfl rfl (RV.re (v':=.bool true) (dH rfl rfl) rfl) (λ_ _=>rfl)):P:=h
theorem YP (h:P:=by first|(simp;done)|(simp;omega)):P:=h
theorem Gx (h:P:=by exact λcv L' H' hd hP=>X.val rfl rfl (ak underlying99 rfl sizeOf95 rfl) R2):P:=h
theorem xX (h:P:=by simp only[bE,and_true];omega):P:=h
theorem Ci (h:P:=by exact λcv L' H' hd hP=>X.val rfl rfl (CH rfl rfl) R2):P:=h
theorem Jc (h:P:=by exact λab=>X.val rfl rfl (ak underlying166 rfl sizeOf3 rfl) (λ_ _=>rfl)):P:=h
theorem zwb (h:P:=by first|rfl|(rw[xM];first|(simp;omega)|simp)):P:=h
theorem jW (h:P:=by simp[Act.put,hD]):P:=h
theorem lM (h:P:=by rw[iu];exact nX hN):P:=h
theorem kO (h:P:=by simp[Act.put,iu]):P:=h
theorem wQ (h:P:=by first|rfl|simp[book,H4,Value.cells]):P:=h
theorem zBb (h:P:=by exact λab=>X.val rfl rfl (RV.re (v':=.agg RF) (bS underlying31 zeroValue31 (bC.c sizeOf22 (bC.c sizeOf23 (bC.c sizeOf24 (bC.c sizeOf25 (bC.c sizeOf26 (bC.c sizeOf27 (bC.c sizeOf28 (bC.c sizeOf29 (bC.n))))))))) rfl rfl) (rfl)) (λ_ _=>rfl)):P:=h
theorem EH (h:P:=by exact λab=>X.val rfl rfl (CN rfl) (λ_ _=>rfl)):P:=h
theorem KI (h:P:=by exact λcv L' H' hd hP=>X.val rfl rfl (ak underlying36 rfl sizeOf3 rfl) R2):P:=h
theorem P9 (h:P:=by simp only[bE,and_true];(repeat' apply And.intro);all_goals first|omega|exact True.intro):P:=h
theorem wH (h:P:=by simp only[Over,dz,and_true];omega):P:=h
theorem zGb (h:P:=by simp only[nD];omega):P:=h
theorem wx (h:P:=by simp only[Over,and_true];omega):P:=h
theorem Du (h:P:=by simp only[Over,dz,fj,and_true];omega):P:=h
theorem Ss (h:P:=by exact λcv L' H' hd hP=>X.val rfl rfl (ak underlying57 rfl sizeOf55 rfl) R2):P:=h
theorem Sr (h:P:=by exact λcv L' H' hd hP=>X.val rfl rfl (ak underlying57 rfl sizeOf52 rfl) R2):P:=h
theorem OQ (h:P:=by exact λcv L' H' hd hP=>X.val rfl rfl (ak underlying38 rfl sizeOf36 rfl) R2):P:=h
theorem Kl (h:P:=by exact λab=>X.val rfl rfl (qi rfl rfl) (λ_ _=>rfl)):P:=h
theorem oC (h:P:=by simp_all):P:=h
theorem jZ (h:P:=by simp;omega):P:=h
theorem xQ (h:P:=by simp only[cF,dW,lC];omega):P:=h
theorem zQb (h:P:=by exact λab=>X.val rfl rfl (RV.re (v':=.slice (some ⟨bx,ox,none⟩) s.fas.length s.xc) (aa isAgg28 rfl A3 aC ay trivial rfl) ((by rw[<-Eh];rfl))) (λ_ _=>rfl)):P:=h
theorem Ug (h:P:=by exact λab=>X.val rfl rfl (aa isAgg3 rfl A1 aH aF trivial rfl) (λ_ _=>rfl)):P:=h
theorem WT (h:P:=by exact λab=>nf (v:=.int .i64 e) call63 rfl rfl (λW hS _=>by rw[<-he];exact nL _ W) (λ_=>rfl)):P:=h
theorem QV (h:P:=by exact λcv L' H' hd hP=>X.val rfl rfl (ak underlying149 rfl sizeOf146 rfl) R2):P:=h
theorem SZ (h:P:=by exact λcv L' H' hd hP=>X.val rfl rfl (ak underlying99 rfl sizeOf36 rfl) R2):P:=h
theorem SU (h:P:=by exact λcv L' H' hd hP=>X.val rfl rfl (ak underlying233 rfl sizeOf3 rfl) R2):P:=h
theorem OD (h:P:=by exact λab=>X.val rfl rfl (tS rfl rfl) (λ_ _=>rfl)):P:=h
theorem AI (h:P:=by simpa using h1):P:=h
theorem Py (h:P:=by exact λab=>X.val rfl rfl (dI rfl) (λ_ _=>rfl)):P:=h
theorem zZb (h:P:=by exact λab=>nf call207 rfl rfl (λW hS _=>by have h9:=W6 x.dev W;rw[decide_eq_true (Classical.not_not.1 h1)]at h9;exact h9) (λ_=>rfl)):P:=h
theorem z0b (h:P:=by exact λab=>nf call47 rfl rfl (λW hS _=>by have h9:=n4c hinv.1 b9 m hm x.par x.fol W (hS.own (b9,_) A2);rwa[Ui]at h9) (λ_=>rfl)):P:=h
theorem RY (h:P:=by have h9:=(xY hnd gB jB lR).2.2;simp only[cF,dW,lC];omega):P:=h
theorem z2b (h:P:=by exact λab=>X.val rfl rfl (RV.re (v':=.agg (lkC (sl 1 r sg))) (aP (i:=4) rfl isAgg38 sizeOf38 rfl rfl) (rfl)) (λ_ _=>rfl)):P:=h
theorem X9 (h:P:=by exact λab=>X.val rfl rfl (aa isAgg3 rfl A0 aC ay trivial rfl) (λ_ _=>rfl)):P:=h
theorem XC (h:P:=by exact λcv L' H' hd hP=>X.val rfl rfl (RV.re (v':=.bool false) (dI rfl) rfl) R2):P:=h
theorem z5b (h:P:=by first|(unfold pv;rw[sG,haw,xM];simp_all<;>omega)|fail):P:=h
theorem WB (h:P:=by exact λab=>X.val rfl rfl (ak underlying59 rfl sizeOf34 rfl) (λ_ _=>rfl)):P:=h
theorem Yn (h:P:=by exact λab=>X.val rfl rfl (ak underlying31 rfl sizeOf28 rfl) (λ_ _=>rfl)):P:=h
theorem DO (h:P:=by simp only[dW,lC];omega):P:=h
theorem Xe (h:P:=by exact λab=>X.val rfl rfl (aO (i:=0) rfl isAgg4 rfl rfl) (λ_ _=>rfl)):P:=h
theorem Fu (h:P:=by rw[he];omega):P:=h
theorem XD (h:P:=by exact λcv L' H' hd hP=>X.val rfl rfl (ak underlying99 rfl sizeOf97 rfl) R2):P:=h
theorem XB (h:P:=by exact λcv L' H' hd hP=>X.val rfl rfl (ak underlying99 rfl sizeOf96 rfl) R2):P:=h
theorem zdc (h:P:=by exact λab=>X.val rfl rfl (RV.re (v':=.bool true) (fW rfl) (by first|rfl|(rw[hq];rfl))) (λ_ _=>rfl)):P:=h
theorem Ya (h:P:=by exact λab=>nf call125 rfl rfl (λW hS _=>nxf _ _ W) (λ_=>rfl)):P:=h
theorem rB (h:P:=by simpa using h):P:=h
theorem zgc (h:P:=by have:=sE _ e;dsimp only at this;simp only[bE,dz,and_true];omega):P:=h
theorem XG (h:P:=by simp only[bE,dz,and_true];omega):P:=h
theorem zic (h:P:=by rw[hY,<-hN];exact bW):P:=h
theorem zjc (h:P:=by exact λab=>nf call26 rfl rfl (λW hS _=>by have h9:=nI p W;rwa[hv]at h9) (λ_=>rfl)):P:=h
theorem zkc (h:P:=by intro k hk hx;simp only[eE,iD,cP,fG,or_false]at hx;omega):P:=h
theorem zlc (h:P:=by exact λab=>X.val rfl rfl (af isAgg84 sizeOf84 rfl A0 eg eP trivial rfl) (λ_ _=>rfl)):P:=h
theorem zmc (h:P:=by simp only[dz,fj,eY,dX,dE,Over];exact⟨by omega,by omega,Rw.over (Rw.ge_of bG A2)⟩):P:=h
theorem K7 (h:P:=by simp only[fl,dW,lC];omega):P:=h
theorem Xf (h:P:=by exact λab=>X.val rfl rfl (pV rfl rfl) (λ_ _=>rfl)):P:=h
theorem vv (h:P:=by simp[Rw.hp]):P:=h
theorem zqc (h:P:=by exact λab=>X.val rfl rfl (RV.re (v':=.bool false) (dI rfl) rfl) (λ_ _=>rfl)):P:=h
theorem xZ (h:P:=by simpa using hl):P:=h
theorem zsc (h:P:=by exact λab=>X.val rfl rfl (RV.re (v':=.bool true) (dI rfl) rfl) (λ_ _=>rfl)):P:=h
theorem ztc (h:P:=by exact λab=>X.val rfl rfl (aa isAgg3 rfl A1 dm eb trivial rfl) (λ_ _=>rfl)):P:=h
theorem zuc (h:P:=by rw[<-jF,<-hv1]):P:=h
theorem zvc (h:P:=by exact λcv L' H' hd hP=>X.val rfl rfl (bS underlying101 zeroValue101 (bC.c sizeOf3 (bC.c sizeOf99 (bC.c sizeOf34 (bC.c sizeOf3 (bC.c sizeOf57 (bC.n)))))) rfl rfl) R2):P:=h
theorem Ll (h:P:=by simp[Gh.no]):P:=h
theorem zxc (h:P:=by exact λab=>X.val rfl rfl (ak underlying55 rfl sizeOf53 rfl) (λ_ _=>rfl)):P:=h
theorem zyc (h:P:=by exact λab=>X.val rfl rfl (ak underlying38 rfl sizeOf34 rfl) (λ_ _=>rfl)):P:=h
theorem zzc (h:P:=by exact λab=>X.val rfl rfl (ak underlying59 rfl sizeOf3 rfl) (λ_ _=>rfl)):P:=h
theorem XQ (h:P:=by exact λcv L' H' _ _ hP=>X.val rfl rfl (fW rfl) R2):P:=h
theorem zBc (h:P:=by first|(unfold qO;rw[xM];simp_all<;>omega)|fail):P:=h
theorem zCc (h:P:=by exact λcv L' H' hd hP=>X.val rfl rfl (ak underlying99 rfl sizeOf44 rfl) R2):P:=h
theorem zDc (h:P:=by simp only[Over,book,bQ,eY,dX,and_true];omega):P:=h
theorem zEc (h:P:=by rw[hY];exact agm):P:=h
theorem zFc (h:P:=by exact λcv L' H' hd hP=>X.val rfl rfl (ak underlying59 rfl sizeOf3 rfl) R2):P:=h
theorem zGc (h:P:=by exact λcv L' H' hd hP=>X.val rfl rfl (ak underlying38 rfl sizeOf4 rfl) R2):P:=h
theorem D0 (h:P:=by cases h):P:=h
theorem zIc (h:P:=by show q-1<q;omega):P:=h
theorem zJc (h:P:=by have:=pQ _ e;dsimp only at this;simp only[bE,dz,and_true];omega):P:=h
theorem Y6 (h:P:=by have:=(hS.sizes);simp only[ad]at this;have:=(aM.1 oK).1;omega):P:=h
theorem RR (h:P:=by simp only[cO];exact .inr (.inl hp)):P:=h
theorem xL (h:P:=by simp[book]):P:=h
theorem JG (h:P:=by rw[<-jC];rfl):P:=h
theorem WV (h:P:=by simp only[dz,fj,eY,dX];rfl):P:=h
theorem X7 (h:P:=by simp only[eE,iD,cP,fG,or_false];omega):P:=h
theorem zQc (h:P:=by unfold O8;simp only[<-DU];rw[xM];first|(simp;omega)|simp):P:=h
theorem zRc (h:P:=by obtain⟨ta,tc,wr,r8,rfl,rfl,rfl,rfl,rfl,rfl,rfl,oF,fJ,mB,kB,eT,eU⟩:=hP;exact X.val rfl rfl (gE rfl rfl) R2):P:=h
theorem YB (h:P:=by simpa[Nat.blt]using Nat.ble_eq_true_of_le hi):P:=h
theorem Re (h:P:=by first|trivial|exact True.intro):P:=h
theorem zUc (h:P:=by obtain⟨ta,tc,wr,r8,rfl,rfl,rfl,rfl,rfl,rfl,oF,fJ,mB,kB,eT,eU⟩:=hP;exact X.val rfl rfl (gE rfl rfl) R2):P:=h
theorem Rc (h:P:=by first|(simp[p6,keys]<;>try omega)|fail):P:=h
theorem rm (h:P:=by repeat' first|exact True.intro|exact Rw.off_ge (Rw.ge_of eX A0) zM|exact Rw.off_ge (Rw.ge_of jV A0) zM|refine ne.2 ⟨?_,?_⟩|refine⟨by omega,?_⟩):P:=h
theorem qW (h:P:=by repeat' first|exact True.intro|exact Rw.off_ge (Rw.ge_of gK A0) zM|refine ne.2 ⟨?_,?_⟩|refine⟨by omega,?_⟩):P:=h
theorem GC (h:P:=by simp only[bE,ne,book,eY,dX,dE,i7,dz,fj,qo,rJ,ne_eq,and_true];(repeat' apply And.intro);all_goals first|omega|exact True.intro|exact Rw.off_ge eU zM):P:=h
theorem MK (h:P:=by simp only[bE,ne,book,eY,dX,dE,i7,dz,fj,qo,rJ,ne_eq,and_true];(repeat' apply And.intro);all_goals first|omega|exact True.intro|exact Rw.off_ge cM zM):P:=h
theorem vf (h:P:=by exact λab=>X.val rfl rfl (kU underlying336 sizeOf229 rfl rfl zM zM) (λ_ _=>rfl)):P:=h
theorem FT (h:P:=by exact λab=>X.val rfl rfl (RV.re (v':=.bool false) (pV rfl rfl) (vb (decide_eq_false zM))) (λ_ _=>rfl)):P:=h
theorem IW (h:P:=by exact λab=>X.val rfl rfl (RV.re (v':=.bool true) (pV rfl rfl) (vb (decide_eq_true zM))) (λ_ _=>rfl)):P:=h
theorem M9 (h:P:=by exact λab=>X.val rfl rfl (RV.re (v':=.bool true) (pW rfl rfl) (vb (decide_eq_true zM))) (λ_ _=>rfl)):P:=h
theorem O5 (h:P:=by exact λab=>X.val rfl rfl (RV.re (v':=.bool false) (mR rfl rfl) (vb (decide_eq_false zM))) (λ_ _=>rfl)):P:=h
theorem TN (h:P:=by simp only[Over,nY,eY,dX,dE,dz,and_true];(repeat' apply And.intro);all_goals first|omega|exact True.intro|exact Rw.over (Rw.ge_mono cM zM)):P:=h
theorem z6c (h:P:=by unfold pv;rw[nYb (f:=(λx:We=>decide (x.w.body.length<=200))) hy (decide_eq_false zM),Bool.and_false];rfl):P:=h
theorem TM (h:P:=by simp only[bE,ne,eY,dX,dE,dz,and_true];(repeat' apply And.intro);all_goals first|omega|exact True.intro|exact Rw.off_ge cM zM):P:=h
theorem EE (h:P:=by exact λab=>X.val rfl rfl (gT rfl rfl zM zM) (λ_ _=>rfl)):P:=h
theorem R8 (h:P:=by simp only[bE,ne,eY,dX,dE,and_true];(repeat' apply And.intro);all_goals first|omega|exact True.intro|exact Rw.off_ge cM zM):P:=h
theorem Uj (h:P:=by exact λab=>X.val rfl rfl (RV.re (v':=.bool false) (pW rfl rfl) (vb (decide_eq_false zM))) (λ_ _=>rfl)):P:=h
theorem zbd (h:P:=by unfold pv;rw[nYb (f:=(λx:Bx=>decide (x.w.body.length<=200))) hy (decide_eq_false zM)];rfl):P:=h
theorem LP (h:P:=by exact λab=>X.val rfl rfl (aa isAgg3 rfl A1 aC ay zL rfl) (λ_ _=>rfl)):P:=h
theorem OC (h:P:=by exact λab=>X.val rfl rfl (kU underlying375 sizeOf229 rfl rfl zM zM) (λ_ _=>rfl)):P:=h
theorem zed (h:P:=by first|exact(decide_eq_true (nFg zM (λi x y hi=>dO i x y zM))).symm|exact(decide_eq_false (nXg hx hy oC)).symm|exact(decide_eq_false (λe=>by have:=congrArg List.length e;simp at this;omega)).symm):P:=h
theorem Yh (h:P:=by repeat' first|exact True.intro|exact Rw.over (Rw.ge_mono (Rw.ge_of gK A0) zM)|refine nY.2 ⟨?_,?_⟩|refine⟨by omega,?_⟩):P:=h
theorem Tv (h:P:=by exact λab=>X.val rfl rfl (cx underlying41 sizeOf34 rfl rfl zM zM) (λ_ _=>rfl)):P:=h
theorem PE (h:P:=by intro p hp;simp only[cP,fG,or_false]at hp;subst hp;exact .inl z1):P:=h
theorem zid (h:P:=by exact λab=>X.val rfl rfl (aa (v:=.int .i64 y.at_) isAgg3 rfl A2 hcs zX jN (by have:=vE (i:=(j:Int)-1) ar hy zM 0 zQ;simpa[gh]using this)) (λ_ _=>rfl)):P:=h
theorem zjd (h:P:=by obtain⟨a7,c7,w7,rfl,rfl,rfl,iz⟩:=hP;exact nf call204 rfl rfl (λW hS _=>by have h9:=n5c G.g.ms q4 W.heap.size G.ma G.mc W (ao _) (hG.ms.up (aS hN (hS.links w A2).size) (hS.same A2 hN zU trivial)) (dh G.g.ns) a7 c7 (iz.up (hS.links w7 A0).size (hS.same A0 (ao _) zU trivial));rw[decide_eq_false h1]at h9;exact h9) (λ_=>rfl)):P:=h
theorem zkd (h:P:=by obtain⟨a7,c7,w7,rfl,rfl,rfl,iz⟩:=hP;exact nf call204 rfl rfl (λW hS _=>by have h9:=n5c G.g.ms q4 W.heap.size G.ma G.mc W (ao _) (hG.ms.up (aS hN (hS.links w A2).size) (hS.same A2 hN zU trivial)) (dh G.g.ns) a7 c7 (iz.up (hS.links w7 A0).size (hS.same A0 (ao _) zU trivial));rw[decide_eq_true h1]at h9;exact h9) (λ_=>rfl)):P:=h
theorem Yf (h:P:=by exact λab=>nf call93 rfl rfl (λW hS _=>nxd hinv.1 b9 m hm x.par zM W (hS.own (b9,_) A2)) (λ_=>rfl)):P:=h
theorem zmd (h:P:=by first|exact nue zM|exact nCf hx hy gO|exact nte zM dO zM):P:=h
theorem znd (h:P:=by exact λab=>X.val rfl rfl (RV.re (v':=.slice (some ⟨bo,oo,none⟩) ns.length cp) (aa isAgg53 rfl A1 aR aY zL rfl) (rfl)) (λ_ _=>rfl)):P:=h
theorem XV (h:P:=by have:=nS (enc:=λx=>(ai x).toArray) (n:=1) TL Tt rfl zQ;simpa[ai]using this):P:=h
theorem zpd (h:P:=by exact λab=>X.val rfl rfl (RV.re (v':=.agg (dg g.g.last)) (ag isAgg34 sizeOf34 rfl A0 Hq zX trivial (show oo2+((n:Int)).toNat*36+2+32<=cs2.size by have h9:=ni xy Yv rfl;omega)) (va ((nHf (np xy Yv rfl) zQ).trans rfl))) (λ_ _=>rfl)):P:=h
theorem zqd (h:P:=by have:=nS (enc:=λx=>(ai x).toArray) (n:=1) se hy rfl zQ;simpa[ai]using this):P:=h
theorem Yd (h:P:=by exact λab=>X.val rfl rfl (cx underlying32 sizeOf135 rfl rfl zM zM) (λ_ _=>rfl)):P:=h
theorem Yo (h:P:=by exact λab=>X.val rfl rfl (cx underlying28 sizeOf59 rfl rfl zM zM) (λ_ _=>rfl)):P:=h
theorem ztd (h:P:=by exact λab=>X.val rfl rfl (RV.re (v':=.agg (dg y.com)) (ag isAgg34 sizeOf34 rfl A4 UE zX trivial (show ox+((m:Int)).toNat*68+32+32<=csx.size by have h9:=ni HH hy rfl;omega)) (va ((nHf (np HH hy rfl) zQ).trans rfl))) (λ_ _=>rfl)):P:=h
theorem zud (h:P:=by exact λab=>X.val rfl rfl (RV.re (v':=.bool false) (sT rfl rfl) (vb (decide_eq_false zM))) (λ_ _=>rfl)):P:=h
theorem zvd (h:P:=by exact λab=>X.val rfl rfl (RV.re (v':=.bool true) (dH rfl rfl) (vb (decide_eq_true zM))) (λ_ _=>rfl)):P:=h
theorem zwd (h:P:=by exact λab=>X.val rfl rfl (RV.re (v':=.bool false) (AH underlying4 rfl rfl) (vb AI)) (λ_ _=>rfl)):P:=h
theorem zxd (h:P:=by exact λcv L' H' hd hP=>X.val rfl rfl (RV.re (v':=.bool true) (pW rfl rfl) (vb (decide_eq_true zM))) R2):P:=h
theorem zyd (h:P:=by by_cases h9:cp=i2;(left;apply ja;rw[Az];omega);(right;rw[if_neg h9,kj,Nat.min_eq_left zM,i6])):P:=h
theorem zzd (h:P:=by exact λab=>X.val rfl rfl (RV.re (v':=.slice (some ⟨bo,oo,none⟩) c.wes.length c.wc) (aa isAgg97 rfl A0 aR aY zL rfl) (congrArg (λq=>Value.slice q c.wes.length c.wc) jC)) (λ_ _=>rfl)):P:=h
theorem zAd (h:P:=by exact λab=>X.val rfl rfl (RV.re (v':=.agg (plA x)) (de (i:=0) rfl isAgg135 sizeOf135 rfl (Ji (j:=j1+1) nG zM)) (va (Jh (j:=j1+1) (sp:=sp) nG hx))) (λ_ _=>rfl)):P:=h
theorem zBd (h:P:=by exact λab=>X.val rfl rfl (RV.re (v':=.agg (plA y)) (de (i:=0) rfl isAgg135 sizeOf135 rfl (Ji (j:=j1) nG zM)) (va (Jh (j:=j1) (sp:=sp) nG hy))) (λ_ _=>rfl)):P:=h
theorem SK (h:P:=by rw[hB.block q.2 zM];exact hS.old A0 fu zX xX):P:=h
theorem SJ (h:P:=by rw[hB.block q.1 zM];exact hS.old A0 du zX xX):P:=h
theorem zFd (h:P:=by simp only[Over,nY,eY,dX,dE,dz,and_true];(repeat' apply And.intro);all_goals first|omega|exact True.intro|exact Rw.over (Rw.ge_mono iq zM)|exact Rw.over (Rw.ge_mono dN zM)):P:=h
theorem zGd (h:P:=by exact λab=>X.val rfl rfl (cx underlying53 sizeOf355 rfl rfl zM zM) (λ_ _=>rfl)):P:=h
theorem zHd (h:P:=by exact λab=>X.val rfl rfl (cx underlying46 sizeOf57 rfl rfl zM zM) (λ_ _=>rfl)):P:=h
theorem zId (h:P:=by exact λab=>X.val rfl rfl (RV.re (v':=.agg (dg p.1.last)) (ag isAgg34 sizeOf34 rfl A2 hcs zX trivial (ni ar hp rfl)) (va (np ar hp rfl))) (λ_ _=>rfl)):P:=h
theorem zJd (h:P:=by exact λab=>X.val rfl rfl (RV.re (v':=.agg (dg p.1.last)) (ag isAgg34 sizeOf34 rfl A1 hcs zX trivial (ni ar hp rfl)) (va (np ar hp rfl))) (λ_ _=>rfl)):P:=h
theorem zKd (h:P:=by exact λab=>X.val rfl rfl (aa (v:=.int .i64 y.dev) isAgg3 rfl A1 hcs zX jN (by have:=vE (i:=(j:Int)-1) ar hy zM 0 zQ;simpa[sw]using this)) (λ_ _=>rfl)):P:=h
theorem zLd (h:P:=by exact λcv L' H' hd hP=>X.val rfl rfl (cx underlying32 sizeOf135 rfl rfl zM zM) R2):P:=h
theorem zMd (h:P:=by simp only[bE,ne,book,eY,dX,dE,i7,dz,fj,qo,rJ,ne_eq,and_true];(repeat' apply And.intro);all_goals first|omega|exact True.intro|exact Rw.off_ge mV zM):P:=h
theorem ZH (h:P:=by exact λcv L' H' hd hP=>X.val rfl rfl (tG underlying3 underlying202 rfl zM zM) R2):P:=h
theorem zOd (h:P:=by exact λab=>nf call49 rfl rfl (λW hS _=>n9f hZ c dD N W (aS hN (hS.links w A5).size) (hC.up (ao _) (hS.same A5 hN zU zP)) (hg.old hS A5 zU zP)) (λ_=>rfl)):P:=h
theorem zPd (h:P:=by exact λab=>X.val rfl rfl (RV.re (v':=.int .i64 lk.exp) (aa isAgg3 rfl A6 aR (Nv b1 (.inl (.inr (.inl rfl))) zM) (pb b1 zM) rfl) rfl) (λ_ _=>rfl)):P:=h
theorem zQd (h:P:=by simp only[Over,nY,eY,dX,dE,dz,and_true];(repeat' apply And.intro);all_goals first|omega|exact True.intro|exact Rw.over (Rw.ge_mono sI zM)):P:=h
theorem zRd (h:P:=by exact λab=>X.val rfl rfl (RV.re (v':=.int .i64 ((j1:Nat):Int)) (gT rfl rfl zM zM) (vi zM)) (λ_ _=>rfl)):P:=h
theorem zSd (h:P:=by exact λcv L' H' hd hP=>X.val rfl rfl (RV.re (v':=.int .i64 ((j1:Nat):Int)) (gT rfl rfl zM zM) (vi zM)) R2):P:=h
theorem zTd (h:P:=by simp only[bE,ne,eY,dX,dE,and_true];(repeat' apply And.intro);all_goals first|omega|exact True.intro|exact Rw.off_ge mV zM):P:=h
theorem zUd (h:P:=by exact λab=>X.val rfl rfl (RV.re (v':=.bool false) (dH rfl rfl) (vb (decide_eq_false zM))) (λ_ _=>rfl)):P:=h
theorem zVd (h:P:=by exact λab=>X.val rfl rfl (RV.re (v':=.bool true) (sT rfl rfl) (vb (decide_eq_true zM))) (λ_ _=>rfl)):P:=h
theorem zWd (h:P:=by exact λab=>X.val rfl rfl (RV.re (v':=.bool false) (gZ ui zQ nQ rfl rfl rfl) (vb heq)) (λ_ _=>rfl)):P:=h
theorem zXd (h:P:=by simp only[dz,fj,Over,and_true];omega):P:=h
theorem zYd (h:P:=by obtain⟨ta,tc,wr,r8,rfl,rfl,rfl,rfl,rfl,oF,fJ,mB,kB,eT,eU⟩:=hP;exact X.val rfl rfl (gE rfl rfl) R2):P:=h
theorem zZd (h:P:=by exact λab=>X.val rfl rfl (RV.re (v':=.bool true) (gZ ui zQ nQ rfl rfl rfl) (vb heq)) (λ_ _=>rfl)):P:=h
theorem z0d (h:P:=by exact λab=>X.val rfl rfl (RV.re (v':=.agg (dY c)) (af isAgg99 sizeOf99 rfl A3 aC ay zL rfl) (rfl)) (λ_ _=>rfl)):P:=h
theorem Zg (h:P:=by exact λab=>X.val rfl rfl (N9 rfl rfl) (λ_ _=>rfl)):P:=h
theorem z2d (h:P:=by first|(unfold kE;simp_all<;>omega)|fail):P:=h
theorem WK (h:P:=by rw[dE];exact Rw.over (Rw.ge_of bG A0)):P:=h
theorem z4d (h:P:=by exact λab=>X.val rfl rfl (RV.re (v':=.int .i64 x.g.epoch) (aO (i:=0) rfl isAgg3 rfl rfl) (rfl)) (λ_ _=>rfl)):P:=h
theorem z5d (h:P:=by exact λcv L' H' hd hP=>X.val rfl rfl (RV.re (v':=.bool false) (dH rfl rfl) (vb (by simp[hf]))) R2):P:=h
theorem DQ (h:P:=by simp[jz]):P:=h
theorem z7d (h:P:=by exact λab=>X.val rfl rfl (RV.re (v':=.bool false) (cy rfl rfl) (vb jZ)) (λ_ _=>rfl)):P:=h
theorem z8d (h:P:=by exact λab=>X.val rfl rfl (RV.re (v':=.bool true) (cy rfl rfl) (vb jZ)) (λ_ _=>rfl)):P:=h
theorem z9d (h:P:=by simp only[dz,Over,and_true];omega):P:=h
theorem Xt (h:P:=by simp only[dX,Over,and_true];omega):P:=h
theorem Xr (h:P:=by rw[dE];exact List.perm_append_comm):P:=h
theorem zce (h:P:=by first|(first|omega|(unfold cB;(repeat' split)<;>omega))|fail):P:=h
theorem NZ (h:P:=by rw[hl];exact ho):P:=h
theorem Jt (h:P:=by simpa using hi):P:=h
theorem Ja (h:P:=by simpa using h2):P:=h
theorem zge (h:P:=by exact λab=>X.val rfl rfl (ag isAgg34 sizeOf34 rfl A0 aR aY trivial (aV rfl)) (λ_ _=>rfl)):P:=h
theorem zhe (h:P:=by rw[show(Value.agg (iJ (oP n m (eF n)) i)).cells=iJ (oP n m (eF n)) i from rfl,iJ,yQ]):P:=h
theorem I0 (h:P:=by simp[qQ]):P:=h
theorem zje (h:P:=by rintro⟨g1,g2,g3⟩;first|omega|simp_all):P:=h
theorem zke (h:P:=by exact λab=>X.val rfl rfl (aP (i:=0) rfl isAgg149 sizeOf149 rfl rfl) (λ_ _=>rfl)):P:=h
theorem zle (h:P:=by intro p hp;simp at hp;subst hp;exact .inl z1):P:=h
theorem zme (h:P:=by exact λab=>X.val rfl rfl (kU underlying332 sizeOf263 rfl rfl zM zM) (λ_ _=>rfl)):P:=h
theorem Ni (h:P:=by simp[hb]):P:=h
theorem zoe (h:P:=by exact λab=>X.val rfl rfl (cx underlying97 sizeOf166 rfl rfl zM zM) (λ_ _=>rfl)):P:=h
theorem zpe (h:P:=by unfold xA;rw[bW,decide_eq_true zM];rfl):P:=h
theorem NV (h:P:=by simpa using hk):P:=h
theorem zre (h:P:=by first|(intro p hp;simp only[cP,fG,or_false]at hp;rcases hp with rfl|rfl<;>exact .inl z1)|fail):P:=h
theorem zse (h:P:=by have:=(Na s.pls).2.2;have:=ho.pl;omega):P:=h
theorem zte (h:P:=by have:=(aM.1 pb).1;have:=hB.size;omega):P:=h
theorem zue (h:P:=by exact λab=>X.val rfl rfl (aa isAgg64 rfl A0 mq tM trivial rfl) (λ_ _=>rfl)):P:=h
theorem zve (h:P:=by simp only[dz,fj,eY,dX,dE,Over];exact⟨by omega,Rw.over (Rw.ge_of bG A1)⟩):P:=h
theorem zwe (h:P:=by exact λab=>X.val rfl rfl (aa isAgg3 rfl A0 mq tM trivial rfl) (λ_ _=>rfl)):P:=h
theorem zxe (h:P:=by exact λcv L' H' _ _ hP=>X.val rfl rfl (cx underlying22 sizeOf50 rfl rfl zM zM) R2):P:=h
theorem zye (h:P:=by unfold xA;rw[nYb hc oC,Bool.and_false]):P:=h
theorem zY (h:P:=by exact rfl):P:=h
theorem UX (h:P:=by assumption):P:=h
theorem kF (h:P:=by first|(with_reducible exact Tryz.isAgg3)|(with_reducible exact Tryz.isAgg4)|(with_reducible exact Tryz.isAgg9)|(with_reducible exact Tryz.isAgg34)|(with_reducible exact Tryz.isAgg36)|(with_reducible exact Tryz.isAgg38)|(with_reducible exact Tryz.isAgg44)|(with_reducible exact Tryz.isAgg52)|(with_reducible exact Tryz.isAgg53)|(with_reducible exact Tryz.isAgg55)|(with_reducible exact Tryz.isAgg57)|(with_reducible exact Tryz.isAgg59)|(with_reducible exact Tryz.isAgg64)|(with_reducible exact Tryz.isAgg84)|(with_reducible exact Tryz.isAgg92)|(with_reducible exact Tryz.isAgg95)|(with_reducible exact Tryz.isAgg96)|(with_reducible exact Tryz.isAgg97)|(with_reducible exact Tryz.isAgg99)|(with_reducible exact Tryz.isAgg132)|(with_reducible exact Tryz.isAgg135)|(with_reducible exact Tryz.isAgg146)|(with_reducible exact Tryz.isAgg149)|(with_reducible exact Tryz.isAgg154)|(with_reducible exact Tryz.isAgg164)|(with_reducible exact Tryz.isAgg166)|(with_reducible exact Tryz.isAgg202)|(with_reducible exact Tryz.isAgg210)|(with_reducible exact Tryz.isAgg214)|(with_reducible exact Tryz.isAgg229)|(with_reducible exact Tryz.isAgg233)|(with_reducible exact Tryz.isAgg264)|(with_reducible exact Tryz.isAgg276)|(with_reducible exact Tryz.isAgg319)|(with_reducible exact Tryz.isAgg336)|(with_reducible exact Tryz.isAgg384)):P:=h
theorem UY (h:P:=by first|exact A0|exact A1|exact A2|exact A3|exact A4|exact A5|exact A6|exact A7|exact A8|exact A9):P:=h
theorem UZ (h:P:=by first|exact trivial|exact zL):P:=h
theorem gL (h:P:=by(try(conv=>arg 2;whnf));first|(with_reducible exact Tryz.sizeOf3)|(with_reducible exact Tryz.sizeOf4)|(with_reducible exact Tryz.sizeOf5)|(with_reducible exact Tryz.sizeOf9)|(with_reducible exact Tryz.sizeOf22)|(with_reducible exact Tryz.sizeOf24)|(with_reducible exact Tryz.sizeOf27)|(with_reducible exact Tryz.sizeOf28)|(with_reducible exact Tryz.sizeOf31)|(with_reducible exact Tryz.sizeOf34)|(with_reducible exact Tryz.sizeOf36)|(with_reducible exact Tryz.sizeOf38)|(with_reducible exact Tryz.sizeOf41)|(with_reducible exact Tryz.sizeOf44)|(with_reducible exact Tryz.sizeOf46)|(with_reducible exact Tryz.sizeOf50)|(with_reducible exact Tryz.sizeOf52)|(with_reducible exact Tryz.sizeOf53)|(with_reducible exact Tryz.sizeOf55)|(with_reducible exact Tryz.sizeOf57)|(with_reducible exact Tryz.sizeOf59)|(with_reducible exact Tryz.sizeOf61)|(with_reducible exact Tryz.sizeOf63)|(with_reducible exact Tryz.sizeOf64)|(with_reducible exact Tryz.sizeOf67)|(with_reducible exact Tryz.sizeOf81)|(with_reducible exact Tryz.sizeOf84)|(with_reducible exact Tryz.sizeOf92)|(with_reducible exact Tryz.sizeOf95)|(with_reducible exact Tryz.sizeOf96)|(with_reducible exact Tryz.sizeOf97)|(with_reducible exact Tryz.sizeOf99)|(with_reducible exact Tryz.sizeOf101)|(with_reducible exact Tryz.sizeOf118)|(with_reducible exact Tryz.sizeOf126)|(with_reducible exact Tryz.sizeOf128)|(with_reducible exact Tryz.sizeOf135)|(with_reducible exact Tryz.sizeOf146)|(with_reducible exact Tryz.sizeOf149)|(with_reducible exact Tryz.sizeOf162)|(with_reducible exact Tryz.sizeOf164)|(with_reducible exact Tryz.sizeOf166)|(with_reducible exact Tryz.sizeOf183)|(with_reducible exact Tryz.sizeOf202)|(with_reducible exact Tryz.sizeOf210)|(with_reducible exact Tryz.sizeOf214)|(with_reducible exact Tryz.sizeOf229)|(with_reducible exact Tryz.sizeOf233)|(with_reducible exact Tryz.sizeOf261)|(with_reducible exact Tryz.sizeOf263)|(with_reducible exact Tryz.sizeOf264)|(with_reducible exact Tryz.sizeOf276)|(with_reducible exact Tryz.sizeOf279)|(with_reducible exact Tryz.sizeOf281)|(with_reducible exact Tryz.sizeOf336)|(with_reducible exact Tryz.sizeOf355)|(with_reducible exact Tryz.sizeOf373)):P:=h
theorem bM (h:P:=by first|(with_reducible exact Tryz.underlying3)|(with_reducible exact Tryz.underlying5)|(with_reducible exact Tryz.underlying22)|(with_reducible exact Tryz.underlying24)|(with_reducible exact Tryz.underlying27)|(with_reducible exact Tryz.underlying28)|(with_reducible exact Tryz.underlying31)|(with_reducible exact Tryz.underlying32)|(with_reducible exact Tryz.underlying34)|(with_reducible exact Tryz.underlying36)|(with_reducible exact Tryz.underlying38)|(with_reducible exact Tryz.underlying41)|(with_reducible exact Tryz.underlying44)|(with_reducible exact Tryz.underlying46)|(with_reducible exact Tryz.underlying50)|(with_reducible exact Tryz.underlying52)|(with_reducible exact Tryz.underlying53)|(with_reducible exact Tryz.underlying55)|(with_reducible exact Tryz.underlying57)|(with_reducible exact Tryz.underlying59)|(with_reducible exact Tryz.underlying64)|(with_reducible exact Tryz.underlying76)|(with_reducible exact Tryz.underlying81)|(with_reducible exact Tryz.underlying84)|(with_reducible exact Tryz.underlying92)|(with_reducible exact Tryz.underlying95)|(with_reducible exact Tryz.underlying96)|(with_reducible exact Tryz.underlying97)|(with_reducible exact Tryz.underlying99)|(with_reducible exact Tryz.underlying101)|(with_reducible exact Tryz.underlying118)|(with_reducible exact Tryz.underlying128)|(with_reducible exact Tryz.underlying135)|(with_reducible exact Tryz.underlying146)|(with_reducible exact Tryz.underlying149)|(with_reducible exact Tryz.underlying162)|(with_reducible exact Tryz.underlying164)|(with_reducible exact Tryz.underlying166)|(with_reducible exact Tryz.underlying189)|(with_reducible exact Tryz.underlying194)|(with_reducible exact Tryz.underlying202)|(with_reducible exact Tryz.underlying210)|(with_reducible exact Tryz.underlying214)|(with_reducible exact Tryz.underlying229)|(with_reducible exact Tryz.underlying233)|(with_reducible exact Tryz.underlying263)|(with_reducible exact Tryz.underlying281)|(with_reducible exact Tryz.underlying283)|(with_reducible exact Tryz.underlying332)|(with_reducible exact Tryz.underlying336)|(with_reducible exact Tryz.underlying339)|(with_reducible exact Tryz.underlying355)|(with_reducible exact Tryz.underlying373)):P:=h
theorem sU (h:P:=by first|(with_reducible exact Tryz.zeroValue34)|(with_reducible exact Tryz.zeroValue214)|(with_reducible exact Tryz.zeroValue332)|(with_reducible exact Tryz.zeroValue373)):P:=h
theorem zR (h:P:=by repeat(first|exact trivial|refine⟨rfl,?_⟩)):P:=h
theorem zch (h:P:=by intro cv L' H' hd hP;(rcases cv with _|⟨v1,_|⟨v2,_|⟨_,_⟩⟩⟩<;>try exact False.elim hP);all_goals(first|obtain⟨rfl,rfl⟩:=hP|obtain⟨b6,rfl,rfl,rfl,gS,xR⟩:=hP|obtain⟨b6,b7,c7,s7,rfl,rfl,rfl,rfl,gS,xR,oy,OK,vj⟩:=hP);all_goals(first|exact X.val rfl rfl (aa isAgg3 rfl A0 aC ay zL rfl) R2)):P:=h
theorem zci (h:P:=by intro cv L' H' hd hP;(rcases cv with _|⟨v1,_|⟨v2,_|⟨v3,_|⟨_,_⟩⟩⟩⟩<;>try exact False.elim hP);all_goals(first|obtain⟨rfl,rfl⟩:=hP|obtain⟨b6,rfl,rfl,rfl,gS,xR⟩:=hP|obtain⟨b6,b7,c7,s7,rfl,rfl,rfl,rfl,gS,xR,oy,OK,vj⟩:=hP|obtain⟨b6,b7,c7,s7,kV,VX,QS,rfl,rfl,rfl,rfl,rfl,gS,xR,oy,OK,vj,QT,ZI,QU⟩:=hP);all_goals(first|exact X.val rfl rfl (aa isAgg9 rfl A0 aC ay zL rfl) R2)):P:=h
theorem zcj (h:P:=by intro cv L' H' hd hP;(rcases cv with _|⟨v1,_|⟨v2,_|⟨_,_⟩⟩⟩<;>try exact False.elim hP);all_goals(first|obtain⟨rfl,rfl⟩:=hP|obtain⟨b9,rfl,rfl,rfl,rE,EV⟩:=hP|obtain⟨b9,kW,wC,xS,rfl,rfl,rfl,rfl,rE,EV,EW,KA,ug⟩:=hP);all_goals(first|exact X.val rfl rfl (aa isAgg146 rfl A0 dm eb zL rfl) R2|exact X.val rfl rfl (aa isAgg146 rfl A0 dm eb trivial rfl) R2)):P:=h
theorem zck (h:P:=by intro cv L' H' hd hP;(rcases cv with _|⟨v1,_|⟨v2,_|⟨v3,_|⟨v4,_|⟨v5,_|⟨_,_⟩⟩⟩⟩⟩⟩<;>try exact False.elim hP);all_goals(first|obtain⟨rfl,rfl⟩:=hP|obtain⟨bw,bv,eM,rfl,rfl,rfl,rfl,rfl,rfl,rfl,e1,e2,e3,e4,e5,e6,e7⟩:=hP|obtain⟨bw,bv,eM,rfl,rfl,rfl,rfl,rfl,rfl,e1,e2,e3,e4,e5,e6,e7⟩:=hP|obtain⟨bw,bv,eM,rfl,rfl,rfl,rfl,rfl,e1,e2,e3,e4,e5,e6,e7⟩:=hP|obtain⟨bw,bv,eM,rfl,rfl,rfl,rfl,e1,e2,e3,e4,e5,e6,e7⟩:=hP|obtain⟨bw,bv,eM,rfl,rfl,rfl,e1,e2,e3,e4,e5,e6,e7⟩:=hP);all_goals(first|exact X.val rfl rfl (aa isAgg3 rfl A0 aR aY trivial rfl) R2|exact X.val rfl rfl (aa isAgg3 rfl A1 aR aY trivial rfl) R2|exact X.val rfl rfl (af isAgg149 sizeOf149 rfl A0 aR aY trivial rfl) R2|exact X.val rfl rfl (af isAgg149 sizeOf149 rfl A1 aR aY trivial rfl) R2)):P:=h
theorem zcl (h:P:=by intro cv L' H' hd hP;(rcases cv with _|⟨v1,_|⟨_,_⟩⟩<;>try exact False.elim hP);all_goals(first|obtain⟨rfl,rfl⟩:=hP|obtain⟨b4,rfl,rfl,rfl,dQ,KV,dV⟩:=hP);all_goals(first|exact X.val rfl rfl (af isAgg84 sizeOf84 rfl A0 aR aY zL rfl) R2|exact X.val rfl rfl (aa isAgg3 rfl A0 aR aY zL rfl) R2)):P:=h
theorem Wt (h:P:=by intro cv L' H' hl hd hP;(obtain⟨fN,kp,rfl⟩:=jj hl;rcases fN with _|v12<;>rcases kp with _|oA<;>try exact False.elim hP);all_goals(first|obtain⟨rfl,rfl⟩:=hP|obtain⟨cq,rfl,rfl,rfl,ff,wL⟩:=hP|obtain⟨b3,rfl,rfl,rfl,bV,Rt⟩:=hP|obtain⟨cq,b3,rfl,rfl,rfl,rfl,ff,wL,bV,Rt⟩:=hP);all_goals(first|exact X.val rfl rfl (ag isAgg34 sizeOf34 rfl A0 aR aY trivial (aV rfl)) R2|exact X.val rfl rfl (ag isAgg34 sizeOf34 rfl A0 aR aY zL (aV rfl)) R2|exact X.val rfl rfl (aa isAgg3 rfl A0 aR aY trivial rfl) R2|exact X.val rfl rfl (aa isAgg3 rfl A0 aR aY zL rfl) R2)):P:=h
theorem zcn (h:P:=by intro cv L' H' hd hP;(rcases cv with _|⟨v1,_|⟨_,_⟩⟩<;>try exact False.elim hP);all_goals(first|obtain⟨rfl,rfl⟩:=hP|obtain⟨ei,rfl,rfl,rfl,iy,aaA,aaB,Fe⟩:=hP);all_goals(first|exact X.val rfl rfl (af isAgg38 sizeOf38 rfl A1 eg eP zL rfl) R2|exact nf call13 rfl rfl (λW hS _=>by rw[<-KY];exact Wo hZ l hl W (hg.old hS A2 zU zP)) (λ_=>rfl)|exact X.val rfl rfl (ag isAgg34 sizeOf34 rfl A0 Oz OA zL (aV rfl)) R2)):P:=h
theorem zco (h:P:=by intro cv L' H' hd hP;(rcases cv with _|⟨v1,_|⟨_,_⟩⟩<;>try exact False.elim hP);all_goals(first|obtain⟨rfl,rfl⟩:=hP|obtain⟨b7,rfl,rfl,rfl,gg⟩:=hP);all_goals(first|exact X.val rfl rfl (aa isAgg3 rfl A0 eg eP trivial rfl) R2|exact X.val rfl rfl (aa isAgg3 rfl A0 eg eP zL rfl) R2)):P:=h
theorem zcp (h:P:=by intro cv L' H' hd hP;(rcases cv with _|⟨v1,_|⟨_,_⟩⟩<;>try exact False.elim hP);all_goals(first|obtain⟨rfl,rfl⟩:=hP|obtain⟨Dw,Dx,rfl,rfl,rfl,E4,KH,E5⟩:=hP);all_goals(first|exact X.val rfl rfl (aO (i:=0) rfl isAgg44 rfl rfl) R2|exact X.val rfl rfl (aa isAgg382 rfl A1 aC ay MK rfl) R2|exact X.val rfl rfl (aa isAgg382 rfl A2 aC ay MK rfl) R2)):P:=h
theorem I8 (h:P:=by intro cv L' H' hd hP;(rcases cv with _|⟨v1,_|⟨_,_⟩⟩<;>try exact False.elim hP);all_goals(first|obtain⟨rfl,rfl⟩:=hP|obtain⟨a7,c7,w7,rfl,rfl,rfl,iz⟩:=hP);all_goals(first|exact X.val rfl rfl (aa isAgg52 rfl A0 aR aY trivial rfl) R2|exact X.val rfl rfl (aa isAgg52 rfl A1 aR aY trivial rfl) R2|exact X.val rfl rfl (ag isAgg55 sizeOf55 rfl A0 aR aY trivial (aV rfl)) R2|exact X.val rfl rfl (ag isAgg55 sizeOf55 rfl A1 aR aY trivial (aV rfl)) R2)):P:=h
theorem Pf (h:P:=by intro cv L' H' hd hP;(rcases cv with _|⟨v1,_|⟨v2,_|⟨v3,_|⟨v4,_|⟨_,_⟩⟩⟩⟩⟩<;>try exact False.elim hP);all_goals(first|obtain⟨rfl,rfl⟩:=hP|obtain⟨kb,rfl,rfl,rfl,iQ⟩:=hP|obtain⟨kb,bn,cn,sn,rfl,rfl,rfl,rfl,rfl,iQ,hfn,Jf⟩:=hP|obtain⟨kb,bn,cn,sn,rfl,rfl,rfl,rfl,iQ,hfn,Jf⟩:=hP|obtain⟨kb,bn,cn,sn,oG,rfl,rfl,rfl,rfl,rfl,rfl,iQ,hfn,Jf,hfo⟩:=hP);all_goals(first|exact X.val rfl rfl (aO (i:=3) rfl isAgg146 rfl rfl) R2|exact X.val rfl rfl (aO (i:=4) rfl isAgg146 rfl rfl) R2|exact X.val rfl rfl (aO (i:=5) rfl isAgg146 rfl rfl) R2|exact X.val rfl rfl (aO (i:=6) rfl isAgg146 rfl rfl) R2|exact X.val rfl rfl (aO (i:=0) rfl isAgg3 rfl rfl) R2|exact X.val rfl rfl (aO (i:=1) rfl isAgg3 rfl rfl) R2|exact X.val rfl rfl (aO (i:=2) rfl isAgg3 rfl rfl) R2|exact X.val rfl rfl (aO (i:=3) rfl isAgg3 rfl rfl) R2)):P:=h
theorem AY (h:P:=by intro cv L' H' hd hP;(rcases cv with _|⟨v1,_|⟨v2,_|⟨v3,_|⟨_,_⟩⟩⟩⟩<;>try exact False.elim hP);all_goals(first|obtain⟨rfl,rfl⟩:=hP|obtain⟨bn,rfl,rfl,rfl,rfl,hfn⟩:=hP|obtain⟨bn,rfl,rfl,rfl,hfn⟩:=hP|obtain⟨bn,oG,rfl,rfl,rfl,rfl,rfl,hfn,hfo⟩:=hP);all_goals(first|exact X.val rfl rfl (aO (i:=2) rfl isAgg146 rfl rfl) R2|exact X.val rfl rfl (aO (i:=3) rfl isAgg146 rfl rfl) R2|exact X.val rfl rfl (aO (i:=4) rfl isAgg146 rfl rfl) R2|exact X.val rfl rfl (aO (i:=0) rfl isAgg3 rfl rfl) R2|exact X.val rfl rfl (aO (i:=1) rfl isAgg3 rfl rfl) R2|exact X.val rfl rfl (aO (i:=2) rfl isAgg3 rfl rfl) R2|exact X.val rfl rfl (aO (i:=0) rfl isAgg64 rfl rfl) R2|exact X.val rfl rfl (aO (i:=1) rfl isAgg64 rfl rfl) R2|exact X.val rfl rfl (aO (i:=2) rfl isAgg64 rfl rfl) R2|exact nf call143 rfl rfl (λW hS _=>SP x.w.body N x.w.ba x.w.bc W (aS hN (hS.links w A1).size) (mU.up o8 (ao _) (λk hk=>(hS.links w A1).block k zM (λhx=>by first|(rcases hx with hx|hx;(exact hx);simp only[gj,eE,iD,eY,dX,dE,cO,cP,fG,or_false]at hx;rcases hx with hx|hx|hx|hx|hx<;>first|omega|(have:=hq _ hx;omega)|(have h9:=hfn.not (w:=w) A1;omega)|(have h9:=hfo.not (w:=w) A1;omega))|fail)))) (λ_=>rfl)|exact nf call143 rfl rfl (λW hS _=>SP x.w.body N x.w.ba x.w.bc W (aS hN (hS.links w A1).size) (mU.up o8 (ao _) (λk hk=>(hS.links w A1).block k zM (λhx=>by first|(rcases hx with hx|hx;(exact hx);simp only[gj,eE,iD,eY,dX,dE,cO,cP,fG,or_false]at hx;rcases hx with hx|hx|hx|hx|hx|hx<;>first|omega|(have:=hq _ hx;omega)|(have h9:=hfn.not (w:=w) A1;omega)|(have h9:=hfo.not (w:=w) A1;omega))|fail)))) (λ_=>rfl)|exact nf call143 rfl rfl (λW hS _=>SP x.w.body N x.w.ba x.w.bc W (aS hN (hS.links w A1).size) (mU.up o8 (ao _) (λk hk=>(hS.links w A1).block k zM (λhx=>by first|(rcases hx with hx|hx;(exact hx);simp only[gj,eE,iD,eY,dX,dE,cO,cP,fG,or_false]at hx;rcases hx with hx|hx|hx|hx|hx|hx|hx<;>first|omega|(have:=hq _ hx;omega)|(have h9:=hfn.not (w:=w) A1;omega)|(have h9:=hfo.not (w:=w) A1;omega))|fail)))) (λ_=>rfl)|exact X.val rfl rfl (aO (i:=1) rfl isAgg146 rfl rfl) R2)):P:=h
theorem Ba (h:P:=by intro cv L' H' hd hP;(rcases cv with _|⟨v1,_|⟨v2,_|⟨_,_⟩⟩⟩<;>try exact False.elim hP);all_goals(first|obtain⟨rfl,rfl⟩:=hP|obtain⟨tr,rfl,rfl,rfl,rfl,mV,mW⟩:=hP|obtain⟨tr,rfl,rfl,rfl,mV,mW⟩:=hP);all_goals(first|exact X.val rfl rfl (aa isAgg3 rfl A0 aR aY zMd rfl) R2|exact nf call143 rfl rfl (λW hS _=>by have h1:=hS.old A0 aR aY zTd;have h2:=SP (dn c.par) W.heap.size (some ⟨b1,2,none⟩) 32 W (ao _) (.inr ⟨b1,2,rfl,(aM.1 h1).1,cG.dgo h1 rfl (aV rfl) pN.bp⟩);rw[Pe]at h2;exact h2) (λ_=>rfl)|exact X.val rfl rfl (aP (i:=2) rfl isAgg149 sizeOf149 rfl rfl) R2|exact X.val rfl rfl (aa isAgg44 rfl A0 aR aY zMd rfl) R2|exact X.val rfl rfl (aP (i:=1) rfl isAgg149 sizeOf149 rfl rfl) R2|exact X.val rfl rfl (aP (i:=0) rfl isAgg149 sizeOf149 rfl rfl) R2|exact nf call143 rfl rfl (λW hS _=>by have h1:=hS.old A0 aR aY zTd;have h2:=SP (dn c.conf) W.heap.size (some ⟨b1,39,none⟩) 32 W (ao _) (.inr ⟨b1,39,rfl,(aM.1 h1).1,cG.dgo h1 rfl (aV rfl) pN.bf⟩);rw[Pe]at h2;exact h2) (λ_=>rfl))):P:=h
theorem pR (h:P:=by intro cv L' H' hd hP;(rcases cv with _|⟨v1,_|⟨_,_⟩⟩<;>try exact False.elim hP);all_goals(first|obtain⟨rfl,rfl⟩:=hP|obtain⟨aw,cw,ww,rfl,rfl,rfl,pS,sE⟩:=hP);all_goals(first|exact X.val rfl rfl (aa isAgg96 rfl A1 aC ay zL rfl) R2|exact X.val rfl rfl (aa isAgg96 rfl A2 aC ay zL rfl) R2|exact nf call149 rfl rfl (λW hS _=>by have h9:=npb c.bxs zM W.heap.size c.ba c.bc W (ao _) (hC.bxs.up (aS hN (hS.links w A3).size) (hS.same A3 hN zU zP)) (gI G.g c.author c.chs) an cn (sC.to hS A0 (ao _) (λb off e=>.inr zJc));rw[show jS Jg c.bxs (gI G.g c.author c.chs)=true from hb]at h9;exact h9) (λ_=>rfl)|exact nf call149 rfl rfl (λW hS _=>by have h9:=npb c.bxs zM W.heap.size c.ba c.bc W (ao _) (hC.bxs.up (aS hN (hS.links w A4).size) (hS.same A4 hN zU zP)) (gI G.g c.author c.chs) an cn (sC.to hS A1 (ao _) (λb off e=>.inr zJc));rw[show jS Jg c.bxs (gI G.g c.author c.chs)=true from hb]at h9;exact h9) (λ_=>rfl)|exact X.val rfl rfl (aa isAgg97 rfl A1 aC ay zL rfl) R2|exact X.val rfl rfl (aa isAgg97 rfl A2 aC ay zL rfl) R2|exact X.val rfl rfl (aa isAgg3 rfl A1 aC ay zL rfl) R2|exact X.val rfl rfl (aa isAgg3 rfl A2 aC ay zL rfl) R2|exact X.val rfl rfl (aa isAgg95 rfl A1 aC ay zL rfl) R2|exact X.val rfl rfl (aa isAgg95 rfl A2 aC ay zL rfl) R2)):P:=h
theorem rk (h:P:=by intro cv L' H' hd hP;(rcases cv with _|⟨v1,_|⟨_,_⟩⟩<;>try exact False.elim hP);all_goals(first|obtain⟨rfl,rfl⟩:=hP|obtain⟨bm,wm,rfl,rfl,rfl,jb,hgm⟩:=hP);all_goals(first|exact X.val rfl rfl (af isAgg57 sizeOf57 rfl A3 aH aF zL rfl) R2|exact X.val rfl rfl (af isAgg57 sizeOf57 rfl A4 aH aF zL rfl) R2|exact X.val rfl rfl (aa isAgg3 rfl A2 aC ay zL rfl) R2|exact X.val rfl rfl (aa isAgg3 rfl A3 aC ay zL rfl) R2|exact X.val rfl rfl (aa isAgg95 rfl A2 aC ay zL rfl) R2|exact X.val rfl rfl (aa isAgg95 rfl A3 aC ay zL rfl) R2|exact nf call152 rfl rfl (λW hS _=>nSb G N W (aS hN (hS.links w A4).size) (hG.up (ao _) (hS.same A4 hN zU zP)) c.chs zM c.ca c.cc (hC.chs.up (ao _) (hS.same A4 hN zU zP)) c.author (λhm=>npe pT sA hm)) (λ_=>rfl)|exact nf call152 rfl rfl (λW hS _=>nSb G N W (aS hN (hS.links w A5).size) (hG.up (ao _) (hS.same A5 hN zU zP)) c.chs zM c.ca c.cc (hC.chs.up (ao _) (hS.same A5 hN zU zP)) c.author (λhm=>npe pT sA hm)) (λ_=>rfl)|exact X.val rfl rfl (af isAgg99 sizeOf99 rfl A2 aC ay zL rfl) R2|exact X.val rfl rfl (af isAgg99 sizeOf99 rfl A3 aC ay zL rfl) R2|exact X.val rfl rfl (ag isAgg36 sizeOf36 rfl A2 aC ay zL (aV rfl)) R2|exact X.val rfl rfl (ag isAgg36 sizeOf36 rfl A3 aC ay zL (aV rfl)) R2)):P:=h
theorem Jn (h:P:=by intro cv L' H' hd hP;(rcases cv with _|⟨v1,_|⟨v2,_|⟨v3,_|⟨v4,_|⟨v5,_|⟨_,_⟩⟩⟩⟩⟩⟩<;>try exact False.elim hP);all_goals(first|obtain⟨rfl,rfl⟩:=hP|obtain⟨ta,tc,wr,rfl,rfl,rfl,oF,fJ,mB⟩:=hP|obtain⟨ta,tc,wr,r8,rfl,rfl,rfl,rfl,rfl,rfl,rfl,oF,fJ,mB,kB,eT,eU⟩:=hP|obtain⟨ta,tc,wr,r8,rfl,rfl,rfl,rfl,rfl,rfl,oF,fJ,mB,kB,eT,eU⟩:=hP|obtain⟨ta,tc,wr,r8,rfl,rfl,rfl,rfl,rfl,oF,fJ,mB,kB,eT,eU⟩:=hP|obtain⟨ta,tc,wr,r8,rfl,rfl,rfl,rfl,oF,fJ,mB,kB,eT,eU⟩:=hP);all_goals(first|exact X.val rfl rfl (af isAgg57 sizeOf57 rfl A4 aH aF GC rfl) R2|exact X.val rfl rfl (af isAgg57 sizeOf57 rfl A5 aH aF GC rfl) R2|exact X.val rfl rfl (aa isAgg95 rfl A3 aC ay GC rfl) R2|exact X.val rfl rfl (aa isAgg95 rfl A4 aC ay GC rfl) R2|exact X.val rfl rfl (aa isAgg3 rfl A3 aC ay GC rfl) R2|exact X.val rfl rfl (aa isAgg3 rfl A4 aC ay GC rfl) R2|exact X.val rfl rfl (aa isAgg44 rfl A3 aC ay GC rfl) R2|exact X.val rfl rfl (aa isAgg44 rfl A4 aC ay GC rfl) R2)):P:=h
theorem zcx (h:P:=by intro cv L' H' hl hd hP;(obtain⟨x3,x4,x8,x9,rfl⟩:=qp hl;rcases x3 with _|v3<;>rcases x4 with _|v4<;>rcases x8 with _|v8<;>rcases x9 with _|v9<;>try exact False.elim hP);all_goals(first|obtain⟨rfl,rfl⟩:=hP|obtain⟨gm,rfl,rfl,rfl,iT⟩:=hP|obtain⟨gF,rfl,rfl,rfl,jK⟩:=hP|obtain⟨gm,gF,rfl,rfl,rfl,rfl,iT,jK⟩:=hP|obtain⟨gm,ix,ey,eV,rfl,rfl,rfl,rfl,iT,iU,ez⟩:=hP|obtain⟨gm,ix,ey,eV,gF,rfl,rfl,rfl,rfl,rfl,iT,iU,ez,jK⟩:=hP|obtain⟨gm,ix,ey,eV,gF,vV,pd,qK,rfl,rfl,rfl,rfl,rfl,rfl,iT,iU,ez,jK,nt,lj⟩:=hP);all_goals(first|exact X.val rfl rfl (aO (i:=3) rfl isAgg41 rfl rfl) R2|exact X.val rfl rfl (aO (i:=4) rfl isAgg41 rfl rfl) R2|exact X.val rfl rfl (aO (i:=5) rfl isAgg41 rfl rfl) R2|exact X.val rfl rfl (aP (i:=0) rfl isAgg34 sizeOf34 rfl rfl) R2|exact X.val rfl rfl (aP (i:=1) rfl isAgg34 sizeOf34 rfl rfl) R2|exact X.val rfl rfl (aP (i:=2) rfl isAgg34 sizeOf34 rfl rfl) R2|exact X.val rfl rfl (aO (i:=3) rfl isAgg44 rfl rfl) R2|exact X.val rfl rfl (aO (i:=4) rfl isAgg44 rfl rfl) R2|exact X.val rfl rfl (aO (i:=5) rfl isAgg44 rfl rfl) R2)):P:=h
theorem MM (h:P:=by intro cv L' H' hd hP;(rcases cv with _|⟨v1,_|⟨_,_⟩⟩<;>try exact False.elim hP);all_goals(first|obtain⟨rfl,rfl⟩:=hP|obtain⟨Pt,rfl,rfl,rfl,adj⟩:=hP);all_goals(first|exact X.val rfl rfl (aP (i:=1) rfl isAgg99 sizeOf99 rfl rfl) R2|exact X.val rfl rfl (aP (i:=2) rfl isAgg99 sizeOf99 rfl rfl) R2|exact X.val rfl rfl (aa isAgg41 rfl A1 aH aF MK rfl) R2|exact X.val rfl rfl (RV.re (v':=.agg (dg (aQ Z c))) (ag isAgg34 sizeOf34 rfl A2 sd zX TM (ni se Et rfl)) (va (np se Et rfl))) R2|exact X.val rfl rfl (af isAgg57 sizeOf57 rfl A0 aC ay MK rfl) R2|exact X.val rfl rfl (aO (i:=1) rfl isAgg3 rfl rfl) R2|exact X.val rfl rfl (aO (i:=2) rfl isAgg3 rfl rfl) R2|exact nf call163 rfl rfl (λW hS _=>non G N W (aS hN (hS.links w A2).size) (hG.up (ao _) (hS.same A2 hN zU TN)) c.author) (λ_=>rfl)|exact X.val rfl rfl (aP (i:=0) rfl isAgg57 sizeOf57 rfl rfl) R2|exact X.val rfl rfl (aP (i:=1) rfl isAgg57 sizeOf57 rfl rfl) R2)):P:=h
theorem TT (h:P:=by intro cv L' H' hl hd hP;(obtain⟨fN,iV,kp,uO,uP,rfl⟩:=eZ hl;rcases fN with _|v12<;>rcases iV with _|kM<;>rcases kp with _|oA<;>rcases uO with _|sJ<;>rcases uP with _|v17<;>try exact False.elim hP);all_goals(first|obtain⟨rfl,rfl⟩:=hP|obtain⟨b7,rfl,rfl,rfl,gg⟩:=hP|obtain⟨Xn,dK,rfl,rfl,rfl,rfl,rfl,fk,gP,jq,jr⟩:=hP|obtain⟨Xn,dK,rfl,rfl,rfl,rfl,fk,gP,jq,jr⟩:=hP|obtain⟨Xn,dK,rfl,rfl,rfl,fk,gP,jq,jr⟩:=hP|obtain⟨Xn,dK,b7,rfl,rfl,rfl,rfl,rfl,rfl,rfl,fk,gP,jq,jr,gg,oH⟩:=hP|obtain⟨Xn,dK,b7,rfl,rfl,rfl,rfl,rfl,rfl,fk,gP,jq,jr,gg,oH⟩:=hP|obtain⟨Xn,dK,b7,rfl,rfl,rfl,rfl,rfl,fk,gP,jq,jr,gg,oH⟩:=hP|obtain⟨Xn,dK,b7,rfl,rfl,rfl,rfl,fk,gP,jq,jr,gg,oH⟩:=hP);all_goals(first|exact X.val rfl rfl (aa isAgg3 rfl A0 aC ay zL rfl) R2|exact X.val rfl rfl (aa isAgg3 rfl A1 aC ay zL rfl) R2|exact X.val rfl rfl (aa isAgg24 rfl A1 aH aF zL rfl) R2|exact X.val rfl rfl (aa isAgg24 rfl A2 aH aF zL rfl) R2|exact X.val rfl rfl (aa isAgg44 rfl A1 aH aF zL rfl) R2|exact X.val rfl rfl (aa isAgg44 rfl A2 aH aF zL rfl) R2|exact X.val rfl rfl (aa (v:=.int .i64 (i:Int)) isAgg3 rfl A2 BS zX P9 XV) R2|exact X.val rfl rfl (aa (v:=.int .i64 (i:Int)) isAgg3 rfl A3 BS zX P9 XV) R2|exact X.val rfl rfl (RV.re (v':=.agg (dY c)) (ag isAgg99 sizeOf99 rfl A2 uM zX P9 (ni ml hc rfl)) (va (np ml hc rfl))) R2|exact X.val rfl rfl (RV.re (v':=.agg (dY c)) (ag isAgg99 sizeOf99 rfl A3 uM zX P9 (ni ml hc rfl)) (va (np ml hc rfl))) R2)):P:=h
theorem D8 (h:P:=by intro cv L' H' hd hP;(rcases cv with _|⟨v1,_|⟨_,_⟩⟩<;>try exact False.elim hP);all_goals(first|obtain⟨rfl,rfl,rfl⟩:=hP|obtain⟨rfl,rfl⟩:=hP);all_goals(first|exact X.val rfl rfl (aa isAgg44 rfl A2 aH aF zL rfl) R2|exact X.val rfl rfl (aa (v:=.int .i64 (i:Int)) isAgg3 rfl A3 BS zX P9 XV) R2|exact X.val rfl rfl (aa isAgg24 rfl A2 aH aF zL rfl) R2|exact X.val rfl rfl (RV.re (v':=.agg (dY c)) (ag isAgg99 sizeOf99 rfl A3 uM zX P9 (ni ml hc rfl)) (va (np ml hc rfl))) R2|exact X.val rfl rfl (ag isAgg34 sizeOf34 rfl A1 aC ay zL (aV rfl)) R2|exact X.val rfl rfl (aP (i:=0) rfl isAgg57 sizeOf57 rfl rfl) R2|exact X.val rfl rfl (aO (i:=1) rfl isAgg44 rfl rfl) R2|exact X.val rfl rfl (aO (i:=0) rfl isAgg46 rfl rfl) R2)):P:=h
theorem zcB (h:P:=by intro cv L' H' hd hP;(rcases cv with _|⟨v1,_|⟨v2,_|⟨_,_⟩⟩⟩<;>try exact False.elim hP);all_goals(first|obtain⟨rfl,rfl,rfl,rfl⟩:=hP|obtain⟨rfl,rfl,rfl⟩:=hP|obtain⟨rfl,rfl⟩:=hP);all_goals(first|exact X.val rfl rfl ((by first|exact RV.re (v':=.agg (plA y)) (de (i:=0) rfl isAgg135 sizeOf135 rfl (Ji (j:=j1) nG zM)) (va (Jh (j:=j1) (sp:=sp) nG hy))|exact RV.re (v':=.agg (plA y)) (de (i:=0) rfl isAgg135 sizeOf135 rfl (Ji (j:=j1) nG (by simp only[G8];omega))) (va (Jh (j:=j1) (sp:=sp) nG (by rw[HK zM];exact hy))))) R2)):P:=h
theorem Ed (h:P:=by intro cv L' H' hd hP;(rcases cv with _|⟨v1,_|⟨_,_⟩⟩<;>try exact False.elim hP);all_goals(first|obtain⟨rfl,rfl⟩:=hP|obtain⟨sM,vX,rfl,rfl,rfl,pj⟩:=hP);all_goals(first|exact X.val rfl rfl (af isAgg84 sizeOf84 rfl A0 eg eP trivial rfl) R2|exact X.val rfl rfl (af isAgg84 sizeOf84 rfl A1 eg eP trivial rfl) R2|exact nf call26 rfl rfl (λW hS _=>by have h9:=nI p W;rwa[hv]at h9) (λ_=>rfl)|exact X.val rfl rfl (RV.re (v':=.bool true) (aa isAgg4 rfl A0 eg eP trivial rfl) (vb hr)) R2|exact X.val rfl rfl (RV.re (v':=.bool true) (aa isAgg4 rfl A1 eg eP trivial rfl) (vb hr)) R2|exact X.val rfl rfl (aa isAgg3 rfl A0 eg eP trivial rfl) R2|exact X.val rfl rfl (aa isAgg3 rfl A1 eg eP trivial rfl) R2|exact X.val rfl rfl (aa isAgg3 rfl A1 dm eb trivial rfl) R2|exact X.val rfl rfl (aa isAgg3 rfl A2 dm eb trivial rfl) R2|exact X.val rfl rfl (af isAgg84 sizeOf84 rfl A1 dm eb trivial rfl) R2|exact X.val rfl rfl (af isAgg84 sizeOf84 rfl A2 dm eb trivial rfl) R2|exact X.val rfl rfl (ag isAgg36 sizeOf36 rfl A1 dm eb trivial (aV rfl)) R2|exact X.val rfl rfl (ag isAgg36 sizeOf36 rfl A2 dm eb trivial (aV rfl)) R2)):P:=h
theorem xw (h:P:=by intro cv L' H' hd hP;(rcases cv with _|⟨v1,_|⟨v2,_|⟨_,_⟩⟩⟩<;>try exact False.elim hP);all_goals(first|obtain⟨rfl,rfl⟩:=hP|obtain⟨ke,rfl,rfl,rfl,gK,dq⟩:=hP|obtain⟨ke,sM,vX,rfl,rfl,rfl,rfl,gK,dq,pj,Cj⟩:=hP);all_goals(first|exact X.val rfl rfl (af isAgg84 sizeOf84 rfl A0 eg eP qW rfl) R2|exact X.val rfl rfl (af isAgg84 sizeOf84 rfl A1 eg eP qW rfl) R2|exact nf call26 rfl rfl (λW hS _=>by have h9:=nI p W;rwa[hv]at h9) (λ_=>rfl)|exact X.val rfl rfl (RV.re (v':=.bool true) (aa isAgg4 rfl A0 eg eP qW rfl) (vb hr)) R2|exact X.val rfl rfl (RV.re (v':=.bool true) (aa isAgg4 rfl A1 eg eP qW rfl) (vb hr)) R2|exact X.val rfl rfl (aa isAgg3 rfl A0 eg eP qW rfl) R2|exact X.val rfl rfl (aa isAgg3 rfl A1 eg eP qW rfl) R2|exact X.val rfl rfl (aa isAgg3 rfl A1 dm eb qW rfl) R2|exact X.val rfl rfl (aa isAgg3 rfl A2 dm eb qW rfl) R2|exact X.val rfl rfl (aa isAgg32 rfl A2 aC ay qW rfl) R2|exact X.val rfl rfl (aa isAgg32 rfl A3 aC ay qW rfl) R2|exact X.val rfl rfl (af isAgg84 sizeOf84 rfl A1 dm eb qW rfl) R2|exact X.val rfl rfl (af isAgg84 sizeOf84 rfl A2 dm eb qW rfl) R2|exact X.val rfl rfl (ag isAgg36 sizeOf36 rfl A1 dm eb qW (aV rfl)) R2|exact X.val rfl rfl (ag isAgg36 sizeOf36 rfl A2 dm eb qW (aV rfl)) R2)):P:=h
theorem Ee (h:P:=by intro cv L' H' hd hP;(rcases cv with _|⟨v1,_|⟨_,_⟩⟩<;>try exact False.elim hP);all_goals(first|obtain⟨rfl,rfl⟩:=hP|obtain⟨ke,rfl,rfl,rfl,gK,dq⟩:=hP);all_goals(first|exact X.val rfl rfl (af isAgg84 sizeOf84 rfl A0 eg eP qW rfl) R2|exact nf call26 rfl rfl (λW hS _=>by have h9:=nI p W;rwa[hv]at h9) (λ_=>rfl)|exact X.val rfl rfl (RV.re (v':=.bool true) (aa isAgg4 rfl A0 eg eP qW rfl) (vb hr)) R2|exact X.val rfl rfl (aa isAgg3 rfl A0 eg eP qW rfl) R2|exact X.val rfl rfl (aa isAgg3 rfl A1 dm eb qW rfl) R2|exact X.val rfl rfl (aa isAgg32 rfl A2 aC ay qW rfl) R2)):P:=h
theorem Eg (h:P:=by intro cv L' H' hd hP;(rcases cv with _|⟨v1,_|⟨_,_⟩⟩<;>try exact False.elim hP);all_goals(first|obtain⟨rfl,rfl⟩:=hP|obtain⟨bm,wm,rfl,rfl,rfl,jb⟩:=hP);all_goals(first|exact X.val rfl rfl (aa isAgg3 rfl A1 aH aF trivial rfl) R2|exact X.val rfl rfl (aa isAgg3 rfl A2 aH aF trivial rfl) R2|exact X.val rfl rfl (af isAgg57 sizeOf57 rfl A0 aC ay trivial rfl) R2|exact X.val rfl rfl (af isAgg57 sizeOf57 rfl A1 aC ay trivial rfl) R2|exact X.val rfl rfl (af isAgg59 sizeOf59 rfl A1 aH aF trivial rfl) R2|exact X.val rfl rfl (af isAgg59 sizeOf59 rfl A2 aH aF trivial rfl) R2|exact X.val rfl rfl (ag isAgg36 sizeOf36 rfl A1 aH aF trivial (aV rfl)) R2|exact X.val rfl rfl (ag isAgg36 sizeOf36 rfl A2 aH aF trivial (aV rfl)) R2|exact X.val rfl rfl (aa isAgg3 rfl A1 dm eb trivial rfl) R2|exact X.val rfl rfl (aa isAgg3 rfl A2 dm eb trivial rfl) R2|exact X.val rfl rfl (RV.re (v':=.bool true) (aa isAgg4 rfl A2 aH aF trivial rfl) (vb ho)) R2|exact X.val rfl rfl (RV.re (v':=.bool true) (aa isAgg4 rfl A3 aH aF trivial rfl) (vb ho)) R2|exact X.val rfl rfl (aa isAgg3 rfl A2 aC ay trivial rfl) R2|exact X.val rfl rfl (aa isAgg3 rfl A3 aC ay trivial rfl) R2|exact X.val rfl rfl (af isAgg59 sizeOf59 rfl A1 dm eb trivial rfl) R2|exact X.val rfl rfl (af isAgg59 sizeOf59 rfl A2 dm eb trivial rfl) R2|exact X.val rfl rfl (ag isAgg36 sizeOf36 rfl A1 dm eb trivial (aV rfl)) R2|exact X.val rfl rfl (ag isAgg36 sizeOf36 rfl A2 dm eb trivial (aV rfl)) R2)):P:=h
theorem Yj (h:P:=by intro cv L' H' hl hd hP;(obtain⟨x3,x4,x8,rfl⟩:=fM hl;rcases x3 with _|v3<;>rcases x4 with _|v4<;>rcases x8 with _|v8<;>try exact False.elim hP);all_goals(first|obtain⟨rfl,rfl⟩:=hP|obtain⟨ei,rfl,rfl,rfl,iy⟩:=hP|obtain⟨kr,rfl,rfl,rfl,qx⟩:=hP|obtain⟨ei,kr,rfl,rfl,rfl,rfl,iy,qx⟩:=hP|obtain⟨ei,cq,gd,gJ,rfl,rfl,rfl,rfl,iy,jR,fO⟩:=hP|obtain⟨ei,cq,gd,gJ,kr,rfl,rfl,rfl,rfl,rfl,iy,jR,fO,qx⟩:=hP);all_goals(first|exact X.val rfl rfl (aO (i:=2) rfl isAgg44 rfl rfl) R2|exact X.val rfl rfl (aO (i:=3) rfl isAgg44 rfl rfl) R2|exact X.val rfl rfl (aO (i:=4) rfl isAgg44 rfl rfl) R2|exact X.val rfl rfl (aO (i:=0) rfl isAgg3 rfl rfl) R2|exact X.val rfl rfl (aO (i:=1) rfl isAgg3 rfl rfl) R2|exact X.val rfl rfl (aO (i:=2) rfl isAgg3 rfl rfl) R2|exact X.val rfl rfl (aO (i:=1) rfl isAgg46 rfl rfl) R2|exact X.val rfl rfl (aO (i:=2) rfl isAgg46 rfl rfl) R2|exact X.val rfl rfl (aO (i:=3) rfl isAgg46 rfl rfl) R2|exact X.val rfl rfl (de (i:=0) rfl isAgg57 sizeOf57 rfl (aV rfl)) R2|exact X.val rfl rfl (de (i:=1) rfl isAgg57 sizeOf57 rfl (aV rfl)) R2|exact X.val rfl rfl (de (i:=2) rfl isAgg57 sizeOf57 rfl (aV rfl)) R2)):P:=h
theorem zcH (h:P:=by intro cv L' H' hl hd hP;(obtain⟨x9,eW,ir,fN,iV,rfl⟩:=eZ hl;rcases x9 with _|v9<;>rcases eW with _|v10<;>rcases ir with _|v11<;>rcases fN with _|v12<;>rcases iV with _|kM<;>try exact False.elim hP);all_goals(first|obtain⟨rfl,rfl⟩:=hP|obtain⟨a1,c1,a2,c2,ds,w9,rfl,rfl,rfl,rfl,rfl,rfl,rfl,eN,eQ,du,fu,qt,mz⟩:=hP|obtain⟨a1,c1,a2,c2,ds,w9,rfl,rfl,rfl,rfl,rfl,rfl,eN,eQ,du,fu,qt,mz⟩:=hP|obtain⟨a1,c1,a2,c2,ds,w9,rfl,rfl,rfl,rfl,rfl,eN,eQ,du,fu,qt,mz⟩:=hP|obtain⟨a1,c1,a2,c2,ds,w9,rfl,rfl,rfl,rfl,eN,eQ,du,fu,qt,mz⟩:=hP|obtain⟨a1,c1,a2,c2,ds,w9,rfl,rfl,rfl,eN,eQ,du,fu,qt,mz⟩:=hP);all_goals(first|exact X.val rfl rfl (RV.re (v':=.slice (some ⟨bo,oo,none⟩) s.fos.length s.fc) (aa isAgg22 rfl A1 aR aY trivial rfl) JG) R2|exact X.val rfl rfl (RV.re (v':=.slice (some ⟨bo,oo,none⟩) s.fos.length s.fc) (aa isAgg22 rfl A2 aR aY trivial rfl) JG) R2|exact X.val rfl rfl (RV.re (v':=.agg (pg x0)) (ag isAgg50 sizeOf50 rfl A1 hcs hmo trivial (ni ar iP rfl)) (va (np ar iP rfl))) R2|exact X.val rfl rfl (RV.re (v':=.agg (pg x0)) (ag isAgg50 sizeOf50 rfl A2 hcs hmo trivial (ni ar iP rfl)) (va (np ar iP rfl))) R2|exact X.val rfl rfl (RV.re (v':=.slice s.la s.cs.length s.lc) (aa isAgg24 rfl A1 aR aY trivial rfl) (rfl)) R2|exact X.val rfl rfl (RV.re (v':=.slice s.la s.cs.length s.lc) (aa isAgg24 rfl A2 aR aY trivial rfl) (rfl)) R2)):P:=h
theorem JN (h:P:=by intro cv L' H' hd hP;(rcases cv with _|⟨v1,_|⟨_,_⟩⟩<;>try exact False.elim hP);all_goals(first|obtain⟨rfl,rfl⟩:=hP|obtain⟨bm,wm,rfl,rfl,rfl,jb,JO,pb⟩:=hP);all_goals(first|exact X.val rfl rfl (aP (i:=0) rfl isAgg57 sizeOf57 rfl rfl) R2|exact X.val rfl rfl (aa isAgg3 rfl A2 aC ay zL rfl) R2|exact X.val rfl rfl (aa isAgg3 rfl A3 aC ay zL rfl) R2|exact X.val rfl rfl (af isAgg84 sizeOf84 rfl A2 aC ay zL rfl) R2|exact X.val rfl rfl (af isAgg84 sizeOf84 rfl A3 aC ay zL rfl) R2|exact X.val rfl rfl (ag isAgg36 sizeOf36 rfl A2 aC ay zL (aV rfl)) R2|exact X.val rfl rfl (ag isAgg36 sizeOf36 rfl A3 aC ay zL (aV rfl)) R2)):P:=h
theorem Yl (h:P:=by intro cv L' H' hl hd hP;(obtain⟨x4,x5,x6,rfl⟩:=fM hl;rcases x4 with _|v4<;>rcases x5 with _|v5<;>rcases x6 with _|v6<;>try exact False.elim hP);all_goals(first|obtain⟨rfl,rfl⟩:=hP|obtain⟨b4,rfl,rfl,rfl,rz,sQ⟩:=hP|obtain⟨b5,rfl,rfl,rfl,ry,sP⟩:=hP|obtain⟨b4,b5,rfl,rfl,rfl,rfl,rz,sQ,ry,sP⟩:=hP|obtain⟨q,wr,rfl,rfl,rfl,og,lE,mZ⟩:=hP|obtain⟨q,wr,b4,rfl,rfl,rfl,rfl,og,lE,mZ,rz,sQ,Hx⟩:=hP|obtain⟨q,wr,b5,rfl,rfl,rfl,rfl,og,lE,mZ,ry,sP,Hw⟩:=hP|obtain⟨q,wr,b4,b5,rfl,rfl,rfl,rfl,rfl,og,lE,mZ,rz,sQ,ry,sP,Hx,Hw⟩:=hP);all_goals(first|exact X.val rfl rfl (ag isAgg84 sizeOf84 rfl A1 aR aY trivial (aV rfl)) R2|exact X.val rfl rfl (ag isAgg84 sizeOf84 rfl A1 aR aY zL (aV rfl)) R2|exact X.val rfl rfl (ag isAgg84 sizeOf84 rfl A2 aR aY trivial (aV rfl)) R2|exact X.val rfl rfl (ag isAgg84 sizeOf84 rfl A2 aR aY zL (aV rfl)) R2|exact nf call24 rfl rfl (λW9 hS _=>nmc hZ lk hlk W9 (hg.up (λk hk=>hS.ro A1 (λ_ h=>h.elim) z7 (.inl zM) zM))) (λ_=>rfl)|exact nf call24 rfl rfl (λW9 hS _=>nmc hZ lk hlk W9 (hg.up (λk hk=>hS.ro A2 (λ_ h=>h.elim) z7 (.inl zM) zM))) (λ_=>rfl)|exact X.val rfl rfl (ag isAgg81 sizeOf81 rfl A1 aH aF trivial (aV rfl)) R2|exact X.val rfl rfl (ag isAgg81 sizeOf81 rfl A1 aH aF zL (aV rfl)) R2|exact X.val rfl rfl (ag isAgg81 sizeOf81 rfl A2 aH aF trivial (aV rfl)) R2|exact X.val rfl rfl (ag isAgg81 sizeOf81 rfl A2 aH aF zL (aV rfl)) R2)):P:=h
theorem zcK (h:P:=by intro cv L' H' hl hd hP;(obtain⟨x7,x8,x9,eW,ir,rfl⟩:=eZ hl;rcases x7 with _|v7<;>rcases x8 with _|v8<;>rcases x9 with _|v9<;>rcases eW with _|v10<;>rcases ir with _|v11<;>try exact False.elim hP);all_goals(first|obtain⟨rfl,rfl⟩:=hP|obtain⟨a1,c1,a2,c2,ds,wg,rfl,rfl,rfl,rfl,rfl,rfl,rfl,eN,eQ,du⟩:=hP|obtain⟨a1,c1,a2,c2,ds,wg,rfl,rfl,rfl,rfl,rfl,rfl,eN,eQ,du⟩:=hP|obtain⟨a1,c1,a2,c2,ds,wg,rfl,rfl,rfl,rfl,rfl,eN,eQ,du⟩:=hP|obtain⟨a1,c1,a2,c2,ds,wg,rfl,rfl,rfl,rfl,eN,eQ,du⟩:=hP|obtain⟨a1,c1,a2,c2,ds,wg,rfl,rfl,rfl,eN,eQ,du⟩:=hP);all_goals(first|exact X.val rfl rfl (RV.re (v':=.slice (some ⟨bf,of,none⟩) s.fos.length s.fc) (aa isAgg22 rfl A3 aC ay trivial rfl) JG) R2|exact X.val rfl rfl (RV.re (v':=.slice (some ⟨bf,of,none⟩) s.fos.length s.fc) (aa isAgg22 rfl A4 aC ay trivial rfl) JG) R2|exact X.val rfl rfl (RV.re (v':=.agg (pg x)) (ag isAgg50 sizeOf50 rfl A4 Cy zX trivial (ni sR hx rfl)) (va (np sR hx rfl))) R2|exact X.val rfl rfl (RV.re (v':=.agg (pg x)) (ag isAgg50 sizeOf50 rfl A5 Cy zX trivial (ni sR hx rfl)) (va (np sR hx rfl))) R2|exact X.val rfl rfl (RV.re (v':=.slice s.la s.cs.length s.lc) (aa isAgg24 rfl A3 aC ay trivial rfl) rfl) R2|exact X.val rfl rfl (RV.re (v':=.slice s.la s.cs.length s.lc) (aa isAgg24 rfl A4 aC ay trivial rfl) rfl) R2)):P:=h
structure ZW (Q:Prop):Prop where
  p:Q
inductive Ct:Nat->Prop where
  |mk (n:Nat):Ct n
theorem Ct.dec {n:Nat} (_:Ct (n+1)):Ct n:=.mk n
theorem Ct.fin {P:Prop} (_:Ct 0) (h:P):P:=h
theorem B (n:Nat) (k:Q) (h:Ct n->ZW Q->P:=by intro Cz Kz;(repeat(replace Cz:=Ct.dec Cz;(first|(first|(with_reducible refine PJ.next ?_)|(with_reducible refine OJ.done ?_)|(with_reducible refine CJ.seq ?_)|(with_reducible refine CJ.region ?_)|(with_reducible refine CJ.ret ?_)|(with_reducible refine PJ.retThen ?_)|(with_reducible refine CJ.skip ?_))|(first|(with_reducible refine PJ.exThen ?_)|(with_reducible refine CJ.block ?_)|(with_reducible refine PJ.norBlock ?_)|(with_reducible refine PJ.retBlock ?_)|(with_reducible refine PJ.exHit ?_)|(with_reducible refine CJ.exit ?_)|refine rvA rfl rfl rfl ?_)|(first|refine OJ.off rfl zQ rfl ?_|((with_reducible refine CJ.condT ?_ ?_);· exact rfl)|((with_reducible refine CJ.condF ?_ ?_);· exact rfl)|refine UU rfl rfl rfl ?_))));exact Cz.fin Kz.p):P:=h (.mk n) ⟨k⟩
theorem aK {R:Prop} (k:Q) (l:R) (h:ZW Q->ZW R->P:=by intro Kz Kw;(refine CJ.cond rfl (λhc=>?_) (λhc=>?_)<;>(try simp only[decide_eq_true_eq,decide_eq_false_iff_not,Bool.not_eq_true',Bool.not_eq_false']at hc)<;>revert hc);exact Kz.p;exact Kw.p):P:=h ⟨k⟩ ⟨l⟩
theorem Tf (k:Q) (h:ZW Q->P:=by intro Kz;refine B 6 ?_;refine rr (.agg (aX G)) (af isAgg57 sizeOf57 rfl A1 aH aF zL rfl) ?_;refine call call144 rfl rfl rfl (λW hS=>by rw[<-hv];exact nW G N W (aS hN (hS.links w A2).size) (hG.up (ao _) (hS.same A2 hN zU zP))) (v:=.bool true) ?_;refine rr (.bool false) (dI rfl) ?_;refine B 8 ?_;refine rr (.agg (dY c)) (af isAgg99 sizeOf99 rfl A0 aC ay zL rfl) ?_;refine call call145 rfl rfl rfl (λW hS=>by rw[<-je];exact ntb c dD.few N W (aS hN (hS.links w A2).size) (hC.up (ao _) (hS.same A2 hN zU zP))) (v:=.int .i64 0) ?_;refine B 6 ?_;refine rr (.bool false) (cy rfl rfl) ?_;refine B 12 ?_;refine rq (.bool false) (cy rfl rfl) (vb YP) ?_;refine B 6 ?_;refine rq (.bool false) (cy rfl rfl) (vb YP) ?_;refine B 3 ?_;refine rv rfl rfl rfl (ag isAgg34 sizeOf34 rfl A0 aC ay zL (aV rfl)) ?_;refine B 1 ?_;refine rv rfl rfl rfl (ag isAgg34 sizeOf34 rfl A1 aH aF zL (aV rfl)) ?_;refine rq (.bool false) (jM ui zQ nQ rfl rfl rfl) (congrArg (λq=>Value.bool (!q)) h3) ?_;refine B 8 ?_;refine rr (.agg (aX G)) (af isAgg57 sizeOf57 rfl A1 aH aF zL rfl) ?_;refine B 4 ?_;refine vx (enc:=su) (m:=4) (t:=164) (xs:=(gI G.g c.author c.chs)) (v:=λs=>.tuple #[s,.int .i64 0]) (first:=[]) (cap:=[]) rfl call146 rfl rfl rfl Xh (λW hS=>by rw[<-dc];exact nRb G N W (aS hN (hS.links w A2).size) (hG.up (ao _) (hS.same A2 hN zU zP)) c.chs zM c.ca c.cc (hC.chs.up (ao _) (hS.same A2 hN zU zP)) c.author pF) ?_;exact Kz.p):P:=h ⟨k⟩
theorem tW (k:Q) (h:ZW Q->P:=by intro Kz;refine rq (.bool false) (mR rfl rfl) (vb (decide_eq_false zM)) ?_;exact Kz.p):P:=h ⟨k⟩
theorem I4 (k:Q) (h:ZW Q->P:=by intro Kz;refine B 14 ?_;refine CJ.loop (α:=Nat) (λj=>[(0,.slice a xs.length cp),(1,.func (.func f) #[] cap.toArray),(7,.int .i64 (xs.length:Int)),(8,.int .i64 (j:Int))]) (λj=>[]) (λj=>[w]) (λj=>Gh.no) (λj=>j<=xs.length/\fw p xs j) (λj=>xs.length-j) 0 ⟨cZ _,λi x hi=>absurd hi zM⟩ zR rfl rfl z1 ?_;exact Kz.p):P:=h ⟨k⟩
theorem Ym (k:Q) (h:ZW Q->P:=by intro Kz;refine nu (α:=Nat×Nat×Nat) (v:=λq=>.slice (some ⟨q.1,0,none⟩) 2 2) (Φ:=λWr q w1=>Wr.heap.size<=q.1/\Wr.heap.size<=q.2.1/\Wr.heap.size<=q.2.2/\w1.heap[q.1]? =some (.cells #[.func (.func 79) #[] #[],.func (.func 80) #[] #[ptr q.2.1 0,ptr q.2.2 0]] 128 (0,0))/\w1.heap[q.2.1]? =some (.cells #[.bool (db Z s.lks lk).isSome] 4 (0,0))/\w1.heap[q.2.2]? =some (.cells (lkC ((db Z s.lks lk).getD kH)) 84 (0,0))) call39 rfl rfl rfl (λW9 hS=>nTd hZ s ho N W9 (aS hN (hS.links W A1).size) (hs.up (ao _) (λk hk=>hS.ro A1 (λ_ h=>h.elim) z7 (.inl hk) zM)) lk (hg.up (λk hk=>hS.ro A1 (λ_ h=>h.elim) z7 (.inl zM) zM))) ?_;exact Kz.p):P:=h ⟨k⟩
theorem zDe (k:Q) (h:ZW Q->P:=by intro Kz;refine rr (.agg (lkC l)) (af isAgg84 sizeOf84 rfl A0 dm eb trivial rfl) ?_;refine call call26 rfl rfl rfl (λW hS=>by have h9:=nI l W;rwa[hv]at h9) (v:=.bool true) ?_;refine B 11 ?_;refine rr (.int .i64 l.by_) (aa isAgg3 rfl A0 dm eb trivial rfl) ?_;refine rq (.bool false) (cy rfl rfl) (vb Ni) ?_;refine B 7 ?_;refine rr (.agg (gw s)) (af isAgg81 sizeOf81 rfl A1 aC ay trivial rfl) ?_;refine rr (.agg (lkC l)) (af isAgg84 sizeOf84 rfl A0 dm eb trivial rfl) ?_;exact Kz.p):P:=h ⟨k⟩
theorem mx (k:Q) (h:ZW Q->P:=by intro Kz;refine PJ.dropAt (i:=0) rfl zZ ?_;exact Kz.p):P:=h ⟨k⟩
theorem zFe (k:Q) (h:ZW Q->P:=by intro Kz;refine B 17 ?_;refine ng (E':=[(0,_),(1,_),(2,_),(3,_),(4,_),(5,_),(6,_),(7,_),(8,_),(9,_),(13,_),(14,_),(15,_),(17,_),(18,_),(19,_),(20,_),(23,_),(24,_),(25,_),(26,_),(27,_),(28,_),(29,_),(30,_),(31,_),(32,_),(33,_),(34,_),(35,_),(36,_),(37,_),(38,_),(39,_),(40,_),(41,_),(42,_),(44,_),(45,_),(46,_),(47,_),(48,_),(49,_),(50,_),(51,_),(52,_),(53,_),(54,_)]) zR ?_;exact Kz.p):P:=h ⟨k⟩
theorem De (k:Q) (h:ZW Q->P:=by intro Kz;refine rq (.bool true) (dH rfl rfl) (vb (decide_eq_true zM)) ?_;exact Kz.p):P:=h ⟨k⟩
theorem zHe (k:Q) (h:ZW Q->P:=by intro Kz;refine rv rfl rfl rfl (lv rfl rfl) ?_;refine B 2 ?_;refine rv rfl rfl rfl (iF rfl rfl) ?_;refine rq (.int .u64 (r0:Int)) (qR rfl rfl) (vu zGb) ?_;exact Kz.p):P:=h ⟨k⟩
theorem DF (k:Q) (h:ZW Q->P:=by intro Kz;refine rq (.bool true) (mR rfl rfl) (vb (decide_eq_true zM)) ?_;exact Kz.p):P:=h ⟨k⟩
theorem zJe (k:Q) (h:ZW Q->P:=by intro Kz;refine rv rfl rfl rfl (qS rfl rfl zM zM) ?_;refine rq (.int .u64 ((r1%y1:Nat):Int)) (mH rfl rfl zM zM) (vu (noh _ _ _ _ d2.eq)) ?_;refine B 5 ?_;refine CJ.loop (α:=Nat×Nat) (λp=>[(2,.int .u64 (Y:Int)),(8,.int .u64 (s:Int)),(9,.int .u64 (y1:Int)),(10,.int .u64 (y0:Int)),(17,.int .u64 (r1:Int)),(14,.int .u64 (v0:Int)),(15,.int .u64 (q1:Int)),(18,.int .u64 (p.1:Int)),(16,.int .u64 (p.2:Int))]) (λp=>[]) (λp=>[w]) (λp=>Gh.no) (λp=>pz r1 y1 y0 v0 p.1 p.2) (λp=>p.1) (r1/y1,r1%y1) d2 zR rfl rfl z1 ?_;exact Kz.p):P:=h ⟨k⟩
theorem Iu (k:Q) (h:ZW Q->P:=by intro Kz;refine rq (.bool false) (pV rfl rfl) (vb (decide_eq_false zM)) ?_;exact Kz.p):P:=h ⟨k⟩
theorem zLe (k:Q) (h:ZW Q->P:=by intro Kz;refine ng (E':=[(0,_),(1,_),(2,_),(3,_),(4,_),(5,_),(6,_),(7,_),(8,_),(9,_),(13,_),(14,_),(15,_),(17,_),(18,_),(19,_),(20,_),(23,_),(24,_),(25,_),(26,_),(27,_),(28,_),(29,_),(30,_),(31,_),(32,_),(33,_),(34,_),(35,_),(36,_),(37,_),(38,_),(39,_),(40,_),(41,_),(42,_),(44,_),(45,_),(46,_),(47,_),(48,_),(49,_),(50,_),(51,_),(52,_),(53,_),(54,_),(57,_),(58,_),(59,_),(60,_),(61,_),(62,_),(63,_),(64,_),(65,_),(66,_),(67,_),(68,_),(69,_),(70,_),(71,_),(72,_),(73,_),(74,_)]) zR ?_;exact Kz.p):P:=h ⟨k⟩
theorem zMe (k:Q) (h:ZW Q->P:=by intro Kz;refine ng (E':=[(0,_),(1,_),(2,_),(3,_),(4,_),(5,_),(6,_),(7,_),(8,_),(9,_),(10,_),(11,_),(12,_),(13,_),(14,_),(15,_),(16,_),(17,_),(18,_),(19,_),(20,_),(21,_),(22,_),(23,_),(24,_),(25,_),(26,_),(27,_),(28,_),(29,_),(30,_),(31,_),(32,_),(33,_),(34,_),(35,_),(36,_),(37,_),(38,_),(39,_),(40,_)]) zR ?_;exact Kz.p):P:=h ⟨k⟩
theorem zNe (k:Q) (h:ZW Q->P:=by intro Kz;refine rq (.int .u64 ((r0/2^s:Nat):Int)) (iG rfl rfl zM) (vu (nvc r0 s zM)) ?_;exact Kz.p):P:=h ⟨k⟩
theorem zOe (k:Q) (h:ZW Q->P:=by intro Kz;refine rq (.int .u64 ((r+y1:Nat):Int)) (CL rfl rfl zM zM) (vu zM) ?_;refine B 9 ?_;exact Kz.p):P:=h ⟨k⟩
theorem Wf (k:Q) (h:ZW Q->P:=by intro Kz;refine rv rfl rfl rfl (bS underlying149 zeroValue149 (bC.c sizeOf3 (bC.c sizeOf3 (bC.c sizeOf9 (bC.c sizeOf146 (bC.n))))) rfl rfl) ?_;exact Kz.p):P:=h ⟨k⟩
theorem Jm (k:Q) (h:ZW Q->P:=by intro Kz;refine aZ (i:=0) rfl sizeOf57 rfl rfl rfl rfl rfl rfl ?_;exact Kz.p):P:=h ⟨k⟩
theorem vo (k:Q) (h:ZW Q->P:=by intro Kz;refine k9 underlying44 sizeOf3 zeroValue3 rfl rfl rfl rfl rfl rfl rfl ?_;exact Kz.p):P:=h ⟨k⟩
theorem PG (k:Q) (h:ZW Q->P:=by intro Kz;refine ng (E':=[(3,_),(6,_),(7,_),(8,_),(15,_),(16,_),(17,_),(18,_),(19,_),(20,_),(21,_),(22,_),(23,_),(24,_),(25,_),(26,_),(27,_)]) zR ?_;exact Kz.p):P:=h ⟨k⟩
theorem zTe (k:Q) (h:ZW Q->P:=by intro Kz;refine rq (.int .u64 ((q-1:Nat):Int)) (mH rfl rfl zM zM) (vu zM) ?_;exact Kz.p):P:=h ⟨k⟩
theorem zUe (k:Q) (h:ZW Q->P:=by intro Kz;refine ng (E':=[(0,_),(1,_),(2,_),(3,_),(4,_),(5,_),(6,_),(7,_),(8,_),(9,_),(13,_),(14,_),(15,_),(17,_),(18,_),(19,_),(20,_),(23,_),(24,_),(25,_),(26,_),(27,_),(28,_),(29,_),(30,_),(31,_),(32,_),(33,_),(34,_),(35,_),(36,_),(37,_),(38,_),(39,_),(40,_),(41,_),(42,_),(44,_),(45,_),(46,_),(47,_),(48,_),(49,_),(50,_),(51,_),(52,_),(53,_),(54,_),(57,_),(58,_),(59,_),(60,_),(61,_),(62,_),(63,_),(64,_),(65,_),(66,_),(67,_),(68,_),(69,_),(70,_),(71,_),(72,_),(73,_),(74,_),(76,_),(77,_),(78,_),(79,_),(80,_),(81,_),(82,_),(83,_),(84,_),(85,_),(86,_),(87,_),(89,_),(90,_),(91,_),(92,_),(93,_),(94,_),(95,_)]) zR ?_;exact Kz.p):P:=h ⟨k⟩
theorem zVe (k:Q) (h:ZW Q->P:=by intro Kz;refine vx (enc:=lV) (m:=5) (t:=233) (xs:=ig c.author c.chs) (v:=id) (first:=[]) (cap:=[]) rfl call151 rfl rfl rfl AB (λW hS=>nFc c.author c.chs zM N c.ca c.cc W (aS hN (hS.links w A3).size) (hC.chs.up (ao _) (hS.same A3 hN zU zP))) ?_;exact Kz.p):P:=h ⟨k⟩
theorem zWe (k:Q) (h:ZW Q->P:=by intro Kz;refine ng (E':=[(0,_),(1,_),(2,_),(3,_),(4,_),(5,_),(6,_),(7,_),(8,_),(9,_),(13,_),(14,_),(15,_),(17,_),(18,_),(19,_),(20,_),(23,_),(24,_),(25,_),(26,_),(27,_),(28,_),(29,_),(30,_),(31,_),(32,_),(33,_),(34,_),(35,_),(36,_),(37,_),(38,_),(39,_),(40,_),(41,_),(42,_),(44,_),(45,_),(46,_),(47,_),(48,_),(49,_),(50,_),(51,_),(52,_),(53,_),(54,_),(57,_),(58,_),(59,_),(60,_),(61,_),(62,_),(63,_),(64,_),(65,_),(66,_),(67,_),(68,_),(69,_),(70,_),(71,_),(72,_),(73,_),(74,_),(76,_),(77,_),(78,_),(79,_),(80,_),(81,_),(82,_),(83,_),(84,_),(85,_),(86,_),(87,_)]) zR ?_;exact Kz.p):P:=h ⟨k⟩
theorem zXe (k:Q) (h:ZW Q->P:=by intro Kz;refine vx (enc:=ai) (m:=1) (t:=3) (xs:=dh G.g.ns) (v:=id) (first:=[]) (cap:=[]) rfl call205 rfl rfl rfl nr (λW hS=>n5b G.g.ns hn N G.na G.nc W (aS hN (hS.links w A1).size) (hG.ns.up (ao _) (hS.same A1 hN zU trivial))) ?_;exact Kz.p):P:=h ⟨k⟩
theorem zYe (k:Q) (h:ZW Q->P:=by intro Kz;refine nH (f:=f) (cap:=cap) rfl az rfl rfl rfl (λW hS=>hp j x hx W ((hS.links w A0).below Ll)) ?_;exact Kz.p):P:=h ⟨k⟩
theorem zZe (k:Q) (h:ZW Q->P:=by intro Kz;refine rr (.agg (gw s)) (aP (i:=0) rfl isAgg81 sizeOf81 rfl rfl) ?_;refine rr (.agg (lkC lk)) (af isAgg38 sizeOf38 rfl A0 eg eP zL rfl) ?_;refine rr (.agg (lkC lk)) (bS underlying84 zeroValue84 (bC.c sizeOf38 (bC.n)) rfl rfl) ?_;exact Kz.p):P:=h ⟨k⟩
theorem LV (k:Q) (h:ZW Q->P:=by intro Kz;refine rr (.agg (aX G)) (af isAgg57 sizeOf57 rfl A0 aC ay zL rfl) ?_;exact Kz.p):P:=h ⟨k⟩
theorem z1e (k:Q) (h:ZW Q->P:=by intro Kz;refine nu (α:=Nat) (v:=λb:Nat=>.slice (some ⟨b,0,none⟩) 32 32) (Φ:=λ(W:World) (b:Nat) (w1:World)=>W.heap.size<=b/\w1.heap[b]? =some (.cells (dg (mX Z c)) 34 (0,0))) call153 rfl rfl rfl (λW hS=>nmd hZ c dD N W (aS hN (hS.links w A4).size) (hC.up (ao _) (hS.same A4 hN zU zP)) (hg.old hS A4 zU zP)) ?_;exact Kz.p):P:=h ⟨k⟩
theorem z2e (k:Q) (h:ZW Q->P:=by intro Kz;refine call call150 rfl rfl rfl (λW hS=>by have h9:=nwd c.wes zM W.heap.size c.wa c.wc W (ao _) (hC.wes.up (aS hN (hS.links w A4).size) (hS.same A4 hN zU zP)) (ig c.author c.chs) aw cw (pS.to hS A0 (ao _) (λb off e=>.inr zgc));rw[show jS Pj c.wes (ig c.author c.chs)=true from hw]at h9;exact h9) (v:=.bool true) ?_;exact Kz.p):P:=h ⟨k⟩
theorem z3e (k:Q) (h:ZW Q->P:=by intro Kz;refine call call157 rfl rfl rfl (λW hS=>nCc (Gb G.g (hQ G.g.ms au) au) 254 [ptr b3 0,ptr b8 0,ptr b4 0] call254 l cb N _ cp W (aS hN (hS.links w A2).size) (aJ.up (ao _) (hS.same A2 hN zU zP)) (λj x hx W2 hB=>by have h3:=(hS.links w3 A1).size;have h4:=(hS.links w4 A0).size;have h5:=(hS.links w A2).size;have h8:=hS.own (b8,_) A0;have h9:=(aM.1 h8).1;exact nLi G N W2 (by have:=hB.size;omega) (hG.up (ao _) (λk hk=>by rw[hB.block k zM];exact hS.same A2 hN zU zP k hk)) b3 b8 b4 _ au (by rw[hB.block b3 zM];exact hS.old A1 aC ay jN) (by rw[hB.block b8 h9];exact h8) (by rw[hB.block b4 zM];exact hS.old A0 dm eb jN) x)) ?_;exact Kz.p):P:=h ⟨k⟩
theorem Lr (k:Q) (h:ZW Q->P:=by intro Kz;refine ng (E':=[(1,_),(3,_),(10,_),(11,_),(39,_),(40,_),(41,_),(42,_),(43,_),(44,_),(45,_)]) zR ?_;exact Kz.p):P:=h ⟨k⟩
theorem z5e (k:Q) (h:ZW Q->P:=by intro Kz;refine nH (f:=f) (cap:=cap) rfl az rfl rfl rfl (λW hS=>hp j x hx W ((hS.links w A0).mono (λk _ hk=>by rcases hk with hk|hk;(exact hk);(simp only[eE,iD,dz,fj,cP,fG,or_false]at hk;first|exact hk|(rcases hk with hk|hk;(exfalso;omega);exact hk)))) (by have:=hS.lt (b,_) A1;exact this)) ?_;exact Kz.p):P:=h ⟨k⟩
theorem IG (k:Q) (h:ZW Q->P:=by intro Kz;refine k9 underlying146 sizeOf149 zeroValue149 rfl rfl rfl rfl rfl rfl rfl ?_;exact Kz.p):P:=h ⟨k⟩
theorem Fl (k:Q) (h:ZW Q->P:=by intro Kz;refine rr (.bool true) (cy rfl rfl) ?_;exact Kz.p):P:=h ⟨k⟩
theorem V9 (k:Q) (h:ZW Q->P:=by intro Kz;refine rq (.bool true) (sT rfl rfl) (vb (decide_eq_true zM)) ?_;exact Kz.p):P:=h ⟨k⟩
theorem OF (k:Q) (h:ZW Q->P:=by intro Kz;refine rq (.bool true) (pV rfl rfl) (vb (decide_eq_true zM)) ?_;exact Kz.p):P:=h ⟨k⟩
theorem zaf (k:Q) (h:ZW Q->P:=by intro Kz;refine rr (.agg #[.slice a ns.length cp]) (af isAgg55 sizeOf55 rfl A0 aC ay zL rfl) ?_;exact Kz.p):P:=h ⟨k⟩
theorem zbf (k:Q) (h:ZW Q->P:=by intro Kz;refine CJ.loop (α:=Mp×Nat) (λp=>[(6,.map (some bf)),(7,.slice ap (cH d).length lS),(12,.func (.func 262) #[.map (some bf)] #[]),(53,.slice ap (cH d).length lS),(54,.int .i64 ((cH d).length:Int)),(55,.int .i64 (p.2:Int))]) (λp=>[(bf,p.1.obj (Value.int .i64) (((cH d).take p.2).foldl iO (iO (cY ns) (512+d))))]) (λp=>[wp,w3,w]) (λp=>Gh.no) (λp=>p.2<=(cH d).length/\p.1.Ok (((cH d).take p.2).foldl iO (iO (cY ns) (512+d)))) (λp=>(cH d).length-p.2) (m1,0) ⟨cZ _,aY⟩ zR rfl rfl z1 ?_;exact Kz.p):P:=h ⟨k⟩
theorem zcf (k:Q) (h:ZW Q->P:=by intro Kz;refine rr (.agg (lkC lk)) (af isAgg38 sizeOf38 rfl A0 eg eP trivial rfl) ?_;refine nu (α:=Option Addr×Nat) (v:=λq=>.slice q.1 (fA Z s lk).length q.2) (Φ:=λW q w1=>ah (λx=>(eH x).toArray) 32 w1.heap.size w1 q.1 (fA Z s lk)/\(∀p,q.1=some p->W.heap.size<=p.block)/\(fA Z s lk).length<=20000) call8 rfl rfl rfl (λW hS=>nNg hZ s ho N W (aS hN (hS.links w A2).size) (hs.up (ao _) (hS.same A2 hN zU trivial)) lk hlk (hg.old hS A2 zU trivial)) ?_;exact Kz.p):P:=h ⟨k⟩
theorem Yp (k:Q) (h:ZW Q->P:=by intro Kz;refine rr (.agg (rdA s)) (af isAgg31 sizeOf31 rfl A1 aC ay trivial rfl) ?_;exact Kz.p):P:=h ⟨k⟩
theorem Qg (k:Q) (h:ZW Q->P:=by intro Kz;refine rq (.bool false) (dH rfl rfl) (vb (decide_eq_false zM)) ?_;exact Kz.p):P:=h ⟨k⟩
theorem EA (k:Q) (h:ZW Q->P:=by intro Kz;refine EK underlying44 sizeOf3 zeroValue3 rfl rfl rfl rfl rfl rfl rfl ?_;exact Kz.p):P:=h ⟨k⟩
theorem zgf (k:Q) (h:ZW Q->P:=by intro Kz;refine call call201 rfl rfl rfl (λW hS=>by rw[<-fJ];exact nLb ns hn N a cp W (aS hN (hS.links w A1).size) (aJ.up (ao _) (hS.same A1 hN zU z7))) (v:=.int .i64 0) ?_;exact Kz.p):P:=h ⟨k⟩
theorem OZ (k:Q) (h:ZW Q->P:=by intro Kz;refine rq (.bool false) (pW rfl rfl) (vb (decide_eq_false zM)) ?_;exact Kz.p):P:=h ⟨k⟩
theorem zif (k:Q) (h:ZW Q->P:=by intro Kz;refine rr (.agg (lkC lk)) (af isAgg38 sizeOf38 rfl A1 eg eP trivial rfl) ?_;refine nu (α:=Option Addr×Nat) (v:=λq=>.slice q.1 (fC s.pls lk.fo).length q.2) (Φ:=λ_ q w1=>ah encI 1 w1.heap.size w1 q.1 (fC s.pls lk.fo)) call10 rfl rfl rfl (λW hS=>(nFi s.pls (by have:=ho.pl;omega) s.pa s.pc lk N W (aS hN (hS.links w A3).size) (hs.pl.up (ao _) (hS.same A3 hN zU trivial))).mono λe W2 ⟨q,h1,h2,h3,_⟩=>⟨q,h1,h2,h3⟩) ?_;exact Kz.p):P:=h ⟨k⟩
theorem zjf (k:Q) (h:ZW Q->P:=by intro Kz;refine bJ (.inl rfl) results16 (RS.wA (i:=0) rfl isAgg59 sizeOf59 rfl (aV rfl) (RS.t rfl (RS.n))) A2 zS ?_;exact Kz.p):P:=h ⟨k⟩
theorem zkf (k:Q) (h:ZW Q->P:=by intro Kz;refine O7 (enc:=fH) (m:=2) (t:=355) (xs:=(bF T c.author c.path)) (v:=λs=>.tuple #[.agg #[s],.int .i64 e]) (first:=[]) (cap:=[]) rfl call154 rfl rfl rfl (λW hS=>by rw[<-XH];exact nug T zM W.heap.size ta tc W (ao _) (oF.to hS A0 (ao _) (λb off e=>by rcases fJ b off e with h|h|h;(exact .inl h);(exact .inr XG);(exact .inr XG))) c.author pF c.path ku zM N c.pa c.pc (hC.path.up (ao _) (hS.same A6 hN zU zP)) (aS hN (hS.links w A6).size) hpl zM) ?_;exact Kz.p):P:=h ⟨k⟩
theorem zlf (k:Q) (h:ZW Q->P:=by intro Kz;refine ng (E':=[(0,_),(1,_),(2,_),(3,_),(4,_),(5,_),(6,_)]) zR ?_;exact Kz.p):P:=h ⟨k⟩
theorem zmf (k:Q) (h:ZW Q->P:=by intro Kz;refine rv rfl rfl rfl (gq (h:=64) underlying64 sizeOf5 rfl ⟨_,_,rfl,rfl⟩ zM) ?_;refine Oy (f:=237) (i:=1) (first:=[ptr b3 0]) (cap:=[]) rfl rfl call237 rfl rfl rfl (λW hS hW=>n8d (oP n m (j+k)) (λi=>tV n m (64*(j+k)+i)) b3 pD o2 64 _ _ _ tT t3 (cf 128 (mK n m j N)) zM zM W hW (hS.own _ A0) (λi hi=>by rw[Ip 128 _ (64*k+i) _ (by have:=cX zM;omega) zM,nQk n m j N _ zM hNN zM zM];congr 3;omega) zM (hS.old A0 hg zX qf) zM) ?_;exact Kz.p):P:=h ⟨k⟩
theorem znf (k:Q) (h:ZW Q->P:=by intro Kz;refine ax results26 rfl A1 ?_;refine vb ?_;exact Kz.p):P:=h ⟨k⟩
theorem zof (k:Q) (h:ZW Q->P:=by intro Kz;refine rr (.agg #[.slice a ns.length cp]) (af isAgg55 sizeOf55 rfl A0 aC ay trivial rfl) ?_;exact Kz.p):P:=h ⟨k⟩
theorem zpf (k:Q) (h:ZW Q->P:=by intro Kz;refine ng (E':=[(1,_),(3,_),(5,_),(7,_),(8,_),(9,_),(10,_),(11,_),(12,_),(14,_),(15,_),(64,_),(65,_),(66,_),(67,_),(68,_),(69,_),(70,_),(71,_),(72,_),(73,_),(74,_),(75,_),(76,_),(77,_)]) zR ?_;exact Kz.p):P:=h ⟨k⟩
theorem zqf (k:Q) (h:ZW Q->P:=by intro Kz;refine rr (.agg (lkC l)) (bS underlying84 zeroValue84 (bC.c sizeOf38 (bC.n)) rfl rfl) ?_;exact Kz.p):P:=h ⟨k⟩
theorem zrf (k:Q) (h:ZW Q->P:=by intro Kz;refine call call94 rfl rfl rfl (λW hS=>nbd hinv.1 hinv.2.1 zM b9 m hm x.fol hxk.2.2.1.1 W (hS.own (b9,_) A2)) (v:=.int .i64 (rl (gN (cQ l) j) x.fol)) ?_;exact Kz.p):P:=h ⟨k⟩
theorem zsf (k:Q) (h:ZW Q->P:=by intro Kz;refine nu (α:=Gv) (v:=λXn=>.tuple #[.agg (aX Xn),.int .i64 e]) (Φ:=λW Xn w1=>Xn.g=tu Z (g0 fo) c/\aL w1.heap.size w1 Xn/\(∀q,Xn.ma=some q->W.heap.size<=q.block)/\(∀q,Xn.na=some q->W.heap.size<=q.block)) call101 rfl rfl rfl (λW hS=>by rw[<-he];exact nKe hZ (TS fo) c (dD c hcm) N W (aS hN (hS.links w A2).size) (MS fo N W) ((hC c hcm).up (ao _) (hS.same A2 hN zU zP)) (hg.old hS A2 zU zP)) ?_;exact Kz.p):P:=h ⟨k⟩
theorem ztf (k:Q) (h:ZW Q->P:=by intro Kz;refine call (v:=.tuple #[.agg (lkC p),.bool true]) call36 rfl rfl rfl (λW hS=>by have h9:=nNc hZ s ho N W (aS hN (hS.links w A2).size) (hs.up (ao _) (hS.same A2 hN zU trivial)) l (hg.old hS A2 zU trivial);rwa[hp]at h9) ?_;exact Kz.p):P:=h ⟨k⟩
theorem zuf (k:Q) (h:ZW Q->P:=by intro Kz;refine rq (.agg (oE x)) (ag isAgg210 sizeOf210 rfl A0 hcs zX trivial (ni ar hx rfl)) (va (np ar hx rfl)) ?_;exact Kz.p):P:=h ⟨k⟩
theorem zvf (k:Q) (h:ZW Q->P:=by intro Kz;refine ng (E':=[(1,_),(2,_),(3,_),(4,_),(5,_),(7,_),(8,_),(9,_),(17,_),(18,_),(19,_),(20,_),(21,_),(22,_),(23,_),(24,_),(25,_),(26,_),(27,_),(28,_),(29,_),(30,_),(31,_)]) zR ?_;exact Kz.p):P:=h ⟨k⟩
theorem zwf (k:Q) (h:ZW Q->P:=by intro Kz;refine nu (α:=Option Addr×Nat) (v:=λq=>.agg #[.slice q.1 T.length q.2]) (Φ:=λW q w1=>ah gh 2 w1.heap.size w1 q.1 T/\∀b off,q.1=some ⟨b,off,none⟩->T=[]\/b<N\/W.heap.size<=b) call155 rfl rfl rfl (λW hS=>by rw[<-hT];exact nvd G N W (aS hN (hS.links w A5).size) (hG.up (ao _) (hS.same A5 hN zU zP)) c.chs zM c.ca c.cc (hC.chs.up (ao _) (hS.same A5 hN zU zP)) ua O9) ?_;exact Kz.p):P:=h ⟨k⟩
theorem zxf (k:Q) (h:ZW Q->P:=by intro Kz;refine rv rfl rfl rfl (qe underlying336 isAgg229 sizeOf229 rfl rfl zM zM (S8.cells_ld _ i _ zM zM)) ?_;refine B 10 ?_;refine rq (.slice (some ⟨b2,4*i,none⟩) 4 (32-4*i)) (yP (l:=4*i) (h:=4*i+4) (off':=4*i) underlying34 sizeOf5 rfl ⟨_,_,rfl,by omega⟩ ⟨_,_,rfl,by omega⟩ zM zM (by rw[if_neg zM];omega)) (by rw[show 4*i+4-4*i=4 by omega]) ?_;exact Kz.p):P:=h ⟨k⟩
theorem Qe (k:Q) (h:ZW Q->P:=by intro Kz;refine rv rfl rfl rfl (HM underlying202 underlying5 rfl zM zM) ?_;exact Kz.p):P:=h ⟨k⟩
theorem VW (k:Q) (h:ZW Q->P:=by intro Kz;refine aZ (i:=0) rfl sizeOf149 rfl rfl rfl rfl rfl rfl ?_;exact Kz.p):P:=h ⟨k⟩
theorem zAf (k:Q) (h:ZW Q->P:=by intro Kz;refine n9c (G2:=cj hM V2 (hX V2)) (Hc2:=jP ms) (c:=.ret) bj fK ⟨(λj h=>h.imp id (λh=>vD j (DT j h))),(λj h=>h.elim (λh=>.inl (.inl h)) (λh=>(lb j h).imp .inr id)),(λj h=>h.elim (λh=>.inl (.inl h)) (λh=>(lb j h).imp .inr id)),(λp hp=>.inl (bU.2 ⟨p,hp,rfl⟩)),(λp hp=>.inl (bU.2 ⟨p,hp,rfl⟩))⟩ (.inl ⟨rfl,rfl⟩) rfl ?_;exact Kz.p):P:=h ⟨k⟩
theorem Wx (k:Q) (h:ZW Q->P:=by intro Kz;refine aZ (i:=0) rfl sizeOf59 rfl rfl rfl rfl rfl rfl ?_;exact Kz.p):P:=h ⟨k⟩
theorem TR (k:Q) (h:ZW Q->P:=by intro Kz;refine rr (.agg (dF d)) (aP (i:=0) rfl isAgg101 sizeOf101 rfl rfl) ?_;exact Kz.p):P:=h ⟨k⟩
theorem zDf (k:Q) (h:ZW Q->P:=by intro Kz;refine bJ (.inl rfl) results145 (RS.t rfl (RS.n)) A1 zS ?_;exact Kz.p):P:=h ⟨k⟩
theorem rj (k:Q) (h:ZW Q->P:=by intro Kz;refine aU zeroValue57 rfl rfl ?_;exact Kz.p):P:=h ⟨k⟩
theorem Xd (k:Q) (h:ZW Q->P:=by intro Kz;refine ng (E':=[(0,_),(1,_),(2,_),(3,_),(4,_),(6,_),(8,_),(10,_),(11,_),(12,_),(13,_),(14,_),(15,_)]) zR ?_;exact Kz.p):P:=h ⟨k⟩
theorem rG (k:Q) (h:ZW Q->P:=by intro Kz;refine aU zeroValue34 rfl rfl ?_;exact Kz.p):P:=h ⟨k⟩
theorem zHf (k:Q) (h:ZW Q->P:=by intro Kz;refine CJ.loop (α:=Nat) (λi=>[(1,.slice s.pa s.pls.length s.pc),(3,ptr b3 0),(5,ptr b5 0),(7,.slice a7 (fA Z s lk).length c7),(8,.slice a8 (fC s.pls lk.fo).length c8),(9,.int .i64 (i:Int))]) (λi=>[]) (λi=>[w8,wq,w5,w3,w]) (λi=>Gh.no) (λi=>i<=(jv Z s lk).length) (λi=>(jv Z s lk).length-i) 0 (cZ _) zR rfl rfl z1 ?_;exact Kz.p):P:=h ⟨k⟩
theorem zIf (k:Q) (h:ZW Q->P:=by intro Kz;refine CJ.loop (α:=Nat) (λi=>[(2,ptr b2 0),(53,.agg (oP n m (eF n)).cells),(54,.int .i64 (i:Int))]) (λi=>[(pD,.cells (cf 128 (mK n m j N)) 5 (0,0)),(b3,.cells (oP n m (eF n)).cells 336 (0,0)),(b2,.cells (iJ (oP n m (eF n)) i) 34 (0,0))]) (λi=>[w]) (λi=>Gh.no) (λi=>i<=8) (λi=>8-i) 0 zQ zR rfl rfl z1 ?_;exact Kz.p):P:=h ⟨k⟩
theorem WZ (k:Q) (h:ZW Q->P:=by intro Kz;refine rr (.agg #[.slice a ns.length cp]) (af isAgg55 sizeOf55 rfl A0 aH aF trivial rfl) ?_;exact Kz.p):P:=h ⟨k⟩
theorem X6 (k:Q) (h:ZW Q->P:=by intro Kz;refine nH (v:=.bool true) (f:=122) (cap:=[]) rfl call122 rfl rfl rfl (λW hS=>T6 h1 W) ?_;exact Kz.p):P:=h ⟨k⟩
theorem zLf (k:Q) (h:ZW Q->P:=by intro Kz;refine enter (vs:=[_,_]) func101 rfl ntmps101 rfl ?_;exact Kz.p):P:=h ⟨k⟩
theorem JB (k:Q) (h:ZW Q->P:=by intro Kz;refine aZ (i:=0) rfl sizeOf135 rfl rfl rfl rfl rfl rfl ?_;exact Kz.p):P:=h ⟨k⟩
theorem zNf (k:Q) (h:ZW Q->P:=by intro Kz;refine Ye (i:=0) (γ:=Mp) (v:=λ_=>.tuple #[]) (ob:=λm=>m.obj (Value.int .i64) (gH (((cH d).take i).foldl iO (iO (cY ns) (512+d))) n)) (Φ:=λm=>m.Ok (gH (((cH d).take i).foldl iO (iO (cY ns) (512+d))) n)) (first:=[.map (some bf)]) (cap:=[]) rfl rfl call262 rfl rfl rfl (λW hS hW=>nXd bf mi uy n W hW) ?_;exact Kz.p):P:=h ⟨k⟩
theorem zOf (k:Q) (h:ZW Q->P:=by intro Kz;refine nTg (ev:=(Value.int .i64)) (kv:=cY ns) (v:=id) call261 rfl rfl rfl (λW hS=>njg ns hn N a cp W (aS hN (hS.links w A1).size) (aJ.up (ao _) (hS.same A1 hN zU z7))) ?_;exact Kz.p):P:=h ⟨k⟩
theorem IH (k:Q) (h:ZW Q->P:=by intro Kz;refine aZ (i:=0) rfl sizeOf84 rfl rfl rfl rfl rfl rfl ?_;exact Kz.p):P:=h ⟨k⟩
theorem zQf (k:Q) (h:ZW Q->P:=by intro Kz;refine bJ (.inl rfl) results201 (RS.t rfl (RS.n)) A2 zS ?_;exact Kz.p):P:=h ⟨k⟩
theorem zRf (k:Q) (h:ZW Q->P:=by intro Kz;refine nu (α:=Nat×Nat) (v:=λq=>.func (.func 128) #[] #[ptr q.1 0,ptr q.2 0]) (Φ:=λW q w1=>W.heap.size<=q.1/\W.heap.size<=q.2/\q.1≠q.2/\w1.heap[q.1]? =some (.cells #[.map (some mb)] 132 (0,0))/\w1.heap[q.2]? =some (.cells #[.int .i64 f] 3 (0,0))) call95 rfl rfl rfl (λW hS=>nKg (some mb) f W) ?_;exact Kz.p):P:=h ⟨k⟩
theorem zSf (k:Q) (h:ZW Q->P:=by intro Kz;refine vx (enc:=ai) (m:=1) (t:=3) (xs:=cH d) (v:=λs=>.tuple #[s,.int .i64 0]) (first:=[]) (cap:=[]) rfl call253 rfl rfl rfl nr (λW hS=>nNf d hd W) ?_;exact Kz.p):P:=h ⟨k⟩
theorem zTf (k:Q) (h:ZW Q->P:=by intro Kz;refine call call78 rfl rfl rfl (λW hS=>by have h9:=OY hZ (lh G.g c.author c.chs) c.sr c.ss (dn (mX Z c)) bm 0 32 (by rw[Pe];decide) W (cG.dg (hS.old A0 jb zX XG) (hZ.byt _ _)) (hg.old hS A5 zU zP);rw[Pe,show kq Z (lh G.g c.author c.chs) (dn (mX Z c)) c.sr c.ss=true from oV]at h9;exact h9) (v:=.bool true) ?_;exact Kz.p):P:=h ⟨k⟩
theorem zUf (k:Q) (h:ZW Q->P:=by intro Kz;refine nu (α:=Nat) (v:=λb:Nat=>.slice (some ⟨b,0,none⟩) 11 11) (Φ:=λ(W:World) (b:Nat) (w1:World)=>W.heap.size<=b/\ef w1.heap.size w1 (.list (lZ c)) (vL (some ⟨b,0,none⟩) 11 11)) call99 rfl rfl rfl (λW hS=>nUe c dD.few N W (aS hN (hS.links w A1).size) (hC.up (ao _) (hS.same A1 hN zU zP))) ?_;exact Kz.p):P:=h ⟨k⟩
theorem zVf (k:Q) (h:ZW Q->P:=by intro Kz;refine rr (.agg (gw s)) (af isAgg81 sizeOf81 rfl A1 aC ay zL rfl) ?_;refine rr (.agg (lkC l)) (af isAgg84 sizeOf84 rfl A0 dm eb zL rfl) ?_;refine rr (.agg (lkC p)) (aP (i:=0) rfl isAgg84 sizeOf84 rfl rfl) ?_;exact Kz.p):P:=h ⟨k⟩
theorem zWf (k:Q) (h:ZW Q->P:=by intro Kz;refine Aa (enc:=ai) (m:=1) (t:=3) (xs:=(bD s.pls l.fo)) (v:=id) (first:=[]) (cap:=[]) rfl call21 rfl rfl rfl (λW hS=>n6d s.pls ho.pl N s.pa s.pc W (aS hN (hS.links w A2).size) (hs.pl.up (ao _) (hS.same A2 hN zU (by first|exact True.intro|(simp only[dX,dE,Over,and_true];omega)))) l.fo) ?_;exact Kz.p):P:=h ⟨k⟩
theorem Xm (k:Q) (h:ZW Q->P:=by intro Kz;refine ng (E':=[(1,_),(7,_),(8,_),(97,_),(98,_),(99,_),(100,_),(101,_),(102,_),(103,_)]) zR ?_;exact Kz.p):P:=h ⟨k⟩
theorem zYf (k:Q) (h:ZW Q->P:=by intro Kz;refine call call144 rfl rfl rfl (λW hS=>by rw[<-hv];exact nW G N W (aS hN (hS.links w A1).size) (hG.up (ao _) (hS.same A1 hN zU zP))) (v:=.bool true) ?_;exact Kz.p):P:=h ⟨k⟩
theorem zZf (k:Q) (h:ZW Q->P:=by intro Kz;refine call call206 rfl rfl rfl (λW hS=>n1e (O8 G.g.epoch) 202 [ptr b1 0] call202 G.g.ms q4 N G.ma G.mc W (aS hN (hS.links w A2).size) (hG.ms.up (ao _) (hS.same A2 hN zU zP)) (λj x hx W2 hB=>nBn G b1 x W2 (by have:=(hS.links w1 A1).size;rw[hB.block b1 zM];exact hS.old A1 aR aY trivial))) ?_;exact Kz.p):P:=h ⟨k⟩
theorem z0f (k:Q) (h:ZW Q->P:=by intro Kz;refine aZ (i:=0) rfl sizeOf373 rfl rfl rfl rfl rfl rfl ?_;exact Kz.p):P:=h ⟨k⟩
theorem LN (k:Q) (h:ZW Q->P:=by intro Kz;refine aZ (i:=0) rfl sizeOf233 rfl rfl rfl rfl rfl rfl ?_;exact Kz.p):P:=h ⟨k⟩
theorem MR (k:Q) (h:ZW Q->P:=by intro Kz;refine aZ (i:=0) rfl sizeOf101 rfl rfl rfl rfl rfl rfl ?_;exact Kz.p):P:=h ⟨k⟩
theorem z3f (k:Q) (h:ZW Q->P:=by intro Kz;refine bJ (.inl rfl) results231 (RS.t rfl (RS.t rfl (RS.n))) A1 zS ?_;exact Kz.p):P:=h ⟨k⟩
theorem z4f (k:Q) (h:ZW Q->P:=by intro Kz;refine nUi (ev:=(Value.int .i64)) (kv:=lT (cY ns) d) (enc:=ai) (n:=1) (ds:=cH d) (v:=λmp s=>.tuple #[mp,s,.int .i64 0]) call218 rfl rfl rfl (λW hS=>n7e ns hn N a cp W (aS hN (hS.links w A1).size) (aJ.up (ao _) (hS.same A1 hN zU z7)) fJ d hd false (λh=>by cases h)) ?_;exact Kz.p):P:=h ⟨k⟩
theorem R9 (k:Q) (h:ZW Q->P:=by intro Kz;refine aZ (i:=0) rfl sizeOf55 rfl rfl rfl rfl rfl rfl ?_;exact Kz.p):P:=h ⟨k⟩
theorem z6f (k:Q) (h:ZW Q->P:=by intro Kz;refine PJ.reH (H':=[(pD,.cells (cf 128 (mK n m j N)) 5 (0,0)),(b3,.cells (oP n m (eF n)).cells 336 (0,0)),(b2,.cells (iJ (oP n m (eF n)) 8) 34 (0,0))]) rfl ?_;refine bJ (.inl rfl) results170 (RS.wA (i:=2) rfl isAgg34 sizeOf34 rfl (by rw[iJ,yQ];omega) RS.n) A0 Du ?_;exact Kz.p):P:=h ⟨k⟩
theorem z7f (k:Q) (h:ZW Q->P:=by intro Kz;refine nUi (ev:=(Value.int .i64)) (kv:=lT (cY ns) d) (enc:=ai) (n:=1) (ds:=cH d) (v:=λmp s=>.tuple #[mp,s,.int .i64 0]) call218 rfl rfl rfl (λW hS=>n7e ns hn N a cp W (aS hN (hS.links w A1).size) (aJ.up (ao _) (hS.same A1 hN zU z7)) fJ d hd true (λ_=>jO)) ?_;exact Kz.p):P:=h ⟨k⟩
theorem z8f (k:Q) (h:ZW Q->P:=by intro Kz;refine rq (.int .u64 ((8*n:Nat):Int)) (qS rfl rfl zM zM) (vu zM) ?_;refine Oy (f:=238) (i:=0) (first:=[]) (cap:=[]) rfl rfl call238 rfl rfl rfl (λW hS hW=>nhe (8*n) pD _ 8 _ _ _ zM (by rw[n7d,yQ];omega) W hW) ?_;exact Kz.p):P:=h ⟨k⟩
theorem z9f (k:Q) (h:ZW Q->P:=by intro Kz;refine ng (E':=[(1,_),(3,_),(5,_),(7,_),(8,_),(9,_),(10,_),(11,_),(16,_),(103,_),(104,_),(105,_),(106,_),(107,_)]) zR ?_;exact Kz.p):P:=h ⟨k⟩
theorem wW (k:Q) (h:ZW Q->P:=by intro Kz;refine aU zeroValue55 rfl rfl ?_;exact Kz.p):P:=h ⟨k⟩
theorem zbg (k:Q) (h:ZW Q->P:=by intro Kz;refine Ye (i:=0) (γ:=Mp) (v:=λ_=>.tuple #[]) (ob:=λm=>m.obj (Value.int .i64) (gH (cY ns) (512+d))) (Φ:=λm=>m.Ok (gH (cY ns) (512+d))) (first:=[.map (some bf)]) (cap:=[]) rfl rfl call262 rfl rfl rfl (λW hS hW=>nXd bf m hm (512+d) W hW) ?_;exact Kz.p):P:=h ⟨k⟩
theorem zcg (k:Q) (h:ZW Q->P:=by intro Kz;refine enter (vs:=[_,_,_]) func19 rfl ntmps19 rfl ?_;exact Kz.p):P:=h ⟨k⟩
theorem zdg (k:Q) (h:ZW Q->P:=by intro Kz;refine nH (v:=.bool true) (f:=122) (cap:=[]) rfl call122 rfl rfl rfl (λW hS=>T6 h2 W) ?_;exact Kz.p):P:=h ⟨k⟩
theorem zeg (k:Q) (h:ZW Q->P:=by intro Kz;refine rr (.agg (gw s)) (bS underlying81 zeroValue81 (bC.c sizeOf31 (bC.c sizeOf32 (bC.n))) rfl rfl) ?_;exact Kz.p):P:=h ⟨k⟩
theorem zfg (k:Q) (h:ZW Q->P:=by intro Kz;refine rq (.int .u64 ((r1/y1:Nat):Int)) (tH rfl rfl zM zM zM) (vu (Vu r1 y1)) ?_;exact Kz.p):P:=h ⟨k⟩
theorem zgg (k:Q) (h:ZW Q->P:=by intro Kz;refine DM (G2:=cj hM V1 (hI (yd++ys) V1)) (Hc2:=jP ms) bj fK ⟨(λj h=>h.imp id (λh=>DT j h)),(λ_ h=>.inl h),(λ_ h=>.inl h),(λp hp=>.inl (bU.2 ⟨p,hp,rfl⟩)),(λp hp=>.inl (bU.2 ⟨p,hp,rfl⟩))⟩ (DN jX ov) ?_;exact Kz.p):P:=h ⟨k⟩
theorem QH (k:Q) (h:ZW Q->P:=by intro Kz;refine rv rfl rfl rfl (kT (h:=32) underlying34 sizeOf5 rfl rfl zM) ?_;exact Kz.p):P:=h ⟨k⟩
theorem zjg (k:Q) (h:ZW Q->P:=by intro Kz;refine rr (.agg II) (bS underlying81 zeroValue81 (bC.c sizeOf31 (bC.c sizeOf32 (bC.n))) rfl rfl) ?_;exact Kz.p):P:=h ⟨k⟩
theorem zkg (k:Q) (h:ZW Q->P:=by intro Kz;refine nu (α:=Nat) (v:=λb=>.slice (some ⟨b,0,none⟩) 32 32) (Φ:=λW b w1=>W.heap.size<=b/\w1.heap[b]? =some (.cells (dg (fe Z lk)) 34 (0,0))) call28 rfl rfl rfl (λW hS=>Wl hZ lk hlk W (hg.old hS A4 (λk hk=>Eb k zM) zDc)) ?_;exact Kz.p):P:=h ⟨k⟩
theorem Oo (k:Q) (h:ZW Q->P:=by intro Kz;refine rv rfl rfl rfl (gp 32 4294967296 zQ rfl rfl rfl) ?_;exact Kz.p):P:=h ⟨k⟩
theorem zmg (k:Q) (h:ZW Q->P:=by intro Kz;refine rr (.agg (aX (⟨⟨G.g.folder,c.epoch,aQ Z c,[],[]⟩,none,0,none,0⟩:Gv))) (bS underlying57 zeroValue57 (bC.c sizeOf3 (bC.c sizeOf3 (bC.c sizeOf34 (bC.c sizeOf52 (bC.c sizeOf55 (bC.n)))))) rfl rfl) ?_;exact Kz.p):P:=h ⟨k⟩
theorem Qa (k:Q) (h:ZW Q->P:=by intro Kz;refine rv rfl rfl rfl (CL rfl rfl zM zM) ?_;exact Kz.p):P:=h ⟨k⟩
theorem WD (k:Q) (h:ZW Q->P:=by intro Kz;refine call call63 rfl rfl rfl (λW hS=>by rw[<-he];exact nL _ W) (v:=.int .i64 e) ?_;exact Kz.p):P:=h ⟨k⟩
theorem zpg (k:Q) (h:ZW Q->P:=by intro Kz;refine call call208 rfl rfl rfl (λW hS=>nRc l cb N a cp W (aS hN (hS.links w A1).size) (aJ.up (ao _) (hS.same A1 hN zU zP))) ?_;exact Kz.p):P:=h ⟨k⟩
theorem zqg (k:Q) (h:ZW Q->P:=by intro Kz;refine Aa (enc:=ai) (m:=1) (t:=3) (xs:=(dA (nw s.pls) l.fo)) (v:=id) (first:=[]) (cap:=[]) rfl call77 rfl rfl rfl (λW hS=>nwg s.pls ho.pl N s.pa s.pc W (aS hN (hS.links w A3).size) (hs.pl.up (ao _) (hS.same A3 hN zU trivial)) l.fo) ?_;exact Kz.p):P:=h ⟨k⟩
theorem OH (k:Q) (h:ZW Q->P:=by intro Kz;refine aZ (i:=0) rfl sizeOf34 rfl rfl rfl rfl rfl rfl ?_;exact Kz.p):P:=h ⟨k⟩
theorem zsg (k:Q) (h:ZW Q->P:=by intro Kz;refine nu (α:=Nat) (v:=λb=>.slice (some ⟨b,0,none⟩) 32 32) (Φ:=λW b w1=>W.heap.size<=b/\w1.heap[b]? =some (.cells (dg (rT Z f)) 34 (0,0))) call31 rfl rfl rfl (λW hS=>nAd hZ f hf.by_ hf.n W (hg.old hS A2 zU trivial)) ?_;exact Kz.p):P:=h ⟨k⟩
theorem D2 (k:Q) (h:ZW Q->P:=by intro Kz;refine OX.done ?_;refine PX.next ?_;exact Kz.p):P:=h ⟨k⟩
theorem zug (k:Q) (h:ZW Q->P:=by intro Kz;refine CJ.loop (α:=Nat) (λj=>[(0,yv l),(1,ptr b 0),(3,.int .i64 ((cK n:Int)-1-(j:Int)))]) (λj=>[]) (λj=>[W]) (λj=>Dg hM (hI ((pA n).take j))) (λj=>j<=cK n) (λj=>cK n-j) 0 (cZ _) zR rfl rfl z1 ?_;exact Kz.p):P:=h ⟨k⟩
theorem zvg (k:Q) (h:ZW Q->P:=by intro Kz;refine call call108 rfl rfl rfl (λW hS=>by rw[<-jk];exact nJj hZ s hs0 (V.list l).enc zM kW 0 wC ug.le W (cG.row (hS.own _ A0)) (hg.old hS A0 zU zP)) (v:=.agg (dg df)) ?_;refine aZ (i:=1) rfl sizeOf34 rfl rfl rfl rfl rfl rfl ?_;exact Kz.p):P:=h ⟨k⟩
theorem OR (k:Q) (h:ZW Q->P:=by intro Kz;refine aZ (i:=0) rfl sizeOf4 rfl rfl rfl rfl rfl rfl ?_;exact Kz.p):P:=h ⟨k⟩
theorem y9 (k:Q) (h:ZW Q->P:=by intro Kz;refine aU zeroValue149 rfl rfl ?_;exact Kz.p):P:=h ⟨k⟩
theorem zyg (k:Q) (h:ZW Q->P:=by intro Kz;refine rr (.agg #[.slice a ns.length cp]) (af isAgg55 sizeOf55 rfl A0 aH aF zL rfl) ?_;exact Kz.p):P:=h ⟨k⟩
theorem zzg (k:Q) (h:ZW Q->P:=by intro Kz;refine enter (vs:=[_,_,_]) func37 rfl ntmps37 rfl ?_;exact Kz.p):P:=h ⟨k⟩
theorem zAg (k:Q) (h:ZW Q->P:=by intro Kz;refine rr (.agg (wrA x.w)) (de (i:=0) rfl isAgg162 sizeOf162 rfl (aV rfl)) ?_;exact Kz.p):P:=h ⟨k⟩
theorem zBg (k:Q) (h:ZW Q->P:=by intro Kz;refine rq (.bool false) (sT rfl rfl) (vb (decide_eq_false zM)) ?_;exact Kz.p):P:=h ⟨k⟩
theorem zCg (k:Q) (h:ZW Q->P:=by intro Kz;refine PJ.reH (H':=[(pD,.cells (cf 128 (mK n m j N)) 5 (0,0)),(b3,.cells (oP n m (eF n)).cells 336 (0,0)),(b2,.cells (iJ (oP n m (eF n)) (i+1)) 34 (0,0))]) (by rw[<-nhk _ i zM];rfl) ?_;exact Kz.p):P:=h ⟨k⟩
theorem zDg (k:Q) (h:ZW Q->P:=by intro Kz;refine rq (.int .u64 (r1:Int)) (qR rfl rfl) (vu zGb) ?_;exact Kz.p):P:=h ⟨k⟩
theorem zEg (k:Q) (h:ZW Q->P:=by intro Kz;refine call (v:=.bool true) call7 rfl rfl rfl (λW hS=>by have h9:=nsj s (λc hc=>(hin.cm c hc).lim) N W (aS hN (hS.links w A2).size) (hs.up (ao _) (hS.same A2 hN zU trivial));rwa[hf]at h9) ?_;exact Kz.p):P:=h ⟨k⟩
theorem zFg (k:Q) (h:ZW Q->P:=by intro Kz;refine bJ (.inl rfl) results210 (RS.t rfl (RS.n)) A2 zS ?_;exact Kz.p):P:=h ⟨k⟩
theorem Ju (k:Q) (h:ZW Q->P:=by intro Kz;refine CX.seq ?_;refine CX.region ?_;exact Kz.p):P:=h ⟨k⟩
theorem zHg (k:Q) (h:ZW Q->P:=by intro Kz;refine ng (E':=[(2,_),(3,_),(4,_),(5,_),(6,_),(8,_),(9,_),(12,_),(13,_),(14,_),(15,_),(16,_),(17,_),(18,_),(19,_),(20,_),(21,_),(22,_),(23,_),(24,_),(25,_)]) zR ?_;exact Kz.p):P:=h ⟨k⟩
theorem zIg (k:Q) (h:ZW Q->P:=by intro Kz;refine rq (ptr b4 j) (kU underlying375 sizeOf229 rfl rfl zM zM) (congrArg (ptr b4) zM) ?_;refine kS (i:=0) rfl sizeOf229 rfl rfl rfl rfl (by rw[yQ];omega) rfl ?_;exact Kz.p):P:=h ⟨k⟩
theorem zJg (k:Q) (h:ZW Q->P:=by intro Kz;refine n7i (ys:=(V.list l).enc) call107 rfl rfl rfl (λW hS=>nQe l bZ hd gU N (some ⟨bl,0,none⟩) lc W (aS hN (hS.links _ A0).size) (ef.up (ao _) (hS.same A0 hN zU zP) _ _ tb)) ?_;exact Kz.p):P:=h ⟨k⟩
theorem zKg (k:Q) (h:ZW Q->P:=by intro Kz;refine rq (.bool ((aE (vy (dh ns)) x.at_).getD false)) (qw (ev:=Value.bool) underlying351 underlying3 zeroValue4 hm (bL.own (i:=1) rfl) rfl rfl) (nEj _) ?_;exact Kz.p):P:=h ⟨k⟩
theorem zLg (k:Q) (h:ZW Q->P:=by intro Kz;refine Oy (f:=238) (i:=2) (first:=[]) (cap:=[]) rfl rfl call238 rfl rfl rfl (λW hS hW=>nhe (S8.at (oP n m (eF n)) i).toNat b2 (4*i) _ _ _ _ zM (by rw[iJ,yQ];omega) W hW) ?_;exact Kz.p):P:=h ⟨k⟩
theorem zMg (k:Q) (h:ZW Q->P:=by intro Kz;refine rv rfl rfl rfl (gp 8 256 zQ rfl rfl rfl) ?_;refine B 13 ?_;exact Kz.p):P:=h ⟨k⟩
theorem zNg (k:Q) (h:ZW Q->P:=by intro Kz;refine rv rfl rfl rfl (qS rfl rfl zM (by have:=Vv zM;omega)) ?_;exact Kz.p):P:=h ⟨k⟩
theorem zOg (k:Q) (h:ZW Q->P:=by intro Kz;refine nH (v:=.bool true) (f:=122) (cap:=[]) rfl call122 rfl rfl rfl (λW hS=>T6 h3 W) ?_;exact Kz.p):P:=h ⟨k⟩
theorem VF (k:Q) (h:ZW Q->P:=by intro Kz;refine ax results63 rfl A0 ?_;refine vi ?_;exact Kz.p):P:=h ⟨k⟩
theorem zQg (k:Q) (h:ZW Q->P:=by intro Kz;refine call (v:=.bool true) call6 rfl rfl rfl (λW hS=>n3f hZ W (hg.old hS A2 zU trivial)) ?_;exact Kz.p):P:=h ⟨k⟩
theorem Xi (k:Q) (h:ZW Q->P:=by intro Kz;refine rr (.bool true) (dI rfl) ?_;exact Kz.p):P:=h ⟨k⟩
theorem zSg (k:Q) (h:ZW Q->P:=by intro Kz;refine call call201 rfl rfl rfl (λW hS=>by rw[<-fJ];exact nLb ns hn N a cp W (aS hN (hS.links w A1).size) (aJ.up (ao _) (hS.same A1 hN zU z7))) (v:=.int .i64 210) ?_;exact Kz.p):P:=h ⟨k⟩
theorem zTg (k:Q) (h:ZW Q->P:=by intro Kz;refine call call210 rfl rfl rfl (λW hS=>nLe G N W (aS hN (hS.links w A1).size) (hG.up (ao _) (hS.same A1 hN zU zP)) l cb a cp (aJ.up (ao _) (hS.same A1 hN zU zP)) au) ?_;exact Kz.p):P:=h ⟨k⟩
theorem zUg (k:Q) (h:ZW Q->P:=by intro Kz;refine rq (.bool true) (cy rfl rfl) (vb YP) ?_;exact Kz.p):P:=h ⟨k⟩
theorem zVg (k:Q) (h:ZW Q->P:=by intro Kz;refine nTg (ev:=jt) (kv:=(nw l)) (v:=id) call46 rfl rfl rfl (λW hS=>n0g l cb N a cp W (aS hN (hS.links w A0).size) (aJ.up (ao _) (hS.same A0 hN zU trivial))) ?_;exact Kz.p):P:=h ⟨k⟩
theorem VL (k:Q) (h:ZW Q->P:=by intro Kz;refine kS (i:=0) rfl sizeOf3 rfl rfl rfl rfl (aV rfl) rfl ?_;exact Kz.p):P:=h ⟨k⟩
theorem X8 (k:Q) (h:ZW Q->P:=by intro Kz;refine ng (E':=[(0,_),(1,_),(2,_),(3,_),(4,_)]) zR ?_;exact Kz.p):P:=h ⟨k⟩
theorem zYg (k:Q) (h:ZW Q->P:=by intro Kz;refine rv rfl rfl rfl (aP (i:=2) rfl isAgg34 sizeOf34 rfl (by rw[iJ,yQ])) ?_;refine aZ (i:=2) rfl sizeOf34 rfl rfl rfl zhe (by rw[iJ,yQ]) rfl ?_;exact Kz.p):P:=h ⟨k⟩
theorem VC (k:Q) (h:ZW Q->P:=by intro Kz;refine aZ (i:=0) rfl sizeOf202 rfl rfl rfl rfl rfl rfl ?_;exact Kz.p):P:=h ⟨k⟩
theorem z0g (k:Q) (h:ZW Q->P:=by intro Kz;refine B 2 ?_;refine rv rfl rfl rfl (iF rfl rfl) ?_;refine B 1 ?_;refine rv rfl rfl rfl (lv rfl rfl) ?_;refine B 1 ?_;refine rv rfl rfl rfl (iF rfl rfl) ?_;refine B 1 ?_;refine zHe ?_;refine B 1 ?_;refine zNe ?_;refine B 5 ?_;exact Kz.p):P:=h ⟨k⟩
theorem xT (k:Q) (h:ZW Q->P:=by intro Kz;refine rr (.bool false) (cy rfl rfl) ?_;exact Kz.p):P:=h ⟨k⟩
theorem z2g (k:Q) (h:ZW Q->P:=by intro Kz;refine B 6 ?_;refine rr (.agg (aX G)) (af isAgg57 sizeOf57 rfl A1 aH aF zL rfl) ?_;refine call call144 rfl rfl rfl (λW hS=>by rw[<-hv];exact nW G N W (aS hN (hS.links w A2).size) (hG.up (ao _) (hS.same A2 hN zU zP))) (v:=.bool true) ?_;refine rr (.bool false) (dI rfl) ?_;refine B 8 ?_;refine rr (.agg (dY c)) (af isAgg99 sizeOf99 rfl A0 aC ay zL rfl) ?_;exact Kz.p):P:=h ⟨k⟩
theorem z3g (k:Q) (h:ZW Q->P:=by intro Kz;refine z0f ?_;refine B 7 ?_;refine tW ?_;refine B 3 ?_;refine Iu ?_;refine B 18 ?_;refine DF ?_;refine B 11 ?_;refine z3f ?_;exact Kz.p):P:=h ⟨k⟩
theorem XA (k:Q) (h:ZW Q->P:=by intro Kz;refine rq (.bool false) (cy rfl rfl) (vb YP) ?_;exact Kz.p):P:=h ⟨k⟩
theorem RG (k:Q) (h:ZW Q->P:=by intro Kz;refine rr (.agg (lkC l)) (af isAgg84 sizeOf84 rfl A0 dm eb trivial rfl) ?_;exact Kz.p):P:=h ⟨k⟩
theorem FI (k:Q) (h:ZW Q->P:=by intro Kz;refine mx ?_;refine mx ?_;exact Kz.p):P:=h ⟨k⟩
theorem Oq (k:Q) (h:ZW Q->P:=by intro Kz;refine rv rfl rfl rfl (qS rfl rfl zM zM) ?_;exact Kz.p):P:=h ⟨k⟩
theorem Xz (k:Q) (h:ZW Q->P:=by intro Kz;refine B 12 ?_;refine call call97 rfl rfl rfl (λW hS=>YT 0 zQ zQ W) ?_;exact Kz.p):P:=h ⟨k⟩
theorem z9g (k:Q) (h:ZW Q->P:=by intro Kz;refine rq (.int .i64 ((cK n:Int)-1-(0:Nat))) (gT rfl rfl zM zM) (vi (by rw[Vz];omega)) ?_;refine B 4 ?_;refine zug ?_;exact Kz.p):P:=h ⟨k⟩
theorem zah (k:Q) (h:ZW Q->P:=by intro Kz;refine call call145 rfl rfl rfl (λW hS=>by rw[<-je];exact ntb c dD.few N W (aS hN (hS.links w A2).size) (hC.up (ao _) (hS.same A2 hN zU zP))) (v:=.int .i64 0) ?_;exact Kz.p):P:=h ⟨k⟩
theorem zbh (k:Q) (h:ZW Q->P:=by intro Kz;refine B 9 ?_;refine rv rfl rfl rfl (hJ (ev:=(Value.int .i64)) underlying319 underlying3 zeroValue3 hm (bL.own (i:=0) rfl) rfl rfl) ?_;refine B 10 ?_;exact Kz.p):P:=h ⟨k⟩
theorem Xl (k:Q) (h:ZW Q->P:=by intro Kz;refine aZ (i:=0) rfl sizeOf164 rfl rfl rfl rfl rfl rfl ?_;exact Kz.p):P:=h ⟨k⟩
theorem zeh (k:Q) (h:ZW Q->P:=by intro Kz;refine aZ (i:=0) rfl sizeOf81 rfl rfl rfl rfl rfl rfl ?_;exact Kz.p):P:=h ⟨k⟩
theorem WA (k:Q) (h:ZW Q->P:=by intro Kz;refine aZ (i:=0) rfl sizeOf38 rfl rfl rfl rfl rfl rfl ?_;exact Kz.p):P:=h ⟨k⟩
theorem V7 (k:Q) (h:ZW Q->P:=by intro Kz;refine aZ (i:=0) rfl sizeOf36 rfl rfl rfl rfl rfl rfl ?_;exact Kz.p):P:=h ⟨k⟩
theorem zhh (k:Q) (h:ZW Q->P:=by intro Kz;refine bJ (.inl rfl) results208 (RS.t rfl (RS.n)) A0 zS ?_;exact Kz.p):P:=h ⟨k⟩
theorem Xp (k:Q) (h:ZW Q->P:=by intro Kz;refine call call140 rfl rfl rfl (λW hS=>SQ _ _ _ W) ?_;exact Kz.p):P:=h ⟨k⟩
theorem Yk (k:Q) (h:ZW Q->P:=by intro Kz;refine bJ (.inl rfl) results19 (RS.t rfl (RS.n)) A2 zS ?_;exact Kz.p):P:=h ⟨k⟩
theorem ZC (k:Q) (h:ZW Q->P:=by intro Kz;refine aU zeroValue373 rfl rfl ?_;exact Kz.p):P:=h ⟨k⟩
theorem LM (k:Q) (h:ZW Q->P:=by intro Kz;refine aU zeroValue233 rfl rfl ?_;exact Kz.p):P:=h ⟨k⟩
theorem MW (k:Q) (h:ZW Q->P:=by intro Kz;refine aU zeroValue135 rfl rfl ?_;exact Kz.p):P:=h ⟨k⟩
theorem znh (k:Q) (h:ZW Q->P:=by intro Kz;refine O7 (enc:=fH) (m:=2) (t:=355) (xs:=[]) (v:=λs=>.agg #[s]) (first:=[]) (cap:=[]) rfl call220 rfl rfl rfl (λW hS=>nIf W) ?_;exact Kz.p):P:=h ⟨k⟩
theorem zoh (k:Q) (h:ZW Q->P:=by intro Kz;refine rv rfl rfl rfl (aa (v:=.int .i64 n) isAgg3 rfl A0 sd zX jN zqd) ?_;exact Kz.p):P:=h ⟨k⟩
theorem zph (k:Q) (h:ZW Q->P:=by intro Kz;refine call call218 rfl rfl rfl (λW hS=>n4j ns hn N a cp W (aS hN (hS.links w A1).size) (aJ.up (ao _) (hS.same A1 hN zU z7)) fJ d hd fm) ?_;exact Kz.p):P:=h ⟨k⟩
theorem Rx (k:Q) (h:ZW Q->P:=by intro Kz;refine aU zeroValue84 rfl rfl ?_;exact Kz.p):P:=h ⟨k⟩
theorem zrh (k:Q) (h:ZW Q->P:=by intro Kz;refine call call218 rfl rfl rfl (λW hS=>nkg ns hn N a cp W (aS hN (hS.links w A1).size) (aJ.up (ao _) (hS.same A1 hN zU z7)) fJ d true) ?_;exact Kz.p):P:=h ⟨k⟩
theorem Z6 (k:Q) (h:ZW Q->P:=by intro Kz;refine EK underlying146 sizeOf149 zeroValue149 rfl rfl rfl rfl rfl rfl rfl ?_;exact Kz.p):P:=h ⟨k⟩
theorem zth (k:Q) (h:ZW Q->P:=by intro Kz;refine rr (.agg (ekC DG)) (bS underlying76 zeroValue76 (bC.c sizeOf34 (bC.c sizeOf61 (bC.n))) rfl rfl) ?_;exact Kz.p):P:=h ⟨k⟩
theorem zuh (k:Q) (h:ZW Q->P:=by intro Kz;refine k9 underlying46 sizeOf57 zeroValue57 rfl rfl rfl rfl rfl rfl rfl ?_;exact Kz.p):P:=h ⟨k⟩
theorem zvh (k:Q) (h:ZW Q->P:=by intro Kz;refine k9 underlying41 sizeOf34 zeroValue34 rfl rfl rfl rfl rfl rfl rfl ?_;exact Kz.p):P:=h ⟨k⟩
theorem zwh (k:Q) (h:ZW Q->P:=by intro Kz;refine rq (.slice (some ⟨bf,of,none⟩) s.fos.length s.fc) (aa isAgg22 rfl A4 aC ay trivial rfl) (JG) ?_;exact Kz.p):P:=h ⟨k⟩
theorem zxh (k:Q) (h:ZW Q->P:=by intro Kz;refine zqf ?_;refine call call19 rfl rfl rfl (λW hS=>nOg l hE W) ?_;exact Kz.p):P:=h ⟨k⟩
theorem zyh (k:Q) (h:ZW Q->P:=by intro Kz;refine Oy (f:=179) (i:=1) (first:=[]) (cap:=[ptr b5 0]) rfl rfl call179 rfl rfl rfl (λW hS hW=>n2g _ _ _ zM zM zM zM W hW) ?_;exact Kz.p):P:=h ⟨k⟩
theorem zzh (k:Q) (h:ZW Q->P:=by intro Kz;refine call call178 rfl rfl rfl (λW hS=>nfg _ _ _ zM zM zM zM zM W) ?_;exact Kz.p):P:=h ⟨k⟩
theorem zAh (k:Q) (h:ZW Q->P:=by intro Kz;refine aZ (i:=1) rfl sizeOf55 rfl rfl rfl rfl rfl (Rw.val_one2 _ _) ?_;exact Kz.p):P:=h ⟨k⟩
theorem zBh (k:Q) (h:ZW Q->P:=by intro Kz;refine aZ (i:=0) rfl sizeOf55 rfl rfl rfl rfl rfl (Rw.val_one2 _ _) ?_;exact Kz.p):P:=h ⟨k⟩
theorem zCh (k:Q) (h:ZW Q->P:=by intro Kz;refine OJ.perm (H':=[(b5,.cells #[.slice none 0 0] 118 (0,0)),(b4,.cells (dg (λ_=>0)) 34 (0,0))]) (List.Perm.swap _ _ _) ?_;exact Kz.p):P:=h ⟨k⟩
theorem YR (k:Q) (h:ZW Q->P:=by intro Kz;refine rv rfl rfl rfl (mG 32 4294967296 zQ rfl rfl rfl rfl zM zM) ?_;exact Kz.p):P:=h ⟨k⟩
theorem zEh (k:Q) (h:ZW Q->P:=by intro Kz;refine ng (E':=[(0,_),(1,_),(2,_),(3,_),(8,_),(9,_)]) zR ?_;exact Kz.p):P:=h ⟨k⟩
theorem zFh (k:Q) (h:ZW Q->P:=by intro Kz;refine ng (E':=[(0,_),(1,_),(2,_),(3,_),(4,_),(6,_)]) zR ?_;exact Kz.p):P:=h ⟨k⟩
theorem zGh (k:Q) (h:ZW Q->P:=by intro Kz;refine ng (E':=[(0,_),(1,_),(2,_),(3,_),(4,_),(5,_),(7,_),(8,_),(9,_),(10,_),(11,_),(12,_),(13,_)]) zR ?_;exact Kz.p):P:=h ⟨k⟩
theorem Qy (k:Q) (h:ZW Q->P:=by intro Kz;refine rv rfl rfl rfl (Ob rfl rfl) ?_;exact Kz.p):P:=h ⟨k⟩
theorem Pw (k:Q) (h:ZW Q->P:=by intro Kz;refine aU zeroValue101 rfl rfl ?_;exact Kz.p):P:=h ⟨k⟩
theorem zJh (k:Q) (h:ZW Q->P:=by intro Kz;refine wpIn_loop (λa W=>∃m,Inv a W m) (λa W=>PT (Inv a W)) ⟨_,x0,rfl,h0,hN,hD,hE.fits hF,hS.lessL hL⟩ ?_;exact Kz.p):P:=h ⟨k⟩
theorem zKh (k:Q) (h:ZW Q->P:=by intro Kz;refine rq (.bool (n.testBit (cK n-1-j))) (dH rfl rfl) (vb (Ke n _)) ?_;exact Kz.p):P:=h ⟨k⟩
theorem zLh (k:Q) (h:ZW Q->P:=by intro Kz;refine nN (cj hM (λ_=>False) (hI [] _)) [] (vs:=[_,_]) func302 rfl ntmps302 rfl (IP hM (hI [] _) h0 z1 I0 z1) ?_;exact Kz.p):P:=h ⟨k⟩
theorem zMh (k:Q) (h:ZW Q->P:=by intro Kz;refine ng (E':=[(0,_),(1,_),(2,_),(3,_),(4,_),(5,_),(6,_),(7,_),(8,_),(9,_),(10,_),(11,_)]) zR ?_;exact Kz.p):P:=h ⟨k⟩
theorem zNh (k:Q) (h:ZW Q->P:=by intro Kz;refine WI (L':=[Wy,wn,w7,Wb,w3,W]) z1 ?_;exact Kz.p):P:=h ⟨k⟩
theorem ZD (k:Q) (h:ZW Q->P:=by intro Kz;refine kS (i:=1) rfl sizeOf261 rfl rfl rfl rfl (aV rfl) rfl ?_;exact Kz.p):P:=h ⟨k⟩
theorem zPh (k:Q) (h:ZW Q->P:=by intro Kz;refine rr (.agg (dg (sl 1 0 0).par)) (qu underlying34 zeroValue34 sizeOf5 rfl rfl) ?_;exact Kz.p):P:=h ⟨k⟩
theorem zQh (k:Q) (h:ZW Q->P:=by intro Kz;refine rv rfl rfl rfl (il (l:=64) (h:=N-64*k) underlying64 sizeOf5 rfl ⟨_,_,rfl,rfl⟩ rfl zM zM rfl) ?_;exact Kz.p):P:=h ⟨k⟩
theorem zRh (k:Q) (h:ZW Q->P:=by intro Kz;refine rr (.agg (dg G.g.last)) (ag isAgg34 sizeOf34 rfl A0 aC ay MK (aV rfl)) ?_;exact Kz.p):P:=h ⟨k⟩
theorem ZJ (k:Q) (h:ZW Q->P:=by intro Kz;refine ng (E':=[(0,_),(1,_),(2,_),(4,_),(5,_)]) zR ?_;exact Kz.p):P:=h ⟨k⟩
theorem zTh (k:Q) (h:ZW Q->P:=by intro Kz;refine rr (.agg (dg c.par)) (de (i:=0) rfl isAgg34 sizeOf34 rfl (aV rfl)) ?_;exact Kz.p):P:=h ⟨k⟩
theorem YS (k:Q) (h:ZW Q->P:=by intro Kz;refine call call139 rfl rfl rfl (λW hS=>n1f _ zM zM W) ?_;exact Kz.p):P:=h ⟨k⟩
theorem zVh (k:Q) (h:ZW Q->P:=by intro Kz;refine aZ (i:=1) rfl sizeOf101 rfl rfl rfl rfl rfl rfl ?_;exact Kz.p):P:=h ⟨k⟩
theorem zWh (k:Q) (h:ZW Q->P:=by intro Kz;refine aZ (i:=0) rfl sizeOf355 rfl rfl rfl rfl rfl rfl ?_;exact Kz.p):P:=h ⟨k⟩
theorem zXh (k:Q) (h:ZW Q->P:=by intro Kz;refine aZ (i:=0) rfl sizeOf210 rfl rfl rfl rfl rfl rfl ?_;exact Kz.p):P:=h ⟨k⟩
theorem zYh (k:Q) (h:ZW Q->P:=by intro Kz;refine aZ (i:=0) rfl sizeOf166 rfl rfl rfl rfl rfl rfl ?_;exact Kz.p):P:=h ⟨k⟩
theorem zZh (k:Q) (h:ZW Q->P:=by intro Kz;refine bJ (.inl rfl) results15 (RS.wA (i:=2) rfl isAgg38 sizeOf38 rfl (aV rfl) (RS.t rfl (RS.n))) A2 zS ?_;exact Kz.p):P:=h ⟨k⟩
theorem z0h (k:Q) (h:ZW Q->P:=by intro Kz;refine aZ (i:=0) rfl sizeOf96 rfl rfl rfl rfl rfl rfl ?_;exact Kz.p):P:=h ⟨k⟩
theorem z1h (k:Q) (h:ZW Q->P:=by intro Kz;refine rr (.int .i64 d.c.author) (aa isAgg3 rfl A1 aR aY trivial rfl) ?_;exact Kz.p):P:=h ⟨k⟩
theorem z2h (k:Q) (h:ZW Q->P:=by intro Kz;refine rq (.bool true) (pW rfl rfl) (vb (decide_eq_true zM)) ?_;exact Kz.p):P:=h ⟨k⟩
theorem z3h (k:Q) (h:ZW Q->P:=by intro Kz;refine rr (.agg (rdA s)) (af isAgg31 sizeOf31 rfl A1 aC ay zL rfl) ?_;exact Kz.p):P:=h ⟨k⟩
theorem z4h (k:Q) (h:ZW Q->P:=by intro Kz;refine nH (v:=.int .i64 (PC x y)) (f:=92) (cap:=[]) rfl call92 rfl rfl rfl (λW hS=>nxg x y W) ?_;exact Kz.p):P:=h ⟨k⟩
theorem z5h (k:Q) (h:ZW Q->P:=by intro Kz;refine rv rfl rfl rfl (aa (v:=.int .i64 x.id) isAgg3 rfl A5 Cy zX trivial (vE sR hx rfl 0 zQ)) ?_;exact Kz.p):P:=h ⟨k⟩
theorem z6h (k:Q) (h:ZW Q->P:=by intro Kz;refine rq (.bool false) (cy rfl rfl) (vb (by simp[o8])) ?_;exact Kz.p):P:=h ⟨k⟩
theorem z7h (k:Q) (h:ZW Q->P:=by intro Kz;refine enter (vs:=[_,_,_,_]) func80 rfl ntmps80 rfl ?_;exact Kz.p):P:=h ⟨k⟩
theorem z8h (k:Q) (h:ZW Q->P:=by intro Kz;refine call call111 rfl rfl rfl (λW hS=>Y9 [a,b] _ _ _ _ _ rfl z1 W (hS.old A0 hb8 hm8 trivial)) ?_;exact Kz.p):P:=h ⟨k⟩
theorem z9h (k:Q) (h:ZW Q->P:=by intro Kz;refine IU (i:=2) (ev:=jt) (k:=x.fol) (v:=x) rfl hm underlying132 underlying3 rfl rfl rfl rfl ?_;exact Kz.p):P:=h ⟨k⟩
theorem zai (k:Q) (h:ZW Q->P:=by intro Kz;refine enter (vs:=[_,_,_]) func222 rfl ntmps222 rfl ?_;exact Kz.p):P:=h ⟨k⟩
theorem zbi (k:Q) (h:ZW Q->P:=by intro Kz;refine enter (vs:=[_,_,_]) func218 rfl ntmps218 rfl ?_;exact Kz.p):P:=h ⟨k⟩
theorem zdi (k:Q) (h:ZW Q->P:=by intro Kz;refine enter (vs:=[_,_,_]) func154 rfl ntmps154 rfl ?_;exact Kz.p):P:=h ⟨k⟩
theorem zei (k:Q) (h:ZW Q->P:=by intro Kz;refine enter (vs:=[_,_,_]) func146 rfl ntmps146 rfl ?_;exact Kz.p):P:=h ⟨k⟩
theorem YY (k:Q) (h:ZW Q->P:=by intro Kz;refine B 2 ?_;refine rv rfl rfl rfl (iF rfl rfl) ?_;refine B 1 ?_;refine rv rfl rfl rfl (lv rfl rfl) ?_;refine B 2 ?_;refine rv rfl rfl rfl (iF rfl rfl) ?_;refine zDg ?_;refine B 7 ?_;refine zfg ?_;refine B 8 ?_;refine zJe ?_;exact Kz.p):P:=h ⟨k⟩
theorem SI (k:Q) (h:ZW Q->P:=by intro Kz;refine rr (.bool false) (dI rfl) ?_;exact Kz.p):P:=h ⟨k⟩
theorem zhi (k:Q) (h:ZW Q->P:=by intro Kz;refine B 4 ?_;refine X6 ?_;refine B 5 ?_;refine zdg ?_;refine B 6 ?_;refine zOg ?_;refine B 6 ?_;refine nH (v:=.bool true) (f:=122) (cap:=[]) rfl call122 rfl rfl rfl (λW hS=>T6 h4 W) ?_;refine B 6 ?_;refine rv rfl rfl rfl (rL underlying9 rfl) ?_;exact Kz.p):P:=h ⟨k⟩
theorem Gt (k:Q) (h:ZW Q->P:=by intro Kz;refine zLf ?_;refine B 3 ?_;exact Kz.p):P:=h ⟨k⟩
theorem Tg (k:Q) (h:ZW Q->P:=by intro Kz;refine B 11 ?_;refine xT ?_;refine zFe ?_;exact Kz.p):P:=h ⟨k⟩
theorem zki (k:Q) (h:ZW Q->P:=by intro Kz;refine enter (vs:=[_,_,_]) func178 rfl ntmps178 rfl ?_;refine B 10 ?_;refine Qg ?_;refine B 10 ?_;refine zBg ?_;refine B 9 ?_;exact Kz.p):P:=h ⟨k⟩
theorem zli (k:Q) (h:ZW Q->P:=by intro Kz;refine rr (.agg (aX G)) (af isAgg57 sizeOf57 rfl A1 aH aF zL rfl) ?_;exact Kz.p):P:=h ⟨k⟩
theorem Vx (k:Q) (h:ZW Q->P:=by intro Kz;refine B 2 ?_;refine zNg ?_;refine B 1 ?_;refine Oq ?_;refine B 1 ?_;refine Qa ?_;refine B 4 ?_;exact Kz.p):P:=h ⟨k⟩
theorem wT (k:Q) (h:ZW Q->P:=by intro Kz;refine B 7 ?_;refine mx ?_;exact Kz.p):P:=h ⟨k⟩
theorem Ie (k:Q) (h:ZW Q->P:=by intro Kz;refine B 6 ?_;refine ax results139 rfl A0 ?_;exact Kz.p):P:=h ⟨k⟩
theorem Pq (k:Q) (h:ZW Q->P:=by intro Kz;refine Jm ?_;refine B 5 ?_;exact Kz.p):P:=h ⟨k⟩
theorem zqi (k:Q) (h:ZW Q->P:=by intro Kz;refine LV ?_;refine zYf ?_;refine SI ?_;refine B 9 ?_;refine zpg ?_;refine rq (.bool false) (dI rfl) (by rw[hf];rfl) ?_;exact Kz.p):P:=h ⟨k⟩
theorem Rq (k:Q) (h:ZW Q->P:=by intro Kz;refine Wf ?_;refine VW ?_;refine B 3 ?_;exact Kz.p):P:=h ⟨k⟩
theorem Pn (k:Q) (h:ZW Q->P:=by intro Kz;refine De ?_;refine B 11 ?_;exact Kz.p):P:=h ⟨k⟩
theorem YX (k:Q) (h:ZW Q->P:=by intro Kz;refine B 1 ?_;refine nkc rfl ?_;refine B 4 ?_;exact Kz.p):P:=h ⟨k⟩
theorem Ih (k:Q) (h:ZW Q->P:=by intro Kz;refine zTe ?_;refine B 7 ?_;refine zOe ?_;exact Kz.p):P:=h ⟨k⟩
theorem Ww (k:Q) (h:ZW Q->P:=by intro Kz;refine Wx ?_;refine B 5 ?_;refine zjf ?_;exact Kz.p):P:=h ⟨k⟩
theorem Iv (k:Q) (h:ZW Q->P:=by intro Kz;refine B 6 ?_;refine xT ?_;exact Kz.p):P:=h ⟨k⟩
theorem I5 (k:Q) (h:ZW Q->P:=by intro Kz;refine zYe ?_;refine B 2 ?_;exact Kz.p):P:=h ⟨k⟩
theorem zyi (k:Q) (h:ZW Q->P:=by intro Kz;refine enter (vs:=[_,_]) func257 rfl ntmps257 rfl ?_;refine B 3 ?_;exact Kz.p):P:=h ⟨k⟩
theorem SR (k:Q) (h:ZW Q->P:=by intro Kz;refine B 8 ?_;refine mx ?_;exact Kz.p):P:=h ⟨k⟩
theorem Xy (k:Q) (h:ZW Q->P:=by intro Kz;refine B 13 ?_;refine V9 ?_;refine B 9 ?_;exact Kz.p):P:=h ⟨k⟩
theorem zBi (k:Q) (h:ZW Q->P:=by intro Kz;refine call call177 rfl rfl rfl (λW hS=>nYi _ _ zM zM zM zM W) ?_;refine B 11 ?_;refine zzh ?_;exact Kz.p):P:=h ⟨k⟩
theorem zCi (k:Q) (h:ZW Q->P:=by intro Kz;refine XA ?_;refine B 6 ?_;refine XA ?_;refine B 3 ?_;refine rv rfl rfl rfl (ag isAgg34 sizeOf34 rfl A0 aC ay zL (aV rfl)) ?_;refine B 1 ?_;refine rv rfl rfl rfl (ag isAgg34 sizeOf34 rfl A1 aH aF zL (aV rfl)) ?_;exact Kz.p):P:=h ⟨k⟩
theorem zDi (k:Q) (h:ZW Q->P:=by intro Kz;refine B 13 ?_;refine Fl ?_;refine B 7 ?_;refine R9 ?_;refine B 5 ?_;exact Kz.p):P:=h ⟨k⟩
theorem zEi (k:Q) (h:ZW Q->P:=by intro Kz;refine VW ?_;refine B 2 ?_;refine ng (E':=[(0,_),(2,_),(7,_),(17,_),(18,_),(19,_),(20,_),(21,_),(22,_)]) zR ?_;exact Kz.p):P:=h ⟨k⟩
theorem ZF (k:Q) (h:ZW Q->P:=by intro Kz;refine B 4 ?_;refine ng (E':=[(0,_),(1,_),(3,_),(4,_)]) zR ?_;exact Kz.p):P:=h ⟨k⟩
theorem zGi (k:Q) (h:ZW Q->P:=by intro Kz;refine z2e ?_;refine SI ?_;refine B 8 ?_;refine zLe ?_;exact Kz.p):P:=h ⟨k⟩
theorem O6 (k:Q) (h:ZW Q->P:=by intro Kz;refine B 5 ?_;refine zaf ?_;refine B 1 ?_;exact Kz.p):P:=h ⟨k⟩
theorem zIi (k:Q) (h:ZW Q->P:=by intro Kz;refine De ?_;refine B 4 ?_;refine De ?_;refine B 3 ?_;refine De ?_;refine B 3 ?_;refine rv rfl rfl rfl (ud rfl rfl) ?_;refine B 2 ?_;refine ZC ?_;exact Kz.p):P:=h ⟨k⟩
theorem Ms (k:Q) (h:ZW Q->P:=by intro Kz;refine B 7 ?_;refine FI ?_;exact Kz.p):P:=h ⟨k⟩
theorem zKi (k:Q) (h:ZW Q->P:=by intro Kz;refine OJ.off rfl (aV rfl) rfl ?_;refine OJ.off rfl (aV rfl) rfl ?_;refine B 6 ?_;refine zNh ?_;refine mx ?_;refine zgg ?_;exact Kz.p):P:=h ⟨k⟩
theorem zLi (k:Q) (h:ZW Q->P:=by intro Kz;refine B 6 ?_;refine zQg ?_;refine B 9 ?_;refine Yp ?_;refine B 1 ?_;refine zEg ?_;refine B 8 ?_;refine Yp ?_;refine B 1 ?_;refine zcf ?_;exact Kz.p):P:=h ⟨k⟩
theorem zMi (k:Q) (h:ZW Q->P:=by intro Kz;refine zeh ?_;refine B 5 ?_;refine rr (.agg II) (aP (i:=0) rfl isAgg81 sizeOf81 rfl rfl) ?_;exact Kz.p):P:=h ⟨k⟩
theorem zNi (k:Q) (h:ZW Q->P:=by intro Kz;refine enter (vs:=[_,_]) func221 rfl ntmps221 rfl ?_;refine B 3 ?_;exact Kz.p):P:=h ⟨k⟩
theorem KM (k:Q) (h:ZW Q->P:=by intro Kz;refine B 2 ?_;refine tW ?_;exact Kz.p):P:=h ⟨k⟩
theorem zPi (k:Q) (h:ZW Q->P:=by intro Kz;refine zAg ?_;refine call call209 rfl rfl rfl (λW hS=>ncg x.w W) (v:=.int .i64 (Jb x.w)) ?_;refine B 4 ?_;exact Kz.p):P:=h ⟨k⟩
theorem zQi (k:Q) (h:ZW Q->P:=by intro Kz;refine B 6 ?_;refine zDe ?_;refine ztf ?_;refine B 3 ?_;refine Rx ?_;exact Kz.p):P:=h ⟨k⟩
theorem zRi (k:Q) (h:ZW Q->P:=by intro Kz;refine B 5 ?_;refine zuf ?_;refine B 1 ?_;refine nH (f:=260) (cap:=[]) rfl call260 rfl rfl rfl (λW hS=>nMk x d W) ?_;exact Kz.p):P:=h ⟨k⟩
theorem zSi (k:Q) (h:ZW Q->P:=by intro Kz;refine B 8 ?_;refine zof ?_;refine zgf ?_;refine Iv ?_;refine B 7 ?_;refine zof ?_;refine zOf ?_;exact Kz.p):P:=h ⟨k⟩
theorem PI (k:Q) (h:ZW Q->P:=by intro Kz;refine B 4 ?_;refine zlf ?_;exact Kz.p):P:=h ⟨k⟩
theorem zUi (k:Q) (h:ZW Q->P:=by intro Kz;refine enter (vs:=[_,_,_]) func3 rfl ntmps3 rfl ?_;refine B 3 ?_;exact Kz.p):P:=h ⟨k⟩
theorem zVi (k:Q) (h:ZW Q->P:=by intro Kz;refine rv rfl rfl rfl (qi rfl rfl) ?_;refine B 1 ?_;refine kS (i:=0) rfl sizeOf229 rfl rfl rfl rfl (aV rfl) rfl ?_;exact Kz.p):P:=h ⟨k⟩
theorem Xx (k:Q) (h:ZW Q->P:=by intro Kz;refine B 5 ?_;refine tW ?_;refine B 7 ?_;exact Kz.p):P:=h ⟨k⟩
theorem Wz (k:Q) (h:ZW Q->P:=by intro Kz;refine B 3 ?_;refine aU zeroValue38 rfl rfl ?_;exact Kz.p):P:=h ⟨k⟩
theorem ZA (k:Q) (h:ZW Q->P:=by intro Kz;refine enter (vs:=[_]) func231 rfl ntmps231 rfl ?_;refine B 3 ?_;exact Kz.p):P:=h ⟨k⟩
theorem Ox (k:Q) (h:ZW Q->P:=by intro Kz;refine B 3 ?_;refine Pb jX ?_;exact Kz.p):P:=h ⟨k⟩
theorem K0 (k:Q) (h:ZW Q->P:=by intro Kz;refine zcg ?_;refine B 3 ?_;exact Kz.p):P:=h ⟨k⟩
theorem Vs (k:Q) (h:ZW Q->P:=by intro Kz;refine B 3 ?_;refine zMg ?_;refine Qe ?_;exact Kz.p):P:=h ⟨k⟩
theorem PH (k:Q) (h:ZW Q->P:=by intro Kz;refine zzg ?_;refine B 3 ?_;exact Kz.p):P:=h ⟨k⟩
theorem z3i (h:P:=by first|exact nb (λh=>absurd h.fo gO)|exact nb (λh=>by have:=h.e1;omega)|exact nb (λh=>by have:=h.e2;omega)|exact nb (λh=>absurd h.au gO)|exact nb (λh=>absurd h.ch zmb)|exact nb (λh=>by have:=h.pl;omega)|exact nb (λh=>by have:=h.bl;omega)|exact nb (λh=>by have:=h.wl;omega)|exact nb (λh=>by have:=DU.2 (h.path _ _ hy);omega)|exact nb (λh=>by have h9:=h.box _ _ hx;have h8:=h9.1;have h7:=ny.2 h9.2;omega)|exact nb (λh=>by have h9:=h.wel _ _ hx;exact h1 h9.1)|exact nb (λh=>by have h9:=h.wel _ _ hx;have h8:=ny.2 h9.2.2;omega)|exact nb (λh=>by have h9:=(h.wel _ _ hx).2.1 y zM hy;omega)|exact nnb ⟨by assumption,by omega,by omega,by assumption,by assumption,by omega,by omega,by omega,hA1,hA2,dO.all zM⟩):P:=h
theorem aA (h:P:=by exact absurd (show false=true from hr) zQ):P:=h
theorem Vy (h:P:=by
  first|(have Vp:=hd.stop ga zM;obtain⟨q2,rfl⟩:∃q2,q2=q:=⟨_,rfl⟩)|(have Vp:=Vw zM zM aF ay ga zM;generalize q-1=q2 at *)
  rw[Ot]at Vp
  obtain⟨r0,Yu⟩:∃z,(r1*2^32+v0)%Y=z:=⟨_,rfl⟩
  have agm:r0<Y:=by rw[<-Yu];exact Nat.mod_lt _ zM
  have Z3:q2*Y+r0=r1*2^32+v0:=by have:=wo (r1*2^32+v0) Y;rw[Vp,Yu,sY]at this;exact this
  have bW:u*2^64+v=(q1*2^32+q2)*Y+r0:=by have:=n2b u v Y r1 zuc;rw[show v/2^32=v1 from hv1,show v%2^32=v0 from hv0,tI,Vp,Yu]at this;exact this
  obtain⟨ue,wB⟩:=n1b hi lo y s (q1*2^32+q2) r0 zEc zic
  have agn:=pz.small (un:=v1) ga Vt Ev
  rw[Ot,tI]at agn
  have ago:=pz.small (un:=v0) ga p7 oJ
  rw[Ot,Vp]at ago
  refine z0g ?_
  refine nT results178 rfl rfl A0 ?_ ?_
  · rw[ue];exact vu zGb
  · rw[wB]
 ):P:=h
theorem WU (h:P:=by
  refine zQf ?_
  first|exact vi (nid dO zM)|exact vi (nR hx (λg=>by have g1:=g.1;have g2:=g.2.1;omega))|exact vi (nR hx (λg=>by have g3:=g.2.2.1 y zM hy;omega))|exact vi (nR hx (λg=>OV (x:=x.pub) Fu g.2.2.2.1))|exact vi (nR hx (λg=>by have g5:=(n0c _).2 g.2.2.2.2;simp_all))
 ):P:=h
theorem PA (h:P:=by
  refine ax results90 rfl A1 ?_
  first|exact vi (if_pos ⟨h1,h2,h3,h4,h5⟩).symm|exact vi (if_neg (λh=>h1 h.1)).symm|exact vi (if_neg (λh=>h2 h.2.1)).symm|exact vi (if_neg (λh=>h3 h.2.2.1)).symm|exact vi (if_neg (λh=>h4 h.2.2.2.1)).symm|exact vi (if_neg (λh=>h5 h.2.2.2.2)).symm
 ):P:=h
theorem z8i (h:P:=by
  refine ss rfl rfl ?_ ?_
  · intro cv L' H' hl hP F Q' hk
    obtain rfl:=ja hl
    obtain⟨rfl,rfl⟩:=hP
    refine zwf ?_
    rintro W_ ⟨ta_,tc_⟩ w_ Vq hB_ ⟨h1_,h2_⟩
    have hs_:=(Vq.links wm A0).size
    exact OJ.done (hk _ _ _ ⟨ta_,tc_,w_,rfl,rfl,rfl,h1_,λb off e=>(h2_ b off e).imp id (λh=>h.imp id (λh=>aS hs_ h)),aS hs_ hB_.size⟩)
  refine ss rfl rfl ?_ ?_
  · intro cv L' H' hl hP F Q' hk
    obtain⟨v1,rfl⟩:=dd hl
    obtain⟨ta,tc,wr,rfl,rfl,rfl,oF,fJ,mB⟩:=hP
    refine zkf ?_
    intro r_ Pg pO
    exact OJ.done (hk _ _ _ ⟨ta,tc,wr,r_,rfl,rfl,rfl,rfl,oF,fJ,mB,Pg,pO,Rw.ge_of Pg A0⟩)
  refine ss rfl rfl ?_ ?_
  · intro cv L' H' hl hP F Q' hk
    obtain⟨v1,v2,rfl⟩:=jj hl
    obtain⟨ta,tc,wr,r8,rfl,rfl,rfl,rfl,oF,fJ,mB,kB,eT,eU⟩:=hP
    refine B 1 ?_
    exact OJ.done (hk _ _ _ ⟨ta,tc,wr,r8,rfl,rfl,rfl,rfl,rfl,oF,fJ,mB,kB,eT,eU⟩)
  refine ss rfl rfl ?_ ?_
  · intro cv L' H' hl hP F Q' hk
    obtain⟨v1,v2,v3,rfl⟩:=fM hl
    obtain⟨ta,tc,wr,r8,rfl,rfl,rfl,rfl,rfl,oF,fJ,mB,kB,eT,eU⟩:=hP
    refine B 1 ?_
    exact OJ.done (hk _ _ _ ⟨ta,tc,wr,r8,rfl,rfl,rfl,rfl,rfl,rfl,oF,fJ,mB,kB,eT,eU⟩)
  refine ss rfl rfl ?_ ?_
  · intro cv L' H' hl hP F Q' hk
    obtain⟨v1,v2,v3,v4,rfl⟩:=qp hl
    obtain⟨ta,tc,wr,r8,rfl,rfl,rfl,rfl,rfl,rfl,oF,fJ,mB,kB,eT,eU⟩:=hP
    refine kS (i:=0) rfl sizeOf55 rfl rfl rfl rfl (aV rfl) (Rw.val_one2 _ _) ?_
    exact OJ.done (hk (.tuple #[]) _ _ ⟨ta,tc,wr,r8,rfl,rfl,rfl,rfl,rfl,rfl,rfl,oF,fJ,mB,kB,eT,eU⟩)
  exact X3
 ):P:=h
theorem z9i (h:P:=by
  refine zMe ?_
  refine nJ 11 [4] [([],some _),([0],some (.slice G.ma G.g.ms.length G.mc)),([],some _),([2],some (.agg #[.slice G.na G.g.ns.length G.nc])),([3],none),([],some _),([1,4,5],some (.bool false)),([6],some _),([7],some undef),([7,8],some undef),([7],some undef)] (λcv L' H'=>match cv with| []=>L'=[w1,w]/\H'=[]| [v1]=>∃(a7:Option Addr) (c7:Nat) (w7:World),v1= .slice a7 (dh G.g.ns).length c7/\L'=[w7,w1,w]/\H'=[]/\ah (λx=>(ai x).toArray) 1 w7.heap.size w7 a7 (dh G.g.ns)|_=>False) zT ⟨rfl,rfl⟩ zT zT zT zT zT zT (pc Sr (pc I8 (pc Ss (pc I8 (pk (pc zW (pc (λcv L' H' hd hP=>match cv,hd,hP with| [],hd,hP=>(absurd (show false=true from hd) zQ)| [v1],hd,hP=>zjd|_::_::_,_,hP=>hP.elim) (pc zW (pc ph (pc ph (pc ph (pn)))))))))))) ?_ ?_
  · refine sc rfl rfl rfl ?_ ?_
    · intro cv L' H' hl hP F Q' hk
      obtain rfl:=ja hl
      obtain⟨rfl,rfl⟩:=hP
      refine zXe ?_
      intro W7 a7 c7 w7 hS7 hB7 iz pH
      exact OJ.done (hk _ _ _ ⟨a7,c7,w7,rfl,rfl,rfl,iz⟩)
    exact sn
  · intro cv L' H' hl hP
    obtain⟨v1,rfl⟩:=dd hl
    obtain⟨a7,c7,w7,rfl,rfl,rfl,iz⟩:=hP
    refine B 7 ?_
    refine ax results144 rfl A2 ?_
    exact LH (λh=>h1 h.2.2.1)
 ):P:=h
theorem zaj (h:P:=by
  have hv:∀W2,∀w∈L,∀k,oI V W1 W2 k->V k\/w.heap.size<=k:=λW2 w hw k hk=>by
    rcases hk with hk|hk
    · exact .inl hk
    · have:=(hS.links w hw).size;exact .inr zM
  refine⟨fn,tmps,assign,body,gy,gz.mono ?_⟩
  rintro e W2 ⟨b,rfl,hk,hb⟩
  refine⟨b,rfl,by rw[(hT _).1];exact hk,?_⟩
  have nx:∀{R:World->Prop} (hR:eA (λk=>(k<W0.heap.size/\¬MI k)\/(oI V W1 W2) k) R),R W2->Next (T (cj hM V hI)) W1 W2 (T (cj hM (oI V W1 W2) hR)):=λ{R} hR hb=>by
    refine⟨λk h=>?_,λk h=>?_,λk h=>?_,by rw[(hT _).2.2.1];exact hb⟩
    · rw[(hT _).2.2.2]at h ⊢
      rcases h with(h|h)|h
      · exact .inl (.inl h)
      · exact .inl (.inr (.inl h))
      · exact .inr h
    · rw[(hT _).2.2.2]at h ⊢
      rcases h with(h|h|h)|h
      · exact .inl (.inl (.inl h))
      · exact .inl (.inl (.inr h))
      · exact .inr h
      · exact .inl (.inr h)
    · rw[(hT _).2.1]at h ⊢
      rcases h with h|h|h
      · exact .inl (.inl h)
      · exact .inl (.inr h)
      · exact .inr h
  cases b with
  |true=>exact⟨_,⟨_,λk h=>.inl h,hv W2,rfl⟩,nx (kI _) hb⟩
  |false=>exact⟨_,⟨_,λk h=>.inl h,hv W2,rfl⟩,nx (fk _) hb⟩
 ):P:=h
theorem Sy (h:P:=by
  refine zFg ?_
  show Value.bool _=Value.bool _
  refine vb ?_
  first|(have h1b:(hQ G.g.ms au != decide (0<G.g.epoch))=true:=AI;unfold o5;rw[h1b];rfl)|(have h1b:(hQ G.g.ms au != decide (0<G.g.epoch))=false:=AI;unfold o5;rw[h1b];simp_all)
 ):P:=h
theorem zdj (h:P:=by
  rw[HQ,HQ,hu]
  have fm:look (bN ops sp ch cv ds) t=none:=by
    have:∀js,(∀j∈js,j<nA)->look (bN ops sp ch cv js) t=none:=by
      intro js
      induction js with
      |nil=>intro _;rfl
      |cons j js ih=>
        intro gB
        have u2:=ih λj' uX=>gB j' (by simp[uX])
        unfold bN
        cases N1:(ops[j]?).bind (·.dst)with
        |none=>exact u2
        |some d'=>
          obtain⟨oj,N2,u3⟩:=U4.1 N1
          have u4:d'≠t:=λe'=>by
            subst e'
            rw[ok.apart j oj d' (gB j z1) N2 u3]at hu;cases hu
          simp only[look,yq u4]
          exact u2
    exact this ds (λj hj=>by have:=(px j hj).2;omega)
  rw[fm];rfl
 ):P:=h
theorem zej (h:P:=by
  intro js
  induction js with
  |nil=>intro h;cases h
  |cons j js ih=>
    intro YQ gB
    unfold bN
    by_cases ej:j=q
    · subst ej
      simp only[jg,Option.bind_some,ly,look,yr]
    · have agt:q∈js:=by
        rcases cP.1 YQ with h|h
        · exact absurd h.symm ej
        · exact h
      have u2:=ih agt λj' uX=>gB j' (by simp[uX])
      cases N1:(ops[j]?).bind (·.dst)with
      |none=>exact u2
      |some dj=>
        obtain⟨oj,N2,u3⟩:=U4.1 N1
        have u4:dj≠d':=λe'=>ej (ok.uniq j q oj o' dj (gB j z1) En N2 jg u3 (e'▸ly))
        simp only[look,yq u4]
        exact u2
 ):P:=h
theorem zfj (h:P:=by
  refine sc rfl rfl rfl ?_ ?_
  · intro cv L' H' hl hP F Q' hk
    obtain rfl:=ja hl
    obtain⟨rfl,rfl⟩:=hP
    refine zXe ?_
    intro W7 a7 c7 w7 hS7 hB7 iz pH
    exact OJ.done (hk _ _ _ ⟨a7,c7,w7,rfl,rfl,rfl,iz⟩)
  exact sn
 ):P:=h
theorem XE (h:P:=by
  refine sc rfl rfl rfl ?_ ?_
  · intro cv L' H' hl hP F Q' hk
    obtain rfl:=ja hl
    obtain⟨rfl,rfl⟩:=hP
    refine zVe ?_
    intro W_ a_ c_ w_ Vq hB_ agu Vr
    have hq_:=(Vq.links wn A0).size
    exact OJ.done (hk _ _ _ ⟨a_,c_,w_,rfl,rfl,rfl,agu,λq e=>aS hq_ (Vr q e)⟩)
  exact sn
 ):P:=h
theorem Sx (h:P:=by exact PJ.mid ⟨(congrArg (λb=>some (Value.bool b)) zwb),rfl,rfl,rfl,rfl,rfl,rfl,rfl,rfl,rfl,rfl,rfl,rfl,rfl,trivial⟩):P:=h
theorem zij (h:P:=by
  intro js
  induction js with
  |nil=>intro _ _;rfl
  |cons j js ih=>
    intro gB YQ
    have u2:=ih (λj' uX=>gB j' (by simp[uX])) (λh=>YQ (by simp[h]))
    unfold bN
    cases N1:(ops[j]?).bind (·.dst)with
    |none=>exact u2
    |some dj=>
      obtain⟨oj,N2,u3⟩:=U4.1 N1
      have u4:dj≠d':=λe'=>YQ (by
        have:=ok.uniq j q oj o' dj (gB j z1) En N2 jg u3 (e'▸ly)
        simp[this])
      simp only[look,yq u4]
      exact u2
 ):P:=h
theorem zjj (h:P:=by
  refine⟨G'.stab A B hA.ghost ho ht oX hs (λk hv=>ee k (fX.v k hv)),λk hv=>kJ (hA.vlt k hv) hs,λk hv=>kJ (hA.xlt k hv) hs,λw hw=>?_,λp hp=>?_,hA.nodup,hA.apart⟩
  · have h1:=hA.links w hw
    exact⟨ho.trans h1.os,ht.trans h1.tape,oX.trans h1.output,aS h1.size hs,λk hk hx=>(ee k (.inl ⟨kJ hk (mm.links w hw).size,λhm=>by have:=(lx k hm).2.1.mem w hw;omega⟩)).trans (h1.block k hk hx)⟩
  · have hq:M p.1\/V p.1:=by
      simp only[book,cO,cP,fG,or_false]at hp
      rcases hp with hp|rfl|rfl
      · exact fX.h p hp
      · exact .inl (.inr (.inr (.inr rfl)))
      · exact .inl (.inr (.inr (.inl rfl)))
    rw[ee p.1 (hq.imp (λh=>⟨(xJ _ h).1,(xJ _ h).2.1⟩) id)];exact hA.own p hp
 ):P:=h
theorem Te (h:P:=by
  refine Pq ?_
  exact bH (.inl rfl) results101 (RS.wA (i:=0) rfl isAgg57 sizeOf57 rfl (aV rfl) (RS.t rfl RS.n)) λW hS=>⟨kL,rfl,hS.base A2 zS,rfl,Td _ _,λq h=>D0,λq h=>D0⟩
 ):P:=h
theorem F8 (h:P:=by
  intro aN
  refine B 7 ?_
  refine PJ.again (j+1) ⟨by omega,dO.next hx oC⟩ zM zR rfl rfl z1
 ):P:=h
theorem Xc (h:P:=by
  refine zhh ?_
  first|exact nch dO zM|exact nsc hx (λg=>by have g1:=g.1.1;rw[<-LK,<-LL]at g1;exact absurd g1 gO)|exact nsc hx (λg=>absurd g.1.2 gO)|exact nsc hx (λg=>by have g1:=g.2;simp_all)
 ):P:=h
theorem znj (h:P:=by
  intro a W hI
  obtain⟨x,hx,jf,hN,hD,hF,hS⟩:=nSe hI
  refine wpIn_mono (round x jf a W hN hD hF hS) ?_
  intro e a' W' hq
  cases e with
  |normal=>
    obtain⟨x',agw,hlt,h1,h2,h3,h4⟩:=hq
    have YD:Inv a' W' (μ x'):=⟨x',rfl,agw,h1,h2,h3,h4⟩
    exact⟨⟨_,YD⟩,by have:=nKf YD;omega⟩
  |_=>exact hq
 ):P:=h
theorem zoj (h:P:=by
  refine sc rfl rfl rfl ?_ ?_
  · intro cv L' H' hl hP F Q' hk
    obtain rfl:=ja hl
    obtain⟨rfl,rfl⟩:=hP
    refine z1e ?_
    rintro W_ b_ w_ Vq hB_ ⟨hq_,hb_⟩
    try dsimp only at hq_ hb_
    have hs_:=(Vq.links wn A1).size
    exact OJ.done (hk _ _ _ ⟨b_,w_,rfl,rfl,rfl,hb_,by omega⟩)
  exact sn
 ):P:=h
theorem Ii (h:P:=by
  refine B 2 ?_
  refine PJ.again (q-1,r+y1) ⟨aF,by omega,ay,by omega⟩ zIc zR rfl rfl z1
 ):P:=h
theorem PN (h:P:=by
  refine ax results34 rfl A1 ?_
  first|exact vb zbd|exact vb z6c|exact vb z5b
 ):P:=h
theorem zrj (h:P:=by
  intro k' c hc
  show((cd.setIfInBounds i true).getD c false=true↔_)
  rw[dy cd i c qU hi]
  by_cases e:c=i
  · subst e
    rw[if_pos rfl]
    have h1':=NS ch k' c hc lz
    have h2':=NS ch k c hk lz
    have:k'=k:=by omega
    subst this
    exact⟨λ_=>⟨v,by rw[JU zM]⟩,λ_=>rfl⟩
  · rw[if_neg e,h7 k' c hc]
    have dc:k≠k':=λe'=>e (by subst e';rw[hk]at hc;cases hc;rfl)
    rw[HK dc]
 ):P:=h
theorem VG (h:P:=by
  refine nT results62 rfl rfl A0 ?_ ?_
  all_goals(refine vi ?_;unfold gExp;first|(simp only[if_neg hg];done)|(rw[if_pos hg];first|(rw[if_neg zM];done)|(rw[if_pos zM];done)))
 ):P:=h
theorem ztj (h:P:=by
  refine B 6 ?_
  have bW:=nrn (l:=cH d) (i:=i) zM (iO (cY ns) (512+d))
  rw[bW]at uy ⊢
  refine B 9 ?_
  refine bH (.inl rfl) results218 (RS.t rfl (RS.t rfl (RS.t rfl RS.n))) λW hS=>⟨bf,mi,ap,lS,rfl,hS.base A2 wx,by omega,uy,hS.own _ A0,qy.blk λb off aR aH=>?_,λq hq=>?_⟩
  · have h1:=pI _ aR
    dsimp only at h1
    exact⟨kJ aH (hS.links wp A0).size,(hS.links wp A0).block b aH (by simp[Gh.no];omega)⟩
  · have h1:=pI _ hq
    have h2:=(wX.links w A1).size
    exact⟨by omega,by omega⟩
 ):P:=h
theorem zuj (h:P:=by
  refine sc rfl rfl rfl ?_ ?_
  · intro cv L' H' hl hP F Q' hk
    obtain rfl:=ja hl
    obtain⟨rfl,rfl⟩:=hP
    refine zkg ?_
    rintro Wm bm wm Aq Sa ⟨mq,jb⟩
    try dsimp only at mq jb
    have lm5:=Aq.lt (b5,_) A0
    have lm4:=Aq.lt (b4,_) A1
    have lml:=Aq.lt (l,.loop {rec with state:=.busy}) xL
    try dsimp only at lm5 lm4 lml
    exact OJ.done (hk _ _ _ ⟨bm,wm,rfl,rfl,rfl,jb,(aM.1 jb).1,⟨by omega,by omega,by omega⟩,λhx=>by have:=Aq.xlt bm hx;omega⟩)
  exact sn
 ):P:=h
theorem zvj (h:P:=by
  refine B 14 ?_
  refine mx ?_
  refine PJ.again ((i2+1,cur.set i2 x),j+1) ⟨by dsimp only;omega,by dsimp only;omega,by dsimp only;rw[G8];exact lG,by dsimp only;rw[nbe zM,DZ,S5 hx,if_neg oC],by dsimp only;rw[nff zM];exact Gr⟩ dL zR rfl rfl z1
 ):P:=h
theorem zwj (h:P:=by
  refine z0h ?_
  refine B 5 ?_
  exact nU (enc:=su) (m:=4) (t:=164) (xs:=[]) (H0:=[(b6,.cells #[.slice none 0 0] 96 (0,0))]) (H1:=[]) (r:=.nil) (.inl rfl) results146 (RS.w (i:=0) rfl isAgg96 rfl rfl (RS.t rfl RS.n)) A1 z9d rfl rfl True.intro rfl
 ):P:=h
theorem zxj (h:P:=by
  rintro k (hk|hk|hk|hk)
  · exact⟨mm.xlt k hk,λh=>(lx k h).2.2.2.2 hk,λh=>(my W hS k h).2.2 hk⟩
  · exact⟨by obtain⟨p,hp,rfl⟩:=bU.1 hk;have:=hS.lt p hp;omega,λh=>(lx k h).2.2.1 hk,λh=>(my W hS k h).2.1 hk⟩
  · exact⟨by omega,λh=>by have:=(lx k h).1;omega,λh=>by have:=(my W hS k h).1;omega⟩
  · exact⟨by omega,λh=>by have:=(lx k h).1;omega,λh=>by have:=(my W hS k h).1;omega⟩
 ):P:=h
theorem zyj (h:P:=by
  obtain⟨a1,c1,a2,c2,ds,w9,rfl,rfl,rfl,rfl,rfl,eN,eQ,du,fu,qt,mz⟩:=hP
  refine B 1 ?_
  exact OJ.done (hk _ _ _ ⟨a1,c1,a2,c2,ds,w9,rfl,rfl,rfl,rfl,rfl,rfl,eN,eQ,du,fu,qt,mz⟩)
 ):P:=h
theorem Xk (h:P:=by
  refine ax results209 rfl A1 ?_
  first|exact SL (λh=>by have h1:=DU.2 h.1;have h2:=h.2;omega)|exact npi ⟨DU.1 zM,by omega,by omega⟩
 ):P:=h
theorem zAj (h:P:=by
  refine B 5 ?_
  obtain⟨bq,oq,WQ,tq,WR,rfl,WS,sd,se⟩:=qy.get zM
  have As:=pI _ rfl
  dsimp only at As
  obtain⟨n,hy⟩:=nk (cH d) i zM
  refine B 2 ?_
  refine zoh ?_
  refine B 6 ?_
  refine zNf ?_
  intro m3 ay
  refine B 7 ?_
  refine PJ.again (m3,i+1) ⟨by dsimp only;omega,by rw[n6f hy];exact ay⟩ dL zR (by rw[n6f hy];rfl) rfl z1
 ):P:=h
theorem zBj (h:P:=by
  obtain⟨a1,c1,a2,c2,ds,wg,rfl,rfl,rfl,rfl,rfl,eN,eQ,du⟩:=hP
  refine B 1 ?_
  exact OJ.done (hk _ _ _ ⟨a1,c1,a2,c2,ds,wg,rfl,rfl,rfl,rfl,rfl,rfl,eN,eQ,du⟩)
 ):P:=h
theorem Zc (h:P:=by
  refine nT results69 rfl rfl A1 ?_ ?_
  all_goals(refine vi ?_;unfold oN;first|(rw[if_neg hg];done)|(rw[if_pos hg];first|(rw[if_neg aN];done)|(rw[if_pos aN];done)))
 ):P:=h
theorem ZB (h:P:=by
  intro b4 dQ dV
  replace dQ:=yb dQ
  replace dV:=yc dV
  refine z3g ?_
  rfl
 ):P:=h
theorem zEj (h:P:=by
  intro aN
  refine SR ?_
  refine PJ.again ((i2,cur),j+1) ⟨by dsimp only;omega,by dsimp only;omega,lG,by dsimp only;rw[DZ,S5 hx,if_pos oC,dE],Gr⟩ dL zR rfl rfl z1
 ):P:=h
theorem zFj (h:P:=by
  intro vV c32 s32 nt agx
  refine OJ.dropF (i:=0) rfl (.inr ⟨by omega,by omega,trivial⟩) ?_
  refine B 8 ?_
  refine PJ.again (ys++y.enc,i+1,vV,c32,s32) ⟨by dsimp only;rw[i7,<-hy,<-V.encL_drop l i zM];exact hinv,by dsimp only;omega,nt,by simpa only[Fr,Gh.lent,Gh.no,ad,and_true,false_or]using nt,agx⟩ dL zR rfl rfl z1
 ):P:=h
theorem zGj (h:P:=by
  refine⟨bY.ghost,bY.vlt,λk hk=>?_,λw hw=>?_,bY.own,bY.nodup,bY.apart⟩
  · rcases hk with hk|hk|hk
    · exact bY.xlt k hk
    · exact kJ (xJ k hk).1 th
    · exact(hV k hk).2
  · rcases cP.1 hw with rfl|hw
    · exact aI.refl _ _
    · exact(bY.links w hw).mono λk _ hk=>hk.imp .inl id
 ):P:=h
theorem I6 (h:P:=by exact λW hS=>.inr ⟨j,x,rfl,hx,by assumption,dO⟩):P:=h
theorem zIj (h:P:=by
  refine B 7 ?_
  refine zmf ?_
  refine B 5 ?_
  refine zQh ?_
  refine B 2 ?_
  refine PJ.again (k+1,if 128-64*k=64 then o2 else o2+64*1) (by dsimp only;split<;>omega) dL ⟨rfl,rfl,rfl,by rw[show N-64*(k+1)=N-64*k-64 by omega,show 128-64*(k+1)=128-64*k-64 by omega];rfl,trivial⟩ rfl rfl z1
 ):P:=h
theorem DD (h:P:=by
  refine znf ?_
  unfold nB
  simp[*]
 ):P:=h
theorem zKj (h:P:=by
  refine B 12 ?_
  refine znh ?_
  intro r bG al
  refine B 1 ?_
  refine zBh ?_
  refine B 4 ?_
  exact nU (enc:=fH) (m:=2) (t:=355) (xs:=[]) (H0:=[(b4,.cells #[r.val (([]:List Nd)).length] 55 (0,0))]) (H1:=[]) (r:=r) (.inl rfl) results221 (RS.wA (i:=0) rfl isAgg55 sizeOf55 rfl (aV rfl) (RS.t rfl RS.n)) A1 zve rfl al (Rw.ge_of bG A1) WV
 ):P:=h
theorem zLj (h:P:=by
  refine ax results18 rfl A0 ?_
  first|exact vb (by unfold xA;rw[decide_eq_false zM];rfl)|exact vb zye|exact vb zpe
 ):P:=h
theorem zMj (h:P:=by
  rw[bO]at hx
  simp only[gj,eE,iD,cO,cP,fG,or_false,Gh.no,false_or]at hx
  rcases hx with hx|hx|hx|hx<;>first|omega|(have:=hq _ hx;omega)
 ):P:=h
theorem zNj (h:P:=by
  refine sc rfl rfl rfl ?_ ?_
  · intro cv L' H' hl hP F Q' hk
    obtain⟨v1,v2,rfl⟩:=jj hl
    obtain⟨bn,rfl,rfl,rfl,rfl,hfn⟩:=hP
    refine IG ?_
    intro b_ Gm Xq
    exact OJ.done (hk _ _ _ ⟨bn,b_,rfl,rfl,rfl,rfl,rfl,hfn,Gm⟩)
  exact sn
 ):P:=h
theorem zOj (h:P:=by exact nU (enc:=ai) (m:=1) (t:=3) (xs:=[]) (H0:=[]) (H1:=[]) (r:=.nil) (.inl rfl) results257 (RS.t rfl (RS.t rfl RS.n)) A1 trivial rfl rfl True.intro rfl):P:=h
theorem zPj (h:P:=by
  unfold wpListIn at BZ
  unfold wpOpIn
  simp only[ho]
  split
  · rename_i hw
    rw[if_pos hw]at BZ
    exact nSf (λa' W' h=>h) (λ_ _ _ h=>h) zX BZ
  · rename_i hw
    rw[if_neg hw]at BZ
    exact BZ
 ):P:=h
theorem zQj (h:P:=by
  refine B 12 ?_
  refine PJ.again (n+1) ⟨by omega,.inr (by first|rfl|exact sS)⟩ zM ⟨rfl,rfl,rfl,rfl,rfl,rfl,congrArg (λb=>some (Value.bool b)) ((nZm Yv hb).trans (by simp[PQ,heq])).symm,rfl,rfl,rfl,rfl,trivial⟩ rfl rfl z1
 ):P:=h
theorem zRj (h:P:=by
  apply Array.ext'
  rw[OO,i6,<-hlen]
  show gX (ys++sp) ys.length news=_
  have HW:n*ti.size<=sp.length:=by rw[zu,<-LW,LW];exact uF _ zM
  conv=>lhs;rw[<-Dy (n*ti.size) sp]
  rw[Wa _ _ _ _ (by rw[kj];omega),i7]
 ):P:=h
theorem zSj (h:P:=by
  refine zrf ?_
  refine B 1 ?_
  refine OF ?_
  refine B 12 ?_
  refine FI ?_
  refine PJ.again (j+1,m) ⟨by dsimp only;omega,by dsimp only;rw[Ca hx,M8 (.inr h8)];exact hm⟩ dL zR (by rw[Ca hx,M8 (.inr h8)];rfl) rfl z1
 ):P:=h
theorem F9 (h:P:=by exact λW hS=>.inl ⟨rfl,Sm dO zM⟩):P:=h
theorem Ez (h:P:=by refine PJ.again (j+1) zM zM zR rfl rfl z1):P:=h
theorem zVj (h:P:=by
  refine B 7 ?_
  refine zYg ?_
  refine B 3 ?_
  have e:i=8:=by omega
  subst e
  refine z6f ?_
  show Value.agg (cut (iJ (oP n m (eF n)) 8) 0 32)=_
  rw[nnh _ 32 (by rw[iJ,yQ]),Ko];rfl
 ):P:=h
theorem zWj (h:P:=by
  refine sc rfl rfl rfl ?_ ?_
  · intro cv L' H' hl hP F Q' hk
    obtain rfl:=ja hl
    obtain⟨rfl,rfl⟩:=hP
    refine zsg ?_
    rintro Wm bm wm Aq Sa ⟨mq,jb⟩
    exact OJ.done (hk _ _ _ ⟨bm,wm,rfl,rfl,rfl,jb⟩)
  exact sn
 ):P:=h
theorem zXj (h:P:=by
  obtain⟨a1,c1,a2,c2,ds,w9,rfl,rfl,rfl,rfl,rfl,rfl,eN,eQ,du,fu,qt,mz⟩:=hP
  refine B 1 ?_
  exact OJ.done (hk _ _ _ ⟨a1,c1,a2,c2,ds,w9,rfl,rfl,rfl,rfl,rfl,rfl,rfl,eN,eQ,du,fu,qt,mz⟩)
 ):P:=h
theorem zYj (h:P:=by
  intro cv L' H' hl hP F Q' hk
  obtain rfl:=ja hl
  obtain⟨rfl,rfl⟩:=hP
  refine OI [3] bt zeroValue5 rfl rfl rfl rfl rfl rfl rfl rfl rfl ?_
  intro b9 ha ho hx hr
  exact OJ.done (hk _ _ _ ⟨b9,rfl,rfl,rfl,ha.1,ha.2.1⟩)
 ):P:=h
theorem zZj (h:P:=by
  refine wT ?_
  refine PJ.again (j+1) ⟨by omega,dO.next hx ⟨Classical.not_not.1 h1,λy0 h0 rD=>by first|omega|(rw[hy]at rD;cases rD;omega),ny.1 zM⟩⟩ zM zR rfl rfl z1
 ):P:=h
theorem Uq (h:P:=by
  refine ax results43 rfl A1 ?_
  exact vb z2d
 ):P:=h
theorem z1j (h:P:=by
  obtain⟨a1,c1,a2,c2,ds,w9,rfl,rfl,rfl,rfl,eN,eQ,du,fu,qt,mz⟩:=hP
  refine B 1 ?_
  exact OJ.done (hk _ _ _ ⟨a1,c1,a2,c2,ds,w9,rfl,rfl,rfl,rfl,rfl,eN,eQ,du,fu,qt,mz⟩)
 ):P:=h
theorem z2j (h:P:=by
  refine wT ?_
  refine PJ.again (j+1) ⟨by omega,dO.next hx ⟨by omega,by omega,λy0 h0 rD=>by first|omega|(rw[hy]at rD;cases rD;omega),WC Fu,(n0c _).1 oC⟩⟩ zM zR rfl rfl z1
 ):P:=h
theorem Uz (h:P:=by
  refine ax results7 rfl A1 ?_
  exact vb zBc
 ):P:=h
theorem z4j (h:P:=by
  obtain⟨a1,c1,a2,c2,ds,wg,rfl,rfl,rfl,rfl,rfl,rfl,eN,eQ,du⟩:=hP
  refine B 1 ?_
  exact OJ.done (hk _ _ _ ⟨a1,c1,a2,c2,ds,wg,rfl,rfl,rfl,rfl,rfl,rfl,rfl,eN,eQ,du⟩)
 ):P:=h
theorem z5j (h:P:=by refine PJ.again (i+1,uR) ⟨by dsimp only;omega,by dsimp only;omega,M6,by dsimp only;rw[<-Yc,nYk (cur:=cur) (n:=xs.length) (i:=i) zM,<-hsk];congr 1;try exact(nTl hx hy qX).symm⟩ dL zR rfl rfl z1):P:=h
theorem z6j (h:P:=by
  refine zDi ?_
  exact nU (enc:=fH) (m:=2) (t:=355) (xs:=[]) (H0:=_) (H1:=[]) (r:=.nil) (.inl rfl) results154 (RS.wA (i:=0) rfl isAgg55 sizeOf55 rfl (aV rfl) (RS.t rfl RS.n)) A1 zXd rfl rfl True.intro (dE _).symm
 ):P:=h
theorem z7j (h:P:=by exact OJ.done (hk _ _ _ ⟨q,wr,b4,b5,rfl,rfl,rfl,rfl,rfl,og,lE,mZ,rz,sQ,ry,sP,Hx,Hw⟩)):P:=h
theorem z8j (h:P:=by
  refine nT results310 rfl rfl A0 ?_ ?_
  all_goals first|rfl|(exfalso;apply h;exact⟨by omega,by omega⟩)
 ):P:=h
theorem z9j (h:P:=by
  obtain⟨c,G',Hc,hi,fX,bY⟩:=hX
  refine⟨some c,_,run_endLoop bY.loopAt z1,?_⟩
  exact stop _ _ _ c G' Hc hS.sizes rfl hi _ _ (by simpa using hN) (by simp[hD]) (λt v hv=>hF t v hv) (bY.loop _)
 ):P:=h
theorem zak (h:P:=by
  intro cv L' H' hl hP F Q' hk
  obtain rfl:=ja hl
  obtain⟨rfl,rfl⟩:=hP
  refine IG ?_
  intro b_ Gm Xq
  exact OJ.done (hk _ _ _ ⟨b_,rfl,rfl,rfl,Gm⟩)
 ):P:=h
theorem zbk (h:P:=by
  obtain⟨a1,c1,a2,c2,ds,wg,rfl,rfl,rfl,rfl,eN,eQ,du⟩:=hP
  refine B 1 ?_
  exact OJ.done (hk _ _ _ ⟨a1,c1,a2,c2,ds,wg,rfl,rfl,rfl,rfl,rfl,eN,eQ,du⟩)
 ):P:=h
theorem zdk (h:P:=by
  rw[if_pos (bU.2 ⟨_,cC h1,rfl⟩)]
  simp only[List.map_set]
  apply vg
  intro j
  rw[XP]
  split
  · rename_i e;subst e
    have hl:=(gD.1 h1).1
    rw[if_pos xZ];simp[h1]
  · rfl
 ):P:=h
theorem zek (h:P:=by
  intro cv L' H' hl hP F Q' hk
  obtain rfl:=ja hl
  obtain⟨rfl,rfl⟩:=hP
  refine zqg ?_
  intro ke gK dq
  exact OJ.done (hk _ _ _ ⟨ke,rfl,rfl,rfl,gK,dq⟩)
 ):P:=h
theorem zfk (h:P:=by
  have eI:W.drew.heap[b]? =some (.cells (ys++sp).toArray e (0,0)):=hb
  rw[YH eI (by simp only[rH,cF,hlen];omega)]
  unfold cut
  simp only[Rs,<-hlen]
  rw[Ro rfl]
 ):P:=h
theorem zgk (h:P:=by
  intro i o ho e he hb
  have:=h3 i (at_ i o ho)
  simp only[ho,gb,pP]at this
  have:=this.1 e (by simpa using he)
  simp only[hb,Bool.not_true,Bool.false_or]at this
  exact nX this
 ):P:=h
theorem zhk (h:P:=by
  refine Pq ?_
  exact bH (.inl rfl) results101 (RS.wA (i:=0) rfl isAgg57 sizeOf57 rfl (aV rfl) (RS.t rfl RS.n)) λW hS=>⟨kL,rfl,hS.base A3 zS,rfl,Td _ _,λq h=>D0,λq h=>D0⟩
 ):P:=h
theorem Xu (h:P:=by exact⟨rfl,0,_,by rw[alloc_eq_grow,alloc_eq_grow,grow_grow];rfl⟩):P:=h
theorem zjk (h:P:=by
  try simp only[ad]at cE bV
  have Q8:=cE.1
  have KT:=bV.1
  try have aew:=bV.2.1
  exact λW hS=>⟨by omega,by omega,hS.old A1 aH aF trivial,hS.old A0 aC ay trivial⟩
 ):P:=h
theorem zkk (h:P:=by
  refine nT results17 rfl rfl A0 ?_ ?_
  all_goals(refine vi ?_;unfold yL;first|(rw[if_neg zM];done)|(rw[if_pos zM];try first|(rw[VM zM];done)|skip))
 ):P:=h
theorem zlk (h:P:=by refine PJ.again (m+1) zM zM ⟨rfl,rfl,rfl,rfl,rfl,rfl,rfl,congrArg (λb=>some (Value.bool b)) ((n1h hy hb).trans (by simp[xB,heq])).symm,rfl,trivial⟩ rfl rfl z1):P:=h
theorem zmk (h:P:=by exact(hS.links w A2).below (λk hk hx=>by rcases hx with hx|hx;(exact hx);rw[bO]at hx;simp only[book,gj,eE,iD,dz,fj,eY,dX,cO,cP,fG,or_false]at hx;omega)):P:=h
theorem znk (h:P:=by refine PJ.again (r,j+1) ⟨by dsimp only;omega,bG,by rw[nJf hx zM];exact al⟩ dL ⟨rfl,by rw[nJf hx zM];rfl,rfl,rfl,rfl,trivial⟩ (by rw[nJf hx zM];rfl) rfl z1):P:=h
theorem zok (h:P:=by
  refine B 7 ?_
  refine zxf ?_
  refine B 2 ?_
  refine zLg ?_
  refine B 7 ?_
  refine zCg ?_
  refine PJ.again (i+1) zM zM zR rfl rfl z1
 ):P:=h
theorem zpk (h:P:=by
  replace cN:=ya cN
  refine B 6 ?_
  exact PJ.mid ⟨(congrArg (λb=>some (Value.bool b)) zwb),rfl,rfl,rfl,rfl,rfl,rfl,rfl,rfl,rfl,rfl,trivial⟩
 ):P:=h
theorem zqk (h:P:=by
  intro b7 c7 s7 oy vj
  exact OJ.done (hk _ _ _ ⟨b6,b7,c7,s7,rfl,rfl,rfl,rfl,gS,xR,oy,by simpa only[Fr,Gh.lent,ad,and_true]using oy,vj⟩)
 ):P:=h
theorem zrk (h:P:=by
  induction H with
  |nil=>intro p hp;simp at hp
  |cons q H ih=>
    intro p hp
    simp only[cP]at hp
    rcases hp with rfl|hp
    · exact h.1
    · exact ih h.2 p hp
 ):P:=h
theorem zsk (h:P:=by
  refine ax results254 rfl A1 ?_
  exact vb (by unfold Gb;simp_all)
 ):P:=h
theorem ztk (h:P:=by
  have h2:(xs.toArray).map a.eval=vs.toArray:=by rw[yt,HN hF xs vs ha]
  simp only[execOp,resolve,hF.ev hx,Deferred.ofValue,h2]
  simp[invoke,gy]
 ):P:=h
theorem zuk (h:P:=by
  refine B 12 ?_
  refine ax results124 rfl A0 ?_
  first|exact vi (MY dO hx zM)|exact vi (nqn dO zM)
 ):P:=h
theorem zvk (h:P:=by
  refine nT results259 rfl rfl A0 ?_ ?_
  all_goals first|(rw[Sn];done)|exact vb (nam Sn hx)|exact vb (nuj Sn h1)
 ):P:=h
theorem zwk (h:P:=by
  have h1:=(hS.alloc (.deferred (some []))).alloc (.loop rec)
  rw[jy]at h1
  rw[Es]
  exact h1.perm (List.perm_append_comm (l₁:=[_,_]) (l₂:=H))
 ):P:=h
theorem zxk (h:P:=by
  replace aj:=ya aj
  refine B 9 ?_
  refine ax results214 rfl A1 ?_
  exact vb (by unfold qH;rw[xM];first|(simp;omega)|simp)
 ):P:=h
theorem zyk (h:P:=by
  replace aj:=ya aj
  refine B 9 ?_
  refine ax results167 rfl A1 ?_
  exact vb (by unfold uH;rw[xM];first|(simp;omega)|simp)
 ):P:=h
theorem zzk (h:P:=by
  refine nT results67 rfl rfl A1 ?_ ?_
  all_goals(refine vi ?_;unfold qg;first|(rw[if_neg hg];done)|(rw[if_pos hg];done))
 ):P:=h
theorem zAk (h:P:=by
  refine nT results66 rfl rfl A1 ?_ ?_
  all_goals(refine vi ?_;unfold kh;first|(rw[if_neg hg];done)|(rw[if_pos hg];done))
 ):P:=h
theorem zBk (h:P:=by exact FB (.inr rfl) results128 A0 hV zkc (λA hA=>.inl ⟨pre,(by first|(rw[<-td,nml hF hq,dE])|(rw[<-td,nOn hF hq Qf,dE])),hA⟩)):P:=h
theorem zCk (h:P:=by
  split
  · exact h
  · rename_i hn
    rw[List.nodup_append]
    exact⟨h,by simp,by intro a ha b hb;simp at hb;subst hb;exact λe=>hn (e▸ha)⟩
 ):P:=h
theorem zDk (h:P:=by
  refine B 11 ?_
  refine ax results12 rfl A0 ?_
  first|exact vb (nuh hx oC).symm|exact vb (Sm dO zM).symm
 ):P:=h
theorem zFk (h:P:=by
  intro i x' y' hi T8 hy'
  by_cases e':i=j
  · subst e';rw[hx]at T8;rw[hy]at hy';cases T8;cases hy';exact e
  · exact h i x' y' zM T8 hy'
 ):P:=h
theorem zGk (h:P:=by
  simp only[execOp,hF.ev hx,hF.ev hy,Sem.run_bind,h1,h2,Result.andThen]
  rfl
 ):P:=h
theorem zHk (h:P:=by
  simp only[book,gj,cO]at hk
  rcases hk with hk|hk
  · exact hH hk
  · obtain⟨p,hp,rfl⟩:=bU.1 hk
    have:=afx p hp;omega
 ):P:=h
theorem zIk (h:P:=by
  simp only[Rw.val,Value.slice.injEq]at e9
  rw[<-e9.1]at h9;exact h9
 ):P:=h
theorem zJk (h:P:=by
  by_cases hi:i<l.length
  · rw[gV hi,gV (show i<bs.length by omega)]
    simp[List.getD,show i<bs.length by omega]
  · rw[tY zM];simp
 ):P:=h
theorem zKk (h:P:=by
  refine ax results100 rfl A1 ?_
  exact vi (by first|exact nwn dO hx (decide_eq_true gO)|exact Mv dO zM)
 ):P:=h
theorem zMk (h:P:=by
  replace aj:=ya aj
  refine B 7 ?_
  refine ax results176 rfl A0 ?_
  refine vb ?_
  unfold jI
  simp;try omega
 ):P:=h
theorem zNk (h:P:=by
  refine zAf ?_
  exact⟨rfl,V2,λj hj=>by rcases xd j hj with h|h;(have:=pK j h;omega);omega,rfl,rfl⟩
 ):P:=h
theorem PU (h:P:=by rcases he with rfl|rfl<;>exact key):P:=h
theorem zPk (h:P:=by
  cases r1 with
  |nil=>trivial
  |row b cap sp=>exact hS.own (b,_) (bY _ (by simp[book,Rw.hp]) (kG _ vv).1)
 ):P:=h
theorem zQk (h:P:=by
  refine ax results152 rfl A1 ?_
  first|exact vi (nSk gO hx)|exact vi (n2m oC hx)
 ):P:=h
theorem zRk (h:P:=by
  refine ax results125 rfl A0 ?_
  exact vi zce
 ):P:=h
theorem zSk (h:P:=by
  rw[List.nodup_append]
  exact⟨hm.nd,by simp,by intro a ha b' eI;simp at eI;subst eI;have:=hm.lt a ha;omega⟩
 ):P:=h
theorem zTk (h:P:=by
  refine B 12 ?_
  refine PJ.again (j+1) zM zM ⟨rfl,rfl,congrArg some (vi zM),trivial⟩ rfl rfl z1
 ):P:=h
theorem zUk (h:P:=by
  replace aj:=ya aj
  refine B 10 ?_
  refine ax results147 rfl A2 ?_
  exact vb (by unfold Jg;simp_all)
 ):P:=h
theorem zVk (h:P:=by
  refine ax results73 rfl A4 ?_
  first|exact vb (Uk ie)|exact vb (Nb iP Bf fm)
 ):P:=h
theorem zWk (h:P:=by
  replace aj:=ya aj
  refine B 7 ?_
  refine ax results207 rfl A0 ?_
  exact vb (by simp[dM];omega)
 ):P:=h
theorem zXk (h:P:=by
  replace aj:=ya aj
  refine B 7 ?_
  refine ax results200 rfl A0 ?_
  exact vb (by simp[AD];omega)
 ):P:=h
theorem zYk (h:P:=by
  simp only[Array.getD_eq_getD_getElem?]at hf ⊢
  rw[HX (by rw[qU];exact hi)]at hf ⊢
  simpa using hf
 ):P:=h
theorem zZk (h:P:=by
  replace aj:=ya aj
  refine B 8 ?_
  refine ax results122 rfl A0 ?_
  exact vb (by simp;try omega)
 ):P:=h
theorem RT (h:P:=by exact λ_ _ _ _ _ _ _ _ hk=>hk.elim):P:=h
theorem z1k (h:P:=by
  refine ax results202 rfl A1 ?_
  exact vb zQc
 ):P:=h
theorem z2k (h:P:=by exact PJ.mid ⟨(congrArg (λb=>some (Value.bool b)) zwb),rfl,rfl,rfl,rfl,rfl,rfl,rfl,rfl,rfl,trivial⟩):P:=h
theorem z3k (h:P:=by
  intro cN
  refine Ms ?_
  refine PJ.again (j+1) ⟨by omega,dO.next hx hy gO⟩ zM zR rfl rfl z1
 ):P:=h
theorem z4k (h:P:=by
  rcases h with h|⟨b,off,h1,h2,h3⟩
  · exact .inl h
  · exact .inr ⟨b,off,h1,by omega,h3.up (hw b h2)⟩
 ):P:=h
theorem z5k (h:P:=by
  rcases cO.1 hb with hb|hb
  · have:=hm.lt b hb;simp only;omega
  · simp at hb;subst hb;simp
 ):P:=h
theorem Q9 (h:P:=by simp[Op.equalIn,run_underlying hU]):P:=h
theorem z7k (h:P:=by
  rcases hx with(hx|hx)|hx
  · exact .inl hx
  · have:=hV k hx;omega
  · exact .inr (hH k hk hx)
 ):P:=h
theorem z8k (h:P:=by
  intro aN
  refine B 8 ?_
  refine PJ.again (j+1) ⟨by omega,dO.next hx oC⟩ zM zR rfl rfl z1
 ):P:=h
theorem z9k (h:P:=by
  obtain⟨d,ly⟩:=h3 c o (by rw[pP]at fE;exact nX (fE c (cC hk))) hl
  rw[hd]at ly;cases ly
 ):P:=h
theorem Pk (h:P:=by exact vb zmd):P:=h
theorem zbl (h:P:=by
  refine Ww ?_
  unfold oW
  rw[if_neg zje]
  rfl
 ):P:=h
theorem zdl (h:P:=by
  split
  · exact⟨Int.emod_nonneg _ zQ,Int.emod_lt_of_pos _ zQ⟩
  · exact⟨by decide,by decide⟩
 ):P:=h
theorem zel (h:P:=by
  refine(hS.links w A2).below λk hk hx=>?_
  rw[bO]at hx;simp[Gh.no,book]at hx;omega
 ):P:=h
theorem zfl (h:P:=by
  intro i y hi hy
  by_cases e:i=j
  · subst e;rw[hx]at hy;cases hy;exact hp
  · exact h i y zM hy
 ):P:=h
theorem zgl (h:P:=by
  intro i y hi hy
  by_cases e:i=j
  · subst e;rw[hx]at hy;cases hy;exact hk
  · exact h i y zM hy
 ):P:=h
theorem zhl (h:P:=by
  refine zKi ?_
  exact⟨V1,ys,DT,vC,ncn oS h1,by rw[cF];omega,rfl,rfl⟩
 ):P:=h
theorem zil (h:P:=by
  intro x
  rw[<-Array.foldl_toList,Array.toList_zip]
 ):P:=h
theorem UR (h:P:=by
  have:=aV hl
  simp[hN];omega
 ):P:=h
theorem zkl (h:P:=by
  by_cases e3:j=i'
  · subst e3
    rw[h3]
    simp[(gD.1 h3).1]
  · simp[e3]
 ):P:=h
theorem zll (h:P:=by
  unfold IntKind.wrap
  simp[IntKind.bits,IntKind.signed]
 ):P:=h
theorem Y0 (h:P:=by exact λW hS=>⟨eK.1,hS.old A0 aR aY trivial⟩):P:=h
theorem znl (h:P:=by exact OJ.done (hk _ _ _ ⟨q,wr,b5,rfl,rfl,rfl,rfl,og,lE,mZ,ry,sP,Hw⟩)):P:=h
theorem zol (h:P:=by exact OJ.done (hk _ _ _ ⟨q,wr,b4,rfl,rfl,rfl,rfl,og,lE,mZ,rz,sQ,Hx⟩)):P:=h
theorem DX (h:P:=by
  refine ax results145 rfl A1 ?_
  exact z3i
 ):P:=h
theorem L3 (h:P:=by
  refine zDf ?_
  exact z3i
 ):P:=h
theorem zrl (h:P:=by exact aA):P:=h
theorem Ov (h:P:=by
  refine YX ?_
  exact Vy
 ):P:=h
theorem Sf (h:P:=by
  refine B 17 ?_
  exact WU
 ):P:=h
theorem VV (h:P:=by
  refine B 5 ?_
  refine ZC ?_
  exact ZB
 ):P:=h
theorem Xb (h:P:=by
  refine B 5 ?_
  exact Sx
 ):P:=h
theorem zwl (h:P:=by exact zrl):P:=h
theorem zxl (h:P:=by
  refine B 11 ?_
  exact L3
 ):P:=h
theorem zyl (h:P:=by exact zwl):P:=h
theorem zzl (h:P:=by exact zyl):P:=h
theorem zAl (h:P:=by exact zzl):P:=h
theorem zBl (h:P:=by exact zAl):P:=h
theorem zCl (h:P:=by exact zBl):P:=h
theorem zDl (h:P:=by exact zCl):P:=h
theorem zEl (h:P:=by exact zDl):P:=h
theorem zFl (h:P:=by exact zEl):P:=h
theorem zGl (h:P:=by exact zFl):P:=h
theorem zHl (h:P:=by exact zGl):P:=h
theorem ec (h:P:=by exact zHl):P:=h
theorem vb {a b:Bool} (h:a=b):Go.Value.bool a=Go.Value.bool b:=congrArg _ h
theorem va {a b:Array Go.Value} (h:a=b):Go.Value.agg a=Go.Value.agg b:=congrArg _ h
theorem vi {a b:Int} (h:a=b):Go.Value.int .i64 a=Go.Value.int .i64 b:=congrArg _ h
theorem vu {a b:Int} (h:a=b):Go.Value.int .u64 a=Go.Value.int .u64 b:=congrArg _ h
theorem yV (k:Q) (h:ZW Q->P:=by intro Kz;intro b w hb ha ho hm hz;replace ha:=yb ha;replace ho:=yc ho;revert b w hb hm hz ha ho;exact Kz.p):P:=h ⟨k⟩
theorem yX (k:Q) (h:ZW Q->P:=by intro Kz;refine UU rfl rfl rfl ?_;intro b w hb ha ho hm hz;replace ha:=yb ha;replace ho:=yc ho;revert b w hb hm hz ha ho;exact Kz.p):P:=h ⟨k⟩
theorem yW (k:Q) (h:ZW Q->P:=by intro Kz;intro b ha ho;replace ha:=yb ha;replace ho:=yc ho;revert b ha ho;exact Kz.p):P:=h ⟨k⟩
end Px
