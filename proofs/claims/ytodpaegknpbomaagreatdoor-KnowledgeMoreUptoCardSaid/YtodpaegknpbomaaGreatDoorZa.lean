/- Proofs by default. No condition beyond those stated. -/
import Derived.ProofKit
import Derived.KernelRfl
set_option linter.unusedSimpArgs false
set_option linter.unusedVariables false
set_option linter.unusedSectionVars false
set_option linter.unnecessarySimpa false
namespace Px
variable {P Q A S':Prop}
theorem A0 {α:Type _} {a:α} {l:List α}:a∈a::l:=.head _
theorem A1 {α:Type _} {a x0:α} {l:List α}:a∈x0::a::l:=.tail _ (.head _)
theorem A2 {α:Type _} {a x0 x1:α} {l:List α}:a∈x0::x1::a::l:=.tail _ (.tail _ (.head _))
theorem A3 {α:Type _} {a x0 x1 x2:α} {l:List α}:a∈x0::x1::x2::a::l:=.tail _ (.tail _ (.tail _ (.head _)))
theorem A4 {α:Type _} {a x0 x1 x2 x3:α} {l:List α}:a∈x0::x1::x2::x3::a::l:=.tail _ (.tail _ (.tail _ (.tail _ (.head _))))
theorem A5 {α:Type _} {a x0 x1 x2 x3 x4:α} {l:List α}:a∈x0::x1::x2::x3::x4::a::l:=.tail _ (.tail _ (.tail _ (.tail _ (.tail _ (.head _)))))
theorem A6 {α:Type _} {a x0 x1 x2 x3 x4 x5:α} {l:List α}:a∈x0::x1::x2::x3::x4::x5::a::l:=.tail _ (.tail _ (.tail _ (.tail _ (.tail _ (.tail _ (.head _))))))
theorem A7 {α:Type _} {a x0 x1 x2 x3 x4 x5 x6:α} {l:List α}:a∈x0::x1::x2::x3::x4::x5::x6::a::l:=.tail _ (.tail _ (.tail _ (.tail _ (.tail _ (.tail _ (.tail _ (.head _)))))))
theorem A8 {α:Type _} {a x0 x1 x2 x3 x4 x5 x6 x7:α} {l:List α}:a∈x0::x1::x2::x3::x4::x5::x6::x7::a::l:=.tail _ (.tail _ (.tail _ (.tail _ (.tail _ (.tail _ (.tail _ (.tail _ (.head _))))))))
theorem A9 {α:Type _} {a x0 x1 x2 x3 x4 x5 x6 x7 x8:α} {l:List α}:a∈x0::x1::x2::x3::x4::x5::x6::x7::x8::a::l:=.tail _ (.tail _ (.tail _ (.tail _ (.tail _ (.tail _ (.tail _ (.tail _ (.tail _ (.head _)))))))))
theorem A10 {α:Type _} {a x0 x1 x2 x3 x4 x5 x6 x7 x8 x9:α} {l:List α}:a∈x0::x1::x2::x3::x4::x5::x6::x7::x8::x9::a::l:=.tail _ (.tail _ (.tail _ (.tail _ (.tail _ (.tail _ (.tail _ (.tail _ (.tail _ (.tail _ (.head _))))))))))
theorem A11 {α:Type _} {a x0 x1 x2 x3 x4 x5 x6 x7 x8 x9 CT:α} {l:List α}:a∈x0::x1::x2::x3::x4::x5::x6::x7::x8::x9::CT::a::l:=.tail _ (.tail _ (.tail _ (.tail _ (.tail _ (.tail _ (.tail _ (.tail _ (.tail _ (.tail _ (.tail _ (.head _)))))))))))
theorem A12 {α:Type _} {a x0 x1 x2 x3 x4 x5 x6 x7 x8 x9 CT FC:α} {l:List α}:a∈x0::x1::x2::x3::x4::x5::x6::x7::x8::x9::CT::FC::a::l:=.tail _ (.tail _ (.tail _ (.tail _ (.tail _ (.tail _ (.tail _ (.tail _ (.tail _ (.tail _ (.tail _ (.tail _ (.head _))))))))))))
theorem A13 {α:Type _} {a x0 x1 x2 x3 x4 x5 x6 x7 x8 x9 CT FC qz:α} {l:List α}:a∈x0::x1::x2::x3::x4::x5::x6::x7::x8::x9::CT::FC::qz::a::l:=.tail _ (.tail _ (.tail _ (.tail _ (.tail _ (.tail _ (.tail _ (.tail _ (.tail _ (.tail _ (.tail _ (.tail _ (.tail _ (.head _)))))))))))))
theorem A14 {α:Type _} {a x0 x1 x2 x3 x4 x5 x6 x7 x8 x9 CT FC qz se:α} {l:List α}:a∈x0::x1::x2::x3::x4::x5::x6::x7::x8::x9::CT::FC::qz::se::a::l:=.tail _ (.tail _ (.tail _ (.tail _ (.tail _ (.tail _ (.tail _ (.tail _ (.tail _ (.tail _ (.tail _ (.tail _ (.tail _ (.tail _ (.head _))))))))))))))
theorem A15 {α:Type _} {a x0 x1 x2 x3 x4 x5 x6 x7 x8 x9 CT FC qz se tK:α} {l:List α}:a∈x0::x1::x2::x3::x4::x5::x6::x7::x8::x9::CT::FC::qz::se::tK::a::l:=.tail _ (.tail _ (.tail _ (.tail _ (.tail _ (.tail _ (.tail _ (.tail _ (.tail _ (.tail _ (.tail _ (.tail _ (.tail _ (.tail _ (.tail _ (.head _)))))))))))))))
theorem A16 {α:Type _} {a x0 x1 x2 x3 x4 x5 x6 x7 x8 x9 CT FC qz se tK x15:α} {l:List α}:a∈x0::x1::x2::x3::x4::x5::x6::x7::x8::x9::CT::FC::qz::se::tK::x15::a::l:=.tail _ (.tail _ (.tail _ (.tail _ (.tail _ (.tail _ (.tail _ (.tail _ (.tail _ (.tail _ (.tail _ (.tail _ (.tail _ (.tail _ (.tail _ (.tail _ (.head _))))))))))))))))
theorem R2 (h:P:=by exact λ_ _=>rfl):P:=h
abbrev vP:=@Option.some.injEq
abbrev ak:=@Nat.le_refl
abbrev dG:=@Nat.le_trans
abbrev lZ:=@Nat.lt_of_lt_of_le
abbrev bX:=@List.mem_cons
abbrev dt:=@List.map_cons
abbrev aT:=@Array.getElem?_eq_some_iff
abbrev Jt:=@List.getElem?_cons_zero
abbrev Im:=@List.getElem?_cons_succ
abbrev cP:=@List.mem_of_getElem?
abbrev gX:=@List.getElem?_eq_some_iff
abbrev aXp:=@List.getElem?_set_self
abbrev TJ:=@List.getElem?_set_ne
abbrev bY:=@List.mem_map
abbrev kA:=@List.mem_iff_getElem?
abbrev dO:=@Nat.le_of_ble_eq_true
abbrev Nh:=@Int.eq_ofNat_of_zero_le
abbrev C8:=@List.map_toArray
abbrev Vh:=@Array.getElem?_append_left
abbrev wD:=@List.mem_filter
abbrev NZ:=@Array.getElem?_toList
abbrev a7p:=@Array.getElem?_modify
abbrev oh:=@Bool.and_eq_true
abbrev dC:=@List.length_cons
abbrev gb:=@List.map_append
abbrev bA:=@List.mem_append
abbrev eG:=@List.length_map
abbrev adq:=@List.getElem_map
abbrev dy:=@List.not_mem_nil
abbrev Cy:=@List.ext_getElem?
abbrev agq:=@List.drop_eq_nil_iff
abbrev ck:=@List.length_append
abbrev kx:=@List.getElem?_eq_getElem
abbrev SH:=@List.getElem?_append_left
abbrev rZ:=@List.all_eq_true
abbrev tA:=@List.mem_range
abbrev DQ:=@List.getElem?_toArray
abbrev JP:=@Option.map_some
abbrev aoq:=@Array.getElem?_setIfInBounds
abbrev qq:=@List.size_toArray
abbrev lE:=@Nat.zero_add
abbrev QY:=@List.getElem?_drop
abbrev Wu:=@List.getElem_mem
abbrev sA:=@List.getElem?_map
abbrev cV:=@Nat.zero_le
abbrev eL:=@List.map_nil
abbrev fb:=@List.length_nil
abbrev iP:=@List.append_assoc
abbrev kX:=@List.eq_nil_of_length_eq_zero
abbrev Bq:=@Nat.div_add_mod
abbrev pE:=@Nat.add_mul
abbrev wo:=@Nat.mul_le_mul_right
abbrev Ig:=@Nat.mul_comm
abbrev yB:=@Int.toNat_natCast
abbrev dB:=@List.set_cons_succ
abbrev ef:=@List.nil_append
abbrev gi:=@List.cons_append
abbrev AH:=@List.take_append_drop
abbrev yx:=@List.eraseIdx_cons_succ
abbrev aJq:=@Array.getElem?_eq_getElem
abbrev BN:=@List.length_drop
abbrev kQ:=@List.length_take
abbrev SM:=@List.drop_zero
abbrev PU:=@List.take_left'
abbrev xq:=@Nat.mul_one
abbrev dV:=@List.append_nil
abbrev Ni:=@List.take_succ_eq_append_getElem
abbrev Yp:=@List.take_succ_cons
abbrev cW:=@List.set_cons_zero
abbrev sx:=@List.eraseIdx_cons_zero
abbrev Uu:=@List.flatMap_cons
abbrev Tc:=@List.mem_flatMap
abbrev vW:=@List.take_length
abbrev jO:=@List.take_of_length_le
abbrev kf:=@List.mem_singleton
abbrev aZq:=@List.findIdx?_eq_some_iff_getElem
abbrev Dp:=@Bool.eq_iff_iff
abbrev Nu:=@Array.length_toList
abbrev Z1:=@List.getElem?_append_right
abbrev QX:=@List.getElem?_take_of_lt
abbrev AK:=@Option.map_eq_some_iff
abbrev a5q:=@List.getElem?_set
abbrev Iw:=@List.foldl_append
abbrev Z2:=@List.length_pos_iff
abbrev Q8:=@List.length_filter_le
abbrev Ry:=@List.filter_cons_of_pos
abbrev Zb:=@List.filter_cons_of_neg
abbrev cI:=@List.mem_append_right
abbrev wX:=@List.mem_append_left
theorem ya (h:A) (s:A->S':=by intro h;(try simp only[decide_eq_true_eq,decide_eq_false_iff_not,Bool.not_eq_true',Bool.not_eq_false']at h);exact h):S':=s h
theorem yb (h:A) (s:A->S':=by intro h;(try simp only[ae]at h);exact h):S':=s h
theorem yc (h:A) (s:A->S':=by intro h;(try simp only[aY,book,gi,ef,cW,dB,ne_eq]at h);exact h):S':=s h
theorem yd (h:A) (s:A->S':=by intro h;(try simp only[aY,cW,dB,ne_eq,and_true]at h);exact h):S':=s h
theorem ye (h:A) (s:A->S':=by intro h;(try simp only[Fr,Gh.lent,Gh.no,ae,and_true,false_or]at h);exact h):S':=s h
theorem yf (h:A) (s:A->S':=by intro h;(try simp only[gb,dt,eL,bA,bX,dy,or_false,Gh.no,false_or]at h);exact h):S':=s h
theorem yg (h:A) (s:A->S':=by intro h;(try simp only[nZ,and_true]at h);exact h):S':=s h
theorem zA (h:P:=by first|(first|exact True.intro|assumption|(simp only[aY,jB,book,gi,ef,dV,iP,cW,dB,sx,yx,ne_eq,and_true];(repeat' apply And.intro);all_goals first|omega|exact True.intro|exact Rw.off_ge eC aa)|(simp[aY]<;>omega))|fail):P:=h
theorem zB (h:P:=by decide):P:=h
theorem zC (h:P:=by first|(first|(simp only[Over,cW,dB,sx,yx,and_true];omega)|(simp[Over]<;>omega))|fail):P:=h
theorem zD (h:P:=by simp only[ae,and_true];omega):P:=h
theorem zF (h:P:=by first|exact True.intro|(simp only[Over,cW,dB,sx,yx,and_true];omega)):P:=h
theorem zH (h:P:=by simp only[Over,nD,gi,ef,dV,cW,and_true];(repeat' apply And.intro);all_goals first|omega|exact True.intro|exact Rw.over (Rw.ge_mono bH aa)):P:=h
theorem zI (h:P:=by exact λ_ _ h=>h):P:=h
theorem zJ (h:P:=by simp):P:=h
theorem zL (h:P:=by exact λh=>h):P:=h
theorem zM (h:P:=by first|(first|(simp only[aY,book,gi,ef,cW,dB,sx,yx,ne_eq,and_true];omega)|(simp[aY]<;>omega))|fail):P:=h
theorem zN (h:P:=by exact λcv L' H' hd hP=>X.v (sP rfl)):P:=h
theorem zO (h:P:=by kernel_rfl):P:=h
theorem zP (h:P:=by simp only[aY,jB,book,gi,ef,dV,iP,cW,dB,sx,yx,ne_eq,and_true];(repeat' apply And.intro);all_goals first|omega|exact True.intro|exact Rw.off_ge jk aa):P:=h
theorem zQ (h:P:=by simp only[Over,cW,dB,and_true];omega):P:=h
theorem zS (h:P:=by cases h):P:=h
theorem zW (h:P:=by dsimp only;omega):P:=h
theorem zX (h:P:=by first|rfl|simp[book,nY,Value.cells]):P:=h
theorem zZ (h:P:=by intro k hk hx;first|(simp only[cW,dt,eL,bX,dy,or_false]at hx;omega)|(simp at hx;omega)):P:=h
theorem z1 (h:P:=by rw[show jC c.chs=false by assumption];decide):P:=h
theorem z2 (h:P:=by refine aY.of_mem λhm=>?_;first|(simp only[dt,eL,bX,dy,or_false]at hm;omega)|(simp at hm;omega)|(simp at hm)):P:=h
theorem z3 (h:P:=by exact λcv L' H' hd hP=>nf call89 rfl rfl (λW hS _=>nDb _ W) (λ_=>rfl)):P:=h
theorem z4 (h:P:=by unfold rE;rw[nhb (f:=(λg:Gr=>decide (g.olds.length<=6))) SA (decide_eq_false aa),Bool.and_false]):P:=h
theorem z5 (h:P:=by simp[Act.put,hD]):P:=h
theorem z6 (h:P:=by rw[iW];exact nT hN):P:=h
theorem z7 (h:P:=by simp[Act.put,iW]):P:=h
theorem z8 (h:P:=by unfold sT;rw[nhb (f:=(λx:We=>decide (x.w.body.length<=200))) hy (decide_eq_false aa),Bool.and_false];rfl):P:=h
theorem z9 (h:P:=by first|rfl|(rw[Dp];first|(simp;omega)|simp)):P:=h
theorem zab (h:P:=by unfold sT;rw[nhb (f:=(λx:Bx=>decide (x.w.body.length<=200))) hy (decide_eq_false aa)];rfl):P:=h
theorem KD (h:P:=by exact λcv L' H' hd hP=>X.v (bQ underlying99 rfl sizeOf3 rfl)):P:=h
theorem C1 (h:P:=by first|(simp;done)|(simp;omega)|simp_all):P:=h
theorem zdb (h:P:=by first|(refine nTe (λq hq=>?_);simp only[gi,ef,dV,bA,bX,dy,or_false,Rw.hp]at hq;(repeat' (rcases hq with hq|hq))<;>(try subst hq)<;>(dsimp only;omega))|fail):P:=h
theorem zeb (h:P:=by first|exact nre aa|exact nwf hx hy eC|exact nne aa ea aa):P:=h
theorem zfb (h:P:=by first|exact(decide_eq_true (nAg aa (λi x y hi=>ea i x y aa))).symm|exact(decide_eq_false (n5g hx hy yO)).symm|exact(decide_eq_false (λe=>by have:=congrArg List.length e;simp at this;omega)).symm):P:=h
theorem VO (h:P:=by simp only[aY,and_true];(repeat' apply And.intro);all_goals first|omega|exact True.intro):P:=h
theorem Au (h:P:=by simp only[Over,and_true];omega):P:=h
theorem zib (h:P:=by first|exact noh hx hy eC|exact nof ea hlen aa|exact nGf aa):P:=h
theorem xP (h:P:=by first|(simp[Gh.lent,keys]<;>omega)|fail):P:=h
theorem zkb (h:P:=by simp only[nC];omega):P:=h
theorem Ho (h:P:=by exact λcv L' H' _ _ hP=>X.v (sP rfl)):P:=h
theorem O5 (h:P:=by simp only[aY,gi,ef,cW,dB,ne_eq,and_true];omega):P:=h
theorem By (h:P:=by simp only[ck,dC,fb];omega):P:=h
theorem Az (h:P:=by simp only[dC,fb];omega):P:=h
theorem oR (h:P:=by simp[Rw.hp]):P:=h
theorem zqb (h:P:=by by_cases h9:cp=i2;(left;apply kX;rw[BN];omega);(right;rw[if_neg h9,kQ,Nat.min_eq_left aa,lE])):P:=h
theorem XU (h:P:=by exact λcv L' H' hd hP=>X.v (bQ underlying53 rfl sizeOf51 rfl)):P:=h
theorem XT (h:P:=by exact λcv L' H' hd hP=>X.v (bQ underlying53 rfl sizeOf48 rfl)):P:=h
theorem oI (h:P:=by simp;omega):P:=h
theorem YH (h:P:=by have:=rl _ e;dsimp only at this;simp only[aY,cW,and_true];omega):P:=h
theorem I3 (h:P:=by first|(simp[pO,keys]<;>try omega)|fail):P:=h
theorem CM (h:P:=by simpa using h1):P:=h
theorem zxb (h:P:=by first|(have g16:=f16;have g17:=f17;cases eh<;>cases eO<;>simp[aY]at g16 g17 ⊢ <;>omega)|fail):P:=h
theorem zyb (h:P:=by first|(unfold rE;rw[cx,Dp];simp_all<;>omega)|fail):P:=h
theorem OR (h:P:=by first|omega|(simp only[fb];omega)):P:=h
theorem WR (h:P:=by exact λcv L' H' hd hP=>X.v (bQ underlying200 rfl sizeOf134 rfl)):P:=h
theorem zBb (h:P:=by exact λcv L' H' hd hP=>X.v (dd underlying54 sizeOf99 rfl rfl aa aa)):P:=h
theorem Yn (h:P:=by exact λcv L' H' hd hP=>X.v (bQ underlying61 rfl sizeOf3 rfl)):P:=h
theorem zDb (h:P:=by first|(unfold sT;rw[tI,haw,Dp];simp_all<;>omega)|fail):P:=h
theorem zEb (h:P:=by first|(unfold rE;rw[Dp];simp_all<;>omega)|fail):P:=h
theorem JS (h:P:=by rw[he];omega):P:=h
theorem zGb (h:P:=by have:=wz _ e;dsimp only at this;simp only[aY,cW,and_true];omega):P:=h
theorem zHb (h:P:=by have:=(cu.links wk A1).size;omega):P:=h
theorem zIb (h:P:=by rw[hY,<-hN];exact cx):P:=h
theorem zJb (h:P:=by intro k hk hx;simp only[cW,dt,eL,bX,dy,or_false]at hx;omega):P:=h
theorem zKb (h:P:=by simp only[Over,nD,gi,ef,dV,cW,and_true];(repeat' apply And.intro);all_goals first|omega|exact True.intro|exact Rw.over (Rw.ge_mono mM aa)|exact Rw.over (Rw.ge_mono ee aa)):P:=h
theorem zLb (h:P:=by exact λcv L' H' hd hP=>X.off rfl R2):P:=h
theorem zMb (h:P:=by simp only[cW,dB,gi,ef,dV,Over];exact⟨by omega,by omega,Rw.over (Rw.ge_of aK A2)⟩):P:=h
theorem PZ (h:P:=by simp only[eG,dC,fb];omega):P:=h
theorem zOb (h:P:=by simp only[aY,jB,book,gi,ef,dV,iP,cW,dB,sx,yx,ne_eq,and_true];(repeat' apply And.intro);all_goals first|omega|exact True.intro|exact Rw.off_ge q9 aa):P:=h
theorem Ux (h:P:=by simp only[bA];exact .inr (.inl hp)):P:=h
theorem zQb (h:P:=by unfold AV;rw[if_neg aa,if_neg (by rintro(h|h|h|h|h|h);(omega);(exact k1 h);(exact k2 h);(rw[ZN]at h;exact k3 h);(exact k4 h);exact k5 h),Sr];simp_all):P:=h
theorem zRb (h:P:=by exact λcv L' H' _ _ hP=>X.v (ph rfl)):P:=h
theorem zSb (h:P:=by exact λcv L' H' hd hP=>X.v (dd underlying55 sizeOf3 rfl rfl aa aa)):P:=h
theorem zTb (h:P:=by rw[<-Jd,<-hv1]):P:=h
theorem J5 (h:P:=by simp[Gh.no]):P:=h
theorem zVb (h:P:=by rw[show(aO dJ 35 [nq (dk p.x.g.last) 9] []:Obj)=aO dJ 35 ([]++[nq (dk p.x.g.last) 9]) []from rfl,<-nGj (enc:=dJ) (A:=seA (nq (dk p.x.g.last) 9)) rfl];rfl):P:=h
theorem Bp (h:P:=by simpa using h):P:=h
theorem Xj (h:P:=by rw[dV];exact Rw.over (Rw.ge_of aK A0)):P:=h
theorem zYb (h:P:=by rw[hY];exact amD):P:=h
theorem zZb (h:P:=by exact λcv L' H' hd hP=>X.v (fp underlying33 sizeOf5 rfl rfl aa)):P:=h
theorem z0b (h:P:=by show q-1<q;omega):P:=h
theorem z1b (h:P:=by simp only[aY,jB,gi,ef,dV,and_true];(repeat' apply And.intro);all_goals first|omega|exact True.intro|exact Rw.off_ge q9 aa):P:=h
theorem Yl (h:P:=by rw[dV];exact List.perm_append_comm):P:=h
theorem Yy (h:P:=by rw[kQ,Nat.min_eq_left aa]):P:=h
theorem z4b (h:P:=by simp only[cW,dB,gi,ef];rfl):P:=h
theorem z5b (h:P:=by unfold UN;simp only[<-IA];rw[Dp];first|(simp;omega)|simp):P:=h
theorem z6b (h:P:=by exact λcv L' H' hd hP=>X.v (bQ underlying108 rfl sizeOf106 rfl)):P:=h
theorem z7b (h:P:=by first|trivial|exact True.intro):P:=h
theorem z8b (h:P:=by exact λcv L' H' hd hP=>X.v (bQ underlying61 rfl sizeOf55 rfl)):P:=h
theorem z9b (h:P:=by exact λcv L' H' hd hP=>X.v (bQ underlying108 rfl sizeOf3 rfl)):P:=h
theorem zac (h:P:=by exact λcv L' H' hd hP=>X.v (bQ underlying59 rfl sizeOf3 rfl)):P:=h
theorem zbc (h:P:=by simp only[cW,dB,Over,and_true];omega):P:=h
theorem zcc (h:P:=by intro p hp;simp at hp;subst hp;exact hfn):P:=h
theorem UA (h:P:=by simp[book,Rw.val_cells]):P:=h
theorem zec (h:P:=by obtain⟨ta,tc,wr,r8,rfl,rfl,rfl,rfl,rfl,rfl,rfl,rY,gO,qV,mJ,gW,jk⟩:=hP;exact X.v (jg rfl rfl)):P:=h
theorem S1 (h:P:=by simp[Gh.lent,keys]):P:=h
theorem zgc (h:P:=by obtain⟨ta,tc,wr,r8,rfl,rfl,rfl,rfl,rfl,rfl,rY,gO,qV,mJ,gW,jk⟩:=hP;exact X.v (jg rfl rfl)):P:=h
theorem NN (h:P:=by simpa using hl):P:=h
theorem Kq (h:P:=by simpa using h2):P:=h
theorem zjc (h:P:=by obtain⟨ta,tc,wr,r8,rfl,rfl,rfl,rfl,rfl,rY,gO,qV,mJ,gW,jk⟩:=hP;exact X.v (jg rfl rfl)):P:=h
theorem zkc (h:P:=by simp only[cW,Over,and_true];omega):P:=h
theorem zlc (h:P:=by unfold IY;rw[if_neg aa,if_neg (by rintro(h|h|h);(omega);(exact k2 h);exact k3 h),Sr];simp_all):P:=h
theorem zmc (h:P:=by first|(first|omega|(unfold cZ;(repeat' split)<;>omega))|fail):P:=h
theorem znc (h:P:=by unfold zm;rw[nhb hc yO,Bool.and_false]):P:=h
theorem zoc (h:P:=by unfold zm;rw[cx,decide_eq_true aa];rfl):P:=h
theorem UD (h:P:=by have:=nr hx;omega):P:=h
theorem zqc (h:P:=by rw[show(Value.agg (ku (sw n m (gJ n)) i)).cells=ku (sw n m (gJ n)) i from rfl,ku,Dw]):P:=h
theorem zrc (h:P:=by first|exact(RD ea hx (decide_eq_true eC)).symm|exact(Zk ea aa).symm):P:=h
theorem zsc (h:P:=by unfold zm;rw[decide_eq_false aa];rfl):P:=h
theorem VC (h:P:=by show 0<1;decide):P:=h
theorem NG (h:P:=by simp[lF]):P:=h
theorem V9 (h:P:=by rw[if_neg aa]):P:=h
theorem zwc (h:P:=by exact λcv L' H' hd hP=>X.v (xV underlying3 underlying233 rfl aa aa)):P:=h
theorem zxc (h:P:=by have:=(hS.links w1 A1).size;rw[hB.block b1 aa];exact hS.old A1 hb1 cF trivial):P:=h
theorem zyc (h:P:=by rw[if_neg aa];omega):P:=h
theorem zzc (h:P:=by have:=hqy aa;omega):P:=h
theorem zAc (h:P:=by first|assumption|simp_all):P:=h
theorem zBc (h:P:=by simp only[cW,dB,gi,ef,dV,Over];exact⟨by omega,Rw.over (Rw.ge_of aK A1)⟩):P:=h
theorem zCc (h:P:=by exact λcv L' H' hd hP=>X.v (ph rfl)):P:=h
theorem aa (h:P:=by omega):P:=h
theorem eC (h:P:=by assumption):P:=h
theorem zFc (h:P:=by have:=yQ (enc:=λx:Mm=>(AS x).toArray) (n:=2) aW (i:=1) (show[m1,m2][1]? =some m2 from rfl) rfl 1 zB;simpa[AS]using this):P:=h
theorem zGc (h:P:=by obtain⟨a7,c7,w7,rfl,rfl,rfl,jA⟩:=hP;exact nf call220 rfl rfl (λW hS _=>by have h9:=n3c G.g.ms vt W.heap.size G.ma G.mc W (ak _) (hG.ms.up cM hS.sm) (dZ G.g.ns) a7 c7 (jA.up (hS.links w7 A0).size (hS.same A0 (ak _) zI trivial));rw[decide_eq_false h1]at h9;exact h9) (λ_=>rfl)):P:=h
theorem zHc (h:P:=by obtain⟨a7,c7,w7,rfl,rfl,rfl,jA⟩:=hP;exact nf call220 rfl rfl (λW hS _=>by have h9:=n3c G.g.ms vt W.heap.size G.ma G.mc W (ak _) (hG.ms.up cM hS.sm) (dZ G.g.ns) a7 c7 (jA.up (hS.links w7 A0).size (hS.same A0 (ak _) zI trivial));rw[decide_eq_true h1]at h9;exact h9) (λ_=>rfl)):P:=h
theorem zIc (h:P:=by have:=nN (enc:=λx=>(aA x).toArray) (n:=1) K4 IJ rfl zB;simpa[aA]using this):P:=h
theorem zJc (h:P:=by have:=nN (enc:=λx=>(aA x).toArray) (n:=1) pY hy rfl zB;simpa[aA]using this):P:=h
theorem yO (h:P:=by simp_all):P:=h
theorem zLc (h:P:=by obtain⟨c0,t0,h0⟩:=hse.h0;obtain⟨c1,t1,h1⟩:=hse.h1;exact nYl a1 a0 c1 c0 t1 t0 W (λe=>hse.ne e.symm) (hS.old A4 h1 zL trivial) (hS.old A4 h0 zL trivial)):P:=h
theorem zMc (h:P:=by subst h;have h9:=mE.mem wk zJ;exact⟨λu hu=>(by have:=((f11 rfl).2.2.2.2.1 u hu).2;omega),λu hu=>(by have:=((f11 rfl).2.2.2.2.2.1 u hu).2;omega)⟩):P:=h
theorem zNc (h:P:=by intro p hp;simp at hp;subst hp;exact .inl zJ):P:=h
theorem zOc (h:P:=by first|(intro p hp;simp only[bX,dy,or_false]at hp;rcases hp with rfl|rfl<;>exact .inl zJ)|fail):P:=h
theorem zPc (h:P:=by have:=yQ (i:=(j:Int)-1) aW hy aa 0 zB;simpa[fN]using this):P:=h
theorem zY (h:P:=by exact rfl):P:=h
theorem sZ (h:P:=by first|assumption|exact λh=>h):P:=h
theorem aI (h:P:=by with_reducible first|exact isAgg3|exact isAgg4|exact isAgg9|exact isAgg22|exact isAgg23|exact isAgg24|exact isAgg25|exact isAgg26|exact isAgg31|exact isAgg33|exact isAgg35|exact isAgg38|exact isAgg48|exact isAgg49|exact isAgg51|exact isAgg53|exact isAgg54|exact isAgg55|exact isAgg56|exact isAgg57|exact isAgg59|exact isAgg61|exact isAgg71|exact isAgg72|exact isAgg76|exact isAgg79|exact isAgg85|exact isAgg87|exact isAgg89|exact isAgg92|exact isAgg97|exact isAgg99|exact isAgg106|exact isAgg108|exact isAgg110|exact isAgg114|exact isAgg119|exact isAgg121|exact isAgg127|exact isAgg131|exact isAgg134|exact isAgg137|exact isAgg138|exact isAgg142|exact isAgg145|exact isAgg156|exact isAgg159|exact isAgg165|exact isAgg200|exact isAgg233|exact isAgg240|exact isAgg248|exact isAgg288|exact isAgg294|exact isAgg303|exact isAgg310|exact isAgg312|exact isAgg373|exact isAgg374):P:=h
theorem od (h:P:=by first|exact Nat.le_of_ble_eq_true rfl|exact dE (by assumption) (by assumption) (by exact rfl)):P:=h
theorem xk (h:P:=by first|exact A0|exact A1|exact A2|exact A3|exact A4|exact A5|exact A6|exact A7|exact A8|exact A9):P:=h
theorem xl (h:P:=by first|exact True.intro|assumption|(simp only[aY,jB,book,List.cons_append,List.nil_append,List.append_nil,List.append_assoc,List.set_cons_zero,List.set_cons_succ,List.eraseIdx_cons_zero,List.eraseIdx_cons_succ,ne_eq,and_true];(repeat' apply And.intro);all_goals first|omega|exact True.intro|exact Rw.off_ge (by assumption) (by omega))|(simp[aY]<;>omega)):P:=h
theorem ay (h:P:=by(try(conv=>arg 2;whnf));with_reducible first|exact sizeOf3|exact sizeOf4|exact sizeOf5|exact sizeOf9|exact sizeOf22|exact sizeOf23|exact sizeOf24|exact sizeOf25|exact sizeOf26|exact sizeOf27|exact sizeOf28|exact sizeOf29|exact sizeOf31|exact sizeOf33|exact sizeOf35|exact sizeOf38|exact sizeOf48|exact sizeOf49|exact sizeOf51|exact sizeOf53|exact sizeOf54|exact sizeOf55|exact sizeOf56|exact sizeOf57|exact sizeOf59|exact sizeOf61|exact sizeOf71|exact sizeOf72|exact sizeOf75|exact sizeOf76|exact sizeOf77|exact sizeOf79|exact sizeOf85|exact sizeOf87|exact sizeOf89|exact sizeOf92|exact sizeOf97|exact sizeOf99|exact sizeOf100|exact sizeOf106|exact sizeOf108|exact sizeOf110|exact sizeOf114|exact sizeOf119|exact sizeOf121|exact sizeOf127|exact sizeOf131|exact sizeOf134|exact sizeOf137|exact sizeOf138|exact sizeOf142|exact sizeOf156|exact sizeOf159|exact sizeOf200|exact sizeOf233|exact sizeOf240|exact sizeOf248|exact sizeOf285|exact sizeOf287|exact sizeOf288|exact sizeOf303|exact sizeOf348|exact sizeOf350|exact sizeOf373|exact sizeOf374|exact sizeOf424):P:=h
theorem bK (h:P:=by with_reducible first|exact underlying3|exact underlying5|exact underlying20|exact underlying22|exact underlying23|exact underlying24|exact underlying25|exact underlying26|exact underlying31|exact underlying33|exact underlying35|exact underlying38|exact underlying48|exact underlying49|exact underlying51|exact underlying53|exact underlying54|exact underlying55|exact underlying56|exact underlying57|exact underlying59|exact underlying61|exact underlying71|exact underlying72|exact underlying75|exact underlying76|exact underlying79|exact underlying85|exact underlying87|exact underlying89|exact underlying92|exact underlying97|exact underlying99|exact underlying106|exact underlying108|exact underlying110|exact underlying114|exact underlying119|exact underlying121|exact underlying123|exact underlying127|exact underlying131|exact underlying134|exact underlying138|exact underlying142|exact underlying156|exact underlying159|exact underlying162|exact underlying173|exact underlying180|exact underlying200|exact underlying222|exact underlying233|exact underlying240|exact underlying248|exact underlying287|exact underlying303|exact underlying350|exact underlying352|exact underlying370|exact underlying374|exact underlying377|exact underlying424|exact underlying426):P:=h
theorem iL (h:P:=by with_reducible first|exact zeroValue3|exact zeroValue4|exact zeroValue31|exact zeroValue33|exact zeroValue35|exact zeroValue51|exact zeroValue53|exact zeroValue55|exact zeroValue56|exact zeroValue59|exact zeroValue61|exact zeroValue71|exact zeroValue79|exact zeroValue87|exact zeroValue89|exact zeroValue92|exact zeroValue97|exact zeroValue99|exact zeroValue110|exact zeroValue114|exact zeroValue119|exact zeroValue121|exact zeroValue127|exact zeroValue131|exact zeroValue137|exact zeroValue142|exact zeroValue156|exact zeroValue159|exact zeroValue180|exact zeroValue200|exact zeroValue233|exact zeroValue240|exact zeroValue248|exact zeroValue288|exact zeroValue352|exact zeroValue370|exact zeroValue374|exact zeroValue424|exact zeroValue426):P:=h
theorem abV (h:P:=by repeat(first|exact sS.n|(apply sS.c;exact ay))):P:=h
theorem TS (h:P:=by first|exact rfl|exact vb (decide_eq_false (by omega))|exact vb (decide_eq_true (by omega))|exact va (Eq.trans (eK (by assumption) (by assumption) (by exact rfl)) (by exact rfl))|exact vu (by omega)|exact congrArg ab (by omega)|exact vb (by first|(simp;done)|(simp;omega))):P:=h
theorem bj (h:P:=by repeat(first|exact RS.n|(apply RS.t;exact rfl)|(apply RS.w (i:=0);exact rfl;exact aI;exact rfl;exact rfl)|(apply RS.w (i:=1);exact rfl;exact aI;exact rfl;exact rfl)|(apply RS.w (i:=2);exact rfl;exact aI;exact rfl;exact rfl)|(apply RS.w (i:=3);exact rfl;exact aI;exact rfl;exact rfl)|(apply RS.w (i:=4);exact rfl;exact aI;exact rfl;exact rfl)|(apply RS.w (i:=5);exact rfl;exact aI;exact rfl;exact rfl)|(apply RS.wAw (i:=0);exact rfl;exact aI;exact ay;exact rfl;exact rfl)|(apply RS.wA (i:=0);exact rfl;exact aI;exact ay;exact rfl;exact od)|(apply RS.wAw (i:=1);exact rfl;exact aI;exact ay;exact rfl;exact rfl)|(apply RS.wA (i:=1);exact rfl;exact aI;exact ay;exact rfl;exact od)|(apply RS.wAw (i:=2);exact rfl;exact aI;exact ay;exact rfl;exact rfl)|(apply RS.wA (i:=2);exact rfl;exact aI;exact ay;exact rfl;exact od)|(apply RS.wAw (i:=3);exact rfl;exact aI;exact ay;exact rfl;exact rfl)|(apply RS.wA (i:=3);exact rfl;exact aI;exact ay;exact rfl;exact od)|(apply RS.wAw (i:=4);exact rfl;exact aI;exact ay;exact rfl;exact rfl)|(apply RS.wA (i:=4);exact rfl;exact aI;exact ay;exact rfl;exact od)|(apply RS.wAw (i:=5);exact rfl;exact aI;exact ay;exact rfl;exact rfl)|(apply RS.wA (i:=5);exact rfl;exact aI;exact ay;exact rfl;exact od)|(apply RS.r;exact aI;exact rfl;exact xk;exact sZ;exact sZ;exact xl;exact rfl)|(apply RS.rA;exact aI;exact ay;exact rfl;exact xk;exact sZ;exact sZ;exact xl;exact od))):P:=h
theorem cM (h:P:=by first|exact Nat.le_trans hN (hS.links w A0).size|exact Nat.le_trans hN (hS.links w A1).size|exact Nat.le_trans hN (hS.links w A2).size|exact Nat.le_trans hN (hS.links w A3).size|exact Nat.le_trans hN (hS.links w A4).size|exact Nat.le_trans hN (hS.links w A5).size|exact Nat.le_trans hN (hS.links w A6).size|exact Nat.le_trans hN (hS.links w A7).size|exact Nat.le_trans hN (hS.links w A8).size|exact Nat.le_trans hN (hS.links w A9).size):P:=h
theorem OY (h:P:=by first|(first|((with_reducible show RV _ _ _ _ _ (.move _) _);exact sP zY)|((with_reducible show RV _ _ _ _ _ (.assign _) _);exact tz zY)|((with_reducible show RV _ _ _ _ _ (.fieldAddr _ _ _) _);exact bQ bK zY ay zY)|((with_reducible show RV _ _ _ _ _ (.extract _ _) _);exact jg zY zY)|((with_reducible show RV _ _ _ _ _ (.binOp .add _ _ _ _) _);first|exact hJ zY zY aa aa|exact HN zY zY aa aa)|((with_reducible show RV _ _ _ _ _ (.pick _ _ _) _);first|exact abm zY zY|exact abn zY zY)|((with_reducible show RV _ _ _ _ _ (.call _) _);first|exact iQ bK zY|exact T6 bK zY))|(first|((with_reducible show RV _ _ _ _ _ (.binOp .lss _ _ _ _) _);exact AY zY zY)|((with_reducible show RV _ _ _ _ _ (.indexAddr _ _ _) _);first|exact dd bK ay zY zY aa aa|exact ui bK ay zY zY aa aa)|((with_reducible show RV _ _ _ _ _ (.load _ _) _);first|exact Ck (i:=0) zY zY aI zY|exact Ck (i:=1) zY zY aI zY|exact Ck (i:=2) zY zY aI zY|exact Ck (i:=3) zY zY aI zY|exact Ck (i:=4) zY zY aI zY|exact Ck (i:=5) zY zY aI zY|exact aly zY sZ aI xk sZ xl zY|exact px (i:=0) zY zY aI ay zY|exact px (i:=1) zY zY aI ay zY|exact px (i:=2) zY zY aI ay zY|exact px (i:=3) zY zY aI ay zY|exact px (i:=4) zY zY aI ay zY|exact px (i:=5) zY zY aI ay zY|exact TR zY sZ aI ay xk sZ xl zY|exact tU (i:=0) zY zY aI ay od|exact tU (i:=1) zY zY aI ay od|exact tU (i:=2) zY zY aI ay od|exact tU (i:=3) zY zY aI ay od|exact tU (i:=4) zY zY aI ay od|exact tU (i:=5) zY zY aI ay od|exact abx zY sZ aI ay xk sZ xl od)|((with_reducible show RV _ _ _ _ _ (.unOp .not _ _) _);exact iT zY)|((with_reducible show RV _ _ _ _ _ (.binOp .geq _ _ _ _) _);exact abp zY zY)|((with_reducible show RV _ _ _ _ _ (.binOp .eql _ _ _ _) _);first|exact lK zY zY|exact PD zY zY)|((with_reducible show RV _ _ _ _ _ (.nilCheck _) _);exact ph zY))|(first|((with_reducible show RV _ _ _ _ _ (.binOp .gtr _ _ _ _) _);exact HJ zY zY)|((with_reducible show RV _ _ _ _ _ (.makeFunc _ _ _) _);exact abw zY)|((with_reducible show RV _ _ _ _ _ (.binOp .neq _ _ _ _) _);first|exact cQ zY zY|exact Sl bK zY zY|exact qU bK zY zY)|((with_reducible show RV _ _ _ _ _ (.binOp .sub _ _ _ _) _);first|exact qI zY zY aa aa|exact tX zY zY aa aa)|((with_reducible show RV _ _ _ _ _ (.convert _ _ _) _);first|exact xV bK bK zY aa aa|exact yl bK bK zY aa aa)|((with_reducible show RV _ _ _ _ _ (.build _ _) _);first|exact Hp bK iL ay zY zY|exact zl bK iL abV zY zY)|((with_reducible show RV _ _ _ _ _ (.binOp .leq _ _ _ _) _);exact abo zY zY))|(first|((with_reducible show RV _ _ _ _ _ (.binOp .mul _ _ _ _) _);exact ve zY zY aa aa))):P:=h
theorem zR (h:P:=by repeat(first|exact trivial|refine⟨rfl,?_⟩)):P:=h
theorem zDr (h:P:=by repeat(first|exact Dr.z|apply Dr.s)):P:=h
theorem zKn (h:P:=by repeat(first|exact Kn.nil|(apply Kn.keep;exact rfl)|(apply Kn.skip;exact rfl))):P:=h
theorem zSU (h:P:=by repeat(first|exact trivial|refine⟨rfl,?_⟩)):P:=h
theorem zKS (h:P:=by repeat(first|(apply KS.done;exact rfl)|(apply KS.keep;exact rfl)|(apply KS.skip;exact rfl)|exact KS.nil)):P:=h
theorem zch (h:P:=by intro cv L' H' hd hP;(rcases cv with _|⟨v1,_|⟨v2,_|⟨_,_⟩⟩⟩<;>try exact False.elim hP);all_goals(first|obtain⟨rfl,rfl⟩:=hP|obtain⟨b6,rfl,rfl,rfl,jD,CB⟩:=hP|obtain⟨b6,b7,c7,s7,rfl,rfl,rfl,rfl,jD,CB,tv,Up,CC⟩:=hP);all_goals(first|exact X.v (av isAgg3 rfl A0 hb3 cK zM rfl))):P:=h
theorem zci (h:P:=by intro cv L' H' hd hP;(rcases cv with _|⟨v1,_|⟨v2,_|⟨v3,_|⟨_,_⟩⟩⟩⟩<;>try exact False.elim hP);all_goals(first|obtain⟨rfl,rfl⟩:=hP|obtain⟨b6,rfl,rfl,rfl,jD,CB⟩:=hP|obtain⟨b6,b7,c7,s7,rfl,rfl,rfl,rfl,jD,CB,tv,Up,CC⟩:=hP|obtain⟨b6,b7,c7,s7,ik,c12,WN,rfl,rfl,rfl,rfl,rfl,jD,CB,tv,Up,CC,WO,afE,WQ⟩:=hP);all_goals(first|exact X.v (av isAgg9 rfl A0 hb3 cK zM rfl))):P:=h
theorem zcj (h:P:=by intro cv L' H' hd hP;(rcases cv with _|⟨v1,_|⟨v2,_|⟨_,_⟩⟩⟩<;>try exact False.elim hP);all_goals(first|obtain⟨rfl,rfl⟩:=hP|obtain⟨b9,rfl,rfl,rfl,xn,PI⟩:=hP|obtain⟨b9,gf,Io,JF,rfl,rfl,rfl,rfl,xn,PI,JG,PK,yA⟩:=hP);all_goals(first|exact X.v (av isAgg134 rfl A0 hb4 Cu zM rfl))):P:=h
theorem NO (h:P:=by intro cv L' H' hd hP;(rcases cv with _|⟨v1,_|⟨_,_⟩⟩<;>try exact False.elim hP);all_goals(first|obtain⟨rfl,rfl⟩:=hP|obtain⟨a7,c7,w7,rfl,rfl,rfl,jA⟩:=hP);all_goals(first|exact X.v (av isAgg48 rfl A0 hb1 cF trivial rfl)|exact X.v (av isAgg48 rfl A1 hb1 cF trivial rfl)|exact X.v (RV.re (dQ isAgg51 sizeOf51 rfl A0 hb1 cF trivial (dO rfl)) rfl)|exact X.v (RV.re (dQ isAgg51 sizeOf51 rfl A1 hb1 cF trivial (dO rfl)) rfl))):P:=h
theorem UT (h:P:=by intro cv L' H' hd hP;(rcases cv with _|⟨v1,_|⟨v2,_|⟨v3,_|⟨v4,_|⟨_,_⟩⟩⟩⟩⟩<;>try exact False.elim hP);all_goals(first|obtain⟨rfl,rfl⟩:=hP|obtain⟨l9,rfl,rfl,rfl,kD⟩:=hP|obtain⟨l9,bn,cn,sn,rfl,rfl,rfl,rfl,rfl,kD,hfn,tF⟩:=hP|obtain⟨l9,bn,cn,sn,rfl,rfl,rfl,rfl,kD,hfn,tF⟩:=hP|obtain⟨l9,bn,cn,sn,mD,rfl,rfl,rfl,rfl,rfl,rfl,kD,hfn,tF,uI⟩:=hP);all_goals(first|exact X.v (bJ (i:=3) rfl isAgg134 rfl rfl)|exact X.v (bJ (i:=4) rfl isAgg134 rfl rfl)|exact X.v (bJ (i:=5) rfl isAgg134 rfl rfl)|exact X.v (bJ (i:=6) rfl isAgg134 rfl rfl)|exact X.v (bJ (i:=0) rfl isAgg3 rfl rfl)|exact X.v (bJ (i:=1) rfl isAgg3 rfl rfl)|exact X.v (bJ (i:=2) rfl isAgg3 rfl rfl)|exact X.v (bJ (i:=3) rfl isAgg3 rfl rfl))):P:=h
theorem xA (h:P:=by intro cv L' H' hd hP;(rcases cv with _|⟨v1,_|⟨v2,_|⟨v3,_|⟨_,_⟩⟩⟩⟩<;>try exact False.elim hP);all_goals(first|obtain⟨rfl,rfl⟩:=hP|obtain⟨bn,rfl,rfl,rfl,rfl,hfn⟩:=hP|obtain⟨bn,rfl,rfl,rfl,hfn⟩:=hP|obtain⟨bn,mD,rfl,rfl,rfl,rfl,rfl,hfn,uI⟩:=hP);all_goals(first|exact X.v (bJ (i:=2) rfl isAgg134 rfl rfl)|exact X.v (bJ (i:=3) rfl isAgg134 rfl rfl)|exact X.v (bJ (i:=4) rfl isAgg134 rfl rfl)|exact X.v (bJ (i:=0) rfl isAgg3 rfl rfl)|exact X.v (bJ (i:=1) rfl isAgg3 rfl rfl)|exact X.v (bJ (i:=2) rfl isAgg3 rfl rfl)|exact X.v (bJ (i:=0) rfl isAgg106 rfl rfl)|exact X.v (bJ (i:=1) rfl isAgg106 rfl rfl)|exact X.v (bJ (i:=2) rfl isAgg106 rfl rfl)|exact nf call90 rfl rfl (λW hS _=>Yh x.w.body N x.w.ba x.w.bc W cM (ByAt.up qx (ak _) (λk hk=>(hS.links w A1).block k aa (λhx=>by first|(rcases hx with hx|hx;(exact hx);simp only[gb,dt,eL,gi,ef,dV,bA,bX,dy,or_false]at hx;rcases hx with hx|hx|hx|hx|hx<;>first|omega|(have:=hq _ hx;omega)|(have h9:=hfn.not (w:=w) A1;omega)|(have h9:=uI.not (w:=w) A1;omega))|fail)))) (λ_=>rfl)|exact nf call90 rfl rfl (λW hS _=>Yh x.w.body N x.w.ba x.w.bc W cM (ByAt.up qx (ak _) (λk hk=>(hS.links w A1).block k aa (λhx=>by first|(rcases hx with hx|hx;(exact hx);simp only[gb,dt,eL,gi,ef,dV,bA,bX,dy,or_false]at hx;rcases hx with hx|hx|hx|hx|hx|hx<;>first|omega|(have:=hq _ hx;omega)|(have h9:=hfn.not (w:=w) A1;omega)|(have h9:=uI.not (w:=w) A1;omega))|fail)))) (λ_=>rfl)|exact nf call90 rfl rfl (λW hS _=>Yh x.w.body N x.w.ba x.w.bc W cM (ByAt.up qx (ak _) (λk hk=>(hS.links w A1).block k aa (λhx=>by first|(rcases hx with hx|hx;(exact hx);simp only[gb,dt,eL,gi,ef,dV,bA,bX,dy,or_false]at hx;rcases hx with hx|hx|hx|hx|hx|hx|hx<;>first|omega|(have:=hq _ hx;omega)|(have h9:=hfn.not (w:=w) A1;omega)|(have h9:=uI.not (w:=w) A1;omega))|fail)))) (λ_=>rfl)|exact X.v (bJ (i:=1) rfl isAgg134 rfl rfl)|exact nf call129 rfl rfl (λW hS _=>by have h1:=hS.own (b5,_) A0;have h2:=IV (cy y.f) W.heap.size (aj b5) 32 W (ak _) (.inr ⟨b5,0,rfl,(aT.1 h1).1,cj.dgo h1 rfl (dO rfl) fH⟩);rw[nR]at h2;exact h2) (λ_=>rfl)|exact nf call129 rfl rfl (λW hS _=>by have h1:=hS.own (b5,_) A1;have h2:=IV (cy y.f) W.heap.size (aj b5) 32 W (ak _) (.inr ⟨b5,0,rfl,(aT.1 h1).1,cj.dgo h1 rfl (dO rfl) fH⟩);rw[nR]at h2;exact h2) (λ_=>rfl)|exact nf call129 rfl rfl (λW hS _=>by have h1:=hS.own (b5,_) A2;have h2:=IV (cy y.f) W.heap.size (aj b5) 32 W (ak _) (.inr ⟨b5,0,rfl,(aT.1 h1).1,cj.dgo h1 rfl (dO rfl) fH⟩);rw[nR]at h2;exact h2) (λ_=>rfl)|exact nf call129 rfl rfl (λW hS _=>IV y.w.body N y.w.ba y.w.bc W cM (ByAt.up qx (ak _) (λk hk=>(hS.links w A1).block k aa (λhx=>by first|(rcases hx with hx|hx;(exact hx);simp only[gb,dt,eL,gi,ef,dV,bA,bX,dy,or_false]at hx;rcases hx with hx|hx|hx<;>first|omega|(have:=hq _ hx;omega)|(have h9:=hfn.not (w:=w) A1;omega)|(have h9:=uI.not (w:=w) A1;omega))|fail)))) (λ_=>rfl)|exact nf call129 rfl rfl (λW hS _=>IV y.w.body N y.w.ba y.w.bc W cM (ByAt.up qx (ak _) (λk hk=>(hS.links w A1).block k aa (λhx=>by first|(rcases hx with hx|hx;(exact hx);simp only[gb,dt,eL,gi,ef,dV,bA,bX,dy,or_false]at hx;rcases hx with hx|hx|hx|hx<;>first|omega|(have:=hq _ hx;omega)|(have h9:=hfn.not (w:=w) A1;omega)|(have h9:=uI.not (w:=w) A1;omega))|fail)))) (λ_=>rfl)|exact nf call129 rfl rfl (λW hS _=>IV y.w.body N y.w.ba y.w.bc W cM (ByAt.up qx (ak _) (λk hk=>(hS.links w A1).block k aa (λhx=>by first|(rcases hx with hx|hx;(exact hx);simp only[gb,dt,eL,gi,ef,dV,bA,bX,dy,or_false]at hx;rcases hx with hx|hx|hx|hx|hx<;>first|omega|(have:=hq _ hx;omega)|(have h9:=hfn.not (w:=w) A1;omega)|(have h9:=uI.not (w:=w) A1;omega))|fail)))) (λ_=>rfl))):P:=h
theorem ER (h:P:=by intro cv L' H' hd hP;(rcases cv with _|⟨v1,_|⟨v2,_|⟨_,_⟩⟩⟩<;>try exact False.elim hP);all_goals(first|obtain⟨rfl,rfl⟩:=hP|obtain⟨xB,rfl,rfl,rfl,rfl,q9,ra⟩:=hP|obtain⟨xB,rfl,rfl,rfl,q9,ra⟩:=hP);all_goals(first|exact X.v (av isAgg3 rfl A0 hb1 cF zOb rfl)|exact nf call90 rfl rfl (λW hS _=>by have h1:=hS.old A0 hb1 cF z1b;have h2:=Yh (cy c.par) W.heap.size (some ⟨b1,2,none⟩) 32 W (ak _) (.inr ⟨b1,2,rfl,(aT.1 h1).1,cj.dgo h1 rfl (dO rfl) qX.bp⟩);rw[nR]at h2;exact h2) (λ_=>rfl)|exact X.v (dT (i:=2) rfl isAgg200 sizeOf200 rfl rfl)|exact X.v (av isAgg55 rfl A0 hb1 cF zOb rfl)|exact X.v (dT (i:=1) rfl isAgg200 sizeOf200 rfl rfl)|exact X.v (dT (i:=0) rfl isAgg200 sizeOf200 rfl rfl)|exact nf call90 rfl rfl (λW hS _=>by have h1:=hS.old A0 hb1 cF z1b;have h2:=Yh (cy c.conf) W.heap.size (some ⟨b1,39,none⟩) 32 W (ak _) (.inr ⟨b1,39,rfl,(aT.1 h1).1,cj.dgo h1 rfl (dO rfl) qX.bf⟩);rw[nR]at h2;exact h2) (λ_=>rfl))):P:=h
theorem N4 (h:P:=by intro cv L' H' hd hP;(rcases cv with _|⟨v1,_|⟨v2,_|⟨v3,_|⟨v4,_|⟨v5,_|⟨_,_⟩⟩⟩⟩⟩⟩<;>try exact False.elim hP);all_goals(first|obtain⟨rfl,rfl⟩:=hP|obtain⟨ta,tc,wr,rfl,rfl,rfl,rY,gO,qV⟩:=hP|obtain⟨ta,tc,wr,r8,rfl,rfl,rfl,rfl,rfl,rfl,rfl,rY,gO,qV,mJ,gW,jk⟩:=hP|obtain⟨ta,tc,wr,r8,rfl,rfl,rfl,rfl,rfl,rfl,rY,gO,qV,mJ,gW,jk⟩:=hP|obtain⟨ta,tc,wr,r8,rfl,rfl,rfl,rfl,rfl,rY,gO,qV,mJ,gW,jk⟩:=hP|obtain⟨ta,tc,wr,r8,rfl,rfl,rfl,rfl,rY,gO,qV,mJ,gW,jk⟩:=hP);all_goals(first|exact X.v (cd isAgg53 sizeOf53 rfl A4 da bW zP rfl)|exact X.v (cd isAgg53 sizeOf53 rfl A5 da bW zP rfl)|exact X.v (av isAgg54 rfl A3 hb3 cK zP rfl)|exact X.v (av isAgg54 rfl A4 hb3 cK zP rfl)|exact X.v (av isAgg3 rfl A3 hb3 cK zP rfl)|exact X.v (av isAgg3 rfl A4 hb3 cK zP rfl)|exact X.v (av isAgg55 rfl A3 hb3 cK zP rfl)|exact X.v (av isAgg55 rfl A4 hb3 cK zP rfl))):P:=h
theorem zcp (h:P:=by intro cv L' H' hl hd hP;(obtain⟨x3,x4,x8,x9,rfl⟩:=uH hl;rcases x3 with _|v3<;>rcases x4 with _|v4<;>rcases x8 with _|v8<;>rcases x9 with _|v9<;>try exact False.elim hP);all_goals(first|obtain⟨rfl,rfl⟩:=hP|obtain⟨jc,rfl,rfl,rfl,lj⟩:=hP|obtain⟨gY,rfl,rfl,rfl,lh⟩:=hP|obtain⟨jc,gY,rfl,rfl,rfl,rfl,lj,lh⟩:=hP|obtain⟨jc,ky,gD,iD,rfl,rfl,rfl,rfl,lj,qg,fw⟩:=hP|obtain⟨jc,ky,gD,iD,gY,rfl,rfl,rfl,rfl,rfl,lj,qg,fw,lh⟩:=hP|obtain⟨jc,ky,gD,iD,gY,CS,wC,zg,rfl,rfl,rfl,rfl,rfl,rfl,lj,qg,fw,lh,zh,uR⟩:=hP);all_goals(first|exact X.v (bJ (i:=3) rfl isAgg72 rfl rfl)|exact X.v (bJ (i:=4) rfl isAgg72 rfl rfl)|exact X.v (bJ (i:=5) rfl isAgg72 rfl rfl)|exact X.v (dT (i:=0) rfl isAgg33 sizeOf33 rfl rfl)|exact X.v (dT (i:=1) rfl isAgg33 sizeOf33 rfl rfl)|exact X.v (dT (i:=2) rfl isAgg33 sizeOf33 rfl rfl)|exact X.v (bJ (i:=3) rfl isAgg55 rfl rfl)|exact X.v (bJ (i:=4) rfl isAgg55 rfl rfl)|exact X.v (bJ (i:=5) rfl isAgg55 rfl rfl))):P:=h
theorem Y9 (h:P:=by intro cv L' H' hl hd hP;(obtain⟨qz,se,tK,xJ,xK,rfl⟩:=sO hl;rcases qz with _|v12<;>rcases se with _|wH<;>rcases tK with _|B7<;>rcases xJ with _|wG<;>rcases xK with _|v17<;>try exact False.elim hP);all_goals(first|obtain⟨rfl,rfl⟩:=hP|obtain⟨b7,rfl,rfl,rfl,jy⟩:=hP|obtain⟨Xn,eJ,rfl,rfl,rfl,rfl,rfl,fE,jv,lu,lx⟩:=hP|obtain⟨Xn,eJ,rfl,rfl,rfl,rfl,fE,jv,lu,lx⟩:=hP|obtain⟨Xn,eJ,rfl,rfl,rfl,fE,jv,lu,lx⟩:=hP|obtain⟨Xn,eJ,b7,rfl,rfl,rfl,rfl,rfl,rfl,rfl,fE,jv,lu,lx,jy,sf⟩:=hP|obtain⟨Xn,eJ,b7,rfl,rfl,rfl,rfl,rfl,rfl,fE,jv,lu,lx,jy,sf⟩:=hP|obtain⟨Xn,eJ,b7,rfl,rfl,rfl,rfl,rfl,fE,jv,lu,lx,jy,sf⟩:=hP|obtain⟨Xn,eJ,b7,rfl,rfl,rfl,rfl,fE,jv,lu,lx,jy,sf⟩:=hP);all_goals(first|exact X.v (av isAgg3 rfl A0 hb3 cK zM rfl)|exact X.v (av isAgg3 rfl A1 hb3 cK zM rfl)|exact X.v (av isAgg24 rfl A1 da bW zM rfl)|exact X.v (av isAgg24 rfl A2 da bW zM rfl)|exact X.v (av isAgg55 rfl A1 da bW zM rfl)|exact X.v (av isAgg55 rfl A2 da bW zM rfl)|exact X.v (av (v:=ab (i:Int)) isAgg3 rfl A2 Fw zL VO zIc)|exact X.v (av (v:=ab (i:Int)) isAgg3 rfl A3 Fw zL VO zIc)|exact X.v (RV.re (v':=.agg (cG c)) (dQ isAgg61 sizeOf61 rfl A2 wF zL VO (dE qh hc rfl)) (va (eK qh hc rfl)))|exact X.v (RV.re (v':=.agg (cG c)) (dQ isAgg61 sizeOf61 rfl A3 wF zL VO (dE qh hc rfl)) (va (eK qh hc rfl))))):P:=h
theorem IM (h:P:=by intro cv L' H' hd hP;(rcases cv with _|⟨v1,_|⟨_,_⟩⟩<;>try exact False.elim hP);all_goals(first|obtain⟨rfl,rfl,rfl⟩:=hP|obtain⟨rfl,rfl⟩:=hP);all_goals(first|exact X.v (av isAgg55 rfl A2 da bW zM rfl)|exact X.v (av (v:=ab (i:Int)) isAgg3 rfl A3 Fw zL VO zIc)|exact X.v (av isAgg24 rfl A2 da bW zM rfl)|exact X.v (RV.re (v':=.agg (cG c)) (dQ isAgg61 sizeOf61 rfl A3 wF zL VO (dE qh hc rfl)) (va (eK qh hc rfl)))|exact X.v (RV.re (dQ isAgg33 sizeOf33 rfl A1 hb3 cK zM (dO rfl)) rfl)|exact X.v (dT (i:=0) rfl isAgg53 sizeOf53 rfl rfl)|exact X.v (dT (i:=2) rfl isAgg61 sizeOf61 rfl rfl)|exact X.v (dT (i:=1) rfl isAgg127 sizeOf127 rfl rfl))):P:=h
theorem zcs (h:P:=by intro cv L' H' hl hd hP;(obtain⟨x3,x4,x8,rfl⟩:=mj hl;rcases x3 with _|v3<;>rcases x4 with _|v4<;>rcases x8 with _|v8<;>try exact False.elim hP);all_goals(first|obtain⟨rfl,rfl⟩:=hP|obtain⟨eH,rfl,rfl,rfl,iz⟩:=hP|obtain⟨oy,rfl,rfl,rfl,wL⟩:=hP|obtain⟨eH,oy,rfl,rfl,rfl,rfl,iz,wL⟩:=hP|obtain⟨eH,mB,gM,iA,rfl,rfl,rfl,rfl,iz,lg,gT⟩:=hP|obtain⟨eH,mB,gM,iA,oy,rfl,rfl,rfl,rfl,rfl,iz,lg,gT,wL⟩:=hP);all_goals(first|exact X.v (bJ (i:=0) rfl isAgg3 rfl rfl)|exact X.v (bJ (i:=1) rfl isAgg3 rfl rfl)|exact X.v (bJ (i:=2) rfl isAgg3 rfl rfl)|exact X.v (eV (i:=0) rfl isAgg53 sizeOf53 rfl (dO rfl))|exact X.v (eV (i:=1) rfl isAgg53 sizeOf53 rfl (dO rfl))|exact X.v (eV (i:=2) rfl isAgg53 sizeOf53 rfl (dO rfl)))):P:=h
theorem zct (h:P:=by intro cv L' H' hd hP;(rcases cv with _|⟨v1,_|⟨v2,_|⟨v3,_|⟨v4,_|⟨_,_⟩⟩⟩⟩⟩<;>try exact False.elim hP);all_goals(first|obtain⟨rfl,rfl⟩:=hP|obtain⟨b9,c9,w9,pg,vf,rfl,rfl,rfl,rfl,rD,tk,qH,rH,G0⟩:=hP|obtain⟨b9,c9,w9,pg,vf,rfl,rfl,rfl,rD,tk,qH,rH,G0⟩:=hP|obtain⟨b9,c9,w9,pg,vf,bR,rfl,rfl,rfl,rfl,rfl,rfl,rD,tk,qH,rH,G0,vH,Vy,wU⟩:=hP|obtain⟨b9,c9,w9,pg,vf,bR,rfl,rfl,rfl,rfl,rfl,rD,tk,qH,rH,G0,vH,Vy,wU⟩:=hP);all_goals(first|exact X.v (cd isAgg127 sizeOf127 rfl A1 hb4 Cu zM rfl)|exact X.v (cd isAgg127 sizeOf127 rfl A2 hb4 Cu zM rfl)|exact X.v (cd isAgg127 sizeOf127 rfl A0 CG Xe zM rfl)|exact X.v (cd isAgg127 sizeOf127 rfl A1 CG Xe zM rfl))):P:=h
theorem zcu (h:P:=by intro cv L' H' hd hP;(rcases cv with _|⟨v1,_|⟨v2,_|⟨v3,_|⟨_,_⟩⟩⟩⟩<;>try exact False.elim hP);all_goals(first|obtain⟨rfl,rfl⟩:=hP|obtain⟨bq,wq,rfl,rfl,rfl,rfl,oT,OI,OK⟩:=hP|obtain⟨bq,wq,rfl,rfl,rfl,oT,OI,OK⟩:=hP|obtain⟨bq,wq,hd,rfl,rfl,rfl,rfl,rfl,oT,OI,OK,hhd⟩:=hP);all_goals(first|exact X.v (dT (i:=1) rfl isAgg127 sizeOf127 rfl rfl)|exact X.v (dT (i:=2) rfl isAgg61 sizeOf61 rfl rfl))):P:=h
theorem zcv (h:P:=by intro cv L' H' hd hP;(rcases cv with _|⟨v1,_|⟨v2,_|⟨_,_⟩⟩⟩<;>try exact False.elim hP);all_goals(first|obtain⟨rfl,rfl⟩:=hP|obtain⟨mW,qk,rfl,rfl,rfl,wY,wZ,w6⟩:=hP|obtain⟨mW,qk,ib,mX,ql,rfl,rfl,rfl,rfl,wY,wZ,w6,OM,AZ⟩:=hP);all_goals(first|exact X.v (bJ (i:=6) rfl isAgg23 rfl rfl)|exact X.v (bJ (i:=7) rfl isAgg23 rfl rfl)|exact X.v (av (v:=ab 0) isAgg3 rfl A7 xI xP O5 rfl)|exact X.v (av (v:=ab 0) isAgg3 rfl A8 xI xP O5 rfl)|exact X.v (av (v:=ab pp) isAgg3 rfl A7 xI xP O5 rfl)|exact X.v (av (v:=ab pp) isAgg3 rfl A8 xI xP O5 rfl))):P:=h
theorem VF (h:P:=by intro cv L' H' hd hP;(rcases cv with _|⟨v1,_|⟨v2,_|⟨_,_⟩⟩⟩<;>try exact False.elim hP);all_goals(first|obtain⟨rfl,rfl⟩:=hP|obtain⟨mY,rL,rfl,rfl,rfl,xa,xd,xe⟩:=hP|obtain⟨mY,rL,zV,Ms,Tl,rfl,rfl,rfl,rfl,xa,xd,xe,Hq,aaO⟩:=hP);all_goals(first|exact X.v (bJ (i:=7) rfl isAgg77 rfl rfl)|exact X.v (bJ (i:=8) rfl isAgg77 rfl rfl)|exact X.v (av (v:=ab 0) isAgg3 rfl A8 xI xP O5 rfl)|exact X.v (av (v:=ab 0) isAgg3 rfl A9 xI xP O5 rfl)|exact X.v (RV.re (v':=ao) (mr (ev:=(id:Value->Value)) underlying77 underlying3 zeroValue55 AO (bB.own (i:=8) rfl) rfl rfl) rfl)|exact X.v (RV.re (v':=ao) (mr (ev:=(id:Value->Value)) underlying77 underlying3 zeroValue55 AO (bB.own (i:=9) rfl) rfl rfl) rfl)|exact X.v (av (v:=ab 5000) isAgg3 rfl A8 oT xP O5 rfl)|exact X.v (av (v:=ab 5000) isAgg3 rfl A9 oT xP O5 rfl))):P:=h
theorem zcx (h:P:=by intro cv L' H' hd hP;(rcases cv with _|⟨v1,_|⟨v2,_|⟨v3,_|⟨_,_⟩⟩⟩⟩<;>try exact False.elim hP);all_goals(first|obtain⟨rfl,rfl⟩:=hP|obtain⟨eZ,rfl,rfl,rfl,nt⟩:=hP|obtain⟨eZ,tR,c64,I6,rfl,rfl,rfl,rfl,nt,tS,rP⟩:=hP|obtain⟨eZ,tR,c64,I6,wO,c66,s66,rfl,rfl,rfl,rfl,rfl,nt,tS,rP,HF,kI⟩:=hP);all_goals(first|exact X.v (cd isAgg31 sizeOf31 rfl A2 vq vQ trivial rfl)|exact X.v (cd isAgg31 sizeOf31 rfl A2 vq vQ zM rfl))):P:=h
theorem zcy (h:P:=by intro cv L' H' hd hP;(rcases cv with _|⟨v1,_|⟨_,_⟩⟩<;>try exact False.elim hP);all_goals(first|obtain⟨rfl,rfl⟩:=hP|obtain⟨a74,c74,OS,rfl,rfl,rfl,aa7⟩:=hP);all_goals(first|exact X.v (cd isAgg31 sizeOf31 rfl A5 vq vQ trivial rfl)|exact X.v (cd isAgg31 sizeOf31 rfl A6 vq vQ trivial rfl))):P:=h
theorem zcz (h:P:=by intro cv L' H' hd hP;(rcases cv with _|⟨v1,_|⟨_,_⟩⟩<;>try exact False.elim hP);all_goals(first|obtain⟨rfl,rfl⟩:=hP|obtain⟨a79,c79,VH,rfl,rfl,rfl,aa9⟩:=hP);all_goals(first|exact X.v (cd isAgg31 sizeOf31 rfl A6 u7 u9 trivial rfl)|exact X.v (cd isAgg31 sizeOf31 rfl A7 u7 u9 trivial rfl))):P:=h
structure ZW (Q:Prop):Prop where
  p:Q
inductive Ct:Nat->Prop where
  |mk (n:Nat):Ct n
theorem Ct.dec {n:Nat} (_:Ct (n+1)):Ct n:=.mk n
theorem Ct.fin {P:Prop} (_:Ct 0) (h:P):P:=h
theorem B (n:Nat) (k:Q) (h:Ct n->ZW Q->P:=by intro Cz Kz;(repeat(replace Cz:=Ct.dec Cz;(first|(first|(with_reducible refine PJ.next ?_)|(with_reducible refine OJ.done ?_)|(with_reducible refine CJ.seq ?_)|(with_reducible refine CJ.region ?_)|(with_reducible refine CJ.ret ?_)|(with_reducible refine PJ.retThen ?_)|(with_reducible refine CJ.skip ?_))|(first|(with_reducible refine PJ.exThen ?_)|(with_reducible refine CJ.block ?_)|(with_reducible refine PJ.norBlock ?_)|(with_reducible refine PJ.retBlock ?_)|(with_reducible refine PJ.exHit ?_)|(with_reducible refine CJ.exit ?_)|((with_reducible refine CJ.condT ?_ ?_);· exact rfl))|(first|((with_reducible refine CJ.condF ?_ ?_);· exact rfl))|first|(first|((with_reducible show OJ _ _ _ (⟨_,.store _ _ _,_,_,_,_⟩::_) _ _ _ _ _);first|refine gK (i:=0) zY ay zY zY zY zY zY zY ?_|refine gK (i:=1) zY ay zY zY zY zY zY zY ?_|refine gK (i:=2) zY ay zY zY zY zY zY zY ?_|refine gK (i:=3) zY ay zY zY zY zY zY zY ?_|refine gK (i:=4) zY ay zY zY zY zY zY zY ?_|refine gK (i:=5) zY ay zY zY zY zY zY zY ?_|refine OJ.off rfl zB rfl ?_)|((with_reducible show OJ _ _ _ (⟨_,.alloc _,_,_,_,_⟩::_) _ _ _ _ _);first|refine Cj iL zY zY ?_|refine OJ.off rfl zB rfl ?_)|((with_reducible show OJ _ _ _ (⟨_,.box _ _,_,_,_,_⟩::_) _ _ _ _ _);first|refine TQ rfl rfl rfl ?_|refine OJ.off rfl zB rfl ?_)|refine OJ.off rfl zB rfl ?_|refine rvA rfl rfl rfl ?_|refine TQ rfl rfl rfl ?_|refine Cj iL zY zY ?_)|(first|refine gK (i:=0) zY ay zY zY zY zY zY zY ?_|refine gK (i:=1) zY ay zY zY zY zY zY zY ?_|refine gK (i:=2) zY ay zY zY zY zY zY zY ?_|refine gK (i:=3) zY ay zY zY zY zY zY zY ?_|refine gK (i:=4) zY ay zY zY zY zY zY zY ?_|refine gK (i:=5) zY ay zY zY zY zY zY zY ?_))));exact Cz.fin Kz.p):P:=h (.mk n) ⟨k⟩
theorem zT (h:P:=by repeat(first|(apply vO;exact rfl)|(apply qbk;exact rfl)|(apply aU;(first|exact X.off rfl (λ_ _=>rfl)|exact X.v (RV.re OY TS))))):P:=h
theorem U9 (h:P:=by repeat(first|(apply qtn;exact rfl)|(apply qtk;exact rfl)|(apply r7;(intro cv L' H' hl hd hP;first|exact X.off rfl (λ_ _=>rfl)|exact X.v (RV.re OY TS)|((repeat(first|with_reducible obtain⟨rfl,hP⟩:=hP|(with_reducible obtain⟨_,hP⟩:∃x,_:=hP)|(with_reducible obtain⟨_,hP⟩:_/\_:=hP)));(try with_reducible subst hP);exact X.v (RV.re OY TS)))))):P:=h
theorem zU (n:Nat) (h:Ct n->ZW Q->P:=by intro Cz Kz;(repeat(replace Cz:=Ct.dec Cz;(first|(apply vO;exact rfl)|(apply qbk;exact rfl)|(apply aU;(first|exact X.off rfl (λ_ _=>rfl)|exact X.v (RV.re OY TS))))));exact Cz.fin Kz.p) (k:Q):P:=h (.mk n) ⟨k⟩
theorem xG (n:Nat) (h:Ct n->ZW Q->P:=by intro Cz Kz;(repeat(replace Cz:=Ct.dec Cz;(first|(apply qtn;exact rfl)|(apply qtk;exact rfl)|(apply r7;(intro cv L' H' hl hd hP;first|exact X.off rfl (λ_ _=>rfl)|exact X.v (RV.re OY TS)|((repeat(first|with_reducible obtain⟨rfl,hP⟩:=hP|(with_reducible obtain⟨_,hP⟩:∃x,_:=hP)|(with_reducible obtain⟨_,hP⟩:_/\_:=hP)));(try with_reducible subst hP);exact X.v (RV.re OY TS)))))));exact Cz.fin Kz.p) (k:Q):P:=h (.mk n) ⟨k⟩
theorem vm (h:P:=by first|exact .inr (by assumption)|exact .inr (And.right (by assumption))|exact .inr (And.right (And.right (by assumption)))|exact .inr (by simp only[ae,and_true]at *;omega)|exact .inr (by simp only[ae,and_true];omega)|exact .inr (by simp only[ae,and_true];(repeat' apply And.intro)<;>omega)):P:=h
theorem zMo (h:P:=by intro W h;first|exact h|exact h.un|exact h.dropF vm|exact h.un.dropF vm|exact h.un.un|exact(h.dropF vm).dropF vm|exact h.un.un.dropF vm|exact(h.un.dropF vm).dropF vm|exact((h.dropF vm).dropF vm).dropF vm|exact((h.un.dropF vm).dropF vm).dropF vm|exact(h.un.un.dropF vm).dropF vm|exact h.un.un.un|exact(((h.dropF vm).dropF vm).dropF vm).dropF vm):P:=h
theorem zE (k:Q) (h:ZW Q->P:=by intro Kz;exact OJ.done (hk _ _ _ (wE zMo Kz.p))):P:=h ⟨k⟩
theorem zG (k:Q) (h:ZW Q->P:=by intro Kz;exact OJ.done (hk _ _ _ (wN zMo Kz.p))):P:=h ⟨k⟩
theorem aG {R:Prop} (k:Q) (l:R) (h:ZW Q->ZW R->P:=by intro Kz Kw;(refine CJ.cond rfl (λhc=>?_) (λhc=>?_)<;>(try simp only[decide_eq_true_eq,decide_eq_false_iff_not,Bool.not_eq_true',Bool.not_eq_false']at hc)<;>revert hc);exact Kz.p;exact Kw.p):P:=h ⟨k⟩ ⟨l⟩
theorem zQc (k:Q) (h:ZW Q->P:=by intro Kz;refine B 2 ?_;refine rv rfl rfl rfl (kp rfl rfl) ?_;refine B 1 ?_;refine rv rfl rfl rfl (pw rfl rfl) ?_;refine B 1 ?_;refine rv rfl rfl rfl (kp rfl rfl) ?_;refine B 1 ?_;refine rv rfl rfl rfl (pw rfl rfl) ?_;refine B 2 ?_;refine rv rfl rfl rfl (kp rfl rfl) ?_;refine rq (.int .u64 (r0:Int)) (vl rfl rfl) (vu zkb) ?_;refine B 1 ?_;refine rq (.int .u64 ((r0/2^s:Nat):Int)) (lJ rfl rfl aa) (vu (ntc r0 s aa)) ?_;exact B 5 Kz.p):P:=h ⟨k⟩
theorem YF (k:Q) (h:ZW Q->P:=by intro Kz;refine B 6 ?_;refine ax (.agg (bD G)) ?_;refine call call148 rfl rfl rfl (λW hS=>by rw[<-hv];exact nQ G N W cM (hG.up (ak _) hS.sm)) (v:=.bool true) ?_;refine ax bG ?_;refine B 8 ?_;refine ax (.agg (cG c)) ?_;refine call call149 rfl rfl rfl (λW hS=>by rw[<-jH];exact ntb c dz.few N W cM (hC.up (ak _) hS.sm)) (v:=ab 0) ?_;refine B 6 ?_;refine ax bG ?_;refine B 12 ?_;refine ax bG ?_;refine B 6 ?_;refine ax bG ?_;refine B 6 ?_;refine rq bG (er xu zB nL rfl rfl rfl) (congrArg (λq=>Value.bool (!q)) h3) ?_;refine B 8 ?_;refine ax (.agg (bD G)) ?_;refine B 4 ?_;exact nG (enc:=sJ) (m:=4) (t:=110) (xs:=(fZ G.g c.author c.chs)) (v:=λs=>.tuple #[s,ab 0]) (first:=[]) (cap:=[]) rfl call134 rfl rfl rfl UO (λW hS=>by rw[<-hne];exact nzb G N W cM (hG.up (ak _) hS.sm) c.chs aa c.ca c.cc (hC.chs.up (ak _) hS.sm) c.author sD) Kz.p):P:=h ⟨k⟩
theorem pV (k:Q) (h:ZW Q->P:=by intro Kz;exact PJ.dropAt (i:=0) rfl zD Kz.p):P:=h ⟨k⟩
theorem zTc (k:Q) (h:ZW Q->P:=by intro Kz;exact CJ.less (E':=[(0,_),(1,_),(2,_),(3,_),(4,_),(5,_),(6,_),(7,_),(8,_),(9,_),(10,_),(11,_),(12,_),(13,_),(14,_),(15,_),(16,_),(17,_),(18,_),(19,_),(20,_),(21,_),(22,_),(23,_),(24,_),(25,_),(26,_),(27,_),(28,_),(29,_),(30,_),(31,_),(32,_),(33,_),(34,_),(35,_),(36,_),(37,_),(38,_),(39,_),(40,_)]) zR Kz.p):P:=h ⟨k⟩
theorem UI (k:Q) (h:ZW Q->P:=by intro Kz;refine B 14 ?_;exact CJ.lp (α:=Nat) [0,1,7] (λj=>[(8,ab (j:Int))]) (λj=>[]) (λj=>j<=xs.length/\gL p xs j) (λj=>xs.length-j) 0 ⟨cV _,λi x hi=>absurd hi aa⟩ Kz.p):P:=h ⟨k⟩
theorem Nf (k:Q) (h:ZW Q->P:=by intro Kz;refine ax (.int .u64 ((q-1:Nat):Int)) ?_;refine B 7 ?_;refine ax (.int .u64 ((r+y1:Nat):Int)) ?_;exact B 9 Kz.p):P:=h ⟨k⟩
theorem zWc (k:Q) (h:ZW Q->P:=by intro Kz;refine rr (.agg (rdA (r.more (aj rO) pP tQ (aj mZ) oB tO (aj rM) oD tP))) (cd isAgg31 sizeOf31 rfl A0 u7 u9 trivial rfl) ?_;exact call (v:=.bool true) call8 rfl rfl rfl (λW hS=>by rw[<-hf];exact nfh (r.more (aj rO) pP tQ (aj mZ) oB tO (aj rM) oD tP) BB lH.heap.size W (hS.links lH A0).size (hyA.up (ak _) (hS.same A0 (ak _) zI trivial))) Kz.p):P:=h ⟨k⟩
theorem zXc (k:Q) (h:ZW Q->P:=by intro Kz;exact CJ.less (E':=[(0,_),(1,_),(2,_),(3,_),(4,_),(5,_),(6,_),(7,_),(8,_),(9,_),(13,_),(14,_),(15,_),(17,_),(18,_),(19,_),(20,_),(23,_),(24,_),(25,_),(26,_),(27,_),(28,_),(29,_),(30,_),(31,_),(32,_),(33,_),(34,_),(35,_),(36,_),(37,_),(38,_),(39,_),(40,_),(41,_),(42,_),(44,_),(45,_),(46,_),(47,_),(48,_),(49,_),(50,_),(51,_),(52,_),(53,_),(54,_),(57,_),(58,_),(59,_),(60,_),(61,_),(62,_),(63,_),(64,_),(65,_),(66,_),(67,_),(68,_),(69,_),(70,_),(71,_),(72,_),(73,_),(74,_),(76,_),(77,_),(78,_),(79,_),(80,_),(81,_),(82,_),(83,_),(84,_),(85,_),(86,_),(87,_),(89,_),(90,_),(91,_),(92,_),(93,_),(94,_),(95,_)]) zR Kz.p):P:=h ⟨k⟩
theorem Kd (k:Q) (h:ZW Q->P:=by intro Kz;exact ax (.agg #[.slice a ns.length cp]) Kz.p):P:=h ⟨k⟩
theorem Eb (k:Q) (h:ZW Q->P:=by intro Kz;exact iS underlying55 sizeOf3 zeroValue3 rfl rfl rfl rfl rfl rfl rfl Kz.p):P:=h ⟨k⟩
theorem z0c (k:Q) (h:ZW Q->P:=by intro Kz;exact call call156 rfl rfl rfl (λW hS=>nwd (EC G.g (gS G.g.ms au) au) 259 [ptr b3 0,ptr b8 0,ptr b4 0] call259 l hxl N _ cp W cM (aJ.up (ak _) hS.sm) (λj x hx W2 hB=>by have h3:=(hS.links w3 A1).size;have h4:=(hS.links w4 A0).size;have h5:=(hS.links w A2).size;have h8:=hS.own (b8,_) A0;have h9:=(aT.1 h8).1;exact nli G N W2 (by have:=hB.size;omega) (hG.up (ak _) (λk hk=>by rw[hB.block k aa];exact hS.same A2 hN zI zF k hk)) b3 b8 b4 _ au (by rw[hB.block b3 aa];exact hS.old A1 hb3 cK zA) (by rw[hB.block b8 h9];exact h8) (by rw[hB.block b4 aa];exact hS.old A0 hb4 Cu zA) x)) Kz.p):P:=h ⟨k⟩
theorem z1c (k:Q) (h:ZW Q->P:=by intro Kz;refine zE ?_;exact call call153 rfl rfl rfl (λW hS=>by have h9:=nmd c.wes aa W.heap.size c.wa c.wc W (ak _) (hC.wes.up cM hS.sm) (mH c.author c.chs) aw cw (wy.to hS A0 (ak _) (λb off e=>.inr zGb));rw[show kG UY c.wes (mH c.author c.chs)=true from hw]at h9;exact h9) (v:=.bool true) Kz.p):P:=h ⟨k⟩
theorem z2c (k:Q) (h:ZW Q->P:=by intro Kz;exact nG (enc:=my) (m:=5) (t:=99) (xs:=mH c.author c.chs) (v:=id) (first:=[]) (cap:=[]) rfl call144 rfl rfl rfl BS (λW hS=>n4b c.author c.chs aa N c.ca c.cc W cM (hC.chs.up (ak _) hS.sm)) Kz.p):P:=h ⟨k⟩
theorem IS (k:Q) (h:ZW Q->P:=by intro Kz;exact iS underlying38 sizeOf35 zeroValue35 rfl rfl rfl rfl rfl rfl rfl Kz.p):P:=h ⟨k⟩
theorem Ij (k:Q) (h:ZW Q->P:=by intro Kz;exact qN underlying55 sizeOf3 zeroValue3 rfl rfl rfl rfl rfl rfl rfl Kz.p):P:=h ⟨k⟩
theorem z5c (k:Q) (h:ZW Q->P:=by intro Kz;refine ax (ab x.dev) ?_;refine call call37 rfl rfl rfl (λW hS=>ntk _ W) ?_;refine B 10 ?_;refine ax (.agg #[.slice p.ta p.ns.length p.tc]) ?_;refine ax (ab (vF x.dev)) ?_;refine call (v:=.tuple #[ab ((eb p.ns (vF x.dev)).getD 0),.bool (eb p.ns (vF x.dev)).isSome]) call36 rfl rfl rfl (λW9 hS=>nQc p.ns aa W9.heap.size p.ta p.tc W9 (ak _) (RL.toG hS A1 hN (λb off e=>by by_cases h0:p.ns=[];(exact .inl h0);exact .inr (λhb=>⟨Ca V b hV (.inr (.inl ⟨h0,off,e⟩)) aa,z2⟩))) (vF x.dev)) ?_;exact B 11 Kz.p):P:=h ⟨k⟩
theorem z6c (k:Q) (h:ZW Q->P:=by intro Kz;exact nG (enc:=aA) (m:=1) (t:=3) (xs:=dZ G.g.ns) (v:=id) (first:=[]) (cap:=[]) rfl call186 rfl rfl rfl nz (λW hS=>n1b G.g.ns hn N G.na G.nc W cM (hG.ns.up (ak _) hS.sm)) Kz.p):P:=h ⟨k⟩
theorem Yk (k:Q) (h:ZW Q->P:=by intro Kz;exact iS underlying134 sizeOf200 zeroValue200 rfl rfl rfl rfl rfl rfl rfl Kz.p):P:=h ⟨k⟩
theorem z8c (k:Q) (h:ZW Q->P:=by intro Kz;exact nv (α:=Nat) (v:=λb:Nat=>.slice (aj b) 32 32) (Φ:=λ(W:World) (b:Nat) (w1:World)=>W.heap.size<=b/\w1.heap[b]? =some (oC (dg (mF Z c)) 33)) call147 rfl rfl rfl (λW hS=>nuc hZ c dz N W cM (hC.up (ak _) hS.sm) (hg.old hS A4 zI zF)) Kz.p):P:=h ⟨k⟩
theorem Fm (k:Q) (h:ZW Q->P:=by intro Kz;refine OX.done ?_;exact PX.next Kz.p):P:=h ⟨k⟩
theorem zad (k:Q) (h:ZW Q->P:=by intro Kz;exact Bu (f:=f) (cap:=cap) rfl az rfl rfl rfl (λW hS=>hp j x hx W ((hS.links w A0).below J5)) Kz.p):P:=h ⟨k⟩
theorem zbd (k:Q) (h:ZW Q->P:=by intro Kz;refine rv rfl rfl rfl (fk (h:=64) underlying106 sizeOf5 rfl ⟨_,_,rfl,rfl⟩ aa) ?_;exact VW (f:=233) (i:=1) (first:=[ptr b3 0]) (cap:=[]) rfl rfl call233 rfl rfl rfl (λW hS hW=>n8d (sw n m (j+k)) (λi=>yq n m (64*(j+k)+i)) b3 rT o2 64 _ _ _ qp t3 (cf 128 (qM n m j N)) aa aa W hW (hS.own _ A0) (λi hi=>by rw[Nq 128 _ (64*k+i) _ (by have:=dq aa;omega) aa,nql n m j N _ aa hNN aa aa];congr 3;omega) aa (hS.old A0 hg zL zA) aa) Kz.p):P:=h ⟨k⟩
theorem zcd (k:Q) (h:ZW Q->P:=by intro Kz;exact nv (α:=Option Addr×Nat) (v:=λq=>.agg #[.slice q.1 (aX gy.g.ns d.c.chs).length q.2]) (Φ:=λW q w1=>ai fN 2 w1.heap.size w1 q.1 (aX gy.g.ns d.c.chs)/\((d.c.chs=[]/\q=(gy.na,gy.nc))\/∀b off,q.1=some ⟨b,off,none⟩->W.heap.size<=b)) call57 rfl rfl rfl (λW hS=>nmg gy.g.ns aa d.c.chs xC.2 xC.1 W.heap.size gy.na gy.nc d.c.ca d.c.cc W (ak _) (Om.lies hS.fzLies).ns ((hC d.c Zu).chs.up cM (hS.same A2 hN zI zH))) Kz.p):P:=h ⟨k⟩
theorem zdd (k:Q) (h:ZW Q->P:=by intro Kz;exact jS (r:=r) (xs:=pls) (zs:=[(⟨d.c,decide (j=0),aX gy.g.ns d.c.chs,q1,q2,d.x⟩:Pl)]) (enc:=zt) (m:=111) (H0:=[(Vn,oC (kh (⟨d.c,decide (j=0),aX gy.g.ns d.c.chs,q1,q2,d.x⟩:Pl)) 92),(gf,oC (bD gy) 53),(b9,oC (cG d.c) 61),(b4,oC (sR fo) 97)]) (H1:=[]) zX n2l Zs rfl rfl rfl rfl (bO.one (z:=(⟨d.c,decide (j=0),aX gy.g.ns d.c.chs,q1,q2,d.x⟩:Pl)) Zs npj underlying89 (bB.own (i:=0) rfl)) ah aK zJ Az Kz.p):P:=h ⟨k⟩
theorem zed (k:Q) (h:ZW Q->P:=by intro Kz;exact nv (α:=(Option Addr×Nat)×List Se) (v:=(λq:(Option Addr×Nat)×List Se=>.slice q.1.1 q.2.length q.1.2)) (Φ:=λW q w1=>ai seA 35 w1.heap.size w1 q.1.1 q.2/\kJ (r.D Z) (r.fs Z dv) 71000 q.2/\q.2.length<=q.1.2) call26 rfl rfl rfl (λW hS=>n6f hZ r hr W.heap.size W (ak _) (hrA.up cM hS.sm) (hg.old hS A3 zI trivial) a0 a1 (hse.old hS A3) af (r.fs Z dv) cf aa (zx.up (hS.links wf A0).size (hS.same A0 (ak _) zI trivial))) Kz.p):P:=h ⟨k⟩
theorem zfd (k:Q) (h:ZW Q->P:=by intro Kz;refine B 3 ?_;refine rv rfl rfl rfl (iM 8 256 zB rfl rfl rfl) ?_;refine B 13 ?_;exact rv rfl rfl rfl (vj underlying233 underlying5 rfl aa aa) Kz.p):P:=h ⟨k⟩
theorem R0 (k:Q) (h:ZW Q->P:=by intro Kz;exact qN underlying38 sizeOf35 zeroValue35 rfl rfl rfl rfl rfl rfl rfl Kz.p):P:=h ⟨k⟩
theorem zhd (k:Q) (h:ZW Q->P:=by intro Kz;exact rv rfl rfl rfl (av (v:=.iface 472 (.pointer (some a0))) isAgg173 rfl A4 hg0 zL zA rfl) Kz.p):P:=h ⟨k⟩
theorem zid (k:Q) (h:ZW Q->P:=by intro Kz;exact UE (enc:=gH) (m:=2) (t:=240) (xs:=(bZ T c.author c.path)) (v:=λs=>.tuple #[.agg #[s],ab e]) (first:=[]) (cap:=[]) rfl call154 rfl rfl rfl (λW hS=>by rw[<-hre];exact ntg T aa W.heap.size ta tc W (ak _) (rY.to hS A0 (ak _) (λb off e=>by rcases gO b off e with h|h|h;(exact .inl h);(exact .inr zA);(exact .inr zA))) c.author sD c.path mw aa N c.pa c.pc (hC.path.up (ak _) hS.sm) cM im aa) Kz.p):P:=h ⟨k⟩
theorem AL (k:Q) (h:ZW Q->P:=by intro Kz;refine CX.seq ?_;exact CX.region Kz.p):P:=h ⟨k⟩
theorem Pa (k:Q) (h:ZW Q->P:=by intro Kz;exact rv rfl rfl rfl (Ae rfl rfl aa aa) Kz.p):P:=h ⟨k⟩
theorem zld (k:Q) (h:ZW Q->P:=by intro Kz;refine DJ.one (n:=27) rfl zO ?_;exact nG (enc:=cD) (m:=32) (t:=33) (xs:=IX x) (v:=id) (first:=[]) (cap:=[]) rfl call73 rfl rfl rfl xE (λW hS=>nAe x hx.few N W cM (hA.up (ak _) hS.sm)) Kz.p):P:=h ⟨k⟩
theorem zmd (k:Q) (h:ZW Q->P:=by intro Kz;exact CJ.lp (α:=Nat×Nat) [2,8,9,10,17,14,15] (λp=>[(18,.int .u64 (p.1:Int)),(16,.int .u64 (p.2:Int))]) (λp=>[]) (λp=>td r1 y1 y0 v0 p.1 p.2) (λp=>p.1) (r1/y1,r1%y1) d2 Kz.p):P:=h ⟨k⟩
theorem znd (k:Q) (h:ZW Q->P:=by intro Kz;exact nv (α:=Gv) (v:=λXn=>.tuple #[.agg (bD Xn),ab e]) (Φ:=λW Xn w1=>Xn.g=xD Z (g0 fo) c/\bT w1.heap.size w1 Xn/\(∀q,Xn.ma=some q->W.heap.size<=q.block)/\(∀q,Xn.na=some q->W.heap.size<=q.block)) call83 rfl rfl rfl (λW hS=>by rw[<-he];exact nnd hZ (Y7 fo) c (dz c CR) N W cM (Rv fo N W) ((hC c CR).up (ak _) hS.sm) (hg.old hS A2 zI zF)) Kz.p):P:=h ⟨k⟩
theorem zod (k:Q) (h:ZW Q->P:=by intro Kz;exact nv (α:=Option Addr×Nat) (v:=λq=>.agg #[.slice q.1 T.length q.2]) (Φ:=λW q w1=>ai fN 2 w1.heap.size w1 q.1 T/\∀b off,q.1=some ⟨b,off,none⟩->T=[]\/b<N\/W.heap.size<=b) call140 rfl rfl rfl (λW hS=>by rw[<-hT];exact nxc G N W cM (hG.up (ak _) hS.sm) c.chs aa c.ca c.cc (hC.chs.up (ak _) hS.sm) Aw qw) Kz.p):P:=h ⟨k⟩
theorem zpd (k:Q) (h:ZW Q->P:=by intro Kz;exact call call111 rfl rfl rfl (λW hS=>by rw[<-gO];exact nKb ns hn N a cp W cM (aJ.up (ak _) hS.sm)) (v:=ab 0) Kz.p):P:=h ⟨k⟩
theorem zqd (k:Q) (h:ZW Q->P:=by intro Kz;exact nzi (ev:=ab) (kv:=dL ns) (v:=id) call67 rfl rfl rfl (λW hS=>nce ns hn N a cp W cM (aJ.up (ak _) hS.sm)) Kz.p):P:=h ⟨k⟩
theorem zrd (k:Q) (h:ZW Q->P:=by intro Kz;refine PJ.dj ?_;refine DJ.one (n:=28) rfl zO ?_;exact call (v:=.bool true) call72 rfl rfl rfl (λW hS=>by have h9:=nhf (IX x) (by have:=hx.few;unfold IX;rw[eG];omega) W.heap.size a7 CI W (ak _) (jA.up (hS.links wk7 A0).size (hS.same A0 (ak _) zI trivial));rw[show Gx (IX x)=true by simpa using k4]at h9;exact h9) Kz.p):P:=h ⟨k⟩
theorem zsd (k:Q) (h:ZW Q->P:=by intro Kz;exact n7i (i:=0) (γ:=Mp) (v:=λ_=>.tuple #[]) (ob:=λm=>m.obj ab (ji (((dH d).take i).foldl jT (jT (dL ns) (512+d))) n)) (Φ:=λm=>m.Ok (ji (((dH d).take i).foldl jT (jT (dL ns) (512+d))) n)) (first:=[.map (some bf)]) (cap:=[]) rfl rfl call113 rfl rfl rfl (λW hS hW=>nWd bf mi yJ n W hW) Kz.p):P:=h ⟨k⟩
theorem ztd (k:Q) (h:ZW Q->P:=by intro Kz;exact call call75 rfl rfl rfl (λW hS=>by have h9:=nSc hZ (kF G.g c.author c.chs) c.sr c.ss (cy (mF Z c)) bm 0 32 (by rw[nR];decide) W (cj.dg (hS.old A0 ot zL zA) (hZ.byt _ _)) (hg.old hS A5 zI zF);rw[nR,show oO Z (kF G.g c.author c.chs) (cy (mF Z c)) c.sr c.ss=true from IH]at h9;exact h9) (v:=.bool true) Kz.p):P:=h ⟨k⟩
theorem zud (k:Q) (h:ZW Q->P:=by intro Kz;exact CJ.lp (α:=Mp×Nat) [6,7,12,53,54] (λp=>[(55,ab (p.2:Int))]) (λp=>[(bf,p.1.obj ab (((dH d).take p.2).foldl jT (jT (dL ns) (512+d))))]) (λp=>p.2<=(dH d).length/\p.1.Ok (((dH d).take p.2).foldl jT (jT (dL ns) (512+d)))) (λp=>(dH d).length-p.2) (m1,0) ⟨cV _,cF⟩ Kz.p):P:=h ⟨k⟩
theorem zvd (k:Q) (h:ZW Q->P:=by intro Kz;exact nG (enc:=aA) (m:=1) (t:=3) (xs:=dH d) (v:=λs=>.tuple #[s,ab 0]) (first:=[]) (cap:=[]) rfl call112 rfl rfl rfl nz (λW hS=>nJf d hd W) Kz.p):P:=h ⟨k⟩
theorem zwd (k:Q) (h:ZW Q->P:=by intro Kz;exact Bu (f:=f) (cap:=cap) rfl az rfl rfl rfl (λW hS=>hp j x hx W ((hS.links w A0).mono (λk _ hk=>by rcases hk with hk|hk;(exact hk);(simp only[dt,eL,cW,dB,bX,dy,or_false]at hk;first|exact hk|(rcases hk with hk|hk;(exfalso;omega);exact hk)))) (by have:=hS.lt (b,_) A1;exact this)) Kz.p):P:=h ⟨k⟩
theorem zxd (k:Q) (h:ZW Q->P:=by intro Kz;exact CJ.loop (α:=Nat) (λi=>[(2,ptr b2 0),(53,.agg (sw n m (gJ n)).cells),(54,ab (i:Int))]) (λi=>[(rT,oC (cf 128 (qM n m j N)) 5),(b3,oC (sw n m (gJ n)).cells 374),(b2,oC (ku (sw n m (gJ n)) i) 33)]) (λi=>[w]) (λi=>Gh.no) (λi=>i<=8) (λi=>8-i) 0 zB zR rfl rfl zJ Kz.p):P:=h ⟨k⟩
theorem zyd (k:Q) (h:ZW Q->P:=by intro Kz;exact CJ.lp (α:=Nat) [0,1,2,3,8] (λj=>[]) (λj=>[]) (λj=>True) (λj=>0) 0 True.intro Kz.p):P:=h ⟨k⟩
theorem zzd (k:Q) (h:ZW Q->P:=by intro Kz;exact CJ.lp (α:=Nat) [0,1,2,3,4] (λj=>[]) (λj=>[]) (λj=>True) (λj=>0) 0 True.intro Kz.p):P:=h ⟨k⟩
theorem zAd (k:Q) (h:ZW Q->P:=by intro Kz;refine rq (.int .u64 ((8*n:Nat):Int)) (Ae rfl rfl aa aa) (vu aa) ?_;exact VW (f:=234) (i:=0) (first:=[]) (cap:=[]) rfl rfl call234 rfl rfl rfl (λW hS hW=>nbe (8*n) rT _ 8 _ _ _ aa (by rw[n5d,Dw];omega) W hW) Kz.p):P:=h ⟨k⟩
theorem zBd (k:Q) (h:ZW Q->P:=by intro Kz;exact cC (.inl rfl) results149 bj A1 zC Kz.p):P:=h ⟨k⟩
theorem zDd (k:Q) (h:ZW Q->P:=by intro Kz;exact rq (.int .u64 ((r1%y1:Nat):Int)) (tX rfl rfl aa aa) (vu (nCh _ _ _ _ d2.eq)) Kz.p):P:=h ⟨k⟩
theorem zEd (k:Q) (h:ZW Q->P:=by intro Kz;refine rv rfl rfl rfl (dd underlying89 sizeOf92 (congrArg (λq=>some (Value.slice q pls.length xN)) Vu) rfl aa aa) ?_;exact rq (.agg (kh p)) (rp isAgg92 sizeOf92 rfl Cr (dE hcp hp rfl)) (va (eK hcp hp rfl)) Kz.p):P:=h ⟨k⟩
theorem zFd (k:Q) (h:ZW Q->P:=by intro Kz;exact rq (.slice (some ⟨b2,4*i,none⟩) 4 (32-4*i)) (Du (l:=4*i) (h:=4*i+4) (off':=4*i) underlying33 sizeOf5 rfl ⟨_,_,rfl,by omega⟩ ⟨_,_,rfl,by omega⟩ aa aa zyc) (by rw[show 4*i+4-4*i=4 by omega]) Kz.p):P:=h ⟨k⟩
theorem VP (k:Q) (h:ZW Q->P:=by intro Kz;exact rv rfl rfl rfl (HN rfl rfl aa aa) Kz.p):P:=h ⟨k⟩
theorem zHd (k:Q) (h:ZW Q->P:=by intro Kz;exact rq (.int .u64 ((r1/y1:Nat):Int)) (xW rfl rfl aa aa aa) (vu (noe r1 y1)) Kz.p):P:=h ⟨k⟩
theorem zId (k:Q) (h:ZW Q->P:=by intro Kz;exact n7i (i:=0) (γ:=Mp) (v:=λ_=>.tuple #[]) (ob:=λm=>m.obj ab (ji (dL ns) (512+d))) (Φ:=λm=>m.Ok (ji (dL ns) (512+d))) (first:=[.map (some bf)]) (cap:=[]) rfl rfl call113 rfl rfl rfl (λW hS hW=>nWd bf m hm (512+d) W hW) Kz.p):P:=h ⟨k⟩
theorem zJd (k:Q) (h:ZW Q->P:=by intro Kz;exact nv (α:=Nat) (v:=λb:Nat=>.slice (aj b) 11 11) (Φ:=λ(W:World) (b:Nat) (w1:World)=>W.heap.size<=b/\eM w1.heap.size w1 (.list (mC c)) (vL (aj b) 11 11)) call45 rfl rfl rfl (λW hS=>n6c c dz.few N W cM (hC.up (ak _) hS.sm)) Kz.p):P:=h ⟨k⟩
theorem Uc (k:Q) (h:ZW Q->P:=by intro Kz;exact rv rfl rfl rfl (iM 32 4294967296 zB rfl rfl rfl) Kz.p):P:=h ⟨k⟩
theorem zLd (k:Q) (h:ZW Q->P:=by intro Kz;refine PJ.reH (H':=[(rT,oC (cf 128 (qM n m j N)) 5),(b3,oC (sw n m (gJ n)).cells 374),(b2,oC (ku (sw n m (gJ n)) 8) 33)]) rfl ?_;exact cC (.inl rfl) results164 (RS.wA (i:=2) rfl isAgg33 sizeOf33 rfl (by rw[ku,Dw];omega) RS.n) A0 zQ Kz.p):P:=h ⟨k⟩
theorem zMd (k:Q) (h:ZW Q->P:=by intro Kz;refine ax (.agg (dg p.x.g.last)) ?_;exact call call97 rfl rfl rfl (λW hS=>Zj _ W) Kz.p):P:=h ⟨k⟩
theorem zNd (k:Q) (h:ZW Q->P:=by intro Kz;exact cC (.inl rfl) results111 bj A2 zC Kz.p):P:=h ⟨k⟩
theorem zOd (k:Q) (h:ZW Q->P:=by intro Kz;exact call call65 rfl rfl rfl (λW hS=>by rw[<-he];exact nO _ W) (v:=ab e) Kz.p):P:=h ⟨k⟩
theorem zPd (k:Q) (h:ZW Q->P:=by intro Kz;exact nhi (ev:=ab) (kv:=oU (dL ns) d) (enc:=aA) (n:=1) (ds:=dH d) (v:=λmp s=>.tuple #[mp,s,ab 0]) call64 rfl rfl rfl (λW hS=>n4e ns hn N a cp W cM (aJ.up (ak _) hS.sm) gO d hd false (λh=>by cases h)) Kz.p):P:=h ⟨k⟩
theorem zQd (k:Q) (h:ZW Q->P:=by intro Kz;exact nhi (ev:=ab) (kv:=oU (dL ns) d) (enc:=aA) (n:=1) (ds:=dH d) (v:=λmp s=>.tuple #[mp,s,ab 0]) call64 rfl rfl rfl (λW hS=>n4e ns hn N a cp W cM (aJ.up (ak _) hS.sm) gO d hd true (λ_=>jU)) Kz.p):P:=h ⟨k⟩
theorem zRd (k:Q) (h:ZW Q->P:=by intro Kz;exact nG (enc:=dJ) (m:=35) (t:=35) (xs:=(r.fs Z dv)) (v:=id) (first:=[]) (cap:=[]) rfl call11 rfl rfl rfl nu (λW hS=>nQe hZ r hr N W cM (hrA.up (ak _) hS.sm) (hg.old hS A2 zI trivial) dv) Kz.p):P:=h ⟨k⟩
theorem zSd (k:Q) (h:ZW Q->P:=by intro Kz;exact rq (.int .u64 (r1:Int)) (vl rfl rfl) (vu zkb) Kz.p):P:=h ⟨k⟩
theorem N9 (k:Q) (h:ZW Q->P:=by intro Kz;exact pH hT rfl rfl rfl (sP rfl) Kz.p):P:=h ⟨k⟩
theorem zUd (k:Q) (h:ZW Q->P:=by intro Kz;exact iS underlying72 sizeOf33 zeroValue33 rfl rfl rfl rfl rfl rfl rfl Kz.p):P:=h ⟨k⟩
theorem zVd (k:Q) (h:ZW Q->P:=by intro Kz;refine rq (ptr b4 j) (ui underlying426 sizeOf303 rfl rfl aa aa) (congrArg (ptr b4) aa) ?_;exact jP (i:=0) rfl sizeOf303 rfl rfl rfl rfl (by rw[Dw];omega) rfl Kz.p):P:=h ⟨k⟩
theorem zWd (k:Q) (h:ZW Q->P:=by intro Kz;exact rv rfl rfl rfl (av (v:=ab n) isAgg3 rfl A0 yK zL zA zJc) Kz.p):P:=h ⟨k⟩
theorem zXd (k:Q) (h:ZW Q->P:=by intro Kz;exact VW (f:=234) (i:=2) (first:=[]) (cap:=[]) rfl rfl call234 rfl rfl rfl (λW hS hW=>nbe (S8.at (sw n m (gJ n)) i).toNat b2 (4*i) _ _ _ _ aa (by rw[ku,Dw];omega) W hW) Kz.p):P:=h ⟨k⟩
theorem zYd (k:Q) (h:ZW Q->P:=by intro Kz;exact rq bG (HJ rfl rfl) (vb (decide_eq_false aa)) Kz.p):P:=h ⟨k⟩
theorem zZd (k:Q) (h:ZW Q->P:=by intro Kz;exact rq (.bool ((bV (yI (dZ ns)) x.at_).getD false)) (mr (ev:=Value.bool) underlying307 underlying3 zeroValue4 hm (bB.own (i:=1) rfl) rfl rfl) (n2j _) Kz.p):P:=h ⟨k⟩
theorem z0d (k:Q) (h:ZW Q->P:=by intro Kz;exact call call87 rfl rfl rfl (λW hS=>by rw[<-kE];exact nAh hZ s hs0 (V.list l).enc aa gf 0 Io yA.le W (cj.row (hS.own _ A0)) (hg.old hS A0 zI zF)) (v:=.agg (dg df)) Kz.p):P:=h ⟨k⟩
theorem z1d (k:Q) (h:ZW Q->P:=by intro Kz;exact cC (.inl rfl) results227 bj A1 zC Kz.p):P:=h ⟨k⟩
theorem z2d (k:Q) (h:ZW Q->P:=by intro Kz;exact pH hT rfl rfl rfl (tz rfl) Kz.p):P:=h ⟨k⟩
theorem z3d (k:Q) (h:ZW Q->P:=by intro Kz;exact call call221 rfl rfl rfl (λW hS=>nVe (UN G.g.epoch) 218 [ptr b1 0] call218 G.g.ms vt N G.ma G.mc W cM (hG.ms.up (ak _) hS.sm) (λj x hx W2 hB=>nBn G b1 x W2 zxc)) Kz.p):P:=h ⟨k⟩
theorem z4d (k:Q) (h:ZW Q->P:=by intro Kz;exact PJ.reH (H':=[(rT,oC (cf 128 (qM n m j N)) 5),(b3,oC (sw n m (gJ n)).cells 374),(b2,oC (ku (sw n m (gJ n)) (i+1)) 33)]) (by rw[<-nEk _ i aa];rfl) Kz.p):P:=h ⟨k⟩
theorem z5d (k:Q) (h:ZW Q->P:=by intro Kz;exact call call196 rfl rfl rfl (λW hS=>nKc l hxl N a cp W cM (aJ.up (ak _) hS.sm)) Kz.p):P:=h ⟨k⟩
theorem z6d (k:Q) (h:ZW Q->P:=by intro Kz;refine ax (.agg (dg G.g.last)) ?_;exact rq bG (er xu zB nL rfl rfl rfl) (congrArg (λb=>Value.bool (!b)) (by simpa using k2)) Kz.p):P:=h ⟨k⟩
theorem z7d (k:Q) (h:ZW Q->P:=by intro Kz;refine rv rfl rfl rfl (dT (i:=2) rfl isAgg33 sizeOf33 rfl (by rw[ku,Dw])) ?_;exact gK (i:=2) rfl sizeOf33 rfl rfl rfl zqc (by rw[ku,Dw]) rfl Kz.p):P:=h ⟨k⟩
theorem z8d (k:Q) (h:ZW Q->P:=by intro Kz;exact CJ.lp (α:=Nat) [0,1] (λj=>[(5,ab (j:Int))]) (λj=>[]) (λj=>j<=xs.length/\zo xs ys j) (λj=>xs.length-j) 0 ⟨cV _,rfl⟩ Kz.p):P:=h ⟨k⟩
theorem z9d (k:Q) (h:ZW Q->P:=by intro Kz;exact n8j (ys:=(V.list l).enc) call85 rfl rfl rfl (λW hS=>nxe l dK hd iO N (aj bl) lc W (dG hN (hS.links _ A0).size) (eM.up (ak _) hS.sm _ _ xr)) Kz.p):P:=h ⟨k⟩
theorem zae (k:Q) (h:ZW Q->P:=by intro Kz;exact call call106 rfl rfl rfl (λW hS=>ngg 0 zB zB W) Kz.p):P:=h ⟨k⟩
theorem zbe (k:Q) (h:ZW Q->P:=by intro Kz;exact rq (.agg (wj x)) (dQ isAgg114 sizeOf114 rfl A1 cJ AO z2 (dE aW hx rfl)) (va (eK aW hx rfl)) Kz.p):P:=h ⟨k⟩
theorem zce (k:Q) (h:ZW Q->P:=by intro Kz;exact call call86 rfl rfl rfl (λW hS=>Yi _ _ _ W) Kz.p):P:=h ⟨k⟩
theorem zde (k:Q) (h:ZW Q->P:=by intro Kz;exact UE (enc:=gH) (m:=2) (t:=240) (xs:=[]) (v:=λs=>.agg #[s]) (first:=[]) (cap:=[]) rfl call66 rfl rfl rfl (λW hS=>nif W) Kz.p):P:=h ⟨k⟩
theorem zee (k:Q) (h:ZW Q->P:=by intro Kz;exact cC (.inl rfl) results197 bj A2 zC Kz.p):P:=h ⟨k⟩
theorem zfe (k:Q) (h:ZW Q->P:=by intro Kz;exact rv rfl rfl rfl (QT underlying106 underlying5 underlying9 rfl A0 hb (λb da=>⟨λh=>h,by simp only[aY,and_true];omega⟩)) Kz.p):P:=h ⟨k⟩
theorem zge (k:Q) (h:ZW Q->P:=by intro Kz;refine aF results65 rfl A0 ?_;exact congrArg ab Kz.p):P:=h ⟨k⟩
theorem zhe (k:Q) (h:ZW Q->P:=by intro Kz;exact call call31 rfl rfl rfl (λW hS=>Zi _ _ W) Kz.p):P:=h ⟨k⟩
theorem zie (k:Q) (h:ZW Q->P:=by intro Kz;exact call call254 rfl rfl rfl (λW hS=>nig _ _ _ aa aa aa aa aa W) Kz.p):P:=h ⟨k⟩
theorem zje (k:Q) (h:ZW Q->P:=by intro Kz;exact iS underlying138 sizeOf142 zeroValue142 rfl rfl rfl rfl rfl rfl rfl Kz.p):P:=h ⟨k⟩
theorem zke (k:Q) (h:ZW Q->P:=by intro Kz;exact qN underlying134 sizeOf200 zeroValue200 rfl rfl rfl rfl rfl rfl rfl Kz.p):P:=h ⟨k⟩
theorem zle (k:Q) (h:ZW Q->P:=by intro Kz;refine call call148 rfl rfl rfl (λW hS=>by rw[<-hv];exact nQ G N W cM (hG.up (ak _) hS.sm)) (v:=.bool false) ?_;exact ax cX Kz.p):P:=h ⟨k⟩
theorem zme (k:Q) (h:ZW Q->P:=by intro Kz;exact call call29 rfl rfl rfl (λW hS=>nye _ W) Kz.p):P:=h ⟨k⟩
theorem zne (k:Q) (h:ZW Q->P:=by intro Kz;exact rv rfl rfl rfl (fp (h:=32) underlying33 sizeOf5 rfl rfl aa) Kz.p):P:=h ⟨k⟩
theorem zoe (k:Q) (h:ZW Q->P:=by intro Kz;exact iS underlying89 sizeOf92 zeroValue92 rfl rfl rfl rfl rfl rfl rfl Kz.p):P:=h ⟨k⟩
theorem zpe (k:Q) (h:ZW Q->P:=by intro Kz;exact iS underlying75 sizeOf53 zeroValue53 rfl rfl rfl rfl rfl rfl rfl Kz.p):P:=h ⟨k⟩
theorem zqe (k:Q) (h:ZW Q->P:=by intro Kz;refine CX.ret ?_;refine PX.retBlock ?_;refine PX.retThen ?_;refine PX.retThen ?_;refine PX.retBlock ?_;exact PX.retThen Kz.p):P:=h ⟨k⟩
theorem zre (k:Q) (h:ZW Q->P:=by intro Kz;exact gK (i:=1) rfl sizeOf51 rfl rfl rfl rfl rfl (Rw.val_one2 _ _) Kz.p):P:=h ⟨k⟩
theorem zse (k:Q) (h:ZW Q->P:=by intro Kz;exact gK (i:=0) rfl sizeOf51 rfl rfl rfl rfl rfl (Rw.val_one2 _ _) Kz.p):P:=h ⟨k⟩
theorem zte (k:Q) (h:ZW Q->P:=by intro Kz;exact rv rfl rfl rfl (qG 32 4294967296 zB rfl rfl rfl rfl aa aa) Kz.p):P:=h ⟨k⟩
theorem zue (k:Q) (h:ZW Q->P:=by intro Kz;exact nB (dh hM (λ_=>False) (hI [] _)) [] (vs:=[_,_]) func193 rfl ntmps193 rfl (Nj hM (hI [] _) h0 zJ (by simp[kV]) zJ) Kz.p):P:=h ⟨k⟩
theorem UW (k:Q) (h:ZW Q->P:=by intro Kz;exact PJ.dropAt (i:=0) rfl uI Kz.p):P:=h ⟨k⟩
theorem zwe (k:Q) (h:ZW Q->P:=by intro Kz;exact ax (.agg #[.slice fa fos.length fc,o1,.slice la cs.length lc,.slice ga gs.length gc,.slice ia xs.length ic,o5,o6,o7]) Kz.p):P:=h ⟨k⟩
theorem zxe (k:Q) (h:ZW Q->P:=by intro Kz;exact call call111 rfl rfl rfl (λW hS=>by rw[<-gO];exact nKb ns hn N a cp W cM (aJ.up (ak _) hS.sm)) (v:=ab 210) Kz.p):P:=h ⟨k⟩
theorem Wg (k:Q) (h:ZW Q->P:=by intro Kz;exact rv rfl rfl rfl (T5 rfl rfl) Kz.p):P:=h ⟨k⟩
theorem zze (k:Q) (h:ZW Q->P:=by intro Kz;exact rv rfl rfl rfl (Ae rfl rfl aa zzc) Kz.p):P:=h ⟨k⟩
theorem zAe (k:Q) (h:ZW Q->P:=by intro Kz;exact CJ.reH (H':=[(uY,aO dJ 35 [nq (dk p.x.g.last) 9] []),(b3,oC (dg p.x.g.last) 33),(b2,oC #[yv l] 145)]) zVb Kz.p):P:=h ⟨k⟩
theorem zBe (k:Q) (h:ZW Q->P:=by intro Kz;exact rv rfl rfl rfl (fM (l:=64) (h:=N-64*k) underlying106 sizeOf5 rfl ⟨_,_,rfl,rfl⟩ rfl aa aa rfl) Kz.p):P:=h ⟨k⟩
theorem zCe (k:Q) (h:ZW Q->P:=by intro Kz;exact jP (i:=1) rfl sizeOf285 rfl rfl rfl rfl (dO rfl) rfl Kz.p):P:=h ⟨k⟩
theorem zDe (k:Q) (h:ZW Q->P:=by intro Kz;exact jP (i:=1) rfl sizeOf106 rfl rfl rfl rfl (dO rfl) rfl Kz.p):P:=h ⟨k⟩
theorem zEe (k:Q) (h:ZW Q->P:=by intro Kz;exact jP (i:=0) rfl sizeOf348 rfl rfl rfl rfl (dO rfl) rfl Kz.p):P:=h ⟨k⟩
theorem zFe (k:Q) (h:ZW Q->P:=by intro Kz;exact call call197 rfl rfl rfl (λW hS=>nPe G N W cM (hG.up (ak _) hS.sm) l hxl a cp (aJ.up (ak _) hS.sm) au) Kz.p):P:=h ⟨k⟩
theorem zGe (k:Q) (h:ZW Q->P:=by intro Kz;exact rv rfl rfl rfl (qv (ev:=ab) underlying165 underlying3 zeroValue3 hm (bB.own (i:=0) rfl) rfl rfl) Kz.p):P:=h ⟨k⟩
theorem zHe (k:Q) (h:ZW Q->P:=by intro Kz;exact jP (i:=0) rfl sizeOf3 rfl rfl rfl rfl (dO rfl) rfl Kz.p):P:=h ⟨k⟩
theorem zIe (k:Q) (h:ZW Q->P:=by intro Kz;exact call call180 rfl rfl rfl (λW hS=>nPf _ aa aa W) Kz.p):P:=h ⟨k⟩
theorem zJe (k:Q) (h:ZW Q->P:=by intro Kz;exact cC (.inl rfl) results196 bj A0 zC Kz.p):P:=h ⟨k⟩
theorem zKe (k:Q) (h:ZW Q->P:=by intro Kz;exact call (v:=.tuple #[ab pv,ab 0]) call79 rfl rfl rfl (λW hS=>by rw[<-hpv];exact n8g hZ zB W) Kz.p):P:=h ⟨k⟩
theorem zLe (k:Q) (h:ZW Q->P:=by intro Kz;refine ax (.agg (wrA x.w)) ?_;exact call call71 rfl rfl rfl (λW hS=>nle x.w W) (v:=ab (yT x.w)) Kz.p):P:=h ⟨k⟩
theorem zMe (k:Q) (h:ZW Q->P:=by intro Kz;refine ax (.agg (kh (⟨d.c,decide (j=0),aX gy.g.ns d.c.chs,q1,q2,d.x⟩:Pl))) ?_;exact zG Kz.p):P:=h ⟨k⟩
theorem zNe (k:Q) (h:ZW Q->P:=by intro Kz;refine CX.condF rfl ?_;refine CX.exit ?_;refine PX.exThen ?_;refine PX.exThen ?_;exact PX.exHit Kz.p):P:=h ⟨k⟩
theorem zOe (k:Q) (h:ZW Q->P:=by intro Kz;exact rv rfl rfl rfl (ug underlying374 isAgg303 sizeOf303 rfl rfl aa aa (S8.cells_ld _ i _ aa aa)) Kz.p):P:=h ⟨k⟩
theorem zPe (k:Q) (h:ZW Q->P:=by intro Kz;exact pH hT rfl rfl rfl (RV.re (v':=bG) (AY rfl rfl) (vb (decide_eq_false aa))) Kz.p):P:=h ⟨k⟩
theorem zQe (k:Q) (h:ZW Q->P:=by intro Kz;exact pH hT rfl rfl rfl (RV.re (v':=cX) (AY rfl rfl) (vb (decide_eq_true aa))) Kz.p):P:=h ⟨k⟩
theorem zRe (k:Q) (h:ZW Q->P:=by intro Kz;exact call call64 rfl rfl rfl (λW hS=>nDk ns hn N a cp W cM (aJ.up (ak _) hS.sm) gO d hd rW) Kz.p):P:=h ⟨k⟩
theorem zSe (k:Q) (h:ZW Q->P:=by intro Kz;exact call call194 rfl rfl rfl (λW hS=>n6d [a,b] _ _ _ _ _ rfl zJ W (hS.old A0 hb8 hm8 trivial)) Kz.p):P:=h ⟨k⟩
theorem zTe (k:Q) (h:ZW Q->P:=by intro Kz;refine PJ.dj ?_;refine DJ.one (n:=29) rfl zO ?_;refine B 2 ?_;refine PJ.dj ?_;refine DJ.one (n:=30) rfl zO ?_;refine B 2 ?_;refine PJ.dj ?_;refine DJ.one (n:=31) rfl zO ?_;refine B 2 ?_;exact PJ.dj Kz.p):P:=h ⟨k⟩
theorem Yc (k:Q) (h:ZW Q->P:=by intro Kz;refine B 6 ?_;refine ax (.agg (bD G)) ?_;refine call call148 rfl rfl rfl (λW hS=>by rw[<-hv];exact nQ G N W cM (hG.up (ak _) hS.sm)) (v:=.bool true) ?_;exact ax bG Kz.p):P:=h ⟨k⟩
theorem B4 (k:Q) (h:ZW Q->P:=by intro Kz;refine pV ?_;exact pV Kz.p):P:=h ⟨k⟩
theorem zWe (k:Q) (h:ZW Q->P:=by intro Kz;refine rv rfl rfl rfl (kp rfl rfl) ?_;refine zSd ?_;refine B 7 ?_;refine zHd ?_;refine B 8 ?_;refine Pa ?_;refine zDd ?_;refine B 5 ?_;exact zmd Kz.p):P:=h ⟨k⟩
theorem KG (k:Q) (h:ZW Q->P:=by intro Kz;refine ax cX ?_;exact B 11 Kz.p):P:=h ⟨k⟩
theorem zYe (k:Q) (h:ZW Q->P:=by intro Kz;refine B 1 ?_;refine nec rfl ?_;exact B 4 Kz.p):P:=h ⟨k⟩
theorem KJ (k:Q) (h:ZW Q->P:=by intro Kz;refine eN func83 ntmps83 ?_;exact B 3 Kz.p):P:=h ⟨k⟩
theorem z0e (k:Q) (h:ZW Q->P:=by intro Kz;exact rv rfl rfl rfl (vj underlying233 underlying5 rfl aa aa) Kz.p):P:=h ⟨k⟩
theorem z1e (k:Q) (h:ZW Q->P:=by intro Kz;refine DJ.done ?_;refine B 9 ?_;exact aF results39 rfl A4 Kz.p):P:=h ⟨k⟩
theorem z2e (k:Q) (h:ZW Q->P:=by intro Kz;refine zQe ?_;refine Fm ?_;refine CX.seq ?_;refine CX.condT rfl ?_;refine CX.skip ?_;refine PX.next ?_;refine CX.seq ?_;refine CX.block ?_;exact AL Kz.p):P:=h ⟨k⟩
theorem z3e (k:Q) (h:ZW Q->P:=by intro Kz;refine ax (.agg (cG c)) ?_;exact call call149 rfl rfl rfl (λW hS=>by rw[<-jH];exact ntb c dz.few N W cM (hC.up (ak _) hS.sm)) (v:=ab 0) Kz.p):P:=h ⟨k⟩
theorem Vp (k:Q) (h:ZW Q->P:=by intro Kz;exact ax (.agg (dg p.x.g.last)) Kz.p):P:=h ⟨k⟩
theorem z5e (k:Q) (h:ZW Q->P:=by intro Kz;refine zhd ?_;refine call (v:=.bool true) call69 rfl rfl rfl (λW hS=>Sm (nvn a0 W)) ?_;exact B 10 Kz.p):P:=h ⟨k⟩
theorem AP (k:Q) (h:ZW Q->P:=by intro Kz;refine B 2 ?_;exact PJ.dj Kz.p):P:=h ⟨k⟩
theorem z7e (k:Q) (h:ZW Q->P:=by intro Kz;refine B 8 ?_;refine ax bG ?_;refine B 3 ?_;refine ax bG ?_;refine B 18 ?_;refine KG ?_;exact z1d Kz.p):P:=h ⟨k⟩
theorem xx (k:Q) (h:ZW Q->P:=by intro Kz;refine B 7 ?_;exact pV Kz.p):P:=h ⟨k⟩
theorem NJ (k:Q) (h:ZW Q->P:=by intro Kz;refine B 5 ?_;refine Kd ?_;exact B 1 Kz.p):P:=h ⟨k⟩
theorem Nb (k:Q) (h:ZW Q->P:=by intro Kz;refine B 6 ?_;exact aF results180 rfl A0 Kz.p):P:=h ⟨k⟩
theorem PE (k:Q) (h:ZW Q->P:=by intro Kz;refine B 13 ?_;exact ax cX Kz.p):P:=h ⟨k⟩
theorem zcf (k:Q) (h:ZW Q->P:=by intro Kz;refine Fm ?_;refine CX.condF rfl ?_;refine CX.skip ?_;refine PX.norBlock ?_;refine PX.next ?_;exact CX.region Kz.p):P:=h ⟨k⟩
theorem zdf (k:Q) (h:ZW Q->P:=by intro Kz;refine Yc ?_;refine B 9 ?_;refine z5d ?_;exact rq bG (iT rfl) (by rw[hf];rfl) Kz.p):P:=h ⟨k⟩
theorem zef (k:Q) (h:ZW Q->P:=by intro Kz;refine B 4 ?_;exact rq cX (HJ rfl rfl) (vb (decide_eq_true aa)) Kz.p):P:=h ⟨k⟩
theorem zff (k:Q) (h:ZW Q->P:=by intro Kz;refine call call253 rfl rfl rfl (λW hS=>nDi _ _ aa aa aa aa W) ?_;refine B 11 ?_;exact zie Kz.p):P:=h ⟨k⟩
theorem zgf (k:Q) (h:ZW Q->P:=by intro Kz;refine B 1 ?_;refine PJ.dj ?_;refine DJ.one (n:=8) rfl zO ?_;refine AP ?_;refine DJ.one (n:=9) rfl zO ?_;exact AP Kz.p):P:=h ⟨k⟩
theorem xv (k:Q) (h:ZW Q->P:=by intro Kz;refine B 2 ?_;exact ax bG Kz.p):P:=h ⟨k⟩
theorem CH (k:Q) (h:ZW Q->P:=by intro Kz;refine B 8 ?_;exact B4 Kz.p):P:=h ⟨k⟩
theorem zjf (k:Q) (h:ZW Q->P:=by intro Kz;refine ax cX ?_;refine B 4 ?_;refine ax cX ?_;refine B 3 ?_;refine ax cX ?_;refine B 3 ?_;refine rv rfl rfl rfl (yz rfl rfl) ?_;exact B 3 Kz.p):P:=h ⟨k⟩
theorem XZ (k:Q) (h:ZW Q->P:=by intro Kz;refine B 5 ?_;exact ax (.agg (bD G)) Kz.p):P:=h ⟨k⟩
theorem Rp (k:Q) (h:ZW Q->P:=by intro Kz;refine z2d ?_;exact Fm Kz.p):P:=h ⟨k⟩
theorem zmf (k:Q) (h:ZW Q->P:=by intro Kz;refine NJ ?_;exact call call64 rfl rfl rfl (λW hS=>nng ns hn N a cp W cM (aJ.up (ak _) hS.sm) gO d true) Kz.p):P:=h ⟨k⟩
theorem znf (k:Q) (h:ZW Q->P:=by intro Kz;refine Kd ?_;refine zpd ?_;exact B 6 Kz.p):P:=h ⟨k⟩
theorem zof (k:Q) (h:ZW Q->P:=by intro Kz;refine B 7 ?_;exact rv rfl rfl rfl (fk (h:=64) underlying106 sizeOf5 rfl ⟨_,_,rfl,rfl⟩ aa) Kz.p):P:=h ⟨k⟩
theorem ZM (k:Q) (h:ZW Q->P:=by intro Kz;refine DJ.one (n:=35) rfl zO ?_;refine AP ?_;refine DJ.one (n:=36) rfl zO ?_;exact AP Kz.p):P:=h ⟨k⟩
theorem zqf (k:Q) (h:ZW Q->P:=by intro Kz;refine B 2 ?_;refine zze ?_;refine B 1 ?_;refine Pa ?_;refine B 1 ?_;refine VP ?_;exact B 4 Kz.p):P:=h ⟨k⟩
theorem Er (k:Q) (h:ZW Q->P:=by intro Kz;refine ax bG ?_;exact B 7 Kz.p):P:=h ⟨k⟩
theorem UH (k:Q) (h:ZW Q->P:=by intro Kz;refine ax cX ?_;exact B 5 Kz.p):P:=h ⟨k⟩
theorem ztf (k:Q) (h:ZW Q->P:=by intro Kz;refine zPe ?_;refine Fm ?_;refine CX.seq ?_;refine zNe ?_;refine PX.next ?_;exact AL Kz.p):P:=h ⟨k⟩
theorem zuf (k:Q) (h:ZW Q->P:=by intro Kz;refine DJ.one (n:=27) rfl zO ?_;refine AP ?_;refine DJ.one (n:=28) rfl zO ?_;refine B 2 ?_;exact zTe Kz.p):P:=h ⟨k⟩
theorem Iq (k:Q) (h:ZW Q->P:=by intro Kz;refine ax bG ?_;exact B 6 Kz.p):P:=h ⟨k⟩
theorem zwf (k:Q) (h:ZW Q->P:=by intro Kz;refine rv rfl rfl rfl (kp rfl rfl) ?_;refine B 1 ?_;exact rv rfl rfl rfl (pw rfl rfl) Kz.p):P:=h ⟨k⟩
theorem Re (k:Q) (h:ZW Q->P:=by intro Kz;refine B 7 ?_;exact B4 Kz.p):P:=h ⟨k⟩
theorem zyf (k:Q) (h:ZW Q->P:=by intro Kz;refine ax (.agg (bD (⟨⟨G.g.folder,c.epoch,aB Z c,[],[]⟩,none,0,none,0⟩:Gv))) ?_;exact B 5 Kz.p):P:=h ⟨k⟩
theorem XI (k:Q) (h:ZW Q->P:=by intro Kz;refine ax cX ?_;exact B 12 Kz.p):P:=h ⟨k⟩
theorem zAf (k:Q) (h:ZW Q->P:=by intro Kz;refine DJ.one (n:=25) rfl zO ?_;refine AP ?_;exact DJ.done Kz.p):P:=h ⟨k⟩
theorem NH (k:Q) (h:ZW Q->P:=by intro Kz;refine B 2 ?_;exact JE rfl rfl rfl Kz.p):P:=h ⟨k⟩
theorem YG (k:Q) (h:ZW Q->P:=by intro Kz;refine B 11 ?_;refine ax bG ?_;exact B 17 Kz.p):P:=h ⟨k⟩
theorem zDf (k:Q) (h:ZW Q->P:=by intro Kz;refine B 5 ?_;refine ax (.agg (dg x.g)) ?_;refine B 1 ?_;refine z6d ?_;refine B 3 ?_;refine ax (.slice x.ba x.body.length x.bc) ?_;exact B 1 Kz.p):P:=h ⟨k⟩
theorem XX (k:Q) (h:ZW Q->P:=by intro Kz;refine B 2 ?_;refine ax (.agg (gh x)) ?_;exact B 1 Kz.p):P:=h ⟨k⟩
theorem Pd (k:Q) (h:ZW Q->P:=by intro Kz;refine B 10 ?_;exact ax bG Kz.p):P:=h ⟨k⟩
theorem zGf (k:Q) (h:ZW Q->P:=by intro Kz;refine PJ.dj ?_;refine DJ.one (n:=23) rfl zO ?_;refine AP ?_;refine DJ.one (n:=24) rfl zO ?_;refine AP ?_;exact zAf Kz.p):P:=h ⟨k⟩
theorem zHf (k:Q) (h:ZW Q->P:=by intro Kz;refine ax (.agg (pZ x)) ?_;refine B 1 ?_;exact Bu (f:=264) (cap:=[]) rfl call264 rfl rfl rfl (λW hS=>nll x d W) Kz.p):P:=h ⟨k⟩
theorem zIf (k:Q) (h:ZW Q->P:=by intro Kz;refine B 7 ?_;refine zOe ?_;refine B 10 ?_;refine zFd ?_;refine B 2 ?_;refine zXd ?_;refine B 7 ?_;exact z4d Kz.p):P:=h ⟨k⟩
theorem zJf (k:Q) (h:ZW Q->P:=by intro Kz;refine rv rfl rfl rfl (iN rfl rfl) ?_;refine B 1 ?_;exact jP (i:=0) rfl sizeOf303 rfl rfl rfl rfl (dO rfl) rfl Kz.p):P:=h ⟨k⟩
theorem zKf (k:Q) (h:ZW Q->P:=by intro Kz;refine B 2 ?_;refine zhd ?_;exact call (v:=.bool false) call69 rfl rfl rfl (λW hS=>Sm (Sd a0 W)) Kz.p):P:=h ⟨k⟩
theorem zLf (k:Q) (h:ZW Q->P:=by intro Kz;refine B 12 ?_;refine zae ?_;exact B 1 Kz.p):P:=h ⟨k⟩
theorem zMf (k:Q) (h:ZW Q->P:=by intro Kz;refine B 2 ?_;refine zwf ?_;refine B 2 ?_;exact zWe Kz.p):P:=h ⟨k⟩
theorem zNf (k:Q) (h:ZW Q->P:=by intro Kz;refine B 2 ?_;refine zhd ?_;exact call (v:=.bool false) call69 rfl rfl rfl (λW hS=>Sm zLc) Kz.p):P:=h ⟨k⟩
theorem zOf (k:Q) (h:ZW Q->P:=by intro Kz;refine B 1 ?_;refine PJ.dj ?_;refine DJ.one (n:=36) rfl zO ?_;refine AP ?_;exact DJ.done Kz.p):P:=h ⟨k⟩
theorem UJ (k:Q) (h:ZW Q->P:=by intro Kz;refine zad ?_;exact B 2 Kz.p):P:=h ⟨k⟩
theorem zQf (h:P:=by first|exact nb (λh=>absurd h.fo eC)|exact nb (λh=>by have:=h.e1;omega)|exact nb (λh=>by have:=h.e2;omega)|exact nb (λh=>absurd h.au eC)|exact nb (λh=>absurd h.ch z1)|exact nb (λh=>by have:=h.pl;omega)|exact nb (λh=>by have:=h.bl;omega)|exact nb (λh=>by have:=h.wl;omega)|exact nb (λh=>by have:=IA.2 (h.path _ _ hy);omega)|exact nb (λh=>by have h9:=h.box _ _ hx;have h8:=h9.1;have h7:=ny.2 h9.2;omega)|exact nb (λh=>by have h9:=h.wel _ _ hx;exact h1 h9.1)|exact nb (λh=>by have h9:=h.wel _ _ hx;have h8:=ny.2 h9.2.2;omega)|exact nb (λh=>by have h9:=(h.wel _ _ hx).2.1 y aa hy;omega)|exact npb ⟨by assumption,by omega,by omega,by assumption,by assumption,by omega,by omega,by omega,hA1,Yg,ea.all aa⟩):P:=h
theorem zRf (h:P:=by
  first|(have hD0:=hd.stop iv aa;obtain⟨q2,rfl⟩:∃q2,q2=q:=⟨_,rfl⟩)|(have hD0:=nub aa aa bW cK iv aa;generalize q-1=q2 at *)
  rw[Ud]at hD0
  obtain⟨r0,hr0⟩:∃z,(r1*2^32+v0)%Y=z:=⟨_,rfl⟩
  have amD:r0<Y:=by rw[<-hr0];exact Nat.mod_lt _ aa
  have hz0:q2*Y+r0=r1*2^32+v0:=by have:=Bq (r1*2^32+v0) Y;rw[hD0,hr0,Ig]at this;exact this
  have cx:u*2^64+v=(q1*2^32+q2)*Y+r0:=by have:=n3b u v Y r1 zTb;rw[show v/2^32=v1 from hv1,show v%2^32=v0 from hv0,xX,hD0,hr0]at this;exact this
  obtain⟨Ax,DH⟩:=n2b hi lo y s (q1*2^32+q2) r0 zYb zIb
  have amF:=td.small (un:=v1) iv huY Jb
  rw[Ud,xX]at amF
  have amG:=td.small (un:=v0) iv tY sk
  rw[Ud,hD0]at amG
  refine zQc ?_
  refine nS results254 rfl rfl A0 ?_ ?_
  · rw[Ax];exact vu zkb
  · rw[DH]
 ):P:=h
theorem zSf (h:P:=by
  refine B 1 ?_
  refine zMd ?_
  refine B 1 ?_
  refine zme ?_
  refine R0 ?_
  intro s9 Am O6 O7 O8 Ia am0
  replace O7:=yb O7
  replace O8:=yc O8
  refine R5 (f:=167) (first:=[]) (cap:=[ptr b2 0]) (V:=V) (λV=>hI (pre++[(⟨[aS ((eb p.ns (vF x.dev)).getD 0)],bE (dk p.x.g.last),some ⟨s9,0,none⟩,1⟩:Dv)]) V) hX rfl call167 rfl rfl rfl (λW9 cu=>?_) ?_ ?_
  · refine Vo (λV=>hI (pre++[(⟨[aS ((eb p.ns (vF x.dev)).getD 0)],bE (dk p.x.g.last),some ⟨s9,0,none⟩,1⟩:Dv)]) V) hX hV (⟨[aS ((eb p.ns (vF x.dev)).getD 0)],bE (dk p.x.g.last),some ⟨s9,0,none⟩,1⟩:Dv) b2 W9 cu.alone (cu.own (b2,_) A2) (λh=>h.elim (λh=>by have:=(hM _ h).1;omega) (λh=>cu.apart (b2,_) A2 (.inr h))) (λW1 oA hv1 pT=>hy pre (⟨[aS ((eb p.ns (vF x.dev)).getD 0)],bE (dk p.x.g.last),some ⟨s9,0,none⟩,1⟩:Dv) V W1 ⟨by simp only[ck,dC,fb];omega,λd hd=>?_⟩ hv1 pT)
    rcases bA.1 hd with hd|hd
    · exact fe.low ((dP d hd).up (dG (cu.links wk A1).size oA.size) (λb off e_ hb1_ hb2_ hb3_=>(oA.block b zHb hb3_).trans ((cu.links wk A1).block b hb2_ (λhx=>hx.elim hb3_ (λhx=>by first|(simp only[cW,dB,dt,eL,bX,dy,or_false]at hx;omega)|(simp at hx;omega)|(simp at hx))))) (λb _ hb2_ h=>h)) (cV _)
    · rw[kf.1 hd]
      exact fe.low (fe.up (fe.one O6 Ia (K:=w0.heap.size) aa) (dG (cu.links Am A0).size oA.size) (λb off e_ hb1_ hb2_ hb3_=>(oA.block b (by have:=(cu.links Am A0).size;omega) hb3_).trans ((cu.links Am A0).block b hb2_ (λhx=>hx.elim hb3_ (λhx=>by cases e_;first|(simp only[cW,dB,dt,eL,bX,dy,or_false]at hx;omega)|(simp at hx;omega)|(simp at hx))))) (λb _ _ h=>h)) (cV _)
  · intro V2 sV dp
    have kS:∀k,V2 k->W.heap.size<=k:=λk hk=>(dp W A2 k hk).elim (hV k) id
    have hn2:∀k,k<wk.heap.size->(M k\/V2 k)->(M k\/V k):=λk hk h=>(h.imp id λh=>(dp wk A1 k h).resolve_right aa)
    have Bn:¬(M s9\/V2 s9):=λh=>Ia (h.imp id λh=>(dp Am A0 _ h).resolve_right aa)
    refine B 12 ?_
    refine PJ.resnap (L':=[wk,W]) (i:=0) rfl zD zJ (λW9 cu=>?_)
    have cx:∀d∈(pre++[(⟨[aS ((eb p.ns (vF x.dev)).getD 0)],bE (dk p.x.g.last),some ⟨s9,0,none⟩,1⟩:Dv)]),fe (λk=>M k\/V2 k) w0.heap.size W9.heap.size W9 d:=by
      intro d hd
      rcases bA.1 hd with hd|hd
      · exact(dP d hd).up (cu.links wk A1).size (λb off e_ hb1_ hb2_ hb3_=>(cu.links wk A1).block b hb2_ (λhx=>hx.elim (λh=>hb3_ (hn2 b hb2_ h)) (λhx=>by first|(simp only[cW,dB,dt,eL,bX,dy,or_false]at hx;omega)|(simp at hx;omega)|(simp at hx)))) (λb _ hb2_ h=>hn2 b hb2_ h)
      · rw[kf.1 hd]
        exact fe.up (fe.one O6 Bn (K:=w0.heap.size) aa) (cu.links Am A0).size (λb off e_ hb1_ hb2_ hb3_=>(cu.links Am A0).block b hb2_ (λhx=>hx.elim hb3_ (λhx=>by cases e_;first|(simp only[cW,dB,dt,eL,bX,dy,or_false]at hx;omega)|(simp at hx;omega)|(simp at hx)))) (λb _ _ h=>h)
    refine ag ((pre++[(⟨[aS ((eb p.ns (vF x.dev)).getD 0)],bE (dk p.x.g.last),some ⟨s9,0,none⟩,1⟩:Dv)],V2),W9,j+1) ⟨by dsimp only;omega,kS,dG sI (cu.links wk A1).size,by dsimp only;rw[CY (xs:=(bC p).1.wes) hx,gb,aQ,nPn eC];simp[gE,bC],by dsimp only;simp only[ck,dC,fb];omega,cx⟩
  · intro V2 sV dp
    have kS:∀k,V2 k->W.heap.size<=k:=λk hk=>(dp W A2 k hk).elim (hV k) id
    have hn2:∀k,k<wk.heap.size->(M k\/V2 k)->(M k\/V k):=λk hk h=>(h.imp id λh=>(dp wk A1 k h).resolve_right aa)
    have Bn:¬(M s9\/V2 s9):=λh=>Ia (h.imp id λh=>(dp Am A0 _ h).resolve_right aa)
    refine B 10 ?_
    exact ZE (.inl rfl) results166 A2 kS zZ (λA hSA hA=>.inr hA)
 ):P:=h
theorem cB (h:P:=by exact absurd (show false=true from hr) zB):P:=h
theorem zUf (h:P:=by
  refine zNd ?_
  first|exact congrArg ab (n8c ea aa)|exact congrArg ab (nM hx (λg=>by have g1:=g.1;have g2:=g.2.1;omega))|exact congrArg ab (nM hx (λg=>by have g3:=g.2.2.1 y aa hy;omega))|exact congrArg ab (nM hx (λg=>Uv (x:=x.pub) JS g.2.2.2.1))|exact congrArg ab (nM hx (λg=>by have g5:=(nTc _).2 g.2.2.2.2;simp_all))
 ):P:=h
theorem zVf (h:P:=by exact fe.low ((dP d hd).up (dG (cu.links wk A1).size oA.size) (λb off e_ hb1_ hb2_ hb3_=>(oA.block b zHb hb3_).trans ((cu.links wk A1).block b hb2_ (λhx=>hx.elim hb3_ (λhx=>by first|(simp only[cW,dB,dt,eL,bX,dy,or_false]at hx;omega)|(simp at hx;omega)|(simp at hx))))) (λb _ hb2_ h=>h)) (cV _)):P:=h
theorem zWf (h:P:=by
  refine ss rfl ?_ ?_
  · intro cv L' H' hl hP F Q' hk
    obtain rfl:=kX hl
    obtain⟨rfl,rfl⟩:=hP
    refine zod ?_
    rintro W_ ⟨ta_,tc_⟩ w_ qe vB ⟨dU,iC⟩
    have B2:=(qe.links wm A0).size
    exact OJ.done (hk _ _ _ ⟨ta_,tc_,w_,rfl,rfl,rfl,dU,λb off e=>(iC b off e).imp id (λh=>h.imp id (λh=>dG B2 h)),dG B2 vB.size⟩)
  refine ss rfl ?_ ?_
  · intro cv L' H' hl hP F Q' hk
    obtain⟨v1,rfl⟩:=iw hl
    obtain⟨ta,tc,wr,rfl,rfl,rfl,rY,gO,qV⟩:=hP
    refine zid ?_
    intro r_ UU ft
    exact OJ.done (hk _ _ _ ⟨ta,tc,wr,r_,rfl,rfl,rfl,rfl,rY,gO,qV,UU,ft,Rw.ge_of UU A0⟩)
  refine ss rfl ?_ ?_
  · intro cv L' H' hl hP F Q' hk
    obtain⟨v1,v2,rfl⟩:=pS hl
    obtain⟨ta,tc,wr,r8,rfl,rfl,rfl,rfl,rY,gO,qV,mJ,gW,jk⟩:=hP
    refine B 1 ?_
    exact OJ.done (hk _ _ _ ⟨ta,tc,wr,r8,rfl,rfl,rfl,rfl,rfl,rY,gO,qV,mJ,gW,jk⟩)
  refine ss rfl ?_ ?_
  · intro cv L' H' hl hP F Q' hk
    obtain⟨v1,v2,v3,rfl⟩:=mj hl
    obtain⟨ta,tc,wr,r8,rfl,rfl,rfl,rfl,rfl,rY,gO,qV,mJ,gW,jk⟩:=hP
    refine B 1 ?_
    exact OJ.done (hk _ _ _ ⟨ta,tc,wr,r8,rfl,rfl,rfl,rfl,rfl,rfl,rY,gO,qV,mJ,gW,jk⟩)
  refine ss rfl ?_ ?_
  · intro cv L' H' hl hP F Q' hk
    obtain⟨v1,v2,v3,v4,rfl⟩:=uH hl
    obtain⟨ta,tc,wr,r8,rfl,rfl,rfl,rfl,rfl,rfl,rY,gO,qV,mJ,gW,jk⟩:=hP
    refine jP (i:=0) rfl sizeOf51 rfl rfl rfl rfl (dO rfl) (Rw.val_one2 _ _) ?_
    exact OJ.done (hk (.tuple #[]) _ _ ⟨ta,tc,wr,r8,rfl,rfl,rfl,rfl,rfl,rfl,rfl,rY,gO,qV,mJ,gW,jk⟩)
  exact nn
 ):P:=h
theorem zXf (h:P:=by exact(dP d hd).up (cu.links wk A1).size (λb off e_ hb1_ hb2_ hb3_=>(cu.links wk A1).block b hb2_ (λhx=>hx.elim (λh=>hb3_ (hn2 b hb2_ h)) (λhx=>by first|(simp only[cW,dB,dt,eL,bX,dy,or_false]at hx;omega)|(simp at hx;omega)|(simp at hx)))) (λb _ hb2_ h=>hn2 b hb2_ h)):P:=h
theorem zYf (h:P:=by
  refine zTc ?_
  refine CJ.chn 11 [4] [_,some (.slice G.ma G.g.ms.length G.mc),_,some (.agg #[.slice G.na G.g.ns.length G.nc]),none,_,some (bG),_,some undef,some undef,some undef] (λcv L' H'=>match cv with| []=>L'=[w1,w]/\H'=[]| [v1]=>∃(a7:Option Addr) (c7:Nat) (w7:World),v1= .slice a7 (dZ G.g.ns).length c7/\L'=[w7,w1,w]/\H'=[]/\ai (λx=>(aA x).toArray) 1 w7.heap.size w7 a7 (dZ G.g.ns)|_=>False) (pc XT (pc NO (pc XU (pc NO (pk (pc zN (pc (λcv L' H' hd hP=>match cv,hd,hP with| [],hd,hP=>(absurd (show false=true from hd) zB)| [v1],hd,hP=>zGc|_::_::_,_,hP=>hP.elim) (pc zN (pc zLb (pc zLb (pc zLb (pn)))))))))))) ?_ ?_
  · refine ss rfl ?_ ?_
    · intro cv L' H' hl hP F Q' hk
      obtain rfl:=kX hl
      obtain⟨rfl,rfl⟩:=hP
      refine z6c ?_
      intro W7 a7 c7 w7 IZ Ss jA mq
      exact OJ.done (hk _ _ _ ⟨a7,c7,w7,rfl,rfl,rfl,jA⟩)
    exact nn
  · intro cv L' H' hl hP
    obtain⟨v1,rfl⟩:=iw hl
    obtain⟨a7,c7,w7,rfl,rfl,rfl,jA⟩:=hP
    refine B 7 ?_
    refine aF results148 rfl A2 ?_
    exact QD (λh=>h1 h.2.2.1)
 ):P:=h
theorem zZf (h:P:=by
  have hv:∀W2,∀w∈L,∀k,qA V W1 W2 k->V k\/w.heap.size<=k:=λW2 w hw k hk=>by
    rcases hk with hk|hk
    · exact .inl hk
    · have:=(hS.links w hw).size;exact .inr aa
  refine⟨fn,tmps,assign,body,fK,kM.mono ?_⟩
  rintro e W2 ⟨b,rfl,hk,hb⟩
  refine⟨b,rfl,by rw[(hT _).1];exact hk,?_⟩
  have nx:∀{R:World->Prop} (hR:eX (λk=>(k<W0.heap.size/\¬MI k)\/(qA V W1 W2) k) R),R W2->Next (T (dh hM V hI)) W1 W2 (T (dh hM (qA V W1 W2) hR)):=λ{R} hR hb=>by
    refine⟨λk h=>?_,λk h=>?_,λk h=>?_,by rw[(hT _).2.2.1];exact hb⟩
    · rw[(hT _).2.2.2]at h ⊢
      rcases h with(h|h)|h
      · exact .inl (.inl h)
      · exact .inl (.inr (.inl h))
      · exact .inr h
    · rw[(hT _).2.2.2]at h ⊢
      rcases h with(h|h|h)|h
      · exact .inl (.inl (.inl h))
      · exact .inl (.inl (.inr h))
      · exact .inr h
      · exact .inl (.inr h)
    · rw[(hT _).2.1]at h ⊢
      rcases h with h|h|h
      · exact .inl (.inl h)
      · exact .inl (.inr h)
      · exact .inr h
  cases b with
  |true=>exact⟨_,⟨_,λk h=>.inl h,hv W2,rfl⟩,nx (kO _) hb⟩
  |false=>exact⟨_,⟨_,λk h=>.inl h,hv W2,rfl⟩,nx (fE _) hb⟩
 ):P:=h
theorem X2 (h:P:=by
  refine zee ?_
  show Value.bool _=Value.bool _
  refine vb ?_
  first|(have h1b:(gS G.g.ms au != decide (0<G.g.epoch))=true:=CM;unfold mz;rw[h1b];rfl)|(have h1b:(gS G.g.ms au != decide (0<G.g.epoch))=false:=CM;unfold mz;rw[h1b];simp_all)
 ):P:=h
theorem z1f (h:P:=by
  refine ss rfl ?_ ?_
  · intro cv L' H' hl hP F Q' hk
    obtain rfl:=kX hl
    obtain⟨rfl,rfl⟩:=hP
    refine z6c ?_
    intro W7 a7 c7 w7 IZ Ss jA mq
    exact OJ.done (hk _ _ _ ⟨a7,c7,w7,rfl,rfl,rfl,jA⟩)
  exact nn
 ):P:=h
theorem XY (h:P:=by exact PJ.mid ⟨(congrArg (λb=>some (Value.bool b)) z9),rfl,rfl,rfl,rfl,rfl,rfl,rfl,rfl,rfl,rfl,rfl,rfl,rfl,trivial⟩):P:=h
theorem z3f (h:P:=by
  have h5:∀q,q1=some q->(W9.heap.size)<=q.block:=by
    intro q hq
    rcases hq1 with h|⟨b',off,fC,t',CD,e1,_⟩
    · exact absurd h h0
    · rw[e1]at hq;cases hq;exact h2 _ _ e1
  obtain⟨FT,h3,h4⟩:=hq1.fs (K:=(W9.heap.size)) h5
  exact⟨FT,λp hp=>⟨(h3 p hp).1,(aT.1 (h3 p hp).2).1,(h3 p hp).2⟩,h4.mono (λp hp=>bA.2 (.inl hp))⟩
 ):P:=h
theorem SZ (h:P:=by
  refine aF results8 rfl A1 ?_
  first|exact vb z4|exact vb zyb|exact vb zEb
 ):P:=h
theorem z5f (h:P:=by
  rw[Instr.checkKey]
  simp only[Sem.run_bind,run_underlying hU,Result.andThen_ok]
  simp only[Std.Legacy.Range.forIn_eq_forIn_range',Std.Legacy.Range.size,Nat.sub_zero,Nat.add_one_sub_one,Nat.div_one]
  have each:∀j∈List.range' 0 len,j<cs.length:=λj hj=>by rw[List.mem_range'_1]at hj;omega
  generalize List.range' 0 len=is at each
  induction is with
  |nil=>simp
  |cons j is ih=>
    have hj:=each j zJ
    have p1:(part e cs.toArray (j*1)).run P W= .ok cs[j] W:=by simp[part,hA W,hj]
    have p2:(Instr.checkKey em (n+1) e cs[j]).run P W= .ok () W:=by simp[Instr.checkKey,run_underlying hE]
    simp only[List.forIn_cons,Sem.run_bind,hZ W,Result.andThen_ok,p1,p2,Sem.run_pure]
    exact ih (λy hy=>each y (by simp[hy]))
 ):P:=h
theorem z6f (h:P:=by
  refine zJe ?_
  first|exact nlh ea aa|exact nnc hx (λg=>by have g1:=g.1.1;rw[<-QH,<-QJ]at g1;exact absurd g1 eC)|exact nnc hx (λg=>absurd g.1.2 eC)|exact nnc hx (λg=>by have g1:=g.2;simp_all)
 ):P:=h
theorem z7f (h:P:=by
  intro a W hI
  obtain⟨x,hx,iu,hN,hD,hF,hS⟩:=nve hI
  refine wpIn_mono (round x iu a W hN hD hF hS) ?_
  intro e a' W' hq
  cases e with
  |normal=>
    obtain⟨x',amI,hlt,h1,h2,h3,h4⟩:=hq
    have hI':Inv a' W' (μ x'):=⟨x',rfl,amI,h1,h2,h3,h4⟩
    exact⟨⟨_,hI'⟩,by have:=n0f hI';omega⟩
  |_=>exact hq
 ):P:=h
theorem z8f (h:P:=by
  refine B 4 ?_
  have za:j=p.c.wes.length:=by omega
  rw[za]at aQ
  have abX:pre.map gE=lA (bC p):=by rw[aQ];unfold lA;rw[show p.c.wes.length=(bC p).1.wes.length from rfl,vW];rfl
  refine ZE (.inr rfl) results166 A1 hV zZ (λA cu hA=>.inl ⟨pre,⟨⟨abX,by omega⟩,λd hd=>?_⟩,hA⟩)
  exact((dP d hd).up (cu.links wk A0).size (λb off e_ hb1_ hb2_ hb3_=>(cu.links wk A0).block b hb2_ (λhx=>hx.elim hb3_ (λhx=>by first|(simp only[cW,dB,dt,eL,bX,dy,or_false]at hx;omega)|(simp at hx;omega)|(simp at hx)))) (λb _ hb2_ h=>h)).low aa
 ):P:=h
theorem Ng (h:P:=by
  refine B 2 ?_
  refine PJ.again (q-1,r+y1) ⟨bW,by omega,cK,by omega⟩ z0b zR rfl rfl zJ
 ):P:=h
theorem Vd (h:P:=by
  refine aF results46 rfl A1 ?_
  first|exact vb zab|exact vb z8|exact vb zDb
 ):P:=h
theorem zbg (h:P:=by
  refine nS results125 rfl rfl A0 ?_ ?_
  all_goals(refine congrArg ab ?_;unfold gExp;first|(simp only[if_neg hg];done)|(rw[if_pos hg];first|(rw[if_neg aa];done)|(rw[if_pos aa];done)))
 ):P:=h
theorem zcg (h:P:=by
  have h1:=RU p hp
  have hn:p.1∉List.map (·.1) ([(Vn,oC (kh (⟨d.c,decide (j=0),aX gy.g.ns d.c.chs,q1,q2,d.x⟩:Pl)) 92),(gf,oC (bD gy) 53),(b9,oC (cG d.c) 61),(b4,oC (sR fo) 97)]++(r.hp zt 92 pls++[]):ad):=by
    intro hm
    obtain⟨p9,hp9,e9⟩:=bY.1 hm
    rcases bX.1 hp9 with h2|h2
    · rw[h2]at e9;dsimp only at e9;omega
    · have:=hK2 p9 h2;omega
  exact⟨((hS.links w8 A0).block p.1 h1.2.1 (λhx=>hx.elim zL (λh=>hn h))).trans h1.2.2,hn⟩
 ):P:=h
theorem zdg (h:P:=by
  refine ss rfl ?_ ?_
  · intro cv L' H' hl hP F Q' hk
    obtain⟨v1,v2,rfl⟩:=pS hl
    obtain⟨bn,rfl,rfl,rfl,rfl,hfn⟩:=hP
    refine Yk ?_
    intro b_ mE gP
    exact OJ.done (hk _ _ _ ⟨bn,b_,rfl,rfl,rfl,rfl,rfl,hfn,mE⟩)
  exact nn
 ):P:=h
theorem zeg (h:P:=by
  refine B 6 ?_
  have cx:=nZn (l:=dH d) (i:=i) aa (jT (dL ns) (512+d))
  rw[cx]at yJ ⊢
  refine B 9 ?_
  refine bM (.inl rfl) results64 bj λW hS=>⟨bf,mi,ap,gI,rfl,hS.base A2 Au,by omega,yJ,hS.own _ A0,oS.blk λb off hb1 da=>?_,λq hq=>?_⟩
  · have h1:=tC _ hb1
    dsimp only at h1
    exact⟨lZ da (hS.links wp A0).size,(hS.links wp A0).block b da (by simp[Gh.no];omega)⟩
  · have h1:=tC _ hq
    have h2:=(BJ.links w A1).size
    exact⟨by omega,by omega⟩
 ):P:=h
theorem zfg (h:P:=by
  intro V2 sV dp
  have kS:∀k,V2 k->W.heap.size<=k:=λk hk=>(dp W A2 k hk).elim (hV k) id
  have hn2:∀k,k<wk.heap.size->(M k\/V2 k)->(M k\/V k):=λk hk h=>(h.imp id λh=>(dp wk A1 k h).resolve_right aa)
  have pd:¬(M rC\/V2 rC):=λh=>Ga (h.imp id λh=>(dp sh A0 _ h).resolve_right aa)
  refine zgf ?_
  refine fA 10 25 (k:=?_)
  refine zAf ?_
  refine B 8 ?_
  exact ZE (.inl rfl) results166 A2 kS zZ (λA hSA hA=>.inr hA)
 ):P:=h
theorem zgg (h:P:=by
  refine aF results71 rfl A1 ?_
  first|exact Yd (λh=>by have h1:=IA.2 h.1;have h2:=h.2;omega)|exact n6i ⟨IA.1 aa,by omega,by omega⟩
 ):P:=h
theorem zhg (h:P:=by
  rw[kf.1 hd]
  exact fe.low (fe.up (fe.one F8 Ga (K:=w0.heap.size) aa) (dG (cu.links sh A0).size oA.size) (λb off e_ hb1_ hb2_ hb3_=>(oA.block b (by have:=(cu.links sh A0).size;omega) hb3_).trans ((cu.links sh A0).block b hb2_ (λhx=>hx.elim hb3_ (λhx=>by cases e_;first|(simp only[cW,dB,dt,eL,bX,dy,or_false]at hx;omega)|(simp at hx;omega)|(simp at hx))))) (λb _ _ h=>h)) (cV _)
 ):P:=h
theorem zjg (h:P:=by
  intro j hj
  rw[Array.contains_iff_mem]
  simp only[List.mem_toArray,bY]
  constructor
  · rintro⟨j',h1,h2⟩
    have h3:=pC j' h1
    have hb1:j<m.bs.length:=by rw[hm.len];exact hj
    have da:j'<m.bs.length:=by rw[hm.len];exact h3
    simp only[List.getD,kx hb1,kx da,Option.getD_some]at h2
    have:=nlk hm.nd da hb1 h2
    subst this;exact h1
  · exact λh=>⟨j,h,rfl⟩
 ):P:=h
theorem YE (h:P:=by exact bM (.inl rfl) results83 bj λW hS=>⟨gy,rfl,hS.base A2 zC,rfl,YD _ _,λq h=>zS,λq h=>zS⟩):P:=h
theorem Xi (h:P:=by
  rw[aQ]at hx
  replace hx:=yf hx
  rcases hx with hx|hx|hx|hx<;>first|omega|(have:=hq _ hx;omega)
 ):P:=h
theorem zmg (h:P:=by
  refine B 5 ?_
  obtain⟨bq,oq,Qj,tq,Qk,rfl,oT,yK,pY⟩:=oS.get aa
  have Ep:=tC _ rfl
  dsimp only at Ep
  obtain⟨n,hy⟩:=ng (dH d) i aa
  refine B 2 ?_
  refine zWd ?_
  refine B 6 ?_
  refine zsd ?_
  intro m3 cK
  refine B 7 ?_
  refine PJ.again (m3,i+1) ⟨by dsimp only;omega,by rw[n4f hy];exact cK⟩ zW zR (by rw[n4f hy];rfl) rfl zJ
 ):P:=h
theorem Uo (h:P:=by
  intro b4 ja jb
  replace ja:=yb ja
  replace jb:=yc jb
  refine z7e ?_
  rfl
 ):P:=h
theorem zog (h:P:=by
  intro cv L' H' hl hP F Q' hk
  obtain rfl:=kX hl
  obtain⟨rfl,rfl⟩:=hP
  refine Yk ?_
  intro b_ mE gP
  exact OJ.done (hk _ _ _ ⟨b_,rfl,rfl,rfl,mE⟩)
 ):P:=h
theorem zpg (h:P:=by exact ZE (.inl rfl) results166 A2 kS zZ (λA hSA hA=>.inr hA)):P:=h
theorem zqg (h:P:=by
  refine B 7 ?_
  refine zbd ?_
  refine B 5 ?_
  refine zBe ?_
  refine B 2 ?_
  refine PJ.again (k+1,if 128-64*k=64 then o2 else o2+64*1) (by dsimp only;split<;>omega) zW ⟨rfl,rfl,rfl,by rw[show N-64*(k+1)=N-64*k-64 by omega,show 128-64*(k+1)=128-64*k-64 by omega];rfl,trivial⟩ rfl rfl zJ
 ):P:=h
theorem zrg (h:P:=by
  have h1:(js++[jn]).Nodup:=by rw[List.nodup_append];exact⟨hnd,by simp,by intro a ha b hb;simp at hb;subst hb;exact λe=>sE (e▸ha)⟩
  have h2:∀j∈js++[jn],j<kv.length:=by
    intro j hj
    rcases bA.1 hj with hj|hj
    · exact pC j hj
    · simp at hj;subst hj;exact nr xy
  exact⟨h1,h2,by simpa using Xq _ _ h1 h2⟩
 ):P:=h
theorem UL (h:P:=by
  intro aN
  refine B 7 ?_
  refine ag (j+1) ⟨by omega,ea.next hx yO⟩
 ):P:=h
theorem ztg (h:P:=by
  intro CS c32 s32 zh amJ
  refine OJ.dropF (i:=0) rfl (.inr ⟨by omega,by omega,trivial⟩) ?_
  refine B 8 ?_
  refine ag (ys++y.enc,i+1,CS,c32,s32) ⟨by dsimp only;rw[iP,<-hy,<-V.encL_drop l i aa];exact hinv,by dsimp only;omega,zh,by simpa only[Fr,Gh.lent,Gh.no,ae,and_true,false_or]using zh,amJ⟩
 ):P:=h
theorem zug (h:P:=by exact nP (enc:=sJ) (m:=4) (t:=110) (xs:=[]) (H0:=[(b6,oC #[ao] 56)]) (H1:=[]) (r:=.nil) (.inl rfl) results134 bj A1 zkc rfl rfl True.intro rfl):P:=h
theorem zvg (h:P:=by
  intro b_ mE gP
  exact OJ.done (hk _ _ _ ⟨b_,rfl,rfl,rfl,mE⟩)
 ):P:=h
theorem zwg (h:P:=by
  refine B 12 ?_
  refine zde ?_
  intro r aK ah
  refine B 1 ?_
  refine zse ?_
  refine B 4 ?_
  exact nP (enc:=gH) (m:=2) (t:=240) (xs:=[]) (H0:=[(b4,oC #[r.val (([]:List Nd)).length] 51)]) (H1:=[]) (r:=r) (.inl rfl) results35 bj A1 zBc rfl ah (Rw.ge_of aK A1) z4b
 ):P:=h
theorem zxg (h:P:=by
  apply Array.ext'
  rw[nU,lE,<-hlen]
  show jm (ys++sp) ys.length news=_
  have amA:n*ti.size<=sp.length:=by rw[vG,<-wh,wh];exact wo _ aa
  conv=>lhs;rw[<-AH (n*ti.size) sp]
  rw[nxd _ _ _ _ (by rw[kQ];omega),iP]
 ):P:=h
theorem zyg (h:P:=by
  refine B 14 ?_
  refine pV ?_
  refine ag ((i2+1,cur.set i2 x),j+1) ⟨by dsimp only;omega,by dsimp only;omega,by dsimp only;rw[List.length_set];exact lQ,by dsimp only;rw[n0c aa,wt,Q4 hx,if_neg yO],by dsimp only;rw[nSd aa];exact ri⟩
 ):P:=h
theorem zzg (h:P:=by exact nP (enc:=aA) (m:=1) (t:=3) (xs:=[]) (H0:=[]) (H1:=[]) (r:=.nil) (.inl rfl) results262 bj A1 trivial rfl rfl True.intro rfl):P:=h
theorem zAg (h:P:=by
  unfold B8
  by_cases Oj:0<j
  · rw[if_pos Oj,Zv,nei]
    rcases Vl CW with⟨_,h2⟩|⟨n,xb,h1,_,_⟩
    · rw[h2];rfl
    · exfalso;subst h1;omega
  · rw[if_neg Oj];rfl
 ):P:=h
theorem UK (h:P:=by exact λW hS=>.inr ⟨j,x,rfl,hx,by assumption,ea⟩):P:=h
theorem zCg (h:P:=by
  refine aF results25 rfl A0 ?_
  first|exact vb zsc|exact vb znc|exact vb zoc
 ):P:=h
theorem zDg (h:P:=by
  by_cases h0:xs=[]
  · exact .inr h0
  · have hp:0<xs.length:=Z2.2 h0
    have:=(e4 (xs.length-1) aa).1
    refine .inl ?_
    have e:xs.length*m=(xs.length-1)*m+m:=by rw[<-Nat.succ_mul];congr 1;omega
    omega
 ):P:=h
theorem zEg (h:P:=by
  refine B 7 ?_
  refine z7d ?_
  refine B 3 ?_
  have e:i=8:=by omega
  subst e
  refine zLd ?_
  show Value.agg (cut (ku (sw n m (gJ n)) 8) 0 32)=_
  rw[nCf _ 32 (by rw[ku,Dw]),Ps];rfl
 ):P:=h
theorem zFg (h:P:=by refine ag (((r,ds),F),i+1) ⟨by dsimp only;omega,aK,ah,by dsimp only;rw[CY ZS,aQ];first|(rw[n4n LG zAc];simp;done)|(rw[Sv LG jH,show j=g.olds.length by omega,vW];simp),iq,by dsimp only;omega,dS,jI⟩):P:=h
theorem zGg (h:P:=by
  refine bM (.inl rfl) results49 bj λW hS=>⟨by rw[<-h9.1];rfl,gm,by rw[<-h9.2];exact tG,(hS.links w A1).mono λk _ hk=>?_,by rw[<-h9.2];exact hS.own _ A0⟩
  rcases hk with hk|hk
  · exact hk
  · simpa using hk
 ):P:=h
theorem zHg (h:P:=by
  refine cC (.inl rfl) results72 bj A0 zC ?_
  exact vb (by unfold Gx;rw[Dp];simp_all<;>omega)
 ):P:=h
theorem zIg (h:P:=by
  refine B 19 ?_
  refine pV ?_
  refine ag ((pre,V),wk,j+1) ⟨by dsimp only;omega,hV,sI,by dsimp only;rw[CY (xs:=(bC p).1.wes) hx,aQ,RY eC,dV],by dsimp only;omega,dP⟩
 ):P:=h
theorem zJg (h:P:=by
  refine ss rfl ?_ ?_
  · intro cv L' H' hl hP F Q' hk
    obtain rfl:=kX hl
    obtain⟨rfl,rfl⟩:=hP
    refine B 1 ?_
    exact OJ.done (hk (.tuple #[]) _ _ ⟨rfl,rfl,rfl⟩)
  exact nn
 ):P:=h
theorem zKg (h:P:=by
  refine xx ?_
  refine ag (j+1) ⟨by omega,ea.next hx ⟨Classical.not_not.1 h1,λy0 h0 Ie=>by first|omega|(rw[hy]at Ie;cases Ie;omega),ny.1 aa⟩⟩
 ):P:=h
theorem zLg (h:P:=by
  refine⟨[],by simp,?_⟩
  rw[h1,(Prod.mk.inj h2).1]
  exact Om.ns.mono (λp hp=>hp)
 ):P:=h
theorem zMg (h:P:=by
  refine nS results37 rfl rfl A0 ?_ ?_
  all_goals first|rfl|(exfalso;apply h;exact⟨by omega,by omega⟩)
 ):P:=h
theorem zNg (h:P:=by
  refine xx ?_
  refine ag (j+1) ⟨by omega,ea.next hx ⟨by omega,by omega,λy0 h0 Ie=>by first|omega|(rw[hy]at Ie;cases Ie;omega),nzg JS,(nTc _).1 yO⟩⟩
 ):P:=h
theorem zOg (h:P:=by
  rw[if_pos (bY.2 ⟨_,cP h1,rfl⟩)]
  simp only[List.map_set]
  apply Cy
  intro j
  rw[a5q]
  split
  · rename_i e;subst e
    have hl:=(gX.1 h1).1
    rw[if_pos NN];simp[h1]
  · rfl
 ):P:=h
theorem zPg (h:P:=by
  rw[List.set_append_right _ _ zJ]
  simp only[eG,Nat.sub_self,sm,gb,dt,eL,ck,dC,fb,iP]
  rw[show ch.length-vs.length=(ch.length-(vs.length+1))+1 by omega,List.replicate_succ]
  rfl
 ):P:=h
theorem zQg (h:P:=by
  have e2:Gt G.g l=[]:=by unfold Gt;rw[e1];rfl
  rw[e1,e2]
  exact nP (enc:=AS) (m:=2) (t:=180) (xs:=[]) (H0:=[]) (r:=.nil) (.inl rfl) results68 bj A1 zH rfl rfl True.intro rfl
 ):P:=h
theorem zRg (h:P:=by
  rcases hk with hk|hk
  · exact hk
  · simpa using hk
 ):P:=h
theorem zSg (h:P:=by
  have ew:W.drew.heap[b]? =some (.cells (ys++sp).toArray e (0,0)):=hb
  rw[nrh ew (by simp only[qq,ck,hlen];omega)]
  unfold cut
  simp only[SM,<-hlen]
  rw[PU rfl]
 ):P:=h
theorem zTg (h:P:=by
  intro aN
  refine B 8 ?_
  refine pV ?_
  refine ag ((i2,cur),j+1) ⟨by dsimp only;omega,by dsimp only;omega,lQ,by dsimp only;rw[wt,Q4 hx,if_pos yO,dV],ri⟩
 ):P:=h
theorem zUg (h:P:=by exact⟨rfl,0,_,by rw[alloc_eq_grow,alloc_eq_grow,grow_grow];rfl⟩):P:=h
theorem zVg (h:P:=by exact⟨rfl,.row gG oP oQ,jh.elim (λh=>Rw.Fr_at aK h) (λh=>.inr h.2),kz,rfl⟩):P:=h
theorem zWg (h:P:=by
  unfold leftOf at this
  rw[Array.filter_eq_empty_iff]at this
  have h2:=this _ (by simpa using jU)
  simp only[Bool.not_eq_true,Bool.not_eq_false']at h2
  exact hn h2
 ):P:=h
theorem zXg (h:P:=by refine PJ.again (r,j+1) ⟨by dsimp only;omega,aK,by rw[nqf hx aa];exact ah⟩ zW ⟨rfl,by rw[nqf hx aa];rfl,rfl,rfl,rfl,trivial⟩ (by rw[nqf hx aa];rfl) rfl zJ):P:=h
theorem zYg (h:P:=by
  refine nS results79 rfl rfl A0 ?_ ?_
  all_goals(refine congrArg ab ?_;unfold Jn;first|(rw[if_neg aa];done)|(rw[if_pos aa];try first|(rw[Np aa];done)|skip))
 ):P:=h
theorem zZg (h:P:=by
  replace dc:=ya dc
  refine B 6 ?_
  exact PJ.mid ⟨(congrArg (λb=>some (Value.bool b)) z9),rfl,rfl,rfl,rfl,rfl,rfl,rfl,rfl,rfl,rfl,trivial⟩
 ):P:=h
theorem UM (h:P:=by exact λW hS=>.inl ⟨rfl,nqd ea aa⟩):P:=h
theorem z1g (h:P:=by
  refine PE ?_
  refine B 13 ?_
  exact nP (enc:=gH) (m:=2) (t:=240) (xs:=[]) (H0:=_) (H1:=[]) (r:=.nil) (.inl rfl) results154 bj A1 zbc rfl rfl True.intro (dV _).symm
 ):P:=h
theorem Pn (h:P:=by exact λ_ _ _ _ _ _ _ _ hk=>hk.elim):P:=h
theorem z3g (h:P:=by
  have xm:¬Gh.no.X bI:=λh=>h
  refine eN func269 ntmps269 ?_
  refine B 27 ?_
  refine ax bG ?_
  refine B 12 ?_
  refine nS results269 rfl rfl A0 ?_ ?_
  all_goals rfl
 ):P:=h
theorem z4g (h:P:=by
  obtain⟨p,hp,rfl⟩:=AK.1 hj
  have Cw:=(gX.1 hp).1
  have:j<m.bs.length:=by rw[hm.len];exact Cw
  exact hm.lt _ (by simp[List.getD,this])
 ):P:=h
theorem z5g (h:P:=by
  intro b7 c7 s7 tv CC
  exact OJ.done (hk _ _ _ ⟨b6,b7,c7,s7,rfl,rfl,rfl,rfl,jD,CB,tv,by simpa only[Fr,Gh.lent,ae,and_true]using tv,CC⟩)
 ):P:=h
theorem z6g (h:P:=by
  induction H with
  |nil=>intro p hp;simp at hp
  |cons q H ih=>
    intro p hp
    simp only[bX]at hp
    rcases hp with rfl|hp
    · exact h.1
    · exact ih h.2 p hp
 ):P:=h
theorem z7g (h:P:=by
  refine aF results259 rfl A1 ?_
  exact vb (by unfold EC;simp_all)
 ):P:=h
theorem z8g (h:P:=by
  have h1:=(VM j Cw).2 h
  have h2:(!((js.map λj=>m.bs.getD j 0).toArray.contains (m.bs.getD j 0)))=true:=bW
  rw[h1]at h2
  cases h2
 ):P:=h
theorem z9g (h:P:=by
  refine nS results263 rfl rfl A0 ?_ ?_
  all_goals first|(rw[hbe];done)|exact vb (nqm hbe hx)|exact vb (nfj hbe h1)
 ):P:=h
theorem zah (h:P:=by
  replace ar:=ya ar
  refine B 9 ?_
  refine aF results212 rfl A1 ?_
  exact vb (by unfold rf;rw[Dp];first|(simp;omega)|simp)
 ):P:=h
theorem zbh (h:P:=by
  have:=run_entry_at (P:=C.P) W rb b m.c (js.map λj=>m.bs.getD j 0).toArray _ m.c _ (by rw[hr];simp) ew (cP fj) hnd
  simp[execOp,hF.ev hx,this]
 ):P:=h
theorem zdh (h:P:=by
  rw[<-I7 (r:=none) (n:=0)]
  refine callsIn_of_wp_marks hf hb trivial (h _ w ?_ rfl ?_ hS)
  · have:=dO hl
    simp[hN];omega
  · exact nmc vs _
 ):P:=h
theorem zeh (h:P:=by
  intro i x' y' hi hx' hy'
  by_cases e':i=j
  · subst e';rw[hx]at hx';rw[hy]at hy';cases hx';cases hy';exact e
  · exact h i x' y' aa hx' hy'
 ):P:=h
theorem zfh (h:P:=by
  simp only[execOp,hF.ev hx,hF.ev hy,Sem.run_bind,h1,h2,Result.andThen]
  rfl
 ):P:=h
theorem zgh (h:P:=by
  simp only[book,gb,bA]at hk
  rcases hk with hk|hk
  · exact hH hk
  · obtain⟨p,hp,rfl⟩:=bY.1 hk
    have:=aaa p hp;omega
 ):P:=h
theorem zhh (h:P:=by exact oM.sl hU Rd.zero (by simp[gN]) (by simp[gN])):P:=h
theorem zih (h:P:=by
  simp only[Rw.val,Value.slice.injEq]at e9
  rw[<-e9.1]at h9;exact h9
 ):P:=h
theorem zjh (h:P:=by
  rw[<-I7 (r:=none) (n:=0)]
  refine callsIn_of_wp hf hb trivial (h _ w ?_ rfl ?_ hS)
  · have:=dO hl
    simp[hN];omega
  · exact nmc vs _
 ):P:=h
theorem zkh (h:P:=by
  refine nS results216 rfl rfl A1 ?_ ?_
  all_goals(refine congrArg ab ?_;unfold qL;first|(rw[if_neg hg];done)|(rw[if_pos hg];done))
 ):P:=h
theorem zlh (h:P:=by
  refine nS results215 rfl rfl A1 ?_ ?_
  all_goals(refine congrArg ab ?_;unfold pR;first|(rw[if_neg hg];done)|(rw[if_pos hg];done))
 ):P:=h
theorem zmh (h:P:=by exact λW hS=>⟨fX.1,hS.old A0 hb1 cF trivial⟩):P:=h
theorem znh (h:P:=by
  replace ar:=ya ar
  refine B 7 ?_
  refine aF results257 rfl A0 ?_
  refine vb ?_
  unfold oJ
  simp;try omega
 ):P:=h
theorem zoh (h:P:=by
  refine B 11 ?_
  refine aF results20 rfl A0 ?_
  exact vb (by first|exact RG hx yO|exact n7n ea aa)
 ):P:=h
theorem zph (h:P:=by
  refine B 11 ?_
  refine aF results13 rfl A1 ?_
  exact vb (by first|exact nWn hx eC|exact RF ea aa)
 ):P:=h
theorem zqh (h:P:=by
  rw[List.nodup_append]
  exact⟨hm.nd,by simp,by intro a ha b' ew;simp at ew;subst ew;have:=hm.lt a ha;omega⟩
 ):P:=h
theorem zrh (h:P:=by
  replace ar:=ya ar
  refine B 10 ?_
  refine aF results150 rfl A2 ?_
  exact vb (by unfold IG;simp_all)
 ):P:=h
theorem zsh (h:P:=by
  refine aF results107 rfl A1 ?_
  exact congrArg ab (by first|exact nYn ea hx (decide_eq_true eC)|exact Rh ea aa)
 ):P:=h
theorem zth (h:P:=by
  have h5:vs.length<=k:=by have:=hr.1;grind
  cases k with
  |zero=>omega
  |succ m=>have:=hr.2 m A0;grind
 ):P:=h
theorem zuh (h:P:=by
  replace ar:=ya ar
  refine B 7 ?_
  refine aF results222 rfl A0 ?_
  exact vb (by simp[dW];omega)
 ):P:=h
theorem zvh (h:P:=by
  replace ar:=ya ar
  refine B 7 ?_
  refine aF results217 rfl A0 ?_
  exact vb (by simp[p7];omega)
 ):P:=h
theorem zwh (h:P:=by refine ag (j+1) ⟨by omega,ea.next hx (decide_eq_false eC)⟩):P:=h
theorem zxh (h:P:=by
  refine aF results24 rfl A0 ?_
  exact vb zib
 ):P:=h
theorem zyh (h:P:=by
  refine aF results218 rfl A1 ?_
  exact vb z5b
 ):P:=h
theorem zzh (h:P:=by
  refine aF results19 rfl A0 ?_
  exact vb zib
 ):P:=h
theorem zAh (h:P:=by exact PJ.mid ⟨(congrArg (λb=>some (Value.bool b)) z9),rfl,rfl,rfl,rfl,rfl,rfl,rfl,rfl,rfl,trivial⟩):P:=h
theorem zBh (h:P:=by
  intro b_ w_ pM mE gP wV xQ
  exact OJ.done (hk _ _ _ ⟨b_,w_,rfl,rfl,rfl,pM,gP,wV⟩)
 ):P:=h
theorem zCh (h:P:=by
  rintro _ ⟨a_,c_⟩ w_ _ _ B2
  exact OJ.done (hk _ _ _ ⟨a_,c_,w_,rfl,rfl,rfl,B2⟩)
 ):P:=h
theorem zDh (h:P:=by exact bM (.inl rfl) results83 bj λW hS=>⟨gy,rfl,hS.base A3 zC,rfl,YD _ _,λq h=>zS,λq h=>zS⟩):P:=h
theorem zEh (h:P:=by
  rcases h with h|⟨b,off,h1,h2,h3⟩
  · exact .inl h
  · exact .inr ⟨b,off,h1,by omega,h3.up (hw b h2)⟩
 ):P:=h
theorem zFh (h:P:=by
  rcases bA.1 hb with hb|hb
  · have:=hm.lt b hb;simp only;omega
  · simp at hb;subst hb;simp
 ):P:=h
theorem zGh (h:P:=by
  intro dc
  refine B 8 ?_
  refine ag (j+1) ⟨by omega,ea.next hx hy (Decidable.not_not.1 eC)⟩
 ):P:=h
theorem zHh (h:P:=by rcases he with rfl|rfl<;>exact key):P:=h
theorem zIh (h:P:=by exact OJ.done (hk _ _ _ ⟨bn,rfl,rfl,rfl,rfl,hfn⟩)):P:=h
theorem zJh (h:P:=by
  refine aF results135 rfl A1 ?_
  first|exact congrArg ab (njm eC hx)|exact congrArg ab (njo yO hx)
 ):P:=h
theorem zKh (h:P:=by
  refine aF results103 rfl A0 ?_
  exact congrArg ab zmc
 ):P:=h
theorem zLh (h:P:=by
  rcases hx with(hx|hx)|hx
  · exact .inl hx
  · have:=hV k hx;omega
  · exact .inr (hH k hk hx)
 ):P:=h
theorem zMh (h:P:=by exact⟨by omega,λh=>by have:=(sY k h).1;omega,λh=>by have:=(kR W hS k h).1;omega⟩):P:=h
theorem UZ (h:P:=by exact vb zeb):P:=h
theorem zOh (h:P:=by
  rintro e w' ⟨rfl,rfl⟩
  exact⟨rfl,Below.refl _ _⟩
 ):P:=h
theorem zPh (h:P:=by
  subst hr
  have h0:xs=[]:=ah
  rw[h0];exact(nJh W).mono λe w2 h=>⟨h.1,nXh,h.2⟩
 ):P:=h
theorem zQh (h:P:=by
  intro i y hi hy
  by_cases e:i=j
  · subst e;rw[hx]at hy;cases hy;exact hp
  · exact h i y aa hy
 ):P:=h
theorem zRh (h:P:=by
  intro i y hi hy
  by_cases e:i=j
  · subst e;rw[hx]at hy;cases hy;exact hk
  · exact h i y aa hy
 ):P:=h
theorem zSh (h:P:=by
  by_cases e2:j=k
  · simp[e2]
  · simp[e2,show ¬k=j from λx=>e2 x.symm]
 ):P:=h
theorem zTh (h:P:=by
  by_cases e3:j=i'
  · subst e3
    rw[h3]
    simp[(gX.1 h3).1]
  · simp[e3]
 ):P:=h
theorem zUh (h:P:=by
  unfold IntKind.wrap
  simp[IntKind.bits,IntKind.signed]
 ):P:=h
theorem zVh (h:P:=by
  have e:a=some ⟨b,0,none⟩:=by injection he with h1 _ _;exact h1.symm
  subst e
  exact aJ
 ):P:=h
theorem Jm (h:P:=by refine ag (j+1) aa):P:=h
theorem zXh (h:P:=by
  intro dc
  refine Re ?_
  refine ag (j+1) ⟨by omega,ea.next hx hy eC⟩
 ):P:=h
theorem zYh (h:P:=by
  cases r2 with
  |nil=>trivial
  |row b cap sp=>exact hS.own (b,_) oR
 ):P:=h
theorem zZh (h:P:=by
  cases r1 with
  |nil=>trivial
  |row b cap sp=>exact hS.own (b,_) oR
 ):P:=h
theorem z0h (h:P:=by
  refine Vo (λV=>hI (pre++[(⟨[nq (dk p.x.g.last) (j:Int)],aS yy,some ⟨rC,0,none⟩,1⟩:Dv)]) V) hX hV (⟨[nq (dk p.x.g.last) (j:Int)],aS yy,some ⟨rC,0,none⟩,1⟩:Dv) b2 W9 cu.alone (cu.own (b2,_) A1) (λh=>h.elim (λh=>by have:=(hM _ h).1;omega) (λh=>cu.apart (b2,_) A1 (.inr h))) (λW1 oA hv1 pT=>hy pre (⟨[nq (dk p.x.g.last) (j:Int)],aS yy,some ⟨rC,0,none⟩,1⟩:Dv) V W1 ⟨by simp only[ck,dC,fb];omega,λd hd=>?_⟩ hv1 pT)
  rcases bA.1 hd with hd|hd
  · exact zVf
  · exact zhg
 ):P:=h
theorem ID (h:P:=by
  refine aF results149 rfl A1 ?_
  exact zQf
 ):P:=h
theorem QS (h:P:=by
  refine zBd ?_
  exact zQf
 ):P:=h
theorem z3h (h:P:=by
  rcases hq2 with⟨h1,h2⟩|h2
  · exact zLg
  · by_cases h0:aX gy.g.ns d.c.chs=[]
    · exact⟨[],by simp,.inl h0⟩
    · exact z3f
 ):P:=h
theorem Ue (h:P:=by
  refine zYe ?_
  exact zRf
 ):P:=h
theorem XG (h:P:=by
  refine B 17 ?_
  exact zUf
 ):P:=h
theorem z6h (h:P:=by
  refine B 5 ?_
  exact XY
 ):P:=h
theorem z7h (h:P:=by
  refine B 11 ?_
  exact QS
 ):P:=h
theorem vb {a b:Bool} (h:a=b):Go.Value.bool a=Go.Value.bool b:=congrArg _ h
theorem va {a b:Array Go.Value} (h:a=b):Go.Value.agg a=Go.Value.agg b:=congrArg _ h
theorem vi {a b:Int} (h:a=b):Go.Value.int .i64 a=Go.Value.int .i64 b:=congrArg _ h
theorem vu {a b:Int} (h:a=b):Go.Value.int .u64 a=Go.Value.int .u64 b:=congrArg _ h
theorem yV (k:Q) (h:ZW Q->P:=by intro Kz;intro b w hb ha ho hm hz;replace ha:=yb ha;replace ho:=yc ho;revert b w hb hm hz ha ho;exact Kz.p):P:=h ⟨k⟩
theorem yX (k:Q) (h:ZW Q->P:=by intro Kz;refine TQ rfl rfl rfl ?_;intro b w hb ha ho hm hz;replace ha:=yb ha;replace ho:=yc ho;revert b w hb hm hz ha ho;exact Kz.p):P:=h ⟨k⟩
theorem yW (k:Q) (h:ZW Q->P:=by intro Kz;intro b ha ho;replace ha:=yb ha;replace ho:=yc ho;revert b ha ho;exact Kz.p):P:=h ⟨k⟩
end Px
