/- Proofs by default. No condition beyond those stated. -/
import Derived.ProofKit
import Derived.KernelRfl
set_option linter.unusedSimpArgs false
set_option linter.unusedVariables false
set_option linter.unusedSectionVars false
set_option linter.unnecessarySimpa false
namespace Px
variable {P Q A S':Prop}
theorem A0 {α:Type _} {a:α} {l:List α}:a∈a::l:=.head _
theorem A1 {α:Type _} {a x0:α} {l:List α}:a∈x0::a::l:=.tail _ (.head _)
theorem A2 {α:Type _} {a x0 x1:α} {l:List α}:a∈x0::x1::a::l:=.tail _ (.tail _ (.head _))
theorem A3 {α:Type _} {a x0 x1 x2:α} {l:List α}:a∈x0::x1::x2::a::l:=.tail _ (.tail _ (.tail _ (.head _)))
theorem A4 {α:Type _} {a x0 x1 x2 x3:α} {l:List α}:a∈x0::x1::x2::x3::a::l:=.tail _ (.tail _ (.tail _ (.tail _ (.head _))))
theorem A5 {α:Type _} {a x0 x1 x2 x3 x4:α} {l:List α}:a∈x0::x1::x2::x3::x4::a::l:=.tail _ (.tail _ (.tail _ (.tail _ (.tail _ (.head _)))))
theorem A6 {α:Type _} {a x0 x1 x2 x3 x4 x5:α} {l:List α}:a∈x0::x1::x2::x3::x4::x5::a::l:=.tail _ (.tail _ (.tail _ (.tail _ (.tail _ (.tail _ (.head _))))))
theorem A7 {α:Type _} {a x0 x1 x2 x3 x4 x5 x6:α} {l:List α}:a∈x0::x1::x2::x3::x4::x5::x6::a::l:=.tail _ (.tail _ (.tail _ (.tail _ (.tail _ (.tail _ (.tail _ (.head _)))))))
theorem A8 {α:Type _} {a x0 x1 x2 x3 x4 x5 x6 x7:α} {l:List α}:a∈x0::x1::x2::x3::x4::x5::x6::x7::a::l:=.tail _ (.tail _ (.tail _ (.tail _ (.tail _ (.tail _ (.tail _ (.tail _ (.head _))))))))
theorem A9 {α:Type _} {a x0 x1 x2 x3 x4 x5 x6 x7 x8:α} {l:List α}:a∈x0::x1::x2::x3::x4::x5::x6::x7::x8::a::l:=.tail _ (.tail _ (.tail _ (.tail _ (.tail _ (.tail _ (.tail _ (.tail _ (.tail _ (.head _)))))))))
theorem A10 {α:Type _} {a x0 x1 x2 x3 x4 x5 x6 x7 x8 x9:α} {l:List α}:a∈x0::x1::x2::x3::x4::x5::x6::x7::x8::x9::a::l:=.tail _ (.tail _ (.tail _ (.tail _ (.tail _ (.tail _ (.tail _ (.tail _ (.tail _ (.tail _ (.head _))))))))))
theorem A11 {α:Type _} {a x0 x1 x2 x3 x4 x5 x6 x7 x8 x9 CI:α} {l:List α}:a∈x0::x1::x2::x3::x4::x5::x6::x7::x8::x9::CI::a::l:=.tail _ (.tail _ (.tail _ (.tail _ (.tail _ (.tail _ (.tail _ (.tail _ (.tail _ (.tail _ (.tail _ (.head _)))))))))))
theorem A12 {α:Type _} {a x0 x1 x2 x3 x4 x5 x6 x7 x8 x9 CI Fy:α} {l:List α}:a∈x0::x1::x2::x3::x4::x5::x6::x7::x8::x9::CI::Fy::a::l:=.tail _ (.tail _ (.tail _ (.tail _ (.tail _ (.tail _ (.tail _ (.tail _ (.tail _ (.tail _ (.tail _ (.tail _ (.head _))))))))))))
theorem A13 {α:Type _} {a x0 x1 x2 x3 x4 x5 x6 x7 x8 x9 CI Fy qE:α} {l:List α}:a∈x0::x1::x2::x3::x4::x5::x6::x7::x8::x9::CI::Fy::qE::a::l:=.tail _ (.tail _ (.tail _ (.tail _ (.tail _ (.tail _ (.tail _ (.tail _ (.tail _ (.tail _ (.tail _ (.tail _ (.tail _ (.head _)))))))))))))
theorem A14 {α:Type _} {a x0 x1 x2 x3 x4 x5 x6 x7 x8 x9 CI Fy qE sh:α} {l:List α}:a∈x0::x1::x2::x3::x4::x5::x6::x7::x8::x9::CI::Fy::qE::sh::a::l:=.tail _ (.tail _ (.tail _ (.tail _ (.tail _ (.tail _ (.tail _ (.tail _ (.tail _ (.tail _ (.tail _ (.tail _ (.tail _ (.tail _ (.head _))))))))))))))
theorem A15 {α:Type _} {a x0 x1 x2 x3 x4 x5 x6 x7 x8 x9 CI Fy qE sh tP:α} {l:List α}:a∈x0::x1::x2::x3::x4::x5::x6::x7::x8::x9::CI::Fy::qE::sh::tP::a::l:=.tail _ (.tail _ (.tail _ (.tail _ (.tail _ (.tail _ (.tail _ (.tail _ (.tail _ (.tail _ (.tail _ (.tail _ (.tail _ (.tail _ (.tail _ (.head _)))))))))))))))
theorem A16 {α:Type _} {a x0 x1 x2 x3 x4 x5 x6 x7 x8 x9 CI Fy qE sh tP x15:α} {l:List α}:a∈x0::x1::x2::x3::x4::x5::x6::x7::x8::x9::CI::Fy::qE::sh::tP::x15::a::l:=.tail _ (.tail _ (.tail _ (.tail _ (.tail _ (.tail _ (.tail _ (.tail _ (.tail _ (.tail _ (.tail _ (.tail _ (.tail _ (.tail _ (.tail _ (.tail _ (.head _))))))))))))))))
theorem R2 (h:P:=by exact λ_ _=>rfl):P:=h
abbrev vM:=@Option.some.injEq
abbrev ak:=@Nat.le_refl
abbrev dR:=@Nat.le_trans
abbrev mx:=@Nat.lt_of_lt_of_le
abbrev bX:=@List.mem_cons
abbrev dy:=@List.map_cons
abbrev aT:=@Array.getElem?_eq_some_iff
abbrev Js:=@List.getElem?_cons_zero
abbrev Ij:=@List.getElem?_cons_succ
abbrev cO:=@List.mem_of_getElem?
abbrev iv:=@List.getElem?_eq_some_iff
abbrev aTp:=@List.getElem?_set_self
abbrev TJ:=@List.getElem?_set_ne
abbrev bW:=@List.mem_map
abbrev kA:=@List.mem_iff_getElem?
abbrev ea:=@Nat.le_of_ble_eq_true
abbrev M8:=@Int.eq_ofNat_of_zero_le
abbrev CZ:=@List.map_toArray
abbrev Vm:=@Array.getElem?_append_left
abbrev uU:=@List.mem_filter
abbrev NS:=@Array.getElem?_toList
abbrev a3p:=@Array.getElem?_modify
abbrev oS:=@Bool.and_eq_true
abbrev dF:=@List.length_cons
abbrev gz:=@List.map_append
abbrev bj:=@List.mem_append
abbrev eQ:=@List.length_map
abbrev a9p:=@List.getElem_map
abbrev dE:=@List.not_mem_nil
abbrev Co:=@List.ext_getElem?
abbrev acq:=@List.drop_eq_nil_iff
abbrev cy:=@List.length_append
abbrev kK:=@List.getElem?_eq_getElem
abbrev SE:=@List.getElem?_append_left
abbrev sP:=@List.all_eq_true
abbrev tE:=@List.mem_range
abbrev DI:=@List.getElem?_toArray
abbrev JP:=@Option.map_some
abbrev akq:=@Array.getElem?_setIfInBounds
abbrev qx:=@List.size_toArray
abbrev lL:=@Nat.zero_add
abbrev QT:=@List.getElem?_drop
abbrev WB:=@List.getElem_mem
abbrev sC:=@List.getElem?_map
abbrev cR:=@Nat.zero_le
abbrev eV:=@List.map_nil
abbrev fh:=@List.length_nil
abbrev iY:=@List.append_assoc
abbrev lN:=@List.eq_nil_of_length_eq_zero
abbrev Bk:=@Nat.div_add_mod
abbrev pK:=@Nat.add_mul
abbrev wg:=@Nat.mul_le_mul_right
abbrev H9:=@Nat.mul_comm
abbrev yz:=@Int.toNat_natCast
abbrev dX:=@List.set_cons_succ
abbrev eL:=@List.nil_append
abbrev ig:=@List.cons_append
abbrev AB:=@List.take_append_drop
abbrev yu:=@List.eraseIdx_cons_succ
abbrev aFq:=@Array.getElem?_eq_getElem
abbrev BF:=@List.length_drop
abbrev lb:=@List.length_take
abbrev SJ:=@List.drop_zero
abbrev PR:=@List.take_left'
abbrev xj:=@Nat.mul_one
abbrev eb:=@List.append_nil
abbrev M9:=@List.take_succ_eq_append_getElem
abbrev Yv:=@List.take_succ_cons
abbrev dm:=@List.set_cons_zero
abbrev sy:=@List.eraseIdx_cons_zero
abbrev Uy:=@List.flatMap_cons
abbrev OC:=@List.mem_flatMap
abbrev vS:=@List.take_length
abbrev jZ:=@List.take_of_length_le
abbrev ka:=@List.mem_singleton
abbrev aVq:=@List.findIdx?_eq_some_iff_getElem
abbrev Dc:=@Bool.eq_iff_iff
abbrev Nl:=@Array.length_toList
abbrev Z6:=@List.getElem?_append_right
abbrev QS:=@List.getElem?_take_of_lt
abbrev AF:=@Option.map_eq_some_iff
abbrev a1q:=@List.getElem?_set
abbrev Iu:=@List.foldl_append
abbrev Z7:=@List.length_pos_iff
abbrev Q3:=@List.length_filter_le
abbrev Rs:=@List.filter_cons_of_pos
abbrev Zi:=@List.filter_cons_of_neg
abbrev cH:=@List.mem_append_right
abbrev zw:=@List.mem_append_left
theorem ya (h:A) (s:A->S':=by intro h;(try simp only[decide_eq_true_eq,decide_eq_false_iff_not,Bool.not_eq_true',Bool.not_eq_false']at h);exact h):S':=s h
theorem yb (h:A) (s:A->S':=by intro h;(try simp only[ae]at h);exact h):S':=s h
theorem yc (h:A) (s:A->S':=by intro h;(try simp only[bA,book,ig,eL,dm,dX,ne_eq]at h);exact h):S':=s h
theorem yd (h:A) (s:A->S':=by intro h;(try simp only[bA,dm,dX,ne_eq,and_true]at h);exact h):S':=s h
theorem ye (h:A) (s:A->S':=by intro h;(try simp only[Fr,Gh.lent,Gh.no,ae,and_true,false_or]at h);exact h):S':=s h
theorem yf (h:A) (s:A->S':=by intro h;(try simp only[gz,dy,eV,bj,bX,dE,or_false,Gh.no,false_or]at h);exact h):S':=s h
theorem yg (h:A) (s:A->S':=by intro h;(try simp only[Ia,and_true]at h);exact h):S':=s h
theorem zz (h:P:=by first|(first|exact True.intro|assumption|(simp only[bA,jK,book,ig,eL,eb,iY,dm,dX,sy,yu,ne_eq,and_true];(repeat' apply And.intro);all_goals first|omega|exact True.intro|exact Rw.off_ge eE aa)|(simp[bA]<;>omega))|fail):P:=h
theorem zA (h:P:=by decide):P:=h
theorem zB (h:P:=by first|(first|(simp only[Over,dm,dX,sy,yu,and_true];omega)|(simp[Over]<;>omega))|fail):P:=h
theorem zC (h:P:=by simp only[ae,and_true];omega):P:=h
theorem zD (h:P:=by first|exact True.intro|(simp only[Over,dm,dX,sy,yu,and_true];omega)):P:=h
theorem zF (h:P:=by simp only[Over,nD,ig,eL,eb,dm,and_true];(repeat' apply And.intro);all_goals first|omega|exact True.intro|exact Rw.over (Rw.ge_mono bG aa)):P:=h
theorem zH (h:P:=by exact λ_ _ h=>h):P:=h
theorem zI (h:P:=by simp):P:=h
theorem zJ (h:P:=by exact λh=>h):P:=h
theorem zL (h:P:=by first|(first|(simp only[bA,book,ig,eL,dm,dX,sy,yu,ne_eq,and_true];omega)|(simp[bA]<;>omega))|fail):P:=h
theorem zM (h:P:=by exact λcv L' H' hd hP=>X.v (sR rfl)):P:=h
theorem zN (h:P:=by kernel_rfl):P:=h
theorem zO (h:P:=by simp only[bA,jK,book,ig,eL,eb,iY,dm,dX,sy,yu,ne_eq,and_true];(repeat' apply And.intro);all_goals first|omega|exact True.intro|exact Rw.off_ge ju aa):P:=h
theorem zP (h:P:=by simp only[Over,dm,dX,and_true];omega):P:=h
theorem zQ (h:P:=by cases h):P:=h
theorem zS (h:P:=by dsimp only;omega):P:=h
theorem zW (h:P:=by first|rfl|simp[book,nZ,Value.cells]):P:=h
theorem zX (h:P:=by intro k hk hx;first|(simp only[dm,dy,eV,bX,dE,or_false]at hx;omega)|(simp at hx;omega)):P:=h
theorem zZ (h:P:=by rw[show jL c.chs=false by assumption];decide):P:=h
theorem z1 (h:P:=by refine bA.of_mem λhm=>?_;first|(simp only[dy,eV,bX,dE,or_false]at hm;omega)|(simp at hm;omega)|(simp at hm)):P:=h
theorem z2 (h:P:=by exact λcv L' H' hd hP=>nf call89 rfl rfl (λW hS _=>nEb _ W) (λ_=>rfl)):P:=h
theorem z3 (h:P:=by unfold sY;rw[nhb (f:=(λg:Gr=>decide (g.olds.length<=6))) Sx (decide_eq_false aa),Bool.and_false]):P:=h
theorem z4 (h:P:=by simp[Act.put,hD]):P:=h
theorem z5 (h:P:=by rw[jb];exact nT hN):P:=h
theorem z6 (h:P:=by simp[Act.put,jb]):P:=h
theorem z7 (h:P:=by unfold sV;rw[nhb (f:=(λx:We=>decide (x.w.body.length<=200))) hy (decide_eq_false aa),Bool.and_false];rfl):P:=h
theorem z8 (h:P:=by first|rfl|(rw[Dc];first|(simp;omega)|simp)):P:=h
theorem z9 (h:P:=by unfold sV;rw[nhb (f:=(λx:Bx=>decide (x.w.body.length<=200))) hy (decide_eq_false aa)];rfl):P:=h
theorem KE (h:P:=by exact λcv L' H' hd hP=>X.v (bP underlying99 rfl sizeOf3 rfl)):P:=h
theorem CS (h:P:=by first|(simp;done)|(simp;omega)|simp_all):P:=h
theorem zcb (h:P:=by first|(refine nQe (λq hq=>?_);simp only[ig,eL,eb,bj,bX,dE,or_false,Rw.hp]at hq;(repeat' (rcases hq with hq|hq))<;>(try subst hq)<;>(dsimp only;omega))|fail):P:=h
theorem zdb (h:P:=by first|exact nqe aa|exact nsf hx hy eE|exact nme aa dZ aa):P:=h
theorem zeb (h:P:=by first|exact(decide_eq_true (nug aa (λi x y hi=>dZ i x y aa))).symm|exact(decide_eq_false (nZg hx hy yN)).symm|exact(decide_eq_false (λe=>by have:=congrArg List.length e;simp at this;omega)).symm):P:=h
theorem VS (h:P:=by simp only[bA,and_true];(repeat' apply And.intro);all_goals first|omega|exact True.intro):P:=h
theorem zgb (h:P:=by first|exact nhh hx hy eE|exact nkf dZ hlen aa|exact nBf aa):P:=h
theorem xM (h:P:=by first|(simp[Gh.lent,keys]<;>omega)|fail):P:=h
theorem zib (h:P:=by simp only[nC];omega):P:=h
theorem Hh (h:P:=by exact λcv L' H' _ _ hP=>X.v (sR rfl)):P:=h
theorem O1 (h:P:=by simp only[bA,ig,eL,dm,dX,ne_eq,and_true];omega):P:=h
theorem Cl (h:P:=by simp only[Over,and_true];omega):P:=h
theorem Br (h:P:=by simp only[cy,dF,fh];omega):P:=h
theorem Au (h:P:=by simp only[dF,fh];omega):P:=h
theorem oW (h:P:=by simp[Rw.hp]):P:=h
theorem zpb (h:P:=by by_cases h9:cp=i2;(left;apply lN;rw[BF];omega);(right;rw[if_neg h9,lb,Nat.min_eq_left aa,lL])):P:=h
theorem X2 (h:P:=by exact λcv L' H' hd hP=>X.v (bP underlying53 rfl sizeOf51 rfl)):P:=h
theorem XZ (h:P:=by exact λcv L' H' hd hP=>X.v (bP underlying53 rfl sizeOf48 rfl)):P:=h
theorem oN (h:P:=by simp;omega):P:=h
theorem YN (h:P:=by have:=ry _ e;dsimp only at this;simp only[bA,dm,and_true];omega):P:=h
theorem IY (h:P:=by first|(simp[pU,keys]<;>try omega)|fail):P:=h
theorem CD (h:P:=by simpa using h1):P:=h
theorem zwb (h:P:=by first|(have g16:=f16;have g17:=f17;cases ey<;>cases eY<;>simp[bA]at g16 g17 ⊢ <;>omega)|fail):P:=h
theorem zxb (h:P:=by first|(unfold sY;rw[ck,Dc];simp_all<;>omega)|fail):P:=h
theorem WV (h:P:=by exact λcv L' H' hd hP=>X.v (bP underlying200 rfl sizeOf134 rfl)):P:=h
theorem zzb (h:P:=by exact λcv L' H' hd hP=>X.v (dc underlying54 sizeOf99 rfl rfl aa aa)):P:=h
theorem Yt (h:P:=by exact λcv L' H' hd hP=>X.v (bP underlying61 rfl sizeOf3 rfl)):P:=h
theorem zBb (h:P:=by first|(unfold sV;rw[tN,haw,Dc];simp_all<;>omega)|fail):P:=h
theorem zCb (h:P:=by first|(unfold sY;rw[Dc];simp_all<;>omega)|fail):P:=h
theorem JS (h:P:=by rw[he];omega):P:=h
theorem zEb (h:P:=by have:=wu _ e;dsimp only at this;simp only[bA,dm,and_true];omega):P:=h
theorem zFb (h:P:=by have:=(cj.links wk A1).size;omega):P:=h
theorem zGb (h:P:=by rw[hY,<-hN];exact ck):P:=h
theorem zHb (h:P:=by intro k hk hx;simp only[dm,dy,eV,bX,dE,or_false]at hx;omega):P:=h
theorem zIb (h:P:=by simp only[Over,nD,ig,eL,eb,dm,and_true];(repeat' apply And.intro);all_goals first|omega|exact True.intro|exact Rw.over (Rw.ge_mono mX aa)|exact Rw.over (Rw.ge_mono eu aa)):P:=h
theorem zJb (h:P:=by exact λcv L' H' hd hP=>X.off rfl R2):P:=h
theorem zKb (h:P:=by simp only[dm,dX,ig,eL,eb,Over];exact⟨by omega,by omega,Rw.over (Rw.ge_of aK A2)⟩):P:=h
theorem PU (h:P:=by simp only[eQ,dF,fh];omega):P:=h
theorem zMb (h:P:=by simp only[bA,jK,book,ig,eL,eb,iY,dm,dX,sy,yu,ne_eq,and_true];(repeat' apply And.intro);all_goals first|omega|exact True.intro|exact Rw.off_ge rj aa):P:=h
theorem UB (h:P:=by simp only[bj];exact .inr (.inl hp)):P:=h
theorem zOb (h:P:=by unfold AP;rw[if_neg aa,if_neg (by rintro(h|h|h|h|h|h);(omega);(exact k1 h);(exact k2 h);(rw[ZU]at h;exact k3 h);(exact k4 h);exact k5 h),Sm];simp_all):P:=h
theorem zPb (h:P:=by exact λcv L' H' _ _ hP=>X.v (py rfl)):P:=h
theorem zQb (h:P:=by exact λcv L' H' hd hP=>X.v (dc underlying55 sizeOf3 rfl rfl aa aa)):P:=h
theorem zRb (h:P:=by rw[<-Jb,<-hv1]):P:=h
theorem J5 (h:P:=by simp[Gh.no]):P:=h
theorem zTb (h:P:=by rw[show(aP dM 35 [np (dk p.x.g.last) 9] []:Obj)=aP dM 35 ([]++[np (dk p.x.g.last) 9]) []from rfl,<-nzj (enc:=dM) (A:=dh (np (dk p.x.g.last) 9)) rfl];rfl):P:=h
theorem Bj (h:P:=by simpa using h):P:=h
theorem Xo (h:P:=by rw[eb];exact Rw.over (Rw.ge_of aK A0)):P:=h
theorem zWb (h:P:=by rw[hY];exact amn):P:=h
theorem zXb (h:P:=by exact λcv L' H' hd hP=>X.v (fF underlying33 sizeOf5 rfl rfl aa)):P:=h
theorem zYb (h:P:=by show q-1<q;omega):P:=h
theorem zZb (h:P:=by simp only[bA,jK,ig,eL,eb,and_true];(repeat' apply And.intro);all_goals first|omega|exact True.intro|exact Rw.off_ge rj aa):P:=h
theorem Yr (h:P:=by rw[eb];exact List.perm_append_comm):P:=h
theorem YE (h:P:=by rw[lb,Nat.min_eq_left aa]):P:=h
theorem z2b (h:P:=by simp only[dm,dX,ig,eL];rfl):P:=h
theorem z3b (h:P:=by unfold UR;simp only[<-Iy];rw[Dc];first|(simp;omega)|simp):P:=h
theorem z4b (h:P:=by exact λcv L' H' hd hP=>X.v (bP underlying108 rfl sizeOf106 rfl)):P:=h
theorem z5b (h:P:=by first|trivial|exact True.intro):P:=h
theorem z6b (h:P:=by exact λcv L' H' hd hP=>X.v (bP underlying61 rfl sizeOf55 rfl)):P:=h
theorem z7b (h:P:=by exact λcv L' H' hd hP=>X.v (bP underlying108 rfl sizeOf3 rfl)):P:=h
theorem z8b (h:P:=by exact λcv L' H' hd hP=>X.v (bP underlying59 rfl sizeOf3 rfl)):P:=h
theorem z9b (h:P:=by simp only[dm,dX,Over,and_true];omega):P:=h
theorem zac (h:P:=by intro p hp;simp at hp;subst hp;exact hfn):P:=h
theorem UE (h:P:=by simp[book,Rw.val_cells]):P:=h
theorem zcc (h:P:=by obtain⟨ta,tc,wr,r8,rfl,rfl,rfl,rfl,rfl,rfl,rfl,se,gY,q9,mU,iu,ju⟩:=hP;exact X.v (jm rfl rfl)):P:=h
theorem SY (h:P:=by simp[Gh.lent,keys]):P:=h
theorem zec (h:P:=by obtain⟨ta,tc,wr,r8,rfl,rfl,rfl,rfl,rfl,rfl,se,gY,q9,mU,iu,ju⟩:=hP;exact X.v (jm rfl rfl)):P:=h
theorem NH (h:P:=by simpa using hl):P:=h
theorem Kq (h:P:=by simpa using h2):P:=h
theorem zhc (h:P:=by obtain⟨ta,tc,wr,r8,rfl,rfl,rfl,rfl,rfl,se,gY,q9,mU,iu,ju⟩:=hP;exact X.v (jm rfl rfl)):P:=h
theorem zic (h:P:=by simp only[dm,Over,and_true];omega):P:=h
theorem zjc (h:P:=by unfold IU;rw[if_neg aa,if_neg (by rintro(h|h|h);(omega);(exact k2 h);exact k3 h),Sm];simp_all):P:=h
theorem zkc (h:P:=by first|(first|omega|(unfold de;(repeat' split)<;>omega))|fail):P:=h
theorem zlc (h:P:=by unfold BZ;rw[nhb hc yN,Bool.and_false]):P:=h
theorem zmc (h:P:=by unfold BZ;rw[ck,decide_eq_true aa];rfl):P:=h
theorem UH (h:P:=by have:=nr hx;omega):P:=h
theorem zoc (h:P:=by rw[show(Value.agg (kJ (sx n m (gU n)) i)).cells=kJ (sx n m (gU n)) i from rfl,kJ,Dg]):P:=h
theorem zpc (h:P:=by first|exact(Ry dZ hx (decide_eq_true eE)).symm|exact(Zq dZ aa).symm):P:=h
theorem zqc (h:P:=by unfold BZ;rw[decide_eq_false aa];rfl):P:=h
theorem VI (h:P:=by show 0<1;decide):P:=h
theorem Nz (h:P:=by simp[lM]):P:=h
theorem Wj (h:P:=by rw[if_neg aa]):P:=h
theorem zuc (h:P:=by exact λcv L' H' hd hP=>X.v (xS underlying3 underlying233 rfl aa aa)):P:=h
theorem zvc (h:P:=by have:=(hS.links w1 A1).size;rw[hB.block b1 aa];exact hS.old A1 hb1 cF trivial):P:=h
theorem zwc (h:P:=by rw[if_neg aa];omega):P:=h
theorem zxc (h:P:=by have:=hqy aa;omega):P:=h
theorem zyc (h:P:=by first|assumption|simp_all):P:=h
theorem zzc (h:P:=by simp only[dm,dX,ig,eL,eb,Over];exact⟨by omega,Rw.over (Rw.ge_of aK A1)⟩):P:=h
theorem zAc (h:P:=by exact λcv L' H' hd hP=>X.v (py rfl)):P:=h
theorem aa (h:P:=by omega):P:=h
theorem eE (h:P:=by assumption):P:=h
theorem zDc (h:P:=by have:=xv (enc:=λx:Mm=>(AN x).toArray) (n:=2) aV (i:=1) (show[m1,m2][1]? =some m2 from rfl) rfl 1 zA;simpa[AN]using this):P:=h
theorem zEc (h:P:=by obtain⟨a7,c7,w7,rfl,rfl,rfl,jJ⟩:=hP;exact nf call220 rfl rfl (λW hS _=>by have h9:=n1c G.g.ms vm W.heap.size G.ma G.mc W (ak _) (hG.ms.up cM hS.sm) (eh G.g.ns) a7 c7 (jJ.up (hS.links w7 A0).size (hS.same A0 (ak _) zH trivial));rw[decide_eq_false h1]at h9;exact h9) (λ_=>rfl)):P:=h
theorem zFc (h:P:=by obtain⟨a7,c7,w7,rfl,rfl,rfl,jJ⟩:=hP;exact nf call220 rfl rfl (λW hS _=>by have h9:=n1c G.g.ms vm W.heap.size G.ma G.mc W (ak _) (hG.ms.up cM hS.sm) (eh G.g.ns) a7 c7 (jJ.up (hS.links w7 A0).size (hS.same A0 (ak _) zH trivial));rw[decide_eq_true h1]at h9;exact h9) (λ_=>rfl)):P:=h
theorem zGc (h:P:=by have:=nK (enc:=λx=>(aA x).toArray) (n:=1) K5 IF rfl zA;simpa[aA]using this):P:=h
theorem zHc (h:P:=by have:=nK (enc:=λx=>(aA x).toArray) (n:=1) qb hy rfl zA;simpa[aA]using this):P:=h
theorem yN (h:P:=by simp_all):P:=h
theorem zJc (h:P:=by obtain⟨c0,t0,h0⟩:=hse.h0;obtain⟨c1,t1,h1⟩:=hse.h1;exact nUl a1 a0 c1 c0 t1 t0 W (λe=>hse.ne e.symm) (hS.old A4 h1 zJ trivial) (hS.old A4 h0 zJ trivial)):P:=h
theorem zKc (h:P:=by subst h;have h9:=mO.mem wk zI;exact⟨λu hu=>(by have:=((f11 rfl).2.2.2.2.1 u hu).2;omega),λu hu=>(by have:=((f11 rfl).2.2.2.2.2.1 u hu).2;omega)⟩):P:=h
theorem zLc (h:P:=by intro p hp;simp at hp;subst hp;exact .inl zI):P:=h
theorem zMc (h:P:=by first|(intro p hp;simp only[bX,dE,or_false]at hp;rcases hp with rfl|rfl<;>exact .inl zI)|fail):P:=h
theorem zNc (h:P:=by have:=xv (i:=(j:Int)-1) aV hy aa 0 zA;simpa[gb]using this):P:=h
theorem zY (h:P:=by exact rfl):P:=h
theorem tk (h:P:=by first|assumption|exact λh=>h):P:=h
theorem aI (h:P:=by with_reducible first|exact isAgg3|exact isAgg4|exact isAgg9|exact isAgg22|exact isAgg23|exact isAgg24|exact isAgg25|exact isAgg26|exact isAgg31|exact isAgg33|exact isAgg35|exact isAgg38|exact isAgg48|exact isAgg49|exact isAgg51|exact isAgg53|exact isAgg54|exact isAgg55|exact isAgg56|exact isAgg57|exact isAgg59|exact isAgg61|exact isAgg71|exact isAgg72|exact isAgg76|exact isAgg79|exact isAgg85|exact isAgg87|exact isAgg89|exact isAgg92|exact isAgg97|exact isAgg99|exact isAgg106|exact isAgg108|exact isAgg110|exact isAgg114|exact isAgg119|exact isAgg121|exact isAgg127|exact isAgg131|exact isAgg134|exact isAgg137|exact isAgg138|exact isAgg142|exact isAgg145|exact isAgg156|exact isAgg159|exact isAgg165|exact isAgg200|exact isAgg233|exact isAgg240|exact isAgg248|exact isAgg288|exact isAgg294|exact isAgg303|exact isAgg310|exact isAgg312|exact isAgg373|exact isAgg374):P:=h
theorem ov (h:P:=by first|exact Nat.le_of_ble_eq_true rfl|exact dH (by assumption) (by assumption) (by exact rfl)):P:=h
theorem xe (h:P:=by first|exact A0|exact A1|exact A2|exact A3|exact A4|exact A5|exact A6|exact A7|exact A8|exact A9):P:=h
theorem xf (h:P:=by first|exact True.intro|assumption|(simp only[bA,jK,book,List.cons_append,List.nil_append,List.append_nil,List.append_assoc,List.set_cons_zero,List.set_cons_succ,List.eraseIdx_cons_zero,List.eraseIdx_cons_succ,ne_eq,and_true];(repeat' apply And.intro);all_goals first|omega|exact True.intro|exact Rw.off_ge (by assumption) (by omega))|(simp[bA]<;>omega)):P:=h
theorem ax (h:P:=by(try(conv=>arg 2;whnf));with_reducible first|exact sizeOf3|exact sizeOf4|exact sizeOf5|exact sizeOf9|exact sizeOf22|exact sizeOf23|exact sizeOf24|exact sizeOf25|exact sizeOf26|exact sizeOf27|exact sizeOf28|exact sizeOf29|exact sizeOf31|exact sizeOf33|exact sizeOf35|exact sizeOf38|exact sizeOf48|exact sizeOf49|exact sizeOf51|exact sizeOf53|exact sizeOf54|exact sizeOf55|exact sizeOf56|exact sizeOf57|exact sizeOf59|exact sizeOf61|exact sizeOf71|exact sizeOf72|exact sizeOf75|exact sizeOf76|exact sizeOf77|exact sizeOf79|exact sizeOf85|exact sizeOf87|exact sizeOf89|exact sizeOf92|exact sizeOf97|exact sizeOf99|exact sizeOf100|exact sizeOf106|exact sizeOf108|exact sizeOf110|exact sizeOf114|exact sizeOf119|exact sizeOf121|exact sizeOf127|exact sizeOf131|exact sizeOf134|exact sizeOf137|exact sizeOf138|exact sizeOf142|exact sizeOf156|exact sizeOf159|exact sizeOf200|exact sizeOf233|exact sizeOf240|exact sizeOf248|exact sizeOf285|exact sizeOf287|exact sizeOf288|exact sizeOf303|exact sizeOf348|exact sizeOf350|exact sizeOf373|exact sizeOf374|exact sizeOf424):P:=h
theorem bJ (h:P:=by with_reducible first|exact underlying3|exact underlying5|exact underlying20|exact underlying22|exact underlying23|exact underlying24|exact underlying25|exact underlying26|exact underlying31|exact underlying33|exact underlying35|exact underlying38|exact underlying48|exact underlying49|exact underlying51|exact underlying53|exact underlying54|exact underlying55|exact underlying56|exact underlying57|exact underlying59|exact underlying61|exact underlying71|exact underlying72|exact underlying75|exact underlying76|exact underlying79|exact underlying85|exact underlying87|exact underlying89|exact underlying92|exact underlying97|exact underlying99|exact underlying106|exact underlying108|exact underlying110|exact underlying114|exact underlying119|exact underlying121|exact underlying123|exact underlying127|exact underlying131|exact underlying134|exact underlying138|exact underlying142|exact underlying156|exact underlying159|exact underlying162|exact underlying173|exact underlying180|exact underlying200|exact underlying222|exact underlying233|exact underlying240|exact underlying248|exact underlying287|exact underlying303|exact underlying350|exact underlying352|exact underlying370|exact underlying374|exact underlying377|exact underlying424|exact underlying426):P:=h
theorem iT (h:P:=by with_reducible first|exact zeroValue3|exact zeroValue4|exact zeroValue31|exact zeroValue33|exact zeroValue35|exact zeroValue51|exact zeroValue53|exact zeroValue55|exact zeroValue56|exact zeroValue59|exact zeroValue61|exact zeroValue71|exact zeroValue79|exact zeroValue87|exact zeroValue89|exact zeroValue92|exact zeroValue97|exact zeroValue99|exact zeroValue110|exact zeroValue114|exact zeroValue119|exact zeroValue121|exact zeroValue127|exact zeroValue131|exact zeroValue137|exact zeroValue142|exact zeroValue156|exact zeroValue159|exact zeroValue180|exact zeroValue200|exact zeroValue233|exact zeroValue240|exact zeroValue248|exact zeroValue288|exact zeroValue352|exact zeroValue370|exact zeroValue374|exact zeroValue424|exact zeroValue426):P:=h
theorem abL (h:P:=by repeat(first|exact sU.n|(apply sU.c;exact ax))):P:=h
theorem TS (h:P:=by first|exact rfl|exact vb (decide_eq_false (by omega))|exact vb (decide_eq_true (by omega))|exact va (Eq.trans (eU (by assumption) (by assumption) (by exact rfl)) (by exact rfl))|exact vu (by omega)|exact congrArg ab (by omega)|exact vb (by first|(simp;done)|(simp;omega))):P:=h
theorem aX (h:P:=by repeat(first|exact RS.n|(apply RS.t;exact rfl)|(apply RS.w (i:=0);exact rfl;exact aI;exact rfl;exact rfl)|(apply RS.w (i:=1);exact rfl;exact aI;exact rfl;exact rfl)|(apply RS.w (i:=2);exact rfl;exact aI;exact rfl;exact rfl)|(apply RS.w (i:=3);exact rfl;exact aI;exact rfl;exact rfl)|(apply RS.w (i:=4);exact rfl;exact aI;exact rfl;exact rfl)|(apply RS.w (i:=5);exact rfl;exact aI;exact rfl;exact rfl)|(apply RS.wAw (i:=0);exact rfl;exact aI;exact ax;exact rfl;exact rfl)|(apply RS.wA (i:=0);exact rfl;exact aI;exact ax;exact rfl;exact ov)|(apply RS.wAw (i:=1);exact rfl;exact aI;exact ax;exact rfl;exact rfl)|(apply RS.wA (i:=1);exact rfl;exact aI;exact ax;exact rfl;exact ov)|(apply RS.wAw (i:=2);exact rfl;exact aI;exact ax;exact rfl;exact rfl)|(apply RS.wA (i:=2);exact rfl;exact aI;exact ax;exact rfl;exact ov)|(apply RS.wAw (i:=3);exact rfl;exact aI;exact ax;exact rfl;exact rfl)|(apply RS.wA (i:=3);exact rfl;exact aI;exact ax;exact rfl;exact ov)|(apply RS.wAw (i:=4);exact rfl;exact aI;exact ax;exact rfl;exact rfl)|(apply RS.wA (i:=4);exact rfl;exact aI;exact ax;exact rfl;exact ov)|(apply RS.wAw (i:=5);exact rfl;exact aI;exact ax;exact rfl;exact rfl)|(apply RS.wA (i:=5);exact rfl;exact aI;exact ax;exact rfl;exact ov)|(apply RS.r;exact aI;exact rfl;exact xe;exact tk;exact tk;exact xf;exact rfl)|(apply RS.rA;exact aI;exact ax;exact rfl;exact xe;exact tk;exact tk;exact xf;exact ov))):P:=h
theorem cM (h:P:=by first|exact Nat.le_trans hN (hS.links w A0).size|exact Nat.le_trans hN (hS.links w A1).size|exact Nat.le_trans hN (hS.links w A2).size|exact Nat.le_trans hN (hS.links w A3).size|exact Nat.le_trans hN (hS.links w A4).size|exact Nat.le_trans hN (hS.links w A5).size|exact Nat.le_trans hN (hS.links w A6).size|exact Nat.le_trans hN (hS.links w A7).size|exact Nat.le_trans hN (hS.links w A8).size|exact Nat.le_trans hN (hS.links w A9).size):P:=h
theorem OT (h:P:=by first|(first|((with_reducible show RV _ _ _ _ _ (.move _) _);exact sR zY)|((with_reducible show RV _ _ _ _ _ (.assign _) _);exact tD zY)|((with_reducible show RV _ _ _ _ _ (.fieldAddr _ _ _) _);exact bP bJ zY ax zY)|((with_reducible show RV _ _ _ _ _ (.extract _ _) _);exact jm zY zY)|((with_reducible show RV _ _ _ _ _ (.binOp .add _ _ _ _) _);first|exact iw zY zY aa aa|exact HI zY zY aa aa)|((with_reducible show RV _ _ _ _ _ (.pick _ _ _) _);first|exact OO zY zY|exact Hl zY zY)|((with_reducible show RV _ _ _ _ _ (.call _) _);first|exact i6 bJ zY|exact T6 bJ zY))|(first|((with_reducible show RV _ _ _ _ _ (.binOp .lss _ _ _ _) _);exact tR zY zY)|((with_reducible show RV _ _ _ _ _ (.indexAddr _ _ _) _);first|exact dc bJ ax zY zY aa aa|exact uj bJ ax zY zY aa aa)|((with_reducible show RV _ _ _ _ _ (.load _ _) _);first|exact B9 (i:=0) zY zY aI zY|exact B9 (i:=1) zY zY aI zY|exact B9 (i:=2) zY zY aI zY|exact B9 (i:=3) zY zY aI zY|exact B9 (i:=4) zY zY aI zY|exact B9 (i:=5) zY zY aI zY|exact alg zY tk aI xe tk xf zY|exact pD (i:=0) zY zY aI ax zY|exact pD (i:=1) zY zY aI ax zY|exact pD (i:=2) zY zY aI ax zY|exact pD (i:=3) zY zY aI ax zY|exact pD (i:=4) zY zY aI ax zY|exact pD (i:=5) zY zY aI ax zY|exact TR zY tk aI ax xe tk xf zY|exact tV (i:=0) zY zY aI ax ov|exact tV (i:=1) zY zY aI ax ov|exact tV (i:=2) zY zY aI ax ov|exact tV (i:=3) zY zY aI ax ov|exact tV (i:=4) zY zY aI ax ov|exact tV (i:=5) zY zY aI ax ov|exact abl zY tk aI ax xe tk xf ov)|((with_reducible show RV _ _ _ _ _ (.unOp .not _ _) _);exact gq zY)|((with_reducible show RV _ _ _ _ _ (.binOp .geq _ _ _ _) _);exact abg zY zY)|((with_reducible show RV _ _ _ _ _ (.binOp .eql _ _ _ _) _);first|exact iV zY zY|exact Pz zY zY)|((with_reducible show RV _ _ _ _ _ (.nilCheck _) _);exact py zY))|(first|((with_reducible show RV _ _ _ _ _ (.binOp .gtr _ _ _ _) _);exact ON zY zY)|((with_reducible show RV _ _ _ _ _ (.makeFunc _ _ _) _);exact abk zY)|((with_reducible show RV _ _ _ _ _ (.binOp .neq _ _ _ _) _);first|exact cV zY zY|exact Si bJ zY zY|exact qZ bJ zY zY)|((with_reducible show RV _ _ _ _ _ (.binOp .sub _ _ _ _) _);first|exact qO zY zY aa aa|exact tY zY zY aa aa)|((with_reducible show RV _ _ _ _ _ (.convert _ _ _) _);first|exact xS bJ bJ zY aa aa|exact yj bJ bJ zY aa aa)|((with_reducible show RV _ _ _ _ _ (.build _ _) _);first|exact Hj bJ iT ax zY zY|exact zg bJ iT abL zY zY)|((with_reducible show RV _ _ _ _ _ (.binOp .leq _ _ _ _) _);exact abf zY zY))|(first|((with_reducible show RV _ _ _ _ _ (.binOp .mul _ _ _ _) _);exact vc zY zY aa aa))):P:=h
theorem zR (h:P:=by repeat(first|exact trivial|refine⟨rfl,?_⟩)):P:=h
theorem zDr (h:P:=by repeat(first|exact Dr.z|apply Dr.s)):P:=h
theorem zKn (h:P:=by repeat(first|exact Kn.nil|(apply Kn.keep;exact rfl)|(apply Kn.skip;exact rfl))):P:=h
theorem zSU (h:P:=by repeat(first|exact trivial|refine⟨rfl,?_⟩)):P:=h
theorem zKS (h:P:=by repeat(first|(apply KS.done;exact rfl)|(apply KS.keep;exact rfl)|(apply KS.skip;exact rfl)|exact KS.nil)):P:=h
theorem zch (h:P:=by intro cv L' H' hd hP;(rcases cv with _|⟨v1,_|⟨v2,_|⟨_,_⟩⟩⟩<;>try exact False.elim hP);all_goals(first|obtain⟨rfl,rfl⟩:=hP|obtain⟨b6,rfl,rfl,rfl,jO,Cq⟩:=hP|obtain⟨b6,b7,c7,s7,rfl,rfl,rfl,rfl,jO,Cq,tB,Ut,Cr⟩:=hP);all_goals(first|exact X.v (av isAgg3 rfl A0 cZ cu zL rfl))):P:=h
theorem zci (h:P:=by intro cv L' H' hd hP;(rcases cv with _|⟨v1,_|⟨v2,_|⟨v3,_|⟨_,_⟩⟩⟩⟩<;>try exact False.elim hP);all_goals(first|obtain⟨rfl,rfl⟩:=hP|obtain⟨b6,rfl,rfl,rfl,jO,Cq⟩:=hP|obtain⟨b6,b7,c7,s7,rfl,rfl,rfl,rfl,jO,Cq,tB,Ut,Cr⟩:=hP|obtain⟨b6,b7,c7,s7,iD,c12,WS,rfl,rfl,rfl,rfl,rfl,jO,Cq,tB,Ut,Cr,WT,afr,WU⟩:=hP);all_goals(first|exact X.v (av isAgg9 rfl A0 cZ cu zL rfl))):P:=h
theorem zcj (h:P:=by intro cv L' H' hd hP;(rcases cv with _|⟨v1,_|⟨v2,_|⟨_,_⟩⟩⟩<;>try exact False.elim hP);all_goals(first|obtain⟨rfl,rfl⟩:=hP|obtain⟨b9,rfl,rfl,rfl,xh,PF⟩:=hP|obtain⟨b9,gB,Ik,JD,rfl,rfl,rfl,rfl,xh,PF,JE,PG,yx⟩:=hP);all_goals(first|exact X.v (av isAgg134 rfl A0 Ie Cj zL rfl))):P:=h
theorem NI (h:P:=by intro cv L' H' hd hP;(rcases cv with _|⟨v1,_|⟨_,_⟩⟩<;>try exact False.elim hP);all_goals(first|obtain⟨rfl,rfl⟩:=hP|obtain⟨a7,c7,w7,rfl,rfl,rfl,jJ⟩:=hP);all_goals(first|exact X.v (av isAgg48 rfl A0 hb1 cF trivial rfl)|exact X.v (av isAgg48 rfl A1 hb1 cF trivial rfl)|exact X.v (RV.re (dT isAgg51 sizeOf51 rfl A0 hb1 cF trivial (ea rfl)) rfl)|exact X.v (RV.re (dT isAgg51 sizeOf51 rfl A1 hb1 cF trivial (ea rfl)) rfl))):P:=h
theorem UY (h:P:=by intro cv L' H' hd hP;(rcases cv with _|⟨v1,_|⟨v2,_|⟨v3,_|⟨v4,_|⟨_,_⟩⟩⟩⟩⟩<;>try exact False.elim hP);all_goals(first|obtain⟨rfl,rfl⟩:=hP|obtain⟨my,rfl,rfl,rfl,kN⟩:=hP|obtain⟨my,bn,cn,sn,rfl,rfl,rfl,rfl,rfl,kN,hfn,tJ⟩:=hP|obtain⟨my,bn,cn,sn,rfl,rfl,rfl,rfl,kN,hfn,tJ⟩:=hP|obtain⟨my,bn,cn,sn,mN,rfl,rfl,rfl,rfl,rfl,rfl,kN,hfn,tJ,uJ⟩:=hP);all_goals(first|exact X.v (bH (i:=3) rfl isAgg134 rfl rfl)|exact X.v (bH (i:=4) rfl isAgg134 rfl rfl)|exact X.v (bH (i:=5) rfl isAgg134 rfl rfl)|exact X.v (bH (i:=6) rfl isAgg134 rfl rfl)|exact X.v (bH (i:=0) rfl isAgg3 rfl rfl)|exact X.v (bH (i:=1) rfl isAgg3 rfl rfl)|exact X.v (bH (i:=2) rfl isAgg3 rfl rfl)|exact X.v (bH (i:=3) rfl isAgg3 rfl rfl))):P:=h
theorem xx (h:P:=by intro cv L' H' hd hP;(rcases cv with _|⟨v1,_|⟨v2,_|⟨v3,_|⟨_,_⟩⟩⟩⟩<;>try exact False.elim hP);all_goals(first|obtain⟨rfl,rfl⟩:=hP|obtain⟨bn,rfl,rfl,rfl,rfl,hfn⟩:=hP|obtain⟨bn,rfl,rfl,rfl,hfn⟩:=hP|obtain⟨bn,mN,rfl,rfl,rfl,rfl,rfl,hfn,uJ⟩:=hP);all_goals(first|exact X.v (bH (i:=2) rfl isAgg134 rfl rfl)|exact X.v (bH (i:=3) rfl isAgg134 rfl rfl)|exact X.v (bH (i:=4) rfl isAgg134 rfl rfl)|exact X.v (bH (i:=0) rfl isAgg3 rfl rfl)|exact X.v (bH (i:=1) rfl isAgg3 rfl rfl)|exact X.v (bH (i:=2) rfl isAgg3 rfl rfl)|exact X.v (bH (i:=0) rfl isAgg106 rfl rfl)|exact X.v (bH (i:=1) rfl isAgg106 rfl rfl)|exact X.v (bH (i:=2) rfl isAgg106 rfl rfl)|exact nf call90 rfl rfl (λW hS _=>Yn x.w.body N x.w.ba x.w.bc W cM (gy.up qC (ak _) (λk hk=>(hS.links w A1).block k aa (λhx=>by first|(rcases hx with hx|hx;(exact hx);simp only[gz,dy,eV,ig,eL,eb,bj,bX,dE,or_false]at hx;rcases hx with hx|hx|hx|hx|hx<;>first|omega|(have:=hq _ hx;omega)|(have h9:=hfn.not (w:=w) A1;omega)|(have h9:=uJ.not (w:=w) A1;omega))|fail)))) (λ_=>rfl)|exact nf call90 rfl rfl (λW hS _=>Yn x.w.body N x.w.ba x.w.bc W cM (gy.up qC (ak _) (λk hk=>(hS.links w A1).block k aa (λhx=>by first|(rcases hx with hx|hx;(exact hx);simp only[gz,dy,eV,ig,eL,eb,bj,bX,dE,or_false]at hx;rcases hx with hx|hx|hx|hx|hx|hx<;>first|omega|(have:=hq _ hx;omega)|(have h9:=hfn.not (w:=w) A1;omega)|(have h9:=uJ.not (w:=w) A1;omega))|fail)))) (λ_=>rfl)|exact nf call90 rfl rfl (λW hS _=>Yn x.w.body N x.w.ba x.w.bc W cM (gy.up qC (ak _) (λk hk=>(hS.links w A1).block k aa (λhx=>by first|(rcases hx with hx|hx;(exact hx);simp only[gz,dy,eV,ig,eL,eb,bj,bX,dE,or_false]at hx;rcases hx with hx|hx|hx|hx|hx|hx|hx<;>first|omega|(have:=hq _ hx;omega)|(have h9:=hfn.not (w:=w) A1;omega)|(have h9:=uJ.not (w:=w) A1;omega))|fail)))) (λ_=>rfl)|exact X.v (bH (i:=1) rfl isAgg134 rfl rfl)|exact nf call129 rfl rfl (λW hS _=>by have h1:=hS.own (b5,_) A0;have h2:=IQ (cx y.f) W.heap.size (ao b5) 32 W (ak _) (.inr ⟨b5,0,rfl,(aT.1 h1).1,bZ.dgo h1 rfl (ea rfl) fP⟩);rw[nR]at h2;exact h2) (λ_=>rfl)|exact nf call129 rfl rfl (λW hS _=>by have h1:=hS.own (b5,_) A1;have h2:=IQ (cx y.f) W.heap.size (ao b5) 32 W (ak _) (.inr ⟨b5,0,rfl,(aT.1 h1).1,bZ.dgo h1 rfl (ea rfl) fP⟩);rw[nR]at h2;exact h2) (λ_=>rfl)|exact nf call129 rfl rfl (λW hS _=>by have h1:=hS.own (b5,_) A2;have h2:=IQ (cx y.f) W.heap.size (ao b5) 32 W (ak _) (.inr ⟨b5,0,rfl,(aT.1 h1).1,bZ.dgo h1 rfl (ea rfl) fP⟩);rw[nR]at h2;exact h2) (λ_=>rfl)|exact nf call129 rfl rfl (λW hS _=>IQ y.w.body N y.w.ba y.w.bc W cM (gy.up qC (ak _) (λk hk=>(hS.links w A1).block k aa (λhx=>by first|(rcases hx with hx|hx;(exact hx);simp only[gz,dy,eV,ig,eL,eb,bj,bX,dE,or_false]at hx;rcases hx with hx|hx|hx<;>first|omega|(have:=hq _ hx;omega)|(have h9:=hfn.not (w:=w) A1;omega)|(have h9:=uJ.not (w:=w) A1;omega))|fail)))) (λ_=>rfl)|exact nf call129 rfl rfl (λW hS _=>IQ y.w.body N y.w.ba y.w.bc W cM (gy.up qC (ak _) (λk hk=>(hS.links w A1).block k aa (λhx=>by first|(rcases hx with hx|hx;(exact hx);simp only[gz,dy,eV,ig,eL,eb,bj,bX,dE,or_false]at hx;rcases hx with hx|hx|hx|hx<;>first|omega|(have:=hq _ hx;omega)|(have h9:=hfn.not (w:=w) A1;omega)|(have h9:=uJ.not (w:=w) A1;omega))|fail)))) (λ_=>rfl)|exact nf call129 rfl rfl (λW hS _=>IQ y.w.body N y.w.ba y.w.bc W cM (gy.up qC (ak _) (λk hk=>(hS.links w A1).block k aa (λhx=>by first|(rcases hx with hx|hx;(exact hx);simp only[gz,dy,eV,ig,eL,eb,bj,bX,dE,or_false]at hx;rcases hx with hx|hx|hx|hx|hx<;>first|omega|(have:=hq _ hx;omega)|(have h9:=hfn.not (w:=w) A1;omega)|(have h9:=uJ.not (w:=w) A1;omega))|fail)))) (λ_=>rfl))):P:=h
theorem EM (h:P:=by intro cv L' H' hd hP;(rcases cv with _|⟨v1,_|⟨v2,_|⟨_,_⟩⟩⟩<;>try exact False.elim hP);all_goals(first|obtain⟨rfl,rfl⟩:=hP|obtain⟨xy,rfl,rfl,rfl,rfl,rj,rk⟩:=hP|obtain⟨xy,rfl,rfl,rfl,rj,rk⟩:=hP);all_goals(first|exact X.v (av isAgg3 rfl A0 hb1 cF zMb rfl)|exact nf call90 rfl rfl (λW hS _=>by have h1:=hS.old A0 hb1 cF zZb;have h2:=Yn (cx c.par) W.heap.size (some ⟨b1,2,none⟩) 32 W (ak _) (.inr ⟨b1,2,rfl,(aT.1 h1).1,bZ.dgo h1 rfl (ea rfl) rf.bp⟩);rw[nR]at h2;exact h2) (λ_=>rfl)|exact X.v (dW (i:=2) rfl isAgg200 sizeOf200 rfl rfl)|exact X.v (av isAgg55 rfl A0 hb1 cF zMb rfl)|exact X.v (dW (i:=1) rfl isAgg200 sizeOf200 rfl rfl)|exact X.v (dW (i:=0) rfl isAgg200 sizeOf200 rfl rfl)|exact nf call90 rfl rfl (λW hS _=>by have h1:=hS.old A0 hb1 cF zZb;have h2:=Yn (cx c.conf) W.heap.size (some ⟨b1,39,none⟩) 32 W (ak _) (.inr ⟨b1,39,rfl,(aT.1 h1).1,bZ.dgo h1 rfl (ea rfl) rf.bf⟩);rw[nR]at h2;exact h2) (λ_=>rfl))):P:=h
theorem NZ (h:P:=by intro cv L' H' hd hP;(rcases cv with _|⟨v1,_|⟨v2,_|⟨v3,_|⟨v4,_|⟨v5,_|⟨_,_⟩⟩⟩⟩⟩⟩<;>try exact False.elim hP);all_goals(first|obtain⟨rfl,rfl⟩:=hP|obtain⟨ta,tc,wr,rfl,rfl,rfl,se,gY,q9⟩:=hP|obtain⟨ta,tc,wr,r8,rfl,rfl,rfl,rfl,rfl,rfl,rfl,se,gY,q9,mU,iu,ju⟩:=hP|obtain⟨ta,tc,wr,r8,rfl,rfl,rfl,rfl,rfl,rfl,se,gY,q9,mU,iu,ju⟩:=hP|obtain⟨ta,tc,wr,r8,rfl,rfl,rfl,rfl,rfl,se,gY,q9,mU,iu,ju⟩:=hP|obtain⟨ta,tc,wr,r8,rfl,rfl,rfl,rfl,se,gY,q9,mU,iu,ju⟩:=hP);all_goals(first|exact X.v (cQ isAgg53 sizeOf53 rfl A4 di bV zO rfl)|exact X.v (cQ isAgg53 sizeOf53 rfl A5 di bV zO rfl)|exact X.v (av isAgg54 rfl A3 cZ cu zO rfl)|exact X.v (av isAgg54 rfl A4 cZ cu zO rfl)|exact X.v (av isAgg3 rfl A3 cZ cu zO rfl)|exact X.v (av isAgg3 rfl A4 cZ cu zO rfl)|exact X.v (av isAgg55 rfl A3 cZ cu zO rfl)|exact X.v (av isAgg55 rfl A4 cZ cu zO rfl))):P:=h
theorem zcp (h:P:=by intro cv L' H' hl hd hP;(obtain⟨x3,x4,x8,x9,rfl⟩:=uI hl;rcases x3 with _|v3<;>rcases x4 with _|v4<;>rcases x8 with _|v8<;>rcases x9 with _|v9<;>try exact False.elim hP);all_goals(first|obtain⟨rfl,rfl⟩:=hP|obtain⟨fk,rfl,rfl,rfl,lA⟩:=hP|obtain⟨iM,rfl,rfl,rfl,l9⟩:=hP|obtain⟨fk,iM,rfl,rfl,rfl,rfl,lA,l9⟩:=hP|obtain⟨fk,lO,gN,iN,rfl,rfl,rfl,rfl,lA,qk,gO⟩:=hP|obtain⟨fk,lO,gN,iN,iM,rfl,rfl,rfl,rfl,rfl,lA,qk,gO,l9⟩:=hP|obtain⟨fk,lO,gN,iN,iM,CH,wy,zc,rfl,rfl,rfl,rfl,rfl,rfl,lA,qk,gO,l9,zd,uS⟩:=hP);all_goals(first|exact X.v (bH (i:=3) rfl isAgg72 rfl rfl)|exact X.v (bH (i:=4) rfl isAgg72 rfl rfl)|exact X.v (bH (i:=5) rfl isAgg72 rfl rfl)|exact X.v (dW (i:=0) rfl isAgg33 sizeOf33 rfl rfl)|exact X.v (dW (i:=1) rfl isAgg33 sizeOf33 rfl rfl)|exact X.v (dW (i:=2) rfl isAgg33 sizeOf33 rfl rfl)|exact X.v (bH (i:=3) rfl isAgg55 rfl rfl)|exact X.v (bH (i:=4) rfl isAgg55 rfl rfl)|exact X.v (bH (i:=5) rfl isAgg55 rfl rfl))):P:=h
theorem Zg (h:P:=by intro cv L' H' hl hd hP;(obtain⟨qE,sh,tP,xF,xG,rfl⟩:=sQ hl;rcases qE with _|v12<;>rcases sh with _|wC<;>rcases tP with _|BY<;>rcases xF with _|wB<;>rcases xG with _|v17<;>try exact False.elim hP);all_goals(first|obtain⟨rfl,rfl⟩:=hP|obtain⟨b7,rfl,rfl,rfl,jN⟩:=hP|obtain⟨Xn,eT,rfl,rfl,rfl,rfl,rfl,fT,jD,lD,lE⟩:=hP|obtain⟨Xn,eT,rfl,rfl,rfl,rfl,fT,jD,lD,lE⟩:=hP|obtain⟨Xn,eT,rfl,rfl,rfl,fT,jD,lD,lE⟩:=hP|obtain⟨Xn,eT,b7,rfl,rfl,rfl,rfl,rfl,rfl,rfl,fT,jD,lD,lE,jN,si⟩:=hP|obtain⟨Xn,eT,b7,rfl,rfl,rfl,rfl,rfl,rfl,fT,jD,lD,lE,jN,si⟩:=hP|obtain⟨Xn,eT,b7,rfl,rfl,rfl,rfl,rfl,fT,jD,lD,lE,jN,si⟩:=hP|obtain⟨Xn,eT,b7,rfl,rfl,rfl,rfl,fT,jD,lD,lE,jN,si⟩:=hP);all_goals(first|exact X.v (av isAgg3 rfl A0 cZ cu zL rfl)|exact X.v (av isAgg3 rfl A1 cZ cu zL rfl)|exact X.v (av isAgg24 rfl A1 di bV zL rfl)|exact X.v (av isAgg24 rfl A2 di bV zL rfl)|exact X.v (av isAgg55 rfl A1 di bV zL rfl)|exact X.v (av isAgg55 rfl A2 di bV zL rfl)|exact X.v (av (v:=ab (i:Int)) isAgg3 rfl A2 Fs zJ VS zGc)|exact X.v (av (v:=ab (i:Int)) isAgg3 rfl A3 Fs zJ VS zGc)|exact X.v (RV.re (v':=.agg (cG c)) (dT isAgg61 sizeOf61 rfl A2 wz zJ VS (dH ql hc rfl)) (va (eU ql hc rfl)))|exact X.v (RV.re (v':=.agg (cG c)) (dT isAgg61 sizeOf61 rfl A3 wz zJ VS (dH ql hc rfl)) (va (eU ql hc rfl))))):P:=h
theorem II (h:P:=by intro cv L' H' hd hP;(rcases cv with _|⟨v1,_|⟨_,_⟩⟩<;>try exact False.elim hP);all_goals(first|obtain⟨rfl,rfl,rfl⟩:=hP|obtain⟨rfl,rfl⟩:=hP);all_goals(first|exact X.v (av isAgg55 rfl A2 di bV zL rfl)|exact X.v (av (v:=ab (i:Int)) isAgg3 rfl A3 Fs zJ VS zGc)|exact X.v (av isAgg24 rfl A2 di bV zL rfl)|exact X.v (RV.re (v':=.agg (cG c)) (dT isAgg61 sizeOf61 rfl A3 wz zJ VS (dH ql hc rfl)) (va (eU ql hc rfl)))|exact X.v (RV.re (dT isAgg33 sizeOf33 rfl A1 cZ cu zL (ea rfl)) rfl)|exact X.v (dW (i:=0) rfl isAgg53 sizeOf53 rfl rfl)|exact X.v (dW (i:=2) rfl isAgg61 sizeOf61 rfl rfl)|exact X.v (dW (i:=1) rfl isAgg127 sizeOf127 rfl rfl))):P:=h
theorem zcs (h:P:=by intro cv L' H' hl hd hP;(obtain⟨x3,x4,x8,rfl⟩:=mB hl;rcases x3 with _|v3<;>rcases x4 with _|v4<;>rcases x8 with _|v8<;>try exact False.elim hP);all_goals(first|obtain⟨rfl,rfl⟩:=hP|obtain⟨fg,rfl,rfl,rfl,jt⟩:=hP|obtain⟨oG,rfl,rfl,rfl,wH⟩:=hP|obtain⟨fg,oG,rfl,rfl,rfl,rfl,jt,wH⟩:=hP|obtain⟨fg,mL,gV,iJ,rfl,rfl,rfl,rfl,jt,lz,ik⟩:=hP|obtain⟨fg,mL,gV,iJ,oG,rfl,rfl,rfl,rfl,rfl,jt,lz,ik,wH⟩:=hP);all_goals(first|exact X.v (bH (i:=0) rfl isAgg3 rfl rfl)|exact X.v (bH (i:=1) rfl isAgg3 rfl rfl)|exact X.v (bH (i:=2) rfl isAgg3 rfl rfl)|exact X.v (fj (i:=0) rfl isAgg53 sizeOf53 rfl (ea rfl))|exact X.v (fj (i:=1) rfl isAgg53 sizeOf53 rfl (ea rfl))|exact X.v (fj (i:=2) rfl isAgg53 sizeOf53 rfl (ea rfl)))):P:=h
theorem zct (h:P:=by intro cv L' H' hd hP;(rcases cv with _|⟨v1,_|⟨v2,_|⟨v3,_|⟨v4,_|⟨_,_⟩⟩⟩⟩⟩<;>try exact False.elim hP);all_goals(first|obtain⟨rfl,rfl⟩:=hP|obtain⟨b9,c9,w9,px,vd,rfl,rfl,rfl,rfl,rL,tw,qN,rQ,GV⟩:=hP|obtain⟨b9,c9,w9,px,vd,rfl,rfl,rfl,rL,tw,qN,rQ,GV⟩:=hP|obtain⟨b9,c9,w9,px,vd,bR,rfl,rfl,rfl,rfl,rfl,rfl,rL,tw,qN,rQ,GV,vD,VE,wP⟩:=hP|obtain⟨b9,c9,w9,px,vd,bR,rfl,rfl,rfl,rfl,rfl,rL,tw,qN,rQ,GV,vD,VE,wP⟩:=hP);all_goals(first|exact X.v (cQ isAgg127 sizeOf127 rfl A1 Ie Cj zL rfl)|exact X.v (cQ isAgg127 sizeOf127 rfl A2 Ie Cj zL rfl)|exact X.v (cQ isAgg127 sizeOf127 rfl A0 Cw Xj zL rfl)|exact X.v (cQ isAgg127 sizeOf127 rfl A1 Cw Xj zL rfl))):P:=h
theorem zcu (h:P:=by intro cv L' H' hd hP;(rcases cv with _|⟨v1,_|⟨v2,_|⟨v3,_|⟨_,_⟩⟩⟩⟩<;>try exact False.elim hP);all_goals(first|obtain⟨rfl,rfl⟩:=hP|obtain⟨bq,wq,rfl,rfl,rfl,rfl,oY,OF,OG⟩:=hP|obtain⟨bq,wq,rfl,rfl,rfl,oY,OF,OG⟩:=hP|obtain⟨bq,wq,hd,rfl,rfl,rfl,rfl,rfl,oY,OF,OG,hhd⟩:=hP);all_goals(first|exact X.v (dW (i:=1) rfl isAgg127 sizeOf127 rfl rfl)|exact X.v (dW (i:=2) rfl isAgg61 sizeOf61 rfl rfl))):P:=h
theorem zcv (h:P:=by intro cv L' H' hd hP;(rcases cv with _|⟨v1,_|⟨v2,_|⟨_,_⟩⟩⟩<;>try exact False.elim hP);all_goals(first|obtain⟨rfl,rfl⟩:=hP|obtain⟨oi,qo,rfl,rfl,rfl,wS,wT,wU⟩:=hP|obtain⟨oi,qo,iz,oj,qp,rfl,rfl,rfl,rfl,wS,wT,wU,OH,AS⟩:=hP);all_goals(first|exact X.v (bH (i:=6) rfl isAgg23 rfl rfl)|exact X.v (bH (i:=7) rfl isAgg23 rfl rfl)|exact X.v (av (v:=ab 0) isAgg3 rfl A7 xE xM O1 rfl)|exact X.v (av (v:=ab 0) isAgg3 rfl A8 xE xM O1 rfl)|exact X.v (av (v:=ab pp) isAgg3 rfl A7 xE xM O1 rfl)|exact X.v (av (v:=ab pp) isAgg3 rfl A8 xE xM O1 rfl))):P:=h
theorem VK (h:P:=by intro cv L' H' hd hP;(rcases cv with _|⟨v1,_|⟨v2,_|⟨_,_⟩⟩⟩<;>try exact False.elim hP);all_goals(first|obtain⟨rfl,rfl⟩:=hP|obtain⟨ot,rT,rfl,rfl,rfl,wV,wW,wX⟩:=hP|obtain⟨ot,rT,zx,Mn,Tj,rfl,rfl,rfl,rfl,wV,wW,wX,Hm,aaT⟩:=hP);all_goals(first|exact X.v (bH (i:=7) rfl isAgg77 rfl rfl)|exact X.v (bH (i:=8) rfl isAgg77 rfl rfl)|exact X.v (av (v:=ab 0) isAgg3 rfl A8 xE xM O1 rfl)|exact X.v (av (v:=ab 0) isAgg3 rfl A9 xE xM O1 rfl)|exact X.v (RV.re (v':=aj) (mF (ev:=(id:Value->Value)) underlying77 underlying3 zeroValue55 AJ (bB.own (i:=8) rfl) rfl rfl) rfl)|exact X.v (RV.re (v':=aj) (mF (ev:=(id:Value->Value)) underlying77 underlying3 zeroValue55 AJ (bB.own (i:=9) rfl) rfl rfl) rfl)|exact X.v (av (v:=ab 5000) isAgg3 rfl A8 oY xM O1 rfl)|exact X.v (av (v:=ab 5000) isAgg3 rfl A9 oY xM O1 rfl))):P:=h
theorem zcx (h:P:=by intro cv L' H' hd hP;(rcases cv with _|⟨v1,_|⟨_,_⟩⟩<;>try exact False.elim hP);all_goals(first|obtain⟨rfl,rfl⟩:=hP|obtain⟨VL,Uq,td,rfl,rfl,rfl,TA⟩:=hP);all_goals(first|exact X.v (cQ isAgg31 sizeOf31 rfl A0 cZ cu trivial rfl)|exact X.v (cQ isAgg31 sizeOf31 rfl A1 cZ cu trivial rfl))):P:=h
theorem zcy (h:P:=by intro cv L' H' hd hP;(rcases cv with _|⟨v1,_|⟨v2,_|⟨v3,_|⟨_,_⟩⟩⟩⟩<;>try exact False.elim hP);all_goals(first|obtain⟨rfl,rfl⟩:=hP|obtain⟨fH,rfl,rfl,rfl,ou⟩:=hP|obtain⟨fH,fk,Hx,I4,rfl,rfl,rfl,rfl,ou,tU,rU⟩:=hP|obtain⟨fH,fk,Hx,I4,xm,JI,Nr,rfl,rfl,rfl,rfl,rfl,ou,tU,rU,Hy,HA⟩:=hP);all_goals(first|exact X.v (cQ isAgg31 sizeOf31 rfl A2 cZ cu trivial rfl)|exact X.v (cQ isAgg31 sizeOf31 rfl A2 cZ cu zL rfl))):P:=h
structure ZW (Q:Prop):Prop where
  p:Q
inductive Ct:Nat->Prop where
  |mk (n:Nat):Ct n
theorem Ct.dec {n:Nat} (_:Ct (n+1)):Ct n:=.mk n
theorem Ct.fin {P:Prop} (_:Ct 0) (h:P):P:=h
theorem B (n:Nat) (k:Q) (h:Ct n->ZW Q->P:=by intro Cz Kz;(repeat(replace Cz:=Ct.dec Cz;(first|(first|(with_reducible refine PJ.next ?_)|(with_reducible refine OJ.done ?_)|(with_reducible refine CJ.seq ?_)|(with_reducible refine CJ.region ?_)|(with_reducible refine CJ.ret ?_)|(with_reducible refine PJ.retThen ?_)|(with_reducible refine CJ.skip ?_))|(first|(with_reducible refine PJ.exThen ?_)|(with_reducible refine CJ.block ?_)|(with_reducible refine PJ.norBlock ?_)|(with_reducible refine PJ.retBlock ?_)|(with_reducible refine PJ.exHit ?_)|(with_reducible refine CJ.exit ?_)|((with_reducible refine CJ.condT ?_ ?_);· exact rfl))|(first|((with_reducible refine CJ.condF ?_ ?_);· exact rfl))|first|(first|((with_reducible show OJ _ _ _ (⟨_,.store _ _ _,_,_,_,_⟩::_) _ _ _ _ _);first|refine ie (i:=0) zY ax zY zY zY zY zY zY ?_|refine ie (i:=1) zY ax zY zY zY zY zY zY ?_|refine ie (i:=2) zY ax zY zY zY zY zY zY ?_|refine ie (i:=3) zY ax zY zY zY zY zY zY ?_|refine ie (i:=4) zY ax zY zY zY zY zY zY ?_|refine ie (i:=5) zY ax zY zY zY zY zY zY ?_|refine OJ.off rfl zA rfl ?_)|((with_reducible show OJ _ _ _ (⟨_,.alloc _,_,_,_,_⟩::_) _ _ _ _ _);first|refine Hk iT zY zY ?_|refine OJ.off rfl zA rfl ?_)|((with_reducible show OJ _ _ _ (⟨_,.box _ _,_,_,_,_⟩::_) _ _ _ _ _);first|refine TQ rfl rfl rfl ?_|refine OJ.off rfl zA rfl ?_)|refine OJ.off rfl zA rfl ?_|refine rvA rfl rfl rfl ?_|refine TQ rfl rfl rfl ?_|refine Hk iT zY zY ?_)|(first|refine ie (i:=0) zY ax zY zY zY zY zY zY ?_|refine ie (i:=1) zY ax zY zY zY zY zY zY ?_|refine ie (i:=2) zY ax zY zY zY zY zY zY ?_|refine ie (i:=3) zY ax zY zY zY zY zY zY ?_|refine ie (i:=4) zY ax zY zY zY zY zY zY ?_|refine ie (i:=5) zY ax zY zY zY zY zY zY ?_))));exact Cz.fin Kz.p):P:=h (.mk n) ⟨k⟩
theorem zT (h:P:=by repeat(first|(apply vK;exact rfl)|(apply qbk;exact rfl)|(apply aU;(first|exact X.off rfl (λ_ _=>rfl)|exact X.v (RV.re OT TS))))):P:=h
theorem Ve (h:P:=by repeat(first|(apply qtn;exact rfl)|(apply qtk;exact rfl)|(apply sf;(intro cv L' H' hl hd hP;first|exact X.off rfl (λ_ _=>rfl)|exact X.v (RV.re OT TS)|((repeat(first|with_reducible obtain⟨rfl,hP⟩:=hP|(with_reducible obtain⟨_,hP⟩:∃x,_:=hP)|(with_reducible obtain⟨_,hP⟩:_/\_:=hP)));(try with_reducible subst hP);exact X.v (RV.re OT TS)))))):P:=h
theorem zU (n:Nat) (h:Ct n->ZW Q->P:=by intro Cz Kz;(repeat(replace Cz:=Ct.dec Cz;(first|(apply vK;exact rfl)|(apply qbk;exact rfl)|(apply aU;(first|exact X.off rfl (λ_ _=>rfl)|exact X.v (RV.re OT TS))))));exact Cz.fin Kz.p) (k:Q):P:=h (.mk n) ⟨k⟩
theorem xC (n:Nat) (h:Ct n->ZW Q->P:=by intro Cz Kz;(repeat(replace Cz:=Ct.dec Cz;(first|(apply qtn;exact rfl)|(apply qtk;exact rfl)|(apply sf;(intro cv L' H' hl hd hP;first|exact X.off rfl (λ_ _=>rfl)|exact X.v (RV.re OT TS)|((repeat(first|with_reducible obtain⟨rfl,hP⟩:=hP|(with_reducible obtain⟨_,hP⟩:∃x,_:=hP)|(with_reducible obtain⟨_,hP⟩:_/\_:=hP)));(try with_reducible subst hP);exact X.v (RV.re OT TS)))))));exact Cz.fin Kz.p) (k:Q):P:=h (.mk n) ⟨k⟩
theorem vj (h:P:=by first|exact .inr (by assumption)|exact .inr (And.right (by assumption))|exact .inr (And.right (And.right (by assumption)))|exact .inr (by simp only[ae,and_true]at *;omega)|exact .inr (by simp only[ae,and_true];omega)|exact .inr (by simp only[ae,and_true];(repeat' apply And.intro)<;>omega)):P:=h
theorem zMo (h:P:=by intro W h;first|exact h|exact h.un|exact h.dropF vj|exact h.un.dropF vj|exact h.un.un|exact(h.dropF vj).dropF vj|exact h.un.un.dropF vj|exact(h.un.dropF vj).dropF vj|exact((h.dropF vj).dropF vj).dropF vj|exact((h.un.dropF vj).dropF vj).dropF vj|exact(h.un.un.dropF vj).dropF vj|exact h.un.un.un|exact(((h.dropF vj).dropF vj).dropF vj).dropF vj):P:=h
theorem zE (k:Q) (h:ZW Q->P:=by intro Kz;exact OJ.done (hk _ _ _ (wE zMo Kz.p))):P:=h ⟨k⟩
theorem zG (k:Q) (h:ZW Q->P:=by intro Kz;exact OJ.done (hk _ _ _ (wN zMo Kz.p))):P:=h ⟨k⟩
theorem aG {R:Prop} (k:Q) (l:R) (h:ZW Q->ZW R->P:=by intro Kz Kw;(refine CJ.cond rfl (λhc=>?_) (λhc=>?_)<;>(try simp only[decide_eq_true_eq,decide_eq_false_iff_not,Bool.not_eq_true',Bool.not_eq_false']at hc)<;>revert hc);exact Kz.p;exact Kw.p):P:=h ⟨k⟩ ⟨l⟩
theorem zOc (k:Q) (h:ZW Q->P:=by intro Kz;refine B 2 ?_;refine rv rfl rfl rfl (kG rfl rfl) ?_;refine B 1 ?_;refine rv rfl rfl rfl (pC rfl rfl) ?_;refine B 1 ?_;refine rv rfl rfl rfl (kG rfl rfl) ?_;refine B 1 ?_;refine rv rfl rfl rfl (pC rfl rfl) ?_;refine B 2 ?_;refine rv rfl rfl rfl (kG rfl rfl) ?_;refine rq (.int .u64 (r0:Int)) (vh rfl rfl) (vu zib) ?_;refine B 1 ?_;refine rq (.int .u64 ((r0/2^s:Nat):Int)) (lT rfl rfl aa) (vu (nsc r0 s aa)) ?_;exact B 5 Kz.p):P:=h ⟨k⟩
theorem YL (k:Q) (h:ZW Q->P:=by intro Kz;refine B 6 ?_;refine ay (.agg (bD G)) ?_;refine call call148 rfl rfl rfl (λW hS=>by rw[<-hv];exact nQ G N W cM (hG.up (ak _) hS.sm)) (v:=.bool true) ?_;refine ay bN ?_;refine B 8 ?_;refine ay (.agg (cG c)) ?_;refine call call149 rfl rfl rfl (λW hS=>by rw[<-jS];exact ntb c dC.few N W cM (hC.up (ak _) hS.sm)) (v:=ab 0) ?_;refine B 6 ?_;refine ay bN ?_;refine B 12 ?_;refine ay bN ?_;refine B 6 ?_;refine ay bN ?_;refine B 6 ?_;refine rq bN (eF xn zA nM rfl rfl rfl) (congrArg (λq=>Value.bool (!q)) h3) ?_;refine B 8 ?_;refine ay (.agg (bD G)) ?_;refine B 4 ?_;exact nG (enc:=sK) (m:=4) (t:=110) (xs:=(gw G.g c.author c.chs)) (v:=λs=>.tuple #[s,ab 0]) (first:=[]) (cap:=[]) rfl call134 rfl rfl rfl US (λW hS=>by rw[<-hne];exact nzb G N W cM (hG.up (ak _) hS.sm) c.chs aa c.ca c.cc (hC.chs.up (ak _) hS.sm) c.author sE) Kz.p):P:=h ⟨k⟩
theorem p5 (k:Q) (h:ZW Q->P:=by intro Kz;exact PJ.dropAt (i:=0) rfl zC Kz.p):P:=h ⟨k⟩
theorem zRc (k:Q) (h:ZW Q->P:=by intro Kz;exact CJ.less (E':=[(0,_),(1,_),(2,_),(3,_),(4,_),(5,_),(6,_),(7,_),(8,_),(9,_),(10,_),(11,_),(12,_),(13,_),(14,_),(15,_),(16,_),(17,_),(18,_),(19,_),(20,_),(21,_),(22,_),(23,_),(24,_),(25,_),(26,_),(27,_),(28,_),(29,_),(30,_),(31,_),(32,_),(33,_),(34,_),(35,_),(36,_),(37,_),(38,_),(39,_),(40,_)]) zR Kz.p):P:=h ⟨k⟩
theorem UM (k:Q) (h:ZW Q->P:=by intro Kz;refine B 14 ?_;exact CJ.lp (α:=Nat) [0,1,7] (λj=>[(8,ab (j:Int))]) (λj=>[]) (λj=>j<=xs.length/\gu p xs j) (λj=>xs.length-j) 0 ⟨cR _,λi x hi=>absurd hi aa⟩ Kz.p):P:=h ⟨k⟩
theorem M6 (k:Q) (h:ZW Q->P:=by intro Kz;refine ay (.int .u64 ((q-1:Nat):Int)) ?_;refine B 7 ?_;refine ay (.int .u64 ((r+y1:Nat):Int)) ?_;exact B 9 Kz.p):P:=h ⟨k⟩
theorem zUc (k:Q) (h:ZW Q->P:=by intro Kz;exact CJ.less (E':=[(0,_),(1,_),(2,_),(3,_),(4,_),(5,_),(6,_),(7,_),(8,_),(9,_),(13,_),(14,_),(15,_),(17,_),(18,_),(19,_),(20,_),(23,_),(24,_),(25,_),(26,_),(27,_),(28,_),(29,_),(30,_),(31,_),(32,_),(33,_),(34,_),(35,_),(36,_),(37,_),(38,_),(39,_),(40,_),(41,_),(42,_),(44,_),(45,_),(46,_),(47,_),(48,_),(49,_),(50,_),(51,_),(52,_),(53,_),(54,_),(57,_),(58,_),(59,_),(60,_),(61,_),(62,_),(63,_),(64,_),(65,_),(66,_),(67,_),(68,_),(69,_),(70,_),(71,_),(72,_),(73,_),(74,_),(76,_),(77,_),(78,_),(79,_),(80,_),(81,_),(82,_),(83,_),(84,_),(85,_),(86,_),(87,_),(89,_),(90,_),(91,_),(92,_),(93,_),(94,_),(95,_)]) zR Kz.p):P:=h ⟨k⟩
theorem Kd (k:Q) (h:ZW Q->P:=by intro Kz;exact ay (.agg #[.slice a ns.length cp]) Kz.p):P:=h ⟨k⟩
theorem D4 (k:Q) (h:ZW Q->P:=by intro Kz;exact kh underlying55 sizeOf3 zeroValue3 rfl rfl rfl rfl rfl rfl rfl Kz.p):P:=h ⟨k⟩
theorem zXc (k:Q) (h:ZW Q->P:=by intro Kz;exact call call156 rfl rfl rfl (λW hS=>ntd (Ey G.g (ij G.g.ms au) au) 259 [ptr b3 0,ptr b8 0,ptr b4 0] call259 l hxl N _ cp W cM (aJ.up (ak _) hS.sm) (λj x hx W2 hB=>by have h3:=(hS.links w3 A1).size;have h4:=(hS.links w4 A0).size;have h5:=(hS.links w A2).size;have h8:=hS.own (b8,_) A0;have h9:=(aT.1 h8).1;exact nei G N W2 (by have:=hB.size;omega) (hG.up (ak _) (λk hk=>by rw[hB.block k aa];exact hS.same A2 hN zH zD k hk)) b3 b8 b4 _ au (by rw[hB.block b3 aa];exact hS.old A1 cZ cu zz) (by rw[hB.block b8 h9];exact h8) (by rw[hB.block b4 aa];exact hS.old A0 Ie Cj zz) x)) Kz.p):P:=h ⟨k⟩
theorem zYc (k:Q) (h:ZW Q->P:=by intro Kz;refine zE ?_;exact call call153 rfl rfl rfl (λW hS=>by have h9:=njd c.wes aa W.heap.size c.wa c.wc W (ak _) (hC.wes.up cM hS.sm) (mS c.author c.chs) aw cw (wt.to hS A0 (ak _) (λb off e=>.inr zEb));rw[show kQ U2 c.wes (mS c.author c.chs)=true from hw]at h9;exact h9) (v:=.bool true) Kz.p):P:=h ⟨k⟩
theorem zZc (k:Q) (h:ZW Q->P:=by intro Kz;exact nG (enc:=mI) (m:=5) (t:=99) (xs:=mS c.author c.chs) (v:=id) (first:=[]) (cap:=[]) rfl call144 rfl rfl rfl BK (λW hS=>n4b c.author c.chs aa N c.ca c.cc W cM (hC.chs.up (ak _) hS.sm)) Kz.p):P:=h ⟨k⟩
theorem IL (k:Q) (h:ZW Q->P:=by intro Kz;exact kh underlying38 sizeOf35 zeroValue35 rfl rfl rfl rfl rfl rfl rfl Kz.p):P:=h ⟨k⟩
theorem Ic (k:Q) (h:ZW Q->P:=by intro Kz;exact qT underlying55 sizeOf3 zeroValue3 rfl rfl rfl rfl rfl rfl rfl Kz.p):P:=h ⟨k⟩
theorem z2c (k:Q) (h:ZW Q->P:=by intro Kz;refine ay (ab x.dev) ?_;refine call call37 rfl rfl rfl (λW hS=>nok _ W) ?_;refine B 10 ?_;refine ay (.agg #[.slice p.ta p.ns.length p.tc]) ?_;refine ay (ab (vA x.dev)) ?_;refine call (v:=.tuple #[ab ((ei p.ns (vA x.dev)).getD 0),.bool (ei p.ns (vA x.dev)).isSome]) call36 rfl rfl rfl (λW9 hS=>nPc p.ns aa W9.heap.size p.ta p.tc W9 (ak _) (RG.toG hS A1 hN (λb off e=>by by_cases h0:p.ns=[];(exact .inl h0);exact .inr (λhb=>⟨B1 V b hV (.inr (.inl ⟨h0,off,e⟩)) aa,z1⟩))) (vA x.dev)) ?_;exact B 11 Kz.p):P:=h ⟨k⟩
theorem z3c (k:Q) (h:ZW Q->P:=by intro Kz;exact nG (enc:=aA) (m:=1) (t:=3) (xs:=eh G.g.ns) (v:=id) (first:=[]) (cap:=[]) rfl call186 rfl rfl rfl nz (λW hS=>n1b G.g.ns hn N G.na G.nc W cM (hG.ns.up (ak _) hS.sm)) Kz.p):P:=h ⟨k⟩
theorem Yq (k:Q) (h:ZW Q->P:=by intro Kz;exact kh underlying134 sizeOf200 zeroValue200 rfl rfl rfl rfl rfl rfl rfl Kz.p):P:=h ⟨k⟩
theorem z5c (k:Q) (h:ZW Q->P:=by intro Kz;exact nv (α:=Nat) (v:=λb:Nat=>.slice (ao b) 32 32) (Φ:=λ(W:World) (b:Nat) (w1:World)=>W.heap.size<=b/\w1.heap[b]? =some (oC (dg (mP Z c)) 33)) call147 rfl rfl rfl (λW hS=>ntc hZ c dC N W cM (hC.up (ak _) hS.sm) (hg.old hS A4 zH zD)) Kz.p):P:=h ⟨k⟩
theorem Fi (k:Q) (h:ZW Q->P:=by intro Kz;refine OX.done ?_;exact PX.next Kz.p):P:=h ⟨k⟩
theorem z7c (k:Q) (h:ZW Q->P:=by intro Kz;exact Bo (f:=f) (cap:=cap) rfl az rfl rfl rfl (λW hS=>hp j x hx W ((hS.links w A0).below J5)) Kz.p):P:=h ⟨k⟩
theorem z8c (k:Q) (h:ZW Q->P:=by intro Kz;refine rv rfl rfl rfl (fE (h:=64) underlying106 sizeOf5 rfl ⟨_,_,rfl,rfl⟩ aa) ?_;exact V4 (f:=233) (i:=1) (first:=[ptr b3 0]) (cap:=[]) rfl rfl call233 rfl rfl rfl (λW hS hW=>n7d (sx n m (j+k)) (λi=>yo n m (64*(j+k)+i)) b3 rZ o2 64 _ _ _ qw t3 (cf 128 (qS n m j N)) aa aa W hW (hS.own _ A0) (λi hi=>by rw[Nh 128 _ (64*k+i) _ (by have:=dx aa;omega) aa,nol n m j N _ aa hNN aa aa];congr 3;omega) aa (hS.old A0 hg zJ zz) aa) Kz.p):P:=h ⟨k⟩
theorem z9c (k:Q) (h:ZW Q->P:=by intro Kz;exact nv (α:=Option Addr×Nat) (v:=λq=>.agg #[.slice q.1 (aW gI.g.ns d.c.chs).length q.2]) (Φ:=λW q w1=>ai gb 2 w1.heap.size w1 q.1 (aW gI.g.ns d.c.chs)/\((d.c.chs=[]/\q=(gI.na,gI.nc))\/∀b off,q.1=some ⟨b,off,none⟩->W.heap.size<=b)) call57 rfl rfl rfl (λW hS=>ngg gI.g.ns aa d.c.chs xz.2 xz.1 W.heap.size gI.na gI.nc d.c.ca d.c.cc W (ak _) (Og.lies hS.fzLies).ns ((hC d.c ZA).chs.up cM (hS.same A2 hN zH zF))) Kz.p):P:=h ⟨k⟩
theorem zad (k:Q) (h:ZW Q->P:=by intro Kz;exact kg (r:=r) (xs:=pls) (zs:=[(⟨d.c,decide (j=0),aW gI.g.ns d.c.chs,q1,q2,d.x⟩:Pl)]) (enc:=zl) (m:=111) (H0:=[(Vt,oC (kD (⟨d.c,decide (j=0),aW gI.g.ns d.c.chs,q1,q2,d.x⟩:Pl)) 92),(gB,oC (bD gI) 53),(b9,oC (cG d.c) 61),(b4,oC (sT fo) 97)]) (H1:=[]) zW nYl Zy rfl rfl rfl rfl (cd.one (z:=(⟨d.c,decide (j=0),aW gI.g.ns d.c.chs,q1,q2,d.x⟩:Pl)) Zy njj underlying89 (bB.own (i:=0) rfl)) ah aK zI Au Kz.p):P:=h ⟨k⟩
theorem zbd (k:Q) (h:ZW Q->P:=by intro Kz;exact nv (α:=(Option Addr×Nat)×List Se) (v:=(λq:(Option Addr×Nat)×List Se=>.slice q.1.1 q.2.length q.1.2)) (Φ:=λW q w1=>ai dh 35 w1.heap.size w1 q.1.1 q.2/\lk (r.D Z) (r.fs Z dv) 71000 q.2/\q.2.length<=q.1.2) call26 rfl rfl rfl (λW hS=>n0f hZ r hr W.heap.size W (ak _) (hrA.up cM hS.sm) (hg.old hS A3 zH trivial) a0 a1 (hse.old hS A3) af (r.fs Z dv) cf aa (zq.up (hS.links wf A0).size (hS.same A0 (ak _) zH trivial))) Kz.p):P:=h ⟨k⟩
theorem zcd (k:Q) (h:ZW Q->P:=by intro Kz;refine B 3 ?_;refine rv rfl rfl rfl (iU 8 256 zA rfl rfl rfl) ?_;refine B 13 ?_;exact rv rfl rfl rfl (vg underlying233 underlying5 rfl aa aa) Kz.p):P:=h ⟨k⟩
theorem RU (k:Q) (h:ZW Q->P:=by intro Kz;exact qT underlying38 sizeOf35 zeroValue35 rfl rfl rfl rfl rfl rfl rfl Kz.p):P:=h ⟨k⟩
theorem zed (k:Q) (h:ZW Q->P:=by intro Kz;exact rv rfl rfl rfl (av (v:=.iface 472 (.pointer (some a0))) isAgg173 rfl A4 hg0 zJ zz rfl) Kz.p):P:=h ⟨k⟩
theorem zfd (k:Q) (h:ZW Q->P:=by intro Kz;exact UI (enc:=gS) (m:=2) (t:=240) (xs:=(bY T c.author c.path)) (v:=λs=>.tuple #[.agg #[s],ab e]) (first:=[]) (cap:=[]) rfl call154 rfl rfl rfl (λW hS=>by rw[<-hre];exact nng T aa W.heap.size ta tc W (ak _) (se.to hS A0 (ak _) (λb off e=>by rcases gY b off e with h|h|h;(exact .inl h);(exact .inr zz);(exact .inr zz))) c.author sE c.path mG aa N c.pa c.pc (hC.path.up (ak _) hS.sm) cM iH aa) Kz.p):P:=h ⟨k⟩
theorem AG (k:Q) (h:ZW Q->P:=by intro Kz;refine CX.seq ?_;exact CX.region Kz.p):P:=h ⟨k⟩
theorem O6 (k:Q) (h:ZW Q->P:=by intro Kz;exact rv rfl rfl rfl (Aa rfl rfl aa aa) Kz.p):P:=h ⟨k⟩
theorem zid (k:Q) (h:ZW Q->P:=by intro Kz;refine DJ.one (n:=27) rfl zN ?_;exact nG (enc:=cD) (m:=32) (t:=33) (xs:=IT x) (v:=id) (first:=[]) (cap:=[]) rfl call73 rfl rfl rfl nX (λW hS=>nxe x hx.few N W cM (hA.up (ak _) hS.sm)) Kz.p):P:=h ⟨k⟩
theorem zjd (k:Q) (h:ZW Q->P:=by intro Kz;exact CJ.lp (α:=Nat×Nat) [2,8,9,10,17,14,15] (λp=>[(18,.int .u64 (p.1:Int)),(16,.int .u64 (p.2:Int))]) (λp=>[]) (λp=>tu r1 y1 y0 v0 p.1 p.2) (λp=>p.1) (r1/y1,r1%y1) d2 Kz.p):P:=h ⟨k⟩
theorem zkd (k:Q) (h:ZW Q->P:=by intro Kz;exact nv (α:=Gv) (v:=λXn=>.tuple #[.agg (bD Xn),ab e]) (Φ:=λW Xn w1=>Xn.g=xA Z (g0 fo) c/\bS w1.heap.size w1 Xn/\(∀q,Xn.ma=some q->W.heap.size<=q.block)/\(∀q,Xn.na=some q->W.heap.size<=q.block)) call83 rfl rfl rfl (λW hS=>by rw[<-he];exact nkd hZ (Zd fo) c (dC c CG) N W cM (Rq fo N W) ((hC c CG).up (ak _) hS.sm) (hg.old hS A2 zH zD)) Kz.p):P:=h ⟨k⟩
theorem zld (k:Q) (h:ZW Q->P:=by intro Kz;exact nv (α:=Option Addr×Nat) (v:=λq=>.agg #[.slice q.1 T.length q.2]) (Φ:=λW q w1=>ai gb 2 w1.heap.size w1 q.1 T/\∀b off,q.1=some ⟨b,off,none⟩->T=[]\/b<N\/W.heap.size<=b) call140 rfl rfl rfl (λW hS=>by rw[<-hT];exact nwc G N W cM (hG.up (ak _) hS.sm) c.chs aa c.ca c.cc (hC.chs.up (ak _) hS.sm) Aq qB) Kz.p):P:=h ⟨k⟩
theorem zmd (k:Q) (h:ZW Q->P:=by intro Kz;exact call call111 rfl rfl rfl (λW hS=>by rw[<-gY];exact nKb ns hn N a cp W cM (aJ.up (ak _) hS.sm)) (v:=ab 0) Kz.p):P:=h ⟨k⟩
theorem znd (k:Q) (h:ZW Q->P:=by intro Kz;exact nti (ev:=ab) (kv:=dP ns) (v:=id) call67 rfl rfl rfl (λW hS=>nbe ns hn N a cp W cM (aJ.up (ak _) hS.sm)) Kz.p):P:=h ⟨k⟩
theorem zod (k:Q) (h:ZW Q->P:=by intro Kz;refine PJ.dj ?_;refine DJ.one (n:=28) rfl zN ?_;exact call (v:=.bool true) call72 rfl rfl rfl (λW hS=>by have h9:=nef (IT x) (by have:=hx.few;unfold IT;rw[eQ];omega) W.heap.size a7 CA W (ak _) (jJ.up (hS.links wk7 A0).size (hS.same A0 (ak _) zH trivial));rw[show Gm (IT x)=true by simpa using k4]at h9;exact h9) Kz.p):P:=h ⟨k⟩
theorem zpd (k:Q) (h:ZW Q->P:=by intro Kz;exact n1i (i:=0) (γ:=Mp) (v:=λ_=>.tuple #[]) (ob:=λm=>m.obj ab (jq (((dK d).take i).foldl ki (ki (dP ns) (512+d))) n)) (Φ:=λm=>m.Ok (jq (((dK d).take i).foldl ki (ki (dP ns) (512+d))) n)) (first:=[.map (some bf)]) (cap:=[]) rfl rfl call113 rfl rfl rfl (λW hS hW=>nUd bf mi yI n W hW) Kz.p):P:=h ⟨k⟩
theorem zqd (k:Q) (h:ZW Q->P:=by intro Kz;exact call call75 rfl rfl rfl (λW hS=>by have h9:=nRc hZ (kP G.g c.author c.chs) c.sr c.ss (cx (mP Z c)) bm 0 32 (by rw[nR];decide) W (bZ.dg (hS.old A0 oB zJ zz) (hZ.byt _ _)) (hg.old hS A5 zH zD);rw[nR,show oT Z (kP G.g c.author c.chs) (cx (mP Z c)) c.sr c.ss=true from IE]at h9;exact h9) (v:=.bool true) Kz.p):P:=h ⟨k⟩
theorem zrd (k:Q) (h:ZW Q->P:=by intro Kz;exact CJ.lp (α:=Mp×Nat) [6,7,12,53,54] (λp=>[(55,ab (p.2:Int))]) (λp=>[(bf,p.1.obj ab (((dK d).take p.2).foldl ki (ki (dP ns) (512+d))))]) (λp=>p.2<=(dK d).length/\p.1.Ok (((dK d).take p.2).foldl ki (ki (dP ns) (512+d)))) (λp=>(dK d).length-p.2) (m1,0) ⟨cR _,cF⟩ Kz.p):P:=h ⟨k⟩
theorem zsd (k:Q) (h:ZW Q->P:=by intro Kz;exact Bo (f:=f) (cap:=cap) rfl az rfl rfl rfl (λW hS=>hp j x hx W ((hS.links w A0).mono (λk _ hk=>by rcases hk with hk|hk;(exact hk);(simp only[dy,eV,dm,dX,bX,dE,or_false]at hk;first|exact hk|(rcases hk with hk|hk;(exfalso;omega);exact hk)))) (by have:=hS.lt (b,_) A1;exact this)) Kz.p):P:=h ⟨k⟩
theorem ztd (k:Q) (h:ZW Q->P:=by intro Kz;exact nG (enc:=aA) (m:=1) (t:=3) (xs:=dK d) (v:=λs=>.tuple #[s,ab 0]) (first:=[]) (cap:=[]) rfl call112 rfl rfl rfl nz (λW hS=>nEf d hd W) Kz.p):P:=h ⟨k⟩
theorem zud (k:Q) (h:ZW Q->P:=by intro Kz;exact CJ.loop (α:=Nat) (λi=>[(2,ptr b2 0),(53,.agg (sx n m (gU n)).cells),(54,ab (i:Int))]) (λi=>[(rZ,oC (cf 128 (qS n m j N)) 5),(b3,oC (sx n m (gU n)).cells 374),(b2,oC (kJ (sx n m (gU n)) i) 33)]) (λi=>[w]) (λi=>Gh.no) (λi=>i<=8) (λi=>8-i) 0 zA zR rfl rfl zI Kz.p):P:=h ⟨k⟩
theorem zvd (k:Q) (h:ZW Q->P:=by intro Kz;exact CJ.lp (α:=Nat) [0,1,2,3,8] (λj=>[]) (λj=>[]) (λj=>True) (λj=>0) 0 True.intro Kz.p):P:=h ⟨k⟩
theorem zwd (k:Q) (h:ZW Q->P:=by intro Kz;exact CJ.lp (α:=Nat) [0,1,2,3,4] (λj=>[]) (λj=>[]) (λj=>True) (λj=>0) 0 True.intro Kz.p):P:=h ⟨k⟩
theorem zxd (k:Q) (h:ZW Q->P:=by intro Kz;refine rq (.int .u64 ((8*n:Nat):Int)) (Aa rfl rfl aa aa) (vu aa) ?_;exact V4 (f:=234) (i:=0) (first:=[]) (cap:=[]) rfl rfl call234 rfl rfl rfl (λW hS hW=>nae (8*n) rZ _ 8 _ _ _ aa (by rw[n4d,Dg];omega) W hW) Kz.p):P:=h ⟨k⟩
theorem zyd (k:Q) (h:ZW Q->P:=by intro Kz;exact cC (.inl rfl) results149 aX A1 zB Kz.p):P:=h ⟨k⟩
theorem zzd (k:Q) (h:ZW Q->P:=by intro Kz;exact rq (.int .u64 ((r1%y1:Nat):Int)) (tY rfl rfl aa aa) (vu (nvh _ _ _ _ d2.eq)) Kz.p):P:=h ⟨k⟩
theorem zAd (k:Q) (h:ZW Q->P:=by intro Kz;refine rv rfl rfl rfl (dc underlying89 sizeOf92 (congrArg (λq=>some (Value.slice q pls.length xK)) Vz) rfl aa aa) ?_;exact rq (.agg (kD p)) (rC isAgg92 sizeOf92 rfl Cg (dH hcp hp rfl)) (va (eU hcp hp rfl)) Kz.p):P:=h ⟨k⟩
theorem zBd (k:Q) (h:ZW Q->P:=by intro Kz;exact rq (.slice (some ⟨b2,4*i,none⟩) 4 (32-4*i)) (Df (l:=4*i) (h:=4*i+4) (off':=4*i) underlying33 sizeOf5 rfl ⟨_,_,rfl,by omega⟩ ⟨_,_,rfl,by omega⟩ aa aa zwc) (by rw[show 4*i+4-4*i=4 by omega]) Kz.p):P:=h ⟨k⟩
theorem VT (k:Q) (h:ZW Q->P:=by intro Kz;exact rv rfl rfl rfl (HI rfl rfl aa aa) Kz.p):P:=h ⟨k⟩
theorem zEd (k:Q) (h:ZW Q->P:=by intro Kz;exact rq (.int .u64 ((r1/y1:Nat):Int)) (xU rfl rfl aa aa aa) (vu (nne r1 y1)) Kz.p):P:=h ⟨k⟩
theorem zFd (k:Q) (h:ZW Q->P:=by intro Kz;exact n1i (i:=0) (γ:=Mp) (v:=λ_=>.tuple #[]) (ob:=λm=>m.obj ab (jq (dP ns) (512+d))) (Φ:=λm=>m.Ok (jq (dP ns) (512+d))) (first:=[.map (some bf)]) (cap:=[]) rfl rfl call113 rfl rfl rfl (λW hS hW=>nUd bf m hm (512+d) W hW) Kz.p):P:=h ⟨k⟩
theorem zGd (k:Q) (h:ZW Q->P:=by intro Kz;exact nv (α:=Nat) (v:=λb:Nat=>.slice (ao b) 11 11) (Φ:=λ(W:World) (b:Nat) (w1:World)=>W.heap.size<=b/\eX w1.heap.size w1 (.list (mM c)) (vL (ao b) 11 11)) call45 rfl rfl rfl (λW hS=>n4c c dC.few N W cM (hC.up (ak _) hS.sm)) Kz.p):P:=h ⟨k⟩
theorem Uc (k:Q) (h:ZW Q->P:=by intro Kz;exact rv rfl rfl rfl (iU 32 4294967296 zA rfl rfl rfl) Kz.p):P:=h ⟨k⟩
theorem zId (k:Q) (h:ZW Q->P:=by intro Kz;refine PJ.reH (H':=[(rZ,oC (cf 128 (qS n m j N)) 5),(b3,oC (sx n m (gU n)).cells 374),(b2,oC (kJ (sx n m (gU n)) 8) 33)]) rfl ?_;exact cC (.inl rfl) results164 (RS.wA (i:=2) rfl isAgg33 sizeOf33 rfl (by rw[kJ,Dg];omega) RS.n) A0 zP Kz.p):P:=h ⟨k⟩
theorem zJd (k:Q) (h:ZW Q->P:=by intro Kz;refine ay (.agg (dg p.x.g.last)) ?_;exact call call97 rfl rfl rfl (λW hS=>Zp _ W) Kz.p):P:=h ⟨k⟩
theorem zKd (k:Q) (h:ZW Q->P:=by intro Kz;exact cC (.inl rfl) results111 aX A2 zB Kz.p):P:=h ⟨k⟩
theorem zLd (k:Q) (h:ZW Q->P:=by intro Kz;exact call call65 rfl rfl rfl (λW hS=>by rw[<-he];exact nO _ W) (v:=ab e) Kz.p):P:=h ⟨k⟩
theorem zMd (k:Q) (h:ZW Q->P:=by intro Kz;exact nai (ev:=ab) (kv:=oZ (dP ns) d) (enc:=aA) (n:=1) (ds:=dK d) (v:=λmp s=>.tuple #[mp,s,ab 0]) call64 rfl rfl rfl (λW hS=>n1e ns hn N a cp W cM (aJ.up (ak _) hS.sm) gY d hd false (λh=>by cases h)) Kz.p):P:=h ⟨k⟩
theorem zNd (k:Q) (h:ZW Q->P:=by intro Kz;exact nai (ev:=ab) (kv:=oZ (dP ns) d) (enc:=aA) (n:=1) (ds:=dK d) (v:=λmp s=>.tuple #[mp,s,ab 0]) call64 rfl rfl rfl (λW hS=>n1e ns hn N a cp W cM (aJ.up (ak _) hS.sm) gY d hd true (λ_=>ko)) Kz.p):P:=h ⟨k⟩
theorem zOd (k:Q) (h:ZW Q->P:=by intro Kz;exact nG (enc:=dM) (m:=35) (t:=35) (xs:=(r.fs Z dv)) (v:=id) (first:=[]) (cap:=[]) rfl call11 rfl rfl rfl nu (λW hS=>nNe hZ r hr N W cM (hrA.up (ak _) hS.sm) (hg.old hS A2 zH trivial) dv) Kz.p):P:=h ⟨k⟩
theorem zPd (k:Q) (h:ZW Q->P:=by intro Kz;exact rq (.int .u64 (r1:Int)) (vh rfl rfl) (vu zib) Kz.p):P:=h ⟨k⟩
theorem N5 (k:Q) (h:ZW Q->P:=by intro Kz;exact pN hT rfl rfl rfl (sR rfl) Kz.p):P:=h ⟨k⟩
theorem zRd (k:Q) (h:ZW Q->P:=by intro Kz;exact kh underlying72 sizeOf33 zeroValue33 rfl rfl rfl rfl rfl rfl rfl Kz.p):P:=h ⟨k⟩
theorem zSd (k:Q) (h:ZW Q->P:=by intro Kz;refine rq (ptr b4 j) (uj underlying426 sizeOf303 rfl rfl aa aa) (congrArg (ptr b4) aa) ?_;exact kY (i:=0) rfl sizeOf303 rfl rfl rfl rfl (by rw[Dg];omega) rfl Kz.p):P:=h ⟨k⟩
theorem zTd (k:Q) (h:ZW Q->P:=by intro Kz;exact rv rfl rfl rfl (av (v:=ab n) isAgg3 rfl A0 yJ zJ zz zHc) Kz.p):P:=h ⟨k⟩
theorem zUd (k:Q) (h:ZW Q->P:=by intro Kz;exact V4 (f:=234) (i:=2) (first:=[]) (cap:=[]) rfl rfl call234 rfl rfl rfl (λW hS hW=>nae (S8.at (sx n m (gU n)) i).toNat b2 (4*i) _ _ _ _ aa (by rw[kJ,Dg];omega) W hW) Kz.p):P:=h ⟨k⟩
theorem zVd (k:Q) (h:ZW Q->P:=by intro Kz;exact rq (.bool ((bU (yH (eh ns)) x.at_).getD false)) (mF (ev:=Value.bool) underlying307 underlying3 zeroValue4 hm (bB.own (i:=1) rfl) rfl rfl) (nXj _) Kz.p):P:=h ⟨k⟩
theorem zWd (k:Q) (h:ZW Q->P:=by intro Kz;exact call call87 rfl rfl rfl (λW hS=>by rw[<-kO];exact nth hZ s hs0 (V.list l).enc aa gB 0 Ik yx.le W (bZ.row (hS.own _ A0)) (hg.old hS A0 zH zD)) (v:=.agg (dg df)) Kz.p):P:=h ⟨k⟩
theorem zXd (k:Q) (h:ZW Q->P:=by intro Kz;exact cC (.inl rfl) results227 aX A1 zB Kz.p):P:=h ⟨k⟩
theorem zYd (k:Q) (h:ZW Q->P:=by intro Kz;exact pN hT rfl rfl rfl (tD rfl) Kz.p):P:=h ⟨k⟩
theorem zZd (k:Q) (h:ZW Q->P:=by intro Kz;exact call call221 rfl rfl rfl (λW hS=>nSe (UR G.g.epoch) 218 [ptr b1 0] call218 G.g.ms vm N G.ma G.mc W cM (hG.ms.up (ak _) hS.sm) (λj x hx W2 hB=>nyn G b1 x W2 zvc)) Kz.p):P:=h ⟨k⟩
theorem z0d (k:Q) (h:ZW Q->P:=by intro Kz;exact PJ.reH (H':=[(rZ,oC (cf 128 (qS n m j N)) 5),(b3,oC (sx n m (gU n)).cells 374),(b2,oC (kJ (sx n m (gU n)) (i+1)) 33)]) (by rw[<-nzk _ i aa];rfl) Kz.p):P:=h ⟨k⟩
theorem z1d (k:Q) (h:ZW Q->P:=by intro Kz;exact call call196 rfl rfl rfl (λW hS=>nJc l hxl N a cp W cM (aJ.up (ak _) hS.sm)) Kz.p):P:=h ⟨k⟩
theorem z2d (k:Q) (h:ZW Q->P:=by intro Kz;refine ay (.agg (dg G.g.last)) ?_;exact rq bN (eF xn zA nM rfl rfl rfl) (congrArg (λb=>Value.bool (!b)) (by simpa using k2)) Kz.p):P:=h ⟨k⟩
theorem z3d (k:Q) (h:ZW Q->P:=by intro Kz;refine rv rfl rfl rfl (dW (i:=2) rfl isAgg33 sizeOf33 rfl (by rw[kJ,Dg])) ?_;exact ie (i:=2) rfl sizeOf33 rfl rfl rfl zoc (by rw[kJ,Dg]) rfl Kz.p):P:=h ⟨k⟩
theorem z4d (k:Q) (h:ZW Q->P:=by intro Kz;exact CJ.lp (α:=Nat) [0,1] (λj=>[(5,ab (j:Int))]) (λj=>[]) (λj=>j<=xs.length/\zh xs ys j) (λj=>xs.length-j) 0 ⟨cR _,rfl⟩ Kz.p):P:=h ⟨k⟩
theorem z5d (k:Q) (h:ZW Q->P:=by intro Kz;exact n3j (ys:=(V.list l).enc) call85 rfl rfl rfl (λW hS=>nue l dO hd iX N (ao bl) lc W (dR hN (hS.links _ A0).size) (eX.up (ak _) hS.sm _ _ xk)) Kz.p):P:=h ⟨k⟩
theorem z6d (k:Q) (h:ZW Q->P:=by intro Kz;exact call call106 rfl rfl rfl (λW hS=>n9f 0 zA zA W) Kz.p):P:=h ⟨k⟩
theorem z7d (k:Q) (h:ZW Q->P:=by intro Kz;exact rq (.agg (v7 x)) (dT isAgg114 sizeOf114 rfl A1 cJ AJ z1 (dH aV hx rfl)) (va (eU aV hx rfl)) Kz.p):P:=h ⟨k⟩
theorem z8d (k:Q) (h:ZW Q->P:=by intro Kz;exact call call86 rfl rfl rfl (λW hS=>Yo _ _ _ W) Kz.p):P:=h ⟨k⟩
theorem z9d (k:Q) (h:ZW Q->P:=by intro Kz;exact UI (enc:=gS) (m:=2) (t:=240) (xs:=[]) (v:=λs=>.agg #[s]) (first:=[]) (cap:=[]) rfl call66 rfl rfl rfl (λW hS=>nff W) Kz.p):P:=h ⟨k⟩
theorem zae (k:Q) (h:ZW Q->P:=by intro Kz;exact cC (.inl rfl) results197 aX A2 zB Kz.p):P:=h ⟨k⟩
theorem zbe (k:Q) (h:ZW Q->P:=by intro Kz;exact rv rfl rfl rfl (QO underlying106 underlying5 underlying9 rfl A0 hb (λb di=>⟨λh=>h,by simp only[bA,and_true];omega⟩)) Kz.p):P:=h ⟨k⟩
theorem zce (k:Q) (h:ZW Q->P:=by intro Kz;refine aF results65 rfl A0 ?_;exact congrArg ab Kz.p):P:=h ⟨k⟩
theorem zde (k:Q) (h:ZW Q->P:=by intro Kz;exact call call31 rfl rfl rfl (λW hS=>Zo _ _ W) Kz.p):P:=h ⟨k⟩
theorem zee (k:Q) (h:ZW Q->P:=by intro Kz;exact call call254 rfl rfl rfl (λW hS=>nbg _ _ _ aa aa aa aa aa W) Kz.p):P:=h ⟨k⟩
theorem zfe (k:Q) (h:ZW Q->P:=by intro Kz;exact call (v:=.bool true) call7 rfl rfl rfl (λW hS=>n8k hZ W (hg.old hS A1 zH trivial) (B6.old hS A1 zJ trivial) a0 a1 (hse.old hS A1)) Kz.p):P:=h ⟨k⟩
theorem zge (k:Q) (h:ZW Q->P:=by intro Kz;exact kh underlying138 sizeOf142 zeroValue142 rfl rfl rfl rfl rfl rfl rfl Kz.p):P:=h ⟨k⟩
theorem zhe (k:Q) (h:ZW Q->P:=by intro Kz;exact qT underlying134 sizeOf200 zeroValue200 rfl rfl rfl rfl rfl rfl rfl Kz.p):P:=h ⟨k⟩
theorem zie (k:Q) (h:ZW Q->P:=by intro Kz;refine call call148 rfl rfl rfl (λW hS=>by rw[<-hv];exact nQ G N W cM (hG.up (ak _) hS.sm)) (v:=.bool false) ?_;exact ay cY Kz.p):P:=h ⟨k⟩
theorem zje (k:Q) (h:ZW Q->P:=by intro Kz;exact call call29 rfl rfl rfl (λW hS=>nve _ W) Kz.p):P:=h ⟨k⟩
theorem zke (k:Q) (h:ZW Q->P:=by intro Kz;exact rv rfl rfl rfl (fF (h:=32) underlying33 sizeOf5 rfl rfl aa) Kz.p):P:=h ⟨k⟩
theorem zle (k:Q) (h:ZW Q->P:=by intro Kz;exact kh underlying89 sizeOf92 zeroValue92 rfl rfl rfl rfl rfl rfl rfl Kz.p):P:=h ⟨k⟩
theorem zme (k:Q) (h:ZW Q->P:=by intro Kz;exact kh underlying75 sizeOf53 zeroValue53 rfl rfl rfl rfl rfl rfl rfl Kz.p):P:=h ⟨k⟩
theorem zne (k:Q) (h:ZW Q->P:=by intro Kz;refine CX.ret ?_;refine PX.retBlock ?_;refine PX.retThen ?_;refine PX.retThen ?_;refine PX.retBlock ?_;exact PX.retThen Kz.p):P:=h ⟨k⟩
theorem zoe (k:Q) (h:ZW Q->P:=by intro Kz;exact ie (i:=1) rfl sizeOf51 rfl rfl rfl rfl rfl (Rw.val_one2 _ _) Kz.p):P:=h ⟨k⟩
theorem zpe (k:Q) (h:ZW Q->P:=by intro Kz;exact ie (i:=0) rfl sizeOf51 rfl rfl rfl rfl rfl (Rw.val_one2 _ _) Kz.p):P:=h ⟨k⟩
theorem zqe (k:Q) (h:ZW Q->P:=by intro Kz;exact rv rfl rfl rfl (qM 32 4294967296 zA rfl rfl rfl rfl aa aa) Kz.p):P:=h ⟨k⟩
theorem zre (k:Q) (h:ZW Q->P:=by intro Kz;exact nB (dt hM (λ_=>False) (hI [] _)) [] (vs:=[_,_]) func193 rfl ntmps193 rfl (Na hM (hI [] _) h0 zI (by simp[lq]) zI) Kz.p):P:=h ⟨k⟩
theorem U0 (k:Q) (h:ZW Q->P:=by intro Kz;exact PJ.dropAt (i:=0) rfl uJ Kz.p):P:=h ⟨k⟩
theorem zte (k:Q) (h:ZW Q->P:=by intro Kz;exact ay (.agg #[.slice fa fos.length fc,o1,.slice la cs.length lc,.slice ga gs.length gc,.slice ia xs.length ic,o5,o6,o7]) Kz.p):P:=h ⟨k⟩
theorem zue (k:Q) (h:ZW Q->P:=by intro Kz;exact call call111 rfl rfl rfl (λW hS=>by rw[<-gY];exact nKb ns hn N a cp W cM (aJ.up (ak _) hS.sm)) (v:=ab 210) Kz.p):P:=h ⟨k⟩
theorem Wt (k:Q) (h:ZW Q->P:=by intro Kz;exact rv rfl rfl rfl (T5 rfl rfl) Kz.p):P:=h ⟨k⟩
theorem zwe (k:Q) (h:ZW Q->P:=by intro Kz;exact rv rfl rfl rfl (Aa rfl rfl aa zxc) Kz.p):P:=h ⟨k⟩
theorem zxe (k:Q) (h:ZW Q->P:=by intro Kz;exact CJ.reH (H':=[(uZ,aP dM 35 [np (dk p.x.g.last) 9] []),(b3,oC (dg p.x.g.last) 33),(b2,oC #[yv l] 145)]) zTb Kz.p):P:=h ⟨k⟩
theorem zye (k:Q) (h:ZW Q->P:=by intro Kz;exact rv rfl rfl rfl (fZ (l:=64) (h:=N-64*k) underlying106 sizeOf5 rfl ⟨_,_,rfl,rfl⟩ rfl aa aa rfl) Kz.p):P:=h ⟨k⟩
theorem zze (k:Q) (h:ZW Q->P:=by intro Kz;exact kY (i:=1) rfl sizeOf285 rfl rfl rfl rfl (ea rfl) rfl Kz.p):P:=h ⟨k⟩
theorem zAe (k:Q) (h:ZW Q->P:=by intro Kz;exact kY (i:=1) rfl sizeOf106 rfl rfl rfl rfl (ea rfl) rfl Kz.p):P:=h ⟨k⟩
theorem zBe (k:Q) (h:ZW Q->P:=by intro Kz;exact kY (i:=0) rfl sizeOf348 rfl rfl rfl rfl (ea rfl) rfl Kz.p):P:=h ⟨k⟩
theorem zCe (k:Q) (h:ZW Q->P:=by intro Kz;exact call call197 rfl rfl rfl (λW hS=>nMe G N W cM (hG.up (ak _) hS.sm) l hxl a cp (aJ.up (ak _) hS.sm) au) Kz.p):P:=h ⟨k⟩
theorem zDe (k:Q) (h:ZW Q->P:=by intro Kz;exact rv rfl rfl rfl (qz (ev:=ab) underlying165 underlying3 zeroValue3 hm (bB.own (i:=0) rfl) rfl rfl) Kz.p):P:=h ⟨k⟩
theorem zEe (k:Q) (h:ZW Q->P:=by intro Kz;exact rr (.slice r.oa r.os.length r.oc) (av isAgg23 rfl A6 cZ cu trivial rfl) Kz.p):P:=h ⟨k⟩
theorem zFe (k:Q) (h:ZW Q->P:=by intro Kz;exact rr (.slice r.la r.cs.length r.lc) (av isAgg24 rfl A6 cZ cu trivial rfl) Kz.p):P:=h ⟨k⟩
theorem zGe (k:Q) (h:ZW Q->P:=by intro Kz;exact kY (i:=0) rfl sizeOf3 rfl rfl rfl rfl (ea rfl) rfl Kz.p):P:=h ⟨k⟩
theorem zHe (k:Q) (h:ZW Q->P:=by intro Kz;exact call call180 rfl rfl rfl (λW hS=>nKf _ aa aa W) Kz.p):P:=h ⟨k⟩
theorem zIe (k:Q) (h:ZW Q->P:=by intro Kz;exact cC (.inl rfl) results196 aX A0 zB Kz.p):P:=h ⟨k⟩
theorem zJe (k:Q) (h:ZW Q->P:=by intro Kz;exact call (v:=.tuple #[ab pv,ab 0]) call79 rfl rfl rfl (λW hS=>by rw[<-hpv];exact n2g hZ zA W) Kz.p):P:=h ⟨k⟩
theorem zKe (k:Q) (h:ZW Q->P:=by intro Kz;refine ay (.agg (wrA x.w)) ?_;exact call call71 rfl rfl rfl (λW hS=>nke x.w W) (v:=ab (yR x.w)) Kz.p):P:=h ⟨k⟩
theorem zLe (k:Q) (h:ZW Q->P:=by intro Kz;refine ay (.agg (kD (⟨d.c,decide (j=0),aW gI.g.ns d.c.chs,q1,q2,d.x⟩:Pl))) ?_;exact zG Kz.p):P:=h ⟨k⟩
theorem zMe (k:Q) (h:ZW Q->P:=by intro Kz;refine CX.condF rfl ?_;refine CX.exit ?_;refine PX.exThen ?_;refine PX.exThen ?_;exact PX.exHit Kz.p):P:=h ⟨k⟩
theorem zNe (k:Q) (h:ZW Q->P:=by intro Kz;exact rv rfl rfl rfl (uh underlying374 isAgg303 sizeOf303 rfl rfl aa aa (S8.cells_ld _ i _ aa aa)) Kz.p):P:=h ⟨k⟩
theorem zOe (k:Q) (h:ZW Q->P:=by intro Kz;exact pN hT rfl rfl rfl (RV.re (v':=bN) (tR rfl rfl) (vb (decide_eq_false aa))) Kz.p):P:=h ⟨k⟩
theorem zPe (k:Q) (h:ZW Q->P:=by intro Kz;exact pN hT rfl rfl rfl (RV.re (v':=cY) (tR rfl rfl) (vb (decide_eq_true aa))) Kz.p):P:=h ⟨k⟩
theorem zQe (k:Q) (h:ZW Q->P:=by intro Kz;exact call call64 rfl rfl rfl (λW hS=>nyk ns hn N a cp W cM (aJ.up (ak _) hS.sm) gY d hd qA) Kz.p):P:=h ⟨k⟩
theorem zRe (k:Q) (h:ZW Q->P:=by intro Kz;exact call call194 rfl rfl rfl (λW hS=>n5d [a,b] _ _ _ _ _ rfl zI W (hS.old A0 hb8 hm8 trivial)) Kz.p):P:=h ⟨k⟩
theorem zSe (k:Q) (h:ZW Q->P:=by intro Kz;refine PJ.dj ?_;refine DJ.one (n:=29) rfl zN ?_;refine B 2 ?_;refine PJ.dj ?_;refine DJ.one (n:=30) rfl zN ?_;refine B 2 ?_;refine PJ.dj ?_;refine DJ.one (n:=31) rfl zN ?_;refine B 2 ?_;exact PJ.dj Kz.p):P:=h ⟨k⟩
theorem Yi (k:Q) (h:ZW Q->P:=by intro Kz;refine B 6 ?_;refine ay (.agg (bD G)) ?_;refine call call148 rfl rfl rfl (λW hS=>by rw[<-hv];exact nQ G N W cM (hG.up (ak _) hS.sm)) (v:=.bool true) ?_;exact ay bN Kz.p):P:=h ⟨k⟩
theorem BV (k:Q) (h:ZW Q->P:=by intro Kz;refine p5 ?_;exact p5 Kz.p):P:=h ⟨k⟩
theorem zVe (k:Q) (h:ZW Q->P:=by intro Kz;refine rv rfl rfl rfl (kG rfl rfl) ?_;refine zPd ?_;refine B 7 ?_;refine zEd ?_;refine B 8 ?_;refine O6 ?_;refine zzd ?_;refine B 5 ?_;exact zjd Kz.p):P:=h ⟨k⟩
theorem KH (k:Q) (h:ZW Q->P:=by intro Kz;refine ay cY ?_;exact B 11 Kz.p):P:=h ⟨k⟩
theorem zXe (k:Q) (h:ZW Q->P:=by intro Kz;refine B 1 ?_;refine nec rfl ?_;exact B 4 Kz.p):P:=h ⟨k⟩
theorem KK (k:Q) (h:ZW Q->P:=by intro Kz;refine eN func83 ntmps83 ?_;exact B 3 Kz.p):P:=h ⟨k⟩
theorem zZe (k:Q) (h:ZW Q->P:=by intro Kz;exact rv rfl rfl rfl (vg underlying233 underlying5 rfl aa aa) Kz.p):P:=h ⟨k⟩
theorem z0e (k:Q) (h:ZW Q->P:=by intro Kz;refine DJ.done ?_;refine B 9 ?_;exact aF results39 rfl A4 Kz.p):P:=h ⟨k⟩
theorem z1e (k:Q) (h:ZW Q->P:=by intro Kz;refine zPe ?_;refine Fi ?_;refine CX.seq ?_;refine CX.condT rfl ?_;refine CX.skip ?_;refine PX.next ?_;refine CX.seq ?_;refine CX.block ?_;exact AG Kz.p):P:=h ⟨k⟩
theorem z2e (k:Q) (h:ZW Q->P:=by intro Kz;refine ay (.agg (cG c)) ?_;exact call call149 rfl rfl rfl (λW hS=>by rw[<-jS];exact ntb c dC.few N W cM (hC.up (ak _) hS.sm)) (v:=ab 0) Kz.p):P:=h ⟨k⟩
theorem Vv (k:Q) (h:ZW Q->P:=by intro Kz;exact ay (.agg (dg p.x.g.last)) Kz.p):P:=h ⟨k⟩
theorem z4e (k:Q) (h:ZW Q->P:=by intro Kz;refine zed ?_;refine call (v:=.bool true) call69 rfl rfl rfl (λW hS=>Sj (nsn a0 W)) ?_;exact B 10 Kz.p):P:=h ⟨k⟩
theorem AK (k:Q) (h:ZW Q->P:=by intro Kz;refine B 2 ?_;exact PJ.dj Kz.p):P:=h ⟨k⟩
theorem z6e (k:Q) (h:ZW Q->P:=by intro Kz;refine B 8 ?_;refine ay bN ?_;refine B 3 ?_;refine ay bN ?_;refine B 18 ?_;refine KH ?_;exact zXd Kz.p):P:=h ⟨k⟩
theorem xr (k:Q) (h:ZW Q->P:=by intro Kz;refine B 7 ?_;exact p5 Kz.p):P:=h ⟨k⟩
theorem NC (k:Q) (h:ZW Q->P:=by intro Kz;refine B 5 ?_;refine Kd ?_;exact B 1 Kz.p):P:=h ⟨k⟩
theorem M4 (k:Q) (h:ZW Q->P:=by intro Kz;refine B 6 ?_;exact aF results180 rfl A0 Kz.p):P:=h ⟨k⟩
theorem PA (k:Q) (h:ZW Q->P:=by intro Kz;refine B 13 ?_;exact ay cY Kz.p):P:=h ⟨k⟩
theorem zbf (k:Q) (h:ZW Q->P:=by intro Kz;refine Fi ?_;refine CX.condF rfl ?_;refine CX.skip ?_;refine PX.norBlock ?_;refine PX.next ?_;exact CX.region Kz.p):P:=h ⟨k⟩
theorem zcf (k:Q) (h:ZW Q->P:=by intro Kz;refine Yi ?_;refine B 9 ?_;refine z1d ?_;exact rq bN (gq rfl) (by rw[hf];rfl) Kz.p):P:=h ⟨k⟩
theorem zdf (k:Q) (h:ZW Q->P:=by intro Kz;refine call call253 rfl rfl rfl (λW hS=>nxi _ _ aa aa aa aa W) ?_;refine B 11 ?_;exact zee Kz.p):P:=h ⟨k⟩
theorem zef (k:Q) (h:ZW Q->P:=by intro Kz;refine B 1 ?_;refine PJ.dj ?_;refine DJ.one (n:=8) rfl zN ?_;refine AK ?_;refine DJ.one (n:=9) rfl zN ?_;exact AK Kz.p):P:=h ⟨k⟩
theorem xp (k:Q) (h:ZW Q->P:=by intro Kz;refine B 2 ?_;exact ay bN Kz.p):P:=h ⟨k⟩
theorem Cy (k:Q) (h:ZW Q->P:=by intro Kz;refine B 8 ?_;exact BV Kz.p):P:=h ⟨k⟩
theorem zhf (k:Q) (h:ZW Q->P:=by intro Kz;refine ay cY ?_;refine B 4 ?_;refine ay cY ?_;refine B 3 ?_;refine ay cY ?_;refine B 3 ?_;refine rv rfl rfl rfl (yw rfl rfl) ?_;exact B 3 Kz.p):P:=h ⟨k⟩
theorem X7 (k:Q) (h:ZW Q->P:=by intro Kz;refine B 5 ?_;exact ay (.agg (bD G)) Kz.p):P:=h ⟨k⟩
theorem Rk (k:Q) (h:ZW Q->P:=by intro Kz;refine zYd ?_;exact Fi Kz.p):P:=h ⟨k⟩
theorem zkf (k:Q) (h:ZW Q->P:=by intro Kz;refine NC ?_;exact call call64 rfl rfl rfl (λW hS=>nhg ns hn N a cp W cM (aJ.up (ak _) hS.sm) gY d true) Kz.p):P:=h ⟨k⟩
theorem zlf (k:Q) (h:ZW Q->P:=by intro Kz;refine Kd ?_;refine zmd ?_;exact B 6 Kz.p):P:=h ⟨k⟩
theorem zmf (k:Q) (h:ZW Q->P:=by intro Kz;refine B 7 ?_;exact rv rfl rfl rfl (fE (h:=64) underlying106 sizeOf5 rfl ⟨_,_,rfl,rfl⟩ aa) Kz.p):P:=h ⟨k⟩
theorem ZT (k:Q) (h:ZW Q->P:=by intro Kz;refine DJ.one (n:=35) rfl zN ?_;refine AK ?_;refine DJ.one (n:=36) rfl zN ?_;exact AK Kz.p):P:=h ⟨k⟩
theorem zof (k:Q) (h:ZW Q->P:=by intro Kz;refine B 2 ?_;refine zwe ?_;refine B 1 ?_;refine O6 ?_;refine B 1 ?_;refine VT ?_;exact B 4 Kz.p):P:=h ⟨k⟩
theorem Eh (k:Q) (h:ZW Q->P:=by intro Kz;refine ay bN ?_;exact B 7 Kz.p):P:=h ⟨k⟩
theorem UL (k:Q) (h:ZW Q->P:=by intro Kz;refine ay cY ?_;exact B 5 Kz.p):P:=h ⟨k⟩
theorem zrf (k:Q) (h:ZW Q->P:=by intro Kz;refine zOe ?_;refine Fi ?_;refine CX.seq ?_;refine zMe ?_;refine PX.next ?_;exact AG Kz.p):P:=h ⟨k⟩
theorem zsf (k:Q) (h:ZW Q->P:=by intro Kz;refine DJ.one (n:=27) rfl zN ?_;refine AK ?_;refine DJ.one (n:=28) rfl zN ?_;refine B 2 ?_;exact zSe Kz.p):P:=h ⟨k⟩
theorem Im (k:Q) (h:ZW Q->P:=by intro Kz;refine ay bN ?_;exact B 6 Kz.p):P:=h ⟨k⟩
theorem zuf (k:Q) (h:ZW Q->P:=by intro Kz;refine rv rfl rfl rfl (kG rfl rfl) ?_;refine B 1 ?_;exact rv rfl rfl rfl (pC rfl rfl) Kz.p):P:=h ⟨k⟩
theorem Q8 (k:Q) (h:ZW Q->P:=by intro Kz;refine B 7 ?_;exact BV Kz.p):P:=h ⟨k⟩
theorem zwf (k:Q) (h:ZW Q->P:=by intro Kz;refine B 5 ?_;exact rv rfl rfl rfl (iw rfl rfl aa aa) Kz.p):P:=h ⟨k⟩
theorem XO (k:Q) (h:ZW Q->P:=by intro Kz;refine ay cY ?_;exact B 12 Kz.p):P:=h ⟨k⟩
theorem zyf (k:Q) (h:ZW Q->P:=by intro Kz;refine DJ.one (n:=25) rfl zN ?_;refine AK ?_;exact DJ.done Kz.p):P:=h ⟨k⟩
theorem NA (k:Q) (h:ZW Q->P:=by intro Kz;refine B 2 ?_;exact JC rfl rfl rfl Kz.p):P:=h ⟨k⟩
theorem YM (k:Q) (h:ZW Q->P:=by intro Kz;refine B 11 ?_;refine ay bN ?_;exact B 17 Kz.p):P:=h ⟨k⟩
theorem zBf (k:Q) (h:ZW Q->P:=by intro Kz;refine B 5 ?_;refine ay (.agg (dg x.g)) ?_;refine B 1 ?_;refine z2d ?_;refine B 3 ?_;refine ay (.slice x.ba x.body.length x.bc) ?_;exact B 1 Kz.p):P:=h ⟨k⟩
theorem X5 (k:Q) (h:ZW Q->P:=by intro Kz;refine B 2 ?_;refine ay (.agg (gC x)) ?_;exact B 1 Kz.p):P:=h ⟨k⟩
theorem O9 (k:Q) (h:ZW Q->P:=by intro Kz;refine B 10 ?_;exact ay bN Kz.p):P:=h ⟨k⟩
theorem zEf (k:Q) (h:ZW Q->P:=by intro Kz;refine PJ.dj ?_;refine DJ.one (n:=23) rfl zN ?_;refine AK ?_;refine DJ.one (n:=24) rfl zN ?_;refine AK ?_;exact zyf Kz.p):P:=h ⟨k⟩
theorem zFf (k:Q) (h:ZW Q->P:=by intro Kz;refine ay (.agg (bD (⟨⟨G.g.folder,c.epoch,aB Z c,[],[]⟩,none,0,none,0⟩:Gv))) ?_;exact B 5 Kz.p):P:=h ⟨k⟩
theorem zGf (k:Q) (h:ZW Q->P:=by intro Kz;refine ay (.agg (qd x)) ?_;refine B 1 ?_;exact Bo (f:=264) (cap:=[]) rfl call264 rfl rfl rfl (λW hS=>njl x d W) Kz.p):P:=h ⟨k⟩
theorem zHf (k:Q) (h:ZW Q->P:=by intro Kz;refine B 7 ?_;refine zNe ?_;refine B 10 ?_;refine zBd ?_;refine B 2 ?_;refine zUd ?_;refine B 7 ?_;exact z0d Kz.p):P:=h ⟨k⟩
theorem Ue (k:Q) (h:ZW Q->P:=by intro Kz;refine ay bN ?_;exact B 8 Kz.p):P:=h ⟨k⟩
theorem zJf (k:Q) (h:ZW Q->P:=by intro Kz;refine rv rfl rfl rfl (iW rfl rfl) ?_;refine B 1 ?_;exact kY (i:=0) rfl sizeOf303 rfl rfl rfl rfl (ea rfl) rfl Kz.p):P:=h ⟨k⟩
theorem zKf (k:Q) (h:ZW Q->P:=by intro Kz;refine B 2 ?_;refine zed ?_;exact call (v:=.bool false) call69 rfl rfl rfl (λW hS=>Sj (R8 a0 W)) Kz.p):P:=h ⟨k⟩
theorem zLf (k:Q) (h:ZW Q->P:=by intro Kz;refine B 12 ?_;refine z6d ?_;exact B 1 Kz.p):P:=h ⟨k⟩
theorem zMf (k:Q) (h:ZW Q->P:=by intro Kz;refine B 2 ?_;refine zuf ?_;refine B 2 ?_;exact zVe Kz.p):P:=h ⟨k⟩
theorem zNf (k:Q) (h:ZW Q->P:=by intro Kz;refine B 2 ?_;refine zed ?_;exact call (v:=.bool false) call69 rfl rfl rfl (λW hS=>Sj zJc) Kz.p):P:=h ⟨k⟩
theorem zOf (k:Q) (h:ZW Q->P:=by intro Kz;refine B 1 ?_;refine PJ.dj ?_;refine DJ.one (n:=36) rfl zN ?_;refine AK ?_;exact DJ.done Kz.p):P:=h ⟨k⟩
theorem UN (k:Q) (h:ZW Q->P:=by intro Kz;refine z7c ?_;exact B 2 Kz.p):P:=h ⟨k⟩
theorem zQf (h:P:=by first|exact nb (λh=>absurd h.fo eE)|exact nb (λh=>by have:=h.e1;omega)|exact nb (λh=>by have:=h.e2;omega)|exact nb (λh=>absurd h.au eE)|exact nb (λh=>absurd h.ch zZ)|exact nb (λh=>by have:=h.pl;omega)|exact nb (λh=>by have:=h.bl;omega)|exact nb (λh=>by have:=h.wl;omega)|exact nb (λh=>by have:=Iy.2 (h.path _ _ hy);omega)|exact nb (λh=>by have h9:=h.box _ _ hx;have h8:=h9.1;have h7:=ny.2 h9.2;omega)|exact nb (λh=>by have h9:=h.wel _ _ hx;exact h1 h9.1)|exact nb (λh=>by have h9:=h.wel _ _ hx;have h8:=ny.2 h9.2.2;omega)|exact nb (λh=>by have h9:=(h.wel _ _ hx).2.1 y aa hy;omega)|exact npb ⟨by assumption,by omega,by omega,by assumption,by assumption,by omega,by omega,by omega,hA1,Ym,dZ.all aa⟩):P:=h
theorem zRf (h:P:=by
  first|(have hD0:=hd.stop iG aa;obtain⟨q2,rfl⟩:∃q2,q2=q:=⟨_,rfl⟩)|(have hD0:=nub aa aa bV cu iG aa;generalize q-1=q2 at *)
  rw[Ud]at hD0
  obtain⟨r0,hr0⟩:∃z,(r1*2^32+v0)%Y=z:=⟨_,rfl⟩
  have amn:r0<Y:=by rw[<-hr0];exact Nat.mod_lt _ aa
  have hz0:q2*Y+r0=r1*2^32+v0:=by have:=Bk (r1*2^32+v0) Y;rw[hD0,hr0,H9]at this;exact this
  have ck:u*2^64+v=(q1*2^32+q2)*Y+r0:=by have:=n3b u v Y r1 zRb;rw[show v/2^32=v1 from hv1,show v%2^32=v0 from hv0,xV,hD0,hr0]at this;exact this
  obtain⟨Ar,Dz⟩:=n2b hi lo y s (q1*2^32+q2) r0 zWb zGb
  have amp:=tu.small (un:=v1) iG huY I9
  rw[Ud,xV]at amp
  have amr:=tu.small (un:=v0) iG tZ so
  rw[Ud,hD0]at amr
  refine zOc ?_
  refine nS results254 rfl rfl A0 ?_ ?_
  · rw[Ar];exact vu zib
  · rw[Dz]
 ):P:=h
theorem zSf (h:P:=by
  refine B 1 ?_
  refine zJd ?_
  refine B 1 ?_
  refine zje ?_
  refine RU ?_
  intro tr Ai O2 O3 O4 H5 amK
  replace O3:=yb O3
  replace O4:=yc O4
  refine RY (f:=167) (first:=[]) (cap:=[ptr b2 0]) (V:=V) (λV=>hI (pre++[(⟨[aS ((ei p.ns (vA x.dev)).getD 0)],bE (dk p.x.g.last),some ⟨tr,0,none⟩,1⟩:Dv)]) V) hX rfl call167 rfl rfl rfl (λW9 cj=>?_) ?_ ?_
  · refine Vu (λV=>hI (pre++[(⟨[aS ((ei p.ns (vA x.dev)).getD 0)],bE (dk p.x.g.last),some ⟨tr,0,none⟩,1⟩:Dv)]) V) hX hV (⟨[aS ((ei p.ns (vA x.dev)).getD 0)],bE (dk p.x.g.last),some ⟨tr,0,none⟩,1⟩:Dv) b2 W9 cj.alone (cj.own (b2,_) A2) (λh=>h.elim (λh=>by have:=(hM _ h).1;omega) (λh=>cj.apart (b2,_) A2 (.inr h))) (λW1 oH hv1 pY=>hy pre (⟨[aS ((ei p.ns (vA x.dev)).getD 0)],bE (dk p.x.g.last),some ⟨tr,0,none⟩,1⟩:Dv) V W1 ⟨by simp only[cy,dF,fh];omega,λd hd=>?_⟩ hv1 pY)
    rcases bj.1 hd with hd|hd
    · exact ft.low ((dS d hd).up (dR (cj.links wk A1).size oH.size) (λb off e_ jv cB cW=>(oH.block b zFb cW).trans ((cj.links wk A1).block b cB (λhx=>hx.elim cW (λhx=>by first|(simp only[dm,dX,dy,eV,bX,dE,or_false]at hx;omega)|(simp at hx;omega)|(simp at hx))))) (λb _ cB h=>h)) (cR _)
    · rw[ka.1 hd]
      exact ft.low (ft.up (ft.one O2 H5 (K:=w0.heap.size) aa) (dR (cj.links Ai A0).size oH.size) (λb off e_ jv cB cW=>(oH.block b (by have:=(cj.links Ai A0).size;omega) cW).trans ((cj.links Ai A0).block b cB (λhx=>hx.elim cW (λhx=>by cases e_;first|(simp only[dm,dX,dy,eV,bX,dE,or_false]at hx;omega)|(simp at hx;omega)|(simp at hx))))) (λb _ _ h=>h)) (cR _)
  · intro V2 sX dw
    have lh:∀k,V2 k->W.heap.size<=k:=λk hk=>(dw W A2 k hk).elim (hV k) id
    have mq:∀k,k<wk.heap.size->(M k\/V2 k)->(M k\/V k):=λk hk h=>(h.imp id λh=>(dw wk A1 k h).resolve_right aa)
    have Bh:¬(M tr\/V2 tr):=λh=>H5 (h.imp id λh=>(dw Ai A0 _ h).resolve_right aa)
    refine B 12 ?_
    refine PJ.resnap (L':=[wk,W]) (i:=0) rfl zC zI (λW9 cj=>?_)
    have ck:∀d∈(pre++[(⟨[aS ((ei p.ns (vA x.dev)).getD 0)],bE (dk p.x.g.last),some ⟨tr,0,none⟩,1⟩:Dv)]),ft (λk=>M k\/V2 k) w0.heap.size W9.heap.size W9 d:=by
      intro d hd
      rcases bj.1 hd with hd|hd
      · exact(dS d hd).up (cj.links wk A1).size (λb off e_ jv cB cW=>(cj.links wk A1).block b cB (λhx=>hx.elim (λh=>cW (mq b cB h)) (λhx=>by first|(simp only[dm,dX,dy,eV,bX,dE,or_false]at hx;omega)|(simp at hx;omega)|(simp at hx)))) (λb _ cB h=>mq b cB h)
      · rw[ka.1 hd]
        exact ft.up (ft.one O2 Bh (K:=w0.heap.size) aa) (cj.links Ai A0).size (λb off e_ jv cB cW=>(cj.links Ai A0).block b cB (λhx=>hx.elim cW (λhx=>by cases e_;first|(simp only[dm,dX,dy,eV,bX,dE,or_false]at hx;omega)|(simp at hx;omega)|(simp at hx)))) (λb _ _ h=>h)
    refine ag ((pre++[(⟨[aS ((ei p.ns (vA x.dev)).getD 0)],bE (dk p.x.g.last),some ⟨tr,0,none⟩,1⟩:Dv)],V2),W9,j+1) ⟨by dsimp only;omega,lh,dR sJ (cj.links wk A1).size,by dsimp only;rw[CN (xs:=(bC p).1.wes) hx,gz,aQ,nMn eE];simp[gP,bC],by dsimp only;simp only[cy,dF,fh];omega,ck⟩
  · intro V2 sX dw
    have lh:∀k,V2 k->W.heap.size<=k:=λk hk=>(dw W A2 k hk).elim (hV k) id
    have mq:∀k,k<wk.heap.size->(M k\/V2 k)->(M k\/V k):=λk hk h=>(h.imp id λh=>(dw wk A1 k h).resolve_right aa)
    have Bh:¬(M tr\/V2 tr):=λh=>H5 (h.imp id λh=>(dw Ai A0 _ h).resolve_right aa)
    refine B 10 ?_
    exact ZL (.inl rfl) results166 A2 lh zX (λA hSA hA=>.inr hA)
 ):P:=h
theorem cA (h:P:=by exact absurd (show false=true from hr) zA):P:=h
theorem zUf (h:P:=by
  refine zKd ?_
  first|exact congrArg ab (n6c dZ aa)|exact congrArg ab (nN hx (λg=>by have g1:=g.1;have g2:=g.2.1;omega))|exact congrArg ab (nN hx (λg=>by have g3:=g.2.2.1 y aa hy;omega))|exact congrArg ab (nN hx (λg=>Uz (x:=x.pub) JS g.2.2.2.1))|exact congrArg ab (nN hx (λg=>by have g5:=(nSc _).2 g.2.2.2.2;simp_all))
 ):P:=h
theorem zVf (h:P:=by exact ft.low ((dS d hd).up (dR (cj.links wk A1).size oH.size) (λb off e_ jv cB cW=>(oH.block b zFb cW).trans ((cj.links wk A1).block b cB (λhx=>hx.elim cW (λhx=>by first|(simp only[dm,dX,dy,eV,bX,dE,or_false]at hx;omega)|(simp at hx;omega)|(simp at hx))))) (λb _ cB h=>h)) (cR _)):P:=h
theorem zWf (h:P:=by
  refine ss rfl ?_ ?_
  · intro cv L' H' hl hP F Q' hk
    obtain rfl:=lN hl
    obtain⟨rfl,rfl⟩:=hP
    refine zld ?_
    rintro W_ ⟨ta_,tc_⟩ w_ qh vx ⟨dY,iL⟩
    have BT:=(qh.links wm A0).size
    exact OJ.done (hk _ _ _ ⟨ta_,tc_,w_,rfl,rfl,rfl,dY,λb off e=>(iL b off e).imp id (λh=>h.imp id (λh=>dR BT h)),dR BT vx.size⟩)
  refine ss rfl ?_ ?_
  · intro cv L' H' hl hP F Q' hk
    obtain⟨v1,rfl⟩:=iZ hl
    obtain⟨ta,tc,wr,rfl,rfl,rfl,se,gY,q9⟩:=hP
    refine zfd ?_
    intro r_ UZ fJ
    exact OJ.done (hk _ _ _ ⟨ta,tc,wr,r_,rfl,rfl,rfl,rfl,se,gY,q9,UZ,fJ,Rw.ge_of UZ A0⟩)
  refine ss rfl ?_ ?_
  · intro cv L' H' hl hP F Q' hk
    obtain⟨v1,v2,rfl⟩:=pX hl
    obtain⟨ta,tc,wr,r8,rfl,rfl,rfl,rfl,se,gY,q9,mU,iu,ju⟩:=hP
    refine B 1 ?_
    exact OJ.done (hk _ _ _ ⟨ta,tc,wr,r8,rfl,rfl,rfl,rfl,rfl,se,gY,q9,mU,iu,ju⟩)
  refine ss rfl ?_ ?_
  · intro cv L' H' hl hP F Q' hk
    obtain⟨v1,v2,v3,rfl⟩:=mB hl
    obtain⟨ta,tc,wr,r8,rfl,rfl,rfl,rfl,rfl,se,gY,q9,mU,iu,ju⟩:=hP
    refine B 1 ?_
    exact OJ.done (hk _ _ _ ⟨ta,tc,wr,r8,rfl,rfl,rfl,rfl,rfl,rfl,se,gY,q9,mU,iu,ju⟩)
  refine ss rfl ?_ ?_
  · intro cv L' H' hl hP F Q' hk
    obtain⟨v1,v2,v3,v4,rfl⟩:=uI hl
    obtain⟨ta,tc,wr,r8,rfl,rfl,rfl,rfl,rfl,rfl,se,gY,q9,mU,iu,ju⟩:=hP
    refine kY (i:=0) rfl sizeOf51 rfl rfl rfl rfl (ea rfl) (Rw.val_one2 _ _) ?_
    exact OJ.done (hk (.tuple #[]) _ _ ⟨ta,tc,wr,r8,rfl,rfl,rfl,rfl,rfl,rfl,rfl,se,gY,q9,mU,iu,ju⟩)
  exact nn
 ):P:=h
theorem zXf (h:P:=by exact(dS d hd).up (cj.links wk A1).size (λb off e_ jv cB cW=>(cj.links wk A1).block b cB (λhx=>hx.elim (λh=>cW (mq b cB h)) (λhx=>by first|(simp only[dm,dX,dy,eV,bX,dE,or_false]at hx;omega)|(simp at hx;omega)|(simp at hx)))) (λb _ cB h=>mq b cB h)):P:=h
theorem zYf (h:P:=by
  refine zRc ?_
  refine CJ.chn 11 [4] [_,some (.slice G.ma G.g.ms.length G.mc),_,some (.agg #[.slice G.na G.g.ns.length G.nc]),none,_,some (bN),_,some undef,some undef,some undef] (λcv L' H'=>match cv with| []=>L'=[w1,w]/\H'=[]| [v1]=>∃(a7:Option Addr) (c7:Nat) (w7:World),v1= .slice a7 (eh G.g.ns).length c7/\L'=[w7,w1,w]/\H'=[]/\ai (λx=>(aA x).toArray) 1 w7.heap.size w7 a7 (eh G.g.ns)|_=>False) (pc XZ (pc NI (pc X2 (pc NI (pk (pc zM (pc (λcv L' H' hd hP=>match cv,hd,hP with| [],hd,hP=>(absurd (show false=true from hd) zA)| [v1],hd,hP=>zEc|_::_::_,_,hP=>hP.elim) (pc zM (pc zJb (pc zJb (pc zJb (pn)))))))))))) ?_ ?_
  · refine ss rfl ?_ ?_
    · intro cv L' H' hl hP F Q' hk
      obtain rfl:=lN hl
      obtain⟨rfl,rfl⟩:=hP
      refine z3c ?_
      intro W7 a7 c7 w7 IV Sn jJ mE
      exact OJ.done (hk _ _ _ ⟨a7,c7,w7,rfl,rfl,rfl,jJ⟩)
    exact nn
  · intro cv L' H' hl hP
    obtain⟨v1,rfl⟩:=iZ hl
    obtain⟨a7,c7,w7,rfl,rfl,rfl,jJ⟩:=hP
    refine B 7 ?_
    refine aF results148 rfl A2 ?_
    exact Qy (λh=>h1 h.2.2.1)
 ):P:=h
theorem zZf (h:P:=by
  have hv:∀W2,∀w∈L,∀k,qF V W1 W2 k->V k\/w.heap.size<=k:=λW2 w hw k hk=>by
    rcases hk with hk|hk
    · exact .inl hk
    · have:=(hS.links w hw).size;exact .inr aa
  refine⟨fn,tmps,assign,body,fY,kV.mono ?_⟩
  rintro e W2 ⟨b,rfl,hk,hb⟩
  refine⟨b,rfl,by rw[(hT _).1];exact hk,?_⟩
  have nx:∀{R:World->Prop} (hR:fp (λk=>(k<W0.heap.size/\¬MI k)\/(qF V W1 W2) k) R),R W2->Next (T (dt hM V hI)) W1 W2 (T (dt hM (qF V W1 W2) hR)):=λ{R} hR hb=>by
    refine⟨λk h=>?_,λk h=>?_,λk h=>?_,by rw[(hT _).2.2.1];exact hb⟩
    · rw[(hT _).2.2.2]at h ⊢
      rcases h with(h|h)|h
      · exact .inl (.inl h)
      · exact .inl (.inr (.inl h))
      · exact .inr h
    · rw[(hT _).2.2.2]at h ⊢
      rcases h with(h|h|h)|h
      · exact .inl (.inl (.inl h))
      · exact .inl (.inl (.inr h))
      · exact .inr h
      · exact .inl (.inr h)
    · rw[(hT _).2.1]at h ⊢
      rcases h with h|h|h
      · exact .inl (.inl h)
      · exact .inl (.inr h)
      · exact .inr h
  cases b with
  |true=>exact⟨_,⟨_,λk h=>.inl h,hv W2,rfl⟩,nx (kX _) hb⟩
  |false=>exact⟨_,⟨_,λk h=>.inl h,hv W2,rfl⟩,nx (fT _) hb⟩
 ):P:=h
theorem X8 (h:P:=by
  refine zae ?_
  show Value.bool _=Value.bool _
  refine vb ?_
  first|(have h1b:(ij G.g.ms au != decide (0<G.g.epoch))=true:=CD;unfold mJ;rw[h1b];rfl)|(have h1b:(ij G.g.ms au != decide (0<G.g.epoch))=false:=CD;unfold mJ;rw[h1b];simp_all)
 ):P:=h
theorem z1f (h:P:=by
  refine ss rfl ?_ ?_
  · intro cv L' H' hl hP F Q' hk
    obtain rfl:=lN hl
    obtain⟨rfl,rfl⟩:=hP
    refine z3c ?_
    intro W7 a7 c7 w7 IV Sn jJ mE
    exact OJ.done (hk _ _ _ ⟨a7,c7,w7,rfl,rfl,rfl,jJ⟩)
  exact nn
 ):P:=h
theorem X6 (h:P:=by exact PJ.mid ⟨(congrArg (λb=>some (Value.bool b)) z8),rfl,rfl,rfl,rfl,rfl,rfl,rfl,rfl,rfl,rfl,rfl,rfl,rfl,trivial⟩):P:=h
theorem z3f (h:P:=by
  have h5:∀q,q1=some q->(W9.heap.size)<=q.block:=by
    intro q hq
    rcases xu with h|⟨b',off,fQ,t',Cs,e1,_⟩
    · exact absurd h h0
    · rw[e1]at hq;cases hq;exact h2 _ _ e1
  obtain⟨FT,h3,h4⟩:=xu.fs (K:=(W9.heap.size)) h5
  exact⟨FT,λp hp=>⟨(h3 p hp).1,(aT.1 (h3 p hp).2).1,(h3 p hp).2⟩,h4.mono (λp hp=>bj.2 (.inl hp))⟩
 ):P:=h
theorem SV (h:P:=by
  refine aF results8 rfl A1 ?_
  first|exact vb z3|exact vb zxb|exact vb zCb
 ):P:=h
theorem z5f (h:P:=by
  rw[Instr.checkKey]
  simp only[Sem.run_bind,run_underlying hU,Result.andThen_ok]
  simp only[Std.Legacy.Range.forIn_eq_forIn_range',Std.Legacy.Range.size,Nat.sub_zero,Nat.add_one_sub_one,Nat.div_one]
  have each:∀j∈List.range' 0 len,j<cs.length:=λj hj=>by rw[List.mem_range'_1]at hj;omega
  generalize List.range' 0 len=is at each
  induction is with
  |nil=>simp
  |cons j is ih=>
    have hj:=each j zI
    have p1:(part e cs.toArray (j*1)).run P W= .ok cs[j] W:=by simp[part,hA W,hj]
    have p2:(Instr.checkKey em (n+1) e cs[j]).run P W= .ok () W:=by simp[Instr.checkKey,run_underlying hE]
    simp only[List.forIn_cons,Sem.run_bind,hZ W,Result.andThen_ok,p1,p2,Sem.run_pure]
    exact ih (λy hy=>each y (by simp[hy]))
 ):P:=h
theorem z6f (h:P:=by
  refine zIe ?_
  first|exact neh dZ aa|exact nmc hx (λg=>by have g1:=g.1.1;rw[<-QC,<-QD]at g1;exact absurd g1 eE)|exact nmc hx (λg=>absurd g.1.2 eE)|exact nmc hx (λg=>by have g1:=g.2;simp_all)
 ):P:=h
theorem z7f (h:P:=by
  intro a W hI
  obtain⟨x,hx,iF,hN,hD,hF,hS⟩:=nse hI
  refine wpIn_mono (round x iF a W hN hD hF hS) ?_
  intro e a' W' hq
  cases e with
  |normal=>
    obtain⟨x',amt,hlt,h1,h2,h3,h4⟩:=hq
    have hI':Inv a' W' (μ x'):=⟨x',rfl,amt,h1,h2,h3,h4⟩
    exact⟨⟨_,hI'⟩,by have:=nVf hI';omega⟩
  |_=>exact hq
 ):P:=h
theorem z8f (h:P:=by
  refine B 4 ?_
  have y4:j=p.c.wes.length:=by omega
  rw[y4]at aQ
  have abN:pre.map gP=lH (bC p):=by rw[aQ];unfold lH;rw[show p.c.wes.length=(bC p).1.wes.length from rfl,vS];rfl
  refine ZL (.inr rfl) results166 A1 hV zX (λA cj hA=>.inl ⟨pre,⟨⟨abN,by omega⟩,λd hd=>?_⟩,hA⟩)
  exact((dS d hd).up (cj.links wk A0).size (λb off e_ jv cB cW=>(cj.links wk A0).block b cB (λhx=>hx.elim cW (λhx=>by first|(simp only[dm,dX,dy,eV,bX,dE,or_false]at hx;omega)|(simp at hx;omega)|(simp at hx)))) (λb _ cB h=>h)).low aa
 ):P:=h
theorem M7 (h:P:=by
  refine B 2 ?_
  refine PJ.again (q-1,r+y1) ⟨bV,by omega,cu,by omega⟩ zYb zR rfl rfl zI
 ):P:=h
theorem Vi (h:P:=by
  refine aF results46 rfl A1 ?_
  first|exact vb z9|exact vb z7|exact vb zBb
 ):P:=h
theorem zbg (h:P:=by
  refine nS results125 rfl rfl A0 ?_ ?_
  all_goals(refine congrArg ab ?_;unfold gExp;first|(simp only[if_neg hg];done)|(rw[if_pos hg];first|(rw[if_neg aa];done)|(rw[if_pos aa];done)))
 ):P:=h
theorem zcg (h:P:=by
  have h1:=RN p hp
  have hn:p.1∉List.map (·.1) ([(Vt,oC (kD (⟨d.c,decide (j=0),aW gI.g.ns d.c.chs,q1,q2,d.x⟩:Pl)) 92),(gB,oC (bD gI) 53),(b9,oC (cG d.c) 61),(b4,oC (sT fo) 97)]++(r.hp zl 92 pls++[]):ad):=by
    intro hm
    obtain⟨p9,hp9,e9⟩:=bW.1 hm
    rcases bX.1 hp9 with h2|h2
    · rw[h2]at e9;dsimp only at e9;omega
    · have:=hK2 p9 h2;omega
  exact⟨((hS.links w8 A0).block p.1 h1.2.1 (λhx=>hx.elim zJ (λh=>hn h))).trans h1.2.2,hn⟩
 ):P:=h
theorem zdg (h:P:=by
  refine ss rfl ?_ ?_
  · intro cv L' H' hl hP F Q' hk
    obtain⟨v1,v2,rfl⟩:=pX hl
    obtain⟨bn,rfl,rfl,rfl,rfl,hfn⟩:=hP
    refine Yq ?_
    intro b_ mO hJ
    exact OJ.done (hk _ _ _ ⟨bn,b_,rfl,rfl,rfl,rfl,rfl,hfn,mO⟩)
  exact nn
 ):P:=h
theorem zeg (h:P:=by
  refine B 6 ?_
  have ck:=nWn (l:=dK d) (i:=i) aa (ki (dP ns) (512+d))
  rw[ck]at yI ⊢
  refine B 9 ?_
  refine bK (.inl rfl) results64 aX λW hS=>⟨bf,mi,ap,gT,rfl,hS.base A2 Cl,by omega,yI,hS.own _ A0,oX.blk λb off hb1 di=>?_,λq hq=>?_⟩
  · have h1:=tG _ hb1
    dsimp only at h1
    exact⟨mx di (hS.links wp A0).size,(hS.links wp A0).block b di (by simp[Gh.no];omega)⟩
  · have h1:=tG _ hq
    have h2:=(BA.links w A1).size
    exact⟨by omega,by omega⟩
 ):P:=h
theorem zfg (h:P:=by
  intro V2 sX dw
  have lh:∀k,V2 k->W.heap.size<=k:=λk hk=>(dw W A2 k hk).elim (hV k) id
  have mq:∀k,k<wk.heap.size->(M k\/V2 k)->(M k\/V k):=λk hk h=>(h.imp id λh=>(dw wk A1 k h).resolve_right aa)
  have pq:¬(M rJ\/V2 rJ):=λh=>F4 (h.imp id λh=>(dw xH A0 _ h).resolve_right aa)
  refine zef ?_
  refine fA 10 25 (k:=?_)
  refine zyf ?_
  refine B 8 ?_
  exact ZL (.inl rfl) results166 A2 lh zX (λA hSA hA=>.inr hA)
 ):P:=h
theorem zgg (h:P:=by
  refine aF results71 rfl A1 ?_
  first|exact Yj (λh=>by have h1:=Iy.2 h.1;have h2:=h.2;omega)|exact n0i ⟨Iy.1 aa,by omega,by omega⟩
 ):P:=h
theorem zhg (h:P:=by
  rw[ka.1 hd]
  exact ft.low (ft.up (ft.one FY F4 (K:=w0.heap.size) aa) (dR (cj.links xH A0).size oH.size) (λb off e_ jv cB cW=>(oH.block b (by have:=(cj.links xH A0).size;omega) cW).trans ((cj.links xH A0).block b cB (λhx=>hx.elim cW (λhx=>by cases e_;first|(simp only[dm,dX,dy,eV,bX,dE,or_false]at hx;omega)|(simp at hx;omega)|(simp at hx))))) (λb _ _ h=>h)) (cR _)
 ):P:=h
theorem zjg (h:P:=by
  intro j hj
  rw[Array.contains_iff_mem]
  simp only[List.mem_toArray,bW]
  constructor
  · rintro⟨j',h1,h2⟩
    have h3:=pI j' h1
    have hb1:j<m.bs.length:=by rw[hm.len];exact hj
    have di:j'<m.bs.length:=by rw[hm.len];exact h3
    simp only[List.getD,kK hb1,kK di,Option.getD_some]at h2
    have:=ngk hm.nd di hb1 h2
    subst this;exact h1
  · exact λh=>⟨j,h,rfl⟩
 ):P:=h
theorem YK (h:P:=by exact bK (.inl rfl) results83 aX λW hS=>⟨gI,rfl,hS.base A2 zB,rfl,YJ _ _,λq h=>zQ,λq h=>zQ⟩):P:=h
theorem Xm (h:P:=by
  rw[aQ]at hx
  replace hx:=yf hx
  rcases hx with hx|hx|hx|hx<;>first|omega|(have:=hq _ hx;omega)
 ):P:=h
theorem zmg (h:P:=by
  refine B 5 ?_
  obtain⟨bq,oq,Qe,tq,Qf,rfl,oY,yJ,qb⟩:=oX.get aa
  have Eg:=tG _ rfl
  dsimp only at Eg
  obtain⟨n,hy⟩:=ng (dK d) i aa
  refine B 2 ?_
  refine zTd ?_
  refine B 6 ?_
  refine zpd ?_
  intro m3 cu
  refine B 7 ?_
  refine PJ.again (m3,i+1) ⟨by dsimp only;omega,by rw[nYf hy];exact cu⟩ zS zR (by rw[nYf hy];rfl) rfl zI
 ):P:=h
theorem Us (h:P:=by
  intro b4 ji jj
  replace ji:=yb ji
  replace jj:=yc jj
  refine z6e ?_
  rfl
 ):P:=h
theorem zog (h:P:=by
  intro cv L' H' hl hP F Q' hk
  obtain rfl:=lN hl
  obtain⟨rfl,rfl⟩:=hP
  refine Yq ?_
  intro b_ mO hJ
  exact OJ.done (hk _ _ _ ⟨b_,rfl,rfl,rfl,mO⟩)
 ):P:=h
theorem zpg (h:P:=by exact ZL (.inl rfl) results166 A2 lh zX (λA hSA hA=>.inr hA)):P:=h
theorem zqg (h:P:=by
  refine B 7 ?_
  refine z8c ?_
  refine B 5 ?_
  refine zye ?_
  refine B 2 ?_
  refine PJ.again (k+1,if 128-64*k=64 then o2 else o2+64*1) (by dsimp only;split<;>omega) zS ⟨rfl,rfl,rfl,by rw[show N-64*(k+1)=N-64*k-64 by omega,show 128-64*(k+1)=128-64*k-64 by omega];rfl,trivial⟩ rfl rfl zI
 ):P:=h
theorem zrg (h:P:=by
  have h1:(js++[jn]).Nodup:=by rw[List.nodup_append];exact⟨hnd,by simp,by intro a ha b hb;simp at hb;subst hb;exact λe=>sF (e▸ha)⟩
  have h2:∀j∈js++[jn],j<kv.length:=by
    intro j hj
    rcases bj.1 hj with hj|hj
    · exact pI j hj
    · simp at hj;subst hj;exact nr xt
  exact⟨h1,h2,by simpa using Xw _ _ h1 h2⟩
 ):P:=h
theorem UP (h:P:=by
  intro aN
  refine B 7 ?_
  refine ag (j+1) ⟨by omega,dZ.next hx yN⟩
 ):P:=h
theorem ztg (h:P:=by
  intro CH c32 s32 zd amu
  refine OJ.dropF (i:=0) rfl (.inr ⟨by omega,by omega,trivial⟩) ?_
  refine B 8 ?_
  refine ag (ys++y.enc,i+1,CH,c32,s32) ⟨by dsimp only;rw[iY,<-hy,<-V.encL_drop l i aa];exact hinv,by dsimp only;omega,zd,by simpa only[Fr,Gh.lent,Gh.no,ae,and_true,false_or]using zd,amu⟩
 ):P:=h
theorem zug (h:P:=by exact nP (enc:=sK) (m:=4) (t:=110) (xs:=[]) (H0:=[(b6,oC #[aj] 56)]) (H1:=[]) (r:=.nil) (.inl rfl) results134 aX A1 zic rfl rfl True.intro rfl):P:=h
theorem zvg (h:P:=by
  refine B 12 ?_
  refine z9d ?_
  intro r aK ah
  refine B 1 ?_
  refine zpe ?_
  refine B 4 ?_
  exact nP (enc:=gS) (m:=2) (t:=240) (xs:=[]) (H0:=[(b4,oC #[r.val (([]:List Nd)).length] 51)]) (H1:=[]) (r:=r) (.inl rfl) results35 aX A1 zzc rfl ah (Rw.ge_of aK A1) z2b
 ):P:=h
theorem zwg (h:P:=by
  intro b_ mO hJ
  exact OJ.done (hk _ _ _ ⟨b_,rfl,rfl,rfl,mO⟩)
 ):P:=h
theorem zxg (h:P:=by
  apply Array.ext'
  rw[nU,lL,<-hlen]
  show jx (ys++sp) ys.length news=_
  have amk:n*ti.size<=sp.length:=by rw[vC,<-vZ,vZ];exact wg _ aa
  conv=>lhs;rw[<-AB (n*ti.size) sp]
  rw[nud _ _ _ _ (by rw[lb];omega),iY]
 ):P:=h
theorem zyg (h:P:=by
  refine B 14 ?_
  refine p5 ?_
  refine ag ((i2+1,cur.set i2 x),j+1) ⟨by dsimp only;omega,by dsimp only;omega,by dsimp only;rw[List.length_set];exact lP,by dsimp only;rw[nYc aa,wh,QZ hx,if_neg yN],by dsimp only;rw[nQd aa];exact rn⟩
 ):P:=h
theorem zzg (h:P:=by exact nP (enc:=aA) (m:=1) (t:=3) (xs:=[]) (H0:=[]) (H1:=[]) (r:=.nil) (.inl rfl) results262 aX A1 trivial rfl rfl True.intro rfl):P:=h
theorem zAg (h:P:=by
  unfold B0
  by_cases Of:0<j
  · rw[if_pos Of,ZB,n7h]
    rcases Vr CM with⟨_,h2⟩|⟨n,xb,h1,_,_⟩
    · rw[h2];rfl
    · exfalso;subst h1;omega
  · rw[if_neg Of];rfl
 ):P:=h
theorem UO (h:P:=by exact λW hS=>.inr ⟨j,x,rfl,hx,by assumption,dZ⟩):P:=h
theorem zCg (h:P:=by
  refine aF results25 rfl A0 ?_
  first|exact vb zqc|exact vb zlc|exact vb zmc
 ):P:=h
theorem zDg (h:P:=by
  by_cases h0:xs=[]
  · exact .inr h0
  · have hp:0<xs.length:=Z7.2 h0
    have:=(e4 (xs.length-1) aa).1
    refine .inl ?_
    have e:xs.length*m=(xs.length-1)*m+m:=by rw[<-Nat.succ_mul];congr 1;omega
    omega
 ):P:=h
theorem zEg (h:P:=by
  refine B 7 ?_
  refine z3d ?_
  refine B 3 ?_
  have e:i=8:=by omega
  subst e
  refine zId ?_
  show Value.agg (cut (kJ (sx n m (gU n)) 8) 0 32)=_
  rw[nxf _ 32 (by rw[kJ,Dg]),Po];rfl
 ):P:=h
theorem zFg (h:P:=by refine ag (((r,ds),F),i+1) ⟨by dsimp only;omega,aK,ah,by dsimp only;rw[CN hgi,aQ];first|(rw[n2n LG zyc];simp;done)|(rw[Sr LG jS,show j=g.olds.length by omega,vS];simp),iE,by dsimp only;omega,dV,jT⟩):P:=h
theorem zGg (h:P:=by
  refine bK (.inl rfl) results49 aX λW hS=>⟨by rw[<-h9.1];rfl,gm,by rw[<-h9.2];exact tK,(hS.links w A1).mono λk _ hk=>?_,by rw[<-h9.2];exact hS.own _ A0⟩
  rcases hk with hk|hk
  · exact hk
  · simpa using hk
 ):P:=h
theorem zHg (h:P:=by
  refine cC (.inl rfl) results72 aX A0 zB ?_
  exact vb (by unfold Gm;rw[Dc];simp_all<;>omega)
 ):P:=h
theorem zIg (h:P:=by
  refine B 19 ?_
  refine p5 ?_
  refine ag ((pre,V),wk,j+1) ⟨by dsimp only;omega,hV,sJ,by dsimp only;rw[CN (xs:=(bC p).1.wes) hx,aQ,RR eE,eb],by dsimp only;omega,dS⟩
 ):P:=h
theorem zJg (h:P:=by
  refine ss rfl ?_ ?_
  · intro cv L' H' hl hP F Q' hk
    obtain rfl:=lN hl
    obtain⟨rfl,rfl⟩:=hP
    refine B 1 ?_
    exact OJ.done (hk (.tuple #[]) _ _ ⟨rfl,rfl,rfl⟩)
  exact nn
 ):P:=h
theorem zKg (h:P:=by
  refine xr ?_
  refine ag (j+1) ⟨by omega,dZ.next hx ⟨Classical.not_not.1 h1,λy0 h0 H8=>by first|omega|(rw[hy]at H8;cases H8;omega),ny.1 aa⟩⟩
 ):P:=h
theorem zLg (h:P:=by
  refine⟨[],by simp,?_⟩
  rw[h1,(Prod.mk.inj h2).1]
  exact Og.ns.mono (λp hp=>hp)
 ):P:=h
theorem zMg (h:P:=by
  refine nS results37 rfl rfl A0 ?_ ?_
  all_goals first|rfl|(exfalso;apply h;exact⟨by omega,by omega⟩)
 ):P:=h
theorem zNg (h:P:=by
  refine xr ?_
  refine ag (j+1) ⟨by omega,dZ.next hx ⟨by omega,by omega,λy0 h0 H8=>by first|omega|(rw[hy]at H8;cases H8;omega),ntg JS,(nSc _).1 yN⟩⟩
 ):P:=h
theorem zOg (h:P:=by
  rw[if_pos (bW.2 ⟨_,cO h1,rfl⟩)]
  simp only[List.map_set]
  apply Co
  intro j
  rw[a1q]
  split
  · rename_i e;subst e
    have hl:=(iv.1 h1).1
    rw[if_pos NH];simp[h1]
  · rfl
 ):P:=h
theorem zPg (h:P:=by
  rw[List.set_append_right _ _ zI]
  simp only[eQ,Nat.sub_self,sm,gz,dy,eV,cy,dF,fh,iY]
  rw[show ch.length-vs.length=(ch.length-(vs.length+1))+1 by omega,List.replicate_succ]
  rfl
 ):P:=h
theorem zQg (h:P:=by
  have e2:Gk G.g l=[]:=by unfold Gk;rw[e1];rfl
  rw[e1,e2]
  exact nP (enc:=AN) (m:=2) (t:=180) (xs:=[]) (H0:=[]) (r:=.nil) (.inl rfl) results68 aX A1 zF rfl rfl True.intro rfl
 ):P:=h
theorem zRg (h:P:=by
  rcases hk with hk|hk
  · exact hk
  · simpa using hk
 ):P:=h
theorem zSg (h:P:=by
  have eH:W.drew.heap[b]? =some (.cells (ys++sp).toArray e (0,0)):=hb
  rw[nkh eH (by simp only[qx,cy,hlen];omega)]
  unfold cut
  simp only[SJ,<-hlen]
  rw[PR rfl]
 ):P:=h
theorem zTg (h:P:=by
  intro aN
  refine B 8 ?_
  refine p5 ?_
  refine ag ((i2,cur),j+1) ⟨by dsimp only;omega,by dsimp only;omega,lP,by dsimp only;rw[wh,QZ hx,if_pos yN,eb],rn⟩
 ):P:=h
theorem zUg (h:P:=by exact⟨rfl,0,_,by rw[alloc_eq_grow,alloc_eq_grow,grow_grow];rfl⟩):P:=h
theorem zVg (h:P:=by exact⟨rfl,.row gR oU oV,jo.elim (λh=>Rw.Fr_at aK h) (λh=>.inr h.2),kL,rfl⟩):P:=h
theorem zWg (h:P:=by
  unfold leftOf at this
  rw[Array.filter_eq_empty_iff]at this
  have h2:=this _ (by simpa using ko)
  simp only[Bool.not_eq_true,Bool.not_eq_false']at h2
  exact hn h2
 ):P:=h
theorem zXg (h:P:=by refine PJ.again (r,j+1) ⟨by dsimp only;omega,aK,by rw[nmf hx aa];exact ah⟩ zS ⟨rfl,by rw[nmf hx aa];rfl,rfl,rfl,rfl,trivial⟩ (by rw[nmf hx aa];rfl) rfl zI):P:=h
theorem zYg (h:P:=by
  refine nS results79 rfl rfl A0 ?_ ?_
  all_goals(refine congrArg ab ?_;unfold Jm;first|(rw[if_neg aa];done)|(rw[if_pos aa];try first|(rw[Ng aa];done)|skip))
 ):P:=h
theorem zZg (h:P:=by
  replace dp:=ya dp
  refine B 6 ?_
  exact PJ.mid ⟨(congrArg (λb=>some (Value.bool b)) z8),rfl,rfl,rfl,rfl,rfl,rfl,rfl,rfl,rfl,rfl,trivial⟩
 ):P:=h
theorem UQ (h:P:=by exact λW hS=>.inl ⟨rfl,nnd dZ aa⟩):P:=h
theorem z1g (h:P:=by
  refine PA ?_
  refine B 13 ?_
  exact nP (enc:=gS) (m:=2) (t:=240) (xs:=[]) (H0:=_) (H1:=[]) (r:=.nil) (.inl rfl) results154 aX A1 z9b rfl rfl True.intro (eb _).symm
 ):P:=h
theorem Pj (h:P:=by exact λ_ _ _ _ _ _ _ _ hk=>hk.elim):P:=h
theorem z3g (h:P:=by
  have xg:¬Gh.no.X bI:=λh=>h
  refine eN func269 ntmps269 ?_
  refine B 27 ?_
  refine ay bN ?_
  refine B 12 ?_
  refine nS results269 rfl rfl A0 ?_ ?_
  all_goals rfl
 ):P:=h
theorem z4g (h:P:=by
  obtain⟨p,hp,rfl⟩:=AF.1 hj
  have Cn:=(iv.1 hp).1
  have:j<m.bs.length:=by rw[hm.len];exact Cn
  exact hm.lt _ (by simp[List.getD,this])
 ):P:=h
theorem z5g (h:P:=by
  intro b7 c7 s7 tB Cr
  exact OJ.done (hk _ _ _ ⟨b6,b7,c7,s7,rfl,rfl,rfl,rfl,jO,Cq,tB,by simpa only[Fr,Gh.lent,ae,and_true]using tB,Cr⟩)
 ):P:=h
theorem z6g (h:P:=by
  induction H with
  |nil=>intro p hp;simp at hp
  |cons q H ih=>
    intro p hp
    simp only[bX]at hp
    rcases hp with rfl|hp
    · exact h.1
    · exact ih h.2 p hp
 ):P:=h
theorem z7g (h:P:=by
  refine aF results259 rfl A1 ?_
  exact vb (by unfold Ey;simp_all)
 ):P:=h
theorem z8g (h:P:=by
  have h1:=(VQ j Cn).2 h
  have h2:(!((js.map λj=>m.bs.getD j 0).toArray.contains (m.bs.getD j 0)))=true:=bV
  rw[h1]at h2
  cases h2
 ):P:=h
theorem z9g (h:P:=by
  refine nS results263 rfl rfl A0 ?_ ?_
  all_goals first|(rw[hbe];done)|exact vb (nnm hbe hx)|exact vb (n9i hbe h1)
 ):P:=h
theorem zah (h:P:=by
  replace ar:=ya ar
  refine B 9 ?_
  refine aF results212 rfl A1 ?_
  exact vb (by unfold rl;rw[Dc];first|(simp;omega)|simp)
 ):P:=h
theorem zbh (h:P:=by
  have:=run_entry_at (P:=C.P) W rb b m.c (js.map λj=>m.bs.getD j 0).toArray _ m.c _ (by rw[hr];simp) eH (cO fB) hnd
  simp[execOp,hF.ev hx,this]
 ):P:=h
theorem zdh (h:P:=by
  rw[<-I5 (r:=none) (n:=0)]
  refine callsIn_of_wp_marks hf hb trivial (h _ w ?_ rfl ?_ hS)
  · have:=ea hl
    simp[hN];omega
  · exact nlc vs _
 ):P:=h
theorem zeh (h:P:=by
  intro i x' y' hi hx' hy'
  by_cases e':i=j
  · subst e';rw[hx]at hx';rw[hy]at hy';cases hx';cases hy';exact e
  · exact h i x' y' aa hx' hy'
 ):P:=h
theorem zfh (h:P:=by
  simp only[execOp,hF.ev hx,hF.ev hy,Sem.run_bind,h1,h2,Result.andThen]
  rfl
 ):P:=h
theorem zgh (h:P:=by
  simp only[book,gz,bj]at hk
  rcases hk with hk|hk
  · exact hH hk
  · obtain⟨p,hp,rfl⟩:=bW.1 hk
    have:=aaf p hp;omega
 ):P:=h
theorem zhh (h:P:=by exact oQ.sl hU Rd.zero (by simp[gX]) (by simp[gX])):P:=h
theorem zih (h:P:=by
  simp only[Rw.val,Value.slice.injEq]at e9
  rw[<-e9.1]at h9;exact h9
 ):P:=h
theorem zjh (h:P:=by
  rw[<-I5 (r:=none) (n:=0)]
  refine callsIn_of_wp hf hb trivial (h _ w ?_ rfl ?_ hS)
  · have:=ea hl
    simp[hN];omega
  · exact nlc vs _
 ):P:=h
theorem zkh (h:P:=by
  refine nS results216 rfl rfl A1 ?_ ?_
  all_goals(refine congrArg ab ?_;unfold qR;first|(rw[if_neg hg];done)|(rw[if_pos hg];done))
 ):P:=h
theorem zlh (h:P:=by
  refine nS results215 rfl rfl A1 ?_ ?_
  all_goals(refine congrArg ab ?_;unfold pW;first|(rw[if_neg hg];done)|(rw[if_pos hg];done))
 ):P:=h
theorem zmh (h:P:=by exact λW hS=>⟨gj.1,hS.old A0 hb1 cF trivial⟩):P:=h
theorem znh (h:P:=by
  replace ar:=ya ar
  refine B 7 ?_
  refine aF results257 rfl A0 ?_
  refine vb ?_
  unfold oO
  simp;try omega
 ):P:=h
theorem zoh (h:P:=by
  refine B 11 ?_
  refine aF results20 rfl A0 ?_
  exact vb (by first|exact RB hx yN|exact n5n dZ aa)
 ):P:=h
theorem zph (h:P:=by
  refine B 11 ?_
  refine aF results13 rfl A1 ?_
  exact vb (by first|exact nTn hx eE|exact RA dZ aa)
 ):P:=h
theorem zqh (h:P:=by
  rw[List.nodup_append]
  exact⟨hm.nd,by simp,by intro a ha b' eH;simp at eH;subst eH;have:=hm.lt a ha;omega⟩
 ):P:=h
theorem zrh (h:P:=by
  replace ar:=ya ar
  refine B 10 ?_
  refine aF results150 rfl A2 ?_
  exact vb (by unfold ID;simp_all)
 ):P:=h
theorem zsh (h:P:=by
  refine aF results107 rfl A1 ?_
  exact congrArg ab (by first|exact nVn dZ hx (decide_eq_true eE)|exact Rb dZ aa)
 ):P:=h
theorem zth (h:P:=by
  have h5:vs.length<=k:=by have:=hr.1;grind
  cases k with
  |zero=>omega
  |succ m=>have:=hr.2 m A0;grind
 ):P:=h
theorem zuh (h:P:=by
  replace ar:=ya ar
  refine B 7 ?_
  refine aF results222 rfl A0 ?_
  exact vb (by simp[ee];omega)
 ):P:=h
theorem zvh (h:P:=by
  replace ar:=ya ar
  refine B 7 ?_
  refine aF results217 rfl A0 ?_
  exact vb (by simp[qe];omega)
 ):P:=h
theorem zwh (h:P:=by refine ag (j+1) ⟨by omega,dZ.next hx (decide_eq_false eE)⟩):P:=h
theorem zxh (h:P:=by
  refine aF results24 rfl A0 ?_
  exact vb zgb
 ):P:=h
theorem zyh (h:P:=by
  refine aF results218 rfl A1 ?_
  exact vb z3b
 ):P:=h
theorem zzh (h:P:=by
  refine aF results19 rfl A0 ?_
  exact vb zgb
 ):P:=h
theorem zAh (h:P:=by exact PJ.mid ⟨(congrArg (λb=>some (Value.bool b)) z8),rfl,rfl,rfl,rfl,rfl,rfl,rfl,rfl,rfl,trivial⟩):P:=h
theorem zBh (h:P:=by
  intro b_ w_ pS mO hJ wQ xN
  exact OJ.done (hk _ _ _ ⟨b_,w_,rfl,rfl,rfl,pS,hJ,wQ⟩)
 ):P:=h
theorem zCh (h:P:=by exact bK (.inl rfl) results83 aX λW hS=>⟨gI,rfl,hS.base A3 zB,rfl,YJ _ _,λq h=>zQ,λq h=>zQ⟩):P:=h
theorem zDh (h:P:=by
  rcases h with h|⟨b,off,h1,h2,h3⟩
  · exact .inl h
  · exact .inr ⟨b,off,h1,by omega,h3.up (hw b h2)⟩
 ):P:=h
theorem zEh (h:P:=by
  rcases bj.1 hb with hb|hb
  · have:=hm.lt b hb;simp only;omega
  · simp at hb;subst hb;simp
 ):P:=h
theorem zFh (h:P:=by
  intro dp
  refine B 8 ?_
  refine ag (j+1) ⟨by omega,dZ.next hx hy (Decidable.not_not.1 eE)⟩
 ):P:=h
theorem zGh (h:P:=by rcases he with rfl|rfl<;>exact key):P:=h
theorem zHh (h:P:=by exact OJ.done (hk _ _ _ ⟨bn,rfl,rfl,rfl,rfl,hfn⟩)):P:=h
theorem zIh (h:P:=by
  refine aF results135 rfl A1 ?_
  first|exact congrArg ab (ngm eE hx)|exact congrArg ab (ngo yN hx)
 ):P:=h
theorem zJh (h:P:=by
  refine aF results103 rfl A0 ?_
  exact congrArg ab zkc
 ):P:=h
theorem zKh (h:P:=by
  rcases hx with(hx|hx)|hx
  · exact .inl hx
  · have:=hV k hx;omega
  · exact .inr (hH k hk hx)
 ):P:=h
theorem zLh (h:P:=by exact⟨by omega,λh=>by have:=(th k h).1;omega,λh=>by have:=(lg W hS k h).1;omega⟩):P:=h
theorem U3 (h:P:=by exact vb zdb):P:=h
theorem zNh (h:P:=by
  rintro e w' ⟨rfl,rfl⟩
  exact⟨rfl,Below.refl _ _⟩
 ):P:=h
theorem zOh (h:P:=by
  subst hr
  have h0:xs=[]:=ah
  rw[h0];exact(nCh W).mono λe w2 h=>⟨h.1,nQh,h.2⟩
 ):P:=h
theorem zPh (h:P:=by
  intro i y hi hy
  by_cases e:i=j
  · subst e;rw[hx]at hy;cases hy;exact hp
  · exact h i y aa hy
 ):P:=h
theorem zQh (h:P:=by
  intro i y hi hy
  by_cases e:i=j
  · subst e;rw[hx]at hy;cases hy;exact hk
  · exact h i y aa hy
 ):P:=h
theorem zRh (h:P:=by
  by_cases e2:j=k
  · simp[e2]
  · simp[e2,show ¬k=j from λx=>e2 x.symm]
 ):P:=h
theorem zSh (h:P:=by
  by_cases e3:j=i'
  · subst e3
    rw[h3]
    simp[(iv.1 h3).1]
  · simp[e3]
 ):P:=h
theorem zTh (h:P:=by
  unfold IntKind.wrap
  simp[IntKind.bits,IntKind.signed]
 ):P:=h
theorem zUh (h:P:=by
  have e:a=some ⟨b,0,none⟩:=by injection he with h1 _ _;exact h1.symm
  subst e
  exact aJ
 ):P:=h
theorem Jl (h:P:=by refine ag (j+1) aa):P:=h
theorem zWh (h:P:=by
  intro dp
  refine Q8 ?_
  refine ag (j+1) ⟨by omega,dZ.next hx hy eE⟩
 ):P:=h
theorem zXh (h:P:=by
  cases r2 with
  |nil=>trivial
  |row b cap sp=>exact hS.own (b,_) oW
 ):P:=h
theorem zYh (h:P:=by
  cases r1 with
  |nil=>trivial
  |row b cap sp=>exact hS.own (b,_) oW
 ):P:=h
theorem zZh (h:P:=by
  refine Vu (λV=>hI (pre++[(⟨[np (dk p.x.g.last) (j:Int)],aS yy,some ⟨rJ,0,none⟩,1⟩:Dv)]) V) hX hV (⟨[np (dk p.x.g.last) (j:Int)],aS yy,some ⟨rJ,0,none⟩,1⟩:Dv) b2 W9 cj.alone (cj.own (b2,_) A1) (λh=>h.elim (λh=>by have:=(hM _ h).1;omega) (λh=>cj.apart (b2,_) A1 (.inr h))) (λW1 oH hv1 pY=>hy pre (⟨[np (dk p.x.g.last) (j:Int)],aS yy,some ⟨rJ,0,none⟩,1⟩:Dv) V W1 ⟨by simp only[cy,dF,fh];omega,λd hd=>?_⟩ hv1 pY)
  rcases bj.1 hd with hd|hd
  · exact zVf
  · exact zhg
 ):P:=h
theorem IB (h:P:=by
  refine aF results149 rfl A1 ?_
  exact zQf
 ):P:=h
theorem QN (h:P:=by
  refine zyd ?_
  exact zQf
 ):P:=h
theorem z2h (h:P:=by
  rcases vr with⟨h1,h2⟩|h2
  · exact zLg
  · by_cases h0:aW gI.g.ns d.c.chs=[]
    · exact⟨[],by simp,.inl h0⟩
    · exact z3f
 ):P:=h
theorem Uf (h:P:=by
  refine zXe ?_
  exact zRf
 ):P:=h
theorem XM (h:P:=by
  refine B 17 ?_
  exact zUf
 ):P:=h
theorem z5h (h:P:=by
  refine B 5 ?_
  exact X6
 ):P:=h
theorem z6h (h:P:=by
  refine B 11 ?_
  exact QN
 ):P:=h
theorem vb {a b:Bool} (h:a=b):Go.Value.bool a=Go.Value.bool b:=congrArg _ h
theorem va {a b:Array Go.Value} (h:a=b):Go.Value.agg a=Go.Value.agg b:=congrArg _ h
theorem vi {a b:Int} (h:a=b):Go.Value.int .i64 a=Go.Value.int .i64 b:=congrArg _ h
theorem vu {a b:Int} (h:a=b):Go.Value.int .u64 a=Go.Value.int .u64 b:=congrArg _ h
theorem yV (k:Q) (h:ZW Q->P:=by intro Kz;intro b w hb ha ho hm hz;replace ha:=yb ha;replace ho:=yc ho;revert b w hb hm hz ha ho;exact Kz.p):P:=h ⟨k⟩
theorem yX (k:Q) (h:ZW Q->P:=by intro Kz;refine TQ rfl rfl rfl ?_;intro b w hb ha ho hm hz;replace ha:=yb ha;replace ho:=yc ho;revert b w hb hm hz ha ho;exact Kz.p):P:=h ⟨k⟩
theorem yW (k:Q) (h:ZW Q->P:=by intro Kz;intro b ha ho;replace ha:=yb ha;replace ho:=yc ho;revert b ha ho;exact Kz.p):P:=h ⟨k⟩
end Px
