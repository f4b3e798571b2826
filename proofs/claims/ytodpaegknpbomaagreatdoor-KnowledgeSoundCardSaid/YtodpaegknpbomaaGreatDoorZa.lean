/- Proofs by default. No conditions. -/
import Derived.ProofKit
import Derived.KernelRfl
set_option linter.unusedSimpArgs false
set_option linter.unusedVariables false
set_option linter.unusedSectionVars false
namespace Px
variable {P Q A S':Prop}
section
variable {α:Type _} {a x0 x1 x2 x3 x4 x5 x6 x7 x8 x9 Dq Gs rm s9 uL x15:α} {l:List α}
theorem A0:a∈a::l:=.head _
theorem A1:a∈x0::a::l:=.tail _ A0
theorem A2:a∈x0::x1::a::l:=.tail _ A1
theorem A3:a∈x0::x1::x2::a::l:=.tail _ A2
theorem A4:a∈x0::x1::x2::x3::a::l:=.tail _ A3
theorem A5:a∈x0::x1::x2::x3::x4::a::l:=.tail _ A4
theorem A6:a∈x0::x1::x2::x3::x4::x5::a::l:=.tail _ A5
theorem A7:a∈x0::x1::x2::x3::x4::x5::x6::a::l:=.tail _ A6
theorem A8:a∈x0::x1::x2::x3::x4::x5::x6::x7::a::l:=.tail _ A7
theorem A9:a∈x0::x1::x2::x3::x4::x5::x6::x7::x8::a::l:=.tail _ A8
theorem A10:a∈x0::x1::x2::x3::x4::x5::x6::x7::x8::x9::a::l:=.tail _ A9
theorem A11:a∈x0::x1::x2::x3::x4::x5::x6::x7::x8::x9::Dq::a::l:=.tail _ A10
theorem A12:a∈x0::x1::x2::x3::x4::x5::x6::x7::x8::x9::Dq::Gs::a::l:=.tail _ A11
theorem A13:a∈x0::x1::x2::x3::x4::x5::x6::x7::x8::x9::Dq::Gs::rm::a::l:=.tail _ A12
theorem A14:a∈x0::x1::x2::x3::x4::x5::x6::x7::x8::x9::Dq::Gs::rm::s9::a::l:=.tail _ A13
theorem A15:a∈x0::x1::x2::x3::x4::x5::x6::x7::x8::x9::Dq::Gs::rm::s9::uL::a::l:=.tail _ A14
theorem A16:a∈x0::x1::x2::x3::x4::x5::x6::x7::x8::x9::Dq::Gs::rm::s9::uL::x15::a::l:=.tail _ A15
end
theorem R2 (h:P:=by exact λ_ _=>rfl):P:=h
abbrev wK:=@Option.some.injEq
abbrev aj:=@Nat.le_refl
abbrev eE:=@Nat.le_trans
abbrev qH:=@Nat.lt_of_lt_of_le
abbrev cd:=@List.mem_cons
abbrev dL:=@List.map_cons
abbrev bA:=@Array.getElem?_eq_some_iff
abbrev J8:=@List.getElem?_cons_zero
abbrev Jd:=@List.getElem?_cons_succ
abbrev cA:=@List.mem_of_getElem?
abbrev gW:=@List.getElem?_eq_some_iff
abbrev amq:=@List.getElem?_set_self
abbrev UK:=@List.getElem?_set_ne
abbrev bT:=@List.mem_map
abbrev jG:=@List.mem_iff_getElem?
abbrev eh:=@Nat.le_of_ble_eq_true
abbrev Og:=@Int.eq_ofNat_of_zero_le
abbrev DH:=@List.map_toArray
abbrev WI:=@Array.getElem?_append_left
abbrev uK:=@List.mem_filter
abbrev OZ:=@Array.getElem?_toList
abbrev awq:=@Array.getElem?_modify
abbrev mO:=@Bool.and_eq_true
abbrev dO:=@List.length_cons
abbrev eO:=@List.length_map
abbrev aAq:=@List.getElem_map
abbrev C3:=@List.ext_getElem?
abbrev aCq:=@List.drop_eq_nil_iff
abbrev cO:=@List.length_append
abbrev Wo:=@List.drop_drop
abbrev lj:=@List.getElem?_eq_getElem
abbrev TF:=@List.getElem?_append_left
abbrev uF:=@List.all_eq_true
abbrev ux:=@List.mem_range
abbrev Es:=@List.getElem?_toArray
abbrev Ky:=@Option.map_some
abbrev aLq:=@Array.getElem?_setIfInBounds
abbrev rh:=@List.size_toArray
abbrev aNq:=@List.drop_eq_getElem_cons
abbrev mr:=@Nat.zero_add
abbrev RY:=@List.getElem?_drop
abbrev XP:=@List.getElem_mem
abbrev mY:=@List.getElem?_map
abbrev cY:=@Nat.zero_le
abbrev gL:=@List.map_append
abbrev ft:=@List.map_nil
abbrev fO:=@List.length_nil
abbrev jh:=@List.append_assoc
abbrev my:=@List.eq_nil_of_length_eq_zero
abbrev BN:=@Nat.div_add_mod
abbrev qh:=@Nat.add_mul
abbrev w6:=@Nat.mul_le_mul_right
abbrev I8:=@Nat.mul_comm
abbrev xU:=@Int.toNat_natCast
abbrev ec:=@List.set_cons_succ
abbrev eX:=@List.nil_append
abbrev im:=@List.cons_append
abbrev AV:=@List.take_append_drop
abbrev wL:=@List.eraseIdx_cons_succ
abbrev a8q:=@Array.getElem?_eq_getElem
abbrev B8:=@List.length_drop
abbrev jM:=@List.length_take
abbrev Pu:=@List.drop_zero
abbrev QT:=@List.take_left'
abbrev xR:=@Nat.mul_one
abbrev ee:=@List.append_nil
abbrev Oh:=@List.take_succ_eq_append_getElem
abbrev Zx:=@List.take_succ_cons
abbrev dx:=@List.set_cons_zero
abbrev rO:=@List.eraseIdx_cons_zero
abbrev aY:=@List.mem_append
abbrev Vx:=@List.flatMap_cons
abbrev xz:=@List.mem_flatMap
abbrev uw:=@List.take_length
abbrev dV:=@List.not_mem_nil
abbrev iz:=@List.take_of_length_le
abbrev gh:=@List.mem_singleton
abbrev aqr:=@List.findIdx?_eq_some_iff_getElem
abbrev DZ:=@Bool.eq_iff_iff
abbrev Ox:=@Array.length_toList
abbrev aur:=@List.getElem?_append_right
abbrev RX:=@List.getElem?_take_of_lt
abbrev wv:=@Option.map_eq_some_iff
abbrev axr:=@List.getElem?_set
abbrev Jk:=@List.foldl_append
abbrev azr:=@List.length_pos_iff
abbrev Sa:=@List.length_filter_le
abbrev SC:=@List.filter_cons_of_pos
abbrev aCr:=@List.filter_cons_of_neg
abbrev WU:=@List.mem_of_find?_eq_some
abbrev cG:=@List.mem_append_right
abbrev uc:=@List.mem_append_left
theorem ya (h:A) (s:A->S':=by intro h;(try simp only[decide_eq_true_eq,decide_eq_false_iff_not,Bool.not_eq_true',Bool.not_eq_false']at h);exact h):S':=s h
theorem yb (h:A) (s:A->S':=by intro h;(try simp only[ah]at h);exact h):S':=s h
theorem yc (h:A) (s:A->S':=by intro h;(try simp only[bM,book,im,eX,dx,ec,ne_eq]at h);exact h):S':=s h
theorem yd (h:A) (s:A->S':=by intro h;(try simp only[bM,dx,ec,ne_eq,and_true]at h);exact h):S':=s h
theorem ye (h:A) (s:A->S':=by intro h;(try simp only[Fr,Gh.lent,Gh.no,ah,and_true,false_or]at h);exact h):S':=s h
theorem yf (h:A) (s:A->S':=by intro h;(try simp only[gL,dL,ft,aY,cd,dV,or_false,Gh.no,false_or]at h);exact h):S':=s h
theorem yg (h:A) (s:A->S':=by intro h;(try simp only[I9,and_true]at h);exact h):S':=s h
theorem zz (h:P:=by first|(first|exact True.intro|assumption|(simp only[bM,iu,book,im,eX,ee,jh,dx,ec,rO,wL,ne_eq,and_true];(repeat' apply And.intro);all_goals first|omega|exact True.intro|exact Rw.off_ge cV aa)|(simp[bM]<;>omega))|fail):P:=h
theorem zA (h:P:=by decide):P:=h
theorem zB (h:P:=by first|(first|(simp only[Over,dx,ec,rO,wL,and_true];omega)|(simp[Over]<;>omega))|fail):P:=h
theorem zC (h:P:=by simp only[ah,and_true];omega):P:=h
theorem zD (h:P:=by simp only[Over,nC,im,eX,ee,dx,and_true];(repeat' apply And.intro);all_goals first|omega|exact True.intro|exact Rw.over (Rw.ge_mono bJ aa)):P:=h
theorem zF (h:P:=by first|exact True.intro|(simp only[Over,dx,ec,rO,wL,and_true];omega)):P:=h
theorem zH (h:P:=by exact λ_ _ h=>h):P:=h
theorem zI (h:P:=by exact λh=>h):P:=h
theorem zJ (h:P:=by simp):P:=h
theorem zL (h:P:=by first|rfl|(simp only[*,true_and,false_and,and_true,and_false,decide_true,decide_false,not_true,not_false_iff,Bool.not_true,Bool.not_false,true_or,false_or,or_true,or_false];done)|simp_all):P:=h
theorem zM (h:P:=by exact λcv L' H' hd hP=>X.v (pO rfl)):P:=h
theorem zN (h:P:=by first|(first|(simp only[bM,book,im,eX,dx,ec,rO,wL,ne_eq,and_true];omega)|(simp[bM]<;>omega))|fail):P:=h
theorem zO (h:P:=by kernel_rfl):P:=h
theorem zP (h:P:=by simp only[bM,iu,book,im,eX,ee,jh,dx,ec,rO,wL,ne_eq,and_true];(repeat' apply And.intro);all_goals first|omega|exact True.intro|exact Rw.off_ge jS aa):P:=h
theorem zQ (h:P:=by simp only[Over,dx,ec,and_true];omega):P:=h
theorem zS (h:P:=by cases h):P:=h
theorem zW (h:P:=by dsimp only;omega):P:=h
theorem zX (h:P:=by first|rfl|simp[book,nY,Value.cells]):P:=h
theorem zZ (h:P:=by intro k hk hx;first|(simp only[dx,dL,ft,cd,dV,or_false]at hx;omega)|(simp at hx;omega)):P:=h
theorem z1 (h:P:=by rw[show jP c.chs=false by assumption];decide):P:=h
theorem z2 (h:P:=by first|exact True.intro|(simp only[Over,dx,ec,and_true];omega)):P:=h
theorem z3 (h:P:=by refine bM.of_mem λhm=>?_;first|(simp only[dL,ft,cd,dV,or_false]at hm;omega)|(simp at hm;omega)|(simp at hm)):P:=h
theorem z4 (h:P:=by exact λcv L' H' hd hP=>nf call89 rfl rfl (λW hS _=>nGb _ W) (λ_=>rfl)):P:=h
theorem z5 (h:P:=by unfold tY;rw[nib (f:=(λg:Gr=>decide (g.olds.length<=6))) Ms (decide_eq_false aa),Bool.and_false]):P:=h
theorem z6 (h:P:=by simp[Act.put,hD]):P:=h
theorem z7 (h:P:=by rw[jz];exact nW hN):P:=h
theorem z8 (h:P:=by simp[Act.put,jz]):P:=h
theorem z9 (h:P:=by unfold tU;rw[nib (f:=(λx:We=>decide (x.w.body.length<=200))) hy (decide_eq_false aa),Bool.and_false];rfl):P:=h
theorem zab (h:P:=by first|rfl|(rw[DZ];first|(simp;omega)|simp)):P:=h
theorem zbb (h:P:=by unfold tU;rw[nib (f:=(λx:Bx=>decide (x.w.body.length<=200))) hy (decide_eq_false aa)];rfl):P:=h
theorem Ln (h:P:=by exact λcv L' H' hd hP=>X.v (cR underlying99 rfl sizeOf3 rfl)):P:=h
theorem DA (h:P:=by first|(simp;done)|(simp;omega)|simp_all):P:=h
theorem zeb (h:P:=by first|(refine n9e (λq hq=>?_);simp only[im,eX,ee,aY,cd,dV,or_false,Rw.hp]at hq;(repeat' (rcases hq with hq|hq))<;>(try subst hq)<;>(dsimp only;omega))|fail):P:=h
theorem zfb (h:P:=by first|exact nHe aa|exact nNf hx hy cV|exact nDe aa dP aa):P:=h
theorem zgb (h:P:=by first|exact(decide_eq_true (nOg aa (λi x y hi=>dP i x y aa))).symm|exact(decide_eq_false (nnh hx hy AR)).symm|exact(decide_eq_false (λe=>by have:=congrArg List.length e;simp at this;omega)).symm):P:=h
theorem Xu (h:P:=by simp only[bM,and_true];(repeat' apply And.intro);all_goals first|omega|exact True.intro):P:=h
theorem zib (h:P:=by simp only[bM,iu,im,eX,ee,dx,and_true];(repeat' apply And.intro);all_goals first|omega|exact True.intro|exact Rw.off_ge bJ aa):P:=h
theorem zjb (h:P:=by first|exact nHh hx hy cV|exact nGf dP hlen aa|exact nTf aa):P:=h
theorem yw (h:P:=by first|(simp[Gh.lent,keys]<;>omega)|fail):P:=h
theorem zlb (h:P:=by simp only[nD];omega):P:=h
theorem y9 (h:P:=by simp only[dO,fO];omega):P:=h
theorem P8 (h:P:=by simp only[bM,im,eX,dx,ec,ne_eq,and_true];omega):P:=h
theorem C2 (h:P:=by simp only[Over,and_true];omega):P:=h
theorem BV (h:P:=by simp only[cO,dO,fO];omega):P:=h
theorem oV (h:P:=by simp[Rw.hp]):P:=h
theorem zrb (h:P:=by by_cases h9:cp=i2;(left;apply my;rw[B8];omega);(right;rw[if_neg h9,jM,Nat.min_eq_left aa,mr])):P:=h
theorem mV (h:P:=by simp;omega):P:=h
theorem Y3 (h:P:=by exact λcv L' H' hd hP=>X.v (cR underlying53 rfl sizeOf51 rfl)):P:=h
theorem Y2 (h:P:=by exact λcv L' H' hd hP=>X.v (cR underlying53 rfl sizeOf48 rfl)):P:=h
theorem ZP (h:P:=by have:=sq _ e;dsimp only at this;simp only[bM,dx,and_true];omega):P:=h
theorem JH (h:P:=by first|(simp[qy,keys]<;>try omega)|fail):P:=h
theorem Dg (h:P:=by simpa using h1):P:=h
theorem zyb (h:P:=by first|(have g16:=f16;have g17:=f17;cases eH<;>cases fy<;>simp[bM]at g16 g17 ⊢ <;>omega)|fail):P:=h
theorem zzb (h:P:=by first|(unfold tY;rw[cF,DZ];simp_all<;>omega)|fail):P:=h
theorem X9 (h:P:=by exact λcv L' H' hd hP=>X.v (cR underlying200 rfl sizeOf134 rfl)):P:=h
theorem zBb (h:P:=by exact λcv L' H' hd hP=>X.v (bK underlying54 sizeOf99 rfl rfl aa aa)):P:=h
theorem Zv (h:P:=by exact λcv L' H' hd hP=>X.v (cR underlying61 rfl sizeOf3 rfl)):P:=h
theorem zDb (h:P:=by exact λcv L' H' hd hP=>X.v (bK underlying55 sizeOf3 rfl rfl aa aa)):P:=h
theorem zEb (h:P:=by first|(unfold tU;rw[qQ,haw,DZ];simp_all<;>omega)|fail):P:=h
theorem zFb (h:P:=by first|(unfold tY;rw[DZ];simp_all<;>omega)|fail):P:=h
theorem KC (h:P:=by rw[he];omega):P:=h
theorem zHb (h:P:=by have:=xg _ e;dsimp only at this;simp only[bM,dx,and_true];omega):P:=h
theorem zIb (h:P:=by have:=(cC.links wk A1).size;omega):P:=h
theorem zJb (h:P:=by rw[hY,<-hN];exact cF):P:=h
theorem zKb (h:P:=by intro k hk hx;simp only[dx,dL,ft,cd,dV,or_false]at hx;omega):P:=h
theorem zLb (h:P:=by simp only[Over,nC,im,eX,ee,dx,and_true];(repeat' apply And.intro);all_goals first|omega|exact True.intro|exact Rw.over (Rw.ge_mono oH aa)|exact Rw.over (Rw.ge_mono ey aa)):P:=h
theorem zMb (h:P:=by exact λcv L' H' hd hP=>X.off rfl R2):P:=h
theorem zNb (h:P:=by simp only[dx,ec,im,eX,ee,Over];exact⟨by omega,by omega,Rw.over (Rw.ge_of aM A2)⟩):P:=h
theorem QY (h:P:=by simp only[eO,dO,fO];omega):P:=h
theorem zPb (h:P:=by simp only[bM,iu,book,im,eX,ee,jh,dx,ec,rO,wL,ne_eq,and_true];(repeat' apply And.intro);all_goals first|omega|exact True.intro|exact Rw.off_ge r7 aa):P:=h
theorem VC (h:P:=by simp only[aY];exact .inr (.inl hp)):P:=h
theorem zRb (h:P:=by unfold wF;rw[if_neg aa,if_neg (by rintro(h|h|h|h|h|h);(omega);(exact k1 h);(exact k2 h);(rw[aaY]at h;exact k3 h);(exact k4 h);exact k5 h),Tt];simp_all):P:=h
theorem zSb (h:P:=by rw[<-JS,<-hv1]):P:=h
theorem KP (h:P:=by simp[Gh.no]):P:=h
theorem zUb (h:P:=by rw[show(bj er 35 [nj (dk p.x.g.last) 9] []:Obj)=bj er 35 ([]++[nj (dk p.x.g.last) 9]) []from rfl,<-nYj (enc:=er) (A:=seA (nj (dk p.x.g.last) 9)) rfl];rfl):P:=h
theorem BK (h:P:=by simpa using h):P:=h
theorem Ys (h:P:=by rw[ee];exact Rw.over (Rw.ge_of aM A0)):P:=h
theorem zXb (h:P:=by rw[hY];exact aoA):P:=h
theorem zYb (h:P:=by exact λcv L' H' hd hP=>X.v (fY underlying33 sizeOf5 rfl rfl aa)):P:=h
theorem zZb (h:P:=by show q-1<q;omega):P:=h
theorem z0b (h:P:=by simp only[Over,dx,and_true];omega):P:=h
theorem z1b (h:P:=by simp only[bM,iu,im,eX,ee,and_true];(repeat' apply And.intro);all_goals first|omega|exact True.intro|exact Rw.off_ge r7 aa):P:=h
theorem Zt (h:P:=by rw[ee];exact List.perm_append_comm):P:=h
theorem ZG (h:P:=by rw[jM,Nat.min_eq_left aa]):P:=h
theorem z4b (h:P:=by simp only[dx,ec,im,eX];rfl):P:=h
theorem z5b (h:P:=by first|(unfold Xi;rw[hfq]<;>first|rfl|simp_all)|fail):P:=h
theorem z6b (h:P:=by unfold VT;simp only[<-Jn];rw[DZ];first|(simp;omega)|simp):P:=h
theorem z7b (h:P:=by exact λcv L' H' hd hP=>X.v (cR underlying108 rfl sizeOf106 rfl)):P:=h
theorem z8b (h:P:=by first|trivial|exact True.intro):P:=h
theorem z9b (h:P:=by exact λcv L' H' hd hP=>X.v (cR underlying61 rfl sizeOf55 rfl)):P:=h
theorem zac (h:P:=by exact λcv L' H' hd hP=>X.v (cR underlying108 rfl sizeOf3 rfl)):P:=h
theorem K7 (h:P:=by simpa using hl):P:=h
theorem zcc (h:P:=by exact λcv L' H' hd hP=>X.v (cR underlying59 rfl sizeOf3 rfl)):P:=h
theorem zdc (h:P:=by simp only[dx,ec,Over,and_true];omega):P:=h
theorem zec (h:P:=by intro p hp;simp at hp;subst hp;exact hfn):P:=h
theorem VF (h:P:=by simp[book,Rw.val_cells]):P:=h
theorem zgc (h:P:=by obtain⟨ta,tc,wr,r8,rfl,rfl,rfl,rfl,rfl,rfl,rfl,sW,iC,rX,oE,iJ,jS⟩:=hP;exact X.v (jg rfl rfl)):P:=h
theorem zhc (h:P:=by have Lx:=rQ q x hx;first|(rw[if_pos cV]at Lx;exact Lx)|(rw[if_neg cV]at Lx;exact Lx)):P:=h
theorem TV (h:P:=by simp[Gh.lent,keys]):P:=h
theorem zjc (h:P:=by obtain⟨ta,tc,wr,r8,rfl,rfl,rfl,rfl,rfl,rfl,sW,iC,rX,oE,iJ,jS⟩:=hP;exact X.v (jg rfl rfl)):P:=h
theorem K9 (h:P:=by simpa using h2):P:=h
theorem zlc (h:P:=by obtain⟨ta,tc,wr,r8,rfl,rfl,rfl,rfl,rfl,sW,iC,rX,oE,iJ,jS⟩:=hP;exact X.v (jg rfl rfl)):P:=h
theorem zmc (h:P:=by simp only[dx,Over,and_true];omega):P:=h
theorem znc (h:P:=by unfold Bl;rw[if_neg aa,if_neg (by rintro(h|h|h);(omega);(exact k2 h);exact k3 h),Tt];simp_all):P:=h
theorem zoc (h:P:=by first|(first|omega|(unfold du;(repeat' split)<;>omega))|fail):P:=h
theorem zpc (h:P:=by unfold Cu;rw[nib hc AR,Bool.and_false]):P:=h
theorem zqc (h:P:=by unfold Cu;rw[cF,decide_eq_true aa];rfl):P:=h
theorem VJ (h:P:=by have:=nq hx;omega):P:=h
theorem zsc (h:P:=by rw[show(Value.agg (lh (tz n m (ij n)) i)).cells=lh (tz n m (ij n)) i from rfl,lh,D5]):P:=h
theorem ztc (h:P:=by first|exact(SH dP hx (decide_eq_true cV)).symm|exact(aas dP aa).symm):P:=h
theorem zuc (h:P:=by unfold Cu;rw[decide_eq_false aa];rfl):P:=h
theorem Xb (h:P:=by show 0<1;decide):P:=h
theorem zwc (h:P:=by first|(unfold Uz;rw[hfq]<;>first|rfl|simp_all)|fail):P:=h
theorem OH (h:P:=by simp[mx]):P:=h
theorem XJ (h:P:=by rw[if_neg aa]):P:=h
theorem zzc (h:P:=by exact λcv L' H' hd hP=>X.v (bK underlying24 sizeOf61 rfl rfl aa aa)):P:=h
theorem zAc (h:P:=by exact λcv L' H' hd hP=>X.v (yD underlying3 underlying233 rfl aa aa)):P:=h
theorem zCc (h:P:=by have:=(hS.links w1 A1).size;rw[hB.block b1 aa];exact hS.old A1 hb1 cK trivial):P:=h
theorem zDc (h:P:=by rw[if_neg aa];omega):P:=h
theorem zEc (h:P:=by have:=hqy aa;omega):P:=h
theorem zFc (h:P:=by first|assumption|simp_all):P:=h
theorem zGc (h:P:=by simp only[dx,ec,im,eX,ee,Over];exact⟨by omega,Rw.over (Rw.ge_of aM A1)⟩):P:=h
theorem zHc (h:P:=by exact λcv L' H' hd hP=>X.v (IU rfl)):P:=h
theorem aa (h:P:=by omega):P:=h
theorem cV (h:P:=by assumption):P:=h
theorem zKc (h:P:=by have:=vh (enc:=λx:Mm=>(Bj x).toArray) (n:=2) aS (i:=1) (show[m1,m2][1]? =some m2 from rfl) rfl 1 zA;simpa[Bj]using this):P:=h
theorem zLc (h:P:=by obtain⟨a7,c7,w7,rfl,rfl,rfl,ko⟩:=hP;exact nf call220 rfl rfl (λW hS _=>by have h9:=nbd G.g.ms wg W.heap.size G.ma G.mc W (aj _) (hG.ms.up cJ hS.sm) (ei G.g.ns) a7 c7 (ko.up (hS.links w7 A0).size (hS.same A0 (aj _) zH trivial));rw[decide_eq_false h1]at h9;exact h9) (λ_=>rfl)):P:=h
theorem zMc (h:P:=by obtain⟨a7,c7,w7,rfl,rfl,rfl,ko⟩:=hP;exact nf call220 rfl rfl (λW hS _=>by have h9:=nbd G.g.ms wg W.heap.size G.ma G.mc W (aj _) (hG.ms.up cJ hS.sm) (ei G.g.ns) a7 c7 (ko.up (hS.links w7 A0).size (hS.same A0 (aj _) zH trivial));rw[decide_eq_true h1]at h9;exact h9) (λ_=>rfl)):P:=h
theorem zNc (h:P:=by have:=nJ (enc:=λx=>(az x).toArray) (n:=1) Gg Ju rfl zA;simpa[az]using this):P:=h
theorem zOc (h:P:=by have:=nJ (enc:=λx=>(az x).toArray) (n:=1) Gg hax rfl zA;simpa[az]using this):P:=h
theorem zPc (h:P:=by have:=nJ (enc:=λx=>(az x).toArray) (n:=1) qI hy rfl zA;simpa[az]using this):P:=h
theorem AR (h:P:=by simp_all):P:=h
theorem zRc (h:P:=by obtain⟨c0,t0,h0⟩:=hse.h0;obtain⟨c1,t1,h1⟩:=hse.h1;exact nhm a1 a0 c1 c0 t1 t0 W (λe=>hse.ne e.symm) (hS.old A4 h1 zI trivial) (hS.old A4 h0 zI trivial)):P:=h
theorem zSc (h:P:=by subst h;have h9:=pL.mem wk zJ;exact⟨λu hu=>(by have:=((f11 rfl).2.2.2.2.1 u hu).2;omega),λu hu=>(by have:=((f11 rfl).2.2.2.2.2.1 u hu).2;omega)⟩):P:=h
theorem zTc (h:P:=by intro p hp;simp at hp;subst hp;exact .inl zJ):P:=h
theorem zUc (h:P:=by first|(intro p hp;simp only[cd,dV,or_false]at hp;rcases hp with rfl|rfl<;>exact .inl zJ)|fail):P:=h
theorem zVc (h:P:=by have:=vh (i:=(j:Int)-1) aS hy aa 0 zA;simpa[fV]using this):P:=h
theorem zY (h:P:=by exact rfl):P:=h
theorem ue (h:P:=by first|assumption|exact λh=>h):P:=h
theorem aL (h:P:=by with_reducible first|exact isAgg3|exact isAgg4|exact isAgg9|exact isAgg22|exact isAgg23|exact isAgg24|exact isAgg25|exact isAgg26|exact isAgg31|exact isAgg33|exact isAgg35|exact isAgg38|exact isAgg48|exact isAgg49|exact isAgg51|exact isAgg53|exact isAgg54|exact isAgg55|exact isAgg56|exact isAgg57|exact isAgg59|exact isAgg61|exact isAgg63|exact isAgg71|exact isAgg72|exact isAgg75|exact isAgg76|exact isAgg79|exact isAgg85|exact isAgg87|exact isAgg89|exact isAgg92|exact isAgg97|exact isAgg99|exact isAgg106|exact isAgg108|exact isAgg110|exact isAgg114|exact isAgg119|exact isAgg121|exact isAgg127|exact isAgg131|exact isAgg134|exact isAgg137|exact isAgg138|exact isAgg142|exact isAgg145|exact isAgg156|exact isAgg159|exact isAgg165|exact isAgg200|exact isAgg233|exact isAgg240|exact isAgg248|exact isAgg288|exact isAgg294|exact isAgg303|exact isAgg310|exact isAgg312|exact isAgg373|exact isAgg374):P:=h
theorem oS (h:P:=by first|exact Nat.le_of_ble_eq_true rfl|exact dc (by assumption) (by assumption) (by exact rfl)):P:=h
theorem xL (h:P:=by first|exact A0|exact A1|exact A2|exact A3|exact A4|exact A5|exact A6|exact A7|exact A8|exact A9):P:=h
theorem xM (h:P:=by first|exact True.intro|assumption|(simp only[bM,iu,book,List.cons_append,List.nil_append,List.append_nil,List.append_assoc,List.set_cons_zero,List.set_cons_succ,List.eraseIdx_cons_zero,List.eraseIdx_cons_succ,ne_eq,and_true];(repeat' apply And.intro);all_goals first|omega|exact True.intro|exact Rw.off_ge (by assumption) (by omega))|(simp[bM]<;>omega)):P:=h
theorem ax (h:P:=by(try(conv=>arg 2;whnf));with_reducible first|exact sizeOf3|exact sizeOf4|exact sizeOf5|exact sizeOf9|exact sizeOf22|exact sizeOf23|exact sizeOf24|exact sizeOf25|exact sizeOf26|exact sizeOf27|exact sizeOf28|exact sizeOf29|exact sizeOf31|exact sizeOf33|exact sizeOf35|exact sizeOf38|exact sizeOf48|exact sizeOf49|exact sizeOf51|exact sizeOf53|exact sizeOf54|exact sizeOf55|exact sizeOf56|exact sizeOf57|exact sizeOf59|exact sizeOf61|exact sizeOf63|exact sizeOf71|exact sizeOf72|exact sizeOf75|exact sizeOf76|exact sizeOf77|exact sizeOf79|exact sizeOf85|exact sizeOf87|exact sizeOf89|exact sizeOf92|exact sizeOf97|exact sizeOf99|exact sizeOf100|exact sizeOf106|exact sizeOf108|exact sizeOf110|exact sizeOf114|exact sizeOf119|exact sizeOf121|exact sizeOf127|exact sizeOf131|exact sizeOf134|exact sizeOf137|exact sizeOf138|exact sizeOf142|exact sizeOf156|exact sizeOf159|exact sizeOf200|exact sizeOf233|exact sizeOf240|exact sizeOf248|exact sizeOf285|exact sizeOf287|exact sizeOf288|exact sizeOf303|exact sizeOf348|exact sizeOf350|exact sizeOf373|exact sizeOf374|exact sizeOf424):P:=h
theorem bS (h:P:=by with_reducible first|exact underlying3|exact underlying4|exact underlying5|exact underlying20|exact underlying22|exact underlying23|exact underlying24|exact underlying25|exact underlying26|exact underlying31|exact underlying33|exact underlying35|exact underlying38|exact underlying43|exact underlying48|exact underlying49|exact underlying51|exact underlying53|exact underlying54|exact underlying55|exact underlying56|exact underlying57|exact underlying59|exact underlying61|exact underlying63|exact underlying71|exact underlying72|exact underlying75|exact underlying76|exact underlying79|exact underlying85|exact underlying87|exact underlying89|exact underlying92|exact underlying97|exact underlying99|exact underlying106|exact underlying108|exact underlying110|exact underlying114|exact underlying119|exact underlying121|exact underlying123|exact underlying127|exact underlying131|exact underlying134|exact underlying138|exact underlying142|exact underlying156|exact underlying159|exact underlying162|exact underlying173|exact underlying180|exact underlying200|exact underlying222|exact underlying233|exact underlying240|exact underlying248|exact underlying287|exact underlying303|exact underlying350|exact underlying352|exact underlying370|exact underlying374|exact underlying377|exact underlying424|exact underlying426):P:=h
theorem jo (h:P:=by with_reducible first|exact zeroValue3|exact zeroValue4|exact zeroValue31|exact zeroValue33|exact zeroValue35|exact zeroValue51|exact zeroValue53|exact zeroValue55|exact zeroValue56|exact zeroValue59|exact zeroValue61|exact zeroValue63|exact zeroValue71|exact zeroValue79|exact zeroValue87|exact zeroValue89|exact zeroValue92|exact zeroValue97|exact zeroValue99|exact zeroValue110|exact zeroValue114|exact zeroValue119|exact zeroValue121|exact zeroValue127|exact zeroValue131|exact zeroValue137|exact zeroValue142|exact zeroValue156|exact zeroValue159|exact zeroValue180|exact zeroValue200|exact zeroValue233|exact zeroValue240|exact zeroValue248|exact zeroValue288|exact zeroValue352|exact zeroValue370|exact zeroValue374|exact zeroValue424|exact zeroValue426):P:=h
theorem ade (h:P:=by repeat(first|exact qp.n|(apply qp.c;exact ax))):P:=h
theorem P2 (h:P:=by first|exact rfl|exact vb (decide_eq_false (by omega))|exact vb (decide_eq_true (by omega))|exact va (Eq.trans (dU (by assumption) (by assumption) (by exact rfl)) (by exact rfl))|exact vu (by omega)|exact congrArg ab (by omega)|exact vb (by first|(simp;done)|(simp;omega))):P:=h
theorem bB (h:P:=by repeat(first|exact RS.n|(apply RS.t;exact rfl)|(apply RS.w (i:=0);exact rfl;exact aL;exact rfl;exact rfl)|(apply RS.w (i:=1);exact rfl;exact aL;exact rfl;exact rfl)|(apply RS.w (i:=2);exact rfl;exact aL;exact rfl;exact rfl)|(apply RS.w (i:=3);exact rfl;exact aL;exact rfl;exact rfl)|(apply RS.w (i:=4);exact rfl;exact aL;exact rfl;exact rfl)|(apply RS.w (i:=5);exact rfl;exact aL;exact rfl;exact rfl)|(apply RS.wAw (i:=0);exact rfl;exact aL;exact ax;exact rfl;exact rfl)|(apply RS.wA (i:=0);exact rfl;exact aL;exact ax;exact rfl;exact oS)|(apply RS.wAw (i:=1);exact rfl;exact aL;exact ax;exact rfl;exact rfl)|(apply RS.wA (i:=1);exact rfl;exact aL;exact ax;exact rfl;exact oS)|(apply RS.wAw (i:=2);exact rfl;exact aL;exact ax;exact rfl;exact rfl)|(apply RS.wA (i:=2);exact rfl;exact aL;exact ax;exact rfl;exact oS)|(apply RS.wAw (i:=3);exact rfl;exact aL;exact ax;exact rfl;exact rfl)|(apply RS.wA (i:=3);exact rfl;exact aL;exact ax;exact rfl;exact oS)|(apply RS.wAw (i:=4);exact rfl;exact aL;exact ax;exact rfl;exact rfl)|(apply RS.wA (i:=4);exact rfl;exact aL;exact ax;exact rfl;exact oS)|(apply RS.wAw (i:=5);exact rfl;exact aL;exact ax;exact rfl;exact rfl)|(apply RS.wA (i:=5);exact rfl;exact aL;exact ax;exact rfl;exact oS)|(apply RS.r;exact aL;exact rfl;exact xL;exact ue;exact ue;exact xM;exact rfl)|(apply RS.rA;exact aL;exact ax;exact rfl;exact xL;exact ue;exact ue;exact xM;exact oS))):P:=h
theorem cJ (h:P:=by first|exact Nat.le_trans hN (hS.links w A0).size|exact Nat.le_trans hN (hS.links w A1).size|exact Nat.le_trans hN (hS.links w A2).size|exact Nat.le_trans hN (hS.links w A3).size|exact Nat.le_trans hN (hS.links w A4).size|exact Nat.le_trans hN (hS.links w A5).size|exact Nat.le_trans hN (hS.links w A6).size|exact Nat.le_trans hN (hS.links w A7).size|exact Nat.le_trans hN (hS.links w A8).size|exact Nat.le_trans hN (hS.links w A9).size):P:=h
theorem NM (h:P:=by first|(first|((with_reducible show RV _ _ _ _ _ (.move _) _);exact pO zY)|((with_reducible show RV _ _ _ _ _ (.assign _) _);exact ur zY)|((with_reducible show RV _ _ _ _ _ (.fieldAddr _ _ _) _);exact cR bS zY ax zY)|((with_reducible show RV _ _ _ _ _ (.extract _ _) _);exact jg zY zY)|((with_reducible show RV _ _ _ _ _ (.binOp .add _ _ _ _) _);first|exact jx zY zY aa aa|exact IH zY zY aa aa)|((with_reducible show RV _ _ _ _ _ (.pick _ _ _) _);first|exact acG zY zY|exact acH zY zY)|((with_reducible show RV _ _ _ _ _ (.call _) _);first|exact mE bS zY|exact U4 bS zY))|(first|((with_reducible show RV _ _ _ _ _ (.binOp .lss _ _ _ _) _);exact Bw zY zY)|((with_reducible show RV _ _ _ _ _ (.indexAddr _ _ _) _);first|exact bK bS ax zY zY aa aa|exact uY bS ax zY zY aa aa)|((with_reducible show RV _ _ _ _ _ (.load _ _) _);first|exact CQ (i:=0) zY zY aL zY|exact CQ (i:=1) zY zY aL zY|exact CQ (i:=2) zY zY aL zY|exact CQ (i:=3) zY zY aL zY|exact CQ (i:=4) zY zY aL zY|exact CQ (i:=5) zY zY aL zY|exact anC zY ue aL xL ue xM zY|exact pY (i:=0) zY zY aL ax zY|exact pY (i:=1) zY zY aL ax zY|exact pY (i:=2) zY zY aL ax zY|exact pY (i:=3) zY zY aL ax zY|exact pY (i:=4) zY zY aL ax zY|exact pY (i:=5) zY zY aL ax zY|exact US zY ue aL ax xL ue xM zY|exact uN (i:=0) zY zY aL ax oS|exact uN (i:=1) zY zY aL ax oS|exact uN (i:=2) zY zY aL ax oS|exact uN (i:=3) zY zY aL ax oS|exact uN (i:=4) zY zY aL ax oS|exact uN (i:=5) zY zY aL ax oS|exact acQ zY ue aL ax xL ue xM oS)|((with_reducible show RV _ _ _ _ _ (.unOp .not _ _) _);exact kq zY)|((with_reducible show RV _ _ _ _ _ (.binOp .geq _ _ _ _) _);exact acK zY zY)|((with_reducible show RV _ _ _ _ _ (.binOp .eql _ _ _ _) _);first|exact kY zY zY|exact QD zY zY)|((with_reducible show RV _ _ _ _ _ (.nilCheck _) _);exact IU zY))|(first|((with_reducible show RV _ _ _ _ _ (.binOp .gtr _ _ _ _) _);exact acJ zY zY)|((with_reducible show RV _ _ _ _ _ (.makeFunc _ _ _) _);exact acP zY)|((with_reducible show RV _ _ _ _ _ (.binOp .neq _ _ _ _) _);first|exact dz zY zY|exact Tp bS zY zY|exact rW bS zY zY)|((with_reducible show RV _ _ _ _ _ (.binOp .sub _ _ _ _) _);first|exact pq zY zY aa aa|exact uP zY zY aa aa)|((with_reducible show RV _ _ _ _ _ (.convert _ _ _) _);first|exact yD bS bS zY aa aa|exact yJ bS bS zY aa aa)|((with_reducible show RV _ _ _ _ _ (.build _ _) _);first|exact U1 bS jo ax zY zY|exact vF bS jo ade zY zY)|((with_reducible show RV _ _ _ _ _ (.binOp .leq _ _ _ _) _);exact acI zY zY))|(first|((with_reducible show RV _ _ _ _ _ (.binOp .mul _ _ _ _) _);exact vP zY zY aa aa))):P:=h
theorem zR (h:P:=by repeat(first|exact trivial|refine⟨rfl,?_⟩)):P:=h
theorem zDr (h:P:=by repeat(first|exact Dr.z|apply Dr.s)):P:=h
theorem zKn (h:P:=by repeat(first|exact Kn.nil|(apply Kn.keep;exact rfl)|(apply Kn.skip;exact rfl))):P:=h
theorem zSU (h:P:=by repeat(first|exact trivial|refine⟨rfl,?_⟩)):P:=h
theorem zKS (h:P:=by repeat(first|(apply KS.done;exact rfl)|(apply KS.keep;exact rfl)|(apply KS.skip;exact rfl)|exact KS.nil)):P:=h
theorem zch (h:P:=by intro cv L' H' hd hP;(rcases cv with _|⟨v1,_|⟨v2,_|⟨_,_⟩⟩⟩<;>try exact False.elim hP);all_goals(first|obtain⟨rfl,rfl⟩:=hP|obtain⟨b6,rfl,rfl,rfl,ky,C5⟩:=hP|obtain⟨b6,b7,c7,s7,rfl,rfl,rfl,rfl,ky,C5,uq,Vr,C6⟩:=hP);all_goals(first|exact X.v (ar isAgg3 rfl A0 dA cX zN rfl))):P:=h
theorem zci (h:P:=by intro cv L' H' hd hP;(rcases cv with _|⟨v1,_|⟨v2,_|⟨v3,_|⟨_,_⟩⟩⟩⟩<;>try exact False.elim hP);all_goals(first|obtain⟨rfl,rfl⟩:=hP|obtain⟨b6,rfl,rfl,rfl,ky,C5⟩:=hP|obtain⟨b6,b7,c7,s7,rfl,rfl,rfl,rfl,ky,C5,uq,Vr,C6⟩:=hP|obtain⟨b6,b7,c7,s7,iF,c12,X6,rfl,rfl,rfl,rfl,rfl,ky,C5,uq,Vr,C6,X7,ag6,X8⟩:=hP);all_goals(first|exact X.v (ar isAgg9 rfl A0 dA cX zN rfl))):P:=h
theorem zcj (h:P:=by intro cv L' H' hd hP;(rcases cv with _|⟨v1,_|⟨v2,_|⟨_,_⟩⟩⟩<;>try exact False.elim hP);all_goals(first|obtain⟨rfl,rfl⟩:=hP|obtain⟨b9,rfl,rfl,rfl,xP,QJ⟩:=hP|obtain⟨b9,gd,Je,Kj,rfl,rfl,rfl,rfl,xP,QJ,Kk,QK,yY⟩:=hP);all_goals(first|exact X.v (ar isAgg134 rfl A0 DX BR zN rfl))):P:=h
theorem OP (h:P:=by intro cv L' H' hd hP;(rcases cv with _|⟨v1,_|⟨_,_⟩⟩<;>try exact False.elim hP);all_goals(first|obtain⟨rfl,rfl⟩:=hP|obtain⟨a7,c7,w7,rfl,rfl,rfl,ko⟩:=hP);all_goals(first|exact X.v (ar isAgg48 rfl A0 hb1 cK trivial rfl)|exact X.v (ar isAgg48 rfl A1 hb1 cK trivial rfl)|exact X.v (RV.re (dy isAgg51 sizeOf51 rfl A0 hb1 cK trivial (eh rfl)) rfl)|exact X.v (RV.re (dy isAgg51 sizeOf51 rfl A1 hb1 cK trivial (eh rfl)) rfl))):P:=h
theorem V7 (h:P:=by intro cv L' H' hd hP;(rcases cv with _|⟨v1,_|⟨v2,_|⟨v3,_|⟨v4,_|⟨_,_⟩⟩⟩⟩⟩<;>try exact False.elim hP);all_goals(first|obtain⟨rfl,rfl⟩:=hP|obtain⟨mT,rfl,rfl,rfl,lx⟩:=hP|obtain⟨mT,bn,cn,sn,rfl,rfl,rfl,rfl,rfl,lx,hfn,uD⟩:=hP|obtain⟨mT,bn,cn,sn,rfl,rfl,rfl,rfl,lx,hfn,uD⟩:=hP|obtain⟨mT,bn,cn,sn,ov,rfl,rfl,rfl,rfl,rfl,rfl,lx,hfn,uD,sY⟩:=hP);all_goals(first|exact X.v (bU (i:=3) rfl isAgg134 rfl rfl)|exact X.v (bU (i:=4) rfl isAgg134 rfl rfl)|exact X.v (bU (i:=5) rfl isAgg134 rfl rfl)|exact X.v (bU (i:=6) rfl isAgg134 rfl rfl)|exact X.v (bU (i:=0) rfl isAgg3 rfl rfl)|exact X.v (bU (i:=1) rfl isAgg3 rfl rfl)|exact X.v (bU (i:=2) rfl isAgg3 rfl rfl)|exact X.v (bU (i:=3) rfl isAgg3 rfl rfl))):P:=h
theorem yh (h:P:=by intro cv L' H' hd hP;(rcases cv with _|⟨v1,_|⟨v2,_|⟨v3,_|⟨_,_⟩⟩⟩⟩<;>try exact False.elim hP);all_goals(first|obtain⟨rfl,rfl⟩:=hP|obtain⟨bn,rfl,rfl,rfl,rfl,hfn⟩:=hP|obtain⟨bn,rfl,rfl,rfl,hfn⟩:=hP|obtain⟨bn,ov,rfl,rfl,rfl,rfl,rfl,hfn,sY⟩:=hP);all_goals(first|exact X.v (bU (i:=2) rfl isAgg134 rfl rfl)|exact X.v (bU (i:=3) rfl isAgg134 rfl rfl)|exact X.v (bU (i:=4) rfl isAgg134 rfl rfl)|exact X.v (bU (i:=0) rfl isAgg3 rfl rfl)|exact X.v (bU (i:=1) rfl isAgg3 rfl rfl)|exact X.v (bU (i:=2) rfl isAgg3 rfl rfl)|exact X.v (bU (i:=0) rfl isAgg106 rfl rfl)|exact X.v (bU (i:=1) rfl isAgg106 rfl rfl)|exact X.v (bU (i:=2) rfl isAgg106 rfl rfl)|exact nf call90 rfl rfl (λW hS _=>Zp x.w.body N x.w.ba x.w.bc W cJ (gF.up rk (aj _) (λk hk=>(hS.links w A1).block k aa (λhx=>by first|(rcases hx with hx|hx;(exact hx);simp only[gL,dL,ft,im,eX,ee,aY,cd,dV,or_false]at hx;rcases hx with hx|hx|hx|hx|hx<;>first|omega|(have:=hq _ hx;omega)|(have h9:=hfn.not (w:=w) A1;omega)|(have h9:=sY.not (w:=w) A1;omega))|fail)))) (λ_=>rfl)|exact nf call90 rfl rfl (λW hS _=>Zp x.w.body N x.w.ba x.w.bc W cJ (gF.up rk (aj _) (λk hk=>(hS.links w A1).block k aa (λhx=>by first|(rcases hx with hx|hx;(exact hx);simp only[gL,dL,ft,im,eX,ee,aY,cd,dV,or_false]at hx;rcases hx with hx|hx|hx|hx|hx|hx<;>first|omega|(have:=hq _ hx;omega)|(have h9:=hfn.not (w:=w) A1;omega)|(have h9:=sY.not (w:=w) A1;omega))|fail)))) (λ_=>rfl)|exact nf call90 rfl rfl (λW hS _=>Zp x.w.body N x.w.ba x.w.bc W cJ (gF.up rk (aj _) (λk hk=>(hS.links w A1).block k aa (λhx=>by first|(rcases hx with hx|hx;(exact hx);simp only[gL,dL,ft,im,eX,ee,aY,cd,dV,or_false]at hx;rcases hx with hx|hx|hx|hx|hx|hx|hx<;>first|omega|(have:=hq _ hx;omega)|(have h9:=hfn.not (w:=w) A1;omega)|(have h9:=sY.not (w:=w) A1;omega))|fail)))) (λ_=>rfl)|exact X.v (bU (i:=1) rfl isAgg134 rfl rfl)|exact nf call129 rfl rfl (λW hS _=>by have h1:=hS.own (b5,_) A0;have h2:=JD (cI y.f) W.heap.size (ao b5) 32 W (aj _) (.inr ⟨b5,0,rfl,(bA.1 h1).1,cx.dgo h1 rfl (eh rfl) fE⟩);rw[nS]at h2;exact h2) (λ_=>rfl)|exact nf call129 rfl rfl (λW hS _=>by have h1:=hS.own (b5,_) A1;have h2:=JD (cI y.f) W.heap.size (ao b5) 32 W (aj _) (.inr ⟨b5,0,rfl,(bA.1 h1).1,cx.dgo h1 rfl (eh rfl) fE⟩);rw[nS]at h2;exact h2) (λ_=>rfl)|exact nf call129 rfl rfl (λW hS _=>by have h1:=hS.own (b5,_) A2;have h2:=JD (cI y.f) W.heap.size (ao b5) 32 W (aj _) (.inr ⟨b5,0,rfl,(bA.1 h1).1,cx.dgo h1 rfl (eh rfl) fE⟩);rw[nS]at h2;exact h2) (λ_=>rfl)|exact nf call129 rfl rfl (λW hS _=>JD y.w.body N y.w.ba y.w.bc W cJ (gF.up rk (aj _) (λk hk=>(hS.links w A1).block k aa (λhx=>by first|(rcases hx with hx|hx;(exact hx);simp only[gL,dL,ft,im,eX,ee,aY,cd,dV,or_false]at hx;rcases hx with hx|hx|hx<;>first|omega|(have:=hq _ hx;omega)|(have h9:=hfn.not (w:=w) A1;omega)|(have h9:=sY.not (w:=w) A1;omega))|fail)))) (λ_=>rfl)|exact nf call129 rfl rfl (λW hS _=>JD y.w.body N y.w.ba y.w.bc W cJ (gF.up rk (aj _) (λk hk=>(hS.links w A1).block k aa (λhx=>by first|(rcases hx with hx|hx;(exact hx);simp only[gL,dL,ft,im,eX,ee,aY,cd,dV,or_false]at hx;rcases hx with hx|hx|hx|hx<;>first|omega|(have:=hq _ hx;omega)|(have h9:=hfn.not (w:=w) A1;omega)|(have h9:=sY.not (w:=w) A1;omega))|fail)))) (λ_=>rfl)|exact nf call129 rfl rfl (λW hS _=>JD y.w.body N y.w.ba y.w.bc W cJ (gF.up rk (aj _) (λk hk=>(hS.links w A1).block k aa (λhx=>by first|(rcases hx with hx|hx;(exact hx);simp only[gL,dL,ft,im,eX,ee,aY,cd,dV,or_false]at hx;rcases hx with hx|hx|hx|hx|hx<;>first|omega|(have:=hq _ hx;omega)|(have h9:=hfn.not (w:=w) A1;omega)|(have h9:=sY.not (w:=w) A1;omega))|fail)))) (λ_=>rfl))):P:=h
theorem Fu (h:P:=by intro cv L' H' hd hP;(rcases cv with _|⟨v1,_|⟨v2,_|⟨_,_⟩⟩⟩<;>try exact False.elim hP);all_goals(first|obtain⟨rfl,rfl⟩:=hP|obtain⟨yi,rfl,rfl,rfl,rfl,r7,sa⟩:=hP|obtain⟨yi,rfl,rfl,rfl,r7,sa⟩:=hP);all_goals(first|exact X.v (ar isAgg3 rfl A0 hb1 cK zPb rfl)|exact nf call90 rfl rfl (λW hS _=>by have h1:=hS.old A0 hb1 cK z1b;have h2:=Zp (cI c.par) W.heap.size (some ⟨b1,2,none⟩) 32 W (aj _) (.inr ⟨b1,2,rfl,(bA.1 h1).1,cx.dgo h1 rfl (eh rfl) qg.bp⟩);rw[nS]at h2;exact h2) (λ_=>rfl)|exact X.v (eB (i:=2) rfl isAgg200 sizeOf200 rfl rfl)|exact X.v (ar isAgg55 rfl A0 hb1 cK zPb rfl)|exact X.v (eB (i:=1) rfl isAgg200 sizeOf200 rfl rfl)|exact X.v (eB (i:=0) rfl isAgg200 sizeOf200 rfl rfl)|exact nf call90 rfl rfl (λW hS _=>by have h1:=hS.old A0 hb1 cK z1b;have h2:=Zp (cI c.conf) W.heap.size (some ⟨b1,39,none⟩) 32 W (aj _) (.inr ⟨b1,39,rfl,(bA.1 h1).1,cx.dgo h1 rfl (eh rfl) qg.bf⟩);rw[nS]at h2;exact h2) (λ_=>rfl))):P:=h
theorem O3 (h:P:=by intro cv L' H' hd hP;(rcases cv with _|⟨v1,_|⟨v2,_|⟨v3,_|⟨v4,_|⟨v5,_|⟨_,_⟩⟩⟩⟩⟩⟩<;>try exact False.elim hP);all_goals(first|obtain⟨rfl,rfl⟩:=hP|obtain⟨ta,tc,wr,rfl,rfl,rfl,sW,iC,rX⟩:=hP|obtain⟨ta,tc,wr,r8,rfl,rfl,rfl,rfl,rfl,rfl,rfl,sW,iC,rX,oE,iJ,jS⟩:=hP|obtain⟨ta,tc,wr,r8,rfl,rfl,rfl,rfl,rfl,rfl,sW,iC,rX,oE,iJ,jS⟩:=hP|obtain⟨ta,tc,wr,r8,rfl,rfl,rfl,rfl,rfl,sW,iC,rX,oE,iJ,jS⟩:=hP|obtain⟨ta,tc,wr,r8,rfl,rfl,rfl,rfl,sW,iC,rX,oE,iJ,jS⟩:=hP);all_goals(first|exact X.v (fb isAgg53 sizeOf53 rfl A4 dw bX zP rfl)|exact X.v (fb isAgg53 sizeOf53 rfl A5 dw bX zP rfl)|exact X.v (ar isAgg54 rfl A3 dA cX zP rfl)|exact X.v (ar isAgg54 rfl A4 dA cX zP rfl)|exact X.v (ar isAgg3 rfl A3 dA cX zP rfl)|exact X.v (ar isAgg3 rfl A4 dA cX zP rfl)|exact X.v (ar isAgg55 rfl A3 dA cX zP rfl)|exact X.v (ar isAgg55 rfl A4 dA cX zP rfl))):P:=h
theorem zcp (h:P:=by intro cv L' H' hl hd hP;(obtain⟨x3,x4,x8,x9,rfl⟩:=vo hl;rcases x3 with _|v3<;>rcases x4 with _|v4<;>rcases x8 with _|v8<;>rcases x9 with _|v9<;>try exact False.elim hP);all_goals(first|obtain⟨rfl,rfl⟩:=hP|obtain⟨jH,rfl,rfl,rfl,lX⟩:=hP|obtain⟨iZ,rfl,rfl,rfl,mH⟩:=hP|obtain⟨jH,iZ,rfl,rfl,rfl,rfl,lX,mH⟩:=hP|obtain⟨jH,mz,gX,ja,rfl,rfl,rfl,rfl,lX,qP,gY⟩:=hP|obtain⟨jH,mz,gX,ja,iZ,rfl,rfl,rfl,rfl,rfl,lX,qP,gY,mH⟩:=hP|obtain⟨jH,mz,gX,ja,iZ,Dm,xi,Ae,rfl,rfl,rfl,rfl,rfl,rfl,lX,qP,gY,mH,Af,vB⟩:=hP);all_goals(first|exact X.v (bU (i:=3) rfl isAgg72 rfl rfl)|exact X.v (bU (i:=4) rfl isAgg72 rfl rfl)|exact X.v (bU (i:=5) rfl isAgg72 rfl rfl)|exact X.v (eB (i:=0) rfl isAgg33 sizeOf33 rfl rfl)|exact X.v (eB (i:=1) rfl isAgg33 sizeOf33 rfl rfl)|exact X.v (eB (i:=2) rfl isAgg33 sizeOf33 rfl rfl)|exact X.v (bU (i:=3) rfl isAgg55 rfl rfl)|exact X.v (bU (i:=4) rfl isAgg55 rfl rfl)|exact X.v (bU (i:=5) rfl isAgg55 rfl rfl))):P:=h
theorem zcq (h:P:=by intro cv L' H' hl hd hP;(obtain⟨rm,s9,uL,ym,yn,rfl⟩:=tQ hl;rcases rm with _|v12<;>rcases s9 with _|xl<;>rcases uL with _|Cs<;>rcases ym with _|xk<;>rcases yn with _|v17<;>try exact False.elim hP);all_goals(first|obtain⟨rfl,rfl⟩:=hP|obtain⟨b7,rfl,rfl,rfl,kh⟩:=hP|obtain⟨Xn,fq,rfl,rfl,rfl,rfl,rfl,gi,jZ,lY,lZ⟩:=hP|obtain⟨Xn,fq,rfl,rfl,rfl,rfl,gi,jZ,lY,lZ⟩:=hP|obtain⟨Xn,fq,rfl,rfl,rfl,gi,jZ,lY,lZ⟩:=hP|obtain⟨Xn,fq,b7,rfl,rfl,rfl,rfl,rfl,rfl,rfl,gi,jZ,lY,lZ,kh,td⟩:=hP|obtain⟨Xn,fq,b7,rfl,rfl,rfl,rfl,rfl,rfl,gi,jZ,lY,lZ,kh,td⟩:=hP|obtain⟨Xn,fq,b7,rfl,rfl,rfl,rfl,rfl,gi,jZ,lY,lZ,kh,td⟩:=hP|obtain⟨Xn,fq,b7,rfl,rfl,rfl,rfl,gi,jZ,lY,lZ,kh,td⟩:=hP);all_goals(first|exact X.v (ar isAgg3 rfl A0 dA cX zN rfl)|exact X.v (ar isAgg3 rfl A1 dA cX zN rfl)|exact X.v (ar isAgg24 rfl A1 dw bX zN rfl)|exact X.v (ar isAgg24 rfl A2 dw bX zN rfl)|exact X.v (ar isAgg55 rfl A1 dw bX zN rfl)|exact X.v (ar isAgg55 rfl A2 dw bX zN rfl)|exact X.v (ar (v:=ab (i:Int)) isAgg3 rfl A2 Gf zI Xu zNc)|exact X.v (ar (v:=ab (i:Int)) isAgg3 rfl A3 Gf zI Xu zNc)|exact X.v (RV.re (v':=.agg (cM c)) (dy isAgg61 sizeOf61 rfl A2 tS zI Xu (dc mI hc rfl)) (va (dU mI hc rfl)))|exact X.v (RV.re (v':=.agg (cM c)) (dy isAgg61 sizeOf61 rfl A3 tS zI Xu (dc mI hc rfl)) (va (dU mI hc rfl))))):P:=h
theorem Jx (h:P:=by intro cv L' H' hd hP;(rcases cv with _|⟨v1,_|⟨_,_⟩⟩<;>try exact False.elim hP);all_goals(first|obtain⟨rfl,rfl,rfl⟩:=hP|obtain⟨rfl,rfl⟩:=hP);all_goals(first|exact X.v (ar isAgg55 rfl A2 dw bX zN rfl)|exact X.v (ar (v:=ab (i:Int)) isAgg3 rfl A3 Gf zI Xu zNc)|exact X.v (ar isAgg24 rfl A2 dw bX zN rfl)|exact X.v (RV.re (v':=.agg (cM c)) (dy isAgg61 sizeOf61 rfl A3 tS zI Xu (dc mI hc rfl)) (va (dU mI hc rfl)))|exact X.v (RV.re (dy isAgg33 sizeOf33 rfl A1 dA cX zN (eh rfl)) rfl)|exact X.v (eB (i:=0) rfl isAgg53 sizeOf53 rfl rfl)|exact X.v (eB (i:=2) rfl isAgg61 sizeOf61 rfl rfl)|exact X.v (eB (i:=1) rfl isAgg127 sizeOf127 rfl rfl))):P:=h
theorem zcs (h:P:=by intro cv L' H' hl hd hP;(obtain⟨x3,x4,x8,rfl⟩:=py hl;rcases x3 with _|v3<;>rcases x4 with _|v4<;>rcases x8 with _|v8<;>try exact False.elim hP);all_goals(first|obtain⟨rfl,rfl⟩:=hP|obtain⟨fG,rfl,rfl,rfl,jR⟩:=hP|obtain⟨o8,rfl,rfl,rfl,xp⟩:=hP|obtain⟨fG,o8,rfl,rfl,rfl,rfl,jR,xp⟩:=hP|obtain⟨fG,ot,iv,iW,rfl,rfl,rfl,rfl,jR,lW,iG⟩:=hP|obtain⟨fG,ot,iv,iW,o8,rfl,rfl,rfl,rfl,rfl,jR,lW,iG,xp⟩:=hP);all_goals(first|exact X.v (bU (i:=0) rfl isAgg3 rfl rfl)|exact X.v (bU (i:=1) rfl isAgg3 rfl rfl)|exact X.v (bU (i:=2) rfl isAgg3 rfl rfl)|exact X.v (fH (i:=0) rfl isAgg53 sizeOf53 rfl (eh rfl))|exact X.v (fH (i:=1) rfl isAgg53 sizeOf53 rfl (eh rfl))|exact X.v (fH (i:=2) rfl isAgg53 sizeOf53 rfl (eh rfl)))):P:=h
theorem zct (h:P:=by intro cv L' H' hd hP;(rcases cv with _|⟨v1,_|⟨v2,_|⟨v3,_|⟨v4,_|⟨_,_⟩⟩⟩⟩⟩<;>try exact False.elim hP);all_goals(first|obtain⟨rfl,rfl⟩:=hP|obtain⟨b9,c9,w9,pT,vQ,rfl,rfl,rfl,rfl,sF,uj,ph,sJ,HO⟩:=hP|obtain⟨b9,c9,w9,pT,vQ,rfl,rfl,rfl,sF,uj,ph,sJ,HO⟩:=hP|obtain⟨b9,c9,w9,pT,vQ,bR,rfl,rfl,rfl,rfl,rfl,rfl,sF,uj,ph,sJ,HO,wH,WZ,xx⟩:=hP|obtain⟨b9,c9,w9,pT,vQ,bR,rfl,rfl,rfl,rfl,rfl,sF,uj,ph,sJ,HO,wH,WZ,xx⟩:=hP);all_goals(first|exact X.v (fb isAgg127 sizeOf127 rfl A1 DX BR zN rfl)|exact X.v (fb isAgg127 sizeOf127 rfl A2 DX BR zN rfl)|exact X.v (fb isAgg127 sizeOf127 rfl A0 AP QW zN rfl)|exact X.v (fb isAgg127 sizeOf127 rfl A1 AP QW zN rfl))):P:=h
theorem zcu (h:P:=by intro cv L' H' hd hP;(rcases cv with _|⟨v1,_|⟨v2,_|⟨v3,_|⟨_,_⟩⟩⟩⟩<;>try exact False.elim hP);all_goals(first|obtain⟨rfl,rfl⟩:=hP|obtain⟨bq,wq,rfl,rfl,rfl,rfl,pG,PL,PM⟩:=hP|obtain⟨bq,wq,rfl,rfl,rfl,pG,PL,PM⟩:=hP|obtain⟨bq,wq,hd,rfl,rfl,rfl,rfl,rfl,pG,PL,PM,hhd⟩:=hP);all_goals(first|exact X.v (eB (i:=1) rfl isAgg127 sizeOf127 rfl rfl)|exact X.v (eB (i:=2) rfl isAgg61 sizeOf61 rfl rfl))):P:=h
theorem zcv (h:P:=by intro cv L' H' hd hP;(rcases cv with _|⟨v1,_|⟨v2,_|⟨_,_⟩⟩⟩<;>try exact False.elim hP);all_goals(first|obtain⟨rfl,rfl⟩:=hP|obtain⟨oO,qV,rfl,rfl,rfl,xB,xC,xD⟩:=hP|obtain⟨oO,qV,iN,oP,qW,rfl,rfl,rfl,rfl,xB,xC,xD,PN,Bp⟩:=hP);all_goals(first|exact X.v (bU (i:=6) rfl isAgg23 rfl rfl)|exact X.v (bU (i:=7) rfl isAgg23 rfl rfl)|exact X.v (ar (v:=ab 0) isAgg3 rfl A7 yl yw P8 rfl)|exact X.v (ar (v:=ab 0) isAgg3 rfl A8 yl yw P8 rfl)|exact X.v (ar (v:=ab pp) isAgg3 rfl A7 yl yw P8 rfl)|exact X.v (ar (v:=ab pp) isAgg3 rfl A8 yl yw P8 rfl))):P:=h
theorem Xd (h:P:=by intro cv L' H' hd hP;(rcases cv with _|⟨v1,_|⟨v2,_|⟨_,_⟩⟩⟩<;>try exact False.elim hP);all_goals(first|obtain⟨rfl,rfl⟩:=hP|obtain⟨oQ,sM,rfl,rfl,rfl,xE,xF,xG⟩:=hP|obtain⟨oQ,sM,Ar,M8,Ug,rfl,rfl,rfl,rfl,xE,xF,xG,H8,abZ⟩:=hP);all_goals(first|exact X.v (bU (i:=7) rfl isAgg77 rfl rfl)|exact X.v (bU (i:=8) rfl isAgg77 rfl rfl)|exact X.v (ar (v:=ab 0) isAgg3 rfl A8 yl yw P8 rfl)|exact X.v (ar (v:=ab 0) isAgg3 rfl A9 yl yw P8 rfl)|exact X.v (RV.re (v':=ak) (oe (ev:=(id:Value->Value)) underlying77 underlying3 zeroValue55 Bd (bE.own (i:=8) rfl) rfl rfl) rfl)|exact X.v (RV.re (v':=ak) (oe (ev:=(id:Value->Value)) underlying77 underlying3 zeroValue55 Bd (bE.own (i:=9) rfl) rfl rfl) rfl)|exact X.v (ar (v:=ab 5000) isAgg3 rfl A8 pG yw P8 rfl)|exact X.v (ar (v:=ab 5000) isAgg3 rfl A9 pG yw P8 rfl))):P:=h
theorem zcx (h:P:=by intro cv L' H' hd hP;(rcases cv with _|⟨v1,_|⟨_,_⟩⟩<;>try exact False.elim hP);all_goals(first|obtain⟨rfl,rfl⟩:=hP|obtain⟨b8,rfl,rfl,rfl,CZ⟩:=hP);all_goals(first|exact X.v (ar isAgg24 rfl A0 hb1 cK (by simp only[bM,iu,book,im,eX,ee,jh,dx,ec,rO,wL,ne_eq,and_true];(repeat' apply And.intro);all_goals first|omega|exact True.intro|exact Rw.off_ge bJ aa) rfl)|exact X.v (RV.re (v':=ab ((jT d:Nat):Int)) (Bc (v:=ab d.at_) isAgg3 rfl Sx zOc) (congrArg ab hdi))|exact X.v (RV.re (v':=.agg (cM d.c)) (dy isAgg61 sizeOf61 rfl A1 tS zI zib (dc mI lq.1 rfl)) (va (dU mI lq.1 rfl)))|exact X.v (RV.re (v':=.agg (bF d.x)) (lE isAgg53 sizeOf53 rfl (Cy) (dc kN Al rfl)) (va (dU kN Al rfl))))):P:=h
theorem zcy (h:P:=by intro cv L' H' hd hP;(rcases cv with _|⟨v1,_|⟨_,_⟩⟩<;>try exact False.elim hP);all_goals(first|obtain⟨rfl,rfl⟩:=hP|obtain⟨af,cf,wf,rfl,rfl,rfl,hsf⟩:=hP);all_goals(first|exact X.v (fb isAgg31 sizeOf31 rfl A3 dA cX trivial rfl)|exact X.v (fb isAgg31 sizeOf31 rfl A4 dA cX trivial rfl))):P:=h
structure ZW (Q:Prop):Prop where
  p:Q
inductive Ct:Nat->Prop where
  |mk (n:Nat):Ct n
theorem Ct.dec {n:Nat} (_:Ct (n+1)):Ct n:=.mk n
theorem Ct.fin {P:Prop} (_:Ct 0) (h:P):P:=h
theorem Xl {n:Nat} (c:Ct n) (k:Q) (h:Ct n->ZW Q->P:=by intro Cz Kz;(repeat(replace Cz:=Ct.dec Cz;(first|(first|(with_reducible refine PJ.next ?_)|(with_reducible refine OJ.done ?_)|(with_reducible refine CJ.seq ?_)|(with_reducible refine CJ.region ?_)|(with_reducible refine CJ.ret ?_)|(with_reducible refine PJ.retThen ?_)|(with_reducible refine CJ.skip ?_))|(first|(with_reducible refine PJ.exThen ?_)|(with_reducible refine CJ.block ?_)|(with_reducible refine PJ.norBlock ?_)|(with_reducible refine PJ.retBlock ?_)|(with_reducible refine PJ.exHit ?_)|(with_reducible refine CJ.exit ?_)|((with_reducible refine CJ.condT ?_ ?_);· exact rfl))|(first|((with_reducible refine CJ.condF ?_ ?_);· exact rfl))|first|(first|((with_reducible show OJ _ _ _ (⟨_,.store _ _ _,_,_,_,_⟩::_) _ _ _ _ _);first|refine jO (i:=0) zY ax zY zY zY zY zY zY ?_|refine jO (i:=1) zY ax zY zY zY zY zY zY ?_|refine jO (i:=2) zY ax zY zY zY zY zY zY ?_|refine jO (i:=3) zY ax zY zY zY zY zY zY ?_|refine jO (i:=4) zY ax zY zY zY zY zY zY ?_|refine jO (i:=5) zY ax zY zY zY zY zY zY ?_|refine OJ.off rfl zA rfl ?_)|((with_reducible show OJ _ _ _ (⟨_,.alloc _,_,_,_,_⟩::_) _ _ _ _ _);first|refine acO jo zY zY ?_|refine OJ.off rfl zA rfl ?_)|((with_reducible show OJ _ _ _ (⟨_,.box _ _,_,_,_,_⟩::_) _ _ _ _ _);first|refine UR rfl rfl rfl ?_|refine OJ.off rfl zA rfl ?_)|refine OJ.off rfl zA rfl ?_|refine rvA rfl rfl rfl ?_|refine UR rfl rfl rfl ?_|refine acO jo zY zY ?_)|(first|refine jO (i:=0) zY ax zY zY zY zY zY zY ?_|refine jO (i:=1) zY ax zY zY zY zY zY zY ?_|refine jO (i:=2) zY ax zY zY zY zY zY zY ?_|refine jO (i:=3) zY ax zY zY zY zY zY zY ?_|refine jO (i:=4) zY ax zY zY zY zY zY zY ?_|refine jO (i:=5) zY ax zY zY zY zY zY zY ?_))));exact Cz.fin Kz.p):P:=h c ⟨k⟩
theorem B (n:Nat) (k:Q) (h:Ct n->ZW Q->P:=by intro Cz Kz;refine Xl Cz ?_;exact Kz.p):P:=h (.mk n) ⟨k⟩
inductive Vt:Go.Value->Prop where
  |mk (v:Go.Value):Vt v
theorem aE (n:Nat) (v:Go.Value) (k:Q) (h:Ct n->Vt v->ZW Q->P:=by intro Cz Vz Kz;refine Xl Cz ?_;exact zrC Vz Kz.p):P:=h (.mk n) (.mk v) ⟨k⟩
theorem aG {R:Prop} (n:Nat) (k:Q) (l:R) (h:Ct n->ZW Q->ZW R->P:=by intro Cz Kz Kw;refine Xl Cz ?_;refine uh ?_ ?_;exact Kz.p;exact Kw.p):P:=h (.mk n) ⟨k⟩ ⟨l⟩
theorem cH (n:Nat) (k:Q) (h:Ct n->ZW Q->P:=by intro Cz Kz;refine Xl Cz ?_;exact yX Kz.p):P:=h (.mk n) ⟨k⟩
theorem bH (n:Nat) (k:Q) (h:Ct n->ZW Q->P:=by intro Cz Kz;refine Xl Cz ?_;exact yW Kz.p):P:=h (.mk n) ⟨k⟩
theorem zT (h:P:=by repeat(first|(apply rf;exact rfl)|(apply qbk;exact rfl)|(apply aJ;(first|exact X.off rfl (λ_ _=>rfl)|exact X.v (RV.re NM P2))))):P:=h
theorem LI (h:P:=by repeat(first|(apply qtn;exact rfl)|(apply qtk;exact rfl)|(apply lD;(intro cv L' H' hl hd hP;first|exact X.off rfl (λ_ _=>rfl)|exact X.v (RV.re NM P2)|((repeat(first|with_reducible obtain⟨rfl,hP⟩:=hP|(with_reducible obtain⟨_,hP⟩:∃x,_:=hP)|(with_reducible obtain⟨_,hP⟩:_/\_:=hP)));(try with_reducible subst hP);exact X.v (RV.re NM P2)))))):P:=h
theorem zU (n:Nat) (h:Ct n->ZW Q->P:=by intro Cz Kz;(repeat(replace Cz:=Ct.dec Cz;(first|(apply rf;exact rfl)|(apply qbk;exact rfl)|(apply aJ;(first|exact X.off rfl (λ_ _=>rfl)|exact X.v (RV.re NM P2))))));exact Cz.fin Kz.p) (k:Q):P:=h (.mk n) ⟨k⟩
theorem qm (n:Nat) (h:Ct n->ZW Q->P:=by intro Cz Kz;(repeat(replace Cz:=Ct.dec Cz;(first|(apply qtn;exact rfl)|(apply qtk;exact rfl)|(apply lD;(intro cv L' H' hl hd hP;first|exact X.off rfl (λ_ _=>rfl)|exact X.v (RV.re NM P2)|((repeat(first|with_reducible obtain⟨rfl,hP⟩:=hP|(with_reducible obtain⟨_,hP⟩:∃x,_:=hP)|(with_reducible obtain⟨_,hP⟩:_/\_:=hP)));(try with_reducible subst hP);exact X.v (RV.re NM P2)))))));exact Cz.fin Kz.p) (k:Q):P:=h (.mk n) ⟨k⟩
theorem vY (h:P:=by first|exact .inr (by assumption)|exact .inr (And.right (by assumption))|exact .inr (And.right (And.right (by assumption)))|exact .inr (by simp only[ah,and_true]at *;omega)|exact .inr (by simp only[ah,and_true];omega)|exact .inr (by simp only[ah,and_true];(repeat' apply And.intro)<;>omega)):P:=h
theorem zMo (h:P:=by intro W h;first|exact h|exact h.un|exact h.dropF vY|exact h.un.dropF vY|exact h.un.un|exact(h.dropF vY).dropF vY|exact h.un.un.dropF vY|exact(h.un.dropF vY).dropF vY|exact((h.dropF vY).dropF vY).dropF vY|exact((h.un.dropF vY).dropF vY).dropF vY|exact(h.un.un.dropF vY).dropF vY|exact h.un.un.un|exact(((h.dropF vY).dropF vY).dropF vY).dropF vY):P:=h
theorem zE (k:Q) (h:ZW Q->P:=by intro Kz;exact OJ.done (hk _ _ _ (wE zMo Kz.p))):P:=h ⟨k⟩
theorem zG (k:Q) (h:ZW Q->P:=by intro Kz;exact OJ.done (hk _ _ _ (wN zMo Kz.p))):P:=h ⟨k⟩
theorem uh {R:Prop} (k:Q) (l:R) (h:ZW Q->ZW R->P:=by intro Kz Kw;(refine CJ.cond rfl (λhc=>?_) (λhc=>?_)<;>(try simp only[decide_eq_true_eq,decide_eq_false_iff_not,Bool.not_eq_true',Bool.not_eq_false']at hc)<;>revert hc);exact Kz.p;exact Kw.p):P:=h ⟨k⟩ ⟨l⟩
section
variable (k:Q)
include k
theorem zWc (h:ZW Q->P:=by intro Kz;refine B 2 ?_;refine rv rfl rfl rfl (kW rfl rfl) ?_;refine B 1 ?_;refine rv rfl rfl rfl (pX rfl rfl) ?_;refine B 1 ?_;refine rv rfl rfl rfl (kW rfl rfl) ?_;refine B 1 ?_;refine rv rfl rfl rfl (pX rfl rfl) ?_;refine B 2 ?_;refine rv rfl rfl rfl (kW rfl rfl) ?_;refine rq (.int .u64 (r0:Int)) (vX rfl rfl) (vu zlb) ?_;refine B 1 ?_;refine rq (.int .u64 ((r0/2^s:Nat):Int)) (mB rfl rfl aa) (vu (nwc r0 s aa)) ?_;exact B 5 Kz.p):P:=h ⟨k⟩
theorem ZN (h:ZW Q->P:=by intro Kz;refine B 6 ?_;refine dp (.agg (bF G)) ?_;refine call call148 rfl rfl rfl (λW hS=>by rw[<-hv];exact nR G N W cJ (hG.up (aj _) hS.sm)) (v:=.bool true) ?_;refine dp bG ?_;refine B 8 ?_;refine dp (.agg (cM c)) ?_;refine call call149 rfl rfl rfl (λW hS=>by rw[<-kD];exact nvb c dE.few N W cJ (hC.up (aj _) hS.sm)) (v:=ab 0) ?_;refine B 6 ?_;refine dp bG ?_;refine B 12 ?_;refine dp bG ?_;refine B 6 ?_;refine dp bG ?_;refine B 6 ?_;refine rq bG (dT nO zA nF rfl rfl rfl) (congrArg (λq=>Value.bool (!q)) h3) ?_;refine B 8 ?_;refine dp (.agg (bF G)) ?_;refine B 4 ?_;exact nH (enc:=tK) (m:=4) (t:=110) (xs:=(gE G.g c.author c.chs)) (v:=λs=>.tuple #[s,ab 0]) (first:=[]) (cap:=[]) rfl call134 rfl rfl rfl VY (λW hS=>by rw[<-hne];exact nBb G N W cJ (hG.up (aj _) hS.sm) c.chs aa c.ca c.cc (hC.chs.up (aj _) hS.sm) c.author tD) Kz.p):P:=h ⟨k⟩
theorem qF (h:ZW Q->P:=by intro Kz;exact PJ.dropAt (i:=0) rfl zC Kz.p):P:=h ⟨k⟩
theorem zZc (h:ZW Q->P:=by intro Kz;exact CJ.less (E':=[(0,_),(1,_),(2,_),(3,_),(4,_),(5,_),(6,_),(7,_),(8,_),(9,_),(10,_),(11,_),(12,_),(13,_),(14,_),(15,_),(16,_),(17,_),(18,_),(19,_),(20,_),(21,_),(22,_),(23,_),(24,_),(25,_),(26,_),(27,_),(28,_),(29,_),(30,_),(31,_),(32,_),(33,_),(34,_),(35,_),(36,_),(37,_),(38,_),(39,_),(40,_)]) zR Kz.p):P:=h ⟨k⟩
theorem VO (h:ZW Q->P:=by intro Kz;refine B 14 ?_;exact CJ.lp (α:=Nat) [0,1,7] (λj=>[(8,ab (j:Int))]) (λj=>[]) (λj=>j<=xs.length/\gC p xs j) (λj=>xs.length-j) 0 ⟨cY _,λi x hi=>absurd hi aa⟩ Kz.p):P:=h ⟨k⟩
theorem Oe (h:ZW Q->P:=by intro Kz;refine dp (.int .u64 ((q-1:Nat):Int)) ?_;refine B 7 ?_;refine dp (.int .u64 ((r+y1:Nat):Int)) ?_;exact B 9 Kz.p):P:=h ⟨k⟩
theorem z2c (h:ZW Q->P:=by intro Kz;exact CJ.less (E':=[(0,_),(1,_),(2,_),(3,_),(4,_),(5,_),(6,_),(7,_),(8,_),(9,_),(13,_),(14,_),(15,_),(17,_),(18,_),(19,_),(20,_),(23,_),(24,_),(25,_),(26,_),(27,_),(28,_),(29,_),(30,_),(31,_),(32,_),(33,_),(34,_),(35,_),(36,_),(37,_),(38,_),(39,_),(40,_),(41,_),(42,_),(44,_),(45,_),(46,_),(47,_),(48,_),(49,_),(50,_),(51,_),(52,_),(53,_),(54,_),(57,_),(58,_),(59,_),(60,_),(61,_),(62,_),(63,_),(64,_),(65,_),(66,_),(67,_),(68,_),(69,_),(70,_),(71,_),(72,_),(73,_),(74,_),(76,_),(77,_),(78,_),(79,_),(80,_),(81,_),(82,_),(83,_),(84,_),(85,_),(86,_),(87,_),(89,_),(90,_),(91,_),(92,_),(93,_),(94,_),(95,_)]) zR Kz.p):P:=h ⟨k⟩
theorem KV (h:ZW Q->P:=by intro Kz;exact dp (.agg #[.slice a ns.length cp]) Kz.p):P:=h ⟨k⟩
theorem EL (h:ZW Q->P:=by intro Kz;exact kp underlying55 sizeOf3 zeroValue3 rfl rfl rfl rfl rfl rfl rfl Kz.p):P:=h ⟨k⟩
theorem z5c (h:ZW Q->P:=by intro Kz;exact call call156 rfl rfl rfl (λW hS=>nEd (zm G.g (gD G.g.ms au) au) 259 [ptr b3 0,ptr b8 0,ptr b4 0] call259 l hxl N _ cp W cJ (aH.up (aj _) hS.sm) (λj x hx W2 hB=>by have h3:=(hS.links w3 A1).size;have h4:=(hS.links w4 A0).size;have h5:=(hS.links w A2).size;have h8:=hS.own (b8,_) A0;have h9:=(bA.1 h8).1;exact nIi G N W2 (by have:=hB.size;omega) (hG.up (aj _) (λk hk=>by rw[hB.block k aa];exact hS.same A2 hN zH zF k hk)) b3 b8 b4 _ au (by rw[hB.block b3 aa];exact hS.old A1 dA cX zz) (by rw[hB.block b8 h9];exact h8) (by rw[hB.block b4 aa];exact hS.old A0 DX BR zz) x)) Kz.p):P:=h ⟨k⟩
theorem z6c (h:ZW Q->P:=by intro Kz;refine zE ?_;exact call call153 rfl rfl rfl (λW hS=>by have h9:=ntd c.wes aa W.heap.size c.wa c.wc W (aj _) (hC.wes.up cJ hS.sm) (oB c.author c.chs) aw cw (xf.to hS A0 (aj _) (λb off e=>.inr zHb));rw[show lB Wg c.wes (oB c.author c.chs)=true from hw]at h9;exact h9) (v:=.bool true) Kz.p):P:=h ⟨k⟩
theorem z7c (h:ZW Q->P:=by intro Kz;exact nH (enc:=oj) (m:=5) (t:=99) (xs:=oB c.author c.chs) (v:=id) (first:=[]) (cap:=[]) rfl call144 rfl rfl rfl Ce (λW hS=>n6b c.author c.chs aa N c.ca c.cc W cJ (hC.chs.up (aj _) hS.sm)) Kz.p):P:=h ⟨k⟩
theorem PV (h:ZW Q->P:=by intro Kz;exact call call13 rfl rfl rfl (λW hS=>nQc kn aa N ka kc W cJ (PK.up (aj _) hS.sm) _) Kz.p):P:=h ⟨k⟩
theorem Jb (h:ZW Q->P:=by intro Kz;exact rM underlying55 sizeOf3 zeroValue3 rfl rfl rfl rfl rfl rfl rfl Kz.p):P:=h ⟨k⟩
theorem zad (h:ZW Q->P:=by intro Kz;refine dp (ab x.dev) ?_;refine call call37 rfl rfl rfl (λW hS=>n4g _ W) ?_;refine B 10 ?_;refine dp (.agg #[.slice p.ta p.ns.length p.tc]) ?_;refine dp (ab (pd x.dev)) ?_;refine call (v:=.tuple #[ab ((cP p.ns (pd x.dev)).getD 0),.bool (cP p.ns (pd x.dev)).isSome]) call36 rfl rfl rfl (λW9 hS=>nTb p.ns aa W9.heap.size p.ta p.tc W9 (aj _) (L7.toG hS A1 hN (λb off e=>by by_cases h0:p.ns=[];(exact .inl h0);exact .inr (λhb=>⟨CC V b hV (.inr (.inl ⟨h0,off,e⟩)) aa,z3⟩))) (pd x.dev)) ?_;exact B 11 Kz.p):P:=h ⟨k⟩
theorem zbd (h:ZW Q->P:=by intro Kz;exact nH (enc:=az) (m:=1) (t:=3) (xs:=ei G.g.ns) (v:=id) (first:=[]) (cap:=[]) rfl call186 rfl rfl rfl ny (λW hS=>n3b G.g.ns hn N G.na G.nc W cJ (hG.ns.up (aj _) hS.sm)) Kz.p):P:=h ⟨k⟩
theorem Zs (h:ZW Q->P:=by intro Kz;exact kp underlying134 sizeOf200 zeroValue200 rfl rfl rfl rfl rfl rfl rfl Kz.p):P:=h ⟨k⟩
theorem zdd (h:ZW Q->P:=by intro Kz;exact nv (α:=Nat) (v:=λb:Nat=>.slice (ao b) 32 32) (Φ:=λ(W:World) (b:Nat) (w1:World)=>W.heap.size<=b/\w1.heap[b]? =some (oC (dg (ow Z c)) 33)) call147 rfl rfl rfl (λW hS=>nxc hZ c dE N W cJ (hC.up (aj _) hS.sm) (hg.old hS A4 zH zF)) Kz.p):P:=h ⟨k⟩
theorem L5 (h:ZW Q->P:=by intro Kz;exact kp underlying38 sizeOf35 zeroValue35 rfl rfl rfl rfl rfl rfl rfl Kz.p):P:=h ⟨k⟩
theorem F7 (h:ZW Q->P:=by intro Kz;refine OX.done ?_;exact PX.next Kz.p):P:=h ⟨k⟩
theorem zgd (h:ZW Q->P:=by intro Kz;exact CY (f:=f) (cap:=cap) rfl aA rfl rfl rfl (λW hS=>hp j x hx W ((hS.links w A0).below KP)) Kz.p):P:=h ⟨k⟩
theorem zhd (h:ZW Q->P:=by intro Kz;refine rv rfl rfl rfl (eL (h:=64) underlying106 sizeOf5 rfl ⟨_,_,rfl,rfl⟩ aa) ?_;exact XC (f:=233) (i:=1) (first:=[ptr b3 0]) (cap:=[]) rfl rfl call233 rfl rfl rfl (λW hS hW=>nne (tz n m (j+k)) (λi=>yO n m (64*(j+k)+i)) b3 rL o2 64 _ _ _ ra t3 (cf 128 (rK n m j N)) aa aa W hW (hS.own _ A0) (λi hi=>by rw[Oq 128 _ (64*k+i) _ (by have:=dH aa;omega) aa,nIl n m j N _ aa hNN aa aa];congr 3;omega) aa (hS.old A0 hg zI zz) aa) Kz.p):P:=h ⟨k⟩
theorem zid (h:ZW Q->P:=by intro Kz;exact nv (α:=Option Addr×Nat) (v:=λq=>.agg #[.slice q.1 (aN gf.g.ns d.c.chs).length q.2]) (Φ:=λW q w1=>ai fV 2 w1.heap.size w1 q.1 (aN gf.g.ns d.c.chs)/\((d.c.chs=[]/\q=(gf.na,gf.nc))\/∀b off,q.1=some ⟨b,off,none⟩->W.heap.size<=b)) call57 rfl rfl rfl (λW hS=>nzg gf.g.ns aa d.c.chs uH.2 uH.1 W.heap.size gf.na gf.nc d.c.ca d.c.cc W (aj _) (CA.lies hS.fzLies).ns ((hC d.c Pk).chs.up cJ (hS.same A2 hN zH zD))) Kz.p):P:=h ⟨k⟩
theorem zjd (h:ZW Q->P:=by intro Kz;exact kz (r:=r) (xs:=pls) (zs:=[(⟨d.c,decide (j=0),aN gf.g.ns d.c.chs,q1,q2,d.x⟩:Pl)]) (enc:=Ak) (m:=111) (H0:=[(WO,oC (kU (⟨d.c,decide (j=0),aN gf.g.ns d.c.chs,q1,q2,d.x⟩:Pl)) 92),(gd,oC (bF gf) 53),(b9,oC (cM d.c) 61),(b4,oC (qR fo) 97)]) (H1:=[]) zX nlm nOd rfl rfl rfl rfl (cD.one (z:=(⟨d.c,decide (j=0),aN gf.g.ns d.c.chs,q1,q2,d.x⟩:Pl)) nOd nHj underlying89 (bE.own (i:=0) rfl)) ae aM zJ y9 Kz.p):P:=h ⟨k⟩
theorem zkd (h:ZW Q->P:=by intro Kz;exact nv (α:=(Option Addr×Nat)×List Se) (v:=(λq:(Option Addr×Nat)×List Se=>.slice q.1.1 q.2.length q.1.2)) (Φ:=λW q w1=>ai seA 35 w1.heap.size w1 q.1.1 q.2/\pS (r.D Z) (r.fs Z dv) 71000 q.2/\q.2.length<=q.1.2) call26 rfl rfl rfl (λW hS=>nhg hZ r hr W.heap.size W (aj _) (hrA.up cJ hS.sm) (hg.old hS A3 zH trivial) a0 a1 (hse.old hS A3) af (r.fs Z dv) cf aa (Ao.up (hS.links wf A0).size (hS.same A0 (aj _) zH trivial))) Kz.p):P:=h ⟨k⟩
theorem zld (h:ZW Q->P:=by intro Kz;refine B 3 ?_;refine rv rfl rfl rfl (jq 8 256 zA rfl rfl rfl) ?_;refine B 13 ?_;exact rv rfl rfl rfl (vU underlying233 underlying5 rfl aa aa) Kz.p):P:=h ⟨k⟩
theorem S2 (h:ZW Q->P:=by intro Kz;exact rM underlying38 sizeOf35 zeroValue35 rfl rfl rfl rfl rfl rfl rfl Kz.p):P:=h ⟨k⟩
theorem znd (h:ZW Q->P:=by intro Kz;exact rv rfl rfl rfl (ar (v:=.iface 472 (.pointer (some a0))) isAgg173 rfl A4 hg0 zI zz rfl) Kz.p):P:=h ⟨k⟩
theorem zod (h:ZW Q->P:=by intro Kz;exact VL (enc:=ie) (m:=2) (t:=240) (xs:=(ck T c.author c.path)) (v:=λs=>.tuple #[.agg #[s],ab e]) (first:=[]) (cap:=[]) rfl call154 rfl rfl rfl (λW hS=>by rw[<-Lx];exact nHg T aa W.heap.size ta tc W (aj _) (sW.to hS A0 (aj _) (λb off e=>by rcases iC b off e with h|h|h;(exact .inl h);(exact .inr zz);(exact .inr zz))) c.author tD c.path oh aa N c.pa c.pc (hC.path.up (aj _) hS.sm) cJ gj aa) Kz.p):P:=h ⟨k⟩
theorem AY (h:ZW Q->P:=by intro Kz;refine CX.seq ?_;exact CX.region Kz.p):P:=h ⟨k⟩
theorem Qe (h:ZW Q->P:=by intro Kz;exact rv rfl rfl rfl (Ax rfl rfl aa aa) Kz.p):P:=h ⟨k⟩
theorem zrd (h:ZW Q->P:=by intro Kz;refine DJ.one (n:=27) rfl zO ?_;exact nH (enc:=cW) (m:=32) (t:=33) (xs:=JF x) (v:=id) (first:=[]) (cap:=[]) rfl call73 rfl rfl rfl yk (λW hS=>nOe x hx.few N W cJ (hA.up (aj _) hS.sm)) Kz.p):P:=h ⟨k⟩
theorem zsd (h:ZW Q->P:=by intro Kz;exact CJ.lp (α:=Nat×Nat) [2,8,9,10,17,14,15] (λp=>[(18,.int .u64 (p.1:Int)),(16,.int .u64 (p.2:Int))]) (λp=>[]) (λp=>ug r1 y1 y0 v0 p.1 p.2) (λp=>p.1) (r1/y1,r1%y1) d2 Kz.p):P:=h ⟨k⟩
theorem ztd (h:ZW Q->P:=by intro Kz;exact nv (α:=Gv) (v:=λXn=>.tuple #[.agg (bF Xn),ab e]) (Φ:=λW Xn w1=>Xn.g=yj Z (g0 fo) c/\cj w1.heap.size w1 Xn/\(∀q,Xn.ma=some q->W.heap.size<=q.block)/\(∀q,Xn.na=some q->W.heap.size<=q.block)) call83 rfl rfl rfl (λW hS=>by rw[<-he];exact nud hZ (g0v fo) c (dE c Dl) N W cJ (SA fo N W) ((hC c Dl).up (aj _) hS.sm) (hg.old hS A2 zH zF)) Kz.p):P:=h ⟨k⟩
theorem zud (h:ZW Q->P:=by intro Kz;exact nv (α:=Option Addr×Nat) (v:=λq=>.agg #[.slice q.1 T.length q.2]) (Φ:=λW q w1=>ai fV 2 w1.heap.size w1 q.1 T/\∀b off,q.1=some ⟨b,off,none⟩->T=[]\/b<N\/W.heap.size<=b) call140 rfl rfl rfl (λW hS=>by rw[<-hT];exact nzc G N W cJ (hG.up (aj _) hS.sm) c.chs aa c.ca c.cc (hC.chs.up (aj _) hS.sm) AM lq) Kz.p):P:=h ⟨k⟩
theorem zvd (h:ZW Q->P:=by intro Kz;exact call call111 rfl rfl rfl (λW hS=>by rw[<-iC];exact nKb ns hn N a cp W cJ (aH.up (aj _) hS.sm)) (v:=ab 0) Kz.p):P:=h ⟨k⟩
theorem zwd (h:ZW Q->P:=by intro Kz;exact nXi (ev:=ab) (kv:=di ns) (v:=id) call67 rfl rfl rfl (λW hS=>nre ns hn N a cp W cJ (aH.up (aj _) hS.sm)) Kz.p):P:=h ⟨k⟩
theorem zxd (h:ZW Q->P:=by intro Kz;refine PJ.dj ?_;refine DJ.one (n:=28) rfl zO ?_;exact call (v:=.bool true) call72 rfl rfl rfl (λW hS=>by have h9:=nzf (JF x) (by have:=hx.few;unfold JF;rw[eO];omega) W.heap.size a7 Dc W (aj _) (ko.up (hS.links wk7 A0).size (hS.same A0 (aj _) zH trivial));rw[show Hl (JF x)=true by simpa using k4]at h9;exact h9) Kz.p):P:=h ⟨k⟩
theorem zyd (h:ZW Q->P:=by intro Kz;exact nqj (i:=0) (γ:=Mp) (v:=λ_=>.tuple #[]) (ob:=λm=>m.obj ab (ik (((dt d).take i).foldl iq (iq (di ns) (512+d))) n)) (Φ:=λm=>m.Ok (ik (((dt d).take i).foldl iq (iq (di ns) (512+d))) n)) (first:=[.map (some bf)]) (cap:=[]) rfl rfl call113 rfl rfl rfl (λW hS hW=>n8d bf mi ze n W hW) Kz.p):P:=h ⟨k⟩
theorem zzd (h:ZW Q->P:=by intro Kz;exact call call75 rfl rfl rfl (λW hS=>by have h9:=n1c hZ (lA G.g c.author c.chs) c.sr c.ss (cI (ow Z c)) bm 0 32 (by rw[nS];decide) W (cx.dg (hS.old A0 oW zI zz) (hZ.byt _ _)) (hg.old hS A5 zH zF);rw[nS,show pA Z (lA G.g c.author c.chs) (cI (ow Z c)) c.sr c.ss=true from Jt]at h9;exact h9) (v:=.bool true) Kz.p):P:=h ⟨k⟩
theorem zAd (h:ZW Q->P:=by intro Kz;exact CJ.lp (α:=Mp×Nat) [6,7,12,53,54] (λp=>[(55,ab (p.2:Int))]) (λp=>[(bf,p.1.obj ab (((dt d).take p.2).foldl iq (iq (di ns) (512+d))))]) (λp=>p.2<=(dt d).length/\p.1.Ok (((dt d).take p.2).foldl iq (iq (di ns) (512+d)))) (λp=>(dt d).length-p.2) (m1,0) ⟨cY _,cK⟩ Kz.p):P:=h ⟨k⟩
theorem zBd (h:ZW Q->P:=by intro Kz;exact CY (f:=f) (cap:=cap) rfl aA rfl rfl rfl (λW hS=>hp j x hx W ((hS.links w A0).mono (λk _ hk=>by rcases hk with hk|hk;(exact hk);(simp only[dL,ft,dx,ec,cd,dV,or_false]at hk;first|exact hk|(rcases hk with hk|hk;(exfalso;omega);exact hk)))) (by have:=hS.lt (b,_) A1;exact this)) Kz.p):P:=h ⟨k⟩
theorem zDd (h:ZW Q->P:=by intro Kz;exact nH (enc:=az) (m:=1) (t:=3) (xs:=dt d) (v:=λs=>.tuple #[s,ab 0]) (first:=[]) (cap:=[]) rfl call112 rfl rfl rfl ny (λW hS=>nXf d hd W) Kz.p):P:=h ⟨k⟩
theorem zEd (h:ZW Q->P:=by intro Kz;exact CJ.loop (α:=Nat) (λi=>[(2,ptr b2 0),(53,.agg (tz n m (ij n)).cells),(54,ab (i:Int))]) (λi=>[(rL,oC (cf 128 (rK n m j N)) 5),(b3,oC (tz n m (ij n)).cells 374),(b2,oC (lh (tz n m (ij n)) i) 33)]) (λi=>[w]) (λi=>Gh.no) (λi=>i<=8) (λi=>8-i) 0 zA zR rfl rfl zJ Kz.p):P:=h ⟨k⟩
theorem zFd (h:ZW Q->P:=by intro Kz;exact CJ.lp (α:=Nat) [0,1,2,3,8] (λj=>[]) (λj=>[]) (λj=>True) (λj=>0) 0 True.intro Kz.p):P:=h ⟨k⟩
theorem zGd (h:ZW Q->P:=by intro Kz;exact CJ.lp (α:=Nat) [0,1,2,3,4] (λj=>[]) (λj=>[]) (λj=>True) (λj=>0) 0 True.intro Kz.p):P:=h ⟨k⟩
theorem JA (h:ZW Q->P:=by intro Kz;exact dp (.agg (dg p.x.g.last)) Kz.p):P:=h ⟨k⟩
theorem zId (h:ZW Q->P:=by intro Kz;refine rq (.int .u64 ((8*n:Nat):Int)) (Ax rfl rfl aa aa) (vu aa) ?_;exact XC (f:=234) (i:=0) (first:=[]) (cap:=[]) rfl rfl call234 rfl rfl rfl (λW hS hW=>nqe (8*n) rL _ 8 _ _ _ aa (by rw[nke,D5];omega) W hW) Kz.p):P:=h ⟨k⟩
theorem zJd (h:ZW Q->P:=by intro Kz;exact cu (.inl rfl) results149 bB A1 zB Kz.p):P:=h ⟨k⟩
theorem zKd (h:ZW Q->P:=by intro Kz;exact rq (.int .u64 ((r1%y1:Nat):Int)) (uP rfl rfl aa aa) (vu (nVh _ _ _ _ d2.eq)) Kz.p):P:=h ⟨k⟩
theorem NB (h:ZW Q->P:=by intro Kz;exact cu (.inl rfl) results14 bB A2 z2 Kz.p):P:=h ⟨k⟩
theorem zMd (h:ZW Q->P:=by intro Kz;refine rv rfl rfl rfl (bK underlying89 sizeOf92 (congrArg (λq=>some (Value.slice q pls.length yt)) WT) rfl aa aa) ?_;exact rq (.agg (kU p)) (lE isAgg92 sizeOf92 rfl BL (dc hcp hp rfl)) (va (dU hcp hp rfl)) Kz.p):P:=h ⟨k⟩
theorem zNd (h:ZW Q->P:=by intro Kz;exact rq (.slice (some ⟨b2,4*i,none⟩) 4 (32-4*i)) (D4 (l:=4*i) (h:=4*i+4) (off':=4*i) underlying33 sizeOf5 rfl ⟨_,_,rfl,by omega⟩ ⟨_,_,rfl,by omega⟩ aa aa zDc) (by rw[show 4*i+4-4*i=4 by omega]) Kz.p):P:=h ⟨k⟩
theorem Xv (h:ZW Q->P:=by intro Kz;exact rv rfl rfl rfl (IH rfl rfl aa aa) Kz.p):P:=h ⟨k⟩
theorem zPd (h:ZW Q->P:=by intro Kz;exact rq (.int .u64 ((r1/y1:Nat):Int)) (yE rfl rfl aa aa aa) (vu (nEe r1 y1)) Kz.p):P:=h ⟨k⟩
theorem zQd (h:ZW Q->P:=by intro Kz;exact nqj (i:=0) (γ:=Mp) (v:=λ_=>.tuple #[]) (ob:=λm=>m.obj ab (ik (di ns) (512+d))) (Φ:=λm=>m.Ok (ik (di ns) (512+d))) (first:=[.map (some bf)]) (cap:=[]) rfl rfl call113 rfl rfl rfl (λW hS hW=>n8d bf m hm (512+d) W hW) Kz.p):P:=h ⟨k⟩
theorem zRd (h:ZW Q->P:=by intro Kz;exact nv (α:=Nat) (v:=λb:Nat=>.slice (ao b) 11 11) (Φ:=λ(W:World) (b:Nat) (w1:World)=>W.heap.size<=b/\fu w1.heap.size w1 (.list (ou c)) (vL (ao b) 11 11)) call45 rfl rfl rfl (λW hS=>ndd c dE.few N W cJ (hC.up (aj _) hS.sm)) Kz.p):P:=h ⟨k⟩
theorem Vc (h:ZW Q->P:=by intro Kz;exact rv rfl rfl rfl (jq 32 4294967296 zA rfl rfl rfl) Kz.p):P:=h ⟨k⟩
theorem zTd (h:ZW Q->P:=by intro Kz;refine PJ.reH (H':=[(rL,oC (cf 128 (rK n m j N)) 5),(b3,oC (tz n m (ij n)).cells 374),(b2,oC (lh (tz n m (ij n)) 8) 33)]) rfl ?_;exact cu (.inl rfl) results164 (RS.wA (i:=2) rfl isAgg33 sizeOf33 rfl (by rw[lh,D5];omega) RS.n) A0 zQ Kz.p):P:=h ⟨k⟩
theorem zUd (h:ZW Q->P:=by intro Kz;exact cu (.inl rfl) results111 bB A2 zB Kz.p):P:=h ⟨k⟩
theorem zVd (h:ZW Q->P:=by intro Kz;exact call call65 rfl rfl rfl (λW hS=>by rw[<-he];exact nP _ W) (v:=ab e) Kz.p):P:=h ⟨k⟩
theorem zWd (h:ZW Q->P:=by intro Kz;exact nEi (ev:=ab) (kv:=mS (di ns) d) (enc:=az) (n:=1) (ds:=dt d) (v:=λmp s=>.tuple #[mp,s,ab 0]) call64 rfl rfl rfl (λW hS=>nnf ns hn N a cp W cJ (aH.up (aj _) hS.sm) iC d hd false (λh=>by cases h)) Kz.p):P:=h ⟨k⟩
theorem zXd (h:ZW Q->P:=by intro Kz;exact nEi (ev:=ab) (kv:=mS (di ns) d) (enc:=az) (n:=1) (ds:=dt d) (v:=λmp s=>.tuple #[mp,s,ab 0]) call64 rfl rfl rfl (λW hS=>nnf ns hn N a cp W cJ (aH.up (aj _) hS.sm) iC d hd true (λ_=>kL)) Kz.p):P:=h ⟨k⟩
theorem zYd (h:ZW Q->P:=by intro Kz;exact nH (enc:=er) (m:=35) (t:=35) (xs:=(r.fs Z dv)) (v:=id) (first:=[]) (cap:=[]) rfl call11 rfl rfl rfl nz (λW hS=>n5e hZ r hr N W cJ (hrA.up (aj _) hS.sm) (hg.old hS A2 zH trivial) dv) Kz.p):P:=h ⟨k⟩
theorem zZd (h:ZW Q->P:=by intro Kz;exact rq (.int .u64 (r1:Int)) (vX rfl rfl) (vu zlb) Kz.p):P:=h ⟨k⟩
theorem O8 (h:ZW Q->P:=by intro Kz;exact qn hT rfl rfl rfl (pO rfl) Kz.p):P:=h ⟨k⟩
theorem z1d (h:ZW Q->P:=by intro Kz;exact call call13 rfl rfl rfl (λW hS=>IA (b:=false) (by rw[jM];omega) (hS.links wy A3).size ((GB.tk i).up (aj _) (hS.same A3 (aj _) zH trivial)) (decide_eq_false hnd)) (v:=.bool false) Kz.p):P:=h ⟨k⟩
theorem z2d (h:ZW Q->P:=by intro Kz;exact kp underlying72 sizeOf33 zeroValue33 rfl rfl rfl rfl rfl rfl rfl Kz.p):P:=h ⟨k⟩
theorem z3d (h:ZW Q->P:=by intro Kz;refine rq (ptr b4 j) (uY underlying426 sizeOf303 rfl rfl aa aa) (congrArg (ptr b4) aa) ?_;exact kT (i:=0) rfl sizeOf303 rfl rfl rfl rfl (by rw[D5];omega) rfl Kz.p):P:=h ⟨k⟩
theorem z4d (h:ZW Q->P:=by intro Kz;exact rv rfl rfl rfl (ar (v:=ab n) isAgg3 rfl A0 zf zI zz zPc) Kz.p):P:=h ⟨k⟩
theorem z5d (h:ZW Q->P:=by intro Kz;exact XC (f:=234) (i:=2) (first:=[]) (cap:=[]) rfl rfl call234 rfl rfl rfl (λW hS hW=>nqe (S8.at (tz n m (ij n)) i).toNat b2 (4*i) _ _ _ _ aa (by rw[lh,D5];omega) W hW) Kz.p):P:=h ⟨k⟩
theorem z6d (h:ZW Q->P:=by intro Kz;exact rq (.bool ((aF (wT (ei ns)) x.at_).getD false)) (oe (ev:=Value.bool) underlying307 underlying3 zeroValue4 hm (bE.own (i:=1) rfl) rfl rfl) (nkk _) Kz.p):P:=h ⟨k⟩
theorem z7d (h:ZW Q->P:=by intro Kz;exact call call87 rfl rfl rfl (λW hS=>by rw[<-lz];exact nTh hZ s hs0 (V.list l).enc aa gd 0 Je yY.le W (cx.row (hS.own _ A0)) (hg.old hS A0 zH zF)) (v:=.agg (dg df)) Kz.p):P:=h ⟨k⟩
theorem z8d (h:ZW Q->P:=by intro Kz;exact call call97 rfl rfl rfl (λW hS=>nKc _ W) Kz.p):P:=h ⟨k⟩
theorem z9d (h:ZW Q->P:=by intro Kz;exact cu (.inl rfl) results227 bB A1 zB Kz.p):P:=h ⟨k⟩
theorem zae (h:ZW Q->P:=by intro Kz;exact qn hT rfl rfl rfl (ur rfl) Kz.p):P:=h ⟨k⟩
theorem zbe (h:ZW Q->P:=by intro Kz;exact call call38 rfl rfl rfl (λW hS=>nDm pls gj N pa pc _ W cJ (gV.up (aj _) hS.sm)) Kz.p):P:=h ⟨k⟩
theorem zce (h:ZW Q->P:=by intro Kz;exact call call221 rfl rfl rfl (λW hS=>nbf (VT G.g.epoch) 218 [ptr b1 0] call218 G.g.ms wg N G.ma G.mc W cJ (hG.ms.up (aj _) hS.sm) (λj x hx W2 hB=>nVn G b1 x W2 zCc)) Kz.p):P:=h ⟨k⟩
theorem zde (h:ZW Q->P:=by intro Kz;exact PJ.reH (H':=[(rL,oC (cf 128 (rK n m j N)) 5),(b3,oC (tz n m (ij n)).cells 374),(b2,oC (lh (tz n m (ij n)) (i+1)) 33)]) (by rw[<-nUk _ i aa];rfl) Kz.p):P:=h ⟨k⟩
theorem zee (h:ZW Q->P:=by intro Kz;exact rq (ab ((n:Nat):Int)) (pO rfl) ((congrArg ab aa)) Kz.p):P:=h ⟨k⟩
theorem zfe (h:ZW Q->P:=by intro Kz;exact call call196 rfl rfl rfl (λW hS=>nSc l hxl N a cp W cJ (aH.up (aj _) hS.sm)) Kz.p):P:=h ⟨k⟩
theorem zge (h:ZW Q->P:=by intro Kz;refine dp (.agg (dg G.g.last)) ?_;exact rq bG (dT nO zA nF rfl rfl rfl) (congrArg (λb=>Value.bool (!b)) (by simpa using k2)) Kz.p):P:=h ⟨k⟩
theorem zhe (h:ZW Q->P:=by intro Kz;refine rv rfl rfl rfl (eB (i:=2) rfl isAgg33 sizeOf33 rfl (by rw[lh,D5])) ?_;exact jO (i:=2) rfl sizeOf33 rfl rfl rfl zsc (by rw[lh,D5]) rfl Kz.p):P:=h ⟨k⟩
theorem zie (h:ZW Q->P:=by intro Kz;exact CJ.lp (α:=Nat) [0,1] (λj=>[(5,ab (j:Int))]) (λj=>[]) (λj=>j<=xs.length/\Ai xs ys j) (λj=>xs.length-j) 0 ⟨cY _,rfl⟩ Kz.p):P:=h ⟨k⟩
theorem zje (h:ZW Q->P:=by intro Kz;exact nqk (ys:=(V.list l).enc) call85 rfl rfl rfl (λW hS=>nLe l dW hd ju N (ao bl) lc W (eE hN (hS.links _ A0).size) (fu.up (aj _) hS.sm _ _ xS)) Kz.p):P:=h ⟨k⟩
theorem zke (h:ZW Q->P:=by intro Kz;exact call call106 rfl rfl rfl (λW hS=>nqg 0 zA zA W) Kz.p):P:=h ⟨k⟩
theorem zle (h:ZW Q->P:=by intro Kz;exact rq (.agg (vj x)) (dy isAgg114 sizeOf114 rfl A1 bW Bd z3 (dc aS hx rfl)) (va (dU aS hx rfl)) Kz.p):P:=h ⟨k⟩
theorem zme (h:ZW Q->P:=by intro Kz;exact call call86 rfl rfl rfl (λW hS=>Zq _ _ _ W) Kz.p):P:=h ⟨k⟩
theorem zne (h:ZW Q->P:=by intro Kz;exact VL (enc:=ie) (m:=2) (t:=240) (xs:=[]) (v:=λs=>.agg #[s]) (first:=[]) (cap:=[]) rfl call66 rfl rfl rfl (λW hS=>nAf W) Kz.p):P:=h ⟨k⟩
theorem zoe (h:ZW Q->P:=by intro Kz;exact cu (.inl rfl) results197 bB A2 zB Kz.p):P:=h ⟨k⟩
theorem zpe (h:ZW Q->P:=by intro Kz;exact rv rfl rfl rfl (RR underlying106 underlying5 underlying9 rfl A0 hb (λb dw=>⟨λh=>h,by simp only[bM,and_true];omega⟩)) Kz.p):P:=h ⟨k⟩
theorem zqe (h:ZW Q->P:=by intro Kz;refine aK results65 rfl A0 ?_;exact congrArg ab Kz.p):P:=h ⟨k⟩
theorem zre (h:ZW Q->P:=by intro Kz;exact call call31 rfl rfl rfl (λW hS=>npd _ _ W) Kz.p):P:=h ⟨k⟩
theorem zse (h:ZW Q->P:=by intro Kz;exact call call254 rfl rfl rfl (λW hS=>ntg _ _ _ aa aa aa aa aa W) Kz.p):P:=h ⟨k⟩
theorem zte (h:ZW Q->P:=by intro Kz;exact call (v:=.bool true) call7 rfl rfl rfl (λW hS=>nsl hZ W (hg.old hS A2 zH trivial) (CK.old hS A2 zI trivial) a0 a1 (hse.old hS A2)) Kz.p):P:=h ⟨k⟩
theorem zue (h:ZW Q->P:=by intro Kz;exact kp underlying138 sizeOf142 zeroValue142 rfl rfl rfl rfl rfl rfl rfl Kz.p):P:=h ⟨k⟩
theorem zve (h:ZW Q->P:=by intro Kz;exact rM underlying134 sizeOf200 zeroValue200 rfl rfl rfl rfl rfl rfl rfl Kz.p):P:=h ⟨k⟩
theorem zwe (h:ZW Q->P:=by intro Kz;refine call call148 rfl rfl rfl (λW hS=>by rw[<-hv];exact nR G N W cJ (hG.up (aj _) hS.sm)) (v:=.bool false) ?_;exact dp bZ Kz.p):P:=h ⟨k⟩
theorem zxe (h:ZW Q->P:=by intro Kz;exact call call29 rfl rfl rfl (λW hS=>nMe _ W) Kz.p):P:=h ⟨k⟩
theorem zye (h:ZW Q->P:=by intro Kz;exact rv rfl rfl rfl (fY (h:=32) underlying33 sizeOf5 rfl rfl aa) Kz.p):P:=h ⟨k⟩
theorem zze (h:ZW Q->P:=by intro Kz;exact kp underlying89 sizeOf92 zeroValue92 rfl rfl rfl rfl rfl rfl rfl Kz.p):P:=h ⟨k⟩
theorem zAe (h:ZW Q->P:=by intro Kz;exact kp underlying75 sizeOf53 zeroValue53 rfl rfl rfl rfl rfl rfl rfl Kz.p):P:=h ⟨k⟩
theorem zBe (h:ZW Q->P:=by intro Kz;refine CX.ret ?_;refine PX.retBlock ?_;refine PX.retThen ?_;refine PX.retThen ?_;refine PX.retBlock ?_;exact PX.retThen Kz.p):P:=h ⟨k⟩
theorem zCe (h:ZW Q->P:=by intro Kz;exact jO (i:=1) rfl sizeOf51 rfl rfl rfl rfl rfl (Rw.val_one2 _ _) Kz.p):P:=h ⟨k⟩
theorem zDe (h:ZW Q->P:=by intro Kz;exact jO (i:=0) rfl sizeOf51 rfl rfl rfl rfl rfl (Rw.val_one2 _ _) Kz.p):P:=h ⟨k⟩
theorem zEe (h:ZW Q->P:=by intro Kz;exact rv rfl rfl rfl (rD 32 4294967296 zA rfl rfl rfl rfl aa aa) Kz.p):P:=h ⟨k⟩
theorem zFe (h:ZW Q->P:=by intro Kz;exact nB (dD hM (λ_=>False) (hI [] _)) [] (vs:=[_,_]) func193 rfl ntmps193 rfl (Oi hM (hI [] _) h0 zJ (by simp[lO]) zJ) Kz.p):P:=h ⟨k⟩
theorem V9 (h:ZW Q->P:=by intro Kz;exact PJ.dropAt (i:=0) rfl sY Kz.p):P:=h ⟨k⟩
theorem zHe (h:ZW Q->P:=by intro Kz;exact dp (.agg #[.slice fa fos.length fc,o1,.slice la cs.length lc,.slice ga gs.length gc,.slice ia xs.length ic,o5,o6,o7]) Kz.p):P:=h ⟨k⟩
theorem zIe (h:ZW Q->P:=by intro Kz;exact call call111 rfl rfl rfl (λW hS=>by rw[<-iC];exact nKb ns hn N a cp W cJ (aH.up (aj _) hS.sm)) (v:=ab 210) Kz.p):P:=h ⟨k⟩
theorem XL (h:ZW Q->P:=by intro Kz;exact rv rfl rfl rfl (U3 rfl rfl) Kz.p):P:=h ⟨k⟩
theorem zKe (h:ZW Q->P:=by intro Kz;exact dp (.slice p.c.wa p.c.wes.length p.c.wc) Kz.p):P:=h ⟨k⟩
theorem zLe (h:ZW Q->P:=by intro Kz;exact rv rfl rfl rfl (Ax rfl rfl aa zEc) Kz.p):P:=h ⟨k⟩
theorem zMe (h:ZW Q->P:=by intro Kz;exact CJ.reH (H':=[(vJ,bj er 35 [nj (dk p.x.g.last) 9] []),(b3,oC (dg p.x.g.last) 33),(b2,oC #[yv l] 145)]) zUb Kz.p):P:=h ⟨k⟩
theorem zNe (h:ZW Q->P:=by intro Kz;exact rv rfl rfl rfl (gu (l:=64) (h:=N-64*k) underlying106 sizeOf5 rfl ⟨_,_,rfl,rfl⟩ rfl aa aa rfl) Kz.p):P:=h ⟨k⟩
theorem zOe (h:ZW Q->P:=by intro Kz;exact kT (i:=1) rfl sizeOf285 rfl rfl rfl rfl (eh rfl) rfl Kz.p):P:=h ⟨k⟩
theorem zPe (h:ZW Q->P:=by intro Kz;exact kT (i:=1) rfl sizeOf106 rfl rfl rfl rfl (eh rfl) rfl Kz.p):P:=h ⟨k⟩
theorem zQe (h:ZW Q->P:=by intro Kz;exact kT (i:=0) rfl sizeOf348 rfl rfl rfl rfl (eh rfl) rfl Kz.p):P:=h ⟨k⟩
theorem zRe (h:ZW Q->P:=by intro Kz;exact call call197 rfl rfl rfl (λW hS=>n4e G N W cJ (hG.up (aj _) hS.sm) l hxl a cp (aH.up (aj _) hS.sm) au) Kz.p):P:=h ⟨k⟩
theorem zSe (h:ZW Q->P:=by intro Kz;exact rv rfl rfl rfl (rj (ev:=ab) underlying165 underlying3 zeroValue3 hm (bE.own (i:=0) rfl) rfl rfl) Kz.p):P:=h ⟨k⟩
theorem zTe (h:ZW Q->P:=by intro Kz;exact kT (i:=0) rfl sizeOf3 rfl rfl rfl rfl (eh rfl) rfl Kz.p):P:=h ⟨k⟩
theorem zUe (h:ZW Q->P:=by intro Kz;exact call call180 rfl rfl rfl (λW hS=>n2f _ aa aa W) Kz.p):P:=h ⟨k⟩
theorem zVe (h:ZW Q->P:=by intro Kz;exact cu (.inl rfl) results196 bB A0 zB Kz.p):P:=h ⟨k⟩
theorem zWe (h:ZW Q->P:=by intro Kz;exact call (v:=.tuple #[ab pv,ab 0]) call79 rfl rfl rfl (λW hS=>by rw[<-hpv];exact nqh hZ zA W) Kz.p):P:=h ⟨k⟩
theorem zXe (h:ZW Q->P:=by intro Kz;refine dp (.agg (wrA x.w)) ?_;exact call call71 rfl rfl rfl (λW hS=>nBe x.w W) (v:=ab (zo x.w)) Kz.p):P:=h ⟨k⟩
theorem zYe (h:ZW Q->P:=by intro Kz;refine dp (.agg (kU (⟨d.c,decide (j=0),aN gf.g.ns d.c.chs,q1,q2,d.x⟩:Pl))) ?_;exact zG Kz.p):P:=h ⟨k⟩
theorem zZe (h:ZW Q->P:=by intro Kz;refine CX.condF rfl ?_;refine CX.exit ?_;refine PX.exThen ?_;refine PX.exThen ?_;exact PX.exHit Kz.p):P:=h ⟨k⟩
theorem z0e (h:ZW Q->P:=by intro Kz;exact rv rfl rfl rfl (uW underlying374 isAgg303 sizeOf303 rfl rfl aa aa (S8.cells_ld _ i _ aa aa)) Kz.p):P:=h ⟨k⟩
theorem z1e (h:ZW Q->P:=by intro Kz;exact dp (.slice r.ga r.gs.length r.gc) Kz.p):P:=h ⟨k⟩
theorem z2e (h:ZW Q->P:=by intro Kz;exact qn hT rfl rfl rfl (RV.re (v':=bG) (Bw rfl rfl) (vb (decide_eq_false aa))) Kz.p):P:=h ⟨k⟩
theorem z3e (h:ZW Q->P:=by intro Kz;exact qn hT rfl rfl rfl (RV.re (v':=bZ) (Bw rfl rfl) (vb (decide_eq_true aa))) Kz.p):P:=h ⟨k⟩
theorem z4e (h:ZW Q->P:=by intro Kz;exact call call64 rfl rfl rfl (λW hS=>nTk ns hn N a cp W cJ (aH.up (aj _) hS.sm) iC d hd sV) Kz.p):P:=h ⟨k⟩
theorem z5e (h:ZW Q->P:=by intro Kz;exact call call194 rfl rfl rfl (λW hS=>nle [a,b] _ _ _ _ _ rfl zJ W (hS.old A0 hb8 hm8 trivial)) Kz.p):P:=h ⟨k⟩
theorem z6e (h:ZW Q->P:=by intro Kz;refine PJ.dj ?_;refine DJ.one (n:=29) rfl zO ?_;refine B 2 ?_;refine PJ.dj ?_;refine DJ.one (n:=30) rfl zO ?_;refine B 2 ?_;refine PJ.dj ?_;refine DJ.one (n:=31) rfl zO ?_;refine B 2 ?_;exact PJ.dj Kz.p):P:=h ⟨k⟩
theorem vC (h:ZW Q->P:=by intro Kz;refine qF ?_;exact qF Kz.p):P:=h ⟨k⟩
theorem Zk (h:ZW Q->P:=by intro Kz;refine B 6 ?_;refine dp (.agg (bF G)) ?_;refine call call148 rfl rfl rfl (λW hS=>by rw[<-hv];exact nR G N W cJ (hG.up (aj _) hS.sm)) (v:=.bool true) ?_;exact dp bG Kz.p):P:=h ⟨k⟩
theorem z9e (h:ZW Q->P:=by intro Kz;refine rv rfl rfl rfl (kW rfl rfl) ?_;refine zZd ?_;refine B 7 ?_;refine zPd ?_;refine B 8 ?_;refine Qe ?_;refine zKd ?_;refine B 5 ?_;exact zsd Kz.p):P:=h ⟨k⟩
theorem Lq (h:ZW Q->P:=by intro Kz;refine dp bZ ?_;exact B 11 Kz.p):P:=h ⟨k⟩
theorem zbf (h:ZW Q->P:=by intro Kz;refine B 1 ?_;refine nQb rfl ?_;exact B 4 Kz.p):P:=h ⟨k⟩
theorem Lt (h:ZW Q->P:=by intro Kz;refine eN func83 ntmps83 ?_;exact B 3 Kz.p):P:=h ⟨k⟩
theorem zdf (h:ZW Q->P:=by intro Kz;exact rv rfl rfl rfl (vU underlying233 underlying5 rfl aa aa) Kz.p):P:=h ⟨k⟩
theorem zef (h:ZW Q->P:=by intro Kz;refine DJ.done ?_;refine B 9 ?_;exact aK results39 rfl A4 Kz.p):P:=h ⟨k⟩
theorem zff (h:ZW Q->P:=by intro Kz;refine z3e ?_;refine F7 ?_;refine CX.seq ?_;refine CX.condT rfl ?_;refine CX.skip ?_;refine PX.next ?_;refine CX.seq ?_;refine CX.block ?_;exact AY Kz.p):P:=h ⟨k⟩
theorem zgf (h:ZW Q->P:=by intro Kz;refine dp (.agg (cM c)) ?_;exact call call149 rfl rfl rfl (λW hS=>by rw[<-kD];exact nvb c dE.few N W cJ (hC.up (aj _) hS.sm)) (v:=ab 0) Kz.p):P:=h ⟨k⟩
theorem zhf (h:ZW Q->P:=by intro Kz;refine znd ?_;refine call (v:=.bool true) call69 rfl rfl rfl (λW hS=>Tq (nPn a0 W)) ?_;exact B 10 Kz.p):P:=h ⟨k⟩
theorem Be (h:ZW Q->P:=by intro Kz;refine B 2 ?_;exact PJ.dj Kz.p):P:=h ⟨k⟩
theorem zjf (h:ZW Q->P:=by intro Kz;refine B 8 ?_;refine dp bG ?_;refine B 3 ?_;refine dp bG ?_;refine B 18 ?_;refine Lq ?_;exact z9d Kz.p):P:=h ⟨k⟩
theorem xW (h:ZW Q->P:=by intro Kz;refine B 7 ?_;exact qF Kz.p):P:=h ⟨k⟩
theorem OL (h:ZW Q->P:=by intro Kz;refine B 5 ?_;refine KV ?_;exact B 1 Kz.p):P:=h ⟨k⟩
theorem Oc (h:ZW Q->P:=by intro Kz;refine B 6 ?_;exact aK results180 rfl A0 Kz.p):P:=h ⟨k⟩
theorem QE (h:ZW Q->P:=by intro Kz;refine B 13 ?_;exact dp bZ Kz.p):P:=h ⟨k⟩
theorem zof (h:ZW Q->P:=by intro Kz;refine F7 ?_;refine CX.condF rfl ?_;refine CX.skip ?_;refine PX.norBlock ?_;refine PX.next ?_;exact CX.region Kz.p):P:=h ⟨k⟩
theorem zpf (h:ZW Q->P:=by intro Kz;refine Zk ?_;refine B 9 ?_;refine zfe ?_;exact rq bG (kq rfl) (by rw[hf];rfl) Kz.p):P:=h ⟨k⟩
theorem zqf (h:ZW Q->P:=by intro Kz;refine call call253 rfl rfl rfl (λW hS=>n0i _ _ aa aa aa aa W) ?_;refine B 11 ?_;exact zse Kz.p):P:=h ⟨k⟩
theorem zrf (h:ZW Q->P:=by intro Kz;refine B 1 ?_;refine PJ.dj ?_;refine DJ.one (n:=8) rfl zO ?_;refine Be ?_;refine DJ.one (n:=9) rfl zO ?_;exact Be Kz.p):P:=h ⟨k⟩
theorem wX (h:ZW Q->P:=by intro Kz;refine dp bG ?_;exact B 7 Kz.p):P:=h ⟨k⟩
theorem zc (h:ZW Q->P:=by intro Kz;refine B 8 ?_;exact vC Kz.p):P:=h ⟨k⟩
theorem OI (h:ZW Q->P:=by intro Kz;refine B 2 ?_;exact Ki rfl rfl rfl Kz.p):P:=h ⟨k⟩
theorem zvf (h:ZW Q->P:=by intro Kz;refine rq bZ (kY rfl rfl) (vb (decide_eq_true zhc)) ?_;refine B 6 ?_;exact kT (i:=2) rfl sizeOf51 rfl rfl rfl rfl (eh rfl) rfl Kz.p):P:=h ⟨k⟩
theorem zwf (h:ZW Q->P:=by intro Kz;refine dp bZ ?_;refine B 4 ?_;refine dp bZ ?_;refine B 3 ?_;refine dp bZ ?_;refine B 3 ?_;refine rv rfl rfl rfl (yT rfl rfl) ?_;exact B 3 Kz.p):P:=h ⟨k⟩
theorem Y7 (h:ZW Q->P:=by intro Kz;refine B 5 ?_;exact dp (.agg (bF G)) Kz.p):P:=h ⟨k⟩
theorem Su (h:ZW Q->P:=by intro Kz;refine zae ?_;exact F7 Kz.p):P:=h ⟨k⟩
theorem zzf (h:ZW Q->P:=by intro Kz;refine OL ?_;exact call call64 rfl rfl rfl (λW hS=>nAg ns hn N a cp W cJ (aH.up (aj _) hS.sm) iC d true) Kz.p):P:=h ⟨k⟩
theorem zAf (h:ZW Q->P:=by intro Kz;refine DJ.one (n:=35) rfl zO ?_;refine Be ?_;refine DJ.one (n:=36) rfl zO ?_;exact Be Kz.p):P:=h ⟨k⟩
theorem zBf (h:ZW Q->P:=by intro Kz;refine B 2 ?_;refine zLe ?_;refine B 1 ?_;refine Qe ?_;refine B 1 ?_;refine Xv ?_;exact B 4 Kz.p):P:=h ⟨k⟩
theorem CV (h:ZW Q->P:=by intro Kz;refine dp bG ?_;exact B 8 Kz.p):P:=h ⟨k⟩
theorem LB (h:ZW Q->P:=by intro Kz;refine B 7 ?_;exact vC Kz.p):P:=h ⟨k⟩
theorem Rz (h:ZW Q->P:=by intro Kz;refine dp bZ ?_;exact B 5 Kz.p):P:=h ⟨k⟩
theorem zFf (h:ZW Q->P:=by intro Kz;refine KV ?_;refine zvd ?_;exact B 6 Kz.p):P:=h ⟨k⟩
theorem zGf (h:ZW Q->P:=by intro Kz;refine z2e ?_;refine F7 ?_;refine CX.seq ?_;refine zZe ?_;refine PX.next ?_;exact AY Kz.p):P:=h ⟨k⟩
theorem zHf (h:ZW Q->P:=by intro Kz;refine DJ.one (n:=27) rfl zO ?_;refine Be ?_;refine DJ.one (n:=28) rfl zO ?_;refine B 2 ?_;exact z6e Kz.p):P:=h ⟨k⟩
theorem Eo (h:ZW Q->P:=by intro Kz;refine dp bG ?_;exact B 6 Kz.p):P:=h ⟨k⟩
theorem zJf (h:ZW Q->P:=by intro Kz;refine rv rfl rfl rfl (kW rfl rfl) ?_;refine B 1 ?_;exact rv rfl rfl rfl (pX rfl rfl) Kz.p):P:=h ⟨k⟩
theorem zKf (h:ZW Q->P:=by intro Kz;refine dp (.agg (bF (⟨⟨G.g.folder,c.epoch,aB Z c,[],[]⟩,none,0,none,0⟩:Gv))) ?_;exact B 5 Kz.p):P:=h ⟨k⟩
theorem zLf (h:ZW Q->P:=by intro Kz;refine B 7 ?_;exact rv rfl rfl rfl (eL (h:=64) underlying106 sizeOf5 rfl ⟨_,_,rfl,rfl⟩ aa) Kz.p):P:=h ⟨k⟩
theorem YQ (h:ZW Q->P:=by intro Kz;refine dp bZ ?_;exact B 12 Kz.p):P:=h ⟨k⟩
theorem zNf (h:ZW Q->P:=by intro Kz;refine DJ.one (n:=25) rfl zO ?_;refine Be ?_;exact DJ.done Kz.p):P:=h ⟨k⟩
theorem Ji (h:ZW Q->P:=by intro Kz;refine B 2 ?_;exact dp bG Kz.p):P:=h ⟨k⟩
theorem VU (h:ZW Q->P:=by intro Kz;refine dp (.agg (gK x)) ?_;exact B 1 Kz.p):P:=h ⟨k⟩
theorem ZO (h:ZW Q->P:=by intro Kz;refine B 11 ?_;refine dp bG ?_;exact B 17 Kz.p):P:=h ⟨k⟩
theorem zRf (h:ZW Q->P:=by intro Kz;refine B 5 ?_;refine dp (.agg (dg x.g)) ?_;refine B 1 ?_;refine zge ?_;refine B 3 ?_;refine dp (.slice x.ba x.body.length x.bc) ?_;exact B 1 Kz.p):P:=h ⟨k⟩
theorem zSf (h:ZW Q->P:=by intro Kz;refine PJ.dj ?_;refine DJ.one (n:=23) rfl zO ?_;refine Be ?_;refine DJ.one (n:=24) rfl zO ?_;refine Be ?_;exact zNf Kz.p):P:=h ⟨k⟩
theorem zTf (h:ZW Q->P:=by intro Kz;refine B 7 ?_;refine z0e ?_;refine B 10 ?_;refine zNd ?_;refine B 2 ?_;refine z5d ?_;refine B 7 ?_;exact zde Kz.p):P:=h ⟨k⟩
theorem Qh (h:ZW Q->P:=by intro Kz;refine B 10 ?_;exact dp bG Kz.p):P:=h ⟨k⟩
theorem zVf (h:ZW Q->P:=by intro Kz;refine dp (.agg (qJ x)) ?_;refine B 1 ?_;exact CY (f:=264) (cap:=[]) rfl call264 rfl rfl rfl (λW hS=>nCl x d W) Kz.p):P:=h ⟨k⟩
theorem zWf (h:ZW Q->P:=by intro Kz;refine B 2 ?_;refine znd ?_;exact call (v:=.bool false) call69 rfl rfl rfl (λW hS=>Tq (Te a0 W)) Kz.p):P:=h ⟨k⟩
theorem zXf (h:ZW Q->P:=by intro Kz;refine dp (.agg (rdA r)) ?_;refine B 1 ?_;exact dp (cB s) Kz.p):P:=h ⟨k⟩
theorem zYf (h:ZW Q->P:=by intro Kz;refine B 2 ?_;refine zJf ?_;refine B 2 ?_;exact z9e Kz.p):P:=h ⟨k⟩
theorem zZf (h:ZW Q->P:=by intro Kz;refine rv rfl rfl rfl (jt rfl rfl) ?_;refine B 1 ?_;exact kT (i:=0) rfl sizeOf303 rfl rfl rfl rfl (eh rfl) rfl Kz.p):P:=h ⟨k⟩
theorem z0f (h:ZW Q->P:=by intro Kz;refine B 2 ?_;refine znd ?_;exact call (v:=.bool false) call69 rfl rfl rfl (λW hS=>Tq zRc) Kz.p):P:=h ⟨k⟩
theorem z1f (h:ZW Q->P:=by intro Kz;refine B 12 ?_;refine zke ?_;exact B 1 Kz.p):P:=h ⟨k⟩
theorem VP (h:ZW Q->P:=by intro Kz;refine zgd ?_;exact B 2 Kz.p):P:=h ⟨k⟩
theorem z3f (h:ZW Q->P:=by intro Kz;refine dp (.agg #[.slice ta (aN xb.g.ns (d.c.chs.take q)).length tc]) ?_;refine B 1 ?_;exact dp (ab x.dev) Kz.p):P:=h ⟨k⟩
theorem z4f (h:ZW Q->P:=by intro Kz;refine JA ?_;refine z8d ?_;exact B 1 Kz.p):P:=h ⟨k⟩
theorem z5f (h:ZW Q->P:=by intro Kz;refine B 1 ?_;refine PJ.dj ?_;refine DJ.one (n:=36) rfl zO ?_;refine Be ?_;exact DJ.done Kz.p):P:=h ⟨k⟩
end
theorem z6f (h:P:=by first|exact nb (λh=>absurd h.fo cV)|exact nb (λh=>by have:=h.e1;omega)|exact nb (λh=>by have:=h.e2;omega)|exact nb (λh=>absurd h.au cV)|exact nb (λh=>absurd h.ch z1)|exact nb (λh=>by have:=h.pl;omega)|exact nb (λh=>by have:=h.bl;omega)|exact nb (λh=>by have:=h.wl;omega)|exact nb (λh=>by have:=Jn.2 (h.path _ _ hy);omega)|exact nb (λh=>by have h9:=h.box _ _ hx;have h8:=h9.1;have h7:=nw.2 h9.2;omega)|exact nb (λh=>by have h9:=h.wel _ _ hx;exact h1 h9.1)|exact nb (λh=>by have h9:=h.wel _ _ hx;have h8:=nw.2 h9.2.2;omega)|exact nb (λh=>by have h9:=(h.wel _ _ hx).2.1 y aa hy;omega)|exact nqb ⟨by assumption,by omega,by omega,by assumption,by assumption,by omega,by omega,by omega,hA1,Zo,dP.all aa⟩):P:=h
theorem z7f (h:P:=by
  first|(have hD0:=hd.stop iS aa;obtain⟨q2,rfl⟩:∃q2,q2=q:=⟨_,rfl⟩)|(have hD0:=nwb aa aa bX cX iS aa;generalize q-1=q2 at *)
  rw[Vd]at hD0
  obtain⟨r0,hr0⟩:∃z,(r1*2^32+v0)%Y=z:=⟨_,rfl⟩
  have aoA:r0<Y:=by rw[<-hr0];exact Nat.mod_lt _ aa
  have hz0:q2*Y+r0=r1*2^32+v0:=by have:=BN (r1*2^32+v0) Y;rw[hD0,hr0,I8]at this;exact this
  have cF:u*2^64+v=(q1*2^32+q2)*Y+r0:=by have:=n5b u v Y r1 zSb;rw[show v/2^32=v1 from hv1,show v%2^32=v0 from hv0,BM,hD0,hr0]at this;exact this
  obtain⟨AN,yU⟩:=n4b hi lo y s (q1*2^32+q2) r0 zXb zJb
  have aoC:=ug.small (un:=v1) iS huY JQ
  rw[Vd,BM]at aoC
  have aoD:=ug.small (un:=v0) iS uR tv
  rw[Vd,hD0]at aoD
  refine zWc ?_
  refine nT results254 rfl rfl A0 ?_ ?_
  · rw[AN];exact vu zlb
  · rw[yU]
 ):P:=h
theorem z8f (h:P:=by
  refine B 1 ?_
  refine z4f ?_
  refine zxe ?_
  refine S2 ?_
  intro uf AF P9 Qa Qc I5 aoV
  replace Qa:=yb Qa
  replace Qc:=yc Qc
  refine S5 (f:=167) (first:=[]) (cap:=[ptr b2 0]) (V:=V) (λV=>hI (pre++[(⟨[aO ((cP p.ns (pd x.dev)).getD 0)],aT (dk p.x.g.last),some ⟨uf,0,none⟩,1⟩:Dv)]) V) hX rfl call167 rfl rfl rfl (λW9 cC=>?_) ?_ ?_
  · refine WQ (λV=>hI (pre++[(⟨[aO ((cP p.ns (pd x.dev)).getD 0)],aT (dk p.x.g.last),some ⟨uf,0,none⟩,1⟩:Dv)]) V) hX hV (⟨[aO ((cP p.ns (pd x.dev)).getD 0)],aT (dk p.x.g.last),some ⟨uf,0,none⟩,1⟩:Dv) b2 W9 cC.alone (cC.own (b2,_) A2) (λh=>h.elim (λh=>by have:=(hM _ h).1;omega) (λh=>cC.apart (b2,_) A2 (.inr h))) (λW1 o9 hv1 qD=>hy pre (⟨[aO ((cP p.ns (pd x.dev)).getD 0)],aT (dk p.x.g.last),some ⟨uf,0,none⟩,1⟩:Dv) V W1 ⟨by simp only[cO,dO,fO];omega,λd hd=>?_⟩ hv1 qD)
    rcases aY.1 hd with hd|hd
    · exact fM.low ((eK d hd).up (eE (cC.links wk A1).size o9.size) (λb off e_ jU cQ de=>(o9.block b zIb de).trans ((cC.links wk A1).block b cQ (λhx=>hx.elim de (λhx=>by first|(simp only[dx,ec,dL,ft,cd,dV,or_false]at hx;omega)|(simp at hx;omega)|(simp at hx))))) (λb _ cQ h=>h)) (cY _)
    · rw[gh.1 hd]
      exact fM.low (fM.up (fM.one P9 I5 (K:=w0.heap.size) aa) (eE (cC.links AF A0).size o9.size) (λb off e_ jU cQ de=>(o9.block b (by have:=(cC.links AF A0).size;omega) de).trans ((cC.links AF A0).block b cQ (λhx=>hx.elim de (λhx=>by cases e_;first|(simp only[dx,ec,dL,ft,cd,dV,or_false]at hx;omega)|(simp at hx;omega)|(simp at hx))))) (λb _ _ h=>h)) (cY _)
  · intro V2 tW dI
    have lK:∀k,V2 k->W.heap.size<=k:=λk hk=>(dI W A2 k hk).elim (hV k) id
    have mN:∀k,k<wk.heap.size->(M k\/V2 k)->(M k\/V k):=λk hk h=>(h.imp id λh=>(dI wk A1 k h).resolve_right aa)
    have BI:¬(M uf\/V2 uf):=λh=>I5 (h.imp id λh=>(dI AF A0 _ h).resolve_right aa)
    refine B 12 ?_
    refine PJ.resnap (L':=[wk,W]) (i:=0) rfl zC zJ (λW9 cC=>?_)
    have cF:∀d∈(pre++[(⟨[aO ((cP p.ns (pd x.dev)).getD 0)],aT (dk p.x.g.last),some ⟨uf,0,none⟩,1⟩:Dv)]),fM (λk=>M k\/V2 k) w0.heap.size W9.heap.size W9 d:=by
      intro d hd
      rcases aY.1 hd with hd|hd
      · exact(eK d hd).up (cC.links wk A1).size (λb off e_ jU cQ de=>(cC.links wk A1).block b cQ (λhx=>hx.elim (λh=>de (mN b cQ h)) (λhx=>by first|(simp only[dx,ec,dL,ft,cd,dV,or_false]at hx;omega)|(simp at hx;omega)|(simp at hx)))) (λb _ cQ h=>mN b cQ h)
      · rw[gh.1 hd]
        exact fM.up (fM.one P9 BI (K:=w0.heap.size) aa) (cC.links AF A0).size (λb off e_ jU cQ de=>(cC.links AF A0).block b cQ (λhx=>hx.elim de (λhx=>by cases e_;first|(simp only[dx,ec,dL,ft,cd,dV,or_false]at hx;omega)|(simp at hx;omega)|(simp at hx)))) (λb _ _ h=>h)
    refine ag ((pre++[(⟨[aO ((cP p.ns (pd x.dev)).getD 0)],aT (dk p.x.g.last),some ⟨uf,0,none⟩,1⟩:Dv)],V2),W9,j+1) ⟨by dsimp only;omega,lK,eE tJ (cC.links wk A1).size,by dsimp only;rw[Dx (xs:=(aV p).1.wes) hx,gL,aW,n9n cV];simp[hJ,aV],by dsimp only;simp only[cO,dO,fO];omega,cF⟩
  · intro V2 tW dI
    have lK:∀k,V2 k->W.heap.size<=k:=λk hk=>(dI W A2 k hk).elim (hV k) id
    have mN:∀k,k<wk.heap.size->(M k\/V2 k)->(M k\/V k):=λk hk h=>(h.imp id λh=>(dI wk A1 k h).resolve_right aa)
    have BI:¬(M uf\/V2 uf):=λh=>I5 (h.imp id λh=>(dI AF A0 _ h).resolve_right aa)
    refine B 10 ?_
    exact n5c (.inl rfl) results166 A2 lK zZ (λA hSA hA=>.inr hA)
 ):P:=h
theorem cN (h:P:=by exact absurd (show false=true from hr) zA):P:=h
theorem zag (h:P:=by
  refine zUd ?_
  first|exact congrArg ab (nfd dP aa)|exact congrArg ab (nN hx (λg=>by have g1:=g.1;have g2:=g.2.1;omega))|exact congrArg ab (nN hx (λg=>by have g3:=g.2.2.1 y aa hy;omega))|exact congrArg ab (nN hx (λg=>Vy (x:=x.pub) KC g.2.2.2.1))|exact congrArg ab (nN hx (λg=>by have g5:=(n2c _).2 g.2.2.2.2;simp_all))
 ):P:=h
theorem zbg (h:P:=by exact fM.low ((eK d hd).up (eE (cC.links wk A1).size o9.size) (λb off e_ jU cQ de=>(o9.block b zIb de).trans ((cC.links wk A1).block b cQ (λhx=>hx.elim de (λhx=>by first|(simp only[dx,ec,dL,ft,cd,dV,or_false]at hx;omega)|(simp at hx;omega)|(simp at hx))))) (λb _ cQ h=>h)) (cY _)):P:=h
theorem zcg (h:P:=by
  refine ss rfl ?_ ?_
  · intro cv L' H' hl hP F Q' hk
    obtain rfl:=my hl
    obtain⟨rfl,rfl⟩:=hP
    refine zud ?_
    rintro W_ ⟨ta_,tc_⟩ w_ qN wu ⟨eo,iY⟩
    have FI:=(qN.links wm A0).size
    exact OJ.done (hk _ _ _ ⟨ta_,tc_,w_,rfl,rfl,rfl,eo,λb off e=>(iY b off e).imp id (λh=>h.imp id (λh=>eE FI h)),eE FI wu.size⟩)
  refine ss rfl ?_ ?_
  · intro cv L' H' hl hP F Q' hk
    obtain⟨v1,rfl⟩:=jv hl
    obtain⟨ta,tc,wr,rfl,rfl,rfl,sW,iC,rX⟩:=hP
    refine zod ?_
    intro r_ V8 iH
    exact OJ.done (hk _ _ _ ⟨ta,tc,wr,r_,rfl,rfl,rfl,rfl,sW,iC,rX,V8,iH,Rw.ge_of V8 A0⟩)
  refine ss rfl ?_ ?_
  · intro cv L' H' hl hP F Q' hk
    obtain⟨v1,v2,rfl⟩:=rP hl
    obtain⟨ta,tc,wr,r8,rfl,rfl,rfl,rfl,sW,iC,rX,oE,iJ,jS⟩:=hP
    refine B 1 ?_
    exact OJ.done (hk _ _ _ ⟨ta,tc,wr,r8,rfl,rfl,rfl,rfl,rfl,sW,iC,rX,oE,iJ,jS⟩)
  refine ss rfl ?_ ?_
  · intro cv L' H' hl hP F Q' hk
    obtain⟨v1,v2,v3,rfl⟩:=py hl
    obtain⟨ta,tc,wr,r8,rfl,rfl,rfl,rfl,rfl,sW,iC,rX,oE,iJ,jS⟩:=hP
    refine B 1 ?_
    exact OJ.done (hk _ _ _ ⟨ta,tc,wr,r8,rfl,rfl,rfl,rfl,rfl,rfl,sW,iC,rX,oE,iJ,jS⟩)
  refine ss rfl ?_ ?_
  · intro cv L' H' hl hP F Q' hk
    obtain⟨v1,v2,v3,v4,rfl⟩:=vo hl
    obtain⟨ta,tc,wr,r8,rfl,rfl,rfl,rfl,rfl,rfl,sW,iC,rX,oE,iJ,jS⟩:=hP
    refine kT (i:=0) rfl sizeOf51 rfl rfl rfl rfl (eh rfl) (Rw.val_one2 _ _) ?_
    exact OJ.done (hk (.tuple #[]) _ _ ⟨ta,tc,wr,r8,rfl,rfl,rfl,rfl,rfl,rfl,rfl,sW,iC,rX,oE,iJ,jS⟩)
  exact nn
 ):P:=h
theorem zdg (h:P:=by exact(eK d hd).up (cC.links wk A1).size (λb off e_ jU cQ de=>(cC.links wk A1).block b cQ (λhx=>hx.elim (λh=>de (mN b cQ h)) (λhx=>by first|(simp only[dx,ec,dL,ft,cd,dV,or_false]at hx;omega)|(simp at hx;omega)|(simp at hx)))) (λb _ cQ h=>mN b cQ h)):P:=h
theorem zeg (h:P:=by
  refine zZc ?_
  refine CJ.chn 11 [4] [_,some (.slice G.ma G.g.ms.length G.mc),_,some (.agg #[.slice G.na G.g.ns.length G.nc]),none,_,some (bG),_,some undef,some undef,some undef] (λcv L' H'=>match cv with| []=>L'=[w1,w]/\H'=[]| [v1]=>∃(a7:Option Addr) (c7:Nat) (w7:World),v1= .slice a7 (ei G.g.ns).length c7/\L'=[w7,w1,w]/\H'=[]/\ai (λx=>(az x).toArray) 1 w7.heap.size w7 a7 (ei G.g.ns)|_=>False) (pc Y2 (pc OP (pc Y3 (pc OP (pk (pc zM (pc (λcv L' H' hd hP=>match cv,hd,hP with| [],hd,hP=>(absurd (show false=true from hd) zA)| [v1],hd,hP=>zLc|_::_::_,_,hP=>hP.elim) (pc zM (pc zMb (pc zMb (pc zMb (pn)))))))))))) ?_ ?_
  · refine ss rfl ?_ ?_
    · intro cv L' H' hl hP F Q' hk
      obtain rfl:=my hl
      obtain⟨rfl,rfl⟩:=hP
      refine zbd ?_
      intro W7 a7 c7 w7 CG Pp ko od
      exact OJ.done (hk _ _ _ ⟨a7,c7,w7,rfl,rfl,rfl,ko⟩)
    exact nn
  · intro cv L' H' hl hP
    obtain⟨v1,rfl⟩:=jv hl
    obtain⟨a7,c7,w7,rfl,rfl,rfl,ko⟩:=hP
    refine B 7 ?_
    refine aK results148 rfl A2 ?_
    exact RD (λh=>h1 h.2.2.1)
 ):P:=h
theorem zfg (h:P:=by
  have hv:∀W2,∀w∈L,∀k,rn V W1 W2 k->V k\/w.heap.size<=k:=λW2 w hw k hk=>by
    rcases hk with hk|hk
    · exact .inl hk
    · have:=(hS.links w hw).size;exact .inr aa
  refine⟨fn,tmps,assign,body,gq,p5.mono ?_⟩
  rintro e W2 ⟨b,rfl,hk,hb⟩
  refine⟨b,rfl,by rw[(hT _).1];exact hk,?_⟩
  have nx:∀{R:World->Prop} (hR:gk (λk=>(k<W0.heap.size/\¬MI k)\/(rn V W1 W2) k) R),R W2->Next (T (dD hM V hI)) W1 W2 (T (dD hM (rn V W1 W2) hR)):=λ{R} hR hb=>by
    refine⟨λk h=>?_,λk h=>?_,λk h=>?_,by rw[(hT _).2.2.1];exact hb⟩
    · rw[(hT _).2.2.2]at h ⊢
      rcases h with(h|h)|h
      · exact .inl (.inl h)
      · exact .inl (.inr (.inl h))
      · exact .inr h
    · rw[(hT _).2.2.2]at h ⊢
      rcases h with(h|h|h)|h
      · exact .inl (.inl (.inl h))
      · exact .inl (.inl (.inr h))
      · exact .inr h
      · exact .inl (.inr h)
    · rw[(hT _).2.1]at h ⊢
      rcases h with h|h|h
      · exact .inl (.inl h)
      · exact .inl (.inr h)
      · exact .inr h
  cases b with
  |true=>exact⟨_,⟨_,λk h=>.inl h,hv W2,rfl⟩,nx (lI _) hb⟩
  |false=>exact⟨_,⟨_,λk h=>.inl h,hv W2,rfl⟩,nx (gi _) hb⟩
 ):P:=h
theorem Y8 (h:P:=by
  refine zoe ?_
  show Value.bool _=Value.bool _
  refine vb ?_
  first|(have h1b:(gD G.g.ms au != decide (0<G.g.epoch))=true:=Dg;unfold lU;rw[h1b];rfl)|(have h1b:(gD G.g.ms au != decide (0<G.g.epoch))=false:=Dg;unfold lU;rw[h1b];simp_all)
 ):P:=h
theorem zhg (h:P:=by
  refine ss rfl ?_ ?_
  · intro cv L' H' hl hP F Q' hk
    obtain rfl:=my hl
    obtain⟨rfl,rfl⟩:=hP
    refine zbd ?_
    intro W7 a7 c7 w7 CG Pp ko od
    exact OJ.done (hk _ _ _ ⟨a7,c7,w7,rfl,rfl,rfl,ko⟩)
  exact nn
 ):P:=h
theorem Y6 (h:P:=by exact PJ.mid ⟨(congrArg (λb=>some (Value.bool b)) zab),rfl,rfl,rfl,rfl,rfl,rfl,rfl,rfl,rfl,rfl,rfl,rfl,rfl,trivial⟩):P:=h
theorem zkg (h:P:=by
  have h5:∀q,q1=some q->(W9.heap.size)<=q.block:=by
    intro q hq
    rcases xX with h|⟨b',off,eG,t',C7,e1,_⟩
    · exact absurd h h0
    · rw[e1]at hq;cases hq;exact h2 _ _ e1
  obtain⟨FT,h3,h4⟩:=xX.fs (K:=(W9.heap.size)) h5
  exact⟨FT,λp hp=>⟨(h3 p hp).1,(bA.1 (h3 p hp).2).1,(h3 p hp).2⟩,h4.mono (λp hp=>aY.2 (.inl hp))⟩
 ):P:=h
theorem TT (h:P:=by
  refine aK results8 rfl A1 ?_
  first|exact vb z5|exact vb zzb|exact vb zFb
 ):P:=h
theorem zmg (h:P:=by
  rw[Instr.checkKey]
  simp only[Sem.run_bind,run_underlying hU,Result.andThen_ok]
  simp only[Std.Legacy.Range.forIn_eq_forIn_range',Std.Legacy.Range.size,Nat.sub_zero,Nat.add_one_sub_one,Nat.div_one]
  have each:∀j∈List.range' 0 len,j<cs.length:=λj hj=>by rw[List.mem_range'_1]at hj;omega
  generalize List.range' 0 len=is at each
  induction is with
  |nil=>simp
  |cons j is ih=>
    have hj:=each j zJ
    have p1:(part e cs.toArray (j*1)).run P W= .ok cs[j] W:=by simp[part,hA W,hj]
    have p2:(Instr.checkKey em (n+1) e cs[j]).run P W= .ok () W:=by simp[Instr.checkKey,run_underlying hE]
    simp only[List.forIn_cons,Sem.run_bind,hZ W,Result.andThen_ok,p1,p2,Sem.run_pure]
    exact ih (λy hy=>each y (by simp[hy]))
 ):P:=h
theorem zng (h:P:=by
  refine zVe ?_
  first|exact nDh dP aa|exact nqc hx (λg=>by have g1:=g.1.1;rw[<-RF,<-RG]at g1;exact absurd g1 cV)|exact nqc hx (λg=>absurd g.1.2 cV)|exact nqc hx (λg=>by have g1:=g.2;simp_all)
 ):P:=h
theorem zog (h:P:=by
  intro a W hI
  obtain⟨x,hx,iR,hN,hD,hF,hS⟩:=nJe hI
  refine wpIn_mono (round x iR a W hN hD hF hS) ?_
  intro e a' W' hq
  cases e with
  |normal=>
    obtain⟨x',aoF,hlt,h1,h2,h3,h4⟩:=hq
    have hI':Inv a' W' (μ x'):=⟨x',rfl,aoF,h1,h2,h3,h4⟩
    exact⟨⟨_,hI'⟩,by have:=nbg hI';omega⟩
  |_=>exact hq
 ):P:=h
theorem zpg (h:P:=by
  refine B 4 ?_
  have zy:j=p.c.wes.length:=by omega
  rw[zy]at aW
  have adg:pre.map hJ=iL (aV p):=by rw[aW];unfold iL;rw[show p.c.wes.length=(aV p).1.wes.length from rfl,uw];rfl
  refine n5c (.inr rfl) results166 A1 hV zZ (λA cC hA=>.inl ⟨pre,⟨⟨adg,by omega⟩,λd hd=>?_⟩,hA⟩)
  exact((eK d hd).up (cC.links wk A0).size (λb off e_ jU cQ de=>(cC.links wk A0).block b cQ (λhx=>hx.elim de (λhx=>by first|(simp only[dx,ec,dL,ft,cd,dV,or_false]at hx;omega)|(simp at hx;omega)|(simp at hx)))) (λb _ cQ h=>h)).low aa
 ):P:=h
theorem Of (h:P:=by
  refine B 2 ?_
  refine PJ.again (q-1,r+y1) ⟨bX,by omega,cX,by omega⟩ zZb zR rfl rfl zJ
 ):P:=h
theorem WG (h:P:=by
  refine aK results46 rfl A1 ?_
  first|exact vb zbb|exact vb z9|exact vb zEb
 ):P:=h
theorem zsg (h:P:=by
  obtain⟨F1,wB,uJ⟩:=uJ.fs (K:=w.heap.size) (Rw.val_new (Rw.ge_mono bJ aa) uu)
  refine⟨((a1,c1),pls),F1++F,?_,?_,λp hp=>?_,aW,λp hp=>⟨(gV p hp).1.mono (λq hq=>aY.2 (.inr hq)),(gV p hp).2⟩,by dsimp only;omega,uJ.mono (λp hp=>aY.2 (.inl hp))⟩
  · show Ending.returned (r.val pls.length)=_
    rw[uu]
  · exact(hS.links w A1).below (λk hk hx=>by rcases hx with hx|hx;(exact hx);simp only[ee]at hx;have:=Rw.mem_ge bJ hx;omega)
  · rcases aY.1 hp with hp|hp
    · exact wB p hp
    · exact⟨dC p hp,(hS.fzLies p hp).2⟩
 ):P:=h
theorem ztg (h:P:=by exact PJ.mid ⟨(congrArg some (vb zL)),rfl,rfl,rfl,rfl,rfl,rfl,rfl,trivial⟩):P:=h
theorem zug (h:P:=by
  refine nT results125 rfl rfl A0 ?_ ?_
  all_goals(refine congrArg ab ?_;unfold gExp;first|(simp only[if_neg hg];done)|(rw[if_pos hg];first|(rw[if_neg aa];done)|(rw[if_pos aa];done)))
 ):P:=h
theorem zvg (h:P:=by
  have h1:=SV p hp
  have hn:p.1∉List.map (·.1) ([(WO,oC (kU (⟨d.c,decide (j=0),aN gf.g.ns d.c.chs,q1,q2,d.x⟩:Pl)) 92),(gd,oC (bF gf) 53),(b9,oC (cM d.c) 61),(b4,oC (qR fo) 97)]++(r.hp Ak 92 pls++[]):ad):=by
    intro hm
    obtain⟨p9,hp9,e9⟩:=bT.1 hm
    rcases cd.1 hp9 with h2|h2
    · rw[h2]at e9;dsimp only at e9;omega
    · have:=hK2 p9 h2;omega
  exact⟨((hS.links w8 A0).block p.1 h1.2.1 (λhx=>hx.elim zI (λh=>hn h))).trans h1.2.2,hn⟩
 ):P:=h
theorem zwg (h:P:=by
  refine ss rfl ?_ ?_
  · intro cv L' H' hl hP F Q' hk
    obtain⟨v1,v2,rfl⟩:=rP hl
    obtain⟨bn,rfl,rfl,rfl,rfl,hfn⟩:=hP
    refine Zs ?_
    intro b_ pL iw
    exact OJ.done (hk _ _ _ ⟨bn,b_,rfl,rfl,rfl,rfl,rfl,hfn,pL⟩)
  exact nn
 ):P:=h
theorem zxg (h:P:=by
  refine B 6 ?_
  have cF:=nko (l:=dt d) (i:=i) aa (iq (di ns) (512+d))
  rw[cF]at ze ⊢
  refine B 9 ?_
  refine bQ (.inl rfl) results64 bB λW hS=>⟨bf,mi,ap,ig,rfl,hS.base A2 C2,by omega,ze,hS.own _ A0,pF.blk λb off hb1 dw=>?_,λq hq=>?_⟩
  · have h1:=uz _ hb1
    dsimp only at h1
    exact⟨qH dw (hS.links wp A0).size,(hS.links wp A0).block b dw (by simp[Gh.no];omega)⟩
  · have h1:=uz _ hq
    have h2:=(B4.links w A1).size
    exact⟨by omega,by omega⟩
 ):P:=h
theorem zyg (h:P:=by
  intro V2 tW dI
  have lK:∀k,V2 k->W.heap.size<=k:=λk hk=>(dI W A2 k hk).elim (hV k) id
  have mN:∀k,k<wk.heap.size->(M k\/V2 k)->(M k\/V k):=λk hk h=>(h.imp id λh=>(dI wk A1 k h).resolve_right aa)
  have pQ:¬(M sD\/V2 sD):=λh=>G3 (h.imp id λh=>(dI yp A0 _ h).resolve_right aa)
  refine zrf ?_
  refine fA 10 25 (k:=?_)
  refine zNf ?_
  refine B 8 ?_
  exact n5c (.inl rfl) results166 A2 lK zZ (λA hSA hA=>.inr hA)
 ):P:=h
theorem zzg (h:P:=by
  refine aK results71 rfl A1 ?_
  first|exact Zl (λh=>by have h1:=Jn.2 h.1;have h2:=h.2;omega)|exact npj ⟨Jn.1 aa,by omega,by omega⟩
 ):P:=h
theorem zAg (h:P:=by
  rw[gh.1 hd]
  exact fM.low (fM.up (fM.one GZ G3 (K:=w0.heap.size) aa) (eE (cC.links yp A0).size o9.size) (λb off e_ jU cQ de=>(o9.block b (by have:=(cC.links yp A0).size;omega) de).trans ((cC.links yp A0).block b cQ (λhx=>hx.elim de (λhx=>by cases e_;first|(simp only[dx,ec,dL,ft,cd,dV,or_false]at hx;omega)|(simp at hx;omega)|(simp at hx))))) (λb _ _ h=>h)) (cY _)
 ):P:=h
theorem zBg (h:P:=by
  intro j hj
  rw[Array.contains_iff_mem]
  simp only[List.mem_toArray,bT]
  constructor
  · rintro⟨j',h1,h2⟩
    have h3:=qd j' h1
    have hb1:j<m.bs.length:=by rw[hm.len];exact hj
    have dw:j'<m.bs.length:=by rw[hm.len];exact h3
    simp only[List.getD,lj hb1,lj dw,Option.getD_some]at h2
    have:=nCk hm.nd dw hb1 h2
    subst this;exact h1
  · exact λh=>⟨j,h,rfl⟩
 ):P:=h
theorem ZM (h:P:=by exact bQ (.inl rfl) results83 bB λW hS=>⟨gf,rfl,hS.base A2 zB,rfl,ZL _ _,λq h=>zS,λq h=>zS⟩):P:=h
theorem Yr (h:P:=by
  rw[aW]at hx
  replace hx:=yf hx
  rcases hx with hx|hx|hx|hx<;>first|omega|(have:=hq _ hx;omega)
 ):P:=h
theorem zEg (h:P:=by
  refine B 5 ?_
  obtain⟨bq,oq,Ri,tq,Rj,rfl,pG,zf,qI⟩:=pF.get aa
  have EY:=uz _ rfl
  dsimp only at EY
  obtain⟨n,hy⟩:=ng (dt d) i aa
  refine B 2 ?_
  refine z4d ?_
  refine B 6 ?_
  refine zyd ?_
  intro m3 cX
  refine B 7 ?_
  refine PJ.again (m3,i+1) ⟨by dsimp only;omega,by rw[nfg hy];exact cX⟩ zW zR (by rw[nfg hy];rfl) rfl zJ
 ):P:=h
theorem Vq (h:P:=by
  intro b4 iT iU
  replace iT:=yb iT
  replace iU:=yc iU
  refine zjf ?_
  rfl
 ):P:=h
theorem zGg (h:P:=by
  intro cv L' H' hl hP F Q' hk
  obtain rfl:=my hl
  obtain⟨rfl,rfl⟩:=hP
  refine Zs ?_
  intro b_ pL iw
  exact OJ.done (hk _ _ _ ⟨b_,rfl,rfl,rfl,pL⟩)
 ):P:=h
theorem zHg (h:P:=by exact n5c (.inl rfl) results166 A2 lK zZ (λA hSA hA=>.inr hA)):P:=h
theorem zIg (h:P:=by
  refine B 7 ?_
  refine zhd ?_
  refine B 5 ?_
  refine zNe ?_
  refine B 2 ?_
  refine PJ.again (k+1,if 128-64*k=64 then o2 else o2+64*1) (by dsimp only;split<;>omega) zW ⟨rfl,rfl,rfl,by rw[show N-64*(k+1)=N-64*k-64 by omega,show 128-64*(k+1)=128-64*k-64 by omega];rfl,trivial⟩ rfl rfl zJ
 ):P:=h
theorem zJg (h:P:=by
  have h1:(js++[jn]).Nodup:=by rw[List.nodup_append];exact⟨hnd,by simp,by intro a ha b hb;simp at hb;subst hb;exact λe=>tE (e▸ha)⟩
  have h2:∀j∈js++[jn],j<kv.length:=by
    intro j hj
    rcases aY.1 hj with hj|hj
    · exact qd j hj
    · simp at hj;subst hj;exact nq wR
  exact⟨h1,h2,by simpa using Yz _ _ h1 h2⟩
 ):P:=h
theorem VR (h:P:=by
  intro aR
  refine B 7 ?_
  refine ag (j+1) ⟨by omega,dP.next hx AR⟩
 ):P:=h
theorem zLg (h:P:=by
  intro Dm c32 s32 Af aoG
  refine OJ.dropF (i:=0) rfl (.inr ⟨by omega,by omega,trivial⟩) ?_
  refine B 8 ?_
  refine ag (ys++y.enc,i+1,Dm,c32,s32) ⟨by dsimp only;rw[jh,<-hy,<-V.encL_drop l i aa];exact hinv,by dsimp only;omega,Af,by simpa only[Fr,Gh.lent,Gh.no,ah,and_true,false_or]using Af,aoG⟩
 ):P:=h
theorem zMg (h:P:=by exact nQ (enc:=tK) (m:=4) (t:=110) (xs:=[]) (H0:=[(b6,oC #[ak] 56)]) (H1:=[]) (r:=.nil) (.inl rfl) results134 bB A1 zmc rfl rfl True.intro rfl):P:=h
theorem zNg (h:P:=by exact PJ.mid ⟨(congrArg some (vb z5b)),rfl,rfl,rfl,rfl,rfl,trivial⟩):P:=h
theorem zOg (h:P:=by
  refine B 12 ?_
  refine zne ?_
  intro r aM ae
  refine B 1 ?_
  refine zDe ?_
  refine B 4 ?_
  exact nQ (enc:=ie) (m:=2) (t:=240) (xs:=[]) (H0:=[(b4,oC #[r.val (([]:List Nd)).length] 51)]) (H1:=[]) (r:=r) (.inl rfl) results35 bB A1 zGc rfl ae (Rw.ge_of aM A1) z4b
 ):P:=h
theorem zPg (h:P:=by
  apply Array.ext'
  rw[nZ,mr,<-hlen]
  show jV (ys++sp) ys.length news=_
  have aow:n*ti.size<=sp.length:=by rw[wG,<-wZ,wZ];exact w6 _ aa
  conv=>lhs;rw[<-AV (n*ti.size) sp]
  rw[nFd _ _ _ _ (by rw[jM];omega),jh]
 ):P:=h
theorem zQg (h:P:=by
  refine B 14 ?_
  refine qF ?_
  refine ag ((i2+1,cur.set i2 x),j+1) ⟨by dsimp only;omega,by dsimp only;omega,by dsimp only;rw[List.length_set];exact mA,by dsimp only;rw[n8c aa,xa,R6 hx,if_neg AR],by dsimp only;rw[n3d aa];exact si⟩
 ):P:=h
theorem zRg (h:P:=by exact nQ (enc:=az) (m:=1) (t:=3) (xs:=[]) (H0:=[]) (H1:=[]) (r:=.nil) (.inl rfl) results262 bB A1 trivial rfl rfl True.intro rfl):P:=h
theorem zSg (h:P:=by
  unfold qS
  by_cases Pm:0<j
  · rw[if_pos Pm,GN,nyg]
    rcases WM Dw with⟨_,h2⟩|⟨n,xb,h1,_,_⟩
    · rw[h2];rfl
    · exfalso;subst h1;omega
  · rw[if_neg Pm];rfl
 ):P:=h
theorem VQ (h:P:=by exact λW hS=>.inr ⟨j,x,rfl,hx,by assumption,dP⟩):P:=h
theorem zUg (h:P:=by
  refine vC ?_
  refine ag (k+1) ⟨by omega,λb hb=>by rw[np Al]at hb;rcases aY.1 hb with h|h;(exact VK b h);rw[gh.1 h];rintro⟨h1,h2⟩;first|(obtain⟨o,ho,e⟩:=h2;rw[nNi hom aa ho]at e;cases e)|simp_all⟩
 ):P:=h
theorem zVg (h:P:=by
  refine aK results25 rfl A0 ?_
  first|exact vb zuc|exact vb zpc|exact vb zqc
 ):P:=h
theorem zWg (h:P:=by
  by_cases h0:xs=[]
  · exact .inr h0
  · have hp:0<xs.length:=azr.2 h0
    have:=(e4 (xs.length-1) aa).1
    refine .inl ?_
    have e:xs.length*m=(xs.length-1)*m+m:=by rw[<-Nat.succ_mul];congr 1;omega
    omega
 ):P:=h
theorem zXg (h:P:=by
  refine B 7 ?_
  refine zhe ?_
  refine B 3 ?_
  have e:i=8:=by omega
  subst e
  refine zTd ?_
  show Value.agg (cut (lh (tz n m (ij n)) 8) 0 32)=_
  rw[nRf _ 32 (by rw[lh,D5]),Qt];rfl
 ):P:=h
theorem zYg (h:P:=by refine ag (((r,ds),F),i+1) ⟨by dsimp only;omega,aM,ae,by dsimp only;rw[Dx hgi,aW];first|(rw[npo Mt zFc];simp;done)|(rw[Tv Mt kD,show j=g.olds.length by omega,uw];simp),iP,by dsimp only;omega,dC,jb⟩):P:=h
theorem zZg (h:P:=by
  refine bQ (.inl rfl) results49 bB λW hS=>⟨by rw[<-h9.1];rfl,gm,by rw[<-h9.2];exact qk,(hS.links w A1).mono λk _ hk=>?_,by rw[<-h9.2];exact hS.own _ A0⟩
  rcases hk with hk|hk
  · exact hk
  · simpa using hk
 ):P:=h
theorem z0g (h:P:=by refine ag (k+1) ⟨by omega,λi z hi hz=>by rcases Nat.lt_or_ge i k with h|h;(exact Da i z h hz);obtain rfl:i=k:=aa;rw[hy]at hz;cases hz;rintro⟨h1,h2⟩;first|exact absurd h1 cV|exact absurd h2 cV⟩):P:=h
theorem z1g (h:P:=by
  refine cu (.inl rfl) results72 bB A0 zB ?_
  exact vb (by unfold Hl;rw[DZ];simp_all<;>omega)
 ):P:=h
theorem z2g (h:P:=by
  refine B 19 ?_
  refine qF ?_
  refine ag ((pre,V),wk,j+1) ⟨by dsimp only;omega,hV,tJ,by dsimp only;rw[Dx (xs:=(aV p).1.wes) hx,aW,S0 cV,ee],by dsimp only;omega,eK⟩
 ):P:=h
theorem z3g (h:P:=by
  refine ss rfl ?_ ?_
  · intro cv L' H' hl hP F Q' hk
    obtain rfl:=my hl
    obtain⟨rfl,rfl⟩:=hP
    refine B 1 ?_
    exact OJ.done (hk (.tuple #[]) _ _ ⟨rfl,rfl,rfl⟩)
  exact nn
 ):P:=h
theorem z4g (h:P:=by exact PJ.mid ⟨(congrArg some (vb zL)),rfl,rfl,rfl,rfl,rfl,rfl,rfl,rfl,trivial⟩):P:=h
theorem z5g (h:P:=by
  refine xW ?_
  refine ag (j+1) ⟨by omega,dP.next hx ⟨Classical.not_not.1 h1,λy0 h0 I7=>by first|omega|(rw[hy]at I7;cases I7;omega),nw.1 aa⟩⟩
 ):P:=h
theorem z6g (h:P:=by
  refine⟨[],by simp,?_⟩
  rw[h1,(Prod.mk.inj h2).1]
  exact CA.ns.mono (λp hp=>hp)
 ):P:=h
theorem z7g (h:P:=by
  refine nT results37 rfl rfl A0 ?_ ?_
  all_goals first|rfl|(exfalso;apply h;exact⟨by omega,by omega⟩)
 ):P:=h
theorem z8g (h:P:=by
  replace dm:=ya dm
  refine B 4 ?_
  exact PJ.mid ⟨(congrArg some (vb (by first|(simp;done)|(simp;omega)))),rfl,rfl,rfl,rfl,rfl,rfl,rfl,rfl,trivial⟩
 ):P:=h
theorem z9g (h:P:=by refine ag (((r,pls),F),i+1) ⟨by dsimp only;omega,aM,ae,by dsimp only;rw[nJk sY,aW];congr 1;unfold xq;rw[<-hv.eq,eO,show ds.length=j by omega],gV,by dsimp only;omega,dC⟩):P:=h
theorem zah (h:P:=by
  refine xW ?_
  refine ag (j+1) ⟨by omega,dP.next hx ⟨by omega,by omega,λy0 h0 I7=>by first|omega|(rw[hy]at I7;cases I7;omega),nNg KC,(n2c _).1 AR⟩⟩
 ):P:=h
theorem zbh (h:P:=by
  rw[if_pos (bT.2 ⟨_,cA h1,rfl⟩)]
  simp only[List.map_set]
  apply C3
  intro j
  rw[axr]
  split
  · rename_i e;subst e
    have hl:=(gW.1 h1).1
    rw[if_pos K7];simp[h1]
  · rfl
 ):P:=h
theorem zdh (h:P:=by
  rw[List.set_append_right _ _ zJ]
  simp only[eO,Nat.sub_self,sm,gL,dL,ft,cO,dO,fO,jh]
  rw[show ch.length-vs.length=(ch.length-(vs.length+1))+1 by omega,List.replicate_succ]
  rfl
 ):P:=h
theorem zeh (h:P:=by
  have e2:Hj G.g l=[]:=by unfold Hj;rw[e1];rfl
  rw[e1,e2]
  exact nQ (enc:=Bj) (m:=2) (t:=180) (xs:=[]) (H0:=[]) (r:=.nil) (.inl rfl) results68 bB A1 zD rfl rfl True.intro rfl
 ):P:=h
theorem zfh (h:P:=by
  rcases hk with hk|hk
  · exact hk
  · simpa using hk
 ):P:=h
theorem zgh (h:P:=by
  have eP:W.drew.heap[b]? =some (.cells (ys++sp).toArray e (0,0)):=hb
  rw[nKh eP (by simp only[rh,cO,hlen];omega)]
  unfold cut
  simp only[Pu,<-hlen]
  rw[QT rfl]
 ):P:=h
theorem zhh (h:P:=by exact PJ.mid ⟨(congrArg some (vb zwc)),rfl,rfl,rfl,rfl,rfl,rfl,trivial⟩):P:=h
theorem zih (h:P:=by refine ag (m+1) ⟨by omega,λb hb=>by rw[np hx]at hb;rcases aY.1 hb with h|h;(exact hwm b h);rw[gh.1 h];rintro⟨h1,h2⟩;first|exact absurd h2 cV|simp_all⟩):P:=h
theorem zjh (h:P:=by
  intro aR
  refine B 8 ?_
  refine qF ?_
  refine ag ((i2,cur),j+1) ⟨by dsimp only;omega,by dsimp only;omega,mA,by dsimp only;rw[xa,R6 hx,if_pos AR,ee],si⟩
 ):P:=h
theorem zkh (h:P:=by exact⟨rfl,0,_,by rw[alloc_eq_grow,alloc_eq_grow,grow_grow];rfl⟩):P:=h
theorem zlh (h:P:=by exact⟨rfl,.row gB pD pE,jL.elim (λh=>Rw.Fr_at aM h) (λh=>.inr h.2),lk,rfl⟩):P:=h
theorem zmh (h:P:=by
  unfold leftOf at this
  rw[Array.filter_eq_empty_iff]at this
  have h2:=this _ (by simpa using kL)
  simp only[Bool.not_eq_true,Bool.not_eq_false']at h2
  exact hn h2
 ):P:=h
theorem znh (h:P:=by refine PJ.again (r,j+1) ⟨by dsimp only;omega,aM,by rw[nHf hx aa];exact ae⟩ zW ⟨rfl,by rw[nHf hx aa];rfl,rfl,rfl,rfl,trivial⟩ (by rw[nHf hx aa];rfl) rfl zJ):P:=h
theorem zoh (h:P:=by
  replace dm:=ya dm
  refine B 6 ?_
  exact PJ.mid ⟨(congrArg (λb=>some (Value.bool b)) zab),rfl,rfl,rfl,rfl,rfl,rfl,rfl,rfl,rfl,rfl,trivial⟩
 ):P:=h
theorem zph (h:P:=by
  refine nT results79 rfl rfl A0 ?_ ?_
  all_goals(refine congrArg ab ?_;unfold J2;first|(rw[if_neg aa];done)|(rw[if_pos aa];try first|(rw[Oo aa];done)|skip))
 ):P:=h
theorem VS (h:P:=by exact λW hS=>.inl ⟨rfl,nxd dP aa⟩):P:=h
theorem zrh (h:P:=by
  refine QE ?_
  refine B 13 ?_
  exact nQ (enc:=ie) (m:=2) (t:=240) (xs:=[]) (H0:=_) (H1:=[]) (r:=.nil) (.inl rfl) results154 bB A1 zdc rfl rfl True.intro (ee _).symm
 ):P:=h
theorem Qo (h:P:=by exact λ_ _ _ _ _ _ _ _ hk=>hk.elim):P:=h
theorem zth (h:P:=by
  have xO:¬Gh.no.X bI:=λh=>h
  refine eN func269 ntmps269 ?_
  refine B 27 ?_
  refine dp bG ?_
  refine B 12 ?_
  refine nT results269 rfl rfl A0 ?_ ?_
  all_goals rfl
 ):P:=h
theorem zuh (h:P:=by
  obtain⟨p,hp,rfl⟩:=wv.1 hj
  have BT:=(gW.1 hp).1
  have:j<m.bs.length:=by rw[hm.len];exact BT
  exact hm.lt _ (by simp[List.getD,this])
 ):P:=h
theorem zvh (h:P:=by
  intro b7 c7 s7 uq C6
  exact OJ.done (hk _ _ _ ⟨b6,b7,c7,s7,rfl,rfl,rfl,rfl,ky,C5,uq,by simpa only[Fr,Gh.lent,ah,and_true]using uq,C6⟩)
 ):P:=h
theorem zwh (h:P:=by
  induction H with
  |nil=>intro p hp;simp at hp
  |cons q H ih=>
    intro p hp
    simp only[cd]at hp
    rcases hp with rfl|hp
    · exact h.1
    · exact ih h.2 p hp
 ):P:=h
theorem zxh (h:P:=by
  refine aK results259 rfl A1 ?_
  exact vb (by unfold zm;simp_all)
 ):P:=h
theorem zyh (h:P:=by
  have h1:=(Xr j BT).2 h
  have h2:(!((js.map λj=>m.bs.getD j 0).toArray.contains (m.bs.getD j 0)))=true:=bX
  rw[h1]at h2
  cases h2
 ):P:=h
theorem zzh (h:P:=by
  refine nT results263 rfl rfl A0 ?_ ?_
  all_goals first|(rw[hbe];done)|exact vb (nNm hbe hx)|exact vb (nxj hbe h1)
 ):P:=h
theorem zAh (h:P:=by
  replace av:=ya av
  refine B 9 ?_
  refine aK results212 rfl A1 ?_
  exact vb (by unfold sg;rw[DZ];first|(simp;omega)|simp)
 ):P:=h
theorem zBh (h:P:=by
  refine B 5 ?_
  exact PJ.mid ⟨(congrArg some (vb (by cases(gJ pls sf).isSome<;>simp[CN]))),rfl,rfl,rfl,rfl,trivial⟩
 ):P:=h
theorem zCh (h:P:=by
  have:=run_entry_at (P:=C.P) W rb b m.c (js.map λj=>m.bs.getD j 0).toArray _ m.c _ (by rw[hr];simp) eP (cA fJ) hnd
  simp[execOp,hF.ev hx,this]
 ):P:=h
theorem zDh (h:P:=by
  rw[<-NJ (r:=none) (n:=0)]
  refine callsIn_of_wp_marks hf hb trivial (h _ w ?_ rfl ?_ hS)
  · have:=eh hl
    simp[hN];omega
  · exact npc vs _
 ):P:=h
theorem zEh (h:P:=by
  intro i x' y' hi hx' hy'
  by_cases e':i=j
  · subst e';rw[hx]at hx';rw[hy]at hy';cases hx';cases hy';exact e
  · exact h i x' y' aa hx' hy'
 ):P:=h
theorem zFh (h:P:=by
  simp only[execOp,hF.ev hx,hF.ev hy,Sem.run_bind,h1,h2,Result.andThen]
  rfl
 ):P:=h
theorem zGh (h:P:=by exact px.sl hU Rd.zero (by simp[iB]) (by simp[iB])):P:=h
theorem zHh (h:P:=by
  simp only[Rw.val,Value.slice.injEq]at e9
  rw[<-e9.1]at h9;exact h9
 ):P:=h
theorem zIh (h:P:=by
  rw[<-NJ (r:=none) (n:=0)]
  refine callsIn_of_wp hf hb trivial (h _ w ?_ rfl ?_ hS)
  · have:=eh hl
    simp[hN];omega
  · exact npc vs _
 ):P:=h
theorem zJh (h:P:=by
  refine nT results216 rfl rfl A1 ?_ ?_
  all_goals(refine congrArg ab ?_;unfold rJ;first|(rw[if_neg hg];done)|(rw[if_pos hg];done))
 ):P:=h
theorem zKh (h:P:=by
  refine nT results215 rfl rfl A1 ?_ ?_
  all_goals(refine congrArg ab ?_;unfold qC;first|(rw[if_neg hg];done)|(rw[if_pos hg];done))
 ):P:=h
theorem zLh (h:P:=by exact λW hS=>⟨fX.1,hS.old A0 hb1 cK trivial⟩):P:=h
theorem zMh (h:P:=by
  replace av:=ya av
  refine B 7 ?_
  refine aK results257 rfl A0 ?_
  refine vb ?_
  unfold pr
  simp;try omega
 ):P:=h
theorem zNh (h:P:=by
  refine B 11 ?_
  refine aK results13 rfl A1 ?_
  exact vb (by first|exact nho hx cV|exact SJ dP aa)
 ):P:=h
theorem zOh (h:P:=by
  rw[List.nodup_append]
  exact⟨hm.nd,by simp,by intro a ha b' eP;simp at eP;subst eP;have:=hm.lt a ha;omega⟩
 ):P:=h
theorem zPh (h:P:=by
  replace av:=ya av
  refine B 10 ?_
  refine aK results150 rfl A2 ?_
  exact vb (by unfold Js;simp_all)
 ):P:=h
theorem zQh (h:P:=by
  refine aK results107 rfl A1 ?_
  exact congrArg ab (by first|exact njo dP hx (decide_eq_true cV)|exact Sh dP aa)
 ):P:=h
theorem zRh (h:P:=by
  have h5:vs.length<=k:=by have:=hr.1;grind
  cases k with
  |zero=>omega
  |succ m=>have:=hr.2 m A0;grind
 ):P:=h
theorem zSh (h:P:=by
  replace av:=ya av
  refine B 7 ?_
  refine aK results222 rfl A0 ?_
  exact vb (by simp[dd];omega)
 ):P:=h
theorem zTh (h:P:=by
  replace av:=ya av
  refine B 7 ?_
  refine aK results217 rfl A0 ?_
  exact vb (by simp[qK];omega)
 ):P:=h
theorem zUh (h:P:=by refine ag (j+1) ⟨by omega,dP.next hx (decide_eq_false cV)⟩):P:=h
theorem zVh (h:P:=by
  refine aK results24 rfl A0 ?_
  exact vb zjb
 ):P:=h
theorem zWh (h:P:=by
  refine aK results218 rfl A1 ?_
  exact vb z6b
 ):P:=h
theorem zXh (h:P:=by
  refine aK results19 rfl A0 ?_
  exact vb zjb
 ):P:=h
theorem zYh (h:P:=by exact PJ.mid ⟨(congrArg (λb=>some (Value.bool b)) zab),rfl,rfl,rfl,rfl,rfl,rfl,rfl,rfl,rfl,trivial⟩):P:=h
theorem zZh (h:P:=by
  intro b_ w_ tr pL iw xy yz
  exact OJ.done (hk _ _ _ ⟨b_,w_,rfl,rfl,rfl,tr,iw,xy⟩)
 ):P:=h
theorem z0h (h:P:=by exact bQ (.inl rfl) results83 bB λW hS=>⟨gf,rfl,hS.base A3 zB,rfl,ZL _ _,λq h=>zS,λq h=>zS⟩):P:=h
theorem z1h (h:P:=by
  rcases h with h|⟨b,off,h1,h2,h3⟩
  · exact .inl h
  · exact .inr ⟨b,off,h1,by omega,h3.up (hw b h2)⟩
 ):P:=h
theorem z2h (h:P:=by
  rcases aY.1 hb with hb|hb
  · have:=hm.lt b hb;simp only;omega
  · simp at hb;subst hb;simp
 ):P:=h
theorem z3h (h:P:=by
  intro dm
  refine B 8 ?_
  refine ag (j+1) ⟨by omega,dP.next hx hy (Decidable.not_not.1 cV)⟩
 ):P:=h
theorem z4h (h:P:=by rcases he with rfl|rfl<;>exact key):P:=h
theorem z5h (h:P:=by exact OJ.done (hk _ _ _ ⟨bn,rfl,rfl,rfl,rfl,hfn⟩)):P:=h
theorem z6h (h:P:=by
  refine aK results135 rfl A1 ?_
  first|exact congrArg ab (nGm cV hx)|exact congrArg ab (nHo AR hx)
 ):P:=h
theorem z7h (h:P:=by
  rw[if_neg hc]
  exact⟨λh=>zS,λ⟨q,h0,h1,_⟩=>by cases h0;exact absurd h1 hc⟩
 ):P:=h
theorem z8h (h:P:=by
  refine aK results103 rfl A0 ?_
  exact congrArg ab zoc
 ):P:=h
theorem z9h (h:P:=by
  rcases hx with(hx|hx)|hx
  · exact .inl hx
  · have:=hV k hx;omega
  · exact .inr (hH k hk hx)
 ):P:=h
theorem zai (h:P:=by exact⟨by omega,λh=>by have:=(IZ k h).1;omega,λh=>by have:=(pB W hS k h).1;omega⟩):P:=h
theorem Wh (h:P:=by exact vb zfb):P:=h
theorem zdi (h:P:=by
  rintro e w' ⟨rfl,rfl⟩
  exact⟨rfl,Below.refl _ _⟩
 ):P:=h
theorem zei (h:P:=by
  subst hr
  have h0:xs=[]:=ae
  rw[h0];exact(n3h W).mono λe w2 h=>⟨h.1,nki,h.2⟩
 ):P:=h
theorem zfi (h:P:=by
  intro i y hi hy
  by_cases e:i=j
  · subst e;rw[hx]at hy;cases hy;exact hp
  · exact h i y aa hy
 ):P:=h
theorem zgi (h:P:=by
  intro i y hi hy
  by_cases e:i=j
  · subst e;rw[hx]at hy;cases hy;exact hk
  · exact h i y aa hy
 ):P:=h
theorem zhi (h:P:=by
  by_cases e2:j=k
  · simp[e2]
  · simp[e2,show ¬k=j from λx=>e2 x.symm]
 ):P:=h
theorem zii (h:P:=by
  by_cases e3:j=i'
  · subst e3
    rw[h3]
    simp[(gW.1 h3).1]
  · simp[e3]
 ):P:=h
theorem zji (h:P:=by
  unfold IntKind.wrap
  simp[IntKind.bits,IntKind.signed]
 ):P:=h
theorem zki (h:P:=by
  have e:a=some ⟨b,0,none⟩:=by injection he with h1 _ _;exact h1.symm
  subst e
  exact aH
 ):P:=h
theorem J1 (h:P:=by refine ag (j+1) aa):P:=h
theorem zmi (h:P:=by
  intro dm
  refine LB ?_
  refine ag (j+1) ⟨by omega,dP.next hx hy cV⟩
 ):P:=h
theorem zni (h:P:=by
  cases r2 with
  |nil=>trivial
  |row b cap sp=>exact hS.own (b,_) oV
 ):P:=h
theorem zoi (h:P:=by
  cases r1 with
  |nil=>trivial
  |row b cap sp=>exact hS.own (b,_) oV
 ):P:=h
theorem zpi (h:P:=by
  refine WQ (λV=>hI (pre++[(⟨[nj (dk p.x.g.last) (j:Int)],aO yy,some ⟨sD,0,none⟩,1⟩:Dv)]) V) hX hV (⟨[nj (dk p.x.g.last) (j:Int)],aO yy,some ⟨sD,0,none⟩,1⟩:Dv) b2 W9 cC.alone (cC.own (b2,_) A1) (λh=>h.elim (λh=>by have:=(hM _ h).1;omega) (λh=>cC.apart (b2,_) A1 (.inr h))) (λW1 o9 hv1 qD=>hy pre (⟨[nj (dk p.x.g.last) (j:Int)],aO yy,some ⟨sD,0,none⟩,1⟩:Dv) V W1 ⟨by simp only[cO,dO,fO];omega,λd hd=>?_⟩ hv1 qD)
  rcases aY.1 hd with hd|hd
  · exact zbg
  · exact zAg
 ):P:=h
theorem Jq (h:P:=by
  refine aK results149 rfl A1 ?_
  exact z6f
 ):P:=h
theorem RN (h:P:=by
  refine zJd ?_
  exact z6f
 ):P:=h
theorem zsi (h:P:=by
  rcases uB with⟨h1,h2⟩|h2
  · exact z6g
  · by_cases h0:aN gf.g.ns d.c.chs=[]
    · exact⟨[],by simp,.inl h0⟩
    · exact zkg
 ):P:=h
theorem Ve (h:P:=by
  refine zbf ?_
  exact z7f
 ):P:=h
theorem YO (h:P:=by
  refine B 17 ?_
  exact zag
 ):P:=h
theorem zvi (h:P:=by
  refine B 5 ?_
  exact Y6
 ):P:=h
theorem zwi (h:P:=by
  refine B 3 ?_
  exact ztg
 ):P:=h
theorem zxi (h:P:=by
  refine B 11 ?_
  exact RN
 ):P:=h
theorem vb {a b:Bool} (h:a=b):Go.Value.bool a=Go.Value.bool b:=congrArg _ h
theorem va {a b:Array Go.Value} (h:a=b):Go.Value.agg a=Go.Value.agg b:=congrArg _ h
theorem vi {a b:Int} (h:a=b):Go.Value.int .i64 a=Go.Value.int .i64 b:=congrArg _ h
theorem vu {a b:Int} (h:a=b):Go.Value.int .u64 a=Go.Value.int .u64 b:=congrArg _ h
theorem yV (k:Q) (h:ZW Q->P:=by intro Kz;intro b w hb ha ho hm hz;replace ha:=yb ha;replace ho:=yc ho;revert b w hb hm hz ha ho;exact Kz.p):P:=h ⟨k⟩
theorem yX (k:Q) (h:ZW Q->P:=by intro Kz;refine UR rfl rfl rfl ?_;intro b w hb ha ho hm hz;replace ha:=yb ha;replace ho:=yc ho;revert b w hb hm hz ha ho;exact Kz.p):P:=h ⟨k⟩
theorem yW (k:Q) (h:ZW Q->P:=by intro Kz;intro b ha ho;replace ha:=yb ha;replace ho:=yc ho;revert b ha ho;exact Kz.p):P:=h ⟨k⟩
end Px
