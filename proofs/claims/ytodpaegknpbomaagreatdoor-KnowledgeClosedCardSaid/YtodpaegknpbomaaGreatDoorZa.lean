/- Proofs by default. No conditions. -/
import Derived.ProofKit
import Derived.KernelRfl
set_option linter.unusedSimpArgs false
set_option linter.unusedVariables false
set_option linter.unusedSectionVars false
namespace Px
variable {P Q A S':Prop}
section
variable {α:Type _} {a x0 x1 x2 x3 x4 x5 x6 x7 x8 x9 DB Gy rl sW uK x15:α} {l:List α}
theorem A0:a∈a::l:=.head _
theorem A1:a∈x0::a::l:=.tail _ A0
theorem A2:a∈x0::x1::a::l:=.tail _ A1
theorem A3:a∈x0::x1::x2::a::l:=.tail _ A2
theorem A4:a∈x0::x1::x2::x3::a::l:=.tail _ A3
theorem A5:a∈x0::x1::x2::x3::x4::a::l:=.tail _ A4
theorem A6:a∈x0::x1::x2::x3::x4::x5::a::l:=.tail _ A5
theorem A7:a∈x0::x1::x2::x3::x4::x5::x6::a::l:=.tail _ A6
theorem A8:a∈x0::x1::x2::x3::x4::x5::x6::x7::a::l:=.tail _ A7
theorem A9:a∈x0::x1::x2::x3::x4::x5::x6::x7::x8::a::l:=.tail _ A8
theorem A10:a∈x0::x1::x2::x3::x4::x5::x6::x7::x8::x9::a::l:=.tail _ A9
theorem A11:a∈x0::x1::x2::x3::x4::x5::x6::x7::x8::x9::DB::a::l:=.tail _ A10
theorem A12:a∈x0::x1::x2::x3::x4::x5::x6::x7::x8::x9::DB::Gy::a::l:=.tail _ A11
theorem A13:a∈x0::x1::x2::x3::x4::x5::x6::x7::x8::x9::DB::Gy::rl::a::l:=.tail _ A12
theorem A14:a∈x0::x1::x2::x3::x4::x5::x6::x7::x8::x9::DB::Gy::rl::sW::a::l:=.tail _ A13
theorem A15:a∈x0::x1::x2::x3::x4::x5::x6::x7::x8::x9::DB::Gy::rl::sW::uK::a::l:=.tail _ A14
theorem A16:a∈x0::x1::x2::x3::x4::x5::x6::x7::x8::x9::DB::Gy::rl::sW::uK::x15::a::l:=.tail _ A15
end
theorem R2 (h:P:=by exact λ_ _=>rfl):P:=h
abbrev wK:=@Option.some.injEq
abbrev aj:=@Nat.le_refl
abbrev eB:=@Nat.le_trans
abbrev qF:=@Nat.lt_of_lt_of_le
abbrev cd:=@List.mem_cons
abbrev dP:=@List.map_cons
abbrev bB:=@Array.getElem?_eq_some_iff
abbrev Ka:=@List.getElem?_cons_zero
abbrev Jc:=@List.getElem?_cons_succ
abbrev cu:=@List.mem_of_getElem?
abbrev hJ:=@List.getElem?_eq_some_iff
abbrev amq:=@List.getElem?_set_self
abbrev UM:=@List.getElem?_set_ne
abbrev bU:=@List.mem_map
abbrev ju:=@List.mem_iff_getElem?
abbrev er:=@Nat.le_of_ble_eq_true
abbrev Og:=@Int.eq_ofNat_of_zero_le
abbrev DP:=@List.map_toArray
abbrev WM:=@Array.getElem?_append_left
abbrev xh:=@List.mem_filter
abbrev OZ:=@Array.getElem?_toList
abbrev awq:=@Array.getElem?_modify
abbrev mT:=@Bool.and_eq_true
abbrev dI:=@List.length_cons
abbrev eK:=@List.length_map
abbrev aAq:=@List.getElem_map
abbrev C9:=@List.ext_getElem?
abbrev aCq:=@List.drop_eq_nil_iff
abbrev cB:=@List.length_append
abbrev Wz:=@List.drop_drop
abbrev ll:=@List.getElem?_eq_getElem
abbrev TI:=@List.getElem?_append_left
abbrev uD:=@List.all_eq_true
abbrev uu:=@List.mem_range
abbrev Ez:=@List.getElem?_toArray
abbrev KB:=@Option.map_some
abbrev aLq:=@Array.getElem?_setIfInBounds
abbrev rf:=@List.size_toArray
abbrev aNq:=@List.drop_eq_getElem_cons
abbrev mx:=@Nat.zero_add
abbrev R1:=@List.getElem?_drop
abbrev XY:=@List.getElem_mem
abbrev oh:=@List.getElem?_map
abbrev cO:=@Nat.zero_le
abbrev gN:=@List.map_append
abbrev fu:=@List.map_nil
abbrev fJ:=@List.length_nil
abbrev iY:=@List.append_assoc
abbrev mF:=@List.eq_nil_of_length_eq_zero
abbrev BV:=@Nat.div_add_mod
abbrev qL:=@Nat.add_mul
abbrev wh:=@Nat.mul_le_mul_right
abbrev I7:=@Nat.mul_comm
abbrev xU:=@Int.toNat_natCast
abbrev eh:=@List.set_cons_succ
abbrev eY:=@List.nil_append
abbrev iv:=@List.cons_append
abbrev Ba:=@List.take_append_drop
abbrev wL:=@List.eraseIdx_cons_succ
abbrev a8q:=@Array.getElem?_eq_getElem
abbrev Cf:=@List.length_drop
abbrev kU:=@List.length_take
abbrev Pt:=@List.drop_zero
abbrev QY:=@List.take_left'
abbrev xR:=@Nat.mul_one
abbrev ec:=@List.append_nil
abbrev Oh:=@List.take_succ_eq_append_getElem
abbrev ZH:=@List.take_succ_cons
abbrev dA:=@List.set_cons_zero
abbrev rK:=@List.eraseIdx_cons_zero
abbrev aY:=@List.mem_append
abbrev VB:=@List.flatMap_cons
abbrev uL:=@List.mem_flatMap
abbrev ur:=@List.take_length
abbrev dZ:=@List.not_mem_nil
abbrev iC:=@List.take_of_length_le
abbrev fC:=@List.mem_singleton
abbrev aqr:=@List.findIdx?_eq_some_iff_getElem
abbrev D8:=@Bool.eq_iff_iff
abbrev Ox:=@Array.length_toList
abbrev aur:=@List.getElem?_append_right
abbrev R0:=@List.getElem?_take_of_lt
abbrev wu:=@Option.map_eq_some_iff
abbrev axr:=@List.getElem?_set
abbrev Ji:=@List.foldl_append
abbrev azr:=@List.length_pos_iff
abbrev Sd:=@List.length_filter_le
abbrev SF:=@List.filter_cons_of_pos
abbrev aCr:=@List.filter_cons_of_neg
abbrev WZ:=@List.mem_of_find?_eq_some
abbrev cG:=@List.mem_append_right
abbrev td:=@List.mem_append_left
theorem ya (h:A) (s:A->S':=by intro h;(try simp only[decide_eq_true_eq,decide_eq_false_iff_not,Bool.not_eq_true',Bool.not_eq_false']at h);exact h):S':=s h
theorem yb (h:A) (s:A->S':=by intro h;(try simp only[ah]at h);exact h):S':=s h
theorem yc (h:A) (s:A->S':=by intro h;(try simp only[bN,book,iv,eY,dA,eh,ne_eq]at h);exact h):S':=s h
theorem yd (h:A) (s:A->S':=by intro h;(try simp only[bN,dA,eh,ne_eq,and_true]at h);exact h):S':=s h
theorem ye (h:A) (s:A->S':=by intro h;(try simp only[Fr,Gh.lent,Gh.no,ah,and_true,false_or]at h);exact h):S':=s h
theorem yf (h:A) (s:A->S':=by intro h;(try simp only[gN,dP,fu,aY,cd,dZ,or_false,Gh.no,false_or]at h);exact h):S':=s h
theorem yg (h:A) (s:A->S':=by intro h;(try simp only[I8,and_true]at h);exact h):S':=s h
theorem zy (h:P:=by first|(first|exact True.intro|assumption|(simp only[bN,iy,book,iv,eY,ec,iY,dA,eh,rK,wL,ne_eq,and_true];(repeat' apply And.intro);all_goals first|omega|exact True.intro|exact Rw.off_ge cY aa)|(simp[bN]<;>omega))|fail):P:=h
theorem zz (h:P:=by decide):P:=h
theorem zA (h:P:=by first|(first|(simp only[Over,dA,eh,rK,wL,and_true];omega)|(simp[Over]<;>omega))|fail):P:=h
theorem zB (h:P:=by simp only[ah,and_true];omega):P:=h
theorem zC (h:P:=by simp only[Over,nC,iv,eY,ec,dA,and_true];(repeat' apply And.intro);all_goals first|omega|exact True.intro|exact Rw.over (Rw.ge_mono bK aa)):P:=h
theorem zD (h:P:=by first|exact True.intro|(simp only[Over,dA,eh,rK,wL,and_true];omega)):P:=h
theorem zF (h:P:=by exact λ_ _ h=>h):P:=h
theorem zH (h:P:=by exact λh=>h):P:=h
theorem zI (h:P:=by simp):P:=h
theorem zJ (h:P:=by first|rfl|(simp only[*,true_and,false_and,and_true,and_false,decide_true,decide_false,not_true,not_false_iff,Bool.not_true,Bool.not_false,true_or,false_or,or_true,or_false];done)|simp_all):P:=h
theorem zL (h:P:=by exact λcv L' H' hd hP=>X.v (pQ rfl)):P:=h
theorem zM (h:P:=by first|(first|(simp only[bN,book,iv,eY,dA,eh,rK,wL,ne_eq,and_true];omega)|(simp[bN]<;>omega))|fail):P:=h
theorem zN (h:P:=by kernel_rfl):P:=h
theorem zO (h:P:=by simp only[bN,iy,book,iv,eY,ec,iY,dA,eh,rK,wL,ne_eq,and_true];(repeat' apply And.intro);all_goals first|omega|exact True.intro|exact Rw.off_ge jR aa):P:=h
theorem zP (h:P:=by simp only[Over,dA,eh,and_true];omega):P:=h
theorem zQ (h:P:=by cases h):P:=h
theorem zS (h:P:=by dsimp only;omega):P:=h
theorem zW (h:P:=by first|rfl|simp[book,nV,Value.cells]):P:=h
theorem zX (h:P:=by intro k hk hx;first|(simp only[dA,dP,fu,cd,dZ,or_false]at hx;omega)|(simp at hx;omega)):P:=h
theorem zZ (h:P:=by rw[show jO c.chs=false by assumption];decide):P:=h
theorem z1 (h:P:=by first|exact True.intro|(simp only[Over,dA,eh,and_true];omega)):P:=h
theorem z2 (h:P:=by refine bN.of_mem λhm=>?_;first|(simp only[dP,fu,cd,dZ,or_false]at hm;omega)|(simp at hm;omega)|(simp at hm)):P:=h
theorem z3 (h:P:=by exact λcv L' H' hd hP=>nf call89 rfl rfl (λW hS _=>nHb _ W) (λ_=>rfl)):P:=h
theorem z4 (h:P:=by unfold xw;rw[njb (f:=(λg:Gr=>decide (g.olds.length<=6))) Mt (decide_eq_false aa),Bool.and_false]):P:=h
theorem z5 (h:P:=by simp[Act.put,hD]):P:=h
theorem z6 (h:P:=by rw[jz];exact nX hN):P:=h
theorem z7 (h:P:=by simp[Act.put,jz]):P:=h
theorem z8 (h:P:=by unfold tS;rw[njb (f:=(λx:We=>decide (x.w.body.length<=200))) hy (decide_eq_false aa),Bool.and_false];rfl):P:=h
theorem z9 (h:P:=by first|rfl|(rw[D8];first|(simp;omega)|simp)):P:=h
theorem zab (h:P:=by unfold tS;rw[njb (f:=(λx:Bx=>decide (x.w.body.length<=200))) hy (decide_eq_false aa)];rfl):P:=h
theorem Lp (h:P:=by exact λcv L' H' hd hP=>X.v (cX underlying99 rfl sizeOf3 rfl)):P:=h
theorem DI (h:P:=by first|(simp;done)|(simp;omega)|simp_all):P:=h
theorem zdb (h:P:=by first|(refine naf (λq hq=>?_);simp only[iv,eY,ec,aY,cd,dZ,or_false,Rw.hp]at hq;(repeat' (rcases hq with hq|hq))<;>(try subst hq)<;>(dsimp only;omega))|fail):P:=h
theorem zeb (h:P:=by first|exact nKe aa|exact nQf hx hy cY|exact nGe aa dR aa):P:=h
theorem zfb (h:P:=by first|exact(decide_eq_true (nSg aa (λi x y hi=>dR i x y aa))).symm|exact(decide_eq_false (nrh hx hy AW)).symm|exact(decide_eq_false (λe=>by have:=congrArg List.length e;simp at this;omega)).symm):P:=h
theorem XC (h:P:=by simp only[bN,and_true];(repeat' apply And.intro);all_goals first|omega|exact True.intro):P:=h
theorem zhb (h:P:=by simp only[bN,iy,iv,eY,ec,dA,and_true];(repeat' apply And.intro);all_goals first|omega|exact True.intro|exact Rw.off_ge bK aa):P:=h
theorem zib (h:P:=by first|exact nKh hx hy cY|exact nIf dR hlen aa|exact nWf aa):P:=h
theorem yw (h:P:=by first|(simp[Gh.lent,keys]<;>omega)|fail):P:=h
theorem yU (h:P:=by simp only[cB,dI,fJ];omega):P:=h
theorem zlb (h:P:=by simp only[nD];omega):P:=h
theorem za (h:P:=by simp only[dI,fJ];omega):P:=h
theorem Qd (h:P:=by simp only[bN,iv,eY,dA,eh,ne_eq,and_true];omega):P:=h
theorem C7 (h:P:=by simp only[Over,and_true];omega):P:=h
theorem o8 (h:P:=by simp[Rw.hp]):P:=h
theorem zqb (h:P:=by by_cases h9:cp=i2;(left;apply mF;rw[Cf];omega);(right;rw[if_neg h9,kU,Nat.min_eq_left aa,mx])):P:=h
theorem mZ (h:P:=by simp;omega):P:=h
theorem Zd (h:P:=by exact λcv L' H' hd hP=>X.v (cX underlying53 rfl sizeOf51 rfl)):P:=h
theorem Zc (h:P:=by exact λcv L' H' hd hP=>X.v (cX underlying53 rfl sizeOf48 rfl)):P:=h
theorem ZZ (h:P:=by have:=sh _ e;dsimp only at this;simp only[bN,dA,and_true];omega):P:=h
theorem JI (h:P:=by first|(simp[qx,keys]<;>try omega)|fail):P:=h
theorem Du (h:P:=by simpa using h1):P:=h
theorem zxb (h:P:=by first|(have g16:=f16;have g17:=f17;cases eI<;>cases fB<;>simp[bN]at g16 g17 ⊢ <;>omega)|fail):P:=h
theorem zyb (h:P:=by first|(unfold xw;rw[cH,D8];simp_all<;>omega)|fail):P:=h
theorem Yi (h:P:=by exact λcv L' H' hd hP=>X.v (cX underlying200 rfl sizeOf134 rfl)):P:=h
theorem zAb (h:P:=by exact λcv L' H' hd hP=>X.v (bC underlying54 sizeOf99 rfl rfl aa aa)):P:=h
theorem ZF (h:P:=by exact λcv L' H' hd hP=>X.v (cX underlying61 rfl sizeOf3 rfl)):P:=h
theorem zCb (h:P:=by exact λcv L' H' hd hP=>X.v (bC underlying55 sizeOf3 rfl rfl aa aa)):P:=h
theorem zDb (h:P:=by first|(unfold tS;rw[qP,haw,D8];simp_all<;>omega)|fail):P:=h
theorem zEb (h:P:=by first|(unfold xw;rw[D8];simp_all<;>omega)|fail):P:=h
theorem KE (h:P:=by rw[he];omega):P:=h
theorem zGb (h:P:=by have:=xe _ e;dsimp only at this;simp only[bN,dA,and_true];omega):P:=h
theorem zHb (h:P:=by have:=(cF.links wk A1).size;omega):P:=h
theorem zIb (h:P:=by rw[hY,<-hN];exact cH):P:=h
theorem zJb (h:P:=by intro k hk hx;simp only[dA,dP,fu,cd,dZ,or_false]at hx;omega):P:=h
theorem zKb (h:P:=by simp only[Over,nC,iv,eY,ec,dA,and_true];(repeat' apply And.intro);all_goals first|omega|exact True.intro|exact Rw.over (Rw.ge_mono oN aa)|exact Rw.over (Rw.ge_mono eE aa)):P:=h
theorem zLb (h:P:=by exact λcv L' H' hd hP=>X.off rfl R2):P:=h
theorem zMb (h:P:=by simp only[dA,eh,iv,eY,ec,Over];exact⟨by omega,by omega,Rw.over (Rw.ge_of aK A2)⟩):P:=h
theorem Q2 (h:P:=by simp only[eK,dI,fJ];omega):P:=h
theorem zOb (h:P:=by simp only[bN,iy,book,iv,eY,ec,iY,dA,eh,rK,wL,ne_eq,and_true];(repeat' apply And.intro);all_goals first|omega|exact True.intro|exact Rw.off_ge rX aa):P:=h
theorem VF (h:P:=by simp only[aY];exact .inr (.inl hp)):P:=h
theorem zQb (h:P:=by unfold wF;rw[if_neg aa,if_neg (by rintro(h|h|h|h|h|h);(omega);(exact k1 h);(exact k2 h);(rw[aba]at h;exact k3 h);(exact k4 h);exact k5 h),Tw];simp_all):P:=h
theorem WB (h:P:=by rw[kU,Nat.min_eq_left aa]):P:=h
theorem zSb (h:P:=by rw[<-JU,<-hv1]):P:=h
theorem KR (h:P:=by simp[Gh.no]):P:=h
theorem zUb (h:P:=by rw[show(bj dX 35 [nj (dk p.x.g.last) 9] []:Obj)=bj dX 35 ([]++[nj (dk p.x.g.last) 9]) []from rfl,<-nOh (enc:=dX) (A:=seA (nj (dk p.x.g.last) 9)) rfl];rfl):P:=h
theorem BT (h:P:=by simpa using h):P:=h
theorem YB (h:P:=by rw[ec];exact Rw.over (Rw.ge_of aK A0)):P:=h
theorem zXb (h:P:=by rw[hY];exact aoS):P:=h
theorem zYb (h:P:=by exact λcv L' H' hd hP=>X.v (gd underlying33 sizeOf5 rfl rfl aa)):P:=h
theorem zZb (h:P:=by show q-1<q;omega):P:=h
theorem z0b (h:P:=by simp only[Over,dA,and_true];omega):P:=h
theorem z1b (h:P:=by simp only[bN,iy,iv,eY,ec,and_true];(repeat' apply And.intro);all_goals first|omega|exact True.intro|exact Rw.off_ge rX aa):P:=h
theorem ZD (h:P:=by rw[ec];exact List.perm_append_comm):P:=h
theorem z3b (h:P:=by simp only[dA,eh,iv,eY];rfl):P:=h
theorem z4b (h:P:=by first|(unfold Xr;rw[hfq]<;>first|rfl|simp_all)|fail):P:=h
theorem z5b (h:P:=by unfold VX;simp only[<-Jl];rw[D8];first|(simp;omega)|simp):P:=h
theorem z6b (h:P:=by exact λcv L' H' hd hP=>X.v (cX underlying108 rfl sizeOf106 rfl)):P:=h
theorem z7b (h:P:=by first|trivial|exact True.intro):P:=h
theorem z8b (h:P:=by exact λcv L' H' hd hP=>X.v (cX underlying61 rfl sizeOf55 rfl)):P:=h
theorem z9b (h:P:=by exact λcv L' H' hd hP=>X.v (cX underlying108 rfl sizeOf3 rfl)):P:=h
theorem K9 (h:P:=by simpa using hl):P:=h
theorem zbc (h:P:=by exact λcv L' H' hd hP=>X.v (cX underlying59 rfl sizeOf3 rfl)):P:=h
theorem zcc (h:P:=by simp only[dA,eh,Over,and_true];omega):P:=h
theorem zdc (h:P:=by intro p hp;simp at hp;subst hp;exact hfn):P:=h
theorem VI (h:P:=by simp[book,Rw.val_cells]):P:=h
theorem zfc (h:P:=by obtain⟨ta,tc,wr,r8,rfl,rfl,rfl,rfl,rfl,rfl,rfl,sS,iF,rU,oJ,iM,jR⟩:=hP;exact X.v (ji rfl rfl)):P:=h
theorem zgc (h:P:=by have Ly:=rM q x hx;first|(rw[if_pos cY]at Ly;exact Ly)|(rw[if_neg cY]at Ly;exact Ly)):P:=h
theorem T0 (h:P:=by simp[Gh.lent,keys]):P:=h
theorem zic (h:P:=by obtain⟨ta,tc,wr,r8,rfl,rfl,rfl,rfl,rfl,rfl,sS,iF,rU,oJ,iM,jR⟩:=hP;exact X.v (ji rfl rfl)):P:=h
theorem Lb (h:P:=by simpa using h2):P:=h
theorem zkc (h:P:=by obtain⟨ta,tc,wr,r8,rfl,rfl,rfl,rfl,rfl,sS,iF,rU,oJ,iM,jR⟩:=hP;exact X.v (ji rfl rfl)):P:=h
theorem zlc (h:P:=by simp only[dA,Over,and_true];omega):P:=h
theorem zmc (h:P:=by unfold Bt;rw[if_neg aa,if_neg (by rintro(h|h|h);(omega);(exact k2 h);exact k3 h),Tw];simp_all):P:=h
theorem znc (h:P:=by first|(first|omega|(unfold dy;(repeat' split)<;>omega))|fail):P:=h
theorem zoc (h:P:=by unfold CC;rw[njb hc AW,Bool.and_false]):P:=h
theorem zpc (h:P:=by unfold CC;rw[cH,decide_eq_true aa];rfl):P:=h
theorem VM (h:P:=by have:=nq hx;omega):P:=h
theorem zrc (h:P:=by rw[show(Value.agg (lk (tw n m (iq n)) i)).cells=lk (tw n m (iq n)) i from rfl,lk,Ec]):P:=h
theorem zsc (h:P:=by first|exact(SJ dR hx (decide_eq_true cY)).symm|exact(aaD dR aa).symm):P:=h
theorem ztc (h:P:=by unfold CC;rw[decide_eq_false aa];rfl):P:=h
theorem Xk (h:P:=by show 0<1;decide):P:=h
theorem zvc (h:P:=by first|(unfold Uz;rw[hfq]<;>first|rfl|simp_all)|fail):P:=h
theorem OH (h:P:=by simp[mz]):P:=h
theorem XR (h:P:=by rw[if_neg aa]):P:=h
theorem zyc (h:P:=by exact λcv L' H' hd hP=>X.v (bC underlying24 sizeOf61 rfl rfl aa aa)):P:=h
theorem zzc (h:P:=by exact λcv L' H' hd hP=>X.v (yD underlying3 underlying233 rfl aa aa)):P:=h
theorem zAc (h:P:=by have:=(hS.links w1 A1).size;rw[hB.block b1 aa];exact hS.old A1 hb1 cN trivial):P:=h
theorem zCc (h:P:=by rw[if_neg aa];omega):P:=h
theorem zDc (h:P:=by have:=hqy aa;omega):P:=h
theorem zEc (h:P:=by first|assumption|simp_all):P:=h
theorem zFc (h:P:=by simp only[dA,eh,iv,eY,ec,Over];exact⟨by omega,Rw.over (Rw.ge_of aK A1)⟩):P:=h
theorem zGc (h:P:=by exact λcv L' H' hd hP=>X.v (IT rfl)):P:=h
theorem aa (h:P:=by omega):P:=h
theorem cY (h:P:=by assumption):P:=h
theorem zJc (h:P:=by have:=uA (enc:=λx:Mm=>(Br x).toArray) (n:=2) aR (i:=1) (show[m1,m2][1]? =some m2 from rfl) rfl 1 zz;simpa[Br]using this):P:=h
theorem zKc (h:P:=by obtain⟨a7,c7,w7,rfl,rfl,rfl,ko⟩:=hP;exact nf call220 rfl rfl (λW hS _=>by have h9:=ndd G.g.ms vZ W.heap.size G.ma G.mc W (aj _) (hG.ms.up cR hS.sm) (eu G.g.ns) a7 c7 (ko.up (hS.links w7 A0).size (hS.same A0 (aj _) zF trivial));rw[decide_eq_false h1]at h9;exact h9) (λ_=>rfl)):P:=h
theorem zLc (h:P:=by obtain⟨a7,c7,w7,rfl,rfl,rfl,ko⟩:=hP;exact nf call220 rfl rfl (λW hS _=>by have h9:=ndd G.g.ms vZ W.heap.size G.ma G.mc W (aj _) (hG.ms.up cR hS.sm) (eu G.g.ns) a7 c7 (ko.up (hS.links w7 A0).size (hS.same A0 (aj _) zF trivial));rw[decide_eq_true h1]at h9;exact h9) (λ_=>rfl)):P:=h
theorem zMc (h:P:=by have:=nJ (enc:=λx=>(aA x).toArray) (n:=1) Gs Jt rfl zz;simpa[aA]using this):P:=h
theorem zNc (h:P:=by have:=nJ (enc:=λx=>(aA x).toArray) (n:=1) Gs hax rfl zz;simpa[aA]using this):P:=h
theorem zOc (h:P:=by have:=nJ (enc:=λx=>(aA x).toArray) (n:=1) qG hy rfl zz;simpa[aA]using this):P:=h
theorem AW (h:P:=by simp_all):P:=h
theorem zQc (h:P:=by obtain⟨c0,t0,h0⟩:=hse.h0;obtain⟨c1,t1,h1⟩:=hse.h1;exact ngm a1 a0 c1 c0 t1 t0 W (λe=>hse.ne e.symm) (hS.old A4 h1 zH trivial) (hS.old A4 h0 zH trivial)):P:=h
theorem zRc (h:P:=by subst h;have h9:=pN.mem wk zI;exact⟨λu hu=>(by have:=((f11 rfl).2.2.2.2.1 u hu).2;omega),λu hu=>(by have:=((f11 rfl).2.2.2.2.2.1 u hu).2;omega)⟩):P:=h
theorem zSc (h:P:=by intro p hp;simp at hp;subst hp;exact .inl zI):P:=h
theorem zTc (h:P:=by first|(intro p hp;simp only[cd,dZ,or_false]at hp;rcases hp with rfl|rfl<;>exact .inl zI)|fail):P:=h
theorem zUc (h:P:=by have:=uA (i:=(j:Int)-1) aR hy aa 0 zz;simpa[fZ]using this):P:=h
theorem zY (h:P:=by exact rfl):P:=h
theorem ua (h:P:=by first|assumption|exact λh=>h):P:=h
theorem aO (h:P:=by with_reducible first|exact isAgg3|exact isAgg4|exact isAgg9|exact isAgg22|exact isAgg23|exact isAgg24|exact isAgg25|exact isAgg26|exact isAgg31|exact isAgg33|exact isAgg35|exact isAgg38|exact isAgg48|exact isAgg49|exact isAgg51|exact isAgg53|exact isAgg54|exact isAgg55|exact isAgg56|exact isAgg57|exact isAgg59|exact isAgg61|exact isAgg63|exact isAgg71|exact isAgg72|exact isAgg75|exact isAgg76|exact isAgg79|exact isAgg85|exact isAgg87|exact isAgg89|exact isAgg92|exact isAgg97|exact isAgg99|exact isAgg106|exact isAgg108|exact isAgg110|exact isAgg114|exact isAgg119|exact isAgg121|exact isAgg127|exact isAgg131|exact isAgg134|exact isAgg137|exact isAgg138|exact isAgg142|exact isAgg145|exact isAgg156|exact isAgg159|exact isAgg165|exact isAgg200|exact isAgg233|exact isAgg240|exact isAgg248|exact isAgg288|exact isAgg294|exact isAgg303|exact isAgg310|exact isAgg312|exact isAgg373|exact isAgg374):P:=h
theorem oX (h:P:=by first|exact Nat.le_of_ble_eq_true rfl|exact de (by assumption) (by assumption) (by exact rfl)):P:=h
theorem xL (h:P:=by first|exact A0|exact A1|exact A2|exact A3|exact A4|exact A5|exact A6|exact A7|exact A8|exact A9):P:=h
theorem xM (h:P:=by first|exact True.intro|assumption|(simp only[bN,iy,book,List.cons_append,List.nil_append,List.append_nil,List.append_assoc,List.set_cons_zero,List.set_cons_succ,List.eraseIdx_cons_zero,List.eraseIdx_cons_succ,ne_eq,and_true];(repeat' apply And.intro);all_goals first|omega|exact True.intro|exact Rw.off_ge (by assumption) (by omega))|(simp[bN]<;>omega)):P:=h
theorem ax (h:P:=by(try(conv=>arg 2;whnf));with_reducible first|exact sizeOf3|exact sizeOf4|exact sizeOf5|exact sizeOf9|exact sizeOf22|exact sizeOf23|exact sizeOf24|exact sizeOf25|exact sizeOf26|exact sizeOf27|exact sizeOf28|exact sizeOf29|exact sizeOf31|exact sizeOf33|exact sizeOf35|exact sizeOf38|exact sizeOf48|exact sizeOf49|exact sizeOf51|exact sizeOf53|exact sizeOf54|exact sizeOf55|exact sizeOf56|exact sizeOf57|exact sizeOf59|exact sizeOf61|exact sizeOf63|exact sizeOf71|exact sizeOf72|exact sizeOf75|exact sizeOf76|exact sizeOf77|exact sizeOf79|exact sizeOf85|exact sizeOf87|exact sizeOf89|exact sizeOf92|exact sizeOf97|exact sizeOf99|exact sizeOf100|exact sizeOf106|exact sizeOf108|exact sizeOf110|exact sizeOf114|exact sizeOf119|exact sizeOf121|exact sizeOf127|exact sizeOf131|exact sizeOf134|exact sizeOf137|exact sizeOf138|exact sizeOf142|exact sizeOf156|exact sizeOf159|exact sizeOf200|exact sizeOf233|exact sizeOf240|exact sizeOf248|exact sizeOf285|exact sizeOf287|exact sizeOf288|exact sizeOf303|exact sizeOf348|exact sizeOf350|exact sizeOf373|exact sizeOf374|exact sizeOf424):P:=h
theorem bT (h:P:=by with_reducible first|exact underlying3|exact underlying5|exact underlying20|exact underlying22|exact underlying23|exact underlying24|exact underlying25|exact underlying26|exact underlying31|exact underlying33|exact underlying35|exact underlying38|exact underlying43|exact underlying48|exact underlying49|exact underlying51|exact underlying53|exact underlying54|exact underlying55|exact underlying56|exact underlying57|exact underlying59|exact underlying61|exact underlying63|exact underlying71|exact underlying72|exact underlying75|exact underlying76|exact underlying79|exact underlying85|exact underlying87|exact underlying89|exact underlying92|exact underlying97|exact underlying99|exact underlying106|exact underlying108|exact underlying110|exact underlying114|exact underlying119|exact underlying121|exact underlying123|exact underlying127|exact underlying131|exact underlying134|exact underlying138|exact underlying142|exact underlying156|exact underlying159|exact underlying162|exact underlying173|exact underlying180|exact underlying200|exact underlying222|exact underlying233|exact underlying240|exact underlying248|exact underlying287|exact underlying303|exact underlying350|exact underlying352|exact underlying370|exact underlying374|exact underlying377|exact underlying424|exact underlying426):P:=h
theorem jm (h:P:=by with_reducible first|exact zeroValue3|exact zeroValue4|exact zeroValue31|exact zeroValue33|exact zeroValue35|exact zeroValue51|exact zeroValue53|exact zeroValue55|exact zeroValue56|exact zeroValue59|exact zeroValue61|exact zeroValue63|exact zeroValue71|exact zeroValue79|exact zeroValue87|exact zeroValue89|exact zeroValue92|exact zeroValue97|exact zeroValue99|exact zeroValue110|exact zeroValue114|exact zeroValue119|exact zeroValue121|exact zeroValue127|exact zeroValue131|exact zeroValue137|exact zeroValue142|exact zeroValue156|exact zeroValue159|exact zeroValue180|exact zeroValue200|exact zeroValue233|exact zeroValue240|exact zeroValue248|exact zeroValue288|exact zeroValue352|exact zeroValue370|exact zeroValue374|exact zeroValue424|exact zeroValue426):P:=h
theorem adx (h:P:=by repeat(first|exact qq.n|(apply qq.c;exact ax))):P:=h
theorem P6 (h:P:=by first|exact rfl|exact vb (decide_eq_false (by omega))|exact vb (decide_eq_true (by omega))|exact va (Eq.trans (dY (by assumption) (by assumption) (by exact rfl)) (by exact rfl))|exact vu (by omega)|exact congrArg ab (by omega)|exact vb (by first|(simp;done)|(simp;omega))):P:=h
theorem bD (h:P:=by repeat(first|exact RS.n|(apply RS.t;exact rfl)|(apply RS.w (i:=0);exact rfl;exact aO;exact rfl;exact rfl)|(apply RS.w (i:=1);exact rfl;exact aO;exact rfl;exact rfl)|(apply RS.w (i:=2);exact rfl;exact aO;exact rfl;exact rfl)|(apply RS.w (i:=3);exact rfl;exact aO;exact rfl;exact rfl)|(apply RS.w (i:=4);exact rfl;exact aO;exact rfl;exact rfl)|(apply RS.w (i:=5);exact rfl;exact aO;exact rfl;exact rfl)|(apply RS.wAw (i:=0);exact rfl;exact aO;exact ax;exact rfl;exact rfl)|(apply RS.wA (i:=0);exact rfl;exact aO;exact ax;exact rfl;exact oX)|(apply RS.wAw (i:=1);exact rfl;exact aO;exact ax;exact rfl;exact rfl)|(apply RS.wA (i:=1);exact rfl;exact aO;exact ax;exact rfl;exact oX)|(apply RS.wAw (i:=2);exact rfl;exact aO;exact ax;exact rfl;exact rfl)|(apply RS.wA (i:=2);exact rfl;exact aO;exact ax;exact rfl;exact oX)|(apply RS.wAw (i:=3);exact rfl;exact aO;exact ax;exact rfl;exact rfl)|(apply RS.wA (i:=3);exact rfl;exact aO;exact ax;exact rfl;exact oX)|(apply RS.wAw (i:=4);exact rfl;exact aO;exact ax;exact rfl;exact rfl)|(apply RS.wA (i:=4);exact rfl;exact aO;exact ax;exact rfl;exact oX)|(apply RS.wAw (i:=5);exact rfl;exact aO;exact ax;exact rfl;exact rfl)|(apply RS.wA (i:=5);exact rfl;exact aO;exact ax;exact rfl;exact oX)|(apply RS.r;exact aO;exact rfl;exact xL;exact ua;exact ua;exact xM;exact rfl)|(apply RS.rA;exact aO;exact ax;exact rfl;exact xL;exact ua;exact ua;exact xM;exact oX))):P:=h
theorem cR (h:P:=by first|exact Nat.le_trans hN (hS.links w A0).size|exact Nat.le_trans hN (hS.links w A1).size|exact Nat.le_trans hN (hS.links w A2).size|exact Nat.le_trans hN (hS.links w A3).size|exact Nat.le_trans hN (hS.links w A4).size|exact Nat.le_trans hN (hS.links w A5).size|exact Nat.le_trans hN (hS.links w A6).size|exact Nat.le_trans hN (hS.links w A7).size|exact Nat.le_trans hN (hS.links w A8).size|exact Nat.le_trans hN (hS.links w A9).size):P:=h
theorem NM (h:P:=by first|(first|((with_reducible show RV _ _ _ _ _ (.move _) _);exact pQ zY)|((with_reducible show RV _ _ _ _ _ (.assign _) _);exact uo zY)|((with_reducible show RV _ _ _ _ _ (.fieldAddr _ _ _) _);exact cX bT zY ax zY)|((with_reducible show RV _ _ _ _ _ (.extract _ _) _);exact ji zY zY)|((with_reducible show RV _ _ _ _ _ (.binOp .add _ _ _ _) _);first|exact jw zY zY aa aa|exact IG zY zY aa aa)|((with_reducible show RV _ _ _ _ _ (.pick _ _ _) _);first|exact acX zY zY|exact acY zY zY)|((with_reducible show RV _ _ _ _ _ (.call _) _);first|exact mG bT zY|exact U6 bT zY))|(first|((with_reducible show RV _ _ _ _ _ (.binOp .lss _ _ _ _) _);exact BG zY zY)|((with_reducible show RV _ _ _ _ _ (.indexAddr _ _ _) _);first|exact bC bT ax zY zY aa aa|exact uX bT ax zY zY aa aa)|((with_reducible show RV _ _ _ _ _ (.load _ _) _);first|exact CW (i:=0) zY zY aO zY|exact CW (i:=1) zY zY aO zY|exact CW (i:=2) zY zY aO zY|exact CW (i:=3) zY zY aO zY|exact CW (i:=4) zY zY aO zY|exact CW (i:=5) zY zY aO zY|exact anV zY ua aO xL ua xM zY|exact p5 (i:=0) zY zY aO ax zY|exact p5 (i:=1) zY zY aO ax zY|exact p5 (i:=2) zY zY aO ax zY|exact p5 (i:=3) zY zY aO ax zY|exact p5 (i:=4) zY zY aO ax zY|exact p5 (i:=5) zY zY aO ax zY|exact UU zY ua aO ax xL ua xM zY|exact uM (i:=0) zY zY aO ax oX|exact uM (i:=1) zY zY aO ax oX|exact uM (i:=2) zY zY aO ax oX|exact uM (i:=3) zY zY aO ax oX|exact uM (i:=4) zY zY aO ax oX|exact uM (i:=5) zY zY aO ax oX|exact ac7 zY ua aO ax xL ua xM oX)|((with_reducible show RV _ _ _ _ _ (.unOp .not _ _) _);exact kq zY)|((with_reducible show RV _ _ _ _ _ (.binOp .geq _ _ _ _) _);exact ac1 zY zY)|((with_reducible show RV _ _ _ _ _ (.binOp .eql _ _ _ _) _);first|exact kZ zY zY|exact QJ zY zY)|((with_reducible show RV _ _ _ _ _ (.nilCheck _) _);exact IT zY))|(first|((with_reducible show RV _ _ _ _ _ (.binOp .gtr _ _ _ _) _);exact ac0 zY zY)|((with_reducible show RV _ _ _ _ _ (.makeFunc _ _ _) _);exact ac6 zY)|((with_reducible show RV _ _ _ _ _ (.binOp .neq _ _ _ _) _);first|exact dB zY zY|exact Ts bT zY zY|exact rT bT zY zY)|((with_reducible show RV _ _ _ _ _ (.binOp .sub _ _ _ _) _);first|exact rD zY zY aa aa|exact uO zY zY aa aa)|((with_reducible show RV _ _ _ _ _ (.convert _ _ _) _);first|exact yD bT bT zY aa aa|exact yJ bT bT zY aa aa)|((with_reducible show RV _ _ _ _ _ (.build _ _) _);first|exact U3 bT jm ax zY zY|exact vF bT jm adx zY zY)|((with_reducible show RV _ _ _ _ _ (.binOp .leq _ _ _ _) _);exact acZ zY zY))|(first|((with_reducible show RV _ _ _ _ _ (.binOp .mul _ _ _ _) _);exact vO zY zY aa aa))):P:=h
theorem zR (h:P:=by repeat(first|exact trivial|refine⟨rfl,?_⟩)):P:=h
theorem zDr (h:P:=by repeat(first|exact Dr.z|apply Dr.s)):P:=h
theorem zKn (h:P:=by repeat(first|exact Kn.nil|(apply Kn.keep;exact rfl)|(apply Kn.skip;exact rfl))):P:=h
theorem zSU (h:P:=by repeat(first|exact trivial|refine⟨rfl,?_⟩)):P:=h
theorem zKS (h:P:=by repeat(first|(apply KS.done;exact rfl)|(apply KS.keep;exact rfl)|(apply KS.skip;exact rfl)|exact KS.nil)):P:=h
theorem zch (h:P:=by intro cv L' H' hd hP;(rcases cv with _|⟨v1,_|⟨v2,_|⟨_,_⟩⟩⟩<;>try exact False.elim hP);all_goals(first|obtain⟨rfl,rfl⟩:=hP|obtain⟨b6,rfl,rfl,rfl,ky,Db⟩:=hP|obtain⟨b6,b7,c7,s7,rfl,rfl,rfl,rfl,ky,Db,um,Vv,Dc⟩:=hP);all_goals(first|exact X.v (ar isAgg3 rfl A0 dE da zM rfl))):P:=h
theorem zci (h:P:=by intro cv L' H' hd hP;(rcases cv with _|⟨v1,_|⟨v2,_|⟨v3,_|⟨_,_⟩⟩⟩⟩<;>try exact False.elim hP);all_goals(first|obtain⟨rfl,rfl⟩:=hP|obtain⟨b6,rfl,rfl,rfl,ky,Db⟩:=hP|obtain⟨b6,b7,c7,s7,rfl,rfl,rfl,rfl,ky,Db,um,Vv,Dc⟩:=hP|obtain⟨b6,b7,c7,s7,iI,c12,Yf,rfl,rfl,rfl,rfl,rfl,ky,Db,um,Vv,Dc,Yg,ahl,Yh⟩:=hP);all_goals(first|exact X.v (ar isAgg9 rfl A0 dE da zM rfl))):P:=h
theorem zcj (h:P:=by intro cv L' H' hd hP;(rcases cv with _|⟨v1,_|⟨v2,_|⟨_,_⟩⟩⟩<;>try exact False.elim hP);all_goals(first|obtain⟨rfl,rfl⟩:=hP|obtain⟨b9,rfl,rfl,rfl,xP,QO⟩:=hP|obtain⟨b9,fN,Jd,Kl,rfl,rfl,rfl,rfl,xP,QO,Km,QP,y4⟩:=hP);all_goals(first|exact X.v (ar isAgg134 rfl A0 D6 BZ zM rfl))):P:=h
theorem OP (h:P:=by intro cv L' H' hd hP;(rcases cv with _|⟨v1,_|⟨_,_⟩⟩<;>try exact False.elim hP);all_goals(first|obtain⟨rfl,rfl⟩:=hP|obtain⟨a7,c7,w7,rfl,rfl,rfl,ko⟩:=hP);all_goals(first|exact X.v (ar isAgg48 rfl A0 hb1 cN trivial rfl)|exact X.v (ar isAgg48 rfl A1 hb1 cN trivial rfl)|exact X.v (RV.re (dt isAgg51 sizeOf51 rfl A0 hb1 cN trivial (er rfl)) rfl)|exact X.v (RV.re (dt isAgg51 sizeOf51 rfl A1 hb1 cN trivial (er rfl)) rfl))):P:=h
theorem Wg (h:P:=by intro cv L' H' hd hP;(rcases cv with _|⟨v1,_|⟨v2,_|⟨v3,_|⟨v4,_|⟨_,_⟩⟩⟩⟩⟩<;>try exact False.elim hP);all_goals(first|obtain⟨rfl,rfl⟩:=hP|obtain⟨mX,rfl,rfl,rfl,lC⟩:=hP|obtain⟨mX,bn,cn,sn,rfl,rfl,rfl,rfl,rfl,lC,hfn,uC⟩:=hP|obtain⟨mX,bn,cn,sn,rfl,rfl,rfl,rfl,lC,hfn,uC⟩:=hP|obtain⟨mX,bn,cn,sn,oE,rfl,rfl,rfl,rfl,rfl,rfl,lC,hfn,uC,sU⟩:=hP);all_goals(first|exact X.v (bV (i:=3) rfl isAgg134 rfl rfl)|exact X.v (bV (i:=4) rfl isAgg134 rfl rfl)|exact X.v (bV (i:=5) rfl isAgg134 rfl rfl)|exact X.v (bV (i:=6) rfl isAgg134 rfl rfl)|exact X.v (bV (i:=0) rfl isAgg3 rfl rfl)|exact X.v (bV (i:=1) rfl isAgg3 rfl rfl)|exact X.v (bV (i:=2) rfl isAgg3 rfl rfl)|exact X.v (bV (i:=3) rfl isAgg3 rfl rfl))):P:=h
theorem xZ (h:P:=by intro cv L' H' hd hP;(rcases cv with _|⟨v1,_|⟨v2,_|⟨v3,_|⟨_,_⟩⟩⟩⟩<;>try exact False.elim hP);all_goals(first|obtain⟨rfl,rfl⟩:=hP|obtain⟨bn,rfl,rfl,rfl,rfl,hfn⟩:=hP|obtain⟨bn,rfl,rfl,rfl,hfn⟩:=hP|obtain⟨bn,oE,rfl,rfl,rfl,rfl,rfl,hfn,sU⟩:=hP);all_goals(first|exact X.v (bV (i:=2) rfl isAgg134 rfl rfl)|exact X.v (bV (i:=3) rfl isAgg134 rfl rfl)|exact X.v (bV (i:=4) rfl isAgg134 rfl rfl)|exact X.v (bV (i:=0) rfl isAgg3 rfl rfl)|exact X.v (bV (i:=1) rfl isAgg3 rfl rfl)|exact X.v (bV (i:=2) rfl isAgg3 rfl rfl)|exact X.v (bV (i:=0) rfl isAgg106 rfl rfl)|exact X.v (bV (i:=1) rfl isAgg106 rfl rfl)|exact X.v (bV (i:=2) rfl isAgg106 rfl rfl)|exact nf call90 rfl rfl (λW hS _=>Zz x.w.body N x.w.ba x.w.bc W cR (gH.up rj (aj _) (λk hk=>(hS.links w A1).block k aa (λhx=>by first|(rcases hx with hx|hx;(exact hx);simp only[gN,dP,fu,iv,eY,ec,aY,cd,dZ,or_false]at hx;rcases hx with hx|hx|hx|hx|hx<;>first|omega|(have:=hq _ hx;omega)|(have h9:=hfn.not (w:=w) A1;omega)|(have h9:=sU.not (w:=w) A1;omega))|fail)))) (λ_=>rfl)|exact nf call90 rfl rfl (λW hS _=>Zz x.w.body N x.w.ba x.w.bc W cR (gH.up rj (aj _) (λk hk=>(hS.links w A1).block k aa (λhx=>by first|(rcases hx with hx|hx;(exact hx);simp only[gN,dP,fu,iv,eY,ec,aY,cd,dZ,or_false]at hx;rcases hx with hx|hx|hx|hx|hx|hx<;>first|omega|(have:=hq _ hx;omega)|(have h9:=hfn.not (w:=w) A1;omega)|(have h9:=sU.not (w:=w) A1;omega))|fail)))) (λ_=>rfl)|exact nf call90 rfl rfl (λW hS _=>Zz x.w.body N x.w.ba x.w.bc W cR (gH.up rj (aj _) (λk hk=>(hS.links w A1).block k aa (λhx=>by first|(rcases hx with hx|hx;(exact hx);simp only[gN,dP,fu,iv,eY,ec,aY,cd,dZ,or_false]at hx;rcases hx with hx|hx|hx|hx|hx|hx|hx<;>first|omega|(have:=hq _ hx;omega)|(have h9:=hfn.not (w:=w) A1;omega)|(have h9:=sU.not (w:=w) A1;omega))|fail)))) (λ_=>rfl)|exact X.v (bV (i:=1) rfl isAgg134 rfl rfl)|exact nf call129 rfl rfl (λW hS _=>by have h1:=hS.own (b5,_) A0;have h2:=JE (cM y.f) W.heap.size (ao b5) 32 W (aj _) (.inr ⟨b5,0,rfl,(bB.1 h1).1,cC.dgo h1 rfl (er rfl) fh⟩);rw[nS]at h2;exact h2) (λ_=>rfl)|exact nf call129 rfl rfl (λW hS _=>by have h1:=hS.own (b5,_) A1;have h2:=JE (cM y.f) W.heap.size (ao b5) 32 W (aj _) (.inr ⟨b5,0,rfl,(bB.1 h1).1,cC.dgo h1 rfl (er rfl) fh⟩);rw[nS]at h2;exact h2) (λ_=>rfl)|exact nf call129 rfl rfl (λW hS _=>by have h1:=hS.own (b5,_) A2;have h2:=JE (cM y.f) W.heap.size (ao b5) 32 W (aj _) (.inr ⟨b5,0,rfl,(bB.1 h1).1,cC.dgo h1 rfl (er rfl) fh⟩);rw[nS]at h2;exact h2) (λ_=>rfl)|exact nf call129 rfl rfl (λW hS _=>JE y.w.body N y.w.ba y.w.bc W cR (gH.up rj (aj _) (λk hk=>(hS.links w A1).block k aa (λhx=>by first|(rcases hx with hx|hx;(exact hx);simp only[gN,dP,fu,iv,eY,ec,aY,cd,dZ,or_false]at hx;rcases hx with hx|hx|hx<;>first|omega|(have:=hq _ hx;omega)|(have h9:=hfn.not (w:=w) A1;omega)|(have h9:=sU.not (w:=w) A1;omega))|fail)))) (λ_=>rfl)|exact nf call129 rfl rfl (λW hS _=>JE y.w.body N y.w.ba y.w.bc W cR (gH.up rj (aj _) (λk hk=>(hS.links w A1).block k aa (λhx=>by first|(rcases hx with hx|hx;(exact hx);simp only[gN,dP,fu,iv,eY,ec,aY,cd,dZ,or_false]at hx;rcases hx with hx|hx|hx|hx<;>first|omega|(have:=hq _ hx;omega)|(have h9:=hfn.not (w:=w) A1;omega)|(have h9:=sU.not (w:=w) A1;omega))|fail)))) (λ_=>rfl)|exact nf call129 rfl rfl (λW hS _=>JE y.w.body N y.w.ba y.w.bc W cR (gH.up rj (aj _) (λk hk=>(hS.links w A1).block k aa (λhx=>by first|(rcases hx with hx|hx;(exact hx);simp only[gN,dP,fu,iv,eY,ec,aY,cd,dZ,or_false]at hx;rcases hx with hx|hx|hx|hx|hx<;>first|omega|(have:=hq _ hx;omega)|(have h9:=hfn.not (w:=w) A1;omega)|(have h9:=sU.not (w:=w) A1;omega))|fail)))) (λ_=>rfl))):P:=h
theorem FC (h:P:=by intro cv L' H' hd hP;(rcases cv with _|⟨v1,_|⟨v2,_|⟨_,_⟩⟩⟩<;>try exact False.elim hP);all_goals(first|obtain⟨rfl,rfl⟩:=hP|obtain⟨yh,rfl,rfl,rfl,rfl,rX,rY⟩:=hP|obtain⟨yh,rfl,rfl,rfl,rX,rY⟩:=hP);all_goals(first|exact X.v (ar isAgg3 rfl A0 hb1 cN zOb rfl)|exact nf call90 rfl rfl (λW hS _=>by have h1:=hS.old A0 hb1 cN z1b;have h2:=Zz (cM c.par) W.heap.size (some ⟨b1,2,none⟩) 32 W (aj _) (.inr ⟨b1,2,rfl,(bB.1 h1).1,cC.dgo h1 rfl (er rfl) qj.bp⟩);rw[nS]at h2;exact h2) (λ_=>rfl)|exact X.v (eG (i:=2) rfl isAgg200 sizeOf200 rfl rfl)|exact X.v (ar isAgg55 rfl A0 hb1 cN zOb rfl)|exact X.v (eG (i:=1) rfl isAgg200 sizeOf200 rfl rfl)|exact X.v (eG (i:=0) rfl isAgg200 sizeOf200 rfl rfl)|exact nf call90 rfl rfl (λW hS _=>by have h1:=hS.old A0 hb1 cN z1b;have h2:=Zz (cM c.conf) W.heap.size (some ⟨b1,39,none⟩) 32 W (aj _) (.inr ⟨b1,39,rfl,(bB.1 h1).1,cC.dgo h1 rfl (er rfl) qj.bf⟩);rw[nS]at h2;exact h2) (λ_=>rfl))):P:=h
theorem O3 (h:P:=by intro cv L' H' hd hP;(rcases cv with _|⟨v1,_|⟨v2,_|⟨v3,_|⟨v4,_|⟨v5,_|⟨_,_⟩⟩⟩⟩⟩⟩<;>try exact False.elim hP);all_goals(first|obtain⟨rfl,rfl⟩:=hP|obtain⟨ta,tc,wr,rfl,rfl,rfl,sS,iF,rU⟩:=hP|obtain⟨ta,tc,wr,r8,rfl,rfl,rfl,rfl,rfl,rfl,rfl,sS,iF,rU,oJ,iM,jR⟩:=hP|obtain⟨ta,tc,wr,r8,rfl,rfl,rfl,rfl,rfl,rfl,sS,iF,rU,oJ,iM,jR⟩:=hP|obtain⟨ta,tc,wr,r8,rfl,rfl,rfl,rfl,rfl,sS,iF,rU,oJ,iM,jR⟩:=hP|obtain⟨ta,tc,wr,r8,rfl,rfl,rfl,rfl,sS,iF,rU,oJ,iM,jR⟩:=hP);all_goals(first|exact X.v (gh isAgg53 sizeOf53 rfl A4 dz bY zO rfl)|exact X.v (gh isAgg53 sizeOf53 rfl A5 dz bY zO rfl)|exact X.v (ar isAgg54 rfl A3 dE da zO rfl)|exact X.v (ar isAgg54 rfl A4 dE da zO rfl)|exact X.v (ar isAgg3 rfl A3 dE da zO rfl)|exact X.v (ar isAgg3 rfl A4 dE da zO rfl)|exact X.v (ar isAgg55 rfl A3 dE da zO rfl)|exact X.v (ar isAgg55 rfl A4 dE da zO rfl))):P:=h
theorem zcp (h:P:=by intro cv L' H' hl hd hP;(obtain⟨x3,x4,x8,x9,rfl⟩:=vm hl;rcases x3 with _|v3<;>rcases x4 with _|v4<;>rcases x8 with _|v8<;>rcases x9 with _|v9<;>try exact False.elim hP);all_goals(first|obtain⟨rfl,rfl⟩:=hP|obtain⟨jG,rfl,rfl,rfl,l9⟩:=hP|obtain⟨jc,rfl,rfl,rfl,mJ⟩:=hP|obtain⟨jG,jc,rfl,rfl,rfl,rfl,l9,mJ⟩:=hP|obtain⟨jG,mA,ib,jd,rfl,rfl,rfl,rfl,l9,qO,ie⟩:=hP|obtain⟨jG,mA,ib,jd,jc,rfl,rfl,rfl,rfl,rfl,l9,qO,ie,mJ⟩:=hP|obtain⟨jG,mA,ib,jd,jc,Dz,xg,Ah,rfl,rfl,rfl,rfl,rfl,rfl,l9,qO,ie,mJ,Ai,vA⟩:=hP);all_goals(first|exact X.v (bV (i:=3) rfl isAgg72 rfl rfl)|exact X.v (bV (i:=4) rfl isAgg72 rfl rfl)|exact X.v (bV (i:=5) rfl isAgg72 rfl rfl)|exact X.v (eG (i:=0) rfl isAgg33 sizeOf33 rfl rfl)|exact X.v (eG (i:=1) rfl isAgg33 sizeOf33 rfl rfl)|exact X.v (eG (i:=2) rfl isAgg33 sizeOf33 rfl rfl)|exact X.v (bV (i:=3) rfl isAgg55 rfl rfl)|exact X.v (bV (i:=4) rfl isAgg55 rfl rfl)|exact X.v (bV (i:=5) rfl isAgg55 rfl rfl))):P:=h
theorem zcq (h:P:=by intro cv L' H' hl hd hP;(obtain⟨rl,sW,uK,yl,ym,rfl⟩:=tP hl;rcases rl with _|v12<;>rcases sW with _|xj<;>rcases uK with _|CB<;>rcases yl with _|xi<;>rcases ym with _|v17<;>try exact False.elim hP);all_goals(first|obtain⟨rfl,rfl⟩:=hP|obtain⟨b7,rfl,rfl,rfl,kh⟩:=hP|obtain⟨Xn,fp,rfl,rfl,rfl,rfl,rfl,gk,jZ,me,mf⟩:=hP|obtain⟨Xn,fp,rfl,rfl,rfl,rfl,gk,jZ,me,mf⟩:=hP|obtain⟨Xn,fp,rfl,rfl,rfl,gk,jZ,me,mf⟩:=hP|obtain⟨Xn,fp,b7,rfl,rfl,rfl,rfl,rfl,rfl,rfl,gk,jZ,me,mf,kh,sX⟩:=hP|obtain⟨Xn,fp,b7,rfl,rfl,rfl,rfl,rfl,rfl,gk,jZ,me,mf,kh,sX⟩:=hP|obtain⟨Xn,fp,b7,rfl,rfl,rfl,rfl,rfl,gk,jZ,me,mf,kh,sX⟩:=hP|obtain⟨Xn,fp,b7,rfl,rfl,rfl,rfl,gk,jZ,me,mf,kh,sX⟩:=hP);all_goals(first|exact X.v (ar isAgg3 rfl A0 dE da zM rfl)|exact X.v (ar isAgg3 rfl A1 dE da zM rfl)|exact X.v (ar isAgg24 rfl A1 dz bY zM rfl)|exact X.v (ar isAgg24 rfl A2 dz bY zM rfl)|exact X.v (ar isAgg55 rfl A1 dz bY zM rfl)|exact X.v (ar isAgg55 rfl A2 dz bY zM rfl)|exact X.v (ar (v:=ab (i:Int)) isAgg3 rfl A2 Gq zH XC zMc)|exact X.v (ar (v:=ab (i:Int)) isAgg3 rfl A3 Gq zH XC zMc)|exact X.v (RV.re (v':=.agg (cP c)) (dt isAgg61 sizeOf61 rfl A2 tR zH XC (de mK hc rfl)) (va (dY mK hc rfl)))|exact X.v (RV.re (v':=.agg (cP c)) (dt isAgg61 sizeOf61 rfl A3 tR zH XC (de mK hc rfl)) (va (dY mK hc rfl))))):P:=h
theorem Jw (h:P:=by intro cv L' H' hd hP;(rcases cv with _|⟨v1,_|⟨_,_⟩⟩<;>try exact False.elim hP);all_goals(first|obtain⟨rfl,rfl,rfl⟩:=hP|obtain⟨rfl,rfl⟩:=hP);all_goals(first|exact X.v (ar isAgg55 rfl A2 dz bY zM rfl)|exact X.v (ar (v:=ab (i:Int)) isAgg3 rfl A3 Gq zH XC zMc)|exact X.v (ar isAgg24 rfl A2 dz bY zM rfl)|exact X.v (RV.re (v':=.agg (cP c)) (dt isAgg61 sizeOf61 rfl A3 tR zH XC (de mK hc rfl)) (va (dY mK hc rfl)))|exact X.v (RV.re (dt isAgg33 sizeOf33 rfl A1 dE da zM (er rfl)) rfl)|exact X.v (eG (i:=0) rfl isAgg53 sizeOf53 rfl rfl)|exact X.v (eG (i:=2) rfl isAgg61 sizeOf61 rfl rfl)|exact X.v (eG (i:=1) rfl isAgg127 sizeOf127 rfl rfl))):P:=h
theorem zcs (h:P:=by intro cv L' H' hl hd hP;(obtain⟨x3,x4,x8,rfl⟩:=pB hl;rcases x3 with _|v3<;>rcases x4 with _|v4<;>rcases x8 with _|v8<;>try exact False.elim hP);all_goals(first|obtain⟨rfl,rfl⟩:=hP|obtain⟨fK,rfl,rfl,rfl,jQ⟩:=hP|obtain⟨ph,rfl,rfl,rfl,xn⟩:=hP|obtain⟨fK,ph,rfl,rfl,rfl,rfl,jQ,xn⟩:=hP|obtain⟨fK,oB,iz,iZ,rfl,rfl,rfl,rfl,jQ,lZ,iJ⟩:=hP|obtain⟨fK,oB,iz,iZ,ph,rfl,rfl,rfl,rfl,rfl,jQ,lZ,iJ,xn⟩:=hP);all_goals(first|exact X.v (bV (i:=0) rfl isAgg3 rfl rfl)|exact X.v (bV (i:=1) rfl isAgg3 rfl rfl)|exact X.v (bV (i:=2) rfl isAgg3 rfl rfl)|exact X.v (fO (i:=0) rfl isAgg53 sizeOf53 rfl (er rfl))|exact X.v (fO (i:=1) rfl isAgg53 sizeOf53 rfl (er rfl))|exact X.v (fO (i:=2) rfl isAgg53 sizeOf53 rfl (er rfl)))):P:=h
theorem zct (h:P:=by intro cv L' H' hd hP;(rcases cv with _|⟨v1,_|⟨v2,_|⟨v3,_|⟨v4,_|⟨_,_⟩⟩⟩⟩⟩<;>try exact False.elim hP);all_goals(first|obtain⟨rfl,rfl⟩:=hP|obtain⟨b9,c9,w9,pV,vP,rfl,rfl,rfl,rfl,sA,uh,pw,sF,HM⟩:=hP|obtain⟨b9,c9,w9,pV,vP,rfl,rfl,rfl,sA,uh,pw,sF,HM⟩:=hP|obtain⟨b9,c9,w9,pV,vP,bR,rfl,rfl,rfl,rfl,rfl,rfl,sA,uh,pw,sF,HM,wH,Xf,xx⟩:=hP|obtain⟨b9,c9,w9,pV,vP,bR,rfl,rfl,rfl,rfl,rfl,sA,uh,pw,sF,HM,wH,Xf,xx⟩:=hP);all_goals(first|exact X.v (gh isAgg127 sizeOf127 rfl A1 D6 BZ zM rfl)|exact X.v (gh isAgg127 sizeOf127 rfl A2 D6 BZ zM rfl)|exact X.v (gh isAgg127 sizeOf127 rfl A0 Dg Yx zM rfl)|exact X.v (gh isAgg127 sizeOf127 rfl A1 Dg Yx zM rfl))):P:=h
theorem zcu (h:P:=by intro cv L' H' hd hP;(rcases cv with _|⟨v1,_|⟨v2,_|⟨v3,_|⟨_,_⟩⟩⟩⟩<;>try exact False.elim hP);all_goals(first|obtain⟨rfl,rfl⟩:=hP|obtain⟨bq,wq,rfl,rfl,rfl,rfl,pI,PK,PL⟩:=hP|obtain⟨bq,wq,rfl,rfl,rfl,pI,PK,PL⟩:=hP|obtain⟨bq,wq,hd,rfl,rfl,rfl,rfl,rfl,pI,PK,PL,hhd⟩:=hP);all_goals(first|exact X.v (eG (i:=1) rfl isAgg127 sizeOf127 rfl rfl)|exact X.v (eG (i:=2) rfl isAgg61 sizeOf61 rfl rfl))):P:=h
theorem zcv (h:P:=by intro cv L' H' hd hP;(rcases cv with _|⟨v1,_|⟨v2,_|⟨_,_⟩⟩⟩<;>try exact False.elim hP);all_goals(first|obtain⟨rfl,rfl⟩:=hP|obtain⟨oT,qU,rfl,rfl,rfl,xA,xB,xC⟩:=hP|obtain⟨oT,qU,iP,oU,qV,rfl,rfl,rfl,rfl,xA,xB,xC,PM,Bw⟩:=hP);all_goals(first|exact X.v (bV (i:=6) rfl isAgg23 rfl rfl)|exact X.v (bV (i:=7) rfl isAgg23 rfl rfl)|exact X.v (ar (v:=ab 0) isAgg3 rfl A7 yk yw Qd rfl)|exact X.v (ar (v:=ab 0) isAgg3 rfl A8 yk yw Qd rfl)|exact X.v (ar (v:=ab pp) isAgg3 rfl A7 yk yw Qd rfl)|exact X.v (ar (v:=ab pp) isAgg3 rfl A8 yk yw Qd rfl))):P:=h
theorem Xm (h:P:=by intro cv L' H' hd hP;(rcases cv with _|⟨v1,_|⟨v2,_|⟨_,_⟩⟩⟩<;>try exact False.elim hP);all_goals(first|obtain⟨rfl,rfl⟩:=hP|obtain⟨oV,sI,rfl,rfl,rfl,xD,xE,xF⟩:=hP|obtain⟨oV,sI,Ay,M9,Ul,rfl,rfl,rfl,rfl,xD,xE,xF,H6,aca⟩:=hP);all_goals(first|exact X.v (bV (i:=7) rfl isAgg77 rfl rfl)|exact X.v (bV (i:=8) rfl isAgg77 rfl rfl)|exact X.v (ar (v:=ab 0) isAgg3 rfl A8 yk yw Qd rfl)|exact X.v (ar (v:=ab 0) isAgg3 rfl A9 yk yw Qd rfl)|exact X.v (RV.re (v':=ak) (ov (ev:=(id:Value->Value)) underlying77 underlying3 zeroValue55 Bl (bF.own (i:=8) rfl) rfl rfl) rfl)|exact X.v (RV.re (v':=ak) (ov (ev:=(id:Value->Value)) underlying77 underlying3 zeroValue55 Bl (bF.own (i:=9) rfl) rfl rfl) rfl)|exact X.v (ar (v:=ab 5000) isAgg3 rfl A8 pI yw Qd rfl)|exact X.v (ar (v:=ab 5000) isAgg3 rfl A9 pI yw Qd rfl))):P:=h
theorem zcx (h:P:=by intro cv L' H' hd hP;(rcases cv with _|⟨v1,_|⟨_,_⟩⟩<;>try exact False.elim hP);all_goals(first|obtain⟨rfl,rfl⟩:=hP|obtain⟨b8,rfl,rfl,rfl,C4⟩:=hP);all_goals(first|exact X.v (ar isAgg24 rfl A0 hb1 cN (by simp only[bN,iy,book,iv,eY,ec,iY,dA,eh,rK,wL,ne_eq,and_true];(repeat' apply And.intro);all_goals first|omega|exact True.intro|exact Rw.off_ge bK aa) rfl)|exact X.v (RV.re (v':=ab ((jH d:Nat):Int)) (Bh (v:=ab d.at_) isAgg3 rfl SA zNc) (congrArg ab hdi))|exact X.v (RV.re (v':=.agg (cP d.c)) (dt isAgg61 sizeOf61 rfl A1 tR zH zhb (de mK lA.1 rfl)) (va (dY mK lA.1 rfl)))|exact X.v (RV.re (v':=.agg (bJ d.x)) (lI isAgg53 sizeOf53 rfl (CF) (de kN Aq rfl)) (va (dY kN Aq rfl))))):P:=h
structure ZW (Q:Prop):Prop where
  p:Q
inductive Ct:Nat->Prop where
  |mk (n:Nat):Ct n
theorem Ct.dec {n:Nat} (_:Ct (n+1)):Ct n:=.mk n
theorem Ct.fin {P:Prop} (_:Ct 0) (h:P):P:=h
theorem Xu {n:Nat} (c:Ct n) (k:Q) (h:Ct n->ZW Q->P:=by intro Cz Kz;(repeat(replace Cz:=Ct.dec Cz;(first|(first|(with_reducible refine PJ.next ?_)|(with_reducible refine OJ.done ?_)|(with_reducible refine CJ.seq ?_)|(with_reducible refine CJ.region ?_)|(with_reducible refine CJ.ret ?_)|(with_reducible refine PJ.retThen ?_)|(with_reducible refine CJ.skip ?_))|(first|(with_reducible refine PJ.exThen ?_)|(with_reducible refine CJ.block ?_)|(with_reducible refine PJ.norBlock ?_)|(with_reducible refine PJ.retBlock ?_)|(with_reducible refine PJ.exHit ?_)|(with_reducible refine CJ.exit ?_)|((with_reducible refine CJ.condT ?_ ?_);· exact rfl))|(first|((with_reducible refine CJ.condF ?_ ?_);· exact rfl))|first|(first|((with_reducible show OJ _ _ _ (⟨_,.store _ _ _,_,_,_,_⟩::_) _ _ _ _ _);first|refine jN (i:=0) zY ax zY zY zY zY zY zY ?_|refine jN (i:=1) zY ax zY zY zY zY zY zY ?_|refine jN (i:=2) zY ax zY zY zY zY zY zY ?_|refine jN (i:=3) zY ax zY zY zY zY zY zY ?_|refine jN (i:=4) zY ax zY zY zY zY zY zY ?_|refine jN (i:=5) zY ax zY zY zY zY zY zY ?_|refine OJ.off rfl zz rfl ?_)|((with_reducible show OJ _ _ _ (⟨_,.alloc _,_,_,_,_⟩::_) _ _ _ _ _);first|refine ac5 jm zY zY ?_|refine OJ.off rfl zz rfl ?_)|((with_reducible show OJ _ _ _ (⟨_,.box _ _,_,_,_,_⟩::_) _ _ _ _ _);first|refine UT rfl rfl rfl ?_|refine OJ.off rfl zz rfl ?_)|refine OJ.off rfl zz rfl ?_|refine rvA rfl rfl rfl ?_|refine UT rfl rfl rfl ?_|refine ac5 jm zY zY ?_)|(first|refine jN (i:=0) zY ax zY zY zY zY zY zY ?_|refine jN (i:=1) zY ax zY zY zY zY zY zY ?_|refine jN (i:=2) zY ax zY zY zY zY zY zY ?_|refine jN (i:=3) zY ax zY zY zY zY zY zY ?_|refine jN (i:=4) zY ax zY zY zY zY zY zY ?_|refine jN (i:=5) zY ax zY zY zY zY zY zY ?_))));exact Cz.fin Kz.p):P:=h c ⟨k⟩
theorem B (n:Nat) (k:Q) (h:Ct n->ZW Q->P:=by intro Cz Kz;refine Xu Cz ?_;exact Kz.p):P:=h (.mk n) ⟨k⟩
inductive Vt:Go.Value->Prop where
  |mk (v:Go.Value):Vt v
theorem aF (n:Nat) (v:Go.Value) (k:Q) (h:Ct n->Vt v->ZW Q->P:=by intro Cz Vz Kz;refine Xu Cz ?_;exact zrC Vz Kz.p):P:=h (.mk n) (.mk v) ⟨k⟩
theorem aG {R:Prop} (n:Nat) (k:Q) (l:R) (h:Ct n->ZW Q->ZW R->P:=by intro Cz Kz Kw;refine Xu Cz ?_;refine uf ?_ ?_;exact Kz.p;exact Kw.p):P:=h (.mk n) ⟨k⟩ ⟨l⟩
theorem cK (n:Nat) (k:Q) (h:Ct n->ZW Q->P:=by intro Cz Kz;refine Xu Cz ?_;exact yX Kz.p):P:=h (.mk n) ⟨k⟩
theorem bM (n:Nat) (k:Q) (h:Ct n->ZW Q->P:=by intro Cz Kz;refine Xu Cz ?_;exact yW Kz.p):P:=h (.mk n) ⟨k⟩
theorem zT (h:P:=by repeat(first|(apply ra;exact rfl)|(apply qbk;exact rfl)|(apply aM;(first|exact X.off rfl (λ_ _=>rfl)|exact X.v (RV.re NM P6))))):P:=h
theorem LJ (h:P:=by repeat(first|(apply qtn;exact rfl)|(apply qtk;exact rfl)|(apply lH;(intro cv L' H' hl hd hP;first|exact X.off rfl (λ_ _=>rfl)|exact X.v (RV.re NM P6)|((repeat(first|with_reducible obtain⟨rfl,hP⟩:=hP|(with_reducible obtain⟨_,hP⟩:∃x,_:=hP)|(with_reducible obtain⟨_,hP⟩:_/\_:=hP)));(try with_reducible subst hP);exact X.v (RV.re NM P6)))))):P:=h
theorem zU (n:Nat) (h:Ct n->ZW Q->P:=by intro Cz Kz;(repeat(replace Cz:=Ct.dec Cz;(first|(apply ra;exact rfl)|(apply qbk;exact rfl)|(apply aM;(first|exact X.off rfl (λ_ _=>rfl)|exact X.v (RV.re NM P6))))));exact Cz.fin Kz.p) (k:Q):P:=h (.mk n) ⟨k⟩
theorem qn (n:Nat) (h:Ct n->ZW Q->P:=by intro Cz Kz;(repeat(replace Cz:=Ct.dec Cz;(first|(apply qtn;exact rfl)|(apply qtk;exact rfl)|(apply lH;(intro cv L' H' hl hd hP;first|exact X.off rfl (λ_ _=>rfl)|exact X.v (RV.re NM P6)|((repeat(first|with_reducible obtain⟨rfl,hP⟩:=hP|(with_reducible obtain⟨_,hP⟩:∃x,_:=hP)|(with_reducible obtain⟨_,hP⟩:_/\_:=hP)));(try with_reducible subst hP);exact X.v (RV.re NM P6)))))));exact Cz.fin Kz.p) (k:Q):P:=h (.mk n) ⟨k⟩
theorem vW (h:P:=by first|exact .inr (by assumption)|exact .inr (And.right (by assumption))|exact .inr (And.right (And.right (by assumption)))|exact .inr (by simp only[ah,and_true]at *;omega)|exact .inr (by simp only[ah,and_true];omega)|exact .inr (by simp only[ah,and_true];(repeat' apply And.intro)<;>omega)):P:=h
theorem zMo (h:P:=by intro W h;first|exact h|exact h.un|exact h.dropF vW|exact h.un.dropF vW|exact h.un.un|exact(h.dropF vW).dropF vW|exact h.un.un.dropF vW|exact(h.un.dropF vW).dropF vW|exact((h.dropF vW).dropF vW).dropF vW|exact((h.un.dropF vW).dropF vW).dropF vW|exact(h.un.un.dropF vW).dropF vW|exact h.un.un.un|exact(((h.dropF vW).dropF vW).dropF vW).dropF vW):P:=h
theorem zE (k:Q) (h:ZW Q->P:=by intro Kz;exact OJ.done (hk _ _ _ (wE zMo Kz.p))):P:=h ⟨k⟩
theorem zG (k:Q) (h:ZW Q->P:=by intro Kz;exact OJ.done (hk _ _ _ (wN zMo Kz.p))):P:=h ⟨k⟩
theorem uf {R:Prop} (k:Q) (l:R) (h:ZW Q->ZW R->P:=by intro Kz Kw;(refine CJ.cond rfl (λhc=>?_) (λhc=>?_)<;>(try simp only[decide_eq_true_eq,decide_eq_false_iff_not,Bool.not_eq_true',Bool.not_eq_false']at hc)<;>revert hc);exact Kz.p;exact Kw.p):P:=h ⟨k⟩ ⟨l⟩
section
variable (k:Q)
include k
theorem zVc (h:ZW Q->P:=by intro Kz;refine B 2 ?_;refine rv rfl rfl rfl (kX rfl rfl) ?_;refine B 1 ?_;refine rv rfl rfl rfl (pZ rfl rfl) ?_;refine B 1 ?_;refine rv rfl rfl rfl (kX rfl rfl) ?_;refine B 1 ?_;refine rv rfl rfl rfl (pZ rfl rfl) ?_;refine B 2 ?_;refine rv rfl rfl rfl (kX rfl rfl) ?_;refine rq (.int .u64 (r0:Int)) (vV rfl rfl) (vu zlb) ?_;refine B 1 ?_;refine rq (.int .u64 ((r0/2^s:Nat):Int)) (mC rfl rfl aa) (vu (nxc r0 s aa)) ?_;exact B 5 Kz.p):P:=h ⟨k⟩
theorem ZX (h:ZW Q->P:=by intro Kz;refine B 6 ?_;refine du (.agg (bJ G)) ?_;refine call call148 rfl rfl rfl (λW hS=>by rw[<-hv];exact nR G N W cR (hG.up (aj _) hS.sm)) (v:=.bool true) ?_;refine du bH ?_;refine B 8 ?_;refine du (.agg (cP c)) ?_;refine call call149 rfl rfl rfl (λW hS=>by rw[<-kD];exact nwb c dG.few N W cR (hC.up (aj _) hS.sm)) (v:=ab 0) ?_;refine B 6 ?_;refine du bH ?_;refine B 12 ?_;refine du bH ?_;refine B 6 ?_;refine du bH ?_;refine B 6 ?_;refine rq bH (dV nO zz nF rfl rfl rfl) (congrArg (λq=>Value.bool (!q)) h3) ?_;refine B 8 ?_;refine du (.agg (bJ G)) ?_;refine B 4 ?_;exact nH (enc:=tJ) (m:=4) (t:=110) (xs:=(gG G.g c.author c.chs)) (v:=λs=>.tuple #[s,ab 0]) (first:=[]) (cap:=[]) rfl call134 rfl rfl rfl V6 (λW hS=>by rw[<-hne];exact nCb G N W cR (hG.up (aj _) hS.sm) c.chs aa c.ca c.cc (hC.chs.up (aj _) hS.sm) c.author tC) Kz.p):P:=h ⟨k⟩
theorem qD (h:ZW Q->P:=by intro Kz;exact PJ.dropAt (i:=0) rfl zB Kz.p):P:=h ⟨k⟩
theorem zYc (h:ZW Q->P:=by intro Kz;exact CJ.less (E':=[(0,_),(1,_),(2,_),(3,_),(4,_),(5,_),(6,_),(7,_),(8,_),(9,_),(10,_),(11,_),(12,_),(13,_),(14,_),(15,_),(16,_),(17,_),(18,_),(19,_),(20,_),(21,_),(22,_),(23,_),(24,_),(25,_),(26,_),(27,_),(28,_),(29,_),(30,_),(31,_),(32,_),(33,_),(34,_),(35,_),(36,_),(37,_),(38,_),(39,_),(40,_)]) zR Kz.p):P:=h ⟨k⟩
theorem VS (h:ZW Q->P:=by intro Kz;refine B 14 ?_;exact CJ.lp (α:=Nat) [0,1,7] (λj=>[(8,ab (j:Int))]) (λj=>[]) (λj=>j<=xs.length/\gE p xs j) (λj=>xs.length-j) 0 ⟨cO _,λi x hi=>absurd hi aa⟩ Kz.p):P:=h ⟨k⟩
theorem Oe (h:ZW Q->P:=by intro Kz;refine du (.int .u64 ((q-1:Nat):Int)) ?_;refine B 7 ?_;refine du (.int .u64 ((r+y1:Nat):Int)) ?_;exact B 9 Kz.p):P:=h ⟨k⟩
theorem z1c (h:ZW Q->P:=by intro Kz;exact CJ.less (E':=[(0,_),(1,_),(2,_),(3,_),(4,_),(5,_),(6,_),(7,_),(8,_),(9,_),(13,_),(14,_),(15,_),(17,_),(18,_),(19,_),(20,_),(23,_),(24,_),(25,_),(26,_),(27,_),(28,_),(29,_),(30,_),(31,_),(32,_),(33,_),(34,_),(35,_),(36,_),(37,_),(38,_),(39,_),(40,_),(41,_),(42,_),(44,_),(45,_),(46,_),(47,_),(48,_),(49,_),(50,_),(51,_),(52,_),(53,_),(54,_),(57,_),(58,_),(59,_),(60,_),(61,_),(62,_),(63,_),(64,_),(65,_),(66,_),(67,_),(68,_),(69,_),(70,_),(71,_),(72,_),(73,_),(74,_),(76,_),(77,_),(78,_),(79,_),(80,_),(81,_),(82,_),(83,_),(84,_),(85,_),(86,_),(87,_),(89,_),(90,_),(91,_),(92,_),(93,_),(94,_),(95,_)]) zR Kz.p):P:=h ⟨k⟩
theorem DC (h:ZW Q->P:=by intro Kz;exact kp underlying38 sizeOf35 zeroValue35 rfl rfl rfl rfl rfl rfl rfl Kz.p):P:=h ⟨k⟩
theorem KX (h:ZW Q->P:=by intro Kz;exact du (.agg #[.slice a ns.length cp]) Kz.p):P:=h ⟨k⟩
theorem ET (h:ZW Q->P:=by intro Kz;exact kp underlying55 sizeOf3 zeroValue3 rfl rfl rfl rfl rfl rfl rfl Kz.p):P:=h ⟨k⟩
theorem z5c (h:ZW Q->P:=by intro Kz;exact call call156 rfl rfl rfl (λW hS=>nGd (zp G.g (gF G.g.ms au) au) 259 [ptr b3 0,ptr b8 0,ptr b4 0] call259 l hxl N _ cp W cR (aI.up (aj _) hS.sm) (λj x hx W2 hB=>by have h3:=(hS.links w3 A1).size;have h4:=(hS.links w4 A0).size;have h5:=(hS.links w A2).size;have h8:=hS.own (b8,_) A0;have h9:=(bB.1 h8).1;exact nLi G N W2 (by have:=hB.size;omega) (hG.up (aj _) (λk hk=>by rw[hB.block k aa];exact hS.same A2 hN zF zD k hk)) b3 b8 b4 _ au (by rw[hB.block b3 aa];exact hS.old A1 dE da zy) (by rw[hB.block b8 h9];exact h8) (by rw[hB.block b4 aa];exact hS.old A0 D6 BZ zy) x)) Kz.p):P:=h ⟨k⟩
theorem z6c (h:ZW Q->P:=by intro Kz;refine zE ?_;exact call call153 rfl rfl rfl (λW hS=>by have h9:=nwd c.wes aa W.heap.size c.wa c.wc W (aj _) (hC.wes.up cR hS.sm) (oH c.author c.chs) aw cw (xd.to hS A0 (aj _) (λb off e=>.inr zGb));rw[show lF Wt c.wes (oH c.author c.chs)=true from hw]at h9;exact h9) (v:=.bool true) Kz.p):P:=h ⟨k⟩
theorem z7c (h:ZW Q->P:=by intro Kz;exact nH (enc:=oA) (m:=5) (t:=99) (xs:=oH c.author c.chs) (v:=id) (first:=[]) (cap:=[]) rfl call144 rfl rfl rfl Cl (λW hS=>n7b c.author c.chs aa N c.ca c.cc W cR (hC.chs.up (aj _) hS.sm)) Kz.p):P:=h ⟨k⟩
theorem PY (h:ZW Q->P:=by intro Kz;exact call call13 rfl rfl rfl (λW hS=>nQc kn aa N ka kc W cR (PI.up (aj _) hS.sm) _) Kz.p):P:=h ⟨k⟩
theorem Ja (h:ZW Q->P:=by intro Kz;exact rJ underlying55 sizeOf3 zeroValue3 rfl rfl rfl rfl rfl rfl rfl Kz.p):P:=h ⟨k⟩
theorem zad (h:ZW Q->P:=by intro Kz;refine du (ab x.dev) ?_;refine call call37 rfl rfl rfl (λW hS=>n8g _ W) ?_;refine B 10 ?_;refine du (.agg #[.slice p.ta p.ns.length p.tc]) ?_;refine du (ab (oO x.dev)) ?_;refine call (v:=.tuple #[ab ((cJ p.ns (oO x.dev)).getD 0),.bool (cJ p.ns (oO x.dev)).isSome]) call36 rfl rfl rfl (λW9 hS=>nUb p.ns aa W9.heap.size p.ta p.tc W9 (aj _) (SQ.toG hS A1 hN (λb off e=>by by_cases h0:p.ns=[];(exact .inl h0);exact .inr (λhb=>⟨CH V b hV (.inr (.inl ⟨h0,off,e⟩)) aa,z2⟩))) (oO x.dev)) ?_;exact B 11 Kz.p):P:=h ⟨k⟩
theorem zbd (h:ZW Q->P:=by intro Kz;exact nH (enc:=aA) (m:=1) (t:=3) (xs:=eu G.g.ns) (v:=id) (first:=[]) (cap:=[]) rfl call186 rfl rfl rfl nz (λW hS=>n3b G.g.ns hn N G.na G.nc W cR (hG.ns.up (aj _) hS.sm)) Kz.p):P:=h ⟨k⟩
theorem ZC (h:ZW Q->P:=by intro Kz;exact kp underlying134 sizeOf200 zeroValue200 rfl rfl rfl rfl rfl rfl rfl Kz.p):P:=h ⟨k⟩
theorem zdd (h:ZW Q->P:=by intro Kz;exact ny (α:=Nat) (v:=λb:Nat=>.slice (ao b) 32 32) (Φ:=λ(W:World) (b:Nat) (w1:World)=>W.heap.size<=b/\w1.heap[b]? =some (oC (dg (oF Z c)) 33)) call147 rfl rfl rfl (λW hS=>nyc hZ c dG N W cR (hC.up (aj _) hS.sm) (hg.old hS A4 zF zD)) Kz.p):P:=h ⟨k⟩
theorem Gf (h:ZW Q->P:=by intro Kz;refine OX.done ?_;exact PX.next Kz.p):P:=h ⟨k⟩
theorem zfd (h:ZW Q->P:=by intro Kz;exact C3 (f:=f) (cap:=cap) rfl aB rfl rfl rfl (λW hS=>hp j x hx W ((hS.links w A0).below KR)) Kz.p):P:=h ⟨k⟩
theorem zgd (h:ZW Q->P:=by intro Kz;refine rv rfl rfl rfl (fM (h:=64) underlying106 sizeOf5 rfl ⟨_,_,rfl,rfl⟩ aa) ?_;exact XK (f:=233) (i:=1) (first:=[ptr b3 0]) (cap:=[]) rfl rfl call233 rfl rfl rfl (λW hS hW=>noe (tw n m (j+k)) (λi=>yO n m (64*(j+k)+i)) b3 rI o2 64 _ _ _ q9 t3 (cf 128 (rH n m j N)) aa aa W hW (hS.own _ A0) (λi hi=>by rw[Oq 128 _ (64*k+i) _ (by have:=dH aa;omega) aa,nJl n m j N _ aa hNN aa aa];congr 3;omega) aa (hS.old A0 hg zH zy) aa) Kz.p):P:=h ⟨k⟩
theorem zhd (h:ZW Q->P:=by intro Kz;exact ny (α:=Option Addr×Nat) (v:=λq=>.agg #[.slice q.1 (aQ gj.g.ns d.c.chs).length q.2]) (Φ:=λW q w1=>ai fZ 2 w1.heap.size w1 q.1 (aQ gj.g.ns d.c.chs)/\((d.c.chs=[]/\q=(gj.na,gj.nc))\/∀b off,q.1=some ⟨b,off,none⟩->W.heap.size<=b)) call57 rfl rfl rfl (λW hS=>nDg gj.g.ns aa d.c.chs uG.2 uG.1 W.heap.size gj.na gj.nc d.c.ca d.c.cc W (aj _) (CG.lies hS.fzLies).ns ((hC d.c Pk).chs.up cR (hS.same A2 hN zF zC))) Kz.p):P:=h ⟨k⟩
theorem zid (h:ZW Q->P:=by intro Kz;exact jV (r:=r) (xs:=pls) (zs:=[(⟨d.c,decide (j=0),aQ gj.g.ns d.c.chs,q1,q2,d.x⟩:Pl)]) (enc:=An) (m:=111) (H0:=[(WT,oC (kV (⟨d.c,decide (j=0),aQ gj.g.ns d.c.chs,q1,q2,d.x⟩:Pl)) 92),(fN,oC (bJ gj) 53),(b9,oC (cP d.c) 61),(b4,oC (qQ fo) 97)]) (H1:=[]) zW nkm nPd rfl rfl rfl rfl (ck.one (z:=(⟨d.c,decide (j=0),aQ gj.g.ns d.c.chs,q1,q2,d.x⟩:Pl)) nPd nLj underlying89 (bF.own (i:=0) rfl)) ae aK zI za Kz.p):P:=h ⟨k⟩
theorem zjd (h:ZW Q->P:=by intro Kz;exact ny (α:=(Option Addr×Nat)×List Se) (v:=(λq:(Option Addr×Nat)×List Se=>.slice q.1.1 q.2.length q.1.2)) (Φ:=λW q w1=>ai seA 35 w1.heap.size w1 q.1.1 q.2/\mM (r.D Z) (r.fs Z dv) 71000 q.2/\q.2.length<=q.1.2) call26 rfl rfl rfl (λW hS=>nlg hZ r hr W.heap.size W (aj _) (hrA.up cR hS.sm) (hg.old hS A3 zF trivial) a0 a1 (hse.old hS A3) af (r.fs Z dv) cf aa (Av.up (hS.links wf A0).size (hS.same A0 (aj _) zF trivial))) Kz.p):P:=h ⟨k⟩
theorem zkd (h:ZW Q->P:=by intro Kz;refine B 3 ?_;refine rv rfl rfl rfl (jo 8 256 zz rfl rfl rfl) ?_;refine B 13 ?_;exact rv rfl rfl rfl (vS underlying233 underlying5 rfl aa aa) Kz.p):P:=h ⟨k⟩
theorem S5 (h:ZW Q->P:=by intro Kz;exact rJ underlying38 sizeOf35 zeroValue35 rfl rfl rfl rfl rfl rfl rfl Kz.p):P:=h ⟨k⟩
theorem zmd (h:ZW Q->P:=by intro Kz;exact rv rfl rfl rfl (ar (v:=.iface 472 (.pointer (some a0))) isAgg173 rfl A4 hg0 zH zy rfl) Kz.p):P:=h ⟨k⟩
theorem znd (h:ZW Q->P:=by intro Kz;exact VO (enc:=ik) (m:=2) (t:=240) (xs:=(cx T c.author c.path)) (v:=λs=>.tuple #[.agg #[s],ab e]) (first:=[]) (cap:=[]) rfl call154 rfl rfl rfl (λW hS=>by rw[<-Ly];exact nLg T aa W.heap.size ta tc W (aj _) (sS.to hS A0 (aj _) (λb off e=>by rcases iF b off e with h|h|h;(exact .inl h);(exact .inr zy);(exact .inr zy))) c.author tC c.path ow aa N c.pa c.pc (hC.path.up (aj _) hS.sm) cR gq aa) Kz.p):P:=h ⟨k⟩
theorem Bd (h:ZW Q->P:=by intro Kz;refine CX.seq ?_;exact CX.region Kz.p):P:=h ⟨k⟩
theorem Qi (h:ZW Q->P:=by intro Kz;exact rv rfl rfl rfl (AE rfl rfl aa aa) Kz.p):P:=h ⟨k⟩
theorem zqd (h:ZW Q->P:=by intro Kz;refine DJ.one (n:=27) rfl zN ?_;exact nH (enc:=cZ) (m:=32) (t:=33) (xs:=JG x) (v:=id) (first:=[]) (cap:=[]) rfl call73 rfl rfl rfl yj (λW hS=>nRe x hx.few N W cR (hA.up (aj _) hS.sm)) Kz.p):P:=h ⟨k⟩
theorem zrd (h:ZW Q->P:=by intro Kz;exact CJ.lp (α:=Nat×Nat) [2,8,9,10,17,14,15] (λp=>[(18,.int .u64 (p.1:Int)),(16,.int .u64 (p.2:Int))]) (λp=>[]) (λp=>ue r1 y1 y0 v0 p.1 p.2) (λp=>p.1) (r1/y1,r1%y1) d2 Kz.p):P:=h ⟨k⟩
theorem zsd (h:ZW Q->P:=by intro Kz;exact ny (α:=Gv) (v:=λXn=>.tuple #[.agg (bJ Xn),ab e]) (Φ:=λW Xn w1=>Xn.g=yi Z (g0 fo) c/\cj w1.heap.size w1 Xn/\(∀q,Xn.ma=some q->W.heap.size<=q.block)/\(∀q,Xn.na=some q->W.heap.size<=q.block)) call83 rfl rfl rfl (λW hS=>by rw[<-he];exact nxd hZ (g0v fo) c (dG c Dy) N W cR (SD fo N W) ((hC c Dy).up (aj _) hS.sm) (hg.old hS A2 zF zD)) Kz.p):P:=h ⟨k⟩
theorem ztd (h:ZW Q->P:=by intro Kz;exact ny (α:=Option Addr×Nat) (v:=λq=>.agg #[.slice q.1 T.length q.2]) (Φ:=λW q w1=>ai fZ 2 w1.heap.size w1 q.1 T/\∀b off,q.1=some ⟨b,off,none⟩->T=[]\/b<N\/W.heap.size<=b) call140 rfl rfl rfl (λW hS=>by rw[<-hT];exact nAc G N W cR (hG.up (aj _) hS.sm) c.chs aa c.ca c.cc (hC.chs.up (aj _) hS.sm) yS lA) Kz.p):P:=h ⟨k⟩
theorem zud (h:ZW Q->P:=by intro Kz;exact call call111 rfl rfl rfl (λW hS=>by rw[<-iF];exact nLb ns hn N a cp W cR (aI.up (aj _) hS.sm)) (v:=ab 0) Kz.p):P:=h ⟨k⟩
theorem zvd (h:ZW Q->P:=by intro Kz;exact nZi (ev:=ab) (kv:=dq ns) (v:=id) call67 rfl rfl rfl (λW hS=>nse ns hn N a cp W cR (aI.up (aj _) hS.sm)) Kz.p):P:=h ⟨k⟩
theorem zwd (h:ZW Q->P:=by intro Kz;exact rv rfl rfl rfl (bC underlying43 sizeOf63 (congrArg (λq=>some (Value.slice q pls.length cp)) ez) rfl aa aa) Kz.p):P:=h ⟨k⟩
theorem DG (h:ZW Q->P:=by intro Kz;exact du (.agg (dg p.x.g.last)) Kz.p):P:=h ⟨k⟩
theorem zyd (h:ZW Q->P:=by intro Kz;refine PJ.dj ?_;refine DJ.one (n:=28) rfl zN ?_;exact call (v:=.bool true) call72 rfl rfl rfl (λW hS=>by have h9:=nBf (JG x) (by have:=hx.few;unfold JG;rw[eK];omega) W.heap.size a7 Dm W (aj _) (ko.up (hS.links wk7 A0).size (hS.same A0 (aj _) zF trivial));rw[show Hj (JG x)=true by simpa using k4]at h9;exact h9) Kz.p):P:=h ⟨k⟩
theorem zzd (h:ZW Q->P:=by intro Kz;exact nsj (i:=0) (γ:=Mp) (v:=λ_=>.tuple #[]) (ob:=λm=>m.obj ab (iu (((dx d).take i).foldl iw (iw (dq ns) (512+d))) n)) (Φ:=λm=>m.Ok (iu (((dx d).take i).foldl iw (iw (dq ns) (512+d))) n)) (first:=[.map (some bf)]) (cap:=[]) rfl rfl call113 rfl rfl rfl (λW hS hW=>n8d bf mi zf n W hW) Kz.p):P:=h ⟨k⟩
theorem zAd (h:ZW Q->P:=by intro Kz;exact call call75 rfl rfl rfl (λW hS=>by have h9:=n1c hZ (lE G.g c.author c.chs) c.sr c.ss (cM (oF Z c)) bm 0 32 (by rw[nS];decide) W (cC.dg (hS.old A0 o9 zH zy) (hZ.byt _ _)) (hg.old hS A5 zF zD);rw[nS,show pD Z (lE G.g c.author c.chs) (cM (oF Z c)) c.sr c.ss=true from Js]at h9;exact h9) (v:=.bool true) Kz.p):P:=h ⟨k⟩
theorem zBd (h:ZW Q->P:=by intro Kz;exact CJ.lp (α:=Mp×Nat) [6,7,12,53,54] (λp=>[(55,ab (p.2:Int))]) (λp=>[(bf,p.1.obj ab (((dx d).take p.2).foldl iw (iw (dq ns) (512+d))))]) (λp=>p.2<=(dx d).length/\p.1.Ok (((dx d).take p.2).foldl iw (iw (dq ns) (512+d)))) (λp=>(dx d).length-p.2) (m1,0) ⟨cO _,cN⟩ Kz.p):P:=h ⟨k⟩
theorem zDd (h:ZW Q->P:=by intro Kz;exact C3 (f:=f) (cap:=cap) rfl aB rfl rfl rfl (λW hS=>hp j x hx W ((hS.links w A0).mono (λk _ hk=>by rcases hk with hk|hk;(exact hk);(simp only[dP,fu,dA,eh,cd,dZ,or_false]at hk;first|exact hk|(rcases hk with hk|hk;(exfalso;omega);exact hk)))) (by have:=hS.lt (b,_) A1;exact this)) Kz.p):P:=h ⟨k⟩
theorem zEd (h:ZW Q->P:=by intro Kz;exact nH (enc:=aA) (m:=1) (t:=3) (xs:=dx d) (v:=λs=>.tuple #[s,ab 0]) (first:=[]) (cap:=[]) rfl call112 rfl rfl rfl nz (λW hS=>n0f d hd W) Kz.p):P:=h ⟨k⟩
theorem zFd (h:ZW Q->P:=by intro Kz;exact CJ.loop (α:=Nat) (λi=>[(2,ptr b2 0),(53,.agg (tw n m (iq n)).cells),(54,ab (i:Int))]) (λi=>[(rI,oC (cf 128 (rH n m j N)) 5),(b3,oC (tw n m (iq n)).cells 374),(b2,oC (lk (tw n m (iq n)) i) 33)]) (λi=>[w]) (λi=>Gh.no) (λi=>i<=8) (λi=>8-i) 0 zz zR rfl rfl zI Kz.p):P:=h ⟨k⟩
theorem zGd (h:ZW Q->P:=by intro Kz;exact CJ.lp (α:=Nat) [0,1,2,3,8] (λj=>[]) (λj=>[]) (λj=>True) (λj=>0) 0 True.intro Kz.p):P:=h ⟨k⟩
theorem zHd (h:ZW Q->P:=by intro Kz;exact CJ.lp (α:=Nat) [0,1,2,3,4] (λj=>[]) (λj=>[]) (λj=>True) (λj=>0) 0 True.intro Kz.p):P:=h ⟨k⟩
theorem zId (h:ZW Q->P:=by intro Kz;refine rq (.int .u64 ((8*n:Nat):Int)) (AE rfl rfl aa aa) (vu aa) ?_;exact XK (f:=234) (i:=0) (first:=[]) (cap:=[]) rfl rfl call234 rfl rfl rfl (λW hS hW=>nre (8*n) rI _ 8 _ _ _ aa (by rw[nle,Ec];omega) W hW) Kz.p):P:=h ⟨k⟩
theorem zJd (h:ZW Q->P:=by intro Kz;exact cA (.inl rfl) results149 bD A1 zA Kz.p):P:=h ⟨k⟩
theorem zKd (h:ZW Q->P:=by intro Kz;exact rq (.int .u64 ((r1%y1:Nat):Int)) (uO rfl rfl aa aa) (vu (nYh _ _ _ _ d2.eq)) Kz.p):P:=h ⟨k⟩
theorem NB (h:ZW Q->P:=by intro Kz;exact cA (.inl rfl) results14 bD A2 z1 Kz.p):P:=h ⟨k⟩
theorem zMd (h:ZW Q->P:=by intro Kz;refine rv rfl rfl rfl (bC underlying89 sizeOf92 (congrArg (λq=>some (Value.slice q pls.length yt)) WX) rfl aa aa) ?_;exact rq (.agg (kV p)) (lI isAgg92 sizeOf92 rfl AM (de WY hp rfl)) (va (dY WY hp rfl)) Kz.p):P:=h ⟨k⟩
theorem zNd (h:ZW Q->P:=by intro Kz;exact rq (.slice (some ⟨b2,4*i,none⟩) 4 (32-4*i)) (Eb (l:=4*i) (h:=4*i+4) (off':=4*i) underlying33 sizeOf5 rfl ⟨_,_,rfl,by omega⟩ ⟨_,_,rfl,by omega⟩ aa aa zCc) (by rw[show 4*i+4-4*i=4 by omega]) Kz.p):P:=h ⟨k⟩
theorem XD (h:ZW Q->P:=by intro Kz;exact rv rfl rfl rfl (IG rfl rfl aa aa) Kz.p):P:=h ⟨k⟩
theorem zPd (h:ZW Q->P:=by intro Kz;exact rq (.int .u64 ((r1/y1:Nat):Int)) (yE rfl rfl aa aa aa) (vu (nHe r1 y1)) Kz.p):P:=h ⟨k⟩
theorem zQd (h:ZW Q->P:=by intro Kz;exact nsj (i:=0) (γ:=Mp) (v:=λ_=>.tuple #[]) (ob:=λm=>m.obj ab (iu (dq ns) (512+d))) (Φ:=λm=>m.Ok (iu (dq ns) (512+d))) (first:=[.map (some bf)]) (cap:=[]) rfl rfl call113 rfl rfl rfl (λW hS hW=>n8d bf m hm (512+d) W hW) Kz.p):P:=h ⟨k⟩
theorem zRd (h:ZW Q->P:=by intro Kz;exact ny (α:=Nat) (v:=λb:Nat=>.slice (ao b) 11 11) (Φ:=λ(W:World) (b:Nat) (w1:World)=>W.heap.size<=b/\fy w1.heap.size w1 (.list (oD c)) (vL (ao b) 11 11)) call45 rfl rfl rfl (λW hS=>nfd c dG.few N W cR (hC.up (aj _) hS.sm)) Kz.p):P:=h ⟨k⟩
theorem Ve (h:ZW Q->P:=by intro Kz;exact rv rfl rfl rfl (jo 32 4294967296 zz rfl rfl rfl) Kz.p):P:=h ⟨k⟩
theorem zTd (h:ZW Q->P:=by intro Kz;refine PJ.reH (H':=[(rI,oC (cf 128 (rH n m j N)) 5),(b3,oC (tw n m (iq n)).cells 374),(b2,oC (lk (tw n m (iq n)) 8) 33)]) rfl ?_;exact cA (.inl rfl) results164 (RS.wA (i:=2) rfl isAgg33 sizeOf33 rfl (by rw[lk,Ec];omega) RS.n) A0 zP Kz.p):P:=h ⟨k⟩
theorem zUd (h:ZW Q->P:=by intro Kz;exact cA (.inl rfl) results111 bD A2 zA Kz.p):P:=h ⟨k⟩
theorem zVd (h:ZW Q->P:=by intro Kz;exact call call65 rfl rfl rfl (λW hS=>by rw[<-he];exact nP _ W) (v:=ab e) Kz.p):P:=h ⟨k⟩
theorem zWd (h:ZW Q->P:=by intro Kz;exact nHi (ev:=ab) (kv:=mW (dq ns) d) (enc:=aA) (n:=1) (ds:=dx d) (v:=λmp s=>.tuple #[mp,s,ab 0]) call64 rfl rfl rfl (λW hS=>nof ns hn N a cp W cR (aI.up (aj _) hS.sm) iF d hd false (λh=>by cases h)) Kz.p):P:=h ⟨k⟩
theorem zXd (h:ZW Q->P:=by intro Kz;exact nHi (ev:=ab) (kv:=mW (dq ns) d) (enc:=aA) (n:=1) (ds:=dx d) (v:=λmp s=>.tuple #[mp,s,ab 0]) call64 rfl rfl rfl (λW hS=>nof ns hn N a cp W cR (aI.up (aj _) hS.sm) iF d hd true (λ_=>kL)) Kz.p):P:=h ⟨k⟩
theorem zYd (h:ZW Q->P:=by intro Kz;exact rr (.slice p.c.pa p.c.path.length p.c.pc) (ar (v:=.slice p.c.pa p.c.path.length p.c.pc) isAgg55 rfl A0 WY zH zy (by have:=uA (enc:=pY) (n:=111) zl hp rfl 36 zz;exact this)) Kz.p):P:=h ⟨k⟩
theorem zZd (h:ZW Q->P:=by intro Kz;exact nH (enc:=dX) (m:=35) (t:=35) (xs:=(r.fs Z dv)) (v:=id) (first:=[]) (cap:=[]) rfl call11 rfl rfl rfl nv (λW hS=>nxg hZ r hr N W cR (hrA.up (aj _) hS.sm) (hg.old hS A2 zF trivial) dv) Kz.p):P:=h ⟨k⟩
theorem z0d (h:ZW Q->P:=by intro Kz;exact rq (.int .u64 (r1:Int)) (vV rfl rfl) (vu zlb) Kz.p):P:=h ⟨k⟩
theorem O9 (h:ZW Q->P:=by intro Kz;exact qo hT rfl rfl rfl (pQ rfl) Kz.p):P:=h ⟨k⟩
theorem z2d (h:ZW Q->P:=by intro Kz;exact kp underlying72 sizeOf33 zeroValue33 rfl rfl rfl rfl rfl rfl rfl Kz.p):P:=h ⟨k⟩
theorem z3d (h:ZW Q->P:=by intro Kz;refine rq (ptr b4 j) (uX underlying426 sizeOf303 rfl rfl aa aa) (congrArg (ptr b4) aa) ?_;exact kT (i:=0) rfl sizeOf303 rfl rfl rfl rfl (by rw[Ec];omega) rfl Kz.p):P:=h ⟨k⟩
theorem z4d (h:ZW Q->P:=by intro Kz;exact rv rfl rfl rfl (ar (v:=ab n) isAgg3 rfl A0 zg zH zy zOc) Kz.p):P:=h ⟨k⟩
theorem z5d (h:ZW Q->P:=by intro Kz;exact XK (f:=234) (i:=2) (first:=[]) (cap:=[]) rfl rfl call234 rfl rfl rfl (λW hS hW=>nre (S8.at (tw n m (iq n)) i).toNat b2 (4*i) _ _ _ _ aa (by rw[lk,Ec];omega) W hW) Kz.p):P:=h ⟨k⟩
theorem z6d (h:ZW Q->P:=by intro Kz;exact rq (.bool ((aH (wT (eu ns)) x.at_).getD false)) (ov (ev:=Value.bool) underlying307 underlying3 zeroValue4 hm (bF.own (i:=1) rfl) rfl rfl) (nlk _) Kz.p):P:=h ⟨k⟩
theorem z7d (h:ZW Q->P:=by intro Kz;exact call call87 rfl rfl rfl (λW hS=>by rw[<-lD];exact nWh hZ s hs0 (V.list l).enc aa fN 0 Jd y4.le W (cC.row (hS.own _ A0)) (hg.old hS A0 zF zD)) (v:=.agg (dg df)) Kz.p):P:=h ⟨k⟩
theorem z8d (h:ZW Q->P:=by intro Kz;exact call call97 rfl rfl rfl (λW hS=>nLc _ W) Kz.p):P:=h ⟨k⟩
theorem z9d (h:ZW Q->P:=by intro Kz;exact cA (.inl rfl) results227 bD A1 zA Kz.p):P:=h ⟨k⟩
theorem zae (h:ZW Q->P:=by intro Kz;exact qo hT rfl rfl rfl (uo rfl) Kz.p):P:=h ⟨k⟩
theorem zbe (h:ZW Q->P:=by intro Kz;exact call call38 rfl rfl rfl (λW hS=>nCm pls gq N pa pc _ W cR (gW.up (aj _) hS.sm)) Kz.p):P:=h ⟨k⟩
theorem zce (h:ZW Q->P:=by intro Kz;exact call call221 rfl rfl rfl (λW hS=>ncf (VX G.g.epoch) 218 [ptr b1 0] call218 G.g.ms vZ N G.ma G.mc W cR (hG.ms.up (aj _) hS.sm) (λj x hx W2 hB=>nVn G b1 x W2 zAc)) Kz.p):P:=h ⟨k⟩
theorem zde (h:ZW Q->P:=by intro Kz;exact PJ.reH (H':=[(rI,oC (cf 128 (rH n m j N)) 5),(b3,oC (tw n m (iq n)).cells 374),(b2,oC (lk (tw n m (iq n)) (i+1)) 33)]) (by rw[<-nVk _ i aa];rfl) Kz.p):P:=h ⟨k⟩
theorem zee (h:ZW Q->P:=by intro Kz;exact rq (ab ((n:Nat):Int)) (pQ rfl) ((congrArg ab aa)) Kz.p):P:=h ⟨k⟩
theorem zfe (h:ZW Q->P:=by intro Kz;exact call call196 rfl rfl rfl (λW hS=>nSc l hxl N a cp W cR (aI.up (aj _) hS.sm)) Kz.p):P:=h ⟨k⟩
theorem zge (h:ZW Q->P:=by intro Kz;refine du (.agg (dg G.g.last)) ?_;exact rq bH (dV nO zz nF rfl rfl rfl) (congrArg (λb=>Value.bool (!b)) (by simpa using k2)) Kz.p):P:=h ⟨k⟩
theorem zhe (h:ZW Q->P:=by intro Kz;refine rv rfl rfl rfl (eG (i:=2) rfl isAgg33 sizeOf33 rfl (by rw[lk,Ec])) ?_;exact jN (i:=2) rfl sizeOf33 rfl rfl rfl zrc (by rw[lk,Ec]) rfl Kz.p):P:=h ⟨k⟩
theorem zie (h:ZW Q->P:=by intro Kz;exact CJ.lp (α:=Nat) [0,1] (λj=>[(5,ab (j:Int))]) (λj=>[]) (λj=>j<=xs.length/\Al xs ys j) (λj=>xs.length-j) 0 ⟨cO _,rfl⟩ Kz.p):P:=h ⟨k⟩
theorem zje (h:ZW Q->P:=by intro Kz;exact nrk (ys:=(V.list l).enc) call85 rfl rfl rfl (λW hS=>nOe l ee hd jt N (ao bl) lc W (eB hN (hS.links _ A0).size) (fy.up (aj _) hS.sm _ _ xS)) Kz.p):P:=h ⟨k⟩
theorem zke (h:ZW Q->P:=by intro Kz;exact call call106 rfl rfl rfl (λW hS=>ntg 0 zz zz W) Kz.p):P:=h ⟨k⟩
theorem zle (h:ZW Q->P:=by intro Kz;exact rq (.agg (vg x)) (dt isAgg114 sizeOf114 rfl A1 bX Bl z2 (de aR hx rfl)) (va (dY aR hx rfl)) Kz.p):P:=h ⟨k⟩
theorem zme (h:ZW Q->P:=by intro Kz;refine du (.agg (rdA r)) ?_;exact call (v:=.bool true) call8 rfl rfl rfl (λW hS=>by rw[<-hf];exact nGj r hlm N W cR (hrA.up (aj _) hS.sm)) Kz.p):P:=h ⟨k⟩
theorem zne (h:ZW Q->P:=by intro Kz;exact call call86 rfl rfl rfl (λW hS=>ZA _ _ _ W) Kz.p):P:=h ⟨k⟩
theorem zoe (h:ZW Q->P:=by intro Kz;exact VO (enc:=ik) (m:=2) (t:=240) (xs:=[]) (v:=λs=>.agg #[s]) (first:=[]) (cap:=[]) rfl call66 rfl rfl rfl (λW hS=>nCf W) Kz.p):P:=h ⟨k⟩
theorem zpe (h:ZW Q->P:=by intro Kz;exact cA (.inl rfl) results197 bD A2 zA Kz.p):P:=h ⟨k⟩
theorem zqe (h:ZW Q->P:=by intro Kz;exact rv rfl rfl rfl (RW underlying106 underlying5 underlying9 rfl A0 hb (λb dz=>⟨λh=>h,by simp only[bN,and_true];omega⟩)) Kz.p):P:=h ⟨k⟩
theorem zre (h:ZW Q->P:=by intro Kz;refine aL results65 rfl A0 ?_;exact congrArg ab Kz.p):P:=h ⟨k⟩
theorem zse (h:ZW Q->P:=by intro Kz;exact call call31 rfl rfl rfl (λW hS=>nsd _ _ W) Kz.p):P:=h ⟨k⟩
theorem zte (h:ZW Q->P:=by intro Kz;exact call call254 rfl rfl rfl (λW hS=>nwg _ _ _ aa aa aa aa aa W) Kz.p):P:=h ⟨k⟩
theorem zue (h:ZW Q->P:=by intro Kz;exact kp underlying138 sizeOf142 zeroValue142 rfl rfl rfl rfl rfl rfl rfl Kz.p):P:=h ⟨k⟩
theorem zve (h:ZW Q->P:=by intro Kz;exact rJ underlying134 sizeOf200 zeroValue200 rfl rfl rfl rfl rfl rfl rfl Kz.p):P:=h ⟨k⟩
theorem zwe (h:ZW Q->P:=by intro Kz;refine call call148 rfl rfl rfl (λW hS=>by rw[<-hv];exact nR G N W cR (hG.up (aj _) hS.sm)) (v:=.bool false) ?_;exact du cD Kz.p):P:=h ⟨k⟩
theorem zxe (h:ZW Q->P:=by intro Kz;exact call call29 rfl rfl rfl (λW hS=>nPe _ W) Kz.p):P:=h ⟨k⟩
theorem zye (h:ZW Q->P:=by intro Kz;exact call call18 rfl rfl rfl (λW hS=>nkd _ W) Kz.p):P:=h ⟨k⟩
theorem zze (h:ZW Q->P:=by intro Kz;exact rv rfl rfl rfl (gd (h:=32) underlying33 sizeOf5 rfl rfl aa) Kz.p):P:=h ⟨k⟩
theorem zAe (h:ZW Q->P:=by intro Kz;exact kp underlying89 sizeOf92 zeroValue92 rfl rfl rfl rfl rfl rfl rfl Kz.p):P:=h ⟨k⟩
theorem zBe (h:ZW Q->P:=by intro Kz;exact kp underlying75 sizeOf53 zeroValue53 rfl rfl rfl rfl rfl rfl rfl Kz.p):P:=h ⟨k⟩
theorem zCe (h:ZW Q->P:=by intro Kz;refine CX.ret ?_;refine PX.retBlock ?_;refine PX.retThen ?_;refine PX.retThen ?_;refine PX.retBlock ?_;exact PX.retThen Kz.p):P:=h ⟨k⟩
theorem zDe (h:ZW Q->P:=by intro Kz;exact jN (i:=1) rfl sizeOf51 rfl rfl rfl rfl rfl (Rw.val_one2 _ _) Kz.p):P:=h ⟨k⟩
theorem zEe (h:ZW Q->P:=by intro Kz;exact jN (i:=0) rfl sizeOf51 rfl rfl rfl rfl rfl (Rw.val_one2 _ _) Kz.p):P:=h ⟨k⟩
theorem zFe (h:ZW Q->P:=by intro Kz;exact rv rfl rfl rfl (rB 32 4294967296 zz rfl rfl rfl rfl aa aa) Kz.p):P:=h ⟨k⟩
theorem zGe (h:ZW Q->P:=by intro Kz;exact nB (dF hM (λ_=>False) (hI [] _)) [] (vs:=[_,_]) func193 rfl ntmps193 rfl (Oi hM (hI [] _) h0 zI (by simp[lS]) zI) Kz.p):P:=h ⟨k⟩
theorem Wj (h:ZW Q->P:=by intro Kz;exact PJ.dropAt (i:=0) rfl sU Kz.p):P:=h ⟨k⟩
theorem zIe (h:ZW Q->P:=by intro Kz;exact du (.agg #[.slice fa fos.length fc,o1,.slice la cs.length lc,.slice ga gs.length gc,.slice ia xs.length ic,o5,o6,o7]) Kz.p):P:=h ⟨k⟩
theorem zJe (h:ZW Q->P:=by intro Kz;exact call call111 rfl rfl rfl (λW hS=>by rw[<-iF];exact nLb ns hn N a cp W cR (aI.up (aj _) hS.sm)) (v:=ab 210) Kz.p):P:=h ⟨k⟩
theorem XT (h:ZW Q->P:=by intro Kz;exact rv rfl rfl rfl (U5 rfl rfl) Kz.p):P:=h ⟨k⟩
theorem zLe (h:ZW Q->P:=by intro Kz;exact du (.slice p.c.wa p.c.wes.length p.c.wc) Kz.p):P:=h ⟨k⟩
theorem zMe (h:ZW Q->P:=by intro Kz;exact rv rfl rfl rfl (AE rfl rfl aa zDc) Kz.p):P:=h ⟨k⟩
theorem zNe (h:ZW Q->P:=by intro Kz;exact CJ.reH (H':=[(vJ,bj dX 35 [nj (dk p.x.g.last) 9] []),(b3,oC (dg p.x.g.last) 33),(b2,oC #[yv l] 145)]) zUb Kz.p):P:=h ⟨k⟩
theorem zOe (h:ZW Q->P:=by intro Kz;exact rv rfl rfl rfl (gy (l:=64) (h:=N-64*k) underlying106 sizeOf5 rfl ⟨_,_,rfl,rfl⟩ rfl aa aa rfl) Kz.p):P:=h ⟨k⟩
theorem zPe (h:ZW Q->P:=by intro Kz;exact kT (i:=1) rfl sizeOf285 rfl rfl rfl rfl (er rfl) rfl Kz.p):P:=h ⟨k⟩
theorem zQe (h:ZW Q->P:=by intro Kz;exact kT (i:=1) rfl sizeOf106 rfl rfl rfl rfl (er rfl) rfl Kz.p):P:=h ⟨k⟩
theorem zRe (h:ZW Q->P:=by intro Kz;exact kT (i:=0) rfl sizeOf348 rfl rfl rfl rfl (er rfl) rfl Kz.p):P:=h ⟨k⟩
theorem zSe (h:ZW Q->P:=by intro Kz;exact call call197 rfl rfl rfl (λW hS=>n6e G N W cR (hG.up (aj _) hS.sm) l hxl a cp (aI.up (aj _) hS.sm) au) Kz.p):P:=h ⟨k⟩
theorem zTe (h:ZW Q->P:=by intro Kz;exact rv rfl rfl rfl (ri (ev:=ab) underlying165 underlying3 zeroValue3 hm (bF.own (i:=0) rfl) rfl rfl) Kz.p):P:=h ⟨k⟩
theorem zUe (h:ZW Q->P:=by intro Kz;exact kT (i:=0) rfl sizeOf3 rfl rfl rfl rfl (er rfl) rfl Kz.p):P:=h ⟨k⟩
theorem zVe (h:ZW Q->P:=by intro Kz;exact call call180 rfl rfl rfl (λW hS=>n5f _ aa aa W) Kz.p):P:=h ⟨k⟩
theorem zWe (h:ZW Q->P:=by intro Kz;exact cA (.inl rfl) results196 bD A0 zA Kz.p):P:=h ⟨k⟩
theorem zXe (h:ZW Q->P:=by intro Kz;exact call (v:=.tuple #[ab pv,ab 0]) call79 rfl rfl rfl (λW hS=>by rw[<-hpv];exact nuh hZ zz W) Kz.p):P:=h ⟨k⟩
theorem zYe (h:ZW Q->P:=by intro Kz;refine du (.agg (wrA x.w)) ?_;exact call call71 rfl rfl rfl (λW hS=>nEe x.w W) (v:=ab (zq x.w)) Kz.p):P:=h ⟨k⟩
theorem zZe (h:ZW Q->P:=by intro Kz;refine du (.agg (kV (⟨d.c,decide (j=0),aQ gj.g.ns d.c.chs,q1,q2,d.x⟩:Pl))) ?_;exact zG Kz.p):P:=h ⟨k⟩
theorem z0e (h:ZW Q->P:=by intro Kz;refine CX.condF rfl ?_;refine CX.exit ?_;refine PX.exThen ?_;refine PX.exThen ?_;exact PX.exHit Kz.p):P:=h ⟨k⟩
theorem z1e (h:ZW Q->P:=by intro Kz;exact rv rfl rfl rfl (uV underlying374 isAgg303 sizeOf303 rfl rfl aa aa (S8.cells_ld _ i _ aa aa)) Kz.p):P:=h ⟨k⟩
theorem z2e (h:ZW Q->P:=by intro Kz;exact du (.slice r.ga r.gs.length r.gc) Kz.p):P:=h ⟨k⟩
theorem z3e (h:ZW Q->P:=by intro Kz;exact qo hT rfl rfl rfl (RV.re (v':=bH) (BG rfl rfl) (vb (decide_eq_false aa))) Kz.p):P:=h ⟨k⟩
theorem z4e (h:ZW Q->P:=by intro Kz;exact qo hT rfl rfl rfl (RV.re (v':=cD) (BG rfl rfl) (vb (decide_eq_true aa))) Kz.p):P:=h ⟨k⟩
theorem z5e (h:ZW Q->P:=by intro Kz;exact call call64 rfl rfl rfl (λW hS=>nUk ns hn N a cp W cR (aI.up (aj _) hS.sm) iF d hd sR) Kz.p):P:=h ⟨k⟩
theorem z6e (h:ZW Q->P:=by intro Kz;exact call call194 rfl rfl rfl (λW hS=>nme [a,b] _ _ _ _ _ rfl zI W (hS.old A0 hb8 hm8 trivial)) Kz.p):P:=h ⟨k⟩
theorem z7e (h:ZW Q->P:=by intro Kz;refine PJ.dj ?_;refine DJ.one (n:=29) rfl zN ?_;refine B 2 ?_;refine PJ.dj ?_;refine DJ.one (n:=30) rfl zN ?_;refine B 2 ?_;refine PJ.dj ?_;refine DJ.one (n:=31) rfl zN ?_;refine B 2 ?_;exact PJ.dj Kz.p):P:=h ⟨k⟩
theorem uI (h:ZW Q->P:=by intro Kz;refine qD ?_;exact qD Kz.p):P:=h ⟨k⟩
theorem Zu (h:ZW Q->P:=by intro Kz;refine B 6 ?_;refine du (.agg (bJ G)) ?_;refine call call148 rfl rfl rfl (λW hS=>by rw[<-hv];exact nR G N W cR (hG.up (aj _) hS.sm)) (v:=.bool true) ?_;exact du bH Kz.p):P:=h ⟨k⟩
theorem Jr (h:ZW Q->P:=by intro Kz;refine du cD ?_;exact B 11 Kz.p):P:=h ⟨k⟩
theorem zbf (h:ZW Q->P:=by intro Kz;refine rv rfl rfl rfl (kX rfl rfl) ?_;refine z0d ?_;refine B 7 ?_;refine zPd ?_;refine B 8 ?_;refine Qi ?_;refine zKd ?_;refine B 5 ?_;exact zrd Kz.p):P:=h ⟨k⟩
theorem zcf (h:ZW Q->P:=by intro Kz;refine B 1 ?_;refine nRb rfl ?_;exact B 4 Kz.p):P:=h ⟨k⟩
theorem Lu (h:ZW Q->P:=by intro Kz;refine eN func83 ntmps83 ?_;exact B 3 Kz.p):P:=h ⟨k⟩
theorem zef (h:ZW Q->P:=by intro Kz;exact rv rfl rfl rfl (vS underlying233 underlying5 rfl aa aa) Kz.p):P:=h ⟨k⟩
theorem zff (h:ZW Q->P:=by intro Kz;refine DJ.done ?_;refine B 9 ?_;exact aL results39 rfl A4 Kz.p):P:=h ⟨k⟩
theorem zgf (h:ZW Q->P:=by intro Kz;refine z4e ?_;refine Gf ?_;refine CX.seq ?_;refine CX.condT rfl ?_;refine CX.skip ?_;refine PX.next ?_;refine CX.seq ?_;refine CX.block ?_;exact Bd Kz.p):P:=h ⟨k⟩
theorem zhf (h:ZW Q->P:=by intro Kz;refine du (.agg (cP c)) ?_;exact call call149 rfl rfl rfl (λW hS=>by rw[<-kD];exact nwb c dG.few N W cR (hC.up (aj _) hS.sm)) (v:=ab 0) Kz.p):P:=h ⟨k⟩
theorem zif (h:ZW Q->P:=by intro Kz;refine zmd ?_;refine call (v:=.bool true) call69 rfl rfl rfl (λW hS=>Tt (nQn a0 W)) ?_;exact B 10 Kz.p):P:=h ⟨k⟩
theorem Bm (h:ZW Q->P:=by intro Kz;refine B 2 ?_;exact PJ.dj Kz.p):P:=h ⟨k⟩
theorem zkf (h:ZW Q->P:=by intro Kz;refine B 8 ?_;refine du bH ?_;refine B 3 ?_;refine du bH ?_;refine B 18 ?_;refine Jr ?_;exact z9d Kz.p):P:=h ⟨k⟩
theorem xW (h:ZW Q->P:=by intro Kz;refine B 7 ?_;exact qD Kz.p):P:=h ⟨k⟩
theorem OL (h:ZW Q->P:=by intro Kz;refine B 5 ?_;refine KX ?_;exact B 1 Kz.p):P:=h ⟨k⟩
theorem Oc (h:ZW Q->P:=by intro Kz;refine B 6 ?_;exact aL results180 rfl A0 Kz.p):P:=h ⟨k⟩
theorem QK (h:ZW Q->P:=by intro Kz;refine B 13 ?_;exact du cD Kz.p):P:=h ⟨k⟩
theorem zpf (h:ZW Q->P:=by intro Kz;refine Gf ?_;refine CX.condF rfl ?_;refine CX.skip ?_;refine PX.norBlock ?_;refine PX.next ?_;exact CX.region Kz.p):P:=h ⟨k⟩
theorem zqf (h:ZW Q->P:=by intro Kz;refine Zu ?_;refine B 9 ?_;refine zfe ?_;exact rq bH (kq rfl) (by rw[hf];rfl) Kz.p):P:=h ⟨k⟩
theorem zrf (h:ZW Q->P:=by intro Kz;refine call call253 rfl rfl rfl (λW hS=>n2i _ _ aa aa aa aa W) ?_;refine B 11 ?_;exact zte Kz.p):P:=h ⟨k⟩
theorem zsf (h:ZW Q->P:=by intro Kz;refine B 1 ?_;refine PJ.dj ?_;refine DJ.one (n:=8) rfl zN ?_;refine Bm ?_;refine DJ.one (n:=9) rfl zN ?_;exact Bm Kz.p):P:=h ⟨k⟩
theorem wX (h:ZW Q->P:=by intro Kz;refine du bH ?_;exact B 7 Kz.p):P:=h ⟨k⟩
theorem zd (h:ZW Q->P:=by intro Kz;refine B 8 ?_;exact uI Kz.p):P:=h ⟨k⟩
theorem OI (h:ZW Q->P:=by intro Kz;refine B 2 ?_;exact Kk rfl rfl rfl Kz.p):P:=h ⟨k⟩
theorem zwf (h:ZW Q->P:=by intro Kz;refine rq cD (kZ rfl rfl) (vb (decide_eq_true zgc)) ?_;refine B 6 ?_;exact kT (i:=2) rfl sizeOf51 rfl rfl rfl rfl (er rfl) rfl Kz.p):P:=h ⟨k⟩
theorem zxf (h:ZW Q->P:=by intro Kz;refine du cD ?_;refine B 4 ?_;refine du cD ?_;refine B 3 ?_;refine du cD ?_;refine B 3 ?_;refine rv rfl rfl rfl (yY rfl rfl) ?_;exact B 3 Kz.p):P:=h ⟨k⟩
theorem Zi (h:ZW Q->P:=by intro Kz;refine B 5 ?_;exact du (.agg (bJ G)) Kz.p):P:=h ⟨k⟩
theorem Sx (h:ZW Q->P:=by intro Kz;refine zae ?_;exact Gf Kz.p):P:=h ⟨k⟩
theorem zAf (h:ZW Q->P:=by intro Kz;refine OL ?_;exact call call64 rfl rfl rfl (λW hS=>nEg ns hn N a cp W cR (aI.up (aj _) hS.sm) iF d true) Kz.p):P:=h ⟨k⟩
theorem zBf (h:ZW Q->P:=by intro Kz;refine DJ.one (n:=35) rfl zN ?_;refine Bm ?_;refine DJ.one (n:=36) rfl zN ?_;exact Bm Kz.p):P:=h ⟨k⟩
theorem zCf (h:ZW Q->P:=by intro Kz;refine B 2 ?_;refine zMe ?_;refine B 1 ?_;refine Qi ?_;refine B 1 ?_;refine XD ?_;exact B 4 Kz.p):P:=h ⟨k⟩
theorem Ew (h:ZW Q->P:=by intro Kz;refine du bH ?_;exact B 6 Kz.p):P:=h ⟨k⟩
theorem LC (h:ZW Q->P:=by intro Kz;refine B 7 ?_;exact uI Kz.p):P:=h ⟨k⟩
theorem VR (h:ZW Q->P:=by intro Kz;refine du cD ?_;exact B 5 Kz.p):P:=h ⟨k⟩
theorem zGf (h:ZW Q->P:=by intro Kz;refine z3e ?_;refine Gf ?_;refine CX.seq ?_;refine z0e ?_;refine PX.next ?_;exact Bd Kz.p):P:=h ⟨k⟩
theorem zHf (h:ZW Q->P:=by intro Kz;refine DJ.one (n:=27) rfl zN ?_;refine Bm ?_;refine DJ.one (n:=28) rfl zN ?_;refine B 2 ?_;exact z7e Kz.p):P:=h ⟨k⟩
theorem zIf (h:ZW Q->P:=by intro Kz;refine rv rfl rfl rfl (kX rfl rfl) ?_;refine B 1 ?_;exact rv rfl rfl rfl (pZ rfl rfl) Kz.p):P:=h ⟨k⟩
theorem ZY (h:ZW Q->P:=by intro Kz;refine B 11 ?_;refine du bH ?_;exact B 17 Kz.p):P:=h ⟨k⟩
theorem zKf (h:ZW Q->P:=by intro Kz;refine KX ?_;refine zud ?_;exact B 6 Kz.p):P:=h ⟨k⟩
theorem zLf (h:ZW Q->P:=by intro Kz;refine du (.agg (bJ (⟨⟨G.g.folder,c.epoch,aC Z c,[],[]⟩,none,0,none,0⟩:Gv))) ?_;exact B 5 Kz.p):P:=h ⟨k⟩
theorem zMf (h:ZW Q->P:=by intro Kz;refine B 7 ?_;exact rv rfl rfl rfl (fM (h:=64) underlying106 sizeOf5 rfl ⟨_,_,rfl,rfl⟩ aa) Kz.p):P:=h ⟨k⟩
theorem YZ (h:ZW Q->P:=by intro Kz;refine du cD ?_;exact B 12 Kz.p):P:=h ⟨k⟩
theorem Dh (h:ZW Q->P:=by intro Kz;refine B 2 ?_;exact du bH Kz.p):P:=h ⟨k⟩
theorem zPf (h:ZW Q->P:=by intro Kz;refine DJ.one (n:=25) rfl zN ?_;refine Bm ?_;exact DJ.done Kz.p):P:=h ⟨k⟩
theorem VY (h:ZW Q->P:=by intro Kz;refine du (.agg (gM x)) ?_;exact B 1 Kz.p):P:=h ⟨k⟩
theorem zRf (h:ZW Q->P:=by intro Kz;refine B 5 ?_;refine du (.agg (dg x.g)) ?_;refine B 1 ?_;refine zge ?_;refine B 3 ?_;refine du (.slice x.ba x.body.length x.bc) ?_;exact B 1 Kz.p):P:=h ⟨k⟩
theorem Qm (h:ZW Q->P:=by intro Kz;refine B 10 ?_;exact du bH Kz.p):P:=h ⟨k⟩
theorem zTf (h:ZW Q->P:=by intro Kz;refine PJ.dj ?_;refine DJ.one (n:=23) rfl zN ?_;refine Bm ?_;refine DJ.one (n:=24) rfl zN ?_;refine Bm ?_;exact zPf Kz.p):P:=h ⟨k⟩
theorem zUf (h:ZW Q->P:=by intro Kz;refine B 2 ?_;refine zmd ?_;exact call (v:=.bool false) call69 rfl rfl rfl (λW hS=>Tt (Th a0 W)) Kz.p):P:=h ⟨k⟩
theorem zVf (h:ZW Q->P:=by intro Kz;refine du (.agg (qH x)) ?_;refine B 1 ?_;exact C3 (f:=264) (cap:=[]) rfl call264 rfl rfl rfl (λW hS=>nCl x d W) Kz.p):P:=h ⟨k⟩
theorem zWf (h:ZW Q->P:=by intro Kz;refine B 7 ?_;refine z1e ?_;refine B 10 ?_;refine zNd ?_;refine B 2 ?_;refine z5d ?_;refine B 7 ?_;exact zde Kz.p):P:=h ⟨k⟩
theorem Vg (h:ZW Q->P:=by intro Kz;refine du bH ?_;exact B 8 Kz.p):P:=h ⟨k⟩
theorem zYf (h:ZW Q->P:=by intro Kz;refine rv rfl rfl rfl (jr rfl rfl) ?_;refine B 1 ?_;exact kT (i:=0) rfl sizeOf303 rfl rfl rfl rfl (er rfl) rfl Kz.p):P:=h ⟨k⟩
theorem zZf (h:ZW Q->P:=by intro Kz;refine B 2 ?_;refine zIf ?_;refine B 2 ?_;exact zbf Kz.p):P:=h ⟨k⟩
theorem z0f (h:ZW Q->P:=by intro Kz;refine B 12 ?_;refine zke ?_;exact B 1 Kz.p):P:=h ⟨k⟩
theorem z1f (h:ZW Q->P:=by intro Kz;refine B 2 ?_;refine zmd ?_;exact call (v:=.bool false) call69 rfl rfl rfl (λW hS=>Tt zQc) Kz.p):P:=h ⟨k⟩
theorem z2f (h:ZW Q->P:=by intro Kz;refine du (.agg #[.slice ta (aQ xb.g.ns (d.c.chs.take q)).length tc]) ?_;refine B 1 ?_;exact du (ab x.dev) Kz.p):P:=h ⟨k⟩
theorem VT (h:ZW Q->P:=by intro Kz;refine zfd ?_;exact B 2 Kz.p):P:=h ⟨k⟩
theorem z4f (h:ZW Q->P:=by intro Kz;refine DG ?_;refine z8d ?_;exact B 1 Kz.p):P:=h ⟨k⟩
theorem z5f (h:ZW Q->P:=by intro Kz;refine B 1 ?_;refine PJ.dj ?_;refine DJ.one (n:=36) rfl zN ?_;refine Bm ?_;exact DJ.done Kz.p):P:=h ⟨k⟩
end
theorem z6f (h:P:=by first|exact nb (λh=>absurd h.fo cY)|exact nb (λh=>by have:=h.e1;omega)|exact nb (λh=>by have:=h.e2;omega)|exact nb (λh=>absurd h.au cY)|exact nb (λh=>absurd h.ch zZ)|exact nb (λh=>by have:=h.pl;omega)|exact nb (λh=>by have:=h.bl;omega)|exact nb (λh=>by have:=h.wl;omega)|exact nb (λh=>by have:=Jl.2 (h.path _ _ hy);omega)|exact nb (λh=>by have h9:=h.box _ _ hx;have h8:=h9.1;have h7:=nw.2 h9.2;omega)|exact nb (λh=>by have h9:=h.wel _ _ hx;exact h1 h9.1)|exact nb (λh=>by have h9:=h.wel _ _ hx;have h8:=nw.2 h9.2.2;omega)|exact nb (λh=>by have h9:=(h.wel _ _ hx).2.1 y aa hy;omega)|exact nrb ⟨by assumption,by omega,by omega,by assumption,by assumption,by omega,by omega,by omega,hA1,Zy,dR.all aa⟩):P:=h
theorem z7f (h:P:=by
  first|(have hD0:=hd.stop iV aa;obtain⟨q2,rfl⟩:∃q2,q2=q:=⟨_,rfl⟩)|(have hD0:=nxb aa aa bY da iV aa;generalize q-1=q2 at *)
  rw[Vf]at hD0
  obtain⟨r0,hr0⟩:∃z,(r1*2^32+v0)%Y=z:=⟨_,rfl⟩
  have aoS:r0<Y:=by rw[<-hr0];exact Nat.mod_lt _ aa
  have hz0:q2*Y+r0=r1*2^32+v0:=by have:=BV (r1*2^32+v0) Y;rw[hD0,hr0,I7]at this;exact this
  have cH:u*2^64+v=(q1*2^32+q2)*Y+r0:=by have:=n6b u v Y r1 zSb;rw[show v/2^32=v1 from hv1,show v%2^32=v0 from hv0,BU,hD0,hr0]at this;exact this
  obtain⟨AT,yZ⟩:=n4b hi lo y s (q1*2^32+q2) r0 zXb zIb
  have aoU:=ue.small (un:=v1) iV huY JS
  rw[Vf,BU]at aoU
  have aoV:=ue.small (un:=v0) iV uQ th
  rw[Vf,hD0]at aoV
  refine zVc ?_
  refine nT results254 rfl rfl A0 ?_ ?_
  · rw[AT];exact vu zlb
  · rw[yZ]
 ):P:=h
theorem z8f (h:P:=by
  refine B 1 ?_
  refine z4f ?_
  refine zxe ?_
  refine S5 ?_
  intro uc AL Qe Qf Qg I4 ape
  replace Qf:=yb Qf
  replace Qg:=yc Qg
  refine S9 (f:=167) (first:=[]) (cap:=[ptr b2 0]) (V:=V) (λV=>hI (pre++[(⟨[aN ((cJ p.ns (oO x.dev)).getD 0)],aP (dk p.x.g.last),some ⟨uc,0,none⟩,1⟩:Dv)]) V) hX rfl call167 rfl rfl rfl (λW9 cF=>?_) ?_ ?_
  · refine WU (λV=>hI (pre++[(⟨[aN ((cJ p.ns (oO x.dev)).getD 0)],aP (dk p.x.g.last),some ⟨uc,0,none⟩,1⟩:Dv)]) V) hX hV (⟨[aN ((cJ p.ns (oO x.dev)).getD 0)],aP (dk p.x.g.last),some ⟨uc,0,none⟩,1⟩:Dv) b2 W9 cF.alone (cF.own (b2,_) A2) (λh=>h.elim (λh=>by have:=(hM _ h).1;omega) (λh=>cF.apart (b2,_) A2 (.inr h))) (λW1 pj hv1 qB=>hy pre (⟨[aN ((cJ p.ns (oO x.dev)).getD 0)],aP (dk p.x.g.last),some ⟨uc,0,none⟩,1⟩:Dv) V W1 ⟨by simp only[cB,dI,fJ];omega,λd hd=>?_⟩ hv1 qB)
    rcases aY.1 hd with hd|hd
    · exact fT.low ((eM d hd).up (eB (cF.links wk A1).size pj.size) (λb off e_ jS cW dm=>(pj.block b zHb dm).trans ((cF.links wk A1).block b cW (λhx=>hx.elim dm (λhx=>by first|(simp only[dA,eh,dP,fu,cd,dZ,or_false]at hx;omega)|(simp at hx;omega)|(simp at hx))))) (λb _ cW h=>h)) (cO _)
    · rw[fC.1 hd]
      exact fT.low (fT.up (fT.one Qe I4 (K:=w0.heap.size) aa) (eB (cF.links AL A0).size pj.size) (λb off e_ jS cW dm=>(pj.block b (by have:=(cF.links AL A0).size;omega) dm).trans ((cF.links AL A0).block b cW (λhx=>hx.elim dm (λhx=>by cases e_;first|(simp only[dA,eh,dP,fu,cd,dZ,or_false]at hx;omega)|(simp at hx;omega)|(simp at hx))))) (λb _ _ h=>h)) (cO _)
  · intro V2 tV dM
    have lO:∀k,V2 k->W.heap.size<=k:=λk hk=>(dM W A2 k hk).elim (hV k) id
    have mS:∀k,k<wk.heap.size->(M k\/V2 k)->(M k\/V k):=λk hk h=>(h.imp id λh=>(dM wk A1 k h).resolve_right aa)
    have BR:¬(M uc\/V2 uc):=λh=>I4 (h.imp id λh=>(dM AL A0 _ h).resolve_right aa)
    refine B 12 ?_
    refine PJ.resnap (L':=[wk,W]) (i:=0) rfl zB zI (λW9 cF=>?_)
    have cH:∀d∈(pre++[(⟨[aN ((cJ p.ns (oO x.dev)).getD 0)],aP (dk p.x.g.last),some ⟨uc,0,none⟩,1⟩:Dv)]),fT (λk=>M k\/V2 k) w0.heap.size W9.heap.size W9 d:=by
      intro d hd
      rcases aY.1 hd with hd|hd
      · exact(eM d hd).up (cF.links wk A1).size (λb off e_ jS cW dm=>(cF.links wk A1).block b cW (λhx=>hx.elim (λh=>dm (mS b cW h)) (λhx=>by first|(simp only[dA,eh,dP,fu,cd,dZ,or_false]at hx;omega)|(simp at hx;omega)|(simp at hx)))) (λb _ cW h=>mS b cW h)
      · rw[fC.1 hd]
        exact fT.up (fT.one Qe BR (K:=w0.heap.size) aa) (cF.links AL A0).size (λb off e_ jS cW dm=>(cF.links AL A0).block b cW (λhx=>hx.elim dm (λhx=>by cases e_;first|(simp only[dA,eh,dP,fu,cd,dZ,or_false]at hx;omega)|(simp at hx;omega)|(simp at hx)))) (λb _ _ h=>h)
    refine ag ((pre++[(⟨[aN ((cJ p.ns (oO x.dev)).getD 0)],aP (dk p.x.g.last),some ⟨uc,0,none⟩,1⟩:Dv)],V2),W9,j+1) ⟨by dsimp only;omega,lO,eB tI (cF.links wk A1).size,by dsimp only;rw[DF (xs:=(aW p).1.wes) hx,gN,aX,n9n cY];simp[ig,aW],by dsimp only;simp only[cB,dI,fJ];omega,cH⟩
  · intro V2 tV dM
    have lO:∀k,V2 k->W.heap.size<=k:=λk hk=>(dM W A2 k hk).elim (hV k) id
    have mS:∀k,k<wk.heap.size->(M k\/V2 k)->(M k\/V k):=λk hk h=>(h.imp id λh=>(dM wk A1 k h).resolve_right aa)
    have BR:¬(M uc\/V2 uc):=λh=>I4 (h.imp id λh=>(dM AL A0 _ h).resolve_right aa)
    refine B 10 ?_
    exact n6c (.inl rfl) results166 A2 lO zX (λA hSA hA=>.inr hA)
 ):P:=h
theorem cQ (h:P:=by exact absurd (show false=true from hr) zz):P:=h
theorem zag (h:P:=by
  refine zUd ?_
  first|exact congrArg ab (nhd dR aa)|exact congrArg ab (nN hx (λg=>by have g1:=g.1;have g2:=g.2.1;omega))|exact congrArg ab (nN hx (λg=>by have g3:=g.2.2.1 y aa hy;omega))|exact congrArg ab (nN hx (λg=>VC (x:=x.pub) KE g.2.2.2.1))|exact congrArg ab (nN hx (λg=>by have g5:=(n3c _).2 g.2.2.2.2;simp_all))
 ):P:=h
theorem zbg (h:P:=by exact fT.low ((eM d hd).up (eB (cF.links wk A1).size pj.size) (λb off e_ jS cW dm=>(pj.block b zHb dm).trans ((cF.links wk A1).block b cW (λhx=>hx.elim dm (λhx=>by first|(simp only[dA,eh,dP,fu,cd,dZ,or_false]at hx;omega)|(simp at hx;omega)|(simp at hx))))) (λb _ cW h=>h)) (cO _)):P:=h
theorem zcg (h:P:=by
  refine ss rfl ?_ ?_
  · intro cv L' H' hl hP F Q' hk
    obtain rfl:=mF hl
    obtain⟨rfl,rfl⟩:=hP
    refine ztd ?_
    rintro W_ ⟨ta_,tc_⟩ w_ qM wo ⟨ew,jb⟩
    have FP:=(qM.links wm A0).size
    exact OJ.done (hk _ _ _ ⟨ta_,tc_,w_,rfl,rfl,rfl,ew,λb off e=>(jb b off e).imp id (λh=>h.imp id (λh=>eB FP h)),eB FP wo.size⟩)
  refine ss rfl ?_ ?_
  · intro cv L' H' hl hP F Q' hk
    obtain⟨v1,rfl⟩:=jK hl
    obtain⟨ta,tc,wr,rfl,rfl,rfl,sS,iF,rU⟩:=hP
    refine znd ?_
    intro r_ Wh iK
    exact OJ.done (hk _ _ _ ⟨ta,tc,wr,r_,rfl,rfl,rfl,rfl,sS,iF,rU,Wh,iK,Rw.ge_of Wh A0⟩)
  refine ss rfl ?_ ?_
  · intro cv L' H' hl hP F Q' hk
    obtain⟨v1,v2,rfl⟩:=rL hl
    obtain⟨ta,tc,wr,r8,rfl,rfl,rfl,rfl,sS,iF,rU,oJ,iM,jR⟩:=hP
    refine B 1 ?_
    exact OJ.done (hk _ _ _ ⟨ta,tc,wr,r8,rfl,rfl,rfl,rfl,rfl,sS,iF,rU,oJ,iM,jR⟩)
  refine ss rfl ?_ ?_
  · intro cv L' H' hl hP F Q' hk
    obtain⟨v1,v2,v3,rfl⟩:=pB hl
    obtain⟨ta,tc,wr,r8,rfl,rfl,rfl,rfl,rfl,sS,iF,rU,oJ,iM,jR⟩:=hP
    refine B 1 ?_
    exact OJ.done (hk _ _ _ ⟨ta,tc,wr,r8,rfl,rfl,rfl,rfl,rfl,rfl,sS,iF,rU,oJ,iM,jR⟩)
  refine ss rfl ?_ ?_
  · intro cv L' H' hl hP F Q' hk
    obtain⟨v1,v2,v3,v4,rfl⟩:=vm hl
    obtain⟨ta,tc,wr,r8,rfl,rfl,rfl,rfl,rfl,rfl,sS,iF,rU,oJ,iM,jR⟩:=hP
    refine kT (i:=0) rfl sizeOf51 rfl rfl rfl rfl (er rfl) (Rw.val_one2 _ _) ?_
    exact OJ.done (hk (.tuple #[]) _ _ ⟨ta,tc,wr,r8,rfl,rfl,rfl,rfl,rfl,rfl,rfl,sS,iF,rU,oJ,iM,jR⟩)
  exact nn
 ):P:=h
theorem zdg (h:P:=by exact(eM d hd).up (cF.links wk A1).size (λb off e_ jS cW dm=>(cF.links wk A1).block b cW (λhx=>hx.elim (λh=>dm (mS b cW h)) (λhx=>by first|(simp only[dA,eh,dP,fu,cd,dZ,or_false]at hx;omega)|(simp at hx;omega)|(simp at hx)))) (λb _ cW h=>mS b cW h)):P:=h
theorem zeg (h:P:=by
  refine zYc ?_
  refine CJ.chn 11 [4] [_,some (.slice G.ma G.g.ms.length G.mc),_,some (.agg #[.slice G.na G.g.ns.length G.nc]),none,_,some (bH),_,some undef,some undef,some undef] (λcv L' H'=>match cv with| []=>L'=[w1,w]/\H'=[]| [v1]=>∃(a7:Option Addr) (c7:Nat) (w7:World),v1= .slice a7 (eu G.g.ns).length c7/\L'=[w7,w1,w]/\H'=[]/\ai (λx=>(aA x).toArray) 1 w7.heap.size w7 a7 (eu G.g.ns)|_=>False) (pc Zc (pc OP (pc Zd (pc OP (pk (pc zL (pc (λcv L' H' hd hP=>match cv,hd,hP with| [],hd,hP=>(absurd (show false=true from hd) zz)| [v1],hd,hP=>zKc|_::_::_,_,hP=>hP.elim) (pc zL (pc zLb (pc zLb (pc zLb (pn)))))))))))) ?_ ?_
  · refine ss rfl ?_ ?_
    · intro cv L' H' hl hP F Q' hk
      obtain rfl:=mF hl
      obtain⟨rfl,rfl⟩:=hP
      refine zbd ?_
      intro W7 a7 c7 w7 CN Po ko ou
      exact OJ.done (hk _ _ _ ⟨a7,c7,w7,rfl,rfl,rfl,ko⟩)
    exact nn
  · intro cv L' H' hl hP
    obtain⟨v1,rfl⟩:=jK hl
    obtain⟨a7,c7,w7,rfl,rfl,rfl,ko⟩:=hP
    refine B 7 ?_
    refine aL results148 rfl A2 ?_
    exact RG (λh=>h1 h.2.2.1)
 ):P:=h
theorem zfg (h:P:=by
  have hv:∀W2,∀w∈L,∀k,rm V W1 W2 k->V k\/w.heap.size<=k:=λW2 w hw k hk=>by
    rcases hk with hk|hk
    · exact .inl hk
    · have:=(hS.links w hw).size;exact .inr aa
  refine⟨fn,tmps,assign,body,gw,p7.mono ?_⟩
  rintro e W2 ⟨b,rfl,hk,hb⟩
  refine⟨b,rfl,by rw[(hT _).1];exact hk,?_⟩
  have nx:∀{R:World->Prop} (hR:gu (λk=>(k<W0.heap.size/\¬MI k)\/(rm V W1 W2) k) R),R W2->Next (T (dF hM V hI)) W1 W2 (T (dF hM (rm V W1 W2) hR)):=λ{R} hR hb=>by
    refine⟨λk h=>?_,λk h=>?_,λk h=>?_,by rw[(hT _).2.2.1];exact hb⟩
    · rw[(hT _).2.2.2]at h ⊢
      rcases h with(h|h)|h
      · exact .inl (.inl h)
      · exact .inl (.inr (.inl h))
      · exact .inr h
    · rw[(hT _).2.2.2]at h ⊢
      rcases h with(h|h|h)|h
      · exact .inl (.inl (.inl h))
      · exact .inl (.inl (.inr h))
      · exact .inr h
      · exact .inl (.inr h)
    · rw[(hT _).2.1]at h ⊢
      rcases h with h|h|h
      · exact .inl (.inl h)
      · exact .inl (.inr h)
      · exact .inr h
  cases b with
  |true=>exact⟨_,⟨_,λk h=>.inl h,hv W2,rfl⟩,nx (lM _) hb⟩
  |false=>exact⟨_,⟨_,λk h=>.inl h,hv W2,rfl⟩,nx (gk _) hb⟩
 ):P:=h
theorem Zj (h:P:=by
  refine zpe ?_
  show Value.bool _=Value.bool _
  refine vb ?_
  first|(have h1b:(gF G.g.ms au != decide (0<G.g.epoch))=true:=Du;unfold lX;rw[h1b];rfl)|(have h1b:(gF G.g.ms au != decide (0<G.g.epoch))=false:=Du;unfold lX;rw[h1b];simp_all)
 ):P:=h
theorem zhg (h:P:=by
  refine ss rfl ?_ ?_
  · intro cv L' H' hl hP F Q' hk
    obtain rfl:=mF hl
    obtain⟨rfl,rfl⟩:=hP
    refine zbd ?_
    intro W7 a7 c7 w7 CN Po ko ou
    exact OJ.done (hk _ _ _ ⟨a7,c7,w7,rfl,rfl,rfl,ko⟩)
  exact nn
 ):P:=h
theorem Zh (h:P:=by exact PJ.mid ⟨(congrArg (λb=>some (Value.bool b)) z9),rfl,rfl,rfl,rfl,rfl,rfl,rfl,rfl,rfl,rfl,rfl,rfl,rfl,trivial⟩):P:=h
theorem zkg (h:P:=by
  have h5:∀q,q1=some q->(W9.heap.size)<=q.block:=by
    intro q hq
    rcases hq1 with h|⟨b',off,eH,t',Dd,e1,_⟩
    · exact absurd h h0
    · rw[e1]at hq;cases hq;exact h2 _ _ e1
  obtain⟨FT,h3,h4⟩:=hq1.fs (K:=(W9.heap.size)) h5
  exact⟨FT,λp hp=>⟨(h3 p hp).1,(bB.1 (h3 p hp).2).1,(h3 p hp).2⟩,h4.mono (λp hp=>aY.2 (.inl hp))⟩
 ):P:=h
theorem TY (h:P:=by
  refine aL results8 rfl A1 ?_
  first|exact vb z4|exact vb zyb|exact vb zEb
 ):P:=h
theorem zmg (h:P:=by
  rw[Instr.checkKey]
  simp only[Sem.run_bind,run_underlying hU,Result.andThen_ok]
  simp only[Std.Legacy.Range.forIn_eq_forIn_range',Std.Legacy.Range.size,Nat.sub_zero,Nat.add_one_sub_one,Nat.div_one]
  have each:∀j∈List.range' 0 len,j<cs.length:=λj hj=>by rw[List.mem_range'_1]at hj;omega
  generalize List.range' 0 len=is at each
  induction is with
  |nil=>simp
  |cons j is ih=>
    have hj:=each j zI
    have p1:(part e cs.toArray (j*1)).run P W= .ok cs[j] W:=by simp[part,hA W,hj]
    have p2:(Instr.checkKey em (n+1) e cs[j]).run P W= .ok () W:=by simp[Instr.checkKey,run_underlying hE]
    simp only[List.forIn_cons,Sem.run_bind,hZ W,Result.andThen_ok,p1,p2,Sem.run_pure]
    exact ih (λy hy=>each y (by simp[hy]))
 ):P:=h
theorem zng (h:P:=by
  refine zWe ?_
  first|exact nGh dR aa|exact nqc hx (λg=>by have g1:=g.1.1;rw[<-RI,<-RJ]at g1;exact absurd g1 cY)|exact nqc hx (λg=>absurd g.1.2 cY)|exact nqc hx (λg=>by have g1:=g.2;simp_all)
 ):P:=h
theorem zog (h:P:=by
  intro a W hI
  obtain⟨x,hx,iU,hN,hD,hF,hS⟩:=nMe hI
  refine wpIn_mono (round x iU a W hN hD hF hS) ?_
  intro e a' W' hq
  cases e with
  |normal=>
    obtain⟨x',aoX,hlt,h1,h2,h3,h4⟩:=hq
    have hI':Inv a' W' (μ x'):=⟨x',rfl,aoX,h1,h2,h3,h4⟩
    exact⟨⟨_,hI'⟩,by have:=nfg hI';omega⟩
  |_=>exact hq
 ):P:=h
theorem zpg (h:P:=by
  refine B 4 ?_
  have Ab:j=p.c.wes.length:=by omega
  rw[Ab]at aX
  have adz:pre.map ig=gK (aW p):=by rw[aX];unfold gK;rw[show p.c.wes.length=(aW p).1.wes.length from rfl,ur];rfl
  refine n6c (.inr rfl) results166 A1 hV zX (λA cF hA=>.inl ⟨pre,⟨⟨adz,by omega⟩,λd hd=>?_⟩,hA⟩)
  exact((eM d hd).up (cF.links wk A0).size (λb off e_ jS cW dm=>(cF.links wk A0).block b cW (λhx=>hx.elim dm (λhx=>by first|(simp only[dA,eh,dP,fu,cd,dZ,or_false]at hx;omega)|(simp at hx;omega)|(simp at hx)))) (λb _ cW h=>h)).low aa
 ):P:=h
theorem Of (h:P:=by
  refine B 2 ?_
  refine PJ.again (q-1,r+y1) ⟨bY,by omega,da,by omega⟩ zZb zR rfl rfl zI
 ):P:=h
theorem WL (h:P:=by
  refine aL results46 rfl A1 ?_
  first|exact vb zab|exact vb z8|exact vb zDb
 ):P:=h
theorem zsg (h:P:=by
  obtain⟨F1,wB,uJ⟩:=uJ.fs (K:=w.heap.size) (Rw.val_new (Rw.ge_mono bK aa) uq)
  refine⟨((a1,c1),pls),F1++F,?_,?_,λp hp=>?_,aX,λp hp=>⟨(gW p hp).1.mono (λq hq=>aY.2 (.inr hq)),(gW p hp).2⟩,by dsimp only;omega,uJ.mono (λp hp=>aY.2 (.inl hp))⟩
  · show Ending.returned (r.val pls.length)=_
    rw[uq]
  · exact(hS.links w A1).below (λk hk hx=>by rcases hx with hx|hx;(exact hx);simp only[ec]at hx;have:=Rw.mem_ge bK hx;omega)
  · rcases aY.1 hp with hp|hp
    · exact wB p hp
    · exact⟨dD p hp,(hS.fzLies p hp).2⟩
 ):P:=h
theorem ztg (h:P:=by exact PJ.mid ⟨(congrArg some (vb zJ)),rfl,rfl,rfl,rfl,rfl,rfl,rfl,trivial⟩):P:=h
theorem zug (h:P:=by
  refine nT results125 rfl rfl A0 ?_ ?_
  all_goals(refine congrArg ab ?_;unfold gExp;first|(simp only[if_neg hg];done)|(rw[if_pos hg];first|(rw[if_neg aa];done)|(rw[if_pos aa];done)))
 ):P:=h
theorem zvg (h:P:=by
  have h1:=SZ p hp
  have hn:p.1∉List.map (·.1) ([(WT,oC (kV (⟨d.c,decide (j=0),aQ gj.g.ns d.c.chs,q1,q2,d.x⟩:Pl)) 92),(fN,oC (bJ gj) 53),(b9,oC (cP d.c) 61),(b4,oC (qQ fo) 97)]++(r.hp An 92 pls++[]):ad):=by
    intro hm
    obtain⟨p9,hp9,e9⟩:=bU.1 hm
    rcases cd.1 hp9 with h2|h2
    · rw[h2]at e9;dsimp only at e9;omega
    · have:=hK2 p9 h2;omega
  exact⟨((hS.links w8 A0).block p.1 h1.2.1 (λhx=>hx.elim zH (λh=>hn h))).trans h1.2.2,hn⟩
 ):P:=h
theorem zwg (h:P:=by
  refine ss rfl ?_ ?_
  · intro cv L' H' hl hP F Q' hk
    obtain⟨v1,v2,rfl⟩:=rL hl
    obtain⟨bn,rfl,rfl,rfl,rfl,hfn⟩:=hP
    refine ZC ?_
    intro b_ pN iA
    exact OJ.done (hk _ _ _ ⟨bn,b_,rfl,rfl,rfl,rfl,rfl,hfn,pN⟩)
  exact nn
 ):P:=h
theorem zxg (h:P:=by
  refine B 6 ?_
  have cH:=nko (l:=dx d) (i:=i) aa (iw (dq ns) (512+d))
  rw[cH]at zf ⊢
  refine B 9 ?_
  refine bS (.inl rfl) results64 bD λW hS=>⟨bf,mi,ap,im,rfl,hS.base A2 C7,by omega,zf,hS.own _ A0,pH.blk λb off hb1 dz=>?_,λq hq=>?_⟩
  · have h1:=ux _ hb1
    dsimp only at h1
    exact⟨qF dz (hS.links wp A0).size,(hS.links wp A0).block b dz (by simp[Gh.no];omega)⟩
  · have h1:=ux _ hq
    have h2:=(Ca.links w A1).size
    exact⟨by omega,by omega⟩
 ):P:=h
theorem zyg (h:P:=by
  intro V2 tV dM
  have lO:∀k,V2 k->W.heap.size<=k:=λk hk=>(dM W A2 k hk).elim (hV k) id
  have mS:∀k,k<wk.heap.size->(M k\/V2 k)->(M k\/V k):=λk hk h=>(h.imp id λh=>(dM wk A1 k h).resolve_right aa)
  have pT:¬(M sx\/V2 sx):=λh=>GZ (h.imp id λh=>(dM yp A0 _ h).resolve_right aa)
  refine zsf ?_
  refine fA 10 25 (k:=?_)
  refine zPf ?_
  refine B 8 ?_
  exact n6c (.inl rfl) results166 A2 lO zX (λA hSA hA=>.inr hA)
 ):P:=h
theorem zzg (h:P:=by
  refine aL results71 rfl A1 ?_
  first|exact Zv (λh=>by have h1:=Jl.2 h.1;have h2:=h.2;omega)|exact nrj ⟨Jl.1 aa,by omega,by omega⟩
 ):P:=h
theorem zAg (h:P:=by
  rw[fC.1 hd]
  exact fT.low (fT.up (fT.one GX GZ (K:=w0.heap.size) aa) (eB (cF.links yp A0).size pj.size) (λb off e_ jS cW dm=>(pj.block b (by have:=(cF.links yp A0).size;omega) dm).trans ((cF.links yp A0).block b cW (λhx=>hx.elim dm (λhx=>by cases e_;first|(simp only[dA,eh,dP,fu,cd,dZ,or_false]at hx;omega)|(simp at hx;omega)|(simp at hx))))) (λb _ _ h=>h)) (cO _)
 ):P:=h
theorem zBg (h:P:=by
  intro j hj
  rw[Array.contains_iff_mem]
  simp only[List.mem_toArray,bU]
  constructor
  · rintro⟨j',h1,h2⟩
    have h3:=qf j' h1
    have hb1:j<m.bs.length:=by rw[hm.len];exact hj
    have dz:j'<m.bs.length:=by rw[hm.len];exact h3
    simp only[List.getD,ll hb1,ll dz,Option.getD_some]at h2
    have:=nDk hm.nd dz hb1 h2
    subst this;exact h1
  · exact λh=>⟨j,h,rfl⟩
 ):P:=h
theorem ZV (h:P:=by exact bS (.inl rfl) results83 bD λW hS=>⟨gj,rfl,hS.base A2 zA,rfl,ZU _ _,λq h=>zQ,λq h=>zQ⟩):P:=h
theorem YA (h:P:=by
  rw[aX]at hx
  replace hx:=yf hx
  rcases hx with hx|hx|hx|hx<;>first|omega|(have:=hq _ hx;omega)
 ):P:=h
theorem zEg (h:P:=by
  refine B 5 ?_
  obtain⟨bq,oq,Rn,tq,Ro,rfl,pI,zg,qG⟩:=pH.get aa
  have E6:=ux _ rfl
  dsimp only at E6
  obtain⟨n,hy⟩:=ng (dx d) i aa
  refine B 2 ?_
  refine z4d ?_
  refine B 6 ?_
  refine zzd ?_
  intro m3 da
  refine B 7 ?_
  refine PJ.again (m3,i+1) ⟨by dsimp only;omega,by rw[njg hy];exact da⟩ zS zR (by rw[njg hy];rfl) rfl zI
 ):P:=h
theorem Vu (h:P:=by
  intro b4 iW iX
  replace iW:=yb iW
  replace iX:=yc iX
  refine zkf ?_
  rfl
 ):P:=h
theorem zGg (h:P:=by
  intro cv L' H' hl hP F Q' hk
  obtain rfl:=mF hl
  obtain⟨rfl,rfl⟩:=hP
  refine ZC ?_
  intro b_ pN iA
  exact OJ.done (hk _ _ _ ⟨b_,rfl,rfl,rfl,pN⟩)
 ):P:=h
theorem zHg (h:P:=by exact n6c (.inl rfl) results166 A2 lO zX (λA hSA hA=>.inr hA)):P:=h
theorem zIg (h:P:=by
  refine B 7 ?_
  refine zgd ?_
  refine B 5 ?_
  refine zOe ?_
  refine B 2 ?_
  refine PJ.again (k+1,if 128-64*k=64 then o2 else o2+64*1) (by dsimp only;split<;>omega) zS ⟨rfl,rfl,rfl,by rw[show N-64*(k+1)=N-64*k-64 by omega,show 128-64*(k+1)=128-64*k-64 by omega];rfl,trivial⟩ rfl rfl zI
 ):P:=h
theorem zJg (h:P:=by
  have h1:(js++[jn]).Nodup:=by rw[List.nodup_append];exact⟨hnd,by simp,by intro a ha b hb;simp at hb;subst hb;exact λe=>tD (e▸ha)⟩
  have h2:∀j∈js++[jn],j<kv.length:=by
    intro j hj
    rcases aY.1 hj with hj|hj
    · exact qf j hj
    · simp at hj;subst hj;exact nq wR
  exact⟨h1,h2,by simpa using YI _ _ h1 h2⟩
 ):P:=h
theorem VV (h:P:=by
  intro aS
  refine B 7 ?_
  refine ag (j+1) ⟨by omega,dR.next hx AW⟩
 ):P:=h
theorem zLg (h:P:=by
  intro Dz c32 s32 Ai aoY
  refine OJ.dropF (i:=0) rfl (.inr ⟨by omega,by omega,trivial⟩) ?_
  refine B 8 ?_
  refine ag (ys++y.enc,i+1,Dz,c32,s32) ⟨by dsimp only;rw[iY,<-hy,<-V.encL_drop l i aa];exact hinv,by dsimp only;omega,Ai,by simpa only[Fr,Gh.lent,Gh.no,ah,and_true,false_or]using Ai,aoY⟩
 ):P:=h
theorem zMg (h:P:=by exact nQ (enc:=tJ) (m:=4) (t:=110) (xs:=[]) (H0:=[(b6,oC #[ak] 56)]) (H1:=[]) (r:=.nil) (.inl rfl) results134 bD A1 zlc rfl rfl True.intro rfl):P:=h
theorem zNg (h:P:=by exact PJ.mid ⟨(congrArg some (vb z4b)),rfl,rfl,rfl,rfl,rfl,trivial⟩):P:=h
theorem zOg (h:P:=by
  refine B 12 ?_
  refine zoe ?_
  intro r aK ae
  refine B 1 ?_
  refine zEe ?_
  refine B 4 ?_
  exact nQ (enc:=ik) (m:=2) (t:=240) (xs:=[]) (H0:=[(b4,oC #[r.val (([]:List Nd)).length] 51)]) (H1:=[]) (r:=r) (.inl rfl) results35 bD A1 zFc rfl ae (Rw.ge_of aK A1) z3b
 ):P:=h
theorem zPg (h:P:=by
  apply Array.ext'
  rw[nZ,mx,<-hlen]
  show jT (ys++sp) ys.length news=_
  have aoP:n*ti.size<=sp.length:=by rw[wG,<-wZ,wZ];exact wh _ aa
  conv=>lhs;rw[<-Ba (n*ti.size) sp]
  rw[nHd _ _ _ _ (by rw[kU];omega),iY]
 ):P:=h
theorem zQg (h:P:=by
  refine B 14 ?_
  refine qD ?_
  refine ag ((i2+1,cur.set i2 x),j+1) ⟨by dsimp only;omega,by dsimp only;omega,by dsimp only;rw[List.length_set];exact mB,by dsimp only;rw[nad aa,vt,R9 hx,if_neg AW],by dsimp only;rw[n3d aa];exact sa⟩
 ):P:=h
theorem zRg (h:P:=by exact nQ (enc:=aA) (m:=1) (t:=3) (xs:=[]) (H0:=[]) (H1:=[]) (r:=.nil) (.inl rfl) results262 bD A1 trivial rfl rfl True.intro rfl):P:=h
theorem zSg (h:P:=by
  unfold qR
  by_cases Pm:0<j
  · rw[if_pos Pm,GO,nCg]
    rcases WR DE with⟨_,h2⟩|⟨n,xb,h1,_,_⟩
    · rw[h2];rfl
    · exfalso;subst h1;omega
  · rw[if_neg Pm];rfl
 ):P:=h
theorem VU (h:P:=by exact λW hS=>.inr ⟨j,x,rfl,hx,by assumption,dR⟩):P:=h
theorem zUg (h:P:=by
  refine uI ?_
  refine ag (k+1) ⟨by omega,λb hb=>by rw[np Aq]at hb;rcases aY.1 hb with h|h;(exact VN b h);rw[fC.1 h];rintro⟨h1,h2⟩;first|(obtain⟨o,ho,e⟩:=h2;rw[nQi hom aa ho]at e;cases e)|simp_all⟩
 ):P:=h
theorem zVg (h:P:=by
  refine aL results25 rfl A0 ?_
  first|exact vb ztc|exact vb zoc|exact vb zpc
 ):P:=h
theorem zWg (h:P:=by
  by_cases h0:xs=[]
  · exact .inr h0
  · have hp:0<xs.length:=azr.2 h0
    have:=(e4 (xs.length-1) aa).1
    refine .inl ?_
    have e:xs.length*m=(xs.length-1)*m+m:=by rw[<-Nat.succ_mul];congr 1;omega
    omega
 ):P:=h
theorem zXg (h:P:=by
  refine B 7 ?_
  refine zhe ?_
  refine B 3 ?_
  have e:i=8:=by omega
  subst e
  refine zTd ?_
  show Value.agg (cut (lk (tw n m (iq n)) 8) 0 32)=_
  rw[nUf _ 32 (by rw[lk,Ec]),Qy];rfl
 ):P:=h
theorem zYg (h:P:=by refine ag (((r,ds),F),i+1) ⟨by dsimp only;omega,aK,ae,by dsimp only;rw[DF hgi,aX];first|(rw[npo Mu zEc];simp;done)|(rw[Ty Mu kD,show j=g.olds.length by omega,ur];simp),iS,by dsimp only;omega,dD,je⟩):P:=h
theorem zZg (h:P:=by
  refine bS (.inl rfl) results49 bD λW hS=>⟨by rw[<-h9.1];rfl,gm,by rw[<-h9.2];exact ql,(hS.links w A1).mono λk _ hk=>?_,by rw[<-h9.2];exact hS.own _ A0⟩
  rcases hk with hk|hk
  · exact hk
  · simpa using hk
 ):P:=h
theorem z0g (h:P:=by refine ag (k+1) ⟨by omega,λi z hi hz=>by rcases Nat.lt_or_ge i k with h|h;(exact Dj i z h hz);obtain rfl:i=k:=aa;rw[hy]at hz;cases hz;rintro⟨h1,h2⟩;first|exact absurd h1 cY|exact absurd h2 cY⟩):P:=h
theorem z1g (h:P:=by
  refine cA (.inl rfl) results72 bD A0 zA ?_
  exact vb (by unfold Hj;rw[D8];simp_all<;>omega)
 ):P:=h
theorem z2g (h:P:=by
  refine B 19 ?_
  refine qD ?_
  refine ag ((pre,V),wk,j+1) ⟨by dsimp only;omega,hV,tI,by dsimp only;rw[DF (xs:=(aW p).1.wes) hx,aX,S3 cY,ec],by dsimp only;omega,eM⟩
 ):P:=h
theorem z3g (h:P:=by
  refine ss rfl ?_ ?_
  · intro cv L' H' hl hP F Q' hk
    obtain rfl:=mF hl
    obtain⟨rfl,rfl⟩:=hP
    refine B 1 ?_
    exact OJ.done (hk (.tuple #[]) _ _ ⟨rfl,rfl,rfl⟩)
  exact nn
 ):P:=h
theorem z4g (h:P:=by exact PJ.mid ⟨(congrArg some (vb zJ)),rfl,rfl,rfl,rfl,rfl,rfl,rfl,rfl,trivial⟩):P:=h
theorem z5g (h:P:=by
  refine xW ?_
  refine ag (j+1) ⟨by omega,dR.next hx ⟨Classical.not_not.1 h1,λy0 h0 I6=>by first|omega|(rw[hy]at I6;cases I6;omega),nw.1 aa⟩⟩
 ):P:=h
theorem z6g (h:P:=by
  refine⟨[],by simp,?_⟩
  rw[h1,(Prod.mk.inj h2).1]
  exact CG.ns.mono (λp hp=>hp)
 ):P:=h
theorem z7g (h:P:=by
  refine nT results37 rfl rfl A0 ?_ ?_
  all_goals first|rfl|(exfalso;apply h;exact⟨by omega,by omega⟩)
 ):P:=h
theorem z8g (h:P:=by
  replace dh:=ya dh
  refine B 4 ?_
  exact PJ.mid ⟨(congrArg some (vb (by first|(simp;done)|(simp;omega)))),rfl,rfl,rfl,rfl,rfl,rfl,rfl,rfl,trivial⟩
 ):P:=h
theorem z9g (h:P:=by refine ag (((r,pls),F),i+1) ⟨by dsimp only;omega,aK,ae,by dsimp only;rw[nKk sU,aX];congr 1;unfold Ao;rw[<-hv.eq,eK,show ds.length=j by omega],gW,by dsimp only;omega,dD⟩):P:=h
theorem zah (h:P:=by
  refine xW ?_
  refine ag (j+1) ⟨by omega,dR.next hx ⟨by omega,by omega,λy0 h0 I6=>by first|omega|(rw[hy]at I6;cases I6;omega),nRg KE,(n3c _).1 AW⟩⟩
 ):P:=h
theorem zbh (h:P:=by
  rw[if_pos (bU.2 ⟨_,cu h1,rfl⟩)]
  simp only[List.map_set]
  apply C9
  intro j
  rw[axr]
  split
  · rename_i e;subst e
    have hl:=(hJ.1 h1).1
    rw[if_pos K9];simp[h1]
  · rfl
 ):P:=h
theorem zdh (h:P:=by
  rw[List.set_append_right _ _ zI]
  simp only[eK,Nat.sub_self,sm,gN,dP,fu,cB,dI,fJ,iY]
  rw[show ch.length-vs.length=(ch.length-(vs.length+1))+1 by omega,List.replicate_succ]
  rfl
 ):P:=h
theorem zeh (h:P:=by
  have e2:Hg G.g l=[]:=by unfold Hg;rw[e1];rfl
  rw[e1,e2]
  exact nQ (enc:=Br) (m:=2) (t:=180) (xs:=[]) (H0:=[]) (r:=.nil) (.inl rfl) results68 bD A1 zC rfl rfl True.intro rfl
 ):P:=h
theorem zfh (h:P:=by
  rcases hk with hk|hk
  · exact hk
  · simpa using hk
 ):P:=h
theorem zgh (h:P:=by
  have eQ:W.drew.heap[b]? =some (.cells (ys++sp).toArray e (0,0)):=hb
  rw[nNh eQ (by simp only[rf,cB,hlen];omega)]
  unfold cut
  simp only[Pt,<-hlen]
  rw[QY rfl]
 ):P:=h
theorem zhh (h:P:=by exact PJ.mid ⟨(congrArg some (vb zvc)),rfl,rfl,rfl,rfl,rfl,rfl,trivial⟩):P:=h
theorem zih (h:P:=by refine ag (m+1) ⟨by omega,λb hb=>by rw[np hx]at hb;rcases aY.1 hb with h|h;(exact hwm b h);rw[fC.1 h];rintro⟨h1,h2⟩;first|exact absurd h2 cY|simp_all⟩):P:=h
theorem zjh (h:P:=by
  intro aS
  refine B 8 ?_
  refine qD ?_
  refine ag ((i2,cur),j+1) ⟨by dsimp only;omega,by dsimp only;omega,mB,by dsimp only;rw[vt,R9 hx,if_pos AW,ec],sa⟩
 ):P:=h
theorem zkh (h:P:=by exact⟨rfl,0,_,by rw[alloc_eq_grow,alloc_eq_grow,grow_grow];rfl⟩):P:=h
theorem zlh (h:P:=by exact⟨rfl,.row gD pF pG,jL.elim (λh=>Rw.Fr_at aK h) (λh=>.inr h.2),lu,rfl⟩):P:=h
theorem zmh (h:P:=by
  unfold leftOf at this
  rw[Array.filter_eq_empty_iff]at this
  have h2:=this _ (by simpa using kL)
  simp only[Bool.not_eq_true,Bool.not_eq_false']at h2
  exact hn h2
 ):P:=h
theorem znh (h:P:=by refine PJ.again (r,j+1) ⟨by dsimp only;omega,aK,by rw[nJf hx aa];exact ae⟩ zS ⟨rfl,by rw[nJf hx aa];rfl,rfl,rfl,rfl,trivial⟩ (by rw[nJf hx aa];rfl) rfl zI):P:=h
theorem zoh (h:P:=by
  refine nT results79 rfl rfl A0 ?_ ?_
  all_goals(refine congrArg ab ?_;unfold J4;first|(rw[if_neg aa];done)|(rw[if_pos aa];try first|(rw[Oo aa];done)|skip))
 ):P:=h
theorem zph (h:P:=by
  replace dh:=ya dh
  refine B 6 ?_
  exact PJ.mid ⟨(congrArg (λb=>some (Value.bool b)) z9),rfl,rfl,rfl,rfl,rfl,rfl,rfl,rfl,rfl,rfl,trivial⟩
 ):P:=h
theorem VW (h:P:=by exact λW hS=>.inl ⟨rfl,nAd dR aa⟩):P:=h
theorem zrh (h:P:=by
  refine QK ?_
  refine B 13 ?_
  exact nQ (enc:=ik) (m:=2) (t:=240) (xs:=[]) (H0:=_) (H1:=[]) (r:=.nil) (.inl rfl) results154 bD A1 zcc rfl rfl True.intro (ec _).symm
 ):P:=h
theorem Qt (h:P:=by exact λ_ _ _ _ _ _ _ _ hk=>hk.elim):P:=h
theorem zth (h:P:=by
  have xO:¬Gh.no.X bI:=λh=>h
  refine eN func269 ntmps269 ?_
  refine B 27 ?_
  refine du bH ?_
  refine B 12 ?_
  refine nT results269 rfl rfl A0 ?_ ?_
  all_goals rfl
 ):P:=h
theorem zuh (h:P:=by
  obtain⟨p,hp,rfl⟩:=wu.1 hj
  have C8:=(hJ.1 hp).1
  have:j<m.bs.length:=by rw[hm.len];exact C8
  exact hm.lt _ (by simp[List.getD,this])
 ):P:=h
theorem zvh (h:P:=by
  intro b7 c7 s7 um Dc
  exact OJ.done (hk _ _ _ ⟨b6,b7,c7,s7,rfl,rfl,rfl,rfl,ky,Db,um,by simpa only[Fr,Gh.lent,ah,and_true]using um,Dc⟩)
 ):P:=h
theorem zwh (h:P:=by
  induction H with
  |nil=>intro p hp;simp at hp
  |cons q H ih=>
    intro p hp
    simp only[cd]at hp
    rcases hp with rfl|hp
    · exact h.1
    · exact ih h.2 p hp
 ):P:=h
theorem zxh (h:P:=by
  refine aL results259 rfl A1 ?_
  exact vb (by unfold zp;simp_all)
 ):P:=h
theorem zyh (h:P:=by
  have h1:=(Xz j C8).2 h
  have h2:(!((js.map λj=>m.bs.getD j 0).toArray.contains (m.bs.getD j 0)))=true:=bY
  rw[h1]at h2
  cases h2
 ):P:=h
theorem zzh (h:P:=by
  refine nT results263 rfl rfl A0 ?_ ?_
  all_goals first|(rw[hbe];done)|exact vb (nMm hbe hx)|exact vb (nAj hbe h1)
 ):P:=h
theorem zAh (h:P:=by
  replace av:=ya av
  refine B 9 ?_
  refine aL results212 rfl A1 ?_
  exact vb (by unfold rZ;rw[D8];first|(simp;omega)|simp)
 ):P:=h
theorem zBh (h:P:=by
  refine B 5 ?_
  exact PJ.mid ⟨(congrArg some (vb (by cases(gL pls sf).isSome<;>simp[CU]))),rfl,rfl,rfl,rfl,trivial⟩
 ):P:=h
theorem zCh (h:P:=by
  have:=run_entry_at (P:=C.P) W rb b m.c (js.map λj=>m.bs.getD j 0).toArray _ m.c _ (by rw[hr];simp) eQ (cu fF) hnd
  simp[execOp,hF.ev hx,this]
 ):P:=h
theorem zDh (h:P:=by
  rw[<-NJ (r:=none) (n:=0)]
  refine callsIn_of_wp_marks hf hb trivial (h _ w ?_ rfl ?_ hS)
  · have:=er hl
    simp[hN];omega
  · exact npc vs _
 ):P:=h
theorem zEh (h:P:=by
  intro i x' y' hi hx' hy'
  by_cases e':i=j
  · subst e';rw[hx]at hx';rw[hy]at hy';cases hx';cases hy';exact e
  · exact h i x' y' aa hx' hy'
 ):P:=h
theorem zFh (h:P:=by
  simp only[execOp,hF.ev hx,hF.ev hy,Sem.run_bind,h1,h2,Result.andThen]
  rfl
 ):P:=h
theorem zGh (h:P:=by exact pA.sl hU Rd.zero (by simp[iE]) (by simp[iE])):P:=h
theorem zHh (h:P:=by
  simp only[Rw.val,Value.slice.injEq]at e9
  rw[<-e9.1]at h9;exact h9
 ):P:=h
theorem zIh (h:P:=by
  rw[<-NJ (r:=none) (n:=0)]
  refine callsIn_of_wp hf hb trivial (h _ w ?_ rfl ?_ hS)
  · have:=er hl
    simp[hN];omega
  · exact npc vs _
 ):P:=h
theorem zJh (h:P:=by
  refine nT results216 rfl rfl A1 ?_ ?_
  all_goals(refine congrArg ab ?_;unfold rG;first|(rw[if_neg hg];done)|(rw[if_pos hg];done))
 ):P:=h
theorem zKh (h:P:=by
  refine nT results215 rfl rfl A1 ?_ ?_
  all_goals(refine congrArg ab ?_;unfold qA;first|(rw[if_neg hg];done)|(rw[if_pos hg];done))
 ):P:=h
theorem zLh (h:P:=by exact λW hS=>⟨gb.1,hS.old A0 hb1 cN trivial⟩):P:=h
theorem zMh (h:P:=by
  replace av:=ya av
  refine B 7 ?_
  refine aL results257 rfl A0 ?_
  refine vb ?_
  unfold py
  simp;try omega
 ):P:=h
theorem zNh (h:P:=by
  refine B 11 ?_
  refine aL results13 rfl A1 ?_
  exact vb (by first|exact nho hx cY|exact SL dR aa)
 ):P:=h
theorem zOh (h:P:=by
  rw[List.nodup_append]
  exact⟨hm.nd,by simp,by intro a ha b' eQ;simp at eQ;subst eQ;have:=hm.lt a ha;omega⟩
 ):P:=h
theorem zPh (h:P:=by
  replace av:=ya av
  refine B 10 ?_
  refine aL results150 rfl A2 ?_
  exact vb (by unfold Jq;simp_all)
 ):P:=h
theorem zQh (h:P:=by
  refine aL results107 rfl A1 ?_
  exact congrArg ab (by first|exact njo dR hx (decide_eq_true cY)|exact Sk dR aa)
 ):P:=h
theorem zRh (h:P:=by
  have h5:vs.length<=k:=by have:=hr.1;grind
  cases k with
  |zero=>omega
  |succ m=>have:=hr.2 m A0;grind
 ):P:=h
theorem zSh (h:P:=by
  replace av:=ya av
  refine B 7 ?_
  refine aL results222 rfl A0 ?_
  exact vb (by simp[di];omega)
 ):P:=h
theorem zTh (h:P:=by
  replace av:=ya av
  refine B 7 ?_
  refine aL results217 rfl A0 ?_
  exact vb (by simp[qI];omega)
 ):P:=h
theorem zUh (h:P:=by refine ag (j+1) ⟨by omega,dR.next hx (decide_eq_false cY)⟩):P:=h
theorem zVh (h:P:=by
  refine aL results24 rfl A0 ?_
  exact vb zib
 ):P:=h
theorem zWh (h:P:=by
  refine aL results218 rfl A1 ?_
  exact vb z5b
 ):P:=h
theorem zXh (h:P:=by
  refine aL results19 rfl A0 ?_
  exact vb zib
 ):P:=h
theorem zYh (h:P:=by exact PJ.mid ⟨(congrArg (λb=>some (Value.bool b)) z9),rfl,rfl,rfl,rfl,rfl,rfl,rfl,rfl,rfl,trivial⟩):P:=h
theorem zZh (h:P:=by
  intro b_ w_ sZ pN iA xy yz
  exact OJ.done (hk _ _ _ ⟨b_,w_,rfl,rfl,rfl,sZ,iA,xy⟩)
 ):P:=h
theorem z0h (h:P:=by exact bS (.inl rfl) results83 bD λW hS=>⟨gj,rfl,hS.base A3 zA,rfl,ZU _ _,λq h=>zQ,λq h=>zQ⟩):P:=h
theorem z1h (h:P:=by
  rcases h with h|⟨b,off,h1,h2,h3⟩
  · exact .inl h
  · exact .inr ⟨b,off,h1,by omega,h3.up (hw b h2)⟩
 ):P:=h
theorem z2h (h:P:=by
  rcases aY.1 hb with hb|hb
  · have:=hm.lt b hb;simp only;omega
  · simp at hb;subst hb;simp
 ):P:=h
theorem z3h (h:P:=by
  intro dh
  refine B 8 ?_
  refine ag (j+1) ⟨by omega,dR.next hx hy (Decidable.not_not.1 cY)⟩
 ):P:=h
theorem z4h (h:P:=by rcases he with rfl|rfl<;>exact key):P:=h
theorem z5h (h:P:=by exact OJ.done (hk _ _ _ ⟨bn,rfl,rfl,rfl,rfl,hfn⟩)):P:=h
theorem z6h (h:P:=by
  refine aL results135 rfl A1 ?_
  first|exact congrArg ab (nFm cY hx)|exact congrArg ab (nIo AW hx)
 ):P:=h
theorem z7h (h:P:=by
  rw[if_neg hc]
  exact⟨λh=>zQ,λ⟨q,h0,h1,_⟩=>by cases h0;exact absurd h1 hc⟩
 ):P:=h
theorem z8h (h:P:=by
  refine aL results103 rfl A0 ?_
  exact congrArg ab znc
 ):P:=h
theorem z9h (h:P:=by
  rcases hx with(hx|hx)|hx
  · exact .inl hx
  · have:=hV k hx;omega
  · exact .inr (hH k hk hx)
 ):P:=h
theorem zai (h:P:=by exact⟨by omega,λh=>by have:=(IY k h).1;omega,λh=>by have:=(pE W hS k h).1;omega⟩):P:=h
theorem Wu (h:P:=by exact vb zeb):P:=h
theorem zdi (h:P:=by
  rintro e w' ⟨rfl,rfl⟩
  exact⟨rfl,Below.refl _ _⟩
 ):P:=h
theorem zei (h:P:=by
  subst hr
  have h0:xs=[]:=ae
  rw[h0];exact(n6h W).mono λe w2 h=>⟨h.1,nni,h.2⟩
 ):P:=h
theorem zfi (h:P:=by
  intro i y hi hy
  by_cases e:i=j
  · subst e;rw[hx]at hy;cases hy;exact hp
  · exact h i y aa hy
 ):P:=h
theorem zgi (h:P:=by
  intro i y hi hy
  by_cases e:i=j
  · subst e;rw[hx]at hy;cases hy;exact hk
  · exact h i y aa hy
 ):P:=h
theorem zhi (h:P:=by
  by_cases e2:j=k
  · simp[e2]
  · simp[e2,show ¬k=j from λx=>e2 x.symm]
 ):P:=h
theorem zii (h:P:=by
  by_cases e3:j=i'
  · subst e3
    rw[h3]
    simp[(hJ.1 h3).1]
  · simp[e3]
 ):P:=h
theorem zji (h:P:=by
  unfold IntKind.wrap
  simp[IntKind.bits,IntKind.signed]
 ):P:=h
theorem zki (h:P:=by
  have e:a=some ⟨b,0,none⟩:=by injection he with h1 _ _;exact h1.symm
  subst e
  exact aI
 ):P:=h
theorem J3 (h:P:=by refine ag (j+1) aa):P:=h
theorem zmi (h:P:=by
  intro dh
  refine LC ?_
  refine ag (j+1) ⟨by omega,dR.next hx hy cY⟩
 ):P:=h
theorem zni (h:P:=by
  cases r2 with
  |nil=>trivial
  |row b cap sp=>exact hS.own (b,_) o8
 ):P:=h
theorem zoi (h:P:=by
  cases r1 with
  |nil=>trivial
  |row b cap sp=>exact hS.own (b,_) o8
 ):P:=h
theorem zpi (h:P:=by
  refine WU (λV=>hI (pre++[(⟨[nj (dk p.x.g.last) (j:Int)],aN yy,some ⟨sx,0,none⟩,1⟩:Dv)]) V) hX hV (⟨[nj (dk p.x.g.last) (j:Int)],aN yy,some ⟨sx,0,none⟩,1⟩:Dv) b2 W9 cF.alone (cF.own (b2,_) A1) (λh=>h.elim (λh=>by have:=(hM _ h).1;omega) (λh=>cF.apart (b2,_) A1 (.inr h))) (λW1 pj hv1 qB=>hy pre (⟨[nj (dk p.x.g.last) (j:Int)],aN yy,some ⟨sx,0,none⟩,1⟩:Dv) V W1 ⟨by simp only[cB,dI,fJ];omega,λd hd=>?_⟩ hv1 qB)
  rcases aY.1 hd with hd|hd
  · exact zbg
  · exact zAg
 ):P:=h
theorem Jo (h:P:=by
  refine aL results149 rfl A1 ?_
  exact z6f
 ):P:=h
theorem RR (h:P:=by
  refine zJd ?_
  exact z6f
 ):P:=h
theorem zsi (h:P:=by
  rcases uz with⟨h1,h2⟩|h2
  · exact z6g
  · by_cases h0:aQ gj.g.ns d.c.chs=[]
    · exact⟨[],by simp,.inl h0⟩
    · exact zkg
 ):P:=h
theorem Vh (h:P:=by
  refine zcf ?_
  exact z7f
 ):P:=h
theorem YX (h:P:=by
  refine B 17 ?_
  exact zag
 ):P:=h
theorem zvi (h:P:=by
  refine B 5 ?_
  exact Zh
 ):P:=h
theorem zwi (h:P:=by
  refine B 3 ?_
  exact ztg
 ):P:=h
theorem zxi (h:P:=by
  refine B 11 ?_
  exact RR
 ):P:=h
theorem vb {a b:Bool} (h:a=b):Go.Value.bool a=Go.Value.bool b:=congrArg _ h
theorem va {a b:Array Go.Value} (h:a=b):Go.Value.agg a=Go.Value.agg b:=congrArg _ h
theorem vi {a b:Int} (h:a=b):Go.Value.int .i64 a=Go.Value.int .i64 b:=congrArg _ h
theorem vu {a b:Int} (h:a=b):Go.Value.int .u64 a=Go.Value.int .u64 b:=congrArg _ h
theorem yV (k:Q) (h:ZW Q->P:=by intro Kz;intro b w hb ha ho hm hz;replace ha:=yb ha;replace ho:=yc ho;revert b w hb hm hz ha ho;exact Kz.p):P:=h ⟨k⟩
theorem yX (k:Q) (h:ZW Q->P:=by intro Kz;refine UT rfl rfl rfl ?_;intro b w hb ha ho hm hz;replace ha:=yb ha;replace ho:=yc ho;revert b w hb hm hz ha ho;exact Kz.p):P:=h ⟨k⟩
theorem yW (k:Q) (h:ZW Q->P:=by intro Kz;intro b ha ho;replace ha:=yb ha;replace ho:=yc ho;revert b ha ho;exact Kz.p):P:=h ⟨k⟩
end Px
