/- Proofs by default. No conditions. -/
import Derived.ProofKit
import Derived.KernelRfl
set_option linter.unusedSimpArgs false
set_option linter.unusedVariables false
set_option linter.unusedSectionVars false
namespace Px
variable {P Q A S':Prop}
section
variable {α:Type _} {a x0 x1 x2 x3 x4 x5 x6 x7 x8 x9 ry rT vW x13 Bq x15:α} {l:List α}
theorem A0:a∈a::l:=.head _
theorem A1:a∈x0::a::l:=.tail _ A0
theorem A2:a∈x0::x1::a::l:=.tail _ A1
theorem A3:a∈x0::x1::x2::a::l:=.tail _ A2
theorem A4:a∈x0::x1::x2::x3::a::l:=.tail _ A3
theorem A5:a∈x0::x1::x2::x3::x4::a::l:=.tail _ A4
theorem A6:a∈x0::x1::x2::x3::x4::x5::a::l:=.tail _ A5
theorem A7:a∈x0::x1::x2::x3::x4::x5::x6::a::l:=.tail _ A6
theorem A8:a∈x0::x1::x2::x3::x4::x5::x6::x7::a::l:=.tail _ A7
theorem A9:a∈x0::x1::x2::x3::x4::x5::x6::x7::x8::a::l:=.tail _ A8
theorem A10:a∈x0::x1::x2::x3::x4::x5::x6::x7::x8::x9::a::l:=.tail _ A9
theorem A11:a∈x0::x1::x2::x3::x4::x5::x6::x7::x8::x9::ry::a::l:=.tail _ A10
theorem A12:a∈x0::x1::x2::x3::x4::x5::x6::x7::x8::x9::ry::rT::a::l:=.tail _ A11
theorem A13:a∈x0::x1::x2::x3::x4::x5::x6::x7::x8::x9::ry::rT::vW::a::l:=.tail _ A12
theorem A14:a∈x0::x1::x2::x3::x4::x5::x6::x7::x8::x9::ry::rT::vW::x13::a::l:=.tail _ A13
theorem A15:a∈x0::x1::x2::x3::x4::x5::x6::x7::x8::x9::ry::rT::vW::x13::Bq::a::l:=.tail _ A14
theorem A16:a∈x0::x1::x2::x3::x4::x5::x6::x7::x8::x9::ry::rT::vW::x13::Bq::x15::a::l:=.tail _ A15
end
theorem R2 (h:P:=by exact λ_ _=>rfl):P:=h
abbrev aC:=@Nat.le_refl
abbrev dS:=@Nat.le_trans
abbrev oh:=@Nat.lt_of_lt_of_le
abbrev bO:=@Array.getElem?_eq_some_iff
abbrev cF:=@List.mem_of_getElem?
abbrev iB:=@List.mem_iff_getElem?
abbrev fy:=@Nat.le_of_ble_eq_true
abbrev Ji:=@Int.eq_ofNat_of_zero_le
abbrev CS:=@List.map_toArray
abbrev qe:=@List.getElem?_eq_some_iff
abbrev aYs:=@Array.getElem?_append_left
abbrev vy:=@List.mem_filter
abbrev dO:=@List.mem_map
abbrev iM:=@List.map_append
abbrev jv:=@List.map_cons
abbrev WQ:=@List.getElem?_set_ne
abbrev xL:=@List.ext_getElem?
abbrev ft:=@List.mem_cons
abbrev eU:=@List.length_append
abbrev vU:=@Bool.and_eq_true
abbrev kC:=@List.getElem?_eq_getElem
abbrev Qg:=@List.getElem?_toArray
abbrev VU:=@Option.map_some
abbrev xe:=@List.mem_range
abbrev act:=@List.size_toArray
abbrev adt:=@List.drop_eq_nil_iff
abbrev aet:=@List.drop_eq_getElem_cons
abbrev xk:=@List.all_eq_true
abbrev rM:=@Nat.zero_add
abbrev OU:=@List.length_set
abbrev jg:=@List.length_map
abbrev NC:=@List.getElem_mem
abbrev alt:=@List.getElem?_map
abbrev cd:=@Nat.zero_le
abbrev oJ:=@List.eq_nil_of_length_eq_zero
abbrev kS:=@List.map_nil
abbrev kb:=@List.length_cons
abbrev oe:=@List.length_nil
abbrev lP:=@List.append_assoc
abbrev gB:=@List.set_cons_succ
abbrev Jh:=@Nat.div_add_mod
abbrev IN:=@Nat.add_mul
abbrev BM:=@Nat.mul_le_mul_right
abbrev Nj:=@Nat.mul_comm
abbrev QS:=@Int.toNat_natCast
abbrev J2:=@List.take_append_drop
abbrev yp:=@List.length_drop
abbrev aAt:=@List.take_succ_eq_append_getElem
abbrev Bd:=@Nat.mul_one
abbrev gU:=@List.cons_append
abbrev fP:=@List.nil_append
abbrev dG:=@List.append_nil
abbrev eI:=@List.set_cons_zero
abbrev vh:=@List.eraseIdx_cons_zero
abbrev zz:=@List.eraseIdx_cons_succ
abbrev dQ:=@List.mem_append
abbrev jc:=@List.not_mem_nil
abbrev lE:=@List.take_of_length_le
abbrev xB:=@List.mem_singleton
abbrev aMt:=@List.findIdx?_eq_some_iff_getElem
abbrev wW:=@Bool.eq_iff_iff
abbrev P5:=@Array.length_toList
abbrev oK:=@List.length_take
abbrev aQt:=@Array.getElem?_toList
abbrev aRt:=@List.getElem?_append_left
abbrev aSt:=@List.getElem?_append_right
abbrev R5:=@Option.map_eq_some_iff
abbrev Ko:=@List.take_length
abbrev RI:=@List.length_filter_le
abbrev VV:=@List.length_singleton
abbrev V4:=@Nat.lt_or_ge
abbrev aYt:=@List.mem_of_mem_take
theorem ya (h:A) (s:A->S':=by intro h;(try simp only[decide_eq_true_eq,decide_eq_false_iff_not,Bool.not_eq_true',Bool.not_eq_false']at h);exact h):S':=s h
theorem yb (h:A) (s:A->S':=by intro h;(try simp only[ah]at h);exact h):S':=s h
theorem yc (h:A) (s:A->S':=by intro h;(try simp only[cu,book,gU,fP,eI,gB,ne_eq]at h);exact h):S':=s h
theorem yd (h:A) (s:A->S':=by intro h;(try simp only[cu,eI,gB,ne_eq,and_true]at h);exact h):S':=s h
theorem ye (h:A) (s:A->S':=by intro h;(try simp only[Fr,Gh.lent,Gh.no,ah,and_true,false_or]at h);exact h):S':=s h
theorem yf (h:A) (s:A->S':=by intro h;(try simp only[nD,and_true]at h);exact h):S':=s h
theorem yg (h:A) (s:A->S':=by intro h;(try simp only[nD,gU,fP,dG,eI,gB,and_true]at h);exact h):S':=s h
theorem zD (h:P:=by first|(first|exact True.intro|assumption|(simp only[cu,eJ,book,gU,fP,dG,lP,eI,gB,vh,zz,ne_eq,and_true];(repeat' apply And.intro);all_goals first|omega|exact True.intro|exact Rw.off_ge ew aa)|(simp[cu]<;>omega))|fail):P:=h
theorem zF (h:P:=by decide):P:=h
theorem zH (h:P:=by first|(first|(simp only[Over,eI,gB,vh,zz,and_true];omega)|(simp[Over]<;>omega))|fail):P:=h
theorem zI (h:P:=by simp only[ah,and_true];omega):P:=h
theorem zJ (h:P:=by first|exact True.intro|(simp only[Over,eI,gB,vh,zz,and_true];omega)):P:=h
theorem zL (h:P:=by exact λh=>h):P:=h
theorem zM (h:P:=by repeat' first|exact True.intro|exact Rw.off_ge (Rw.ge_of gd A0) aa|refine eJ.2 ⟨?_,?_⟩|refine⟨by omega,?_⟩):P:=h
theorem zN (h:P:=by simp only[cu,eJ,book,gU,fP,dG,lP,eI,gB,vh,zz,ne_eq,and_true];(repeat' apply And.intro);all_goals first|omega|exact True.intro|exact Rw.off_ge eo aa):P:=h
theorem zO (h:P:=by exact λ_ _ h=>h):P:=h
theorem zP (h:P:=by simp):P:=h
theorem zQ (h:P:=by simp only[Over,nl,gU,fP,dG,and_true];(repeat' apply And.intro);all_goals first|omega|exact True.intro|exact Rw.over (Rw.ge_mono bW aa)):P:=h
theorem zS (h:P:=by simp only[Over,nl,gU,fP,dG,eI,and_true];(repeat' apply And.intro);all_goals first|omega|exact True.intro|exact Rw.over (Rw.ge_mono bW aa)):P:=h
theorem zW (h:P:=by first|(first|(simp only[cu,book,gU,fP,eI,gB,vh,zz,ne_eq,and_true];omega)|(simp[cu]<;>omega))|fail):P:=h
theorem zX (h:P:=by exact λcv L' H' hd hP=>X.v (dp rfl)):P:=h
theorem zZ (h:P:=by dsimp only;omega):P:=h
theorem z0 (h:P:=by exact λcv L' H' hd hP=>X.v (du underlying38 rfl sizeOf3 rfl)):P:=h
theorem z1 (h:P:=by exact λcv L' H' hd hP=>X.v (du underlying69 rfl sizeOf38 rfl)):P:=h
theorem z2 (h:P:=by simp_all):P:=h
theorem z3 (h:P:=by rw[show fZ c.chs=false by assumption];decide):P:=h
theorem z4 (h:P:=by simp only[eU,kb,oe];omega):P:=h
theorem z5 (h:P:=by simp only[Over,nl,gU,fP,dG,eI,gB,and_true];(repeat' apply And.intro);all_goals first|omega|exact True.intro|exact Rw.over (Rw.ge_mono Tu aa)|exact Rw.over (Rw.ge_mono Tv aa)):P:=h
theorem z6 (h:P:=by first|rfl|(rw[wW];first|(simp;omega)|simp)):P:=h
theorem z7 (h:P:=by exact λcv L' H' hd hP=>X.off rfl R2):P:=h
theorem z8 (h:P:=by exact λcv L' H' hd hP=>X.cv call291 rfl (λW hS _=>nTb _ W)):P:=h
theorem z9 (h:P:=by exact λcv L' H' hd hP=>X.v (du underlying100 rfl sizeOf3 rfl)):P:=h
theorem Iv (h:P:=by exact λcv L' H' hd hP=>X.cv call81 rfl (λW hS _=>Iu _ W)):P:=h
theorem uy (h:P:=by simp only[Over,eI,and_true];omega):P:=h
theorem WJ (h:P:=by repeat' first|exact True.intro|exact Rw.over (Rw.ge_mono (Rw.ge_of gd A0) aa)|refine nl.2 ⟨?_,?_⟩|refine⟨by omega,?_⟩):P:=h
theorem cM (h:P:=by grind):P:=h
theorem zeb (h:P:=by simp only[Over,nl,gU,fP,dG,eI,and_true];(repeat' apply And.intro);all_goals first|omega|exact True.intro|exact Rw.over (Rw.ge_mono jX aa)):P:=h
theorem su (h:P:=by exact λkE=>X.v (dp rfl)):P:=h
theorem zgb (h:P:=by unfold sY;rw[nUb (p:=(λx:We=>decide (x.w.body.length<=200))) hy (decide_eq_false aa),Bool.and_false];rfl):P:=h
theorem lz (h:P:=by simp[Act.put,hD]):P:=h
theorem mR (h:P:=by rw[<-iq];rfl):P:=h
theorem vF (h:P:=by simp only[Over,and_true];omega):P:=h
theorem zkb (h:P:=by simp only[cu,eJ,book,gU,fP,dG,lP,eI,gB,vh,zz,ne_eq,and_true];(repeat' apply And.intro);all_goals first|omega|exact True.intro|exact Rw.off_ge jW aa):P:=h
theorem zlb (h:P:=by first|(rw[wW,nrc];unfold uI;rw[<-BI,<-BJ];simp_all<;>omega)|fail):P:=h
theorem mV (h:P:=by simp[Act.put,jY]):P:=h
theorem znb (h:P:=by unfold sY;rw[nUb (p:=(λx:Bx=>decide (x.w.body.length<=200))) hy (decide_eq_false aa)];rfl):P:=h
theorem JT (h:P:=by exact λcv L' H' hd hP=>X.v (du underlying36 rfl sizeOf3 rfl)):P:=h
theorem CQ (h:P:=by exact λcv L' H' hd hP=>X.v (Ae rfl rfl)):P:=h
theorem zqb (h:P:=by first|exact nKd aa|exact nWd hx hy ew|exact nPd aa bT aa):P:=h
theorem vn (h:P:=by simp only[kb,oe];omega):P:=h
theorem zsb (h:P:=by exact λkE=>X.v (RV.re (v':=.agg YH) (jE underlying31 zeroValue31 (ec.c sizeOf22 (ec.c sizeOf23 (ec.c sizeOf24 (ec.c sizeOf25 (ec.c sizeOf26 (ec.c sizeOf27 (ec.c sizeOf28 (ec.c sizeOf29 (ec.n))))))))) rfl rfl) (rfl))):P:=h
theorem Bw (h:P:=by rw[he];omega):P:=h
theorem zub (h:P:=by simp only[nz];omega):P:=h
theorem N0 (h:P:=by exact λkE=>X.v (RV.re (v':=aK) (iU rfl rfl) rfl)):P:=h
theorem mZ (h:P:=by simp;omega):P:=h
theorem VA (h:P:=by exact λcv L' H' hd hP=>X.v (du underlying86 rfl sizeOf84 rfl)):P:=h
theorem zyb (h:P:=by obtain⟨gA,rfl,rfl,rfl,gd,cK⟩:=hP;exact ne call40 rfl rfl (λW hS _=>by obtain⟨a9,c9,e9,h9⟩:=gA.sl' (t:=3) cK (Rw.at_own hS (λp hp=>by simp[hp]));have h8:=nZk (cA (nC s.pls) l.fo) (dS (yS (Tn s.pls).1 l.fo) znd) W.heap.size a9 c9 W (aC _) h9 p.fo;rw[<-n1i,hu,<-e9]at h8;exact h8) (λ_=>rfl)):P:=h
theorem IA (h:P:=by first|rfl|simp[book,I8,Value.cells]):P:=h
theorem D4 (h:P:=by exact λkE=>X.v (Ae rfl rfl)):P:=h
theorem Cq (h:P:=by simp only[jg,kb,oe];omega):P:=h
theorem An (h:P:=by simpa using h1):P:=h
theorem VK (h:P:=by exact λcv L' H' hd hP=>X.v (du underlying100 rfl sizeOf36 rfl)):P:=h
theorem zEb (h:P:=by exact λcv L' H' hd hP=>X.v (RV.re (v':=aK) (pC rfl rfl) (vb (decide_eq_true aa)))):P:=h
theorem Zu (h:P:=by exact λcv L' H' hd hP=>X.v (du underlying86 rfl sizeOf81 rfl)):P:=h
theorem U7 (h:P:=by exact λcv L' H' hd hP=>X.v (du underlying38 rfl sizeOf36 rfl)):P:=h
theorem xn (h:P:=by cases h):P:=h
theorem zIb (h:P:=by exact λcv L' H' hd hP=>X.v (RV.re (v':=aO) (iU rfl rfl) (vb (by simp[hf])))):P:=h
theorem qw (h:P:=by simp[Rw.hp]):P:=h
theorem zKb (h:P:=by simp only[cu,eJ,gU,fP,dG,and_true];(repeat' apply And.intro);all_goals first|omega|exact True.intro|exact Rw.off_ge bW aa):P:=h
theorem Z4 (h:P:=by have:=tM _ e;dsimp only at this;simp only[cu,eI,and_true];omega):P:=h
theorem ZP (h:P:=by exact λcv L' H' hd hP=>X.v (du underlying100 rfl sizeOf96 rfl)):P:=h
theorem Z7 (h:P:=by exact λcv L' H' hd hP=>X.v (du underlying100 rfl sizeOf95 rfl)):P:=h
theorem ZN (h:P:=by exact λcv L' H' hd hP=>X.v (du underlying271 rfl sizeOf3 rfl)):P:=h
theorem GQ (h:P:=by simpa using g1):P:=h
theorem zRb (h:P:=by first|(unfold sY;rw[BS,haw,wW];simp_all<;>omega)|fail):P:=h
theorem zSb (h:P:=by by_cases h9:cp=i2;(left;apply oJ;rw[yp];omega);(right;rw[if_neg h9,oK,Nat.min_eq_left aa,rM])):P:=h
theorem zTb (h:P:=by have:=Av _ e;dsimp only at this;simp only[cu,eI,and_true];omega):P:=h
theorem zUb (h:P:=by exact λkE=>X.v (RV.re (v':=.agg (lkC (sl 1 r sg))) (eZ (i:=4) rfl isAgg38 sizeOf38 rfl rfl) (rfl))):P:=h
theorem zVb (h:P:=by rw[hY,<-hN];exact cN):P:=h
theorem ZV (h:P:=by rw[oK,Nat.min_eq_left aa]):P:=h
theorem VJ (h:P:=by intro p hp;simp at hp;subst hp;exact hfn):P:=h
theorem XY (h:P:=by simp only[Over,eI,gB,vh,zz,and_true];omega):P:=h
theorem zZb (h:P:=by exact λcv L' H' hd hP=>X.v (du underlying147 rfl sizeOf143 rfl)):P:=h
theorem z0b (h:P:=by exact λcv L' H' hd hP=>X.v (du underlying145 rfl sizeOf143 rfl)):P:=h
theorem z1b (h:P:=by exact λcv L' H' hd hP=>X.v (du underlying139 rfl sizeOf115 rfl)):P:=h
theorem z2b (h:P:=by exact λcv L' H' hd hP=>X.v (du underlying143 rfl sizeOf50 rfl)):P:=h
theorem z3b (h:P:=by exact λcv L' H' hd hP=>X.v (du underlying100 rfl sizeOf34 rfl)):P:=h
theorem z4b (h:P:=by simp only[Over,nl,gU,fP,dG,eI,and_true];(repeat' apply And.intro);all_goals first|omega|exact True.intro|exact Rw.over (Rw.ge_mono ri aa)|exact Rw.over (Rw.ge_mono eX aa)):P:=h
theorem UQ (h:P:=by first|((try simp only[Iq,oe,fP])<;>omega)|fail):P:=h
theorem z6b (h:P:=by simp only[Over,nl,gU,fP,dG,eI,and_true];(repeat' apply And.intro);all_goals first|omega|exact True.intro|exact Rw.over (Rw.ge_mono eo aa)|exact Rw.over (Rw.ge_mono bW aa)):P:=h
theorem z7b (h:P:=by exact λcv L' H' hd hP=>X.v (du underlying145 rfl sizeOf3 rfl)):P:=h
theorem z8b (h:P:=by exact λcv L' H' hd hP=>X.v (du underlying143 rfl sizeOf3 rfl)):P:=h
theorem z9b (h:P:=by intro k hk hx;simp only[jv,kS,ft,jc,or_false]at hx;omega):P:=h
theorem zac (h:P:=by exact λcv L' H' hd hP=>X.v (du underlying38 rfl sizeOf4 rfl)):P:=h
theorem zbc (h:P:=by simp only[eI,gB,gU,fP,dG,Over];exact⟨by omega,by omega,Rw.over (Rw.ge_of aB A2)⟩):P:=h
theorem zcc (h:P:=by simp only[cu,and_true];(repeat' apply And.intro);all_goals first|omega|exact True.intro):P:=h
theorem zdc (h:P:=by unfold CB;rw[if_neg (λh=>by have h9:=h.1;have h8:=h.2;rw[<-vv]at h9;omega)]):P:=h
theorem zec (h:P:=by exact λcv L' H' hd hP=>X.v (oE underlying32 sizeOf199 rfl rfl aa aa)):P:=h
theorem zfc (h:P:=by rw[<-Jg,<-hv1]):P:=h
theorem zgc (h:P:=by unfold eb;rw[List.any_eq_true.2 ⟨y,cF hy,decide_eq_true ew⟩];rfl):P:=h
theorem zhc (h:P:=by simp only[Over,eI,gB,and_true];omega):P:=h
theorem zic (h:P:=by first|(unfold y6;rw[wW];simp_all<;>omega)|fail):P:=h
theorem YV (h:P:=by rw[dG];exact Rw.over (Rw.ge_of aB A0)):P:=h
theorem zkc (h:P:=by exact λcv L' H' hd hP=>X.cv call121 rfl (λW hS _=>nVh W)):P:=h
theorem zlc (h:P:=by simp only[Over,book,eV,gU,fP,and_true];omega):P:=h
theorem zmc (h:P:=by rw[hY];exact aoH):P:=h
theorem xw (h:P:=by kernel_rfl):P:=h
theorem UR (h:P:=by first|((try simp only[oe])<;>omega)|fail):P:=h
theorem zpc (h:P:=by show q-1<q;omega):P:=h
theorem zqc (h:P:=by rw[Sz hz];rw[Bool.eq_false_iff.2 g1];simp[g2]):P:=h
theorem zrc (h:P:=by simp only[cu,eJ,gU,fP,dG,and_true];(repeat' apply And.intro);all_goals first|omega|exact True.intro|exact Rw.off_ge jW aa):P:=h
theorem zsc (h:P:=by have:=(hS.sizes);simp only[ah]at this;have:=(bO.1 rY).1;omega):P:=h
theorem ztc (h:P:=by rw[<-pM];congr 1;omega):P:=h
theorem Xr (h:P:=by rw[if_neg aa];omega):P:=h
theorem zvc (h:P:=by unfold eb;rw[Cu bT aa,decide_eq_false ew];rfl):P:=h
theorem zwc (h:P:=by unfold eb;rw[decide_eq_true (show f=o by assumption),Bool.or_true]):P:=h
theorem PT (h:P:=by show _*1<=_;omega):P:=h
theorem zyc (h:P:=by simp only[eI,gB,gU,fP];rfl):P:=h
theorem zzc (h:P:=by simp only[jv,kS,ft,jc,or_false];omega):P:=h
theorem zAc (h:P:=by exact λcv L' H' hd hP=>X.v (Pm rfl rfl)):P:=h
theorem zCc (h:P:=by unfold BH;simp only[<-vv];rw[wW];first|(simp;omega)|simp):P:=h
theorem zDc (h:P:=by have h9:=(N5 hnd uD uE uF).2.2;simp only[eU,kb,oe];omega):P:=h
theorem Yl (h:P:=by first|trivial|exact True.intro):P:=h
theorem Cf (h:P:=by simp[book]):P:=h
theorem zGc (h:P:=by simp[bM];omega):P:=h
theorem Vk (h:P:=by simp[Gh.no]):P:=h
theorem zIc (h:P:=by exact λcv L' H' hd hP=>X.v (RV.re (v':=ab ((j1:Nat):Int)) (u7 rfl rfl aa aa) (congrArg ab aa))):P:=h
theorem Yk (h:P:=by first|(simp[ue,keys]<;>try omega)|fail):P:=h
theorem zKc (h:P:=by simp only[eI,gB,Over,and_true];omega):P:=h
theorem zLc (h:P:=by simp only[oK,yp,eU,kb,oe];omega):P:=h
theorem zMc (h:P:=by simp only[cu,eI,gB,and_true];omega):P:=h
theorem zNc (h:P:=by obtain⟨ta,tc,wr,r8,rfl,rfl,rfl,rfl,rfl,rfl,rfl,rQ,fe,tH,dY,dw,eo⟩:=hP;exact X.v (gr rfl rfl)):P:=h
theorem zOc (h:P:=by obtain⟨ta,tc,wr,r8,rfl,rfl,rfl,rfl,rfl,rfl,rQ,fe,tH,dY,dw,eo⟩:=hP;exact X.v (gr rfl rfl)):P:=h
theorem IF (h:P:=by simp[lv]):P:=h
theorem zQc (h:P:=by obtain⟨ta,tc,wr,r8,rfl,rfl,rfl,rfl,rfl,rQ,fe,tH,dY,dw,eo⟩:=hP;exact X.v (gr rfl rfl)):P:=h
theorem zRc (h:P:=by simp only[eI,Over,and_true];omega):P:=h
theorem pP (h:P:=by rfl):P:=h
theorem zTc (h:P:=by rw[pR];omega):P:=h
theorem zUc (h:P:=by rw[lS];omega):P:=h
theorem zVc (h:P:=by simp only[dQ];exact .inr (.inl hp)):P:=h
theorem zWc (h:P:=by rw[dG];exact List.perm_append_comm):P:=h
theorem zXc (h:P:=by first|(first|omega|(unfold cj;(repeat' split)<;>omega))|fail):P:=h
theorem zYc (h:P:=by unfold B5;rw[cN,decide_eq_true aa];rfl):P:=h
theorem zZc (h:P:=by rw[show(Value.agg (kW (lM n m (bK n)) i)).cells=kW (lM n m (bK n)) i from rfl,kW,nZ]):P:=h
theorem z0c (h:P:=by first|exact PN _ _ aa aa|exact(Int.emod_eq_of_lt aa aa).symm):P:=h
theorem z1c (h:P:=by unfold B5;rw[decide_eq_false aa];rfl):P:=h
theorem z2c (h:P:=by rintro⟨g1,g2,g3⟩;first|omega|simp_all):P:=h
theorem z3c (h:P:=by simp only[oK,kb,oe];omega):P:=h
theorem z4c (h:P:=by intro u hu;simp only[xB]at hu;subst hu;rfl):P:=h
theorem Wa (h:P:=by simp[Value.cells]):P:=h
theorem Xs (h:P:=by rw[if_neg aa]):P:=h
theorem Wf (h:P:=by simpa using h2):P:=h
theorem z8c (h:P:=by exact λcv L' H' hd hP=>X.v (xx underlying3 underlying161 rfl aa aa)):P:=h
theorem z9c (h:P:=by have:=(bO.1 CG).1;have:=hB.size;omega):P:=h
theorem zad (h:P:=by have:=(hS.links w1 A1).size;rw[hB.block b1 aa];exact hS.old A1 aW bJ trivial):P:=h
theorem zbd (h:P:=by dsimp only;exact⟨by omega,by omega,by omega,by omega,by omega,by omega,by simp⟩):P:=h
theorem zcd (h:P:=by have:=hqy aa;omega):P:=h
theorem zdd (h:P:=by simp only[eI,gB,gU,fP,dG,Over];exact⟨by omega,Rw.over (Rw.ge_of aB A1)⟩):P:=h
theorem aa (h:P:=by omega):P:=h
theorem ew (h:P:=by assumption):P:=h
theorem zgd (h:P:=by have:=nI (enc:=λx=>(ak x).toArray) (n:=1) LU hy rfl zF;simpa[ak]using this):P:=h
theorem Wz (h:P:=by intro p hp;simp only[ft,jc,or_false]at hp;subst hp;exact .inl zP):P:=h
theorem zid (h:P:=by obtain⟨a7,c7,w7,rfl,rfl,rfl,gv⟩:=hP;exact ne call329 rfl rfl (λW hS _=>by have h9:=nyd G.g.ms pO W.heap.size G.ma G.mc W (aC _) (hG.ms.up aT hS.sm) (dX G.g.ns) a7 c7 (gv.up (hS.links w7 A0).size (hS.same A0 (aC _) zO trivial));rw[decide_eq_false h1]at h9;exact h9) (λ_=>rfl)):P:=h
theorem zjd (h:P:=by obtain⟨a7,c7,w7,rfl,rfl,rfl,gv⟩:=hP;exact ne call329 rfl rfl (λW hS _=>by have h9:=nyd G.g.ms pO W.heap.size G.ma G.mc W (aC _) (hG.ms.up aT hS.sm) (dX G.g.ns) a7 c7 (gv.up (hS.links w7 A0).size (hS.same A0 (aC _) zO trivial));rw[decide_eq_true h1]at h9;exact h9) (λ_=>rfl)):P:=h
theorem zkd (h:P:=by have:=nI (enc:=λx=>(ak x).toArray) (n:=1) aaz IS rfl zF;simpa[ak]using this):P:=h
theorem zld (h:P:=by have:=nI (enc:=λx=>(ak x).toArray) (n:=1) pV hy rfl zF;simpa[ak]using this):P:=h
theorem zmd (h:P:=by have:=nu (enc:=λx=>(oj x).toArray) (n:=4) LU hy rfl 0 zF;simpa[oj]using this):P:=h
theorem znd (h:P:=by have:=(Tn s.pls).2.2;have:=ho.pl;omega):P:=h
theorem zod (h:P:=by have:=nI ay hx rfl zF;simpa[encI]using this):P:=h
theorem zpd (h:P:=by intro p hp;simp at hp;subst hp;exact .inl zP):P:=h
theorem zqd (h:P:=by have:=nI (enc:=λx=>(ak x).toArray) (n:=1) amr hnO rfl zF;simpa[ak]using this):P:=h
theorem zrd (h:P:=by have:=nu (enc:=λx=>(oj x).toArray) (n:=4) LU hy rfl 1 zF;simpa[oj]using this):P:=h
theorem zsd (h:P:=by first|exact(decide_eq_true (nLh aa (λi x y hi=>bT i x y aa))).symm|exact(decide_eq_false (nNh hx hy z2)).symm|exact(decide_eq_false (λe=>by have:=congrArg List.length e;simp at this;omega)).symm):P:=h
theorem Vo (h:P:=by have:=nu (i:=(j:Int)-1) ay hy aa 0 zF;simpa[dJ]using this):P:=h
theorem zud (h:P:=by have:=nu (i:=(j:Int)-1) ay hy aa 0 zF;simpa[xi]using this):P:=h
theorem ZG (h:P:=by rw[hB.block q.2 aa];exact hS.old A0 kH zL zD):P:=h
theorem ZF (h:P:=by rw[hB.block q.1 aa];exact hS.old A0 jR zL zD):P:=h
theorem zY (h:P:=by exact rfl):P:=h
theorem td (h:P:=by first|assumption|exact λh=>h):P:=h
theorem aI (h:P:=by with_reducible first|exact isAgg3|exact isAgg4|exact isAgg9|exact isAgg22|exact isAgg24|exact isAgg27|exact isAgg28|exact isAgg31|exact isAgg34|exact isAgg36|exact isAgg38|exact isAgg42|exact isAgg45|exact isAgg47|exact isAgg50|exact isAgg54|exact isAgg62|exact isAgg66|exact isAgg69|exact isAgg81|exact isAgg82|exact isAgg84|exact isAgg86|exact isAgg95|exact isAgg96|exact isAgg97|exact isAgg98|exact isAgg100|exact isAgg106|exact isAgg115|exact isAgg134|exact isAgg139|exact isAgg143|exact isAgg145|exact isAgg147|exact isAgg152|exact isAgg156|exact isAgg161|exact isAgg184|exact isAgg187|exact isAgg199|exact isAgg217|exact isAgg228|exact isAgg232|exact isAgg233|exact isAgg254|exact isAgg271|exact isAgg287|exact isAgg288|exact isAgg289|exact isAgg325|exact isAgg335|exact isAgg399|exact isAgg427|exact isAgg429):P:=h
theorem mX (h:P:=by first|exact Nat.le_of_ble_eq_true rfl|exact Ur (by assumption) (by exact rfl) (by assumption)):P:=h
theorem wU (h:P:=by first|exact A0|exact A1|exact A2|exact A3|exact A4|exact A5|exact A6|exact A7|exact A8|exact A9):P:=h
theorem wV (h:P:=by first|exact True.intro|assumption|(simp only[cu,eJ,book,List.cons_append,List.nil_append,List.append_nil,List.append_assoc,List.set_cons_zero,List.set_cons_succ,List.eraseIdx_cons_zero,List.eraseIdx_cons_succ,ne_eq,and_true];(repeat' apply And.intro);all_goals first|omega|exact True.intro|exact Rw.off_ge (by assumption) (by omega))|(simp[cu]<;>omega)):P:=h
theorem az (h:P:=by(try(conv=>arg 2;whnf));with_reducible first|exact sizeOf3|exact sizeOf4|exact sizeOf5|exact sizeOf9|exact sizeOf22|exact sizeOf24|exact sizeOf27|exact sizeOf28|exact sizeOf31|exact sizeOf32|exact sizeOf34|exact sizeOf36|exact sizeOf38|exact sizeOf42|exact sizeOf45|exact sizeOf47|exact sizeOf50|exact sizeOf54|exact sizeOf62|exact sizeOf66|exact sizeOf69|exact sizeOf81|exact sizeOf82|exact sizeOf84|exact sizeOf86|exact sizeOf95|exact sizeOf96|exact sizeOf97|exact sizeOf98|exact sizeOf100|exact sizeOf106|exact sizeOf115|exact sizeOf139|exact sizeOf143|exact sizeOf145|exact sizeOf147|exact sizeOf152|exact sizeOf156|exact sizeOf161|exact sizeOf187|exact sizeOf199|exact sizeOf214|exact sizeOf216|exact sizeOf217|exact sizeOf228|exact sizeOf232|exact sizeOf233|exact sizeOf236|exact sizeOf238|exact sizeOf254|exact sizeOf271|exact sizeOf287|exact sizeOf288|exact sizeOf289|exact sizeOf325|exact sizeOf333|exact sizeOf335):P:=h
theorem bP (h:P:=by with_reducible first|exact underlying3|exact underlying5|exact underlying22|exact underlying24|exact underlying27|exact underlying28|exact underlying31|exact underlying32|exact underlying34|exact underlying36|exact underlying38|exact underlying50|exact underlying54|exact underlying58|exact underlying62|exact underlying66|exact underlying69|exact underlying81|exact underlying82|exact underlying84|exact underlying86|exact underlying95|exact underlying96|exact underlying97|exact underlying98|exact underlying100|exact underlying106|exact underlying115|exact underlying139|exact underlying143|exact underlying145|exact underlying147|exact underlying152|exact underlying156|exact underlying161|exact underlying187|exact underlying199|exact underlying216|exact underlying224|exact underlying228|exact underlying232|exact underlying238|exact underlying240|exact underlying271|exact underlying284|exact underlying287|exact underlying288|exact underlying289|exact underlying292|exact underlying325|exact underlying333|exact underlying335|exact underlying347):P:=h
theorem iO (h:P:=by with_reducible first|exact zeroValue3|exact zeroValue4|exact zeroValue34|exact zeroValue36|exact zeroValue38|exact zeroValue42|exact zeroValue45|exact zeroValue47|exact zeroValue54|exact zeroValue62|exact zeroValue66|exact zeroValue69|exact zeroValue84|exact zeroValue86|exact zeroValue96|exact zeroValue97|exact zeroValue100|exact zeroValue106|exact zeroValue139|exact zeroValue145|exact zeroValue147|exact zeroValue156|exact zeroValue161|exact zeroValue187|exact zeroValue199|exact zeroValue217|exact zeroValue228|exact zeroValue232|exact zeroValue233|exact zeroValue240|exact zeroValue254|exact zeroValue271|exact zeroValue284|exact zeroValue288|exact zeroValue289|exact zeroValue325|exact zeroValue333|exact zeroValue335):P:=h
theorem acY (h:P:=by repeat(first|exact ec.n|(apply ec.c;exact az))):P:=h
theorem Po (h:P:=by first|exact rfl|exact vb (decide_eq_false (by omega))|exact vb (decide_eq_true (by omega))|exact va (Eq.trans (Uq (by assumption) (by exact rfl) (by assumption)) (by exact rfl))|exact vu (by omega)|exact congrArg ab (by omega)|exact vb (by first|(simp;done)|(simp;omega))):P:=h
theorem aL (h:P:=by repeat(first|exact RS.n|(apply RS.t;exact rfl)|(apply RS.w (i:=0);exact rfl;exact aI;exact rfl;exact rfl)|(apply RS.w (i:=1);exact rfl;exact aI;exact rfl;exact rfl)|(apply RS.w (i:=2);exact rfl;exact aI;exact rfl;exact rfl)|(apply RS.w (i:=3);exact rfl;exact aI;exact rfl;exact rfl)|(apply RS.w (i:=4);exact rfl;exact aI;exact rfl;exact rfl)|(apply RS.w (i:=5);exact rfl;exact aI;exact rfl;exact rfl)|(apply RS.wAw (i:=0);exact rfl;exact aI;exact az;exact rfl;exact rfl)|(apply RS.wA (i:=0);exact rfl;exact aI;exact az;exact rfl;exact mX)|(apply RS.wAw (i:=1);exact rfl;exact aI;exact az;exact rfl;exact rfl)|(apply RS.wA (i:=1);exact rfl;exact aI;exact az;exact rfl;exact mX)|(apply RS.wAw (i:=2);exact rfl;exact aI;exact az;exact rfl;exact rfl)|(apply RS.wA (i:=2);exact rfl;exact aI;exact az;exact rfl;exact mX)|(apply RS.wAw (i:=3);exact rfl;exact aI;exact az;exact rfl;exact rfl)|(apply RS.wA (i:=3);exact rfl;exact aI;exact az;exact rfl;exact mX)|(apply RS.wAw (i:=4);exact rfl;exact aI;exact az;exact rfl;exact rfl)|(apply RS.wA (i:=4);exact rfl;exact aI;exact az;exact rfl;exact mX)|(apply RS.wAw (i:=5);exact rfl;exact aI;exact az;exact rfl;exact rfl)|(apply RS.wA (i:=5);exact rfl;exact aI;exact az;exact rfl;exact mX)|(apply RS.r;exact aI;exact rfl;exact wU;exact td;exact td;exact wV;exact rfl)|(apply RS.rA;exact aI;exact az;exact rfl;exact wU;exact td;exact td;exact wV;exact mX))):P:=h
theorem aT (h:P:=by first|exact Nat.le_trans hN (hS.links w A0).size|exact Nat.le_trans hN (hS.links w A1).size|exact Nat.le_trans hN (hS.links w A2).size|exact Nat.le_trans hN (hS.links w A3).size|exact Nat.le_trans hN (hS.links w A4).size|exact Nat.le_trans hN (hS.links w A5).size|exact Nat.le_trans hN (hS.links w A6).size|exact Nat.le_trans hN (hS.links w A7).size|exact Nat.le_trans hN (hS.links w A8).size|exact Nat.le_trans hN (hS.links w A9).size):P:=h
theorem MR (h:P:=by first|(first|((with_reducible show RV _ _ _ _ _ (.move _) _);exact dp zY)|((with_reducible show RV _ _ _ _ _ (.assign _) _);exact po zY)|((with_reducible show RV _ _ _ _ _ (.fieldAddr _ _ _) _);exact du bP zY az zY)|((with_reducible show RV _ _ _ _ _ (.extract _ _) _);exact gr zY zY)|((with_reducible show RV _ _ _ _ _ (.binOp .add _ _ _ _) _);first|exact FE zY zY aa aa|exact H3 zY zY aa aa)|((with_reducible show RV _ _ _ _ _ (.pick _ _ _) _);first|exact Ae zY zY|exact Pm zY zY)|((with_reducible show RV _ _ _ _ _ (.call _) _);first|exact lQ bP zY|exact Uo bP zY))|(first|((with_reducible show RV _ _ _ _ _ (.binOp .lss _ _ _ _) _);exact FD zY zY)|((with_reducible show RV _ _ _ _ _ (.indexAddr _ _ _) _);first|exact oE bP az zY zY aa aa|exact qH bP az zY zY aa aa)|((with_reducible show RV _ _ _ _ _ (.load _ _) _);first|exact B7 (i:=0) zY zY aI zY|exact B7 (i:=1) zY zY aI zY|exact B7 (i:=2) zY zY aI zY|exact B7 (i:=3) zY zY aI zY|exact B7 (i:=4) zY zY aI zY|exact B7 (i:=5) zY zY aI zY|exact anK zY td aI wU td wV zY|exact o5 (i:=0) zY zY aI az zY|exact o5 (i:=1) zY zY aI az zY|exact o5 (i:=2) zY zY aI az zY|exact o5 (i:=3) zY zY aI az zY|exact o5 (i:=4) zY zY aI az zY|exact o5 (i:=5) zY zY aI az zY|exact T6 zY td aI az wU td wV zY|exact tX (i:=0) zY zY aI az mX|exact tX (i:=1) zY zY aI az mX|exact tX (i:=2) zY zY aI az mX|exact tX (i:=3) zY zY aI az mX|exact tX (i:=4) zY zY aI az mX|exact tX (i:=5) zY zY aI az mX|exact acB zY td aI az wU td wV mX)|((with_reducible show RV _ _ _ _ _ (.unOp .not _ _) _);exact ij zY)|((with_reducible show RV _ _ _ _ _ (.binOp .geq _ _ _ _) _);exact pC zY zY)|((with_reducible show RV _ _ _ _ _ (.binOp .eql _ _ _ _) _);first|exact iU zY zY|exact P3 zY zY)|((with_reducible show RV _ _ _ _ _ (.nilCheck _) _);exact Um zY))|(first|((with_reducible show RV _ _ _ _ _ (.binOp .gtr _ _ _ _) _);exact C6 zY zY)|((with_reducible show RV _ _ _ _ _ (.makeFunc _ _ _) _);exact acA zY)|((with_reducible show RV _ _ _ _ _ (.binOp .neq _ _ _ _) _);first|exact aN zY zY|exact aoI bP zY zY|exact oO bP zY zY)|((with_reducible show RV _ _ _ _ _ (.binOp .sub _ _ _ _) _);first|exact u7 zY zY aa aa|exact uf zY zY aa aa)|((with_reducible show RV _ _ _ _ _ (.convert _ _ _) _);first|exact xx bP bP zY aa aa|exact xE bP bP zY aa aa)|((with_reducible show RV _ _ _ _ _ (.build _ _) _);first|exact uB bP iO az zY zY|exact jE bP iO acY zY zY)|((with_reducible show RV _ _ _ _ _ (.binOp .leq _ _ _ _) _);exact acv zY zY))|(first|((with_reducible show RV _ _ _ _ _ (.binOp .mul _ _ _ _) _);exact TV zY zY aa aa))):P:=h
theorem zR (h:P:=by repeat(first|exact trivial|refine⟨rfl,?_⟩)):P:=h
theorem zDr (h:P:=by repeat(first|exact Dr.z|apply Dr.s)):P:=h
theorem zKn (h:P:=by repeat(first|exact Kn.nil|(apply Kn.keep;exact rfl)|(apply Kn.skip;exact rfl))):P:=h
theorem zSU (h:P:=by repeat(first|exact trivial|refine⟨rfl,?_⟩)):P:=h
theorem zKS (h:P:=by repeat(first|(apply KS.done;exact rfl)|(apply KS.keep;exact rfl)|(apply KS.skip;exact rfl)|exact KS.nil)):P:=h
theorem zch (h:P:=by intro cv L' H' hd hP;(rcases cv with _|⟨v1,_|⟨v2,_|⟨_,_⟩⟩⟩<;>try exact False.elim hP);all_goals(first|obtain⟨rfl,rfl⟩:=hP|obtain⟨b6,rfl,rfl,rfl,jb,Ci⟩:=hP|obtain⟨b6,b7,c7,s7,rfl,rfl,rfl,rfl,jb,Ci,tu,UY,zA⟩:=hP);all_goals(first|exact X.v (ad isAgg3 rfl A0 bQ aZ zW rfl))):P:=h
theorem zci (h:P:=by intro cv L' H' hd hP;(rcases cv with _|⟨v1,_|⟨v2,_|⟨v3,_|⟨_,_⟩⟩⟩⟩<;>try exact False.elim hP);all_goals(first|obtain⟨rfl,rfl⟩:=hP|obtain⟨b6,rfl,rfl,rfl,jb,Ci⟩:=hP|obtain⟨b6,b7,c7,s7,rfl,rfl,rfl,rfl,jb,Ci,tu,UY,zA⟩:=hP|obtain⟨b6,b7,c7,s7,jw,c12,XS,rfl,rfl,rfl,rfl,rfl,jb,Ci,tu,UY,zA,XT,ahE,JI⟩:=hP);all_goals(first|exact X.v (ad isAgg9 rfl A0 bQ aZ zW rfl))):P:=h
theorem zcj (h:P:=by intro cv L' H' hd hP;(rcases cv with _|⟨v1,_|⟨v2,_|⟨_,_⟩⟩⟩<;>try exact False.elim hP);all_goals(first|obtain⟨rfl,rfl⟩:=hP|obtain⟨b9,rfl,rfl,rfl,oF,P6⟩:=hP|obtain⟨b9,iK,zC,Cj,rfl,rfl,rfl,rfl,oF,P6,JJ,P7,sf⟩:=hP);all_goals(first|exact X.v (ad isAgg115 rfl A0 gI iA zW rfl))):P:=h
theorem zck (h:P:=by intro cv L' H' hl hd hP;(obtain⟨x0,x5,x6,rfl⟩:=gO hl;rcases x0 with _|v0<;>rcases x5 with _|v5<;>rcases x6 with _|v6<;>try exact False.elim hP);all_goals(first|obtain⟨rfl,rfl⟩:=hP|obtain⟨lO,rfl,rfl,rfl,kA,vQ⟩:=hP|obtain⟨iR,tv,tw,rfl,rfl,rfl,r7,xU,xV⟩:=hP|obtain⟨lO,iR,tv,tw,rfl,rfl,rfl,rfl,kA,vQ,r7,xU,xV⟩:=hP|obtain⟨lO,iR,tv,tw,zV,U2,Qa,rfl,rfl,rfl,rfl,rfl,kA,vQ,r7,xU,xV,DB,ahP,JL⟩:=hP);all_goals(first|exact X.v (ad isAgg9 rfl A0 aW bJ trivial rfl)|exact X.v (ad isAgg9 rfl A0 aW bJ zW rfl))):P:=h
theorem U6 (h:P:=by intro cv L' H' hd hP;(rcases cv with _|⟨v1,_|⟨_,_⟩⟩<;>try exact False.elim hP);all_goals(first|obtain⟨rfl,rfl⟩:=hP|obtain⟨b4,rfl,rfl,rfl,dL,U8,dP⟩:=hP);all_goals(first|exact X.v (bZ isAgg69 sizeOf69 rfl A0 aW bJ zW rfl)|exact X.v (ad isAgg3 rfl A0 aW bJ zW rfl)|exact X.v (bZ isAgg38 sizeOf38 rfl A0 aW bJ zW rfl))):P:=h
theorem zcm (h:P:=by intro cv L' H' hl hd hP;(obtain⟨vW,Bq,rfl⟩:=kY hl;rcases vW with _|v12<;>rcases Bq with _|NS<;>try exact False.elim hP);all_goals(first|obtain⟨rfl,rfl⟩:=hP|obtain⟨gg,rfl,rfl,rfl,pL,Br⟩:=hP|obtain⟨b3,rfl,rfl,rfl,cP,Yy⟩:=hP|obtain⟨gg,b3,rfl,rfl,rfl,rfl,pL,Br,cP,Yy⟩:=hP);all_goals(first|exact X.v (RV.re (eg isAgg34 sizeOf34 rfl A0 aW bJ trivial (fy rfl)) rfl)|exact X.v (RV.re (eg isAgg34 sizeOf34 rfl A0 aW bJ zW (fy rfl)) rfl)|exact X.v (ad isAgg3 rfl A0 aW bJ trivial rfl)|exact X.v (ad isAgg3 rfl A0 aW bJ zW rfl))):P:=h
theorem Oc (h:P:=by intro cv L' H' hd hP;(rcases cv with _|⟨v1,_|⟨_,_⟩⟩<;>try exact False.elim hP);all_goals(first|obtain⟨rfl,rfl⟩:=hP|obtain⟨a7,c7,w7,rfl,rfl,rfl,gv⟩:=hP);all_goals(first|exact X.v (ad isAgg81 rfl A0 aW bJ trivial rfl)|exact X.v (ad isAgg81 rfl A1 aW bJ trivial rfl)|exact X.v (RV.re (eg isAgg84 sizeOf84 rfl A0 aW bJ trivial (fy rfl)) rfl)|exact X.v (RV.re (eg isAgg84 sizeOf84 rfl A1 aW bJ trivial (fy rfl)) rfl))):P:=h
theorem VI (h:P:=by intro cv L' H' hd hP;(rcases cv with _|⟨v1,_|⟨v2,_|⟨v3,_|⟨v4,_|⟨_,_⟩⟩⟩⟩⟩<;>try exact False.elim hP);all_goals(first|obtain⟨rfl,rfl⟩:=hP|obtain⟨mv,rfl,rfl,rfl,kI⟩:=hP|obtain⟨mv,bn,cn,sn,rfl,rfl,rfl,rfl,rfl,kI,hfn,vw⟩:=hP|obtain⟨mv,bn,cn,sn,rfl,rfl,rfl,rfl,kI,hfn,vw⟩:=hP|obtain⟨mv,bn,cn,sn,jV,rfl,rfl,rfl,rfl,rfl,rfl,kI,hfn,vw,hfo⟩:=hP);all_goals(first|exact X.v (aX (i:=3) rfl isAgg115 rfl rfl)|exact X.v (aX (i:=4) rfl isAgg115 rfl rfl)|exact X.v (aX (i:=5) rfl isAgg115 rfl rfl)|exact X.v (aX (i:=6) rfl isAgg115 rfl rfl)|exact X.v (aX (i:=0) rfl isAgg3 rfl rfl)|exact X.v (aX (i:=1) rfl isAgg3 rfl rfl)|exact X.v (aX (i:=2) rfl isAgg3 rfl rfl)|exact X.v (aX (i:=3) rfl isAgg3 rfl rfl))):P:=h
theorem tK (h:P:=by intro cv L' H' hd hP;(rcases cv with _|⟨v1,_|⟨v2,_|⟨v3,_|⟨_,_⟩⟩⟩⟩<;>try exact False.elim hP);all_goals(first|obtain⟨rfl,rfl⟩:=hP|obtain⟨bn,rfl,rfl,rfl,rfl,hfn⟩:=hP|obtain⟨bn,rfl,rfl,rfl,hfn⟩:=hP|obtain⟨bn,jV,rfl,rfl,rfl,rfl,rfl,hfn,hfo⟩:=hP);all_goals(first|exact X.v (aX (i:=2) rfl isAgg115 rfl rfl)|exact X.v (aX (i:=3) rfl isAgg115 rfl rfl)|exact X.v (aX (i:=4) rfl isAgg115 rfl rfl)|exact X.v (aX (i:=0) rfl isAgg3 rfl rfl)|exact X.v (aX (i:=1) rfl isAgg3 rfl rfl)|exact X.v (aX (i:=2) rfl isAgg3 rfl rfl)|exact X.v (aX (i:=0) rfl isAgg50 rfl rfl)|exact X.v (aX (i:=1) rfl isAgg50 rfl rfl)|exact X.v (aX (i:=2) rfl isAgg50 rfl rfl)|exact X.cv call292 rfl (λW hS _=>ZK x.w.body N x.w.ba x.w.bc W aT (mL.up p6 (aC _) (λk hk=>(hS.links w A1).block k aa (λhx=>by first|(rcases hx with hx|hx;(exact hx);simp only[iM,jv,kS,gU,fP,dG,dQ,ft,jc,or_false]at hx;rcases hx with hx|hx|hx|hx|hx<;>first|omega|(have:=hq _ hx;omega)|(have h9:=hfn.not (w:=w) A1;omega)|(have h9:=hfo.not (w:=w) A1;omega))|fail))))|exact X.cv call292 rfl (λW hS _=>ZK x.w.body N x.w.ba x.w.bc W aT (mL.up p6 (aC _) (λk hk=>(hS.links w A1).block k aa (λhx=>by first|(rcases hx with hx|hx;(exact hx);simp only[iM,jv,kS,gU,fP,dG,dQ,ft,jc,or_false]at hx;rcases hx with hx|hx|hx|hx|hx|hx<;>first|omega|(have:=hq _ hx;omega)|(have h9:=hfn.not (w:=w) A1;omega)|(have h9:=hfo.not (w:=w) A1;omega))|fail))))|exact X.cv call292 rfl (λW hS _=>ZK x.w.body N x.w.ba x.w.bc W aT (mL.up p6 (aC _) (λk hk=>(hS.links w A1).block k aa (λhx=>by first|(rcases hx with hx|hx;(exact hx);simp only[iM,jv,kS,gU,fP,dG,dQ,ft,jc,or_false]at hx;rcases hx with hx|hx|hx|hx|hx|hx|hx<;>first|omega|(have:=hq _ hx;omega)|(have h9:=hfn.not (w:=w) A1;omega)|(have h9:=hfo.not (w:=w) A1;omega))|fail))))|exact X.v (aX (i:=1) rfl isAgg115 rfl rfl)|exact X.v (EO underlying50 underlying5 underlying9 rfl A1 p6 (λb bV=>⟨λh=>h,zKb⟩)))):P:=h
theorem EY (h:P:=by intro cv L' H' hd hP;(rcases cv with _|⟨v1,_|⟨v2,_|⟨_,_⟩⟩⟩<;>try exact False.elim hP);all_goals(first|obtain⟨rfl,rfl⟩:=hP|obtain⟨qX,rfl,rfl,rfl,rfl,jW,lX⟩:=hP|obtain⟨qX,rfl,rfl,rfl,jW,lX⟩:=hP);all_goals(first|exact X.v (ad isAgg3 rfl A0 aW bJ zkb rfl)|exact ne call292 rfl rfl (λW hS _=>by have h1:=hS.old A0 aW bJ zrc;have h2:=ZK (dy c.par) W.heap.size (some ⟨b1,2,none⟩) 32 W (aC _) (.inr ⟨b1,2,rfl,(bO.1 h1).1,cD.dgo h1 rfl (fy rfl) kV.bp⟩);rw[IK]at h2;exact h2) (λ_=>rfl)|exact X.v (eZ (i:=2) rfl isAgg139 sizeOf139 rfl rfl)|exact X.v (ad isAgg96 rfl A0 aW bJ zkb rfl)|exact X.v (eZ (i:=1) rfl isAgg139 sizeOf139 rfl rfl)|exact X.v (eZ (i:=0) rfl isAgg139 sizeOf139 rfl rfl)|exact ne call292 rfl rfl (λW hS _=>by have h1:=hS.old A0 aW bJ zrc;have h2:=ZK (dy c.conf) W.heap.size (some ⟨b1,39,none⟩) 32 W (aC _) (.inr ⟨b1,39,rfl,(bO.1 h1).1,cD.dgo h1 rfl (fy rfl) kV.bf⟩);rw[IK]at h2;exact h2) (λ_=>rfl))):P:=h
theorem Om (h:P:=by intro cv L' H' hd hP;(rcases cv with _|⟨v1,_|⟨v2,_|⟨v3,_|⟨v4,_|⟨v5,_|⟨_,_⟩⟩⟩⟩⟩⟩<;>try exact False.elim hP);all_goals(first|obtain⟨rfl,rfl⟩:=hP|obtain⟨ta,tc,wr,rfl,rfl,rfl,rQ,fe,tH⟩:=hP|obtain⟨ta,tc,wr,r8,rfl,rfl,rfl,rfl,rfl,rfl,rfl,rQ,fe,tH,dY,dw,eo⟩:=hP|obtain⟨ta,tc,wr,r8,rfl,rfl,rfl,rfl,rfl,rfl,rQ,fe,tH,dY,dw,eo⟩:=hP|obtain⟨ta,tc,wr,r8,rfl,rfl,rfl,rfl,rfl,rQ,fe,tH,dY,dw,eo⟩:=hP|obtain⟨ta,tc,wr,r8,rfl,rfl,rfl,rfl,rQ,fe,tH,dY,dw,eo⟩:=hP);all_goals(first|exact X.v (bZ isAgg86 sizeOf86 rfl A4 bV bj zN rfl)|exact X.v (bZ isAgg86 sizeOf86 rfl A5 bV bj zN rfl)|exact X.v (ad isAgg95 rfl A3 bQ aZ zN rfl)|exact X.v (ad isAgg95 rfl A4 bQ aZ zN rfl)|exact X.v (ad isAgg3 rfl A3 bQ aZ zN rfl)|exact X.v (ad isAgg3 rfl A4 bQ aZ zN rfl)|exact X.v (ad isAgg96 rfl A3 bQ aZ zN rfl)|exact X.v (ad isAgg96 rfl A4 bQ aZ zN rfl))):P:=h
theorem zcs (h:P:=by intro cv L' H' hl hd hP;(obtain⟨x3,x4,x8,x9,rfl⟩:=uQ hl;rcases x3 with _|v3<;>rcases x4 with _|v4<;>rcases x8 with _|v8<;>rcases x9 with _|v9<;>try exact False.elim hP);all_goals(first|obtain⟨rfl,rfl⟩:=hP|obtain⟨fO,rfl,rfl,rfl,kD⟩:=hP|obtain⟨jD,rfl,rfl,rfl,mB⟩:=hP|obtain⟨fO,jD,rfl,rfl,rfl,rfl,kD,mB⟩:=hP|obtain⟨fO,kZ,gF,iG,rfl,rfl,rfl,rfl,kD,qf,gG⟩:=hP|obtain⟨fO,kZ,gF,iG,jD,rfl,rfl,rfl,rfl,rfl,kD,qf,gG,mB⟩:=hP|obtain⟨fO,kZ,gF,iG,jD,wX,wC,yG,rfl,rfl,rfl,rfl,rfl,rfl,kD,qf,gG,mB,yH,uU⟩:=hP);all_goals(first|exact X.v (aX (i:=3) rfl isAgg62 rfl rfl)|exact X.v (aX (i:=4) rfl isAgg62 rfl rfl)|exact X.v (aX (i:=5) rfl isAgg62 rfl rfl)|exact X.v (eZ (i:=0) rfl isAgg34 sizeOf34 rfl rfl)|exact X.v (eZ (i:=1) rfl isAgg34 sizeOf34 rfl rfl)|exact X.v (eZ (i:=2) rfl isAgg34 sizeOf34 rfl rfl)|exact X.v (aX (i:=3) rfl isAgg96 rfl rfl)|exact X.v (aX (i:=4) rfl isAgg96 rfl rfl)|exact X.v (aX (i:=5) rfl isAgg96 rfl rfl))):P:=h
theorem zct (h:P:=by intro cv L' H' hl hd hP;(obtain⟨x6,ry,rT,rfl⟩:=gO hl;rcases x6 with _|v6<;>rcases ry with _|v10<;>rcases rT with _|v11<;>try exact False.elim hP);all_goals(first|obtain⟨rfl,rfl,rfl⟩:=hP|obtain⟨rfl,rfl⟩:=hP|obtain⟨jO,rfl,rfl,rfl,rfl,rfl,qN⟩:=hP|obtain⟨jO,rfl,rfl,rfl,rfl,qN⟩:=hP|obtain⟨jO,rfl,rfl,rfl,qN⟩:=hP);all_goals(first|exact X.v (bZ isAgg86 sizeOf86 rfl A0 bQ aZ zW rfl)|exact X.v (ad (v:=ab x.dev) isAgg3 rfl A1 hcs zL zMc (nu ay hx rfl 1 zF))|exact X.v (gr rfl rfl))):P:=h
theorem OG (h:P:=by intro cv L' H' hd hP;(rcases cv with _|⟨v1,_|⟨_,_⟩⟩<;>try exact False.elim hP);all_goals(first|obtain⟨rfl,rfl⟩:=hP|obtain⟨qX,rfl,rfl,rfl,jW,lX⟩:=hP);all_goals(first|exact X.v (ad isAgg3 rfl A0 aW bJ zkb rfl)|exact X.v (RV.re (v':=.agg (dg c.par)) (eg isAgg34 sizeOf34 rfl A0 aW bJ (by first|exact trivial|(simp only[dG,fP];exact Rw.off_ge jW aa)) (fy rfl)) rfl)|exact X.v (ad isAgg96 rfl A0 aW bJ zkb rfl)|exact X.v (RV.re (v':=.agg (dg c.conf)) (eg isAgg34 sizeOf34 rfl A0 aW bJ (by first|exact trivial|(simp only[dG,fP];exact Rw.off_ge jW aa)) (fy rfl)) rfl))):P:=h
theorem CI (h:P:=by intro cv L' H' hd hP;(rcases cv with _|⟨v1,_|⟨_,_⟩⟩<;>try exact False.elim hP);all_goals(first|obtain⟨rfl,rfl⟩:=hP|obtain⟨bm,wm,rfl,rfl,rfl,jQ,Z5,hzm,abd⟩:=hP);all_goals(first|exact X.v (bZ isAgg86 sizeOf86 rfl A1 bV bj zW rfl)|exact X.v (bZ isAgg86 sizeOf86 rfl A2 bV bj zW rfl)|exact X.v (ad isAgg3 rfl A0 bQ aZ zW rfl)|exact X.v (ad isAgg3 rfl A1 bQ aZ zW rfl)|exact X.v (ad isAgg95 rfl A0 bQ aZ zW rfl)|exact X.v (ad isAgg95 rfl A1 bQ aZ zW rfl)|exact X.cv call171 rfl (λW hS _=>nyi G N W aT (hG.us hS.sm) c.chs aa c.ca c.cc (hC.chs.us hS.sm) c.author hv hp)|exact X.v (bZ isAgg100 sizeOf100 rfl A0 bQ aZ zW rfl)|exact X.v (bZ isAgg100 sizeOf100 rfl A1 bQ aZ zW rfl)|exact X.v (RV.re (v':=.agg #[ab c.sr,ab c.ss]) (eg isAgg36 sizeOf36 rfl A0 bQ aZ zW (fy rfl)) rfl)|exact X.v (RV.re (v':=.agg #[ab c.sr,ab c.ss]) (eg isAgg36 sizeOf36 rfl A1 bQ aZ zW (fy rfl)) rfl))):P:=h
theorem zcw (h:P:=by intro cv L' H' hd hP;(rcases cv with _|⟨v1,_|⟨_,_⟩⟩<;>try exact False.elim hP);all_goals(first|obtain⟨rfl,rfl⟩:=hP|obtain⟨b7,rfl,rfl,rfl,ie⟩:=hP);all_goals(first|exact X.v (ad isAgg3 rfl A2 bV bj zW rfl)|exact X.v (ad isAgg3 rfl A1 bQ aZ zW rfl)|exact X.v (bZ isAgg100 sizeOf100 rfl A1 bQ aZ zW rfl)|exact X.cv call163 rfl (λW hS _=>Wv hZ c cZ N W aT (hC.us hS.sm)))):P:=h
theorem zcx (h:P:=by intro cv L' H' hd hP;(rcases cv with _|⟨v1,_|⟨v2,_|⟨v3,_|⟨v4,_|⟨v5,_|⟨_,_⟩⟩⟩⟩⟩⟩<;>try exact False.elim hP);all_goals(first|obtain⟨rfl,rfl⟩:=hP|obtain⟨ta,tc,wt,rfl,rfl,rfl,cB,uW,wG⟩:=hP|obtain⟨ta,tc,wt,r8,rfl,rfl,rfl,rfl,rfl,rfl,rfl,cB,uW,wG,dY,dw,eo⟩:=hP|obtain⟨ta,tc,wt,r8,rfl,rfl,rfl,rfl,rfl,rfl,cB,uW,wG,dY,dw,eo⟩:=hP|obtain⟨ta,tc,wt,r8,rfl,rfl,rfl,rfl,rfl,cB,uW,wG,dY,dw,eo⟩:=hP|obtain⟨ta,tc,wt,r8,rfl,rfl,rfl,rfl,cB,uW,wG,dY,dw,eo⟩:=hP);all_goals(first|exact X.v (bZ isAgg86 sizeOf86 rfl A2 bV bj zN rfl)|exact X.v (bZ isAgg86 sizeOf86 rfl A3 bV bj zN rfl)|exact X.v (ad isAgg95 rfl A1 bQ aZ zN rfl)|exact X.v (ad isAgg95 rfl A2 bQ aZ zN rfl)|exact X.v (ad isAgg3 rfl A1 bQ aZ zN rfl)|exact X.v (ad isAgg3 rfl A2 bQ aZ zN rfl)|exact X.v (ad isAgg96 rfl A1 bQ aZ zN rfl)|exact X.v (ad isAgg96 rfl A2 bQ aZ zN rfl))):P:=h
theorem zcy (h:P:=by intro cv L' H' hd hP;(rcases cv with _|⟨v1,_|⟨v2,_|⟨_,_⟩⟩⟩<;>try exact False.elim hP);all_goals(first|obtain⟨rfl,rfl,rfl,rfl⟩:=hP|obtain⟨rfl,rfl,rfl⟩:=hP|obtain⟨rfl,rfl⟩:=hP);all_goals(first|exact X.v ((by first|exact RV.re (v':=.agg (plA y)) (eh (i:=0) rfl isAgg199 sizeOf199 rfl (CF (j:=j1) nq aa)) (va (CE (j:=j1) (sp:=sp) nq hy))|exact RV.re (v':=.agg (plA y)) (eh (i:=0) rfl isAgg199 sizeOf199 rfl (CF (j:=j1) nq (by simp only[OU];omega))) (va (CE (j:=j1) (sp:=sp) nq (by rw[WQ aa];exact hy))))))):P:=h
theorem qm (h:P:=by intro cv L' H' hd hP;(rcases cv with _|⟨v1,_|⟨v2,_|⟨_,_⟩⟩⟩<;>try exact False.elim hP);all_goals(first|obtain⟨rfl,rfl⟩:=hP|obtain⟨gA,rfl,rfl,rfl,gd,cK⟩:=hP|obtain⟨gA,tV,AK,rfl,rfl,rfl,rfl,gd,cK,ql,tW⟩:=hP);all_goals(first|exact X.v (bZ isAgg69 sizeOf69 rfl A0 gQ je zM rfl)|exact X.v (bZ isAgg69 sizeOf69 rfl A1 gQ je zM rfl)|exact ne call20 rfl rfl (λW hS _=>by have h9:=nR p W;rwa[hv]at h9) (λ_=>rfl)|exact X.v (RV.re (v':=aK) (ad isAgg4 rfl A0 gQ je zM rfl) (vb hr))|exact X.v (RV.re (v':=aK) (ad isAgg4 rfl A1 gQ je zM rfl) (vb hr))|exact X.v (ad isAgg3 rfl A0 gQ je zM rfl)|exact X.v (ad isAgg3 rfl A1 gQ je zM rfl)|exact X.v (ad isAgg3 rfl A1 gI iA zM rfl)|exact X.v (ad isAgg3 rfl A2 gI iA zM rfl)|exact X.v (ad isAgg32 rfl A2 bQ aZ zM rfl)|exact X.v (ad isAgg32 rfl A3 bQ aZ zM rfl)|exact X.v (bZ isAgg69 sizeOf69 rfl A1 gI iA zM rfl)|exact X.v (bZ isAgg69 sizeOf69 rfl A2 gI iA zM rfl)|exact X.v (RV.re (eg isAgg36 sizeOf36 rfl A1 gI iA zM (fy rfl)) rfl)|exact X.v (RV.re (eg isAgg36 sizeOf36 rfl A2 gI iA zM (fy rfl)) rfl)|exact X.v (bZ isAgg38 sizeOf38 rfl A0 gQ je zM rfl)|exact X.v (bZ isAgg38 sizeOf38 rfl A1 gQ je zM rfl)|exact ne call16 rfl rfl (λW hS _=>by have h9:=QC p W;rwa[hv]at h9) (λ_=>rfl)|exact X.v (bZ isAgg38 sizeOf38 rfl A1 gI iA zM rfl)|exact X.v (bZ isAgg38 sizeOf38 rfl A2 gI iA zM rfl)|exact X.v (RV.re (v':=.agg #[ab l.sr,ab l.ss]) (eg isAgg36 sizeOf36 rfl A1 gI iA zM (fy rfl)) rfl)|exact X.v (RV.re (v':=.agg #[ab l.sr,ab l.ss]) (eg isAgg36 sizeOf36 rfl A2 gI iA zM (fy rfl)) rfl))):P:=h
theorem u4 (h:P:=by intro cv L' H' hd hP;(rcases cv with _|⟨v1,_|⟨_,_⟩⟩<;>try exact False.elim hP);all_goals(first|obtain⟨rfl,rfl⟩:=hP|obtain⟨gA,rfl,rfl,rfl,gd,cK⟩:=hP);all_goals(first|exact X.v (bZ isAgg69 sizeOf69 rfl A0 gQ je zM rfl)|exact ne call20 rfl rfl (λW hS _=>by have h9:=nR p W;rwa[hv]at h9) (λ_=>rfl)|exact X.v (RV.re (v':=aK) (ad isAgg4 rfl A0 gQ je zM rfl) (vb hr))|exact X.v (ad isAgg3 rfl A0 gQ je zM rfl)|exact X.v (ad isAgg3 rfl A1 gI iA zM rfl)|exact X.v (ad isAgg32 rfl A2 bQ aZ zM rfl)|exact X.v (bZ isAgg38 sizeOf38 rfl A0 gQ je zM rfl)|exact ne call16 rfl rfl (λW hS _=>by have h9:=QC p W;rwa[hv]at h9) (λ_=>rfl))):P:=h
theorem zcB (h:P:=by intro cv L' H' hl hd hP;(obtain⟨x3,x4,x8,rfl⟩:=gO hl;rcases x3 with _|v3<;>rcases x4 with _|v4<;>rcases x8 with _|v8<;>try exact False.elim hP);all_goals(first|obtain⟨rfl,rfl⟩:=hP|obtain⟨gl,rfl,rfl,rfl,jl⟩:=hP|obtain⟨lg,rfl,rfl,rfl,sC⟩:=hP|obtain⟨gl,lg,rfl,rfl,rfl,rfl,jl,sC⟩:=hP|obtain⟨gl,gg,iE,jr,rfl,rfl,rfl,rfl,jl,kB,ir⟩:=hP|obtain⟨gl,gg,iE,jr,lg,rfl,rfl,rfl,rfl,rfl,jl,kB,ir,sC⟩:=hP);all_goals(first|exact X.v (aX (i:=2) rfl isAgg96 rfl rfl)|exact X.v (aX (i:=3) rfl isAgg96 rfl rfl)|exact X.v (aX (i:=4) rfl isAgg96 rfl rfl)|exact X.v (aX (i:=0) rfl isAgg3 rfl rfl)|exact X.v (aX (i:=1) rfl isAgg3 rfl rfl)|exact X.v (aX (i:=2) rfl isAgg3 rfl rfl)|exact X.v (aX (i:=1) rfl isAgg106 rfl rfl)|exact X.v (aX (i:=2) rfl isAgg106 rfl rfl)|exact X.v (aX (i:=3) rfl isAgg106 rfl rfl)|exact X.v (eh (i:=0) rfl isAgg86 sizeOf86 rfl (fy rfl))|exact X.v (eh (i:=1) rfl isAgg86 sizeOf86 rfl (fy rfl))|exact X.v (eh (i:=2) rfl isAgg86 sizeOf86 rfl (fy rfl)))):P:=h
theorem zcC (h:P:=by intro cv L' H' hd hP;(rcases cv with _|⟨v1,_|⟨_,_⟩⟩<;>try exact False.elim hP);all_goals(first|obtain⟨rfl,rfl,rfl⟩:=hP|obtain⟨rfl,rfl⟩:=hP);all_goals(first|exact X.v (aX (i:=1) rfl isAgg96 rfl rfl)|exact X.v (aX (i:=0) rfl isAgg106 rfl rfl))):P:=h
structure ZW (Q:Prop):Prop where
  p:Q
inductive Ct:Nat->Prop where
  |mk (n:Nat):Ct n
theorem Ct.dec {n:Nat} (_:Ct (n+1)):Ct n:=.mk n
theorem Ct.fin {P:Prop} (_:Ct 0) (h:P):P:=h
theorem WO {n:Nat} (c:Ct n) (k:Q) (h:Ct n->ZW Q->P:=by intro Cz Kz;(repeat(replace Cz:=Ct.dec Cz;(first|(first|(with_reducible refine PJ.next ?_)|(with_reducible refine OJ.done ?_)|(with_reducible refine CJ.seq ?_)|(with_reducible refine CJ.region ?_)|(with_reducible refine CJ.ret ?_)|(with_reducible refine PJ.retThen ?_)|(with_reducible refine CJ.skip ?_))|(first|(with_reducible refine PJ.exThen ?_)|(with_reducible refine CJ.block ?_)|(with_reducible refine PJ.norBlock ?_)|(with_reducible refine PJ.retBlock ?_)|(with_reducible refine PJ.exHit ?_)|(with_reducible refine CJ.exit ?_)|((with_reducible refine CJ.condT ?_ ?_);· exact rfl))|(first|((with_reducible refine CJ.condF ?_ ?_);· exact rfl))|first|(first|((with_reducible show OJ _ _ _ (⟨_,.store _ _ _,_,_,_,_⟩::_) _ _ _ _ _);first|refine fE (i:=0) zY az zY zY zY zY zY zY ?_|refine fE (i:=1) zY az zY zY zY zY zY zY ?_|refine fE (i:=2) zY az zY zY zY zY zY zY ?_|refine fE (i:=3) zY az zY zY zY zY zY zY ?_|refine fE (i:=4) zY az zY zY zY zY zY zY ?_|refine fE (i:=5) zY az zY zY zY zY zY zY ?_|refine OJ.off rfl zF rfl ?_)|((with_reducible show OJ _ _ _ (⟨_,.alloc _,_,_,_,_⟩::_) _ _ _ _ _);first|refine Bv iO zY zY ?_|refine OJ.off rfl zF rfl ?_)|((with_reducible show OJ _ _ _ (⟨_,.box _ _,_,_,_,_⟩::_) _ _ _ _ _);first|refine T3 rfl rfl rfl ?_|refine OJ.off rfl zF rfl ?_)|refine OJ.off rfl zF rfl ?_|refine rvA rfl rfl rfl ?_|refine T3 rfl rfl rfl ?_|refine Bv iO zY zY ?_)|(first|refine fE (i:=0) zY az zY zY zY zY zY zY ?_|refine fE (i:=1) zY az zY zY zY zY zY zY ?_|refine fE (i:=2) zY az zY zY zY zY zY zY ?_|refine fE (i:=3) zY az zY zY zY zY zY zY ?_|refine fE (i:=4) zY az zY zY zY zY zY zY ?_|refine fE (i:=5) zY az zY zY zY zY zY zY ?_))));exact Cz.fin Kz.p):P:=h c ⟨k⟩
theorem B (n:Nat) (k:Q) (h:Ct n->ZW Q->P:=by intro Cz Kz;refine WO Cz ?_;exact Kz.p):P:=h (.mk n) ⟨k⟩
inductive Vt:Go.Value->Prop where
  |mk (v:Go.Value):Vt v
theorem aV (n:Nat) (v:Go.Value) (k:Q) (h:Ct n->Vt v->ZW Q->P:=by intro Cz Vz Kz;refine WO Cz ?_;exact zrC Vz Kz.p):P:=h (.mk n) (.mk v) ⟨k⟩
theorem av {R:Prop} (n:Nat) (k:Q) (l:R) (h:Ct n->ZW Q->ZW R->P:=by intro Cz Kz Kw;refine WO Cz ?_;refine pd ?_ ?_;exact Kz.p;exact Kw.p):P:=h (.mk n) ⟨k⟩ ⟨l⟩
theorem aU (n:Nat) (k:Q) (h:Ct n->ZW Q->P:=by intro Cz Kz;refine WO Cz ?_;exact yX Kz.p):P:=h (.mk n) ⟨k⟩
theorem bD (n:Nat) (k:Q) (h:Ct n->ZW Q->P:=by intro Cz Kz;refine WO Cz ?_;exact yW Kz.p):P:=h (.mk n) ⟨k⟩
theorem zT (h:P:=by repeat(first|(apply lK;exact rfl)|(apply qbk;exact rfl)|(apply dh;(first|exact X.off rfl (λ_ _=>rfl)|exact X.v (RV.re MR Po))))):P:=h
theorem zTq (h:P:=by repeat(first|(apply qtn;exact rfl)|(apply qtk;exact rfl)|(apply ph;(intro cv L' H' hl hd hP;first|exact X.off rfl (λ_ _=>rfl)|exact X.v (RV.re MR Po)|((repeat(first|with_reducible obtain⟨rfl,hP⟩:=hP|(with_reducible obtain⟨_,hP⟩:∃x,_:=hP)|(with_reducible obtain⟨_,hP⟩:_/\_:=hP)));(try with_reducible subst hP);exact X.v (RV.re MR Po)))))):P:=h
theorem zU (n:Nat) (h:Ct n->ZW Q->P:=by intro Cz Kz;(repeat(replace Cz:=Ct.dec Cz;(first|(apply lK;exact rfl)|(apply qbk;exact rfl)|(apply dh;(first|exact X.off rfl (λ_ _=>rfl)|exact X.v (RV.re MR Po))))));exact Cz.fin Kz.p) (k:Q):P:=h (.mk n) ⟨k⟩
theorem Aa (n:Nat) (h:Ct n->ZW Q->P:=by intro Cz Kz;(repeat(replace Cz:=Ct.dec Cz;(first|(apply qtn;exact rfl)|(apply qtk;exact rfl)|(apply ph;(intro cv L' H' hl hd hP;first|exact X.off rfl (λ_ _=>rfl)|exact X.v (RV.re MR Po)|((repeat(first|with_reducible obtain⟨rfl,hP⟩:=hP|(with_reducible obtain⟨_,hP⟩:∃x,_:=hP)|(with_reducible obtain⟨_,hP⟩:_/\_:=hP)));(try with_reducible subst hP);exact X.v (RV.re MR Po)))))));exact Cz.fin Kz.p) (k:Q):P:=h (.mk n) ⟨k⟩
theorem mm (h:P:=by first|exact .inr (by assumption)|exact .inr (And.right (by assumption))|exact .inr (And.right (And.right (by assumption)))|exact .inr (by simp only[ah,and_true]at *;omega)|exact .inr (by simp only[ah,and_true];omega)|exact .inr (by simp only[ah,and_true];(repeat' apply And.intro)<;>omega)):P:=h
theorem Ja (h:P:=by repeat' first|exact trivial|(refine Cb.app ?_ ?_)|exact Us (by assumption)|exact Ut (by assumption) (by simp)|exact Uu (by assumption) (by assumption)|exact Ux (by assumption)|exact⟨mm,trivial⟩|(refine⟨mm,?_⟩)):P:=h
theorem jI (h:P:=by intro W h;first|exact h|exact h.un|exact h.dropF mm|exact h.un.dropF mm|exact h.un.un|exact(h.dropF mm).dropF mm|exact h.un.un.dropF mm|exact(h.un.dropF mm).dropF mm|exact((h.dropF mm).dropF mm).dropF mm|exact((h.un.dropF mm).dropF mm).dropF mm|exact(h.un.un.dropF mm).dropF mm|exact h.un.un.un|exact(((h.dropF mm).dropF mm).dropF mm).dropF mm|exact h.tl Ja|exact(h.dropF mm).tl Ja|exact((h.dropF mm).dropF mm).tl Ja|exact h.un.tl Ja|exact(h.un.dropF mm).tl Ja|exact h.lessL (by simp)|exact(h.lessL (by simp)).dropF mm|exact((h.lessL (by simp)).dropF mm).dropF mm|exact(h.lessL (by simp)).tl Ja|exact((h.lessL (by simp)).dropF mm).tl Ja|exact h.none Ja|exact h.un.none Ja|exact(h.lessL (by simp)).none Ja):P:=h
theorem vA (h:P:=by intro W h;first|exact h|exact h.un|exact h.perm (List.Perm.swap _ _ _)|exact h.un.perm (List.Perm.swap _ _ _)|exact h.un.un|exact h.dropF mm|exact h.un.dropF mm):P:=h
theorem zE (k:Q) (h:ZW Q->P:=by intro Kz;exact OJ.done (hk _ _ _ (wE jI Kz.p))):P:=h ⟨k⟩
theorem zG (k:Q) (h:ZW Q->P:=by intro Kz;exact OJ.done (hk _ _ _ (wN jI Kz.p))):P:=h ⟨k⟩
theorem pd {R:Prop} (k:Q) (l:R) (h:ZW Q->ZW R->P:=by intro Kz Kw;(refine CJ.cond rfl (λhc=>?_) (λhc=>?_)<;>(try simp only[decide_eq_true_eq,decide_eq_false_iff_not,Bool.not_eq_true',Bool.not_eq_false']at hc)<;>revert hc);exact Kz.p;exact Kw.p):P:=h ⟨k⟩ ⟨l⟩
section
variable (k:Q)
include k
theorem zxd (h:ZW Q->P:=by intro Kz;refine B 2 ?_;refine rx (ku rfl rfl) ?_;refine B 1 ?_;refine rx (o4 rfl rfl) ?_;refine B 1 ?_;refine rx (ku rfl rfl) ?_;refine B 1 ?_;refine rx (o4 rfl rfl) ?_;refine B 2 ?_;refine rx (ku rfl rfl) ?_;refine rq (.int .u64 (r0:Int)) (u9 rfl rfl) (vu zub) ?_;refine B 1 ?_;refine rq (.int .u64 ((r0/2^s:Nat):Int)) (lB rfl rfl aa) (vu (nSc r0 s aa)) ?_;exact B 5 Kz.p):P:=h ⟨k⟩
theorem Z2 (h:ZW Q->P:=by intro Kz;refine B 6 ?_;refine bX (.agg (aY G)) ?_;refine cl call293 rfl (λW hS=>by rw[<-hv];exact nbb G N W aT (hG.us hS.sm)) (v:=.bool true) ?_;refine bX aO ?_;refine B 8 ?_;refine bX (.agg (cW c)) ?_;refine cl call294 rfl (λW hS=>by rw[<-kf];exact nIb c cZ.few N W aT (hC.us hS.sm)) (v:=ab 0) ?_;refine B 6 ?_;refine bX aO ?_;refine B 12 ?_;refine bX aO ?_;refine B 6 ?_;refine bX aO ?_;refine B 6 ?_;refine rq aO (iV wZ zF nT rfl rfl rfl) (congrArg (λq=>Value.bool (!q)) h3) ?_;refine B 8 ?_;refine bX (.agg (aY G)) ?_;refine B 4 ?_;exact nN (enc:=oj) (m:=4) (t:=145) (xs:=(gz G.g c.author c.chs)) (v:=λs=>.tuple #[s,ab 0]) (first:=[]) (cap:=[]) rfl call295 rfl rfl rfl Rj (λW hS=>by rw[<-kq];exact n4b G N W aT (hG.us hS.sm) c.chs aa c.ca c.cc (hC.chs.us hS.sm) c.author lT) Kz.p):P:=h ⟨k⟩
theorem lx (h:ZW Q->P:=by intro Kz;exact PJ.dropAt (i:=0) rfl zI Kz.p):P:=h ⟨k⟩
theorem Ac (h:ZW Q->P:=by intro Kz;exact iW underlying115 sizeOf139 zeroValue139 rfl rfl rfl rfl rfl rfl rfl Kz.p):P:=h ⟨k⟩
theorem uC (h:ZW Q->P:=by intro Kz;exact iW underlying96 sizeOf3 zeroValue3 rfl rfl rfl rfl rfl rfl rfl Kz.p):P:=h ⟨k⟩
theorem Al (h:ZW Q->P:=by intro Kz;exact bX (.agg #[.slice a ns.length cp]) Kz.p):P:=h ⟨k⟩
theorem zEd (h:ZW Q->P:=by intro Kz;exact nE (E':=[(0,_),(1,_),(2,_),(3,_),(4,_),(5,_),(6,_),(7,_),(8,_),(9,_),(10,_),(11,_),(12,_),(13,_),(14,_),(15,_),(16,_),(17,_),(18,_),(19,_),(20,_),(21,_),(22,_),(23,_),(24,_),(25,_),(26,_),(27,_),(28,_),(29,_),(30,_),(31,_),(32,_),(33,_),(34,_),(35,_),(36,_),(37,_),(38,_),(39,_),(40,_)]) zR Kz.p):P:=h ⟨k⟩
theorem zFd (h:ZW Q->P:=by intro Kz;refine bX (.agg (lkC l)) ?_;refine cl call20 rfl (λW hS=>by have h9:=nR l W;rwa[hv]at h9) (v:=.bool true) ?_;refine B 11 ?_;refine bX (ab l.by_) ?_;refine rq aO (aN rfl rfl) (vb (by simp[hb])) ?_;refine B 7 ?_;refine bX (.agg (mU s)) ?_;refine bX (.agg (lkC l)) ?_;exact call (v:=.tuple #[.agg (lkC p),aK]) call33 rfl rfl rfl (λW hS=>by have h9:=nYd hZ s ho N W aT (hs.us hS.sm) l (hg.old hS A2 zO trivial);rwa[hp]at h9) Kz.p):P:=h ⟨k⟩
theorem Vv (h:ZW Q->P:=by intro Kz;refine B 14 ?_;exact CJ.lp (α:=Nat) [0,1,7] (λj=>[(8,ab (j:Int))]) (λj=>[]) (λj=>j<=xs.length/\cE p xs j) (λj=>xs.length-j) 0 ⟨cd _,λi x hi=>absurd hi aa⟩ Kz.p):P:=h ⟨k⟩
theorem zHd (h:ZW Q->P:=by intro Kz;refine rx (ee rfl rfl) ?_;refine B 3 ?_;refine rx (ee rfl rfl) ?_;refine B 3 ?_;refine rx (ee rfl rfl) ?_;refine B 3 ?_;exact rx (ee rfl rfl) Kz.p):P:=h ⟨k⟩
theorem SB (h:ZW Q->P:=by intro Kz;exact call (v:=ab e) call35 rfl rfl rfl (λW hS=>by rw[<-he];exact nL _ W) Kz.p):P:=h ⟨k⟩
theorem YM (h:ZW Q->P:=by intro Kz;refine rx (dp rfl) ?_;refine rx (gr rfl rfl) ?_;exact rx (gr rfl rfl) Kz.p):P:=h ⟨k⟩
theorem zKd (h:ZW Q->P:=by intro Kz;refine bX (.agg #[.slice G.na G.g.ns.length G.nc]) ?_;refine cl call226 rfl (λW hS=>ndc G.g.ns hn N G.na G.nc W aT (aA.up (aC _) hS.sm) qq) ?_;exact rq aO (aN rfl rfl) (vb (by simpa using h5)) Kz.p):P:=h ⟨k⟩
theorem zLd (h:ZW Q->P:=by intro Kz;exact nE (E':=[(0,_),(1,_),(2,_),(3,_),(4,_),(5,_),(6,_),(7,_),(8,_),(9,_),(13,_),(14,_),(15,_),(17,_),(18,_),(19,_),(20,_),(23,_),(24,_),(25,_),(26,_),(27,_),(28,_),(29,_),(30,_),(31,_),(32,_),(33,_),(34,_),(35,_),(36,_),(37,_),(38,_),(39,_),(40,_),(41,_),(42,_),(44,_),(45,_),(46,_),(47,_),(48,_),(49,_),(50,_),(51,_),(52,_),(53,_),(54,_),(57,_),(58,_),(59,_),(60,_),(61,_),(62,_),(63,_),(64,_),(65,_),(66,_),(67,_),(68,_),(69,_),(70,_),(71,_),(72,_),(73,_),(74,_),(76,_),(77,_),(78,_),(79,_),(80,_),(81,_),(82,_),(83,_),(84,_),(85,_),(86,_),(87,_),(89,_),(90,_),(91,_),(92,_),(93,_),(94,_),(95,_)]) zR Kz.p):P:=h ⟨k⟩
theorem Nx (h:ZW Q->P:=by intro Kz;exact rx (po rfl) Kz.p):P:=h ⟨k⟩
theorem zNd (h:ZW Q->P:=by intro Kz;exact nU (f:=f) (cap:=cap) rfl aF rfl rfl rfl (λW hS=>hp j x hx W ((hS.links w A0).mono (λk _ hk=>by rcases hk with hk|hk;(exact hk);(simp only[jv,kS,eI,gB,ft,jc,or_false]at hk;first|exact hk|(rcases hk with hk|hk;(exfalso;omega);exact hk)))) (by have:=hS.lt (b,_) A1;exact this)) Kz.p):P:=h ⟨k⟩
theorem zOd (h:ZW Q->P:=by intro Kz;refine zE ?_;exact cl call299 rfl (λW hS=>by have h9:=n3d c.wes aa W.heap.size c.wa c.wc W (aC _) (hC.wes.up aT hS.sm) (oT c.author c.chs) aw cw (wB.to hS A0 (aC _) (λb off e=>.inr zTb));rw[show jG RA c.wes (oT c.author c.chs)=true from hw]at h9;exact h9) (v:=.bool true) Kz.p):P:=h ⟨k⟩
theorem zPd (h:ZW Q->P:=by intro Kz;exact cl call306 rfl (λW hS=>n3c (BK G.g (gw G.g.ms au) au) 359 [ptr b3 0,ptr b8 0,ptr b4 0] call359 l de N _ cp W aT (aA.us hS.sm) (λj x hx W2 hB=>by have h3:=(hS.links w3 A1).size;have h4:=(hS.links w4 A0).size;have h5:=(hS.links w A2).size;have h8:=hS.own (b8,_) A0;have h9:=(bO.1 h8).1;exact nqk G N W2 (by have:=hB.size;omega) (hG.us (λk hk=>by rw[hB.block k aa];exact hS.same A2 hN zO zJ k hk)) b3 b8 b4 _ au (by rw[hB.block b3 aa];exact hS.old A1 bQ aZ zD) (by rw[hB.block b8 h9];exact h8) (by rw[hB.block b4 aa];exact hS.old A0 gI iA zD) x)) Kz.p):P:=h ⟨k⟩
theorem OR (h:ZW Q->P:=by intro Kz;exact iW underlying32 sizeOf199 zeroValue199 rfl rfl rfl rfl rfl rfl rfl Kz.p):P:=h ⟨k⟩
theorem zRd (h:ZW Q->P:=by intro Kz;exact nN (enc:=pY) (m:=5) (t:=271) (xs:=oT c.author c.chs) (v:=id) (first:=[]) (cap:=[]) rfl call300 rfl rfl rfl EC (λW hS=>n0c c.author c.chs aa N c.ca c.cc W aT (hC.chs.us hS.sm)) Kz.p):P:=h ⟨k⟩
theorem zSd (h:ZW Q->P:=by intro Kz;exact nN (enc:=ak) (m:=1) (t:=3) (xs:=dX G.g.ns) (v:=id) (first:=[]) (cap:=[]) rfl call330 rfl rfl rfl nh (λW hS=>ncc G.g.ns hn N G.na G.nc W aT (hG.ns.us hS.sm)) Kz.p):P:=h ⟨k⟩
theorem zTd (h:ZW Q->P:=by intro Kz;exact ny (α:=Nat) (v:=λb:Nat=>.slice (aH b) 32 32) (Φ:=λ(W:World) (b:Nat) (w1:World)=>W.heap.size<=b/\w1.heap[b]? =some (oC (dg (kL Z c)) 34)) call302 rfl rfl rfl (λW hS=>n1d hZ c cZ N W aT (hC.us hS.sm) (hg.old hS A4 zO zJ)) Kz.p):P:=h ⟨k⟩
theorem zUd (h:ZW Q->P:=by intro Kz;exact rx (lL (h:=32) underlying34 sizeOf5 rfl rfl aa) Kz.p):P:=h ⟨k⟩
theorem Jp (h:ZW Q->P:=by intro Kz;exact Dg underlying96 sizeOf3 zeroValue3 rfl rfl rfl rfl rfl rfl rfl Kz.p):P:=h ⟨k⟩
theorem zWd (h:ZW Q->P:=by intro Kz;exact Wb (r:=rB) (xs:=(((fm Z cs G.g i).take a)++[(i:Int)])) (zs:=((fm Z cs G.g i).drop a)) (enc:=ak) (m:=1) (H0:=[(AI,oC #[ab (i:Int)] 3)]) (H1:=[]) rfl vY nh rfl rfl rfl rfl (bN.sl nh v7 underlying96 A0 (zr.drp a c9 jz) (λb hb=>⟨λh=>h,by simp only[cu,eJ,gU,fP,dG,and_true];(repeat' apply And.intro);all_goals first|omega|exact True.intro|exact Rw.off_at ve A0 zL|exact Rw.off_ge WY aa|exact Rw.off_ge Ty aa⟩)) tT uZ zLc Kz.p):P:=h ⟨k⟩
theorem Jb (h:ZW Q->P:=by intro Kz;exact rx (uu rfl rfl aa aa) Kz.p):P:=h ⟨k⟩
theorem zYd (h:ZW Q->P:=by intro Kz;refine rx (gZ (h:=64) underlying50 sizeOf5 rfl ⟨_,_,rfl,rfl⟩ aa) ?_;exact UF (f:=195) (i:=1) (first:=[ptr b3 0]) (cap:=[]) rfl rfl call195 rfl rfl rfl (λW hS hW=>nUe (lM n m (j+k)) (λi=>fj n m (64*(j+k)+i)) b3 qp o2 64 _ _ _ zp t3 (cf 128 (qI n m j N)) aa aa W hW (hS.own _ A0) (λi hi=>by rw[zo 128 _ (64*k+i) _ (by have:=cR aa;omega) aa,nho n m j N _ aa hNN aa aa];congr 3;omega) aa (hS.old A0 hg zL zD) aa) Kz.p):P:=h ⟨k⟩
theorem zZd (h:ZW Q->P:=by intro Kz;exact nU (f:=f) (cap:=cap) rfl aF rfl rfl rfl (λW hS=>hp j x hx W ((hS.links w A0).below Vk)) Kz.p):P:=h ⟨k⟩
theorem z0d (h:ZW Q->P:=by intro Kz;refine ao results20 rfl A1 ?_;exact vb Kz.p):P:=h ⟨k⟩
theorem z1d (h:ZW Q->P:=by intro Kz;exact cl call160 rfl (λW hS=>nxd hinv.1 hinv.2.1 aa b9 m hm x.fol hxk.2.2.1.1 W (hS.own (b9,_) A2)) (v:=ab (mh (gN (dV l) j) x.fol)) Kz.p):P:=h ⟨k⟩
theorem z2d (h:ZW Q->P:=by intro Kz;refine rq aO (aN rfl rfl) (vb mZ) ?_;refine B 18 ?_;exact CJ.loop (α:=Nat) (λi=>[(1,ptr b1 0),(3,ab (j:Int)),(4,ptr b4 0),(5,.bool ((ns.take i).any λy=>decide (512<=y.at_)&&jJ y.at_ x.at_)),(6,ab (i:Int))]) (λi=>[(b4,oC (dJ x) 325)]) (λi=>[w1,w]) (λi=>Gh.no) (λi=>i<=ns.length) (λi=>ns.length-i) 0 (cd _) zR rfl rfl zP Kz.p):P:=h ⟨k⟩
theorem z3d (h:ZW Q->P:=by intro Kz;exact xg (enc:=dD) (m:=2) (t:=325) (xs:=(aP T c.author c.path)) (v:=λs=>.tuple #[.agg #[s],ab e]) (first:=[]) (cap:=[]) rfl call303 rfl rfl rfl (λW hS=>by rw[<-hre];exact nsh T aa W.heap.size ta tc W (aC _) (rQ.to hS A0 (aC _) (λb off e=>by rcases fe b off e with h|h|h;(exact .inl h);(exact .inr zD);(exact .inr zD))) c.author lT c.path kG aa N c.pa c.pc (hC.path.us hS.sm) aT hpl aa) Kz.p):P:=h ⟨k⟩
theorem W6 (h:ZW Q->P:=by intro Kz;exact rx (MP underlying161 underlying5 rfl aa aa) Kz.p):P:=h ⟨k⟩
theorem z5d (h:ZW Q->P:=by intro Kz;exact nE (E':=[(0,_),(1,_),(2,_),(3,_),(4,_),(5,_),(6,_),(13,_),(14,_),(15,_),(17,_),(18,_),(19,_),(20,_),(23,_),(24,_),(25,_),(26,_),(27,_),(28,_),(29,_),(30,_),(31,_),(32,_),(33,_),(34,_),(35,_),(36,_),(37,_),(38,_),(39,_),(40,_),(41,_),(42,_),(44,_),(45,_),(46,_),(47,_),(48,_),(49,_),(50,_),(52,_),(53,_),(54,_),(55,_)]) zR Kz.p):P:=h ⟨k⟩
theorem z6d (h:ZW Q->P:=by intro Kz;exact CJ.lp (α:=Nat×Nat) [2,8,9,10,17,14,15] (λp=>[(18,.int .u64 (p.1:Int)),(16,.int .u64 (p.2:Int))]) (λp=>[]) (λp=>tf r1 y1 y0 v0 p.1 p.2) (λp=>p.1) (r1/y1,r1%y1) d2 Kz.p):P:=h ⟨k⟩
theorem z7d (h:ZW Q->P:=by intro Kz;refine rx (uj underlying289 isAgg287 sizeOf287 rfl rfl aa aa (S8.cells_ld _ i _ aa aa)) ?_;refine B 10 ?_;exact rq (.slice (some ⟨b2,4*i,none⟩) 4 (32-4*i)) (Dc (l:=4*i) (h:=4*i+4) (off':=4*i) underlying34 sizeOf5 rfl ⟨_,_,rfl,by omega⟩ ⟨_,_,rfl,by omega⟩ aa aa Xr) (by rw[show 4*i+4-4*i=4 by omega]) Kz.p):P:=h ⟨k⟩
theorem Vm (h:ZW Q->P:=by intro Kz;exact fE (i:=0) rfl sizeOf84 rfl rfl rfl rfl rfl (Rw.val_one2 _ _) Kz.p):P:=h ⟨k⟩
theorem z9d (h:ZW Q->P:=by intro Kz;refine bX (.int .u64 ((r+y1:Nat):Int)) ?_;exact B 9 Kz.p):P:=h ⟨k⟩
theorem zae (h:ZW Q->P:=by intro Kz;exact nU (v:=.bool true) (f:=217) (cap:=[]) rfl call217 rfl rfl rfl (λW hS=>nob h1 W) Kz.p):P:=h ⟨k⟩
theorem zbe (h:ZW Q->P:=by intro Kz;exact ny (α:=Option Addr×Nat) (v:=λq=>.agg #[.slice q.1 T.length q.2]) (Φ:=λW q w1=>aj dJ 2 w1.heap.size w1 q.1 T/\∀b off,q.1=some ⟨b,off,none⟩->T=[]\/b<N\/W.heap.size<=b) call304 rfl rfl rfl (λW hS=>by rw[<-hT];exact n0d G N W aT (hG.us hS.sm) c.chs aa c.ca c.cc (hC.chs.us hS.sm) rN VD) Kz.p):P:=h ⟨k⟩
theorem Ww (h:ZW Q->P:=by intro Kz;exact rq aK (dp rfl) (vb z2) Kz.p):P:=h ⟨k⟩
theorem zde (h:ZW Q->P:=by intro Kz;exact call (v:=ab 0) call226 rfl rfl rfl (λW hS=>by rw[<-fe];exact ndc ns hn N a cp W aT (aA.us hS.sm) qq) Kz.p):P:=h ⟨k⟩
theorem Pz (h:ZW Q->P:=by intro Kz;exact rx (H3 rfl rfl aa aa) Kz.p):P:=h ⟨k⟩
theorem zfe (h:ZW Q->P:=by intro Kz;exact ntg (i:=0) (γ:=Mp) (v:=λ_=>.tuple #[]) (ob:=λm=>m.obj ab (gR (((da d).take i).foldl ik (ik (bh ns) (512+d))) n)) (Φ:=λm=>m.Ok (gR (((da d).take i).foldl ik (ik (bh ns) (512+d))) n)) (first:=[.map (some bf)]) (cap:=[]) rfl rfl call367 rfl rfl rfl (λW hS hW=>nBe bf mi ym n W hW) Kz.p):P:=h ⟨k⟩
theorem zge (h:ZW Q->P:=by intro Kz;exact cl call76 rfl (λW hS=>by have h9:=YO hZ (iv G.g c.author c.chs) c.sr c.ss (dy (kL Z c)) bm 0 32 (by rw[IK];decide) W (cD.dg (hS.old A0 jQ zL zD) (hZ.byt _ _)) (hg.old hS A5 zO zJ);rw[IK,show jF Z (iv G.g c.author c.chs) (dy (kL Z c)) c.sr c.ss=true from og]at h9;exact h9) (v:=.bool true) Kz.p):P:=h ⟨k⟩
theorem zhe (h:ZW Q->P:=by intro Kz;exact cl call326 rfl (λW hS=>by rw[<-fe];exact nYb ns hn N a cp W aT (aA.us hS.sm)) (v:=ab 0) Kz.p):P:=h ⟨k⟩
theorem zie (h:ZW Q->P:=by intro Kz;exact CJ.lp (α:=Mp×Nat) [6,7,12,53,54] (λp=>[(55,ab (p.2:Int))]) (λp=>[(bf,p.1.obj ab (((da d).take p.2).foldl ik (ik (bh ns) (512+d))))]) (λp=>p.2<=(da d).length/\p.1.Ok (((da d).take p.2).foldl ik (ik (bh ns) (512+d)))) (λp=>(da d).length-p.2) (m1,0) ⟨cd _,bJ⟩ Kz.p):P:=h ⟨k⟩
theorem zje (h:ZW Q->P:=by intro Kz;exact rq (.agg #[ab y.kind,ab a1,.string a2,.slice p3 n3 c3]) (eg isAgg139 sizeOf139 rfl A1 hcs zL trivial aa) (va ztc) Kz.p):P:=h ⟨k⟩
theorem zke (h:ZW Q->P:=by intro Kz;exact vG (i:=1) (m:=4) (ys:=nw (cV l)) (sp:=[]) (len:=7) (cap:=7) (news:=nw ([.int l.sr,.int l.ss]:List V)) (n:=2) rfl underlying115 nKq rfl rfl rfl rfl rfl rfl rfl (aic (l:=[.int l.sr,.int l.ss]) (sp:=[]) (i:=0) underlying115 rfl rfl) (Yt _ (Yv l)) rfl (aC _) ⟨by omega,by omega,trivial⟩ zF zF Kz.p):P:=h ⟨k⟩
theorem zle (h:ZW Q->P:=by intro Kz;exact nN (enc:=ak) (m:=1) (t:=3) (xs:=da d) (v:=λs=>.tuple #[s,ab 0]) (first:=[]) (cap:=[]) rfl call358 rfl rfl rfl nh (λW hS=>n4g d hd W) Kz.p):P:=h ⟨k⟩
theorem zme (h:ZW Q->P:=by intro Kz;exact CJ.loop (α:=Nat) (λi=>[(2,ptr b2 0),(53,.agg (lM n m (bK n)).cells),(54,ab (i:Int))]) (λi=>[(qp,oC (cf 128 (qI n m j N)) 5),(b3,oC (lM n m (bK n)).cells 289),(b2,oC (kW (lM n m (bK n)) i) 34)]) (λi=>[w]) (λi=>Gh.no) (λi=>i<=8) (λi=>8-i) 0 zF zR rfl rfl zP Kz.p):P:=h ⟨k⟩
theorem Vp (h:ZW Q->P:=by intro Kz;exact fE (i:=1) rfl sizeOf84 rfl rfl rfl rfl rfl (Rw.val_one2 _ _) Kz.p):P:=h ⟨k⟩
theorem Bf (h:ZW Q->P:=by intro Kz;refine bX aK ?_;exact B 13 Kz.p):P:=h ⟨k⟩
theorem zpe (h:ZW Q->P:=by intro Kz;exact ny (α:=Nat×Nat) (v:=λq=>.func (.func 161) #[] #[ptr q.1 0,ptr q.2 0]) (Φ:=λW q w1=>W.heap.size<=q.1/\W.heap.size<=q.2/\q.1≠q.2/\w1.heap[q.1]? =some (oC #[.map (some mb)] 184)/\w1.heap[q.2]? =some (oC #[ab f] 3)) call113 rfl rfl rfl (λW hS=>nRh (some mb) f W) Kz.p):P:=h ⟨k⟩
theorem IL (h:ZW Q->P:=by intro Kz;exact bX (.slice c.ca c.chs.length c.cc) Kz.p):P:=h ⟨k⟩
theorem zre (h:ZW Q->P:=by intro Kz;exact CJ.lp (α:=Nat) [0,1,2,3,8] (λj=>[]) (λj=>[]) (λj=>True) (λj=>0) 0 True.intro Kz.p):P:=h ⟨k⟩
theorem zse (h:ZW Q->P:=by intro Kz;exact CJ.lp (α:=Nat) [0,1,2,3,4] (λj=>[]) (λj=>[]) (λj=>True) (λj=>0) 0 True.intro Kz.p):P:=h ⟨k⟩
theorem zte (h:ZW Q->P:=by intro Kz;refine bX (ab p.par) ?_;exact rq aK (pC rfl rfl) (vb (decide_eq_true (Classical.byContradiction h0))) Kz.p):P:=h ⟨k⟩
theorem XH (h:ZW Q->P:=by intro Kz;exact rx (Gy rfl rfl aa aa aa) Kz.p):P:=h ⟨k⟩
theorem zve (h:ZW Q->P:=by intro Kz;exact Wb (r:=.row b42 1 []) (xs:=[x]) (zs:=((fJ ts i).drop k)) (enc:=fu) (m:=5) (H0:=[]) (H1:=[]) rfl S1 nq rfl rfl rfl rfl (bN.sl nq GW underlying32 A0 (zr.drp k c9 jz) (λb hb=>⟨λh=>h,zD⟩)) ⟨aC 1,rfl⟩ (.inr Ml) (by simp only[yp,kb,oe];omega) Kz.p):P:=h ⟨k⟩
theorem zwe (h:ZW Q->P:=by intro Kz;refine rq (.int .u64 ((8*n:Nat):Int)) (uu rfl rfl aa aa) (vu aa) ?_;exact UF (f:=196) (i:=0) (first:=[]) (cap:=[]) rfl rfl call196 rfl rfl rfl (λW hS hW=>nZe (8*n) qp _ 8 _ _ _ aa (by rw[nTe,nZ];omega) W hW) Kz.p):P:=h ⟨k⟩
theorem zxe (h:ZW Q->P:=by intro Kz;exact jf (r:=r) (xs:=(ey ns n j)) (zs:=[x]) (enc:=dD) (m:=2) (H0:=[(bE,oC (dJ x) 325),(b5,oC #[r.val (ey ns n j).length] 84),(b4,oC #[bS] 84)]) (H1:=[]) pP Vl tB rfl rfl rfl rfl (bN.one (z:=x) tB Vh underlying82 (bL.own (i:=0) rfl)) af aB zP z4 Kz.p):P:=h ⟨k⟩
theorem zye (h:ZW Q->P:=by intro Kz;exact aS (.inl rfl) results294 aL A1 zH Kz.p):P:=h ⟨k⟩
theorem zze (h:ZW Q->P:=by intro Kz;exact rq aO (dp rfl) (vb z2) Kz.p):P:=h ⟨k⟩
theorem zAe (h:ZW Q->P:=by intro Kz;exact rq (.int .u64 ((r1%y1:Nat):Int)) (uf rfl rfl aa aa) (vu (nDi _ _ _ _ d2.eq)) Kz.p):P:=h ⟨k⟩
theorem zBe (h:ZW Q->P:=by intro Kz;exact nU (v:=.bool true) (f:=217) (cap:=[]) rfl call217 rfl rfl rfl (λW hS=>nob h2 W) Kz.p):P:=h ⟨k⟩
theorem zCe (h:ZW Q->P:=by intro Kz;exact rq (.int .u64 ((r1/y1:Nat):Int)) (ug rfl rfl aa aa aa) (vu (nng r1 y1)) Kz.p):P:=h ⟨k⟩
theorem zDe (h:ZW Q->P:=by intro Kz;exact ntg (i:=0) (γ:=Mp) (v:=λ_=>.tuple #[]) (ob:=λm=>m.obj ab (gR (bh ns) (512+d))) (Φ:=λm=>m.Ok (gR (bh ns) (512+d))) (first:=[.map (some bf)]) (cap:=[]) rfl rfl call367 rfl rfl rfl (λW hS hW=>nBe bf m hm (512+d) W hW) Kz.p):P:=h ⟨k⟩
theorem zEe (h:ZW Q->P:=by intro Kz;exact apG (a:=a9) (xs:=((fJ ts i).take k)) (zs:=[x]++((fJ ts i).drop k)) (enc:=fu) (m:=5) S1 nq rfl rfl rfl (bN.sl nq GW underlying32 A0 (zr.tk k) (λb hb=>⟨λh=>h,zD⟩)) rfl (bN.rw (t:=199) nq GW underlying32 tT zP) zP zLc Kz.p):P:=h ⟨k⟩
theorem UB (h:ZW Q->P:=by intro Kz;exact rx (iP 32 4294967296 zF rfl rfl rfl) Kz.p):P:=h ⟨k⟩
theorem zGe (h:ZW Q->P:=by intro Kz;refine PJ.reH (H':=[(qp,oC (cf 128 (qI n m j N)) 5),(b3,oC (lM n m (bK n)).cells 289),(b2,oC (kW (lM n m (bK n)) 8) 34)]) rfl ?_;exact aS (.inl rfl) results140 (RS.wA (i:=2) rfl isAgg34 sizeOf34 rfl (by rw[kW,nZ];omega) RS.n) A0 zhc Kz.p):P:=h ⟨k⟩
theorem zHe (h:ZW Q->P:=by intro Kz;exact ny (α:=Nat) (v:=λb:Nat=>.slice (aH b) 11 11) (Φ:=λ(W:World) (b:Nat) (w1:World)=>W.heap.size<=b/\ef w1.heap.size w1 (.list (pw c)) (vL (aH b) 11 11)) call256 rfl rfl rfl (λW hS=>nIf c cZ.few N W aT (hC.us hS.sm)) Kz.p):P:=h ⟨k⟩
theorem zIe (h:ZW Q->P:=by intro Kz;exact ny (α:=Nat) (v:=λb:Nat=>.slice (aH b) 11 11) (Φ:=λ(W:World) (b:Nat) (w1:World)=>W.heap.size<=b/\ef w1.heap.size w1 (.list (pw c)) (vL (aH b) 11 11)) call224 rfl rfl rfl (λW hS=>n4h c cZ.few N W aT (hC.us hS.sm)) Kz.p):P:=h ⟨k⟩
theorem zJe (h:ZW Q->P:=by intro Kz;exact bX (.int .u64 ((q-1:Nat):Int)) Kz.p):P:=h ⟨k⟩
theorem XB (h:ZW Q->P:=by intro Kz;exact iW underlying50 sizeOf5 zeroValue5 rfl rfl rfl rfl rfl rfl rfl Kz.p):P:=h ⟨k⟩
theorem V7 (h:ZW Q->P:=by intro Kz;exact bX (.slice (some ⟨bo,oo,none⟩) ns.length cp) Kz.p):P:=h ⟨k⟩
theorem VP (h:ZW Q->P:=by intro Kz;exact bX (.slice G.ma G.g.ms.length G.mc) Kz.p):P:=h ⟨k⟩
theorem zNe (h:ZW Q->P:=by intro Kz;exact aS (.inl rfl) results326 aL A2 zH Kz.p):P:=h ⟨k⟩
theorem zOe (h:ZW Q->P:=by intro Kz;exact aS (.inl rfl) results168 aL A1 zH Kz.p):P:=h ⟨k⟩
theorem zPe (h:ZW Q->P:=by intro Kz;exact aS (.inl rfl) results167 aL A2 zH Kz.p):P:=h ⟨k⟩
theorem IV (h:ZW Q->P:=by intro Kz;refine OX.done ?_;exact PX.next Kz.p):P:=h ⟨k⟩
theorem SF (h:ZW Q->P:=by intro Kz;exact aS (.inl rfl) results167 aL A1 trivial Kz.p):P:=h ⟨k⟩
theorem zSe (h:ZW Q->P:=by intro Kz;exact ny (α:=Nat) (v:=λb:Nat=>.slice (aH b) 32 32) (Φ:=λ(W:World) (b:Nat) (w1:World)=>W.heap.size<=b/\w1.heap[b]? =some (oC (dg (kL Z c)) 34)) call172 rfl rfl rfl (λW hS=>nUi hZ c cZ N W aT (hC.us hS.sm)) Kz.p):P:=h ⟨k⟩
theorem zTe (h:ZW Q->P:=by intro Kz;exact cl call43 rfl (λW hS=>by rw[<-he];exact nQ _ W) (v:=ab e) Kz.p):P:=h ⟨k⟩
theorem zUe (h:ZW Q->P:=by intro Kz;exact ny (α:=Nat) (v:=λb=>.slice (aH b) 32 32) (Φ:=λW b w1=>W.heap.size<=b/\w1.heap[b]? =some (oC (dg (eC Z lk)) 34)) call22 rfl rfl rfl (λW hS=>nNc hZ lk hlk W (hg.old hS A4 (λk hk=>hxo k aa) zlc)) Kz.p):P:=h ⟨k⟩
theorem UG (h:ZW Q->P:=by intro Kz;exact rx (xA rfl rfl aa aa) Kz.p):P:=h ⟨k⟩
theorem zWe (h:ZW Q->P:=by intro Kz;exact rq aK (aN rfl rfl) (vb mZ) Kz.p):P:=h ⟨k⟩
theorem zXe (h:ZW Q->P:=by intro Kz;exact nXj (ev:=ab) (kv:=mF (bh ns) d) (enc:=ak) (n:=1) (ds:=da d) (v:=λmp s=>.tuple #[mp,s,ab 0]) call343 rfl rfl rfl (λW hS=>n3f ns hn N a cp W aT (aA.us hS.sm) fe d hd false (λh=>by cases h)) Kz.p):P:=h ⟨k⟩
theorem zYe (h:ZW Q->P:=by intro Kz;exact nGk (ev:=ab) (kv:=bh ns) (v:=id) call366 rfl rfl rfl (λW hS=>nUg ns hn N a cp W aT (aA.us hS.sm)) Kz.p):P:=h ⟨k⟩
theorem zZe (h:ZW Q->P:=by intro Kz;exact nXj (ev:=ab) (kv:=mF (bh ns) d) (enc:=ak) (n:=1) (ds:=da d) (v:=λmp s=>.tuple #[mp,s,ab 0]) call343 rfl rfl rfl (λW hS=>n3f ns hn N a cp W aT (aA.us hS.sm) fe d hd true (λ_=>mG)) Kz.p):P:=h ⟨k⟩
theorem KJ (h:ZW Q->P:=by intro Kz;exact OJ.dropAt (i:=0) rfl zI Kz.p):P:=h ⟨k⟩
theorem z1e (h:ZW Q->P:=by intro Kz;exact IB (enc:=ak) (m:=1) (t:=3) (xs:=(cA (nC s.pls) l.fo)) (v:=id) (first:=[]) (cap:=[]) rfl call41 rfl rfl rfl (λW hS=>n1l s.pls (by have:=ho.pl;omega) N s.pa s.pc W aT (hs.pl.us hS.sm) l.fo) Kz.p):P:=h ⟨k⟩
theorem z2e (h:ZW Q->P:=by intro Kz;refine cl call121 rfl (λW hS=>ntf _ _ _ W) ?_;exact nkg (ys:=(V.list l).enc) call120 rfl rfl rfl (λW hS=>nOj l cC hd fF N (aH bl) lc W (dS hN (hS.links _ A0).size) (ef.us hS.sm _ _ kT)) Kz.p):P:=h ⟨k⟩
theorem z3e (h:ZW Q->P:=by intro Kz;exact CJ.lp (α:=Nat) [1,3] (λj=>[(4,ab (j:Int))]) (λj=>[]) (λj=>j<=(fH G.g.ns 512).length/\GC G.g j) (λj=>(fH G.g.ns 512).length-j) 0 ⟨cd _,λi x y hi=>absurd hi aa⟩ Kz.p):P:=h ⟨k⟩
theorem z4e (h:ZW Q->P:=by intro Kz;exact aS (.inl rfl) results226 aL A1 zH Kz.p):P:=h ⟨k⟩
theorem z5e (h:ZW Q->P:=by intro Kz;exact jf (r:=r) (xs:=xs) (zs:=[q]) (enc:=fu) (m:=5) (H0:=[(xt,oC (plA q) 199)]) (H1:=[]) rfl S1 nq rfl rfl rfl rfl (bN.one (z:=q) nq GW underlying32 (bL.own (i:=0) rfl)) af aB zP z4 Kz.p):P:=h ⟨k⟩
theorem z6e (h:ZW Q->P:=by intro Kz;exact Dg underlying115 sizeOf139 zeroValue139 rfl rfl rfl rfl rfl rfl rfl Kz.p):P:=h ⟨k⟩
theorem z7e (h:ZW Q->P:=by intro Kz;exact iW underlying81 sizeOf156 zeroValue156 rfl rfl rfl rfl rfl rfl rfl Kz.p):P:=h ⟨k⟩
theorem Wh (h:ZW Q->P:=by intro Kz;exact aS (.inl rfl) results170 aL A4 trivial Kz.p):P:=h ⟨k⟩
theorem z9e (h:ZW Q->P:=by intro Kz;exact call (v:=.bool true) call234 rfl rfl rfl (λW hS=>by rw[<-decide_eq_true hd];exact n7g d W) Kz.p):P:=h ⟨k⟩
theorem zaf (h:ZW Q->P:=by intro Kz;exact cl call118 rfl (λW hS=>nHj hZ Xg qq cs hcs cZ W.heap.size la lc W (aC _) (hXF.lies hS.fzLies) (aA.up aT (hS.same A1 hN zO z5)) (λc hc=>(hC c hc).up aT (hS.same A1 hN zO z5))) Kz.p):P:=h ⟨k⟩
theorem zbf (h:ZW Q->P:=by intro Kz;exact rq (.int .u64 (r1:Int)) (u9 rfl rfl) (vu zub) Kz.p):P:=h ⟨k⟩
theorem zcf (h:ZW Q->P:=by intro Kz;exact iW underlying106 sizeOf86 zeroValue86 rfl rfl rfl rfl rfl rfl rfl Kz.p):P:=h ⟨k⟩
theorem Ot (h:ZW Q->P:=by intro Kz;refine CX.seq ?_;exact CX.region Kz.p):P:=h ⟨k⟩
theorem zef (h:ZW Q->P:=by intro Kz;exact lG (i:=0) rfl sizeOf287 rfl rfl rfl rfl (by rw[nZ];omega) rfl Kz.p):P:=h ⟨k⟩
theorem zff (h:ZW Q->P:=by intro Kz;exact IB (enc:=ak) (m:=1) (t:=3) (xs:=(cA (nC s.pls) l.fo)) (v:=id) (first:=[]) (cap:=[]) rfl call75 rfl rfl rfl (λW hS=>nzh s.pls ho.pl N s.pa s.pc W aT (hs.pl.us hS.sm) l.fo) Kz.p):P:=h ⟨k⟩
theorem zgf (h:ZW Q->P:=by intro Kz;exact nN (enc:=ak) (m:=1) (t:=3) (xs:=(fH G.g.ns 512)) (v:=id) (first:=[]) (cap:=[]) rfl call227 rfl rfl rfl nh (λW hS=>nWi G.g.ns hn N G.na G.nc W aT (aA.up (aC _) hS.sm)) Kz.p):P:=h ⟨k⟩
theorem zhf (h:ZW Q->P:=by intro Kz;exact xg (enc:=dD) (m:=2) (t:=325) (xs:=(fk ns d)) (v:=(λs=>.agg #[s])) (first:=[]) (cap:=[]) rfl call236 rfl rfl rfl (λW hS=>n9f ns hn N a cp W aT (aA.us hS.sm) d hd) Kz.p):P:=h ⟨k⟩
theorem zif (h:ZW Q->P:=by intro Kz;exact rx (ad (v:=ab n) isAgg3 rfl A0 pU zL zD zld) Kz.p):P:=h ⟨k⟩
theorem zjf (h:ZW Q->P:=by intro Kz;exact cl call235 rfl (λW hS=>by rw[<-show(!(al (bh ns) (512+d)).isSome)=false by rw[hm];rfl];exact nLd ns hn N a cp W aT (aA.us hS.sm) (512+d)) (v:=.bool false) Kz.p):P:=h ⟨k⟩
theorem zkf (h:ZW Q->P:=by intro Kz;exact rq (.bool ((al (vq (dX ns)) x.at_).getD false)) (uG (ev:=Value.bool) underlying409 underlying3 zeroValue4 hm (bL.own (i:=1) rfl) rfl rfl) (nxl _) Kz.p):P:=h ⟨k⟩
theorem zlf (h:ZW Q->P:=by intro Kz;exact UF (f:=196) (i:=2) (first:=[]) (cap:=[]) rfl rfl call196 rfl rfl rfl (λW hS hW=>nZe (S8.at (lM n m (bK n)) i).toNat b2 (4*i) _ _ _ _ aa (by rw[kW,nZ];omega) W hW) Kz.p):P:=h ⟨k⟩
theorem zmf (h:ZW Q->P:=by intro Kz;exact ny (α:=Nat) (v:=λb=>.slice (aH b) 32 32) (Φ:=λW b w1=>W.heap.size<=b/\w1.heap[b]? =some (oC (dg (eC Z l)) 34)) call38 rfl rfl rfl (λW hS=>nbg hZ l hlk W) Kz.p):P:=h ⟨k⟩
theorem znf (h:ZW Q->P:=by intro Kz;exact rq aK (dp rfl) (vb (Bool.of_not_eq_false h1)) Kz.p):P:=h ⟨k⟩
theorem zof (h:ZW Q->P:=by intro Kz;exact rq aO (dp rfl) (vb (Bool.eq_false_iff.2 hs)) Kz.p):P:=h ⟨k⟩
theorem zpf (h:ZW Q->P:=by intro Kz;exact rx (ad (v:=ab x.kind) isAgg3 rfl A1 hcs zL trivial (nu ay hx rfl 0 zF)) Kz.p):P:=h ⟨k⟩
theorem zqf (h:ZW Q->P:=by intro Kz;exact nYg (H0:=[(b52,cT fu 199 (((fJ ts i).take k)++([x]++((fJ ts i).drop k))) GM)]) (H1:=[]) (r:=rB) (enc:=fu) (t:=199) (xs:=[x]++((fJ ts i).drop k)) rfl uZ Kz.p):P:=h ⟨k⟩
theorem zrf (h:ZW Q->P:=by intro Kz;exact nU (v:=.bool true) (f:=217) (cap:=[]) rfl call217 rfl rfl rfl (λW hS=>nob h3 W) Kz.p):P:=h ⟨k⟩
theorem zsf (h:ZW Q->P:=by intro Kz;exact cl call94 rfl (λW hS=>by rw[<-gJ];exact nYk hZ s hs0 (V.list l).enc aa iK 0 zC sf.le W (cD.row (hS.own _ A0)) (hg.old hS A0 zO zJ)) (v:=.agg (dg df)) Kz.p):P:=h ⟨k⟩
theorem ztf (h:ZW Q->P:=by intro Kz;exact aS (.inl rfl) results189 aL A1 zH Kz.p):P:=h ⟨k⟩
theorem zuf (h:ZW Q->P:=by intro Kz;exact aS (.inl rfl) results10 aL A2 zH Kz.p):P:=h ⟨k⟩
theorem zvf (h:ZW Q->P:=by intro Kz;exact PJ.reH (H':=[(qp,oC (cf 128 (qI n m j N)) 5),(b3,oC (lM n m (bK n)).cells 289),(b2,oC (kW (lM n m (bK n)) (i+1)) 34)]) (by rw[<-n8l _ i aa];rfl) Kz.p):P:=h ⟨k⟩
theorem zwf (h:ZW Q->P:=by intro Kz;exact cl call331 rfl (λW hS=>n5f (BH G.g.epoch) 327 [ptr b1 0] call327 G.g.ms pO N G.ma G.mc W aT (hG.ms.us hS.sm) (λj x hx W2 hB=>nwp G b1 x W2 zad)) Kz.p):P:=h ⟨k⟩
theorem zxf (h:ZW Q->P:=by intro Kz;exact rq (.bool (decide (q.fol≠p.fol))) (aN rfl rfl) zP Kz.p):P:=h ⟨k⟩
theorem zyf (h:ZW Q->P:=by intro Kz;exact call (v:=.bool true) call170 rfl rfl rfl (λW hS=>by have h9:=nKf G N W aT (hG.us hS.sm) c cZ.few (hC.us hS.sm) lT hv IP hp;rw[hb]at h9;exact h9) Kz.p):P:=h ⟨k⟩
theorem zzf (h:ZW Q->P:=by intro Kz;exact lG (i:=0) rfl sizeOf3 rfl rfl rfl rfl (fy rfl) rfl Kz.p):P:=h ⟨k⟩
theorem zBf (h:ZW Q->P:=by intro Kz;exact rq (.agg #[ab y.kind,ab a1,.string a2,.slice p3 n3 c3]) (eg isAgg139 sizeOf139 rfl A1 hcs zL zD aa) (va ztc) Kz.p):P:=h ⟨k⟩
theorem zCf (h:ZW Q->P:=by intro Kz;exact rq (.slice a9 ((fJ ts i).take k).length ((fJ ts i).take k).length) (abU (k:=k) underlying32 sizeOf199 rfl yZ rfl rfl aa) ZV Kz.p):P:=h ⟨k⟩
theorem zDf (h:ZW Q->P:=by intro Kz;exact call (v:=.tuple #[.agg (lkC p),aK]) call18 rfl rfl rfl (λW hS=>by have h9:=nNg hZ s ho N W aT (hs.us (hS.same A1 hN zO uy)) l hb;rwa[hp]at h9) Kz.p):P:=h ⟨k⟩
theorem zEf (h:ZW Q->P:=by intro Kz;exact bX (.slice a ns.length cp) Kz.p):P:=h ⟨k⟩
theorem zFf (h:ZW Q->P:=by intro Kz;refine rx (eZ (i:=2) rfl isAgg34 sizeOf34 rfl (by rw[kW,nZ])) ?_;exact fE (i:=2) rfl sizeOf34 rfl rfl rfl zZc (by rw[kW,nZ]) rfl Kz.p):P:=h ⟨k⟩
theorem zGf (h:ZW Q->P:=by intro Kz;refine cl call333 rfl (λW hS=>ndd l de N a cp W aT (aA.us hS.sm)) ?_;exact rq aO (ij rfl) (by rw[hf];rfl) Kz.p):P:=h ⟨k⟩
theorem zHf (h:ZW Q->P:=by intro Kz;exact cl call144 rfl (λW hS=>nze 0 zF zF W) Kz.p):P:=h ⟨k⟩
theorem zIf (h:ZW Q->P:=by intro Kz;exact rq aO (aN rfl rfl) (vb An) Kz.p):P:=h ⟨k⟩
theorem UI (h:ZW Q->P:=by intro Kz;exact rx (fC rfl rfl) Kz.p):P:=h ⟨k⟩
theorem zKf (h:ZW Q->P:=by intro Kz;exact cl call122 rfl (λW hS=>by rw[<-gJ];exact nIq hZ s hs0 (V.list l).enc aa iK 0 zC W (cD.row (hS.own _ A0))) (v:=.agg (dg df)) Kz.p):P:=h ⟨k⟩
theorem zLf (h:ZW Q->P:=by intro Kz;exact fE (i:=0) rfl sizeOf38 rfl rfl rfl rfl rfl rfl Kz.p):P:=h ⟨k⟩
theorem zMf (h:ZW Q->P:=by intro Kz;exact cl call289 rfl (λW hS=>ZL _ _ _ W) Kz.p):P:=h ⟨k⟩
theorem zNf (h:ZW Q->P:=by intro Kz;exact nkg (ys:=(V.list l).enc) call93 rfl rfl rfl (λW hS=>nrf l cC hd fF N (aH bl) lc W (dS hN (hS.links _ A0).size) (ef.us hS.sm _ _ kT)) Kz.p):P:=h ⟨k⟩
theorem zOf (h:ZW Q->P:=by intro Kz;exact rq aK (dp rfl) (vb (hm)) Kz.p):P:=h ⟨k⟩
theorem zPf (h:ZW Q->P:=by intro Kz;exact xg (enc:=dD) (m:=2) (t:=325) (xs:=[]) (v:=λs=>.agg #[s]) (first:=[]) (cap:=[]) rfl call345 rfl rfl rfl (λW hS=>nhg W) Kz.p):P:=h ⟨k⟩
theorem zQf (h:ZW Q->P:=by intro Kz;exact rq (.int .u64 (n%18446744073709551616)) (kz underlying3 underlying161 rfl) (vu (nz n)) Kz.p):P:=h ⟨k⟩
theorem zRf (h:ZW Q->P:=by intro Kz;exact bX (.slice x.ba x.body.length x.bc) Kz.p):P:=h ⟨k⟩
theorem zSf (h:ZW Q->P:=by intro Kz;exact aS (.inl rfl) results335 aL A2 zH Kz.p):P:=h ⟨k⟩
theorem zTf (h:ZW Q->P:=by intro Kz;exact rx (iN underlying96 af rfl) Kz.p):P:=h ⟨k⟩
theorem zUf (h:ZW Q->P:=by intro Kz;refine ao results43 rfl A0 ?_;exact congrArg ab Kz.p):P:=h ⟨k⟩
theorem zVf (h:ZW Q->P:=by intro Kz;exact cl call162 rfl (λW hS=>ntl _ _ _ aa aa aa aa aa W) Kz.p):P:=h ⟨k⟩
theorem zWf (h:ZW Q->P:=by intro Kz;exact cl call137 rfl (λW hS=>n2g _ _ _ aa aa aa aa aa W) Kz.p):P:=h ⟨k⟩
theorem zXf (h:ZW Q->P:=by intro Kz;exact cl call116 rfl (λW hS=>nOc a b 4611686018427377339 (by have:=Iz.1;omega) Iz.2.1 (by have:=Db.1;omega) Db.2.1 zF W) Kz.p):P:=h ⟨k⟩
theorem zYf (h:ZW Q->P:=by intro Kz;exact cl call116 rfl (λW hS=>nOc _ _ _ aa aa aa aa aa W) Kz.p):P:=h ⟨k⟩
theorem VE (h:ZW Q->P:=by intro Kz;refine B 6 ?_;refine bX (.agg (aY G)) ?_;refine cl call293 rfl (λW hS=>by rw[<-hv];exact nbb G N W aT (hG.us hS.sm)) (v:=.bool true) ?_;exact bX aO Kz.p):P:=h ⟨k⟩
theorem z0f (h:ZW Q->P:=by intro Kz;refine B 2 ?_;refine rx (ku rfl rfl) ?_;refine B 1 ?_;refine rx (o4 rfl rfl) ?_;refine B 2 ?_;refine rx (ku rfl rfl) ?_;refine zbf ?_;refine B 7 ?_;refine zCe ?_;refine B 8 ?_;refine Jb ?_;refine zAe ?_;refine B 5 ?_;exact z6d Kz.p):P:=h ⟨k⟩
theorem vo (h:ZW Q->P:=by intro Kz;refine lx ?_;exact lx Kz.p):P:=h ⟨k⟩
theorem C5 (h:ZW Q->P:=by intro Kz;exact rx (dp rfl) Kz.p):P:=h ⟨k⟩
theorem z3f (h:ZW Q->P:=by intro Kz;refine ao results16 rfl A1 ?_;exact vb Kz.p):P:=h ⟨k⟩
theorem Cl (h:ZW Q->P:=by intro Kz;refine bX aK ?_;exact B 11 Kz.p):P:=h ⟨k⟩
theorem z5f (h:ZW Q->P:=by intro Kz;refine B 3 ?_;refine rx (iP 8 256 zF rfl rfl rfl) ?_;refine B 13 ?_;exact W6 Kz.p):P:=h ⟨k⟩
theorem zm (h:ZW Q->P:=by intro Kz;refine Nx ?_;exact B 4 Kz.p):P:=h ⟨k⟩
theorem Vy (h:ZW Q->P:=by intro Kz;exact bX (.agg #[.slice G.na G.g.ns.length G.nc]) Kz.p):P:=h ⟨k⟩
theorem NA (h:ZW Q->P:=by intro Kz;exact rx (ee rfl rfl) Kz.p):P:=h ⟨k⟩
theorem z9f (h:ZW Q->P:=by intro Kz;refine bX (.agg (lkC l)) ?_;exact cl call15 rfl (λW hS=>nci l hE W) Kz.p):P:=h ⟨k⟩
theorem zag (h:ZW Q->P:=by intro Kz;exact rq aO (aN rfl rfl) (vb mZ) Kz.p):P:=h ⟨k⟩
theorem zbg (h:ZW Q->P:=by intro Kz;refine SB ?_;refine rq aK (aN rfl rfl) (vb (by simpa using g4)) ?_;refine B 15 ?_;exact zPe Kz.p):P:=h ⟨k⟩
theorem zcg (h:ZW Q->P:=by intro Kz;refine B 9 ?_;refine rx (kU (ev:=ab) underlying399 underlying3 zeroValue3 hm (bL.own (i:=0) rfl) rfl rfl) ?_;exact B 10 Kz.p):P:=h ⟨k⟩
theorem zdg (h:ZW Q->P:=by intro Kz;refine bX (.agg (cW c)) ?_;exact cl call294 rfl (λW hS=>by rw[<-kf];exact nIb c cZ.few N W aT (hC.us hS.sm)) (v:=ab 0) Kz.p):P:=h ⟨k⟩
theorem zeg (h:ZW Q->P:=by intro Kz;refine ao results35 rfl A0 ?_;exact congrArg ab Kz.p):P:=h ⟨k⟩
theorem zfg (h:ZW Q->P:=by intro Kz;exact lG (i:=0) rfl sizeOf84 rfl rfl rfl rfl (fy rfl) (Rw.val_one2 _ _) Kz.p):P:=h ⟨k⟩
theorem Xp (h:ZW Q->P:=by intro Kz;exact rx (lB rfl rfl aa) Kz.p):P:=h ⟨k⟩
theorem zhg (h:ZW Q->P:=by intro Kz;refine bX (ab ((ga c.chs (d:Int)).getD ru).kind) ?_;exact rq aO (aN rfl rfl) (vb z2) Kz.p):P:=h ⟨k⟩
theorem zjg (h:ZW Q->P:=by intro Kz;exact rr (.agg (ekC Iy)) (jE underlying58 zeroValue58 (ec.c sizeOf34 (ec.c sizeOf45 (ec.n))) rfl rfl) Kz.p):P:=h ⟨k⟩
theorem zkg (h:ZW Q->P:=by intro Kz;exact iW underlying97 sizeOf145 zeroValue145 rfl rfl rfl rfl rfl rfl rfl Kz.p):P:=h ⟨k⟩
theorem zlg (h:ZW Q->P:=by intro Kz;exact iW underlying82 sizeOf325 zeroValue325 rfl rfl rfl rfl rfl rfl rfl Kz.p):P:=h ⟨k⟩
theorem zmg (h:ZW Q->P:=by intro Kz;refine bX (ab ((ga l (j:Int)).getD ru).kind) ?_;exact rq aK (aN rfl rfl) (vb Wf) Kz.p):P:=h ⟨k⟩
theorem zng (h:ZW Q->P:=by intro Kz;exact aS (.inl rfl) results7 aL A1 zH Kz.p):P:=h ⟨k⟩
theorem zog (h:ZW Q->P:=by intro Kz;exact UF (f:=147) (i:=1) (first:=[]) (cap:=[ptr b5 0]) rfl rfl call147 rfl rfl rfl (λW hS hW=>nMh _ _ _ aa aa aa aa W hW) Kz.p):P:=h ⟨k⟩
theorem zpg (h:ZW Q->P:=by intro Kz;refine Al ?_;exact cl call326 rfl (λW hS=>by rw[<-fe];exact nYb ns hn N a cp W aT (aA.us hS.sm)) (v:=ab 210) Kz.p):P:=h ⟨k⟩
theorem zqg (h:ZW Q->P:=by intro Kz;refine rq (ptr b5 j) (qH underlying335 sizeOf287 rfl rfl aa aa) (congrArg (ptr b5) aa) ?_;exact zef Kz.p):P:=h ⟨k⟩
theorem zrg (h:ZW Q->P:=by intro Kz;exact rq (.slice (some ⟨bo,oo,none⟩) G.g.ms.length G.mc) (ad isAgg81 rfl A1 aW bJ trivial rfl) mR Kz.p):P:=h ⟨k⟩
theorem zsg (h:ZW Q->P:=by intro Kz;exact rq (.slice (some ⟨bo,oo,none⟩) G.g.ms.length G.mc) (ad isAgg81 rfl A0 bV bj trivial rfl) mR Kz.p):P:=h ⟨k⟩
theorem ztg (h:ZW Q->P:=by intro Kz;exact rq (ab ((cX n:Int)-1-(0:Nat))) (u7 rfl rfl aa aa) (congrArg ab (by rw[hbI];omega)) Kz.p):P:=h ⟨k⟩
theorem zug (h:ZW Q->P:=by intro Kz;exact rq (.slice (some ⟨bo,oo,none⟩) c.chs.length c.cc) (ad isAgg95 rfl A0 bV bj trivial rfl) mR Kz.p):P:=h ⟨k⟩
theorem zvg (h:ZW Q->P:=by intro Kz;exact rx (qE 32 4294967296 zF rfl rfl rfl rfl aa aa) Kz.p):P:=h ⟨k⟩
theorem zwg (h:ZW Q->P:=by intro Kz;refine bX (ab cb.author) ?_;exact rq aK (aN rfl rfl) (vb (by simpa using hu)) Kz.p):P:=h ⟨k⟩
theorem zxg (h:ZW Q->P:=by intro Kz;exact nP (dI hM (λ_=>False) (hI [] _)) [] (vs:=[_,_]) func400 rfl ntmps400 rfl (Nl hM (hI [] _) h0 zP (by simp[ky]) zP) Kz.p):P:=h ⟨k⟩
theorem zyg (h:ZW Q->P:=by intro Kz;exact rq (.slice (some ⟨bo,oo,none⟩) G.g.ms.length G.mc) (ad isAgg81 rfl A0 bV bj zD rfl) mR Kz.p):P:=h ⟨k⟩
theorem zzg (h:ZW Q->P:=by intro Kz;refine YM ?_;exact Bv zeroValue38 rfl rfl Kz.p):P:=h ⟨k⟩
theorem Xt (h:ZW Q->P:=by intro Kz;exact rx (Ul rfl rfl) Kz.p):P:=h ⟨k⟩
theorem zBg (h:ZW Q->P:=by intro Kz;exact rx (qL underlying9 rfl) Kz.p):P:=h ⟨k⟩
theorem zCg (h:ZW Q->P:=by intro Kz;exact aS (.inl rfl) results231 aL A1 trivial Kz.p):P:=h ⟨k⟩
theorem zDg (h:ZW Q->P:=by intro Kz;exact aS (.inl rfl) results167 aL A2 trivial Kz.p):P:=h ⟨k⟩
theorem zEg (h:ZW Q->P:=by intro Kz;exact rx (ad (v:=ab y) isAgg3 rfl A1 hcs zL trivial (by have:=nI ay hy rfl zF;simpa[encI]using this)) Kz.p):P:=h ⟨k⟩
theorem zFg (h:ZW Q->P:=by intro Kz;exact wY (i:=1) (xs:=ys) (zs:=[b8 n i]) (sp:=s1) rfl bt rfl rfl rfl rfl (fQ.own (i:=0) underlying50 rfl) hr hf z4 Kz.p):P:=h ⟨k⟩
theorem zGg (h:ZW Q->P:=by intro Kz;exact rq (.bool (n.testBit (cX n-1-j))) (iU rfl rfl) (vb (PG n _)) Kz.p):P:=h ⟨k⟩
theorem zHg (h:ZW Q->P:=by intro Kz;exact rx (uu rfl rfl aa zcd) Kz.p):P:=h ⟨k⟩
theorem zIg (h:ZW Q->P:=by intro Kz;exact Dp [3] bt zeroValue5 rfl rfl rfl rfl rfl rfl rfl rfl rfl Kz.p):P:=h ⟨k⟩
theorem zJg (h:ZW Q->P:=by intro Kz;exact Dp [2] bt zeroValue5 rfl rfl rfl rfl rfl rfl rfl rfl rfl Kz.p):P:=h ⟨k⟩
theorem zKg (h:ZW Q->P:=by intro Kz;exact rx (hQ (l:=64) (h:=N-64*k) underlying50 sizeOf5 rfl ⟨_,_,rfl,rfl⟩ rfl aa aa rfl) Kz.p):P:=h ⟨k⟩
theorem zLg (h:ZW Q->P:=by intro Kz;exact rq (ptr b4 j) (qH underlying335 sizeOf287 rfl rfl aa aa) (congrArg (ptr b4) aa) Kz.p):P:=h ⟨k⟩
theorem zMg (h:ZW Q->P:=by intro Kz;exact lG (i:=1) rfl sizeOf214 rfl rfl rfl rfl (fy rfl) rfl Kz.p):P:=h ⟨k⟩
theorem zNg (h:ZW Q->P:=by intro Kz;refine rq aO (aN rfl rfl) (vb (by simpa using g4)) ?_;exact B 12 Kz.p):P:=h ⟨k⟩
theorem zOg (h:ZW Q->P:=by intro Kz;exact rr (.agg (dg (sl 1 0 0).par)) (uB underlying34 zeroValue34 sizeOf5 rfl rfl) Kz.p):P:=h ⟨k⟩
theorem zPg (h:ZW Q->P:=by intro Kz;exact cl call278 rfl (λW hS=>n0f G N W aT (hG.us hS.sm) b.author) (v:=ab (pz G.g.ms b.author)) Kz.p):P:=h ⟨k⟩
theorem zQg (h:ZW Q->P:=by intro Kz;exact rq aO (ij rfl) (vb (by rw[Classical.not_not.1 h1];rfl)) Kz.p):P:=h ⟨k⟩
theorem zRg (h:ZW Q->P:=by intro Kz;exact cl call293 rfl (λW hS=>by rw[<-hv];exact nbb G N W aT (hG.us hS.sm)) (v:=.bool false) Kz.p):P:=h ⟨k⟩
theorem zSg (h:ZW Q->P:=by intro Kz;exact cl call185 rfl (λW hS=>nOg _ aa aa W) Kz.p):P:=h ⟨k⟩
theorem zTg (h:ZW Q->P:=by intro Kz;exact rq aK (iV wZ zF nT rfl rfl rfl) (congrArg (λq=>Value.bool (!q)) h3) Kz.p):P:=h ⟨k⟩
theorem zUg (h:ZW Q->P:=by intro Kz;exact aS (.inl rfl) results333 aL A0 zH Kz.p):P:=h ⟨k⟩
theorem zVg (h:ZW Q->P:=by intro Kz;exact aS (.inl rfl) results169 aL A1 zH Kz.p):P:=h ⟨k⟩
theorem zWg (h:ZW Q->P:=by intro Kz;exact rq (.bool (decide (dr l.ver))) (iU rfl rfl) (vb (Yz _)) Kz.p):P:=h ⟨k⟩
theorem zXg (h:ZW Q->P:=by intro Kz;exact rq (.bool (decide (dr l.pub))) (iU rfl rfl) (vb (Yz _)) Kz.p):P:=h ⟨k⟩
theorem zYg (h:ZW Q->P:=by intro Kz;exact rx (Un rfl aa aa) Kz.p):P:=h ⟨k⟩
theorem zZg (h:ZW Q->P:=by intro Kz;exact bX (.slice s.ka s.lks.length s.kc) Kz.p):P:=h ⟨k⟩
theorem z0g (h:ZW Q->P:=by intro Kz;exact bX (.slice c.ba c.bxs.length c.bc) Kz.p):P:=h ⟨k⟩
theorem z1g (h:ZW Q->P:=by intro Kz;refine bX (.agg (VG x.w)) ?_;exact cl call334 rfl (λW hS=>nSg x.w W) (v:=ab (CB x.w)) Kz.p):P:=h ⟨k⟩
theorem z2g (h:ZW Q->P:=by intro Kz;exact aS (.inl rfl) results15 aL A2 zH Kz.p):P:=h ⟨k⟩
theorem z3g (h:ZW Q->P:=by intro Kz;exact bX (.slice (some ⟨bo,oo,none⟩) ts.length cp) Kz.p):P:=h ⟨k⟩
theorem ZO (h:ZW Q->P:=by intro Kz;exact PJ.dropAt (i:=0) rfl hfo Kz.p):P:=h ⟨k⟩
theorem z5g (h:ZW Q->P:=by intro Kz;exact nid (H0:=[]) (H1:=[]) (enc:=ak) (m:=1) (t:=3) (xs:=(fm Z cs G.g i)) rfl nh af aB Kz.p):P:=h ⟨k⟩
theorem z6g (h:ZW Q->P:=by intro Kz;exact rq aK (dp rfl) (vb (Classical.byContradiction h1)) Kz.p):P:=h ⟨k⟩
theorem z7g (h:ZW Q->P:=by intro Kz;exact rr (.bool (gV l.par (λ_=>0))) (lR wZ zF nT rfl rfl rfl) Kz.p):P:=h ⟨k⟩
theorem z8g (h:ZW Q->P:=by intro Kz;refine zUd ?_;exact rx (Qx underlying50 underlying5 underlying9 rfl A0 aW bJ zD) Kz.p):P:=h ⟨k⟩
theorem z9g (h:ZW Q->P:=by intro Kz;exact bX (.agg (IT Z cs la lc ⟨ia,ic,ta,tc⟩)) Kz.p):P:=h ⟨k⟩
theorem zah (h:ZW Q->P:=by intro Kz;exact N3 (i:=2) (ev:=qB) (k:=x.fol) (v:=x) rfl hm underlying184 underlying3 rfl rfl rfl rfl Kz.p):P:=h ⟨k⟩
theorem zbh (h:ZW Q->P:=by intro Kz;exact cl call91 rfl (λW hS=>ntd [a,b] _ _ _ _ _ rfl zP W (hS.old A0 hb8 hm8 trivial)) Kz.p):P:=h ⟨k⟩
theorem zdh (h:ZW Q->P:=by intro Kz;exact cl call335 rfl (λW hS=>nLf G N W aT (hG.us hS.sm) l de a cp (aA.us hS.sm) au) Kz.p):P:=h ⟨k⟩
theorem zeh (h:ZW Q->P:=by intro Kz;refine B 3 ?_;refine bX aO ?_;refine B 3 ?_;refine bX aO ?_;refine B 4 ?_;refine bX aO ?_;refine B 4 ?_;refine bX aO ?_;exact B 3 Kz.p):P:=h ⟨k⟩
theorem N8 (h:ZW Q->P:=by intro Kz;refine B 5 ?_;refine Al ?_;exact B 1 Kz.p):P:=h ⟨k⟩
theorem xY (h:ZW Q->P:=by intro Kz;refine B 7 ?_;exact lx Kz.p):P:=h ⟨k⟩
theorem Nf (h:ZW Q->P:=by intro Kz;refine B 6 ?_;exact ao results185 rfl A0 Kz.p):P:=h ⟨k⟩
theorem DM (h:ZW Q->P:=by intro Kz;refine bX aK ?_;exact B 12 Kz.p):P:=h ⟨k⟩
theorem zjh (h:ZW Q->P:=by intro Kz;refine B 18 ?_;refine Cl ?_;exact ztf Kz.p):P:=h ⟨k⟩
theorem zkh (h:ZW Q->P:=by intro Kz;refine bX (.agg (lkC l)) ?_;refine cl call20 rfl (λW hS=>by have h9:=nR l W;rwa[hv]at h9) (v:=.bool true) ?_;refine B 11 ?_;exact bX (ab l.by_) Kz.p):P:=h ⟨k⟩
theorem zlh (h:ZW Q->P:=by intro Kz;refine B 2 ?_;refine z3g ?_;refine B 2 ?_;refine bX (.agg (plA q)) ?_;exact OR Kz.p):P:=h ⟨k⟩
theorem UH (h:ZW Q->P:=by intro Kz;refine C5 ?_;exact C5 Kz.p):P:=h ⟨k⟩
theorem znh (h:ZW Q->P:=by intro Kz;refine bX (.agg (aY G)) ?_;exact bX (.agg (cW c)) Kz.p):P:=h ⟨k⟩
theorem zoh (h:ZW Q->P:=by intro Kz;refine call (v:=.bool true) call4 rfl rfl rfl (λW hS=>nFk hZ W (hg.old hS A2 zO trivial)) ?_;refine B 9 ?_;exact bX (.agg (rdA s)) Kz.p):P:=h ⟨k⟩
theorem zph (h:ZW Q->P:=by intro Kz;refine B 8 ?_;exact ao results281 rfl A1 Kz.p):P:=h ⟨k⟩
theorem zqh (h:ZW Q->P:=by intro Kz;refine bX (.agg (VG x.w)) ?_;exact cl call231 rfl (λW hS=>nGh x.w W) (v:=ab (CB x.w)) Kz.p):P:=h ⟨k⟩
theorem pN (h:ZW Q->P:=by intro Kz;refine bX aO ?_;exact B 6 Kz.p):P:=h ⟨k⟩
theorem zsh (h:ZW Q->P:=by intro Kz;refine B 2 ?_;refine zHg ?_;refine B 1 ?_;refine Jb ?_;refine B 1 ?_;refine Pz ?_;exact B 4 Kz.p):P:=h ⟨k⟩
theorem K2 (h:ZW Q->P:=by intro Kz;refine eN func258 ntmps258 ?_;exact B 3 Kz.p):P:=h ⟨k⟩
theorem Ni (h:ZW Q->P:=by intro Kz;refine zJe ?_;refine B 7 ?_;exact z9d Kz.p):P:=h ⟨k⟩
theorem KT (h:ZW Q->P:=by intro Kz;refine B 8 ?_;exact lx Kz.p):P:=h ⟨k⟩
theorem NF (h:ZW Q->P:=by intro Kz;refine bX aK ?_;exact B 5 Kz.p):P:=h ⟨k⟩
theorem zxh (h:ZW Q->P:=by intro Kz;refine bX (.agg (mU s)) ?_;exact bX (.agg (lkC l)) Kz.p):P:=h ⟨k⟩
theorem zyh (h:ZW Q->P:=by intro Kz;refine C5 ?_;refine XH ?_;exact Nx Kz.p):P:=h ⟨k⟩
theorem zzh (h:ZW Q->P:=by intro Kz;refine N8 ?_;exact cl call343 rfl (λW hS=>n9l ns hn N a cp W aT (aA.us hS.sm) fe d hd iL) Kz.p):P:=h ⟨k⟩
theorem zAh (h:ZW Q->P:=by intro Kz;refine KJ ?_;refine OJ.reH (H':=(Rw.row B2 sV sW).hp fu 199 (xs++[q])++[]) rfl ?_;exact B 9 Kz.p):P:=h ⟨k⟩
theorem zBh (h:ZW Q->P:=by intro Kz;refine cl call136 rfl (λW hS=>nGj _ _ aa aa aa aa W) ?_;refine B 11 ?_;exact zWf Kz.p):P:=h ⟨k⟩
theorem zDh (h:ZW Q->P:=by intro Kz;refine B 8 ?_;refine bX aO ?_;refine B 3 ?_;refine bX aO ?_;exact zjh Kz.p):P:=h ⟨k⟩
theorem zEh (h:ZW Q->P:=by intro Kz;refine B 1 ?_;refine nxc rfl ?_;exact B 4 Kz.p):P:=h ⟨k⟩
theorem zFh (h:ZW Q->P:=by intro Kz;refine zae ?_;refine B 5 ?_;refine zBe ?_;refine B 6 ?_;refine zrf ?_;refine B 6 ?_;refine nU (v:=.bool true) (f:=217) (cap:=[]) rfl call217 rfl rfl rfl (λW hS=>nob h4 W) ?_;refine B 6 ?_;exact zBg Kz.p):P:=h ⟨k⟩
theorem zGh (h:ZW Q->P:=by intro Kz;refine B 2 ?_;exact bX (.agg (ff x)) Kz.p):P:=h ⟨k⟩
theorem zHh (h:ZW Q->P:=by intro Kz;refine bX (.agg (rdA s)) ?_;exact bX (.agg (lkC l)) Kz.p):P:=h ⟨k⟩
theorem Sk (h:ZW Q->P:=by intro Kz;refine B 9 ?_;exact lx Kz.p):P:=h ⟨k⟩
theorem RU (h:ZW Q->P:=by intro Kz;refine B 7 ?_;exact vo Kz.p):P:=h ⟨k⟩
theorem zKh (h:ZW Q->P:=by intro Kz;refine N8 ?_;exact cl call343 rfl (λW hS=>n3g ns hn N a cp W aT (aA.us hS.sm) fe d true) Kz.p):P:=h ⟨k⟩
theorem X2 (h:ZW Q->P:=by intro Kz;refine B 13 ?_;exact bX aK Kz.p):P:=h ⟨k⟩
theorem xf (h:ZW Q->P:=by intro Kz;refine bX aO ?_;exact B 7 Kz.p):P:=h ⟨k⟩
theorem Rg (h:ZW Q->P:=by intro Kz;refine bX (.agg (aY G)) ?_;exact B 1 Kz.p):P:=h ⟨k⟩
theorem QI (h:ZW Q->P:=by intro Kz;refine eN func15 ntmps15 ?_;exact B 3 Kz.p):P:=h ⟨k⟩
theorem zPh (h:ZW Q->P:=by intro Kz;refine zeh ?_;refine zKd ?_;refine B 4 ?_;refine bX aK ?_;refine B 2 ?_;exact VP Kz.p):P:=h ⟨k⟩
theorem zQh (h:ZW Q->P:=by intro Kz;refine B 6 ?_;exact ao results181 rfl A2 Kz.p):P:=h ⟨k⟩
theorem zRh (h:ZW Q->P:=by intro Kz;refine bX (.agg (aY (⟨⟨G.g.folder,c.epoch,aE Z c,[],[]⟩,none,0,none,0⟩:Gv))) ?_;exact B 5 Kz.p):P:=h ⟨k⟩
theorem zSh (h:ZW Q->P:=by intro Kz;refine lG (i:=3) rfl sizeOf81 rfl rfl rfl rfl (fy rfl) rfl ?_;refine B 9 ?_;refine vo ?_;exact lx Kz.p):P:=h ⟨k⟩
theorem Ce (h:ZW Q->P:=by intro Kz;refine bX aO ?_;exact B 9 Kz.p):P:=h ⟨k⟩
theorem zUh (h:ZW Q->P:=by intro Kz;refine B 2 ?_;refine zof ?_;refine B 1 ?_;refine bX (ab ca.author) ?_;refine B 1 ?_;refine zwg ?_;refine B 1 ?_;refine bX (.agg (cW ca)) ?_;refine B 1 ?_;exact bX (ab cb.author) Kz.p):P:=h ⟨k⟩
theorem NG (h:ZW Q->P:=by intro Kz;refine B 3 ?_;exact bX aK Kz.p):P:=h ⟨k⟩
theorem Yx (h:ZW Q->P:=by intro Kz;refine B 5 ?_;refine zUd ?_;exact B 4 Kz.p):P:=h ⟨k⟩
theorem zXh (h:ZW Q->P:=by intro Kz;refine Al ?_;refine zhe ?_;exact B 6 Kz.p):P:=h ⟨k⟩
theorem Cr (h:ZW Q->P:=by intro Kz;refine bX aO ?_;exact B 4 Kz.p):P:=h ⟨k⟩
theorem zZh (h:ZW Q->P:=by intro Kz;refine B 5 ?_;refine Al ?_;refine zde ?_;refine B 7 ?_;refine Ce ?_;exact z9e Kz.p):P:=h ⟨k⟩
theorem z0h (h:ZW Q->P:=by intro Kz;refine B 3 ?_;refine SB ?_;refine zIf ?_;refine B 2 ?_;refine zRf ?_;exact B 1 Kz.p):P:=h ⟨k⟩
theorem Je (h:ZW Q->P:=by intro Kz;refine bX aO ?_;exact B 8 Kz.p):P:=h ⟨k⟩
theorem Zs (h:ZW Q->P:=by intro Kz;refine bX (.agg (jx x)) ?_;exact B 1 Kz.p):P:=h ⟨k⟩
theorem WI (h:ZW Q->P:=by intro Kz;refine eN func34 ntmps34 ?_;exact B 3 Kz.p):P:=h ⟨k⟩
theorem z4h (h:ZW Q->P:=by intro Kz;refine B 4 ?_;refine rq (.slice a9 (fJ ts i).length c9) (dp rfl) e9 ?_;refine B 2 ?_;exact zCf Kz.p):P:=h ⟨k⟩
theorem Vn (h:ZW Q->P:=by intro Kz;refine B 6 ?_;exact Al Kz.p):P:=h ⟨k⟩
theorem VF (h:ZW Q->P:=by intro Kz;refine B 1 ?_;exact bX (.agg (aY G)) Kz.p):P:=h ⟨k⟩
theorem Z3 (h:ZW Q->P:=by intro Kz;refine B 11 ?_;refine bX aO ?_;exact B 17 Kz.p):P:=h ⟨k⟩
theorem WL (h:ZW Q->P:=by intro Kz;refine eN func19 ntmps19 ?_;exact B 3 Kz.p):P:=h ⟨k⟩
theorem z9h (h:ZW Q->P:=by intro Kz;refine B 4 ?_;refine rq aO (aN rfl rfl) (vb (by simp[p6])) ?_;exact B 2 Kz.p):P:=h ⟨k⟩
theorem zai (h:ZW Q->P:=by intro Kz;refine Nx ?_;refine B 3 ?_;refine zyh ?_;exact B 2 Kz.p):P:=h ⟨k⟩
theorem PD (h:ZW Q->P:=by intro Kz;refine bX aO ?_;exact B 10 Kz.p):P:=h ⟨k⟩
theorem zdi (h:ZW Q->P:=by intro Kz;refine B 6 ?_;refine bX (.agg NV) ?_;exact B 1 Kz.p):P:=h ⟨k⟩
theorem zei (h:ZW Q->P:=by intro Kz;refine B 5 ?_;refine zEf ?_;exact B 4 Kz.p):P:=h ⟨k⟩
theorem zfi (h:ZW Q->P:=by intro Kz;refine B 2 ?_;refine bX (.agg (xh x)) ?_;exact B 1 Kz.p):P:=h ⟨k⟩
theorem U1 (h:ZW Q->P:=by intro Kz;refine bX aO ?_;exact B 11 Kz.p):P:=h ⟨k⟩
theorem zhi (h:ZW Q->P:=by intro Kz;refine B 4 ?_;refine bX aK ?_;refine NG ?_;refine B 3 ?_;refine rx (xR rfl rfl) ?_;exact B 3 Kz.p):P:=h ⟨k⟩
theorem zii (h:ZW Q->P:=by intro Kz;refine B 2 ?_;refine zte ?_;refine B 1 ?_;refine z6g ?_;refine B 4 ?_;refine bX (ab p.par) ?_;refine B 1 ?_;exact bX (ab p.fol) Kz.p):P:=h ⟨k⟩
theorem UX (h:ZW Q->P:=by intro Kz;refine B 3 ?_;exact bX aO Kz.p):P:=h ⟨k⟩
theorem ZJ (h:ZW Q->P:=by intro Kz;refine bX (.agg (xi x)) ?_;exact B 1 Kz.p):P:=h ⟨k⟩
theorem Ve (h:ZW Q->P:=by intro Kz;refine bX aO ?_;exact B 2 Kz.p):P:=h ⟨k⟩
theorem UE (h:ZW Q->P:=by intro Kz;refine B 3 ?_;exact nHc pJ Kz.p):P:=h ⟨k⟩
theorem zni (h:ZW Q->P:=by intro Kz;refine Rg ?_;refine cl call175 rfl (λW hS=>nZd G N W aT (hG.us hS.sm) au) ?_;exact B 4 Kz.p):P:=h ⟨k⟩
theorem zoi (h:ZW Q->P:=by intro Kz;refine B 4 ?_;refine z0g ?_;refine B 1 ?_;refine zag ?_;refine B 4 ?_;refine bX (.slice c.wa c.wes.length c.wc) ?_;exact B 1 Kz.p):P:=h ⟨k⟩
theorem zpi (h:ZW Q->P:=by intro Kz;refine B 6 ?_;refine C5 ?_;refine UG ?_;refine rx (iU rfl rfl) ?_;exact B 2 Kz.p):P:=h ⟨k⟩
theorem XO (h:ZW Q->P:=by intro Kz;refine bX aO ?_;exact B 15 Kz.p):P:=h ⟨k⟩
theorem zri (h:ZW Q->P:=by intro Kz;refine B 12 ?_;refine zHf ?_;exact B 1 Kz.p):P:=h ⟨k⟩
theorem Vw (h:ZW Q->P:=by intro Kz;refine zZd ?_;exact B 2 Kz.p):P:=h ⟨k⟩
theorem zti (h:ZW Q->P:=by intro Kz;refine cl call176 rfl (λW hS=>n8j l de N _ cp W aT (aA.us hS.sm) au) ?_;exact B 4 Kz.p):P:=h ⟨k⟩
theorem zui (h:ZW Q->P:=by intro Kz;refine B 1 ?_;exact rq aO (dp rfl) (vb (Bool.eq_false_iff.2 hm)) Kz.p):P:=h ⟨k⟩
theorem Yh (h:ZW Q->P:=by intro Kz;refine bX aO ?_;exact B 12 Kz.p):P:=h ⟨k⟩
theorem zwi (h:ZW Q->P:=by intro Kz;refine B 2 ?_;exact rx (oG rfl rfl) Kz.p):P:=h ⟨k⟩
theorem zxi (h:ZW Q->P:=by intro Kz;refine bX (.agg (dJ x)) ?_;exact B 1 Kz.p):P:=h ⟨k⟩
theorem VB (h:ZW Q->P:=by intro Kz;refine zGh ?_;exact B 1 Kz.p):P:=h ⟨k⟩
end
theorem zzi (h:P:=by first|exact nb (λh=>by have:=h.fo.1;omega)|exact nb (λh=>by have:=h.fo.2;omega)|exact nb (λh=>by have:=h.e1;omega)|exact nb (λh=>by have:=h.e2;omega)|exact nb (λh=>absurd h.au ew)|exact nb (λh=>absurd (h.ch.symm.trans (show fZ c.chs=false by assumption)) zF)|exact nb (λh=>by have:=h.pl;omega)|exact nb (λh=>by have:=h.bl;omega)|exact nb (λh=>by have:=h.wl;omega)|exact nb (λh=>by have:=vv.2 (h.path _ _ hy);omega)|exact nb (λh=>by have h9:=h.box _ _ hx;have h8:=h9.1;have h7:=ni.2 h9.2;omega)|exact nb (λh=>by have h9:=h.box _ _ hx;have h8:=h9.1;omega)|exact nb (λh=>by have h9:=h.wel _ _ hx;exact h1 h9.1)|exact nb (λh=>by have h9:=h.wel _ _ hx;have h8:=ni.2 h9.2.2;omega)|exact nb (λh=>by have h9:=(h.wel _ _ hx).2.1 y aa hy;omega)|exact nJ ⟨⟨by omega,by omega⟩,by omega,by omega,by assumption,by assumption,by omega,by omega,by omega,hA1,hA2,bT.all aa⟩):P:=h
theorem zAi (h:P:=by first|exact nb (λh=>absurd h.fo ew)|exact nb (λh=>by have:=h.e1;omega)|exact nb (λh=>by have:=h.e2;omega)|exact nb (λh=>absurd h.au ew)|exact nb (λh=>absurd h.ch z3)|exact nb (λh=>by have:=h.pl;omega)|exact nb (λh=>by have:=h.bl;omega)|exact nb (λh=>by have:=h.wl;omega)|exact nb (λh=>by have:=vv.2 (h.path _ _ hy);omega)|exact nb (λh=>by have h9:=h.box _ _ hx;have h8:=h9.1;have h7:=ni.2 h9.2;omega)|exact nb (λh=>by have h9:=h.wel _ _ hx;exact h1 h9.1)|exact nb (λh=>by have h9:=h.wel _ _ hx;have h8:=ni.2 h9.2.2;omega)|exact nb (λh=>by have h9:=(h.wel _ _ hx).2.1 y aa hy;omega)|exact nJ ⟨by assumption,by omega,by omega,by assumption,by assumption,by omega,by omega,by omega,hA1,hA2,bT.all aa⟩):P:=h
theorem zBi (h:P:=by
  first|(have hD0:=hd.stop iC aa;obtain⟨q2,rfl⟩:∃q2,q2=q:=⟨_,rfl⟩)|(have hD0:=nHb aa aa bj aZ iC aa;generalize q-1=q2 at *)
  rw[UC]at hD0
  obtain⟨r0,hr0⟩:∃z,(r1*2^32+v0)%Y=z:=⟨_,rfl⟩
  have aoH:r0<Y:=by rw[<-hr0];exact Nat.mod_lt _ aa
  have hz0:q2*Y+r0=r1*2^32+v0:=by have:=Jh (r1*2^32+v0) Y;rw[hD0,hr0,Nj]at this;exact this
  have cN:u*2^64+v=(q1*2^32+q2)*Y+r0:=by have:=ngc u v Y r1 zfc;rw[show v/2^32=v1 from hv1,show v%2^32=v0 from hv0,xy,hD0,hr0]at this;exact this
  obtain⟨tr,vM⟩:=nec hi lo y s (q1*2^32+q2) r0 zmc zVb
  have aoK:=tf.small (un:=v1) iC huY Jd
  rw[UC,xy]at aoK
  have aoL:=tf.small (un:=v0) iC uh rW
  rw[UC,hD0]at aoL
  refine zxd ?_
  refine nK results137 rfl rfl A0 ?_ ?_
  · rw[tr];exact vu zub
  · rw[vM]
 ):P:=h
theorem zCi (h:P:=by
  have hrr:=af
  refine z5g ?_
  intro ws a9 c9 e9 zr Tx _
  obtain⟨jz,yZ⟩:=Rw.val_cap hrr e9
  have dz:=Tx w2 A0
  refine tS 11 [0,4,6,7] [[],[0],[],[0,1,2]] (λcv L' H'=>∃(xt:Nat) (rA:Rw) (AI:Nat) (rB:Rw),cv=[some (.slice (aH xt) 0 0),some (rA.val ((fm Z cs G.g i).take a).length),some (.slice (aH AI) 1 1),some (rB.val (((fm Z cs G.g i).take a)++[(i:Int)]).length)]/\L'=[ws,w2,w]/\H'=[(AI,oC #[ab (i:Int)] 3)]++(rB.hp ak 3 (((fm Z cs G.g i).take a)++[(i:Int)])++[])/\(ws.heap.size<=xt/\w2.heap.size<=xt/\w.heap.size<=xt/\True)/\rA.Fr Gh.no [ws,w2,w]/\rA.Fit 1 ((fm Z cs G.g i).take a)/\rA.ge ws.heap.size/\(ws.heap.size<=AI/\w2.heap.size<=AI/\w.heap.size<=AI/\True)/\rB.Fr Gh.no [ws,w2,w]/\rB.Fit 1 (((fm Z cs G.g i).take a)++[(i:Int)])/\rB.ge ws.heap.size) (H0:=[]) (pb:=by exact zU 1 (k:=by exact qv (RV.re (v':=.slice a9 (fm Z cs G.g i).length c9) (dp rfl) e9) (zU 1 (k:=by exact qv (RV.re (v':=.slice a9 ((fm Z cs G.g i).take a).length c9) (Td (h:=a) underlying96 sizeOf3 rfl yZ ⟨_,_,rfl,rfl⟩ aa) ZV) (zU 4 (k:=by exact qv (RV.re (v':=.slice a9 (fm Z cs G.g i).length c9) (dp rfl) e9) (zU 1 (k:=by exact qv (RV.re (v':=.slice (rE a9 a c9 1) ((fm Z cs G.g i).drop a).length (c9-a)) (AF (l:=a) (h:=(fm Z cs G.g i).length) underlying96 sizeOf3 rfl yZ ⟨_,_,rfl,rfl⟩ rfl aa aa) (by rw[yp])) (lK rfl))))))))) (t:=?_) (k:=?_)
  · repeat' first|exact tZ|(refine tU rfl ?_)|(refine tR rfl ?_ ?_)|(refine tN jI ?_)|(exact tE jI vA ⟨xt,rA,AI,rB,rfl,rfl,rfl,sU,ve,AU,WY,Mu,uZ,tT,Ty⟩)|(intro _ _ hk;(first|(refine Wb (r:=rA) (xs:=((fm Z cs G.g i).take a)) (zs:=[(i:Int)]) (enc:=ak) (m:=1) (H0:=[(AI,oC #[ab (i:Int)] 3)]) (H1:=[]) rfl vY nh rfl rfl rfl rfl (bN.one (z:=(i:Int)) nh v7 underlying96 (bL.own (i:=0) rfl)) AU ve z3c ?_;intro rB uZ tT;have Ty:=Rw.ge_of uZ A0;refine OJ.done (hk _ _ _ ?_))|(refine Wb (r:=.row xt 0 []) (xs:=[]) (zs:=((fm Z cs G.g i).take a)) (enc:=ak) (m:=1) (H0:=[(AI,oC #[ab (i:Int)] 3)]) (H1:=[]) rfl vY nh rfl rfl rfl rfl (bN.sl nh v7 underlying96 A0 (zr.tk a) (λb hb=>⟨λh=>h,by simp only[cu,eJ,gU,fP,dG,and_true];(repeat' apply And.intro);all_goals first|omega|exact True.intro|exact Rw.off_at ve A0 zL|exact Rw.off_ge WY aa|exact Rw.off_ge Ty aa⟩)) ⟨aC 0,rfl⟩ (.inr sU) (by simp only[oK,oe];omega) ?_;intro rA ve AU;have WY:=Rw.ge_of ve A0;refine OJ.done (hk _ _ _ ?_))|(have:=gK 2 hk;refine iW underlying96 sizeOf3 zeroValue3 rfl rfl rfl rfl rfl rfl rfl ?_;intro AI Mu amX;simp only[ah]at Mu;refine OJ.done (hk _ _ _ ?_))|(have:=gK 0 hk;refine iW underlying96 sizeOf3 zeroValue3 rfl rfl rfl rfl rfl rfl rfl ?_;intro xt sU Mr;simp only[ah]at sU;refine OJ.perm (H':=[(AI,oC #[ab (i:Int)] 3)]++((xt,cT ak 3 [] [])::[])) (List.Perm.swap _ _ _) ?_;refine OJ.done (hk _ _ _ ?_))|(refine Wb (r:=.row xt 0 []) (xs:=[]) (zs:=((fm Z cs G.g i).take a)) (enc:=ak) (m:=1) (H0:=[]) (H1:=[]) rfl vY nh rfl rfl rfl rfl (bN.sl nh v7 underlying96 A0 (zr.tk a) (λb hb=>⟨λh=>h,by simp only[cu,eJ,gU,fP,dG,and_true];(repeat' apply And.intro);all_goals first|omega|exact True.intro|exact Rw.off_at ve A0 zL|exact Rw.off_ge WY aa|exact Rw.off_ge Ty aa⟩)) ⟨aC 0,rfl⟩ (.inr sU) (by simp only[oK,oe];omega) ?_;intro rA ve AU;have WY:=Rw.ge_of ve A0;refine OJ.done (hk _ _ _ ?_))|(have:=gK 0 hk;refine iW underlying96 sizeOf3 zeroValue3 rfl rfl rfl rfl rfl rfl rfl ?_;intro xt sU Mr;simp only[ah]at sU;refine OJ.done (hk _ _ _ ?_))))
  rintro _ _ _ ⟨xt,rA,AI,rB,rfl,rfl,rfl,sU,ve,AU,WY,Mu,uZ,tT,Ty⟩
  refine zWd ?_
  intro r9 qd pB
  refine Sk ?_
  refine PJ.again (r9,i+1) ⟨by dsimp only;omega,Rw.Fr_sub qd (λw h=>.tail _ h),by dsimp only;rw[B0];exact pB⟩ zZ ⟨rfl,rfl,by dsimp only;rw[B0];rfl,rfl,trivial⟩ (by dsimp only;rw[B0];rfl) rfl zP
 ):P:=h
theorem zDi (h:P:=by
  obtain⟨Wj,Wl,csy,toy,fry,rfl,alK,rz,LU⟩:=gv.get aa
  obtain⟨y,hy⟩:=ng (fH G.g.ns 512) j aa
  have hny:=jP _ rfl
  dsimp only at hny
  refine B 2 ?_
  refine zrg ?_
  refine B 2 ?_
  refine Zs ?_
  intro b5 fK gf
  replace fK:=yb fK
  replace gf:=yc gf
  refine B 4 ?_
  by_cases g1:¬x.dev=y
  · refine eA 17 (pb:=by exact zU 5 (k:=by exact qv (ad (v:=ab y) isAgg3 rfl A0 rz zL zD zgd) (qv (RV.re (v':=aK) (aN rfl rfl) (vb GQ)) zT))) (sp:=(_::_::(some (.slice (some ⟨Wj,Wl,none⟩) (fH G.g.ns 512).length oZ))::_)) (k:=?_)
    refine B 22 ?_
    refine zPe ?_
    exact tF (nJd hx hy (λh=>g1 h.1))
  · by_cases g2:x.since<1
    · refine eA 17 (pb:=by exact zU 5 (k:=by exact qv (ad (v:=ab y) isAgg3 rfl A0 rz zL zD zgd) (qv (RV.re (v':=aO) (aN rfl rfl) (vb GQ)) zT))) (sp:=[_,_,some (.slice (some ⟨Wj,Wl,none⟩) (fH G.g.ns 512).length oZ),_,_,_,_,_,_,_,some aK,_,_,_,_,_,_]) (k:=?_)
      refine B 22 ?_
      refine zPe ?_
      exact tF (nJd hx hy (λh=>by have h9:=h.2;unfold BH at h9;simp at h9;omega))
    · by_cases g3:G.g.epoch<x.since
      · refine eA 17 (pb:=by exact zU 5 (k:=by exact qv (ad (v:=ab y) isAgg3 rfl A0 rz zL zD zgd) (qv (RV.re (v':=aO) (aN rfl rfl) (vb GQ)) zT))) (sp:=[_,_,some (.slice (some ⟨Wj,Wl,none⟩) (fH G.g.ns 512).length oZ),_,_,_,_,_,_,_,some aO,_,_,_,_,_,_]) (k:=?_)
        refine bX aK ?_
        refine B 21 ?_
        refine zPe ?_
        exact tF (nJd hx hy (λh=>by have h9:=h.2;unfold BH at h9;simp at h9;omega))
      · obtain⟨e,he⟩:∃e,(if dr x.ver then(0:Int)else 40)=e:=⟨_,rfl⟩
        by_cases g4:¬e=0
        · refine eA 17 (pb:=by exact zU 5 (k:=by exact qv (ad (v:=ab y) isAgg3 rfl A0 rz zL zD zgd) (qv (RV.re (v':=aO) (aN rfl rfl) (vb GQ)) zT))) (sp:=[_,_,some (.slice (some ⟨Wj,Wl,none⟩) (fH G.g.ns 512).length oZ),_,_,_,_,_,_,_,some aO,_,_,_,_,_,_]) (k:=?_)
          refine Cr ?_
          refine zbg ?_
          exact tF (nJd hx hy (λh=>by have h9:=h.2;unfold BH at h9;simp at h9;exact nH (x:=x.ver) Bw h9.2.2))
        · refine eA 17 (pb:=by exact zU 5 (k:=by exact qv (ad (v:=ab y) isAgg3 rfl A0 rz zL zD zgd) (qv (RV.re (v':=aO) (aN rfl rfl) (vb GQ)) zT))) (sp:=[_,_,some (.slice (some ⟨Wj,Wl,none⟩) (fH G.g.ns 512).length oZ),_,_,_,_,_,_,_,some aO,_,_,_,_,_,_]) (k:=?_)
          refine Cr ?_
          refine SB ?_
          refine zNg ?_
          refine lx ?_
          refine ag (j+1) ⟨by omega,bT.next hx hy ⟨by omega,by unfold BH;simp;exact⟨by omega,by omega,N1 Bw⟩⟩⟩
 ):P:=h
theorem fN (h:P:=by exact absurd (show false=true from hr) zF):P:=h
theorem zFi (h:P:=by
  refine zNe ?_
  first|exact congrArg ab (nOd bT aa)|exact congrArg ab (nX hx (λg=>by have g1:=g.1;have g2:=g.2.1;omega))|exact congrArg ab (nX hx (λg=>by have g3:=g.2.2.1 y aa hy;omega))|exact congrArg ab (nX hx (λg=>nH (x:=x.pub) Bw g.2.2.2.1))|exact congrArg ab (nX hx (λg=>by have g5:=(nnd _).2 g.2.2.2.2;simp_all))
 ):P:=h
theorem Hd (h:P:=by
  refine ao results180 rfl A1 ?_
  first|exact nbd (λh=>by have h1:=h.1;have h2:=h.2.1;have h3:=h.2.2.1;have h4:=h.2.2.2.1;have h5:=h.2.2.2.2;omega)|exact nmc ⟨by omega,by omega,by omega,by omega,by omega⟩
 ):P:=h
theorem zHi (h:P:=by first|exact congrArg ab (nFd bT aa)|exact congrArg ab (nY hx (λg=>by have g1:=g.1.1;have g2:=g.1.2.1;omega))|exact congrArg ab (nY hx (λg=>by have g3:=g.1.2.2.1 y aa hy;omega))|exact congrArg ab (nY hx (λg=>nH (x:=x.pub) Bw g.1.2.2.2))|exact congrArg ab (nY hx (λg=>by have g5:=g.2;simp_all))):P:=h
theorem zIi (h:P:=by
  refine B 4 ?_
  obtain⟨z,hz⟩:=ng ns i aa
  have hzb:=qq z (cF hz)
  by_cases g1:(ns.take i).any (λy=>decide (512<=y.at_)&&jJ y.at_ x.at_)=true
  · refine eA 18 (pb:=by exact zU 1 (k:=by exact qv (RV.re (v':=aK) (dp rfl) (vb GQ)) zT)) (k:=?_)
    refine B 12 ?_
    refine PJ.again (i+1) aa aa ⟨rfl,rfl,rfl,congrArg (λz=>some (Value.bool z)) (by rw[Sz hz];rw[g1];rfl),rfl,trivial⟩ rfl rfl zP
  · by_cases g2:512<=z.at_
    · refine eA 18 (pb:=by exact zU 1 (k:=by exact qv (RV.re (v':=aO) (dp rfl) (vb GQ)) (zU 5 (k:=by exact qv (ad (v:=ab z.at_) isAgg3 rfl A1 hcs zL zD (nu ay hz rfl 0 zF)) (zU 7 (k:=by exact qv (ad (v:=ab z.at_) isAgg3 rfl A1 hcs zL zD (nu ay hz rfl 0 zF)) zT)))))) (sp:=[_,_,_,some (.slice (some ⟨bo,oo,none⟩) ns.length cp),_,_,_,_,some aK,_,_,some (.slice (some ⟨bo,oo,none⟩) ns.length cp),_,_,_,_,_,_]) (k:=?_)
      refine cl call280 rfl (λW hS=>nSh z.at_ x.at_ aa aa W) ?_
      refine B 11 ?_
      refine PJ.again (i+1) aa aa ⟨rfl,rfl,rfl,congrArg (λz=>some (Value.bool z)) zqc,rfl,trivial⟩ rfl rfl zP
    · refine eA 18 (pb:=by exact zU 1 (k:=by exact qv (RV.re (v':=aO) (dp rfl) (vb GQ)) (zU 5 (k:=by exact qv (ad (v:=ab z.at_) isAgg3 rfl A1 hcs zL zD (nu ay hz rfl 0 zF)) zT)))) (sp:=(_::_::_::(some (.slice (some ⟨bo,oo,none⟩) ns.length cp))::_::_::_::_::(some aO)::_)) (k:=?_)
      refine B 12 ?_
      refine PJ.again (i+1) aa aa ⟨rfl,rfl,rfl,congrArg (λz=>some (Value.bool z)) zqc,rfl,trivial⟩ rfl rfl zP
 ):P:=h
theorem Wx (h:P:=by
  refine ao results156 rfl A1 ?_
  first|exact congrArg ab (if_pos ⟨h1,h2,h3,h4,h5⟩).symm|exact congrArg ab (if_neg (λh=>h1 h.1)).symm|exact congrArg ab (if_neg (λh=>h2 h.2.1)).symm|exact congrArg ab (if_neg (λh=>h3 h.2.2.1)).symm|exact congrArg ab (if_neg (λh=>h4 h.2.2.2.1)).symm|exact congrArg ab (if_neg (λh=>h5 h.2.2.2.2)).symm
 ):P:=h
theorem zKi (h:P:=by
  refine ss rfl ?_ ?_
  · intro cv L' H' hl hP F Q' hk
    obtain rfl:=oJ hl
    obtain⟨rfl,rfl⟩:=hP
    refine zbe ?_
    rintro W_ ⟨ta_,tc_⟩ w_ oV xm ⟨dA,mN⟩
    have Ol:=(oV.links wm A0).size
    exact OJ.done (hk _ _ _ ⟨ta_,tc_,w_,rfl,rfl,rfl,dA,λb off e=>(mN b off e).imp id (λh=>h.imp id (λh=>dS Ol h)),dS Ol xm.size⟩)
  refine ss rfl ?_ ?_
  · intro cv L' H' hl hP F Q' hk
    obtain⟨v1,rfl⟩:=gh hl
    obtain⟨ta,tc,wr,rfl,rfl,rfl,rQ,fe,tH⟩:=hP
    refine z3d ?_
    intro r_ EU kJ
    exact OJ.done (hk _ _ _ ⟨ta,tc,wr,r_,rfl,rfl,rfl,rfl,rQ,fe,tH,EU,kJ,Rw.ge_of EU A0⟩)
  refine ss rfl ?_ ?_
  · intro cv L' H' hl hP F Q' hk
    obtain⟨v1,v2,rfl⟩:=kY hl
    obtain⟨ta,tc,wr,r8,rfl,rfl,rfl,rfl,rQ,fe,tH,dY,dw,eo⟩:=hP
    refine B 1 ?_
    exact OJ.done (hk _ _ _ ⟨ta,tc,wr,r8,rfl,rfl,rfl,rfl,rfl,rQ,fe,tH,dY,dw,eo⟩)
  refine ss rfl ?_ ?_
  · intro cv L' H' hl hP F Q' hk
    obtain⟨v1,v2,v3,rfl⟩:=gO hl
    obtain⟨ta,tc,wr,r8,rfl,rfl,rfl,rfl,rfl,rQ,fe,tH,dY,dw,eo⟩:=hP
    refine B 1 ?_
    exact OJ.done (hk _ _ _ ⟨ta,tc,wr,r8,rfl,rfl,rfl,rfl,rfl,rfl,rQ,fe,tH,dY,dw,eo⟩)
  refine ss rfl ?_ ?_
  · intro cv L' H' hl hP F Q' hk
    obtain⟨v1,v2,v3,v4,rfl⟩:=uQ hl
    obtain⟨ta,tc,wr,r8,rfl,rfl,rfl,rfl,rfl,rfl,rQ,fe,tH,dY,dw,eo⟩:=hP
    refine zfg ?_
    exact OJ.done (hk (.tuple #[]) _ _ ⟨ta,tc,wr,r8,rfl,rfl,rfl,rfl,rfl,rfl,rfl,rQ,fe,tH,dY,dw,eo⟩)
  exact nn
 ):P:=h
theorem zLi (h:P:=by
  refine zEd ?_
  refine CJ.chn 11 [4] [_,some (.slice G.ma G.g.ms.length G.mc),_,some (.agg #[.slice G.na G.g.ns.length G.nc]),none,_,some (aO),_,some undef,some undef,some undef] (λcv L' H'=>match cv with| []=>L'=[w1,w]/\H'=[]| [v1]=>∃(a7:Option Addr) (c7:Nat) (w7:World),v1= .slice a7 (dX G.g.ns).length c7/\L'=[w7,w1,w]/\H'=[]/\aj (λx=>(ak x).toArray) 1 w7.heap.size w7 a7 (dX G.g.ns)|_=>False) (pc Zu (pc Oc (pc VA (pc Oc (pk (pc zX (pc (λcv L' H' hd hP=>match cv,hd,hP with| [],hd,hP=>(absurd (show false=true from hd) zF)| [v1],hd,hP=>zid|_::_::_,_,hP=>hP.elim) (pc zX (pc z7 (pc z7 (pc z7 (pn)))))))))))) ?_ ?_
  · refine ss rfl ?_ ?_
    · intro cv L' H' hl hP F Q' hk
      obtain rfl:=oJ hl
      obtain⟨rfl,rfl⟩:=hP
      refine zSd ?_
      intro W7 a7 c7 w7 hS7 hB7 gv jP
      exact OJ.done (hk _ _ _ ⟨a7,c7,w7,rfl,rfl,rfl,gv⟩)
    exact nn
  · intro cv L' H' hl hP
    obtain⟨v1,rfl⟩:=gh hl
    obtain⟨a7,c7,w7,rfl,rfl,rfl,gv⟩:=hP
    refine B 7 ?_
    refine ao results293 rfl A2 ?_
    exact tF (λh=>h1 h.2.2.1)
 ):P:=h
theorem zMi (h:P:=by
  have hv:∀W2,∀w∈L,∀k,rV V W1 W2 k->V k\/w.heap.size<=k:=λW2 w hw k hk=>by
    rcases hk with hk|hk
    · grind
    · have:=(hS.links w hw).size;omega
  refine⟨fn,tmps,assign,body,iJ,iZ.mono ?_⟩
  rintro e W2 ⟨b,rfl,hk,hb⟩
  refine⟨b,rfl,by rw[(hT _).1];exact hk,?_⟩
  have nx:∀{R:World->Prop} (hR:fG (λk=>(k<W0.heap.size/\¬MI k)\/(rV V W1 W2) k) R),R W2->Next (T (dI hM V hI)) W1 W2 (T (dI hM (rV V W1 W2) hR)):=λ{R} hR hb=>by
    refine⟨λk h=>?_,λk h=>?_,λk h=>?_,by rw[(hT _).2.2.1];exact hb⟩
    · rw[(hT _).2.2.2]at h ⊢
      rcases h with(h|h)|h
      · exact .inl (.inl h)
      · exact .inl (.inr (.inl h))
      grind
    · rw[(hT _).2.2.2]at h ⊢
      rcases h with(h|h|h)|h
      · exact .inl (.inl (.inl h))
      · exact .inl (.inl (.inr h))
      all_goals grind
    · rw[(hT _).2.1]at h ⊢
      rcases h with h|h|h
      · exact .inl (.inl h)
      · exact .inl (.inr h)
      omega
  cases b with
  |true=>exact⟨_,⟨_,λk h=>.inl h,hv W2,rfl⟩,nx (mY _) hb⟩
  |false=>exact⟨_,⟨_,λk h=>.inl h,hv W2,rfl⟩,nx (oc _) hb⟩
 ):P:=h
theorem zNi (h:P:=by
  have h15:∀p∈qX.hp lW 139 c.path,p.1<W.heap.size/\W.heap[p.1]? =some p.2:=λp hp=>by have h:=hS.own p (by simp[hp]);exact⟨(bO.1 h).1,h⟩
  have i3:∀p∈F3,p∈(r3.hp (gm 3) 139 oR++F3):=λp hp=>dQ.2 (.inr hp)
  have i2:∀p∈F2,p∈(r3.hp (gm 3) 139 oR++F3):=λp hp=>i3 p (tL p (dQ.2 (.inr hp)))
  have i1:∀p∈F1,p∈(r3.hp (gm 3) 139 oR++F3):=λp hp=>i2 p (tJ p (dQ.2 (.inr hp)))
  have v1:=gE.vat (t:=139) (uP.up i1) hF (λp hp=>i2 p (tJ p (dQ.2 (.inl hp)))) kK
  have v2x:=gE.vat (t:=139) (so.up i2) hF (λp hp=>i3 p (tL p (dQ.2 (.inl hp)))) dE
  have v3x:=gE.vat (t:=139) (uR.up i3) hF (λp hp=>dQ.2 (.inl hp)) pv
  have vp:=nyo (t:=139) h15 lX
  exact Rt (pw c) (aC 11) hb (bO.1 hb).1 (ET (fy rfl) (ZM _ _ _) (ET (fy rfl) (ZM _ _ _) (ET (fy rfl) (n5g _ _ _) (ET (fy rfl) (ZM _ _ _) (ET (fy rfl) v1 (ET (fy rfl) vp (ET (fy rfl) v2x (ET (fy rfl) v3x (ET (fy rfl) (n5g _ _ _) (ET (fy rfl) (ZM _ _ _) (ET (fy rfl) (ZM _ _ _) (Ru))))))))))))
 ):P:=h
theorem Zx (h:P:=by
  refine zSf ?_
  show Value.bool _=Value.bool _
  refine vb ?_
  first|(have h1b:(gw G.g.ms au != decide (0<G.g.epoch))=true:=An;unfold gy;rw[h1b];rfl)|(have h1b:(gw G.g.ms au != decide (0<G.g.epoch))=false:=An;unfold gy;rw[h1b];simp_all)
 ):P:=h
theorem zPi (h:P:=by
  refine zng ?_
  first|exact vb (hJ.is aa (ndf ew))|exact vb ((if_neg hb).trans (hJ.is aa (npg hv hb)))|exact vb (hJ.is aa (nAe hb hp))|exact vb (hJ.is aa (nvf hb hp vw))|exact vb (hJ.fin aa)
 ):P:=h
theorem zQi (h:P:=by
  refine ss rfl ?_ ?_
  · intro cv L' H' hl hP F Q' hk
    obtain rfl:=oJ hl
    obtain⟨rfl,rfl⟩:=hP
    refine zSd ?_
    intro W7 a7 c7 w7 hS7 hB7 gv jP
    exact OJ.done (hk _ _ _ ⟨a7,c7,w7,rfl,rfl,rfl,gv⟩)
  exact nn
 ):P:=h
theorem Zw (h:P:=by exact PJ.mid ⟨(congrArg (λb=>some (Value.bool b)) z6),rfl,rfl,rfl,rfl,rfl,rfl,rfl,rfl,rfl,rfl,rfl,rfl,rfl,trivial⟩):P:=h
theorem zSi (h:P:=by first|exact vb (nVj ew)|exact vb (nyj ew ew)|exact vb (npk ew ew ew)|exact vb (njk ew ew ew ew)|exact vb (nEj ew ew ew ew)):P:=h
theorem zTi (h:P:=by
  refine ao results42 rfl A1 ?_
  first|exact nkd Af N2 Vc (λg=>by omega)|exact nkd Af N2 Vc (λg=>by rw[show sb=false by assumption]at g;exact absurd g.2.2 zF)|exact nof Af N2 Vc ⟨by omega,by omega,by rw[show sb=true by assumption];first|done|rfl⟩ he hm
 ):P:=h
theorem zUi (h:P:=by
  refine ss rfl ?_ ?_
  · intro cv L' H' hl hP F Q' hk
    obtain⟨v1,v2,rfl⟩:=kY hl
    obtain⟨bn,rfl,rfl,rfl,rfl,hfn⟩:=hP
    refine Ac ?_
    intro b_ KU KV
    exact OJ.done (hk _ _ _ ⟨bn,b_,rfl,rfl,rfl,rfl,rfl,hfn,KU⟩)
  exact nn
 ):P:=h
theorem zVi (h:P:=by
  refine nK results88 rfl rfl A0 ?_ ?_
  all_goals refine congrArg ab ?_
  all_goals first|(rw[naf Iz Db];done)|(rw[nYc (λg=>nH zUc g.1)];first|done|(rw[<-lS];exact if_neg (nH zUc)))|(rw[nYc (λg=>nH zTc g.2)];first|done|(rw[<-pR];exact if_neg (nH zTc)))
 ):P:=h
theorem SV (h:P:=by
  rw[nNe oY zF,oY]
  exact bH (.inl rfl) results119 aL λW hS=>⟨ov,rfl,hS.base A2 zH,rfl,RJ _ _,λq h=>xn,λq h=>xn⟩
 ):P:=h
theorem zXi (h:P:=by
  refine zUg ?_
  first|exact nri bT aa|exact nLc hx (λg=>by have g1:=g.1.1;rw[<-BI,<-BJ]at g1;exact absurd g1 ew)|exact nLc hx (λg=>absurd g.1.2 ew)|exact nLc hx (λg=>by have g1:=g.2;simp_all)
 ):P:=h
theorem zYi (h:P:=by
  intro a W hI
  obtain⟨x,hx,gM,hN,hD,hF,hS⟩:=nuf hI
  refine wpIn_mono (round x gM a W hN hD hF hS) ?_
  intro e a' W' hq
  cases e with
  |normal=>
    obtain⟨x',aoN,hlt,h1,h2,h3,h4⟩:=hq
    have hI':Inv a' W' (μ x'):=⟨x',rfl,aoN,h1,h2,h3,h4⟩
    exact⟨⟨_,hI'⟩,by have:=nfh hI';omega⟩
  |_=>exact hq
 ):P:=h
theorem Nk (h:P:=by
  refine B 2 ?_
  refine PJ.again (q-1,r+y1) ⟨bj,by omega,aZ,by omega⟩ zpc zR rfl rfl zP
 ):P:=h
theorem WM (h:P:=by
  refine ao results31 rfl A1 ?_
  first|exact vb znb|exact vb zgb|exact vb zRb
 ):P:=h
theorem z1i (h:P:=by refine ag (j+1) ⟨by omega,bT.next hx z2⟩):P:=h
theorem z2i (h:P:=by
  refine ss rfl ?_ ?_
  · intro cv L' H' hl hP F Q' hk
    obtain rfl:=oJ hl
    obtain⟨rfl,rfl⟩:=hP
    refine zSe ?_
    rintro W_ b_ w_ oV xm ⟨yD,hb_⟩
    try dsimp only at yD hb_
    have Ol:=(oV.links w3 A0).size
    have hu_:=oV.under
    replace hu_:=yf hu_
    have hz_:=xm.size
    exact OJ.done (hk _ _ _ ⟨b_,w_,rfl,rfl,rfl,hb_,by omega,by omega,by omega⟩)
  exact nn
 ):P:=h
theorem z3i (h:P:=by
  refine nK results64 rfl rfl A0 ?_ ?_
  all_goals(refine congrArg ab ?_;unfold gExp;first|(simp only[if_neg hg];done)|(rw[if_pos hg];first|(rw[if_neg aa];done)|(rw[if_pos aa];done)))
 ):P:=h
theorem z4i (h:P:=by
  intro cv L' H' hl hP F Q' hk
  obtain rfl:=oJ hl
  obtain⟨rfl,rfl⟩:=hP
  refine Ac ?_
  intro b_ KU KV
  exact OJ.done (hk _ _ _ ⟨b_,rfl,rfl,rfl,KU⟩)
 ):P:=h
theorem z5i (h:P:=by
  refine B 6 ?_
  have cN:=n8p (l:=da d) (i:=i) aa (ik (bh ns) (512+d))
  rw[cN]at ym ⊢
  refine B 9 ?_
  refine bH (.inl rfl) results343 aL λW hS=>⟨bf,mi,ap,qQ,rfl,hS.base A2 vF,by omega,ym,hS.own _ A0,oN.blk λb off aW bV=>?_,λq hq=>?_⟩
  · have h1:=tC _ aW
    dsimp only at h1
    exact⟨oh bV (hS.links wp A0).size,(hS.links wp A0).block b bV (by simp[Gh.no];omega)⟩
  · have h1:=tC _ hq
    have h2:=(BC.links w A1).size
    exact⟨by omega,by omega⟩
 ):P:=h
theorem z6i (h:P:=by
  refine B 14 ?_
  refine lx ?_
  refine ag ((i2+1,cur.set i2 x),j+1) ⟨by dsimp only;omega,by dsimp only;omega,by dsimp only;rw[OU];exact qx,by dsimp only;rw[nXe aa,IM,ZT hx,if_neg z2],by dsimp only;rw[n8f aa];exact KZ⟩
 ):P:=h
theorem z7i (h:P:=by refine ag (j+1) ⟨by omega,bT.next hx ⟨Classical.not_not.1 h1,λy0 h0 AW=>by first|omega|(rw[hy]at AW;cases AW;omega),ni.1 aa⟩⟩):P:=h
theorem z8i (h:P:=by
  refine ao results334 rfl A1 ?_
  first|exact ZI (λh=>by have h1:=vv.2 h.1;have h2:=h.2;omega)|exact nHk ⟨vv.1 aa,by omega,by omega⟩
 ):P:=h
theorem Z1 (h:P:=by exact bH (.inl rfl) results258 aL λW hS=>⟨ov,rfl,hS.base A2 zH,rfl,RJ _ _,λq h=>xn,λq h=>xn⟩):P:=h
theorem zaj (h:P:=by
  refine B 5 ?_
  obtain⟨bq,oq,Q2,tq,Q3,rfl,hbq,pU,pV⟩:=oN.get aa
  have Eo:=tC _ rfl
  dsimp only at Eo
  obtain⟨n,hy⟩:=ng (da d) i aa
  refine B 2 ?_
  refine zif ?_
  refine B 6 ?_
  refine zfe ?_
  intro m3 aZ
  refine B 7 ?_
  refine PJ.again (m3,i+1) ⟨by dsimp only;omega,by rw[n9g hy];exact aZ⟩ zZ zR (by rw[n9g hy];rfl) rfl zP
 ):P:=h
theorem UW (h:P:=by
  intro b4 dL dP
  replace dL:=yb dL
  replace dP:=yc dP
  refine zDh ?_
  rfl
 ):P:=h
theorem zdj (h:P:=by
  refine nK results86 rfl rfl A0 ?_ ?_
  all_goals(refine congrArg ab ?_;unfold gExp;first|(simp only[if_neg hg];done)|(rw[if_pos hg];first|(rw[if_neg aa];done)|(rw[if_pos aa];done)))
 ):P:=h
theorem zej (h:P:=by
  refine nK results66 rfl rfl A1 ?_ ?_
  all_goals(refine congrArg ab ?_;unfold rZ;first|(rw[if_neg hg];done)|(rw[if_pos hg];first|(rw[if_neg ax];done)|(rw[if_pos ax];done)))
 ):P:=h
theorem zfj (h:P:=by refine PJ.again (r,i+1) ⟨by dsimp only;omega,aB,by dsimp only;rw[p8];exact af⟩ zZ ⟨rfl,rfl,by dsimp only;rw[p8];rfl,rfl,trivial⟩ (by dsimp only;rw[p8]) rfl zP):P:=h
theorem zgj (h:P:=by
  refine B 7 ?_
  refine zYd ?_
  refine B 5 ?_
  refine zKg ?_
  refine B 2 ?_
  refine PJ.again (k+1,if 128-64*k=64 then o2 else o2+64*1) (by dsimp only;split<;>omega) zZ ⟨rfl,rfl,rfl,by rw[show N-64*(k+1)=N-64*k-64 by omega,show 128-64*(k+1)=128-64*k-64 by omega];rfl,trivial⟩ rfl rfl zP
 ):P:=h
theorem Ix (h:P:=by
  refine z3f ?_
  unfold np
  simp[*]
 ):P:=h
theorem Iw (h:P:=by
  refine z0d ?_
  unfold np
  simp[*]
 ):P:=h
theorem zjj (h:P:=by
  intro b_ KU KV
  exact OJ.done (hk _ _ _ ⟨b_,rfl,rfl,rfl,KU⟩)
 ):P:=h
theorem zkj (h:P:=by
  refine lx ?_
  refine ag (((Rw.row br cr sr,(oR++[((bn,3):El)])),(bn,oC (nw (p5 x)++[]).toArray 139)::F3),j3+1) ⟨by dsimp only;omega,sk.elim (λh=>Rw.Fr_at aB h) (λh=>.inr h),px,by dsimp only;rw[nue p5 hx];exact uR.snoc (λp hp=>.tail _ hp) rfl rfl (aC _) A0,λq hq=>.tail _ (tL q hq)⟩
 ):P:=h
theorem zlj (h:P:=by
  refine ao results14 rfl A0 ?_
  first|exact vb z1c|exact vb (by unfold B5;rw[nUb hc z2,Bool.and_false])|exact vb zYc
 ):P:=h
theorem zmj (h:P:=by
  intro wX c32 s32 yH X5
  refine OJ.dropF (i:=0) rfl (.inr ⟨by omega,by omega,trivial⟩) ?_
  refine B 8 ?_
  refine ag (ys++y.enc,i+1,wX,c32,s32) ⟨by dsimp only;rw[lP,<-hy,<-V.encL_drop l i aa];exact hinv,by dsimp only;omega,yH,by simpa only[Fr,Gh.lent,Gh.no,ah,and_true,false_or]using yH,X5⟩
 ):P:=h
theorem znj (h:P:=by
  refine lx ?_
  refine ag (((Rw.row br cr sr,(lh++[((bn,4):El)])),(bn,oC (nw (p4 x)++[]).toArray 139)::F2),j2+1) ⟨by dsimp only;omega,sk.elim (λh=>Rw.Fr_at aB h) (λh=>.inr h),px,by dsimp only;rw[nue p4 hx];exact so.snoc (λp hp=>.tail _ hp) rfl rfl (aC _) A0,λq hq=>.tail _ (tJ q hq)⟩
 ):P:=h
theorem zoj (h:P:=by refine ag (((Rw.row br cr sr,(jU++[((bn,cn):El)])),(bn,cT lW 139 [x.kind,x.dev,x.pub,x.ver,x.cut] sn)::F1),j1+1) ⟨by dsimp only;omega,sk.elim (λh=>Rw.Fr_at aB h) (λh=>.inr h),px,by dsimp only;rw[nue EP hx];exact uP.snoc (λp hp=>.tail _ hp) rfl rfl vw A0,λq hq=>.tail _ (Aq q hq)⟩):P:=h
theorem zpj (h:P:=by
  intro ax
  refine KT ?_
  refine ag ((i2,cur),j+1) ⟨by dsimp only;omega,by dsimp only;omega,qx,by dsimp only;rw[IM,ZT hx,if_pos z2,dG],KZ⟩
 ):P:=h
theorem zqj (h:P:=by
  rw[di]at hx
  simp only[iM,jv,kS,dQ,ft,jc,or_false,Gh.no,false_or]at hx
  rcases hx with hx|hx|hx|hx<;>first|omega|(have:=hq _ hx;omega)
 ):P:=h
theorem zrj (h:P:=by
  refine ao results225 rfl A3 ?_
  first|exact vb (abm ew)|exact vb (abn ew ew)|exact vb (abo ew ew)
 ):P:=h
theorem zsj (h:P:=by first|exact vb (if_pos ew).symm|exact vb (nun I5 ew (cF hx) ew)|exact vb (acd I5 ew (Cu bT aa))):P:=h
theorem ztj (h:P:=by exact nB (enc:=oj) (m:=4) (t:=145) (xs:=[]) (H0:=[(b6,oC #[bS] 97)]) (H1:=[]) (r:=.nil) (.inl rfl) results295 aL A1 zRc rfl rfl True.intro rfl):P:=h
theorem zuj (h:P:=by
  refine B 12 ?_
  refine zPf ?_
  intro r aB af
  refine B 1 ?_
  refine Vm ?_
  refine B 4 ?_
  exact nB (enc:=dD) (m:=2) (t:=325) (xs:=[]) (H0:=[(b4,oC #[r.val (([]:List Nd)).length] 84)]) (H1:=[]) (r:=r) (.inl rfl) results346 aL A1 zdd rfl af (Rw.ge_of aB A1) zyc
 ):P:=h
theorem zvj (h:P:=by exact nB (enc:=ak) (m:=1) (t:=3) (xs:=[]) (H0:=[]) (H1:=[]) (r:=.nil) (.inl rfl) results362 aL A1 trivial rfl rfl True.intro rfl):P:=h
theorem Vx (h:P:=by exact λW hS=>.inr ⟨j,x,rfl,hx,by assumption,bT⟩):P:=h
theorem zxj (h:P:=by
  have hx9:xs=cA (gb ts) f:=by rw[<-WG,Tq (by first|exact h1|exact λg=>h2 g.1),dG]
  rw[<-hx9]
  exact nB (H0:=[(b6,oC (plA (o.getD default)) 199)]) (H1:=[]) (r:=r) (.inl rfl) results82 aL A0 zS rfl af (Rw.ge_of aB A0) zP
 ):P:=h
theorem zyj (h:P:=by
  apply Array.ext'
  rw[U5,rM,<-hlen]
  show kp (ys++sp) ys.length news=_
  have aqU:n*ti.size<=sp.length:=by rw[zu,<-Cy,Cy];exact BM _ aa
  conv=>lhs;rw[<-J2 (n*ti.size) sp]
  rw[nEf _ _ _ _ cM,lP]
 ):P:=h
theorem zzj (h:P:=by
  refine B 7 ?_
  refine zFf ?_
  refine B 3 ?_
  have e:i=8:=by omega
  subst e
  refine zGe ?_
  show Value.agg (cut (kW (lM n m (bK n)) 8) 0 32)=_
  rw[nrg _ 32 (by rw[kW,nZ]),PR];rfl
 ):P:=h
theorem zAj (h:P:=by
  refine ao results281 rfl A1 ?_
  exact vb zlb
 ):P:=h
theorem zBj (h:P:=by
  intro gA gd cK
  exact OJ.done (hk _ _ _ ⟨gA,rfl,rfl,rfl,gd,cK⟩)
 ):P:=h
theorem zCj (h:P:=by
  refine z1d ?_
  refine B 1 ?_
  refine DM ?_
  refine vo ?_
  refine PJ.again (j+1,m) ⟨by dsimp only;omega,by dsimp only;rw[G8 hx,OV (.inr h8)];exact hm⟩ zZ zR (by rw[G8 hx,OV (.inr h8)];rfl) rfl zP
 ):P:=h
theorem zDj (h:P:=by refine PJ.again (.row b52 LS GM,i+1) ⟨by dsimp only;omega,.inr ⟨by omega,True.intro⟩,by dsimp only;rw[B0];exact uX⟩ zZ ⟨rfl,by dsimp only;rw[B0];rfl,rfl,trivial⟩ (by dsimp only;rw[B0];rfl) rfl zP):P:=h
theorem zEj (h:P:=by
  refine ao results5 rfl A1 ?_
  exact vb zic
 ):P:=h
theorem zFj (h:P:=by
  refine KT ?_
  refine ag (j+1) ⟨by omega,bT.next hx ⟨⟨by omega,by omega,λy0 h0 AW=>by first|omega|(rw[hy]at AW;cases AW;omega),N1 Bw⟩,by simp_all⟩⟩
 ):P:=h
theorem Rc (h:P:=by exact λW hS=>.inl ⟨rfl,Cu bT aa⟩):P:=h
theorem zHj (h:P:=by
  refine zDg ?_
  first|exact tF (nRg aa)|exact vb (nmh ⟨⟨by omega,by omega⟩,by omega,by omega,by omega⟩ (λh=>h.2.elim h7 h8) aa bT aa)
 ):P:=h
theorem zIj (h:P:=by
  refine xY ?_
  refine ag (j+1) ⟨by omega,bT.next hx ⟨by omega,by omega,λy0 h0 AW=>by first|omega|(rw[hy]at AW;cases AW;omega),N1 Bw,(nnd _).1 z2⟩⟩
 ):P:=h
theorem zJj (h:P:=by
  refine eN func241 ntmps241 ?_
  refine B 3 ?_
  intro b1 w1 aW dC fg bJ eO
  replace dC:=yb dC
  replace fg:=yc fg
  refine B 8 ?_
  refine bX aK ?_
  refine B 10 ?_
  refine ao results241 rfl A1 ?_
  rfl
 ):P:=h
theorem zKj (h:P:=by refine ag (i+1,yT) ⟨by dsimp only;omega,by dsimp only;omega,Tb,by dsimp only;rw[<-hcr,ndn (cur:=cur) (n:=xs.length) (i:=i) aa,<-hsk];congr 1;try exact(noj hx hy jz).symm⟩):P:=h
theorem zLj (h:P:=by
  refine B 11 ?_
  refine ao results165 rfl A1 ?_
  first|exact vb (Cu bT aa).symm|exact vb (List.any_eq_true.2 ⟨x,cF hx,by simp_all[lY]⟩).symm
 ):P:=h
theorem zMj (h:P:=by exact⟨rfl,0,_,by rw[alloc_eq_grow,alloc_eq_grow,grow_grow];rfl⟩):P:=h
theorem zNj (h:P:=by exact vb zlb):P:=h
theorem zOj (h:P:=by
  refine zDg ?_
  first|exact tF (nRg aa)|exact vb (nmh ⟨⟨by omega,by omega⟩,by omega,by omega,by omega⟩ (λh=>h6 h.1) aa bT aa)
 ):P:=h
theorem zPj (h:P:=by
  try simp only[ah]at cL cP
  have Qm:=cL.1
  have xM:=cP.1
  try have vJ:=cP.2.1
  exact λW hS=>⟨by omega,by omega,hS.old A1 bV bj trivial,hS.old A0 bQ aZ trivial⟩
 ):P:=h
theorem zQj (h:P:=by first|exact vb zwc|exact vb zgc|exact vb zvc):P:=h
theorem zRj (h:P:=by
  have gp:W.drew.heap[b]? =some (.cells (ys++sp).toArray e (0,0)):=hb
  rw[n7j gp cM]
  unfold cut
  simp only[List.drop_zero,<-hlen]
  rw[List.take_left' rfl]
 ):P:=h
theorem zSj (h:P:=by
  refine B 11 ?_
  refine ao results40 rfl A0 ?_
  first|exact vb (Cu bT aa).symm|exact vb (List.any_eq_true.2 ⟨x,cF hx,by simp_all⟩).symm
 ):P:=h
theorem zTj (h:P:=by
  refine B 11 ?_
  refine ao results280 rfl A0 ?_
  first|exact vb (by rw[hu];exact(nDp aa z2).symm)|exact vb (by rw[hu];exact(nbn aa).symm)
 ):P:=h
theorem zUj (h:P:=by exact(hS.links w A2).below (λk hk hx=>by rcases hx with hx|hx;(exact hx);rw[di]at hx;simp only[book,iM,jv,kS,eI,gB,gU,fP,dQ,ft,jc,or_false]at hx;omega)):P:=h
theorem zVj (h:P:=by refine PJ.again (r,j+1) ⟨by dsimp only;omega,aB,by rw[nzg hx aa];exact af⟩ zZ ⟨rfl,by rw[nzg hx aa];rfl,rfl,rfl,rfl,trivial⟩ (by rw[nzg hx aa];rfl) rfl zP):P:=h
theorem zWj (h:P:=by refine PJ.again (j+1) aa aa ⟨rfl,congrArg (λz=>some (ab z)) (by rw[nk hx];unfold qZ;rw[List.filter_append,eU,List.filter_cons];simp_all),rfl,trivial⟩ rfl rfl zP):P:=h
theorem zXj (h:P:=by
  refine nK results11 rfl rfl A0 ?_ ?_
  all_goals(refine congrArg ab ?_;unfold C9;first|(rw[if_neg aa];done)|(rw[if_pos aa];try first|(rw[Da aa];done)|skip))
 ):P:=h
theorem zYj (h:P:=by
  replace bY:=ya bY
  refine B 6 ?_
  exact PJ.mid ⟨(congrArg (λb=>some (Value.bool b)) z6),rfl,rfl,rfl,rfl,rfl,rfl,rfl,rfl,rfl,rfl,trivial⟩
 ):P:=h
theorem zZj (h:P:=by
  refine B 13 ?_
  refine Bf ?_
  exact nB (enc:=dD) (m:=2) (t:=325) (xs:=[]) (H0:=_) (H1:=[]) (r:=.nil) (.inl rfl) results303 aL A1 zKc rfl rfl True.intro (dG _).symm
 ):P:=h
theorem z0j (h:P:=by
  rintro Wm tV AK wh Q0 ⟨mo,ql⟩
  exact OJ.done (hk _ _ _ ⟨gA,tV,AK,rfl,rfl,rfl,rfl,gd,cK,ql,n0n λp hp=>oh (wh.lt p hp) mo⟩)
 ):P:=h
theorem z1j (h:P:=by
  replace bY:=ya bY
  refine B 6 ?_
  exact PJ.mid ⟨(congrArg (λb=>some (Value.bool b)) z6),rfl,rfl,rfl,rfl,rfl,rfl,rfl,rfl,trivial⟩
 ):P:=h
theorem z2j (h:P:=by
  intro b7 c7 s7 tu zA
  exact OJ.done (hk _ _ _ ⟨b6,b7,c7,s7,rfl,rfl,rfl,rfl,jb,Ci,tu,by simpa only[Fr,Gh.lent,ah,and_true]using tu,zA⟩)
 ):P:=h
theorem z3j (h:P:=by
  refine ao results359 rfl A1 ?_
  exact vb (by unfold BK;simp_all)
 ):P:=h
theorem z4j (h:P:=by exact OJ.done (hk _ _ _ ⟨bn,rfl,rfl,rfl,rfl,hfn⟩)):P:=h
theorem z5j (h:P:=by
  refine B 7 ?_
  refine z7d ?_
  refine B 2 ?_
  refine zlf ?_
  refine B 7 ?_
  refine zvf ?_
  refine ag (i+1) aa
 ):P:=h
theorem z6j (h:P:=by
  refine ao results279 rfl A2 ?_
  first|exact vb (SX hf hg aa bT z2)|exact vb (SY hf hg (λi hi=>bT i aa))
 ):P:=h
theorem z7j (h:P:=by
  have h2:(xs.toArray).map a.eval=vs.toArray:=by rw[CS,MQ hF xs vs ha]
  simp only[execOp,resolve,hF.ev hx,Deferred.ofValue,h2]
  simp[invoke,iJ]
 ):P:=h
theorem z8j (h:P:=by
  refine nK results364 rfl rfl A0 ?_ ?_
  all_goals first|(rw[hbe];done)|exact vb (nzo hbe hx)|exact vb (n2k hbe h1)
 ):P:=h
theorem z9j (h:P:=by
  replace ai:=ya ai
  refine B 9 ?_
  refine ao results339 rfl A1 ?_
  exact vb (by unfold p7;rw[wW];first|(simp;omega)|simp)
 ):P:=h
theorem zak (h:P:=by
  replace ai:=ya ai
  refine B 9 ?_
  refine ao results316 rfl A1 ?_
  exact vb (by unfold lY;rw[wW];first|(simp;omega)|simp)
 ):P:=h
theorem Nw (h:P:=by first|omega|(intro h;omega)):P:=h
theorem zdk (h:P:=by exact CZ (.inr rfl) results161 A0 hV z9b (λA hA=>.inl ⟨pre,(by first|(rw[<-tA,nyn hF hq,dG])|(rw[<-tA,nvp hF hq Ng,dG])),hA⟩)):P:=h
theorem zek (h:P:=by
  refine ao results37 rfl A2 ?_
  first|exact vb (Pa (Cu bT aa))|exact vb (n2j hx (decide_eq_true ew) bT)
 ):P:=h
theorem zfk (h:P:=by
  simp only[execOp,hF.ev hx,hF.ev hy,Sem.run_bind,h1,h2,Result.andThen]
  rfl
 ):P:=h
theorem zgk (h:P:=by
  simp only[Rw.val,Value.slice.injEq]at e9
  rw[<-e9.1]at h9;exact h9
 ):P:=h
theorem zhk (h:P:=by
  refine nK results47 rfl rfl A1 ?_ ?_
  all_goals(refine congrArg ab ?_;unfold um;first|(rw[if_neg hg];done)|(rw[if_pos hg];done))
 ):P:=h
theorem zik (h:P:=by
  refine nK results46 rfl rfl A1 ?_ ?_
  all_goals(refine congrArg ab ?_;unfold mz;first|(rw[if_neg hg];done)|(rw[if_pos hg];done))
 ):P:=h
theorem zjk (h:P:=by
  induction H with
  |nil=>simp
  |cons q H ih=>
    intro p hp
    simp at hp
    rcases hp with rfl|hp
    · exact h.1
    · exact ih h.2 p hp
 ):P:=h
theorem zkk (h:P:=by
  replace ai:=ya ai
  refine B 7 ?_
  refine ao results135 rfl A0 ?_
  refine vb ?_
  unfold lH
  simp;try omega
 ):P:=h
theorem WR (h:P:=by rcases he with rfl|rfl<;>exact key):P:=h
theorem AY (h:P:=by refine ag (j+1) aa):P:=h
theorem znk (h:P:=by
  refine B 12 ?_
  refine ao results219 rfl A0 ?_
  first|exact congrArg ab (S2 bT hx aa)|exact congrArg ab (npq bT aa)
 ):P:=h
theorem Ob (h:P:=by exact vb zGc):P:=h
theorem zpk (h:P:=by
  replace ai:=ya ai
  refine B 10 ?_
  refine ao results296 rfl A2 ?_
  exact vb (by unfold Ar;simp_all)
 ):P:=h
theorem zqk (h:P:=by
  refine ao results257 rfl A1 ?_
  exact congrArg ab (by first|exact nLp bT hx (decide_eq_true ew)|exact RZ bT aa)
 ):P:=h
theorem zrk (h:P:=by
  have h5:vs.length<=k:=by have:=hr.1;grind
  cases k with
  |zero=>omega
  |succ m=>have:=hr.2 m A0;grind
 ):P:=h
theorem zsk (h:P:=by
  replace ai:=ya ai
  refine B 7 ?_
  refine ao results325 rfl A0 ?_
  exact vb (by simp[BG];omega)
 ):P:=h
theorem ztk (h:P:=by
  refine ao results71 rfl A4 ?_
  first|exact vb (Pa kM)|exact vb (n2j mI E5 iL)
 ):P:=h
theorem zuk (h:P:=by
  replace ai:=ya ai
  refine B 8 ?_
  refine ao results217 rfl A0 ?_
  exact vb (by simp;try omega)
 ):P:=h
theorem zvk (h:P:=by
  show Ending.returned (.tuple #[.slice a ts.length cp,aO])=_
  unfold lj;rw[if_pos u2,u2];rfl
 ):P:=h
theorem Xe (h:P:=by exact λ_ _ _ _ _ _ _ _ hk=>hk.elim):P:=h
theorem zxk (h:P:=by
  rw[List.nodup_append]
  exact⟨hm.nd,by simp,by intro a ha b' gp;simp at gp;have:=hm.lt a ha;omega⟩
 ):P:=h
theorem zyk (h:P:=by
  refine ao results327 rfl A1 ?_
  exact vb zCc
 ):P:=h
theorem zzk (h:P:=by exact bH (.inl rfl) results258 aL λW hS=>⟨ov,rfl,hS.base A3 zH,rfl,RJ _ _,λq h=>xn,λq h=>xn⟩):P:=h
theorem zAk (h:P:=by exact PJ.mid ⟨(congrArg (λb=>some (Value.bool b)) z6),rfl,rfl,rfl,rfl,rfl,rfl,rfl,rfl,rfl,trivial⟩):P:=h
theorem zBk (h:P:=by
  simp only[eI,gB,ft,jc,or_false]at hp
  rcases hp with rfl|rfl
  · exact Ox
  · exact Ow
 ):P:=h
theorem zCk (h:P:=by
  apply Nat.eq_of_testBit_eq
  intro i
  rw[Nat.testBit_xor]
  cases i with
  |zero=>simp
  |succ i=>grind
 ):P:=h
theorem zDk (h:P:=by
  refine aS (.inl rfl) results176 aL A0 zH ?_
  first|(rw[nXp bT hx z2];rfl)|(rw[SE bT aa];rfl)
 ):P:=h
theorem zFk (h:P:=by
  refine aS (.inl rfl) results175 aL A1 zH ?_
  first|(rw[nHp bT hx z2];rfl)|(rw[SD bT aa];rfl)
 ):P:=h
theorem zGk (h:P:=by
  refine aS (.inl rfl) results125 aL A0 zH ?_
  first|(rw[nzp bT hx z2];rfl)|(rw[Tk bT aa];rfl)
 ):P:=h
theorem zHk (h:P:=by
  refine nK results284 rfl rfl A1 ?_ ?_
  all_goals first|(rw[ngq bT aa];rfl)|(rw[nGo bT hx z2];rfl)
 ):P:=h
theorem zIk (h:P:=by exact PJ.mid ⟨(congrArg (λb=>some (Value.bool b)) z6),rfl,rfl,rfl,rfl,rfl,rfl,rfl,trivial⟩):P:=h
theorem zJk (h:P:=by
  show(aP (bC G.g.ns c.chs) c.author c.path).length<=80000
  rw[hT];omega
 ):P:=h
theorem zKk (h:P:=by
  intro r_ EU kJ
  exact OJ.done (hk _ _ _ ⟨r_,rfl,rfl,rfl,Rw.ge_fz EU A0,kJ⟩)
 ):P:=h
theorem Yg (h:P:=by simp[Op.equalIn,run_underlying hU]):P:=h
theorem zNk (h:P:=by
  refine ao results301 rfl A1 ?_
  first|exact congrArg ab (n1n ew hx)|exact congrArg ab (nRq z2 hx)
 ):P:=h
theorem zOk (h:P:=by
  refine ao results220 rfl A0 ?_
  exact congrArg ab zXc
 ):P:=h
theorem zPk (h:P:=by
  replace ai:=ya ai
  refine B 7 ?_
  refine ao results230 rfl A0 ?_
  exact vb mZ
 ):P:=h
theorem VL (h:P:=by exact vb zqb):P:=h
theorem zRk (h:P:=by
  refine zuf ?_
  unfold sq
  rw[if_neg z2c]
  rfl
 ):P:=h
theorem zSk (h:P:=by
  refine(hS.links w A2).below λk hk hx=>?_
  rw[di]at hx;simp[Gh.no,book]at hx;omega
 ):P:=h
theorem zTk (h:P:=by
  refine ao results243 rfl A0 ?_
  exact vu (by unfold zx;split<;>omega)
 ):P:=h
theorem zUk (h:P:=by refine ag (j+1) ⟨by omega,bT.next hx ⟨by omega,ni.1 aa⟩⟩):P:=h
theorem zVk (h:P:=by exact λW hS=>⟨dC.1,hS.old A0 aW bJ trivial⟩):P:=h
theorem zWk (h:P:=by
  intro bY
  refine RU ?_
  refine ag (j+1) ⟨by omega,bT.next hx hy ew⟩
 ):P:=h
theorem GR (h:P:=by
  refine ao results168 rfl A1 ?_
  exact zzi
 ):P:=h
theorem IJ (h:P:=by
  refine ao results294 rfl A1 ?_
  exact zAi
 ):P:=h
theorem Rp (h:P:=by
  refine zye ?_
  exact zAi
 ):P:=h
theorem Wo (h:P:=by
  refine zOe ?_
  exact zzi
 ):P:=h
theorem z1k (h:P:=by
  refine B 3 ?_
  have Iz:dr a:=N1 (by rw[lS];first|exact ai|omega)
  have Db:dr b:=N1 (by rw[pR];first|omega|(simp at ax;exact ax))
  refine B 3 ?_
  refine zXf ?_
  refine B 5 ?_
  exact zVi
 ):P:=h
theorem OC (h:P:=by
  intro ax
  refine B 8 ?_
  exact z1i
 ):P:=h
theorem z3k (h:P:=by
  refine B 5 ?_
  obtain⟨bo,oo,cs0,to,dR,iq,dW,hcs,ay⟩:=qP.get aa
  obtain⟨x,hx⟩:=ng G.g.ms j aa
  exact zDi
 ):P:=h
theorem Rb (h:P:=by
  intro ax
  refine B 7 ?_
  exact z1i
 ):P:=h
theorem V9 (h:P:=by
  refine z4e ?_
  exact zHi
 ):P:=h
theorem z6k (h:P:=by
  refine zOf ?_
  refine B 12 ?_
  have p8:=Te (Z:=Z) (g:=G.g) hc (by rw[he];exact Tf hm aa)
  exact zfj
 ):P:=h
theorem UD (h:P:=by
  refine zEh ?_
  exact zBi
 ):P:=h
theorem z8k (h:P:=by
  intro cv L' H' hl hP F Q' hk
  obtain rfl:=oJ hl
  obtain⟨rfl,rfl⟩:=hP
  refine zff ?_
  exact zBj
 ):P:=h
theorem z9k (h:P:=by
  intro cv L' H' hl hP F Q' hk
  obtain rfl:=oJ hl
  obtain⟨rfl,rfl⟩:=hP
  refine z1e ?_
  exact zBj
 ):P:=h
theorem Zg (h:P:=by
  refine B 17 ?_
  exact zFi
 ):P:=h
theorem zbl (h:P:=by exact fN):P:=h
theorem zdl (h:P:=by
  refine B 5 ?_
  exact Zw
 ):P:=h
theorem zel (h:P:=by
  refine zph ?_
  exact zNj
 ):P:=h
theorem zfl (h:P:=by
  refine B 11 ?_
  exact Wo
 ):P:=h
theorem zgl (h:P:=by
  refine B 11 ?_
  exact Rp
 ):P:=h
theorem zhl (h:P:=by exact zbl):P:=h
theorem zil (h:P:=by
  refine SB ?_
  refine zWe ?_
  refine B 16 ?_
  exact V9
 ):P:=h
theorem zjl (h:P:=by exact zhl):P:=h
theorem zkl (h:P:=by exact zjl):P:=h
theorem zll (h:P:=by exact zkl):P:=h
theorem zml (h:P:=by exact zll):P:=h
theorem znl (h:P:=by exact zml):P:=h
theorem zol (h:P:=by exact znl):P:=h
theorem zpl (h:P:=by exact zol):P:=h
theorem zql (h:P:=by exact zpl):P:=h
theorem zrl (h:P:=by exact zql):P:=h
theorem zsl (h:P:=by exact zrl):P:=h
theorem kh (h:P:=by exact zsl):P:=h
theorem vb {a b:Bool} (h:a=b):Go.Value.bool a=Go.Value.bool b:=congrArg _ h
theorem va {a b:Array Go.Value} (h:a=b):Go.Value.agg a=Go.Value.agg b:=congrArg _ h
theorem vi {a b:Int} (h:a=b):Go.Value.int .i64 a=Go.Value.int .i64 b:=congrArg _ h
theorem vu {a b:Int} (h:a=b):Go.Value.int .u64 a=Go.Value.int .u64 b:=congrArg _ h
theorem yV (k:Q) (h:ZW Q->P:=by intro Kz;intro b w hb ha ho hm hz;replace ha:=yb ha;replace ho:=yc ho;revert b w hb hm hz ha ho;exact Kz.p):P:=h ⟨k⟩
theorem yX (k:Q) (h:ZW Q->P:=by intro Kz;refine T3 rfl rfl rfl ?_;intro b w hb ha ho hm hz;replace ha:=yb ha;replace ho:=yc ho;revert b w hb hm hz ha ho;exact Kz.p):P:=h ⟨k⟩
theorem yW (k:Q) (h:ZW Q->P:=by intro Kz;intro b ha ho;replace ha:=yb ha;replace ho:=yc ho;revert b ha ho;exact Kz.p):P:=h ⟨k⟩
theorem zYA (h:P:=by exact zU 4 (k:=by exact dh (ne call298 rfl rfl (λW hS _=>by have h9:=ZR c.bxs aa W.heap.size c.ba c.bc W (aC _) (hC.bxs.up aT hS.sm) (gz G.g c.author c.chs) an cn (sI.to hS A0 (aC _) (λb off e=>.inr Z4));rw[show jG Ar c.bxs (gz G.g c.author c.chs)=true from hb]at h9;exact h9) (λ_=>rfl)) zT)):P:=h
theorem zYB (h:P:=by exact zU 4 (k:=by exact qv (ad (v:=ab y.2) isAgg3 rfl A1 rz zL trivial zmd) (zU 1 (k:=by exact qv (RV.re (v':=.slice (some ⟨bo,oo,none⟩) c.bxs.length c.bc) (ad isAgg97 rfl A2 bQ aZ trivial rfl) mR) (zU 3 (k:=by exact qv (ad (v:=ab x.node) isAgg3 rfl A4 hcs zL trivial (nu ay hx rfl 0 zF)) (qv (RV.re (v':=aO) (aN rfl rfl) (vb GQ)) (zU 5 (k:=by exact qv (ad (v:=ab y.1) isAgg3 rfl A1 rz zL trivial zrd) (zU 1 (k:=by exact qv (RV.re (v':=.slice (some ⟨bo,oo,none⟩) c.bxs.length c.bc) (ad isAgg97 rfl A2 bQ aZ trivial rfl) mR) (zU 3 (k:=by exact qv (ad (v:=ab x.level) isAgg3 rfl A4 hcs zL trivial (nu ay hx rfl 1 zF)) (lK rfl)))))))))))))):P:=h
theorem zYC (h:P:=by exact zU 2 (k:=by exact dh (ne call332 rfl rfl (λW hS _=>by have h9:=Vu x.dev W;rw[decide_eq_true (Classical.not_not.1 h1)]at h9;exact h9) (λ_=>rfl)) (zU 6 (k:=by exact qv (RV.re (v':=.slice (some ⟨bo,oo,none⟩) c.wes.length c.wc) (ad isAgg98 rfl A0 aW bJ zD rfl) (congrArg (λq=>Value.slice q c.wes.length c.wc) iq)) (zU 4 (k:=by exact qv (ad (v:=ab y.dev) isAgg3 rfl A1 hcs zL zD zud) zT)))))):P:=h
theorem zYD (h:P:=by exact zU 3 (k:=by exact dh (X.cv call69 rfl (λW hS _=>nW _ W)) (zU 3 (k:=by exact dh (X.cv call69 rfl (λW hS _=>nW _ W)) (zU 3 (k:=by exact dh (X.cv call69 rfl (λW hS _=>nW _ W)) (zU 3 (k:=by exact dh (X.cv call69 rfl (λW hS _=>nW _ W)) (zU 3 (k:=by exact dh (X.cv call69 rfl (λW hS _=>nW _ W)) (zU 1 (k:=by exact dh (X.cv call69 rfl (λW hS _=>nW _ W)) zT)))))))))))):P:=h
theorem zYE (h:P:=by exact zU 2 (k:=by exact dh (ne call228 rfl rfl (λW hS _=>by have h9:=V6 x.dev W;rw[decide_eq_true (Classical.not_not.1 h1)]at h9;exact h9) (λ_=>rfl)) (zU 6 (k:=by exact qv (RV.re (v':=.slice (some ⟨bo,oo,none⟩) c.wes.length c.wc) (ad isAgg98 rfl A0 aW bJ zD rfl) mR) (zU 4 (k:=by exact qv (ad (v:=ab y.dev) isAgg3 rfl A1 hcs zL zD zud) zT)))))):P:=h
theorem zYF (h:P:=by exact zU 4 (k:=by exact qv (RV.re (v':=aK) (dp rfl) (by first|rfl|(rw[hq];rfl))) (zU 7 (k:=by exact dh (ne call142 rfl rfl (λW hS _=>by have h9:=nVe hinv.1 b9 m hm x.par x.fol W (hS.own (b9,_) A2);rwa[Tm]at h9) (λ_=>rfl)) (zU 6 (k:=by exact dh (X.cv call159 rfl (λW hS _=>nUd hinv.1 b9 m hm x.par aa W (hS.own (b9,_) A2))) zT)))))):P:=h
theorem zYG (h:P:=by exact zU 5 (k:=by exact dh (X.cv call301 rfl (λW hS _=>nee G N W aT (hG.us hS.sm) c.chs aa c.ca c.cc (hC.chs.us hS.sm) c.author (λhm=>nBl uT sH hm))) zT)):P:=h
theorem zYH (h:P:=by exact qv (ad (v:=ab q.fol) isAgg3 rfl A1 fY zL zD (nu ay hq rfl 2 zF)) zT):P:=h
theorem zYI (h:P:=by exact zU 8 (k:=by exact qv (RV.re (v':=.agg (plA x)) (eh (i:=0) rfl isAgg199 sizeOf199 rfl (CF (j:=j1+1) nq aa)) (va (CE (j:=j1+1) (sp:=sp) nq hx))) (zU 4 (k:=by exact qv (RV.re (v':=.agg (plA y)) (eh (i:=0) rfl isAgg199 sizeOf199 rfl (CF (j:=j1) nq aa)) (va (CE (j:=j1) (sp:=sp) nq hy))) (lK rfl))))):P:=h
theorem zYJ (h:P:=by exact zU 5 (k:=by exact qv (RV.re (v':=.slice a9 (fJ ts i).length c9) (dp rfl) e9) (zU 1 (k:=by exact qv (RV.re (v':=.slice (rE a9 k c9 5) ((fJ ts i).drop k).length (c9-k)) (AF (l:=k) (h:=(fJ ts i).length) underlying32 sizeOf199 rfl yZ ⟨_,_,rfl,rfl⟩ rfl aa aa) (by rw[yp])) (lK rfl))))):P:=h
theorem zYK (h:P:=by rcases hk with hk|hk;(exact hk);(simp only[jv,kS,eI,gB,ft,jc,or_false]at hk;first|exact hk|(rcases hk with hk|hk;(exfalso;omega);exact hk))):P:=h
theorem zYL (h:P:=by exact dh (X.cv call159 rfl (λW hS _=>nUd hinv.1 b9 m hm x.par aa W (hS.own (b9,_) A2))) zT):P:=h
theorem zYM (h:P:=by dsimp only;rw[WH hq,CN];unfold wL;simp_all;try omega):P:=h
theorem zYN (h:P:=by exact zU 2 (k:=by exact qv (ad (v:=.int .u8 (f j)) isAgg5 rfl A1 bV bj trivial (by have:=jN f j aa;simpa[Value.cells]using this)) (zU 2 (k:=by exact qv (ad (v:=.int .u8 (g j)) isAgg5 rfl A0 bQ aZ trivial (by have:=jN g j aa;simpa[Value.cells]using this)) (lK rfl))))):P:=h
theorem zYO (h:P:=by obtain⟨a9,c9,e9,h9⟩:=gA.sl' (t:=3) cK (Rw.at_own hS (λp hp=>by simp[hp]));have h8:=nXg (cA (nC s.pls) l.fo) (dS (yS (Tn s.pls).1 l.fo) znd) W.heap.size a9 c9 W (aC _) h9 p.fo;rw[show((cA (nC s.pls) l.fo).any λx=>decide (p.fo=x))=true from hu,<-e9]at h8;exact h8):P:=h
theorem zYP (h:P:=by dsimp only;(try simp only[eU,kb,oe]);omega):P:=h
theorem zYQ (h:P:=by rw[<-gJ];exact n9e hZ (⟨#[102,97,99,116,111,114,32,115,105,103,110]⟩:ByteArray) zF (fV f) jd.1 jd.2.1 jd.2.2 W.heap.size gg 4 W (aC _) (Qw (sp:=[]) rfl (hS.lt _ A0) (aC 4) (hS.own _ A0)) (hg.old hS A1 zO zJ)):P:=h
theorem zYR (h:P:=by exact zU 2 (k:=by exact qv (iN underlying32 af rfl) (zU 9 (k:=by exact qv (RV.re (v':=.agg (plA y)) (eh (i:=0) rfl isAgg199 sizeOf199 rfl (CF (j:=k) nq aa)) (va (CE (j:=k) (sp:=s9) nq hy))) (lK rfl))))):P:=h
theorem zYS (h:P:=by simp only[S8.run,hv];rfl):P:=h
theorem zYT (h:P:=by rw[<-BN];exact⟨by rw[oK];omega,by rw[E8,yp,oK,dE,Nat.min_eq_left aa,qx,<-IN];congr 1;omega⟩):P:=h
theorem zYU (h:P:=by rcases bT b off e with h9|h9;(exact .inl h9);exact .inr zD):P:=h
theorem zYV (h:P:=by exact zU 20 (k:=by exact qv (ad (v:=ab y.at_) isAgg3 rfl A1 hcs zL zD Vo) (lK rfl))):P:=h
theorem zYW (h:P:=by rw[e];have:=cB (Gz.refl W2);rw[h2]at this ⊢;exact this):P:=h
theorem zYX (h:P:=by exact zU 2 (k:=by exact qv (iN underlying96 af rfl) (zU 7 (k:=by exact qv (me (enc:=ak) (t:=3) (xs:=(fm Z cs G.g i)) (sp:=s9) (f:=0) nh qw isAgg3 rfl zP hnO rfl) zT)))):P:=h
theorem zYY (h:P:=by have:=hS.vlt _ hv;omega):P:=h
theorem zYZ (h:P:=by exact zU 2 (k:=by exact qv (RV.re (v':=aK) (dp rfl) (vb An)) (zU 5 (k:=by exact qv (ad (v:=ab x.at_) isAgg3 rfl A2 hcs zL zD (nu ay hx rfl 0 zF)) zT)))):P:=h
theorem zYa (h:P:=by by_cases e2:k=b2;(rw[e2,Rz];exact hS.own _ A0);exact(hS.links w5 A0).block k hk (λhx=>by rcases hx with hx|hx;(exact hx);simp at hx;exact e2 hx)):P:=h
theorem zYb (h:P:=by subst hk;have:=hS.sizes;simp only[ah]at this;have:=(bO.1 rY).1;refine⟨by omega,by simp only[eI,gB,jv,kS,ft,jc,or_false,not_or];omega,λh=>h⟩):P:=h
theorem zYh (h:P:=by rcases bT b off e with h9|h9;(exact .inl h9);rcases cB.lt e with h8|h8;(exact .inl h8);refine .inr ?_;simp only[cu,eI,gB,vh,and_true];omega):P:=h
theorem zYk (h:P:=by rw[results_tmp hr];exact congrArg (λu=>Result.ok u W) (hF t v hv)):P:=h
theorem zYl (h:P:=by exact dh (ne (v:=ab e) call43 rfl rfl (λW hS _=>by rw[<-he];exact nQ _ W) (λ_=>rfl)) (qv (RV.re (v':=aK) (aN rfl rfl) (vb mZ)) zT)):P:=h
theorem zYm (h:P:=by exact dh (ne (v:=ab e) call43 rfl rfl (λW hS _=>by rw[<-he];exact nQ _ W) (λ_=>rfl)) (qv (RV.re (v':=aO) (aN rfl rfl) (vb mZ)) zT)):P:=h
theorem zYn (h:P:=by simp only[cu,and_true];omega):P:=h
theorem zYo (h:P:=by exact zU 5 (k:=by exact dh (X.cv call208 rfl (λW hS _=>nPg hZ c cZ N W aT (hC.us hS.sm) (hg.old hS A5 zO zJ))) (lK rfl))):P:=h
theorem zYp (h:P:=by have h9:=n5h G N W aT (hG.us hS.sm) c.chs aa c.ca c.cc (hC.chs.us hS.sm) c.author hv;rw[hp]at h9;exact h9):P:=h
theorem zYq (h:P:=by rw[<-he];exact nnh hZ (Lq fo) (λn hn=>by cases hn) c (cZ c hcm) N W aT (nSj fo N W) ((hC c hcm).us hS.sm)):P:=h
theorem zYr (h:P:=by rw[<-he];exact nBf hZ (Lq fo) c (cZ c hcm) N W aT (nSj fo N W) ((hC c hcm).us hS.sm) (hg.old hS A2 zO zJ)):P:=h
theorem zYs (h:P:=by have h9:=nTf hZ s ho N W aT (hs.us (hS.same A2 hN zO uy)) l p hlk (hg.old hS A2 zO uy);rwa[hc]at h9):P:=h
theorem zYt (h:P:=by exact qv (aX (v:=u32 (ws j)) (i:=1) rfl isAgg287 rfl (zo 64 (λi=>u32 (ws i)) j _ aa aa)) (lK rfl)):P:=h
theorem zYu (h:P:=by exact zU 3 (k:=by exact dh (X.cv call278 rfl (λW hS _=>n0f G N W aT (hG.us hS.sm) a.author)) zT)):P:=h
theorem zYv (h:P:=by have h9:=nR p W;rwa[hv]at h9):P:=h
theorem zYw (h:P:=by have h9:=QC p W;rwa[hv]at h9):P:=h
theorem zYx (h:P:=by rw[hN];exact xv p.1 (List.of_mem_zip hp).1):P:=h
theorem zYy (h:P:=by dsimp only;rw[ZT mI,if_pos E5,nTh iL,dG]):P:=h
theorem zYz (h:P:=by exact zU 4 (k:=by exact qv (RV.re (v':=aO) (oO underlying4 rfl rfl) (vb An)) zT)):P:=h
theorem zY0 (h:P:=by rw[hB.block bk (by have:=(hS.links wk A0).size;omega)];exact hS.old A0 yi zL zD):P:=h
theorem zY1 (h:P:=by rw[gJ];exact hS.own _ A0):P:=h
theorem zY2 (h:P:=by have h9:=nuh hZ s ho N W aT (hs.us (hS.same A1 hN zO uy)) l p hlk;rwa[vw]at h9):P:=h
theorem zY3 (h:P:=by exact qv (oD 10 zF rfl rfl rfl) (qv (fC rfl rfl) (qv (ee rfl rfl) (lK rfl)))):P:=h
theorem zY4 (h:P:=by exact qv (RV.re (v':=aO) (ad isAgg4 rfl A0 gQ je trivial rfl) ((vb hr))) zT):P:=h
theorem zY5 (h:P:=by exact qv (RV.re (v':=aK) (ad isAgg4 rfl A0 gQ je trivial rfl) ((vb hr))) zT):P:=h
theorem zY6 (h:P:=by have h9:=n5p s (λc hc=>(hin.cm c hc).lim) N W aT (hs.us hS.sm);rwa[hf]at h9):P:=h
theorem zY7 (h:P:=by have h1:=V.depthL_take l i aa;rw[hy]at h1;have h2:=V.depthL_mem y rO;omega):P:=h
theorem zY8 (h:P:=by have:=IY _ e;dsimp only at this;exact .inr ⟨this.1,this.2.1,.inr this.2.2⟩):P:=h
theorem zY9 (h:P:=by exact qv (RV.re (ad (v:=ab (i:Int)) isAgg3 rfl A2 FJ zL zcc zkd) rfl) zT):P:=h
theorem zYBA (h:P:=by first|exact(Xh _ _ _ _ aa aa).trans hR|exact(Xi _ _ _ _ aa aa).trans hR):P:=h
theorem zYBB (h:P:=by intro k hk hx;simp at hx;try omega):P:=h
theorem zYBC (h:P:=by dsimp only;rw[iM];rfl):P:=h
theorem zYBD (h:P:=by simp only[fP,Over,and_true];omega):P:=h
theorem zYBE (h:P:=by dsimp only;rw[Az hd cB];exact lU):P:=h
theorem zYBF (h:P:=by have e:=lE (l:=pI n) (i:=j) (by rw[nYe];omega);rw[e]at hA;exact hA):P:=h
theorem zYBG (h:P:=by first|exact(Nr _ _ _ _ aa).trans hR|exact(Ns _ _ _ _ aa).trans hR):P:=h
theorem zYBH (h:P:=by unfold jh at *;rw[jg]at *;omega):P:=h
theorem zYBI (h:P:=by rw[<-nZj m j (Ny (λi=>m (4*j+i)) 0) (by rw[if_pos aa];rfl)];rfl):P:=h
theorem zYBJ (h:P:=by exact λcv L' H' hd hP=>X.v (lL underlying34 sizeOf5 rfl rfl aa)):P:=h
theorem zYBK (h:P:=by exact λcv L' H' hd hP=>X.v (du underlying139 rfl sizeOf9 rfl)):P:=h
theorem zYBL (h:P:=by exact λcv L' H' hd hP=>X.v (du underlying66 rfl sizeOf32 rfl)):P:=h
theorem zYBM (h:P:=by exact λcv L' H' hd hP=>X.v (du underlying147 rfl sizeOf3 rfl)):P:=h
theorem zYBN (h:P:=by exact qv (RV.re (v':=aK) (iU rfl rfl) (vb (by simp[hf]))) zT):P:=h
theorem zYBO (h:P:=by intro k hk hx;simp only[eI,jv,kS,ft,jc,or_false]at hx;omega):P:=h
theorem zYBP (h:P:=by exact λcv L' H' hd hP=>X.cv call124 rfl (λW hS _=>nph _ W)):P:=h
theorem zYBQ (h:P:=by simpa only[Fr,Gh.lent,Gh.no,ah,and_true,false_or]using se):P:=h
theorem zYBR (h:P:=by rw[KY kM];exact hS.own _ A0):P:=h
theorem zYBS (h:P:=by intro j hj hx;simp[qS]at hx):P:=h
theorem zYBT (h:P:=by obtain⟨vs,hl,rfl,hP⟩:=nrp h2 h3;exact fin vs L' H' hl hP):P:=h
theorem zYBU (h:P:=by rcases hG.ns.lt e with h|h;(exact .inl h);exact .inr aa):P:=h
theorem zYBV (h:P:=by rw[<-BN];exact hS.own _ A0):P:=h
theorem zYBW (h:P:=by dsimp only;rw[n4i n i aa,<-lP,<-Cn];first|done|rfl):P:=h
theorem zYBX (h:P:=by have:=nu ay hx (i:=0) rfl 1 zF;simpa[ff]using this):P:=h
theorem zYBY (h:P:=by have:=hS.xlt _ hx;omega):P:=h
theorem zYBZ (h:P:=by rw[hB.block q.1 aa];exact hS.old A0 jR zL trivial):P:=h
theorem zYBa (h:P:=by rw[hB.block q.2 aa];exact hS.old A0 kH zL trivial):P:=h
theorem zYBb (h:P:=by simp[book,Rw.val_cells]):P:=h
theorem zYBc (h:P:=by rw[<-e,hB.block bd zsc];exact hS.old A0 rY zL zD):P:=h
theorem zYBd (h:P:=by rw[<-kf];exact nZl c cZ.few N W aT (hC.us hS.sm)):P:=h
theorem zYBe (h:P:=by have:=hS.vlt _ hv;have:W.heap.size<=b:=pF;omega):P:=h
theorem zYBf (h:P:=by show((0+Int.toNat y.kind*1+0:Nat):Int)=_;omega):P:=h
theorem zYBg (h:P:=by simp only[cu,eI,gB,vh,zz,ne_eq,and_true];omega):P:=h
theorem zYBh (h:P:=by obtain⟨p,hp,e⟩:=dO.1 hm;have:=Zn Cs p hp;omega):P:=h
theorem zYBi (h:P:=by unfold lJ at ha;omega):P:=h
theorem zYBj (h:P:=by dsimp only;rw[p8];rfl):P:=h
theorem zYBk (h:P:=by have:=EK _ e;dsimp only at this;exact .inr aa):P:=h
theorem zYBl (h:P:=by rw[<-hv];exact n7l G N W aT (hG.us hS.sm) qq):P:=h
theorem zYBm (h:P:=by exact λkE=>X.v (RV.re (v':=aK) (ij rfl) rfl)):P:=h
end Px
