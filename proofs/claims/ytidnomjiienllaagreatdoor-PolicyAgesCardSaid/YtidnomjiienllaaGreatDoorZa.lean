/- Proofs by default that many steps share. No condition beyond those that each theorem states. -/
import Derived.ProofKit
import Derived.KernelRfl
set_option linter.unusedSimpArgs false
set_option linter.unusedVariables false
set_option linter.unusedSectionVars false
namespace Px
variable {P Q A S':Prop}
theorem A0 {α:Type _} {a:α} {l:List α}:a∈a::l:=.head _
theorem A1 {α:Type _} {a x0:α} {l:List α}:a∈x0::a::l:=.tail _ (.head _)
theorem A2 {α:Type _} {a x0 x1:α} {l:List α}:a∈x0::x1::a::l:=.tail _ (.tail _ (.head _))
theorem A3 {α:Type _} {a x0 x1 x2:α} {l:List α}:a∈x0::x1::x2::a::l:=.tail _ (.tail _ (.tail _ (.head _)))
theorem A4 {α:Type _} {a x0 x1 x2 x3:α} {l:List α}:a∈x0::x1::x2::x3::a::l:=.tail _ (.tail _ (.tail _ (.tail _ (.head _))))
theorem A5 {α:Type _} {a x0 x1 x2 x3 x4:α} {l:List α}:a∈x0::x1::x2::x3::x4::a::l:=.tail _ (.tail _ (.tail _ (.tail _ (.tail _ (.head _)))))
theorem A6 {α:Type _} {a x0 x1 x2 x3 x4 x5:α} {l:List α}:a∈x0::x1::x2::x3::x4::x5::a::l:=.tail _ (.tail _ (.tail _ (.tail _ (.tail _ (.tail _ (.head _))))))
theorem A7 {α:Type _} {a x0 x1 x2 x3 x4 x5 x6:α} {l:List α}:a∈x0::x1::x2::x3::x4::x5::x6::a::l:=.tail _ (.tail _ (.tail _ (.tail _ (.tail _ (.tail _ (.tail _ (.head _)))))))
theorem A8 {α:Type _} {a x0 x1 x2 x3 x4 x5 x6 x7:α} {l:List α}:a∈x0::x1::x2::x3::x4::x5::x6::x7::a::l:=.tail _ (.tail _ (.tail _ (.tail _ (.tail _ (.tail _ (.tail _ (.tail _ (.head _))))))))
theorem A9 {α:Type _} {a x0 x1 x2 x3 x4 x5 x6 x7 x8:α} {l:List α}:a∈x0::x1::x2::x3::x4::x5::x6::x7::x8::a::l:=.tail _ (.tail _ (.tail _ (.tail _ (.tail _ (.tail _ (.tail _ (.tail _ (.tail _ (.head _)))))))))
theorem A10 {α:Type _} {a x0 x1 x2 x3 x4 x5 x6 x7 x8 x9:α} {l:List α}:a∈x0::x1::x2::x3::x4::x5::x6::x7::x8::x9::a::l:=.tail _ (.tail _ (.tail _ (.tail _ (.tail _ (.tail _ (.tail _ (.tail _ (.tail _ (.tail _ (.head _))))))))))
theorem A11 {α:Type _} {a x0 x1 x2 x3 x4 x5 x6 x7 x8 x9 x10:α} {l:List α}:a∈x0::x1::x2::x3::x4::x5::x6::x7::x8::x9::x10::a::l:=.tail _ (.tail _ (.tail _ (.tail _ (.tail _ (.tail _ (.tail _ (.tail _ (.tail _ (.tail _ (.tail _ (.head _)))))))))))
theorem A12 {α:Type _} {a x0 x1 x2 x3 x4 x5 x6 x7 x8 x9 x10 x11:α} {l:List α}:a∈x0::x1::x2::x3::x4::x5::x6::x7::x8::x9::x10::x11::a::l:=.tail _ (.tail _ (.tail _ (.tail _ (.tail _ (.tail _ (.tail _ (.tail _ (.tail _ (.tail _ (.tail _ (.tail _ (.head _))))))))))))
theorem A13 {α:Type _} {a x0 x1 x2 x3 x4 x5 x6 x7 x8 x9 x10 x11 x12:α} {l:List α}:a∈x0::x1::x2::x3::x4::x5::x6::x7::x8::x9::x10::x11::x12::a::l:=.tail _ (.tail _ (.tail _ (.tail _ (.tail _ (.tail _ (.tail _ (.tail _ (.tail _ (.tail _ (.tail _ (.tail _ (.tail _ (.head _)))))))))))))
theorem A14 {α:Type _} {a x0 x1 x2 x3 x4 x5 x6 x7 x8 x9 x10 x11 x12 x13:α} {l:List α}:a∈x0::x1::x2::x3::x4::x5::x6::x7::x8::x9::x10::x11::x12::x13::a::l:=.tail _ (.tail _ (.tail _ (.tail _ (.tail _ (.tail _ (.tail _ (.tail _ (.tail _ (.tail _ (.tail _ (.tail _ (.tail _ (.tail _ (.head _))))))))))))))
theorem A15 {α:Type _} {a x0 x1 x2 x3 x4 x5 x6 x7 x8 x9 x10 x11 x12 x13 x14:α} {l:List α}:a∈x0::x1::x2::x3::x4::x5::x6::x7::x8::x9::x10::x11::x12::x13::x14::a::l:=.tail _ (.tail _ (.tail _ (.tail _ (.tail _ (.tail _ (.tail _ (.tail _ (.tail _ (.tail _ (.tail _ (.tail _ (.tail _ (.tail _ (.tail _ (.head _)))))))))))))))
theorem A16 {α:Type _} {a x0 x1 x2 x3 x4 x5 x6 x7 x8 x9 x10 x11 x12 x13 x14 x15:α} {l:List α}:a∈x0::x1::x2::x3::x4::x5::x6::x7::x8::x9::x10::x11::x12::x13::x14::x15::a::l:=.tail _ (.tail _ (.tail _ (.tail _ (.tail _ (.tail _ (.tail _ (.tail _ (.tail _ (.tail _ (.tail _ (.tail _ (.tail _ (.tail _ (.tail _ (.tail _ (.head _))))))))))))))))
theorem R2 (h:P:=by exact λ_ _=>rfl):P:=h
abbrev a8n:=@Nat.eq_of_beq_eq_true
abbrev a9n:=@Option.some.injEq
abbrev aao:=@Array.getElem?_setIfInBounds_ne
abbrev abo:=@Nat.le_refl
abbrev aco:=@Nat.le_trans
abbrev ado:=@Nat.lt_of_lt_of_le
abbrev aeo:=@List.mem_cons
abbrev afo:=@List.map_cons
abbrev ago:=@Array.getElem?_eq_some_iff
abbrev aho:=@List.getElem?_cons_zero
abbrev aio:=@List.getElem?_cons_succ
abbrev ajo:=@List.mem_of_getElem?
abbrev ako:=@List.getElem?_eq_some_iff
abbrev alo:=@List.getElem?_set_self
abbrev amo:=@List.getElem?_set_ne
abbrev ano:=@List.mem_map
abbrev aoo:=@List.mem_iff_getElem?
abbrev apo:=@Nat.le_of_ble_eq_true
abbrev aqo:=@Int.eq_ofNat_of_zero_le
abbrev aro:=@List.map_toArray
abbrev aso:=@Array.getElem?_append_left
abbrev ato:=@Nat.le_of_not_lt
abbrev auo:=@Array.getElem?_toList
abbrev avo:=@Array.getElem?_modify
abbrev awo:=@Bool.and_eq_true
abbrev axo:=@List.length_cons
abbrev ayo:=@List.map_append
abbrev azo:=@List.mem_append
abbrev aAo:=@List.length_map
abbrev aBo:=@List.getElem_map
abbrev aCo:=@List.not_mem_nil
abbrev aDo:=@List.ext_getElem?
abbrev aEo:=@List.cons_append
abbrev aFo:=@List.length_drop
abbrev aGo:=@List.getElem?_drop
abbrev aHo:=@List.length_append
abbrev aIo:=@List.drop_drop
abbrev aJo:=@List.length_singleton
abbrev aKo:=@List.getD_eq_getElem?_getD
abbrev aLo:=@List.getElem?_append_right
abbrev aMo:=@List.mem_filter
abbrev aNo:=@List.getElem?_eq_getElem
abbrev aOo:=@List.getElem?_append_left
abbrev aPo:=@List.all_eq_true
abbrev aQo:=@Option.bind_eq_some_iff
abbrev aRo:=@List.mem_range
abbrev aSo:=@List.getElem?_map
abbrev aTo:=@Option.map_some
abbrev aUo:=@List.getElem?_toArray
abbrev aVo:=@Nat.zero_add
abbrev aWo:=@List.drop_eq_getElem_cons
abbrev aXo:=@Array.getElem?_eq_getElem
abbrev aYo:=@List.getElem?_eq_none
abbrev aZo:=@Bool.eq_iff_iff
abbrev a0o:=@List.map_nil
abbrev a1o:=@List.length_nil
abbrev a2o:=@List.append_assoc
abbrev a3o:=@Nat.zero_le
abbrev a4o:=@Nat.div_add_mod
abbrev a5o:=@Nat.add_mul
abbrev a6o:=@Nat.mul_comm
abbrev a7o:=@Nat.mul_le_mul_right
abbrev a8o:=@Int.toNat_natCast
abbrev a9o:=@List.set_cons_succ
abbrev aap:=@List.eq_nil_of_length_eq_zero
abbrev abp:=@List.nil_append
abbrev acp:=@List.take_append_drop
abbrev adp:=@List.set_cons_zero
abbrev aep:=@List.take_succ_eq_append_getElem
abbrev afp:=@List.take_of_length_le
abbrev agp:=@List.mem_singleton
abbrev ahp:=@List.eraseIdx_cons_zero
abbrev aip:=@List.eraseIdx_cons_succ
abbrev ajp:=@List.findIdx?_eq_some_iff_getElem
abbrev akp:=@List.findIdx?_eq_none_iff
abbrev alp:=@List.getElem_mem
abbrev amp:=@List.size_toArray
abbrev anp:=@List.length_take
abbrev aop:=@List.drop_zero
abbrev aqp:=@List.take_left'
abbrev arp:=@Nat.mul_one
abbrev asp:=@List.append_nil
abbrev atp:=@List.getElem?_take_of_lt
abbrev aup:=@List.take_succ_cons
abbrev avp:=@List.flatMap_cons
abbrev awp:=@List.foldl_append
abbrev axp:=@List.take_length
abbrev ayp:=@Option.map_eq_some_iff
abbrev azp:=@List.getElem?_set
abbrev aAp:=@List.length_filter_le
abbrev aBp:=@List.filter_cons_of_pos
abbrev aCp:=@List.filter_cons_of_neg
theorem ya (h:A) (s:A->S':=by intro h;(try simp only[decide_eq_true_eq,decide_eq_false_iff_not,Bool.not_eq_true',Bool.not_eq_false']at h);exact h):S':=s h
theorem yb (h:A) (s:A->S':=by intro h;(try simp only[Above]at h);exact h):S':=s h
theorem yc (h:A) (s:A->S':=by intro h;(try simp only[Off,book,aEo,abp,adp,a9o,ne_eq]at h);exact h):S':=s h
theorem yd (h:A) (s:A->S':=by intro h;(try simp only[Off,adp,a9o,ne_eq,and_true]at h);exact h):S':=s h
theorem ye (h:A) (s:A->S':=by intro h;(try simp only[Fr,Gh.lent,Gh.no,Above,and_true,false_or]at h);exact h):S':=s h
theorem yf (h:A) (s:A->S':=by intro h;(try simp only[nH,and_true]at h);exact h):S':=s h
theorem zF (h:P:=by first|(first|(simp only[Off,book,aEo,abp,adp,a9o,ahp,aip,ne_eq,and_true];omega)|(simp[Off]<;>omega))|fail):P:=h
theorem zG (h:P:=by omega):P:=h
theorem zH (h:P:=by first|exact True.intro|(simp only[Over,adp,a9o,ahp,aip,and_true];omega)):P:=h
theorem zI (h:P:=by decide):P:=h
theorem zJ (h:P:=by exact λvals=>X.off rfl (λ_ _=>rfl)):P:=h
theorem zK (h:P:=by exact λvals=>X.val rfl rfl (mv_r rfl) (λ_ _=>rfl)):P:=h
theorem zL (h:P:=by first|(first|(simp only[Over,adp,a9o,ahp,aip,and_true];omega)|(simp[Over]<;>omega))|fail):P:=h
theorem zM (h:P:=by kernel_rfl):P:=h
theorem zN (h:P:=by exact λ_ _ h=>h):P:=h
theorem zO (h:P:=by exact λh=>h):P:=h
theorem zP (h:P:=by exact λcv L' H' hd hP=>X.val rfl rfl (mv_r rfl) R2):P:=h
theorem zQ (h:P:=by simp only[Above,and_true];omega):P:=h
theorem zS (h:P:=by simp):P:=h
theorem zT (h:P:=by exact λvals=>X.val rfl rfl (ldW_r (i:=0) rfl isAgg3 rfl rfl) (λ_ _=>rfl)):P:=h
theorem zU (h:P:=by simp only[Over,and_true];(repeat' apply And.intro);all_goals first|omega|exact True.intro):P:=h
theorem zW (h:P:=by exact λvals=>X.val rfl rfl (fld_r underlying359 rfl sizeOf3 rfl) (λ_ _=>rfl)):P:=h
theorem zX (h:P:=by simp only[Off,adp,a9o,ne_eq,and_true];exact⟨by omega,by omega,by omega,by omega,by omega,by omega,by omega,by omega⟩):P:=h
theorem zZ (h:P:=by assumption):P:=h
theorem z1 (h:P:=by exact λvals=>X.val rfl rfl (pkF_r rfl rfl) (λ_ _=>rfl)):P:=h
theorem z2 (h:P:=by dsimp only;omega):P:=h
theorem z6 (h:P:=by first|exact True.intro|(simp only[Over,and_true];omega)):P:=h
theorem z7 (h:P:=by simp only[Off,adp,a9o,ne_eq,and_true];omega):P:=h
theorem z8 (h:P:=by first|exact True.intro|(simp only[Off,adp,a9o,ahp,aip,ne_eq,and_true];omega)):P:=h
theorem zab (h:P:=by simp only[Off,adp,a9o,and_true];omega):P:=h
theorem zbb (h:P:=by exact λvals=>X.val rfl rfl (fld_r underlying62 rfl sizeOf3 rfl) (λ_ _=>rfl)):P:=h
theorem zcb (h:P:=by exact λcv L' H' hd hP=>X.val rfl rfl (fld_r underlying102 rfl sizeOf3 rfl) R2):P:=h
theorem zdb (h:P:=by exact λvals=>X.val rfl rfl (ldW_r (i:=0) rfl isAgg205 rfl rfl) (λ_ _=>rfl)):P:=h
theorem zeb (h:P:=by rw[show fmdB c.chs=false by assumption];decide):P:=h
theorem zfb (h:P:=by exact λvals=>X.val rfl rfl (pkT_r rfl rfl) (λ_ _=>rfl)):P:=h
theorem zgb (h:P:=by simp only[Over,adp,a9o,and_true];(repeat' apply And.intro);all_goals first|omega|exact True.intro):P:=h
theorem zhb (h:P:=by exact λcv L' H' hd hP=>ni call108 rfl rfl (λW hS _=>nzb _ W) (λ_=>rfl)):P:=h
theorem zib (h:P:=by exact λvals=>X.val rfl rfl (fld_r underlying146 rfl sizeOf56 rfl) (λ_ _=>rfl)):P:=h
theorem zjb (h:P:=by simp only[Off,and_true];(repeat' apply And.intro);all_goals first|omega|exact True.intro):P:=h
theorem zkb (h:P:=by first|(simp;done)|(simp;omega)):P:=h
theorem zlb (h:P:=by exact λcv L' H' hd hP=>X.val rfl rfl (fld_r underlying102 rfl sizeOf98 rfl) R2):P:=h
theorem zmb (h:P:=by simp only[Over,and_true];omega):P:=h
theorem znb (h:P:=by exact λvals=>X.val rfl rfl (fld_r underlying186 rfl sizeOf3 rfl) (λ_ _=>rfl)):P:=h
theorem zob (h:P:=by first|rfl|(rw[aZo];first|(simp;omega)|simp)):P:=h
theorem zpb (h:P:=by simp[Act.put,hD]):P:=h
theorem zqb (h:P:=by rw[hN'];exact nL hN):P:=h
theorem zrb (h:P:=by simp[Act.put,hN']):P:=h
theorem zsb (h:P:=by simp only[Off,book,aEo,abp,ne_eq,and_true];omega):P:=h
theorem ztb (h:P:=by exact λcv L' H' hd hP=>X.val rfl rfl (fld_r underlying54 rfl sizeOf3 rfl) R2):P:=h
theorem zub (h:P:=by first|rfl|simp[book,nAb,Value.cells]):P:=h
theorem zvb (h:P:=by simp only[Off,adp,a9o,ahp,aip,ne_eq,and_true];omega):P:=h
theorem zwb (h:P:=by simp_all):P:=h
theorem zxb (h:P:=by simp only[Off,ne,book,aEo,abp,adp,a9o,ahp,aip,ne_eq,and_true];omega):P:=h
theorem zyb (h:P:=by simp only[ny];omega):P:=h
theorem zzb (h:P:=by exact λcv L' H' hd hP=>X.val rfl rfl (fld_r underlying149 rfl sizeOf147 rfl) R2):P:=h
theorem zAb (h:P:=by exact λcv L' H' hd hP=>X.val rfl rfl (fld_r underlying62 rfl sizeOf60 rfl) R2):P:=h
theorem zBb (h:P:=by exact λcv L' H' hd hP=>X.val rfl rfl (fld_r underlying62 rfl sizeOf57 rfl) R2):P:=h
theorem zCb (h:P:=by exact λvals=>X.val rfl rfl (addV_r rfl rfl) (λ_ _=>rfl)):P:=h
theorem zDb (h:P:=by simp only[aHo,axo,a1o];omega):P:=h
theorem zEb (h:P:=by simp only[Off,and_true];omega):P:=h
theorem zFb (h:P:=by show itG hM (hI (cntL Z ls f (cs.take (j+1))))=_;rw[n3c hc hcnt]):P:=h
theorem zGb (h:P:=by simp;omega):P:=h
theorem zHb (h:P:=by exact λvals=>ni (v:=.int .i64 e) call98 rfl rfl (λW hS _=>by rw[<-he];exact nD _ W) (λ_=>rfl)):P:=h
theorem zIb (h:P:=by exact λvals=>X.val rfl rfl (fld_r underlying56 rfl sizeOf3 rfl) (λ_ _=>rfl)):P:=h
theorem zJb (h:P:=by exact λcv L' H' hd hP=>X.val rfl rfl (fld_r underlying102 rfl sizeOf54 rfl) R2):P:=h
theorem zKb (h:P:=by exact λcv L' H' hd hP=>X.val rfl rfl (fld_r underlying229 rfl sizeOf3 rfl) R2):P:=h
theorem zLb (h:P:=by exact λvals=>X.val rfl rfl (xorV_r rfl rfl) (λ_ _=>rfl)):P:=h
theorem zMb (h:P:=by exact λvals=>ni call162 rfl rfl (λW hS _=>by have h9:=nnd x.dev W;rw[decide_eq_true (Classical.not_not.1 h1)]at h9;exact h9) (λ_=>rfl)):P:=h
theorem zNb (h:P:=by simp only[Off,adp,a9o,ne_eq,and_true];exact⟨by omega,by omega,ho42.1,ho42.2.1,ho42.2.2.1,ho42.2.2.2.1,ho42.2.2.2.2.1,ho42.2.2.2.2.2.1⟩):P:=h
theorem zOb (h:P:=by simp only[Off,ne,book,bxD,aEo,abp,asp,a2o,adp,a9o,ne_eq,and_true];(repeat' apply And.intro);all_goals first|omega|exact True.intro):P:=h
theorem zPb (h:P:=by exact λvals=>X.val rfl rfl (RV.re (v':=.bool false) (neqB_r underlying4 rfl rfl) (congrArg Value.bool zmd)) (λ_ _=>rfl)):P:=h
theorem zQb (h:P:=by simp only[Over,nY,book,bxD,aEo,abp,asp,adp,a9o,and_true];(repeat' apply And.intro);all_goals first|omega|exact True.intro):P:=h
theorem zRb (h:P:=by exact λcv L' H' hd hP=>X.val rfl rfl (RV.re (v':=.bool false) (notB_r rfl) rfl) R2):P:=h
theorem zSb (h:P:=by first|(unfold fw23;rw[hab,haw,aZo];simp_all<;>omega)|fail):P:=h
theorem zTb (h:P:=by exact λvals=>X.val rfl rfl (ldW_r (i:=0) rfl isAgg4 rfl rfl) (λ_ _=>rfl)):P:=h
theorem zUb (h:P:=by exact λcv L' H' hd hP=>X.val rfl rfl (fld_r underlying102 rfl sizeOf100 rfl) R2):P:=h
theorem zVb (h:P:=by exact λcv L' H' hd hP=>X.val rfl rfl (fld_r underlying102 rfl sizeOf99 rfl) R2):P:=h
theorem zWb (h:P:=by rw[he];omega):P:=h
theorem zXb (h:P:=by unfold numB;rw[aZo];simp;omega):P:=h
theorem zYb (h:P:=by have:=hneww _ e;dsimp only at this;simp only[Off,adp,and_true];omega):P:=h
theorem zZb (h:P:=by simp only[Off,adp,and_true];omega):P:=h
theorem z0b (h:P:=by exact λcv L' H' _ _ hP=>X.val rfl rfl (mv_r rfl) R2):P:=h
theorem z1b (h:P:=by rw[hY,<-hN];exact hall):P:=h
theorem z2b (h:P:=by simpa using h):P:=h
theorem z3b (h:P:=by exact λcv L' H' hd hP=>X.off rfl R2):P:=h
theorem z4b (h:P:=by simp only[Over,adp,and_true];(repeat' apply And.intro);all_goals first|omega|exact True.intro):P:=h
theorem z5b (h:P:=by simp only[adp,a9o,aEo,abp,asp,Over];exact⟨by omega,by omega,Rw.over (Rw.ge_of hrf A2)⟩):P:=h
theorem z6b (h:P:=by simp only[Over,book,aEo,abp,and_true];omega):P:=h
theorem z7b (h:P:=by simp only[aAo,axo,a1o];omega):P:=h
theorem z8b (h:P:=by simp only[axo,a1o];omega):P:=h
theorem z9b (h:P:=by exact λvals=>X.val rfl rfl (gtr_r rfl rfl) (λ_ _=>rfl)):P:=h
theorem zac (h:P:=by simp only[afo,a0o,aeo,aCo,or_false];omega):P:=h
theorem zbc (h:P:=by rw[asp];exact List.perm_append_comm):P:=h
theorem zcc (h:P:=by exact λvals=>X.val rfl rfl (RV.re (v':=.bool false) (notB_r rfl) rfl) (λ_ _=>rfl)):P:=h
theorem zdc (h:P:=by simpa using hl):P:=h
theorem zec (h:P:=by exact λvals=>X.val rfl rfl (nilC_r rfl) (λ_ _=>rfl)):P:=h
theorem zfc (h:P:=by exact λcv L' H' hd hP=>X.val rfl rfl (pkF_r rfl rfl) R2):P:=h
theorem zgc (h:P:=by exact λcv L' H' hd hP=>X.val rfl rfl (bldS_r underlying104 zeroValue104 (PlF.c sizeOf3 (PlF.c sizeOf102 (PlF.c sizeOf43 (PlF.c sizeOf3 (PlF.c sizeOf62 (PlF.n)))))) rfl rfl) R2):P:=h
theorem zhc (h:P:=by rw[<-hr1,<-hv1]):P:=h
theorem zic (h:P:=by simp only[Over,adp,a9o,and_true];omega):P:=h
theorem zjc (h:P:=by simp[book]):P:=h
theorem zkc (h:P:=by exact λvals=>X.val rfl rfl (fld_r underlying60 rfl sizeOf58 rfl) (λ_ _=>rfl)):P:=h
theorem zlc (h:P:=by exact λvals=>X.val rfl rfl (fld_r underlying56 rfl sizeOf51 rfl) (λ_ _=>rfl)):P:=h
theorem zmc (h:P:=by exact λvals=>X.val rfl rfl (fld_r underlying71 rfl sizeOf4 rfl) (λ_ _=>rfl)):P:=h
theorem znc (h:P:=by exact λcv L' H' hd hP=>X.val rfl rfl (fld_r underlying102 rfl sizeOf32 rfl) R2):P:=h
theorem zoc (h:P:=by rw[hY];exact hr0Y):P:=h
theorem zpc (h:P:=by cases h):P:=h
theorem zqc (h:P:=by simp[Rw.hp]):P:=h
theorem zrc (h:P:=by simp only[Off,adp,a9o,ne_eq,and_true];exact⟨by omega,ho52.1,ho52.2.1,ho52.2.2.1,ho52.2.2.2.1,ho52.2.2.2.2.1,ho52.2.2.2.2.2.1,ho52.2.2.2.2.2.2.1⟩):P:=h
theorem zsc (h:P:=by simp only[Off,ne_eq,and_true];omega):P:=h
theorem ztc (h:P:=by show q-1<q;omega):P:=h
theorem zuc (h:P:=by have:=hnewn _ e;dsimp only at this;simp only[Off,adp,and_true];omega):P:=h
theorem zvc (h:P:=by exact λvals=>X.val rfl rfl (RV.re (v':=.slice (some ⟨bl,ol,none⟩) gs.length c2) (ldW_r (i:=3) rfl isAgg41 rfl rfl) (rfl)) (λ_ _=>rfl)):P:=h
theorem zwc (h:P:=by simp only[adp,a9o,aEo,abp];rfl):P:=h
theorem zxc (h:P:=by unfold n0d;simp only[<-hek];rw[aZo];first|(simp;omega)|simp):P:=h
theorem zyc (h:P:=by obtain⟨ta,tc,wr,r8,rfl,rfl,rfl,rfl,rfl,rfl,rfl,hsr,htr,hzr,hrf8,hfit8,hge8⟩:=hP;exact X.val rfl rfl (ext_r rfl rfl) R2):P:=h
theorem zzc (h:P:=by simpa[Nat.blt]using Nat.ble_eq_true_of_le hi):P:=h
theorem zAc (h:P:=by obtain⟨ta,tc,wr,r8,rfl,rfl,rfl,rfl,rfl,rfl,hsr,htr,hzr,hrf8,hfit8,hge8⟩:=hP;exact X.val rfl rfl (ext_r rfl rfl) R2):P:=h
theorem zBc (h:P:=by simp only[adp,a9o,Over,and_true];omega):P:=h
theorem zCc (h:P:=by obtain⟨ta,tc,wr,r8,rfl,rfl,rfl,rfl,rfl,hsr,htr,hzr,hrf8,hfit8,hge8⟩:=hP;exact X.val rfl rfl (ext_r rfl rfl) R2):P:=h
theorem zDc (h:P:=by exact λvals=>X.val rfl rfl (andV_r rfl rfl) (λ_ _=>rfl)):P:=h
theorem zEc (h:P:=by simp only[Off,ne,aEo,abp,asp,adp,ne_eq,and_true];(repeat' apply And.intro);all_goals first|omega|exact True.intro):P:=h
theorem zFc (h:P:=by rw[asp];exact Rw.over (Rw.ge_of hrf A0)):P:=h
theorem zGc (h:P:=by simpa using h2):P:=h
theorem zHc (h:P:=by simp only[adp,Over,and_true];omega):P:=h
theorem zIc (h:P:=by rintro pre Hc rfl;rfl):P:=h
theorem zJc (h:P:=by simp only[azo];exact .inr (.inl hp)):P:=h
theorem zKc (h:P:=by first|(first|omega|(unfold cmpI;(repeat' split)<;>omega))|fail):P:=h
theorem zLc (h:P:=by rw[hl];exact ho):P:=h
theorem zMc (h:P:=by simpa using hi):P:=h
theorem zNc (h:P:=by simp[Gh.no]):P:=h
theorem zOc (h:P:=by show Value.slice rx.a3 rx.n3 rx.c3=_;rw[hpg,hgn]):P:=h
theorem zPc (h:P:=by intro k hk hx;simp at hx):P:=h
theorem zQc (h:P:=by rw[show(Value.agg (outN (stN n m (nBlk n)) i)).cells=outN (stN n m (nBlk n)) i from rfl,outN,nZ]):P:=h
theorem zRc (h:P:=by first|(rw[nvd hao];simp_all<;>omega)|fail):P:=h
theorem zSc (h:P:=by exact λvals=>X.val rfl rfl (ldWAw_r (i:=0) rfl isAgg149 sizeOf149 rfl rfl) (λ_ _=>rfl)):P:=h
theorem zTc (h:P:=by exact λcv L' H' hd hP=>X.val rfl rfl (RV.re (v':=.bool false) (neqI_r rfl rfl) rfl) R2):P:=h
theorem zUc (h:P:=by simpa using hk):P:=h
theorem zVc (h:P:=by simp only[Off,ne,book,aEo,abp,asp,a2o,adp,a9o,ahp,aip,ne_eq,and_true];(repeat' apply And.intro);all_goals first|omega|exact True.intro|exact Rw.off_ge hge8 zG):P:=h
theorem zWc (h:P:=by simp only[Off,ne,book,aEo,abp,asp,a2o,adp,a9o,ahp,aip,ne_eq,and_true];(repeat' apply And.intro);all_goals first|omega|exact True.intro|exact Rw.off_ge hrge zG):P:=h
theorem zXc (h:P:=by exact λvals=>X.val rfl rfl (idxA_r underlying207 sizeOf205 rfl rfl zG zG) (λ_ _=>rfl)):P:=h
theorem zYc (h:P:=by exact λvals=>X.val rfl rfl (RV.re (v':=.bool false) (lss_r rfl rfl) (congrArg Value.bool (decide_eq_false zG))) (λ_ _=>rfl)):P:=h
theorem zZc (h:P:=by exact λvals=>X.val rfl rfl (RV.re (v':=.bool false) (gtr_r rfl rfl) (congrArg Value.bool (decide_eq_false zG))) (λ_ _=>rfl)):P:=h
theorem z0c (h:P:=by first|(intro p hp;simp only[aeo,aCo,or_false]at hp;rcases hp with rfl|rfl|rfl<;>exact .inl zS)|fail):P:=h
theorem z1c (h:P:=by exact λvals=>X.val rfl rfl (RV.re (v':=.bool true) (gtr_r rfl rfl) (congrArg Value.bool (decide_eq_true zG))) (λ_ _=>rfl)):P:=h
theorem z2c (h:P:=by simp only[Over,nY,aEo,abp,asp,adp,and_true];(repeat' apply And.intro);all_goals first|omega|exact True.intro|exact Rw.over (Rw.ge_mono hrge zG)):P:=h
theorem z3c (h:P:=by unfold fw23;rw[nQb (f:=(λx:We=>decide (x.w.body.length<=200))) hy (decide_eq_false zG),Bool.and_false];rfl):P:=h
theorem z4c (h:P:=by simp only[Off,ne,aEo,abp,asp,adp,and_true];(repeat' apply And.intro);all_goals first|omega|exact True.intro|exact Rw.off_ge hrge zG):P:=h
theorem z5c (h:P:=by exact λvals=>X.val rfl rfl (subI_r rfl rfl zG zG) (λ_ _=>rfl)):P:=h
theorem z6c (h:P:=by simp only[Off,ne,aEo,abp,asp,and_true];(repeat' apply And.intro);all_goals first|omega|exact True.intro|exact Rw.off_ge hrge zG):P:=h
theorem z7c (h:P:=by unfold fw23;rw[nQb (f:=(λx:Bx=>decide (x.w.body.length<=200))) hy (decide_eq_false zG)];rfl):P:=h
theorem z8c (h:P:=by exact λvals=>X.val rfl rfl (ldR_r isAgg3 rfl A1 hb3 hm3 zF rfl) (λ_ _=>rfl)):P:=h
theorem z9c (h:P:=by exact λvals=>X.val rfl rfl (idxA_r underlying268 sizeOf205 rfl rfl zG zG) (λ_ _=>rfl)):P:=h
theorem zad (h:P:=by first|exact(decide_eq_true (nlg zG (λi x y hi=>hto i x y zG))).symm|exact(decide_eq_false (n8f hx hy zwb)).symm|exact(decide_eq_false (λe=>by have:=congrArg List.length e;simp at this;omega)).symm):P:=h
theorem zbd (h:P:=by exact λvals=>X.val rfl rfl (ldR_r (v:=.int .i64 y.at_) isAgg3 rfl A2 hcs zO zab (by have:=nQ (i:=(j:Int)-1) hel0 hy zG 0 zI;simpa[ndA]using this)) (λ_ _=>rfl)):P:=h
theorem zcd (h:P:=by obtain⟨a7,c7,w7,rfl,rfl,rfl,hsl7⟩:=hP;exact ni call159 rfl rfl (λW hS _=>by have h9:=nUc G.g.ms hml W.heap.size G.ma G.mc W (abo _) (hG.ms.up (aco hN (hS.links w A2).size) (hS.same A2 hN zN trivial)) (memL G.g.ns) a7 c7 (hsl7.up (hS.links w7 A0).size (hS.same A0 (abo _) zN trivial));rw[decide_eq_false h1]at h9;exact h9) (λ_=>rfl)):P:=h
theorem zdd (h:P:=by obtain⟨a7,c7,w7,rfl,rfl,rfl,hsl7⟩:=hP;exact ni call159 rfl rfl (λW hS _=>by have h9:=nUc G.g.ms hml W.heap.size G.ma G.mc W (abo _) (hG.ms.up (aco hN (hS.links w A2).size) (hS.same A2 hN zN trivial)) (memL G.g.ns) a7 c7 (hsl7.up (hS.links w7 A0).size (hS.same A0 (abo _) zN trivial));rw[decide_eq_true h1]at h9;exact h9) (λ_=>rfl)):P:=h
theorem zed (h:P:=by first|exact n2d zG|exact n7e hx hy zZ|exact n7d zG hto zG):P:=h
theorem zfd (h:P:=by exact λvals=>X.val rfl rfl (RV.re (v':=.slice (some ⟨b1,off1,none⟩) ls.length cp) (ldR_r isAgg73 rfl A0 hb2 hm2 zF rfl) (rfl)) (λ_ _=>rfl)):P:=h
theorem zgd (h:P:=by exact λvals=>X.val rfl rfl (RV.re (v':=.slice (some ⟨bo,oo,none⟩) ns.length cp) (ldR_r isAgg58 rfl A1 hb1 hm1 zF rfl) (rfl)) (λ_ _=>rfl)):P:=h
theorem zhd (h:P:=by have:=nF (enc:=λx=>(encZ x).toArray) (n:=1) hela hx2 rfl zI;simpa[encZ]using this):P:=h
theorem zid (h:P:=by have:=nF (enc:=λx=>(encZ x).toArray) (n:=1) helq hy rfl zI;simpa[encZ]using this):P:=h
theorem zjd (h:P:=by exact λcv L' H' hd hP=>X.val rfl rfl (idxS_r underlying73 sizeOf71 rfl rfl zG zG) R2):P:=h
theorem zkd (h:P:=by exact λvals=>X.val rfl rfl (RV.re (v':=.bool true) (eqlI_r rfl rfl) (congrArg Value.bool (decide_eq_true zG))) (λ_ _=>rfl)):P:=h
theorem zld (h:P:=by exact λvals=>X.val rfl rfl (RV.re (v':=.bool true) (lss_r rfl rfl) (congrArg Value.bool (decide_eq_true zG))) (λ_ _=>rfl)):P:=h
theorem zmd (h:P:=by simpa using h1):P:=h
theorem znd (h:P:=by exact λvals=>X.val rfl rfl (RV.re (v':=.slice (some ⟨bo,oo,none⟩) c.wes.length c.wc) (ldR_r isAgg100 rfl A0 hb1 hm1 zF rfl) (congrArg (λq=>Value.slice q c.wes.length c.wc) hpe)) (λ_ _=>rfl)):P:=h
theorem zod (h:P:=by simp only[Off,ne,book,aEo,abp,asp,a2o,adp,a9o,ahp,aip,ne_eq,and_true];(repeat' apply And.intro);all_goals first|omega|exact True.intro|exact Rw.off_ge hrge5 zG|exact Rw.off_ge hge27 zG):P:=h
theorem zpd (h:P:=by simp only[Over,nY,aEo,abp,asp,adp,and_true];(repeat' apply And.intro);all_goals first|omega|exact True.intro|exact Rw.over (Rw.ge_mono hrge1 zG)|exact Rw.over (Rw.ge_mono hrge2 zG)):P:=h
theorem zqd (h:P:=by exact λvals=>X.val rfl rfl (idxS_r underlying58 sizeOf359 rfl rfl zG zG) (λ_ _=>rfl)):P:=h
theorem zrd (h:P:=by exact λvals=>X.val rfl rfl (idxS_r underlying73 sizeOf71 rfl rfl zG zG) (λ_ _=>rfl)):P:=h
theorem zsd (h:P:=by exact λvals=>X.val rfl rfl (idxS_r underlying41 sizeOf62 rfl rfl zG zG) (λ_ _=>rfl)):P:=h
theorem ztd (h:P:=by exact λvals=>X.val rfl rfl (ldR_r (v:=.int .i64 y.dev) isAgg3 rfl A1 hcs zO zab (by have:=nQ (i:=(j:Int)-1) hel0 hy zG 0 zI;simpa[weA]using this)) (λ_ _=>rfl)):P:=h
theorem zud (h:P:=by simp only[Off,ne,book,aEo,abp,asp,a2o,adp,a9o,ahp,aip,ne_eq,and_true];(repeat' apply And.intro);all_goals first|omega|exact True.intro|exact Rw.off_ge hge15 zG):P:=h
theorem zvd (h:P:=by exact λcv L' H' hd hP=>X.val rfl rfl (cvtU_r underlying3 underlying210 rfl zG zG) R2):P:=h
theorem zwd (h:P:=by exact λvals=>X.val rfl rfl (RV.re (v':=.bool true) (ldR_r (v:=.bool z.gone) isAgg4 rfl A0 hcs1 (hN0 b1 hbl1) z8 (nQ hel1 hz hix 4 zI)) (by rw[hgo])) (λ_ _=>rfl)):P:=h
theorem zxd (h:P:=by have h2:=(hS.links w3 A0).size;rw[hB.block b3 zG];exact hS.old A0 hb3 hm3 trivial):P:=h
theorem zyd (h:P:=by exact λvals=>ni call47 rfl rfl (λW hS _=>nAf hZ c hcg N W (aco hN (hS.links w A5).size) (hC.up (abo _) (hS.same A5 hN zN zH)) (hg.old hS A5 zN zH)) (λ_=>rfl)):P:=h
theorem zzd (h:P:=by simp only[Over,nY,aEo,abp,asp,adp,and_true];(repeat' apply And.intro);all_goals first|omega|exact True.intro|exact Rw.over (Rw.ge_mono hrge8 zG)):P:=h
theorem zAd (h:P:=by simp only[Off,ne,aEo,abp,asp,and_true];(repeat' apply And.intro);all_goals first|omega|exact True.intro|exact Rw.off_ge hge15 zG):P:=h
theorem zBd (h:P:=by exact λvals=>X.val rfl rfl (RV.re (v':=.bool false) (eqlI_r rfl rfl) (congrArg Value.bool (decide_eq_false zG))) (λ_ _=>rfl)):P:=h
theorem zDd (h:P:=by exact λvals=>X.val rfl rfl (RV.re (v':=.bool false) (leq_r rfl rfl) (congrArg Value.bool (decide_eq_false zG))) (λ_ _=>rfl)):P:=h
theorem zEd (h:P:=by exact λvals=>X.val rfl rfl (RV.re (v':=.agg (cmA c)) (ldRAw_r isAgg102 sizeOf102 rfl A3 hb3 hm3 zF rfl) (rfl)) (λ_ _=>rfl)):P:=h
theorem zFd (h:P:=by exact λcv L' H' hd hP=>X.val rfl rfl (RV.re (v':=.bool false) (lss_r rfl rfl) (congrArg Value.bool (decide_eq_false zG))) R2):P:=h
theorem zGd (h:P:=by exact λvals=>X.val rfl rfl (RV.re (v':=.bool false) (neqI_r rfl rfl) (congrArg Value.bool zGb)) (λ_ _=>rfl)):P:=h
theorem zHd (h:P:=by exact λvals=>X.val rfl rfl (RV.re (v':=.bool true) (neqI_r rfl rfl) (congrArg Value.bool zGb)) (λ_ _=>rfl)):P:=h
theorem zId (h:P:=by by_cases h9:cp=i2;(left;apply aap;rw[aFo];omega);(right;rw[if_neg h9,anp,Nat.min_eq_left zG,aVo])):P:=h
theorem zJd (h:P:=by have:=nQ helg hgg rfl 36 zI;simpa[gnA]using this):P:=h
theorem zKd (h:P:=by rw[hB.block q.2 zG];exact hS.old A0 hq4 zO zEb):P:=h
theorem zLd (h:P:=by rw[hB.block q.1 zG];exact hS.old A0 hq3 zO zEb):P:=h
theorem zMd (h:P:=by intro p hp;simp at hp;subst hp;exact .inl zS):P:=h
theorem zNd (h:P:=by exact λvals=>X.val rfl rfl (idxS_r underlying100 sizeOf186 rfl rfl zG zG) (λ_ _=>rfl)):P:=h
theorem zOd (h:P:=by exact λvals=>X.val rfl rfl (idxA_r underlying264 sizeOf202 rfl rfl zG zG) (λ_ _=>rfl)):P:=h
theorem zPd (h:P:=by unfold fw24;rw[hall,decide_eq_true zG];rfl):P:=h
theorem zQd (h:P:=by simp only[adp,a9o,aEo,abp,asp,Over];exact⟨by omega,Rw.over (Rw.ge_of hrf A1)⟩):P:=h
theorem zRd (h:P:=by unfold fw24;rw[nQb hc zwb,Bool.and_false]):P:=h
theorem zSd (h:P:=by simp only[Off,adp,ne_eq,and_true];omega):P:=h
theorem zY (h:P:=by exact rfl):P:=h
theorem zVas (h:P:=by assumption):P:=h
theorem zVisAgg (h:P:=by first|(with_reducible exact Tryz.isAgg3)|(with_reducible exact Tryz.isAgg4)|(with_reducible exact Tryz.isAgg9)|(with_reducible exact Tryz.isAgg22)|(with_reducible exact Tryz.isAgg23)|(with_reducible exact Tryz.isAgg27)|(with_reducible exact Tryz.isAgg28)|(with_reducible exact Tryz.isAgg29)|(with_reducible exact Tryz.isAgg32)|(with_reducible exact Tryz.isAgg41)|(with_reducible exact Tryz.isAgg43)|(with_reducible exact Tryz.isAgg52)|(with_reducible exact Tryz.isAgg54)|(with_reducible exact Tryz.isAgg57)|(with_reducible exact Tryz.isAgg58)|(with_reducible exact Tryz.isAgg60)|(with_reducible exact Tryz.isAgg62)|(with_reducible exact Tryz.isAgg67)|(with_reducible exact Tryz.isAgg88)|(with_reducible exact Tryz.isAgg90)|(with_reducible exact Tryz.isAgg95)|(with_reducible exact Tryz.isAgg98)|(with_reducible exact Tryz.isAgg99)|(with_reducible exact Tryz.isAgg100)|(with_reducible exact Tryz.isAgg102)|(with_reducible exact Tryz.isAgg111)|(with_reducible exact Tryz.isAgg147)|(with_reducible exact Tryz.isAgg149)|(with_reducible exact Tryz.isAgg184)|(with_reducible exact Tryz.isAgg186)|(with_reducible exact Tryz.isAgg203)|(with_reducible exact Tryz.isAgg205)|(with_reducible exact Tryz.isAgg207)|(with_reducible exact Tryz.isAgg210)|(with_reducible exact Tryz.isAgg218)|(with_reducible exact Tryz.isAgg229)|(with_reducible exact Tryz.isAgg248)|(with_reducible exact Tryz.isAgg309)|(with_reducible exact Tryz.isAgg404)):P:=h
theorem zVmem (h:P:=by first|exact A0|exact A1|exact A2|exact A3|exact A4|exact A5|exact A6|exact A7|exact A8|exact A9):P:=h
theorem zVoff (h:P:=by first|exact trivial|exact zF):P:=h
theorem zVsizeOf (h:P:=by(try(conv=>arg 2;whnf));first|(with_reducible exact Tryz.sizeOf3)|(with_reducible exact Tryz.sizeOf4)|(with_reducible exact Tryz.sizeOf5)|(with_reducible exact Tryz.sizeOf9)|(with_reducible exact Tryz.sizeOf20)|(with_reducible exact Tryz.sizeOf22)|(with_reducible exact Tryz.sizeOf23)|(with_reducible exact Tryz.sizeOf24)|(with_reducible exact Tryz.sizeOf25)|(with_reducible exact Tryz.sizeOf26)|(with_reducible exact Tryz.sizeOf27)|(with_reducible exact Tryz.sizeOf28)|(with_reducible exact Tryz.sizeOf29)|(with_reducible exact Tryz.sizeOf32)|(with_reducible exact Tryz.sizeOf34)|(with_reducible exact Tryz.sizeOf35)|(with_reducible exact Tryz.sizeOf39)|(with_reducible exact Tryz.sizeOf41)|(with_reducible exact Tryz.sizeOf43)|(with_reducible exact Tryz.sizeOf45)|(with_reducible exact Tryz.sizeOf51)|(with_reducible exact Tryz.sizeOf52)|(with_reducible exact Tryz.sizeOf54)|(with_reducible exact Tryz.sizeOf56)|(with_reducible exact Tryz.sizeOf57)|(with_reducible exact Tryz.sizeOf58)|(with_reducible exact Tryz.sizeOf60)|(with_reducible exact Tryz.sizeOf62)|(with_reducible exact Tryz.sizeOf67)|(with_reducible exact Tryz.sizeOf71)|(with_reducible exact Tryz.sizeOf74)|(with_reducible exact Tryz.sizeOf76)|(with_reducible exact Tryz.sizeOf77)|(with_reducible exact Tryz.sizeOf79)|(with_reducible exact Tryz.sizeOf90)|(with_reducible exact Tryz.sizeOf95)|(with_reducible exact Tryz.sizeOf98)|(with_reducible exact Tryz.sizeOf99)|(with_reducible exact Tryz.sizeOf100)|(with_reducible exact Tryz.sizeOf102)|(with_reducible exact Tryz.sizeOf104)|(with_reducible exact Tryz.sizeOf109)|(with_reducible exact Tryz.sizeOf111)|(with_reducible exact Tryz.sizeOf133)|(with_reducible exact Tryz.sizeOf138)|(with_reducible exact Tryz.sizeOf146)|(with_reducible exact Tryz.sizeOf147)|(with_reducible exact Tryz.sizeOf149)|(with_reducible exact Tryz.sizeOf174)|(with_reducible exact Tryz.sizeOf176)|(with_reducible exact Tryz.sizeOf178)|(with_reducible exact Tryz.sizeOf180)|(with_reducible exact Tryz.sizeOf182)|(with_reducible exact Tryz.sizeOf184)|(with_reducible exact Tryz.sizeOf186)|(with_reducible exact Tryz.sizeOf200)|(with_reducible exact Tryz.sizeOf202)|(with_reducible exact Tryz.sizeOf203)|(with_reducible exact Tryz.sizeOf205)|(with_reducible exact Tryz.sizeOf207)|(with_reducible exact Tryz.sizeOf210)|(with_reducible exact Tryz.sizeOf218)|(with_reducible exact Tryz.sizeOf229)|(with_reducible exact Tryz.sizeOf248)|(with_reducible exact Tryz.sizeOf322)|(with_reducible exact Tryz.sizeOf359)):P:=h
theorem zVunderlying (h:P:=by first|(with_reducible exact Tryz.underlying3)|(with_reducible exact Tryz.underlying5)|(with_reducible exact Tryz.underlying22)|(with_reducible exact Tryz.underlying23)|(with_reducible exact Tryz.underlying24)|(with_reducible exact Tryz.underlying25)|(with_reducible exact Tryz.underlying26)|(with_reducible exact Tryz.underlying27)|(with_reducible exact Tryz.underlying28)|(with_reducible exact Tryz.underlying29)|(with_reducible exact Tryz.underlying31)|(with_reducible exact Tryz.underlying32)|(with_reducible exact Tryz.underlying34)|(with_reducible exact Tryz.underlying35)|(with_reducible exact Tryz.underlying41)|(with_reducible exact Tryz.underlying43)|(with_reducible exact Tryz.underlying45)|(with_reducible exact Tryz.underlying51)|(with_reducible exact Tryz.underlying52)|(with_reducible exact Tryz.underlying54)|(with_reducible exact Tryz.underlying56)|(with_reducible exact Tryz.underlying57)|(with_reducible exact Tryz.underlying58)|(with_reducible exact Tryz.underlying60)|(with_reducible exact Tryz.underlying62)|(with_reducible exact Tryz.underlying67)|(with_reducible exact Tryz.underlying71)|(with_reducible exact Tryz.underlying73)|(with_reducible exact Tryz.underlying74)|(with_reducible exact Tryz.underlying76)|(with_reducible exact Tryz.underlying77)|(with_reducible exact Tryz.underlying79)|(with_reducible exact Tryz.underlying83)|(with_reducible exact Tryz.underlying95)|(with_reducible exact Tryz.underlying98)|(with_reducible exact Tryz.underlying99)|(with_reducible exact Tryz.underlying100)|(with_reducible exact Tryz.underlying102)|(with_reducible exact Tryz.underlying104)|(with_reducible exact Tryz.underlying146)|(with_reducible exact Tryz.underlying147)|(with_reducible exact Tryz.underlying149)|(with_reducible exact Tryz.underlying173)|(with_reducible exact Tryz.underlying174)|(with_reducible exact Tryz.underlying176)|(with_reducible exact Tryz.underlying178)|(with_reducible exact Tryz.underlying180)|(with_reducible exact Tryz.underlying182)|(with_reducible exact Tryz.underlying184)|(with_reducible exact Tryz.underlying186)|(with_reducible exact Tryz.underlying193)|(with_reducible exact Tryz.underlying198)|(with_reducible exact Tryz.underlying202)|(with_reducible exact Tryz.underlying205)|(with_reducible exact Tryz.underlying207)|(with_reducible exact Tryz.underlying210)|(with_reducible exact Tryz.underlying211)|(with_reducible exact Tryz.underlying218)|(with_reducible exact Tryz.underlying229)|(with_reducible exact Tryz.underlying248)|(with_reducible exact Tryz.underlying261)|(with_reducible exact Tryz.underlying264)|(with_reducible exact Tryz.underlying271)|(with_reducible exact Tryz.underlying322)|(with_reducible exact Tryz.underlying359)):P:=h
theorem zVzeroValue (h:P:=by first|(with_reducible exact Tryz.zeroValue43)|(with_reducible exact Tryz.zeroValue218)|(with_reducible exact Tryz.zeroValue264)|(with_reducible exact Tryz.zeroValue322)):P:=h
theorem zR (h:P:=by repeat(first|exact trivial|refine⟨rfl,?_⟩)):P:=h
theorem zcg (h:P:=by intro cv L' H' hd hP;(rcases cv with _|⟨v1,_|⟨v2,_|⟨_,_⟩⟩⟩<;>try exact False.elim hP);all_goals(first|obtain⟨rfl,rfl⟩:=hP|obtain⟨b6,rfl,rfl,rfl,ha6,hA6⟩:=hP|obtain⟨b6,b7,c7,s7,rfl,rfl,rfl,rfl,ha6,hA6,hf7,hg7,hr7⟩:=hP);all_goals(first|exact X.val rfl rfl (ldR_r isAgg3 rfl A0 hb3 hm3 zF rfl) R2)):P:=h
theorem zch (h:P:=by intro cv L' H' hd hP;(rcases cv with _|⟨v1,_|⟨v2,_|⟨v3,_|⟨_,_⟩⟩⟩⟩<;>try exact False.elim hP);all_goals(first|obtain⟨rfl,rfl⟩:=hP|obtain⟨b6,rfl,rfl,rfl,ha6,hA6⟩:=hP|obtain⟨b6,b7,c7,s7,rfl,rfl,rfl,rfl,ha6,hA6,hf7,hg7,hr7⟩:=hP|obtain⟨b6,b7,c7,s7,b12,c12,s12,rfl,rfl,rfl,rfl,rfl,ha6,hA6,hf7,hg7,hr7,hf12,hg12,hr12⟩:=hP);all_goals(first|exact X.val rfl rfl (ldR_r isAgg9 rfl A0 hb3 hm3 zF rfl) R2)):P:=h
theorem zci (h:P:=by intro cv L' H' hd hP;(rcases cv with _|⟨v1,_|⟨v2,_|⟨_,_⟩⟩⟩<;>try exact False.elim hP);all_goals(first|obtain⟨rfl,rfl⟩:=hP|obtain⟨b9,rfl,rfl,rfl,ha9,hA9⟩:=hP|obtain⟨b9,b10,c10,s10,rfl,rfl,rfl,rfl,ha9,hA9,hf10,hg10,hr10⟩:=hP);all_goals(first|exact X.val rfl rfl (ldR_r isAgg147 rfl A0 hb4 hm4 zF rfl) R2|exact X.val rfl rfl (ldR_r isAgg147 rfl A0 hb4 hm4 trivial rfl) R2)):P:=h
theorem zcj (h:P:=by intro cv L' H' hd hP;(rcases cv with _|⟨v1,_|⟨v2,_|⟨v3,_|⟨v4,_|⟨v5,_|⟨_,_⟩⟩⟩⟩⟩⟩<;>try exact False.elim hP);all_goals(first|obtain⟨rfl,rfl⟩:=hP|obtain⟨bw,bv,w10,rfl,rfl,rfl,rfl,rfl,rfl,rfl,e1,e2,e3,e4,e5,e6,e7⟩:=hP|obtain⟨bw,bv,w10,rfl,rfl,rfl,rfl,rfl,rfl,e1,e2,e3,e4,e5,e6,e7⟩:=hP|obtain⟨bw,bv,w10,rfl,rfl,rfl,rfl,rfl,e1,e2,e3,e4,e5,e6,e7⟩:=hP|obtain⟨bw,bv,w10,rfl,rfl,rfl,rfl,e1,e2,e3,e4,e5,e6,e7⟩:=hP|obtain⟨bw,bv,w10,rfl,rfl,rfl,e1,e2,e3,e4,e5,e6,e7⟩:=hP);all_goals(first|exact X.val rfl rfl (ldR_r isAgg3 rfl A0 hb1 hm1 trivial rfl) R2|exact X.val rfl rfl (ldR_r isAgg3 rfl A1 hb1 hm1 trivial rfl) R2|exact X.val rfl rfl (ldRAw_r isAgg149 sizeOf149 rfl A0 hb1 hm1 trivial rfl) R2|exact X.val rfl rfl (ldRAw_r isAgg149 sizeOf149 rfl A1 hb1 hm1 trivial rfl) R2)):P:=h
theorem zck (h:P:=by intro cv L' H' hd hP;(rcases cv with _|⟨v1,_|⟨_,_⟩⟩<;>try exact False.elim hP);all_goals(first|obtain⟨rfl,rfl⟩:=hP|obtain⟨b7,rfl,rfl,rfl,ha7⟩:=hP);all_goals(first|exact X.val rfl rfl (ldR_r isAgg3 rfl A0 hb5 hm5 trivial rfl) R2|exact X.val rfl rfl (ldR_r isAgg3 rfl A0 hb5 hm5 zF rfl) R2)):P:=h
theorem zcl (h:P:=by intro cv L' H' hd hP;(rcases cv with _|⟨v1,_|⟨_,_⟩⟩<;>try exact False.elim hP);all_goals(first|obtain⟨rfl,rfl⟩:=hP|obtain⟨b23,w23,rfl,rfl,rfl,hb23,ho23,hm23⟩:=hP);all_goals(first|exact X.val rfl rfl (ldW_r (i:=0) rfl isAgg32 rfl rfl) R2|exact X.val rfl rfl (ldR_r isAgg402 rfl A1 hb3 hm3 zWc rfl) R2|exact X.val rfl rfl (ldR_r isAgg402 rfl A2 hb3 hm3 zWc rfl) R2)):P:=h
theorem zcm (h:P:=by intro cv L' H' hd hP;(rcases cv with _|⟨v1,_|⟨_,_⟩⟩<;>try exact False.elim hP);all_goals(first|obtain⟨rfl,rfl⟩:=hP|obtain⟨a7,c7,w7,rfl,rfl,rfl,hsl7⟩:=hP);all_goals(first|exact X.val rfl rfl (ldR_r isAgg57 rfl A0 hb1 hm1 trivial rfl) R2|exact X.val rfl rfl (ldR_r isAgg57 rfl A1 hb1 hm1 trivial rfl) R2|exact X.val rfl rfl (ldRA_r isAgg60 sizeOf60 rfl A0 hb1 hm1 trivial (apo rfl)) R2|exact X.val rfl rfl (ldRA_r isAgg60 sizeOf60 rfl A1 hb1 hm1 trivial (apo rfl)) R2)):P:=h
theorem zcn (h:P:=by intro cv L' H' hd hP;(rcases cv with _|⟨v1,_|⟨v2,_|⟨v3,_|⟨v4,_|⟨_,_⟩⟩⟩⟩⟩<;>try exact False.elim hP);all_goals(first|obtain⟨rfl,rfl⟩:=hP|obtain⟨b1a,rfl,rfl,rfl,hfb1a⟩:=hP|obtain⟨b1a,bn,cn,sn,rfl,rfl,rfl,rfl,rfl,hfb1a,hfn,hcn⟩:=hP|obtain⟨b1a,bn,cn,sn,rfl,rfl,rfl,rfl,hfb1a,hfn,hcn⟩:=hP|obtain⟨b1a,bn,cn,sn,bo1,rfl,rfl,rfl,rfl,rfl,rfl,hfb1a,hfn,hcn,hfo⟩:=hP);all_goals(first|exact X.val rfl rfl (ldW_r (i:=3) rfl isAgg147 rfl rfl) R2|exact X.val rfl rfl (ldW_r (i:=4) rfl isAgg147 rfl rfl) R2|exact X.val rfl rfl (ldW_r (i:=5) rfl isAgg147 rfl rfl) R2|exact X.val rfl rfl (ldW_r (i:=6) rfl isAgg147 rfl rfl) R2|exact X.val rfl rfl (ldW_r (i:=0) rfl isAgg3 rfl rfl) R2|exact X.val rfl rfl (ldW_r (i:=1) rfl isAgg3 rfl rfl) R2|exact X.val rfl rfl (ldW_r (i:=2) rfl isAgg3 rfl rfl) R2|exact X.val rfl rfl (ldW_r (i:=3) rfl isAgg3 rfl rfl) R2)):P:=h
theorem zco (h:P:=by intro cv L' H' hd hP;(rcases cv with _|⟨v1,_|⟨v2,_|⟨v3,_|⟨_,_⟩⟩⟩⟩<;>try exact False.elim hP);all_goals(first|obtain⟨rfl,rfl⟩:=hP|obtain⟨bn,rfl,rfl,rfl,rfl,hfn⟩:=hP|obtain⟨bn,rfl,rfl,rfl,hfn⟩:=hP|obtain⟨bn,bo1,rfl,rfl,rfl,rfl,rfl,hfn,hfo⟩:=hP);all_goals(first|exact X.val rfl rfl (ldW_r (i:=2) rfl isAgg147 rfl rfl) R2|exact X.val rfl rfl (ldW_r (i:=3) rfl isAgg147 rfl rfl) R2|exact X.val rfl rfl (ldW_r (i:=4) rfl isAgg147 rfl rfl) R2|exact X.val rfl rfl (ldW_r (i:=0) rfl isAgg3 rfl rfl) R2|exact X.val rfl rfl (ldW_r (i:=1) rfl isAgg3 rfl rfl) R2|exact X.val rfl rfl (ldW_r (i:=2) rfl isAgg3 rfl rfl) R2|exact X.val rfl rfl (ldW_r (i:=0) rfl isAgg52 rfl rfl) R2|exact X.val rfl rfl (ldW_r (i:=1) rfl isAgg52 rfl rfl) R2|exact X.val rfl rfl (ldW_r (i:=2) rfl isAgg52 rfl rfl) R2|exact ni call109 rfl rfl (λW hS _=>nBb x.w.body N x.w.ba x.w.bc W (aco hN (hS.links w A1).size) (ByAt.up hby (abo _) (λk hk=>(hS.links w A1).block k zG (λhx=>by first|(rcases hx with hx|hx;(exact hx);simp only[ayo,afo,a0o,aEo,abp,asp,azo,aeo,aCo,or_false]at hx;rcases hx with hx|hx|hx|hx|hx<;>first|omega|(have:=hq _ hx;omega)|(have h9:=hfn.not (w:=w) A1;omega)|(have h9:=hfo.not (w:=w) A1;omega))|fail)))) (λ_=>rfl)|exact ni call109 rfl rfl (λW hS _=>nBb x.w.body N x.w.ba x.w.bc W (aco hN (hS.links w A1).size) (ByAt.up hby (abo _) (λk hk=>(hS.links w A1).block k zG (λhx=>by first|(rcases hx with hx|hx;(exact hx);simp only[ayo,afo,a0o,aEo,abp,asp,azo,aeo,aCo,or_false]at hx;rcases hx with hx|hx|hx|hx|hx|hx<;>first|omega|(have:=hq _ hx;omega)|(have h9:=hfn.not (w:=w) A1;omega)|(have h9:=hfo.not (w:=w) A1;omega))|fail)))) (λ_=>rfl)|exact ni call109 rfl rfl (λW hS _=>nBb x.w.body N x.w.ba x.w.bc W (aco hN (hS.links w A1).size) (ByAt.up hby (abo _) (λk hk=>(hS.links w A1).block k zG (λhx=>by first|(rcases hx with hx|hx;(exact hx);simp only[ayo,afo,a0o,aEo,abp,asp,azo,aeo,aCo,or_false]at hx;rcases hx with hx|hx|hx|hx|hx|hx|hx<;>first|omega|(have:=hq _ hx;omega)|(have h9:=hfn.not (w:=w) A1;omega)|(have h9:=hfo.not (w:=w) A1;omega))|fail)))) (λ_=>rfl)|exact X.val rfl rfl (ldW_r (i:=1) rfl isAgg147 rfl rfl) R2)):P:=h
theorem zcp (h:P:=by intro cv L' H' hd hP;(rcases cv with _|⟨v1,_|⟨v2,_|⟨_,_⟩⟩⟩<;>try exact False.elim hP);all_goals(first|obtain⟨rfl,rfl⟩:=hP|obtain⟨r15,rfl,rfl,rfl,rfl,hge15,hfit15⟩:=hP|obtain⟨r15,rfl,rfl,rfl,hge15,hfit15⟩:=hP);all_goals(first|exact X.val rfl rfl (ldR_r isAgg3 rfl A0 hb1 hm1 zud rfl) R2|exact ni call109 rfl rfl (λW hS _=>by have h1:=hS.old A0 hb1 hm1 zAd;have h2:=nBb (dgU c.par) W.heap.size (some ⟨b1,2,none⟩) 32 W (abo _) (.inr ⟨b1,2,rfl,(ago.1 h1).1,SegU.dgo h1 rfl (apo rfl) hfw.bp⟩);rw[nTb]at h2;exact h2) (λ_=>rfl)|exact X.val rfl rfl (ldWAw_r (i:=2) rfl isAgg149 sizeOf149 rfl rfl) R2|exact X.val rfl rfl (ldR_r isAgg32 rfl A0 hb1 hm1 zud rfl) R2|exact X.val rfl rfl (ldWAw_r (i:=1) rfl isAgg149 sizeOf149 rfl rfl) R2|exact X.val rfl rfl (ldWAw_r (i:=0) rfl isAgg149 sizeOf149 rfl rfl) R2|exact ni call109 rfl rfl (λW hS _=>by have h1:=hS.old A0 hb1 hm1 zAd;have h2:=nBb (dgU c.conf) W.heap.size (some ⟨b1,39,none⟩) 32 W (abo _) (.inr ⟨b1,39,rfl,(ago.1 h1).1,SegU.dgo h1 rfl (apo rfl) hfw.bf⟩);rw[nTb]at h2;exact h2) (λ_=>rfl))):P:=h
theorem zcq (h:P:=by intro cv L' H' hd hP;(rcases cv with _|⟨v1,_|⟨_,_⟩⟩<;>try exact False.elim hP);all_goals(first|obtain⟨rfl,rfl⟩:=hP|obtain⟨aw,cw,ww,rfl,rfl,rfl,hslw2,hneww⟩:=hP);all_goals(first|exact X.val rfl rfl (ldR_r isAgg99 rfl A1 hb3 hm3 zF rfl) R2|exact X.val rfl rfl (ldR_r isAgg99 rfl A2 hb3 hm3 zF rfl) R2|exact ni call115 rfl rfl (λW hS _=>by have h9:=nhb c.bxs zG W.heap.size c.ba c.bc W (abo _) (hC.bxs.up (aco hN (hS.links w A3).size) (hS.same A3 hN zN zH)) (nedL G.g c.author c.chs) an cn (hsln.to hS A0 (abo _) (λb off e=>.inr zuc));rw[show eqfB nPb c.bxs (nedL G.g c.author c.chs)=true from hb]at h9;exact h9) (λ_=>rfl)|exact ni call115 rfl rfl (λW hS _=>by have h9:=nhb c.bxs zG W.heap.size c.ba c.bc W (abo _) (hC.bxs.up (aco hN (hS.links w A4).size) (hS.same A4 hN zN zH)) (nedL G.g c.author c.chs) an cn (hsln.to hS A1 (abo _) (λb off e=>.inr zuc));rw[show eqfB nPb c.bxs (nedL G.g c.author c.chs)=true from hb]at h9;exact h9) (λ_=>rfl)|exact X.val rfl rfl (ldR_r isAgg100 rfl A1 hb3 hm3 zF rfl) R2|exact X.val rfl rfl (ldR_r isAgg100 rfl A2 hb3 hm3 zF rfl) R2|exact X.val rfl rfl (ldR_r isAgg3 rfl A1 hb3 hm3 zF rfl) R2|exact X.val rfl rfl (ldR_r isAgg3 rfl A2 hb3 hm3 zF rfl) R2|exact X.val rfl rfl (ldR_r isAgg98 rfl A1 hb3 hm3 zF rfl) R2|exact X.val rfl rfl (ldR_r isAgg98 rfl A2 hb3 hm3 zF rfl) R2)):P:=h
theorem zcr (h:P:=by intro cv L' H' hd hP;(rcases cv with _|⟨v1,_|⟨_,_⟩⟩<;>try exact False.elim hP);all_goals(first|obtain⟨rfl,rfl⟩:=hP|obtain⟨bm,wm,rfl,rfl,rfl,hbm,hgm⟩:=hP);all_goals(first|exact X.val rfl rfl (ldRAw_r isAgg62 sizeOf62 rfl A3 hb2 hm2 zF rfl) R2|exact X.val rfl rfl (ldRAw_r isAgg62 sizeOf62 rfl A4 hb2 hm2 zF rfl) R2|exact X.val rfl rfl (ldR_r isAgg3 rfl A2 hb3 hm3 zF rfl) R2|exact X.val rfl rfl (ldR_r isAgg3 rfl A3 hb3 hm3 zF rfl) R2|exact X.val rfl rfl (ldR_r isAgg98 rfl A2 hb3 hm3 zF rfl) R2|exact X.val rfl rfl (ldR_r isAgg98 rfl A3 hb3 hm3 zF rfl) R2|exact ni call118 rfl rfl (λW hS _=>nNb G N W (aco hN (hS.links w A4).size) (hG.up (abo _) (hS.same A4 hN zN zH)) c.chs zG c.ca c.cc (hC.chs.up (abo _) (hS.same A4 hN zN zH)) c.author (λhm=>nce hps hve0 hm)) (λ_=>rfl)|exact ni call118 rfl rfl (λW hS _=>nNb G N W (aco hN (hS.links w A5).size) (hG.up (abo _) (hS.same A5 hN zN zH)) c.chs zG c.ca c.cc (hC.chs.up (abo _) (hS.same A5 hN zN zH)) c.author (λhm=>nce hps hve0 hm)) (λ_=>rfl)|exact X.val rfl rfl (ldRAw_r isAgg102 sizeOf102 rfl A2 hb3 hm3 zF rfl) R2|exact X.val rfl rfl (ldRAw_r isAgg102 sizeOf102 rfl A3 hb3 hm3 zF rfl) R2|exact X.val rfl rfl (ldRA_r isAgg54 sizeOf54 rfl A2 hb3 hm3 zF (apo rfl)) R2|exact X.val rfl rfl (ldRA_r isAgg54 sizeOf54 rfl A3 hb3 hm3 zF (apo rfl)) R2)):P:=h
theorem zcs (h:P:=by intro cv L' H' hd hP;(rcases cv with _|⟨v1,_|⟨v2,_|⟨v3,_|⟨v4,_|⟨v5,_|⟨_,_⟩⟩⟩⟩⟩⟩<;>try exact False.elim hP);all_goals(first|obtain⟨rfl,rfl⟩:=hP|obtain⟨ta,tc,wr,rfl,rfl,rfl,hsr,htr,hzr⟩:=hP|obtain⟨ta,tc,wr,r8,rfl,rfl,rfl,rfl,rfl,rfl,rfl,hsr,htr,hzr,hrf8,hfit8,hge8⟩:=hP|obtain⟨ta,tc,wr,r8,rfl,rfl,rfl,rfl,rfl,rfl,hsr,htr,hzr,hrf8,hfit8,hge8⟩:=hP|obtain⟨ta,tc,wr,r8,rfl,rfl,rfl,rfl,rfl,hsr,htr,hzr,hrf8,hfit8,hge8⟩:=hP|obtain⟨ta,tc,wr,r8,rfl,rfl,rfl,rfl,hsr,htr,hzr,hrf8,hfit8,hge8⟩:=hP);all_goals(first|exact X.val rfl rfl (ldRAw_r isAgg62 sizeOf62 rfl A4 hb2 hm2 zVc rfl) R2|exact X.val rfl rfl (ldRAw_r isAgg62 sizeOf62 rfl A5 hb2 hm2 zVc rfl) R2|exact X.val rfl rfl (ldR_r isAgg98 rfl A3 hb3 hm3 zVc rfl) R2|exact X.val rfl rfl (ldR_r isAgg98 rfl A4 hb3 hm3 zVc rfl) R2|exact X.val rfl rfl (ldR_r isAgg3 rfl A3 hb3 hm3 zVc rfl) R2|exact X.val rfl rfl (ldR_r isAgg3 rfl A4 hb3 hm3 zVc rfl) R2|exact X.val rfl rfl (ldR_r isAgg32 rfl A3 hb3 hm3 zVc rfl) R2|exact X.val rfl rfl (ldR_r isAgg32 rfl A4 hb3 hm3 zVc rfl) R2)):P:=h
theorem zct (h:P:=by intro cv L' H' hl hd hP;(obtain⟨x3,x4,x8,x9,rfl⟩:=len4 hl;rcases x3 with _|v3<;>rcases x4 with _|v4<;>rcases x8 with _|v8<;>rcases x9 with _|v9<;>try exact False.elim hP);all_goals(first|obtain⟨rfl,rfl⟩:=hP|obtain⟨b26,rfl,rfl,rfl,ha26⟩:=hP|obtain⟨b31,rfl,rfl,rfl,ha31⟩:=hP|obtain⟨b26,b31,rfl,rfl,rfl,rfl,ha26,ha31⟩:=hP|obtain⟨b26,b27,cp27,sp27,rfl,rfl,rfl,rfl,ha26,hf27,hfit27⟩:=hP|obtain⟨b26,b27,cp27,sp27,b31,rfl,rfl,rfl,rfl,rfl,ha26,hf27,hfit27,ha31⟩:=hP|obtain⟨b26,b27,cp27,sp27,b31,b32,cp32,sp32,rfl,rfl,rfl,rfl,rfl,rfl,ha26,hf27,hfit27,ha31,hf32,hfit32⟩:=hP);all_goals(first|exact X.val rfl rfl (ldW_r (i:=3) rfl isAgg35 rfl rfl) R2|exact X.val rfl rfl (ldW_r (i:=4) rfl isAgg35 rfl rfl) R2|exact X.val rfl rfl (ldW_r (i:=5) rfl isAgg35 rfl rfl) R2|exact X.val rfl rfl (ldWAw_r (i:=0) rfl isAgg43 sizeOf43 rfl rfl) R2|exact X.val rfl rfl (ldWAw_r (i:=1) rfl isAgg43 sizeOf43 rfl rfl) R2|exact X.val rfl rfl (ldWAw_r (i:=2) rfl isAgg43 sizeOf43 rfl rfl) R2|exact X.val rfl rfl (ldW_r (i:=3) rfl isAgg32 rfl rfl) R2|exact X.val rfl rfl (ldW_r (i:=4) rfl isAgg32 rfl rfl) R2|exact X.val rfl rfl (ldW_r (i:=5) rfl isAgg32 rfl rfl) R2)):P:=h
theorem zcu (h:P:=by intro cv L' H' hd hP;(rcases cv with _|⟨v1,_|⟨_,_⟩⟩<;>try exact False.elim hP);all_goals(first|obtain⟨rfl,rfl⟩:=hP|obtain⟨b50,rfl,rfl,rfl,ha50⟩:=hP);all_goals(first|exact X.val rfl rfl (ldWAw_r (i:=1) rfl isAgg102 sizeOf102 rfl rfl) R2|exact X.val rfl rfl (ldWAw_r (i:=2) rfl isAgg102 sizeOf102 rfl rfl) R2|exact X.val rfl rfl (ldR_r isAgg35 rfl A1 hb2 hm2 zWc rfl) R2|exact X.val rfl rfl (RV.re (v':=.agg (dg (cmID Z c))) (ldRA_r isAgg43 sizeOf43 rfl A2 hcsq zO z4c (nk helq hx1 rfl)) (congrArg Value.agg (nl helq hx1 rfl))) R2|exact X.val rfl rfl (ldRAw_r isAgg62 sizeOf62 rfl A0 hb3 hm3 zWc rfl) R2|exact X.val rfl rfl (ldW_r (i:=1) rfl isAgg3 rfl rfl) R2|exact X.val rfl rfl (ldW_r (i:=2) rfl isAgg3 rfl rfl) R2|exact ni call130 rfl rfl (λW hS _=>n4l G N W (aco hN (hS.links w A2).size) (hG.up (abo _) (hS.same A2 hN zN z2c)) c.author) (λ_=>rfl)|exact X.val rfl rfl (ldWAw_r (i:=0) rfl isAgg62 sizeOf62 rfl rfl) R2|exact X.val rfl rfl (ldWAw_r (i:=1) rfl isAgg62 sizeOf62 rfl rfl) R2)):P:=h
theorem zcv (h:P:=by intro cv L' H' hl hd hP;(obtain⟨x12,x13,x14,x16,x17,rfl⟩:=len5 hl;rcases x12 with _|v12<;>rcases x13 with _|v13<;>rcases x14 with _|v14<;>rcases x16 with _|v16<;>rcases x17 with _|v17<;>try exact False.elim hP);all_goals(first|obtain⟨rfl,rfl⟩:=hP|obtain⟨b7,rfl,rfl,rfl,ha7⟩:=hP|obtain⟨Xn,w12,rfl,rfl,rfl,rfl,rfl,hX1,hX2,hX4,hX5⟩:=hP|obtain⟨Xn,w12,rfl,rfl,rfl,rfl,hX1,hX2,hX4,hX5⟩:=hP|obtain⟨Xn,w12,rfl,rfl,rfl,hX1,hX2,hX4,hX5⟩:=hP|obtain⟨Xn,w12,b7,rfl,rfl,rfl,rfl,rfl,rfl,rfl,hX1,hX2,hX4,hX5,ha7,hX7⟩:=hP|obtain⟨Xn,w12,b7,rfl,rfl,rfl,rfl,rfl,rfl,hX1,hX2,hX4,hX5,ha7,hX7⟩:=hP|obtain⟨Xn,w12,b7,rfl,rfl,rfl,rfl,rfl,hX1,hX2,hX4,hX5,ha7,hX7⟩:=hP|obtain⟨Xn,w12,b7,rfl,rfl,rfl,rfl,hX1,hX2,hX4,hX5,ha7,hX7⟩:=hP);all_goals(first|exact X.val rfl rfl (ldR_r isAgg3 rfl A0 hb3 hm3 zF rfl) R2|exact X.val rfl rfl (ldR_r isAgg3 rfl A1 hb3 hm3 zF rfl) R2|exact X.val rfl rfl (ldR_r isAgg24 rfl A1 hb2 hm2 zF rfl) R2|exact X.val rfl rfl (ldR_r isAgg24 rfl A2 hb2 hm2 zF rfl) R2|exact X.val rfl rfl (ldR_r isAgg32 rfl A1 hb2 hm2 zF rfl) R2|exact X.val rfl rfl (ldR_r isAgg32 rfl A2 hb2 hm2 zF rfl) R2|exact X.val rfl rfl (ldR_r (v:=.int .i64 (i:Int)) isAgg3 rfl A2 hcsa zO zjb zhd) R2|exact X.val rfl rfl (ldR_r (v:=.int .i64 (i:Int)) isAgg3 rfl A3 hcsa zO zjb zhd) R2|exact X.val rfl rfl (RV.re (v':=.agg (cmA c)) (ldRA_r isAgg102 sizeOf102 rfl A2 hcsl zO zjb (nk hell hc rfl)) (congrArg Value.agg (nl hell hc rfl))) R2|exact X.val rfl rfl (RV.re (v':=.agg (cmA c)) (ldRA_r isAgg102 sizeOf102 rfl A3 hcsl zO zjb (nk hell hc rfl)) (congrArg Value.agg (nl hell hc rfl))) R2)):P:=h
theorem zcw (h:P:=by intro cv L' H' hd hP;(rcases cv with _|⟨v1,_|⟨_,_⟩⟩<;>try exact False.elim hP);all_goals(first|obtain⟨rfl,rfl,rfl⟩:=hP|obtain⟨rfl,rfl⟩:=hP);all_goals(first|exact X.val rfl rfl (ldR_r isAgg32 rfl A2 hb2 hm2 zF rfl) R2|exact X.val rfl rfl (ldR_r (v:=.int .i64 (i:Int)) isAgg3 rfl A3 hcsa zO zjb zhd) R2|exact X.val rfl rfl (ldR_r isAgg24 rfl A2 hb2 hm2 zF rfl) R2|exact X.val rfl rfl (RV.re (v':=.agg (cmA c)) (ldRA_r isAgg102 sizeOf102 rfl A3 hcsl zO zjb (nk hell hc rfl)) (congrArg Value.agg (nl hell hc rfl))) R2|exact X.val rfl rfl (ldRA_r isAgg43 sizeOf43 rfl A1 hb3 hm3 zF (apo rfl)) R2|exact X.val rfl rfl (ldWAw_r (i:=0) rfl isAgg62 sizeOf62 rfl rfl) R2|exact X.val rfl rfl (ldW_r (i:=1) rfl isAgg32 rfl rfl) R2|exact X.val rfl rfl (ldW_r (i:=0) rfl isAgg41 rfl rfl) R2)):P:=h
theorem zcx (h:P:=by intro cv L' H' hl hd hP;(obtain⟨x3,x4,x8,rfl⟩:=len3 hl;rcases x3 with _|v3<;>rcases x4 with _|v4<;>rcases x8 with _|v8<;>try exact False.elim hP);all_goals(first|obtain⟨rfl,rfl⟩:=hP|obtain⟨b15,rfl,rfl,rfl,ha15⟩:=hP|obtain⟨b20,rfl,rfl,rfl,ha20⟩:=hP|obtain⟨b15,b20,rfl,rfl,rfl,rfl,ha15,ha20⟩:=hP|obtain⟨b15,b16,cp16,sp16,rfl,rfl,rfl,rfl,ha15,hf16,hfit16⟩:=hP|obtain⟨b15,b16,cp16,sp16,b20,rfl,rfl,rfl,rfl,rfl,ha15,hf16,hfit16,ha20⟩:=hP);all_goals(first|exact X.val rfl rfl (ldW_r (i:=2) rfl isAgg32 rfl rfl) R2|exact X.val rfl rfl (ldW_r (i:=3) rfl isAgg32 rfl rfl) R2|exact X.val rfl rfl (ldW_r (i:=4) rfl isAgg32 rfl rfl) R2|exact X.val rfl rfl (ldW_r (i:=0) rfl isAgg3 rfl rfl) R2|exact X.val rfl rfl (ldW_r (i:=1) rfl isAgg3 rfl rfl) R2|exact X.val rfl rfl (ldW_r (i:=2) rfl isAgg3 rfl rfl) R2|exact X.val rfl rfl (ldW_r (i:=1) rfl isAgg41 rfl rfl) R2|exact X.val rfl rfl (ldW_r (i:=2) rfl isAgg41 rfl rfl) R2|exact X.val rfl rfl (ldW_r (i:=3) rfl isAgg41 rfl rfl) R2|exact X.val rfl rfl (ldWA_r (i:=0) rfl isAgg62 sizeOf62 rfl (apo rfl)) R2|exact X.val rfl rfl (ldWA_r (i:=1) rfl isAgg62 sizeOf62 rfl (apo rfl)) R2|exact X.val rfl rfl (ldWA_r (i:=2) rfl isAgg62 sizeOf62 rfl (apo rfl)) R2)):P:=h
theorem zcy (h:P:=by intro cv L' H' hl hd hP;(obtain⟨x7,x8,x9,x10,x11,x12,rfl⟩:=len6 hl;rcases x7 with _|v7<;>rcases x8 with _|v8<;>rcases x9 with _|v9<;>rcases x10 with _|v10<;>rcases x11 with _|v11<;>rcases x12 with _|v12<;>try exact False.elim hP);all_goals(first|obtain⟨rfl,rfl⟩:=hP|obtain⟨b7,rfl,rfl,rfl,ha7⟩:=hP|obtain⟨a1,c1,a2,c2,gs,w7,rfl,rfl,rfl,rfl,rfl,rfl,hch,hs2,hn3⟩:=hP|obtain⟨a1,c1,a2,c2,gs,w7,rfl,rfl,rfl,rfl,rfl,hch,hs2,hn3⟩:=hP|obtain⟨a1,c1,a2,c2,gs,w7,rfl,rfl,rfl,rfl,hch,hs2,hn3⟩:=hP|obtain⟨a1,c1,a2,c2,gs,w7,rfl,rfl,rfl,hch,hs2,hn3⟩:=hP|obtain⟨a1,c1,a2,c2,gs,w7,b7,rfl,rfl,rfl,rfl,rfl,rfl,rfl,rfl,hch,hs2,hn3,ha7,ho7⟩:=hP|obtain⟨a1,c1,a2,c2,gs,w7,b7,rfl,rfl,rfl,rfl,rfl,rfl,rfl,hch,hs2,hn3,ha7,ho7⟩:=hP|obtain⟨a1,c1,a2,c2,gs,w7,b7,rfl,rfl,rfl,rfl,rfl,rfl,hch,hs2,hn3,ha7,ho7⟩:=hP|obtain⟨a1,c1,a2,c2,gs,w7,b7,rfl,rfl,rfl,rfl,rfl,hch,hs2,hn3,ha7,ho7⟩:=hP|obtain⟨a1,c1,a2,c2,gs,w7,b7,rfl,rfl,rfl,rfl,hch,hs2,hn3,ha7,ho7⟩:=hP);all_goals(first|exact X.val rfl rfl (ldR_r isAgg22 rfl A2 hb2 hm2 trivial rfl) R2|exact X.val rfl rfl (ldR_r isAgg22 rfl A2 hb2 hm2 zF rfl) R2|exact X.val rfl rfl (ldR_r isAgg22 rfl A3 hb2 hm2 trivial rfl) R2|exact X.val rfl rfl (ldR_r isAgg22 rfl A3 hb2 hm2 zF rfl) R2|exact X.val rfl rfl (RV.re (v':=.agg (foA fo)) (ldRA_r isAgg45 sizeOf45 rfl A3 hcsf zO zjb (nk helf hfo rfl)) (congrArg Value.agg (nl helf hfo rfl))) R2|exact X.val rfl rfl (RV.re (v':=.agg (foA fo)) (ldRA_r isAgg45 sizeOf45 rfl A4 hcsf zO zjb (nk helf hfo rfl)) (congrArg Value.agg (nl helf hfo rfl))) R2|exact X.val rfl rfl (ldR_r isAgg24 rfl A2 hb2 hm2 trivial rfl) R2|exact X.val rfl rfl (ldR_r isAgg24 rfl A2 hb2 hm2 zF rfl) R2|exact X.val rfl rfl (ldR_r isAgg24 rfl A3 hb2 hm2 trivial rfl) R2|exact X.val rfl rfl (ldR_r isAgg24 rfl A3 hb2 hm2 zF rfl) R2)):P:=h
theorem zcz (h:P:=by intro cv L' H' hd hP;(rcases cv with _|⟨v1,_|⟨v2,_|⟨v3,_|⟨_,_⟩⟩⟩⟩<;>try exact False.elim hP);all_goals(first|obtain⟨rfl,rfl⟩:=hP|obtain⟨b26,rfl,rfl,rfl,ha26⟩:=hP|obtain⟨b26,b27,cp27,sp27,rfl,rfl,rfl,rfl,rfl,ha26,hrf27,hfit27,hge27⟩:=hP|obtain⟨b26,b27,cp27,sp27,rfl,rfl,rfl,rfl,ha26,hrf27,hfit27,hge27⟩:=hP);all_goals(first|exact X.val rfl rfl (ldW_r (i:=0) rfl isAgg147 rfl rfl) R2|exact X.val rfl rfl (ldW_r (i:=1) rfl isAgg147 rfl rfl) R2|exact X.val rfl rfl (ldR_r isAgg52 rfl A0 hb1 hm1 zod rfl) R2|exact X.val rfl rfl (ldR_r isAgg3 rfl A0 hb1 hm1 zod rfl) R2)):P:=h
theorem zcA (h:P:=by intro cv L' H' hd hP;(rcases cv with _|⟨v1,_|⟨v2,_|⟨_,_⟩⟩⟩<;>try exact False.elim hP);all_goals(first|obtain⟨rfl,rfl⟩:=hP|obtain⟨b44,w44,rfl,rfl,rfl,rfl,hb44⟩:=hP|obtain⟨b44,w44,rfl,rfl,rfl,hb44⟩:=hP);all_goals(first|exact X.val rfl rfl (ldR_r isAgg32 rfl A0 hb1 hm1 trivial rfl) R2|exact X.val rfl rfl (ldR_r isAgg32 rfl A1 hb1 hm1 trivial rfl) R2)):P:=h
theorem zcB (h:P:=by intro cv L' H' hl hd hP;(obtain⟨x1,x5,x6,x7,rfl⟩:=len4 hl;rcases x1 with _|v1<;>rcases x5 with _|v5<;>rcases x6 with _|v6<;>rcases x7 with _|v7<;>try exact False.elim hP);all_goals(first|obtain⟨rfl,rfl⟩:=hP|obtain⟨b8,rfl,rfl,rfl,ha8⟩:=hP|obtain⟨b9,rfl,rfl,rfl,ha9⟩:=hP|obtain⟨b8,b9,rfl,rfl,rfl,rfl,ha8,ha9⟩:=hP|obtain⟨b20,m20,w20,rfl,rfl,rfl,hm20,hs20,n20⟩:=hP|obtain⟨b20,m20,w20,b8,rfl,rfl,rfl,rfl,hm20,hs20,n20,ha8,n206⟩:=hP|obtain⟨b20,m20,w20,b9,rfl,rfl,rfl,rfl,hm20,hs20,n20,ha9,n207⟩:=hP|obtain⟨b20,m20,w20,b8,b9,rfl,rfl,rfl,rfl,rfl,hm20,hs20,n20,ha8,ha9,n206,n207⟩:=hP|obtain⟨b20,m20,w20,q5,w24,rfl,rfl,rfl,rfl,hm20,hs20,n20,hag,na⟩:=hP|obtain⟨b20,m20,w20,q5,w24,b8,rfl,rfl,rfl,rfl,rfl,hm20,hs20,n20,hag,na,ha8,n206,na6⟩:=hP|obtain⟨b20,m20,w20,q5,w24,b9,rfl,rfl,rfl,rfl,rfl,hm20,hs20,n20,hag,na,ha9,n207,na7⟩:=hP|obtain⟨b20,m20,w20,q5,w24,b8,b9,rfl,rfl,rfl,rfl,rfl,rfl,hm20,hs20,n20,hag,na,ha8,ha9,n206,n207,na6,na7⟩:=hP);all_goals(first|exact X.val rfl rfl (ldRAw_r isAgg31 sizeOf31 rfl A1 hb3 hm3 zF rfl) R2|exact X.val rfl rfl (ldRAw_r isAgg31 sizeOf31 rfl A2 hb3 hm3 zF rfl) R2|exact X.val rfl rfl (ldRAw_r isAgg31 sizeOf31 rfl A3 hb3 hm3 zF rfl) R2|exact X.val rfl rfl (ldR_r isAgg3 rfl A0 hb4 hm4 zF rfl) R2|exact X.val rfl rfl (ldR_r isAgg3 rfl A1 hb4 hm4 zF rfl) R2|exact X.val rfl rfl (ldR_r isAgg3 rfl A2 hb4 hm4 zF rfl) R2)):P:=h
theorem zcC (h:P:=by intro cv L' H' hd hP;(rcases cv with _|⟨v1,_|⟨_,_⟩⟩<;>try exact False.elim hP);all_goals(first|obtain⟨rfl,rfl⟩:=hP|obtain⟨b48,w48,rfl,rfl,rfl,hb48,hq48,ho48⟩:=hP);all_goals(first|exact X.val rfl rfl (ldR_r isAgg73 rfl A0 hb2 hm2 zF rfl) R2|exact X.val rfl rfl (ldR_r isAgg73 rfl A1 hb2 hm2 zF rfl) R2|exact X.val rfl rfl (RV.re (v':=.bool false) (ldR_r (v:=.bool z.gone) isAgg4 rfl A0 hcs1 (hN0 b1 hbl1) z8 (nQ hel1 hz hix 4 zI)) (by rw[hgo])) R2|exact X.val rfl rfl (RV.re (v':=.bool false) (ldR_r (v:=.bool z.gone) isAgg4 rfl A1 hcs1 (hN0 b1 hbl1) z8 (nQ hel1 hz hix 4 zI)) (by rw[hgo])) R2|exact X.val rfl rfl (ldR_r (v:=.int .i64 z.ver) isAgg3 rfl A0 hcs1 (hN0 b1 hbl1) z8 (nQ hel1 hz hix 1 zI)) R2|exact X.val rfl rfl (ldR_r (v:=.int .i64 z.ver) isAgg3 rfl A1 hcs1 (hN0 b1 hbl1) z8 (nQ hel1 hz hix 1 zI)) R2|exact X.val rfl rfl (ldRA_r isAgg43 sizeOf43 rfl A0 hb1 hm1 zF (apo rfl)) R2|exact X.val rfl rfl (ldRA_r isAgg43 sizeOf43 rfl A1 hb1 hm1 zF (apo rfl)) R2|exact X.val rfl rfl (ldW_r (i:=0) rfl isAgg3 rfl rfl) R2|exact X.val rfl rfl (ldWA_r (i:=0) rfl isAgg54 sizeOf54 rfl (apo rfl)) R2)):P:=h
theorem zcD (h:P:=by intro cv L' H' hl hd hP;(obtain⟨x2,x5,x6,x7,rfl⟩:=len4 hl;rcases x2 with _|v2<;>rcases x5 with _|v5<;>rcases x6 with _|v6<;>rcases x7 with _|v7<;>try exact False.elim hP);all_goals(first|obtain⟨rfl,rfl⟩:=hP|obtain⟨b8,rfl,rfl,rfl,ha8⟩:=hP|obtain⟨b9,rfl,rfl,rfl,ha9⟩:=hP|obtain⟨b23,rfl,rfl,rfl⟩:=hP|obtain⟨b8,b9,rfl,rfl,rfl,rfl,ha8,ha9⟩:=hP|obtain⟨b23,b8,rfl,rfl,rfl,rfl,ha8⟩:=hP|obtain⟨b23,b9,rfl,rfl,rfl,rfl,ha9⟩:=hP|obtain⟨b23,b26,rfl,rfl,rfl,rfl⟩:=hP|obtain⟨b23,b8,b9,rfl,rfl,rfl,rfl,rfl,ha8,ha9⟩:=hP|obtain⟨b23,b26,b8,rfl,rfl,rfl,rfl,rfl,ha8⟩:=hP|obtain⟨b23,b26,b9,rfl,rfl,rfl,rfl,rfl,ha9⟩:=hP|obtain⟨b23,b26,b8,b9,rfl,rfl,rfl,rfl,rfl,rfl,ha8,ha9⟩:=hP);all_goals(first|exact X.val rfl rfl (ldR_r isAgg32 rfl A0 hb5 hm5 zF rfl) R2)):P:=h
theorem zcE (h:P:=by intro cv L' H' hl hd hP;(obtain⟨x1,x6,x7,rfl⟩:=len3 hl;rcases x1 with _|v1<;>rcases x6 with _|v6<;>rcases x7 with _|v7<;>try exact False.elim hP);all_goals(first|obtain⟨rfl,rfl⟩:=hP|obtain⟨b8,rfl,rfl,rfl,ha8⟩:=hP|obtain⟨b9,rfl,rfl,rfl,ha9⟩:=hP|obtain⟨b20,rfl,rfl,rfl⟩:=hP|obtain⟨b8,b9,rfl,rfl,rfl,rfl,ha8,ha9⟩:=hP|obtain⟨b20,b8,rfl,rfl,rfl,rfl,ha8⟩:=hP|obtain⟨b20,b9,rfl,rfl,rfl,rfl,ha9⟩:=hP|obtain⟨b20,b8,b9,rfl,rfl,rfl,rfl,rfl,ha8,ha9⟩:=hP);all_goals(first|exact X.val rfl rfl (ldRAw_r isAgg31 sizeOf31 rfl A1 hb3 hm3 zF rfl) R2|exact X.val rfl rfl (ldR_r isAgg3 rfl A0 hb4 hm4 zF rfl) R2)):P:=h
structure ZW (Q:Prop):Prop where
  p:Q
inductive Ct:Nat->Prop where
  |mk (n:Nat):Ct n
theorem Ct.dec {n:Nat} (_:Ct (n+1)):Ct n:=.mk n
theorem Ct.fin {P:Prop} (_:Ct 0) (h:P):P:=h
theorem B (n:Nat) (k:Q) (h:Ct n->ZW Q->P:=by intro Cz Kz;(repeat(replace Cz:=Ct.dec Cz;(first|(first|(with_reducible refine PJ.next ?_)|(with_reducible refine OJ.done ?_)|(with_reducible refine CJ.seq ?_)|(with_reducible refine CJ.region ?_)|(with_reducible refine CJ.ret ?_)|(with_reducible refine PJ.retThen ?_)|(with_reducible refine CJ.skip ?_))|(first|(with_reducible refine PJ.exThen ?_)|(with_reducible refine CJ.block ?_)|(with_reducible refine PJ.norBlock ?_)|(with_reducible refine PJ.retBlock ?_)|(with_reducible refine PJ.exHit ?_)|(with_reducible refine CJ.exit ?_)|refine rvA rfl rfl rfl ?_)|(first|refine OJ.off rfl zI rfl ?_|((with_reducible refine CJ.condT ?_ ?_);· exact rfl)|((with_reducible refine CJ.condF ?_ ?_);· exact rfl)|refine boxR rfl rfl rfl ?_))));exact Cz.fin Kz.p):P:=h (.mk n) ⟨k⟩
theorem zCD {R:Prop} (k:Q) (l:R) (h:ZW Q->ZW R->P:=by intro Kz Kw;(refine CJ.cond rfl (λhc=>?_) (λhc=>?_)<;>(try simp only[decide_eq_true_eq,decide_eq_false_iff_not,Bool.not_eq_true',Bool.not_eq_false']at hc)<;>revert hc);exact Kz.p;exact Kw.p):P:=h ⟨k⟩ ⟨l⟩
theorem zTd (k:Q) (h:ZW Q->P:=by intro Kz;refine B 6 ?_;refine rv rfl rfl rfl (RV.re (v':=.agg (gpA G)) (ldRAw_r isAgg62 sizeOf62 rfl A1 hb2 hm2 zF rfl) (rfl)) ?_;refine call call110 rfl rfl rfl (λW hS=>by rw[<-hv];exact nI G N W (aco hN (hS.links w A2).size) (hG.up (abo _) (hS.same A2 hN zN zH))) (v:=.bool true) ?_;refine rv rfl rfl rfl (RV.re (v':=.bool false) (notB_r rfl) rfl) ?_;refine B 8 ?_;refine rv rfl rfl rfl (RV.re (v':=.agg (cmA c)) (ldRAw_r isAgg102 sizeOf102 rfl A0 hb3 hm3 zF rfl) (rfl)) ?_;refine call call111 rfl rfl rfl (λW hS=>by rw[<-hck];exact nmb c hcg.few N W (aco hN (hS.links w A2).size) (hC.up (abo _) (hS.same A2 hN zN zH))) (v:=.int .i64 0) ?_;refine B 6 ?_;refine rv rfl rfl rfl (RV.re (v':=.bool false) (neqI_r rfl rfl) rfl) ?_;refine B 12 ?_;refine rv rfl rfl rfl (RV.re (v':=.bool false) (neqI_r rfl rfl) (congrArg Value.bool zkb)) ?_;refine B 6 ?_;refine rv rfl rfl rfl (RV.re (v':=.bool false) (neqI_r rfl rfl) (congrArg Value.bool zkb)) ?_;refine B 3 ?_;refine rv rfl rfl rfl (ldRA_r isAgg43 sizeOf43 rfl A0 hb3 hm3 zF (apo rfl)) ?_;refine B 1 ?_;refine rv rfl rfl rfl (ldRA_r isAgg43 sizeOf43 rfl A1 hb2 hm2 zF (apo rfl)) ?_;refine rv rfl rfl rfl (RV.re (v':=.bool false) (neqA_r nUb zI nob rfl rfl rfl) (congrArg (λq=>Value.bool (!q)) h3)) ?_;refine B 8 ?_;refine rv rfl rfl rfl (RV.re (v':=.agg (gpA G)) (ldRAw_r isAgg62 sizeOf62 rfl A1 hb2 hm2 zF rfl) (rfl)) ?_;refine B 4 ?_;refine nX (enc:=bxZ) (m:=4) (t:=184) (xs:=(nedL G.g c.author c.chs)) (v:=λs=>.tuple #[s,.int .i64 0]) (first:=[]) (cap:=[]) rfl call112 rfl rfl rfl n2c (λW hS=>by rw[<-hne];exact nLb G N W (aco hN (hS.links w A2).size) (hG.up (abo _) (hS.same A2 hN zN zH)) c.chs zG c.ca c.cc (hC.chs.up (abo _) (hS.same A2 hN zN zH)) c.author hau) ?_;exact Kz.p):P:=h ⟨k⟩
theorem zUd (k:Q) (h:ZW Q->P:=by intro Kz;refine rv rfl rfl rfl (RV.re (v':=.bool false) (lss_r rfl rfl) (congrArg Value.bool (decide_eq_false zG))) ?_;exact Kz.p):P:=h ⟨k⟩
theorem zVd (k:Q) (h:ZW Q->P:=by intro Kz;refine rv rfl rfl rfl (RV.re (v':=.int .u64 ((q-1:Nat):Int)) (subU_r rfl rfl zG zG) (congrArg (Value.int .u64) zG)) ?_;refine B 7 ?_;refine rv rfl rfl rfl (RV.re (v':=.int .u64 ((r+y1:Nat):Int)) (addU_r rfl rfl zG zG) (congrArg (Value.int .u64) zG)) ?_;refine B 9 ?_;exact Kz.p):P:=h ⟨k⟩
theorem zWd (k:Q) (h:ZW Q->P:=by intro Kz;refine PJ.dropAt (i:=0) rfl zQ ?_;exact Kz.p):P:=h ⟨k⟩
theorem zXd (k:Q) (h:ZW Q->P:=by intro Kz;refine B 17 ?_;refine CJ.less (E':=[(0,_),(1,_),(2,_),(3,_),(4,_),(5,_),(6,_),(7,_),(8,_),(9,_),(13,_),(14,_),(15,_),(17,_),(18,_),(19,_),(20,_),(23,_),(24,_),(25,_),(26,_),(27,_),(28,_),(29,_),(30,_),(31,_),(32,_),(33,_),(34,_),(35,_),(36,_),(37,_),(38,_),(39,_),(40,_),(41,_),(42,_),(44,_),(45,_),(46,_),(47,_),(48,_),(49,_),(50,_),(51,_),(52,_),(53,_),(54,_)]) zR ?_;exact Kz.p):P:=h ⟨k⟩
theorem zYd (k:Q) (h:ZW Q->P:=by intro Kz;refine OJ.off rfl (apo rfl) rfl ?_;refine OJ.off rfl (apo rfl) rfl ?_;refine OJ.off rfl (apo rfl) rfl ?_;exact Kz.p):P:=h ⟨k⟩
theorem zZd (k:Q) (h:ZW Q->P:=by intro Kz;refine rv rfl rfl rfl (addW_r rfl rfl) ?_;refine B 2 ?_;refine rv rfl rfl rfl (mulW_r rfl rfl) ?_;refine rv rfl rfl rfl (RV.re (v':=.int .u64 (r0:Int)) (subW_r rfl rfl) (congrArg (Value.int .u64) zyb)) ?_;exact Kz.p):P:=h ⟨k⟩
theorem z0d (k:Q) (h:ZW Q->P:=by intro Kz;refine rv rfl rfl rfl (RV.re (v':=.bool false) (gtr_r rfl rfl) (congrArg Value.bool (decide_eq_false zG))) ?_;refine B 18 ?_;refine rv rfl rfl rfl (RV.re (v':=.bool true) (lss_r rfl rfl) (congrArg Value.bool (decide_eq_true zG))) ?_;refine B 11 ?_;refine retO (.inl rfl) results135 (RS.t rfl (RS.t rfl (RS.n))) A1 zL ?_;exact Kz.p):P:=h ⟨k⟩
theorem z1d (k:Q) (h:ZW Q->P:=by intro Kz;refine nq (α:=Option ((Nat×Mq)×List Gv)) (v:=λq:Option ((Nat×Mq)×List Gv)=>.map (q.map λp:(Nat×Mq)×List Gv=>p.1.1)) (Φ:=λW q w1=>AgAt Z cs fos p.fo W.heap.size w1 q) call28 rfl rfl rfl (λW hS=>nzd hZ cs hcs hcg N la lc W (aco hN (hS.links w A3).size) (hsl.up (abo _) (hS.same A3 hN zN zU)) (λc hc=>(hC c hc).up (abo _) (hS.same A3 hN zN zU)) fa fos fc hfl (hfs.up (abo _) (hS.same A3 hN zN zU)) ia its.length ic rx p.fo (hg.old hS A3 zN zU)) ?_;exact Kz.p):P:=h ⟨k⟩
theorem z2d (k:Q) (h:ZW Q->P:=by intro Kz;refine njb (G2:=Gh.no) (Hc2:=[(b9,.cells #[.map (q5.map λp:(Nat×Mq)×List Gv=>p.1.1)] 111 (0,0)),(b8,.cells #[.map (some b20)] 109 (0,0)),(b6,.cells #[.int .i64 0] 39 (0,0))]) hlent hlD ⟨λ_ h=>h,λ_ h=>.inl h,λ_ h=>.inl h,(λp hp=>.inl (ano.2 ⟨p,hp,rfl⟩)),(λp hp=>.inl (ano.2 ⟨p,hp,rfl⟩))⟩ (nxb hrs hrp) ?_;exact Kz.p):P:=h ⟨k⟩
theorem z3d (k:Q) (h:ZW Q->P:=by intro Kz;refine rv rfl rfl rfl (RV.re (v':=.bool true) (eqlI_r rfl rfl) (congrArg Value.bool (decide_eq_true zG))) ?_;exact Kz.p):P:=h ⟨k⟩
theorem z4d (k:Q) (h:ZW Q->P:=by intro Kz;refine rv rfl rfl rfl (mulU_r rfl rfl zG zG) ?_;refine rv rfl rfl rfl (RV.re (v':=.int .u64 ((r1%y1:Nat):Int)) (subU_r rfl rfl zG zG) (congrArg (Value.int .u64) (nVg _ _ _ _ d2.eq))) ?_;refine B 5 ?_;refine CJ.loop (α:=Nat×Nat) (λp=>[(2,.int .u64 (Y:Int)),(8,.int .u64 (s:Int)),(9,.int .u64 (y1:Int)),(10,.int .u64 (y0:Int)),(17,.int .u64 (r1:Int)),(14,.int .u64 (v0:Int)),(15,.int .u64 (q1:Int)),(18,.int .u64 (p.1:Int)),(16,.int .u64 (p.2:Int))]) (λp=>[]) (λp=>[w]) (λp=>Gh.no) (λp=>Dig r1 y1 y0 v0 p.1 p.2) (λp=>p.1) (r1/y1,r1%y1) d2 zR rfl rfl zS ?_;exact Kz.p):P:=h ⟨k⟩
theorem z5d (k:Q) (h:ZW Q->P:=by intro Kz;refine CJ.less (E':=[(0,_),(1,_),(2,_),(5,_),(6,_),(7,_),(8,_),(10,_),(11,_),(12,_),(13,_),(14,_),(15,_),(16,_),(17,_),(18,_),(19,_),(20,_),(21,_),(22,_),(23,_),(24,_)]) zR ?_;exact Kz.p):P:=h ⟨k⟩
theorem z6d (k:Q) (h:ZW Q->P:=by intro Kz;refine CJ.less (E':=[(0,_),(1,_),(2,_),(3,_),(4,_),(5,_),(6,_),(7,_),(8,_),(9,_),(13,_),(14,_),(15,_),(17,_),(18,_),(19,_),(20,_),(23,_),(24,_),(25,_),(26,_),(27,_),(28,_),(29,_),(30,_),(31,_),(32,_),(33,_),(34,_),(35,_),(36,_),(37,_),(38,_),(39,_),(40,_),(41,_),(42,_),(44,_),(45,_),(46,_),(47,_),(48,_),(49,_),(50,_),(51,_),(52,_),(53,_),(54,_),(57,_),(58,_),(59,_),(60,_),(61,_),(62,_),(63,_),(64,_),(65,_),(66,_),(67,_),(68,_),(69,_),(70,_),(71,_),(72,_),(73,_),(74,_)]) zR ?_;exact Kz.p):P:=h ⟨k⟩
theorem z7d (k:Q) (h:ZW Q->P:=by intro Kz;refine CJ.less (E':=[(0,_),(1,_),(2,_),(3,_),(4,_),(5,_),(6,_),(7,_),(8,_),(9,_),(10,_),(11,_),(12,_),(13,_),(14,_),(15,_),(16,_),(17,_),(18,_),(19,_),(20,_),(21,_),(22,_),(23,_),(24,_),(25,_),(26,_),(27,_),(28,_),(29,_),(30,_),(31,_),(32,_),(33,_),(34,_),(35,_),(36,_),(37,_),(38,_),(39,_),(40,_)]) zR ?_;exact Kz.p):P:=h ⟨k⟩
theorem z8d (k:Q) (h:ZW Q->P:=by intro Kz;refine rv rfl rfl rfl (RV.re (v':=.agg (itA x)) (ldWAw_r (i:=1) rfl isAgg56 sizeOf56 rfl rfl) (rfl)) ?_;refine call call9 rfl rfl rfl (λW hS=>nuf hZ x hxg hxl N W (aco hN (hS.links w A4).size) ((hiby x hxm).up (abo _) (hS.same A4 hN zN zgb)) (hg.old hS A4 zN zgb) (hgp.old hg hS A4 zN zgb)) ?_;refine rv rfl rfl rfl (RV.re (v':=.bool (decide (dk (itID Z x)∈del))) (gget1_r (m:=m) (k:=dk (itID Z x)) underlying48 keyD zeroValue4 hm (Lies.own (i:=2) rfl) rfl rfl) ((n6e _).trans (congrArg Value.bool (nsh del (dk (itID Z x)))))) ?_;exact Kz.p):P:=h ⟨k⟩
theorem z9d (k:Q) (h:ZW Q->P:=by intro Kz;refine B 14 ?_;refine CJ.loop (α:=Nat) (λj=>[(0,.slice a xs.length cp),(1,.func (.func f) #[] cap.toArray),(7,.int .i64 (xs.length:Int)),(8,.int .i64 (j:Int))]) (λj=>[]) (λj=>[w]) (λj=>Gh.no) (λj=>j<=xs.length/\NoTo p xs j) (λj=>xs.length-j) 0 ⟨a3o _,λi x hi=>absurd hi zG⟩ zR rfl rfl zS ?_;exact Kz.p):P:=h ⟨k⟩
theorem zae (k:Q) (h:ZW Q->P:=by intro Kz;refine rv rfl rfl rfl (RV.re (v':=.int .u64 ((r0/2^s:Nat):Int)) (shrW_r rfl rfl zG) (congrArg (Value.int .u64) (nec r0 s zG))) ?_;exact Kz.p):P:=h ⟨k⟩
theorem zbe (k:Q) (h:ZW Q->P:=by intro Kz;refine nq (α:=Nat) (v:=λb:Nat=>.map (some b)) (Φ:=λ(W:World) (b:Nat) (w1:World)=>W.heap.size<=b/\∃m:Mq,m.Ok (dset del)/\w1.heap[b]? =some (m.obj dkv uv (dset del))) call27 rfl rfl rfl (λW hS=>nVh del hdl N da dc W (aco hN (hS.links w A2).size) (hds.up (abo _) (hS.same A2 hN zN zU))) ?_;exact Kz.p):P:=h ⟨k⟩
theorem zce (k:Q) (h:ZW Q->P:=by intro Kz;refine rv rfl rfl rfl (bldS_r underlying149 zeroValue149 (PlF.c sizeOf3 (PlF.c sizeOf3 (PlF.c sizeOf9 (PlF.c sizeOf147 (PlF.n))))) rfl rfl) ?_;exact Kz.p):P:=h ⟨k⟩
theorem zde (k:Q) (h:ZW Q->P:=by intro Kz;refine rv rfl rfl rfl (RV.re (v':=.bool true) (eqlI_r rfl rfl) rfl) ?_;exact Kz.p):P:=h ⟨k⟩
theorem zee (k:Q) (h:ZW Q->P:=by intro Kz;refine nq (α:=Nat×Nat) (v:=λb:Nat×Nat=>.func (.func 60) #[] #[ptr b.1 0,ptr b.2 0]) (Φ:=λ(W:World) (b:Nat×Nat) (w1:World)=>W.heap.size<=b.1/\w1.heap[b.1]? =some (.cells nfb 31 (0,0))) call29 rfl rfl rfl (λW hS=>nWd p W) ?_;exact Kz.p):P:=h ⟨k⟩
theorem zfe (k:Q) (h:ZW Q->P:=by intro Kz;refine CJ.less (E':=[(0,_),(1,_),(2,_),(3,_),(4,_),(5,_),(6,_),(7,_),(8,_),(9,_),(13,_),(14,_),(15,_),(17,_),(18,_),(19,_),(20,_),(23,_),(24,_),(25,_),(26,_),(27,_),(28,_),(29,_),(30,_),(31,_),(32,_),(33,_),(34,_),(35,_),(36,_),(37,_),(38,_),(39,_),(40,_),(41,_),(42,_),(44,_),(45,_),(46,_),(47,_),(48,_),(49,_),(50,_),(51,_),(52,_),(53,_),(54,_),(57,_),(58,_),(59,_),(60,_),(61,_),(62,_),(63,_),(64,_),(65,_),(66,_),(67,_),(68,_),(69,_),(70,_),(71,_),(72,_),(73,_),(74,_),(76,_),(77,_),(78,_),(79,_),(80,_),(81,_),(82,_),(83,_),(84,_),(85,_),(86,_),(87,_),(89,_),(90,_),(91,_),(92,_),(93,_),(94,_),(95,_)]) zR ?_;exact Kz.p):P:=h ⟨k⟩
theorem zge (k:Q) (h:ZW Q->P:=by intro Kz;refine nq (α:=Nat) (v:=λb:Nat=>.map (some b)) (Φ:=λ(_:World) (_:Nat) (_:World)=>True) call21 rfl rfl rfl (λW hS=>nrc (nkb p.right hf.right N p.ra p.rc W (aco hN (hS.links _ A3).size) (hp.right.up (abo _) (hS.same A3 hN zN zmb)))) ?_;exact Kz.p):P:=h ⟨k⟩
theorem zhe (k:Q) (h:ZW Q->P:=by intro Kz;refine nq (α:=Nat) (v:=λb:Nat=>.map (some b)) (Φ:=λ(_:World) (_:Nat) (_:World)=>True) call21 rfl rfl rfl (λW hS=>nrc (nkb p.left hf.left N p.la p.lc W (aco hN (hS.links _ A3).size) (hp.left.up (abo _) (hS.same A3 hN zN zmb)))) ?_;exact Kz.p):P:=h ⟨k⟩
theorem zie (k:Q) (h:ZW Q->P:=by intro Kz;refine nX (enc:=chE) (m:=5) (t:=229) (xs:=welL c.author c.chs) (v:=id) (first:=[]) (cap:=[]) rfl call117 rfl rfl rfl nCb (λW hS=>npc c.author c.chs zG N c.ca c.cc W (aco hN (hS.links w A3).size) (hC.chs.up (abo _) (hS.same A3 hN zN zH))) ?_;exact Kz.p):P:=h ⟨k⟩
theorem zje (k:Q) (h:ZW Q->P:=by intro Kz;refine stWw (i:=0) rfl sizeOf62 rfl rfl rfl rfl rfl rfl ?_;exact Kz.p):P:=h ⟨k⟩
theorem zke (k:Q) (h:ZW Q->P:=by intro Kz;refine CJ.less (E':=[(0,_),(1,_),(2,_),(3,_),(4,_),(5,_),(6,_),(7,_),(8,_),(9,_),(13,_),(14,_),(15,_),(17,_),(18,_),(19,_),(20,_),(23,_),(24,_),(25,_),(26,_),(27,_),(28,_),(29,_),(30,_),(31,_),(32,_),(33,_),(34,_),(35,_),(36,_),(37,_),(38,_),(39,_),(40,_),(41,_),(42,_),(44,_),(45,_),(46,_),(47,_),(48,_),(49,_),(50,_),(51,_),(52,_),(53,_),(54,_),(57,_),(58,_),(59,_),(60,_),(61,_),(62,_),(63,_),(64,_),(65,_),(66,_),(67,_),(68,_),(69,_),(70,_),(71,_),(72,_),(73,_),(74,_),(76,_),(77,_),(78,_),(79,_),(80,_),(81,_),(82,_),(83,_),(84,_),(85,_),(86,_),(87,_)]) zR ?_;exact Kz.p):P:=h ⟨k⟩
theorem zle (k:Q) (h:ZW Q->P:=by intro Kz;refine rv rfl rfl rfl (RV.re (v':=.agg nfb) (bldS_r underlying31 zeroValue31 (PlF.c sizeOf22 (PlF.c sizeOf23 (PlF.c sizeOf24 (PlF.c sizeOf25 (PlF.c sizeOf26 (PlF.c sizeOf27 (PlF.c sizeOf28 (PlF.c sizeOf29 (PlF.n))))))))) rfl rfl) (rfl)) ?_;refine rv rfl rfl rfl (RV.re (v':=.agg (poC (pol1 b15 b16))) (ldWAw_r (i:=7) rfl isAgg34 sizeOf34 rfl rfl) (rfl)) ?_;exact Kz.p):P:=h ⟨k⟩
theorem zme (k:Q) (h:ZW Q->P:=by intro Kz;refine nX (enc:=encZ) (m:=1) (t:=3) (xs:=memL G.g.ns) (v:=id) (first:=[]) (cap:=[]) rfl call160 rfl rfl rfl nB (λW hS=>nWb G.g.ns hn N G.na G.nc W (aco hN (hS.links w A1).size) (hG.ns.up (abo _) (hS.same A1 hN zN trivial))) ?_;exact Kz.p):P:=h ⟨k⟩
theorem zne (k:Q) (h:ZW Q->P:=by intro Kz;refine CJ.less (E':=[(1,_),(3,_),(10,_),(11,_),(39,_),(40,_),(41,_),(42,_),(43,_),(44,_),(45,_)]) zR ?_;exact Kz.p):P:=h ⟨k⟩
theorem zoe (k:Q) (h:ZW Q->P:=by intro Kz;refine rv rfl rfl rfl (RV.re (v':=.agg (gpA G)) (ldRAw_r isAgg62 sizeOf62 rfl A0 hb3 hm3 zF rfl) (rfl)) ?_;exact Kz.p):P:=h ⟨k⟩
theorem zpe (k:Q) (h:ZW Q->P:=by intro Kz;refine nq (α:=Nat) (v:=λb:Nat=>.slice (some ⟨b,0,none⟩) 32 32) (Φ:=λ(W:World) (b:Nat) (w1:World)=>W.heap.size<=b/\w1.heap[b]? =some (.cells (dg (cmMs Z c)) 43 (0,0))) call119 rfl rfl rfl (λW hS=>ndd hZ c hcg N W (aco hN (hS.links w A4).size) (hC.up (abo _) (hS.same A4 hN zN zH)) (hg.old hS A4 zN zH)) ?_;exact Kz.p):P:=h ⟨k⟩
theorem zqe (k:Q) (h:ZW Q->P:=by intro Kz;refine call call116 rfl rfl rfl (λW hS=>by have h9:=nbd c.wes zG W.heap.size c.wa c.wc W (abo _) (hC.wes.up (aco hN (hS.links w A4).size) (hS.same A4 hN zN zH)) (welL c.author c.chs) aw cw (hslw2.to hS A0 (abo _) (λb off e=>.inr zYb));rw[show eqfB nId c.wes (welL c.author c.chs)=true from hw]at h9;exact h9) (v:=.bool true) ?_;exact Kz.p):P:=h ⟨k⟩
theorem zre (k:Q) (h:ZW Q->P:=by intro Kz;refine call call123 rfl rfl rfl (λW hS=>noc (badC G.g (mbIs G.g.ms au) au) 212 [ptr b3 0,ptr b8 0,ptr b4 0] call212 l hxl N _ cp W (aco hN (hS.links w A2).size) (hsl.up (abo _) (hS.same A2 hN zN zH)) (λj x hx W2 hB=>by have h3:=(hS.links w3 A1).size;have h4:=(hS.links w4 A0).size;have h5:=(hS.links w A2).size;have h8:=hS.own (b8,_) A0;have h9:=(ago.1 h8).1;exact n7h G N W2 (by have:=hB.size;omega) (hG.up (abo _) (λk hk=>by rw[hB.block k zG];exact hS.same A2 hN zN zH k hk)) b3 b8 b4 _ au (by rw[hB.block b3 zG];exact hS.old A1 hb3 hm3 zab) (by rw[hB.block b8 h9];exact h8) (by rw[hB.block b4 zG];exact hS.old A0 hb4 hm4 zab) x)) ?_;exact Kz.p):P:=h ⟨k⟩
theorem zse (k:Q) (h:ZW Q->P:=by intro Kz;refine CJ.loop (α:=Nat×Nat×Nat×List Value) (λp=>[(6,.slice (some ⟨p.2.1,0,none⟩) (nr (ss.take p.1)).length p.2.2.1),(25,.slice (some ⟨b0,0,none⟩) ss.length c0),(26,.int .i64 (ss.length:Int)),(27,.int .i64 (p.1:Int))]) (λp=>[(p.2.1,.cells (nr (ss.take p.1)++p.2.2.2).toArray 5 (0,0))]) (λp=>[w]) (λp=>Gh.no) (λp=>p.1<=ss.length/\w.heap.size<=p.2.1/\(nr (ss.take p.1)).length<=p.2.2.1/\p.2.2.2.length=p.2.2.1-(nr (ss.take p.1)).length) (λp=>ss.length-p.1) (0,bg,cg,(List.range cg).map (λ_=>.int .u8 0)) ⟨a3o _,hag.1,a3o _,by simp[nr]⟩ zR rfl rfl zS ?_;exact Kz.p):P:=h ⟨k⟩
theorem zte (k:Q) (h:ZW Q->P:=by intro Kz;refine bslR underlying32 sizeOf3 zeroValue3 rfl rfl rfl rfl rfl rfl rfl ?_;exact Kz.p):P:=h ⟨k⟩
theorem zue (k:Q) (h:ZW Q->P:=by intro Kz;refine nSc (G2:=Gh.no) (Hc2:=[(b9,.cells #[.map (q5.map λp:(Nat×Mq)×List Gv=>p.1.1)] 111 (0,0)),(b8,.cells #[.map (some b20)] 109 (0,0)),(b6,.cells #[.int .i64 460] 39 (0,0))]) (c:=.ret) hlent hlD ⟨λ_ h=>h,λ_ h=>.inl h,λ_ h=>.inl h,z0c,z0c⟩ (.inl ⟨rfl,rfl⟩) rfl ?_;exact Kz.p):P:=h ⟨k⟩
theorem zve (k:Q) (h:ZW Q->P:=by intro Kz;refine rv rfl rfl rfl (RV.re (v':=.agg #[.slice a ns.length cp]) (ldRAw_r isAgg60 sizeOf60 rfl A0 hb3 hm3 zF rfl) (rfl)) ?_;exact Kz.p):P:=h ⟨k⟩
theorem zwe (k:Q) (h:ZW Q->P:=by intro Kz;refine CJ.loop (α:=Mp×Nat) (λp=>[(6,.map (some bf)),(7,.slice ap (pthL d).length cpp),(12,.func (.func 220) #[.map (some bf)] #[]),(53,.slice ap (pthL d).length cpp),(54,.int .i64 ((pthL d).length:Int)),(55,.int .i64 (p.2:Int))]) (λp=>[(bf,p.1.obj (Value.int .i64) (((pthL d).take p.2).foldl delF (delF (ofL ns) (512+d))))]) (λp=>[wp,w3,w]) (λp=>Gh.no) (λp=>p.2<=(pthL d).length/\p.1.Ok (((pthL d).take p.2).foldl delF (delF (ofL ns) (512+d)))) (λp=>(pthL d).length-p.2) (m1,0) ⟨a3o _,hm1⟩ zR rfl rfl zS ?_;exact Kz.p):P:=h ⟨k⟩
theorem zxe (k:Q) (h:ZW Q->P:=by intro Kz;refine rv rfl rfl rfl (RV.re (v':=.bool true) (neqI_r rfl rfl) rfl) ?_;exact Kz.p):P:=h ⟨k⟩
theorem zye (k:Q) (h:ZW Q->P:=by intro Kz;refine bslW underlying147 sizeOf149 zeroValue149 rfl rfl rfl rfl rfl rfl rfl ?_;exact Kz.p):P:=h ⟨k⟩
theorem zze (k:Q) (h:ZW Q->P:=by intro Kz;refine nq (α:=((Option Addr×Nat)×(Option Addr×Nat))×List Gv) (v:=λq=>.tuple #[.slice q.1.1.1 q.2.length q.1.1.2,.slice q.1.2.1 q.2.length q.1.2.2]) (Φ:=λW q w1=>ChX Z cs fo (q.2.map (λx:Gv=>x.g))/\SlAt gpA 36 w1.heap.size w1 q.1.2.1 q.2/\∀p,q.1.2.1=some p->W.heap.size<=p.block) call8 rfl rfl rfl (λW hS=>nuh hZ cs hcs hcg N la lc W (aco hN (hS.links w A3).size) (hsl.up (abo _) (hS.same A3 hN zN zH)) (λc hc=>(hC c hc).up (abo _) (hS.same A3 hN zN zH)) fo (hg.old hS A3 zN zH)) ?_;exact Kz.p):P:=h ⟨k⟩
theorem zAe (k:Q) (h:ZW Q->P:=by intro Kz;refine nR (L':=[W]) zS ?_;refine PJ.dropAt (i:=0) rfl ⟨by omega,trivial⟩ ?_;exact Kz.p):P:=h ⟨k⟩
theorem zBe (k:Q) (h:ZW Q->P:=by intro Kz;refine call call156 rfl rfl rfl (λW hS=>by rw[<-htr];exact nHb ns hn N a cp W (aco hN (hS.links w A1).size) (hsl.up (abo _) (hS.same A1 hN zN z6))) (v:=.int .i64 0) ?_;exact Kz.p):P:=h ⟨k⟩
theorem zCe (k:Q) (h:ZW Q->P:=by intro Kz;refine n9c (enc:=ndE) (m:=2) (t:=359) (xs:=(rnwL T c.author c.path)) (v:=λs=>.tuple #[.agg #[s],.int .i64 e]) (first:=[]) (cap:=[]) rfl call120 rfl rfl rfl (λW hS=>by rw[<-hre];exact nOf T zG W.heap.size ta tc W (abo _) (hsr.to hS A0 (abo _) (λb off e=>by rcases htr b off e with h|h|h;(exact .inl h);(exact .inr zZb);(exact .inr zZb))) c.author hau c.path hpok zG N c.pa c.pc (hC.path.up (abo _) (hS.same A6 hN zN zH)) (aco hN (hS.links w A6).size) hpl zG) ?_;exact Kz.p):P:=h ⟨k⟩
theorem zDe (k:Q) (h:ZW Q->P:=by intro Kz;refine rv rfl rfl rfl (slS0_r (h:=64) underlying52 sizeOf5 rfl ⟨_,_,rfl,rfl⟩ zG) ?_;refine nMc (f:=90) (i:=1) (first:=[ptr b3 0]) (cap:=[]) rfl rfl call90 rfl rfl rfl (λW hS hW=>nQd (stN n m (j+k)) (λi=>padF n m (64*(j+k)+i)) b3 b21 o2 64 _ _ _ fr3 t3 (cf 128 (endF n m j N)) zG zG W hW (hS.own _ A0) (λi hi=>by rw[nUd 128 _ (64*k+i) _ (by have:=ho2 zG;omega) zG,nml n m j N _ zG hNN zG zG];congr 3;omega) zG (hS.old A0 hg zO z7) zG) ?_;exact Kz.p):P:=h ⟨k⟩
theorem zEe (k:Q) (h:ZW Q->P:=by intro Kz;refine rv rfl rfl rfl (RV.re (v':=.agg #[.slice a ns.length cp]) (ldRAw_r isAgg60 sizeOf60 rfl A0 hb3 hm3 trivial rfl) (rfl)) ?_;exact Kz.p):P:=h ⟨k⟩
theorem zFe (k:Q) (h:ZW Q->P:=by intro Kz;refine nq (α:=Gv) (v:=λXn=>.tuple #[.agg (gpA Xn),.int .i64 e]) (Φ:=λW Xn w1=>Xn.g=nxR Z (g0 fo) c/\GvAt w1.heap.size w1 Xn/\(∀q,Xn.ma=some q->W.heap.size<=q.block)/\(∀q,Xn.na=some q->W.heap.size<=q.block)) call79 rfl rfl rfl (λW hS=>by rw[<-he];exact noe hZ (g0v fo) c (hcg c hcm) N W (aco hN (hS.links w A2).size) (g0v_at fo N W) ((hC c hcm).up (abo _) (hS.same A2 hN zN zH)) (hg.old hS A2 zN zH)) ?_;exact Kz.p):P:=h ⟨k⟩
theorem zGe (k:Q) (h:ZW Q->P:=by intro Kz;refine enter (vs:=[_]) func56 rfl ntmps56 rfl ?_;refine B 19 ?_;refine CJ.loop (α:=Nat) (λj=>[(0,.slice (some ⟨b0,0,none⟩) ss.length c0),(3,.int .i64 (((nr (ss.take j)).length:Nat):Int)),(9,.slice (some ⟨b0,0,none⟩) ss.length c0),(10,.int .i64 (ss.length:Int)),(11,.int .i64 (j:Int))]) (λj=>[]) (λj=>[w]) (λj=>Gh.no) (λj=>j<=ss.length) (λj=>ss.length-j) 0 (a3o _) zR rfl rfl zS ?_;exact Kz.p):P:=h ⟨k⟩
theorem zHe (k:Q) (h:ZW Q->P:=by intro Kz;refine stWw (i:=0) rfl sizeOf43 rfl rfl rfl rfl rfl rfl ?_;exact Kz.p):P:=h ⟨k⟩
theorem zIe (k:Q) (h:ZW Q->P:=by intro Kz;refine rv rfl rfl rfl (RV.re (v':=.agg (mbA x)) (ldRA_r isAgg248 sizeOf248 rfl A0 hcs zO trivial (nk hel0 hx rfl)) (congrArg Value.agg (nl hel0 hx rfl))) ?_;exact Kz.p):P:=h ⟨k⟩
theorem zJe (k:Q) (h:ZW Q->P:=by intro Kz;refine bslW underlying32 sizeOf3 zeroValue3 rfl rfl rfl rfl rfl rfl rfl ?_;exact Kz.p):P:=h ⟨k⟩
theorem zKe (k:Q) (h:ZW Q->P:=by intro Kz;refine nq (α:=Nat) (v:=λb:Nat=>.map (some b)) (Φ:=λ(_:World) (_:Nat) (_:World)=>True) call27 rfl rfl rfl (λW hS=>nGc W) ?_;exact Kz.p):P:=h ⟨k⟩
theorem zLe (k:Q) (h:ZW Q->P:=by intro Kz;refine nq (α:=Option Addr×Nat) (v:=λq=>.agg #[.slice q.1 T.length q.2]) (Φ:=λW q w1=>SlAt ndA 2 w1.heap.size w1 q.1 T/\∀b off,q.1=some ⟨b,off,none⟩->T=[]\/b<N\/W.heap.size<=b) call121 rfl rfl rfl (λW hS=>by rw[<-hT];exact ncd G N W (aco hN (hS.links w A5).size) (hG.up (abo _) (hS.same A5 hN zN zH)) c.chs zG c.ca c.cc (hC.chs.up (abo _) (hS.same A5 hN zN zH)) hll hdv) ?_;exact Kz.p):P:=h ⟨k⟩
theorem zMe (k:Q) (h:ZW Q->P:=by intro Kz;refine rv rfl rfl rfl (idxV_r underlying207 isAgg205 sizeOf205 rfl rfl zG zG (S8.cells_ld _ i _ zG zG)) ?_;refine B 10 ?_;refine rv rfl rfl rfl (RV.re (v':=.slice (some ⟨b2,4*i,none⟩) 4 (32-4*i)) (slA_r (l:=4*i) (h:=4*i+4) (off':=4*i) underlying43 sizeOf5 rfl ⟨_,_,rfl,by omega⟩ ⟨_,_,rfl,by omega⟩ zG zG (by rw[if_neg zG];omega)) (by rw[show 4*i+4-4*i=4 by omega])) ?_;exact Kz.p):P:=h ⟨k⟩
theorem zNe (k:Q) (h:ZW Q->P:=by intro Kz;refine rv rfl rfl rfl (cvtB0_r underlying210 underlying5 rfl zG zG) ?_;exact Kz.p):P:=h ⟨k⟩
theorem zOe (k:Q) (h:ZW Q->P:=by intro Kz;refine rv rfl rfl rfl (RV.re (v':=.bool false) (eqlI_r rfl rfl) (congrArg Value.bool (decide_eq_false zG))) ?_;exact Kz.p):P:=h ⟨k⟩
theorem zPe (k:Q) (h:ZW Q->P:=by intro Kz;refine rv rfl rfl rfl (RV.re (v':=.bool false) (geq_r rfl rfl) (congrArg Value.bool (decide_eq_false zG))) ?_;exact Kz.p):P:=h ⟨k⟩
theorem zQe (k:Q) (h:ZW Q->P:=by intro Kz;refine stWw (i:=0) rfl sizeOf67 rfl rfl rfl rfl rfl rfl ?_;exact Kz.p):P:=h ⟨k⟩
theorem zRe (k:Q) (h:ZW Q->P:=by intro Kz;refine rv rfl rfl rfl (RV.re (v':=.agg (cdA d)) (ldWAw_r (i:=0) rfl isAgg104 sizeOf104 rfl rfl) (rfl)) ?_;exact Kz.p):P:=h ⟨k⟩
theorem zSe (k:Q) (h:ZW Q->P:=by intro Kz;refine retO (.inl rfl) results111 (RS.t rfl (RS.n)) A1 zL ?_;exact Kz.p):P:=h ⟨k⟩
theorem zTe (k:Q) (h:ZW Q->P:=by intro Kz;refine CJ.less (E':=[(0,_),(1,_),(2,_),(3,_),(4,_),(6,_),(8,_),(10,_),(11,_),(12,_),(13,_),(14,_),(15,_)]) zR ?_;exact Kz.p):P:=h ⟨k⟩
theorem zUe (k:Q) (h:ZW Q->P:=by intro Kz;refine CJ.loop (α:=Nat) (λi=>[(2,ptr b2 0),(53,.agg (stN n m (nBlk n)).cells),(54,.int .i64 (i:Int))]) (λi=>[(b21,.cells (cf 128 (endF n m j N)) 5 (0,0)),(b3,.cells (stN n m (nBlk n)).cells 207 (0,0)),(b2,.cells (outN (stN n m (nBlk n)) i) 43 (0,0))]) (λi=>[w]) (λi=>Gh.no) (λi=>i<=8) (λi=>8-i) 0 zI zR rfl rfl zS ?_;exact Kz.p):P:=h ⟨k⟩
theorem zVe (k:Q) (h:ZW Q->P:=by intro Kz;refine rv rfl rfl rfl (RV.re (v':=.agg #[.slice a ns.length cp]) (ldRAw_r isAgg60 sizeOf60 rfl A0 hb2 hm2 trivial rfl) (rfl)) ?_;exact Kz.p):P:=h ⟨k⟩
theorem zWe (k:Q) (h:ZW Q->P:=by intro Kz;refine n9h (i:=0) (γ:=Mp) (v:=λ_=>.tuple #[]) (ob:=λm=>m.obj (Value.int .i64) (kdel (((pthL d).take i).foldl delF (delF (ofL ns) (512+d))) n)) (Φ:=λm=>m.Ok (kdel (((pthL d).take i).foldl delF (delF (ofL ns) (512+d))) n)) (first:=[.map (some bf)]) (cap:=[]) rfl rfl call220 rfl rfl rfl (λW hS hW=>nDd bf mi hmi n W hW) ?_;exact Kz.p):P:=h ⟨k⟩
theorem zXe (k:Q) (h:ZW Q->P:=by intro Kz;refine nDk (ev:=(Value.int .i64)) (kv:=ofL ns) (v:=id) call219 rfl rfl rfl (λW hS=>nBf ns hn N a cp W (aco hN (hS.links w A1).size) (hsl.up (abo _) (hS.same A1 hN zN z6))) ?_;exact Kz.p):P:=h ⟨k⟩
theorem zYe (k:Q) (h:ZW Q->P:=by intro Kz;refine allW zeroValue62 rfl rfl ?_;exact Kz.p):P:=h ⟨k⟩
theorem zZe (k:Q) (h:ZW Q->P:=by intro Kz;refine nq (α:=Int) (v:=λi:Int=>.int .i64 i) (Φ:=λ_ i _=>IdxAt (λf:Fo=>decide (f.id=pf)) fos i) call57 rfl rfl rfl (λW hS=>nhg (λf:Fo=>decide (f.id=pf)) 58 [ptr b3 0] call58 fos hfl N fa fc W (aco hN (hS.links w A2).size) (hfs.up (abo _) (hS.same A2 hN zN trivial)) (λj y hy W2 hB=>ages_1 pf b3 y W2 zxd)) ?_;exact Kz.p):P:=h ⟨k⟩
theorem z0e (k:Q) (h:ZW Q->P:=by intro Kz;refine retO (.inl rfl) results156 (RS.t rfl (RS.n)) A2 zL ?_;exact Kz.p):P:=h ⟨k⟩
theorem z1e (k:Q) (h:ZW Q->P:=by intro Kz;refine rv rfl rfl rfl (RV.re (v':=.slice (some ⟨bl,ol,none⟩) cs.length lc) (ldR_r isAgg24 rfl A0 hb1 hm1 trivial rfl) (congrArg (λq=>Value.slice q cs.length lc) hpe)) ?_;exact Kz.p):P:=h ⟨k⟩
theorem z2e (k:Q) (h:ZW Q->P:=by intro Kz;refine enter (vs:=[_,_]) func79 rfl ntmps79 rfl ?_;exact Kz.p):P:=h ⟨k⟩
theorem z3e (k:Q) (h:ZW Q->P:=by intro Kz;refine call call70 rfl rfl rfl (λW hS=>by have h9:=nyd hZ (verI G.g c.author c.chs) c.sr c.ss (dgU (cmMs Z c)) bm 0 32 (by rw[nTb];decide) W (SegU.dg (hS.old A0 hbm zO zZb) (hZ.byt _ _)) (hg.old hS A5 zN zH);rw[nTb,show verB Z (verI G.g c.author c.chs) (dgU (cmMs Z c)) c.sr c.ss=true from hsg]at h9;exact h9) (v:=.bool true) ?_;exact Kz.p):P:=h ⟨k⟩
theorem z4e (k:Q) (h:ZW Q->P:=by intro Kz;refine nq (α:=Nat) (v:=λb:Nat=>.slice (some ⟨b,0,none⟩) 11 11) (Φ:=λ(W:World) (b:Nat) (w1:World)=>W.heap.size<=b/\VAt w1.heap.size w1 (.list (cmV c)) (vL (some ⟨b,0,none⟩) 11 11)) call77 rfl rfl rfl (λW hS=>nle c hcg.few N W (aco hN (hS.links w A1).size) (hC.up (abo _) (hS.same A1 hN zN zH))) ?_;exact Kz.p):P:=h ⟨k⟩
theorem z5e (k:Q) (h:ZW Q->P:=by intro Kz;refine nX (enc:=encZ) (m:=1) (t:=3) (xs:=pthL d) (v:=λs=>.tuple #[s,.int .i64 0]) (first:=[]) (cap:=[]) rfl call209 rfl rfl rfl nB (λW hS=>nEf d hd W) ?_;exact Kz.p):P:=h ⟨k⟩
theorem z6e (k:Q) (h:ZW Q->P:=by intro Kz;refine CJ.less (E':=[(1,_),(7,_),(8,_),(97,_),(98,_),(99,_),(100,_),(101,_),(102,_),(103,_)]) zR ?_;exact Kz.p):P:=h ⟨k⟩
theorem z7e (k:Q) (h:ZW Q->P:=by intro Kz;refine nSb (f:=f) (cap:=cap) rfl hent rfl rfl rfl (λW hS=>hp j x hx W ((hS.links w A0).mono (λk _ hk=>by rcases hk with hk|hk;(exact hk);(simp only[afo,a0o,adp,a9o,aeo,aCo,or_false]at hk;first|exact hk|(rcases hk with hk|hk;(exfalso;omega);exact hk)))) (by have:=hS.lt (b,_) A1;exact this)) ?_;exact Kz.p):P:=h ⟨k⟩
theorem z8e (k:Q) (h:ZW Q->P:=by intro Kz;refine allW zeroValue43 rfl rfl ?_;exact Kz.p):P:=h ⟨k⟩
theorem z9e (k:Q) (h:ZW Q->P:=by intro Kz;refine call call110 rfl rfl rfl (λW hS=>by rw[<-hv];exact nI G N W (aco hN (hS.links w A1).size) (hG.up (abo _) (hS.same A1 hN zN zH))) (v:=.bool true) ?_;exact Kz.p):P:=h ⟨k⟩
theorem zaf (k:Q) (h:ZW Q->P:=by intro Kz;refine nq (v:=λb:Nat=>.slice (some ⟨b,0,none⟩) 32 32) (Φ:=λ(W1:World) (b:Nat) (v1:World)=>W1.heap.size<=b/\v1.heap[b]? =some (.cells (dg mf) 43 (0,0))) call33 rfl rfl rfl (λW1 hS=>by rw[<-hmf];exact nfd hZ f c.dev hD.i64 W1 (hg.old hS A0 (λk hk=>hN0 k zG) zmb)) ?_;exact Kz.p):P:=h ⟨k⟩
theorem zbf (k:Q) (h:ZW Q->P:=by intro Kz;refine call call161 rfl rfl rfl (λW hS=>nHe (n0d G.g.epoch) 157 [ptr b1 0] call157 G.g.ms hml N G.ma G.mc W (aco hN (hS.links w A2).size) (hG.ms.up (abo _) (hS.same A2 hN zN zH)) (λj x hx W2 hB=>nom G b1 x W2 (by have:=(hS.links w1 A1).size;rw[hB.block b1 zG];exact hS.old A1 hb1 hm1 trivial))) ?_;exact Kz.p):P:=h ⟨k⟩
theorem zcf (k:Q) (h:ZW Q->P:=by intro Kz;refine stWw (i:=0) rfl sizeOf322 rfl rfl rfl rfl rfl rfl ?_;exact Kz.p):P:=h ⟨k⟩
theorem zdf (k:Q) (h:ZW Q->P:=by intro Kz;refine stWw (i:=0) rfl sizeOf229 rfl rfl rfl rfl rfl rfl ?_;exact Kz.p):P:=h ⟨k⟩
theorem zef (k:Q) (h:ZW Q->P:=by intro Kz;refine stWw (i:=0) rfl sizeOf149 rfl rfl rfl rfl rfl rfl ?_;exact Kz.p):P:=h ⟨k⟩
theorem zff (k:Q) (h:ZW Q->P:=by intro Kz;refine stWw (i:=0) rfl sizeOf104 rfl rfl rfl rfl rfl rfl ?_;exact Kz.p):P:=h ⟨k⟩
theorem zgf (k:Q) (h:ZW Q->P:=by intro Kz;refine nSb (f:=f) (cap:=cap) rfl hent rfl rfl rfl (λW hS=>hp j x hx W ((hS.links w A0).below zNc)) ?_;exact Kz.p):P:=h ⟨k⟩
theorem zhf (k:Q) (h:ZW Q->P:=by intro Kz;refine n0h (ev:=(Value.int .i64)) (kv:=chL (ofL ns) d) (enc:=encZ) (n:=1) (ds:=pthL d) (v:=λmp s=>.tuple #[mp,s,.int .i64 0]) call173 rfl rfl rfl (λW hS=>nKe ns hn N a cp W (aco hN (hS.links w A1).size) (hsl.up (abo _) (hS.same A1 hN zN z6)) htr d hd false (λh=>by cases h)) ?_;exact Kz.p):P:=h ⟨k⟩
theorem zif (k:Q) (h:ZW Q->P:=by intro Kz;refine stWw (i:=0) rfl sizeOf60 rfl rfl rfl rfl rfl rfl ?_;exact Kz.p):P:=h ⟨k⟩
theorem zjf (k:Q) (h:ZW Q->P:=by intro Kz;refine n0h (ev:=(Value.int .i64)) (kv:=chL (ofL ns) d) (enc:=encZ) (n:=1) (ds:=pthL d) (v:=λmp s=>.tuple #[mp,s,.int .i64 0]) call173 rfl rfl rfl (λW hS=>nKe ns hn N a cp W (aco hN (hS.links w A1).size) (hsl.up (abo _) (hS.same A1 hN zN z6)) htr d hd true (λ_=>hmem)) ?_;exact Kz.p):P:=h ⟨k⟩
theorem zkf (k:Q) (h:ZW Q->P:=by intro Kz;refine PJ.reH (H':=[(b21,.cells (cf 128 (endF n m j N)) 5 (0,0)),(b3,.cells (stN n m (nBlk n)).cells 207 (0,0)),(b2,.cells (outN (stN n m (nBlk n)) 8) 43 (0,0))]) rfl ?_;refine retO (.inl rfl) results55 (RS.wA (i:=2) rfl isAgg43 sizeOf43 rfl (by rw[outN,nZ];omega) RS.n) A0 zic ?_;exact Kz.p):P:=h ⟨k⟩
theorem zlf (k:Q) (h:ZW Q->P:=by intro Kz;refine rv rfl rfl rfl (RV.re (v':=.bool true) (notB_r rfl) rfl) ?_;exact Kz.p):P:=h ⟨k⟩
theorem zmf (k:Q) (h:ZW Q->P:=by intro Kz;refine rv rfl rfl rfl (RV.re (v':=.int .u64 ((8*n:Nat):Int)) (mulU_r rfl rfl zG zG) (congrArg (Value.int .u64) zG)) ?_;refine nMc (f:=91) (i:=0) (first:=[]) (cap:=[]) rfl rfl call91 rfl rfl rfl (λW hS hW=>nTd (8*n) b21 _ 8 _ _ _ zG (by rw[nPd,nZ];omega) W hW) ?_;exact Kz.p):P:=h ⟨k⟩
theorem znf (k:Q) (h:ZW Q->P:=by intro Kz;refine allW zeroValue90 rfl rfl ?_;exact Kz.p):P:=h ⟨k⟩
theorem zof (k:Q) (h:ZW Q->P:=by intro Kz;refine allW zeroValue60 rfl rfl ?_;exact Kz.p):P:=h ⟨k⟩
theorem zpf (k:Q) (h:ZW Q->P:=by intro Kz;refine n9h (i:=0) (γ:=Mp) (v:=λ_=>.tuple #[]) (ob:=λm=>m.obj (Value.int .i64) (kdel (ofL ns) (512+d))) (Φ:=λm=>m.Ok (kdel (ofL ns) (512+d))) (first:=[.map (some bf)]) (cap:=[]) rfl rfl call220 rfl rfl rfl (λW hS hW=>nDd bf m hm (512+d) W hW) ?_;exact Kz.p):P:=h ⟨k⟩
theorem zqf (k:Q) (h:ZW Q->P:=by intro Kz;refine allW zeroValue149 rfl rfl ?_;exact Kz.p):P:=h ⟨k⟩
theorem zrf (k:Q) (h:ZW Q->P:=by intro Kz;refine allW zeroValue109 rfl rfl ?_;exact Kz.p):P:=h ⟨k⟩
theorem zsf (k:Q) (h:ZW Q->P:=by intro Kz;refine rv rfl rfl rfl (RV.re (v':=.agg (rcA fa fos.length fc la cs.length lc ia its.length ic rx)) (ldRAw_r isAgg31 sizeOf31 rfl A3 hb3 hm3 zF rfl) (rfl)) ?_;refine rv rfl rfl rfl (RV.re (v':=.agg (poC p)) (ldRAw_r isAgg34 sizeOf34 rfl A2 hb4 hm4 zF rfl) (rfl)) ?_;exact Kz.p):P:=h ⟨k⟩
theorem ztf (k:Q) (h:ZW Q->P:=by intro Kz;refine rv rfl rfl rfl (RV.re (v':=.int .u64 ((r1/y1:Nat):Int)) (quoU_r rfl rfl zG zG zG) (congrArg (Value.int .u64) (n9d r1 y1))) ?_;exact Kz.p):P:=h ⟨k⟩
theorem zuf (k:Q) (h:ZW Q->P:=by intro Kz;refine rv rfl rfl rfl (slA0_r (h:=32) underlying43 sizeOf5 rfl rfl zG) ?_;exact Kz.p):P:=h ⟨k⟩
theorem zvf (k:Q) (h:ZW Q->P:=by intro Kz;refine rv rfl rfl rfl (shrC_r 32 4294967296 zI rfl rfl rfl) ?_;exact Kz.p):P:=h ⟨k⟩
theorem zwf (k:Q) (h:ZW Q->P:=by intro Kz;refine rv rfl rfl rfl (RV.re (v':=.agg (gpA (⟨⟨G.g.folder,c.epoch,cmID Z c,[],[]⟩,none,0,none,0⟩:Gv))) (bldS_r underlying62 zeroValue62 (PlF.c sizeOf3 (PlF.c sizeOf3 (PlF.c sizeOf43 (PlF.c sizeOf57 (PlF.c sizeOf60 (PlF.n)))))) rfl rfl) (rfl)) ?_;exact Kz.p):P:=h ⟨k⟩
theorem zxf (k:Q) (h:ZW Q->P:=by intro Kz;refine rv rfl rfl rfl (addU_r rfl rfl zG zG) ?_;exact Kz.p):P:=h ⟨k⟩
theorem zyf (k:Q) (h:ZW Q->P:=by intro Kz;refine nE false results44 rfl A1 rfl ?_;exact Kz.p):P:=h ⟨k⟩
theorem zzf (k:Q) (h:ZW Q->P:=by intro Kz;refine call call98 rfl rfl rfl (λW hS=>by rw[<-he];exact nD _ W) (v:=.int .i64 e) ?_;exact Kz.p):P:=h ⟨k⟩
theorem zAf (k:Q) (h:ZW Q->P:=by intro Kz;refine rv rfl rfl rfl (RV.re (v':=.slice (some ⟨bg,og,none⟩) gs.length rx.c3) (ldR_r isAgg25 rfl A0 hb1 hm1 trivial rfl) zOc) ?_;exact Kz.p):P:=h ⟨k⟩
theorem zBf (k:Q) (h:ZW Q->P:=by intro Kz;refine call call163 rfl rfl rfl (λW hS=>nzc l hxl N a cp W (aco hN (hS.links w A1).size) (hsl.up (abo _) (hS.same A1 hN zN zH))) ?_;exact Kz.p):P:=h ⟨k⟩
theorem zCf (k:Q) (h:ZW Q->P:=by intro Kz;refine OX.done ?_;refine PX.next ?_;exact Kz.p):P:=h ⟨k⟩
theorem zDf (k:Q) (h:ZW Q->P:=by intro Kz;refine allW zeroValue111 rfl rfl ?_;exact Kz.p):P:=h ⟨k⟩
theorem zEf (k:Q) (h:ZW Q->P:=by intro Kz;refine rv rfl rfl rfl (RV.re (v':=.agg (itA x)) (ldRAw_r isAgg56 sizeOf56 rfl A0 hb1 hm1 trivial rfl) (rfl)) ?_;refine rv rfl rfl rfl (bldS_r underlying146 zeroValue146 (PlF.c sizeOf56 (PlF.n)) rfl rfl) ?_;refine allW zeroValue146 rfl rfl ?_;exact Kz.p):P:=h ⟨k⟩
theorem zFf (k:Q) (h:ZW Q->P:=by intro Kz;refine B 13 ?_;refine rv rfl rfl rfl (RV.re (v':=.bool true) (leq_r rfl rfl) (congrArg Value.bool (decide_eq_true zG))) ?_;exact Kz.p):P:=h ⟨k⟩
theorem zGf (k:Q) (h:ZW Q->P:=by intro Kz;refine rv rfl rfl rfl (RV.re (v':=.agg #[.slice a ns.length cp]) (ldRAw_r isAgg60 sizeOf60 rfl A0 hb2 hm2 zF rfl) (rfl)) ?_;exact Kz.p):P:=h ⟨k⟩
theorem zHf (k:Q) (h:ZW Q->P:=by intro Kz;refine rv rfl rfl rfl (RV.re (v':=.agg (dg itf)) (ldWAw_r (i:=6) rfl isAgg43 sizeOf43 rfl rfl) (rfl)) ?_;refine rv rfl rfl rfl (RV.re (v':=.agg (cnC (apC Z itf 0 1))) (ldWAw_r (i:=5) rfl isAgg67 sizeOf67 rfl rfl) (rfl)) ?_;exact Kz.p):P:=h ⟨k⟩
theorem zIf (k:Q) (h:ZW Q->P:=by intro Kz;refine rv rfl rfl rfl (RV.re (v':=.agg (wrA x.w)) (ldWA_r (i:=0) rfl isAgg178 sizeOf178 rfl (apo rfl)) (rfl)) ?_;exact Kz.p):P:=h ⟨k⟩
theorem zJf (k:Q) (h:ZW Q->P:=by intro Kz;refine retO (.inl rfl) results11 (RS.wA (i:=0) rfl isAgg67 sizeOf67 rfl (apo rfl) (RS.t rfl (RS.n))) A1 zL ?_;exact Kz.p):P:=h ⟨k⟩
theorem zKf (k:Q) (h:ZW Q->P:=by intro Kz;refine PJ.reH (H':=[(b21,.cells (cf 128 (endF n m j N)) 5 (0,0)),(b3,.cells (stN n m (nBlk n)).cells 207 (0,0)),(b2,.cells (outN (stN n m (nBlk n)) (i+1)) 43 (0,0))]) (by rw[<-nSj _ i zG];rfl) ?_;exact Kz.p):P:=h ⟨k⟩
theorem zLf (k:Q) (h:ZW Q->P:=by intro Kz;refine CJ.less (E':=[(2,_),(3,_),(4,_),(5,_),(6,_),(8,_),(9,_),(12,_),(13,_),(14,_),(15,_),(16,_),(17,_),(18,_),(19,_),(20,_),(21,_),(22,_),(23,_),(24,_),(25,_)]) zR ?_;exact Kz.p):P:=h ⟨k⟩
theorem zMf (k:Q) (h:ZW Q->P:=by intro Kz;refine rv rfl rfl rfl (RV.re (v':=.int .u64 (r1:Int)) (subW_r rfl rfl) (congrArg (Value.int .u64) zyb)) ?_;exact Kz.p):P:=h ⟨k⟩
theorem zNf (k:Q) (h:ZW Q->P:=by intro Kz;refine rv rfl rfl rfl (RV.re (v':=.agg (itA x)) (ldWAw_r (i:=0) rfl isAgg146 sizeOf146 rfl rfl) (rfl)) ?_;exact Kz.p):P:=h ⟨k⟩
theorem zOf (k:Q) (h:ZW Q->P:=by intro Kz;refine retO (.inl rfl) results165 (RS.t rfl (RS.n)) A2 zL ?_;exact Kz.p):P:=h ⟨k⟩
theorem zPf (k:Q) (h:ZW Q->P:=by intro Kz;refine CX.seq ?_;refine CX.region ?_;exact Kz.p):P:=h ⟨k⟩
theorem zQf (k:Q) (h:ZW Q->P:=by intro Kz;refine rv rfl rfl rfl (RV.re (v':=.agg (poC p)) (ldRAw_r isAgg34 sizeOf34 rfl A0 hb4 hm4 zF rfl) (rfl)) ?_;exact Kz.p):P:=h ⟨k⟩
theorem zRf (k:Q) (h:ZW Q->P:=by intro Kz;refine rv rfl rfl rfl (RV.re (v':=ptr b4 j) (idxA_r underlying268 sizeOf205 rfl rfl zG zG) (congrArg (ptr b4) zG)) ?_;refine stW (i:=0) rfl sizeOf205 rfl rfl rfl rfl (by rw[nZ];omega) rfl ?_;exact Kz.p):P:=h ⟨k⟩
theorem zSf (k:Q) (h:ZW Q->P:=by intro Kz;refine rv rfl rfl rfl (RV.re (v':=.bool ((kget (usL (memL ns)) x.at_).getD false)) (mget1_r (ev:=Value.bool) underlying280 underlying3 zeroValue4 hm (Lies.own (i:=1) rfl) rfl rfl) (nJi _)) ?_;exact Kz.p):P:=h ⟨k⟩
theorem zTf (k:Q) (h:ZW Q->P:=by intro Kz;refine nMc (f:=91) (i:=2) (first:=[]) (cap:=[]) rfl rfl call91 rfl rfl rfl (λW hS hW=>nTd (S8.at (stN n m (nBlk n)) i).toNat b2 (4*i) _ _ _ _ zG (by rw[outN,nZ];omega) W hW) ?_;exact Kz.p):P:=h ⟨k⟩
theorem zUf (k:Q) (h:ZW Q->P:=by intro Kz;refine rv rfl rfl rfl (mulU_r rfl rfl zG (by have:=hqy zG;omega)) ?_;exact Kz.p):P:=h ⟨k⟩
theorem zVf (k:Q) (h:ZW Q->P:=by intro Kz;refine rv rfl rfl rfl (ldR_r (v:=.int .i64 x) isAgg3 rfl A0 hcs0 zO trivial (nF hel0 hx rfl zI)) ?_;exact Kz.p):P:=h ⟨k⟩
theorem zWf (k:Q) (h:ZW Q->P:=by intro Kz;refine retV results98 rfl A0 ?_;refine congrArg (Value.int .i64) ?_;exact Kz.p):P:=h ⟨k⟩
theorem zXf (k:Q) (h:ZW Q->P:=by intro Kz;refine nvg (bo:=λp:Nat×Nat=>(p.1,.cells (cf p.2 (λ_=>.int .u8 0)) 5 (0,0))) (Φ:=λp=>(nr ss).length<=p.2) call92 rfl rfl rfl (λW hS=>nrl _ h0 h1 W) ?_;exact Kz.p):P:=h ⟨k⟩
theorem zYf (k:Q) (h:ZW Q->P:=by intro Kz;refine call call156 rfl rfl rfl (λW hS=>by rw[<-htr];exact nHb ns hn N a cp W (aco hN (hS.links w A1).size) (hsl.up (abo _) (hS.same A1 hN zN z6))) (v:=.int .i64 210) ?_;exact Kz.p):P:=h ⟨k⟩
theorem zZf (k:Q) (h:ZW Q->P:=by intro Kz;refine call call165 rfl rfl rfl (λW hS=>nve G N W (aco hN (hS.links w A1).size) (hG.up (abo _) (hS.same A1 hN zN zH)) l hxl a cp (hsl.up (abo _) (hS.same A1 hN zN zH)) au) ?_;exact Kz.p):P:=h ⟨k⟩
theorem z0f (k:Q) (h:ZW Q->P:=by intro Kz;refine rv rfl rfl rfl (RV.re (v':=.bool true) (neqI_r rfl rfl) (congrArg Value.bool zkb)) ?_;exact Kz.p):P:=h ⟨k⟩
theorem z1f (k:Q) (h:ZW Q->P:=by intro Kz;refine stW (i:=0) rfl sizeOf3 rfl rfl rfl rfl (apo rfl) rfl ?_;exact Kz.p):P:=h ⟨k⟩
theorem z2f (k:Q) (h:ZW Q->P:=by intro Kz;refine rv rfl rfl rfl (ldWAw_r (i:=2) rfl isAgg43 sizeOf43 rfl (by rw[outN,nZ])) ?_;refine stWw (i:=2) rfl sizeOf43 rfl rfl rfl zQc (by rw[outN,nZ]) rfl ?_;exact Kz.p):P:=h ⟨k⟩
theorem z3f (k:Q) (h:ZW Q->P:=by intro Kz;refine rv rfl rfl rfl (RV.re (v':=.slice rx.a4 is.length rx.c4) (ldR_r isAgg26 rfl A0 hb1 hm1 trivial rfl) (by show Value.slice rx.a4 rx.n4 rx.c4=_;rw[hin])) ?_;exact Kz.p):P:=h ⟨k⟩
theorem z4f (k:Q) (h:ZW Q->P:=by intro Kz;refine rv rfl rfl rfl (RV.re (v':=.slice rx.a3 gs.length rx.c3) (ldR_r isAgg25 rfl A0 hb1 hm1 trivial rfl) (by show Value.slice rx.a3 rx.n3 rx.c3=_;rw[hgn])) ?_;exact Kz.p):P:=h ⟨k⟩
theorem z5f (k:Q) (h:ZW Q->P:=by intro Kz;refine stWw (i:=0) rfl sizeOf210 rfl rfl rfl rfl rfl rfl ?_;exact Kz.p):P:=h ⟨k⟩
theorem z6f (k:Q) (h:ZW Q->P:=by intro Kz;refine stWw (i:=0) rfl sizeOf184 rfl rfl rfl rfl rfl rfl ?_;exact Kz.p):P:=h ⟨k⟩
theorem z7f (k:Q) (h:ZW Q->P:=by intro Kz;refine rv rfl rfl rfl (mkFF_r rfl rfl) ?_;exact Kz.p):P:=h ⟨k⟩
theorem z8f (k:Q) (h:ZW Q->P:=by intro Kz;refine retO (.inl rfl) results163 (RS.t rfl (RS.n)) A0 zL ?_;exact Kz.p):P:=h ⟨k⟩
theorem z9f (k:Q) (h:ZW Q->P:=by intro Kz;refine call call106 rfl rfl rfl (λW hS=>n4c _ _ _ W) ?_;exact Kz.p):P:=h ⟨k⟩
theorem zag (k:Q) (h:ZW Q->P:=by intro Kz;refine allW zeroValue322 rfl rfl ?_;exact Kz.p):P:=h ⟨k⟩
theorem zbg (k:Q) (h:ZW Q->P:=by intro Kz;refine allW zeroValue229 rfl rfl ?_;exact Kz.p):P:=h ⟨k⟩
theorem zdg (k:Q) (h:ZW Q->P:=by intro Kz;refine n9c (enc:=ndE) (m:=2) (t:=359) (xs:=[]) (v:=λs=>.agg #[s]) (first:=[]) (cap:=[]) rfl call175 rfl rfl rfl (λW hS=>nTe W) ?_;exact Kz.p):P:=h ⟨k⟩
theorem zeg (k:Q) (h:ZW Q->P:=by intro Kz;refine rv rfl rfl rfl (ldR_r (v:=.int .i64 n) isAgg3 rfl A0 hcsq zO zab zid) ?_;exact Kz.p):P:=h ⟨k⟩
theorem zfg (k:Q) (h:ZW Q->P:=by intro Kz;refine rv rfl rfl rfl (RV.re (v':=.int .i64 (((nr (ss.take (j+1))).length:Nat):Int)) (addI_r rfl rfl zG zG) (congrArg (Value.int .i64) zG)) ?_;exact Kz.p):P:=h ⟨k⟩
theorem zgg (k:Q) (h:ZW Q->P:=by intro Kz;refine call call173 rfl rfl rfl (λW hS=>nTj ns hn N a cp W (aco hN (hS.links w A1).size) (hsl.up (abo _) (hS.same A1 hN zN z6)) htr d hd hno) ?_;exact Kz.p):P:=h ⟨k⟩
theorem zhg (k:Q) (h:ZW Q->P:=by intro Kz;refine allW zeroValue41 rfl rfl ?_;exact Kz.p):P:=h ⟨k⟩
theorem zjg (k:Q) (h:ZW Q->P:=by intro Kz;refine call call173 rfl rfl rfl (λW hS=>nvf ns hn N a cp W (aco hN (hS.links w A1).size) (hsl.up (abo _) (hS.same A1 hN zN z6)) htr d true) ?_;exact Kz.p):P:=h ⟨k⟩
theorem zkg (k:Q) (h:ZW Q->P:=by intro Kz;refine bslW underlying41 sizeOf62 zeroValue62 rfl rfl rfl rfl rfl rfl rfl ?_;exact Kz.p):P:=h ⟨k⟩
theorem zlg (k:Q) (h:ZW Q->P:=by intro Kz;refine B 2 ?_;refine rv rfl rfl rfl (mulW_r rfl rfl) ?_;refine B 1 ?_;refine rv rfl rfl rfl (addW_r rfl rfl) ?_;refine B 1 ?_;refine rv rfl rfl rfl (mulW_r rfl rfl) ?_;refine B 1 ?_;refine zZd ?_;refine B 1 ?_;refine zae ?_;refine B 5 ?_;exact Kz.p):P:=h ⟨k⟩
theorem zmg (k:Q) (h:ZW Q->P:=by intro Kz;refine rv rfl rfl rfl (RV.re (v':=.bool false) (neqI_r rfl rfl) rfl) ?_;exact Kz.p):P:=h ⟨k⟩
theorem zng (k:Q) (h:ZW Q->P:=by intro Kz;refine B 6 ?_;refine rv rfl rfl rfl (RV.re (v':=.agg (gpA G)) (ldRAw_r isAgg62 sizeOf62 rfl A1 hb2 hm2 zF rfl) (rfl)) ?_;refine call call110 rfl rfl rfl (λW hS=>by rw[<-hv];exact nI G N W (aco hN (hS.links w A2).size) (hG.up (abo _) (hS.same A2 hN zN zH))) (v:=.bool true) ?_;refine rv rfl rfl rfl (RV.re (v':=.bool false) (notB_r rfl) rfl) ?_;refine B 8 ?_;refine rv rfl rfl rfl (RV.re (v':=.agg (cmA c)) (ldRAw_r isAgg102 sizeOf102 rfl A0 hb3 hm3 zF rfl) (rfl)) ?_;exact Kz.p):P:=h ⟨k⟩
theorem zog (k:Q) (h:ZW Q->P:=by intro Kz;refine rv rfl rfl rfl (RV.re (v':=.bool true) (lss_r rfl rfl) (congrArg Value.bool (decide_eq_true zG))) ?_;exact Kz.p):P:=h ⟨k⟩
theorem zpg (k:Q) (h:ZW Q->P:=by intro Kz;refine B 7 ?_;refine zWd ?_;exact Kz.p):P:=h ⟨k⟩
theorem zqg (k:Q) (h:ZW Q->P:=by intro Kz;refine rv rfl rfl rfl (RV.re (v':=.bool false) (neqI_r rfl rfl) (congrArg Value.bool zkb)) ?_;exact Kz.p):P:=h ⟨k⟩
theorem zrg (k:Q) (h:ZW Q->P:=by intro Kz;refine rv rfl rfl rfl (RV.re (v':=.agg (poC (pol1 b15 b16))) (ldWAw_r (i:=7) rfl isAgg34 sizeOf34 rfl rfl) (rfl)) ?_;exact Kz.p):P:=h ⟨k⟩
theorem zsg (k:Q) (h:ZW Q->P:=by intro Kz;refine rv rfl rfl rfl (mulU_r rfl rfl zG zG) ?_;exact Kz.p):P:=h ⟨k⟩
theorem ztg (k:Q) (h:ZW Q->P:=by intro Kz;refine B 3 ?_;refine rv rfl rfl rfl (shrC_r 8 256 zI rfl rfl rfl) ?_;refine B 13 ?_;refine zNe ?_;exact Kz.p):P:=h ⟨k⟩
theorem zug (k:Q) (h:ZW Q->P:=by intro Kz;refine enter (vs:=[_,_,_]) func148 rfl ntmps148 rfl ?_;refine B 10 ?_;refine zOe ?_;refine B 10 ?_;refine rv rfl rfl rfl (RV.re (v':=.bool false) (leq_r rfl rfl) (congrArg Value.bool (decide_eq_false zG))) ?_;refine B 9 ?_;exact Kz.p):P:=h ⟨k⟩
theorem zvg (k:Q) (h:ZW Q->P:=by intro Kz;refine rv rfl rfl rfl (RV.re (v':=.bool false) (gtr_r rfl rfl) (congrArg Value.bool (decide_eq_false zG))) ?_;exact Kz.p):P:=h ⟨k⟩
theorem zwg (k:Q) (h:ZW Q->P:=by intro Kz;refine call call111 rfl rfl rfl (λW hS=>by rw[<-hck];exact nmb c hcg.few N W (aco hN (hS.links w A2).size) (hC.up (abo _) (hS.same A2 hN zN zH))) (v:=.int .i64 0) ?_;exact Kz.p):P:=h ⟨k⟩
theorem zxg (k:Q) (h:ZW Q->P:=by intro Kz;refine zYd ?_;refine OJ.off rfl (apo rfl) rfl ?_;exact Kz.p):P:=h ⟨k⟩
theorem zyg (k:Q) (h:ZW Q->P:=by intro Kz;refine stWw (i:=1) rfl sizeOf60 rfl rfl rfl rfl rfl (Rw.val_one2 _ _) ?_;refine B 4 ?_;exact Kz.p):P:=h ⟨k⟩
theorem zzg (k:Q) (h:ZW Q->P:=by intro Kz;refine call call147 rfl rfl rfl (λW hS=>nLh _ _ zG zG zG zG W) ?_;refine B 11 ?_;refine call call148 rfl rfl rfl (λW hS=>ngf _ _ _ zG zG zG zG zG W) ?_;exact Kz.p):P:=h ⟨k⟩
theorem zAg (k:Q) (h:ZW Q->P:=by intro Kz;refine B 12 ?_;refine call call181 rfl rfl rfl (λW hS=>nDh 0 zI zI W) ?_;exact Kz.p):P:=h ⟨k⟩
theorem zBg (k:Q) (h:ZW Q->P:=by intro Kz;refine bslR underlying74 sizeOf67 zeroValue67 rfl rfl rfl rfl rfl rfl rfl ?_;exact Kz.p):P:=h ⟨k⟩
theorem zCg (k:Q) (h:ZW Q->P:=by intro Kz;refine stWw (i:=0) rfl sizeOf60 rfl rfl rfl rfl rfl (Rw.val_one2 _ _) ?_;exact Kz.p):P:=h ⟨k⟩
theorem zDg (k:Q) (h:ZW Q->P:=by intro Kz;refine nT (it2 hM (λ_=>False) (hI [] _)) [] (vs:=[_,_]) func278 rfl ntmps278 rfl (nMd hM (hI [] _) h0 zS (by simp[Dist]) zS) ?_;exact Kz.p):P:=h ⟨k⟩
theorem zEg (k:Q) (h:ZW Q->P:=by intro Kz;refine rv rfl rfl rfl (mskC_r 32 4294967296 zI rfl rfl rfl rfl zG zG) ?_;exact Kz.p):P:=h ⟨k⟩
theorem zFg (k:Q) (h:ZW Q->P:=by intro Kz;refine rv rfl rfl rfl (mget2_r (ev:=(Value.int .i64)) underlying309 underlying3 zeroValue3 hm (Lies.own (i:=0) rfl) rfl rfl) ?_;exact Kz.p):P:=h ⟨k⟩
theorem zGg (k:Q) (h:ZW Q->P:=by intro Kz;refine nE _ results17 rfl A2 rfl ?_;exact Kz.p):P:=h ⟨k⟩
theorem zHg (k:Q) (h:ZW Q->P:=by intro Kz;refine enter (vs:=[_,_]) func46 rfl ntmps46 rfl ?_;refine B 14 ?_;exact Kz.p):P:=h ⟨k⟩
theorem zIg (k:Q) (h:ZW Q->P:=by intro Kz;refine allW zeroValue104 rfl rfl ?_;exact Kz.p):P:=h ⟨k⟩
theorem zJg (k:Q) (h:ZW Q->P:=by intro Kz;refine wpIn_loop (λa W=>∃m,Inv a W m) (λa W=>nhd (Inv a W)) ⟨_,x0,rfl,h0,hN,hD,hE.fits hF,hS.lessL hL⟩ ?_;exact Kz.p):P:=h ⟨k⟩
theorem zKg (k:Q) (h:ZW Q->P:=by intro Kz;refine rv rfl rfl rfl (RV.re (v':=.agg (poC p)) (ldRA_r isAgg34 sizeOf34 rfl A0 hb7 hm7 zF (apo rfl)) (rfl)) ?_;refine zee ?_;exact Kz.p):P:=h ⟨k⟩
theorem zLg (k:Q) (h:ZW Q->P:=by intro Kz;refine OJ.perm (List.Perm.swap _ _ _) ?_;exact Kz.p):P:=h ⟨k⟩
theorem zMg (k:Q) (h:ZW Q->P:=by intro Kz;refine CJ.less (E':=[(0,_),(1,_),(2,_),(4,_),(5,_)]) zR ?_;exact Kz.p):P:=h ⟨k⟩
theorem zNg (k:Q) (h:ZW Q->P:=by intro Kz;refine stWw (i:=1) rfl sizeOf109 rfl rfl rfl rfl rfl rfl ?_;refine stWw (i:=0) rfl sizeOf111 rfl rfl rfl rfl rfl rfl ?_;exact Kz.p):P:=h ⟨k⟩
theorem zOg (k:Q) (h:ZW Q->P:=by intro Kz;refine allW zeroValue67 rfl rfl ?_;exact Kz.p):P:=h ⟨k⟩
theorem zPg (k:Q) (h:ZW Q->P:=by intro Kz;refine stW (i:=1) rfl sizeOf200 rfl rfl rfl rfl (apo rfl) rfl ?_;exact Kz.p):P:=h ⟨k⟩
theorem zQg (k:Q) (h:ZW Q->P:=by intro Kz;refine stW (i:=1) rfl sizeOf147 rfl rfl rfl rfl (apo rfl) rfl ?_;exact Kz.p):P:=h ⟨k⟩
theorem zRg (k:Q) (h:ZW Q->P:=by intro Kz;refine CJ.less (E':=[(0,_),(1,_),(2,_),(3,_),(4,_),(6,_),(7,_),(14,_),(15,_),(16,_),(17,_)]) zR ?_;exact Kz.p):P:=h ⟨k⟩
theorem zSg (k:Q) (h:ZW Q->P:=by intro Kz;refine rv rfl rfl rfl (slS_r (l:=64) (h:=N-64*k) underlying52 sizeOf5 rfl ⟨_,_,rfl,rfl⟩ rfl zG zG rfl) ?_;exact Kz.p):P:=h ⟨k⟩
theorem zTg (k:Q) (h:ZW Q->P:=by intro Kz;refine rv rfl rfl rfl (RV.re (v':=.agg (dg G.g.last)) (ldRA_r isAgg43 sizeOf43 rfl A0 hb3 hm3 zWc (apo rfl)) (rfl)) ?_;exact Kz.p):P:=h ⟨k⟩
theorem zUg (k:Q) (h:ZW Q->P:=by intro Kz;refine mkMW (v:=.agg #[]) rfl rfl ?_;exact Kz.p):P:=h ⟨k⟩
theorem zVg (k:Q) (h:ZW Q->P:=by intro Kz;refine rv rfl rfl rfl (RV.re (v':=.agg (dg c.par)) (ldWA_r (i:=0) rfl isAgg43 sizeOf43 rfl (apo rfl)) (rfl)) ?_;exact Kz.p):P:=h ⟨k⟩
theorem zWg (k:Q) (h:ZW Q->P:=by intro Kz;refine rv rfl rfl rfl (RV.re (v':=.agg nfb) (ldRA_r isAgg31 sizeOf31 rfl A0 hb0 hm0 trivial (apo rfl)) (rfl)) ?_;exact Kz.p):P:=h ⟨k⟩
theorem zXg (k:Q) (h:ZW Q->P:=by intro Kz;refine rv rfl rfl rfl (RV.re (v':=.slice fa fos.length fc) (ldR_r isAgg22 rfl A1 hb2 hm2 trivial rfl) (rfl)) ?_;exact Kz.p):P:=h ⟨k⟩
theorem zYg (k:Q) (h:ZW Q->P:=by intro Kz;refine call call232 rfl rfl rfl (λW hS=>nhf _ zG zG W) ?_;exact Kz.p):P:=h ⟨k⟩
theorem zZg (k:Q) (h:ZW Q->P:=by intro Kz;refine PJ.reH (H':=[(b',.cells (nr (ss.take (j+1))++sp').toArray 5 (0,0))]) (by rw[nHc ss j zG];rfl) ?_;exact Kz.p):P:=h ⟨k⟩
theorem z0g (k:Q) (h:ZW Q->P:=by intro Kz;refine rv rfl rfl rfl (RV.re (v':=.slice la cs.length lc) (ldR_r isAgg24 rfl A0 hb1 hm1 trivial rfl) (rfl)) ?_;exact Kz.p):P:=h ⟨k⟩
theorem z1g (k:Q) (h:ZW Q->P:=by intro Kz;refine stWw (i:=1) rfl sizeOf104 rfl rfl rfl rfl rfl rfl ?_;exact Kz.p):P:=h ⟨k⟩
theorem z2g (k:Q) (h:ZW Q->P:=by intro Kz;refine stWw (i:=0) rfl sizeOf359 rfl rfl rfl rfl rfl rfl ?_;exact Kz.p):P:=h ⟨k⟩
theorem z3g (k:Q) (h:ZW Q->P:=by intro Kz;refine stWw (i:=0) rfl sizeOf248 rfl rfl rfl rfl rfl rfl ?_;exact Kz.p):P:=h ⟨k⟩
theorem z4g (k:Q) (h:ZW Q->P:=by intro Kz;refine stWw (i:=0) rfl sizeOf186 rfl rfl rfl rfl rfl rfl ?_;exact Kz.p):P:=h ⟨k⟩
theorem z5g (k:Q) (h:ZW Q->P:=by intro Kz;refine stWw (i:=0) rfl sizeOf138 rfl rfl rfl rfl rfl rfl ?_;exact Kz.p):P:=h ⟨k⟩
theorem z6g (k:Q) (h:ZW Q->P:=by intro Kz;refine stWw (i:=3) rfl sizeOf39 rfl rfl rfl rfl rfl rfl ?_;exact Kz.p):P:=h ⟨k⟩
theorem z7g (k:Q) (h:ZW Q->P:=by intro Kz;refine stWw (i:=2) rfl sizeOf39 rfl rfl rfl rfl rfl rfl ?_;exact Kz.p):P:=h ⟨k⟩
theorem z8g (k:Q) (h:ZW Q->P:=by intro Kz;refine stWw (i:=0) rfl sizeOf99 rfl rfl rfl rfl rfl rfl ?_;exact Kz.p):P:=h ⟨k⟩
theorem z9g (k:Q) (h:ZW Q->P:=by intro Kz;refine stWw (i:=0) rfl sizeOf56 rfl rfl rfl rfl rfl rfl ?_;exact Kz.p):P:=h ⟨k⟩
theorem zah (k:Q) (h:ZW Q->P:=by intro Kz;refine rv rfl rfl rfl (RV.re (v':=.int .i64 d.c.author) (ldR_r isAgg3 rfl A1 hb1 hm1 trivial rfl) (rfl)) ?_;exact Kz.p):P:=h ⟨k⟩
theorem zbh (k:Q) (h:ZW Q->P:=by intro Kz;refine rv rfl rfl rfl (RV.re (v':=.bool true) (gtr_r rfl rfl) (congrArg Value.bool (decide_eq_true zG))) ?_;exact Kz.p):P:=h ⟨k⟩
theorem zdh (k:Q) (h:ZW Q->P:=by intro Kz;refine rv rfl rfl rfl (RV.re (v':=.agg (poC p)) (ldRAw_r isAgg34 sizeOf34 rfl A0 hb5 hm5 zF rfl) (rfl)) ?_;exact Kz.p):P:=h ⟨k⟩
theorem zeh (k:Q) (h:ZW Q->P:=by intro Kz;refine rv rfl rfl rfl (RV.re (v':=.agg (itA x)) (ldRAw_r isAgg56 sizeOf56 rfl A0 hb1 hm1 zF rfl) (rfl)) ?_;exact Kz.p):P:=h ⟨k⟩
theorem zfh (k:Q) (h:ZW Q->P:=by intro Kz;refine CJ.less (E':=[(0,_),(2,_),(7,_),(17,_),(18,_),(19,_),(20,_),(21,_),(22,_)]) zR ?_;exact Kz.p):P:=h ⟨k⟩
theorem zgh (k:Q) (h:ZW Q->P:=by intro Kz;refine rv rfl rfl rfl (ldR_r (v:=.slice g.oa g.olds.length g.oc) isAgg174 rfl A1 hcsg zO trivial zJd) ?_;exact Kz.p):P:=h ⟨k⟩
theorem zhh (k:Q) (h:ZW Q->P:=by intro Kz;refine enter (vs:=[_,_,_]) func177 rfl ntmps177 rfl ?_;exact Kz.p):P:=h ⟨k⟩
theorem zih (k:Q) (h:ZW Q->P:=by intro Kz;refine enter (vs:=[_,_,_]) func173 rfl ntmps173 rfl ?_;exact Kz.p):P:=h ⟨k⟩
theorem zjh (k:Q) (h:ZW Q->P:=by intro Kz;refine enter (vs:=[_,_,_]) func120 rfl ntmps120 rfl ?_;exact Kz.p):P:=h ⟨k⟩
theorem zkh (k:Q) (h:ZW Q->P:=by intro Kz;refine enter (vs:=[_,_,_]) func112 rfl ntmps112 rfl ?_;exact Kz.p):P:=h ⟨k⟩
theorem zlh (k:Q) (h:ZW Q->P:=by intro Kz;refine call call96 rfl rfl rfl (λW hS=>nOd [a,b] _ _ _ _ _ rfl zS W (hS.old A0 hb8 hm8 trivial)) ?_;exact Kz.p):P:=h ⟨k⟩
theorem zmh (k:Q) (h:ZW Q->P:=by intro Kz;refine rv rfl rfl rfl (RV.re (v':=.bool false) (notB_r rfl) rfl) ?_;exact Kz.p):P:=h ⟨k⟩
theorem znh (k:Q) (h:ZW Q->P:=by intro Kz;refine B 2 ?_;refine rv rfl rfl rfl (mulW_r rfl rfl) ?_;refine B 1 ?_;refine rv rfl rfl rfl (addW_r rfl rfl) ?_;refine B 2 ?_;refine rv rfl rfl rfl (mulW_r rfl rfl) ?_;refine zMf ?_;refine B 7 ?_;refine ztf ?_;refine B 8 ?_;refine z4d ?_;exact Kz.p):P:=h ⟨k⟩
theorem zoh (k:Q) (h:ZW Q->P:=by intro Kz;refine B 6 ?_;refine retV results232 rfl A0 ?_;exact Kz.p):P:=h ⟨k⟩
theorem zph (k:Q) (h:ZW Q->P:=by intro Kz;refine nV rfl ?_;refine B 3 ?_;refine zWd ?_;exact Kz.p):P:=h ⟨k⟩
theorem zqh (k:Q) (h:ZW Q->P:=by intro Kz;refine stWw (i:=0) rfl sizeOf109 rfl rfl rfl rfl rfl rfl ?_;refine B 5 ?_;refine rv rfl rfl rfl (RV.re (v':=.agg nfb) (ldRAw_r isAgg31 sizeOf31 rfl A3 hb4 hm4 zF rfl) (rfl)) ?_;exact Kz.p):P:=h ⟨k⟩
theorem zrh (k:Q) (h:ZW Q->P:=by intro Kz;refine B 11 ?_;refine zmg ?_;refine zXd ?_;exact Kz.p):P:=h ⟨k⟩
theorem zsh (k:Q) (h:ZW Q->P:=by intro Kz;refine enter (vs:=[_,_]) func20 rfl ntmps20 rfl ?_;refine B 9 ?_;exact Kz.p):P:=h ⟨k⟩
theorem zth (k:Q) (h:ZW Q->P:=by intro Kz;refine zIf ?_;refine call call164 rfl rfl rfl (λW hS=>nIf x.w W) (v:=.int .i64 (wkI x.w)) ?_;refine B 4 ?_;exact Kz.p):P:=h ⟨k⟩
theorem zuh (k:Q) (h:ZW Q->P:=by intro Kz;refine rv rfl rfl rfl (RV.re (v':=.agg (gpA G)) (ldRAw_r isAgg62 sizeOf62 rfl A1 hb2 hm2 zF rfl) (rfl)) ?_;exact Kz.p):P:=h ⟨k⟩
theorem zvh (k:Q) (h:ZW Q->P:=by intro Kz;refine zcf ?_;refine B 7 ?_;refine zUd ?_;refine B 3 ?_;refine z0d ?_;exact Kz.p):P:=h ⟨k⟩
theorem zwh (k:Q) (h:ZW Q->P:=by intro Kz;refine B 2 ?_;refine zUf ?_;refine B 1 ?_;refine zsg ?_;refine B 1 ?_;refine zxf ?_;refine B 4 ?_;exact Kz.p):P:=h ⟨k⟩
theorem zxh (k:Q) (h:ZW Q->P:=by intro Kz;refine B 6 ?_;refine zmg ?_;exact Kz.p):P:=h ⟨k⟩
theorem zyh (k:Q) (h:ZW Q->P:=by intro Kz;refine B 8 ?_;refine zWd ?_;exact Kz.p):P:=h ⟨k⟩
theorem zzh (k:Q) (h:ZW Q->P:=by intro Kz;refine zje ?_;refine B 5 ?_;exact Kz.p):P:=h ⟨k⟩
theorem zAh (k:Q) (h:ZW Q->P:=by intro Kz;refine zoe ?_;refine z9e ?_;refine zmh ?_;refine B 9 ?_;refine zBf ?_;refine rv rfl rfl rfl (RV.re (v':=.bool false) (notB_r rfl) (by rw[hf];rfl)) ?_;exact Kz.p):P:=h ⟨k⟩
theorem zBh (k:Q) (h:ZW Q->P:=by intro Kz;refine B 1 ?_;refine nV rfl ?_;refine B 4 ?_;exact Kz.p):P:=h ⟨k⟩
theorem zCh (k:Q) (h:ZW Q->P:=by intro Kz;refine zde ?_;refine B 2 ?_;exact Kz.p):P:=h ⟨k⟩
theorem zDh (k:Q) (h:ZW Q->P:=by intro Kz;refine stWw (i:=2) rfl sizeOf43 rfl rfl rfl rfl rfl rfl ?_;refine B 3 ?_;refine retO (.inl rfl) results26 (RS.wA (i:=2) rfl isAgg43 sizeOf43 rfl (apo rfl) (RS.n)) A2 zL ?_;exact Kz.p):P:=h ⟨k⟩
theorem zEh (k:Q) (h:ZW Q->P:=by intro Kz;refine B 13 ?_;refine zxe ?_;refine B 7 ?_;refine zif ?_;refine B 5 ?_;exact Kz.p):P:=h ⟨k⟩
theorem zFh (k:Q) (h:ZW Q->P:=by intro Kz;refine zqe ?_;refine zmh ?_;refine B 8 ?_;refine z6d ?_;exact Kz.p):P:=h ⟨k⟩
theorem zGh (k:Q) (h:ZW Q->P:=by intro Kz;refine zpg ?_;refine zWd ?_;exact Kz.p):P:=h ⟨k⟩
theorem zHh (k:Q) (h:ZW Q->P:=by intro Kz;refine zqg ?_;refine B 6 ?_;refine zqg ?_;refine B 3 ?_;refine rv rfl rfl rfl (ldRA_r isAgg43 sizeOf43 rfl A0 hb3 hm3 zF (apo rfl)) ?_;refine B 1 ?_;refine rv rfl rfl rfl (ldRA_r isAgg43 sizeOf43 rfl A1 hb2 hm2 zF (apo rfl)) ?_;exact Kz.p):P:=h ⟨k⟩
theorem zIh (k:Q) (h:ZW Q->P:=by intro Kz;refine zQe ?_;refine B 5 ?_;exact Kz.p):P:=h ⟨k⟩
theorem zJh (k:Q) (h:ZW Q->P:=by intro Kz;refine B 2 ?_;refine zUd ?_;exact Kz.p):P:=h ⟨k⟩
theorem zKh (k:Q) (h:ZW Q->P:=by intro Kz;refine z6g ?_;refine B 4 ?_;refine zWd ?_;refine zue ?_;exact Kz.p):P:=h ⟨k⟩
theorem zLh (k:Q) (h:ZW Q->P:=by intro Kz;refine B 8 ?_;refine zEe ?_;refine zBe ?_;refine zxh ?_;refine B 7 ?_;refine zEe ?_;refine zXe ?_;exact Kz.p):P:=h ⟨k⟩
theorem zMh (k:Q) (h:ZW Q->P:=by intro Kz;refine B 2 ?_;refine rv rfl rfl rfl (RV.re (v':=.int .i64 x.folder) (ldW_r (i:=0) rfl isAgg3 rfl rfl) (rfl)) ?_;refine B 1 ?_;refine rv rfl rfl rfl (RV.re (v':=.int .i64 p.fo) (ldR_r isAgg3 rfl A0 hb2 hm2 zF rfl) (rfl)) ?_;exact Kz.p):P:=h ⟨k⟩
theorem zNh (k:Q) (h:ZW Q->P:=by intro Kz;refine z2e ?_;refine B 3 ?_;exact Kz.p):P:=h ⟨k⟩
theorem zOh (k:Q) (h:ZW Q->P:=by intro Kz;refine B 5 ?_;refine zve ?_;exact Kz.p):P:=h ⟨k⟩
theorem zPh (k:Q) (h:ZW Q->P:=by intro Kz;refine z3d ?_;refine B 4 ?_;refine z3d ?_;refine B 3 ?_;refine z3d ?_;refine B 3 ?_;refine rv rfl rfl rfl (eqlS_r rfl rfl) ?_;refine B 2 ?_;refine zag ?_;exact Kz.p):P:=h ⟨k⟩
theorem zQh (k:Q) (h:ZW Q->P:=by intro Kz;refine B 5 ?_;refine zIe ?_;refine B 1 ?_;refine nSb (f:=218) (cap:=[]) rfl call218 rfl rfl rfl (λW hS=>ngl x d W) ?_;exact Kz.p):P:=h ⟨k⟩
theorem zRh (k:Q) (h:ZW Q->P:=by intro Kz;refine enter (vs:=[_,_]) func215 rfl ntmps215 rfl ?_;refine B 3 ?_;exact Kz.p):P:=h ⟨k⟩
theorem zSh (k:Q) (h:ZW Q->P:=by intro Kz;refine rv rfl rfl rfl (addV_r rfl rfl) ?_;refine B 1 ?_;refine stW (i:=0) rfl sizeOf205 rfl rfl rfl rfl (apo rfl) rfl ?_;exact Kz.p):P:=h ⟨k⟩
theorem zTh (k:Q) (h:ZW Q->P:=by intro Kz;refine B 10 ?_;refine zUd ?_;refine B 2 ?_;refine zPe ?_;exact Kz.p):P:=h ⟨k⟩
theorem zUh (k:Q) (h:ZW Q->P:=by intro Kz;refine enter (vs:=[_,_]) func176 rfl ntmps176 rfl ?_;refine B 3 ?_;exact Kz.p):P:=h ⟨k⟩
theorem zVh (k:Q) (h:ZW Q->P:=by intro Kz;refine B 1 ?_;refine zuf ?_;refine B 1 ?_;refine bslR underlying211 sizeOf52 zeroValue52 rfl rfl rfl rfl rfl rfl rfl ?_;exact Kz.p):P:=h ⟨k⟩
theorem zWh (k:Q) (h:ZW Q->P:=by intro Kz;refine B 2 ?_;refine zWd ?_;exact Kz.p):P:=h ⟨k⟩
theorem zXh (k:Q) (h:ZW Q->P:=by intro Kz;refine enter (vs:=[_]) func135 rfl ntmps135 rfl ?_;refine B 3 ?_;exact Kz.p):P:=h ⟨k⟩
theorem zYh (k:Q) (h:ZW Q->P:=by intro Kz;refine rv rfl rfl rfl (RV.re (v':=.int .i64 (i:Int)) (mv_r rfl) (congrArg (Value.int .i64) zG)) ?_;refine B 1 ?_;exact Kz.p):P:=h ⟨k⟩
theorem zZh (k:Q) (h:ZW Q->P:=by intro Kz;refine zOh ?_;refine B 1 ?_;exact Kz.p):P:=h ⟨k⟩
theorem z0h (h:P:=by first|exact nb (λh=>absurd h.fo zZ)|exact nb (λh=>by have:=h.e1;omega)|exact nb (λh=>by have:=h.e2;omega)|exact nb (λh=>absurd h.au zZ)|exact nb (λh=>absurd h.ch zeb)|exact nb (λh=>by have:=h.pl;omega)|exact nb (λh=>by have:=h.bl;omega)|exact nb (λh=>by have:=h.wl;omega)|exact nb (λh=>by have:=hek.2 (h.path _ _ hy);omega)|exact nb (λh=>by have h9:=h.box _ _ hx;have h8:=h9.1;have h7:=nu.2 h9.2;omega)|exact nb (λh=>by have h9:=h.wel _ _ hx;exact h1 h9.1)|exact nb (λh=>by have h9:=h.wel _ _ hx;have h8:=nu.2 h9.2.2;omega)|exact nb (λh=>by have h9:=(h.wel _ _ hx).2.1 y zG hy;omega)|exact nib ⟨by assumption,by omega,by omega,by assumption,by assumption,by omega,by omega,by omega,hA1,hA2,hto.all zG⟩):P:=h
theorem z1h (h:P:=by exact absurd (show false=true from hr) zI):P:=h
theorem z2h (h:P:=by
  first|(have hD0:=hd.stop hy1a zG;obtain⟨q2,rfl⟩:∃q2,q2=q:=⟨_,rfl⟩)|(have hD0:=nnb zG zG hm2 hm3 hy1a zG;generalize q-1=q2 at *)
  rw[hYe]at hD0
  obtain⟨r0,hr0⟩:∃z,(r1*2^32+v0)%Y=z:=⟨_,rfl⟩
  have hr0Y:r0<Y:=by rw[<-hr0];exact Nat.mod_lt _ zG
  have hz0:q2*Y+r0=r1*2^32+v0:=by have:=a4o (r1*2^32+v0) Y;rw[hD0,hr0,a6o]at this;exact this
  have hall:u*2^64+v=(q1*2^32+q2)*Y+r0:=by have:=nYb u v Y r1 zhc;rw[show v/2^32=v1 from hv1,show v%2^32=v0 from hv0,hD1,hD0,hr0]at this;exact this
  obtain⟨hf1,hf2⟩:=nXb hi lo y s (q1*2^32+q2) r0 zoc z1b
  have hq1s:=Dig.small (un:=v1) hy1a huY hv1a
  rw[hYe,hD1]at hq1s
  have hq2s:=Dig.small (un:=v0) hy1a hur1 hv0a
  rw[hYe,hD0]at hq2s
  refine zlg ?_
  refine nP results148 rfl rfl A0 ?_ ?_
  · rw[hf1];exact congrArg (Value.int .u64) zyb
  · rw[hf2]
 ):P:=h
theorem z3h (h:P:=by first|exact congrArg (Value.int .i64) (ng p (.inl zG)).symm|exact congrArg (Value.int .i64) (ng p (.inr (.inl zG))).symm|exact congrArg (Value.int .i64) (ng p (.inr (.inr (.inl zZ)))).symm|exact congrArg (Value.int .i64) (ng p (.inr (.inr (.inr (.inl zZ))))).symm|exact congrArg (Value.int .i64) (ng p (.inr (.inr (.inr (.inr (.inl zG)))))).symm|exact congrArg (Value.int .i64) (ng p (.inr (.inr (.inr (.inr (.inr (.inl zG))))))).symm|exact congrArg (Value.int .i64) (ng p (.inr (.inr (.inr (.inr (.inr (.inr (.inl zG)))))))).symm|exact congrArg (Value.int .i64) (ng p (.inr (.inr (.inr (.inr (.inr (.inr (.inr zZ)))))))).symm|exact congrArg (Value.int .i64) (nlc p zG zG zZ zZ zG zG zG zZ).symm):P:=h
theorem z4h (h:P:=by
  refine z0e ?_
  first|exact congrArg (Value.int .i64) (n6c hto zG)|exact congrArg (Value.int .i64) (nG hx (λg=>by have g1:=g.1;have g2:=g.2.1;omega))|exact congrArg (Value.int .i64) (nG hx (λg=>by have g3:=g.2.2.1 y zG hy;omega))|exact congrArg (Value.int .i64) (nG hx (λg=>n3b (x:=x.pub) zWb g.2.2.2.1))|exact congrArg (Value.int .i64) (nG hx (λg=>by have g5:=(nPc _).2 g.2.2.2.2;simp_all))
 ):P:=h
theorem z5h (h:P:=by
  refine ss rfl rfl ?_ ?_
  · intro cv L' H' hl hP F Q' hk
    obtain rfl:=aap hl
    obtain⟨rfl,rfl⟩:=hP
    refine zLe ?_
    rintro W_ ⟨ta_,tc_⟩ w_ hS_ hB_ ⟨h1_,h2_⟩
    have hs_:=(hS_.links wm A0).size
    exact OJ.done (hk _ _ _ ⟨ta_,tc_,w_,rfl,rfl,rfl,h1_,λb off e=>(h2_ b off e).imp id (λh=>h.imp id (λh=>aco hs_ h)),aco hs_ hB_.size⟩)
  refine ss rfl rfl ?_ ?_
  · intro cv L' H' hl hP F Q' hk
    obtain⟨v1,rfl⟩:=len1 hl
    obtain⟨ta,tc,wr,rfl,rfl,rfl,hsr,htr,hzr⟩:=hP
    refine zCe ?_
    intro r_ hr_ hfit_
    exact OJ.done (hk _ _ _ ⟨ta,tc,wr,r_,rfl,rfl,rfl,rfl,hsr,htr,hzr,hr_,hfit_,Rw.ge_of hr_ A0⟩)
  refine ss rfl rfl ?_ ?_
  · intro cv L' H' hl hP F Q' hk
    obtain⟨v1,v2,rfl⟩:=len2 hl
    obtain⟨ta,tc,wr,r8,rfl,rfl,rfl,rfl,hsr,htr,hzr,hrf8,hfit8,hge8⟩:=hP
    refine B 1 ?_
    exact OJ.done (hk _ _ _ ⟨ta,tc,wr,r8,rfl,rfl,rfl,rfl,rfl,hsr,htr,hzr,hrf8,hfit8,hge8⟩)
  refine ss rfl rfl ?_ ?_
  · intro cv L' H' hl hP F Q' hk
    obtain⟨v1,v2,v3,rfl⟩:=len3 hl
    obtain⟨ta,tc,wr,r8,rfl,rfl,rfl,rfl,rfl,hsr,htr,hzr,hrf8,hfit8,hge8⟩:=hP
    refine B 1 ?_
    exact OJ.done (hk _ _ _ ⟨ta,tc,wr,r8,rfl,rfl,rfl,rfl,rfl,rfl,hsr,htr,hzr,hrf8,hfit8,hge8⟩)
  refine ss rfl rfl ?_ ?_
  · intro cv L' H' hl hP F Q' hk
    obtain⟨v1,v2,v3,v4,rfl⟩:=len4 hl
    obtain⟨ta,tc,wr,r8,rfl,rfl,rfl,rfl,rfl,rfl,hsr,htr,hzr,hrf8,hfit8,hge8⟩:=hP
    refine stW (i:=0) rfl sizeOf60 rfl rfl rfl rfl (apo rfl) (Rw.val_one2 _ _) ?_
    exact OJ.done (hk (.tuple #[]) _ _ ⟨ta,tc,wr,r8,rfl,rfl,rfl,rfl,rfl,rfl,rfl,hsr,htr,hzr,hrf8,hfit8,hge8⟩)
  exact ssn
 ):P:=h
theorem z6h (h:P:=by
  refine z7d ?_
  refine nJ 11 [4] [([],some _),([0],some (.slice G.ma G.g.ms.length G.mc)),([],some _),([2],some (.agg #[.slice G.na G.g.ns.length G.nc])),([3],none),([],some _),([1,4,5],some (.bool false)),([6],some _),([7],some undef),([7,8],some undef),([7],some undef)] (λcv L' H'=>match cv with| []=>L'=[w1,w]/\H'=[]| [v1]=>∃(a7:Option Addr) (c7:Nat) (w7:World),v1= .slice a7 (memL G.g.ns).length c7/\L'=[w7,w1,w]/\H'=[]/\SlAt (λx=>(encZ x).toArray) 1 w7.heap.size w7 a7 (memL G.g.ns)|_=>False) zM ⟨rfl,rfl⟩ zM zM zM zM zM zM (pc zBb (pc zcm (pc zAb (pc zcm (pk (pc zP (pc (λcv L' H' hd hP=>match cv,hd,hP with| [],hd,hP=>(absurd (show false=true from hd) zI)| [v1],hd,hP=>zcd|_::_::_,_,hP=>hP.elim) (pc zP (pc z3b (pc z3b (pc z3b (pn)))))))))))) ?_ ?_
  · refine sc rfl rfl rfl ?_ ?_
    · intro cv L' H' hl hP F Q' hk
      obtain rfl:=aap hl
      obtain⟨rfl,rfl⟩:=hP
      refine zme ?_
      intro W7 a7 c7 w7 hS7 hB7 hsl7 hnew7
      exact OJ.done (hk _ _ _ ⟨a7,c7,w7,rfl,rfl,rfl,hsl7⟩)
    exact sn
  · intro cv L' H' hl hP
    obtain⟨v1,rfl⟩:=len1 hl
    obtain⟨a7,c7,w7,rfl,rfl,rfl,hsl7⟩:=hP
    refine B 7 ?_
    refine retV results110 rfl A2 ?_
    exact nKd (λh=>h1 h.2.2.1)
 ):P:=h
theorem z7h (h:P:=by
  refine zOf ?_
  show Value.bool _=Value.bool _
  refine congrArg Value.bool ?_
  first|(have h1b:(mbIs G.g.ms au != decide (0<G.g.epoch))=true:=zmd;unfold posB;rw[h1b];rfl)|(have h1b:(mbIs G.g.ms au != decide (0<G.g.epoch))=false:=zmd;unfold posB;rw[h1b];simp_all)
 ):P:=h
theorem z8h (h:P:=by
  refine nHf (.inl rfl) results13 rfl zjc (λW H' hS hmap=>⟨congrArg Ending.returned (congrArg (Value.int .i64) ?_),?_⟩)
  · first|exact n0b zG (.inl zG)|exact n0b zG (.inr ⟨by assumption,by omega⟩)|exact nVb zG zG (.inl zZ)|exact nVb zG zG (.inr zG)
  · refine(hS.links w A3).below λk hk hx=>?_
    rw[hmap]at hx;simp[Gh.no,book]at hx;omega
 ):P:=h
theorem z9h (h:P:=by
  rw[ndb,ndb,hu]
  have hno:look (envN ops sp ch cv ds) t=none:=by
    have:∀js,(∀j∈js,j<nA)->look (envN ops sp ch cv js) t=none:=by
      intro js
      induction js with
      |nil=>intro _;rfl
      |cons j js ih=>
        intro hjs
        have ih':=ih λj' hj'=>hjs j' (by simp[hj'])
        unfold envN
        cases hdj:(ops[j]?).bind (·.dst)with
        |none=>exact ih'
        |some d'=>
          obtain⟨oj,hoj,hodj⟩:=aQo.1 hdj
          have hned:d'≠t:=λe'=>by
            subst e'
            rw[ok.apart j oj d' (hjs j zS) hoj hodj]at hu;cases hu
          simp only[look,nRb hned]
          exact ih'
    exact this ds (λj hj=>by have:=(hdep j hj).2;omega)
  rw[hno];rfl
 ):P:=h
theorem zai (h:P:=by
  intro js
  induction js with
  |nil=>intro h;cases h
  |cons j js ih=>
    intro hkj hjs
    unfold envN
    by_cases ej:j=q
    · subst ej
      simp only[ho',Option.bind_some,hd',look,ntb]
    · have hkj':q∈js:=by
        rcases aeo.1 hkj with h|h
        · exact absurd h.symm ej
        · exact h
      have ih':=ih hkj' λj' hj'=>hjs j' (by simp[hj'])
      cases hdj:(ops[j]?).bind (·.dst)with
      |none=>exact ih'
      |some dj=>
        obtain⟨oj,hoj,hodj⟩:=aQo.1 hdj
        have hned:dj≠d':=λe'=>ej (ok.uniq j q oj o' dj (hjs j zS) hkn hoj ho' hodj (e'▸hd'))
        simp only[look,nRb hned]
        exact ih'
 ):P:=h
theorem zbi (h:P:=by
  refine sc rfl rfl rfl ?_ ?_
  · intro cv L' H' hl hP F Q' hk
    obtain rfl:=aap hl
    obtain⟨rfl,rfl⟩:=hP
    refine zme ?_
    intro W7 a7 c7 w7 hS7 hB7 hsl7 hnew7
    exact OJ.done (hk _ _ _ ⟨a7,c7,w7,rfl,rfl,rfl,hsl7⟩)
  exact sn
 ):P:=h
theorem zdi (h:P:=by
  refine sc rfl rfl rfl ?_ ?_
  · intro cv L' H' hl hP F Q' hk
    obtain rfl:=aap hl
    obtain⟨rfl,rfl⟩:=hP
    refine zie ?_
    intro W_ a_ c_ w_ hS_ hB_ hsl_ hnew_
    have hq_:=(hS_.links wn A0).size
    exact OJ.done (hk _ _ _ ⟨a_,c_,w_,rfl,rfl,rfl,hsl_,λq e=>aco hq_ (hnew_ q e)⟩)
  exact sn
 ):P:=h
theorem zei (h:P:=by exact PJ.mid ⟨(congrArg (λb=>some (Value.bool b)) zob),rfl,rfl,rfl,rfl,rfl,rfl,rfl,rfl,rfl,rfl,rfl,rfl,rfl,trivial⟩):P:=h
theorem zfi (h:P:=by
  have hix:=nGh hix0
  have hcnt:cntO Z ls f c=none:=nmj hix0
  refine z5d ?_
  refine nw 26 [.det [] _,.det [0] _,.det [1] _,.det [2] undef,.det [2] undef,.det [2,3,4] undef,.det [2,5] undef,.det [2,6] undef,.det [2,7] _,.det [8] _,.det [9] undef,.det [9,10] undef,.det [9,11] _,.det [12] _,.det [13] undef,.det [13] undef,.det [13,14,15] undef,.det [13,16] undef,.det [13,17] undef,.det [13] undef,.det [13,19] undef,.det [13] undef,.det [13,21] undef,.det [13,20,22] undef,.det [13] undef,.det [13,24] undef] zM (xc zK (xc zld (xc zK (xc zJ (xc zJ (xc zJ (xc zJ (xc zJ (xc zfb (xc zK (xc zJ (xc zJ (xc zfb (xc zK (xc zJ (xc zJ (xc zJ (xc zJ (xc zJ (xc zJ (xc zJ (xc zJ (xc zJ (xc zJ (xc zJ (xc zJ (xn))))))))))))))))))))))))))) zM zM zM (λvals=>?_)
  refine B 14 ?_
  refine zAe ?_
  refine PJ.again (j+1) zG zG zR rfl zFb zS
 ):P:=h
theorem zgi (h:P:=by
  refine zph ?_
  refine PJ.midX (L0:=[wj,wf,w4,w3,w]) zS okb zR (λW hS=>?_)
  show okb=(okb&&lwO Z del p (gv.map λx:Gv=>x.g) x)
  unfold lwO;rw[if_pos zG,nqd (hto zG) hgg zwb]
  simp_all<;>omega
 ):P:=h
theorem zhi (h:P:=by
  have hcnt:cntO Z ls f c=none:=nXg hix0 hz (.inl hgo)
  refine z5d ?_
  refine nw 26 [.det [] _,.det [0] _,.det [1] _,.det [2] _,.det [2] _,.det [2,3,4] _,.det [2,5] _,.det [2,6] _,.det [2,7] _,.det [8] _,.det [9] undef,.det [9,10] undef,.det [9,11] _,.det [12] _,.det [13] undef,.det [13] undef,.det [13,14,15] undef,.det [13,16] undef,.det [13,17] undef,.det [13] undef,.det [13,19] undef,.det [13] undef,.det [13,21] undef,.det [13,20,22] undef,.det [13] undef,.det [13,24] undef] zM (xc zK (xc zYc (xc zK (xc zfd (xc zK (xc zrd (xc zmc (xc zwd (xc z1 (xc zK (xc zJ (xc zJ (xc zfb (xc zK (xc zJ (xc zJ (xc zJ (xc zJ (xc zJ (xc zJ (xc zJ (xc zJ (xc zJ (xc zJ (xc zJ (xc zJ (xn))))))))))))))))))))))))))) zM zM zM (λvals=>?_)
  refine B 14 ?_
  refine zAe ?_
  refine PJ.again (j+1) zG zG zR rfl zFb zS
 ):P:=h
theorem zii (h:P:=by
  intro js
  induction js with
  |nil=>intro _ _;rfl
  |cons j js ih=>
    intro hjs hkj
    have ih':=ih (λj' hj'=>hjs j' (by simp[hj'])) (λh=>hkj (by simp[h]))
    unfold envN
    cases hdj:(ops[j]?).bind (·.dst)with
    |none=>exact ih'
    |some dj=>
      obtain⟨oj,hoj,hodj⟩:=aQo.1 hdj
      have hned:dj≠d':=λe'=>hkj (by
        have:=ok.uniq j q oj o' dj (hjs j zS) hkn hoj ho' hodj (e'▸hd')
        simp[this])
      simp only[look,nRb hned]
      exact ih'
 ):P:=h
theorem zji (h:P:=by
  refine zGg ?_
  exact λW hS h=>by first|(cases h;done)|exact⟨hfr zwb,by omega⟩|(exfalso;simp_all;done)|(exact⟨hfr zwb,by simp_all;omega⟩)
 ):P:=h
theorem zki (h:P:=by
  refine zzh ?_
  exact retG (.inl rfl) results79 (RS.wA (i:=0) rfl isAgg62 sizeOf62 rfl (apo rfl) (RS.t rfl RS.n)) λW hS=>⟨zGv,rfl,hS.base A2 zL,rfl,nOc _ _,λq h=>zpc,λq h=>zpc⟩
 ):P:=h
theorem zli (h:P:=by
  by_cases h0:gs=[]
  · exact .inl h0
  · refine .inr (λp e2=>?_)
    have h1:=(hs2.ltq p e2).resolve_left h0
    have h2:=ha.mem w7 zS
    omega
 ):P:=h
theorem zmi (h:P:=by
  refine z8f ?_
  first|exact nBg hto zG|exact nbc hx (λg=>by have g1:=g.1.1;rw[<-hek1,<-hek2]at g1;exact absurd g1 zZ)|exact nbc hx (λg=>absurd g.1.2 zZ)|exact nbc hx (λg=>by have g1:=g.2;simp_all)
 ):P:=h
theorem zni (h:P:=by
  intro a W hI
  obtain⟨x,hx,hok,hN,hD,hF,hS⟩:=nxe hI
  refine wpIn_mono (round x hok a W hN hD hF hS) ?_
  intro e a' W' hq
  cases e with
  |normal=>
    obtain⟨x',hok',hlt,h1,h2,h3,h4⟩:=hq
    have hI':Inv a' W' (μ x'):=⟨x',rfl,hok',h1,h2,h3,h4⟩
    exact⟨⟨_,hI'⟩,by have:=nnf hI';omega⟩
  |_=>exact hq
 ):P:=h
theorem zoi (h:P:=by
  refine sc rfl rfl rfl ?_ ?_
  · intro cv L' H' hl hP F Q' hk
    obtain rfl:=aap hl
    obtain⟨rfl,rfl⟩:=hP
    refine zpe ?_
    rintro W_ b_ w_ hS_ hB_ ⟨hq_,hb_⟩
    try dsimp only at hq_ hb_
    have hs_:=(hS_.links wn A1).size
    exact OJ.done (hk _ _ _ ⟨b_,w_,rfl,rfl,rfl,hb_,by omega⟩)
  exact sn
 ):P:=h
theorem zpi (h:P:=by
  refine B 2 ?_
  refine PJ.again (q-1,r+y1) ⟨hm2,by omega,hm3,by omega⟩ ztc zR rfl rfl zS
 ):P:=h
theorem zqi (h:P:=by
  refine retV results45 rfl A1 ?_
  first|exact congrArg Value.bool z7c|exact congrArg Value.bool z3c|exact congrArg Value.bool zSb
 ):P:=h
theorem zri (h:P:=by
  intro k' c hc
  show((lst.setIfInBounds i true).getD c false=true↔_)
  rw[getD_set lst i c hls hi]
  by_cases e:c=i
  · subst e
    rw[if_pos rfl]
    have h1':=n9b ch k' c hc hnodup
    have h2':=n9b ch k c hk hnodup
    have:k'=k:=by omega
    subst this
    exact⟨λ_=>⟨v,by rw[alo zG]⟩,λ_=>rfl⟩
  · rw[if_neg e,h7 k' c hc]
    have hne:k≠k':=λe'=>e (by subst e';rw[hk]at hc;cases hc;rfl)
    rw[amo hne]
 ):P:=h
theorem zsi (h:P:=by
  refine zph ?_
  refine PJ.midX (L0:=[wj,wf,w4,w3,w]) zS false zR (λW hS=>?_)
  show false=(okb&&lwO Z del p (gv.map λx:Gv=>x.g) x)
  unfold lwO;rw[if_pos zG,nqd (hto zG) hgg zwb]
  simp_all<;>omega
 ):P:=h
theorem zti (h:P:=by
  refine nP results95 rfl rfl A0 ?_ ?_
  all_goals(refine congrArg (Value.int .i64) ?_;unfold gExp;first|(simp only[if_neg hg];done)|(rw[if_pos hg];first|(rw[if_neg zG];done)|(rw[if_pos zG];done)))
 ):P:=h
theorem zui (h:P:=by
  refine B 6 ?_
  have hall:=ngm (l:=pthL d) (i:=i) zG (delF (ofL ns) (512+d))
  rw[hall]at hmi ⊢
  refine B 9 ?_
  refine retG (.inl rfl) results173 (RS.t rfl (RS.t rfl (RS.t rfl RS.n))) λW hS=>⟨bf,mi,ap,cpp,rfl,hS.base A2 zmb,by omega,hmi,hS.own _ A0,hslp.blk λb off hb1 hb2=>?_,λq hq=>?_⟩
  · have h1:=hnewp _ hb1
    dsimp only at h1
    exact⟨ado hb2 (hS.links wp A0).size,(hS.links wp A0).block b hb2 (by simp[Gh.no];omega)⟩
  · have h1:=hnewp _ hq
    have h2:=(hSp.links w A1).size
    exact⟨by omega,by omega⟩
 ):P:=h
theorem zvi (h:P:=by
  refine retV results19 rfl A0 ?_
  first|exact congrArg Value.bool (nbf hx zG).symm|exact congrArg Value.bool (n9e hx hy zG zG).symm|exact congrArg Value.bool (nfe hft zG).symm
 ):P:=h
theorem zwi (h:P:=by
  refine z8g ?_
  refine B 5 ?_
  exact nU (enc:=bxZ) (m:=4) (t:=184) (xs:=[]) (H0:=[(b6,.cells #[.slice none 0 0] 99 (0,0))]) (H1:=[]) (r:=.nil) (.inl rfl) results112 (RS.w (i:=0) rfl isAgg99 rfl rfl (RS.t rfl RS.n)) A1 zHc rfl rfl True.intro rfl
 ):P:=h
theorem zxi (h:P:=by
  refine sc rfl rfl rfl ?_ ?_
  · intro cv L' H' hl hP F Q' hk
    obtain rfl:=aap hl
    obtain⟨rfl,rfl⟩:=hP
    refine zaf ?_
    rintro W48 b48 w48 hS48 hB48 ⟨h1,h2⟩
    have hA:=hS48.sizes
    replace hA:=yb hA
    have hU:=hS48.under
    simp only[nH]at hU
    exact OJ.done (hk _ _ _ ⟨b48,w48,rfl,rfl,rfl,h2,by omega,by omega⟩)
  exact sn
 ):P:=h
theorem zyi (h:P:=by
  obtain⟨a1,c1,a2,c2,gs,w7,b7,rfl,rfl,rfl,rfl,rfl,rfl,hch,hs2,hn3,ha7,ho7⟩:=hP
  refine B 1 ?_
  exact OJ.done (hk _ _ _ ⟨a1,c1,a2,c2,gs,w7,b7,rfl,rfl,rfl,rfl,rfl,rfl,rfl,hch,hs2,hn3,ha7,ho7⟩)
 ):P:=h
theorem zzi (h:P:=by
  refine retV results164 rfl A1 ?_
  first|exact wk_no (λh=>by have h1:=hek.2 h.1;have h2:=h.2;omega)|exact nxi ⟨hek.1 zG,by omega,by omega⟩
 ):P:=h
theorem zAi (h:P:=by
  refine retV results86 rfl A0 ?_
  exact congrArg Value.bool zXb
 ):P:=h
theorem zBi (h:P:=by
  refine B 5 ?_
  obtain⟨bq,oq,csq,tq,frq,rfl,hbq,hcsq,helq⟩:=hslp.get zG
  have hbnp:=hnewp _ rfl
  dsimp only at hbnp
  obtain⟨n,hy⟩:=nj (pthL d) i zG
  refine B 2 ?_
  refine zeg ?_
  refine B 6 ?_
  refine zWe ?_
  intro m3 hm3
  refine B 7 ?_
  refine PJ.again (m3,i+1) ⟨by dsimp only;omega,by rw[nsf hy];exact hm3⟩ z2 zR (by rw[nsf hy];rfl) rfl zS
 ):P:=h
theorem zCi (h:P:=by
  refine zyf ?_
  exact λW hS h=>by cases h
 ):P:=h
theorem zDi (h:P:=by
  intro b4 ha4 ho4
  replace ha4:=yb ha4
  replace ho4:=yc ho4
  refine zvh ?_
  rfl
 ):P:=h
theorem zEi (h:P:=by
  intro b32 c32 s32 hf32 hr32
  refine OJ.dropF (i:=0) rfl (.inr ⟨by omega,by omega,trivial⟩) ?_
  refine B 8 ?_
  refine PJ.again (ys++y.enc,i+1,b32,c32,s32) ⟨by dsimp only;rw[a2o,<-hy,<-V.encL_drop l i zG];exact hinv,by dsimp only;omega,hf32,by simpa only[Fr,Gh.lent,Gh.no,Above,and_true,false_or]using hf32,hr32⟩ z2 zR rfl rfl zS
 ):P:=h
theorem zFi (h:P:=by refine PJ.again (j+1) zG zG zR rfl rfl zS):P:=h
theorem zGi (h:P:=by
  refine B 7 ?_
  refine zDe ?_
  refine B 5 ?_
  refine zSg ?_
  refine B 2 ?_
  refine PJ.again (k+1,if 128-64*k=64 then o2 else o2+64*1) (by dsimp only;split<;>omega) z2 ⟨rfl,rfl,rfl,by rw[show N-64*(k+1)=N-64*k-64 by omega,show 128-64*(k+1)=128-64*k-64 by omega];rfl,trivial⟩ rfl rfl zS
 ):P:=h
theorem zHi (h:P:=by
  refine B 12 ?_
  refine zdg ?_
  intro r hrf hrfit
  refine B 1 ?_
  refine zCg ?_
  refine B 4 ?_
  exact nU (enc:=ndE) (m:=2) (t:=359) (xs:=[]) (H0:=[(b4,.cells #[r.val (([]:List Nd)).length] 60 (0,0))]) (H1:=[]) (r:=r) (.inl rfl) results176 (RS.wA (i:=0) rfl isAgg60 sizeOf60 rfl (apo rfl) (RS.t rfl RS.n)) A1 zQd rfl hrfit (Rw.ge_of hrf A1) zwc
 ):P:=h
theorem zIi (h:P:=by
  refine z2d ?_
  exact⟨rfl,λy hy=>(azo.1 hy).elim (hall y) (λh=>by rw[agp.1 h];exact zRc),rfl⟩
 ):P:=h
theorem zJi (h:P:=by
  refine retV results18 rfl A0 ?_
  first|exact congrArg Value.bool (by unfold fw24;rw[decide_eq_false zG];rfl)|exact congrArg Value.bool zRd|exact congrArg Value.bool zPd
 ):P:=h
theorem zKi (h:P:=by
  refine nP results85 rfl rfl A0 ?_ ?_
  all_goals first|rfl|(congr 1<;>first|exact(nQg zG).symm|exact(n6i zG).symm|exact(nyh ⟨by omega,by omega⟩).symm|rfl)
 ):P:=h
theorem zLi (h:P:=by
  rw[hmap]at hx
  simp only[ayo,afo,a0o,azo,aeo,aCo,or_false,Gh.no,false_or]at hx
  rcases hx with hx|hx|hx|hx<;>first|omega|(have:=hq _ hx;omega)
 ):P:=h
theorem zMi (h:P:=by rw[hmap]at hx;simp[Gh.no,book]at hx;omega):P:=h
theorem zNi (h:P:=by
  refine sc rfl rfl rfl ?_ ?_
  · intro cv L' H' hl hP F Q' hk
    obtain⟨v1,v2,rfl⟩:=len2 hl
    obtain⟨bn,rfl,rfl,rfl,rfl,hfn⟩:=hP
    refine zye ?_
    intro b_ ha_ ho_
    exact OJ.done (hk _ _ _ ⟨bn,b_,rfl,rfl,rfl,rfl,rfl,hfn,ha_⟩)
  exact sn
 ):P:=h
theorem zOi (h:P:=by exact nU (enc:=encZ) (m:=1) (t:=3) (xs:=[]) (H0:=[]) (H1:=[]) (r:=.nil) (.inl rfl) results215 (RS.t rfl (RS.t rfl RS.n)) A1 trivial rfl rfl True.intro rfl):P:=h
theorem zPi (h:P:=by
  intro b' cap' sp' hab' hcap' hsp'
  simp only[Above]at hab'
  refine B 8 ?_
  refine zZg ?_
  refine PJ.again (j+1,b',cap',sp') ⟨by dsimp only;omega,hab'.1,by dsimp only;rw[hlj zG];exact hcap',by dsimp only;rw[hlj zG];omega⟩ z2 ⟨by rw[hlj zG];rfl,rfl,rfl,rfl,trivial⟩ rfl rfl zS
 ):P:=h
theorem zQi (h:P:=by
  refine B 14 ?_
  refine zWd ?_
  refine PJ.again ((i2+1,cur.set i2 x),j+1) ⟨by dsimp only;omega,by dsimp only;omega,by dsimp only;rw[List.length_set];exact hcl,by dsimp only;rw[nRf zG,hct,ndc hx,if_neg zwb],by dsimp only;rw[n3g zG];exact hcd1⟩ z2 zR rfl rfl zS
 ):P:=h
theorem zRi (h:P:=by
  intro hc2
  refine B 7 ?_
  refine PJ.again (j+1) ⟨by omega,hto.next hx zwb⟩ zG zR rfl rfl zS
 ):P:=h
theorem zSi (h:P:=by
  unfold wpListIn at hwp
  unfold wpOpIn
  simp only[ho]
  split
  · rename_i hw
    rw[if_pos hw]at hwp
    exact nXh (λa' W' h=>h) (λ_ _ _ h=>h) zO hwp
  · rename_i hw
    rw[if_neg hw]at hwp
    exact hwp
 ):P:=h
theorem zTi (h:P:=by
  apply Array.ext'
  rw[nEb,aVo,<-hlen]
  show setL (ys++sp) ys.length news=_
  have hspl:n*ti.size<=sp.length:=by rw[hsp,<-hnl,hnl];exact a7o _ zG
  conv=>lhs;rw[<-acp (n*ti.size) sp]
  rw[nzf _ _ _ _ (by rw[anp];omega),a2o]
 ):P:=h
theorem zUi (h:P:=by
  refine B 7 ?_
  refine z2f ?_
  refine B 3 ?_
  have e:i=8:=by omega
  subst e
  refine zkf ?_
  show Value.agg (cut (outN (stN n m (nBlk n)) 8) 0 32)=_
  rw[nYg _ 32 (by rw[outN,nZ]),outN_8];rfl
 ):P:=h
theorem zVi (h:P:=by
  obtain⟨a1,c1,a2,c2,gs,w7,b7,rfl,rfl,rfl,rfl,rfl,rfl,rfl,hch,hs2,hn3,ha7,ho7⟩:=hP
  refine B 1 ?_
  exact OJ.done (hk _ _ _ ⟨a1,c1,a2,c2,gs,w7,b7,rfl,rfl,rfl,rfl,rfl,rfl,rfl,rfl,hch,hs2,hn3,ha7,ho7⟩)
 ):P:=h
theorem zWi (h:P:=by
  intro hc2
  refine B 12 ?_
  have e:j=ss.length:=by omega
  subst e
  rw[afp (abo _)]at h3 h4 ⊢
  exact retG (.inl rfl) results56 (RS.t rfl RS.n) (λW hS=>⟨(b,cap,sp),rfl,hS.base A0 zmb,h2,⟨h3,h4⟩,hS.own _ A0⟩)
 ):P:=h
theorem zXi (h:P:=by
  intro cv L' H' hl hP F Q' hk
  obtain rfl:=aap hl
  obtain⟨rfl,rfl⟩:=hP
  refine bsB [3] bt zeroValue5 rfl rfl rfl rfl rfl rfl rfl rfl rfl ?_
  intro b9 ha ho hx hr
  exact OJ.done (hk _ _ _ ⟨b9,rfl,rfl,rfl,ha.1,ha.2.1⟩)
 ):P:=h
theorem zYi (h:P:=by exact λW hS h=>by first|(cases h;done)|exact⟨hfr zZ,hall⟩|exact⟨hfr zwb,hall⟩|(exfalso;simp_all;done)):P:=h
theorem zZi (h:P:=by
  refine zpg ?_
  refine PJ.again (j+1) ⟨by omega,hto.next hx ⟨Classical.not_not.1 h1,λy0 h0 hy0=>by first|omega|(rw[hy]at hy0;cases hy0;omega),nu.1 zG⟩⟩ zG zR rfl rfl zS
 ):P:=h
theorem z0i (h:P:=by
  refine retV results51 rfl A1 ?_
  exact congrArg Value.bool (by unfold itB;simp_all)
 ):P:=h
theorem z1i (h:P:=by
  obtain⟨a1,c1,a2,c2,gs,w7,b7,rfl,rfl,rfl,rfl,rfl,hch,hs2,hn3,ha7,ho7⟩:=hP
  refine B 1 ?_
  exact OJ.done (hk _ _ _ ⟨a1,c1,a2,c2,gs,w7,b7,rfl,rfl,rfl,rfl,rfl,rfl,hch,hs2,hn3,ha7,ho7⟩)
 ):P:=h
theorem z2i (h:P:=by
  refine zpg ?_
  refine PJ.again (j+1) ⟨by omega,hto.next hx ⟨by omega,by omega,λy0 h0 hy0=>by first|omega|(rw[hy]at hy0;cases hy0;omega),nXf zWb,(nPc _).1 zwb⟩⟩ zG zR rfl rfl zS
 ):P:=h
theorem z3i (h:P:=by
  refine zEh ?_
  exact nU (enc:=ndE) (m:=2) (t:=359) (xs:=[]) (H0:=_) (H1:=[]) (r:=.nil) (.inl rfl) results120 (RS.wA (i:=0) rfl isAgg60 sizeOf60 rfl (apo rfl) (RS.t rfl RS.n)) A1 zBc rfl rfl True.intro (asp _).symm
 ):P:=h
theorem z4i (h:P:=by
  intro cv L' H' hl hP F Q' hk
  obtain rfl:=aap hl
  obtain⟨rfl,rfl⟩:=hP
  refine zye ?_
  intro b_ ha_ ho_
  exact OJ.done (hk _ _ _ ⟨b_,rfl,rfl,rfl,ha_⟩)
 ):P:=h
theorem z5i (h:P:=by
  obtain⟨a1,c1,a2,c2,gs,w7,rfl,rfl,rfl,rfl,rfl,hch,hs2,hn3⟩:=hP
  refine B 1 ?_
  exact OJ.done (hk _ _ _ ⟨a1,c1,a2,c2,gs,w7,rfl,rfl,rfl,rfl,rfl,rfl,hch,hs2,hn3⟩)
 ):P:=h
theorem z6i (h:P:=by
  rw[if_pos (ano.2 ⟨_,ajo h1,rfl⟩)]
  simp only[List.map_set]
  apply aDo
  intro j
  rw[azp]
  split
  · rename_i e;subst e
    have hl:=(ako.1 h1).1
    rw[if_pos zdc];simp[h1]
  · rfl
 ):P:=h
theorem z7i (h:P:=by
  refine B 3 ?_
  refine allW zeroValue138 rfl rfl ?_
  intro b5 ha5 ho5
  replace ha5:=yb ha5
  replace ho5:=yc ho5
  refine z5g ?_
  refine B 10 ?_
  refine retO (.inl rfl) results30 (RS.t rfl (RS.n)) A1 zL ?_
  rfl
 ):P:=h
theorem z8i (h:P:=by
  have hb':W.drew.heap[b]? =some (.cells (ys++sp).toArray e (0,0)):=hb
  rw[nji hb' (by simp only[amp,aHo,hlen];omega)]
  unfold cut
  simp only[aop,<-hlen]
  rw[aqp rfl]
 ):P:=h
theorem z9i (h:P:=by
  refine zKh ?_
  exact⟨rfl,rfl,⟨x,hxm,by rw[nvd hao];simp_all<;>omega⟩,rfl⟩
 ):P:=h
theorem zaj (h:P:=by
  intro i o ho e he hb
  have:=h3 i (at_ i o ho)
  simp only[ho,awo,aPo]at this
  have:=this.1 e (by simpa using he)
  simp only[hb,Bool.not_true,Bool.false_or]at this
  exact nL this
 ):P:=h
theorem zbj (h:P:=by
  intro hc2
  refine zyh ?_
  refine PJ.again ((i2,cur),j+1) ⟨by dsimp only;omega,by dsimp only;omega,hcl,by dsimp only;rw[hct,ndc hx,if_pos zwb,asp],hcd1⟩ z2 zR rfl rfl zS
 ):P:=h
theorem zdj (h:P:=by
  obtain⟨a1,c1,a2,c2,gs,w7,rfl,rfl,rfl,rfl,hch,hs2,hn3⟩:=hP
  refine B 1 ?_
  exact OJ.done (hk _ _ _ ⟨a1,c1,a2,c2,gs,w7,rfl,rfl,rfl,rfl,rfl,hch,hs2,hn3⟩)
 ):P:=h
theorem zej (h:P:=by
  refine zzh ?_
  exact retG (.inl rfl) results79 (RS.wA (i:=0) rfl isAgg62 sizeOf62 rfl (apo rfl) (RS.t rfl RS.n)) λW hS=>⟨zGv,rfl,hS.base A3 zL,rfl,nOc _ _,λq h=>zpc,λq h=>zpc⟩
 ):P:=h
theorem zfj (h:P:=by exact⟨rfl,0,_,by rw[alloc_eq_grow,alloc_eq_grow,grow_grow];rfl⟩):P:=h
theorem zgj (h:P:=by
  refine nP results31 rfl rfl A0 ?_ ?_
  all_goals(refine congrArg (Value.int .i64) ?_;unfold kPub;first|(rw[if_neg zG];done)|(rw[if_pos zG];try first|(rw[gExp4 zG];done)|skip))
 ):P:=h
theorem zhj (h:P:=by exact(hS.links w A5).below (λk hk hx=>by rcases hx with hx|hx;(exact hx);rw[hmap]at hx;simp only[book,ayo,afo,a0o,adp,a9o,aEo,abp,azo,aeo,aCo,or_false]at hx;omega)):P:=h
theorem zij (h:P:=by
  refine B 7 ?_
  refine zMe ?_
  refine B 2 ?_
  refine zTf ?_
  refine B 7 ?_
  refine zKf ?_
  refine PJ.again (i+1) zG zG zR rfl rfl zS
 ):P:=h
theorem zjj (h:P:=by refine PJ.again (r,j+1) ⟨by dsimp only;omega,hrf,by rw[nXe hx zG];exact hrfit⟩ z2 ⟨rfl,by rw[nXe hx zG];rfl,rfl,rfl,rfl,trivial⟩ (by rw[nXe hx zG];rfl) rfl zS):P:=h
theorem zkj (h:P:=by
  replace hc3:=ya hc3
  refine B 6 ?_
  exact PJ.mid ⟨(congrArg (λb=>some (Value.bool b)) zob),rfl,rfl,rfl,rfl,rfl,rfl,rfl,rfl,rfl,rfl,trivial⟩
 ):P:=h
theorem zlj (h:P:=by refine PJ.again (j+1) ⟨by omega,hft.next hx zG zG (λy2 hj2 hy2=>by first|(rw[hy]at hy2;obtain rfl:=Option.some.inj hy2;omega)|omega)⟩ zG zR rfl rfl zS):P:=h
theorem zmj (h:P:=by
  refine retV results87 rfl A1 ?_
  exact congrArg (Value.int .i64) (by unfold pxI;simp_all)
 ):P:=h
theorem znj (h:P:=by
  intro b7 c7 s7 hf7 hr7
  exact OJ.done (hk _ _ _ ⟨b6,b7,c7,s7,rfl,rfl,rfl,rfl,ha6,hA6,hf7,by simpa only[Fr,Gh.lent,Above,and_true]using hf7,hr7⟩)
 ):P:=h
theorem zoj (h:P:=by
  induction H with
  |nil=>intro p hp;simp at hp
  |cons q H ih=>
    intro p hp
    simp only[aeo]at hp
    rcases hp with rfl|hp
    · exact h.1
    · exact ih h.2 p hp
 ):P:=h
theorem zpj (h:P:=by
  refine retV results212 rfl A1 ?_
  exact congrArg Value.bool (by unfold badC;simp_all)
 ):P:=h
theorem zqj (h:P:=by exact λW hS=>.inr ⟨j,x,rfl,hx,by assumption,hto⟩):P:=h
theorem zrj (h:P:=by
  have h2:(xs.toArray).map a.eval=vs.toArray:=by rw[aro,nic hF xs vs ha]
  simp only[execOp,resolve,hF.ev hx,Deferred.ofValue,h2]
  simp[invoke,hrun]
 ):P:=h
theorem zsj (h:P:=by
  refine nP results217 rfl rfl A0 ?_ ?_
  all_goals first|(rw[hbe];done)|exact congrArg Value.bool (nNk hbe hx)|exact congrArg Value.bool (njj hbe h1)
 ):P:=h
theorem ztj (h:P:=by
  replace hc1:=ya hc1
  refine B 9 ?_
  refine retV results169 rfl A1 ?_
  exact congrArg Value.bool (by unfold delW;rw[aZo];first|(simp;omega)|simp)
 ):P:=h
theorem zuj (h:P:=by
  replace hc1:=ya hc1
  refine B 9 ?_
  refine retV results134 rfl A1 ?_
  exact congrArg Value.bool (by unfold rmvP;rw[aZo];first|(simp;omega)|simp)
 ):P:=h
theorem zvj (h:P:=by
  refine nP results66 rfl rfl A1 ?_ ?_
  all_goals(refine congrArg (Value.int .i64) ?_;unfold sAdd;first|(rw[if_neg hg];done)|(rw[if_pos hg];done))
 ):P:=h
theorem zwj (h:P:=by
  refine nP results65 rfl rfl A1 ?_ ?_
  all_goals(refine congrArg (Value.int .i64) ?_;unfold sMul;first|(rw[if_neg hg];done)|(rw[if_pos hg];done))
 ):P:=h
theorem zxj (h:P:=by
  split
  · exact h
  · rename_i hn
    rw[List.nodup_append]
    exact⟨h,by simp,by intro a ha b hb;simp at hb;subst hb;exact λe=>hn (e▸ha)⟩
 ):P:=h
theorem zyj (h:P:=by exact λpre x _ _ _ _ _ _ _ hp=>absurd hp.length_le zS):P:=h
theorem zzj (h:P:=by
  intro i x' y' hi hx' hy'
  by_cases e':i=j
  · subst e';rw[hx]at hx';rw[hy]at hy';cases hx';cases hy';exact e
  · exact h i x' y' zG hx' hy'
 ):P:=h
theorem zAj (h:P:=by
  replace hc1:=ya hc1
  refine B 9 ?_
  refine retV results5 rfl A1 ?_
  first|exact congrArg Value.bool (by unfold fewB;rw[aZo];simp;omega)
 ):P:=h
theorem zBj (h:P:=by
  simp only[book,ayo,azo]at hk
  rcases hk with hk|hk
  · exact hH hk
  · obtain⟨p,hp,rfl⟩:=ano.1 hk
    have:=hnew p hp;omega
 ):P:=h
theorem zCj (h:P:=by
  by_cases hi:i<l.length
  · rw[aNo hi,aNo (show i<bs.length by omega)]
    simp[List.getD,show i<bs.length by omega]
  · rw[aYo zG];simp
 ):P:=h
theorem zDj (h:P:=by exact λ_ _ _ _ _ _ _ hk=>hk.elim):P:=h
theorem zEj (h:P:=by
  replace hc1:=ya hc1
  refine B 7 ?_
  refine retV results146 rfl A0 ?_
  refine congrArg Value.bool ?_
  unfold sOut
  simp;try omega
 ):P:=h
theorem zFj (h:P:=by
  refine retV results78 rfl A1 ?_
  exact congrArg (Value.int .i64) (by first|exact nLm hto hx (decide_eq_true zZ)|exact dix_no hto zG)
 ):P:=h
theorem zGj (h:P:=by
  simp only[List.forIn_cons,Sem.run_bind,hZ W,Result.andThen_ok,p1,p2,Sem.run_pure]
  exact ih (λy hy=>each y (by simp[hy]))
 ):P:=h
theorem zHj (h:P:=by
  refine retV results129 rfl A0 ?_
  exact congrArg (Value.int .i64) zKc
 ):P:=h
theorem zIj (h:P:=by
  refine retV results118 rfl A1 ?_
  first|exact congrArg (Value.int .i64) (n9k zZ hx)|exact congrArg (Value.int .i64) (npm zwb hx)
 ):P:=h
theorem zJj (h:P:=by
  rw[List.nodup_append]
  exact⟨hm.nd,by simp,by intro a ha b' hb';simp at hb';subst hb';have:=hm.lt a ha;omega⟩
 ):P:=h
theorem zKj (h:P:=by
  replace hc1:=ya hc1
  refine B 10 ?_
  refine retV results113 rfl A2 ?_
  exact congrArg Value.bool (by unfold nPb;simp_all)
 ):P:=h
theorem zLj (h:P:=by
  replace hc1:=ya hc1
  refine B 7 ?_
  refine retV results162 rfl A0 ?_
  exact congrArg Value.bool (by simp[DvOk];omega)
 ):P:=h
theorem zMj (h:P:=by
  replace hc1:=ya hc1
  refine B 7 ?_
  refine retV results155 rfl A0 ?_
  exact congrArg Value.bool (by simp[FdOk];omega)
 ):P:=h
theorem zNj (h:P:=by exact OJ.done (hk _ _ _ ⟨a1,c1,a2,c2,gs,w7,b7,rfl,rfl,rfl,rfl,rfl,rfl,hch,hs2,hn3,(ha.mem wi zS),ho7⟩)):P:=h
theorem zOj (h:P:=by
  refine retO (.inl rfl) results37 (RS.t rfl (RS.t rfl RS.n)) A0 trivial ?_
  first|exact(nHi zZ).symm|exact(ngj zZ).symm
 ):P:=h
theorem zPj (h:P:=by exact λW hS=>⟨by have:=ha2.1;omega,by have:=ha3.2.1;omega,hS.old A1 hb2 hm2 trivial,hS.old A0 hb3 hm3 trivial⟩):P:=h
theorem zQj (h:P:=by
  simp only[Array.getD_eq_getD_getElem?]at hf ⊢
  rw[aXo (by rw[hls];exact hi)]at hf ⊢
  simpa using hf
 ):P:=h
theorem zRj (h:P:=by exact λ_ _ _ _ _ _ _ _ hk=>hk.elim):P:=h
theorem zSj (h:P:=by
  refine retV results157 rfl A1 ?_
  exact congrArg Value.bool zxc
 ):P:=h
theorem zTj (h:P:=by exact PJ.mid ⟨(congrArg (λb=>some (Value.bool b)) zob),rfl,rfl,rfl,rfl,rfl,rfl,rfl,rfl,rfl,trivial⟩):P:=h
theorem zUj (h:P:=by
  rcases h with h|⟨b,off,h1,h2,h3⟩
  · exact .inl h
  · exact .inr ⟨b,off,h1,by omega,h3.up (hw b h2)⟩
 ):P:=h
theorem zVj (h:P:=by
  rcases azo.1 hb with hb|hb
  · have:=hm.lt b hb;simp only;omega
  · simp at hb;subst hb;simp
 ):P:=h
theorem zWj (h:P:=by
  intro hc3
  refine zGh ?_
  refine PJ.again (j+1) ⟨by omega,hto.next hx hy zZ⟩ zG zR rfl rfl zS
 ):P:=h
theorem zXj (h:P:=by rcases he with rfl|rfl<;>exact key):P:=h
theorem zYj (h:P:=by exact λW hS=>.inl ⟨rfl,nRe hto zG⟩):P:=h
theorem zZj (h:P:=by exact⟨by omega,λh=>by have:=(hMI1 k h).1;omega,λh=>by have:=(hRO W hS k h).1;omega⟩):P:=h
theorem z0j (h:P:=by
  obtain⟨d,hd'⟩:=h3 c o (by rw[aPo]at hlt';exact nL (hlt' c (ajo hk))) hl
  rw[hd]at hd';cases hd'
 ):P:=h
theorem z1j (h:P:=by exact congrArg Value.bool zed):P:=h
theorem z2j (h:P:=by refine PJ.again (k+1) ⟨by omega,λh=>(hto h).next hgg zwb⟩ zG zR rfl rfl zS):P:=h
theorem z3j (h:P:=by
  intro i y hi hy
  by_cases e:i=j
  · subst e;rw[hx]at hy;cases hy;exact hp
  · exact h i y zG hy
 ):P:=h
theorem z4j (h:P:=by
  intro i y hi hy
  by_cases e:i=j
  · subst e;rw[hx]at hy;cases hy;exact hk
  · exact h i y zG hy
 ):P:=h
theorem z5j (h:P:=by
  by_cases e3:j=i'
  · subst e3
    rw[h3]
    simp[(ako.1 h3).1]
  · simp[e3]
 ):P:=h
theorem z6j (h:P:=by
  unfold IntKind.wrap
  simp[IntKind.bits,IntKind.signed]
 ):P:=h
theorem z7j (h:P:=by
  show Instr.sameBits (9999+1) _ _=true
  generalize 9999=n
  simp[Instr.sameBits]
 ):P:=h
theorem z8j (h:P:=by
  refine retV results111 rfl A1 ?_
  exact z0h
 ):P:=h
theorem z9j (h:P:=by
  refine zSe ?_
  exact z0h
 ):P:=h
theorem zak (h:P:=by
  refine retV results7 rfl A1 ?_
  exact z3h
 ):P:=h
theorem zbk (h:P:=by
  obtain⟨a1,c1,a2,c2,gs,w7,rfl,rfl,rfl,rfl,rfl,hch,hs2,hn3⟩:=hP
  refine zhg ?_
  intro b7 ha ho
  have ho7:gs=[]\/∀p,a2=some p->p.block≠b7:=by
      exact zli
  exact zNj
 ):P:=h
theorem zdk (h:P:=by
  refine B 4 ?_
  refine nHf (.inl rfl) results15 rfl zjc (λW H' hS hmap=>⟨rfl,?_⟩)
  refine(hS.links w A6).below λk hk hx=>?_
  exact zMi
 ):P:=h
theorem zek (h:P:=by
  refine zBh ?_
  exact z2h
 ):P:=h
theorem zfk (h:P:=by
  refine B 17 ?_
  exact z4h
 ):P:=h
theorem zgk (h:P:=by
  refine B 5 ?_
  refine zag ?_
  exact zDi
 ):P:=h
theorem zhk (h:P:=by
  refine B 5 ?_
  exact zei
 ):P:=h
theorem zik (h:P:=by
  refine B 8 ?_
  refine zfg ?_
  refine B 6 ?_
  refine zUd ?_
  refine B 10 ?_
  exact zFi
 ):P:=h
theorem zjk (h:P:=by
  refine B 11 ?_
  exact z9j
 ):P:=h
end Px
