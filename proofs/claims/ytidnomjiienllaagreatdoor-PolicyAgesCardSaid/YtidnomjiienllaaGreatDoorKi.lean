/- Contracts of functions of the program, each walked once. No condition beyond those that each theorem states. -/
import Derived.Test.YtidnomjiienllaaGreatDoorKh
import Derived.Test.YtidnomjiienllaaGreatDoorProg
import Derived.Test.YtidnomjiienllaaGreatDoorLa
set_option linter.unusedSimpArgs false
set_option linter.unusedVariables false
set_option linter.unusedSectionVars false
set_option maxRecDepth 20000
set_option maxHeartbeats 8000000
namespace Px
open Go Go.RowKit Go.Proofs Go.Proofs.Tryz
theorem nKh(a:Option Addr)(n cp:Nat)(y:Ex)(w:World):Calls prog 34 #[.slice a n cp,.agg (exC y)] w (RetX w (λb:Nat×Nat=>.func (.func 67) #[] #[ptr b.1 0,ptr b.2 0]) (λb w1=>w.heap.size<=b.1/\w.heap.size<=b.2/\b.1≠b.2/\w1.heap[b.1]? =some (.cells (exC y) 76 (0,0))/\w1.heap[b.2]? =some (.cells #[.slice a n cp] 73 (0,0)))):=by
 refine enter (vs:=[_,_]) func34 rfl ntmps34 rfl ?_;refine B 3 ?_;intro b2 w2 hb2 ha2 ho2 hm2 hz2;replace ha2:=yb ha2;replace ho2:=yc ho2;refine B 1 ?_;intro b3 w3 hb3 ha3 ho3 hm3 hz3;replace ha3:=yb ha3;replace ho3:=yc ho3;refine B 10 ?_;refine nE (b3,b2) results34 rfl A2 rfl ?_;exact λW hS=>⟨ha3.2.1,ha2.1,by have:=(ago.1 hb2).1;intro e;dsimp only at e;omega,hS.old A0 hb3 hm3 trivial,hS.old A1 hb2 hm2 trivial⟩
variable {cs:Array Value} {C:Cx} {E:Env} {e:Exit} {Z:Fx} {G:Gh} {H:Heap} {d:Int} {D:List Deferred} {ls:List Ls} {L L':List World} {N T b i:Nat} {fr:Nat×Nat} {f:Nat->Int} {o:Obj} {a:Option Addr} {p:Po} {W:World}
theorem n5j(hZ:FxOk Z)(ls:List Ls)(hl:ls.length<=1000000)(f:Nat->Int)(cs:List Cn)(hcl:cs.length<=1000000)(N:Nat)(a:Option Addr)(cp:Nat)(ca:Option Addr)(cc:Nat)(by_ bx:Nat)(W:World)(hN:N<=W.heap.size)(hsl:SlAt lsC 5 N W a ls)(hcs:SlAt cnC 3 N W ca cs)(hb1:W.heap[by_]? =some (.cells (exC (⟨f,ca,cs,cc⟩:Ex)) 76 (0,0)))(hb2:W.heap[bx]? =some (.cells #[.slice a ls.length cp] 73 (0,0)))(hg:Glb W)(hg2:3<=N):nmd prog 67 [ptr by_ 0,ptr bx 0] (λo:Int=>[.int .i64 o]) (cntL Z ls f cs) (λ_=>False) (λk=>k<N\/k=by_\/k=bx) W:=by
 intro l M I X0 hM hI hX hy h0;have hm1:¬M by_:=λh=>(hM _ h).2.2 (.inr (.inl rfl));have hm2:¬M bx:=λh=>(hM _ h).2.2 (.inr (.inr rfl));have hN0:∀k,k<N->¬M k:=λk hk h=>(hM k h).2.2 (.inl hk);have hl1:=(ago.1 hb1).1;have hl2:=(ago.1 hb2).1;refine nT (itG hM (hI [])) [] (vs:=[_,_,_]) func67 rfl ntmps67 rfl (st_it hM (hI []) h0) ?_;refine B 3 ?_;refine rv rfl rfl rfl (RV.re (v':=.slice ca cs.length cc) (ldR_r isAgg74 rfl A0 hb1 hm1 trivial rfl) (rfl)) ?_;refine B 5 ?_;refine CJ.loop (α:=Nat) (λj=>[(0,yv l),(1,ptr by_ 0),(2,ptr bx 0),(10,.slice ca cs.length cc),(11,.int .i64 (cs.length:Int)),(12,.int .i64 (j:Int))]) (λj=>[]) (λj=>[W]) (λj=>itG hM (hI (cntL Z ls f (cs.take j)))) (λj=>j<=cs.length) (λj=>cs.length-j) 0 (a3o _) zR rfl rfl zS ?_;rintro j hj;refine B 6 ?_;refine zCD ?_ ?_
 ·intro hc1;refine B 5 ?_;obtain⟨b0,off0,cs0,t0,fr0,rfl,hbl0,hcs0,hel0⟩:=hcs.get zG;obtain⟨c,hc⟩:=nj cs j zG;refine B 2 ?_;refine rv rfl rfl rfl (RV.re (v':=.agg (cnC c)) (ldRA_r isAgg67 sizeOf67 rfl A0 hcs0 (hN0 b0 hbl0) trivial (nk hel0 hc rfl)) (congrArg Value.agg (nl hel0 hc rfl))) ?_;refine zOg ?_;intro b5 ha5 ho5;replace ha5:=yb ha5;replace ho5:=yc ho5;refine zQe ?_;refine B 4 ?_;refine rv rfl rfl rfl (RV.re (v':=.slice a ls.length cp) (ldR_r isAgg73 rfl A0 hb2 hm2 zF rfl) (rfl)) ?_;refine B 1 ?_;refine call call68 rfl rfl rfl (λW1 hS=>nVl ls hl N a cp W1 (aco hN (hS.links _ A0).size) (hsl.up (abo _) (hS.same A0 hN (λk hk=>hN0 k hk) zH)) c b5 (hS.own _ A0)) ?_;refine B 7 ?_;by_cases hD:DevOk c.dev
  ·refine call call37 rfl rfl rfl (λW hS=>nei hD W) ?_;refine B 9 ?_;rcases hix0:ixL c.dev ls with _|i
   ·exact zfi
   have hix:=nph hix0;obtain⟨z,hz,hzd⟩:=ncm hix0;obtain⟨b1,off1,cs1,t1,fr1,rfl,hbl1,hcs1,hel1⟩:=hsl.get (by have:=nz hz;omega);have hil:=nz hz;rcases hgo:z.gone with _|_
   ·have hB:=mg_byt hZ f c.dev;rcases hv:verB Z z.ver (dgU (mgD Z f c.dev)) c.r c.s with _|_
    ·have hcnt:cntO Z ls f c=none:=nXg hix0 hz (.inr (.inr hv));obtain⟨mf,hmf⟩:∃mf,mgD Z f c.dev=mf:=⟨_,rfl⟩;rw[hmf]at hB hv;refine z5d ?_;refine nJ 26 [23] [([],some _),([0],some _),([1],some _),([2],some (.slice (some ⟨b1,off1,none⟩) ls.length cp)),([2],some _),([2,3,4],some _),([2,5],some _),([2,6],some (.bool false)),([2,7],some _),([8],some _),([9],some _),([9,10],some _),([9,11],some _),([12],some _),([13],some (.slice (some ⟨b1,off1,none⟩) ls.length cp)),([13],some _),([13,14,15],some _),([13,16],some _),([13,17],some (.int .i64 z.ver)),([13],some _),([13,19],some (.agg (dg f))),([13],some _),([13,21],some (.int .i64 c.dev)),([13,20,22],none),([13],some _),([13,24],some (.agg #[.int .i64 c.r,.int .i64 c.s]))] (λcv L' H'=>match cv with| []=>L'=[W]/\H'=[(b5,.cells (cnC c) 67 (0,0))]| [v1]=>∃(b48:Nat) (w48:World),v1= .slice (some ⟨b48,0,none⟩) 32 32/\L'=[w48,W]/\H'=[(b5,.cells (cnC c) 67 (0,0))]/\w48.heap[b48]? =some (.cells (dg mf) 43 (0,0))/\W.heap.size<=b48/\b5≠b48|_=>False) zM ⟨rfl,rfl⟩ zM zM zM zM zM zM (pc zP (pc zFd (pc zP (pc zcC (pc zP (pc zjd (pc (by exact λcv L' H' hd hP=>X.val rfl rfl (fld_r underlying71 rfl sizeOf4 rfl) R2) (pc zcC (pc zfc (pc zP (pc zP (pc zTc (pc zfc (pc zP (pc zcC (pc zP (pc zjd (pc (by exact λcv L' H' hd hP=>X.val rfl rfl (fld_r underlying71 rfl sizeOf3 rfl) R2) (pc zcC (pc (by exact λcv L' H' hd hP=>X.val rfl rfl (fld_r underlying76 rfl sizeOf43 rfl) R2) (pc zcC (pc (by exact λcv L' H' hd hP=>X.val rfl rfl (fld_r underlying67 rfl sizeOf3 rfl) R2) (pc zcC (pk (pc (by exact λcv L' H' hd hP=>X.val rfl rfl (fld_r underlying67 rfl sizeOf54 rfl) R2) (pc zcC (pn))))))))))))))))))))))))))) ?_ ?_
     ·exact zxi
     intro cv L' H' hl hP;obtain⟨v1,rfl⟩:=len1 hl;obtain⟨b48,w48,rfl,rfl,rfl,hb48,hq48,ho48⟩:=hP;refine call call70 rfl rfl rfl (λW1 hS=>nxm hZ hv hB b48 _ _ W1 (hS.old A0 hb48 (λh=>absurd (hM b48 h).1 zG) z8) (hg.old hS A1 (λk hk=>hN0 k zG) zH)) (v:=.bool false) ?_;refine B 13 ?_;refine zAe ?_;refine PJ.again (j+1) zG zG zR rfl zFb zS
    have hcnt:cntO Z ls f c=some (c.dev/8):=nTk hix0 hz hgo hD hv;obtain⟨mf,hmf⟩:∃mf,mgD Z f c.dev=mf:=⟨_,rfl⟩;rw[hmf]at hB hv;refine z5d ?_;refine nJ 26 [23] [([],some _),([0],some _),([1],some _),([2],some (.slice (some ⟨b1,off1,none⟩) ls.length cp)),([2],some _),([2,3,4],some _),([2,5],some _),([2,6],some (.bool false)),([2,7],some _),([8],some _),([9],some _),([9,10],some _),([9,11],some _),([12],some _),([13],some (.slice (some ⟨b1,off1,none⟩) ls.length cp)),([13],some _),([13,14,15],some _),([13,16],some _),([13,17],some (.int .i64 z.ver)),([13],some _),([13,19],some (.agg (dg f))),([13],some _),([13,21],some (.int .i64 c.dev)),([13,20,22],none),([13],some _),([13,24],some (.agg #[.int .i64 c.r,.int .i64 c.s]))] (λcv L' H'=>match cv with| []=>L'=[W]/\H'=[(b5,.cells (cnC c) 67 (0,0))]| [v1]=>∃(b48:Nat) (w48:World),v1= .slice (some ⟨b48,0,none⟩) 32 32/\L'=[w48,W]/\H'=[(b5,.cells (cnC c) 67 (0,0))]/\w48.heap[b48]? =some (.cells (dg mf) 43 (0,0))/\W.heap.size<=b48/\b5≠b48|_=>False) zM ⟨rfl,rfl⟩ zM zM zM zM zM zM (pc zP (pc zFd (pc zP (pc zcC (pc zP (pc zjd (pc (by exact λcv L' H' hd hP=>X.val rfl rfl (fld_r underlying71 rfl sizeOf4 rfl) R2) (pc zcC (pc zfc (pc zP (pc zP (pc zTc (pc zfc (pc zP (pc zcC (pc zP (pc zjd (pc (by exact λcv L' H' hd hP=>X.val rfl rfl (fld_r underlying71 rfl sizeOf3 rfl) R2) (pc zcC (pc (by exact λcv L' H' hd hP=>X.val rfl rfl (fld_r underlying76 rfl sizeOf43 rfl) R2) (pc zcC (pc (by exact λcv L' H' hd hP=>X.val rfl rfl (fld_r underlying67 rfl sizeOf3 rfl) R2) (pc zcC (pk (pc (by exact λcv L' H' hd hP=>X.val rfl rfl (fld_r underlying67 rfl sizeOf54 rfl) R2) (pc zcC (pn))))))))))))))))))))))))))) ?_ ?_
    ·exact zxi
    intro cv L' H' hl hP;obtain⟨v1,rfl⟩:=len1 hl;obtain⟨b48,w48,rfl,rfl,rfl,hb48,hq48,ho48⟩:=hP;refine call call70 rfl rfl rfl (λW1 hS=>nxm hZ hv hB b48 _ _ W1 (hS.old A0 hb48 (λh=>absurd (hM b48 h).1 zG) z8) (hg.old hS A1 (λk hk=>hN0 k zG) zH)) (v:=.bool true) ?_;refine B 11 ?_;refine yld (itG hM (hI (cntL Z ls f (cs.take (j+1))))) (itG hM hX) rfl rfl rfl rfl (λW1 hS=>by have:=hy (cntL Z ls f (cs.take j)) (c.dev/8) W1 (by rw[<-noj hc hcnt];exact cntL_pre Z ls f cs (j+1)) hS.ghost;rw[<-noj hc hcnt]at this;exact this) rfl rfl rfl rfl ?_ ?_
    ·refine B 11 ?_;refine zAe ?_;exact zFi
    refine B 9 ?_;refine zAe ?_;exact nPh (.inl rfl) results67 A0 (λA hA=>.inr hA)
   exact zhi
  refine call call37 rfl rfl rfl (λW hS=>nmi hD W) ?_;refine B 9 ?_;rcases hix0:ixL c.dev ls with _|i
  ·exact zfi
  have hix:=nph hix0;obtain⟨z,hz,hzd⟩:=ncm hix0;obtain⟨b1,off1,cs1,t1,fr1,rfl,hbl1,hcs1,hel1⟩:=hsl.get (by have:=nz hz;omega);have hil:=nz hz;rcases hgo:z.gone with _|_
  ·have hcnt:cntO Z ls f c=none:=nXg hix0 hz (.inr (.inl hD));refine z5d ?_;refine nw 26 [.det [] _,.det [0] _,.det [1] _,.det [2] _,.det [2] _,.det [2,3,4] _,.det [2,5] _,.det [2,6] _,.det [2,7] _,.det [8] _,.det [9] _,.det [9,10] _,.det [9,11] _,.det [12] _,.det [13] undef,.det [13] undef,.det [13,14,15] undef,.det [13,16] undef,.det [13,17] undef,.det [13] undef,.det [13,19] undef,.det [13] undef,.det [13,21] undef,.det [13,20,22] undef,.det [13] undef,.det [13,24] undef] zM (xc zK (xc zYc (xc zK (xc zfd (xc zK (xc zrd (xc zmc (xc (by exact λvals=>X.val rfl rfl (RV.re (v':=.bool false) (ldR_r (v:=.bool z.gone) isAgg4 rfl A0 hcs1 (hN0 b1 hbl1) z8 (nQ hel1 hz hix 4 zI)) (by rw[hgo])) (λ_ _=>rfl)) (xc z1 (xc zK (xc zK (xc (by exact λvals=>X.val rfl rfl (RV.re (v':=.bool true) (neqI_r rfl rfl) rfl) (λ_ _=>rfl)) (xc z1 (xc zK (xc zJ (xc zJ (xc zJ (xc zJ (xc zJ (xc zJ (xc zJ (xc zJ (xc zJ (xc zJ (xc zJ (xc zJ (xn))))))))))))))))))))))))))) zM zM zM (λvals=>?_);refine B 14 ?_;refine zAe ?_;refine PJ.again (j+1) zG zG zR rfl zFb zS
  exact zhi
 intro hc1;refine B 4 ?_;exact nPh (.inr rfl) results67 A0 (λA hA=>.inl (by rw[afp zG]at hA;exact hA))
theorem expI_chk{y:Ex}{e:Int}(he:chkI p=e)(h:¬e=0):e=expI Z p ls y:=by
 have h1:=chkI_two p;unfold expI;rw[if_neg zG];omega
theorem n0b{ca:Option Addr}{cs:List Cn}{cc:Nat}(h0:chkI p=0)(h:(setK (cntL Z ls f cs)).length=0\/(p.two=true/\(setK (cntL Z ls f cs)).length=1)):460=expI Z p ls ⟨f,ca,cs,cc⟩:=by
 unfold expI;rw[if_pos h0,if_pos h]
theorem nVb{ca:Option Addr}{cs:List Cn}{cc:Nat}(h0:chkI p=0)(h1:¬(setK (cntL Z ls f cs)).length=0)(h2:p.two=false\/¬(setK (cntL Z ls f cs)).length=1):0=expI Z p ls ⟨f,ca,cs,cc⟩:=by
 unfold expI;rw[if_pos h0,if_neg];rintro(h|⟨h3,h4⟩)
 ·exact h1 h
 rcases h2 with h2|h2
 ·rw[h2]at h3;cases h3
 exact h2 h4
theorem nWc(hZ:FxOk Z)(p:Po)(hf:PoFew p)(ls:List Ls)(hl:ls.length<=1000000)(f:Nat->Int)(cs:List Cn)(hcl:cs.length<=1000000)(N:Nat)(a:Option Addr)(cp:Nat)(ca:Option Addr)(cc:Nat)(w:World)(hN:N<=w.heap.size)(hp:PoAt N w p)(hsl:SlAt lsC 5 N w a ls)(hcs:SlAt cnC 3 N w ca cs)(hg:Glb w)(hg2:3<=N):Calls prog 13 #[.agg (poC p),.slice a ls.length cp,.agg (exC (⟨f,ca,cs,cc⟩:Ex))] w (Ret w (.int .i64 (expI Z p ls (⟨f,ca,cs,cc⟩:Ex)))):=by
 obtain⟨e,he⟩:∃e,chkI p=e:=⟨_,rfl⟩;refine n1b Gh.no [] (vs:=[_,_,_]) func13 rfl ntmps13 rfl (nmc w) ?_;refine B 3 ?_;intro b3 w3 hb3 ha3 ho3 hm3 hz3;replace ha3:=yb ha3;replace ho3:=yc ho3;refine B 1 ?_;intro b5 w5 hb5 ha5 ho5 hm5 hz5;replace ha5:=yb ha5;replace ho5:=yc ho5;refine B 6 ?_;refine rv rfl rfl rfl (RV.re (v':=.agg (poC p)) (ldRAw_r isAgg34 sizeOf34 rfl A1 hb3 hm3 trivial rfl) (rfl)) ?_;refine call call7 rfl rfl rfl (λW hS=>by rw[<-he];exact nyb p hf N W (aco hN (hS.links _ A2).size) (hp.up (abo _) (hS.same A2 hN zN zH))) (v:=.int .i64 e) ?_;refine B 9 ?_;refine zCD ?_ ?_
 ·intro hc1;refine B 8 ?_;exact retM0 (.inl rfl) results13 rfl (λW hS=>⟨congrArg Ending.returned (congrArg (Value.int .i64) (expI_chk he zG)),hS.base A2 trivial⟩)
 intro hc1;refine B 4 ?_;refine zUg ?_;intro b15 ha15 ho15;replace ha15:=yb ha15;replace ho15:=yc ho15;refine znf ?_;intro b8 ha8 ho8;replace ha8:=yb ha8;replace ho8:=yc ho8;refine stWw (i:=0) rfl sizeOf90 rfl rfl rfl rfl rfl rfl ?_;refine B 6 ?_;refine rv rfl rfl rfl (RV.re (v':=.agg (exC (⟨f,ca,cs,cc⟩:Ex))) (ldRAw_r isAgg76 sizeOf76 rfl A0 hb5 hm5 zF rfl) (rfl)) ?_;refine nq (α:=Nat×Nat) (v:=λb:Nat×Nat=>.func (.func 67) #[] #[ptr b.1 0,ptr b.2 0]) (Φ:=λ(W:World) (b:Nat×Nat) (w1:World)=>W.heap.size<=b.1/\W.heap.size<=b.2/\b.1≠b.2/\w1.heap[b.1]? =some (.cells (exC (⟨f,ca,cs,cc⟩:Ex)) 76 (0,0))/\w1.heap[b.2]? =some (.cells #[.slice a ls.length cp] 73 (0,0))) call34 rfl rfl rfl (λW hS=>nKh a ls.length cp (⟨f,ca,cs,cc⟩:Ex) W) ?_;rintro Wd ⟨bd,be⟩ wd hSd hBd ⟨hbd1,hbe1,hne,hbd2,hbe2⟩;simp only at hbd1 hbe1 hne hbd2 hbe2;have hUd:=hSd.under;simp only[nH,adp,a9o]at hUd;have hAd:=hSd.sizes;replace hAd:=yb hAd;have hzd:=hBd.size;refine B 3 ?_;refine CJ.range (f:=67) (cap:=[ptr bd 0,ptr be 0]) (α:=Int) (enc:=(λo:Int=>[.int .i64 o])) (xs:=cntL Z ls f cs) (MI:=λ_=>False) (RO:=λk=>k<N\/k=bd\/k=be) rfl call67 (λW W2 hS hB=>by
  have hS2:=hS.step hB;have hsm:=hS2.same (w:=w) A3 hN zN zic;exact n5j hZ ls hl f cs hcl N a cp ca cc bd be W2 (aco hN (hS2.links w A3).size) (hsl.up (abo _) hsm) (hcs.up (abo _) hsm) (hS2.old A0 hbd2 zO z7) (hS2.old A0 hbe2 zO z7) (hg.old hS2 A3 zN zic) hg2) (λ_ _ _ hk=>hk.elim) (λW hS k hk=>by have hAz:=hS.sizes;simp only[Above]at hAz;have h1:=(ago.1 hbd2).1;have h2:=(ago.1 hbe2).1;refine⟨by omega,by simp only[adp,a9o,afo,a0o,aeo,aCo,or_false,not_or];omega,λh=>h⟩) (λ_=>rfl) (λpre Hc=>Hc=[(b8,.cells #[.map (some b15)] 90 (0,0)),(b15,mpO (.agg #[]) (setK pre))]) (λ_ _=>False) rfl zIc (λ_ _ hk=>hk.elim) zI ?_ ?_ ?_
 ·rintro pre x Hc l Dk rec Wy hrs hrp hpre rfl haD hlD hlW haW;simp only[Above]at haD haW;refine B 3 ?_;refine n8b hrs ?_;refine B 4 ?_;refine nMc (f:=35) (i:=1) (first:=[]) (cap:=[]) rfl rfl call35 rfl rfl rfl (λW hS hW=>nkm b15 _ x W hW) ?_;refine B 2 ?_;exact ntg (Hc:=[(b8,.cells #[.map (some b15)] 90 (0,0)),(b15,mpO (.agg #[]) (putK (setK pre) x))]) (λ_ hk=>hk) (by cases rec;simp_all) (by rw[nnj])
 ·rintro l Dk rec Hc haD hlD rfl;replace haD:=yb haD;refine B 6 ?_;refine rv rfl rfl rfl (mlen_r underlying90 (Lies.own (i:=1) rfl) rfl) ?_;refine B 2 ?_;refine nf (t:=26) rfl (λhc2=>?_) (λhc2=>?_)
  ·replace hc2:=ya hc2;refine zYd ?_;refine zxg ?_;refine B 11 ?_;exact z8h
  replace hc2:=ya hc2;refine B 3 ?_;refine nf (t:=29) rfl (λhc3=>?_) (λhc3=>?_)
  ·replace hc3:=ya hc3;refine B 1 ?_;refine rv rfl rfl rfl (mlen_r underlying90 (Lies.own (i:=1) rfl) rfl) ?_;refine B 5 ?_;refine zCD ?_ ?_
   ·intro hc4;refine B 7 ?_;exact z8h
   intro hc4;refine B 8 ?_;exact z8h
  replace hc3:=ya hc3;refine zYd ?_;refine B 13 ?_;exact z8h
 exact zDj

def nfb:Array Value:=#[.slice none 0 0,.slice none 0 0,.slice none 0 0,.slice none 0 0,.slice none 0 0,.slice none 0 0,.slice none 0 0,.slice none 0 0]
section
variable {C:Cx} {fn:Func} {R:Ending->World->Prop} {E:Env} {G:Gh} {L:List World} {H:Heap}
theorem retMC{Dk t ct:Nat}{v:Value}(he:e= .ret\/e= .normal)(hr:fn.results=#[.cell t T])(hA:AggF C.P T false)(hx:look E t=some (ptr b 0))(hm:(Dk,.deferred (some []))∈H)(hb:(b,.cells cs ct fr)∈H)(hne:b≠Dk)(hv:cs[0]? =some v)(h:∀W H',St G L H' W->H'.map (·.1)=H.map (·.1)->R (.returned v) W):PJ C (bodyPostM (FW none) 0 C.P fn R) e E [coll Dk] G L H:=
 retM he hm λa W H' hF hS hst hmap=>by
  obtain⟨i,hi⟩:=aoo.1 (hst _ hb hne);exact⟨v,(RS.w (C:=C) hi hA hx hv RS.n).res hr hF hS,h W H' hS hmap⟩
end
def lstd (Z:Fx) (d:Int):Ls:=⟨d,(Z.ge 4 (d+1)).1,(Z.ge 4 (d+1)).1,1,false⟩
theorem npe(hZ:FxOk Z)(d:Int)(hd:KOk (d+1))(w:World):Calls prog 12 #[.int .i64 d] w (Ret w (.agg (lsC (lstd Z d)))):=by
 have hd1:=hd.1;have hd2:=hd.2;refine enter (vs:=[_]) func12 rfl ntmps12 rfl ?_;refine B 2 ?_;refine allW zeroValue71 rfl rfl ?_;intro b2 ha2 ho2;replace ha2:=yb ha2;replace ho2:=yc ho2;refine B 6 ?_;refine call call31 rfl rfl rfl (λW hS=>nMm hZ (d+1) hd W) ?_;refine B 12 ?_;refine rv rfl rfl rfl (bldS_r underlying71 zeroValue71 (PlF.c sizeOf3 (PlF.c sizeOf3 (PlF.c sizeOf3 (PlF.c sizeOf3 (PlF.c sizeOf4 (PlF.n)))))) rfl rfl) ?_;refine stWw (i:=0) rfl sizeOf71 rfl rfl rfl rfl rfl rfl ?_;refine B 3 ?_;refine retO (.inl rfl) results12 (RS.wA (i:=0) rfl isAgg71 sizeOf71 rfl (apo rfl) (RS.n)) A0 zL ?_;rfl
theorem nWd(p:Po)(w:World):Calls prog 29 #[.agg nfb,.agg (poC p)] w (RetX w (λb:Nat×Nat=>.func (.func 60) #[] #[ptr b.1 0,ptr b.2 0]) (λb w1=>w.heap.size<=b.1/\w1.heap[b.1]? =some (.cells nfb 31 (0,0)))):=by
 refine enter (vs:=[_,_]) func29 rfl ntmps29 rfl ?_;refine B 3 ?_;intro b2 w2 hb2 ha2 ho2 hm2 hz2;replace ha2:=yb ha2;replace ho2:=yc ho2;refine B 1 ?_;intro b3 w3 hb3 ha3 ho3 hm3 hz3;replace ha3:=yb ha3;replace ho3:=yc ho3;refine B 10 ?_;refine nE (b2,b3) results29 rfl A2 rfl ?_;exact λW hS=>⟨ha2.1,hS.old A1 hb2 hm2 trivial⟩
theorem nef(b c:Nat)(W:World)(hb1:W.heap[b]? =some (.cells nfb 31 (0,0))):nmd prog 60 [ptr b 0,ptr c 0] (λ_:Unit=>[.bool true]) ([]) (λ_=>False) (λk=>k=b) W:=by
 intro l M I X0 hM hI hX hy h0;have hm1:¬M b:=λh=>(hM b h).2.2 rfl;refine nT (itG hM (hI [])) [] (vs:=[_,_,_]) func60 rfl ntmps60 rfl (st_it hM (hI []) h0) ?_;refine B 3 ?_;refine rv rfl rfl rfl (RV.re (v':=.slice none 0 0) (ldR_r isAgg29 rfl A0 hb1 hm1 trivial rfl) (rfl)) ?_;refine B 5 ?_;refine CJ.loop (α:=Nat) (λj=>[(8,.int .i64 0),(9,.int .i64 0)]) (λj=>[]) (λj=>[W]) (λj=>itG hM (hI [])) (λj=>True) (λj=>0) 0 True.intro ⟨rfl,rfl,trivial⟩ rfl rfl zS ?_;rintro j _;refine zJh ?_;refine B 8 ?_;exact nPh (.inr rfl) results60 A0 (λA hA=>.inl hA)
theorem nrc{α:Type}{w:World}{v:α->Value}{Φ:α->World->Prop}{P:Program}{f:Nat}{args:Array Value}(h:Calls P f args w (RetX w v Φ)):Calls P f args w (RetX w v (λ_ _=>True)):=
 h.mono λ_ _ ⟨x,h1,h2,_⟩=>⟨x,h1,h2,trivial⟩
theorem nSf(p:Po)(hf:PoFew p)(hk0:chkI p=0)(N:Nat)(w:World)(hN:N<=w.heap.size)(hp:PoAt N w p):Calls prog 14 #[.agg nfb,.slice none 0 0,.agg (poC p)] w (Ret w (.int .i64 0)):=by
 refine n1b Gh.no [] (vs:=[_,_,_]) func14 rfl ntmps14 rfl (nmc w) ?_;refine B 3 ?_;intro b3 w3 hb3 ha3 ho3 hm3 hz3;replace ha3:=yb ha3;replace ho3:=yc ho3;refine B 1 ?_;intro b4 w4 hb4 ha4 ho4 hm4 hz4;replace ha4:=yb ha4;replace ho4:=yc ho4;refine B 1 ?_;intro b5 w5 hb5 ha5 ho5 hm5 hz5;replace ha5:=yb ha5;replace ho5:=yc ho5;refine allW zeroValue39 rfl rfl ?_;intro b6 ha6 ho6;replace ha6:=yb ha6;replace ho6:=yc ho6;refine B 5 ?_;refine zdh ?_;refine call call7 rfl rfl rfl (λW hS=>by rw[<-hk0];exact nyb p hf N W (aco hN (hS.links _ A3).size) (hp.up (abo _) (hS.same A3 hN zN zH))) (v:=.int .i64 0) ?_;refine zxh ?_;refine B 6 ?_;refine CJ.less (E':=[(0,_),(1,_),(2,_),(3,_),(4,_),(5,_),(6,_),(7,_),(16,_),(17,_),(18,_),(19,_)]) zR ?_;refine nRg 8 [2,5,6,7] [([],some _),([0],some (.slice p.la p.left.length p.lc)),([1],none),([],some _),([3],some (.slice p.ra p.right.length p.rc)),([4],none),([],none),([],none)] [[],[0],[],[]] (λcv L' H'=>match cv with| [none,none,none,none]=>L'=[w5,w4,w3,w]/\H'=[(b6,.cells #[.int .i64 0] 39 (0,0))]| [none,none,none,some v7]=>∃(b9:Nat),v7=ptr b9 0/\L'=[w5,w4,w3,w]/\H'=[(b9,.cells #[.map none] 90 (0,0)),(b6,.cells #[.int .i64 0] 39 (0,0))]/\(w5.heap.size<=b9/\w4.heap.size<=b9/\w3.heap.size<=b9/\w.heap.size<=b9)| [none,none,some v6,none]=>∃(b8:Nat),v6=ptr b8 0/\L'=[w5,w4,w3,w]/\H'=[(b8,.cells #[.map none] 90 (0,0)),(b6,.cells #[.int .i64 0] 39 (0,0))]/\(w5.heap.size<=b8/\w4.heap.size<=b8/\w3.heap.size<=b8/\w.heap.size<=b8)| [none,none,some v6,some v7]=>∃(b8:Nat) (b9:Nat),v6=ptr b8 0/\v7=ptr b9 0/\L'=[w5,w4,w3,w]/\H'=[(b9,.cells #[.map none] 90 (0,0)),(b8,.cells #[.map none] 90 (0,0)),(b6,.cells #[.int .i64 0] 39 (0,0))]/\(w5.heap.size<=b8/\w4.heap.size<=b8/\w3.heap.size<=b8/\w.heap.size<=b8)/\(w5.heap.size<=b9/\w4.heap.size<=b9/\w3.heap.size<=b9/\w.heap.size<=b9)| [some v2,none,none,none]=>∃(b23:Nat),v2= .map (some b23)/\L'=[w5,w4,w3,w]/\H'=[(b6,.cells #[.int .i64 0] 39 (0,0))]| [some v2,none,none,some v7]=>∃(b23:Nat) (b9:Nat),v2= .map (some b23)/\v7=ptr b9 0/\L'=[w5,w4,w3,w]/\H'=[(b9,.cells #[.map none] 90 (0,0)),(b6,.cells #[.int .i64 0] 39 (0,0))]/\(w5.heap.size<=b9/\w4.heap.size<=b9/\w3.heap.size<=b9/\w.heap.size<=b9)| [some v2,none,some v6,none]=>∃(b23:Nat) (b8:Nat),v2= .map (some b23)/\v6=ptr b8 0/\L'=[w5,w4,w3,w]/\H'=[(b8,.cells #[.map none] 90 (0,0)),(b6,.cells #[.int .i64 0] 39 (0,0))]/\(w5.heap.size<=b8/\w4.heap.size<=b8/\w3.heap.size<=b8/\w.heap.size<=b8)| [some v2,none,some v6,some v7]=>∃(b23:Nat) (b8:Nat) (b9:Nat),v2= .map (some b23)/\v6=ptr b8 0/\v7=ptr b9 0/\L'=[w5,w4,w3,w]/\H'=[(b9,.cells #[.map none] 90 (0,0)),(b8,.cells #[.map none] 90 (0,0)),(b6,.cells #[.int .i64 0] 39 (0,0))]/\(w5.heap.size<=b8/\w4.heap.size<=b8/\w3.heap.size<=b8/\w.heap.size<=b8)/\(w5.heap.size<=b9/\w4.heap.size<=b9/\w3.heap.size<=b9/\w.heap.size<=b9)| [some v2,some v5,none,none]=>∃(b23:Nat) (b26:Nat),v2= .map (some b23)/\v5= .map (some b26)/\L'=[w5,w4,w3,w]/\H'=[(b6,.cells #[.int .i64 0] 39 (0,0))]| [some v2,some v5,none,some v7]=>∃(b23:Nat) (b26:Nat) (b9:Nat),v2= .map (some b23)/\v5= .map (some b26)/\v7=ptr b9 0/\L'=[w5,w4,w3,w]/\H'=[(b9,.cells #[.map none] 90 (0,0)),(b6,.cells #[.int .i64 0] 39 (0,0))]/\(w5.heap.size<=b9/\w4.heap.size<=b9/\w3.heap.size<=b9/\w.heap.size<=b9)| [some v2,some v5,some v6,none]=>∃(b23:Nat) (b26:Nat) (b8:Nat),v2= .map (some b23)/\v5= .map (some b26)/\v6=ptr b8 0/\L'=[w5,w4,w3,w]/\H'=[(b8,.cells #[.map none] 90 (0,0)),(b6,.cells #[.int .i64 0] 39 (0,0))]/\(w5.heap.size<=b8/\w4.heap.size<=b8/\w3.heap.size<=b8/\w.heap.size<=b8)| [some v2,some v5,some v6,some v7]=>∃(b23:Nat) (b26:Nat) (b8:Nat) (b9:Nat),v2= .map (some b23)/\v5= .map (some b26)/\v6=ptr b8 0/\v7=ptr b9 0/\L'=[w5,w4,w3,w]/\H'=[(b9,.cells #[.map none] 90 (0,0)),(b8,.cells #[.map none] 90 (0,0)),(b6,.cells #[.int .i64 0] 39 (0,0))]/\(w5.heap.size<=b8/\w4.heap.size<=b8/\w3.heap.size<=b8/\w.heap.size<=b8)/\(w5.heap.size<=b9/\w4.heap.size<=b9/\w3.heap.size<=b9/\w.heap.size<=b9)|_=>False) zM ⟨rfl,rfl⟩ zM zM zM zM zM zM rfl (qc (by exact λcv L' H' _ _ hP=>X.val rfl rfl (fld_r underlying34 rfl sizeOf32 rfl) R2) (qc zcD (qk (qc (by exact λcv L' H' _ _ hP=>X.val rfl rfl (fld_r underlying34 rfl sizeOf32 rfl) R2) (qc zcD (qk (qk (qk (qn))))))))) ?_ ?_
 ·refine nc rfl rfl rfl rfl ?_ ?_
  ·intro cv L' H' hl hr hP F Q' hk;obtain⟨x2,x5,x6,x7,rfl⟩:=len4 hl;rcases x2 with _|v2<;>rcases x5 with _|v5<;>rcases x6 with _|v6<;>rcases x7 with _|v7<;>try exact False.elim hP
   ·obtain⟨rfl,rfl⟩:=hP;refine zhe ?_;rintro _ b23 wq _ _ _;exact OJ.done (nR (λv hv=>.tail _ hv) (hk _ _ _ ⟨b23,rfl,rfl,rfl⟩))
   ·obtain⟨b9,rfl,rfl,rfl,ha9⟩:=hP;refine zhe ?_;rintro _ b23 wq _ _ _;exact OJ.done (nR (λv hv=>.tail _ hv) (hk _ _ _ ⟨b23,b9,rfl,rfl,rfl,rfl,ha9⟩))
   ·obtain⟨b8,rfl,rfl,rfl,ha8⟩:=hP;refine zhe ?_;rintro _ b23 wq _ _ _;exact OJ.done (nR (λv hv=>.tail _ hv) (hk _ _ _ ⟨b23,b8,rfl,rfl,rfl,rfl,ha8⟩))
   ·obtain⟨b8,b9,rfl,rfl,rfl,rfl,ha8,ha9⟩:=hP;refine zhe ?_;rintro _ b23 wq _ _ _;exact OJ.done (nR (λv hv=>.tail _ hv) (hk _ _ _ ⟨b23,b8,b9,rfl,rfl,rfl,rfl,rfl,ha8,ha9⟩))
   ·exact z1h
   ·exact z1h
   ·exact z1h
   ·exact z1h
   ·exact z1h
   ·exact z1h
   ·exact z1h
   exact z1h
  refine nc rfl rfl rfl rfl ?_ ?_
  ·intro cv L' H' hl hr hP F Q' hk;obtain⟨x2,x5,x6,x7,rfl⟩:=len4 hl;rcases x2 with _|v2<;>rcases x5 with _|v5<;>rcases x6 with _|v6<;>rcases x7 with _|v7<;>try exact False.elim hP
   ·exact z1h
   ·exact z1h
   ·exact z1h
   ·exact z1h
   ·obtain⟨b23,rfl,rfl,rfl⟩:=hP;refine zge ?_;rintro _ b26 wq _ _ _;exact OJ.done (nR (λv hv=>.tail _ hv) (hk _ _ _ ⟨b23,b26,rfl,rfl,rfl,rfl⟩))
   ·obtain⟨b23,b9,rfl,rfl,rfl,rfl,ha9⟩:=hP;refine zge ?_;rintro _ b26 wq _ _ _;exact OJ.done (nR (λv hv=>.tail _ hv) (hk _ _ _ ⟨b23,b26,b9,rfl,rfl,rfl,rfl,rfl,ha9⟩))
   ·obtain⟨b23,b8,rfl,rfl,rfl,rfl,ha8⟩:=hP;refine zge ?_;rintro _ b26 wq _ _ _;exact OJ.done (nR (λv hv=>.tail _ hv) (hk _ _ _ ⟨b23,b26,b8,rfl,rfl,rfl,rfl,rfl,ha8⟩))
   ·obtain⟨b23,b8,b9,rfl,rfl,rfl,rfl,rfl,ha8,ha9⟩:=hP;refine zge ?_;rintro _ b26 wq _ _ _;exact OJ.done (nR (λv hv=>.tail _ hv) (hk _ _ _ ⟨b23,b26,b8,b9,rfl,rfl,rfl,rfl,rfl,rfl,ha8,ha9⟩))
   ·exact z1h
   ·exact z1h
   ·exact z1h
   exact z1h
  refine nc rfl rfl rfl rfl ?_ ?_
  ·intro cv L' H' hl hr hP F Q' hk;obtain⟨x2,x5,x6,x7,rfl⟩:=len4 hl;rcases x2 with _|v2<;>rcases x5 with _|v5<;>rcases x6 with _|v6<;>rcases x7 with _|v7<;>try exact False.elim hP
   ·obtain⟨rfl,rfl⟩:=hP;refine znf ?_;intro b8 ha ho;exact OJ.done (hk _ _ _ ⟨b8,rfl,rfl,rfl,⟨ha.1,ha.2.1,ha.2.2.1,ha.2.2.2.1⟩⟩)
   ·obtain⟨b9,rfl,rfl,rfl,ha9⟩:=hP;refine znf ?_;intro b8 ha ho;exact OJ.done (ndg (hk _ _ _ ⟨b8,b9,rfl,rfl,rfl,rfl,⟨ha.1,ha.2.1,ha.2.2.1,ha.2.2.2.1⟩,ha9⟩))
   ·exact z1h
   ·exact z1h
   ·obtain⟨b23,rfl,rfl,rfl⟩:=hP;refine znf ?_;intro b8 ha ho;exact OJ.done (hk _ _ _ ⟨b23,b8,rfl,rfl,rfl,rfl,⟨ha.1,ha.2.1,ha.2.2.1,ha.2.2.2.1⟩⟩)
   ·obtain⟨b23,b9,rfl,rfl,rfl,rfl,ha9⟩:=hP;refine znf ?_;intro b8 ha ho;exact OJ.done (ndg (hk _ _ _ ⟨b23,b8,b9,rfl,rfl,rfl,rfl,rfl,⟨ha.1,ha.2.1,ha.2.2.1,ha.2.2.2.1⟩,ha9⟩))
   ·exact z1h
   ·exact z1h
   ·obtain⟨b23,b26,rfl,rfl,rfl,rfl⟩:=hP;refine znf ?_;intro b8 ha ho;exact OJ.done (hk _ _ _ ⟨b23,b26,b8,rfl,rfl,rfl,rfl,rfl,⟨ha.1,ha.2.1,ha.2.2.1,ha.2.2.2.1⟩⟩)
   ·obtain⟨b23,b26,b9,rfl,rfl,rfl,rfl,rfl,ha9⟩:=hP;refine znf ?_;intro b8 ha ho;exact OJ.done (ndg (hk _ _ _ ⟨b23,b26,b8,b9,rfl,rfl,rfl,rfl,rfl,rfl,⟨ha.1,ha.2.1,ha.2.2.1,ha.2.2.2.1⟩,ha9⟩))
   ·exact z1h
   exact z1h
  refine nc rfl rfl rfl rfl ?_ ?_
  ·intro cv L' H' hl hr hP F Q' hk;obtain⟨x2,x5,x6,x7,rfl⟩:=len4 hl;rcases x2 with _|v2<;>rcases x5 with _|v5<;>rcases x6 with _|v6<;>rcases x7 with _|v7<;>try exact False.elim hP
   ·obtain⟨rfl,rfl⟩:=hP;refine znf ?_;intro b9 ha ho;exact OJ.done (hk _ _ _ ⟨b9,rfl,rfl,rfl,⟨ha.1,ha.2.1,ha.2.2.1,ha.2.2.2.1⟩⟩)
   ·exact z1h
   ·obtain⟨b8,rfl,rfl,rfl,ha8⟩:=hP;refine znf ?_;intro b9 ha ho;exact OJ.done (hk _ _ _ ⟨b8,b9,rfl,rfl,rfl,rfl,ha8,⟨ha.1,ha.2.1,ha.2.2.1,ha.2.2.2.1⟩⟩)
   ·exact z1h
   ·obtain⟨b23,rfl,rfl,rfl⟩:=hP;refine znf ?_;intro b9 ha ho;exact OJ.done (hk _ _ _ ⟨b23,b9,rfl,rfl,rfl,rfl,⟨ha.1,ha.2.1,ha.2.2.1,ha.2.2.2.1⟩⟩)
   ·exact z1h
   ·obtain⟨b23,b8,rfl,rfl,rfl,rfl,ha8⟩:=hP;refine znf ?_;intro b9 ha ho;exact OJ.done (hk _ _ _ ⟨b23,b8,b9,rfl,rfl,rfl,rfl,rfl,ha8,⟨ha.1,ha.2.1,ha.2.2.1,ha.2.2.2.1⟩⟩)
   ·exact z1h
   ·obtain⟨b23,b26,rfl,rfl,rfl,rfl⟩:=hP;refine znf ?_;intro b9 ha ho;exact OJ.done (hk _ _ _ ⟨b23,b26,b9,rfl,rfl,rfl,rfl,rfl,⟨ha.1,ha.2.1,ha.2.2.1,ha.2.2.2.1⟩⟩)
   ·exact z1h
   ·obtain⟨b23,b26,b8,rfl,rfl,rfl,rfl,rfl,ha8⟩:=hP;refine znf ?_;intro b9 ha ho;exact OJ.done (hk _ _ _ ⟨b23,b26,b8,b9,rfl,rfl,rfl,rfl,rfl,rfl,ha8,⟨ha.1,ha.2.1,ha.2.2.1,ha.2.2.2.1⟩⟩)
   exact z1h
  exact nn
 intro cv L' H' hl hr hP;obtain⟨x2,x5,x6,x7,rfl⟩:=len4 hl;rcases x2 with _|v2<;>rcases x5 with _|v5<;>rcases x6 with _|v6<;>rcases x7 with _|v7
 ·exact z1h
 ·exact z1h
 ·exact z1h
 ·exact z1h
 ·exact z1h
 ·exact z1h
 ·exact z1h
 ·exact z1h
 ·exact z1h
 ·exact z1h
 ·exact z1h
 ·exact z1h
 ·exact z1h
 ·exact z1h
 ·exact z1h
 obtain⟨b23,b26,b8,b9,rfl,rfl,rfl,rfl,rfl,rfl,ha8,ha9⟩:=hP;refine stWw (i:=1) rfl sizeOf90 rfl rfl rfl rfl rfl rfl ?_;refine stWw (i:=0) rfl sizeOf90 rfl rfl rfl rfl rfl rfl ?_;refine B 5 ?_;refine rv rfl rfl rfl (RV.re (v':=.agg nfb) (ldRAw_r isAgg31 sizeOf31 rfl A2 hb3 hm3 zF rfl) (rfl)) ?_;refine zdh ?_;refine zee ?_;rintro Wd ⟨bd,bf⟩ wd hSd hBd ⟨hbd1,hbd2⟩;simp only at hbd1 hbd2;have hUd:=hSd.under;simp only[nH,adp,a9o]at hUd;have hAd:=hSd.sizes;replace hAd:=yb hAd;have hzd:=hBd.size;refine B 3 ?_;refine CJ.range (f:=60) (cap:=[ptr bd 0,ptr bf 0]) (α:=Unit) (enc:=(λ_:Unit=>[.bool true])) (xs:=[]) (MI:=λ_=>False) (RO:=λk=>k=bd) rfl call60 (λW W2 hS hB=>nef bd bf W2 ((hS.step hB).old A0 hbd2 zO z7)) (λ_ _ _ hk=>hk.elim) (λW hS k hk=>by subst hk;have:=hS.sizes;simp only[Above]at this;have:=(ago.1 hbd2).1;refine⟨by omega,by simp only[adp,a9o,afo,a0o,aeo,aCo,or_false,not_or];omega,λh=>h⟩) (λ_=>rfl) (λ_ Hc=>Hc=[(b9,.cells #[.map (some b26)] 90 (0,0)),(b8,.cells #[.map (some b23)] 90 (0,0)),(b6,.cells #[.int .i64 0] 39 (0,0))]) (λ_ _=>False) rfl zIc (λ_ _ hk=>hk.elim) zI ?_ ?_ ?_
 ·exact zyj
 ·rintro l Dk rec Hc haD hlD rfl;replace haD:=yb haD;refine B 4 ?_;refine z7g ?_;refine B 3 ?_;refine retMC (b:=b6) (.inl rfl) results14 isAgg39 rfl zjc (cs:=#[.int .i64 0]) (ct:=39) (fr:=(0,0)) (by exact A2) zG rfl (λW H' hS hmap=>⟨?_,?_⟩)
  ·exact congrArg Ending.returned rfl
  refine(hS.links w A4).below λk hk hx=>?_;exact zMi
 exact zDj
theorem n1g(fv:Value)(w:World):Calls prog 57 #[.slice none 0 0,fv] w (Ret w (.int .i64 (-1))):=by
 refine enter (vs:=[_,_]) func57 rfl ntmps57 rfl ?_;refine B 14 ?_;refine CJ.loop (α:=Nat) (λj=>[(7,.int .i64 0),(8,.int .i64 0)]) (λj=>[]) (λj=>[w]) (λj=>Gh.no) (λj=>True) (λj=>0) 0 True.intro ⟨rfl,rfl,trivial⟩ rfl rfl zS ?_;rintro j _;refine zJh ?_;refine B 15 ?_;refine retV results57 rfl A0 ?_;rfl
theorem nQk(n:Int)(w:World):Calls prog 28 #[.agg nfb,.int .i64 n] w (Ret w (.map none)):=by
 refine enter (vs:=[_,_]) func28 rfl ntmps28 rfl ?_;refine B 3 ?_;intro b2 w2 hb2 ha2 ho2 hm2 hz2;replace ha2:=yb ha2;replace ho2:=yc ho2;refine B 1 ?_;intro b3 w3 hb3 ha3 ho3 hm3 hz3;replace ha3:=yb ha3;replace ho3:=yc ho3;refine B 6 ?_;refine rv rfl rfl rfl (RV.re (v':=.slice none 0 0) (ldR_r isAgg22 rfl A1 hb2 hm2 trivial rfl) (rfl)) ?_;refine B 1 ?_;refine call call57 rfl rfl rfl (λW hS=>n1g _ W) ?_;refine B 7 ?_;refine zog ?_;refine B 10 ?_;refine retV results28 rfl A2 ?_;rfl
theorem nGc(w:World):Calls prog 27 #[.slice none 0 0] w (RetX w (λb:Nat=>.map (some b)) (λ_ _=>True)):=by
 refine enter (vs:=[_]) func27 rfl ntmps27 rfl ?_;refine B 7 ?_;refine zUg ?_;intro b6 ha6 ho6;replace ha6:=yb ha6;replace ho6:=yc ho6;refine B 12 ?_;refine CJ.loop (α:=Nat) (λj=>[(3,.map (some b6)),(8,.int .i64 0),(9,.int .i64 0)]) (λj=>[(b6,mpO (.agg #[]) [])]) (λj=>[w]) (λj=>Gh.no) (λj=>True) (λj=>0) 0 True.intro zR rfl rfl zS ?_;rintro j _;refine zJh ?_;refine B 16 ?_;exact retG (.inl rfl) results27 (RS.t rfl RS.n) (λW hS=>⟨b6,rfl,hS.base A0 zL,trivial⟩)
theorem n3e(p:Po)(hf:PoFew p)(hk0:chkI p=0)(N:Nat)(w:World)(hN:N<=w.heap.size)(hp:PoAt N w p):Calls prog 10 #[.agg nfb,.agg (poC p),.slice none 0 0] w (Ret w (.int .i64 0)):=by
 refine n1b Gh.no [] (vs:=[_,_,_]) func10 rfl ntmps10 rfl (nmc w) ?_;refine B 3 ?_;intro b3 w3 hb3 ha3 ho3 hm3 hz3;replace ha3:=yb ha3;replace ho3:=yc ho3;refine B 1 ?_;intro b4 w4 hb4 ha4 ho4 hm4 hz4;replace ha4:=yb ha4;replace ho4:=yc ho4;refine allW zeroValue39 rfl rfl ?_;intro b6 ha6 ho6;replace ha6:=yb ha6;replace ho6:=yc ho6;refine B 5 ?_;refine zQf ?_;refine call call7 rfl rfl rfl (λW hS=>by rw[<-hk0];exact nyb p hf N W (aco hN (hS.links _ A2).size) (hp.up (abo _) (hS.same A2 hN zN zH))) (v:=.int .i64 0) ?_;refine zxh ?_;refine B 6 ?_;refine zRg ?_;refine nRg 8 [1,6,7] [([],some _),([0],none),([],some (.agg nfb)),([],some _),([3],some (.int .i64 p.fo)),([2,4],some (.map none)),([],none),([],none)] [[],[],[]] (λcv L' H'=>match cv with| [none,none,none]=>L'=[w4,w3,w]/\H'=[(b6,.cells #[.int .i64 0] 39 (0,0))]| [none,none,some v7]=>∃(b9:Nat),v7=ptr b9 0/\L'=[w4,w3,w]/\H'=[(b9,.cells #[.map none] 111 (0,0)),(b6,.cells #[.int .i64 0] 39 (0,0))]/\(w4.heap.size<=b9/\w3.heap.size<=b9/\w.heap.size<=b9)| [none,some v6,none]=>∃(b8:Nat),v6=ptr b8 0/\L'=[w4,w3,w]/\H'=[(b8,.cells #[.map none] 109 (0,0)),(b6,.cells #[.int .i64 0] 39 (0,0))]/\(w4.heap.size<=b8/\w3.heap.size<=b8/\w.heap.size<=b8)| [none,some v6,some v7]=>∃(b8:Nat) (b9:Nat),v6=ptr b8 0/\v7=ptr b9 0/\L'=[w4,w3,w]/\H'=[(b9,.cells #[.map none] 111 (0,0)),(b8,.cells #[.map none] 109 (0,0)),(b6,.cells #[.int .i64 0] 39 (0,0))]/\(w4.heap.size<=b8/\w3.heap.size<=b8/\w.heap.size<=b8)/\(w4.heap.size<=b9/\w3.heap.size<=b9/\w.heap.size<=b9)| [some v1,none,none]=>∃(b20:Nat),v1= .map (some b20)/\L'=[w4,w3,w]/\H'=[(b6,.cells #[.int .i64 0] 39 (0,0))]| [some v1,none,some v7]=>∃(b20:Nat) (b9:Nat),v1= .map (some b20)/\v7=ptr b9 0/\L'=[w4,w3,w]/\H'=[(b9,.cells #[.map none] 111 (0,0)),(b6,.cells #[.int .i64 0] 39 (0,0))]/\(w4.heap.size<=b9/\w3.heap.size<=b9/\w.heap.size<=b9)| [some v1,some v6,none]=>∃(b20:Nat) (b8:Nat),v1= .map (some b20)/\v6=ptr b8 0/\L'=[w4,w3,w]/\H'=[(b8,.cells #[.map none] 109 (0,0)),(b6,.cells #[.int .i64 0] 39 (0,0))]/\(w4.heap.size<=b8/\w3.heap.size<=b8/\w.heap.size<=b8)| [some v1,some v6,some v7]=>∃(b20:Nat) (b8:Nat) (b9:Nat),v1= .map (some b20)/\v6=ptr b8 0/\v7=ptr b9 0/\L'=[w4,w3,w]/\H'=[(b9,.cells #[.map none] 111 (0,0)),(b8,.cells #[.map none] 109 (0,0)),(b6,.cells #[.int .i64 0] 39 (0,0))]/\(w4.heap.size<=b8/\w3.heap.size<=b8/\w.heap.size<=b8)/\(w4.heap.size<=b9/\w3.heap.size<=b9/\w.heap.size<=b9)|_=>False) zM ⟨rfl,rfl⟩ zM zM zM zM zM zM rfl (qc z0b (qk (qc zcE (qc (by exact λcv L' H' _ _ hP=>X.val rfl rfl (fld_r underlying34 rfl sizeOf3 rfl) R2) (qc zcE (qc (by exact λcv L' H' _ _ hP=>ni call28 rfl rfl (λW hS _=>nQk _ W) (λ_=>rfl)) (qk (qk (qn))))))))) ?_ ?_
 ·refine nc rfl rfl rfl rfl ?_ ?_
  ·intro cv L' H' hl hr hP F Q' hk;obtain⟨x1,x6,x7,rfl⟩:=len3 hl;rcases x1 with _|v1<;>rcases x6 with _|v6<;>rcases x7 with _|v7
   ·obtain⟨rfl,rfl⟩:=hP;refine zKe ?_;rintro _ b20 wq _ _ _;exact OJ.done (nR (λv hv=>.tail _ hv) (hk _ _ _ ⟨b20,rfl,rfl,rfl⟩))
   ·obtain⟨b9,rfl,rfl,rfl,ha9⟩:=hP;refine zKe ?_;rintro _ b20 wq _ _ _;exact OJ.done (nR (λv hv=>.tail _ hv) (hk _ _ _ ⟨b20,b9,rfl,rfl,rfl,rfl,ha9⟩))
   ·obtain⟨b8,rfl,rfl,rfl,ha8⟩:=hP;refine zKe ?_;rintro _ b20 wq _ _ _;exact OJ.done (nR (λv hv=>.tail _ hv) (hk _ _ _ ⟨b20,b8,rfl,rfl,rfl,rfl,ha8⟩))
   ·obtain⟨b8,b9,rfl,rfl,rfl,rfl,ha8,ha9⟩:=hP;refine zKe ?_;rintro _ b20 wq _ _ _;exact OJ.done (nR (λv hv=>.tail _ hv) (hk _ _ _ ⟨b20,b8,b9,rfl,rfl,rfl,rfl,rfl,ha8,ha9⟩))
   ·exact z1h
   ·exact z1h
   ·exact z1h
   exact z1h
  refine nc rfl rfl rfl rfl ?_ ?_
  ·intro cv L' H' hl hr hP F Q' hk;obtain⟨x1,x6,x7,rfl⟩:=len3 hl;rcases x1 with _|v1<;>rcases x6 with _|v6<;>rcases x7 with _|v7
   ·obtain⟨rfl,rfl⟩:=hP;refine zrf ?_;intro b8 ha ho;exact OJ.done (hk _ _ _ ⟨b8,rfl,rfl,rfl,⟨ha.1,ha.2.1,ha.2.2.1⟩⟩)
   ·obtain⟨b9,rfl,rfl,rfl,ha9⟩:=hP;refine zrf ?_;intro b8 ha ho;exact OJ.done (ndg (hk _ _ _ ⟨b8,b9,rfl,rfl,rfl,rfl,⟨ha.1,ha.2.1,ha.2.2.1⟩,ha9⟩))
   ·exact z1h
   ·exact z1h
   ·obtain⟨b20,rfl,rfl,rfl⟩:=hP;refine zrf ?_;intro b8 ha ho;exact OJ.done (hk _ _ _ ⟨b20,b8,rfl,rfl,rfl,rfl,⟨ha.1,ha.2.1,ha.2.2.1⟩⟩)
   ·obtain⟨b20,b9,rfl,rfl,rfl,rfl,ha9⟩:=hP;refine zrf ?_;intro b8 ha ho;exact OJ.done (ndg (hk _ _ _ ⟨b20,b8,b9,rfl,rfl,rfl,rfl,rfl,⟨ha.1,ha.2.1,ha.2.2.1⟩,ha9⟩))
   ·exact z1h
   exact z1h
  refine nc rfl rfl rfl rfl ?_ ?_
  ·intro cv L' H' hl hr hP F Q' hk;obtain⟨x1,x6,x7,rfl⟩:=len3 hl;rcases x1 with _|v1<;>rcases x6 with _|v6<;>rcases x7 with _|v7
   ·obtain⟨rfl,rfl⟩:=hP;refine zDf ?_;intro b9 ha ho;exact OJ.done (hk _ _ _ ⟨b9,rfl,rfl,rfl,⟨ha.1,ha.2.1,ha.2.2.1⟩⟩)
   ·exact z1h
   ·obtain⟨b8,rfl,rfl,rfl,ha8⟩:=hP;refine zDf ?_;intro b9 ha ho;exact OJ.done (hk _ _ _ ⟨b8,b9,rfl,rfl,rfl,rfl,ha8,⟨ha.1,ha.2.1,ha.2.2.1⟩⟩)
   ·exact z1h
   ·obtain⟨b20,rfl,rfl,rfl⟩:=hP;refine zDf ?_;intro b9 ha ho;exact OJ.done (hk _ _ _ ⟨b20,b9,rfl,rfl,rfl,rfl,⟨ha.1,ha.2.1,ha.2.2.1⟩⟩)
   ·exact z1h
   ·obtain⟨b20,b8,rfl,rfl,rfl,rfl,ha8⟩:=hP;refine zDf ?_;intro b9 ha ho;exact OJ.done (hk _ _ _ ⟨b20,b8,b9,rfl,rfl,rfl,rfl,rfl,ha8,⟨ha.1,ha.2.1,ha.2.2.1⟩⟩)
   exact z1h
  exact nn
 intro cv L' H' hl hr hP;obtain⟨x1,x6,x7,rfl⟩:=len3 hl;rcases x1 with _|v1<;>rcases x6 with _|v6<;>rcases x7 with _|v7
 ·exact z1h
 ·exact z1h
 ·exact z1h
 ·exact z1h
 ·exact z1h
 ·exact z1h
 ·exact z1h
 obtain⟨b20,b8,b9,rfl,rfl,rfl,rfl,rfl,ha8,ha9⟩:=hP;refine zNg ?_;refine B 5 ?_;refine rv rfl rfl rfl (RV.re (v':=.agg nfb) (ldRAw_r isAgg31 sizeOf31 rfl A1 hb3 hm3 zF rfl) (rfl)) ?_;refine zQf ?_;refine zee ?_;rintro Wd ⟨bd,bf⟩ wd hSd hBd ⟨hbd1,hbd2⟩;simp only at hbd1 hbd2;have hUd:=hSd.under;simp only[nH,adp,a9o]at hUd;have hAd:=hSd.sizes;replace hAd:=yb hAd;have hzd:=hBd.size;refine B 3 ?_;refine CJ.range (f:=60) (cap:=[ptr bd 0,ptr bf 0]) (α:=Unit) (enc:=(λ_:Unit=>[.bool true])) (xs:=[]) (MI:=λ_=>False) (RO:=λk=>k=bd) rfl call60 (λW W2 hS hB=>nef bd bf W2 ((hS.step hB).old A0 hbd2 zO z7)) (λ_ _ _ hk=>hk.elim) (λW hS k hk=>by subst hk;have:=hS.sizes;simp only[Above]at this;have:=(ago.1 hbd2).1;refine⟨by omega,by simp only[adp,a9o,afo,a0o,aeo,aCo,or_false,not_or];omega,λh=>h⟩) (λ_=>rfl) (λ_ Hc=>Hc=[(b9,.cells #[.map none] 111 (0,0)),(b8,.cells #[.map (some b20)] 109 (0,0)),(b6,.cells #[.int .i64 0] 39 (0,0))]) (λ_ _=>False) rfl zIc (λ_ _ hk=>hk.elim) zI ?_ ?_ ?_
 ·exact zyj
 ·rintro l Dk rec Hc haD hlD rfl;replace haD:=yb haD;refine B 4 ?_;refine z7g ?_;refine B 3 ?_;refine retMC (b:=b6) (.inl rfl) results10 isAgg39 rfl zjc (cs:=#[.int .i64 0]) (ct:=39) (fr:=(0,0)) (by exact A2) zG rfl (λW H' hS hmap=>⟨?_,?_⟩)
  ·exact congrArg Ending.returned rfl
  refine(hS.links w A3).below λk hk hx=>?_;exact zMi
 exact zDj
def rpC (p:Po) (ea:Option Addr) (en ec:Nat):Array Value:=#[.int .i64 p.fo,.bool p.two,.slice p.la p.left.length p.lc,.slice p.ra p.right.length p.rc,.int .i64 p.least,.int .i64 p.most,.slice ea en ec,.slice none 0 0]
theorem nvn(m c:Nat)(f:Nat->Int)(w:World)(hm0:w.heap[m]? =some (.map #[] c)):Calls prog 30 #[.map (some m),.agg (dg f)] w (Ret w (.bool false)):=by
 refine enter (vs:=[_,_]) func30 rfl ntmps30 rfl ?_;refine B 3 ?_;intro b3 w3 hb3 ha3 ho3 hm3 hz3;replace ha3:=yb ha3;replace ho3:=yc ho3;refine B 6 ?_;refine rv rfl rfl rfl (RV.re (v':=.agg (dg f)) (ldRAw_r isAgg43 sizeOf43 rfl A0 hb3 hm3 trivial rfl) (rfl)) ?_;refine rv rfl rfl rfl (mlook0_r underlying109 underlying43 underlying5 isAgg5 sizeOf5 zeroValue138 (λi hi=>⟨_,dg_at f i hi⟩) (Lies.old A1 hm0 zO trivial) rfl rfl) ?_;exact z7i
theorem n4m(p:Po)(b7 b6 b9:Nat)(w:World)(hb0:w.heap[b7]? =some (.cells (rpC p none 0 0) 79 (0,0))):Calls prog 40 #[ptr b7 0,ptr b6 0,ptr b9 0] w (Ret w (.int .i64 0)):=by
 have hm0:¬Gh.no.X b7:=λh=>h;refine enter (vs:=[_,_,_]) func40 rfl ntmps40 rfl ?_;refine B 9 ?_;refine rv rfl rfl rfl (RV.re (v':=.slice none 0 0) (ldR_r isAgg77 rfl A0 hb0 hm0 trivial rfl) (rfl)) ?_;refine B 5 ?_;refine CJ.loop (α:=Nat) (λj=>[(9,.int .i64 0),(10,.int .i64 0)]) (λj=>[]) (λj=>[w]) (λj=>Gh.no) (λj=>True) (λj=>0) 0 True.intro ⟨rfl,rfl,trivial⟩ rfl rfl zS ?_;rintro j _;refine zJh ?_;refine B 15 ?_;refine retV results40 rfl A0 ?_;rfl
theorem nmn(hZ:FxOk Z)(p:Po)(hf:PoFew p)(ls:List Ls)(hl:ls.length<=1000000)(f:Nat->Int)(cs:List Cn)(hcl:cs.length<=1000000)(N:Nat)(a:Option Addr)(cp:Nat)(ca:Option Addr)(cc:Nat)(w:World)(hN:N<=w.heap.size)(hp:PoAt N w p)(hsl:SlAt lsC 5 N w a ls)(hcs:SlAt cnC 3 N w ca cs)(hg:Glb w)(hg2:3<=N)(hx0:expI Z p ls (⟨f,ca,cs,cc⟩:Ex)=0)(be:Nat)(hbe:w.heap[be]? =some (.cells (exC (⟨f,ca,cs,cc⟩:Ex)) 76 (0,0)))(b7 b6 b9 m mc:Nat)(hb0:w.heap[b7]? =some (.cells (rpC p (some ⟨be,0,none⟩) 1 1) 79 (0,0)))(hb1:w.heap[b6]? =some (.cells #[.slice a ls.length cp] 73 (0,0)))(hb2:w.heap[b9]? =some (.cells #[.map (some m)] 109 (0,0)))(hmm:w.heap[m]? =some (.map #[] mc)):Calls prog 40 #[ptr b7 0,ptr b6 0,ptr b9 0] w (Ret w (.int .i64 460)):=by
 have hm0:¬Gh.no.X b7:=λh=>h;have hm1:¬Gh.no.X b6:=λh=>h;have hm2:¬Gh.no.X b9:=λh=>h;have hl0:=(ago.1 hb0).1;have hl1:=(ago.1 hb1).1;have hl2:=(ago.1 hb2).1;have hl3:=(ago.1 hmm).1;have hl4:=(ago.1 hbe).1;refine enter (vs:=[_,_,_]) func40 rfl ntmps40 rfl ?_;refine B 9 ?_;refine rv rfl rfl rfl (RV.re (v':=.slice (some ⟨be,0,none⟩) 1 1) (ldR_r isAgg77 rfl A0 hb0 hm0 trivial rfl) (rfl)) ?_;refine B 5 ?_;refine CJ.loop (α:=Nat) (λj=>[(0,ptr b7 0),(1,ptr b6 0),(2,ptr b9 0),(8,.slice (some ⟨be,0,none⟩) 1 1),(9,.int .i64 1),(10,.int .i64 (j:Int))]) (λj=>[]) (λj=>[w]) (λj=>Gh.no) (λj=>j=0) (λj=>0) 0 rfl zR rfl rfl zS ?_;rintro j hj0;obtain rfl:j=0:=hj0;refine B 2 ?_;refine zog ?_;refine B 11 ?_;refine rv rfl rfl rfl (RV.re (v':=.agg (exC (⟨f,ca,cs,cc⟩:Ex))) (ldRA_r isAgg76 sizeOf76 rfl A0 hbe zO trivial (apo rfl)) rfl) ?_;refine allW zeroValue76 rfl rfl ?_;intro b5 ha5 ho5;replace ha5:=yb ha5;replace ho5:=yc ho5;refine stWw (i:=0) rfl sizeOf76 rfl rfl rfl rfl rfl rfl ?_;refine B 6 ?_;refine rv rfl rfl rfl (RV.re (v':=.agg (poC p)) (ldRA_r isAgg34 sizeOf34 rfl A0 hb0 hm0 zF (apo rfl)) (rfl)) ?_;refine rv rfl rfl rfl (RV.re (v':=.slice a ls.length cp) (ldR_r isAgg73 rfl A0 hb1 hm1 zF rfl) (rfl)) ?_;refine rv rfl rfl rfl (RV.re (v':=.agg (exC (⟨f,ca,cs,cc⟩:Ex))) (ldWAw_r (i:=0) rfl isAgg76 sizeOf76 rfl rfl) (rfl)) ?_
 refine call call13 rfl rfl rfl (λW hS=>by rw[<-hx0];have hsm:=hS.same (w:=w) A0 hN zN zH;exact nWc hZ p hf ls hl f cs hcl N a cp ca cc W (aco hN (hS.links _ A0).size) (hp.up (abo _) hsm) (hsl.up (abo _) hsm) (hcs.up (abo _) hsm) (hg.old hS A0 zN zH) hg2) (v:=.int .i64 0) ?_;refine zxh ?_;refine B 7 ?_;refine rv rfl rfl rfl (RV.re (v':=.map (some m)) (ldR_r isAgg109 rfl A0 hb2 hm2 zF rfl) (rfl)) ?_;refine B 1 ?_;refine rv rfl rfl rfl (RV.re (v':=.agg (dg f)) (ldWA_r (i:=0) rfl isAgg43 sizeOf43 rfl (apo rfl)) (rfl)) ?_;refine call call30 rfl rfl rfl (λW hS=>nvn m mc f W (hS.old A0 hmm zO z8)) ?_;refine B 15 ?_;refine retO (.inl rfl) results40 (RS.t rfl (RS.n)) A0 zL ?_;rfl
theorem audit2(p:Po)(hf:PoFew p)(hk0:chkI p=0)(N:Nat)(w:World)(hN:N<=w.heap.size)(hp:PoAt N w p)(ea:Option Addr)(en ec b4 b5 b7:Nat)(hb0:w.heap[b4]? =some (.cells nfb 31 (0,0)))(hb1:w.heap[b5]? =some (.cells #[.slice none 0 0] 83 (0,0)))(hb2:w.heap[b7]? =some (.cells (rpC p ea en ec) 79 (0,0))):Calls prog 41 #[ptr b4 0,ptr b5 0,ptr b7 0] w (Ret w (.int .i64 0)):=by
 have hm0:¬Gh.no.X b4:=λh=>h;have hm1:¬Gh.no.X b5:=λh=>h;have hm2:¬Gh.no.X b7:=λh=>h;refine enter (vs:=[_,_,_]) func41 rfl ntmps41 rfl ?_;refine B 7 ?_;refine zWg ?_;refine rv rfl rfl rfl (RV.re (v':=.slice none 0 0) (ldR_r isAgg83 rfl A0 hb1 hm1 trivial rfl) (rfl)) ?_;refine B 1 ?_;refine rv rfl rfl rfl (RV.re (v':=.agg (poC p)) (ldRA_r isAgg34 sizeOf34 rfl A0 hb2 hm2 trivial (apo rfl)) (rfl)) ?_;refine call call14 rfl rfl rfl (λW hS=>nSf p hf hk0 N W (aco hN (hS.links _ A0).size) (hp.up (abo _) (hS.same A0 hN zN zH))) ?_;refine B 4 ?_;refine retV results41 rfl A0 ?_;rfl
theorem audit3(p:Po)(hf:PoFew p)(hk0:chkI p=0)(N:Nat)(w:World)(hN:N<=w.heap.size)(hp:PoAt N w p)(ea:Option Addr)(en ec b4 b7:Nat)(hb0:w.heap[b4]? =some (.cells nfb 31 (0,0)))(hb1:w.heap[b7]? =some (.cells (rpC p ea en ec) 79 (0,0))):Calls prog 42 #[ptr b4 0,ptr b7 0] w (Ret w (.int .i64 0)):=by
 have hm0:¬Gh.no.X b4:=λh=>h;have hm1:¬Gh.no.X b7:=λh=>h;refine enter (vs:=[_,_]) func42 rfl ntmps42 rfl ?_;refine B 7 ?_;refine zWg ?_;refine B 1 ?_;refine rv rfl rfl rfl (RV.re (v':=.agg (poC p)) (ldRA_r isAgg34 sizeOf34 rfl A0 hb1 hm1 trivial (apo rfl)) (rfl)) ?_;refine B 1 ?_;refine rv rfl rfl rfl (RV.re (v':=.slice none 0 0) (ldR_r isAgg35 rfl A0 hb1 hm1 trivial rfl) (rfl)) ?_;refine call call10 rfl rfl rfl (λW hS=>n3e p hf hk0 N W (aco hN (hS.links _ A0).size) (hp.up (abo _) (hS.same A0 hN zN zH))) ?_;refine B 4 ?_;refine retV results42 rfl A0 ?_;rfl
theorem first_1(g:Nat)(hent:Ent prog g)(cap:List Value)(F1 F2:Value)(b:Nat)(w:World)(hq0:(∀W,Below w.heap.size w W->Calls prog g cap.toArray W (Ret W (.int .i64 460))))(hb:w.heap[b]? =some (.cells #[.func (.func g) #[] cap.toArray,F1,F2] 133 (0,0))):Calls prog 43 #[.slice (some ⟨b,0,none⟩) 3 3] w (Ret w (.int .i64 460)):=by
 refine enter (vs:=[_]) func43 rfl ntmps43 rfl ?_;refine B 14 ?_;refine CJ.loop (α:=Nat) (λj=>[(6,.slice (some ⟨b,0,none⟩) 3 3),(7,.int .i64 3),(8,.int .i64 (j:Int))]) (λj=>[]) (λj=>[w]) (λj=>Gh.no) (λj=>j=0) (λj=>0) 0 rfl zR rfl rfl zS ?_;rintro j hj0;obtain rfl:j=0:=hj0;refine B 2 ?_;refine zog ?_;refine B 11 ?_;refine rv rfl rfl rfl (ldR_r (v:=.func (.func g) #[] cap.toArray) isAgg133 rfl A0 hb zO trivial rfl) ?_;refine B 6 ?_;refine nSb (f:=g) (cap:=cap) rfl hent rfl rfl rfl (λW hS=>hq0 W (hS.belowNo A0)) ?_;refine B 6 ?_;refine zxe ?_;refine B 15 ?_;refine retV results43 rfl A0 ?_;rfl
theorem first_3(g0:Nat)(hent0:Ent prog g0)(cap0:List Value)(g1:Nat)(hent1:Ent prog g1)(cap1:List Value)(g2:Nat)(hent2:Ent prog g2)(cap2:List Value)(b:Nat)(w:World)(hq0:(∀W,Below w.heap.size w W->Calls prog g0 cap0.toArray W (Ret W (.int .i64 0))))(hq1:(∀W,Below w.heap.size w W->Calls prog g1 cap1.toArray W (Ret W (.int .i64 0))))(hq2:(∀W,Below w.heap.size w W->Calls prog g2 cap2.toArray W (Ret W (.int .i64 0))))(hb:w.heap[b]? =some (.cells #[.func (.func g0) #[] cap0.toArray,.func (.func g1) #[] cap1.toArray,.func (.func g2) #[] cap2.toArray] 133 (0,0))):Calls prog 43 #[.slice (some ⟨b,0,none⟩) 3 3] w (Ret w (.int .i64 0)):=by
 refine enter (vs:=[_]) func43 rfl ntmps43 rfl ?_;refine B 14 ?_;refine CJ.loop (α:=Nat) (λj=>[(6,.slice (some ⟨b,0,none⟩) 3 3),(7,.int .i64 3),(8,.int .i64 (j:Int))]) (λj=>[]) (λj=>[w]) (λj=>Gh.no) (λj=>j<=3) (λj=>3-j) 0 zG zR rfl rfl zS ?_;rintro j hj;refine B 6 ?_;refine zCD ?_ ?_
 ·intro hc1;refine B 5 ?_;by_cases h1:j=0
  ·subst h1;refine B 2 ?_;refine rv rfl rfl rfl (ldR_r (v:=.func (.func g0) #[] cap0.toArray) isAgg133 rfl A0 hb zO trivial rfl) ?_;refine B 6 ?_;refine nSb (f:=g0) (cap:=cap0) rfl hent0 rfl rfl rfl (λW hS=>hq0 W (hS.belowNo A0)) ?_;refine zxh ?_;refine B 10 ?_;refine PJ.again 1 zG zG zR rfl rfl zS
  by_cases h2:j=1
  ·subst h2;refine B 2 ?_;refine rv rfl rfl rfl (ldR_r (v:=.func (.func g1) #[] cap1.toArray) isAgg133 rfl A0 hb zO trivial rfl) ?_;refine B 6 ?_;refine nSb (f:=g1) (cap:=cap1) rfl hent1 rfl rfl rfl (λW hS=>hq1 W (hS.belowNo A0)) ?_;refine zxh ?_;refine B 10 ?_;refine PJ.again 2 zG zG zR rfl rfl zS
  have h3:j=2:=by omega
  subst h3;refine B 2 ?_;refine rv rfl rfl rfl (ldR_r (v:=.func (.func g2) #[] cap2.toArray) isAgg133 rfl A0 hb zO trivial rfl) ?_;refine B 6 ?_;refine nSb (f:=g2) (cap:=cap2) rfl hent2 rfl rfl rfl (λW hS=>hq2 W (hS.belowNo A0)) ?_;refine zxh ?_;refine B 10 ?_;refine PJ.again 3 zG zG zR rfl rfl zS
 intro hc1;refine B 11 ?_;refine retV results43 rfl A0 ?_;rfl
theorem noh(hZ:FxOk Z)(p:Po)(hf:PoFew p)(ls:List Ls)(hl:ls.length<=1000000)(f:Nat->Int)(cs:List Cn)(hcl:cs.length<=1000000)(N:Nat)(a:Option Addr)(cp:Nat)(ca:Option Addr)(cc:Nat)(w:World)(hN:N<=w.heap.size)(hp:PoAt N w p)(hsl:SlAt lsC 5 N w a ls)(hcs:SlAt cnC 3 N w ca cs)(hg:Glb w)(hg2:3<=N)(hx0:expI Z p ls (⟨f,ca,cs,cc⟩:Ex)=0)(be:Nat)(hbe:w.heap[be]? =some (.cells (exC (⟨f,ca,cs,cc⟩:Ex)) 76 (0,0)))(hbeN:be<N):Calls prog 15 #[.agg nfb,.slice none 0 0,.slice a ls.length cp,.agg (rpC p (some ⟨be,0,none⟩) 1 1)] w (Ret w (.int .i64 460)):=by
 refine n1b Gh.no [] (vs:=[_,_,_,_]) func15 rfl ntmps15 rfl (nmc w) ?_;refine B 3 ?_;intro b4 w4 hb4 ha4 ho4 hm4 hz4;replace ha4:=yb ha4;replace ho4:=yc ho4;refine B 1 ?_;intro b5 w5 hb5 ha5 ho5 hm5 hz5;replace ha5:=yb ha5;replace ho5:=yc ho5;refine B 1 ?_;intro b6 w6 hb6 ha6 ho6 hm6 hz6;replace ha6:=yb ha6;replace ho6:=yc ho6;refine B 1 ?_;intro b7 w7 hb7 ha7 ho7 hm7 hz7;replace ha7:=yb ha7;replace ho7:=yc ho7;refine B 5 ?_;refine zUg ?_;intro b14 ha14 ho14;replace ha14:=yb ha14;replace ho14:=yc ho14;refine zrf ?_;intro b9 ha9 ho9;replace ha9:=yb ha9;replace ho9:=yc ho9;refine zqh ?_;refine B 1 ?_;refine zKg ?_;rintro Wd ⟨bd,bf⟩ wd hSd hBd ⟨hbd1,hbd2⟩;simp only at hbd1 hbd2;have hUd:=hSd.under;simp only[nH,adp,a9o]at hUd;have hAd:=hSd.sizes;replace hAd:=yb hAd;have hzd:=hBd.size;refine B 3 ?_;refine CJ.range (f:=60) (cap:=[ptr bd 0,ptr bf 0]) (α:=Unit) (enc:=(λ_:Unit=>[.bool true])) (xs:=[]) (MI:=λ_=>False) (RO:=λk=>k=bd) rfl call60 (λW W2 hS hB=>nef bd bf W2 ((hS.step hB).old A0 hbd2 zO z7)) (λ_ _ _ hk=>hk.elim) (λW hS k hk=>by subst hk;have:=hS.sizes;simp only[Above]at this;have:=(ago.1 hbd2).1;refine⟨by omega,by simp only[adp,a9o,afo,a0o,aeo,aCo,or_false,not_or];omega,λh=>h⟩) (λ_=>rfl) (λ_ Hc=>Hc=[(b9,.cells #[.map (some b14)] 109 (0,0)),(b14,mpO (.agg #[]) [])]) (λ_ _=>False) rfl zIc (λ_ _ hk=>hk.elim) zI ?_ ?_ ?_
 ·exact zyj
 ·rintro l Dk rec Hc haD hlD rfl;replace haD:=yb haD;refine B 25 ?_;refine bslR underlying173 sizeOf133 zeroValue133 rfl rfl rfl rfl rfl rfl rfl ?_;intro b30 w30 hb30 ha30 ho30 hm30 hz30;replace ha30:=yb ha30;replace ho30:=yc ho30;refine call call43 rfl rfl rfl (λW hS=>first_1 40 call40 [ptr b7 0,ptr b6 0,ptr b9 0] _ _ b30 W (λW2 hB=>by have hS2:=hS.step hB;have hsm:=hS2.same (w:=w) A6 hN zN z6b;exact nmn hZ p hf ls hl f cs hcl N a cp ca cc W2 (aco hN (hS2.links _ A6).size) (hp.up (abo _) hsm) (hsl.up (abo _) hsm) (hcs.up (abo _) hsm) (hg.old hS2 A6 zN z6b) hg2 hx0 be ((hsm be hbeN).trans hbe) b7 b6 b9 b14 _ (hS2.old A2 hb7 hm7 zsb) (hS2.old A3 hb6 hm6 zsb) (hS2.own _ A0) (hS2.own _ A1)) (hS.old A0 hb30 hm30 zsb)) ?_;exact zdk
 exact zDj
theorem nEh(p:Po)(hf:PoFew p)(hk0:chkI p=0)(N:Nat)(w:World)(hN:N<=w.heap.size)(hp:PoAt N w p)(a:Option Addr)(ln cp:Nat):Calls prog 15 #[.agg nfb,.slice none 0 0,.slice a ln cp,.agg (rpC p none 0 0)] w (Ret w (.int .i64 0)):=by
 refine n1b Gh.no [] (vs:=[_,_,_,_]) func15 rfl ntmps15 rfl (nmc w) ?_;refine B 3 ?_;intro b4 w4 hb4 ha4 ho4 hm4 hz4;replace ha4:=yb ha4;replace ho4:=yc ho4;refine B 1 ?_;intro b5 w5 hb5 ha5 ho5 hm5 hz5;replace ha5:=yb ha5;replace ho5:=yc ho5;refine B 1 ?_;intro b6 w6 hb6 ha6 ho6 hm6 hz6;replace ha6:=yb ha6;replace ho6:=yc ho6;refine B 1 ?_;intro b7 w7 hb7 ha7 ho7 hm7 hz7;replace ha7:=yb ha7;replace ho7:=yc ho7;refine B 5 ?_;refine zUg ?_;intro b14 ha14 ho14;replace ha14:=yb ha14;replace ho14:=yc ho14;refine zrf ?_;intro b9 ha9 ho9;replace ha9:=yb ha9;replace ho9:=yc ho9;refine zqh ?_;refine B 1 ?_;refine zKg ?_;rintro Wd ⟨bd,bf⟩ wd hSd hBd ⟨hbd1,hbd2⟩;simp only at hbd1 hbd2;have hUd:=hSd.under;simp only[nH,adp,a9o]at hUd;have hAd:=hSd.sizes;replace hAd:=yb hAd;have hzd:=hBd.size;refine B 3 ?_;refine CJ.range (f:=60) (cap:=[ptr bd 0,ptr bf 0]) (α:=Unit) (enc:=(λ_:Unit=>[.bool true])) (xs:=[]) (MI:=λ_=>False) (RO:=λk=>k=bd) rfl call60 (λW W2 hS hB=>nef bd bf W2 ((hS.step hB).old A0 hbd2 zO z7)) (λ_ _ _ hk=>hk.elim) (λW hS k hk=>by subst hk;have:=hS.sizes;simp only[Above]at this;have:=(ago.1 hbd2).1;refine⟨by omega,by simp only[adp,a9o,afo,a0o,aeo,aCo,or_false,not_or];omega,λh=>h⟩) (λ_=>rfl) (λ_ Hc=>Hc=[(b9,.cells #[.map (some b14)] 109 (0,0)),(b14,mpO (.agg #[]) [])]) (λ_ _=>False) rfl zIc (λ_ _ hk=>hk.elim) zI ?_ ?_ ?_
 ·exact zyj
 ·rintro l Dk rec Hc haD hlD rfl;replace haD:=yb haD;refine B 25 ?_;refine bslR underlying173 sizeOf133 zeroValue133 rfl rfl rfl rfl rfl rfl rfl ?_;intro b30 w30 hb30 ha30 ho30 hm30 hz30;replace ha30:=yb ha30;replace ho30:=yc ho30;refine call call43 rfl rfl rfl (λW hS=>first_3 40 call40 [ptr b7 0,ptr b6 0,ptr b9 0] 41 call41 [ptr b4 0,ptr b5 0,ptr b7 0] 42 call42 [ptr b4 0,ptr b7 0] b30 W (λW2 hB=>by have hS2:=hS.step hB;have hsm:=hS2.same (w:=w) A6 hN zN z6b;exact n4m p b7 b6 b9 W2 (hS2.old A2 hb7 hm7 zsb)) (λW2 hB=>by have hS2:=hS.step hB;have hsm:=hS2.same (w:=w) A6 hN zN z6b;exact audit2 p hf hk0 N W2 (aco hN (hS2.links _ A6).size) (hp.up (abo _) hsm) none 0 0 b4 b5 b7 (hS2.old A5 hb4 hm4 zsb) (hS2.old A4 hb5 hm5 zsb) (hS2.old A2 hb7 hm7 zsb)) (λW2 hB=>by have hS2:=hS.step hB;have hsm:=hS2.same (w:=w) A6 hN zN z6b;exact audit3 p hf hk0 N W2 (aco hN (hS2.links _ A6).size) (hp.up (abo _) hsm) none 0 0 b4 b7 (hS2.old A5 hb4 hm4 zsb) (hS2.old A2 hb7 hm7 zsb)) (hS.old A0 hb30 hm30 zsb)) ?_;exact zdk
 exact zDj
theorem nMg(h:W.heap[b]? =some o):b<W.heap.size:=(ago.1 h).1
theorem nrb{t:Nat}{x:Int}(h:W.heap[b]? =some (.cells #[.int .i64 x] t fr)):SlAt encI 1 W.heap.size W (some ⟨b,0,none⟩) [x]:=
 SlAt.block (nMg h) h λi hi=>by
  match i,hi with
  |0,_=>exact⟨by show 1<=1;decide,rfl⟩
theorem nZh{α:Type}{enc:α->Array Value}{n:Nat}:SlAt enc n N W a []:=.inl rfl
theorem nok{t:Nat}{x y:Cn}(h:W.heap[b]? =some (.cells #[.int .i64 x.dev,.int .i64 x.r,.int .i64 x.s,.int .i64 y.dev,.int .i64 y.r,.int .i64 y.s] t fr)):SlAt cnC 3 W.heap.size W (some ⟨b,0,none⟩) [x,y]:=
 SlAt.block (nMg h) h λi hi=>by
  match i,hi with
  |0,_=>exact⟨by show 3<=6;decide,rfl⟩
  |1,_=>exact⟨by show 6<=6;decide,rfl⟩
def lsC3 (x y z:Ls):Array Value:=#[.int .i64 x.dev,.int .i64 x.ver,.int .i64 x.leaf,.int .i64 x.vsn,.bool x.gone,.int .i64 y.dev,.int .i64 y.ver,.int .i64 y.leaf,.int .i64 y.vsn,.bool y.gone,.int .i64 z.dev,.int .i64 z.ver,.int .i64 z.leaf,.int .i64 z.vsn,.bool z.gone]
theorem nbl{t:Nat}{x y z:Ls}(h:W.heap[b]? =some (.cells (lsC3 x y z) t fr)):SlAt lsC 5 W.heap.size W (some ⟨b,0,none⟩) [x,y,z]:=
 SlAt.block (nMg h) h λi hi=>by
  match i,hi with
  |0,_=>exact⟨by show 5<=15;decide,rfl⟩
  |1,_=>exact⟨by show 10<=15;decide,rfl⟩
  |2,_=>exact⟨by show 15<=15;decide,rfl⟩
theorem nfj(hZ:FxOk Z)(f:Nat->Int){x:Int}{l:Ls}(hd:DevOk d)(hx:x=d+1)(hix:ixL d ls=some i)(hl:ls[i]? =some l)(hv:l.ver=(Z.ge 4 (d+1)).1)(hg:l.gone=false):cntO Z ls f (apC Z f d x)=some (d/8):=by
 subst hx;refine nTk (c:=apC Z f d (d+1)) hix hl hg hd ?_;rw[hv];exact npn hZ (d+1) ⟨by omega,by omega⟩ _
theorem nvh{c d:Cn}{x y:Option Int}(h1:cntO Z ls f c=x)(h2:cntO Z ls f d=y):cntL Z ls f [c,d]=x.toList++y.toList:=by
 have e1:=nJe Z ls f [c] d;have e2:=nJe Z ls f [] c;rw[h2]at e1;rw[h1]at e2;show cntL Z ls f ([c]++[d])=_;rw[e1];show cntL Z ls f ([]++[c])++_=_;rw[e2];simp[cntL]
theorem fine1{x:Int}(h0:0<=x)(h1:x<64):nDc [x]=true:=nfe (j:=1) (λi z hi hz=>by
 obtain rfl:i=0:=by omega
 obtain rfl:x=z:=by simpa using hz
 exact⟨h0,h1,λy hy=>absurd hy zG⟩) (abo _)
def itf:Nat->Int:=λi=>if i=0 then 5 else 0
def pol1 (b c:Nat):Po:=⟨1,true,some ⟨b,0,none⟩,[0],1,some ⟨c,0,none⟩,[1],1,1,2⟩
def pol2 (b c:Nat):Po:=⟨0,false,some ⟨b,0,none⟩,[3],1,some ⟨c,0,none⟩,[3],1,0,0⟩
def pol3:Po:=⟨0,false,none,[],0,none,[],0,2,1⟩
theorem ntc(b c:Nat):PoFew (pol1 b c):=⟨by show 1<=1000000;decide,by show 1<=1000000;decide⟩
theorem pol2_few(b c:Nat):PoFew (pol2 b c):=⟨by show 1<=1000000;decide,by show 1<=1000000;decide⟩
theorem pol3_few:PoFew pol3:=⟨by decide,by decide⟩
theorem njd(b c:Nat):chkI (pol1 b c)=0:=nlc _ (show(0:Int)<=1 by decide) (show(1:Int)<16 by decide) (show nDc [0]=true from fine1 zI zI) (show nDc [1]=true from fine1 zI zI) (show(0:Int)<=1 by decide) (show(1:Int)<=2 by decide) (show(2:Int)<=1099511627776 by decide) rfl
theorem pol2_no(b c:Nat):chkI (pol2 b c)=460:=ng _ (.inr (.inr (.inr (.inr (.inr (.inr (.inr rfl)))))))
theorem pol3_no:chkI pol3=460:=ng _ (.inr (.inr (.inr (.inr (.inr (.inl (show(1:Int)<2 by decide)))))))
def ls3 (Z:Fx):List Ls:=[lstd Z 0,lstd Z 1,lstd Z 8]
theorem c_a(hZ:FxOk Z):cntO Z (ls3 Z) itf (apC Z itf 0 1)=some 0:=nfj (i:=0) hZ itf zI zI rfl rfl rfl rfl
theorem c_b(hZ:FxOk Z):cntO Z (ls3 Z) itf (apC Z itf 1 2)=some 0:=nfj (i:=1) hZ itf zI zI rfl rfl rfl rfl
theorem c_c(hZ:FxOk Z):cntO Z (ls3 Z) itf (apC Z itf 8 9)=some 1:=nfj (i:=2) hZ itf zI zI rfl rfl rfl rfl
theorem e_ac(hZ:FxOk Z)(b c:Nat)(ca:Option Addr)(cc:Nat):expI Z (pol1 b c) (ls3 Z) ⟨itf,ca,[apC Z itf 0 1,apC Z itf 8 9],cc⟩=0:=by
 refine(nVb (njd b c) ?_ (.inr ?_)).symm
 ·rw[nvh (c_a hZ) (c_c hZ)];decide
 rw[nvh (c_a hZ) (c_c hZ)];decide
theorem e_ab(hZ:FxOk Z)(b c:Nat)(ca:Option Addr)(cc:Nat):expI Z (pol1 b c) (ls3 Z) ⟨itf,ca,[apC Z itf 0 1,apC Z itf 1 2],cc⟩=460:=by
 refine(n0b (njd b c) (.inr ⟨rfl,?_⟩)).symm;rw[nvh (c_a hZ) (c_b hZ)];decide
theorem e_0(Z:Fx)(b c:Nat):expI Z (pol1 b c) [] ⟨λ_=>0,none,[],0⟩=460:=(n0b (njd b c) (.inl rfl)).symm
theorem ap_ok(hZ:FxOk Z)(f:Nat->Int){x:Int}(h:DevOk d)(hk:KOk x){c:Cn}(hc:apC Z f d x=c)(w:World)(hg:Glb w):Calls prog 11 #[.agg (dg f),.int .i64 d,.int .i64 x] w (Ret w (.tuple #[.agg (cnC c),.int .i64 0])):=by
 subst hc;rw[<-apPv_ok Z f h hk];exact nSe hZ f d x w hg
theorem ap_no(hZ:FxOk Z)(f:Nat->Int){x:Int}(h:¬DevOk d)(w:World)(hg:Glb w):Calls prog 11 #[.agg (dg f),.int .i64 d,.int .i64 x] w (Ret w (.tuple #[.agg (cnC zCn),.int .i64 1])):=by
 rw[<-nej Z f (x:=x) h];exact nSe hZ f d x w hg
theorem nln(hZ:FxOk Z)(w:World)(hg:Glb w):Calls prog 4 #[] w (Ret w (.bool true)):=by
 have hg4:=hg.lt;refine enter (vs:=[]) func4 rfl ntmps4 rfl ?_;refine B 7 ?_;refine zte ?_;intro b15 w15 hb15 ha15 ho15 hm15 hz15;replace ha15:=yb ha15;replace ho15:=yc ho15;refine zte ?_;intro b16 w16 hb16 ha16 ho16 hm16 hz16;replace ha16:=yb ha16;replace ho16:=yc ho16;refine rv rfl rfl rfl (RV.re (v':=.agg (poC (pol1 b15 b16))) (bldS_r underlying34 zeroValue34 (PlF.c sizeOf3 (PlF.c sizeOf4 (PlF.c sizeOf32 (PlF.c sizeOf32 (PlF.c sizeOf3 (PlF.c sizeOf3 (PlF.n))))))) rfl rfl) (rfl)) ?_;refine allW zeroValue34 rfl rfl ?_;intro b1 ha1 ho1;replace ha1:=yb ha1;replace ho1:=yc ho1;refine stWw (i:=0) rfl sizeOf34 rfl rfl rfl rfl rfl rfl ?_;refine B 4 ?_;refine rv rfl rfl rfl (RV.re (v':=.agg (dg itf)) (bldA_r underlying43 zeroValue43 sizeOf5 rfl rfl) (rfl)) ?_;refine z8e ?_;intro b2 ha2 ho2;replace ha2:=yb ha2;replace ho2:=yc ho2;refine zHe ?_;refine B 4 ?_;refine rv rfl rfl rfl (RV.re (v':=.agg (dg itf)) (ldWAw_r (i:=0) rfl isAgg43 sizeOf43 rfl rfl) (rfl)) ?_;refine call call11 rfl rfl rfl (λW hS=>ap_ok hZ itf zI zI (c:=(apC Z itf 0 1)) rfl W (hg.old hS zS zN zH)) ?_;refine B 3 ?_;refine zOg ?_;intro b3 ha3 ho3;replace ha3:=yb ha3;replace ho3:=yc ho3;refine zIh ?_;refine rv rfl rfl rfl (RV.re (v':=.agg (dg itf)) (ldWAw_r (i:=1) rfl isAgg43 sizeOf43 rfl rfl) (rfl)) ?_;refine call call11 rfl rfl rfl (λW hS=>ap_ok hZ itf zI zI (c:=(apC Z itf 1 2)) rfl W (hg.old hS zS zN zH)) ?_
 refine B 3 ?_;refine zOg ?_;intro b5 ha5 ho5;replace ha5:=yb ha5;replace ho5:=yc ho5;refine zIh ?_;refine rv rfl rfl rfl (RV.re (v':=.agg (dg itf)) (ldWAw_r (i:=2) rfl isAgg43 sizeOf43 rfl rfl) (rfl)) ?_;refine call call11 rfl rfl rfl (λW hS=>ap_ok hZ itf zI zI (c:=(apC Z itf 8 9)) rfl W (hg.old hS zS zN zH)) ?_;refine B 3 ?_;refine zOg ?_;intro b7 ha7 ho7;replace ha7:=yb ha7;replace ho7:=yc ho7;refine zIh ?_;refine rv rfl rfl rfl (RV.re (v':=.agg (dg itf)) (ldWAw_r (i:=3) rfl isAgg43 sizeOf43 rfl rfl) (rfl)) ?_;refine call call11 rfl rfl rfl (λW hS=>ap_no hZ itf zI W (hg.old hS zS zN zH)) ?_;refine B 3 ?_;refine zOg ?_;intro b9 ha9 ho9;replace ha9:=yb ha9;replace ho9:=yc ho9;refine zIh ?_;refine call call12 rfl rfl rfl (λW hS=>npe hZ 0 zI W) ?_;refine call call12 rfl rfl rfl (λW hS=>npe hZ 1 zI W) ?_;refine call call12 rfl rfl rfl (λW hS=>npe hZ 8 zI W) ?_;refine bslR underlying73 sizeOf71 zeroValue71 rfl rfl rfl rfl rfl rfl rfl ?_;intro b42 w42 hb42 ha42 ho42 hm42 hz42;replace ha42:=yb ha42;replace ho42:=yc ho42;replace hb42:w42.heap[b42]? =some (.cells (lsC3 (lstd Z 0) (lstd Z 1) (lstd Z 8)) 71 (0,0)):=hb42;refine B 5 ?_;refine zte ?_;intro b43 w43 hb43 ha43 ho43 hm43 hz43;replace ha43:=yb ha43;replace ho43:=yc ho43;refine zte ?_;intro b44 w44 hb44 ha44 ho44 hm44 hz44;replace ha44:=yb ha44;replace ho44:=yc ho44
 refine rv rfl rfl rfl (RV.re (v':=.agg (poC (pol2 b43 b44))) (bldS_r underlying34 zeroValue34 (PlF.c sizeOf3 (PlF.c sizeOf4 (PlF.c sizeOf32 (PlF.c sizeOf32 (PlF.c sizeOf3 (PlF.c sizeOf3 (PlF.n))))))) rfl rfl) (rfl)) ?_;refine allW zeroValue34 rfl rfl ?_;intro b12 ha12 ho12;replace ha12:=yb ha12;replace ho12:=yc ho12;refine stWw (i:=0) rfl sizeOf34 rfl rfl rfl rfl rfl rfl ?_;refine B 4 ?_;refine rv rfl rfl rfl (RV.re (v':=.agg (poC (pol1 b15 b16))) (ldWAw_r (i:=6) rfl isAgg34 sizeOf34 rfl rfl) (rfl)) ?_;refine rv rfl rfl rfl (RV.re (v':=.agg (dg itf)) (ldWAw_r (i:=5) rfl isAgg43 sizeOf43 rfl rfl) (rfl)) ?_;refine rv rfl rfl rfl (RV.re (v':=.agg (cnC (apC Z itf 0 1))) (ldWAw_r (i:=4) rfl isAgg67 sizeOf67 rfl rfl) (rfl)) ?_;refine rv rfl rfl rfl (RV.re (v':=.agg (cnC (apC Z itf 8 9))) (ldWAw_r (i:=2) rfl isAgg67 sizeOf67 rfl rfl) (rfl)) ?_;refine zBg ?_;intro b50 w50 hb50 ha50 ho50 hm50 hz50;replace ha50:=yb ha50;replace ho50:=yc ho50;refine rv rfl rfl rfl (RV.re (v':=.agg (exC ⟨itf,some ⟨b50,0,none⟩,[(apC Z itf 0 1),(apC Z itf 8 9)],2⟩)) (bldS_r underlying76 zeroValue76 (PlF.c sizeOf43 (PlF.c sizeOf74 (PlF.n))) rfl rfl) (rfl)) ?_;refine bslR underlying77 sizeOf76 zeroValue76 rfl rfl rfl rfl rfl rfl rfl ?_;intro b52 w52 hb52 ha52 ho52 hm52 hz52;replace ha52:=yb ha52;replace ho52:=yc ho52;refine rv rfl rfl rfl (RV.re (v':=.agg (rpC (pol1 b15 b16) (some ⟨b52,0,none⟩) 1 1)) (bldS_r underlying79 zeroValue79 (PlF.c sizeOf34 (PlF.c sizeOf77 (PlF.c sizeOf35 (PlF.n)))) rfl rfl) (rfl)) ?_
 refine allW zeroValue79 rfl rfl ?_;intro b13 ha13 ho13;replace ha13:=yb ha13;replace ho13:=yc ho13;refine stWw (i:=0) rfl sizeOf79 rfl rfl rfl rfl rfl rfl ?_;refine B 5 ?_;refine zCh ?_;refine zde ?_;refine B 3 ?_;refine zde ?_;refine B 3 ?_;refine zCh ?_;refine zrg ?_;refine call call7 rfl rfl rfl (λW hS=>by rw[<-njd b15 b16];exact nyb (pol1 b15 b16) (ntc _ _) W.heap.size W (abo _) ⟨nrb (hS.old A6 hb15 hm15 zX),nrb (hS.old A5 hb16 hm16 zX)⟩) (v:=.int .i64 0) ?_;refine zCh ?_;refine rv rfl rfl rfl (RV.re (v':=.agg (poC (pol2 b43 b44))) (ldWAw_r (i:=1) rfl isAgg34 sizeOf34 rfl rfl) (rfl)) ?_;refine call call7 rfl rfl rfl (λW hS=>by rw[<-pol2_no b43 b44];exact nyb (pol2 b43 b44) (pol2_few _ _) W.heap.size W (abo _) ⟨nrb (hS.old A3 hb43 hm43 (by simp only[Off,adp,a9o,ne_eq,and_true];exact⟨by omega,by omega,ho43.1,ho43.2.1,ho43.2.2.1,ho43.2.2.2.1,ho43.2.2.2.2.1,ho43.2.2.2.2.2.1⟩)),nrb (hS.old A2 hb44 hm44 (by simp only[Off,adp,a9o,ne_eq,and_true];exact⟨by omega,by omega,ho44.1,ho44.2.1,ho44.2.2.1,ho44.2.2.2.1,ho44.2.2.2.2.1,ho44.2.2.2.2.2.1⟩))⟩) (v:=.int .i64 460) ?_;refine zCh ?_;refine rv rfl rfl rfl (RV.re (v':=.agg (poC pol3)) (bldS_r underlying34 zeroValue34 (PlF.c sizeOf3 (PlF.c sizeOf4 (PlF.c sizeOf32 (PlF.c sizeOf32 (PlF.c sizeOf3 (PlF.c sizeOf3 (PlF.n))))))) rfl rfl) (rfl)) ?_;refine call call7 rfl rfl rfl (λW hS=>by rw[<-pol3_no];exact nyb pol3 pol3_few W.heap.size W (abo _) ⟨nZh,nZh⟩) (v:=.int .i64 460) ?_
 refine zCh ?_;refine zrg ?_;refine B 1 ?_;refine zHf ?_;refine rv rfl rfl rfl (RV.re (v':=.agg (cnC (apC Z itf 8 9))) (ldWAw_r (i:=3) rfl isAgg67 sizeOf67 rfl rfl) (rfl)) ?_;refine zBg ?_;intro b89 w89 hb89 ha89 ho89 hm89 hz89;replace ha89:=yb ha89;replace ho89:=yc ho89;refine rv rfl rfl rfl (RV.re (v':=.agg (exC ⟨itf,some ⟨b89,0,none⟩,[(apC Z itf 0 1),(apC Z itf 8 9)],2⟩)) (bldS_r underlying76 zeroValue76 (PlF.c sizeOf43 (PlF.c sizeOf74 (PlF.n))) rfl rfl) (rfl)) ?_;refine call call13 rfl rfl rfl (λW hS=>by have hgW:=(hg.old hS zS zN zH);rw[<-e_ac hZ b15 b16 (some ⟨b89,0,none⟩) 2];exact nWc hZ (pol1 b15 b16) (ntc _ _) (ls3 Z) (by simp[ls3]) itf [(apC Z itf 0 1),(apC Z itf 8 9)] zS W.heap.size (some ⟨b42,0,none⟩) 3 (some ⟨b89,0,none⟩) 2 W (abo _) ⟨nrb (hS.old A7 hb15 hm15 zX),nrb (hS.old A6 hb16 hm16 zX)⟩ (nbl (hS.old A5 hb42 hm42 zNb)) (nok (hS.old A0 hb89 hm89 (by simp only[Off,adp,a9o,ne_eq,and_true];exact⟨ho89.1,ho89.2.1,ho89.2.2.1,ho89.2.2.2.1,ho89.2.2.2.2.1,ho89.2.2.2.2.2.1,ho89.2.2.2.2.2.2.1,ho89.2.2.2.2.2.2.2.1⟩))) hgW hgW.lt) (v:=.int .i64 0) ?_;refine zCh ?_;refine zrg ?_;refine B 1 ?_;refine zHf ?_;refine rv rfl rfl rfl (RV.re (v':=.agg (cnC (apC Z itf 1 2))) (ldWAw_r (i:=4) rfl isAgg67 sizeOf67 rfl rfl) (rfl)) ?_;refine zBg ?_;intro b100 w100 hb100 ha100 ho100 hm100 hz100;replace ha100:=yb ha100;replace ho100:=yc ho100
 refine rv rfl rfl rfl (RV.re (v':=.agg (exC ⟨itf,some ⟨b100,0,none⟩,[(apC Z itf 0 1),(apC Z itf 1 2)],2⟩)) (bldS_r underlying76 zeroValue76 (PlF.c sizeOf43 (PlF.c sizeOf74 (PlF.n))) rfl rfl) (rfl)) ?_;refine call call13 rfl rfl rfl (λW hS=>by have hgW:=(hg.old hS zS zN zH);rw[<-e_ab hZ b15 b16 (some ⟨b100,0,none⟩) 2];exact nWc hZ (pol1 b15 b16) (ntc _ _) (ls3 Z) (by simp[ls3]) itf [(apC Z itf 0 1),(apC Z itf 1 2)] zS W.heap.size (some ⟨b42,0,none⟩) 3 (some ⟨b100,0,none⟩) 2 W (abo _) ⟨nrb (hS.old A8 hb15 hm15 zX),nrb (hS.old A7 hb16 hm16 zX)⟩ (nbl (hS.old A6 hb42 hm42 zNb)) (nok (hS.old A0 hb100 hm100 (by simp only[Off,adp,a9o,ne_eq,and_true];exact⟨ho100.1,ho100.2.1,ho100.2.2.1,ho100.2.2.2.1,ho100.2.2.2.2.1,ho100.2.2.2.2.2.1,ho100.2.2.2.2.2.2.1,ho100.2.2.2.2.2.2.2.1⟩))) hgW hgW.lt) (v:=.int .i64 460) ?_;refine zde ?_;refine B 8 ?_;refine zrg ?_;refine rv rfl rfl rfl (RV.re (v':=.agg (exC ⟨λ_=>0,none,[],0⟩)) (bldS_r underlying76 zeroValue76 (PlF.c sizeOf43 (PlF.c sizeOf74 (PlF.n))) rfl rfl) (rfl)) ?_;refine call call13 rfl rfl rfl (λW hS=>by have hgW:=(hg.old hS zS zN zH);rw[<-e_0 Z b15 b16];exact nWc hZ (pol1 b15 b16) (ntc _ _) [] (by simp[ls3]) (λ_=>0) [] zS W.heap.size none 0 none 0 W (abo _) ⟨nrb (hS.old A8 hb15 hm15 zX),nrb (hS.old A7 hb16 hm16 zX)⟩ nZh nZh hgW hgW.lt) (v:=.int .i64 460) ?_;refine zCh ?_
 refine zle ?_;refine call call14 rfl rfl rfl (λW hS=>nSf (pol1 b15 b16) (ntc _ _) (njd _ _) W.heap.size W (abo _) ⟨nrb (hS.old A8 hb15 hm15 zX),nrb (hS.old A7 hb16 hm16 zX)⟩) ?_;refine zCh ?_;refine zle ?_;refine call call10 rfl rfl rfl (λW hS=>n3e (pol1 b15 b16) (ntc _ _) (njd _ _) W.heap.size W (abo _) ⟨nrb (hS.old A8 hb15 hm15 zX),nrb (hS.old A7 hb16 hm16 zX)⟩) ?_;refine zCh ?_;refine rv rfl rfl rfl (RV.re (v':=.agg nfb) (bldS_r underlying31 zeroValue31 (PlF.c sizeOf22 (PlF.c sizeOf23 (PlF.c sizeOf24 (PlF.c sizeOf25 (PlF.c sizeOf26 (PlF.c sizeOf27 (PlF.c sizeOf28 (PlF.c sizeOf29 (PlF.n))))))))) rfl rfl) (rfl)) ?_;refine B 1 ?_;refine rv rfl rfl rfl (RV.re (v':=.agg (rpC (pol1 b15 b16) (some ⟨b52,0,none⟩) 1 1)) (ldWAw_r (i:=0) rfl isAgg79 sizeOf79 rfl rfl) (rfl)) ?_;refine call call15 rfl rfl rfl (λW hS=>by have hgW:=(hg.old hS zS zN zH);exact noh hZ (pol1 b15 b16) (ntc _ _) (ls3 Z) (by simp[ls3]) itf [(apC Z itf 0 1),(apC Z itf 8 9)] zS W.heap.size (some ⟨b42,0,none⟩) 3 (some ⟨b50,0,none⟩) 2 W (abo _) ⟨nrb (hS.old A8 hb15 hm15 zX),nrb (hS.old A7 hb16 hm16 zX)⟩ (nbl (hS.old A6 hb42 hm42 zNb)) (nok (hS.old A3 hb50 hm50 (by simp only[Off,adp,a9o,ne_eq,and_true];exact⟨by omega,ho50.1,ho50.2.1,ho50.2.2.1,ho50.2.2.2.1,ho50.2.2.2.2.1,ho50.2.2.2.2.2.1,ho50.2.2.2.2.2.2.1⟩))) hgW hgW.lt (e_ac hZ _ _ _ _) b52 (hS.old A2 hb52 hm52 zrc) (nMg (hS.old A2 hb52 hm52 zrc))) ?_
 refine zCh ?_;refine zle ?_;refine rv rfl rfl rfl (RV.re (v':=.agg (rpC (pol1 b15 b16) none 0 0)) (bldS_r underlying79 zeroValue79 (PlF.c sizeOf34 (PlF.c sizeOf77 (PlF.c sizeOf35 (PlF.n)))) rfl rfl) (rfl)) ?_;refine call call15 rfl rfl rfl (λW hS=>nEh (pol1 b15 b16) (ntc _ _) (njd _ _) W.heap.size W (abo _) ⟨nrb (hS.old A8 hb15 hm15 zX),nrb (hS.old A7 hb16 hm16 zX)⟩ none 0 0) ?_;refine zde ?_;refine B 5 ?_;refine retO (.inl rfl) results4 (RS.t rfl (RS.n)) A9 zL ?_;rfl
theorem PJ.resnap{Q:Post}(hi:H[i]? =some (b,o))(hb:Above L' b)(hs:∀w∈L',w∈L)(k:∀W,St G L H W->PJ C Q e E D G (W::L') (H.eraseIdx i)):PJ C Q e E D G L H:=
 λa W hN hD hF hS=>k W hS a W hN hD hF ((hS.lessL hs).dropAt hi hb).snap
theorem law46_PolicyAges(hZ:FxOk Z)(fa:Option Addr)(fos:List Fo)(fc:Nat)(hfl:fos.length<=9223372036854775807)(cs:List Cm)(hlm:∀c∈cs,CmLim c)(N:Nat)(la:Option Addr)(lc:Nat)(w:World)(hN:N<=w.heap.size)(hsl:SlAt cmA 73 N w la cs)(hC:∀c∈cs,CmAt N w c)(ia:Option Addr)(its:List It)(ic:Nat)(hil:its.length<=9223372036854775807)(hits:SlAt itA 74 N w ia its)(rx:Rx)(gs:List Gn)(hgn:rx.n3=gs.length)(hgs:SlAt gnA 39 N w rx.a3 gs)(hgo:∀g∈gs,SlAt odA 34 N w g.oa g.olds)(is:List Ih)(hin:rx.n4=is.length)(his:SlAt ihA 68 N w rx.a4 is)(hfs:SlAt foA 33 N w fa fos)(hcin:∀c∈cs,fw23 c=true->CmGood c)(hiin:∀x∈its,x.body.length<=1200->ItGood x)(hiby:∀x∈its,ByAt N w x.ba x.body)(p:Po)(hp:PoAt N w p)(da:Option Addr)(del:List Dk)(dc:Nat)(hds:SlAt dkA 32 N w da del)(hg:Glb w)(hgp:GlbP w):Calls prog 3 #[.agg (rcA fa fos.length fc la cs.length lc ia its.length ic rx),.agg (poC p),.slice da del.length dc] w (Ret w (.bool true)):=by
 have hg4:=hg.lt;refine enter (vs:=[_,_,_]) func3 rfl ntmps3 rfl ?_;refine B 3 ?_;intro b3 w3 hb3 ha3 ho3 hm3 hz3;replace ha3:=yb ha3;replace ho3:=yc ho3;refine B 1 ?_;intro b4 w4 hb4 ha4 ho4 hm4 hz4;replace ha4:=yb ha4;replace ho4:=yc ho4;refine B 6 ?_;refine call call4 rfl rfl rfl (λW hS=>nln hZ W (hg.old hS A2 zN trivial)) ?_;refine zmh ?_;refine B 8 ?_;refine rv rfl rfl rfl (RV.re (v':=.agg (poC p)) (ldRAw_r isAgg34 sizeOf34 rfl A0 hb4 hm4 trivial rfl) (rfl)) ?_;refine call call5 rfl rfl rfl (λW hS=>n8j p W) ?_;refine B 2 ?_;refine nf (t:=24) rfl (λhc1=>?_) (λhc1=>?_)
 ·replace hc1:=ya hc1;refine B 24 ?_;refine retV results3 rfl A2 ?_;rfl
 replace hc1:=ya hc1;refine rv rfl rfl rfl (RV.re (v':=.agg (rcA fa fos.length fc la cs.length lc ia its.length ic rx)) (ldRAw_r isAgg31 sizeOf31 rfl A1 hb3 hm3 trivial rfl) (rfl)) ?_;refine nq (α:=Bool) (v:=λb=>.bool b) (Φ:=λ_ b _=>b=true->((cs.length<=5/\cs.all fw23=true)/\its.length<=4)/\its.all (λx:It=>decide (x.body.length<=1200))=true) call6 rfl rfl rfl (λW hS=>r46_Few fa fos.length fc cs hlm N la lc W (aco hN (hS.links w A2).size) (hsl.up (abo _) (hS.same A2 hN zN trivial)) (λc hc=>(hC c hc).up (abo _) (hS.same A2 hN zN trivial)) ia its ic hil (hits.up (abo _) (hS.same A2 hN zN trivial)) rx gs hgn (hgs.up (abo _) (hS.same A2 hN zN trivial)) (λg hg=>(hgo g hg).up (abo _) (hS.same A2 hN zN trivial)) is hin (his.up (abo _) (hS.same A2 hN zN trivial))) ?_;intro Wf bf wf hSf hBf hfr;refine B 3 ?_;refine nf (t:=29) rfl (λhc2=>?_) (λhc2=>?_)
 ·replace hc2:=ya hc2;refine B 19 ?_;refine retV results3 rfl A3 ?_;rfl
 replace hc2:=ya hc2;refine B 5 ?_;refine nf (t:=34) rfl (λhc3=>?_) (λhc3=>?_)
 ·replace hc3:=ya hc3;refine B 14 ?_;refine retV results3 rfl A3 ?_;rfl
 replace hc3:=ya hc3;refine rv rfl rfl rfl (RV.re (v':=.agg (poC p)) (ldRAw_r isAgg34 sizeOf34 rfl A1 hb4 hm4 trivial rfl) (rfl)) ?_;refine call call7 rfl rfl rfl (λW hS=>nyb p (nzm zwb) N W (aco hN (hS.links w A3).size) (hp.up (abo _) (hS.same A3 hN zN trivial))) ?_;refine B 4 ?_;refine zCD ?_ ?_
 ·intro hc4;refine B 7 ?_;refine retV results3 rfl A3 ?_;rfl
 intro hc4;refine B 3 ?_;have hpf:=nzm (p:=p) zwb;have hF:=hfr zwb;have hdl10:del.length<=10:=by omega
 have hck:chkI p=0:=by omega
 have hcs:cs.length<=1000:=by omega
 have hcg:∀c∈cs,CmGood c:=λc hc=>hcin c hc (aPo.1 hF.1.1.2 c hc);have h12:∀x∈its,x.body.length<=1200:=λx hx=>by simpa using aPo.1 hF.2 x hx
 have hi4:=hF.1.2;refine B 8 ?_;refine rv rfl rfl rfl (RV.re (v':=.slice fa fos.length fc) (ldR_r isAgg22 rfl A2 hb3 hm3 trivial rfl) (rfl)) ?_;refine B 4 ?_;refine CJ.midX (α:=(Option Addr×Nat)×List Gv) (t:=7) (v:=λq=>.slice q.1.1 q.2.length q.1.2) (Φ:=λW q=>SlAt gpA 36 W.heap.size W q.1.1 q.2/\LwG Z cs fos p.fo q.2) (E0:=[(2,_),(3,_),(4,_)]) zR ?_ ?_
 ·refine B 1 ?_;refine CJ.loop (α:=Nat) (λj=>[(2,.slice da del.length dc),(3,ptr b3 0),(4,ptr b4 0),(7,.slice none 0 0),(40,.slice fa fos.length fc),(41,.int .i64 (fos.length:Int)),(42,.int .i64 (j:Int))]) (λj=>[]) (λj=>[wf,w4,w3,w]) (λj=>Gh.no) (λj=>j<=fos.length/\NoTo (λf:Fo=>decide (f.id=p.fo)) fos j) (λj=>fos.length-j) 0 ⟨a3o _,λi x hi=>absurd hi zG⟩ zR rfl rfl zS ?_;rintro j ⟨hj,hto⟩;refine B 6 ?_;refine zCD ?_ ?_
  ·intro hc5;refine B 5 ?_;obtain⟨bf,of,csf,tf,frf,rfl,hbf,hcsf,helf⟩:=hfs.get zG;obtain⟨fo,hfo⟩:=nj fos j zG;refine B 2 ?_;refine rv rfl rfl rfl (RV.re (v':=.agg (foA fo)) (ldRA_r isAgg45 sizeOf45 rfl A3 hcsf zO trivial (nk helf hfo rfl)) (congrArg Value.agg (nl helf hfo rfl))) ?_;refine allW zeroValue45 rfl rfl ?_;intro b9 ha9 ho9;replace ha9:=yb ha9;replace ho9:=yc ho9;refine stWw (i:=0) rfl sizeOf45 rfl rfl rfl rfl rfl rfl ?_;refine B 5 ?_;refine rv rfl rfl rfl (RV.re (v':=.int .i64 fo.id) (ldW_r (i:=0) rfl isAgg3 rfl rfl) (rfl)) ?_;refine B 1 ?_;refine rv rfl rfl rfl (RV.re (v':=.int .i64 p.fo) (ldR_r isAgg3 rfl A1 hb4 hm4 zF rfl) (rfl)) ?_;refine B 3 ?_;refine zCD ?_ ?_
   ·intro hc6;refine B 2 ?_;refine rv rfl rfl rfl (RV.re (v':=.agg (foA fo)) (ldWAw_r (i:=0) rfl isAgg45 sizeOf45 rfl rfl) (rfl)) ?_;refine B 1 ?_;refine rv rfl rfl rfl (RV.re (v':=.slice la cs.length lc) (ldR_r isAgg24 rfl A2 hb3 hm3 zF rfl) (rfl)) ?_;refine nq (α:=((Option Addr×Nat)×(Option Addr×Nat))×List Gv) (v:=λq=>.tuple #[.slice q.1.1.1 q.2.length q.1.1.2,.slice q.1.2.1 q.2.length q.1.2.2]) (Φ:=λW q w1=>ChX Z cs fo (q.2.map (λx:Gv=>x.g))/\SlAt gpA 36 w1.heap.size w1 q.1.2.1 q.2/\∀p,q.1.2.1=some p->W.heap.size<=p.block) call8 rfl rfl rfl (λW hS=>nuh hZ cs hcs hcg N la lc W (aco hN (hS.links w A3).size) (hsl.up (abo _) (hS.same A3 hN zN z4b)) (λc hc=>(hC c hc).up (abo _) (hS.same A3 hN zN z4b)) fo (hg.old hS A3 zN z4b)) ?_;rintro W7 ⟨⟨⟨a1,c1⟩,⟨a2,c2⟩⟩,gv⟩ w7 hS7 hB7 ⟨hch,hs2,hn2⟩;try dsimp only at hch hs2 hn2
    have l9:=hS7.lt (b9,_) A0;try dsimp only at l9
    refine B 7 ?_;refine nV rfl ?_;refine B 3 ?_;refine PJ.resnap (i:=0) (L':=[wf,w4,w3,w]) rfl zQ zS (λWr hSr=>?_);have hsr:SlAt gpA 36 Wr.heap.size Wr a2 gv:=hs2.toG hSr A0 (abo _) (λb off e=>.inr (λ_=>⟨λh=>h,by have:=hn2 _ e;dsimp only at this;simp only[Off,adp,and_true];omega⟩));refine PJ.midX (L0:=[wf,w4,w3,w]) zS ((a2,c2),gv) zR (λW hS=>?_);exact⟨hsr.toG hS A0 (abo _) (λb off e=>.inr (λ_=>⟨λh=>h,trivial⟩)),.inr ⟨fo,nYe hto hfo (decide_eq_true zZ),hch⟩⟩
   intro hc6;refine zpg ?_;refine PJ.again (j+1) ⟨by omega,hto.next hfo (by simpa using ‹¬fo.id=p.fo›)⟩ zG zR rfl rfl zS
  intro hc5;refine B 4 ?_;refine PJ.midX (L0:=[wf,w4,w3,w]) zS ((none,0),[]) zR (λW hS=>?_);exact⟨.inl rfl,.inl ⟨n4f hto zG,rfl⟩⟩
 rintro⟨⟨a2,c2⟩,gv⟩ wj ⟨hsg,hlw⟩ hsz hHl;try dsimp only at hsg hlw ⊢
 have hjf:=hsz wf A0;have hjw:=hsz w A3;refine B 3 ?_;refine mkMK dkv Value.bool rfl rfl ?_;intro b10 ha10 ho10;replace ha10:=yb ha10;try simp only[Off,and_true,ne_eq]at ho10
 refine B 12 ?_;refine CJ.loop (α:=Mq×Nat) (λq=>[(2,.slice da del.length dc),(3,ptr b3 0),(4,ptr b4 0),(7,.slice a2 gv.length c2),(10,.map (some b10)),(60,.slice da del.length dc),(61,.int .i64 (del.length:Int)),(62,.int .i64 (q.2:Int))]) (λq=>[(b10,q.1.obj dkv Value.bool (dmap (del.take q.2)))]) (λq=>[wj,wf,w4,w3,w]) (λq=>Gh.no) (λq=>q.2<=del.length/\q.1.Ok (dmap (del.take q.2))) (λq=>del.length-q.2) (Mq.mk [] 0,0) ⟨a3o _,Mq.nil⟩ zR rfl rfl zS ?_;rintro⟨m,j⟩ ⟨hj,hm⟩;dsimp only at hj hm ⊢;refine B 6 ?_;refine zCD ?_ ?_
 ·intro hc7;refine B 5 ?_;obtain⟨bd,od,csd,td,frd,rfl,hbd,hcsd,held⟩:=hds.get zG;obtain⟨d,hd⟩:=nj del j zG;obtain⟨f,rfl⟩:=nAm d;refine B 2 ?_;refine rv rfl rfl rfl (RV.re (v':=.agg (dg f)) (ldRA_r isAgg43 sizeOf43 rfl A4 hcsd zO zsc (nk held hd rfl)) (congrArg Value.agg (nl held hd rfl))) ?_;refine z8e ?_;intro b12 ha12 ho12;replace ha12:=yb ha12;replace ho12:=yc ho12;refine zHe ?_;refine B 4 ?_;refine rv rfl rfl rfl (RV.re (v':=.agg (dg f)) (ldWAw_r (i:=0) rfl isAgg43 sizeOf43 rfl rfl) (rfl)) ?_;refine nNh (i:=1) (k:=dk f) (v:=true) rfl hm underlying48 keyD rfl rfl rfl rfl ?_;intro m2 hm2;refine zpg ?_;refine PJ.again (m2,j+1) ⟨by dsimp only;omega,by dsimp only;rw[np hd,nBj];exact hm2⟩ z2 zR (by dsimp only;rw[np hd,nBj];rfl) rfl zS
 intro hc7;refine B 6 ?_;have hmd:m.Ok (dmap del):=by rw[afp zG]at hm;exact hm
 refine CJ.reH (H':=[(b10,m.obj dkv Value.bool (dmap del))]) (by rw[afp zG]) ?_;clear hm;rename_i _;have hm:=hmd;refine B 8 ?_;refine rv rfl rfl rfl (RV.re (v':=.slice ia its.length ic) (ldR_r isAgg29 rfl A3 hb3 hm3 zF rfl) (rfl)) ?_;refine B 5 ?_;refine CJ.loop (α:=Bool×Nat) (λq=>[(2,.slice da del.length dc),(3,ptr b3 0),(4,ptr b4 0),(7,.slice a2 gv.length c2),(10,.map (some b10)),(13,.bool q.1),(70,.slice ia its.length ic),(71,.int .i64 (its.length:Int)),(72,.int .i64 (q.2:Int))]) (λq=>[(b10,m.obj dkv Value.bool (dmap del))]) (λq=>[wj,wf,w4,w3,w]) (λq=>Gh.no) (λq=>q.2<=its.length/\q.1=(its.take q.2).all (lwO Z del p (gv.map λx:Gv=>x.g))) (λq=>its.length-q.2) (true,0) ⟨a3o _,rfl⟩ zR rfl rfl zS ?_;rintro⟨okb,j⟩ ⟨hj,hok⟩;dsimp only at hj hok ⊢;refine B 6 ?_;refine zCD ?_ ?_
 ·intro hc8;refine B 5 ?_;obtain⟨bi,oi,csi,ti,fri,rfl,hbi,hcsi,heli⟩:=hits.get zG;obtain⟨x,hx⟩:=nj its j zG;have hxm:=ajo hx;have hx12:x.body.length<=1200:=by simpa using aPo.1 hF.2 x hxm
  have hxg:=hiin x hxm hx12;have hxl:x.body.length<=1000000:=by omega
  refine B 2 ?_;refine rv rfl rfl rfl (RV.re (v':=.agg (itA x)) (ldRA_r isAgg56 sizeOf56 rfl A4 hcsi zO zsc (nk heli hx rfl)) (congrArg Value.agg (nl heli hx rfl))) ?_;refine allW zeroValue56 rfl rfl ?_;intro b15 ha15 ho15;replace ha15:=yb ha15;replace ho15:=yc ho15;refine z9g ?_;refine B 9 ?_;refine CJ.midX (α:=Bool) (t:=13) (v:=λb=>.bool b) (Φ:=λ_ b=>b=(okb&&lwO Z del p (gv.map λx:Gv=>x.g) x)) (E0:=[(2,_),(3,_),(4,_),(7,_),(10,_),(15,_),(70,_),(71,_),(72,_)]) zR ?_ ?_
  ·refine B 1 ?_;refine CJ.loop (α:=Nat) (λk=>[(2,.slice da del.length dc),(3,ptr b3 0),(4,ptr b4 0),(7,.slice a2 gv.length c2),(10,.map (some b10)),(13,.bool okb),(15,ptr b15 0),(70,.slice (some ⟨bi,oi,none⟩) its.length ic),(71,.int .i64 (its.length:Int)),(72,.int .i64 (j:Int)),(76,.slice a2 gv.length c2),(77,.int .i64 (gv.length:Int)),(78,.int .i64 (k:Int))]) (λk=>[(b15,.cells (itA x) 56 (0,0)),(b10,m.obj dkv Value.bool (dmap del))]) (λk=>[wj,wf,w4,w3,w]) (λk=>Gh.no) (λk=>k<=gv.length/\(x.folder=p.fo->NoTo (λg:Gv=>decide (dk g.g.last=dk x.commit)) gv k)) (λk=>gv.length-k) 0 ⟨a3o _,λ_ i y hi=>absurd hi zG⟩ zR rfl rfl zS ?_;rintro k ⟨hk,hto⟩;refine B 6 ?_;refine zCD ?_ ?_
   ·intro hc9;refine B 5 ?_;obtain⟨bg,og,csg,tg,frg,rfl,hbg,hcsg,helg⟩:=hsg.get zG;obtain⟨g,hgg⟩:=nj gv k zG;obtain⟨y,hy⟩:=nj gv (gv.length-1) zG;obtain⟨fo,hfd,hch⟩:=hlw.resolve_left (λh=>by rw[h.2]at hgg;simp at hgg);have hge:=hch.ep hgg;have hye:=hch.ep hy;have hEL:=eL_at hy;have hgvl:=hch.len;rw[aAo]at hgvl;refine B 3 ?_;refine rv rfl rfl rfl (RV.re (v':=.agg (gpA g)) (ldRA_r isAgg62 sizeOf62 rfl A0 hcsg zO zsc (nk helg hgg rfl)) (congrArg Value.agg (nl helg hgg rfl))) ?_;refine zYe ?_;intro b17 ha17 ho17;replace ha17:=yb ha17;replace ho17:=yc ho17;refine B 1 ?_;refine zje ?_;refine B 6 ?_;refine rv rfl rfl rfl (RV.re (v':=.int .i64 x.folder) (ldW_r (i:=1) rfl isAgg3 rfl rfl) (rfl)) ?_;refine B 1 ?_;refine rv rfl rfl rfl (RV.re (v':=.int .i64 p.fo) (ldR_r isAgg3 rfl A2 hb4 hm4 zF rfl) (rfl)) ?_;refine B 2 ?_;refine nf (t:=88) rfl (λhc10=>?_) (λhc10=>?_)
    ·replace hc10:=ya hc10;refine B 17 ?_;refine zWd ?_;exact z2j
    replace hc10:=ya hc10;refine B 1 ?_;refine rv rfl rfl rfl (RV.re (v':=.agg (dg g.g.last)) (ldWA_r (i:=0) rfl isAgg43 sizeOf43 rfl (apo rfl)) (rfl)) ?_;refine B 1 ?_;refine rv rfl rfl rfl (RV.re (v':=.agg (dg x.commit)) (ldWA_r (i:=1) rfl isAgg43 sizeOf43 rfl (apo rfl)) (rfl)) ?_;refine rv rfl rfl rfl (RV.re (v':=.bool (!decide (dk g.g.last=dk x.commit))) (neqA_r nUb zI nob rfl rfl rfl) (congrArg (λb=>Value.bool (!b)) (eqD_dk _ _))) ?_;refine B 3 ?_;refine zCD ?_ ?_
    ·intro hc11;refine zyh ?_;exact z2j
    intro hc11;refine B 3 ?_;refine CJ.less (E':=[(2,_),(3,_),(4,_),(7,_),(10,_),(13,_),(15,_),(16,_),(17,_),(70,_),(71,_),(72,_),(76,_),(77,_),(78,_),(79,_),(80,_),(81,_),(82,_),(83,_),(84,_),(85,_),(86,_),(87,_),(88,_),(89,_),(90,_),(91,_),(92,_),(93,_),(94,_)]) zR ?_;refine nw 12 [.det [] _,.det [] _,.det [1] _,.det [2] _,.det [0,3] _,.det [4] _,.det [5] _,.det [] _,.det [] _,.det [7,8] _,.det [9] _,.det [10] _] zM (xc zK (xc zK (xc (by exact λvals=>X.val rfl rfl (lenS_r underlying41 rfl) (λ_ _=>rfl)) (xc (by exact λvals=>X.val rfl rfl (RV.re (v':=.int .i64 ((gv.length-1:Nat):Int)) (subI_r rfl rfl zG zG) (congrArg (Value.int .i64) zG)) (λ_ _=>rfl)) (xc zsd (xc zbb (xc (by exact λvals=>X.val rfl rfl (RV.re (v':=.int .i64 y.g.epoch) (ldR_r isAgg3 rfl A0 hcsg zO zSd (nQ helg hy rfl 1 zI)) rfl) (λ_ _=>rfl)) (xc zK (xc zK (xc zsd (xc zbb (xc (by exact λvals=>X.val rfl rfl (RV.re (v':=.int .i64 g.g.epoch) (ldR_r isAgg3 rfl A0 hcsg zO zSd (nQ helg hgg rfl 1 zI)) rfl) (λ_ _=>rfl)) (xn))))))))))))) zM zM zM (λvals=>?_);refine rv rfl rfl rfl (RV.re (v':=.int .i64 (eL gv-g.g.epoch)) (subI_r rfl rfl zG zG) (congrArg (Value.int .i64) zG)) ?_;refine B 7 ?_;refine z8d ?_;refine B 1 ?_;refine nf (t:=112) rfl (λhc12=>?_) (λhc12=>?_)
    ·replace hc12:=ya hc12;refine B 6 ?_;refine nf (t:=118) rfl (λhc13=>?_) (λhc13=>?_)
     ·replace hc13:=ya hc13;refine B 20 ?_;exact zsi
     replace hc13:=ya hc13;refine B 1 ?_;refine z8d ?_;refine B 2 ?_;refine nf (t:=124) rfl (λhc14=>?_) (λhc14=>?_)
     ·replace hc14:=ya hc14;refine B 8 ?_;refine zCD ?_ ?_
      ·intro hc15;refine B 5 ?_;exact zsi
      intro hc15;refine B 3 ?_;exact zgi
     replace hc14:=ya hc14;refine B 12 ?_;exact zgi
    replace hc12:=ya hc12;refine B 7 ?_;refine z8d ?_;refine B 2 ?_;refine nf (t:=124) rfl (λhc16=>?_) (λhc16=>?_)
    ·replace hc16:=ya hc16;refine B 8 ?_;refine zCD ?_ ?_
     ·intro hc17;refine B 5 ?_;exact zsi
     intro hc17;refine B 3 ?_;exact zgi
    replace hc16:=ya hc16;refine B 12 ?_;exact zgi
   intro hc9;refine B 4 ?_;refine PJ.midX (L0:=[wj,wf,w4,w3,w]) zS okb zR (λW hS=>?_);show okb=(okb&&lwO Z del p (gv.map λx:Gv=>x.g) x);unfold lwO;by_cases hfo:x.folder=p.fo
   ·rw[if_pos hfo,lw_none (hto hfo) zG,Bool.and_true]
   rw[if_neg hfo,Bool.and_true]
  rintro ok2 wk hok2 hsz2 hHl2;dsimp only at hok2 ⊢;refine B 6 ?_;refine nR (L':=[wj,wf,w4,w3,w]) zS ?_;refine zWd ?_;refine PJ.again (ok2,j+1) ⟨by dsimp only;omega,by dsimp only;rw[np hx,List.all_append,<-hok,hok2];simp⟩ z2 zR rfl rfl zS
 intro hc8;refine B 6 ?_;have hoka:okb=its.all (lwO Z del p (gv.map λx:Gv=>x.g)):=by rw[hok,afp zG]
 refine B 1 ?_;refine zsf ?_;refine B 1 ?_;refine nq (α:=Int) (v:=λe:Int=>.int .i64 e) (Φ:=λ_ e _=>∃q,AgS Z cs fos p.fo q/\e=rtI Z del p q its) call10 rfl rfl rfl (λW hS=>by
  have up:=hS.same A4 hN zN zU;exact nzn hZ cs hcs hcg N la lc W (aco hN (hS.links w A4).size) (hsl.up (abo _) up) (λc hc=>(hC c hc).up (abo _) up) fa fos fc hfl (hfs.up (abo _) up) ia its ic zG (hits.up (abo _) up) (λx hx=>⟨hiin x hx (h12 x hx),by have:=h12 x hx;omega,(hiby x hx).up (abo _) up⟩) rx p hpf (hp.up (abo _) up) da del dc zG (hds.up (abo _) up) (hg.old hS A4 zN zU) (hgp.old hg hS A4 zN zU) hck) ?_
 rintro We e we hSe hBe ⟨q,hq,hqe⟩;refine B 2 ?_;refine rv rfl rfl rfl (RV.re (v':=.bool true) (eqlB_r underlying4 rfl rfl) (congrArg Value.bool (by rw[hqe,rt_lw hq hlw,<-hoka];cases okb<;>rfl))) ?_;refine B 4 ?_;refine retO (.inl rfl) results3 (RS.t rfl (RS.n)) A5 zL ?_;rfl
structure ChI (x:Ch):Prop where
 kind:I64 x.kind
 dev:I64 x.dev
 pub:I64 x.pub
 ver:I64 x.ver
 cut:I64 x.cut
structure BxI (x:Bx):Prop where
 node:I64 x.node
 level:I64 x.level
 u:I64 x.w.u
structure WeI (x:We):Prop where
 dev:I64 x.dev
 u:I64 x.w.u
structure CmIn (c:Cm):Prop where
 folder:I64 c.folder
 epoch:I64 c.epoch
 par:Byt c.par
 author:I64 c.author
 chs:∀x∈c.chs,ChI x
 path:∀x∈c.path,I64 x
 bxs:∀x∈c.bxs,BxI x
 wes:∀x∈c.wes,WeI x
 conf:Byt c.conf
 sr:I64 c.sr
 ss:I64 c.ss
 lim:CmLim c
theorem nwf(n:Nat)(hn:n<=100):∀ls:List (List V),(∀l∈ls,l.all nab=true/\l.length<=n/\V.fineL l)->V.fineL (ls.map V.list)/\V.depthL (ls.map V.list)<=1
 | [],_=>by simp[V.fineL,V.depthL]
 |l::ls,h=>by
  obtain⟨h1,h2⟩:=nwf n hn ls (λx hx=>h x (.tail _ hx));obtain⟨g1,g2,g3⟩:=h l A0;obtain⟨_,g4⟩:=nDe l g1 g3;simp only[afo,V.fineL,V.fine,V.depthL,V.depth,g4];exact⟨⟨⟨by omega,by omega,g3⟩,h1⟩,by omega⟩
theorem nOk:∀l:List Int,(∀x∈l,I64 x)->V.fineL (l.map V.int)/\V.depthL (l.map V.int)=0
 | [],_=>by simp[V.fineL,V.depthL]
 |y::l,h=>by
  obtain⟨h1,h2⟩:=nOk l (λx hx=>h x (.tail _ hx));simp only[afo,V.fineL,V.fine,V.depthL,V.depth,h2];exact⟨⟨h y A0,h1⟩,by omega⟩
theorem naf{l:List V}(h:V.fineL l)(hl:l.length<=1000000000)(hd:V.depthL l<=1000000000):V.fine (.list l):=by simp only[V.fine];exact⟨hl,hd,h⟩
theorem fw23_few{c:Cm}(h:fw23 c=true):(∀x∈c.bxs,x.w.body.length<=200)/\(∀x∈c.wes,x.w.body.length<=200)/\c.chs.length<=10/\c.path.length<=12/\c.bxs.length<=40/\c.wes.length<=10:=by
 simpa[fw23,and_assoc]using h
theorem cm_good{c:Cm}(h:CmIn c)(hf:fw23 c=true):CmGood c:=by
 obtain⟨f1,f2,f3,f4,f5,f6⟩:=fw23_few hf;refine⟨⟨h.par,h.conf,f3,f4,f5,f6,f1,f2⟩,?_⟩;have a1:=nwf 100 zI (c.chs.map chV) (λl hl=>by
  obtain⟨x,hx,rfl⟩:=ano.1 hl;have g:=h.chs x hx;refine⟨by simp[chV,nab],by simp[chV],?_⟩;simp only[chV,V.fineL,V.fine];exact⟨g.kind,g.dev,g.pub,g.ver,g.cut,trivial⟩)
 have a2:=nOk c.path h.path;have a3:=nwf 100 zI (c.bxs.map bxV) (λl hl=>by
  obtain⟨x,hx,rfl⟩:=ano.1 hl;have g:=h.bxs x hx;have g2:=f1 x hx;refine⟨by simp[bxV,nab],by simp[bxV],?_⟩;simp only[bxV,V.fineL,V.fine];exact⟨g.node,g.level,g.u,by rw[nYc];omega,trivial⟩)
 have a4:=nwf 100 zI (c.wes.map weV) (λl hl=>by
  obtain⟨x,hx,rfl⟩:=ano.1 hl;have g:=h.wes x hx;have g2:=f2 x hx;refine⟨by simp[weV,nab],by simp[weV],?_⟩;simp only[weV,V.fineL,V.fine];exact⟨g.dev,g.u,by rw[nYc];omega,trivial⟩)
 simp only[cmV,V.fineL];refine⟨by simp only[V.fine];exact h.folder,by simp only[V.fine];exact h.epoch,by simp only[V.fine];rw[nYc,nKb];omega,by simp only[V.fine];exact h.author,naf a1.1 (by simp only[aAo];omega) zG,naf a2.1 (by simp only[aAo];omega) zG,naf a3.1 (by simp only[aAo];omega) zG,naf a4.1 (by simp only[aAo];omega) zG,by simp only[V.fine];rw[nYc,nKb];omega,by simp only[V.fine];exact h.sr,by simp only[V.fine];exact h.ss,trivial⟩
structure ItIn (x:It):Prop where
 folder:I64 x.folder
 commit:Byt x.commit
 device:I64 x.device
 counter:I64 x.counter
 kind:I64 x.kind
 size:I64 x.size
 ca:I64 x.ca
 cb:I64 x.cb
 pad:Byt x.pad
 sr:I64 x.sr
 ss:I64 x.ss
theorem it_good{x:It}(h:ItIn x)(hb:x.body.length<=1200):ItGood x:=by
 refine⟨?_,h.commit,h.pad⟩;simp only[itV,itF,fdF,sgF,aEo,abp,afo,a0o,Fv.v,V.fineL,V.fine];exact⟨h.folder,h.device,h.counter,h.kind,h.size,by rw[nYc,nKb];omega,h.ca,h.cb,by rw[nYc,nKb];omega,by rw[nYc];omega,h.sr,h.ss,trivial⟩
end Px
