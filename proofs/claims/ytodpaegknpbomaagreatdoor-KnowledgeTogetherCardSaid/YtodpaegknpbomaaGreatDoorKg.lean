/- Contracts of functions of the program. No condition beyond those stated. -/
import Derived.Test.YtodpaegknpbomaaGreatDoorKf
import Derived.Test.YtodpaegknpbomaaGreatDoorProg
set_option linter.unusedSimpArgs false
set_option linter.unusedVariables false
set_option linter.unusedSectionVars false
set_option linter.unnecessarySimpa false
set_option maxRecDepth 20000
set_option maxHeartbeats 8000000
namespace Px
open Go Go.RowKit Go.Proofs Go.Proofs.Tryz
theorem Vx(n:Int)(w:World):Calls prog 130 #[ab n] w (aL w (vI n)):=by
 refine eN func130 ntmps130 ?_;refine B 3 ?_;refine yW ?_;intro b2 dB dx;refine B 10 ?_;refine cC (.inl rfl) results130 aX A0 zB ?_;rfl
theorem IQ(l:List UInt8)(N:Nat)(a:Option Addr)(c:Nat)(w:World)(hN:N<=w.heap.size)(hb:gy N w a l):Calls prog 129 #[.slice a l.length c] w (aL w (vT (qg l))):=by
 refine eN func129 ntmps129 ?_;refine B 3 ?_;refine yW ?_;intro b2 dB dx;refine B 5 ?_;refine zbe ?_;refine B 5 ?_;refine cC (.inl rfl) results129 aX A0 zB ?_;rfl
theorem nmj(base:Option Addr)(n c:Nat)(w:World):Calls prog 128 #[.slice base n c] w (aL w (vL base n c)):=by
 refine eN func128 ntmps128 ?_;refine B 3 ?_;refine yW ?_;intro b2 dB dx;refine B 10 ?_;refine cC (.inl rfl) results128 aX A0 zB ?_;rfl
def wK (o:Ol):List V:=[.text (qg (cx o.f)),.int o.w.u,.text (qg o.w.body)]
def wL (x:Gr):List V:=[.int x.folder,.int x.by_,.int x.device,.int x.pub,.text (qg (cx x.f)),.list ((x.olds.map wK).map V.list)]
def IS (x:Ir):List V:=[.text (qg (cx x.f)),.text (qg (cx x.g)),.int x.by_,.text (qg x.body)]
def B2 (Z:Fx) (x:Gr):Nat->Int:=Z.tg (⟨#[103,114,97,110,116,32,115,105,103,110]⟩:ByteArray) (V.list (wL x)).enc
def B3 (Z:Fx) (x:Ir):Nat->Int:=Z.tg (⟨#[105,110,104,101,114,105,116,32,115,105,103,110]⟩:ByteArray) (V.list (IS x)).enc
theorem npk:∀{l:List V},(∀v∈l,v.fine)->V.fineL l
 | [],_=>by simp[V.fineL]
 |v::l,h=>by simp only[V.fineL];exact⟨h v A0,npk λu hu=>h u (.tail _ hu)⟩
theorem LA(x:Gr)(hx:pr x)(hb:∀o∈x.olds,o.w.body.length<=65552):(V.list (wL x)).fine/\(V.list (wL x)).depth<=16/\(V.list (wL x)).enc.length<=800000000000:=by
 have hf:=hx.few;have hl:V.fineL ((x.olds.map wK).map V.list):=npk λv hv=>by
  obtain⟨l,hl,rfl⟩:=bW.1 hv;obtain⟨o,ho,rfl⟩:=bW.1 hl;have h1:=hb o ho;simp only[V.fine,wK,V.fineL,V.depthL,V.depth];exact⟨by simp,by simp,by rw[EE,nH];decide,hx.io o ho,by rw[EE];omega,trivial⟩
 have e5:=Yw 3 zA (x.olds.map wK) (λl hl=>by obtain⟨o,_,rfl⟩:=bW.1 hl;exact⟨rfl,ak 3⟩) hl;have n5:=Cp (u:=((x.olds.map wK).map V.list).length) oN;have m5:(x.olds.map wK).length*(3*1000000020+11)<=6*(3*1000000020+11):=wg _ (by rw[eQ];exact hf);have l5:(V.list ((x.olds.map wK).map V.list)).enc.length<=11+(V.encL ((x.olds.map wK).map V.list)).length:=by simp only[V.enc,dF,cy];omega
 have kp:V.fineL (wL x):=by
  simp only[wL,V.fineL,V.fine];exact⟨hx.i.1,hx.i.2.1,hx.i.2.2.1,hx.i.2.2.2,by rw[EE,nH];decide,⟨by simp;omega,by have:=e5.2;omega,hl⟩,trivial⟩
 simp only[wL,V.fineL]at kp;obtain⟨g1,g2,g3,g4,g5,g6,_⟩:=kp;have i1:=Bw _ rfl g1;have i2:=Bw _ rfl g2;have i3:=Bw _ rfl g3;have i4:=Bw _ rfl g4;have i5:=Bw _ rfl g5;have n6:=Cp (u:=(wL x).length) (by simp[wL]);have d5:=e5.2;have dl:V.depthL (wL x)<=2:=by simp only[wL,V.depthL,V.depth];omega
 have el:(V.encL (wL x)).length<=700000000000:=by
  unfold wL;simp only[V.encL,cy,fh];omega
 refine⟨?_,?_,?_⟩
 ·simp only[V.fine];exact⟨by simp[wL],by omega,by simp only[wL,V.fineL];exact⟨g1,g2,g3,g4,g5,g6,trivial⟩⟩
 ·simp only[V.depth];omega
 simp only[V.enc,dF,cy];omega
theorem LB(x:Ir)(hx:jM x)(hb:x.body.length<=65552):(V.list (IS x)).fine/\(V.list (IS x)).depth<=16/\(V.list (IS x)).enc.length<=800000000000:=by
 have kp:V.fineL (IS x):=by
  simp only[IS,V.fineL,V.fine];exact⟨by rw[EE,nH];decide,by rw[EE,nH];decide,hx.i,by rw[EE];omega,trivial⟩
 have h5:=n9e (IS x) rfl kp;all_goals grind [Cp,IS,V.fine,V.depth,V.enc]
variable {Z:Fx} {D0:List (List Se×Se)} {pls:List Pl} {L0:List Se} {L:List World}
theorem nak(hZ:FxOk Z)(s:ByteArray)(hs0:s.size<1000)(l:List V)(dO:(V.list l).fine)(hd:(V.list l).depth<=16)(iX:(V.list l).enc.length<=800000000000)(N bl lc:Nat)(w:World)(hN:N<=w.heap.size)(xk:eX N w (.list l) (vL (ao bl) l.length lc))(hg:Glb w):Calls prog 131 #[.string s,.slice (ao bl) l.length lc] w (cK w (λb:Nat=>.slice (ao b) 32 32) (λb w1=>w.heap.size<=b/\w1.heap[b]? =some (oC (dg (Z.tg s (V.list l).enc)) 33))):=by
 have hg4:=hg.lt;obtain⟨df,kO⟩:∃df,Z.tg s (V.list l).enc=df:=⟨_,rfl⟩;refine eN func131 ntmps131 ?_;refine B 8 ?_;refine call call128 rfl rfl rfl (λW hS=>nmj _ _ _ W) ?_;refine z5d ?_;intro gB Ik JD lY p6 ag3 yx;replace lY:=yb lY;replace p6:=yd p6;refine B 11 ?_;refine zWd ?_;refine B 1 ?_;refine yW ?_;intro b7 jN vN;refine B 5 ?_;refine zke ?_;refine B 4 ?_;exact bK (.inl rfl) results131 aX (λW hS=>⟨b7,rfl,hS.base A0 zB,by omega,by rw[kO];exact hS.own _ A0⟩)
theorem njo(hZ:FxOk Z)(x:Gr)(hx:pr x)(jl:∀o∈x.olds,o.w.body.length<=65552)(N:Nat)(w:World)(hN:N<=w.heap.size)(hG:rK N w x)(hg:Glb w):Calls prog 76 #[.agg (vB x)] w (cK w (λb:Nat=>.slice (ao b) 32 32) (λb w1=>w.heap.size<=b/\w1.heap[b]? =some (oC (dg (B2 Z x)) 33))):=by
 have Ar:=hx.few;have hg4:=hg.lt;have Gl:=hG.ol;obtain⟨df,kO⟩:∃df,B2 Z x=df:=⟨_,rfl⟩;have uL:=LA x hx jl;refine nB (dL []) [] (vs:=[_]) func76 rfl ntmps76 rfl (NU w) ?_;refine B 2 ?_;refine yX ?_;intro b1 w1 hb1 cF gK gj jy;refine B 5 ?_;refine call call128 rfl rfl rfl (λW hS=>nmj _ _ _ W) ?_;refine B 1 ?_;refine yW ?_;intro b3 ez eP;refine B 7 ?_;refine ay (.slice x.oa x.olds.length x.oc) ?_;refine B 5 ?_;refine CJ.loop (α:=((Rw×List El)×ad)×Nat) (λp=>[(1,ptr b1 0),(3,ptr b3 0),(8,.slice x.oa x.olds.length x.oc),(9,ab (x.olds.length:Int)),(10,ab (p.2:Int))]) (λp=>[(b3,oC (dG (p.1.1.1.val p.1.1.2.length)) 200)]++(p.1.1.1.hp (jz 3) 200 p.1.1.2++[])) (λp=>[w1,w]) (λp=>dL p.1.2) (λp=>p.2<=x.olds.length/\p.1.1.1.Fr (dL p.1.2) [w1,w]/\p.1.1.1.Fit 4 p.1.1.2/\iK p.1.2 3 p.1.1.2 ((x.olds.take p.2).map wK)) (λp=>x.olds.length-p.2) (((.nil,[]),[]),0) ⟨cR _,True.intro,rfl,iK.nil⟩ zR rfl rfl zI ?_;rintro⟨⟨⟨r1,iR⟩,F1⟩,j1⟩ ⟨hj,aK,ah,pd⟩;dsimp only at hj aK ah pd ⊢;have bG:r1.ge w1.heap.size:=Rw.ge_fz aK A0;have hel:iR.length<=50:=by rw[pd.1,eQ,lb];omega
 refine B 6 ?_;refine aG ?_ ?_
 ·intro ar;refine B 5 ?_;obtain⟨bo,oo,cs0,to,fV,im,fP,cJ,aV⟩:=Gl.get aa;obtain⟨y,hy⟩:=ng x.olds j1 aa;rw[im];have hq:=λ(k:Nat)=>Rw.mem_ge (enc:=jz 3) (t:=200) (xs:=iR) (k:=k) bG;have qC:gy N w y.w.ba y.w.body:=hG.bb y (cO hy);have fP:er y.f:=hx.bo y (cO hy);refine B 2 ?_;refine ay (.agg (u7 y)) ?_;refine B 1 ?_;refine yW ?_;intro b5 sq su;refine B 3 ?_;refine CJ.less (E':=[(1,_),(3,_),(5,_),(8,_),(9,_),(10,_),(11,_),(12,_),(13,_)]) zR ?_;refine CJ.chn 16 [13,14,15] [_,_,_,_,some (vT (qg (cx y.f))),_,_,_,_,_,_,_,some (vT (qg y.w.body)),none,none,none] (λcv L' H'=>let dY:ad:=[(b5,oC (u7 y) 119),(b3,oC (dG (r1.val iR.length)) 200)]++(r1.hp (jz 3) 200 iR++[]);match cv with| []=>L'=[w1,w]/\H'=dY| [v1]=>∃(bn:Nat),v1= .slice (ao bn) 3 3/\L'=[w1,w]/\H'=(bn,oC (nL (wK y)++[]).toArray 200)::dY/\ae [w1,w] bn| [v1,v2]=>∃(bn:Nat),v1= .slice (ao bn) 3 3/\v2=vL (ao bn) 3 3/\L'=[w1,w]/\H'=(bn,oC (nL (wK y)++[]).toArray 200)::dY/\ae [w1,w] bn| [v1,v2,v3]=>∃(bn:Nat) (mN:Nat),v1= .slice (ao bn) 3 3/\v2=vL (ao bn) 3 3/\v3= .slice (ao mN) 1 1/\L'=[w1,w]/\H'=(mN,oC (dG (.slice (ao bn) 3 3)) 200)::(bn,oC (nL (wK y)++[]).toArray 200)::dY/\ae [w1,w] bn/\ae [w1,w] mN|_=>False) (pc WV (pc xx (pc (by exact λcv L' H' hd hP=>X.v (bP underlying119 rfl sizeOf33 rfl)) (pc zXb (pc xx (pc (by exact λcv L' H' hd hP=>X.v (bP underlying119 rfl sizeOf108 rfl)) (pc z7b (pc xx (pc (by exact λcv L' H' hd hP=>nf call130 rfl rfl (λW hS _=>Vx _ W) (λ_=>rfl)) (pc (by exact λcv L' H' hd hP=>X.v (bP underlying119 rfl sizeOf108 rfl)) (pc z4b (pc xx (pc xx (pk (pk (pk (pn))))))))))))))))) ?_ ?_
  ·refine ss rfl ?_ ?_
   ·exact zog
   refine ss rfl ?_ ?_
   ·intro cv L' H' hl hP F Q' hk;obtain⟨v1,rfl⟩:=iZ hl;obtain⟨bn,rfl,rfl,rfl,hfn⟩:=hP;refine call call128 rfl rfl rfl (λW hS=>nmj (ao bn) 3 3 W) ?_;exact zHh
   exact zdg
  intro cv L' H' hl hP;obtain⟨v1,v2,v3,rfl⟩:=mB hl;obtain⟨bn,mN,rfl,rfl,rfl,rfl,rfl,hfn,uJ⟩:=hP;refine kg (r:=r1) (xs:=iR) (zs:=[((bn,3):El)]) (enc:=jz 3) (m:=4) (H0:=[(mN,oC (dG (.slice (ao bn) 3 3)) 200),(bn,oC (nL (wK y)++[]).toArray 200),(b5,oC (u7 y) 119),(b3,oC (dG (r1.val iR.length)) 200)]) (H1:=[]) rfl Yp (NN 3) rfl rfl rfl rfl (cd.one (z:=((bn,3):El)) (NN 3) (n1g 3) underlying134 (bB.own (i:=0) rfl)) ah aK zI Au ?_;intro br cr sr jA rh;refine B 1 ?_;refine kY (i:=3) rfl sizeOf134 rfl rfl rfl rfl (ea rfl) rfl ?_;refine B 7 ?_;refine PJ.reH (H':=[(mN,oC (dG (.slice (ao bn) 3 3)) 200),(bn,oC (nL (wK y)++[]).toArray 200),(b5,oC (u7 y) 119),(b3,oC (dG ((Rw.row br cr sr).val (iR++[((bn,3):El)]).length)) 200)]++((br,aP (jz 3) 200 (iR++[((bn,3):El)]) sr)::[])) rfl ?_;refine U0 ?_;refine PJ.fz [(bn,oC (nL (wK y)++[]).toArray 200)] (H':=[(b5,oC (u7 y) 119),(b3,oC (dG ((Rw.row br cr sr).val (iR++[((bn,3):El)]).length)) 200)]++((br,aP (jz 3) 200 (iR++[((bn,3):El)]) sr)::[])) (List.Perm.refl _) zac ?_;refine p5 ?_;refine ag (((Rw.row br cr sr,(iR++[((bn,3):El)])),(bn,oC (nL (wK y)++[]).toArray 200)::F1),j1+1) ⟨by dsimp only;omega,jA.elim (λh=>Rw.Fr_at aK h) (λh=>.inr h),rh,by dsimp only;rw[n2f wK hy];exact pd.snoc (λp hp=>.tail _ hp) rfl rfl (ak _) A0⟩
 intro ar;refine B 6 ?_;have EK:x.olds.take j1=x.olds:=jZ aa;rw[EK]at pd;have iq:=ah;refine CJ.fz (r1.hp (jz 3) 200 iR) (H':=[(b3,oC (dG (r1.val iR.length)) 200)]) Yr (Rw.fz_above aK) ?_;refine eA 16 (pb:=by exact zU 2 (k:=by exact aU (nf call130 rfl rfl (λW hS _=>Vx _ W) (λ_=>rfl)) (zU 2 (k:=by exact aU (nf call130 rfl rfl (λW hS _=>Vx _ W) (λ_=>rfl)) (zU 2 (k:=by exact aU (nf call130 rfl rfl (λW hS _=>Vx _ W) (λ_=>rfl)) (zU 2 (k:=by exact aU (nf call130 rfl rfl (λW hS _=>Vx _ W) (λ_=>rfl)) (zU 1 (k:=by exact aU (X.v (fF underlying33 sizeOf5 rfl rfl aa)) (aU (nf call129 rfl rfl (λW hS _=>by have h1:=hS.old A0 hb1 cF zz;have h2:=IQ (cx x.f) W.heap.size (some ⟨b1,4,none⟩) 32 W (ak _) (.inr ⟨b1,4,rfl,(aT.1 h1).1,bZ.dgo h1 rfl (ea rfl) hx.bf⟩);rw[nR]at h2;exact h2) (λ_=>rfl)) zT))))))))))) (sp:=[_,some (ab x.folder),_,_,some (ab x.by_),_,_,some (ab x.device),_,_,some (ab x.pub),_,_,_,some (vT (qg (cx x.f))),some (.agg (dG (r1.val iR.length)))]) (k:=?_);refine zhe ?_;refine yV ?_;intro b49 w49 aiO aiP anD anE anF;refine nv (α:=Nat) (v:=λb:Nat=>.slice (ao b) 32 32) (Φ:=λ(W:World) (b:Nat) (w1:World)=>W.heap.size<=b/\w1.heap[b]? =some (oC (dg df) 33)) call131 rfl rfl rfl (λW hS=>?_) ?_
 ·have hF:∀p∈(r1.hp (jz 3) 200 iR++F1),p.1<W.heap.size/\W.heap[p.1]? =some p.2:=λp hp=>⟨(aT.1 (hS.fzAt p hp)).1,hS.fzAt p hp⟩;have v1:=iK.vat (t:=200) (pd.up (λp hp=>bj.2 (.inr hp))) hF (λp hp=>bj.2 (.inl hp)) iq;have rL:=hS.old A0 aiO aiP zz;rw[<-kO];exact nak hZ (⟨#[103,114,97,110,116,32,115,105,103,110]⟩:ByteArray) zA (wL x) uL.1 uL.2.1 uL.2.2 W.heap.size b49 6 W (ak _) (nJl (wL x) (ak 6) rL (aT.1 rL).1 (sN (ea rfl) (IC _ _ _) (sN (ea rfl) (IC _ _ _) (sN (ea rfl) (IC _ _ _) (sN (ea rfl) (IC _ _ _) (sN (ea rfl) (UX _ _ _) (sN (ea rfl) v1 (nsl)))))))) (hg.old hS A2 zH zD)
 rintro Wm bm wm vV Ke ⟨hqm,oB⟩;refine B 4 ?_;refine bK (.inl rfl) results76 aX λW hS=>⟨bm,rfl,(hS.links w A3).below (λk hk hx=>by rcases hx with hx|hx;(exact hx);simp at hx;try omega),dR (vV.links w A2).size hqm,by rw[kO];exact hS.old A0 oB zJ (by have h3:=vV.lt (b3,_) A0;dsimp only at h3;simp only[bA,and_true];omega)⟩
theorem nup(hZ:FxOk Z)(x:Ir)(hx:jM x)(jl:x.body.length<=65552)(N:Nat)(w:World)(hN:N<=w.heap.size)(qC:gy N w x.ba x.body)(hg:Glb w):Calls prog 77 #[.agg (CQ x)] w (cK w (λb:Nat=>.slice (ao b) 32 32) (λb w1=>w.heap.size<=b/\w1.heap[b]? =some (oC (dg (B3 Z x)) 33))):=by
 have hg4:=hg.lt;obtain⟨df,kO⟩:∃df,B3 Z x=df:=⟨_,rfl⟩;have uL:=LB x hx jl;refine eN func77 ntmps77 ?_;refine B 2 ?_;refine yX ?_;intro b1 w1 hb1 cF gK gj jy;refine B 4 ?_;refine eA 11 (pb:=by exact zU 1 (k:=by exact aU (X.v (fF underlying33 sizeOf5 rfl rfl aa)) (aU (nf call129 rfl rfl (λW hS _=>by have h1:=hS.old A0 hb1 cF trivial;have h2:=IQ (cx x.f) W.heap.size (ao b1) 32 W (ak _) (.inr ⟨b1,0,rfl,(aT.1 h1).1,bZ.dgo h1 rfl (ea rfl) hx.bf⟩);rw[nR]at h2;exact h2) (λ_=>rfl)) (zU 1 (k:=by exact aU (X.v (fF underlying33 sizeOf5 rfl rfl aa)) (aU (nf call129 rfl rfl (λW hS _=>by have h1:=hS.old A0 hb1 cF trivial;have h2:=IQ (cx x.g) W.heap.size (some ⟨b1,32,none⟩) 32 W (ak _) (.inr ⟨b1,32,rfl,(aT.1 h1).1,bZ.dgo h1 rfl (ea rfl) hx.bg⟩);rw[nR]at h2;exact h2) (λ_=>rfl)) (zU 2 (k:=by exact aU (nf call130 rfl rfl (λW hS _=>Vx _ W) (λ_=>rfl)) zT)))))))) (sp:=[_,_,some (vT (qg (cx x.f))),_,_,some (vT (qg (cx x.g))),_,some (ab x.by_),_,_,some (.slice x.ba x.body.length x.bc)]) (k:=?_);refine call call129 rfl rfl rfl (λW hS=>IQ x.body N x.ba x.bc W cM (gy.up qC (ak _) hS.sm)) (v:=vT (qg x.body)) ?_;refine zhe ?_;refine yV ?_;intro dJ w15 Sg Sh aiS EF KD;refine nv (α:=Nat) (v:=λb:Nat=>.slice (ao b) 32 32) (Φ:=λ(W:World) (b:Nat) (w1:World)=>W.heap.size<=b/\w1.heap[b]? =some (oC (dg df) 33)) call131 rfl rfl rfl (λW hS=>?_) ?_
 ·skip
  have rL:=hS.old A0 Sg Sh trivial;rw[<-kO];exact nak hZ (⟨#[105,110,104,101,114,105,116,32,115,105,103,110]⟩:ByteArray) zA (IS x) uL.1 uL.2.1 uL.2.2 W.heap.size dJ 4 W (ak _) (nJl (IS x) (ak 4) rL (aT.1 rL).1 (sN (ea rfl) (UX _ _ _) (sN (ea rfl) (UX _ _ _) (sN (ea rfl) (IC _ _ _) (sN (ea rfl) (UX _ _ _) (nsl)))))) (hg.old hS A2 zH zD)
 rintro Wm bm wm vV Ke ⟨hqm,oB⟩;refine B 4 ?_;refine bK (.inl rfl) results77 aX λW hS=>⟨bm,rfl,(hS.links w A3).below (λk hk hx=>by rcases hx with hx|hx;(exact hx);simp at hx;try omega),dR (vV.links w A2).size hqm,by rw[kO];exact hS.old A0 oB zJ trivial⟩
def IT (x:Gr):List Dk:=x.olds.map λo=>dk o.f
theorem n8h(x:Gr){j:Nat}{o:Ol}(h:x.olds[j]? =some o):(x.olds.take (j+1)).map (λo=>dk o.f)=(x.olds.take j).map (λo=>dk o.f)++[dk o.f]:=by rw[nq h];simp
def Vy (l:List Dk):List (Dk×Bool):=l.foldl (λs k=>fK s k true) []
theorem nrl(l:List Dk)(x:Dk):Vy (l++[x])=fK (Vy l) x true:=by unfold Vy;rw[Iu];rfl
def Gm (l:List Dk):Bool:=decide (0<l.length)&&decide (l.length<=4096)&&decide ((Vy l).length=l.length)
theorem nxe(x:Gr)(anG:x.olds.length<=6)(N:Nat)(w:World)(hN:N<=w.heap.size)(hG:rK N w x):Calls prog 73 #[.agg (vB x)] w (aD w cD 32 33 (IT x) id):=by
 refine eN func73 ntmps73 ?_;refine B 2 ?_;refine yX ?_;intro b1 w1 hb1 cF gK gj jy;refine B 7 ?_;refine ay (.slice x.oa x.olds.length x.oc) ?_;refine B 5 ?_;refine CJ.loop (α:=Rw×Nat) (λp=>[(1,ptr b1 0),(2,p.1.val ((x.olds.take p.2).map (λo=>dk o.f)).length),(6,.slice x.oa x.olds.length x.oc),(7,ab (x.olds.length:Int)),(8,ab (p.2:Int))]) (λp=>p.1.hp cD 33 ((x.olds.take p.2).map (λo=>dk o.f))++[]) (λp=>[w1,w]) (λp=>Gh.no) (λp=>p.2<=x.olds.length/\p.1.Fr Gh.no [w1,w]/\p.1.Fit 32 ((x.olds.take p.2).map (λo=>dk o.f))) (λp=>x.olds.length-p.2) (.nil,0) ⟨cR _,True.intro,rfl⟩ zR rfl rfl zI ?_;rintro⟨r,j⟩ ⟨hj,aK,ah⟩;dsimp only at hj aK ah ⊢;have bG:r.ge w1.heap.size:=Rw.ge_of aK A0;refine B 6 ?_;refine aG ?_ ?_
 ·intro ar;refine B 5 ?_;have Gl:=hG.ol;obtain⟨bo,oo,cs0,to,fV,im,fP,cJ,aV⟩:=Gl.get aa;obtain⟨o,ho⟩:=ng x.olds j aa;rw[im];refine B 2 ?_;refine ay (.agg (u7 o)) ?_;refine B 1 ?_;refine yW ?_;intro b4 ji jj;refine B 6 ?_;refine ay (.agg (dg o.f)) ?_;refine zRd ?_;refine yW ?_;intro dJ EF KD;refine kg (r:=r) (xs:=((x.olds.take j).map (λo=>dk o.f))) (zs:=[(dk o.f)]) (enc:=cD) (m:=32) (H0:=[(dJ,oC (dg o.f) 33),(b4,oC (u7 o) 119)]) (H1:=[]) zW nIi nX rfl rfl rfl rfl (cd.one (z:=dk o.f) nX Va underlying72 (bB.own (i:=0) rfl)) ah aK zI (by simp only[eQ,lb,dF,fh];omega) ?_;intro UW QQ QR yT yU;replace yT:=yb yT;refine Cy ?_;refine PJ.again (Rw.row UW QQ QR,j+1) ⟨by dsimp only;omega,yT.elim (λh=>Rw.Fr_at aK h) (λh=>.inr h),by rw[n8h x ho];exact yU⟩ zS ⟨rfl,by rw[n8h x ho];rfl,rfl,rfl,rfl,trivial⟩ (by rw[n8h x ho];rfl) rfl zI
 intro ar;refine B 6 ?_;have ck:(x.olds.take j).map (λo=>dk o.f)=IT x:=by rw[jZ aa];rfl
 rw[ck]at ah ⊢;refine B 6 ?_;exact nP (H0:=[]) (H1:=[]) (r:=r) (.inl rfl) results73 aX A1 (by rw[eb];exact Rw.over (Rw.ge_mono bG aa)) rfl ah (Rw.ge_mono bG aa) zI
theorem nef(l:List Dk)(hl:l.length<=1000000)(N:Nat)(a:Option Addr)(c:Nat)(w:World)(hN:N<=w.heap.size)(aJ:ai uR 32 N w a l):Calls prog 72 #[.slice a l.length c] w (aL w (.bool (Gm l))):=by
 refine eN func72 ntmps72 ?_;refine B 7 ?_;refine KV uQ Value.bool rfl rfl ?_;intro b6 jO qy;replace jO:=yb jO;try simp only[bA,and_true,ne_eq]at qy
 refine B 12 ?_;refine CJ.lp (α:=Mq×Nat) [0,3,7,8] (λp=>[(9,ab (p.2:Int))]) (λp=>[(b6,p.1.obj uQ Value.bool (Vy (l.take p.2)))]) (λp=>p.2<=l.length/\p.1.Ok (Vy (l.take p.2))) (λp=>l.length-p.2) (Mq.mk [] 0,0) ⟨cR _,Mq.nil⟩ ?_;rintro⟨m,j⟩ ⟨hj,hm⟩;dsimp only at hj hm ⊢;refine B 6 ?_;refine aG ?_ ?_
 ·intro ar;refine B 5 ?_;obtain⟨bl,ol,csl,tl,frl,rfl,jl,wz,ql⟩:=aJ.get aa;obtain⟨x,hx⟩:=ng l j aa;obtain⟨f,rfl⟩:∃f,dk f=x:=⟨_,K8 x⟩;refine B 2 ?_;refine ay (.agg (dg f)) ?_;refine B 1 ?_;refine yW ?_;intro b5 sq su;refine B 6 ?_;refine Y0 (i:=1) (k:=dk f) (v:=true) rfl hm underlying223 Fc rfl rfl rfl rfl ?_;intro m2 bV;refine xr ?_;refine PJ.again (m2,j+1) ⟨by dsimp only;omega,by dsimp only;rw[nq hx,nrl];exact bV⟩ zS zR (by dsimp only;rw[nq hx,nrl];rfl) rfl zI
 intro ar;refine B 6 ?_;have ck:l.take j=l:=jZ aa;rw[ck]at hm ⊢;refine B 5 ?_;refine ni (t:=19) rfl (λaN=>?_) (λaN=>?_)
 ·replace aN:=ya aN;refine B 5 ?_;refine ni (t:=24) rfl (λdp=>?_) (λdp=>?_)
  ·replace dp:=ya dp;refine B 1 ?_;refine rv rfl rfl rfl (AO underlying223 hm (bB.own (i:=0) rfl) rfl) ?_;refine B 8 ?_;exact zHg
  replace dp:=ya dp;refine B 10 ?_;exact zHg
 replace aN:=ya aN;refine B 15 ?_;exact zHg
theorem nNl(o:Ol)(w:World):Calls prog 70 #[.agg (u7 o)] w (aL w (.bool (!decide (yR o.w=0)))):=by
 refine eN func70 ntmps70 ?_;refine B 2 ?_;refine yX ?_;intro b1 w1 hb1 cF gK gj jy;refine B 6 ?_;refine ay (.agg (wrA o.w)) ?_;refine call call71 rfl rfl rfl (λW hS=>nke o.w W) ?_;refine B 5 ?_;refine aF results70 rfl A1 ?_;rfl
theorem n9l(p:Ol->Bool)(f:Nat)(cap:List Value)(az:ew prog f)(xs:List Ol)(hxl:xs.length<=1000000)(N:Nat)(a:Option Addr)(cp:Nat)(w:World)(hN:N<=w.heap.size)(aJ:ai u7 34 N w a xs)(hp:∀(j:Nat) (x:Ol),xs[j]? =some x->∀W,Below w.heap.size w W->Calls prog f (.agg (u7 x)::cap).toArray W (aL W (.bool (p x)))):Calls prog 122 #[.slice a xs.length cp,.func (.func f) #[] cap.toArray] w (cK w (λi:Int=>ab i) (λi _=>fb p xs i)):=by
 refine eN func122 ntmps122 ?_;refine UM ?_;rintro j ⟨hj,dZ⟩;refine B 6 ?_;refine aG ?_ ?_
 ·intro ar;refine B 11 ?_;obtain⟨bo,oo,cs0,to,fV,rfl,fP,cJ,aV⟩:=aJ.get aa;obtain⟨x,hx⟩:=ng xs j aa;refine B 5 ?_;refine ay (.agg (u7 x)) ?_;refine UN ?_;refine aG ?_ ?_
  ·intro aN;refine B 12 ?_;refine rY (j:Int) results122 rfl A0 rfl ?_;exact UO
  exact UP
 intro ar;refine B 11 ?_;refine rY (-1:Int) results122 rfl A0 rfl ?_;exact UQ
theorem n4e(p:Ol->Bool)(f:Nat)(cap:List Value)(az:ew prog f)(xs:List Ol)(hxl:xs.length<=1000000)(N:Nat)(a:Option Addr)(cp:Nat)(w:World)(hN:N<=w.heap.size)(aJ:ai u7 34 N w a xs)(hp:∀(j:Nat) (x:Ol),xs[j]? =some x->∀W,Below w.heap.size w W->Calls prog f (.agg (u7 x)::cap).toArray W (aL W (.bool (p x)))):Calls prog 74 #[.slice a xs.length cp,.func (.func f) #[] cap.toArray] w (aL w (.bool (xs.any p))):=by
 refine eN func74 ntmps74 ?_;refine B 9 ?_;refine nv (α:=Int) (v:=λi:Int=>ab i) (Φ:=λ_ i _=>fb p xs i) call122 rfl rfl rfl (λW hS=>n9l p f cap az xs hxl N a cp W cM (aJ.up (ak _) hS.sm) (λj x hx W2 hB=>hp j x hx W2 (((hS.links w A0).below J5).trans (hB.mono (hS.links w A0).size)))) ?_;intro Wi i wi Ev Ew hi;refine B 5 ?_;refine aF results74 rfl A1 ?_;exact vb hi.any
section
variable {C:Cx} {G:Gh} {L:List World} {H:ad} {E:Env} {x y:Operand}
theorem Gq{T U tp:Nat}{v:Value}{ms:Array (String×TypeId)}(hU:C.P.underlying T=some (.interface ms))(hx:ev E x=some (.iface tp v))(hy:ev E y=some .nilIface):RV C G L H E (.binOp .neq T x y U) (cY):=λd ty pos aC g a W hF _=>by
 have h:∀d:Nat,(Op.equalIn (d+1) T (.iface tp v) .nilIface).run C.P W= .ok false W:=λd=>by simp[Op.equalIn,run_underlying hU]
 have h2:(binOp .neq T (.iface tp v) .nilIface).run C.P W= .ok (cY) W:=by simp only[binOp];simp[Op.equal,Op.maxDepth,h 9999]
 have h1:(eqGuard .neq T x y (.iface tp v) .nilIface).run C.P W= .ok () W:=by simp[eqGuard]
 simp only[execOp,hF.ev hx,hF.ev hy,Sem.run_bind,h1,h2,Result.andThen];rfl
theorem Si{T U:Nat}{ms:Array (String×TypeId)}(hU:C.P.underlying T=some (.interface ms))(hx:ev E x=some .nilIface)(hy:ev E (.const .nilIface)=some .nilIface):RV C G L H E (.binOp .neq T x (.const .nilIface) U) (bN):=λd ty pos aC g a W hF _=>by
 have h:∀d:Nat,(Op.equalIn (d+1) T .nilIface .nilIface).run C.P W= .ok true W:=λd=>by simp[Op.equalIn,run_underlying hU]
 have h2:(binOp .neq T .nilIface .nilIface).run C.P W= .ok (bN) W:=by simp only[binOp];simp[Op.equal,Op.maxDepth,h 9999]
 have h1:(eqGuard .neq T x (.const .nilIface) .nilIface .nilIface).run C.P W= .ok () W:=by simp[eqGuard]
 simp only[execOp,hF.ev hx,hF.ev hy,Sem.run_bind,h1,h2,Result.andThen];rfl
end
theorem Sj{f:Nat}{us:Array Value}{w:World}{v:Value}(h:Calls prog f us w λe w'=>e= .returned v/\w'=w):Calls prog f us w (aL w v):=h.mono λ_ _ h=>⟨h.1,h.2▸Below.refl _ _⟩
noncomputable def AP (Z:Fx) (g:Gp) (x:Gr):Int:=
 if qn g [x.by_,x.device]=1 then 1
 else if qn g [x.by_,x.device]≠0\/x.folder≠g.folder\/mw x.f g.last=false\/x.pub≠((xJ g x.device).getD (0,0)).2\/Gm (IT x)=false\/x.olds.any (λo=> !decide (yR o.w=0))=true then 260
 else if oT Z ((xJ g x.by_).getD (0,0)).1 (cx (B2 Z x)) x.sr x.ss=true then 0 else 222
noncomputable def IU (Z:Fx) (g:Gp) (x:Ir):Int:=
 if qn g [x.by_]=1 then 1
 else if qn g [x.by_]≠0\/mw x.g g.last=false\/x.body.length≠48 then 260
 else if oT Z ((xJ g x.by_).getD (0,0)).1 (cx (B3 Z x)) x.sr x.ss=true then 0 else 222
theorem Sk{g:Gp}{a b:Int}(h:qn g [a,b]=0):∃m1 m2,xJ g a=some m1/\xJ g b=some m2/\Gk g [a,b]=[m1,m2]:=by
 have h2:=h;unfold qn at h2;split at h2
 ·cases h2
 split at h2
 ·rename_i ha;simp only[List.all_cons,List.all_nil,Bool.and_true,oS,Option.isSome_iff_exists]at ha;obtain⟨⟨m1,h3⟩,m2,h4⟩:=ha;exact⟨m1,m2,h3,h4,by unfold Gk CR;rw[if_pos h];simp[h3,h4]⟩
 cases h2
theorem Sl{g:Gp}{a:Int}(h:qn g [a]=0):∃m1,xJ g a=some m1/\Gk g [a]=[m1]:=by
 have h2:=h;unfold qn at h2;split at h2
 ·cases h2
 split at h2
 ·rename_i ha;simp only[List.all_cons,List.all_nil,Bool.and_true,Option.isSome_iff_exists]at ha;obtain⟨m1,h3⟩:=ha;exact⟨m1,h3,by unfold Gk CR;rw[if_pos h];simp[h3]⟩
 cases h2
theorem Oj(g:Gp)(l:List Int):qn g l=1\/qn g l=2\/qn g l=0:=by unfold qn;split;(simp);split<;>simp
theorem n1n{W:World}{b t:Nat}{fr:Nat×Nat}{xs:List Int}{cs:Array Value}(h:W.heap[b]? =some (.cells cs t fr))(he:cs=(xs.map ab).toArray):ai encI 1 W.heap.size W (ao b) xs:=by subst he;exact EI h
theorem Sen.old{w W:World}{a0 a1:Addr}(h:Sen w a0 a1)(hS:St Gh.no L [] W)(hw:w∈L):Sen W a0 a1:=by
 obtain⟨⟨t,fr,h1⟩,⟨t',Cs,h2⟩,⟨c,t2,h3⟩,⟨c',t3,h4⟩,h5⟩:=h;exact⟨⟨t,fr,hS.old hw h1 zJ trivial⟩,⟨t',Cs,hS.old hw h2 zJ trivial⟩,⟨c,t2,hS.old hw h3 zJ trivial⟩,⟨c',t3,hS.old hw h4 zJ trivial⟩,h5⟩
theorem Gs(hZ:FxOk Z)(G:Gv)(x:Gr)(hx:pr x)(N:Nat)(w:World)(hN:N<=w.heap.size)(hG:bS N w G)(hA:rK N w x)(hg:Glb w)(a0 a1:Addr)(hse:Sen w a0 a1):Calls prog 39 #[.agg (bD G),.agg (vB x)] w (aL w (ab (AP Z G.g x))):=by
 have hg4:=hg.lt;obtain⟨tg0,fg0,hg0⟩:=hse.g0;refine eN func39 ntmps39 ?_;refine B 2 ?_;refine yX ?_;intro b2 w2 di bV ff dB dx;refine yX ?_;intro b3 w3 cZ cu fC ez eP;refine X7 ?_;refine B 1 ?_;refine ay (ab x.by_) ?_;refine B 1 ?_;refine ay (ab x.device) ?_;refine Ic ?_;refine yV ?_;intro eB w14 aiV aiW anH ZS aiX;refine nG (enc:=AN) (m:=2) (t:=180) (xs:=Gk G.g [x.by_,x.device]) (v:=λs=>.tuple #[s,erV a0 a1 (qn G.g [x.by_,x.device])]) (first:=[]) (cap:=[]) rfl call68 rfl rfl rfl nsh (λW hS=>?_) ?_
 ·have rL:=hS.old A0 aiV aiW trivial;exact neo G W.heap.size W (ak _) (hG.up cM hS.sm) [x.by_,x.device] zI (ao eB) 2 (n1n rL rfl) a0 a1 (hse.old hS A3)
 intro W9 a9 EB Iz cj xw jr jR;refine B 9 ?_;rcases Oj G.g [x.by_,x.device]with hE|hE|hE
 ·rw[hE];refine B 2 ?_;refine z4e ?_;refine aF results39 rfl A4 ?_;exact congrArg ab (Eq.symm (by unfold AP;rw[if_pos hE]))
 ·rw[hE];refine zNf ?_;refine B 12 ?_;refine CJ.dj zN ?_;refine fA 0 27 (pb:=by exact zU 1 (k:=by exact aU (X.v (Gq underlying173 rfl rfl)) zT)) (k:=?_);refine zsf ?_;refine fA 32 35 (k:=?_);refine ZT ?_;refine z0e ?_;exact congrArg ab (Eq.symm (by unfold AP;rw[if_neg aa,if_pos (.inl aa)]))
 rw[hE];obtain⟨m1,m2,Sm,ZU,hfd⟩:=Sk hE;rw[hfd]at jr ⊢;obtain⟨bo,oo,cs0,to,fV,rfl,fP,cJ,aV⟩:=jr.get zI;refine zKf ?_;refine B 12 ?_;by_cases k1:x.folder≠G.g.folder
 ·refine CJ.dj zN ?_;refine fA 0 27 (pb:=by exact zU 7 (k:=by exact aU (X.v (RV.re (v':=cY) (cV rfl rfl) (vb CS))) zT)) (sp:=(_::_::_::_::(some (ab x.folder))::_::(some (ab G.g.folder))::_)) (k:=?_);refine zsf ?_;refine fA 32 35 (k:=?_);refine ZT ?_;refine z0e ?_;exact congrArg ab (Eq.symm (by unfold AP;rw[if_neg aa,if_pos (.inr (.inl k1))]))
 by_cases k2:mw x.f G.g.last=false
 ·refine CJ.dj zN ?_;refine fA 0 27 (pb:=by exact zU 7 (k:=by exact aU (X.v (RV.re (v':=bN) (cV rfl rfl) (vb CS))) (zU 6 (k:=by exact aU (X.v (RV.re (v':=cY) (eF xn zA nM rfl rfl rfl) (congrArg (λb=>Value.bool (!b)) k2))) zT)))) (sp:=[_,_,_,_,some (ab x.folder),_,some (ab G.g.folder),_,_,_,_,some (.agg (dg x.f)),_,some (.agg (dg G.g.last)),_,_,_,_,_,_,_,_,_,_,_,_,_]) (k:=?_);refine zsf ?_;refine fA 32 35 (k:=?_);refine ZT ?_;refine z0e ?_;exact congrArg ab (Eq.symm (by unfold AP;rw[if_neg aa,if_pos (.inr (.inr (.inl k2)))]))
 by_cases k3:x.pub≠m2.2
 ·refine CJ.dj zN ?_;refine fA 0 27 (pb:=by exact zU 7 (k:=by exact aU (X.v (RV.re (v':=bN) (cV rfl rfl) (vb CS))) (zU 6 (k:=by exact aU (X.v (RV.re (v':=bN) (eF xn zA nM rfl rfl rfl) (congrArg (λb=>Value.bool (!b)) (by simpa using k2)))) (zU 5 (k:=by exact aU (X.v (dc underlying171 sizeOf180 rfl rfl zI zI)) (zU 1 (k:=by exact aU (X.v (av (v:=ab m2.2) isAgg3 rfl A0 cJ zJ trivial zDc)) (aU (X.v (RV.re (v':=cY) (cV rfl rfl) (vb CS))) zT))))))))) (sp:=[_,_,_,_,some (ab x.folder),_,some (ab G.g.folder),_,_,_,_,some (.agg (dg x.f)),_,some (.agg (dg G.g.last)),_,_,_,_,some (ab x.pub),_,_,_,_,_,_,_,_]) (k:=?_);refine zsf ?_;refine fA 32 35 (k:=?_);refine ZT ?_;refine z0e ?_;exact congrArg ab (Eq.symm (by unfold AP;rw[if_neg aa,if_pos (.inr (.inr (.inr (.inl (by rw[ZU];exact k3)))))]))
 by_cases k4:Gm (IT x)=false
 ·refine CJ.dj zN ?_;refine fA 0 27 (pb:=by exact zU 7 (k:=by exact aU (X.v (RV.re (v':=bN) (cV rfl rfl) (vb CS))) (zU 6 (k:=by exact aU (X.v (RV.re (v':=bN) (eF xn zA nM rfl rfl rfl) (congrArg (λb=>Value.bool (!b)) (by simpa using k2)))) (zU 5 (k:=by exact aU (X.v (dc underlying171 sizeOf180 rfl rfl zI zI)) (zU 1 (k:=by exact aU (X.v (av (v:=ab m2.2) isAgg3 rfl A0 cJ zJ trivial zDc)) (aU (X.v (RV.re (v':=bN) (cV rfl rfl) (vb CS))) zT))))))))) (sp:=[_,_,_,_,some (ab x.folder),_,some (ab G.g.folder),_,_,_,_,some (.agg (dg x.f)),_,some (.agg (dg G.g.last)),_,_,_,_,some (ab x.pub),_,_,_,_,_,_,_,some (.agg (vB x))]) (k:=?_);refine zid ?_;intro W7 a7 CA wk7 IV Sn jJ mE;refine B 1 ?_;refine PJ.dj ?_;refine DJ.one (n:=28) rfl zN ?_;refine call (v:=.bool false) call72 rfl rfl rfl (λW hS=>by have h9:=nef (IT x) (by have:=hx.few;unfold IT;rw[eQ];omega) W.heap.size a7 CA W (ak _) (jJ.up (hS.links wk7 A0).size (hS.same A0 (ak _) zH trivial));rw[k4]at h9;exact h9) ?_;refine B 1 ?_;refine zSe ?_;refine fA 32 35 (k:=?_);refine ZT ?_;refine DJ.done ?_;refine B 9 ?_;refine aF results39 rfl A5 ?_;exact congrArg ab (Eq.symm (by unfold AP;rw[if_neg aa,if_pos (.inr (.inr (.inr (.inr (.inl k4)))))]))
 by_cases k5:x.olds.any (λo=> !decide (yR o.w=0))=true
 ·refine CJ.dj zN ?_;refine fA 0 27 (pb:=by exact zU 7 (k:=by exact aU (X.v (RV.re (v':=bN) (cV rfl rfl) (vb CS))) (zU 6 (k:=by exact aU (X.v (RV.re (v':=bN) (eF xn zA nM rfl rfl rfl) (congrArg (λb=>Value.bool (!b)) (by simpa using k2)))) (zU 5 (k:=by exact aU (X.v (dc underlying171 sizeOf180 rfl rfl zI zI)) (zU 1 (k:=by exact aU (X.v (av (v:=ab m2.2) isAgg3 rfl A0 cJ zJ trivial zDc)) (aU (X.v (RV.re (v':=bN) (cV rfl rfl) (vb CS))) zT))))))))) (sp:=[_,_,_,_,some (ab x.folder),_,some (ab G.g.folder),_,_,_,_,some (.agg (dg x.f)),_,some (.agg (dg G.g.last)),_,_,_,_,some (ab x.pub),_,_,_,_,_,_,_,some (.agg (vB x))]) (k:=?_);refine zid ?_;intro W7 a7 CA wk7 IV Sn jJ mE;refine B 1 ?_;refine zod ?_;refine B 1 ?_;refine zSe ?_;refine fA 32 35 (sp:=[_,some (.slice x.oa x.olds.length x.oc),_]) (k:=?_);refine DJ.one (n:=35) rfl zN ?_;refine call (v:=.bool true) call74 rfl rfl rfl (λW hS=>by have h9:=n4e (λo=> !decide (yR o.w=0)) 70 [] call70 x.olds (by have:=hx.few;omega) N x.oa x.oc W cM (hA.ol.up (ak _) hS.sm) (λj y hy W2 hB=>nNl y W2);rw[k5]at h9;exact h9) ?_;refine zOf ?_;refine B 9 ?_;refine aF results39 rfl A5 ?_;exact congrArg ab (Eq.symm (by unfold AP;rw[if_neg aa,if_pos (.inr (.inr (.inr (.inr (.inr k5)))))]))
 refine CJ.dj zN ?_;refine fA 0 27 (pb:=by exact zU 7 (k:=by exact aU (X.v (RV.re (v':=bN) (cV rfl rfl) (vb CS))) (zU 6 (k:=by exact aU (X.v (RV.re (v':=bN) (eF xn zA nM rfl rfl rfl) (congrArg (λb=>Value.bool (!b)) (by simpa using k2)))) (zU 5 (k:=by exact aU (X.v (dc underlying171 sizeOf180 rfl rfl zI zI)) (zU 1 (k:=by exact aU (X.v (av (v:=ab m2.2) isAgg3 rfl A0 cJ zJ trivial zDc)) (aU (X.v (RV.re (v':=bN) (cV rfl rfl) (vb CS))) zT))))))))) (sp:=[_,_,_,_,some (ab x.folder),_,some (ab G.g.folder),_,_,_,_,some (.agg (dg x.f)),_,some (.agg (dg G.g.last)),_,_,_,_,some (ab x.pub),_,_,_,_,_,_,_,some (.agg (vB x))]) (k:=?_);refine zid ?_;intro W7 a7 CA wk7 IV Sn jJ mE;refine B 1 ?_;refine zod ?_;refine B 1 ?_;refine zSe ?_;refine fA 32 35 (sp:=[_,some (.slice x.oa x.olds.length x.oc),_]) (k:=?_);refine DJ.one (n:=35) rfl zN ?_;refine call (v:=.bool false) call74 rfl rfl rfl (λW hS=>by have h9:=n4e (λo=> !decide (yR o.w=0)) 70 [] call70 x.olds (by have:=hx.few;omega) N x.oa x.oc W cM (hA.ol.up (ak _) hS.sm) (λj y hy W2 hB=>nNl y W2);rw[show x.olds.any (λo=> !decide (yR o.w=0))=false by simpa using k5]at h9;exact h9) ?_;refine zOf ?_;refine B 6 ?_;have jl:∀o∈x.olds,o.w.body.length<=65552:=λo ho=>by
  have h8:x.olds.any (λo=> !decide (yR o.w=0))=false:=by simpa using k5
  have h9:=List.any_eq_false.1 h8 o ho;exact(ny.1 (by simpa using h9)).2.2
 refine eS 8 5 [] (pb:=by exact zU 1 (k:=by exact aU (X.v (dc underlying171 sizeOf180 rfl rfl zI zI)) (zU 1 (k:=by exact aU (X.v (av (v:=ab m1.1) isAgg3 rfl A1 cJ zJ trivial (by have:=xv (enc:=λx:Mm=>(AN x).toArray) (n:=2) aV (i:=0) (show[m1,m2][0]? =some m1 from rfl) rfl 0 zA;simpa[AN]using this))) zT)))) (sp:=[_,_,_,_,some (.agg (vB x)),_,_,some (.agg #[ab x.sr,ab x.ss])]) (h:=?_);intro _ _ hk;refine nv (α:=Nat) (v:=λb=>.slice (ao b) 32 32) (Φ:=λW b w1=>W.heap.size<=b/\w1.heap[b]? =some (oC (dg (B2 Z x)) 33)) call76 rfl rfl rfl (λW hS=>njo hZ x hx jl N W cM (hA.up (ak _) hS.sm) (hg.old hS A5 zH trivial)) ?_;rintro Wm bm wm vV Ke ⟨hq0,oB⟩;refine zE ?_;refine call (v:=.bool (oT Z m1.1 (cx (B2 Z x)) x.sr x.ss)) call75 rfl rfl rfl (λW hS=>by have h9:=nRc hZ m1.1 x.sr x.ss (cx (B2 Z x)) bm 0 32 (by rw[nR];decide) W (bZ.dg (hS.old A0 oB zJ trivial) (hZ.byt _ _)) (hg.old hS A6 zH trivial);rw[nR]at h9;exact h9) ?_;refine B 3 ?_;refine aG ?_ ?_
 ·intro ar;refine B 7 ?_;refine aF results39 rfl A6 ?_;exact congrArg ab (Eq.symm zOb)
 intro ar;refine B 8 ?_;refine aF results39 rfl A6 ?_;exact congrArg ab (Eq.symm zOb)
theorem nVo(hZ:FxOk Z)(G:Gv)(x:Ir)(hx:jM x)(N:Nat)(w:World)(hN:N<=w.heap.size)(hG:bS N w G)(qC:gy N w x.ba x.body)(hg:Glb w)(a0 a1:Addr)(hse:Sen w a0 a1):Calls prog 40 #[.agg (bD G),.agg (CQ x)] w (aL w (ab (IU Z G.g x))):=by
 have hg4:=hg.lt;obtain⟨tg0,fg0,hg0⟩:=hse.g0;refine eN func40 ntmps40 ?_;refine B 2 ?_;refine yX ?_;intro b2 w2 di bV ff dB dx;refine yX ?_;intro b3 w3 cZ cu fC ez eP;refine X7 ?_;refine B 1 ?_;refine ay (ab x.by_) ?_;refine Ic ?_;refine yV ?_;intro gR WG Jv Jw WH yq Dq;refine nG (enc:=AN) (m:=2) (t:=180) (xs:=Gk G.g [x.by_]) (v:=λs=>.tuple #[s,erV a0 a1 (qn G.g [x.by_])]) (first:=[]) (cap:=[]) rfl call68 rfl rfl rfl nsh (λW hS=>?_) ?_
 ·have rL:=hS.old A0 Jv Jw trivial;exact neo G W.heap.size W (ak _) (hG.up cM hS.sm) [x.by_] zI (ao gR) 1 (n1n rL rfl) a0 a1 (hse.old hS A3)
 intro W9 a9 EB Iz cj xw jr jR;refine B 9 ?_;rcases Oj G.g [x.by_]with hE|hE|hE
 ·rw[hE];refine B 2 ?_;refine z4e ?_;refine aF results40 rfl A4 ?_;exact congrArg ab (Eq.symm (by unfold IU;rw[if_pos hE]))
 ·rw[hE];refine zNf ?_;refine B 9 ?_;refine rv rfl rfl rfl (Gq underlying173 rfl rfl) ?_;refine B 23 ?_;refine aF results40 rfl A4 ?_;exact congrArg ab (Eq.symm (by unfold IU;rw[if_neg aa,if_pos (.inl aa)]))
 rw[hE];obtain⟨m1,Sm,hfd⟩:=Sl hE;rw[hfd]at jr ⊢;obtain⟨bo,oo,cs0,to,fV,rfl,fP,cJ,aV⟩:=jr.get zI;refine zKf ?_;refine B 7 ?_;by_cases k2:mw x.g G.g.last=false
 ·refine B 5 ?_;refine ay (.agg (dg x.g)) ?_;refine B 1 ?_;refine ay (.agg (dg G.g.last)) ?_;refine rq cY (eF xn zA nM rfl rfl rfl) (congrArg (λb=>Value.bool (!b)) k2) ?_;refine B 17 ?_;refine aF results40 rfl A4 ?_;exact congrArg ab (Eq.symm (by unfold IU;rw[if_neg aa,if_pos (.inr (.inl k2))]))
 by_cases k3:x.body.length≠48
 ·refine zBf ?_;refine rq cY (cV rfl rfl) (vb CS) ?_;refine B 11 ?_;refine aF results40 rfl A4 ?_;exact congrArg ab (Eq.symm (by unfold IU;rw[if_neg aa,if_pos (.inr (.inr k3))]))
 refine zBf ?_;refine rq bN (cV rfl rfl) (vb CS) ?_;refine B 8 ?_;refine eS 8 5 [] (pb:=by exact zU 1 (k:=by exact aU (X.v (dc underlying171 sizeOf180 rfl rfl zI zI)) (zU 1 (k:=by exact aU (X.v (av (v:=ab m1.1) isAgg3 rfl A0 cJ zJ trivial (by have:=xv (enc:=λx:Mm=>(AN x).toArray) (n:=2) aV (i:=0) (show[m1][0]? =some m1 from rfl) rfl 0 zA;simpa[AN]using this))) zT)))) (sp:=[_,_,_,_,some (.agg (CQ x)),_,_,some (.agg #[ab x.sr,ab x.ss])]) (h:=?_);intro _ _ hk;refine nv (α:=Nat) (v:=λb=>.slice (ao b) 32 32) (Φ:=λW b w1=>W.heap.size<=b/\w1.heap[b]? =some (oC (dg (B3 Z x)) 33)) call77 rfl rfl rfl (λW hS=>nup hZ x hx (by have h9:=Classical.not_not.1 k3;omega) N W cM (qC.up (ak _) hS.sm) (hg.old hS A4 zH trivial)) ?_;rintro Wm bm wm vV Ke ⟨hq0,oB⟩;refine zE ?_;refine call (v:=.bool (oT Z m1.1 (cx (B3 Z x)) x.sr x.ss)) call75 rfl rfl rfl (λW hS=>by have h9:=nRc hZ m1.1 x.sr x.ss (cx (B3 Z x)) bm 0 32 (by rw[nR];decide) W (bZ.dg (hS.old A0 oB zJ trivial) (hZ.byt _ _)) (hg.old hS A5 zH trivial);rw[nR]at h9;exact h9) ?_;refine B 3 ?_;refine aG ?_ ?_
 ·intro ar;refine B 7 ?_;refine aF results40 rfl A5 ?_;exact congrArg ab (Eq.symm zjc)
 intro ar;refine B 8 ?_;refine aF results40 rfl A5 ?_;exact congrArg ab (Eq.symm zjc)
theorem Sen.oldG{w W:World}{a0 a1:Addr}{G:Gh}{H:ad}(h:Sen w a0 a1)(hS:St G L H W)(hw:w∈L)(hX:∀k,k<w.heap.size->¬G.X k)(hO:Over w.heap.size H):Sen W a0 a1:=by
 have hs:=hS.same hw (ak _) hX hO;have key:∀{b:Nat} {o:Obj},w.heap[b]? =some o->W.heap[b]? =some o:=λ{b o} hb=>(hs b (aT.1 hb).1).trans hb;obtain⟨⟨t,fr,h1⟩,⟨t',Cs,h2⟩,⟨c,t2,h3⟩,⟨c',t3,h4⟩,h5⟩:=h;exact⟨⟨t,fr,key h1⟩,⟨t',Cs,key h2⟩,⟨c,t2,key h3⟩,⟨c',t3,key h4⟩,h5⟩
def ZV (ps:List Ap) (f:Nat->Int):Option Ap:=ps.find? λp=>mw p.2.2.2.last f
theorem Om(pls:List Pl)(f:Nat->Int):ZV (pls.map bC) f=(pP pls f).map bC:=by
 unfold ZV pP;rw[List.find?_map];rfl
noncomputable def LC (ps:List Ap) (pub:Int) (o:Ol):List (List Se×Se):=if(ZV ps o.f).isSome=true then[([aS pub],bE (dk o.f))]else[]
noncomputable def CT (Z:Fx) (ps:List Ap) (x:Gr):List (List Se×Se):=match ZV ps x.f with|some p=>if AP Z p.2.2.2 x=0 then x.olds.flatMap (LC ps x.pub)else[]|none=>[]
noncomputable def IW (Z:Fx) (ps:List Ap) (x:Ir):List (List Se×Se):=match ZV ps x.g with|some p=>if IU Z p.2.2.2 x=0 then[([bE (dk x.f)],bE (dk x.g))]else[]|none=>[]
noncomputable def pw (Z:Fx) (cs:List Cm) (fos:List Fo) (gs:List Gr) (xs:List Ir):List (List Se×Se):=
 (gW Z cs fos).flatMap lH++gs.flatMap (CT Z (gW Z cs fos))++xs.flatMap (IW Z (gW Z cs fos))
theorem Sq{x:Gr}(h:pP pls x.f=none):CT Z (pls.map bC) x=[]:=by unfold CT;rw[Om,h];rfl
theorem n2n{x:Gr}{p:Pl}(h:pP pls x.f=some p)(hc:AP Z p.x.g x≠0):CT Z (pls.map bC) x=[]:=by unfold CT;rw[Om,h];exact if_neg hc
theorem Sr{x:Gr}{p:Pl}(h:pP pls x.f=some p)(hc:AP Z p.x.g x=0):CT Z (pls.map bC) x=x.olds.flatMap (LC (pls.map bC) x.pub):=by unfold CT;rw[Om,h];exact if_pos hc
theorem Ss{x:Ir}(h:pP pls x.g=none):IW Z (pls.map bC) x=[]:=by unfold IW;rw[Om,h];rfl
theorem LD{x:Ir}{p:Pl}(h:pP pls x.g=some p)(hc:IU Z p.x.g x≠0):IW Z (pls.map bC) x=[]:=by unfold IW;rw[Om,h];exact if_neg hc
theorem Su{x:Ir}{p:Pl}(h:pP pls x.g=some p)(hc:IU Z p.x.g x=0):IW Z (pls.map bC) x=[([bE (dk x.f)],bE (dk x.g))]:=by unfold IW;rw[Om,h];exact if_pos hc
theorem LF{pub:Int}{o:Ol}(h:(pP pls o.f).isSome=true):LC (pls.map bC) pub o=[([aS pub],bE (dk o.f))]:=by unfold LC;rw[Om,Option.isSome_map,if_pos h]
theorem Sv{pub:Int}{o:Ol}(h:(pP pls o.f).isSome=false):LC (pls.map bC) pub o=[]:=by unfold LC;rw[Om,Option.isSome_map,h];rfl
theorem nrm{F:ad}{ds:List Dv}{s to:Se}{b t c:Nat}(h:∀d∈ds,xI F d):∀d∈ds++[(⟨[s],to,some ⟨b,0,none⟩,c⟩:Dv)],xI ((b,oC (dh s) t)::F) d:=by
 intro d hd;rcases bj.1 hd with hd|hd
 ·exact(h d hd).mono λq hq=>.tail _ hq
 rw[ka.1 hd];refine⟨by simp,.inr ⟨b,0,_,_,_,rfl,.head _,λi hi=>?_⟩⟩;have h0:i=0:=by simp only[dF,fh]at hi;omega
 subst h0;exact⟨ak _,rfl⟩
theorem Sw(hZ:FxOk Z)(cs:List Cm)(cJ:cs.length<=1000)(dC:∀c∈cs,bO c)(N:Nat)(la:Option Addr)(lc:Nat)(w:World)(hN:N<=w.heap.size)(aJ:ai cG 73 N w la cs)(hC:∀c∈cs,du N w c)(fa:Option Addr)(fos:List Fo)(fc:Nat)(kp:fos.length<=10)(lP:cs.length<=10)(rD:ai sT 33 N w fa fos)(ga:Option Addr)(gs:List Gr)(gc:Nat)(Ui:gs.length<=10)(hgs:ai vB 39 N w ga gs)(Sx:∀g∈gs,pr g)(hgA:∀g∈gs,rK N w g)(ia:Option Addr)(xs:List Ir)(ic:Nat)(lB:xs.length<=10)(his:ai CQ 68 N w ia xs)(hii:∀x∈xs,jM x)(wM:∀x∈xs,gy N w x.ba x.body)(o1 o5 o6 o7:Value)(hg:Glb w)(a0 a1:Addr)(hse:Sen w a0 a1):Calls prog 47 #[.agg #[.slice fa fos.length fc,o1,.slice la cs.length lc,.slice ga gs.length gc,.slice ia xs.length ic,o5,o6,o7]] w (λe w'=>∃(ds:List Dv) (r:Rw) (F':ad),e= .returned (r.val ds.length)/\Below w.heap.size w w'/\r.ge w.heap.size/\r.Fit 36 ds/\r.At hQ 142 ds w'/\(∀p∈F',w.heap.size<=p.1/\w'.heap[p.1]? =some p.2/\¬r.isAt p.1)/\ds.map gP=pw Z cs fos gs xs/\(∀d∈ds,xI F' d)/\ds.length<=21000):=by
 have hg4:=hg.lt;refine nB (dL []) [] (vs:=[_]) func47 rfl ntmps47 rfl (NU w) ?_;refine B 2 ?_;refine yX ?_;intro b1 w1 hb1 cF gK gj jy;refine B 5 ?_;refine zte ?_;refine Vg (γ:=(Option Addr×Nat)×List Pl) (v:=λq=>.slice q.1.1 q.2.length q.1.2) (Φ:=λF' q=>q.2.map bC=gW Z cs fos/\(∀p∈q.2,Ln F' p/\p.c∈cs)/\q.2.length<=100/\lC (λx=>(zl x).toArray) 111 F' q.1.1 q.2) call30 rfl rfl rfl (λW hS=>nJh hZ cs cJ dC N la lc W cM (aJ.up (ak _) hS.sm) (λc hc=>(hC c hc).up (ak _) hS.sm) fa fos fc kp lP (rD.up (ak _) hS.sm) o1 _ _ o5 o6 o7 (hg.old hS A1 zH trivial)) ?_;rintro⟨⟨pa,xK⟩,pls⟩ F1 ⟨sa,CU,iH,xL⟩ ze;dsimp only at sa CU iH xL ⊢;have xL:lC kD 111 F1 pa pls:=xL;obtain⟨F0,Vp⟩:∃F0,F1++[]=F0:=⟨_,rfl⟩;rw[Vp];have xL:lC kD 111 F0 pa pls:=xL.mono (λq hq=>Vp▸bj.2 (.inl hq));have CU:∀p∈pls,Ln F0 p/\p.c∈cs:=λp hp=>⟨(CU p hp).1.mono (λq hq=>Vp▸bj.2 (.inl hq)),(CU p hp).2⟩;have ai3:∀q∈F0,w.heap.size<=q.1:=λq hq=>by rw[<-Vp,eb]at hq;exact(ze q hq).mem w A1
 refine B 1 ?_;refine yW ?_;intro b3 ez eP;refine B 18 ?_;refine CJ.loop (α:=((Rw×List Dv)×ad)×Nat) (λp9=>[(1,ptr b1 0),(2,p9.1.1.1.val p9.1.1.2.length),(4,.func (.func 92) #[] #[ptr b3 0]),(22,.slice pa pls.length xK),(23,ab (pls.length:Int)),(24,ab (p9.2:Int))]) (λp9=>[(b3,oC #[.slice pa pls.length xK] 89)]++(p9.1.1.1.hp hQ 142 p9.1.1.2++[])) (λp9=>[w1,w]) (λp9=>dL p9.1.2) (λp9=>p9.2<=pls.length/\p9.1.1.1.Fr (dL p9.1.2) [w1,w]/\p9.1.1.1.Fit 36 p9.1.1.2/\p9.1.1.2.map gP=(pls.take p9.2).flatMap (λp=>lH (bC p))/\(∀d∈p9.1.1.2,xI p9.1.2 d)/\p9.1.1.2.length<=p9.2*200/\(∀q∈p9.1.2,w.heap.size<=q.1)/\∀q∈F0,q∈p9.1.2) (λp9=>pls.length-p9.2) (((.nil,[]),F0),0) ⟨cR _,True.intro,rfl,rfl,by simp,ak _,ai3,λq hq=>hq⟩ zR rfl rfl zI ?_;rintro⟨⟨⟨r,ds⟩,F⟩,i⟩ ⟨hi,aK,ah,aQ,iE,vJ,dV,jT⟩;dsimp only at hi aK ah aQ iE vJ dV jT ⊢;have bG:r.ge w1.heap.size:=Rw.ge_fz aK A0;refine B 6 ?_;refine aG ?_ ?_
 ·intro ar;refine B 5 ?_;obtain⟨bp,op,csp,tp,frp,Vz,Cg,hcp⟩:=(xL.mono jT).get aa;obtain⟨p,hp⟩:=ng pls i aa;refine B 1 ?_;refine zAd ?_;refine B 1 ?_;refine yW ?_;intro b6 jO qy;refine B 5 ?_;refine ay (.agg (kD p)) ?_;refine Pr (α:=Nat) (v:=λb:Nat=>.func (.func 166) #[] #[ptr b 0]) (bo:=λb=>(b,oC (kD p) 92)) (Φ:=λ_=>True) call96 rfl rfl rfl (λW hS=>(nfj p W).mono (λe w1 h=>?_)) ?_
  ·obtain⟨b,h1,h2,h3,h4⟩:=h;exact⟨b,h1,h2,h3,trivial,h4⟩
  intro bd had hod _;dsimp only at had hod ⊢;replace had:=yb had;refine nkn (H0:=[(bd,oC (kD p) 92),(b6,oC (kD p) 92),(b3,oC #[.slice pa pls.length xK] 89)]) (H1:=[]) (r:=r) (xs:=ds) (enc:=hQ) (m:=36) (t:=142) (γ:=List Dv) (ys:=λz=>ds++z) (v:=λz r'=>r'.val (ds++z).length) (Φ:=λF' z=>z.map gP=lH (bC p)/\z.length<=200/\∀d∈z,xI F' d) (first:=[]) (cap:=[]) rfl aK rfl call95 rfl rfl rfl (λW hS=>?_) ?_
  ·have fB:r.At hQ 142 ds W:=by
    cases r with
    |nil=>trivial
    |row b c sp=>exact hS.own (b,_) oW
   have Jf:=hS.own (bd,_) A0;have hwW:=(hS.links w A1).size;have Gt:=CU p (cO hp);have vt:=(hC p.c Gt.2).up (ak _) (hS.same A1 hN zH zF);have hFl:∀q∈F,q.1<W.heap.size/\W.heap[q.1]? =some q.2:=hS.fzLies;have RG:=(Gt.1.ns.mono jT).at hFl;have qA:∀k,k∈F.map (·.1)->¬r.isAt k:=λk hk hr=>by
    have h8:=Rw.mem_at (enc:=hQ) (t:=142) (xs:=ds) hr;obtain⟨q,hq,rfl⟩:=bW.1 h8;exact hS.apart q (by simp[hq]) hk
   have H7:∀k,k<N->k<W.heap.size/\¬r.isAt k:=λk hk=>⟨by omega,λhr=>by have:=Rw.ge_at bG hr;omega⟩;have Sy:∀{α:Type} {enc:α->Array Value} {n:Nat} {a:Option Addr} {ys:List α} {k:Nat},ai enc n N W a ys->(ys≠ []/\∃off,a=some ⟨k,off,none⟩)->k<W.heap.size/\¬r.isAt k:=λ{α enc n a ys k} h hk=>by
    obtain⟨h1,off,h2⟩:=hk;rcases h with h|⟨b,off',fQ,t',Cs,e1,e2,_⟩
    ·exact absurd h h1
    rw[h2]at e1;cases e1;exact H7 _ e2
   refine(ndm (a:=bC p) (f:=166) (cap:=[ptr bd 0]) (RO:=RP bd p) call166 r ds W ah aa fB (λk hk=>?_) (λW2 hB=>?_)).mono ?_
   ·rcases hk with rfl|⟨h1,off,h2⟩|hk|hk|hk
    ·exact⟨(aT.1 Jf).1,λhr=>by
      have h8:=Rw.mem_at (enc:=hQ) (t:=142) (xs:=ds) hr;simp only[bA,jK,ig,eL,eb]at hod;exact(bA.mem hod.2.2) h8⟩
    ·rcases Gt.1.ns.mono jT with h|⟨b,off',fQ,t',Cs,e1,e2,_⟩
     ·exact absurd h h1
     rw[h2]at e1;cases e1;exact⟨(hFl _ e2).1,qA _ (bW.2 ⟨_,e2,rfl⟩)⟩
    ·exact Sy vt.bxs hk
    ·exact Sy vt.path hk
    exact Sy vt.wes hk
   ·have up:∀{α:Type} {enc:α->Array Value} {n:Nat} {a:Option Addr} {ys:List α},ai enc n N W a ys->ai enc n W.heap.size W2 a ys:=λh=>h.up aa (λk hk=>hB.block k aa);exact(Lw p bd W.heap.size W2 hB.size (by rw[hB.block bd (aT.1 Jf).1];exact Jf) (RG.up (ak _) (λk hk=>hB.block k hk)) Gt.1.nn (up vt.bxs) (up vt.path) (up vt.wes) (dC p.c Gt.2).few).fin λys Z v h=>⟨h.1,λd hd=>(h.2 d hd).low hB.size⟩
   rintro e w' ⟨z,r',rfl,hk,jE,bM,ai7,hz,BD⟩;obtain⟨F',h1,h2⟩:=Gd z BD;exact⟨z,r',F',rfl,hk,jE,bM,ai7,λq hq=>⟨(h1 q hq).1,(h1 q hq).2.1,(h1 q hq).2.2⟩,hz.1,hz.2,h2⟩
  rintro z r' F' ⟨gK,ff,fC⟩ ZX ai8 vz;refine Cy ?_;refine ag (((r',ds++z),F'++F),i+1) ⟨by dsimp only;omega,ai8,ZX,by dsimp only;rw[CN hp,gz,aQ,gK],λd hd=>(bj.1 hd).elim (λh=>(iE d h).mono (λq hq=>bj.2 (.inr hq))) (λh=>(fC d h).mono (λq hq=>bj.2 (.inl hq))),by dsimp only;rw[cy];omega,λq hq=>(bj.1 hq).elim (λh=>(vz q h).mem w A1) (dV q),λq hq=>bj.2 (.inr (jT q hq))⟩
 intro ar;refine B 9 ?_;refine ay (.slice ga gs.length gc) ?_;refine B 5 ?_;have hi0:i=pls.length:=by omega
 rw[hi0,vS]at aQ;refine CJ.loop (α:=((Rw×List Dv)×ad)×Nat) (λp9=>[(1,ptr b1 0),(2,p9.1.1.1.val p9.1.1.2.length),(4,.func (.func 92) #[] #[ptr b3 0]),(34,.slice ga gs.length gc),(35,ab (gs.length:Int)),(36,ab (p9.2:Int))]) (λp9=>[(b3,oC #[.slice pa pls.length xK] 89)]++(p9.1.1.1.hp hQ 142 p9.1.1.2++[])) (λp9=>[w1,w]) (λp9=>dL p9.1.2) (λp9=>p9.2<=gs.length/\p9.1.1.1.Fr (dL p9.1.2) [w1,w]/\p9.1.1.1.Fit 36 p9.1.1.2/\p9.1.1.2.map gP=pls.flatMap (λp=>lH (bC p))++(gs.take p9.2).flatMap (CT Z (pls.map bC))/\(∀d∈p9.1.1.2,xI p9.1.2 d)/\p9.1.1.2.length<=20000+p9.2*6/\(∀q∈p9.1.2,w.heap.size<=q.1)/\∀q∈F0,q∈p9.1.2) (λp9=>gs.length-p9.2) (((r,ds),F),0) ⟨cR _,aK,ah,by dsimp only;rw[aQ];simp,iE,by dsimp only;omega,dV,jT⟩ zR rfl rfl zI ?_;rintro⟨⟨⟨r,ds⟩,F⟩,i⟩ ⟨hi,aK,ah,aQ,iE,vJ,dV,jT⟩;dsimp only at hi aK ah aQ iE vJ dV jT ⊢;have bG:r.ge w1.heap.size:=Rw.ge_fz aK A0;refine B 6 ?_;refine aG ?_ ?_
 ·intro aN;refine B 5 ?_;obtain⟨bg,og,csg,tg,frg,rfl,Lq,ZY,rE⟩:=hgs.get aa;obtain⟨g,hgi⟩:=ng gs i aa;have tK:=cO hgi;have Sz:=Sx g tK;have hgf:=Sz.few;refine B 2 ?_;refine ay (.agg (vB g)) ?_;refine B 1 ?_;refine yW ?_;intro b8 Ig Ii;refine B 7 ?_;refine ay (.agg (dg g.f)) ?_;refine Bo (f:=92) (cap:=[ptr b3 0]) (v:=fnV (pP pls g.f)) rfl call92 rfl rfl rfl (λW hS=>ntj pls aa g.f W.heap.size pa xK b3 W (ak _) (hS.own (b3,_) A1) ((xL.mono jT).at hS.fzLies)) ?_;refine B 1 ?_;refine ay (.agg (kD ((pP pls g.f).getD Vw))) ?_;refine ay (.bool (pP pls g.f).isSome) ?_;refine B 1 ?_;refine yW ?_;intro b9 xh tw;refine B 6 ?_;cases LG:pP pls g.f with
  |none=>
   refine B 2 ?_;refine ay cY ?_;refine B 18 ?_;refine BV ?_;refine ag (((r,ds),F),i+1) ⟨by dsimp only;omega,aK,ah,by dsimp only;rw[CN hgi,aQ];rw[Sq LG];simp,iE,by dsimp only;omega,dV,jT⟩
  |some p=>
   have Gt:=CU p (List.mem_of_find?_eq_some LG);refine xp ?_;refine B 2 ?_;refine ay (.agg (bD p.x)) ?_;refine ay (.agg (vB g)) ?_;refine call (v:=ab (AP Z p.x.g g)) call39 rfl rfl rfl (λW hS=>Gs hZ p.x g (Sz) W.heap.size W (ak _) ((Gt.1.x.mono jT).lies hS.fzLies) ((hgA g tK).up (by have:=(hS.links w A1).size;omega) (hS.same A1 hN zH zF)) (hg.old hS A1 zH zF) a0 a1 (hse.oldG hS A1 zH zF)) ?_;refine B 4 ?_;refine aG ?_ ?_
   ·intro dp;refine Cy ?_;exact zFg
   intro dp;refine B 3 ?_;have jS:AP Z p.x.g g=0:=by first|assumption|simp_all
   refine B 2 ?_;refine ay (.slice g.oa g.olds.length g.oc) ?_;refine B 5 ?_;refine CJ.loop (α:=((Rw×List Dv)×ad)×Nat) (λp8=>[(1,ptr b1 0),(2,p8.1.1.1.val p8.1.1.2.length),(4,.func (.func 92) #[] #[ptr b3 0]),(8,ptr b8 0),(34,.slice (some ⟨bg,og,none⟩) gs.length gc),(35,ab (gs.length:Int)),(36,ab (i:Int)),(57,.slice g.oa g.olds.length g.oc),(58,ab (g.olds.length:Int)),(59,ab (p8.2:Int))]) (λp8=>[(b9,oC (kD p) 92),(b8,oC (vB g) 87),(b3,oC #[.slice pa pls.length xK] 89)]++(p8.1.1.1.hp hQ 142 p8.1.1.2++[])) (λp8=>[w1,w]) (λp8=>dL p8.1.2) (λp8=>p8.2<=g.olds.length/\p8.1.1.1.Fr (dL p8.1.2) [w1,w]/\p8.1.1.1.Fit 36 p8.1.1.2/\p8.1.1.2.map gP=pls.flatMap (λp=>lH (bC p))++(gs.take i).flatMap (CT Z (pls.map bC))++(g.olds.take p8.2).flatMap (LC (pls.map bC) g.pub)/\(∀d∈p8.1.1.2,xI p8.1.2 d)/\p8.1.1.2.length<=20000+i*6+p8.2/\(∀q∈p8.1.2,w.heap.size<=q.1)/\∀q∈F0,q∈p8.1.2) (λp8=>g.olds.length-p8.2) (((r,ds),F),0) ⟨cR _,aK,ah,by dsimp only;rw[aQ];simp,iE,by dsimp only;omega,dV,jT⟩ zR rfl rfl zI ?_;rintro⟨⟨⟨r,ds⟩,F⟩,j⟩ ⟨hj,aK,ah,aQ,iE,vJ,dV,jT⟩;dsimp only at hj aK ah aQ iE vJ dV jT ⊢;have bG:r.ge w1.heap.size:=Rw.ge_fz aK A0;refine B 6 ?_;refine aG ?_ ?_
   ·intro jh;refine B 5 ?_;obtain⟨bq,oq,Qe,tq,Qf,im,oY,yJ,qb⟩:=(hgA g tK).ol.get aa;obtain⟨o,ho⟩:=ng g.olds j aa;rw[im];refine B 2 ?_;refine ay (.agg (u7 o)) ?_;refine B 1 ?_;refine yW ?_;intro iD Kb Kc;refine B 7 ?_;refine ay (.agg (dg o.f)) ?_;refine Bo (f:=92) (cap:=[ptr b3 0]) (v:=fnV (pP pls o.f)) rfl call92 rfl rfl rfl (λW hS=>ntj pls aa o.f W.heap.size pa xK b3 W (ak _) (hS.own (b3,_) A3) ((xL.mono jT).at hS.fzLies)) ?_;refine B 1 ?_;refine ay (.agg (kD ((pP pls o.f).getD Vw))) ?_;refine ay (.bool (pP pls o.f).isSome) ?_;refine B 1 ?_;refine yW ?_;intro Up yt Bq;refine B 9 ?_;refine aG ?_ ?_
    ·intro iC;refine eS 10 4 [8,9] (pb:=by exact zU 3 (k:=by exact aU (nf call29 rfl rfl (λW hS _=>nve _ W) (λ_=>rfl)) (zU 3 (k:=by exact aU (nf call97 rfl rfl (λW hS _=>Zp _ W) (λ_=>rfl)) zT)))) (sp:=[_,_,some (ab g.pub),_,_,_,some (.agg (dg o.f)),_,_,_]) (h:=?_);intro _ _ hk;refine IL ?_;intro bs rD hJ;refine zG ?_;intro _ _ hk;refine ay (.agg (uX (⟨[(aS g.pub)],(bE (dk o.f)),some ⟨bs,0,none⟩,1⟩:Dv))) ?_;refine zG ?_;intro _ _ hk;refine zge ?_;intro bo uJ hJ;refine zE ?_;refine kg (r:=r) (xs:=ds) (zs:=[(⟨[(aS g.pub)],(bE (dk o.f)),some ⟨bs,0,none⟩,1⟩:Dv)]) (enc:=hQ) (m:=36) (H0:=[(bo,oC (uX (⟨[(aS g.pub)],(bE (dk o.f)),some ⟨bs,0,none⟩,1⟩:Dv)) 142),(bs,oC (dh (aS g.pub)) 35),(Up,oC (kD ((pP pls o.f).getD Vw)) 92),(iD,oC (u7 o) 119),(b9,oC (kD p) 92),(b8,oC (vB g) 87),(b3,oC #[.slice pa pls.length xK] 89)]) (H1:=[]) zW nll FP rfl rfl rfl rfl (cd.one (z:=(⟨[(aS g.pub)],(bE (dk o.f)),some ⟨bs,0,none⟩,1⟩:Dv)) FP n8g underlying138 (bB.own (i:=0) rfl)) ah aK zI Au ?_;intro b81 aja ZZ SA SB;replace SA:=yb SA;refine B 8 ?_;refine U0 ?_;refine PJ.fz [(bs,oC (dh (aS g.pub)) 35)] (H':=[(Up,oC (kD ((pP pls o.f).getD Vw)) 92),(iD,oC (u7 o) 119),(b9,oC (kD p) 92),(b8,oC (vB g) 87),(b3,oC #[.slice pa pls.length xK] 89)]++((b81,aP hQ 142 (ds++[(⟨[(aS g.pub)],(bE (dk o.f)),some ⟨bs,0,none⟩,1⟩:Dv)]) ZZ)::[])) (List.Perm.refl _) (by intro p hp;simp at hp;subst hp;exact rD) ?_
     refine BV ?_;refine ag (((Rw.row b81 aja ZZ,ds++[(⟨[(aS g.pub)],(bE (dk o.f)),some ⟨bs,0,none⟩,1⟩:Dv)]),(bs,oC (dh (aS g.pub)) 35)::F),j+1) ⟨by dsimp only;omega,SA.elim (λh=>Rw.Fr_at aK h) (λh=>.inr h),SB,by dsimp only;rw[gz,aQ];rw[CN ho,LF eE];simp[gP],by dsimp only;exact nrm iE,by dsimp only;simp only[cy,dF,fh];omega,λq hq=>by rcases bX.1 hq with rfl|hq;(exact rD.mem w A1);exact dV q hq,λq hq=>.tail _ (jT q hq)⟩
    intro iC;refine Q8 ?_;refine ag (((r,ds),F),j+1) ⟨by dsimp only;omega,aK,ah,by dsimp only;rw[CN ho,aQ,Sv eE];simp,iE,by dsimp only;omega,dV,jT⟩
   intro jh;refine B 10 ?_;refine BV ?_;exact zFg
 intro aN;refine B 9 ?_;refine ay (.slice ia xs.length ic) ?_;refine B 5 ?_;have pY:i=gs.length:=by omega
 rw[pY,vS]at aQ;refine CJ.loop (α:=((Rw×List Dv)×ad)×Nat) (λp9=>[(2,p9.1.1.1.val p9.1.1.2.length),(4,.func (.func 92) #[] #[ptr b3 0]),(85,.slice ia xs.length ic),(86,ab (xs.length:Int)),(87,ab (p9.2:Int))]) (λp9=>[(b3,oC #[.slice pa pls.length xK] 89)]++(p9.1.1.1.hp hQ 142 p9.1.1.2++[])) (λp9=>[w1,w]) (λp9=>dL p9.1.2) (λp9=>p9.2<=xs.length/\p9.1.1.1.Fr (dL p9.1.2) [w1,w]/\p9.1.1.1.Fit 36 p9.1.1.2/\p9.1.1.2.map gP=pls.flatMap (λp=>lH (bC p))++gs.flatMap (CT Z (pls.map bC))++(xs.take p9.2).flatMap (IW Z (pls.map bC))/\(∀d∈p9.1.1.2,xI p9.1.2 d)/\p9.1.1.2.length<=20060+p9.2/\(∀q∈p9.1.2,w.heap.size<=q.1)/\∀q∈F0,q∈p9.1.2) (λp9=>xs.length-p9.2) (((r,ds),F),0) ⟨cR _,aK,ah,by dsimp only;rw[aQ];simp,iE,by dsimp only;omega,dV,jT⟩ zR rfl rfl zI ?_;rintro⟨⟨⟨r,ds⟩,F⟩,i⟩ ⟨hi,aK,ah,aQ,iE,vJ,dV,jT⟩;dsimp only at hi aK ah aQ iE vJ dV jT ⊢;have bG:r.ge w1.heap.size:=Rw.ge_fz aK A0;refine B 6 ?_;refine aG ?_ ?_
 ·intro lS;refine B 5 ?_;obtain⟨bx,ox,csx,tx,frx,rfl,xE,anI,anJ⟩:=his.get aa;obtain⟨x,hxi⟩:=ng xs i aa;have hxm:=cO hxi;refine B 2 ?_;refine ay (.agg (CQ x)) ?_;refine B 1 ?_;refine yW ?_;intro UW anK anL;refine B 7 ?_;refine ay (.agg (dg x.g)) ?_;refine Bo (f:=92) (cap:=[ptr b3 0]) (v:=fnV (pP pls x.g)) rfl call92 rfl rfl rfl (λW hS=>ntj pls aa x.g W.heap.size pa xK b3 W (ak _) (hS.own (b3,_) A1) ((xL.mono jT).at hS.fzLies)) ?_;refine B 1 ?_;refine ay (.agg (kD ((pP pls x.g).getD Vw))) ?_;refine ay (.bool (pP pls x.g).isSome) ?_;refine B 1 ?_;refine yW ?_;intro pQ ajb ajc;refine B 5 ?_;cases LG:pP pls x.g with
  |none=>
   refine xp ?_;refine B 16 ?_;refine BV ?_;refine ag (((r,ds),F),i+1) ⟨by dsimp only;omega,aK,ah,by dsimp only;rw[CN hxi,aQ,Ss LG];simp,iE,by dsimp only;omega,dV,jT⟩
  |some p=>
   have Gt:=CU p (List.mem_of_find?_eq_some LG);refine B 2 ?_;refine ay cY ?_;refine B 1 ?_;refine ay (.agg (bD p.x)) ?_;refine ay (.agg (CQ x)) ?_;refine call (v:=ab (IU Z p.x.g x)) call40 rfl rfl rfl (λW hS=>nVo hZ p.x x (hii x hxm) W.heap.size W (ak _) ((Gt.1.x.mono jT).lies hS.fzLies) ((wM x hxm).up (by have:=(hS.links w A1).size;omega) (hS.same A1 hN zH zF)) (hg.old hS A1 zH zF) a0 a1 (hse.oldG hS A1 zH zF)) ?_;refine B 4 ?_;refine aG ?_ ?_
   ·intro kz;refine eS 10 4 [8,9] (pb:=by exact zU 3 (k:=by exact aU (nf call97 rfl rfl (λW hS _=>Zp _ W) (λ_=>rfl)) (zU 3 (k:=by exact aU (nf call97 rfl rfl (λW hS _=>Zp _ W) (λ_=>rfl)) zT)))) (sp:=[_,_,some (.agg (dg x.f)),_,_,_,some (.agg (dg x.g)),_,_,_]) (h:=?_);intro _ _ hk;refine IL ?_;intro bs rD hJ;refine zG ?_;intro _ _ hk;refine ay (.agg (uX (⟨[(bE (dk x.f))],(bE (dk x.g)),some ⟨bs,0,none⟩,1⟩:Dv))) ?_;refine zG ?_;intro _ _ hk;refine zge ?_;intro bo uJ hJ;refine zE ?_;refine kg (r:=r) (xs:=ds) (zs:=[(⟨[(bE (dk x.f))],(bE (dk x.g)),some ⟨bs,0,none⟩,1⟩:Dv)]) (enc:=hQ) (m:=36) (H0:=[(bo,oC (uX (⟨[(bE (dk x.f))],(bE (dk x.g)),some ⟨bs,0,none⟩,1⟩:Dv)) 142),(bs,oC (dh (bE (dk x.f))) 35),(pQ,oC (kD p) 92),(UW,oC (CQ x) 121),(b3,oC #[.slice pa pls.length xK] 89)]) (H1:=[]) zW nll FP rfl rfl rfl rfl (cd.one (z:=(⟨[(bE (dk x.f))],(bE (dk x.g)),some ⟨bs,0,none⟩,1⟩:Dv)) FP n8g underlying138 (bB.own (i:=0) rfl)) ah aK zI Au ?_;intro Z0 Z1 On Gu LH;replace Gu:=yb Gu;refine B 8 ?_;refine U0 ?_;refine PJ.fz [(bs,oC (dh (bE (dk x.f))) 35)] (H':=[(pQ,oC (kD p) 92),(UW,oC (CQ x) 121),(b3,oC #[.slice pa pls.length xK] 89)]++((Z0,aP hQ 142 (ds++[(⟨[(bE (dk x.f))],(bE (dk x.g)),some ⟨bs,0,none⟩,1⟩:Dv)]) On)::[])) (List.Perm.refl _) (by intro p hp;simp at hp;subst hp;exact rD) ?_
    refine BV ?_;refine ag (((Rw.row Z0 Z1 On,ds++[(⟨[(bE (dk x.f))],(bE (dk x.g)),some ⟨bs,0,none⟩,1⟩:Dv)]),(bs,oC (dh (bE (dk x.f))) 35)::F),i+1) ⟨by dsimp only;omega,Gu.elim (λh=>Rw.Fr_at aK h) (λh=>.inr h),LH,by dsimp only;rw[gz,aQ];rw[CN hxi,Su LG zyc];simp[gP],by dsimp only;exact nrm iE,by dsimp only;simp only[cy,dF,fh];omega,λq hq=>by rcases bX.1 hq with rfl|hq;(exact rD.mem w A1);exact dV q hq,λq hq=>.tail _ (jT q hq)⟩
   intro kz;refine Q8 ?_;refine ag (((r,ds),F),i+1) ⟨by dsimp only;omega,aK,ah,by dsimp only;rw[CN hxi,aQ,LD LG zyc];simp,iE,by dsimp only;omega,dV,jT⟩
 intro lS;refine B 12 ?_;have hi9:i=xs.length:=by omega
 rw[hi9,vS]at aQ;refine bK (.inl rfl) results47 aX λW hS=>?_;refine⟨ds,r,F,rfl,(hS.links w A1).below (λk hk hx=>by rcases hx with hx|hx;(exact hx);simp only[gz,dy,eV,ig,eL,eb,bX]at hx;rcases hx with hx|hx;(omega);have:=Rw.mem_ge bG hx;omega),Rw.ge_mono bG aa,ah,?_,λp hp=>⟨dV p hp,(hS.fzLies p hp).2,λhr=>?_⟩,?_,iE,by omega⟩
 ·cases r with
  |nil=>trivial
  |row b c sp=>exact hS.own (b,_) oW
 ·have h8:=Rw.mem_at (enc:=hQ) (t:=142) (xs:=ds) hr;obtain⟨q,hq,e⟩:=bW.1 h8;exact hS.apart q (by simp[hq]) (bW.2 ⟨p,hp,e.symm⟩)
 rw[aQ];unfold pw;rw[<-sa,List.flatMap_map]
section
variable {C:Cx} {Q:aY} {E:Env} {D:List Deferred} {G:Gh} {L:List World} {H:ad} {ops:Array Oper} {l:List Oper}
variable {d ty f:Nat} {pos:String} {aC:Array Edge} {g:Option (Nat×Bool)} {fx:Operand} {xo:List Operand} {vs first cap:List Value} {eC:Array Nat}
theorem nQi{α:Type}{v:α->Value}{ob:α->Obj}{Φ:α->Prop}{i b:Nat}{o:Obj}(hi:H[i]? =some (b,o))(hx:ev E fx=some (.func (.func f) first.toArray cap.toArray))(az:ew C.P f)(hw:nl ops E g=some true)(hN:Nat.blt d C.N=true)(ha:ja E xo=some vs)(hc:∀W,St G L H W->W.heap[b]? =some o->Calls C.P f (first++vs++cap).toArray W (λe w'=>∃z,e= .returned (v z)/\aH (· =b) W w'/\w'.heap[b]? =some (ob z)/\Φ z))(k:∀z,Φ z->OJ C ops Q l ((d,v z)::E) D G L (H.set i (b,ob z))):OJ C ops Q (⟨some d,.call ⟨.value fx,xo.toArray,eC⟩,ty,pos,aC,g⟩::l) E D G L H:=
 nI rfl hw hx ha zI az λa W jb hD hF hS=>(hc W hS (hS.own _ (cO hi))).mono (by
  rintro e W' ⟨z,rfl,hk,hb,hΦ⟩;exact k z hΦ (a.put (some d) (v z)) W' z6 z4 (hF.put _ z5) (hS.put hi hk hb))
end
theorem Gw{w:World}{b c:Nat}{o p:Obj}(h:w.heap[b]? =some o)(h2:w.heap[c]? =some p)(hne:b≠c):St (Gh.lent (λk=>k=b\/k=c)) [w] [(b,o),(c,p)] w where
 ghost:=trivial
 vlt:=λ_ h=>h.elim
 xlt:=λk hk=>by rcases hk with rfl|rfl;(exact(aT.1 h).1);exact(aT.1 h2).1
 links:=λw' hw=>by rw[ka.1 hw];exact aH.refl _ _
 own:=λq hq=>by
  simp only[bX,dE,or_false]at hq;rcases hq with rfl|rfl
  ·exact h
  exact h2
 nodup:=VA hne
 apart:=λ_ _ h=>h.elim
abbrev Kv:=List (Se×Bool)
def kB (kn:Kv) (s:Se):Bool:=(gE kn s).getD false
def iO (kn:Kv) (d:Dv):Bool:=kB kn d.to|| !(d.fr.any λs=> !kB kn s)
def gG (kn gv:Kv) (d:Dv):Kv:=if kB kn d.to=true then gv else if(d.fr.any λs=> !kB kn s)=true then gv else fK gv d.to true
theorem Z2{kn gv:Kv}{d:Dv}(h:kB kn d.to=true):true=iO kn d/\gv=gG kn gv d:=by unfold iO gG;rw[h];exact⟨rfl,(if_pos rfl).symm⟩
theorem Z3{kn gv:Kv}{d:Dv}(h:kB kn d.to=false)(h2:(d.fr.any λs=> !kB kn s)=true):false=iO kn d/\gv=gG kn gv d:=by
 unfold iO gG;rw[h,h2];exact⟨rfl,rfl⟩
theorem Z4{kn gv:Kv}{d:Dv}(h:kB kn d.to=false)(h2:(d.fr.any λs=> !kB kn s)=false):true=iO kn d/\fK gv d.to true=gG kn gv d:=by
 unfold iO gG;rw[h,h2];exact⟨rfl,rfl⟩
theorem SC(kn:Kv)(mk b5:Nat)(km:Mq)(B4:km.Ok kn)(w:World)(Cw:w.heap[b5]? =some (oC #[.map (some mk)] 137))(Z5:w.heap[mk]? =some (km.obj dq Value.bool kn))(s:Se):Calls prog 51 #[dq s,ptr b5 0] w (aL w (.bool (!kB kn s))):=by
 have cF:¬Gh.no.X b5:=λh=>h;have hb1:=Cw;have mr:=(aT.1 Cw).1;have Ix:=(aT.1 Z5).1;refine eN func51 ntmps51 ?_;refine B 2 ?_;refine yX ?_;intro b2 w2 di bV ff dB dx;refine B 5 ?_;refine rv rfl rfl rfl (av (v:=.map (some mk)) isAgg137 rfl A1 Cw cF True.intro rfl) ?_;refine ay (dq s) ?_;refine rq (.bool (kB kn s)) (qD (m:=km) (k:=s) underlying137 K9 zeroValue4 B4 (bB.old A1 Z5 zJ True.intro) rfl rfl) (nqh _) ?_;refine B 5 ?_;refine aF results51 rfl A1 ?_;rfl
theorem SD(kn:Kv)(mk b5:Nat)(km:Mq)(B4:km.Ok kn)(gB mg:Nat)(gm:Mq)(gv:Kv)(tK:gm.Ok gv)(d:Dv)(N:Nat)(w:World)(hN:N<=w.heap.size)(tC:∀b off,d.fa=some ⟨b,off,none⟩->b≠mg)(Cw:w.heap[b5]? =some (oC #[.map (some mk)] 137))(Z5:w.heap[mk]? =some (km.obj dq Value.bool kn))(aje:w.heap[gB]? =some (oC #[.map (some mg)] 137))(CV:w.heap[mg]? =some (gm.obj dq Value.bool gv))(aJ:ai dh 35 N w d.fa d.fr)(kp:d.fr.length<=1000)(n5:mg≠b5)(nk:mg≠mk)(n10:mg≠gB):Calls prog 49 #[.agg (uX d),ptr b5 0,ptr gB 0] w (λe w'=>e= .returned (.bool (iO kn d))/\∃u9:Mq,u9.Ok (gG kn gv d)/\aH (· =mg) w w'/\w'.heap[mg]? =some (u9.obj dq Value.bool (gG kn gv d))):=by
 have vm:=(aT.1 CV).1;refine nB (Gh.lent (· =mg)) [(mg,gm.obj dq Value.bool gv)] (vs:=[_,_,_]) func49 rfl ntmps49 rfl (Dy CV) ?_;refine B 2 ?_;refine yX ?_;intro b3 w3 cZ cu fC ez eP;refine B 6 ?_;refine rv rfl rfl rfl (av (v:=.map (some mk)) isAgg137 rfl A1 Cw (λh=>n5 h.symm) ⟨n5,trivial⟩ rfl) ?_;refine B 1 ?_;refine ay (dq d.to) ?_;refine rq (.bool (kB kn d.to)) (qD (m:=km) (k:=d.to) underlying137 K9 zeroValue4 B4 (bB.old A1 Z5 (λh=>nk h.symm) ⟨nk,trivial⟩) rfl rfl) (nqh _) ?_;refine B 2 ?_;refine aG ?_ ?_
 ·intro ar;refine B 7 ?_;have h9:=Z2 (gv:=gv) eE;exact zGg
 intro ar;refine B 6 ?_;refine ay (.slice d.fa d.fr.length d.fc) ?_;refine B 1 ?_;refine call (v:=.bool (d.fr.any λs=> !kB kn s)) call50 rfl rfl rfl (λW hS=>?_) ?_
 ·have u5:=hS.old A1 Cw (λh=>n5 h.symm) ⟨n5,trivial⟩;have uk:=hS.old A1 Z5 (λh=>nk h.symm) ⟨nk,trivial⟩;exact nKi (λs=> !kB kn s) 51 [ptr b5 0] call51 d.fr aa W.heap.size d.fa d.fc W (ak _) (aJ.toG hS A1 hN (λb off e=>.inr (λ_=>⟨λh=>tC b off e h,λh=>tC b off e h.symm,trivial⟩))) (λj x hx W2 hB=>SC kn mk b5 km B4 W2 (by rw[hB.block b5 (aT.1 u5).1];exact u5) (by rw[hB.block mk (aT.1 uk).1];exact uk) x)
 refine B 2 ?_;refine aG ?_ ?_
 ·intro aN;refine B 7 ?_;have h9:=Z3 (gv:=gv) eE eE;exact zGg
 intro aN;refine B 4 ?_;refine rv rfl rfl rfl (av (v:=.map (some mg)) isAgg137 rfl A1 aje (λh=>n10 h.symm) ⟨n10,trivial⟩ rfl) ?_;refine B 1 ?_;refine ay (dq d.to) ?_;refine Y0 (i:=0) (k:=d.to) (v:=true) rfl tK underlying137 K9 rfl rfl rfl rfl ?_;intro m2 bV;refine B 8 ?_;have h9:=Z4 (gv:=gv) eE eE;refine bK (.inl rfl) results49 aX λW hS=>⟨by rw[<-h9.1];rfl,m2,by rw[<-h9.2];exact bV,(hS.links w A1).mono λk _ hk=>?_,by rw[<-h9.2];exact hS.own _ A0⟩;exact zRg
def ku (st:Kv->Dv->Kv) (gv:Kv) (xs:List Dv) (n:Nat):Kv:=(xs.take n).foldl st gv
variable {st:Kv->Dv->Kv}
theorem Oo{gv:Kv}{xs:List Dv}{j:Nat}{x:Dv}(hx:xs[j]? =some x):ku st gv xs (j+1)=st (ku st gv xs j) x:=by unfold ku;rw[nq hx,Iu];rfl
theorem nag{gv:Kv}{xs:List Dv}{n:Nat}(h:xs.length<=n):ku st gv xs n=xs.foldl st gv:=by unfold ku;rw[jZ h]
def Pst (f:Nat) (cap:List Value) (p:Dv->Bool) (st:Kv->Dv->Kv) (Z:Nat->Prop) (mg:Nat) (xs:List Dv) (w:World):Prop:=
 ∀(j:Nat) (x:Dv),xs[j]? =some x->∀(W:World) (gm:Mq) (gv:Kv),gm.Ok gv->aH Z w W->W.heap[mg]? =some (gm.obj dq Value.bool gv)->Calls prog f (.agg (uX x)::cap).toArray W (λe w'=>e= .returned (.bool (p x))/\∃u9:Mq,u9.Ok (st gv x)/\aH (· =mg) W w'/\w'.heap[mg]? =some (u9.obj dq Value.bool (st gv x)))
def IxS (p:Dv->Bool) (st:Kv->Dv->Kv) (gv:Kv) (xs:List Dv) (z:Int×Mq×Nat):Prop:=
 z.2.1.Ok (ku st gv xs z.2.2)/\((z.1= -1/\z.2.2=xs.length/\xs.any p=false)\/∃(j:Nat) (x:Dv),z.1=(j:Int)/\z.2.2=j+1/\xs[j]? =some x/\p x=true/\gu p xs j)
theorem npg(p:Dv->Bool)(st:Kv->Dv->Kv)(f:Nat)(cap:List Value)(az:ew prog f)(xs:List Dv)(hxl:xs.length<=100000)(N:Nat)(a:Option Addr)(c:Nat)(w:World)(hN:N<=w.heap.size)(aJ:ai uX 36 N w a xs)(mg:Nat)(tC:∀b off,a=some ⟨b,off,none⟩->b≠mg)(gm:Mq)(gv:Kv)(tK:gm.Ok gv)(CV:w.heap[mg]? =some (gm.obj dq Value.bool gv))(hp:Pst f cap p st (· =mg) mg xs w):Calls prog 98 #[.slice a xs.length c,.func (.func f) #[] cap.toArray] w (λe w'=>∃z:Int×Mq×Nat,e= .returned (ab z.1)/\aH (· =mg) w w'/\w'.heap[mg]? =some (z.2.1.obj dq Value.bool (ku st gv xs z.2.2))/\IxS p st gv xs z):=by
 refine nB (Gh.lent (· =mg)) [(mg,gm.obj dq Value.bool gv)] (vs:=[_,_]) func98 rfl ntmps98 rfl (Dy CV) ?_;refine B 14 ?_;refine CJ.lp (α:=Mq×Nat) [0,1,7] (λq=>[(8,ab (q.2:Int))]) (λq=>[(mg,q.1.obj dq Value.bool (ku st gv xs q.2))]) (λq=>q.2<=xs.length/\q.1.Ok (ku st gv xs q.2)/\gu p xs q.2) (λq=>xs.length-q.2) (gm,0) ⟨cR _,tK,λi x hi=>absurd hi zS⟩ ?_;rintro⟨m1,j⟩ ⟨hj,cF,dZ⟩;dsimp only at hj cF dZ ⊢;refine B 6 ?_;refine aG ?_ ?_
 ·intro ar;refine B 11 ?_;obtain⟨bo,oo,cs0,to,fV,rfl,fP,cJ,aV⟩:=aJ.get aa;obtain⟨x,hx⟩:=ng xs j aa;refine B 5 ?_;refine rq (.agg (uX x)) (dT isAgg142 sizeOf142 rfl A0 cJ (λh=>tC bo oo rfl h) ⟨λh=>tC bo oo rfl h.symm,trivial⟩ (dH aV hx rfl)) (va (eU aV hx rfl)) ?_;refine nQi (i:=0) (b:=mg) (f:=f) (first:=[]) (cap:=cap) (α:=Mq) (v:=λ_=>.bool (p x)) (ob:=λz=>z.obj dq Value.bool (st (ku st gv xs j) x)) (Φ:=λz=>z.Ok (st (ku st gv xs j) x)) rfl rfl az rfl rfl rfl (λW hS hW=>(hp j x hx W m1 _ cF ((hS.links w A0).mono (λk _ hk=>by rcases hk with hk|hk;(exact hk);simpa using hk)) hW).mono ?_) ?_
  ·rintro e w' ⟨rfl,u9,h1,h2,h3⟩;exact⟨u9,rfl,h2,h3,h1⟩
  intro m2 bV;refine B 2 ?_;refine aG ?_ ?_
  ·intro aN;refine B 12 ?_;refine bK (.inl rfl) results98 aX λW hS=>⟨((j:Int),m2,j+1),rfl,(hS.links w A0).mono λk _ hk=>?_,?_,?_,?_⟩
   ·exact zRg
   ·rw[Oo hx];exact hS.own _ A0
   ·dsimp only;rw[Oo hx];exact bV
   exact .inr ⟨j,x,rfl,rfl,hx,by assumption,dZ⟩
  intro aN;refine B 7 ?_;refine PJ.again (m2,j+1) ⟨by dsimp only;omega,by dsimp only;rw[Oo hx];exact bV,dZ.next hx yN⟩ zS zR (by dsimp only;rw[Oo hx];rfl) rfl zI
 intro ar;refine B 11 ?_;refine bK (.inl rfl) results98 aX λW hS=>⟨(-1,m1,xs.length),rfl,(hS.links w A0).mono λk _ hk=>?_,?_,?_,?_⟩
 ·exact zRg
 ·rw[show xs.length=j by omega];exact hS.own _ A0
 ·dsimp only;rw[show xs.length=j by omega];exact cF
 exact .inl ⟨rfl,rfl,nnd dZ aa⟩
theorem nsj(p:Dv->Bool)(st:Kv->Dv->Kv)(f:Nat)(cap:List Value)(az:ew prog f)(xs:List Dv)(hxl:xs.length<=100000)(b cp:Nat)(sp:List Value)(w:World)(hb:w.heap[b]? =some (aP hQ 142 xs sp))(bM:(Rw.row b cp sp).Fit 36 xs)(mg:Nat)(Lq:b≠mg)(gm:Mq)(gv:Kv)(tK:gm.Ok gv)(CV:w.heap[mg]? =some (gm.obj dq Value.bool gv))(hp:Pst f cap p st (λk=>k=b\/k=mg) mg xs w):Calls prog 48 #[.slice (ao b) xs.length cp,.func (.func f) #[] cap.toArray] w (λe w'=>∃(bT:List Value) (u9:Mq),e= .returned ((Rw.row b cp bT).val (xs.filter (λx=> !p x)).length)/\aH (λk=>k=b\/k=mg) w w'/\(Rw.row b cp bT).Fit 36 (xs.filter (λx=> !p x))/\w'.heap[b]? =some (aP hQ 142 (xs.filter (λx=> !p x)) bT)/\u9.Ok (xs.foldl st gv)/\w'.heap[mg]? =some (u9.obj dq Value.bool (xs.foldl st gv))):=by
 have iq:=bM.1;have eG:=bM.2;have jl:=(aT.1 hb).1;have vm:=(aT.1 CV).1;refine nB (Gh.lent (λk=>k=b\/k=mg)) [(b,aP hQ 142 xs sp),(mg,gm.obj dq Value.bool gv)] (vs:=[_,_]) func48 rfl ntmps48 rfl (Gw hb CV Lq) ?_;refine B 9 ?_;refine nQi (i:=1) (b:=mg) (f:=98) (first:=[]) (cap:=[]) (α:=Int×Mq×Nat) (v:=λz=>ab z.1) (ob:=λz=>z.2.1.obj dq Value.bool (ku st gv xs z.2.2)) (Φ:=IxS p st gv xs) rfl rfl call98 rfl rfl rfl (λW hS hW=>?_) ?_
 ·have yY:=hS.own (b,_) A0;have jr:ai uX 36 W.heap.size W (ao b) xs:=by
   obtain⟨a9,c9,e9,h9⟩:=(Rw.row b cp sp).sl (enc:=hQ) (t:=142) (N:=W.heap.size) (w:=W) FP bM yY (ak _);exact zih
  exact npg p st f cap az xs hxl W.heap.size (ao b) cp W (ak _) jr mg (λb9 off e=>by cases e;exact Lq) gm gv tK hW (λj x hx W2 gm2 gv2 h1 h2 h3=>hp j x hx W2 gm2 gv2 h1 (((hS.links w A0).mono (λk _ hk=>by rcases hk with hk|hk;(exact hk);simpa using hk)).trans (h2.mono (λk _ hk=>.inr hk))) h3)
 intro z hi;refine B 5 ?_;rcases hi.2 with⟨gK,ff,rm⟩|⟨k,x0,gK,ff,sH,U6,qA⟩
 ·obtain⟨zi,m1,zn⟩:=z;dsimp only at hi gK ff ⊢;subst gK;subst ff;have cF:=hi.1;dsimp only at cF;refine B 2 ?_;refine KH ?_;exact bK (.inl rfl) results48 aX λW hS=>⟨sp,m1,by rw[KG rm];rfl,(hS.links w A0).mono (λk _ hk=>by rcases hk with hk|hk;(exact hk);simpa using hk),by rw[KG rm];exact bM,by rw[KG rm];exact hS.own _ A0,by rw[<-nag (ak _)];exact cF,by rw[<-nag (ak _)];exact hS.own _ A1⟩
 obtain⟨zi,m1,zn⟩:=z;dsimp only at hi gK ff ⊢;subst gK;subst ff;have cF:=hi.1;dsimp only at cF;refine xp ?_;refine B 7 ?_;have vo:=nr sH;refine B 7 ?_;refine CJ.lp (α:=((Nat×List Dv)×Mq)×Nat) [0,1] (λp9=>[(5,ab (p9.1.1.1:Int)),(6,ab (p9.2:Int))]) (λp9=>[(b,aP hQ 142 p9.1.1.2 sp),(mg,p9.1.2.obj dq Value.bool (ku st gv xs p9.2))]) (λp9=>p9.1.1.1<p9.2/\p9.2<=xs.length/\p9.1.1.2.length=xs.length/\p9.1.1.2.take p9.1.1.1=(xs.take p9.2).filter (λx=> !p x)/\p9.1.1.2.drop p9.2=xs.drop p9.2/\p9.1.2.Ok (ku st gv xs p9.2)) (λp9=>xs.length-p9.2) (((k,xs),m1),k+1) ⟨by dsimp only;omega,by dsimp only;omega,rfl,by dsimp only;rw[QZ sH,if_pos U6,nrg qA,eb],rfl,cF⟩ ?_;rintro⟨⟨⟨i2,cur⟩,m3⟩,j⟩ ⟨uz,sF,lP,wh,yZ,cu⟩;dsimp only at uz sF lP wh yZ cu ⊢;refine B 9 ?_;refine aG ?_ ?_
 ·intro ar;refine B 5 ?_;obtain⟨x,hx⟩:=ng xs j aa;obtain⟨vt,rn⟩:=YD yZ hx;refine B 4 ?_;refine rq (.agg (uX x)) (fj (i:=0) rfl isAgg142 sizeOf142 rfl (Q1 FP aa)) (va (Q0 (sp:=sp) FP vt)) ?_;refine B 1 ?_;refine yW ?_;intro b7 jN vN;refine B 7 ?_;refine nQi (i:=2) (b:=mg) (f:=f) (first:=[]) (cap:=cap) (α:=Mq) (v:=λ_=>.bool (p x)) (ob:=λz=>z.obj dq Value.bool (st (ku st gv xs j) x)) (Φ:=λz=>z.Ok (st (ku st gv xs j) x)) rfl rfl az rfl rfl rfl (λW hS hW=>(hp j x hx W m3 _ cu ((hS.links w A0).mono (λk Jd hk=>by rcases hk with hk|hk;(exact hk);(simp at hk;first|exact hk|(rcases hk with hk|hk;(exfalso;omega);exact hk)))) hW).mono ?_) ?_
  ·rintro e w' ⟨rfl,u9,h1,h2,h3⟩;exact⟨u9,rfl,h2,h3,h1⟩
  intro m2 bV;refine B 3 ?_;refine aG ?_ ?_
  ·intro aN;refine B 6 ?_;refine KI (enc:=hQ) (m:=36) (i:=1) (j:=i2) (z:=x) rfl FP n8g sizeOf142 rfl rfl rfl zI aa rfl rfl ?_;refine B 14 ?_;refine p5 ?_;refine PJ.again (((i2+1,cur.set i2 x),m2),j+1) ⟨by dsimp only;omega,by dsimp only;omega,by dsimp only;rw[List.length_set];exact lP,by dsimp only;rw[nYc aa,wh,QZ hx,if_neg yN],by dsimp only;rw[nQd aa];exact rn,by dsimp only;rw[Oo hx];exact bV⟩ zS zR (by dsimp only;rw[Oo hx];rfl) rfl zI
  intro aN;refine B 8 ?_;refine p5 ?_;refine PJ.again (((i2,cur),m2),j+1) ⟨by dsimp only;omega,by dsimp only;omega,lP,by dsimp only;rw[wh,QZ hx,if_pos yN,eb],rn,by dsimp only;rw[Oo hx];exact bV⟩ zS zR (by dsimp only;rw[Oo hx];rfl) rfl zI
 intro ar;refine B 6 ?_;have y4:j=xs.length:=by omega
 have kp:cur.take i2=(xs.filter (λx=> !p x)):=by rw[wh,y4,vS]
 refine B 3 ?_;refine rq (.slice (some ⟨b,if cp=i2 then 0 else 0+i2*36,none⟩) (cur.drop i2).length (cp-i2)) (fZ (l:=i2) (h:=xs.length) underlying138 sizeOf142 rfl ⟨_,_,rfl,rfl⟩ rfl aa aa rfl) (by rw[BF,lP]) ?_;refine OJ.reH (H':=[(b,aP hQ 142 (cur.take i2++cur.drop i2) sp),(mg,m3.obj dq Value.bool (ku st gv xs j))]) (by rw[AB]) ?_;refine AD (i:=0) rfl FP underlying138 zeroValue142 rfl (n8e rfl _) rfl rfl zpb ?_;intro Q2 y6;refine B 6 ?_;refine rq (.slice (ao b) (cur.take i2).length cp) (fE (h:=i2) underlying138 sizeOf142 rfl ⟨_,_,rfl,rfl⟩ aa) YE ?_;refine B 4 ?_;exact bK (.inl rfl) results48 aX λW hS=>⟨Q2,m3,by rw[<-kp];rfl,(hS.links w A0).mono (λk _ hk=>by rcases hk with hk|hk;(exact hk);simpa using hk),by rw[<-kp];exact⟨by rw[lb];omega,by rw[y6,BF,lb,eG,Nat.min_eq_left aa,lP,<-pK];congr 1;omega⟩,by rw[<-kp];exact hS.own _ A0,by rw[<-nag (ak _),<-y4];exact cu,by rw[<-nag (ak _),<-y4];exact hS.own _ A1⟩
theorem nLj(p:Dv->Bool)(st:Kv->Dv->Kv)(f:Nat)(cap:List Value)(az:ew prog f)(w:World)(mg:Nat)(gm:Mq)(gv:Kv)(tK:gm.Ok gv)(CV:w.heap[mg]? =some (gm.obj dq Value.bool gv)):Calls prog 48 #[aj,.func (.func f) #[] cap.toArray] w (λe w'=>∃(u9:Mq),e= .returned (aj)/\aH (λk=>k=mg) w w'/\u9.Ok gv/\w'.heap[mg]? =some (u9.obj dq Value.bool gv)):=by
 refine nB (Gh.lent (· =mg)) [(mg,gm.obj dq Value.bool gv)] (vs:=[_,_]) func48 rfl ntmps48 rfl (Dy CV) ?_;refine B 9 ?_;refine nQi (i:=0) (b:=mg) (f:=98) (first:=[]) (cap:=[]) (α:=Int×Mq×Nat) (v:=λz=>ab z.1) (ob:=λz=>z.2.1.obj dq Value.bool (ku st gv [] z.2.2)) (Φ:=IxS p st gv []) rfl rfl call98 rfl rfl rfl (λW hS hW=>?_) ?_
 ·exact npg p st f cap az [] zI 0 none 0 W (cR _) (.inl rfl) mg (λb off e=>by cases e) gm gv tK hW (λj x hx=>by simp at hx)
 intro z hi;obtain⟨zi,m1,zn⟩:=z;have hz:=hi.2.resolve_right (by rintro⟨j,x,_,_,h,_⟩;simp at h);dsimp only at hz ⊢;obtain⟨rfl,rfl,_⟩:=hz;have cF:=hi.1;dsimp only at cF;refine B 7 ?_;refine KH ?_;exact bK (.inl rfl) results48 aX λW hS=>⟨m1,rfl,(hS.links w A0).mono (λk _ hk=>by rcases hk with hk|hk;(exact hk);simpa using hk),cF,hS.own _ A0⟩
def Gx (D0:List (List Se×Se)) (L0 ls:List Se):Prop:=∀(i:Nat) (s:Se),ls[i]? =some s->s∈L0\/∃d∈D0,d.2=s/\∀f∈d.1,f∈ls.take i
def wO (s:Se):Prop:=er (fX s.com)
structure lk (D0:List (List Se×Se)) (L0:List Se) (lim:Nat) (ls:List Se):Prop where
 ord:Gx D0 L0 ls
 nd:(∀s∈L0,wO s)->ls.Nodup
 l0:∀s∈L0,s∈ls
 cl:∀d∈D0,(∀f∈d.1,f∈ls)->d.2∈ls
 ln:ls.length<=lim
 pf:cN L0 <+:ls
structure LI where
 lv:Value
 kn:Kv
 km:Mq
 r1:Rw
 acc:List Se
 r3:Rw
 mo:List Se
 r2:Rw
 ds:List Dv
structure LJ (D0:List (List Se×Se)) (L0:List Se) (v0:Value) (F:ad) (lim:Nat) (x:LI):Prop where
 k:∀s,kB x.kn s=true↔s∈x.acc
 k0:x.kn=[]->x.acc=[]/\x.r1= .nil/\x.lv=v0/\x.mo=cN L0
 k1:x.kn≠ []->x.lv=x.r1.val x.acc.length
 ord:Gx D0 L0 (x.acc++x.mo)
 nd:(∀s∈L0,wO s)->(x.acc++x.mo).Nodup
 l0:∀s∈L0,s∈x.acc++x.mo
 dr:∀d∈D0,(∃y∈x.ds,gP y=d)\/d.2∈x.acc++x.mo
 rs:∀y∈x.ds,gP y∈D0/\¬∀f∈y.fr,f∈x.acc
 df:∀y∈x.ds,xI F y
 ln:x.acc.length+x.mo.length+x.ds.length<=lim
 pf:cN L0 <+:x.acc++x.mo
def LI.mu (x:LI):Nat:=x.ds.length+if x.mo=[]then 0 else 1
theorem Gx.app{a b:List Se}(h:Gx D0 L0 a)(hb:∀s∈b,s∈L0\/∃d∈D0,d.2=s/\∀f∈d.1,f∈a):Gx D0 L0 (a++b):=by
 intro i s hs;by_cases hi:i<a.length
 ·rw[SE hi]at hs;rcases h i s hs with h1|⟨d,h1,h2,h3⟩
  ·exact .inl h1
  refine .inr ⟨d,h1,h2,λf hf=>?_⟩;rw[List.take_append_of_le_length aa];exact h3 f hf
 rw[Z6 aa]at hs;rcases hb s (cO hs)with h1|⟨d,h1,h2,h3⟩
 ·exact .inl h1
 refine .inr ⟨d,h1,h2,λf hf=>?_⟩;rw[List.take_append];exact bj.2 (.inl (by rw[jZ aa];exact h3 f hf))
def iy (kn:Kv) (mo:List Se):Kv:=mo.foldl (λk s=>fK k s true) kn
theorem nim{kn:Kv}{mo:List Se}{j:Nat}{s:Se}(h:mo[j]? =some s):iy kn (mo.take (j+1))=fK (iy kn (mo.take j)) s true:=by unfold iy;rw[nq h,Iu];rfl
theorem nOj(s:Se):∀(mo:List Se) (kn:Kv),kB (iy kn mo) s=true↔s∈mo\/kB kn s=true
 | [],kn=>by simp[iy]
 |x::mo,kn=>by
  have ih:=nOj s mo (fK kn x true);show kB (iy (fK kn x true) mo) s=true↔_;rw[ih];unfold kB;rw[Gy];by_cases e:s=x
  ·simp[e]
  simp[e]
theorem SF{mo:List Se}{kn:Kv}(h:mo≠ []):iy kn mo≠ []:=by
 intro he;cases mo with
 |nil=>exact h rfl
 |cons x l=>
  have:=(nOj x (x::l) kn).2 (.inl A0);rw[he]at this;simp[kB,gE,eR]at this
theorem SG(kn:Kv)(s:Se):∀(xs:List Dv) (gv:Kv),s∈(xs.foldl (gG kn) gv).map (·.1)↔s∈gv.map (·.1)\/∃d∈xs,d.to=s/\kB kn d.to=false/\(d.fr.any λf=> !kB kn f)=false:=
 by intro x;induction x<;>(intros;grind [gG,kB,n8j])
theorem GA(kn:Kv):∀(xs:List Dv) (gv:Kv),(gv.map (·.1)).Nodup->((xs.foldl (gG kn) gv).map (·.1)).Nodup:=
 by intro x;induction x<;>(intros;grind [gG,n8f])
theorem GB(l:Kv)(s:Se):(fK l s true).length<=l.length+1:=by unfold fK;split<;>simp
theorem GC(kn:Kv):∀(xs:List Dv) (gv:Kv),(xs.foldl (gG kn) gv).length+(xs.filter (λd=> !iO kn d)).length<=gv.length+xs.length:=
 by intro x;induction x<;>(intros;grind [gG,iO,kB,GB])
theorem LJ.step{v0:Value}{F:ad}{lim:Nat}{x:LI}(h:LJ D0 L0 v0 F lim x)(hm:x.mo≠ []){km':Mq}{r1' r2' r3':Rw}{ys:List Se}(hy:ys.Perm ((x.ds.foldl (gG (iy x.kn x.mo)) []).map (·.1))):LJ D0 L0 v0 F lim ⟨r1'.val (x.acc++x.mo).length,iy x.kn x.mo,km',r1',x.acc++x.mo,r3',gF ys,r2',x.ds.filter (λd=> !iO (iy x.kn x.mo) d)⟩/\LI.mu ⟨r1'.val (x.acc++x.mo).length,iy x.kn x.mo,km',r1',x.acc++x.mo,r3',gF ys,r2',x.ds.filter (λd=> !iO (iy x.kn x.mo) d)⟩<x.mu:=by
 have hk:∀s,kB (iy x.kn x.mo) s=true↔s∈x.acc++x.mo:=λs=>by rw[nOj,bj,h.k s];exact Or.comm
 have SH:∀s,kB (iy x.kn x.mo) s=false↔s∉x.acc++x.mo:=λs=>by rw[<-hk s];simp
 have xl:∀s,s∈gF ys↔∃d∈x.ds,d.to=s/\s∉x.acc++x.mo/\∀f∈d.fr,f∈x.acc++x.mo:=λs=>by
  rw[nXh,hy.mem_iff,SG];constructor
  ·rintro(h1|⟨d,h1,h2,h3,h4⟩)
   ·simp at h1
   refine⟨d,h1,h2,h2▸(SH _).1 h3,λf hf=>(hk f).1 ?_⟩;have:=List.any_eq_false.1 h4 f hf;simpa using this
  rintro⟨d,h1,h2,h3,h4⟩;refine .inr ⟨d,h1,h2,(SH _).2 (h2.symm▸h3),List.any_eq_false.2 λf hf=>?_⟩;simp[(hk f).2 (h4 f hf)]
 have Io:(gF ys).length+(x.ds.filter (λd=> !iO (iy x.kn x.mo) d)).length<=x.ds.length:=by
  have h1:=GC (iy x.kn x.mo) x.ds [];have h2:=hy.length_eq;rw[Lc];simp only[eQ,fh]at h1 h2;omega
 have kp:∀y,y∈x.ds.filter (λd=> !iO (iy x.kn x.mo) d)↔y∈x.ds/\y.to∉x.acc++x.mo/\¬∀f∈y.fr,f∈x.acc++x.mo:=λy=>by
  rw[uU];unfold iO;refine and_congr_right λ_=>?_;rw[Bool.not_or,oS,Bool.not_not,List.any_eq_true,Bool.not_eq_true',SH];refine and_congr_right λ_=>?_;simp only[Bool.not_eq_true',SH];constructor
  ·rintro⟨f,h1,h2⟩ h3;exact h2 (h3 f h1)
  intro h3;apply Classical.byContradiction;intro h4;exact h3 λf hf=>Classical.byContradiction λh5=>h4 ⟨f,hf,h5⟩
 refine⟨⟨hk,λhe=>absurd he (SF hm),λ_=>rfl,?_,λhB=>?_,λs hs=>bj.2 (.inl (h.l0 s hs)),λd hd=>?_,λy hy=>?_,λy hy=>h.df y ((kp y).1 hy).1,?_,h.pf.trans (List.prefix_append _ _)⟩,?_⟩
 ·refine h.ord.app λs hs=>?_;obtain⟨d,h1,h2,h3,h4⟩:=(xl s).1 hs;exact .inr ⟨gP d,(h.rs d h1).1,h2,h4⟩
 ·dsimp only;rw[List.nodup_append];refine⟨h.nd hB,((U7 CO.ord.swo ys).trans hy).nodup_iff.2 (GA _ _ _ zI),?_⟩;intro a ha b hb e;subst e;exact((xl a).1 hb).choose_spec.2.2.1 ha
 ·dsimp only;by_cases hc:d.2∈x.acc++x.mo
  ·exact .inr (bj.2 (.inl hc))
  rcases h.dr d hd with⟨y,h1,h2⟩|h1
  ·by_cases hp:∀f∈y.fr,f∈x.acc++x.mo
   ·refine .inr (bj.2 (.inr ((xl _).2 ⟨y,h1,by rw[<-h2];rfl,hc,hp⟩)))
   exact .inl ⟨y,(kp y).2 ⟨h1,by rw[show y.to=d.2 from(by rw[<-h2];rfl)];exact hc,hp⟩,h2⟩
  exact absurd h1 hc
 ·exact⟨(h.rs y ((kp y).1 hy).1).1,((kp y).1 hy).2.2⟩
 ·dsimp only;have:=h.ln;rw[cy];omega
 unfold LI.mu;dsimp only;rw[if_neg hm];split<;>rename_i he
 ·omega
 have:0<(gF ys).length:=Z7.2 he;omega
theorem LJ.end_{v0:Value}{F:ad}{lim:Nat}{x:LI}(h:LJ D0 L0 v0 F lim x)(hm:x.mo=[]):lk D0 L0 lim x.acc:=by
 have e:x.acc++x.mo=x.acc:=by rw[hm,eb]
 have h1:=h.ord;have h2:=h.nd;have h3:=h.l0;have h4:=h.dr;have h5:=h.ln
 rw[e]at h1 h2 h3;refine⟨h1,h2,h3,λd hd hp=>?_,by omega,by have h6:=h.pf;rwa[e]at h6⟩;rcases h4 d hd with⟨y,g1,g2⟩|g
 ·exact absurd (by rw[<-g2]at hp;exact hp) (h.rs y g1).2
 rw[e]at g;exact g
theorem GD(a:Ap):∀d∈lH a,d.1.length<=2:=by
 intro d hd;unfold lH at hd;have hT:∀j,∀d∈lG a j,d.1.length<=2:=by
  intro j;induction j with
  |zero=>intro d hd;simp[lG]at hd
  |succ j ih=>
   intro d hd;unfold lG at hd;split at hd
   ·exact ih d hd
   rcases bj.1 hd with hd|hd
   ·exact ih d hd
   unfold Ls at hd;rcases bX.1 hd with rfl|hd
   ·simp
   split at hd
   ·rw[ka.1 hd];simp
   cases hd
 all_goals grind [FQ,Oh,Lt]
theorem GF{cs:List Cm}{fos:List Fo}{gs:List Gr}{xs:List Ir}(d:List Se×Se)(hd:d∈pw Z cs fos gs xs):d.1.length<=2:=by
 unfold pw at hd;simp only[bj]at hd;all_goals grind [GD,CT,LC,IW]
theorem GG:∀{l:List Int},wG l=0->∀x∈l,x=0:=
 by intro x;induction x<;>(intros;grind [wG])
theorem ntk:∀{a b:List UInt8},Go.Lib.compareBytes a b=0->a=b
 | [],[],_=>rfl
 | [],_::_,h=>by simp[Go.Lib.compareBytes]at h
 |_::_,[],h=>by simp[Go.Lib.compareBytes]at h
 |x::a,y::b,h=>by
  unfold Go.Lib.compareBytes at h;split at h
  ·cases h
  split at h
  ·cases h
  rename_i h1 h2;rw[ntk h];have:x=y:=UInt8.le_antisymm (UInt8.not_lt.1 h2) (UInt8.not_lt.1 h1);rw[this]
theorem SI{f g:Nat->Int}(h:∀i,i<32->f i=g i):dk f=dk g:=by
 apply Subtype.ext;show[f 0,f 1,f 2,f 3,f 4,f 5,f 6,f 7,f 8,f 9,f 10,f 11,f 12,f 13,f 14,f 15,f 16,f 17,f 18,f 19,f 20,f 21,f 22,f 23,f 24,f 25,f 26,f 27,f 28,f 29,f 30,f 31]=[g 0,g 1,g 2,g 3,g 4,g 5,g 6,g 7,g 8,g 9,g 10,g 11,g 12,g 13,g 14,g 15,g 16,g 17,g 18,g 19,g 20,g 21,g 22,g 23,g 24,g 25,g 26,g 27,g 28,g 29,g 30,g 31];simp[h]
theorem nlk{x y:Se}(hx:wO x)(hy:wO y)(h:lF x y=0):x=y:=by
 have h1:=GG h;have a:=h1 (de x.kind y.kind) zI;have b:=h1 (de x.pub y.pub) zI;have c:=ntk (h1 (Go.Lib.compareBytes (cx (fX x.com)) (cx (fX y.com))) zI);have d:=h1 (de x.lev y.lev) zI;have e:∀{p q:Int},de p q=0->p=q:=λ{p q} h=>by unfold de at h;split at h;(cases h);split at h;(cases h);omega
 have f:x.com=y.com:=by
  rw[<-K8 x.com,<-K8 y.com];exact SI λi hi=>by rw[<-Uw _ hx i hi,<-Uw _ hy i hi,c]
 cases x;cases y
 all_goals grind
theorem nGh{α:Type}[Inhabited α]{cf:α->α->Int}(hO:CO cf)(xs:List α):∀(i j:Nat) (x y:α),i<j->(gM cf xs)[i]? =some x->(gM cf xs)[j]? =some y->cf x y<=0:=by
 intro i j x y uz hx hy;have h:=(Go.Sort.pdq_sorts (ltOf cf) hO.swo xs.toArray 0 xs.toArray.size (Lib.bitLen xs.toArray.size) true true (cR _) (ak _) (Or.inl rfl)).2;have Cn:=nr hy;have hl:=(U7 hO.swo xs).length_eq;have h2:=h i j (cR _) uz (by rw[qx];omega);unfold gM at hx hy;rw[NS]at hx hy;have e:∀{k:Nat} {z:α} {d:Array α},d[k]? =some z->d[k]! =z:=λ{k z d} hk=>by obtain⟨h3,h4⟩:=aT.1 hk;rw[getElem!_pos d k h3];exact h4
 rw[e hx,e hy]at h2;simp only[ltOf,decide_eq_false_iff_not]at h2;have:=hO.anti x y;omega
theorem nnk{xs:List Se}(hs:∀(i j:Nat) (x y:Se),i<j->xs[i]? =some x->xs[j]? =some y->lF x y<=0)(hB:∀s∈xs,wO s):∀j,(me xs j).Nodup
 |0=>List.nodup_nil
 |j+1=>by
  have ih:=nnk hs hB j;unfold me;split
  ·exact ih
  rename_i x hx;split
  ·exact ih
  rename_i hn;rw[List.nodup_append];refine⟨ih,by simp,?_⟩;intro a ha b hb e;rw[ka]at hb;subst hb;subst e;rw[nbj]at ha;obtain⟨i,hi⟩:=kA.1 ha;have lB:=nr hi;rw[lb]at lB;rw[QS aa]at hi;have Of:0<j:=by omega
  obtain⟨y,hy⟩:=ng xs (j-1) UH;have h1:=hs (j-1) j y a aa hy hx;have h2:lF a y<=0:=by
   by_cases e:i=j-1
   ·subst e;rw[hy]at hi;cases hi;have:=CO.ord.anti a a;omega
   exact hs i (j-1) a y aa hi hy
  have h3:=CO.ord.anti a y;have h4:=nlk (hB _ (cO hy)) (hB _ (cO hx)) (show lF y a=0 by omega);exact hn ⟨Of,by rw[hy,h4]⟩
theorem Z8{l:List Se}(hB:∀s∈l,wO s):(cN l).Nodup:=nnk (λi j x y h1 h2 h3=>nGh CO.ord l i j x y h1 h2 h3) (λs hs=>hB s ((nXh l s).1 hs)) _
theorem LJ.init{v0:Value}{F:ad}{lim:Nat}{km:Mq}{r2 r3:Rw}{ds:List Dv}(hm:ds.map gP=D0)(hd:∀d∈ds,xI F d)(hl:(cN L0).length+ds.length<=lim):LJ D0 L0 v0 F lim ⟨v0,[],km,.nil,[],r3,cN L0,r2,ds⟩:=by
 refine⟨λs=>by simp[kB,gE,eR],λ_=>⟨rfl,rfl,rfl,rfl⟩,λh=>absurd rfl h,λi s hs=>.inl ?_,λhB=>Z8 hB,λs hs=>(CK _ _).2 hs,λd hd=>.inl ?_,λy hy=>⟨hm▸bW.2 ⟨y,hy,rfl⟩,λh=>?_⟩,hd,by simpa using hl,List.prefix_rfl⟩
 ·exact(CK _ _).1 (cO (by simpa using hs))
 ·rw[<-hm]at hd;obtain⟨y,h1,h2⟩:=bW.1 hd;exact⟨y,h1,h2⟩
 cases hf:y.fr with
 |nil=>exact(hd y hy).ne hf
 |cons f l=>have:=h f (by rw[hf];exact .head _);simp at this
theorem Oq{α:Type}(p q:α)(l R:List α):(p::q::(l++(R++[]))).Perm ((R++[q])++(p::l)):=by
 rw[eb];refine(List.perm_append_comm (l₁:=p::q::l) (l₂:=R)).trans ?_;rw[iY];exact List.Perm.append_left R (List.Perm.swap q p l)
theorem Z9{α:Type}(k a m p q c d:α)(R3 R2:List α):(R3++(k::a::m::p::q::c::d::(R2++[]))).Perm (k::a::m::d::p::q::c::(R3++(R2++[]))):=by
 have h1:(R3++(k::a::m::p::q::c::d::(R2++[]))).Perm ((k::a::m::p::q::c::[d])++(R3++(R2++[]))):=List.perm_append_comm_assoc R3 (k::a::m::p::q::c::[d]) (R2++[]);refine h1.trans ?_;show([k,a,m,p,q,c,d]++(R3++(R2++[]))).Perm ([k,a,m,d,p,q,c]++(R3++(R2++[])));refine List.Perm.append_right _ ?_;refine List.Perm.cons k (List.Perm.cons a (List.Perm.cons m ?_));exact(List.perm_append_comm (l₁:=[p,q,c]) (l₂:=[d]))
theorem cd.ownO{C:Cx}{G:Gh}{H:ad}{α:Type}{enc:α->List Value}{m tx e' b t c:Nat}{zs:List α}{sp:List Value}(hm:∀x,(enc x).length=m)(h1:∀x,∀u∈enc x,u.oneCell'=true)(hU:C.P.underlying tx=some (.slice e'))(hb:(b,aP enc t zs sp)∈H):cd C G L H enc m tx (.slice (ao b) zs.length c) zs:=
 cd.at hm h1 hU (λW hS=>hS.own _ hb) (by simp[nW hm]) (by
  simp only[SJ];rw[<-nW hm zs];exact List.take_left)
theorem LK{C:Cx}{G:Gh}{H:ad}{E:Env}{x:Operand}{α:Type}{xs:List α}{m t e:Nat}{r:Rw}(hU:C.P.underlying t=some (.slice e))(hr:r.Fit m xs)(hx:ev E x=some (r.val xs.length)):RV C G L H E (.call ⟨.builtin .len,#[x],#[t]⟩) (ab (xs.length:Int)):=by
 cases r with
 |nil=>
  have h0:xs=[]:=hr;subst h0;exact i6 hU hx
 |row b c sp=>exact i6 hU hx
theorem nmp(hZ:FxOk Z)(cs:List Cm)(cJ:cs.length<=1000)(dC:∀c∈cs,bO c)(N:Nat)(la:Option Addr)(lc:Nat)(w:World)(hN:N<=w.heap.size)(aJ:ai cG 73 N w la cs)(hC:∀c∈cs,du N w c)(fa:Option Addr)(fos:List Fo)(fc:Nat)(kp:fos.length<=10)(lP:cs.length<=10)(rD:ai sT 33 N w fa fos)(ga:Option Addr)(gs:List Gr)(gc:Nat)(Ui:gs.length<=10)(hgs:ai vB 39 N w ga gs)(Sx:∀g∈gs,pr g)(hgA:∀g∈gs,rK N w g)(ia:Option Addr)(xs:List Ir)(ic:Nat)(lB:xs.length<=10)(his:ai CQ 68 N w ia xs)(hii:∀x∈xs,jM x)(wM:∀x∈xs,gy N w x.ba x.body)(o1 o5 o6 o7:Value)(hg:Glb w)(a0 a1:Addr)(hse:Sen w a0 a1)(qa:Option Addr)(L0:List Se)(qc:Nat)(VB:L0.length<=50000)(SK:ai dh 35 N w qa L0):Calls prog 26 #[.agg #[.slice fa fos.length fc,o1,.slice la cs.length lc,.slice ga gs.length gc,.slice ia xs.length ic,o5,o6,o7],.slice qa L0.length qc] w (cK w (λq:(Option Addr×Nat)×List Se=>.slice q.1.1 q.2.length q.1.2) (λq w1=>ai dh 35 w1.heap.size w1 q.1.1 q.2/\lk (pw Z cs fos gs xs) L0 71000 q.2/\q.2.length<=q.1.2)):=by
 have hg4:=hg.lt;refine nB (dL []) [] (vs:=[_,_]) func26 rfl ntmps26 rfl (NU w) ?_;refine B 2 ?_;refine yX ?_;intro b2 w2 di bV ff dB dx;refine B 5 ?_;refine KV dq Value.bool rfl rfl ?_;intro gR yq Dq;replace yq:=yb yq;refine B 1 ?_;refine yW ?_;intro b5 sq su;refine B 5 ?_;refine zte ?_;refine nkn (H0:=[(b5,oC #[.map (some gR)] 137),(gR,(Mq.mk [] 0).obj dq Value.bool ([]:Kv))]) (H1:=[]) (r:=.nil) (xs:=([]:List Dv)) (enc:=hQ) (m:=36) (t:=142) (γ:=List Dv) (ys:=λz=>z) (v:=λz r'=>r'.val z.length) (Φ:=λF' z=>z.map gP=(pw Z cs fos gs xs)/\(∀d∈z,xI F' d)/\z.length<=21000) (first:=[]) (cap:=[]) rfl True.intro rfl call47 rfl rfl rfl (λW hS=>?_) ?_
 ·refine(Sw hZ cs cJ dC N la lc W cM (aJ.up (ak _) hS.sm) (λc hc=>(hC c hc).up (ak _) hS.sm) fa fos fc kp lP (rD.up (ak _) hS.sm) ga gs gc Ui (hgs.up (ak _) hS.sm) Sx (λg hg=>(hgA g hg).up (ak _) hS.sm) ia xs ic lB (his.up (ak _) hS.sm) hii (λx hx=>(wM x hx).up (ak _) hS.sm) o1 o5 o6 o7 (hg.old hS A1 zH zD) a0 a1 (hse.oldG hS A1 zH zD)).mono ?_;rintro e w' ⟨ds,r,F',rfl,hb,jE,bM,fB,vz,aQ,kO,Xz⟩;exact⟨ds,r,F',rfl,aH.of_below hb,λk hk=>.inr (Rw.ge_at jE hk),bM,fB,vz,aQ,kO,Xz⟩
 rintro ds0 r20 F1 ⟨hmp,kO,vJ⟩ SL GH ze;obtain⟨F,hFe⟩:∃F,F1++[]=F:=⟨_,rfl⟩;rw[hFe]at GH ⊢;have ajk:∀y∈ds0,y.fr.length<=1000:=λy hy=>dR (GF _ (hmp▸bW.2 ⟨y,hy,rfl⟩)) zA;have kO:∀d∈ds0,xI F d:=λd hd=>(kO d hd).mono (λq hq=>hFe▸bj.2 (.inl hq));refine B 6 ?_;refine ay (.slice qa L0.length qc) ?_;have eu:r20.ge w2.heap.size:=Rw.ge_fz GH A0;refine It (enc:=dM) (m:=35) (t:=35) (xs:=cN L0) (v:=id) (first:=[]) (cap:=[]) rfl call32 rfl rfl rfl (λW hS=>nwg L0 aa N qa qc W cM (SK.up (ak _) (hS.same A1 hN zH (by simp only[Over,nD,ig,eL,eb,and_true];(repeat' apply And.intro);all_goals first|omega|exact True.intro|exact Rw.over (Rw.ge_mono eu aa))))) ?_;intro r30 aab SM;refine B 4 ?_;refine CJ.prm (H':=[(b5,oC #[.map (some gR)] 137),(gR,(Mq.mk [] 0).obj dq Value.bool ([]:Kv))]++(Rw.nil.hp dM 35 ([]:List Se)++(r30.hp dM 35 (cN L0)++(r20.hp hQ 142 ds0++[])))) (List.perm_append_comm_assoc _ _ _) ?_;have anM:=Vn L0;refine CJ.lp (α:=LI) [5] (λx=>[(1,x.lv),(6,x.r2.val x.ds.length),(7,x.r3.val x.mo.length)]) (λx=>[(b5,oC #[.map (some gR)] 137),(gR,x.km.obj dq Value.bool x.kn)]++(x.r1.hp dM 35 x.acc++(x.r3.hp dM 35 x.mo++(x.r2.hp hQ 142 x.ds++[])))) (λx=>LJ (pw Z cs fos gs xs) L0 (.slice qa L0.length qc) F 71000 x/\x.km.Ok x.kn/\(x.r1.Fr (dL F) [w2,w]/\x.r1.Fit 35 x.acc)/\(x.r3.Fr (dL F) [w2,w]/\x.r3.Fit 35 x.mo)/\(x.r2.Fr (dL F) [w2,w]/\x.r2.Fit 36 x.ds)/\∀y∈x.ds,y.fr.length<=1000) (λx=>x.mu) ⟨(.slice qa L0.length qc),[],Mq.mk [] 0,.nil,[],r30,cN L0,r20,ds0⟩ ⟨LJ.init hmp kO aa,Mq.nil,⟨True.intro,rfl⟩,⟨aab,SM⟩,⟨GH,SL⟩,ajk⟩ ?_
 rintro⟨lv,kn,km,r1,acc,r3,mo,r2,ds⟩ ⟨hI,B4,⟨LL,iq⟩,⟨uw,mD⟩,⟨ly,eG⟩,hIl⟩;dsimp only at B4 LL iq uw mD ly eG hIl ⊢;have mX:r1.ge w2.heap.size:=Rw.ge_fz LL A0;have eu:r2.ge w2.heap.size:=Rw.ge_fz ly A0;have pH:r3.ge w2.heap.size:=Rw.ge_fz uw A0;refine B 4 ?_;refine rv rfl rfl rfl (LK underlying38 mD rfl) ?_;refine B 3 ?_;refine aG ?_ ?_
 ·intro ar;refine B 5 ?_;have hne:mo≠ []:=by intro h;subst h;simp at*
  obtain⟨b3,c3,s3,rfl⟩:=Rw.row_of mD (Z7.2 hne);have Xz:=hI.ln;dsimp only at Xz;refine B 2 ?_;refine rv rfl rfl rfl (AO underlying137 B4 (bB.own (i:=1) rfl) rfl) ?_;refine B 3 ?_;refine CJ.mid (t:=1) (v:=r1.val acc.length) (E0:=[(5,_),(6,_),(7,_),(16,_),(17,_),(18,_),(19,_),(20,_),(21,_)]) zR ?_ ?_
  ·refine aG ?_ ?_
   ·intro aN;refine B 3 ?_;exact PJ.mid ⟨(by obtain⟨h1,h2,_⟩:=hI.k0 (lN zS);dsimp only at h1 h2;rw[h1,h2];rfl),rfl,rfl,rfl,rfl,rfl,rfl,rfl,rfl,rfl,trivial⟩
   intro aN;refine B 1 ?_;exact PJ.mid ⟨(congrArg some (hI.k1 (λh=>by have h2:kn=[]:=h;subst h2;simp_all))),rfl,rfl,rfl,rfl,rfl,rfl,rfl,rfl,rfl,trivial⟩
  refine B 5 ?_;refine kg (r:=r1) (xs:=acc) (zs:=mo) (enc:=dM) (m:=35) (H0:=[(b5,oC #[.map (some gR)] 137),(gR,km.obj dq Value.bool kn)]) (H1:=((Rw.row b3 c3 s3).hp dM 35 mo++(r2.hp hQ 142 ds++[]))) rfl Oa nu rfl rfl rfl rfl (cd.ownO (b:=b3) (t:=35) (sp:=s3) nu IK underlying38 oW) iq LL (Z7.2 hne) aa ?_;intro fH uu lW pZ qV;have aac:(Rw.row fH uu lW).Fr (dL F) [w2,w]:=pZ.elim (λh=>Rw.Fr_at LL h) .inr;replace pZ:=yb pZ;refine B 12 ?_;refine CJ.lp (α:=Mq×Nat) [1,5,6,25,26] (λp=>[(27,ab (p.2:Int))]) (λp=>[(b5,oC #[.map (some gR)] 137),(gR,p.1.obj dq Value.bool (iy kn (mo.take p.2))),(fH,aP dM 35 (acc++mo) lW),(b3,aP dM 35 mo s3)]++(r2.hp hQ 142 ds++[])) (λp=>p.2<=mo.length/\p.1.Ok (iy kn (mo.take p.2))) (λp=>mo.length-p.2) (km,0) ⟨cR _,B4⟩ ?_;rintro⟨m,j⟩ ⟨hj,hm⟩;dsimp only at hj hm ⊢;refine B 6 ?_;refine aG ?_ ?_
  ·intro dp;refine B 5 ?_;obtain⟨s,hs⟩:=ng mo j aa;refine B 2 ?_;refine rq (.agg (dh s)) (fj (i:=3) rfl isAgg35 sizeOf35 rfl (Q1 nu aa)) (va (Q0 (sp:=s3) nu hs)) ?_;refine B 1 ?_;refine yW ?_;intro b9 xh tw;refine B 5 ?_;refine ay (dq s) ?_;refine Y0 (i:=2) (k:=s) (v:=true) rfl hm underlying137 K9 rfl rfl rfl rfl ?_;intro m2 bV;refine xr ?_;refine PJ.again (m2,j+1) ⟨by dsimp only;omega,by dsimp only;rw[nim hs];exact bV⟩ zS zR (by dsimp only;rw[nim hs];rfl) rfl zI
  intro dp;refine B 6 ?_;have y4:j=mo.length:=by omega
  rw[y4,vS]at hm ⊢;refine B 1 ?_;refine KV dq Value.bool rfl rfl ?_;intro fg jt agL;replace jt:=yb jt;refine B 1 ?_;refine yW ?_;intro gB lY p6;refine B 7 ?_;refine OJ.perm (Oq _ _ [(b5,oC #[.map (some gR)] 137),(gR,m.obj dq Value.bool (iy kn mo)),(fH,aP dM 35 (acc++mo) lW),(b3,aP dM 35 mo s3)] (r2.hp hQ 142 ds)) ?_;refine B5 (Hz:=(r2.hp hQ 142 ds++[(fg,(Mq.mk [] 0).obj dq Value.bool ([]:Kv))])) (H0:=[(gB,oC #[.map (some fg)] 137),(b5,oC #[.map (some gR)] 137),(gR,m.obj dq Value.bool (iy kn mo)),(fH,aP dM 35 (acc++mo) lW),(b3,aP dM 35 mo s3)]) (α:=Rw×Mq) (v:=λz=>z.1.val (ds.filter (λd=> !iO (iy kn mo) d)).length) (Hn:=λz=>z.1.hp hQ 142 (ds.filter (λd=> !iO (iy kn mo) d))++[(fg,z.2.obj dq Value.bool (ds.foldl (gG (iy kn mo)) []))]) (Φ:=λz=>z.1.Fit 36 (ds.filter (λd=> !iO (iy kn mo) d))/\z.2.Ok (ds.foldl (gG (iy kn mo)) [])/\∀k,z.1.isAt k->r2.isAt k) (first:=[]) (cap:=[]) rfl rfl call48 rfl rfl rfl ?_ (λW hS=>?_) ?_
  ·cases r2 with
   |nil=>exact⟨.inr jt,trivial⟩
   |row b c sp=>exact⟨ly,.inr jt,trivial⟩
  ·have CV:=hS.own (fg,(Mq.mk [] 0).obj dq Value.bool ([]:Kv)) zI;have ajm:=hS.own (b5,oC #[.map (some gR)] 137) zI;have ajn:=hS.own (gR,m.obj dq Value.bool (iy kn mo)) zI;have aad:=hS.own (gB,oC #[.map (some fg)] 137) zI;have hnd:=(nY _).1 hS.nodup;simp only[gz,dy,eV,iY,ig,eL]at hnd;have zo:=(List.nodup_append.1 hnd).2.1;simp only[List.nodup_cons,bX,dE,or_false,not_or]at zo;cases r2 with
   |nil=>
    have h0:ds=[]:=eG;subst h0;refine(nLj (iO (iy kn mo)) (gG (iy kn mo)) 49 [ptr b5 0,ptr gB 0] call49 W fg (Mq.mk [] 0) [] Mq.nil CV).mono ?_;rintro e w' ⟨u9,rfl,hk,iF,hl⟩;exact⟨(.nil,u9),rfl,hk.mono (λk _ hk=>by subst hk;simp[keys]),⟨rfl,iF,λk hk=>hk.elim⟩,λp hp=>by simp[Rw.hp]at hp;subst hp;exact⟨hl,.inl (by simp[keys])⟩,DV _⟩
   |row b c sp=>
    have Ot:=hS.own (b,aP hQ 142 ds sp) oW;have GI:b≠fg/\b≠gB/\b≠b5/\b≠gR:=by
     simp only[Rw.hp,dy,eV,ig,eL,List.nodup_cons,bX,dE,or_false,not_or]at hnd;exact⟨hnd.1.1,hnd.1.2.1,hnd.1.2.2.1,hnd.1.2.2.2.1⟩
    refine(nsj (iO (iy kn mo)) (gG (iy kn mo)) 49 [ptr b5 0,ptr gB 0] call49 ds aa b c sp W Ot eG fg GI.1 (Mq.mk [] 0) [] Mq.nil CV (λj y hy W2 gm gv tK hk ajo=>?_)).mono ?_
    ·have keep:∀{q:Nat} {o:Obj},W.heap[q]? =some o->q≠b->q≠fg->W2.heap[q]? =some o:=λ{q o} h1 h2 h3=>(hk.block q (aT.1 h1).1 (λhx=>hx.elim h2 h3)).trans h1;have hdy:=hI.df y (cO hy);have Ob:ai dh 35 W2.heap.size W2 y.fa y.fr/\∀b' off,y.fa=some ⟨b',off,none⟩->b'≠fg:=by
      rcases hdy.sl with h1|⟨b',off,fQ,t',Cs,e1,e2,e3⟩
      ·exact absurd h1 hdy.ne
      have h2:=hS.fzLies _ e2;have hv:∀q:Nat×Obj,q∈(((Rw.row b c sp).hp hQ 142 ds++[(fg,(Mq.mk [] 0).obj dq Value.bool ([]:Kv))])++[(gB,oC #[.map (some fg)] 137),(b5,oC #[.map (some gR)] 137),(gR,m.obj dq Value.bool (iy kn mo)),(fH,aP dM 35 (acc++mo) lW),(b3,aP dM 35 mo s3)]:ad)->b'≠q.1:=λq hq h9=>hS.apart q hq (bW.2 ⟨_,e2,h9⟩);have yA:=hv (b,aP hQ 142 ds sp) oW;have mq:=hv (fg,(Mq.mk [] 0).obj dq Value.bool ([]:Kv)) oW;exact⟨.inr ⟨b',off,fQ,t',Cs,e1,by have:=hk.size;have:=h2.1;omega,keep h2.2 yA mq,e3⟩,λb2 anN h=>by rw[e1]at h;cases h;exact mq⟩
     exact SD (iy kn mo) gR b5 m hm gB fg gm gv tK y W2.heap.size W2 (ak _) Ob.2 (keep ajm (λh=>GI.2.2.1 h.symm) (λh=>zo.1.2.1 h.symm)) (keep ajn (λh=>GI.2.2.2 h.symm) (λh=>zo.1.2.2.1 h.symm)) (keep aad (λh=>GI.2.1 h.symm) (λh=>zo.1.1 h.symm)) ajo Ob.1 (hIl y (cO hy)) zo.1.2.1 zo.1.2.2.1 zo.1.1
    rintro e w' ⟨bT,u9,rfl,hk,bM,eH,iF,hl⟩;refine⟨(.row b c bT,u9),rfl,hk.mono (λk _ hk=>by rcases hk with rfl|rfl<;>simp[keys,Rw.hp]),⟨bM,iF,λk hk=>hk⟩,λp hp=>?_,VA GI.1⟩;simp only[Rw.hp,ig,eL,bX,dE,or_false]at hp;rcases hp with rfl|rfl
    ·exact⟨eH,.inl (by simp[keys,Rw.hp])⟩
    exact⟨hl,.inl (by simp[keys,Rw.hp])⟩
  rintro⟨r2n,gm⟩ ⟨GJ,tK,Ou⟩ aaf;dsimp only at GJ tK Ou ⊢;have aag:r2n.Fr (dL F) [w2,w]:=by
   cases r2n with
   |nil=>trivial
   |row b c sp=>exact Rw.Fr_at ly (Ou b rfl)
  refine OJ.perm ((Oq (gB,oC #[.map (some fg)] 137) (fg,gm.obj dq Value.bool (ds.foldl (gG (iy kn mo)) [])) [(b5,oC #[.map (some gR)] 137),(gR,m.obj dq Value.bool (iy kn mo)),(fH,aP dM 35 (acc++mo) lW),(b3,aP dM 35 mo s3)] (r2n.hp hQ 142 (ds.filter (λd=> !iO (iy kn mo) d)))).symm) ?_;refine B 5 ?_;refine Pr (α:=Nat) (v:=λb:Nat=>.func (.func 101) #[] #[ptr b 0]) (bo:=λb=>(b,oC #[.map (some fg)] 137)) (Φ:=λ_=>True) call53 rfl rfl rfl (λW hS=>(nPo (some fg) W).mono (λe w1 h=>?_)) ?_
  ·obtain⟨b,h1,h2,h3,h4⟩:=h;exact⟨b,h1,h2,h3,trivial,h4⟩
  intro bk hak ajp _;dsimp only at hak ajp ⊢;replace hak:=yb hak;refine UG (enc:=dM) (m:=35) (t:=35) (Fin:=λzs=>∃ys:List Se,ys.Perm ((ds.foldl (gG (iy kn mo)) []).map (·.1))/\zs=gF ys) (v:=id) call52 rfl rfl rfl (λW hS=>?_) ?_
  ·have SN:=hS.own (bk,_) A0;have SO:=hS.own (fg,gm.obj dq Value.bool (ds.foldl (gG (iy kn mo)) [])) A2;have Ui:(ds.foldl (gG (iy kn mo)) []).length<=100000:=by have:=GC (iy kn mo) ds [];simp only[fh]at this;omega
   refine(nel (Pre:=λp=>p.length<=(ds.foldl (gG (iy kn mo)) []).length) (Fin:=λys=>ys.Perm ((ds.foldl (gG (iy kn mo)) []).map (·.1))) (RO:=λk=>k=bk\/k=fg) (f:=101) (cap:=[ptr bk 0]) call101 W (λk hk=>?_) (λp hp=>by omega) (λW2 hB=>nso fg bk gm tK W2 (by rw[hB.block bk (aT.1 SN).1];exact SN) (by rw[hB.block fg (aT.1 SO).1];exact SO)) (λys h=>by rw[h.length_eq,eQ];omega)).mono ?_
   ·rcases hk with rfl|rfl
    ·exact(aT.1 SN).1
    exact(aT.1 SO).1
   rintro e w' ⟨ys,h1,h2⟩;exact⟨gF ys,⟨ys,h1,rfl⟩,h2⟩
  rintro _ r3n ⟨ys,xl,rfl⟩ aah SP;refine B 3 ?_;refine PJ.perm (Z9 (bk,oC #[.map (some fg)] 137) (gB,oC #[.map (some fg)] 137) (fg,gm.obj dq Value.bool (ds.foldl (gG (iy kn mo)) [])) (b5,oC #[.map (some gR)] 137) (gR,m.obj dq Value.bool (iy kn mo)) (fH,aP dM 35 (acc++mo) lW) (b3,aP dM 35 mo s3) (r3n.hp dM 35 (gF ys)) (r2n.hp hQ 142 (ds.filter (λd=> !iO (iy kn mo) d)))) ?_;refine PJ.dropAt (i:=0) rfl hak ?_;refine PJ.dropAt (i:=0) rfl lY ?_;refine PJ.dropAt (i:=0) rfl jt ?_;refine PJ.dropAt (i:=0) rfl (uw.elim (λh=>h.elim) id) ?_;refine PJ.again (⟨(Rw.row fH uu lW).val (acc++mo).length,(iy kn mo),m,.row fH uu lW,acc++mo,r3n,gF ys,r2n,(ds.filter (λd=> !iO (iy kn mo) d))⟩:LI) ⟨(hI.step hne xl).1,hm,⟨aac,qV⟩,⟨aah,SP⟩,⟨aag,GJ⟩,λy hy=>hIl y (uU.1 hy).1⟩ (hI.step hne xl).2 zR rfl rfl zI
 intro ar;refine B 12 ?_;have AJ:mo=[]:=lN aa;have hE:=hI.end_ AJ;dsimp only at hE;refine PV λWd xY=>?_;obtain⟨q,hqv,hqc,ajr⟩:∃q:Option Addr×Nat,lv= .slice q.1 acc.length q.2/\acc.length<=q.2/\(acc=[]\/∃b c sp,r1= .row b c sp/\q.1=some ⟨b,0,none⟩):=by
  by_cases Vo:kn=[]
  ·obtain⟨h1,h2,h3,h4⟩:=hI.k0 Vo;dsimp only at h1 h3 h4;have h5:L0=[]:=by
    have h6:cN L0=[]:=by rw[<-AJ];exact h4.symm
    apply List.eq_nil_iff_forall_not_mem.2;intro s hs;have:=(CK L0 s).2 hs;rw[h6]at this;cases this
   exact⟨(qa,qc),by rw[h1,h3,h5],by rw[h1];exact cR _,.inl h1⟩
  have h1:lv=r1.val acc.length:=hI.k1 Vo;cases r1 with
  |nil=>exact⟨(none,0),by rw[h1];have h2:acc=[]:=iq;rw[h2];rfl,by have h2:acc=[]:=iq;rw[h2];exact cR _,.inl iq⟩
  |row b c sp=>exact⟨(some ⟨b,0,none⟩,c),h1,iq.1,.inr ⟨b,c,sp,rfl,rfl⟩⟩
 refine bK (.inl rfl) results26 aX λW hS=>⟨(q,acc),by rw[hqv];rfl,(hS.links w A1).below (λk hk hx=>by
  rcases hx with hx|hx
  ·exact hx
  simp only[gz,dy,eV,ig,eL,eb,bj,bX]at hx;rcases hx with hx|hx|hx|hx|hx
  ·omega
  ·omega
  ·have:=Rw.mem_ge mX hx;omega
  ·have:=Rw.mem_ge pH hx;omega
  have:=Rw.mem_ge eu hx;omega),?_,hE,hqc⟩
 rcases ajr with h|⟨b,c,sp,rfl,h⟩
 ·exact .inl h
 have h1:=hS.own (b,aP dM 35 acc sp) oW;obtain⟨a9,c9,e9,h9⟩:=(Rw.row b c sp).sl (enc:=dM) (t:=35) (N:=W.heap.size) (w:=W) nu iq h1 (ak _);simp only[Rw.val,Value.slice.injEq]at e9;rw[<-e9.1]at h9;rw[h];exact h9
end Px
