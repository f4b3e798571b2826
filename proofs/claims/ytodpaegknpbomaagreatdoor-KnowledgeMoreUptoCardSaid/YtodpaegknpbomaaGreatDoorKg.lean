/- Contracts of functions of the program. No condition beyond those stated. -/
import Derived.Test.YtodpaegknpbomaaGreatDoorKf
import Derived.Test.YtodpaegknpbomaaGreatDoorProg
set_option linter.unusedSimpArgs false
set_option linter.unusedVariables false
set_option linter.unusedSectionVars false
set_option linter.unnecessarySimpa false
set_option maxRecDepth 20000
set_option maxHeartbeats 8000000
namespace Px
open Go Go.RowKit Go.Proofs Go.Proofs.Tryz
theorem Vr(n:Int)(w:World):Calls prog 130 #[ab n] w (aM w (vI n)):=by
 refine eN func130 ntmps130 ?_;refine B 3 ?_;refine yW ?_;intro b2 dx dq;refine B 10 ?_;refine cC (.inl rfl) results130 bj A0 zC ?_;rfl
theorem IV(l:List UInt8)(N:Nat)(a:Option Addr)(c:Nat)(w:World)(hN:N<=w.heap.size)(hb:ByAt N w a l):Calls prog 129 #[.slice a l.length c] w (aM w (vT (qd l))):=by
 refine eN func129 ntmps129 ?_;refine B 3 ?_;refine yW ?_;intro b2 dx dq;refine B 5 ?_;refine zfe ?_;refine B 5 ?_;refine cC (.inl rfl) results129 bj A0 zC ?_;rfl
theorem nsj(base:Option Addr)(n c:Nat)(w:World):Calls prog 128 #[.slice base n c] w (aM w (vL base n c)):=by
 refine eN func128 ntmps128 ?_;refine B 3 ?_;refine yW ?_;intro b2 dx dq;refine B 10 ?_;refine cC (.inl rfl) results128 bj A0 zC ?_;rfl
def wQ (o:Ol):List V:=[.text (qd (cy o.f)),.int o.w.u,.text (qd o.w.body)]
def wR (x:Gr):List V:=[.int x.folder,.int x.by_,.int x.device,.int x.pub,.text (qd (cy x.f)),.list ((x.olds.map wQ).map V.list)]
def IW (x:Ir):List V:=[.text (qd (cy x.f)),.text (qd (cy x.g)),.int x.by_,.text (qd x.body)]
def Cb (Z:Fx) (x:Gr):Nat->Int:=Z.tg (⟨#[103,114,97,110,116,32,115,105,103,110]⟩:ByteArray) (V.list (wR x)).enc
def Cc (Z:Fx) (x:Ir):Nat->Int:=Z.tg (⟨#[105,110,104,101,114,105,116,32,115,105,103,110]⟩:ByteArray) (V.list (IW x)).enc
theorem nuk:∀{l:List V},(∀v∈l,v.fine)->V.fineL l
 | [],_=>by simp[V.fineL]
 |v::l,h=>by simp only[V.fineL];exact⟨h v A0,nuk λu hu=>h u (.tail _ hu)⟩
theorem LA(x:Gr)(hx:pe x)(hb:∀o∈x.olds,o.w.body.length<=65552):(V.list (wR x)).fine/\(V.list (wR x)).depth<=16/\(V.list (wR x)).enc.length<=800000000000:=by
 have hf:=hx.few;have hl:V.fineL ((x.olds.map wQ).map V.list):=nuk λv hv=>by
  obtain⟨l,hl,rfl⟩:=bY.1 hv;obtain⟨o,ho,rfl⟩:=bY.1 hl;have h1:=hb o ho;simp only[V.fine,wQ,V.fineL,V.depthL,V.depth];exact⟨by simp,by simp,by rw[EI,nH];decide,hx.io o ho,by rw[EI];omega,trivial⟩
 have e5:=Yq 3 zB (x.olds.map wQ) (λl hl=>by obtain⟨o,_,rfl⟩:=bY.1 hl;exact⟨rfl,ak 3⟩) hl;have n5:=CA (u:=((x.olds.map wQ).map V.list).length) oI;have m5:(x.olds.map wQ).length*(3*1000000020+11)<=6*(3*1000000020+11):=wo _ (by rw[eG];exact hf);have l5:(V.list ((x.olds.map wQ).map V.list)).enc.length<=11+(V.encL ((x.olds.map wQ).map V.list)).length:=by simp only[V.enc,dC,ck];omega
 have jV:V.fineL (wR x):=by
  simp only[wR,V.fineL,V.fine];exact⟨hx.i.1,hx.i.2.1,hx.i.2.2.1,hx.i.2.2.2,by rw[EI,nH];decide,⟨by simp;omega,by have:=e5.2;omega,hl⟩,trivial⟩
 simp only[wR,V.fineL]at jV;obtain⟨g1,g2,g3,g4,g5,g6,_⟩:=jV;have i1:=BG _ rfl g1;have i2:=BG _ rfl g2;have i3:=BG _ rfl g3;have i4:=BG _ rfl g4;have i5:=BG _ rfl g5;have n6:=CA (u:=(wR x).length) (by simp[wR]);have d5:=e5.2;have dl:V.depthL (wR x)<=2:=by simp only[wR,V.depthL,V.depth];omega
 have el:(V.encL (wR x)).length<=700000000000:=by
  unfold wR;simp only[V.encL,ck,fb];omega
 refine⟨?_,?_,?_⟩
 ·simp only[V.fine];exact⟨by simp[wR],by omega,by simp only[wR,V.fineL];exact⟨g1,g2,g3,g4,g5,g6,trivial⟩⟩
 ·simp only[V.depth];omega
 simp only[V.enc,dC,ck];omega
theorem LB(x:Ir)(hx:IrGood x)(hb:x.body.length<=65552):(V.list (IW x)).fine/\(V.list (IW x)).depth<=16/\(V.list (IW x)).enc.length<=800000000000:=by
 have jV:V.fineL (IW x):=by
  simp only[IW,V.fineL,V.fine];exact⟨by rw[EI,nH];decide,by rw[EI,nH];decide,hx.i,by rw[EI];omega,trivial⟩
 have h5:=ncf (IW x) rfl jV;all_goals grind [CA,IW,V.fine,V.depth,V.enc]
variable {Z:Fx} {D0:List (List Se×Se)} {pls:List Pl} {L0:List Se} {L:List World}
theorem nfk(hZ:FxOk Z)(s:ByteArray)(hs0:s.size<1000)(l:List V)(dK:(V.list l).fine)(hd:(V.list l).depth<=16)(iO:(V.list l).enc.length<=800000000000)(N bl lc:Nat)(w:World)(hN:N<=w.heap.size)(xr:eM N w (.list l) (vL (aj bl) l.length lc))(hg:Glb w):Calls prog 131 #[.string s,.slice (aj bl) l.length lc] w (cN w (λb:Nat=>.slice (aj b) 32 32) (λb w1=>w.heap.size<=b/\w1.heap[b]? =some (oC (dg (Z.tg s (V.list l).enc)) 33))):=by
 have hg4:=hg.lt;obtain⟨df,kE⟩:∃df,Z.tg s (V.list l).enc=df:=⟨_,rfl⟩;refine eN func131 ntmps131 ?_;refine B 8 ?_;refine call call128 rfl rfl rfl (λW hS=>nsj _ _ _ W) ?_;refine z9d ?_;intro gf Io JF lP pW ahl yA;replace lP:=yb lP;replace pW:=yd pW;refine B 11 ?_;refine z0d ?_;refine B 1 ?_;refine yW ?_;intro b7 jy vr;refine B 5 ?_;refine zne ?_;refine B 4 ?_;exact bM (.inl rfl) results131 bj (λW hS=>⟨b7,rfl,hS.base A0 zC,by omega,by rw[kE];exact hS.own _ A0⟩)
theorem nmo(hZ:FxOk Z)(x:Gr)(hx:pe x)(jf:∀o∈x.olds,o.w.body.length<=65552)(N:Nat)(w:World)(hN:N<=w.heap.size)(hG:GrAt N w x)(hg:Glb w):Calls prog 76 #[.agg (grA x)] w (cN w (λb:Nat=>.slice (aj b) 32 32) (λb w1=>w.heap.size<=b/\w1.heap[b]? =some (oC (dg (Cb Z x)) 33))):=by
 have Ax:=hx.few;have hg4:=hg.lt;have Gu:=hG.ol;obtain⟨df,kE⟩:∃df,Cb Z x=df:=⟨_,rfl⟩;have uK:=LA x hx jf;refine nB (dI []) [] (vs:=[_]) func76 rfl ntmps76 rfl (N0 w) ?_;refine B 2 ?_;refine yX ?_;intro b1 w1 hb1 cF gA fX jq;refine B 5 ?_;refine call call128 rfl rfl rfl (λW hS=>nsj _ _ _ W) ?_;refine B 1 ?_;refine yW ?_;intro b3 ez eP;refine B 7 ?_;refine ax (.slice x.oa x.olds.length x.oc) ?_;refine B 5 ?_;refine CJ.loop (α:=((Rw×List El)×ad)×Nat) (λp=>[(1,ptr b1 0),(3,ptr b3 0),(8,.slice x.oa x.olds.length x.oc),(9,ab (x.olds.length:Int)),(10,ab (p.2:Int))]) (λp=>[(b3,oC (dD (p.1.1.1.val p.1.1.2.length)) 200)]++(p.1.1.1.hp (jr 3) 200 p.1.1.2++[])) (λp=>[w1,w]) (λp=>dI p.1.2) (λp=>p.2<=x.olds.length/\p.1.1.1.Fr (dI p.1.2) [w1,w]/\p.1.1.1.Fit 4 p.1.1.2/\iB p.1.2 3 p.1.1.2 ((x.olds.take p.2).map wQ)) (λp=>x.olds.length-p.2) (((.nil,[]),[]),0) ⟨cV _,True.intro,rfl,iB.nil⟩ zR rfl rfl zJ ?_;rintro⟨⟨⟨r1,iI⟩,F1⟩,j1⟩ ⟨hj,aK,ah,oX⟩;dsimp only at hj aK ah oX ⊢;have bH:r1.ge w1.heap.size:=Rw.ge_fz aK A0;have hel:iI.length<=50:=by rw[oX.1,eG,kQ];omega
 refine B 6 ?_;refine aG ?_ ?_
 ·intro ar;refine B 5 ?_;obtain⟨bo,oo,cs0,to,fG,gU,fH,cJ,aW⟩:=Gu.get aa;obtain⟨y,hy⟩:=ng x.olds j1 aa;rw[gU];have hq:=λ(k:Nat)=>Rw.mem_ge (enc:=jr 3) (t:=200) (xs:=iI) (k:=k) bH;have qx:ByAt N w y.w.ba y.w.body:=hG.bb y (cP hy);have fH:ec y.f:=hx.bo y (cP hy);refine B 2 ?_;refine ax (.agg (u3 y)) ?_;refine B 1 ?_;refine yW ?_;intro b5 so sq;refine B 3 ?_;refine CJ.less (E':=[(1,_),(3,_),(5,_),(8,_),(9,_),(10,_),(11,_),(12,_),(13,_)]) zR ?_;refine CJ.chn 16 [13,14,15] [_,_,_,_,some (vT (qd (cy y.f))),_,_,_,_,_,_,_,some (vT (qd y.w.body)),none,none,none] (λcv L' H'=>let dU:ad:=[(b5,oC (u3 y) 119),(b3,oC (dD (r1.val iI.length)) 200)]++(r1.hp (jr 3) 200 iI++[]);match cv with| []=>L'=[w1,w]/\H'=dU| [v1]=>∃(bn:Nat),v1= .slice (aj bn) 3 3/\L'=[w1,w]/\H'=(bn,oC (nK (wQ y)++[]).toArray 200)::dU/\ae [w1,w] bn| [v1,v2]=>∃(bn:Nat),v1= .slice (aj bn) 3 3/\v2=vL (aj bn) 3 3/\L'=[w1,w]/\H'=(bn,oC (nK (wQ y)++[]).toArray 200)::dU/\ae [w1,w] bn| [v1,v2,v3]=>∃(bn:Nat) (mD:Nat),v1= .slice (aj bn) 3 3/\v2=vL (aj bn) 3 3/\v3= .slice (aj mD) 1 1/\L'=[w1,w]/\H'=(mD,oC (dD (.slice (aj bn) 3 3)) 200)::(bn,oC (nK (wQ y)++[]).toArray 200)::dU/\ae [w1,w] bn/\ae [w1,w] mD|_=>False) (pc WR (pc xA (pc (by exact λcv L' H' hd hP=>X.v (bQ underlying119 rfl sizeOf33 rfl)) (pc zZb (pc xA (pc (by exact λcv L' H' hd hP=>X.v (bQ underlying119 rfl sizeOf108 rfl)) (pc z9b (pc xA (pc (by exact λcv L' H' hd hP=>nf call130 rfl rfl (λW hS _=>Vr _ W) (λ_=>rfl)) (pc (by exact λcv L' H' hd hP=>X.v (bQ underlying119 rfl sizeOf108 rfl)) (pc z6b (pc xA (pc xA (pk (pk (pk (pn))))))))))))))))) ?_ ?_
  ·refine ss rfl ?_ ?_
   ·exact zog
   refine ss rfl ?_ ?_
   ·intro cv L' H' hl hP F Q' hk;obtain⟨v1,rfl⟩:=iw hl;obtain⟨bn,rfl,rfl,rfl,hfn⟩:=hP;refine call call128 rfl rfl rfl (λW hS=>nsj (aj bn) 3 3 W) ?_;exact zIh
   exact zdg
  intro cv L' H' hl hP;obtain⟨v1,v2,v3,rfl⟩:=mj hl;obtain⟨bn,mD,rfl,rfl,rfl,rfl,rfl,hfn,uI⟩:=hP;refine jS (r:=r1) (xs:=iI) (zs:=[((bn,3):El)]) (enc:=jr 3) (m:=4) (H0:=[(mD,oC (dD (.slice (aj bn) 3 3)) 200),(bn,oC (nK (wQ y)++[]).toArray 200),(b5,oC (u3 y) 119),(b3,oC (dD (r1.val iI.length)) 200)]) (H1:=[]) rfl Yj (NY 3) rfl rfl rfl rfl (bO.one (z:=((bn,3):El)) (NY 3) (n7g 3) underlying134 (bB.own (i:=0) rfl)) ah aK zJ Az ?_;intro br cr sr jt qY;refine B 1 ?_;refine jP (i:=3) rfl sizeOf134 rfl rfl rfl rfl (dO rfl) rfl ?_;refine B 7 ?_;refine PJ.reH (H':=[(mD,oC (dD (.slice (aj bn) 3 3)) 200),(bn,oC (nK (wQ y)++[]).toArray 200),(b5,oC (u3 y) 119),(b3,oC (dD ((Rw.row br cr sr).val (iI++[((bn,3):El)]).length)) 200)]++((br,aO (jr 3) 200 (iI++[((bn,3):El)]) sr)::[])) rfl ?_;refine UW ?_;refine PJ.fz [(bn,oC (nK (wQ y)++[]).toArray 200)] (H':=[(b5,oC (u3 y) 119),(b3,oC (dD ((Rw.row br cr sr).val (iI++[((bn,3):El)]).length)) 200)]++((br,aO (jr 3) 200 (iI++[((bn,3):El)]) sr)::[])) (List.Perm.refl _) zcc ?_;refine pV ?_;refine ag (((Rw.row br cr sr,(iI++[((bn,3):El)])),(bn,oC (nK (wQ y)++[]).toArray 200)::F1),j1+1) ⟨by dsimp only;omega,jt.elim (λh=>Rw.Fr_at aK h) (λh=>.inr h),qY,by dsimp only;rw[n8f wQ hy];exact oX.snoc (λp hp=>.tail _ hp) rfl rfl (ak _) A0⟩
 intro ar;refine B 6 ?_;have EO:x.olds.take j1=x.olds:=jO aa;rw[EO]at oX;have gV:=ah;refine CJ.fz (r1.hp (jr 3) 200 iI) (H':=[(b3,oC (dD (r1.val iI.length)) 200)]) Yl (Rw.fz_above aK) ?_;refine eA 16 (pb:=by exact zU 2 (k:=by exact aU (nf call130 rfl rfl (λW hS _=>Vr _ W) (λ_=>rfl)) (zU 2 (k:=by exact aU (nf call130 rfl rfl (λW hS _=>Vr _ W) (λ_=>rfl)) (zU 2 (k:=by exact aU (nf call130 rfl rfl (λW hS _=>Vr _ W) (λ_=>rfl)) (zU 2 (k:=by exact aU (nf call130 rfl rfl (λW hS _=>Vr _ W) (λ_=>rfl)) (zU 1 (k:=by exact aU (X.v (fp underlying33 sizeOf5 rfl rfl aa)) (aU (nf call129 rfl rfl (λW hS _=>by have h1:=hS.old A0 hb1 cF zA;have h2:=IV (cy x.f) W.heap.size (some ⟨b1,4,none⟩) 32 W (ak _) (.inr ⟨b1,4,rfl,(aT.1 h1).1,cj.dgo h1 rfl (dO rfl) hx.bf⟩);rw[nR]at h2;exact h2) (λ_=>rfl)) zT))))))))))) (sp:=[_,some (ab x.folder),_,_,some (ab x.by_),_,_,some (ab x.device),_,_,some (ab x.pub),_,_,_,some (vT (qd (cy x.f))),some (.agg (dD (r1.val iI.length)))]) (k:=?_);refine zke ?_;refine yV ?_;intro b49 w49 ai5 ai6 anR anS anT;refine nv (α:=Nat) (v:=λb:Nat=>.slice (aj b) 32 32) (Φ:=λ(W:World) (b:Nat) (w1:World)=>W.heap.size<=b/\w1.heap[b]? =some (oC (dg df) 33)) call131 rfl rfl rfl (λW hS=>?_) ?_
 ·have hF:∀p∈(r1.hp (jr 3) 200 iI++F1),p.1<W.heap.size/\W.heap[p.1]? =some p.2:=λp hp=>⟨(aT.1 (hS.fzAt p hp)).1,hS.fzAt p hp⟩;have v1:=iB.vat (t:=200) (oX.up (λp hp=>bA.2 (.inr hp))) hF (λp hp=>bA.2 (.inl hp)) gV;have rD:=hS.old A0 ai5 ai6 zA;rw[<-kE];exact nfk hZ (⟨#[103,114,97,110,116,32,115,105,103,110]⟩:ByteArray) zB (wR x) uK.1 uK.2.1 uK.2.2 W.heap.size b49 6 W (ak _) (nNl (wR x) (ak 6) rD (aT.1 rD).1 (sM (dO rfl) (IF _ _ _) (sM (dO rfl) (IF _ _ _) (sM (dO rfl) (IF _ _ _) (sM (dO rfl) (IF _ _ _) (sM (dO rfl) (US _ _ _) (sM (dO rfl) v1 (nul)))))))) (hg.old hS A2 zI zF)
 rintro Wm bm wm vY Ke ⟨hqm,ot⟩;refine B 4 ?_;refine bM (.inl rfl) results76 bj λW hS=>⟨bm,rfl,(hS.links w A3).below (λk hk hx=>by rcases hx with hx|hx;(exact hx);simp at hx;try omega),dG (vY.links w A2).size hqm,by rw[kE];exact hS.old A0 ot zL (by have h3:=vY.lt (b3,_) A0;dsimp only at h3;simp only[aY,and_true];omega)⟩
theorem nxp(hZ:FxOk Z)(x:Ir)(hx:IrGood x)(jf:x.body.length<=65552)(N:Nat)(w:World)(hN:N<=w.heap.size)(qx:ByAt N w x.ba x.body)(hg:Glb w):Calls prog 77 #[.agg (irA x)] w (cN w (λb:Nat=>.slice (aj b) 32 32) (λb w1=>w.heap.size<=b/\w1.heap[b]? =some (oC (dg (Cc Z x)) 33))):=by
 have hg4:=hg.lt;obtain⟨df,kE⟩:∃df,Cc Z x=df:=⟨_,rfl⟩;have uK:=LB x hx jf;refine eN func77 ntmps77 ?_;refine B 2 ?_;refine yX ?_;intro b1 w1 hb1 cF gA fX jq;refine B 4 ?_;refine eA 11 (pb:=by exact zU 1 (k:=by exact aU (X.v (fp underlying33 sizeOf5 rfl rfl aa)) (aU (nf call129 rfl rfl (λW hS _=>by have h1:=hS.old A0 hb1 cF trivial;have h2:=IV (cy x.f) W.heap.size (aj b1) 32 W (ak _) (.inr ⟨b1,0,rfl,(aT.1 h1).1,cj.dgo h1 rfl (dO rfl) hx.bf⟩);rw[nR]at h2;exact h2) (λ_=>rfl)) (zU 1 (k:=by exact aU (X.v (fp underlying33 sizeOf5 rfl rfl aa)) (aU (nf call129 rfl rfl (λW hS _=>by have h1:=hS.old A0 hb1 cF trivial;have h2:=IV (cy x.g) W.heap.size (some ⟨b1,32,none⟩) 32 W (ak _) (.inr ⟨b1,32,rfl,(aT.1 h1).1,cj.dgo h1 rfl (dO rfl) hx.bg⟩);rw[nR]at h2;exact h2) (λ_=>rfl)) (zU 2 (k:=by exact aU (nf call130 rfl rfl (λW hS _=>Vr _ W) (λ_=>rfl)) zT)))))))) (sp:=[_,_,some (vT (qd (cy x.f))),_,_,some (vT (qd (cy x.g))),_,some (ab x.by_),_,_,some (.slice x.ba x.body.length x.bc)]) (k:=?_);refine call call129 rfl rfl rfl (λW hS=>IV x.body N x.ba x.bc W cM (ByAt.up qx (ak _) hS.sm)) (v:=vT (qd x.body)) ?_;refine zke ?_;refine yV ?_;intro di lH u7 u9 Gw BV EJ;refine nv (α:=Nat) (v:=λb:Nat=>.slice (aj b) 32 32) (Φ:=λ(W:World) (b:Nat) (w1:World)=>W.heap.size<=b/\w1.heap[b]? =some (oC (dg df) 33)) call131 rfl rfl rfl (λW hS=>?_) ?_
 ·skip
  have rD:=hS.old A0 u7 u9 trivial;rw[<-kE];exact nfk hZ (⟨#[105,110,104,101,114,105,116,32,115,105,103,110]⟩:ByteArray) zB (IW x) uK.1 uK.2.1 uK.2.2 W.heap.size di 4 W (ak _) (nNl (IW x) (ak 4) rD (aT.1 rD).1 (sM (dO rfl) (US _ _ _) (sM (dO rfl) (US _ _ _) (sM (dO rfl) (IF _ _ _) (sM (dO rfl) (US _ _ _) (nul)))))) (hg.old hS A2 zI zF)
 rintro Wm bm wm vY Ke ⟨hqm,ot⟩;refine B 4 ?_;refine bM (.inl rfl) results77 bj λW hS=>⟨bm,rfl,(hS.links w A3).below (λk hk hx=>by rcases hx with hx|hx;(exact hx);simp at hx;try omega),dG (vY.links w A2).size hqm,by rw[kE];exact hS.old A0 ot zL trivial⟩
def IX (x:Gr):List Dk:=x.olds.map λo=>dk o.f
theorem nfi(x:Gr){j:Nat}{o:Ol}(h:x.olds[j]? =some o):(x.olds.take (j+1)).map (λo=>dk o.f)=(x.olds.take j).map (λo=>dk o.f)++[dk o.f]:=by rw[np h];simp
def Vs (l:List Dk):List (Dk×Bool):=l.foldl (λs k=>fu s k true) []
theorem ntl(l:List Dk)(x:Dk):Vs (l++[x])=fu (Vs l) x true:=by unfold Vs;rw[Iw];rfl
def Gx (l:List Dk):Bool:=decide (0<l.length)&&decide (l.length<=4096)&&decide ((Vs l).length=l.length)
theorem nAe(x:Gr)(anU:x.olds.length<=6)(N:Nat)(w:World)(hN:N<=w.heap.size)(hG:GrAt N w x):Calls prog 73 #[.agg (grA x)] w (aD w cD 32 33 (IX x) id):=by
 refine eN func73 ntmps73 ?_;refine B 2 ?_;refine yX ?_;intro b1 w1 hb1 cF gA fX jq;refine B 7 ?_;refine ax (.slice x.oa x.olds.length x.oc) ?_;refine B 5 ?_;refine CJ.loop (α:=Rw×Nat) (λp=>[(1,ptr b1 0),(2,p.1.val ((x.olds.take p.2).map (λo=>dk o.f)).length),(6,.slice x.oa x.olds.length x.oc),(7,ab (x.olds.length:Int)),(8,ab (p.2:Int))]) (λp=>p.1.hp cD 33 ((x.olds.take p.2).map (λo=>dk o.f))++[]) (λp=>[w1,w]) (λp=>Gh.no) (λp=>p.2<=x.olds.length/\p.1.Fr Gh.no [w1,w]/\p.1.Fit 32 ((x.olds.take p.2).map (λo=>dk o.f))) (λp=>x.olds.length-p.2) (.nil,0) ⟨cV _,True.intro,rfl⟩ zR rfl rfl zJ ?_;rintro⟨r,j⟩ ⟨hj,aK,ah⟩;dsimp only at hj aK ah ⊢;have bH:r.ge w1.heap.size:=Rw.ge_of aK A0;refine B 6 ?_;refine aG ?_ ?_
 ·intro ar;refine B 5 ?_;have Gu:=hG.ol;obtain⟨bo,oo,cs0,to,fG,gU,fH,cJ,aW⟩:=Gu.get aa;obtain⟨o,ho⟩:=ng x.olds j aa;rw[gU];refine B 2 ?_;refine ax (.agg (u3 o)) ?_;refine B 1 ?_;refine yW ?_;intro b4 ja jb;refine B 6 ?_;refine ax (.agg (dg o.f)) ?_;refine zUd ?_;refine yW ?_;intro di BV EJ;refine jS (r:=r) (xs:=((x.olds.take j).map (λo=>dk o.f))) (zs:=[(dk o.f)]) (enc:=cD) (m:=32) (H0:=[(di,oC (dg o.f) 33),(b4,oC (u3 o) 119)]) (H1:=[]) zX nOi xE rfl rfl rfl rfl (bO.one (z:=dk o.f) xE U5 underlying72 (bB.own (i:=0) rfl)) ah aK zJ (by simp only[eG,kQ,dC,fb];omega) ?_;intro UR QV QW yY yZ;replace yY:=yb yY;refine CH ?_;refine PJ.again (Rw.row UR QV QW,j+1) ⟨by dsimp only;omega,yY.elim (λh=>Rw.Fr_at aK h) (λh=>.inr h),by rw[nfi x ho];exact yZ⟩ zW ⟨rfl,by rw[nfi x ho];rfl,rfl,rfl,rfl,trivial⟩ (by rw[nfi x ho];rfl) rfl zJ
 intro ar;refine B 6 ?_;have cx:(x.olds.take j).map (λo=>dk o.f)=IX x:=by rw[jO aa];rfl
 rw[cx]at ah ⊢;refine B 6 ?_;exact nP (H0:=[]) (H1:=[]) (r:=r) (.inl rfl) results73 bj A1 (by rw[dV];exact Rw.over (Rw.ge_mono bH aa)) rfl ah (Rw.ge_mono bH aa) zJ
theorem nhf(l:List Dk)(hl:l.length<=1000000)(N:Nat)(a:Option Addr)(c:Nat)(w:World)(hN:N<=w.heap.size)(aJ:ai uQ 32 N w a l):Calls prog 72 #[.slice a l.length c] w (aM w (.bool (Gx l))):=by
 refine eN func72 ntmps72 ?_;refine B 7 ?_;refine KU uP Value.bool rfl rfl ?_;intro b6 jD qu;replace jD:=yb jD;try simp only[aY,and_true,ne_eq]at qu
 refine B 12 ?_;refine CJ.lp (α:=Mq×Nat) [0,3,7,8] (λp=>[(9,ab (p.2:Int))]) (λp=>[(b6,p.1.obj uP Value.bool (Vs (l.take p.2)))]) (λp=>p.2<=l.length/\p.1.Ok (Vs (l.take p.2))) (λp=>l.length-p.2) (Mq.mk [] 0,0) ⟨cV _,Mq.nil⟩ ?_;rintro⟨m,j⟩ ⟨hj,hm⟩;dsimp only at hj hm ⊢;refine B 6 ?_;refine aG ?_ ?_
 ·intro ar;refine B 5 ?_;obtain⟨bl,ol,csl,tl,frl,rfl,jf,wF,qh⟩:=aJ.get aa;obtain⟨x,hx⟩:=ng l j aa;obtain⟨f,rfl⟩:∃f,dk f=x:=⟨_,K7 x⟩;refine B 2 ?_;refine ax (.agg (dg f)) ?_;refine B 1 ?_;refine yW ?_;intro b5 so sq;refine B 6 ?_;refine YU (i:=1) (k:=dk f) (v:=true) rfl hm underlying223 Fh rfl rfl rfl rfl ?_;intro m2 bW;refine xx ?_;refine PJ.again (m2,j+1) ⟨by dsimp only;omega,by dsimp only;rw[np hx,ntl];exact bW⟩ zW zR (by dsimp only;rw[np hx,ntl];rfl) rfl zJ
 intro ar;refine B 6 ?_;have cx:l.take j=l:=jO aa;rw[cx]at hm ⊢;refine B 5 ?_;refine ni (t:=19) rfl (λaN=>?_) (λaN=>?_)
 ·replace aN:=ya aN;refine B 5 ?_;refine ni (t:=24) rfl (λdc=>?_) (λdc=>?_)
  ·replace dc:=ya dc;refine B 1 ?_;refine rv rfl rfl rfl (AU underlying223 hm (bB.own (i:=0) rfl) rfl) ?_;refine B 8 ?_;exact zHg
  replace dc:=ya dc;refine B 10 ?_;exact zHg
 replace aN:=ya aN;refine B 15 ?_;exact zHg
theorem nRl(o:Ol)(w:World):Calls prog 70 #[.agg (u3 o)] w (aM w (.bool (!decide (yT o.w=0)))):=by
 refine eN func70 ntmps70 ?_;refine B 2 ?_;refine yX ?_;intro b1 w1 hb1 cF gA fX jq;refine B 6 ?_;refine ax (.agg (wrA o.w)) ?_;refine call call71 rfl rfl rfl (λW hS=>nle o.w W) ?_;refine B 5 ?_;refine aF results70 rfl A1 ?_;rfl
theorem ncm(p:Ol->Bool)(f:Nat)(cap:List Value)(az:eg prog f)(xs:List Ol)(hxl:xs.length<=1000000)(N:Nat)(a:Option Addr)(cp:Nat)(w:World)(hN:N<=w.heap.size)(aJ:ai u3 34 N w a xs)(hp:∀(j:Nat) (x:Ol),xs[j]? =some x->∀W,Below w.heap.size w W->Calls prog f (.agg (u3 x)::cap).toArray W (aM W (.bool (p x)))):Calls prog 122 #[.slice a xs.length cp,.func (.func f) #[] cap.toArray] w (cN w (λi:Int=>ab i) (λi _=>eR p xs i)):=by
 refine eN func122 ntmps122 ?_;refine UI ?_;rintro j ⟨hj,ea⟩;refine B 6 ?_;refine aG ?_ ?_
 ·intro ar;refine B 11 ?_;obtain⟨bo,oo,cs0,to,fG,rfl,fH,cJ,aW⟩:=aJ.get aa;obtain⟨x,hx⟩:=ng xs j aa;refine B 5 ?_;refine ax (.agg (u3 x)) ?_;refine UJ ?_;refine aG ?_ ?_
  ·intro aN;refine B 12 ?_;refine rS (j:Int) results122 rfl A0 rfl ?_;exact UK
  exact UL
 intro ar;refine B 11 ?_;refine rS (-1:Int) results122 rfl A0 rfl ?_;exact UM
theorem n7e(p:Ol->Bool)(f:Nat)(cap:List Value)(az:eg prog f)(xs:List Ol)(hxl:xs.length<=1000000)(N:Nat)(a:Option Addr)(cp:Nat)(w:World)(hN:N<=w.heap.size)(aJ:ai u3 34 N w a xs)(hp:∀(j:Nat) (x:Ol),xs[j]? =some x->∀W,Below w.heap.size w W->Calls prog f (.agg (u3 x)::cap).toArray W (aM W (.bool (p x)))):Calls prog 74 #[.slice a xs.length cp,.func (.func f) #[] cap.toArray] w (aM w (.bool (xs.any p))):=by
 refine eN func74 ntmps74 ?_;refine B 9 ?_;refine nv (α:=Int) (v:=λi:Int=>ab i) (Φ:=λ_ i _=>eR p xs i) call122 rfl rfl rfl (λW hS=>ncm p f cap az xs hxl N a cp W cM (aJ.up (ak _) hS.sm) (λj x hx W2 hB=>hp j x hx W2 (((hS.links w A0).below J5).trans (hB.mono (hS.links w A0).size)))) ?_;intro Wi i wi EA EB hi;refine B 5 ?_;refine aF results74 rfl A1 ?_;exact vb hi.any
section
variable {C:Cx} {G:Gh} {L:List World} {H:ad} {E:Env} {x y:Operand}
theorem Gy{T U tp:Nat}{v:Value}{ms:Array (String×TypeId)}(hU:C.P.underlying T=some (.interface ms))(hx:ev E x=some (.iface tp v))(hy:ev E y=some .nilIface):RV C G L H E (.binOp .neq T x y U) (cX):=λd ty pos aC g a W hF _=>by
 have h:∀d:Nat,(Op.equalIn (d+1) T (.iface tp v) .nilIface).run C.P W= .ok false W:=λd=>by simp[Op.equalIn,run_underlying hU]
 have h2:(binOp .neq T (.iface tp v) .nilIface).run C.P W= .ok (cX) W:=by simp only[binOp];simp[Op.equal,Op.maxDepth,h 9999]
 have h1:(eqGuard .neq T x y (.iface tp v) .nilIface).run C.P W= .ok () W:=by simp[eqGuard]
 simp only[execOp,hF.ev hx,hF.ev hy,Sem.run_bind,h1,h2,Result.andThen];rfl
theorem Sl{T U:Nat}{ms:Array (String×TypeId)}(hU:C.P.underlying T=some (.interface ms))(hx:ev E x=some .nilIface)(hy:ev E (.const .nilIface)=some .nilIface):RV C G L H E (.binOp .neq T x (.const .nilIface) U) (bG):=λd ty pos aC g a W hF _=>by
 have h:∀d:Nat,(Op.equalIn (d+1) T .nilIface .nilIface).run C.P W= .ok true W:=λd=>by simp[Op.equalIn,run_underlying hU]
 have h2:(binOp .neq T .nilIface .nilIface).run C.P W= .ok (bG) W:=by simp only[binOp];simp[Op.equal,Op.maxDepth,h 9999]
 have h1:(eqGuard .neq T x (.const .nilIface) .nilIface .nilIface).run C.P W= .ok () W:=by simp[eqGuard]
 simp only[execOp,hF.ev hx,hF.ev hy,Sem.run_bind,h1,h2,Result.andThen];rfl
end
theorem Sm{f:Nat}{us:Array Value}{w:World}{v:Value}(h:Calls prog f us w λe w'=>e= .returned v/\w'=w):Calls prog f us w (aM w v):=h.mono λ_ _ h=>⟨h.1,h.2▸Below.refl _ _⟩
noncomputable def AV (Z:Fx) (g:Gp) (x:Gr):Int:=
 if qj g [x.by_,x.device]=1 then 1
 else if qj g [x.by_,x.device]≠0\/x.folder≠g.folder\/lY x.f g.last=false\/x.pub≠((xM g x.device).getD (0,0)).2\/Gx (IX x)=false\/x.olds.any (λo=> !decide (yT o.w=0))=true then 260
 else if oO Z ((xM g x.by_).getD (0,0)).1 (cy (Cb Z x)) x.sr x.ss=true then 0 else 222
noncomputable def IY (Z:Fx) (g:Gp) (x:Ir):Int:=
 if qj g [x.by_]=1 then 1
 else if qj g [x.by_]≠0\/lY x.g g.last=false\/x.body.length≠48 then 260
 else if oO Z ((xM g x.by_).getD (0,0)).1 (cy (Cc Z x)) x.sr x.ss=true then 0 else 222
theorem Sn{g:Gp}{a b:Int}(h:qj g [a,b]=0):∃m1 m2,xM g a=some m1/\xM g b=some m2/\Gt g [a,b]=[m1,m2]:=by
 have h2:=h;unfold qj at h2;split at h2
 ·cases h2
 split at h2
 ·rename_i ha;simp only[List.all_cons,List.all_nil,Bool.and_true,oh,Option.isSome_iff_exists]at ha;obtain⟨⟨m1,h3⟩,m2,h4⟩:=ha;exact⟨m1,m2,h3,h4,by unfold Gt C0;rw[if_pos h];simp[h3,h4]⟩
 cases h2
theorem Sq{g:Gp}{a:Int}(h:qj g [a]=0):∃m1,xM g a=some m1/\Gt g [a]=[m1]:=by
 have h2:=h;unfold qj at h2;split at h2
 ·cases h2
 split at h2
 ·rename_i ha;simp only[List.all_cons,List.all_nil,Bool.and_true,Option.isSome_iff_exists]at ha;obtain⟨m1,h3⟩:=ha;exact⟨m1,h3,by unfold Gt C0;rw[if_pos h];simp[h3]⟩
 cases h2
theorem Oq(g:Gp)(l:List Int):qj g l=1\/qj g l=2\/qj g l=0:=by unfold qj;split;(simp);split<;>simp
theorem n3n{W:World}{b t:Nat}{fr:Nat×Nat}{xs:List Int}{cs:Array Value}(h:W.heap[b]? =some (.cells cs t fr))(he:cs=(xs.map ab).toArray):ai encI 1 W.heap.size W (aj b) xs:=by subst he;exact EM h
theorem Sen.old{w W:World}{a0 a1:Addr}(h:Sen w a0 a1)(hS:St Gh.no L [] W)(hw:w∈L):Sen W a0 a1:=by
 obtain⟨⟨t,fr,h1⟩,⟨t',CD,h2⟩,⟨c,t2,h3⟩,⟨c',t3,h4⟩,h5⟩:=h;exact⟨⟨t,fr,hS.old hw h1 zL trivial⟩,⟨t',CD,hS.old hw h2 zL trivial⟩,⟨c,t2,hS.old hw h3 zL trivial⟩,⟨c',t3,hS.old hw h4 zL trivial⟩,h5⟩
theorem GA(hZ:FxOk Z)(G:Gv)(x:Gr)(hx:pe x)(N:Nat)(w:World)(hN:N<=w.heap.size)(hG:bT N w G)(hA:GrAt N w x)(hg:Glb w)(a0 a1:Addr)(hse:Sen w a0 a1):Calls prog 39 #[.agg (bD G),.agg (grA x)] w (aM w (ab (AV Z G.g x))):=by
 have hg4:=hg.lt;obtain⟨tg0,fg0,hg0⟩:=hse.g0;refine eN func39 ntmps39 ?_;refine B 2 ?_;refine yX ?_;intro b2 w2 da bW eU dx dq;refine yX ?_;intro b3 w3 hb3 cK fF ez eP;refine XZ ?_;refine B 1 ?_;refine ax (ab x.by_) ?_;refine B 1 ?_;refine ax (ab x.device) ?_;refine Ij ?_;refine yV ?_;intro ei w14 aja ajb anV ZL ajc;refine nG (enc:=AS) (m:=2) (t:=180) (xs:=Gt G.g [x.by_,x.device]) (v:=λs=>.tuple #[s,erV a0 a1 (qj G.g [x.by_,x.device])]) (first:=[]) (cap:=[]) rfl call68 rfl rfl rfl nzh (λW hS=>?_) ?_
 ·have rD:=hS.old A0 aja ajb trivial;exact nho G W.heap.size W (ak _) (hG.up cM hS.sm) [x.by_,x.device] zJ (aj ei) 2 (n3n rD rfl) a0 a1 (hse.old hS A3)
 intro W9 a9 EF IB cu xz jj jG;refine B 9 ?_;rcases Oq G.g [x.by_,x.device]with hE|hE|hE
 ·rw[hE];refine B 2 ?_;refine z5e ?_;refine aF results39 rfl A4 ?_;exact congrArg ab (Eq.symm (by unfold AV;rw[if_pos hE]))
 ·rw[hE];refine zNf ?_;refine B 12 ?_;refine CJ.dj zO ?_;refine fA 0 27 (pb:=by exact zU 1 (k:=by exact aU (X.v (Gy underlying173 rfl rfl)) zT)) (k:=?_);refine zuf ?_;refine fA 32 35 (k:=?_);refine ZM ?_;refine z1e ?_;exact congrArg ab (Eq.symm (by unfold AV;rw[if_neg aa,if_pos (.inl aa)]))
 rw[hE];obtain⟨m1,m2,Sr,ZN,hfd⟩:=Sn hE;rw[hfd]at jj ⊢;obtain⟨bo,oo,cs0,to,fG,rfl,fH,cJ,aW⟩:=jj.get zJ;refine zKf ?_;refine B 12 ?_;by_cases k1:x.folder≠G.g.folder
 ·refine CJ.dj zO ?_;refine fA 0 27 (pb:=by exact zU 7 (k:=by exact aU (X.v (RV.re (v':=cX) (cQ rfl rfl) (vb C1))) zT)) (sp:=(_::_::_::_::(some (ab x.folder))::_::(some (ab G.g.folder))::_)) (k:=?_);refine zuf ?_;refine fA 32 35 (k:=?_);refine ZM ?_;refine z1e ?_;exact congrArg ab (Eq.symm (by unfold AV;rw[if_neg aa,if_pos (.inr (.inl k1))]))
 by_cases k2:lY x.f G.g.last=false
 ·refine CJ.dj zO ?_;refine fA 0 27 (pb:=by exact zU 7 (k:=by exact aU (X.v (RV.re (v':=bG) (cQ rfl rfl) (vb C1))) (zU 6 (k:=by exact aU (X.v (RV.re (v':=cX) (er xu zB nL rfl rfl rfl) (congrArg (λb=>Value.bool (!b)) k2))) zT)))) (sp:=[_,_,_,_,some (ab x.folder),_,some (ab G.g.folder),_,_,_,_,some (.agg (dg x.f)),_,some (.agg (dg G.g.last)),_,_,_,_,_,_,_,_,_,_,_,_,_]) (k:=?_);refine zuf ?_;refine fA 32 35 (k:=?_);refine ZM ?_;refine z1e ?_;exact congrArg ab (Eq.symm (by unfold AV;rw[if_neg aa,if_pos (.inr (.inr (.inl k2)))]))
 by_cases k3:x.pub≠m2.2
 ·refine CJ.dj zO ?_;refine fA 0 27 (pb:=by exact zU 7 (k:=by exact aU (X.v (RV.re (v':=bG) (cQ rfl rfl) (vb C1))) (zU 6 (k:=by exact aU (X.v (RV.re (v':=bG) (er xu zB nL rfl rfl rfl) (congrArg (λb=>Value.bool (!b)) (by simpa using k2)))) (zU 5 (k:=by exact aU (X.v (dd underlying171 sizeOf180 rfl rfl zJ zJ)) (zU 1 (k:=by exact aU (X.v (av (v:=ab m2.2) isAgg3 rfl A0 cJ zL trivial zFc)) (aU (X.v (RV.re (v':=cX) (cQ rfl rfl) (vb C1))) zT))))))))) (sp:=[_,_,_,_,some (ab x.folder),_,some (ab G.g.folder),_,_,_,_,some (.agg (dg x.f)),_,some (.agg (dg G.g.last)),_,_,_,_,some (ab x.pub),_,_,_,_,_,_,_,_]) (k:=?_);refine zuf ?_;refine fA 32 35 (k:=?_);refine ZM ?_;refine z1e ?_;exact congrArg ab (Eq.symm (by unfold AV;rw[if_neg aa,if_pos (.inr (.inr (.inr (.inl (by rw[ZN];exact k3)))))]))
 by_cases k4:Gx (IX x)=false
 ·refine CJ.dj zO ?_;refine fA 0 27 (pb:=by exact zU 7 (k:=by exact aU (X.v (RV.re (v':=bG) (cQ rfl rfl) (vb C1))) (zU 6 (k:=by exact aU (X.v (RV.re (v':=bG) (er xu zB nL rfl rfl rfl) (congrArg (λb=>Value.bool (!b)) (by simpa using k2)))) (zU 5 (k:=by exact aU (X.v (dd underlying171 sizeOf180 rfl rfl zJ zJ)) (zU 1 (k:=by exact aU (X.v (av (v:=ab m2.2) isAgg3 rfl A0 cJ zL trivial zFc)) (aU (X.v (RV.re (v':=bG) (cQ rfl rfl) (vb C1))) zT))))))))) (sp:=[_,_,_,_,some (ab x.folder),_,some (ab G.g.folder),_,_,_,_,some (.agg (dg x.f)),_,some (.agg (dg G.g.last)),_,_,_,_,some (ab x.pub),_,_,_,_,_,_,_,some (.agg (grA x))]) (k:=?_);refine zld ?_;intro W7 a7 CI wk7 IZ Ss jA mq;refine B 1 ?_;refine PJ.dj ?_;refine DJ.one (n:=28) rfl zO ?_;refine call (v:=.bool false) call72 rfl rfl rfl (λW hS=>by have h9:=nhf (IX x) (by have:=hx.few;unfold IX;rw[eG];omega) W.heap.size a7 CI W (ak _) (jA.up (hS.links wk7 A0).size (hS.same A0 (ak _) zI trivial));rw[k4]at h9;exact h9) ?_;refine B 1 ?_;refine zTe ?_;refine fA 32 35 (k:=?_);refine ZM ?_;refine DJ.done ?_;refine B 9 ?_;refine aF results39 rfl A5 ?_;exact congrArg ab (Eq.symm (by unfold AV;rw[if_neg aa,if_pos (.inr (.inr (.inr (.inr (.inl k4)))))]))
 by_cases k5:x.olds.any (λo=> !decide (yT o.w=0))=true
 ·refine CJ.dj zO ?_;refine fA 0 27 (pb:=by exact zU 7 (k:=by exact aU (X.v (RV.re (v':=bG) (cQ rfl rfl) (vb C1))) (zU 6 (k:=by exact aU (X.v (RV.re (v':=bG) (er xu zB nL rfl rfl rfl) (congrArg (λb=>Value.bool (!b)) (by simpa using k2)))) (zU 5 (k:=by exact aU (X.v (dd underlying171 sizeOf180 rfl rfl zJ zJ)) (zU 1 (k:=by exact aU (X.v (av (v:=ab m2.2) isAgg3 rfl A0 cJ zL trivial zFc)) (aU (X.v (RV.re (v':=bG) (cQ rfl rfl) (vb C1))) zT))))))))) (sp:=[_,_,_,_,some (ab x.folder),_,some (ab G.g.folder),_,_,_,_,some (.agg (dg x.f)),_,some (.agg (dg G.g.last)),_,_,_,_,some (ab x.pub),_,_,_,_,_,_,_,some (.agg (grA x))]) (k:=?_);refine zld ?_;intro W7 a7 CI wk7 IZ Ss jA mq;refine B 1 ?_;refine zrd ?_;refine B 1 ?_;refine zTe ?_;refine fA 32 35 (sp:=[_,some (.slice x.oa x.olds.length x.oc),_]) (k:=?_);refine DJ.one (n:=35) rfl zO ?_;refine call (v:=.bool true) call74 rfl rfl rfl (λW hS=>by have h9:=n7e (λo=> !decide (yT o.w=0)) 70 [] call70 x.olds (by have:=hx.few;omega) N x.oa x.oc W cM (hA.ol.up (ak _) hS.sm) (λj y hy W2 hB=>nRl y W2);rw[k5]at h9;exact h9) ?_;refine zOf ?_;refine B 9 ?_;refine aF results39 rfl A5 ?_;exact congrArg ab (Eq.symm (by unfold AV;rw[if_neg aa,if_pos (.inr (.inr (.inr (.inr (.inr k5)))))]))
 refine CJ.dj zO ?_;refine fA 0 27 (pb:=by exact zU 7 (k:=by exact aU (X.v (RV.re (v':=bG) (cQ rfl rfl) (vb C1))) (zU 6 (k:=by exact aU (X.v (RV.re (v':=bG) (er xu zB nL rfl rfl rfl) (congrArg (λb=>Value.bool (!b)) (by simpa using k2)))) (zU 5 (k:=by exact aU (X.v (dd underlying171 sizeOf180 rfl rfl zJ zJ)) (zU 1 (k:=by exact aU (X.v (av (v:=ab m2.2) isAgg3 rfl A0 cJ zL trivial zFc)) (aU (X.v (RV.re (v':=bG) (cQ rfl rfl) (vb C1))) zT))))))))) (sp:=[_,_,_,_,some (ab x.folder),_,some (ab G.g.folder),_,_,_,_,some (.agg (dg x.f)),_,some (.agg (dg G.g.last)),_,_,_,_,some (ab x.pub),_,_,_,_,_,_,_,some (.agg (grA x))]) (k:=?_);refine zld ?_;intro W7 a7 CI wk7 IZ Ss jA mq;refine B 1 ?_;refine zrd ?_;refine B 1 ?_;refine zTe ?_;refine fA 32 35 (sp:=[_,some (.slice x.oa x.olds.length x.oc),_]) (k:=?_);refine DJ.one (n:=35) rfl zO ?_;refine call (v:=.bool false) call74 rfl rfl rfl (λW hS=>by have h9:=n7e (λo=> !decide (yT o.w=0)) 70 [] call70 x.olds (by have:=hx.few;omega) N x.oa x.oc W cM (hA.ol.up (ak _) hS.sm) (λj y hy W2 hB=>nRl y W2);rw[show x.olds.any (λo=> !decide (yT o.w=0))=false by simpa using k5]at h9;exact h9) ?_;refine zOf ?_;refine B 6 ?_;have jf:∀o∈x.olds,o.w.body.length<=65552:=λo ho=>by
  have h8:x.olds.any (λo=> !decide (yT o.w=0))=false:=by simpa using k5
  have h9:=List.any_eq_false.1 h8 o ho;exact(ny.1 (by simpa using h9)).2.2
 refine eS 8 5 [] (pb:=by exact zU 1 (k:=by exact aU (X.v (dd underlying171 sizeOf180 rfl rfl zJ zJ)) (zU 1 (k:=by exact aU (X.v (av (v:=ab m1.1) isAgg3 rfl A1 cJ zL trivial (by have:=yQ (enc:=λx:Mm=>(AS x).toArray) (n:=2) aW (i:=0) (show[m1,m2][0]? =some m1 from rfl) rfl 0 zB;simpa[AS]using this))) zT)))) (sp:=[_,_,_,_,some (.agg (grA x)),_,_,some (.agg #[ab x.sr,ab x.ss])]) (h:=?_);intro _ _ hk;refine nv (α:=Nat) (v:=λb=>.slice (aj b) 32 32) (Φ:=λW b w1=>W.heap.size<=b/\w1.heap[b]? =some (oC (dg (Cb Z x)) 33)) call76 rfl rfl rfl (λW hS=>nmo hZ x hx jf N W cM (hA.up (ak _) hS.sm) (hg.old hS A5 zI trivial)) ?_;rintro Wm bm wm vY Ke ⟨hq0,ot⟩;refine zE ?_;refine call (v:=.bool (oO Z m1.1 (cy (Cb Z x)) x.sr x.ss)) call75 rfl rfl rfl (λW hS=>by have h9:=nSc hZ m1.1 x.sr x.ss (cy (Cb Z x)) bm 0 32 (by rw[nR];decide) W (cj.dg (hS.old A0 ot zL trivial) (hZ.byt _ _)) (hg.old hS A6 zI trivial);rw[nR]at h9;exact h9) ?_;refine B 3 ?_;refine aG ?_ ?_
 ·intro ar;refine B 7 ?_;refine aF results39 rfl A6 ?_;exact congrArg ab (Eq.symm zQb)
 intro ar;refine B 8 ?_;refine aF results39 rfl A6 ?_;exact congrArg ab (Eq.symm zQb)
theorem nYo(hZ:FxOk Z)(G:Gv)(x:Ir)(hx:IrGood x)(N:Nat)(w:World)(hN:N<=w.heap.size)(hG:bT N w G)(qx:ByAt N w x.ba x.body)(hg:Glb w)(a0 a1:Addr)(hse:Sen w a0 a1):Calls prog 40 #[.agg (bD G),.agg (irA x)] w (aM w (ab (IY Z G.g x))):=by
 have hg4:=hg.lt;obtain⟨tg0,fg0,hg0⟩:=hse.g0;refine eN func40 ntmps40 ?_;refine B 2 ?_;refine yX ?_;intro b2 w2 da bW eU dx dq;refine yX ?_;intro b3 w3 hb3 cK fF ez eP;refine XZ ?_;refine B 1 ?_;refine ax (ab x.by_) ?_;refine Ij ?_;refine yV ?_;intro gG WB Jw Jx WC yt DC;refine nG (enc:=AS) (m:=2) (t:=180) (xs:=Gt G.g [x.by_]) (v:=λs=>.tuple #[s,erV a0 a1 (qj G.g [x.by_])]) (first:=[]) (cap:=[]) rfl call68 rfl rfl rfl nzh (λW hS=>?_) ?_
 ·have rD:=hS.old A0 Jw Jx trivial;exact nho G W.heap.size W (ak _) (hG.up cM hS.sm) [x.by_] zJ (aj gG) 1 (n3n rD rfl) a0 a1 (hse.old hS A3)
 intro W9 a9 EF IB cu xz jj jG;refine B 9 ?_;rcases Oq G.g [x.by_]with hE|hE|hE
 ·rw[hE];refine B 2 ?_;refine z5e ?_;refine aF results40 rfl A4 ?_;exact congrArg ab (Eq.symm (by unfold IY;rw[if_pos hE]))
 ·rw[hE];refine zNf ?_;refine B 9 ?_;refine rv rfl rfl rfl (Gy underlying173 rfl rfl) ?_;refine B 23 ?_;refine aF results40 rfl A4 ?_;exact congrArg ab (Eq.symm (by unfold IY;rw[if_neg aa,if_pos (.inl aa)]))
 rw[hE];obtain⟨m1,Sr,hfd⟩:=Sq hE;rw[hfd]at jj ⊢;obtain⟨bo,oo,cs0,to,fG,rfl,fH,cJ,aW⟩:=jj.get zJ;refine zKf ?_;refine B 7 ?_;by_cases k2:lY x.g G.g.last=false
 ·refine B 5 ?_;refine ax (.agg (dg x.g)) ?_;refine B 1 ?_;refine ax (.agg (dg G.g.last)) ?_;refine rq cX (er xu zB nL rfl rfl rfl) (congrArg (λb=>Value.bool (!b)) k2) ?_;refine B 17 ?_;refine aF results40 rfl A4 ?_;exact congrArg ab (Eq.symm (by unfold IY;rw[if_neg aa,if_pos (.inr (.inl k2))]))
 by_cases k3:x.body.length≠48
 ·refine zDf ?_;refine rq cX (cQ rfl rfl) (vb C1) ?_;refine B 11 ?_;refine aF results40 rfl A4 ?_;exact congrArg ab (Eq.symm (by unfold IY;rw[if_neg aa,if_pos (.inr (.inr k3))]))
 refine zDf ?_;refine rq bG (cQ rfl rfl) (vb C1) ?_;refine B 8 ?_;refine eS 8 5 [] (pb:=by exact zU 1 (k:=by exact aU (X.v (dd underlying171 sizeOf180 rfl rfl zJ zJ)) (zU 1 (k:=by exact aU (X.v (av (v:=ab m1.1) isAgg3 rfl A0 cJ zL trivial (by have:=yQ (enc:=λx:Mm=>(AS x).toArray) (n:=2) aW (i:=0) (show[m1][0]? =some m1 from rfl) rfl 0 zB;simpa[AS]using this))) zT)))) (sp:=[_,_,_,_,some (.agg (irA x)),_,_,some (.agg #[ab x.sr,ab x.ss])]) (h:=?_);intro _ _ hk;refine nv (α:=Nat) (v:=λb=>.slice (aj b) 32 32) (Φ:=λW b w1=>W.heap.size<=b/\w1.heap[b]? =some (oC (dg (Cc Z x)) 33)) call77 rfl rfl rfl (λW hS=>nxp hZ x hx (by have h9:=Classical.not_not.1 k3;omega) N W cM (qx.up (ak _) hS.sm) (hg.old hS A4 zI trivial)) ?_;rintro Wm bm wm vY Ke ⟨hq0,ot⟩;refine zE ?_;refine call (v:=.bool (oO Z m1.1 (cy (Cc Z x)) x.sr x.ss)) call75 rfl rfl rfl (λW hS=>by have h9:=nSc hZ m1.1 x.sr x.ss (cy (Cc Z x)) bm 0 32 (by rw[nR];decide) W (cj.dg (hS.old A0 ot zL trivial) (hZ.byt _ _)) (hg.old hS A5 zI trivial);rw[nR]at h9;exact h9) ?_;refine B 3 ?_;refine aG ?_ ?_
 ·intro ar;refine B 7 ?_;refine aF results40 rfl A5 ?_;exact congrArg ab (Eq.symm zlc)
 intro ar;refine B 8 ?_;refine aF results40 rfl A5 ?_;exact congrArg ab (Eq.symm zlc)
theorem Sen.oldG{w W:World}{a0 a1:Addr}{G:Gh}{H:ad}(h:Sen w a0 a1)(hS:St G L H W)(hw:w∈L)(hX:∀k,k<w.heap.size->¬G.X k)(hO:Over w.heap.size H):Sen W a0 a1:=by
 have hs:=hS.same hw (ak _) hX hO;have key:∀{b:Nat} {o:Obj},w.heap[b]? =some o->W.heap[b]? =some o:=λ{b o} hb=>(hs b (aT.1 hb).1).trans hb;obtain⟨⟨t,fr,h1⟩,⟨t',CD,h2⟩,⟨c,t2,h3⟩,⟨c',t3,h4⟩,h5⟩:=h;exact⟨⟨t,fr,key h1⟩,⟨t',CD,key h2⟩,⟨c,t2,key h3⟩,⟨c',t3,key h4⟩,h5⟩
def ZO (ps:List Ap) (f:Nat->Int):Option Ap:=ps.find? λp=>lY p.2.2.2.last f
theorem Ot(pls:List Pl)(f:Nat->Int):ZO (pls.map bC) f=(pJ pls f).map bC:=by
 unfold ZO pJ;rw[List.find?_map];rfl
noncomputable def LC (ps:List Ap) (pub:Int) (o:Ol):List (List Se×Se):=if(ZO ps o.f).isSome=true then[([aS pub],bE (dk o.f))]else[]
noncomputable def C2 (Z:Fx) (ps:List Ap) (x:Gr):List (List Se×Se):=match ZO ps x.f with|some p=>if AV Z p.2.2.2 x=0 then x.olds.flatMap (LC ps x.pub)else[]|none=>[]
noncomputable def I0 (Z:Fx) (ps:List Ap) (x:Ir):List (List Se×Se):=match ZO ps x.g with|some p=>if IY Z p.2.2.2 x=0 then[([bE (dk x.f)],bE (dk x.g))]else[]|none=>[]
noncomputable def mP (Z:Fx) (cs:List Cm) (fos:List Fo) (gs:List Gr) (xs:List Ir):List (List Se×Se):=
 (iE Z cs fos).flatMap lA++gs.flatMap (C2 Z (iE Z cs fos))++xs.flatMap (I0 Z (iE Z cs fos))
theorem Su{x:Gr}(h:pJ pls x.f=none):C2 Z (pls.map bC) x=[]:=by unfold C2;rw[Ot,h];rfl
theorem n4n{x:Gr}{p:Pl}(h:pJ pls x.f=some p)(hc:AV Z p.x.g x≠0):C2 Z (pls.map bC) x=[]:=by unfold C2;rw[Ot,h];exact if_neg hc
theorem Sv{x:Gr}{p:Pl}(h:pJ pls x.f=some p)(hc:AV Z p.x.g x=0):C2 Z (pls.map bC) x=x.olds.flatMap (LC (pls.map bC) x.pub):=by unfold C2;rw[Ot,h];exact if_pos hc
theorem Sw{x:Ir}(h:pJ pls x.g=none):I0 Z (pls.map bC) x=[]:=by unfold I0;rw[Ot,h];rfl
theorem LD{x:Ir}{p:Pl}(h:pJ pls x.g=some p)(hc:IY Z p.x.g x≠0):I0 Z (pls.map bC) x=[]:=by unfold I0;rw[Ot,h];exact if_neg hc
theorem Sx{x:Ir}{p:Pl}(h:pJ pls x.g=some p)(hc:IY Z p.x.g x=0):I0 Z (pls.map bC) x=[([bE (dk x.f)],bE (dk x.g))]:=by unfold I0;rw[Ot,h];exact if_pos hc
theorem LF{pub:Int}{o:Ol}(h:(pJ pls o.f).isSome=true):LC (pls.map bC) pub o=[([aS pub],bE (dk o.f))]:=by unfold LC;rw[Ot,Option.isSome_map,if_pos h]
theorem Sy{pub:Int}{o:Ol}(h:(pJ pls o.f).isSome=false):LC (pls.map bC) pub o=[]:=by unfold LC;rw[Ot,Option.isSome_map,h];rfl
theorem nvm{F:ad}{ds:List Dv}{s to:Se}{b t c:Nat}(h:∀d∈ds,xL F d):∀d∈ds++[(⟨[s],to,some ⟨b,0,none⟩,c⟩:Dv)],xL ((b,oC (seA s) t)::F) d:=by
 intro d hd;rcases bA.1 hd with hd|hd
 ·exact(h d hd).mono λq hq=>.tail _ hq
 rw[kf.1 hd];refine⟨by simp,.inr ⟨b,0,_,_,_,rfl,.head _,λi hi=>?_⟩⟩;have h0:i=0:=by simp only[dC,fb]at hi;omega
 subst h0;exact⟨ak _,rfl⟩
theorem Sz(hZ:FxOk Z)(cs:List Cm)(cJ:cs.length<=1000)(dz:∀c∈cs,bP c)(N:Nat)(la:Option Addr)(lc:Nat)(w:World)(hN:N<=w.heap.size)(aJ:ai cG 73 N w la cs)(hC:∀c∈cs,dm N w c)(fa:Option Addr)(fos:List Fo)(fc:Nat)(jV:fos.length<=10)(lQ:cs.length<=10)(ru:ai sR 33 N w fa fos)(ga:Option Addr)(gs:List Gr)(gc:Nat)(Pr:gs.length<=10)(ZP:ai grA 39 N w ga gs)(SA:∀g∈gs,pe g)(Vt:∀g∈gs,GrAt N w g)(ia:Option Addr)(xs:List Ir)(ic:Nat)(lk:xs.length<=10)(his:ai irA 68 N w ia xs)(hii:∀x∈xs,IrGood x)(wS:∀x∈xs,ByAt N w x.ba x.body)(o1 o5 o6 o7:Value)(hg:Glb w)(a0 a1:Addr)(hse:Sen w a0 a1):Calls prog 47 #[.agg #[.slice fa fos.length fc,o1,.slice la cs.length lc,.slice ga gs.length gc,.slice ia xs.length ic,o5,o6,o7]] w (λe w'=>∃(ds:List Dv) (r:Rw) (F':ad),e= .returned (r.val ds.length)/\Below w.heap.size w w'/\r.ge w.heap.size/\r.Fit 36 ds/\r.At gQ 142 ds w'/\(∀p∈F',w.heap.size<=p.1/\w'.heap[p.1]? =some p.2/\¬r.isAt p.1)/\ds.map gE=mP Z cs fos gs xs/\(∀d∈ds,xL F' d)/\ds.length<=21000):=by
 have hg4:=hg.lt;refine nB (dI []) [] (vs:=[_]) func47 rfl ntmps47 rfl (N0 w) ?_;refine B 2 ?_;refine yX ?_;intro b1 w1 hb1 cF gA fX jq;refine B 5 ?_;refine zwe ?_;refine Vb (γ:=(Option Addr×Nat)×List Pl) (v:=λq=>.slice q.1.1 q.2.length q.1.2) (Φ:=λF' q=>q.2.map bC=iE Z cs fos/\(∀p∈q.2,Ln F' p/\p.c∈cs)/\q.2.length<=100/\ll (λx=>(zt x).toArray) 111 F' q.1.1 q.2) call30 rfl rfl rfl (λW hS=>nQh hZ cs cJ dz N la lc W cM (aJ.up (ak _) hS.sm) (λc hc=>(hC c hc).up (ak _) hS.sm) fa fos fc jV lQ (ru.up (ak _) hS.sm) o1 _ _ o5 o6 o7 (hg.old hS A1 zI trivial)) ?_;rintro⟨⟨pa,xN⟩,pls⟩ F1 ⟨rV,C3,im,xO⟩ zj;dsimp only at rV C3 im xO ⊢;have xO:ll kh 111 F1 pa pls:=xO;obtain⟨F0,Vj⟩:∃F0,F1++[]=F0:=⟨_,rfl⟩;rw[Vj];have xO:ll kh 111 F0 pa pls:=xO.mono (λq hq=>Vj▸bA.2 (.inl hq));have C3:∀p∈pls,Ln F0 p/\p.c∈cs:=λp hp=>⟨(C3 p hp).1.mono (λq hq=>Vj▸bA.2 (.inl hq)),(C3 p hp).2⟩;have ajh:∀q∈F0,w.heap.size<=q.1:=λq hq=>by rw[<-Vj,dV]at hq;exact(zj q hq).mem w A1
 refine B 1 ?_;refine yW ?_;intro b3 ez eP;refine B 18 ?_;refine CJ.loop (α:=((Rw×List Dv)×ad)×Nat) (λp9=>[(1,ptr b1 0),(2,p9.1.1.1.val p9.1.1.2.length),(4,.func (.func 92) #[] #[ptr b3 0]),(22,.slice pa pls.length xN),(23,ab (pls.length:Int)),(24,ab (p9.2:Int))]) (λp9=>[(b3,oC #[.slice pa pls.length xN] 89)]++(p9.1.1.1.hp gQ 142 p9.1.1.2++[])) (λp9=>[w1,w]) (λp9=>dI p9.1.2) (λp9=>p9.2<=pls.length/\p9.1.1.1.Fr (dI p9.1.2) [w1,w]/\p9.1.1.1.Fit 36 p9.1.1.2/\p9.1.1.2.map gE=(pls.take p9.2).flatMap (λp=>lA (bC p))/\(∀d∈p9.1.1.2,xL p9.1.2 d)/\p9.1.1.2.length<=p9.2*200/\(∀q∈p9.1.2,w.heap.size<=q.1)/\∀q∈F0,q∈p9.1.2) (λp9=>pls.length-p9.2) (((.nil,[]),F0),0) ⟨cV _,True.intro,rfl,rfl,by simp,ak _,ajh,λq hq=>hq⟩ zR rfl rfl zJ ?_;rintro⟨⟨⟨r,ds⟩,F⟩,i⟩ ⟨hi,aK,ah,aQ,iq,vN,dS,jI⟩;dsimp only at hi aK ah aQ iq vN dS jI ⊢;have bH:r.ge w1.heap.size:=Rw.ge_fz aK A0;refine B 6 ?_;refine aG ?_ ?_
 ·intro ar;refine B 5 ?_;obtain⟨bp,op,csp,tp,frp,Vu,Cr,hcp⟩:=(xO.mono jI).get aa;obtain⟨p,hp⟩:=ng pls i aa;refine B 1 ?_;refine zEd ?_;refine B 1 ?_;refine yW ?_;intro b6 jD qu;refine B 5 ?_;refine ax (.agg (kh p)) ?_;refine Pw (α:=Nat) (v:=λb:Nat=>.func (.func 166) #[] #[ptr b 0]) (bo:=λb=>(b,oC (kh p) 92)) (Φ:=λ_=>True) call96 rfl rfl rfl (λW hS=>(nlj p W).mono (λe w1 h=>?_)) ?_
  ·obtain⟨b,h1,h2,h3,h4⟩:=h;exact⟨b,h1,h2,h3,trivial,h4⟩
  intro bd had hod _;dsimp only at had hod ⊢;replace had:=yb had;refine nnn (H0:=[(bd,oC (kh p) 92),(b6,oC (kh p) 92),(b3,oC #[.slice pa pls.length xN] 89)]) (H1:=[]) (r:=r) (xs:=ds) (enc:=gQ) (m:=36) (t:=142) (γ:=List Dv) (ys:=λz=>ds++z) (v:=λz r'=>r'.val (ds++z).length) (Φ:=λF' z=>z.map gE=lA (bC p)/\z.length<=200/\∀d∈z,xL F' d) (first:=[]) (cap:=[]) rfl aK rfl call95 rfl rfl rfl (λW hS=>?_) ?_
  ·have fj:r.At gQ 142 ds W:=by
    cases r with
    |nil=>trivial
    |row b c sp=>exact hS.own (b,_) oR
   have hbd:=hS.own (bd,_) A0;have hwW:=(hS.links w A1).size;have GB:=C3 p (cP hp);have vz:=(hC p.c GB.2).up (ak _) (hS.same A1 hN zI zH);have hFl:∀q∈F,q.1<W.heap.size/\W.heap[q.1]? =some q.2:=hS.fzLies;have RL:=(GB.1.ns.mono jI).at hFl;have rW:∀k,k∈F.map (·.1)->¬r.isAt k:=λk hk hr=>by
    have h8:=Rw.mem_at (enc:=gQ) (t:=142) (xs:=ds) hr;obtain⟨q,hq,rfl⟩:=bY.1 h8;exact hS.apart q (by simp[hq]) hk
   have Ic:∀k,k<N->k<W.heap.size/\¬r.isAt k:=λk hk=>⟨by omega,λhr=>by have:=Rw.ge_at bH hr;omega⟩;have SB:∀{α:Type} {enc:α->Array Value} {n:Nat} {a:Option Addr} {ys:List α} {k:Nat},ai enc n N W a ys->(ys≠ []/\∃off,a=some ⟨k,off,none⟩)->k<W.heap.size/\¬r.isAt k:=λ{α enc n a ys k} h hk=>by
    obtain⟨h1,off,h2⟩:=hk;rcases h with h|⟨b,off',fC,t',CD,e1,e2,_⟩
    ·exact absurd h h1
    rw[h2]at e1;cases e1;exact Ic _ e2
   refine(ngm (a:=bC p) (f:=166) (cap:=[ptr bd 0]) (RO:=RW bd p) call166 r ds W ah aa fj (λk hk=>?_) (λW2 hB=>?_)).mono ?_
   ·rcases hk with rfl|⟨h1,off,h2⟩|hk|hk|hk
    ·exact⟨(aT.1 hbd).1,λhr=>by
      have h8:=Rw.mem_at (enc:=gQ) (t:=142) (xs:=ds) hr;simp only[aY,jB,gi,ef,dV]at hod;exact(aY.mem hod.2.2) h8⟩
    ·rcases GB.1.ns.mono jI with h|⟨b,off',fC,t',CD,e1,e2,_⟩
     ·exact absurd h h1
     rw[h2]at e1;cases e1;exact⟨(hFl _ e2).1,rW _ (bY.2 ⟨_,e2,rfl⟩)⟩
    ·exact SB vz.bxs hk
    ·exact SB vz.path hk
    exact SB vz.wes hk
   ·have up:∀{α:Type} {enc:α->Array Value} {n:Nat} {a:Option Addr} {ys:List α},ai enc n N W a ys->ai enc n W.heap.size W2 a ys:=λh=>h.up aa (λk hk=>hB.block k aa);exact(Lw p bd W.heap.size W2 hB.size (by rw[hB.block bd (aT.1 hbd).1];exact hbd) (RL.up (ak _) (λk hk=>hB.block k hk)) GB.1.nn (up vz.bxs) (up vz.path) (up vz.wes) (dz p.c GB.2).few).fin λys Z v h=>⟨h.1,λd hd=>(h.2 d hd).low hB.size⟩
   rintro e w' ⟨z,r',rfl,hk,jw,bN,ajl,hz,BM⟩;obtain⟨F',h1,h2⟩:=Gk z BM;exact⟨z,r',F',rfl,hk,jw,bN,ajl,λq hq=>⟨(h1 q hq).1,(h1 q hq).2.1,(h1 q hq).2.2⟩,hz.1,hz.2,h2⟩
  rintro z r' F' ⟨gA,eU,fF⟩ ZQ ajm vD;refine CH ?_;refine ag (((r',ds++z),F'++F),i+1) ⟨by dsimp only;omega,ajm,ZQ,by dsimp only;rw[CY hp,gb,aQ,gA],λd hd=>(bA.1 hd).elim (λh=>(iq d h).mono (λq hq=>bA.2 (.inr hq))) (λh=>(fF d h).mono (λq hq=>bA.2 (.inl hq))),by dsimp only;rw[ck];omega,λq hq=>(bA.1 hq).elim (λh=>(vD q h).mem w A1) (dS q),λq hq=>bA.2 (.inr (jI q hq))⟩
 intro ar;refine B 9 ?_;refine ax (.slice ga gs.length gc) ?_;refine B 5 ?_;have hi0:i=pls.length:=by omega
 rw[hi0,vW]at aQ;refine CJ.loop (α:=((Rw×List Dv)×ad)×Nat) (λp9=>[(1,ptr b1 0),(2,p9.1.1.1.val p9.1.1.2.length),(4,.func (.func 92) #[] #[ptr b3 0]),(34,.slice ga gs.length gc),(35,ab (gs.length:Int)),(36,ab (p9.2:Int))]) (λp9=>[(b3,oC #[.slice pa pls.length xN] 89)]++(p9.1.1.1.hp gQ 142 p9.1.1.2++[])) (λp9=>[w1,w]) (λp9=>dI p9.1.2) (λp9=>p9.2<=gs.length/\p9.1.1.1.Fr (dI p9.1.2) [w1,w]/\p9.1.1.1.Fit 36 p9.1.1.2/\p9.1.1.2.map gE=pls.flatMap (λp=>lA (bC p))++(gs.take p9.2).flatMap (C2 Z (pls.map bC))/\(∀d∈p9.1.1.2,xL p9.1.2 d)/\p9.1.1.2.length<=20000+p9.2*6/\(∀q∈p9.1.2,w.heap.size<=q.1)/\∀q∈F0,q∈p9.1.2) (λp9=>gs.length-p9.2) (((r,ds),F),0) ⟨cV _,aK,ah,by dsimp only;rw[aQ];simp,iq,by dsimp only;omega,dS,jI⟩ zR rfl rfl zJ ?_;rintro⟨⟨⟨r,ds⟩,F⟩,i⟩ ⟨hi,aK,ah,aQ,iq,vN,dS,jI⟩;dsimp only at hi aK ah aQ iq vN dS jI ⊢;have bH:r.ge w1.heap.size:=Rw.ge_fz aK A0;refine B 6 ?_;refine aG ?_ ?_
 ·intro aN;refine B 5 ?_;obtain⟨bg,og,csg,tg,frg,rfl,Lq,ZR,ry⟩:=ZP.get aa;obtain⟨g,ZS⟩:=ng gs i aa;have tG:=cP ZS;have SC:=SA g tG;have hgf:=SC.few;refine B 2 ?_;refine ax (.agg (grA g)) ?_;refine B 1 ?_;refine yW ?_;intro b8 Ik Il;refine B 7 ?_;refine ax (.agg (dg g.f)) ?_;refine Bu (f:=92) (cap:=[ptr b3 0]) (v:=fnV (pJ pls g.f)) rfl call92 rfl rfl rfl (λW hS=>nzj pls aa g.f W.heap.size pa xN b3 W (ak _) (hS.own (b3,_) A1) ((xO.mono jI).at hS.fzLies)) ?_;refine B 1 ?_;refine ax (.agg (kh ((pJ pls g.f).getD Vq))) ?_;refine ax (.bool (pJ pls g.f).isSome) ?_;refine B 1 ?_;refine yW ?_;intro b9 xn tk;refine B 6 ?_;cases LG:pJ pls g.f with
  |none=>
   refine B 2 ?_;refine ax cX ?_;refine B 18 ?_;refine B4 ?_;refine ag (((r,ds),F),i+1) ⟨by dsimp only;omega,aK,ah,by dsimp only;rw[CY ZS,aQ];rw[Su LG];simp,iq,by dsimp only;omega,dS,jI⟩
  |some p=>
   have GB:=C3 p (List.mem_of_find?_eq_some LG);refine xv ?_;refine B 2 ?_;refine ax (.agg (bD p.x)) ?_;refine ax (.agg (grA g)) ?_;refine call (v:=ab (AV Z p.x.g g)) call39 rfl rfl rfl (λW hS=>GA hZ p.x g (SC) W.heap.size W (ak _) ((GB.1.x.mono jI).lies hS.fzLies) ((Vt g tG).up (by have:=(hS.links w A1).size;omega) (hS.same A1 hN zI zH)) (hg.old hS A1 zI zH) a0 a1 (hse.oldG hS A1 zI zH)) ?_;refine B 4 ?_;refine aG ?_ ?_
   ·intro dc;refine CH ?_;exact zFg
   intro dc;refine B 3 ?_;have jH:AV Z p.x.g g=0:=by first|assumption|simp_all
   refine B 2 ?_;refine ax (.slice g.oa g.olds.length g.oc) ?_;refine B 5 ?_;refine CJ.loop (α:=((Rw×List Dv)×ad)×Nat) (λp8=>[(1,ptr b1 0),(2,p8.1.1.1.val p8.1.1.2.length),(4,.func (.func 92) #[] #[ptr b3 0]),(8,ptr b8 0),(34,.slice (some ⟨bg,og,none⟩) gs.length gc),(35,ab (gs.length:Int)),(36,ab (i:Int)),(57,.slice g.oa g.olds.length g.oc),(58,ab (g.olds.length:Int)),(59,ab (p8.2:Int))]) (λp8=>[(b9,oC (kh p) 92),(b8,oC (grA g) 87),(b3,oC #[.slice pa pls.length xN] 89)]++(p8.1.1.1.hp gQ 142 p8.1.1.2++[])) (λp8=>[w1,w]) (λp8=>dI p8.1.2) (λp8=>p8.2<=g.olds.length/\p8.1.1.1.Fr (dI p8.1.2) [w1,w]/\p8.1.1.1.Fit 36 p8.1.1.2/\p8.1.1.2.map gE=pls.flatMap (λp=>lA (bC p))++(gs.take i).flatMap (C2 Z (pls.map bC))++(g.olds.take p8.2).flatMap (LC (pls.map bC) g.pub)/\(∀d∈p8.1.1.2,xL p8.1.2 d)/\p8.1.1.2.length<=20000+i*6+p8.2/\(∀q∈p8.1.2,w.heap.size<=q.1)/\∀q∈F0,q∈p8.1.2) (λp8=>g.olds.length-p8.2) (((r,ds),F),0) ⟨cV _,aK,ah,by dsimp only;rw[aQ];simp,iq,by dsimp only;omega,dS,jI⟩ zR rfl rfl zJ ?_;rintro⟨⟨⟨r,ds⟩,F⟩,j⟩ ⟨hj,aK,ah,aQ,iq,vN,dS,jI⟩;dsimp only at hj aK ah aQ iq vN dS jI ⊢;have bH:r.ge w1.heap.size:=Rw.ge_fz aK A0;refine B 6 ?_;refine aG ?_ ?_
   ·intro jo;refine B 5 ?_;obtain⟨bq,oq,Qj,tq,Qk,gU,oT,yK,pY⟩:=(Vt g tG).ol.get aa;obtain⟨o,ho⟩:=ng g.olds j aa;rw[gU];refine B 2 ?_;refine ax (.agg (u3 o)) ?_;refine B 1 ?_;refine yW ?_;intro ik Kb Kc;refine B 7 ?_;refine ax (.agg (dg o.f)) ?_;refine Bu (f:=92) (cap:=[ptr b3 0]) (v:=fnV (pJ pls o.f)) rfl call92 rfl rfl rfl (λW hS=>nzj pls aa o.f W.heap.size pa xN b3 W (ak _) (hS.own (b3,_) A3) ((xO.mono jI).at hS.fzLies)) ?_;refine B 1 ?_;refine ax (.agg (kh ((pJ pls o.f).getD Vq))) ?_;refine ax (.bool (pJ pls o.f).isSome) ?_;refine B 1 ?_;refine yW ?_;intro Um yw Bw;refine B 9 ?_;refine aG ?_ ?_
    ·intro ij;refine eS 10 4 [8,9] (pb:=by exact zU 3 (k:=by exact aU (nf call29 rfl rfl (λW hS _=>nye _ W) (λ_=>rfl)) (zU 3 (k:=by exact aU (nf call97 rfl rfl (λW hS _=>Zj _ W) (λ_=>rfl)) zT)))) (sp:=[_,_,some (ab g.pub),_,_,_,some (.agg (dg o.f)),_,_,_]) (h:=?_);intro _ _ hk;refine IS ?_;intro bs ru gP;refine zG ?_;intro _ _ hk;refine ax (.agg (uW (⟨[(aS g.pub)],(bE (dk o.f)),some ⟨bs,0,none⟩,1⟩:Dv))) ?_;refine zG ?_;intro _ _ hk;refine zje ?_;intro bo uI gP;refine zE ?_;refine jS (r:=r) (xs:=ds) (zs:=[(⟨[(aS g.pub)],(bE (dk o.f)),some ⟨bs,0,none⟩,1⟩:Dv)]) (enc:=gQ) (m:=36) (H0:=[(bo,oC (uW (⟨[(aS g.pub)],(bE (dk o.f)),some ⟨bs,0,none⟩,1⟩:Dv)) 142),(bs,oC (seA (aS g.pub)) 35),(Um,oC (kh ((pJ pls o.f).getD Vq)) 92),(ik,oC (u3 o) 119),(b9,oC (kh p) 92),(b8,oC (grA g) 87),(b3,oC #[.slice pa pls.length xN] 89)]) (H1:=[]) zX nnl FX rfl rfl rfl rfl (bO.one (z:=(⟨[(aS g.pub)],(bE (dk o.f)),some ⟨bs,0,none⟩,1⟩:Dv)) FX neh underlying138 (bB.own (i:=0) rfl)) ah aK zJ Az ?_;intro b81 ajn ZT SD SE;replace SD:=yb SD;refine B 8 ?_;refine UW ?_;refine PJ.fz [(bs,oC (seA (aS g.pub)) 35)] (H':=[(Um,oC (kh ((pJ pls o.f).getD Vq)) 92),(ik,oC (u3 o) 119),(b9,oC (kh p) 92),(b8,oC (grA g) 87),(b3,oC #[.slice pa pls.length xN] 89)]++((b81,aO gQ 142 (ds++[(⟨[(aS g.pub)],(bE (dk o.f)),some ⟨bs,0,none⟩,1⟩:Dv)]) ZT)::[])) (List.Perm.refl _) (by intro p hp;simp at hp;subst hp;exact ru) ?_
     refine B4 ?_;refine ag (((Rw.row b81 ajn ZT,ds++[(⟨[(aS g.pub)],(bE (dk o.f)),some ⟨bs,0,none⟩,1⟩:Dv)]),(bs,oC (seA (aS g.pub)) 35)::F),j+1) ⟨by dsimp only;omega,SD.elim (λh=>Rw.Fr_at aK h) (λh=>.inr h),SE,by dsimp only;rw[gb,aQ];rw[CY ho,LF eC];simp[gE],by dsimp only;exact nvm iq,by dsimp only;simp only[ck,dC,fb];omega,λq hq=>by rcases bX.1 hq with rfl|hq;(exact ru.mem w A1);exact dS q hq,λq hq=>.tail _ (jI q hq)⟩
    intro ij;refine Re ?_;refine ag (((r,ds),F),j+1) ⟨by dsimp only;omega,aK,ah,by dsimp only;rw[CY ho,aQ,Sy eC];simp,iq,by dsimp only;omega,dS,jI⟩
   intro jo;refine B 10 ?_;refine B4 ?_;exact zFg
 intro aN;refine B 9 ?_;refine ax (.slice ia xs.length ic) ?_;refine B 5 ?_;have pT:i=gs.length:=by omega
 rw[pT,vW]at aQ;refine CJ.loop (α:=((Rw×List Dv)×ad)×Nat) (λp9=>[(2,p9.1.1.1.val p9.1.1.2.length),(4,.func (.func 92) #[] #[ptr b3 0]),(85,.slice ia xs.length ic),(86,ab (xs.length:Int)),(87,ab (p9.2:Int))]) (λp9=>[(b3,oC #[.slice pa pls.length xN] 89)]++(p9.1.1.1.hp gQ 142 p9.1.1.2++[])) (λp9=>[w1,w]) (λp9=>dI p9.1.2) (λp9=>p9.2<=xs.length/\p9.1.1.1.Fr (dI p9.1.2) [w1,w]/\p9.1.1.1.Fit 36 p9.1.1.2/\p9.1.1.2.map gE=pls.flatMap (λp=>lA (bC p))++gs.flatMap (C2 Z (pls.map bC))++(xs.take p9.2).flatMap (I0 Z (pls.map bC))/\(∀d∈p9.1.1.2,xL p9.1.2 d)/\p9.1.1.2.length<=20060+p9.2/\(∀q∈p9.1.2,w.heap.size<=q.1)/\∀q∈F0,q∈p9.1.2) (λp9=>xs.length-p9.2) (((r,ds),F),0) ⟨cV _,aK,ah,by dsimp only;rw[aQ];simp,iq,by dsimp only;omega,dS,jI⟩ zR rfl rfl zJ ?_;rintro⟨⟨⟨r,ds⟩,F⟩,i⟩ ⟨hi,aK,ah,aQ,iq,vN,dS,jI⟩;dsimp only at hi aK ah aQ iq vN dS jI ⊢;have bH:r.ge w1.heap.size:=Rw.ge_fz aK A0;refine B 6 ?_;refine aG ?_ ?_
 ·intro lI;refine B 5 ?_;obtain⟨bx,ox,csx,tx,frx,rfl,xI,anW,anX⟩:=his.get aa;obtain⟨x,hxi⟩:=ng xs i aa;have hxm:=cP hxi;refine B 2 ?_;refine ax (.agg (irA x)) ?_;refine B 1 ?_;refine yW ?_;intro UR anY anZ;refine B 7 ?_;refine ax (.agg (dg x.g)) ?_;refine Bu (f:=92) (cap:=[ptr b3 0]) (v:=fnV (pJ pls x.g)) rfl call92 rfl rfl rfl (λW hS=>nzj pls aa x.g W.heap.size pa xN b3 W (ak _) (hS.own (b3,_) A1) ((xO.mono jI).at hS.fzLies)) ?_;refine B 1 ?_;refine ax (.agg (kh ((pJ pls x.g).getD Vq))) ?_;refine ax (.bool (pJ pls x.g).isSome) ?_;refine B 1 ?_;refine yW ?_;intro pK ajo ajp;refine B 5 ?_;cases LG:pJ pls x.g with
  |none=>
   refine xv ?_;refine B 16 ?_;refine B4 ?_;refine ag (((r,ds),F),i+1) ⟨by dsimp only;omega,aK,ah,by dsimp only;rw[CY hxi,aQ,Sw LG];simp,iq,by dsimp only;omega,dS,jI⟩
  |some p=>
   have GB:=C3 p (List.mem_of_find?_eq_some LG);refine B 2 ?_;refine ax cX ?_;refine B 1 ?_;refine ax (.agg (bD p.x)) ?_;refine ax (.agg (irA x)) ?_;refine call (v:=ab (IY Z p.x.g x)) call40 rfl rfl rfl (λW hS=>nYo hZ p.x x (hii x hxm) W.heap.size W (ak _) ((GB.1.x.mono jI).lies hS.fzLies) ((wS x hxm).up (by have:=(hS.links w A1).size;omega) (hS.same A1 hN zI zH)) (hg.old hS A1 zI zH) a0 a1 (hse.oldG hS A1 zI zH)) ?_;refine B 4 ?_;refine aG ?_ ?_
   ·intro ke;refine eS 10 4 [8,9] (pb:=by exact zU 3 (k:=by exact aU (nf call97 rfl rfl (λW hS _=>Zj _ W) (λ_=>rfl)) (zU 3 (k:=by exact aU (nf call97 rfl rfl (λW hS _=>Zj _ W) (λ_=>rfl)) zT)))) (sp:=[_,_,some (.agg (dg x.f)),_,_,_,some (.agg (dg x.g)),_,_,_]) (h:=?_);intro _ _ hk;refine IS ?_;intro bs ru gP;refine zG ?_;intro _ _ hk;refine ax (.agg (uW (⟨[(bE (dk x.f))],(bE (dk x.g)),some ⟨bs,0,none⟩,1⟩:Dv))) ?_;refine zG ?_;intro _ _ hk;refine zje ?_;intro bo uI gP;refine zE ?_;refine jS (r:=r) (xs:=ds) (zs:=[(⟨[(bE (dk x.f))],(bE (dk x.g)),some ⟨bs,0,none⟩,1⟩:Dv)]) (enc:=gQ) (m:=36) (H0:=[(bo,oC (uW (⟨[(bE (dk x.f))],(bE (dk x.g)),some ⟨bs,0,none⟩,1⟩:Dv)) 142),(bs,oC (seA (bE (dk x.f))) 35),(pK,oC (kh p) 92),(UR,oC (irA x) 121),(b3,oC #[.slice pa pls.length xN] 89)]) (H1:=[]) zX nnl FX rfl rfl rfl rfl (bO.one (z:=(⟨[(bE (dk x.f))],(bE (dk x.g)),some ⟨bs,0,none⟩,1⟩:Dv)) FX neh underlying138 (bB.own (i:=0) rfl)) ah aK zJ Az ?_;intro ZU ZV Ou GC LH;replace GC:=yb GC;refine B 8 ?_;refine UW ?_;refine PJ.fz [(bs,oC (seA (bE (dk x.f))) 35)] (H':=[(pK,oC (kh p) 92),(UR,oC (irA x) 121),(b3,oC #[.slice pa pls.length xN] 89)]++((ZU,aO gQ 142 (ds++[(⟨[(bE (dk x.f))],(bE (dk x.g)),some ⟨bs,0,none⟩,1⟩:Dv)]) Ou)::[])) (List.Perm.refl _) (by intro p hp;simp at hp;subst hp;exact ru) ?_
    refine B4 ?_;refine ag (((Rw.row ZU ZV Ou,ds++[(⟨[(bE (dk x.f))],(bE (dk x.g)),some ⟨bs,0,none⟩,1⟩:Dv)]),(bs,oC (seA (bE (dk x.f))) 35)::F),i+1) ⟨by dsimp only;omega,GC.elim (λh=>Rw.Fr_at aK h) (λh=>.inr h),LH,by dsimp only;rw[gb,aQ];rw[CY hxi,Sx LG zAc];simp[gE],by dsimp only;exact nvm iq,by dsimp only;simp only[ck,dC,fb];omega,λq hq=>by rcases bX.1 hq with rfl|hq;(exact ru.mem w A1);exact dS q hq,λq hq=>.tail _ (jI q hq)⟩
   intro ke;refine Re ?_;refine ag (((r,ds),F),i+1) ⟨by dsimp only;omega,aK,ah,by dsimp only;rw[CY hxi,aQ,LD LG zAc];simp,iq,by dsimp only;omega,dS,jI⟩
 intro lI;refine B 12 ?_;have hi9:i=xs.length:=by omega
 rw[hi9,vW]at aQ;refine bM (.inl rfl) results47 bj λW hS=>?_;refine⟨ds,r,F,rfl,(hS.links w A1).below (λk hk hx=>by rcases hx with hx|hx;(exact hx);simp only[gb,dt,eL,gi,ef,dV,bX]at hx;rcases hx with hx|hx;(omega);have:=Rw.mem_ge bH hx;omega),Rw.ge_mono bH aa,ah,?_,λp hp=>⟨dS p hp,(hS.fzLies p hp).2,λhr=>?_⟩,?_,iq,by omega⟩
 ·cases r with
  |nil=>trivial
  |row b c sp=>exact hS.own (b,_) oR
 ·have h8:=Rw.mem_at (enc:=gQ) (t:=142) (xs:=ds) hr;obtain⟨q,hq,e⟩:=bY.1 h8;exact hS.apart q (by simp[hq]) (bY.2 ⟨p,hp,e.symm⟩)
 rw[aQ];unfold mP;rw[<-rV,List.flatMap_map]
section
variable {C:Cx} {Q:aZ} {E:Env} {D:List Deferred} {G:Gh} {L:List World} {H:ad} {ops:Array Oper} {l:List Oper}
variable {d ty f:Nat} {pos:String} {aC:Array Edge} {g:Option (Nat×Bool)} {fx:Operand} {xo:List Operand} {vs first cap:List Value} {eo:Array Nat}
theorem nWi{α:Type}{v:α->Value}{ob:α->Obj}{Φ:α->Prop}{i b:Nat}{o:Obj}(hi:H[i]? =some (b,o))(hx:ev E fx=some (.func (.func f) first.toArray cap.toArray))(az:eg C.P f)(hw:nl ops E g=some true)(hN:Nat.blt d C.N=true)(ha:iV E xo=some vs)(hc:∀W,St G L H W->W.heap[b]? =some o->Calls C.P f (first++vs++cap).toArray W (λe w'=>∃z,e= .returned (v z)/\aH (· =b) W w'/\w'.heap[b]? =some (ob z)/\Φ z))(k:∀z,Φ z->OJ C ops Q l ((d,v z)::E) D G L (H.set i (b,ob z))):OJ C ops Q (⟨some d,.call ⟨.value fx,xo.toArray,eo⟩,ty,pos,aC,g⟩::l) E D G L H:=
 nI rfl hw hx ha zJ az λa W iW hD hF hS=>(hc W hS (hS.own _ (cP hi))).mono (by
  rintro e W' ⟨z,rfl,hk,hb,hΦ⟩;exact k z hΦ (a.put (some d) (v z)) W' z7 z5 (hF.put _ z6) (hS.put hi hk hb))
end
theorem GD{w:World}{b c:Nat}{o p:Obj}(h:w.heap[b]? =some o)(h2:w.heap[c]? =some p)(hne:b≠c):St (Gh.lent (λk=>k=b\/k=c)) [w] [(b,o),(c,p)] w where
 ghost:=trivial
 vlt:=λ_ h=>h.elim
 xlt:=λk hk=>by rcases hk with rfl|rfl;(exact(aT.1 h).1);exact(aT.1 h2).1
 links:=λw' hw=>by rw[kf.1 hw];exact aH.refl _ _
 own:=λq hq=>by
  simp only[bX,dy,or_false]at hq;rcases hq with rfl|rfl
  ·exact h
  exact h2
 nodup:=Vv hne
 apart:=λ_ _ h=>h.elim
abbrev Kv:=List (Se×Bool)
def kB (kn:Kv) (s:Se):Bool:=(gk kn s).getD false
def iF (kn:Kv) (d:Dv):Bool:=kB kn d.to|| !(d.fr.any λs=> !kB kn s)
def gu (kn gv:Kv) (d:Dv):Kv:=if kB kn d.to=true then gv else if(d.fr.any λs=> !kB kn s)=true then gv else fu gv d.to true
theorem ZX{kn gv:Kv}{d:Dv}(h:kB kn d.to=true):true=iF kn d/\gv=gu kn gv d:=by unfold iF gu;rw[h];exact⟨rfl,(if_pos rfl).symm⟩
theorem ZY{kn gv:Kv}{d:Dv}(h:kB kn d.to=false)(h2:(d.fr.any λs=> !kB kn s)=true):false=iF kn d/\gv=gu kn gv d:=by
 unfold iF gu;rw[h,h2];exact⟨rfl,rfl⟩
theorem ZZ{kn gv:Kv}{d:Dv}(h:kB kn d.to=false)(h2:(d.fr.any λs=> !kB kn s)=false):true=iF kn d/\fu gv d.to true=gu kn gv d:=by
 unfold iF gu;rw[h,h2];exact⟨rfl,rfl⟩
theorem SF(kn:Kv)(mk b5:Nat)(km:Mq)(Ce:km.Ok kn)(w:World)(CG:w.heap[b5]? =some (oC #[.map (some mk)] 137))(Z0:w.heap[mk]? =some (km.obj de Value.bool kn))(s:Se):Calls prog 51 #[de s,ptr b5 0] w (aM w (.bool (!kB kn s))):=by
 have cF:¬Gh.no.X b5:=λh=>h;have hb1:=CG;have lX:=(aT.1 CG).1;have Iz:=(aT.1 Z0).1;refine eN func51 ntmps51 ?_;refine B 2 ?_;refine yX ?_;intro b2 w2 da bW eU dx dq;refine B 5 ?_;refine rv rfl rfl rfl (av (v:=.map (some mk)) isAgg137 rfl A1 CG cF True.intro rfl) ?_;refine ax (de s) ?_;refine rq (.bool (kB kn s)) (qy (m:=km) (k:=s) underlying137 K8 zeroValue4 Ce (bB.old A1 Z0 zL True.intro) rfl rfl) (nxh _) ?_;refine B 5 ?_;refine aF results51 rfl A1 ?_;rfl
theorem SG(kn:Kv)(mk b5:Nat)(km:Mq)(Ce:km.Ok kn)(gf mg:Nat)(gm:Mq)(gv:Kv)(tG:gm.Ok gv)(d:Dv)(N:Nat)(w:World)(hN:N<=w.heap.size)(tw:∀b off,d.fa=some ⟨b,off,none⟩->b≠mg)(CG:w.heap[b5]? =some (oC #[.map (some mk)] 137))(Z0:w.heap[mk]? =some (km.obj de Value.bool kn))(ajs:w.heap[gf]? =some (oC #[.map (some mg)] 137))(C4:w.heap[mg]? =some (gm.obj de Value.bool gv))(aJ:ai seA 35 N w d.fa d.fr)(jV:d.fr.length<=1000)(n5:mg≠b5)(nk:mg≠mk)(n10:mg≠gf):Calls prog 49 #[.agg (uW d),ptr b5 0,ptr gf 0] w (λe w'=>e= .returned (.bool (iF kn d))/\∃vc:Mq,vc.Ok (gu kn gv d)/\aH (· =mg) w w'/\w'.heap[mg]? =some (vc.obj de Value.bool (gu kn gv d))):=by
 have vt:=(aT.1 C4).1;refine nB (Gh.lent (· =mg)) [(mg,gm.obj de Value.bool gv)] (vs:=[_,_,_]) func49 rfl ntmps49 rfl (DG C4) ?_;refine B 2 ?_;refine yX ?_;intro b3 w3 hb3 cK fF ez eP;refine B 6 ?_;refine rv rfl rfl rfl (av (v:=.map (some mk)) isAgg137 rfl A1 CG (λh=>n5 h.symm) ⟨n5,trivial⟩ rfl) ?_;refine B 1 ?_;refine ax (de d.to) ?_;refine rq (.bool (kB kn d.to)) (qy (m:=km) (k:=d.to) underlying137 K8 zeroValue4 Ce (bB.old A1 Z0 (λh=>nk h.symm) ⟨nk,trivial⟩) rfl rfl) (nxh _) ?_;refine B 2 ?_;refine aG ?_ ?_
 ·intro ar;refine B 7 ?_;have h9:=ZX (gv:=gv) eC;exact zGg
 intro ar;refine B 6 ?_;refine ax (.slice d.fa d.fr.length d.fc) ?_;refine B 1 ?_;refine call (v:=.bool (d.fr.any λs=> !kB kn s)) call50 rfl rfl rfl (λW hS=>?_) ?_
 ·have u5:=hS.old A1 CG (λh=>n5 h.symm) ⟨n5,trivial⟩;have uk:=hS.old A1 Z0 (λh=>nk h.symm) ⟨nk,trivial⟩;exact nQi (λs=> !kB kn s) 51 [ptr b5 0] call51 d.fr aa W.heap.size d.fa d.fc W (ak _) (aJ.toG hS A1 hN (λb off e=>.inr (λ_=>⟨λh=>tw b off e h,λh=>tw b off e h.symm,trivial⟩))) (λj x hx W2 hB=>SF kn mk b5 km Ce W2 (by rw[hB.block b5 (aT.1 u5).1];exact u5) (by rw[hB.block mk (aT.1 uk).1];exact uk) x)
 refine B 2 ?_;refine aG ?_ ?_
 ·intro aN;refine B 7 ?_;have h9:=ZY (gv:=gv) eC eC;exact zGg
 intro aN;refine B 4 ?_;refine rv rfl rfl rfl (av (v:=.map (some mg)) isAgg137 rfl A1 ajs (λh=>n10 h.symm) ⟨n10,trivial⟩ rfl) ?_;refine B 1 ?_;refine ax (de d.to) ?_;refine YU (i:=0) (k:=d.to) (v:=true) rfl tG underlying137 K8 rfl rfl rfl rfl ?_;intro m2 bW;refine B 8 ?_;have h9:=ZZ (gv:=gv) eC eC;refine bM (.inl rfl) results49 bj λW hS=>⟨by rw[<-h9.1];rfl,m2,by rw[<-h9.2];exact bW,(hS.links w A1).mono λk _ hk=>?_,by rw[<-h9.2];exact hS.own _ A0⟩;exact zRg
def jY (st:Kv->Dv->Kv) (gv:Kv) (xs:List Dv) (n:Nat):Kv:=(xs.take n).foldl st gv
variable {st:Kv->Dv->Kv}
theorem Ov{gv:Kv}{xs:List Dv}{j:Nat}{x:Dv}(hx:xs[j]? =some x):jY st gv xs (j+1)=st (jY st gv xs j) x:=by unfold jY;rw[np hx,Iw];rfl
theorem nhg{gv:Kv}{xs:List Dv}{n:Nat}(h:xs.length<=n):jY st gv xs n=xs.foldl st gv:=by unfold jY;rw[jO h]
def Pst (f:Nat) (cap:List Value) (p:Dv->Bool) (st:Kv->Dv->Kv) (Z:Nat->Prop) (mg:Nat) (xs:List Dv) (w:World):Prop:=
 ∀(j:Nat) (x:Dv),xs[j]? =some x->∀(W:World) (gm:Mq) (gv:Kv),gm.Ok gv->aH Z w W->W.heap[mg]? =some (gm.obj de Value.bool gv)->Calls prog f (.agg (uW x)::cap).toArray W (λe w'=>e= .returned (.bool (p x))/\∃vc:Mq,vc.Ok (st gv x)/\aH (· =mg) W w'/\w'.heap[mg]? =some (vc.obj de Value.bool (st gv x)))
def IxS (p:Dv->Bool) (st:Kv->Dv->Kv) (gv:Kv) (xs:List Dv) (z:Int×Mq×Nat):Prop:=
 z.2.1.Ok (jY st gv xs z.2.2)/\((z.1= -1/\z.2.2=xs.length/\xs.any p=false)\/∃(j:Nat) (x:Dv),z.1=(j:Int)/\z.2.2=j+1/\xs[j]? =some x/\p x=true/\gL p xs j)
theorem nvg(p:Dv->Bool)(st:Kv->Dv->Kv)(f:Nat)(cap:List Value)(az:eg prog f)(xs:List Dv)(hxl:xs.length<=100000)(N:Nat)(a:Option Addr)(c:Nat)(w:World)(hN:N<=w.heap.size)(aJ:ai uW 36 N w a xs)(mg:Nat)(tw:∀b off,a=some ⟨b,off,none⟩->b≠mg)(gm:Mq)(gv:Kv)(tG:gm.Ok gv)(C4:w.heap[mg]? =some (gm.obj de Value.bool gv))(hp:Pst f cap p st (· =mg) mg xs w):Calls prog 98 #[.slice a xs.length c,.func (.func f) #[] cap.toArray] w (λe w'=>∃z:Int×Mq×Nat,e= .returned (ab z.1)/\aH (· =mg) w w'/\w'.heap[mg]? =some (z.2.1.obj de Value.bool (jY st gv xs z.2.2))/\IxS p st gv xs z):=by
 refine nB (Gh.lent (· =mg)) [(mg,gm.obj de Value.bool gv)] (vs:=[_,_]) func98 rfl ntmps98 rfl (DG C4) ?_;refine B 14 ?_;refine CJ.lp (α:=Mq×Nat) [0,1,7] (λq=>[(8,ab (q.2:Int))]) (λq=>[(mg,q.1.obj de Value.bool (jY st gv xs q.2))]) (λq=>q.2<=xs.length/\q.1.Ok (jY st gv xs q.2)/\gL p xs q.2) (λq=>xs.length-q.2) (gm,0) ⟨cV _,tG,λi x hi=>absurd hi zW⟩ ?_;rintro⟨m1,j⟩ ⟨hj,cF,ea⟩;dsimp only at hj cF ea ⊢;refine B 6 ?_;refine aG ?_ ?_
 ·intro ar;refine B 11 ?_;obtain⟨bo,oo,cs0,to,fG,rfl,fH,cJ,aW⟩:=aJ.get aa;obtain⟨x,hx⟩:=ng xs j aa;refine B 5 ?_;refine rq (.agg (uW x)) (dQ isAgg142 sizeOf142 rfl A0 cJ (λh=>tw bo oo rfl h) ⟨λh=>tw bo oo rfl h.symm,trivial⟩ (dE aW hx rfl)) (va (eK aW hx rfl)) ?_;refine nWi (i:=0) (b:=mg) (f:=f) (first:=[]) (cap:=cap) (α:=Mq) (v:=λ_=>.bool (p x)) (ob:=λz=>z.obj de Value.bool (st (jY st gv xs j) x)) (Φ:=λz=>z.Ok (st (jY st gv xs j) x)) rfl rfl az rfl rfl rfl (λW hS hW=>(hp j x hx W m1 _ cF ((hS.links w A0).mono (λk _ hk=>by rcases hk with hk|hk;(exact hk);simpa using hk)) hW).mono ?_) ?_
  ·rintro e w' ⟨rfl,vc,h1,h2,h3⟩;exact⟨vc,rfl,h2,h3,h1⟩
  intro m2 bW;refine B 2 ?_;refine aG ?_ ?_
  ·intro aN;refine B 12 ?_;refine bM (.inl rfl) results98 bj λW hS=>⟨((j:Int),m2,j+1),rfl,(hS.links w A0).mono λk _ hk=>?_,?_,?_,?_⟩
   ·exact zRg
   ·rw[Ov hx];exact hS.own _ A0
   ·dsimp only;rw[Ov hx];exact bW
   exact .inr ⟨j,x,rfl,rfl,hx,by assumption,ea⟩
  intro aN;refine B 7 ?_;refine PJ.again (m2,j+1) ⟨by dsimp only;omega,by dsimp only;rw[Ov hx];exact bW,ea.next hx yO⟩ zW zR (by dsimp only;rw[Ov hx];rfl) rfl zJ
 intro ar;refine B 11 ?_;refine bM (.inl rfl) results98 bj λW hS=>⟨(-1,m1,xs.length),rfl,(hS.links w A0).mono λk _ hk=>?_,?_,?_,?_⟩
 ·exact zRg
 ·rw[show xs.length=j by omega];exact hS.own _ A0
 ·dsimp only;rw[show xs.length=j by omega];exact cF
 exact .inl ⟨rfl,rfl,nqd ea aa⟩
theorem nyj(p:Dv->Bool)(st:Kv->Dv->Kv)(f:Nat)(cap:List Value)(az:eg prog f)(xs:List Dv)(hxl:xs.length<=100000)(b cp:Nat)(sp:List Value)(w:World)(hb:w.heap[b]? =some (aO gQ 142 xs sp))(bN:(Rw.row b cp sp).Fit 36 xs)(mg:Nat)(Lq:b≠mg)(gm:Mq)(gv:Kv)(tG:gm.Ok gv)(C4:w.heap[mg]? =some (gm.obj de Value.bool gv))(hp:Pst f cap p st (λk=>k=b\/k=mg) mg xs w):Calls prog 48 #[.slice (aj b) xs.length cp,.func (.func f) #[] cap.toArray] w (λe w'=>∃(bU:List Value) (vc:Mq),e= .returned ((Rw.row b cp bU).val (xs.filter (λx=> !p x)).length)/\aH (λk=>k=b\/k=mg) w w'/\(Rw.row b cp bU).Fit 36 (xs.filter (λx=> !p x))/\w'.heap[b]? =some (aO gQ 142 (xs.filter (λx=> !p x)) bU)/\vc.Ok (xs.foldl st gv)/\w'.heap[mg]? =some (vc.obj de Value.bool (xs.foldl st gv))):=by
 have gV:=bN.1;have eu:=bN.2;have jf:=(aT.1 hb).1;have vt:=(aT.1 C4).1;refine nB (Gh.lent (λk=>k=b\/k=mg)) [(b,aO gQ 142 xs sp),(mg,gm.obj de Value.bool gv)] (vs:=[_,_]) func48 rfl ntmps48 rfl (GD hb C4 Lq) ?_;refine B 9 ?_;refine nWi (i:=1) (b:=mg) (f:=98) (first:=[]) (cap:=[]) (α:=Int×Mq×Nat) (v:=λz=>ab z.1) (ob:=λz=>z.2.1.obj de Value.bool (jY st gv xs z.2.2)) (Φ:=IxS p st gv xs) rfl rfl call98 rfl rfl rfl (λW hS hW=>?_) ?_
 ·have y8:=hS.own (b,_) A0;have jj:ai uW 36 W.heap.size W (aj b) xs:=by
   obtain⟨a9,c9,e9,h9⟩:=(Rw.row b cp sp).sl (enc:=gQ) (t:=142) (N:=W.heap.size) (w:=W) FX bN y8 (ak _);exact zih
  exact nvg p st f cap az xs hxl W.heap.size (aj b) cp W (ak _) jj mg (λb9 off e=>by cases e;exact Lq) gm gv tG hW (λj x hx W2 gm2 gv2 h1 h2 h3=>hp j x hx W2 gm2 gv2 h1 (((hS.links w A0).mono (λk _ hk=>by rcases hk with hk|hk;(exact hk);simpa using hk)).trans (h2.mono (λk _ hk=>.inr hk))) h3)
 intro z hi;refine B 5 ?_;rcases hi.2 with⟨gA,eU,rh⟩|⟨k,x0,gA,eU,sG,U1,rW⟩
 ·obtain⟨zi,m1,zn⟩:=z;dsimp only at hi gA eU ⊢;subst gA;subst eU;have cF:=hi.1;dsimp only at cF;refine B 2 ?_;refine KG ?_;exact bM (.inl rfl) results48 bj λW hS=>⟨sp,m1,by rw[KF rh];rfl,(hS.links w A0).mono (λk _ hk=>by rcases hk with hk|hk;(exact hk);simpa using hk),by rw[KF rh];exact bN,by rw[KF rh];exact hS.own _ A0,by rw[<-nhg (ak _)];exact cF,by rw[<-nhg (ak _)];exact hS.own _ A1⟩
 obtain⟨zi,m1,zn⟩:=z;dsimp only at hi gA eU ⊢;subst gA;subst eU;have cF:=hi.1;dsimp only at cF;refine xv ?_;refine B 7 ?_;have vx:=nr sG;refine B 7 ?_;refine CJ.lp (α:=((Nat×List Dv)×Mq)×Nat) [0,1] (λp9=>[(5,ab (p9.1.1.1:Int)),(6,ab (p9.2:Int))]) (λp9=>[(b,aO gQ 142 p9.1.1.2 sp),(mg,p9.1.2.obj de Value.bool (jY st gv xs p9.2))]) (λp9=>p9.1.1.1<p9.2/\p9.2<=xs.length/\p9.1.1.2.length=xs.length/\p9.1.1.2.take p9.1.1.1=(xs.take p9.2).filter (λx=> !p x)/\p9.1.1.2.drop p9.2=xs.drop p9.2/\p9.1.2.Ok (jY st gv xs p9.2)) (λp9=>xs.length-p9.2) (((k,xs),m1),k+1) ⟨by dsimp only;omega,by dsimp only;omega,rfl,by dsimp only;rw[Q4 sG,if_pos U1,nxg rW,dV],rfl,cF⟩ ?_;rintro⟨⟨⟨i2,cur⟩,m3⟩,j⟩ ⟨uy,sE,lQ,wt,y9,cK⟩;dsimp only at uy sE lQ wt y9 cK ⊢;refine B 9 ?_;refine aG ?_ ?_
 ·intro ar;refine B 5 ?_;obtain⟨x,hx⟩:=ng xs j aa;obtain⟨vz,ri⟩:=Yx y9 hx;refine B 4 ?_;refine rq (.agg (uW x)) (eV (i:=0) rfl isAgg142 sizeOf142 rfl (Q6 FX aa)) (va (Q5 (sp:=sp) FX vz)) ?_;refine B 1 ?_;refine yW ?_;intro b7 jy vr;refine B 7 ?_;refine nWi (i:=2) (b:=mg) (f:=f) (first:=[]) (cap:=cap) (α:=Mq) (v:=λ_=>.bool (p x)) (ob:=λz=>z.obj de Value.bool (st (jY st gv xs j) x)) (Φ:=λz=>z.Ok (st (jY st gv xs j) x)) rfl rfl az rfl rfl rfl (λW hS hW=>(hp j x hx W m3 _ cK ((hS.links w A0).mono (λk Jf hk=>by rcases hk with hk|hk;(exact hk);(simp at hk;first|exact hk|(rcases hk with hk|hk;(exfalso;omega);exact hk)))) hW).mono ?_) ?_
  ·rintro e w' ⟨rfl,vc,h1,h2,h3⟩;exact⟨vc,rfl,h2,h3,h1⟩
  intro m2 bW;refine B 3 ?_;refine aG ?_ ?_
  ·intro aN;refine B 6 ?_;refine KH (enc:=gQ) (m:=36) (i:=1) (j:=i2) (z:=x) rfl FX neh sizeOf142 rfl rfl rfl zJ aa rfl rfl ?_;refine B 14 ?_;refine pV ?_;refine PJ.again (((i2+1,cur.set i2 x),m2),j+1) ⟨by dsimp only;omega,by dsimp only;omega,by dsimp only;rw[List.length_set];exact lQ,by dsimp only;rw[n0c aa,wt,Q4 hx,if_neg yO],by dsimp only;rw[nSd aa];exact ri,by dsimp only;rw[Ov hx];exact bW⟩ zW zR (by dsimp only;rw[Ov hx];rfl) rfl zJ
  intro aN;refine B 8 ?_;refine pV ?_;refine PJ.again (((i2,cur),m2),j+1) ⟨by dsimp only;omega,by dsimp only;omega,lQ,by dsimp only;rw[wt,Q4 hx,if_pos yO,dV],ri,by dsimp only;rw[Ov hx];exact bW⟩ zW zR (by dsimp only;rw[Ov hx];rfl) rfl zJ
 intro ar;refine B 6 ?_;have za:j=xs.length:=by omega
 have jV:cur.take i2=(xs.filter (λx=> !p x)):=by rw[wt,za,vW]
 refine B 3 ?_;refine rq (.slice (some ⟨b,if cp=i2 then 0 else 0+i2*36,none⟩) (cur.drop i2).length (cp-i2)) (fM (l:=i2) (h:=xs.length) underlying138 sizeOf142 rfl ⟨_,_,rfl,rfl⟩ rfl aa aa rfl) (by rw[BN,lQ]) ?_;refine OJ.reH (H':=[(b,aO gQ 142 (cur.take i2++cur.drop i2) sp),(mg,m3.obj de Value.bool (jY st gv xs j))]) (by rw[AH]) ?_;refine AI (i:=0) rfl FX underlying138 zeroValue142 rfl (nbf rfl _) rfl rfl zqb ?_;intro Q7 zb;refine B 6 ?_;refine rq (.slice (aj b) (cur.take i2).length cp) (fk (h:=i2) underlying138 sizeOf142 rfl ⟨_,_,rfl,rfl⟩ aa) Yy ?_;refine B 4 ?_;exact bM (.inl rfl) results48 bj λW hS=>⟨Q7,m3,by rw[<-jV];rfl,(hS.links w A0).mono (λk _ hk=>by rcases hk with hk|hk;(exact hk);simpa using hk),by rw[<-jV];exact⟨by rw[kQ];omega,by rw[zb,BN,kQ,eu,Nat.min_eq_left aa,lQ,<-pE];congr 1;omega⟩,by rw[<-jV];exact hS.own _ A0,by rw[<-nhg (ak _),<-za];exact cK,by rw[<-nhg (ak _),<-za];exact hS.own _ A1⟩
theorem nSj(p:Dv->Bool)(st:Kv->Dv->Kv)(f:Nat)(cap:List Value)(az:eg prog f)(w:World)(mg:Nat)(gm:Mq)(gv:Kv)(tG:gm.Ok gv)(C4:w.heap[mg]? =some (gm.obj de Value.bool gv)):Calls prog 48 #[ao,.func (.func f) #[] cap.toArray] w (λe w'=>∃(vc:Mq),e= .returned (ao)/\aH (λk=>k=mg) w w'/\vc.Ok gv/\w'.heap[mg]? =some (vc.obj de Value.bool gv)):=by
 refine nB (Gh.lent (· =mg)) [(mg,gm.obj de Value.bool gv)] (vs:=[_,_]) func48 rfl ntmps48 rfl (DG C4) ?_;refine B 9 ?_;refine nWi (i:=0) (b:=mg) (f:=98) (first:=[]) (cap:=[]) (α:=Int×Mq×Nat) (v:=λz=>ab z.1) (ob:=λz=>z.2.1.obj de Value.bool (jY st gv [] z.2.2)) (Φ:=IxS p st gv []) rfl rfl call98 rfl rfl rfl (λW hS hW=>?_) ?_
 ·exact nvg p st f cap az [] zJ 0 none 0 W (cV _) (.inl rfl) mg (λb off e=>by cases e) gm gv tG hW (λj x hx=>by simp at hx)
 intro z hi;obtain⟨zi,m1,zn⟩:=z;have hz:=hi.2.resolve_right (by rintro⟨j,x,_,_,h,_⟩;simp at h);dsimp only at hz ⊢;obtain⟨rfl,rfl,_⟩:=hz;have cF:=hi.1;dsimp only at cF;refine B 7 ?_;refine KG ?_;exact bM (.inl rfl) results48 bj λW hS=>⟨m1,rfl,(hS.links w A0).mono (λk _ hk=>by rcases hk with hk|hk;(exact hk);simpa using hk),cF,hS.own _ A0⟩
def GF (D0:List (List Se×Se)) (L0 ls:List Se):Prop:=∀(i:Nat) (s:Se),ls[i]? =some s->s∈L0\/∃d∈D0,d.2=s/\∀f∈d.1,f∈ls.take i
def wT (s:Se):Prop:=ec (fJ s.com)
structure kJ (D0:List (List Se×Se)) (L0:List Se) (lim:Nat) (ls:List Se):Prop where
 ord:GF D0 L0 ls
 nd:(∀s∈L0,wT s)->ls.Nodup
 l0:∀s∈L0,s∈ls
 cl:∀d∈D0,(∀f∈d.1,f∈ls)->d.2∈ls
 ln:ls.length<=lim
 pf:cA L0 <+:ls
structure LI where
 lv:Value
 kn:Kv
 km:Mq
 r1:Rw
 acc:List Se
 r3:Rw
 mo:List Se
 r2:Rw
 ds:List Dv
structure LJ (D0:List (List Se×Se)) (L0:List Se) (v0:Value) (F:ad) (lim:Nat) (x:LI):Prop where
 k:∀s,kB x.kn s=true↔s∈x.acc
 k0:x.kn=[]->x.acc=[]/\x.r1= .nil/\x.lv=v0/\x.mo=cA L0
 k1:x.kn≠ []->x.lv=x.r1.val x.acc.length
 ord:GF D0 L0 (x.acc++x.mo)
 nd:(∀s∈L0,wT s)->(x.acc++x.mo).Nodup
 l0:∀s∈L0,s∈x.acc++x.mo
 dr:∀d∈D0,(∃y∈x.ds,gE y=d)\/d.2∈x.acc++x.mo
 rs:∀y∈x.ds,gE y∈D0/\¬∀f∈y.fr,f∈x.acc
 df:∀y∈x.ds,xL F y
 ln:x.acc.length+x.mo.length+x.ds.length<=lim
 pf:cA L0 <+:x.acc++x.mo
def LI.mu (x:LI):Nat:=x.ds.length+if x.mo=[]then 0 else 1
theorem GF.app{a b:List Se}(h:GF D0 L0 a)(hb:∀s∈b,s∈L0\/∃d∈D0,d.2=s/\∀f∈d.1,f∈a):GF D0 L0 (a++b):=by
 intro i s hs;by_cases hi:i<a.length
 ·rw[SH hi]at hs;rcases h i s hs with h1|⟨d,h1,h2,h3⟩
  ·exact .inl h1
  refine .inr ⟨d,h1,h2,λf hf=>?_⟩;rw[List.take_append_of_le_length aa];exact h3 f hf
 rw[Z1 aa]at hs;rcases hb s (cP hs)with h1|⟨d,h1,h2,h3⟩
 ·exact .inl h1
 refine .inr ⟨d,h1,h2,λf hf=>?_⟩;rw[List.take_append];exact bA.2 (.inl (by rw[jO aa];exact h3 f hf))
def hQ (kn:Kv) (mo:List Se):Kv:=mo.foldl (λk s=>fu k s true) kn
theorem nlm{kn:Kv}{mo:List Se}{j:Nat}{s:Se}(h:mo[j]? =some s):hQ kn (mo.take (j+1))=fu (hQ kn (mo.take j)) s true:=by unfold hQ;rw[np h,Iw];rfl
theorem nUj(s:Se):∀(mo:List Se) (kn:Kv),kB (hQ kn mo) s=true↔s∈mo\/kB kn s=true
 | [],kn=>by simp[hQ]
 |x::mo,kn=>by
  have ih:=nUj s mo (fu kn x true);show kB (hQ (fu kn x true) mo) s=true↔_;rw[ih];unfold kB;rw[GG];by_cases e:s=x
  ·simp[e]
  simp[e]
theorem SI{mo:List Se}{kn:Kv}(h:mo≠ []):hQ kn mo≠ []:=by
 intro he;cases mo with
 |nil=>exact h rfl
 |cons x l=>
  have:=(nUj x (x::l) kn).2 (.inl A0);rw[he]at this;simp[kB,gk,eI]at this
theorem SJ(kn:Kv)(s:Se):∀(xs:List Dv) (gv:Kv),s∈(xs.foldl (gu kn) gv).map (·.1)↔s∈gv.map (·.1)\/∃d∈xs,d.to=s/\kB kn d.to=false/\(d.fr.any λf=> !kB kn f)=false:=
 by intro x;induction x<;>(intros;grind [gu,kB,ndk])
theorem GH(kn:Kv):∀(xs:List Dv) (gv:Kv),(gv.map (·.1)).Nodup->((xs.foldl (gu kn) gv).map (·.1)).Nodup:=
 by intro x;induction x<;>(intros;grind [gu,nfg])
theorem GI(l:Kv)(s:Se):(fu l s true).length<=l.length+1:=by unfold fu;split<;>simp
theorem GJ(kn:Kv):∀(xs:List Dv) (gv:Kv),(xs.foldl (gu kn) gv).length+(xs.filter (λd=> !iF kn d)).length<=gv.length+xs.length:=
 by intro x;induction x<;>(intros;grind [gu,iF,kB,GI])
theorem LJ.step{v0:Value}{F:ad}{lim:Nat}{x:LI}(h:LJ D0 L0 v0 F lim x)(hm:x.mo≠ []){km':Mq}{r1' r2' r3':Rw}{ys:List Se}(hy:ys.Perm ((x.ds.foldl (gu (hQ x.kn x.mo)) []).map (·.1))):LJ D0 L0 v0 F lim ⟨r1'.val (x.acc++x.mo).length,hQ x.kn x.mo,km',r1',x.acc++x.mo,r3',gq ys,r2',x.ds.filter (λd=> !iF (hQ x.kn x.mo) d)⟩/\LI.mu ⟨r1'.val (x.acc++x.mo).length,hQ x.kn x.mo,km',r1',x.acc++x.mo,r3',gq ys,r2',x.ds.filter (λd=> !iF (hQ x.kn x.mo) d)⟩<x.mu:=by
 have hk:∀s,kB (hQ x.kn x.mo) s=true↔s∈x.acc++x.mo:=λs=>by rw[nUj,bA,h.k s];exact Or.comm
 have SK:∀s,kB (hQ x.kn x.mo) s=false↔s∉x.acc++x.mo:=λs=>by rw[<-hk s];simp
 have xt:∀s,s∈gq ys↔∃d∈x.ds,d.to=s/\s∉x.acc++x.mo/\∀f∈d.fr,f∈x.acc++x.mo:=λs=>by
  rw[n4h,hy.mem_iff,SJ];constructor
  ·rintro(h1|⟨d,h1,h2,h3,h4⟩)
   ·simp at h1
   refine⟨d,h1,h2,h2▸(SK _).1 h3,λf hf=>(hk f).1 ?_⟩;have:=List.any_eq_false.1 h4 f hf;simpa using this
  rintro⟨d,h1,h2,h3,h4⟩;refine .inr ⟨d,h1,h2,(SK _).2 (h2.symm▸h3),List.any_eq_false.2 λf hf=>?_⟩;simp[(hk f).2 (h4 f hf)]
 have BB:(gq ys).length+(x.ds.filter (λd=> !iF (hQ x.kn x.mo) d)).length<=x.ds.length:=by
  have h1:=GJ (hQ x.kn x.mo) x.ds [];have h2:=hy.length_eq;rw[Lb];simp only[eG,fb]at h1 h2;omega
 have jV:∀y,y∈x.ds.filter (λd=> !iF (hQ x.kn x.mo) d)↔y∈x.ds/\y.to∉x.acc++x.mo/\¬∀f∈y.fr,f∈x.acc++x.mo:=λy=>by
  rw[wD];unfold iF;refine and_congr_right λ_=>?_;rw[Bool.not_or,oh,Bool.not_not,List.any_eq_true,Bool.not_eq_true',SK];refine and_congr_right λ_=>?_;simp only[Bool.not_eq_true',SK];constructor
  ·rintro⟨f,h1,h2⟩ h3;exact h2 (h3 f h1)
  intro h3;apply Classical.byContradiction;intro h4;exact h3 λf hf=>Classical.byContradiction λh5=>h4 ⟨f,hf,h5⟩
 refine⟨⟨hk,λhe=>absurd he (SI hm),λ_=>rfl,?_,λhB=>?_,λs hs=>bA.2 (.inl (h.l0 s hs)),λd hd=>?_,λy hy=>?_,λy hy=>h.df y ((jV y).1 hy).1,?_,h.pf.trans (List.prefix_append _ _)⟩,?_⟩
 ·refine h.ord.app λs hs=>?_;obtain⟨d,h1,h2,h3,h4⟩:=(xt s).1 hs;exact .inr ⟨gE d,(h.rs d h1).1,h2,h4⟩
 ·dsimp only;rw[List.nodup_append];refine⟨h.nd hB,((U2 CO.ord.swo ys).trans hy).nodup_iff.2 (GH _ _ _ zJ),?_⟩;intro a ha b hb e;subst e;exact((xt a).1 hb).choose_spec.2.2.1 ha
 ·dsimp only;by_cases hc:d.2∈x.acc++x.mo
  ·exact .inr (bA.2 (.inl hc))
  rcases h.dr d hd with⟨y,h1,h2⟩|h1
  ·by_cases hp:∀f∈y.fr,f∈x.acc++x.mo
   ·refine .inr (bA.2 (.inr ((xt _).2 ⟨y,h1,by rw[<-h2];rfl,hc,hp⟩)))
   exact .inl ⟨y,(jV y).2 ⟨h1,by rw[show y.to=d.2 from(by rw[<-h2];rfl)];exact hc,hp⟩,h2⟩
  exact absurd h1 hc
 ·exact⟨(h.rs y ((jV y).1 hy).1).1,((jV y).1 hy).2.2⟩
 ·dsimp only;have:=h.ln;rw[ck];omega
 unfold LI.mu;dsimp only;rw[if_neg hm];split<;>rename_i he
 ·omega
 have:0<(gq ys).length:=Z2.2 he;omega
theorem LJ.end_{v0:Value}{F:ad}{lim:Nat}{x:LI}(h:LJ D0 L0 v0 F lim x)(hm:x.mo=[]):kJ D0 L0 lim x.acc:=by
 have e:x.acc++x.mo=x.acc:=by rw[hm,dV]
 have h1:=h.ord;have h2:=h.nd;have h3:=h.l0;have h4:=h.dr;have h5:=h.ln
 rw[e]at h1 h2 h3;refine⟨h1,h2,h3,λd hd hp=>?_,by omega,by have h6:=h.pf;rwa[e]at h6⟩;rcases h4 d hd with⟨y,g1,g2⟩|g
 ·exact absurd (by rw[<-g2]at hp;exact hp) (h.rs y g1).2
 rw[e]at g;exact g
theorem GK(a:Ap):∀d∈lA a,d.1.length<=2:=by
 intro d hd;unfold lA at hd;have hT:∀j,∀d∈lz a j,d.1.length<=2:=by
  intro j;induction j with
  |zero=>intro d hd;simp[lz]at hd
  |succ j ih=>
   intro d hd;unfold lz at hd;split at hd
   ·exact ih d hd
   rcases bA.1 hd with hd|hd
   ·exact ih d hd
   unfold Ls at hd;rcases bX.1 hd with rfl|hd
   ·simp
   split at hd
   ·rw[kf.1 hd];simp
   cases hd
 all_goals grind [FY,On,Lt]
theorem GL{cs:List Cm}{fos:List Fo}{gs:List Gr}{xs:List Ir}(d:List Se×Se)(hd:d∈mP Z cs fos gs xs):d.1.length<=2:=by
 unfold mP at hd;simp only[bA]at hd;all_goals grind [GK,C2,LC,I0]
theorem GM:∀{l:List Int},wK l=0->∀x∈l,x=0:=
 by intro x;induction x<;>(intros;grind [wK])
theorem nyk:∀{a b:List UInt8},Go.Lib.compareBytes a b=0->a=b
 | [],[],_=>rfl
 | [],_::_,h=>by simp[Go.Lib.compareBytes]at h
 |_::_,[],h=>by simp[Go.Lib.compareBytes]at h
 |x::a,y::b,h=>by
  unfold Go.Lib.compareBytes at h;split at h
  ·cases h
  split at h
  ·cases h
  rename_i h1 h2;rw[nyk h];have:x=y:=UInt8.le_antisymm (UInt8.not_lt.1 h2) (UInt8.not_lt.1 h1);rw[this]
theorem SL{f g:Nat->Int}(h:∀i,i<32->f i=g i):dk f=dk g:=by
 apply Subtype.ext;show[f 0,f 1,f 2,f 3,f 4,f 5,f 6,f 7,f 8,f 9,f 10,f 11,f 12,f 13,f 14,f 15,f 16,f 17,f 18,f 19,f 20,f 21,f 22,f 23,f 24,f 25,f 26,f 27,f 28,f 29,f 30,f 31]=[g 0,g 1,g 2,g 3,g 4,g 5,g 6,g 7,g 8,g 9,g 10,g 11,g 12,g 13,g 14,g 15,g 16,g 17,g 18,g 19,g 20,g 21,g 22,g 23,g 24,g 25,g 26,g 27,g 28,g 29,g 30,g 31];simp[h]
theorem nqk{x y:Se}(hx:wT x)(hy:wT y)(h:ly x y=0):x=y:=by
 have h1:=GM h;have a:=h1 (cZ x.kind y.kind) zJ;have b:=h1 (cZ x.pub y.pub) zJ;have c:=nyk (h1 (Go.Lib.compareBytes (cy (fJ x.com)) (cy (fJ y.com))) zJ);have d:=h1 (cZ x.lev y.lev) zJ;have e:∀{p q:Int},cZ p q=0->p=q:=λ{p q} h=>by unfold cZ at h;split at h;(cases h);split at h;(cases h);omega
 have f:x.com=y.com:=by
  rw[<-K7 x.com,<-K7 y.com];exact SL λi hi=>by rw[<-Us _ hx i hi,<-Us _ hy i hi,c]
 cases x;cases y
 all_goals grind
theorem nNh{α:Type}[Inhabited α]{cf:α->α->Int}(hO:CO cf)(xs:List α):∀(i j:Nat) (x y:α),i<j->(gC cf xs)[i]? =some x->(gC cf xs)[j]? =some y->cf x y<=0:=by
 intro i j x y uy hx hy;have h:=(Go.Sort.pdq_sorts (ltOf cf) hO.swo xs.toArray 0 xs.toArray.size (Lib.bitLen xs.toArray.size) true true (cV _) (ak _) (Or.inl rfl)).2;have Cw:=nr hy;have hl:=(U2 hO.swo xs).length_eq;have h2:=h i j (cV _) uy (by rw[qq];omega);unfold gC at hx hy;rw[NZ]at hx hy;have e:∀{k:Nat} {z:α} {d:Array α},d[k]? =some z->d[k]! =z:=λ{k z d} hk=>by obtain⟨h3,h4⟩:=aT.1 hk;rw[getElem!_pos d k h3];exact h4
 rw[e hx,e hy]at h2;simp only[ltOf,decide_eq_false_iff_not]at h2;have:=hO.anti x y;omega
theorem nsk{xs:List Se}(hs:∀(i j:Nat) (x y:Se),i<j->xs[i]? =some x->xs[j]? =some y->ly x y<=0)(hB:∀s∈xs,wT s):∀j,(lS xs j).Nodup
 |0=>List.nodup_nil
 |j+1=>by
  have ih:=nsk hs hB j;unfold lS;split
  ·exact ih
  rename_i x hx;split
  ·exact ih
  rename_i hn;rw[List.nodup_append];refine⟨ih,by simp,?_⟩;intro a ha b hb e;rw[kf]at hb;subst hb;subst e;rw[nhj]at ha;obtain⟨i,hi⟩:=kA.1 ha;have lk:=nr hi;rw[kQ]at lk;rw[QX aa]at hi;have Oj:0<j:=by omega
  obtain⟨y,hy⟩:=ng xs (j-1) UD;have h1:=hs (j-1) j y a aa hy hx;have h2:ly a y<=0:=by
   by_cases e:i=j-1
   ·subst e;rw[hy]at hi;cases hi;have:=CO.ord.anti a a;omega
   exact hs i (j-1) a y aa hi hy
  have h3:=CO.ord.anti a y;have h4:=nqk (hB _ (cP hy)) (hB _ (cP hx)) (show ly y a=0 by omega);exact hn ⟨Oj,by rw[hy,h4]⟩
theorem Z3{l:List Se}(hB:∀s∈l,wT s):(cA l).Nodup:=nsk (λi j x y h1 h2 h3=>nNh CO.ord l i j x y h1 h2 h3) (λs hs=>hB s ((n4h l s).1 hs)) _
theorem LJ.init{v0:Value}{F:ad}{lim:Nat}{km:Mq}{r2 r3:Rw}{ds:List Dv}(hm:ds.map gE=D0)(hd:∀d∈ds,xL F d)(hl:(cA L0).length+ds.length<=lim):LJ D0 L0 v0 F lim ⟨v0,[],km,.nil,[],r3,cA L0,r2,ds⟩:=by
 refine⟨λs=>by simp[kB,gk,eI],λ_=>⟨rfl,rfl,rfl,rfl⟩,λh=>absurd rfl h,λi s hs=>.inl ?_,λhB=>Z3 hB,λs hs=>(CU _ _).2 hs,λd hd=>.inl ?_,λy hy=>⟨hm▸bY.2 ⟨y,hy,rfl⟩,λh=>?_⟩,hd,by simpa using hl,List.prefix_rfl⟩
 ·exact(CU _ _).1 (cP (by simpa using hs))
 ·rw[<-hm]at hd;obtain⟨y,h1,h2⟩:=bY.1 hd;exact⟨y,h1,h2⟩
 cases hf:y.fr with
 |nil=>exact(hd y hy).ne hf
 |cons f l=>have:=h f (by rw[hf];exact .head _);simp at this
theorem Ox{α:Type}(p q:α)(l R:List α):(p::q::(l++(R++[]))).Perm ((R++[q])++(p::l)):=by
 rw[dV];refine(List.perm_append_comm (l₁:=p::q::l) (l₂:=R)).trans ?_;rw[iP];exact List.Perm.append_left R (List.Perm.swap q p l)
theorem Z4{α:Type}(k a m p q c d:α)(R3 R2:List α):(R3++(k::a::m::p::q::c::d::(R2++[]))).Perm (k::a::m::d::p::q::c::(R3++(R2++[]))):=by
 have h1:(R3++(k::a::m::p::q::c::d::(R2++[]))).Perm ((k::a::m::p::q::c::[d])++(R3++(R2++[]))):=List.perm_append_comm_assoc R3 (k::a::m::p::q::c::[d]) (R2++[]);refine h1.trans ?_;show([k,a,m,p,q,c,d]++(R3++(R2++[]))).Perm ([k,a,m,d,p,q,c]++(R3++(R2++[])));refine List.Perm.append_right _ ?_;refine List.Perm.cons k (List.Perm.cons a (List.Perm.cons m ?_));exact(List.perm_append_comm (l₁:=[p,q,c]) (l₂:=[d]))
theorem bO.ownO{C:Cx}{G:Gh}{H:ad}{α:Type}{enc:α->List Value}{m tx e' b t c:Nat}{zs:List α}{sp:List Value}(hm:∀x,(enc x).length=m)(h1:∀x,∀u∈enc x,u.oneCell'=true)(hU:C.P.underlying tx=some (.slice e'))(hb:(b,aO enc t zs sp)∈H):bO C G L H enc m tx (.slice (aj b) zs.length c) zs:=
 bO.at hm h1 hU (λW hS=>hS.own _ hb) (by simp[nW hm]) (by
  simp only[SM];rw[<-nW hm zs];exact List.take_left)
theorem LK{C:Cx}{G:Gh}{H:ad}{E:Env}{x:Operand}{α:Type}{xs:List α}{m t e:Nat}{r:Rw}(hU:C.P.underlying t=some (.slice e))(hr:r.Fit m xs)(hx:ev E x=some (r.val xs.length)):RV C G L H E (.call ⟨.builtin .len,#[x],#[t]⟩) (ab (xs.length:Int)):=by
 cases r with
 |nil=>
  have h0:xs=[]:=hr;subst h0;exact iQ hU hx
 |row b c sp=>exact iQ hU hx
theorem npp(hZ:FxOk Z)(cs:List Cm)(cJ:cs.length<=1000)(dz:∀c∈cs,bP c)(N:Nat)(la:Option Addr)(lc:Nat)(w:World)(hN:N<=w.heap.size)(aJ:ai cG 73 N w la cs)(hC:∀c∈cs,dm N w c)(fa:Option Addr)(fos:List Fo)(fc:Nat)(jV:fos.length<=10)(lQ:cs.length<=10)(ru:ai sR 33 N w fa fos)(ga:Option Addr)(gs:List Gr)(gc:Nat)(Pr:gs.length<=10)(ZP:ai grA 39 N w ga gs)(SA:∀g∈gs,pe g)(Vt:∀g∈gs,GrAt N w g)(ia:Option Addr)(xs:List Ir)(ic:Nat)(lk:xs.length<=10)(his:ai irA 68 N w ia xs)(hii:∀x∈xs,IrGood x)(wS:∀x∈xs,ByAt N w x.ba x.body)(o1 o5 o6 o7:Value)(hg:Glb w)(a0 a1:Addr)(hse:Sen w a0 a1)(qa:Option Addr)(L0:List Se)(qc:Nat)(SN:L0.length<=50000)(LL:ai seA 35 N w qa L0):Calls prog 26 #[.agg #[.slice fa fos.length fc,o1,.slice la cs.length lc,.slice ga gs.length gc,.slice ia xs.length ic,o5,o6,o7],.slice qa L0.length qc] w (cN w (λq:(Option Addr×Nat)×List Se=>.slice q.1.1 q.2.length q.1.2) (λq w1=>ai seA 35 w1.heap.size w1 q.1.1 q.2/\kJ (mP Z cs fos gs xs) L0 71000 q.2/\q.2.length<=q.1.2)):=by
 have hg4:=hg.lt;refine nB (dI []) [] (vs:=[_,_]) func26 rfl ntmps26 rfl (N0 w) ?_;refine B 2 ?_;refine yX ?_;intro b2 w2 da bW eU dx dq;refine B 5 ?_;refine KU de Value.bool rfl rfl ?_;intro gG yt DC;replace yt:=yb yt;refine B 1 ?_;refine yW ?_;intro b5 so sq;refine B 5 ?_;refine zwe ?_;refine nnn (H0:=[(b5,oC #[.map (some gG)] 137),(gG,(Mq.mk [] 0).obj de Value.bool ([]:Kv))]) (H1:=[]) (r:=.nil) (xs:=([]:List Dv)) (enc:=gQ) (m:=36) (t:=142) (γ:=List Dv) (ys:=λz=>z) (v:=λz r'=>r'.val z.length) (Φ:=λF' z=>z.map gE=(mP Z cs fos gs xs)/\(∀d∈z,xL F' d)/\z.length<=21000) (first:=[]) (cap:=[]) rfl True.intro rfl call47 rfl rfl rfl (λW hS=>?_) ?_
 ·refine(Sz hZ cs cJ dz N la lc W cM (aJ.up (ak _) hS.sm) (λc hc=>(hC c hc).up (ak _) hS.sm) fa fos fc jV lQ (ru.up (ak _) hS.sm) ga gs gc Pr (ZP.up (ak _) hS.sm) SA (λg hg=>(Vt g hg).up (ak _) hS.sm) ia xs ic lk (his.up (ak _) hS.sm) hii (λx hx=>(wS x hx).up (ak _) hS.sm) o1 o5 o6 o7 (hg.old hS A1 zI zF) a0 a1 (hse.oldG hS A1 zI zF)).mono ?_;rintro e w' ⟨ds,r,F',rfl,hb,jw,bN,fj,vD,aQ,kE,Xt⟩;exact⟨ds,r,F',rfl,aH.of_below hb,λk hk=>.inr (Rw.ge_at jw hk),bN,fj,vD,aQ,kE,Xt⟩
 rintro ds0 r20 F1 ⟨hmp,kE,vN⟩ SO GN zj;obtain⟨F,Z5⟩:∃F,F1++[]=F:=⟨_,rfl⟩;rw[Z5]at GN ⊢;have ajy:∀y∈ds0,y.fr.length<=1000:=λy hy=>dG (GL _ (hmp▸bY.2 ⟨y,hy,rfl⟩)) zB;have kE:∀d∈ds0,xL F d:=λd hd=>(kE d hd).mono (λq hq=>Z5▸bA.2 (.inl hq));refine B 6 ?_;refine ax (.slice qa L0.length qc) ?_;have ee:r20.ge w2.heap.size:=Rw.ge_fz GN A0;refine Iv (enc:=dJ) (m:=35) (t:=35) (xs:=cA L0) (v:=id) (first:=[]) (cap:=[]) rfl call32 rfl rfl rfl (λW hS=>nCg L0 aa N qa qc W cM (LL.up (ak _) (hS.same A1 hN zI (by simp only[Over,nD,gi,ef,dV,and_true];(repeat' apply And.intro);all_goals first|omega|exact True.intro|exact Rw.over (Rw.ge_mono ee aa))))) ?_;intro r30 Z6 SP;refine B 4 ?_;refine CJ.prm (H':=[(b5,oC #[.map (some gG)] 137),(gG,(Mq.mk [] 0).obj de Value.bool ([]:Kv))]++(Rw.nil.hp dJ 35 ([]:List Se)++(r30.hp dJ 35 (cA L0)++(r20.hp gQ 142 ds0++[])))) (List.perm_append_comm_assoc _ _ _) ?_;have an0:=Lg L0;refine CJ.lp (α:=LI) [5] (λx=>[(1,x.lv),(6,x.r2.val x.ds.length),(7,x.r3.val x.mo.length)]) (λx=>[(b5,oC #[.map (some gG)] 137),(gG,x.km.obj de Value.bool x.kn)]++(x.r1.hp dJ 35 x.acc++(x.r3.hp dJ 35 x.mo++(x.r2.hp gQ 142 x.ds++[])))) (λx=>LJ (mP Z cs fos gs xs) L0 (.slice qa L0.length qc) F 71000 x/\x.km.Ok x.kn/\(x.r1.Fr (dI F) [w2,w]/\x.r1.Fit 35 x.acc)/\(x.r3.Fr (dI F) [w2,w]/\x.r3.Fit 35 x.mo)/\(x.r2.Fr (dI F) [w2,w]/\x.r2.Fit 36 x.ds)/\∀y∈x.ds,y.fr.length<=1000) (λx=>x.mu) ⟨(.slice qa L0.length qc),[],Mq.mk [] 0,.nil,[],r30,cA L0,r20,ds0⟩ ⟨LJ.init hmp kE aa,Mq.nil,⟨True.intro,rfl⟩,⟨Z6,SP⟩,⟨GN,SO⟩,ajy⟩ ?_
 rintro⟨lv,kn,km,r1,acc,r3,mo,r2,ds⟩ ⟨hI,Ce,⟨LM,gV⟩,⟨uu,mm⟩,⟨lb,eu⟩,hIl⟩;dsimp only at Ce LM gV uu mm lb eu hIl ⊢;have mM:r1.ge w2.heap.size:=Rw.ge_fz LM A0;have ee:r2.ge w2.heap.size:=Rw.ge_fz lb A0;have pB:r3.ge w2.heap.size:=Rw.ge_fz uu A0;refine B 4 ?_;refine rv rfl rfl rfl (LK underlying38 mm rfl) ?_;refine B 3 ?_;refine aG ?_ ?_
 ·intro ar;refine B 5 ?_;have hne:mo≠ []:=by intro h;subst h;simp at*
  obtain⟨b3,c3,s3,rfl⟩:=Rw.row_of mm (Z2.2 hne);have Xt:=hI.ln;dsimp only at Xt;refine B 2 ?_;refine rv rfl rfl rfl (AU underlying137 Ce (bB.own (i:=1) rfl) rfl) ?_;refine B 3 ?_;refine CJ.mid (t:=1) (v:=r1.val acc.length) (E0:=[(5,_),(6,_),(7,_),(16,_),(17,_),(18,_),(19,_),(20,_),(21,_)]) zR ?_ ?_
  ·refine aG ?_ ?_
   ·intro aN;refine B 3 ?_;exact PJ.mid ⟨(by obtain⟨h1,h2,_⟩:=hI.k0 (kX zW);dsimp only at h1 h2;rw[h1,h2];rfl),rfl,rfl,rfl,rfl,rfl,rfl,rfl,rfl,rfl,trivial⟩
   intro aN;refine B 1 ?_;exact PJ.mid ⟨(congrArg some (hI.k1 (λh=>by have h2:kn=[]:=h;subst h2;simp_all))),rfl,rfl,rfl,rfl,rfl,rfl,rfl,rfl,rfl,trivial⟩
  refine B 5 ?_;refine jS (r:=r1) (xs:=acc) (zs:=mo) (enc:=dJ) (m:=35) (H0:=[(b5,oC #[.map (some gG)] 137),(gG,km.obj de Value.bool kn)]) (H1:=((Rw.row b3 c3 s3).hp dJ 35 mo++(r2.hp gQ 142 ds++[]))) rfl Of nu rfl rfl rfl rfl (bO.ownO (b:=b3) (t:=35) (sp:=s3) nu IQ underlying38 oR) gV LM (Z2.2 hne) aa ?_;intro kZ ur lN pU qQ;have Z7:(Rw.row kZ ur lN).Fr (dI F) [w2,w]:=pU.elim (λh=>Rw.Fr_at LM h) .inr;replace pU:=yb pU;refine B 12 ?_;refine CJ.lp (α:=Mq×Nat) [1,5,6,25,26] (λp=>[(27,ab (p.2:Int))]) (λp=>[(b5,oC #[.map (some gG)] 137),(gG,p.1.obj de Value.bool (hQ kn (mo.take p.2))),(kZ,aO dJ 35 (acc++mo) lN),(b3,aO dJ 35 mo s3)]++(r2.hp gQ 142 ds++[])) (λp=>p.2<=mo.length/\p.1.Ok (hQ kn (mo.take p.2))) (λp=>mo.length-p.2) (km,0) ⟨cV _,Ce⟩ ?_;rintro⟨m,j⟩ ⟨hj,hm⟩;dsimp only at hj hm ⊢;refine B 6 ?_;refine aG ?_ ?_
  ·intro dc;refine B 5 ?_;obtain⟨s,hs⟩:=ng mo j aa;refine B 2 ?_;refine rq (.agg (seA s)) (eV (i:=3) rfl isAgg35 sizeOf35 rfl (Q6 nu aa)) (va (Q5 (sp:=s3) nu hs)) ?_;refine B 1 ?_;refine yW ?_;intro b9 xn tk;refine B 5 ?_;refine ax (de s) ?_;refine YU (i:=2) (k:=s) (v:=true) rfl hm underlying137 K8 rfl rfl rfl rfl ?_;intro m2 bW;refine xx ?_;refine PJ.again (m2,j+1) ⟨by dsimp only;omega,by dsimp only;rw[nlm hs];exact bW⟩ zW zR (by dsimp only;rw[nlm hs];rfl) rfl zJ
  intro dc;refine B 6 ?_;have za:j=mo.length:=by omega
  rw[za,vW]at hm ⊢;refine B 1 ?_;refine KU de Value.bool rfl rfl ?_;intro eH iz ag3;replace iz:=yb iz;refine B 1 ?_;refine yW ?_;intro gf lP pW;refine B 7 ?_;refine OJ.perm (Ox _ _ [(b5,oC #[.map (some gG)] 137),(gG,m.obj de Value.bool (hQ kn mo)),(kZ,aO dJ 35 (acc++mo) lN),(b3,aO dJ 35 mo s3)] (r2.hp gQ 142 ds)) ?_;refine Cf (Hz:=(r2.hp gQ 142 ds++[(eH,(Mq.mk [] 0).obj de Value.bool ([]:Kv))])) (H0:=[(gf,oC #[.map (some eH)] 137),(b5,oC #[.map (some gG)] 137),(gG,m.obj de Value.bool (hQ kn mo)),(kZ,aO dJ 35 (acc++mo) lN),(b3,aO dJ 35 mo s3)]) (α:=Rw×Mq) (v:=λz=>z.1.val (ds.filter (λd=> !iF (hQ kn mo) d)).length) (Hn:=λz=>z.1.hp gQ 142 (ds.filter (λd=> !iF (hQ kn mo) d))++[(eH,z.2.obj de Value.bool (ds.foldl (gu (hQ kn mo)) []))]) (Φ:=λz=>z.1.Fit 36 (ds.filter (λd=> !iF (hQ kn mo) d))/\z.2.Ok (ds.foldl (gu (hQ kn mo)) [])/\∀k,z.1.isAt k->r2.isAt k) (first:=[]) (cap:=[]) rfl rfl call48 rfl rfl rfl ?_ (λW hS=>?_) ?_
  ·cases r2 with
   |nil=>exact⟨.inr iz,trivial⟩
   |row b c sp=>exact⟨lb,.inr iz,trivial⟩
  ·have C4:=hS.own (eH,(Mq.mk [] 0).obj de Value.bool ([]:Kv)) zJ;have ajA:=hS.own (b5,oC #[.map (some gG)] 137) zJ;have ajB:=hS.own (gG,m.obj de Value.bool (hQ kn mo)) zJ;have Z8:=hS.own (gf,oC #[.map (some eH)] 137) zJ;have hnd:=(nX _).1 hS.nodup;simp only[gb,dt,eL,iP,gi,ef]at hnd;have zu:=(List.nodup_append.1 hnd).2.1;simp only[List.nodup_cons,bX,dy,or_false,not_or]at zu;cases r2 with
   |nil=>
    have h0:ds=[]:=eu;subst h0;refine(nSj (iF (hQ kn mo)) (gu (hQ kn mo)) 49 [ptr b5 0,ptr gf 0] call49 W eH (Mq.mk [] 0) [] Mq.nil C4).mono ?_;rintro e w' ⟨vc,rfl,hk,iu,hl⟩;exact⟨(.nil,vc),rfl,hk.mono (λk _ hk=>by subst hk;simp[keys]),⟨rfl,iu,λk hk=>hk.elim⟩,λp hp=>by simp[Rw.hp]at hp;subst hp;exact⟨hl,.inl (by simp[keys])⟩,D4 _⟩
   |row b c sp=>
    have Oy:=hS.own (b,aO gQ 142 ds sp) oR;have GO:b≠eH/\b≠gf/\b≠b5/\b≠gG:=by
     simp only[Rw.hp,dt,eL,gi,ef,List.nodup_cons,bX,dy,or_false,not_or]at hnd;exact⟨hnd.1.1,hnd.1.2.1,hnd.1.2.2.1,hnd.1.2.2.2.1⟩
    refine(nyj (iF (hQ kn mo)) (gu (hQ kn mo)) 49 [ptr b5 0,ptr gf 0] call49 ds aa b c sp W Oy eu eH GO.1 (Mq.mk [] 0) [] Mq.nil C4 (λj y hy W2 gm gv tG hk ajC=>?_)).mono ?_
    ·have keep:∀{q:Nat} {o:Obj},W.heap[q]? =some o->q≠b->q≠eH->W2.heap[q]? =some o:=λ{q o} h1 h2 h3=>(hk.block q (aT.1 h1).1 (λhx=>hx.elim h2 h3)).trans h1;have hdy:=hI.df y (cP hy);have Og:ai seA 35 W2.heap.size W2 y.fa y.fr/\∀b' off,y.fa=some ⟨b',off,none⟩->b'≠eH:=by
      rcases hdy.sl with h1|⟨b',off,fC,t',CD,e1,e2,e3⟩
      ·exact absurd h1 hdy.ne
      have h2:=hS.fzLies _ e2;have hv:∀q:Nat×Obj,q∈(((Rw.row b c sp).hp gQ 142 ds++[(eH,(Mq.mk [] 0).obj de Value.bool ([]:Kv))])++[(gf,oC #[.map (some eH)] 137),(b5,oC #[.map (some gG)] 137),(gG,m.obj de Value.bool (hQ kn mo)),(kZ,aO dJ 35 (acc++mo) lN),(b3,aO dJ 35 mo s3)]:ad)->b'≠q.1:=λq hq h9=>hS.apart q hq (bY.2 ⟨_,e2,h9⟩);have hn1:=hv (b,aO gQ 142 ds sp) oR;have hn2:=hv (eH,(Mq.mk [] 0).obj de Value.bool ([]:Kv)) oR;exact⟨.inr ⟨b',off,fC,t',CD,e1,by have:=hk.size;have:=h2.1;omega,keep h2.2 hn1 hn2,e3⟩,λb2 an1 h=>by rw[e1]at h;cases h;exact hn2⟩
     exact SG (hQ kn mo) gG b5 m hm gf eH gm gv tG y W2.heap.size W2 (ak _) Og.2 (keep ajA (λh=>GO.2.2.1 h.symm) (λh=>zu.1.2.1 h.symm)) (keep ajB (λh=>GO.2.2.2 h.symm) (λh=>zu.1.2.2.1 h.symm)) (keep Z8 (λh=>GO.2.1 h.symm) (λh=>zu.1.1 h.symm)) ajC Og.1 (hIl y (cP hy)) zu.1.2.1 zu.1.2.2.1 zu.1.1
    rintro e w' ⟨bU,vc,rfl,hk,bN,ew,iu,hl⟩;refine⟨(.row b c bU,vc),rfl,hk.mono (λk _ hk=>by rcases hk with rfl|rfl<;>simp[keys,Rw.hp]),⟨bN,iu,λk hk=>hk⟩,λp hp=>?_,Vv GO.1⟩;simp only[Rw.hp,gi,ef,bX,dy,or_false]at hp;rcases hp with rfl|rfl
    ·exact⟨ew,.inl (by simp[keys,Rw.hp])⟩
    exact⟨hl,.inl (by simp[keys,Rw.hp])⟩
  rintro⟨Z9,gm⟩ ⟨GP,tG,Oz⟩ aaa;dsimp only at GP tG Oz ⊢;have aab:Z9.Fr (dI F) [w2,w]:=by
   cases Z9 with
   |nil=>trivial
   |row b c sp=>exact Rw.Fr_at lb (Oz b rfl)
  refine OJ.perm ((Ox (gf,oC #[.map (some eH)] 137) (eH,gm.obj de Value.bool (ds.foldl (gu (hQ kn mo)) [])) [(b5,oC #[.map (some gG)] 137),(gG,m.obj de Value.bool (hQ kn mo)),(kZ,aO dJ 35 (acc++mo) lN),(b3,aO dJ 35 mo s3)] (Z9.hp gQ 142 (ds.filter (λd=> !iF (hQ kn mo) d)))).symm) ?_;refine B 5 ?_;refine Pw (α:=Nat) (v:=λb:Nat=>.func (.func 101) #[] #[ptr b 0]) (bo:=λb=>(b,oC #[.map (some eH)] 137)) (Φ:=λ_=>True) call53 rfl rfl rfl (λW hS=>(nSo (some eH) W).mono (λe w1 h=>?_)) ?_
  ·obtain⟨b,h1,h2,h3,h4⟩:=h;exact⟨b,h1,h2,h3,trivial,h4⟩
  intro bk hak ajD _;dsimp only at hak ajD ⊢;replace hak:=yb hak;refine UC (enc:=dJ) (m:=35) (t:=35) (Fin:=λzs=>∃ys:List Se,ys.Perm ((ds.foldl (gu (hQ kn mo)) []).map (·.1))/\zs=gq ys) (v:=id) call52 rfl rfl rfl (λW hS=>?_) ?_
  ·have SQ:=hS.own (bk,_) A0;have SR:=hS.own (eH,gm.obj de Value.bool (ds.foldl (gu (hQ kn mo)) [])) A2;have Pr:(ds.foldl (gu (hQ kn mo)) []).length<=100000:=by have:=GJ (hQ kn mo) ds [];simp only[fb]at this;omega
   refine(ngl (Pre:=λp=>p.length<=(ds.foldl (gu (hQ kn mo)) []).length) (Fin:=λys=>ys.Perm ((ds.foldl (gu (hQ kn mo)) []).map (·.1))) (RO:=λk=>k=bk\/k=eH) (f:=101) (cap:=[ptr bk 0]) call101 W (λk hk=>?_) (λp hp=>by omega) (λW2 hB=>nvo eH bk gm tG W2 (by rw[hB.block bk (aT.1 SQ).1];exact SQ) (by rw[hB.block eH (aT.1 SR).1];exact SR)) (λys h=>by rw[h.length_eq,eG];omega)).mono ?_
   ·rcases hk with rfl|rfl
    ·exact(aT.1 SQ).1
    exact(aT.1 SR).1
   rintro e w' ⟨ys,h1,h2⟩;exact⟨gq ys,⟨ys,h1,rfl⟩,h2⟩
  rintro _ r3n ⟨ys,xt,rfl⟩ aac SS;refine B 3 ?_;refine PJ.perm (Z4 (bk,oC #[.map (some eH)] 137) (gf,oC #[.map (some eH)] 137) (eH,gm.obj de Value.bool (ds.foldl (gu (hQ kn mo)) [])) (b5,oC #[.map (some gG)] 137) (gG,m.obj de Value.bool (hQ kn mo)) (kZ,aO dJ 35 (acc++mo) lN) (b3,aO dJ 35 mo s3) (r3n.hp dJ 35 (gq ys)) (Z9.hp gQ 142 (ds.filter (λd=> !iF (hQ kn mo) d)))) ?_;refine PJ.dropAt (i:=0) rfl hak ?_;refine PJ.dropAt (i:=0) rfl lP ?_;refine PJ.dropAt (i:=0) rfl iz ?_;refine PJ.dropAt (i:=0) rfl (uu.elim (λh=>h.elim) id) ?_;refine PJ.again (⟨(Rw.row kZ ur lN).val (acc++mo).length,(hQ kn mo),m,.row kZ ur lN,acc++mo,r3n,gq ys,Z9,(ds.filter (λd=> !iF (hQ kn mo) d))⟩:LI) ⟨(hI.step hne xt).1,hm,⟨Z7,qQ⟩,⟨aac,SS⟩,⟨aab,GP⟩,λy hy=>hIl y (wD.1 hy).1⟩ (hI.step hne xt).2 zR rfl rfl zJ
 intro ar;refine B 12 ?_;have AO:mo=[]:=kX aa;have hE:=hI.end_ AO;dsimp only at hE;refine P0 λWd yh=>?_;obtain⟨q,hqv,hqc,ajE⟩:∃q:Option Addr×Nat,lv= .slice q.1 acc.length q.2/\acc.length<=q.2/\(acc=[]\/∃b c sp,r1= .row b c sp/\q.1=some ⟨b,0,none⟩):=by
  by_cases Vi:kn=[]
  ·obtain⟨h1,h2,h3,h4⟩:=hI.k0 Vi;dsimp only at h1 h3 h4;have h5:L0=[]:=by
    have h6:cA L0=[]:=by rw[<-AO];exact h4.symm
    apply List.eq_nil_iff_forall_not_mem.2;intro s hs;have:=(CU L0 s).2 hs;rw[h6]at this;cases this
   exact⟨(qa,qc),by rw[h1,h3,h5],by rw[h1];exact cV _,.inl h1⟩
  have h1:lv=r1.val acc.length:=hI.k1 Vi;cases r1 with
  |nil=>exact⟨(none,0),by rw[h1];have h2:acc=[]:=gV;rw[h2];rfl,by have h2:acc=[]:=gV;rw[h2];exact cV _,.inl gV⟩
  |row b c sp=>exact⟨(some ⟨b,0,none⟩,c),h1,gV.1,.inr ⟨b,c,sp,rfl,rfl⟩⟩
 refine bM (.inl rfl) results26 bj λW hS=>⟨(q,acc),by rw[hqv];rfl,(hS.links w A1).below (λk hk hx=>by
  rcases hx with hx|hx
  ·exact hx
  simp only[gb,dt,eL,gi,ef,dV,bA,bX]at hx;rcases hx with hx|hx|hx|hx|hx
  ·omega
  ·omega
  ·have:=Rw.mem_ge mM hx;omega
  ·have:=Rw.mem_ge pB hx;omega
  have:=Rw.mem_ge ee hx;omega),?_,hE,hqc⟩
 rcases ajE with h|⟨b,c,sp,rfl,h⟩
 ·exact .inl h
 have h1:=hS.own (b,aO dJ 35 acc sp) oR;obtain⟨a9,c9,e9,h9⟩:=(Rw.row b c sp).sl (enc:=dJ) (t:=35) (N:=W.heap.size) (w:=W) nu gV h1 (ak _);simp only[Rw.val,Value.slice.injEq]at e9;rw[<-e9.1]at h9;rw[h];exact h9
end Px
