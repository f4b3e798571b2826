/- Contracts of functions of the program. No condition beyond those stated. -/
import Derived.Test.YtodpaegknpbomaaGreatDoorKg
import Derived.Test.YtodpaegknpbomaaGreatDoorProg
set_option linter.unusedSimpArgs false
set_option linter.unusedVariables false
set_option linter.unusedSectionVars false
set_option linter.unnecessarySimpa false
set_option maxRecDepth 20000
set_option maxHeartbeats 8000000
namespace Px
open Go Go.RowKit Go.Proofs Go.Proofs.Tryz
section
variable {C:Cx} {Q:aY} {E:Env} {D:List Deferred} {L:List World} {H F:ad}
theorem PJ.unfz{e:Exit}(k:PJ C Q e E D Gh.no L H):PJ C Q e E D (dL F) L H:=λa W hN hD hF hS=>k a W hN hD hF hS.unfz
end
abbrev Ow:=Int×Int
def GK (x:Ow):Array Value:=#[ab x.1,ab x.2]
structure eJ where
 fa:Option Addr
 fos:List Fo
 fc:Nat
 oa:Option Addr
 os:List Ow
 oc:Nat
 la:Option Addr
 cs:List Cm
 lc:Nat
 ga:Option Addr
 gs:List Gr
 gc:Nat
 ia:Option Addr
 xs:List Ir
 ic:Nat
 o5:Value
 o6:Value
 o7:Value
def rdA (r:eJ):Array Value:=#[.slice r.fa r.fos.length r.fc,.slice r.oa r.os.length r.oc,.slice r.la r.cs.length r.lc,.slice r.ga r.gs.length r.gc,.slice r.ia r.xs.length r.ic,r.o5,r.o6,r.o7]
structure jw (r:eJ):Prop where
 fl:r.fos.length<=10
 ol:r.os.length<=20
 cl:r.cs.length<=10
 cg:∀c∈r.cs,bO c
 gl:r.gs.length<=10
 gg:∀g∈r.gs,pr g
 il:r.xs.length<=10
 ii:∀x∈r.xs,jM x
structure fM (N:Nat) (w:World) (r:eJ):Prop where
 f:ai sT 33 N w r.fa r.fos
 o:ai GK 2 N w r.oa r.os
 c:ai cG 73 N w r.la r.cs
 C:∀c∈r.cs,du N w c
 g:ai vB 39 N w r.ga r.gs
 G:∀g∈r.gs,rK N w g
 i:ai CQ 68 N w r.ia r.xs
 I:∀x∈r.xs,gy N w x.ba x.body
variable {ch:Ch} {c:Cm} {R:Ending->World->Prop} {fo:Fo} {Z:Fx} {G:Gh} {H:ad} {a:Int} {D0:List (List Se×Se)} {ls:List Se} {vs:List Value} {L:List World} {j lim:Nat} {P:Program} {w:World}
theorem fM.up{N N':Nat}{w':World}{r:eJ}(h:fM N w r)(hN:N<=N')(hw:∀k,k<N->w'.heap[k]? =w.heap[k]?):fM N' w' r:=
 ⟨h.f.up hN hw,h.o.up hN hw,h.c.up hN hw,λc hc=>(h.C c hc).up hN hw,h.g.up hN hw,λg hg=>(h.G g hg).up hN hw,h.i.up hN hw,λx hx=>(h.I x hx).up hN hw⟩
noncomputable def eJ.D (r:eJ) (Z:Fx):List (List Se×Se):=pw Z r.cs r.fos r.gs r.xs
def pR (os:List Ow) (dv:Int):List Se:=(os.filter λo=>decide (o.1=dv)).map λo=>aS o.2
def qG (ps:List Ap) (dv:Int):List Se:=(ps.filter λp=>decide (p.1.author=dv)).map λp=>np (dk p.2.2.2.last) 0
noncomputable def eJ.fs0 (r:eJ) (Z:Fx) (dv:Int):List Se:=pR r.os dv++qG (gW Z r.cs r.fos) dv
noncomputable def eJ.fs (r:eJ) (Z:Fx) (dv:Int):List Se:=cN (r.fs0 Z dv)
theorem nBj{os:List Ow}{dv:Int}{o:Ow}(h:os[j]? =some o)(e:o.1=dv):pR (os.take (j+1)) dv=pR (os.take j) dv++[aS o.2]:=by unfold pR;rw[nq h,List.filter_append];simp[e]
theorem nSl{os:List Ow}{dv:Int}{o:Ow}(h:os[j]? =some o)(e:¬o.1=dv):pR (os.take (j+1)) dv=pR (os.take j) dv:=by unfold pR;rw[nq h,List.filter_append];simp[e]
theorem noj{pls:List Pl}{dv:Int}{p:Pl}(h:pls[j]? =some p)(e:p.c.author=dv):qG ((pls.take (j+1)).map bC) dv=qG ((pls.take j).map bC) dv++[np (dk p.x.g.last) 0]:=by simp_all[qG,nq,bC]
theorem nom{pls:List Pl}{dv:Int}{p:Pl}(h:pls[j]? =some p)(e:¬p.c.author=dv):qG ((pls.take (j+1)).map bC) dv=qG ((pls.take j).map bC) dv:=by simp_all[qG,nq,bC]
theorem nqj(os:List Ow)(dv:Int):(pR os dv).length<=os.length:=by unfold pR;rw[eQ];exact Q3 _ _
theorem nWj(ps:List Ap)(dv:Int):(qG ps dv).length<=ps.length:=by unfold qG;rw[eQ];exact Q3 _ _
inductive zp (D:List (List Se×Se)) (L0:List Se):Se->Prop
 |base {s:Se}:s∈L0->zp D L0 s
 |step {d:List Se×Se}:d∈D->(∀f∈d.1,zp D L0 f)->zp D L0 d.2
theorem lk.iff{L0:List Se}(h:lk D0 L0 lim ls)(s:Se):s∈ls↔zp D0 L0 s:=by
 constructor
 ·intro hs;obtain⟨i,hi⟩:=kA.1 hs;clear hs;induction i using Nat.strongRecOn generalizing s with
  |_ i ih=>
   rcases h.ord i s hi with h1|⟨d,h1,h2,h3⟩
   ·exact .base h1
   rw[<-h2];refine .step h1 λf hf=>?_;obtain⟨j,hj⟩:=kA.1 (h3 f hf);have hl:=nr hj;rw[lb]at hl;rw[QS aa]at hj;exact ih j aa f hj
 intro hs;induction hs with
 |base h1=>exact h.l0 _ h1
 |step h1 _ ih=>exact h.cl _ h1 ih
theorem zp.mono{D D':List (List Se×Se)}{L L':List Se}(hD:∀d∈D,d∈D')(hL:∀s∈L,s∈L'){s:Se}(h:zp D L s):zp D' L' s:=by
 induction h with
 |base h1=>exact .base (hL _ h1)
 |step h1 _ ih=>exact .step (hD _ h1) ih
theorem n7f{L0:List Se}(h:lk D0 L0 lim ls)(s:Se):s∈cN ls↔zp D0 L0 s:=(CK _ _).trans (h.iff s)
theorem n0f(hZ:FxOk Z)(r:eJ)(hr:jw r)(N:Nat)(w:World)(hN:N<=w.heap.size)(hrA:fM N w r)(hg:Glb w)(a0 a1:Addr)(hse:Sen w a0 a1)(qa:Option Addr)(L0:List Se)(qc:Nat)(VB:L0.length<=50000)(SK:ai dh 35 N w qa L0):Calls prog 26 #[.agg (rdA r),.slice qa L0.length qc] w (cK w (λq:(Option Addr×Nat)×List Se=>.slice q.1.1 q.2.length q.1.2) (λq w1=>ai dh 35 w1.heap.size w1 q.1.1 q.2/\lk (r.D Z) L0 71000 q.2/\q.2.length<=q.1.2)):=
 nmp hZ r.cs (dR hr.cl zA) hr.cg N r.la r.lc w hN hrA.c hrA.C r.fa r.fos r.fc hr.fl hr.cl hrA.f r.ga r.gs r.gc hr.gl hrA.g hr.gg hrA.G r.ia r.xs r.ic hr.il hrA.i hr.ii hrA.I _ r.o5 r.o6 r.o7 hg a0 a1 hse qa L0 qc VB SK
theorem nNe(hZ:FxOk Z)(r:eJ)(hr:jw r)(N:Nat)(w:World)(hN:N<=w.heap.size)(hrA:fM N w r)(hg:Glb w)(dv:Int):Calls prog 11 #[.agg (rdA r),ab dv] w (aD w dM 35 35 (r.fs Z dv) id):=by
 have hg4:=hg.lt;have xB:=hr.ol;refine nB (dL []) [] (vs:=[_,_]) func11 rfl ntmps11 rfl (NU w) ?_;refine B 2 ?_;refine yX ?_;intro b2 w2 di bV ff dB dx;refine B 7 ?_;refine ay (.slice r.oa r.os.length r.oc) ?_;refine B 5 ?_;refine CJ.loop (α:=Rw×Nat) (λp=>[(1,ab dv),(2,ptr b2 0),(4,p.1.val (pR (r.os.take p.2) dv).length),(10,.slice r.oa r.os.length r.oc),(11,ab (r.os.length:Int)),(12,ab (p.2:Int))]) (λp=>p.1.hp dM 35 (pR (r.os.take p.2) dv)++[]) (λp=>[w2,w]) (λp=>dL []) (λp=>p.2<=r.os.length/\p.1.Fr (dL []) [w2,w]/\p.1.Fit 35 (pR (r.os.take p.2) dv)) (λp=>r.os.length-p.2) (.nil,0) ⟨cR _,True.intro,rfl⟩ zR rfl rfl zI ?_;rintro⟨ro,j⟩ ⟨hj,aK,ah⟩;dsimp only at hj aK ah ⊢;have bG:ro.ge w2.heap.size:=Rw.ge_fz aK A0;refine B 6 ?_;refine aG ?_ ?_
 ·intro ar;refine B 5 ?_;have Gl:=hrA.o;obtain⟨bo,oo,cs0,to,fV,im,fP,cJ,aV⟩:=Gl.get aa;obtain⟨o,ho⟩:=ng r.os j aa;rw[im];refine B 2 ?_;refine ay (.agg (GK o)) ?_;refine B 1 ?_;refine yW ?_;intro b6 jO qy;refine B 6 ?_;refine ay (ab o.1) ?_;refine B 4 ?_;refine aG ?_ ?_
  ·intro aN;refine B 3 ?_;refine ay (ab o.2) ?_;refine zje ?_;refine IL ?_;refine yW ?_;intro fH Xs Xt;refine kg (r:=ro) (xs:=(pR (r.os.take j) dv)) (zs:=[(aS o.2)]) (enc:=dM) (m:=35) (H0:=[(fH,oC (dh (aS o.2)) 35),(b6,oC (GK o) 71)]) (H1:=[]) zW Oa nu rfl rfl rfl rfl (cd.one (z:=aS o.2) nu IK underlying38 (bB.own (i:=0) rfl)) ah aK zI (by have h9:=nqj (r.os.take j) dv;rw[lb]at h9;simp only[dF,fh];omega) ?_;intro b25 P1 P2 yE yF;replace yE:=yb yE;refine Cy ?_;refine PJ.again (Rw.row b25 P1 P2,j+1) ⟨by dsimp only;omega,yE.elim (λh=>Rw.Fr_at aK h) (λh=>.inr h),by dsimp only;rw[nBj ho eE];exact yF⟩ zS ⟨rfl,rfl,by dsimp only;rw[nBj ho eE];rfl,rfl,rfl,rfl,trivial⟩ (by dsimp only;rw[nBj ho eE];rfl) rfl zI
  intro aN;refine xr ?_;refine PJ.again (ro,j+1) ⟨by dsimp only;omega,aK,by dsimp only;rw[nSl ho eE];exact ah⟩ zS ⟨rfl,rfl,by dsimp only;rw[nSl ho eE];rfl,rfl,rfl,rfl,trivial⟩ (by dsimp only;rw[nSl ho eE];rfl) rfl zI
 intro ar;refine B 7 ?_;have ck:r.os.take j=r.os:=jZ aa;rw[ck]at ah ⊢;have how:=nqj r.os dv;refine B 1 ?_;refine ay (.agg (rdA r)) ?_;refine Vg (γ:=(Option Addr×Nat)×List Pl) (v:=λq=>.slice q.1.1 q.2.length q.1.2) (Φ:=λF' q=>q.2.map bC=gW Z r.cs r.fos/\(∀p∈q.2,Ln F' p/\p.c∈r.cs)/\q.2.length<=100/\lC (λx=>(zl x).toArray) 111 F' q.1.1 q.2) call30 rfl rfl rfl (λW hS=>?_) ?_
 ·have Ym:=hrA.up (ak _) (hS.same A1 hN zH zF);exact nJh hZ r.cs (dR hr.cl zA) hr.cg N r.la r.lc W cM Ym.c Ym.C r.fa r.fos r.fc hr.fl hr.cl Ym.f _ _ _ r.o5 r.o6 r.o7 (hg.old hS A1 zH zF)
 rintro⟨⟨pa,xK⟩,pls⟩ F1 ⟨sa,CU,iH,xL⟩ ze;dsimp only at sa CU iH xL ⊢;have xL:lC kD 111 F1 pa pls:=xL;obtain⟨F,hFe⟩:∃F,F1++[]=F:=⟨_,rfl⟩;rw[hFe];have xL:lC kD 111 F pa pls:=xL.mono (λq hq=>hFe▸bj.2 (.inl hq));have iI:ro.Fr (dL F) [w2,w]:=by
  cases ro with
  |nil=>trivial
  |row b c sp=>exact aK.elim (λh=>h.elim) .inr
 refine B 5 ?_;refine CJ.loop (α:=Rw×Nat) (λp=>[(1,ab dv),(4,p.1.val (pR r.os dv++qG ((pls.take p.2).map bC) dv).length),(28,.slice pa pls.length xK),(29,ab (pls.length:Int)),(30,ab (p.2:Int))]) (λp=>p.1.hp dM 35 (pR r.os dv++qG ((pls.take p.2).map bC) dv)++[]) (λp=>[w2,w]) (λp=>dL F) (λp=>p.2<=pls.length/\p.1.Fr (dL F) [w2,w]/\p.1.Fit 35 (pR r.os dv++qG ((pls.take p.2).map bC) dv)) (λp=>pls.length-p.2) (ro,0) ⟨cR _,iI,by dsimp only;rw[show qG ((pls.take 0).map bC) dv=[]from rfl,eb];exact ah⟩ ⟨rfl,by dsimp only;rw[show qG ((pls.take 0).map bC) dv=[]from rfl,eb];rfl,rfl,rfl,rfl,trivial⟩ (by dsimp only;rw[show qG ((pls.take 0).map bC) dv=[]from rfl,eb (pR r.os dv)]) rfl zI ?_;rintro⟨ro,i⟩ ⟨hi,aK,ah⟩;dsimp only at hi aK ah ⊢;have bG:ro.ge w2.heap.size:=Rw.ge_fz aK A0;refine B 6 ?_;refine aG ?_ ?_
 ·intro dp;refine B 5 ?_;obtain⟨bp,op,csp,tp,frp,Vz,Cg,hcp⟩:=xL.get aa;obtain⟨p,hp⟩:=ng pls i aa;refine B 1 ?_;refine zAd ?_;refine B 1 ?_;refine yW ?_;intro b8 Ig Ii;refine B 7 ?_;refine ay (ab p.c.author) ?_;refine B 4 ?_;refine aG ?_ ?_
  ·intro jh;refine B 4 ?_;refine Vv ?_;refine zde ?_;refine IL ?_;refine yW ?_;intro b44 anO anP;refine kg (r:=ro) (xs:=(pR r.os dv++qG ((pls.take i).map bC) dv)) (zs:=[(np (dk p.x.g.last) 0)]) (enc:=dM) (m:=35) (H0:=[(b44,oC (dh (np (dk p.x.g.last) 0)) 35),(b8,oC (kD p) 92)]) (H1:=[]) zW Oa nu rfl rfl rfl rfl (cd.one (z:=np (dk p.x.g.last) 0) nu IK underlying38 (bB.own (i:=0) rfl)) ah aK zI (by have h9:=nWj ((pls.take i).map bC) dv;rw[eQ,lb]at h9;simp only[cy,dF,fh];omega) ?_;intro b45 ajy ajz SQ SR;replace SQ:=yb SQ;refine Cy ?_;refine PJ.again (Rw.row b45 ajy ajz,i+1) ⟨by dsimp only;omega,SQ.elim (λh=>Rw.Fr_at aK h) (λh=>.inr h),by dsimp only;rw[noj hp eE,<-iY];exact SR⟩ zS ⟨rfl,by dsimp only;rw[noj hp eE,<-iY];rfl,rfl,rfl,rfl,trivial⟩ (by dsimp only;rw[noj hp eE,<-iY];rfl) rfl zI
  intro jh;refine xr ?_;refine PJ.again (ro,i+1) ⟨by dsimp only;omega,aK,by dsimp only;rw[nom hp eE];exact ah⟩ zS ⟨rfl,by dsimp only;rw[nom hp eE];rfl,rfl,rfl,rfl,trivial⟩ (by dsimp only;rw[nom hp eE];rfl) rfl zI
 intro dp;refine B 6 ?_;have EL:pls.take i=pls:=jZ aa;rw[EL,sa]at ah ⊢;have sE:=nWj (gW Z r.cs r.fos) dv;have anQ:(gW Z r.cs r.fos).length<=100:=by rw[<-sa,eQ];exact iH
 refine B 2 ?_;refine It (enc:=dM) (m:=35) (t:=35) (xs:=r.fs Z dv) (v:=id) (first:=[]) (cap:=[]) rfl call32 rfl rfl rfl (λW hS=>?_) ?_
 ·obtain⟨a9,c9,e9,h9⟩:=ro.sl (enc:=dM) (t:=35) (N:=W.heap.size) (w:=W) nu ah (by
   cases ro with
   |nil=>trivial
   |row b c sp=>exact hS.own (b,_) oW) (ak _)
  have h8:=nwg (r.fs0 Z dv) (by unfold eJ.fs0;rw[cy];omega) W.heap.size a9 c9 W (ak _) h9;have e8:(Value.slice a9 (r.fs0 Z dv).length c9)=ro.val (pR r.os dv++qG (gW Z r.cs r.fos) dv).length:=e9.symm;rw[e8]at h8;exact h8
 intro r9 SS GL;have mW:r9.ge w2.heap.size:=Rw.ge_fz SS A0;refine B 4 ?_;refine PJ.unfz ?_;exact nP (H0:=[]) (H1:=_) (r:=r9) (.inl rfl) results11 aX A1 (by refine nD.2 ⟨Rw.over (Rw.ge_mono mW aa),?_⟩;rw[eb];exact Rw.over (Rw.ge_mono bG aa)) rfl GL (Rw.ge_mono mW aa) rfl
theorem nge(hZ:FxOk Z)(r:eJ)(hr:jw r)(N:Nat)(w:World)(hN:N<=w.heap.size)(hrA:fM N w r)(hg:Glb w)(a0 a1:Addr)(hse:Sen w a0 a1)(qa:Option Addr)(L0:List Se)(qc:Nat)(VB:L0.length<=50000)(SK:ai dh 35 N w qa L0):Calls prog 15 #[.agg (rdA r),.slice qa L0.length qc] w (λe w'=>∃ls,lk (r.D Z) L0 71000 ls/\aD w dM 35 35 (cN ls) id e w'):=by
 refine eN func15 ntmps15 ?_;refine B 2 ?_;refine yX ?_;intro b2 w2 di bV ff dB dx;refine B 5 ?_;refine ay (.agg (rdA r)) ?_;refine B 1 ?_;refine nv (α:=(Option Addr×Nat)×List Se) (v:=(λq:(Option Addr×Nat)×List Se=>.slice q.1.1 q.2.length q.1.2)) (Φ:=λW q w1=>ai dh 35 w1.heap.size w1 q.1.1 q.2/\lk (r.D Z) L0 71000 q.2/\q.2.length<=q.1.2) call26 rfl rfl rfl (λW hS=>n0f hZ r hr N W cM (hrA.up (ak _) hS.sm) (hg.old hS A1 zH trivial) a0 a1 (hse.old hS A1) qa L0 qc VB (SK.up (ak _) hS.sm)) ?_;rintro Wq ⟨⟨Ov,IX⟩,ls⟩ wq BL QH ⟨mZ,mh,Il⟩;dsimp only at mZ mh Il ⊢;have SU:=mh.ln;refine It (enc:=dM) (m:=35) (t:=35) (xs:=cN ls) (v:=id) (first:=[]) (cap:=[]) rfl call32 rfl rfl rfl (λW hS=>nwg ls aa wq.heap.size Ov IX W (hS.links wq A0).size (mZ.up (ak _) (hS.same A0 (ak _) zH trivial))) ?_;intro r9 SS GL;have mW:r9.ge w.heap.size:=Rw.ge_of SS A2;refine B 4 ?_;exact bK (.inl rfl) results15 aX λW hS=>⟨ls,mh,r9,rfl,hS.base A2 (by rw[eb];exact Rw.over mW),mW,GL,by cases r9 with|nil=>exact True.intro|row b cap sp=>exact hS.own _ A0⟩
theorem nWh(hZ:FxOk Z)(r:eJ)(hr:jw r)(N:Nat)(w:World)(hN:N<=w.heap.size)(hrA:fM N w r)(hg:Glb w)(a0 a1:Addr)(hse:Sen w a0 a1)(dv:Int)(s:Se)(kp:(r.fs Z dv).length<=200):Calls prog 10 #[.agg (rdA r),ab dv,dq s] w (cK w (λb:Bool=>.bool b) (λb _=>∃ls,lk (r.D Z) (r.fs Z dv) 71000 ls/\b=decide (s∈ls))):=by
 refine eN func10 ntmps10 ?_;refine B 2 ?_;refine yX ?_;intro b3 w3 cZ cu fC ez eP;refine yX ?_;intro b5 w5 Cw Xj hz5 sq su;refine B 4 ?_;refine eS 6 3 [4] (sp:=[some (.agg (rdA r)),some (.agg (rdA r)),_,_,_,some (dq s)]) (h:=?_);intro _ _ hk;refine zOd ?_;intro Wf af cf wf hSf hBf zq Ox;refine zG ?_;intro _ _ hk;have Oy:ai dh 35 wf.heap.size wf af (r.fs Z dv):=zq;refine zbd ?_;rintro Wq ⟨⟨Ov,IX⟩,ls⟩ wq BL QH ⟨mZ,mh,Il⟩;dsimp only at mZ mh Il ⊢;refine zE ?_;have SU:=mh.ln;refine call (v:=.bool (decide (s∈ls))) call28 rfl rfl rfl (λW hS=>nan ls aa wq.heap.size Ov IX W (hS.links wq A0).size (mZ.up (ak _) (hS.same A0 (ak _) zH trivial)) s) ?_;refine B 4 ?_;refine rY (decide (s∈ls)) results10 rfl A4 rfl ?_;exact λW hS=>⟨ls,mh,rfl⟩
theorem GM(hZ:FxOk Z)(r:eJ)(hr:jw r)(N:Nat)(w:World)(hN:N<=w.heap.size)(hrA:fM N w r)(hg:Glb w)(a0 a1:Addr)(hse:Sen w a0 a1)(dv:Int)(s:Se)(kp:(r.fs Z dv).length<=200):Calls prog 9 #[.agg (rdA r),ab dv,dq s] w (cK w (λq:((Option Addr×Nat)×List Se)×Bool=>.tuple #[.slice q.1.1.1 q.1.2.length q.1.1.2,.bool q.2]) (λq w1=>ai dh 35 w1.heap.size w1 q.1.1.1 q.1.2/\q.1.2.length<=q.1.1.2/\∃ls,lk (r.D Z) (r.fs Z dv) 71000 ls/\((s∉ls/\q.1.2=[]/\q.2=false)\/∃j,ls[j]? =some s/\q.1.2=ls.take (j+1)/\q.2=true))):=by
 refine eN func9 ntmps9 ?_;refine B 2 ?_;refine yX ?_;intro b3 w3 cZ cu fC ez eP;refine yX ?_;intro b5 w5 Cw Xj hz5 sq su;refine B 5 ?_;refine eS 4 3 [] (sp:=[some (.agg (rdA r)),some (.agg (rdA r)),_,_]) (h:=?_);intro _ _ hk;refine zOd ?_;intro Wf af cf wf hSf hBf zq Ox;refine zE ?_;have Oy:ai dh 35 wf.heap.size wf af (r.fs Z dv):=zq;refine zbd ?_;rintro Wq ⟨⟨Ov,IX⟩,ls⟩ wq BL QH ⟨mZ,mh,Il⟩;dsimp only at mZ mh Il ⊢;have SU:=mh.ln;refine B 6 ?_;refine ay (dq s) ?_;refine call (v:=ab (FB ls (λy=>decide (s=y)))) call27 rfl rfl rfl (λW hS=>nFl ls aa wq.heap.size Ov IX W (hS.links wq A0).size (mZ.up (ak _) (hS.same A0 (ak _) zH trivial)) s) ?_;refine B 5 ?_;have CM:=nCl (λy=>decide (s=y)) ls;obtain⟨ix,ajD⟩:∃ix,FB ls (λy=>decide (s=y))=ix:=⟨_,rfl⟩;rw[ajD]at CM ⊢;refine B 5 ?_;refine aG ?_ ?_
 ·intro ar;refine B 8 ?_;refine bK (.inl rfl) results9 aX λW hS=>?_;refine⟨(((none,0),[]),false),rfl,hS.base A4 trivial,.inl rfl,ak _,ls,mh,.inl ⟨λhm=>?_,rfl,rfl⟩⟩;rcases CM with⟨_,h2⟩|⟨j,x,h1,_⟩
  ·have:=h2 s hm;simp at this
  omega
 intro ar;refine B 3 ?_;obtain⟨j,y,rfl,hy,xl,_⟩:=CM.resolve_left (λh=>by have:=h.1;omega);obtain rfl:s=y:=by simpa using xl
 have Cn:=nr hy;obtain⟨bo,oo,cs0,to,fV,rfl,fP,cJ,aV⟩:=mZ.get aa;refine B 3 ?_;refine ay (ab ((j+1:Nat):Int)) ?_;refine rq (.slice (some ⟨bo,oo,none⟩) (ls.take (j+1)).length IX) (fE (h:=j+1) underlying38 sizeOf35 rfl ⟨_,_,rfl,rfl⟩ aa) YE ?_;refine B 5 ?_;refine bK (.inl rfl) results9 aX λW hS=>?_;refine⟨((((some ⟨bo,oo,none⟩),IX),ls.take (j+1)),true),rfl,hS.base A4 trivial,?_,by dsimp only;rw[lb];omega,ls,mh,.inr ⟨j,hy,rfl,rfl⟩⟩;have h9:=hS.old A0 cJ zJ trivial;exact .inr ⟨bo,oo,cs0,to,fV,rfl,(aT.1 h9).1,h9,λi hi=>by rw[lb]at hi;rw[List.getElem_take];exact aV i aa⟩
def epL (l:List Se):List Dk:=(l.filter λs=>decide (s.kind=3)).map λs=>s.com
theorem nAj{l:List Se}{s:Se}(h:l[j]? =some s)(e:s.kind=3):epL (l.take (j+1))=epL (l.take j)++[s.com]:=by unfold epL;rw[nq h,List.filter_append];simp[e]
theorem nfm{l:List Se}{s:Se}(h:l[j]? =some s)(e:¬s.kind=3):epL (l.take (j+1))=epL (l.take j):=by unfold epL;rw[nq h,List.filter_append];simp[e]
theorem LM(l:List Se):(epL l).length<=l.length:=by unfold epL;rw[eQ];exact Q3 _ _
theorem nFk(hZ:FxOk Z)(r:eJ)(hr:jw r)(N:Nat)(w:World)(hN:N<=w.heap.size)(hrA:fM N w r)(hg:Glb w)(a0 a1:Addr)(hse:Sen w a0 a1)(dv:Int)(kp:(r.fs Z dv).length<=200):Calls prog 21 #[.agg (rdA r),ab dv] w (λe w'=>∃ls,lk (r.D Z) (r.fs Z dv) 71000 ls/\aD w cD 32 33 (epL (cN ls)) id e w'):=by
 refine eN func21 ntmps21 ?_;refine B 2 ?_;refine yX ?_;intro b2 w2 di bV ff dB dx;refine B 5 ?_;refine eS 7 3 [4,5] (sp:=((some (.agg (rdA r)))::(some (.agg (rdA r)))::_)) (h:=?_);intro _ _ hk;refine nG (enc:=dM) (m:=35) (t:=35) (xs:=(r.fs Z dv)) (v:=id) (first:=[]) (cap:=[]) rfl call11 rfl rfl rfl nu (λW hS=>nNe hZ r hr N W cM (hrA.up (ak _) hS.sm) (hg.old hS A1 zH trivial) dv) ?_;intro Wf af cf wf hSf hBf zq Ox;refine zG ?_;intro _ _ hk;have Oy:ai dh 35 wf.heap.size wf af (r.fs Z dv):=zq;refine LN (enc:=dM) (m:=35) (t:=35) (v:=id) (Φ:=λ_ _ zs=>∃ls,lk (r.D Z) (r.fs Z dv) 71000 ls/\zs=cN ls) call15 rfl rfl rfl nu (λW hS=>(nge hZ r hr W.heap.size W (ak _) (hrA.up cM hS.sm) (hg.old hS A2 zH trivial) a0 a1 (hse.old hS A2) af (r.fs Z dv) cf aa (zq.up (hS.links wf A0).size (hS.same A0 (ak _) zH trivial))).mono ?_) ?_
 ·rintro e w' ⟨ls,h1,h2⟩;exact⟨cN ls,⟨ls,h1,rfl⟩,h2⟩
 rintro Wq zs Ov IX wq BL QH ⟨ls,mh,rfl⟩ mZ NL;refine zG ?_;intro _ _ hk;refine B 1 ?_;refine zE ?_;have SU:=mh.ln;have ajG:=Vn ls;obtain⟨zs,tF⟩:∃zs,cN ls=zs:=⟨_,rfl⟩;rw[tF]at mZ ajG ⊢;have mZ:ai dh 35 wq.heap.size wq Ov zs:=mZ;refine B 3 ?_;refine CJ.loop (α:=Rw×Nat) (λp=>[(4,p.1.val (epL (zs.take p.2)).length),(11,.slice Ov zs.length IX),(12,ab (zs.length:Int)),(13,ab (p.2:Int))]) (λp=>p.1.hp cD 33 (epL (zs.take p.2))++[]) (λp=>[wq,wf,w2,w]) (λp=>Gh.no) (λp=>p.2<=zs.length/\p.1.Fr Gh.no [wq,wf,w2,w]/\p.1.Fit 32 (epL (zs.take p.2))) (λp=>zs.length-p.2) (.nil,0) ⟨cR _,True.intro,rfl⟩ zR rfl rfl zI ?_;rintro⟨ro,j⟩ ⟨hj,aK,ah⟩;dsimp only at hj aK ah ⊢;have bG:ro.ge wq.heap.size:=Rw.ge_of aK A0;refine B 6 ?_;refine aG ?_ ?_
 ·intro ar;refine B 5 ?_;obtain⟨bo,oo,cs0,to,fV,im,fP,cJ,aV⟩:=mZ.get aa;obtain⟨x,hx⟩:=ng zs j aa;refine B 1 ?_;refine rv rfl rfl rfl (dc underlying38 sizeOf35 (congrArg (λq=>some (Value.slice q zs.length IX)) im) rfl aa aa) ?_;refine ay (.agg (dh x)) ?_;refine B 1 ?_;refine yW ?_;intro b6 jO qy;refine B 6 ?_;refine ay (ab x.kind) ?_;refine B 3 ?_;refine aG ?_ ?_
  ·intro aN;refine B 3 ?_;refine ay (.agg (dg (fX x.com))) ?_;refine zRd ?_;refine yW ?_;intro b23 Xe PQ;refine kg (r:=ro) (xs:=(epL (zs.take j))) (zs:=[(dk (fX x.com))]) (enc:=cD) (m:=32) (H0:=[(b23,oC (dg (fX x.com)) 33),(b6,oC (dh x) 35)]) (H1:=[]) zW nIi nX rfl rfl rfl rfl (cd.one (z:=dk (fX x.com)) nX Va underlying72 (bB.own (i:=0) rfl)) ah aK zI (by have h9:=LM (zs.take j);rw[lb]at h9;simp only[dF,fh];omega) ?_;intro fH uu lW pZ qV;replace pZ:=yb pZ;refine Cy ?_;refine PJ.again (Rw.row fH uu lW,j+1) ⟨by dsimp only;omega,pZ.elim (λh=>Rw.Fr_at aK h) (λh=>.inr h),by dsimp only;rw[nAj hx eE,<-K8 x.com];exact qV⟩ zS ⟨by dsimp only;rw[nAj hx eE,<-K8 x.com];rfl,rfl,rfl,rfl,trivial⟩ (by dsimp only;rw[nAj hx eE,<-K8 x.com];rfl) rfl zI
  intro aN;refine xr ?_;refine PJ.again (ro,j+1) ⟨by dsimp only;omega,aK,by dsimp only;rw[nfm hx eE];exact ah⟩ zS ⟨by dsimp only;rw[nfm hx eE];rfl,rfl,rfl,rfl,trivial⟩ (by dsimp only;rw[nfm hx eE];rfl) rfl zI
 intro ar;refine B 6 ?_;have ck:zs.take j=zs:=jZ aa;rw[ck,<-tF]at ah ⊢;refine B 6 ?_;exact bK (.inl rfl) results21 aX λW hS=>⟨ls,mh,ro,rfl,hS.base A3 (by rw[eb];exact Rw.over (Rw.ge_of aK A3)),Rw.ge_of aK A3,ah,by cases ro with|nil=>exact True.intro|row b cap sp=>exact hS.own _ A0⟩
def sY (r:eJ):Bool:=decide (r.fos.length<=3)&&BZ r.cs&&decide (r.gs.length<=4)&&decide (r.xs.length<=4)&&decide (r.os.length<=20)&&r.gs.all λg=>decide (g.olds.length<=6)
structure rM (r:eJ):Prop where
 f:r.fos.length<=9223372036854775807
 g:r.gs.length<=9223372036854775807
 x:r.xs.length<=9223372036854775807
 o:r.os.length<=9223372036854775807
 c:∀c∈r.cs,Fw c
theorem nDn(r:eJ)(hl:rM r)(N:Nat)(w:World)(hN:N<=w.heap.size)(hrA:fM N w r):Calls prog 8 #[.agg (rdA r)] w (aL w (.bool (sY r))):=by
 refine eN func8 ntmps8 ?_;refine B 2 ?_;refine yX ?_;intro b1 w1 hb1 cF gK gj jy;refine B 7 ?_;refine ay (.slice r.fa r.fos.length r.fc) ?_;refine B 3 ?_;refine ni (t:=8) rfl (λar=>?_) (λar=>?_)
 ·replace ar:=ya ar;refine B 33 ?_;exact SV
 replace ar:=ya ar;refine B 1 ?_;refine ay (.slice r.la r.cs.length r.lc) ?_;refine call call25 rfl rfl rfl (λW hS=>K7 r.cs hl.c N r.la r.lc W cM (hrA.c.up (ak _) hS.sm) (λc hc=>(hrA.C c hc).up (ak _) hS.sm)) ?_;refine B 3 ?_;refine ni (t:=14) rfl (λaN=>?_) (λaN=>?_)
 ·replace aN:=ya aN;refine B 27 ?_;exact SV
 replace aN:=ya aN;refine B 1 ?_;refine ay (.slice r.ga r.gs.length r.gc) ?_;refine B 4 ?_;refine ni (t:=20) rfl (λdp=>?_) (λdp=>?_)
 ·replace dp:=ya dp;refine B 21 ?_;exact SV
 replace dp:=ya dp;refine B 1 ?_;refine ay (.slice r.ia r.xs.length r.ic) ?_;refine B 4 ?_;refine ni (t:=26) rfl (λjh=>?_) (λjh=>?_)
 ·replace jh:=ya jh;refine B 15 ?_;exact SV
 replace jh:=ya jh;refine B 1 ?_;refine ay (.slice r.oa r.os.length r.oc) ?_;refine B 5 ?_;refine aG ?_ ?_
 ·intro iC;refine B 7 ?_;exact SV
 intro iC;refine B 9 ?_;refine CJ.lp (α:=Nat) [1] (λj=>[(3,ab (j:Int))]) (λj=>[]) (λj=>j<=r.gs.length/\(r.gs.take j).all (λg:Gr=>decide (g.olds.length<=6))=true) (λj=>r.gs.length-j) 0 ⟨cR _,rfl⟩ ?_;rintro j ⟨hj,Lp⟩;refine B 5 ?_;refine ay (.slice r.ga r.gs.length r.gc) ?_;refine B 4 ?_;refine aG ?_ ?_
 ·intro lS;refine B 5 ?_;have ajH:=hrA.g;obtain⟨bg,og,csg,tg,frg,hpg,Lq,ZY,rE⟩:=ajH.get aa;obtain⟨g,Sx⟩:=ng r.gs j aa;refine B 2 ?_;refine rq (.slice (some ⟨bg,og,none⟩) r.gs.length r.gc) (av isAgg25 rfl A0 hb1 cF trivial rfl) (by show Value.slice r.ga r.gs.length r.gc=_;rw[hpg]) ?_;refine B 3 ?_;refine rv rfl rfl rfl (av (v:=.slice g.oa g.olds.length g.oc) isAgg85 rfl A1 ZY zJ trivial (by have:=xv rE Sx rfl 36 zA;simpa[vB]using this)) ?_;refine B 4 ?_;refine aG ?_ ?_
  ·intro kz;refine B 11 ?_;exact SV
  intro kz;refine B 8 ?_;refine ag (j+1) ⟨by omega,n5f Lp Sx (decide_eq_true aa)⟩
 intro lS;refine B 6 ?_;have ck:=n0g Lp aa;refine B 5 ?_;exact SV
theorem nLf(a:Int)(k:Nat)(m:Int):(a%m)^k%m=a^k%m:=by
 induction k with
 |zero=>rw[Int.pow_zero,Int.pow_zero]
 |succ k ih=>rw[Int.pow_succ,Int.pow_succ,Int.mul_emod,ih,Int.emod_emod,<-Int.mul_emod]
theorem nao(h:eg a):a^2305843009213688669%4611686018427377339=1:=by grind [ngj]
theorem LO(h:eg a)(k:Nat):a^k%4611686018427377339=a^(k%2305843009213688669)%4611686018427377339:=by
 have h1:∀q r:Nat,a^(2305843009213688669*q+r)%4611686018427377339=a^r%4611686018427377339:=by
  intro q r;have h0:=nao h
  revert h0
  generalize (2305843009213688669:Nat)=Q;intro h0;rw[Int.pow_add,Int.pow_mul,Int.mul_emod,<-nLf (a^Q) q,h0,Int.one_pow];simp
 all_goals grind [Nat.div_add_mod]
theorem LP(h:eg a)(k:Nat):eg (a^k%4611686018427377339):=by
 have hb:0<=a^k%4611686018427377339/\a^k%4611686018427377339<4611686018427377339:=⟨Int.emod_nonneg _ zA,Int.emod_lt_of_pos _ zA⟩;have h1:ug (a^k%4611686018427377339) 2305843009213688669 4611686018427377339=1:=by
  rw[ngj _ _ _ zA zA];show _^(2305843009213688669:Nat)%_=_;have h0:=nao h
  revert h0
  generalize (2305843009213688669:Nat)=Q;intro h0;rw[nLf,<-Int.pow_mul,H9,Int.pow_mul,<-nLf (a^Q),h0,Int.one_pow];rfl
 refine⟨?_,hb.2,h1⟩;rcases Int.lt_or_le 0 (a^k%4611686018427377339)with h2|h2
 ·omega
 have h3:a^k%4611686018427377339=0:=by omega
 rw[h3]at h1;exact absurd h1 (by decide +kernel)
theorem geP(hZ:FxOk Z)(h:eg a){k:Int}(hk:qv k):(Z.ge a k).1=a^k.toNat%4611686018427377339:=by
 rw[<-hZ.ge];unfold gExp;rw[if_pos h,if_pos hk];exact ngj a _ _ hk.1 zA
theorem Oz(hZ:FxOk Z)(h:eg a){k:Int}(hk:qv k):eg (Z.ge a k).1:=by rw[geP hZ h hk];exact LP h _
theorem VC(hZ:FxOk Z){k:Int}(hk:qv k):eg (Z.ge 4 k).1:=Oz hZ Bp hk
theorem LQ(hZ:FxOk Z){x:Int}(hx:Db x)(msg:List UInt8):oT Z (Z.ge 4 x).1 msg (qU Z x msg) (vR Z x msg)=true:=by
 have hn:=hZ.bd (⟨#[110,111,110,99,101]⟩:ByteArray) (As [x]++msg);have hc:∀r p,1<=Cv Z r p msg/\Cv Z r p msg<2305843009213688669:=λr p=>hZ.bd _ _;unfold vR qU;have hk:qv (Cu Z x msg):=⟨by have:=hn.1;unfold Cu;omega,hn.2⟩;have NO:qv x:=⟨by omega,hx.2⟩;generalize Cu Z x msg=k at hk;have Dt:=hc (Z.ge 4 k).1 (Z.ge 4 x).1;unfold oT;generalize Cv Z (Z.ge 4 k).1 (Z.ge 4 x).1 msg=e at Dt;have hes:qv e:=⟨by omega,Dt.2⟩;have hm:qv (e*x%2305843009213688669):=⟨Int.emod_nonneg _ zA,Int.emod_lt_of_pos _ zA⟩;have h1:(pW e x).1=e*x%2305843009213688669:=by unfold pW;rw[if_pos ⟨hes,NO⟩]
 have h2:(qR k (pW e x).1).1=(k+e*x%2305843009213688669)%2305843009213688669:=by unfold qR;rw[h1,if_pos ⟨hk,hm⟩]
 rw[h2];have hs:qv ((k+e*x%2305843009213688669)%2305843009213688669):=⟨Int.emod_nonneg _ zA,Int.emod_lt_of_pos _ zA⟩;have gr:=VC hZ hk;have gp:=VC hZ NO;refine decide_eq_true ⟨gp,gr,hs,?_⟩;have g2:=Oz hZ gp hes;have e1:(sD (Z.ge 4 k).1 (Z.ge (Z.ge 4 x).1 e).1).1=(Z.ge 4 k).1*(Z.ge (Z.ge 4 x).1 e).1%4611686018427377339:=by unfold sD;rw[if_pos ⟨gr,g2⟩]
 rw[e1,geP hZ gp hes,geP hZ Bp hk,geP hZ Bp NO,geP hZ Bp hs,nLf,<-Int.mul_emod,<-Int.pow_mul,<-Int.pow_add,LO Bp (k.toNat+x.toNat*e.toNat)];congr 2;have e2:((k+e*x%2305843009213688669)%2305843009213688669)=(k+e*x)%2305843009213688669:=by rw[Int.add_emod_emod]
 rw[e2];have e3:k+e*x=((k.toNat+x.toNat*e.toNat:Nat):Int):=by
  rw[Int.natCast_add,Int.natCast_mul,Int.toNat_of_nonneg hk.1,Int.toNat_of_nonneg NO.1,Int.toNat_of_nonneg hes.1,Int.mul_comm]
 rw[e3];omega

def aO (s:Value) (r:Int):Array Value:=#[s,ab 0,.int .i8 r]
def jc (n:Nat):List Value:=List.replicate n (Ck)
theorem LR(bI:Nat)(lr:Int)(t:Nat)(fr:Nat×Nat)(w:World)(hb0:w.heap[bI]? =some (.cells (aO (aj) lr) t fr)):Calls prog 309 #[ptr bI 0] w (aL w (ab 0)):=by
 have xg:¬Gh.no.X bI:=λh=>h;refine eN func309 ntmps309 ?_;refine B 6 ?_;refine eA 9 (k:=?_);refine B 5 ?_;refine aF results309 rfl A0 ?_;rfl
theorem nzh(bI:Nat)(lr:Int)(t:Nat)(fr:Nat×Nat)(n:Nat)(hn:0<n)(w:World)(hb0:w.heap[bI]? =some (.cells (aO (aj) lr) t fr)):Calls prog 269 #[ptr bI 0,ab (n:Int)] w (aL w (.tuple #[ab 0,bN])):=by
 exact z3g
theorem nMm(bI bR m c n:Nat)(lr:Int)(t:Nat)(hc:m+n<=c)(aN:c<=1000000)(w:World)(hb:w.heap[bI]? =some (oC (aO (bQ bR m c) lr) t)):Calls prog 269 #[ptr bI 0,ab (n:Int)] w (mj w [bI] (λ_:Unit=>.tuple #[ab (m:Int),cY]) (λ_=>[(bI,oC (aO (bQ bR (m+n) c) lr) t)]) (λ_=>True)):=by
 have jl:=(aT.1 hb).1;refine nB (vs:=[_,_]) (Gh.lent (λk=>k∈keys [(bI,oC (aO (bQ bR m c) lr) t)])) [(bI,oC (aO (bQ bR m c) lr) t)] func269 rfl ntmps269 rfl (GN (fq.mem ⟨hb,trivial⟩) (DV _)) ?_;refine B 27 ?_;refine XO ?_;refine ay (ab ((m+n:Nat):Int)) ?_;refine rv rfl rfl rfl (fE (h:=m+n) underlying106 sizeOf5 rfl ⟨_,_,rfl,rfl⟩ aa) ?_;refine B 2 ?_;refine kY (i:=0) rfl sizeOf106 rfl rfl rfl rfl (ea rfl) rfl ?_;refine B 11 ?_;exact sZ (Hz:=[(bI,oC (aO (bQ bR m c) lr) t)]) (H0:=[]) () (.inl rfl) results269 aX A0 IY rfl z5b
theorem mkz(c:Nat):cf c (λ_=>Ck)=(ub ([]:List UInt8)++jc c).toArray:=by
 apply Array.ext';simp[cf,ub,jc,List.map_const']
theorem nIf(c n:Nat):(jc c).drop n=jc (c-n):=by simp[jc,List.drop_replicate]
theorem OA(n:Nat):(jc n).length=n:=by simp[jc]
theorem nFf(xs zs:List UInt8)(sp:List Value)(h:zs.length<=sp.length):setCells (ub xs++sp).toArray xs.length (ub zs)=(ub (xs++zs)++sp.drop zs.length).toArray:=by
 apply Array.ext';rw[nU];show jx (ub xs++sp) xs.length (ub zs)=ub (xs++zs)++sp.drop zs.length;have hs:sp=sp.take zs.length++sp.drop zs.length:=(AB _ _).symm;all_goals grind [vQ,nud,GO]
theorem GP(bI n:Nat)(lr:Int)(t:Nat)(hn0:0<n)(hn:n<=64)(w:World)(hb:w.heap[bI]? =some (oC (aO (aj) lr) t)):Calls prog 270 #[ptr bI 0,ab (n:Int)] w (mj w [bI] (λ_:Nat=>ab 0) (λbR=>[(bI,oC (aO (bQ bR n 64) lr) t),(bR,oC (cf 64 (λ_=>Ck)) 5)]) (λ_=>True)):=by
 have jl:=(aT.1 hb).1;refine nB (vs:=[_,_]) (Gh.lent (λk=>k∈keys [(bI,oC (aO (aj) lr) t)])) [(bI,oC (aO (aj) lr) t)] func270 rfl ntmps270 rfl (GN (fq.mem ⟨hb,trivial⟩) (DV _)) ?_;refine B 8 ?_;refine call call309 rfl rfl rfl (λW hS=>LR bI lr _ _ W (hS.own _ A0)) ?_;refine B 7 ?_;refine UL ?_;refine ay bN ?_;refine B 11 ?_;refine call call269 rfl rfl rfl (λW hS=>nzh bI lr _ _ n hn0 W (hS.own _ A0)) ?_;refine B 22 ?_;refine rv rfl rfl rfl (SX underlying106 rfl rfl) ?_;refine B 2 ?_;refine ay cY ?_;refine B 8 ?_;refine Wu (ln:=n) (cp:=64) underlying106 Ul rfl rfl rfl rfl rfl rfl rfl aa zA aa ?_;intro b41 aal ajI;replace aal:=yb aal;try simp only[bA,ne_eq,and_true]at ajI
 refine B 2 ?_;refine zAe ?_;refine B 9 ?_;refine PJ.swp ?_;exact sZ (Hz:=[(bI,oC (aO (aj) lr) t)]) (H0:=[]) b41 (.inl rfl) results270 aX A0 IY rfl z5b
theorem Rd.seg{C:Cx}{b off c:Nat}{zs:List UInt8}{w1:World}(hm:w1∈L)(h:bZ w1 b off zs)(hG:¬G.X b)(hO:bA H b):Rd C G L H 1 zs.length (.slice (some ⟨b,off,none⟩) zs.length c) (ub zs):=by
 obtain⟨cs,t,fr,h1,h2,h3⟩:=h;all_goals grind [Rd.old,n2j,nLn]
theorem LS(zs:List UInt8):aZ (ub zs)=true:=by induction zs<;>grind [ub,aZ,yn]
theorem n0k(bI:Nat)(lr:Int)(t:Nat)(zs:List UInt8)(bz oz cz:Nat)(hz0:0<zs.length)(gK:zs.length<=64)(w:World)(hb:w.heap[bI]? =some (oC (aO (aj) lr) t))(rO:bZ w bz oz zs)(hne:bz≠bI):Calls prog 208 #[ptr bI 0,.slice (some ⟨bz,oz,none⟩) zs.length cz] w (mj w [bI] (λ_:Nat=>.tuple #[ab (zs.length:Int),.nilIface]) (λbR=>[(bI,oC (aO (bQ bR zs.length 64) 0) t),(bR,aM 5 zs (jc (64-zs.length)))]) (λ_=>True)):=by
 have jl:=(aT.1 hb).1;have aJ:=rO.lt;refine nB (vs:=[_,_]) (Gh.lent (λk=>k∈keys [(bI,oC (aO (aj) lr) t)])) [(bI,oC (aO (aj) lr) t)] func208 rfl ntmps208 rfl (GN (fq.mem ⟨hb,trivial⟩) (DV _)) ?_;refine B 11 ?_;refine zBe ?_;refine B 7 ?_;refine call call269 rfl rfl rfl (λW hS=>nzh bI 0 _ _ zs.length hz0 W (hS.own _ A0)) ?_;refine B 19 ?_;refine B5 (Hz:=[(bI,oC (aO (aj) 0) t)]) (H0:=[]) (first:=[]) (cap:=[]) (v:=λ_:Nat=>ab 0) (Hn:=λbR=>[(bI,oC (aO (bQ bR zs.length 64) 0) t),(bR,oC (cf 64 (λ_=>Ck)) 5)]) (Φ:=λ_=>True) rfl rfl call270 rfl rfl rfl ⟨.inl SY,trivial⟩ (λW hS=>GP bI zs.length 0 t hz0 gK W (hS.own _ A0)) ?_;rintro bR-jA;have wP:bR=bI\/w.heap.size<=bR:=by
  rcases jA (bR,_) A1 with h|h
  ·left;simpa[keys]using h
  right;exact h.1.1
 refine OJ.reH (H':=[(bI,oC (aO (bQ bR zs.length 64) 0) t),(bR,aM 5 [] (jc 64))]) (by rw[mkz];rfl) ?_;refine B 10 ?_;refine rv rfl rfl rfl (fZ (l:=0) (h:=zs.length) (off':=0) underlying106 sizeOf5 rfl ⟨_,_,rfl,rfl⟩ rfl aa aa Wj) ?_;refine B 1 ?_;refine Uk (i:=1) (m:=1) (n:=zs.length) (k:=zs.length) (news:=ub zs) rfl underlying106 sizeOf5 rfl rfl rfl rfl (λ_=>rfl) aa (Rd.seg A0 rO xM zz) (by simp only[qx,cy,vQ,OA];omega) (LS _) ?_;refine B 5 ?_;refine PJ.reH (H':=[(bI,oC (aO (bQ bR zs.length 64) 0) t),(bR,aM 5 zs (jc (64-zs.length)))]) (by have:=nFf [] zs (jc 64) (by rw[OA];omega);simp only[fh,eL]at this;simp only[dX,dm,aM];rw[this,nIf]) ?_;exact sZ (Hz:=[(bI,oC (aO (aj) lr) t)]) (H0:=[]) bR (.inl rfl) results208 aX A0 IY rfl z5b
theorem nog(bI bR t:Nat)(xs:List UInt8)(sp:List Value)(zs:List UInt8)(bz oz cz:Nat)(gK:xs.length+zs.length<=64)(vC:sp.length=64-xs.length)(hx:xs.length<64)(w:World)(hb:w.heap[bI]? =some (oC (aO (bQ bR xs.length 64) 0) t))(wP:w.heap[bR]? =some (aM 5 xs sp))(vD:bI≠bR)(rO:bZ w bz oz zs)(hne:bz≠bI)(sO:bz≠bR):Calls prog 208 #[ptr bI 0,.slice (some ⟨bz,oz,none⟩) zs.length cz] w (mj w [bI,bR] (λ_:Unit=>.tuple #[ab (zs.length:Int),.nilIface]) (λ_=>[(bI,oC (aO (bQ bR (xs++zs).length 64) 0) t),(bR,aM 5 (xs++zs) (sp.drop zs.length))]) (λ_=>True)):=by
 have jl:=(aT.1 hb).1;have DA:=(aT.1 wP).1;have aJ:=rO.lt;refine nB (vs:=[_,_]) (Gh.lent (λk=>k∈keys [(bI,oC (aO (bQ bR xs.length 64) 0) t),(bR,aM 5 xs sp)])) [(bI,oC (aO (bQ bR xs.length 64) 0) t),(bR,aM 5 xs sp)] func208 rfl ntmps208 rfl (GN (fq.mem ⟨hb,wP,trivial⟩) (VA vD)) ?_;refine B 11 ?_;refine zBe ?_;refine B 7 ?_;refine B5 (Hz:=[(bI,oC (aO (bQ bR xs.length 64) 0) t)]) (H0:=[(bR,aM 5 xs sp)]) (first:=[]) (cap:=[]) (v:=λ_:Unit=>.tuple #[ab (xs.length:Int),cY]) (Hn:=λ_=>[(bI,oC (aO (bQ bR (xs.length+zs.length) 64) 0) t)]) (Φ:=λ_=>True) rfl rfl call269 rfl rfl rfl ⟨.inl SY,trivial⟩ (λW hS=>nMm bI bR xs.length 64 zs.length 0 t aa zA W (hS.own _ A0)) ?_;rintro _-jA;refine OJ.reH (H':=[(bI,oC (aO (bQ bR (xs.length+zs.length) 64) 0) t),(bR,aM 5 xs sp)]) rfl ?_;refine B 24 ?_;refine rv rfl rfl rfl (fZ (l:=xs.length) (h:=xs.length+zs.length) (off':=xs.length) underlying106 sizeOf5 rfl ⟨_,_,rfl,rfl⟩ rfl aa aa zwc) ?_;refine B 1 ?_;refine Uk (i:=1) (m:=1) (n:=zs.length) (k:=zs.length) (news:=ub zs) rfl underlying106 sizeOf5 rfl rfl rfl rfl (λ_=>rfl) aa (Rd.seg A0 rO xM zz) (by simp only[qx,cy,vQ];omega) (LS _) ?_;refine B 5 ?_;refine PJ.reH (H':=[(bI,oC (aO (bQ bR (xs++zs).length 64) 0) t),(bR,aM 5 (xs++zs) (sp.drop zs.length))]) (by have:=nFf xs zs sp aa;show[(bI,_),(bR,Obj.cells (setCells (ub xs++sp).toArray xs.length (ub zs)) _ _)]=_;rw[this,cy];first|done|rfl) ?_
 exact sZ (Hz:=[(bI,oC (aO (bQ bR xs.length 64) 0) t),(bR,aM 5 xs sp)]) (H0:=[]) () (.inl rfl) results208 aX A0 IY rfl z5b
theorem nZo(bI bR n:Nat)(lr:Int)(t:Nat)(fr:Nat×Nat)(hn:n<=64)(w:World)(hb0:w.heap[bI]? =some (.cells (aO (bQ bR n 64) lr) t fr)):Calls prog 271 #[ptr bI 0] w (aL w (bQ bR n 64)):=by
 have xg:¬Gh.no.X bI:=λh=>h;refine eN func271 ntmps271 ?_;refine B 6 ?_;refine eA 8 (k:=?_);refine rv rfl rfl rfl (fZ (l:=0) (h:=n) (off':=0) underlying106 sizeOf5 rfl ⟨_,_,rfl,rfl⟩ rfl aa aa Wj) ?_;refine B 4 ?_;refine aF results271 rfl A0 ?_;rfl
theorem nRk(bI t:Nat)(f:Nat->Int)(b3 t3:Nat)(qw:Nat×Nat)(hf:er f)(w:World)(hb:w.heap[bI]? =some (oC (aO (aj) 0) t))(cZ:w.heap[b3]? =some (.cells (dg f) t3 qw))(hne:b3≠bI):Calls prog 208 #[ptr bI 0,.slice (ao b3) 32 32] w (mj w [bI] (λ_:Nat=>.tuple #[ab 32,.nilIface]) (λbR=>[(bI,oC (aO (bQ bR 32 64) 0) t),(bR,aM 5 (cx f) (jc 32))]) (λ_=>True)):=by
 have h:=n0k bI 0 t (cx f) b3 0 32 (by rw[nH];decide) (by rw[nH];decide) w hb (bZ.dg cZ hf) hne;simp only[nH]at h;exact h
theorem nRi(bI t:Nat)(f:Nat->Int)(hf:er f)(w:World)(hb:w.heap[bI]? =some (oC (aO (aj) 0) t)):Calls prog 207 #[ptr bI 0,.agg (dg f)] w (mj w [bI] (λ_:Nat=>ptr bI 0) (λbR=>[(bI,oC (aO (bQ bR 32 64) 0) t),(bR,aM 5 (cx f) (jc 32))]) (λ_=>True)):=by
 have jl:=(aT.1 hb).1;refine nB (vs:=[_,_]) (Gh.lent (λk=>k∈keys [(bI,oC (aO (aj) 0) t)])) [(bI,oC (aO (aj) 0) t)] func207 rfl ntmps207 rfl (GN (fq.mem ⟨hb,trivial⟩) (DV _)) ?_;refine B 2 ?_;refine yX ?_;intro b3 w3 cZ cu fC ez eP;refine B 4 ?_;refine eA 4 (pb:=by exact zU 3 (k:=by exact aU (X.v (fF (h:=32) underlying127 sizeOf5 rfl rfl aa)) (vK rfl))) (k:=?_);refine B5 (Hz:=[(bI,oC (aO (aj) 0) t)]) (H0:=[]) (first:=[]) (cap:=[]) (v:=λ_:Nat=>.tuple #[ab 32,.nilIface]) (Hn:=λbR=>[(bI,oC (aO (bQ bR 32 64) 0) t),(bR,aM 5 (cx f) (jc 32))]) (Φ:=λ_=>True) rfl rfl call208 rfl rfl rfl ⟨.inl SY,trivial⟩ (λW hS=>nRk bI t f b3 _ _ hf W (hS.own _ A0) (hS.old A0 cZ cu zz) aa) ?_;rintro bR-jA;have wP:bR=bI\/w.heap.size<=bR:=by
  rcases jA (bR,_) A1 with h|h
  ·left;simpa[keys]using h
  right;exact h.1.2.1
 refine B 9 ?_;exact sZ (Hz:=[(bI,oC (aO (aj) 0) t)]) (H0:=[]) bR (.inl rfl) results207 aX A1 IY rfl z5b
theorem ntm(hZ:FxOk Z)(bI bR t:Nat)(s:ByteArray)(hs0:s.size<1000)(xs:List UInt8)(hxl:xs.length<=64)(w:World)(hb:w.heap[bI]? =some (oC (aO (bQ bR xs.length 64) 0) t))(hR:bZ w bR 0 xs)(hg:Glb w):Calls prog 209 #[ptr bI 0,.string s] w (aL w (.agg (dg (Z.tg s xs)))):=by
 have jl:=(aT.1 hb).1;have hRl:=hR.lt;have hg4:=hg.lt;obtain⟨df,kO⟩:∃df,Z.tg s xs=df:=⟨_,rfl⟩;refine eN func209 ntmps209 ?_;refine B 3 ?_;refine yW ?_;intro b4 ji jj;refine B 8 ?_;refine call call271 rfl rfl rfl (λW hS=>nZo bI bR xs.length 0 t _ hxl W (hS.old A0 hb zJ zz)) ?_;refine call call87 rfl rfl rfl (λW hS=>by rw[<-kO];exact nth hZ s hs0 xs aa bR 0 64 hxl W (hR.old hS A0 zJ zz) (hg.old hS A0 zH zD)) (v:=.agg (dg df)) ?_;refine B 4 ?_;refine cC (.inl rfl) results209 aX A0 zB ?_;rw[kO];rfl
def nt (s:ByteArray):List UInt8:=(V.list [.text s]).enc
theorem n9h(s:ByteArray)(h:s.size<128):(nt s).length=4+s.size:=by
 have h1:num 1=[UInt8.ofNat 1]:=WQ zA;have h2:=WQ h;have h3:s.data.toList.length=s.size:=Nl;simp[nt,V.enc,V.encL,h1,h2,h3];omega
theorem GQ(s:ByteArray)(h:s.size<128):(V.list [.text s]).fine:=by
 simp[V.fine,V.fineL,V.depthL,V.depth];omega
theorem n5o(s:ByteArray):(V.list [.text s]).depth<=16:=by simp[V.depth,V.depthL]
theorem SZ(s:ByteArray)(N b t:Nat)(fr:Nat×Nat)(w:World)(hb:b<N)(h:w.heap[b]? =some (.cells #[ab 2,ab 0,.string s,aj] t fr)):eX N w (.list [.text s]) (vL (ao b) 1 1):=by
 simp only[eX,gL];exact⟨_,_,rfl,ak _,.inr ⟨b,_,t,fr,rfl,hb,h,ak 4,rfl,trivial⟩⟩
def zK:Array Value:=cf 32 (λ_=>Ck)
def rP (Z:Fx) (f:Nat->Int) (s:ByteArray):Nat->Int:=Z.tg (⟨#[100,101,114,105,118,101]⟩:ByteArray) (cx f++nt s)
def VD (Z:Fx) (f:Nat->Int) (s:ByteArray):Int:=Z.sc (⟨#[115,99,97,108,97,114]⟩:ByteArray) (cx (rP Z f s))
theorem n8d(hZ:FxOk Z)(f:Nat->Int)(hf:er f)(s:ByteArray)(aam:s.size<=28)(w:World)(hg:Glb w):Calls prog 142 #[.agg (dg f),.string s,aj] w (aL w (.agg (dg (rP Z f s)))):=by
 have kZ:s.size<128:=by omega
 have iH:=n9h s kZ;have hg4:=hg.lt;obtain⟨df,kO⟩:∃df,Z.tg (⟨#[100,101,114,105,118,101]⟩:ByteArray) (cx f++nt s)=df:=⟨_,rfl⟩;refine eN func142 ntmps142 ?_;refine B 2 ?_;refine yX ?_;intro b3 w3 cZ cu fC ez eP;refine B 1 ?_;refine yW ?_;intro b6 jO qy;refine B 6 ?_;refine zhe ?_;refine yV ?_;intro dJ w15 Sg Sh aiS EF KD;refine B 12 ?_;refine CJ.lp (α:=Unit) [3,6,7,17,18] (λp=>[]) (λp=>[(b6,oC (zK) 127)]) (λp=>True) (λp=>0) () trivial ?_;rintro⟨⟩ -;refine xp ?_;refine B 13 ?_;refine n3j (ys:=nt s) call85 rfl rfl rfl (λW hS=>nue [.text s] (GQ s kZ) (n5o s) (by have:=n9h s kZ;unfold nt at this;omega) w15.heap.size (ao dJ) 1 W (hS.links _ A0).size (SZ s _ dJ _ _ W aa (hS.old A0 Sg Sh zz))) ?_;intro iM c31 s31 l9 S0 anR anS;replace l9:=yb l9;replace S0:=yd S0;refine B 10 ?_;refine yW ?_;intro iD Kb Kc;refine B 5 ?_;refine B5 (Hz:=[(iD,oC (aO (aj) 0) 352)]) (H0:=[(iM,aM 5 (nt s) s31),(b6,oC (zK) 127)]) (first:=[]) (cap:=[]) (v:=λ_:Nat=>ptr iD 0) (Hn:=λbR=>[(iD,oC (aO (bQ bR 32 64) 0) 352),(bR,aM 5 (cx f) (jc 32))]) (Φ:=λ_=>True) rfl rfl call207 rfl rfl rfl ⟨.inr ⟨by omega,by omega,by omega,trivial⟩,trivial⟩ (λW hS=>nRi iD 352 f hf W (hS.own _ A0)) ?_;rintro bR-jA;have wP:bR=iD\/(w15.heap.size<=bR/\w3.heap.size<=bR/\w.heap.size<=bR/\iM≠bR/\b6≠bR):=by
  rcases jA (bR,_) A1 with h|h
  ·left;simpa[keys]using h
  right;obtain⟨⟨h1,h2,h3,_⟩,h4⟩:=h;simp only[bA]at h4;exact⟨h1,h2,h3,h4.2.1,h4.2.2.1⟩
 refine B 3 ?_;refine nmd (i:=0) (j:=1) rfl rfl zA λvD=>?_;refine nmd (i:=1) (j:=2) rfl rfl zA λanT=>?_;refine B5 (Hz:=[(iD,oC (aO (bQ bR (cx f).length 64) 0) 352),(bR,aM 5 (cx f) (jc 32))]) (H0:=[(iM,aM 5 (nt s) s31),(b6,oC (zK) 127)]) (first:=[]) (cap:=[]) (v:=λ_:Unit=>.tuple #[ab ((nt s).length:Int),.nilIface]) (Hn:=λ_=>[(iD,oC (aO (bQ bR (cx f++nt s).length 64) 0) 352),(bR,aM 5 (cx f++nt s) ((jc 32).drop (nt s).length))]) (Φ:=λ_=>True) (by rw[nH]) rfl call208 rfl rfl rfl ⟨.inr ⟨by omega,by omega,by omega,trivial⟩,.inr ⟨by omega,by omega,by omega,trivial⟩,trivial⟩ (λW hS=>nog iD bR 352 (cx f) (jc 32) (nt s) iM 0 c31 (by rw[nH,n9h s kZ];omega) (by rw[OA,nH]) (by rw[nH];decide) W (hS.own _ A0) (hS.own _ A1) vD (bZ.row (hS.own _ A2)) aa aa) ?_;rintro _-ly;refine B 4 ?_;refine call call209 rfl rfl rfl (λW hS=>by rw[<-kO];exact ntm hZ iD bR 352 (⟨#[100,101,114,105,118,101]⟩:ByteArray) zA (cx f++nt s) (by rw[cy,nH];omega) W (hS.own _ A0) (bZ.row (hS.own _ A1)) (hg.old hS A2 zH (by simp[Over]<;>omega))) (v:=.agg (dg df)) ?_;refine B 4 ?_;refine cC (.inl rfl) results142 aX A2 zB ?_;rw[show rP Z f s=df from kO];rfl
theorem GR(hZ:FxOk Z)(s:ByteArray)(hs0:s.size<1000)(f:Nat->Int)(hf:er f)(b t:Nat)(fr:Nat×Nat)(w:World)(h:w.heap[b]? =some (.cells (dg f) t fr))(hg:Glb w):Calls prog 195 #[.string s,.slice (ao b) 32 32] w (aL w (ab (Z.sc s (cx f)))):=by
 have:=Np hZ s hs0 (cx f) (by rw[nH];decide) b 0 32 (by rw[nH];decide) w (bZ.dg h hf) hg;rwa[nH]at this
theorem ib.dg{C:Cx}{tx e' b c t:Nat}{fr:Nat×Nat}{f:Nat->Int}{w1:World}(hU:C.P.underlying tx=some (.slice e'))(hf:er f)(hm:w1∈L)(h:w1.heap[b]? =some (.cells (Px.dg f) t fr))(hG:¬G.X b)(hO:bA H b):ib C G L H tx (.slice (ao b) 32 c) (cx f):=by
 have:=ib.seg (c:=c) hU hm (bZ.dg h hf) hG hO;rwa[nH]at this
theorem n3g(hZ:FxOk Z)(f:Nat->Int)(s:ByteArray):er (rP Z f s):=hZ.byt _ _
theorem n3k(hZ:FxOk Z)(f:Nat->Int)(hf:er f)(s:ByteArray)(aam:s.size<=28)(w:World)(hg:Glb w):Calls prog 203 #[.agg (dg f),.string s] w (aL w (ab (VD Z f s))):=by
 have hg4:=hg.lt;have hB:=n3g hZ f s;obtain⟨df,kO⟩:∃df,rP Z f s=df:=⟨_,rfl⟩;rw[kO]at hB;refine eN func203 ntmps203 ?_;refine B 2 ?_;refine yX ?_;intro b2 w2 di bV ff dB dx;refine B 7 ?_;refine call call142 rfl rfl rfl (λW hS=>by rw[<-kO];exact n8d hZ f hf s aam W (hg.old hS A1 zH zD)) (v:=.agg (dg df)) ?_;refine B 1 ?_;refine yW ?_;intro b5 sq su;refine B 5 ?_;refine rv rfl rfl rfl (fF (h:=32) underlying127 sizeOf5 rfl rfl aa) ?_;refine call call195 rfl rfl rfl (λW hS=>GR hZ (⟨#[115,99,97,108,97,114]⟩:ByteArray) zA df hB b5 _ _ W (hS.own _ A0) (hg.old hS A1 zH zD)) ?_;refine B 4 ?_;refine cC (.inl rfl) results203 aX A1 zB ?_;unfold VD;rw[kO];rfl
theorem GS{f N:Nat}{fn:Func}{l:List Oper}{id d t ty:Nat}{pos:String}{aC:Array Edge}{eC:Array Nat}{x:Code}(u u':FrameMode)(rv:Value)(hu:∀(c₀:Frame) (cs:List Frame),c₀.mode=u->GU (c₀::cs)=(rv,{c₀ with mode:=u'}::cs))(hf:P.funcs[f]? =some fn)(hb:fn.body=some (.seq (.region id ((⟨some d,.call ⟨.builtin .recover,#[],eC⟩,ty,pos,aC,none⟩:Oper)::l).toArray false) (.cond (.tmp t) x .skip)))(hr0:fn.results=#[])(hN:fn.ntmps=N)(hl:Nat.ble vs.length N=true)(hd:Nat.blt d N=true)(hS:St G [w] H w)(h:OJ ⟨P,none,N⟩ ((⟨some d,.call ⟨.builtin .recover,#[],eC⟩,ty,pos,aC,none⟩:Oper)::l).toArray (λe a W=>e= .normal/\a.defers=[]/\a.eval (.tmp t)=bN/\Below w.heap.size w W) l ((d,rv)::zt 0 vs) [] G [w] H):CallsDIn (FW none) 0 P f vs.toArray u w (λe u'' w'=>u''=u'/\(∃v,e= .returned v)/\Below w.heap.size w w'):=by
 refine callsDIn_of_wpSIn hf hb trivial λc₀ cs hc=>?_;have jb:(vs.toArray++Array.replicate (fn.ntmps-vs.toArray.size) undef).size=N:=by
  have:=ea hl;simp[hN];omega
 have hF:Fits (zt 0 vs) ⟨vs.toArray++Array.replicate (fn.ntmps-vs.toArray.size) undef,[]⟩:=nlc vs _;have ow:=hu c₀ cs hc;refine wpSIn_seq (nrp (w':=w) (rest:=List.range' 1 l.length) rfl ?_ rfl ?_ (λ_ _=>trivial) ?_ ?_)
 ·simp[List.range_eq_range',List.range'_succ]
 ·simp[Region.wanted]
 ·simp[execOp,resolve,invoke,builtin,Deferred.ofValue]
 rw[ow,wpOpsIn_eq_wpListIn l 1 (λj=>by simp[Nat.add_comm])];have hwp:=h ((⟨vs.toArray++Array.replicate (fn.ntmps-vs.toArray.size) undef,[]⟩:Act).put (some d) rv) w (by simp only[Act.put];simpa using jb) rfl (hF.put rv (by rw[jb];exact nT hd)) hS;have mono:∀(l':List Oper) (a:Act) (W:World),wpListIn (FW none) 0 P ((⟨some d,.call ⟨.builtin .recover,#[],eC⟩,ty,pos,aC,none⟩:Oper)::l).toArray (λe a W=>e= .normal/\a.defers=[]/\a.eval (.tmp t)=bN/\Below w.heap.size w W) l' a W->
  wpListIn (FW none) 0 P ((⟨some d,.call ⟨.builtin .recover,#[],eC⟩,ty,pos,aC,none⟩:Oper)::l).toArray (λe a' w'=>Exit.thenS ((Code.cond (.tmp t) x .skip).wpSIn (FW none) 0 P (bodyPostS P fn c₀ cs (λe u'' w'=>u''=u'/\(∃v,e= .returned v)/\Below w.heap.size w w'))) (bodyPostS P fn c₀ cs (λe u'' w'=>u''=u'/\(∃v,e= .returned v)/\Below w.heap.size w w')) e a' ({c₀ with mode:=u'}::cs) w') l' a W:=by
  intro l';induction l' with
  |nil=>
   intro a W hq;obtain⟨_,h1,h2,h3⟩:=hq;exact wpSIn_cond (t:=false) h2 (wpSIn_of_wpIn rfl (wpIn_skip ⟨h1,u',rfl,.tuple #[],results_none hr0 _ _ _,rfl,⟨_,rfl⟩,h3⟩))
  |cons o l' ih=>
   intro a W hq;unfold wpListIn at hq ⊢;split
   ·rename_i hwt;rw[if_pos hwt]at hq;refine n2i (λa' W' hk=>ih a' W' hk) (λc a' W' hk=>?_) (λhk=>?_) hq
    ·exact absurd hk.1 zI
    obtain⟨a0,w0,hk⟩:=hk;exact absurd hk.1 zI
   rename_i hwt;rw[if_neg hwt]at hq;exact⟨hq.1,ih _ _ hq.2⟩
 exact mono l _ _ hwp
theorem Rd.segN{C:Cx}{b off c n:Nat}{zs:List UInt8}{w1:World}(hn:zs.length=n)(hm:w1∈L)(h:bZ w1 b off zs)(hG:¬G.X b)(hO:bA H b):Rd C G L H 1 n (.slice (some ⟨b,off,none⟩) n c) (ub zs):=by subst hn;exact Rd.seg hm h hG hO
theorem LU(w:World):CallsDIn (FW none) 0 prog 331 #[] .returning w (λe u' w'=>u'= .returning/\(∃v,e= .returned v)/\Below w.heap.size w w'):=by
 refine GS (vs:=[]) .returning .returning .nilIface nPk func331 rfl results331 ntmps331 rfl rfl (Je w) ?_;refine B 1 ?_;exact OJ.done λa W hN hD hF hS=>⟨rfl,hD,hF.ev rfl,hS.base A0 trivial⟩
theorem n6k(bR:Nat)(xs:List UInt8)(hx:xs.length=64)(w:World)(rO:bZ w bR 0 xs):Calls prog 311 #[.slice (ao bR) 64 64,ab 32] w (cK w (λq:Nat×Nat=>.slice (ao q.1) 64 q.2) (λq w1=>w.heap.size<=q.1/\96<=q.2/\w1.heap[q.1]? =some (aM 5 xs (jc (q.2-64))))):=by
 have aJ:=rO.lt;refine S1 (vs:=[_,_]) Gh.no [] func311 rfl ntmps311 rfl (Je w) ?_;refine B 7 ?_;refine OJ.defer (cap:=[]) rfl rfl ?_;refine B 5 ?_;refine ay (ab 64) ?_;refine B 1 ?_;refine rr (ab 96) (iw rfl rfl zA zA) ?_;refine B 8 ?_;refine ay (ab 64) ?_;refine rr (ab 128) (vc rfl rfl zA zA) ?_;refine UL ?_;refine ay (ab 64) ?_;refine rr (ab 128) (vc rfl rfl zA zA) ?_;refine B 6 ?_;refine WA (n:=128) underlying106 underlying3 Ul rfl rfl rfl rfl rfl rfl rfl rfl zA zA ?_;intro rZ c21 Ju Wv anU;replace Ju:=yb Ju;refine B 7 ?_;refine OJ.reH (H':=[(rZ,oC (ub ([]:List UInt8)++jc c21).toArray 5)]) (by rw[<-mkz]) ?_;refine Uk (i:=0) (m:=1) (n:=64) (k:=64) (news:=ub xs) rfl underlying106 sizeOf5 rfl rfl rfl rfl (λ_=>rfl) zA (Rd.segN hx A0 rO zJ zz) (by simp only[qx,cy,vQ,OA,fh];omega) (LS _) ?_;refine zmf ?_;refine B 4 ?_;refine PJ.reH (H':=[(rZ,aM 5 xs (jc (c21-64)))]) (by have:=nFf [] xs (jc c21) (by rw[OA];omega);simp only[fh,eL]at this;simp only[dm,aM];rw[this,nIf,hx]) ?_;exact ajP (.inl rfl) call331 (λW hS=>LU W) results311 aX λW hS=>⟨(rZ,c21),rfl,hS.base A0 Cl,by dsimp only;omega,by dsimp only;omega,hS.own _ A0⟩
theorem nNm(bI bR n c:Nat)(lr:Int)(t:Nat)(fr:Nat×Nat)(hn:n<=1000000)(w:World)(hb0:w.heap[bI]? =some (.cells (aO (.slice (ao bR) n c) lr) t fr)):Calls prog 309 #[ptr bI 0] w (aL w (ab (n:Int))):=by
 have xg:¬Gh.no.X bI:=λh=>h;refine eN func309 ntmps309 ?_;refine B 6 ?_;refine eA 9 (k:=?_);refine B 5 ?_;refine aF results309 rfl A0 ?_;exact congrArg ab aa
theorem nPg(bI bR n c:Nat)(lr:Int)(t:Nat)(fr:Nat×Nat)(m:Nat)(hn:n<=c)(hc:c<=1000000)(hm:c<n+m)(w:World)(hb0:w.heap[bI]? =some (.cells (aO (.slice (ao bR) n c) lr) t fr)):Calls prog 269 #[ptr bI 0,ab (m:Int)] w (aL w (.tuple #[ab 0,bN])):=by
 exact z3g
theorem nKk(bI bR:Nat)(xs:List UInt8)(hx:xs.length=64)(t:Nat)(w:World)(hb:w.heap[bI]? =some (oC (aO (.slice (ao bR) 64 64) 0) t))(rO:bZ w bR 0 xs)(hne:bR≠bI):Calls prog 270 #[ptr bI 0,ab 32] w (mj w [bI] (λ_:Nat×Nat=>ab 64) (λq=>[(bI,oC (aO (.slice (ao q.1) 96 q.2) 0) t),(q.1,aM 5 xs (jc (q.2-64)))]) (λq=>96<=q.2)):=by
 have jl:=(aT.1 hb).1;have hRl:=rO.lt;refine nB (vs:=[_,_]) (Gh.lent (λk=>k∈keys [(bI,oC (aO (.slice (ao bR) 64 64) 0) t)])) [(bI,oC (aO (.slice (ao bR) 64 64) 0) t)] func270 rfl ntmps270 rfl (GN (fq.mem ⟨hb,trivial⟩) (DV _)) ?_;refine B 8 ?_;refine call call309 rfl rfl rfl (λW hS=>nNm bI bR 64 64 0 _ _ zA W (hS.own _ A0)) ?_;refine B 7 ?_;refine ay bN ?_;refine B 17 ?_;refine call call269 rfl rfl rfl (λW hS=>nPg bI bR 64 64 0 _ _ 32 zA zA zA W (hS.own _ A0)) ?_;refine B 22 ?_;refine rv rfl rfl rfl (uN underlying106 rfl rfl) ?_;refine B 15 ?_;refine ay (ab 64) ?_;refine B 8 ?_;refine rr (ab 32) (DT rfl rfl zA zA zA) ?_;refine B 1 ?_;refine rr (ab (-32)) (qO rfl rfl zA zA) ?_;refine Eh ?_;refine rr (ab 9223372036854775743) (qO rfl rfl zA zA) ?_;refine B 1 ?_;refine rr (ab 9223372036854775711) (qO rfl rfl zA zA) ?_;refine ay bN ?_;refine B 3 ?_;refine eS 17 16 [] (pb:=by exact zU 9 (k:=by exact aU (X.v (RV.re (v':=.slice (ao bR) 64 64) (fZ (l:=0) (h:=64) (off':=0) underlying106 sizeOf5 rfl ⟨_,_,rfl,rfl⟩ rfl zA zA zA) rfl)) zT)) (sp:=[_,_,_,_,_,_,_,_,_,_,_,_,_,_,_,some (ab 32),_]) (h:=?_);intro _ _ hk;refine Pr (α:=Nat×Nat) (v:=λq=>.slice (ao q.1) 64 q.2) (bo:=λq=>(q.1,aM 5 xs (jc (q.2-64)))) (Φ:=λq=>96<=q.2) call311 rfl rfl rfl (λW hS=>n6k bR xs hx W (rO.old hS A0 xM zz)) ?_
 rintro⟨bn,cn⟩ mC hJ tJ;dsimp only at mC hJ tJ;simp only[ae,and_true]at mC;simp only[bA,ne_eq,and_true]at hJ;have hnI:bn≠bI:=λe=>hJ e.symm;refine zE ?_;refine B 2 ?_;refine zAe ?_;refine B 7 ?_;refine kY (i:=1) rfl sizeOf3 rfl rfl rfl rfl (ea rfl) rfl ?_;refine B 11 ?_;refine rr (ab 96) (iw rfl rfl zA zA) ?_;refine rv rfl rfl rfl (fE (h:=96) underlying106 sizeOf5 rfl ⟨_,_,rfl,rfl⟩ aa) ?_;refine B 2 ?_;refine zAe ?_;refine B 9 ?_;refine PJ.swp ?_;exact sZ (Hz:=[(bI,oC (aO (.slice (ao bR) 64 64) 0) t)]) (H0:=[]) (bn,cn) (.inl rfl) results270 aX A0 IY rfl tJ
theorem nyj(bI bR:Nat)(xs:List UInt8)(hx:xs.length=64)(zs:List UInt8)(hz:zs.length=32)(bz oz cz t:Nat)(w:World)(hb:w.heap[bI]? =some (oC (aO (.slice (ao bR) 64 64) 0) t))(J6:bZ w bR 0 xs)(hne:bR≠bI)(kZ:bZ w bz oz zs)(sO:bz≠bI):Calls prog 208 #[ptr bI 0,.slice (some ⟨bz,oz,none⟩) 32 cz] w (mj w [bI] (λ_:Nat×Nat=>.tuple #[ab 32,.nilIface]) (λq=>[(bI,oC (aO (.slice (ao q.1) 96 q.2) 0) t),(q.1,aM 5 (xs++zs) (jc (q.2-96)))]) (λq=>96<=q.2)):=by
 have jl:=(aT.1 hb).1;have hRl:=J6.lt;have BD:=kZ.lt;refine nB (vs:=[_,_]) (Gh.lent (λk=>k∈keys [(bI,oC (aO (.slice (ao bR) 64 64) 0) t)])) [(bI,oC (aO (.slice (ao bR) 64 64) 0) t)] func208 rfl ntmps208 rfl (GN (fq.mem ⟨hb,trivial⟩) (DV _)) ?_;refine B 11 ?_;refine zBe ?_;refine B 6 ?_;refine ay (ab 32) ?_;refine call call269 rfl rfl rfl (λW hS=>nPg bI bR 64 64 0 _ _ 32 zA zA zA W (hS.own _ A0)) ?_;refine B 18 ?_;refine ay (ab 32) ?_;refine B5 (Hz:=[(bI,oC (aO (.slice (ao bR) 64 64) 0) t)]) (H0:=[]) (first:=[]) (cap:=[]) (v:=λ_:Nat×Nat=>ab 64) (Hn:=λq=>[(bI,oC (aO (.slice (ao q.1) 96 q.2) 0) t),(q.1,aM 5 xs (jc (q.2-64)))]) (Φ:=λq=>96<=q.2) rfl rfl call270 rfl rfl rfl ⟨.inl SY,trivial⟩ (λW hS=>nKk bI bR xs hx t W (hS.own _ A0) (J6.old hS A0 xM zz) hne) ?_;rintro⟨bn,cn⟩ tJ jA;dsimp only at tJ jA ⊢;have mC:bn=bI\/w.heap.size<=bn:=by
  rcases jA (bn,_) A1 with h|h
  ·left;simpa[keys]using h
  right;exact h.1.1
 refine B 10 ?_;refine rv rfl rfl rfl (fZ (l:=64) (h:=96) (off':=64) underlying106 sizeOf5 rfl ⟨_,_,rfl,rfl⟩ rfl aa aa Wj) ?_;refine B 1 ?_;refine Uk (i:=1) (m:=1) (n:=32) (k:=32) (news:=ub zs) rfl underlying106 sizeOf5 rfl rfl rfl rfl (λ_=>rfl) zA (Rd.segN hz A0 kZ xM zz) (by simp only[qx,cy,vQ,OA];omega) (LS _) ?_;refine B 5 ?_;refine PJ.reH (H':=[(bI,oC (aO (.slice (ao bn) 96 cn) 0) t),(bn,aM 5 (xs++zs) (jc (cn-96)))]) (by have:=nFf xs zs (jc (cn-64)) (by rw[OA];omega);rw[hx,nIf,hz,Nat.sub_sub]at this;simp only[dX,dm,aM];rw[this];rfl) ?_;exact sZ (Hz:=[(bI,oC (aO (.slice (ao bR) 64 64) 0) t)]) (H0:=[]) (bn,cn) (.inl rfl) results208 aX A0 IY rfl tJ
theorem nKm(bI bR n c:Nat)(lr:Int)(t:Nat)(fr:Nat×Nat)(hn:n<=c)(w:World)(hb0:w.heap[bI]? =some (.cells (aO (.slice (ao bR) n c) lr) t fr)):Calls prog 271 #[ptr bI 0] w (aL w (.slice (ao bR) n c)):=by
 have xg:¬Gh.no.X bI:=λh=>h;refine eN func271 ntmps271 ?_;refine B 6 ?_;refine eA 8 (k:=?_);refine rv rfl rfl rfl (fZ (l:=0) (h:=n) (off':=0) underlying106 sizeOf5 rfl ⟨_,_,rfl,rfl⟩ rfl aa aa (by split<;>rfl)) ?_;refine B 4 ?_;refine aF results271 rfl A0 ?_;rfl
theorem nSj(hZ:FxOk Z)(bI bR c t:Nat)(s:ByteArray)(hs0:s.size<1000)(xs:List UInt8)(hxl:xs.length<=c)(IF:xs.length<=1000)(w:World)(hb:w.heap[bI]? =some (oC (aO (.slice (ao bR) xs.length c) 0) t))(hR:bZ w bR 0 xs)(hg:Glb w):Calls prog 209 #[ptr bI 0,.string s] w (aL w (.agg (dg (Z.tg s xs)))):=by
 have jl:=(aT.1 hb).1;have hRl:=hR.lt;have hg4:=hg.lt;obtain⟨df,kO⟩:∃df,Z.tg s xs=df:=⟨_,rfl⟩;refine eN func209 ntmps209 ?_;refine B 3 ?_;refine yW ?_;intro b4 ji jj;refine B 8 ?_;refine call call271 rfl rfl rfl (λW hS=>nKm bI bR xs.length c 0 t _ hxl W (hS.old A0 hb zJ zz)) ?_;refine call call87 rfl rfl rfl (λW hS=>by rw[<-kO];exact nth hZ s hs0 xs aa bR 0 c hxl W (hR.old hS A0 zJ zz) (hg.old hS A0 zH zD)) (v:=.agg (dg df)) ?_;refine B 4 ?_;refine cC (.inl rfl) results209 aX A0 zB ?_;rw[kO];rfl
theorem nYj(bI bR t:Nat)(xs:List UInt8)(hx:xs.length=32)(f:Nat->Int)(b3 t3:Nat)(qw:Nat×Nat)(hf:er f)(w:World)(hb:w.heap[bI]? =some (oC (aO (.slice (ao bR) 32 64) 0) t))(wP:w.heap[bR]? =some (aM 5 xs (jc 32)))(vD:bI≠bR)(cZ:w.heap[b3]? =some (.cells (dg f) t3 qw))(hne:b3≠bI)(sO:b3≠bR):Calls prog 208 #[ptr bI 0,.slice (ao b3) 32 32] w (mj w [bI,bR] (λ_:Unit=>.tuple #[ab 32,.nilIface]) (λ_=>[(bI,oC (aO (.slice (ao bR) 64 64) 0) t),(bR,aM 5 (xs++cx f) [])]) (λ_=>True)):=by
 have h:=nog bI bR t xs (jc 32) (cx f) b3 0 32 (by rw[nH,hx];decide) (by rw[OA,hx]) (by rw[hx];decide) w (by rw[hx];exact hb) wP vD (bZ.dg cZ hf) hne sO;simp only[cy,nH,hx,nIf]at h;exact h
theorem n1j(bI bR t:Nat)(xs:List UInt8)(hx:xs.length=64)(f:Nat->Int)(b3 t3:Nat)(qw:Nat×Nat)(hf:er f)(w:World)(hb:w.heap[bI]? =some (oC (aO (.slice (ao bR) 64 64) 0) t))(J6:bZ w bR 0 xs)(S2:bR≠bI)(cZ:w.heap[b3]? =some (.cells (dg f) t3 qw))(hne:b3≠bI):Calls prog 208 #[ptr bI 0,.slice (ao b3) 32 32] w (mj w [bI] (λ_:Nat×Nat=>.tuple #[ab 32,.nilIface]) (λq=>[(bI,oC (aO (.slice (ao q.1) 96 q.2) 0) t),(q.1,aM 5 (xs++cx f) (jc (q.2-96)))]) (λq=>96<=q.2)):=
 nyj bI bR xs hx (cx f) (nH f) b3 0 32 t w hb J6 S2 (bZ.dg cZ hf) hne
theorem aas(s:ByteArray)(hs:s.size<1000)(D:Nat->Int)(hD:vl s.size (sB s)=D)(b c t:Nat)(fr:Nat×Nat)(cs:Array Value)(hc:s.size<=c)(w:World)(hb:w.heap[b]? =some (.cells cs t fr))(ho:0+s.size<=cs.size)(hm:∀i,i<s.size->cs[0+i]? =some (.int .u8 (sB s i)))(hg:Glb w):Calls prog 164 #[.slice (ao b) s.size c] w (aL w (.agg (dg D))):=by
 subst hD;obtain⟨⟨t2,xi,g1⟩,t3,qw,g2⟩:=hg;exact nSf s.size (sB s) b 0 c t t2 t3 fr xi qw cs hc aa w hb ho hm g1 g2
theorem nOm(bI bR t:Nat)(xs:List UInt8)(hx:xs.length=32)(f:Nat->Int)(hf:er f)(w:World)(hb:w.heap[bI]? =some (oC (aO (.slice (ao bR) 32 64) 0) t))(wP:w.heap[bR]? =some (aM 5 xs (jc 32)))(vD:bI≠bR):Calls prog 207 #[ptr bI 0,.agg (dg f)] w (mj w [bI,bR] (λ_:Unit=>ptr bI 0) (λ_=>[(bI,oC (aO (.slice (ao bR) 64 64) 0) t),(bR,aM 5 (xs++cx f) [])]) (λ_=>True)):=by
 have jl:=(aT.1 hb).1;have DA:=(aT.1 wP).1;refine nB (vs:=[_,_]) (Gh.lent (λk=>k∈keys [(bI,oC (aO (.slice (ao bR) 32 64) 0) t),(bR,aM 5 xs (jc 32))])) [(bI,oC (aO (.slice (ao bR) 32 64) 0) t),(bR,aM 5 xs (jc 32))] func207 rfl ntmps207 rfl (GN (fq.mem ⟨hb,wP,trivial⟩) (VA vD)) ?_;refine B 2 ?_;refine yX ?_;intro b3 w3 cZ cu fC ez eP;refine B 4 ?_;refine eA 4 (pb:=by exact zU 3 (k:=by exact aU (X.v (fF (h:=32) underlying127 sizeOf5 rfl rfl aa)) (vK rfl))) (k:=?_);refine B5 (Hz:=[(bI,oC (aO (.slice (ao bR) 32 64) 0) t),(bR,aM 5 xs (jc 32))]) (H0:=[]) (first:=[]) (cap:=[]) (v:=λ_:Unit=>.tuple #[ab 32,.nilIface]) (Hn:=λ_=>[(bI,oC (aO (.slice (ao bR) 64 64) 0) t),(bR,aM 5 (xs++cx f) [])]) (Φ:=λ_=>True) rfl rfl call208 rfl rfl rfl ⟨.inl SY,.inl SY,trivial⟩ (λW hS=>nYj bI bR t xs hx f b3 _ _ hf W (hS.own _ A0) (hS.own _ A1) vD (hS.old A0 cZ cu zz) aa aa) ?_;rintro _-jA;refine B 9 ?_;exact sZ (Hz:=[(bI,oC (aO (.slice (ao bR) 32 64) 0) t),(bR,aM 5 xs (jc 32))]) (H0:=[]) () (.inl rfl) results207 aX A1 IY rfl trivial
theorem nPm(bI bR t:Nat)(xs:List UInt8)(hx:xs.length=64)(f:Nat->Int)(hf:er f)(w:World)(hb:w.heap[bI]? =some (oC (aO (.slice (ao bR) 64 64) 0) t))(J6:bZ w bR 0 xs)(S2:bR≠bI):Calls prog 207 #[ptr bI 0,.agg (dg f)] w (mj w [bI] (λ_:Nat×Nat=>ptr bI 0) (λq=>[(bI,oC (aO (.slice (ao q.1) 96 q.2) 0) t),(q.1,aM 5 (xs++cx f) (jc (q.2-96)))]) (λq=>96<=q.2)):=by
 have jl:=(aT.1 hb).1;have hRl:=J6.lt;refine nB (vs:=[_,_]) (Gh.lent (λk=>k∈keys [(bI,oC (aO (.slice (ao bR) 64 64) 0) t)])) [(bI,oC (aO (.slice (ao bR) 64 64) 0) t)] func207 rfl ntmps207 rfl (GN (fq.mem ⟨hb,trivial⟩) (DV _)) ?_;refine B 2 ?_;refine yX ?_;intro b3 w3 cZ cu fC ez eP;refine B 4 ?_;refine eA 4 (pb:=by exact zU 3 (k:=by exact aU (X.v (fF (h:=32) underlying127 sizeOf5 rfl rfl aa)) (vK rfl))) (k:=?_);refine B5 (Hz:=[(bI,oC (aO (.slice (ao bR) 64 64) 0) t)]) (H0:=[]) (first:=[]) (cap:=[]) (v:=λ_:Nat×Nat=>.tuple #[ab 32,.nilIface]) (Hn:=λq=>[(bI,oC (aO (.slice (ao q.1) 96 q.2) 0) t),(q.1,aM 5 (xs++cx f) (jc (q.2-96)))]) (Φ:=λq=>96<=q.2) rfl rfl call208 rfl rfl rfl ⟨.inl SY,trivial⟩ (λW hS=>n1j bI bR t xs hx f b3 _ _ hf W (hS.own _ A0) (J6.old hS A1 xM zz) S2 (hS.old A0 cZ cu zz) aa) ?_;rintro⟨bn,cn⟩ tJ jA;have mC:bn=bI\/w.heap.size<=bn:=by
  rcases jA (bn,_) A1 with h|h
  ·left;simpa[keys]using h
  right;exact h.1.2.1
 dsimp only at tJ ⊢;refine B 9 ?_;exact sZ (Hz:=[(bI,oC (aO (.slice (ao bR) 64 64) 0) t)]) (H0:=[]) (bn,cn) (.inl rfl) results207 aX A1 IY rfl tJ
theorem nvj(hZ:FxOk Z)(bI bR c t:Nat)(s:ByteArray)(hs0:s.size<1000)(xs:List UInt8)(hx:xs.length=96)(hc:96<=c)(w:World)(hb:w.heap[bI]? =some (oC (aO (.slice (ao bR) 96 c) 0) t))(hR:bZ w bR 0 xs)(hg:Glb w):Calls prog 209 #[ptr bI 0,.string s] w (aL w (.agg (dg (Z.tg s xs)))):=
 nSj hZ bI bR c t s hs0 xs aa aa w (by rw[hx];exact hb) hR hg
theorem nyo(hZ:FxOk Z)(s:ByteArray)(hs:s.size<1000)(a b:Nat->Int)(ha:er a)(hb:er b)(w:World)(hg:Glb w):Calls prog 202 #[.string s,.agg (dg a),.agg (dg b)] w (cK w (λf:Nat->Int=>.agg (dg f)) (λf _=>er f)):=by
 have hg4:=hg.lt;obtain⟨D,hD⟩:∃D,vl s.size (sB s)=D:=⟨_,rfl⟩;have hDB:er D:=by rw[<-hD];exact nin _ _
 refine eN func202 ntmps202 ?_;refine B 2 ?_;refine yX ?_;intro b4 w4 Ie Cj V5 ji jj;refine yX ?_;intro b5 w5 Cw Xj hz5 sq su;refine B 1 ?_;refine yW ?_;intro b6 jO qy;refine B 5 ?_;refine yW ?_;intro b7 jN vN;refine B 3 ?_;refine CJ.less (E':=[(0,_),(1,_),(2,_),(4,_),(5,_),(6,_),(7,_)]) zR ?_;refine CJ.chn 7 [1,2,3,5] [_,none,none,none,_,none,_] (λcv L' H'=>let iL:ad:=[(b7,oC (aO (aj) 0) 352),(b6,oC (zK) 127)];let dY:ad:=iL;match cv with| []=>L'=[w5,w4,w]/\H'=dY| [v1]=>∃(b9:Nat) (c9:Nat) (w9:World) (px:Array Value) (vd:Nat×Nat),v1= .slice (ao b9) s.size c9/\L'=[w9,w5,w4,w]/\H'=dY/\w9.heap[b9]? =some (.cells px 5 vd)/\bA iL b9/\s.size<=c9/\0+s.size<=px.size/\(∀i,i<s.size->px[0+i]? =some (.int .u8 (sB s i)))| [v1,v2]=>∃(b9:Nat) (c9:Nat) (w9:World) (px:Array Value) (vd:Nat×Nat),v1= .slice (ao b9) s.size c9/\v2= .agg (dg D)/\L'=[w5,w4,w]/\H'=dY/\w9.heap[b9]? =some (.cells px 5 vd)/\bA iL b9/\s.size<=c9/\0+s.size<=px.size/\(∀i,i<s.size->px[0+i]? =some (.int .u8 (sB s i)))| [v1,v2,v3]=>∃(b9:Nat) (c9:Nat) (w9:World) (px:Array Value) (vd:Nat×Nat) (bR:Nat),v1= .slice (ao b9) s.size c9/\v2= .agg (dg D)/\v3=ptr b7 0/\L'=[w5,w4,w]/\H'=[(b7,oC (aO (.slice (ao bR) 32 64) 0) 352),(bR,aM 5 (cx D) (jc 32)),(b6,oC (zK) 127)]/\w9.heap[b9]? =some (.cells px 5 vd)/\bA iL b9/\s.size<=c9/\0+s.size<=px.size/\(∀i,i<s.size->px[0+i]? =some (.int .u8 (sB s i)))/\b7≠bR/\b6≠bR/\w5.heap.size<=bR/\w4.heap.size<=bR/\w.heap.size<=bR| [v1,v2,v3,v4]=>∃(b9:Nat) (c9:Nat) (w9:World) (px:Array Value) (vd:Nat×Nat) (bR:Nat),v1= .slice (ao b9) s.size c9/\v2= .agg (dg D)/\v3=ptr b7 0/\v4=ptr b7 0/\L'=[w5,w4,w]/\H'=[(b7,oC (aO (.slice (ao bR) 64 64) 0) 352),(bR,aM 5 (cx D++cx a) []),(b6,oC (zK) 127)]/\w9.heap[b9]? =some (.cells px 5 vd)/\bA iL b9/\s.size<=c9/\0+s.size<=px.size/\(∀i,i<s.size->px[0+i]? =some (.int .u8 (sB s i)))/\b7≠bR/\b6≠bR/\w5.heap.size<=bR/\w4.heap.size<=bR/\w.heap.size<=bR|_=>False) (pc zM (pk (pk (pk (pc zct (pk (pc zct (pn)))))))) ?_ ?_
 ·refine ss rfl ?_ ?_
  ·intro cv L' H' hl hP F Q' hk;obtain rfl:=lN hl;obtain⟨rfl,rfl⟩:=hP;refine Nj underlying9 underlying106 underlying5 rfl rfl rfl ?_;intro b_ c_ w_ cs_ fr_ pS mO hJ wQ xN hc_ ajQ BT;exact OJ.done (hk _ _ _ ⟨b_,c_,w_,cs_,fr_,rfl,rfl,rfl,pS,hJ,hc_,ajQ,BT⟩)
  refine ss rfl ?_ ?_
  ·intro cv L' H' hl hP F Q' hk;obtain⟨v1,rfl⟩:=iZ hl;obtain⟨b9,c9,w9,px,vd,rfl,rfl,rfl,rL,tw,qN,rQ,GV⟩:=hP;refine call (v:=.agg (dg D)) call164 rfl rfl rfl (λW hS=>aas s hs D hD b9 c9 _ vd px qN W (hS.old A0 rL zJ tw) rQ GV (hg.old hS A3 zH zD)) ?_;exact OJ.done (By zI (hk _ _ _ ⟨b9,c9,w9,px,vd,rfl,rfl,rfl,rfl,rL,tw,qN,rQ,GV⟩))
  refine ss rfl ?_ ?_
  ·intro cv L' H' hl hP F Q' hk;obtain⟨v1,v2,rfl⟩:=pX hl;obtain⟨b9,c9,w9,px,vd,rfl,rfl,rfl,rfl,rL,tw,qN,rQ,GV⟩:=hP;refine B5 (Hz:=[(b7,oC (aO (aj) 0) 352)]) (H0:=[(b6,oC (zK) 127)]) (first:=[]) (cap:=[]) (v:=λ_:Nat=>ptr b7 0) (Hn:=λbR=>[(b7,oC (aO (.slice (ao bR) 32 64) 0) 352),(bR,aM 5 (cx D) (jc 32))]) (Φ:=λ_=>True) rfl rfl call207 rfl rfl rfl ⟨.inr ⟨by omega,by omega,by omega,trivial⟩,trivial⟩ (λW hS=>nRi b7 352 D hDB W (hS.own _ A0)) ?_;rintro bR-jA;refine nmd (i:=0) (j:=1) rfl rfl zA λvD=>?_;refine nmd (i:=1) (j:=2) rfl rfl zA λVE=>?_;have wP:w5.heap.size<=bR/\w4.heap.size<=bR/\w.heap.size<=bR:=by
    rcases jA (bR,_) A1 with h|h
    ·exact absurd (show bR=b7 by simpa[keys]using h) (Ne.symm vD)
    obtain⟨h1,_⟩:=h;simp only[ae,and_true]at h1;exact h1
   exact OJ.done (hk _ _ _ ⟨b9,c9,w9,px,vd,bR,rfl,rfl,rfl,rfl,rfl,rL,tw,qN,rQ,GV,vD,λe=>VE e.symm,wP⟩)
  refine ss rfl ?_ ?_
  ·intro cv L' H' hl hP F Q' hk;obtain⟨v1,v2,v3,rfl⟩:=mB hl;obtain⟨b9,c9,w9,px,vd,bR,rfl,rfl,rfl,rfl,rfl,rL,tw,qN,rQ,GV,vD,VE,wP⟩:=hP;refine B5 (Hz:=[(b7,oC (aO (.slice (ao bR) 32 64) 0) 352),(bR,aM 5 (cx D) (jc 32))]) (H0:=[(b6,oC (zK) 127)]) (first:=[]) (cap:=[]) (v:=λ_:Unit=>ptr b7 0) (Hn:=λ_=>[(b7,oC (aO (.slice (ao bR) 64 64) 0) 352),(bR,aM 5 (cx D++cx a) [])]) (Φ:=λ_=>True) rfl rfl call207 rfl rfl rfl ⟨.inr ⟨by omega,by omega,by omega,trivial⟩,.inr ⟨by omega,by omega,by omega,trivial⟩,trivial⟩ (λW hS=>nOm b7 bR 352 (cx D) (nH D) a ha W (hS.own _ A0) (hS.own _ A1) vD) ?_;rintro _-_;exact OJ.done (hk _ _ _ ⟨b9,c9,w9,px,vd,bR,rfl,rfl,rfl,rfl,rfl,rfl,rL,tw,qN,rQ,GV,vD,VE,wP⟩)
  exact nn
 intro cv L' H' hl hP;obtain⟨v1,v2,v3,v4,rfl⟩:=uI hl;obtain⟨b9,c9,w9,px,vd,bR,rfl,rfl,rfl,rfl,rfl,rfl,rL,tw,qN,rQ,GV,vD,VE,wP⟩:=hP;refine B5 (Hz:=[(b7,oC (aO (.slice (ao bR) 64 64) 0) 352)]) (H0:=[(bR,aM 5 (cx D++cx a) []),(b6,oC (zK) 127)]) (first:=[]) (cap:=[]) (v:=λ_:Nat×Nat=>ptr b7 0) (Hn:=λq=>[(b7,oC (aO (.slice (ao q.1) 96 q.2) 0) 352),(q.1,aM 5 (cx D++cx a++cx b) (jc (q.2-96)))]) (Φ:=λq=>96<=q.2) rfl rfl call207 rfl rfl rfl ⟨.inr ⟨by omega,by omega,by omega,trivial⟩,trivial⟩ (λW hS=>nPm b7 bR 352 (cx D++cx a) (by rw[cy,nH,nH]) b hb W (hS.own _ A0) (bZ.row (hS.own _ A1)) (Ne.symm vD)) ?_;rintro⟨bn,cn⟩ tJ jA;dsimp only at tJ jA ⊢;refine nmd (i:=0) (j:=1) rfl rfl zA λhIn=>?_;have mC:w5.heap.size<=bn/\w4.heap.size<=bn/\w.heap.size<=bn:=by
  rcases jA (bn,_) A1 with h|h
  ·exact absurd (show bn=b7 by simpa[keys]using h) (Ne.symm hIn)
  obtain⟨h1,_⟩:=h;simp only[ae,and_true]at h1;exact h1
 refine OJ.reH (H':=[(b7,oC (aO (.slice (ao bn) 96 cn) 0) 352),(bn,aM 5 (cx D++cx a++cx b) (jc (cn-96))),(bR,aM 5 (cx D++cx a) []),(b6,oC (zK) 127)]) rfl ?_;obtain⟨F6,aat⟩:∃F,Z.tg (⟨#[109,105,120]⟩:ByteArray) (cx D++cx a++cx b)=F:=⟨_,rfl⟩;have hF6:er F6:=by rw[<-aat];exact hZ.byt _ _
 refine call (v:=.agg (dg F6)) call209 rfl rfl rfl (λW hS=>by rw[<-aat];exact nvj hZ b7 bn cn 352 (⟨#[109,105,120]⟩:ByteArray) zA (cx D++cx a++cx b) (by rw[cy,cy,nH,nH,nH]) tJ W (hS.own _ A0) (bZ.row (hS.own _ A1)) (hg.old hS A2 zH Cl)) ?_;refine B 4 ?_;exact bK (.inl rfl) results202 aX λW hS=>⟨F6,rfl,hS.base A2 zP,hF6⟩
def Lab (w:World):Prop:=∃t fr,w.heap[2]? =some (.cells #[.string (⟨#[105,110,105,116]⟩:ByteArray),.string (⟨#[99,111,109,109,105,116]⟩:ByteArray),.string (⟨#[99,104,105,108,100]⟩:ByteArray)] t fr)
theorem Lab.old{W:World}(h:Lab w)(hS:St G L H W)(hw:w∈L)(hX:¬G.X 2)(hH:bA H 2):Lab W:=by
 obtain⟨t,fr,h1⟩:=h;exact⟨t,fr,hS.old hw h1 hX hH⟩
theorem S3(s:ByteArray)(hs0:s.size<1000)(n:Nat)(hn:n<1000000000000)(m:Nat->Int):∃F,er F/\∀(bb off c t t2 t3:Nat) (fr xi qw:Nat×Nat) (cs:Array Value) (hc:n<=c) (w:World) (An:w.heap[bb]? =some (.cells cs t fr)) (mA:off+n<=cs.size) (hm:∀i,i<n->cs[off+i]? =some (.int .u8 (m i))) (hg:Glb w),Calls prog 87 #[.string s,.slice (some ⟨bb,off,none⟩) n c] w (aL w (.agg (dg F))):=
 ⟨tagged s n m,ncg _ _ _,λbb off c t _ _ fr _ _ cs hc w An mA hm hg=>by
  obtain⟨⟨t2,xi,g1⟩,t3,qw,g2⟩:=hg;exact n9d s n m bb off c t t2 t3 fr xi qw cs hs0 hc hn w An mA hm g1 g2⟩
theorem n3m(hZ:FxOk Z)(f:Nat->Int)(hf:er f)(w:World)(hg:Glb w)(hl:Lab w):Calls prog 84 #[ab 1,.agg (dg f)] w (aL w (.agg (dg (rP Z f (⟨#[99,111,109,109,105,116]⟩:ByteArray))))):=by
 have hg4:=hg.lt;obtain⟨tl,fl,Ix⟩:=hl;refine eN func84 ntmps84 ?_;refine B 2 ?_;refine yX ?_;intro b3 w3 cZ cu fC ez eP;refine B 1 ?_;refine yW ?_;intro b4 ji jj;refine B 3 ?_;refine eA 4 (pb:=by exact zU 2 (k:=by exact aU (X.v (RV.re (v':=ptr 2 1) (uj underlying283 sizeOf9 rfl rfl zA zA) rfl)) (aU (X.v (av (v:=.string (⟨#[99,111,109,109,105,116]⟩:ByteArray)) isAgg9 rfl A1 Ix zJ zz rfl)) (vK rfl)))) (k:=?_);refine call call142 rfl rfl rfl (λW hS=>n8d hZ f hf (⟨#[99,111,109,109,105,116]⟩:ByteArray) zA W (hg.old hS A1 zH zD)) (v:=.agg (dg (rP Z f (⟨#[99,111,109,109,105,116]⟩:ByteArray)))) ?_;refine B 4 ?_;refine cC (.inl rfl) results84 aX A1 zB ?_;rfl
theorem n6h(hZ:FxOk Z)(f:Nat->Int)(hf:er f)(w:World)(hg:Glb w):Calls prog 139 #[.agg (dg f)] w (aL w (ab (VD Z f (⟨#[110,111,100,101]⟩:ByteArray)))):=by
 have hg4:=hg.lt;refine eN func139 ntmps139 ?_;refine B 2 ?_;refine yX ?_;intro b1 w1 hb1 cF gK gj jy;refine B 6 ?_;refine call call203 rfl rfl rfl (λW hS=>n3k hZ f hf (⟨#[110,111,100,101]⟩:ByteArray) zA W (hg.old hS A1 zH zD)) ?_;refine B 4 ?_;refine aF results139 rfl A1 ?_;rfl
theorem naj(hZ:FxOk Z)(e f:Nat->Int)(he:er e)(hf:er f)(w:World)(hg:Glb w)(hl:Lab w):Calls prog 137 #[.agg (dg e),.agg (dg f)] w (cK w (λf:Nat->Int=>.agg (dg f)) (λf _=>er f)):=by
 have hg4:=hg.lt;refine eN func137 ntmps137 ?_;refine B 2 ?_;refine yX ?_;intro b2 w2 di bV ff dB dx;refine yX ?_;intro b3 w3 cZ cu fC ez eP;refine B 1 ?_;refine yW ?_;intro b4 ji jj;refine B 3 ?_;refine eA 3 (pb:=by exact zU 2 (k:=by exact aU (nf call84 rfl rfl (λW hS _=>n3m hZ f hf W (hg.old hS A2 zH zD) (hl.old hS A2 zJ zz)) (λ_=>rfl)) (vK rfl))) (sp:=[_,_,some (.agg (dg (rP Z f (⟨#[99,111,109,109,105,116]⟩:ByteArray))))]) (k:=?_);refine nv (α:=Nat->Int) (v:=λf=>.agg (dg f)) (Φ:=λ_ f _=>er f) call202 rfl rfl rfl (λW hS=>nyo hZ (⟨#[101,112,111,99,104]⟩:ByteArray) zA e _ he (n3g hZ f (⟨#[99,111,109,109,105,116]⟩:ByteArray)) W (hg.old hS A2 zH zD)) ?_;rintro Wm fm wm vV Ke xz;refine B 4 ?_;exact bK (.inl rfl) results137 aX λW hS=>⟨fm,rfl,hS.base A3 (by simp only[Over,dm,and_true];omega),xz⟩
theorem nTh(hZ:FxOk Z)(f g:Nat->Int)(hf:er f)(hg1:er g)(w:World)(hg:Glb w):Calls prog 145 #[.agg (dg f),.agg (dg g)] w (cK w (λf:Nat->Int=>.agg (dg f)) (λf _=>er f)):=by
 have hg4:=hg.lt;obtain⟨F,hFB,hFc⟩:=S3 (⟨#[99,111,110,102,105,114,109]⟩:ByteArray) zA 64 zA (yp 32 f g);refine eN func145 ntmps145 ?_;refine B 2 ?_;refine yX ?_;intro b2 w2 di bV ff dB dx;refine yX ?_;intro b3 w3 cZ cu fC ez eP;refine B 1 ?_;refine yW ?_;intro b4 ji jj;refine B 3 ?_;refine eA 2 (pb:=by exact aU (X.v (fF (h:=32) underlying127 sizeOf5 rfl rfl aa)) (aU (X.v (fF (h:=32) underlying33 sizeOf5 rfl rfl aa)) (vK rfl))) (k:=?_);refine qT underlying377 sizeOf106 zeroValue106 rfl rfl rfl rfl rfl rfl rfl ?_;refine yV ?_;intro b7 w7 Ps Uo hz7 jN vN;have aJ:(nF [⟨b2,0,32,32,f⟩,⟨b3,0,32,32,g⟩]).length=64:=by simp[nF,tA.l,Dm]
 refine Pr (v:=λp:Nat×Nat×List Value=>.slice (ao p.1) (nF [⟨b2,0,32,32,f⟩,⟨b3,0,32,32,g⟩]).length p.2.1) (bo:=λp:Nat×Nat×List Value=>(p.1,oC (nF [⟨b2,0,32,32,f⟩,⟨b3,0,32,32,g⟩]++p.2.2).toArray 5)) (Φ:=λp=>(nF [⟨b2,0,32,32,f⟩,⟨b3,0,32,32,g⟩]).length<=p.2.1/\p.2.2.length=p.2.1-(nF [⟨b2,0,32,32,f⟩,⟨b3,0,32,32,g⟩]).length) call165 rfl rfl rfl (λW hS=>nRg [⟨b2,0,32,32,f⟩,⟨b3,0,32,32,g⟩] b7 2 _ _ zI (by rw[aJ];omega) (by rw[aJ];omega) W (hS.old A0 Ps zJ zz) (λx hx=>by
  simp only[bX,dE,or_false]at hx;rcases hx with rfl|rfl
  ·exact⟨_,_,_,hS.old A2 di zJ zz,ak 32,λi hi=>by rw[lL];exact qQ _ i hi⟩
  exact⟨_,_,_,hS.old A1 cZ zJ zz,ak 32,λi hi=>by rw[lL];exact qQ _ i hi⟩)) ?_
 rintro⟨bc,cc,spc⟩ WI hoc ⟨Dt,Du⟩;replace WI:=yb WI;dsimp only at Dt Du;rw[aJ]at Dt Du;refine OJ.re (v':=.slice (ao bc) 64 cc) (by show Value.slice _ (nF _).length _=_;rw[aJ]) ?_;refine OJ.reH (H':=[(bc,oC (lu 64 (yp 32 f g)++spc).toArray 5),(b4,oC (zK) 33)]) (by rw[<-nuk 32 32];simp only[nF,tA.l,eb];rfl) ?_;refine call (v:=.agg (dg F)) call87 rfl rfl rfl (λW hS=>hFc bc 0 cc _ 0 0 _ (0,0) (0,0) _ Dt W (hS.own _ A0) (by simp only[qx,cy,Dm];omega) (λi hi=>nUn _ _ _ i hi) (hg.old hS A3 zH zD)) ?_;refine B 4 ?_;exact bK (.inl rfl) results145 aX λW hS=>⟨F,rfl,hS.base A3 zP,hFB⟩
theorem LV:prog.info? 127=some Tryz.t127:=by kernel_rfl
theorem GW:jH prog 76 127 32:=⟨underlying76,Tryz.t127,.agg (tz []).toArray,LV,rfl,rfl,rfl,by decide⟩
def iP (Z:Fx):Nat->(Nat->Int)->List Dk
 |0,_=>[]
 |n+1,f=>dk f::iP Z n (rP Z f (⟨#[112,97,116,104]⟩:ByteArray))
theorem nWl(Z:Fx):∀(n:Nat) (f:Nat->Int),(iP Z n f).length=n:=
 by intro x;induction x<;>(intros;grind [iP])
theorem npi{f:Nat->Int}(hf:er f):er (fX (dk f)):=by
 intro i;unfold fX;rw[List.getD_eq_getElem?_getD];cases h:(dk f).1[i]? with
 |none=>exact⟨by decide,by decide⟩
 |some x=>
  have hx:=cO h;unfold dk at hx;simp only[bX,dE,or_false]at hx;rcases hx with rfl|rfl|rfl|rfl|rfl|rfl|rfl|rfl|rfl|rfl|rfl|rfl|rfl|rfl|rfl|rfl|rfl|rfl|rfl|rfl|rfl|rfl|rfl|rfl|rfl|rfl|rfl|rfl|rfl|rfl|rfl|rfl<;>exact hf _
theorem nEm{Z:Fx}(hZ:FxOk Z):∀(n:Nat) (f:Nat->Int),er f->∀k∈iP Z n f,er (fX k)
 |0,_,_,k,hk=>by cases hk
 |n+1,f,hf,k,hk=>by
  unfold iP at hk;rcases bX.1 hk with rfl|hk
  ·exact npi hf
  exact nEm hZ n _ (n3g hZ f _) k hk
theorem Glb.blw{w':World}(h:Glb w)(hB:Below w.heap.size w w'):Glb w':=by
 have hl:=h.lt;obtain⟨⟨t,fr,h1⟩,t',Cs,h2⟩:=h;exact⟨⟨t,fr,by rw[hB.block 3 aa];exact h1⟩,t',Cs,by rw[hB.block 5 aa];exact h2⟩
theorem LW{f N:Nat}{fn:Func}{c:Code}(G:Gh)(H:ad)(hf:P.funcs[f]? =some fn)(hb:fn.body=some c)(hN:fn.ntmps=N)(hl:Nat.ble vs.length N=true)(hS:St G L H w)(h:CJ ⟨P,none,N⟩ c (bodyPostM (FW none) 0 P fn R) (zt 0 vs) [] G L H):Calls P f vs.toArray w R:=by
 exact zdh
theorem S4{f N:Nat}{fn:Func}{c:Code}(G:Gh)(H:ad)(hf:P.funcs[f]? =some fn)(hb:fn.body=some c)(hN:fn.ntmps=N)(hl:Nat.ble vs.length N=true)(hS:St G L H w)(h:CJ ⟨P,none,N⟩ c (bodyPost P fn R) (zt 0 vs) [] G L H):Calls P f vs.toArray w R:=by
 exact zjh
theorem nmn{C:Cx}{Q:aY}{E:Env}{D:List Deferred}{w0:World}{ops:Array Oper}{l:List Oper}{d f ty t m:Nat}{pos:String}{aC:Array Edge}{g:Option (Nat×Bool)}{α:Type}{enc:α->List Value}{xo:List Operand}{eC:Array Nat}{xs:List α}{v:Value->Value}(az:ew C.P f)(hw:nl ops E g=some true)(hN:Nat.blt d C.N=true)(ha:ja E xo=some vs)(hc:∀W,St Gh.no [w0] H W->Calls C.P f vs.toArray W (aD w0 enc m t xs v))(k:∀r:Rw,r.ge w0.heap.size->r.Fit m xs->OJ C ops Q l ((d,v (r.val xs.length))::E) D Gh.no [w0] (r.hp enc t xs)):OJ C ops Q (⟨some d,.call ⟨.value (.func f),xo.toArray,eC⟩,ty,pos,aC,g⟩::l) E D Gh.no [w0] H:=
 nI rfl hw rfl ha zI az λa W jb hD hF hS=>(hc W hS).mono (by
  rintro ed W' ⟨r,rfl,hb,jE,bM,fB⟩;have h0:St Gh.no [w0] [] W':=⟨trivial,λ_ h=>h.elim,λ_ h=>h.elim,λw hw=>by simp at hw;subst hw;exact aH.of_below hb,λ_ h=>by simp at h,λ_ _ _ _ h=>by simp at h,λ_ h=>by simp at h⟩;refine k r jE bM (a.put (some d) (v (r.val xs.length))) W' z6 z4 (hF.put _ z5) ?_;cases r with
  |nil=>exact h0
  |row b cap sp=>exact h0.adopt fB True.intro (λhv=>hv.elim))
theorem nKo{α:Type}{N:Nat}{Q:aY}{E:Env}{D:List Deferred}{H0:ad}{g:Operand}{ps:Array Tmp}{assign body:Code}{f:Nat}{cap:List Value}{enc:α->List Value}{Pre Fin:List α->Prop}{RO:Nat->Prop}{b c:Nat}{o o2:Obj}(hp:H0.Perm ((b,o)::(c,o2)::H))(hb:ae L b)(hc:ae L c)(hbX:¬G.X b)(hcX:¬G.X c)(hg:ev E g=some (.func (.func f) #[] cap.toArray))(az:ew P f)(lX:∀W W2,St G L H W->W.heap[b]? =some o->W.heap[c]? =some o2->Below W.heap.size W W2->ue P f cap enc Pre Fin (λk=>k=b\/k=c) RO W2)(lg:VF G L H RO)(jB:∀x,(enc x).length=ps.size)(Inv:List α->Gh->ad->Prop)(cI:Code->Gh->ad->Prop)(h0:Inv [] G H)(vF:∀p∈ps.toList,p<N)(round:VG P N ps assign body E G H L enc (λk=>k=b\/k=c) (λp _ _=>Pre p) Inv cI)(done:RgD P N Q E D L Fin Inv)(stop:VH P N Q E D L cI):CJ ⟨P,none,N⟩ (.rangeFunc g ps assign body) Q E D G L H0:=by
 refine nQl (B:=λW'=>W'.heap[b]? =some o/\W'.heap[c]? =some o2) (λW hS=>?_) hg az (λW W2 h h1 hB=>lX W W2 h h1.1 h1.2 hB) lg jB Inv cI h0 vF round done stop;have lR:=hS.perm hp;have Ug:=lR.own (b,o) zI;have hcW:=lR.own (c,o2) zI;have hnd:=(nY _).1 lR.nodup;simp only[dy,List.nodup_cons,bX,not_or]at hnd;refine⟨(lR.drop hb).drop hc,⟨Ug,hcW⟩,λk hk=>?_⟩;rcases hk with rfl|rfl
 ·exact⟨(aT.1 Ug).1,hb,hnd.1.2,lR.apart (k,o) zI,hbX⟩
 exact⟨(aT.1 hcW).1,hc,hnd.2.1,lR.apart (k,o2) zI,hcX⟩
theorem GX(k:Dk):dg (fX k)=(cD k).toArray:=by
 conv=>rhs;rw[<-K8 k]
 rfl
theorem nsp(hZ:FxOk Z)(f:Nat->Int)(hf:er f)(bk bl:Nat)(anV:6<=bk)(anW:6<=bl)(hne:bl≠bk)(W:World)(hg:Glb W)(jl:W.heap[bl]? =some (oC #[ab 0] 3))(hbk:W.heap[bk]? =some (oC (dg f) 127)):ue prog 266 [ptr bl 0,ptr bk 0] (λk:Dk=>[.agg (dg (fX k))]) (Ci (iP Z 10 f)) (Is (iP Z 10 f)) (λk=>k=bl\/k=bk) (λk=>k<6) W:=by
 intro l M I X0 hM hI hX hy h0;have hg4:=hg.lt;refine nB (dt hM (λ_=>False) (hI [] _)) [(bl,oC #[ab 0] 3),(bk,oC (dg f) 127)] (vs:=[_,_,_]) func266 rfl ntmps266 rfl (Na hM (hI [] _) h0 (by intro p hp;simp only[bX,dE,or_false]at hp;rcases hp with rfl|rfl;(exact jl);exact hbk) (VA hne) (by intro p hp;simp only[bX,dE,or_false]at hp;rcases hp with rfl|rfl;(exact .inl rfl);exact .inr rfl)) ?_;refine B 1 ?_;refine CJ.loop (α:=(List Dk×Nat)×(Nat->Int)×aE) (λp=>[(0,yv l),(1,ptr bl 0),(2,ptr bk 0)]) (λp=>[(bl,oC #[ab (p.1.2:Int)] 3),(bk,oC (dg p.2.1) 127)]) (λp=>[W]) (λp=>dt hM p.2.2 (hI p.1.1 p.2.2)) (λp=>p.1.1++iP Z (10-p.1.2) p.2.1=iP Z 10 f/\p.1.2<=10/\er p.2.1/\∀k,p.2.2 k->W.heap.size<=k) (λp=>10-p.1.2) (([],0),f,λ_=>False) ⟨rfl,cR _,hf,λ_ h=>h.elim⟩ zR rfl rfl zI ?_;rintro⟨⟨pre,j⟩,g,V⟩ ⟨sa,hj,hgB,hV⟩;dsimp only at sa hj hgB hV ⊢;refine B 7 ?_;refine aG ?_ ?_
 ·intro ar;refine B 8 ?_;refine ay (.agg (dg g)) ?_;refine Bl (λV=>hI (pre++[(dk g)]) V) hX hV zI rfl rfl rfl rfl (λW1 uf kX=>hy (pre) ((dk g)) V W1 ⟨iP Z (10-(j+1)) (rP Z g (⟨#[112,97,116,104]⟩:ByteArray)),by rw[<-sa,show 10-j=(10-(j+1))+1 from by omega,iY];rfl⟩ uf kX) ?_ ?_
  ·intro V hV;refine B 7 ?_;refine ay (.agg (dg g)) ?_;refine call call142 rfl rfl rfl (λW2 hS=>n8d hZ g hgB (⟨#[112,97,116,104]⟩:ByteArray) zA W2 (hg.old hS A0 (λk hk h=>by rcases h with h|h;(exact(hM _ h).2.2 hk);(have:=hV _ h;omega)) zP)) ?_;refine B 6 ?_;refine ay (ab ((j+1:Nat):Int)) ?_;refine zGe ?_;refine B 1 ?_;refine ag ((pre++[dk g],j+1),rP Z g (⟨#[112,97,116,104]⟩:ByteArray),V) ⟨by dsimp only;rw[<-sa,show 10-j=(10-(j+1))+1 from by omega,iY];rfl,by dsimp only;omega,n3g hZ g _,hV⟩
  intro V hV;refine B 10 ?_;exact Bm (.inl rfl) results266 A0 hV (by intro k hk hx;simp only[dm,dX,dy,eV,bX,dE,or_false]at hx;exact hx) (λA hA=>.inr hA)
 intro ar;refine B 4 ?_;exact Bm (.inr rfl) results266 A0 hV (by intro k hk hx;simp only[dm,dX,dy,eV,bX,dE,or_false]at hx;exact hx) (λA hA=>.inl ⟨pre,by rw[<-sa,show 10-j=0 from by omega];exact(eb pre).symm,hA⟩)
theorem nci(f:Nat->Int)(w:World):Calls prog 201 #[.agg (dg f),ab 0] w (mj w [] (λp:Nat×Nat=>.func (.func 266) #[] #[ptr p.1 0,ptr p.2 0]) (λp=>[(p.1,oC #[ab 0] 3),(p.2,oC (dg f) 127)]) (λ_=>True)):=by
 refine nB (vs:=[_,_]) (Gh.lent (λk=>k∈keys [])) [] func201 rfl ntmps201 rfl (GN (fq.mem (H:=[]) True.intro) (by simp[lq])) ?_;refine NA ?_;refine yW ?_;intro b2 dB dx;refine JC rfl rfl rfl ?_;refine yW ?_;intro b3 ez eP;refine B 10 ?_;exact sZ (Hz:=[]) (H0:=[]) (b3,b2) (.inl rfl) results201 aX A0 IY rfl trivial
theorem nRm(hZ:FxOk Z)(f:Nat->Int)(hf:er f)(bk bl:Nat)(w0 w:World)(Lu:St Gh.no [w0] [(bl,oC #[ab 0] 3),(bk,oC (dg f) 127)] w)(GY:w0.heap.size<=bk)(yL:w0.heap.size<=bl)(hg:Glb w0):Calls prog 265 #[aj,.func (.func 266) #[] #[ptr bl 0,ptr bk 0]] w (aD w0 cD 32 127 (iP Z 10 f) id):=by
 have hg4:=hg.lt;have hne:bl≠bk:=λe=>by have:=Lu.nodup 0 1 _ _ rfl rfl e;omega
 refine LW Gh.no [(bl,oC #[ab 0] 3),(bk,oC (dg f) 127)] (vs:=[_,_]) func265 rfl ntmps265 rfl Lu ?_;refine NA ?_;refine yW ?_;intro b2 dB dx;refine B 10 ?_;refine nKo (f:=266) (cap:=[ptr bl 0,ptr bk 0]) (α:=Dk) (enc:=(λk:Dk=>[.agg (dg (fX k))])) (Pre:=Ci (iP Z 10 f)) (Fin:=Is (iP Z 10 f)) (RO:=λk=>k<6) (b:=bl) (c:=bk) (o:=oC #[ab 0] 3) (o2:=oC (dg f) 127) (H:=[(b2,oC #[aj] 76)]) (List.perm_append_comm (l₁:=[_]) (l₂:=[_,_])) ⟨yL,trivial⟩ ⟨GY,trivial⟩ zJ zJ rfl call266 (λW W2 hS jy dx hB=>nsp hZ f hf bk bl aa aa hne W2 ((hg.old hS A0 zH Cl).blw hB) (by rw[hB.block bl (aT.1 jy).1];exact jy) (by rw[hB.block bk (aT.1 dx).1];exact dx)) (λW hS k hk=>⟨by have h2:=(hS.links w0 A0).size;omega,by simp only[dy,eV,bX,dE,or_false];omega,λh=>h⟩) (λ_=>rfl) (λpre G' Hc=>G'=Gh.no/\∃r:Rw,r.Fr Gh.no [w0]/\r.Fit 32 pre/\Hc=[(b2,oC #[r.val pre.length] 76)]++(r.hp cD 127 pre++[])) (λ_ _ _=>False) ⟨rfl,.nil,True.intro,rfl,rfl⟩ zA ?_ ?_ ?_
 ·rintro pre x G' Hc l Dk rec W1 M V Wy ow vk dS ⟨rfl,r,aK,ah,rfl⟩ iQ lK Pg xZ dz C6;simp only[ae]at iQ xZ;have bG:r.ge w0.heap.size:=Rw.ge_of aK A0;have iH:=dS.length_le;rw[nWl]at iH;simp only[cy,dF,fh]at iH;have DW:∀p∈r.hp cD 127 pre,M p.1\/V p.1:=λp hp=>dz.loc.h p UB;refine B 2 ?_;refine yW ?_;intro b5 sq su;refine B 2 ?_;refine PJ.reH (H':=book ([(b5,oC (dg (fX x)) 127)]++([(b2,oC #[r.val pre.length] 76)]++(r.hp cD 127 pre++[]))) l rec (fG Dk)) rfl ?_;refine Nc ow ?_;refine B 3 ?_;refine ay (.agg (dg (fX x))) ?_;refine kh underlying76 sizeOf127 zeroValue127 rfl rfl rfl rfl rfl rfl rfl ?_;refine yW ?_;intro gB lY p6;refine kg (r:=r) (xs:=pre) (zs:=[(dk (fX x))]) (enc:=cD) (m:=32) (H0:=[(gB,oC (dg (fX x)) 127),(b5,oC (dg (fX x)) 127),(b2,oC #[r.val pre.length] 76)]) (H1:=(l,.loop {rec with state:=.busy})::fG Dk) zW GW nX rfl rfl rfl rfl (cd.one (z:=dk (fX x)) nX Va underlying76 (bB.own (i:=0) rfl)) ah (Rw.Fr_ext DW) zI Au ?_;intro gR oU oV jo kL;replace jo:=yb jo;rw[K8]at kL ⊢;refine B 3 ?_;refine BV ?_;refine Jg (G2:=Gh.no) (Hc2:=[(b2,oC #[(Rw.row gR oU oV).val (pre++[x]).length] 76)]++((Rw.row gR oU oV).hp cD 127 (pre++[x])++[])) dz lK ⟨λ_ h=>h,λ_ h=>.inl h,λ_ h=>.inl h,(UC rfl (jo.imp id (λh=>h.1))),zMc⟩ (Jh ow vk) ?_
  exact zVg
 ·rintro pV l Dk rec G' Hc rfl iQ lK ⟨rfl,r,aK,ah,rfl⟩;replace iQ:=yb iQ;have bG:r.ge w0.heap.size:=Rw.ge_of aK A0;refine PV λWd xY=>?_;have mC:=UD xY;refine B 9 ?_;have hq:=λ(k:Nat)=>Rw.mem_ge (enc:=cD) (t:=127) (xs:=iP Z 10 f) (k:=k) bG;refine PJ.reH (H':=(b2,oC #[r.val (iP Z 10 f).length] 76)::(r.hp cD 127 (iP Z 10 f)++(l,.loop rec)::fG Dk)) UE ?_;refine Bz (.inl rfl) zI λa W H' hF hS ef aQ=>?_;refine⟨_,by rw[results_tmp results265];exact congrArg (λu=>Result.ok u W) (hF 4 _ rfl),r,rfl,?_,bG,ah,?_⟩
  ·refine(hS.links w0 A0).below λk hk hx=>?_;exact Xm
  cases r with
  |nil=>trivial
  |row b cap sp=>exact hS.own _ (ef (b,aP cD 127 (iP Z 10 f) sp) oW (mC _ oW).1)
 exact Pj
theorem n7o(hZ:FxOk Z)(f:Nat->Int)(hf:er f)(bk bl:Nat)(w0 w:World)(Lu:St Gh.no [w0] [(bl,oC #[ab 0] 3),(bk,oC (dg f) 127)] w)(GY:w0.heap.size<=bk)(yL:w0.heap.size<=bl)(hg:Glb w0):Calls prog 200 #[.func (.func 266) #[] #[ptr bl 0,ptr bk 0]] w (aD w0 cD 32 127 (iP Z 10 f) id):=by
 refine S4 Gh.no [(bl,oC #[ab 0] 3),(bk,oC (dg f) 127)] (vs:=[_]) func200 rfl ntmps200 rfl Lu ?_;refine B 8 ?_;refine nmn (enc:=cD) (m:=32) (t:=127) (xs:=iP Z 10 f) (v:=id) call265 rfl rfl rfl (λW hS=>nRm hZ f hf bk bl w0 W hS GY yL hg) ?_;intro r bG ah;refine B 4 ?_;exact bK (.inl rfl) results200 aX λW hS=>⟨r,rfl,hS.base A0 (Rw.over bG),bG,ah,by cases r with|nil=>exact True.intro|row b cap sp=>exact hS.own _ A0⟩
theorem nmi(hZ:FxOk Z)(f:Nat->Int)(hf:er f)(w:World)(hg:Glb w):Calls prog 136 #[.agg (dg f)] w (aD w cD 32 127 (iP Z 10 f) id):=by
 refine eN func136 ntmps136 ?_;refine NA ?_;refine yW ?_;intro b1 gj jy;refine B 6 ?_;refine B5 (Hz:=[]) (H0:=[(b1,oC (dg f) 127)]) (first:=[]) (cap:=[]) (v:=λp:Nat×Nat=>.func (.func 266) #[] #[ptr p.1 0,ptr p.2 0]) (Hn:=λp=>[(p.1,oC #[ab 0] 3),(p.2,oC (dg f) 127)]) (Φ:=λ_=>True) rfl rfl call201 rfl rfl rfl True.intro (λW hS=>nci f W) ?_;rintro⟨bl,bk⟩-jA;dsimp only at jA ⊢;have yL:w.heap.size<=bl:=by
  rcases jA (bl,_) A0 with h|h
  ·exact absurd h (by simp[keys])
  exact h.1.1
 have GY:w.heap.size<=bk:=by
  rcases jA (bk,_) A1 with h|h
  ·exact absurd h (by simp[keys])
  exact h.1.1
 refine OJ.dropAt (i:=2) rfl zC ?_;refine OJ.reH (H':=[(bl,oC #[ab 0] 3),(bk,oC (dg f) 127)]) rfl ?_;refine nmn (enc:=cD) (m:=32) (t:=127) (xs:=iP Z 10 f) (v:=id) call200 rfl rfl rfl (λW hS=>n7o hZ f hf bk bl w W hS GY yL hg) ?_;intro r bG ah;refine B 4 ?_;exact bK (.inl rfl) results136 aX λW hS=>⟨r,rfl,hS.base A0 (Rw.over bG),bG,ah,by cases r with|nil=>exact True.intro|row b cap sp=>exact hS.own _ A0⟩
theorem S5{g:Gp}(h:jC Z g c=0):c.epoch=g.epoch+1:=by grind [jC,kR]
theorem GZ:oA 512=[512,256,128,64,32,16,8,4,2]:=by simp_all[UA,Xk]
theorem aau:jI 0=[513,257,129,65,33,17,9,5,3]:=by unfold jI;rw[show(512+(0:Int)).toNat=512 from rfl,GZ];rfl
theorem aav:dK 0=[256,128,64,32,16,8,4,2,1]:=by unfold dK;rw[show(512+(0:Int)).toNat=512 from rfl,GZ];rfl
def ve (m:Nat):Prop:=∀e,m≠2^e
theorem ve.of{m:Nat}(a:Nat)(h:2^a<m)(h2:m<2^(a+1)):ve m:=λe he=>by
 subst he;have h3:=(Nat.pow_lt_pow_iff_right (by decide:1<2)).1 h;have h4:=(Nat.pow_lt_pow_iff_right (by decide:1<2)).1 h2;omega
theorem ve.l{m:Nat}(h:ve m)(h0:1<=m):ve (2*m):=λe he=>by
 cases e with
 |zero=>simp at he;omega
 |succ e=>rw[Nat.pow_succ]at he;exact h e aa
theorem ve.r{m:Nat}(h0:1<=m):ve (2*m+1):=λe he=>by
 cases e with
 |zero=>simp at he;omega
 |succ e=>rw[Nat.pow_succ]at he;omega
theorem n0h(p:Int):∀(k m:Nat),1<=m->ve m->fw [(512,p)] k (m:Int)=[]
 |0,_,_,_=>rfl
 |k+1,m,h1,h2=>by
  have hn:¬(bU [((512:Int),p)] (m:Int)).isSome=true:=by
   rw[LX];have:¬(512:Int)=(m:Int):=λe=>h2 9 aa;rw[if_neg this,nEk.2 zI];simp
  by_cases h3:(512:Int)<=(m:Int)
  ·exact nNg hn h3
  rw[nYe hn h3];have e1:=n0h p k (2*m) aa (h2.l h1);have e2:=n0h p k (2*m+1) aa (ve.r h1);rw[show(2*(m:Int))=((2*m:Nat):Int) by omega,show(((2*m:Nat):Int)+1)=((2*m+1:Nat):Int) by omega,e1,e2];rfl
theorem G0{p:Int}(hp:eg p):jQ [⟨512,p⟩]=0:=by
 refine nKl λi x hx=>?_;cases i with
 |succ i=>simp at hx
 |zero=>
  simp only[Js,vM]at hx;subst hx;refine⟨by show(1:Int)<=512;decide,by show(512:Int)<=1023;decide,λy h=>by omega,hp,?_⟩;have hm:eh [⟨512,p⟩]=[0]:=by unfold eh pG eZ;simp[Go.Lib.compact];rfl
  rw[hm];show bU (yH [0]) 512=some true;show bU (XI [] 0) 512=some true;unfold XI;rw[aav];simp[Iw,G1]
theorem nZl(n:Int):ki [] n=[]:=rfl
theorem LY(d:Int):oZ [] d=[]:=by
 unfold oZ;rw[nZl];induction dK d with
 |nil=>rfl
 |cons x l ih=>rw[List.foldl_cons,nZl,ih]
theorem tr0:jQ []=0:=nKl λi x hx=>by simp at hx
theorem OB(hk:ch.kind=1)(hd:ch.dev=0)(hp:eg ch.pub):aW [] [ch]=[⟨512,ch.pub⟩]:=by
 show yP [] ch=_;unfold yP;rw[if_neg aa];unfold mK;rw[if_pos ⟨tr0,hp⟩,hd];show p7 (dD (oZ [] 0) 512 ch.pub)=_;rw[LY];show p7 [(512,ch.pub)]=_;unfold p7 eZ;simp[LX]
theorem ajU{p:Int}(hp:eg p):kM [⟨512,p⟩] 0=[]:=by
 unfold kM qf;rw[List.flatMap_eq_nil_iff];intro t ht;have h9:=tE.1 ht;have key:∀m:Nat,1<=m->m<=1023->ve m->oD [⟨512,p⟩] (m:Int)=[]:=λm h1 h2 h3=>by
  unfold oD;rw[if_pos ⟨G0 hp,by omega,by omega⟩];exact n0h p 10 m h1 h3
 rw[aau];have:oD [⟨512,p⟩] ((([513,257,129,65,33,17,9,5,3]:List Int)[t]?).getD 0)=[]:=by
  rcases(show t=0\/t=1\/t=2\/t=3\/t=4\/t=5\/t=6\/t=7\/t=8 by omega)with rfl|rfl|rfl|rfl|rfl|rfl|rfl|rfl|rfl
  ·exact key 513 zA zA (ve.of 9 zA zA)
  ·exact key 257 zA zA (ve.of 8 zA zA)
  ·exact key 129 zA zA (ve.of 7 zA zA)
  ·exact key 65 zA zA (ve.of 6 zA zA)
  ·exact key 33 zA zA (ve.of 5 zA zA)
  ·exact key 17 zA zA (ve.of 4 zA zA)
  ·exact key 9 zA zA (ve.of 3 zA zA)
  ·exact key 5 zA zA (ve.of 2 zA zA)
  exact key 3 zA zA (ve.of 1 zA zA)
 rw[this];rfl
theorem nql(f:Nat->Int):mw f f=true:=DP f
abbrev gZ (f:Int):Gp:=⟨f,0,λ_=>0,[],[]⟩
theorem S6{f:Int}(hf:qe f):dU (gZ f)=true:=by
 refine Aw.2 ⟨⟨hf,by show(0:Int)<=0;decide,by show(0:Int)<=1099511627776;decide,tr0⟩,?_,?_,rfl⟩
 ·rintro⟨_,h|h⟩
  ·exact absurd h (by show ¬0<0;decide)
  rw[nql]at h;cases h
 unfold eh pG eZ;simp[Go.Lib.compact];rfl
structure G3 (ch:Ch):Prop where
 k:ch.kind=1
 d:ch.dev=0
 p:eg ch.pub
 v:eg ch.ver
 c:ch.cut=0
theorem aaw(h:G3 ch):jL [ch]=true:=by
 refine QB.2 ⟨λi x hi hx=>?_,by show 1<=64;decide⟩;cases i with
 |succ i=>simp at hx
 |zero=>
  simp only[Js,vM]at hx;subst hx;exact⟨⟨.inl ⟨h.k,⟨h.p,h.v⟩,h.c⟩,by rw[h.d];exact⟨by decide,by decide⟩⟩,rfl⟩
theorem mb0(d:Int):ij [] d=false:=by unfold ij;simp
theorem ajW{f:Int}(h:G3 ch):mJ (gZ f) 0 [ch]=true:=by
 unfold mJ Ey;simp[mb0,h.k,h.d]
theorem S7{f:Int}(hf:qe f)(h:G3 ch):fe (gZ f) 0 [ch]=0/\gw (gZ f) 0 [ch]=[]:=by
 have h1:Ax (gZ f) 0 [ch]=true:=by unfold Ax;rw[aaw h,ajW h];rfl
 constructor
 ·unfold fe;rw[if_pos (S6 hf),if_pos h1]
 unfold gw;rw[if_pos ⟨S6 hf,h1⟩,OB h.k h.d h.p];exact ajU h.p
theorem aax(h:G3 ch):mS 0 [ch]=[]:=by
 unfold mS;have:[ch].filter (λx=> !rl 0 x)=[]:=by simp[rl,h.d]
 rw[this];exact n6l
structure od (Z:Fx) (fo:Int) (ch:Ch) (c:Cm):Prop where
 h:G3 ch
 v:ch.ver=(Z.ge 4 300).1
 f:c.folder=fo
 e:c.epoch=1
 p:c.par=λ_=>0
 a:c.author=0
 ct:c.chs=[ch]
 pl:c.path.length=10
 po:∀x∈c.path,eg x
 b:c.bxs=[]
 w:c.wes=[]
 sr:c.sr=qU Z 300 (cx (mP Z c))
 ss:c.ss=vR Z 300 (cx (mP Z c))
theorem od.next(hZ:FxOk Z){f:Int}(hf:qe f)(h:od Z f ch c):jC Z (gZ f) c=0:=by
 have jS:sM c=0:=by
  unfold sM;rw[if_pos];exact⟨by rw[h.f];exact hf,by rw[h.e];decide,by rw[h.e];decide,by rw[h.a];exact⟨by decide,by decide⟩,by rw[h.ct];exact aaw h.h,h.pl,by rw[h.b];decide,by rw[h.w];decide,λi x hx=>h.po x (cO hx),λi x hx=>by rw[h.b]at hx;simp at hx,λi x hx=>by rw[h.w]at hx;simp at hx⟩
 have bM:kR (gZ f) c=true:=by unfold kR;rw[h.f,h.e,h.p];simp[nql]
 have hn:=S7 hf h.h;have hb:uP (gZ f) c=true:=by unfold uP;rw[h.b,h.a,h.ct,hn.2];rfl
 have hw:wo c=true:=by unfold wo;rw[h.w,h.a,h.ct,aax h.h];rfl
 have hs:y9 Z (gZ f) c=true:=by
  unfold y9 kP;rw[if_neg (by rw[mb0];decide),h.ct,h.sr,h.ss];show oT Z ch.ver _ _ _=true;rw[h.v];exact LQ hZ zA _
 have hr:mT (aW [] [ch]) 0=0:=by
  rw[OB h.h.k h.h.d h.h.p];unfold mT;rw[if_pos (G0 h.h.p),if_pos];show(bU (dP [⟨512,ch.pub⟩]) 512).isSome=true;have:dP [⟨512,ch.pub⟩]=[(512,ch.pub)]:=rfl;rw[this,LX,if_pos rfl];rfl
 unfold jC;rw[if_pos (S6 hf),if_pos jS,if_pos bM,h.a,h.ct,if_pos hn.1,if_pos hb,if_pos hw,if_pos hs];exact hr
theorem aay(Z:Fx)(c:Cm):bF Z [c] 1=[(dk (aB Z c),0)]:=by
 show(if dk (aB Z c)∈([]:List (Dk×Int)).map (·.1)then[]else[]++[(dk (aB Z c),((0:Nat):Int))])=_;rw[if_neg zI];rfl
theorem ajX(hZ:FxOk Z)(hi:qe fo.id)(h:od Z fo.id ch c)(hf:dk fo.first=dk (aB Z c)):mf Z [c] fo=[(0,lj Z (gZ fo.id) c)]:=by
 have h1:N9 Z [c] fo=some 0:=by
  unfold N9;rw[show([c]:List Cm).length=1 from rfl,aay,hf];simp[pe]
 have h2:tO Z [c] fo=some 0:=by
  unfold tO;rw[h1];show(if jC Z (gZ fo.id) c=0 then some 0 else none)=some 0;rw[if_pos (h.next hZ hi)]
 have h3:zk Z [c] (0,lj Z (gZ fo.id) c)=[]:=by
  unfold zk AI vy;rw[show([c]:List Cm).length=1 from rfl,aay];have:Fj Z [c] (lj Z (gZ fo.id) c) 0=false:=by
   show(mw c.par _&&decide (jC Z (lj Z (gZ fo.id) c) c=0))=false;have hne:¬jC Z (lj Z (gZ fo.id) c) c=0:=λe=>by
    have h5:=S5 e;have h6:(lj Z (gZ fo.id) c).epoch=c.epoch:=rfl;omega
   rw[decide_eq_false hne,Bool.and_false]
  simp[this]
 unfold mf;rw[h2];show[(0,lj Z (gZ fo.id) c)]++CL Z [c] 1 ([]++zk Z [c] (0,lj Z (gZ fo.id) c))=_;rw[h3];rfl
theorem aaz(hZ:FxOk Z)(hi:qe fo.id)(h:od Z fo.id ch c)(hf:dk fo.first=dk (aB Z c)):gW Z [c] [fo]=[(c,true,aW [] c.chs,lj Z (gZ fo.id) c)]:=by
 show zm Z [c] fo++[]=_;unfold zm;rw[ajX hZ hi h hf];rfl
theorem D1(hZ:FxOk Z)(hi:qe fo.id)(h:od Z fo.id ch c)(hf:dk fo.first=dk (aB Z c)):pw Z [c] [fo] [] []=lG (c,true,aW [] c.chs,lj Z (gZ fo.id) c) 10++[([np (dk (aB Z c)) 9],bE (dk (aB Z c)))]:=by
 unfold pw;rw[aaz hZ hi h hf];show(lH _++[])++[]++[]=_;unfold lH;rw[show(c,true,aW [] c.chs,lj Z (gZ fo.id) c).1=c from rfl,h.b,h.w,h.pl];simp[Oh];exact⟨rfl,rfl⟩
theorem n1h{p:Ap}:∀{n:Nat} {d:List Se×Se},d∈lG p n↔∃k y,k<n/\p.1.path[k]? =some y/\d∈Ls p k y:=
 by intro x;induction x<;>(intros;grind [lG])
theorem S9(p:Ap):∀d∈lH p,d.1≠ []:=by grind [lH,FQ,n1h,Ls,Oh,Lt]
theorem nTj{cs:List Cm}{fos:List Fo}{gs:List Gr}{xs:List Ir}:∀d∈pw Z cs fos gs xs,d.1≠ []:=by
 intro d hd;unfold pw at hd;rcases bj.1 hd with hd|hd
 ·rcases bj.1 hd with hd|hd
  ·obtain⟨p,_,hd⟩:=OC.1 hd;exact S9 p d hd
  obtain⟨g,_,hd⟩:=OC.1 hd;unfold CT at hd;split at hd
  ·split at hd
   ·obtain⟨o,_,hd⟩:=OC.1 hd;unfold LC at hd;split at hd
    ·simp at hd;subst hd;simp
    simp at hd
   simp at hd
  simp at hd
 all_goals grind [IW]
theorem zp.none{D:List (List Se×Se)}(hD:∀d∈D,d.1≠ []){s:Se}(h:zp D [] s):False:=by
 induction h with
 |base h=>simp at h
 |@step d h1 _ ih=>
  cases hd:d.1 with
  |nil=>exact hD d h1 hd
  |cons f l=>exact ih f (by rw[hd];exact .head _)
theorem lk.nil{D:List (List Se×Se)}(hD:∀d∈D,d.1≠ [])(h:lk D [] lim ls):ls=[]:=by
 cases ls with
 |nil=>rfl
 |cons s l=>exact((h.iff s).1 A0).none hD |>.elim
theorem LZ(xs:List Se):∀j,(me xs j).Sublist (xs.take j):=
 by intro x;induction x<;>(intros;grind [me,nq])
theorem L1(xs:List Se):(gF xs).Pairwise (λx y=>lF x y<=0):=by
 rw[List.pairwise_iff_getElem];intro i j hi hj uz;exact nGh CO.ord xs i j _ _ uz (kK hi) (kK hj)
theorem nhj(xs:List Se):(cN xs).Pairwise (λx y=>lF x y<=0):=by
 have h:=LZ (gF xs) (gF xs).length;rw[vS]at h;exact(L1 xs).sublist h
theorem nlj:∀{a b:List Se},a.Perm b->a.Pairwise (λx y=>lF x y<=0)->b.Pairwise (λx y=>lF x y<=0)->(∀s∈a,wO s)->a=b
 | [],b,hp,_,_,_=>(List.Perm.nil_eq hp)
 |x::a,[],hp,_,_,_=>absurd hp.length_eq zI
 |x::a,y::b,hp,ha,hb,hB=>by
  have hxy:x=y:=by
   have h1:=hp.mem_iff.1 (List.mem_cons_self (a:=x) (l:=a));have h2:=hp.mem_iff.2 (List.mem_cons_self (a:=y) (l:=b));rcases bX.1 h1 with h1|h1
   ·exact h1
   rcases bX.1 h2 with h2|h2
   ·exact h2.symm
   have h3:=(List.pairwise_cons.1 ha).1 y h2;have h4:=(List.pairwise_cons.1 hb).1 x h1;have h5:=CO.ord.anti x y;exact nlk (hB x A0) (hB y (.tail _ h2)) aa
  subst hxy;rw[nlj ((List.perm_cons x).1 hp) (List.pairwise_cons.1 ha).2 (List.pairwise_cons.1 hb).2 λs hs=>hB s (.tail _ hs)]
theorem nvn{a b:List Se}(hB:∀s∈a,wO s)(h:∀s,s∈a↔s∈b):cN a=cN b:=
 nlj ((List.perm_ext_iff_of_nodup (Z8 hB) (Z8 λs hs=>hB s ((h s).2 hs))).2 λs=>by rw[CK,CK,h s]) (nhj a) (nhj b) λs hs=>hB s ((CK a s).1 hs)
theorem n7l{a:List Se}(hB:∀s∈a,wO s)(hn:a.Nodup)(hp:a.Pairwise (λx y=>lF x y<=0)):cN a=a:=
 nlj ((List.perm_ext_iff_of_nodup (Z8 hB) hn).2 λs=>CK a s) (nhj a) hp λs hs=>hB s ((CK a s).1 hs)
theorem L2{a:List Se}(hB:∀s∈a,wO s):cN (cN a)=cN a:=by grind [nvn,CK]
theorem aaA:er (fX (dk λ_=>0)):=npi λ_=>⟨by decide,by decide⟩
theorem nVi(p:Int):wO (aS p):=aaA
theorem n6i{d:Dk}(h:er (fX d))(l:Int):wO (np d l):=h
theorem Ta{d:Dk}(h:er (fX d)):wO (bE d):=h
structure vf (Z:Fx) (r:eJ) (c:Cm) (ch:Ch) (fo:Fo):Prop where
 os:r.os=[(0,ch.pub)]
 cs:r.cs=[c]
 fos:r.fos=[fo]
 gs:r.gs=[]
 xs:r.xs=[]
 i:fo.id=6
 ok:od Z 6 ch c
 f:dk fo.first=dk (aB Z c)
theorem vf.pls(hZ:FxOk Z){r:eJ}(h:vf Z r c ch fo):gW Z r.cs r.fos=[(c,true,aW [] c.chs,lj Z (gZ fo.id) c)]:=by
 rw[h.cs,h.fos];exact aaz hZ (by rw[h.i];exact⟨by decide,by decide⟩) (by rw[h.i];exact h.ok) h.f
theorem vf.D(hZ:FxOk Z){r:eJ}(h:vf Z r c ch fo):r.D Z=lG (c,true,aW [] c.chs,lj Z (gZ fo.id) c) 10++[([np (dk (aB Z c)) 9],bE (dk (aB Z c)))]:=by
 unfold eJ.D;rw[h.cs,h.fos,h.gs,h.xs];exact D1 hZ (by rw[h.i];exact⟨by decide,by decide⟩) (by rw[h.i];exact h.ok) h.f
theorem vf.fs0(hZ:FxOk Z){r:eJ}(h:vf Z r c ch fo):r.fs Z 0=[aS ch.pub,np (dk (aB Z c)) 0]:=by
 unfold eJ.fs eJ.fs0;rw[h.pls hZ,h.os];have e:pR [(0,ch.pub)] 0++qG [(c,true,aW [] c.chs,lj Z (gZ fo.id) c)] 0=[aS ch.pub,np (dk (aB Z c)) 0]:=by
  unfold pR qG;simp[h.ok.a];rfl
 rw[e];refine n7l (λs hs=>?_) (by simp[aS,np]) ?_
 ·simp only[bX,dE,or_false]at hs;rcases hs with rfl|rfl
  ·exact nVi _
  exact n6i (npi (hZ.byt _ _)) _
 all_goals grind [de,aS,np,dk,aB,lF,wG]
theorem vf.fs1(hZ:FxOk Z){r:eJ}(h:vf Z r c ch fo):r.fs Z 1=[]:=by
 unfold eJ.fs eJ.fs0;rw[h.pls hZ,h.os];have e:pR [(0,ch.pub)] 1++qG [(c,true,aW [] c.chs,lj Z (gZ fo.id) c)] 1=[]:=by
  unfold pR qG;simp[h.ok.a]
 rw[e,nGf]
structure Rc0 (r:eJ):Prop where
 os:r.os=[]
 cs:r.cs=[]
 fos:r.fos=[]
 gs:r.gs=[]
 xs:r.xs=[]
theorem Rc0.fs{r:eJ}(h:Rc0 r)(Z:Fx)(dv:Int):r.fs Z dv=[]:=by
 unfold eJ.fs eJ.fs0;rw[h.os,h.fos];exact nGf
theorem Rc0.D{r:eJ}(h:Rc0 r)(Z:Fx):r.D Z=[]:=by
 unfold eJ.D pw;rw[h.fos,h.gs,h.xs];rfl
theorem lk.nil0{L0:List Se}(h:lk [] L0 lim ls)(s:Se):s∈ls↔s∈L0:=by
 constructor
 ·intro hs;have:=(h.iff s).1 hs;cases this with
  |base h1=>exact h1
  |step h1 _=>simp at h1
 exact h.l0 s
theorem aj4{k:Se}(hk:wO k)(h:lk [] [k,k] lim ls):cN ls=[k]:=by
 rw[<-n7l (a:=[k]) (by simpa using hk) zI zI];refine nvn (λs hs=>?_) λs=>?_
 ·have:=(h.nil0 s).1 hs;simp at this;subst this;exact hk
 rw[h.nil0 s];simp
theorem vf.ep(hZ:FxOk Z){r:eJ}(h:vf Z r c ch fo):zp (r.D Z) (r.fs Z 0) (bE (dk (aB Z c))):=by
 have hp:∀k:Nat,k<=9->zp (r.D Z) (r.fs Z 0) (np (dk (aB Z c)) (k:Int)):=by
  intro k;induction k with
  |zero=>intro _;exact .base (by rw[h.fs0 hZ];exact .tail _ A0)
  |succ k ih=>
   intro hk;obtain⟨y,hy⟩:=ng c.path k (by rw[h.ok.pl];omega);refine zp.step (d:=([np (dk (aB Z c)) (k:Int)],np (dk (aB Z c)) ((k+1:Nat):Int))) ?_ λf hf=>?_
   ·rw[h.D hZ];refine bj.2 (.inl (n1h.2 ⟨k,y,by omega,hy,?_⟩));unfold Ls;rw[if_pos aa];exact .tail _ A0
   simp at hf;subst hf;exact ih aa
 refine zp.step (d:=([np (dk (aB Z c)) 9],bE (dk (aB Z c)))) (by rw[h.D hZ];simp) λf hf=>?_;all_goals grind
theorem vf.k3(hZ:FxOk Z){r:eJ}(h:vf Z r c ch fo){s:Se}(hs:zp (r.D Z) (r.fs Z 0) s):wO s/\(s.kind=3->s=bE (dk (aB Z c))):=by
 have hB:er (fX (dk (aB Z c))):=npi (hZ.byt _ _);cases hs with
 |base h1=>
  rw[h.fs0 hZ]at h1;simp only[bX,dE,or_false]at h1;rcases h1 with rfl|rfl
  ·exact⟨nVi _,λe=>absurd e (by show ¬(1:Int)=3;decide)⟩
  exact⟨n6i hB _,λe=>absurd e (by show ¬(2:Int)=3;decide)⟩
 |@step d h1 _=>
  rw[h.D hZ]at h1;rcases bj.1 h1 with h1|h1
  ·obtain⟨k,y,_,_,h1⟩:=n1h.1 h1;unfold Ls at h1;rcases bX.1 h1 with rfl|h1
   ·exact⟨nVi _,λe=>absurd e (by show ¬(1:Int)=3;decide)⟩
   split at h1
   ·simp only[bX,dE,or_false]at h1;subst h1;exact⟨n6i hB _,λe=>absurd e (by show ¬(2:Int)=3;decide)⟩
   simp at h1
  simp only[bX,dE,or_false]at h1;subst h1;exact⟨Ta hB,λ_=>rfl⟩
theorem OD{α:Type}{p:α->Bool}{a:α}:∀{l:List α},l.Nodup->a∈l->p a=true->(∀x∈l,p x=true->x=a)->l.filter p=[a]
 | [],_,h,_,_=>by simp at h
 |x::l,hn,h,hp,hu=>by
  rw[List.nodup_cons]at hn;rcases bX.1 h with rfl|h
  ·rw[List.filter_cons,if_pos hp];congr 1;rw[List.filter_eq_nil_iff];intro y hy hpy;have:=hu y (.tail _ hy) hpy;subst this;exact hn.1 hy
  have hx:¬p x=true:=λGt=>by
   have:=hu x A0 Gt;subst this;exact hn.1 h
  rw[List.filter_cons,if_neg hx];exact OD hn.2 h hp λy hy=>hu y (.tail _ hy)
theorem vf.epL(hZ:FxOk Z){r:eJ}(h:vf Z r c ch fo)(hl:lk (r.D Z) (r.fs Z 0) lim ls):epL (cN ls)=[dk (aB Z c)]:=by
 have hB:∀s∈ls,wO s:=λs hs=>(h.k3 hZ ((hl.iff s).1 hs)).1;unfold Px.epL;rw[OD (a:=bE (dk (aB Z c))) (Z8 hB) ((n7f hl _).2 (h.ep hZ)) rfl λx hx hk=>(h.k3 hZ ((n7f hl x).1 hx)).2 (by simpa using hk)];rfl
theorem vf.why(hZ:FxOk Z){r:eJ}(h:vf Z r c ch fo)(hl:lk (r.D Z) (r.fs Z 0) lim ls):ls[0]? =some (aS ch.pub):=by
 have h1:=hl.pf;have h2:cN (r.fs Z 0)=r.fs Z 0:=by
  have hd:∀s∈r.fs0 Z 0,wO s:=λs hs=>(h.k3 hZ (.base (by unfold eJ.fs;rw[CK];exact hs))).1;unfold eJ.fs;exact L2 hd
 rw[h2,h.fs0 hZ]at h1;obtain⟨t,ht⟩:=h1;rw[<-ht];rfl
def zu (ca:Option Addr) (cc:Nat) (pv:Value) (cf:Nat->Int) (sr ss:Int):Array Value:=(ab 6::ab 1::tz (ab 0:: .slice ca 1 cc::pv::aj::aj::lU cf [ab sr,ab ss])).toArray
def pT (ca:Option Addr) (cc:Nat) (ch:Ch) (path:List Int) (pa:Option Addr) (pc:Nat) (cf:Nat->Int) (sr ss:Int):Cm:=⟨6,1,λ_=>0,0,[ch],ca,cc,path,pa,pc,[],none,0,[],none,0,cf,sr,ss⟩
theorem nLh{ca:Option Addr}{cc:Nat}{path:List Int}{pa:Option Addr}{pc:Nat}{cf:Nat->Int}{sr ss:Int}(hc:G3 ch)(hl:path.length=10)(hp:∀x∈path,eg x)(hf:er cf)(h1:kf sr)(h2:kf ss):bO (pT ca cc ch path pa pc cf sr ss):=by
 refine⟨⟨λ_=>⟨by show(0:Int)<=0;decide,by show(0:Int)<256;decide⟩,hf,by show 1<=10;decide,by show path.length<=12;omega,by show 0<=40;decide,by show 0<=10;decide,λx hx=>(by simp[pT]at hx),λx hx=>(by simp[pT]at hx)⟩,?_⟩;have Fm:=hc.p;have hv1:=hc.v;have CU:V.fineL (path.map V.int):=by
  clear hl;induction path with
  |nil=>simp[V.fineL]
  |cons x l ih=>
   rw[dy];have:=hp x A0;unfold V.fineL;exact⟨by simp only[V.fine];omega,ih λy hy=>hp y (.tail _ hy)⟩
 have hpd:V.depthL (path.map V.int)<=1000000000:=by
  clear hl hp CU;induction path with
  |nil=>simp[V.depthL]
  |cons x l ih=>rw[dy];simp only[V.depthL,V.depth];omega
 have ht:∀f:Nat->Int,(qg (cx f)).size=32:=λf=>by rw[EE,nH]
 unfold mM pT;simp only[V.fineL,V.fine,dy,eV,BN,V.depthL,V.depth,ht,dF,fh,eQ,hl,CU,hc.k,hc.d,hc.c];all_goals grind
theorem aj6(f:Int)(ch:Ch):kP (gZ f) 0 [ch]=ch.ver:=by unfold kP;rw[if_neg (by rw[mb0];decide)];rfl
theorem n2g(hZ:FxOk Z){k:Int}(hk:Db k)(w:World):Calls prog 79 #[ab k] w (aL w (.tuple #[ab (Z.ge 4 k).1,ab 0])):=by
 have h:=ngn k w;have e:qP (Jm k)= .tuple #[ab (Z.ge 4 k).1,ab 0]:=by
  rw[<-hZ.ge,Ng hk];unfold Jm qP;rw[if_pos hk]
 rwa[e]at h
theorem G4(hZ:FxOk Z)(f:Nat->Int)(s:ByteArray):Db (VD Z f s):=hZ.bd _ _
end Px
