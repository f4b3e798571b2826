/- Contracts of functions of the program. No condition beyond those stated. -/
import Derived.Test.YtodpaegknpbomaaGreatDoorKg
import Derived.Test.YtodpaegknpbomaaGreatDoorProg
set_option linter.unusedSimpArgs false
set_option linter.unusedVariables false
set_option linter.unusedSectionVars false
set_option linter.unnecessarySimpa false
set_option maxRecDepth 20000
set_option maxHeartbeats 8000000
namespace Px
open Go Go.RowKit Go.Proofs Go.Proofs.Tryz
section
variable {C:Cx} {Q:aZ} {E:Env} {D:List Deferred} {L:List World} {H F:ad}
theorem PJ.unfz{e:Exit}(k:PJ C Q e E D Gh.no L H):PJ C Q e E D (dI F) L H:=λa W hN hD hF hS=>k a W hN hD hF hS.unfz
end
abbrev Ow:=Int×Int
def owA (x:Ow):Array Value:=#[ab x.1,ab x.2]
structure Rcd where
 fa:Option Addr
 fos:List Fo
 fc:Nat
 oa:Option Addr
 os:List Ow
 oc:Nat
 la:Option Addr
 cs:List Cm
 lc:Nat
 ga:Option Addr
 gs:List Gr
 gc:Nat
 ia:Option Addr
 xs:List Ir
 ic:Nat
 o5:Value
 o6:Value
 o7:Value
def rdA (r:Rcd):Array Value:=#[.slice r.fa r.fos.length r.fc,.slice r.oa r.os.length r.oc,.slice r.la r.cs.length r.lc,.slice r.ga r.gs.length r.gc,.slice r.ia r.xs.length r.ic,r.o5,r.o6,r.o7]
structure jl (r:Rcd):Prop where
 fl:r.fos.length<=10
 ol:r.os.length<=20
 cl:r.cs.length<=10
 cg:∀c∈r.cs,bP c
 gl:r.gs.length<=10
 gg:∀g∈r.gs,pe g
 il:r.xs.length<=10
 ii:∀x∈r.xs,IrGood x
structure fP (N:Nat) (w:World) (r:Rcd):Prop where
 f:ai sR 33 N w r.fa r.fos
 o:ai owA 2 N w r.oa r.os
 c:ai cG 73 N w r.la r.cs
 C:∀c∈r.cs,dm N w c
 g:ai grA 39 N w r.ga r.gs
 G:∀g∈r.gs,GrAt N w g
 i:ai irA 68 N w r.ia r.xs
 I:∀x∈r.xs,ByAt N w x.ba x.body
variable {ch:Ch} {c:Cm} {R:Ending->World->Prop} {fo:Fo} {Z:Fx} {G:Gh} {H:ad} {a:Int} {D0:List (List Se×Se)} {ls:List Se} {vs:List Value} {L:List World} {j lim:Nat} {P:Program} {w:World}
theorem fP.up{N N':Nat}{w':World}{r:Rcd}(h:fP N w r)(hN:N<=N')(hw:∀k,k<N->w'.heap[k]? =w.heap[k]?):fP N' w' r:=
 ⟨h.f.up hN hw,h.o.up hN hw,h.c.up hN hw,λc hc=>(h.C c hc).up hN hw,h.g.up hN hw,λg hg=>(h.G g hg).up hN hw,h.i.up hN hw,λx hx=>(h.I x hx).up hN hw⟩
noncomputable def Rcd.D (r:Rcd) (Z:Fx):List (List Se×Se):=mP Z r.cs r.fos r.gs r.xs
def pL (os:List Ow) (dv:Int):List Se:=(os.filter λo=>decide (o.1=dv)).map λo=>aS o.2
def si (ps:List Ap) (dv:Int):List Se:=(ps.filter λp=>decide (p.1.author=dv)).map λp=>nq (dk p.2.2.2.last) 0
noncomputable def Rcd.fs0 (r:Rcd) (Z:Fx) (dv:Int):List Se:=pL r.os dv++si (iE Z r.cs r.fos) dv
noncomputable def Rcd.fs (r:Rcd) (Z:Fx) (dv:Int):List Se:=cA (r.fs0 Z dv)
theorem nIj{os:List Ow}{dv:Int}{o:Ow}(h:os[j]? =some o)(e:o.1=dv):pL (os.take (j+1)) dv=pL (os.take j) dv++[aS o.2]:=by unfold pL;rw[np h,List.filter_append];simp[e]
theorem nWl{os:List Ow}{dv:Int}{o:Ow}(h:os[j]? =some o)(e:¬o.1=dv):pL (os.take (j+1)) dv=pL (os.take j) dv:=by unfold pL;rw[np h,List.filter_append];simp[e]
theorem nuj{pls:List Pl}{dv:Int}{p:Pl}(h:pls[j]? =some p)(e:p.c.author=dv):si ((pls.take (j+1)).map bC) dv=si ((pls.take j).map bC) dv++[nq (dk p.x.g.last) 0]:=by simp_all[si,np,bC]
theorem nrm{pls:List Pl}{dv:Int}{p:Pl}(h:pls[j]? =some p)(e:¬p.c.author=dv):si ((pls.take (j+1)).map bC) dv=si ((pls.take j).map bC) dv:=by simp_all[si,np,bC]
theorem nwj(os:List Ow)(dv:Int):(pL os dv).length<=os.length:=by unfold pL;rw[eG];exact Q8 _ _
theorem n1j(ps:List Ap)(dv:Int):(si ps dv).length<=ps.length:=by unfold si;rw[eG];exact Q8 _ _
inductive zw (D:List (List Se×Se)) (L0:List Se):Se->Prop
 |base {s:Se}:s∈L0->zw D L0 s
 |step {d:List Se×Se}:d∈D->(∀f∈d.1,zw D L0 f)->zw D L0 d.2
theorem kJ.iff{L0:List Se}(h:kJ D0 L0 lim ls)(s:Se):s∈ls↔zw D0 L0 s:=by
 constructor
 ·intro hs;obtain⟨i,hi⟩:=kA.1 hs;clear hs;induction i using Nat.strongRecOn generalizing s with
  |_ i ih=>
   rcases h.ord i s hi with h1|⟨d,h1,h2,h3⟩
   ·exact .base h1
   rw[<-h2];refine .step h1 λf hf=>?_;obtain⟨j,hj⟩:=kA.1 (h3 f hf);have hl:=nr hj;rw[kQ]at hl;rw[QX aa]at hj;exact ih j aa f hj
 intro hs;induction hs with
 |base h1=>exact h.l0 _ h1
 |step h1 _ ih=>exact h.cl _ h1 ih
theorem zw.mono{D D':List (List Se×Se)}{L L':List Se}(hD:∀d∈D,d∈D')(hL:∀s∈L,s∈L'){s:Se}(h:zw D L s):zw D' L' s:=by
 induction h with
 |base h1=>exact .base (hL _ h1)
 |step h1 _ ih=>exact .step (hD _ h1) ih
theorem ndg{L0:List Se}(h:kJ D0 L0 lim ls)(s:Se):s∈cA ls↔zw D0 L0 s:=(CU _ _).trans (h.iff s)
theorem n6f(hZ:FxOk Z)(r:Rcd)(hr:jl r)(N:Nat)(w:World)(hN:N<=w.heap.size)(hrA:fP N w r)(hg:Glb w)(a0 a1:Addr)(hse:Sen w a0 a1)(qa:Option Addr)(L0:List Se)(qc:Nat)(SN:L0.length<=50000)(LL:ai seA 35 N w qa L0):Calls prog 26 #[.agg (rdA r),.slice qa L0.length qc] w (cN w (λq:(Option Addr×Nat)×List Se=>.slice q.1.1 q.2.length q.1.2) (λq w1=>ai seA 35 w1.heap.size w1 q.1.1 q.2/\kJ (r.D Z) L0 71000 q.2/\q.2.length<=q.1.2)):=
 npp hZ r.cs (dG hr.cl zB) hr.cg N r.la r.lc w hN hrA.c hrA.C r.fa r.fos r.fc hr.fl hr.cl hrA.f r.ga r.gs r.gc hr.gl hrA.g hr.gg hrA.G r.ia r.xs r.ic hr.il hrA.i hr.ii hrA.I _ r.o5 r.o6 r.o7 hg a0 a1 hse qa L0 qc SN LL
theorem nQe(hZ:FxOk Z)(r:Rcd)(hr:jl r)(N:Nat)(w:World)(hN:N<=w.heap.size)(hrA:fP N w r)(hg:Glb w)(dv:Int):Calls prog 11 #[.agg (rdA r),ab dv] w (aD w dJ 35 35 (r.fs Z dv) id):=by
 have hg4:=hg.lt;have xF:=hr.ol;refine nB (dI []) [] (vs:=[_,_]) func11 rfl ntmps11 rfl (N0 w) ?_;refine B 2 ?_;refine yX ?_;intro b2 w2 da bW eU dx dq;refine B 7 ?_;refine ax (.slice r.oa r.os.length r.oc) ?_;refine B 5 ?_;refine CJ.loop (α:=Rw×Nat) (λp=>[(1,ab dv),(2,ptr b2 0),(4,p.1.val (pL (r.os.take p.2) dv).length),(10,.slice r.oa r.os.length r.oc),(11,ab (r.os.length:Int)),(12,ab (p.2:Int))]) (λp=>p.1.hp dJ 35 (pL (r.os.take p.2) dv)++[]) (λp=>[w2,w]) (λp=>dI []) (λp=>p.2<=r.os.length/\p.1.Fr (dI []) [w2,w]/\p.1.Fit 35 (pL (r.os.take p.2) dv)) (λp=>r.os.length-p.2) (.nil,0) ⟨cV _,True.intro,rfl⟩ zR rfl rfl zJ ?_;rintro⟨ro,j⟩ ⟨hj,aK,ah⟩;dsimp only at hj aK ah ⊢;have bH:ro.ge w2.heap.size:=Rw.ge_fz aK A0;refine B 6 ?_;refine aG ?_ ?_
 ·intro ar;refine B 5 ?_;have Gu:=hrA.o;obtain⟨bo,oo,cs0,to,fG,gU,fH,cJ,aW⟩:=Gu.get aa;obtain⟨o,ho⟩:=ng r.os j aa;rw[gU];refine B 2 ?_;refine ax (.agg (owA o)) ?_;refine B 1 ?_;refine yW ?_;intro b6 jD qu;refine B 6 ?_;refine ax (ab o.1) ?_;refine B 4 ?_;refine aG ?_ ?_
  ·intro aN;refine B 3 ?_;refine ax (ab o.2) ?_;refine zme ?_;refine IS ?_;refine yW ?_;intro kZ P4 P5;refine jS (r:=ro) (xs:=(pL (r.os.take j) dv)) (zs:=[(aS o.2)]) (enc:=dJ) (m:=35) (H0:=[(kZ,oC (seA (aS o.2)) 35),(b6,oC (owA o) 71)]) (H1:=[]) zX Of nu rfl rfl rfl rfl (bO.one (z:=aS o.2) nu IQ underlying38 (bB.own (i:=0) rfl)) ah aK zJ (by have h9:=nwj (r.os.take j) dv;rw[kQ]at h9;simp only[dC,fb];omega) ?_;intro b25 P6 P7 yF yG;replace yF:=yb yF;refine CH ?_;refine PJ.again (Rw.row b25 P6 P7,j+1) ⟨by dsimp only;omega,yF.elim (λh=>Rw.Fr_at aK h) (λh=>.inr h),by dsimp only;rw[nIj ho eC];exact yG⟩ zW ⟨rfl,rfl,by dsimp only;rw[nIj ho eC];rfl,rfl,rfl,rfl,trivial⟩ (by dsimp only;rw[nIj ho eC];rfl) rfl zJ
  intro aN;refine xx ?_;refine PJ.again (ro,j+1) ⟨by dsimp only;omega,aK,by dsimp only;rw[nWl ho eC];exact ah⟩ zW ⟨rfl,rfl,by dsimp only;rw[nWl ho eC];rfl,rfl,rfl,rfl,trivial⟩ (by dsimp only;rw[nWl ho eC];rfl) rfl zJ
 intro ar;refine B 7 ?_;have cx:r.os.take j=r.os:=jO aa;rw[cx]at ah ⊢;have how:=nwj r.os dv;refine B 1 ?_;refine ax (.agg (rdA r)) ?_;refine Vb (γ:=(Option Addr×Nat)×List Pl) (v:=λq=>.slice q.1.1 q.2.length q.1.2) (Φ:=λF' q=>q.2.map bC=iE Z r.cs r.fos/\(∀p∈q.2,Ln F' p/\p.c∈r.cs)/\q.2.length<=100/\ll (λx=>(zt x).toArray) 111 F' q.1.1 q.2) call30 rfl rfl rfl (λW hS=>?_) ?_
 ·have Yg:=hrA.up (ak _) (hS.same A1 hN zI zH);exact nQh hZ r.cs (dG hr.cl zB) hr.cg N r.la r.lc W cM Yg.c Yg.C r.fa r.fos r.fc hr.fl hr.cl Yg.f _ _ _ r.o5 r.o6 r.o7 (hg.old hS A1 zI zH)
 rintro⟨⟨pa,xN⟩,pls⟩ F1 ⟨rV,C3,im,xO⟩ zj;dsimp only at rV C3 im xO ⊢;have xO:ll kh 111 F1 pa pls:=xO;obtain⟨F,Z5⟩:∃F,F1++[]=F:=⟨_,rfl⟩;rw[Z5];have xO:ll kh 111 F pa pls:=xO.mono (λq hq=>Z5▸bA.2 (.inl hq));have iy:ro.Fr (dI F) [w2,w]:=by
  cases ro with
  |nil=>trivial
  |row b c sp=>exact aK.elim (λh=>h.elim) .inr
 refine B 5 ?_;refine CJ.loop (α:=Rw×Nat) (λp=>[(1,ab dv),(4,p.1.val (pL r.os dv++si ((pls.take p.2).map bC) dv).length),(28,.slice pa pls.length xN),(29,ab (pls.length:Int)),(30,ab (p.2:Int))]) (λp=>p.1.hp dJ 35 (pL r.os dv++si ((pls.take p.2).map bC) dv)++[]) (λp=>[w2,w]) (λp=>dI F) (λp=>p.2<=pls.length/\p.1.Fr (dI F) [w2,w]/\p.1.Fit 35 (pL r.os dv++si ((pls.take p.2).map bC) dv)) (λp=>pls.length-p.2) (ro,0) ⟨cV _,iy,by dsimp only;rw[show si ((pls.take 0).map bC) dv=[]from rfl,dV];exact ah⟩ ⟨rfl,by dsimp only;rw[show si ((pls.take 0).map bC) dv=[]from rfl,dV];rfl,rfl,rfl,rfl,trivial⟩ (by dsimp only;rw[show si ((pls.take 0).map bC) dv=[]from rfl,dV (pL r.os dv)]) rfl zJ ?_;rintro⟨ro,i⟩ ⟨hi,aK,ah⟩;dsimp only at hi aK ah ⊢;have bH:ro.ge w2.heap.size:=Rw.ge_fz aK A0;refine B 6 ?_;refine aG ?_ ?_
 ·intro dc;refine B 5 ?_;obtain⟨bp,op,csp,tp,frp,Vu,Cr,hcp⟩:=xO.get aa;obtain⟨p,hp⟩:=ng pls i aa;refine B 1 ?_;refine zEd ?_;refine B 1 ?_;refine yW ?_;intro b8 Ik Il;refine B 7 ?_;refine ax (ab p.c.author) ?_;refine B 4 ?_;refine aG ?_ ?_
  ·intro jo;refine B 4 ?_;refine Vp ?_;refine zhe ?_;refine IS ?_;refine yW ?_;intro b44 an2 an3;refine jS (r:=ro) (xs:=(pL r.os dv++si ((pls.take i).map bC) dv)) (zs:=[(nq (dk p.x.g.last) 0)]) (enc:=dJ) (m:=35) (H0:=[(b44,oC (seA (nq (dk p.x.g.last) 0)) 35),(b8,oC (kh p) 92)]) (H1:=[]) zX Of nu rfl rfl rfl rfl (bO.one (z:=nq (dk p.x.g.last) 0) nu IQ underlying38 (bB.own (i:=0) rfl)) ah aK zJ (by have h9:=n1j ((pls.take i).map bC) dv;rw[eG,kQ]at h9;simp only[ck,dC,fb];omega) ?_;intro b45 ajL ajM SU SV;replace SU:=yb SU;refine CH ?_;refine PJ.again (Rw.row b45 ajL ajM,i+1) ⟨by dsimp only;omega,SU.elim (λh=>Rw.Fr_at aK h) (λh=>.inr h),by dsimp only;rw[nuj hp eC,<-iP];exact SV⟩ zW ⟨rfl,by dsimp only;rw[nuj hp eC,<-iP];rfl,rfl,rfl,rfl,trivial⟩ (by dsimp only;rw[nuj hp eC,<-iP];rfl) rfl zJ
  intro jo;refine xx ?_;refine PJ.again (ro,i+1) ⟨by dsimp only;omega,aK,by dsimp only;rw[nrm hp eC];exact ah⟩ zW ⟨rfl,by dsimp only;rw[nrm hp eC];rfl,rfl,rfl,rfl,trivial⟩ (by dsimp only;rw[nrm hp eC];rfl) rfl zJ
 intro dc;refine B 6 ?_;have EP:pls.take i=pls:=jO aa;rw[EP,rV]at ah ⊢;have sD:=n1j (iE Z r.cs r.fos) dv;have an4:(iE Z r.cs r.fos).length<=100:=by rw[<-rV,eG];exact im
 refine B 2 ?_;refine Iv (enc:=dJ) (m:=35) (t:=35) (xs:=r.fs Z dv) (v:=id) (first:=[]) (cap:=[]) rfl call32 rfl rfl rfl (λW hS=>?_) ?_
 ·obtain⟨a9,c9,e9,h9⟩:=ro.sl (enc:=dJ) (t:=35) (N:=W.heap.size) (w:=W) nu ah (by
   cases ro with
   |nil=>trivial
   |row b c sp=>exact hS.own (b,_) oR) (ak _)
  have h8:=nCg (r.fs0 Z dv) (by unfold Rcd.fs0;rw[ck];omega) W.heap.size a9 c9 W (ak _) h9;have e8:(Value.slice a9 (r.fs0 Z dv).length c9)=ro.val (pL r.os dv++si (iE Z r.cs r.fos) dv).length:=e9.symm;rw[e8]at h8;exact h8
 intro r9 SX GQ;have mL:r9.ge w2.heap.size:=Rw.ge_fz SX A0;refine B 4 ?_;refine PJ.unfz ?_;exact nP (H0:=[]) (H1:=_) (r:=r9) (.inl rfl) results11 bj A1 (by refine nD.2 ⟨Rw.over (Rw.ge_mono mL aa),?_⟩;rw[dV];exact Rw.over (Rw.ge_mono bH aa)) rfl GQ (Rw.ge_mono mL aa) rfl
theorem nhe(hZ:FxOk Z)(r:Rcd)(hr:jl r)(N:Nat)(w:World)(hN:N<=w.heap.size)(hrA:fP N w r)(hg:Glb w)(a0 a1:Addr)(hse:Sen w a0 a1)(qa:Option Addr)(L0:List Se)(qc:Nat)(SN:L0.length<=50000)(LL:ai seA 35 N w qa L0):Calls prog 15 #[.agg (rdA r),.slice qa L0.length qc] w (λe w'=>∃ls,kJ (r.D Z) L0 71000 ls/\aD w dJ 35 35 (cA ls) id e w'):=by
 refine eN func15 ntmps15 ?_;refine B 2 ?_;refine yX ?_;intro b2 w2 da bW eU dx dq;refine B 5 ?_;refine ax (.agg (rdA r)) ?_;refine B 1 ?_;refine nv (α:=(Option Addr×Nat)×List Se) (v:=(λq:(Option Addr×Nat)×List Se=>.slice q.1.1 q.2.length q.1.2)) (Φ:=λW q w1=>ai seA 35 w1.heap.size w1 q.1.1 q.2/\kJ (r.D Z) L0 71000 q.2/\q.2.length<=q.1.2) call26 rfl rfl rfl (λW hS=>n6f hZ r hr N W cM (hrA.up (ak _) hS.sm) (hg.old hS A1 zI trivial) a0 a1 (hse.old hS A1) qa L0 qc SN (LL.up (ak _) hS.sm)) ?_;rintro Wq ⟨⟨OA,I2⟩,ls⟩ wq BT QN ⟨mQ,lT,Ip⟩;dsimp only at mQ lT Ip ⊢;have SY:=lT.ln;refine Iv (enc:=dJ) (m:=35) (t:=35) (xs:=cA ls) (v:=id) (first:=[]) (cap:=[]) rfl call32 rfl rfl rfl (λW hS=>nCg ls aa wq.heap.size OA I2 W (hS.links wq A0).size (mQ.up (ak _) (hS.same A0 (ak _) zI trivial))) ?_;intro r9 SX GQ;have mL:r9.ge w.heap.size:=Rw.ge_of SX A2;refine B 4 ?_;exact bM (.inl rfl) results15 bj λW hS=>⟨ls,lT,r9,rfl,hS.base A2 (by rw[dV];exact Rw.over mL),mL,GQ,by cases r9 with|nil=>exact True.intro|row b cap sp=>exact hS.own _ A0⟩
theorem n3h(hZ:FxOk Z)(r:Rcd)(hr:jl r)(N:Nat)(w:World)(hN:N<=w.heap.size)(hrA:fP N w r)(hg:Glb w)(a0 a1:Addr)(hse:Sen w a0 a1)(dv:Int)(s:Se)(jV:(r.fs Z dv).length<=200):Calls prog 10 #[.agg (rdA r),ab dv,de s] w (cN w (λb:Bool=>.bool b) (λb _=>∃ls,kJ (r.D Z) (r.fs Z dv) 71000 ls/\b=decide (s∈ls))):=by
 refine eN func10 ntmps10 ?_;refine B 2 ?_;refine yX ?_;intro b3 w3 hb3 cK fF ez eP;refine yX ?_;intro b5 w5 CG Xe hz5 so sq;refine B 4 ?_;refine eS 6 3 [4] (sp:=[some (.agg (rdA r)),some (.agg (rdA r)),_,_,_,some (de s)]) (h:=?_);intro _ _ hk;refine zRd ?_;intro Wf af cf wf hSf hBf zx OB;refine zG ?_;intro _ _ hk;have OC:ai seA 35 wf.heap.size wf af (r.fs Z dv):=zx;refine zed ?_;rintro Wq ⟨⟨OA,I2⟩,ls⟩ wq BT QN ⟨mQ,lT,Ip⟩;dsimp only at mQ lT Ip ⊢;refine zE ?_;have SY:=lT.ln;refine call (v:=.bool (decide (s∈ls))) call28 rfl rfl rfl (λW hS=>ndn ls aa wq.heap.size OA I2 W (hS.links wq A0).size (mQ.up (ak _) (hS.same A0 (ak _) zI trivial)) s) ?_;refine B 4 ?_;refine rS (decide (s∈ls)) results10 rfl A4 rfl ?_;exact λW hS=>⟨ls,lT,rfl⟩
theorem GR(hZ:FxOk Z)(r:Rcd)(hr:jl r)(N:Nat)(w:World)(hN:N<=w.heap.size)(hrA:fP N w r)(hg:Glb w)(a0 a1:Addr)(hse:Sen w a0 a1)(dv:Int)(s:Se)(jV:(r.fs Z dv).length<=200):Calls prog 9 #[.agg (rdA r),ab dv,de s] w (cN w (λq:((Option Addr×Nat)×List Se)×Bool=>.tuple #[.slice q.1.1.1 q.1.2.length q.1.1.2,.bool q.2]) (λq w1=>ai seA 35 w1.heap.size w1 q.1.1.1 q.1.2/\q.1.2.length<=q.1.1.2/\∃ls,kJ (r.D Z) (r.fs Z dv) 71000 ls/\((s∉ls/\q.1.2=[]/\q.2=false)\/∃j,ls[j]? =some s/\q.1.2=ls.take (j+1)/\q.2=true))):=by
 refine eN func9 ntmps9 ?_;refine B 2 ?_;refine yX ?_;intro b3 w3 hb3 cK fF ez eP;refine yX ?_;intro b5 w5 CG Xe hz5 so sq;refine B 5 ?_;refine eS 4 3 [] (sp:=[some (.agg (rdA r)),some (.agg (rdA r)),_,_]) (h:=?_);intro _ _ hk;refine zRd ?_;intro Wf af cf wf hSf hBf zx OB;refine zE ?_;have OC:ai seA 35 wf.heap.size wf af (r.fs Z dv):=zx;refine zed ?_;rintro Wq ⟨⟨OA,I2⟩,ls⟩ wq BT QN ⟨mQ,lT,Ip⟩;dsimp only at mQ lT Ip ⊢;have SY:=lT.ln;refine B 6 ?_;refine ax (de s) ?_;refine call (v:=ab (FF ls (λy=>decide (s=y)))) call27 rfl rfl rfl (λW hS=>nJl ls aa wq.heap.size OA I2 W (hS.links wq A0).size (mQ.up (ak _) (hS.same A0 (ak _) zI trivial)) s) ?_;refine B 5 ?_;have CW:=nGl (λy=>decide (s=y)) ls;obtain⟨ix,ajQ⟩:∃ix,FF ls (λy=>decide (s=y))=ix:=⟨_,rfl⟩;rw[ajQ]at CW ⊢;refine B 5 ?_;refine aG ?_ ?_
 ·intro ar;refine B 8 ?_;refine bM (.inl rfl) results9 bj λW hS=>?_;refine⟨(((none,0),[]),false),rfl,hS.base A4 trivial,.inl rfl,ak _,ls,lT,.inl ⟨λhm=>?_,rfl,rfl⟩⟩;rcases CW with⟨_,h2⟩|⟨j,x,h1,_⟩
  ·have:=h2 s hm;simp at this
  omega
 intro ar;refine B 3 ?_;obtain⟨j,y,rfl,hy,xt,_⟩:=CW.resolve_left (λh=>by have:=h.1;omega);obtain rfl:s=y:=by simpa using xt
 have Cw:=nr hy;obtain⟨bo,oo,cs0,to,fG,rfl,fH,cJ,aW⟩:=mQ.get aa;refine B 3 ?_;refine ax (ab ((j+1:Nat):Int)) ?_;refine rq (.slice (some ⟨bo,oo,none⟩) (ls.take (j+1)).length I2) (fk (h:=j+1) underlying38 sizeOf35 rfl ⟨_,_,rfl,rfl⟩ aa) Yy ?_;refine B 5 ?_;refine bM (.inl rfl) results9 bj λW hS=>?_;refine⟨((((some ⟨bo,oo,none⟩),I2),ls.take (j+1)),true),rfl,hS.base A4 trivial,?_,by dsimp only;rw[kQ];omega,ls,lT,.inr ⟨j,hy,rfl,rfl⟩⟩;have h9:=hS.old A0 cJ zL trivial;exact .inr ⟨bo,oo,cs0,to,fG,rfl,(aT.1 h9).1,h9,λi hi=>by rw[kQ]at hi;rw[List.getElem_take];exact aW i aa⟩
def epL (l:List Se):List Dk:=(l.filter λs=>decide (s.kind=3)).map λs=>s.com
theorem nHj{l:List Se}{s:Se}(h:l[j]? =some s)(e:s.kind=3):epL (l.take (j+1))=epL (l.take j)++[s.com]:=by unfold epL;rw[np h,List.filter_append];simp[e]
theorem nim{l:List Se}{s:Se}(h:l[j]? =some s)(e:¬s.kind=3):epL (l.take (j+1))=epL (l.take j):=by unfold epL;rw[np h,List.filter_append];simp[e]
theorem LN(l:List Se):(epL l).length<=l.length:=by unfold epL;rw[eG];exact Q8 _ _
theorem nEp(hZ:FxOk Z)(r:Rcd)(hr:jl r)(N:Nat)(w:World)(hN:N<=w.heap.size)(hrA:fP N w r)(hg:Glb w)(a0 a1:Addr)(hse:Sen w a0 a1)(dv:Int)(jV:(r.fs Z dv).length<=200):Calls prog 21 #[.agg (rdA r),ab dv] w (λe w'=>∃ls,kJ (r.D Z) (r.fs Z dv) 71000 ls/\aD w cD 32 33 (epL (cA ls)) id e w'):=by
 refine eN func21 ntmps21 ?_;refine B 2 ?_;refine yX ?_;intro b2 w2 da bW eU dx dq;refine B 5 ?_;refine eS 7 3 [4,5] (sp:=((some (.agg (rdA r)))::(some (.agg (rdA r)))::_)) (h:=?_);intro _ _ hk;refine nG (enc:=dJ) (m:=35) (t:=35) (xs:=(r.fs Z dv)) (v:=id) (first:=[]) (cap:=[]) rfl call11 rfl rfl rfl nu (λW hS=>nQe hZ r hr N W cM (hrA.up (ak _) hS.sm) (hg.old hS A1 zI trivial) dv) ?_;intro Wf af cf wf hSf hBf zx OB;refine zG ?_;intro _ _ hk;have OC:ai seA 35 wf.heap.size wf af (r.fs Z dv):=zx;refine LO (enc:=dJ) (m:=35) (t:=35) (v:=id) (Φ:=λ_ _ zs=>∃ls,kJ (r.D Z) (r.fs Z dv) 71000 ls/\zs=cA ls) call15 rfl rfl rfl nu (λW hS=>(nhe hZ r hr W.heap.size W (ak _) (hrA.up cM hS.sm) (hg.old hS A2 zI trivial) a0 a1 (hse.old hS A2) af (r.fs Z dv) cf aa (zx.up (hS.links wf A0).size (hS.same A0 (ak _) zI trivial))).mono ?_) ?_
 ·rintro e w' ⟨ls,h1,h2⟩;exact⟨cA ls,⟨ls,h1,rfl⟩,h2⟩
 rintro Wq zs OA I2 wq BT QN ⟨ls,lT,rfl⟩ mQ NV;refine zG ?_;intro _ _ hk;refine B 1 ?_;refine zE ?_;have SY:=lT.ln;have ajT:=Lg ls;obtain⟨zs,tB⟩:∃zs,cA ls=zs:=⟨_,rfl⟩;rw[tB]at mQ ajT ⊢;have mQ:ai seA 35 wq.heap.size wq OA zs:=mQ;refine B 3 ?_;refine CJ.loop (α:=Rw×Nat) (λp=>[(4,p.1.val (epL (zs.take p.2)).length),(11,.slice OA zs.length I2),(12,ab (zs.length:Int)),(13,ab (p.2:Int))]) (λp=>p.1.hp cD 33 (epL (zs.take p.2))++[]) (λp=>[wq,wf,w2,w]) (λp=>Gh.no) (λp=>p.2<=zs.length/\p.1.Fr Gh.no [wq,wf,w2,w]/\p.1.Fit 32 (epL (zs.take p.2))) (λp=>zs.length-p.2) (.nil,0) ⟨cV _,True.intro,rfl⟩ zR rfl rfl zJ ?_;rintro⟨ro,j⟩ ⟨hj,aK,ah⟩;dsimp only at hj aK ah ⊢;have bH:ro.ge wq.heap.size:=Rw.ge_of aK A0;refine B 6 ?_;refine aG ?_ ?_
 ·intro ar;refine B 5 ?_;obtain⟨bo,oo,cs0,to,fG,gU,fH,cJ,aW⟩:=mQ.get aa;obtain⟨x,hx⟩:=ng zs j aa;refine B 1 ?_;refine rv rfl rfl rfl (dd underlying38 sizeOf35 (congrArg (λq=>some (Value.slice q zs.length I2)) gU) rfl aa aa) ?_;refine ax (.agg (seA x)) ?_;refine B 1 ?_;refine yW ?_;intro b6 jD qu;refine B 6 ?_;refine ax (ab x.kind) ?_;refine B 3 ?_;refine aG ?_ ?_
  ·intro aN;refine B 3 ?_;refine ax (.agg (dg (fJ x.com))) ?_;refine zUd ?_;refine yW ?_;intro b23 Xa PT;refine jS (r:=ro) (xs:=(epL (zs.take j))) (zs:=[(dk (fJ x.com))]) (enc:=cD) (m:=32) (H0:=[(b23,oC (dg (fJ x.com)) 33),(b6,oC (seA x) 35)]) (H1:=[]) zX nOi xE rfl rfl rfl rfl (bO.one (z:=dk (fJ x.com)) xE U5 underlying72 (bB.own (i:=0) rfl)) ah aK zJ (by have h9:=LN (zs.take j);rw[kQ]at h9;simp only[dC,fb];omega) ?_;intro kZ ur lN pU qQ;replace pU:=yb pU;refine CH ?_;refine PJ.again (Rw.row kZ ur lN,j+1) ⟨by dsimp only;omega,pU.elim (λh=>Rw.Fr_at aK h) (λh=>.inr h),by dsimp only;rw[nHj hx eC,<-K7 x.com];exact qQ⟩ zW ⟨by dsimp only;rw[nHj hx eC,<-K7 x.com];rfl,rfl,rfl,rfl,trivial⟩ (by dsimp only;rw[nHj hx eC,<-K7 x.com];rfl) rfl zJ
  intro aN;refine xx ?_;refine PJ.again (ro,j+1) ⟨by dsimp only;omega,aK,by dsimp only;rw[nim hx eC];exact ah⟩ zW ⟨by dsimp only;rw[nim hx eC];rfl,rfl,rfl,rfl,trivial⟩ (by dsimp only;rw[nim hx eC];rfl) rfl zJ
 intro ar;refine B 6 ?_;have cx:zs.take j=zs:=jO aa;rw[cx,<-tB]at ah ⊢;refine B 6 ?_;exact bM (.inl rfl) results21 bj λW hS=>⟨ls,lT,ro,rfl,hS.base A3 (by rw[dV];exact Rw.over (Rw.ge_of aK A3)),Rw.ge_of aK A3,ah,by cases ro with|nil=>exact True.intro|row b cap sp=>exact hS.own _ A0⟩
def rE (r:Rcd):Bool:=decide (r.fos.length<=3)&&zm r.cs&&decide (r.gs.length<=4)&&decide (r.xs.length<=4)&&decide (r.os.length<=20)&&r.gs.all λg=>decide (g.olds.length<=6)
structure vd (r:Rcd):Prop where
 f:r.fos.length<=9223372036854775807
 g:r.gs.length<=9223372036854775807
 x:r.xs.length<=9223372036854775807
 o:r.os.length<=9223372036854775807
 c:∀c∈r.cs,FB c
theorem nfh(r:Rcd)(hl:vd r)(N:Nat)(w:World)(hN:N<=w.heap.size)(hrA:fP N w r):Calls prog 8 #[.agg (rdA r)] w (aM w (.bool (rE r))):=by
 refine eN func8 ntmps8 ?_;refine B 2 ?_;refine yX ?_;intro b1 w1 hb1 cF gA fX jq;refine B 7 ?_;refine ax (.slice r.fa r.fos.length r.fc) ?_;refine B 3 ?_;refine ni (t:=8) rfl (λar=>?_) (λar=>?_)
 ·replace ar:=ya ar;refine B 33 ?_;exact SZ
 replace ar:=ya ar;refine B 1 ?_;refine ax (.slice r.la r.cs.length r.lc) ?_;refine call call25 rfl rfl rfl (λW hS=>K6 r.cs hl.c N r.la r.lc W cM (hrA.c.up (ak _) hS.sm) (λc hc=>(hrA.C c hc).up (ak _) hS.sm)) ?_;refine B 3 ?_;refine ni (t:=14) rfl (λaN=>?_) (λaN=>?_)
 ·replace aN:=ya aN;refine B 27 ?_;exact SZ
 replace aN:=ya aN;refine B 1 ?_;refine ax (.slice r.ga r.gs.length r.gc) ?_;refine B 4 ?_;refine ni (t:=20) rfl (λdc=>?_) (λdc=>?_)
 ·replace dc:=ya dc;refine B 21 ?_;exact SZ
 replace dc:=ya dc;refine B 1 ?_;refine ax (.slice r.ia r.xs.length r.ic) ?_;refine B 4 ?_;refine ni (t:=26) rfl (λjo=>?_) (λjo=>?_)
 ·replace jo:=ya jo;refine B 15 ?_;exact SZ
 replace jo:=ya jo;refine B 1 ?_;refine ax (.slice r.oa r.os.length r.oc) ?_;refine B 5 ?_;refine aG ?_ ?_
 ·intro ij;refine B 7 ?_;exact SZ
 intro ij;refine B 9 ?_;refine CJ.lp (α:=Nat) [1] (λj=>[(3,ab (j:Int))]) (λj=>[]) (λj=>j<=r.gs.length/\(r.gs.take j).all (λg:Gr=>decide (g.olds.length<=6))=true) (λj=>r.gs.length-j) 0 ⟨cV _,rfl⟩ ?_;rintro j ⟨hj,Lp⟩;refine B 5 ?_;refine ax (.slice r.ga r.gs.length r.gc) ?_;refine B 4 ?_;refine aG ?_ ?_
 ·intro lI;refine B 5 ?_;have ajU:=hrA.g;obtain⟨bg,og,csg,tg,frg,hpg,Lq,ZR,ry⟩:=ajU.get aa;obtain⟨g,SA⟩:=ng r.gs j aa;refine B 2 ?_;refine rq (.slice (some ⟨bg,og,none⟩) r.gs.length r.gc) (av isAgg25 rfl A0 hb1 cF trivial rfl) (by show Value.slice r.ga r.gs.length r.gc=_;rw[hpg]) ?_;refine B 3 ?_;refine rv rfl rfl rfl (av (v:=.slice g.oa g.olds.length g.oc) isAgg85 rfl A1 ZR zL trivial (by have:=yQ ry SA rfl 36 zB;simpa[grA]using this)) ?_;refine B 4 ?_;refine aG ?_ ?_
  ·intro ke;refine B 11 ?_;exact SZ
  intro ke;refine B 8 ?_;refine ag (j+1) ⟨by omega,nbg Lp SA (decide_eq_true aa)⟩
 intro lI;refine B 6 ?_;have cx:=n6g Lp aa;refine B 5 ?_;exact SZ
theorem nQf(a:Int)(k:Nat)(m:Int):(a%m)^k%m=a^k%m:=by
 induction k with
 |zero=>rw[Int.pow_zero,Int.pow_zero]
 |succ k ih=>rw[Int.pow_succ,Int.pow_succ,Int.mul_emod,ih,Int.emod_emod,<-Int.mul_emod]
theorem nco(h:dY a):a^2305843009213688669%4611686018427377339=1:=by grind [nmj]
theorem LP(h:dY a)(k:Nat):a^k%4611686018427377339=a^(k%2305843009213688669)%4611686018427377339:=by
 have h1:∀q r:Nat,a^(2305843009213688669*q+r)%4611686018427377339=a^r%4611686018427377339:=by
  intro q r;have h0:=nco h
  revert h0
  generalize (2305843009213688669:Nat)=Q;intro h0;rw[Int.pow_add,Int.pow_mul,Int.mul_emod,<-nQf (a^Q) q,h0,Int.one_pow];simp
 all_goals grind [Nat.div_add_mod]
theorem LQ(h:dY a)(k:Nat):dY (a^k%4611686018427377339):=by
 have hb:0<=a^k%4611686018427377339/\a^k%4611686018427377339<4611686018427377339:=⟨Int.emod_nonneg _ zB,Int.emod_lt_of_pos _ zB⟩;have h1:uf (a^k%4611686018427377339) 2305843009213688669 4611686018427377339=1:=by
  rw[nmj _ _ _ zB zB];show _^(2305843009213688669:Nat)%_=_;have h0:=nco h
  revert h0
  generalize (2305843009213688669:Nat)=Q;intro h0;rw[nQf,<-Int.pow_mul,Ig,Int.pow_mul,<-nQf (a^Q),h0,Int.one_pow];rfl
 refine⟨?_,hb.2,h1⟩;rcases Int.lt_or_le 0 (a^k%4611686018427377339)with h2|h2
 ·omega
 have h3:a^k%4611686018427377339=0:=by omega
 rw[h3]at h1;exact absurd h1 (by decide +kernel)
theorem geP(hZ:FxOk Z)(h:dY a){k:Int}(hk:qo k):(Z.ge a k).1=a^k.toNat%4611686018427377339:=by
 rw[<-hZ.ge];unfold gExp;rw[if_pos h,if_pos hk];exact nmj a _ _ hk.1 zB
theorem OD(hZ:FxOk Z)(h:dY a){k:Int}(hk:qo k):dY (Z.ge a k).1:=by rw[geP hZ h hk];exact LQ h _
theorem Vw(hZ:FxOk Z){k:Int}(hk:qo k):dY (Z.ge 4 k).1:=OD hZ Bv hk
theorem LR(hZ:FxOk Z){x:Int}(hx:Dm x)(msg:List UInt8):oO Z (Z.ge 4 x).1 msg (qP Z x msg) (vV Z x msg)=true:=by
 have hn:=hZ.bd (⟨#[110,111,110,99,101]⟩:ByteArray) (Ay [x]++msg);have hc:∀r p,1<=CF Z r p msg/\CF Z r p msg<2305843009213688669:=λr p=>hZ.bd _ _;unfold vV qP;have hk:qo (CE Z x msg):=⟨by have:=hn.1;unfold CE;omega,hn.2⟩;have IE:qo x:=⟨by omega,hx.2⟩;generalize CE Z x msg=k at hk;have Jy:=hc (Z.ge 4 k).1 (Z.ge 4 x).1;unfold oO;generalize CF Z (Z.ge 4 k).1 (Z.ge 4 x).1 msg=e at Jy;have hes:qo e:=⟨by omega,Jy.2⟩;have hm:qo (e*x%2305843009213688669):=⟨Int.emod_nonneg _ zB,Int.emod_lt_of_pos _ zB⟩;have h1:(pR e x).1=e*x%2305843009213688669:=by unfold pR;rw[if_pos ⟨hes,IE⟩]
 have h2:(qL k (pR e x).1).1=(k+e*x%2305843009213688669)%2305843009213688669:=by unfold qL;rw[h1,if_pos ⟨hk,hm⟩]
 rw[h2];have hs:qo ((k+e*x%2305843009213688669)%2305843009213688669):=⟨Int.emod_nonneg _ zB,Int.emod_lt_of_pos _ zB⟩;have gr:=Vw hZ hk;have gp:=Vw hZ IE;refine decide_eq_true ⟨gp,gr,hs,?_⟩;have g2:=OD hZ gp hes;have e1:(sC (Z.ge 4 k).1 (Z.ge (Z.ge 4 x).1 e).1).1=(Z.ge 4 k).1*(Z.ge (Z.ge 4 x).1 e).1%4611686018427377339:=by unfold sC;rw[if_pos ⟨gr,g2⟩]
 rw[e1,geP hZ gp hes,geP hZ Bv hk,geP hZ Bv IE,geP hZ Bv hs,nQf,<-Int.mul_emod,<-Int.pow_mul,<-Int.pow_add,LP Bv (k.toNat+x.toNat*e.toNat)];congr 2;have e2:((k+e*x%2305843009213688669)%2305843009213688669)=(k+e*x)%2305843009213688669:=by rw[Int.add_emod_emod]
 rw[e2];have e3:k+e*x=((k.toNat+x.toNat*e.toNat:Nat):Int):=by
  rw[Int.natCast_add,Int.natCast_mul,Int.toNat_of_nonneg hk.1,Int.toNat_of_nonneg IE.1,Int.toNat_of_nonneg hes.1,Int.mul_comm]
 rw[e3];omega

def aP (s:Value) (r:Int):Array Value:=#[s,ab 0,.int .i8 r]
def iX (n:Nat):List Value:=List.replicate n (Cv)
theorem LS(bI:Nat)(lr:Int)(t:Nat)(fr:Nat×Nat)(w:World)(hb0:w.heap[bI]? =some (.cells (aP (ao) lr) t fr)):Calls prog 309 #[ptr bI 0] w (aM w (ab 0)):=by
 have xm:¬Gh.no.X bI:=λh=>h;refine eN func309 ntmps309 ?_;refine B 6 ?_;refine eA 9 (k:=?_);refine B 5 ?_;refine aF results309 rfl A0 ?_;rfl
theorem nGh(bI:Nat)(lr:Int)(t:Nat)(fr:Nat×Nat)(n:Nat)(hn:0<n)(w:World)(hb0:w.heap[bI]? =some (.cells (aP (ao) lr) t fr)):Calls prog 269 #[ptr bI 0,ab (n:Int)] w (aM w (.tuple #[ab 0,bG])):=by
 exact z3g
theorem nPm(bI bR m c n:Nat)(lr:Int)(t:Nat)(hc:m+n<=c)(aN:c<=1000000)(w:World)(hb:w.heap[bI]? =some (oC (aP (bS bR m c) lr) t)):Calls prog 269 #[ptr bI 0,ab (n:Int)] w (lU w [bI] (λ_:Unit=>.tuple #[ab (m:Int),cX]) (λ_=>[(bI,oC (aP (bS bR (m+n) c) lr) t)]) (λ_=>True)):=by
 have jf:=(aT.1 hb).1;refine nB (vs:=[_,_]) (Gh.lent (λk=>k∈keys [(bI,oC (aP (bS bR m c) lr) t)])) [(bI,oC (aP (bS bR m c) lr) t)] func269 rfl ntmps269 rfl (GS (eY.mem ⟨hb,trivial⟩) (D4 _)) ?_;refine B 27 ?_;refine XI ?_;refine ax (ab ((m+n:Nat):Int)) ?_;refine rv rfl rfl rfl (fk (h:=m+n) underlying106 sizeOf5 rfl ⟨_,_,rfl,rfl⟩ aa) ?_;refine B 2 ?_;refine jP (i:=0) rfl sizeOf106 rfl rfl rfl rfl (dO rfl) rfl ?_;refine B 11 ?_;exact sW (Hz:=[(bI,oC (aP (bS bR m c) lr) t)]) (H0:=[]) () (.inl rfl) results269 bj A0 I3 rfl z7b
theorem mkz(c:Nat):cf c (λ_=>Cv)=(ub ([]:List UInt8)++iX c).toArray:=by
 apply Array.ext';simp[cf,ub,iX,List.map_const']
theorem nNf(c n:Nat):(iX c).drop n=iX (c-n):=by simp[iX,List.drop_replicate]
theorem OE(n:Nat):(iX n).length=n:=by simp[iX]
theorem nKf(xs zs:List UInt8)(sp:List Value)(h:zs.length<=sp.length):setCells (ub xs++sp).toArray xs.length (ub zs)=(ub (xs++zs)++sp.drop zs.length).toArray:=by
 apply Array.ext';rw[nU];show jm (ub xs++sp) xs.length (ub zs)=ub (xs++zs)++sp.drop zs.length;have hs:sp=sp.take zs.length++sp.drop zs.length:=(AH _ _).symm;all_goals grind [vU,nxd,GU]
theorem GV(bI n:Nat)(lr:Int)(t:Nat)(hn0:0<n)(hn:n<=64)(w:World)(hb:w.heap[bI]? =some (oC (aP (ao) lr) t)):Calls prog 270 #[ptr bI 0,ab (n:Int)] w (lU w [bI] (λ_:Nat=>ab 0) (λbR=>[(bI,oC (aP (bS bR n 64) lr) t),(bR,oC (cf 64 (λ_=>Cv)) 5)]) (λ_=>True)):=by
 have jf:=(aT.1 hb).1;refine nB (vs:=[_,_]) (Gh.lent (λk=>k∈keys [(bI,oC (aP (ao) lr) t)])) [(bI,oC (aP (ao) lr) t)] func270 rfl ntmps270 rfl (GS (eY.mem ⟨hb,trivial⟩) (D4 _)) ?_;refine B 8 ?_;refine call call309 rfl rfl rfl (λW hS=>LS bI lr _ _ W (hS.own _ A0)) ?_;refine B 7 ?_;refine UH ?_;refine ax bG ?_;refine B 11 ?_;refine call call269 rfl rfl rfl (λW hS=>nGh bI lr _ _ n hn0 W (hS.own _ A0)) ?_;refine B 22 ?_;refine rv rfl rfl rfl (S0 underlying106 rfl rfl) ?_;refine B 2 ?_;refine ax cX ?_;refine B 8 ?_;refine Wh (ln:=n) (cp:=64) underlying106 Uj rfl rfl rfl rfl rfl rfl rfl aa zB aa ?_;intro b41 LU ajV;replace LU:=yb LU;try simp only[aY,ne_eq,and_true]at ajV
 refine B 2 ?_;refine zDe ?_;refine B 9 ?_;refine PJ.swp ?_;exact sW (Hz:=[(bI,oC (aP (ao) lr) t)]) (H0:=[]) b41 (.inl rfl) results270 bj A0 I3 rfl z7b
theorem Rd.seg{C:Cx}{b off c:Nat}{zs:List UInt8}{w1:World}(hm:w1∈L)(h:cj w1 b off zs)(hG:¬G.X b)(hO:aY H b):Rd C G L H 1 zs.length (.slice (some ⟨b,off,none⟩) zs.length c) (ub zs):=by
 obtain⟨cs,t,fr,h1,h2,h3⟩:=h;all_goals grind [Rd.old,n7j,nOn]
theorem LV(zs:List UInt8):aV (ub zs)=true:=by induction zs<;>grind [ub,aV,yp]
theorem n4k(bI:Nat)(lr:Int)(t:Nat)(zs:List UInt8)(bz oz cz:Nat)(hz0:0<zs.length)(gA:zs.length<=64)(w:World)(hb:w.heap[bI]? =some (oC (aP (ao) lr) t))(rF:cj w bz oz zs)(hne:bz≠bI):Calls prog 208 #[ptr bI 0,.slice (some ⟨bz,oz,none⟩) zs.length cz] w (lU w [bI] (λ_:Nat=>.tuple #[ab (zs.length:Int),.nilIface]) (λbR=>[(bI,oC (aP (bS bR zs.length 64) 0) t),(bR,aL 5 zs (iX (64-zs.length)))]) (λ_=>True)):=by
 have jf:=(aT.1 hb).1;have aJ:=rF.lt;refine nB (vs:=[_,_]) (Gh.lent (λk=>k∈keys [(bI,oC (aP (ao) lr) t)])) [(bI,oC (aP (ao) lr) t)] func208 rfl ntmps208 rfl (GS (eY.mem ⟨hb,trivial⟩) (D4 _)) ?_;refine B 11 ?_;refine zEe ?_;refine B 7 ?_;refine call call269 rfl rfl rfl (λW hS=>nGh bI 0 _ _ zs.length hz0 W (hS.own _ A0)) ?_;refine B 19 ?_;refine Cf (Hz:=[(bI,oC (aP (ao) 0) t)]) (H0:=[]) (first:=[]) (cap:=[]) (v:=λ_:Nat=>ab 0) (Hn:=λbR=>[(bI,oC (aP (bS bR zs.length 64) 0) t),(bR,oC (cf 64 (λ_=>Cv)) 5)]) (Φ:=λ_=>True) rfl rfl call270 rfl rfl rfl ⟨.inl S1,trivial⟩ (λW hS=>GV bI zs.length 0 t hz0 gA W (hS.own _ A0)) ?_;rintro bR-jt;have wU:bR=bI\/w.heap.size<=bR:=by
  rcases jt (bR,_) A1 with h|h
  ·left;simpa[keys]using h
  right;exact h.1.1
 refine OJ.reH (H':=[(bI,oC (aP (bS bR zs.length 64) 0) t),(bR,aL 5 [] (iX 64))]) (by rw[mkz];rfl) ?_;refine B 10 ?_;refine rv rfl rfl rfl (fM (l:=0) (h:=zs.length) (off':=0) underlying106 sizeOf5 rfl ⟨_,_,rfl,rfl⟩ rfl aa aa V9) ?_;refine B 1 ?_;refine Ui (i:=1) (m:=1) (n:=zs.length) (k:=zs.length) (news:=ub zs) rfl underlying106 sizeOf5 rfl rfl rfl rfl (λ_=>rfl) aa (Rd.seg A0 rF xP zA) (by simp only[qq,ck,vU,OE];omega) (LV _) ?_;refine B 5 ?_;refine PJ.reH (H':=[(bI,oC (aP (bS bR zs.length 64) 0) t),(bR,aL 5 zs (iX (64-zs.length)))]) (by have:=nKf [] zs (iX 64) (by rw[OE];omega);simp only[fb,ef]at this;simp only[dB,cW,aL];rw[this,nNf]) ?_;exact sW (Hz:=[(bI,oC (aP (ao) lr) t)]) (H0:=[]) bR (.inl rfl) results208 bj A0 I3 rfl z7b
theorem nug(bI bR t:Nat)(xs:List UInt8)(sp:List Value)(zs:List UInt8)(bz oz cz:Nat)(gA:xs.length+zs.length<=64)(vG:sp.length=64-xs.length)(hx:xs.length<64)(w:World)(hb:w.heap[bI]? =some (oC (aP (bS bR xs.length 64) 0) t))(wU:w.heap[bR]? =some (aL 5 xs sp))(vH:bI≠bR)(rF:cj w bz oz zs)(hne:bz≠bI)(sN:bz≠bR):Calls prog 208 #[ptr bI 0,.slice (some ⟨bz,oz,none⟩) zs.length cz] w (lU w [bI,bR] (λ_:Unit=>.tuple #[ab (zs.length:Int),.nilIface]) (λ_=>[(bI,oC (aP (bS bR (xs++zs).length 64) 0) t),(bR,aL 5 (xs++zs) (sp.drop zs.length))]) (λ_=>True)):=by
 have jf:=(aT.1 hb).1;have DI:=(aT.1 wU).1;have aJ:=rF.lt;refine nB (vs:=[_,_]) (Gh.lent (λk=>k∈keys [(bI,oC (aP (bS bR xs.length 64) 0) t),(bR,aL 5 xs sp)])) [(bI,oC (aP (bS bR xs.length 64) 0) t),(bR,aL 5 xs sp)] func208 rfl ntmps208 rfl (GS (eY.mem ⟨hb,wU,trivial⟩) (Vv vH)) ?_;refine B 11 ?_;refine zEe ?_;refine B 7 ?_;refine Cf (Hz:=[(bI,oC (aP (bS bR xs.length 64) 0) t)]) (H0:=[(bR,aL 5 xs sp)]) (first:=[]) (cap:=[]) (v:=λ_:Unit=>.tuple #[ab (xs.length:Int),cX]) (Hn:=λ_=>[(bI,oC (aP (bS bR (xs.length+zs.length) 64) 0) t)]) (Φ:=λ_=>True) rfl rfl call269 rfl rfl rfl ⟨.inl S1,trivial⟩ (λW hS=>nPm bI bR xs.length 64 zs.length 0 t aa zB W (hS.own _ A0)) ?_;rintro _-jt;refine OJ.reH (H':=[(bI,oC (aP (bS bR (xs.length+zs.length) 64) 0) t),(bR,aL 5 xs sp)]) rfl ?_;refine B 24 ?_;refine rv rfl rfl rfl (fM (l:=xs.length) (h:=xs.length+zs.length) (off':=xs.length) underlying106 sizeOf5 rfl ⟨_,_,rfl,rfl⟩ rfl aa aa zyc) ?_;refine B 1 ?_;refine Ui (i:=1) (m:=1) (n:=zs.length) (k:=zs.length) (news:=ub zs) rfl underlying106 sizeOf5 rfl rfl rfl rfl (λ_=>rfl) aa (Rd.seg A0 rF xP zA) (by simp only[qq,ck,vU];omega) (LV _) ?_;refine B 5 ?_;refine PJ.reH (H':=[(bI,oC (aP (bS bR (xs++zs).length 64) 0) t),(bR,aL 5 (xs++zs) (sp.drop zs.length))]) (by have:=nKf xs zs sp aa;show[(bI,_),(bR,Obj.cells (setCells (ub xs++sp).toArray xs.length (ub zs)) _ _)]=_;rw[this,ck];first|done|rfl) ?_
 exact sW (Hz:=[(bI,oC (aP (bS bR xs.length 64) 0) t),(bR,aL 5 xs sp)]) (H0:=[]) () (.inl rfl) results208 bj A0 I3 rfl z7b
theorem n2o(bI bR n:Nat)(lr:Int)(t:Nat)(fr:Nat×Nat)(hn:n<=64)(w:World)(hb0:w.heap[bI]? =some (.cells (aP (bS bR n 64) lr) t fr)):Calls prog 271 #[ptr bI 0] w (aM w (bS bR n 64)):=by
 have xm:¬Gh.no.X bI:=λh=>h;refine eN func271 ntmps271 ?_;refine B 6 ?_;refine eA 8 (k:=?_);refine rv rfl rfl rfl (fM (l:=0) (h:=n) (off':=0) underlying106 sizeOf5 rfl ⟨_,_,rfl,rfl⟩ rfl aa aa V9) ?_;refine B 4 ?_;refine aF results271 rfl A0 ?_;rfl
theorem nVk(bI t:Nat)(f:Nat->Int)(b3 t3:Nat)(qp:Nat×Nat)(hf:ec f)(w:World)(hb:w.heap[bI]? =some (oC (aP (ao) 0) t))(hb3:w.heap[b3]? =some (.cells (dg f) t3 qp))(hne:b3≠bI):Calls prog 208 #[ptr bI 0,.slice (aj b3) 32 32] w (lU w [bI] (λ_:Nat=>.tuple #[ab 32,.nilIface]) (λbR=>[(bI,oC (aP (bS bR 32 64) 0) t),(bR,aL 5 (cy f) (iX 32))]) (λ_=>True)):=by
 have h:=n4k bI 0 t (cy f) b3 0 32 (by rw[nH];decide) (by rw[nH];decide) w hb (cj.dg hb3 hf) hne;simp only[nH]at h;exact h
theorem nXi(bI t:Nat)(f:Nat->Int)(hf:ec f)(w:World)(hb:w.heap[bI]? =some (oC (aP (ao) 0) t)):Calls prog 207 #[ptr bI 0,.agg (dg f)] w (lU w [bI] (λ_:Nat=>ptr bI 0) (λbR=>[(bI,oC (aP (bS bR 32 64) 0) t),(bR,aL 5 (cy f) (iX 32))]) (λ_=>True)):=by
 have jf:=(aT.1 hb).1;refine nB (vs:=[_,_]) (Gh.lent (λk=>k∈keys [(bI,oC (aP (ao) 0) t)])) [(bI,oC (aP (ao) 0) t)] func207 rfl ntmps207 rfl (GS (eY.mem ⟨hb,trivial⟩) (D4 _)) ?_;refine B 2 ?_;refine yX ?_;intro b3 w3 hb3 cK fF ez eP;refine B 4 ?_;refine eA 4 (pb:=by exact zU 3 (k:=by exact aU (X.v (fp (h:=32) underlying127 sizeOf5 rfl rfl aa)) (vO rfl))) (k:=?_);refine Cf (Hz:=[(bI,oC (aP (ao) 0) t)]) (H0:=[]) (first:=[]) (cap:=[]) (v:=λ_:Nat=>.tuple #[ab 32,.nilIface]) (Hn:=λbR=>[(bI,oC (aP (bS bR 32 64) 0) t),(bR,aL 5 (cy f) (iX 32))]) (Φ:=λ_=>True) rfl rfl call208 rfl rfl rfl ⟨.inl S1,trivial⟩ (λW hS=>nVk bI t f b3 _ _ hf W (hS.own _ A0) (hS.old A0 hb3 cK zA) aa) ?_;rintro bR-jt;have wU:bR=bI\/w.heap.size<=bR:=by
  rcases jt (bR,_) A1 with h|h
  ·left;simpa[keys]using h
  right;exact h.1.2.1
 refine B 9 ?_;exact sW (Hz:=[(bI,oC (aP (ao) 0) t)]) (H0:=[]) bR (.inl rfl) results207 bj A1 I3 rfl z7b
theorem nxm(hZ:FxOk Z)(bI bR t:Nat)(s:ByteArray)(hs0:s.size<1000)(xs:List UInt8)(hxl:xs.length<=64)(w:World)(hb:w.heap[bI]? =some (oC (aP (bS bR xs.length 64) 0) t))(hR:cj w bR 0 xs)(hg:Glb w):Calls prog 209 #[ptr bI 0,.string s] w (aM w (.agg (dg (Z.tg s xs)))):=by
 have jf:=(aT.1 hb).1;have hRl:=hR.lt;have hg4:=hg.lt;obtain⟨df,kE⟩:∃df,Z.tg s xs=df:=⟨_,rfl⟩;refine eN func209 ntmps209 ?_;refine B 3 ?_;refine yW ?_;intro b4 ja jb;refine B 8 ?_;refine call call271 rfl rfl rfl (λW hS=>n2o bI bR xs.length 0 t _ hxl W (hS.old A0 hb zL zA)) ?_;refine call call87 rfl rfl rfl (λW hS=>by rw[<-kE];exact nAh hZ s hs0 xs aa bR 0 64 hxl W (hR.old hS A0 zL zA) (hg.old hS A0 zI zF)) (v:=.agg (dg df)) ?_;refine B 4 ?_;refine cC (.inl rfl) results209 bj A0 zC ?_;rw[kE];rfl
def mS (s:ByteArray):List UInt8:=(V.list [.text s]).enc
theorem ngi(s:ByteArray)(h:s.size<128):(mS s).length=4+s.size:=by
 have h1:num 1=[UInt8.ofNat 1]:=WL zB;have h2:=WL h;have h3:s.data.toList.length=s.size:=Nu;simp[mS,V.enc,V.encL,h1,h2,h3];omega
theorem GW(s:ByteArray)(h:s.size<128):(V.list [.text s]).fine:=by
 simp[V.fine,V.fineL,V.depthL,V.depth];omega
theorem n8o(s:ByteArray):(V.list [.text s]).depth<=16:=by simp[V.depth,V.depthL]
theorem S2(s:ByteArray)(N b t:Nat)(fr:Nat×Nat)(w:World)(hb:b<N)(h:w.heap[b]? =some (.cells #[ab 2,ab 0,.string s,ao] t fr)):eM N w (.list [.text s]) (vL (aj b) 1 1):=by
 simp only[eM,gB];exact⟨_,_,rfl,ak _,.inr ⟨b,_,t,fr,rfl,hb,h,ak 4,rfl,trivial⟩⟩
def zK:Array Value:=cf 32 (λ_=>Cv)
def rG (Z:Fx) (f:Nat->Int) (s:ByteArray):Nat->Int:=Z.tg (⟨#[100,101,114,105,118,101]⟩:ByteArray) (cy f++mS s)
def Vx (Z:Fx) (f:Nat->Int) (s:ByteArray):Int:=Z.sc (⟨#[115,99,97,108,97,114]⟩:ByteArray) (cy (rG Z f s))
theorem n9d(hZ:FxOk Z)(f:Nat->Int)(hf:ec f)(s:ByteArray)(aag:s.size<=28)(w:World)(hg:Glb w):Calls prog 142 #[.agg (dg f),.string s,ao] w (aM w (.agg (dg (rG Z f s)))):=by
 have kP:s.size<128:=by omega
 have im:=ngi s kP;have hg4:=hg.lt;obtain⟨df,kE⟩:∃df,Z.tg (⟨#[100,101,114,105,118,101]⟩:ByteArray) (cy f++mS s)=df:=⟨_,rfl⟩;refine eN func142 ntmps142 ?_;refine B 2 ?_;refine yX ?_;intro b3 w3 hb3 cK fF ez eP;refine B 1 ?_;refine yW ?_;intro b6 jD qu;refine B 6 ?_;refine zke ?_;refine yV ?_;intro di lH u7 u9 Gw BV EJ;refine B 12 ?_;refine CJ.lp (α:=Unit) [3,6,7,17,18] (λp=>[]) (λp=>[(b6,oC (zK) 127)]) (λp=>True) (λp=>0) () trivial ?_;rintro⟨⟩ -;refine xv ?_;refine B 13 ?_;refine n8j (ys:=mS s) call85 rfl rfl rfl (λW hS=>nxe [.text s] (GW s kP) (n8o s) (by have:=ngi s kP;unfold mS at this;omega) lH.heap.size (aj di) 1 W (hS.links _ A0).size (S2 s _ di _ _ W aa (hS.old A0 u7 u9 zA))) ?_;intro gY c31 s31 lh LW an5 an6;replace lh:=yb lh;replace LW:=yd LW;refine B 10 ?_;refine yW ?_;intro ik Kb Kc;refine B 5 ?_;refine Cf (Hz:=[(ik,oC (aP (ao) 0) 352)]) (H0:=[(gY,aL 5 (mS s) s31),(b6,oC (zK) 127)]) (first:=[]) (cap:=[]) (v:=λ_:Nat=>ptr ik 0) (Hn:=λbR=>[(ik,oC (aP (bS bR 32 64) 0) 352),(bR,aL 5 (cy f) (iX 32))]) (Φ:=λ_=>True) rfl rfl call207 rfl rfl rfl ⟨.inr ⟨by omega,by omega,by omega,trivial⟩,trivial⟩ (λW hS=>nXi ik 352 f hf W (hS.own _ A0)) ?_;rintro bR-jt;have wU:bR=ik\/(lH.heap.size<=bR/\w3.heap.size<=bR/\w.heap.size<=bR/\gY≠bR/\b6≠bR):=by
  rcases jt (bR,_) A1 with h|h
  ·left;simpa[keys]using h
  right;obtain⟨⟨h1,h2,h3,_⟩,h4⟩:=h;simp only[aY]at h4;exact⟨h1,h2,h3,h4.2.1,h4.2.2.1⟩
 refine B 3 ?_;refine npd (i:=0) (j:=1) rfl rfl zB λvH=>?_;refine npd (i:=1) (j:=2) rfl rfl zB λan7=>?_;refine Cf (Hz:=[(ik,oC (aP (bS bR (cy f).length 64) 0) 352),(bR,aL 5 (cy f) (iX 32))]) (H0:=[(gY,aL 5 (mS s) s31),(b6,oC (zK) 127)]) (first:=[]) (cap:=[]) (v:=λ_:Unit=>.tuple #[ab ((mS s).length:Int),.nilIface]) (Hn:=λ_=>[(ik,oC (aP (bS bR (cy f++mS s).length 64) 0) 352),(bR,aL 5 (cy f++mS s) ((iX 32).drop (mS s).length))]) (Φ:=λ_=>True) (by rw[nH]) rfl call208 rfl rfl rfl ⟨.inr ⟨by omega,by omega,by omega,trivial⟩,.inr ⟨by omega,by omega,by omega,trivial⟩,trivial⟩ (λW hS=>nug ik bR 352 (cy f) (iX 32) (mS s) gY 0 c31 (by rw[nH,ngi s kP];omega) (by rw[OE,nH]) (by rw[nH];decide) W (hS.own _ A0) (hS.own _ A1) vH (cj.row (hS.own _ A2)) aa aa) ?_;rintro _-lb;refine B 4 ?_;refine call call209 rfl rfl rfl (λW hS=>by rw[<-kE];exact nxm hZ ik bR 352 (⟨#[100,101,114,105,118,101]⟩:ByteArray) zB (cy f++mS s) (by rw[ck,nH];omega) W (hS.own _ A0) (cj.row (hS.own _ A1)) (hg.old hS A2 zI (by simp[Over]<;>omega))) (v:=.agg (dg df)) ?_;refine B 4 ?_;refine cC (.inl rfl) results142 bj A2 zC ?_;rw[show rG Z f s=df from kE];rfl
theorem GX(hZ:FxOk Z)(s:ByteArray)(hs0:s.size<1000)(f:Nat->Int)(hf:ec f)(b t:Nat)(fr:Nat×Nat)(w:World)(h:w.heap[b]? =some (.cells (dg f) t fr))(hg:Glb w):Calls prog 195 #[.string s,.slice (aj b) 32 32] w (aM w (ab (Z.sc s (cy f)))):=by
 have:=Nw hZ s hs0 (cy f) (by rw[nH];decide) b 0 32 (by rw[nH];decide) w (cj.dg h hf) hg;rwa[nH]at this
theorem gR.dg{C:Cx}{tx e' b c t:Nat}{fr:Nat×Nat}{f:Nat->Int}{w1:World}(hU:C.P.underlying tx=some (.slice e'))(hf:ec f)(hm:w1∈L)(h:w1.heap[b]? =some (.cells (Px.dg f) t fr))(hG:¬G.X b)(hO:aY H b):gR C G L H tx (.slice (aj b) 32 c) (cy f):=by
 have:=gR.seg (c:=c) hU hm (cj.dg h hf) hG hO;rwa[nH]at this
theorem n9g(hZ:FxOk Z)(f:Nat->Int)(s:ByteArray):ec (rG Z f s):=hZ.byt _ _
theorem n7k(hZ:FxOk Z)(f:Nat->Int)(hf:ec f)(s:ByteArray)(aag:s.size<=28)(w:World)(hg:Glb w):Calls prog 203 #[.agg (dg f),.string s] w (aM w (ab (Vx Z f s))):=by
 have hg4:=hg.lt;have hB:=n9g hZ f s;obtain⟨df,kE⟩:∃df,rG Z f s=df:=⟨_,rfl⟩;rw[kE]at hB;refine eN func203 ntmps203 ?_;refine B 2 ?_;refine yX ?_;intro b2 w2 da bW eU dx dq;refine B 7 ?_;refine call call142 rfl rfl rfl (λW hS=>by rw[<-kE];exact n9d hZ f hf s aag W (hg.old hS A1 zI zF)) (v:=.agg (dg df)) ?_;refine B 1 ?_;refine yW ?_;intro b5 so sq;refine B 5 ?_;refine rv rfl rfl rfl (fp (h:=32) underlying127 sizeOf5 rfl rfl aa) ?_;refine call call195 rfl rfl rfl (λW hS=>GX hZ (⟨#[115,99,97,108,97,114]⟩:ByteArray) zB df hB b5 _ _ W (hS.own _ A0) (hg.old hS A1 zI zF)) ?_;refine B 4 ?_;refine cC (.inl rfl) results203 bj A1 zC ?_;unfold Vx;rw[kE];rfl
theorem GY{f N:Nat}{fn:Func}{l:List Oper}{id d t ty:Nat}{pos:String}{aC:Array Edge}{eo:Array Nat}{x:Code}(u u':FrameMode)(rv:Value)(hu:∀(c₀:Frame) (cs:List Frame),c₀.mode=u->GZ (c₀::cs)=(rv,{c₀ with mode:=u'}::cs))(hf:P.funcs[f]? =some fn)(hb:fn.body=some (.seq (.region id ((⟨some d,.call ⟨.builtin .recover,#[],eo⟩,ty,pos,aC,none⟩:Oper)::l).toArray false) (.cond (.tmp t) x .skip)))(hr0:fn.results=#[])(hN:fn.ntmps=N)(hl:Nat.ble vs.length N=true)(hd:Nat.blt d N=true)(hS:St G [w] H w)(h:OJ ⟨P,none,N⟩ ((⟨some d,.call ⟨.builtin .recover,#[],eo⟩,ty,pos,aC,none⟩:Oper)::l).toArray (λe a W=>e= .normal/\a.defers=[]/\a.eval (.tmp t)=bG/\Below w.heap.size w W) l ((d,rv)::zy 0 vs) [] G [w] H):CallsDIn (FW none) 0 P f vs.toArray u w (λe u'' w'=>u''=u'/\(∃v,e= .returned v)/\Below w.heap.size w w'):=by
 refine callsDIn_of_wpSIn hf hb trivial λc₀ cs hc=>?_;have iW:(vs.toArray++Array.replicate (fn.ntmps-vs.toArray.size) undef).size=N:=by
  have:=dO hl;simp[hN];omega
 have hF:Fits (zy 0 vs) ⟨vs.toArray++Array.replicate (fn.ntmps-vs.toArray.size) undef,[]⟩:=nmc vs _;have oe:=hu c₀ cs hc;refine wpSIn_seq (nup (w':=w) (rest:=List.range' 1 l.length) rfl ?_ rfl ?_ (λ_ _=>trivial) ?_ ?_)
 ·simp[List.range_eq_range',List.range'_succ]
 ·simp[Region.wanted]
 ·simp[execOp,resolve,invoke,builtin,Deferred.ofValue]
 rw[oe,wpOpsIn_eq_wpListIn l 1 (λj=>by simp[Nat.add_comm])];have hwp:=h ((⟨vs.toArray++Array.replicate (fn.ntmps-vs.toArray.size) undef,[]⟩:Act).put (some d) rv) w (by simp only[Act.put];simpa using iW) rfl (hF.put rv (by rw[iW];exact nT hd)) hS;have mono:∀(l':List Oper) (a:Act) (W:World),wpListIn (FW none) 0 P ((⟨some d,.call ⟨.builtin .recover,#[],eo⟩,ty,pos,aC,none⟩:Oper)::l).toArray (λe a W=>e= .normal/\a.defers=[]/\a.eval (.tmp t)=bG/\Below w.heap.size w W) l' a W->
  wpListIn (FW none) 0 P ((⟨some d,.call ⟨.builtin .recover,#[],eo⟩,ty,pos,aC,none⟩:Oper)::l).toArray (λe a' w'=>Exit.thenS ((Code.cond (.tmp t) x .skip).wpSIn (FW none) 0 P (bodyPostS P fn c₀ cs (λe u'' w'=>u''=u'/\(∃v,e= .returned v)/\Below w.heap.size w w'))) (bodyPostS P fn c₀ cs (λe u'' w'=>u''=u'/\(∃v,e= .returned v)/\Below w.heap.size w w')) e a' ({c₀ with mode:=u'}::cs) w') l' a W:=by
  intro l';induction l' with
  |nil=>
   intro a W hq;obtain⟨_,h1,h2,h3⟩:=hq;exact wpSIn_cond (t:=false) h2 (wpSIn_of_wpIn rfl (wpIn_skip ⟨h1,u',rfl,.tuple #[],results_none hr0 _ _ _,rfl,⟨_,rfl⟩,h3⟩))
  |cons o l' ih=>
   intro a W hq;unfold wpListIn at hq ⊢;split
   ·rename_i hwt;rw[if_pos hwt]at hq;refine n8i (λa' W' hk=>ih a' W' hk) (λc a' W' hk=>?_) (λhk=>?_) hq
    ·exact absurd hk.1 zJ
    obtain⟨a0,w0,hk⟩:=hk;exact absurd hk.1 zJ
   rename_i hwt;rw[if_neg hwt]at hq;exact⟨hq.1,ih _ _ hq.2⟩
 exact mono l _ _ hwp
theorem Rd.segN{C:Cx}{b off c n:Nat}{zs:List UInt8}{w1:World}(hn:zs.length=n)(hm:w1∈L)(h:cj w1 b off zs)(hG:¬G.X b)(hO:aY H b):Rd C G L H 1 n (.slice (some ⟨b,off,none⟩) n c) (ub zs):=by subst hn;exact Rd.seg hm h hG hO
theorem LX(w:World):CallsDIn (FW none) 0 prog 331 #[] .returning w (λe u' w'=>u'= .returning/\(∃v,e= .returned v)/\Below w.heap.size w w'):=by
 refine GY (vs:=[]) .returning .returning .nilIface nTk func331 rfl results331 ntmps331 rfl rfl (Jg w) ?_;refine B 1 ?_;exact OJ.done λa W hN hD hF hS=>⟨rfl,hD,hF.ev rfl,hS.base A0 trivial⟩
theorem nal(bR:Nat)(xs:List UInt8)(hx:xs.length=64)(w:World)(rF:cj w bR 0 xs):Calls prog 311 #[.slice (aj bR) 64 64,ab 32] w (cN w (λq:Nat×Nat=>.slice (aj q.1) 64 q.2) (λq w1=>w.heap.size<=q.1/\96<=q.2/\w1.heap[q.1]? =some (aL 5 xs (iX (q.2-64))))):=by
 have aJ:=rF.lt;refine S3 (vs:=[_,_]) Gh.no [] func311 rfl ntmps311 rfl (Jg w) ?_;refine B 7 ?_;refine OJ.defer (cap:=[]) rfl rfl ?_;refine B 5 ?_;refine ax (ab 64) ?_;refine B 1 ?_;refine rr (ab 96) (hJ rfl rfl zB zB) ?_;refine B 8 ?_;refine ax (ab 64) ?_;refine rr (ab 128) (ve rfl rfl zB zB) ?_;refine UH ?_;refine ax (ab 64) ?_;refine rr (ab 128) (ve rfl rfl zB zB) ?_;refine B 6 ?_;refine Wt (n:=128) underlying106 underlying3 Uj rfl rfl rfl rfl rfl rfl rfl rfl zB zB ?_;intro rT c21 Jv Wj an8;replace Jv:=yb Jv;refine B 7 ?_;refine OJ.reH (H':=[(rT,oC (ub ([]:List UInt8)++iX c21).toArray 5)]) (by rw[<-mkz]) ?_;refine Ui (i:=0) (m:=1) (n:=64) (k:=64) (news:=ub xs) rfl underlying106 sizeOf5 rfl rfl rfl rfl (λ_=>rfl) zB (Rd.segN hx A0 rF zL zA) (by simp only[qq,ck,vU,OE,fb];omega) (LV _) ?_;refine zof ?_;refine B 4 ?_;refine PJ.reH (H':=[(rT,aL 5 xs (iX (c21-64)))]) (by have:=nKf [] xs (iX c21) (by rw[OE];omega);simp only[fb,ef]at this;simp only[cW,aL];rw[this,nNf,hx]) ?_;exact aj2 (.inl rfl) call331 (λW hS=>LX W) results311 bj λW hS=>⟨(rT,c21),rfl,hS.base A0 Au,by dsimp only;omega,by dsimp only;omega,hS.own _ A0⟩
theorem nQm(bI bR n c:Nat)(lr:Int)(t:Nat)(fr:Nat×Nat)(hn:n<=1000000)(w:World)(hb0:w.heap[bI]? =some (.cells (aP (.slice (aj bR) n c) lr) t fr)):Calls prog 309 #[ptr bI 0] w (aM w (ab (n:Int))):=by
 have xm:¬Gh.no.X bI:=λh=>h;refine eN func309 ntmps309 ?_;refine B 6 ?_;refine eA 9 (k:=?_);refine B 5 ?_;refine aF results309 rfl A0 ?_;exact congrArg ab aa
theorem nVg(bI bR n c:Nat)(lr:Int)(t:Nat)(fr:Nat×Nat)(m:Nat)(hn:n<=c)(hc:c<=1000000)(hm:c<n+m)(w:World)(hb0:w.heap[bI]? =some (.cells (aP (.slice (aj bR) n c) lr) t fr)):Calls prog 269 #[ptr bI 0,ab (m:Int)] w (aM w (.tuple #[ab 0,bG])):=by
 exact z3g
theorem nOk(bI bR:Nat)(xs:List UInt8)(hx:xs.length=64)(t:Nat)(w:World)(hb:w.heap[bI]? =some (oC (aP (.slice (aj bR) 64 64) 0) t))(rF:cj w bR 0 xs)(hne:bR≠bI):Calls prog 270 #[ptr bI 0,ab 32] w (lU w [bI] (λ_:Nat×Nat=>ab 64) (λq=>[(bI,oC (aP (.slice (aj q.1) 96 q.2) 0) t),(q.1,aL 5 xs (iX (q.2-64)))]) (λq=>96<=q.2)):=by
 have jf:=(aT.1 hb).1;have hRl:=rF.lt;refine nB (vs:=[_,_]) (Gh.lent (λk=>k∈keys [(bI,oC (aP (.slice (aj bR) 64 64) 0) t)])) [(bI,oC (aP (.slice (aj bR) 64 64) 0) t)] func270 rfl ntmps270 rfl (GS (eY.mem ⟨hb,trivial⟩) (D4 _)) ?_;refine B 8 ?_;refine call call309 rfl rfl rfl (λW hS=>nQm bI bR 64 64 0 _ _ zB W (hS.own _ A0)) ?_;refine B 7 ?_;refine ax bG ?_;refine B 17 ?_;refine call call269 rfl rfl rfl (λW hS=>nVg bI bR 64 64 0 _ _ 32 zB zB zB W (hS.own _ A0)) ?_;refine B 22 ?_;refine rv rfl rfl rfl (uM underlying106 rfl rfl) ?_;refine B 15 ?_;refine ax (ab 64) ?_;refine B 8 ?_;refine rr (ab 32) (D2 rfl rfl zB zB zB) ?_;refine B 1 ?_;refine rr (ab (-32)) (qI rfl rfl zB zB) ?_;refine Er ?_;refine rr (ab 9223372036854775743) (qI rfl rfl zB zB) ?_;refine B 1 ?_;refine rr (ab 9223372036854775711) (qI rfl rfl zB zB) ?_;refine ax bG ?_;refine B 3 ?_;refine eS 17 16 [] (pb:=by exact zU 9 (k:=by exact aU (X.v (RV.re (v':=.slice (aj bR) 64 64) (fM (l:=0) (h:=64) (off':=0) underlying106 sizeOf5 rfl ⟨_,_,rfl,rfl⟩ rfl zB zB zB) rfl)) zT)) (sp:=[_,_,_,_,_,_,_,_,_,_,_,_,_,_,_,some (ab 32),_]) (h:=?_);intro _ _ hk;refine Pw (α:=Nat×Nat) (v:=λq=>.slice (aj q.1) 64 q.2) (bo:=λq=>(q.1,aL 5 xs (iX (q.2-64)))) (Φ:=λq=>96<=q.2) call311 rfl rfl rfl (λW hS=>nal bR xs hx W (rF.old hS A0 xP zA)) ?_
 rintro⟨bn,cn⟩ ml gP tF;dsimp only at ml gP tF;simp only[ae,and_true]at ml;simp only[aY,ne_eq,and_true]at gP;have hnI:bn≠bI:=λe=>gP e.symm;refine zE ?_;refine B 2 ?_;refine zDe ?_;refine B 7 ?_;refine jP (i:=1) rfl sizeOf3 rfl rfl rfl rfl (dO rfl) rfl ?_;refine B 11 ?_;refine rr (ab 96) (hJ rfl rfl zB zB) ?_;refine rv rfl rfl rfl (fk (h:=96) underlying106 sizeOf5 rfl ⟨_,_,rfl,rfl⟩ aa) ?_;refine B 2 ?_;refine zDe ?_;refine B 9 ?_;refine PJ.swp ?_;exact sW (Hz:=[(bI,oC (aP (.slice (aj bR) 64 64) 0) t)]) (H0:=[]) (bn,cn) (.inl rfl) results270 bj A0 I3 rfl tF
theorem nFj(bI bR:Nat)(xs:List UInt8)(hx:xs.length=64)(zs:List UInt8)(hz:zs.length=32)(bz oz cz t:Nat)(w:World)(hb:w.heap[bI]? =some (oC (aP (.slice (aj bR) 64 64) 0) t))(J6:cj w bR 0 xs)(hne:bR≠bI)(kP:cj w bz oz zs)(sN:bz≠bI):Calls prog 208 #[ptr bI 0,.slice (some ⟨bz,oz,none⟩) 32 cz] w (lU w [bI] (λ_:Nat×Nat=>.tuple #[ab 32,.nilIface]) (λq=>[(bI,oC (aP (.slice (aj q.1) 96 q.2) 0) t),(q.1,aL 5 (xs++zs) (iX (q.2-96)))]) (λq=>96<=q.2)):=by
 have jf:=(aT.1 hb).1;have hRl:=J6.lt;have BM:=kP.lt;refine nB (vs:=[_,_]) (Gh.lent (λk=>k∈keys [(bI,oC (aP (.slice (aj bR) 64 64) 0) t)])) [(bI,oC (aP (.slice (aj bR) 64 64) 0) t)] func208 rfl ntmps208 rfl (GS (eY.mem ⟨hb,trivial⟩) (D4 _)) ?_;refine B 11 ?_;refine zEe ?_;refine B 6 ?_;refine ax (ab 32) ?_;refine call call269 rfl rfl rfl (λW hS=>nVg bI bR 64 64 0 _ _ 32 zB zB zB W (hS.own _ A0)) ?_;refine B 18 ?_;refine ax (ab 32) ?_;refine Cf (Hz:=[(bI,oC (aP (.slice (aj bR) 64 64) 0) t)]) (H0:=[]) (first:=[]) (cap:=[]) (v:=λ_:Nat×Nat=>ab 64) (Hn:=λq=>[(bI,oC (aP (.slice (aj q.1) 96 q.2) 0) t),(q.1,aL 5 xs (iX (q.2-64)))]) (Φ:=λq=>96<=q.2) rfl rfl call270 rfl rfl rfl ⟨.inl S1,trivial⟩ (λW hS=>nOk bI bR xs hx t W (hS.own _ A0) (J6.old hS A0 xP zA) hne) ?_;rintro⟨bn,cn⟩ tF jt;dsimp only at tF jt ⊢;have ml:bn=bI\/w.heap.size<=bn:=by
  rcases jt (bn,_) A1 with h|h
  ·left;simpa[keys]using h
  right;exact h.1.1
 refine B 10 ?_;refine rv rfl rfl rfl (fM (l:=64) (h:=96) (off':=64) underlying106 sizeOf5 rfl ⟨_,_,rfl,rfl⟩ rfl aa aa V9) ?_;refine B 1 ?_;refine Ui (i:=1) (m:=1) (n:=32) (k:=32) (news:=ub zs) rfl underlying106 sizeOf5 rfl rfl rfl rfl (λ_=>rfl) zB (Rd.segN hz A0 kP xP zA) (by simp only[qq,ck,vU,OE];omega) (LV _) ?_;refine B 5 ?_;refine PJ.reH (H':=[(bI,oC (aP (.slice (aj bn) 96 cn) 0) t),(bn,aL 5 (xs++zs) (iX (cn-96)))]) (by have:=nKf xs zs (iX (cn-64)) (by rw[OE];omega);rw[hx,nNf,hz,Nat.sub_sub]at this;simp only[dB,cW,aL];rw[this];rfl) ?_;exact sW (Hz:=[(bI,oC (aP (.slice (aj bR) 64 64) 0) t)]) (H0:=[]) (bn,cn) (.inl rfl) results208 bj A0 I3 rfl tF
theorem nNm(bI bR n c:Nat)(lr:Int)(t:Nat)(fr:Nat×Nat)(hn:n<=c)(w:World)(hb0:w.heap[bI]? =some (.cells (aP (.slice (aj bR) n c) lr) t fr)):Calls prog 271 #[ptr bI 0] w (aM w (.slice (aj bR) n c)):=by
 have xm:¬Gh.no.X bI:=λh=>h;refine eN func271 ntmps271 ?_;refine B 6 ?_;refine eA 8 (k:=?_);refine rv rfl rfl rfl (fM (l:=0) (h:=n) (off':=0) underlying106 sizeOf5 rfl ⟨_,_,rfl,rfl⟩ rfl aa aa (by split<;>rfl)) ?_;refine B 4 ?_;refine aF results271 rfl A0 ?_;rfl
theorem nYj(hZ:FxOk Z)(bI bR c t:Nat)(s:ByteArray)(hs0:s.size<1000)(xs:List UInt8)(hxl:xs.length<=c)(IJ:xs.length<=1000)(w:World)(hb:w.heap[bI]? =some (oC (aP (.slice (aj bR) xs.length c) 0) t))(hR:cj w bR 0 xs)(hg:Glb w):Calls prog 209 #[ptr bI 0,.string s] w (aM w (.agg (dg (Z.tg s xs)))):=by
 have jf:=(aT.1 hb).1;have hRl:=hR.lt;have hg4:=hg.lt;obtain⟨df,kE⟩:∃df,Z.tg s xs=df:=⟨_,rfl⟩;refine eN func209 ntmps209 ?_;refine B 3 ?_;refine yW ?_;intro b4 ja jb;refine B 8 ?_;refine call call271 rfl rfl rfl (λW hS=>nNm bI bR xs.length c 0 t _ hxl W (hS.old A0 hb zL zA)) ?_;refine call call87 rfl rfl rfl (λW hS=>by rw[<-kE];exact nAh hZ s hs0 xs aa bR 0 c hxl W (hR.old hS A0 zL zA) (hg.old hS A0 zI zF)) (v:=.agg (dg df)) ?_;refine B 4 ?_;refine cC (.inl rfl) results209 bj A0 zC ?_;rw[kE];rfl
theorem n3j(bI bR t:Nat)(xs:List UInt8)(hx:xs.length=32)(f:Nat->Int)(b3 t3:Nat)(qp:Nat×Nat)(hf:ec f)(w:World)(hb:w.heap[bI]? =some (oC (aP (.slice (aj bR) 32 64) 0) t))(wU:w.heap[bR]? =some (aL 5 xs (iX 32)))(vH:bI≠bR)(hb3:w.heap[b3]? =some (.cells (dg f) t3 qp))(hne:b3≠bI)(sN:b3≠bR):Calls prog 208 #[ptr bI 0,.slice (aj b3) 32 32] w (lU w [bI,bR] (λ_:Unit=>.tuple #[ab 32,.nilIface]) (λ_=>[(bI,oC (aP (.slice (aj bR) 64 64) 0) t),(bR,aL 5 (xs++cy f) [])]) (λ_=>True)):=by
 have h:=nug bI bR t xs (iX 32) (cy f) b3 0 32 (by rw[nH,hx];decide) (by rw[OE,hx]) (by rw[hx];decide) w (by rw[hx];exact hb) wU vH (cj.dg hb3 hf) hne sN;simp only[ck,nH,hx,nNf]at h;exact h
theorem n6j(bI bR t:Nat)(xs:List UInt8)(hx:xs.length=64)(f:Nat->Int)(b3 t3:Nat)(qp:Nat×Nat)(hf:ec f)(w:World)(hb:w.heap[bI]? =some (oC (aP (.slice (aj bR) 64 64) 0) t))(J6:cj w bR 0 xs)(S4:bR≠bI)(hb3:w.heap[b3]? =some (.cells (dg f) t3 qp))(hne:b3≠bI):Calls prog 208 #[ptr bI 0,.slice (aj b3) 32 32] w (lU w [bI] (λ_:Nat×Nat=>.tuple #[ab 32,.nilIface]) (λq=>[(bI,oC (aP (.slice (aj q.1) 96 q.2) 0) t),(q.1,aL 5 (xs++cy f) (iX (q.2-96)))]) (λq=>96<=q.2)):=
 nFj bI bR xs hx (cy f) (nH f) b3 0 32 t w hb J6 S4 (cj.dg hb3 hf) hne
theorem aal(s:ByteArray)(hs:s.size<1000)(D:Nat->Int)(hD:vo s.size (sB s)=D)(b c t:Nat)(fr:Nat×Nat)(cs:Array Value)(hc:s.size<=c)(w:World)(hb:w.heap[b]? =some (.cells cs t fr))(ho:0+s.size<=cs.size)(hm:∀i,i<s.size->cs[0+i]? =some (.int .u8 (sB s i)))(hg:Glb w):Calls prog 164 #[.slice (aj b) s.size c] w (aM w (.agg (dg D))):=by
 subst hD;obtain⟨⟨t2,xp,g1⟩,t3,qp,g2⟩:=hg;exact nXf s.size (sB s) b 0 c t t2 t3 fr xp qp cs hc aa w hb ho hm g1 g2
theorem nRm(bI bR t:Nat)(xs:List UInt8)(hx:xs.length=32)(f:Nat->Int)(hf:ec f)(w:World)(hb:w.heap[bI]? =some (oC (aP (.slice (aj bR) 32 64) 0) t))(wU:w.heap[bR]? =some (aL 5 xs (iX 32)))(vH:bI≠bR):Calls prog 207 #[ptr bI 0,.agg (dg f)] w (lU w [bI,bR] (λ_:Unit=>ptr bI 0) (λ_=>[(bI,oC (aP (.slice (aj bR) 64 64) 0) t),(bR,aL 5 (xs++cy f) [])]) (λ_=>True)):=by
 have jf:=(aT.1 hb).1;have DI:=(aT.1 wU).1;refine nB (vs:=[_,_]) (Gh.lent (λk=>k∈keys [(bI,oC (aP (.slice (aj bR) 32 64) 0) t),(bR,aL 5 xs (iX 32))])) [(bI,oC (aP (.slice (aj bR) 32 64) 0) t),(bR,aL 5 xs (iX 32))] func207 rfl ntmps207 rfl (GS (eY.mem ⟨hb,wU,trivial⟩) (Vv vH)) ?_;refine B 2 ?_;refine yX ?_;intro b3 w3 hb3 cK fF ez eP;refine B 4 ?_;refine eA 4 (pb:=by exact zU 3 (k:=by exact aU (X.v (fp (h:=32) underlying127 sizeOf5 rfl rfl aa)) (vO rfl))) (k:=?_);refine Cf (Hz:=[(bI,oC (aP (.slice (aj bR) 32 64) 0) t),(bR,aL 5 xs (iX 32))]) (H0:=[]) (first:=[]) (cap:=[]) (v:=λ_:Unit=>.tuple #[ab 32,.nilIface]) (Hn:=λ_=>[(bI,oC (aP (.slice (aj bR) 64 64) 0) t),(bR,aL 5 (xs++cy f) [])]) (Φ:=λ_=>True) rfl rfl call208 rfl rfl rfl ⟨.inl S1,.inl S1,trivial⟩ (λW hS=>n3j bI bR t xs hx f b3 _ _ hf W (hS.own _ A0) (hS.own _ A1) vH (hS.old A0 hb3 cK zA) aa aa) ?_;rintro _-jt;refine B 9 ?_;exact sW (Hz:=[(bI,oC (aP (.slice (aj bR) 32 64) 0) t),(bR,aL 5 xs (iX 32))]) (H0:=[]) () (.inl rfl) results207 bj A1 I3 rfl trivial
theorem nSm(bI bR t:Nat)(xs:List UInt8)(hx:xs.length=64)(f:Nat->Int)(hf:ec f)(w:World)(hb:w.heap[bI]? =some (oC (aP (.slice (aj bR) 64 64) 0) t))(J6:cj w bR 0 xs)(S4:bR≠bI):Calls prog 207 #[ptr bI 0,.agg (dg f)] w (lU w [bI] (λ_:Nat×Nat=>ptr bI 0) (λq=>[(bI,oC (aP (.slice (aj q.1) 96 q.2) 0) t),(q.1,aL 5 (xs++cy f) (iX (q.2-96)))]) (λq=>96<=q.2)):=by
 have jf:=(aT.1 hb).1;have hRl:=J6.lt;refine nB (vs:=[_,_]) (Gh.lent (λk=>k∈keys [(bI,oC (aP (.slice (aj bR) 64 64) 0) t)])) [(bI,oC (aP (.slice (aj bR) 64 64) 0) t)] func207 rfl ntmps207 rfl (GS (eY.mem ⟨hb,trivial⟩) (D4 _)) ?_;refine B 2 ?_;refine yX ?_;intro b3 w3 hb3 cK fF ez eP;refine B 4 ?_;refine eA 4 (pb:=by exact zU 3 (k:=by exact aU (X.v (fp (h:=32) underlying127 sizeOf5 rfl rfl aa)) (vO rfl))) (k:=?_);refine Cf (Hz:=[(bI,oC (aP (.slice (aj bR) 64 64) 0) t)]) (H0:=[]) (first:=[]) (cap:=[]) (v:=λ_:Nat×Nat=>.tuple #[ab 32,.nilIface]) (Hn:=λq=>[(bI,oC (aP (.slice (aj q.1) 96 q.2) 0) t),(q.1,aL 5 (xs++cy f) (iX (q.2-96)))]) (Φ:=λq=>96<=q.2) rfl rfl call208 rfl rfl rfl ⟨.inl S1,trivial⟩ (λW hS=>n6j bI bR t xs hx f b3 _ _ hf W (hS.own _ A0) (J6.old hS A1 xP zA) S4 (hS.old A0 hb3 cK zA) aa) ?_;rintro⟨bn,cn⟩ tF jt;have ml:bn=bI\/w.heap.size<=bn:=by
  rcases jt (bn,_) A1 with h|h
  ·left;simpa[keys]using h
  right;exact h.1.2.1
 dsimp only at tF ⊢;refine B 9 ?_;exact sW (Hz:=[(bI,oC (aP (.slice (aj bR) 64 64) 0) t)]) (H0:=[]) (bn,cn) (.inl rfl) results207 bj A1 I3 rfl tF
theorem nBj(hZ:FxOk Z)(bI bR c t:Nat)(s:ByteArray)(hs0:s.size<1000)(xs:List UInt8)(hx:xs.length=96)(hc:96<=c)(w:World)(hb:w.heap[bI]? =some (oC (aP (.slice (aj bR) 96 c) 0) t))(hR:cj w bR 0 xs)(hg:Glb w):Calls prog 209 #[ptr bI 0,.string s] w (aM w (.agg (dg (Z.tg s xs)))):=
 nYj hZ bI bR c t s hs0 xs aa aa w (by rw[hx];exact hb) hR hg
theorem nBo(hZ:FxOk Z)(s:ByteArray)(hs:s.size<1000)(a b:Nat->Int)(ha:ec a)(hb:ec b)(w:World)(hg:Glb w):Calls prog 202 #[.string s,.agg (dg a),.agg (dg b)] w (cN w (λf:Nat->Int=>.agg (dg f)) (λf _=>ec f)):=by
 have hg4:=hg.lt;obtain⟨D,hD⟩:∃D,vo s.size (sB s)=D:=⟨_,rfl⟩;have hDB:ec D:=by rw[<-hD];exact nln _ _
 refine eN func202 ntmps202 ?_;refine B 2 ?_;refine yX ?_;intro b4 w4 hb4 Cu VX ja jb;refine yX ?_;intro b5 w5 CG Xe hz5 so sq;refine B 1 ?_;refine yW ?_;intro b6 jD qu;refine B 5 ?_;refine yW ?_;intro b7 jy vr;refine B 3 ?_;refine CJ.less (E':=[(0,_),(1,_),(2,_),(4,_),(5,_),(6,_),(7,_)]) zR ?_;refine CJ.chn 7 [1,2,3,5] [_,none,none,none,_,none,_] (λcv L' H'=>let iC:ad:=[(b7,oC (aP (ao) 0) 352),(b6,oC (zK) 127)];let dU:ad:=iC;match cv with| []=>L'=[w5,w4,w]/\H'=dU| [v1]=>∃(b9:Nat) (c9:Nat) (w9:World) (pg:Array Value) (vf:Nat×Nat),v1= .slice (aj b9) s.size c9/\L'=[w9,w5,w4,w]/\H'=dU/\w9.heap[b9]? =some (.cells pg 5 vf)/\aY iC b9/\s.size<=c9/\0+s.size<=pg.size/\(∀i,i<s.size->pg[0+i]? =some (.int .u8 (sB s i)))| [v1,v2]=>∃(b9:Nat) (c9:Nat) (w9:World) (pg:Array Value) (vf:Nat×Nat),v1= .slice (aj b9) s.size c9/\v2= .agg (dg D)/\L'=[w5,w4,w]/\H'=dU/\w9.heap[b9]? =some (.cells pg 5 vf)/\aY iC b9/\s.size<=c9/\0+s.size<=pg.size/\(∀i,i<s.size->pg[0+i]? =some (.int .u8 (sB s i)))| [v1,v2,v3]=>∃(b9:Nat) (c9:Nat) (w9:World) (pg:Array Value) (vf:Nat×Nat) (bR:Nat),v1= .slice (aj b9) s.size c9/\v2= .agg (dg D)/\v3=ptr b7 0/\L'=[w5,w4,w]/\H'=[(b7,oC (aP (.slice (aj bR) 32 64) 0) 352),(bR,aL 5 (cy D) (iX 32)),(b6,oC (zK) 127)]/\w9.heap[b9]? =some (.cells pg 5 vf)/\aY iC b9/\s.size<=c9/\0+s.size<=pg.size/\(∀i,i<s.size->pg[0+i]? =some (.int .u8 (sB s i)))/\b7≠bR/\b6≠bR/\w5.heap.size<=bR/\w4.heap.size<=bR/\w.heap.size<=bR| [v1,v2,v3,v4]=>∃(b9:Nat) (c9:Nat) (w9:World) (pg:Array Value) (vf:Nat×Nat) (bR:Nat),v1= .slice (aj b9) s.size c9/\v2= .agg (dg D)/\v3=ptr b7 0/\v4=ptr b7 0/\L'=[w5,w4,w]/\H'=[(b7,oC (aP (.slice (aj bR) 64 64) 0) 352),(bR,aL 5 (cy D++cy a) []),(b6,oC (zK) 127)]/\w9.heap[b9]? =some (.cells pg 5 vf)/\aY iC b9/\s.size<=c9/\0+s.size<=pg.size/\(∀i,i<s.size->pg[0+i]? =some (.int .u8 (sB s i)))/\b7≠bR/\b6≠bR/\w5.heap.size<=bR/\w4.heap.size<=bR/\w.heap.size<=bR|_=>False) (pc zN (pk (pk (pk (pc zct (pk (pc zct (pn)))))))) ?_ ?_
 ·refine ss rfl ?_ ?_
  ·intro cv L' H' hl hP F Q' hk;obtain rfl:=kX hl;obtain⟨rfl,rfl⟩:=hP;refine Ns underlying9 underlying106 underlying5 rfl rfl rfl ?_;intro b_ c_ w_ cs_ fr_ pM mE gP wV xQ hc_ aj3 B2;exact OJ.done (hk _ _ _ ⟨b_,c_,w_,cs_,fr_,rfl,rfl,rfl,pM,gP,hc_,aj3,B2⟩)
  refine ss rfl ?_ ?_
  ·intro cv L' H' hl hP F Q' hk;obtain⟨v1,rfl⟩:=iw hl;obtain⟨b9,c9,w9,pg,vf,rfl,rfl,rfl,rD,tk,qH,rH,G0⟩:=hP;refine call (v:=.agg (dg D)) call164 rfl rfl rfl (λW hS=>aal s hs D hD b9 c9 _ vf pg qH W (hS.old A0 rD zL tk) rH G0 (hg.old hS A3 zI zF)) ?_;exact OJ.done (BH zJ (hk _ _ _ ⟨b9,c9,w9,pg,vf,rfl,rfl,rfl,rfl,rD,tk,qH,rH,G0⟩))
  refine ss rfl ?_ ?_
  ·intro cv L' H' hl hP F Q' hk;obtain⟨v1,v2,rfl⟩:=pS hl;obtain⟨b9,c9,w9,pg,vf,rfl,rfl,rfl,rfl,rD,tk,qH,rH,G0⟩:=hP;refine Cf (Hz:=[(b7,oC (aP (ao) 0) 352)]) (H0:=[(b6,oC (zK) 127)]) (first:=[]) (cap:=[]) (v:=λ_:Nat=>ptr b7 0) (Hn:=λbR=>[(b7,oC (aP (.slice (aj bR) 32 64) 0) 352),(bR,aL 5 (cy D) (iX 32))]) (Φ:=λ_=>True) rfl rfl call207 rfl rfl rfl ⟨.inr ⟨by omega,by omega,by omega,trivial⟩,trivial⟩ (λW hS=>nXi b7 352 D hDB W (hS.own _ A0)) ?_;rintro bR-jt;refine npd (i:=0) (j:=1) rfl rfl zB λvH=>?_;refine npd (i:=1) (j:=2) rfl rfl zB λVy=>?_;have wU:w5.heap.size<=bR/\w4.heap.size<=bR/\w.heap.size<=bR:=by
    rcases jt (bR,_) A1 with h|h
    ·exact absurd (show bR=b7 by simpa[keys]using h) (Ne.symm vH)
    obtain⟨h1,_⟩:=h;simp only[ae,and_true]at h1;exact h1
   exact OJ.done (hk _ _ _ ⟨b9,c9,w9,pg,vf,bR,rfl,rfl,rfl,rfl,rfl,rD,tk,qH,rH,G0,vH,λe=>Vy e.symm,wU⟩)
  refine ss rfl ?_ ?_
  ·intro cv L' H' hl hP F Q' hk;obtain⟨v1,v2,v3,rfl⟩:=mj hl;obtain⟨b9,c9,w9,pg,vf,bR,rfl,rfl,rfl,rfl,rfl,rD,tk,qH,rH,G0,vH,Vy,wU⟩:=hP;refine Cf (Hz:=[(b7,oC (aP (.slice (aj bR) 32 64) 0) 352),(bR,aL 5 (cy D) (iX 32))]) (H0:=[(b6,oC (zK) 127)]) (first:=[]) (cap:=[]) (v:=λ_:Unit=>ptr b7 0) (Hn:=λ_=>[(b7,oC (aP (.slice (aj bR) 64 64) 0) 352),(bR,aL 5 (cy D++cy a) [])]) (Φ:=λ_=>True) rfl rfl call207 rfl rfl rfl ⟨.inr ⟨by omega,by omega,by omega,trivial⟩,.inr ⟨by omega,by omega,by omega,trivial⟩,trivial⟩ (λW hS=>nRm b7 bR 352 (cy D) (nH D) a ha W (hS.own _ A0) (hS.own _ A1) vH) ?_;rintro _-_;exact OJ.done (hk _ _ _ ⟨b9,c9,w9,pg,vf,bR,rfl,rfl,rfl,rfl,rfl,rfl,rD,tk,qH,rH,G0,vH,Vy,wU⟩)
  exact nn
 intro cv L' H' hl hP;obtain⟨v1,v2,v3,v4,rfl⟩:=uH hl;obtain⟨b9,c9,w9,pg,vf,bR,rfl,rfl,rfl,rfl,rfl,rfl,rD,tk,qH,rH,G0,vH,Vy,wU⟩:=hP;refine Cf (Hz:=[(b7,oC (aP (.slice (aj bR) 64 64) 0) 352)]) (H0:=[(bR,aL 5 (cy D++cy a) []),(b6,oC (zK) 127)]) (first:=[]) (cap:=[]) (v:=λ_:Nat×Nat=>ptr b7 0) (Hn:=λq=>[(b7,oC (aP (.slice (aj q.1) 96 q.2) 0) 352),(q.1,aL 5 (cy D++cy a++cy b) (iX (q.2-96)))]) (Φ:=λq=>96<=q.2) rfl rfl call207 rfl rfl rfl ⟨.inr ⟨by omega,by omega,by omega,trivial⟩,trivial⟩ (λW hS=>nSm b7 bR 352 (cy D++cy a) (by rw[ck,nH,nH]) b hb W (hS.own _ A0) (cj.row (hS.own _ A1)) (Ne.symm vH)) ?_;rintro⟨bn,cn⟩ tF jt;dsimp only at tF jt ⊢;refine npd (i:=0) (j:=1) rfl rfl zB λhIn=>?_;have ml:w5.heap.size<=bn/\w4.heap.size<=bn/\w.heap.size<=bn:=by
  rcases jt (bn,_) A1 with h|h
  ·exact absurd (show bn=b7 by simpa[keys]using h) (Ne.symm hIn)
  obtain⟨h1,_⟩:=h;simp only[ae,and_true]at h1;exact h1
 refine OJ.reH (H':=[(b7,oC (aP (.slice (aj bn) 96 cn) 0) 352),(bn,aL 5 (cy D++cy a++cy b) (iX (cn-96))),(bR,aL 5 (cy D++cy a) []),(b6,oC (zK) 127)]) rfl ?_;obtain⟨F6,aam⟩:∃F,Z.tg (⟨#[109,105,120]⟩:ByteArray) (cy D++cy a++cy b)=F:=⟨_,rfl⟩;have hF6:ec F6:=by rw[<-aam];exact hZ.byt _ _
 refine call (v:=.agg (dg F6)) call209 rfl rfl rfl (λW hS=>by rw[<-aam];exact nBj hZ b7 bn cn 352 (⟨#[109,105,120]⟩:ByteArray) zB (cy D++cy a++cy b) (by rw[ck,ck,nH,nH,nH]) tF W (hS.own _ A0) (cj.row (hS.own _ A1)) (hg.old hS A2 zI Au)) ?_;refine B 4 ?_;exact bM (.inl rfl) results202 bj λW hS=>⟨F6,rfl,hS.base A2 zQ,hF6⟩
def Lab (w:World):Prop:=∃t fr,w.heap[2]? =some (.cells #[.string (⟨#[105,110,105,116]⟩:ByteArray),.string (⟨#[99,111,109,109,105,116]⟩:ByteArray),.string (⟨#[99,104,105,108,100]⟩:ByteArray)] t fr)
theorem Lab.old{W:World}(h:Lab w)(hS:St G L H W)(hw:w∈L)(hX:¬G.X 2)(hH:aY H 2):Lab W:=by
 obtain⟨t,fr,h1⟩:=h;exact⟨t,fr,hS.old hw h1 hX hH⟩
theorem S5(s:ByteArray)(hs0:s.size<1000)(n:Nat)(hn:n<1000000000000)(m:Nat->Int):∃F,ec F/\∀(bb off c t t2 t3:Nat) (fr xp qp:Nat×Nat) (cs:Array Value) (hc:n<=c) (w:World) (As:w.heap[bb]? =some (.cells cs t fr)) (mh:off+n<=cs.size) (hm:∀i,i<n->cs[off+i]? =some (.int .u8 (m i))) (hg:Glb w),Calls prog 87 #[.string s,.slice (some ⟨bb,off,none⟩) n c] w (aM w (.agg (dg F))):=
 ⟨tagged s n m,njg _ _ _,λbb off c t _ _ fr _ _ cs hc w As mh hm hg=>by
  obtain⟨⟨t2,xp,g1⟩,t3,qp,g2⟩:=hg;exact nae s n m bb off c t t2 t3 fr xp qp cs hs0 hc hn w As mh hm g1 g2⟩
theorem n6m(hZ:FxOk Z)(f:Nat->Int)(hf:ec f)(w:World)(hg:Glb w)(hl:Lab w):Calls prog 84 #[ab 1,.agg (dg f)] w (aM w (.agg (dg (rG Z f (⟨#[99,111,109,109,105,116]⟩:ByteArray))))):=by
 have hg4:=hg.lt;obtain⟨tl,fl,Iz⟩:=hl;refine eN func84 ntmps84 ?_;refine B 2 ?_;refine yX ?_;intro b3 w3 hb3 cK fF ez eP;refine B 1 ?_;refine yW ?_;intro b4 ja jb;refine B 3 ?_;refine eA 4 (pb:=by exact zU 2 (k:=by exact aU (X.v (RV.re (v':=ptr 2 1) (ui underlying283 sizeOf9 rfl rfl zB zB) rfl)) (aU (X.v (av (v:=.string (⟨#[99,111,109,109,105,116]⟩:ByteArray)) isAgg9 rfl A1 Iz zL zA rfl)) (vO rfl)))) (k:=?_);refine call call142 rfl rfl rfl (λW hS=>n9d hZ f hf (⟨#[99,111,109,109,105,116]⟩:ByteArray) zB W (hg.old hS A1 zI zF)) (v:=.agg (dg (rG Z f (⟨#[99,111,109,109,105,116]⟩:ByteArray)))) ?_;refine B 4 ?_;refine cC (.inl rfl) results84 bj A1 zC ?_;rfl
theorem ndi(hZ:FxOk Z)(f:Nat->Int)(hf:ec f)(w:World)(hg:Glb w):Calls prog 139 #[.agg (dg f)] w (aM w (ab (Vx Z f (⟨#[110,111,100,101]⟩:ByteArray)))):=by
 have hg4:=hg.lt;refine eN func139 ntmps139 ?_;refine B 2 ?_;refine yX ?_;intro b1 w1 hb1 cF gA fX jq;refine B 6 ?_;refine call call203 rfl rfl rfl (λW hS=>n7k hZ f hf (⟨#[110,111,100,101]⟩:ByteArray) zB W (hg.old hS A1 zI zF)) ?_;refine B 4 ?_;refine aF results139 rfl A1 ?_;rfl
theorem ngj(hZ:FxOk Z)(e f:Nat->Int)(he:ec e)(hf:ec f)(w:World)(hg:Glb w)(hl:Lab w):Calls prog 137 #[.agg (dg e),.agg (dg f)] w (cN w (λf:Nat->Int=>.agg (dg f)) (λf _=>ec f)):=by
 have hg4:=hg.lt;refine eN func137 ntmps137 ?_;refine B 2 ?_;refine yX ?_;intro b2 w2 da bW eU dx dq;refine yX ?_;intro b3 w3 hb3 cK fF ez eP;refine B 1 ?_;refine yW ?_;intro b4 ja jb;refine B 3 ?_;refine eA 3 (pb:=by exact zU 2 (k:=by exact aU (nf call84 rfl rfl (λW hS _=>n6m hZ f hf W (hg.old hS A2 zI zF) (hl.old hS A2 zL zA)) (λ_=>rfl)) (vO rfl))) (sp:=[_,_,some (.agg (dg (rG Z f (⟨#[99,111,109,109,105,116]⟩:ByteArray))))]) (k:=?_);refine nv (α:=Nat->Int) (v:=λf=>.agg (dg f)) (Φ:=λ_ f _=>ec f) call202 rfl rfl rfl (λW hS=>nBo hZ (⟨#[101,112,111,99,104]⟩:ByteArray) zB e _ he (n9g hZ f (⟨#[99,111,109,109,105,116]⟩:ByteArray)) W (hg.old hS A2 zI zF)) ?_;rintro Wm fm wm vY Ke xC;refine B 4 ?_;exact bM (.inl rfl) results137 bj λW hS=>⟨fm,rfl,hS.base A3 (by simp only[Over,cW,and_true];omega),xC⟩
theorem n0h(hZ:FxOk Z)(f g:Nat->Int)(hf:ec f)(hg1:ec g)(w:World)(hg:Glb w):Calls prog 145 #[.agg (dg f),.agg (dg g)] w (cN w (λf:Nat->Int=>.agg (dg f)) (λf _=>ec f)):=by
 have hg4:=hg.lt;obtain⟨F,hFB,hFc⟩:=S5 (⟨#[99,111,110,102,105,114,109]⟩:ByteArray) zB 64 zB (yr 32 f g);refine eN func145 ntmps145 ?_;refine B 2 ?_;refine yX ?_;intro b2 w2 da bW eU dx dq;refine yX ?_;intro b3 w3 hb3 cK fF ez eP;refine B 1 ?_;refine yW ?_;intro b4 ja jb;refine B 3 ?_;refine eA 2 (pb:=by exact aU (X.v (fp (h:=32) underlying127 sizeOf5 rfl rfl aa)) (aU (X.v (fp (h:=32) underlying33 sizeOf5 rfl rfl aa)) (vO rfl))) (k:=?_);refine qN underlying377 sizeOf106 zeroValue106 rfl rfl rfl rfl rfl rfl rfl ?_;refine yV ?_;intro b7 w7 vq vQ hz7 jy vr;have aJ:(nF [⟨b2,0,32,32,f⟩,⟨b3,0,32,32,g⟩]).length=64:=by simp[nF,tu.l,DA]
 refine Pw (v:=λp:Nat×Nat×List Value=>.slice (aj p.1) (nF [⟨b2,0,32,32,f⟩,⟨b3,0,32,32,g⟩]).length p.2.1) (bo:=λp:Nat×Nat×List Value=>(p.1,oC (nF [⟨b2,0,32,32,f⟩,⟨b3,0,32,32,g⟩]++p.2.2).toArray 5)) (Φ:=λp=>(nF [⟨b2,0,32,32,f⟩,⟨b3,0,32,32,g⟩]).length<=p.2.1/\p.2.2.length=p.2.1-(nF [⟨b2,0,32,32,f⟩,⟨b3,0,32,32,g⟩]).length) call165 rfl rfl rfl (λW hS=>nXg [⟨b2,0,32,32,f⟩,⟨b3,0,32,32,g⟩] b7 2 _ _ zJ (by rw[aJ];omega) (by rw[aJ];omega) W (hS.old A0 vq zL zA) (λx hx=>by
  simp only[bX,dy,or_false]at hx;rcases hx with rfl|rfl
  ·exact⟨_,_,_,hS.old A2 da zL zA,ak 32,λi hi=>by rw[lE];exact qK _ i hi⟩
  exact⟨_,_,_,hS.old A1 hb3 zL zA,ak 32,λi hi=>by rw[lE];exact qK _ i hi⟩)) ?_
 rintro⟨bc,cc,spc⟩ WD hoc ⟨Jy,DD⟩;replace WD:=yb WD;dsimp only at Jy DD;rw[aJ]at Jy DD;refine OJ.re (v':=.slice (aj bc) 64 cc) (by show Value.slice _ (nF _).length _=_;rw[aJ]) ?_;refine OJ.reH (H':=[(bc,oC (kW 64 (yr 32 f g)++spc).toArray 5),(b4,oC (zK) 33)]) (by rw[<-nzk 32 32];simp only[nF,tu.l,dV];rfl) ?_;refine call (v:=.agg (dg F)) call87 rfl rfl rfl (λW hS=>hFc bc 0 cc _ 0 0 _ (0,0) (0,0) _ Jy W (hS.own _ A0) (by simp only[qq,ck,DA];omega) (λi hi=>nXn _ _ _ i hi) (hg.old hS A3 zI zF)) ?_;refine B 4 ?_;exact bM (.inl rfl) results145 bj λW hS=>⟨F,rfl,hS.base A3 zQ,hFB⟩
theorem LY:prog.info? 127=some Tryz.t127:=by kernel_rfl
theorem G1:iR prog 76 127 32:=⟨underlying76,Tryz.t127,.agg (tr []).toArray,LY,rfl,rfl,rfl,by decide⟩
def iG (Z:Fx):Nat->(Nat->Int)->List Dk
 |0,_=>[]
 |n+1,f=>dk f::iG Z n (rG Z f (⟨#[112,97,116,104]⟩:ByteArray))
theorem n0l(Z:Fx):∀(n:Nat) (f:Nat->Int),(iG Z n f).length=n:=
 by intro x;induction x<;>(intros;grind [iG])
theorem nwi{f:Nat->Int}(hf:ec f):ec (fJ (dk f)):=by
 intro i;unfold fJ;rw[List.getD_eq_getElem?_getD];cases h:(dk f).1[i]? with
 |none=>exact⟨by decide,by decide⟩
 |some x=>
  have hx:=cP h;unfold dk at hx;simp only[bX,dy,or_false]at hx;rcases hx with rfl|rfl|rfl|rfl|rfl|rfl|rfl|rfl|rfl|rfl|rfl|rfl|rfl|rfl|rfl|rfl|rfl|rfl|rfl|rfl|rfl|rfl|rfl|rfl|rfl|rfl|rfl|rfl|rfl|rfl|rfl|rfl<;>exact hf _
theorem nHm{Z:Fx}(hZ:FxOk Z):∀(n:Nat) (f:Nat->Int),ec f->∀k∈iG Z n f,ec (fJ k)
 |0,_,_,k,hk=>by cases hk
 |n+1,f,hf,k,hk=>by
  unfold iG at hk;rcases bX.1 hk with rfl|hk
  ·exact nwi hf
  exact nHm hZ n _ (n9g hZ f _) k hk
theorem Glb.blw{w':World}(h:Glb w)(hB:Below w.heap.size w w'):Glb w':=by
 have hl:=h.lt;obtain⟨⟨t,fr,h1⟩,t',CD,h2⟩:=h;exact⟨⟨t,fr,by rw[hB.block 3 aa];exact h1⟩,t',CD,by rw[hB.block 5 aa];exact h2⟩
theorem LZ{f N:Nat}{fn:Func}{c:Code}(G:Gh)(H:ad)(hf:P.funcs[f]? =some fn)(hb:fn.body=some c)(hN:fn.ntmps=N)(hl:Nat.ble vs.length N=true)(hS:St G L H w)(h:CJ ⟨P,none,N⟩ c (bodyPostM (FW none) 0 P fn R) (zy 0 vs) [] G L H):Calls P f vs.toArray w R:=by
 exact zdh
theorem S6{f N:Nat}{fn:Func}{c:Code}(G:Gh)(H:ad)(hf:P.funcs[f]? =some fn)(hb:fn.body=some c)(hN:fn.ntmps=N)(hl:Nat.ble vs.length N=true)(hS:St G L H w)(h:CJ ⟨P,none,N⟩ c (bodyPost P fn R) (zy 0 vs) [] G L H):Calls P f vs.toArray w R:=by
 exact zjh
theorem npn{C:Cx}{Q:aZ}{E:Env}{D:List Deferred}{w0:World}{ops:Array Oper}{l:List Oper}{d f ty t m:Nat}{pos:String}{aC:Array Edge}{g:Option (Nat×Bool)}{α:Type}{enc:α->List Value}{xo:List Operand}{eo:Array Nat}{xs:List α}{v:Value->Value}(az:eg C.P f)(hw:nl ops E g=some true)(hN:Nat.blt d C.N=true)(ha:iV E xo=some vs)(hc:∀W,St Gh.no [w0] H W->Calls C.P f vs.toArray W (aD w0 enc m t xs v))(k:∀r:Rw,r.ge w0.heap.size->r.Fit m xs->OJ C ops Q l ((d,v (r.val xs.length))::E) D Gh.no [w0] (r.hp enc t xs)):OJ C ops Q (⟨some d,.call ⟨.value (.func f),xo.toArray,eo⟩,ty,pos,aC,g⟩::l) E D Gh.no [w0] H:=
 nI rfl hw rfl ha zJ az λa W iW hD hF hS=>(hc W hS).mono (by
  rintro ed W' ⟨r,rfl,hb,jw,bN,fj⟩;have h0:St Gh.no [w0] [] W':=⟨trivial,λ_ h=>h.elim,λ_ h=>h.elim,λw hw=>by simp at hw;subst hw;exact aH.of_below hb,λ_ h=>by simp at h,λ_ _ _ _ h=>by simp at h,λ_ h=>by simp at h⟩;refine k r jw bN (a.put (some d) (v (r.val xs.length))) W' z7 z5 (hF.put _ z6) ?_;cases r with
  |nil=>exact h0
  |row b cap sp=>exact h0.adopt fj True.intro (λhv=>hv.elim))
theorem nNo{α:Type}{N:Nat}{Q:aZ}{E:Env}{D:List Deferred}{H0:ad}{g:Operand}{ps:Array Tmp}{assign body:Code}{f:Nat}{cap:List Value}{enc:α->List Value}{Pre Fin:List α->Prop}{RO:Nat->Prop}{b c:Nat}{o o2:Obj}(hp:H0.Perm ((b,o)::(c,o2)::H))(hb:ae L b)(hc:ae L c)(hbX:¬G.X b)(hcX:¬G.X c)(hg:ev E g=some (.func (.func f) #[] cap.toArray))(az:eg P f)(lO:∀W W2,St G L H W->W.heap[b]? =some o->W.heap[c]? =some o2->Below W.heap.size W W2->uc P f cap enc Pre Fin (λk=>k=b\/k=c) RO W2)(kR:Vz G L H RO)(iJ:∀x,(enc x).length=ps.size)(Inv:List α->Gh->ad->Prop)(cH:Code->Gh->ad->Prop)(h0:Inv [] G H)(vJ:∀p∈ps.toList,p<N)(round:VA P N ps assign body E G H L enc (λk=>k=b\/k=c) (λp _ _=>Pre p) Inv cH)(done:RgD P N Q E D L Fin Inv)(stop:VB P N Q E D L cH):CJ ⟨P,none,N⟩ (.rangeFunc g ps assign body) Q E D G L H0:=by
 refine nUl (B:=λW'=>W'.heap[b]? =some o/\W'.heap[c]? =some o2) (λW hS=>?_) hg az (λW W2 h h1 hB=>lO W W2 h h1.1 h1.2 hB) kR iJ Inv cH h0 vJ round done stop;have lG:=hS.perm hp;have Uf:=lG.own (b,o) zJ;have hcW:=lG.own (c,o2) zJ;have hnd:=(nX _).1 lG.nodup;simp only[dt,List.nodup_cons,bX,not_or]at hnd;refine⟨(lG.drop hb).drop hc,⟨Uf,hcW⟩,λk hk=>?_⟩;rcases hk with rfl|rfl
 ·exact⟨(aT.1 Uf).1,hb,hnd.1.2,lG.apart (k,o) zJ,hbX⟩
 exact⟨(aT.1 hcW).1,hc,hnd.2.1,lG.apart (k,o2) zJ,hcX⟩
theorem G3(k:Dk):dg (fJ k)=(cD k).toArray:=by
 conv=>rhs;rw[<-K7 k]
 rfl
theorem nvp(hZ:FxOk Z)(f:Nat->Int)(hf:ec f)(bk bl:Nat)(an9:6<=bk)(aoa:6<=bl)(hne:bl≠bk)(W:World)(hg:Glb W)(jf:W.heap[bl]? =some (oC #[ab 0] 3))(hbk:W.heap[bk]? =some (oC (dg f) 127)):uc prog 266 [ptr bl 0,ptr bk 0] (λk:Dk=>[.agg (dg (fJ k))]) (Cs (iG Z 10 f)) (Is (iG Z 10 f)) (λk=>k=bl\/k=bk) (λk=>k<6) W:=by
 intro l M I X0 hM hI hX hy h0;have hg4:=hg.lt;refine nB (dh hM (λ_=>False) (hI [] _)) [(bl,oC #[ab 0] 3),(bk,oC (dg f) 127)] (vs:=[_,_,_]) func266 rfl ntmps266 rfl (Nj hM (hI [] _) h0 (by intro p hp;simp only[bX,dy,or_false]at hp;rcases hp with rfl|rfl;(exact jf);exact hbk) (Vv hne) (by intro p hp;simp only[bX,dy,or_false]at hp;rcases hp with rfl|rfl;(exact .inl rfl);exact .inr rfl)) ?_;refine B 1 ?_;refine CJ.loop (α:=(List Dk×Nat)×(Nat->Int)×aE) (λp=>[(0,yv l),(1,ptr bl 0),(2,ptr bk 0)]) (λp=>[(bl,oC #[ab (p.1.2:Int)] 3),(bk,oC (dg p.2.1) 127)]) (λp=>[W]) (λp=>dh hM p.2.2 (hI p.1.1 p.2.2)) (λp=>p.1.1++iG Z (10-p.1.2) p.2.1=iG Z 10 f/\p.1.2<=10/\ec p.2.1/\∀k,p.2.2 k->W.heap.size<=k) (λp=>10-p.1.2) (([],0),f,λ_=>False) ⟨rfl,cV _,hf,λ_ h=>h.elim⟩ zR rfl rfl zJ ?_;rintro⟨⟨pre,j⟩,g,V⟩ ⟨rV,hj,hgB,hV⟩;dsimp only at rV hj hgB hV ⊢;refine B 7 ?_;refine aG ?_ ?_
 ·intro ar;refine B 8 ?_;refine ax (.agg (dg g)) ?_;refine Br (λV=>hI (pre++[(dk g)]) V) hX hV zJ rfl rfl rfl rfl (λW1 ue kO=>hy (pre) ((dk g)) V W1 ⟨iG Z (10-(j+1)) (rG Z g (⟨#[112,97,116,104]⟩:ByteArray)),by rw[<-rV,show 10-j=(10-(j+1))+1 from by omega,iP];rfl⟩ ue kO) ?_ ?_
  ·intro V hV;refine B 7 ?_;refine ax (.agg (dg g)) ?_;refine call call142 rfl rfl rfl (λW2 hS=>n9d hZ g hgB (⟨#[112,97,116,104]⟩:ByteArray) zB W2 (hg.old hS A0 (λk hk h=>by rcases h with h|h;(exact(hM _ h).2.2 hk);(have:=hV _ h;omega)) zQ)) ?_;refine B 6 ?_;refine ax (ab ((j+1:Nat):Int)) ?_;refine zHe ?_;refine B 1 ?_;refine ag ((pre++[dk g],j+1),rG Z g (⟨#[112,97,116,104]⟩:ByteArray),V) ⟨by dsimp only;rw[<-rV,show 10-j=(10-(j+1))+1 from by omega,iP];rfl,by dsimp only;omega,n9g hZ g _,hV⟩
  intro V hV;refine B 10 ?_;exact Bs (.inl rfl) results266 A0 hV (by intro k hk hx;simp only[cW,dB,dt,eL,bX,dy,or_false]at hx;exact hx) (λA hA=>.inr hA)
 intro ar;refine B 4 ?_;exact Bs (.inr rfl) results266 A0 hV (by intro k hk hx;simp only[cW,dB,dt,eL,bX,dy,or_false]at hx;exact hx) (λA hA=>.inl ⟨pre,by rw[<-rV,show 10-j=0 from by omega];exact(dV pre).symm,hA⟩)
theorem nji(f:Nat->Int)(w:World):Calls prog 201 #[.agg (dg f),ab 0] w (lU w [] (λp:Nat×Nat=>.func (.func 266) #[] #[ptr p.1 0,ptr p.2 0]) (λp=>[(p.1,oC #[ab 0] 3),(p.2,oC (dg f) 127)]) (λ_=>True)):=by
 refine nB (vs:=[_,_]) (Gh.lent (λk=>k∈keys [])) [] func201 rfl ntmps201 rfl (GS (eY.mem (H:=[]) True.intro) (by simp[kV])) ?_;refine NH ?_;refine yW ?_;intro b2 dx dq;refine JE rfl rfl rfl ?_;refine yW ?_;intro b3 ez eP;refine B 10 ?_;exact sW (Hz:=[]) (H0:=[]) (b3,b2) (.inl rfl) results201 bj A0 I3 rfl trivial
theorem nUm(hZ:FxOk Z)(f:Nat->Int)(hf:ec f)(bk bl:Nat)(w0 w:World)(Lu:St Gh.no [w0] [(bl,oC #[ab 0] 3),(bk,oC (dg f) 127)] w)(G4:w0.heap.size<=bk)(yM:w0.heap.size<=bl)(hg:Glb w0):Calls prog 265 #[ao,.func (.func 266) #[] #[ptr bl 0,ptr bk 0]] w (aD w0 cD 32 127 (iG Z 10 f) id):=by
 have hg4:=hg.lt;have hne:bl≠bk:=λe=>by have:=Lu.nodup 0 1 _ _ rfl rfl e;omega
 refine LZ Gh.no [(bl,oC #[ab 0] 3),(bk,oC (dg f) 127)] (vs:=[_,_]) func265 rfl ntmps265 rfl Lu ?_;refine NH ?_;refine yW ?_;intro b2 dx dq;refine B 10 ?_;refine nNo (f:=266) (cap:=[ptr bl 0,ptr bk 0]) (α:=Dk) (enc:=(λk:Dk=>[.agg (dg (fJ k))])) (Pre:=Cs (iG Z 10 f)) (Fin:=Is (iG Z 10 f)) (RO:=λk=>k<6) (b:=bl) (c:=bk) (o:=oC #[ab 0] 3) (o2:=oC (dg f) 127) (H:=[(b2,oC #[ao] 76)]) (List.perm_append_comm (l₁:=[_]) (l₂:=[_,_])) ⟨yM,trivial⟩ ⟨G4,trivial⟩ zL zL rfl call266 (λW W2 hS jq dq hB=>nvp hZ f hf bk bl aa aa hne W2 ((hg.old hS A0 zI Au).blw hB) (by rw[hB.block bl (aT.1 jq).1];exact jq) (by rw[hB.block bk (aT.1 dq).1];exact dq)) (λW hS k hk=>⟨by have h2:=(hS.links w0 A0).size;omega,by simp only[dt,eL,bX,dy,or_false];omega,λh=>h⟩) (λ_=>rfl) (λpre G' Hc=>G'=Gh.no/\∃r:Rw,r.Fr Gh.no [w0]/\r.Fit 32 pre/\Hc=[(b2,oC #[r.val pre.length] 76)]++(r.hp cD 127 pre++[])) (λ_ _ _=>False) ⟨rfl,.nil,True.intro,rfl,rfl⟩ zB ?_ ?_ ?_
 ·rintro pre x G' Hc l Dk rec W1 M V Wy oe vn dP ⟨rfl,r,aK,ah,rfl⟩ iH lD Pm yi du Df;simp only[ae]at iH yi;have bH:r.ge w0.heap.size:=Rw.ge_of aK A0;have im:=dP.length_le;rw[n0l]at im;simp only[ck,dC,fb]at im;have D5:∀p∈r.hp cD 127 pre,M p.1\/V p.1:=λp hp=>du.loc.h p Ux;refine B 2 ?_;refine yW ?_;intro b5 so sq;refine B 2 ?_;refine PJ.reH (H':=book ([(b5,oC (dg (fJ x)) 127)]++([(b2,oC #[r.val pre.length] 76)]++(r.hp cD 127 pre++[]))) l rec (fq Dk)) rfl ?_;refine Nl oe ?_;refine B 3 ?_;refine ax (.agg (dg (fJ x))) ?_;refine iS underlying76 sizeOf127 zeroValue127 rfl rfl rfl rfl rfl rfl rfl ?_;refine yW ?_;intro gf lP pW;refine jS (r:=r) (xs:=pre) (zs:=[(dk (fJ x))]) (enc:=cD) (m:=32) (H0:=[(gf,oC (dg (fJ x)) 127),(b5,oC (dg (fJ x)) 127),(b2,oC #[r.val pre.length] 76)]) (H1:=(l,.loop {rec with state:=.busy})::fq Dk) zX G1 xE rfl rfl rfl rfl (bO.one (z:=dk (fJ x)) xE U5 underlying76 (bB.own (i:=0) rfl)) ah (Rw.Fr_ext D5) zJ Az ?_;intro gG oP oQ jh kz;replace jh:=yb jh;rw[K7]at kz ⊢;refine B 3 ?_;refine B4 ?_;refine Jh (G2:=Gh.no) (Hc2:=[(b2,oC #[(Rw.row gG oP oQ).val (pre++[x]).length] 76)]++((Rw.row gG oP oQ).hp cD 127 (pre++[x])++[])) du lD ⟨λ_ h=>h,λ_ h=>.inl h,λ_ h=>.inl h,(Uy rfl (jh.imp id (λh=>h.1))),zOc⟩ (Ji oe vn) ?_
  exact zVg
 ·rintro pQ l Dk rec G' Hc rfl iH lD ⟨rfl,r,aK,ah,rfl⟩;replace iH:=yb iH;have bH:r.ge w0.heap.size:=Rw.ge_of aK A0;refine P0 λWd yh=>?_;have ml:=Uz yh;refine B 9 ?_;have hq:=λ(k:Nat)=>Rw.mem_ge (enc:=cD) (t:=127) (xs:=iG Z 10 f) (k:=k) bH;refine PJ.reH (H':=(b2,oC #[r.val (iG Z 10 f).length] 76)::(r.hp cD 127 (iG Z 10 f)++(l,.loop rec)::fq Dk)) UA ?_;refine BI (.inl rfl) zJ λa W H' hF hS dX aQ=>?_;refine⟨_,by rw[results_tmp results265];exact congrArg (λu=>Result.ok u W) (hF 4 _ rfl),r,rfl,?_,bH,ah,?_⟩
  ·refine(hS.links w0 A0).below λk hk hx=>?_;exact Xi
  cases r with
  |nil=>trivial
  |row b cap sp=>exact hS.own _ (dX (b,aO cD 127 (iG Z 10 f) sp) oR (ml _ oR).1)
 exact Pn
theorem nap(hZ:FxOk Z)(f:Nat->Int)(hf:ec f)(bk bl:Nat)(w0 w:World)(Lu:St Gh.no [w0] [(bl,oC #[ab 0] 3),(bk,oC (dg f) 127)] w)(G4:w0.heap.size<=bk)(yM:w0.heap.size<=bl)(hg:Glb w0):Calls prog 200 #[.func (.func 266) #[] #[ptr bl 0,ptr bk 0]] w (aD w0 cD 32 127 (iG Z 10 f) id):=by
 refine S6 Gh.no [(bl,oC #[ab 0] 3),(bk,oC (dg f) 127)] (vs:=[_]) func200 rfl ntmps200 rfl Lu ?_;refine B 8 ?_;refine npn (enc:=cD) (m:=32) (t:=127) (xs:=iG Z 10 f) (v:=id) call265 rfl rfl rfl (λW hS=>nUm hZ f hf bk bl w0 W hS G4 yM hg) ?_;intro r bH ah;refine B 4 ?_;exact bM (.inl rfl) results200 bj λW hS=>⟨r,rfl,hS.base A0 (Rw.over bH),bH,ah,by cases r with|nil=>exact True.intro|row b cap sp=>exact hS.own _ A0⟩
theorem nti(hZ:FxOk Z)(f:Nat->Int)(hf:ec f)(w:World)(hg:Glb w):Calls prog 136 #[.agg (dg f)] w (aD w cD 32 127 (iG Z 10 f) id):=by
 refine eN func136 ntmps136 ?_;refine NH ?_;refine yW ?_;intro b1 fX jq;refine B 6 ?_;refine Cf (Hz:=[]) (H0:=[(b1,oC (dg f) 127)]) (first:=[]) (cap:=[]) (v:=λp:Nat×Nat=>.func (.func 266) #[] #[ptr p.1 0,ptr p.2 0]) (Hn:=λp=>[(p.1,oC #[ab 0] 3),(p.2,oC (dg f) 127)]) (Φ:=λ_=>True) rfl rfl call201 rfl rfl rfl True.intro (λW hS=>nji f W) ?_;rintro⟨bl,bk⟩-jt;dsimp only at jt ⊢;have yM:w.heap.size<=bl:=by
  rcases jt (bl,_) A0 with h|h
  ·exact absurd h (by simp[keys])
  exact h.1.1
 have G4:w.heap.size<=bk:=by
  rcases jt (bk,_) A1 with h|h
  ·exact absurd h (by simp[keys])
  exact h.1.1
 refine OJ.dropAt (i:=2) rfl zD ?_;refine OJ.reH (H':=[(bl,oC #[ab 0] 3),(bk,oC (dg f) 127)]) rfl ?_;refine npn (enc:=cD) (m:=32) (t:=127) (xs:=iG Z 10 f) (v:=id) call200 rfl rfl rfl (λW hS=>nap hZ f hf bk bl w W hS G4 yM hg) ?_;intro r bH ah;refine B 4 ?_;exact bM (.inl rfl) results136 bj λW hS=>⟨r,rfl,hS.base A0 (Rw.over bH),bH,ah,by cases r with|nil=>exact True.intro|row b cap sp=>exact hS.own _ A0⟩
theorem S7{g:Gp}(h:ju Z g c=0):c.epoch=g.epoch+1:=by grind [ju,kH]
theorem G5:oj 512=[512,256,128,64,32,16,8,4,2]:=by simp_all[Uw,Xf]
theorem aan:jz 0=[513,257,129,65,33,17,9,5,3]:=by unfold jz;rw[show(512+(0:Int)).toNat=512 from rfl,G5];rfl
theorem aao:dH 0=[256,128,64,32,16,8,4,2,1]:=by unfold dH;rw[show(512+(0:Int)).toNat=512 from rfl,G5];rfl
def vg (m:Nat):Prop:=∀e,m≠2^e
theorem vg.of{m:Nat}(a:Nat)(h:2^a<m)(h2:m<2^(a+1)):vg m:=λe he=>by
 subst he;have h3:=(Nat.pow_lt_pow_iff_right (by decide:1<2)).1 h;have h4:=(Nat.pow_lt_pow_iff_right (by decide:1<2)).1 h2;omega
theorem vg.l{m:Nat}(h:vg m)(h0:1<=m):vg (2*m):=λe he=>by
 cases e with
 |zero=>simp at he;omega
 |succ e=>rw[Nat.pow_succ]at he;exact h e aa
theorem vg.r{m:Nat}(h0:1<=m):vg (2*m+1):=λe he=>by
 cases e with
 |zero=>simp at he;omega
 |succ e=>rw[Nat.pow_succ]at he;omega
theorem n7h(p:Int):∀(k m:Nat),1<=m->vg m->fg [(512,p)] k (m:Int)=[]
 |0,_,_,_=>rfl
 |k+1,m,h1,h2=>by
  have hn:¬(bV [((512:Int),p)] (m:Int)).isSome=true:=by
   rw[L1];have:¬(512:Int)=(m:Int):=λe=>h2 9 aa;rw[if_neg this,nJk.2 zJ];simp
  by_cases h3:(512:Int)<=(m:Int)
  ·exact nTg hn h3
  rw[n1e hn h3];have e1:=n7h p k (2*m) aa (h2.l h1);have e2:=n7h p k (2*m+1) aa (vg.r h1);rw[show(2*(m:Int))=((2*m:Nat):Int) by omega,show(((2*m:Nat):Int)+1)=((2*m+1:Nat):Int) by omega,e1,e2];rfl
theorem G7{p:Int}(hp:dY p):jF [⟨512,p⟩]=0:=by
 refine nOl λi x hx=>?_;cases i with
 |succ i=>simp at hx
 |zero=>
  simp only[Jt,vP]at hx;subst hx;refine⟨by show(1:Int)<=512;decide,by show(512:Int)<=1023;decide,λy h=>by omega,hp,?_⟩;have hm:dZ [⟨512,p⟩]=[0]:=by unfold dZ pA eQ;simp[Go.Lib.compact];rfl
  rw[hm];show bV (yI [0]) 512=some true;show bV (XC [] 0) 512=some true;unfold XC;rw[aao];simp[Iy,G8]
theorem n3l(n:Int):jT [] n=[]:=rfl
theorem L2(d:Int):oU [] d=[]:=by
 unfold oU;rw[n3l];induction dH d with
 |nil=>rfl
 |cons x l ih=>rw[List.foldl_cons,n3l,ih]
theorem tr0:jF []=0:=nOl λi x hx=>by simp at hx
theorem OF(hk:ch.kind=1)(hd:ch.dev=0)(hp:dY ch.pub):aX [] [ch]=[⟨512,ch.pub⟩]:=by
 show yR [] ch=_;unfold yR;rw[if_neg aa];unfold mA;rw[if_pos ⟨tr0,hp⟩,hd];show pX (dA (oU [] 0) 512 ch.pub)=_;rw[L2];show pX [(512,ch.pub)]=_;unfold pX eQ;simp[L1]
theorem aj7{p:Int}(hp:dY p):kC [⟨512,p⟩] 0=[]:=by
 unfold kC qb;rw[List.flatMap_eq_nil_iff];intro t ht;have h9:=tA.1 ht;have key:∀m:Nat,1<=m->m<=1023->vg m->ou [⟨512,p⟩] (m:Int)=[]:=λm h1 h2 h3=>by
  unfold ou;rw[if_pos ⟨G7 hp,by omega,by omega⟩];exact n7h p 10 m h1 h3
 rw[aan];have:ou [⟨512,p⟩] ((([513,257,129,65,33,17,9,5,3]:List Int)[t]?).getD 0)=[]:=by
  rcases(show t=0\/t=1\/t=2\/t=3\/t=4\/t=5\/t=6\/t=7\/t=8 by omega)with rfl|rfl|rfl|rfl|rfl|rfl|rfl|rfl|rfl
  ·exact key 513 zB zB (vg.of 9 zB zB)
  ·exact key 257 zB zB (vg.of 8 zB zB)
  ·exact key 129 zB zB (vg.of 7 zB zB)
  ·exact key 65 zB zB (vg.of 6 zB zB)
  ·exact key 33 zB zB (vg.of 5 zB zB)
  ·exact key 17 zB zB (vg.of 4 zB zB)
  ·exact key 9 zB zB (vg.of 3 zB zB)
  ·exact key 5 zB zB (vg.of 2 zB zB)
  exact key 3 zB zB (vg.of 1 zB zB)
 rw[this];rfl
theorem nsl(f:Nat->Int):lY f f=true:=DW f
abbrev gZ (f:Int):Gp:=⟨f,0,λ_=>0,[],[]⟩
theorem S9{f:Int}(hf:p7 f):dR (gZ f)=true:=by
 refine AB.2 ⟨⟨hf,by show(0:Int)<=0;decide,by show(0:Int)<=1099511627776;decide,tr0⟩,?_,?_,rfl⟩
 ·rintro⟨_,h|h⟩
  ·exact absurd h (by show ¬0<0;decide)
  rw[nsl]at h;cases h
 unfold dZ pA eQ;simp[Go.Lib.compact];rfl
structure G9 (ch:Ch):Prop where
 k:ch.kind=1
 d:ch.dev=0
 p:dY ch.pub
 v:dY ch.ver
 c:ch.cut=0
theorem aap(h:G9 ch):jC [ch]=true:=by
 refine QG.2 ⟨λi x hi hx=>?_,by show 1<=64;decide⟩;cases i with
 |succ i=>simp at hx
 |zero=>
  simp only[Jt,vP]at hx;subst hx;exact⟨⟨.inl ⟨h.k,⟨h.p,h.v⟩,h.c⟩,by rw[h.d];exact⟨by decide,by decide⟩⟩,rfl⟩
theorem mb0(d:Int):gS [] d=false:=by unfold gS;simp
theorem aj9{f:Int}(h:G9 ch):mz (gZ f) 0 [ch]=true:=by
 unfold mz EC;simp[mb0,h.k,h.d]
theorem Ta{f:Int}(hf:p7 f)(h:G9 ch):eT (gZ f) 0 [ch]=0/\fZ (gZ f) 0 [ch]=[]:=by
 have h1:AD (gZ f) 0 [ch]=true:=by unfold AD;rw[aap h,aj9 h];rfl
 constructor
 ·unfold eT;rw[if_pos (S9 hf),if_pos h1]
 unfold fZ;rw[if_pos ⟨S9 hf,h1⟩,OF h.k h.d h.p];exact aj7 h.p
theorem aas(h:G9 ch):mH 0 [ch]=[]:=by
 unfold mH;have:[ch].filter (λx=> !rf 0 x)=[]:=by simp[rf,h.d]
 rw[this];exact nam
structure mT (Z:Fx) (fo:Int) (ch:Ch) (c:Cm):Prop where
 h:G9 ch
 v:ch.ver=(Z.ge 4 300).1
 f:c.folder=fo
 e:c.epoch=1
 p:c.par=λ_=>0
 a:c.author=0
 ct:c.chs=[ch]
 pl:c.path.length=10
 po:∀x∈c.path,dY x
 b:c.bxs=[]
 w:c.wes=[]
 sr:c.sr=qP Z 300 (cy (mF Z c))
 ss:c.ss=vV Z 300 (cy (mF Z c))
theorem mT.next(hZ:FxOk Z){f:Int}(hf:p7 f)(h:mT Z f ch c):ju Z (gZ f) c=0:=by
 have jH:sL c=0:=by
  unfold sL;rw[if_pos];exact⟨by rw[h.f];exact hf,by rw[h.e];decide,by rw[h.e];decide,by rw[h.a];exact⟨by decide,by decide⟩,by rw[h.ct];exact aap h.h,h.pl,by rw[h.b];decide,by rw[h.w];decide,λi x hx=>h.po x (cP hx),λi x hx=>by rw[h.b]at hx;simp at hx,λi x hx=>by rw[h.w]at hx;simp at hx⟩
 have bN:kH (gZ f) c=true:=by unfold kH;rw[h.f,h.e,h.p];simp[nsl]
 have hn:=Ta hf h.h;have hb:uO (gZ f) c=true:=by unfold uO;rw[h.b,h.a,h.ct,hn.2];rfl
 have hw:wv c=true:=by unfold wv;rw[h.w,h.a,h.ct,aas h.h];rfl
 have hs:zd Z (gZ f) c=true:=by
  unfold zd kF;rw[if_neg (by rw[mb0];decide),h.ct,h.sr,h.ss];show oO Z ch.ver _ _ _=true;rw[h.v];exact LR hZ zB _
 have hr:mI (aX [] [ch]) 0=0:=by
  rw[OF h.h.k h.h.d h.h.p];unfold mI;rw[if_pos (G7 h.h.p),if_pos];show(bV (dL [⟨512,ch.pub⟩]) 512).isSome=true;have:dL [⟨512,ch.pub⟩]=[(512,ch.pub)]:=rfl;rw[this,L1,if_pos rfl];rfl
 unfold ju;rw[if_pos (S9 hf),if_pos jH,if_pos bN,h.a,h.ct,if_pos hn.1,if_pos hb,if_pos hw,if_pos hs];exact hr
theorem aat(Z:Fx)(c:Cm):bF Z [c] 1=[(dk (aB Z c),0)]:=by
 show(if dk (aB Z c)∈([]:List (Dk×Int)).map (·.1)then[]else[]++[(dk (aB Z c),((0:Nat):Int))])=_;rw[if_neg zJ];rfl
theorem aka(hZ:FxOk Z)(hi:p7 fo.id)(h:mT Z fo.id ch c)(hf:dk fo.first=dk (aB Z c)):mN Z [c] fo=[(0,kT Z (gZ fo.id) c)]:=by
 have h1:Oe Z [c] fo=some 0:=by
  unfold Oe;rw[show([c]:List Cm).length=1 from rfl,aat,hf];simp[oY]
 have h2:tJ Z [c] fo=some 0:=by
  unfold tJ;rw[h1];show(if ju Z (gZ fo.id) c=0 then some 0 else none)=some 0;rw[if_pos (h.next hZ hi)]
 have h3:zq Z [c] (0,kT Z (gZ fo.id) c)=[]:=by
  unfold zq AN vC;rw[show([c]:List Cm).length=1 from rfl,aat];have:Fp Z [c] (kT Z (gZ fo.id) c) 0=false:=by
   show(lY c.par _&&decide (ju Z (kT Z (gZ fo.id) c) c=0))=false;have hne:¬ju Z (kT Z (gZ fo.id) c) c=0:=λe=>by
    have h5:=S7 e;have h6:(kT Z (gZ fo.id) c).epoch=c.epoch:=rfl;omega
   rw[decide_eq_false hne,Bool.and_false]
  simp[this]
 unfold mN;rw[h2];show[(0,kT Z (gZ fo.id) c)]++CV Z [c] 1 ([]++zq Z [c] (0,kT Z (gZ fo.id) c))=_;rw[h3];rfl
theorem aau(hZ:FxOk Z)(hi:p7 fo.id)(h:mT Z fo.id ch c)(hf:dk fo.first=dk (aB Z c)):iE Z [c] [fo]=[(c,true,aX [] c.chs,kT Z (gZ fo.id) c)]:=by
 show B9 Z [c] fo++[]=_;unfold B9;rw[aka hZ hi h hf];rfl
theorem D1(hZ:FxOk Z)(hi:p7 fo.id)(h:mT Z fo.id ch c)(hf:dk fo.first=dk (aB Z c)):mP Z [c] [fo] [] []=lz (c,true,aX [] c.chs,kT Z (gZ fo.id) c) 10++[([nq (dk (aB Z c)) 9],bE (dk (aB Z c)))]:=by
 unfold mP;rw[aau hZ hi h hf];show(lA _++[])++[]++[]=_;unfold lA;rw[show(c,true,aX [] c.chs,kT Z (gZ fo.id) c).1=c from rfl,h.b,h.w,h.pl];simp[On];exact⟨rfl,rfl⟩
theorem n8h{p:Ap}:∀{n:Nat} {d:List Se×Se},d∈lz p n↔∃k y,k<n/\p.1.path[k]? =some y/\d∈Ls p k y:=
 by intro x;induction x<;>(intros;grind [lz])
theorem Tb(p:Ap):∀d∈lA p,d.1≠ []:=by grind [lA,FY,n8h,Ls,On,Lt]
theorem nZj{cs:List Cm}{fos:List Fo}{gs:List Gr}{xs:List Ir}:∀d∈mP Z cs fos gs xs,d.1≠ []:=by
 intro d hd;unfold mP at hd;rcases bA.1 hd with hd|hd
 ·rcases bA.1 hd with hd|hd
  ·obtain⟨p,_,hd⟩:=Tc.1 hd;exact Tb p d hd
  obtain⟨g,_,hd⟩:=Tc.1 hd;unfold C2 at hd;split at hd
  ·split at hd
   ·obtain⟨o,_,hd⟩:=Tc.1 hd;unfold LC at hd;split at hd
    ·simp at hd;subst hd;simp
    simp at hd
   simp at hd
  simp at hd
 all_goals grind [I0]
theorem zw.none{D:List (List Se×Se)}(hD:∀d∈D,d.1≠ []){s:Se}(h:zw D [] s):False:=by
 induction h with
 |base h=>simp at h
 |@step d h1 _ ih=>
  cases hd:d.1 with
  |nil=>exact hD d h1 hd
  |cons f l=>exact ih f (by rw[hd];exact .head _)
theorem kJ.nil{D:List (List Se×Se)}(hD:∀d∈D,d.1≠ [])(h:kJ D [] lim ls):ls=[]:=by
 cases ls with
 |nil=>rfl
 |cons s l=>exact((h.iff s).1 A0).none hD |>.elim
theorem L3(xs:List Se):∀j,(lS xs j).Sublist (xs.take j):=
 by intro x;induction x<;>(intros;grind [lS,np])
theorem L4(xs:List Se):(gq xs).Pairwise (λx y=>ly x y<=0):=by
 rw[List.pairwise_iff_getElem];intro i j hi hj uy;exact nNh CO.ord xs i j _ _ uy (kx hi) (kx hj)
theorem nnj(xs:List Se):(cA xs).Pairwise (λx y=>ly x y<=0):=by
 have h:=L3 (gq xs) (gq xs).length;rw[vW]at h;exact(L4 xs).sublist h
theorem nrj:∀{a b:List Se},a.Perm b->a.Pairwise (λx y=>ly x y<=0)->b.Pairwise (λx y=>ly x y<=0)->(∀s∈a,wT s)->a=b
 | [],b,hp,_,_,_=>(List.Perm.nil_eq hp)
 |x::a,[],hp,_,_,_=>absurd hp.length_eq zJ
 |x::a,y::b,hp,ha,hb,hB=>by
  have hxy:x=y:=by
   have h1:=hp.mem_iff.1 (List.mem_cons_self (a:=x) (l:=a));have h2:=hp.mem_iff.2 (List.mem_cons_self (a:=y) (l:=b));rcases bX.1 h1 with h1|h1
   ·exact h1
   rcases bX.1 h2 with h2|h2
   ·exact h2.symm
   have h3:=(List.pairwise_cons.1 ha).1 y h2;have h4:=(List.pairwise_cons.1 hb).1 x h1;have h5:=CO.ord.anti x y;exact nqk (hB x A0) (hB y (.tail _ h2)) aa
  subst hxy;rw[nrj ((List.perm_cons x).1 hp) (List.pairwise_cons.1 ha).2 (List.pairwise_cons.1 hb).2 λs hs=>hB s (.tail _ hs)]
theorem nyn{a b:List Se}(hB:∀s∈a,wT s)(h:∀s,s∈a↔s∈b):cA a=cA b:=
 nrj ((List.perm_ext_iff_of_nodup (Z3 hB) (Z3 λs hs=>hB s ((h s).2 hs))).2 λs=>by rw[CU,CU,h s]) (nnj a) (nnj b) λs hs=>hB s ((CU a s).1 hs)
theorem nbm{a:List Se}(hB:∀s∈a,wT s)(hn:a.Nodup)(hp:a.Pairwise (λx y=>ly x y<=0)):cA a=a:=
 nrj ((List.perm_ext_iff_of_nodup (Z3 hB) hn).2 λs=>CU a s) (nnj a) hp λs hs=>hB s ((CU a s).1 hs)
theorem L5{a:List Se}(hB:∀s∈a,wT s):cA (cA a)=cA a:=by grind [nyn,CU]
theorem aav:ec (fJ (dk λ_=>0)):=nwi λ_=>⟨by decide,by decide⟩
theorem n1i(p:Int):wT (aS p):=aav
theorem ncj{d:Dk}(h:ec (fJ d))(l:Int):wT (nq d l):=h
theorem Td{d:Dk}(h:ec (fJ d)):wT (bE d):=h
structure vh (Z:Fx) (r:Rcd) (c:Cm) (ch:Ch) (fo:Fo):Prop where
 os:r.os=[(0,ch.pub)]
 cs:r.cs=[c]
 fos:r.fos=[fo]
 gs:r.gs=[]
 xs:r.xs=[]
 i:fo.id=6
 ok:mT Z 6 ch c
 f:dk fo.first=dk (aB Z c)
theorem vh.pls(hZ:FxOk Z){r:Rcd}(h:vh Z r c ch fo):iE Z r.cs r.fos=[(c,true,aX [] c.chs,kT Z (gZ fo.id) c)]:=by
 rw[h.cs,h.fos];exact aau hZ (by rw[h.i];exact⟨by decide,by decide⟩) (by rw[h.i];exact h.ok) h.f
theorem vh.D(hZ:FxOk Z){r:Rcd}(h:vh Z r c ch fo):r.D Z=lz (c,true,aX [] c.chs,kT Z (gZ fo.id) c) 10++[([nq (dk (aB Z c)) 9],bE (dk (aB Z c)))]:=by
 unfold Rcd.D;rw[h.cs,h.fos,h.gs,h.xs];exact D1 hZ (by rw[h.i];exact⟨by decide,by decide⟩) (by rw[h.i];exact h.ok) h.f
theorem vh.fs0(hZ:FxOk Z){r:Rcd}(h:vh Z r c ch fo):r.fs Z 0=[aS ch.pub,nq (dk (aB Z c)) 0]:=by
 unfold Rcd.fs Rcd.fs0;rw[h.pls hZ,h.os];have e:pL [(0,ch.pub)] 0++si [(c,true,aX [] c.chs,kT Z (gZ fo.id) c)] 0=[aS ch.pub,nq (dk (aB Z c)) 0]:=by
  unfold pL si;simp[h.ok.a];rfl
 rw[e];refine nbm (λs hs=>?_) (by simp[aS,nq]) ?_
 ·simp only[bX,dy,or_false]at hs;rcases hs with rfl|rfl
  ·exact n1i _
  exact ncj (nwi (hZ.byt _ _)) _
 all_goals grind [cZ,aS,nq,dk,aB,ly,wK]
theorem vh.fs1(hZ:FxOk Z){r:Rcd}(h:vh Z r c ch fo):r.fs Z 1=[]:=by
 unfold Rcd.fs Rcd.fs0;rw[h.pls hZ,h.os];have e:pL [(0,ch.pub)] 1++si [(c,true,aX [] c.chs,kT Z (gZ fo.id) c)] 1=[]:=by
  unfold pL si;simp[h.ok.a]
 rw[e,nLf]
structure Rc0 (r:Rcd):Prop where
 os:r.os=[]
 cs:r.cs=[]
 fos:r.fos=[]
 gs:r.gs=[]
 xs:r.xs=[]
theorem Rc0.fs{r:Rcd}(h:Rc0 r)(Z:Fx)(dv:Int):r.fs Z dv=[]:=by
 unfold Rcd.fs Rcd.fs0;rw[h.os,h.fos];exact nLf
theorem Rc0.D{r:Rcd}(h:Rc0 r)(Z:Fx):r.D Z=[]:=by
 unfold Rcd.D mP;rw[h.fos,h.gs,h.xs];rfl
theorem kJ.nil0{L0:List Se}(h:kJ [] L0 lim ls)(s:Se):s∈ls↔s∈L0:=by
 constructor
 ·intro hs;have:=(h.iff s).1 hs;cases this with
  |base h1=>exact h1
  |step h1 _=>simp at h1
 exact h.l0 s
theorem akh{k:Se}(hk:wT k)(h:kJ [] [k,k] lim ls):cA ls=[k]:=by
 rw[<-nbm (a:=[k]) (by simpa using hk) zJ zJ];refine nyn (λs hs=>?_) λs=>?_
 ·have:=(h.nil0 s).1 hs;simp at this;subst this;exact hk
 rw[h.nil0 s];simp
theorem vh.ep(hZ:FxOk Z){r:Rcd}(h:vh Z r c ch fo):zw (r.D Z) (r.fs Z 0) (bE (dk (aB Z c))):=by
 have hp:∀k:Nat,k<=9->zw (r.D Z) (r.fs Z 0) (nq (dk (aB Z c)) (k:Int)):=by
  intro k;induction k with
  |zero=>intro _;exact .base (by rw[h.fs0 hZ];exact .tail _ A0)
  |succ k ih=>
   intro hk;obtain⟨y,hy⟩:=ng c.path k (by rw[h.ok.pl];omega);refine zw.step (d:=([nq (dk (aB Z c)) (k:Int)],nq (dk (aB Z c)) ((k+1:Nat):Int))) ?_ λf hf=>?_
   ·rw[h.D hZ];refine bA.2 (.inl (n8h.2 ⟨k,y,by omega,hy,?_⟩));unfold Ls;rw[if_pos aa];exact .tail _ A0
   simp at hf;subst hf;exact ih aa
 refine zw.step (d:=([nq (dk (aB Z c)) 9],bE (dk (aB Z c)))) (by rw[h.D hZ];simp) λf hf=>?_;all_goals grind
theorem vh.k3(hZ:FxOk Z){r:Rcd}(h:vh Z r c ch fo){s:Se}(hs:zw (r.D Z) (r.fs Z 0) s):wT s/\(s.kind=3->s=bE (dk (aB Z c))):=by
 have hB:ec (fJ (dk (aB Z c))):=nwi (hZ.byt _ _);cases hs with
 |base h1=>
  rw[h.fs0 hZ]at h1;simp only[bX,dy,or_false]at h1;rcases h1 with rfl|rfl
  ·exact⟨n1i _,λe=>absurd e (by show ¬(1:Int)=3;decide)⟩
  exact⟨ncj hB _,λe=>absurd e (by show ¬(2:Int)=3;decide)⟩
 |@step d h1 _=>
  rw[h.D hZ]at h1;rcases bA.1 h1 with h1|h1
  ·obtain⟨k,y,_,_,h1⟩:=n8h.1 h1;unfold Ls at h1;rcases bX.1 h1 with rfl|h1
   ·exact⟨n1i _,λe=>absurd e (by show ¬(1:Int)=3;decide)⟩
   split at h1
   ·simp only[bX,dy,or_false]at h1;subst h1;exact⟨ncj hB _,λe=>absurd e (by show ¬(2:Int)=3;decide)⟩
   simp at h1
  simp only[bX,dy,or_false]at h1;subst h1;exact⟨Td hB,λ_=>rfl⟩
theorem OG{α:Type}{p:α->Bool}{a:α}:∀{l:List α},l.Nodup->a∈l->p a=true->(∀x∈l,p x=true->x=a)->l.filter p=[a]
 | [],_,h,_,_=>by simp at h
 |x::l,hn,h,hp,hu=>by
  rw[List.nodup_cons]at hn;rcases bX.1 h with rfl|h
  ·rw[List.filter_cons,if_pos hp];congr 1;rw[List.filter_eq_nil_iff];intro y hy hpy;have:=hu y (.tail _ hy) hpy;subst this;exact hn.1 hy
  have hx:¬p x=true:=λGB=>by
   have:=hu x A0 GB;subst this;exact hn.1 h
  rw[List.filter_cons,if_neg hx];exact OG hn.2 h hp λy hy=>hu y (.tail _ hy)
theorem vh.epL(hZ:FxOk Z){r:Rcd}(h:vh Z r c ch fo)(hl:kJ (r.D Z) (r.fs Z 0) lim ls):epL (cA ls)=[dk (aB Z c)]:=by
 have hB:∀s∈ls,wT s:=λs hs=>(h.k3 hZ ((hl.iff s).1 hs)).1;unfold Px.epL;rw[OG (a:=bE (dk (aB Z c))) (Z3 hB) ((ndg hl _).2 (h.ep hZ)) rfl λx hx hk=>(h.k3 hZ ((ndg hl x).1 hx)).2 (by simpa using hk)];rfl
theorem vh.why(hZ:FxOk Z){r:Rcd}(h:vh Z r c ch fo)(hl:kJ (r.D Z) (r.fs Z 0) lim ls):ls[0]? =some (aS ch.pub):=by
 have h1:=hl.pf;have h2:cA (r.fs Z 0)=r.fs Z 0:=by
  have hd:∀s∈r.fs0 Z 0,wT s:=λs hs=>(h.k3 hZ (.base (by unfold Rcd.fs;rw[CU];exact hs))).1;unfold Rcd.fs;exact L5 hd
 rw[h2,h.fs0 hZ]at h1;obtain⟨t,ht⟩:=h1;rw[<-ht];rfl
def zz (ca:Option Addr) (cc:Nat) (pv:Value) (cf:Nat->Int) (sr ss:Int):Array Value:=(ab 6::ab 1::tr (ab 0:: .slice ca 1 cc::pv::ao::ao::lL cf [ab sr,ab ss])).toArray
def pN (ca:Option Addr) (cc:Nat) (ch:Ch) (path:List Int) (pa:Option Addr) (pc:Nat) (cf:Nat->Int) (sr ss:Int):Cm:=⟨6,1,λ_=>0,0,[ch],ca,cc,path,pa,pc,[],none,0,[],none,0,cf,sr,ss⟩
theorem nSh{ca:Option Addr}{cc:Nat}{path:List Int}{pa:Option Addr}{pc:Nat}{cf:Nat->Int}{sr ss:Int}(hc:G9 ch)(hl:path.length=10)(hp:∀x∈path,dY x)(hf:ec cf)(h1:jR sr)(h2:jR ss):bP (pN ca cc ch path pa pc cf sr ss):=by
 refine⟨⟨λ_=>⟨by show(0:Int)<=0;decide,by show(0:Int)<256;decide⟩,hf,by show 1<=10;decide,by show path.length<=12;omega,by show 0<=40;decide,by show 0<=10;decide,λx hx=>(by simp[pN]at hx),λx hx=>(by simp[pN]at hx)⟩,?_⟩;have Ft:=hc.p;have hv1:=hc.v;have C3:V.fineL (path.map V.int):=by
  clear hl;induction path with
  |nil=>simp[V.fineL]
  |cons x l ih=>
   rw[dt];have:=hp x A0;unfold V.fineL;exact⟨by simp only[V.fine];omega,ih λy hy=>hp y (.tail _ hy)⟩
 have hpd:V.depthL (path.map V.int)<=1000000000:=by
  clear hl hp C3;induction path with
  |nil=>simp[V.depthL]
  |cons x l ih=>rw[dt];simp only[V.depthL,V.depth];omega
 have ht:∀f:Nat->Int,(qd (cy f)).size=32:=λf=>by rw[EI,nH]
 unfold mC pN;simp only[V.fineL,V.fine,dt,eL,BW,V.depthL,V.depth,ht,dC,fb,eG,hl,C3,hc.k,hc.d,hc.c];all_goals grind
theorem akj(f:Int)(ch:Ch):kF (gZ f) 0 [ch]=ch.ver:=by unfold kF;rw[if_neg (by rw[mb0];decide)];rfl
theorem n8g(hZ:FxOk Z){k:Int}(hk:Dm k)(w:World):Calls prog 79 #[ab k] w (aM w (.tuple #[ab (Z.ge 4 k).1,ab 0])):=by
 have h:=njn k w;have e:qJ (Jn k)= .tuple #[ab (Z.ge 4 k).1,ab 0]:=by
  rw[<-hZ.ge,Np hk];unfold Jn qJ;rw[if_pos hk]
 rwa[e]at h
theorem Ha(hZ:FxOk Z)(f:Nat->Int)(s:ByteArray):Dm (Vx Z f s):=hZ.bd _ _
end Px
