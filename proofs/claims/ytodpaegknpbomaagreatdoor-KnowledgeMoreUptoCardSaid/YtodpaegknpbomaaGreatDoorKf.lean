/- Contracts of functions of the program. No condition beyond those stated. -/
import Derived.Test.YtodpaegknpbomaaGreatDoorKe
import Derived.Test.YtodpaegknpbomaaGreatDoorProg
import Derived.LaidEql
import Derived.Stop.Asserts
import Derived.RowKitTokens
set_option linter.unusedSimpArgs false
set_option linter.unusedVariables false
set_option linter.unusedSectionVars false
set_option linter.unnecessarySimpa false
set_option maxRecDepth 20000
set_option maxHeartbeats 8000000
namespace Px
open Go Go.RowKit Go.Proofs Go.Proofs.Tryz
variable {Z:Fx} {g:Gp} {F:ad} {cs:List Cm} {l:List Int} {L:List World} {t:Nat} {fr:Nat×Nat} {r:Rw} {W w:World}
theorem bO.slF{C:Cx}{H F2:ad}{α:Type}{enc:α->List Value}{m tx e' c:Nat}{a:Option Addr}{xs:List α}(hm:∀x,(enc x).length=m)(h1:∀x,∀u∈enc x,u.oneCell'=true)(hU:C.P.underlying tx=some (.slice e'))(h:ll (λx=>(enc x).toArray) m F a xs)(hs:∀p∈F,p∈F2):bO C (dI F2) L H enc m tx (.slice a xs.length c) xs:=by
 rcases h with h|⟨b,off,cs,t,fr,e1,e2,e4⟩
 ·subst h;exact zhh
 subst e1;have hl:off+xs.length*m<=cs.size\/xs=[]:=by
  exact zDg
 rcases hl with hl|h0
 ·exact bO.at hm h1 hU (λW hS=>(hS.fzLies _ (hs _ e2)).2) hl (nUf xs hm e4)
 subst h0;exact zhh
theorem nGj{α:Type}{enc:α->List Value}{x:α}{A:Array Value}(h:A=(enc x).toArray):(oC A t:Obj)=aO enc t ([]++[x]) []:=by subst h;simp[gN]
theorem o8.toO{N M:Nat}{p:Pv}(h:o8 Z cs N w p)(hN:N<=M)(hs:∀k,k<N->W.heap[k]? =w.heap[k]?):o8 Z cs M W p:=⟨h.ids.up hN hs,h.at_.up hN hs⟩
structure AlV (Z:Fx) (cs:List Cm) (fo:Fo) (F:ad) (ds:List Cd):Prop where
 eq:ds.map sg=mN Z cs fo
 len:ds.length<=cs.length
 d:∀d∈ds,cs[kg d]? =some d.c/\0<=d.at_/\sa F d.x
theorem nTe{n:Nat}:∀{H:ad},(∀q∈H,n<=q.1)->Over n H
 | [],_=>trivial
 |p::H,h=>⟨h p A0,nTe λq hq=>h q (.tail _ hq)⟩
theorem Rw.geA{n b cap:Nat}{sp:List Value}(h:r.ge n)(hb:r.isAt b):Rw.ge n (Rw.row b cap sp):=by
 cases r with
 |nil=>exact hb.elim
 |row b' c' s'=>have e:b'=b:=hb;subst e;exact h
theorem n3m(hZ:FxOk Z)(cs:List Cm)(cJ:cs.length<=1000)(dz:∀c∈cs,bP c)(N:Nat)(la:Option Addr)(lc:Nat)(w:World)(hN:N<=w.heap.size)(aJ:ai cG 73 N w la cs)(hC:∀c∈cs,dm N w c)(fo:Fo)(hg:Glb w):Calls prog 33 #[.agg (sR fo),.slice la cs.length lc] w (λe w'=>∃(q:((Option Addr×Nat)×(Option Addr×Nat))×List Cd) (F':ad),e= .returned (.tuple #[.slice q.1.1.1 q.2.length q.1.1.2,.slice q.1.2.1 q.2.length q.1.2.2])/\Below w.heap.size w w'/\(∀p∈F',w.heap.size<=p.1/\w'.heap[p.1]? =some p.2)/\AlV Z cs fo F' q.2/\ll (λx=>(aA x).toArray) 1 F' q.1.1.1 (q.2.map λd=>d.at_)/\ll (λx=>(lR x).toArray) 36 F' q.1.2.1 (q.2.map λd=>d.x)):=by
 have hg4:=hg.lt;refine nB (dI []) [] (vs:=[_,_]) func33 rfl ntmps33 rfl (N0 w) ?_;refine B 2 ?_;refine yX ?_;intro b2 w2 da bW eU dx dq;refine B 7 ?_;refine nv (α:=Pv) (v:=λp=>.agg (zf Z cs la lc p)) (Φ:=λW p w1=>o8 Z cs w1.heap.size w1 p/\(∀q,p.ia=some q->W.heap.size<=q.block)/\∀q,p.ta=some q->W.heap.size<=q.block) call61 rfl rfl rfl (λW hS=>Px.newPool hZ cs cJ dz N la lc W cM (aJ.up (ak _) hS.sm) (λc hc=>(hC c hc).up (ak _) hS.sm) (hg.old hS A1 zI True.intro)) ?_;rintro Wp ⟨ia,ic,ta,tc⟩ wp BJ Qi ⟨Ft,Rm,hp3⟩;try dsimp only at Ft Rm hp3
 have hzp:=Qi.size;have hzq:=(BJ.links w A1).size;refine B 1 ?_;refine yW ?_;intro b6 jD qu;refine B 5 ?_;refine ax (.agg (zf Z cs la lc ⟨ia,ic,ta,tc⟩)) ?_;refine ax (.agg (sR fo)) ?_;refine Vb (γ:=Cd×Bool) (v:=λx=>.tuple #[.agg (iK x.1),.bool x.2]) (Φ:=λF x=>(x.2=true/\tJ Z cs fo=some (kg x.1)/\uT Z cs (g0 fo) x.1/\sa F x.1.x)\/(x.2=false/\tJ Z cs fo=none)) call62 rfl rfl rfl (λW hS=>n7m hZ cs cJ dz W.heap.size la lc W (ak _) (aJ.up cM (hS.same A2 hN zI ⟨by dsimp only;omega,True.intro⟩)) (λc hc=>(hC c hc).up cM (hS.same A2 hN zI ⟨by dsimp only;omega,True.intro⟩)) ia ic ta tc (Ft.toO (hS.links wp A0).size (hS.same A0 (ak _) zI ⟨by dsimp only;omega,True.intro⟩)) fo (hg.old hS A2 zI ⟨by dsimp only;omega,True.intro⟩)) ?_;rintro⟨d0,k0⟩ F0 sG Vj;dsimp only at sG ⊢;refine B 4 ?_;refine yW ?_;intro b7 jy vr;refine B 6 ?_;rcases sG with⟨rfl,jt,y9,hgf⟩|⟨rfl,sG⟩
 ·refine xv ?_;refine B 8 ?_;refine ax (.agg (iK d0)) ?_;refine iS underlying162 sizeOf159 zeroValue159 rfl rfl rfl rfl rfl rfl rfl ?_;refine yW ?_;intro b22 Pt afk;refine B 4 ?_;refine CJ.reH (H':=[(b22,aO ow 159 ([]++[d0]) []),(b7,oC (iK d0) 159),(b6,oC (zf Z cs la lc ⟨ia,ic,ta,tc⟩) 156)]) (by rw[<-nGj (enc:=ow) (A:=iK d0) rfl];rfl) ?_;refine CJ.loop (α:=((((List Cd×List Cd)×List Cd)×(Rw×Rw))×(((Nat×Nat)×Nat)×List Value)×ad)) (λp9=>[(2,ptr b2 0),(4,p9.1.2.1.val (p9.1.1.1.1.map λd=>d.at_).length),(5,p9.1.2.2.val (p9.1.1.1.1.map λd=>d.x).length),(6,ptr b6 0),(9,.slice (some ⟨p9.2.1.1.1.1,p9.2.1.1.1.2,none⟩) p9.1.1.1.2.length p9.2.1.1.2)]) (λp9=>[(p9.2.1.1.1.1,aO ow 159 (p9.1.1.2++p9.1.1.1.2) p9.2.1.2),(b7,oC (iK d0) 159),(b6,oC (zf Z cs la lc ⟨ia,ic,ta,tc⟩) 156)]++(p9.1.2.1.hp aA 3 (p9.1.1.1.1.map λd=>d.at_)++(p9.1.2.2.hp lR 53 (p9.1.1.1.1.map λd=>d.x)++[]))) (λp9=>[wp,w2,w]) (λp9=>dI p9.2.2) (λp9=>FN Z cs fo (p9.1.1.1.1.map sg) (p9.1.1.1.2.map sg)/\(∀x∈p9.1.1.1.1++p9.1.1.1.2,cs[kg x]? =some x.c/\0<=x.at_/\sa p9.2.2 x.x)/\(∀q∈p9.2.2,w.heap.size<=q.1)/\p9.1.2.1.Fr (dI p9.2.2) [wp,w2,w]/\p9.1.2.1.Fit 1 (p9.1.1.1.1.map λd=>d.at_)/\p9.1.2.2.Fr (dI p9.2.2) [wp,w2,w]/\p9.1.2.2.Fit 36 (p9.1.1.1.1.map λd=>d.x)/\ae [wp,w2,w] p9.2.1.1.1.1/\p9.1.1.1.2.length<=p9.2.1.1.2/\p9.2.1.2.length=(p9.2.1.1.2-p9.1.1.1.2.length)*143/\(p9.1.1.1.2=[]\/p9.2.1.1.1.2=p9.1.1.2.length*143)/\p9.1.1.1.1.length<=cs.length) (λp9=>cs.length-p9.1.1.1.1.length) (((([],[d0]),[]),(.nil,.nil)),(((b22,0),1),[]),F0++[]) ⟨FN.first jt y9,λx hx=>by(have e:x=d0:=by simpa using hx);subst e;exact⟨y9.at_,y9.nn,hgf.mono (λp hp=>by simp[hp])⟩,λq hq=>(Vj q (by simpa using hq)).not A2,True.intro,rfl,True.intro,rfl,by simp only[ae,and_true];omega,by simp,rfl,.inr zJ,by simp⟩ zR rfl rfl zJ ?_
  rintro⟨⟨⟨⟨vs,qs⟩,ps⟩,r1,r2⟩,⟨⟨⟨bq,off⟩,cq⟩,RN⟩,F⟩ ⟨hI,iq,dS,qf,iU,iy,gd,Zo,Vk,hsq,NA,hvl⟩;dsimp only at hI iq dS qf iU iy gd Zo Vk hsq NA hvl ⊢;have mM:r1.ge wp.heap.size:=Rw.ge_fz qf A0;have ee:r2.ge wp.heap.size:=Rw.ge_fz iy A0;have anC:wp.heap.size<=bq:=Zo.1;refine B 8 ?_;refine aG ?_ ?_
  ·intro ar;refine B 5 ?_;obtain⟨d,qt,rfl⟩:∃d qt,qs=d::qt:=by cases qs with|nil=>(exfalso;simp at *)|cons d qt=>exact⟨d,qt,rfl⟩
   obtain rfl:off=ps.length*143:=NA.resolve_left zJ;refine B 3 ?_;refine rq (.agg (iK d)) (eV (i:=0) rfl isAgg159 sizeOf159 rfl (nqh (o:=ps.length) (k:=0) Fe zJ rfl)) (va (nMf (enc:=ow) (o:=ps.length) (k:=0) (sp:=RN) Fe zJ rfl)) ?_;refine B 1 ?_;refine yW ?_;intro gf lP pW;refine B 4 ?_;refine CJ.less (E':=[(2,_),(4,_),(5,_),(6,_),(9,_),(10,_),(23,_),(24,_),(25,_),(28,_),(29,_),(30,_)]) zR ?_;refine dN 9 [3,4,8] [[],[0],[]] (λcv L' H'=>let iC:Nat×Obj:=(b6,oC (zf Z cs la lc ⟨ia,ic,ta,tc⟩) 156);let dU:ad:=[(gf,oC (iK d) 159),(bq,aO ow 159 (ps++d::qt) RN),(b7,oC (iK d0) 159),iC]++(r1.hp aA 3 (vs.map λd=>d.at_)++(r2.hp lR 53 (vs.map λd=>d.x)++[]));match cv with| [none,none,none]=>L'=[wp,w2,w]/\H'=dU| [none,none,some v8]=>∃(oy:Nat),v8= .slice (aj oy) 1 1/\L'=[wp,w2,w]/\H'=(oy,oC (bD d.x) 53)::dU/\ae [wp,w2,w] oy| [some v3,none,none]=>∃(eH:Nat),v3= .slice (aj eH) 1 1/\L'=[wp,w2,w]/\H'=(eH,oC #[ab d.at_] 3)::dU/\ae [wp,w2,w] eH| [some v3,none,some v8]=>∃(eH:Nat) (oy:Nat),v3= .slice (aj eH) 1 1/\v8= .slice (aj oy) 1 1/\L'=[wp,w2,w]/\H'=(oy,oC (bD d.x) 53)::(eH,oC #[ab d.at_] 3)::dU/\ae [wp,w2,w] eH/\ae [wp,w2,w] oy| [some v3,some v4,none]=>∃(eH:Nat) (mB:Nat) (gM:Nat) (iA:List Value),v3= .slice (aj eH) 1 1/\v4= .slice (aj mB) ((vs.map λd=>d.at_)++[d.at_]).length gM/\L'=[wp,w2,w]/\H'=[(eH,oC #[ab d.at_] 3),(gf,oC (iK d) 159),(bq,aO ow 159 (ps++d::qt) RN),(b7,oC (iK d0) 159),iC]++((Rw.row mB gM iA).hp aA 3 ((vs.map λd=>d.at_)++[d.at_])++(r2.hp lR 53 (vs.map λd=>d.x)++[]))/\ae [wp,w2,w] eH/\(r1.isAt mB\/ae [wp,w2,w] mB)/\(Rw.row mB gM iA).Fit 1 ((vs.map λd=>d.at_)++[d.at_])| [some v3,some v4,some v8]=>∃(eH:Nat) (mB:Nat) (gM:Nat) (iA:List Value) (oy:Nat),v3= .slice (aj eH) 1 1/\v4= .slice (aj mB) ((vs.map λd=>d.at_)++[d.at_]).length gM/\v8= .slice (aj oy) 1 1/\L'=[wp,w2,w]/\H'=[(oy,oC (bD d.x) 53),(eH,oC #[ab d.at_] 3),(gf,oC (iK d) 159),(bq,aO ow 159 (ps++d::qt) RN),(b7,oC (iK d0) 159),iC]++((Rw.row mB gM iA).hp aA 3 ((vs.map λd=>d.at_)++[d.at_])++(r2.hp lR 53 (vs.map λd=>d.x)++[]))/\ae [wp,w2,w] eH/\(r1.isAt mB\/ae [wp,w2,w] mB)/\(Rw.row mB gM iA).Fit 1 ((vs.map λd=>d.at_)++[d.at_])/\ae [wp,w2,w] oy|_=>False) ⟨rfl,rfl⟩ (xG 2 (k:=by exact r7 zcs (xG 4 (k:=by exact r7 zcs U9)))) ?_ ?_
   ·refine nc rfl rfl ?_ ?_
    ·intro cv L' H' hl hr hP F Q' hk;obtain⟨x3,x4,x8,rfl⟩:=mj hl;rcases x3 with _|v3<;>rcases x4 with _|v4<;>rcases x8 with _|v8<;>try exact False.elim hP
     ·obtain⟨rfl,rfl⟩:=hP;refine Eb ?_;intro eH ha ho;exact OJ.done (hk _ _ _ ⟨eH,rfl,rfl,rfl,ha⟩)
     ·obtain⟨oy,rfl,rfl,rfl,wL⟩:=hP;refine Eb ?_;intro eH ha ho;refine OJ.perm (List.Perm.swap _ _ _) ?_;exact OJ.done (hk _ _ _ ⟨eH,oy,rfl,rfl,rfl,rfl,ha,wL⟩)
     ·exact cB
     ·exact cB
     ·exact cB
     exact cB
    refine nc rfl rfl ?_ ?_
    ·intro cv L' H' hl hr hP F Q' hk;obtain⟨x3,x4,x8,rfl⟩:=mj hl;rcases x3 with _|v3<;>rcases x4 with _|v4<;>rcases x8 with _|v8<;>try exact False.elim hP
     ·exact cB
     ·exact cB
     ·obtain⟨eH,rfl,rfl,rfl,iz⟩:=hP;refine jS (r:=r1) (xs:=(vs.map λd=>d.at_)) (zs:=[d.at_]) (enc:=aA) (m:=1) (H0:=[(eH,oC #[ab d.at_] 3),(gf,oC (iK d) 159),(bq,aO ow 159 (ps++d::qt) RN),(b7,oC (iK d0) 159),(b6,oC (zf Z cs la lc ⟨ia,ic,ta,tc⟩) 156)]) (H1:=r2.hp lR 53 (vs.map λd=>d.x)++[]) zJ Nz nz rfl rfl rfl rfl (bO.one (z:=d.at_) nz NB underlying55 (bB.own (i:=0) rfl)) iU qf zJ PZ ?_;intro mB gM iA lg gT;exact OJ.done (hk _ _ _ ⟨eH,mB,gM,iA,rfl,rfl,rfl,rfl,iz,lg,gT⟩)
     ·obtain⟨eH,oy,rfl,rfl,rfl,rfl,iz,wL⟩:=hP;refine jS (r:=r1) (xs:=(vs.map λd=>d.at_)) (zs:=[d.at_]) (enc:=aA) (m:=1) (H0:=[(oy,oC (bD d.x) 53),(eH,oC #[ab d.at_] 3),(gf,oC (iK d) 159),(bq,aO ow 159 (ps++d::qt) RN),(b7,oC (iK d0) 159),(b6,oC (zf Z cs la lc ⟨ia,ic,ta,tc⟩) 156)]) (H1:=r2.hp lR 53 (vs.map λd=>d.x)++[]) zJ Nz nz rfl rfl rfl rfl (bO.one (z:=d.at_) nz NB underlying55 (bB.own (i:=1) rfl)) iU qf zJ PZ ?_;intro mB gM iA lg gT;exact OJ.done (hk _ _ _ ⟨eH,mB,gM,iA,oy,rfl,rfl,rfl,rfl,rfl,iz,lg,gT,wL⟩)
     ·exact cB
     exact cB
    refine nc rfl rfl ?_ ?_
    ·intro cv L' H' hl hr hP F Q' hk;obtain⟨x3,x4,x8,rfl⟩:=mj hl;rcases x3 with _|v3<;>rcases x4 with _|v4<;>rcases x8 with _|v8<;>try exact False.elim hP
     ·obtain⟨rfl,rfl⟩:=hP;refine zpe ?_;intro oy ha ho;exact OJ.done (hk _ _ _ ⟨oy,rfl,rfl,rfl,ha⟩)
     ·exact cB
     ·obtain⟨eH,rfl,rfl,rfl,iz⟩:=hP;refine zpe ?_;intro oy ha ho;exact OJ.done (hk _ _ _ ⟨eH,oy,rfl,rfl,rfl,rfl,iz,ha⟩)
     ·exact cB
     ·obtain⟨eH,mB,gM,iA,rfl,rfl,rfl,rfl,iz,lg,gT⟩:=hP;refine zpe ?_;intro oy ha ho;exact OJ.done (hk _ _ _ ⟨eH,mB,gM,iA,oy,rfl,rfl,rfl,rfl,rfl,iz,lg,gT,ha⟩)
     exact cB
    exact nn
   intro cv L' H' hl hr hP;obtain⟨x3,x4,x8,rfl⟩:=mj hl;rcases x3 with _|v3<;>rcases x4 with _|v4<;>rcases x8 with _|v8
   ·exact cB
   ·exact cB
   ·exact cB
   ·exact cB
   ·exact cB
   ·exact cB
   ·exact cB
   obtain⟨eH,mB,gM,iA,oy,rfl,rfl,rfl,rfl,rfl,iz,lg,gT,wL⟩:=hP;simp only[ae]at iz wL lg;refine jS (r:=r2) (xs:=(vs.map λd=>d.x)) (zs:=[d.x]) (enc:=lR) (m:=36) (H0:=[(oy,oC (bD d.x) 53),(eH,oC #[ab d.at_] 3),(gf,oC (iK d) 159),(bq,aO ow 159 (ps++d::qt) RN),(b7,oC (iK d0) 159),(b6,oC (zf Z cs la lc ⟨ia,ic,ta,tc⟩) 156)]++(Rw.row mB gM iA).hp aA 3 ((vs.map λd=>d.at_)++[d.at_])) (H1:=[]) zX Ff YS rfl rfl rfl rfl (bO.one (z:=d.x) YS nbo underlying75 (bB.own (i:=0) rfl)) gd iy zJ PZ ?_;intro b40 RP RQ Lk RR;replace Lk:=yb Lk;refine B 6 ?_;refine ax (.agg (zf Z cs la lc ⟨ia,ic,ta,tc⟩)) ?_;refine B 1 ?_;refine ax (.agg (bD d.x)) ?_;have aip:Rw.ge wp.heap.size (Rw.row mB gM iA):=lg.elim (λh=>Rw.geA mM h) (λh=>h.1);have air:Rw.ge wp.heap.size (Rw.row b40 RP RQ):=Lk.elim (λh=>Rw.geA ee h) (λh=>h.1);have rU:wp.heap.size<=mB/\wp.heap.size<=b40:=⟨aip,air⟩;refine Vb (γ:=(Option Addr×Nat)×List Cd) (v:=λx=>.slice x.1.1 x.2.length x.1.2) (Φ:=λF x=>x.2.map kg=AN Z cs d.x.g/\(∀y∈x.2,sQ Z cs d.x.g y/\sa F y.x)/\ll iK 143 F x.1.1 x.2) call63 rfl rfl rfl (λW hS=>nai hZ cs cJ dz W.heap.size la lc W (ak _) (aJ.up cM (hS.same A2 hN zI zdb)) (λc hc=>(hC c hc).up cM (hS.same A2 hN zI zdb)) ia ic ta tc (Ft.toO (hS.links wp A0).size (hS.same A0 (ak _) zI zdb)) d.x ((iq d zJ).2.2.lies hS.fzLies) (hg.old hS A2 zI zdb)) ?_
   rintro⟨⟨a2,c2⟩,ds⟩ F2 ⟨bW,hd2,N6⟩ Oc;dsimp only at bW hd2 N6 ⊢;have vN:ds.length<=1000:=by have h9:=hI.step.qi.len;simp only[ck,eG,dC,fb]at h9;have h8:=congrArg List.length (nLn bW (λx hx=>(hd2 x hx).1));rw[eG]at h8;omega
   refine apO (enc:=ow) (m:=143) (H0:=[(oy,oC (bD d.x) 53),(eH,oC #[ab d.at_] 3),(gf,oC (iK d) 159)]) (H1:=[(b7,oC (iK d0) 159),(b6,oC (zf Z cs la lc ⟨ia,ic,ta,tc⟩) 156)]++((Rw.row mB gM iA).hp aA 3 ((vs.map λd=>d.at_)++[d.at_])++((Rw.row b40 RP RQ).hp lR 53 ((vs.map λd=>d.x)++[d.x])++[]))) (ps:=ps) (xs:=d::qt) (zs:=ds) rfl Fg Fe rfl rfl rfl rfl rfl (bO.slF Fe nak underlying162 N6 (λp hp=>bA.2 (.inl hp))) Vk hsq (.inr Zo) (by have h9:=hI.qi.len;simp only[eG,dC]at h9 ⊢;omega) ?_;intro Zp Zq Zr ais ait RT aiu;have aiv:wp.heap.size<=Zp/\w2.heap.size<=Zp/\w.heap.size<=Zp:=by rcases ait with h|h;(subst h;simp only[ae]at Zo;omega);(simp only[ae]at h;omega)
   refine B 6 ?_;refine rq (.slice (some ⟨Zp,(if Zq=1 then Zr.length*143 else Zr.length*143+1*143),none⟩) (qt++ds).length (Zq-1)) (fM (l:=1) (h:=(d::qt++ds).length) underlying162 sizeOf159 rfl ⟨_,_,rfl,rfl⟩ rfl zJ (by exact RT) rfl) zJ ?_;refine B 2 ?_;refine B4 ?_;refine pV ?_;refine PJ.again ((((vs++[d],qt++ds),Zr++[d]),(Rw.row mB gM iA,Rw.row b40 RP RQ)),(((Zp,(if Zq=1 then Zr.length*143 else Zr.length*143+1*143)),Zq-1),ais),F2++F) ⟨by dsimp only;rw[gb,gb,nLn bW (λx hx=>(hd2 x hx).1)];exact hI.step,
    λx hx=>by dsimp only at hx ⊢;rw[show(vs++[d])++(qt++ds)=(vs++d::qt)++ds by simp]at hx;rcases bA.1 hx with h|h;(exact⟨(iq x h).1,(iq x h).2.1,(iq x h).2.2.mono (λp hp=>bA.2 (.inr hp))⟩);exact⟨(hd2 x h).1.at_,(hd2 x h).1.nn,(hd2 x h).2.mono (λp hp=>bA.2 (.inl hp))⟩,
    λq hq=>(bA.1 hq).elim (λh=>(Oc q h).not A2) (dS q),
    lg.elim (λh=>.inr (by have:=Rw.Fr_at qf h;exact this.elim (λh=>h.elim) id)) (λh=>.inr h),by dsimp only;rw[gb];exact gT,
    Lk.elim (λh=>.inr (by have:=Rw.Fr_at iy h;exact this.elim (λh=>h.elim) id)) (λh=>.inr h),by dsimp only;rw[gb];exact RR,
    aiv.imp id (λh=>⟨h.1,h.2,True.intro⟩),by dsimp only;simp only[ck,dC]at RT ⊢;omega,by dsimp only;rw[aiu];congr 1;simp only[ck,dC];omega,
    by dsimp only;by_cases h9:Zq=1;(left;apply kX;simp only[ck,dC]at RT ⊢;omega);(right;rw[if_neg h9];simp only[ck,dC,fb];omega),
    by dsimp only;have h9:=hI.qi.len;simp only[eG,dC,ck,fb]at h9 ⊢;omega⟩ (by dsimp only;have h9:=hI.qi.len;simp only[eG,dC,ck,fb]at h9 ⊢;omega) ⟨rfl,by rw[gb];rfl,by rw[gb];rfl,rfl,rfl,trivial⟩ oR rfl zJ
  intro ar;refine B 14 ?_;have hq0:qs=[]:=kX aa;subst hq0;refine bM (.inl rfl) results33 bj λW hS=>?_;have Fj:r1.At aA 3 (vs.map λd=>d.at_) W:=by
   exact zZh
  have Rk:r2.At lR 53 (vs.map λd=>d.x) W:=by
   exact zYh
  obtain⟨a1,c1,uo,xH⟩:=Rw.sl nz iU Fj (ak W.heap.size);obtain⟨a3,c3,Xd,Ll⟩:=Rw.sl YS gd Rk (ak W.heap.size);obtain⟨F1,zj,xH⟩:=xH.fs (K:=w.heap.size) (Rw.val_new (Rw.ge_mono mM aa) uo);obtain⟨F3,hF3,Ll⟩:=Ll.fs (K:=w.heap.size) (Rw.val_new (Rw.ge_mono ee aa) Xd);refine⟨(((a1,c1),(a3,c3)),vs),F1++(F3++F),?_,?_,λp hp=>?_,⟨hI.done,hvl,λx hx=>⟨(iq x (by simpa using hx)).1,(iq x (by simpa using hx)).2.1,(iq x (by simpa using hx)).2.2.mono (λp hp=>by simp[hp])⟩⟩,xH.mono (λp hp=>by simp[hp]),Ll.mono (λp hp=>by simp[hp])⟩
  ·show Ending.returned (.tuple #[r1.val _,r2.val _])=_;rw[uo,Xd];simp
  ·exact(hS.links w A2).below (λk hk hx=>by rcases hx with hx|hx;(exact hx);simp only[dV,gb,dt,eL,bA,bX,dy,or_false]at hx;rcases hx with(hx|hx|hx)|hx|hx<;>first|omega|(have:=Zo.2.2.1;omega)|(have:=Rw.mem_ge mM hx;omega)|(have:=Rw.mem_ge ee hx;omega))
  rcases bA.1 hp with hp|hp
  ·exact zj p hp
  rcases bA.1 hp with hp|hp
  ·exact hF3 p hp
  exact⟨dS p hp,(hS.fzLies p hp).2⟩
 refine B 2 ?_;refine KG ?_;refine bM (.inl rfl) results33 bj λW hS=>?_;refine⟨(((none,0),(none,0)),[]),[],rfl,(hS.links w A2).below (λk hk hx=>?_),by simp,⟨by rw[FN.none sG];rfl,by simp,by simp⟩,.inl rfl,.inl rfl⟩;rcases hx with hx|hx
 ·exact hx
 simp only[cW,dt,eL,bX,dy,or_false]at hx;omega
theorem nIl(p:Gv->Bool)(f:Nat)(cap:List Value)(az:eg prog f)(xs:List Gv)(hxl:xs.length<=1000000)(N:Nat)(a:Option Addr)(cp:Nat)(w:World)(hN:N<=w.heap.size)(aJ:ai bD 36 N w a xs)(hp:∀(j:Nat) (x:Gv),xs[j]? =some x->∀W,Below w.heap.size w W->Calls prog f (.agg (bD x)::cap).toArray W (aM W (.bool (p x)))):Calls prog 55 #[.slice a xs.length cp,.func (.func f) #[] cap.toArray] w (cN w (λi:Int=>ab i) (λi _=>eR p xs i)):=by
 refine eN func55 ntmps55 ?_;refine UI ?_;rintro j ⟨hj,ea⟩;refine B 6 ?_;refine aG ?_ ?_
 ·intro ar;refine B 11 ?_;obtain⟨bo,oo,cs0,to,fG,rfl,fH,cJ,aW⟩:=aJ.get aa;obtain⟨x,hx⟩:=ng xs j aa;refine B 5 ?_;refine ax (.agg (bD x)) ?_;refine UJ ?_;refine aG ?_ ?_
  ·intro aN;refine B 12 ?_;refine rS (j:Int) results55 rfl A0 rfl ?_;exact UK
  exact UL
 intro ar;refine B 11 ?_;refine rS (-1:Int) results55 rfl A0 rfl ?_;exact UM
structure Pl where
 c:Cm
 fst:Bool
 ns:List Nd
 ta:Option Addr
 tc:Nat
 x:Gv
def kh (p:Pl):Array Value:=(ab p.c.folder::ab p.c.epoch::lL p.c.par (ab p.c.author:: .slice p.c.ca p.c.chs.length p.c.cc:: .slice p.c.pa p.c.path.length p.c.pc:: .slice p.c.ba p.c.bxs.length p.c.bc:: .slice p.c.wa p.c.wes.length p.c.wc::lL p.c.conf (ab p.c.sr::ab p.c.ss:: .bool p.fst:: .slice p.ta p.ns.length p.tc::ab p.x.g.folder::ab p.x.g.epoch::lL p.x.g.last [.slice p.x.ma p.x.g.ms.length p.x.mc,.slice p.x.na p.x.g.ns.length p.x.nc]))).toArray
def zt (p:Pl):List Value:=(ab p.c.folder::ab p.c.epoch::lL p.c.par (ab p.c.author:: .slice p.c.ca p.c.chs.length p.c.cc:: .slice p.c.pa p.c.path.length p.c.pc:: .slice p.c.ba p.c.bxs.length p.c.bc:: .slice p.c.wa p.c.wes.length p.c.wc::lL p.c.conf (ab p.c.sr::ab p.c.ss:: .bool p.fst:: .slice p.ta p.ns.length p.tc::ab p.x.g.folder::ab p.x.g.epoch::lL p.x.g.last [.slice p.x.ma p.x.g.ms.length p.x.mc,.slice p.x.na p.x.g.ns.length p.x.nc])))
theorem Zs(p:Pl):(zt p).length=111:=rfl
theorem npj(p:Pl):∀u∈zt p,u.oneCell'=true:=II rfl
theorem Lm:prog.info? 92=some Tryz.t92:=by kernel_rfl
theorem n2l:iR prog 89 92 111:=⟨underlying89,Tryz.t92,.agg (ab 0::ab 0::tr (ab 0::ao::ao::ao::ao::tr (ab 0::ab 0::bG::ao::ab 0::ab 0::tr [ao,ao]))).toArray,Lm,rfl,rfl,rfl,by decide⟩
structure Ln (F:ad) (p:Pl):Prop where
 ns:ll fN 2 F p.ta p.ns
 nn:p.ns.length<=90000
 x:sa F p.x
theorem Ln.mono{F':ad}{p:Pl}(h:Ln F p)(hF:∀q∈F,q∈F'):Ln F' p:=⟨h.ns.mono hF,h.nn,h.x.mono hF⟩
noncomputable def B8 (gs:List Gp) (k:Nat) (c:Cm):List Nd:=if 0<k then(match gs.find? (λg=>lY g.last c.par)with|some g=>g.ns|none=>[])else[]
abbrev Ap:=Cm×Bool×List Nd×Gp
noncomputable def FO (cs:List Cm) (gs:List Gp) (k:Nat) (q:Nat×Gp):Ap:=(me cs q.1,decide (k=0),aX (B8 gs k (me cs q.1)) (me cs q.1).chs,q.2)
noncomputable def uV (cs:List Cm) (l:List (Nat×Gp)):Nat->List Ap
 |0=>[]
 |j+1=>match l[j]? with|none=>uV cs l j|some q=>uV cs l j++[FO cs (l.map (·.2)) j q]
noncomputable def B9 (Z:Fx) (cs:List Cm) (fo:Fo):List Ap:=uV cs (mN Z cs fo) (mN Z cs fo).length
noncomputable def iE (Z:Fx) (cs:List Cm) (fos:List Fo):List Ap:=fos.flatMap (B9 Z cs)
theorem nKg{l:List (Nat×Gp)}{j:Nat}{q:Nat×Gp}(h:l[j]? =some q):uV cs l (j+1)=uV cs l j++[FO cs (l.map (·.2)) j q]:=by conv=>lhs;unfold uV;rw[h]
theorem FP(cs:List Cm)(l:List (Nat×Gp)):∀j,(uV cs l j).length<=j:=
 by intro x;induction x<;>(intros;grind [uV])
theorem nhp{fos:List Fo}{i:Nat}{fo:Fo}(h:fos[i]? =some fo):iE Z cs (fos.take (i+1))=iE Z cs (fos.take i)++B9 Z cs fo:=by unfold iE;rw[np h];simp
def bC (p:Pl):Ap:=(p.c,p.fst,p.ns,p.x.g)
theorem nHn{Z:Fx}{cs:List Cm}{P:Nat×Gp->Prop}(hs:∀p,P p->∀q∈zq Z cs p,P q):∀(n:Nat) (qs:List (Nat×Gp)),(∀p∈qs,P p)->∀p∈CV Z cs n qs,P p
 |0,_,_,p,hp=>by simp[CV]at hp
 |n+1,[],_,p,hp=>by simp[CV]at hp
 |n+1,q::qs,h,p,hp=>by
  unfold CV at hp;rcases bX.1 hp with rfl|hp
  ·exact h _ A0
  exact nHn hs n _ (λx hx=>(bA.1 hx).elim (λh1=>h x (.tail _ h1)) (λh1=>hs q (h q A0) x h1)) p hp
def Led (Z:Fx) (cs:List Cm) (p:Nat×Gp):Prop:=∃g c,cs[p.1]? =some c/\ju Z g c=0/\p.2=kT Z g c
theorem FQ{fo:Fo}:∀p∈mN Z cs fo,Led Z cs p:=by
 intro p hp;unfold mN at hp;split at hp
 ·cases hp
 rename_i i hi;refine nHn (P:=Led Z cs) (λq _ r hr=>?_) _ _ (λq hq=>?_) p hp
 ·obtain⟨j,hj,rfl⟩:=bY.1 hr;obtain⟨c,h1,_,_,h4⟩:=nbk hj;exact⟨q.2,c,h1,h4,by show kT Z q.2 (me cs j)=_;unfold me;rw[h1];rfl⟩
 rw[kf]at hq;subst hq;unfold tJ at hi;rw[Option.bind_eq_some_iff]at hi;obtain⟨j,h1,h2⟩:=hi;split at h2
 ·rename_i h0;have:=Option.some.inj h2;subst this;unfold Oe at h1;split at h1
  ·cases h1
  rw[AK]at h1;obtain⟨r,hr,e1⟩:=h1;obtain⟨k,c,f1,_,f3,_⟩:=U7 Z cs _ r (cP hr);rw[f1,yB]at e1;subst e1;have e2:me cs k=c:=by unfold me;rw[f3];rfl
  rw[e2]at h0;exact⟨g0 fo,c,f3,h0,by rw[e2]⟩
 cases h2
theorem Lo{c:Cm}(h:ju Z g c=0):jC c.chs=true:=by grind [ju,eT,AD]
theorem Vl{α:Type}{p:α->Bool}{xs:List α}{i:Int}(h:eR p xs i):(i= -1/\xs.find? p=none)\/∃(j:Nat) (x:α),i=(j:Int)/\xs[j]? =some x/\xs.find? p=some x:=by
 rcases h with⟨h1,h2⟩|⟨j,x,h1,h2,h3,h4⟩
 ·exact .inl ⟨h1,List.find?_eq_none.2 λx hx=>by have:=List.any_eq_false.1 h2 x hx;simpa using this⟩
 refine .inr ⟨j,x,h1,h2,List.find?_eq_some_iff_append.2 ⟨h3,xs.take j,xs.drop (j+1),?_,λy hy=>?_⟩⟩
 ·obtain⟨g1,g2⟩:=gX.1 h2;rw[<-g2,List.getElem_cons_drop,AH]
 obtain⟨k,hk⟩:=kA.1 hy;have hl:=nr hk;rw[kQ]at hl;rw[QX aa]at hk;simp[h4 k y aa hk]
theorem nei{gs:List Gv}{c:Cm}:(gs.map (·.g)).find? (λg=>lY g.last c.par)=(gs.find? (λx=>lY x.g.last c.par)).map (·.g):=by rw[List.find?_map];rfl
theorem rp{C:Cx}{E:Env}{H:ad}{T b off n:Nat}{x:Operand}{cs:Array Value}(hA:ey C.P T true)(hZ:nJ C.P T n)(hx:ev E x=some (ptr b off))(hb:(b,Obj.cells cs t fr)∈F)(hn:off+n<=cs.size):RV C (dI F) L H E (.load T x) (.agg (cut cs off n)):=
 λ_ _ _ _ _ _ _ hF hS=>nDg hA hZ (hF.ev hx) (hS.fzLies _ hb).2 hn
theorem Zt{C:Cx}{E:Env}{H:ad}{T b off:Nat}{x:Operand}{cs:Array Value}{v:Value}(hA:ey C.P T false)(hx:ev E x=some (ptr b off))(hb:(b,Obj.cells cs t fr)∈F)(hv:cs[off]? =some v):RV C (dI F) L H E (.load T x) v:=
 λ_ _ _ _ _ _ _ hF hS=>nGg hA (hF.ev hx) (hS.fzLies _ hb).2 hv
theorem ll.get{α:Type}{enc:α->Array Value}{n:Nat}{a:Option Addr}{xs:List α}(h:ll enc n F a xs)(h0:0<xs.length):∃b off cs t fr,a=some ⟨b,off,none⟩/\(b,Obj.cells cs t fr)∈F/\∀i (h:i<xs.length),off+i*n+n<=cs.size/\cut cs (off+i*n) n=enc xs[i]:=by
 rcases h with h|h
 ·subst h;simp at h0
 exact h
theorem St.fzB{H F':ad}(hS:St (dI F) L H W)(vD:∀p∈F',W.heap[p.1]? =some p.2/\p.1∉H.map (·.1)):St (dI (F'++F)) L H W:=by
 refine⟨λp hp=>?_,λk hk=>?_,λk hk=>hk.elim,hS.links,hS.own,hS.nodup,λp hp hv=>?_⟩
 ·rcases bA.1 hp with hp|hp
  ·exact(vD p hp).1
  exact hS.ghost p hp
 ·obtain⟨p,hp,rfl⟩:=bY.1 hk;rcases bA.1 hp with hp|hp
  ·exact(aT.1 (vD p hp).1).1
  exact hS.vlt p.1 (bY.2 ⟨p,hp,rfl⟩)
 obtain⟨q,hq,e⟩:=bY.1 hv;rcases bA.1 hq with hq|hq
 ·exact(vD q hq).2 (bY.2 ⟨p,hp,e.symm⟩)
 exact hS.apart p hp (bY.2 ⟨q,hq,e⟩)
theorem OJ.fzB{C:Cx}{Q:aZ}{E:Env}{D:List Deferred}{H:ad}{ops:Array Oper}{l:List Oper}{L':List World}(F':ad)(h:∀W,St (dI F) L H W->∀p∈F',W.heap[p.1]? =some p.2/\p.1∉H.map (·.1))(hs:∀w∈L',w∈L)(k:OJ C ops Q l E D (dI (F'++F)) L' H):OJ C ops Q l E D (dI F) L H:=
 λa W hN hD hF hS=>k a W hN hD hF ((hS.fzB (h W hS)).lessL hs)
theorem FR(c:Cm)(b:Nat)(x:Gv)(w:World)(hb1:w.heap[b]? =some (oC (cG c) 61)):Calls prog 56 #[.agg (bD x),ptr b 0] w (aM w (.bool (lY x.g.last c.par))):=by
 have cF:¬Gh.no.X b:=λh=>h;have lX:=(aT.1 hb1).1;refine eN func56 ntmps56 ?_;refine B 2 ?_;refine yX ?_;intro b2 w2 da bW eU dx dq;refine B 6 ?_;refine ax (.agg (dg x.g.last)) ?_;refine B 1 ?_;refine ax (.agg (dg c.par)) ?_;refine rv rfl rfl rfl (oZ xu zB nL rfl rfl rfl) ?_;refine B 4 ?_;refine aF results56 rfl A1 ?_;rfl
theorem nQh(hZ:FxOk Z)(cs:List Cm)(cJ:cs.length<=1000)(dz:∀c∈cs,bP c)(N:Nat)(la:Option Addr)(lc:Nat)(w:World)(hN:N<=w.heap.size)(aJ:ai cG 73 N w la cs)(hC:∀c∈cs,dm N w c)(fa:Option Addr)(fos:List Fo)(fc:Nat)(jV:fos.length<=10)(lQ:cs.length<=10)(ru:ai sR 33 N w fa fos)(o1 o3 o4 o5 o6 o7:Value)(hg:Glb w):Calls prog 30 #[.agg #[.slice fa fos.length fc,o1,.slice la cs.length lc,o3,o4,o5,o6,o7]] w (λe w'=>∃(q:(Option Addr×Nat)×List Pl) (F':ad),e= .returned (.slice q.1.1 q.2.length q.1.2)/\Below w.heap.size w w'/\(∀p∈F',w.heap.size<=p.1/\w'.heap[p.1]? =some p.2)/\q.2.map bC=iE Z cs fos/\(∀p∈q.2,Ln F' p/\p.c∈cs)/\q.2.length<=100/\ll (λx=>(zt x).toArray) 111 F' q.1.1 q.2):=by
 have hg4:=hg.lt;refine nB (dI []) [] (vs:=[_]) func30 rfl ntmps30 rfl (N0 w) ?_;refine B 2 ?_;refine yX ?_;intro b1 w1 hb1 cF gA fX jq;refine B 13 ?_;refine CJ.loop (α:=((Rw×List Pl)×ad)×Nat) (λp9=>[(1,ptr b1 0),(2,p9.1.1.1.val p9.1.1.2.length),(13,.slice fa fos.length fc),(14,ab (fos.length:Int)),(15,ab (p9.2:Int))]) (λp9=>p9.1.1.1.hp zt 92 p9.1.1.2++[]) (λp9=>[w1,w]) (λp9=>dI p9.1.2) (λp9=>p9.2<=fos.length/\p9.1.1.1.Fr (dI p9.1.2) [w1,w]/\p9.1.1.1.Fit 111 p9.1.1.2/\p9.1.1.2.map bC=iE Z cs (fos.take p9.2)/\(∀p∈p9.1.1.2,Ln p9.1.2 p/\p.c∈cs)/\p9.1.1.2.length<=p9.2*10/\∀q∈p9.1.2,w.heap.size<=q.1) (λp9=>fos.length-p9.2) (((.nil,[]),[]),0) ⟨cV _,True.intro,rfl,rfl,by simp,ak _,by simp⟩ zR rfl rfl zJ ?_;rintro⟨⟨⟨r,pls⟩,F⟩,i⟩ ⟨hi,aK,ah,aQ,iJ,im,dS⟩;dsimp only at hi aK ah aQ iJ im dS ⊢;have bH:r.ge w1.heap.size:=Rw.ge_fz aK A0;refine B 6 ?_;refine aG ?_ ?_
 ·intro ar;refine B 5 ?_;obtain⟨bf,of,csf,tf,frf,rfl,Vm,anD,anE⟩:=ru.get aa;obtain⟨fo,uI⟩:=ng fos i aa;refine B 2 ?_;refine ax (.agg (sR fo)) ?_;refine B 1 ?_;refine yW ?_;intro b4 ja jb;refine B 5 ?_;refine ax (.agg (sR fo)) ?_;refine B 1 ?_;refine ax (.slice la cs.length lc) ?_;refine Vb (γ:=((Option Addr×Nat)×(Option Addr×Nat))×List Cd) (v:=λq=>.tuple #[.slice q.1.1.1 q.2.length q.1.1.2,.slice q.1.2.1 q.2.length q.1.2.2]) (Φ:=λF' q=>AlV Z cs fo F' q.2/\ll (λx=>(aA x).toArray) 1 F' q.1.1.1 (q.2.map λd=>d.at_)/\ll (λx=>(lR x).toArray) 36 F' q.1.2.1 (q.2.map λd=>d.x)) call33 rfl rfl rfl (λW hS=>n3m hZ cs cJ dz N la lc W cM (aJ.up (ak _) (hS.same A1 hN zI zH)) (λc hc=>(hC c hc).up (ak _) (hS.same A1 hN zI zH)) fo (hg.old hS A1 zI zH)) ?_;rintro⟨⟨⟨a1,c1⟩,⟨a3,c3⟩⟩,ds⟩ F1 ⟨hv,xH,Ll⟩ zj;dsimp only at hv xH Ll ⊢;have Ll:ll bD 36 F1 a3 (ds.map λd=>d.x):=Ll;have vN:=hv.len;refine B 15 ?_;refine CJ.loop (α:=((Rw×List Pl)×ad)×Nat) (λp8=>[(1,ptr b1 0),(2,p8.1.1.1.val p8.1.1.2.length),(5,.slice a1 ds.length c1),(6,.slice a3 ds.length c3),(13,.slice (some ⟨bf,of,none⟩) fos.length fc),(14,ab (fos.length:Int)),(15,ab (i:Int)),(26,.slice a1 ds.length c1),(27,ab (ds.length:Int)),(28,ab (p8.2:Int))]) (λp8=>[(b4,oC (sR fo) 97)]++(p8.1.1.1.hp zt 92 p8.1.1.2++[])) (λp8=>[w1,w]) (λp8=>dI p8.1.2) (λp8=>(p8.2<=ds.length/\∀q∈F1,q∈p8.1.2)/\p8.1.1.1.Fr (dI p8.1.2) [w1,w]/\p8.1.1.1.Fit 111 p8.1.1.2/\p8.1.1.2.map bC=iE Z cs (fos.take i)++uV cs (ds.map sg) p8.2/\(∀p∈p8.1.1.2,Ln p8.1.2 p/\p.c∈cs)/\p8.1.1.2.length<=i*10+p8.2/\∀q∈p8.1.2,w.heap.size<=q.1) (λp8=>ds.length-p8.2) (((r,pls),F1++F),0) ⟨⟨cV _,λq hq=>bA.2 (.inl hq)⟩,aK,ah,by dsimp only;rw[aQ];exact(dV _).symm,λp hp=>⟨(iJ p hp).1.mono (λq hq=>bA.2 (.inr hq)),(iJ p hp).2⟩,by dsimp only;omega,λq hq=>(bA.1 hq).elim (λh=>(zj q h).not A1) (dS q)⟩ zR rfl rfl zJ ?_
  rintro⟨⟨⟨r,pls⟩,F⟩,j⟩ ⟨⟨hj,jI⟩,aK,ah,aQ,iJ,im,dS⟩;dsimp only at hj jI aK ah aQ iJ im dS ⊢;have bH:r.ge w1.heap.size:=Rw.ge_fz aK A0;refine B 6 ?_;refine aG ?_ ?_
  ·intro aN;refine B 5 ?_;obtain⟨d,hd⟩:=ng ds j aa;have qw:=hv.d d (cP hd);have Zu:d.c∈cs:=cP qw.1;have hdi:d.at_=((kg d:Nat):Int):=by have:=qw.2.1;unfold kg;omega
   obtain⟨g9,c9,qH,he9,_⟩:=FQ (sg d) (hv.eq▸bY.2 ⟨d,cP hd,rfl⟩);obtain rfl:c9=d.c:=by have h9:cs[kg d]? =some c9:=qH;rw[qw.1]at h9;exact(Option.some.inj h9).symm
   have xC:=n4i (Lo he9);have hax:(ds.map λd=>d.at_)[j]? =some d.at_:=by rw[sA,hd];rfl
   have Lp:(ds.map λd=>d.x)[j]? =some d.x:=by rw[sA,hd];rfl
   have Zv:(ds.map sg).map (·.2)=(ds.map λd=>d.x).map (·.g):=by rw[List.map_map,List.map_map];rfl
   obtain⟨ba,oa,csa,ta1,fra,rfl,hba,K4⟩:=(xH.mono jI).get (by rw[eG];omega);obtain⟨bg,og,csg,tg1,frg,rfl,Lq,ry⟩:=(Ll.mono jI).get (by rw[eG];omega);have anF:=nr qw.1;obtain⟨bl,ol,csl,tl,frl,rfl,jf,wF,qh⟩:=aJ.get aa;refine B 3 ?_;refine rv rfl rfl rfl (Zt (v:=ab d.at_) isAgg3 rfl hba (by have:=nN (enc:=λx=>(aA x).toArray) (n:=1) K4 hax rfl zB;simpa[aA]using this)) ?_;refine B 7 ?_;refine ax (.slice (some ⟨bl,ol,none⟩) cs.length lc) ?_;refine rq (ab ((kg d:Nat):Int)) (sP rfl) ((congrArg ab hdi)) ?_;refine B 1 ?_;refine rq (.agg (cG d.c)) (dQ isAgg61 sizeOf61 rfl A1 wF zL zA (dE qh qw.1 rfl)) (va (eK qh qw.1 rfl)) ?_;refine B 1 ?_;refine yW ?_;intro b9 xn tk;refine B 6 ?_;intro gf lP pW;replace lP:=yb lP;refine B 7 ?_;refine nv (α:=Int) (v:=λi:Int=>ab i) (Φ:=λ_ i _=>eR (λy=>lY y.g.last d.c.par) (ds.map λd=>d.x) i) call55 rfl rfl rfl (λW hS=>?_) ?_
   ·have y8:=hS.own (b9,_) A1;have h9:=nIl (λy=>lY y.g.last d.c.par) 56 [ptr b9 0] call56 (ds.map λd=>d.x) (by rw[eG];omega) W.heap.size (some ⟨bg,og,none⟩) c3 W (ak _) ((Ll.mono jI).at hS.fzLies) (λj x hx W2 hB=>FR d.c b9 x W2 (by rw[hB.block b9 (aT.1 y8).1];exact y8));rw[eG]at h9;exact h9
   intro Wi ix wi EA EB CW;refine B 8 ?_;refine ni (t:=43) rfl (λdc=>?_) (λdc=>?_)
   ·replace dc:=ya dc;refine B 5 ?_;refine aG ?_ ?_
    ·intro jo;obtain⟨n,xb,rfl,hxb,hfb⟩:=(Vl CW).resolve_left (λh=>by have:=h.1;omega);have Oj:0<j:=by omega
     have wh:=nr hxb;rw[eG]at wh;refine B 4 ?_;refine rq (.agg (bD xb)) (rp isAgg53 sizeOf53 rfl (Lq) (dE ry hxb rfl)) (va (eK ry hxb rfl)) ?_;refine B 3 ?_;have Vm:B8 ((ds.map sg).map (·.2)) j d.c=xb.g.ns:=by unfold B8;rw[if_pos Oj,Zv,nei,hfb];rfl
     obtain⟨db,hdb,Zw⟩:=bY.1 (cP hxb);have Om:sa F xb:=by rw[<-Zw];exact(hv.d db hdb).2.2.mono (λp hp=>jI p hp)
     have hnn:=Om.nn;refine eS 15 8 [13,14] (pb:=by exact zU 3 (k:=by exact aU (X.v (RV.re (v':=.bool (decide (j=0))) (lK rfl rfl) ((vb (decide_eq_decide.2 aa))))) (zU 8 (k:=by exact aU (X.v (RV.re (v':=.agg (bD d.x)) (rp isAgg53 sizeOf53 rfl (Lq) (dE ry Lp rfl)) (va (eK ry Lp rfl)))) zT)))) (sp:=[_,some (.agg (cG d.c)),_,_,_,some (.agg #[.slice xb.na xb.g.ns.length xb.nc]),_,some (.slice d.c.ca d.c.chs.length d.c.cc),_,_,_,_,some (.agg (bD d.x)),_,_]) (h:=?_);intro _ _ hk;refine nv (α:=Option Addr×Nat) (v:=λq=>.agg #[.slice q.1 (aX xb.g.ns d.c.chs).length q.2]) (Φ:=λW q w1=>ai fN 2 w1.heap.size w1 q.1 (aX xb.g.ns d.c.chs)/\((d.c.chs=[]/\q=(xb.na,xb.nc))\/∀b off,q.1=some ⟨b,off,none⟩->W.heap.size<=b)) call57 rfl rfl rfl (λW hS=>nmg xb.g.ns aa d.c.chs xC.2 xC.1 W.heap.size xb.na xb.nc d.c.ca d.c.cc W (ak _) (Om.lies hS.fzLies).ns ((hC d.c Zu).chs.up cM (hS.same A2 hN zI zH))) ?_;rintro W9 ⟨q1,q2⟩ w8 cu xz ⟨hq1,hq2⟩;dsimp only at hq1 hq2;have oA:w.heap.size<=(W9.heap.size):=(cu.links w A2).size;have hK2:(∀p∈(([(gf,oC (bD xb) 53),(b9,oC (cG d.c) 61),(b4,oC (sR fo) 97)]:ad)++(r.hp zt 92 pls++[]):ad),p.1<(W9.heap.size)):=λp hp=>cu.lt p hp;refine zG ?_;intro _ _ hk;refine ax (.agg (kh (⟨d.c,decide (j=0),aX xb.g.ns d.c.chs,q1,q2,d.x⟩:Pl))) ?_
     refine zG ?_;intro _ _ hk;refine zoe ?_;intro Vn wM gP;refine zE ?_;replace wM:=yb wM;obtain⟨FT,RU,Zx⟩:∃FT:ad,(∀p∈FT,(W9.heap.size)<=p.1/\p.1<w8.heap.size/\w8.heap[p.1]? =some p.2)/\ll fN 2 (FT++F) q1 (aX xb.g.ns d.c.chs):=by
      rcases hq2 with⟨h1,h2⟩|h2
      ·exact zLg
      by_cases h0:aX xb.g.ns d.c.chs=[]
      ·exact⟨[],by simp,.inl h0⟩
      exact z3f
     refine OJ.fzB (L':=[w1,w]) FT (λW hS p hp=>?_) zJ ?_
     ·have h1:=RU p hp;have hn:p.1∉List.map (·.1) ([(Vn,oC (kh (⟨d.c,decide (j=0),aX xb.g.ns d.c.chs,q1,q2,d.x⟩:Pl)) 92),(gf,oC (bD xb) 53),(b9,oC (cG d.c) 61),(b4,oC (sR fo) 97)]++(r.hp zt 92 pls++[]):ad):=by
       intro hm;obtain⟨p9,hp9,e9⟩:=bY.1 hm;rcases bX.1 hp9 with h2|h2
       ·rw[h2]at e9;dsimp only at e9;omega
       have:=hK2 p9 h2;omega
      exact⟨((hS.links w8 A0).block p.1 h1.2.1 (λhx=>hx.elim zL (λh=>hn h))).trans h1.2.2,hn⟩
     refine jS (r:=r) (xs:=pls) (zs:=[(⟨d.c,decide (j=0),aX xb.g.ns d.c.chs,q1,q2,d.x⟩:Pl)]) (enc:=zt) (m:=111) (H0:=[(Vn,oC (kh (⟨d.c,decide (j=0),aX xb.g.ns d.c.chs,q1,q2,d.x⟩:Pl)) 92),(gf,oC (bD xb) 53),(b9,oC (cG d.c) 61),(b4,oC (sR fo) 97)]) (H1:=[]) zX n2l Zs rfl rfl rfl rfl (bO.one (z:=(⟨d.c,decide (j=0),aX xb.g.ns d.c.chs,q1,q2,d.x⟩:Pl)) Zs npj underlying89 (bB.own (i:=0) rfl)) ah aK zJ Az ?_;intro wO FU FV rz kI;replace rz:=yb rz;refine CH ?_;refine pV ?_;refine PJ.again (((Rw.row wO FU FV,pls++[(⟨d.c,decide (j=0),aX xb.g.ns d.c.chs,q1,q2,d.x⟩:Pl)]),FT++F),j+1) ⟨⟨by dsimp only;omega,λq hq=>bA.2 (.inr (jI q hq))⟩,rz.elim (λh=>Rw.Fr_at aK h) (λh=>.inr zD),kI,by dsimp only;rw[nKg (q:=sg d) (by rw[sA,hd];rfl),gb,aQ,iP];congr 2;unfold FO;rw[show me cs (sg d).1=d.c by show me cs (kg d)=d.c;unfold me;rw[qw.1];rfl,Vm];rfl,
      λp hp=>(bA.1 hp).elim (λh=>⟨(iJ p h).1.mono (λq hq=>bA.2 (.inr hq)),(iJ p h).2⟩) (λh=>by rw[kf.1 h];exact⟨⟨Zx,by have:=QL d.c.chs xb.g.ns;dsimp only;omega,qw.2.2.mono (λq hq=>bA.2 (.inr (jI q hq)))⟩,Zu⟩),by dsimp only;rw[ck];simp only[dC,fb];omega,λq hq=>(bA.1 hq).elim (λh=>by have:=(RU q h).1;omega) (dS q)⟩ zW zR rfl rfl zJ
    intro jo;refine B 2 ?_;have Vm:B8 ((ds.map sg).map (·.2)) j d.c=gy.g.ns:=by
     exact zAg
    have Om:sa F gy:=⟨.inl rfl,.inl rfl,by simp[gy,vA],by simp[gy,vA]⟩;have hnn:=Om.nn;refine eS 15 8 [13,14] (pb:=by exact zU 3 (k:=by exact aU (X.v (RV.re (v':=.bool (decide (j=0))) (lK rfl rfl) ((vb (decide_eq_decide.2 aa))))) (zU 8 (k:=by exact aU (X.v (RV.re (v':=.agg (bD d.x)) (rp isAgg53 sizeOf53 rfl (Lq) (dE ry Lp rfl)) (va (eK ry Lp rfl)))) zT)))) (sp:=[_,some (.agg (cG d.c)),_,_,_,some (.agg #[.slice gy.na gy.g.ns.length gy.nc]),_,some (.slice d.c.ca d.c.chs.length d.c.cc),_,_,_,_,some (.agg (bD d.x)),_,_]) (h:=?_);intro _ _ hk;refine zcd ?_;rintro W9 ⟨q1,q2⟩ w8 cu xz ⟨hq1,hq2⟩;dsimp only at hq1 hq2;have oA:w.heap.size<=(W9.heap.size):=(cu.links w A2).size;have hK2:(∀p∈(([(gf,oC (bD gy) 53),(b9,oC (cG d.c) 61),(b4,oC (sR fo) 97)]:ad)++(r.hp zt 92 pls++[]):ad),p.1<(W9.heap.size)):=λp hp=>cu.lt p hp;refine zG ?_;intro _ _ hk;refine zMe ?_;intro _ _ hk;refine zoe ?_;intro Vn wM gP;refine zE ?_;replace wM:=yb wM;obtain⟨FT,RU,Zx⟩:∃FT:ad,(∀p∈FT,(W9.heap.size)<=p.1/\p.1<w8.heap.size/\w8.heap[p.1]? =some p.2)/\ll fN 2 (FT++F) q1 (aX gy.g.ns d.c.chs):=by
     exact z3h
    refine OJ.fzB (L':=[w1,w]) FT (λW hS p hp=>?_) zJ ?_
    ·exact zcg
    refine zdd ?_;intro wO FU FV rz kI;replace rz:=yb rz;refine CH ?_;refine pV ?_;refine PJ.again (((Rw.row wO FU FV,pls++[(⟨d.c,decide (j=0),aX gy.g.ns d.c.chs,q1,q2,d.x⟩:Pl)]),FT++F),j+1) ⟨⟨by dsimp only;omega,λq hq=>bA.2 (.inr (jI q hq))⟩,rz.elim (λh=>Rw.Fr_at aK h) (λh=>.inr zD),kI,by dsimp only;rw[nKg (q:=sg d) (by rw[sA,hd];rfl),gb,aQ,iP];congr 2;unfold FO;rw[show me cs (sg d).1=d.c by show me cs (kg d)=d.c;unfold me;rw[qw.1];rfl,Vm];rfl,
     λp hp=>(bA.1 hp).elim (λh=>⟨(iJ p h).1.mono (λq hq=>bA.2 (.inr hq)),(iJ p h).2⟩) (λh=>by rw[kf.1 h];exact⟨⟨Zx,by have:=QL d.c.chs gy.g.ns;dsimp only;omega,qw.2.2.mono (λq hq=>bA.2 (.inr (jI q hq)))⟩,Zu⟩),by dsimp only;rw[ck];simp only[dC,fb];omega,λq hq=>(bA.1 hq).elim (λh=>by have:=(RU q h).1;omega) (dS q)⟩ zW zR rfl rfl zJ
   replace dc:=ya dc;refine B 8 ?_;have Vm:B8 ((ds.map sg).map (·.2)) j d.c=gy.g.ns:=by
    exact zAg
   have Om:sa F gy:=⟨.inl rfl,.inl rfl,by simp[gy,vA],by simp[gy,vA]⟩;have hnn:=Om.nn;refine eS 15 8 [13,14] (pb:=by exact zU 3 (k:=by exact aU (X.v (RV.re (v':=.bool (decide (j=0))) (lK rfl rfl) ((vb (decide_eq_decide.2 aa))))) (zU 8 (k:=by exact aU (X.v (RV.re (v':=.agg (bD d.x)) (rp isAgg53 sizeOf53 rfl (Lq) (dE ry Lp rfl)) (va (eK ry Lp rfl)))) zT)))) (sp:=[_,some (.agg (cG d.c)),_,_,_,some (.agg #[.slice gy.na gy.g.ns.length gy.nc]),_,some (.slice d.c.ca d.c.chs.length d.c.cc),_,_,_,_,some (.agg (bD d.x)),_,_]) (h:=?_);intro _ _ hk;refine zcd ?_;rintro W9 ⟨q1,q2⟩ w8 cu xz ⟨hq1,hq2⟩;dsimp only at hq1 hq2;have oA:w.heap.size<=(W9.heap.size):=(cu.links w A2).size;have hK2:(∀p∈(([(gf,oC (bD gy) 53),(b9,oC (cG d.c) 61),(b4,oC (sR fo) 97)]:ad)++(r.hp zt 92 pls++[]):ad),p.1<(W9.heap.size)):=λp hp=>cu.lt p hp;refine zG ?_;intro _ _ hk;refine zMe ?_;intro _ _ hk;refine zoe ?_;intro Vn wM gP;refine zE ?_;replace wM:=yb wM;obtain⟨FT,RU,Zx⟩:∃FT:ad,(∀p∈FT,(W9.heap.size)<=p.1/\p.1<w8.heap.size/\w8.heap[p.1]? =some p.2)/\ll fN 2 (FT++F) q1 (aX gy.g.ns d.c.chs):=by
    exact z3h
   refine OJ.fzB (L':=[w1,w]) FT (λW hS p hp=>?_) zJ ?_
   ·exact zcg
   refine zdd ?_;intro wO FU FV rz kI;replace rz:=yb rz;refine CH ?_;refine pV ?_;refine PJ.again (((Rw.row wO FU FV,pls++[(⟨d.c,decide (j=0),aX gy.g.ns d.c.chs,q1,q2,d.x⟩:Pl)]),FT++F),j+1) ⟨⟨by dsimp only;omega,λq hq=>bA.2 (.inr (jI q hq))⟩,rz.elim (λh=>Rw.Fr_at aK h) (λh=>.inr zD),kI,by dsimp only;rw[nKg (q:=sg d) (by rw[sA,hd];rfl),gb,aQ,iP];congr 2;unfold FO;rw[show me cs (sg d).1=d.c by show me cs (kg d)=d.c;unfold me;rw[qw.1];rfl,Vm];rfl,
    λp hp=>(bA.1 hp).elim (λh=>⟨(iJ p h).1.mono (λq hq=>bA.2 (.inr hq)),(iJ p h).2⟩) (λh=>by rw[kf.1 h];exact⟨⟨Zx,by have:=QL d.c.chs gy.g.ns;dsimp only;omega,qw.2.2.mono (λq hq=>bA.2 (.inr (jI q hq)))⟩,Zu⟩),by dsimp only;rw[ck];simp only[dC,fb];omega,λq hq=>(bA.1 hq).elim (λh=>by have:=(RU q h).1;omega) (dS q)⟩ zW zR rfl rfl zJ
  intro aN;refine B 10 ?_;refine pV ?_;refine ag (((r,pls),F),i+1) ⟨by dsimp only;omega,aK,ah,by dsimp only;rw[nhp uI,aQ];congr 1;unfold B9;rw[<-hv.eq,eG,show ds.length=j by omega],iJ,by dsimp only;omega,dS⟩
 intro ar;refine B 12 ?_;have hi9:i=fos.length:=by omega
 rw[hi9,vW]at aQ;refine bM (.inl rfl) results30 bj λW hS=>?_;have Fj:r.At zt 92 pls W:=by
  cases r with
  |nil=>trivial
  |row b cap sp=>exact hS.own (b,_) oR
 obtain⟨a1,c1,uo,xH⟩:=Rw.sl Zs ah Fj (ak W.heap.size);obtain⟨F1,zj,xH⟩:=xH.fs (K:=w.heap.size) (Rw.val_new (Rw.ge_mono bH aa) uo);refine⟨((a1,c1),pls),F1++F,?_,?_,λp hp=>?_,aQ,λp hp=>⟨(iJ p hp).1.mono (λq hq=>bA.2 (.inr hq)),(iJ p hp).2⟩,by dsimp only;omega,xH.mono (λp hp=>bA.2 (.inl hp))⟩
 ·show Ending.returned (r.val pls.length)=_;rw[uo]
 ·exact(hS.links w A1).below (λk hk hx=>by rcases hx with hx|hx;(exact hx);simp only[dV]at hx;have:=Rw.mem_ge bH hx;omega)
 rcases bA.1 hp with hp|hp
 ·exact zj p hp
 exact⟨dS p hp,(hS.fzLies p hp).2⟩
structure Dv where
 fr:List Se
 to:Se
 fa:Option Addr
 fc:Nat
def uW (d:Dv):Array Value:=(.slice d.fa d.fr.length d.fc::ab d.to.kind::ab d.to.pub::lL (fJ d.to.com) [ab d.to.lev]).toArray
def gQ (d:Dv):List Value:=(.slice d.fa d.fr.length d.fc::ab d.to.kind::ab d.to.pub::lL (fJ d.to.com) [ab d.to.lev])
theorem FX(d:Dv):(gQ d).length=36:=rfl
theorem neh(d:Dv):∀u∈gQ d,u.oneCell'=true:=II rfl
theorem Lr:prog.info? 142=some Tryz.t142:=by kernel_rfl
theorem nnl:iR prog 138 142 36:=⟨underlying138,Tryz.t142,.agg (ao::ab 0::ab 0::tr [ab 0]).toArray,Lr,rfl,rfl,rfl,by decide⟩
def gE (d:Dv):List Se×Se:=(d.fr,d.to)
structure fe (Z:aE) (K N:Nat) (w:World) (d:Dv):Prop where
 ne:d.fr≠ []
 sl:ai seA 35 N w d.fa d.fr
 out:∀q,d.fa=some q->¬Z q.block/\K<=q.block
theorem fe.up{Z Z':aE}{K N:Nat}{d:Dv}(h:fe Z K N w d)(hz:N<=W.heap.size)(hs:∀b off,d.fa=some ⟨b,off,none⟩->K<=b->b<N->¬Z b->W.heap[b]? =w.heap[b]?)(hZ:∀b,K<=b->b<N->Z' b->Z b):fe Z' K W.heap.size W d:=by
 rcases h.sl with h1|⟨b,off,cs,t,fr,e1,e2,e3,e4⟩
 ·exact absurd h1 h.ne
 have h2:=h.out _ e1;refine⟨h.ne,.inr ⟨b,off,cs,t,fr,e1,by omega,(hs b off e1 h2.2 e2 h2.1).trans e3,e4⟩,λq hq=>?_⟩;rw[e1]at hq;cases hq;exact⟨λhz'=>h2.1 (hZ b h2.2 e2 hz'),h2.2⟩
theorem fe.low{Z:aE}{K K' N:Nat}{d:Dv}(h:fe Z K N w d)(hK:K'<=K):fe Z K' N w d:=⟨h.ne,h.sl,λq hq=>⟨(h.out q hq).1,dG hK (h.out q hq).2⟩⟩
theorem fe.one{Z:aE}{K:Nat}{s to:Se}{b c:Nat}(hb:w.heap[b]? =some (.cells (seA s) t fr))(hz:¬Z b)(hK:K<=b):fe Z K w.heap.size w ⟨[s],to,some ⟨b,0,none⟩,c⟩:=by
 refine⟨by simp,.inr ⟨b,0,_,_,_,rfl,(aT.1 hb).1,hb,λi hi=>?_⟩,λq hq=>by cases hq;exact⟨hz,hK⟩⟩;have h0:i=0:=by simp only[dC,fb]at hi;omega
 subst h0;exact⟨ak _,rfl⟩
noncomputable def FY (p:Ap) (b:Bx):List (List Se×Se):=match eb p.2.2.1 b.node with|some y=>[([aS y],nq (dk p.2.2.2.last) b.level)]|none=>[]
def Ls (p:Ap) (k:Nat) (y:Int):List (List Se×Se):=([nq (dk p.2.2.2.last) (k:Int)],aS y)::if k<9 then[([nq (dk p.2.2.2.last) (k:Int)],nq (dk p.2.2.2.last) ((k+1:Nat):Int))]else[]
def lz (p:Ap):Nat->List (List Se×Se)
 |0=>[]
 |j+1=>match p.1.path[j]? with|none=>lz p j|some y=>lz p j++Ls p j y
def On (p:Ap):List Se:=nq (dk p.2.2.2.last) 9::if p.2.1=true then[]else[bE (dk p.1.par)]
def vF (d:Int):Int:=if dW d then 512+d else 0
noncomputable def Lt (p:Ap) (x:We):List (List Se×Se):=match eb p.2.2.1 (vF x.dev)with|some y=>[([aS y],bE (dk p.2.2.2.last))]|none=>[]
noncomputable def lA (p:Ap):List (List Se×Se):=p.1.bxs.flatMap (FY p)++lz p p.1.path.length++[(On p,bE (dk p.2.2.2.last))]++p.1.wes.flatMap (Lt p)
theorem Vo:∀{l:Nat} {W0:World} {MI RO M:aE} {hM:∀k,M k->k<W0.heap.size/\¬MI k/\¬RO k} {V:aE} {I:World->Prop} {hI:eX (λk=>(k<W0.heap.size/\¬MI k)\/V k) I} {I1 X1:aE->World->Prop} (kO:∀V,eX (λk=>(k<W0.heap.size/\¬MI k)\/V k) (I1 V)) (fE:∀V,eX (λk=>(k<W0.heap.size/\¬MI k)\/V k) (X1 V)) (hV:∀k,V k->W0.heap.size<=k) (x:Dv) (b2:Nat) (W:World) (Lu:St (dh hM V hI) [W] [] W) (da:W.heap[b2]? =some (oC #[yv l] 145)) (Zy:¬(M b2\/V b2)) (hy:∀W1,aH (λk=>M k\/V k) W W1->(∀k,V k->W0.heap.size<=k/\k<W1.heap.size)->I W1->Oo prog l #[.agg (uW x)] W1 (λb W2=>aH (λk=>M k\/V k) W1 W2/\(if b then I1 (qA V W1 W2) W2 else X1 (qA V W1 W2) W2))),Calls prog 167 #[de x.to,.slice x.fa x.fr.length x.fc,ptr b2 0] W (YR M V I1 X1 W):=by
 intro l W0 MI RO M hM V I hI I1 X1 kO fE hV x b2 W Lu da Zy hy;have DI:=(aT.1 da).1;have bW:¬(dh hM V hI).X b2:=Zy;have hb2_:=da;refine nB (dh hM V hI) [] (vs:=[_,_,_]) func167 rfl ntmps167 rfl Lu ?_;refine B 2 ?_;refine yX ?_;intro b3 w3 hb3 cK fF ez eP;refine B 7 ?_;refine ax (de x.to) ?_;refine ax (.agg (uW x)) ?_;refine Zz (λ_=>False) id Ya (V:=V) kO fE hV rfl rfl rfl rfl (λW1 lG hw1 pT=>hy W1 ((lG.links W A1).mono (λk _ hx=>hx.elim id (λh=>by simp at h))) hw1 pT) ?_ ?_
 ·intro V2 kS wg;refine B 4 ?_;exact bM (.inl rfl) results167 bj λW2 hS=>⟨true,V2,rfl,kS,λk hk=>(wg W A1 k hk).imp id (λh=>⟨h,hS.xlt k (.inr hk)⟩),(hS.links W A1).mono (λk hk hx=>by rcases hx with(hx|hx)|hx;(exact .inl hx);(rcases wg W A1 k hx with h|h;(exact .inr h);omega);simp at hx),hS.ghost⟩
 intro V2 kS wg;refine B 4 ?_;exact bM (.inl rfl) results167 bj λW2 hS=>⟨false,V2,rfl,kS,λk hk=>(wg W A1 k hk).imp id (λh=>⟨h,hS.xlt k (.inr hk)⟩),(hS.links W A1).mono (λk hk hx=>by rcases hx with(hx|hx)|hx;(exact .inl hx);(rcases wg W A1 k hx with h|h;(exact .inr h);omega);simp at hx),hS.ghost⟩
def RW (bp:Nat) (p:Pl):aE:=λk=>k=bp\/(p.ns≠ []/\∃off,p.ta=some ⟨k,off,none⟩)\/(p.c.bxs≠ []/\∃off,p.c.ba=some ⟨k,off,none⟩)\/(p.c.path≠ []/\∃off,p.c.pa=some ⟨k,off,none⟩)\/(p.c.wes≠ []/\∃off,p.c.wa=some ⟨k,off,none⟩)
abbrev FZ:List Dv->aE->World->Prop:=λl Z w=>l.length<=200/\∀d∈l,fe Z 0 w.heap.size w d
abbrev F4 (K:Nat) (a:Ap):List Dv->aE->World->Prop:=λl Z w=>(l.map gE=lA a/\l.length<=200)/\∀d∈l,fe Z K w.heap.size w d
variable {a:Ap}
theorem Lv{b:Bx}(h:(eb a.2.2.1 b.node).isSome=true):FY a b=[([aS ((eb a.2.2.1 b.node).getD 0)],nq (dk a.2.2.2.last) b.level)]:=by grind [FY]
theorem RX{b:Bx}(h:(eb a.2.2.1 b.node).isSome=false):FY a b=[]:=by grind [FY,eb]
theorem nPn{x:We}(h:(eb a.2.2.1 (vF x.dev)).isSome=true):Lt a x=[([aS ((eb a.2.2.1 (vF x.dev)).getD 0)],bE (dk a.2.2.2.last))]:=by grind [Lt]
theorem RY{x:We}(h:(eb a.2.2.1 (vF x.dev)).isSome=false):Lt a x=[]:=by grind [Lt,eb,vF]
theorem CY{α β:Type}{f:α->List β}{xs:List α}{j:Nat}{x:α}(hx:xs[j]? =some x):(xs.take (j+1)).flatMap f=(xs.take j).flatMap f++f x:=by rw[np hx];simp
theorem nrk{j:Nat}{y:Int}(h:a.1.path[j]? =some y):lz a (j+1)=lz a j++Ls a j y:=by conv=>lhs;unfold lz;rw[h]
def F5 (d:Int):Int:=if dW d then 0 else 200
theorem ntk(d:Int)(w:World):Calls prog 37 #[ab d] w (aM w (.tuple #[ab (vF d),ab (F5 d)])):=by
 by_cases h:dW d
 ·unfold vF F5;rw[if_pos h,if_pos h];exact nNi d h w
 unfold vF F5;rw[if_neg h,if_neg h];exact n2k d h w
theorem fe.row{Z:aE}{K:Nat}{to:Se}{b cp:Nat}{xs:List Se}{sp:List Value}(hb:w.heap[b]? =some (aO dJ t xs sp))(hf:(Rw.row b cp sp).Fit 35 xs)(h0:xs≠ [])(hz:¬Z b)(hK:K<=b):fe Z K w.heap.size w ⟨xs,to,some ⟨b,0,none⟩,cp⟩:=by
 obtain⟨a9,c9,e9,h9⟩:=(Rw.row b cp sp).sl (enc:=dJ) (t:=t) (N:=w.heap.size) (w:=w) nu hf hb (ak _);simp only[Rw.val,Value.slice.injEq]at e9;rw[<-e9.1]at h9;exact⟨h0,h9,λq hq=>by cases hq;exact⟨hz,hK⟩⟩
theorem Lw(p:Pl)(b1 N:Nat)(W:World)(hN:N<=W.heap.size)(hb1:W.heap[b1]? =some (oC (kh p) 92))(RL:ai fN 2 N W p.ta p.ns)(hnn:p.ns.length<=90000)(xI:ai yS 4 N W p.c.ba p.c.bxs)(hpt:ai encI 1 N W p.c.pa p.c.path)(hwe:ai wj 3 N W p.c.wa p.c.wes)(qX:qW p.c):rB prog 166 [ptr b1 0] (λd:Dv=>[.agg (uW d)]) FZ (F4 W.heap.size (bC p)) (λ_=>False) (RW b1 p) W:=by
 intro l M I X0 hM hI hX hy h0;have lX:=(aT.1 hb1).1;have Ca:∀(V:aE) (k:Nat),(∀k,V k->W.heap.size<=k)->RW b1 p k->k<W.heap.size->¬(M k\/V k):=λV k hV h hk hx=>hx.elim (λhx=>(hM _ hx).2.2 h) (λhx=>by have:=hV k hx;omega);have cF:¬(dh hM (λ_=>False) (hI [] _)).X b1:=Ca (λ_=>False) b1 (λ_ h=>h.elim) (.inl rfl) lX;have jf:=qX.bxs;have anG:=qX.path;have anH:=qX.wes;refine nB (dh hM (λ_=>False) (hI [] _)) [] (vs:=[_,_]) func166 rfl ntmps166 rfl (Nj hM (hI [] _) h0 zJ (by simp[kV]) zJ) ?_;refine NH ?_;refine yW ?_;intro b2 dx dq;refine B 6 ?_;refine Vp ?_;refine B 1 ?_;refine yW ?_;intro b3 ez eP;refine B 14 ?_;refine ax (.slice p.c.ba p.c.bxs.length p.c.bc) ?_;refine B 5 ?_;refine CJ.resnap0 (L':=[W]) zJ (λw0 RZ=>?_);have aiE:=RZ.lt (b2,_) A1;have aiF:=RZ.lt (b3,_) A0;dsimp only at aiE aiF;have hw0:=(RZ.links W A0).size;refine CJ.loop (α:=(List Dv×aE)×World×Nat) (λp9=>[(1,ptr b1 0),(3,ptr b3 0),(4,.func (.func 167) #[] #[ptr b2 0]),(24,.slice p.c.ba p.c.bxs.length p.c.bc),(25,ab (p.c.bxs.length:Int)),(26,ab (p9.2.2:Int))]) (λp9=>[(b3,oC (dg p.x.g.last) 33),(b2,oC #[yv l] 145)]) (λp9=>[p9.2.1,W]) (λp9=>dh hM p9.1.2 (hI p9.1.1 p9.1.2)) (λp9=>p9.2.2<=p.c.bxs.length/\(∀k,p9.1.2 k->W.heap.size<=k)/\w0.heap.size<=p9.2.1.heap.size/\p9.1.1.map gE=((bC p).1.bxs.take p9.2.2).flatMap (FY (bC p))/\p9.1.1.length<=p9.2.2/\∀d∈p9.1.1,fe (λk=>M k\/p9.1.2 k) w0.heap.size p9.2.1.heap.size p9.2.1 d) (λp9=>p.c.bxs.length-p9.2.2) (([],λ_=>False),w0,0) ⟨cV _,λ_ h=>h.elim,ak _,rfl,ak _,by simp⟩ zR rfl rfl zJ ?_
 rintro⟨⟨pre,V⟩,wk,j⟩ ⟨hj,hV,sI,aQ,im,dP⟩;dsimp only at hj hV sI aQ im dP ⊢;have cF:¬(dh hM V (hI pre V)).X b1:=Ca V b1 hV (.inl rfl) lX;refine B 6 ?_;refine aG ?_ ?_
 ·intro ar;refine B 5 ?_;obtain⟨bo,oo,cs0,to_,fG,gU,fH,cJ,aW⟩:=xI.get aa;obtain⟨x,hx⟩:=ng p.c.bxs j aa;rw[gU];have AO:¬(dh hM V (hI pre V)).X bo:=Ca V bo hV (.inr (.inr (.inl ⟨λh=>by rw[h]at hx;simp at hx,oo,gU⟩))) aa;refine B 2 ?_;refine rq (.agg (yS x)) (dQ isAgg110 sizeOf110 rfl A1 cJ AO z2 (dE aW hx rfl)) (va (eK aW hx rfl)) ?_;refine B 1 ?_;refine yW ?_;intro b6 jD qu;refine B 6 ?_;refine ax (.agg #[.slice p.ta p.ns.length p.tc]) ?_;refine B 1 ?_;refine ax (ab x.node) ?_;refine call (v:=.tuple #[ab ((eb p.ns x.node).getD 0),.bool (eb p.ns x.node).isSome]) call36 rfl rfl rfl (λW9 hS=>nQc p.ns aa W9.heap.size p.ta p.tc W9 (ak _) (RL.toG hS A1 hN (λb off e=>by by_cases h0:p.ns=[];(exact .inl h0);exact .inr (λhb=>⟨Ca V b hV (.inr (.inl ⟨h0,off,e⟩)) aa,z2⟩))) x.node) ?_;refine B 11 ?_;refine ni (t:=39) rfl (λaN=>?_) (λaN=>?_)
  ·replace aN:=ya aN;refine B 1 ?_;refine Vp ?_;refine B 1 ?_;refine ax (ab x.level) ?_;refine zhe ?_;refine B 1 ?_;refine zme ?_;refine R0 ?_;refine yV ?_;intro IT R1 ZA R4 anI anJ anK;refine R5 (f:=167) (first:=[]) (cap:=[ptr b2 0]) (V:=V) (λV=>hI (pre++[(⟨[aS ((eb p.ns x.node).getD 0)],nq (dk p.x.g.last) x.level,some ⟨IT,0,none⟩,1⟩:Dv)]) V) hX rfl call167 rfl rfl rfl (λW9 cu=>?_) ?_ ?_
   ·refine Vo (λV=>hI (pre++[(⟨[aS ((eb p.ns x.node).getD 0)],nq (dk p.x.g.last) x.level,some ⟨IT,0,none⟩,1⟩:Dv)]) V) hX hV (⟨[aS ((eb p.ns x.node).getD 0)],nq (dk p.x.g.last) x.level,some ⟨IT,0,none⟩,1⟩:Dv) b2 W9 cu.alone (cu.own (b2,_) A2) (λh=>h.elim (λh=>by have:=(hM _ h).1;omega) (λh=>cu.apart (b2,_) A2 (.inr h))) (λW1 oA hv1 pT=>hy pre (⟨[aS ((eb p.ns x.node).getD 0)],nq (dk p.x.g.last) x.level,some ⟨IT,0,none⟩,1⟩:Dv) V W1 ⟨by simp only[ck,dC,fb];omega,λd hd=>?_⟩ hv1 pT);rcases bA.1 hd with hd|hd
    ·exact zVf
    rw[kf.1 hd];exact fe.low (fe.up (fe.one ZA R4 (K:=w0.heap.size) aa) (dG (cu.links R1 A0).size oA.size) (λb off e_ hb1_ hb2_ hb3_=>(oA.block b (by have:=(cu.links R1 A0).size;omega) hb3_).trans ((cu.links R1 A0).block b hb2_ (λhx=>hx.elim hb3_ (λhx=>by cases e_;first|(simp only[cW,dB,dt,eL,bX,dy,or_false]at hx;omega)|(simp at hx;omega)|(simp at hx))))) (λb _ _ h=>h)) (cV _)
   ·intro V2 sV dp;have kS:∀k,V2 k->W.heap.size<=k:=λk hk=>(dp W A2 k hk).elim (hV k) id;have hn2:∀k,k<wk.heap.size->(M k\/V2 k)->(M k\/V k):=λk hk h=>(h.imp id λh=>(dp wk A1 k h).resolve_right aa);have F7:¬(M IT\/V2 IT):=λh=>R4 (h.imp id λh=>(dp R1 A0 _ h).resolve_right aa);refine B 12 ?_;refine PJ.resnap (L':=[wk,W]) (i:=0) rfl zD zJ (λW9 cu=>?_);have cx:∀d∈(pre++[(⟨[aS ((eb p.ns x.node).getD 0)],nq (dk p.x.g.last) x.level,some ⟨IT,0,none⟩,1⟩:Dv)]),fe (λk=>M k\/V2 k) w0.heap.size W9.heap.size W9 d:=by
     intro d hd;rcases bA.1 hd with hd|hd
     ·exact zXf
     rw[kf.1 hd];exact fe.up (fe.one ZA F7 (K:=w0.heap.size) aa) (cu.links R1 A0).size (λb off e_ hb1_ hb2_ hb3_=>(cu.links R1 A0).block b hb2_ (λhx=>hx.elim hb3_ (λhx=>by cases e_;first|(simp only[cW,dB,dt,eL,bX,dy,or_false]at hx;omega)|(simp at hx;omega)|(simp at hx)))) (λb _ _ h=>h)
    refine ag ((pre++[(⟨[aS ((eb p.ns x.node).getD 0)],nq (dk p.x.g.last) x.level,some ⟨IT,0,none⟩,1⟩:Dv)],V2),W9,j+1) ⟨by dsimp only;omega,kS,dG sI (cu.links wk A1).size,by dsimp only;rw[CY (xs:=(bC p).1.bxs) hx,gb,aQ,Lv eC];rfl,by dsimp only;simp only[ck,dC,fb];omega,cx⟩
   intro V2 sV dp;have kS:∀k,V2 k->W.heap.size<=k:=λk hk=>(dp W A2 k hk).elim (hV k) id;have hn2:∀k,k<wk.heap.size->(M k\/V2 k)->(M k\/V k):=λk hk h=>(h.imp id λh=>(dp wk A1 k h).resolve_right aa);have F7:¬(M IT\/V2 IT):=λh=>R4 (h.imp id λh=>(dp R1 A0 _ h).resolve_right aa);refine B 11 ?_;exact zpg
  replace aN:=ya aN;refine B 21 ?_;refine pV ?_;refine ag ((pre,V),wk,j+1) ⟨by dsimp only;omega,hV,sI,by dsimp only;rw[CY (xs:=(bC p).1.bxs) hx,aQ,RX eC];exact(dV _).symm,by dsimp only;omega,dP⟩
 intro ar;refine B 10 ?_;refine ax (.slice p.c.pa p.c.path.length p.c.pc) ?_;refine B 5 ?_;have Oj:j=p.c.bxs.length:=by omega
 rw[Oj]at aQ;refine CJ.loop (α:=(List Dv×aE)×World×Nat) (λp9=>[(1,ptr b1 0),(3,ptr b3 0),(4,.func (.func 167) #[] #[ptr b2 0]),(54,.slice p.c.pa p.c.path.length p.c.pc),(55,ab (p.c.path.length:Int)),(56,ab (p9.2.2:Int))]) (λp9=>[(b3,oC (dg p.x.g.last) 33),(b2,oC #[yv l] 145)]) (λp9=>[p9.2.1,W]) (λp9=>dh hM p9.1.2 (hI p9.1.1 p9.1.2)) (λp9=>p9.2.2<=p.c.path.length/\(∀k,p9.1.2 k->W.heap.size<=k)/\w0.heap.size<=p9.2.1.heap.size/\p9.1.1.map gE=(bC p).1.bxs.flatMap (FY (bC p))++lz (bC p) p9.2.2/\p9.1.1.length<=p.c.bxs.length+2*p9.2.2/\∀d∈p9.1.1,fe (λk=>M k\/p9.1.2 k) w0.heap.size p9.2.1.heap.size p9.2.1 d) (λp9=>p.c.path.length-p9.2.2) ((pre,V),wk,0) ⟨cV _,hV,sI,by dsimp only;rw[aQ,show p.c.bxs.length=(bC p).1.bxs.length from rfl,vW];exact(dV _).symm,by dsimp only;omega,dP⟩ zR rfl rfl zJ ?_;rintro⟨⟨pre,V⟩,wk,j⟩ ⟨hj,hV,sI,aQ,im,dP⟩;dsimp only at hj hV sI aQ im dP ⊢;have cF:¬(dh hM V (hI pre V)).X b1:=Ca V b1 hV (.inl rfl) lX;refine B 6 ?_;refine aG ?_ ?_
 ·intro dc;refine B 5 ?_;obtain⟨bo,oo,cs0,to_,fG,gU,fH,cJ,aW⟩:=hpt.get aa;obtain⟨yy,ZB⟩:=ng p.c.path j aa;rw[gU];have AO:¬(dh hM V (hI pre V)).X bo:=Ca V bo hV (.inr (.inr (.inr (.inl ⟨λh=>by rw[h]at ZB;simp at ZB,oo,gU⟩)))) aa;refine B 3 ?_;refine rv rfl rfl rfl (av (v:=ab yy) isAgg3 rfl A1 cJ AO z2 (by have:=nN (enc:=encI) (n:=1) aW ZB rfl zB;simpa[encI]using this)) ?_;refine B 5 ?_;by_cases h9:j<9
  ·refine CJ.dj zO ?_;refine fS 0 7 6 [] (pb:=by exact zU 2 (k:=by exact aU (nf call29 rfl rfl (λW hS _=>nye _ W) (λ_=>rfl)) (zU 2 (k:=by exact aU (nf call31 rfl rfl (λW hS _=>Zi _ _ W) (λ_=>rfl)) zT)))) (sp:=[_,_,_,some (.agg (dg p.x.g.last)),_,_,_]) (h:=?_);intro _ _ hk;refine R0 ?_;intro rC sh F8 F9 R6 Ga aiJ;refine zE ?_;replace F9:=yb F9;simp only[aY,ne_eq]at R6;refine DJ.one (n:=7) rfl zO ?_;refine R5 (f:=167) (first:=[]) (cap:=[ptr b2 0]) (V:=V) (λV=>hI (pre++[(⟨[nq (dk p.x.g.last) (j:Int)],aS yy,some ⟨rC,0,none⟩,1⟩:Dv)]) V) hX rfl call167 rfl rfl rfl (λW9 cu=>?_) ?_ ?_
   ·exact z0h
   ·intro V2 sV dp;have kS:∀k,V2 k->W.heap.size<=k:=λk hk=>(dp W A2 k hk).elim (hV k) id;have hn2:∀k,k<wk.heap.size->(M k\/V2 k)->(M k\/V k):=λk hk h=>(h.imp id λh=>(dp wk A1 k h).resolve_right aa);have pd:¬(M rC\/V2 rC):=λh=>Ga (h.imp id λh=>(dp sh A0 _ h).resolve_right aa);refine zgf ?_;refine DJ.one (n:=10) rfl zO ?_;refine AP ?_;refine DJ.one (n:=11) rfl zO ?_;refine ax cX ?_;refine B 1 ?_;refine PJ.dj ?_;refine DJ.one (n:=12) rfl zO ?_;refine AP ?_;refine fS 13 22 21 [] (pb:=by exact zU 3 (k:=by exact aU (X.v (RV.re (v':=ab ((j+1:Nat):Int)) (hJ rfl rfl aa aa) ((congrArg ab aa)))) (aU (nf call31 rfl rfl (λW hS _=>Zi _ _ W) (λ_=>rfl)) (zU 2 (k:=by exact aU (nf call31 rfl rfl (λW hS _=>Zi _ _ W) (λ_=>rfl)) zT))))) (sp:=[_,some (.agg (dg p.x.g.last)),_,_,_,some (.agg (dg p.x.g.last)),_,_,_]) (h:=?_);intro _ _ hk;refine R0 ?_;intro IU R7 ZC ZD aiL R8 anL;refine zE ?_;replace ZD:=yb ZD;simp only[aY,ne_eq]at aiL;refine DJ.one (n:=22) rfl zO ?_;refine R5 (f:=167) (first:=[]) (cap:=[ptr b2 0]) (V:=V2) (λV=>hI ((pre++[(⟨[nq (dk p.x.g.last) (j:Int)],aS yy,some ⟨rC,0,none⟩,1⟩:Dv)])++[(⟨[nq (dk p.x.g.last) (j:Int)],nq (dk p.x.g.last) ((j+1:Nat):Int),some ⟨IU,0,none⟩,1⟩:Dv)]) V) hX rfl call167 rfl rfl rfl (λW9 cu=>?_) ?_ ?_
    ·refine Vo (λV=>hI ((pre++[(⟨[nq (dk p.x.g.last) (j:Int)],aS yy,some ⟨rC,0,none⟩,1⟩:Dv)])++[(⟨[nq (dk p.x.g.last) (j:Int)],nq (dk p.x.g.last) ((j+1:Nat):Int),some ⟨IU,0,none⟩,1⟩:Dv)]) V) hX kS (⟨[nq (dk p.x.g.last) (j:Int)],nq (dk p.x.g.last) ((j+1:Nat):Int),some ⟨IU,0,none⟩,1⟩:Dv) b2 W9 cu.alone (cu.own (b2,_) A1) (λh=>h.elim (λh=>by have:=(hM _ h).1;omega) (λh=>cu.apart (b2,_) A1 (.inr h))) (λW1 oA hv1 pT=>hy (pre++[(⟨[nq (dk p.x.g.last) (j:Int)],aS yy,some ⟨rC,0,none⟩,1⟩:Dv)]) (⟨[nq (dk p.x.g.last) (j:Int)],nq (dk p.x.g.last) ((j+1:Nat):Int),some ⟨IU,0,none⟩,1⟩:Dv) V2 W1 ⟨by simp only[ck,dC,fb];omega,λd hd=>?_⟩ hv1 pT);rcases bA.1 hd with hd|hd
     ·rcases bA.1 hd with hd|hd
      ·exact fe.low ((dP d hd).up (dG (cu.links wk A2).size oA.size) (λb off e_ hb1_ hb2_ hb3_=>(oA.block b (by have:=(cu.links wk A2).size;omega) (λh=>hb3_ (hn2 b hb2_ h))).trans ((cu.links wk A2).block b hb2_ (λhx=>hx.elim (λh=>hb3_ (hn2 b hb2_ h)) (λhx=>by first|(simp only[cW,dB,dt,eL,bX,dy,or_false]at hx;omega)|(simp at hx;omega)|(simp at hx))))) (λb _ hb2_ h=>hn2 b hb2_ h)) (cV _)
      rw[kf.1 hd];exact fe.low (fe.up (fe.one F8 pd (K:=w0.heap.size) aa) (dG (cu.links sh A1).size oA.size) (λb off e_ hb1_ hb2_ hb3_=>(oA.block b (by have:=(cu.links sh A1).size;omega) hb3_).trans ((cu.links sh A1).block b hb2_ (λhx=>hx.elim hb3_ (λhx=>by cases e_;first|(simp only[cW,dB,dt,eL,bX,dy,or_false]at hx;omega)|(simp at hx;omega)|(simp at hx))))) (λb _ _ h=>h)) (cV _)
     rw[kf.1 hd];exact fe.low (fe.up (fe.one ZC R8 (K:=w0.heap.size) aa) (dG (cu.links R7 A0).size oA.size) (λb off e_ hb1_ hb2_ hb3_=>(oA.block b (by have:=(cu.links R7 A0).size;omega) hb3_).trans ((cu.links R7 A0).block b hb2_ (λhx=>hx.elim hb3_ (λhx=>by cases e_;first|(simp only[cW,dB,dt,eL,bX,dy,or_false]at hx;omega)|(simp at hx;omega)|(simp at hx))))) (λb _ _ h=>h)) (cV _)
    ·intro V3 aiM uX;have wg:∀k,V3 k->W.heap.size<=k:=λk hk=>(uX W A3 k hk).elim (kS k) id;have hn3:∀k,k<wk.heap.size->(M k\/V3 k)->(M k\/V k):=λk hk h=>hn2 k hk (h.imp id λh=>(uX wk A2 k h).resolve_right aa);have Gb:¬(M rC\/V3 rC):=λh=>pd (h.imp id λh=>(uX sh A1 _ h).resolve_right aa);have Gc:¬(M IU\/V3 IU):=λh=>R8 (h.imp id λh=>(uX R7 A0 _ h).resolve_right aa);refine B 1 ?_;refine zGf ?_;refine B 9 ?_;refine PJ.resnap0 (L':=[wk,W]) zJ (λW9 cu=>?_);have cx:∀d∈((pre++[(⟨[nq (dk p.x.g.last) (j:Int)],aS yy,some ⟨rC,0,none⟩,1⟩:Dv)])++[(⟨[nq (dk p.x.g.last) (j:Int)],nq (dk p.x.g.last) ((j+1:Nat):Int),some ⟨IU,0,none⟩,1⟩:Dv)]),fe (λk=>M k\/V3 k) w0.heap.size W9.heap.size W9 d:=by
      intro d hd;rcases bA.1 hd with hd|hd
      ·rcases bA.1 hd with hd|hd
       ·exact(dP d hd).up (cu.links wk A2).size (λb off e_ hb1_ hb2_ hb3_=>(cu.links wk A2).block b hb2_ (λhx=>hx.elim (λh=>hb3_ (hn3 b hb2_ h)) (λhx=>by first|(simp only[cW,dB,dt,eL,bX,dy,or_false]at hx;omega)|(simp at hx;omega)|(simp at hx)))) (λb _ hb2_ h=>hn3 b hb2_ h)
       rw[kf.1 hd];exact fe.up (fe.one F8 Gb (K:=w0.heap.size) aa) (cu.links sh A1).size (λb off e_ hb1_ hb2_ hb3_=>(cu.links sh A1).block b hb2_ (λhx=>hx.elim hb3_ (λhx=>by cases e_;first|(simp only[cW,dB,dt,eL,bX,dy,or_false]at hx;omega)|(simp at hx;omega)|(simp at hx)))) (λb _ _ h=>h)
      rw[kf.1 hd];exact fe.up (fe.one ZC Gc (K:=w0.heap.size) aa) (cu.links R7 A0).size (λb off e_ hb1_ hb2_ hb3_=>(cu.links R7 A0).block b hb2_ (λhx=>hx.elim hb3_ (λhx=>by cases e_;first|(simp only[cW,dB,dt,eL,bX,dy,or_false]at hx;omega)|(simp at hx;omega)|(simp at hx)))) (λb _ _ h=>h)
     refine ag ((((pre++[(⟨[nq (dk p.x.g.last) (j:Int)],aS yy,some ⟨rC,0,none⟩,1⟩:Dv)])++[(⟨[nq (dk p.x.g.last) (j:Int)],nq (dk p.x.g.last) ((j+1:Nat):Int),some ⟨IU,0,none⟩,1⟩:Dv)]),V3),W9,j+1) ⟨by dsimp only;omega,wg,dG sI (cu.links wk A2).size,by dsimp only;rw[nrk (a:=bC p) ZB,gb,gb,aQ];unfold Ls;rw[if_pos h9];simp[gE,bC],by dsimp only;simp only[ck,dC,fb];omega,cx⟩
    intro V3 aiM uX;have wg:∀k,V3 k->W.heap.size<=k:=λk hk=>(uX W A3 k hk).elim (kS k) id;have hn3:∀k,k<wk.heap.size->(M k\/V3 k)->(M k\/V k):=λk hk h=>hn2 k hk (h.imp id λh=>(uX wk A2 k h).resolve_right aa);have Gb:¬(M rC\/V3 rC):=λh=>pd (h.imp id λh=>(uX sh A1 _ h).resolve_right aa);have Gc:¬(M IU\/V3 IU):=λh=>R8 (h.imp id λh=>(uX R7 A0 _ h).resolve_right aa);refine B 1 ?_;refine zGf ?_;refine B 8 ?_;exact ZE (.inl rfl) results166 A3 wg zZ (λA hSA hA=>.inr hA)
   exact zfg
  refine CJ.dj zO ?_;refine fS 0 7 6 [] (pb:=by exact zU 2 (k:=by exact aU (nf call29 rfl rfl (λW hS _=>nye _ W) (λ_=>rfl)) (zU 2 (k:=by exact aU (nf call31 rfl rfl (λW hS _=>Zi _ _ W) (λ_=>rfl)) zT)))) (sp:=[_,_,_,some (.agg (dg p.x.g.last)),_,_,_]) (h:=?_);intro _ _ hk;refine R0 ?_;intro rC sh F8 F9 R6 Ga aiJ;refine zE ?_;replace F9:=yb F9;simp only[aY,ne_eq]at R6;refine DJ.one (n:=7) rfl zO ?_;refine R5 (f:=167) (first:=[]) (cap:=[ptr b2 0]) (V:=V) (λV=>hI (pre++[(⟨[nq (dk p.x.g.last) (j:Int)],aS yy,some ⟨rC,0,none⟩,1⟩:Dv)]) V) hX rfl call167 rfl rfl rfl (λW9 cu=>?_) ?_ ?_
  ·exact z0h
  ·intro V2 sV dp;have kS:∀k,V2 k->W.heap.size<=k:=λk hk=>(dp W A2 k hk).elim (hV k) id;have hn2:∀k,k<wk.heap.size->(M k\/V2 k)->(M k\/V k):=λk hk h=>(h.imp id λh=>(dp wk A1 k h).resolve_right aa);have pd:¬(M rC\/V2 rC):=λh=>Ga (h.imp id λh=>(dp sh A0 _ h).resolve_right aa);refine zgf ?_;refine DJ.one (n:=10) rfl zO ?_;refine AP ?_;refine DJ.one (n:=11) rfl zO ?_;refine ax bG ?_;refine B 1 ?_;refine PJ.dj ?_;refine DJ.one (n:=12) rfl zO ?_;refine AP ?_;refine fA 13 24 (k:=?_);refine DJ.one (n:=24) rfl zO ?_;refine AP ?_;refine zAf ?_;refine B 9 ?_;refine PJ.resnap0 (L':=[wk,W]) zJ (λW9 cu=>?_);have cx:∀d∈(pre++[(⟨[nq (dk p.x.g.last) (j:Int)],aS yy,some ⟨rC,0,none⟩,1⟩:Dv)]),fe (λk=>M k\/V2 k) w0.heap.size W9.heap.size W9 d:=by
    intro d hd;rcases bA.1 hd with hd|hd
    ·exact zXf
    rw[kf.1 hd];exact fe.up (fe.one F8 pd (K:=w0.heap.size) aa) (cu.links sh A0).size (λb off e_ hb1_ hb2_ hb3_=>(cu.links sh A0).block b hb2_ (λhx=>hx.elim hb3_ (λhx=>by cases e_;first|(simp only[cW,dB,dt,eL,bX,dy,or_false]at hx;omega)|(simp at hx;omega)|(simp at hx)))) (λb _ _ h=>h)
   refine ag (((pre++[(⟨[nq (dk p.x.g.last) (j:Int)],aS yy,some ⟨rC,0,none⟩,1⟩:Dv)]),V2),W9,j+1) ⟨by dsimp only;omega,kS,dG sI (cu.links wk A1).size,by dsimp only;rw[nrk (a:=bC p) ZB,gb,aQ];unfold Ls;rw[if_neg h9];simp[gE,bC],by dsimp only;simp only[ck,dC,fb];omega,cx⟩
  exact zfg
 intro dc;refine B 6 ?_;have Uh:j=p.c.path.length:=by omega
 rw[Uh]at aQ;by_cases ru:p.fst=true
 ·refine B 1 ?_;refine Vp ?_;refine zhe ?_;refine IS ?_;refine yW ?_;intro uY aiP aiQ;refine B 5 ?_;refine zAe ?_;refine B 2 ?_;refine ax (.bool p.fst) ?_;refine rq bG (iT rfl) (vb (by simp[ru])) ?_;refine B 7 ?_;refine CJ.resnap (L':=[wk,W]) (i:=0) rfl zD zJ (λwP Gd=>?_);have oT:=Gd.own (uY,_) A0;have R9:¬(M uY\/V uY):=λh=>h.elim (λh=>by have:=(hM _ h).1;omega) (λh=>Gd.apart (uY,_) A0 (.inr h));have hzq:uY<wP.heap.size:=(aT.1 oT).1;refine B 2 ?_;refine zMd ?_;refine B 1 ?_;refine R5 (f:=167) (first:=[]) (cap:=[ptr b2 0]) (V:=V) (λV=>hI (pre++[(⟨[nq (dk p.x.g.last) 9],bE (dk p.x.g.last),some ⟨uY,0,none⟩,1⟩:Dv)]) V) hX rfl call167 rfl rfl rfl (λW9 cu=>?_) ?_ ?_
  ·refine Vo (λV=>hI (pre++[(⟨[nq (dk p.x.g.last) 9],bE (dk p.x.g.last),some ⟨uY,0,none⟩,1⟩:Dv)]) V) hX hV (⟨[nq (dk p.x.g.last) 9],bE (dk p.x.g.last),some ⟨uY,0,none⟩,1⟩:Dv) b2 W9 cu.alone (cu.own (b2,_) A1) (λh=>h.elim (λh=>by have:=(hM _ h).1;omega) (λh=>cu.apart (b2,_) A1 (.inr h))) (λW1 oA hv1 pT=>hy pre (⟨[nq (dk p.x.g.last) 9],bE (dk p.x.g.last),some ⟨uY,0,none⟩,1⟩:Dv) V W1 ⟨by simp only[ck,dC,fb];omega,λd hd=>?_⟩ hv1 pT);rcases bA.1 hd with hd|hd
   ·exact zVf
   rw[kf.1 hd];exact fe.low (fe.up (fe.row (cp:=1) oT ⟨ak _,rfl⟩ zJ R9 (K:=w0.heap.size) aa) (dG (cu.links wP A0).size oA.size) (λb off e_ hb1_ hb2_ hb3_=>(oA.block b (by have:=(cu.links wP A0).size;omega) hb3_).trans ((cu.links wP A0).block b hb2_ (λhx=>hx.elim hb3_ (λhx=>by cases e_;first|(simp only[cW,dB,dt,eL,bX,dy,or_false]at hx;omega)|(simp at hx;omega)|(simp at hx))))) (λb _ _ h=>h)) (cV _)
  ·intro V2 sV dp;have kS:∀k,V2 k->W.heap.size<=k:=λk hk=>(dp W A2 k hk).elim (hV k) id;have hn2:∀k,k<wk.heap.size->(M k\/V2 k)->(M k\/V k):=λk hk h=>(h.imp id λh=>(dp wk A1 k h).resolve_right aa);have Ge:¬(M uY\/V2 uY):=λh=>R9 (h.imp id λh=>(dp wP A0 _ h).resolve_right aa);refine B 7 ?_;have cF:¬(dh hM V2 (hI (pre++[(⟨[nq (dk p.x.g.last) 9],bE (dk p.x.g.last),some ⟨uY,0,none⟩,1⟩:Dv)]) V2)).X b1:=Ca V2 b1 kS (.inl rfl) lX;refine B 3 ?_;refine ax (.slice p.c.wa p.c.wes.length p.c.wc) ?_;refine B 5 ?_;refine CJ.resnap0 (L':=[wk,W]) zJ (λW9 cu=>?_);have cx:∀d∈(pre++[(⟨[nq (dk p.x.g.last) 9],bE (dk p.x.g.last),some ⟨uY,0,none⟩,1⟩:Dv)]),fe (λk=>M k\/V2 k) w0.heap.size W9.heap.size W9 d:=by
    intro d hd;rcases bA.1 hd with hd|hd
    ·exact zXf
    rw[kf.1 hd];exact fe.up (fe.row (cp:=1) oT ⟨ak _,rfl⟩ zJ Ge (K:=w0.heap.size) aa) (cu.links wP A0).size (λb off e_ hb1_ hb2_ hb3_=>(cu.links wP A0).block b hb2_ (λhx=>hx.elim hb3_ (λhx=>by cases e_;first|(simp only[cW,dB,dt,eL,bX,dy,or_false]at hx;omega)|(simp at hx;omega)|(simp at hx)))) (λb _ _ h=>h)
   refine CJ.loop (α:=(List Dv×aE)×World×Nat) (λp9=>[(1,ptr b1 0),(3,ptr b3 0),(4,.func (.func 167) #[] #[ptr b2 0]),(109,.slice p.c.wa p.c.wes.length p.c.wc),(110,ab (p.c.wes.length:Int)),(111,ab (p9.2.2:Int))]) (λp9=>[(b3,oC (dg p.x.g.last) 33),(b2,oC #[yv l] 145)]) (λp9=>[p9.2.1,W]) (λp9=>dh hM p9.1.2 (hI p9.1.1 p9.1.2)) (λp9=>p9.2.2<=p.c.wes.length/\(∀k,p9.1.2 k->W.heap.size<=k)/\w0.heap.size<=p9.2.1.heap.size/\p9.1.1.map gE=(bC p).1.bxs.flatMap (FY (bC p))++lz (bC p) (bC p).1.path.length++[(On (bC p),bE (dk p.x.g.last))]++((bC p).1.wes.take p9.2.2).flatMap (Lt (bC p))/\p9.1.1.length<=p.c.bxs.length+2*p.c.path.length+1+p9.2.2/\∀d∈p9.1.1,fe (λk=>M k\/p9.1.2 k) w0.heap.size p9.2.1.heap.size p9.2.1 d) (λp9=>p.c.wes.length-p9.2.2) ((pre++[(⟨[nq (dk p.x.g.last) 9],bE (dk p.x.g.last),some ⟨uY,0,none⟩,1⟩:Dv)],V2),W9,0) ⟨cV _,kS,dG sI (cu.links wk A1).size,by dsimp only;rw[gb,aQ];simp[gE,bC,On,ru],by dsimp only;simp only[ck,dC,fb];omega,cx⟩ zR rfl rfl zJ ?_;rintro⟨⟨pre,V⟩,wk,j⟩ ⟨hj,hV,sI,aQ,im,dP⟩;dsimp only at hj hV sI aQ im dP ⊢;have cF:¬(dh hM V (hI pre V)).X b1:=Ca V b1 hV (.inl rfl) lX;refine B 6 ?_;refine aG ?_ ?_
   ·intro jo;refine B 5 ?_;obtain⟨bo,oo,cs0,to_,fG,gU,fH,cJ,aW⟩:=hwe.get aa;obtain⟨x,hx⟩:=ng p.c.wes j aa;rw[gU];have AO:¬(dh hM V (hI pre V)).X bo:=Ca V bo hV (.inr (.inr (.inr (.inr ⟨λh=>by rw[h]at hx;simp at hx,oo,gU⟩)))) aa;refine B 2 ?_;refine zbe ?_;refine B 1 ?_;refine yW ?_;intro Um yw Bw;refine B 6 ?_;refine z5c ?_;refine ni (t:=129) rfl (λij=>?_) (λij=>?_)
    ·replace ij:=ya ij;exact zSf
    replace ij:=ya ij;exact zIg
   intro jo;exact z8f
  intro V2 sV dp;have kS:∀k,V2 k->W.heap.size<=k:=λk hk=>(dp W A2 k hk).elim (hV k) id;have hn2:∀k,k<wk.heap.size->(M k\/V2 k)->(M k\/V k):=λk hk h=>(h.imp id λh=>(dp wk A1 k h).resolve_right aa);have Ge:¬(M uY\/V2 uY):=λh=>R9 (h.imp id λh=>(dp wP A0 _ h).resolve_right aa);refine B 6 ?_;exact zpg
 refine B 1 ?_;refine Vp ?_;refine zhe ?_;refine IS ?_;refine yW ?_;intro uY aiP aiQ;refine B 5 ?_;refine zAe ?_;refine B 2 ?_;refine ax (.bool p.fst) ?_;refine rq cX (iT rfl) (vb (by simp[ru])) ?_;refine B 7 ?_;refine ax (.agg (dg p.c.par)) ?_;refine call call97 rfl rfl rfl (λW hS=>Zj _ W) ?_;refine IS ?_;refine yW ?_;intro b99 anM anN;refine CP (b:=uY) (cap:=1) (sp:=[]) (xs:=[nq (dk p.x.g.last) 9]) (zs:=[bE (dk p.c.par)]) (enc:=dJ) (m:=35) (H0:=[(b99,oC (seA (bE (dk p.c.par))) 35)]) (H1:=[(b3,oC (dg p.x.g.last) 33),(b2,oC #[yv l] 145)]) rfl Of nu rfl rfl rfl rfl (bO.one (z:=bE (dk p.c.par)) nu IQ underlying38 (bB.own (i:=0) rfl)) ⟨ak _,rfl⟩ (.inr zD) zJ ?_;intro jX mO amP Gf AQ;replace Gf:=yb Gf;have amQ:wk.heap.size<=jX/\W.heap.size<=jX:=by rcases Gf with h|h;(subst h;omega);omega
 refine B 5 ?_;refine CJ.resnap (L':=[wk,W]) (i:=0) rfl zD zJ (λw16 anO=>?_);refine CJ.resnap (L':=[wk,W]) (i:=0) rfl zD zJ (λwP Gd=>?_);have oT:=Gd.own (jX,_) A0;have Gg:¬(M jX\/V jX):=λh=>h.elim (λh=>by have:=(hM _ h).1;omega) (λh=>Gd.apart (jX,_) A0 (.inr h));have hzq:jX<wP.heap.size:=(aT.1 oT).1;refine B 2 ?_;refine zMd ?_;refine B 1 ?_;refine R5 (f:=167) (first:=[]) (cap:=[ptr b2 0]) (V:=V) (λV=>hI (pre++[(⟨[nq (dk p.x.g.last) 9,bE (dk p.c.par)],bE (dk p.x.g.last),some ⟨jX,0,none⟩,mO⟩:Dv)]) V) hX rfl call167 rfl rfl rfl (λW9 cu=>?_) ?_ ?_
 ·refine Vo (λV=>hI (pre++[(⟨[nq (dk p.x.g.last) 9,bE (dk p.c.par)],bE (dk p.x.g.last),some ⟨jX,0,none⟩,mO⟩:Dv)]) V) hX hV (⟨[nq (dk p.x.g.last) 9,bE (dk p.c.par)],bE (dk p.x.g.last),some ⟨jX,0,none⟩,mO⟩:Dv) b2 W9 cu.alone (cu.own (b2,_) A1) (λh=>h.elim (λh=>by have:=(hM _ h).1;omega) (λh=>cu.apart (b2,_) A1 (.inr h))) (λW1 oA hv1 pT=>hy pre (⟨[nq (dk p.x.g.last) 9,bE (dk p.c.par)],bE (dk p.x.g.last),some ⟨jX,0,none⟩,mO⟩:Dv) V W1 ⟨by simp only[ck,dC,fb];omega,λd hd=>?_⟩ hv1 pT);rcases bA.1 hd with hd|hd
  ·exact zVf
  rw[kf.1 hd];exact fe.low (fe.up (fe.row (cp:=mO) oT AQ zJ Gg (K:=w0.heap.size) aa) (dG (cu.links wP A0).size oA.size) (λb off e_ hb1_ hb2_ hb3_=>(oA.block b (by have:=(cu.links wP A0).size;omega) hb3_).trans ((cu.links wP A0).block b hb2_ (λhx=>hx.elim hb3_ (λhx=>by cases e_;first|(simp only[cW,dB,dt,eL,bX,dy,or_false]at hx;omega)|(simp at hx;omega)|(simp at hx))))) (λb _ _ h=>h)) (cV _)
 ·intro V2 sV dp;have kS:∀k,V2 k->W.heap.size<=k:=λk hk=>(dp W A2 k hk).elim (hV k) id;have hn2:∀k,k<wk.heap.size->(M k\/V2 k)->(M k\/V k):=λk hk h=>(h.imp id λh=>(dp wk A1 k h).resolve_right aa);have AR:¬(M jX\/V2 jX):=λh=>Gg (h.imp id λh=>(dp wP A0 _ h).resolve_right aa);refine B 7 ?_;have cF:¬(dh hM V2 (hI (pre++[(⟨[nq (dk p.x.g.last) 9,bE (dk p.c.par)],bE (dk p.x.g.last),some ⟨jX,0,none⟩,mO⟩:Dv)]) V2)).X b1:=Ca V2 b1 kS (.inl rfl) lX;refine B 3 ?_;refine ax (.slice p.c.wa p.c.wes.length p.c.wc) ?_;refine B 5 ?_;refine CJ.resnap0 (L':=[wk,W]) zJ (λW9 cu=>?_);have cx:∀d∈(pre++[(⟨[nq (dk p.x.g.last) 9,bE (dk p.c.par)],bE (dk p.x.g.last),some ⟨jX,0,none⟩,mO⟩:Dv)]),fe (λk=>M k\/V2 k) w0.heap.size W9.heap.size W9 d:=by
   intro d hd;rcases bA.1 hd with hd|hd
   ·exact zXf
   rw[kf.1 hd];exact fe.up (fe.row (cp:=mO) oT AQ zJ AR (K:=w0.heap.size) aa) (cu.links wP A0).size (λb off e_ hb1_ hb2_ hb3_=>(cu.links wP A0).block b hb2_ (λhx=>hx.elim hb3_ (λhx=>by cases e_;first|(simp only[cW,dB,dt,eL,bX,dy,or_false]at hx;omega)|(simp at hx;omega)|(simp at hx)))) (λb _ _ h=>h)
  refine CJ.loop (α:=(List Dv×aE)×World×Nat) (λp9=>[(1,ptr b1 0),(3,ptr b3 0),(4,.func (.func 167) #[] #[ptr b2 0]),(109,.slice p.c.wa p.c.wes.length p.c.wc),(110,ab (p.c.wes.length:Int)),(111,ab (p9.2.2:Int))]) (λp9=>[(b3,oC (dg p.x.g.last) 33),(b2,oC #[yv l] 145)]) (λp9=>[p9.2.1,W]) (λp9=>dh hM p9.1.2 (hI p9.1.1 p9.1.2)) (λp9=>p9.2.2<=p.c.wes.length/\(∀k,p9.1.2 k->W.heap.size<=k)/\w0.heap.size<=p9.2.1.heap.size/\p9.1.1.map gE=(bC p).1.bxs.flatMap (FY (bC p))++lz (bC p) (bC p).1.path.length++[(On (bC p),bE (dk p.x.g.last))]++((bC p).1.wes.take p9.2.2).flatMap (Lt (bC p))/\p9.1.1.length<=p.c.bxs.length+2*p.c.path.length+1+p9.2.2/\∀d∈p9.1.1,fe (λk=>M k\/p9.1.2 k) w0.heap.size p9.2.1.heap.size p9.2.1 d) (λp9=>p.c.wes.length-p9.2.2) ((pre++[(⟨[nq (dk p.x.g.last) 9,bE (dk p.c.par)],bE (dk p.x.g.last),some ⟨jX,0,none⟩,mO⟩:Dv)],V2),W9,0) ⟨cV _,kS,dG sI (cu.links wk A1).size,by dsimp only;rw[gb,aQ];simp[gE,bC,On,ru],by dsimp only;simp only[ck,dC,fb];omega,cx⟩ zR rfl rfl zJ ?_;rintro⟨⟨pre,V⟩,wk,j⟩ ⟨hj,hV,sI,aQ,im,dP⟩;dsimp only at hj hV sI aQ im dP ⊢;have cF:¬(dh hM V (hI pre V)).X b1:=Ca V b1 hV (.inl rfl) lX;refine B 6 ?_;refine aG ?_ ?_
  ·intro lI;refine B 5 ?_;obtain⟨bo,oo,cs0,to_,fG,gU,fH,cJ,aW⟩:=hwe.get aa;obtain⟨x,hx⟩:=ng p.c.wes j aa;rw[gU];have AO:¬(dh hM V (hI pre V)).X bo:=Ca V bo hV (.inr (.inr (.inr (.inr ⟨λh=>by rw[h]at hx;simp at hx,oo,gU⟩)))) aa;refine B 2 ?_;refine zbe ?_;refine B 1 ?_;refine yW ?_;intro Um yw Bw;refine B 6 ?_;refine z5c ?_;refine ni (t:=129) rfl (λke=>?_) (λke=>?_)
   ·replace ke:=ya ke;exact zSf
   replace ke:=ya ke;exact zIg
  intro lI;exact z8f
 intro V2 sV dp;have kS:∀k,V2 k->W.heap.size<=k:=λk hk=>(dp W A2 k hk).elim (hV k) id;have hn2:∀k,k<wk.heap.size->(M k\/V2 k)->(M k\/V k):=λk hk h=>(h.imp id λh=>(dp wk A1 k h).resolve_right aa);have AR:¬(M jX\/V2 jX):=λh=>Gg (h.imp id λh=>(dp wP A0 _ h).resolve_right aa);refine B 6 ?_;exact zpg
theorem rB.fin{P:Program}{f:Nat}{cap:List Value}{α:Type}{enc:α->List Value}{Pre Fin ZF:List α->aE->World->Prop}{MI RO:aE}(h:rB P f cap enc Pre Fin MI RO W)(hf:∀xs Z w,Fin xs Z w->ZF xs Z w):rB P f cap enc Pre ZF MI RO W:=
 λl M I X h1 h2 h3 h4 h5=>(h l M I X h1 h2 h3 h4 h5).mono λe w' ⟨a,b,V,c⟩=>⟨a,b,V,c.imp (λ⟨xs,p,q⟩=>⟨xs,hf _ _ _ p,q⟩) id⟩
theorem Gj{α:Type}{enc:α->List Value}{xs:List α}(h:r.At enc t xs w):St (Gh.lent (λk=>r.isAt k)) [w] (r.hp enc t xs) w:=by
 cases r with
 |nil=>exact⟨trivial,λ_ h=>h.elim,λ_ h=>h.elim,λw' hw=>by rw[kf.1 hw];exact aH.refl _ _,λp hp=>by simp[Rw.hp]at hp,λi j p q hi=>by simp[Rw.hp]at hi,λp hp=>by simp[Rw.hp]at hp⟩
 |row b c sp=>
  refine⟨trivial,λ_ h=>h.elim,λk hk=>?_,λw' hw=>by rw[kf.1 hw];exact aH.refl _ _,λp hp=>?_,?_,λp hp h=>h.elim⟩
  ·obtain rfl:b=k:=hk;exact(aT.1 (show w.heap[b]? =some _ from h)).1
  ·simp only[Rw.hp,kf]at hp;subst hp;exact h
  exact D4 _
theorem Rw.isAt_lt{α:Type}{enc:α->List Value}{k:Nat}{xs:List α}(h:r.At enc t xs w)(hk:r.isAt k):k<w.heap.size:=by
 cases r with
 |nil=>exact hk.elim
 |row b c sp=>obtain rfl:b=k:=hk;exact(aT.1 (show w.heap[b]? =some _ from h)).1
theorem Rw.mem_is{α:Type}{enc:α->List Value}{k:Nat}{xs:List α}(h:k∈(r.hp enc t xs).map (·.1)):r.isAt k:=by
 cases r with
 |nil=>simp[Rw.hp]at h
 |row b c sp=>simp[Rw.hp]at h;exact h.symm
theorem St.belowR{α:Type}{enc:α->List Value}{b2:Nat}{o:Obj}{xs:List α}(fj:r.At enc t xs w)(hS:St (Gh.lent (λk=>r.isAt k)) [w] ((b2,o)::r.hp enc t xs) W)(hb:w.heap.size<=b2):Below w.heap.size w W:=by
 have hk:=hS.links w A0;refine⟨hk.os,hk.tape,hk.output,hk.drawn,hk.size,λk Jf=>?_⟩;by_cases h:r.isAt k
 ·cases r with
  |nil=>exact h.elim
  |row b c sp=>
   obtain rfl:b=k:=h;exact(hS.own (b,_) oR).trans (show w.heap[b]? =some _ from fj).symm
 refine hk.block k Jf λhx=>hx.elim h λhm=>?_;rcases bX.1 hm with h2|h2
 ·have h3:k=b2:=h2;omega
 exact h (Rw.mem_is h2)
structure xL (F:ad) (d:Dv):Prop where
 ne:d.fr≠ []
 sl:ll seA 35 F d.fa d.fr
theorem xL.mono{F':ad}{d:Dv}(h:xL F d)(hF:∀q∈F,q∈F'):xL F' d:=⟨h.ne,h.sl.mono hF⟩
theorem Gk{Z:aE}{K:Nat}{w:World}:∀(xs:List Dv),(∀d∈xs,fe Z K w.heap.size w d)->∃F:ad,(∀p∈F,K<=p.1/\w.heap[p.1]? =some p.2/\¬Z p.1)/\∀d∈xs,xL F d
 | [],_=>⟨[],by simp,by simp⟩
 |d::xs,h=>by
  obtain⟨F,h1,h2⟩:=Gk xs λx hx=>h x (.tail _ hx);have hd:=h d A0;rcases hd.sl with h3|⟨b,off,cs,t,fr,e1,e2,e3,e4⟩
  ·exact absurd h3 hd.ne
  have h5:=hd.out _ e1;refine⟨(b,.cells cs t fr)::F,λp hp=>?_,λx hx=>?_⟩
  ·rcases bX.1 hp with rfl|hp
   ·exact⟨h5.2,e3,h5.1⟩
   exact h1 p hp
  rcases bX.1 hx with rfl|hx
  ·exact⟨hd.ne,.inr ⟨b,off,cs,t,fr,e1,.head _,e4⟩⟩
  exact(h2 x hx).mono λq hq=>.tail _ hq
section
variable {C:Cx} {Q:aZ} {E:Env} {D:List Deferred} {L:List World} {H H0 H1 F:ad} {ops:Array Oper} {l:List Oper}
variable {d ty f:Nat} {pos:String} {aC:Array Edge} {g:Option (Nat×Bool)} {x:Operand} {xo:List Operand} {vs first cap:List Value} {eo:Array Nat}
theorem nnn{α γ:Type}{enc:α->List Value}{m:Nat}{xs:List α}{ys:γ->List α}{v:γ->Rw->Value}{Φ:ad->γ->Prop}(hH:H=H0++(r.hp enc t xs++H1))(jt:r.Fr (dI F) L)(hx:ev E x=some (.func (.func f) first.toArray cap.toArray))(az:eg C.P f)(hw:nl ops E g=some true)(hN:Nat.blt d C.N=true)(ha:iV E xo=some vs)(hc:∀W,St (dI F) L H W->Calls C.P f (first++vs++cap).toArray W (λe w'=>∃z r' F',e= .returned (v z r')/\aH (λk=>r.isAt k) W w'/\(∀k,r'.isAt k->r.isAt k\/W.heap.size<=k)/\r'.Fit m (ys z)/\r'.At enc t (ys z) w'/\(∀p∈F',W.heap.size<=p.1/\w'.heap[p.1]? =some p.2/\¬r'.isAt p.1)/\Φ F' z))(k:∀z r' F',Φ F' z->r'.Fit m (ys z)->r'.Fr (dI (F'++F)) L->(∀p∈F',ae L p.1)->OJ C ops Q l ((d,v z r')::E) D (dI (F'++F)) L (H0++(r'.hp enc t (ys z)++H1))):OJ C ops Q (⟨some d,.call ⟨.value x,xo.toArray,eo⟩,ty,pos,aC,g⟩::l) E D (dI F) L H:=
 nI rfl hw hx ha zJ az λa W iW hD hF hS=>(hc W hS).mono (by
  rintro ed W' ⟨z,r',F',rfl,hk,jw,bN,fj,vD,hΦ⟩;have hP:=hS;rw[hH]at hP;have hP1:St (dI F) L (r.hp enc t xs++(H0++H1)) W:=hP.perm (List.perm_append_comm_assoc _ _ _);have hFA:pI (dI F) L (r.hp enc t xs):=by
   cases r with
   |nil=>trivial
   |row b c sp=>exact⟨jt,trivial⟩
  have hP2:St (dI F) L (r'.hp enc t (ys z)++(H0++H1)) W':=by
   refine hP1.swapZ (hk.mono λk _ h=>Rw.mem_at h) hFA (λp hp=>?_) ?_
   ·have h8:p.1∈(r'.hp enc t (ys z)).map (·.1):=bY.2 ⟨p,hp,rfl⟩;refine⟨?_,(jw _ (Rw.mem_is h8)).imp (λh=>Rw.mem_at h) id⟩;cases r' with
    |nil=>simp[Rw.hp]at hp
    |row b c sp=>simp only[Rw.hp,kf]at hp;subst hp;exact fj
   cases r' with
   |nil=>exact λi j p q hi=>by simp[Rw.hp]at hi
   |row b c sp=>exact D4 _
  have hP3:St (dI F) L (H0++(r'.hp enc t (ys z)++H1)) W':=hP2.perm (List.perm_append_comm_assoc _ _ _);have hP4:=hP3.fzB (F':=F') (λp hp=>⟨(vD p hp).2.1,λhm=>by
   rw[gb,gb]at hm;rcases bA.1 hm with hm|hm
   ·obtain⟨q,hq,e⟩:=bY.1 hm;have:=hP.lt q (bA.2 (.inl hq));have:=(vD p hp).1;omega
   rcases bA.1 hm with hm|hm
   ·exact(vD p hp).2.2 (Rw.mem_is hm)
   obtain⟨q,hq,e⟩:=bY.1 hm;have:=hP.lt q (bA.2 (.inr (bA.2 (.inr hq))));have:=(vD p hp).1;omega⟩)
  refine k z r' F' hΦ bN ?_ (λp hp=>CZ hS (vD p hp).1) (a.put (some d) (v z r')) W' z7 z5 (hF.put _ z6) hP4;cases r' with
  |nil=>trivial
  |row b c sp=>
   rcases jw b rfl with h|h
   ·exact(Rw.Fr_at jt h).elim (λh=>h.elim) .inr
   exact .inr (CZ hS h))
end
theorem ngm{f:Nat}{cap:List Value}{RO:Nat->Prop}(az:eg prog f)(r:Rw)(ds:List Dv)(w:World)(aiS:r.Fit 36 ds)(vN:ds.length<=30000)(fj:r.At gQ 142 ds w)(kR:∀k,RO k->k<w.heap.size/\¬r.isAt k)(lO:∀W2,Below w.heap.size w W2->rB prog f cap (λd:Dv=>[.agg (uW d)]) FZ (F4 w.heap.size a) (λ_=>False) RO W2):Calls prog 95 #[r.val ds.length,.func (.func f) #[] cap.toArray] w (λe w'=>∃(xs:List Dv) (r':Rw),e= .returned (r'.val (ds++xs).length)/\aH (λk=>r.isAt k) w w'/\(∀k,r'.isAt k->r.isAt k\/w.heap.size<=k)/\r'.Fit 36 (ds++xs)/\r'.At gQ 142 (ds++xs) w'/\(xs.map gE=lA a/\xs.length<=200)/\∀d∈xs,fe (λk=>r'.isAt k) w.heap.size w'.heap.size w' d):=by
 refine Pj (Gh.lent (λk=>r.isAt k)) (r.hp gQ 142 ds) (vs:=[_,_]) func95 rfl ntmps95 rfl (Gj fj) ?_;refine NH ?_;refine yW ?_;intro b2 dx dq;refine B 10 ?_;have aiT:r.Fr (Gh.lent (λk=>r.isAt k)) [w]:=by
  cases r with
  |nil=>trivial
  |row b c sp=>exact .inl rfl
 refine nrp (f:=f) (cap:=cap) (α:=Dv) (enc:=(λd:Dv=>[.agg (uW d)])) (Pre:=FZ) (Fin:=F4 w.heap.size a) (RO:=RO) (MI:=λ_=>False) rfl az (λW W2 hS hB=>lO W2 ((hS.belowR fj aa).trans (hB.mono (hS.links w A0).size))) (λ_ _ _ hk=>hk.elim) (λW hS k hk=>by have h1:=kR k hk;have h2:=(hS.links w A0).size;exact⟨by omega,λhm=>by rcases bX.1 hm with h|h;(have h3:k=b2:=h;omega);exact h1.2 (Rw.mem_is h),h1.2⟩) (λ_=>rfl) (λpre G' Hc=>G'=(Gh.lent (λk=>r.isAt k))/\∃r1:Rw,r1.Fr (Gh.lent (λk=>r.isAt k)) [w]/\r1.Fit 36 (ds++pre)/\Hc=[(b2,oC #[r1.val (ds++pre).length] 138)]++(r1.hp gQ 142 (ds++pre)++[])) (λ_ _ _=>False) ⟨rfl,r,aiT,by rw[dV];exact aiS,by simp[Rw.val_cells]⟩ zB ?_ ?_ ?_
 ·rintro pre x G' Hc l Dk rec W1 M V Wy oe vn dP ⟨rfl,r1,aK,ah,rfl⟩ iH lD Pm yi du Df;simp only[ae]at iH yi;have im:=dP.1;simp only[ck,dC,fb]at im;have D5:∀p∈r1.hp gQ 142 (ds++pre),M p.1\/V p.1:=λp hp=>du.loc.h p Ux;refine B 2 ?_;refine yW ?_;intro b5 so sq;refine B 2 ?_;refine PJ.reH (H':=book ([(b5,oC (uW x) 142)]++([(b2,oC #[r1.val (ds++pre).length] 138)]++(r1.hp gQ 142 (ds++pre)++[]))) l rec (fq Dk)) rfl ?_;refine Nl oe ?_;refine B 3 ?_;refine ax (.agg (uW x)) ?_;refine zje ?_;refine yW ?_;intro gf lP pW;refine jS (r:=r1) (xs:=(ds++pre)) (zs:=[x]) (enc:=gQ) (m:=36) (H0:=[(gf,oC (uW x) 142),(b5,oC (uW x) 142),(b2,oC #[r1.val (ds++pre).length] 138)]) (H1:=(l,.loop {rec with state:=.busy})::fq Dk) zX nnl FX rfl rfl rfl rfl (bO.one (z:=x) FX neh underlying138 (bB.own (i:=0) rfl)) ah (Rw.Fr_ext D5) zJ By ?_;intro gG oP oQ jh kz;replace jh:=yb jh;refine B 3 ?_;refine B4 ?_;refine Jh (G2:=(Gh.lent (λk=>r.isAt k))) (Hc2:=[(b2,oC #[(Rw.row gG oP oQ).val (ds++pre++[x]).length] 138)]++((Rw.row gG oP oQ).hp gQ 142 (ds++pre++[x])++[])) du lD ⟨λ_ h=>h,λ_ h=>.inl h,λ_ h=>.inl h,(Uy rfl (jh.imp id (λh=>h.1))),(by intro p hp;rcases bX.1 hp with h|hp;(subst h;exact .inl zJ);exact .inr (.inl (Rw.mem_is (bY.2 ⟨p,hp,rfl⟩))))⟩ (Ji oe vn) ?_
  exact⟨rfl,.row gG oP oQ,jh.elim (λh=>Rw.Fr_at aK h) (λh=>.inr h.2),by rw[<-iP];exact kz,by rw[<-iP ds pre [x]]⟩
 ·rintro pQ l Dk rec G' Hc Zf Wd dK hZf iH lD ⟨rfl,r1,aK,ah,rfl⟩;replace iH:=yb iH;refine P0 λWd2 yh=>?_;have ml:=Uz yh;refine B 9 ?_;refine PJ.reH (H':=(b2,oC #[r1.val (ds++pQ).length] 138)::(r1.hp gQ 142 (ds++pQ)++(l,.loop rec)::fq Dk)) UA ?_;refine BI (.inl rfl) zJ λa W H' hF hS dX aQ=>?_;have JX:∀k,k∈H'.map (·.1)->k=b2\/r1.isAt k\/k=l\/k=Dk:=by
   intro k hk;rw[aQ]at hk;simp only[gb,dt,eL,bA,bX,dy,or_false]at hk;rcases hk with hk|hk|hk|hk
   ·exact .inl hk
   ·exact .inr (.inl (Rw.mem_is hk))
   ·exact .inr (.inr (.inl hk))
   exact .inr (.inr (.inr hk))
  have hZb:∀k,k∈H'.map (·.1)->Zf k:=by
   intro k hk;have h8:k∈(book ([(b2,oC #[r1.val (ds++pQ).length] 138)]++(r1.hp gQ 142 (ds++pQ)++[])) l rec (fq Dk)).map (·.1):=by
    rw[aQ]at hk;simpa[book,Rw.val_cells]using hk
   obtain⟨p,hp,rfl⟩:=bY.1 h8;exact hZf p hp
  have ZG:∀k,r1.isAt k->r.isAt k\/w.heap.size<=k:=λk hk=>(Rw.Fr_at aK hk).imp id (λh=>h.1);refine⟨_,by rw[results_tmp results95];exact congrArg (λu=>Result.ok u W) (hF 4 _ rfl),pQ,r1,rfl,?_,ZG,ah,?_,dK.1,λd hd=>?_⟩
  ·refine(hS.links w A1).mono λk hk hx=>hx.elim id λhx=>?_;rcases JX k hx with h|h|h|h
   ·omega
   ·exact(ZG k h).resolve_right aa
   ·omega
   omega
  ·cases r1 with
   |nil=>trivial
   |row b cap sp=>exact hS.own _ (dX (b,aO gQ 142 (ds++pQ) sp) oR (ml _ oR).1)
  refine(dK.2 d hd).up (hS.links Wd A0).size (λb off _ hb1 da hb3=>(hS.links Wd A0).block b da (λhx=>hx.elim (λh=>?_) (λh=>hb3 (hZb b h)))) (λb _ _ h=>?_)
  ·have:=Rw.isAt_lt fj h;omega
  have h8:b∈(book ([(b2,oC #[r1.val (ds++pQ).length] 138)]++(r1.hp gQ 142 (ds++pQ)++[])) l rec (fq Dk)).map (·.1):=by
   simp only[book,gb,bA];exact .inl (.inr (.inl (Rw.mem_at h)))
  obtain⟨p,hp,rfl⟩:=bY.1 h8;exact hZf p hp
 exact Pn
theorem nlj(p:Pl)(w:World):Calls prog 96 #[.agg (kh p)] w (cN w (λb:Nat=>.func (.func 166) #[] #[ptr b 0]) (λb w1=>w.heap.size<=b/\w1.heap[b]? =some (oC (kh p) 92))):=by
 refine eN func96 ntmps96 ?_;refine B 2 ?_;refine yX ?_;intro b1 w1 hb1 cF gA fX jq;refine B 10 ?_;refine rS b1 results96 rfl A1 rfl ?_;exact zmh
theorem Sa(p:Pl)(f:Nat->Int)(b:Nat)(w:World)(hb1:w.heap[b]? =some (oC (dg f) 33)):Calls prog 94 #[.agg (kh p),ptr b 0] w (aM w (.bool (lY p.x.g.last f))):=by
 have cF:¬Gh.no.X b:=λh=>h;have lX:=(aT.1 hb1).1;refine eN func94 ntmps94 ?_;refine B 2 ?_;refine yX ?_;intro b2 w2 da bW eU dx dq;refine B 7 ?_;refine Vp ?_;refine ax (.agg (dg f)) ?_;refine rv rfl rfl rfl (oZ xu zB nL rfl rfl rfl) ?_;refine B 4 ?_;refine aF results94 rfl A1 ?_;rfl
theorem n4l(p:Pl->Bool)(f:Nat)(cap:List Value)(az:eg prog f)(xs:List Pl)(hxl:xs.length<=1000000)(N:Nat)(a:Option Addr)(cp:Nat)(w:World)(hN:N<=w.heap.size)(aJ:ai kh 111 N w a xs)(hp:∀(j:Nat) (x:Pl),xs[j]? =some x->∀W,Below w.heap.size w W->Calls prog f (.agg (kh x)::cap).toArray W (aM W (.bool (p x)))):Calls prog 93 #[.slice a xs.length cp,.func (.func f) #[] cap.toArray] w (cN w (λi:Int=>ab i) (λi _=>eR p xs i)):=by
 refine eN func93 ntmps93 ?_;refine UI ?_;rintro j ⟨hj,ea⟩;refine B 6 ?_;refine aG ?_ ?_
 ·intro ar;refine B 11 ?_;obtain⟨bo,oo,cs0,to,fG,rfl,fH,cJ,aW⟩:=aJ.get aa;obtain⟨x,hx⟩:=ng xs j aa;refine B 5 ?_;refine ax (.agg (kh x)) ?_;refine UJ ?_;refine aG ?_ ?_
  ·intro aN;refine B 12 ?_;refine rS (j:Int) results93 rfl A0 rfl ?_;exact UK
  exact UL
 intro ar;refine B 11 ?_;refine rS (-1:Int) results93 rfl A0 rfl ?_;exact UM
def zCm:Cm:=⟨0,0,λ_=>0,0,[],none,0,[],none,0,[],none,0,[],none,0,λ_=>0,0,0⟩
def Vq:Pl:=⟨zCm,false,[],none,0,gy⟩
def pJ (pls:List Pl) (f:Nat->Int):Option Pl:=pls.find? λp=>lY p.x.g.last f
def fnV (o:Option Pl):Value:=.tuple #[.agg (kh (o.getD Vq)),.bool o.isSome]
theorem nzj(pls:List Pl)(im:pls.length<=1000)(f:Nat->Int)(N:Nat)(a:Option Addr)(c b:Nat)(w:World)(hN:N<=w.heap.size)(hb1:w.heap[b]? =some (oC #[.slice a pls.length c] 89))(aJ:ai kh 111 N w a pls):Calls prog 92 #[.agg (dg f),ptr b 0] w (aM w (fnV (pJ pls f))):=by
 have cF:¬Gh.no.X b:=λh=>h;have lX:=(aT.1 hb1).1;refine eN func92 ntmps92 ?_;refine B 2 ?_;refine yX ?_;intro b2 w2 da bW eU dx dq;refine B 1 ?_;refine yW ?_;intro b3 ez eP;refine B 7 ?_;refine nv (α:=Int) (v:=λi:Int=>ab i) (Φ:=λ_ i _=>eR (λy:Pl=>lY y.x.g.last f) pls i) call93 rfl rfl rfl (λW hS=>n4l (λy=>lY y.x.g.last f) 94 [ptr b2 0] call94 pls aa N a c W cM (aJ.up (ak _) (hS.same A1 hN zI Au)) (λj x hx W2 hB=>Sa x f b2 W2 (by have h9:=hS.old A0 da bW zA;rw[hB.block b2 (aT.1 h9).1];exact h9))) ?_;intro Wi ix wi EA EB CW;refine B 10 ?_;refine aG ?_ ?_
 ·intro ar;refine B 9 ?_;refine cC (.inl rfl) results92 bj A2 (by simp only[Over,cW,and_true];omega) ?_;rw[show pJ pls f=none from((Vl CW).resolve_right (λ⟨j,x,h,_⟩=>by omega)).2];rfl
 intro ar;refine B 3 ?_;obtain⟨n,x,rfl,hx,hfx⟩:=(Vl CW).resolve_left (λh=>by have:=h.1;omega);obtain⟨bp,op,cs0,tp,fG,rfl,Cr,cJ,aW⟩:=aJ.get UD;have hnx:=nr hx;refine B 4 ?_;refine ax (.agg (kh x)) ?_;refine B 5 ?_;refine cC (.inl rfl) results92 bj A2 (by simp only[Over,cW,and_true];omega) ?_;rw[show pJ pls f=(some x)from hfx];rfl
section
open Go.Extern.Stop Go.Stop Go.Extern
def Sb:Array Value->Sem Value:=Extern.ReflectliteType.method λt=>do Rtype.noPackHeld "Comparable" t;pure (.bool (<-typeInfo t).comparable)
theorem nSl(v:Value)(w:World):(Extern.ReflectliteType.typeOf #[.iface 472 v]).run prog w= .ok (.iface 318 (.agg #[.pointer (some ⟨10,472,none⟩)])) w:=by kernel_rfl
theorem nOg(w:World):(Sb #[.agg #[.pointer (some ⟨10,472,none⟩)]]).run prog w= .ok (cX) w:=by kernel_rfl
theorem n0d(v:Value)(w:World):(Go.method 244 318 v "Comparable").run prog w= .ok (360,v) w:=by kernel_rfl
theorem Gl:(prog.info? 472).map (·.comparable)=some true:=by kernel_rfl
theorem Gm:(prog.info? 505).map (·.size)=some 1:=by kernel_rfl
theorem ZH(v:Value)(xT:TypeId)(w:World):(Instr.typeAssert (.iface 472 v) xT 320 true).run prog w= .ok (.tuple #[.nilIface,bG]) w:=run_typeAssert_lacksB underlying320 zO zO v xT w
theorem nbp(v:Value)(xT:TypeId)(w:World):(Instr.typeAssert (.iface 472 v) xT 323 true).run prog w= .ok (.tuple #[.nilIface,bG]) w:=run_typeAssert_lacksB underlying323 zO zO v xT w
theorem noo(v:Value)(xT:TypeId)(w:World):(Instr.typeAssert (.iface 472 v) xT 325 true).run prog w= .ok (.tuple #[.nilIface,bG]) w:=run_typeAssert_lacksB underlying325 zO zO v xT w
theorem nvn(a:Addr)(w:World):Calls prog 69 #[.iface 472 (.pointer (some a)),.iface 472 (.pointer (some a))] w λe w'=>e= .returned (cX)/\w'=w:=by
 obtain⟨i,hi,Sc⟩:=AK.1 Gl;obtain⟨j,hj,pC⟩:=AK.1 Gm;have h8:=@run_callFunc_extern prog 120 _ Extern.ReflectliteType.typeOf func120 zO zO zO zO;have h32:=@run_callFunc_extern prog 360 _ Sb func360 zO zO zO zO;have tT:=nSl;have cT:=nOg;have mR:=n0d;have heq:=run_eql_iface_ptr_same (P:=prog) w a underlying173 underlying472 hi Sc hj
 go_enter func69,ntmps69
 go_wp2
 refine wp_loop_rounds 1 ?_;rw[rounds_succ]
 go_wp2
 go_ret
 exact⟨rfl,rfl⟩
theorem Sd(b:Addr)(w:World):Calls prog 69 #[.nilIface,.iface 472 (.pointer (some b))] w λe w'=>e= .returned (bG)/\w'=w:=by
 have hn:=run_eql_iface_nil_left (P:=prog) w 472 (.pointer (some b)) underlying173
 go_enter func69,ntmps69
 go_wp2
 go_ret
 exact⟨rfl,rfl⟩
theorem nYl(a b:Addr)(ca cb:Array Value)(ta tb:TypeId)(w:World)(hne:a≠b)(ha:w.heap[a.block]? =some (oC ca ta))(hb:w.heap[b.block]? =some (oC cb tb)):Calls prog 69 #[.iface 472 (.pointer (some a)),.iface 472 (.pointer (some b))] w λe w'=>e= .returned (bG)/\w'=w:=by
 obtain⟨i,hi,Sc⟩:=AK.1 Gl;obtain⟨j,hj,pC⟩:=AK.1 Gm;have h8:=@run_callFunc_extern prog 120 _ Extern.ReflectliteType.typeOf func120 zO zO zO zO;have h32:=@run_callFunc_extern prog 360 _ Sb func360 zO zO zO zO;have tT:=nSl;have cT:=nOg;have mR:=n0d;have nE:=ZH;have uE:=nbp;have vE:=noo;have heq:=run_eql_iface_ptr_other (P:=prog) w underlying173 underlying472 hi Sc hj (by rw[pC];decide) hne ha hb
 go_enter func69,ntmps69
 go_wp2
 refine wp_loop_rounds 1 ?_;rw[rounds_succ]
 go_wp2
 go_ret
 exact⟨rfl,rfl⟩
end
section
variable {C:Cx} {Q:aZ} {E:Env} {D:List Deferred} {G:Gh} {L:List World} {H:ad} {ops:Array Oper} {l:List Oper}
theorem Sf{d ty f:Nat}{pos:String}{aC:Array Edge}{g:Option (Nat×Bool)}{xs:List Operand}{vs:List Value}{eo:Array Nat}{α:Type}{v:α->Value}{Φ:α->Prop}(az:eg C.P f)(hw:nl ops E g=some true)(hN:Nat.blt d C.N=true)(ha:iV E xs=some vs)(hc:∀W,St G L H W->Calls C.P f vs.toArray W (cN W v (λx _=>Φ x)))(k:∀x,Φ x->OJ C ops Q l ((d,v x)::E) D G L H):OJ C ops Q (⟨some d,.call ⟨.value (.func f),xs.toArray,eo⟩,ty,pos,aC,g⟩::l) E D G L H:=
 nI rfl hw rfl ha zJ az λa W iW hD hF hS=>(hc W hS).mono (by
  rintro e W' ⟨x,rfl,hb,hx⟩;exact k x hx (a.put (some d) (v x)) W' z7 z5 (hF.put _ z6) (hS.step hb))
end
structure Ol where
 f:Nat->Int
 w:CN
def u3 (x:Ol):Array Value:=(lL x.f [ab x.w.u,.slice x.w.ba x.w.body.length x.w.bc]).toArray
structure Gr where
 folder:Int
 by_:Int
 device:Int
 pub:Int
 f:Nat->Int
 oa:Option Addr
 olds:List Ol
 oc:Nat
 sr:Int
 ss:Int
def grA (x:Gr):Array Value:=(ab x.folder::ab x.by_::ab x.device::ab x.pub::lL x.f [.slice x.oa x.olds.length x.oc,ab x.sr,ab x.ss]).toArray
structure Ir where
 f:Nat->Int
 g:Nat->Int
 by_:Int
 ba:Option Addr
 body:List UInt8
 bc:Nat
 sr:Int
 ss:Int
def irA (x:Ir):Array Value:=(lL x.f (lL x.g [ab x.by_,.slice x.ba x.body.length x.bc,ab x.sr,ab x.ss])).toArray
structure GrAt (N:Nat) (w:World) (x:Gr):Prop where
 ol:ai u3 34 N w x.oa x.olds
 bb:∀o∈x.olds,ByAt N w o.w.ba o.w.body
theorem GrAt.up{N N':Nat}{w':World}{x:Gr}(h:GrAt N w x)(hN:N<=N')(hw:∀k,k<N->w'.heap[k]? =w.heap[k]?):GrAt N' w' x:=⟨h.ol.up hN hw,λo ho=>(h.bb o ho).up hN hw⟩
structure pe (x:Gr):Prop where
 few:x.olds.length<=6
 bf:ec x.f
 bo:∀o∈x.olds,ec o.f
 i:jR x.folder/\jR x.by_/\jR x.device/\jR x.pub
 io:∀o∈x.olds,jR o.w.u
structure IrGood (x:Ir):Prop where
 bf:ec x.f
 bg:ec x.g
 i:jR x.by_
theorem nOj:jC []=true:=QG.2 ⟨λi x _ h=>by simp at h,by simp⟩
theorem n7l(hv:dR g=true):mz g (-1) []=false:=by
 have h:=AB.1 hv;have hm:gS g.ms (-1)=false:=by
  unfold gS;rw[decide_eq_false_iff_not];intro he;cases hx:g.ms[oV g.ms (-1)]? with
  |none=>rw[hx]at he;cases he
  |some x=>
   rw[hx]at he;have e1:x.dev= -1:=by simpa using he
   have h2:x.dev∈dZ g.ns:=by rw[<-h.2.2.1];exact bY.2 ⟨x,cP hx,rfl⟩
   have:=(ntj h2).1;omega
 have he:0<=g.epoch:=h.1.2.1;all_goals grind [mz]
theorem Gq(G:Gv)(N:Nat)(w:World)(hN:N<=w.heap.size)(hG:bT N w G):Calls prog 117 #[.agg (bD G)] w (aM w (.bool (dR G.g))):=by
 refine eN func117 ntmps117 ?_;refine B 2 ?_;refine yX ?_;intro b1 w1 hb1 cF gA fX jq;refine XZ ?_;obtain⟨e,he⟩:∃e,eT G.g (-1) []=e:=⟨_,rfl⟩;refine nG (enc:=sJ) (m:=4) (t:=110) (xs:=[]) (v:=λs=>.tuple #[s,ab e]) (first:=[]) (cap:=[]) rfl call134 rfl rfl rfl UO (λW hS=>?_) ?_
 ·have hG2:=hG.up (ak _) hS.sm;have hN2:=dG hN (hS.links w A1).size;cases hv:dR G.g with
  |false=>rw[<-he,show eT G.g (-1) []=1 by simp[eT,hv]];exact nYi G N W hN2 hG2 [] zJ none 0 (.inl rfl) (-1) hv
  |true=>rw[<-he,show eT G.g (-1) []=221 by simp[eT,AD,hv,n7l hv,nOj]];exact nPh G N W hN2 hG2 [] zJ none 0 (.inl rfl) (-1) hv nOj (n7l hv)
 intro W9 a9 EF IB cu xz jj jG;refine B 1 ?_;refine ax (.slice a9 0 EF) ?_;refine B 13 ?_;refine aF results117 rfl A2 ?_;subst he;cases hv:dR G.g with
 |false=>exact vb (by simp[eT,hv])
 |true=>exact vb (by simp[eT,AD,hv,n7l hv,nOj])
theorem Gs(x:Mb)(d:Int)(b:Nat)(w:World)(hb1:w.heap[b]? =some (oC #[ab d] 3)):Calls prog 119 #[.agg (pZ x),ptr b 0] w (aM w (.bool (decide (x.dev=d)))):=by
 have cF:¬Gh.no.X b:=λh=>h;have lX:=(aT.1 hb1).1;refine eN func119 ntmps119 ?_;refine B 2 ?_;refine yX ?_;intro b2 w2 da bW eU dx dq;refine B 13 ?_;refine aF results119 rfl A1 ?_;rfl
abbrev Mm:=Int×Int
def AS (x:Mm):List Value:=[ab x.1,ab x.2]
theorem nzh(x:Mm):(AS x).length=2:=rfl
theorem Lx(x:Mm):∀u∈AS x,u.oneCell'=true:=II rfl
theorem Ly:prog.info? 180=some Tryz.t180:=by kernel_rfl
theorem Sg:iR prog 171 180 2:=⟨underlying171,Tryz.t180,.agg #[ab 0,ab 0],Ly,rfl,rfl,rfl,by decide⟩
structure Sen (w:World) (a0 a1:Addr):Prop where
 g0:∃t fr,w.heap[0]? =some (.cells #[.iface 472 (.pointer (some a0))] t fr)
 g1:∃t fr,w.heap[1]? =some (.cells #[.iface 472 (.pointer (some a1))] t fr)
 h0:∃c t,w.heap[a0.block]? =some (oC c t)
 h1:∃c t,w.heap[a1.block]? =some (oC c t)
 ne:a0≠a1
noncomputable def xM (g:Gp) (d:Int):Option Mm:=(g.ms.find? λx=>decide (x.dev=d)).map λx=>(x.ver,(eb g.ns (512+d)).getD 0)
noncomputable def C0 (g:Gp) (l:List Int):List Mm:=l.filterMap (xM g)
noncomputable def qj (g:Gp) (l:List Int):Nat:=if dR g=false then 1 else if l.all (λd=>(xM g d).isSome)then 0 else 2
noncomputable def Gt (g:Gp) (l:List Int):List Mm:=if qj g l=0 then C0 g l else[]
theorem nZh{j:Nat}{d:Int}{m:Mm}(hd:l[j]? =some d)(hm:xM g d=some m):C0 g (l.take (j+1))=C0 g (l.take j)++[m]:=by unfold C0;rw[np hd,List.filterMap_append];simp[hm]
theorem Sh(g:Gp)(l:List Int):(C0 g l).length<=l.length:=List.length_filterMap_le _ _
theorem ZI(h:dR g=false):qj g l=1:=by unfold qj;rw[if_pos h]
theorem ZJ{d:Int}(h:dR g=true)(hd:d∈l)(hn:xM g d=none):qj g l=2:=by grind [qj]
theorem ZK(h:dR g=true)(ha:l.all (λd=>(xM g d).isSome)=true):qj g l=0:=by unfold qj;rw[if_neg (by rw[h];decide),if_pos ha]
theorem Si{d:Int}{i:Int}(h:eR (λx:Mb=>decide (x.dev=d)) g.ms i)(hi:i<0):xM g d=none:=by grind [xM,Vl]
theorem Lz{d:Int}{x:Mb}(h:g.ms.find? (λx=>decide (x.dev=d))=some x):xM g d=some (x.ver,(eb g.ns (512+d)).getD 0):=by unfold xM;rw[h];rfl
def erV (a0 a1:Addr):Nat->Value
 |0=>.nilIface
 |1=>.iface 472 (.pointer (some a0))
 |_=>.iface 472 (.pointer (some a1))
theorem nho(G:Gv)(N:Nat)(w:World)(hN:N<=w.heap.size)(hG:bT N w G)(l:List Int)(hl:l.length<=100)(a:Option Addr)(cp:Nat)(aJ:ai encI 1 N w a l)(a0 a1:Addr)(hse:Sen w a0 a1):Calls prog 68 #[.agg (bD G),.slice a l.length cp] w (aD w AS 2 180 (Gt G.g l) (λs=>.tuple #[s,erV a0 a1 (qj G.g l)])):=by
 obtain⟨tg0,fg0,hg0⟩:=hse.g0;obtain⟨tg1,fg1,hg1⟩:=hse.g1;have Ib:=(aT.1 hg0).1;have lX:=(aT.1 hg1).1;refine eN func68 ntmps68 ?_;refine B 2 ?_;refine yX ?_;intro b2 w2 da bW eU dx dq;refine B 7 ?_;refine ax (.agg (bD G)) ?_;refine call (v:=.bool (dR G.g)) call117 rfl rfl rfl (λW hS=>Gq G N W cM (hG.up (ak _) hS.sm)) ?_;refine B 3 ?_;refine aG ?_ ?_
 ·intro ar;refine B 1 ?_;refine eA 2 (pb:=by exact aU (X.v (av (v:=.iface 472 (.pointer (some a0))) isAgg173 rfl A1 hg0 zL zA rfl)) zT) (k:=?_);refine B 5 ?_;have e1:qj G.g l=1:=ZI yO;exact zQg
 intro ar;refine B 11 ?_;have hv:dR G.g=true:=by simp_all
 refine CJ.loop (α:=Rw×Nat) (λp=>[(2,ptr b2 0),(4,p.1.val (C0 G.g (l.take p.2)).length),(15,.slice a l.length cp),(16,ab (l.length:Int)),(17,ab (p.2:Int))]) (λp=>p.1.hp AS 180 (C0 G.g (l.take p.2))++[]) (λp=>[w2,w]) (λp=>Gh.no) (λp=>p.2<=l.length/\p.1.Fr Gh.no [w2,w]/\p.1.Fit 2 (C0 G.g (l.take p.2))/\(l.take p.2).all (λd=>(xM G.g d).isSome)=true) (λp=>l.length-p.2) (.nil,0) ⟨cV _,True.intro,rfl,rfl⟩ zR rfl rfl zJ ?_;rintro⟨r,j⟩ ⟨hj,aK,ah,hal⟩;dsimp only at hj aK ah hal ⊢;have bH:r.ge w2.heap.size:=Rw.ge_of aK A0;refine B 6 ?_;refine aG ?_ ?_
 ·intro aN;refine B 5 ?_;obtain⟨bo,oo,cs0,to,fG,rfl,fH,cJ,aW⟩:=aJ.get aa;obtain⟨d,hd⟩:=ng l j aa;refine B 2 ?_;refine rv rfl rfl rfl (av (v:=ab d) isAgg3 rfl A1 cJ zL zA (by have:=nN aW hd rfl zB;simpa[encI]using this)) ?_;refine B 1 ?_;refine yW ?_;intro b7 jy vr;refine B 6 ?_;refine ax (.slice G.ma G.g.ms.length G.mc) ?_;refine B 1 ?_;refine Sf (α:=Int) (v:=λi:Int=>ab i) (Φ:=λi=>eR (λy:Mb=>decide (y.dev=d)) G.g.ms i) call118 rfl rfl rfl (λW hS=>?_) ?_
  ·have y8:=hS.own (b7,_) A0;exact nod (λy:Mb=>decide (y.dev=d)) 119 [ptr b7 0] call119 G.g.ms (by have:=hG.mn;omega) N G.ma G.mc W cM (hG.ms.up (ak _) (hS.same A1 hN zI zH)) (λj x hx W2 hB=>Gs x d b7 W2 (by rw[hB.block b7 (aT.1 y8).1];exact y8))
  intro ix CW;refine B 10 ?_;refine aG ?_ ?_
  ·intro dc;refine B 1 ?_;refine eA 2 (pb:=by exact aU (X.v (av (v:=.iface 472 (.pointer (some a1))) isAgg173 rfl A1 hg1 zL zA rfl)) zT) (k:=?_);refine B 10 ?_;have e1:qj G.g l=2:=ZJ hv (cP hd) (Si CW aa);exact zQg
  intro dc;refine B 3 ?_;obtain⟨n,x,rfl,hx,hfx⟩:=(Vl CW).resolve_left (λh=>by have:=h.1;omega);have qw:dW d:=by have h1:=(AB.1 hv).2.2.1;have h2:=List.find?_some hfx;simp only[decide_eq_true_eq]at h2;exact ntj (by rw[<-h1,<-h2];exact bY.2 ⟨x,cP hx,rfl⟩)
  have hd1:=qw.1;have hd2:=qw.2;have xC:=Lz hfx;obtain⟨bm,om,csm,tm,frm,rV,ot,Qg,Qh⟩:=hG.ms.get UD;have hnx:=nr hx;refine B 2 ?_;refine ax (.agg #[.slice G.na G.g.ns.length G.nc]) ?_;refine B 1 ?_;refine ax (ab (512+d)) ?_;refine call (v:=.tuple #[ab ((eb G.g.ns (512+d)).getD 0),.bool (eb G.g.ns (512+d)).isSome]) call36 rfl rfl rfl (λW hS=>nQc G.g.ns (by have:=hG.nn;omega) N G.na G.nc W cM (hG.ns.up (ak _) (hS.same A1 hN zI zH)) (512+d)) ?_;refine B 10 ?_;refine rq (.slice (some ⟨bm,om,none⟩) G.g.ms.length G.mc) (av isAgg48 rfl A0 da bW zA rfl) (congrArg (λq=>Value.slice q G.g.ms.length G.mc) rV) ?_;refine B 3 ?_;refine rv rfl rfl rfl (av (v:=ab x.ver) isAgg3 rfl A1 Qg zL zA (by have:=yQ Qh hx rfl 2 zB;simpa[pZ]using this)) ?_;refine B 2 ?_;refine iS underlying171 sizeOf180 zeroValue180 rfl rfl rfl rfl rfl rfl rfl ?_;refine yW ?_;intro b45 anP anQ;refine jS (r:=r) (xs:=(C0 G.g (l.take j))) (zs:=[((x.ver,(eb G.g.ns (512+d)).getD 0):Mm)]) (enc:=AS) (m:=2) (H0:=[(b45,oC #[ab x.ver,ab ((eb G.g.ns (512+d)).getD 0)] 180),(b7,oC #[ab d] 3)]) (H1:=[]) zX Sg nzh rfl rfl rfl rfl (bO.one (z:=((x.ver,(eb G.g.ns (512+d)).getD 0):Mm)) nzh Lx underlying171 (bB.own (i:=0) rfl)) ah aK zJ (by have h9:=Sh G.g (l.take j);rw[kQ]at h9;simp only[dC,fb];omega) ?_
  intro b46 ai1 ai2 Sj Sk;replace Sj:=yb Sj;refine CH ?_;refine PJ.again (Rw.row b46 ai1 ai2,j+1) ⟨by dsimp only;omega,Sj.elim (λh=>Rw.Fr_at aK h) (λh=>.inr h),by rw[nZh hd xC];exact Sk,by dsimp only;rw[np hd,List.all_append,hal];simp[xC]⟩ zW ⟨rfl,by rw[nZh hd xC];rfl,rfl,rfl,rfl,trivial⟩ (by rw[nZh hd xC];rfl) rfl zJ
 intro aN;refine B 13 ?_;have za:j=l.length:=by omega
 rw[za,vW]at hal ah ⊢;have e1:qj G.g l=0:=ZK hv hal;have e2:Gt G.g l=C0 G.g l:=by unfold Gt;rw[e1];rfl
 rw[e1,e2];exact nP (H0:=[]) (H1:=[]) (r:=r) (.inl rfl) results68 bj A1 (by rw[dV];exact Rw.over (Rw.ge_mono bH aa)) rfl ah (Rw.ge_mono bH aa) zJ
end Px
