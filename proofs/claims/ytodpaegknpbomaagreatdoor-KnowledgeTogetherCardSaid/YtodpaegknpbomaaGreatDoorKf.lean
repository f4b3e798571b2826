/- Contracts of functions of the program. No condition beyond those stated. -/
import Derived.Test.YtodpaegknpbomaaGreatDoorKe
import Derived.Test.YtodpaegknpbomaaGreatDoorProg
import Derived.LaidEql
import Derived.Stop.Asserts
import Derived.RowKitTokens
set_option linter.unusedSimpArgs false
set_option linter.unusedVariables false
set_option linter.unusedSectionVars false
set_option linter.unnecessarySimpa false
set_option maxRecDepth 20000
set_option maxHeartbeats 8000000
namespace Px
open Go Go.RowKit Go.Proofs Go.Proofs.Tryz
variable {Z:Fx} {g:Gp} {F:ad} {cs:List Cm} {l:List Int} {L:List World} {t:Nat} {fr:Nat×Nat} {r:Rw} {W w:World}
theorem cd.slF{C:Cx}{H F2:ad}{α:Type}{enc:α->List Value}{m tx e' c:Nat}{a:Option Addr}{xs:List α}(hm:∀x,(enc x).length=m)(h1:∀x,∀u∈enc x,u.oneCell'=true)(hU:C.P.underlying tx=some (.slice e'))(h:lC (λx=>(enc x).toArray) m F a xs)(hs:∀p∈F,p∈F2):cd C (dL F2) L H enc m tx (.slice a xs.length c) xs:=by
 rcases h with h|⟨b,off,cs,t,fr,e1,e2,e4⟩
 ·subst h;exact zhh
 subst e1;have hl:off+xs.length*m<=cs.size\/xs=[]:=by
  exact zDg
 rcases hl with hl|h0
 ·exact cd.at hm h1 hU (λW hS=>(hS.fzLies _ (hs _ e2)).2) hl (nPf xs hm e4)
 subst h0;exact zhh
theorem nzj{α:Type}{enc:α->List Value}{x:α}{A:Array Value}(h:A=(enc x).toArray):(oC A t:Obj)=aP enc t ([]++[x]) []:=by subst h;simp[gX]
theorem ph.toO{N M:Nat}{p:Pv}(h:ph Z cs N w p)(hN:N<=M)(hs:∀k,k<N->W.heap[k]? =w.heap[k]?):ph Z cs M W p:=⟨h.ids.up hN hs,h.at_.up hN hs⟩
structure AlV (Z:Fx) (cs:List Cm) (fo:Fo) (F:ad) (ds:List Cd):Prop where
 eq:ds.map sj=mf Z cs fo
 len:ds.length<=cs.length
 d:∀d∈ds,cs[kC d]? =some d.c/\0<=d.at_/\sg F d.x
theorem nQe{n:Nat}:∀{H:ad},(∀q∈H,n<=q.1)->Over n H
 | [],_=>trivial
 |p::H,h=>⟨h p A0,nQe λq hq=>h q (.tail _ hq)⟩
theorem Rw.geA{n b cap:Nat}{sp:List Value}(h:r.ge n)(hb:r.isAt b):Rw.ge n (Rw.row b cap sp):=by
 cases r with
 |nil=>exact hb.elim
 |row b' c' s'=>have e:b'=b:=hb;subst e;exact h
theorem n0m(hZ:FxOk Z)(cs:List Cm)(cJ:cs.length<=1000)(dC:∀c∈cs,bO c)(N:Nat)(la:Option Addr)(lc:Nat)(w:World)(hN:N<=w.heap.size)(aJ:ai cG 73 N w la cs)(hC:∀c∈cs,du N w c)(fo:Fo)(hg:Glb w):Calls prog 33 #[.agg (sT fo),.slice la cs.length lc] w (λe w'=>∃(q:((Option Addr×Nat)×(Option Addr×Nat))×List Cd) (F':ad),e= .returned (.tuple #[.slice q.1.1.1 q.2.length q.1.1.2,.slice q.1.2.1 q.2.length q.1.2.2])/\Below w.heap.size w w'/\(∀p∈F',w.heap.size<=p.1/\w'.heap[p.1]? =some p.2)/\AlV Z cs fo F' q.2/\lC (λx=>(aA x).toArray) 1 F' q.1.1.1 (q.2.map λd=>d.at_)/\lC (λx=>(lZ x).toArray) 36 F' q.1.2.1 (q.2.map λd=>d.x)):=by
 have hg4:=hg.lt;refine nB (dL []) [] (vs:=[_,_]) func33 rfl ntmps33 rfl (NU w) ?_;refine B 2 ?_;refine yX ?_;intro b2 w2 di bV ff dB dx;refine B 7 ?_;refine nv (α:=Pv) (v:=λp=>.agg (zb Z cs la lc p)) (Φ:=λW p w1=>ph Z cs w1.heap.size w1 p/\(∀q,p.ia=some q->W.heap.size<=q.block)/\∀q,p.ta=some q->W.heap.size<=q.block) call61 rfl rfl rfl (λW hS=>Px.newPool hZ cs cJ dC N la lc W cM (aJ.up (ak _) hS.sm) (λc hc=>(hC c hc).up (ak _) hS.sm) (hg.old hS A1 zH True.intro)) ?_;rintro Wp ⟨ia,ic,ta,tc⟩ wp BA Qd ⟨Fm,Rh,hp3⟩;try dsimp only at Fm Rh hp3
 have hzp:=Qd.size;have hzq:=(BA.links w A1).size;refine B 1 ?_;refine yW ?_;intro b6 jO qy;refine B 5 ?_;refine ay (.agg (zb Z cs la lc ⟨ia,ic,ta,tc⟩)) ?_;refine ay (.agg (sT fo)) ?_;refine Vg (γ:=Cd×Bool) (v:=λx=>.tuple #[.agg (iS x.1),.bool x.2]) (Φ:=λF x=>(x.2=true/\tO Z cs fo=some (kC x.1)/\uV Z cs (g0 fo) x.1/\sg F x.1.x)\/(x.2=false/\tO Z cs fo=none)) call62 rfl rfl rfl (λW hS=>n4m hZ cs cJ dC W.heap.size la lc W (ak _) (aJ.up cM (hS.same A2 hN zH ⟨by dsimp only;omega,True.intro⟩)) (λc hc=>(hC c hc).up cM (hS.same A2 hN zH ⟨by dsimp only;omega,True.intro⟩)) ia ic ta tc (Fm.toO (hS.links wp A0).size (hS.same A0 (ak _) zH ⟨by dsimp only;omega,True.intro⟩)) fo (hg.old hS A2 zH ⟨by dsimp only;omega,True.intro⟩)) ?_;rintro⟨d0,k0⟩ F0 sH Vp;dsimp only at sH ⊢;refine B 4 ?_;refine yW ?_;intro b7 jN vN;refine B 6 ?_;rcases sH with⟨rfl,jA,yZ,hgf⟩|⟨rfl,sH⟩
 ·refine xp ?_;refine B 8 ?_;refine ay (.agg (iS d0)) ?_;refine kh underlying162 sizeOf159 zeroValue159 rfl rfl rfl rfl rfl rfl rfl ?_;refine yW ?_;intro b22 Pp ae7;refine B 4 ?_;refine CJ.reH (H':=[(b22,aP oF 159 ([]++[d0]) []),(b7,oC (iS d0) 159),(b6,oC (zb Z cs la lc ⟨ia,ic,ta,tc⟩) 156)]) (by rw[<-nzj (enc:=oF) (A:=iS d0) rfl];rfl) ?_;refine CJ.loop (α:=((((List Cd×List Cd)×List Cd)×(Rw×Rw))×(((Nat×Nat)×Nat)×List Value)×ad)) (λp9=>[(2,ptr b2 0),(4,p9.1.2.1.val (p9.1.1.1.1.map λd=>d.at_).length),(5,p9.1.2.2.val (p9.1.1.1.1.map λd=>d.x).length),(6,ptr b6 0),(9,.slice (some ⟨p9.2.1.1.1.1,p9.2.1.1.1.2,none⟩) p9.1.1.1.2.length p9.2.1.1.2)]) (λp9=>[(p9.2.1.1.1.1,aP oF 159 (p9.1.1.2++p9.1.1.1.2) p9.2.1.2),(b7,oC (iS d0) 159),(b6,oC (zb Z cs la lc ⟨ia,ic,ta,tc⟩) 156)]++(p9.1.2.1.hp aA 3 (p9.1.1.1.1.map λd=>d.at_)++(p9.1.2.2.hp lZ 53 (p9.1.1.1.1.map λd=>d.x)++[]))) (λp9=>[wp,w2,w]) (λp9=>dL p9.2.2) (λp9=>FJ Z cs fo (p9.1.1.1.1.map sj) (p9.1.1.1.2.map sj)/\(∀x∈p9.1.1.1.1++p9.1.1.1.2,cs[kC x]? =some x.c/\0<=x.at_/\sg p9.2.2 x.x)/\(∀q∈p9.2.2,w.heap.size<=q.1)/\p9.1.2.1.Fr (dL p9.2.2) [wp,w2,w]/\p9.1.2.1.Fit 1 (p9.1.1.1.1.map λd=>d.at_)/\p9.1.2.2.Fr (dL p9.2.2) [wp,w2,w]/\p9.1.2.2.Fit 36 (p9.1.1.1.1.map λd=>d.x)/\ae [wp,w2,w] p9.2.1.1.1.1/\p9.1.1.1.2.length<=p9.2.1.1.2/\p9.2.1.2.length=(p9.2.1.1.2-p9.1.1.1.2.length)*143/\(p9.1.1.1.2=[]\/p9.2.1.1.1.2=p9.1.1.2.length*143)/\p9.1.1.1.1.length<=cs.length) (λp9=>cs.length-p9.1.1.1.1.length) (((([],[d0]),[]),(.nil,.nil)),(((b22,0),1),[]),F0++[]) ⟨FJ.first jA yZ,λx hx=>by(have e:x=d0:=by simpa using hx);subst e;exact⟨yZ.at_,yZ.nn,hgf.mono (λp hp=>by simp[hp])⟩,λq hq=>(Vp q (by simpa using hq)).not A2,True.intro,rfl,True.intro,rfl,by simp only[ae,and_true];omega,by simp,rfl,.inr zI,by simp⟩ zR rfl rfl zI ?_
  rintro⟨⟨⟨⟨vs,qs⟩,ps⟩,r1,r2⟩,⟨⟨⟨bq,off⟩,cq⟩,RI⟩,F⟩ ⟨hI,iE,dV,qj,i7,iI,gA,Zu,Vq,hsq,Nu,hvl⟩;dsimp only at hI iE dV qj i7 iI gA Zu Vq hsq Nu hvl ⊢;have mX:r1.ge wp.heap.size:=Rw.ge_fz qj A0;have eu:r2.ge wp.heap.size:=Rw.ge_fz iI A0;have anm:wp.heap.size<=bq:=Zu.1;refine B 8 ?_;refine aG ?_ ?_
  ·intro ar;refine B 5 ?_;obtain⟨d,qt,rfl⟩:∃d qt,qs=d::qt:=by cases qs with|nil=>(exfalso;simp at *)|cons d qt=>exact⟨d,qt,rfl⟩
   obtain rfl:off=ps.length*143:=Nu.resolve_left zI;refine B 3 ?_;refine rq (.agg (iS d)) (fj (i:=0) rfl isAgg159 sizeOf159 rfl (njh (o:=ps.length) (k:=0) E9 zI rfl)) (va (nHf (enc:=oF) (o:=ps.length) (k:=0) (sp:=RI) E9 zI rfl)) ?_;refine B 1 ?_;refine yW ?_;intro gB lY p6;refine B 4 ?_;refine CJ.less (E':=[(2,_),(4,_),(5,_),(6,_),(9,_),(10,_),(23,_),(24,_),(25,_),(28,_),(29,_),(30,_)]) zR ?_;refine dN 9 [3,4,8] [[],[0],[]] (λcv L' H'=>let iL:Nat×Obj:=(b6,oC (zb Z cs la lc ⟨ia,ic,ta,tc⟩) 156);let dY:ad:=[(gB,oC (iS d) 159),(bq,aP oF 159 (ps++d::qt) RI),(b7,oC (iS d0) 159),iL]++(r1.hp aA 3 (vs.map λd=>d.at_)++(r2.hp lZ 53 (vs.map λd=>d.x)++[]));match cv with| [none,none,none]=>L'=[wp,w2,w]/\H'=dY| [none,none,some v8]=>∃(oG:Nat),v8= .slice (ao oG) 1 1/\L'=[wp,w2,w]/\H'=(oG,oC (bD d.x) 53)::dY/\ae [wp,w2,w] oG| [some v3,none,none]=>∃(fg:Nat),v3= .slice (ao fg) 1 1/\L'=[wp,w2,w]/\H'=(fg,oC #[ab d.at_] 3)::dY/\ae [wp,w2,w] fg| [some v3,none,some v8]=>∃(fg:Nat) (oG:Nat),v3= .slice (ao fg) 1 1/\v8= .slice (ao oG) 1 1/\L'=[wp,w2,w]/\H'=(oG,oC (bD d.x) 53)::(fg,oC #[ab d.at_] 3)::dY/\ae [wp,w2,w] fg/\ae [wp,w2,w] oG| [some v3,some v4,none]=>∃(fg:Nat) (mL:Nat) (gV:Nat) (iJ:List Value),v3= .slice (ao fg) 1 1/\v4= .slice (ao mL) ((vs.map λd=>d.at_)++[d.at_]).length gV/\L'=[wp,w2,w]/\H'=[(fg,oC #[ab d.at_] 3),(gB,oC (iS d) 159),(bq,aP oF 159 (ps++d::qt) RI),(b7,oC (iS d0) 159),iL]++((Rw.row mL gV iJ).hp aA 3 ((vs.map λd=>d.at_)++[d.at_])++(r2.hp lZ 53 (vs.map λd=>d.x)++[]))/\ae [wp,w2,w] fg/\(r1.isAt mL\/ae [wp,w2,w] mL)/\(Rw.row mL gV iJ).Fit 1 ((vs.map λd=>d.at_)++[d.at_])| [some v3,some v4,some v8]=>∃(fg:Nat) (mL:Nat) (gV:Nat) (iJ:List Value) (oG:Nat),v3= .slice (ao fg) 1 1/\v4= .slice (ao mL) ((vs.map λd=>d.at_)++[d.at_]).length gV/\v8= .slice (ao oG) 1 1/\L'=[wp,w2,w]/\H'=[(oG,oC (bD d.x) 53),(fg,oC #[ab d.at_] 3),(gB,oC (iS d) 159),(bq,aP oF 159 (ps++d::qt) RI),(b7,oC (iS d0) 159),iL]++((Rw.row mL gV iJ).hp aA 3 ((vs.map λd=>d.at_)++[d.at_])++(r2.hp lZ 53 (vs.map λd=>d.x)++[]))/\ae [wp,w2,w] fg/\(r1.isAt mL\/ae [wp,w2,w] mL)/\(Rw.row mL gV iJ).Fit 1 ((vs.map λd=>d.at_)++[d.at_])/\ae [wp,w2,w] oG|_=>False) ⟨rfl,rfl⟩ (xC 2 (k:=by exact sf zcs (xC 4 (k:=by exact sf zcs Ve)))) ?_ ?_
   ·refine nc rfl rfl ?_ ?_
    ·intro cv L' H' hl hr hP F Q' hk;obtain⟨x3,x4,x8,rfl⟩:=mB hl;rcases x3 with _|v3<;>rcases x4 with _|v4<;>rcases x8 with _|v8<;>try exact False.elim hP
     ·obtain⟨rfl,rfl⟩:=hP;refine D4 ?_;intro fg ha ho;exact OJ.done (hk _ _ _ ⟨fg,rfl,rfl,rfl,ha⟩)
     ·obtain⟨oG,rfl,rfl,rfl,wH⟩:=hP;refine D4 ?_;intro fg ha ho;refine OJ.perm (List.Perm.swap _ _ _) ?_;exact OJ.done (hk _ _ _ ⟨fg,oG,rfl,rfl,rfl,rfl,ha,wH⟩)
     ·exact cA
     ·exact cA
     ·exact cA
     exact cA
    refine nc rfl rfl ?_ ?_
    ·intro cv L' H' hl hr hP F Q' hk;obtain⟨x3,x4,x8,rfl⟩:=mB hl;rcases x3 with _|v3<;>rcases x4 with _|v4<;>rcases x8 with _|v8<;>try exact False.elim hP
     ·exact cA
     ·exact cA
     ·obtain⟨fg,rfl,rfl,rfl,jt⟩:=hP;refine kg (r:=r1) (xs:=(vs.map λd=>d.at_)) (zs:=[d.at_]) (enc:=aA) (m:=1) (H0:=[(fg,oC #[ab d.at_] 3),(gB,oC (iS d) 159),(bq,aP oF 159 (ps++d::qt) RI),(b7,oC (iS d0) 159),(b6,oC (zb Z cs la lc ⟨ia,ic,ta,tc⟩) 156)]) (H1:=r2.hp lZ 53 (vs.map λd=>d.x)++[]) zI Nt nz rfl rfl rfl rfl (cd.one (z:=d.at_) nz Nv underlying55 (bB.own (i:=0) rfl)) i7 qj zI PU ?_;intro mL gV iJ lz ik;exact OJ.done (hk _ _ _ ⟨fg,mL,gV,iJ,rfl,rfl,rfl,rfl,jt,lz,ik⟩)
     ·obtain⟨fg,oG,rfl,rfl,rfl,rfl,jt,wH⟩:=hP;refine kg (r:=r1) (xs:=(vs.map λd=>d.at_)) (zs:=[d.at_]) (enc:=aA) (m:=1) (H0:=[(oG,oC (bD d.x) 53),(fg,oC #[ab d.at_] 3),(gB,oC (iS d) 159),(bq,aP oF 159 (ps++d::qt) RI),(b7,oC (iS d0) 159),(b6,oC (zb Z cs la lc ⟨ia,ic,ta,tc⟩) 156)]) (H1:=r2.hp lZ 53 (vs.map λd=>d.x)++[]) zI Nt nz rfl rfl rfl rfl (cd.one (z:=d.at_) nz Nv underlying55 (bB.own (i:=1) rfl)) i7 qj zI PU ?_;intro mL gV iJ lz ik;exact OJ.done (hk _ _ _ ⟨fg,mL,gV,iJ,oG,rfl,rfl,rfl,rfl,rfl,jt,lz,ik,wH⟩)
     ·exact cA
     exact cA
    refine nc rfl rfl ?_ ?_
    ·intro cv L' H' hl hr hP F Q' hk;obtain⟨x3,x4,x8,rfl⟩:=mB hl;rcases x3 with _|v3<;>rcases x4 with _|v4<;>rcases x8 with _|v8<;>try exact False.elim hP
     ·obtain⟨rfl,rfl⟩:=hP;refine zme ?_;intro oG ha ho;exact OJ.done (hk _ _ _ ⟨oG,rfl,rfl,rfl,ha⟩)
     ·exact cA
     ·obtain⟨fg,rfl,rfl,rfl,jt⟩:=hP;refine zme ?_;intro oG ha ho;exact OJ.done (hk _ _ _ ⟨fg,oG,rfl,rfl,rfl,rfl,jt,ha⟩)
     ·exact cA
     ·obtain⟨fg,mL,gV,iJ,rfl,rfl,rfl,rfl,jt,lz,ik⟩:=hP;refine zme ?_;intro oG ha ho;exact OJ.done (hk _ _ _ ⟨fg,mL,gV,iJ,oG,rfl,rfl,rfl,rfl,rfl,jt,lz,ik,ha⟩)
     exact cA
    exact nn
   intro cv L' H' hl hr hP;obtain⟨x3,x4,x8,rfl⟩:=mB hl;rcases x3 with _|v3<;>rcases x4 with _|v4<;>rcases x8 with _|v8
   ·exact cA
   ·exact cA
   ·exact cA
   ·exact cA
   ·exact cA
   ·exact cA
   ·exact cA
   obtain⟨fg,mL,gV,iJ,oG,rfl,rfl,rfl,rfl,rfl,jt,lz,ik,wH⟩:=hP;simp only[ae]at jt wH lz;refine kg (r:=r2) (xs:=(vs.map λd=>d.x)) (zs:=[d.x]) (enc:=lZ) (m:=36) (H0:=[(oG,oC (bD d.x) 53),(fg,oC #[ab d.at_] 3),(gB,oC (iS d) 159),(bq,aP oF 159 (ps++d::qt) RI),(b7,oC (iS d0) 159),(b6,oC (zb Z cs la lc ⟨ia,ic,ta,tc⟩) 156)]++(Rw.row mL gV iJ).hp aA 3 ((vs.map λd=>d.at_)++[d.at_])) (H1:=[]) zW Fa YY rfl rfl rfl rfl (cd.one (z:=d.x) YY n9n underlying75 (bB.own (i:=0) rfl)) gA iI zI PU ?_;intro b40 RJ RK Lk RL;replace Lk:=yb Lk;refine B 6 ?_;refine ay (.agg (zb Z cs la lc ⟨ia,ic,ta,tc⟩)) ?_;refine B 1 ?_;refine ay (.agg (bD d.x)) ?_;have ah6:Rw.ge wp.heap.size (Rw.row mL gV iJ):=lz.elim (λh=>Rw.geA mX h) (λh=>h.1);have ah7:Rw.ge wp.heap.size (Rw.row b40 RJ RK):=Lk.elim (λh=>Rw.geA eu h) (λh=>h.1);have r7:wp.heap.size<=mL/\wp.heap.size<=b40:=⟨ah6,ah7⟩;refine Vg (γ:=(Option Addr×Nat)×List Cd) (v:=λx=>.slice x.1.1 x.2.length x.1.2) (Φ:=λF x=>x.2.map kC=AI Z cs d.x.g/\(∀y∈x.2,sS Z cs d.x.g y/\sg F y.x)/\lC iS 143 F x.1.1 x.2) call63 rfl rfl rfl (λW hS=>n3h hZ cs cJ dC W.heap.size la lc W (ak _) (aJ.up cM (hS.same A2 hN zH zcb)) (λc hc=>(hC c hc).up cM (hS.same A2 hN zH zcb)) ia ic ta tc (Fm.toO (hS.links wp A0).size (hS.same A0 (ak _) zH zcb)) d.x ((iE d zI).2.2.lies hS.fzLies) (hg.old hS A2 zH zcb)) ?_
   rintro⟨⟨a2,c2⟩,ds⟩ F2 ⟨bV,hd2,N2⟩ N8;dsimp only at bV hd2 N2 ⊢;have vJ:ds.length<=1000:=by have h9:=hI.step.qi.len;simp only[cy,eQ,dF,fh]at h9;have h8:=congrArg List.length (nJn bV (λx hx=>(hd2 x hx).1));rw[eQ]at h8;omega
   refine apO (enc:=oF) (m:=143) (H0:=[(oG,oC (bD d.x) 53),(fg,oC #[ab d.at_] 3),(gB,oC (iS d) 159)]) (H1:=[(b7,oC (iS d0) 159),(b6,oC (zb Z cs la lc ⟨ia,ic,ta,tc⟩) 156)]++((Rw.row mL gV iJ).hp aA 3 ((vs.map λd=>d.at_)++[d.at_])++((Rw.row b40 RJ RK).hp lZ 53 ((vs.map λd=>d.x)++[d.x])++[]))) (ps:=ps) (xs:=d::qt) (zs:=ds) rfl Fb E9 rfl rfl rfl rfl rfl (cd.slF E9 n5j underlying162 N2 (λp hp=>bj.2 (.inl hp))) Vq hsq (.inr Zu) (by have h9:=hI.qi.len;simp only[eQ,dF]at h9 ⊢;omega) ?_;intro Zv Zw Zx ah8 ah9 RM aia;have aib:wp.heap.size<=Zv/\w2.heap.size<=Zv/\w.heap.size<=Zv:=by rcases ah9 with h|h;(subst h;simp only[ae]at Zu;omega);(simp only[ae]at h;omega)
   refine B 6 ?_;refine rq (.slice (some ⟨Zv,(if Zw=1 then Zx.length*143 else Zx.length*143+1*143),none⟩) (qt++ds).length (Zw-1)) (fZ (l:=1) (h:=(d::qt++ds).length) underlying162 sizeOf159 rfl ⟨_,_,rfl,rfl⟩ rfl zI (by exact RM) rfl) zI ?_;refine B 2 ?_;refine BV ?_;refine p5 ?_;refine PJ.again ((((vs++[d],qt++ds),Zx++[d]),(Rw.row mL gV iJ,Rw.row b40 RJ RK)),(((Zv,(if Zw=1 then Zx.length*143 else Zx.length*143+1*143)),Zw-1),ah8),F2++F) ⟨by dsimp only;rw[gz,gz,nJn bV (λx hx=>(hd2 x hx).1)];exact hI.step,
    λx hx=>by dsimp only at hx ⊢;rw[show(vs++[d])++(qt++ds)=(vs++d::qt)++ds by simp]at hx;rcases bj.1 hx with h|h;(exact⟨(iE x h).1,(iE x h).2.1,(iE x h).2.2.mono (λp hp=>bj.2 (.inr hp))⟩);exact⟨(hd2 x h).1.at_,(hd2 x h).1.nn,(hd2 x h).2.mono (λp hp=>bj.2 (.inl hp))⟩,
    λq hq=>(bj.1 hq).elim (λh=>(N8 q h).not A2) (dV q),
    lz.elim (λh=>.inr (by have:=Rw.Fr_at qj h;exact this.elim (λh=>h.elim) id)) (λh=>.inr h),by dsimp only;rw[gz];exact ik,
    Lk.elim (λh=>.inr (by have:=Rw.Fr_at iI h;exact this.elim (λh=>h.elim) id)) (λh=>.inr h),by dsimp only;rw[gz];exact RL,
    aib.imp id (λh=>⟨h.1,h.2,True.intro⟩),by dsimp only;simp only[cy,dF]at RM ⊢;omega,by dsimp only;rw[aia];congr 1;simp only[cy,dF];omega,
    by dsimp only;by_cases h9:Zw=1;(left;apply lN;simp only[cy,dF]at RM ⊢;omega);(right;rw[if_neg h9];simp only[cy,dF,fh];omega),
    by dsimp only;have h9:=hI.qi.len;simp only[eQ,dF,cy,fh]at h9 ⊢;omega⟩ (by dsimp only;have h9:=hI.qi.len;simp only[eQ,dF,cy,fh]at h9 ⊢;omega) ⟨rfl,by rw[gz];rfl,by rw[gz];rfl,rfl,rfl,trivial⟩ oW rfl zI
  intro ar;refine B 14 ?_;have hq0:qs=[]:=lN aa;subst hq0;refine bK (.inl rfl) results33 aX λW hS=>?_;have Ff:r1.At aA 3 (vs.map λd=>d.at_) W:=by
   exact zYh
  have Rf:r2.At lZ 53 (vs.map λd=>d.x) W:=by
   exact zXh
  obtain⟨a1,c1,uq,xD⟩:=Rw.sl nz i7 Ff (ak W.heap.size);obtain⟨a3,c3,Xi,Ll⟩:=Rw.sl YY gA Rf (ak W.heap.size);obtain⟨F1,ze,xD⟩:=xD.fs (K:=w.heap.size) (Rw.val_new (Rw.ge_mono mX aa) uq);obtain⟨F3,hF3,Ll⟩:=Ll.fs (K:=w.heap.size) (Rw.val_new (Rw.ge_mono eu aa) Xi);refine⟨(((a1,c1),(a3,c3)),vs),F1++(F3++F),?_,?_,λp hp=>?_,⟨hI.done,hvl,λx hx=>⟨(iE x (by simpa using hx)).1,(iE x (by simpa using hx)).2.1,(iE x (by simpa using hx)).2.2.mono (λp hp=>by simp[hp])⟩⟩,xD.mono (λp hp=>by simp[hp]),Ll.mono (λp hp=>by simp[hp])⟩
  ·show Ending.returned (.tuple #[r1.val _,r2.val _])=_;rw[uq,Xi];simp
  ·exact(hS.links w A2).below (λk hk hx=>by rcases hx with hx|hx;(exact hx);simp only[eb,gz,dy,eV,bj,bX,dE,or_false]at hx;rcases hx with(hx|hx|hx)|hx|hx<;>first|omega|(have:=Zu.2.2.1;omega)|(have:=Rw.mem_ge mX hx;omega)|(have:=Rw.mem_ge eu hx;omega))
  rcases bj.1 hp with hp|hp
  ·exact ze p hp
  rcases bj.1 hp with hp|hp
  ·exact hF3 p hp
  exact⟨dV p hp,(hS.fzLies p hp).2⟩
 refine B 2 ?_;refine KH ?_;refine bK (.inl rfl) results33 aX λW hS=>?_;refine⟨(((none,0),(none,0)),[]),[],rfl,(hS.links w A2).below (λk hk hx=>?_),by simp,⟨by rw[FJ.none sH];rfl,by simp,by simp⟩,.inl rfl,.inl rfl⟩;rcases hx with hx|hx
 ·exact hx
 simp only[dm,dy,eV,bX,dE,or_false]at hx;omega
theorem nEl(p:Gv->Bool)(f:Nat)(cap:List Value)(az:ew prog f)(xs:List Gv)(hxl:xs.length<=1000000)(N:Nat)(a:Option Addr)(cp:Nat)(w:World)(hN:N<=w.heap.size)(aJ:ai bD 36 N w a xs)(hp:∀(j:Nat) (x:Gv),xs[j]? =some x->∀W,Below w.heap.size w W->Calls prog f (.agg (bD x)::cap).toArray W (aL W (.bool (p x)))):Calls prog 55 #[.slice a xs.length cp,.func (.func f) #[] cap.toArray] w (cK w (λi:Int=>ab i) (λi _=>fb p xs i)):=by
 refine eN func55 ntmps55 ?_;refine UM ?_;rintro j ⟨hj,dZ⟩;refine B 6 ?_;refine aG ?_ ?_
 ·intro ar;refine B 11 ?_;obtain⟨bo,oo,cs0,to,fV,rfl,fP,cJ,aV⟩:=aJ.get aa;obtain⟨x,hx⟩:=ng xs j aa;refine B 5 ?_;refine ay (.agg (bD x)) ?_;refine UN ?_;refine aG ?_ ?_
  ·intro aN;refine B 12 ?_;refine rY (j:Int) results55 rfl A0 rfl ?_;exact UO
  exact UP
 intro ar;refine B 11 ?_;refine rY (-1:Int) results55 rfl A0 rfl ?_;exact UQ
structure Pl where
 c:Cm
 fst:Bool
 ns:List Nd
 ta:Option Addr
 tc:Nat
 x:Gv
def kD (p:Pl):Array Value:=(ab p.c.folder::ab p.c.epoch::lU p.c.par (ab p.c.author:: .slice p.c.ca p.c.chs.length p.c.cc:: .slice p.c.pa p.c.path.length p.c.pc:: .slice p.c.ba p.c.bxs.length p.c.bc:: .slice p.c.wa p.c.wes.length p.c.wc::lU p.c.conf (ab p.c.sr::ab p.c.ss:: .bool p.fst:: .slice p.ta p.ns.length p.tc::ab p.x.g.folder::ab p.x.g.epoch::lU p.x.g.last [.slice p.x.ma p.x.g.ms.length p.x.mc,.slice p.x.na p.x.g.ns.length p.x.nc]))).toArray
def zl (p:Pl):List Value:=(ab p.c.folder::ab p.c.epoch::lU p.c.par (ab p.c.author:: .slice p.c.ca p.c.chs.length p.c.cc:: .slice p.c.pa p.c.path.length p.c.pc:: .slice p.c.ba p.c.bxs.length p.c.bc:: .slice p.c.wa p.c.wes.length p.c.wc::lU p.c.conf (ab p.c.sr::ab p.c.ss:: .bool p.fst:: .slice p.ta p.ns.length p.tc::ab p.x.g.folder::ab p.x.g.epoch::lU p.x.g.last [.slice p.x.ma p.x.g.ms.length p.x.mc,.slice p.x.na p.x.g.ns.length p.x.nc])))
theorem Zy(p:Pl):(zl p).length=111:=rfl
theorem njj(p:Pl):∀u∈zl p,u.oneCell'=true:=N1 rfl
theorem Lm:prog.info? 92=some Tryz.t92:=by kernel_rfl
theorem nYl:jH prog 89 92 111:=⟨underlying89,Tryz.t92,.agg (ab 0::ab 0::tz (ab 0::aj::aj::aj::aj::tz (ab 0::ab 0::bN::aj::ab 0::ab 0::tz [aj,aj]))).toArray,Lm,rfl,rfl,rfl,by decide⟩
structure Ln (F:ad) (p:Pl):Prop where
 ns:lC gb 2 F p.ta p.ns
 nn:p.ns.length<=90000
 x:sg F p.x
theorem Ln.mono{F':ad}{p:Pl}(h:Ln F p)(hF:∀q∈F,q∈F'):Ln F' p:=⟨h.ns.mono hF,h.nn,h.x.mono hF⟩
noncomputable def B0 (gs:List Gp) (k:Nat) (c:Cm):List Nd:=if 0<k then(match gs.find? (λg=>mw g.last c.par)with|some g=>g.ns|none=>[])else[]
abbrev Ap:=Cm×Bool×List Nd×Gp
noncomputable def FK (cs:List Cm) (gs:List Gp) (k:Nat) (q:Nat×Gp):Ap:=(lQ cs q.1,decide (k=0),aW (B0 gs k (lQ cs q.1)) (lQ cs q.1).chs,q.2)
noncomputable def qm (cs:List Cm) (l:List (Nat×Gp)):Nat->List Ap
 |0=>[]
 |j+1=>match l[j]? with|none=>qm cs l j|some q=>qm cs l j++[FK cs (l.map (·.2)) j q]
noncomputable def zm (Z:Fx) (cs:List Cm) (fo:Fo):List Ap:=qm cs (mf Z cs fo) (mf Z cs fo).length
noncomputable def gW (Z:Fx) (cs:List Cm) (fos:List Fo):List Ap:=fos.flatMap (zm Z cs)
theorem nEg{l:List (Nat×Gp)}{j:Nat}{q:Nat×Gp}(h:l[j]? =some q):qm cs l (j+1)=qm cs l j++[FK cs (l.map (·.2)) j q]:=by conv=>lhs;unfold qm;rw[h]
theorem FL(cs:List Cm)(l:List (Nat×Gp)):∀j,(qm cs l j).length<=j:=
 by intro x;induction x<;>(intros;grind [qm])
theorem nep{fos:List Fo}{i:Nat}{fo:Fo}(h:fos[i]? =some fo):gW Z cs (fos.take (i+1))=gW Z cs (fos.take i)++zm Z cs fo:=by unfold gW;rw[nq h];simp
def bC (p:Pl):Ap:=(p.c,p.fst,p.ns,p.x.g)
theorem nFn{Z:Fx}{cs:List Cm}{P:Nat×Gp->Prop}(hs:∀p,P p->∀q∈zk Z cs p,P q):∀(n:Nat) (qs:List (Nat×Gp)),(∀p∈qs,P p)->∀p∈CL Z cs n qs,P p
 |0,_,_,p,hp=>by simp[CL]at hp
 |n+1,[],_,p,hp=>by simp[CL]at hp
 |n+1,q::qs,h,p,hp=>by
  unfold CL at hp;rcases bX.1 hp with rfl|hp
  ·exact h _ A0
  exact nFn hs n _ (λx hx=>(bj.1 hx).elim (λh1=>h x (.tail _ h1)) (λh1=>hs q (h q A0) x h1)) p hp
def Led (Z:Fx) (cs:List Cm) (p:Nat×Gp):Prop:=∃g c,cs[p.1]? =some c/\jC Z g c=0/\p.2=lj Z g c
theorem n8l{fo:Fo}:∀p∈mf Z cs fo,Led Z cs p:=by
 intro p hp;unfold mf at hp;split at hp
 ·cases hp
 rename_i i hi;refine nFn (P:=Led Z cs) (λq _ r hr=>?_) _ _ (λq hq=>?_) p hp
 ·obtain⟨j,hj,rfl⟩:=bW.1 hr;obtain⟨c,h1,_,_,h4⟩:=n6j hj;exact⟨q.2,c,h1,h4,by show lj Z q.2 (lQ cs j)=_;unfold lQ;rw[h1];rfl⟩
 rw[ka]at hq;subst hq;unfold tO at hi;rw[Option.bind_eq_some_iff]at hi;obtain⟨j,h1,h2⟩:=hi;split at h2
 ·rename_i h0;have:=Option.some.inj h2;subst this;unfold N9 at h1;split at h1
  ·cases h1
  rw[AF]at h1;obtain⟨r,hr,e1⟩:=h1;obtain⟨k,c,f1,_,f3,_⟩:=Vc Z cs _ r (cO hr);rw[f1,yz]at e1;subst e1;have e2:lQ cs k=c:=by unfold lQ;rw[f3];rfl
  rw[e2]at h0;exact⟨g0 fo,c,f3,h0,by rw[e2]⟩
 cases h2
theorem Lo{c:Cm}(h:jC Z g c=0):jL c.chs=true:=by grind [jC,fe,Ax]
theorem Vr{α:Type}{p:α->Bool}{xs:List α}{i:Int}(h:fb p xs i):(i= -1/\xs.find? p=none)\/∃(j:Nat) (x:α),i=(j:Int)/\xs[j]? =some x/\xs.find? p=some x:=by
 rcases h with⟨h1,h2⟩|⟨j,x,h1,h2,h3,h4⟩
 ·exact .inl ⟨h1,List.find?_eq_none.2 λx hx=>by have:=List.any_eq_false.1 h2 x hx;simpa using this⟩
 refine .inr ⟨j,x,h1,h2,List.find?_eq_some_iff_append.2 ⟨h3,xs.take j,xs.drop (j+1),?_,λy hy=>?_⟩⟩
 ·obtain⟨g1,g2⟩:=iv.1 h2;rw[<-g2,List.getElem_cons_drop,AB]
 obtain⟨k,hk⟩:=kA.1 hy;have hl:=nr hk;rw[lb]at hl;rw[QS aa]at hk;simp[h4 k y aa hk]
theorem n7h{gs:List Gv}{c:Cm}:(gs.map (·.g)).find? (λg=>mw g.last c.par)=(gs.find? (λx=>mw x.g.last c.par)).map (·.g):=by rw[List.find?_map];rfl
theorem rC{C:Cx}{E:Env}{H:ad}{T b off n:Nat}{x:Operand}{cs:Array Value}(hA:eI C.P T true)(hZ:nJ C.P T n)(hx:ev E x=some (ptr b off))(hb:(b,Obj.cells cs t fr)∈F)(hn:off+n<=cs.size):RV C (dL F) L H E (.load T x) (.agg (cut cs off n)):=
 λ_ _ _ _ _ _ _ hF hS=>nxg hA hZ (hF.ev hx) (hS.fzLies _ hb).2 hn
theorem Zz{C:Cx}{E:Env}{H:ad}{T b off:Nat}{x:Operand}{cs:Array Value}{v:Value}(hA:eI C.P T false)(hx:ev E x=some (ptr b off))(hb:(b,Obj.cells cs t fr)∈F)(hv:cs[off]? =some v):RV C (dL F) L H E (.load T x) v:=
 λ_ _ _ _ _ _ _ hF hS=>nAg hA (hF.ev hx) (hS.fzLies _ hb).2 hv
theorem lC.get{α:Type}{enc:α->Array Value}{n:Nat}{a:Option Addr}{xs:List α}(h:lC enc n F a xs)(h0:0<xs.length):∃b off cs t fr,a=some ⟨b,off,none⟩/\(b,Obj.cells cs t fr)∈F/\∀i (h:i<xs.length),off+i*n+n<=cs.size/\cut cs (off+i*n) n=enc xs[i]:=by
 rcases h with h|h
 ·subst h;simp at h0
 exact h
theorem St.fzB{H F':ad}(hS:St (dL F) L H W)(vz:∀p∈F',W.heap[p.1]? =some p.2/\p.1∉H.map (·.1)):St (dL (F'++F)) L H W:=by
 refine⟨λp hp=>?_,λk hk=>?_,λk hk=>hk.elim,hS.links,hS.own,hS.nodup,λp hp hv=>?_⟩
 ·rcases bj.1 hp with hp|hp
  ·exact(vz p hp).1
  exact hS.ghost p hp
 ·obtain⟨p,hp,rfl⟩:=bW.1 hk;rcases bj.1 hp with hp|hp
  ·exact(aT.1 (vz p hp).1).1
  exact hS.vlt p.1 (bW.2 ⟨p,hp,rfl⟩)
 obtain⟨q,hq,e⟩:=bW.1 hv;rcases bj.1 hq with hq|hq
 ·exact(vz q hq).2 (bW.2 ⟨p,hp,e.symm⟩)
 exact hS.apart p hp (bW.2 ⟨q,hq,e⟩)
theorem OJ.fzB{C:Cx}{Q:aY}{E:Env}{D:List Deferred}{H:ad}{ops:Array Oper}{l:List Oper}{L':List World}(F':ad)(h:∀W,St (dL F) L H W->∀p∈F',W.heap[p.1]? =some p.2/\p.1∉H.map (·.1))(hs:∀w∈L',w∈L)(k:OJ C ops Q l E D (dL (F'++F)) L' H):OJ C ops Q l E D (dL F) L H:=
 λa W hN hD hF hS=>k a W hN hD hF ((hS.fzB (h W hS)).lessL hs)
theorem FM(c:Cm)(b:Nat)(x:Gv)(w:World)(hb1:w.heap[b]? =some (oC (cG c) 61)):Calls prog 56 #[.agg (bD x),ptr b 0] w (aL w (.bool (mw x.g.last c.par))):=by
 have cF:¬Gh.no.X b:=λh=>h;have mr:=(aT.1 hb1).1;refine eN func56 ntmps56 ?_;refine B 2 ?_;refine yX ?_;intro b2 w2 di bV ff dB dx;refine B 6 ?_;refine ay (.agg (dg x.g.last)) ?_;refine B 1 ?_;refine ay (.agg (dg c.par)) ?_;refine rv rfl rfl rfl (pg xn zA nM rfl rfl rfl) ?_;refine B 4 ?_;refine aF results56 rfl A1 ?_;rfl
theorem nJh(hZ:FxOk Z)(cs:List Cm)(cJ:cs.length<=1000)(dC:∀c∈cs,bO c)(N:Nat)(la:Option Addr)(lc:Nat)(w:World)(hN:N<=w.heap.size)(aJ:ai cG 73 N w la cs)(hC:∀c∈cs,du N w c)(fa:Option Addr)(fos:List Fo)(fc:Nat)(kp:fos.length<=10)(lP:cs.length<=10)(rD:ai sT 33 N w fa fos)(o1 o3 o4 o5 o6 o7:Value)(hg:Glb w):Calls prog 30 #[.agg #[.slice fa fos.length fc,o1,.slice la cs.length lc,o3,o4,o5,o6,o7]] w (λe w'=>∃(q:(Option Addr×Nat)×List Pl) (F':ad),e= .returned (.slice q.1.1 q.2.length q.1.2)/\Below w.heap.size w w'/\(∀p∈F',w.heap.size<=p.1/\w'.heap[p.1]? =some p.2)/\q.2.map bC=gW Z cs fos/\(∀p∈q.2,Ln F' p/\p.c∈cs)/\q.2.length<=100/\lC (λx=>(zl x).toArray) 111 F' q.1.1 q.2):=by
 have hg4:=hg.lt;refine nB (dL []) [] (vs:=[_]) func30 rfl ntmps30 rfl (NU w) ?_;refine B 2 ?_;refine yX ?_;intro b1 w1 hb1 cF gK gj jy;refine B 13 ?_;refine CJ.loop (α:=((Rw×List Pl)×ad)×Nat) (λp9=>[(1,ptr b1 0),(2,p9.1.1.1.val p9.1.1.2.length),(13,.slice fa fos.length fc),(14,ab (fos.length:Int)),(15,ab (p9.2:Int))]) (λp9=>p9.1.1.1.hp zl 92 p9.1.1.2++[]) (λp9=>[w1,w]) (λp9=>dL p9.1.2) (λp9=>p9.2<=fos.length/\p9.1.1.1.Fr (dL p9.1.2) [w1,w]/\p9.1.1.1.Fit 111 p9.1.1.2/\p9.1.1.2.map bC=gW Z cs (fos.take p9.2)/\(∀p∈p9.1.1.2,Ln p9.1.2 p/\p.c∈cs)/\p9.1.1.2.length<=p9.2*10/\∀q∈p9.1.2,w.heap.size<=q.1) (λp9=>fos.length-p9.2) (((.nil,[]),[]),0) ⟨cR _,True.intro,rfl,rfl,by simp,ak _,by simp⟩ zR rfl rfl zI ?_;rintro⟨⟨⟨r,pls⟩,F⟩,i⟩ ⟨hi,aK,ah,aQ,jB,iH,dV⟩;dsimp only at hi aK ah aQ jB iH dV ⊢;have bG:r.ge w1.heap.size:=Rw.ge_fz aK A0;refine B 6 ?_;refine aG ?_ ?_
 ·intro ar;refine B 5 ?_;obtain⟨bf,of,csf,tf,frf,rfl,Vs,ann,ano⟩:=rD.get aa;obtain⟨fo,uJ⟩:=ng fos i aa;refine B 2 ?_;refine ay (.agg (sT fo)) ?_;refine B 1 ?_;refine yW ?_;intro b4 ji jj;refine B 5 ?_;refine ay (.agg (sT fo)) ?_;refine B 1 ?_;refine ay (.slice la cs.length lc) ?_;refine Vg (γ:=((Option Addr×Nat)×(Option Addr×Nat))×List Cd) (v:=λq=>.tuple #[.slice q.1.1.1 q.2.length q.1.1.2,.slice q.1.2.1 q.2.length q.1.2.2]) (Φ:=λF' q=>AlV Z cs fo F' q.2/\lC (λx=>(aA x).toArray) 1 F' q.1.1.1 (q.2.map λd=>d.at_)/\lC (λx=>(lZ x).toArray) 36 F' q.1.2.1 (q.2.map λd=>d.x)) call33 rfl rfl rfl (λW hS=>n0m hZ cs cJ dC N la lc W cM (aJ.up (ak _) (hS.same A1 hN zH zF)) (λc hc=>(hC c hc).up (ak _) (hS.same A1 hN zH zF)) fo (hg.old hS A1 zH zF)) ?_;rintro⟨⟨⟨a1,c1⟩,⟨a3,c3⟩⟩,ds⟩ F1 ⟨hv,xD,Ll⟩ ze;dsimp only at hv xD Ll ⊢;have Ll:lC bD 36 F1 a3 (ds.map λd=>d.x):=Ll;have vJ:=hv.len;refine B 15 ?_;refine CJ.loop (α:=((Rw×List Pl)×ad)×Nat) (λp8=>[(1,ptr b1 0),(2,p8.1.1.1.val p8.1.1.2.length),(5,.slice a1 ds.length c1),(6,.slice a3 ds.length c3),(13,.slice (some ⟨bf,of,none⟩) fos.length fc),(14,ab (fos.length:Int)),(15,ab (i:Int)),(26,.slice a1 ds.length c1),(27,ab (ds.length:Int)),(28,ab (p8.2:Int))]) (λp8=>[(b4,oC (sT fo) 97)]++(p8.1.1.1.hp zl 92 p8.1.1.2++[])) (λp8=>[w1,w]) (λp8=>dL p8.1.2) (λp8=>(p8.2<=ds.length/\∀q∈F1,q∈p8.1.2)/\p8.1.1.1.Fr (dL p8.1.2) [w1,w]/\p8.1.1.1.Fit 111 p8.1.1.2/\p8.1.1.2.map bC=gW Z cs (fos.take i)++qm cs (ds.map sj) p8.2/\(∀p∈p8.1.1.2,Ln p8.1.2 p/\p.c∈cs)/\p8.1.1.2.length<=i*10+p8.2/\∀q∈p8.1.2,w.heap.size<=q.1) (λp8=>ds.length-p8.2) (((r,pls),F1++F),0) ⟨⟨cR _,λq hq=>bj.2 (.inl hq)⟩,aK,ah,by dsimp only;rw[aQ];exact(eb _).symm,λp hp=>⟨(jB p hp).1.mono (λq hq=>bj.2 (.inr hq)),(jB p hp).2⟩,by dsimp only;omega,λq hq=>(bj.1 hq).elim (λh=>(ze q h).not A1) (dV q)⟩ zR rfl rfl zI ?_
  rintro⟨⟨⟨r,pls⟩,F⟩,j⟩ ⟨⟨hj,jT⟩,aK,ah,aQ,jB,iH,dV⟩;dsimp only at hj jT aK ah aQ jB iH dV ⊢;have bG:r.ge w1.heap.size:=Rw.ge_fz aK A0;refine B 6 ?_;refine aG ?_ ?_
  ·intro aN;refine B 5 ?_;obtain⟨d,hd⟩:=ng ds j aa;have qB:=hv.d d (cO hd);have ZA:d.c∈cs:=cO qB.1;have hdi:d.at_=((kC d:Nat):Int):=by have:=qB.2.1;unfold kC;omega
   obtain⟨g9,c9,qN,he9,_⟩:=n8l (sj d) (hv.eq▸bW.2 ⟨d,cO hd,rfl⟩);obtain rfl:c9=d.c:=by have h9:cs[kC d]? =some c9:=qN;rw[qB.1]at h9;exact(Option.some.inj h9).symm
   have xz:=nYi (Lo he9);have hax:(ds.map λd=>d.at_)[j]? =some d.at_:=by rw[sC,hd];rfl
   have Lp:(ds.map λd=>d.x)[j]? =some d.x:=by rw[sC,hd];rfl
   have ZB:(ds.map sj).map (·.2)=(ds.map λd=>d.x).map (·.g):=by rw[List.map_map,List.map_map];rfl
   obtain⟨ba,oa,csa,ta1,fra,rfl,hba,K5⟩:=(xD.mono jT).get (by rw[eQ];omega);obtain⟨bg,og,csg,tg1,frg,rfl,Lq,rE⟩:=(Ll.mono jT).get (by rw[eQ];omega);have anp:=nr qB.1;obtain⟨bl,ol,csl,tl,frl,rfl,jl,wz,ql⟩:=aJ.get aa;refine B 3 ?_;refine rv rfl rfl rfl (Zz (v:=ab d.at_) isAgg3 rfl hba (by have:=nK (enc:=λx=>(aA x).toArray) (n:=1) K5 hax rfl zA;simpa[aA]using this)) ?_;refine B 7 ?_;refine ay (.slice (some ⟨bl,ol,none⟩) cs.length lc) ?_;refine rq (ab ((kC d:Nat):Int)) (sR rfl) ((congrArg ab hdi)) ?_;refine B 1 ?_;refine rq (.agg (cG d.c)) (dT isAgg61 sizeOf61 rfl A1 wz zJ zz (dH ql qB.1 rfl)) (va (eU ql qB.1 rfl)) ?_;refine B 1 ?_;refine yW ?_;intro b9 xh tw;refine B 6 ?_;intro gB lY p6;replace lY:=yb lY;refine B 7 ?_;refine nv (α:=Int) (v:=λi:Int=>ab i) (Φ:=λ_ i _=>fb (λy=>mw y.g.last d.c.par) (ds.map λd=>d.x) i) call55 rfl rfl rfl (λW hS=>?_) ?_
   ·have yY:=hS.own (b9,_) A1;have h9:=nEl (λy=>mw y.g.last d.c.par) 56 [ptr b9 0] call56 (ds.map λd=>d.x) (by rw[eQ];omega) W.heap.size (some ⟨bg,og,none⟩) c3 W (ak _) ((Ll.mono jT).at hS.fzLies) (λj x hx W2 hB=>FM d.c b9 x W2 (by rw[hB.block b9 (aT.1 yY).1];exact yY));rw[eQ]at h9;exact h9
   intro Wi ix wi Ev Ew CM;refine B 8 ?_;refine ni (t:=43) rfl (λdp=>?_) (λdp=>?_)
   ·replace dp:=ya dp;refine B 5 ?_;refine aG ?_ ?_
    ·intro jh;obtain⟨n,xb,rfl,hxb,hfb⟩:=(Vr CM).resolve_left (λh=>by have:=h.1;omega);have Of:0<j:=by omega
     have vZ:=nr hxb;rw[eQ]at vZ;refine B 4 ?_;refine rq (.agg (bD xb)) (rC isAgg53 sizeOf53 rfl (Lq) (dH rE hxb rfl)) (va (eU rE hxb rfl)) ?_;refine B 3 ?_;have Vs:B0 ((ds.map sj).map (·.2)) j d.c=xb.g.ns:=by unfold B0;rw[if_pos Of,ZB,n7h,hfb];rfl
     obtain⟨db,hdb,ZC⟩:=bW.1 (cO hxb);have Og:sg F xb:=by rw[<-ZC];exact(hv.d db hdb).2.2.mono (λp hp=>jT p hp)
     have hnn:=Og.nn;refine eS 15 8 [13,14] (pb:=by exact zU 3 (k:=by exact aU (X.v (RV.re (v':=.bool (decide (j=0))) (iV rfl rfl) ((vb (decide_eq_decide.2 aa))))) (zU 8 (k:=by exact aU (X.v (RV.re (v':=.agg (bD d.x)) (rC isAgg53 sizeOf53 rfl (Lq) (dH rE Lp rfl)) (va (eU rE Lp rfl)))) zT)))) (sp:=[_,some (.agg (cG d.c)),_,_,_,some (.agg #[.slice xb.na xb.g.ns.length xb.nc]),_,some (.slice d.c.ca d.c.chs.length d.c.cc),_,_,_,_,some (.agg (bD d.x)),_,_]) (h:=?_);intro _ _ hk;refine nv (α:=Option Addr×Nat) (v:=λq=>.agg #[.slice q.1 (aW xb.g.ns d.c.chs).length q.2]) (Φ:=λW q w1=>ai gb 2 w1.heap.size w1 q.1 (aW xb.g.ns d.c.chs)/\((d.c.chs=[]/\q=(xb.na,xb.nc))\/∀b off,q.1=some ⟨b,off,none⟩->W.heap.size<=b)) call57 rfl rfl rfl (λW hS=>ngg xb.g.ns aa d.c.chs xz.2 xz.1 W.heap.size xb.na xb.nc d.c.ca d.c.cc W (ak _) (Og.lies hS.fzLies).ns ((hC d.c ZA).chs.up cM (hS.same A2 hN zH zF))) ?_;rintro W9 ⟨q1,q2⟩ w8 cj xw ⟨xu,vr⟩;dsimp only at xu vr;have oH:w.heap.size<=(W9.heap.size):=(cj.links w A2).size;have hK2:(∀p∈(([(gB,oC (bD xb) 53),(b9,oC (cG d.c) 61),(b4,oC (sT fo) 97)]:ad)++(r.hp zl 92 pls++[]):ad),p.1<(W9.heap.size)):=λp hp=>cj.lt p hp;refine zG ?_;intro _ _ hk;refine ay (.agg (kD (⟨d.c,decide (j=0),aW xb.g.ns d.c.chs,q1,q2,d.x⟩:Pl))) ?_
     refine zG ?_;intro _ _ hk;refine zle ?_;intro Vt wI hJ;refine zE ?_;replace wI:=yb wI;obtain⟨FT,RN,ZD⟩:∃FT:ad,(∀p∈FT,(W9.heap.size)<=p.1/\p.1<w8.heap.size/\w8.heap[p.1]? =some p.2)/\lC gb 2 (FT++F) q1 (aW xb.g.ns d.c.chs):=by
      rcases vr with⟨h1,h2⟩|h2
      ·exact zLg
      by_cases h0:aW xb.g.ns d.c.chs=[]
      ·exact⟨[],by simp,.inl h0⟩
      exact z3f
     refine OJ.fzB (L':=[w1,w]) FT (λW hS p hp=>?_) zI ?_
     ·have h1:=RN p hp;have hn:p.1∉List.map (·.1) ([(Vt,oC (kD (⟨d.c,decide (j=0),aW xb.g.ns d.c.chs,q1,q2,d.x⟩:Pl)) 92),(gB,oC (bD xb) 53),(b9,oC (cG d.c) 61),(b4,oC (sT fo) 97)]++(r.hp zl 92 pls++[]):ad):=by
       intro hm;obtain⟨p9,hp9,e9⟩:=bW.1 hm;rcases bX.1 hp9 with h2|h2
       ·rw[h2]at e9;dsimp only at e9;omega
       have:=hK2 p9 h2;omega
      exact⟨((hS.links w8 A0).block p.1 h1.2.1 (λhx=>hx.elim zJ (λh=>hn h))).trans h1.2.2,hn⟩
     refine kg (r:=r) (xs:=pls) (zs:=[(⟨d.c,decide (j=0),aW xb.g.ns d.c.chs,q1,q2,d.x⟩:Pl)]) (enc:=zl) (m:=111) (H0:=[(Vt,oC (kD (⟨d.c,decide (j=0),aW xb.g.ns d.c.chs,q1,q2,d.x⟩:Pl)) 92),(gB,oC (bD xb) 53),(b9,oC (cG d.c) 61),(b4,oC (sT fo) 97)]) (H1:=[]) zW nYl Zy rfl rfl rfl rfl (cd.one (z:=(⟨d.c,decide (j=0),aW xb.g.ns d.c.chs,q1,q2,d.x⟩:Pl)) Zy njj underlying89 (bB.own (i:=0) rfl)) ah aK zI Au ?_;intro ZE FN FO rF rG;replace rF:=yb rF;refine Cy ?_;refine p5 ?_;refine PJ.again (((Rw.row ZE FN FO,pls++[(⟨d.c,decide (j=0),aW xb.g.ns d.c.chs,q1,q2,d.x⟩:Pl)]),FT++F),j+1) ⟨⟨by dsimp only;omega,λq hq=>bj.2 (.inr (jT q hq))⟩,rF.elim (λh=>Rw.Fr_at aK h) (λh=>.inr zC),rG,by dsimp only;rw[nEg (q:=sj d) (by rw[sC,hd];rfl),gz,aQ,iY];congr 2;unfold FK;rw[show lQ cs (sj d).1=d.c by show lQ cs (kC d)=d.c;unfold lQ;rw[qB.1];rfl,Vs];rfl,
      λp hp=>(bj.1 hp).elim (λh=>⟨(jB p h).1.mono (λq hq=>bj.2 (.inr hq)),(jB p h).2⟩) (λh=>by rw[ka.1 h];exact⟨⟨ZD,by have:=QF d.c.chs xb.g.ns;dsimp only;omega,qB.2.2.mono (λq hq=>bj.2 (.inr (jT q hq)))⟩,ZA⟩),by dsimp only;rw[cy];simp only[dF,fh];omega,λq hq=>(bj.1 hq).elim (λh=>by have:=(RN q h).1;omega) (dV q)⟩ zS zR rfl rfl zI
    intro jh;refine B 2 ?_;have Vs:B0 ((ds.map sj).map (·.2)) j d.c=gI.g.ns:=by
     exact zAg
    have Og:sg F gI:=⟨.inl rfl,.inl rfl,by simp[gI,vw],by simp[gI,vw]⟩;have hnn:=Og.nn;refine eS 15 8 [13,14] (pb:=by exact zU 3 (k:=by exact aU (X.v (RV.re (v':=.bool (decide (j=0))) (iV rfl rfl) ((vb (decide_eq_decide.2 aa))))) (zU 8 (k:=by exact aU (X.v (RV.re (v':=.agg (bD d.x)) (rC isAgg53 sizeOf53 rfl (Lq) (dH rE Lp rfl)) (va (eU rE Lp rfl)))) zT)))) (sp:=[_,some (.agg (cG d.c)),_,_,_,some (.agg #[.slice gI.na gI.g.ns.length gI.nc]),_,some (.slice d.c.ca d.c.chs.length d.c.cc),_,_,_,_,some (.agg (bD d.x)),_,_]) (h:=?_);intro _ _ hk;refine z9c ?_;rintro W9 ⟨q1,q2⟩ w8 cj xw ⟨xu,vr⟩;dsimp only at xu vr;have oH:w.heap.size<=(W9.heap.size):=(cj.links w A2).size;have hK2:(∀p∈(([(gB,oC (bD gI) 53),(b9,oC (cG d.c) 61),(b4,oC (sT fo) 97)]:ad)++(r.hp zl 92 pls++[]):ad),p.1<(W9.heap.size)):=λp hp=>cj.lt p hp;refine zG ?_;intro _ _ hk;refine zLe ?_;intro _ _ hk;refine zle ?_;intro Vt wI hJ;refine zE ?_;replace wI:=yb wI;obtain⟨FT,RN,ZD⟩:∃FT:ad,(∀p∈FT,(W9.heap.size)<=p.1/\p.1<w8.heap.size/\w8.heap[p.1]? =some p.2)/\lC gb 2 (FT++F) q1 (aW gI.g.ns d.c.chs):=by
     exact z2h
    refine OJ.fzB (L':=[w1,w]) FT (λW hS p hp=>?_) zI ?_
    ·exact zcg
    refine zad ?_;intro ZE FN FO rF rG;replace rF:=yb rF;refine Cy ?_;refine p5 ?_;refine PJ.again (((Rw.row ZE FN FO,pls++[(⟨d.c,decide (j=0),aW gI.g.ns d.c.chs,q1,q2,d.x⟩:Pl)]),FT++F),j+1) ⟨⟨by dsimp only;omega,λq hq=>bj.2 (.inr (jT q hq))⟩,rF.elim (λh=>Rw.Fr_at aK h) (λh=>.inr zC),rG,by dsimp only;rw[nEg (q:=sj d) (by rw[sC,hd];rfl),gz,aQ,iY];congr 2;unfold FK;rw[show lQ cs (sj d).1=d.c by show lQ cs (kC d)=d.c;unfold lQ;rw[qB.1];rfl,Vs];rfl,
     λp hp=>(bj.1 hp).elim (λh=>⟨(jB p h).1.mono (λq hq=>bj.2 (.inr hq)),(jB p h).2⟩) (λh=>by rw[ka.1 h];exact⟨⟨ZD,by have:=QF d.c.chs gI.g.ns;dsimp only;omega,qB.2.2.mono (λq hq=>bj.2 (.inr (jT q hq)))⟩,ZA⟩),by dsimp only;rw[cy];simp only[dF,fh];omega,λq hq=>(bj.1 hq).elim (λh=>by have:=(RN q h).1;omega) (dV q)⟩ zS zR rfl rfl zI
   replace dp:=ya dp;refine B 8 ?_;have Vs:B0 ((ds.map sj).map (·.2)) j d.c=gI.g.ns:=by
    exact zAg
   have Og:sg F gI:=⟨.inl rfl,.inl rfl,by simp[gI,vw],by simp[gI,vw]⟩;have hnn:=Og.nn;refine eS 15 8 [13,14] (pb:=by exact zU 3 (k:=by exact aU (X.v (RV.re (v':=.bool (decide (j=0))) (iV rfl rfl) ((vb (decide_eq_decide.2 aa))))) (zU 8 (k:=by exact aU (X.v (RV.re (v':=.agg (bD d.x)) (rC isAgg53 sizeOf53 rfl (Lq) (dH rE Lp rfl)) (va (eU rE Lp rfl)))) zT)))) (sp:=[_,some (.agg (cG d.c)),_,_,_,some (.agg #[.slice gI.na gI.g.ns.length gI.nc]),_,some (.slice d.c.ca d.c.chs.length d.c.cc),_,_,_,_,some (.agg (bD d.x)),_,_]) (h:=?_);intro _ _ hk;refine z9c ?_;rintro W9 ⟨q1,q2⟩ w8 cj xw ⟨xu,vr⟩;dsimp only at xu vr;have oH:w.heap.size<=(W9.heap.size):=(cj.links w A2).size;have hK2:(∀p∈(([(gB,oC (bD gI) 53),(b9,oC (cG d.c) 61),(b4,oC (sT fo) 97)]:ad)++(r.hp zl 92 pls++[]):ad),p.1<(W9.heap.size)):=λp hp=>cj.lt p hp;refine zG ?_;intro _ _ hk;refine zLe ?_;intro _ _ hk;refine zle ?_;intro Vt wI hJ;refine zE ?_;replace wI:=yb wI;obtain⟨FT,RN,ZD⟩:∃FT:ad,(∀p∈FT,(W9.heap.size)<=p.1/\p.1<w8.heap.size/\w8.heap[p.1]? =some p.2)/\lC gb 2 (FT++F) q1 (aW gI.g.ns d.c.chs):=by
    exact z2h
   refine OJ.fzB (L':=[w1,w]) FT (λW hS p hp=>?_) zI ?_
   ·exact zcg
   refine zad ?_;intro ZE FN FO rF rG;replace rF:=yb rF;refine Cy ?_;refine p5 ?_;refine PJ.again (((Rw.row ZE FN FO,pls++[(⟨d.c,decide (j=0),aW gI.g.ns d.c.chs,q1,q2,d.x⟩:Pl)]),FT++F),j+1) ⟨⟨by dsimp only;omega,λq hq=>bj.2 (.inr (jT q hq))⟩,rF.elim (λh=>Rw.Fr_at aK h) (λh=>.inr zC),rG,by dsimp only;rw[nEg (q:=sj d) (by rw[sC,hd];rfl),gz,aQ,iY];congr 2;unfold FK;rw[show lQ cs (sj d).1=d.c by show lQ cs (kC d)=d.c;unfold lQ;rw[qB.1];rfl,Vs];rfl,
    λp hp=>(bj.1 hp).elim (λh=>⟨(jB p h).1.mono (λq hq=>bj.2 (.inr hq)),(jB p h).2⟩) (λh=>by rw[ka.1 h];exact⟨⟨ZD,by have:=QF d.c.chs gI.g.ns;dsimp only;omega,qB.2.2.mono (λq hq=>bj.2 (.inr (jT q hq)))⟩,ZA⟩),by dsimp only;rw[cy];simp only[dF,fh];omega,λq hq=>(bj.1 hq).elim (λh=>by have:=(RN q h).1;omega) (dV q)⟩ zS zR rfl rfl zI
  intro aN;refine B 10 ?_;refine p5 ?_;refine ag (((r,pls),F),i+1) ⟨by dsimp only;omega,aK,ah,by dsimp only;rw[nep uJ,aQ];congr 1;unfold zm;rw[<-hv.eq,eQ,show ds.length=j by omega],jB,by dsimp only;omega,dV⟩
 intro ar;refine B 12 ?_;have hi9:i=fos.length:=by omega
 rw[hi9,vS]at aQ;refine bK (.inl rfl) results30 aX λW hS=>?_;have Ff:r.At zl 92 pls W:=by
  cases r with
  |nil=>trivial
  |row b cap sp=>exact hS.own (b,_) oW
 obtain⟨a1,c1,uq,xD⟩:=Rw.sl Zy ah Ff (ak W.heap.size);obtain⟨F1,ze,xD⟩:=xD.fs (K:=w.heap.size) (Rw.val_new (Rw.ge_mono bG aa) uq);refine⟨((a1,c1),pls),F1++F,?_,?_,λp hp=>?_,aQ,λp hp=>⟨(jB p hp).1.mono (λq hq=>bj.2 (.inr hq)),(jB p hp).2⟩,by dsimp only;omega,xD.mono (λp hp=>bj.2 (.inl hp))⟩
 ·show Ending.returned (r.val pls.length)=_;rw[uq]
 ·exact(hS.links w A1).below (λk hk hx=>by rcases hx with hx|hx;(exact hx);simp only[eb]at hx;have:=Rw.mem_ge bG hx;omega)
 rcases bj.1 hp with hp|hp
 ·exact ze p hp
 exact⟨dV p hp,(hS.fzLies p hp).2⟩
structure Dv where
 fr:List Se
 to:Se
 fa:Option Addr
 fc:Nat
def uX (d:Dv):Array Value:=(.slice d.fa d.fr.length d.fc::ab d.to.kind::ab d.to.pub::lU (fX d.to.com) [ab d.to.lev]).toArray
def hQ (d:Dv):List Value:=(.slice d.fa d.fr.length d.fc::ab d.to.kind::ab d.to.pub::lU (fX d.to.com) [ab d.to.lev])
theorem FP(d:Dv):(hQ d).length=36:=rfl
theorem n8g(d:Dv):∀u∈hQ d,u.oneCell'=true:=N1 rfl
theorem Lr:prog.info? 142=some Tryz.t142:=by kernel_rfl
theorem nll:jH prog 138 142 36:=⟨underlying138,Tryz.t142,.agg (aj::ab 0::ab 0::tz [ab 0]).toArray,Lr,rfl,rfl,rfl,by decide⟩
def gP (d:Dv):List Se×Se:=(d.fr,d.to)
structure ft (Z:aE) (K N:Nat) (w:World) (d:Dv):Prop where
 ne:d.fr≠ []
 sl:ai dh 35 N w d.fa d.fr
 out:∀q,d.fa=some q->¬Z q.block/\K<=q.block
theorem ft.up{Z Z':aE}{K N:Nat}{d:Dv}(h:ft Z K N w d)(hz:N<=W.heap.size)(hs:∀b off,d.fa=some ⟨b,off,none⟩->K<=b->b<N->¬Z b->W.heap[b]? =w.heap[b]?)(hZ:∀b,K<=b->b<N->Z' b->Z b):ft Z' K W.heap.size W d:=by
 rcases h.sl with h1|⟨b,off,cs,t,fr,e1,e2,e3,e4⟩
 ·exact absurd h1 h.ne
 have h2:=h.out _ e1;refine⟨h.ne,.inr ⟨b,off,cs,t,fr,e1,by omega,(hs b off e1 h2.2 e2 h2.1).trans e3,e4⟩,λq hq=>?_⟩;rw[e1]at hq;cases hq;exact⟨λhz'=>h2.1 (hZ b h2.2 e2 hz'),h2.2⟩
theorem ft.low{Z:aE}{K K' N:Nat}{d:Dv}(h:ft Z K N w d)(hK:K'<=K):ft Z K' N w d:=⟨h.ne,h.sl,λq hq=>⟨(h.out q hq).1,dR hK (h.out q hq).2⟩⟩
theorem ft.one{Z:aE}{K:Nat}{s to:Se}{b c:Nat}(hb:w.heap[b]? =some (.cells (dh s) t fr))(hz:¬Z b)(hK:K<=b):ft Z K w.heap.size w ⟨[s],to,some ⟨b,0,none⟩,c⟩:=by
 refine⟨by simp,.inr ⟨b,0,_,_,_,rfl,(aT.1 hb).1,hb,λi hi=>?_⟩,λq hq=>by cases hq;exact⟨hz,hK⟩⟩;have h0:i=0:=by simp only[dF,fh]at hi;omega
 subst h0;exact⟨ak _,rfl⟩
noncomputable def FQ (p:Ap) (b:Bx):List (List Se×Se):=match ei p.2.2.1 b.node with|some y=>[([aS y],np (dk p.2.2.2.last) b.level)]|none=>[]
def Ls (p:Ap) (k:Nat) (y:Int):List (List Se×Se):=([np (dk p.2.2.2.last) (k:Int)],aS y)::if k<9 then[([np (dk p.2.2.2.last) (k:Int)],np (dk p.2.2.2.last) ((k+1:Nat):Int))]else[]
def lG (p:Ap):Nat->List (List Se×Se)
 |0=>[]
 |j+1=>match p.1.path[j]? with|none=>lG p j|some y=>lG p j++Ls p j y
def Oh (p:Ap):List Se:=np (dk p.2.2.2.last) 9::if p.2.1=true then[]else[bE (dk p.1.par)]
def vA (d:Int):Int:=if ee d then 512+d else 0
noncomputable def Lt (p:Ap) (x:We):List (List Se×Se):=match ei p.2.2.1 (vA x.dev)with|some y=>[([aS y],bE (dk p.2.2.2.last))]|none=>[]
noncomputable def lH (p:Ap):List (List Se×Se):=p.1.bxs.flatMap (FQ p)++lG p p.1.path.length++[(Oh p,bE (dk p.2.2.2.last))]++p.1.wes.flatMap (Lt p)
theorem Vu:∀{l:Nat} {W0:World} {MI RO M:aE} {hM:∀k,M k->k<W0.heap.size/\¬MI k/\¬RO k} {V:aE} {I:World->Prop} {hI:fp (λk=>(k<W0.heap.size/\¬MI k)\/V k) I} {I1 X1:aE->World->Prop} (kX:∀V,fp (λk=>(k<W0.heap.size/\¬MI k)\/V k) (I1 V)) (fT:∀V,fp (λk=>(k<W0.heap.size/\¬MI k)\/V k) (X1 V)) (hV:∀k,V k->W0.heap.size<=k) (x:Dv) (b2:Nat) (W:World) (Lu:St (dt hM V hI) [W] [] W) (di:W.heap[b2]? =some (oC #[yv l] 145)) (ZF:¬(M b2\/V b2)) (hy:∀W1,aH (λk=>M k\/V k) W W1->(∀k,V k->W0.heap.size<=k/\k<W1.heap.size)->I W1->Oi prog l #[.agg (uX x)] W1 (λb W2=>aH (λk=>M k\/V k) W1 W2/\(if b then I1 (qF V W1 W2) W2 else X1 (qF V W1 W2) W2))),Calls prog 167 #[dq x.to,.slice x.fa x.fr.length x.fc,ptr b2 0] W (YR M V I1 X1 W):=by
 intro l W0 MI RO M hM V I hI I1 X1 kX fT hV x b2 W Lu di ZF hy;have DA:=(aT.1 di).1;have bV:¬(dt hM V hI).X b2:=ZF;have cB:=di;refine nB (dt hM V hI) [] (vs:=[_,_,_]) func167 rfl ntmps167 rfl Lu ?_;refine B 2 ?_;refine yX ?_;intro b3 w3 cZ cu fC ez eP;refine B 7 ?_;refine ay (dq x.to) ?_;refine ay (.agg (uX x)) ?_;refine ZG (λ_=>False) id Yg (V:=V) kX fT hV rfl rfl rfl rfl (λW1 lR hw1 pY=>hy W1 ((lR.links W A1).mono (λk _ hx=>hx.elim id (λh=>by simp at h))) hw1 pY) ?_ ?_
 ·intro V2 lh vY;refine B 4 ?_;exact bK (.inl rfl) results167 aX λW2 hS=>⟨true,V2,rfl,lh,λk hk=>(vY W A1 k hk).imp id (λh=>⟨h,hS.xlt k (.inr hk)⟩),(hS.links W A1).mono (λk hk hx=>by rcases hx with(hx|hx)|hx;(exact .inl hx);(rcases vY W A1 k hx with h|h;(exact .inr h);omega);simp at hx),hS.ghost⟩
 intro V2 lh vY;refine B 4 ?_;exact bK (.inl rfl) results167 aX λW2 hS=>⟨false,V2,rfl,lh,λk hk=>(vY W A1 k hk).imp id (λh=>⟨h,hS.xlt k (.inr hk)⟩),(hS.links W A1).mono (λk hk hx=>by rcases hx with(hx|hx)|hx;(exact .inl hx);(rcases vY W A1 k hx with h|h;(exact .inr h);omega);simp at hx),hS.ghost⟩
def RP (bp:Nat) (p:Pl):aE:=λk=>k=bp\/(p.ns≠ []/\∃off,p.ta=some ⟨k,off,none⟩)\/(p.c.bxs≠ []/\∃off,p.c.ba=some ⟨k,off,none⟩)\/(p.c.path≠ []/\∃off,p.c.pa=some ⟨k,off,none⟩)\/(p.c.wes≠ []/\∃off,p.c.wa=some ⟨k,off,none⟩)
abbrev FR:List Dv->aE->World->Prop:=λl Z w=>l.length<=200/\∀d∈l,ft Z 0 w.heap.size w d
abbrev FU (K:Nat) (a:Ap):List Dv->aE->World->Prop:=λl Z w=>(l.map gP=lH a/\l.length<=200)/\∀d∈l,ft Z K w.heap.size w d
variable {a:Ap}
theorem Lv{b:Bx}(h:(ei a.2.2.1 b.node).isSome=true):FQ a b=[([aS ((ei a.2.2.1 b.node).getD 0)],np (dk a.2.2.2.last) b.level)]:=by grind [FQ]
theorem RQ{b:Bx}(h:(ei a.2.2.1 b.node).isSome=false):FQ a b=[]:=by grind [FQ,ei]
theorem nMn{x:We}(h:(ei a.2.2.1 (vA x.dev)).isSome=true):Lt a x=[([aS ((ei a.2.2.1 (vA x.dev)).getD 0)],bE (dk a.2.2.2.last))]:=by grind [Lt]
theorem RR{x:We}(h:(ei a.2.2.1 (vA x.dev)).isSome=false):Lt a x=[]:=by grind [Lt,ei,vA]
theorem CN{α β:Type}{f:α->List β}{xs:List α}{j:Nat}{x:α}(hx:xs[j]? =some x):(xs.take (j+1)).flatMap f=(xs.take j).flatMap f++f x:=by rw[nq hx];simp
theorem nmk{j:Nat}{y:Int}(h:a.1.path[j]? =some y):lG a (j+1)=lG a j++Ls a j y:=by conv=>lhs;unfold lG;rw[h]
def FV (d:Int):Int:=if ee d then 0 else 200
theorem nok(d:Int)(w:World):Calls prog 37 #[ab d] w (aL w (.tuple #[ab (vA d),ab (FV d)])):=by
 by_cases h:ee d
 ·unfold vA FV;rw[if_pos h,if_pos h];exact nHi d h w
 unfold vA FV;rw[if_neg h,if_neg h];exact nYk d h w
theorem ft.row{Z:aE}{K:Nat}{to:Se}{b cp:Nat}{xs:List Se}{sp:List Value}(hb:w.heap[b]? =some (aP dM t xs sp))(hf:(Rw.row b cp sp).Fit 35 xs)(h0:xs≠ [])(hz:¬Z b)(hK:K<=b):ft Z K w.heap.size w ⟨xs,to,some ⟨b,0,none⟩,cp⟩:=by
 obtain⟨a9,c9,e9,h9⟩:=(Rw.row b cp sp).sl (enc:=dM) (t:=t) (N:=w.heap.size) (w:=w) nu hf hb (ak _);simp only[Rw.val,Value.slice.injEq]at e9;rw[<-e9.1]at h9;exact⟨h0,h9,λq hq=>by cases hq;exact⟨hz,hK⟩⟩
theorem Lw(p:Pl)(b1 N:Nat)(W:World)(hN:N<=W.heap.size)(hb1:W.heap[b1]? =some (oC (kD p) 92))(RG:ai gb 2 N W p.ta p.ns)(hnn:p.ns.length<=90000)(xE:ai yQ 4 N W p.c.ba p.c.bxs)(hpt:ai encI 1 N W p.c.pa p.c.path)(hwe:ai v7 3 N W p.c.wa p.c.wes)(rf:ra p.c):rH prog 166 [ptr b1 0] (λd:Dv=>[.agg (uX d)]) FR (FU W.heap.size (bC p)) (λ_=>False) (RP b1 p) W:=by
 intro l M I X0 hM hI hX hy h0;have mr:=(aT.1 hb1).1;have B1:∀(V:aE) (k:Nat),(∀k,V k->W.heap.size<=k)->RP b1 p k->k<W.heap.size->¬(M k\/V k):=λV k hV h hk hx=>hx.elim (λhx=>(hM _ hx).2.2 h) (λhx=>by have:=hV k hx;omega);have cF:¬(dt hM (λ_=>False) (hI [] _)).X b1:=B1 (λ_=>False) b1 (λ_ h=>h.elim) (.inl rfl) mr;have jl:=rf.bxs;have anr:=rf.path;have ans:=rf.wes;refine nB (dt hM (λ_=>False) (hI [] _)) [] (vs:=[_,_]) func166 rfl ntmps166 rfl (Na hM (hI [] _) h0 zI (by simp[lq]) zI) ?_;refine NA ?_;refine yW ?_;intro b2 dB dx;refine B 6 ?_;refine Vv ?_;refine B 1 ?_;refine yW ?_;intro b3 ez eP;refine B 14 ?_;refine ay (.slice p.c.ba p.c.bxs.length p.c.bc) ?_;refine B 5 ?_;refine CJ.resnap0 (L':=[W]) zI (λw0 RT=>?_);have ail:=RT.lt (b2,_) A1;have aim:=RT.lt (b3,_) A0;dsimp only at ail aim;have hw0:=(RT.links W A0).size;refine CJ.loop (α:=(List Dv×aE)×World×Nat) (λp9=>[(1,ptr b1 0),(3,ptr b3 0),(4,.func (.func 167) #[] #[ptr b2 0]),(24,.slice p.c.ba p.c.bxs.length p.c.bc),(25,ab (p.c.bxs.length:Int)),(26,ab (p9.2.2:Int))]) (λp9=>[(b3,oC (dg p.x.g.last) 33),(b2,oC #[yv l] 145)]) (λp9=>[p9.2.1,W]) (λp9=>dt hM p9.1.2 (hI p9.1.1 p9.1.2)) (λp9=>p9.2.2<=p.c.bxs.length/\(∀k,p9.1.2 k->W.heap.size<=k)/\w0.heap.size<=p9.2.1.heap.size/\p9.1.1.map gP=((bC p).1.bxs.take p9.2.2).flatMap (FQ (bC p))/\p9.1.1.length<=p9.2.2/\∀d∈p9.1.1,ft (λk=>M k\/p9.1.2 k) w0.heap.size p9.2.1.heap.size p9.2.1 d) (λp9=>p.c.bxs.length-p9.2.2) (([],λ_=>False),w0,0) ⟨cR _,λ_ h=>h.elim,ak _,rfl,ak _,by simp⟩ zR rfl rfl zI ?_
 rintro⟨⟨pre,V⟩,wk,j⟩ ⟨hj,hV,sJ,aQ,iH,dS⟩;dsimp only at hj hV sJ aQ iH dS ⊢;have cF:¬(dt hM V (hI pre V)).X b1:=B1 V b1 hV (.inl rfl) mr;refine B 6 ?_;refine aG ?_ ?_
 ·intro ar;refine B 5 ?_;obtain⟨bo,oo,cs0,to_,fV,im,fP,cJ,aV⟩:=xE.get aa;obtain⟨x,hx⟩:=ng p.c.bxs j aa;rw[im];have AJ:¬(dt hM V (hI pre V)).X bo:=B1 V bo hV (.inr (.inr (.inl ⟨λh=>by rw[h]at hx;simp at hx,oo,im⟩))) aa;refine B 2 ?_;refine rq (.agg (yQ x)) (dT isAgg110 sizeOf110 rfl A1 cJ AJ z1 (dH aV hx rfl)) (va (eU aV hx rfl)) ?_;refine B 1 ?_;refine yW ?_;intro b6 jO qy;refine B 6 ?_;refine ay (.agg #[.slice p.ta p.ns.length p.tc]) ?_;refine B 1 ?_;refine ay (ab x.node) ?_;refine call (v:=.tuple #[ab ((ei p.ns x.node).getD 0),.bool (ei p.ns x.node).isSome]) call36 rfl rfl rfl (λW9 hS=>nPc p.ns aa W9.heap.size p.ta p.tc W9 (ak _) (RG.toG hS A1 hN (λb off e=>by by_cases h0:p.ns=[];(exact .inl h0);exact .inr (λhb=>⟨B1 V b hV (.inr (.inl ⟨h0,off,e⟩)) aa,z1⟩))) x.node) ?_;refine B 11 ?_;refine ni (t:=39) rfl (λaN=>?_) (λaN=>?_)
  ·replace aN:=ya aN;refine B 1 ?_;refine Vv ?_;refine B 1 ?_;refine ay (ab x.level) ?_;refine zde ?_;refine B 1 ?_;refine zje ?_;refine RU ?_;refine yV ?_;intro IM RW ZH RX ant anu anv;refine RY (f:=167) (first:=[]) (cap:=[ptr b2 0]) (V:=V) (λV=>hI (pre++[(⟨[aS ((ei p.ns x.node).getD 0)],np (dk p.x.g.last) x.level,some ⟨IM,0,none⟩,1⟩:Dv)]) V) hX rfl call167 rfl rfl rfl (λW9 cj=>?_) ?_ ?_
   ·refine Vu (λV=>hI (pre++[(⟨[aS ((ei p.ns x.node).getD 0)],np (dk p.x.g.last) x.level,some ⟨IM,0,none⟩,1⟩:Dv)]) V) hX hV (⟨[aS ((ei p.ns x.node).getD 0)],np (dk p.x.g.last) x.level,some ⟨IM,0,none⟩,1⟩:Dv) b2 W9 cj.alone (cj.own (b2,_) A2) (λh=>h.elim (λh=>by have:=(hM _ h).1;omega) (λh=>cj.apart (b2,_) A2 (.inr h))) (λW1 oH hv1 pY=>hy pre (⟨[aS ((ei p.ns x.node).getD 0)],np (dk p.x.g.last) x.level,some ⟨IM,0,none⟩,1⟩:Dv) V W1 ⟨by simp only[cy,dF,fh];omega,λd hd=>?_⟩ hv1 pY);rcases bj.1 hd with hd|hd
    ·exact zVf
    rw[ka.1 hd];exact ft.low (ft.up (ft.one ZH RX (K:=w0.heap.size) aa) (dR (cj.links RW A0).size oH.size) (λb off e_ jv cB cW=>(oH.block b (by have:=(cj.links RW A0).size;omega) cW).trans ((cj.links RW A0).block b cB (λhx=>hx.elim cW (λhx=>by cases e_;first|(simp only[dm,dX,dy,eV,bX,dE,or_false]at hx;omega)|(simp at hx;omega)|(simp at hx))))) (λb _ _ h=>h)) (cR _)
   ·intro V2 sX dw;have lh:∀k,V2 k->W.heap.size<=k:=λk hk=>(dw W A2 k hk).elim (hV k) id;have mq:∀k,k<wk.heap.size->(M k\/V2 k)->(M k\/V k):=λk hk h=>(h.imp id λh=>(dw wk A1 k h).resolve_right aa);have FX:¬(M IM\/V2 IM):=λh=>RX (h.imp id λh=>(dw RW A0 _ h).resolve_right aa);refine B 12 ?_;refine PJ.resnap (L':=[wk,W]) (i:=0) rfl zC zI (λW9 cj=>?_);have ck:∀d∈(pre++[(⟨[aS ((ei p.ns x.node).getD 0)],np (dk p.x.g.last) x.level,some ⟨IM,0,none⟩,1⟩:Dv)]),ft (λk=>M k\/V2 k) w0.heap.size W9.heap.size W9 d:=by
     intro d hd;rcases bj.1 hd with hd|hd
     ·exact zXf
     rw[ka.1 hd];exact ft.up (ft.one ZH FX (K:=w0.heap.size) aa) (cj.links RW A0).size (λb off e_ jv cB cW=>(cj.links RW A0).block b cB (λhx=>hx.elim cW (λhx=>by cases e_;first|(simp only[dm,dX,dy,eV,bX,dE,or_false]at hx;omega)|(simp at hx;omega)|(simp at hx)))) (λb _ _ h=>h)
    refine ag ((pre++[(⟨[aS ((ei p.ns x.node).getD 0)],np (dk p.x.g.last) x.level,some ⟨IM,0,none⟩,1⟩:Dv)],V2),W9,j+1) ⟨by dsimp only;omega,lh,dR sJ (cj.links wk A1).size,by dsimp only;rw[CN (xs:=(bC p).1.bxs) hx,gz,aQ,Lv eE];rfl,by dsimp only;simp only[cy,dF,fh];omega,ck⟩
   intro V2 sX dw;have lh:∀k,V2 k->W.heap.size<=k:=λk hk=>(dw W A2 k hk).elim (hV k) id;have mq:∀k,k<wk.heap.size->(M k\/V2 k)->(M k\/V k):=λk hk h=>(h.imp id λh=>(dw wk A1 k h).resolve_right aa);have FX:¬(M IM\/V2 IM):=λh=>RX (h.imp id λh=>(dw RW A0 _ h).resolve_right aa);refine B 11 ?_;exact zpg
  replace aN:=ya aN;refine B 21 ?_;refine p5 ?_;refine ag ((pre,V),wk,j+1) ⟨by dsimp only;omega,hV,sJ,by dsimp only;rw[CN (xs:=(bC p).1.bxs) hx,aQ,RQ eE];exact(eb _).symm,by dsimp only;omega,dS⟩
 intro ar;refine B 10 ?_;refine ay (.slice p.c.pa p.c.path.length p.c.pc) ?_;refine B 5 ?_;have Of:j=p.c.bxs.length:=by omega
 rw[Of]at aQ;refine CJ.loop (α:=(List Dv×aE)×World×Nat) (λp9=>[(1,ptr b1 0),(3,ptr b3 0),(4,.func (.func 167) #[] #[ptr b2 0]),(54,.slice p.c.pa p.c.path.length p.c.pc),(55,ab (p.c.path.length:Int)),(56,ab (p9.2.2:Int))]) (λp9=>[(b3,oC (dg p.x.g.last) 33),(b2,oC #[yv l] 145)]) (λp9=>[p9.2.1,W]) (λp9=>dt hM p9.1.2 (hI p9.1.1 p9.1.2)) (λp9=>p9.2.2<=p.c.path.length/\(∀k,p9.1.2 k->W.heap.size<=k)/\w0.heap.size<=p9.2.1.heap.size/\p9.1.1.map gP=(bC p).1.bxs.flatMap (FQ (bC p))++lG (bC p) p9.2.2/\p9.1.1.length<=p.c.bxs.length+2*p9.2.2/\∀d∈p9.1.1,ft (λk=>M k\/p9.1.2 k) w0.heap.size p9.2.1.heap.size p9.2.1 d) (λp9=>p.c.path.length-p9.2.2) ((pre,V),wk,0) ⟨cR _,hV,sJ,by dsimp only;rw[aQ,show p.c.bxs.length=(bC p).1.bxs.length from rfl,vS];exact(eb _).symm,by dsimp only;omega,dS⟩ zR rfl rfl zI ?_;rintro⟨⟨pre,V⟩,wk,j⟩ ⟨hj,hV,sJ,aQ,iH,dS⟩;dsimp only at hj hV sJ aQ iH dS ⊢;have cF:¬(dt hM V (hI pre V)).X b1:=B1 V b1 hV (.inl rfl) mr;refine B 6 ?_;refine aG ?_ ?_
 ·intro dp;refine B 5 ?_;obtain⟨bo,oo,cs0,to_,fV,im,fP,cJ,aV⟩:=hpt.get aa;obtain⟨yy,ZI⟩:=ng p.c.path j aa;rw[im];have AJ:¬(dt hM V (hI pre V)).X bo:=B1 V bo hV (.inr (.inr (.inr (.inl ⟨λh=>by rw[h]at ZI;simp at ZI,oo,im⟩)))) aa;refine B 3 ?_;refine rv rfl rfl rfl (av (v:=ab yy) isAgg3 rfl A1 cJ AJ z1 (by have:=nK (enc:=encI) (n:=1) aV ZI rfl zA;simpa[encI]using this)) ?_;refine B 5 ?_;by_cases h9:j<9
  ·refine CJ.dj zN ?_;refine fS 0 7 6 [] (pb:=by exact zU 2 (k:=by exact aU (nf call29 rfl rfl (λW hS _=>nve _ W) (λ_=>rfl)) (zU 2 (k:=by exact aU (nf call31 rfl rfl (λW hS _=>Zo _ _ W) (λ_=>rfl)) zT)))) (sp:=[_,_,_,some (.agg (dg p.x.g.last)),_,_,_]) (h:=?_);intro _ _ hk;refine RU ?_;intro rJ xH FY FZ RZ F4 air;refine zE ?_;replace FZ:=yb FZ;simp only[bA,ne_eq]at RZ;refine DJ.one (n:=7) rfl zN ?_;refine RY (f:=167) (first:=[]) (cap:=[ptr b2 0]) (V:=V) (λV=>hI (pre++[(⟨[np (dk p.x.g.last) (j:Int)],aS yy,some ⟨rJ,0,none⟩,1⟩:Dv)]) V) hX rfl call167 rfl rfl rfl (λW9 cj=>?_) ?_ ?_
   ·exact zZh
   ·intro V2 sX dw;have lh:∀k,V2 k->W.heap.size<=k:=λk hk=>(dw W A2 k hk).elim (hV k) id;have mq:∀k,k<wk.heap.size->(M k\/V2 k)->(M k\/V k):=λk hk h=>(h.imp id λh=>(dw wk A1 k h).resolve_right aa);have pq:¬(M rJ\/V2 rJ):=λh=>F4 (h.imp id λh=>(dw xH A0 _ h).resolve_right aa);refine zef ?_;refine DJ.one (n:=10) rfl zN ?_;refine AK ?_;refine DJ.one (n:=11) rfl zN ?_;refine ay cY ?_;refine B 1 ?_;refine PJ.dj ?_;refine DJ.one (n:=12) rfl zN ?_;refine AK ?_;refine fS 13 22 21 [] (pb:=by exact zU 3 (k:=by exact aU (X.v (RV.re (v':=ab ((j+1:Nat):Int)) (iw rfl rfl aa aa) ((congrArg ab aa)))) (aU (nf call31 rfl rfl (λW hS _=>Zo _ _ W) (λ_=>rfl)) (zU 2 (k:=by exact aU (nf call31 rfl rfl (λW hS _=>Zo _ _ W) (λ_=>rfl)) zT))))) (sp:=[_,some (.agg (dg p.x.g.last)),_,_,_,some (.agg (dg p.x.g.last)),_,_,_]) (h:=?_);intro _ _ hk;refine RU ?_;intro IP R0 ZJ ZK ait R1 anw;refine zE ?_;replace ZK:=yb ZK;simp only[bA,ne_eq]at ait;refine DJ.one (n:=22) rfl zN ?_;refine RY (f:=167) (first:=[]) (cap:=[ptr b2 0]) (V:=V2) (λV=>hI ((pre++[(⟨[np (dk p.x.g.last) (j:Int)],aS yy,some ⟨rJ,0,none⟩,1⟩:Dv)])++[(⟨[np (dk p.x.g.last) (j:Int)],np (dk p.x.g.last) ((j+1:Nat):Int),some ⟨IP,0,none⟩,1⟩:Dv)]) V) hX rfl call167 rfl rfl rfl (λW9 cj=>?_) ?_ ?_
    ·refine Vu (λV=>hI ((pre++[(⟨[np (dk p.x.g.last) (j:Int)],aS yy,some ⟨rJ,0,none⟩,1⟩:Dv)])++[(⟨[np (dk p.x.g.last) (j:Int)],np (dk p.x.g.last) ((j+1:Nat):Int),some ⟨IP,0,none⟩,1⟩:Dv)]) V) hX lh (⟨[np (dk p.x.g.last) (j:Int)],np (dk p.x.g.last) ((j+1:Nat):Int),some ⟨IP,0,none⟩,1⟩:Dv) b2 W9 cj.alone (cj.own (b2,_) A1) (λh=>h.elim (λh=>by have:=(hM _ h).1;omega) (λh=>cj.apart (b2,_) A1 (.inr h))) (λW1 oH hv1 pY=>hy (pre++[(⟨[np (dk p.x.g.last) (j:Int)],aS yy,some ⟨rJ,0,none⟩,1⟩:Dv)]) (⟨[np (dk p.x.g.last) (j:Int)],np (dk p.x.g.last) ((j+1:Nat):Int),some ⟨IP,0,none⟩,1⟩:Dv) V2 W1 ⟨by simp only[cy,dF,fh];omega,λd hd=>?_⟩ hv1 pY);rcases bj.1 hd with hd|hd
     ·rcases bj.1 hd with hd|hd
      ·exact ft.low ((dS d hd).up (dR (cj.links wk A2).size oH.size) (λb off e_ jv cB cW=>(oH.block b (by have:=(cj.links wk A2).size;omega) (λh=>cW (mq b cB h))).trans ((cj.links wk A2).block b cB (λhx=>hx.elim (λh=>cW (mq b cB h)) (λhx=>by first|(simp only[dm,dX,dy,eV,bX,dE,or_false]at hx;omega)|(simp at hx;omega)|(simp at hx))))) (λb _ cB h=>mq b cB h)) (cR _)
      rw[ka.1 hd];exact ft.low (ft.up (ft.one FY pq (K:=w0.heap.size) aa) (dR (cj.links xH A1).size oH.size) (λb off e_ jv cB cW=>(oH.block b (by have:=(cj.links xH A1).size;omega) cW).trans ((cj.links xH A1).block b cB (λhx=>hx.elim cW (λhx=>by cases e_;first|(simp only[dm,dX,dy,eV,bX,dE,or_false]at hx;omega)|(simp at hx;omega)|(simp at hx))))) (λb _ _ h=>h)) (cR _)
     rw[ka.1 hd];exact ft.low (ft.up (ft.one ZJ R1 (K:=w0.heap.size) aa) (dR (cj.links R0 A0).size oH.size) (λb off e_ jv cB cW=>(oH.block b (by have:=(cj.links R0 A0).size;omega) cW).trans ((cj.links R0 A0).block b cB (λhx=>hx.elim cW (λhx=>by cases e_;first|(simp only[dm,dX,dy,eV,bX,dE,or_false]at hx;omega)|(simp at hx;omega)|(simp at hx))))) (λb _ _ h=>h)) (cR _)
    ·intro V3 aiu uY;have vY:∀k,V3 k->W.heap.size<=k:=λk hk=>(uY W A3 k hk).elim (lh k) id;have hn3:∀k,k<wk.heap.size->(M k\/V3 k)->(M k\/V k):=λk hk h=>mq k hk (h.imp id λh=>(uY wk A2 k h).resolve_right aa);have F5:¬(M rJ\/V3 rJ):=λh=>pq (h.imp id λh=>(uY xH A1 _ h).resolve_right aa);have F7:¬(M IP\/V3 IP):=λh=>R1 (h.imp id λh=>(uY R0 A0 _ h).resolve_right aa);refine B 1 ?_;refine zEf ?_;refine B 9 ?_;refine PJ.resnap0 (L':=[wk,W]) zI (λW9 cj=>?_);have ck:∀d∈((pre++[(⟨[np (dk p.x.g.last) (j:Int)],aS yy,some ⟨rJ,0,none⟩,1⟩:Dv)])++[(⟨[np (dk p.x.g.last) (j:Int)],np (dk p.x.g.last) ((j+1:Nat):Int),some ⟨IP,0,none⟩,1⟩:Dv)]),ft (λk=>M k\/V3 k) w0.heap.size W9.heap.size W9 d:=by
      intro d hd;rcases bj.1 hd with hd|hd
      ·rcases bj.1 hd with hd|hd
       ·exact(dS d hd).up (cj.links wk A2).size (λb off e_ jv cB cW=>(cj.links wk A2).block b cB (λhx=>hx.elim (λh=>cW (hn3 b cB h)) (λhx=>by first|(simp only[dm,dX,dy,eV,bX,dE,or_false]at hx;omega)|(simp at hx;omega)|(simp at hx)))) (λb _ cB h=>hn3 b cB h)
       rw[ka.1 hd];exact ft.up (ft.one FY F5 (K:=w0.heap.size) aa) (cj.links xH A1).size (λb off e_ jv cB cW=>(cj.links xH A1).block b cB (λhx=>hx.elim cW (λhx=>by cases e_;first|(simp only[dm,dX,dy,eV,bX,dE,or_false]at hx;omega)|(simp at hx;omega)|(simp at hx)))) (λb _ _ h=>h)
      rw[ka.1 hd];exact ft.up (ft.one ZJ F7 (K:=w0.heap.size) aa) (cj.links R0 A0).size (λb off e_ jv cB cW=>(cj.links R0 A0).block b cB (λhx=>hx.elim cW (λhx=>by cases e_;first|(simp only[dm,dX,dy,eV,bX,dE,or_false]at hx;omega)|(simp at hx;omega)|(simp at hx)))) (λb _ _ h=>h)
     refine ag ((((pre++[(⟨[np (dk p.x.g.last) (j:Int)],aS yy,some ⟨rJ,0,none⟩,1⟩:Dv)])++[(⟨[np (dk p.x.g.last) (j:Int)],np (dk p.x.g.last) ((j+1:Nat):Int),some ⟨IP,0,none⟩,1⟩:Dv)]),V3),W9,j+1) ⟨by dsimp only;omega,vY,dR sJ (cj.links wk A2).size,by dsimp only;rw[nmk (a:=bC p) ZI,gz,gz,aQ];unfold Ls;rw[if_pos h9];simp[gP,bC],by dsimp only;simp only[cy,dF,fh];omega,ck⟩
    intro V3 aiu uY;have vY:∀k,V3 k->W.heap.size<=k:=λk hk=>(uY W A3 k hk).elim (lh k) id;have hn3:∀k,k<wk.heap.size->(M k\/V3 k)->(M k\/V k):=λk hk h=>mq k hk (h.imp id λh=>(uY wk A2 k h).resolve_right aa);have F5:¬(M rJ\/V3 rJ):=λh=>pq (h.imp id λh=>(uY xH A1 _ h).resolve_right aa);have F7:¬(M IP\/V3 IP):=λh=>R1 (h.imp id λh=>(uY R0 A0 _ h).resolve_right aa);refine B 1 ?_;refine zEf ?_;refine B 8 ?_;exact ZL (.inl rfl) results166 A3 vY zX (λA hSA hA=>.inr hA)
   exact zfg
  refine CJ.dj zN ?_;refine fS 0 7 6 [] (pb:=by exact zU 2 (k:=by exact aU (nf call29 rfl rfl (λW hS _=>nve _ W) (λ_=>rfl)) (zU 2 (k:=by exact aU (nf call31 rfl rfl (λW hS _=>Zo _ _ W) (λ_=>rfl)) zT)))) (sp:=[_,_,_,some (.agg (dg p.x.g.last)),_,_,_]) (h:=?_);intro _ _ hk;refine RU ?_;intro rJ xH FY FZ RZ F4 air;refine zE ?_;replace FZ:=yb FZ;simp only[bA,ne_eq]at RZ;refine DJ.one (n:=7) rfl zN ?_;refine RY (f:=167) (first:=[]) (cap:=[ptr b2 0]) (V:=V) (λV=>hI (pre++[(⟨[np (dk p.x.g.last) (j:Int)],aS yy,some ⟨rJ,0,none⟩,1⟩:Dv)]) V) hX rfl call167 rfl rfl rfl (λW9 cj=>?_) ?_ ?_
  ·exact zZh
  ·intro V2 sX dw;have lh:∀k,V2 k->W.heap.size<=k:=λk hk=>(dw W A2 k hk).elim (hV k) id;have mq:∀k,k<wk.heap.size->(M k\/V2 k)->(M k\/V k):=λk hk h=>(h.imp id λh=>(dw wk A1 k h).resolve_right aa);have pq:¬(M rJ\/V2 rJ):=λh=>F4 (h.imp id λh=>(dw xH A0 _ h).resolve_right aa);refine zef ?_;refine DJ.one (n:=10) rfl zN ?_;refine AK ?_;refine DJ.one (n:=11) rfl zN ?_;refine ay bN ?_;refine B 1 ?_;refine PJ.dj ?_;refine DJ.one (n:=12) rfl zN ?_;refine AK ?_;refine fA 13 24 (k:=?_);refine DJ.one (n:=24) rfl zN ?_;refine AK ?_;refine zyf ?_;refine B 9 ?_;refine PJ.resnap0 (L':=[wk,W]) zI (λW9 cj=>?_);have ck:∀d∈(pre++[(⟨[np (dk p.x.g.last) (j:Int)],aS yy,some ⟨rJ,0,none⟩,1⟩:Dv)]),ft (λk=>M k\/V2 k) w0.heap.size W9.heap.size W9 d:=by
    intro d hd;rcases bj.1 hd with hd|hd
    ·exact zXf
    rw[ka.1 hd];exact ft.up (ft.one FY pq (K:=w0.heap.size) aa) (cj.links xH A0).size (λb off e_ jv cB cW=>(cj.links xH A0).block b cB (λhx=>hx.elim cW (λhx=>by cases e_;first|(simp only[dm,dX,dy,eV,bX,dE,or_false]at hx;omega)|(simp at hx;omega)|(simp at hx)))) (λb _ _ h=>h)
   refine ag (((pre++[(⟨[np (dk p.x.g.last) (j:Int)],aS yy,some ⟨rJ,0,none⟩,1⟩:Dv)]),V2),W9,j+1) ⟨by dsimp only;omega,lh,dR sJ (cj.links wk A1).size,by dsimp only;rw[nmk (a:=bC p) ZI,gz,aQ];unfold Ls;rw[if_neg h9];simp[gP,bC],by dsimp only;simp only[cy,dF,fh];omega,ck⟩
  exact zfg
 intro dp;refine B 6 ?_;have Uj:j=p.c.path.length:=by omega
 rw[Uj]at aQ;by_cases rD:p.fst=true
 ·refine B 1 ?_;refine Vv ?_;refine zde ?_;refine IL ?_;refine yW ?_;intro uZ aiy aiz;refine B 5 ?_;refine zxe ?_;refine B 2 ?_;refine ay (.bool p.fst) ?_;refine rq bN (gq rfl) (vb (by simp[rD])) ?_;refine B 7 ?_;refine CJ.resnap (L':=[wk,W]) (i:=0) rfl zC zI (λwJ F8=>?_);have oY:=F8.own (uZ,_) A0;have R4:¬(M uZ\/V uZ):=λh=>h.elim (λh=>by have:=(hM _ h).1;omega) (λh=>F8.apart (uZ,_) A0 (.inr h));have hzq:uZ<wJ.heap.size:=(aT.1 oY).1;refine B 2 ?_;refine zJd ?_;refine B 1 ?_;refine RY (f:=167) (first:=[]) (cap:=[ptr b2 0]) (V:=V) (λV=>hI (pre++[(⟨[np (dk p.x.g.last) 9],bE (dk p.x.g.last),some ⟨uZ,0,none⟩,1⟩:Dv)]) V) hX rfl call167 rfl rfl rfl (λW9 cj=>?_) ?_ ?_
  ·refine Vu (λV=>hI (pre++[(⟨[np (dk p.x.g.last) 9],bE (dk p.x.g.last),some ⟨uZ,0,none⟩,1⟩:Dv)]) V) hX hV (⟨[np (dk p.x.g.last) 9],bE (dk p.x.g.last),some ⟨uZ,0,none⟩,1⟩:Dv) b2 W9 cj.alone (cj.own (b2,_) A1) (λh=>h.elim (λh=>by have:=(hM _ h).1;omega) (λh=>cj.apart (b2,_) A1 (.inr h))) (λW1 oH hv1 pY=>hy pre (⟨[np (dk p.x.g.last) 9],bE (dk p.x.g.last),some ⟨uZ,0,none⟩,1⟩:Dv) V W1 ⟨by simp only[cy,dF,fh];omega,λd hd=>?_⟩ hv1 pY);rcases bj.1 hd with hd|hd
   ·exact zVf
   rw[ka.1 hd];exact ft.low (ft.up (ft.row (cp:=1) oY ⟨ak _,rfl⟩ zI R4 (K:=w0.heap.size) aa) (dR (cj.links wJ A0).size oH.size) (λb off e_ jv cB cW=>(oH.block b (by have:=(cj.links wJ A0).size;omega) cW).trans ((cj.links wJ A0).block b cB (λhx=>hx.elim cW (λhx=>by cases e_;first|(simp only[dm,dX,dy,eV,bX,dE,or_false]at hx;omega)|(simp at hx;omega)|(simp at hx))))) (λb _ _ h=>h)) (cR _)
  ·intro V2 sX dw;have lh:∀k,V2 k->W.heap.size<=k:=λk hk=>(dw W A2 k hk).elim (hV k) id;have mq:∀k,k<wk.heap.size->(M k\/V2 k)->(M k\/V k):=λk hk h=>(h.imp id λh=>(dw wk A1 k h).resolve_right aa);have F9:¬(M uZ\/V2 uZ):=λh=>R4 (h.imp id λh=>(dw wJ A0 _ h).resolve_right aa);refine B 7 ?_;have cF:¬(dt hM V2 (hI (pre++[(⟨[np (dk p.x.g.last) 9],bE (dk p.x.g.last),some ⟨uZ,0,none⟩,1⟩:Dv)]) V2)).X b1:=B1 V2 b1 lh (.inl rfl) mr;refine B 3 ?_;refine ay (.slice p.c.wa p.c.wes.length p.c.wc) ?_;refine B 5 ?_;refine CJ.resnap0 (L':=[wk,W]) zI (λW9 cj=>?_);have ck:∀d∈(pre++[(⟨[np (dk p.x.g.last) 9],bE (dk p.x.g.last),some ⟨uZ,0,none⟩,1⟩:Dv)]),ft (λk=>M k\/V2 k) w0.heap.size W9.heap.size W9 d:=by
    intro d hd;rcases bj.1 hd with hd|hd
    ·exact zXf
    rw[ka.1 hd];exact ft.up (ft.row (cp:=1) oY ⟨ak _,rfl⟩ zI F9 (K:=w0.heap.size) aa) (cj.links wJ A0).size (λb off e_ jv cB cW=>(cj.links wJ A0).block b cB (λhx=>hx.elim cW (λhx=>by cases e_;first|(simp only[dm,dX,dy,eV,bX,dE,or_false]at hx;omega)|(simp at hx;omega)|(simp at hx)))) (λb _ _ h=>h)
   refine CJ.loop (α:=(List Dv×aE)×World×Nat) (λp9=>[(1,ptr b1 0),(3,ptr b3 0),(4,.func (.func 167) #[] #[ptr b2 0]),(109,.slice p.c.wa p.c.wes.length p.c.wc),(110,ab (p.c.wes.length:Int)),(111,ab (p9.2.2:Int))]) (λp9=>[(b3,oC (dg p.x.g.last) 33),(b2,oC #[yv l] 145)]) (λp9=>[p9.2.1,W]) (λp9=>dt hM p9.1.2 (hI p9.1.1 p9.1.2)) (λp9=>p9.2.2<=p.c.wes.length/\(∀k,p9.1.2 k->W.heap.size<=k)/\w0.heap.size<=p9.2.1.heap.size/\p9.1.1.map gP=(bC p).1.bxs.flatMap (FQ (bC p))++lG (bC p) (bC p).1.path.length++[(Oh (bC p),bE (dk p.x.g.last))]++((bC p).1.wes.take p9.2.2).flatMap (Lt (bC p))/\p9.1.1.length<=p.c.bxs.length+2*p.c.path.length+1+p9.2.2/\∀d∈p9.1.1,ft (λk=>M k\/p9.1.2 k) w0.heap.size p9.2.1.heap.size p9.2.1 d) (λp9=>p.c.wes.length-p9.2.2) ((pre++[(⟨[np (dk p.x.g.last) 9],bE (dk p.x.g.last),some ⟨uZ,0,none⟩,1⟩:Dv)],V2),W9,0) ⟨cR _,lh,dR sJ (cj.links wk A1).size,by dsimp only;rw[gz,aQ];simp[gP,bC,Oh,rD],by dsimp only;simp only[cy,dF,fh];omega,ck⟩ zR rfl rfl zI ?_;rintro⟨⟨pre,V⟩,wk,j⟩ ⟨hj,hV,sJ,aQ,iH,dS⟩;dsimp only at hj hV sJ aQ iH dS ⊢;have cF:¬(dt hM V (hI pre V)).X b1:=B1 V b1 hV (.inl rfl) mr;refine B 6 ?_;refine aG ?_ ?_
   ·intro jh;refine B 5 ?_;obtain⟨bo,oo,cs0,to_,fV,im,fP,cJ,aV⟩:=hwe.get aa;obtain⟨x,hx⟩:=ng p.c.wes j aa;rw[im];have AJ:¬(dt hM V (hI pre V)).X bo:=B1 V bo hV (.inr (.inr (.inr (.inr ⟨λh=>by rw[h]at hx;simp at hx,oo,im⟩)))) aa;refine B 2 ?_;refine z7d ?_;refine B 1 ?_;refine yW ?_;intro Up yt Bq;refine B 6 ?_;refine z2c ?_;refine ni (t:=129) rfl (λiC=>?_) (λiC=>?_)
    ·replace iC:=ya iC;exact zSf
    replace iC:=ya iC;exact zIg
   intro jh;exact z8f
  intro V2 sX dw;have lh:∀k,V2 k->W.heap.size<=k:=λk hk=>(dw W A2 k hk).elim (hV k) id;have mq:∀k,k<wk.heap.size->(M k\/V2 k)->(M k\/V k):=λk hk h=>(h.imp id λh=>(dw wk A1 k h).resolve_right aa);have F9:¬(M uZ\/V2 uZ):=λh=>R4 (h.imp id λh=>(dw wJ A0 _ h).resolve_right aa);refine B 6 ?_;exact zpg
 refine B 1 ?_;refine Vv ?_;refine zde ?_;refine IL ?_;refine yW ?_;intro uZ aiy aiz;refine B 5 ?_;refine zxe ?_;refine B 2 ?_;refine ay (.bool p.fst) ?_;refine rq cY (gq rfl) (vb (by simp[rD])) ?_;refine B 7 ?_;refine ay (.agg (dg p.c.par)) ?_;refine call call97 rfl rfl rfl (λW hS=>Zp _ W) ?_;refine IL ?_;refine yW ?_;intro b99 anx anz;refine U4 (b:=uZ) (cap:=1) (sp:=[]) (xs:=[np (dk p.x.g.last) 9]) (zs:=[bE (dk p.c.par)]) (enc:=dM) (m:=35) (H0:=[(b99,oC (dh (bE (dk p.c.par))) 35)]) (H1:=[(b3,oC (dg p.x.g.last) 33),(b2,oC #[yv l] 145)]) rfl Oa nu rfl rfl rfl rfl (cd.one (z:=bE (dk p.c.par)) nu IK underlying38 (bB.own (i:=0) rfl)) ⟨ak _,rfl⟩ (.inr zC) zI ?_;intro kr mY amA Ga AL;replace Ga:=yb Ga;have amB:wk.heap.size<=kr/\W.heap.size<=kr:=by rcases Ga with h|h;(subst h;omega);omega
 refine B 5 ?_;refine CJ.resnap (L':=[wk,W]) (i:=0) rfl zC zI (λw16 anA=>?_);refine CJ.resnap (L':=[wk,W]) (i:=0) rfl zC zI (λwJ F8=>?_);have oY:=F8.own (kr,_) A0;have Gb:¬(M kr\/V kr):=λh=>h.elim (λh=>by have:=(hM _ h).1;omega) (λh=>F8.apart (kr,_) A0 (.inr h));have hzq:kr<wJ.heap.size:=(aT.1 oY).1;refine B 2 ?_;refine zJd ?_;refine B 1 ?_;refine RY (f:=167) (first:=[]) (cap:=[ptr b2 0]) (V:=V) (λV=>hI (pre++[(⟨[np (dk p.x.g.last) 9,bE (dk p.c.par)],bE (dk p.x.g.last),some ⟨kr,0,none⟩,mY⟩:Dv)]) V) hX rfl call167 rfl rfl rfl (λW9 cj=>?_) ?_ ?_
 ·refine Vu (λV=>hI (pre++[(⟨[np (dk p.x.g.last) 9,bE (dk p.c.par)],bE (dk p.x.g.last),some ⟨kr,0,none⟩,mY⟩:Dv)]) V) hX hV (⟨[np (dk p.x.g.last) 9,bE (dk p.c.par)],bE (dk p.x.g.last),some ⟨kr,0,none⟩,mY⟩:Dv) b2 W9 cj.alone (cj.own (b2,_) A1) (λh=>h.elim (λh=>by have:=(hM _ h).1;omega) (λh=>cj.apart (b2,_) A1 (.inr h))) (λW1 oH hv1 pY=>hy pre (⟨[np (dk p.x.g.last) 9,bE (dk p.c.par)],bE (dk p.x.g.last),some ⟨kr,0,none⟩,mY⟩:Dv) V W1 ⟨by simp only[cy,dF,fh];omega,λd hd=>?_⟩ hv1 pY);rcases bj.1 hd with hd|hd
  ·exact zVf
  rw[ka.1 hd];exact ft.low (ft.up (ft.row (cp:=mY) oY AL zI Gb (K:=w0.heap.size) aa) (dR (cj.links wJ A0).size oH.size) (λb off e_ jv cB cW=>(oH.block b (by have:=(cj.links wJ A0).size;omega) cW).trans ((cj.links wJ A0).block b cB (λhx=>hx.elim cW (λhx=>by cases e_;first|(simp only[dm,dX,dy,eV,bX,dE,or_false]at hx;omega)|(simp at hx;omega)|(simp at hx))))) (λb _ _ h=>h)) (cR _)
 ·intro V2 sX dw;have lh:∀k,V2 k->W.heap.size<=k:=λk hk=>(dw W A2 k hk).elim (hV k) id;have mq:∀k,k<wk.heap.size->(M k\/V2 k)->(M k\/V k):=λk hk h=>(h.imp id λh=>(dw wk A1 k h).resolve_right aa);have AM:¬(M kr\/V2 kr):=λh=>Gb (h.imp id λh=>(dw wJ A0 _ h).resolve_right aa);refine B 7 ?_;have cF:¬(dt hM V2 (hI (pre++[(⟨[np (dk p.x.g.last) 9,bE (dk p.c.par)],bE (dk p.x.g.last),some ⟨kr,0,none⟩,mY⟩:Dv)]) V2)).X b1:=B1 V2 b1 lh (.inl rfl) mr;refine B 3 ?_;refine ay (.slice p.c.wa p.c.wes.length p.c.wc) ?_;refine B 5 ?_;refine CJ.resnap0 (L':=[wk,W]) zI (λW9 cj=>?_);have ck:∀d∈(pre++[(⟨[np (dk p.x.g.last) 9,bE (dk p.c.par)],bE (dk p.x.g.last),some ⟨kr,0,none⟩,mY⟩:Dv)]),ft (λk=>M k\/V2 k) w0.heap.size W9.heap.size W9 d:=by
   intro d hd;rcases bj.1 hd with hd|hd
   ·exact zXf
   rw[ka.1 hd];exact ft.up (ft.row (cp:=mY) oY AL zI AM (K:=w0.heap.size) aa) (cj.links wJ A0).size (λb off e_ jv cB cW=>(cj.links wJ A0).block b cB (λhx=>hx.elim cW (λhx=>by cases e_;first|(simp only[dm,dX,dy,eV,bX,dE,or_false]at hx;omega)|(simp at hx;omega)|(simp at hx)))) (λb _ _ h=>h)
  refine CJ.loop (α:=(List Dv×aE)×World×Nat) (λp9=>[(1,ptr b1 0),(3,ptr b3 0),(4,.func (.func 167) #[] #[ptr b2 0]),(109,.slice p.c.wa p.c.wes.length p.c.wc),(110,ab (p.c.wes.length:Int)),(111,ab (p9.2.2:Int))]) (λp9=>[(b3,oC (dg p.x.g.last) 33),(b2,oC #[yv l] 145)]) (λp9=>[p9.2.1,W]) (λp9=>dt hM p9.1.2 (hI p9.1.1 p9.1.2)) (λp9=>p9.2.2<=p.c.wes.length/\(∀k,p9.1.2 k->W.heap.size<=k)/\w0.heap.size<=p9.2.1.heap.size/\p9.1.1.map gP=(bC p).1.bxs.flatMap (FQ (bC p))++lG (bC p) (bC p).1.path.length++[(Oh (bC p),bE (dk p.x.g.last))]++((bC p).1.wes.take p9.2.2).flatMap (Lt (bC p))/\p9.1.1.length<=p.c.bxs.length+2*p.c.path.length+1+p9.2.2/\∀d∈p9.1.1,ft (λk=>M k\/p9.1.2 k) w0.heap.size p9.2.1.heap.size p9.2.1 d) (λp9=>p.c.wes.length-p9.2.2) ((pre++[(⟨[np (dk p.x.g.last) 9,bE (dk p.c.par)],bE (dk p.x.g.last),some ⟨kr,0,none⟩,mY⟩:Dv)],V2),W9,0) ⟨cR _,lh,dR sJ (cj.links wk A1).size,by dsimp only;rw[gz,aQ];simp[gP,bC,Oh,rD],by dsimp only;simp only[cy,dF,fh];omega,ck⟩ zR rfl rfl zI ?_;rintro⟨⟨pre,V⟩,wk,j⟩ ⟨hj,hV,sJ,aQ,iH,dS⟩;dsimp only at hj hV sJ aQ iH dS ⊢;have cF:¬(dt hM V (hI pre V)).X b1:=B1 V b1 hV (.inl rfl) mr;refine B 6 ?_;refine aG ?_ ?_
  ·intro lS;refine B 5 ?_;obtain⟨bo,oo,cs0,to_,fV,im,fP,cJ,aV⟩:=hwe.get aa;obtain⟨x,hx⟩:=ng p.c.wes j aa;rw[im];have AJ:¬(dt hM V (hI pre V)).X bo:=B1 V bo hV (.inr (.inr (.inr (.inr ⟨λh=>by rw[h]at hx;simp at hx,oo,im⟩)))) aa;refine B 2 ?_;refine z7d ?_;refine B 1 ?_;refine yW ?_;intro Up yt Bq;refine B 6 ?_;refine z2c ?_;refine ni (t:=129) rfl (λkz=>?_) (λkz=>?_)
   ·replace kz:=ya kz;exact zSf
   replace kz:=ya kz;exact zIg
  intro lS;exact z8f
 intro V2 sX dw;have lh:∀k,V2 k->W.heap.size<=k:=λk hk=>(dw W A2 k hk).elim (hV k) id;have mq:∀k,k<wk.heap.size->(M k\/V2 k)->(M k\/V k):=λk hk h=>(h.imp id λh=>(dw wk A1 k h).resolve_right aa);have AM:¬(M kr\/V2 kr):=λh=>Gb (h.imp id λh=>(dw wJ A0 _ h).resolve_right aa);refine B 6 ?_;exact zpg
theorem rH.fin{P:Program}{f:Nat}{cap:List Value}{α:Type}{enc:α->List Value}{Pre Fin ZM:List α->aE->World->Prop}{MI RO:aE}(h:rH P f cap enc Pre Fin MI RO W)(hf:∀xs Z w,Fin xs Z w->ZM xs Z w):rH P f cap enc Pre ZM MI RO W:=
 λl M I X h1 h2 h3 h4 h5=>(h l M I X h1 h2 h3 h4 h5).mono λe w' ⟨a,b,V,c⟩=>⟨a,b,V,c.imp (λ⟨xs,p,q⟩=>⟨xs,hf _ _ _ p,q⟩) id⟩
theorem Gc{α:Type}{enc:α->List Value}{xs:List α}(h:r.At enc t xs w):St (Gh.lent (λk=>r.isAt k)) [w] (r.hp enc t xs) w:=by
 cases r with
 |nil=>exact⟨trivial,λ_ h=>h.elim,λ_ h=>h.elim,λw' hw=>by rw[ka.1 hw];exact aH.refl _ _,λp hp=>by simp[Rw.hp]at hp,λi j p q hi=>by simp[Rw.hp]at hi,λp hp=>by simp[Rw.hp]at hp⟩
 |row b c sp=>
  refine⟨trivial,λ_ h=>h.elim,λk hk=>?_,λw' hw=>by rw[ka.1 hw];exact aH.refl _ _,λp hp=>?_,?_,λp hp h=>h.elim⟩
  ·obtain rfl:b=k:=hk;exact(aT.1 (show w.heap[b]? =some _ from h)).1
  ·simp only[Rw.hp,ka]at hp;subst hp;exact h
  exact DV _
theorem Rw.isAt_lt{α:Type}{enc:α->List Value}{k:Nat}{xs:List α}(h:r.At enc t xs w)(hk:r.isAt k):k<w.heap.size:=by
 cases r with
 |nil=>exact hk.elim
 |row b c sp=>obtain rfl:b=k:=hk;exact(aT.1 (show w.heap[b]? =some _ from h)).1
theorem Rw.mem_is{α:Type}{enc:α->List Value}{k:Nat}{xs:List α}(h:k∈(r.hp enc t xs).map (·.1)):r.isAt k:=by
 cases r with
 |nil=>simp[Rw.hp]at h
 |row b c sp=>simp[Rw.hp]at h;exact h.symm
theorem St.belowR{α:Type}{enc:α->List Value}{b2:Nat}{o:Obj}{xs:List α}(fB:r.At enc t xs w)(hS:St (Gh.lent (λk=>r.isAt k)) [w] ((b2,o)::r.hp enc t xs) W)(hb:w.heap.size<=b2):Below w.heap.size w W:=by
 have hk:=hS.links w A0;refine⟨hk.os,hk.tape,hk.output,hk.drawn,hk.size,λk Jd=>?_⟩;by_cases h:r.isAt k
 ·cases r with
  |nil=>exact h.elim
  |row b c sp=>
   obtain rfl:b=k:=h;exact(hS.own (b,_) oW).trans (show w.heap[b]? =some _ from fB).symm
 refine hk.block k Jd λhx=>hx.elim h λhm=>?_;rcases bX.1 hm with h2|h2
 ·have h3:k=b2:=h2;omega
 exact h (Rw.mem_is h2)
structure xI (F:ad) (d:Dv):Prop where
 ne:d.fr≠ []
 sl:lC dh 35 F d.fa d.fr
theorem xI.mono{F':ad}{d:Dv}(h:xI F d)(hF:∀q∈F,q∈F'):xI F' d:=⟨h.ne,h.sl.mono hF⟩
theorem Gd{Z:aE}{K:Nat}{w:World}:∀(xs:List Dv),(∀d∈xs,ft Z K w.heap.size w d)->∃F:ad,(∀p∈F,K<=p.1/\w.heap[p.1]? =some p.2/\¬Z p.1)/\∀d∈xs,xI F d
 | [],_=>⟨[],by simp,by simp⟩
 |d::xs,h=>by
  obtain⟨F,h1,h2⟩:=Gd xs λx hx=>h x (.tail _ hx);have hd:=h d A0;rcases hd.sl with h3|⟨b,off,cs,t,fr,e1,e2,e3,e4⟩
  ·exact absurd h3 hd.ne
  have h5:=hd.out _ e1;refine⟨(b,.cells cs t fr)::F,λp hp=>?_,λx hx=>?_⟩
  ·rcases bX.1 hp with rfl|hp
   ·exact⟨h5.2,e3,h5.1⟩
   exact h1 p hp
  rcases bX.1 hx with rfl|hx
  ·exact⟨hd.ne,.inr ⟨b,off,cs,t,fr,e1,.head _,e4⟩⟩
  exact(h2 x hx).mono λq hq=>.tail _ hq
section
variable {C:Cx} {Q:aY} {E:Env} {D:List Deferred} {L:List World} {H H0 H1 F:ad} {ops:Array Oper} {l:List Oper}
variable {d ty f:Nat} {pos:String} {aC:Array Edge} {g:Option (Nat×Bool)} {x:Operand} {xo:List Operand} {vs first cap:List Value} {eC:Array Nat}
theorem nkn{α γ:Type}{enc:α->List Value}{m:Nat}{xs:List α}{ys:γ->List α}{v:γ->Rw->Value}{Φ:ad->γ->Prop}(hH:H=H0++(r.hp enc t xs++H1))(jA:r.Fr (dL F) L)(hx:ev E x=some (.func (.func f) first.toArray cap.toArray))(az:ew C.P f)(hw:nl ops E g=some true)(hN:Nat.blt d C.N=true)(ha:ja E xo=some vs)(hc:∀W,St (dL F) L H W->Calls C.P f (first++vs++cap).toArray W (λe w'=>∃z r' F',e= .returned (v z r')/\aH (λk=>r.isAt k) W w'/\(∀k,r'.isAt k->r.isAt k\/W.heap.size<=k)/\r'.Fit m (ys z)/\r'.At enc t (ys z) w'/\(∀p∈F',W.heap.size<=p.1/\w'.heap[p.1]? =some p.2/\¬r'.isAt p.1)/\Φ F' z))(k:∀z r' F',Φ F' z->r'.Fit m (ys z)->r'.Fr (dL (F'++F)) L->(∀p∈F',ae L p.1)->OJ C ops Q l ((d,v z r')::E) D (dL (F'++F)) L (H0++(r'.hp enc t (ys z)++H1))):OJ C ops Q (⟨some d,.call ⟨.value x,xo.toArray,eC⟩,ty,pos,aC,g⟩::l) E D (dL F) L H:=
 nI rfl hw hx ha zI az λa W jb hD hF hS=>(hc W hS).mono (by
  rintro ed W' ⟨z,r',F',rfl,hk,jE,bM,fB,vz,hΦ⟩;have hP:=hS;rw[hH]at hP;have hP1:St (dL F) L (r.hp enc t xs++(H0++H1)) W:=hP.perm (List.perm_append_comm_assoc _ _ _);have hFA:pO (dL F) L (r.hp enc t xs):=by
   cases r with
   |nil=>trivial
   |row b c sp=>exact⟨jA,trivial⟩
  have hP2:St (dL F) L (r'.hp enc t (ys z)++(H0++H1)) W':=by
   refine hP1.swapZ (hk.mono λk _ h=>Rw.mem_at h) hFA (λp hp=>?_) ?_
   ·have h8:p.1∈(r'.hp enc t (ys z)).map (·.1):=bW.2 ⟨p,hp,rfl⟩;refine⟨?_,(jE _ (Rw.mem_is h8)).imp (λh=>Rw.mem_at h) id⟩;cases r' with
    |nil=>simp[Rw.hp]at hp
    |row b c sp=>simp only[Rw.hp,ka]at hp;subst hp;exact fB
   cases r' with
   |nil=>exact λi j p q hi=>by simp[Rw.hp]at hi
   |row b c sp=>exact DV _
  have hP3:St (dL F) L (H0++(r'.hp enc t (ys z)++H1)) W':=hP2.perm (List.perm_append_comm_assoc _ _ _);have hP4:=hP3.fzB (F':=F') (λp hp=>⟨(vz p hp).2.1,λhm=>by
   rw[gz,gz]at hm;rcases bj.1 hm with hm|hm
   ·obtain⟨q,hq,e⟩:=bW.1 hm;have:=hP.lt q (bj.2 (.inl hq));have:=(vz p hp).1;omega
   rcases bj.1 hm with hm|hm
   ·exact(vz p hp).2.2 (Rw.mem_is hm)
   obtain⟨q,hq,e⟩:=bW.1 hm;have:=hP.lt q (bj.2 (.inr (bj.2 (.inr hq))));have:=(vz p hp).1;omega⟩)
  refine k z r' F' hΦ bM ?_ (λp hp=>CP hS (vz p hp).1) (a.put (some d) (v z r')) W' z6 z4 (hF.put _ z5) hP4;cases r' with
  |nil=>trivial
  |row b c sp=>
   rcases jE b rfl with h|h
   ·exact(Rw.Fr_at jA h).elim (λh=>h.elim) .inr
   exact .inr (CP hS h))
end
theorem ndm{f:Nat}{cap:List Value}{RO:Nat->Prop}(az:ew prog f)(r:Rw)(ds:List Dv)(w:World)(aiB:r.Fit 36 ds)(vJ:ds.length<=30000)(fB:r.At hQ 142 ds w)(lg:∀k,RO k->k<w.heap.size/\¬r.isAt k)(lX:∀W2,Below w.heap.size w W2->rH prog f cap (λd:Dv=>[.agg (uX d)]) FR (FU w.heap.size a) (λ_=>False) RO W2):Calls prog 95 #[r.val ds.length,.func (.func f) #[] cap.toArray] w (λe w'=>∃(xs:List Dv) (r':Rw),e= .returned (r'.val (ds++xs).length)/\aH (λk=>r.isAt k) w w'/\(∀k,r'.isAt k->r.isAt k\/w.heap.size<=k)/\r'.Fit 36 (ds++xs)/\r'.At hQ 142 (ds++xs) w'/\(xs.map gP=lH a/\xs.length<=200)/\∀d∈xs,ft (λk=>r'.isAt k) w.heap.size w'.heap.size w' d):=by
 refine Pe (Gh.lent (λk=>r.isAt k)) (r.hp hQ 142 ds) (vs:=[_,_]) func95 rfl ntmps95 rfl (Gc fB) ?_;refine NA ?_;refine yW ?_;intro b2 dB dx;refine B 10 ?_;have aiC:r.Fr (Gh.lent (λk=>r.isAt k)) [w]:=by
  cases r with
  |nil=>trivial
  |row b c sp=>exact .inl rfl
 refine nop (f:=f) (cap:=cap) (α:=Dv) (enc:=(λd:Dv=>[.agg (uX d)])) (Pre:=FR) (Fin:=FU w.heap.size a) (RO:=RO) (MI:=λ_=>False) rfl az (λW W2 hS hB=>lX W2 ((hS.belowR fB aa).trans (hB.mono (hS.links w A0).size))) (λ_ _ _ hk=>hk.elim) (λW hS k hk=>by have h1:=lg k hk;have h2:=(hS.links w A0).size;exact⟨by omega,λhm=>by rcases bX.1 hm with h|h;(have h3:k=b2:=h;omega);exact h1.2 (Rw.mem_is h),h1.2⟩) (λ_=>rfl) (λpre G' Hc=>G'=(Gh.lent (λk=>r.isAt k))/\∃r1:Rw,r1.Fr (Gh.lent (λk=>r.isAt k)) [w]/\r1.Fit 36 (ds++pre)/\Hc=[(b2,oC #[r1.val (ds++pre).length] 138)]++(r1.hp hQ 142 (ds++pre)++[])) (λ_ _ _=>False) ⟨rfl,r,aiC,by rw[eb];exact aiB,by simp[Rw.val_cells]⟩ zA ?_ ?_ ?_
 ·rintro pre x G' Hc l Dk rec W1 M V Wy ow vk dS ⟨rfl,r1,aK,ah,rfl⟩ iQ lK Pg xZ dz C6;simp only[ae]at iQ xZ;have iH:=dS.1;simp only[cy,dF,fh]at iH;have DW:∀p∈r1.hp hQ 142 (ds++pre),M p.1\/V p.1:=λp hp=>dz.loc.h p UB;refine B 2 ?_;refine yW ?_;intro b5 sq su;refine B 2 ?_;refine PJ.reH (H':=book ([(b5,oC (uX x) 142)]++([(b2,oC #[r1.val (ds++pre).length] 138)]++(r1.hp hQ 142 (ds++pre)++[]))) l rec (fG Dk)) rfl ?_;refine Nc ow ?_;refine B 3 ?_;refine ay (.agg (uX x)) ?_;refine zge ?_;refine yW ?_;intro gB lY p6;refine kg (r:=r1) (xs:=(ds++pre)) (zs:=[x]) (enc:=hQ) (m:=36) (H0:=[(gB,oC (uX x) 142),(b5,oC (uX x) 142),(b2,oC #[r1.val (ds++pre).length] 138)]) (H1:=(l,.loop {rec with state:=.busy})::fG Dk) zW nll FP rfl rfl rfl rfl (cd.one (z:=x) FP n8g underlying138 (bB.own (i:=0) rfl)) ah (Rw.Fr_ext DW) zI Br ?_;intro gR oU oV jo kL;replace jo:=yb jo;refine B 3 ?_;refine BV ?_;refine Jg (G2:=(Gh.lent (λk=>r.isAt k))) (Hc2:=[(b2,oC #[(Rw.row gR oU oV).val (ds++pre++[x]).length] 138)]++((Rw.row gR oU oV).hp hQ 142 (ds++pre++[x])++[])) dz lK ⟨λ_ h=>h,λ_ h=>.inl h,λ_ h=>.inl h,(UC rfl (jo.imp id (λh=>h.1))),(by intro p hp;rcases bX.1 hp with h|hp;(subst h;exact .inl zI);exact .inr (.inl (Rw.mem_is (bW.2 ⟨p,hp,rfl⟩))))⟩ (Jh ow vk) ?_
  exact⟨rfl,.row gR oU oV,jo.elim (λh=>Rw.Fr_at aK h) (λh=>.inr h.2),by rw[<-iY];exact kL,by rw[<-iY ds pre [x]]⟩
 ·rintro pV l Dk rec G' Hc Zf Wd dO hZf iQ lK ⟨rfl,r1,aK,ah,rfl⟩;replace iQ:=yb iQ;refine PV λWd2 xY=>?_;have mC:=UD xY;refine B 9 ?_;refine PJ.reH (H':=(b2,oC #[r1.val (ds++pV).length] 138)::(r1.hp hQ 142 (ds++pV)++(l,.loop rec)::fG Dk)) UE ?_;refine Bz (.inl rfl) zI λa W H' hF hS ef aQ=>?_;have JX:∀k,k∈H'.map (·.1)->k=b2\/r1.isAt k\/k=l\/k=Dk:=by
   intro k hk;rw[aQ]at hk;simp only[gz,dy,eV,bj,bX,dE,or_false]at hk;rcases hk with hk|hk|hk|hk
   ·exact .inl hk
   ·exact .inr (.inl (Rw.mem_is hk))
   ·exact .inr (.inr (.inl hk))
   exact .inr (.inr (.inr hk))
  have hZb:∀k,k∈H'.map (·.1)->Zf k:=by
   intro k hk;have h8:k∈(book ([(b2,oC #[r1.val (ds++pV).length] 138)]++(r1.hp hQ 142 (ds++pV)++[])) l rec (fG Dk)).map (·.1):=by
    rw[aQ]at hk;simpa[book,Rw.val_cells]using hk
   obtain⟨p,hp,rfl⟩:=bW.1 h8;exact hZf p hp
  have ZN:∀k,r1.isAt k->r.isAt k\/w.heap.size<=k:=λk hk=>(Rw.Fr_at aK hk).imp id (λh=>h.1);refine⟨_,by rw[results_tmp results95];exact congrArg (λu=>Result.ok u W) (hF 4 _ rfl),pV,r1,rfl,?_,ZN,ah,?_,dO.1,λd hd=>?_⟩
  ·refine(hS.links w A1).mono λk hk hx=>hx.elim id λhx=>?_;rcases JX k hx with h|h|h|h
   ·omega
   ·exact(ZN k h).resolve_right aa
   ·omega
   omega
  ·cases r1 with
   |nil=>trivial
   |row b cap sp=>exact hS.own _ (ef (b,aP hQ 142 (ds++pV) sp) oW (mC _ oW).1)
  refine(dO.2 d hd).up (hS.links Wd A0).size (λb off _ hb1 di cZ=>(hS.links Wd A0).block b di (λhx=>hx.elim (λh=>?_) (λh=>cZ (hZb b h)))) (λb _ _ h=>?_)
  ·have:=Rw.isAt_lt fB h;omega
  have h8:b∈(book ([(b2,oC #[r1.val (ds++pV).length] 138)]++(r1.hp hQ 142 (ds++pV)++[])) l rec (fG Dk)).map (·.1):=by
   simp only[book,gz,bj];exact .inl (.inr (.inl (Rw.mem_at h)))
  obtain⟨p,hp,rfl⟩:=bW.1 h8;exact hZf p hp
 exact Pj
theorem nfj(p:Pl)(w:World):Calls prog 96 #[.agg (kD p)] w (cK w (λb:Nat=>.func (.func 166) #[] #[ptr b 0]) (λb w1=>w.heap.size<=b/\w1.heap[b]? =some (oC (kD p) 92))):=by
 refine eN func96 ntmps96 ?_;refine B 2 ?_;refine yX ?_;intro b1 w1 hb1 cF gK gj jy;refine B 10 ?_;refine rY b1 results96 rfl A1 rfl ?_;exact zmh
theorem R5(p:Pl)(f:Nat->Int)(b:Nat)(w:World)(hb1:w.heap[b]? =some (oC (dg f) 33)):Calls prog 94 #[.agg (kD p),ptr b 0] w (aL w (.bool (mw p.x.g.last f))):=by
 have cF:¬Gh.no.X b:=λh=>h;have mr:=(aT.1 hb1).1;refine eN func94 ntmps94 ?_;refine B 2 ?_;refine yX ?_;intro b2 w2 di bV ff dB dx;refine B 7 ?_;refine Vv ?_;refine ay (.agg (dg f)) ?_;refine rv rfl rfl rfl (pg xn zA nM rfl rfl rfl) ?_;refine B 4 ?_;refine aF results94 rfl A1 ?_;rfl
theorem n0l(p:Pl->Bool)(f:Nat)(cap:List Value)(az:ew prog f)(xs:List Pl)(hxl:xs.length<=1000000)(N:Nat)(a:Option Addr)(cp:Nat)(w:World)(hN:N<=w.heap.size)(aJ:ai kD 111 N w a xs)(hp:∀(j:Nat) (x:Pl),xs[j]? =some x->∀W,Below w.heap.size w W->Calls prog f (.agg (kD x)::cap).toArray W (aL W (.bool (p x)))):Calls prog 93 #[.slice a xs.length cp,.func (.func f) #[] cap.toArray] w (cK w (λi:Int=>ab i) (λi _=>fb p xs i)):=by
 refine eN func93 ntmps93 ?_;refine UM ?_;rintro j ⟨hj,dZ⟩;refine B 6 ?_;refine aG ?_ ?_
 ·intro ar;refine B 11 ?_;obtain⟨bo,oo,cs0,to,fV,rfl,fP,cJ,aV⟩:=aJ.get aa;obtain⟨x,hx⟩:=ng xs j aa;refine B 5 ?_;refine ay (.agg (kD x)) ?_;refine UN ?_;refine aG ?_ ?_
  ·intro aN;refine B 12 ?_;refine rY (j:Int) results93 rfl A0 rfl ?_;exact UO
  exact UP
 intro ar;refine B 11 ?_;refine rY (-1:Int) results93 rfl A0 rfl ?_;exact UQ
def zCm:Cm:=⟨0,0,λ_=>0,0,[],none,0,[],none,0,[],none,0,[],none,0,λ_=>0,0,0⟩
def Vw:Pl:=⟨zCm,false,[],none,0,gI⟩
def pP (pls:List Pl) (f:Nat->Int):Option Pl:=pls.find? λp=>mw p.x.g.last f
def fnV (o:Option Pl):Value:=.tuple #[.agg (kD (o.getD Vw)),.bool o.isSome]
theorem ntj(pls:List Pl)(iH:pls.length<=1000)(f:Nat->Int)(N:Nat)(a:Option Addr)(c b:Nat)(w:World)(hN:N<=w.heap.size)(hb1:w.heap[b]? =some (oC #[.slice a pls.length c] 89))(aJ:ai kD 111 N w a pls):Calls prog 92 #[.agg (dg f),ptr b 0] w (aL w (fnV (pP pls f))):=by
 have cF:¬Gh.no.X b:=λh=>h;have mr:=(aT.1 hb1).1;refine eN func92 ntmps92 ?_;refine B 2 ?_;refine yX ?_;intro b2 w2 di bV ff dB dx;refine B 1 ?_;refine yW ?_;intro b3 ez eP;refine B 7 ?_;refine nv (α:=Int) (v:=λi:Int=>ab i) (Φ:=λ_ i _=>fb (λy:Pl=>mw y.x.g.last f) pls i) call93 rfl rfl rfl (λW hS=>n0l (λy=>mw y.x.g.last f) 94 [ptr b2 0] call94 pls aa N a c W cM (aJ.up (ak _) (hS.same A1 hN zH Cl)) (λj x hx W2 hB=>R5 x f b2 W2 (by have h9:=hS.old A0 di bV zz;rw[hB.block b2 (aT.1 h9).1];exact h9))) ?_;intro Wi ix wi Ev Ew CM;refine B 10 ?_;refine aG ?_ ?_
 ·intro ar;refine B 9 ?_;refine cC (.inl rfl) results92 aX A2 (by simp only[Over,dm,and_true];omega) ?_;rw[show pP pls f=none from((Vr CM).resolve_right (λ⟨j,x,h,_⟩=>by omega)).2];rfl
 intro ar;refine B 3 ?_;obtain⟨n,x,rfl,hx,hfx⟩:=(Vr CM).resolve_left (λh=>by have:=h.1;omega);obtain⟨bp,op,cs0,tp,fV,rfl,Cg,cJ,aV⟩:=aJ.get UH;have hnx:=nr hx;refine B 4 ?_;refine ay (.agg (kD x)) ?_;refine B 5 ?_;refine cC (.inl rfl) results92 aX A2 (by simp only[Over,dm,and_true];omega) ?_;rw[show pP pls f=(some x)from hfx];rfl
section
open Go.Extern.Stop Go.Stop Go.Extern
def R6:Array Value->Sem Value:=Extern.ReflectliteType.method λt=>do Rtype.noPackHeld "Comparable" t;pure (.bool (<-typeInfo t).comparable)
theorem nOl(v:Value)(w:World):(Extern.ReflectliteType.typeOf #[.iface 472 v]).run prog w= .ok (.iface 318 (.agg #[.pointer (some ⟨10,472,none⟩)])) w:=by kernel_rfl
theorem nIg(w:World):(R6 #[.agg #[.pointer (some ⟨10,472,none⟩)]]).run prog w= .ok (cY) w:=by kernel_rfl
theorem nYd(v:Value)(w:World):(Go.method 244 318 v "Comparable").run prog w= .ok (360,v) w:=by kernel_rfl
theorem Ge:(prog.info? 472).map (·.comparable)=some true:=by kernel_rfl
theorem Gf:(prog.info? 505).map (·.size)=some 1:=by kernel_rfl
theorem ZO(v:Value)(xT:TypeId)(w:World):(Instr.typeAssert (.iface 472 v) xT 320 true).run prog w= .ok (.tuple #[.nilIface,bN]) w:=run_typeAssert_lacksB underlying320 zN zN v xT w
theorem n8o(v:Value)(xT:TypeId)(w:World):(Instr.typeAssert (.iface 472 v) xT 323 true).run prog w= .ok (.tuple #[.nilIface,bN]) w:=run_typeAssert_lacksB underlying323 zN zN v xT w
theorem nlo(v:Value)(xT:TypeId)(w:World):(Instr.typeAssert (.iface 472 v) xT 325 true).run prog w= .ok (.tuple #[.nilIface,bN]) w:=run_typeAssert_lacksB underlying325 zN zN v xT w
theorem nsn(a:Addr)(w:World):Calls prog 69 #[.iface 472 (.pointer (some a)),.iface 472 (.pointer (some a))] w λe w'=>e= .returned (cY)/\w'=w:=by
 obtain⟨i,hi,R7⟩:=AF.1 Ge;obtain⟨j,hj,pI⟩:=AF.1 Gf;have h8:=@run_callFunc_extern prog 120 _ Extern.ReflectliteType.typeOf func120 zN zN zN zN;have h32:=@run_callFunc_extern prog 360 _ R6 func360 zN zN zN zN;have tT:=nOl;have cT:=nIg;have mR:=nYd;have heq:=run_eql_iface_ptr_same (P:=prog) w a underlying173 underlying472 hi R7 hj
 go_enter func69,ntmps69
 go_wp2
 refine wp_loop_rounds 1 ?_;rw[rounds_succ]
 go_wp2
 go_ret
 exact⟨rfl,rfl⟩
theorem R8(b:Addr)(w:World):Calls prog 69 #[.nilIface,.iface 472 (.pointer (some b))] w λe w'=>e= .returned (bN)/\w'=w:=by
 have hn:=run_eql_iface_nil_left (P:=prog) w 472 (.pointer (some b)) underlying173
 go_enter func69,ntmps69
 go_wp2
 go_ret
 exact⟨rfl,rfl⟩
theorem nUl(a b:Addr)(ca cb:Array Value)(ta tb:TypeId)(w:World)(hne:a≠b)(ha:w.heap[a.block]? =some (oC ca ta))(hb:w.heap[b.block]? =some (oC cb tb)):Calls prog 69 #[.iface 472 (.pointer (some a)),.iface 472 (.pointer (some b))] w λe w'=>e= .returned (bN)/\w'=w:=by
 obtain⟨i,hi,R7⟩:=AF.1 Ge;obtain⟨j,hj,pI⟩:=AF.1 Gf;have h8:=@run_callFunc_extern prog 120 _ Extern.ReflectliteType.typeOf func120 zN zN zN zN;have h32:=@run_callFunc_extern prog 360 _ R6 func360 zN zN zN zN;have tT:=nOl;have cT:=nIg;have mR:=nYd;have nE:=ZO;have uE:=n8o;have vE:=nlo;have heq:=run_eql_iface_ptr_other (P:=prog) w underlying173 underlying472 hi R7 hj (by rw[pI];decide) hne ha hb
 go_enter func69,ntmps69
 go_wp2
 refine wp_loop_rounds 1 ?_;rw[rounds_succ]
 go_wp2
 go_ret
 exact⟨rfl,rfl⟩
end
section
variable {C:Cx} {Q:aY} {E:Env} {D:List Deferred} {G:Gh} {L:List World} {H:ad} {ops:Array Oper} {l:List Oper}
theorem R9{d ty f:Nat}{pos:String}{aC:Array Edge}{g:Option (Nat×Bool)}{xs:List Operand}{vs:List Value}{eC:Array Nat}{α:Type}{v:α->Value}{Φ:α->Prop}(az:ew C.P f)(hw:nl ops E g=some true)(hN:Nat.blt d C.N=true)(ha:ja E xs=some vs)(hc:∀W,St G L H W->Calls C.P f vs.toArray W (cK W v (λx _=>Φ x)))(k:∀x,Φ x->OJ C ops Q l ((d,v x)::E) D G L H):OJ C ops Q (⟨some d,.call ⟨.value (.func f),xs.toArray,eC⟩,ty,pos,aC,g⟩::l) E D G L H:=
 nI rfl hw rfl ha zI az λa W jb hD hF hS=>(hc W hS).mono (by
  rintro e W' ⟨x,rfl,hb,hx⟩;exact k x hx (a.put (some d) (v x)) W' z6 z4 (hF.put _ z5) (hS.step hb))
end
structure Ol where
 f:Nat->Int
 w:CE
def u7 (x:Ol):Array Value:=(lU x.f [ab x.w.u,.slice x.w.ba x.w.body.length x.w.bc]).toArray
structure Gr where
 folder:Int
 by_:Int
 device:Int
 pub:Int
 f:Nat->Int
 oa:Option Addr
 olds:List Ol
 oc:Nat
 sr:Int
 ss:Int
def vB (x:Gr):Array Value:=(ab x.folder::ab x.by_::ab x.device::ab x.pub::lU x.f [.slice x.oa x.olds.length x.oc,ab x.sr,ab x.ss]).toArray
structure Ir where
 f:Nat->Int
 g:Nat->Int
 by_:Int
 ba:Option Addr
 body:List UInt8
 bc:Nat
 sr:Int
 ss:Int
def CQ (x:Ir):Array Value:=(lU x.f (lU x.g [ab x.by_,.slice x.ba x.body.length x.bc,ab x.sr,ab x.ss])).toArray
structure rK (N:Nat) (w:World) (x:Gr):Prop where
 ol:ai u7 34 N w x.oa x.olds
 bb:∀o∈x.olds,gy N w o.w.ba o.w.body
theorem rK.up{N N':Nat}{w':World}{x:Gr}(h:rK N w x)(hN:N<=N')(hw:∀k,k<N->w'.heap[k]? =w.heap[k]?):rK N' w' x:=⟨h.ol.up hN hw,λo ho=>(h.bb o ho).up hN hw⟩
structure pr (x:Gr):Prop where
 few:x.olds.length<=6
 bf:er x.f
 bo:∀o∈x.olds,er o.f
 i:kf x.folder/\kf x.by_/\kf x.device/\kf x.pub
 io:∀o∈x.olds,kf o.w.u
structure jM (x:Ir):Prop where
 bf:er x.f
 bg:er x.g
 i:kf x.by_
theorem nGj:jL []=true:=QB.2 ⟨λi x _ h=>by simp at h,by simp⟩
theorem n3l(hv:dU g=true):mJ g (-1) []=false:=by
 have h:=Aw.1 hv;have hm:ij g.ms (-1)=false:=by
  unfold ij;rw[decide_eq_false_iff_not];intro he;cases hx:g.ms[o8 g.ms (-1)]? with
  |none=>rw[hx]at he;cases he
  |some x=>
   rw[hx]at he;have e1:x.dev= -1:=by simpa using he
   have h2:x.dev∈eh g.ns:=by rw[<-h.2.2.1];exact bW.2 ⟨x,cO hx,rfl⟩
   have:=(nnj h2).1;omega
 have he:0<=g.epoch:=h.1.2.1;all_goals grind [mJ]
theorem Gg(G:Gv)(N:Nat)(w:World)(hN:N<=w.heap.size)(hG:bS N w G):Calls prog 117 #[.agg (bD G)] w (aL w (.bool (dU G.g))):=by
 refine eN func117 ntmps117 ?_;refine B 2 ?_;refine yX ?_;intro b1 w1 hb1 cF gK gj jy;refine X7 ?_;obtain⟨e,he⟩:∃e,fe G.g (-1) []=e:=⟨_,rfl⟩;refine nG (enc:=sK) (m:=4) (t:=110) (xs:=[]) (v:=λs=>.tuple #[s,ab e]) (first:=[]) (cap:=[]) rfl call134 rfl rfl rfl US (λW hS=>?_) ?_
 ·have hG2:=hG.up (ak _) hS.sm;have hN2:=dR hN (hS.links w A1).size;cases hv:dU G.g with
  |false=>rw[<-he,show fe G.g (-1) []=1 by simp[fe,hv]];exact nSi G N W hN2 hG2 [] zI none 0 (.inl rfl) (-1) hv
  |true=>rw[<-he,show fe G.g (-1) []=221 by simp[fe,Ax,hv,n3l hv,nGj]];exact nIh G N W hN2 hG2 [] zI none 0 (.inl rfl) (-1) hv nGj (n3l hv)
 intro W9 a9 EB Iz cj xw jr jR;refine B 1 ?_;refine ay (.slice a9 0 EB) ?_;refine B 13 ?_;refine aF results117 rfl A2 ?_;subst he;cases hv:dU G.g with
 |false=>exact vb (by simp[fe,hv])
 |true=>exact vb (by simp[fe,Ax,hv,n3l hv,nGj])
theorem Gj(x:Mb)(d:Int)(b:Nat)(w:World)(hb1:w.heap[b]? =some (oC #[ab d] 3)):Calls prog 119 #[.agg (qd x),ptr b 0] w (aL w (.bool (decide (x.dev=d)))):=by
 have cF:¬Gh.no.X b:=λh=>h;have mr:=(aT.1 hb1).1;refine eN func119 ntmps119 ?_;refine B 2 ?_;refine yX ?_;intro b2 w2 di bV ff dB dx;refine B 13 ?_;refine aF results119 rfl A1 ?_;rfl
abbrev Mm:=Int×Int
def AN (x:Mm):List Value:=[ab x.1,ab x.2]
theorem nsh(x:Mm):(AN x).length=2:=rfl
theorem Lx(x:Mm):∀u∈AN x,u.oneCell'=true:=N1 rfl
theorem Ly:prog.info? 180=some Tryz.t180:=by kernel_rfl
theorem Sa:jH prog 171 180 2:=⟨underlying171,Tryz.t180,.agg #[ab 0,ab 0],Ly,rfl,rfl,rfl,by decide⟩
structure Sen (w:World) (a0 a1:Addr):Prop where
 g0:∃t fr,w.heap[0]? =some (.cells #[.iface 472 (.pointer (some a0))] t fr)
 g1:∃t fr,w.heap[1]? =some (.cells #[.iface 472 (.pointer (some a1))] t fr)
 h0:∃c t,w.heap[a0.block]? =some (oC c t)
 h1:∃c t,w.heap[a1.block]? =some (oC c t)
 ne:a0≠a1
noncomputable def xJ (g:Gp) (d:Int):Option Mm:=(g.ms.find? λx=>decide (x.dev=d)).map λx=>(x.ver,(ei g.ns (512+d)).getD 0)
noncomputable def CR (g:Gp) (l:List Int):List Mm:=l.filterMap (xJ g)
noncomputable def qn (g:Gp) (l:List Int):Nat:=if dU g=false then 1 else if l.all (λd=>(xJ g d).isSome)then 0 else 2
noncomputable def Gk (g:Gp) (l:List Int):List Mm:=if qn g l=0 then CR g l else[]
theorem nSh{j:Nat}{d:Int}{m:Mm}(hd:l[j]? =some d)(hm:xJ g d=some m):CR g (l.take (j+1))=CR g (l.take j)++[m]:=by unfold CR;rw[nq hd,List.filterMap_append];simp[hm]
theorem Sb(g:Gp)(l:List Int):(CR g l).length<=l.length:=List.length_filterMap_le _ _
theorem ZP(h:dU g=false):qn g l=1:=by unfold qn;rw[if_pos h]
theorem ZQ{d:Int}(h:dU g=true)(hd:d∈l)(hn:xJ g d=none):qn g l=2:=by grind [qn]
theorem ZR(h:dU g=true)(ha:l.all (λd=>(xJ g d).isSome)=true):qn g l=0:=by unfold qn;rw[if_neg (by rw[h];decide),if_pos ha]
theorem Sc{d:Int}{i:Int}(h:fb (λx:Mb=>decide (x.dev=d)) g.ms i)(hi:i<0):xJ g d=none:=by grind [xJ,Vr]
theorem Lz{d:Int}{x:Mb}(h:g.ms.find? (λx=>decide (x.dev=d))=some x):xJ g d=some (x.ver,(ei g.ns (512+d)).getD 0):=by unfold xJ;rw[h];rfl
def erV (a0 a1:Addr):Nat->Value
 |0=>.nilIface
 |1=>.iface 472 (.pointer (some a0))
 |_=>.iface 472 (.pointer (some a1))
theorem neo(G:Gv)(N:Nat)(w:World)(hN:N<=w.heap.size)(hG:bS N w G)(l:List Int)(hl:l.length<=100)(a:Option Addr)(cp:Nat)(aJ:ai encI 1 N w a l)(a0 a1:Addr)(hse:Sen w a0 a1):Calls prog 68 #[.agg (bD G),.slice a l.length cp] w (aD w AN 2 180 (Gk G.g l) (λs=>.tuple #[s,erV a0 a1 (qn G.g l)])):=by
 obtain⟨tg0,fg0,hg0⟩:=hse.g0;obtain⟨tg1,fg1,hg1⟩:=hse.g1;have H6:=(aT.1 hg0).1;have mr:=(aT.1 hg1).1;refine eN func68 ntmps68 ?_;refine B 2 ?_;refine yX ?_;intro b2 w2 di bV ff dB dx;refine B 7 ?_;refine ay (.agg (bD G)) ?_;refine call (v:=.bool (dU G.g)) call117 rfl rfl rfl (λW hS=>Gg G N W cM (hG.up (ak _) hS.sm)) ?_;refine B 3 ?_;refine aG ?_ ?_
 ·intro ar;refine B 1 ?_;refine eA 2 (pb:=by exact aU (X.v (av (v:=.iface 472 (.pointer (some a0))) isAgg173 rfl A1 hg0 zJ zz rfl)) zT) (k:=?_);refine B 5 ?_;have e1:qn G.g l=1:=ZP yN;exact zQg
 intro ar;refine B 11 ?_;have hv:dU G.g=true:=by simp_all
 refine CJ.loop (α:=Rw×Nat) (λp=>[(2,ptr b2 0),(4,p.1.val (CR G.g (l.take p.2)).length),(15,.slice a l.length cp),(16,ab (l.length:Int)),(17,ab (p.2:Int))]) (λp=>p.1.hp AN 180 (CR G.g (l.take p.2))++[]) (λp=>[w2,w]) (λp=>Gh.no) (λp=>p.2<=l.length/\p.1.Fr Gh.no [w2,w]/\p.1.Fit 2 (CR G.g (l.take p.2))/\(l.take p.2).all (λd=>(xJ G.g d).isSome)=true) (λp=>l.length-p.2) (.nil,0) ⟨cR _,True.intro,rfl,rfl⟩ zR rfl rfl zI ?_;rintro⟨r,j⟩ ⟨hj,aK,ah,hal⟩;dsimp only at hj aK ah hal ⊢;have bG:r.ge w2.heap.size:=Rw.ge_of aK A0;refine B 6 ?_;refine aG ?_ ?_
 ·intro aN;refine B 5 ?_;obtain⟨bo,oo,cs0,to,fV,rfl,fP,cJ,aV⟩:=aJ.get aa;obtain⟨d,hd⟩:=ng l j aa;refine B 2 ?_;refine rv rfl rfl rfl (av (v:=ab d) isAgg3 rfl A1 cJ zJ zz (by have:=nK aV hd rfl zA;simpa[encI]using this)) ?_;refine B 1 ?_;refine yW ?_;intro b7 jN vN;refine B 6 ?_;refine ay (.slice G.ma G.g.ms.length G.mc) ?_;refine B 1 ?_;refine R9 (α:=Int) (v:=λi:Int=>ab i) (Φ:=λi=>fb (λy:Mb=>decide (y.dev=d)) G.g.ms i) call118 rfl rfl rfl (λW hS=>?_) ?_
  ·have yY:=hS.own (b7,_) A0;exact nld (λy:Mb=>decide (y.dev=d)) 119 [ptr b7 0] call119 G.g.ms (by have:=hG.mn;omega) N G.ma G.mc W cM (hG.ms.up (ak _) (hS.same A1 hN zH zF)) (λj x hx W2 hB=>Gj x d b7 W2 (by rw[hB.block b7 (aT.1 yY).1];exact yY))
  intro ix CM;refine B 10 ?_;refine aG ?_ ?_
  ·intro dp;refine B 1 ?_;refine eA 2 (pb:=by exact aU (X.v (av (v:=.iface 472 (.pointer (some a1))) isAgg173 rfl A1 hg1 zJ zz rfl)) zT) (k:=?_);refine B 10 ?_;have e1:qn G.g l=2:=ZQ hv (cO hd) (Sc CM aa);exact zQg
  intro dp;refine B 3 ?_;obtain⟨n,x,rfl,hx,hfx⟩:=(Vr CM).resolve_left (λh=>by have:=h.1;omega);have qB:ee d:=by have h1:=(Aw.1 hv).2.2.1;have h2:=List.find?_some hfx;simp only[decide_eq_true_eq]at h2;exact nnj (by rw[<-h1,<-h2];exact bW.2 ⟨x,cO hx,rfl⟩)
  have hd1:=qB.1;have hd2:=qB.2;have xz:=Lz hfx;obtain⟨bm,om,csm,tm,frm,sa,oB,Qa,Qc⟩:=hG.ms.get UH;have hnx:=nr hx;refine B 2 ?_;refine ay (.agg #[.slice G.na G.g.ns.length G.nc]) ?_;refine B 1 ?_;refine ay (ab (512+d)) ?_;refine call (v:=.tuple #[ab ((ei G.g.ns (512+d)).getD 0),.bool (ei G.g.ns (512+d)).isSome]) call36 rfl rfl rfl (λW hS=>nPc G.g.ns (by have:=hG.nn;omega) N G.na G.nc W cM (hG.ns.up (ak _) (hS.same A1 hN zH zF)) (512+d)) ?_;refine B 10 ?_;refine rq (.slice (some ⟨bm,om,none⟩) G.g.ms.length G.mc) (av isAgg48 rfl A0 di bV zz rfl) (congrArg (λq=>Value.slice q G.g.ms.length G.mc) sa) ?_;refine B 3 ?_;refine rv rfl rfl rfl (av (v:=ab x.ver) isAgg3 rfl A1 Qa zJ zz (by have:=xv Qc hx rfl 2 zA;simpa[qd]using this)) ?_;refine B 2 ?_;refine kh underlying171 sizeOf180 zeroValue180 rfl rfl rfl rfl rfl rfl rfl ?_;refine yW ?_;intro b45 anB anC;refine kg (r:=r) (xs:=(CR G.g (l.take j))) (zs:=[((x.ver,(ei G.g.ns (512+d)).getD 0):Mm)]) (enc:=AN) (m:=2) (H0:=[(b45,oC #[ab x.ver,ab ((ei G.g.ns (512+d)).getD 0)] 180),(b7,oC #[ab d] 3)]) (H1:=[]) zW Sa nsh rfl rfl rfl rfl (cd.one (z:=((x.ver,(ei G.g.ns (512+d)).getD 0):Mm)) nsh Lx underlying171 (bB.own (i:=0) rfl)) ah aK zI (by have h9:=Sb G.g (l.take j);rw[lb]at h9;simp only[dF,fh];omega) ?_
  intro b46 aiK aiL Sd Sf;replace Sd:=yb Sd;refine Cy ?_;refine PJ.again (Rw.row b46 aiK aiL,j+1) ⟨by dsimp only;omega,Sd.elim (λh=>Rw.Fr_at aK h) (λh=>.inr h),by rw[nSh hd xz];exact Sf,by dsimp only;rw[nq hd,List.all_append,hal];simp[xz]⟩ zS ⟨rfl,by rw[nSh hd xz];rfl,rfl,rfl,rfl,trivial⟩ (by rw[nSh hd xz];rfl) rfl zI
 intro aN;refine B 13 ?_;have y4:j=l.length:=by omega
 rw[y4,vS]at hal ah ⊢;have e1:qn G.g l=0:=ZR hv hal;have e2:Gk G.g l=CR G.g l:=by unfold Gk;rw[e1];rfl
 rw[e1,e2];exact nP (H0:=[]) (H1:=[]) (r:=r) (.inl rfl) results68 aX A1 (by rw[eb];exact Rw.over (Rw.ge_mono bG aa)) rfl ah (Rw.ge_mono bG aa) zI
end Px
