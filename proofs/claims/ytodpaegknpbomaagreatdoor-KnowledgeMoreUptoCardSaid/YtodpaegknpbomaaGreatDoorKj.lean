/- Contracts of functions of the program. No condition beyond those stated. -/
import Derived.Test.YtodpaegknpbomaaGreatDoorKi
import Derived.Test.YtodpaegknpbomaaGreatDoorProg
set_option linter.unusedSimpArgs false
set_option linter.unusedVariables false
set_option linter.unusedSectionVars false
set_option linter.unnecessarySimpa false
set_option maxRecDepth 20000
set_option maxHeartbeats 8000000
namespace Px
open Go Go.RowKit Go.Proofs Go.Proofs.Tryz
structure ChI (x:Ch):Prop where
 kind:jR x.kind
 dev:jR x.dev
 pub:jR x.pub
 ver:jR x.ver
 cut:jR x.cut
structure BxI (x:Bx):Prop where
 node:jR x.node
 level:jR x.level
 u:jR x.w.u
structure WeI (x:We):Prop where
 dev:jR x.dev
 u:jR x.w.u
structure MA (c:Cm):Prop where
 folder:jR c.folder
 epoch:jR c.epoch
 par:ec c.par
 author:jR c.author
 chs:∀x∈c.chs,ChI x
 path:∀x∈c.path,jR x
 bxs:∀x∈c.bxs,BxI x
 wes:∀x∈c.wes,WeI x
 conf:ec c.conf
 sr:jR c.sr
 ss:jR c.ss
 lim:FB c
theorem n9f(n:Nat)(hn:n<=100):∀ls:List (List V),(∀l∈ls,l.all vw=true/\l.length<=n/\V.fineL l)->V.fineL (ls.map V.list)/\V.depthL (ls.map V.list)<=1
 | [],_=>by simp[V.fineL,V.depthL]
 |l::ls,h=>by
  obtain⟨h1,h2⟩:=n9f n hn ls (λx hx=>h x (.tail _ hx));obtain⟨g1,g2,g3⟩:=h l A0;obtain⟨_,g4⟩:=ncf l g1 g3;simp only[dt,V.fineL,V.fine,V.depthL,V.depth,g4];exact⟨⟨⟨by omega,by omega,g3⟩,h1⟩,by omega⟩
theorem nFl:∀l:List Int,(∀x∈l,jR x)->V.fineL (l.map V.int)/\V.depthL (l.map V.int)=0
 | [],_=>by simp[V.fineL,V.depthL]
 |y::l,h=>by
  obtain⟨h1,h2⟩:=nFl l (λx hx=>h x (.tail _ hx));simp only[dt,V.fineL,V.fine,V.depthL,V.depth,h2];exact⟨⟨h y A0,h1⟩,by omega⟩
theorem nRf{l:List V}(h:V.fineL l)(hl:l.length<=1000000000)(hd:V.depthL l<=1000000000):V.fine (.list l):=by simp only[V.fine];exact⟨hl,hd,h⟩
theorem Hw{c:Cm}(h:sT c=true):(∀x∈c.bxs,x.w.body.length<=200)/\(∀x∈c.wes,x.w.body.length<=200)/\c.chs.length<=10/\c.path.length<=12/\c.bxs.length<=40/\c.wes.length<=10:=by
 simpa[sT,and_assoc]using h
theorem MB{c:Cm}(h:MA c)(hf:sT c=true):bP c:=by
 obtain⟨f1,f2,f3,f4,f5,f6⟩:=Hw hf;refine⟨⟨h.par,h.conf,f3,f4,f5,f6,f1,f2⟩,?_⟩;have a1:=n9f 100 zB (c.chs.map BW) (λl hl=>by
  obtain⟨x,hx,rfl⟩:=bY.1 hl;have g:=h.chs x hx;refine⟨by simp[BW,vw],by simp[BW],?_⟩;simp only[BW,V.fineL,V.fine];exact⟨g.kind,g.dev,g.pub,g.ver,g.cut,trivial⟩)
 have a2:=nFl c.path h.path;have a3:=n9f 100 zB (c.bxs.map uF) (λl hl=>by
  obtain⟨x,hx,rfl⟩:=bY.1 hl;have g:=h.bxs x hx;have g2:=f1 x hx;refine⟨by simp[uF,vw],by simp[uF],?_⟩;simp only[uF,V.fineL,V.fine];exact⟨g.node,g.level,g.u,by rw[EI];omega,trivial⟩)
 have a4:=n9f 100 zB (c.wes.map uG) (λl hl=>by
  obtain⟨x,hx,rfl⟩:=bY.1 hl;have g:=h.wes x hx;have g2:=f2 x hx;refine⟨by simp[uG,vw],by simp[uG],?_⟩;simp only[uG,V.fineL,V.fine];exact⟨g.dev,g.u,by rw[EI];omega,trivial⟩)
 simp only[mC,V.fineL];refine⟨by simp only[V.fine];exact h.folder,by simp only[V.fine];exact h.epoch,by simp only[V.fine];rw[EI,nH];omega,by simp only[V.fine];exact h.author,nRf a1.1 (by simp only[eG];omega) aa,nRf a2.1 (by simp only[eG];omega) aa,nRf a3.1 (by simp only[eG];omega) aa,nRf a4.1 (by simp only[eG];omega) aa,by simp only[V.fine];rw[EI,nH];omega,by simp only[V.fine];exact h.sr,by simp only[V.fine];exact h.ss,trivial⟩
structure GrIn (x:Gr):Prop where
 bf:ec x.f
 bo:∀o∈x.olds,ec o.f
 i:jR x.folder/\jR x.by_/\jR x.device/\jR x.pub
 io:∀o∈x.olds,jR o.w.u
structure tN (r:Rcd):Prop where
 cm:∀c∈r.cs,MA c
 gr:∀g∈r.gs,GrIn g
 ir:∀x∈r.xs,IrGood x
variable {gs:List Gr} {xs:List Ir} {os:List Ow} {r:Rcd}
theorem OQ(h:rE r=true):r.fos.length<=3/\r.cs.length<=7/\(∀c∈r.cs,sT c=true)/\r.gs.length<=4/\r.xs.length<=4/\r.os.length<=20/\∀g∈r.gs,g.olds.length<=6:=by
 simpa[rE,zm,and_assoc,rZ]using h
theorem tN.ok(h:tN r)(hf:rE r=true):jl r:=by
 obtain⟨h1,h2,h3,h4,h5,h6,h7⟩:=OQ hf;exact⟨by omega,by omega,by omega,λc hc=>MB (h.cm c hc) (h3 c hc),by omega,λg hg=>⟨h7 g hg,(h.gr g hg).bf,(h.gr g hg).bo,(h.gr g hg).i,(h.gr g hg).io⟩,by omega,h.ir⟩
theorem nGn(Z:Fx)(cs:List Cm):∀(n:Nat) (qs:List (Nat×Gp)),(CV Z cs n qs).length<=n
 |0,_=>ak 0
 |_+1,[]=>cV _
 |n+1,q::qs=>Nat.succ_le_succ (nGn Z cs n (qs++zq Z cs q))
theorem Hx(Z:Fx)(cs:List Cm)(fo:Fo):(mN Z cs fo).length<=cs.length+1:=by grind [mN,nGn]
theorem nAl(Z:Fx)(cs:List Cm):∀fos:List Fo,(iE Z cs fos).length<=fos.length*(cs.length+1)
 | []=>by simp[iE]
 |f::l=>by
  have h1:=nAl Z cs l;have h2:(B9 Z cs f).length<=cs.length+1:=dG (FP _ _ _) (Hx Z cs f);unfold iE at h1 ⊢;rw[Uu,ck,dC,pE];omega
theorem Hy(hr:jl r)(Z:Fx)(dv:Int):(r.fs Z dv).length<=200:=by
 have h1:=Lg (r.fs0 Z dv);have h2:=nwj r.os dv;have h3:=n1j (iE Z r.cs r.fos) dv;have h4:=nAl Z r.cs r.fos;have h5:r.fos.length*(r.cs.length+1)<=10*11:=Nat.mul_le_mul hr.fl (by have:=hr.cl;omega);have h7:=hr.ol;all_goals grind [Rcd.fs,Rcd.fs0]
theorem Tu{xs ys:List Se}(h:∀s∈xs,s∈ys):wJ xs ys=true:=by grind [wJ]
theorem nMj{D D':List (List Se×Se)}{L L' ls ls':List Se}{n n':Nat}(h:kJ D L n ls)(h':kJ D' L' n' ls')(hD:∀d∈D,d∈D')(hL:∀s∈L,s∈L'):wJ (cA ls) (cA ls')=true:=
 Tu λs hs=>(ndg h' s).2 (((ndg h s).1 hs).mono hD hL)
theorem nBl{Z:Fx}{dv:Int}{s:Se}:s∈r.fs Z dv↔s∈pL r.os dv\/s∈si (iE Z r.cs r.fos) dv:=by grind [Rcd.fs,CU,Rcd.fs0]
theorem HA{dv:Int}{s:Se}:s∈pL os dv↔∃o∈os,o.1=dv/\aS o.2=s:=by
 unfold pL;simp[bY,wD,and_assoc]
section
variable {C:Cx} {Q:aZ} {E:Env} {D:List Deferred} {G:Gh} {L L':List World} {H:ad} {ops:Array Oper} {l:List Oper}
theorem St.dropAll{W:World}:∀{H:ad},St G L H W->(∀p∈H,ae L p.1)->St G L [] W
 | [],h,_=>h
 |p::_,h,ha=>St.dropAll (h.dropAt (i:=0) (b:=p.1) (o:=p.2) rfl (ha p A0)) λq hq=>ha q (.tail _ hq)
theorem PJ.resnapA{e:Exit}(hb:∀p∈H,ae L' p.1)(hs:∀w∈L',w∈L)(k:∀W,St G L H W->PJ C Q e E D G (W::L') []):PJ C Q e E D G L H:=
 λa W hN hD hF hS=>k W hS a W hN hD hF ((hS.lessL hs).dropAll hb).snap
theorem OJ.resnapA(hb:∀p∈H,ae L' p.1)(hs:∀w∈L',w∈L)(k:∀W,St G L H W->OJ C ops Q l E D G (W::L') []):OJ C ops Q l E D G L H:=
 λa W hN hD hF hS=>k W hS a W hN hD hF ((hS.lessL hs).dropAll hb).snap
end
section
variable {Z:Fx} (hZ:FxOk Z) (r:Rcd) (hr:jl r) (N:Nat) (w:World) (hN:N<=w.heap.size) (hrA:fP N w r) (hg:Glb w)
include hZ hr hN hrA hg
theorem njk(dv:Int):Calls prog 11 #[.agg (rdA r),ab dv] w (cN w (λq:Option Addr×Nat=>.slice q.1 (r.fs Z dv).length q.2) (λq w1=>ai seA 35 w1.heap.size w1 q.1 (r.fs Z dv))):=
 (nQe hZ r hr N w hN hrA hg dv).mono λe w' h=>let⟨q,he,hb,hs⟩:=aD.X nu h;⟨q,he,hb,hs.1⟩
theorem VG(a0 a1:Addr)(hse:Sen w a0 a1)(qa:Option Addr)(L0:List Se)(qc:Nat)(SN:L0.length<=50000)(LL:ai seA 35 N w qa L0):Calls prog 15 #[.agg (rdA r),.slice qa L0.length qc] w (cN w (λq:(Option Addr×Nat)×List Se=>.slice q.1.1 (cA q.2).length q.1.2) (λq w1=>ai seA 35 w1.heap.size w1 q.1.1 (cA q.2)/\kJ (r.D Z) L0 71000 q.2)):=
 (nhe hZ r hr N w hN hrA hg a0 a1 hse qa L0 qc SN LL).mono (by
  rintro e w' ⟨ls,hl,h⟩;obtain⟨q,he,hb,hs,_⟩:=aD.X nu h;exact⟨(q,ls),he,hb,hs,hl⟩)
end

def grE (x:Gr):List Value:=(grA x).toList
theorem nmf(x:Gr):(grE x).length=39:=rfl
theorem ngo(x:Gr):∀u∈grE x,u.oneCell'=true:=II rfl
def irE (x:Ir):List Value:=(irA x).toList
theorem nxf(x:Ir):(irE x).length=68:=rfl
theorem nMn(x:Ir):∀u∈irE x,u.oneCell'=true:=II rfl
theorem MC:prog.info? 87=some Tryz.t87:=by kernel_rfl
theorem MD:prog.info? 121=some Tryz.t121:=by kernel_rfl
theorem HB:iR prog 25 87 39:=⟨underlying25,Tryz.t87,_,MC,rfl,rfl,rfl,by decide⟩
theorem HC:iR prog 26 121 68:=⟨underlying26,Tryz.t121,_,MD,rfl,rfl,rfl,by decide⟩
theorem CJ.resnapA{C:Cx}{Q:aZ}{E:Env}{D:List Deferred}{G:Gh}{L L':List World}{H:ad}{c:Code}(hb:∀p∈H,ae L' p.1)(hs:∀w∈L',w∈L)(k:∀W,St G L H W->CJ C c Q E D G (W::L') []):CJ C c Q E D G L H:=
 λa W hN hD hF hS=>k W hS a W hN hD hF ((hS.lessL hs).dropAll hb).snap
abbrev Rcd.more (r:Rcd) (oa:Option Addr) (os:List Ow) (oc:Nat) (ga:Option Addr) (gs:List Gr) (gc:Nat) (ia:Option Addr) (xs:List Ir) (ic:Nat):Rcd:=⟨r.fa,r.fos,r.fc,oa,r.os++os,oc,r.la,r.cs,r.lc,ga,r.gs++gs,gc,ia,r.xs++xs,ic,r.o5,r.o6,r.o7⟩
theorem HD{Z:Fx}{oa ga ia:Option Addr}{oc gc ic:Nat}:∀d∈r.D Z,d∈(r.more oa os oc ga gs gc ia xs ic).D Z:=by
 intro d hd;unfold Rcd.D mP at hd ⊢;simp only[List.flatMap_append,bA]at hd ⊢;rcases hd with(h|h)|h
 ·exact .inl (.inl h)
 ·exact .inl (.inr (.inl h))
 exact .inr (.inl h)
theorem ME{Z:Fx}{oa ga ia:Option Addr}{oc gc ic:Nat}{dv:Int}:∀s∈r.fs Z dv,s∈(r.more oa os oc ga gs gc ia xs ic).fs Z dv:=by
 intro s hs;rcases nBl.1 hs with h|h
 ·obtain⟨o,ho,e⟩:=HA.1 h;exact nBl.2 (.inl (HA.2 ⟨o,wX _ ho,e⟩))
 exact nBl.2 (.inr h)
theorem HE{oa ga ia:Option Addr}{oc gc ic:Nat}(h:rE (r.more oa os oc ga gs gc ia xs ic)=true):rE r=true:=by
 obtain⟨h1,h2,h3,h4,h5,h6,h7⟩:=OQ h;have h4:(r.gs++gs).length<=4:=h4;have h5:(r.xs++xs).length<=4:=h5;have h6:(r.os++os).length<=20:=h6;have h7:∀g∈r.gs++gs,g.olds.length<=6:=h7;simp only[ck]at h4 h5 h6;simp only[rE,zm,oh,decide_eq_true_eq,rZ];exact⟨⟨⟨⟨⟨h1,h2,h3⟩,by omega⟩,by omega⟩,by omega⟩,λg hg=>h7 g (wX _ hg)⟩
theorem MF{oa ga ia:Option Addr}{oc gc ic:Nat}(h:tN r)(hg:∀g∈gs,GrIn g)(hx:∀x∈xs,IrGood x):tN (r.more oa os oc ga gs gc ia xs ic):=
 ⟨h.cm,λg h1=>(bA.1 h1).elim (h.gr g) (hg g),λx h1=>(bA.1 h1).elim (h.ir x) (hx x)⟩
theorem law_more{Z:Fx}(hZ:FxOk Z)(r:Rcd)(hri:tN r)(hlm:vd r)(N:Nat)(w:World)(hN:N<=w.heap.size)(hrA:fP N w r)(hg:Glb w)(Ma:Lab w)(a0 a1:Addr)(hse:Sen w a0 a1)(pa qa oa2 ga2 ia2:Option Addr)(lp lq:List Se)(pP:List Ow)(oB:List Gr)(oD:List Ir)(pcp qcp oc2 gc2 ic2:Nat)(im:lp.length<=100000000)(SN:lq.length<=100000000)(xF:r.os.length+pP.length<=2000000)(Pr:r.gs.length+oB.length<=2000000)(hxl:r.xs.length+oD.length<=2000000)(iJ:ai seA 35 N w pa lp)(LL:ai seA 35 N w qa lq)(hos:ai owA 2 N w oa2 pP)(ZP:ai grA 39 N w ga2 oB)(Vt:∀g∈oB,GrAt N w g)(ZS:∀g∈oB,GrIn g)(IE:ai irA 68 N w ia2 oD)(hxA:∀x∈oD,ByAt N w x.ba x.body)(hxi:∀x∈oD,IrGood x)(hone:aV [r.o5,r.o6,r.o7]=true)(dv:Int):Calls prog 5 #[.agg (rdA r),.slice pa lp.length pcp,.slice qa lq.length qcp,.slice ga2 oB.length gc2,.slice ia2 oD.length ic2,.slice oa2 pP.length oc2,ab dv] w (aM w (cX)):=by
 have hg4:=hg.lt;refine enter (vs:=[_,_,_,_,_,_,_]) func5 rfl ntmps5 rfl ?_;refine B 2 ?_;refine yX ?_;intro b7 w7 vq vQ hz7 jy vr;refine B 6 ?_;refine call (v:=.bool true) call7 rfl rfl rfl (λW hS=>Hs hZ W (hg.old hS A1 zI trivial) (Ma.old hS A1 zL trivial) a0 a1 (hse.old hS A1)) ?_;refine rq bG (iT rfl) (by rfl) ?_;refine B 7 ?_;refine rr (.agg (rdA r)) (cd isAgg31 sizeOf31 rfl A0 vq vQ trivial rfl) ?_;refine Cj zeroValue31 rfl rfl ?_;refine yW ?_;intro di BV EJ;refine gK (i:=0) rfl sizeOf31 rfl rfl rfl rfl rfl hone ?_;refine B 4 ?_;refine iS underlying25 sizeOf87 zeroValue87 rfl rfl rfl rfl rfl rfl rfl ?_;refine yW ?_;intro kZ P4 P5;refine B 1 ?_;refine rr (.slice r.ga r.gs.length r.gc) (av isAgg25 rfl A0 vq vQ zM rfl) ?_;refine CP (b:=kZ) (cap:=0) (sp:=[]) (xs:=[]) (zs:=r.gs) (enc:=grE) (m:=39) (H0:=[]) rfl HB nmf rfl rfl rfl rfl (bO.sl nmf ngo underlying25 A1 hrA.g (λb hb=>⟨λh=>h,by simp only[aY,gi,ef,cW,dB,ne_eq,and_true];omega⟩)) ⟨ak _,rfl⟩ (.inr zD) OR ?_;intro ky c27 s27 aaV fw;have BC:ae [w7,w] ky:=aaV.elim (λh=>h▸zD) id;simp only[ae,and_true]at BC;refine B 1 ?_;refine CP (b:=ky) (cap:=c27) (sp:=s27) (xs:=r.gs) (zs:=oB) (enc:=grE) (m:=39) (H0:=[]) rfl HB nmf rfl rfl rfl rfl (bO.sl nmf ngo underlying25 A1 ZP (λb hb=>⟨λh=>h,by simp only[aY,gi,ef,cW,dB,ne_eq,and_true];omega⟩)) fw (.inr zD) OR ?_
 intro mZ tO s29 aaW Tv;have aaP:ae [w7,w] mZ:=aaW.elim (λh=>h▸zD) id;simp only[ae,and_true]at aaP;refine B 1 ?_;refine jP (i:=1) rfl sizeOf25 rfl rfl rfl rfl (dO rfl) rfl ?_;refine B 4 ?_;refine iS underlying26 sizeOf121 zeroValue121 rfl rfl rfl rfl rfl rfl rfl ?_;refine yW ?_;intro gY lh LW;refine B 1 ?_;refine rr (.slice r.ia r.xs.length r.ic) (av isAgg26 rfl A0 vq vQ zM rfl) ?_;refine CP (b:=gY) (cap:=0) (sp:=[]) (xs:=[]) (zs:=r.xs) (enc:=irE) (m:=68) (H0:=[]) rfl HC nxf rfl rfl rfl rfl (bO.sl nxf nMn underlying26 A1 hrA.i (λb hb=>⟨λh=>h,by simp only[aY,gi,ef,cW,dB,ne_eq,and_true];omega⟩)) ⟨ak _,rfl⟩ (.inr zD) OR ?_;intro eH c34 s34 aaX Tw;have iz:ae [w7,w] eH:=aaX.elim (λh=>h▸zD) id;simp only[ae,and_true]at iz;refine B 1 ?_;refine CP (b:=eH) (cap:=c34) (sp:=s34) (xs:=r.xs) (zs:=oD) (enc:=irE) (m:=68) (H0:=[]) rfl HC nxf rfl rfl rfl rfl (bO.sl nxf nMn underlying26 A1 IE (λb hb=>⟨λh=>h,by simp only[aY,gi,ef,cW,dB,ne_eq,and_true];omega⟩)) Tw (.inr zD) OR ?_;intro rM tP s36 aaY Tx;have ak0:ae [w7,w] rM:=aaY.elim (λh=>h▸zD) id;simp only[ae,and_true]at ak0;refine B 1 ?_;refine jP (i:=2) rfl sizeOf26 rfl rfl rfl rfl (dO rfl) rfl ?_;refine B 4 ?_;refine iS underlying23 sizeOf71 zeroValue71 rfl rfl rfl rfl rfl rfl rfl ?_
 refine yW ?_;intro b38 af3 af4;refine B 1 ?_;refine rr (.slice r.oa r.os.length r.oc) (av isAgg23 rfl A0 vq vQ zM rfl) ?_;refine CP (b:=b38) (cap:=0) (sp:=[]) (xs:=[]) (zs:=r.os) (enc:=Cg) (m:=2) (H0:=[]) rfl nzl OL rfl rfl rfl rfl (bO.sl OL nEj underlying23 A1 hrA.o (λb hb=>⟨λh=>h,by simp only[aY,gi,ef,cW,dB,ne_eq,and_true];omega⟩)) ⟨ak _,rfl⟩ (.inr zD) OR ?_;intro b41 c41 s41 aaZ Ty;have LU:ae [w7,w] b41:=aaZ.elim (λh=>h▸zD) id;simp only[ae,and_true]at LU;refine B 1 ?_;refine CP (b:=b41) (cap:=c41) (sp:=s41) (xs:=r.os) (zs:=pP) (enc:=Cg) (m:=2) (H0:=[]) rfl nzl OL rfl rfl rfl rfl (bO.sl OL nEj underlying23 A1 hos (λb hb=>⟨λh=>h,by simp only[aY,gi,ef,cW,dB,ne_eq,and_true];omega⟩)) Ty (.inr zD) OR ?_;intro rO tQ s43 aa0 Tz;have ak1:ae [w7,w] rO:=aa0.elim (λh=>h▸zD) id;simp only[ae,and_true]at ak1;refine B 1 ?_;refine jP (i:=3) rfl sizeOf23 rfl rfl rfl rfl (dO rfl) rfl ?_;refine B 4 ?_;refine CJ.reH (H':=[(rO,aO Cg 71 (r.os++pP) s43),(rM,aO irE 121 (r.xs++oD) s36),(mZ,aO grE 87 (r.gs++oB) s29),(di,oC (rdA (r.more (aj rO) pP tQ (aj mZ) oB tO (aj rM) oD tP)) 31)]) rfl ?_;refine CJ.resnapA (L':=[w7,w]) (λp hp=>by simp only[bX,dy,or_false]at hp;rcases hp with rfl|rfl|rfl|rfl<;>(simp only[ae,and_true];omega)) (λ_ h=>h) (λlH Ac=>?_)
 have Gw:=(Ac.links w A1).size;have u9:¬Gh.no.X di:=λh=>h;have u7:lH.heap[di]? =some (oC (rdA (r.more (aj rO) pP tQ (aj mZ) oB tO (aj rM) oD tP)) 31):=Ac.own (di,_) A3;have qO:=hrA.up (dG hN Gw) (Ac.same A1 hN zI Au);have aa1:∀k,k<N->lH.heap[k]? =w.heap[k]? :=Ac.same A1 hN zI Au;have hyA:fP lH.heap.size lH (r.more (aj rO) pP tQ (aj mZ) oB tO (aj rM) oD tP):=⟨qO.f,VE OL Tz (Ac.own (rO,_) A0),qO.c,qO.C,VE nmf Tv (Ac.own (mZ,_) A2),λg hg=>(bA.1 hg).elim (qO.G g) (λh=>(Vt g h).up (dG hN Gw) aa1),VE nxf Tx (Ac.own (rM,_) A1),λx hx=>(bA.1 hx).elim (qO.I x) (λh=>(hxA x h).up (dG hN Gw) aa1)⟩;have BB:vd (r.more (aj rO) pP tQ (aj mZ) oB tO (aj rM) oD tP):=⟨hlm.f,by show(r.gs++oB).length<=_;rw[ck];omega,by show(r.xs++oD).length<=_;rw[ck];omega,by show(r.os++pP).length<=_;rw[ck];omega,hlm.c⟩;cases hf:rE (r.more (aj rO) pP tQ (aj mZ) oB tO (aj rM) oD tP)with
 |false=>
  refine B 1 ?_;refine rr (.agg (rdA (r.more (aj rO) pP tQ (aj mZ) oB tO (aj rM) oD tP))) (cd isAgg31 sizeOf31 rfl A0 u7 u9 trivial rfl) ?_;refine call (v:=.bool false) call8 rfl rfl rfl (λW hS=>by rw[<-hf];exact nfh (r.more (aj rO) pP tQ (aj mZ) oB tO (aj rM) oD tP) BB lH.heap.size W (hS.links lH A0).size (hyA.up (ak _) (hS.same A0 (ak _) zI trivial))) ?_;refine B 21 ?_;refine aF results5 rfl A2 ?_;rfl
 |true=>
  by_cases h1:lp.length<=10
  ·by_cases h2:lq.length<=10
   ·have hy:=(MF hri ZS hxi).ok hf;have hr:=hri.ok (HE hf);have hlr:=Hy hr Z dv;have hly:=Hy hy Z dv;refine B 1 ?_;refine zWc ?_;refine B 4 ?_;refine zYd ?_;refine B 4 ?_;refine zYd ?_;refine B 8 ?_;refine rr (.agg (rdA r)) (cd isAgg31 sizeOf31 rfl A1 vq vQ trivial rfl) ?_;refine B 1 ?_;refine nv (α:=(Option Addr×Nat)×List Se) (v:=λq=>.slice q.1.1 (cA q.2).length q.1.2) (Φ:=λ_ q w1=>ai seA 35 w1.heap.size w1 q.1.1 (cA q.2)/\kJ (r.D Z) lp 71000 q.2) call15 rfl rfl rfl (λW hS=>VG hZ r hr W.heap.size W (ak _) (hrA.up (dG hN (hS.links w A2).size) (hS.same A2 hN zI trivial)) (hg.old hS A2 zI trivial) a0 a1 (hse.old hS A2) _ _ _ aa (iJ.up (dG hN (hS.links w A2).size) (hS.same A2 hN zI trivial))) ?_;rintro _ ⟨⟨a60,c60⟩,l60⟩ vk _ _ ⟨TA,MG⟩;try dsimp only at TA MG
    have aoD:=Lg l60;have amT:=MG.ln;refine B 4 ?_;refine CJ.less (E':=[(0,_),(1,_),(2,_),(3,_),(4,_),(5,_),(6,_),(7,_),(14,_),(15,_),(16,_),(21,_),(22,_),(23,_),(24,_),(25,_),(26,_),(27,_),(28,_),(29,_),(30,_),(31,_),(32,_),(33,_),(34,_),(35,_),(36,_),(37,_),(38,_),(39,_),(40,_),(41,_),(42,_),(43,_),(44,_),(45,_),(46,_),(47,_),(48,_),(49,_),(50,_),(51,_),(52,_),(53,_),(54,_),(55,_),(56,_),(57,_),(58,_),(59,_),(60,_)]) zR ?_;refine CJ.chn 6 [1,3,5] [_,none,_,none,_,none] (λcv L' H'=>match cv with| []=>L'=[vk,lH,w7,w]/\H'=[]| [v1]=>∃(eZ:Nat),v1= .slice (aj eZ) 0 0/\L'=[vk,lH,w7,w]/\H'=[(eZ,aO dJ 35 [] [])]/\(vk.heap.size<=eZ/\lH.heap.size<=eZ/\w7.heap.size<=eZ/\w.heap.size<=eZ/\True)| [v1,v2]=>∃(eZ:Nat) (tR:Nat) (c64:Nat) (I6:List Value),v1= .slice (aj eZ) 0 0/\v2= .slice (aj tR) lp.length c64/\L'=[vk,lH,w7,w]/\H'=[(tR,aO dJ 35 lp I6)]/\(vk.heap.size<=eZ/\lH.heap.size<=eZ/\w7.heap.size<=eZ/\w.heap.size<=eZ/\True)/\(vk.heap.size<=tR/\lH.heap.size<=tR/\w7.heap.size<=tR/\w.heap.size<=tR/\True)/\(Rw.row tR c64 I6).Fit 35 lp| [v1,v2,v3]=>∃(eZ:Nat) (tR:Nat) (c64:Nat) (I6:List Value) (wO:Nat) (c66:Nat) (s66:List Value),v1= .slice (aj eZ) 0 0/\v2= .slice (aj tR) lp.length c64/\v3= .slice (aj wO) (lp++lq).length c66/\L'=[vk,lH,w7,w]/\H'=[(wO,aO dJ 35 (lp++lq) s66)]/\(vk.heap.size<=eZ/\lH.heap.size<=eZ/\w7.heap.size<=eZ/\w.heap.size<=eZ/\True)/\(vk.heap.size<=tR/\lH.heap.size<=tR/\w7.heap.size<=tR/\w.heap.size<=tR/\True)/\(Rw.row tR c64 I6).Fit 35 lp/\(vk.heap.size<=wO/\lH.heap.size<=wO/\w7.heap.size<=wO/\w.heap.size<=wO/\True)/\(Rw.row wO c66 s66).Fit 35 (lp++lq)|_=>False) (pc zcx (pk (pc zN (pk (pc zN (pk (pn))))))) ?_ ?_
    ·refine ss rfl ?_ ?_
     ·intro cv L' H' hl hP F Q' hk;obtain rfl:=kX hl;obtain⟨rfl,rfl⟩:=hP;refine IS ?_;exact zvg
     refine ss rfl ?_ ?_
     ·intro cv L' H' hl hP F Q' hk;obtain⟨v1,rfl⟩:=iw hl;obtain⟨eZ,rfl,rfl,rfl,nt⟩:=hP;refine CP (b:=eZ) (cap:=0) (sp:=[]) (xs:=[]) (zs:=lp) (enc:=dJ) (m:=35) (H0:=[]) (H1:=[]) rfl Of nu rfl rfl rfl rfl (bO.sl nu IQ underlying38 A3 iJ (λb hb=>⟨λh=>h,by simp only[aY,and_true];omega⟩)) ⟨ak _,rfl⟩ (.inr nt) OR ?_;intro b_ c_ s_ pM ft;have mE:ae [vk,lH,w7,w] b_:=pM.elim (λh=>h▸nt) id;exact OJ.done (hk _ _ _ ⟨eZ,b_,c_,s_,rfl,rfl,rfl,rfl,nt,mE,ft⟩)
     refine ss rfl ?_ ?_
     ·intro cv L' H' hl hP F Q' hk;obtain⟨v1,v2,rfl⟩:=pS hl;obtain⟨eZ,tR,c64,I6,rfl,rfl,rfl,rfl,nt,tS,rP⟩:=hP;refine CP (b:=tR) (cap:=c64) (sp:=I6) (xs:=lp) (zs:=lq) (enc:=dJ) (m:=35) (H0:=[]) (H1:=[]) rfl Of nu rfl rfl rfl rfl (bO.sl nu IQ underlying38 A3 LL (λb hb=>⟨λh=>h,by simp only[aY,and_true];omega⟩)) rP (.inr tS) OR ?_;intro b_ c_ s_ pM ft;have mE:ae [vk,lH,w7,w] b_:=pM.elim (λh=>h▸tS) id;exact OJ.done (hk _ _ _ ⟨eZ,tR,c64,I6,b_,c_,s_,rfl,rfl,rfl,rfl,rfl,nt,tS,rP,mE,ft⟩)
     exact nn
    intro cv L' H' hl hP;obtain⟨v1,v2,v3,rfl⟩:=mj hl;obtain⟨eZ,tR,c64,I6,wO,c66,s66,rfl,rfl,rfl,rfl,rfl,nt,tS,rP,HF,kI⟩:=hP;simp only[and_true]at HF;refine OJ.resnapA (L':=[vk,lH,w7,w]) (λp hp=>by simp only[bX,dy,or_false]at hp;subst hp;simp only[ae,and_true];exact HF) (λ_ h=>h) (λAd NW=>?_);have ze:ai seA 35 Ad.heap.size Ad (aj wO) (lp++lq):=VE (enc:=dJ) nu kI (NW.own _ A0);refine nv (α:=(Option Addr×Nat)×List Se) (v:=λq=>.slice q.1.1 (cA q.2).length q.1.2) (Φ:=λ_ q w1=>ai seA 35 w1.heap.size w1 q.1.1 (cA q.2)/\kJ (r.D Z) (lp++lq) 71000 q.2) call15 rfl rfl rfl (λW hS=>VG hZ r hr W.heap.size W (ak _) (hrA.up (dG hN (hS.links w A4).size) (hS.same A4 hN zI trivial)) (hg.old hS A4 zI trivial) a0 a1 (hse.old hS A4) (aj wO) (lp++lq) c66 (by rw[ck];omega) (ze.up (hS.links Ad A0).size (hS.same A0 (ak _) zI trivial))) ?_;rintro _ ⟨⟨a67,c67⟩,l67⟩ sh _ _ ⟨aa4,TB⟩;try dsimp only at aa4 TB
    have aoE:=Lg l67;have amU:=TB.ln;refine B 5 ?_;refine rr (.agg (rdA (r.more (aj rO) pP tQ (aj mZ) oB tO (aj rM) oD tP))) (cd isAgg31 sizeOf31 rfl A3 u7 u9 trivial rfl) ?_;refine B 1 ?_;refine nv (α:=(Option Addr×Nat)×List Se) (v:=λq=>.slice q.1.1 (cA q.2).length q.1.2) (Φ:=λ_ q w1=>ai seA 35 w1.heap.size w1 q.1.1 (cA q.2)/\kJ ((r.more (aj rO) pP tQ (aj mZ) oB tO (aj rM) oD tP).D Z) lp 71000 q.2) call15 rfl rfl rfl (λW hS=>VG hZ (r.more (aj rO) pP tQ (aj mZ) oB tO (aj rM) oD tP) hy W.heap.size W (ak _) (hyA.up (hS.links lH A3).size (hS.same A3 (ak _) zI trivial)) (hg.old hS A5 zI trivial) a0 a1 (hse.old hS A5) _ _ _ aa (iJ.up (dG hN (hS.links w A5).size) (hS.same A5 hN zI trivial))) ?_;rintro _ ⟨⟨a70,je⟩,l70⟩ w70 _ _ ⟨aa6,TC⟩;try dsimp only at aa6 TC
    have aoF:=Lg l70;have amV:=TC.ln;refine B 4 ?_;refine CJ.less (E':=[(0,_),(1,_),(2,_),(3,_),(4,_),(5,_),(6,_),(7,_),(14,_),(15,_),(16,_),(17,_),(18,_),(21,_),(22,_),(23,_),(24,_),(25,_),(26,_),(27,_),(28,_),(29,_),(30,_),(31,_),(32,_),(33,_),(34,_),(35,_),(36,_),(37,_),(38,_),(39,_),(40,_),(41,_),(42,_),(43,_),(44,_),(45,_),(46,_),(47,_),(48,_),(49,_),(50,_),(51,_),(52,_),(53,_),(54,_),(55,_),(56,_),(57,_),(58,_),(59,_),(60,_),(61,_),(62,_),(63,_),(64,_),(65,_),(66,_),(67,_),(68,_),(69,_),(70,_)]) zR ?_;refine CJ.chn 4 [3] [_,_,_,none] (λcv L' H'=>match cv with| []=>L'=[w70,sh,Ad,vk,lH,w7,w]/\H'=[]| [v1]=>∃(a74:Option Addr) (c74:Nat) (OS:World),v1= .slice a74 (r.fs Z dv).length c74/\L'=[OS,w70,sh,Ad,vk,lH,w7,w]/\H'=[]/\ai seA 35 OS.heap.size OS a74 (r.fs Z dv)|_=>False) (pc zcy (pc zcy (pc zN (pk (pn))))) ?_ ?_
    ·refine ss rfl ?_ ?_
     ·intro cv L' H' hl hP F Q' hk;obtain rfl:=kX hl;obtain⟨rfl,rfl⟩:=hP;refine nv (α:=Option Addr×Nat) (v:=λq=>.slice q.1 (r.fs Z dv).length q.2) (Φ:=λ_ q w1=>ai seA 35 w1.heap.size w1 q.1 (r.fs Z dv)) call11 rfl rfl rfl (λW hS=>njk hZ r hr N W (dG hN (hS.links w A6).size) (hrA.up (ak _) (hS.same A6 hN zI trivial)) (hg.old hS A6 zI trivial) dv) ?_;exact zCh
     exact nn
    intro cv L' H' hl hP;obtain⟨v1,rfl⟩:=iw hl;obtain⟨a74,c74,OS,rfl,rfl,rfl,aa7⟩:=hP;refine nv (α:=(Option Addr×Nat)×List Se) (v:=λq=>.slice q.1.1 (cA q.2).length q.1.2) (Φ:=λ_ q w1=>ai seA 35 w1.heap.size w1 q.1.1 (cA q.2)/\kJ (r.D Z) (r.fs Z dv) 71000 q.2) call15 rfl rfl rfl (λW hS=>VG hZ r hr W.heap.size W (ak _) (hrA.up (dG hN (hS.links w A7).size) (hS.same A7 hN zI trivial)) (hg.old hS A7 zI trivial) a0 a1 (hse.old hS A7) _ _ _ aa (aa7.up (hS.links OS A0).size (hS.same A0 (ak _) zI trivial))) ?_;rintro _ ⟨⟨a75,c75⟩,l75⟩ w75 _ _ ⟨aa8,TD⟩;try dsimp only at aa8 TD
    have aoG:=Lg l75;have amW:=TD.ln;refine B 4 ?_;refine CJ.less (E':=[(0,_),(1,_),(2,_),(3,_),(4,_),(5,_),(6,_),(7,_),(14,_),(15,_),(16,_),(17,_),(18,_),(19,_),(21,_),(22,_),(23,_),(24,_),(25,_),(26,_),(27,_),(28,_),(29,_),(30,_),(31,_),(32,_),(33,_),(34,_),(35,_),(36,_),(37,_),(38,_),(39,_),(40,_),(41,_),(42,_),(43,_),(44,_),(45,_),(46,_),(47,_),(48,_),(49,_),(50,_),(51,_),(52,_),(53,_),(54,_),(55,_),(56,_),(57,_),(58,_),(59,_),(60,_),(61,_),(62,_),(63,_),(64,_),(65,_),(66,_),(67,_),(68,_),(69,_),(70,_),(71,_),(72,_),(73,_),(74,_),(75,_)]) zR ?_;refine CJ.chn 4 [3] [_,_,_,none] (λcv L' H'=>match cv with| []=>L'=[w75,OS,w70,sh,Ad,vk,lH,w7,w]/\H'=[]| [v1]=>∃(a79:Option Addr) (c79:Nat) (VH:World),v1= .slice a79 ((r.more (aj rO) pP tQ (aj mZ) oB tO (aj rM) oD tP).fs Z dv).length c79/\L'=[VH,w75,OS,w70,sh,Ad,vk,lH,w7,w]/\H'=[]/\ai seA 35 VH.heap.size VH a79 ((r.more (aj rO) pP tQ (aj mZ) oB tO (aj rM) oD tP).fs Z dv)|_=>False) (pc zcz (pc zcz (pc zN (pk (pn))))) ?_ ?_
    ·refine ss rfl ?_ ?_
     ·intro cv L' H' hl hP F Q' hk;obtain rfl:=kX hl;obtain⟨rfl,rfl⟩:=hP;refine nv (α:=Option Addr×Nat) (v:=λq=>.slice q.1 ((r.more (aj rO) pP tQ (aj mZ) oB tO (aj rM) oD tP).fs Z dv).length q.2) (Φ:=λ_ q w1=>ai seA 35 w1.heap.size w1 q.1 ((r.more (aj rO) pP tQ (aj mZ) oB tO (aj rM) oD tP).fs Z dv)) call11 rfl rfl rfl (λW hS=>njk hZ (r.more (aj rO) pP tQ (aj mZ) oB tO (aj rM) oD tP) hy W.heap.size W (ak _) (hyA.up (hS.links lH A6).size (hS.same A6 (ak _) zI trivial)) (hg.old hS A8 zI trivial) dv) ?_;exact zCh
     exact nn
    intro cv L' H' hl hP;obtain⟨v1,rfl⟩:=iw hl;obtain⟨a79,c79,VH,rfl,rfl,rfl,aa9⟩:=hP;refine nv (α:=(Option Addr×Nat)×List Se) (v:=λq=>.slice q.1.1 (cA q.2).length q.1.2) (Φ:=λ_ q w1=>ai seA 35 w1.heap.size w1 q.1.1 (cA q.2)/\kJ ((r.more (aj rO) pP tQ (aj mZ) oB tO (aj rM) oD tP).D Z) ((r.more (aj rO) pP tQ (aj mZ) oB tO (aj rM) oD tP).fs Z dv) 71000 q.2) call15 rfl rfl rfl (λW hS=>VG hZ (r.more (aj rO) pP tQ (aj mZ) oB tO (aj rM) oD tP) hy W.heap.size W (ak _) (hyA.up (hS.links lH A7).size (hS.same A7 (ak _) zI trivial)) (hg.old hS A9 zI trivial) a0 a1 (hse.old hS A9) _ _ _ aa (aa9.up (hS.links VH A0).size (hS.same A0 (ak _) zI trivial))) ?_;rintro _ ⟨⟨a80,c80⟩,l80⟩ w80 _ _ ⟨aba,TE⟩;try dsimp only at aba TE
    have aoH:=Lg l80;have amX:=TE.ln;refine B 7 ?_;refine call (v:=.bool true) call20 rfl rfl rfl (λW hS=>by rw[<-nMj MG TB (λ_ h=>h) (λs h=>wX _ h)];exact n1f (cA l60) (cA l67) aa aa W.heap.size a60 a67 c60 c67 W (ak _) (TA.up (hS.links vk A7).size (hS.same A7 (ak _) zI trivial)) (aa4.up (hS.links sh A5).size (hS.same A5 (ak _) zI trivial))) ?_;refine B 3 ?_;refine call (v:=.bool true) call20 rfl rfl rfl (λW hS=>by rw[<-nMj MG TC HD (λ_ h=>h)];exact n1f (cA l60) (cA l70) aa aa W.heap.size a60 a70 c60 je W (ak _) (TA.up (hS.links vk A7).size (hS.same A7 (ak _) zI trivial)) (aa6.up (hS.links w70 A4).size (hS.same A4 (ak _) zI trivial))) ?_;refine B 4 ?_;refine call (v:=.bool true) call20 rfl rfl rfl (λW hS=>by rw[<-nMj TD TE HD ME];exact n1f (cA l75) (cA l80) aa aa W.heap.size a75 a80 c75 c80 W (ak _) (aa8.up (hS.links w75 A2).size (hS.same A2 (ak _) zI trivial)) (aba.up (hS.links w80 A0).size (hS.same A0 (ak _) zI trivial))) ?_;refine B 2 ?_;refine rr (.agg (rdA r)) (cd isAgg31 sizeOf31 rfl A9 vq vQ trivial rfl) ?_;refine nv (α:=(Option Addr×Nat)×List Se) (v:=λq=>.slice q.1.1 (cA q.2).length q.1.2) (Φ:=λ_ q w1=>ai seA 35 w1.heap.size w1 q.1.1 (cA q.2)/\kJ (r.D Z) [] 71000 q.2) call15 rfl rfl rfl (λW hS=>VG hZ r hr W.heap.size W (ak _) (hrA.up (dG hN (hS.links w A10).size) (hS.same A10 hN zI trivial)) (hg.old hS A10 zI trivial) a0 a1 (hse.old hS A10) none [] 0 zB (.inl rfl)) ?_
    rintro _ ⟨⟨Hu,Mz⟩,l96⟩ C7 _ _ ⟨ak8,TF⟩;try dsimp only at ak8 TF
    have aoI:=Lg l96;have amY:=TF.ln;have e96:=kJ.nil nZj TF;subst e96;refine rq (ab 0) (iQ underlying38 rfl) (congrArg ab (by show((cA []).length:Int)=0;rw[nLf];rfl)) ?_;refine rq cX (lK rfl rfl) (by rfl) ?_;refine B 5 ?_;refine aF results5 rfl A11 ?_;rfl
   refine B 1 ?_;refine zWc ?_;refine B 4 ?_;refine zYd ?_;refine zef ?_;refine B 11 ?_;refine aF results5 rfl A2 ?_;rfl
  refine B 1 ?_;refine zWc ?_;refine zef ?_;refine B 16 ?_;refine aF results5 rfl A2 ?_;rfl
end Px
