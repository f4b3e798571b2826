/- Contracts of functions of the program. No condition beyond those stated. -/
import Derived.Test.YtodpaegknpbomaaGreatDoorKi
import Derived.Test.YtodpaegknpbomaaGreatDoorProg
set_option linter.unusedSimpArgs false
set_option linter.unusedVariables false
set_option linter.unusedSectionVars false
set_option linter.unnecessarySimpa false
set_option maxRecDepth 20000
set_option maxHeartbeats 8000000
namespace Px
open Go Go.RowKit Go.Proofs Go.Proofs.Tryz
structure ChI (x:Ch):Prop where
 kind:kf x.kind
 dev:kf x.dev
 pub:kf x.pub
 ver:kf x.ver
 cut:kf x.cut
structure BxI (x:Bx):Prop where
 node:kf x.node
 level:kf x.level
 u:kf x.w.u
structure WeI (x:We):Prop where
 dev:kf x.dev
 u:kf x.w.u
structure Mv (c:Cm):Prop where
 folder:kf c.folder
 epoch:kf c.epoch
 par:er c.par
 author:kf c.author
 chs:∀x∈c.chs,ChI x
 path:∀x∈c.path,kf x
 bxs:∀x∈c.bxs,BxI x
 wes:∀x∈c.wes,WeI x
 conf:er c.conf
 sr:kf c.sr
 ss:kf c.ss
 lim:Fw c
theorem n3f(n:Nat)(hn:n<=100):∀ls:List (List V),(∀l∈ls,l.all vn=true/\l.length<=n/\V.fineL l)->V.fineL (ls.map V.list)/\V.depthL (ls.map V.list)<=1
 | [],_=>by simp[V.fineL,V.depthL]
 |l::ls,h=>by
  obtain⟨h1,h2⟩:=n3f n hn ls (λx hx=>h x (.tail _ hx));obtain⟨g1,g2,g3⟩:=h l A0;obtain⟨_,g4⟩:=n9e l g1 g3;simp only[dy,V.fineL,V.fine,V.depthL,V.depth,g4];exact⟨⟨⟨by omega,by omega,g3⟩,h1⟩,by omega⟩
theorem nBl:∀l:List Int,(∀x∈l,kf x)->V.fineL (l.map V.int)/\V.depthL (l.map V.int)=0
 | [],_=>by simp[V.fineL,V.depthL]
 |y::l,h=>by
  obtain⟨h1,h2⟩:=nBl l (λx hx=>h x (.tail _ hx));simp only[dy,V.fineL,V.fine,V.depthL,V.depth,h2];exact⟨⟨h y A0,h1⟩,by omega⟩
theorem nMf{l:List V}(h:V.fineL l)(hl:l.length<=1000000000)(hd:V.depthL l<=1000000000):V.fine (.list l):=by simp only[V.fine];exact⟨hl,hd,h⟩
theorem Hs{c:Cm}(h:sV c=true):(∀x∈c.bxs,x.w.body.length<=200)/\(∀x∈c.wes,x.w.body.length<=200)/\c.chs.length<=10/\c.path.length<=12/\c.bxs.length<=40/\c.wes.length<=10:=by
 simpa[sV,and_assoc]using h
theorem Mw{c:Cm}(h:Mv c)(hf:sV c=true):bO c:=by
 obtain⟨f1,f2,f3,f4,f5,f6⟩:=Hs hf;refine⟨⟨h.par,h.conf,f3,f4,f5,f6,f1,f2⟩,?_⟩;have a1:=n3f 100 zA (c.chs.map BN) (λl hl=>by
  obtain⟨x,hx,rfl⟩:=bW.1 hl;have g:=h.chs x hx;refine⟨by simp[BN,vn],by simp[BN],?_⟩;simp only[BN,V.fineL,V.fine];exact⟨g.kind,g.dev,g.pub,g.ver,g.cut,trivial⟩)
 have a2:=nBl c.path h.path;have a3:=n3f 100 zA (c.bxs.map uG) (λl hl=>by
  obtain⟨x,hx,rfl⟩:=bW.1 hl;have g:=h.bxs x hx;have g2:=f1 x hx;refine⟨by simp[uG,vn],by simp[uG],?_⟩;simp only[uG,V.fineL,V.fine];exact⟨g.node,g.level,g.u,by rw[EE];omega,trivial⟩)
 have a4:=n3f 100 zA (c.wes.map uH) (λl hl=>by
  obtain⟨x,hx,rfl⟩:=bW.1 hl;have g:=h.wes x hx;have g2:=f2 x hx;refine⟨by simp[uH,vn],by simp[uH],?_⟩;simp only[uH,V.fineL,V.fine];exact⟨g.dev,g.u,by rw[EE];omega,trivial⟩)
 simp only[mM,V.fineL];refine⟨by simp only[V.fine];exact h.folder,by simp only[V.fine];exact h.epoch,by simp only[V.fine];rw[EE,nH];omega,by simp only[V.fine];exact h.author,nMf a1.1 (by simp only[eQ];omega) aa,nMf a2.1 (by simp only[eQ];omega) aa,nMf a3.1 (by simp only[eQ];omega) aa,nMf a4.1 (by simp only[eQ];omega) aa,by simp only[V.fine];rw[EE,nH];omega,by simp only[V.fine];exact h.sr,by simp only[V.fine];exact h.ss,trivial⟩
structure Tt (x:Gr):Prop where
 bf:er x.f
 bo:∀o∈x.olds,er o.f
 i:kf x.folder/\kf x.by_/\kf x.device/\kf x.pub
 io:∀o∈x.olds,kf o.w.u
structure tS (r:eJ):Prop where
 cm:∀c∈r.cs,Mv c
 gr:∀g∈r.gs,Tt g
 ir:∀x∈r.xs,jM x
variable {Z:Fx} {dv:Int} {r:eJ}
theorem aaX(h:sY r=true):r.fos.length<=3/\r.cs.length<=7/\(∀c∈r.cs,sV c=true)/\r.gs.length<=4/\r.xs.length<=4/\r.os.length<=20/\∀g∈r.gs,g.olds.length<=6:=by
 simpa[sY,BZ,and_assoc,sP]using h
theorem tS.ok(h:tS r)(hf:sY r=true):jw r:=by
 obtain⟨h1,h2,h3,h4,h5,h6,h7⟩:=aaX hf;exact⟨by omega,by omega,by omega,λc hc=>Mw (h.cm c hc) (h3 c hc),by omega,λg hg=>⟨h7 g hg,(h.gr g hg).bf,(h.gr g hg).bo,(h.gr g hg).i,(h.gr g hg).io⟩,by omega,h.ir⟩
theorem nEn(Z:Fx)(cs:List Cm):∀(n:Nat) (qs:List (Nat×Gp)),(CL Z cs n qs).length<=n
 |0,_=>ak 0
 |_+1,[]=>cR _
 |n+1,q::qs=>Nat.succ_le_succ (nEn Z cs n (qs++zk Z cs q))
theorem Ht(Z:Fx)(cs:List Cm)(fo:Fo):(mf Z cs fo).length<=cs.length+1:=by grind [mf,nEn]
theorem nxl(Z:Fx)(cs:List Cm):∀fos:List Fo,(gW Z cs fos).length<=fos.length*(cs.length+1)
 | []=>by simp[gW]
 |f::l=>by
  have h1:=nxl Z cs l;have h2:(zm Z cs f).length<=cs.length+1:=dR (FL _ _ _) (Ht Z cs f);unfold gW at h1 ⊢;rw[Uy,cy,dF,pK];omega
theorem n9k(hr:jw r)(Z:Fx)(dv:Int):(r.fs Z dv).length<=200:=by
 have h1:=Vn (r.fs0 Z dv);have h2:=nqj r.os dv;have h3:=nWj (gW Z r.cs r.fos) dv;have h4:=nxl Z r.cs r.fos;have h5:r.fos.length*(r.cs.length+1)<=10*11:=Nat.mul_le_mul hr.fl (by have:=hr.cl;omega);have h7:=hr.ol;all_goals grind [eJ.fs,eJ.fs0]
theorem Tu{cs:List Cm}{fos:List Fo}{p:Ap}(h:p∈gW Z cs fos):p.1∈cs:=by
 unfold gW at h;obtain⟨fo,_,h⟩:=OC.1 h;unfold zm at h;have key:∀j,p∈qm cs (mf Z cs fo) j->p.1∈cs:=by
  intro j;induction j with
  |zero=>intro h;simp[qm]at h
  |succ j ih=>
   intro h;unfold qm at h;split at h
   ·exact ih h
   rename_i q hq;rcases bj.1 h with h|h
   ·exact ih h
   simp only[ka]at h;subst h;obtain⟨g,c,hc,_⟩:=n8l q (cO hq);show lQ cs q.1∈cs;unfold lQ;rw[hc];exact cO hc
 exact key _ h
theorem Tv{xs ys:List Se}(h:∀s∈xs,s∈ys):wF xs ys=true:=by grind [wF]
theorem n0n{D D':List (List Se×Se)}{L L' ls ls':List Se}{n n':Nat}(h:lk D L n ls)(h':lk D' L' n' ls')(hD:∀d∈D,d∈D')(hL:∀s∈L,s∈L'):wF (cN ls) (cN ls')=true:=
 Tv λs hs=>(n7f h' s).2 (((n7f h s).1 hs).mono hD hL)
theorem Hu{s:Se}:s∈r.fs Z dv↔s∈pR r.os dv\/s∈qG (gW Z r.cs r.fos) dv:=by grind [eJ.fs,CK,eJ.fs0]
theorem Hv{os:List Ow}{s:Se}:s∈pR os dv↔∃o∈os,o.1=dv/\aS o.2=s:=by
 unfold pR;simp[bW,uU,and_assoc]
theorem Tw{ps:List Ap}{s:Se}:s∈qG ps dv↔∃p∈ps,p.1.author=dv/\np (dk p.2.2.2.last) 0=s:=by
 unfold qG;rw[bW];constructor
 ·rintro⟨p,hp,e⟩;obtain⟨h1,h2⟩:=uU.1 hp;exact⟨p,h1,of_decide_eq_true h2,e⟩
 rintro⟨p,h1,h2,e⟩;exact⟨p,uU.2 ⟨h1,decide_eq_true h2⟩,e⟩
theorem Tx{o:Ow}(h:o∈r.os)(e:o.1=dv):0<(r.fs Z dv).length:=by
 have:aS o.2∈r.fs Z dv:=Hu.2 (.inl (Hv.2 ⟨o,h,e,rfl⟩));all_goals grind
theorem Mx(h1:∀o∈r.os,o.1≠dv)(h2:∀c∈r.cs,c.author≠dv):r.fs Z dv=[]:=by
 refine List.eq_nil_iff_forall_not_mem.2 λs hs=>?_;rcases Hu.1 hs with h|h
 ·obtain⟨o,ho,e,_⟩:=Hv.1 h;exact h1 o ho e
 obtain⟨p,hp,e,_⟩:=Tw.1 h;exact h2 _ (Tu hp) e
section
variable {C:Cx} {Q:aY} {E:Env} {D:List Deferred} {G:Gh} {L L':List World} {H:ad} {ops:Array Oper} {l:List Oper}
theorem St.dropAll{W:World}:∀{H:ad},St G L H W->(∀p∈H,ae L p.1)->St G L [] W
 | [],h,_=>h
 |p::_,h,ha=>St.dropAll (h.dropAt (i:=0) (b:=p.1) (o:=p.2) rfl (ha p A0)) λq hq=>ha q (.tail _ hq)
theorem PJ.resnapA{e:Exit}(hb:∀p∈H,ae L' p.1)(hs:∀w∈L',w∈L)(k:∀W,St G L H W->PJ C Q e E D G (W::L') []):PJ C Q e E D G L H:=
 λa W hN hD hF hS=>k W hS a W hN hD hF ((hS.lessL hs).dropAll hb).snap
theorem OJ.resnapA(hb:∀p∈H,ae L' p.1)(hs:∀w∈L',w∈L)(k:∀W,St G L H W->OJ C ops Q l E D G (W::L') []):OJ C ops Q l E D G L H:=
 λa W hN hD hF hS=>k W hS a W hN hD hF ((hS.lessL hs).dropAll hb).snap
end
section
variable {Z:Fx} (hZ:FxOk Z) (r:eJ) (hr:jw r) (N:Nat) (w:World) (hN:N<=w.heap.size) (hrA:fM N w r) (hg:Glb w)
include hZ hr hN hrA hg
theorem nek(dv:Int):Calls prog 11 #[.agg (rdA r),ab dv] w (cK w (λq:Option Addr×Nat=>.slice q.1 (r.fs Z dv).length q.2) (λq w1=>ai dh 35 w1.heap.size w1 q.1 (r.fs Z dv))):=
 (nNe hZ r hr N w hN hrA hg dv).mono λe w' h=>let⟨q,he,hb,hs⟩:=aD.X nu h;⟨q,he,hb,hs.1⟩
theorem nNj(a0 a1:Addr)(hse:Sen w a0 a1)(qa:Option Addr)(L0:List Se)(qc:Nat)(VB:L0.length<=50000)(SK:ai dh 35 N w qa L0):Calls prog 15 #[.agg (rdA r),.slice qa L0.length qc] w (cK w (λq:(Option Addr×Nat)×List Se=>.slice q.1.1 (cN q.2).length q.1.2) (λq w1=>ai dh 35 w1.heap.size w1 q.1.1 (cN q.2)/\lk (r.D Z) L0 71000 q.2)):=
 (nge hZ r hr N w hN hrA hg a0 a1 hse qa L0 qc VB SK).mono (by
  rintro e w' ⟨ls,hl,h⟩;obtain⟨q,he,hb,hs,_⟩:=aD.X nu h;exact⟨(q,ls),he,hb,hs,hl⟩)
theorem Ty(a0 a1:Addr)(hse:Sen w a0 a1)(dv:Int):Calls prog 21 #[.agg (rdA r),ab dv] w (cK w (λq:(Option Addr×Nat)×List Se=>.slice q.1.1 (epL (cN q.2)).length q.1.2) (λq _=>lk (r.D Z) (r.fs Z dv) 71000 q.2)):=
 (nFk hZ r hr N w hN hrA hg a0 a1 hse dv (n9k hr Z dv)).mono (by
  rintro e w' ⟨ls,hl,h⟩;obtain⟨q,he,hb,hs⟩:=aD.X nX h;exact⟨(q,ls),he,hb,hl⟩)
end
theorem Hw{α:Type}{p:α->Bool}{xs:List α}{j:Nat}(h:gu p xs j)(hj:xs.length<=j){x:α}(hx:x∈xs):p x=false:=by
 obtain⟨i,hi⟩:=kA.1 hx;exact h i x (by have:=nr hi;omega) hi
theorem My(hZ:FxOk Z)(r:eJ)(hri:tS r)(hlm:rM r)(N:Nat)(w:World)(hN:N<=w.heap.size)(hrA:fM N w r)(hg:Glb w)(B6:Lab w)(a0 a1:Addr)(hse:Sen w a0 a1)(da db:Int)(hf:sY r=false):Calls prog 6 #[.agg (rdA r),ab da,ab db] w (aL w (cY)):=by
 have hg4:=hg.lt;refine eN func6 ntmps6 ?_;refine B 2 ?_;refine yX ?_;intro b3 w3 cZ cu fC ez eP;refine B 6 ?_;refine zfe ?_;refine Ue ?_;refine ay (.agg (rdA r)) ?_;refine call (v:=.bool false) call8 rfl rfl rfl (λW hS=>by rw[<-hf];exact nDn r hlm N W cM (hrA.up (ak _) hS.sm)) ?_;refine B 11 ?_;refine aF results6 rfl A1 ?_;rfl
theorem Tz(hZ:FxOk Z)(r:eJ)(hri:tS r)(hlm:rM r)(N:Nat)(w:World)(hN:N<=w.heap.size)(hrA:fM N w r)(hg:Glb w)(B6:Lab w)(a0 a1:Addr)(hse:Sen w a0 a1)(da db:Int)(hf:sY r=true):Calls prog 6 #[.agg (rdA r),ab da,ab db] w (aL w (cY)):=by
 have hg4:=hg.lt;have hr:=hri.ok hf;have hla:=n9k hr Z da;have aop:=n9k hr Z db;have xB:=hr.ol;have lP:=hr.cl;refine enter (vs:=[_,_,_]) func6 rfl ntmps6 rfl ?_;refine B 2 ?_;refine yX ?_;intro b3 w3 cZ cu fC ez eP;refine B 6 ?_;refine zfe ?_;refine rq bN (gq rfl) (by rfl) ?_;refine B 8 ?_;refine rr (.agg (rdA r)) (cQ isAgg31 sizeOf31 rfl A0 cZ cu trivial rfl) ?_;refine call (v:=.bool true) call8 rfl rfl rfl (λW hS=>by rw[<-hf];exact nDn r hlm N W (dR hN (hS.links w A1).size) (hrA.up (ak _) (hS.same A1 hN zH trivial))) ?_;refine rv rfl rfl rfl (gq rfl) ?_;refine B 6 ?_;refine CJ.less (E':=[(0,_),(1,_),(2,_),(3,_),(6,_),(12,_),(13,_),(14,_),(15,_),(16,_)]) zR ?_;refine CJ.chn 5 [2] [_,_,none,_,_] (λcv L' H'=>match cv with| []=>L'=[w3,w]/\H'=[]| [v1]=>∃(VL:Option Addr) (Uq:Nat) (td:World),v1= .slice VL (r.fs Z da).length Uq/\L'=[td,w3,w]/\H'=[]/\ai dh 35 td.heap.size td VL (r.fs Z da)|_=>False) (pc zcx (pc zM (pk (pc zcx (pc zM (pn)))))) ?_ ?_
 ·refine ss rfl ?_ ?_
  ·intro cv L' H' hl hP F Q' hk;obtain rfl:=lN hl;obtain⟨rfl,rfl⟩:=hP;refine nv (α:=Option Addr×Nat) (v:=λq=>.slice q.1 (r.fs Z da).length q.2) (Φ:=λ_ q w1=>ai dh 35 w1.heap.size w1 q.1 (r.fs Z da)) call11 rfl rfl rfl (λW hS=>nek hZ r hr N W (dR hN (hS.links w A1).size) (hrA.up (ak _) (hS.same A1 hN zH trivial)) (hg.old hS A1 zH trivial) da) ?_;rintro _ ⟨a_,c_⟩ w_ _ _ BT;exact OJ.done (hk _ _ _ ⟨a_,c_,w_,rfl,rfl,rfl,BT⟩)
  exact nn
 intro cv L' H' hl hP;obtain⟨v1,rfl⟩:=iZ hl;obtain⟨VL,Uq,td,rfl,rfl,rfl,TA⟩:=hP;refine nv (α:=Option Addr×Nat) (v:=λq=>.slice q.1 (r.fs Z db).length q.2) (Φ:=λ_ q w1=>ai dh 35 w1.heap.size w1 q.1 (r.fs Z db)) call11 rfl rfl rfl (λW hS=>nek hZ r hr N W (dR hN (hS.links w A2).size) (hrA.up (ak _) (hS.same A2 hN zH trivial)) (hg.old hS A2 zH trivial) db) ?_;rintro _ ⟨a22,c22⟩ xQ _ _ TB;try dsimp only at TB
 refine B 5 ?_;refine CJ.less (E':=[(0,_),(1,_),(2,_),(3,_),(6,_),(7,_),(8,_),(12,_),(13,_),(14,_),(15,_),(16,_),(17,_),(18,_),(19,_),(20,_),(21,_),(22,_)]) zR ?_;refine CJ.chn 6 [1,3,5] [_,none,_,none,_,none] (λcv L' H'=>match cv with| []=>L'=[xQ,td,w3,w]/\H'=[]| [v1]=>∃(fH:Nat),v1= .slice (ao fH) 0 0/\L'=[xQ,td,w3,w]/\H'=[(fH,aP dM 35 [] [])]/\(xQ.heap.size<=fH/\td.heap.size<=fH/\w3.heap.size<=fH/\w.heap.size<=fH/\True)| [v1,v2]=>∃(fH:Nat) (fk:Nat) (Hx:Nat) (I4:List Value),v1= .slice (ao fH) 0 0/\v2= .slice (ao fk) (r.fs Z da).length Hx/\L'=[xQ,td,w3,w]/\H'=[(fk,aP dM 35 (r.fs Z da) I4)]/\(xQ.heap.size<=fH/\td.heap.size<=fH/\w3.heap.size<=fH/\w.heap.size<=fH/\True)/\(xQ.heap.size<=fk/\td.heap.size<=fk/\w3.heap.size<=fk/\w.heap.size<=fk/\True)/\(Rw.row fk Hx I4).Fit 35 (r.fs Z da)| [v1,v2,v3]=>∃(fH:Nat) (fk:Nat) (Hx:Nat) (I4:List Value) (xm:Nat) (JI:Nat) (Nr:List Value),v1= .slice (ao fH) 0 0/\v2= .slice (ao fk) (r.fs Z da).length Hx/\v3= .slice (ao xm) ((r.fs Z da)++(r.fs Z db)).length JI/\L'=[xQ,td,w3,w]/\H'=[(xm,aP dM 35 ((r.fs Z da)++(r.fs Z db)) Nr)]/\(xQ.heap.size<=fH/\td.heap.size<=fH/\w3.heap.size<=fH/\w.heap.size<=fH/\True)/\(xQ.heap.size<=fk/\td.heap.size<=fk/\w3.heap.size<=fk/\w.heap.size<=fk/\True)/\(Rw.row fk Hx I4).Fit 35 (r.fs Z da)/\(xQ.heap.size<=xm/\td.heap.size<=xm/\w3.heap.size<=xm/\w.heap.size<=xm/\True)/\(Rw.row xm JI Nr).Fit 35 ((r.fs Z da)++(r.fs Z db))|_=>False) (pc zcy (pk (pc zM (pk (pc zM (pk (pn))))))) ?_ ?_
 ·refine ss rfl ?_ ?_
  ·intro cv L' H' hl hP F Q' hk;obtain rfl:=lN hl;obtain⟨rfl,rfl⟩:=hP;refine IL ?_;exact zwg
  refine ss rfl ?_ ?_
  ·intro cv L' H' hl hP F Q' hk;obtain⟨v1,rfl⟩:=iZ hl;obtain⟨fH,rfl,rfl,rfl,ou⟩:=hP;refine U4 (b:=fH) (cap:=0) (sp:=[]) (xs:=[]) (zs:=(r.fs Z da)) (enc:=dM) (m:=35) (H0:=[]) (H1:=[]) rfl Oa nu rfl rfl rfl rfl (cd.sl nu IK underlying38 A1 TA (λb hb=>⟨λh=>h,by simp only[bA,and_true];omega⟩)) ⟨ak _,rfl⟩ (.inr ou) (by first|omega|(simp only[fh];omega)) ?_;intro b_ c_ s_ pS fJ;have mO:ae [xQ,td,w3,w] b_:=pS.elim (λh=>h▸ou) id;exact OJ.done (hk _ _ _ ⟨fH,b_,c_,s_,rfl,rfl,rfl,rfl,ou,mO,fJ⟩)
  refine ss rfl ?_ ?_
  ·intro cv L' H' hl hP F Q' hk;obtain⟨v1,v2,rfl⟩:=pX hl;obtain⟨fH,fk,Hx,I4,rfl,rfl,rfl,rfl,ou,tU,rU⟩:=hP;refine U4 (b:=fk) (cap:=Hx) (sp:=I4) (xs:=(r.fs Z da)) (zs:=(r.fs Z db)) (enc:=dM) (m:=35) (H0:=[]) (H1:=[]) rfl Oa nu rfl rfl rfl rfl (cd.sl nu IK underlying38 A0 TB (λb hb=>⟨λh=>h,by simp only[bA,and_true];omega⟩)) rU (.inr tU) (by first|omega|(simp only[fh];omega)) ?_;intro b_ c_ s_ pS fJ;have mO:ae [xQ,td,w3,w] b_:=pS.elim (λh=>h▸tU) id;exact OJ.done (hk _ _ _ ⟨fH,fk,Hx,I4,b_,c_,s_,rfl,rfl,rfl,rfl,rfl,ou,tU,rU,mO,fJ⟩)
  exact nn
 intro cv L' H' hl hP;obtain⟨v1,v2,v3,rfl⟩:=mB hl;obtain⟨fH,fk,Hx,I4,xm,JI,Nr,rfl,rfl,rfl,rfl,rfl,ou,tU,rU,Hy,HA⟩:=hP;simp only[and_true]at Hy;refine OJ.resnapA (L':=[xQ,td,w3,w]) (λp hp=>by simp only[bX,dE,or_false]at hp;subst hp;simp only[ae,and_true];exact Hy) (λ_ h=>h) (λHB NM=>?_);have za:ai dh 35 HB.heap.size HB (ao xm) ((r.fs Z da)++(r.fs Z db)):=nVj (enc:=dM) nu HA (NM.own _ A0);refine nv (α:=(Option Addr×Nat)×List Se) (v:=λq=>.slice q.1.1 (cN q.2).length q.1.2) (Φ:=λ_ q w1=>ai dh 35 w1.heap.size w1 q.1.1 (cN q.2)/\lk (r.D Z) ((r.fs Z da)++(r.fs Z db)) 71000 q.2) call15 rfl rfl rfl (λW hS=>nNj hZ r hr W.heap.size W (ak _) (hrA.up (dR hN (hS.links w A4).size) (hS.same A4 hN zH trivial)) (hg.old hS A4 zH trivial) a0 a1 (hse.old hS A4) (ao xm) ((r.fs Z da)++(r.fs Z db)) JI (by rw[cy];omega) (za.up (hS.links HB A0).size (hS.same A0 (ak _) zH trivial))) ?_;rintro _ ⟨⟨a29,c29⟩,l29⟩ w29 _ _ ⟨TC,Mz⟩;try dsimp only at TC Mz
 have aor:=Vn l29;have amE:=Mz.ln;refine B 6 ?_;refine rr (.agg (rdA r)) (cQ isAgg31 sizeOf31 rfl A4 cZ cu trivial rfl) ?_;refine B 1 ?_;refine nv (α:=(Option Addr×Nat)×List Se) (v:=λq=>.slice q.1.1 (cN q.2).length q.1.2) (Φ:=λ_ q w1=>ai dh 35 w1.heap.size w1 q.1.1 (cN q.2)/\lk (r.D Z) (r.fs Z da) 71000 q.2) call15 rfl rfl rfl (λW hS=>nNj hZ r hr W.heap.size W (ak _) (hrA.up (dR hN (hS.links w A5).size) (hS.same A5 hN zH trivial)) (hg.old hS A5 zH trivial) a0 a1 (hse.old hS A5) _ _ _ aa (TA.up (hS.links td A3).size (hS.same A3 (ak _) zH trivial))) ?_;rintro _ ⟨⟨a32,c32⟩,l32⟩ B8 _ _ ⟨aaY,TD⟩;try dsimp only at aaY TD
 have aos:=Vn l32;have amF:=TD.ln;refine B 1 ?_;refine call (v:=.bool true) call20 rfl rfl rfl (λW hS=>by rw[<-n0n TD Mz (λ_ h=>h) (λs h=>zw _ h)];exact nri (cN l32) (cN l29) aa aa W.heap.size a32 a29 c32 c29 W (ak _) (aaY.up (hS.links B8 A0).size (hS.same A0 (ak _) zH trivial)) (TC.up (hS.links w29 A1).size (hS.same A1 (ak _) zH trivial))) ?_;refine rv rfl rfl rfl (gq rfl) ?_;refine B 1 ?_;refine rr (.agg (rdA r)) (cQ isAgg31 sizeOf31 rfl A5 cZ cu trivial rfl) ?_;refine B 1 ?_;refine nv (α:=(Option Addr×Nat)×List Se) (v:=λq=>.slice q.1.1 (cN q.2).length q.1.2) (Φ:=λ_ q w1=>ai dh 35 w1.heap.size w1 q.1.1 (cN q.2)/\lk (r.D Z) (r.fs Z db) 71000 q.2) call15 rfl rfl rfl (λW hS=>nNj hZ r hr W.heap.size W (ak _) (hrA.up (dR hN (hS.links w A6).size) (hS.same A6 hN zH trivial)) (hg.old hS A6 zH trivial) a0 a1 (hse.old hS A6) _ _ _ aa (TB.up (hS.links xQ A3).size (hS.same A3 (ak _) zH trivial))) ?_;rintro _ ⟨⟨a39,c39⟩,l39⟩ w39 _ _ ⟨aaZ,TE⟩;try dsimp only at aaZ TE
 have aot:=Vn l39;have amG:=TE.ln;refine B 1 ?_;refine call (v:=.bool true) call20 rfl rfl rfl (λW hS=>by rw[<-n0n TE Mz (λ_ h=>h) (λs h=>cH _ h)];exact nri (cN l39) (cN l29) aa aa W.heap.size a39 a29 c39 c29 W (ak _) (aaZ.up (hS.links w39 A0).size (hS.same A0 (ak _) zH trivial)) (TC.up (hS.links w29 A2).size (hS.same A2 (ak _) zH trivial))) ?_;refine rv rfl rfl rfl (gq rfl) ?_;refine rv rfl rfl rfl (Hl rfl rfl) ?_;refine B 12 ?_;refine CJ.loop (α:=Nat) (λj=>[(1,ab da),(3,ptr b3 0),(7,.slice VL (r.fs Z da).length Uq),(10,ab (j:Int))]) (λj=>[]) (λj=>[w39,B8,w29,HB,xQ,td,w3,w]) (λj=>Gh.no) (λj=>j<=r.os.length/\gu (λo:Ow=>decide (o.1=da)) r.os j) (λj=>r.os.length-j) 0 ⟨cR _,λi x hi=>absurd hi aa⟩ zR rfl rfl zI ?_;rintro j ⟨hj,dZ⟩;refine B 5 ?_;refine zEe ?_;refine B 1 ?_;refine rv rfl rfl rfl (tR rfl rfl) ?_;refine B 2 ?_;refine aG ?_ ?_
 ·intro ar;refine B 5 ?_;obtain⟨bo,oo,cso,tow,fro,eo,fP,hco,Ts⟩:=hrA.o.get aa;obtain⟨o,ho⟩:=ng r.os j aa;refine B 2 ?_;refine zEe ?_;refine B 1 ?_;refine rv rfl rfl rfl (dc underlying23 sizeOf71 (congrArg (λq=>some (Value.slice q r.os.length r.oc)) eo) rfl aa aa) ?_;refine B 1 ?_;refine rr (ab o.1) (av (v:=ab o.1) isAgg3 rfl A7 hco zJ trivial (nK Ts ho rfl zA)) ?_;refine B 1 ?_;refine rv rfl rfl rfl (iV rfl rfl) ?_;refine B 2 ?_;refine aG ?_ ?_
  ·intro aN;refine B 4 ?_;refine rq cY (ON rfl rfl) (vb (decide_eq_true (by have:=Tx (r:=r) (Z:=Z) (cO ho) eE;omega))) ?_;refine B 9 ?_;refine aF results6 rfl A7 ?_;rfl
  intro aN;refine zwf ?_;refine B 2 ?_;refine PJ.again (j+1) ⟨by omega,dZ.next ho (by simpa using eE)⟩ aa zR rfl rfl zI
 intro ar;refine B 12 ?_;have qA:∀o∈r.os,o.1≠da:=λo ho=>by simpa using Hw dZ aa ho
 refine CJ.loop (α:=Nat) (λj=>[(1,ab da),(3,ptr b3 0),(7,.slice VL (r.fs Z da).length Uq),(11,ab (j:Int))]) (λj=>[]) (λj=>[w39,B8,w29,HB,xQ,td,w3,w]) (λj=>Gh.no) (λj=>j<=r.cs.length/\gu (λc:Cm=>decide (c.author=da)) r.cs j) (λj=>r.cs.length-j) 0 ⟨cR _,λi x hi=>absurd hi aa⟩ zR rfl rfl zI ?_;rintro j ⟨hj,htc⟩;refine B 5 ?_;refine zFe ?_;refine B 1 ?_;refine rv rfl rfl rfl (tR rfl rfl) ?_;refine B 2 ?_;refine aG ?_ ?_
 ·intro dp;refine B 5 ?_;obtain⟨bc,oc_,csc,tc_,frc,ec,hbc,Dt,akO⟩:=hrA.c.get aa;obtain⟨c,hc⟩:=ng r.cs j aa;refine B 2 ?_;refine zFe ?_;refine B 1 ?_;refine rv rfl rfl rfl (dc underlying24 sizeOf61 (congrArg (λq=>some (Value.slice q r.cs.length r.lc)) ec) rfl aa aa) ?_;refine B 1 ?_;refine rr (ab c.author) (av (v:=ab c.author) isAgg3 rfl A7 Dt zJ trivial (xv akO hc rfl 34 zA)) ?_;refine B 1 ?_;refine rv rfl rfl rfl (iV rfl rfl) ?_;refine B 2 ?_;refine aG ?_ ?_
  ·intro jh;refine B 11 ?_;refine aF results6 rfl A7 ?_;rfl
  intro jh;refine zwf ?_;refine B 2 ?_;refine PJ.again (j+1) ⟨by omega,htc.next hc (by simpa using eE)⟩ aa zR rfl rfl zI
 intro dp;refine B 6 ?_;have hfe:(r.fs Z da)=[]:=Mx qA (λc hc=>by simpa using Hw htc aa hc);refine B 3 ?_;refine rq cY (iV rfl rfl) (vb (by rw[hfe];rfl)) ?_;refine B 1 ?_;refine rr (.agg (rdA r)) (cQ isAgg31 sizeOf31 rfl A6 cZ cu trivial rfl) ?_;refine B 1 ?_;refine nv (α:=(Option Addr×Nat)×List Se) (v:=λq=>.slice q.1.1 (epL (cN q.2)).length q.1.2) (Φ:=λ_ q _=>lk (r.D Z) (r.fs Z da) 71000 q.2) call21 rfl rfl rfl (λW hS=>Ty hZ r hr N W (dR hN (hS.links w A7).size) (hrA.up (ak _) (hS.same A7 hN zH trivial)) (hg.old hS A7 zH trivial) a0 a1 (hse.old hS A7) da) ?_;rintro _ ⟨⟨a83,c83⟩,l83⟩ w83 _ _ TF;try dsimp only at TF
 rw[hfe]at TF;have e83:=lk.nil nTj TF;subst e83;refine rq (ab 0) (i6 underlying72 rfl) (congrArg ab (by show((epL (cN [])).length:Int)=0;rw[nGf];rfl)) ?_;refine rq cY (iV rfl rfl) (by rfl) ?_;refine rv rfl rfl rfl (OO rfl rfl) ?_;refine B 4 ?_;refine aF results6 rfl A8 ?_;rfl
theorem tg_both(hZ:FxOk Z)(r:eJ)(hri:tS r)(hlm:rM r)(N:Nat)(w:World)(hN:N<=w.heap.size)(hrA:fM N w r)(hg:Glb w)(B6:Lab w)(a0 a1:Addr)(hse:Sen w a0 a1)(da db:Int):Calls prog 6 #[.agg (rdA r),ab da,ab db] w (aL w (cY)):=by
 cases hf:sY r with
 |false=>exact My hZ r hri hlm N w hN hrA hg B6 a0 a1 hse da db hf
 |true=>exact Tz hZ r hri hlm N w hN hrA hg B6 a0 a1 hse da db hf
end Px
