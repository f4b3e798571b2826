/- Contracts of functions of the program. No condition beyond those stated. -/
import Derived.Test.YtpgobjebhigaoaaGreatDoorKf
import Derived.Test.YtpgobjebhigaoaaGreatDoorProg
import Derived.Shelf.Small.Strs
import Derived.Test.YtpgobjebhigaoaaGreatDoorLa
set_option linter.unusedSimpArgs false
set_option linter.unusedVariables false
set_option linter.unusedSectionVars false
set_option maxRecDepth 20000
set_option maxHeartbeats 8000000
namespace Px
open Go Go.RowKit Go.Proofs Go.Proofs.Tryz
structure Fo where
 id:Int
 first:Nat->Int
def rJ (f:Fo):Array Value:=#[.int .i64 f.id,.int .u8 (f.first 0),.int .u8 (f.first 1),.int .u8 (f.first 2),.int .u8 (f.first 3),.int .u8 (f.first 4),.int .u8 (f.first 5),.int .u8 (f.first 6),.int .u8 (f.first 7),.int .u8 (f.first 8),.int .u8 (f.first 9),.int .u8 (f.first 10),.int .u8 (f.first 11),.int .u8 (f.first 12),.int .u8 (f.first 13),.int .u8 (f.first 14),.int .u8 (f.first 15),.int .u8 (f.first 16),.int .u8 (f.first 17),.int .u8 (f.first 18),.int .u8 (f.first 19),.int .u8 (f.first 20),.int .u8 (f.first 21),.int .u8 (f.first 22),.int .u8 (f.first 23),.int .u8 (f.first 24),.int .u8 (f.first 25),.int .u8 (f.first 26),.int .u8 (f.first 27),.int .u8 (f.first 28),.int .u8 (f.first 29),.int .u8 (f.first 30),.int .u8 (f.first 31)]
def g0 (f:Fo):Gp:=⟨f.id,0,λ_=>0,[],[]⟩
def T8 (f:Fo):Gv:=⟨g0 f,none,0,none,0⟩
theorem M6(f:Fo)(N:Nat)(w:World):aM N w (T8 f):=⟨.inl rfl,.inl rfl,by simp[T8,g0],by simp[T8,g0]⟩
theorem nhp(l:List Dk)(k:Dk):mo l k= -1\/∃j:Nat,mo l k=(j:Int)/\l[j]? =some k:=by
 unfold mo;cases h:l.findIdx? λx=>decide (x=k)with
 |none=>exact .inl rfl
 |some j=>
  obtain⟨h1,h2,_⟩:=V4.1 h;refine .inr ⟨j,rfl,?_⟩;rw[gR h1];simpa using h2
noncomputable def Yi (Z:Fx) (cs:List Cm) (f:Fo):Option Nat:=if mo ((bC Z cs cs.length).map (·.1)) (dk f.first)<0 then none else((bC Z cs cs.length)[(mo ((bC Z cs cs.length).map (·.1)) (dk f.first)).toNat]?).map λp=>p.2.toNat
noncomputable def Cb (Z:Fx) (cs:List Cm) (f:Fo):Option Nat:=(Yi Z cs f).bind λi=>if lL Z (g0 f) (Hh cs i)=0 then some i else none
structure u2 (Z:Fx) (cs:List Cm) (g:Gp) (d:Cd):Prop where
 nn:0<=d.at_
 at_:cs[pr d]? =some d.c
 x:d.x.g=BN Z g d.c
 ok:lL Z g d.c=0
variable {JE:Array Value} {C:Cx} {R:Ending->World->Prop} {E:Env} {e:Exit} {M:aA} {Z:Fx} {G:Gh} {g:Gp} {H H0:ad} {D:List Deferred} {js:List Nat} {L L':List World} {N b i j m:Nat} {fr TJ:Nat×Nat} {o:Obj} {a:Option Addr} {r:Rw} {W W':World} {I:World->Prop}
theorem ox.le{cs:List Cm}{d:Cd}(h:ox Z cs g d):u2 Z cs g d:=⟨h.nn,h.at_,h.x,h.ok⟩
def mK (b:Nat) (x:Gv):Prop:=(∀q,x.ma=some q->x.g.ms=[]\/q.block≠b)/\(∀q,x.na=some q->x.g.ns=[]\/q.block≠b)
theorem bh.off{K:Nat}{x:Gv}(h:(∀q,x.ma=some q->K<=q.block)/\(∀q,x.na=some q->K<=q.block))(hb:b<K):mK b x:=⟨λq e=>.inr (by have:=h.1 q e;omega),λq e=>.inr (by have:=h.2 q e;omega)⟩
theorem ah.ltq{α:Type}{enc:α->Array Value}{n:Nat}{w:World}{xs:List α}(h:ah enc n N w a xs):∀q,a=some q->xs=[]\/q.block<N:=by
 intro q e;rcases h with h|⟨b,off,cs,t,fr,h1,h2,_⟩
 ·exact .inl h
 rw[h1]at e;cases e;exact .inr h2
theorem aM.off{w:World}{x:Gv}(h:aM N w x)(hb:N<=b):mK b x:=⟨λq e=>(h.ms.ltq q e).imp id (λh=>by omega),λq e=>(h.ns.ltq q e).imp id (λh=>by omega)⟩
theorem aM.toO{w:World}{x:Gv}(h:aM N w x)(hS:St Gh.no L H W)(hw:w∈L)(hN:N<=w.heap.size)(ho:∀p∈H,mK p.1 x):aM W.heap.size W x:=by
 have key:∀b,(∀p∈H,p.1≠b)->bE H b:=λb hb=>bE.of_mem (λhm=>by obtain⟨p,hp,e⟩:=bU.1 hm;exact hb p hp e);refine⟨h.ms.toG hS hw hN (λb off e=>?_),h.ns.toG hS hw hN (λb off e=>?_),h.mn,h.nn⟩
 ·by_cases h0:x.g.ms=[]
  ·exact .inl h0
  exact .inr (λ_=>⟨λh=>h,key b (λp hp e2=>((ho p hp).1 _ e).resolve_left h0 e2.symm)⟩)
 by_cases h0:x.g.ns=[]
 ·exact .inl h0
 exact .inr (λ_=>⟨λh=>h,key b (λp hp e2=>((ho p hp).2 _ e).resolve_left h0 e2.symm)⟩)
theorem nlo(hZ:FxOk Z)(cs:List Cm)(hcs:cs.length<=1000)(dM:∀c∈cs,cI c)(N:Nat)(la:Option Addr)(lc:Nat)(w:World)(hN:N<=w.heap.size)(aN:ah dZ 73 N w la cs)(hC:∀c∈cs,dQ N w c)(ia:Option Addr)(ic:Nat)(ta:Option Addr)(tc:Nat)(hp:mr Z cs N w ⟨ia,ic,ta,tc⟩)(fo:Fo)(hg:Glb w):Calls prog 51 #[.agg (xy Z cs la lc ⟨ia,ic,ta,tc⟩),.agg (rJ fo)] w (cu w (λq:Cd×Bool=>.tuple #[.agg (dO q.1),.bool q.2]) (λq w'=>(q.2=true/\Cb Z cs fo=some (pr q.1)/\u2 Z cs (g0 fo) q.1/\aM w'.heap.size w' q.1.x/\bh w.heap.size q.1.x)\/(q.2=false/\Cb Z cs fo=none))):=by
 have ew:=hg.lt;have hpl:=PR Z cs cs.length;have mB:((bC Z cs cs.length).map (·.1)).length=(bC Z cs cs.length).length:=fy ..;have xj:((bC Z cs cs.length).map (·.2)).length=(bC Z cs cs.length).length:=fy ..;have B5:=hp.ids;have B6:=hp.at_;dsimp only at B5 B6;obtain⟨k,hk0⟩:∃k,mo ((bC Z cs cs.length).map (·.1)) (dk fo.first)=k:=⟨_,rfl⟩;refine enter (vs:=[_,_]) func51 rfl ntmps51 rfl ?_;refine B 2 ?_;refine yX ?_;intro b2 w2 aI aE dY cA db;refine yX ?_;intro b3 w3 aJ aD dr bY cR;refine PV ?_;refine yW ?_;intro b4 dD dH;refine B 6 ?_;refine rr (.slice ia ((bC Z cs cs.length).map (·.1)).length ic) (aa isAgg41 rfl A1 aI aE zL rfl) ?_;refine B 1 ?_;refine rr (.agg (dg fo.first)) (ag isAgg34 sizeOf34 rfl A0 aJ aD zL (aT rfl)) ?_;refine call call100 rfl rfl rfl (λW hS=>by rw[<-hk0];exact BV ((bC Z cs cs.length).map (·.1)) zM N ia ic W (aS hN (hS.links w A2).size) (B5.up (ao _) (hS.same A2 hN zU zP)) fo.first) (v:=.int .i64 k) ?_;refine B 5 ?_;rcases nhp ((bC Z cs cs.length).map (·.1)) (dk fo.first)with hd1|⟨j,hd1,Ai⟩
 ·have hk:k= -1:=by rw[<-hk0];exact hd1
  refine B 2 ?_;refine I0 ?_;refine B 5 ?_;refine rr (.agg (dO wg)) (aK (i:=0) rfl isAgg101 sizeOf101 rfl rfl) ?_;refine M5 ?_;refine B 5 ?_;refine bJ (.inl rfl) results51 (RS.wA (i:=0) rfl isAgg101 sizeOf101 rfl (aT rfl) (RS.t rfl RS.n)) λW hS=>⟨(wg,false),rfl,hS.base A2 zP,.inr ⟨rfl,?_⟩⟩;show Cb Z cs fo=none;unfold Cb Yi;rw[hd1,if_pos zM];rfl
 have hk:k=(j:Int):=by rw[<-hk0];exact hd1
 refine KY ?_;refine B 6 ?_;obtain⟨q,hq⟩:=nj (bC Z cs cs.length) j (by have:=nF Ai;omega);obtain⟨i,c,MV,tG,hc,Yc⟩:=X4 Z cs _ q (cB hq);have TH:((bC Z cs cs.length).map (·.2))[j]? =some ((i:Nat):Int):=by rw[rC,hq,wO,MV]
 have DH:=nF TH;have hcm:=cB hc;obtain⟨e,he⟩:∃e,lL Z (g0 fo) c=e:=⟨_,rfl⟩;subst hk;obtain⟨ba,oa,csa,ta,fra,rfl,hba,B8,TX⟩:=B6.get zM;obtain⟨bl,ol,csl,tl,frl,rfl,jN,uZ,mv⟩:=aN.get zM;have hk:mo ((bC Z cs cs.length).map (·.1)) (dk fo.first)=(j:Int):=hd1;refine ng (E':=[(0,_),(1,_),(2,_),(3,_),(4,_),(5,_),(6,_),(9,_),(10,_),(11,_),(12,_),(13,_),(14,_),(15,_)]) zR ?_;refine CJ.ntS 18 [12,13,14,16,17] [([],some _),([0],some (.int .i64 fo.id)),([1],some (.agg (aZ (T8 fo)))),([],some _),([3],some (.slice (some ⟨bl,ol,none⟩) cs.length lc)),([],some _),([5],some (.slice (some ⟨ba,oa,none⟩) ((bC Z cs cs.length).map (·.2)).length tc)),([],some _),([6,7],some _),([8],some (.int .i64 (i:Int))),([4,9],some _),([10],some (.agg (dZ c))),([2,11],none),([12],none),([13],none),([13],some (.int .i64 e)),([],none),([14,16],none)] [[],[0],[0,1],[],[0,1,2,3]] (λcv L' H'=>match cv with| [none,none,none,none,none]=>L'=[w3,w2,w]/\H'=[(b4,.cells (dO wg) 101 (0,0))]| [none,none,none,some sS,none]=>∃(b7:Nat),sS=ptr b7 0/\L'=[w3,w2,w]/\H'=[(b7,.cells (aZ kS) 57 (0,0)),(b4,.cells (dO wg) 101 (0,0))]/\w3.heap.size<=b7| [some v12,none,none,none,none]=>∃(Xn:Gv) (dR:World),v12= .tuple #[.agg (aZ Xn),.int .i64 e]/\L'=[dR,w3,w2,w]/\H'=[(b4,.cells (dO wg) 101 (0,0))]/\Xn.g=tE Z (g0 fo) c/\aM dR.heap.size dR Xn/\mK b4 Xn/\bh w.heap.size Xn| [some v12,none,none,some sS,none]=>∃(Xn:Gv) (dR:World) (b7:Nat),v12= .tuple #[.agg (aZ Xn),.int .i64 e]/\sS=ptr b7 0/\L'=[dR,w3,w2,w]/\H'=[(b7,.cells (aZ kS) 57 (0,0)),(b4,.cells (dO wg) 101 (0,0))]/\Xn.g=tE Z (g0 fo) c/\aM dR.heap.size dR Xn/\mK b4 Xn/\bh w.heap.size Xn/\w3.heap.size<=b7/\mK b7 Xn| [some v12,some kT,none,none,none]=>∃(Xn:Gv) (dR:World),v12= .tuple #[.agg (aZ Xn),.int .i64 e]/\kT= .tuple #[.agg (aZ Xn),.int .i64 e]/\L'=[dR,w3,w2,w]/\H'=[(b4,.cells (dO wg) 101 (0,0))]/\Xn.g=tE Z (g0 fo) c/\aM dR.heap.size dR Xn/\mK b4 Xn/\bh w.heap.size Xn| [some v12,some kT,none,some sS,none]=>∃(Xn:Gv) (dR:World) (b7:Nat),v12= .tuple #[.agg (aZ Xn),.int .i64 e]/\kT= .tuple #[.agg (aZ Xn),.int .i64 e]/\sS=ptr b7 0/\L'=[dR,w3,w2,w]/\H'=[(b7,.cells (aZ kS) 57 (0,0)),(b4,.cells (dO wg) 101 (0,0))]/\Xn.g=tE Z (g0 fo) c/\aM dR.heap.size dR Xn/\mK b4 Xn/\bh w.heap.size Xn/\w3.heap.size<=b7/\mK b7 Xn| [some v12,some kT,some oI,none,none]=>∃(Xn:Gv) (dR:World),v12= .tuple #[.agg (aZ Xn),.int .i64 e]/\kT= .tuple #[.agg (aZ Xn),.int .i64 e]/\oI= .agg (aZ Xn)/\L'=[dR,w3,w2,w]/\H'=[(b4,.cells (dO wg) 101 (0,0))]/\Xn.g=tE Z (g0 fo) c/\aM dR.heap.size dR Xn/\mK b4 Xn/\bh w.heap.size Xn| [some v12,some kT,some oI,some sS,none]=>∃(Xn:Gv) (dR:World) (b7:Nat),v12= .tuple #[.agg (aZ Xn),.int .i64 e]/\kT= .tuple #[.agg (aZ Xn),.int .i64 e]/\oI= .agg (aZ Xn)/\sS=ptr b7 0/\L'=[dR,w3,w2,w]/\H'=[(b7,.cells (aZ kS) 57 (0,0)),(b4,.cells (dO wg) 101 (0,0))]/\Xn.g=tE Z (g0 fo) c/\aM dR.heap.size dR Xn/\mK b4 Xn/\bh w.heap.size Xn/\w3.heap.size<=b7/\mK b7 Xn| [some v12,some kT,some oI,some sS,some v17]=>∃(Xn:Gv) (dR:World) (b7:Nat),v12= .tuple #[.agg (aZ Xn),.int .i64 e]/\kT= .tuple #[.agg (aZ Xn),.int .i64 e]/\oI= .agg (aZ Xn)/\sS=ptr b7 0/\v17= .tuple #[]/\L'=[dR,w3,w2,w]/\H'=[(b7,.cells (aZ Xn) 57 (0,0)),(b4,.cells (dO wg) 101 (0,0))]/\Xn.g=tE Z (g0 fo) c/\aM dR.heap.size dR Xn/\mK b4 Xn/\bh w.heap.size Xn/\w3.heap.size<=b7/\mK b7 Xn|_=>False) zT ⟨rfl,rfl⟩ zT zT zT zT zT zT zT rfl (qc (by exact λcv L' H' _ _ hP=>X.val rfl rfl (ak underlying50 rfl sizeOf3 rfl) R2) (qc T9 (qc (by exact λcv L' H' _ _ hP=>X.val rfl rfl (bL underlying57 zeroValue57 (bA.c sizeOf3 (bA.c sizeOf3 (bA.c sizeOf34 (bA.c sizeOf52 (bA.c sizeOf55 (bA.n)))))) rfl rfl) R2) (qc (by exact λcv L' H' _ _ hP=>X.val rfl rfl (ak underlying92 rfl sizeOf24 rfl) R2) (qc T9 (qc (by exact λcv L' H' _ _ hP=>X.val rfl rfl (ak underlying92 rfl sizeOf44 rfl) R2) (qc T9 (qc z1d (qc (by exact λcv L' H' _ _ hP=>X.val rfl rfl (cL underlying44 sizeOf3 rfl rfl zM zM) R2) (qc T9 (qc (by exact λcv L' H' _ _ hP=>X.val rfl rfl (cL underlying24 sizeOf99 rfl rfl zM zM) R2) (qc T9 (qk (qk (qk (qc (λcv L' H' hl hd hP=>by obtain⟨fC,ja,ki,u3,u4,rfl⟩:=iB hl;(rcases fC with _|v12<;>rcases ja with _|kT<;>rcases ki with _|oI<;>rcases u3 with _|sS<;>rcases u4 with _|v17<;>try exact False.elim hP);exact(absurd (show false=true from hd) zQ);exact(absurd (show false=true from hd) zQ);exact(absurd (show false=true from hd) zQ);exact(absurd (show false=true from hd) zQ);(obtain⟨Xn,dR,rfl,rfl,rfl,rfl,fl,gO,jy,jz⟩:=hP;exact X.val rfl rfl (gB rfl rfl) R2);(obtain⟨Xn,dR,b7,rfl,rfl,rfl,rfl,rfl,fl,gO,jy,jz,fu,oN⟩:=hP;exact X.val rfl rfl (gB rfl rfl) R2);(obtain⟨Xn,dR,rfl,rfl,rfl,rfl,rfl,fl,gO,jy,jz⟩:=hP;exact X.val rfl rfl (gB rfl rfl) R2);(obtain⟨Xn,dR,b7,rfl,rfl,rfl,rfl,rfl,rfl,fl,gO,jy,jz,fu,oN⟩:=hP;exact X.val rfl rfl (gB rfl rfl) R2);(obtain⟨Xn,dR,b7,rfl,rfl,rfl,rfl,rfl,rfl,rfl,fl,gO,jy,jz,fu,oN⟩:=hP;exact X.val rfl rfl (gB rfl rfl) R2)) (qk (qk (qn))))))))))))))))))) ?_ ?_
 ·refine Ua rfl rfl rfl ?_ ?_
  ·intro cv L' H' hl hr hP F Q' hk;obtain⟨fC,ja,ki,u3,u4,rfl⟩:=iB hl;rcases fC with _|v12<;>rcases ja with _|kT<;>rcases ki with _|oI<;>rcases u3 with _|sS<;>rcases u4 with _|v17<;>try exact False.elim hP
   ·obtain⟨rfl,rfl⟩:=hP;refine zef ?_;rintro W9 Xn dR lI vN ⟨fl,gO,Ef⟩;try dsimp only at fl gO Ef
    have sT:=lI.lt (b4,_) A0;try dsimp only at sT
    have Cc:=(lI.links w A2).size;have jy:=bh.off Ef sT;have jz:bh w.heap.size Xn:=⟨λq e=>.inr (aS Cc (Ef.1 q e)),λq e=>.inr (aS Cc (Ef.2 q e))⟩;exact OJ.done (hk _ _ _ ⟨Xn,dR,rfl,rfl,rfl,fl,gO,jy,jz⟩)
   ·obtain⟨b7,rfl,rfl,rfl,fu⟩:=hP;refine zef ?_;rintro W9 Xn dR lI vN ⟨fl,gO,Ef⟩;try dsimp only at fl gO Ef
    have sT:=lI.lt (b4,_) A1;try dsimp only at sT
    have Ub:=lI.lt (b7,_) A0;try dsimp only at Ub
    have Cc:=(lI.links w A2).size;have jy:=bh.off Ef sT;have jz:bh w.heap.size Xn:=⟨λq e=>.inr (aS Cc (Ef.1 q e)),λq e=>.inr (aS Cc (Ef.2 q e))⟩;have oN:=bh.off Ef Ub;exact OJ.done (hk _ _ _ ⟨Xn,dR,b7,rfl,rfl,rfl,rfl,fl,gO,jy,jz,fu,oN⟩)
   ·exact az
   ·exact az
   ·exact az
   ·exact az
   ·exact az
   ·exact az
   exact az
  refine Ua rfl rfl rfl ?_ ?_
  ·intro cv L' H' hl hr hP F Q' hk;obtain⟨fC,ja,ki,u3,u4,rfl⟩:=iB hl;rcases fC with _|v12<;>rcases ja with _|kT<;>rcases ki with _|oI<;>rcases u3 with _|sS<;>rcases u4 with _|v17<;>try exact False.elim hP
   ·exact az
   ·exact az
   ·obtain⟨Xn,dR,rfl,rfl,rfl,fl,gO,jy,jz⟩:=hP;refine B 1 ?_;exact OJ.done (hk _ _ _ ⟨Xn,dR,rfl,rfl,rfl,rfl,fl,gO,jy,jz⟩)
   ·obtain⟨Xn,dR,b7,rfl,rfl,rfl,rfl,fl,gO,jy,jz,fu,oN⟩:=hP;refine B 1 ?_;exact OJ.done (hk _ _ _ ⟨Xn,dR,b7,rfl,rfl,rfl,rfl,rfl,fl,gO,jy,jz,fu,oN⟩)
   ·exact az
   ·exact az
   ·exact az
   ·exact az
   exact az
  refine Ua rfl rfl rfl ?_ ?_
  ·intro cv L' H' hl hr hP F Q' hk;obtain⟨fC,ja,ki,u3,u4,rfl⟩:=iB hl;rcases fC with _|v12<;>rcases ja with _|kT<;>rcases ki with _|oI<;>rcases u3 with _|sS<;>rcases u4 with _|v17<;>try exact False.elim hP
   ·exact az
   ·exact az
   ·exact az
   ·exact az
   ·obtain⟨Xn,dR,rfl,rfl,rfl,rfl,fl,gO,jy,jz⟩:=hP;refine B 1 ?_;exact OJ.done (hk _ _ _ ⟨Xn,dR,rfl,rfl,rfl,rfl,rfl,fl,gO,jy,jz⟩)
   ·obtain⟨Xn,dR,b7,rfl,rfl,rfl,rfl,rfl,fl,gO,jy,jz,fu,oN⟩:=hP;refine B 1 ?_;exact OJ.done (hk _ _ _ ⟨Xn,dR,b7,rfl,rfl,rfl,rfl,rfl,rfl,fl,gO,jy,jz,fu,oN⟩)
   ·exact az
   ·exact az
   exact az
  refine Ua rfl rfl rfl ?_ ?_
  ·intro cv L' H' hl hr hP F Q' hk;obtain⟨fC,ja,ki,u3,u4,rfl⟩:=iB hl;rcases fC with _|v12<;>rcases ja with _|kT<;>rcases ki with _|oI<;>rcases u3 with _|sS<;>rcases u4 with _|v17<;>try exact False.elim hP
   ·obtain⟨rfl,rfl⟩:=hP;refine qV ?_;intro b7 ha ho;exact OJ.done (hk _ _ _ ⟨b7,rfl,rfl,rfl,(ha.mem w3 z1)⟩)
   ·exact az
   ·obtain⟨Xn,dR,rfl,rfl,rfl,fl,gO,jy,jz⟩:=hP;refine qV ?_;intro b7 ha ho;have oN:mK b7 Xn:=gO.off (by have:=ha.not (w:=dR) A0;omega);exact OJ.done (hk _ _ _ ⟨Xn,dR,b7,rfl,rfl,rfl,rfl,fl,gO,jy,jz,(ha.mem w3 z1),oN⟩)
   ·exact az
   ·obtain⟨Xn,dR,rfl,rfl,rfl,rfl,fl,gO,jy,jz⟩:=hP;refine qV ?_;intro b7 ha ho;have oN:mK b7 Xn:=gO.off (by have:=ha.not (w:=dR) A0;omega);exact OJ.done (hk _ _ _ ⟨Xn,dR,b7,rfl,rfl,rfl,rfl,rfl,fl,gO,jy,jz,(ha.mem w3 z1),oN⟩)
   ·exact az
   ·obtain⟨Xn,dR,rfl,rfl,rfl,rfl,rfl,fl,gO,jy,jz⟩:=hP;refine qV ?_;intro b7 ha ho;have oN:mK b7 Xn:=gO.off (by have:=ha.not (w:=dR) A0;omega);exact OJ.done (hk _ _ _ ⟨Xn,dR,b7,rfl,rfl,rfl,rfl,rfl,rfl,fl,gO,jy,jz,(ha.mem w3 z1),oN⟩)
   ·exact az
   exact az
  refine Ua rfl rfl rfl ?_ ?_
  ·intro cv L' H' hl hr hP F Q' hk;obtain⟨fC,ja,ki,u3,u4,rfl⟩:=iB hl;rcases fC with _|v12<;>rcases ja with _|kT<;>rcases ki with _|oI<;>rcases u3 with _|sS<;>rcases u4 with _|v17<;>try exact False.elim hP
   ·exact az
   ·exact az
   ·exact az
   ·exact az
   ·exact az
   ·exact az
   ·exact az
   ·obtain⟨Xn,dR,b7,rfl,rfl,rfl,rfl,rfl,rfl,fl,gO,jy,jz,fu,oN⟩:=hP;refine GR ?_;exact OJ.done (hk (.tuple #[]) _ _ ⟨Xn,dR,b7,rfl,rfl,rfl,rfl,rfl,rfl,rfl,fl,gO,jy,jz,fu,oN⟩)
   exact az
  exact nnS
 intro cv L' H' hl hr hP;obtain⟨fC,ja,ki,u3,u4,rfl⟩:=iB hl;rcases fC with _|v12<;>rcases ja with _|kT<;>rcases ki with _|oI<;>rcases u3 with _|sS<;>rcases u4 with _|v17
 ·exact az
 ·exact az
 ·exact az
 ·exact az
 ·exact az
 ·exact az
 ·exact az
 ·exact az
 ·exact az
 ·exact az
 ·exact az
 ·exact az
 ·exact az
 ·exact az
 ·exact az
 ·exact az
 ·exact az
 ·exact az
 ·exact az
 ·exact az
 ·exact az
 ·exact az
 ·exact az
 ·exact az
 ·exact az
 ·exact az
 ·exact az
 ·exact az
 ·exact az
 ·exact az
 ·exact az
 obtain⟨Xn,dR,b7,rfl,rfl,rfl,rfl,rfl,rfl,rfl,fl,gO,jy,jz,fu,oN⟩:=hP;refine B 4 ?_;refine ng (E':=[(0,_),(1,_),(2,_),(3,_),(4,_),(5,_),(6,_),(7,_),(8,_),(9,_),(10,_),(11,_),(12,_),(13,_),(14,_),(15,_),(17,_),(18,_),(19,_),(20,_),(21,_),(22,_),(23,_),(24,_),(25,_),(26,_),(27,_),(28,_),(29,_),(30,_),(31,_),(32,_)]) zR ?_;refine Tw 21 [20] [([],some _),([0],some (.slice (some ⟨ba,oa,none⟩) ((bC Z cs cs.length).map (·.2)).length tc)),([],some _),([1,2],some _),([3],some (.int .i64 (i:Int))),([],some _),([5],some (.slice (some ⟨bl,ol,none⟩) cs.length lc)),([],some _),([7],some (.slice (some ⟨ba,oa,none⟩) ((bC Z cs cs.length).map (·.2)).length tc)),([],some _),([8,9],some _),([10],some (.int .i64 (i:Int))),([6,11],some _),([12],some (.agg (dZ c))),([],some _),([14],some (.agg (dg fo.first))),([],some (.agg (aZ Xn))),([4,13,15,16],some (.agg (dO (⟨(i:Int),c,fo.first,0,Xn⟩:Cd)))),([],some _),([18],some _),([17],none)] (λcv L' H'=>match cv with| []=>L'=[dR,w3,w2,w]/\H'=[(b7,.cells (aZ Xn) 57 (0,0)),(b4,.cells (dO wg) 101 (0,0))]| [v1]=>v1= .tuple #[]/\L'=[dR,w3,w2,w]/\H'=[(b7,.cells (aZ Xn) 57 (0,0)),(b4,.cells (dO (⟨(i:Int),c,fo.first,0,Xn⟩:Cd)) 101 (0,0))]|_=>False) zT ⟨rfl,rfl⟩ zT zT zT zT zT zT zT (pc (by exact λcv L' H' hd hP=>X.val rfl rfl (ak underlying92 rfl sizeOf44 rfl) R2) (pc Eg (pc zW (pc (by exact λcv L' H' hd hP=>X.val rfl rfl (cL underlying44 sizeOf3 rfl rfl zM zM) R2) (pc Eg (pc (by exact λcv L' H' hd hP=>X.val rfl rfl (ak underlying92 rfl sizeOf24 rfl) R2) (pc Eg (pc (by exact λcv L' H' hd hP=>X.val rfl rfl (ak underlying92 rfl sizeOf44 rfl) R2) (pc Eg (pc zW (pc (by exact λcv L' H' hd hP=>X.val rfl rfl (cL underlying44 sizeOf3 rfl rfl zM zM) R2) (pc Eg (pc (by exact λcv L' H' hd hP=>X.val rfl rfl (cL underlying24 sizeOf99 rfl rfl zM zM) R2) (pc Eg (pc (by exact λcv L' H' hd hP=>X.val rfl rfl (ak underlying50 rfl sizeOf34 rfl) R2) (pc Eg (pc Eg (pc zuc (pc zW (pc (by exact λcv L' H' hd hP=>X.val rfl rfl (cM rfl rfl) R2) (pk (pn)))))))))))))))))))))) ?_ ?_
 ·refine ss rfl rfl ?_ ?_
  ·intro cv L' H' hl hP F Q' hk;obtain rfl:=jt hl;obtain⟨rfl,rfl⟩:=hP;refine zQh ?_;exact OJ.done (hk (.tuple #[]) _ _ ⟨rfl,rfl,rfl⟩)
  exact Yj
 intro cv L' H' hl hP;obtain⟨v1,rfl⟩:=di hl;obtain⟨rfl,rfl,rfl⟩:=hP;refine B 4 ?_;have hfo:Yi Z cs fo=some i:=by unfold Yi;rw[hk,if_neg zM,wK,hq,wO,MV,wK]
 have hcN:Hh cs i=c:=by unfold Hh;rw[hc];rfl
 refine bJ (.inl rfl) results51 (RS.wA (i:=1) rfl isAgg101 sizeOf101 rfl (aT rfl) (RS.t rfl RS.n)) λW hS=>⟨((⟨(i:Int),c,fo.first,0,Xn⟩:Cd),decide (e=0)),rfl,hS.base A3 zP,?_⟩;by_cases PY:e=0
 ·refine .inl ⟨decide_eq_true PY,by unfold Cb;rw[hfo,Option.bind_some,hcN,he,if_pos PY];rfl,⟨Int.natCast_nonneg _,hc,fl.trans (if_pos (by rw[he];exact PY)),by rw[<-PY];exact he⟩,gO.toO hS A0 (ao _) (λp hp=>?_),jz⟩;simp only[dC,fk,cP,fm,or_false]at hp;rcases hp with rfl|rfl
  ·exact oN
  exact jy
 exact .inr ⟨decide_eq_false PY,by unfold Cb;rw[hfo,Option.bind_some,hcN,he,if_neg PY]⟩
def Eh (cs:List Cm) (e:Int):Nat:=(cs.filter λc=>decide (e<c.epoch)).length
theorem M7(cs:List Cm)(e:Int):Eh cs e<=cs.length:=Ap _ _
theorem ngm(e:Int):∀cs:List Cm,Eh cs (e+1)<=Eh cs e
 | []=>ao _
 |c::cs=>by
  have ih:=ngm e cs;unfold Eh at ih ⊢;by_cases h1:e+1<c.epoch
  ·rw[M8 AY,M8 kh];simp only[ec];omega
  rw[Uc AY];by_cases h2:e<c.epoch
  ·rw[M8 Jp];simp only[ec];omega
  rw[Uc Jp];exact ih
theorem n4k{e:Int}{c:Cm}(he:c.epoch=e+1):∀{cs:List Cm},c∈cs->Eh cs (e+1)<Eh cs e
 | [],h=>by cases h
 |b::cs,h=>by
  rcases cP.1 h with rfl|h
  ·have ih:=ngm e cs;unfold Eh at ih ⊢;rw[Uc kh,M8 kh];simp only[ec];omega
  have ih:=n4k he h;unfold Eh at ih ⊢;by_cases h1:e+1<b.epoch
  ·rw[M8 AY,M8 kh];simp only[ec];omega
  rw[Uc AY];by_cases h2:e<b.epoch
  ·rw[M8 Jp];simp only[ec];omega
  rw[Uc Jp];exact ih
theorem Ce{c:Cm}{cs:List Cm}(h:c∈cs):1+Eh cs c.epoch<=cs.length:=by
 have h1:=n4k (e:=c.epoch-1) (c:=c) zM h;rw[show c.epoch-1+1=c.epoch by omega]at h1;have:=M7 cs (c.epoch-1);omega
theorem nLo{c:Cm}(h:lL Z g c=0):c.epoch=g.epoch+1:=by
 unfold lL at h;split at h
 ·split at h
  ·split at h
   ·rename_i _ _ hf;unfold kH at hf;simp only[fX,decide_eq_true_eq]at hf;exact hf.1.2
   cases h
  cases h
 cases h
def JN (Z:Fx) (cs:List Cm):Gp->List (Nat×Gp)->Prop
 |g,[]=>Ee Z cs g=none
 |g,p::l=>Ee Z cs g=some p.1/\p.2=BN Z g (Hh cs p.1)/\JN Z cs p.2 l
def oy (Z:Fx) (cs:List Cm) (fo:Fo):List (Nat×Gp)->Prop
 | []=>Cb Z cs fo=none
 |p::l=>Cb Z cs fo=some p.1/\p.2=BN Z (g0 fo) (Hh cs p.1)/\JN Z cs p.2 l
theorem JN.uniq{Z:Fx}{cs:List Cm}:∀{l l':List (Nat×Gp)} {g:Gp},JN Z cs g l->JN Z cs g l'->l=l'
 | [],[],_,_,_=>rfl
 | [],p::l,_,h,h'=>by have:=h.symm.trans h'.1;cases this
 |p::l,[],_,h,h'=>by have:=h'.symm.trans h.1;cases this
 |p::l,q::l',g,h,h'=>by
  have e1:p.1=q.1:=Option.some.inj (h.1.symm.trans h'.1);have e2:p.2=q.2:=by rw[h.2.1,h'.2.1,e1]
  have e3:=JN.uniq h.2.2 (e2▸h'.2.2);rw[show p=q from Prod.ext e1 e2,e3]
variable {fo:Fo}
theorem oy.uniq{cs:List Cm}:∀{l l':List (Nat×Gp)},oy Z cs fo l->oy Z cs fo l'->l=l'
 | [],[],_,_=>rfl
 | [],p::l,h,h'=>by have:=h.symm.trans h'.1;cases this
 |p::l,[],h,h'=>by have:=h'.symm.trans h.1;cases this
 |p::l,q::l',h,h'=>by
  have e1:p.1=q.1:=Option.some.inj (h.1.symm.trans h'.1);have e2:p.2=q.2:=by rw[h.2.1,h'.2.1,e1]
  have e3:=JN.uniq h.2.2 (e2▸h'.2.2);rw[show p=q from Prod.ext e1 e2,e3]
def qX (d:Cd):Nat×Gp:=(pr d,d.x.g)
def du (Y:aA) (x:Gv):Prop:=(∀q,x.ma=some q->x.g.ms=[]\/¬Y q.block)/\(∀q,x.na=some q->x.g.ns=[]\/¬Y q.block)
theorem bh.out{K:Nat}{Y:aA}{x:Gv}(h:bh K x)(hy:∀k,Y k->k<K):du Y x:=⟨λq e=>(h.1 q e).imp id (λh h2=>by have:=hy _ h2;omega),λq e=>(h.2 q e).imp id (λh h2=>by have:=hy _ h2;omega)⟩
theorem bh.offb{K:Nat}{x:Gv}(h:bh K x)(hb:b<K):mK b x:=⟨λq e=>(h.1 q e).imp id (λh=>by omega),λq e=>(h.2 q e).imp id (λh=>by omega)⟩
theorem du.up{w:World}{Y Y':aA}{x:Gv}(h:du Y x)(ha:aM N w x)(hy:∀k,Y' k->Y k\/N<=k):du Y' x:=
 ⟨λq e=>by
  rcases h.1 q e with h1|h1
  ·exact .inl h1
  rcases ha.ms.ltq q e with h2|h2
  ·exact .inl h2
  exact .inr (λh3=>(hy _ h3).elim h1 (λh4=>by omega)),
  λq e=>by
   rcases h.2 q e with h1|h1
   ·exact .inl h1
   rcases ha.ns.ltq q e with h2|h2
   ·exact .inl h2
   exact .inr (λh3=>(hy _ h3).elim h1 (λh4=>by omega))⟩
theorem aM.toZ{w:World}{x:Gv}(h:aM N w x)(hS:St G L H W)(hw:w∈L)(hN:N<=w.heap.size)(hx:du G.X x)(ho:∀p∈H,mK p.1 x):aM W.heap.size W x:=by
 have key:∀b,(∀p∈H,p.1≠b)->bE H b:=λb hb=>bE.of_mem (λhm=>by obtain⟨p,hp,e⟩:=bU.1 hm;exact hb p hp e);refine⟨h.ms.toG hS hw hN (λb off e=>?_),h.ns.toG hS hw hN (λb off e=>?_),h.mn,h.nn⟩
 ·by_cases h0:x.g.ms=[]
  ·exact .inl h0
  exact .inr (λ_=>⟨(hx.1 _ e).resolve_left h0,key b (λp hp e2=>((ho p hp).1 _ e).resolve_left h0 e2.symm)⟩)
 by_cases h0:x.g.ns=[]
 ·exact .inl h0
 exact .inr (λ_=>⟨(hx.2 _ e).resolve_left h0,key b (λp hp e2=>((ho p hp).2 _ e).resolve_left h0 e2.symm)⟩)
structure Hk (Z:Fx) (cs:List Cm) (fo:Fo) (M:aA) (pre:List Cd) (d:Cd) (V:aA) (wk:World) (b4:Nat):Prop where
 next:∀l,JN Z cs d.x.g l->oy Z cs fo (pre.map qX++qX d::l)
 lies:aM wk.heap.size wk d.x
 out:du (λk=>M k\/V k) d.x
 off:mK b4 d.x
 mu:pre.length+1+Eh cs d.x.g.epoch<=cs.length
theorem u2.nx{cs:List Cm}{d:Cd}(h:u2 Z cs g d):d.x.g=BN Z g (Hh cs (pr d)):=by rw[h.x];unfold Hh;rw[h.at_];rfl
theorem Hk.first{cs:List Cm}{d:Cd}{w9:World}{b4 K:Nat}(h:Cb Z cs fo=some (pr d))(hd:u2 Z cs (g0 fo) d)(ha:aM w9.heap.size w9 d.x)(hn:bh K d.x)(hM:∀k,M k->k<K)(hb:w9.heap.size<=b4):Hk Z cs fo M [] d (λ_=>False) w9 b4 where
 next:=λl hl=>⟨h,hd.nx,hl⟩
 lies:=ha
 out:=hn.out (λk hk=>hk.elim (hM k) (λh=>h.elim))
 off:=ha.off hb
 mu:=by
  have h1:=Ce (cB hd.at_);rw[hd.x];simp only[lF,BN];omega
theorem Hk.step{cs:List Cm}{V V2:aA}{pre:List Cd}{d d2:Cd}{wk w9:World}{b4 b5 K:Nat}(hc:Hk Z cs fo M pre d V wk b4)(h:Ee Z cs d.x.g=some (pr d2))(hd:u2 Z cs d.x.g d2)(ha:aM w9.heap.size w9 d2.x)(hn:bh K d2.x)(hM:∀k,M k->k<K)(hV:∀k,V2 k->k<K)(hb:b5<K):Hk Z cs fo M (pre++[d]) d2 V2 w9 b5 where
 next:=λl hl=>by
  have h1:=hc.next (qX d2::l) ⟨h,hd.nx,hl⟩;rw[ga,iH];exact h1
 lies:=ha
 out:=hn.out (λk hk=>hk.elim (hM k) (hV k))
 off:=hn.offb hb
 mu:=by
  have h1:=hc.mu;have h2:=nLo hd.ok;have h3:=n4k h2 (cB hd.at_);rw[hd.x];simp only[cC,ec,lF,BN,h2];omega
theorem Hk.stop{cs:List Cm}{V:aA}{pre:List Cd}{d:Cd}{wk:World}{b4:Nat}(hc:Hk Z cs fo M pre d V wk b4)(h:Ee Z cs d.x.g=none):oy Z cs fo ((pre++[d]).map qX):=by
 rw[ga];exact hc.next [] h
def Cf (NQ NR NX:Nat):aA:=λk=>k<NX/\(k<NQ\/NR<=k)
structure JO (Z:Fx) (cs:List Cm) (la ia ta:Option Addr) (ic tc NQ NR NX:Nat) (W:World):Prop where
 q:NQ<=NX
 x:NX<=W.heap.size
 n3:5<=NQ
 sl:ah dZ 73 NQ W la cs
 C:∀c∈cs,dQ NQ W c
 p:mr Z cs NX W ⟨ia,ic,ta,tc⟩
 pi:∀q,ia=some q->NR<=q.block
 pt:∀q,ta=some q->NR<=q.block
 g:Glb W
theorem JO.args{cs:List Cm}{la ia ta:Option Addr}{ic tc NQ NR NX:Nat}(h:JO Z cs la ia ta ic tc NQ NR NX W)(hs:W.heap.size<=W'.heap.size)(same:∀k,Cf NQ NR NX k->W'.heap[k]? =W.heap[k]?):ah dZ 73 W'.heap.size W' la cs/\(∀c∈cs,dQ W'.heap.size W' c)/\mr Z cs W'.heap.size W' ⟨ia,ic,ta,tc⟩/\Glb W':=by
 have hq:=h.q;have hx:=h.x;have h3:=h.n3
 have s2:∀k,k<NQ->W'.heap[k]? =W.heap[k]? :=λk hk=>same k ⟨by omega,.inl hk⟩;refine⟨h.sl.up zM s2,λc hc=>(h.C c hc).up zM s2,⟨h.p.ids.blk λb off e hb=>⟨by omega,same b ⟨hb,.inr (h.pi _ e)⟩⟩,h.p.at_.blk λb off e hb=>⟨by omega,same b ⟨hb,.inr (h.pt _ e)⟩⟩⟩,?_⟩;obtain⟨⟨t,fr,h0⟩,t2,ry,h2⟩:=h.g;exact⟨⟨t,fr,(s2 _ zM).trans h0⟩,t2,ry,(s2 _ zM).trans h2⟩
theorem JO.same{cs:List Cm}{la ia ta:Option Addr}{ic tc NQ NR NX:Nat}{V:aA}{hM:∀k,M k->k<W.heap.size/\¬(λ_=>False) k/\¬Cf NQ NR NX k}{hI:eC (λk=>(k<W.heap.size/\¬(λ_=>False) k)\/V k) I}(h:JO Z cs la ia ta ic tc NQ NR NX W)(hS:St (cj hM V hI) L H W')(hw:W∈L)(hV:∀k,V k->W.heap.size<=k)(ho:Over W.heap.size H):∀k,Cf NQ NR NX k->W'.heap[k]? =W.heap[k]? :=λk hk=>by
 have hx:=h.x;have VT:=hk.1
 refine(hS.links W hw).block k zM ?_;rintro((h1|h1)|h1)
 ·exact(hM k h1).2.2 hk
 ·have:=hV k h1;omega
 obtain⟨p,hp,rfl⟩:=bU.1 h1;have:=ho.mem p hp;omega
theorem n2o{c:Code}{Q:aF}(hi:H[i]? =some (b,o))(hb:ab L' b)(hs:∀w∈L',w∈L)(k:∀W,St G L H W->CJ C c Q E D G (W::L') (H.eraseIdx i)):CJ C c Q E D G L H:=
 λa W hN hD hF hS=>k W hS a W hN hD hF ((hS.lessL hs).dropAt hi hb).snap
theorem nVo{α β:Type}{Ud:α->List Value}{Bf:β->List Value}{A A':ad}(hA:A'.map (·.1)=A.map (·.1)){r1 r2:Rw}{b1 c1 t1 b2 c2 t2 n:Nat}{Wg Mv:List Value}{xs1 ys1:List α}{xs2 ys2:List β}(uw:r1.isAt b1\/n<=b1)(wH:r2.isAt b2\/n<=b2):∀p∈(A'++((Rw.row b1 c1 Wg).hp Ud t1 ys1++((Rw.row b2 c2 Mv).hp Bf t2 ys2++[])):ad),p.1∈(A++(r1.hp Ud t1 xs1++(r2.hp Bf t2 xs2++[])):ad).map (·.1)\/n<=p.1:=by
 intro p hp;rw[ga,ga,dN];rw[dN]at hp;rcases cS.1 hp with hp|hp
 ·exact .inl (cS.2 (.inl (hA▸bU.2 ⟨p,hp,rfl⟩)))
 rcases cS.1 hp with hp|hp
 ·simp only[Rw.hp,cP,fm,or_false]at hp;subst hp;exact uw.imp (λh=>cS.2 (.inr (cS.2 (.inl (Rw.mem_at h))))) id
 simp only[Rw.hp,cP,fm,or_false]at hp;subst hp;exact wH.imp (λh=>cS.2 (.inr (cS.2 (.inr (Rw.mem_at h))))) id
theorem Ue{fn:Func}{Dk t4 t5 T4 T5 b4 b5 Uf ct5:Nat}{cs5:Array Value}{fr5:Nat×Nat}{v4 v5:Value}(he:e= .ret\/e= .normal)(hr:fn.results=#[.cell t4 T4,.cell t5 T5])(K7:eQ C.P T4 false)(DR:eQ C.P T5 false)(Ug:look E t4=some (ptr b4 0))(hx5:look E t5=some (ptr b5 0))(hm:(Dk,.deferred (some []))∈H)(cT:(b4,.cells JE Uf TJ)∈H)(ff:(b5,.cells cs5 ct5 fr5)∈H)(n4:b4≠Dk)(n5:b5≠Dk)(Uh:JE[0]? =some v4)(Tk:cs5[0]? =some v5)(h:∀W H',St G L H' W->H'.map (·.1)=H.map (·.1)->(∀p∈H,p.1≠Dk->p∈H')->R (.returned (.tuple #[v4,v5])) W):PJ C (bodyPostM (FW none) 0 C.P fn R) e E [eh Dk] G L H:=
 sf he hm λa W H' hF hS bS bF=>by
  obtain⟨i,hi⟩:=iQ.1 (bS _ cT n4);obtain⟨j,hj⟩:=iQ.1 (bS _ ff n5);exact⟨_,(RS.w (C:=C) hi K7 Ug Uh (RS.w (C:=C) hj DR hx5 Tk RS.n)).res hr hF hS,h W H' hS bF bS⟩
theorem JO.mk2{cs:List Cm}{la ia ta:Option Addr}{ic tc NR:Nat}{w wp wn W2:World}(hN:N<=w.heap.size)(aN:ah dZ 73 N w la cs)(hC:∀c∈cs,dQ N w c)(hg:Glb w)(hp:mr Z cs wp.heap.size wp ⟨ia,ic,ta,tc⟩)(hi:∀q,ia=some q->NR<=q.block)(ht:∀q,ta=some q->NR<=q.block)(hS:St Gh.no L H W)(hw:w∈L)(Cg:wp∈L)(hwn:wn∈L)(hB:Below W.heap.size W W2)(h1:w.heap.size<=wn.heap.size)(h2:wp.heap.size<=wn.heap.size)(ho:∀p∈H,w.heap.size<=p.1/\p.1<NR):JO Z cs la ia ta ic tc w.heap.size NR wn.heap.size W2:=by
 have l1:=(hS.links w hw).size;have l2:=(hS.links wp Cg).size;have l3:=(hS.links wn hwn).size;have s1:∀k,k<w.heap.size->W2.heap[k]? =w.heap[k]? :=λk hk=>(hB.block k zM).trans ((hS.links w hw).block k hk (λhx=>hx.elim zZ (λh=>by obtain⟨p,hp,rfl⟩:=bU.1 h;have:=ho p hp;omega)));have s2:∀k,k<wp.heap.size->NR<=k->W2.heap[k]? =wp.heap[k]? :=λk hk Yk=>(hB.block k zM).trans ((hS.links wp Cg).block k hk (λhx=>hx.elim zZ (λh=>by obtain⟨p,hp,rfl⟩:=bU.1 h;have:=ho p hp;omega)));refine⟨h1,aS l3 hB.size,hg.lt,aN.up hN (λk hk=>s1 k zM),λc hc=>(hC c hc).up hN (λk hk=>s1 k zM),⟨hp.ids.blk λb off e hb=>⟨by omega,s2 b hb (hi _ e)⟩,hp.at_.blk λb off e hb=>⟨by omega,s2 b hb (ht _ e)⟩⟩,hi,ht,?_⟩;have h3:=hg.lt;obtain⟨⟨t,fr,h0⟩,t2,ry,h2⟩:=hg;exact⟨⟨t,fr,(s1 _ zM).trans h0⟩,t2,ry,(s1 _ zM).trans h2⟩
theorem njo(Z:Fx)(cs:List Cm)(la:Option Addr)(lc:Nat)(ia:Option Addr)(ic:Nat)(ta:Option Addr)(tc:Nat)(fo:Fo)(w:World):Calls prog 23 #[.agg (xy Z cs la lc ⟨ia,ic,ta,tc⟩),.agg (rJ fo)] w (cu w (λq:Nat×Nat=>.func (.func 50) #[] #[ptr q.1 0,ptr q.2 0]) (λq w1=>w.heap.size<=q.1/\w.heap.size<=q.2/\w1.heap[q.1]? =some (.cells (xy Z cs la lc ⟨ia,ic,ta,tc⟩) 92 (0,0))/\w1.heap[q.2]? =some (.cells (rJ fo) 50 (0,0)))):=by
 refine enter (vs:=[_,_]) func23 rfl ntmps23 rfl ?_;refine B 2 ?_;refine yX ?_;intro b2 w2 aI aE dY cA db;refine yX ?_;intro b3 w3 aJ aD dr bY cR;refine B 10 ?_;refine jM (b2,b3) results23 rfl A2 rfl ?_;exact λW hS=>⟨by have:=cA.1;omega,by have:=bY.2.1;omega,hS.old A1 aI aE trivial,hS.old A0 aJ aD trivial⟩
structure Pl where
 time:Int
 dev:Int
 fol:Int
 par:Int
 nm:ByteArray
def plA (p:Pl):Array Value:=#[.int .i64 p.time,.int .i64 p.dev,.int .i64 p.fol,.int .i64 p.par,.string p.nm]
def ig (p:Pl):List Value:=[.int .i64 p.time,.int .i64 p.dev,.int .i64 p.fol,.int .i64 p.par,.string p.nm]
theorem nH(p:Pl):(ig p).length=5:=rfl
theorem Yl(p:Pl):∀u∈ig p,u.oneCell'=true:=by intro u hu;simp[ig]at hu;rcases hu with rfl|rfl|rfl|rfl|rfl<;>rfl
instance:Inhabited Pl:=⟨⟨0,0,0,0,.empty⟩⟩
theorem Hl:prog.info? 135=some Tryz.t135:=by kernel_rfl
def jb (p:Pl):Prop:=(1<=p.time/\p.time<=1099511627776)/\(0<=p.dev/\p.dev<=511)/\(0<=p.fol/\p.fol<=15)/\(-1<=p.par/\p.par<=15)/\(1<=(p.nm.size:Int)/\(p.nm.size:Int)<=64)
instance (p:Pl):Decidable (jb p):=by unfold jb;infer_instance
theorem n5k(n lo hi:Int)(w:World):Calls prog 122 #[.int .i64 n,.int .i64 lo,.int .i64 hi] w (av w (.bool (decide (lo<=n/\n<=hi)))):=by
 refine enter (vs:=[_,_,_]) func122 rfl ntmps122 rfl ?_;refine B 11 ?_;refine nh (t:=10) rfl (λaj=>?_) (λaj=>?_)
 ·exact zUk
 exact zUk
theorem Ui{n lo hi:Int}(h:lo<=n/\n<=hi)(w:World):Calls prog 122 #[.int .i64 n,.int .i64 lo,.int .i64 hi] w (av w (.bool true)):=by have:=n5k n lo hi w;rwa[decide_eq_true h]at this
theorem Uj{n lo hi:Int}(h:¬(lo<=n/\n<=hi))(w:World):Calls prog 122 #[.int .i64 n,.int .i64 lo,.int .i64 hi] w (av w (.bool false)):=by have:=n5k n lo hi w;rwa[decide_eq_false h]at this
theorem nzm(p:Pl)(w:World):Calls prog 90 #[.agg (plA p)] w (av w (.int .i64 (if jb p then 0 else 270))):=by
 refine enter (vs:=[_]) func90 rfl ntmps90 rfl ?_;refine B 2 ?_;refine yX ?_;intro b1 w1 aP aX fW eb ir;refine B 10 ?_;by_cases h1:1<=p.time/\p.time<=1099511627776
 ·by_cases h2:0<=p.dev/\p.dev<=511
  ·by_cases h3:0<=p.fol/\p.fol<=15
   ·by_cases h4: -1<=p.par/\p.par<=15
    ·by_cases h5:1<=(p.nm.size:Int)/\(p.nm.size:Int)<=64
     ·refine zei ?_;refine nJ (v:=.bool true) (f:=122) (cap:=[]) rfl call122 rfl rfl rfl (λW hS=>Ui h5 W) ?_;refine B 13 ?_;exact PZ
     refine zei ?_;refine nJ (v:=.bool false) (f:=122) (cap:=[]) rfl call122 rfl rfl rfl (λW hS=>Uj h5 W) ?_;refine B 12 ?_;exact PZ
    refine B 4 ?_;refine Ym ?_;refine B 5 ?_;refine zZf ?_;refine B 6 ?_;refine zDg ?_;refine B 6 ?_;refine nJ (v:=.bool false) (f:=122) (cap:=[]) rfl call122 rfl rfl rfl (λW hS=>Uj h4 W) ?_;refine B 20 ?_;exact PZ
   refine B 4 ?_;refine Ym ?_;refine B 5 ?_;refine zZf ?_;refine B 6 ?_;refine nJ (v:=.bool false) (f:=122) (cap:=[]) rfl call122 rfl rfl rfl (λW hS=>Uj h3 W) ?_;refine B 27 ?_;exact PZ
  refine B 4 ?_;refine Ym ?_;refine B 5 ?_;refine nJ (v:=.bool false) (f:=122) (cap:=[]) rfl call122 rfl rfl rfl (λW hS=>Uj h2 W) ?_;refine B 34 ?_;exact PZ
 refine B 4 ?_;refine nJ (v:=.bool false) (f:=122) (cap:=[]) rfl call122 rfl rfl rfl (λW hS=>Uj h1 W) ?_;refine B 40 ?_;exact PZ
theorem M9(p:Pl)(w:World):Calls prog 89 #[.agg (plA p)] w (av w (.bool (!decide (jb p)))):=by
 refine enter (vs:=[_]) func89 rfl ntmps89 rfl ?_;refine B 2 ?_;refine yX ?_;intro b1 w1 aP aX fW eb ir;refine B 5 ?_;refine rv rfl rfl rfl (af isAgg135 sizeOf135 rfl A0 aP aX trivial rfl) ?_;refine call call90 rfl rfl rfl (λW hS=>nzm p W) ?_;refine B 5 ?_;refine ay results89 rfl A1 ?_;exact vb (by by_cases h:jb p<;>simp[h])
theorem nHg(p:Pl->Bool)(f:Nat)(cap:List Value)(ax:dU prog f)(xs:List Pl)(ck:xs.length<=1000000)(N:Nat)(a:Option Addr)(cp:Nat)(w:World)(hN:N<=w.heap.size)(aN:ah plA 5 N w a xs)(hp:∀(j:Nat) (x:Pl),xs[j]? =some x->∀W,Below w.heap.size w W->Calls prog f (.agg (plA x)::cap).toArray W (av W (.bool (p x)))):Calls prog 121 #[.slice a xs.length cp,.func (.func f) #[] cap.toArray] w (cu w (λi:Int=>.int .i64 i) (λi _=>cZ p xs i)):=by
 refine enter (vs:=[_,_]) func121 rfl ntmps121 rfl ?_;refine Jj ?_;rintro j ⟨hj,er⟩;refine B 6 ?_;refine aO ?_ ?_
 ·intro aj;refine B 11 ?_;obtain⟨bo,oo,cs0,to,fA,rfl,fG,hcs,ar⟩:=aN.get zM;obtain⟨x,hx⟩:=nj xs j zM;refine B 5 ?_;refine rq (.agg (plA x)) (ag isAgg135 sizeOf135 rfl A0 hcs zZ trivial (nl ar hx rfl)) (va (nq ar hx rfl)) ?_;refine Jk ?_;refine aO ?_ ?_
  ·intro aQ;refine B 12 ?_;refine jM (j:Int) results121 rfl A0 rfl ?_;exact Jl
  exact Gs
 intro aj;refine B 11 ?_;refine jM (-1:Int) results121 rfl A0 rfl ?_;exact Gt
theorem nEk(p:Pl->Bool)(f:Nat)(cap:List Value)(ax:dU prog f)(xs:List Pl)(ck:xs.length<=100000)(b cp:Nat)(sp:List Value)(w:World)(hb:w.heap[b]? =some (cD ig 135 xs sp))(bW:(Rw.row b cp sp).Fit 5 xs)(hp:∀(j:Nat) (x:Pl),xs[j]? =some x->∀W,aG (· =b) w W->b<W.heap.size->Calls prog f (.agg (plA x)::cap).toArray W (av W (.bool (p x)))):Calls prog 87 #[.slice (some ⟨b,0,none⟩) xs.length cp,.func (.func f) #[] cap.toArray] w (λe w'=>∃bK,e= .returned ((λr=>r.val (xs.filter (λx=> !p x)).length) (Rw.row b cp bK))/\aG (· =b) w w'/\(Rw.row b cp bK).Fit 5 (xs.filter (λx=> !p x))/\w'.heap[b]? =some (cD ig 135 (xs.filter (λx=> !p x)) bK)):=by
 have vP:=bW.1;have de:=bW.2;have jN:=(aL.1 hb).1;refine nM (Gh.lent (· =b)) [(b,cD ig 135 xs sp)] (vs:=[_,_]) func87 rfl ntmps87 rfl (zh hb) ?_;refine B 9 ?_;refine nr (α:=Int) (v:=λi:Int=>.int .i64 i) (Φ:=λ_ i _=>cZ p xs i) call121 rfl rfl rfl (λW hS=>?_) ?_
 ·have pj:=hS.own (b,_) A0;have lp:ah plA 5 W.heap.size W (some ⟨b,0,none⟩) xs:=by
   obtain⟨a9,c9,e9,h9⟩:=(Rw.row b cp sp).sl (enc:=ig) (t:=135) (N:=W.heap.size) (w:=W) nH bW pj (ao _);exact zBk
  exact nHg p f cap ax xs zM W.heap.size (some ⟨b,0,none⟩) cp W (ao _) lp (λj x hx W2 hB=>hp j x hx W2 (nBl ((hS.links w A0).mono (λk _ hk=>by rcases hk with hk|hk;(exact hk);(simp only[eF,iz,dC,fk,cP,fm,or_false]at hk;first|exact hk|(rcases hk with hk|hk;(exfalso;omega);exact hk)))) hB) zje)
 intro Wi i wi sC sD hi;have hbi:=sC.lt (b,_) A0;have hzi:=sD.size;refine B 5 ?_;rcases hi with⟨rfl,ib⟩|⟨k,x0,rfl,iU,Bv,eN⟩
 ·refine B 2 ?_;refine PM ?_;exact bJ (.inl rfl) results87 (RS.t rfl RS.n) λW hS=>⟨sp,by rw[GJ ib];rfl,hS.baseX A1 DZ,by rw[GJ ib];exact bW,by rw[GJ ib];exact hS.own _ A0⟩
 refine B 2 ?_;refine QB ?_;refine B 7 ?_;have lH:=nF iU;refine B 7 ?_;refine CJ.loop (α:=(Nat×List Pl)×Nat) (λp9=>[(0,.slice (some ⟨b,0,none⟩) xs.length cp),(1,.func (.func f) #[] cap.toArray),(5,.int .i64 (p9.1.1:Int)),(6,.int .i64 (p9.2:Int))]) (λp9=>[(b,cD ig 135 p9.1.2 sp)]) (λp9=>[w]) (λp9=>Gh.lent (· =b)) (λp9=>p9.1.1<p9.2/\p9.2<=xs.length/\p9.1.2.length=xs.length/\p9.1.2.take p9.1.1=(xs.take p9.2).filter (λx=> !p x)/\p9.1.2.drop p9.2=xs.drop p9.2) (λp9=>xs.length-p9.2) ((k,xs),k+1) ⟨by dsimp only;omega,by dsimp only;omega,rfl,by dsimp only;rw[Tl iU,if_pos Bv,nPg eN,dN],rfl⟩ zR rfl rfl z1 ?_;rintro⟨⟨i2,cur⟩,j⟩ ⟨xp,lU,mj,D7,Jy⟩;dsimp only at xp lU mj D7 Jy ⊢;refine B 9 ?_;refine aO ?_ ?_
 ·intro aj;refine B 5 ?_;obtain⟨x,hx⟩:=nj xs j zM;obtain⟨Jz,GK⟩:=nXh Jy hx;refine B 4 ?_;refine rq (.agg (plA x)) (cN (i:=0) rfl isAgg135 sizeOf135 rfl (Jx nH zM)) (va (Jw (sp:=sp) nH Jz)) ?_;refine Na ?_;refine yW ?_;intro b7 fu lG;refine JP ?_;refine B 6 ?_;refine zUe ?_;refine B 3 ?_;refine aO ?_ ?_
  ·intro aQ;refine B 6 ?_;refine Bw (enc:=ig) (m:=5) (i:=1) (j:=i2) (z:=x) rfl nH Yl sizeOf135 rfl rfl rfl z1 zM rfl rfl ?_;exact zvj
  exact zDj
 intro aj;refine B 6 ?_;have Tn:j=xs.length:=by omega
 have uS:cur.take i2=(xs.filter (λx=> !p x)):=by rw[D7,Tn,I8]
 refine B 3 ?_;refine rq (.slice (some ⟨b,if cp=i2 then 0 else 0+i2*5,none⟩) (cur.drop i2).length (cp-i2)) (iw (l:=i2) (h:=xs.length) underlying32 sizeOf135 rfl ⟨_,_,rfl,rfl⟩ rfl zM zM rfl) (by rw[AN,mj]) ?_;refine OJ.reH (H':=[(b,cD ig 135 (cur.take i2++cur.drop i2) sp)]) (by rw[yj]) ?_;refine By (i:=0) rfl nH underlying32 zeroValue135 rfl (nih rfl _) rfl rfl zDd ?_;intro Mv Bz;refine B 6 ?_;refine rq (.slice (some ⟨b,0,none⟩) (cur.take i2).length cp) (gn (h:=i2) underlying32 sizeOf135 rfl ⟨_,_,rfl,rfl⟩ zM) (by rw[kx,Nat.min_eq_left zM]) ?_;refine B 4 ?_;exact bJ (.inl rfl) results87 (RS.t rfl RS.n) λW hS=>⟨Mv,by rw[<-uS];rfl,hS.baseX A0 DZ,by rw[<-uS];exact⟨by rw[kx];omega,by rw[Bz,AN,kx,de,Nat.min_eq_left zM,mj,<-lK];congr 1;omega⟩,by rw[<-uS];exact hS.own _ A0⟩
theorem Nb:lT prog 32 135 5:=⟨underlying32,Tryz.t135,.agg #[.int .i64 0,.int .i64 0,.int .i64 0,.int .i64 0,.string .empty],Hl,rfl,rfl,rfl,by decide⟩
theorem ngl(n c:Nat)(w:World):Calls prog 88 #[.slice none n c] w (nB w ig 5 135 ([]:List Pl) id):=by
 refine enter (vs:=[_]) func88 rfl ntmps88 rfl ?_;refine B 9 ?_;refine rr (.bool true) (mI underlying32 rfl rfl) ?_;refine B 10 ?_;exact nT (H0:=[]) (H1:=[]) (r:=.nil) (.inl rfl) results88 (RS.t rfl RS.n) A0 trivial rfl rfl True.intro rfl
theorem nwk(xs:List Pl)(ck:xs.length<=100000)(N:Nat)(q:Addr)(cp:Nat)(w:World)(hN:N<=w.heap.size)(aN:ah plA 5 N w (some q) xs):Calls prog 88 #[.slice (some q) xs.length cp] w (nB w ig 5 135 xs id):=by
 refine enter (vs:=[_]) func88 rfl ntmps88 rfl ?_;refine B 9 ?_;refine rr (.bool false) (qT underlying32 rfl rfl) ?_;refine B 7 ?_;refine lj underlying32 sizeOf135 zeroValue135 rfl rfl rfl rfl rfl rfl rfl ?_;refine yW ?_;intro b5 iu iv;refine B 1 ?_;refine XI (xs:=([]:List Pl)) (zs:=xs) (enc:=ig) (m:=5) (H0:=[]) (H1:=[]) (sp:=[]) (by rfl) Nb nH rfl rfl rfl rfl (dy.sl nH Yl underlying32 A0 aN (λb hb=>⟨λh=>h,by simp only[bE,and_true];omega⟩)) ⟨ao _,rfl⟩ (.inr zX) kh ?_;intro b7 D0 Mu oH gh;have sJ:w.heap.size<=b7:=by rcases oH with h|h;(omega);exact h.not A0
 rw[eg]at gh ⊢;refine B 4 ?_;exact nT (H0:=[]) (H1:=[]) (r:=.row b7 D0 Mu) (.inl rfl) results88 (RS.t rfl RS.n) A0 XJ rfl gh sJ (by rfl)
theorem Ci(xs:List Pl)(ck:xs.length<=100000)(N:Nat)(a:Option Addr)(cp:Nat)(w:World)(hN:N<=w.heap.size)(aN:ah plA 5 N w a xs):Calls prog 88 #[.slice a xs.length cp] w (nB w ig 5 135 xs id):=by
 cases a with
 |none=>
  have h0:xs=[]:=by rcases aN with h|⟨b,off,cs,t,fr,h,_⟩;(exact h);cases h
  subst h0;exact ngl 0 cp w
 |some q=>exact nwk xs ck N q cp w hN aN
def P0 (l:List Int):Int:=(l.find? (λx=>decide (x≠0))).getD 0
theorem Nc{l:List Int}{x:Int}(h:∀i y,i<j->l[i]? =some y->y=0)(hx:l[j]? =some x)(hn:¬x=0):x=P0 l:=by
 unfold P0;rw[show l.find? (λx=>decide (x≠0))=some x by
  rw[List.find?_eq_some_iff_getElem];obtain⟨hj,Nf⟩:=gA.1 hx;refine⟨by simpa using hn,j,hj,Nf,λi hi=>?_⟩;have:=h i l[i] hi (gR zM);simp[this]]
 rfl
theorem n7m{l:List Int}(h:∀i y,i<j->l[i]? =some y->y=0)(hj:l.length<=j):0=P0 l:=by
 unfold P0;rw[show l.find? (λx=>decide (x≠0))=none by
  rw[List.find?_eq_none];intro x hx;obtain⟨i,hi,rfl⟩:=List.mem_iff_getElem.1 hx;have:=h i l[i] zM (gR hi);simp[this]]
 rfl
def plZ (x y:Pl):List Int:=[cy x.time y.time,cy x.dev y.dev,cy x.fol y.fol,cy x.par y.par,Go.Lib.compareBytes x.nm.data.toList y.nm.data.toList]
def P1 (x y:Pl):Int:=P0 (plZ x y)
theorem Hm(a b:ByteArray)(w:World):Calls prog 126 #[.string a,.string b] w (av w (.int .i64 (Go.Lib.compareBytes a.data.toList b.data.toList))):=by
 refine(Go.Proofs.Any.strings_Compare Go.Proofs.Tryz.layStr a b w).mono ?_;rintro e w' ⟨rfl,rfl⟩;exact⟨rfl,Below.refl _ _⟩
theorem Ng(zs:List Int)(hz:zs.length<=100)(N:Nat)(a:Option Addr)(cp:Nat)(w:World)(hN:N<=w.heap.size)(aN:ah encI 1 N w a zs):Calls prog 124 #[.slice a zs.length cp] w (av w (.int .i64 (P0 zs))):=by
 refine enter (vs:=[_]) func124 rfl ntmps124 rfl ?_;refine B 19 ?_;refine CJ.loop (α:=Nat) (λj=>[(3,.int .i64 0),(6,.slice a zs.length cp),(7,.int .i64 (zs.length:Int)),(8,.int .i64 (j:Int))]) (λj=>[]) (λj=>[w]) (λj=>Gh.no) (λj=>j<=zs.length/\∀i y,i<j->zs[i]? =some y->y=0) (λj=>zs.length-j) 0 ⟨dx _,λi y hi=>absurd hi zM⟩ zR rfl rfl z1 ?_;rintro j ⟨hj,er⟩;refine B 6 ?_;refine aO ?_ ?_
 ·intro aj;refine B 5 ?_;obtain⟨bo,oo,cs0,to,fA,rfl,fG,hcs,ar⟩:=aN.get zM;obtain⟨x,hx⟩:=nj zs j zM;refine B 2 ?_;refine rv rfl rfl rfl (aa (v:=.int .i64 x) isAgg3 rfl A0 hcs zZ trivial (nR ar hx rfl zQ)) ?_;refine B 10 ?_;refine aO ?_ ?_
  ·intro aQ;exact zpk
  intro aQ;refine B 7 ?_;refine PJ.again (j+1) ⟨by omega,λi y hi hy=>by by_cases e:i=j;(rw[e,hx]at hy;cases hy;omega);exact er i y zM hy⟩ zM zR rfl rfl z1
 intro aj;exact zpk
abbrev lN:=List (Int×Pl)
def jA (p:Pl):Value:=.agg (plA p)
def Ho:Pl:=⟨0,0,0,0,.empty⟩
def lx (kv:lN):Prop:=∃r:Int->Nat,∀k p,aC kv k=some p->0<=p.par->r p.par<r k
def Cj:Nat->lN->Int->List Int
 |0,_,_=>[]
 |n+1,kv,f=>match aC kv f with
  |some p=>if 0<=p.par then p.par::Cj n kv p.par else[]
  |none=>[]
def dJ (kv:lN) (f:Int):List Int:=Cj (kv.length+1) kv f
variable {kv:lN} {p:Pl}
theorem n3o{k:Int}(h:aC kv k=some p):(k,p)∈kv:=by
 unfold aC at h;obtain⟨q,hq,rfl⟩:=ML.1 h;exact cB (Uk hq)
theorem n8m{kv:lN}{r:Int->Nat}(hr:∀k p,aC kv k=some p->0<=p.par->r p.par<r k):∀n f,(Cj n kv f).length<=kv.countP (λq=>decide (r q.1<=r f))
 |0,f=>dx _
 |n+1,f=>by
  unfold Cj;cases h:aC kv f with
  |none=>exact dx _
  |some p=>
   dsimp only;split
   ·rename_i hp;have ih:=n8m hr n p.par;have hlt:=hr f p h hp;have hm:=n3o h;have:kv.countP (λq=>decide (r q.1<=r p.par))<kv.countP (λq=>decide (r q.1<=r f)):=by
     have gen:∀l:lN,(f,p)∈l->l.countP (λq=>decide (r q.1<=r p.par))<l.countP (λq=>decide (r q.1<=r f)):=by
      intro l;induction l with
      |nil=>intro h;cases h
      |cons q l ih=>
       intro hq;have Ul:l.countP (λq=>decide (r q.1<=r p.par))<=l.countP (λq=>decide (r q.1<=r f)):=List.countP_mono_left λq _ h=>by simp at h ⊢;omega
       simp only[List.countP_cons];rcases cP.1 hq with e|hq
       ·subst e;simp;rw[if_neg zM];omega
       have:=ih hq;have:(if decide (r q.1<=r p.par)=true then 1 else 0)<=(if decide (r q.1<=r f)=true then 1 else 0):=by
        by_cases h1:r q.1<=r p.par
        ·rw[if_pos AY,if_pos kh];exact ao _
        rw[if_neg AY];exact dx _
       omega
     exact gen kv hm
    simp only[ec];omega
   exact dx _
theorem nVn{kv:lN}:∀n f,(Cj n kv f).length<n->Cj (n+1) kv f=Cj n kv f
 |0,f,h=>absurd h zM
 |n+1,f,h=>by
  rw[Cj]at h ⊢;conv=>rhs;rw[Cj]
  cases e:aC kv f with
  |none=>rfl
  |some p=>
   rw[e]at h;dsimp only at h ⊢;split
   ·rename_i hp;rw[if_pos hp]at h;rw[nVn n p.par rO]
   rfl
theorem Ej(h:lx kv)(f:Int):(dJ kv f).length<=kv.length:=by
 obtain⟨r,hr⟩:=h;exact aS (n8m hr _ f) List.countP_le_length
theorem nfm(h:lx kv)(f:Int):dJ kv f=match aC kv f with|some p=>if 0<=p.par then p.par::dJ kv p.par else[]|none=>[]:=by
 have h1:=Ej h f;have h2:Cj (kv.length+2) kv f=dJ kv f:=nVn _ _ (by unfold dJ at h1;omega);rw[<-h2,Cj];rfl
theorem P2(h:lx kv){f:Int}(hp:aC kv f=some p)(h0:0<=p.par):dJ kv f=p.par::dJ kv p.par:=by rw[nfm h f,hp];exact if_pos h0
theorem npn(h:lx kv){f:Int}(hp:aC kv f=some p)(h0:¬0<=p.par):dJ kv f=[]:=by rw[nfm h f,hp];exact if_neg h0
theorem n7k(h:lx kv){f:Int}(hp:aC kv f=none):dJ kv f=[]:=by rw[nfm h f,hp]
theorem lx.rank(h:lx kv):∀k p,aC kv k=some p->0<=p.par->(dJ kv p.par).length<(dJ kv k).length:=by
 intro k p hp h0;rw[P2 h hp h0,ec];omega
def jB (kv:lN) (f o:Int):Bool:=(dJ kv f).any (λx=>decide (x=o))||decide (f=o)
theorem neh(mp:Option Nat)(f:Int)(w:World):Calls prog 95 #[.map mp,.int .i64 f] w (cu w (λq:Nat×Nat=>.func (.func 128) #[] #[ptr q.1 0,ptr q.2 0]) (λq w1=>w.heap.size<=q.1/\w.heap.size<=q.2/\q.1≠q.2/\w1.heap[q.1]? =some (.cells #[.map mp] 132 (0,0))/\w1.heap[q.2]? =some (.cells #[.int .i64 f] 3 (0,0)))):=by
 refine enter (vs:=[_,_]) func95 rfl ntmps95 rfl ?_;refine B 2 ?_;refine yX ?_;intro b2 w2 aI aE dY cA db;refine yX ?_;intro b3 w3 aJ aD dr bY cR;refine B 10 ?_;refine jM (b2,b3) results95 rfl A2 rfl ?_;exact λW hS=>⟨cA.1,by omega,by omega,hS.old A1 aI aE trivial,hS.old A0 aJ aD trivial⟩
theorem nlf(hF:lx kv)(f:Int)(mb bx by_:Nat)(m:Mp)(hm:m.Ok kv)(W:World)(aP:W.heap[bx]? =some (.cells #[.map (some mb)] 132 (0,0)))(aI:W.heap[by_]? =some (.cells #[.int .i64 f] 3 (0,0)))(iS:W.heap[mb]? =some (m.obj jA kv)):vz prog 128 [ptr bx 0,ptr by_ 0] ai (yn (dJ kv f)) (Is (dJ kv f)) (λ_=>False) (λk=>k=bx\/k=by_\/k=mb) W:=by
 intro l M I X0 hM hI hX hy h0;have aX:¬(cj hM (λ_=>False) (hI [] _)).X bx:=by rintro(h|h);exact(hM _ h).2.2 (.inl rfl);exact h.elim
 have aE:¬(cj hM (λ_=>False) (hI [] _)).X by_:=by rintro(h|h);exact(hM _ h).2.2 (.inr (.inl rfl));exact h.elim
 have xb:¬(cj hM (λ_=>False) (hI [] _)).X mb:=by rintro(h|h);exact(hM _ h).2.2 (.inr (.inr rfl));exact h.elim
 have uF:=(aL.1 iS).1;have adV:=(aL.1 aP).1;have zi:=(aL.1 aI).1;refine nM (cj hM (λ_=>False) (hI [] _)) [] (vs:=[_,_,_]) func128 rfl ntmps128 rfl (I6 hM (hI [] _) h0 z1 Jg z1) ?_;refine B 4 ?_;refine rq (.tuple #[.agg (plA ((aC kv f).getD Ho)),.bool (aC kv f).isSome]) (gW (ev:=jA) (k:=f) underlying132 underlying3 zeroValue135 hm (bN.old A0 iS xb trivial) rfl rfl) (by cases aC kv f<;>rfl) ?_;refine rr (.tuple #[.agg (plA ((aC kv f).getD Ho)),.bool (aC kv f).isSome]) (fh rfl) ?_;refine B 2 ?_;refine Na ?_;refine yW ?_;intro b4 dD dH;refine JP ?_;refine B 4 ?_;refine CJ.loop (α:=((List Int×Int)×aA)×Nat) (λp=>[(0,yv l),(1,ptr bx 0),(2,ptr by_ 0),(4,ptr p.2 0),(5,.bool (aC kv p.1.1.2).isSome)]) (λp=>[(p.2,.cells (plA ((aC kv p.1.1.2).getD Ho)) 135 (0,0))]) (λp=>[W]) (λp=>cj hM p.1.2 (hI p.1.1.1 p.1.2)) (λp=>p.1.1.1++dJ kv p.1.1.2=dJ kv f/\(∀k,p.1.2 k->W.heap.size<=k)/\W.heap.size<=p.2) (λp=>(dJ kv p.1.1.2).length) ((([],f),λ_=>False),b4) ⟨rfl,λ_ h=>h.elim,by omega⟩ zR rfl rfl z1 ?_;rintro⟨⟨⟨pre,g⟩,V⟩,bo⟩ ⟨tB,hV,cT⟩;dsimp only at tB hV cT ⊢;have aX:¬(cj hM V (hI pre V)).X bx:=by rintro(h|h);exact(hM _ h).2.2 (.inl rfl);have:=hV _ h;omega
 have aE:¬(cj hM V (hI pre V)).X by_:=by rintro(h|h);exact(hM _ h).2.2 (.inr (.inl rfl));have:=hV _ h;omega
 have xb:¬(cj hM V (hI pre V)).X mb:=by rintro(h|h);exact(hM _ h).2.2 (.inr (.inr rfl));have:=hV _ h;omega
 refine B 2 ?_;rcases hq:aC kv g with _|q
 ·dsimp only[Option.getD,Option.isSome];refine B 1 ?_;refine rr (.bool false) (fh rfl) ?_;refine B 12 ?_;exact zwk
 dsimp only[Option.getD,Option.isSome];by_cases QA:0<=q.par
 ·refine B 1 ?_;refine rr (.bool true) (fh rfl) ?_;refine B 3 ?_;refine zYh ?_;refine B 13 ?_;refine FN (λV=>hI (pre++[q.par]) V) hX hV z1 rfl rfl rfl rfl (λW1 sj kP=>hy (pre) (q.par) V W1 ⟨dJ kv q.par,by rw[<-tB,P2 hF hq QA,iH];rfl⟩ sj kP) ?_ ?_
  ·intro V hV;refine B 14 ?_;refine Na ?_;refine yW ?_;intro b4 dD dH;refine JP ?_;refine B 2 ?_;have aX:¬(cj hM V (hI (pre++[q.par]) V)).X bx:=by rintro(h|h);exact(hM _ h).2.2 (.inl rfl);have:=hV _ h;omega
   have aE:¬(cj hM V (hI (pre++[q.par]) V)).X by_:=by rintro(h|h);exact(hM _ h).2.2 (.inr (.inl rfl));have:=hV _ h;omega
   have xb:¬(cj hM V (hI (pre++[q.par]) V)).X mb:=by rintro(h|h);exact(hM _ h).2.2 (.inr (.inr rfl));have:=hV _ h;omega
   refine B 4 ?_;refine rq (.tuple #[.agg (plA ((aC kv q.par).getD Ho)),.bool (aC kv q.par).isSome]) (gW (ev:=jA) (k:=q.par) underlying132 underlying3 zeroValue135 hm (bN.old A0 iS xb jS) rfl rfl) (by cases aC kv q.par<;>rfl) ?_;refine rr (.tuple #[.agg (plA ((aC kv q.par).getD Ho)),.bool (aC kv q.par).isSome]) (fh rfl) ?_;refine B 2 ?_;refine JP ?_;refine B 2 ?_;refine PJ.dropAt (i:=1) rfl zX ?_;refine PJ.again (((pre++[q.par],q.par),V),b4) ⟨by dsimp only;rw[<-tB,P2 hF hq QA,iH];rfl,hV,by omega⟩ (by dsimp only;rw[P2 hF hq QA,ec];omega) zR rfl rfl z1
  intro V hV;refine B 9 ?_;exact FO (.inl rfl) results128 A0 hV zjc (λA hA=>.inr hA)
 refine B 1 ?_;refine rr (.bool true) (fh rfl) ?_;refine B 3 ?_;refine Pp ?_;refine B 8 ?_;exact zwk
theorem Ck{fn:Func}{Dk t4 T4 b4 Uf:Nat}{v4:Value}(he:e= .ret\/e= .normal)(hr:fn.results=#[.cell t4 T4])(K7:eQ C.P T4 false)(Ug:look E t4=some (ptr b4 0))(hm:(Dk,.deferred (some []))∈H)(cT:(b4,.cells JE Uf TJ)∈H)(n4:b4≠Dk)(Uh:JE[0]? =some v4)(h:∀W H',St G L H' W->H'.map (·.1)=H.map (·.1)->R (.returned v4) W):PJ C (bodyPostM (FW none) 0 C.P fn R) e E [eh Dk] G L H:=
 sf he hm λa W H' hF hS bS bF=>by
  obtain⟨i,hi⟩:=iQ.1 (bS _ cT n4);exact⟨_,(RS.w (C:=C) hi K7 Ug Uh RS.n).res hr hF hS,h W H' hS bF⟩
theorem CJ.st2{c:Code}{Q:aF}(h:∀W,St G L H W->CJ C c Q E D G L H):CJ C c Q E D G L H:=λa W hN hD hF hS=>h W hS a W hN hD hF hS
theorem Hp{f o:Int}(h:o∈dJ kv f):true=jB kv f o:=by unfold jB;rw[List.any_eq_true.2 ⟨o,h,by simp⟩];rfl
theorem Nh{f o:Int}(h:∀y∈dJ kv f,¬y=o):decide (f=o)=jB kv f o:=by
 unfold jB;rw[show(dJ kv f).any (λx=>decide (x=o))=false by rw[List.any_eq_false];intro y hy;simpa using h y hy];rfl
theorem nej(hF:lx kv)(mb:Nat)(m:Mp)(hm:m.Ok kv)(f:Int)(o:Int)(w:World)(iS:w.heap[mb]? =some (m.obj jA kv)):Calls prog 47 #[.map (some mb),.int .i64 f,.int .i64 o] w (cu w (λb:Bool=>.bool b) (λb _=>b=jB kv f o)):=by
 have uF:=(aL.1 iS).1;refine wy Gh.no [] (vs:=[_,_,_]) func47 rfl ntmps47 rfl (rR w) ?_;refine B 2 ?_;refine yX ?_;intro b5 w5 ff gd rF iu iv;refine aY zeroValue4 rfl rfl ?_;refine yW ?_;intro b6 gm kg;refine B 7 ?_;refine zCf ?_;rintro Wu q wn JQ Um ⟨gX,gY,Un,eO,eY⟩;have hzu:=Um.size;have Uo:=(aL.1 eO).1;have Up:=(aL.1 eY).1;have adW:=(JQ.links w5 A0).size;have JR:=(JQ.links w A1).size;have adX:=JQ.lt (b6,_) A0;refine B 3 ?_;refine CJ.range2 (f:=128) (cap:=[ptr q.1 0,ptr q.2 0]) (α:=Int) (enc:=ai) (Pre:=yn (dJ kv f)) (Fin:=Is (dJ kv f)) (RO:=λk=>k=q.1\/k=q.2\/k=mb) (MI:=λ_=>False) rfl call128 (λW' W2 hS hB=>by have l1:=(hS.links wn A0).size;have l2:=(hS.links w A2).size;have l3:=hB.size;exact nlf hF f mb q.1 q.2 m hm W2 PC PD (by rw[hB.block mb zM];exact hS.old A2 iS zZ yo)) (λ_ _ _ hk=>hk.elim) (λW' hS k hk=>by have l1:=(hS.links wn A0).size;have l2:=(hS.links w A2).size;simp only[eF,iz,cP,fm,or_false];rcases hk with rfl|rfl|rfl<;>exact⟨by omega,by omega,λh=>h⟩) (λ_=>rfl) (λpre G' Hc=>G'=Gh.no/\(∀y∈pre,¬y=o)/\Hc=[(b6,.cells #[.bool false] 4 (0,0))]) (λc G' Hc=>c= .ret/\G'=Gh.no/\o∈dJ kv f/\Hc=[(b6,.cells #[.bool true] 4 (0,0))]) ⟨rfl,by simp,rfl⟩ zQ ?_ ?_ ?_
 ·rintro pre x G' Hc l Dk rec W1 M V Wy iM mz dF ⟨rfl,bT,rfl⟩ cQ eW yP mQ aW sk;simp only[ab]at cQ mQ;have WW:=dF.subset (cS.2 (.inr A0));have gd:=aW.z (k:=b5) zM zZ P3 zZ;refine OR ?_;refine B 8 ?_;refine aO ?_ ?_
  ·intro aj;refine B 2 ?_;refine Pj ?_;refine B 4 ?_;refine Yn (G2:=Gh.no) (Hc2:=[(b6,.cells #[.bool true] 4 (0,0))]) (c:=.ret) aW eW ⟨λ_ h=>h,λ_ h=>.inl h,λ_ h=>.inl h,P4,P4⟩ (.inl ⟨rfl,rfl⟩) rfl ?_;exact⟨rfl,rfl,(by have Em:x=o:=gM;rw[<-Em];exact WW),rfl⟩
  intro aj;refine B 2 ?_;refine Aj (G2:=Gh.no) (Hc2:=[(b6,.cells #[.bool false] 4 (0,0))]) aW eW ⟨λ_ h=>h,λ_ h=>.inl h,λ_ h=>.inl h,(λp hp=>.inl (bU.2 ⟨p,hp,rfl⟩)),(λp hp=>.inl (bU.2 ⟨p,hp,rfl⟩))⟩ (Ak iM mz) ?_;exact⟨rfl,λy hy=>(cS.1 hy).elim (bT y) (λh=>by rw[ql.1 h];assumption),rfl⟩
 ·rintro gV l Dk rec G' Hc rfl cQ eW ⟨rfl,bT,rfl⟩;replace cQ:=yb cQ;refine Pr λWd pH=>?_;have kN:=Lp pH;refine B 7 ?_;refine Pj ?_;refine B 3 ?_;refine Ck (b4:=b6) (.inl rfl) results47 isAgg4 rfl vk A0 (kN _ A0).1 rfl (λW H' hS bF=>⟨(decide (f=o)),rfl,?_,Nh bT⟩);exact zhk
 rintro l Dk rec c G' Hc cQ eW ⟨rfl,rfl,hom,rfl⟩;replace cQ:=yb cQ;refine CJ.st2 λWd pH=>?_;have kN:=Lp pH;refine B 3 ?_;refine Ck (b4:=b6) (.inl rfl) results47 isAgg4 rfl vk A0 (kN _ A0).1 rfl (λW H' hS bF=>⟨true,rfl,?_,Hp hom⟩);exact zhk
theorem ned(hF:lx kv)(mb:Nat)(m:Mp)(hm:m.Ok kv)(f:Int)(o:Int)(w:World)(iS:w.heap[mb]? =some (m.obj jA kv)):Calls prog 47 #[.map (some mb),.int .i64 f,.int .i64 o] w (av w (.bool (jB kv f o))):=by
 refine(nej hF mb m hm f o w iS).mono ?_;rintro e w' ⟨b,rfl,hB,rfl⟩;exact⟨rfl,hB⟩
def oB (kv:lN) (f:Int):Int:=if f<0 then 0 else 1+((dJ kv f).length:Int)
theorem nAd(hF:lx kv)(mb:Nat)(m:Mp)(hm:m.Ok kv)(f:Int)(lH:kv.length<=100000)(w:World)(iS:w.heap[mb]? =some (m.obj jA kv)):Calls prog 93 #[.map (some mb),.int .i64 f] w (av w (.int .i64 (oB kv f))):=by
 have uF:=(aL.1 iS).1;refine enter (vs:=[_,_]) func93 rfl ntmps93 rfl ?_;refine B 12 ?_;refine aO ?_ ?_
 ·intro aj;refine B 7 ?_;exact bJ (.inl rfl) results93 (RS.t rfl RS.n) λW hS=>⟨congrArg (λn=>Ending.returned (Value.int .i64 n)) (if_pos zM).symm,hS.base A0 True.intro⟩
 intro aj;refine B 6 ?_;refine zCf ?_;rintro Wu q wn JQ Um ⟨gX,gY,Un,eO,eY⟩;have hzu:=Um.size;have Uo:=(aL.1 eO).1;have Up:=(aL.1 eY).1;have JR:=(JQ.links w A0).size;refine Sl (enc:=ai) (m:=1) (t:=3) (Fin:=Is (dJ kv f)) (v:=id) call118 rfl rfl rfl (λW hS=>by
  have l1:=(hS.links wn A0).size;have l2:=(hS.links w A1).size;exact W6 (cap:=[ptr q.1 0,ptr q.2 0]) (Pre:=yn (dJ kv f)) (Fin:=Is (dJ kv f)) (RO:=λk=>k=q.1\/k=q.2\/k=mb) call128 W (λk hk=>by rcases hk with rfl|rfl|rfl<;>omega) (λp hp=>aS hp.length_le (aS (Ej hF f) lH)) (λW2 hB=>nlf hF f mb q.1 q.2 m hm W2 (by rw[hB.block q.1 zM];exact hS.old A0 eO zZ trivial) (by rw[hB.block q.2 zM];exact hS.old A0 eY zZ trivial) (by rw[hB.block mb zM];exact hS.old A1 iS zZ trivial))) ?_
 rintro xs r rfl bH al;have hal:=Ej hF f;obtain⟨a9,c9,e9⟩:∃a9 c9,Rw.val (dJ kv f).length r= .slice a9 (dJ kv f).length c9:=by
  cases r with
  |nil=>exact⟨none,0,by rw[show dJ kv f=[]from al];rfl⟩
  |row b cap sp=>exact⟨_,_,rfl⟩
 refine rv rfl rfl rfl (iP underlying44 (congrArg some e9)) ?_;refine B 5 ?_;exact bJ (.inl rfl) results93 (RS.t rfl RS.n) λW hS=>⟨congrArg (λn=>Ending.returned (Value.int .i64 n)) (if_neg zM).symm,hS.base A1 (by rw[dN];exact Rw.over (Rw.ge_of bH A1))⟩
def u5 (kv:lN):Prop:=(kv.map (·.1)).Nodup/\∀q∈kv,q.1=q.2.fol/\jb q.2
theorem nJh{β:Type}:∀{kv:List (Int×β)} {k:Int} {p:β},(kv.map (·.1)).Nodup->(k,p)∈kv->aC kv k=some p
 | [],_,_,_,h=>by cases h
 |q::kv,k,p,hn,h=>by
  rw[JS];simp only[eF,List.nodup_cons]at hn;rcases cP.1 h with rfl|h
  ·rw[if_pos rfl]
  rw[if_neg (λe=>hn.1 (by rw[e];exact bU.2 ⟨_,h,rfl⟩))];exact nJh hn.2 h
def gu (l:List Int):Int:=l.foldl max 0
theorem nSj(l:List Int)(x:Int):gu (l++[x])=max (gu l) x:=by unfold gu;rw[DY];rfl
theorem Uq:∀(l:List Int) (a:Int),a<=l.foldl max a/\(∀x∈l,x<=l.foldl max a)/\(l.foldl max a=a\/l.foldl max a∈l)
 | [],a=>⟨Int.le_refl _,(λx h=>by cases h),.inl rfl⟩
 |y::l,a=>by
  obtain⟨h1,h2,h3⟩:=Uq l (max a y);simp only[List.foldl_cons];refine⟨by omega,λx hx=>?_,?_⟩
  ·rcases cP.1 hx with rfl|hx
   ·omega
   exact h2 x hx
  rcases h3 with h3|h3
  ·rw[h3];by_cases h:a<=y
   ·right;rw[Int.max_eq_right h];exact .head _
   left;omega
  exact .inr (.tail _ h3)
theorem nhl(l:List Int):0<=gu l:=(Uq l 0).1
theorem Cl{l l':List Int}(h:∀x,x∈l↔x∈l'):gu l=gu l':=by
 have a:=Uq l 0;have b:=Uq l' 0
 unfold gu;have h1:l.foldl max 0<=l'.foldl max 0:=by
  rcases a.2.2 with e|e
  ·rw[e];exact b.1
  exact b.2.1 _ ((h _).1 e)
 have h2:l'.foldl max 0<=l.foldl max 0:=by
  rcases b.2.2 with e|e
  ·rw[e];exact a.1
  exact a.2.1 _ ((h _).2 e)
 omega
theorem n6m{l:List Int}{b:Int}(hb:0<=b)(h:∀x∈l,x<=b):gu l<=b:=by
 rcases(Uq l 0).2.2 with e|e
 ·unfold gu;omega
 exact h _ e
def xC:Nat->lN->Int->Int
 |0,_,_=>0
 |n+1,kv,f=>gu ((List.range kv.length).map λj=>match kv[j]? with|some q=>if q.2.par=f then xC n kv q.2.fol else 0|none=>0)+1
def rK (kv:lN) (f:Int):Int:=xC (kv.length+1) kv f
def tJ (kv:lN) (f:Int) (j:Nat):Int:=match kv[j]? with|some q=>if q.2.par=f then rK kv q.2.fol else 0|none=>0
theorem Cn(kv:lN):∀n f,0<=xC n kv f/\xC n kv f<=(n:Int)
 |0,f=>by simp[xC]
 |n+1,f=>by
  unfold xC;have h0:=nhl ((List.range kv.length).map λj=>match kv[j]? with|some q=>if q.2.par=f then xC n kv q.2.fol else 0|none=>0);have h1:gu ((List.range kv.length).map λj=>match kv[j]? with|some q=>if q.2.par=f then xC n kv q.2.fol else 0|none=>0)<=(n:Int):=by
   refine n6m zM λx hx=>?_;obtain⟨j,_,rfl⟩:=bU.1 hx;split
   ·split
    ·exact(Cn kv n _).2
    omega
   omega
  omega
variable {q:Int×Pl}
theorem ngf(hF:lx kv)(hk:u5 kv)(hq:kv[j]? =some q){f:Int}(hp:q.2.par=f)(hf:0<=f):(dJ kv q.2.fol).length=(dJ kv f).length+1:=by
 have hm:=cB hq;have e:=(hk.2 q hm).1;have hg:aC kv q.2.fol=some q.2:=by rw[<-e];exact nJh hk.1 hm
 rw[P2 hF hg zM,hp,ec]
theorem nGn{kv:lN}(hF:lx kv)(hk:u5 kv):∀n f,0<=f->kv.length<n+(dJ kv f).length->xC (n+1) kv f=xC n kv f
 |0,f,hf,h=>absurd (Ej hF f) zM
 |n+1,f,hf,h=>by
  rw[xC];conv=>rhs;rw[xC]
  congr 2;apply List.map_congr_left;intro j _;cases hq:kv[j]? with
  |none=>rfl
  |some q=>
   dsimp only;split
   ·rename_i hp;have h1:=ngf hF hk hq hp hf;have h2:=(hk.2 q (cB hq)).2.2.2.1.1;exact nGn hF hk n _ h2 zM
   rfl
theorem Ni(hF:lx kv)(hk:u5 kv)(f:Int)(hf:0<=f):rK kv f=gu ((List.range kv.length).map (tJ kv f))+1:=by
 unfold rK;rw[xC];congr 2;apply List.map_congr_left;intro j _;unfold tJ;cases hq:kv[j]? with
 |none=>rfl
 |some q=>
  dsimp only;split
  ·rename_i hp;have h1:=ngf hF hk hq hp hf;have h2:=(hk.2 q (cB hq)).2.2.2.1.1;exact(nGn hF hk kv.length _ h2 zM).symm
  rfl
theorem Co(kv:lN)(f:Int):0<=rK kv f/\rK kv f<=(kv.length:Int)+1:=by have:=Cn kv (kv.length+1) f;unfold rK;omega
theorem Hq{f:Int}(hq:kv[j]? =some q)(hp:q.2.par=f)(js:List Nat):max (gu (js.map (tJ kv f))) (rK kv q.2.fol)=gu ((js++[j]).map (tJ kv f)):=by
 rw[ga,eF,iz,nSj];congr 1;unfold tJ;rw[hq];exact(if_pos hp).symm
theorem Nj{f:Int}(hq:kv[j]? =some q)(hp:¬q.2.par=f)(js:List Nat):gu (js.map (tJ kv f))=gu ((js++[j]).map (tJ kv f)):=by
 rw[ga,eF,iz,nSj];have:tJ kv f j=0:=by unfold tJ;rw[hq];exact if_neg hp
 rw[this];have:=nhl (js.map (tJ kv f));omega
theorem Nk(kv:lN)(f:Int)(js:List Nat):0<=gu (js.map (tJ kv f))/\gu (js.map (tJ kv f))<=(kv.length:Int)+1:=by
 refine⟨nhl _,n6m zM λx hx=>?_⟩;obtain⟨j,_,rfl⟩:=bU.1 hx;unfold tJ;split
 ·split
  ·exact(Co kv _).2
  omega
 omega
theorem Hr(hF:lx kv)(hk:u5 kv){f:Int}(hf:0<=f)(hl:∀j∈js,j<kv.length)(bT:∀j,j<kv.length->j∈js):gu (js.map (tJ kv f))+1=rK kv f:=by
 rw[Ni hF hk f hf];congr 1;apply Cl;intro x;simp only[bU,pM];exact⟨λ⟨j,h,e⟩=>⟨j,hl j h,e⟩,λ⟨j,h,e⟩=>⟨j,bT j h,e⟩⟩
theorem Cq(hF:lx kv)(hk:u5 kv)(lH:kv.length<=100000)(mb:Nat)(m:Mp)(hm:m.Ok kv)(b1 b2:Nat)(f:Int)(hf:0<=f)(w:World)(hw:(w.heap[b1]? =some (.cells #[.map (some mb)] 132 (0,0))/\w.heap[b2]? =some (.cells #[.func (.func 127) #[] #[ptr b1 0,ptr b2 0]] 183 (0,0))/\w.heap[mb]? =some (m.obj jA kv)))(ih:∀(g:Int) (W:World),0<=g->(dJ kv g).length=(dJ kv f).length+1->(W.heap[b1]? =some (.cells #[.map (some mb)] 132 (0,0))/\W.heap[b2]? =some (.cells #[.func (.func 127) #[] #[ptr b1 0,ptr b2 0]] 183 (0,0))/\W.heap[mb]? =some (m.obj jA kv))->Calls prog 127 #[.int .i64 g,ptr b1 0,ptr b2 0] W (av W (.int .i64 (rK kv g)))):Calls prog 127 #[.int .i64 f,ptr b1 0,ptr b2 0] w (av w (.int .i64 (rK kv f))):=by
 obtain⟨aP,aI,iS⟩:=hw;have aX:¬Gh.no.X b1:=λh=>h;have aE:¬Gh.no.X b2:=λh=>h;have adV:=(aL.1 aP).1;have zi:=(aL.1 aI).1;have uF:=(aL.1 iS).1;refine enter (vs:=[_,_,_]) func127 rfl ntmps127 rfl ?_;refine B 14 ?_;refine Ls (ev:=jA) underlying132 (bN.old A0 iS zZ trivial) rfl rfl rfl ?_;intro rb mY Lt;replace mY:=yb mY;refine B 3 ?_;refine CJ.loop (α:=List Nat) (λp=>[(0,.int .i64 f),(1,ptr b1 0),(2,ptr b2 0),(5,.int .i64 (gu (p.map (tJ kv f)))),(9,ptr rb 0)]) (λp=>[(rb,m.it mb p)]) (λp=>[w]) (λp=>Gh.no) (λp=>p.Nodup/\(∀j∈p,j<kv.length)) (λp=>kv.length-p.length) [] ⟨List.nodup_nil,by simp⟩ zR rfl rfl z1 ?_;rintro js ⟨hnd,gy⟩;dsimp only at hnd gy ⊢;have Ks:=Nk kv f js;refine B 2 ?_;refine Ay (ev:=jA) (i:=0) rfl hm (bN.old A0 iS zZ jS) gy rfl rfl rfl (λbT=>?_) (λjn pn jK lU=>?_)
 ·refine B 18 ?_;refine bG (.inl rfl) results127 (RS.t rfl (RS.n)) A0 zS ?_;exact vi (Hr hF hk hf gy bT)
 refine B 10 ?_;refine rv rfl rfl rfl (uG (ev:=jA) (i:=0) rfl hm (bN.old A0 iS zZ jS) jK rfl) ?_;refine rr (.agg (plA pn.2)) (gB rfl rfl) ?_;refine Na ?_;refine yW ?_;intro b7 fu lG;refine JP ?_;refine B 10 ?_;refine aO ?_ ?_
 ·intro aj;refine B 2 ?_;refine rr (.func (.func 127) #[] #[ptr b1 0,ptr b2 0]) (aa isAgg183 rfl A0 aI aE zL rfl) ?_;refine B 2 ?_;refine nJ (v:=.int .i64 (rK kv pn.2.fol)) (f:=127) (cap:=[ptr b1 0,ptr b2 0]) rfl call127 rfl rfl rfl (λW hS=>ih pn.2.fol W (hk.2 pn (cB jK)).2.2.2.1.1 (ngf hF hk jK gM hf) ⟨hS.old A0 aP zZ jS,hS.old A0 aI zZ jS,hS.old A0 iS zZ jS⟩) ?_;refine rq (.int .i64 (gu ((js++[jn]).map (tJ kv f)))) (zk rfl rfl) (vi (Hq jK gM js)) ?_;refine B 3 ?_;refine mD ?_;refine PJ.again (js++[jn]) ⟨(yp hnd gy jK lU).1,(yp hnd gy jK lU).2.1⟩ Sk zR rfl rfl z1
 intro aj;refine B 2 ?_;refine mD ?_;refine PJ.again (js++[jn]) ⟨(yp hnd gy jK lU).1,(yp hnd gy jK lU).2.1⟩ Sk ⟨rfl,rfl,rfl,congrArg (λz=>some (Value.int .i64 z)) (Nj jK gM js),rfl,trivial⟩ rfl rfl z1
theorem sU{kv:lN}(hF:lx kv)(hk:u5 kv)(lH:kv.length<=100000)(mb:Nat)(m:Mp)(hm:m.Ok kv)(b1 b2:Nat):∀(n:Nat) (f:Int) (w:World),0<=f->kv.length<n+(dJ kv f).length->(w.heap[b1]? =some (.cells #[.map (some mb)] 132 (0,0))/\w.heap[b2]? =some (.cells #[.func (.func 127) #[] #[ptr b1 0,ptr b2 0]] 183 (0,0))/\w.heap[mb]? =some (m.obj jA kv))->Calls prog 127 #[.int .i64 f,ptr b1 0,ptr b2 0] w (av w (.int .i64 (rK kv f)))
 |0,f,w,hf,hn,_=>absurd (Ej hF f) zM
 |n+1,f,w,hf,hn,hw=>Cq hF hk lH mb m hm b1 b2 f hf w hw λg W hg hd hW=>sU hF hk lH mb m hm b1 b2 n g W hg zM hW
theorem nad(hF:lx kv)(hk:u5 kv)(lH:kv.length<=100000)(mb:Nat)(m:Mp)(hm:m.Ok kv)(f:Int)(hf:0<=f)(w:World)(iS:w.heap[mb]? =some (m.obj jA kv)):Calls prog 94 #[.map (some mb),.int .i64 f] w (av w (.int .i64 (rK kv f))):=by
 have uF:=(aL.1 iS).1;refine enter (vs:=[_,_]) func94 rfl ntmps94 rfl ?_;refine B 2 ?_;refine yX ?_;intro b2 w2 aI aE dY cA db;refine B 5 ?_;refine aY zeroValue183 rfl rfl ?_;refine yW ?_;intro b5 iu iv;refine B 5 ?_;refine aV (i:=0) rfl sizeOf183 rfl rfl rfl rfl rfl rfl ?_;refine B 4 ?_;refine rr (.func (.func 127) #[] #[ptr b2 0,ptr b5 0]) (aH (i:=0) rfl isAgg183 rfl rfl) ?_;refine B 1 ?_;refine nJ (v:=.int .i64 (rK kv f)) (f:=127) (cap:=[ptr b2 0,ptr b5 0]) rfl call127 rfl rfl rfl (λW hS=>sU hF hk lH mb m hm b2 b5 (kv.length+1) f W hf zM ⟨hS.old A0 aI zZ jS,hS.own (b5,_) A0,hS.old A1 iS zZ jS⟩) ?_;refine B 4 ?_;exact bJ (.inl rfl) results94 (RS.t rfl RS.n) λW hS=>⟨rfl,hS.base A1 wN⟩
theorem sl5{w:World}{t:Nat}{c1 c2 c3 c4 c5:Int}(hb:w.heap[b]? =some (.cells #[.int .i64 c1,.int .i64 c2,.int .i64 c3,.int .i64 c4,.int .i64 c5] t fr)):ah encI 1 w.heap.size w (some ⟨b,0,none⟩) [c1,c2,c3,c4,c5]:=
 .inr ⟨b,0,_,t,fr,rfl,(aL.1 hb).1,hb,by
  intro i hi
  match i,hi with
  |0,_=>exact⟨by simp,rfl⟩
  |1,_=>exact⟨by simp,rfl⟩
  |2,_=>exact⟨by simp,rfl⟩
  |3,_=>exact⟨by simp,rfl⟩
  |4,_=>exact⟨by simp,rfl⟩⟩
theorem nCg(x y:Pl)(w:World):Calls prog 92 #[.agg (plA x),.agg (plA y)] w (av w (.int .i64 (P1 x y))):=by
 refine enter (vs:=[_,_]) func92 rfl ntmps92 rfl ?_;refine B 2 ?_;refine yX ?_;intro b2 w2 aI aE dY cA db;refine yX ?_;intro b3 w3 aJ aD dr bY cR;refine B 4 ?_;refine Yo ?_;refine nk 24 [.det [] _,.det [0] _,.det [] _,.det [2] _,.det [1,3] _,.det [] _,.det [5] _,.det [] _,.det [7] _,.det [6,8] _,.det [] _,.det [10] _,.det [] _,.det [12] _,.det [11,13] _,.det [] _,.det [15] _,.det [] _,.det [17] _,.det [16,18] _,.det [] _,.det [20] _,.det [] _,.det [22] _] zT (xc z4 (xc Ur (xc z4 (xc Yp (xc Yq (xc z4 (xc Ur (xc z4 (xc Yp (xc Yq (xc z4 (xc Ur (xc z4 (xc Yp (xc Yq (xc z4 (xc Ur (xc z4 (xc Yp (xc Yq (xc (by exact λae=>X.val rfl rfl (ak underlying135 rfl sizeOf9 rfl) (λ_ _=>rfl)) (xc (by exact λae=>X.val rfl rfl (aa isAgg9 rfl A1 aI aE trivial rfl) (λ_ _=>rfl)) (xc (by exact λae=>X.val rfl rfl (ak underlying135 rfl sizeOf9 rfl) (λ_ _=>rfl)) (xc (by exact λae=>X.val rfl rfl (aa isAgg9 rfl A0 aJ aD trivial rfl) (λ_ _=>rfl)) (xn))))))))))))))))))))))))) zT zT zT (λae=>?_);refine call call126 rfl rfl rfl (λW hS=>Hm _ _ W) ?_;refine EI ?_;refine yV ?_;intro b30 w30 ad0 ahK ahL ahM ahN;refine call call124 rfl rfl rfl (λW hS=>Ng [cy x.time y.time,cy x.dev y.dev,cy x.fol y.fol,cy x.par y.par,Go.Lib.compareBytes x.nm.data.toList y.nm.data.toList] z1 W.heap.size (some ⟨b30,0,none⟩) 5 W (ao _) (sl5 (hS.old A0 ad0 zZ trivial))) ?_
 refine B 4 ?_;refine ay results92 rfl A3 ?_;rfl
def tK:List Pl->Nat->List Pl
 |l,0=>l
 |l,j+1=>match l[j+1]?,l[j]? with
  |some x,some y=>if P1 x y<0 then tK ((l.set (j+1) y).set j x) j else l
  |_,_=>l
def ly:List Pl->Nat->Nat->List Pl
 |l,0,_=>l
 |l,k+1,i=>ly (tK l i) k (i+1)
def qY (xs:List Pl):List Pl:=ly xs (xs.length-1) 1
theorem Hs{l:List Pl}{x y:Pl}(hx:l[j+1]? =some x)(hy:l[j]? =some y)(h:P1 x y<0):tK l (j+1)=tK ((l.set (j+1) y).set j x) j:=by rw[tK,hx,hy];exact if_pos h
theorem n2l{l:List Pl}{x y:Pl}(hx:l[j+1]? =some x)(hy:l[j]? =some y)(h:¬P1 x y<0):tK l (j+1)=l:=by rw[tK,hx,hy];exact if_neg h
theorem n3l:∀(j:Nat) (l:List Pl),(tK l j).length=l.length
 |0,l=>by rw[tK]
 |j+1,l=>by
  unfold tK;split
  ·split
   ·rw[n3l j,Ht,Ht]
   rfl
  rfl
theorem nnl{cur:List Pl}{n:Nat}(h:i<n):ly cur (n-i) i=ly (tK cur i) (n-(i+1)) (i+1):=by
 rw[show n-i=(n-(i+1))+1 by omega,ly]
theorem nRl:∀(j:Nat) (l:List Pl) (z:Pl),z∈tK l j->z∈l
 |0,l,z,h=>by rw[tK]at h;exact h
 |j+1,l,z,h=>by
  unfold tK at h;split at h
  ·rename_i x y hx hy;split at h
   ·have h1:=nRl j _ z h;rcases Yr h1 with h1|h1
    ·rcases Yr h1 with h1|h1
     ·exact h1
     rw[h1];exact cB hy
    rw[h1];exact cB hx
   exact h
  exact h
theorem nmn:∀(k i:Nat) (l:List Pl) (z:Pl),z∈ly l k i->z∈l
 |0,i,l,z,h=>by rw[ly]at h;exact h
 |k+1,i,l,z,h=>by rw[ly]at h;exact nRl i l z (nmn k (i+1) _ z h)
theorem n9m:∀(k i:Nat) (l:List Pl),(ly l k i).length=l.length
 |0,i,l=>by rw[ly]
 |k+1,i,l=>by rw[ly,n9m k,n3l]
theorem nai(xs:List Pl):(qY xs).length=xs.length:=n9m _ _ _
theorem Cr{xs:List Pl}{z:Pl}(h:z∈qY xs):z∈xs:=nmn _ _ _ _ h
theorem nPo(xs:List Pl)(ck:xs.length<=12)(b cp:Nat)(sp:List Value)(w:World)(hb:w.heap[b]? =some (cD ig 135 xs sp)):Calls prog 185 #[.slice (some ⟨b,0,none⟩) xs.length cp,.int .i64 0,.int .i64 (xs.length:Int),.func (.func 92) #[] #[]] w (λe w'=>e= .returned (.tuple #[])/\aG (· =b) w w'/\w'.heap[b]? =some (cD ig 135 (qY xs) sp)):=by
 have jN:=(aL.1 hb).1;refine nM (Gh.lent (· =b)) [(b,cD ig 135 xs sp)] (vs:=[_,_,_,_]) func185 rfl ntmps185 rfl (zh hb) ?_;refine B 8 ?_;refine CJ.loop (α:=Nat×List Pl) (λp=>[(0,.slice (some ⟨b,0,none⟩) xs.length cp),(1,.int .i64 0),(2,.int .i64 (xs.length:Int)),(3,.func (.func 92) #[] #[]),(8,.int .i64 (p.1:Int))]) (λp=>[(b,cD ig 135 p.2 sp)]) (λp=>[w]) (λp=>Gh.lent (· =b)) (λp=>1<=p.1/\p.1<=xs.length+1/\p.2.length=xs.length/\ly p.2 (xs.length-p.1) p.1=qY xs) (λp=>xs.length+1-p.1) (1,xs) ⟨ao _,by dsimp only;omega,rfl,rfl⟩ zR rfl rfl z1 ?_;rintro⟨i,cur⟩ ⟨wT,DW,mj,Ys⟩;dsimp only at wT DW mj Ys ⊢;refine B 8 ?_;refine aO ?_ ?_
 ·intro aj;refine B 11 ?_;refine CJ.loop (α:=Nat×List Pl) (λp=>[(0,.slice (some ⟨b,0,none⟩) xs.length cp),(1,.int .i64 0),(2,.int .i64 (xs.length:Int)),(3,.func (.func 92) #[] #[]),(8,.int .i64 (i:Int)),(9,.int .i64 (p.1:Int))]) (λp=>[(b,cD ig 135 p.2 sp)]) (λp=>[w]) (λp=>Gh.lent (· =b)) (λp=>p.1<=i/\p.2.length=xs.length/\tK p.2 p.1=tK cur i) (λp=>p.1) (i,cur) ⟨ao _,mj,rfl⟩ zR rfl rfl z1 ?_;rintro⟨j,u6⟩ ⟨hj,Nl,hsk⟩;dsimp only at hj Nl hsk ⊢;refine B 2 ?_;rcases j with _|j1
  ·refine zvh ?_;refine nk 14 [.det [] _,.det [] _,.det [0,1] _,.det [2] _,.det [3] undef,.det [3] undef,.det [3] undef,.det [3,5,6] undef,.det [3,7] undef,.det [3] undef,.det [3] undef,.det [3,10] undef,.det [3,9,11] undef,.det [3,12] undef] zT (xc zO (xc zO (xc Gb (xc zO (xc zN (xc zN (xc zN (xc zN (xc zN (xc zN (xc zN (xc zN (xc zN (xc zN (xn))))))))))))))) zT zT zT (λae=>?_);refine B 17 ?_;exact z2j
  obtain⟨x,hx⟩:=nj u6 (j1+1) zM;obtain⟨y,hy⟩:=nj u6 j1 zM;by_cases rn:P1 x y<0
  ·refine zvh ?_;refine nk 14 [.det [] _,.det [] _,.det [0,1] _,.det [2] _,.det [3] _,.det [3] _,.det [3] _,.det [3,5,6] _,.det [3,7] _,.det [3] _,.det [3] _,.det [3,10] _,.det [3,9,11] _,.det [3,12] _] zT (xc zO (xc zO (xc Jc (xc zO (xc zO (xc zO (xc zO (xc Yt (xc zFd (xc zO (xc zO (xc zRd (xc Yt (xc zGd (xn))))))))))))))) zT zT zT (λae=>?_);refine z1h ?_;refine I0 ?_;refine B 8 ?_;refine ng (E':=[(0,_),(1,_),(2,_),(3,_),(8,_),(9,_),(18,_),(19,_),(20,_),(21,_),(22,_),(23,_),(24,_),(25,_),(26,_),(27,_),(28,_),(29,_),(30,_),(31,_),(32,_),(33,_),(34,_)]) zR ?_;refine Tw 16 [13,15] [([],some _),([],some _),([],some _),([],some _),([3],some _),([],some _),([],some _),([6],some _),([5,7],some _),([8],some _),([],some _),([],some _),([10,11],some _),([12],none),([0,1],some _),([9,14],none)] (λcv L' H'=>match cv with| []=>L'=[w]/\H'=[(b,cD ig 135 u6 sp)]| [v1]=>v1= .agg (plA x)/\L'=[w]/\H'=[(b,cD ig 135 u6 sp)]| [v1,v2]=>v1= .agg (plA x)/\v2= .tuple #[]/\L'=[w]/\H'=[(b,cD ig 135 (u6.set (j1+1) y) sp)]|_=>False) zT ⟨rfl,rfl⟩ zT zT zT zT zT zT zT (pc zW (pc zW (pc zW (pc zW (pc zSd (pc zW (pc zW (pc zSd (pc zKd (pc zcB (pc zW (pc zW (pc zKd (pk (pc zKd (pk (pn))))))))))))))))) ?_ ?_
   ·refine ss rfl rfl ?_ ?_
    ·intro cv L' H' hl hP F Q' hk;obtain rfl:=jt hl;obtain⟨rfl,rfl⟩:=hP;refine rq (.agg (plA x)) (cN (i:=0) rfl isAgg135 sizeOf135 rfl (Jx (j:=j1+1) nH zM)) (va (Jw (j:=j1+1) (sp:=sp) nH hx)) ?_;exact OJ.done (hk _ _ _ ⟨rfl,rfl,rfl⟩)
    refine ss rfl rfl ?_ ?_
    ·intro cv L' H' hl hP F Q' hk;obtain⟨v1,rfl⟩:=di hl;obtain⟨rfl,rfl,rfl⟩:=hP;refine Bw (enc:=ig) (m:=5) (i:=0) (j:=j1+1) (z:=y) rfl nH Yl sizeOf135 rfl rfl rfl z1 zM rfl rfl ?_;exact OJ.done (hk (.tuple #[]) _ _ ⟨rfl,rfl,rfl,rfl⟩)
    exact Yj
   intro cv L' H' hl hP;obtain⟨v1,v2,rfl⟩:=ju hl;obtain⟨rfl,rfl,rfl,rfl⟩:=hP;refine B 1 ?_;refine Bw (enc:=ig) (m:=5) (i:=0) (j:=j1) (z:=x) rfl nH Yl sizeOf135 rfl rfl rfl z1 (by simp only[Ht];omega) rfl rfl ?_;refine B 5 ?_;refine rq (.int .i64 ((j1:Nat):Int)) (gP rfl rfl zM zM) (vi zM) ?_;refine B 2 ?_;refine PJ.again (j1,(u6.set (j1+1) y).set j1 x) ⟨by dsimp only;omega,by dsimp only;rw[Ht,Ht];exact Nl,by dsimp only;rw[<-hsk,Hs hx hy rn]⟩ dE zR rfl rfl z1
  refine zvh ?_;refine nk 14 [.det [] _,.det [] _,.det [0,1] _,.det [2] _,.det [3] _,.det [3] _,.det [3] _,.det [3,5,6] _,.det [3,7] _,.det [3] _,.det [3] _,.det [3,10] _,.det [3,9,11] _,.det [3,12] _] zT (xc zO (xc zO (xc Jc (xc zO (xc zO (xc zO (xc zO (xc Yt (xc zFd (xc zO (xc zO (xc zRd (xc Yt (xc zGd (xn))))))))))))))) zT zT zT (λae=>?_);refine z1h ?_;refine wD ?_;refine B 15 ?_;exact z2j
 intro aj;refine B 4 ?_;exact bJ (.inr rfl) (rs:=[]) results185 RS.n λW hS=>⟨rfl,hS.baseX A0 DZ,by have h9:=hS.own (b,_) A0;rw[show xs.length-i=0 by omega,ly]at Ys;rw[<-Ys];exact h9⟩
theorem Nn(xs:List Pl)(ck:xs.length<=12)(b cp:Nat)(sp:List Value)(w:World)(hb:w.heap[b]? =some (cD ig 135 xs sp))(lim:Int):Calls prog 123 #[.slice (some ⟨b,0,none⟩) xs.length cp,.int .i64 0,.int .i64 (xs.length:Int),.int .i64 lim,.func (.func 92) #[] #[]] w (λe w'=>e= .returned (.tuple #[])/\aG (· =b) w w'/\w'.heap[b]? =some (cD ig 135 (qY xs) sp)):=by
 have jN:=(aL.1 hb).1;refine nM (Gh.lent (· =b)) [(b,cD ig 135 xs sp)] (vs:=[_,_,_,_,_]) func123 rfl ntmps123 rfl (zh hb) ?_;refine B 11 ?_;refine CJ.loop (α:=Unit) (λp=>[(0,.slice (some ⟨b,0,none⟩) xs.length cp),(1,.int .i64 0),(2,.int .i64 (xs.length:Int)),(3,.int .i64 lim),(4,.func (.func 92) #[] #[]),(10,.bool true),(11,.bool true)]) (λp=>[(b,cD ig 135 xs sp)]) (λp=>[w]) (λp=>Gh.lent (· =b)) (λp=>True) (λp=>0) () trivial zR rfl rfl z1 ?_;rintro⟨⟩ _;refine B 5 ?_;refine rq (.int .i64 (xs.length:Int)) (gP rfl rfl zM zM) (vi zM) ?_;refine B 7 ?_;refine WC ?_;refine B 9 ?_;refine Yu (γ:=Unit) (i:=0) (b:=b) (o:=cD ig 135 xs sp) (v:=λ_=>.tuple #[]) (ob:=λ_=>cD ig 135 (qY xs) sp) (Φ:=λ_=>True) (first:=[]) (cap:=[]) rfl rfl call185 rfl rfl rfl (λW hS h=>(nPo xs ck b cp sp W h).mono λe w2 h=>⟨(),h.1,h.2.1,trivial,h.2.2⟩) ?_;rintro⟨⟩ -;refine B 7 ?_;exact bJ (.inl rfl) (rs:=[]) results123 RS.n λW hS=>⟨rfl,hS.baseX A0 DZ,hS.own (b,_) A0⟩
theorem Cs(xs:List Pl)(ck:xs.length<=12)(b cp:Nat)(sp:List Value)(w:World)(hb:w.heap[b]? =some (cD ig 135 xs sp)):Calls prog 91 #[.slice (some ⟨b,0,none⟩) xs.length cp,.func (.func 92) #[] #[]] w (λe w'=>e= .returned (.tuple #[])/\aG (· =b) w w'/\w'.heap[b]? =some (cD ig 135 (qY xs) sp)):=by
 have jN:=(aL.1 hb).1;refine nM (Gh.lent (· =b)) [(b,cD ig 135 xs sp)] (vs:=[_,_]) func91 rfl ntmps91 rfl (zh hb) ?_;refine B 12 ?_;refine call call97 rfl rfl rfl (λW hS=>Za _ zM zM W) ?_;refine B 1 ?_;refine Yu (γ:=Unit) (i:=0) (b:=b) (o:=cD ig 135 xs sp) (v:=λ_=>.tuple #[]) (ob:=λ_=>cD ig 135 (qY xs) sp) (Φ:=λ_=>True) (first:=[]) (cap:=[]) rfl rfl call123 rfl rfl rfl (λW hS h=>(Nn xs ck b cp sp W h _).mono λe w2 h=>⟨(),h.1,h.2.1,trivial,h.2.2⟩) ?_;rintro⟨⟩ -;refine B 1 ?_;exact bJ (.inr rfl) (rs:=[]) results91 RS.n λW hS=>⟨rfl,hS.baseX A0 DZ,hS.own (b,_) A0⟩
theorem Cu{β:Type}{l:List (Int×β)}{k:Int}{v:β}{q:Int×β}(h:q∈cq l k v):q=(k,v)\/q∈l:=by
 unfold cq at h;split at h
 ·rcases Yr h with h|h
  ·exact .inr h
  exact .inl h
 rcases cS.1 h with h|h
 ·exact .inr h
 exact .inl (ql.1 h)
theorem lx.nil:lx []:=⟨λ_=>0,λk p h=>by simp[aC,ea]at h⟩
theorem u5.nil:u5 []:=⟨List.nodup_nil,λq h=>by cases h⟩
theorem Hu{f o:Int}(h:jB kv f o=false):¬f=o/\o∉dJ kv f:=by
 unfold jB at h;rw[Bool.or_eq_false_iff]at h;refine⟨by simpa using h.2,λhm=>?_⟩;have:=List.any_eq_false.1 h.1 o hm;simp at this
theorem lx.put(h:lx kv)(hp:0<=p.par->jB kv p.par p.fol=false):lx (cq kv p.fol p):=by
 by_cases h0:0<=p.par
 ·obtain⟨dG,eN⟩:=Hu (hp h0);have dec:∀x,Decidable (x=p.fol\/p.fol∈dJ kv x):=λx=>inferInstance;refine⟨λx=>if x=p.fol\/p.fol∈dJ kv x then(dJ kv x).length+(dJ kv p.par).length+1 else(dJ kv x).length,λk q hk h1=>?_⟩;rw[n0l]at hk;dsimp only;by_cases e:k=p.fol
  ·rw[if_pos e]at hk;cases hk
   rw[if_neg (λh2=>h2.elim dG eN),if_pos (.inl e)];omega
  rw[if_neg e]at hk;have hu:=P2 h hk h1;have hl:(dJ kv k).length=(dJ kv q.par).length+1:=by rw[hu,ec]
  by_cases c:q.par=p.fol\/p.fol∈dJ kv q.par
  ·rw[if_pos c,if_pos (.inr (by rw[hu];rcases c with c|c;(rw[c];exact .head _);exact .tail _ c))];omega
  rw[if_neg c,if_neg (λh2=>c (by rcases h2 with h2|h2;(exact absurd h2 e);rw[hu]at h2;rcases cP.1 h2 with h3|h3;(exact .inl h3.symm);exact .inr h3))];omega
 refine⟨λx=>(dJ kv x).length,λk q hk h1=>?_⟩;rw[n0l]at hk;by_cases e:k=p.fol
 ·rw[if_pos e]at hk;cases hk;exact absurd h1 h0
 rw[if_neg e]at hk;exact h.rank k q hk h1
theorem u5.put(h:u5 kv)(hp:jb p):u5 (cq kv p.fol p):=by
 refine⟨nZf h.1,λq hq=>?_⟩;rcases Cu hq with rfl|hq
 ·exact⟨rfl,hp⟩
 exact h.2 q hq
def P5 (kv:lN) (p:Pl):Prop:=(0<=p.par/\((aC kv p.par).isSome=false\/jB kv p.par p.fol=true))\/8<oB kv p.par+rK kv p.fol
instance (kv:lN) (p:Pl):Decidable (P5 kv p):=by unfold P5;infer_instance
def Hv (kv:lN) (p:Pl):lN:=if P5 kv p then kv else cq kv p.fol p
def cX (l:List Pl):List Pl:=qY (l.filter λx=> !!decide (jb x))
def gN (ys:List Pl) (j:Nat):lN:=(ys.take j).foldl Hv []
def nw (l:List Pl):lN:=gN (cX l) (cX l).length
theorem nzj{l:List Pl}(h:p∈cX l):jb p:=by
 have:=(vH.1 (Cr h)).2;simpa using this
theorem njm(l:List Pl):(cX l).length<=l.length:=by unfold cX;rw[nai];exact Ap _ _
theorem Cv{ys:List Pl}(h:ys[j]? =some p):gN ys (j+1)=Hv (gN ys j) p:=by unfold gN;rw[nC h,DY];rfl
theorem Np(h:P5 kv p):Hv kv p=kv:=if_pos h
theorem Us(h:¬P5 kv p):Hv kv p=cq kv p.fol p:=if_neg h
theorem nTk{ys:List Pl}(hy:∀p∈ys,jb p):∀j,j<=ys.length->lx (gN ys j)/\u5 (gN ys j)/\(gN ys j).length<=j
 |0,_=>⟨lx.nil,u5.nil,ao _⟩
 |j+1,h=>by
  obtain⟨p,hp⟩:=nj ys j zM;obtain⟨h1,h2,h3⟩:=nTk hy j zM;rw[Cv hp];by_cases hb:P5 (gN ys j) p
  ·rw[Np hb];exact⟨h1,h2,by omega⟩
  rw[Us hb];refine⟨h1.put λh0=>?_,h2.put (hy p (cB hp)),aS (Pt _ _ _) zM⟩;cases hw:jB (gN ys j) p.par p.fol with
  |false=>rfl
  |true=>exact absurd (.inl ⟨h0,.inr hw⟩) hb
theorem Hw(h:lx kv)(f:Int):0<=oB kv f/\oB kv f<=(kv.length:Int)+1:=by
 have:=Ej h f;unfold oB;split<;>omega
theorem nwo{c:Code}{Q:aF}{H1:ad}{α:Type}{enc:α->List Value}{t:Nat}{xs:List α}(hH:H=H0++(r.hp enc t xs++H1))(hm:∀x,(enc x).length=m)(bW:r.Fit m xs)(rE:r.Fr G L)(k:∀W a cp,r.val xs.length= .slice a xs.length cp->ah (λx=>(enc x).toArray) m W.heap.size W a xs->(∀w∈L,w.heap.size<=W.heap.size)->(∀p∈H0++H1,W.heap[p.1]? =some p.2)->CJ C c Q E D G (W::L) (H0++H1)):CJ C c Q E D G L H:=λa W hN hD hF hS=>by
 have hA:r.At enc t xs W:=by
  cases r with
  |nil=>trivial
  |row b cap sp=>exact hS.own (b,_) (by rw[hH];simp[Rw.hp])
 obtain⟨a9,c9,e9,h9⟩:=r.sl hm bW hA (ao _);have tA:St G L (H0++H1) W:=by
  cases r with
  |nil=>rw[hH]at hS;simpa[Rw.hp]using hS
  |row b cap sp=>
   have:=hS.dropAtF (i:=H0.length) (b:=b) (o:=cD enc t xs sp) (by rw[hH];simp[Rw.hp]) rE;rw[hH]at this;simpa[Rw.hp,List.eraseIdx_append_of_length_le]using this
 exact k W a9 c9 e9 h9 (λw hw=>(hS.links w hw).size) (λp hp=>tA.own p hp) a W hN hD hF tA.snap
theorem nIh(f:Nat)(cap:List Value)(ax:dU prog f)(w:World):Calls prog 87 #[.slice none 0 0,.func (.func f) #[] cap.toArray] w (av w (.slice none 0 0)):=by
 refine enter (vs:=[_,_]) func87 rfl ntmps87 rfl ?_;refine B 9 ?_;refine nr (α:=Int) (v:=λi:Int=>.int .i64 i) (Φ:=λ_ i _=>cZ (λ_:Pl=>false) [] i) call121 rfl rfl rfl (λW hS=>nHg (λ_=>false) f cap ax [] z1 W.heap.size none 0 W (ao _) (.inl rfl) (λj x hx=>by simp at hx)) ?_;intro Wi i wi sC sD hi;have wT:i= -1:=by rcases hi with⟨h,_⟩|⟨k,x,_,hx,_⟩;(exact h);simp at hx
 subst wT;refine B 7 ?_;refine PM ?_;refine ay results87 rfl A1 ?_;rfl
theorem nCk(w:World):Calls prog 185 #[.slice none 0 0,.int .i64 0,.int .i64 0,.func (.func 92) #[] #[]] w (av w (.tuple #[])):=by
 refine enter (vs:=[_,_,_,_]) func185 rfl ntmps185 rfl ?_;refine B 8 ?_;refine CJ.loop (α:=Nat) (λj=>[(0,.slice none 0 0),(1,.int .i64 0),(2,.int .i64 0),(3,.func (.func 92) #[] #[]),(8,.int .i64 1)]) (λj=>[]) (λj=>[w]) (λj=>Gh.no) (λj=>True) (λj=>0) 0 True.intro zR rfl rfl z1 ?_;rintro j _;refine XN ?_;exact bG (.inr rfl) results185 RS.n A0 trivial rfl
theorem nco(l:Int)(w:World):Calls prog 123 #[.slice none 0 0,.int .i64 0,.int .i64 0,.int .i64 l,.func (.func 92) #[] #[]] w (av w (.tuple #[])):=by
 refine enter (vs:=[_,_,_,_,_]) func123 rfl ntmps123 rfl ?_;refine B 11 ?_;refine CJ.loop (α:=Nat) (λj=>[(0,.slice none 0 0),(1,.int .i64 0),(2,.int .i64 0),(3,.int .i64 l),(4,.func (.func 92) #[] #[])]) (λj=>[]) (λj=>[w]) (λj=>Gh.no) (λj=>True) (λj=>0) 0 True.intro zR rfl rfl z1 ?_;rintro j _;refine XO ?_;refine call call185 rfl rfl rfl (λW hS=>nCk W) ?_;refine B 7 ?_;exact bG (.inl rfl) results123 RS.n A0 trivial rfl
theorem nJm(w:World):Calls prog 91 #[.slice none 0 0,.func (.func 92) #[] #[]] w (av w (.tuple #[])):=by
 refine enter (vs:=[_,_]) func91 rfl ntmps91 rfl ?_;refine XP ?_;refine B 1 ?_;refine call call123 rfl rfl rfl (λW hS=>nco _ W) ?_;refine B 1 ?_;exact bG (.inr rfl) results91 RS.n A0 trivial rfl
theorem n8g(l:List Pl)(ck:l.length<=12)(N:Nat)(a:Option Addr)(cp:Nat)(w:World)(hN:N<=w.heap.size)(aN:ah plA 5 N w a l):Calls prog 46 #[.slice a l.length cp] w (vD w jA (nw l) id):=by
 refine enter (vs:=[_]) func46 rfl ntmps46 rfl ?_;refine B 7 ?_;refine F0 jA rfl rfl ?_;refine yW ?_;intro b9 qt EN;refine B 6 ?_;refine Am (enc:=ig) (m:=5) (t:=135) (xs:=l) (v:=id) (first:=[]) (cap:=[]) rfl call88 rfl rfl rfl (λW hS=>Ci l zM N a cp W (aS hN (hS.links w A0).size) (aN.up (ao _) (hS.same A0 hN zU wN))) ?_;intro r bH al;have cO:=Rw.ge_of bH A0;refine wZ (r:=r) (enc:=ig) (m:=5) (t:=135) (xs:=l) (ys:=(l.filter λx=> !!decide (jb x))) (H0:=[]) (H1:=[(b9,(Mp.mk [] 0).obj jA [])]) (v:=λr=>r.val (l.filter λx=> !!decide (jb x)).length) rfl call87 rfl rfl rfl (λhr W hS=>?_) (λb cap sp hr W hS h=>?_) ?_
 ·subst hr;have h0:l=[]:=al;subst h0;exact(nIh 89 [] call89 W).mono λe w2 h=>⟨h.1,rfl,h.2⟩
 ·subst hr;exact nEk (λx=> !decide (jb x)) 89 [] call89 l zM b cap sp W h al (λj x hx W2 hK Tr=>M9 x W2)
 intro r2 de mU mW jJ;have gE:=mU bH;have dW:=mW _ cO;refine B 6 ?_;refine wZ (r:=r2) (enc:=ig) (m:=5) (t:=135) (xs:=(l.filter λx=> !!decide (jb x))) (ys:=(cX l)) (H0:=[]) (H1:=[(b9,(Mp.mk [] 0).obj jA [])]) (v:=λ_=>.tuple #[]) rfl call91 rfl rfl rfl (λhr W hS=>?_) (λb cap sp hr W hS h=>?_) ?_
 ·subst hr;have h0:(l.filter λx=> !!decide (jb x))=[]:=de;unfold cX;rw[h0];exact(nJm W).mono λe w2 h=>⟨h.1,rfl,h.2⟩
 ·subst hr;exact(Cs (l.filter λx=> !!decide (jb x)) (aS (Ap _ _) zM) b cap sp W h).mono λe w2 h=>⟨sp,h.1,h.2.1,by simp only[Rw.Fit]at de ⊢;unfold cX;rw[nai];exact de,h.2.2⟩
 intro r3 mX As Au vB;have Av:=As gE;have vC:=Au _ dW;refine B 4 ?_;refine nwo (enc:=ig) (m:=5) (t:=135) (xs:=(cX l)) (r:=r3) (H0:=[]) (H1:=[(b9,(Mp.mk [] 0).obj jA [])]) rfl nH mX Av ?_;intro Wr a9 c9 e9 lp ad8 ad9;have aea:ah plA 5 Wr.heap.size Wr a9 (cX l):=lp;have IQ:=njm l;have Hx:=ad9 (b9,(Mp.mk [] 0).obj jA []) A0;dsimp only at Hx;have ahO:=(aL.1 Hx).1;have uq:(l.filter λx=> !!decide (jb x)).length=(cX l).length:=by unfold cX;rw[nai]
 have vx:=ad8 w A0;refine B 1 ?_;refine rq (.slice a9 (cX l).length c9) (fh rfl) (((congrArg (λn=>r2.val n) uq).trans ((vB _).symm.trans e9))) ?_;refine B 5 ?_;refine CJ.loop (α:=Nat×Mp) (λp=>[(3,.map (some b9)),(15,.slice a9 (cX l).length c9),(16,.int .i64 ((cX l).length:Int)),(17,.int .i64 (p.1:Int))]) (λp=>[(b9,p.2.obj jA (gN (cX l) p.1))]) (λp=>[Wr,w]) (λp=>Gh.no) (λp=>p.1<=(cX l).length/\p.2.Ok (gN (cX l) p.1)) (λp=>(cX l).length-p.1) (0,⟨[],0⟩) ⟨dx _,Mp.nil⟩ zR rfl rfl z1 ?_;rintro⟨j,m⟩ ⟨hj,hm⟩;dsimp only at hj hm ⊢;have hinv:=nTk (λp hp=>nzj hp) j hj;have V7:=hinv.2.2;refine B 6 ?_;refine aO ?_ ?_
 ·intro aj;refine B 5 ?_;obtain⟨bo,oo,cs0,to,fA,rfl,fG,hcs,ar⟩:=aea.get zM;obtain⟨x,hx⟩:=nj (cX l) j zM;have hxk:=nzj (cB hx);have dG:bo≠b9:=λe=>by subst e;rw[hcs]at Hx;cases Hx
  refine B 2 ?_;refine rq (.agg (plA x)) (ag isAgg135 sizeOf135 rfl A0 hcs zZ yo (nl ar hx rfl)) (va (nq ar hx rfl)) ?_;refine Na ?_;refine yW ?_;intro b6 gm kg;refine JP ?_;refine B 7 ?_;refine rq (.tuple #[.agg (plA ((aC (gN (cX l) j) x.par).getD Ho)),.bool (aC (gN (cX l) j) x.par).isSome]) (gW (ev:=jA) (k:=x.par) underlying132 underlying3 zeroValue135 hm (bN.own (i:=1) rfl) rfl rfl) (by cases aC (gN (cX l) j) x.par<;>rfl) ?_;refine rr (.tuple #[.agg (plA ((aC (gN (cX l) j) x.par).getD Ho)),.bool (aC (gN (cX l) j) x.par).isSome]) (fh rfl) ?_;refine B 2 ?_;refine Na ?_;refine yW ?_;intro b7 fu lG;refine JP ?_;refine B 5 ?_;have hlb:=Hw hinv.1 x.par;have hhb:=Co (gN (cX l) j) x.fol;by_cases h1:0<=x.par
  ·rcases hq:aC (gN (cX l) j) x.par with _|q
   ·refine P6 ?_;refine nk 23 [.det [] _,.det [0] _,.det [1] _,.det [2] _,.det [3] _,.det [3,4] _,.det [3,5] _,.det [6] undef,.det [6] undef,.det [6,8] undef,.det [6] undef,.det [6,10] undef,.det [6,7,9,11] undef,.det [3,6,12] _,.det [3,13] _,.det [14] _,.det [15] undef,.det [15] undef,.det [15,17] undef,.det [15,16,18] undef,.det [15] undef,.det [15] undef,.det [15,21] undef] zT (xc z4 (xc p4 (xc Nq (xc zO (xc (by exact λae=>X.val rfl rfl (RV.re (v':=.bool false) (fh rfl) (by first|rfl|(rw[hq];rfl))) (λ_ _=>rfl)) (xc PW (xc zO (xc zN (xc zN (xc zN (xc zN (xc zN (xc zN (xc z6 (xc z6 (xc zO (xc zN (xc zN (xc zN (xc zN (xc zN (xc zN (xc zN (xn)))))))))))))))))))))))) zT zT zT (λae=>?_);refine B 15 ?_;refine Ar ?_;refine PJ.again (j+1,m) ⟨by dsimp only;omega,by dsimp only;rw[Cv hx,Np (.inl ⟨h1,.inl (by rw[hq];rfl)⟩)];exact hm⟩ dE zR (by rw[Cv hx,Np (.inl ⟨h1,.inl (by rw[hq];rfl)⟩)];rfl) rfl z1
   rcases Ut:jB (gN (cX l) j) x.par x.fol with _|_
   ·by_cases h8:8<oB (gN (cX l) j) x.par+rK (gN (cX l) j) x.fol
    ·refine P6 ?_;refine nk 23 [.det [] _,.det [0] _,.det [1] _,.det [2] _,.det [3] _,.det [3,4] _,.det [3,5] _,.det [6] _,.det [6] _,.det [6,8] _,.det [6] _,.det [6,10] _,.det [6,7,9,11] (.bool false),.det [3,6,12] _,.det [3,13] _,.det [14] _,.det [15] _,.det [15] _,.det [15,17] _,.det [15,16,18] (.int .i64 (oB (gN (cX l) j) x.par)),.det [15] _,.det [15] _,.det [15,21] _] zT (xc z4 (xc p4 (xc Nq (xc zO (xc zac (xc PW (xc zO (xc zO (xc z4 (xc p4 (xc z4 (xc p4 (xc zZb (xc z8 (xc z6 (xc zO (xc zO (xc z4 (xc p4 (xc Yv (xc zO (xc z4 (xc p4 (xn)))))))))))))))))))))))) zT zT zT (λae=>?_);exact zQj
    refine P6 ?_;refine nk 23 [.det [] _,.det [0] _,.det [1] _,.det [2] _,.det [3] _,.det [3,4] _,.det [3,5] _,.det [6] _,.det [6] _,.det [6,8] _,.det [6] _,.det [6,10] _,.det [6,7,9,11] (.bool false),.det [3,6,12] _,.det [3,13] _,.det [14] _,.det [15] _,.det [15] _,.det [15,17] _,.det [15,16,18] (.int .i64 (oB (gN (cX l) j) x.par)),.det [15] _,.det [15] _,.det [15,21] _] zT (xc z4 (xc p4 (xc Nq (xc zO (xc zac (xc PW (xc zO (xc zO (xc z4 (xc p4 (xc z4 (xc p4 (xc zZb (xc z8 (xc z6 (xc zO (xc zO (xc z4 (xc p4 (xc Yv (xc zO (xc z4 (xc p4 (xn)))))))))))))))))))))))) zT zT zT (λae=>?_);refine zdf ?_;refine B 1 ?_;refine KL ?_;refine B 11 ?_;refine z6h ?_;intro m2 aE;refine ME ?_;refine PJ.again (j+1,m2) ⟨by dsimp only;omega,by dsimp only;rw[Cv hx,Us (λh=>h.elim (λh=>h.2.elim (λh=>by rw[hq]at h;cases h) (λh=>by rw[Ut]at h;cases h)) h8)];exact aE⟩ dE zR (by rw[Cv hx,Us (λh=>h.elim (λh=>h.2.elim (λh=>by rw[hq]at h;cases h) (λh=>by rw[Ut]at h;cases h)) h8)];rfl) rfl z1
   refine P6 ?_;refine nk 23 [.det [] _,.det [0] _,.det [1] _,.det [2] _,.det [3] _,.det [3,4] _,.det [3,5] _,.det [6] _,.det [6] _,.det [6,8] _,.det [6] _,.det [6,10] _,.det [6,7,9,11] (.bool true),.det [3,6,12] _,.det [3,13] _,.det [14] _,.det [15] undef,.det [15] undef,.det [15,17] undef,.det [15,16,18] undef,.det [15] undef,.det [15] undef,.det [15,21] undef] zT (xc z4 (xc p4 (xc Nq (xc zO (xc zac (xc PW (xc zO (xc zO (xc z4 (xc p4 (xc z4 (xc p4 (xc zZb (xc z8 (xc z6 (xc zO (xc zN (xc zN (xc zN (xc zN (xc zN (xc zN (xc zN (xn)))))))))))))))))))))))) zT zT zT (λae=>?_);refine B 15 ?_;refine Ar ?_;refine PJ.again (j+1,m) ⟨by dsimp only;omega,by dsimp only;rw[Cv hx,Np (.inl ⟨h1,.inr Ut⟩)];exact hm⟩ dE zR (by rw[Cv hx,Np (.inl ⟨h1,.inr Ut⟩)];rfl) rfl z1
  by_cases h8:8<oB (gN (cX l) j) x.par+rK (gN (cX l) j) x.fol
  ·refine P6 ?_;refine nk 23 [.det [] _,.det [0] _,.det [1] _,.det [2] _,.det [3] undef,.det [3,4] undef,.det [3,5] undef,.det [6] undef,.det [6] undef,.det [6,8] undef,.det [6] undef,.det [6,10] undef,.det [6,7,9,11] undef,.det [3,6,12] undef,.det [3,13] _,.det [14] _,.det [15] _,.det [15] _,.det [15,17] _,.det [15,16,18] (.int .i64 (oB (gN (cX l) j) x.par)),.det [15] _,.det [15] _,.det [15,21] _] zT (xc z4 (xc p4 (xc Uu (xc zO (xc zN (xc zN (xc zN (xc zN (xc zN (xc zN (xc zN (xc zN (xc zN (xc zN (xc z8 (xc zO (xc zO (xc z4 (xc p4 (xc Yv (xc zO (xc z4 (xc p4 (xn)))))))))))))))))))))))) zT zT zT (λae=>?_);exact zQj
  refine P6 ?_;refine nk 23 [.det [] _,.det [0] _,.det [1] _,.det [2] _,.det [3] undef,.det [3,4] undef,.det [3,5] undef,.det [6] undef,.det [6] undef,.det [6,8] undef,.det [6] undef,.det [6,10] undef,.det [6,7,9,11] undef,.det [3,6,12] undef,.det [3,13] _,.det [14] _,.det [15] _,.det [15] _,.det [15,17] _,.det [15,16,18] (.int .i64 (oB (gN (cX l) j) x.par)),.det [15] _,.det [15] _,.det [15,21] _] zT (xc z4 (xc p4 (xc Uu (xc zO (xc zN (xc zN (xc zN (xc zN (xc zN (xc zN (xc zN (xc zN (xc zN (xc zN (xc z8 (xc zO (xc zO (xc z4 (xc p4 (xc Yv (xc zO (xc z4 (xc p4 (xn)))))))))))))))))))))))) zT zT zT (λae=>?_);refine zdf ?_;refine B 1 ?_;refine KL ?_;refine B 11 ?_;refine z6h ?_;intro m2 aE;refine ME ?_;refine PJ.again (j+1,m2) ⟨by dsimp only;omega,by dsimp only;rw[Cv hx,Us (λh=>h.elim (λh=>h1 h.1) h8)];exact aE⟩ dE zR (by rw[Cv hx,Us (λh=>h.elim (λh=>h1 h.1) h8)];rfl) rfl z1
 intro aj;refine B 12 ?_;have hje:j=(cX l).length:=by omega
 subst hje;exact Jb (i:=0) (.inl rfl) results46 (RS.t rfl RS.n) A1 wE rfl hm rfl
theorem Nr(l:List Pl):lx (nw l)/\u5 (nw l)/\(nw l).length<=l.length:=by
 obtain⟨h1,h2,h3⟩:=nTk (ys:=cX l) (λp hp=>nzj hp) (cX l).length (ao _);exact⟨h1,h2,aS h3 (njm l)⟩
def tL (kv:lN) (f:Int) (js:List Nat):List Int:=(js.map (Ax kv)).filter λk=>jB kv k f
def bZ (l:List Pl) (f:Int):List Int:=if(aC (nw l) f).isSome=true then da (((nw l).map (·.1)).filter λk=>jB (nw l) k f)else[]
theorem npj{f:Int}{p:Int×Pl}(hp:kv[j]? =some p)(h:jB kv p.1 f=true):tL kv f (js++[j])=tL kv f js++[p.1]:=by
 unfold tL;rw[nLf hp,List.filter_append];simp[h]
theorem nul{f:Int}{p:Int×Pl}(hp:kv[j]? =some p)(h:¬jB kv p.1 f=true):tL kv f (js++[j])=tL kv f js:=by
 unfold tL;rw[nLf hp,List.filter_append];simp[h]
theorem nFn(kv:lN)(f:Int)(js:List Nat):(tL kv f js).length<=js.length:=by
 unfold tL;exact aS (Ap _ _) z1
theorem Hy{l:List Pl}{f:Int}(hs:(aC (nw l) f).isSome=true)(hd:js.Nodup)(hl:∀j∈js,j<(nw l).length)(bT:∀j,j<(nw l).length->j∈js):da (tL (nw l) f js)=bZ l f:=by
 unfold bZ tL;rw[if_pos hs];exact nVj ((nci hd hl bT).filter _)
theorem P7(l:List Pl)(f:Int):(bZ l f).length<=l.length:=by
 have:=(Nr l).2.2;unfold bZ;split
 ·rw[vA];exact aS (Ap _ _) (by simpa using this)
 exact dx _
theorem ntg(l:List Pl)(ck:l.length<=12)(N:Nat)(a:Option Addr)(cp:Nat)(w:World)(hN:N<=w.heap.size)(aN:ah plA 5 N w a l)(f:Int):Calls prog 77 #[.slice a l.length cp,.int .i64 f] w (nB w ai 1 3 (dJ (nw l) f) id):=by
 refine enter (vs:=[_,_]) func77 rfl ntmps77 rfl ?_;refine B 8 ?_;refine zJg ?_;intro bf m vJ Pq hm;replace vJ:=yb vJ;obtain⟨hF,hk,lH⟩:=Nr l;refine B 1 ?_;refine nr (α:=Nat×Nat) (v:=λq=>.func (.func 128) #[] #[ptr q.1 0,ptr q.2 0]) (Φ:=λW q w1=>W.heap.size<=q.1/\W.heap.size<=q.2/\q.1≠q.2/\w1.heap[q.1]? =some (.cells #[.map (some bf)] 132 (0,0))/\w1.heap[q.2]? =some (.cells #[.int .i64 f] 3 (0,0))) call95 rfl rfl rfl (λW hS=>neh (some bf) f W) ?_;rintro Wu q wn JQ Um ⟨gX,gY,Un,eO,eY⟩;have hzu:=Um.size;have Uo:=(aL.1 eO).1;have Up:=(aL.1 eY).1;have JR:=(JQ.links w A0).size;have aeg:=JQ.lt (bf,_) A0;refine Sl (enc:=ai) (m:=1) (t:=3) (Fin:=Is (dJ (nw l) f)) (v:=id) call118 rfl rfl rfl (λW hS=>by
  have l1:=(hS.links wn A0).size;have l2:=hS.lt (bf,_) A0;exact W6 (cap:=[ptr q.1 0,ptr q.2 0]) (Pre:=yn (dJ (nw l) f)) (Fin:=Is (dJ (nw l) f)) (RO:=λk=>k=q.1\/k=q.2\/k=bf) call128 W (λk hk=>by rcases hk with rfl|rfl|rfl<;>first|omega|exact l2) (λp hp=>aS hp.length_le (aS (Ej hF f) zM)) (λW2 hB=>nlf hF f bf q.1 q.2 m hm W2 (by rw[hB.block q.1 zM];exact hS.old A0 eO zZ jS) (by rw[hB.block q.2 zM];exact hS.old A0 eY zZ jS) (by rw[hB.block bf l2];exact hS.own (bf,_) A0))) ?_
 rintro xs r rfl bH al;refine B 4 ?_;exact nT (H0:=[]) (H1:=[(bf,m.obj jA (nw l))]) (r:=r) (.inl rfl) results77 (RS.t rfl RS.n) A1 (by rw[n0];exact⟨Rw.over (Rw.ge_of bH A1),by simp only[Over,and_true];omega⟩) rfl al (Rw.ge_of bH A1) z1
theorem nzg(l:List Pl)(ck:l.length<=12)(N:Nat)(a:Option Addr)(cp:Nat)(w:World)(hN:N<=w.heap.size)(aN:ah plA 5 N w a l)(f:Int):Calls prog 21 #[.slice a l.length cp,.int .i64 f] w (nB w ai 1 3 (bZ l f) id):=by
 refine enter (vs:=[_,_]) func21 rfl ntmps21 rfl ?_;refine B 8 ?_;refine zJg ?_;intro bf m vJ Pq hm;replace vJ:=yb vJ;obtain⟨hF,hk,lH⟩:=Nr l;refine B 8 ?_;refine rq (.tuple #[.agg (plA ((aC (nw l) f).getD Ho)),.bool (aC (nw l) f).isSome]) (gW (ev:=jA) (k:=f) underlying132 underlying3 zeroValue135 hm (bN.own (i:=0) rfl) rfl rfl) (by cases aC (nw l) f<;>rfl) ?_;refine rr (.tuple #[.agg (plA ((aC (nw l) f).getD Ho)),.bool (aC (nw l) f).isSome]) (fh rfl) ?_;refine B 2 ?_;refine Na ?_;refine yW ?_;intro b6 gm kg;refine JP ?_;refine B 4 ?_;rcases hq:aC (nw l) f with _|q9
 ·refine B 1 ?_;refine rq (.bool false) (fh rfl) (by first|rfl|(rw[hq];rfl)) ?_;refine B 11 ?_;have SJ:bZ l f=[]:=by unfold bZ;rw[hq];rfl
  rw[SJ];exact nT (H0:=[]) (H1:=[(b6,_),(bf,m.obj jA (nw l))]) (r:=.nil) (.inl rfl) results21 (RS.t rfl RS.n) A0 wN rfl rfl True.intro rfl
 refine B 1 ?_;refine rq (.bool true) (fh rfl) (by first|rfl|(rw[hq];rfl)) ?_;refine B 8 ?_;refine CJ.dropAt (i:=0) rfl zX ?_;have DI:(aC (nw l) f).isSome=true:=by rw[hq];rfl
 refine B 2 ?_;refine Ls (ev:=jA) underlying132 (bN.own (i:=0) rfl) rfl rfl rfl ?_;intro rb mY Lt;replace mY:=yb mY;refine B 3 ?_;refine CJ.loop (α:=Rw×List Nat) (λp=>[(1,.int .i64 f),(4,p.1.val (tL (nw l) f p.2).length),(5,.map (some bf)),(20,ptr rb 0)]) (λp=>[(rb,m.it bf p.2),(bf,m.obj jA (nw l))]++(p.1.hp ai 3 (tL (nw l) f p.2)++[])) (λp=>[w]) (λp=>Gh.no) (λp=>p.2.Nodup/\(∀j∈p.2,j<(nw l).length)/\p.1.Fr Gh.no [w]/\p.1.Fit 1 (tL (nw l) f p.2)) (λp=>(nw l).length-p.2.length) (.nil,[]) ⟨List.nodup_nil,by simp,True.intro,rfl⟩ zR rfl rfl z1 ?_;rintro⟨r,js⟩ ⟨hnd,gy,bH,al⟩;dsimp only at hnd gy bH al ⊢;have cO:r.ge w.heap.size:=Rw.ge_of bH A0;have jN:=nFn (nw l) f js;have DH:=W4 (nw l).length js hnd gy;refine B 2 ?_;refine Ay (ev:=jA) (i:=0) rfl hm (bN.own (i:=1) rfl) gy rfl rfl rfl (λbT=>?_) (λjn pn jK lU=>?_)
 ·refine B 13 ?_;refine wZ (r:=r) (enc:=ai) (m:=1) (t:=3) (xs:=(tL (nw l) f js)) (ys:=da (tL (nw l) f js)) (H0:=[(rb,m.it bf js),(bf,m.obj jA (nw l))]) (H1:=[]) (v:=λ_=>.tuple #[]) rfl call48 rfl rfl rfl (λhr W _=>by subst hr;exact nlj al W) (λb cap sp hr W _ h=>by subst hr;exact FR (by have:=nFn (nw l) f js;omega) al h) ?_;intro r2 de mU mW jJ;have gE:=mU bH;have dW:=mW _ cO;refine B 9 ?_;rw[<-Hy DI hnd gy bT];exact nT (H0:=[(rb,m.it bf js),(bf,m.obj jA (nw l))]) (H1:=[]) (r:=r2) (.inl rfl) results21 (RS.t rfl RS.n) A0 (by rw[dN];exact n0.2 ⟨by simp only[Over,and_true];omega,Rw.over dW⟩) (by show r.val _=r2.val _;rw[<-jJ,vA]) de dW rfl
 refine B 10 ?_;refine rv rfl rfl rfl (uG (ev:=jA) (i:=0) rfl hm (bN.own (i:=1) rfl) jK rfl) ?_;refine B 9 ?_;refine call call47 rfl rfl rfl (λW hS=>ned hF bf m hm pn.1 f W (hS.own (bf,_) A1)) ?_;refine B 2 ?_;refine aO ?_ ?_
 ·intro aj;refine B 3 ?_;refine wV ?_;refine yW ?_;intro gC jQ KZ;refine o8 (r:=r) (xs:=(tL (nw l) f js)) (zs:=[pn.1]) (enc:=ai) (m:=1) (H0:=[(gC,.cells #[.int .i64 pn.1] 3 (0,0)),(rb,m.it bf (js++[jn])),(bf,m.obj jA (nw l))]) (H1:=[]) wU FL nu rfl rfl rfl rfl (dy.one (z:=pn.1) nu FP underlying44 (bN.own (i:=0) rfl)) al bH z1 FX ?_;intro we po qW ow lv;replace ow:=yb ow;refine B 3 ?_;refine mD ?_;refine PJ.again (Rw.row we po qW,js++[jn]) ⟨(yp hnd gy jK lU).1,(yp hnd gy jK lU).2.1,ow.elim (λh=>Rw.Fr_at bH h) (λh=>.inr h),by rw[npj jK gM];exact lv⟩ Sk ⟨rfl,by rw[npj jK gM];rfl,rfl,rfl,trivial⟩ (by rw[npj jK gM];rfl) rfl z1
 intro aj;refine B 2 ?_;refine PJ.again (r,js++[jn]) ⟨(yp hnd gy jK lU).1,(yp hnd gy jK lU).2.1,bH,by rw[nul jK qC];exact al⟩ Sk ⟨rfl,by rw[nul jK qC];rfl,rfl,rfl,trivial⟩ (by rw[nul jK qC];rfl) rfl z1
theorem HA(xs:List Int)(ck:xs.length<=100000)(N:Nat)(a:Option Addr)(cp:Nat)(w:World)(hN:N<=w.heap.size)(aN:ah encI 1 N w a xs)(v:Int):Calls prog 117 #[.slice a xs.length cp,.int .i64 v] w (cu w (λi:Int=>.int .i64 i) (λi _=>cZ (λx=>decide (v=x)) xs i)):=by
 refine enter (vs:=[_,_]) func117 rfl ntmps117 rfl ?_;refine B 14 ?_;refine CJ.loop (α:=Nat) (λj=>[(0,.slice a xs.length cp),(1,.int .i64 v),(7,.int .i64 (xs.length:Int)),(8,.int .i64 (j:Int))]) (λj=>[]) (λj=>[w]) (λj=>Gh.no) (λj=>j<=xs.length/\fY (λx=>decide (v=x)) xs j) (λj=>xs.length-j) 0 ⟨dx _,λi x hi=>absurd hi zM⟩ zR rfl rfl z1 ?_;rintro j ⟨hj,er⟩;refine B 6 ?_;refine aO ?_ ?_
 ·intro aj;refine B 11 ?_;obtain⟨bo,oo,cs0,to,fA,rfl,fG,hcs,ar⟩:=aN.get zM;obtain⟨x,hx⟩:=nj xs j zM;refine B 5 ?_;refine rv rfl rfl rfl (aa (v:=.int .i64 x) isAgg3 rfl A0 hcs zZ trivial (nR ar hx rfl zQ)) ?_;refine B 3 ?_;refine aO ?_ ?_
  ·intro aQ;refine B 12 ?_;refine jM (j:Int) results117 rfl A0 rfl ?_;exact λW hS=>.inr ⟨j,x,rfl,hx,by simp_all,er⟩
  exact Gs
 intro aj;refine B 11 ?_;refine jM (-1:Int) results117 rfl A0 rfl ?_;exact Gt
theorem nlg(xs:List Int)(ck:xs.length<=100000)(N:Nat)(a:Option Addr)(cp:Nat)(w:World)(hN:N<=w.heap.size)(aN:ah encI 1 N w a xs)(v:Int):Calls prog 76 #[.slice a xs.length cp,.int .i64 v] w (av w (.bool (xs.any λx=>decide (v=x)))):=by
 refine enter (vs:=[_,_]) func76 rfl ntmps76 rfl ?_;refine B 9 ?_;refine nr (α:=Int) (v:=λi:Int=>.int .i64 i) (Φ:=λ_ i _=>cZ (λx=>decide (v=x)) xs i) call117 rfl rfl rfl (λW hS=>HA xs ck N a cp W (aS hN (hS.links w A0).size) (aN.up (ao _) (hS.same A0 hN zU zP)) v) ?_;intro Wi i wi sC sD hi;refine B 5 ?_;refine ay results76 rfl A1 ?_;exact vb hi.any
theorem nwm(n c:Nat)(w:World):Calls prog 81 #[.slice none n c] w (nB w ai 1 3 ([]:List Int) id):=by
 refine enter (vs:=[_]) func81 rfl ntmps81 rfl ?_;refine B 9 ?_;refine rr (.bool true) (mI underlying44 rfl rfl) ?_;refine B 10 ?_;exact nT (H0:=[]) (H1:=[]) (r:=.nil) (.inl rfl) results81 (RS.t rfl RS.n) A0 trivial rfl rfl True.intro rfl
theorem nTl(xs:List Int)(ck:xs.length<=100000)(N:Nat)(q:Addr)(cp:Nat)(w:World)(hN:N<=w.heap.size)(aN:ah encI 1 N w (some q) xs):Calls prog 81 #[.slice (some q) xs.length cp] w (nB w ai 1 3 xs id):=by
 refine enter (vs:=[_]) func81 rfl ntmps81 rfl ?_;refine B 9 ?_;refine rr (.bool false) (qT underlying44 rfl rfl) ?_;refine B 7 ?_;refine wV ?_;refine yW ?_;intro b5 iu iv;refine B 1 ?_;refine XI (xs:=([]:List Int)) (zs:=xs) (enc:=ai) (m:=1) (H0:=[]) (H1:=[]) (sp:=[]) (by rfl) FL nu rfl rfl rfl rfl (dy.sl nu FP underlying44 A0 aN (λb hb=>⟨λh=>h,by simp only[bE,and_true];omega⟩)) ⟨ao _,rfl⟩ (.inr zX) kh ?_;intro b7 D0 Mu oH gh;have sJ:w.heap.size<=b7:=by rcases oH with h|h;(omega);exact h.not A0
 rw[eg]at gh ⊢;refine B 4 ?_;exact nT (H0:=[]) (H1:=[]) (r:=.row b7 D0 Mu) (.inl rfl) results81 (RS.t rfl RS.n) A0 XJ rfl gh sJ (by rfl)
theorem nLn(xs:List Int)(ck:xs.length<=100000)(N:Nat)(a:Option Addr)(cp:Nat)(w:World)(hN:N<=w.heap.size)(aN:ah encI 1 N w a xs):Calls prog 81 #[.slice a xs.length cp] w (nB w ai 1 3 xs id):=by
 cases a with
 |none=>
  have h0:xs=[]:=by rcases aN with h|⟨b,off,cs,t,fr,h,_⟩;(exact h);cases h
  subst h0;exact nwm 0 cp w
 |some q=>exact nTl xs ck N q cp w hN aN
end Px
