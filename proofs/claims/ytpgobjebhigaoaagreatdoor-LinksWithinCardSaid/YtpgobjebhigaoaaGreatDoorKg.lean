/- Contracts of functions of the program. No condition beyond those stated. -/
import Derived.Test.YtpgobjebhigaoaaGreatDoorKf
import Derived.Test.YtpgobjebhigaoaaGreatDoorProg
import Derived.Shelf.Small.Strs
import Derived.Test.YtpgobjebhigaoaaGreatDoorLa
set_option linter.unusedSimpArgs false
set_option linter.unusedVariables false
set_option linter.unusedSectionVars false
set_option linter.unnecessarySimpa false
set_option maxRecDepth 20000
set_option maxHeartbeats 8000000
namespace Px
open Go Go.RowKit Go.Proofs Go.Proofs.Tryz
structure Fo where
 id:Int
 first:Nat->Int
def pg (f:Fo):Array Value:=#[.int .i64 f.id,.int .u8 (f.first 0),.int .u8 (f.first 1),.int .u8 (f.first 2),.int .u8 (f.first 3),.int .u8 (f.first 4),.int .u8 (f.first 5),.int .u8 (f.first 6),.int .u8 (f.first 7),.int .u8 (f.first 8),.int .u8 (f.first 9),.int .u8 (f.first 10),.int .u8 (f.first 11),.int .u8 (f.first 12),.int .u8 (f.first 13),.int .u8 (f.first 14),.int .u8 (f.first 15),.int .u8 (f.first 16),.int .u8 (f.first 17),.int .u8 (f.first 18),.int .u8 (f.first 19),.int .u8 (f.first 20),.int .u8 (f.first 21),.int .u8 (f.first 22),.int .u8 (f.first 23),.int .u8 (f.first 24),.int .u8 (f.first 25),.int .u8 (f.first 26),.int .u8 (f.first 27),.int .u8 (f.first 28),.int .u8 (f.first 29),.int .u8 (f.first 30),.int .u8 (f.first 31)]
def g0 (f:Fo):Gp:=⟨f.id,0,λ_=>0,[],[]⟩
def TS (f:Fo):Gv:=⟨g0 f,none,0,none,0⟩
theorem MS(f:Fo)(N:Nat)(w:World):aL N w (TS f):=⟨.inl rfl,.inl rfl,by simp[TS,g0],by simp[TS,g0]⟩
theorem n5o(l:List Dk)(k:Dk):mg l k= -1\/∃j:Nat,mg l k=(j:Int)/\l[j]? =some k:=by
 unfold mg;cases h:l.findIdx? λx=>decide (x=k)with
 |none=>exact .inl rfl
 |some j=>
  obtain⟨h1,h2,_⟩:=VK.1 h;refine .inr ⟨j,rfl,?_⟩;rw[gV h1];simpa using h2
noncomputable def X2 (Z:Fx) (cs:List Cm) (f:Fo):Option Nat:=if mg ((bB Z cs cs.length).map (·.1)) (dk f.first)<0 then none else((bB Z cs cs.length)[(mg ((bB Z cs cs.length).map (·.1)) (dk f.first)).toNat]?).map λp=>p.2.toNat
noncomputable def BV (Z:Fx) (cs:List Cm) (f:Fo):Option Nat:=(X2 Z cs f).bind λi=>if lJ Z (g0 f) (GW cs i)=0 then some i else none
structure uN (Z:Fx) (cs:List Cm) (g:Gp) (d:Cd):Prop where
 nn:0<=d.at_
 at_:cs[pf d]? =some d.c
 x:d.x.g=Bv Z g d.c
 ok:lJ Z g d.c=0
variable {Jq:Array Value} {C:Cx} {R:Ending->World->Prop} {E:Env} {M:aB} {Z:Fx} {G:Gh} {g:Gp} {H H0:ae} {D:List Deferred} {js:List Nat} {L L':List World} {N b i j m:Nat} {fr Tw:Nat×Nat} {o:Obj} {a:Option Addr} {r:Rw} {W W':World} {I:World->Prop}
theorem oc.le{cs:List Cm}{d:Cd}(h:oc Z cs g d):uN Z cs g d:=⟨h.nn,h.at_,h.x,h.ok⟩
def mE (b:Nat) (x:Gv):Prop:=(∀q,x.ma=some q->x.g.ms=[]\/q.block≠b)/\(∀q,x.na=some q->x.g.ns=[]\/q.block≠b)
theorem aW.off{K:Nat}{x:Gv}(h:(∀q,x.ma=some q->K<=q.block)/\(∀q,x.na=some q->K<=q.block))(hb:b<K):mE b x:=⟨λq e=>.inr (by have:=h.1 q e;omega),λq e=>.inr (by have:=h.2 q e;omega)⟩
theorem ah.ltq{α:Type}{enc:α->Array Value}{n:Nat}{w:World}{xs:List α}(h:ah enc n N w a xs):∀q,a=some q->xs=[]\/q.block<N:=by
 intro q e;rcases h with h|⟨b,off,cs,t,fr,h1,h2,_⟩
 ·exact .inl h
 rw[h1]at e;cases e;exact .inr h2
theorem aL.off{w:World}{x:Gv}(h:aL N w x)(hb:N<=b):mE b x:=⟨λq e=>(h.ms.ltq q e).imp id (λh=>by omega),λq e=>(h.ns.ltq q e).imp id (λh=>by omega)⟩
theorem aL.toO{w:World}{x:Gv}(h:aL N w x)(hS:St Gh.no L H W)(hw:w∈L)(hN:N<=w.heap.size)(ho:∀p∈H,mE p.1 x):aL W.heap.size W x:=by
 have key:∀b,(∀p∈H,p.1≠b)->bE H b:=λb hb=>bE.of_mem (λhm=>by obtain⟨p,hp,e⟩:=bU.1 hm;exact hb p hp e);refine⟨h.ms.toG hS hw hN (λb off e=>?_),h.ns.toG hS hw hN (λb off e=>?_),h.mn,h.nn⟩
 ·by_cases h0:x.g.ms=[]
  ·exact .inl h0
  exact .inr (λ_=>⟨λh=>h,key b (λp hp e2=>((ho p hp).1 _ e).resolve_left h0 e2.symm)⟩)
 by_cases h0:x.g.ns=[]
 ·exact .inl h0
 exact .inr (λ_=>⟨λh=>h,key b (λp hp e2=>((ho p hp).2 _ e).resolve_left h0 e2.symm)⟩)
theorem nco(hZ:FxOk Z)(cs:List Cm)(hcs:cs.length<=1000)(dD:∀c∈cs,cI c)(N:Nat)(la:Option Addr)(lc:Nat)(w:World)(hN:N<=w.heap.size)(aJ:ah dY 73 N w la cs)(hC:∀c∈cs,dJ N w c)(ia:Option Addr)(ic:Nat)(ta:Option Addr)(tc:Nat)(hp:mj Z cs N w ⟨ia,ic,ta,tc⟩)(fo:Fo)(hg:Glb w):Calls prog 51 #[.agg (xq Z cs la lc ⟨ia,ic,ta,tc⟩),.agg (pg fo)] w (cu w (λq:Cd×Bool=>.tuple #[.agg (dF q.1),.bool q.2]) (λq w'=>(q.2=true/\BV Z cs fo=some (pf q.1)/\uN Z cs (g0 fo) q.1/\aL w'.heap.size w' q.1.x/\aW w.heap.size q.1.x)\/(q.2=false/\BV Z cs fo=none))):=by
 have eC:=hg.lt;have hpl:=Pr Z cs cs.length;have mr:((bB Z cs cs.length).map (·.1)).length=(bB Z cs cs.length).length:=fl ..;have xb:((bB Z cs cs.length).map (·.2)).length=(bB Z cs cs.length).length:=fl ..;have BP:=hp.ids;have BQ:=hp.at_;dsimp only at BP BQ;obtain⟨k,hk0⟩:∃k,mg ((bB Z cs cs.length).map (·.1)) (dk fo.first)=k:=⟨_,rfl⟩;refine enter (vs:=[_,_]) func51 rfl ntmps51 rfl ?_;refine B 2 ?_;refine yX ?_;intro b2 w2 aH aF dS cE cX;refine yX ?_;intro b3 w3 aC ay cS bV cL;refine Pw ?_;refine yW ?_;intro b4 dQ dV;refine B 6 ?_;refine rr (.slice ia ((bB Z cs cs.length).map (·.1)).length ic) (aa isAgg41 rfl A1 aH aF zL rfl) ?_;refine B 1 ?_;refine rr (.agg (dg fo.first)) (ag isAgg34 sizeOf34 rfl A0 aC ay zL (aV rfl)) ?_;refine call call100 rfl rfl rfl (λW hS=>by rw[<-hk0];exact BF ((bB Z cs cs.length).map (·.1)) zM N ia ic W (aS hN (hS.links w A2).size) (BP.up (ao _) (hS.same A2 hN zU zP)) fo.first) (v:=.int .i64 k) ?_;refine B 5 ?_;rcases n5o ((bB Z cs cs.length).map (·.1)) (dk fo.first)with hd1|⟨j,hd1,zJ⟩
 ·have hk:k= -1:=by rw[<-hk0];exact hd1
  refine B 2 ?_;refine DF ?_;refine B 5 ?_;refine rr (.agg (dF vW)) (aP (i:=0) rfl isAgg101 sizeOf101 rfl rfl) ?_;refine MR ?_;refine B 5 ?_;refine bH (.inl rfl) results51 (RS.wA (i:=0) rfl isAgg101 sizeOf101 rfl (aV rfl) (RS.t rfl RS.n)) λW hS=>⟨(vW,false),rfl,hS.base A2 zP,.inr ⟨rfl,?_⟩⟩;show BV Z cs fo=none;unfold BV X2;rw[hd1,if_pos zM];rfl
 have hk:k=(j:Int):=by rw[<-hk0];exact hd1
 refine KM ?_;refine B 6 ?_;obtain⟨q,hq⟩:=nk (bB Z cs cs.length) j (by have:=nE zJ;omega);obtain⟨i,c,MJ,tw,hc,XU⟩:=XM Z cs _ q (cC hq);have Tt:((bB Z cs cs.length).map (·.2))[j]? =some ((i:Nat):Int):=by rw[ra,hq,wI,MJ]
 have Dn:=nE Tt;have hcm:=cC hc;obtain⟨e,he⟩:∃e,lJ Z (g0 fo) c=e:=⟨_,rfl⟩;subst hk;obtain⟨ba,oa,csa,ta,fra,rfl,hba,BS,TL⟩:=BQ.get zM;obtain⟨bl,ol,csl,tl,frl,rfl,jH,uM,ml⟩:=aJ.get zM;have hk:mg ((bB Z cs cs.length).map (·.1)) (dk fo.first)=(j:Int):=hd1;refine ng (E':=[(0,_),(1,_),(2,_),(3,_),(4,_),(5,_),(6,_),(9,_),(10,_),(11,_),(12,_),(13,_),(14,_),(15,_)]) zR ?_;refine CJ.ntS 18 [12,13,14,16,17] [([],some _),([0],some (.int .i64 fo.id)),([1],some (.agg (aX (TS fo)))),([],some _),([3],some (.slice (some ⟨bl,ol,none⟩) cs.length lc)),([],some _),([5],some (.slice (some ⟨ba,oa,none⟩) ((bB Z cs cs.length).map (·.2)).length tc)),([],some _),([6,7],some _),([8],some (.int .i64 (i:Int))),([4,9],some _),([10],some (.agg (dY c))),([2,11],none),([12],none),([13],none),([13],some (.int .i64 e)),([],none),([14,16],none)] [[],[0],[0,1],[],[0,1,2,3]] (λcv L' H'=>match cv with| [none,none,none,none,none]=>L'=[w3,w2,w]/\H'=[(b4,.cells (dF vW) 101 (0,0))]| [none,none,none,some sJ,none]=>∃(b7:Nat),sJ=ptr b7 0/\L'=[w3,w2,w]/\H'=[(b7,.cells (aX kL) 57 (0,0)),(b4,.cells (dF vW) 101 (0,0))]/\w3.heap.size<=b7| [some v12,none,none,none,none]=>∃(Xn:Gv) (dK:World),v12= .tuple #[.agg (aX Xn),.int .i64 e]/\L'=[dK,w3,w2,w]/\H'=[(b4,.cells (dF vW) 101 (0,0))]/\Xn.g=tu Z (g0 fo) c/\aL dK.heap.size dK Xn/\mE b4 Xn/\aW w.heap.size Xn| [some v12,none,none,some sJ,none]=>∃(Xn:Gv) (dK:World) (b7:Nat),v12= .tuple #[.agg (aX Xn),.int .i64 e]/\sJ=ptr b7 0/\L'=[dK,w3,w2,w]/\H'=[(b7,.cells (aX kL) 57 (0,0)),(b4,.cells (dF vW) 101 (0,0))]/\Xn.g=tu Z (g0 fo) c/\aL dK.heap.size dK Xn/\mE b4 Xn/\aW w.heap.size Xn/\w3.heap.size<=b7/\mE b7 Xn| [some v12,some kM,none,none,none]=>∃(Xn:Gv) (dK:World),v12= .tuple #[.agg (aX Xn),.int .i64 e]/\kM= .tuple #[.agg (aX Xn),.int .i64 e]/\L'=[dK,w3,w2,w]/\H'=[(b4,.cells (dF vW) 101 (0,0))]/\Xn.g=tu Z (g0 fo) c/\aL dK.heap.size dK Xn/\mE b4 Xn/\aW w.heap.size Xn| [some v12,some kM,none,some sJ,none]=>∃(Xn:Gv) (dK:World) (b7:Nat),v12= .tuple #[.agg (aX Xn),.int .i64 e]/\kM= .tuple #[.agg (aX Xn),.int .i64 e]/\sJ=ptr b7 0/\L'=[dK,w3,w2,w]/\H'=[(b7,.cells (aX kL) 57 (0,0)),(b4,.cells (dF vW) 101 (0,0))]/\Xn.g=tu Z (g0 fo) c/\aL dK.heap.size dK Xn/\mE b4 Xn/\aW w.heap.size Xn/\w3.heap.size<=b7/\mE b7 Xn| [some v12,some kM,some oA,none,none]=>∃(Xn:Gv) (dK:World),v12= .tuple #[.agg (aX Xn),.int .i64 e]/\kM= .tuple #[.agg (aX Xn),.int .i64 e]/\oA= .agg (aX Xn)/\L'=[dK,w3,w2,w]/\H'=[(b4,.cells (dF vW) 101 (0,0))]/\Xn.g=tu Z (g0 fo) c/\aL dK.heap.size dK Xn/\mE b4 Xn/\aW w.heap.size Xn| [some v12,some kM,some oA,some sJ,none]=>∃(Xn:Gv) (dK:World) (b7:Nat),v12= .tuple #[.agg (aX Xn),.int .i64 e]/\kM= .tuple #[.agg (aX Xn),.int .i64 e]/\oA= .agg (aX Xn)/\sJ=ptr b7 0/\L'=[dK,w3,w2,w]/\H'=[(b7,.cells (aX kL) 57 (0,0)),(b4,.cells (dF vW) 101 (0,0))]/\Xn.g=tu Z (g0 fo) c/\aL dK.heap.size dK Xn/\mE b4 Xn/\aW w.heap.size Xn/\w3.heap.size<=b7/\mE b7 Xn| [some v12,some kM,some oA,some sJ,some v17]=>∃(Xn:Gv) (dK:World) (b7:Nat),v12= .tuple #[.agg (aX Xn),.int .i64 e]/\kM= .tuple #[.agg (aX Xn),.int .i64 e]/\oA= .agg (aX Xn)/\sJ=ptr b7 0/\v17= .tuple #[]/\L'=[dK,w3,w2,w]/\H'=[(b7,.cells (aX Xn) 57 (0,0)),(b4,.cells (dF vW) 101 (0,0))]/\Xn.g=tu Z (g0 fo) c/\aL dK.heap.size dK Xn/\mE b4 Xn/\aW w.heap.size Xn/\w3.heap.size<=b7/\mE b7 Xn|_=>False) zT ⟨rfl,rfl⟩ zT zT zT zT zT zT zT rfl (qc (by exact λcv L' H' _ _ hP=>X.val rfl rfl (ak underlying50 rfl sizeOf3 rfl) R2) (qc TT (qc (by exact λcv L' H' _ _ hP=>X.val rfl rfl (bS underlying57 zeroValue57 (bC.c sizeOf3 (bC.c sizeOf3 (bC.c sizeOf34 (bC.c sizeOf52 (bC.c sizeOf55 (bC.n)))))) rfl rfl) R2) (qc (by exact λcv L' H' _ _ hP=>X.val rfl rfl (ak underlying92 rfl sizeOf24 rfl) R2) (qc TT (qc (by exact λcv L' H' _ _ hP=>X.val rfl rfl (ak underlying92 rfl sizeOf44 rfl) R2) (qc TT (qc XQ (qc (by exact λcv L' H' _ _ hP=>X.val rfl rfl (cx underlying44 sizeOf3 rfl rfl zM zM) R2) (qc TT (qc (by exact λcv L' H' _ _ hP=>X.val rfl rfl (cx underlying24 sizeOf99 rfl rfl zM zM) R2) (qc TT (qk (qk (qk (qc (λcv L' H' hl hd hP=>by obtain⟨fN,iV,kp,uO,uP,rfl⟩:=eZ hl;(rcases fN with _|v12<;>rcases iV with _|kM<;>rcases kp with _|oA<;>rcases uO with _|sJ<;>rcases uP with _|v17<;>try exact False.elim hP);exact(absurd (show false=true from hd) zQ);exact(absurd (show false=true from hd) zQ);exact(absurd (show false=true from hd) zQ);exact(absurd (show false=true from hd) zQ);(obtain⟨Xn,dK,rfl,rfl,rfl,rfl,fk,gP,jq,jr⟩:=hP;exact X.val rfl rfl (gE rfl rfl) R2);(obtain⟨Xn,dK,b7,rfl,rfl,rfl,rfl,rfl,fk,gP,jq,jr,gg,oH⟩:=hP;exact X.val rfl rfl (gE rfl rfl) R2);(obtain⟨Xn,dK,rfl,rfl,rfl,rfl,rfl,fk,gP,jq,jr⟩:=hP;exact X.val rfl rfl (gE rfl rfl) R2);(obtain⟨Xn,dK,b7,rfl,rfl,rfl,rfl,rfl,rfl,fk,gP,jq,jr,gg,oH⟩:=hP;exact X.val rfl rfl (gE rfl rfl) R2);(obtain⟨Xn,dK,b7,rfl,rfl,rfl,rfl,rfl,rfl,rfl,fk,gP,jq,jr,gg,oH⟩:=hP;exact X.val rfl rfl (gE rfl rfl) R2)) (qk (qk (qn))))))))))))))))))) ?_ ?_
 ·refine TU rfl rfl rfl ?_ ?_
  ·intro cv L' H' hl hr hP F Q' hk;obtain⟨fN,iV,kp,uO,uP,rfl⟩:=eZ hl;rcases fN with _|v12<;>rcases iV with _|kM<;>rcases kp with _|oA<;>rcases uO with _|sJ<;>rcases uP with _|v17<;>try exact False.elim hP
   ·obtain⟨rfl,rfl⟩:=hP;refine zsf ?_;rintro W9 Xn dK lF vF ⟨fk,gP,D7⟩;try dsimp only at fk gP D7
    have sK:=lF.lt (b4,_) A0;try dsimp only at sK
    have BW:=(lF.links w A2).size;have jq:=aW.off D7 sK;have jr:aW w.heap.size Xn:=⟨λq e=>.inr (aS BW (D7.1 q e)),λq e=>.inr (aS BW (D7.2 q e))⟩;exact OJ.done (hk _ _ _ ⟨Xn,dK,rfl,rfl,rfl,fk,gP,jq,jr⟩)
   ·obtain⟨b7,rfl,rfl,rfl,gg⟩:=hP;refine zsf ?_;rintro W9 Xn dK lF vF ⟨fk,gP,D7⟩;try dsimp only at fk gP D7
    have sK:=lF.lt (b4,_) A1;try dsimp only at sK
    have TV:=lF.lt (b7,_) A0;try dsimp only at TV
    have BW:=(lF.links w A2).size;have jq:=aW.off D7 sK;have jr:aW w.heap.size Xn:=⟨λq e=>.inr (aS BW (D7.1 q e)),λq e=>.inr (aS BW (D7.2 q e))⟩;have oH:=aW.off D7 TV;exact OJ.done (hk _ _ _ ⟨Xn,dK,b7,rfl,rfl,rfl,rfl,fk,gP,jq,jr,gg,oH⟩)
   ·exact aA
   ·exact aA
   ·exact aA
   ·exact aA
   ·exact aA
   ·exact aA
   exact aA
  refine TU rfl rfl rfl ?_ ?_
  ·intro cv L' H' hl hr hP F Q' hk;obtain⟨fN,iV,kp,uO,uP,rfl⟩:=eZ hl;rcases fN with _|v12<;>rcases iV with _|kM<;>rcases kp with _|oA<;>rcases uO with _|sJ<;>rcases uP with _|v17<;>try exact False.elim hP
   ·exact aA
   ·exact aA
   ·obtain⟨Xn,dK,rfl,rfl,rfl,fk,gP,jq,jr⟩:=hP;refine B 1 ?_;exact OJ.done (hk _ _ _ ⟨Xn,dK,rfl,rfl,rfl,rfl,fk,gP,jq,jr⟩)
   ·obtain⟨Xn,dK,b7,rfl,rfl,rfl,rfl,fk,gP,jq,jr,gg,oH⟩:=hP;refine B 1 ?_;exact OJ.done (hk _ _ _ ⟨Xn,dK,b7,rfl,rfl,rfl,rfl,rfl,fk,gP,jq,jr,gg,oH⟩)
   ·exact aA
   ·exact aA
   ·exact aA
   ·exact aA
   exact aA
  refine TU rfl rfl rfl ?_ ?_
  ·intro cv L' H' hl hr hP F Q' hk;obtain⟨fN,iV,kp,uO,uP,rfl⟩:=eZ hl;rcases fN with _|v12<;>rcases iV with _|kM<;>rcases kp with _|oA<;>rcases uO with _|sJ<;>rcases uP with _|v17<;>try exact False.elim hP
   ·exact aA
   ·exact aA
   ·exact aA
   ·exact aA
   ·obtain⟨Xn,dK,rfl,rfl,rfl,rfl,fk,gP,jq,jr⟩:=hP;refine B 1 ?_;exact OJ.done (hk _ _ _ ⟨Xn,dK,rfl,rfl,rfl,rfl,rfl,fk,gP,jq,jr⟩)
   ·obtain⟨Xn,dK,b7,rfl,rfl,rfl,rfl,rfl,fk,gP,jq,jr,gg,oH⟩:=hP;refine B 1 ?_;exact OJ.done (hk _ _ _ ⟨Xn,dK,b7,rfl,rfl,rfl,rfl,rfl,rfl,fk,gP,jq,jr,gg,oH⟩)
   ·exact aA
   ·exact aA
   exact aA
  refine TU rfl rfl rfl ?_ ?_
  ·intro cv L' H' hl hr hP F Q' hk;obtain⟨fN,iV,kp,uO,uP,rfl⟩:=eZ hl;rcases fN with _|v12<;>rcases iV with _|kM<;>rcases kp with _|oA<;>rcases uO with _|sJ<;>rcases uP with _|v17<;>try exact False.elim hP
   ·obtain⟨rfl,rfl⟩:=hP;refine rj ?_;intro b7 ha ho;exact OJ.done (hk _ _ _ ⟨b7,rfl,rfl,rfl,(ha.mem w3 z1)⟩)
   ·exact aA
   ·obtain⟨Xn,dK,rfl,rfl,rfl,fk,gP,jq,jr⟩:=hP;refine rj ?_;intro b7 ha ho;have oH:mE b7 Xn:=gP.off (by have:=ha.not (w:=dK) A0;omega);exact OJ.done (hk _ _ _ ⟨Xn,dK,b7,rfl,rfl,rfl,rfl,fk,gP,jq,jr,(ha.mem w3 z1),oH⟩)
   ·exact aA
   ·obtain⟨Xn,dK,rfl,rfl,rfl,rfl,fk,gP,jq,jr⟩:=hP;refine rj ?_;intro b7 ha ho;have oH:mE b7 Xn:=gP.off (by have:=ha.not (w:=dK) A0;omega);exact OJ.done (hk _ _ _ ⟨Xn,dK,b7,rfl,rfl,rfl,rfl,rfl,fk,gP,jq,jr,(ha.mem w3 z1),oH⟩)
   ·exact aA
   ·obtain⟨Xn,dK,rfl,rfl,rfl,rfl,rfl,fk,gP,jq,jr⟩:=hP;refine rj ?_;intro b7 ha ho;have oH:mE b7 Xn:=gP.off (by have:=ha.not (w:=dK) A0;omega);exact OJ.done (hk _ _ _ ⟨Xn,dK,b7,rfl,rfl,rfl,rfl,rfl,rfl,fk,gP,jq,jr,(ha.mem w3 z1),oH⟩)
   ·exact aA
   exact aA
  refine TU rfl rfl rfl ?_ ?_
  ·intro cv L' H' hl hr hP F Q' hk;obtain⟨fN,iV,kp,uO,uP,rfl⟩:=eZ hl;rcases fN with _|v12<;>rcases iV with _|kM<;>rcases kp with _|oA<;>rcases uO with _|sJ<;>rcases uP with _|v17<;>try exact False.elim hP
   ·exact aA
   ·exact aA
   ·exact aA
   ·exact aA
   ·exact aA
   ·exact aA
   ·exact aA
   ·obtain⟨Xn,dK,b7,rfl,rfl,rfl,rfl,rfl,rfl,fk,gP,jq,jr,gg,oH⟩:=hP;refine Jm ?_;exact OJ.done (hk (.tuple #[]) _ _ ⟨Xn,dK,b7,rfl,rfl,rfl,rfl,rfl,rfl,rfl,fk,gP,jq,jr,gg,oH⟩)
   exact aA
  exact nnS
 intro cv L' H' hl hr hP;obtain⟨fN,iV,kp,uO,uP,rfl⟩:=eZ hl;rcases fN with _|v12<;>rcases iV with _|kM<;>rcases kp with _|oA<;>rcases uO with _|sJ<;>rcases uP with _|v17
 ·exact aA
 ·exact aA
 ·exact aA
 ·exact aA
 ·exact aA
 ·exact aA
 ·exact aA
 ·exact aA
 ·exact aA
 ·exact aA
 ·exact aA
 ·exact aA
 ·exact aA
 ·exact aA
 ·exact aA
 ·exact aA
 ·exact aA
 ·exact aA
 ·exact aA
 ·exact aA
 ·exact aA
 ·exact aA
 ·exact aA
 ·exact aA
 ·exact aA
 ·exact aA
 ·exact aA
 ·exact aA
 ·exact aA
 ·exact aA
 ·exact aA
 obtain⟨Xn,dK,b7,rfl,rfl,rfl,rfl,rfl,rfl,rfl,fk,gP,jq,jr,gg,oH⟩:=hP;refine B 4 ?_;refine ng (E':=[(0,_),(1,_),(2,_),(3,_),(4,_),(5,_),(6,_),(7,_),(8,_),(9,_),(10,_),(11,_),(12,_),(13,_),(14,_),(15,_),(17,_),(18,_),(19,_),(20,_),(21,_),(22,_),(23,_),(24,_),(25,_),(26,_),(27,_),(28,_),(29,_),(30,_),(31,_),(32,_)]) zR ?_;refine Th 21 [20] [([],some _),([0],some (.slice (some ⟨ba,oa,none⟩) ((bB Z cs cs.length).map (·.2)).length tc)),([],some _),([1,2],some _),([3],some (.int .i64 (i:Int))),([],some _),([5],some (.slice (some ⟨bl,ol,none⟩) cs.length lc)),([],some _),([7],some (.slice (some ⟨ba,oa,none⟩) ((bB Z cs cs.length).map (·.2)).length tc)),([],some _),([8,9],some _),([10],some (.int .i64 (i:Int))),([6,11],some _),([12],some (.agg (dY c))),([],some _),([14],some (.agg (dg fo.first))),([],some (.agg (aX Xn))),([4,13,15,16],some (.agg (dF (⟨(i:Int),c,fo.first,0,Xn⟩:Cd)))),([],some _),([18],some _),([17],none)] (λcv L' H'=>match cv with| []=>L'=[dK,w3,w2,w]/\H'=[(b7,.cells (aX Xn) 57 (0,0)),(b4,.cells (dF vW) 101 (0,0))]| [v1]=>v1= .tuple #[]/\L'=[dK,w3,w2,w]/\H'=[(b7,.cells (aX Xn) 57 (0,0)),(b4,.cells (dF (⟨(i:Int),c,fo.first,0,Xn⟩:Cd)) 101 (0,0))]|_=>False) zT ⟨rfl,rfl⟩ zT zT zT zT zT zT zT (pc (by exact λcv L' H' hd hP=>X.val rfl rfl (ak underlying92 rfl sizeOf44 rfl) R2) (pc D8 (pc zW (pc (by exact λcv L' H' hd hP=>X.val rfl rfl (cx underlying44 sizeOf3 rfl rfl zM zM) R2) (pc D8 (pc (by exact λcv L' H' hd hP=>X.val rfl rfl (ak underlying92 rfl sizeOf24 rfl) R2) (pc D8 (pc (by exact λcv L' H' hd hP=>X.val rfl rfl (ak underlying92 rfl sizeOf44 rfl) R2) (pc D8 (pc zW (pc (by exact λcv L' H' hd hP=>X.val rfl rfl (cx underlying44 sizeOf3 rfl rfl zM zM) R2) (pc D8 (pc (by exact λcv L' H' hd hP=>X.val rfl rfl (cx underlying24 sizeOf99 rfl rfl zM zM) R2) (pc D8 (pc (by exact λcv L' H' hd hP=>X.val rfl rfl (ak underlying50 rfl sizeOf34 rfl) R2) (pc D8 (pc D8 (pc zvc (pc zW (pc (by exact λcv L' H' hd hP=>X.val rfl rfl (dH rfl rfl) R2) (pk (pn)))))))))))))))))))))) ?_ ?_
 ·refine ss rfl rfl ?_ ?_
  ·intro cv L' H' hl hP F Q' hk;obtain rfl:=ja hl;obtain⟨rfl,rfl⟩:=hP;refine zVh ?_;exact OJ.done (hk (.tuple #[]) _ _ ⟨rfl,rfl,rfl⟩)
  exact X3
 intro cv L' H' hl hP;obtain⟨v1,rfl⟩:=dd hl;obtain⟨rfl,rfl,rfl⟩:=hP;refine B 4 ?_;have hfo:X2 Z cs fo=some i:=by unfold X2;rw[hk,if_neg zM,wE,hq,wI,MJ,wE]
 have hcN:GW cs i=c:=by unfold GW;rw[hc];rfl
 refine bH (.inl rfl) results51 (RS.wA (i:=1) rfl isAgg101 sizeOf101 rfl (aV rfl) (RS.t rfl RS.n)) λW hS=>⟨((⟨(i:Int),c,fo.first,0,Xn⟩:Cd),decide (e=0)),rfl,hS.base A3 zP,?_⟩;by_cases Pz:e=0
 ·refine .inl ⟨decide_eq_true Pz,by unfold BV;rw[hfo,Option.bind_some,hcN,he,if_pos Pz];rfl,⟨Int.natCast_nonneg _,hc,fk.trans (if_pos (by rw[he];exact Pz)),by rw[<-Pz];exact he⟩,gP.toO hS A0 (ao _) (λp hp=>?_),jr⟩;simp only[dz,fj,cP,fG,or_false]at hp;rcases hp with rfl|rfl
  ·exact oH
  exact jq
 exact .inr ⟨decide_eq_false Pz,by unfold BV;rw[hfo,Option.bind_some,hcN,he,if_neg Pz]⟩
def D9 (cs:List Cm) (e:Int):Nat:=(cs.filter λc=>decide (e<c.epoch)).length
theorem MT(cs:List Cm)(e:Int):D9 cs e<=cs.length:=Ad _ _
theorem nJk(e:Int):∀cs:List Cm,D9 cs (e+1)<=D9 cs e
 | []=>ao _
 |c::cs=>by
  have ih:=nJk e cs;unfold D9 at ih ⊢;by_cases h1:e+1<c.epoch
  ·rw[MU AI,MU jZ];simp only[dW];omega
  rw[TW AI];by_cases h2:e<c.epoch
  ·rw[MU Ja];simp only[dW];omega
  rw[TW Ja];exact ih
theorem n7l{e:Int}{c:Cm}(he:c.epoch=e+1):∀{cs:List Cm},c∈cs->D9 cs (e+1)<D9 cs e
 | [],h=>by cases h
 |b::cs,h=>by
  rcases cP.1 h with rfl|h
  ·have ih:=nJk e cs;unfold D9 at ih ⊢;rw[TW jZ,MU jZ];simp only[dW];omega
  have ih:=n7l he h;unfold D9 at ih ⊢;by_cases h1:e+1<b.epoch
  ·rw[MU AI,MU jZ];simp only[dW];omega
  rw[TW AI];by_cases h2:e<b.epoch
  ·rw[MU Ja];simp only[dW];omega
  rw[TW Ja];exact ih
theorem BX{c:Cm}{cs:List Cm}(h:c∈cs):1+D9 cs c.epoch<=cs.length:=by
 have h1:=n7l (e:=c.epoch-1) (c:=c) zM h;rw[show c.epoch-1+1=c.epoch by omega]at h1;have:=MT cs (c.epoch-1);omega
theorem nPo{c:Cm}(h:lJ Z g c=0):c.epoch=g.epoch+1:=by
 unfold lJ at h;split at h
 ·split at h
  ·split at h
   ·rename_i _ _ hf;unfold kA at hf;simp only[gb,decide_eq_true_eq]at hf;exact hf.1.2
   cases h
  cases h
 cases h
def Jz (Z:Fx) (cs:List Cm):Gp->List (Nat×Gp)->Prop
 |g,[]=>D6 Z cs g=none
 |g,p::l=>D6 Z cs g=some p.1/\p.2=Bv Z g (GW cs p.1)/\Jz Z cs p.2 l
def jU (Z:Fx) (cs:List Cm) (fo:Fo):List (Nat×Gp)->Prop
 | []=>BV Z cs fo=none
 |p::l=>BV Z cs fo=some p.1/\p.2=Bv Z (g0 fo) (GW cs p.1)/\Jz Z cs p.2 l
theorem Jz.uniq{Z:Fx}{cs:List Cm}:∀{l l':List (Nat×Gp)} {g:Gp},Jz Z cs g l->Jz Z cs g l'->l=l'
 | [],[],_,_,_=>rfl
 | [],p::l,_,h,h'=>by have:=h.symm.trans h'.1;cases this
 |p::l,[],_,h,h'=>by have:=h'.symm.trans h.1;cases this
 |p::l,q::l',g,h,h'=>by
  have e1:p.1=q.1:=Option.some.inj (h.1.symm.trans h'.1);have e2:p.2=q.2:=by rw[h.2.1,h'.2.1,e1]
  have e3:=Jz.uniq h.2.2 (e2▸h'.2.2);rw[show p=q from Prod.ext e1 e2,e3]
variable {fo:Fo}
theorem jU.uniq{cs:List Cm}:∀{l l':List (Nat×Gp)},jU Z cs fo l->jU Z cs fo l'->l=l'
 | [],[],_,_=>rfl
 | [],p::l,h,h'=>by have:=h.symm.trans h'.1;cases this
 |p::l,[],h,h'=>by have:=h'.symm.trans h.1;cases this
 |p::l,q::l',h,h'=>by
  have e1:p.1=q.1:=Option.some.inj (h.1.symm.trans h'.1);have e2:p.2=q.2:=by rw[h.2.1,h'.2.1,e1]
  have e3:=Jz.uniq h.2.2 (e2▸h'.2.2);rw[show p=q from Prod.ext e1 e2,e3]
def ll (d:Cd):Nat×Gp:=(pf d,d.x.g)
def dp (Y:aB) (x:Gv):Prop:=(∀q,x.ma=some q->x.g.ms=[]\/¬Y q.block)/\(∀q,x.na=some q->x.g.ns=[]\/¬Y q.block)
theorem aW.out{K:Nat}{Y:aB}{x:Gv}(h:aW K x)(hy:∀k,Y k->k<K):dp Y x:=⟨λq e=>(h.1 q e).imp id (λh h2=>by have:=hy _ h2;omega),λq e=>(h.2 q e).imp id (λh h2=>by have:=hy _ h2;omega)⟩
theorem aW.offb{K:Nat}{x:Gv}(h:aW K x)(hb:b<K):mE b x:=⟨λq e=>(h.1 q e).imp id (λh=>by omega),λq e=>(h.2 q e).imp id (λh=>by omega)⟩
theorem dp.up{w:World}{Y Y':aB}{x:Gv}(h:dp Y x)(ha:aL N w x)(hy:∀k,Y' k->Y k\/N<=k):dp Y' x:=
 ⟨λq e=>by
  rcases h.1 q e with h1|h1
  ·exact .inl h1
  rcases ha.ms.ltq q e with h2|h2
  ·exact .inl h2
  exact .inr (λh3=>(hy _ h3).elim h1 (λh4=>by omega)),
  λq e=>by
   rcases h.2 q e with h1|h1
   ·exact .inl h1
   rcases ha.ns.ltq q e with h2|h2
   ·exact .inl h2
   exact .inr (λh3=>(hy _ h3).elim h1 (λh4=>by omega))⟩
theorem aL.toZ{w:World}{x:Gv}(h:aL N w x)(hS:St G L H W)(hw:w∈L)(hN:N<=w.heap.size)(hx:dp G.X x)(ho:∀p∈H,mE p.1 x):aL W.heap.size W x:=by
 have key:∀b,(∀p∈H,p.1≠b)->bE H b:=λb hb=>bE.of_mem (λhm=>by obtain⟨p,hp,e⟩:=bU.1 hm;exact hb p hp e);refine⟨h.ms.toG hS hw hN (λb off e=>?_),h.ns.toG hS hw hN (λb off e=>?_),h.mn,h.nn⟩
 ·by_cases h0:x.g.ms=[]
  ·exact .inl h0
  exact .inr (λ_=>⟨(hx.1 _ e).resolve_left h0,key b (λp hp e2=>((ho p hp).1 _ e).resolve_left h0 e2.symm)⟩)
 by_cases h0:x.g.ns=[]
 ·exact .inl h0
 exact .inr (λ_=>⟨(hx.2 _ e).resolve_left h0,key b (λp hp e2=>((ho p hp).2 _ e).resolve_left h0 e2.symm)⟩)
structure GY (Z:Fx) (cs:List Cm) (fo:Fo) (M:aB) (pre:List Cd) (d:Cd) (V:aB) (wk:World) (b4:Nat):Prop where
 next:∀l,Jz Z cs d.x.g l->jU Z cs fo (pre.map ll++ll d::l)
 lies:aL wk.heap.size wk d.x
 out:dp (λk=>M k\/V k) d.x
 off:mE b4 d.x
 mu:pre.length+1+D9 cs d.x.g.epoch<=cs.length
theorem uN.nx{cs:List Cm}{d:Cd}(h:uN Z cs g d):d.x.g=Bv Z g (GW cs (pf d)):=by rw[h.x];unfold GW;rw[h.at_];rfl
theorem GY.first{cs:List Cm}{d:Cd}{w9:World}{b4 K:Nat}(h:BV Z cs fo=some (pf d))(hd:uN Z cs (g0 fo) d)(ha:aL w9.heap.size w9 d.x)(hn:aW K d.x)(hM:∀k,M k->k<K)(hb:w9.heap.size<=b4):GY Z cs fo M [] d (λ_=>False) w9 b4 where
 next:=λl hl=>⟨h,hd.nx,hl⟩
 lies:=ha
 out:=hn.out (λk hk=>hk.elim (hM k) (λh=>h.elim))
 off:=ha.off hb
 mu:=by
  have h1:=BX (cC hd.at_);rw[hd.x];simp only[lC,Bv];omega
theorem GY.step{cs:List Cm}{V V2:aB}{pre:List Cd}{d d2:Cd}{wk w9:World}{b4 b5 K:Nat}(hc:GY Z cs fo M pre d V wk b4)(h:D6 Z cs d.x.g=some (pf d2))(hd:uN Z cs d.x.g d2)(ha:aL w9.heap.size w9 d2.x)(hn:aW K d2.x)(hM:∀k,M k->k<K)(hV:∀k,V2 k->k<K)(hb:b5<K):GY Z cs fo M (pre++[d]) d2 V2 w9 b5 where
 next:=λl hl=>by
  have h1:=hc.next (ll d2::l) ⟨h,hd.nx,hl⟩;rw[gj,i7];exact h1
 lies:=ha
 out:=hn.out (λk hk=>hk.elim (hM k) (hV k))
 off:=hn.offb hb
 mu:=by
  have h1:=hc.mu;have h2:=nPo hd.ok;have h3:=n7l h2 (cC hd.at_);rw[hd.x];simp only[cF,dW,lC,Bv,h2];omega
theorem GY.stop{cs:List Cm}{V:aB}{pre:List Cd}{d:Cd}{wk:World}{b4:Nat}(hc:GY Z cs fo M pre d V wk b4)(h:D6 Z cs d.x.g=none):jU Z cs fo ((pre++[d]).map ll):=by
 rw[gj];exact hc.next [] h
def BY (NQ NR NX:Nat):aB:=λk=>k<NX/\(k<NQ\/NR<=k)
structure JA (Z:Fx) (cs:List Cm) (la ia ta:Option Addr) (ic tc NQ NR NX:Nat) (W:World):Prop where
 q:NQ<=NX
 x:NX<=W.heap.size
 n3:5<=NQ
 sl:ah dY 73 NQ W la cs
 C:∀c∈cs,dJ NQ W c
 p:mj Z cs NX W ⟨ia,ic,ta,tc⟩
 pi:∀q,ia=some q->NR<=q.block
 pt:∀q,ta=some q->NR<=q.block
 g:Glb W
theorem JA.args{cs:List Cm}{la ia ta:Option Addr}{ic tc NQ NR NX:Nat}(h:JA Z cs la ia ta ic tc NQ NR NX W)(hs:W.heap.size<=W'.heap.size)(same:∀k,BY NQ NR NX k->W'.heap[k]? =W.heap[k]?):ah dY 73 W'.heap.size W' la cs/\(∀c∈cs,dJ W'.heap.size W' c)/\mj Z cs W'.heap.size W' ⟨ia,ic,ta,tc⟩/\Glb W':=by
 have hq:=h.q;have hx:=h.x;have h3:=h.n3
 have s2:∀k,k<NQ->W'.heap[k]? =W.heap[k]? :=λk hk=>same k ⟨by omega,.inl hk⟩;refine⟨h.sl.up zM s2,λc hc=>(h.C c hc).up zM s2,⟨h.p.ids.blk λb off e hb=>⟨by omega,same b ⟨hb,.inr (h.pi _ e)⟩⟩,h.p.at_.blk λb off e hb=>⟨by omega,same b ⟨hb,.inr (h.pt _ e)⟩⟩⟩,?_⟩;obtain⟨⟨t,fr,h0⟩,t2,qj,h2⟩:=h.g;exact⟨⟨t,fr,(s2 _ zM).trans h0⟩,t2,qj,(s2 _ zM).trans h2⟩
theorem JA.same{cs:List Cm}{la ia ta:Option Addr}{ic tc NQ NR NX:Nat}{V:aB}{hM:∀k,M k->k<W.heap.size/\¬(λ_=>False) k/\¬BY NQ NR NX k}{hI:eA (λk=>(k<W.heap.size/\¬(λ_=>False) k)\/V k) I}(h:JA Z cs la ia ta ic tc NQ NR NX W)(hS:St (cj hM V hI) L H W')(hw:W∈L)(hV:∀k,V k->W.heap.size<=k)(ho:Over W.heap.size H):∀k,BY NQ NR NX k->W'.heap[k]? =W.heap[k]? :=λk hk=>by
 have hx:=h.x;have VB:=hk.1
 refine(hS.links W hw).block k zM ?_;rintro((h1|h1)|h1)
 ·exact(hM k h1).2.2 hk
 ·have:=hV k h1;omega
 obtain⟨p,hp,rfl⟩:=bU.1 h1;have:=ho.mem p hp;omega
theorem nIo{c:Code}{Q:aG}(hi:H[i]? =some (b,o))(hb:ad L' b)(hs:∀w∈L',w∈L)(k:∀W,St G L H W->CJ C c Q E D G (W::L') (H.eraseIdx i)):CJ C c Q E D G L H:=
 λa W hN hD hF hS=>k W hS a W hN hD hF ((hS.lessL hs).dropAt hi hb).snap
theorem nXo{α β:Type}{TX:α->List Value}{AP:β->List Value}{A A':ae}(hA:A'.map (·.1)=A.map (·.1)){r1 r2:Rw}{b1 c1 t1 b2 c2 t2 n:Nat}{VT Mg:List Value}{xs1 ys1:List α}{xs2 ys2:List β}(ue:r1.isAt b1\/n<=b1)(wB:r2.isAt b2\/n<=b2):∀p∈(A'++((Rw.row b1 c1 VT).hp TX t1 ys1++((Rw.row b2 c2 Mg).hp AP t2 ys2++[])):ae),p.1∈(A++(r1.hp TX t1 xs1++(r2.hp AP t2 xs2++[])):ae).map (·.1)\/n<=p.1:=by
 intro p hp;rw[gj,gj,dE];rw[dE]at hp;rcases cO.1 hp with hp|hp
 ·exact .inl (cO.2 (.inl (hA▸bU.2 ⟨p,hp,rfl⟩)))
 rcases cO.1 hp with hp|hp
 ·simp only[Rw.hp,cP,fG,or_false]at hp;subst hp;exact ue.imp (λh=>cO.2 (.inr (cO.2 (.inl (Rw.mem_at h))))) id
 simp only[Rw.hp,cP,fG,or_false]at hp;subst hp;exact wB.imp (λh=>cO.2 (.inr (cO.2 (.inr (Rw.mem_at h))))) id
theorem TY{fn:Func}{Dk t4 t5 T4 T5 b4 b5 TZ ct5:Nat}{cs5:Array Value}{fr5:Nat×Nat}{v4 v5:Value}{e:Exit}(he:e= .ret\/e= .normal)(hr:fn.results=#[.cell t4 T4,.cell t5 T5])(KV:fq C.P T4 false)(DC:fq C.P T5 false)(T0:look E t4=some (ptr b4 0))(hx5:look E t5=some (ptr b5 0))(hm:(Dk,.deferred (some []))∈H)(dm:(b4,.cells Jq TZ Tw)∈H)(eg:(b5,.cells cs5 ct5 fr5)∈H)(n4:b4≠Dk)(n5:b5≠Dk)(T3:Jq[0]? =some v4)(S3:cs5[0]? =some v5)(h:∀W H',St G L H' W->H'.map (·.1)=H.map (·.1)->(∀p∈H,p.1≠Dk->p∈H')->R (.returned (.tuple #[v4,v5])) W):PJ C (bodyPostM (FW none) 0 C.P fn R) e E [er Dk] G L H:=
 uk he hm λa W H' hF hS bY bO=>by
  obtain⟨i,hi⟩:=jL.1 (bY _ dm n4);obtain⟨j,hj⟩:=jL.1 (bY _ eg n5);exact⟨_,(RS.w (C:=C) hi KV T0 T3 (RS.w (C:=C) hj DC hx5 S3 RS.n)).res hr hF hS,h W H' hS bO bY⟩
theorem JA.mk2{cs:List Cm}{la ia ta:Option Addr}{ic tc NR:Nat}{w wp wn W2:World}(hN:N<=w.heap.size)(aJ:ah dY 73 N w la cs)(hC:∀c∈cs,dJ N w c)(hg:Glb w)(hp:mj Z cs wp.heap.size wp ⟨ia,ic,ta,tc⟩)(hi:∀q,ia=some q->NR<=q.block)(ht:∀q,ta=some q->NR<=q.block)(hS:St Gh.no L H W)(hw:w∈L)(BZ:wp∈L)(hwn:wn∈L)(hB:Below W.heap.size W W2)(h1:w.heap.size<=wn.heap.size)(h2:wp.heap.size<=wn.heap.size)(ho:∀p∈H,w.heap.size<=p.1/\p.1<NR):JA Z cs la ia ta ic tc w.heap.size NR wn.heap.size W2:=by
 have l1:=(hS.links w hw).size;have l2:=(hS.links wp BZ).size;have l3:=(hS.links wn hwn).size;have s1:∀k,k<w.heap.size->W2.heap[k]? =w.heap[k]? :=λk hk=>(hB.block k zM).trans ((hS.links w hw).block k hk (λhx=>hx.elim zX (λh=>by obtain⟨p,hp,rfl⟩:=bU.1 h;have:=ho p hp;omega)));have s2:∀k,k<wp.heap.size->NR<=k->W2.heap[k]? =wp.heap[k]? :=λk hk X4=>(hB.block k zM).trans ((hS.links wp BZ).block k hk (λhx=>hx.elim zX (λh=>by obtain⟨p,hp,rfl⟩:=bU.1 h;have:=ho p hp;omega)));refine⟨h1,aS l3 hB.size,hg.lt,aJ.up hN (λk hk=>s1 k zM),λc hc=>(hC c hc).up hN (λk hk=>s1 k zM),⟨hp.ids.blk λb off e hb=>⟨by omega,s2 b hb (hi _ e)⟩,hp.at_.blk λb off e hb=>⟨by omega,s2 b hb (ht _ e)⟩⟩,hi,ht,?_⟩;have h3:=hg.lt;obtain⟨⟨t,fr,h0⟩,t2,qj,h2⟩:=hg;exact⟨⟨t,fr,(s1 _ zM).trans h0⟩,t2,qj,(s1 _ zM).trans h2⟩
theorem nho(Z:Fx)(cs:List Cm)(la:Option Addr)(lc:Nat)(ia:Option Addr)(ic:Nat)(ta:Option Addr)(tc:Nat)(fo:Fo)(w:World):Calls prog 23 #[.agg (xq Z cs la lc ⟨ia,ic,ta,tc⟩),.agg (pg fo)] w (cu w (λq:Nat×Nat=>.func (.func 50) #[] #[ptr q.1 0,ptr q.2 0]) (λq w1=>w.heap.size<=q.1/\w.heap.size<=q.2/\w1.heap[q.1]? =some (.cells (xq Z cs la lc ⟨ia,ic,ta,tc⟩) 92 (0,0))/\w1.heap[q.2]? =some (.cells (pg fo) 50 (0,0)))):=by
 refine enter (vs:=[_,_]) func23 rfl ntmps23 rfl ?_;refine B 2 ?_;refine yX ?_;intro b2 w2 aH aF dS cE cX;refine yX ?_;intro b3 w3 aC ay cS bV cL;refine B 10 ?_;refine jG (b2,b3) results23 rfl A2 rfl ?_;exact λW hS=>⟨by have:=cE.1;omega,by have:=bV.2.1;omega,hS.old A1 aH aF trivial,hS.old A0 aC ay trivial⟩
structure Pl where
 time:Int
 dev:Int
 fol:Int
 par:Int
 nm:ByteArray
def plA (p:Pl):Array Value:=#[.int .i64 p.time,.int .i64 p.dev,.int .i64 p.fol,.int .i64 p.par,.string p.nm]
def ij (p:Pl):List Value:=[.int .i64 p.time,.int .i64 p.dev,.int .i64 p.fol,.int .i64 p.par,.string p.nm]
theorem nG(p:Pl):(ij p).length=5:=rfl
theorem X5(p:Pl):∀u∈ij p,u.oneCell'=true:=by intro u hu;simp[ij]at hu;rcases hu with rfl|rfl|rfl|rfl|rfl<;>rfl
instance:Inhabited Pl:=⟨⟨0,0,0,0,.empty⟩⟩
theorem GZ:prog.info? 135=some Tryz.t135:=by kernel_rfl
def iW (p:Pl):Prop:=(1<=p.time/\p.time<=1099511627776)/\(0<=p.dev/\p.dev<=511)/\(0<=p.fol/\p.fol<=15)/\(-1<=p.par/\p.par<=15)/\(1<=(p.nm.size:Int)/\(p.nm.size:Int)<=64)
instance (p:Pl):Decidable (iW p):=by unfold iW;infer_instance
theorem nql(n lo hi:Int)(w:World):Calls prog 122 #[.int .i64 n,.int .i64 lo,.int .i64 hi] w (av w (.bool (decide (lo<=n/\n<=hi)))):=by
 refine enter (vs:=[_,_,_]) func122 rfl ntmps122 rfl ?_;refine B 11 ?_;refine nh (t:=10) rfl (λaj=>?_) (λaj=>?_)
 ·exact zZk
 exact zZk
theorem T6{n lo hi:Int}(h:lo<=n/\n<=hi)(w:World):Calls prog 122 #[.int .i64 n,.int .i64 lo,.int .i64 hi] w (av w (.bool true)):=by have:=nql n lo hi w;rwa[decide_eq_true h]at this
theorem T7{n lo hi:Int}(h:¬(lo<=n/\n<=hi))(w:World):Calls prog 122 #[.int .i64 n,.int .i64 lo,.int .i64 hi] w (av w (.bool false)):=by have:=nql n lo hi w;rwa[decide_eq_false h]at this
theorem nom(p:Pl)(w:World):Calls prog 90 #[.agg (plA p)] w (av w (.int .i64 (if iW p then 0 else 270))):=by
 refine enter (vs:=[_]) func90 rfl ntmps90 rfl ?_;refine B 2 ?_;refine yX ?_;intro b1 w1 aR aY gA eK iH;refine B 10 ?_;by_cases h1:1<=p.time/\p.time<=1099511627776
 ·by_cases h2:0<=p.dev/\p.dev<=511
  ·by_cases h3:0<=p.fol/\p.fol<=15
   ·by_cases h4: -1<=p.par/\p.par<=15
    ·by_cases h5:1<=(p.nm.size:Int)/\(p.nm.size:Int)<=64
     ·refine zhi ?_;refine nH (v:=.bool true) (f:=122) (cap:=[]) rfl call122 rfl rfl rfl (λW hS=>T6 h5 W) ?_;refine B 13 ?_;exact PA
     refine zhi ?_;refine nH (v:=.bool false) (f:=122) (cap:=[]) rfl call122 rfl rfl rfl (λW hS=>T7 h5 W) ?_;refine B 12 ?_;exact PA
    refine B 4 ?_;refine X6 ?_;refine B 5 ?_;refine zdg ?_;refine B 6 ?_;refine zOg ?_;refine B 6 ?_;refine nH (v:=.bool false) (f:=122) (cap:=[]) rfl call122 rfl rfl rfl (λW hS=>T7 h4 W) ?_;refine B 20 ?_;exact PA
   refine B 4 ?_;refine X6 ?_;refine B 5 ?_;refine zdg ?_;refine B 6 ?_;refine nH (v:=.bool false) (f:=122) (cap:=[]) rfl call122 rfl rfl rfl (λW hS=>T7 h3 W) ?_;refine B 27 ?_;exact PA
  refine B 4 ?_;refine X6 ?_;refine B 5 ?_;refine nH (v:=.bool false) (f:=122) (cap:=[]) rfl call122 rfl rfl rfl (λW hS=>T7 h2 W) ?_;refine B 34 ?_;exact PA
 refine B 4 ?_;refine nH (v:=.bool false) (f:=122) (cap:=[]) rfl call122 rfl rfl rfl (λW hS=>T7 h1 W) ?_;refine B 40 ?_;exact PA
theorem MV(p:Pl)(w:World):Calls prog 89 #[.agg (plA p)] w (av w (.bool (!decide (iW p)))):=by
 refine enter (vs:=[_]) func89 rfl ntmps89 rfl ?_;refine B 2 ?_;refine yX ?_;intro b1 w1 aR aY gA eK iH;refine B 5 ?_;refine rv rfl rfl rfl (af isAgg135 sizeOf135 rfl A0 aR aY trivial rfl) ?_;refine call call90 rfl rfl rfl (λW hS=>nom p W) ?_;refine B 5 ?_;refine ax results89 rfl A1 ?_;exact vb (by by_cases h:iW p<;>simp[h])
theorem nWg(p:Pl->Bool)(f:Nat)(cap:List Value)(az:dR prog f)(xs:List Pl)(cb:xs.length<=1000000)(N:Nat)(a:Option Addr)(cp:Nat)(w:World)(hN:N<=w.heap.size)(aJ:ah plA 5 N w a xs)(hp:∀(j:Nat) (x:Pl),xs[j]? =some x->∀W,Below w.heap.size w W->Calls prog f (.agg (plA x)::cap).toArray W (av W (.bool (p x)))):Calls prog 121 #[.slice a xs.length cp,.func (.func f) #[] cap.toArray] w (cu w (λi:Int=>.int .i64 i) (λi _=>cR p xs i)):=by
 refine enter (vs:=[_,_]) func121 rfl ntmps121 rfl ?_;refine I4 ?_;rintro j ⟨hj,dO⟩;refine B 6 ?_;refine aK ?_ ?_
 ·intro aj;refine B 11 ?_;obtain⟨bo,oo,cs0,to,fp,rfl,ft,hcs,ar⟩:=aJ.get zM;obtain⟨x,hx⟩:=nk xs j zM;refine B 5 ?_;refine rq (.agg (plA x)) (ag isAgg135 sizeOf135 rfl A0 hcs zX trivial (ni ar hx rfl)) (va (np ar hx rfl)) ?_;refine I5 ?_;refine aK ?_ ?_
  ·intro aN;refine B 12 ?_;refine jG (j:Int) results121 rfl A0 rfl ?_;exact I6
  exact F8
 intro aj;refine B 11 ?_;refine jG (-1:Int) results121 rfl A0 rfl ?_;exact F9
theorem nzk(p:Pl->Bool)(f:Nat)(cap:List Value)(az:dR prog f)(xs:List Pl)(cb:xs.length<=100000)(b cp:Nat)(sp:List Value)(w:World)(hb:w.heap[b]? =some (cD ij 135 xs sp))(bT:(Rw.row b cp sp).Fit 5 xs)(hp:∀(j:Nat) (x:Pl),xs[j]? =some x->∀W,aI (· =b) w W->b<W.heap.size->Calls prog f (.agg (plA x)::cap).toArray W (av W (.bool (p x)))):Calls prog 87 #[.slice (some ⟨b,0,none⟩) xs.length cp,.func (.func f) #[] cap.toArray] w (λe w'=>∃bK,e= .returned ((λr=>r.val (xs.filter (λx=> !p x)).length) (Rw.row b cp bK))/\aI (· =b) w w'/\(Rw.row b cp bK).Fit 5 (xs.filter (λx=> !p x))/\w'.heap[b]? =some (cD ij 135 (xs.filter (λx=> !p x)) bK)):=by
 have vH:=bT.1;have da:=bT.2;have jH:=(aM.1 hb).1;refine nN (Gh.lent (· =b)) [(b,cD ij 135 xs sp)] (vs:=[_,_]) func87 rfl ntmps87 rfl (y6 hb) ?_;refine B 9 ?_;refine nu (α:=Int) (v:=λi:Int=>.int .i64 i) (Φ:=λ_ i _=>cR p xs i) call121 rfl rfl rfl (λW hS=>?_) ?_
 ·have pb:=hS.own (b,_) A0;have lf:ah plA 5 W.heap.size W (some ⟨b,0,none⟩) xs:=by
   obtain⟨a9,c9,e9,h9⟩:=(Rw.row b cp sp).sl (enc:=ij) (t:=135) (N:=W.heap.size) (w:=W) nG bT pb (ao _);exact zIk
  exact nWg p f cap az xs zM W.heap.size (some ⟨b,0,none⟩) cp W (ao _) lf (λj x hx W2 hB=>hp j x hx W2 (nWk ((hS.links w A0).mono (λk _ hk=>by rcases hk with hk|hk;(exact hk);(simp only[eE,iD,dz,fj,cP,fG,or_false]at hk;first|exact hk|(rcases hk with hk|hk;(exfalso;omega);exact hk)))) hB) zte)
 intro Wi i wi sj sk hi;have hbi:=sj.lt (b,_) A0;have hzi:=sk.size;refine B 5 ?_;rcases hi with⟨rfl,ie⟩|⟨k,x0,rfl,iP,Bf,fm⟩
 ·refine B 2 ?_;refine Pn ?_;exact bH (.inl rfl) results87 (RS.t rfl RS.n) λW hS=>⟨sp,by rw[Gq ie];rfl,hS.baseX A1 DQ,by rw[Gq ie];exact bT,by rw[Gq ie];exact hS.own _ A0⟩
 refine B 2 ?_;refine Qg ?_;refine B 7 ?_;have lD:=nE iP;refine B 7 ?_;refine CJ.loop (α:=(Nat×List Pl)×Nat) (λp9=>[(0,.slice (some ⟨b,0,none⟩) xs.length cp),(1,.func (.func f) #[] cap.toArray),(5,.int .i64 (p9.1.1:Int)),(6,.int .i64 (p9.2:Int))]) (λp9=>[(b,cD ij 135 p9.1.2 sp)]) (λp9=>[w]) (λp9=>Gh.lent (· =b)) (λp9=>p9.1.1<p9.2/\p9.2<=xs.length/\p9.1.2.length=xs.length/\p9.1.2.take p9.1.1=(xs.take p9.2).filter (λx=> !p x)/\p9.1.2.drop p9.2=xs.drop p9.2) (λp9=>xs.length-p9.2) ((k,xs),k+1) ⟨by dsimp only;omega,by dsimp only;omega,rfl,by dsimp only;rw[S5 iP,if_pos Bf,nRg fm,dE],rfl⟩ zR rfl rfl z1 ?_;rintro⟨⟨i2,cur⟩,j⟩ ⟨xf,lR,lG,DZ,Jj⟩;dsimp only at xf lR lG DZ Jj ⊢;refine B 9 ?_;refine aK ?_ ?_
 ·intro aj;refine B 5 ?_;obtain⟨x,hx⟩:=nk xs j zM;obtain⟨Jk,Gr⟩:=n5h Jj hx;refine B 4 ?_;refine rq (.agg (plA x)) (de (i:=0) rfl isAgg135 sizeOf135 rfl (Ji nG zM)) (va (Jh (sp:=sp) nG Jk)) ?_;refine MW ?_;refine yW ?_;intro b7 gg ow;refine JB ?_;refine B 6 ?_;refine z5e ?_;refine B 3 ?_;refine aK ?_ ?_
  ·intro aN;refine B 6 ?_;refine Bg (enc:=ij) (m:=5) (i:=1) (j:=i2) (z:=x) rfl nG X5 sizeOf135 rfl rfl rfl z1 zM rfl rfl ?_;exact zvj
  exact zEj
 intro aj;refine B 6 ?_;have S7:j=xs.length:=by omega
 have ts:cur.take i2=(xs.filter (λx=> !p x)):=by rw[DZ,S7,IS]
 refine B 3 ?_;refine rq (.slice (some ⟨b,if cp=i2 then 0 else 0+i2*5,none⟩) (cur.drop i2).length (cp-i2)) (il (l:=i2) (h:=xs.length) underlying32 sizeOf135 rfl ⟨_,_,rfl,rfl⟩ rfl zM zM rfl) (by rw[Az,lG]) ?_;refine OJ.reH (H':=[(b,cD ij 135 (cur.take i2++cur.drop i2) sp)]) (by rw[Dy]) ?_;refine Bh (i:=0) rfl nG underlying32 zeroValue135 rfl (n5g rfl _) rfl rfl zyd ?_;intro Mg Bi;refine B 6 ?_;refine rq (.slice (some ⟨b,0,none⟩) (cur.take i2).length cp) (gq (h:=i2) underlying32 sizeOf135 rfl ⟨_,_,rfl,rfl⟩ zM) (by rw[kj,Nat.min_eq_left zM]) ?_;refine B 4 ?_;exact bH (.inl rfl) results87 (RS.t rfl RS.n) λW hS=>⟨Mg,by rw[<-ts];rfl,hS.baseX A0 DQ,by rw[<-ts];exact⟨by rw[kj];omega,by rw[Bi,Az,kj,da,Nat.min_eq_left zM,lG,<-lI];congr 1;omega⟩,by rw[<-ts];exact hS.own _ A0⟩
theorem MX:lQ prog 32 135 5:=⟨underlying32,Tryz.t135,.agg #[.int .i64 0,.int .i64 0,.int .i64 0,.int .i64 0,.string .empty],GZ,rfl,rfl,rfl,by decide⟩
theorem nFl(n c:Nat)(w:World):Calls prog 88 #[.slice none n c] w (nC w ij 5 135 ([]:List Pl) id):=by
 refine enter (vs:=[_]) func88 rfl ntmps88 rfl ?_;refine B 9 ?_;refine rr (.bool true) (mC underlying32 rfl rfl) ?_;refine B 10 ?_;exact nU (H0:=[]) (H1:=[]) (r:=.nil) (.inl rfl) results88 (RS.t rfl RS.n) A0 trivial rfl rfl True.intro rfl
theorem nxk(xs:List Pl)(cb:xs.length<=100000)(N:Nat)(q:Addr)(cp:Nat)(w:World)(hN:N<=w.heap.size)(aJ:ah plA 5 N w (some q) xs):Calls prog 88 #[.slice (some q) xs.length cp] w (nC w ij 5 135 xs id):=by
 refine enter (vs:=[_]) func88 rfl ntmps88 rfl ?_;refine B 9 ?_;refine rr (.bool false) (qI underlying32 rfl rfl) ?_;refine B 7 ?_;refine k9 underlying32 sizeOf135 zeroValue135 rfl rfl rfl rfl rfl rfl rfl ?_;refine yW ?_;intro b5 gQ gR;refine B 1 ?_;refine S4 (xs:=([]:List Pl)) (zs:=xs) (enc:=ij) (m:=5) (H0:=[]) (H1:=[]) (sp:=[]) (by rfl) MX nG rfl rfl rfl rfl (dt.sl nG X5 underlying32 A0 aJ (λb hb=>⟨λh=>h,by simp only[bE,and_true];omega⟩)) ⟨ao _,rfl⟩ (.inr zZ) jZ ?_;intro b7 DR Mf oy gk;have sy:w.heap.size<=b7:=by rcases oy with h|h;(omega);exact h.not A0
 rw[dX]at gk ⊢;refine B 4 ?_;exact nU (H0:=[]) (H1:=[]) (r:=.row b7 DR Mf) (.inl rfl) results88 (RS.t rfl RS.n) A0 Xt rfl gk sy (by rfl)
theorem B0(xs:List Pl)(cb:xs.length<=100000)(N:Nat)(a:Option Addr)(cp:Nat)(w:World)(hN:N<=w.heap.size)(aJ:ah plA 5 N w a xs):Calls prog 88 #[.slice a xs.length cp] w (nC w ij 5 135 xs id):=by
 cases a with
 |none=>
  have h0:xs=[]:=by rcases aJ with h|⟨b,off,cs,t,fr,h,_⟩;(exact h);cases h
  subst h0;exact nFl 0 cp w
 |some q=>exact nxk xs cb N q cp w hN aJ
def PB (l:List Int):Int:=(l.find? (λx=>decide (x≠0))).getD 0
theorem MY{l:List Int}{x:Int}(h:∀i y,i<j->l[i]? =some y->y=0)(hx:l[j]? =some x)(hn:¬x=0):x=PB l:=by
 unfold PB;rw[show l.find? (λx=>decide (x≠0))=some x by
  rw[List.find?_eq_some_iff_getElem];obtain⟨hj,T8⟩:=gD.1 hx;refine⟨by simpa using hn,j,hj,T8,λi hi=>?_⟩;have:=h i l[i] hi (gV zM);simp[this]]
 rfl
theorem nqn{l:List Int}(h:∀i y,i<j->l[i]? =some y->y=0)(hj:l.length<=j):0=PB l:=by
 unfold PB;rw[show l.find? (λx=>decide (x≠0))=none by
  rw[List.find?_eq_none];intro x hx;obtain⟨i,hi,rfl⟩:=List.mem_iff_getElem.1 hx;have:=h i l[i] zM (gV hi);simp[this]]
 rfl
def plZ (x y:Pl):List Int:=[cB x.time y.time,cB x.dev y.dev,cB x.fol y.fol,cB x.par y.par,Go.Lib.compareBytes x.nm.data.toList y.nm.data.toList]
def PC (x y:Pl):Int:=PB (plZ x y)
theorem G0(a b:ByteArray)(w:World):Calls prog 126 #[.string a,.string b] w (av w (.int .i64 (Go.Lib.compareBytes a.data.toList b.data.toList))):=by
 refine(Go.Proofs.Any.strings_Compare Go.Proofs.Tryz.layStr a b w).mono ?_;rintro e w' ⟨rfl,rfl⟩;exact⟨rfl,Below.refl _ _⟩
theorem MZ(zs:List Int)(hz:zs.length<=100)(N:Nat)(a:Option Addr)(cp:Nat)(w:World)(hN:N<=w.heap.size)(aJ:ah encI 1 N w a zs):Calls prog 124 #[.slice a zs.length cp] w (av w (.int .i64 (PB zs))):=by
 refine enter (vs:=[_]) func124 rfl ntmps124 rfl ?_;refine B 19 ?_;refine CJ.loop (α:=Nat) (λj=>[(3,.int .i64 0),(6,.slice a zs.length cp),(7,.int .i64 (zs.length:Int)),(8,.int .i64 (j:Int))]) (λj=>[]) (λj=>[w]) (λj=>Gh.no) (λj=>j<=zs.length/\∀i y,i<j->zs[i]? =some y->y=0) (λj=>zs.length-j) 0 ⟨cZ _,λi y hi=>absurd hi zM⟩ zR rfl rfl z1 ?_;rintro j ⟨hj,dO⟩;refine B 6 ?_;refine aK ?_ ?_
 ·intro aj;refine B 5 ?_;obtain⟨bo,oo,cs0,to,fp,rfl,ft,hcs,ar⟩:=aJ.get zM;obtain⟨x,hx⟩:=nk zs j zM;refine B 2 ?_;refine rv rfl rfl rfl (aa (v:=.int .i64 x) isAgg3 rfl A0 hcs zX trivial (nS ar hx rfl zQ)) ?_;refine B 10 ?_;refine aK ?_ ?_
  ·intro aN;exact zuk
  intro aN;refine B 7 ?_;refine PJ.again (j+1) ⟨by omega,λi y hi hy=>by by_cases e:i=j;(rw[e,hx]at hy;cases hy;omega);exact dO i y zM hy⟩ zM zR rfl rfl z1
 intro aj;exact zuk
abbrev lL:=List (Int×Pl)
def jt (p:Pl):Value:=.agg (plA p)
def G3:Pl:=⟨0,0,0,0,.empty⟩
def lp (kv:lL):Prop:=∃r:Int->Nat,∀k p,aE kv k=some p->0<=p.par->r p.par<r k
def B1:Nat->lL->Int->List Int
 |0,_,_=>[]
 |n+1,kv,f=>match aE kv f with
  |some p=>if 0<=p.par then p.par::B1 n kv p.par else[]
  |none=>[]
def dA (kv:lL) (f:Int):List Int:=B1 (kv.length+1) kv f
variable {kv:lL} {p:Pl}
theorem nOo{k:Int}(h:aE kv k=some p):(k,p)∈kv:=by
 unfold aE at h;obtain⟨q,hq,rfl⟩:=My.1 h;exact cC (T9 hq)
theorem nvn{kv:lL}{r:Int->Nat}(hr:∀k p,aE kv k=some p->0<=p.par->r p.par<r k):∀n f,(B1 n kv f).length<=kv.countP (λq=>decide (r q.1<=r f))
 |0,f=>cZ _
 |n+1,f=>by
  unfold B1;cases h:aE kv f with
  |none=>exact cZ _
  |some p=>
   dsimp only;split
   ·rename_i hp;have ih:=nvn hr n p.par;have hlt:=hr f p h hp;have hm:=nOo h;have:kv.countP (λq=>decide (r q.1<=r p.par))<kv.countP (λq=>decide (r q.1<=r f)):=by
     have gen:∀l:lL,(f,p)∈l->l.countP (λq=>decide (r q.1<=r p.par))<l.countP (λq=>decide (r q.1<=r f)):=by
      intro l;induction l with
      |nil=>intro h;cases h
      |cons q l ih=>
       intro hq;have Ua:l.countP (λq=>decide (r q.1<=r p.par))<=l.countP (λq=>decide (r q.1<=r f)):=List.countP_mono_left λq _ h=>by simp at h ⊢;omega
       simp only[List.countP_cons];rcases cP.1 hq with e|hq
       ·subst e;simp;rw[if_neg zM];omega
       have:=ih hq;have:(if decide (r q.1<=r p.par)=true then 1 else 0)<=(if decide (r q.1<=r f)=true then 1 else 0):=by
        by_cases h1:r q.1<=r p.par
        ·rw[if_pos AI,if_pos jZ];exact ao _
        rw[if_neg AI];exact cZ _
       omega
     exact gen kv hm
    simp only[dW];omega
   exact cZ _
theorem nnn{kv:lL}:∀n f,(B1 n kv f).length<n->B1 (n+1) kv f=B1 n kv f
 |0,f,h=>absurd h zM
 |n+1,f,h=>by
  rw[B1]at h ⊢;conv=>rhs;rw[B1]
  cases e:aE kv f with
  |none=>rfl
  |some p=>
   rw[e]at h;dsimp only at h ⊢;split
   ·rename_i hp;rw[if_pos hp]at h;rw[nnn n p.par rB]
   rfl
theorem Ea(h:lp kv)(f:Int):(dA kv f).length<=kv.length:=by
 obtain⟨r,hr⟩:=h;exact aS (nvn hr _ f) List.countP_le_length
theorem nyl(h:lp kv)(f:Int):dA kv f=match aE kv f with|some p=>if 0<=p.par then p.par::dA kv p.par else[]|none=>[]:=by
 have h1:=Ea h f;have h2:B1 (kv.length+2) kv f=dA kv f:=nnn _ _ (by unfold dA at h1;omega);rw[<-h2,B1];rfl
theorem PD(h:lp kv){f:Int}(hp:aE kv f=some p)(h0:0<=p.par):dA kv f=p.par::dA kv p.par:=by rw[nyl h f,hp];exact if_pos h0
theorem nOn(h:lp kv){f:Int}(hp:aE kv f=some p)(h0:¬0<=p.par):dA kv f=[]:=by rw[nyl h f,hp];exact if_neg h0
theorem nml(h:lp kv){f:Int}(hp:aE kv f=none):dA kv f=[]:=by rw[nyl h f,hp]
theorem lp.rank(h:lp kv):∀k p,aE kv k=some p->0<=p.par->(dA kv p.par).length<(dA kv k).length:=by
 intro k p hp h0;rw[PD h hp h0,dW];omega
def ju (kv:lL) (f o:Int):Bool:=(dA kv f).any (λx=>decide (x=o))||decide (f=o)
theorem nKg(mp:Option Nat)(f:Int)(w:World):Calls prog 95 #[.map mp,.int .i64 f] w (cu w (λq:Nat×Nat=>.func (.func 128) #[] #[ptr q.1 0,ptr q.2 0]) (λq w1=>w.heap.size<=q.1/\w.heap.size<=q.2/\q.1≠q.2/\w1.heap[q.1]? =some (.cells #[.map mp] 132 (0,0))/\w1.heap[q.2]? =some (.cells #[.int .i64 f] 3 (0,0)))):=by
 refine enter (vs:=[_,_]) func95 rfl ntmps95 rfl ?_;refine B 2 ?_;refine yX ?_;intro b2 w2 aH aF dS cE cX;refine yX ?_;intro b3 w3 aC ay cS bV cL;refine B 10 ?_;refine jG (b2,b3) results95 rfl A2 rfl ?_;exact λW hS=>⟨cE.1,by omega,by omega,hS.old A1 aH aF trivial,hS.old A0 aC ay trivial⟩
theorem nhf(hF:lp kv)(f:Int)(mb bx by_:Nat)(m:Mp)(hm:m.Ok kv)(W:World)(aR:W.heap[bx]? =some (.cells #[.map (some mb)] 132 (0,0)))(aH:W.heap[by_]? =some (.cells #[.int .i64 f] 3 (0,0)))(iN:W.heap[mb]? =some (m.obj jt kv)):vm prog 128 [ptr bx 0,ptr by_ 0] ai (xW (dA kv f)) (Is (dA kv f)) (λ_=>False) (λk=>k=bx\/k=by_\/k=mb) W:=by
 intro l M I X0 hM hI hX hy h0;have aY:¬(cj hM (λ_=>False) (hI [] _)).X bx:=by rintro(h|h);exact(hM _ h).2.2 (.inl rfl);exact h.elim
 have aF:¬(cj hM (λ_=>False) (hI [] _)).X by_:=by rintro(h|h);exact(hM _ h).2.2 (.inr (.inl rfl));exact h.elim
 have wV:¬(cj hM (λ_=>False) (hI [] _)).X mb:=by rintro(h|h);exact(hM _ h).2.2 (.inr (.inr rfl));exact h.elim
 have uq:=(aM.1 iN).1;have ady:=(aM.1 aR).1;have y7:=(aM.1 aH).1;refine nN (cj hM (λ_=>False) (hI [] _)) [] (vs:=[_,_,_]) func128 rfl ntmps128 rfl (IP hM (hI [] _) h0 z1 I0 z1) ?_;refine B 4 ?_;refine rq (.tuple #[.agg (plA ((aE kv f).getD G3)),.bool (aE kv f).isSome]) (hJ (ev:=jt) (k:=f) underlying132 underlying3 zeroValue135 hm (bL.old A0 iN wV trivial) rfl rfl) (by cases aE kv f<;>rfl) ?_;refine rr (.tuple #[.agg (plA ((aE kv f).getD G3)),.bool (aE kv f).isSome]) (fW rfl) ?_;refine B 2 ?_;refine MW ?_;refine yW ?_;intro b4 dQ dV;refine JB ?_;refine B 4 ?_;refine CJ.loop (α:=((List Int×Int)×aB)×Nat) (λp=>[(0,yv l),(1,ptr bx 0),(2,ptr by_ 0),(4,ptr p.2 0),(5,.bool (aE kv p.1.1.2).isSome)]) (λp=>[(p.2,.cells (plA ((aE kv p.1.1.2).getD G3)) 135 (0,0))]) (λp=>[W]) (λp=>cj hM p.1.2 (hI p.1.1.1 p.1.2)) (λp=>p.1.1.1++dA kv p.1.1.2=dA kv f/\(∀k,p.1.2 k->W.heap.size<=k)/\W.heap.size<=p.2) (λp=>(dA kv p.1.1.2).length) ((([],f),λ_=>False),b4) ⟨rfl,λ_ h=>h.elim,by omega⟩ zR rfl rfl z1 ?_;rintro⟨⟨⟨pre,g⟩,V⟩,bo⟩ ⟨td,hV,dm⟩;dsimp only at td hV dm ⊢;have aY:¬(cj hM V (hI pre V)).X bx:=by rintro(h|h);exact(hM _ h).2.2 (.inl rfl);have:=hV _ h;omega
 have aF:¬(cj hM V (hI pre V)).X by_:=by rintro(h|h);exact(hM _ h).2.2 (.inr (.inl rfl));have:=hV _ h;omega
 have wV:¬(cj hM V (hI pre V)).X mb:=by rintro(h|h);exact(hM _ h).2.2 (.inr (.inr rfl));have:=hV _ h;omega
 refine B 2 ?_;rcases hq:aE kv g with _|q
 ·dsimp only[Option.getD,Option.isSome];refine B 1 ?_;refine rr (.bool false) (fW rfl) ?_;refine B 12 ?_;exact zBk
 dsimp only[Option.getD,Option.isSome];by_cases Qf:0<=q.par
 ·refine B 1 ?_;refine rr (.bool true) (fW rfl) ?_;refine B 3 ?_;refine z2h ?_;refine B 13 ?_;refine FA (λV=>hI (pre++[q.par]) V) hX hV z1 rfl rfl rfl rfl (λW1 rW kI=>hy (pre) (q.par) V W1 ⟨dA kv q.par,by rw[<-td,PD hF hq Qf,i7];rfl⟩ rW kI) ?_ ?_
  ·intro V hV;refine B 14 ?_;refine MW ?_;refine yW ?_;intro b4 dQ dV;refine JB ?_;refine B 2 ?_;have aY:¬(cj hM V (hI (pre++[q.par]) V)).X bx:=by rintro(h|h);exact(hM _ h).2.2 (.inl rfl);have:=hV _ h;omega
   have aF:¬(cj hM V (hI (pre++[q.par]) V)).X by_:=by rintro(h|h);exact(hM _ h).2.2 (.inr (.inl rfl));have:=hV _ h;omega
   have wV:¬(cj hM V (hI (pre++[q.par]) V)).X mb:=by rintro(h|h);exact(hM _ h).2.2 (.inr (.inr rfl));have:=hV _ h;omega
   refine B 4 ?_;refine rq (.tuple #[.agg (plA ((aE kv q.par).getD G3)),.bool (aE kv q.par).isSome]) (hJ (ev:=jt) (k:=q.par) underlying132 underlying3 zeroValue135 hm (bL.old A0 iN wV jN) rfl rfl) (by cases aE kv q.par<;>rfl) ?_;refine rr (.tuple #[.agg (plA ((aE kv q.par).getD G3)),.bool (aE kv q.par).isSome]) (fW rfl) ?_;refine B 2 ?_;refine JB ?_;refine B 2 ?_;refine PJ.dropAt (i:=1) rfl zZ ?_;refine PJ.again (((pre++[q.par],q.par),V),b4) ⟨by dsimp only;rw[<-td,PD hF hq Qf,i7];rfl,hV,by omega⟩ (by dsimp only;rw[PD hF hq Qf,dW];omega) zR rfl rfl z1
  intro V hV;refine B 9 ?_;exact FB (.inl rfl) results128 A0 hV zkc (λA hA=>.inr hA)
 refine B 1 ?_;refine rr (.bool true) (fW rfl) ?_;refine B 3 ?_;refine OZ ?_;refine B 8 ?_;exact zBk
theorem B2{fn:Func}{Dk t4 T4 b4 TZ:Nat}{v4:Value}{e:Exit}(he:e= .ret\/e= .normal)(hr:fn.results=#[.cell t4 T4])(KV:fq C.P T4 false)(T0:look E t4=some (ptr b4 0))(hm:(Dk,.deferred (some []))∈H)(dm:(b4,.cells Jq TZ Tw)∈H)(n4:b4≠Dk)(T3:Jq[0]? =some v4)(h:∀W H',St G L H' W->H'.map (·.1)=H.map (·.1)->R (.returned v4) W):PJ C (bodyPostM (FW none) 0 C.P fn R) e E [er Dk] G L H:=
 uk he hm λa W H' hF hS bY bO=>by
  obtain⟨i,hi⟩:=jL.1 (bY _ dm n4);exact⟨_,(RS.w (C:=C) hi KV T0 T3 RS.n).res hr hF hS,h W H' hS bO⟩
theorem CJ.st2{c:Code}{Q:aG}(h:∀W,St G L H W->CJ C c Q E D G L H):CJ C c Q E D G L H:=λa W hN hD hF hS=>h W hS a W hN hD hF hS
theorem G4{f o:Int}(h:o∈dA kv f):true=ju kv f o:=by unfold ju;rw[List.any_eq_true.2 ⟨o,h,by simp⟩];rfl
theorem M1{f o:Int}(h:∀y∈dA kv f,¬y=o):decide (f=o)=ju kv f o:=by
 unfold ju;rw[show(dA kv f).any (λx=>decide (x=o))=false by rw[List.any_eq_false];intro y hy;simpa using h y hy];rfl
theorem nCj(hF:lp kv)(mb:Nat)(m:Mp)(hm:m.Ok kv)(f:Int)(o:Int)(w:World)(iN:w.heap[mb]? =some (m.obj jt kv)):Calls prog 47 #[.map (some mb),.int .i64 f,.int .i64 o] w (cu w (λb:Bool=>.bool b) (λb _=>b=ju kv f o)):=by
 have uq:=(aM.1 iN).1;refine xK Gh.no [] (vs:=[_,_,_]) func47 rfl ntmps47 rfl (u7 w) ?_;refine B 2 ?_;refine yX ?_;intro b5 w5 eg eP mv gQ gR;refine aU zeroValue4 rfl rfl ?_;refine yW ?_;intro b6 gS lB;refine B 7 ?_;refine zRf ?_;rintro Wu q wn JC Ub ⟨eN,eQ,Uc,du,fu⟩;have hzu:=Ub.size;have Ud:=(aM.1 du).1;have Ue:=(aM.1 fu).1;have adz:=(JC.links w5 A0).size;have JD:=(JC.links w A1).size;have adA:=JC.lt (b6,_) A0;refine B 3 ?_;refine CJ.range2 (f:=128) (cap:=[ptr q.1 0,ptr q.2 0]) (α:=Int) (enc:=ai) (Pre:=xW (dA kv f)) (Fin:=Is (dA kv f)) (RO:=λk=>k=q.1\/k=q.2\/k=mb) (MI:=λ_=>False) rfl call128 (λW' W2 hS hB=>by have l1:=(hS.links wn A0).size;have l2:=(hS.links w A2).size;have l3:=hB.size;exact nhf hF f mb q.1 q.2 m hm W2 SJ SK (by rw[hB.block mb zM];exact hS.old A2 iN zX xX)) (λ_ _ _ hk=>hk.elim) (λW' hS k hk=>by have l1:=(hS.links wn A0).size;have l2:=(hS.links w A2).size;simp only[eE,iD,cP,fG,or_false];rcases hk with rfl|rfl|rfl<;>exact⟨by omega,by omega,λh=>h⟩) (λ_=>rfl) (λpre G' Hc=>G'=Gh.no/\(∀y∈pre,¬y=o)/\Hc=[(b6,.cells #[.bool false] 4 (0,0))]) (λc G' Hc=>c= .ret/\G'=Gh.no/\o∈dA kv f/\Hc=[(b6,.cells #[.bool true] 4 (0,0))]) ⟨rfl,by simp,rfl⟩ zQ ?_ ?_ ?_
 ·rintro pre x G' Hc l Dk rec W1 M V Wy jX ov dU ⟨rfl,bW,rfl⟩ dr fK Dh oL bj th;simp only[ad]at dr oL;have WH:=dU.subset (cO.2 (.inr A0));have eP:=bj.z (k:=b5) zM zX X7 zX;refine Ox ?_;refine B 8 ?_;refine aK ?_ ?_
  ·intro aj;refine B 2 ?_;refine OR ?_;refine B 4 ?_;refine n9c (G2:=Gh.no) (Hc2:=[(b6,.cells #[.bool true] 4 (0,0))]) (c:=.ret) bj fK ⟨λ_ h=>h,λ_ h=>.inl h,λ_ h=>.inl h,PE,PE⟩ (.inl ⟨rfl,rfl⟩) rfl ?_;exact⟨rfl,rfl,(by have Eb:x=o:=gO;rw[<-Eb];exact WH),rfl⟩
  intro aj;refine B 2 ?_;refine DM (G2:=Gh.no) (Hc2:=[(b6,.cells #[.bool false] 4 (0,0))]) bj fK ⟨λ_ h=>h,λ_ h=>.inl h,λ_ h=>.inl h,(λp hp=>.inl (bU.2 ⟨p,hp,rfl⟩)),(λp hp=>.inl (bU.2 ⟨p,hp,rfl⟩))⟩ (DN jX ov) ?_;exact⟨rfl,λy hy=>(cO.1 hy).elim (bW y) (λh=>by rw[qd.1 h];assumption),rfl⟩
 ·rintro im l Dk rec G' Hc rfl dr fK ⟨rfl,bW,rfl⟩;replace dr:=yb dr;refine O1 λWd pB=>?_;have kG:=Lc pB;refine B 7 ?_;refine OR ?_;refine B 3 ?_;refine B2 (b4:=b6) (.inl rfl) results47 isAgg4 rfl xL A0 (kG _ A0).1 rfl (λW H' hS bO=>⟨(decide (f=o)),rfl,?_,M1 bW⟩);exact zmk
 rintro l Dk rec c G' Hc dr fK ⟨rfl,rfl,hom,rfl⟩;replace dr:=yb dr;refine CJ.st2 λWd pB=>?_;have kG:=Lc pB;refine B 3 ?_;refine B2 (b4:=b6) (.inl rfl) results47 isAgg4 rfl xL A0 (kG _ A0).1 rfl (λW H' hS bO=>⟨true,rfl,?_,G4 hom⟩);exact zmk
theorem n4c(hF:lp kv)(mb:Nat)(m:Mp)(hm:m.Ok kv)(f:Int)(o:Int)(w:World)(iN:w.heap[mb]? =some (m.obj jt kv)):Calls prog 47 #[.map (some mb),.int .i64 f,.int .i64 o] w (av w (.bool (ju kv f o))):=by
 refine(nCj hF mb m hm f o w iN).mono ?_;rintro e w' ⟨b,rfl,hB,rfl⟩;exact⟨rfl,hB⟩
def oe (kv:lL) (f:Int):Int:=if f<0 then 0 else 1+((dA kv f).length:Int)
theorem nxd(hF:lp kv)(mb:Nat)(m:Mp)(hm:m.Ok kv)(f:Int)(lD:kv.length<=100000)(w:World)(iN:w.heap[mb]? =some (m.obj jt kv)):Calls prog 93 #[.map (some mb),.int .i64 f] w (av w (.int .i64 (oe kv f))):=by
 have uq:=(aM.1 iN).1;refine enter (vs:=[_,_]) func93 rfl ntmps93 rfl ?_;refine B 12 ?_;refine aK ?_ ?_
 ·intro aj;refine B 7 ?_;exact bH (.inl rfl) results93 (RS.t rfl RS.n) λW hS=>⟨congrArg (λn=>Ending.returned (Value.int .i64 n)) (if_pos zM).symm,hS.base A0 True.intro⟩
 intro aj;refine B 6 ?_;refine zRf ?_;rintro Wu q wn JC Ub ⟨eN,eQ,Uc,du,fu⟩;have hzu:=Ub.size;have Ud:=(aM.1 du).1;have Ue:=(aM.1 fu).1;have JD:=(JC.links w A0).size;refine RZ (enc:=ai) (m:=1) (t:=3) (Fin:=Is (dA kv f)) (v:=id) call118 rfl rfl rfl (λW hS=>by
  have l1:=(hS.links wn A0).size;have l2:=(hS.links w A1).size;exact WM (cap:=[ptr q.1 0,ptr q.2 0]) (Pre:=xW (dA kv f)) (Fin:=Is (dA kv f)) (RO:=λk=>k=q.1\/k=q.2\/k=mb) call128 W (λk hk=>by rcases hk with rfl|rfl|rfl<;>omega) (λp hp=>aS hp.length_le (aS (Ea hF f) lD)) (λW2 hB=>nhf hF f mb q.1 q.2 m hm W2 (by rw[hB.block q.1 zM];exact hS.old A0 du zX trivial) (by rw[hB.block q.2 zM];exact hS.old A0 fu zX trivial) (by rw[hB.block mb zM];exact hS.old A1 iN zX trivial))) ?_
 rintro xs r rfl bG al;have hal:=Ea hF f;obtain⟨a9,c9,e9⟩:∃a9 c9,Rw.val (dA kv f).length r= .slice a9 (dA kv f).length c9:=by
  cases r with
  |nil=>exact⟨none,0,by rw[show dA kv f=[]from al];rfl⟩
  |row b cap sp=>exact⟨_,_,rfl⟩
 refine rv rfl rfl rfl (iK underlying44 (congrArg some e9)) ?_;refine B 5 ?_;exact bH (.inl rfl) results93 (RS.t rfl RS.n) λW hS=>⟨congrArg (λn=>Ending.returned (Value.int .i64 n)) (if_neg zM).symm,hS.base A1 (by rw[dE];exact Rw.over (Rw.ge_of bG A1))⟩
def uQ (kv:lL):Prop:=(kv.map (·.1)).Nodup/\∀q∈kv,q.1=q.2.fol/\iW q.2
theorem nFh{β:Type}:∀{kv:List (Int×β)} {k:Int} {p:β},(kv.map (·.1)).Nodup->(k,p)∈kv->aE kv k=some p
 | [],_,_,_,h=>by cases h
 |q::kv,k,p,hn,h=>by
  rw[JE];simp only[eE,List.nodup_cons]at hn;rcases cP.1 h with rfl|h
  ·rw[if_pos rfl]
  rw[if_neg (λe=>hn.1 (by rw[e];exact bU.2 ⟨_,h,rfl⟩))];exact nFh hn.2 h
def gv (l:List Int):Int:=l.foldl max 0
theorem ndk(l:List Int)(x:Int):gv (l++[x])=max (gv l) x:=by unfold gv;rw[DP];rfl
theorem Uf:∀(l:List Int) (a:Int),a<=l.foldl max a/\(∀x∈l,x<=l.foldl max a)/\(l.foldl max a=a\/l.foldl max a∈l)
 | [],a=>⟨Int.le_refl _,(λx h=>by cases h),.inl rfl⟩
 |y::l,a=>by
  obtain⟨h1,h2,h3⟩:=Uf l (max a y);simp only[List.foldl_cons];refine⟨by omega,λx hx=>?_,?_⟩
  ·rcases cP.1 hx with rfl|hx
   ·omega
   exact h2 x hx
  rcases h3 with h3|h3
  ·rw[h3];by_cases h:a<=y
   ·right;rw[Int.max_eq_right h];exact .head _
   left;omega
  exact .inr (.tail _ h3)
theorem nYl(l:List Int):0<=gv l:=(Uf l 0).1
theorem B3{l l':List Int}(h:∀x,x∈l↔x∈l'):gv l=gv l':=by
 have a:=Uf l 0;have b:=Uf l' 0
 unfold gv;have h1:l.foldl max 0<=l'.foldl max 0:=by
  rcases a.2.2 with e|e
  ·rw[e];exact b.1
  exact b.2.1 _ ((h _).1 e)
 have h2:l'.foldl max 0<=l.foldl max 0:=by
  rcases b.2.2 with e|e
  ·rw[e];exact a.1
  exact a.2.1 _ ((h _).2 e)
 omega
theorem n6m{l:List Int}{b:Int}(hb:0<=b)(h:∀x∈l,x<=b):gv l<=b:=by
 rcases(Uf l 0).2.2 with e|e
 ·unfold gv;omega
 exact h _ e
def xv:Nat->lL->Int->Int
 |0,_,_=>0
 |n+1,kv,f=>gv ((List.range kv.length).map λj=>match kv[j]? with|some q=>if q.2.par=f then xv n kv q.2.fol else 0|none=>0)+1
def rl (kv:lL) (f:Int):Int:=xv (kv.length+1) kv f
def tB (kv:lL) (f:Int) (j:Nat):Int:=match kv[j]? with|some q=>if q.2.par=f then rl kv q.2.fol else 0|none=>0
theorem B4(kv:lL):∀n f,0<=xv n kv f/\xv n kv f<=(n:Int)
 |0,f=>by simp[xv]
 |n+1,f=>by
  unfold xv;have h0:=nYl ((List.range kv.length).map λj=>match kv[j]? with|some q=>if q.2.par=f then xv n kv q.2.fol else 0|none=>0);have h1:gv ((List.range kv.length).map λj=>match kv[j]? with|some q=>if q.2.par=f then xv n kv q.2.fol else 0|none=>0)<=(n:Int):=by
   refine n6m zM λx hx=>?_;obtain⟨j,_,rfl⟩:=bU.1 hx;split
   ·split
    ·exact(B4 kv n _).2
    omega
   omega
  omega
variable {q:Int×Pl}
theorem nlf(hF:lp kv)(hk:uQ kv)(hq:kv[j]? =some q){f:Int}(hp:q.2.par=f)(hf:0<=f):(dA kv q.2.fol).length=(dA kv f).length+1:=by
 have hm:=cC hq;have e:=(hk.2 q hm).1;have hg:aE kv q.2.fol=some q.2:=by rw[<-e];exact nFh hk.1 hm
 rw[PD hF hg zM,hp,dW]
theorem n5m{kv:lL}(hF:lp kv)(hk:uQ kv):∀n f,0<=f->kv.length<n+(dA kv f).length->xv (n+1) kv f=xv n kv f
 |0,f,hf,h=>absurd (Ea hF f) zM
 |n+1,f,hf,h=>by
  rw[xv];conv=>rhs;rw[xv]
  congr 2;apply List.map_congr_left;intro j _;cases hq:kv[j]? with
  |none=>rfl
  |some q=>
   dsimp only;split
   ·rename_i hp;have h1:=nlf hF hk hq hp hf;have h2:=(hk.2 q (cC hq)).2.2.2.1.1;exact n5m hF hk n _ h2 zM
   rfl
theorem M3(hF:lp kv)(hk:uQ kv)(f:Int)(hf:0<=f):rl kv f=gv ((List.range kv.length).map (tB kv f))+1:=by
 unfold rl;rw[xv];congr 2;apply List.map_congr_left;intro j _;unfold tB;cases hq:kv[j]? with
 |none=>rfl
 |some q=>
  dsimp only;split
  ·rename_i hp;have h1:=nlf hF hk hq hp hf;have h2:=(hk.2 q (cC hq)).2.2.2.1.1;exact(n5m hF hk kv.length _ h2 zM).symm
  rfl
theorem B5(kv:lL)(f:Int):0<=rl kv f/\rl kv f<=(kv.length:Int)+1:=by have:=B4 kv (kv.length+1) f;unfold rl;omega
theorem G5{f:Int}(hq:kv[j]? =some q)(hp:q.2.par=f)(js:List Nat):max (gv (js.map (tB kv f))) (rl kv q.2.fol)=gv ((js++[j]).map (tB kv f)):=by
 rw[gj,eE,iD,ndk];congr 1;unfold tB;rw[hq];exact(if_pos hp).symm
theorem M4{f:Int}(hq:kv[j]? =some q)(hp:¬q.2.par=f)(js:List Nat):gv (js.map (tB kv f))=gv ((js++[j]).map (tB kv f)):=by
 rw[gj,eE,iD,ndk];have:tB kv f j=0:=by unfold tB;rw[hq];exact if_neg hp
 rw[this];have:=nYl (js.map (tB kv f));omega
theorem M5(kv:lL)(f:Int)(js:List Nat):0<=gv (js.map (tB kv f))/\gv (js.map (tB kv f))<=(kv.length:Int)+1:=by
 refine⟨nYl _,n6m zM λx hx=>?_⟩;obtain⟨j,_,rfl⟩:=bU.1 hx;unfold tB;split
 ·split
  ·exact(B5 kv _).2
  omega
 omega
theorem G6(hF:lp kv)(hk:uQ kv){f:Int}(hf:0<=f)(hl:∀j∈js,j<kv.length)(bW:∀j,j<kv.length->j∈js):gv (js.map (tB kv f))+1=rl kv f:=by
 rw[M3 hF hk f hf];congr 1;apply B3;intro x;simp only[bU,pG];exact⟨λ⟨j,h,e⟩=>⟨j,hl j h,e⟩,λ⟨j,h,e⟩=>⟨j,bW j h,e⟩⟩
theorem B6(hF:lp kv)(hk:uQ kv)(lD:kv.length<=100000)(mb:Nat)(m:Mp)(hm:m.Ok kv)(b1 b2:Nat)(f:Int)(hf:0<=f)(w:World)(hw:(w.heap[b1]? =some (.cells #[.map (some mb)] 132 (0,0))/\w.heap[b2]? =some (.cells #[.func (.func 127) #[] #[ptr b1 0,ptr b2 0]] 183 (0,0))/\w.heap[mb]? =some (m.obj jt kv)))(ih:∀(g:Int) (W:World),0<=g->(dA kv g).length=(dA kv f).length+1->(W.heap[b1]? =some (.cells #[.map (some mb)] 132 (0,0))/\W.heap[b2]? =some (.cells #[.func (.func 127) #[] #[ptr b1 0,ptr b2 0]] 183 (0,0))/\W.heap[mb]? =some (m.obj jt kv))->Calls prog 127 #[.int .i64 g,ptr b1 0,ptr b2 0] W (av W (.int .i64 (rl kv g)))):Calls prog 127 #[.int .i64 f,ptr b1 0,ptr b2 0] w (av w (.int .i64 (rl kv f))):=by
 obtain⟨aR,aH,iN⟩:=hw;have aY:¬Gh.no.X b1:=λh=>h;have aF:¬Gh.no.X b2:=λh=>h;have ady:=(aM.1 aR).1;have y7:=(aM.1 aH).1;have uq:=(aM.1 iN).1;refine enter (vs:=[_,_,_]) func127 rfl ntmps127 rfl ?_;refine B 14 ?_;refine Lf (ev:=jt) underlying132 (bL.old A0 iN zX trivial) rfl rfl rfl ?_;intro rb mQ Lg;replace mQ:=yb mQ;refine B 3 ?_;refine CJ.loop (α:=List Nat) (λp=>[(0,.int .i64 f),(1,ptr b1 0),(2,ptr b2 0),(5,.int .i64 (gv (p.map (tB kv f)))),(9,ptr rb 0)]) (λp=>[(rb,m.it mb p)]) (λp=>[w]) (λp=>Gh.no) (λp=>p.Nodup/\(∀j∈p,j<kv.length)) (λp=>kv.length-p.length) [] ⟨List.nodup_nil,by simp⟩ zR rfl rfl z1 ?_;rintro js ⟨hnd,gB⟩;dsimp only at hnd gB ⊢;have Kg:=M5 kv f js;refine B 2 ?_;refine Ak (ev:=jt) (i:=0) rfl hm (bL.old A0 iN zX jN) gB rfl rfl rfl (λbW=>?_) (λjn pn jB lR=>?_)
 ·refine B 18 ?_;refine bJ (.inl rfl) results127 (RS.t rfl (RS.n)) A0 zS ?_;exact vi (G6 hF hk hf gB bW)
 refine B 10 ?_;refine rv rfl rfl rfl (ur (ev:=jt) (i:=0) rfl hm (bL.old A0 iN zX jN) jB rfl) ?_;refine rr (.agg (plA pn.2)) (gE rfl rfl) ?_;refine MW ?_;refine yW ?_;intro b7 gg ow;refine JB ?_;refine B 10 ?_;refine aK ?_ ?_
 ·intro aj;refine B 2 ?_;refine rr (.func (.func 127) #[] #[ptr b1 0,ptr b2 0]) (aa isAgg183 rfl A0 aH aF zL rfl) ?_;refine B 2 ?_;refine nH (v:=.int .i64 (rl kv pn.2.fol)) (f:=127) (cap:=[ptr b1 0,ptr b2 0]) rfl call127 rfl rfl rfl (λW hS=>ih pn.2.fol W (hk.2 pn (cC jB)).2.2.2.1.1 (nlf hF hk jB gO hf) ⟨hS.old A0 aR zX jN,hS.old A0 aH zX jN,hS.old A0 iN zX jN⟩) ?_;refine rq (.int .i64 (gv ((js++[jn]).map (tB kv f)))) (za rfl rfl) (vi (G5 jB gO js)) ?_;refine B 3 ?_;refine mx ?_;refine PJ.again (js++[jn]) ⟨(xY hnd gB jB lR).1,(xY hnd gB jB lR).2.1⟩ RY zR rfl rfl z1
 intro aj;refine B 2 ?_;refine mx ?_;refine PJ.again (js++[jn]) ⟨(xY hnd gB jB lR).1,(xY hnd gB jB lR).2.1⟩ RY ⟨rfl,rfl,rfl,congrArg (λz=>some (Value.int .i64 z)) (M4 jB gO js),rfl,trivial⟩ rfl rfl z1
theorem sL{kv:lL}(hF:lp kv)(hk:uQ kv)(lD:kv.length<=100000)(mb:Nat)(m:Mp)(hm:m.Ok kv)(b1 b2:Nat):∀(n:Nat) (f:Int) (w:World),0<=f->kv.length<n+(dA kv f).length->(w.heap[b1]? =some (.cells #[.map (some mb)] 132 (0,0))/\w.heap[b2]? =some (.cells #[.func (.func 127) #[] #[ptr b1 0,ptr b2 0]] 183 (0,0))/\w.heap[mb]? =some (m.obj jt kv))->Calls prog 127 #[.int .i64 f,ptr b1 0,ptr b2 0] w (av w (.int .i64 (rl kv f)))
 |0,f,w,hf,hn,_=>absurd (Ea hF f) zM
 |n+1,f,w,hf,hn,hw=>B6 hF hk lD mb m hm b1 b2 f hf w hw λg W hg hd hW=>sL hF hk lD mb m hm b1 b2 n g W hg zM hW
theorem nbd(hF:lp kv)(hk:uQ kv)(lD:kv.length<=100000)(mb:Nat)(m:Mp)(hm:m.Ok kv)(f:Int)(hf:0<=f)(w:World)(iN:w.heap[mb]? =some (m.obj jt kv)):Calls prog 94 #[.map (some mb),.int .i64 f] w (av w (.int .i64 (rl kv f))):=by
 have uq:=(aM.1 iN).1;refine enter (vs:=[_,_]) func94 rfl ntmps94 rfl ?_;refine B 2 ?_;refine yX ?_;intro b2 w2 aH aF dS cE cX;refine B 5 ?_;refine aU zeroValue183 rfl rfl ?_;refine yW ?_;intro b5 gQ gR;refine B 5 ?_;refine aZ (i:=0) rfl sizeOf183 rfl rfl rfl rfl rfl rfl ?_;refine B 4 ?_;refine rr (.func (.func 127) #[] #[ptr b2 0,ptr b5 0]) (aO (i:=0) rfl isAgg183 rfl rfl) ?_;refine B 1 ?_;refine nH (v:=.int .i64 (rl kv f)) (f:=127) (cap:=[ptr b2 0,ptr b5 0]) rfl call127 rfl rfl rfl (λW hS=>sL hF hk lD mb m hm b2 b5 (kv.length+1) f W hf zM ⟨hS.old A0 aH zX jN,hS.own (b5,_) A0,hS.old A1 iN zX jN⟩) ?_;refine B 4 ?_;exact bH (.inl rfl) results94 (RS.t rfl RS.n) λW hS=>⟨rfl,hS.base A1 wH⟩
theorem sl5{w:World}{t:Nat}{c1 c2 c3 c4 c5:Int}(hb:w.heap[b]? =some (.cells #[.int .i64 c1,.int .i64 c2,.int .i64 c3,.int .i64 c4,.int .i64 c5] t fr)):ah encI 1 w.heap.size w (some ⟨b,0,none⟩) [c1,c2,c3,c4,c5]:=
 .inr ⟨b,0,_,t,fr,rfl,(aM.1 hb).1,hb,by
  intro i hi
  match i,hi with
  |0,_=>exact⟨by simp,rfl⟩
  |1,_=>exact⟨by simp,rfl⟩
  |2,_=>exact⟨by simp,rfl⟩
  |3,_=>exact⟨by simp,rfl⟩
  |4,_=>exact⟨by simp,rfl⟩⟩
theorem nxg(x y:Pl)(w:World):Calls prog 92 #[.agg (plA x),.agg (plA y)] w (av w (.int .i64 (PC x y))):=by
 refine enter (vs:=[_,_]) func92 rfl ntmps92 rfl ?_;refine B 2 ?_;refine yX ?_;intro b2 w2 aH aF dS cE cX;refine yX ?_;intro b3 w3 aC ay cS bV cL;refine B 4 ?_;refine X8 ?_;refine nl 24 [.det [] _,.det [0] _,.det [] _,.det [2] _,.det [1,3] _,.det [] _,.det [5] _,.det [] _,.det [7] _,.det [6,8] _,.det [] _,.det [10] _,.det [] _,.det [12] _,.det [11,13] _,.det [] _,.det [15] _,.det [] _,.det [17] _,.det [16,18] _,.det [] _,.det [20] _,.det [] _,.det [22] _] zT (xc z4 (xc Ug (xc z4 (xc X9 (xc Ya (xc z4 (xc Ug (xc z4 (xc X9 (xc Ya (xc z4 (xc Ug (xc z4 (xc X9 (xc Ya (xc z4 (xc Ug (xc z4 (xc X9 (xc Ya (xc (by exact λab=>X.val rfl rfl (ak underlying135 rfl sizeOf9 rfl) (λ_ _=>rfl)) (xc (by exact λab=>X.val rfl rfl (aa isAgg9 rfl A1 aH aF trivial rfl) (λ_ _=>rfl)) (xc (by exact λab=>X.val rfl rfl (ak underlying135 rfl sizeOf9 rfl) (λ_ _=>rfl)) (xc (by exact λab=>X.val rfl rfl (aa isAgg9 rfl A0 aC ay trivial rfl) (λ_ _=>rfl)) (xn))))))))))))))))))))))))) zT zT zT (λab=>?_);refine call call126 rfl rfl rfl (λW hS=>G0 _ _ W) ?_;refine EA ?_;refine yV ?_;intro b30 w30 adE ahv ahw ahx ahy;refine call call124 rfl rfl rfl (λW hS=>MZ [cB x.time y.time,cB x.dev y.dev,cB x.fol y.fol,cB x.par y.par,Go.Lib.compareBytes x.nm.data.toList y.nm.data.toList] z1 W.heap.size (some ⟨b30,0,none⟩) 5 W (ao _) (sl5 (hS.old A0 adE zX trivial))) ?_
 refine B 4 ?_;refine ax results92 rfl A3 ?_;rfl
def tC:List Pl->Nat->List Pl
 |l,0=>l
 |l,j+1=>match l[j+1]?,l[j]? with
  |some x,some y=>if PC x y<0 then tC ((l.set (j+1) y).set j x) j else l
  |_,_=>l
def lq:List Pl->Nat->Nat->List Pl
 |l,0,_=>l
 |l,k+1,i=>lq (tC l i) k (i+1)
def qL (xs:List Pl):List Pl:=lq xs (xs.length-1) 1
theorem G7{l:List Pl}{x y:Pl}(hx:l[j+1]? =some x)(hy:l[j]? =some y)(h:PC x y<0):tC l (j+1)=tC ((l.set (j+1) y).set j x) j:=by rw[tC,hx,hy];exact if_pos h
theorem nTl{l:List Pl}{x y:Pl}(hx:l[j+1]? =some x)(hy:l[j]? =some y)(h:¬PC x y<0):tC l (j+1)=l:=by rw[tC,hx,hy];exact if_neg h
theorem nKl:∀(j:Nat) (l:List Pl),(tC l j).length=l.length
 |0,l=>by rw[tC]
 |j+1,l=>by
  unfold tC;split
  ·split
   ·rw[nKl j,G8,G8]
   rfl
  rfl
theorem nYk{cur:List Pl}{n:Nat}(h:i<n):lq cur (n-i) i=lq (tC cur i) (n-(i+1)) (i+1):=by
 rw[show n-i=(n-(i+1))+1 by omega,lq]
theorem ncl:∀(j:Nat) (l:List Pl) (z:Pl),z∈tC l j->z∈l
 |0,l,z,h=>by rw[tC]at h;exact h
 |j+1,l,z,h=>by
  unfold tC at h;split at h
  ·rename_i x y hx hy;split at h
   ·have h1:=ncl j _ z h;rcases Yb h1 with h1|h1
    ·rcases Yb h1 with h1|h1
     ·exact h1
     rw[h1];exact cC hy
    rw[h1];exact cC hx
   exact h
  exact h
theorem nun:∀(k i:Nat) (l:List Pl) (z:Pl),z∈lq l k i->z∈l
 |0,i,l,z,h=>by rw[lq]at h;exact h
 |k+1,i,l,z,h=>by rw[lq]at h;exact ncl i l z (nun k (i+1) _ z h)
theorem npn:∀(k i:Nat) (l:List Pl),(lq l k i).length=l.length
 |0,i,l=>by rw[lq]
 |k+1,i,l=>by rw[lq,npn k,nKl]
theorem nQh(xs:List Pl):(qL xs).length=xs.length:=npn _ _ _
theorem B7{xs:List Pl}{z:Pl}(h:z∈qL xs):z∈xs:=nun _ _ _ _ h
theorem nVo(xs:List Pl)(cb:xs.length<=12)(b cp:Nat)(sp:List Value)(w:World)(hb:w.heap[b]? =some (cD ij 135 xs sp)):Calls prog 185 #[.slice (some ⟨b,0,none⟩) xs.length cp,.int .i64 0,.int .i64 (xs.length:Int),.func (.func 92) #[] #[]] w (λe w'=>e= .returned (.tuple #[])/\aI (· =b) w w'/\w'.heap[b]? =some (cD ij 135 (qL xs) sp)):=by
 have jH:=(aM.1 hb).1;refine nN (Gh.lent (· =b)) [(b,cD ij 135 xs sp)] (vs:=[_,_,_,_]) func185 rfl ntmps185 rfl (y6 hb) ?_;refine B 8 ?_;refine CJ.loop (α:=Nat×List Pl) (λp=>[(0,.slice (some ⟨b,0,none⟩) xs.length cp),(1,.int .i64 0),(2,.int .i64 (xs.length:Int)),(3,.func (.func 92) #[] #[]),(8,.int .i64 (p.1:Int))]) (λp=>[(b,cD ij 135 p.2 sp)]) (λp=>[w]) (λp=>Gh.lent (· =b)) (λp=>1<=p.1/\p.1<=xs.length+1/\p.2.length=xs.length/\lq p.2 (xs.length-p.1) p.1=qL xs) (λp=>xs.length+1-p.1) (1,xs) ⟨ao _,by dsimp only;omega,rfl,rfl⟩ zR rfl rfl z1 ?_;rintro⟨i,cur⟩ ⟨wP,DI,lG,Yc⟩;dsimp only at wP DI lG Yc ⊢;refine B 8 ?_;refine aK ?_ ?_
 ·intro aj;refine B 11 ?_;refine CJ.loop (α:=Nat×List Pl) (λp=>[(0,.slice (some ⟨b,0,none⟩) xs.length cp),(1,.int .i64 0),(2,.int .i64 (xs.length:Int)),(3,.func (.func 92) #[] #[]),(8,.int .i64 (i:Int)),(9,.int .i64 (p.1:Int))]) (λp=>[(b,cD ij 135 p.2 sp)]) (λp=>[w]) (λp=>Gh.lent (· =b)) (λp=>p.1<=i/\p.2.length=xs.length/\tC p.2 p.1=tC cur i) (λp=>p.1) (i,cur) ⟨ao _,lG,rfl⟩ zR rfl rfl z1 ?_;rintro⟨j,uR⟩ ⟨hj,M6,hsk⟩;dsimp only at hj M6 hsk ⊢;refine B 2 ?_;rcases j with _|j1
  ·refine zEh ?_;refine nl 14 [.det [] _,.det [] _,.det [0,1] _,.det [2] _,.det [3] undef,.det [3] undef,.det [3] undef,.det [3,5,6] undef,.det [3,7] undef,.det [3] undef,.det [3] undef,.det [3,10] undef,.det [3,9,11] undef,.det [3,12] undef] zT (xc zO (xc zO (xc FT (xc zO (xc zN (xc zN (xc zN (xc zN (xc zN (xc zN (xc zN (xc zN (xc zN (xc zN (xn))))))))))))))) zT zT zT (λab=>?_);refine B 17 ?_;exact z5j
  obtain⟨x,hx⟩:=nk uR (j1+1) zM;obtain⟨y,hy⟩:=nk uR j1 zM;by_cases qX:PC x y<0
  ·refine zEh ?_;refine nl 14 [.det [] _,.det [] _,.det [0,1] _,.det [2] _,.det [3] _,.det [3] _,.det [3] _,.det [3,5,6] _,.det [3,7] _,.det [3] _,.det [3] _,.det [3,10] _,.det [3,9,11] _,.det [3,12] _] zT (xc zO (xc zO (xc IW (xc zO (xc zO (xc zO (xc zO (xc Yd (xc zAd (xc zO (xc zO (xc zRd (xc Yd (xc zBd (xn))))))))))))))) zT zT zT (λab=>?_);refine z4h ?_;refine DF ?_;refine B 8 ?_;refine ng (E':=[(0,_),(1,_),(2,_),(3,_),(8,_),(9,_),(18,_),(19,_),(20,_),(21,_),(22,_),(23,_),(24,_),(25,_),(26,_),(27,_),(28,_),(29,_),(30,_),(31,_),(32,_),(33,_),(34,_)]) zR ?_;refine Th 16 [13,15] [([],some _),([],some _),([],some _),([],some _),([3],some _),([],some _),([],some _),([6],some _),([5,7],some _),([8],some _),([],some _),([],some _),([10,11],some _),([12],none),([0,1],some _),([9,14],none)] (λcv L' H'=>match cv with| []=>L'=[w]/\H'=[(b,cD ij 135 uR sp)]| [v1]=>v1= .agg (plA x)/\L'=[w]/\H'=[(b,cD ij 135 uR sp)]| [v1,v2]=>v1= .agg (plA x)/\v2= .tuple #[]/\L'=[w]/\H'=[(b,cD ij 135 (uR.set (j1+1) y) sp)]|_=>False) zT ⟨rfl,rfl⟩ zT zT zT zT zT zT zT (pc zW (pc zW (pc zW (pc zW (pc zSd (pc zW (pc zW (pc zSd (pc zLd (pc zcB (pc zW (pc zW (pc zLd (pk (pc zLd (pk (pn))))))))))))))))) ?_ ?_
   ·refine ss rfl rfl ?_ ?_
    ·intro cv L' H' hl hP F Q' hk;obtain rfl:=ja hl;obtain⟨rfl,rfl⟩:=hP;refine rq (.agg (plA x)) (de (i:=0) rfl isAgg135 sizeOf135 rfl (Ji (j:=j1+1) nG zM)) (va (Jh (j:=j1+1) (sp:=sp) nG hx)) ?_;exact OJ.done (hk _ _ _ ⟨rfl,rfl,rfl⟩)
    refine ss rfl rfl ?_ ?_
    ·intro cv L' H' hl hP F Q' hk;obtain⟨v1,rfl⟩:=dd hl;obtain⟨rfl,rfl,rfl⟩:=hP;refine Bg (enc:=ij) (m:=5) (i:=0) (j:=j1+1) (z:=y) rfl nG X5 sizeOf135 rfl rfl rfl z1 zM rfl rfl ?_;exact OJ.done (hk (.tuple #[]) _ _ ⟨rfl,rfl,rfl,rfl⟩)
    exact X3
   intro cv L' H' hl hP;obtain⟨v1,v2,rfl⟩:=jj hl;obtain⟨rfl,rfl,rfl,rfl⟩:=hP;refine B 1 ?_;refine Bg (enc:=ij) (m:=5) (i:=0) (j:=j1) (z:=x) rfl nG X5 sizeOf135 rfl rfl rfl z1 (by simp only[G8];omega) rfl rfl ?_;refine B 5 ?_;refine rq (.int .i64 ((j1:Nat):Int)) (gT rfl rfl zM zM) (vi zM) ?_;refine B 2 ?_;refine PJ.again (j1,(uR.set (j1+1) y).set j1 x) ⟨by dsimp only;omega,by dsimp only;rw[G8,G8];exact M6,by dsimp only;rw[<-hsk,G7 hx hy qX]⟩ dL zR rfl rfl z1
  refine zEh ?_;refine nl 14 [.det [] _,.det [] _,.det [0,1] _,.det [2] _,.det [3] _,.det [3] _,.det [3] _,.det [3,5,6] _,.det [3,7] _,.det [3] _,.det [3] _,.det [3,10] _,.det [3,9,11] _,.det [3,12] _] zT (xc zO (xc zO (xc IW (xc zO (xc zO (xc zO (xc zO (xc Yd (xc zAd (xc zO (xc zO (xc zRd (xc Yd (xc zBd (xn))))))))))))))) zT zT zT (λab=>?_);refine z4h ?_;refine tW ?_;refine B 15 ?_;exact z5j
 intro aj;refine B 4 ?_;exact bH (.inr rfl) (rs:=[]) results185 RS.n λW hS=>⟨rfl,hS.baseX A0 DQ,by have h9:=hS.own (b,_) A0;rw[show xs.length-i=0 by omega,lq]at Yc;rw[<-Yc];exact h9⟩
theorem M7(xs:List Pl)(cb:xs.length<=12)(b cp:Nat)(sp:List Value)(w:World)(hb:w.heap[b]? =some (cD ij 135 xs sp))(lim:Int):Calls prog 123 #[.slice (some ⟨b,0,none⟩) xs.length cp,.int .i64 0,.int .i64 (xs.length:Int),.int .i64 lim,.func (.func 92) #[] #[]] w (λe w'=>e= .returned (.tuple #[])/\aI (· =b) w w'/\w'.heap[b]? =some (cD ij 135 (qL xs) sp)):=by
 have jH:=(aM.1 hb).1;refine nN (Gh.lent (· =b)) [(b,cD ij 135 xs sp)] (vs:=[_,_,_,_,_]) func123 rfl ntmps123 rfl (y6 hb) ?_;refine B 11 ?_;refine CJ.loop (α:=Unit) (λp=>[(0,.slice (some ⟨b,0,none⟩) xs.length cp),(1,.int .i64 0),(2,.int .i64 (xs.length:Int)),(3,.int .i64 lim),(4,.func (.func 92) #[] #[]),(10,.bool true),(11,.bool true)]) (λp=>[(b,cD ij 135 xs sp)]) (λp=>[w]) (λp=>Gh.lent (· =b)) (λp=>True) (λp=>0) () trivial zR rfl rfl z1 ?_;rintro⟨⟩ _;refine B 5 ?_;refine rq (.int .i64 (xs.length:Int)) (gT rfl rfl zM zM) (vi zM) ?_;refine B 7 ?_;refine V9 ?_;refine B 9 ?_;refine Ye (γ:=Unit) (i:=0) (b:=b) (o:=cD ij 135 xs sp) (v:=λ_=>.tuple #[]) (ob:=λ_=>cD ij 135 (qL xs) sp) (Φ:=λ_=>True) (first:=[]) (cap:=[]) rfl rfl call185 rfl rfl rfl (λW hS h=>(nVo xs cb b cp sp W h).mono λe w2 h=>⟨(),h.1,h.2.1,trivial,h.2.2⟩) ?_;rintro⟨⟩ -;refine B 7 ?_;exact bH (.inl rfl) (rs:=[]) results123 RS.n λW hS=>⟨rfl,hS.baseX A0 DQ,hS.own (b,_) A0⟩
theorem B8(xs:List Pl)(cb:xs.length<=12)(b cp:Nat)(sp:List Value)(w:World)(hb:w.heap[b]? =some (cD ij 135 xs sp)):Calls prog 91 #[.slice (some ⟨b,0,none⟩) xs.length cp,.func (.func 92) #[] #[]] w (λe w'=>e= .returned (.tuple #[])/\aI (· =b) w w'/\w'.heap[b]? =some (cD ij 135 (qL xs) sp)):=by
 have jH:=(aM.1 hb).1;refine nN (Gh.lent (· =b)) [(b,cD ij 135 xs sp)] (vs:=[_,_]) func91 rfl ntmps91 rfl (y6 hb) ?_;refine B 12 ?_;refine call call97 rfl rfl rfl (λW hS=>YT _ zM zM W) ?_;refine B 1 ?_;refine Ye (γ:=Unit) (i:=0) (b:=b) (o:=cD ij 135 xs sp) (v:=λ_=>.tuple #[]) (ob:=λ_=>cD ij 135 (qL xs) sp) (Φ:=λ_=>True) (first:=[]) (cap:=[]) rfl rfl call123 rfl rfl rfl (λW hS h=>(M7 xs cb b cp sp W h _).mono λe w2 h=>⟨(),h.1,h.2.1,trivial,h.2.2⟩) ?_;rintro⟨⟩ -;refine B 1 ?_;exact bH (.inr rfl) (rs:=[]) results91 RS.n λW hS=>⟨rfl,hS.baseX A0 DQ,hS.own (b,_) A0⟩
theorem B9{β:Type}{l:List (Int×β)}{k:Int}{v:β}{q:Int×β}(h:q∈ck l k v):q=(k,v)\/q∈l:=by
 unfold ck at h;split at h
 ·rcases Yb h with h|h
  ·exact .inr h
  exact .inl h
 rcases cO.1 h with h|h
 ·exact .inr h
 exact .inl (qd.1 h)
theorem lp.nil:lp []:=⟨λ_=>0,λk p h=>by simp[aE,dZ]at h⟩
theorem uQ.nil:uQ []:=⟨List.nodup_nil,λq h=>by cases h⟩
theorem G9{f o:Int}(h:ju kv f o=false):¬f=o/\o∉dA kv f:=by
 unfold ju at h;rw[Bool.or_eq_false_iff]at h;refine⟨by simpa using h.2,λhm=>?_⟩;have:=List.any_eq_false.1 h.1 o hm;simp at this
theorem lp.put(h:lp kv)(hp:0<=p.par->ju kv p.par p.fol=false):lp (ck kv p.fol p):=by
 by_cases h0:0<=p.par
 ·obtain⟨dc,fm⟩:=G9 (hp h0);have dec:∀x,Decidable (x=p.fol\/p.fol∈dA kv x):=λx=>inferInstance;refine⟨λx=>if x=p.fol\/p.fol∈dA kv x then(dA kv x).length+(dA kv p.par).length+1 else(dA kv x).length,λk q hk h1=>?_⟩;rw[nBl]at hk;dsimp only;by_cases e:k=p.fol
  ·rw[if_pos e]at hk;cases hk
   rw[if_neg (λh2=>h2.elim dc fm),if_pos (.inl e)];omega
  rw[if_neg e]at hk;have hu:=PD h hk h1;have hl:(dA kv k).length=(dA kv q.par).length+1:=by rw[hu,dW]
  by_cases c:q.par=p.fol\/p.fol∈dA kv q.par
  ·rw[if_pos c,if_pos (.inr (by rw[hu];rcases c with c|c;(rw[c];exact .head _);exact .tail _ c))];omega
  rw[if_neg c,if_neg (λh2=>c (by rcases h2 with h2|h2;(exact absurd h2 e);rw[hu]at h2;rcases cP.1 h2 with h3|h3;(exact .inl h3.symm);exact .inr h3))];omega
 refine⟨λx=>(dA kv x).length,λk q hk h1=>?_⟩;rw[nBl]at hk;by_cases e:k=p.fol
 ·rw[if_pos e]at hk;cases hk;exact absurd h1 h0
 rw[if_neg e]at hk;exact h.rank k q hk h1
theorem uQ.put(h:uQ kv)(hp:iW p):uQ (ck kv p.fol p):=by
 refine⟨nlg h.1,λq hq=>?_⟩;rcases B9 hq with rfl|hq
 ·exact⟨rfl,hp⟩
 exact h.2 q hq
def PF (kv:lL) (p:Pl):Prop:=(0<=p.par/\((aE kv p.par).isSome=false\/ju kv p.par p.fol=true))\/8<oe kv p.par+rl kv p.fol
instance (kv:lL) (p:Pl):Decidable (PF kv p):=by unfold PF;infer_instance
def Ha (kv:lL) (p:Pl):lL:=if PF kv p then kv else ck kv p.fol p
def cQ (l:List Pl):List Pl:=qL (l.filter λx=> !!decide (iW x))
def gN (ys:List Pl) (j:Nat):lL:=(ys.take j).foldl Ha []
def nw (l:List Pl):lL:=gN (cQ l) (cQ l).length
theorem nxj{l:List Pl}(h:p∈cQ l):iW p:=by
 have:=(vz.1 (B7 h)).2;simpa using this
theorem n5l(l:List Pl):(cQ l).length<=l.length:=by unfold cQ;rw[nQh];exact Ad _ _
theorem Ca{ys:List Pl}(h:ys[j]? =some p):gN ys (j+1)=Ha (gN ys j) p:=by unfold gN;rw[nz h,DP];rfl
theorem M8(h:PF kv p):Ha kv p=kv:=if_pos h
theorem Uh(h:¬PF kv p):Ha kv p=ck kv p.fol p:=if_neg h
theorem nGl{ys:List Pl}(hy:∀p∈ys,iW p):∀j,j<=ys.length->lp (gN ys j)/\uQ (gN ys j)/\(gN ys j).length<=j
 |0,_=>⟨lp.nil,uQ.nil,ao _⟩
 |j+1,h=>by
  obtain⟨p,hp⟩:=nk ys j zM;obtain⟨h1,h2,h3⟩:=nGl hy j zM;rw[Ca hp];by_cases hb:PF (gN ys j) p
  ·rw[M8 hb];exact⟨h1,h2,by omega⟩
  rw[Uh hb];refine⟨h1.put λh0=>?_,h2.put (hy p (cC hp)),aS (O3 _ _ _) zM⟩;cases hw:ju (gN ys j) p.par p.fol with
  |false=>rfl
  |true=>exact absurd (.inl ⟨h0,.inr hw⟩) hb
theorem Hd(h:lp kv)(f:Int):0<=oe kv f/\oe kv f<=(kv.length:Int)+1:=by
 have:=Ea h f;unfold oe;split<;>omega
theorem nYn{c:Code}{Q:aG}{H1:ae}{α:Type}{enc:α->List Value}{t:Nat}{xs:List α}(hH:H=H0++(r.hp enc t xs++H1))(hm:∀x,(enc x).length=m)(bT:r.Fit m xs)(rh:r.Fr G L)(k:∀W a cp,r.val xs.length= .slice a xs.length cp->ah (λx=>(enc x).toArray) m W.heap.size W a xs->(∀w∈L,w.heap.size<=W.heap.size)->(∀p∈H0++H1,W.heap[p.1]? =some p.2)->CJ C c Q E D G (W::L) (H0++H1)):CJ C c Q E D G L H:=λa W hN hD hF hS=>by
 have hA:r.At enc t xs W:=by
  cases r with
  |nil=>trivial
  |row b cap sp=>exact hS.own (b,_) (by rw[hH];simp[Rw.hp])
 obtain⟨a9,c9,e9,h9⟩:=r.sl hm bT hA (ao _);have wO:St G L (H0++H1) W:=by
  cases r with
  |nil=>rw[hH]at hS;simpa[Rw.hp]using hS
  |row b cap sp=>
   have:=hS.dropAtF (i:=H0.length) (b:=b) (o:=cD enc t xs sp) (by rw[hH];simp[Rw.hp]) rh;rw[hH]at this;simpa[Rw.hp,List.eraseIdx_append_of_length_le]using this
 exact k W a9 c9 e9 h9 (λw hw=>(hS.links w hw).size) (λp hp=>wO.own p hp) a W hN hD hF wO.snap
theorem nAh(f:Nat)(cap:List Value)(az:dR prog f)(w:World):Calls prog 87 #[.slice none 0 0,.func (.func f) #[] cap.toArray] w (av w (.slice none 0 0)):=by
 refine enter (vs:=[_,_]) func87 rfl ntmps87 rfl ?_;refine B 9 ?_;refine nu (α:=Int) (v:=λi:Int=>.int .i64 i) (Φ:=λ_ i _=>cR (λ_:Pl=>false) [] i) call121 rfl rfl rfl (λW hS=>nWg (λ_=>false) f cap az [] z1 W.heap.size none 0 W (ao _) (.inl rfl) (λj x hx=>by simp at hx)) ?_;intro Wi i wi sj sk hi;have wP:i= -1:=by rcases hi with⟨h,_⟩|⟨k,x,_,hx,_⟩;(exact h);simp at hx
 subst wP;refine B 7 ?_;refine Pn ?_;refine ax results87 rfl A1 ?_;rfl
theorem nwk(w:World):Calls prog 185 #[.slice none 0 0,.int .i64 0,.int .i64 0,.func (.func 92) #[] #[]] w (av w (.tuple #[])):=by
 refine enter (vs:=[_,_,_,_]) func185 rfl ntmps185 rfl ?_;refine B 8 ?_;refine CJ.loop (α:=Nat) (λj=>[(0,.slice none 0 0),(1,.int .i64 0),(2,.int .i64 0),(3,.func (.func 92) #[] #[]),(8,.int .i64 1)]) (λj=>[]) (λj=>[w]) (λj=>Gh.no) (λj=>True) (λj=>0) 0 True.intro zR rfl rfl z1 ?_;rintro j _;refine Xx ?_;exact bJ (.inr rfl) results185 RS.n A0 trivial rfl
theorem nUn(l:Int)(w:World):Calls prog 123 #[.slice none 0 0,.int .i64 0,.int .i64 0,.int .i64 l,.func (.func 92) #[] #[]] w (av w (.tuple #[])):=by
 refine enter (vs:=[_,_,_,_,_]) func123 rfl ntmps123 rfl ?_;refine B 11 ?_;refine CJ.loop (α:=Nat) (λj=>[(0,.slice none 0 0),(1,.int .i64 0),(2,.int .i64 0),(3,.int .i64 l),(4,.func (.func 92) #[] #[])]) (λj=>[]) (λj=>[w]) (λj=>Gh.no) (λj=>True) (λj=>0) 0 True.intro zR rfl rfl z1 ?_;rintro j _;refine Xy ?_;refine call call185 rfl rfl rfl (λW hS=>nwk W) ?_;refine B 7 ?_;exact bJ (.inl rfl) results123 RS.n A0 trivial rfl
theorem nIm(w:World):Calls prog 91 #[.slice none 0 0,.func (.func 92) #[] #[]] w (av w (.tuple #[])):=by
 refine enter (vs:=[_,_]) func91 rfl ntmps91 rfl ?_;refine Xz ?_;refine B 1 ?_;refine call call123 rfl rfl rfl (λW hS=>nUn _ W) ?_;refine B 1 ?_;exact bJ (.inr rfl) results91 RS.n A0 trivial rfl
theorem n0g(l:List Pl)(cb:l.length<=12)(N:Nat)(a:Option Addr)(cp:Nat)(w:World)(hN:N<=w.heap.size)(aJ:ah plA 5 N w a l):Calls prog 46 #[.slice a l.length cp] w (vt w jt (nw l) id):=by
 refine enter (vs:=[_]) func46 rfl ntmps46 rfl ?_;refine B 7 ?_;refine FK jt rfl rfl ?_;refine yW ?_;intro b9 rE Km;refine B 6 ?_;refine Aa (enc:=ij) (m:=5) (t:=135) (xs:=l) (v:=id) (first:=[]) (cap:=[]) rfl call88 rfl rfl rfl (λW hS=>B0 l zM N a cp W (aS hN (hS.links w A0).size) (aJ.up (ao _) (hS.same A0 hN zU wH))) ?_;intro r bG al;have cM:=Rw.ge_of bG A0;refine wU (r:=r) (enc:=ij) (m:=5) (t:=135) (xs:=l) (ys:=(l.filter λx=> !!decide (iW x))) (H0:=[]) (H1:=[(b9,(Mp.mk [] 0).obj jt [])]) (v:=λr=>r.val (l.filter λx=> !!decide (iW x)).length) rfl call87 rfl rfl rfl (λhr W hS=>?_) (λb cap sp hr W hS h=>?_) ?_
 ·subst hr;have h0:l=[]:=al;subst h0;exact(nAh 89 [] call89 W).mono λe w2 h=>⟨h.1,rfl,h.2⟩
 ·subst hr;exact nzk (λx=> !decide (iW x)) 89 [] call89 l zM b cap sp W h al (λj x hx W2 hK Tc=>MV x W2)
 intro r2 da mM mO jA;have gG:=mM bG;have dN:=mO _ cM;refine B 6 ?_;refine wU (r:=r2) (enc:=ij) (m:=5) (t:=135) (xs:=(l.filter λx=> !!decide (iW x))) (ys:=(cQ l)) (H0:=[]) (H1:=[(b9,(Mp.mk [] 0).obj jt [])]) (v:=λ_=>.tuple #[]) rfl call91 rfl rfl rfl (λhr W hS=>?_) (λb cap sp hr W hS h=>?_) ?_
 ·subst hr;have h0:(l.filter λx=> !!decide (iW x))=[]:=da;unfold cQ;rw[h0];exact(nIm W).mono λe w2 h=>⟨h.1,rfl,h.2⟩
 ·subst hr;exact(B8 (l.filter λx=> !!decide (iW x)) (aS (Ad _ _) zM) b cap sp W h).mono λe w2 h=>⟨sp,h.1,h.2.1,by simp only[Rw.Fit]at da ⊢;unfold cQ;rw[nQh];exact da,h.2.2⟩
 intro r3 mP Af Ag vq;have Ah:=Af gG;have vr:=Ag _ dN;refine B 4 ?_;refine nYn (enc:=ij) (m:=5) (t:=135) (xs:=(cQ l)) (r:=r3) (H0:=[]) (H1:=[(b9,(Mp.mk [] 0).obj jt [])]) rfl nG mP Ah ?_;intro Wr a9 c9 e9 lf adM adN;have adO:ah plA 5 Wr.heap.size Wr a9 (cQ l):=lf;have IA:=n5l l;have He:=adN (b9,(Mp.mk [] 0).obj jt []) A0;dsimp only at He;have ahz:=(aM.1 He).1;have ua:(l.filter λx=> !!decide (iW x)).length=(cQ l).length:=by unfold cQ;rw[nQh]
 have vk:=adM w A0;refine B 1 ?_;refine rq (.slice a9 (cQ l).length c9) (fW rfl) (((congrArg (λn=>r2.val n) ua).trans ((vq _).symm.trans e9))) ?_;refine B 5 ?_;refine CJ.loop (α:=Nat×Mp) (λp=>[(3,.map (some b9)),(15,.slice a9 (cQ l).length c9),(16,.int .i64 ((cQ l).length:Int)),(17,.int .i64 (p.1:Int))]) (λp=>[(b9,p.2.obj jt (gN (cQ l) p.1))]) (λp=>[Wr,w]) (λp=>Gh.no) (λp=>p.1<=(cQ l).length/\p.2.Ok (gN (cQ l) p.1)) (λp=>(cQ l).length-p.1) (0,⟨[],0⟩) ⟨cZ _,Mp.nil⟩ zR rfl rfl z1 ?_;rintro⟨j,m⟩ ⟨hj,hm⟩;dsimp only at hj hm ⊢;have hinv:=nGl (λp hp=>nxj hp) j hj;have Qv:=hinv.2.2;refine B 6 ?_;refine aK ?_ ?_
 ·intro aj;refine B 5 ?_;obtain⟨bo,oo,cs0,to,fp,rfl,ft,hcs,ar⟩:=adO.get zM;obtain⟨x,hx⟩:=nk (cQ l) j zM;have hxk:=nxj (cC hx);have dc:bo≠b9:=λe=>by subst e;rw[hcs]at He;cases He
  refine B 2 ?_;refine rq (.agg (plA x)) (ag isAgg135 sizeOf135 rfl A0 hcs zX xX (ni ar hx rfl)) (va (np ar hx rfl)) ?_;refine MW ?_;refine yW ?_;intro b6 gS lB;refine JB ?_;refine B 7 ?_;refine rq (.tuple #[.agg (plA ((aE (gN (cQ l) j) x.par).getD G3)),.bool (aE (gN (cQ l) j) x.par).isSome]) (hJ (ev:=jt) (k:=x.par) underlying132 underlying3 zeroValue135 hm (bL.own (i:=1) rfl) rfl rfl) (by cases aE (gN (cQ l) j) x.par<;>rfl) ?_;refine rr (.tuple #[.agg (plA ((aE (gN (cQ l) j) x.par).getD G3)),.bool (aE (gN (cQ l) j) x.par).isSome]) (fW rfl) ?_;refine B 2 ?_;refine MW ?_;refine yW ?_;intro b7 gg ow;refine JB ?_;refine B 5 ?_;have hlb:=Hd hinv.1 x.par;have hhb:=B5 (gN (cQ l) j) x.fol;by_cases h1:0<=x.par
  ·rcases hq:aE (gN (cQ l) j) x.par with _|q
   ·refine PG ?_;refine nl 23 [.det [] _,.det [0] _,.det [1] _,.det [2] _,.det [3] _,.det [3,4] _,.det [3,5] _,.det [6] undef,.det [6] undef,.det [6,8] undef,.det [6] undef,.det [6,10] undef,.det [6,7,9,11] undef,.det [3,6,12] _,.det [3,13] _,.det [14] _,.det [15] undef,.det [15] undef,.det [15,17] undef,.det [15,16,18] undef,.det [15] undef,.det [15] undef,.det [15,21] undef] zT (xc z4 (xc pU (xc M9 (xc zO (xc (by exact λab=>X.val rfl rfl (RV.re (v':=.bool false) (fW rfl) (by first|rfl|(rw[hq];rfl))) (λ_ _=>rfl)) (xc Py (xc zO (xc zN (xc zN (xc zN (xc zN (xc zN (xc zN (xc z6 (xc z6 (xc zO (xc zN (xc zN (xc zN (xc zN (xc zN (xc zN (xc zN (xn)))))))))))))))))))))))) zT zT zT (λab=>?_);refine B 15 ?_;refine FI ?_;refine PJ.again (j+1,m) ⟨by dsimp only;omega,by dsimp only;rw[Ca hx,M8 (.inl ⟨h1,.inl (by rw[hq];rfl)⟩)];exact hm⟩ dL zR (by rw[Ca hx,M8 (.inl ⟨h1,.inl (by rw[hq];rfl)⟩)];rfl) rfl z1
   rcases Ui:ju (gN (cQ l) j) x.par x.fol with _|_
   ·by_cases h8:8<oe (gN (cQ l) j) x.par+rl (gN (cQ l) j) x.fol
    ·refine PG ?_;refine nl 23 [.det [] _,.det [0] _,.det [1] _,.det [2] _,.det [3] _,.det [3,4] _,.det [3,5] _,.det [6] _,.det [6] _,.det [6,8] _,.det [6] _,.det [6,10] _,.det [6,7,9,11] (.bool false),.det [3,6,12] _,.det [3,13] _,.det [14] _,.det [15] _,.det [15] _,.det [15,17] _,.det [15,16,18] (.int .i64 (oe (gN (cQ l) j) x.par)),.det [15] _,.det [15] _,.det [15,21] _] zT (xc z4 (xc pU (xc M9 (xc zO (xc zdc (xc Py (xc zO (xc zO (xc z4 (xc pU (xc z4 (xc pU (xc z0b (xc z8 (xc z6 (xc zO (xc zO (xc z4 (xc pU (xc Yf (xc zO (xc z4 (xc pU (xn)))))))))))))))))))))))) zT zT zT (λab=>?_);exact zSj
    refine PG ?_;refine nl 23 [.det [] _,.det [0] _,.det [1] _,.det [2] _,.det [3] _,.det [3,4] _,.det [3,5] _,.det [6] _,.det [6] _,.det [6,8] _,.det [6] _,.det [6,10] _,.det [6,7,9,11] (.bool false),.det [3,6,12] _,.det [3,13] _,.det [14] _,.det [15] _,.det [15] _,.det [15,17] _,.det [15,16,18] (.int .i64 (oe (gN (cQ l) j) x.par)),.det [15] _,.det [15] _,.det [15,21] _] zT (xc z4 (xc pU (xc M9 (xc zO (xc zdc (xc Py (xc zO (xc zO (xc z4 (xc pU (xc z4 (xc pU (xc z0b (xc z8 (xc z6 (xc zO (xc zO (xc z4 (xc pU (xc Yf (xc zO (xc z4 (xc pU (xn)))))))))))))))))))))))) zT zT zT (λab=>?_);refine zrf ?_;refine B 1 ?_;refine Iu ?_;refine B 11 ?_;refine z9h ?_;intro m2 aF;refine Ms ?_;refine PJ.again (j+1,m2) ⟨by dsimp only;omega,by dsimp only;rw[Ca hx,Uh (λh=>h.elim (λh=>h.2.elim (λh=>by rw[hq]at h;cases h) (λh=>by rw[Ui]at h;cases h)) h8)];exact aF⟩ dL zR (by rw[Ca hx,Uh (λh=>h.elim (λh=>h.2.elim (λh=>by rw[hq]at h;cases h) (λh=>by rw[Ui]at h;cases h)) h8)];rfl) rfl z1
   refine PG ?_;refine nl 23 [.det [] _,.det [0] _,.det [1] _,.det [2] _,.det [3] _,.det [3,4] _,.det [3,5] _,.det [6] _,.det [6] _,.det [6,8] _,.det [6] _,.det [6,10] _,.det [6,7,9,11] (.bool true),.det [3,6,12] _,.det [3,13] _,.det [14] _,.det [15] undef,.det [15] undef,.det [15,17] undef,.det [15,16,18] undef,.det [15] undef,.det [15] undef,.det [15,21] undef] zT (xc z4 (xc pU (xc M9 (xc zO (xc zdc (xc Py (xc zO (xc zO (xc z4 (xc pU (xc z4 (xc pU (xc z0b (xc z8 (xc z6 (xc zO (xc zN (xc zN (xc zN (xc zN (xc zN (xc zN (xc zN (xn)))))))))))))))))))))))) zT zT zT (λab=>?_);refine B 15 ?_;refine FI ?_;refine PJ.again (j+1,m) ⟨by dsimp only;omega,by dsimp only;rw[Ca hx,M8 (.inl ⟨h1,.inr Ui⟩)];exact hm⟩ dL zR (by rw[Ca hx,M8 (.inl ⟨h1,.inr Ui⟩)];rfl) rfl z1
  by_cases h8:8<oe (gN (cQ l) j) x.par+rl (gN (cQ l) j) x.fol
  ·refine PG ?_;refine nl 23 [.det [] _,.det [0] _,.det [1] _,.det [2] _,.det [3] undef,.det [3,4] undef,.det [3,5] undef,.det [6] undef,.det [6] undef,.det [6,8] undef,.det [6] undef,.det [6,10] undef,.det [6,7,9,11] undef,.det [3,6,12] undef,.det [3,13] _,.det [14] _,.det [15] _,.det [15] _,.det [15,17] _,.det [15,16,18] (.int .i64 (oe (gN (cQ l) j) x.par)),.det [15] _,.det [15] _,.det [15,21] _] zT (xc z4 (xc pU (xc Uj (xc zO (xc zN (xc zN (xc zN (xc zN (xc zN (xc zN (xc zN (xc zN (xc zN (xc zN (xc z8 (xc zO (xc zO (xc z4 (xc pU (xc Yf (xc zO (xc z4 (xc pU (xn)))))))))))))))))))))))) zT zT zT (λab=>?_);exact zSj
  refine PG ?_;refine nl 23 [.det [] _,.det [0] _,.det [1] _,.det [2] _,.det [3] undef,.det [3,4] undef,.det [3,5] undef,.det [6] undef,.det [6] undef,.det [6,8] undef,.det [6] undef,.det [6,10] undef,.det [6,7,9,11] undef,.det [3,6,12] undef,.det [3,13] _,.det [14] _,.det [15] _,.det [15] _,.det [15,17] _,.det [15,16,18] (.int .i64 (oe (gN (cQ l) j) x.par)),.det [15] _,.det [15] _,.det [15,21] _] zT (xc z4 (xc pU (xc Uj (xc zO (xc zN (xc zN (xc zN (xc zN (xc zN (xc zN (xc zN (xc zN (xc zN (xc zN (xc z8 (xc zO (xc zO (xc z4 (xc pU (xc Yf (xc zO (xc z4 (xc pU (xn)))))))))))))))))))))))) zT zT zT (λab=>?_);refine zrf ?_;refine B 1 ?_;refine Iu ?_;refine B 11 ?_;refine z9h ?_;intro m2 aF;refine Ms ?_;refine PJ.again (j+1,m2) ⟨by dsimp only;omega,by dsimp only;rw[Ca hx,Uh (λh=>h.elim (λh=>h1 h.1) h8)];exact aF⟩ dL zR (by rw[Ca hx,Uh (λh=>h.elim (λh=>h1 h.1) h8)];rfl) rfl z1
 intro aj;refine B 12 ?_;have hje:j=(cQ l).length:=by omega
 subst hje;exact IV (i:=0) (.inl rfl) results46 (RS.t rfl RS.n) A1 wx rfl hm rfl
theorem Na(l:List Pl):lp (nw l)/\uQ (nw l)/\(nw l).length<=l.length:=by
 obtain⟨h1,h2,h3⟩:=nGl (ys:=cQ l) (λp hp=>nxj hp) (cQ l).length (ao _);exact⟨h1,h2,aS h3 (n5l l)⟩
def tD (kv:lL) (f:Int) (js:List Nat):List Int:=(js.map (Aj kv)).filter λk=>ju kv k f
def bD (l:List Pl) (f:Int):List Int:=if(aE (nw l) f).isSome=true then cW (((nw l).map (·.1)).filter λk=>ju (nw l) k f)else[]
theorem n4i{f:Int}{p:Int×Pl}(hp:kv[j]? =some p)(h:ju kv p.1 f=true):tD kv f (js++[j])=tD kv f js++[p.1]:=by
 unfold tD;rw[nUf hp,List.filter_append];simp[h]
theorem nkm{f:Int}{p:Int×Pl}(hp:kv[j]? =some p)(h:¬ju kv p.1 f=true):tD kv f (js++[j])=tD kv f js:=by
 unfold tD;rw[nUf hp,List.filter_append];simp[h]
theorem nzn(kv:lL)(f:Int)(js:List Nat):(tD kv f js).length<=js.length:=by
 unfold tD;exact aS (Ad _ _) z1
theorem Hf{l:List Pl}{f:Int}(hs:(aE (nw l) f).isSome=true)(hd:js.Nodup)(hl:∀j∈js,j<(nw l).length)(bW:∀j,j<(nw l).length->j∈js):cW (tD (nw l) f js)=bD l f:=by
 unfold bD tD;rw[if_pos hs];exact nek ((nJi hd hl bW).filter _)
theorem JF(l:List Pl)(f:Int):(bD l f).length<=l.length:=by
 have:=(Na l).2.2;unfold bD;split
 ·rw[vn];exact aS (Ad _ _) (by simpa using this)
 exact cZ _
theorem nwg(l:List Pl)(cb:l.length<=12)(N:Nat)(a:Option Addr)(cp:Nat)(w:World)(hN:N<=w.heap.size)(aJ:ah plA 5 N w a l)(f:Int):Calls prog 77 #[.slice a l.length cp,.int .i64 f] w (nC w ai 1 3 (dA (nw l) f) id):=by
 refine enter (vs:=[_,_]) func77 rfl ntmps77 rfl ?_;refine B 8 ?_;refine zVg ?_;intro bf m vA O0 hm;replace vA:=yb vA;obtain⟨hF,hk,lD⟩:=Na l;refine B 1 ?_;refine nu (α:=Nat×Nat) (v:=λq=>.func (.func 128) #[] #[ptr q.1 0,ptr q.2 0]) (Φ:=λW q w1=>W.heap.size<=q.1/\W.heap.size<=q.2/\q.1≠q.2/\w1.heap[q.1]? =some (.cells #[.map (some bf)] 132 (0,0))/\w1.heap[q.2]? =some (.cells #[.int .i64 f] 3 (0,0))) call95 rfl rfl rfl (λW hS=>nKg (some bf) f W) ?_;rintro Wu q wn JC Ub ⟨eN,eQ,Uc,du,fu⟩;have hzu:=Ub.size;have Ud:=(aM.1 du).1;have Ue:=(aM.1 fu).1;have JD:=(JC.links w A0).size;have adU:=JC.lt (bf,_) A0;refine RZ (enc:=ai) (m:=1) (t:=3) (Fin:=Is (dA (nw l) f)) (v:=id) call118 rfl rfl rfl (λW hS=>by
  have l1:=(hS.links wn A0).size;have l2:=hS.lt (bf,_) A0;exact WM (cap:=[ptr q.1 0,ptr q.2 0]) (Pre:=xW (dA (nw l) f)) (Fin:=Is (dA (nw l) f)) (RO:=λk=>k=q.1\/k=q.2\/k=bf) call128 W (λk hk=>by rcases hk with rfl|rfl|rfl<;>first|omega|exact l2) (λp hp=>aS hp.length_le (aS (Ea hF f) zM)) (λW2 hB=>nhf hF f bf q.1 q.2 m hm W2 (by rw[hB.block q.1 zM];exact hS.old A0 du zX jN) (by rw[hB.block q.2 zM];exact hS.old A0 fu zX jN) (by rw[hB.block bf l2];exact hS.own (bf,_) A0))) ?_
 rintro xs r rfl bG al;refine B 4 ?_;exact nU (H0:=[]) (H1:=[(bf,m.obj jt (nw l))]) (r:=r) (.inl rfl) results77 (RS.t rfl RS.n) A1 (by rw[nY];exact⟨Rw.over (Rw.ge_of bG A1),by simp only[Over,and_true];omega⟩) rfl al (Rw.ge_of bG A1) z1
theorem n6d(l:List Pl)(cb:l.length<=12)(N:Nat)(a:Option Addr)(cp:Nat)(w:World)(hN:N<=w.heap.size)(aJ:ah plA 5 N w a l)(f:Int):Calls prog 21 #[.slice a l.length cp,.int .i64 f] w (nC w ai 1 3 (bD l f) id):=by
 refine enter (vs:=[_,_]) func21 rfl ntmps21 rfl ?_;refine B 8 ?_;refine zVg ?_;intro bf m vA O0 hm;replace vA:=yb vA;obtain⟨hF,hk,lD⟩:=Na l;refine B 8 ?_;refine rq (.tuple #[.agg (plA ((aE (nw l) f).getD G3)),.bool (aE (nw l) f).isSome]) (hJ (ev:=jt) (k:=f) underlying132 underlying3 zeroValue135 hm (bL.own (i:=0) rfl) rfl rfl) (by cases aE (nw l) f<;>rfl) ?_;refine rr (.tuple #[.agg (plA ((aE (nw l) f).getD G3)),.bool (aE (nw l) f).isSome]) (fW rfl) ?_;refine B 2 ?_;refine MW ?_;refine yW ?_;intro b6 gS lB;refine JB ?_;refine B 4 ?_;rcases hq:aE (nw l) f with _|q9
 ·refine B 1 ?_;refine rq (.bool false) (fW rfl) (by first|rfl|(rw[hq];rfl)) ?_;refine B 11 ?_;have Sn:bD l f=[]:=by unfold bD;rw[hq];rfl
  rw[Sn];exact nU (H0:=[]) (H1:=[(b6,_),(bf,m.obj jt (nw l))]) (r:=.nil) (.inl rfl) results21 (RS.t rfl RS.n) A0 wH rfl rfl True.intro rfl
 refine B 1 ?_;refine rq (.bool true) (fW rfl) (by first|rfl|(rw[hq];rfl)) ?_;refine B 8 ?_;refine CJ.dropAt (i:=0) rfl zZ ?_;have Dp:(aE (nw l) f).isSome=true:=by rw[hq];rfl
 refine B 2 ?_;refine Lf (ev:=jt) underlying132 (bL.own (i:=0) rfl) rfl rfl rfl ?_;intro rb mQ Lg;replace mQ:=yb mQ;refine B 3 ?_;refine CJ.loop (α:=Rw×List Nat) (λp=>[(1,.int .i64 f),(4,p.1.val (tD (nw l) f p.2).length),(5,.map (some bf)),(20,ptr rb 0)]) (λp=>[(rb,m.it bf p.2),(bf,m.obj jt (nw l))]++(p.1.hp ai 3 (tD (nw l) f p.2)++[])) (λp=>[w]) (λp=>Gh.no) (λp=>p.2.Nodup/\(∀j∈p.2,j<(nw l).length)/\p.1.Fr Gh.no [w]/\p.1.Fit 1 (tD (nw l) f p.2)) (λp=>(nw l).length-p.2.length) (.nil,[]) ⟨List.nodup_nil,by simp,True.intro,rfl⟩ zR rfl rfl z1 ?_;rintro⟨r,js⟩ ⟨hnd,gB,bG,al⟩;dsimp only at hnd gB bG al ⊢;have cM:r.ge w.heap.size:=Rw.ge_of bG A0;have jH:=nzn (nw l) f js;have Dn:=WL (nw l).length js hnd gB;refine B 2 ?_;refine Ak (ev:=jt) (i:=0) rfl hm (bL.own (i:=1) rfl) gB rfl rfl rfl (λbW=>?_) (λjn pn jB lR=>?_)
 ·refine B 13 ?_;refine wU (r:=r) (enc:=ai) (m:=1) (t:=3) (xs:=(tD (nw l) f js)) (ys:=cW (tD (nw l) f js)) (H0:=[(rb,m.it bf js),(bf,m.obj jt (nw l))]) (H1:=[]) (v:=λ_=>.tuple #[]) rfl call48 rfl rfl rfl (λhr W _=>by subst hr;exact nkj al W) (λb cap sp hr W _ h=>by subst hr;exact FD (by have:=nzn (nw l) f js;omega) al h) ?_;intro r2 da mM mO jA;have gG:=mM bG;have dN:=mO _ cM;refine B 9 ?_;rw[<-Hf Dp hnd gB bW];exact nU (H0:=[(rb,m.it bf js),(bf,m.obj jt (nw l))]) (H1:=[]) (r:=r2) (.inl rfl) results21 (RS.t rfl RS.n) A0 (by rw[dE];exact nY.2 ⟨by simp only[Over,and_true];omega,Rw.over dN⟩) (by show r.val _=r2.val _;rw[<-jA,vn]) da dN rfl
 refine B 10 ?_;refine rv rfl rfl rfl (ur (ev:=jt) (i:=0) rfl hm (bL.own (i:=1) rfl) jB rfl) ?_;refine B 9 ?_;refine call call47 rfl rfl rfl (λW hS=>n4c hF bf m hm pn.1 f W (hS.own (bf,_) A1)) ?_;refine B 2 ?_;refine aK ?_ ?_
 ·intro aj;refine B 3 ?_;refine vo ?_;refine yW ?_;intro gF jK KN;refine oY (r:=r) (xs:=(tD (nw l) f js)) (zs:=[pn.1]) (enc:=ai) (m:=1) (H0:=[(gF,.cells #[.int .i64 pn.1] 3 (0,0)),(rb,m.it bf (js++[jn])),(bf,m.obj jt (nw l))]) (H1:=[]) wQ DJ nr rfl rfl rfl rfl (dt.one (z:=pn.1) nr DL underlying44 (bL.own (i:=0) rfl)) al bG z1 DO ?_;intro vV pd qK nt lj;replace nt:=yb nt;refine B 3 ?_;refine mx ?_;refine PJ.again (Rw.row vV pd qK,js++[jn]) ⟨(xY hnd gB jB lR).1,(xY hnd gB jB lR).2.1,nt.elim (λh=>Rw.Fr_at bG h) (λh=>.inr h),by rw[n4i jB gO];exact lj⟩ RY ⟨rfl,by rw[n4i jB gO];rfl,rfl,rfl,trivial⟩ (by rw[n4i jB gO];rfl) rfl z1
 intro aj;refine B 2 ?_;refine PJ.again (r,js++[jn]) ⟨(xY hnd gB jB lR).1,(xY hnd gB jB lR).2.1,bG,by rw[nkm jB oC];exact al⟩ RY ⟨rfl,by rw[nkm jB oC];rfl,rfl,rfl,trivial⟩ (by rw[nkm jB oC];rfl) rfl z1
theorem Hg(xs:List Int)(cb:xs.length<=100000)(N:Nat)(a:Option Addr)(cp:Nat)(w:World)(hN:N<=w.heap.size)(aJ:ah encI 1 N w a xs)(v:Int):Calls prog 117 #[.slice a xs.length cp,.int .i64 v] w (cu w (λi:Int=>.int .i64 i) (λi _=>cR (λx=>decide (v=x)) xs i)):=by
 refine enter (vs:=[_,_]) func117 rfl ntmps117 rfl ?_;refine B 14 ?_;refine CJ.loop (α:=Nat) (λj=>[(0,.slice a xs.length cp),(1,.int .i64 v),(7,.int .i64 (xs.length:Int)),(8,.int .i64 (j:Int))]) (λj=>[]) (λj=>[w]) (λj=>Gh.no) (λj=>j<=xs.length/\fw (λx=>decide (v=x)) xs j) (λj=>xs.length-j) 0 ⟨cZ _,λi x hi=>absurd hi zM⟩ zR rfl rfl z1 ?_;rintro j ⟨hj,dO⟩;refine B 6 ?_;refine aK ?_ ?_
 ·intro aj;refine B 11 ?_;obtain⟨bo,oo,cs0,to,fp,rfl,ft,hcs,ar⟩:=aJ.get zM;obtain⟨x,hx⟩:=nk xs j zM;refine B 5 ?_;refine rv rfl rfl rfl (aa (v:=.int .i64 x) isAgg3 rfl A0 hcs zX trivial (nS ar hx rfl zQ)) ?_;refine B 3 ?_;refine aK ?_ ?_
  ·intro aN;refine B 12 ?_;refine jG (j:Int) results117 rfl A0 rfl ?_;exact λW hS=>.inr ⟨j,x,rfl,hx,by simp_all,dO⟩
  exact F8
 intro aj;refine B 11 ?_;refine jG (-1:Int) results117 rfl A0 rfl ?_;exact F9
theorem nag(xs:List Int)(cb:xs.length<=100000)(N:Nat)(a:Option Addr)(cp:Nat)(w:World)(hN:N<=w.heap.size)(aJ:ah encI 1 N w a xs)(v:Int):Calls prog 76 #[.slice a xs.length cp,.int .i64 v] w (av w (.bool (xs.any λx=>decide (v=x)))):=by
 refine enter (vs:=[_,_]) func76 rfl ntmps76 rfl ?_;refine B 9 ?_;refine nu (α:=Int) (v:=λi:Int=>.int .i64 i) (Φ:=λ_ i _=>cR (λx=>decide (v=x)) xs i) call117 rfl rfl rfl (λW hS=>Hg xs cb N a cp W (aS hN (hS.links w A0).size) (aJ.up (ao _) (hS.same A0 hN zU zP)) v) ?_;intro Wi i wi sj sk hi;refine B 5 ?_;refine ax results76 rfl A1 ?_;exact vb hi.any
theorem nEm(n c:Nat)(w:World):Calls prog 81 #[.slice none n c] w (nC w ai 1 3 ([]:List Int) id):=by
 refine enter (vs:=[_]) func81 rfl ntmps81 rfl ?_;refine B 9 ?_;refine rr (.bool true) (mC underlying44 rfl rfl) ?_;refine B 10 ?_;exact nU (H0:=[]) (H1:=[]) (r:=.nil) (.inl rfl) results81 (RS.t rfl RS.n) A0 trivial rfl rfl True.intro rfl
theorem npl(xs:List Int)(cb:xs.length<=100000)(N:Nat)(q:Addr)(cp:Nat)(w:World)(hN:N<=w.heap.size)(aJ:ah encI 1 N w (some q) xs):Calls prog 81 #[.slice (some q) xs.length cp] w (nC w ai 1 3 xs id):=by
 refine enter (vs:=[_]) func81 rfl ntmps81 rfl ?_;refine B 9 ?_;refine rr (.bool false) (qI underlying44 rfl rfl) ?_;refine B 7 ?_;refine vo ?_;refine yW ?_;intro b5 gQ gR;refine B 1 ?_;refine S4 (xs:=([]:List Int)) (zs:=xs) (enc:=ai) (m:=1) (H0:=[]) (H1:=[]) (sp:=[]) (by rfl) DJ nr rfl rfl rfl rfl (dt.sl nr DL underlying44 A0 aJ (λb hb=>⟨λh=>h,by simp only[bE,and_true];omega⟩)) ⟨ao _,rfl⟩ (.inr zZ) jZ ?_;intro b7 DR Mf oy gk;have sy:w.heap.size<=b7:=by rcases oy with h|h;(omega);exact h.not A0
 rw[dX]at gk ⊢;refine B 4 ?_;exact nU (H0:=[]) (H1:=[]) (r:=.row b7 DR Mf) (.inl rfl) results81 (RS.t rfl RS.n) A0 Xt rfl gk sy (by rfl)
theorem nQn(xs:List Int)(cb:xs.length<=100000)(N:Nat)(a:Option Addr)(cp:Nat)(w:World)(hN:N<=w.heap.size)(aJ:ah encI 1 N w a xs):Calls prog 81 #[.slice a xs.length cp] w (nC w ai 1 3 xs id):=by
 cases a with
 |none=>
  have h0:xs=[]:=by rcases aJ with h|⟨b,off,cs,t,fr,h,_⟩;(exact h);cases h
  subst h0;exact nEm 0 cp w
 |some q=>exact npl xs cb N q cp w hN aJ
end Px
