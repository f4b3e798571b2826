/- Contracts of functions of the program. No condition beyond those stated. -/
import Derived.Test.YtpgobjebhigaoaaGreatDoorKf
import Derived.Test.YtpgobjebhigaoaaGreatDoorProg
import Derived.Shelf.Small.Strs
import Derived.Test.YtpgobjebhigaoaaGreatDoorLa
set_option linter.unusedSimpArgs false
set_option linter.unusedVariables false
set_option linter.unusedSectionVars false
set_option linter.unnecessarySimpa false
set_option maxRecDepth 20000
set_option maxHeartbeats 8000000
namespace Px
open Go Go.RowKit Go.Proofs Go.Proofs.Tryz
structure Fo where
 id:Int
 first:Nat->Int
def qw (f:Fo):Array Value:=#[.int .i64 f.id,.int .u8 (f.first 0),.int .u8 (f.first 1),.int .u8 (f.first 2),.int .u8 (f.first 3),.int .u8 (f.first 4),.int .u8 (f.first 5),.int .u8 (f.first 6),.int .u8 (f.first 7),.int .u8 (f.first 8),.int .u8 (f.first 9),.int .u8 (f.first 10),.int .u8 (f.first 11),.int .u8 (f.first 12),.int .u8 (f.first 13),.int .u8 (f.first 14),.int .u8 (f.first 15),.int .u8 (f.first 16),.int .u8 (f.first 17),.int .u8 (f.first 18),.int .u8 (f.first 19),.int .u8 (f.first 20),.int .u8 (f.first 21),.int .u8 (f.first 22),.int .u8 (f.first 23),.int .u8 (f.first 24),.int .u8 (f.first 25),.int .u8 (f.first 26),.int .u8 (f.first 27),.int .u8 (f.first 28),.int .u8 (f.first 29),.int .u8 (f.first 30),.int .u8 (f.first 31)]
def g0 (f:Fo):Gp:=⟨f.id,0,λ_=>0,[],[]⟩
def Sr (f:Fo):Gv:=⟨g0 f,none,0,none,0⟩
theorem Ls(f:Fo)(N:Nat)(w:World):aL N w (Sr f):=⟨.inl rfl,.inl rfl,by simp[Sr,g0],by simp[Sr,g0]⟩
theorem nwo(l:List Dk)(k:Dk):lv l k= -1\/∃j:Nat,lv l k=(j:Int)/\l[j]? =some k:=by
 unfold lv;cases h:l.findIdx? λx=>decide (x=k)with
 |none=>exact .inl rfl
 |some j=>
  obtain⟨h1,h2,_⟩:=Uh.1 h;refine .inr ⟨j,rfl,?_⟩;rw[gB h1];simpa using h2
noncomputable def Wb (Z:Fx) (cs:List Cm) (f:Fo):Option Nat:=if lv ((aY Z cs cs.length).map (·.1)) (dk f.first)<0 then none else((aY Z cs cs.length)[(lv ((aY Z cs cs.length).map (·.1)) (dk f.first)).toNat]?).map λp=>p.2.toNat
noncomputable def AG (Z:Fx) (cs:List Cm) (f:Fo):Option Nat:=(Wb Z cs f).bind λi=>if kP Z (g0 f) (Fs cs i)=0 then some i else none
structure tu (Z:Fx) (cs:List Cm) (g:Gp) (d:Cd):Prop where
 nn:0<=d.at_
 at_:cs[oB d]? =some d.c
 x:d.x.g=Ai Z g d.c
 ok:kP Z g d.c=0
variable {C:Cx} {R:Ending->World->Prop} {E:Env} {M:aB} {Z:Fx} {G:Gh} {g:Gp} {H H0:ab} {D:List Deferred} {js:List Nat} {L L':List World} {N b i j m:Nat} {fr:Nat×Nat} {o:Obj} {a:Option Addr} {r:Rw} {W W':World} {I:World->Prop}
theorem mw.le{cs:List Cm}{d:Cd}(h:mw Z cs g d):tu Z cs g d:=⟨h.nn,h.at_,h.x,h.ok⟩
def mx (b:Nat) (x:Gv):Prop:=(∀q,x.ma=some q->x.g.ms=[]\/q.block≠b)/\(∀q,x.na=some q->x.g.ns=[]\/q.block≠b)
theorem aS.off{K:Nat}{x:Gv}(h:(∀q,x.ma=some q->K<=q.block)/\(∀q,x.na=some q->K<=q.block))(hb:b<K):mx b x:=⟨λq e=>.inr (by have:=h.1 q e;omega),λq e=>.inr (by have:=h.2 q e;omega)⟩
theorem ag.ltq{α:Type}{enc:α->Array Value}{n:Nat}{w:World}{xs:List α}(h:ag enc n N w a xs):∀q,a=some q->xs=[]\/q.block<N:=by
 intro q e;rcases h with h|⟨b,off,cs,t,fr,h1,h2,_⟩
 ·exact .inl h
 rw[h1]at e;cases e;exact .inr h2
theorem aL.off{w:World}{x:Gv}(h:aL N w x)(hb:N<=b):mx b x:=⟨λq e=>(h.ms.ltq q e).imp id (λh=>by omega),λq e=>(h.ns.ltq q e).imp id (λh=>by omega)⟩
theorem aL.toO{w:World}{x:Gv}(h:aL N w x)(hS:St Gh.no L H W)(hw:w∈L)(hN:N<=w.heap.size)(ho:∀p∈H,mx p.1 x):aL W.heap.size W x:=by
 have key:∀b,(∀p∈H,p.1≠b)->bD H b:=λb hb=>bD.of_mem (λhm=>by obtain⟨p,hp,e⟩:=bW.1 hm;exact hb p hp e);refine⟨h.ms.toG hS hw hN (λb off e=>?_),h.ns.toG hS hw hN (λb off e=>?_),h.mn,h.nn⟩
 ·by_cases h0:x.g.ms=[]
  ·exact .inl h0
  exact .inr (λ_=>⟨λh=>h,key b (λp hp e2=>((ho p hp).1 _ e).resolve_left h0 e2.symm)⟩)
 by_cases h0:x.g.ns=[]
 ·exact .inl h0
 exact .inr (λ_=>⟨λh=>h,key b (λp hp e2=>((ho p hp).2 _ e).resolve_left h0 e2.symm)⟩)
theorem nOn(hZ:FxOk Z)(cs:List Cm)(hcs:cs.length<=1000)(dt:∀c∈cs,cx c)(N:Nat)(la:Option Addr)(lc:Nat)(w:World)(hN:N<=w.heap.size)(aH:ag dI 73 N w la cs)(hC:∀c∈cs,dB N w c)(ia:Option Addr)(ic:Nat)(ta:Option Addr)(tc:Nat)(hp:ly Z cs N w ⟨ia,ic,ta,tc⟩)(fo:Fo)(hg:Glb w):Calls prog 51 #[.agg (vA Z cs la lc ⟨ia,ic,ta,tc⟩),.agg (qw fo)] w (cJ w (λq:Cd×Bool=>.tuple #[.agg (dw q.1),.bool q.2]) (λq w'=>(q.2=true/\AG Z cs fo=some (oB q.1)/\tu Z cs (g0 fo) q.1/\aL w'.heap.size w' q.1.x/\aS w.heap.size q.1.x)\/(q.2=false/\AG Z cs fo=none))):=by
 have eE:=hg.lt;have hpl:=NS Z cs cs.length;have mE:((aY Z cs cs.length).map (·.1)).length=(aY Z cs cs.length).length:=fp ..;have Hy:((aY Z cs cs.length).map (·.2)).length=(aY Z cs cs.length).length:=fp ..;have Az:=hp.ids;have AA:=hp.at_;dsimp only at Az AA;obtain⟨k,hk0⟩:∃k,lv ((aY Z cs cs.length).map (·.1)) (dk fo.first)=k:=⟨_,rfl⟩;refine enter (vs:=[_,_]) func51 rfl ntmps51 rfl ?_;refine B 2 ?_;refine yX ?_;intro b2 w2 aU aN dY cR cX;refine yX ?_;intro b3 w3 aM aD da cd cP;refine NY ?_;refine yW ?_;intro b4 dO dU;refine B 6 ?_;refine rr (.slice ia ((aY Z cs cs.length).map (·.1)).length ic) (aa isAgg41 rfl A1 aU aN zI rfl) ?_;refine B 1 ?_;refine rr (.agg (dg fo.first)) (ai isAgg34 sizeOf34 rfl A0 aM aD zI (bj rfl)) ?_;refine call call100 rfl rfl rfl (λW hS=>by rw[<-hk0];exact Ar ((aY Z cs cs.length).map (·.1)) zJ N ia ic W (aR hN (hS.links w A2).size) (Az.up (ao _) (hS.same A2 hN zS zM)) fo.first) (v:=.int .i64 k) ?_;refine B 5 ?_;rcases nwo ((aY Z cs cs.length).map (·.1)) (dk fo.first)with hd1|⟨j,hd1,yp⟩
 ·have hk:k= -1:=by rw[<-hk0];exact hd1
  refine B 2 ?_;refine He ?_;refine B 5 ?_;refine rr (.agg (dw uC)) (aO (i:=0) rfl isAgg101 sizeOf101 rfl rfl) ?_;refine Lr ?_;refine B 5 ?_;refine bH (.inl rfl) results51 (RS.wA (i:=0) rfl isAgg101 sizeOf101 rfl (bj rfl) (RS.t rfl RS.n)) λW hS=>⟨(uC,false),rfl,hS.base A2 zM,.inr ⟨rfl,?_⟩⟩;show AG Z cs fo=none;unfold AG Wb;rw[hd1,if_pos zJ];rfl
 have hk:k=(j:Int):=by rw[<-hk0];exact hd1
 refine Jr ?_;refine B 6 ?_;obtain⟨q,hq⟩:=nj (aY Z cs cs.length) j (by have:=nE yp;omega);obtain⟨i,c,Lh,rO,hc,V6⟩:=VV Z cs _ q (cb hq);have R1:((aY Z cs cs.length).map (·.2))[j]? =some ((i:Nat):Int):=by rw[qp,hq,uW,Lh]
 have B4:=nE R1;have hcm:=cb hc;obtain⟨e,he⟩:∃e,kP Z (g0 fo) c=e:=⟨_,rfl⟩;subst hk;obtain⟨ba,oa,csa,ta,fra,rfl,hba,AD,Si⟩:=AA.get zJ;obtain⟨bl,ol,csl,tl,frl,rfl,jf,ts,lA⟩:=aH.get zJ;have hk:lv ((aY Z cs cs.length).map (·.1)) (dk fo.first)=(j:Int):=hd1;refine ng (E':=[(0,_),(1,_),(2,_),(3,_),(4,_),(5,_),(6,_),(9,_),(10,_),(11,_),(12,_),(13,_),(14,_),(15,_)]) zR ?_;refine CJ.ntS 18 [12,13,14,16,17] [([],some _),([0],some (.int .i64 fo.id)),([1],some (.agg (bC (Sr fo)))),([],some _),([3],some (.slice (some ⟨bl,ol,none⟩) cs.length lc)),([],some _),([5],some (.slice (some ⟨ba,oa,none⟩) ((aY Z cs cs.length).map (·.2)).length tc)),([],some _),([6,7],some _),([8],some (.int .i64 (i:Int))),([4,9],some _),([10],some (.agg (dI c))),([2,11],none),([12],none),([13],none),([13],some (.int .i64 e)),([],none),([14,16],none)] [[],[0],[0,1],[],[0,1,2,3]] (λcv L' H'=>match cv with| [none,none,none,none,none]=>L'=[w3,w2,w]/\H'=[(b4,.cells (dw uC) 101 (0,0))]| [none,none,none,some rn,none]=>∃(b7:Nat),rn=ptr b7 0/\L'=[w3,w2,w]/\H'=[(b7,.cells (bC jV) 57 (0,0)),(b4,.cells (dw uC) 101 (0,0))]/\w3.heap.size<=b7| [some v12,none,none,none,none]=>∃(Xn:Gv) (dC:World),v12= .tuple #[.agg (bC Xn),.int .i64 e]/\L'=[dC,w3,w2,w]/\H'=[(b4,.cells (dw uC) 101 (0,0))]/\Xn.g=rM Z (g0 fo) c/\aL dC.heap.size dC Xn/\mx b4 Xn/\aS w.heap.size Xn| [some v12,none,none,some rn,none]=>∃(Xn:Gv) (dC:World) (b7:Nat),v12= .tuple #[.agg (bC Xn),.int .i64 e]/\rn=ptr b7 0/\L'=[dC,w3,w2,w]/\H'=[(b7,.cells (bC jV) 57 (0,0)),(b4,.cells (dw uC) 101 (0,0))]/\Xn.g=rM Z (g0 fo) c/\aL dC.heap.size dC Xn/\mx b4 Xn/\aS w.heap.size Xn/\w3.heap.size<=b7/\mx b7 Xn| [some v12,some jW,none,none,none]=>∃(Xn:Gv) (dC:World),v12= .tuple #[.agg (bC Xn),.int .i64 e]/\jW= .tuple #[.agg (bC Xn),.int .i64 e]/\L'=[dC,w3,w2,w]/\H'=[(b4,.cells (dw uC) 101 (0,0))]/\Xn.g=rM Z (g0 fo) c/\aL dC.heap.size dC Xn/\mx b4 Xn/\aS w.heap.size Xn| [some v12,some jW,none,some rn,none]=>∃(Xn:Gv) (dC:World) (b7:Nat),v12= .tuple #[.agg (bC Xn),.int .i64 e]/\jW= .tuple #[.agg (bC Xn),.int .i64 e]/\rn=ptr b7 0/\L'=[dC,w3,w2,w]/\H'=[(b7,.cells (bC jV) 57 (0,0)),(b4,.cells (dw uC) 101 (0,0))]/\Xn.g=rM Z (g0 fo) c/\aL dC.heap.size dC Xn/\mx b4 Xn/\aS w.heap.size Xn/\w3.heap.size<=b7/\mx b7 Xn| [some v12,some jW,some mF,none,none]=>∃(Xn:Gv) (dC:World),v12= .tuple #[.agg (bC Xn),.int .i64 e]/\jW= .tuple #[.agg (bC Xn),.int .i64 e]/\mF= .agg (bC Xn)/\L'=[dC,w3,w2,w]/\H'=[(b4,.cells (dw uC) 101 (0,0))]/\Xn.g=rM Z (g0 fo) c/\aL dC.heap.size dC Xn/\mx b4 Xn/\aS w.heap.size Xn| [some v12,some jW,some mF,some rn,none]=>∃(Xn:Gv) (dC:World) (b7:Nat),v12= .tuple #[.agg (bC Xn),.int .i64 e]/\jW= .tuple #[.agg (bC Xn),.int .i64 e]/\mF= .agg (bC Xn)/\rn=ptr b7 0/\L'=[dC,w3,w2,w]/\H'=[(b7,.cells (bC jV) 57 (0,0)),(b4,.cells (dw uC) 101 (0,0))]/\Xn.g=rM Z (g0 fo) c/\aL dC.heap.size dC Xn/\mx b4 Xn/\aS w.heap.size Xn/\w3.heap.size<=b7/\mx b7 Xn| [some v12,some jW,some mF,some rn,some v17]=>∃(Xn:Gv) (dC:World) (b7:Nat),v12= .tuple #[.agg (bC Xn),.int .i64 e]/\jW= .tuple #[.agg (bC Xn),.int .i64 e]/\mF= .agg (bC Xn)/\rn=ptr b7 0/\v17= .tuple #[]/\L'=[dC,w3,w2,w]/\H'=[(b7,.cells (bC Xn) 57 (0,0)),(b4,.cells (dw uC) 101 (0,0))]/\Xn.g=rM Z (g0 fo) c/\aL dC.heap.size dC Xn/\mx b4 Xn/\aS w.heap.size Xn/\w3.heap.size<=b7/\mx b7 Xn|_=>False) zQ ⟨rfl,rfl⟩ zQ zQ zQ zQ zQ zQ zQ rfl (qc (by exact λcv L' H' _ _ hP=>X.val rfl rfl (al underlying50 rfl sizeOf3 rfl) R2) (qc Ss (qc (by exact λcv L' H' _ _ hP=>X.val rfl rfl (bY underlying57 zeroValue57 (bA.c sizeOf3 (bA.c sizeOf3 (bA.c sizeOf34 (bA.c sizeOf52 (bA.c sizeOf55 (bA.n)))))) rfl rfl) R2) (qc (by exact λcv L' H' _ _ hP=>X.val rfl rfl (al underlying92 rfl sizeOf24 rfl) R2) (qc Ss (qc (by exact λcv L' H' _ _ hP=>X.val rfl rfl (al underlying92 rfl sizeOf44 rfl) R2) (qc Ss (qc R4 (qc (by exact λcv L' H' _ _ hP=>X.val rfl rfl (cD underlying44 sizeOf3 rfl rfl zJ zJ) R2) (qc Ss (qc (by exact λcv L' H' _ _ hP=>X.val rfl rfl (cD underlying24 sizeOf99 rfl rfl zJ zJ) R2) (qc Ss (qk (qk (qk (qc (λcv L' H' hl hd hP=>by obtain⟨eY,ix,jG,tv,tw,rfl⟩:=gT hl;(rcases eY with _|v12<;>rcases ix with _|jW<;>rcases jG with _|mF<;>rcases tv with _|rn<;>rcases tw with _|v17<;>try exact False.elim hP);exact(absurd (show false=true from hd) zO);exact(absurd (show false=true from hd) zO);exact(absurd (show false=true from hd) zO);exact(absurd (show false=true from hd) zO);(obtain⟨Xn,dC,rfl,rfl,rfl,rfl,eQ,gy,iQ,iR⟩:=hP;exact X.val rfl rfl (gk rfl rfl) R2);(obtain⟨Xn,dC,b7,rfl,rfl,rfl,rfl,rfl,eQ,gy,iQ,iR,gd,mM⟩:=hP;exact X.val rfl rfl (gk rfl rfl) R2);(obtain⟨Xn,dC,rfl,rfl,rfl,rfl,rfl,eQ,gy,iQ,iR⟩:=hP;exact X.val rfl rfl (gk rfl rfl) R2);(obtain⟨Xn,dC,b7,rfl,rfl,rfl,rfl,rfl,rfl,eQ,gy,iQ,iR,gd,mM⟩:=hP;exact X.val rfl rfl (gk rfl rfl) R2);(obtain⟨Xn,dC,b7,rfl,rfl,rfl,rfl,rfl,rfl,rfl,eQ,gy,iQ,iR,gd,mM⟩:=hP;exact X.val rfl rfl (gk rfl rfl) R2)) (qk (qk (qn))))))))))))))))))) ?_ ?_
 ·refine Su rfl rfl rfl ?_ ?_
  ·intro cv L' H' hl hr hP F Q' hk;obtain⟨eY,ix,jG,tv,tw,rfl⟩:=gT hl;rcases eY with _|v12<;>rcases ix with _|jW<;>rcases jG with _|mF<;>rcases tv with _|rn<;>rcases tw with _|v17<;>try exact False.elim hP
   ·obtain⟨rfl,rfl⟩:=hP;refine zUe ?_;rintro W9 Xn dC kL ui ⟨eQ,gy,CM⟩;try dsimp only at eQ gy CM
    have rp:=kL.lt (b4,_) A0;try dsimp only at rp
    have AH:=(kL.links w A2).size;have iQ:=aS.off CM rp;have iR:aS w.heap.size Xn:=⟨λq e=>.inr (aR AH (CM.1 q e)),λq e=>.inr (aR AH (CM.2 q e))⟩;exact OJ.done (hk _ _ _ ⟨Xn,dC,rfl,rfl,rfl,eQ,gy,iQ,iR⟩)
   ·obtain⟨b7,rfl,rfl,rfl,gd⟩:=hP;refine zUe ?_;rintro W9 Xn dC kL ui ⟨eQ,gy,CM⟩;try dsimp only at eQ gy CM
    have rp:=kL.lt (b4,_) A1;try dsimp only at rp
    have Sv:=kL.lt (b7,_) A0;try dsimp only at Sv
    have AH:=(kL.links w A2).size;have iQ:=aS.off CM rp;have iR:aS w.heap.size Xn:=⟨λq e=>.inr (aR AH (CM.1 q e)),λq e=>.inr (aR AH (CM.2 q e))⟩;have mM:=aS.off CM Sv;exact OJ.done (hk _ _ _ ⟨Xn,dC,b7,rfl,rfl,rfl,rfl,eQ,gy,iQ,iR,gd,mM⟩)
   ·exact aE
   ·exact aE
   ·exact aE
   ·exact aE
   ·exact aE
   ·exact aE
   exact aE
  refine Su rfl rfl rfl ?_ ?_
  ·intro cv L' H' hl hr hP F Q' hk;obtain⟨eY,ix,jG,tv,tw,rfl⟩:=gT hl;rcases eY with _|v12<;>rcases ix with _|jW<;>rcases jG with _|mF<;>rcases tv with _|rn<;>rcases tw with _|v17<;>try exact False.elim hP
   ·exact aE
   ·exact aE
   ·obtain⟨Xn,dC,rfl,rfl,rfl,eQ,gy,iQ,iR⟩:=hP;refine B 1 ?_;exact OJ.done (hk _ _ _ ⟨Xn,dC,rfl,rfl,rfl,rfl,eQ,gy,iQ,iR⟩)
   ·obtain⟨Xn,dC,b7,rfl,rfl,rfl,rfl,eQ,gy,iQ,iR,gd,mM⟩:=hP;refine B 1 ?_;exact OJ.done (hk _ _ _ ⟨Xn,dC,b7,rfl,rfl,rfl,rfl,rfl,eQ,gy,iQ,iR,gd,mM⟩)
   ·exact aE
   ·exact aE
   ·exact aE
   ·exact aE
   exact aE
  refine Su rfl rfl rfl ?_ ?_
  ·intro cv L' H' hl hr hP F Q' hk;obtain⟨eY,ix,jG,tv,tw,rfl⟩:=gT hl;rcases eY with _|v12<;>rcases ix with _|jW<;>rcases jG with _|mF<;>rcases tv with _|rn<;>rcases tw with _|v17<;>try exact False.elim hP
   ·exact aE
   ·exact aE
   ·exact aE
   ·exact aE
   ·obtain⟨Xn,dC,rfl,rfl,rfl,rfl,eQ,gy,iQ,iR⟩:=hP;refine B 1 ?_;exact OJ.done (hk _ _ _ ⟨Xn,dC,rfl,rfl,rfl,rfl,rfl,eQ,gy,iQ,iR⟩)
   ·obtain⟨Xn,dC,b7,rfl,rfl,rfl,rfl,rfl,eQ,gy,iQ,iR,gd,mM⟩:=hP;refine B 1 ?_;exact OJ.done (hk _ _ _ ⟨Xn,dC,b7,rfl,rfl,rfl,rfl,rfl,rfl,eQ,gy,iQ,iR,gd,mM⟩)
   ·exact aE
   ·exact aE
   exact aE
  refine Su rfl rfl rfl ?_ ?_
  ·intro cv L' H' hl hr hP F Q' hk;obtain⟨eY,ix,jG,tv,tw,rfl⟩:=gT hl;rcases eY with _|v12<;>rcases ix with _|jW<;>rcases jG with _|mF<;>rcases tv with _|rn<;>rcases tw with _|v17<;>try exact False.elim hP
   ·obtain⟨rfl,rfl⟩:=hP;refine rL ?_;intro b7 ha ho;exact OJ.done (hk _ _ _ ⟨b7,rfl,rfl,rfl,(ha.mem w3 zX)⟩)
   ·exact aE
   ·obtain⟨Xn,dC,rfl,rfl,rfl,eQ,gy,iQ,iR⟩:=hP;refine rL ?_;intro b7 ha ho;have mM:mx b7 Xn:=gy.off (by have:=ha.not (w:=dC) A0;omega);exact OJ.done (hk _ _ _ ⟨Xn,dC,b7,rfl,rfl,rfl,rfl,eQ,gy,iQ,iR,(ha.mem w3 zX),mM⟩)
   ·exact aE
   ·obtain⟨Xn,dC,rfl,rfl,rfl,rfl,eQ,gy,iQ,iR⟩:=hP;refine rL ?_;intro b7 ha ho;have mM:mx b7 Xn:=gy.off (by have:=ha.not (w:=dC) A0;omega);exact OJ.done (hk _ _ _ ⟨Xn,dC,b7,rfl,rfl,rfl,rfl,rfl,eQ,gy,iQ,iR,(ha.mem w3 zX),mM⟩)
   ·exact aE
   ·obtain⟨Xn,dC,rfl,rfl,rfl,rfl,rfl,eQ,gy,iQ,iR⟩:=hP;refine rL ?_;intro b7 ha ho;have mM:mx b7 Xn:=gy.off (by have:=ha.not (w:=dC) A0;omega);exact OJ.done (hk _ _ _ ⟨Xn,dC,b7,rfl,rfl,rfl,rfl,rfl,rfl,eQ,gy,iQ,iR,(ha.mem w3 zX),mM⟩)
   ·exact aE
   exact aE
  refine Su rfl rfl rfl ?_ ?_
  ·intro cv L' H' hl hr hP F Q' hk;obtain⟨eY,ix,jG,tv,tw,rfl⟩:=gT hl;rcases eY with _|v12<;>rcases ix with _|jW<;>rcases jG with _|mF<;>rcases tv with _|rn<;>rcases tw with _|v17<;>try exact False.elim hP
   ·exact aE
   ·exact aE
   ·exact aE
   ·exact aE
   ·exact aE
   ·exact aE
   ·exact aE
   ·obtain⟨Xn,dC,b7,rfl,rfl,rfl,rfl,rfl,rfl,eQ,gy,iQ,iR,gd,mM⟩:=hP;refine NO ?_;exact OJ.done (hk (.tuple #[]) _ _ ⟨Xn,dC,b7,rfl,rfl,rfl,rfl,rfl,rfl,rfl,eQ,gy,iQ,iR,gd,mM⟩)
   exact aE
  exact nnS
 intro cv L' H' hl hr hP;obtain⟨eY,ix,jG,tv,tw,rfl⟩:=gT hl;rcases eY with _|v12<;>rcases ix with _|jW<;>rcases jG with _|mF<;>rcases tv with _|rn<;>rcases tw with _|v17
 ·exact aE
 ·exact aE
 ·exact aE
 ·exact aE
 ·exact aE
 ·exact aE
 ·exact aE
 ·exact aE
 ·exact aE
 ·exact aE
 ·exact aE
 ·exact aE
 ·exact aE
 ·exact aE
 ·exact aE
 ·exact aE
 ·exact aE
 ·exact aE
 ·exact aE
 ·exact aE
 ·exact aE
 ·exact aE
 ·exact aE
 ·exact aE
 ·exact aE
 ·exact aE
 ·exact aE
 ·exact aE
 ·exact aE
 ·exact aE
 ·exact aE
 obtain⟨Xn,dC,b7,rfl,rfl,rfl,rfl,rfl,rfl,rfl,eQ,gy,iQ,iR,gd,mM⟩:=hP;refine B 4 ?_;refine ng (E':=[(0,_),(1,_),(2,_),(3,_),(4,_),(5,_),(6,_),(7,_),(8,_),(9,_),(10,_),(11,_),(12,_),(13,_),(14,_),(15,_),(17,_),(18,_),(19,_),(20,_),(21,_),(22,_),(23,_),(24,_),(25,_),(26,_),(27,_),(28,_),(29,_),(30,_),(31,_),(32,_)]) zR ?_;refine RM 21 [20] [([],some _),([0],some (.slice (some ⟨ba,oa,none⟩) ((aY Z cs cs.length).map (·.2)).length tc)),([],some _),([1,2],some _),([3],some (.int .i64 (i:Int))),([],some _),([5],some (.slice (some ⟨bl,ol,none⟩) cs.length lc)),([],some _),([7],some (.slice (some ⟨ba,oa,none⟩) ((aY Z cs cs.length).map (·.2)).length tc)),([],some _),([8,9],some _),([10],some (.int .i64 (i:Int))),([6,11],some _),([12],some (.agg (dI c))),([],some _),([14],some (.agg (dg fo.first))),([],some (.agg (bC Xn))),([4,13,15,16],some (.agg (dw (⟨(i:Int),c,fo.first,0,Xn⟩:Cd)))),([],some _),([18],some _),([17],none)] (λcv L' H'=>match cv with| []=>L'=[dC,w3,w2,w]/\H'=[(b7,.cells (bC Xn) 57 (0,0)),(b4,.cells (dw uC) 101 (0,0))]| [v1]=>v1= .tuple #[]/\L'=[dC,w3,w2,w]/\H'=[(b7,.cells (bC Xn) 57 (0,0)),(b4,.cells (dw (⟨(i:Int),c,fo.first,0,Xn⟩:Cd)) 101 (0,0))]|_=>False) zQ ⟨rfl,rfl⟩ zQ zQ zQ zQ zQ zQ zQ (pc (by exact λcv L' H' hd hP=>X.val rfl rfl (al underlying92 rfl sizeOf44 rfl) R2) (pc CN (pc zT (pc (by exact λcv L' H' hd hP=>X.val rfl rfl (cD underlying44 sizeOf3 rfl rfl zJ zJ) R2) (pc CN (pc (by exact λcv L' H' hd hP=>X.val rfl rfl (al underlying92 rfl sizeOf24 rfl) R2) (pc CN (pc (by exact λcv L' H' hd hP=>X.val rfl rfl (al underlying92 rfl sizeOf44 rfl) R2) (pc CN (pc zT (pc (by exact λcv L' H' hd hP=>X.val rfl rfl (cD underlying44 sizeOf3 rfl rfl zJ zJ) R2) (pc CN (pc (by exact λcv L' H' hd hP=>X.val rfl rfl (cD underlying24 sizeOf99 rfl rfl zJ zJ) R2) (pc CN (pc (by exact λcv L' H' hd hP=>X.val rfl rfl (al underlying50 rfl sizeOf34 rfl) R2) (pc CN (pc CN (pc zpc (pc zT (pc (by exact λcv L' H' hd hP=>X.val rfl rfl (er rfl rfl) R2) (pk (pn)))))))))))))))))))))) ?_ ?_
 ·refine ss rfl rfl ?_ ?_
  ·intro cv L' H' hl hP F Q' hk;obtain rfl:=iZ hl;obtain⟨rfl,rfl⟩:=hP;refine zdh ?_;exact OJ.done (hk (.tuple #[]) _ _ ⟨rfl,rfl,rfl⟩)
  exact Wf
 intro cv L' H' hl hP;obtain⟨v1,rfl⟩:=cM hl;obtain⟨rfl,rfl,rfl⟩:=hP;refine B 4 ?_;have hfo:Wb Z cs fo=some i:=by unfold Wb;rw[hk,if_neg zJ,uS,hq,uW,Lh,uS]
 have hcN:Fs cs i=c:=by unfold Fs;rw[hc];rfl
 refine bH (.inl rfl) results51 (RS.wA (i:=1) rfl isAgg101 sizeOf101 rfl (bj rfl) (RS.t rfl RS.n)) λW hS=>⟨((⟨(i:Int),c,fo.first,0,Xn⟩:Cd),decide (e=0)),rfl,hS.base A3 zM,?_⟩;by_cases N0:e=0
 ·refine .inl ⟨decide_eq_true N0,by unfold AG;rw[hfo,Option.bind_some,hcN,he,if_pos N0];rfl,⟨Int.natCast_nonneg _,hc,eQ.trans (if_pos (by rw[he];exact N0)),by rw[<-N0];exact he⟩,gy.toO hS A0 (ao _) (λp hp=>?_),iR⟩;simp only[cZ,eB,cI,fu,or_false]at hp;rcases hp with rfl|rfl
  ·exact mM
  exact iQ
 exact .inr ⟨decide_eq_false N0,by unfold AG;rw[hfo,Option.bind_some,hcN,he,if_neg N0]⟩
def CP (cs:List Cm) (e:Int):Nat:=(cs.filter λc=>decide (e<c.epoch)).length
theorem Lt(cs:List Cm)(e:Int):CP cs e<=cs.length:=yy _ _
theorem nul(e:Int):∀cs:List Cm,CP cs (e+1)<=CP cs e
 | []=>ao _
 |c::cs=>by
  have ih:=nul e cs;unfold CP at ih ⊢;by_cases h1:e+1<c.epoch
  ·rw[Lu zc,Lu jB];simp only[dQ];omega
  rw[Sw zc];by_cases h2:e<c.epoch
  ·rw[Lu HG];simp only[dQ];omega
  rw[Sw HG];exact ih
theorem nol{e:Int}{c:Cm}(he:c.epoch=e+1):∀{cs:List Cm},c∈cs->CP cs (e+1)<CP cs e
 | [],h=>by cases h
 |b::cs,h=>by
  rcases cI.1 h with rfl|h
  ·have ih:=nul e cs;unfold CP at ih ⊢;rw[Sw jB,Lu jB];simp only[dQ];omega
  have ih:=nol he h;unfold CP at ih ⊢;by_cases h1:e+1<b.epoch
  ·rw[Lu zc,Lu jB];simp only[dQ];omega
  rw[Sw zc];by_cases h2:e<b.epoch
  ·rw[Lu HG];simp only[dQ];omega
  rw[Sw HG];exact ih
theorem AI{c:Cm}{cs:List Cm}(h:c∈cs):1+CP cs c.epoch<=cs.length:=by
 have h1:=nol (e:=c.epoch-1) (c:=c) zJ h;rw[show c.epoch-1+1=c.epoch by omega]at h1;have:=Lt cs (c.epoch-1);omega
theorem nMo{c:Cm}(h:kP Z g c=0):c.epoch=g.epoch+1:=by
 unfold kP at h;split at h
 ·split at h
  ·split at h
   ·rename_i _ _ hf;unfold jN at hf;simp only[fm,decide_eq_true_eq]at hf;exact hf.1.2
   cases h
  cases h
 cases h
def H7 (Z:Fx) (cs:List Cm):Gp->List (Nat×Gp)->Prop
 |g,[]=>CL Z cs g=none
 |g,p::l=>CL Z cs g=some p.1/\p.2=Ai Z g (Fs cs p.1)/\H7 Z cs p.2 l
def my (Z:Fx) (cs:List Cm) (fo:Fo):List (Nat×Gp)->Prop
 | []=>AG Z cs fo=none
 |p::l=>AG Z cs fo=some p.1/\p.2=Ai Z (g0 fo) (Fs cs p.1)/\H7 Z cs p.2 l
theorem H7.uniq{Z:Fx}{cs:List Cm}:∀{l l':List (Nat×Gp)} {g:Gp},H7 Z cs g l->H7 Z cs g l'->l=l'
 | [],[],_,_,_=>rfl
 | [],p::l,_,h,h'=>by have:=h.symm.trans h'.1;cases this
 |p::l,[],_,h,h'=>by have:=h'.symm.trans h.1;cases this
 |p::l,q::l',g,h,h'=>by
  have e1:p.1=q.1:=Option.some.inj (h.1.symm.trans h'.1);have e2:p.2=q.2:=by rw[h.2.1,h'.2.1,e1]
  have e3:=H7.uniq h.2.2 (e2▸h'.2.2);rw[show p=q from Prod.ext e1 e2,e3]
variable {fo:Fo}
theorem my.uniq{cs:List Cm}:∀{l l':List (Nat×Gp)},my Z cs fo l->my Z cs fo l'->l=l'
 | [],[],_,_=>rfl
 | [],p::l,h,h'=>by have:=h.symm.trans h'.1;cases this
 |p::l,[],h,h'=>by have:=h'.symm.trans h.1;cases this
 |p::l,q::l',h,h'=>by
  have e1:p.1=q.1:=Option.some.inj (h.1.symm.trans h'.1);have e2:p.2=q.2:=by rw[h.2.1,h'.2.1,e1]
  have e3:=H7.uniq h.2.2 (e2▸h'.2.2);rw[show p=q from Prod.ext e1 e2,e3]
def p5 (d:Cd):Nat×Gp:=(oB d,d.x.g)
def dx (Y:aB) (x:Gv):Prop:=(∀q,x.ma=some q->x.g.ms=[]\/¬Y q.block)/\(∀q,x.na=some q->x.g.ns=[]\/¬Y q.block)
theorem aS.out{K:Nat}{Y:aB}{x:Gv}(h:aS K x)(hy:∀k,Y k->k<K):dx Y x:=⟨λq e=>(h.1 q e).imp id (λh h2=>by have:=hy _ h2;omega),λq e=>(h.2 q e).imp id (λh h2=>by have:=hy _ h2;omega)⟩
theorem aS.offb{K:Nat}{x:Gv}(h:aS K x)(hb:b<K):mx b x:=⟨λq e=>(h.1 q e).imp id (λh=>by omega),λq e=>(h.2 q e).imp id (λh=>by omega)⟩
theorem dx.up{w:World}{Y Y':aB}{x:Gv}(h:dx Y x)(ha:aL N w x)(hy:∀k,Y' k->Y k\/N<=k):dx Y' x:=
 ⟨λq e=>by
  rcases h.1 q e with h1|h1
  ·exact .inl h1
  rcases ha.ms.ltq q e with h2|h2
  ·exact .inl h2
  exact .inr (λh3=>(hy _ h3).elim h1 (λh4=>by omega)),
  λq e=>by
   rcases h.2 q e with h1|h1
   ·exact .inl h1
   rcases ha.ns.ltq q e with h2|h2
   ·exact .inl h2
   exact .inr (λh3=>(hy _ h3).elim h1 (λh4=>by omega))⟩
theorem aL.toZ{w:World}{x:Gv}(h:aL N w x)(hS:St G L H W)(hw:w∈L)(hN:N<=w.heap.size)(hx:dx G.X x)(ho:∀p∈H,mx p.1 x):aL W.heap.size W x:=by
 have key:∀b,(∀p∈H,p.1≠b)->bD H b:=λb hb=>bD.of_mem (λhm=>by obtain⟨p,hp,e⟩:=bW.1 hm;exact hb p hp e);refine⟨h.ms.toG hS hw hN (λb off e=>?_),h.ns.toG hS hw hN (λb off e=>?_),h.mn,h.nn⟩
 ·by_cases h0:x.g.ms=[]
  ·exact .inl h0
  exact .inr (λ_=>⟨(hx.1 _ e).resolve_left h0,key b (λp hp e2=>((ho p hp).1 _ e).resolve_left h0 e2.symm)⟩)
 by_cases h0:x.g.ns=[]
 ·exact .inl h0
 exact .inr (λ_=>⟨(hx.2 _ e).resolve_left h0,key b (λp hp e2=>((ho p hp).2 _ e).resolve_left h0 e2.symm)⟩)
structure Fu (Z:Fx) (cs:List Cm) (fo:Fo) (M:aB) (pre:List Cd) (d:Cd) (V:aB) (wk:World) (b4:Nat):Prop where
 next:∀l,H7 Z cs d.x.g l->my Z cs fo (pre.map p5++p5 d::l)
 lies:aL wk.heap.size wk d.x
 out:dx (λk=>M k\/V k) d.x
 off:mx b4 d.x
 mu:pre.length+1+CP cs d.x.g.epoch<=cs.length
theorem tu.nx{cs:List Cm}{d:Cd}(h:tu Z cs g d):d.x.g=Ai Z g (Fs cs (oB d)):=by rw[h.x];unfold Fs;rw[h.at_];rfl
theorem Fu.first{cs:List Cm}{d:Cd}{w9:World}{b4 K:Nat}(h:AG Z cs fo=some (oB d))(hd:tu Z cs (g0 fo) d)(ha:aL w9.heap.size w9 d.x)(hn:aS K d.x)(hM:∀k,M k->k<K)(hb:w9.heap.size<=b4):Fu Z cs fo M [] d (λ_=>False) w9 b4 where
 next:=λl hl=>⟨h,hd.nx,hl⟩
 lies:=ha
 out:=hn.out (λk hk=>hk.elim (hM k) (λh=>h.elim))
 off:=ha.off hb
 mu:=by
  have h1:=AI (cb hd.at_);rw[hd.x];simp only[mT,Ai];omega
theorem Fu.step{cs:List Cm}{V V2:aB}{pre:List Cd}{d d2:Cd}{wk w9:World}{b4 b5 K:Nat}(hc:Fu Z cs fo M pre d V wk b4)(h:CL Z cs d.x.g=some (oB d2))(hd:tu Z cs d.x.g d2)(ha:aL w9.heap.size w9 d2.x)(hn:aS K d2.x)(hM:∀k,M k->k<K)(hV:∀k,V2 k->k<K)(hb:b5<K):Fu Z cs fo M (pre++[d]) d2 V2 w9 b5 where
 next:=λl hl=>by
  have h1:=hc.next (p5 d2::l) ⟨h,hd.nx,hl⟩;rw[gP,iX];exact h1
 lies:=ha
 out:=hn.out (λk hk=>hk.elim (hM k) (hV k))
 off:=hn.offb hb
 mu:=by
  have h1:=hc.mu;have h2:=nMo hd.ok;have h3:=nol h2 (cb hd.at_);rw[hd.x];simp only[cK,dQ,mT,Ai,h2];omega
theorem Fu.stop{cs:List Cm}{V:aB}{pre:List Cd}{d:Cd}{wk:World}{b4:Nat}(hc:Fu Z cs fo M pre d V wk b4)(h:CL Z cs d.x.g=none):my Z cs fo ((pre++[d]).map p5):=by
 rw[gP];exact hc.next [] h
def AJ (NQ NR NX:Nat):aB:=λk=>k<NX/\(k<NQ\/NR<=k)
structure H8 (Z:Fx) (cs:List Cm) (la ia ta:Option Addr) (ic tc NQ NR NX:Nat) (W:World):Prop where
 q:NQ<=NX
 x:NX<=W.heap.size
 n3:5<=NQ
 sl:ag dI 73 NQ W la cs
 C:∀c∈cs,dB NQ W c
 p:ly Z cs NX W ⟨ia,ic,ta,tc⟩
 pi:∀q,ia=some q->NR<=q.block
 pt:∀q,ta=some q->NR<=q.block
 g:Glb W
theorem H8.args{cs:List Cm}{la ia ta:Option Addr}{ic tc NQ NR NX:Nat}(h:H8 Z cs la ia ta ic tc NQ NR NX W)(hs:W.heap.size<=W'.heap.size)(same:∀k,AJ NQ NR NX k->W'.heap[k]? =W.heap[k]?):ag dI 73 W'.heap.size W' la cs/\(∀c∈cs,dB W'.heap.size W' c)/\ly Z cs W'.heap.size W' ⟨ia,ic,ta,tc⟩/\Glb W':=by
 have hq:=h.q;have hx:=h.x;have h3:=h.n3
 have s2:∀k,k<NQ->W'.heap[k]? =W.heap[k]? :=λk hk=>same k ⟨by omega,.inl hk⟩;refine⟨h.sl.up zJ s2,λc hc=>(h.C c hc).up zJ s2,⟨h.p.ids.blk λb off e hb=>⟨by omega,same b ⟨hb,.inr (h.pi _ e)⟩⟩,h.p.at_.blk λb off e hb=>⟨by omega,same b ⟨hb,.inr (h.pt _ e)⟩⟩⟩,?_⟩;obtain⟨⟨t,fr,h0⟩,t2,ql,h2⟩:=h.g;exact⟨⟨t,fr,(s2 _ zJ).trans h0⟩,t2,ql,(s2 _ zJ).trans h2⟩
theorem H8.same{cs:List Cm}{la ia ta:Option Addr}{ic tc NQ NR NX:Nat}{V:aB}{hM:∀k,M k->k<W.heap.size/\¬(λ_=>False) k/\¬AJ NQ NR NX k}{hI:dW (λk=>(k<W.heap.size/\¬(λ_=>False) k)\/V k) I}(h:H8 Z cs la ia ta ic tc NQ NR NX W)(hS:St (cF hM V hI) L H W')(hw:W∈L)(hV:∀k,V k->W.heap.size<=k)(ho:Over W.heap.size H):∀k,AJ NQ NR NX k->W'.heap[k]? =W.heap[k]? :=λk hk=>by
 have hx:=h.x;have T8:=hk.1
 refine(hS.links W hw).block k zJ ?_;rintro((h1|h1)|h1)
 ·exact(hM k h1).2.2 hk
 ·have:=hV k h1;omega
 obtain⟨p,hp,rfl⟩:=bW.1 h1;have:=ho.mem p hp;omega
theorem nCo{c:Code}{Q:aC}(hi:H[i]? =some (b,o))(hb:ad L' b)(hs:∀w∈L',w∈L)(k:∀W,St G L H W->CJ C c Q E D G (W::L') (H.eraseIdx i)):CJ C c Q E D G L H:=
 λa W hN hD hF hS=>k W hS a W hN hD hF ((hS.lessL hs).dropAt hi hb).snap
theorem nko{α β:Type}{Sx:α->List Value}{zj:β->List Value}{A A':ab}(hA:A'.map (·.1)=A.map (·.1)){r1 r2:Rw}{b1 c1 t1 b2 c2 t2 n:Nat}{Us KR:List Value}{xs1 ys1:List α}{xs2 ys2:List β}(sy:r1.isAt b1\/n<=b1)(uQ:r2.isAt b2\/n<=b2):∀p∈(A'++((Rw.row b1 c1 Us).hp Sx t1 ys1++((Rw.row b2 c2 KR).hp zj t2 ys2++[])):ab),p.1∈(A++(r1.hp Sx t1 xs1++(r2.hp zj t2 xs2++[])):ab).map (·.1)\/n<=p.1:=by
 intro p hp;rw[gP,gP,dH];rw[dH]at hp;rcases cQ.1 hp with hp|hp
 ·exact .inl (cQ.2 (.inl (hA▸bW.2 ⟨p,hp,rfl⟩)))
 rcases cQ.1 hp with hp|hp
 ·simp only[Rw.hp,cI,fu,or_false]at hp;subst hp;exact sy.imp (λh=>cQ.2 (.inr (cQ.2 (.inl (Rw.mem_at h))))) id
 simp only[Rw.hp,cI,fu,or_false]at hp;subst hp;exact uQ.imp (λh=>cQ.2 (.inr (cQ.2 (.inr (Rw.mem_at h))))) id
theorem Sy{fn:Func}{Dk t4 t5 T4 T5 b4 b5 ct4 ct5:Nat}{Sz cs5:Array Value}{fr4 fr5:Nat×Nat}{v4 v5:Value}{e:Exit}(he:e= .ret\/e= .normal)(hr:fn.results=#[.cell t4 T4,.cell t5 T5])(P1:eZ C.P T4 false)(Cg:eZ C.P T5 false)(hx4:look E t4=some (ptr b4 0))(hx5:look E t5=some (ptr b5 0))(hm:(Dk,.deferred (some []))∈H)(ew:(b4,.cells Sz ct4 fr4)∈H)(eo:(b5,.cells cs5 ct5 fr5)∈H)(n4:b4≠Dk)(n5:b5≠Dk)(hv4:Sz[0]? =some v4)(Rz:cs5[0]? =some v5)(h:∀W H',St G L H' W->H'.map (·.1)=H.map (·.1)->(∀p∈H,p.1≠Dk->p∈H')->R (.returned (.tuple #[v4,v5])) W):PJ C (bodyPostM (FW none) 0 C.P fn R) e E [ec Dk] G L H:=
 u5 he hm λa W H' hF hS bV bO=>by
  obtain⟨i,hi⟩:=ju.1 (bV _ ew n4);obtain⟨j,hj⟩:=ju.1 (bV _ eo n5);exact⟨_,(RS.w (C:=C) hi P1 hx4 hv4 (RS.w (C:=C) hj Cg hx5 Rz RS.n)).res hr hF hS,h W H' hS bO bV⟩
theorem H8.mk2{cs:List Cm}{la ia ta:Option Addr}{ic tc NR:Nat}{w wp wn W2:World}(hN:N<=w.heap.size)(aH:ag dI 73 N w la cs)(hC:∀c∈cs,dB N w c)(hg:Glb w)(hp:ly Z cs wp.heap.size wp ⟨ia,ic,ta,tc⟩)(hi:∀q,ia=some q->NR<=q.block)(ht:∀q,ta=some q->NR<=q.block)(hS:St Gh.no L H W)(hw:w∈L)(AK:wp∈L)(hwn:wn∈L)(hB:Below W.heap.size W W2)(h1:w.heap.size<=wn.heap.size)(h2:wp.heap.size<=wn.heap.size)(ho:∀p∈H,w.heap.size<=p.1/\p.1<NR):H8 Z cs la ia ta ic tc w.heap.size NR wn.heap.size W2:=by
 have l1:=(hS.links w hw).size;have l2:=(hS.links wp AK).size;have l3:=(hS.links wn hwn).size;have s1:∀k,k<w.heap.size->W2.heap[k]? =w.heap[k]? :=λk hk=>(hB.block k zJ).trans ((hS.links w hw).block k hk (λhx=>hx.elim zU (λh=>by obtain⟨p,hp,rfl⟩:=bW.1 h;have:=ho p hp;omega)));have s2:∀k,k<wp.heap.size->NR<=k->W2.heap[k]? =wp.heap[k]? :=λk hk Wg=>(hB.block k zJ).trans ((hS.links wp AK).block k hk (λhx=>hx.elim zU (λh=>by obtain⟨p,hp,rfl⟩:=bW.1 h;have:=ho p hp;omega)));refine⟨h1,aR l3 hB.size,hg.lt,aH.up hN (λk hk=>s1 k zJ),λc hc=>(hC c hc).up hN (λk hk=>s1 k zJ),⟨hp.ids.blk λb off e hb=>⟨by omega,s2 b hb (hi _ e)⟩,hp.at_.blk λb off e hb=>⟨by omega,s2 b hb (ht _ e)⟩⟩,hi,ht,?_⟩;have h3:=hg.lt;obtain⟨⟨t,fr,h0⟩,t2,ql,h2⟩:=hg;exact⟨⟨t,fr,(s1 _ zJ).trans h0⟩,t2,ql,(s1 _ zJ).trans h2⟩
theorem nFn(Z:Fx)(cs:List Cm)(la:Option Addr)(lc:Nat)(ia:Option Addr)(ic:Nat)(ta:Option Addr)(tc:Nat)(fo:Fo)(w:World):Calls prog 23 #[.agg (vA Z cs la lc ⟨ia,ic,ta,tc⟩),.agg (qw fo)] w (cJ w (λq:Nat×Nat=>.func (.func 50) #[] #[ptr q.1 0,ptr q.2 0]) (λq w1=>w.heap.size<=q.1/\w.heap.size<=q.2/\w1.heap[q.1]? =some (.cells (vA Z cs la lc ⟨ia,ic,ta,tc⟩) 92 (0,0))/\w1.heap[q.2]? =some (.cells (qw fo) 50 (0,0)))):=by
 refine enter (vs:=[_,_]) func23 rfl ntmps23 rfl ?_;refine B 2 ?_;refine yX ?_;intro b2 w2 aU aN dY cR cX;refine yX ?_;intro b3 w3 aM aD da cd cP;refine B 10 ?_;refine kH (b2,b3) results23 rfl A2 rfl ?_;exact λW hS=>⟨by have:=cR.1;omega,by have:=cd.2.1;omega,hS.old A1 aU aN trivial,hS.old A0 aM aD trivial⟩
structure Pl where
 time:Int
 dev:Int
 fol:Int
 par:Int
 nm:ByteArray
def plA (p:Pl):Array Value:=#[.int .i64 p.time,.int .i64 p.dev,.int .i64 p.fol,.int .i64 p.par,.string p.nm]
def gI (p:Pl):List Value:=[.int .i64 p.time,.int .i64 p.dev,.int .i64 p.fol,.int .i64 p.par,.string p.nm]
theorem nG(p:Pl):(gI p).length=5:=rfl
theorem Wh(p:Pl):∀u∈gI p,u.oneCell'=true:=by intro u hu;simp[gI]at hu;rcases hu with rfl|rfl|rfl|rfl|rfl<;>rfl
instance:Inhabited Pl:=⟨⟨0,0,0,0,.empty⟩⟩
theorem Fv:prog.info? 135=some Tryz.t135:=by kernel_rfl
def iy (p:Pl):Prop:=(1<=p.time/\p.time<=1099511627776)/\(0<=p.dev/\p.dev<=511)/\(0<=p.fol/\p.fol<=15)/\(-1<=p.par/\p.par<=15)/\(1<=(p.nm.size:Int)/\(p.nm.size:Int)<=64)
instance (p:Pl):Decidable (iy p):=by unfold iy;infer_instance
theorem nDk(n lo hi:Int)(w:World):Calls prog 122 #[.int .i64 n,.int .i64 lo,.int .i64 hi] w (ay w (.bool (decide (lo<=n/\n<=hi)))):=by
 refine enter (vs:=[_,_,_]) func122 rfl ntmps122 rfl ?_;refine B 11 ?_;refine nh (t:=10) rfl (λah=>?_) (λah=>?_)
 ·exact z2j
 exact z2j
theorem SA{n lo hi:Int}(h:lo<=n/\n<=hi)(w:World):Calls prog 122 #[.int .i64 n,.int .i64 lo,.int .i64 hi] w (ay w (.bool true)):=by have:=nDk n lo hi w;rwa[decide_eq_true h]at this
theorem SB{n lo hi:Int}(h:¬(lo<=n/\n<=hi))(w:World):Calls prog 122 #[.int .i64 n,.int .i64 lo,.int .i64 hi] w (ay w (.bool false)):=by have:=nDk n lo hi w;rwa[decide_eq_false h]at this
theorem nim(p:Pl)(w:World):Calls prog 90 #[.agg (plA p)] w (ay w (.int .i64 (if iy p then 0 else 270))):=by
 refine enter (vs:=[_]) func90 rfl ntmps90 rfl ?_;refine B 2 ?_;refine yX ?_;intro b1 w1 aQ aX gb eO gZ;refine B 10 ?_;by_cases h1:1<=p.time/\p.time<=1099511627776
 ·by_cases h2:0<=p.dev/\p.dev<=511
  ·by_cases h3:0<=p.fol/\p.fol<=15
   ·by_cases h4: -1<=p.par/\p.par<=15
    ·by_cases h5:1<=(p.nm.size:Int)/\(p.nm.size:Int)<=64
     ·refine zxh ?_;refine nK (v:=.bool true) (f:=122) (cap:=[]) rfl call122 rfl rfl rfl (λW hS=>SA h5 W) ?_;refine B 13 ?_;exact N1
     refine zxh ?_;refine nK (v:=.bool false) (f:=122) (cap:=[]) rfl call122 rfl rfl rfl (λW hS=>SB h5 W) ?_;refine B 12 ?_;exact N1
    refine B 4 ?_;refine Wj ?_;refine B 5 ?_;refine zCf ?_;refine B 6 ?_;refine zag ?_;refine B 6 ?_;refine nK (v:=.bool false) (f:=122) (cap:=[]) rfl call122 rfl rfl rfl (λW hS=>SB h4 W) ?_;refine B 20 ?_;exact N1
   refine B 4 ?_;refine Wj ?_;refine B 5 ?_;refine zCf ?_;refine B 6 ?_;refine nK (v:=.bool false) (f:=122) (cap:=[]) rfl call122 rfl rfl rfl (λW hS=>SB h3 W) ?_;refine B 27 ?_;exact N1
  refine B 4 ?_;refine Wj ?_;refine B 5 ?_;refine nK (v:=.bool false) (f:=122) (cap:=[]) rfl call122 rfl rfl rfl (λW hS=>SB h2 W) ?_;refine B 34 ?_;exact N1
 refine B 4 ?_;refine nK (v:=.bool false) (f:=122) (cap:=[]) rfl call122 rfl rfl rfl (λW hS=>SB h1 W) ?_;refine B 40 ?_;exact N1
theorem Lv(p:Pl)(w:World):Calls prog 89 #[.agg (plA p)] w (ay w (.bool (!decide (iy p)))):=by
 refine enter (vs:=[_]) func89 rfl ntmps89 rfl ?_;refine B 2 ?_;refine yX ?_;intro b1 w1 aQ aX gb eO gZ;refine B 5 ?_;refine rv rfl rfl rfl (ae isAgg135 sizeOf135 rfl A0 aQ aX trivial rfl) ?_;refine call call90 rfl rfl rfl (λW hS=>nim p W) ?_;refine B 5 ?_;refine ax results89 rfl A1 ?_;exact vb (by by_cases h:iy p<;>simp[h])
theorem nog(p:Pl->Bool)(f:Nat)(cap:List Value)(az:dP prog f)(xs:List Pl)(cj:xs.length<=1000000)(N:Nat)(a:Option Addr)(cp:Nat)(w:World)(hN:N<=w.heap.size)(aH:ag plA 5 N w a xs)(hp:∀(j:Nat) (x:Pl),xs[j]? =some x->∀W,Below w.heap.size w W->Calls prog f (.agg (plA x)::cap).toArray W (ay W (.bool (p x)))):Calls prog 121 #[.slice a xs.length cp,.func (.func f) #[] cap.toArray] w (cJ w (λi:Int=>.int .i64 i) (λi _=>du p xs i)):=by
 refine enter (vs:=[_,_]) func121 rfl ntmps121 rfl ?_;refine Nw ?_;rintro j ⟨hj,dm⟩;refine B 6 ?_;refine aG ?_ ?_
 ·intro ah;refine B 11 ?_;obtain⟨bo,oo,cs0,to,fk,rfl,fE,hcs,ar⟩:=aH.get zJ;obtain⟨x,hx⟩:=nj xs j zJ;refine B 5 ?_;refine rq (.agg (plA x)) (ai isAgg135 sizeOf135 rfl A0 hcs zU trivial (nk ar hx rfl)) (va (nr ar hx rfl)) ?_;refine Nx ?_;refine aG ?_ ?_
  ·intro aJ;refine B 12 ?_;refine kH (j:Int) results121 rfl A0 rfl ?_;exact Ny
  exact Kg
 intro ah;refine B 11 ?_;refine kH (-1:Int) results121 rfl A0 rfl ?_;exact Kh
theorem nrk(p:Pl->Bool)(f:Nat)(cap:List Value)(az:dP prog f)(xs:List Pl)(cj:xs.length<=100000)(b cp:Nat)(sp:List Value)(w:World)(hb:w.heap[b]? =some (ck gI 135 xs sp))(bN:(Rw.row b cp sp).Fit 5 xs)(hp:∀(j:Nat) (x:Pl),xs[j]? =some x->∀W,aF (· =b) w W->b<W.heap.size->Calls prog f (.agg (plA x)::cap).toArray W (ay W (.bool (p x)))):Calls prog 87 #[.slice (some ⟨b,0,none⟩) xs.length cp,.func (.func f) #[] cap.toArray] w (λe w'=>∃bG,e= .returned ((λr=>r.val (xs.filter (λx=> !p x)).length) (Rw.row b cp bG))/\aF (· =b) w w'/\(Rw.row b cp bG).Fit 5 (xs.filter (λx=> !p x))/\w'.heap[b]? =some (ck gI 135 (xs.filter (λx=> !p x)) bG)):=by
 have uk:=bN.1;have cN:=bN.2;have jf:=(aT.1 hb).1;refine nL (Gh.lent (· =b)) [(b,ck gI 135 xs sp)] (vs:=[_,_]) func87 rfl ntmps87 rfl (xv hb) ?_;refine B 9 ?_;refine nB (α:=Int) (v:=λi:Int=>.int .i64 i) (Φ:=λ_ i _=>du p xs i) call121 rfl rfl rfl (λW hS=>?_) ?_
 ·have vv:=hS.own (b,_) A0;have kx:ag plA 5 W.heap.size W (some ⟨b,0,none⟩) xs:=by
   obtain⟨a9,c9,e9,h9⟩:=(Rw.row b cp sp).sl (enc:=gI) (t:=135) (N:=W.heap.size) (w:=W) nG bN vv (ao _);exact zOj
  exact nog p f cap az xs zJ W.heap.size (some ⟨b,0,none⟩) cp W (ao _) kx (λj x hx W2 hB=>hp j x hx W2 (nRl ((hS.links w A0).mono (λk _ hk=>by rcases hk with hk|hk;(exact hk);(simp only[eh,iB,cZ,eB,cI,fu,or_false]at hk;first|exact hk|(rcases hk with hk|hk;(exfalso;omega);exact hk)))) hB) z1d)
 intro Wi i wi sV sW hi;have hbi:=sV.lt (b,_) A0;have hzi:=sW.size;refine B 5 ?_;rcases hi with⟨rfl,ir⟩|⟨k,x0,rfl,il,zB,fN⟩
 ·refine B 2 ?_;refine NJ ?_;exact bH (.inl rfl) results87 (RS.t rfl RS.n) λW hS=>⟨sp,by rw[EU ir];rfl,hS.baseX A1 Cr,by rw[EU ir];exact bN,by rw[EU ir];exact hS.own _ A0⟩
 refine B 2 ?_;refine OF ?_;refine B 7 ?_;have kK:=nE il;refine B 7 ?_;refine CJ.loop (α:=(Nat×List Pl)×Nat) (λp9=>[(0,.slice (some ⟨b,0,none⟩) xs.length cp),(1,.func (.func f) #[] cap.toArray),(5,.int .i64 (p9.1.1:Int)),(6,.int .i64 (p9.2:Int))]) (λp9=>[(b,ck gI 135 p9.1.2 sp)]) (λp9=>[w]) (λp9=>Gh.lent (· =b)) (λp9=>p9.1.1<p9.2/\p9.2<=xs.length/\p9.1.2.length=xs.length/\p9.1.2.take p9.1.1=(xs.take p9.2).filter (λx=> !p x)/\p9.1.2.drop p9.2=xs.drop p9.2) (λp9=>xs.length-p9.2) ((k,xs),k+1) ⟨by dsimp only;omega,by dsimp only;omega,rfl,by dsimp only;rw[RB il,if_pos zB,nLg fN,dH],rfl⟩ zR rfl rfl zX ?_;rintro⟨⟨i2,cur⟩,j⟩ ⟨vo,kZ,ll,CC,HQ⟩;dsimp only at vo kZ ll CC HQ ⊢;refine B 9 ?_;refine aG ?_ ?_
 ·intro ah;refine B 5 ?_;obtain⟨x,hx⟩:=nj xs j zJ;obtain⟨HR,EV⟩:=nQh HQ hx;refine B 4 ?_;refine rq (.agg (plA x)) (dd (i:=0) rfl isAgg135 sizeOf135 rfl (HP nG zJ)) (va (HO (sp:=sp) nG HR)) ?_;refine Lw ?_;refine yW ?_;intro b7 gd oN;refine H9 ?_;refine B 6 ?_;refine zze ?_;refine B 3 ?_;refine aG ?_ ?_
  ·intro aJ;refine B 6 ?_;refine zC (enc:=gI) (m:=5) (i:=1) (j:=i2) (z:=x) rfl nG Wh sizeOf135 rfl rfl rfl zX zJ rfl rfl ?_;exact zKi
  exact zSi
 intro ah;refine B 6 ?_;have RD:j=xs.length:=by omega
 have wD:cur.take i2=(xs.filter (λx=> !p x)):=by rw[CC,RD,JU]
 refine B 3 ?_;refine rq (.slice (some ⟨b,if cp=i2 then 0 else 0+i2*5,none⟩) (cur.drop i2).length (cp-i2)) (gO (l:=i2) (h:=xs.length) underlying32 sizeOf135 rfl ⟨_,_,rfl,rfl⟩ rfl zJ zJ rfl) (by rw[yT,ll]) ?_;refine OJ.reH (H':=[(b,ck gI 135 (cur.take i2++cur.drop i2) sp)]) (by rw[DQ]) ?_;refine zD (i:=0) rfl nG underlying32 zeroValue135 rfl (nwg rfl _) rfl rfl zvd ?_;intro KR zE;refine B 6 ?_;refine rq (.slice (some ⟨b,0,none⟩) (cur.take i2).length cp) (fM (h:=i2) underlying32 sizeOf135 rfl ⟨_,_,rfl,rfl⟩ zJ) (by rw[jD,Nat.min_eq_left zJ]) ?_;refine B 4 ?_;exact bH (.inl rfl) results87 (RS.t rfl RS.n) λW hS=>⟨KR,by rw[<-wD];rfl,hS.baseX A0 Cr,by rw[<-wD];exact⟨by rw[jD];omega,by rw[zE,yT,jD,cN,Nat.min_eq_left zJ,ll,<-kN];congr 1;omega⟩,by rw[<-wD];exact hS.own _ A0⟩
theorem Lx:kY prog 32 135 5:=⟨underlying32,Tryz.t135,.agg #[.int .i64 0,.int .i64 0,.int .i64 0,.int .i64 0,.string .empty],Fv,rfl,rfl,rfl,by decide⟩
theorem nfl(n c:Nat)(w:World):Calls prog 88 #[.slice none n c] w (nD w gI 5 135 ([]:List Pl) id):=by
 refine enter (vs:=[_]) func88 rfl ntmps88 rfl ?_;refine B 9 ?_;refine rr (.bool true) (pY underlying32 rfl rfl) ?_;refine B 10 ?_;exact nW (H0:=[]) (H1:=[]) (r:=.nil) (.inl rfl) results88 (RS.t rfl RS.n) A0 trivial rfl rfl True.intro rfl
theorem nik(xs:List Pl)(cj:xs.length<=100000)(N:Nat)(q:Addr)(cp:Nat)(w:World)(hN:N<=w.heap.size)(aH:ag plA 5 N w (some q) xs):Calls prog 88 #[.slice (some q) xs.length cp] w (nD w gI 5 135 xs id):=by
 refine enter (vs:=[_]) func88 rfl ntmps88 rfl ?_;refine B 9 ?_;refine rr (.bool false) (s9 underlying32 rfl rfl) ?_;refine B 7 ?_;refine kr underlying32 sizeOf135 zeroValue135 rfl rfl rfl rfl rfl rfl rfl ?_;refine yW ?_;intro b5 iH iI;refine B 1 ?_;refine VD (xs:=([]:List Pl)) (zs:=xs) (enc:=gI) (m:=5) (H0:=[]) (H1:=[]) (sp:=[]) (by rfl) Lx nG rfl rfl rfl rfl (dz.sl nG Wh underlying32 A0 aH (λb hb=>⟨λh=>h,by simp only[bD,and_true];omega⟩)) ⟨ao _,rfl⟩ (.inr zW) jB ?_;intro b7 Ht RA oP kO;have zy:w.heap.size<=b7:=by rcases oP with h|h;(omega);exact h.not A0
 rw[dK]at kO ⊢;refine B 4 ?_;exact nW (H0:=[]) (H1:=[]) (r:=.row b7 Ht RA) (.inl rfl) results88 (RS.t rfl RS.n) A0 (by simp only[dK,Over,and_true];omega) rfl kO zy (by rfl)
theorem AL(xs:List Pl)(cj:xs.length<=100000)(N:Nat)(a:Option Addr)(cp:Nat)(w:World)(hN:N<=w.heap.size)(aH:ag plA 5 N w a xs):Calls prog 88 #[.slice a xs.length cp] w (nD w gI 5 135 xs id):=by
 cases a with
 |none=>
  have h0:xs=[]:=by rcases aH with h|⟨b,off,cs,t,fr,h,_⟩;(exact h);cases h
  subst h0;exact nfl 0 cp w
 |some q=>exact nik xs cj N q cp w hN aH
def N2 (l:List Int):Int:=(l.find? (λx=>decide (x≠0))).getD 0
theorem Ly{l:List Int}{x:Int}(h:∀i y,i<j->l[i]? =some y->y=0)(hx:l[j]? =some x)(hn:¬x=0):x=N2 l:=by
 unfold N2;rw[show l.find? (λx=>decide (x≠0))=some x by
  rw[List.find?_eq_some_iff_getElem];obtain⟨hj,SC⟩:=gi.1 hx;refine⟨by simpa using hn,j,hj,SC,λi hi=>?_⟩;have:=h i l[i] hi (gB zJ);simp[this]]
 rfl
theorem nhn{l:List Int}(h:∀i y,i<j->l[i]? =some y->y=0)(hj:l.length<=j):0=N2 l:=by
 unfold N2;rw[show l.find? (λx=>decide (x≠0))=none by
  rw[List.find?_eq_none];intro x hx;obtain⟨i,hi,rfl⟩:=List.mem_iff_getElem.1 hx;have:=h i l[i] zJ (gB hi);simp[this]]
 rfl
def plZ (x y:Pl):List Int:=[bZ x.time y.time,bZ x.dev y.dev,bZ x.fol y.fol,bZ x.par y.par,Go.Lib.compareBytes x.nm.data.toList y.nm.data.toList]
def N3 (x y:Pl):Int:=N2 (plZ x y)
theorem Fw(a b:ByteArray)(w:World):Calls prog 126 #[.string a,.string b] w (ay w (.int .i64 (Go.Lib.compareBytes a.data.toList b.data.toList))):=by
 refine(Go.Proofs.Any.strings_Compare Go.Proofs.Tryz.layStr a b w).mono ?_;rintro e w' ⟨rfl,rfl⟩;exact⟨rfl,Below.refl _ _⟩
theorem Lz(zs:List Int)(hz:zs.length<=100)(N:Nat)(a:Option Addr)(cp:Nat)(w:World)(hN:N<=w.heap.size)(aH:ag encI 1 N w a zs):Calls prog 124 #[.slice a zs.length cp] w (ay w (.int .i64 (N2 zs))):=by
 refine enter (vs:=[_]) func124 rfl ntmps124 rfl ?_;refine B 19 ?_;refine CJ.loop (α:=Nat) (λj=>[(3,.int .i64 0),(6,.slice a zs.length cp),(7,.int .i64 (zs.length:Int)),(8,.int .i64 (j:Int))]) (λj=>[]) (λj=>[w]) (λj=>Gh.no) (λj=>j<=zs.length/\∀i y,i<j->zs[i]? =some y->y=0) (λj=>zs.length-j) 0 ⟨db _,λi y hi=>absurd hi zJ⟩ zR rfl rfl zX ?_;rintro j ⟨hj,dm⟩;refine B 6 ?_;refine aG ?_ ?_
 ·intro ah;refine B 5 ?_;obtain⟨bo,oo,cs0,to,fk,rfl,fE,hcs,ar⟩:=aH.get zJ;obtain⟨x,hx⟩:=nj zs j zJ;refine B 2 ?_;refine rv rfl rfl rfl (aa (v:=.int .i64 x) isAgg3 rfl A0 hcs zU trivial (nR ar hx rfl zO)) ?_;refine B 10 ?_;refine aG ?_ ?_
  ·intro aJ;exact zBj
  intro aJ;refine B 7 ?_;refine PJ.again (j+1) ⟨by omega,λi y hi hy=>by by_cases e:i=j;(rw[e,hx]at hy;cases hy;omega);exact dm i y zJ hy⟩ zJ zR rfl rfl zX
 intro ah;exact zBj
abbrev jw:=List (Int×Pl)
def iS (p:Pl):Value:=.agg (plA p)
def Fy:Pl:=⟨0,0,0,0,.empty⟩
def jx (kv:jw):Prop:=∃r:Int->Nat,∀k p,av kv k=some p->0<=p.par->r p.par<r k
def AM:Nat->jw->Int->List Int
 |0,_,_=>[]
 |n+1,kv,f=>match av kv f with
  |some p=>if 0<=p.par then p.par::AM n kv p.par else[]
  |none=>[]
def cG (kv:jw) (f:Int):List Int:=AM (kv.length+1) kv f
variable {kv:jw} {p:Pl}
theorem nIj{k:Int}(h:av kv k=some p):(k,p)∈kv:=by
 unfold av at h;obtain⟨q,hq,rfl⟩:=K6.1 h;exact cb (SD hq)
theorem nen{kv:jw}{r:Int->Nat}(hr:∀k p,av kv k=some p->0<=p.par->r p.par<r k):∀n f,(AM n kv f).length<=kv.countP (λq=>decide (r q.1<=r f))
 |0,f=>db _
 |n+1,f=>by
  unfold AM;cases h:av kv f with
  |none=>exact db _
  |some p=>
   dsimp only;split
   ·rename_i hp;have ih:=nen hr n p.par;have hlt:=hr f p h hp;have hm:=nIj h;have:kv.countP (λq=>decide (r q.1<=r p.par))<kv.countP (λq=>decide (r q.1<=r f)):=by
     have gen:∀l:jw,(f,p)∈l->l.countP (λq=>decide (r q.1<=r p.par))<l.countP (λq=>decide (r q.1<=r f)):=by
      intro l;induction l with
      |nil=>intro h;cases h
      |cons q l ih=>
       intro hq;have SE:l.countP (λq=>decide (r q.1<=r p.par))<=l.countP (λq=>decide (r q.1<=r f)):=List.countP_mono_left λq _ h=>by simp at h ⊢;omega
       simp only[List.countP_cons];rcases cI.1 hq with e|hq
       ·subst e;simp;rw[if_neg zJ];omega
       have:=ih hq;have:(if decide (r q.1<=r p.par)=true then 1 else 0)<=(if decide (r q.1<=r f)=true then 1 else 0):=by
        by_cases h1:r q.1<=r p.par
        ·rw[if_pos zc,if_pos jB];exact ao _
        rw[if_neg zc];exact db _
       omega
     exact gen kv hm
    simp only[dQ];omega
   exact db _
theorem nln{kv:jw}:∀n f,(AM n kv f).length<n->AM (n+1) kv f=AM n kv f
 |0,f,h=>absurd h zJ
 |n+1,f,h=>by
  rw[AM]at h ⊢;conv=>rhs;rw[AM]
  cases e:av kv f with
  |none=>rfl
  |some p=>
   rw[e]at h;dsimp only at h ⊢;split
   ·rename_i hp;rw[if_pos hp]at h;rw[nln n p.par qz]
   rfl
theorem CQ(h:jx kv)(f:Int):(cG kv f).length<=kv.length:=by
 obtain⟨r,hr⟩:=h;exact aR (nen hr _ f) List.countP_le_length
theorem nyl(h:jx kv)(f:Int):cG kv f=match av kv f with|some p=>if 0<=p.par then p.par::cG kv p.par else[]|none=>[]:=by
 have h1:=CQ h f;have h2:AM (kv.length+2) kv f=cG kv f:=nln _ _ (by unfold cG at h1;omega);rw[<-h2,AM];rfl
theorem LA(h:jx kv){f:Int}(hp:av kv f=some p)(h0:0<=p.par):cG kv f=p.par::cG kv p.par:=by rw[nyl h f,hp];exact if_pos h0
theorem nxj(h:jx kv){f:Int}(hp:av kv f=some p)(h0:¬0<=p.par):cG kv f=[]:=by rw[nyl h f,hp];exact if_neg h0
theorem nMh(h:jx kv){f:Int}(hp:av kv f=none):cG kv f=[]:=by rw[nyl h f,hp]
theorem jx.rank(h:jx kv):∀k p,av kv k=some p->0<=p.par->(cG kv p.par).length<(cG kv k).length:=by
 intro k p hp h0;rw[LA h hp h0,dQ];omega
def fX (kv:jw) (f o:Int):Bool:=(cG kv f).any (λx=>decide (x=o))||decide (f=o)
theorem nJg(mp:Option Nat)(f:Int)(w:World):Calls prog 95 #[.map mp,.int .i64 f] w (cJ w (λq:Nat×Nat=>.func (.func 128) #[] #[ptr q.1 0,ptr q.2 0]) (λq w1=>w.heap.size<=q.1/\w.heap.size<=q.2/\q.1≠q.2/\w1.heap[q.1]? =some (.cells #[.map mp] 132 (0,0))/\w1.heap[q.2]? =some (.cells #[.int .i64 f] 3 (0,0)))):=by
 refine enter (vs:=[_,_]) func95 rfl ntmps95 rfl ?_;refine B 2 ?_;refine yX ?_;intro b2 w2 aU aN dY cR cX;refine yX ?_;intro b3 w3 aM aD da cd cP;refine B 10 ?_;refine kH (b2,b3) results95 rfl A2 rfl ?_;exact λW hS=>⟨cR.1,by omega,by omega,hS.old A1 aU aN trivial,hS.old A0 aM aD trivial⟩
theorem n9e(hF:jx kv)(f:Int)(mb bx by_:Nat)(m:Mp)(hm:m.Ok kv)(W:World)(aQ:W.heap[bx]? =some (.cells #[.map (some mb)] 132 (0,0)))(aU:W.heap[by_]? =some (.cells #[.int .i64 f] 3 (0,0)))(ij:W.heap[mb]? =some (m.obj iS kv)):u7 prog 128 [ptr bx 0,ptr by_ 0] aj (wt (cG kv f)) (Is (cG kv f)) (λ_=>False) (λk=>k=bx\/k=by_\/k=mb) W:=by
 intro l M I X0 hM hI hX hy h0;have aX:¬(cF hM (λ_=>False) (hI [] _)).X bx:=by rintro(h|h);exact(hM _ h).2.2 (.inl rfl);exact h.elim
 have aN:¬(cF hM (λ_=>False) (hI [] _)).X by_:=by rintro(h|h);exact(hM _ h).2.2 (.inr (.inl rfl));exact h.elim
 have ve:¬(cF hM (λ_=>False) (hI [] _)).X mb:=by rintro(h|h);exact(hM _ h).2.2 (.inr (.inr rfl));exact h.elim
 have sK:=(aT.1 ij).1;have abW:=(aT.1 aQ).1;have xw:=(aT.1 aU).1;refine nL (cF hM (λ_=>False) (hI [] _)) [] (vs:=[_,_,_]) func128 rfl ntmps128 rfl (JI hM (hI [] _) h0 zX (by simp[jk]) zX) ?_;refine B 4 ?_;refine rq (.tuple #[.agg (plA ((av kv f).getD Fy)),.bool (av kv f).isSome]) (gE (ev:=iS) (k:=f) underlying132 underlying3 zeroValue135 hm (bL.old A0 ij ve trivial) rfl rfl) (by cases av kv f<;>rfl) ?_;refine rr (.tuple #[.agg (plA ((av kv f).getD Fy)),.bool (av kv f).isSome]) (fW rfl) ?_;refine B 2 ?_;refine Lw ?_;refine yW ?_;intro b4 dO dU;refine H9 ?_;refine B 4 ?_;refine CJ.loop (α:=((List Int×Int)×aB)×Nat) (λp=>[(0,yv l),(1,ptr bx 0),(2,ptr by_ 0),(4,ptr p.2 0),(5,.bool (av kv p.1.1.2).isSome)]) (λp=>[(p.2,.cells (plA ((av kv p.1.1.2).getD Fy)) 135 (0,0))]) (λp=>[W]) (λp=>cF hM p.1.2 (hI p.1.1.1 p.1.2)) (λp=>p.1.1.1++cG kv p.1.1.2=cG kv f/\(∀k,p.1.2 k->W.heap.size<=k)/\W.heap.size<=p.2) (λp=>(cG kv p.1.1.2).length) ((([],f),λ_=>False),b4) ⟨rfl,λ_ h=>h.elim,by omega⟩ zR rfl rfl zX ?_;rintro⟨⟨⟨pre,g⟩,V⟩,bo⟩ ⟨qu,hV,ew⟩;dsimp only at qu hV ew ⊢;have aX:¬(cF hM V (hI pre V)).X bx:=by rintro(h|h);exact(hM _ h).2.2 (.inl rfl);have:=hV _ h;omega
 have aN:¬(cF hM V (hI pre V)).X by_:=by rintro(h|h);exact(hM _ h).2.2 (.inr (.inl rfl));have:=hV _ h;omega
 have ve:¬(cF hM V (hI pre V)).X mb:=by rintro(h|h);exact(hM _ h).2.2 (.inr (.inr rfl));have:=hV _ h;omega
 refine B 2 ?_;rcases hq:av kv g with _|q
 ·dsimp only[Option.getD,Option.isSome];refine B 1 ?_;refine rr (.bool false) (fW rfl) ?_;refine B 12 ?_;exact zIj
 dsimp only[Option.getD,Option.isSome];by_cases OE:0<=q.par
 ·refine B 1 ?_;refine rr (.bool true) (fW rfl) ?_;refine B 3 ?_;refine zkh ?_;refine B 13 ?_;refine D8 (λV=>hI (pre++[q.par]) V) hX hV zX rfl rfl rfl rfl (λW1 sJ kJ=>hy (pre) (q.par) V W1 ⟨cG kv q.par,by rw[<-qu,LA hF hq OE,iX];rfl⟩ sJ kJ) ?_ ?_
  ·intro V hV;refine B 14 ?_;refine Lw ?_;refine yW ?_;intro b4 dO dU;refine H9 ?_;refine B 2 ?_;have aX:¬(cF hM V (hI (pre++[q.par]) V)).X bx:=by rintro(h|h);exact(hM _ h).2.2 (.inl rfl);have:=hV _ h;omega
   have aN:¬(cF hM V (hI (pre++[q.par]) V)).X by_:=by rintro(h|h);exact(hM _ h).2.2 (.inr (.inl rfl));have:=hV _ h;omega
   have ve:¬(cF hM V (hI (pre++[q.par]) V)).X mb:=by rintro(h|h);exact(hM _ h).2.2 (.inr (.inr rfl));have:=hV _ h;omega
   refine B 4 ?_;refine rq (.tuple #[.agg (plA ((av kv q.par).getD Fy)),.bool (av kv q.par).isSome]) (gE (ev:=iS) (k:=q.par) underlying132 underlying3 zeroValue135 hm (bL.old A0 ij ve z7) rfl rfl) (by cases av kv q.par<;>rfl) ?_;refine rr (.tuple #[.agg (plA ((av kv q.par).getD Fy)),.bool (av kv q.par).isSome]) (fW rfl) ?_;refine B 2 ?_;refine H9 ?_;refine B 2 ?_;refine PJ.dropAt (i:=1) rfl zW ?_;refine PJ.again (((pre++[q.par],q.par),V),b4) ⟨by dsimp only;rw[<-qu,LA hF hq OE,iX];rfl,hV,by omega⟩ (by dsimp only;rw[LA hF hq OE,dQ];omega) zR rfl rfl zX
  intro V hV;refine B 9 ?_;exact D9 (.inl rfl) results128 A0 hV Zy (λA hA=>.inr hA)
 refine B 1 ?_;refine rr (.bool true) (fW rfl) ?_;refine B 3 ?_;refine Ni ?_;refine B 8 ?_;exact zIj
theorem AN{fn:Func}{Dk t4 T4 b4 ct4:Nat}{Sz:Array Value}{fr4:Nat×Nat}{v4:Value}{e:Exit}(he:e= .ret\/e= .normal)(hr:fn.results=#[.cell t4 T4])(P1:eZ C.P T4 false)(hx4:look E t4=some (ptr b4 0))(hm:(Dk,.deferred (some []))∈H)(ew:(b4,.cells Sz ct4 fr4)∈H)(n4:b4≠Dk)(hv4:Sz[0]? =some v4)(h:∀W H',St G L H' W->H'.map (·.1)=H.map (·.1)->R (.returned v4) W):PJ C (bodyPostM (FW none) 0 C.P fn R) e E [ec Dk] G L H:=
 u5 he hm λa W H' hF hS bV bO=>by
  obtain⟨i,hi⟩:=ju.1 (bV _ ew n4);exact⟨_,(RS.w (C:=C) hi P1 hx4 hv4 RS.n).res hr hF hS,h W H' hS bO⟩
theorem CJ.st2{c:Code}{Q:aC}(h:∀W,St G L H W->CJ C c Q E D G L H):CJ C c Q E D G L H:=λa W hN hD hF hS=>h W hS a W hN hD hF hS
theorem Fz{f o:Int}(h:o∈cG kv f):true=fX kv f o:=by unfold fX;rw[List.any_eq_true.2 ⟨o,h,by simp⟩];rfl
theorem LB{f o:Int}(h:∀y∈cG kv f,¬y=o):decide (f=o)=fX kv f o:=by
 unfold fX;rw[show(cG kv f).any (λx=>decide (x=o))=false by rw[List.any_eq_false];intro y hy;simpa using h y hy];rfl
theorem nfj(hF:jx kv)(mb:Nat)(m:Mp)(hm:m.Ok kv)(f:Int)(o:Int)(w:World)(ij:w.heap[mb]? =some (m.obj iS kv)):Calls prog 47 #[.map (some mb),.int .i64 f,.int .i64 o] w (cJ w (λb:Bool=>.bool b) (λb _=>b=fX kv f o)):=by
 have sK:=(aT.1 ij).1;refine B1 Gh.no [] (vs:=[_,_,_]) func47 rfl ntmps47 rfl (uK w) ?_;refine B 2 ?_;refine yX ?_;intro b5 w5 eo eH oQ iH iI;refine aZ zeroValue4 rfl rfl ?_;refine yW ?_;intro b6 gV lP;refine B 7 ?_;refine zgf ?_;rintro Wu q wn Ia SF ⟨jb,jc,SG,fw,gg⟩;have hzu:=SF.size;have SH:=(aT.1 fw).1;have SI:=(aT.1 gg).1;have abX:=(Ia.links w5 A0).size;have Ib:=(Ia.links w A1).size;have abY:=Ia.lt (b6,_) A0;refine B 3 ?_;refine CJ.range2 (f:=128) (cap:=[ptr q.1 0,ptr q.2 0]) (α:=Int) (enc:=aj) (Pre:=wt (cG kv f)) (Fin:=Is (cG kv f)) (RO:=λk=>k=q.1\/k=q.2\/k=mb) (MI:=λ_=>False) rfl call128 (λW' W2 hS hB=>by have l1:=(hS.links wn A0).size;have l2:=(hS.links w A2).size;have l3:=hB.size;exact n9e hF f mb q.1 q.2 m hm W2 Vr Vs (by rw[hB.block mb zJ];exact hS.old A2 ij zU Ej)) (λ_ _ _ hk=>hk.elim) (λW' hS k hk=>by have l1:=(hS.links wn A0).size;have l2:=(hS.links w A2).size;simp only[eh,iB,cI,fu,or_false];rcases hk with rfl|rfl|rfl<;>exact⟨by omega,by omega,λh=>h⟩) (λ_=>rfl) (λpre G' Hc=>G'=Gh.no/\(∀y∈pre,¬y=o)/\Hc=[(b6,.cells #[.bool false] 4 (0,0))]) (λc G' Hc=>c= .ret/\G'=Gh.no/\o∈cG kv f/\Hc=[(b6,.cells #[.bool true] 4 (0,0))]) ⟨rfl,by simp,rfl⟩ zO ?_ ?_ ?_
 ·rintro pre x G' Hc l Dk rec W1 M V Wy lN qB eC ⟨rfl,bP,rfl⟩ dZ gM GM qC bM yq;simp only[ad]at dZ qC;have UW:=eC.subset (cQ.2 (.inr A0));have eH:=bM.z (k:=b5) zJ zU Wl zU;refine MQ ?_;refine B 8 ?_;refine aG ?_ ?_
  ·intro ah;refine B 2 ?_;refine Qi ?_;refine B 4 ?_;refine Z6 (G2:=Gh.no) (Hc2:=[(b6,.cells #[.bool true] 4 (0,0))]) (c:=.ret) bM gM ⟨λ_ h=>h,λ_ h=>.inl h,λ_ h=>.inl h,N4,N4⟩ (.inl ⟨rfl,rfl⟩) rfl ?_;exact⟨rfl,rfl,(by have SJ:x=o:=gw;rw[<-SJ];exact UW),rfl⟩
  intro ah;refine B 2 ?_;refine JP (G2:=Gh.no) (Hc2:=[(b6,.cells #[.bool false] 4 (0,0))]) bM gM ⟨λ_ h=>h,λ_ h=>.inl h,λ_ h=>.inl h,(λp hp=>.inl (bW.2 ⟨p,hp,rfl⟩)),(λp hp=>.inl (bW.2 ⟨p,hp,rfl⟩))⟩ (JQ lN qB) ?_;exact⟨rfl,λy hy=>(cQ.1 hy).elim (bP y) (λh=>by rw[qi.1 h];assumption),rfl⟩
 ·rintro i6 l Dk rec G' Hc rfl dZ gM ⟨rfl,bP,rfl⟩;replace dZ:=yb dZ;refine Qw λWd qh=>?_;have kI:=Nk qh;refine B 7 ?_;refine Qi ?_;refine B 3 ?_;refine AN (b4:=b6) (.inl rfl) results47 isAgg4 rfl wW A0 (kI _ A0).1 rfl (λW H' hS bO=>⟨(decide (f=o)),rfl,?_,LB bP⟩);exact ztj
 rintro l Dk rec c G' Hc dZ gM ⟨rfl,rfl,hom,rfl⟩;replace dZ:=yb dZ;refine CJ.st2 λWd qh=>?_;have kI:=Nk qh;refine B 3 ?_;refine AN (b4:=b6) (.inl rfl) results47 isAgg4 rfl wW A0 (kI _ A0).1 rfl (λW H' hS bO=>⟨true,rfl,?_,Fz hom⟩);exact ztj
theorem n5c(hF:jx kv)(mb:Nat)(m:Mp)(hm:m.Ok kv)(f:Int)(o:Int)(w:World)(ij:w.heap[mb]? =some (m.obj iS kv)):Calls prog 47 #[.map (some mb),.int .i64 f,.int .i64 o] w (ay w (.bool (fX kv f o))):=by
 refine(nfj hF mb m hm f o w ij).mono ?_;rintro e w' ⟨b,rfl,hB,rfl⟩;exact⟨rfl,hB⟩
def mA (kv:jw) (f:Int):Int:=if f<0 then 0 else 1+((cG kv f).length:Int)
theorem nsd(hF:jx kv)(mb:Nat)(m:Mp)(hm:m.Ok kv)(f:Int)(kK:kv.length<=100000)(w:World)(ij:w.heap[mb]? =some (m.obj iS kv)):Calls prog 93 #[.map (some mb),.int .i64 f] w (ay w (.int .i64 (mA kv f))):=by
 have sK:=(aT.1 ij).1;refine enter (vs:=[_,_]) func93 rfl ntmps93 rfl ?_;refine B 12 ?_;refine aG ?_ ?_
 ·intro ah;refine B 7 ?_;exact bH (.inl rfl) results93 (RS.t rfl RS.n) λW hS=>⟨congrArg (λn=>Ending.returned (Value.int .i64 n)) (if_pos zJ).symm,hS.base A0 True.intro⟩
 intro ah;refine B 6 ?_;refine zgf ?_;rintro Wu q wn Ia SF ⟨jb,jc,SG,fw,gg⟩;have hzu:=SF.size;have SH:=(aT.1 fw).1;have SI:=(aT.1 gg).1;have Ib:=(Ia.links w A0).size;refine QC (enc:=aj) (m:=1) (t:=3) (Fin:=Is (cG kv f)) (v:=id) call118 rfl rfl rfl (λW hS=>by
  have l1:=(hS.links wn A0).size;have l2:=(hS.links w A1).size;exact U1 (cap:=[ptr q.1 0,ptr q.2 0]) (Pre:=wt (cG kv f)) (Fin:=Is (cG kv f)) (RO:=λk=>k=q.1\/k=q.2\/k=mb) call128 W (λk hk=>by rcases hk with rfl|rfl|rfl<;>omega) (λp hp=>aR hp.length_le (aR (CQ hF f) kK)) (λW2 hB=>n9e hF f mb q.1 q.2 m hm W2 (by rw[hB.block q.1 zJ];exact hS.old A0 fw zU trivial) (by rw[hB.block q.2 zJ];exact hS.old A0 gg zU trivial) (by rw[hB.block mb zJ];exact hS.old A1 ij zU trivial))) ?_
 rintro xs r rfl bE ak;have hal:=CQ hF f;obtain⟨a9,c9,e9⟩:∃a9 c9,Rw.val (cG kv f).length r= .slice a9 (cG kv f).length c9:=by
  cases r with
  |nil=>exact⟨none,0,by rw[show cG kv f=[]from ak];rfl⟩
  |row b cap sp=>exact⟨_,_,rfl⟩
 refine rv rfl rfl rfl (ib underlying44 (congrArg some e9)) ?_;refine B 5 ?_;exact bH (.inl rfl) results93 (RS.t rfl RS.n) λW hS=>⟨congrArg (λn=>Ending.returned (Value.int .i64 n)) (if_neg zJ).symm,hS.base A1 (by rw[dH];exact Rw.over (Rw.ge_of bE A1))⟩
def tz (kv:jw):Prop:=(kv.map (·.1)).Nodup/\∀q∈kv,q.1=q.2.fol/\iy q.2
theorem nsh{β:Type}:∀{kv:List (Int×β)} {k:Int} {p:β},(kv.map (·.1)).Nodup->(k,p)∈kv->av kv k=some p
 | [],_,_,_,h=>by cases h
 |q::kv,k,p,hn,h=>by
  rw[Ic];simp only[eh,List.nodup_cons]at hn;rcases cI.1 h with rfl|h
  ·rw[if_pos rfl]
  rw[if_neg (λe=>hn.1 (by rw[e];exact bW.2 ⟨_,h,rfl⟩))];exact nsh hn.2 h
def fY (l:List Int):Int:=l.foldl max 0
theorem nRj(l:List Int)(x:Int):fY (l++[x])=max (fY l) x:=by unfold fY;rw[Cq];rfl
theorem SK:∀(l:List Int) (a:Int),a<=l.foldl max a/\(∀x∈l,x<=l.foldl max a)/\(l.foldl max a=a\/l.foldl max a∈l)
 | [],a=>⟨Int.le_refl _,(λx h=>by cases h),.inl rfl⟩
 |y::l,a=>by
  obtain⟨h1,h2,h3⟩:=SK l (max a y);simp only[List.foldl_cons];refine⟨by omega,λx hx=>?_,?_⟩
  ·rcases cI.1 hx with rfl|hx
   ·omega
   exact h2 x hx
  rcases h3 with h3|h3
  ·rw[h3];by_cases h:a<=y
   ·right;rw[Int.max_eq_right h];exact .head _
   left;omega
  exact .inr (.tail _ h3)
theorem nLk(l:List Int):0<=fY l:=(SK l 0).1
theorem AO{l l':List Int}(h:∀x,x∈l↔x∈l'):fY l=fY l':=by
 have a:=SK l 0;have b:=SK l' 0
 unfold fY;have h1:l.foldl max 0<=l'.foldl max 0:=by
  rcases a.2.2 with e|e
  ·rw[e];exact b.1
  exact b.2.1 _ ((h _).1 e)
 have h2:l'.foldl max 0<=l.foldl max 0:=by
  rcases b.2.2 with e|e
  ·rw[e];exact a.1
  exact a.2.1 _ ((h _).2 e)
 omega
theorem nXm{l:List Int}{b:Int}(hb:0<=b)(h:∀x∈l,x<=b):fY l<=b:=by
 rcases(SK l 0).2.2 with e|e
 ·unfold fY;omega
 exact h _ e
def vE:Nat->jw->Int->Int
 |0,_,_=>0
 |n+1,kv,f=>fY ((List.range kv.length).map λj=>match kv[j]? with|some q=>if q.2.par=f then vE n kv q.2.fol else 0|none=>0)+1
def qx (kv:jw) (f:Int):Int:=vE (kv.length+1) kv f
def rR (kv:jw) (f:Int) (j:Nat):Int:=match kv[j]? with|some q=>if q.2.par=f then qx kv q.2.fol else 0|none=>0
theorem AP(kv:jw):∀n f,0<=vE n kv f/\vE n kv f<=(n:Int)
 |0,f=>by simp[vE]
 |n+1,f=>by
  unfold vE;have h0:=nLk ((List.range kv.length).map λj=>match kv[j]? with|some q=>if q.2.par=f then vE n kv q.2.fol else 0|none=>0);have h1:fY ((List.range kv.length).map λj=>match kv[j]? with|some q=>if q.2.par=f then vE n kv q.2.fol else 0|none=>0)<=(n:Int):=by
   refine nXm zJ λx hx=>?_;obtain⟨j,_,rfl⟩:=bW.1 hx;split
   ·split
    ·exact(AP kv n _).2
    omega
   omega
  omega
variable {q:Int×Pl}
theorem ncf(hF:jx kv)(hk:tz kv)(hq:kv[j]? =some q){f:Int}(hp:q.2.par=f)(hf:0<=f):(cG kv q.2.fol).length=(cG kv f).length+1:=by
 have hm:=cb hq;have e:=(hk.2 q hm).1;have hg:av kv q.2.fol=some q.2:=by rw[<-e];exact nsh hk.1 hm
 rw[LA hF hg zJ,hp,dQ]
theorem nZm{kv:jw}(hF:jx kv)(hk:tz kv):∀n f,0<=f->kv.length<n+(cG kv f).length->vE (n+1) kv f=vE n kv f
 |0,f,hf,h=>absurd (CQ hF f) zJ
 |n+1,f,hf,h=>by
  rw[vE];conv=>rhs;rw[vE]
  congr 2;apply List.map_congr_left;intro j _;cases hq:kv[j]? with
  |none=>rfl
  |some q=>
   dsimp only;split
   ·rename_i hp;have h1:=ncf hF hk hq hp hf;have h2:=(hk.2 q (cb hq)).2.2.2.1.1;exact nZm hF hk n _ h2 zJ
   rfl
theorem LC(hF:jx kv)(hk:tz kv)(f:Int)(hf:0<=f):qx kv f=fY ((List.range kv.length).map (rR kv f))+1:=by
 unfold qx;rw[vE];congr 2;apply List.map_congr_left;intro j _;unfold rR;cases hq:kv[j]? with
 |none=>rfl
 |some q=>
  dsimp only;split
  ·rename_i hp;have h1:=ncf hF hk hq hp hf;have h2:=(hk.2 q (cb hq)).2.2.2.1.1;exact(nZm hF hk kv.length _ h2 zJ).symm
  rfl
theorem AQ(kv:jw)(f:Int):0<=qx kv f/\qx kv f<=(kv.length:Int)+1:=by have:=AP kv (kv.length+1) f;unfold qx;omega
theorem FA{f:Int}(hq:kv[j]? =some q)(hp:q.2.par=f)(js:List Nat):max (fY (js.map (rR kv f))) (qx kv q.2.fol)=fY ((js++[j]).map (rR kv f)):=by
 rw[gP,eh,iB,nRj];congr 1;unfold rR;rw[hq];exact(if_pos hp).symm
theorem LD{f:Int}(hq:kv[j]? =some q)(hp:¬q.2.par=f)(js:List Nat):fY (js.map (rR kv f))=fY ((js++[j]).map (rR kv f)):=by
 rw[gP,eh,iB,nRj];have:rR kv f j=0:=by unfold rR;rw[hq];exact if_neg hp
 rw[this];have:=nLk (js.map (rR kv f));omega
theorem LF(kv:jw)(f:Int)(js:List Nat):0<=fY (js.map (rR kv f))/\fY (js.map (rR kv f))<=(kv.length:Int)+1:=by
 refine⟨nLk _,nXm zJ λx hx=>?_⟩;obtain⟨j,_,rfl⟩:=bW.1 hx;unfold rR;split
 ·split
  ·exact(AQ kv _).2
  omega
 omega
theorem FB(hF:jx kv)(hk:tz kv){f:Int}(hf:0<=f)(hl:∀j∈js,j<kv.length)(bP:∀j,j<kv.length->j∈js):fY (js.map (rR kv f))+1=qx kv f:=by
 rw[LC hF hk f hf];congr 1;apply AO;intro x;simp only[bW,oT];exact⟨λ⟨j,h,e⟩=>⟨j,hl j h,e⟩,λ⟨j,h,e⟩=>⟨j,bP j h,e⟩⟩
theorem AR(hF:jx kv)(hk:tz kv)(kK:kv.length<=100000)(mb:Nat)(m:Mp)(hm:m.Ok kv)(b1 b2:Nat)(f:Int)(hf:0<=f)(w:World)(hw:(w.heap[b1]? =some (.cells #[.map (some mb)] 132 (0,0))/\w.heap[b2]? =some (.cells #[.func (.func 127) #[] #[ptr b1 0,ptr b2 0]] 183 (0,0))/\w.heap[mb]? =some (m.obj iS kv)))(ih:∀(g:Int) (W:World),0<=g->(cG kv g).length=(cG kv f).length+1->(W.heap[b1]? =some (.cells #[.map (some mb)] 132 (0,0))/\W.heap[b2]? =some (.cells #[.func (.func 127) #[] #[ptr b1 0,ptr b2 0]] 183 (0,0))/\W.heap[mb]? =some (m.obj iS kv))->Calls prog 127 #[.int .i64 g,ptr b1 0,ptr b2 0] W (ay W (.int .i64 (qx kv g)))):Calls prog 127 #[.int .i64 f,ptr b1 0,ptr b2 0] w (ay w (.int .i64 (qx kv f))):=by
 obtain⟨aQ,aU,ij⟩:=hw;have aX:¬Gh.no.X b1:=λh=>h;have aN:¬Gh.no.X b2:=λh=>h;have abW:=(aT.1 aQ).1;have xw:=(aT.1 aU).1;have sK:=(aT.1 ij).1;refine enter (vs:=[_,_,_]) func127 rfl ntmps127 rfl ?_;refine B 14 ?_;refine JV (ev:=iS) underlying132 (bL.old A0 ij zU trivial) rfl rfl rfl ?_;intro rb lZ JW;replace lZ:=yb lZ;refine B 3 ?_;refine CJ.loop (α:=List Nat) (λp=>[(0,.int .i64 f),(1,ptr b1 0),(2,ptr b2 0),(5,.int .i64 (fY (p.map (rR kv f)))),(9,ptr rb 0)]) (λp=>[(rb,m.it mb p)]) (λp=>[w]) (λp=>Gh.no) (λp=>p.Nodup/\(∀j∈p,j<kv.length)) (λp=>kv.length-p.length) [] ⟨List.nodup_nil,by simp⟩ zR rfl rfl zX ?_;rintro js ⟨hnd,gf⟩;dsimp only at hnd gf ⊢;have IT:=LF kv f js;refine B 2 ?_;refine yG (ev:=iS) (i:=0) rfl hm (bL.old A0 ij zU z7) gf rfl rfl rfl (λbP=>?_) (λjn pn ja kZ=>?_)
 ·refine B 18 ?_;refine bF (.inl rfl) results127 (RS.t rfl (RS.n)) A0 zP ?_;exact vi (FB hF hk hf gf bP)
 refine B 10 ?_;refine rv rfl rfl rfl (sL (ev:=iS) (i:=0) rfl hm (bL.old A0 ij zU z7) ja rfl) ?_;refine rr (.agg (plA pn.2)) (gk rfl rfl) ?_;refine Lw ?_;refine yW ?_;intro b7 gd oN;refine H9 ?_;refine B 10 ?_;refine aG ?_ ?_
 ·intro ah;refine B 2 ?_;refine rr (.func (.func 127) #[] #[ptr b1 0,ptr b2 0]) (aa isAgg183 rfl A0 aU aN zI rfl) ?_;refine B 2 ?_;refine nK (v:=.int .i64 (qx kv pn.2.fol)) (f:=127) (cap:=[ptr b1 0,ptr b2 0]) rfl call127 rfl rfl rfl (λW hS=>ih pn.2.fol W (hk.2 pn (cb ja)).2.2.2.1.1 (ncf hF hk ja gw hf) ⟨hS.old A0 aQ zU z7,hS.old A0 aU zU z7,hS.old A0 ij zU z7⟩) ?_;refine rq (.int .i64 (fY ((js++[jn]).map (rR kv f)))) (xy rfl rfl) (vi (FA ja gw js)) ?_;refine B 3 ?_;refine og ?_;refine PJ.again (js++[jn]) ⟨(wu hnd gf ja kZ).1,(wu hnd gf ja kZ).2.1⟩ QB zR rfl rfl zX
 intro ah;refine B 2 ?_;refine og ?_;refine PJ.again (js++[jn]) ⟨(wu hnd gf ja kZ).1,(wu hnd gf ja kZ).2.1⟩ QB ⟨rfl,rfl,rfl,congrArg (λz=>some (Value.int .i64 z)) (LD ja gw js),rfl,trivial⟩ rfl rfl zX
theorem ru{kv:jw}(hF:jx kv)(hk:tz kv)(kK:kv.length<=100000)(mb:Nat)(m:Mp)(hm:m.Ok kv)(b1 b2:Nat):∀(n:Nat) (f:Int) (w:World),0<=f->kv.length<n+(cG kv f).length->(w.heap[b1]? =some (.cells #[.map (some mb)] 132 (0,0))/\w.heap[b2]? =some (.cells #[.func (.func 127) #[] #[ptr b1 0,ptr b2 0]] 183 (0,0))/\w.heap[mb]? =some (m.obj iS kv))->Calls prog 127 #[.int .i64 f,ptr b1 0,ptr b2 0] w (ay w (.int .i64 (qx kv f)))
 |0,f,w,hf,hn,_=>absurd (CQ hF f) zJ
 |n+1,f,w,hf,hn,hw=>AR hF hk kK mb m hm b1 b2 f hf w hw λg W hg hd hW=>ru hF hk kK mb m hm b1 b2 n g W hg zJ hW
theorem n4c(hF:jx kv)(hk:tz kv)(kK:kv.length<=100000)(mb:Nat)(m:Mp)(hm:m.Ok kv)(f:Int)(hf:0<=f)(w:World)(ij:w.heap[mb]? =some (m.obj iS kv)):Calls prog 94 #[.map (some mb),.int .i64 f] w (ay w (.int .i64 (qx kv f))):=by
 have sK:=(aT.1 ij).1;refine enter (vs:=[_,_]) func94 rfl ntmps94 rfl ?_;refine B 2 ?_;refine yX ?_;intro b2 w2 aU aN dY cR cX;refine B 5 ?_;refine aZ zeroValue183 rfl rfl ?_;refine yW ?_;intro b5 iH iI;refine B 5 ?_;refine bh (i:=0) rfl sizeOf183 rfl rfl rfl rfl rfl rfl ?_;refine B 4 ?_;refine rr (.func (.func 127) #[] #[ptr b2 0,ptr b5 0]) (aK (i:=0) rfl isAgg183 rfl rfl) ?_;refine B 1 ?_;refine nK (v:=.int .i64 (qx kv f)) (f:=127) (cap:=[ptr b2 0,ptr b5 0]) rfl call127 rfl rfl rfl (λW hS=>ru hF hk kK mb m hm b2 b5 (kv.length+1) f W hf zJ ⟨hS.old A0 aU zU z7,hS.own (b5,_) A0,hS.old A1 ij zU z7⟩) ?_;refine B 4 ?_;exact bH (.inl rfl) results94 (RS.t rfl RS.n) λW hS=>⟨rfl,hS.base A1 uV⟩
theorem sl5{w:World}{t:Nat}{c1 c2 c3 c4 c5:Int}(hb:w.heap[b]? =some (.cells #[.int .i64 c1,.int .i64 c2,.int .i64 c3,.int .i64 c4,.int .i64 c5] t fr)):ag encI 1 w.heap.size w (some ⟨b,0,none⟩) [c1,c2,c3,c4,c5]:=
 .inr ⟨b,0,_,t,fr,rfl,(aT.1 hb).1,hb,by
  intro i hi
  match i,hi with
  |0,_=>exact⟨by simp,rfl⟩
  |1,_=>exact⟨by simp,rfl⟩
  |2,_=>exact⟨by simp,rfl⟩
  |3,_=>exact⟨by simp,rfl⟩
  |4,_=>exact⟨by simp,rfl⟩⟩
theorem nhg(x y:Pl)(w:World):Calls prog 92 #[.agg (plA x),.agg (plA y)] w (ay w (.int .i64 (N3 x y))):=by
 refine enter (vs:=[_,_]) func92 rfl ntmps92 rfl ?_;refine B 2 ?_;refine yX ?_;intro b2 w2 aU aN dY cR cX;refine yX ?_;intro b3 w3 aM aD da cd cP;refine B 4 ?_;refine ng (E':=[(0,_),(1,_),(2,_),(3,_),(4,_)]) zR ?_;refine nl 24 [.det [] _,.det [0] _,.det [] _,.det [2] _,.det [1,3] _,.det [] _,.det [5] _,.det [] _,.det [7] _,.det [6,8] _,.det [] _,.det [10] _,.det [] _,.det [12] _,.det [11,13] _,.det [] _,.det [15] _,.det [] _,.det [17] _,.det [16,18] _,.det [] _,.det [20] _,.det [] _,.det [22] _] zQ (xc z1 (xc Wo (xc z1 (xc Wt (xc Wv (xc z1 (xc Wo (xc z1 (xc Wt (xc Wv (xc z1 (xc Wo (xc z1 (xc Wt (xc Wv (xc z1 (xc Wo (xc z1 (xc Wt (xc Wv (xc (by exact λaf=>X.val rfl rfl (al underlying135 rfl sizeOf9 rfl) (λ_ _=>rfl)) (xc (by exact λaf=>X.val rfl rfl (aa isAgg9 rfl A1 aU aN trivial rfl) (λ_ _=>rfl)) (xc (by exact λaf=>X.val rfl rfl (al underlying135 rfl sizeOf9 rfl) (λ_ _=>rfl)) (xc (by exact λaf=>X.val rfl rfl (aa isAgg9 rfl A0 aM aD trivial rfl) (λ_ _=>rfl)) (xn))))))))))))))))))))))))) zQ zQ zQ (λaf=>?_);refine call call126 rfl rfl rfl (λW hS=>Fw _ _ W) ?_;refine Da ?_;refine yV ?_;intro b30 w30 ab1 afA afB afC afD;refine call call124 rfl rfl rfl (λW hS=>Lz [bZ x.time y.time,bZ x.dev y.dev,bZ x.fol y.fol,bZ x.par y.par,Go.Lib.compareBytes x.nm.data.toList y.nm.data.toList] zX W.heap.size (some ⟨b30,0,none⟩) 5 W (ao _) (sl5 (hS.old A0 ab1 zU trivial))) ?_
 refine B 4 ?_;refine ax results92 rfl A3 ?_;rfl
def rS:List Pl->Nat->List Pl
 |l,0=>l
 |l,j+1=>match l[j+1]?,l[j]? with
  |some x,some y=>if N3 x y<0 then rS ((l.set (j+1) y).set j x) j else l
  |_,_=>l
def kB:List Pl->Nat->Nat->List Pl
 |l,0,_=>l
 |l,k+1,i=>kB (rS l i) k (i+1)
def p6 (xs:List Pl):List Pl:=kB xs (xs.length-1) 1
theorem FC{l:List Pl}{x y:Pl}(hx:l[j+1]? =some x)(hy:l[j]? =some y)(h:N3 x y<0):rS l (j+1)=rS ((l.set (j+1) y).set j x) j:=by rw[rS,hx,hy];exact if_pos h
theorem nzk{l:List Pl}{x y:Pl}(hx:l[j+1]? =some x)(hy:l[j]? =some y)(h:¬N3 x y<0):rS l (j+1)=l:=by rw[rS,hx,hy];exact if_neg h
theorem nUl:∀(j:Nat) (l:List Pl),(rS l j).length=l.length
 |0,l=>by rw[rS]
 |j+1,l=>by
  unfold rS;split
  ·split
   ·rw[nUl j,FD,FD]
   rfl
  rfl
theorem ntl{cur:List Pl}{n:Nat}(h:i<n):kB cur (n-i) i=kB (rS cur i) (n-(i+1)) (i+1):=by
 rw[show n-i=(n-(i+1))+1 by omega,kB]
theorem nxk:∀(j:Nat) (l:List Pl) (z:Pl),z∈rS l j->z∈l
 |0,l,z,h=>by rw[rS]at h;exact h
 |j+1,l,z,h=>by
  unfold rS at h;split at h
  ·rename_i x y hx hy;split at h
   ·have h1:=nxk j _ z h;rcases Ww h1 with h1|h1
    ·rcases Ww h1 with h1|h1
     ·exact h1
     rw[h1];exact cb hy
    rw[h1];exact cb hx
   exact h
  exact h
theorem nbn:∀(k i:Nat) (l:List Pl) (z:Pl),z∈kB l k i->z∈l
 |0,i,l,z,h=>by rw[kB]at h;exact h
 |k+1,i,l,z,h=>by rw[kB]at h;exact nxk i l z (nbn k (i+1) _ z h)
theorem n6m:∀(k i:Nat) (l:List Pl),(kB l k i).length=l.length
 |0,i,l=>by rw[kB]
 |k+1,i,l=>by rw[kB,n6m k,nUl]
theorem nGh(xs:List Pl):(p6 xs).length=xs.length:=n6m _ _ _
theorem AS{xs:List Pl}{z:Pl}(h:z∈p6 xs):z∈xs:=nbn _ _ _ _ h
theorem n0n(xs:List Pl)(cj:xs.length<=12)(b cp:Nat)(sp:List Value)(w:World)(hb:w.heap[b]? =some (ck gI 135 xs sp)):Calls prog 185 #[.slice (some ⟨b,0,none⟩) xs.length cp,.int .i64 0,.int .i64 (xs.length:Int),.func (.func 92) #[] #[]] w (λe w'=>e= .returned (.tuple #[])/\aF (· =b) w w'/\w'.heap[b]? =some (ck gI 135 (p6 xs) sp)):=by
 have jf:=(aT.1 hb).1;refine nL (Gh.lent (· =b)) [(b,ck gI 135 xs sp)] (vs:=[_,_,_,_]) func185 rfl ntmps185 rfl (xv hb) ?_;refine B 8 ?_;refine CJ.loop (α:=Nat×List Pl) (λp=>[(0,.slice (some ⟨b,0,none⟩) xs.length cp),(1,.int .i64 0),(2,.int .i64 (xs.length:Int)),(3,.func (.func 92) #[] #[]),(8,.int .i64 (p.1:Int))]) (λp=>[(b,ck gI 135 p.2 sp)]) (λp=>[w]) (λp=>Gh.lent (· =b)) (λp=>1<=p.1/\p.1<=xs.length+1/\p.2.length=xs.length/\kB p.2 (xs.length-p.1) p.1=p6 xs) (λp=>xs.length+1-p.1) (1,xs) ⟨ao _,by dsimp only;omega,rfl,rfl⟩ zR rfl rfl zX ?_;rintro⟨i,cur⟩ ⟨u6,Hk,ll,Wx⟩;dsimp only at u6 Hk ll Wx ⊢;refine B 8 ?_;refine aG ?_ ?_
 ·intro ah;refine B 11 ?_;refine CJ.loop (α:=Nat×List Pl) (λp=>[(0,.slice (some ⟨b,0,none⟩) xs.length cp),(1,.int .i64 0),(2,.int .i64 (xs.length:Int)),(3,.func (.func 92) #[] #[]),(8,.int .i64 (i:Int)),(9,.int .i64 (p.1:Int))]) (λp=>[(b,ck gI 135 p.2 sp)]) (λp=>[w]) (λp=>Gh.lent (· =b)) (λp=>p.1<=i/\p.2.length=xs.length/\rS p.2 p.1=rS cur i) (λp=>p.1) (i,cur) ⟨ao _,ll,rfl⟩ zR rfl rfl zX ?_;rintro⟨j,tA⟩ ⟨hj,LG,hsk⟩;dsimp only at hj LG hsk ⊢;refine B 2 ?_;rcases j with _|j1
  ·refine zWg ?_;refine nl 14 [.det [] _,.det [] _,.det [0,1] _,.det [2] _,.det [3] undef,.det [3] undef,.det [3] undef,.det [3,5,6] undef,.det [3,7] undef,.det [3] undef,.det [3] undef,.det [3,10] undef,.det [3,9,11] undef,.det [3,12] undef] zQ (xc zN (xc zN (xc Eu (xc zN (xc zL (xc zL (xc zL (xc zL (xc zL (xc zL (xc zL (xc zL (xc zL (xc zL (xn))))))))))))))) zQ zQ zQ (λaf=>?_);refine B 17 ?_;exact zfj
  obtain⟨x,hx⟩:=nj tA (j1+1) zJ;obtain⟨y,hy⟩:=nj tA j1 zJ;by_cases qg:N3 x y<0
  ·refine zWg ?_;refine nl 14 [.det [] _,.det [] _,.det [0,1] _,.det [2] _,.det [3] _,.det [3] _,.det [3] _,.det [3,5,6] _,.det [3,7] _,.det [3] _,.det [3] _,.det [3,10] _,.det [3,9,11] _,.det [3,12] _] zQ (xc zN (xc zN (xc Hu (xc zN (xc zN (xc zN (xc zN (xc Wz (xc zxd (xc zN (xc zN (xc zKd (xc Wz (xc zyd (xn))))))))))))))) zQ zQ zQ (λaf=>?_);refine zlh ?_;refine He ?_;refine B 8 ?_;refine ng (E':=[(0,_),(1,_),(2,_),(3,_),(8,_),(9,_),(18,_),(19,_),(20,_),(21,_),(22,_),(23,_),(24,_),(25,_),(26,_),(27,_),(28,_),(29,_),(30,_),(31,_),(32,_),(33,_),(34,_)]) zR ?_;refine RM 16 [13,15] [([],some _),([],some _),([],some _),([],some _),([3],some _),([],some _),([],some _),([6],some _),([5,7],some _),([8],some _),([],some _),([],some _),([10,11],some _),([12],none),([0,1],some _),([9,14],none)] (λcv L' H'=>match cv with| []=>L'=[w]/\H'=[(b,ck gI 135 tA sp)]| [v1]=>v1= .agg (plA x)/\L'=[w]/\H'=[(b,ck gI 135 tA sp)]| [v1,v2]=>v1= .agg (plA x)/\v2= .tuple #[]/\L'=[w]/\H'=[(b,ck gI 135 (tA.set (j1+1) y) sp)]|_=>False) zQ ⟨rfl,rfl⟩ zQ zQ zQ zQ zQ zQ zQ (pc zT (pc zT (pc zT (pc zT (pc zLd (pc zT (pc zT (pc zLd (pc zBd (pc zcA (pc zT (pc zT (pc zBd (pk (pc zBd (pk (pn))))))))))))))))) ?_ ?_
   ·refine ss rfl rfl ?_ ?_
    ·intro cv L' H' hl hP F Q' hk;obtain rfl:=iZ hl;obtain⟨rfl,rfl⟩:=hP;refine rq (.agg (plA x)) (dd (i:=0) rfl isAgg135 sizeOf135 rfl (HP (j:=j1+1) nG zJ)) (va (HO (j:=j1+1) (sp:=sp) nG hx)) ?_;exact OJ.done (hk _ _ _ ⟨rfl,rfl,rfl⟩)
    refine ss rfl rfl ?_ ?_
    ·intro cv L' H' hl hP F Q' hk;obtain⟨v1,rfl⟩:=cM hl;obtain⟨rfl,rfl,rfl⟩:=hP;refine zC (enc:=gI) (m:=5) (i:=0) (j:=j1+1) (z:=y) rfl nG Wh sizeOf135 rfl rfl rfl zX zJ rfl rfl ?_;exact OJ.done (hk (.tuple #[]) _ _ ⟨rfl,rfl,rfl,rfl⟩)
    exact Wf
   intro cv L' H' hl hP;obtain⟨v1,v2,rfl⟩:=iL hl;obtain⟨rfl,rfl,rfl,rfl⟩:=hP;refine B 1 ?_;refine zC (enc:=gI) (m:=5) (i:=0) (j:=j1) (z:=x) rfl nG Wh sizeOf135 rfl rfl rfl zX (by simp only[FD];omega) rfl rfl ?_;refine B 5 ?_;refine rq (.int .i64 ((j1:Nat):Int)) (gz rfl rfl zJ zJ) (vi zJ) ?_;refine B 2 ?_;refine PJ.again (j1,(tA.set (j1+1) y).set j1 x) ⟨by dsimp only;omega,by dsimp only;rw[FD,FD];exact LG,by dsimp only;rw[<-hsk,FC hx hy qg]⟩ dG zR rfl rfl zX
  refine zWg ?_;refine nl 14 [.det [] _,.det [] _,.det [0,1] _,.det [2] _,.det [3] _,.det [3] _,.det [3] _,.det [3,5,6] _,.det [3,7] _,.det [3] _,.det [3] _,.det [3,10] _,.det [3,9,11] _,.det [3,12] _] zQ (xc zN (xc zN (xc Hu (xc zN (xc zN (xc zN (xc zN (xc Wz (xc zxd (xc zN (xc zN (xc zKd (xc Wz (xc zyd (xn))))))))))))))) zQ zQ zQ (λaf=>?_);refine zlh ?_;refine tR ?_;refine B 15 ?_;exact zfj
 intro ah;refine B 4 ?_;exact bH (.inr rfl) (rs:=[]) results185 RS.n λW hS=>⟨rfl,hS.baseX A0 Cr,by have h9:=hS.own (b,_) A0;rw[show xs.length-i=0 by omega,kB]at Wx;rw[<-Wx];exact h9⟩
theorem LH(xs:List Pl)(cj:xs.length<=12)(b cp:Nat)(sp:List Value)(w:World)(hb:w.heap[b]? =some (ck gI 135 xs sp))(lim:Int):Calls prog 123 #[.slice (some ⟨b,0,none⟩) xs.length cp,.int .i64 0,.int .i64 (xs.length:Int),.int .i64 lim,.func (.func 92) #[] #[]] w (λe w'=>e= .returned (.tuple #[])/\aF (· =b) w w'/\w'.heap[b]? =some (ck gI 135 (p6 xs) sp)):=by
 have jf:=(aT.1 hb).1;refine nL (Gh.lent (· =b)) [(b,ck gI 135 xs sp)] (vs:=[_,_,_,_,_]) func123 rfl ntmps123 rfl (xv hb) ?_;refine B 11 ?_;refine CJ.loop (α:=Unit) (λp=>[(0,.slice (some ⟨b,0,none⟩) xs.length cp),(1,.int .i64 0),(2,.int .i64 (xs.length:Int)),(3,.int .i64 lim),(4,.func (.func 92) #[] #[]),(10,.bool true),(11,.bool true)]) (λp=>[(b,ck gI 135 xs sp)]) (λp=>[w]) (λp=>Gh.lent (· =b)) (λp=>True) (λp=>0) () trivial zR rfl rfl zX ?_;rintro⟨⟩ _;refine B 5 ?_;refine rq (.int .i64 (xs.length:Int)) (gz rfl rfl zJ zJ) (vi zJ) ?_;refine B 7 ?_;refine UD ?_;refine B 9 ?_;refine WA (γ:=Unit) (i:=0) (b:=b) (o:=ck gI 135 xs sp) (v:=λ_=>.tuple #[]) (ob:=λ_=>ck gI 135 (p6 xs) sp) (Φ:=λ_=>True) (first:=[]) (cap:=[]) rfl rfl call185 rfl rfl rfl (λW hS h=>(n0n xs cj b cp sp W h).mono λe w2 h=>⟨(),h.1,h.2.1,trivial,h.2.2⟩) ?_;rintro⟨⟩ -;refine B 7 ?_;exact bH (.inl rfl) (rs:=[]) results123 RS.n λW hS=>⟨rfl,hS.baseX A0 Cr,hS.own (b,_) A0⟩
theorem AU(xs:List Pl)(cj:xs.length<=12)(b cp:Nat)(sp:List Value)(w:World)(hb:w.heap[b]? =some (ck gI 135 xs sp)):Calls prog 91 #[.slice (some ⟨b,0,none⟩) xs.length cp,.func (.func 92) #[] #[]] w (λe w'=>e= .returned (.tuple #[])/\aF (· =b) w w'/\w'.heap[b]? =some (ck gI 135 (p6 xs) sp)):=by
 have jf:=(aT.1 hb).1;refine nL (Gh.lent (· =b)) [(b,ck gI 135 xs sp)] (vs:=[_,_]) func91 rfl ntmps91 rfl (xv hb) ?_;refine B 12 ?_;refine call call97 rfl rfl rfl (λW hS=>Xl _ zJ zJ W) ?_;refine B 1 ?_;refine WA (γ:=Unit) (i:=0) (b:=b) (o:=ck gI 135 xs sp) (v:=λ_=>.tuple #[]) (ob:=λ_=>ck gI 135 (p6 xs) sp) (Φ:=λ_=>True) (first:=[]) (cap:=[]) rfl rfl call123 rfl rfl rfl (λW hS h=>(LH xs cj b cp sp W h _).mono λe w2 h=>⟨(),h.1,h.2.1,trivial,h.2.2⟩) ?_;rintro⟨⟩ -;refine B 1 ?_;exact bH (.inr rfl) (rs:=[]) results91 RS.n λW hS=>⟨rfl,hS.baseX A0 Cr,hS.own (b,_) A0⟩
theorem AV{β:Type}{l:List (Int×β)}{k:Int}{v:β}{q:Int×β}(h:q∈bQ l k v):q=(k,v)\/q∈l:=by
 unfold bQ at h;split at h
 ·rcases Ww h with h|h
  ·exact .inr h
  exact .inl h
 rcases cQ.1 h with h|h
 ·exact .inr h
 exact .inl (qi.1 h)
theorem jx.nil:jx []:=⟨λ_=>0,λk p h=>by simp[av,dF]at h⟩
theorem tz.nil:tz []:=⟨List.nodup_nil,λq h=>by cases h⟩
theorem FE{f o:Int}(h:fX kv f o=false):¬f=o/\o∉cG kv f:=by
 unfold fX at h;rw[Bool.or_eq_false_iff]at h;refine⟨by simpa using h.2,λhm=>?_⟩;have:=List.any_eq_false.1 h.1 o hm;simp at this
theorem jx.put(h:jx kv)(hp:0<=p.par->fX kv p.par p.fol=false):jx (bQ kv p.fol p):=by
 by_cases h0:0<=p.par
 ·obtain⟨dn,fN⟩:=FE (hp h0);have dec:∀x,Decidable (x=p.fol\/p.fol∈cG kv x):=λx=>inferInstance;refine⟨λx=>if x=p.fol\/p.fol∈cG kv x then(cG kv x).length+(cG kv p.par).length+1 else(cG kv x).length,λk q hk h1=>?_⟩;rw[WB]at hk;dsimp only;by_cases e:k=p.fol
  ·rw[if_pos e]at hk;cases hk
   rw[if_neg (λh2=>h2.elim dn fN),if_pos (.inl e)];omega
  rw[if_neg e]at hk;have hu:=LA h hk h1;have hl:(cG kv k).length=(cG kv q.par).length+1:=by rw[hu,dQ]
  by_cases c:q.par=p.fol\/p.fol∈cG kv q.par
  ·rw[if_pos c,if_pos (.inr (by rw[hu];rcases c with c|c;(rw[c];exact .head _);exact .tail _ c))];omega
  rw[if_neg c,if_neg (λh2=>c (by rcases h2 with h2|h2;(exact absurd h2 e);rw[hu]at h2;rcases cI.1 h2 with h3|h3;(exact .inl h3.symm);exact .inr h3))];omega
 refine⟨λx=>(cG kv x).length,λk q hk h1=>?_⟩;rw[WB]at hk;by_cases e:k=p.fol
 ·rw[if_pos e]at hk;cases hk;exact absurd h1 h0
 rw[if_neg e]at hk;exact h.rank k q hk h1
theorem tz.put(h:tz kv)(hp:iy p):tz (bQ kv p.fol p):=by
 refine⟨n4f h.1,λq hq=>?_⟩;rcases AV hq with rfl|hq
 ·exact⟨rfl,hp⟩
 exact h.2 q hq
def LI (kv:jw) (p:Pl):Prop:=(0<=p.par/\((av kv p.par).isSome=false\/fX kv p.par p.fol=true))\/8<mA kv p.par+qx kv p.fol
instance (kv:jw) (p:Pl):Decidable (LI kv p):=by unfold LI;infer_instance
def FF (kv:jw) (p:Pl):jw:=if LI kv p then kv else bQ kv p.fol p
def cH (l:List Pl):List Pl:=p6 (l.filter λx=> !!decide (iy x))
def gN (ys:List Pl) (j:Nat):jw:=(ys.take j).foldl FF []
def nq (l:List Pl):jw:=gN (cH l) (cH l).length
theorem n5i{l:List Pl}(h:p∈cH l):iy p:=by
 have:=(sP.1 (AS h)).2;simpa using this
theorem nal(l:List Pl):(cH l).length<=l.length:=by unfold cH;rw[nGh];exact yy _ _
theorem wH{ys:List Pl}(h:ys[j]? =some p):gN ys (j+1)=FF (gN ys j) p:=by unfold gN;rw[nC h,Cq];rfl
theorem Ie(h:LI kv p):FF kv p=kv:=if_pos h
theorem N5(h:¬LI kv p):FF kv p=bQ kv p.fol p:=if_neg h
theorem nEk{ys:List Pl}(hy:∀p∈ys,iy p):∀j,j<=ys.length->jx (gN ys j)/\tz (gN ys j)/\(gN ys j).length<=j
 |0,_=>⟨jx.nil,tz.nil,ao _⟩
 |j+1,h=>by
  obtain⟨p,hp⟩:=nj ys j zJ;obtain⟨h1,h2,h3⟩:=nEk hy j zJ;rw[wH hp];by_cases hb:LI (gN ys j) p
  ·rw[Ie hb];exact⟨h1,h2,by omega⟩
  rw[N5 hb];refine⟨h1.put λh0=>?_,h2.put (hy p (cb hp)),aR (Nn _ _ _) zJ⟩;cases hw:fX (gN ys j) p.par p.fol with
  |false=>rfl
  |true=>exact absurd (.inl ⟨h0,.inr hw⟩) hb
theorem FG(h:jx kv)(f:Int):0<=mA kv f/\mA kv f<=(kv.length:Int)+1:=by
 have:=CQ h f;unfold mA;split<;>omega
theorem nMn{c:Code}{Q:aC}{H1:ab}{α:Type}{enc:α->List Value}{t:Nat}{xs:List α}(hH:H=H0++(r.hp enc t xs++H1))(hm:∀x,(enc x).length=m)(bN:r.Fit m xs)(qt:r.Fr G L)(k:∀W a cp,r.val xs.length= .slice a xs.length cp->ag (λx=>(enc x).toArray) m W.heap.size W a xs->(∀w∈L,w.heap.size<=W.heap.size)->(∀p∈H0++H1,W.heap[p.1]? =some p.2)->CJ C c Q E D G (W::L) (H0++H1)):CJ C c Q E D G L H:=λa W hN hD hF hS=>by
 have hA:r.At enc t xs W:=by
  cases r with
  |nil=>trivial
  |row b cap sp=>exact hS.own (b,_) (by rw[hH];simp[Rw.hp])
 obtain⟨a9,c9,e9,h9⟩:=r.sl hm bN hA (ao _);have u4:St G L (H0++H1) W:=by
  cases r with
  |nil=>rw[hH]at hS;simpa[Rw.hp]using hS
  |row b cap sp=>
   have:=hS.dropAtF (i:=H0.length) (b:=b) (o:=ck enc t xs sp) (by rw[hH];simp[Rw.hp]) qt;rw[hH]at this;simpa[Rw.hp,List.eraseIdx_append_of_length_le]using this
 exact k W a9 c9 e9 h9 (λw hw=>(hS.links w hw).size) (λp hp=>u4.own p hp) a W hN hD hF u4.snap
theorem nlh(f:Nat)(cap:List Value)(az:dP prog f)(w:World):Calls prog 87 #[.slice none 0 0,.func (.func f) #[] cap.toArray] w (ay w (.slice none 0 0)):=by
 refine enter (vs:=[_,_]) func87 rfl ntmps87 rfl ?_;refine B 9 ?_;refine nB (α:=Int) (v:=λi:Int=>.int .i64 i) (Φ:=λ_ i _=>du (λ_:Pl=>false) [] i) call121 rfl rfl rfl (λW hS=>nog (λ_=>false) f cap az [] zX W.heap.size none 0 W (ao _) (.inl rfl) (λj x hx=>by simp at hx)) ?_;intro Wi i wi sV sW hi;have u6:i= -1:=by rcases hi with⟨h,_⟩|⟨k,x,_,hx,_⟩;(exact h);simp at hx
 subst u6;refine B 7 ?_;refine NJ ?_;refine ax results87 rfl A1 ?_;rfl
theorem nok(w:World):Calls prog 185 #[.slice none 0 0,.int .i64 0,.int .i64 0,.func (.func 92) #[] #[]] w (ay w (.tuple #[])):=by
 refine enter (vs:=[_,_,_,_]) func185 rfl ntmps185 rfl ?_;refine B 8 ?_;refine CJ.loop (α:=Nat) (λj=>[(0,.slice none 0 0),(1,.int .i64 0),(2,.int .i64 0),(3,.func (.func 92) #[] #[]),(8,.int .i64 1)]) (λj=>[]) (λj=>[w]) (λj=>Gh.no) (λj=>True) (λj=>0) 0 True.intro zR rfl rfl zX ?_;rintro j _;refine VH ?_;exact bF (.inr rfl) results185 RS.n A0 trivial rfl
theorem nun(l:Int)(w:World):Calls prog 123 #[.slice none 0 0,.int .i64 0,.int .i64 0,.int .i64 l,.func (.func 92) #[] #[]] w (ay w (.tuple #[])):=by
 refine enter (vs:=[_,_,_,_,_]) func123 rfl ntmps123 rfl ?_;refine B 11 ?_;refine CJ.loop (α:=Nat) (λj=>[(0,.slice none 0 0),(1,.int .i64 0),(2,.int .i64 0),(3,.int .i64 l),(4,.func (.func 92) #[] #[])]) (λj=>[]) (λj=>[w]) (λj=>Gh.no) (λj=>True) (λj=>0) 0 True.intro zR rfl rfl zX ?_;rintro j _;refine VI ?_;refine call call185 rfl rfl rfl (λW hS=>nok W) ?_;refine B 7 ?_;exact bF (.inl rfl) results123 RS.n A0 trivial rfl
theorem nfm(w:World):Calls prog 91 #[.slice none 0 0,.func (.func 92) #[] #[]] w (ay w (.tuple #[])):=by
 refine enter (vs:=[_,_]) func91 rfl ntmps91 rfl ?_;refine VJ ?_;refine call call123 rfl rfl rfl (λW hS=>nun _ W) ?_;refine B 1 ?_;exact bF (.inr rfl) results91 RS.n A0 trivial rfl
theorem nRg(l:List Pl)(cj:l.length<=12)(N:Nat)(a:Option Addr)(cp:Nat)(w:World)(hN:N<=w.heap.size)(aH:ag plA 5 N w a l):Calls prog 46 #[.slice a l.length cp] w (uc w iS (nq l) id):=by
 refine enter (vs:=[_]) func46 rfl ntmps46 rfl ?_;refine B 7 ?_;refine Eh iS rfl rfl ?_;refine yW ?_;intro b9 qD I0;refine B 6 ?_;refine Ho (enc:=gI) (m:=5) (t:=135) (xs:=l) (v:=id) (first:=[]) (cap:=[]) rfl call88 rfl rfl rfl (λW hS=>AL l zJ N a cp W (aR hN (hS.links w A0).size) (aH.up (ao _) (hS.same A0 hN zS uV))) ?_;intro r bE ak;have cE:=Rw.ge_of bE A0;refine yA (r:=r) (enc:=gI) (m:=5) (t:=135) (xs:=l) (ys:=(l.filter λx=> !!decide (iy x))) (H0:=[]) (H1:=[(b9,(Mp.mk [] 0).obj iS [])]) (v:=λr=>r.val (l.filter λx=> !!decide (iy x)).length) rfl call87 rfl rfl rfl (λhr W hS=>?_) (λb cap sp hr W hS h=>?_) ?_
 ·subst hr;have h0:l=[]:=ak;subst h0;exact(nlh 89 [] call89 W).mono λe w2 h=>⟨h.1,rfl,h.2⟩
 ·subst hr;exact nrk (λx=> !decide (iy x)) 89 [] call89 l zJ b cap sp W h ak (λj x hx W2 hK RH=>Lv x W2)
 intro r2 cN lU lX i7;have gm:=lU bE;have dE:=lX _ cE;refine B 6 ?_;refine yA (r:=r2) (enc:=gI) (m:=5) (t:=135) (xs:=(l.filter λx=> !!decide (iy x))) (ys:=(cH l)) (H0:=[]) (H1:=[(b9,(Mp.mk [] 0).obj iS [])]) (v:=λ_=>.tuple #[]) rfl call91 rfl rfl rfl (λhr W hS=>?_) (λb cap sp hr W hS h=>?_) ?_
 ·subst hr;have h0:(l.filter λx=> !!decide (iy x))=[]:=cN;unfold cH;rw[h0];exact(nfm W).mono λe w2 h=>⟨h.1,rfl,h.2⟩
 ·subst hr;exact(AU (l.filter λx=> !!decide (iy x)) (aR (yy _ _) zJ) b cap sp W h).mono λe w2 h=>⟨sp,h.1,h.2.1,by simp only[Rw.Fit]at cN ⊢;unfold cH;rw[nGh];exact cN,h.2.2⟩
 intro r3 lY yB yC tZ;have yD:=yB gm;have ua:=yC _ dE;refine B 4 ?_;refine nMn (enc:=gI) (m:=5) (t:=135) (xs:=(cH l)) (r:=r3) (H0:=[]) (H1:=[(b9,(Mp.mk [] 0).obj iS [])]) rfl nG lY yD ?_;intro Wr a9 c9 e9 kx ab9 aca;have acb:ag plA 5 Wr.heap.size Wr a9 (cH l):=kx;have M8:=nal l;have FH:=aca (b9,(Mp.mk [] 0).obj iS []) A0;dsimp only at FH;have afE:=(aT.1 FH).1;have su:(l.filter λx=> !!decide (iy x)).length=(cH l).length:=by unfold cH;rw[nGh]
 have tV:=ab9 w A0;refine B 1 ?_;refine rq (.slice a9 (cH l).length c9) (fW rfl) (((congrArg (λn=>r2.val n) su).trans ((tZ _).symm.trans e9))) ?_;refine B 5 ?_;refine CJ.loop (α:=Nat×Mp) (λp=>[(3,.map (some b9)),(15,.slice a9 (cH l).length c9),(16,.int .i64 ((cH l).length:Int)),(17,.int .i64 (p.1:Int))]) (λp=>[(b9,p.2.obj iS (gN (cH l) p.1))]) (λp=>[Wr,w]) (λp=>Gh.no) (λp=>p.1<=(cH l).length/\p.2.Ok (gN (cH l) p.1)) (λp=>(cH l).length-p.1) (0,⟨[],0⟩) ⟨db _,Mp.nil⟩ zR rfl rfl zX ?_;rintro⟨j,m⟩ ⟨hj,hm⟩;dsimp only at hj hm ⊢;have hinv:=nEk (λp hp=>n5i hp) j hj;have Ul:=hinv.2.2;refine B 6 ?_;refine aG ?_ ?_
 ·intro ah;refine B 5 ?_;obtain⟨bo,oo,cs0,to,fk,rfl,fE,hcs,ar⟩:=acb.get zJ;obtain⟨x,hx⟩:=nj (cH l) j zJ;have hxk:=n5i (cb hx);have dn:bo≠b9:=λe=>by subst e;rw[hcs]at FH;cases FH
  refine B 2 ?_;refine rq (.agg (plA x)) (ai isAgg135 sizeOf135 rfl A0 hcs zU Ej (nk ar hx rfl)) (va (nr ar hx rfl)) ?_;refine Lw ?_;refine yW ?_;intro b6 gV lP;refine H9 ?_;refine B 7 ?_;refine rq (.tuple #[.agg (plA ((av (gN (cH l) j) x.par).getD Fy)),.bool (av (gN (cH l) j) x.par).isSome]) (gE (ev:=iS) (k:=x.par) underlying132 underlying3 zeroValue135 hm (bL.own (i:=1) rfl) rfl rfl) (by cases av (gN (cH l) j) x.par<;>rfl) ?_;refine rr (.tuple #[.agg (plA ((av (gN (cH l) j) x.par).getD Fy)),.bool (av (gN (cH l) j) x.par).isSome]) (fW rfl) ?_;refine B 2 ?_;refine Lw ?_;refine yW ?_;intro b7 gd oN;refine H9 ?_;refine B 5 ?_;have hlb:=FG hinv.1 x.par;have hhb:=AQ (gN (cH l) j) x.fol;by_cases h1:0<=x.par
  ·rcases hq:av (gN (cH l) j) x.par with _|q
   ·refine N6 ?_;refine nl 23 [.det [] _,.det [0] _,.det [1] _,.det [2] _,.det [3] _,.det [3,4] _,.det [3,5] _,.det [6] undef,.det [6] undef,.det [6,8] undef,.det [6] undef,.det [6,10] undef,.det [6,7,9,11] undef,.det [3,6,12] _,.det [3,13] _,.det [14] _,.det [15] undef,.det [15] undef,.det [15,17] undef,.det [15,16,18] undef,.det [15] undef,.det [15] undef,.det [15,21] undef] zQ (xc z1 (xc z6 (xc SL (xc zN (xc (by exact λaf=>X.val rfl rfl (RV.re (v':=.bool false) (fW rfl) (by first|rfl|(rw[hq];rfl))) (λ_ _=>rfl)) (xc NZ (xc zN (xc zL (xc zL (xc zL (xc zL (xc zL (xc zL (xc z4 (xc z4 (xc zN (xc zL (xc zL (xc zL (xc zL (xc zL (xc zL (xc zL (xn)))))))))))))))))))))))) zQ zQ zQ (λaf=>?_);refine B 15 ?_;refine Hp ?_;refine PJ.again (j+1,m) ⟨by dsimp only;omega,by dsimp only;rw[wH hx,Ie (.inl ⟨h1,.inl (by rw[hq];rfl)⟩)];exact hm⟩ dG zR (by rw[wH hx,Ie (.inl ⟨h1,.inl (by rw[hq];rfl)⟩)];rfl) rfl zX
   rcases SM:fX (gN (cH l) j) x.par x.fol with _|_
   ·by_cases h8:8<mA (gN (cH l) j) x.par+qx (gN (cH l) j) x.fol
    ·refine N6 ?_;refine nl 23 [.det [] _,.det [0] _,.det [1] _,.det [2] _,.det [3] _,.det [3,4] _,.det [3,5] _,.det [6] _,.det [6] _,.det [6,8] _,.det [6] _,.det [6,10] _,.det [6,7,9,11] (.bool false),.det [3,6,12] _,.det [3,13] _,.det [14] _,.det [15] _,.det [15] _,.det [15,17] _,.det [15,16,18] (.int .i64 (mA (gN (cH l) j) x.par)),.det [15] _,.det [15] _,.det [15,21] _] zQ (xc z1 (xc z6 (xc SL (xc zN (xc z8b (xc NZ (xc zN (xc zN (xc z1 (xc z6 (xc z1 (xc z6 (xc zVb (xc z5 (xc z4 (xc zN (xc zN (xc z1 (xc z6 (xc WC (xc zN (xc z1 (xc z6 (xn)))))))))))))))))))))))) zQ zQ zQ (λaf=>?_);exact z4i
    refine N6 ?_;refine nl 23 [.det [] _,.det [0] _,.det [1] _,.det [2] _,.det [3] _,.det [3,4] _,.det [3,5] _,.det [6] _,.det [6] _,.det [6,8] _,.det [6] _,.det [6,10] _,.det [6,7,9,11] (.bool false),.det [3,6,12] _,.det [3,13] _,.det [14] _,.det [15] _,.det [15] _,.det [15,17] _,.det [15,16,18] (.int .i64 (mA (gN (cH l) j) x.par)),.det [15] _,.det [15] _,.det [15,21] _] zQ (xc z1 (xc z6 (xc SL (xc zN (xc z8b (xc NZ (xc zN (xc zN (xc z1 (xc z6 (xc z1 (xc z6 (xc zVb (xc z5 (xc z4 (xc zN (xc zN (xc z1 (xc z6 (xc WC (xc zN (xc z1 (xc z6 (xn)))))))))))))))))))))))) zQ zQ zQ (λaf=>?_);refine zTe ?_;refine B 1 ?_;refine Jc ?_;refine B 11 ?_;refine zqh ?_;intro m2 aN;refine K0 ?_;refine PJ.again (j+1,m2) ⟨by dsimp only;omega,by dsimp only;rw[wH hx,N5 (λh=>h.elim (λh=>h.2.elim (λh=>by rw[hq]at h;cases h) (λh=>by rw[SM]at h;cases h)) h8)];exact aN⟩ dG zR (by rw[wH hx,N5 (λh=>h.elim (λh=>h.2.elim (λh=>by rw[hq]at h;cases h) (λh=>by rw[SM]at h;cases h)) h8)];rfl) rfl zX
   refine N6 ?_;refine nl 23 [.det [] _,.det [0] _,.det [1] _,.det [2] _,.det [3] _,.det [3,4] _,.det [3,5] _,.det [6] _,.det [6] _,.det [6,8] _,.det [6] _,.det [6,10] _,.det [6,7,9,11] (.bool true),.det [3,6,12] _,.det [3,13] _,.det [14] _,.det [15] undef,.det [15] undef,.det [15,17] undef,.det [15,16,18] undef,.det [15] undef,.det [15] undef,.det [15,21] undef] zQ (xc z1 (xc z6 (xc SL (xc zN (xc z8b (xc NZ (xc zN (xc zN (xc z1 (xc z6 (xc z1 (xc z6 (xc zVb (xc z5 (xc z4 (xc zN (xc zL (xc zL (xc zL (xc zL (xc zL (xc zL (xc zL (xn)))))))))))))))))))))))) zQ zQ zQ (λaf=>?_);refine B 15 ?_;refine Hp ?_;refine PJ.again (j+1,m) ⟨by dsimp only;omega,by dsimp only;rw[wH hx,Ie (.inl ⟨h1,.inr SM⟩)];exact hm⟩ dG zR (by rw[wH hx,Ie (.inl ⟨h1,.inr SM⟩)];rfl) rfl zX
  by_cases h8:8<mA (gN (cH l) j) x.par+qx (gN (cH l) j) x.fol
  ·refine N6 ?_;refine nl 23 [.det [] _,.det [0] _,.det [1] _,.det [2] _,.det [3] undef,.det [3,4] undef,.det [3,5] undef,.det [6] undef,.det [6] undef,.det [6,8] undef,.det [6] undef,.det [6,10] undef,.det [6,7,9,11] undef,.det [3,6,12] undef,.det [3,13] _,.det [14] _,.det [15] _,.det [15] _,.det [15,17] _,.det [15,16,18] (.int .i64 (mA (gN (cH l) j) x.par)),.det [15] _,.det [15] _,.det [15,21] _] zQ (xc z1 (xc z6 (xc WD (xc zN (xc zL (xc zL (xc zL (xc zL (xc zL (xc zL (xc zL (xc zL (xc zL (xc zL (xc z5 (xc zN (xc zN (xc z1 (xc z6 (xc WC (xc zN (xc z1 (xc z6 (xn)))))))))))))))))))))))) zQ zQ zQ (λaf=>?_);exact z4i
  refine N6 ?_;refine nl 23 [.det [] _,.det [0] _,.det [1] _,.det [2] _,.det [3] undef,.det [3,4] undef,.det [3,5] undef,.det [6] undef,.det [6] undef,.det [6,8] undef,.det [6] undef,.det [6,10] undef,.det [6,7,9,11] undef,.det [3,6,12] undef,.det [3,13] _,.det [14] _,.det [15] _,.det [15] _,.det [15,17] _,.det [15,16,18] (.int .i64 (mA (gN (cH l) j) x.par)),.det [15] _,.det [15] _,.det [15,21] _] zQ (xc z1 (xc z6 (xc WD (xc zN (xc zL (xc zL (xc zL (xc zL (xc zL (xc zL (xc zL (xc zL (xc zL (xc zL (xc z5 (xc zN (xc zN (xc z1 (xc z6 (xc WC (xc zN (xc z1 (xc z6 (xn)))))))))))))))))))))))) zQ zQ zQ (λaf=>?_);refine zTe ?_;refine B 1 ?_;refine Jc ?_;refine B 11 ?_;refine zqh ?_;intro m2 aN;refine K0 ?_;refine PJ.again (j+1,m2) ⟨by dsimp only;omega,by dsimp only;rw[wH hx,N5 (λh=>h.elim (λh=>h1 h.1) h8)];exact aN⟩ dG zR (by rw[wH hx,N5 (λh=>h.elim (λh=>h1 h.1) h8)];rfl) rfl zX
 intro ah;refine B 12 ?_;have hje:j=(cH l).length:=by omega
 subst hje;exact Hs (i:=0) (.inl rfl) results46 (RS.t rfl RS.n) A1 uN rfl hm rfl
theorem Ig(l:List Pl):jx (nq l)/\tz (nq l)/\(nq l).length<=l.length:=by
 obtain⟨h1,h2,h3⟩:=nEk (ys:=cH l) (λp hp=>n5i hp) (cH l).length (ao _);exact⟨h1,h2,aR h3 (nal l)⟩
def rT (kv:jw) (f:Int) (js:List Nat):List Int:=(js.map (yF kv)).filter λk=>fX kv k f
def fh (l:List Pl) (f:Int):List Int:=if(av (nq l) f).isSome=true then de (((nq l).map (·.1)).filter λk=>fX (nq l) k f)else[]
theorem nTi{f:Int}{p:Int×Pl}(hp:kv[j]? =some p)(h:fX kv p.1 f=true):rT kv f (js++[j])=rT kv f js++[p.1]:=by
 unfold rT;rw[Zx hp,List.filter_append];simp[h]
theorem n7k{f:Int}{p:Int×Pl}(hp:kv[j]? =some p)(h:¬fX kv p.1 f=true):rT kv f (js++[j])=rT kv f js:=by
 unfold rT;rw[Zx hp,List.filter_append];simp[h]
theorem nEm(kv:jw)(f:Int)(js:List Nat):(rT kv f js).length<=js.length:=by
 unfold rT;exact aR (yy _ _) zX
theorem FI{l:List Pl}{f:Int}(hs:(av (nq l) f).isSome=true)(hd:js.Nodup)(hl:∀j∈js,j<(nq l).length)(bP:∀j,j<(nq l).length->j∈js):de (rT (nq l) f js)=fh l f:=by
 unfold fh rT;rw[if_pos hs];exact nGj ((nUh hd hl bP).filter _)
theorem nMl(l:List Pl)(f:Int):(fh l f).length<=l.length:=by
 have:=(Ig l).2.2;unfold fh;split
 ·rw[yu];exact aR (yy _ _) (by simpa using this)
 exact db _
theorem nbg(l:List Pl)(cj:l.length<=12)(N:Nat)(a:Option Addr)(cp:Nat)(w:World)(hN:N<=w.heap.size)(aH:ag plA 5 N w a l)(f:Int):Calls prog 77 #[.slice a l.length cp,.int .i64 f] w (nD w aj 1 3 (cG (nq l) f) id):=by
 refine enter (vs:=[_,_]) func77 rfl ntmps77 rfl ?_;refine B 8 ?_;refine zhg ?_;intro bf m uh Nj hm;replace uh:=yb uh;obtain⟨hF,hk,kK⟩:=Ig l;refine B 1 ?_;refine nB (α:=Nat×Nat) (v:=λq=>.func (.func 128) #[] #[ptr q.1 0,ptr q.2 0]) (Φ:=λW q w1=>W.heap.size<=q.1/\W.heap.size<=q.2/\q.1≠q.2/\w1.heap[q.1]? =some (.cells #[.map (some bf)] 132 (0,0))/\w1.heap[q.2]? =some (.cells #[.int .i64 f] 3 (0,0))) call95 rfl rfl rfl (λW hS=>nJg (some bf) f W) ?_;rintro Wu q wn Ia SF ⟨jb,jc,SG,fw,gg⟩;have hzu:=SF.size;have SH:=(aT.1 fw).1;have SI:=(aT.1 gg).1;have Ib:=(Ia.links w A0).size;have aci:=Ia.lt (bf,_) A0;refine QC (enc:=aj) (m:=1) (t:=3) (Fin:=Is (cG (nq l) f)) (v:=id) call118 rfl rfl rfl (λW hS=>by
  have l1:=(hS.links wn A0).size;have l2:=hS.lt (bf,_) A0;exact U1 (cap:=[ptr q.1 0,ptr q.2 0]) (Pre:=wt (cG (nq l) f)) (Fin:=Is (cG (nq l) f)) (RO:=λk=>k=q.1\/k=q.2\/k=bf) call128 W (λk hk=>by rcases hk with rfl|rfl|rfl<;>first|omega|exact l2) (λp hp=>aR hp.length_le (aR (CQ hF f) zJ)) (λW2 hB=>n9e hF f bf q.1 q.2 m hm W2 (by rw[hB.block q.1 zJ];exact hS.old A0 fw zU z7) (by rw[hB.block q.2 zJ];exact hS.old A0 gg zU z7) (by rw[hB.block bf l2];exact hS.own (bf,_) A0))) ?_
 rintro xs r rfl bE ak;refine B 4 ?_;exact nW (H0:=[]) (H1:=[(bf,m.obj iS (nq l))]) (r:=r) (.inl rfl) results77 (RS.t rfl RS.n) A1 (by rw[n9];exact⟨Rw.over (Rw.ge_of bE A1),by simp only[Over,and_true];omega⟩) rfl ak (Rw.ge_of bE A1) zX
theorem nbk(l:List Pl)(cj:l.length<=12)(N:Nat)(a:Option Addr)(cp:Nat)(w:World)(hN:N<=w.heap.size)(aH:ag plA 5 N w a l)(f:Int):Calls prog 21 #[.slice a l.length cp,.int .i64 f] w (nD w aj 1 3 (fh l f) id):=by
 refine enter (vs:=[_,_]) func21 rfl ntmps21 rfl ?_;refine B 8 ?_;refine zhg ?_;intro bf m uh Nj hm;replace uh:=yb uh;obtain⟨hF,hk,kK⟩:=Ig l;refine B 8 ?_;refine rq (.tuple #[.agg (plA ((av (nq l) f).getD Fy)),.bool (av (nq l) f).isSome]) (gE (ev:=iS) (k:=f) underlying132 underlying3 zeroValue135 hm (bL.own (i:=0) rfl) rfl rfl) (by cases av (nq l) f<;>rfl) ?_;refine rr (.tuple #[.agg (plA ((av (nq l) f).getD Fy)),.bool (av (nq l) f).isSome]) (fW rfl) ?_;refine B 2 ?_;refine Lw ?_;refine yW ?_;intro b6 gV lP;refine H9 ?_;refine B 4 ?_;rcases hq:av (nq l) f with _|q9
 ·refine B 1 ?_;refine rq (.bool false) (fW rfl) (by first|rfl|(rw[hq];rfl)) ?_;refine B 11 ?_;have QZ:fh l f=[]:=by unfold fh;rw[hq];rfl
  rw[QZ];exact nW (H0:=[]) (H1:=[(b6,_),(bf,m.obj iS (nq l))]) (r:=.nil) (.inl rfl) results21 (RS.t rfl RS.n) A0 uV rfl rfl True.intro rfl
 refine B 1 ?_;refine rq (.bool true) (fW rfl) (by first|rfl|(rw[hq];rfl)) ?_;refine B 8 ?_;refine CJ.dropAt (i:=0) rfl zW ?_;have B5:(av (nq l) f).isSome=true:=by rw[hq];rfl
 refine B 2 ?_;refine JV (ev:=iS) underlying132 (bL.own (i:=0) rfl) rfl rfl rfl ?_;intro rb lZ JW;replace lZ:=yb lZ;refine B 3 ?_;refine CJ.loop (α:=Rw×List Nat) (λp=>[(1,.int .i64 f),(4,p.1.val (rT (nq l) f p.2).length),(5,.map (some bf)),(20,ptr rb 0)]) (λp=>[(rb,m.it bf p.2),(bf,m.obj iS (nq l))]++(p.1.hp aj 3 (rT (nq l) f p.2)++[])) (λp=>[w]) (λp=>Gh.no) (λp=>p.2.Nodup/\(∀j∈p.2,j<(nq l).length)/\p.1.Fr Gh.no [w]/\p.1.Fit 1 (rT (nq l) f p.2)) (λp=>(nq l).length-p.2.length) (.nil,[]) ⟨List.nodup_nil,by simp,True.intro,rfl⟩ zR rfl rfl zX ?_;rintro⟨r,js⟩ ⟨hnd,gf,bE,ak⟩;dsimp only at hnd gf bE ak ⊢;have cE:r.ge w.heap.size:=Rw.ge_of bE A0;have jf:=nEm (nq l) f js;have B4:=U0 (nq l).length js hnd gf;refine B 2 ?_;refine yG (ev:=iS) (i:=0) rfl hm (bL.own (i:=1) rfl) gf rfl rfl rfl (λbP=>?_) (λjn pn ja kZ=>?_)
 ·refine B 13 ?_;refine yA (r:=r) (enc:=aj) (m:=1) (t:=3) (xs:=(rT (nq l) f js)) (ys:=de (rT (nq l) f js)) (H0:=[(rb,m.it bf js),(bf,m.obj iS (nq l))]) (H1:=[]) (v:=λ_=>.tuple #[]) rfl call48 rfl rfl rfl (λhr W _=>by subst hr;exact Zq ak W) (λb cap sp hr W _ h=>by subst hr;exact JT (by have:=nEm (nq l) f js;omega) ak h) ?_;intro r2 cN lU lX i7;have gm:=lU bE;have dE:=lX _ cE;refine B 9 ?_;rw[<-FI B5 hnd gf bP];exact nW (H0:=[(rb,m.it bf js),(bf,m.obj iS (nq l))]) (H1:=[]) (r:=r2) (.inl rfl) results21 (RS.t rfl RS.n) A0 (by rw[dH];exact n9.2 ⟨by simp only[Over,and_true];omega,Rw.over dE⟩) (by show r.val _=r2.val _;rw[<-i7,yu]) cN dE rfl
 refine B 10 ?_;refine rv rfl rfl rfl (sL (ev:=iS) (i:=0) rfl hm (bL.own (i:=1) rfl) ja rfl) ?_;refine B 9 ?_;refine call call47 rfl rfl rfl (λW hS=>n5c hF bf m hm pn.1 f W (hS.own (bf,_) A1)) ?_;refine B 2 ?_;refine aG ?_ ?_
 ·intro ah;refine B 3 ?_;refine Co ?_;refine yW ?_;intro gl ji Js;refine pM (r:=r) (xs:=(rT (nq l) f js)) (zs:=[pn.1]) (enc:=aj) (m:=1) (H0:=[(gl,.cells #[.int .i64 pn.1] 3 (0,0)),(rb,m.it bf (js++[jn])),(bf,m.obj iS (nq l))]) (H1:=[]) yr Hl nw rfl rfl rfl rfl (dz.one (z:=pn.1) nw Hm underlying44 (bL.own (i:=0) rfl)) ak bE zX Cp ?_;intro uB oy p4 mv kA;replace mv:=yb mv;refine B 3 ?_;refine og ?_;refine PJ.again (Rw.row uB oy p4,js++[jn]) ⟨(wu hnd gf ja kZ).1,(wu hnd gf ja kZ).2.1,mv.elim (λh=>Rw.Fr_at bE h) (λh=>.inr h),by rw[nTi ja gw];exact kA⟩ QB ⟨rfl,by rw[nTi ja gw];rfl,rfl,rfl,trivial⟩ (by rw[nTi ja gw];rfl) rfl zX
 intro ah;refine B 2 ?_;refine PJ.again (r,js++[jn]) ⟨(wu hnd gf ja kZ).1,(wu hnd gf ja kZ).2.1,bE,by rw[n7k ja mH];exact ak⟩ QB ⟨rfl,by rw[n7k ja mH];rfl,rfl,rfl,trivial⟩ (by rw[n7k ja mH];rfl) rfl zX
theorem FJ(xs:List Int)(cj:xs.length<=100000)(N:Nat)(a:Option Addr)(cp:Nat)(w:World)(hN:N<=w.heap.size)(aH:ag encI 1 N w a xs)(v:Int):Calls prog 117 #[.slice a xs.length cp,.int .i64 v] w (cJ w (λi:Int=>.int .i64 i) (λi _=>du (λx=>decide (v=x)) xs i)):=by
 refine enter (vs:=[_,_]) func117 rfl ntmps117 rfl ?_;refine B 14 ?_;refine CJ.loop (α:=Nat) (λj=>[(0,.slice a xs.length cp),(1,.int .i64 v),(7,.int .i64 (xs.length:Int)),(8,.int .i64 (j:Int))]) (λj=>[]) (λj=>[w]) (λj=>Gh.no) (λj=>j<=xs.length/\eI (λx=>decide (v=x)) xs j) (λj=>xs.length-j) 0 ⟨db _,λi x hi=>absurd hi zJ⟩ zR rfl rfl zX ?_;rintro j ⟨hj,dm⟩;refine B 6 ?_;refine aG ?_ ?_
 ·intro ah;refine B 11 ?_;obtain⟨bo,oo,cs0,to,fk,rfl,fE,hcs,ar⟩:=aH.get zJ;obtain⟨x,hx⟩:=nj xs j zJ;refine B 5 ?_;refine rv rfl rfl rfl (aa (v:=.int .i64 x) isAgg3 rfl A0 hcs zU trivial (nR ar hx rfl zO)) ?_;refine B 3 ?_;refine aG ?_ ?_
  ·intro aJ;refine B 12 ?_;refine kH (j:Int) results117 rfl A0 rfl ?_;exact λW hS=>.inr ⟨j,x,rfl,hx,by simp_all,dm⟩
  exact Kg
 intro ah;refine B 11 ?_;refine kH (-1:Int) results117 rfl A0 rfl ?_;exact Kh
theorem nTf(xs:List Int)(cj:xs.length<=100000)(N:Nat)(a:Option Addr)(cp:Nat)(w:World)(hN:N<=w.heap.size)(aH:ag encI 1 N w a xs)(v:Int):Calls prog 76 #[.slice a xs.length cp,.int .i64 v] w (ay w (.bool (xs.any λx=>decide (v=x)))):=by
 refine enter (vs:=[_,_]) func76 rfl ntmps76 rfl ?_;refine B 9 ?_;refine nB (α:=Int) (v:=λi:Int=>.int .i64 i) (Φ:=λ_ i _=>du (λx=>decide (v=x)) xs i) call117 rfl rfl rfl (λW hS=>FJ xs cj N a cp W (aR hN (hS.links w A0).size) (aH.up (ao _) (hS.same A0 hN zS zM)) v) ?_;intro Wi i wi sV sW hi;refine B 5 ?_;refine ax results76 rfl A1 ?_;exact vb hi.any
end Px
