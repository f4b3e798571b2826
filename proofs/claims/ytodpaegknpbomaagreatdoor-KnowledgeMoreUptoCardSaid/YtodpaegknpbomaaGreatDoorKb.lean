/- Contracts of functions of the program. No condition beyond those stated. -/
import Derived.Test.YtodpaegknpbomaaGreatDoorKa
import Derived.Test.YtodpaegknpbomaaGreatDoorProg
import Derived.Lib.RowBridge
import Derived.Test.YtodpaegknpbomaaGreatDoorLa
set_option linter.unusedSimpArgs false
set_option linter.unusedVariables false
set_option linter.unusedSectionVars false
set_option linter.unnecessarySimpa false
set_option maxRecDepth 20000
set_option maxHeartbeats 8000000
namespace Px
open Go Go.RowKit Go.Proofs Go.Proofs.Tryz
def cj (w:World) (b off:Nat) (zs:List UInt8):Prop:=∃cs t fr,w.heap[b]? =some (.cells cs t fr)/\off+zs.length<=cs.size/\∀i,i<zs.length->cs[off+i]? =some (.int .u8 (fU zs i))
variable {H:ad} {d n:Int} {kv:List (Int×Int)} {l xs:List Int} {Fin Pre:List Int->Prop} {zs:List UInt8} {cap sp:List Value} {L:List World} {b i j k:Nat} {RO:Nat->Prop} {W w:World}
theorem cj.up{w':World}{off:Nat}(h:cj w b off zs)(hb:w'.heap[b]? =w.heap[b]?):cj w' b off zs:=by
 obtain⟨cs,t,fr,h1,h2,h3⟩:=h;exact⟨cs,t,fr,hb.trans h1,h2,h3⟩
theorem cj.lt{off:Nat}(h:cj w b off zs):b<w.heap.size:=by
 obtain⟨cs,t,fr,h1,_⟩:=h;exact(aT.1 h1).1
theorem cj.old{off:Nat}{G:Gh}(h:cj w b off zs)(hS:St G L H W)(hw:w∈L)(hX:¬G.X b)(hO:aY H b):cj W b off zs:=by
 obtain⟨cs,t,fr,h1,h2,h3⟩:=h;exact⟨cs,t,fr,hS.old hw h1 hX hO,h2,h3⟩
theorem cj.row{e:Nat}(h:W.heap[b]? =some (aL e zs sp)):cj W b 0 zs:=
 ⟨_,_,_,h,by simp only[qq,ck,vU];omega,λi hi=>WT _ _ i hi⟩
theorem gR.seg{C:Cx}{G:Gh}{tx e' off c:Nat}{w1:World}(hU:C.P.underlying tx=some (.slice e'))(hm:w1∈L)(h:cj w1 b off zs)(hG:¬G.X b)(hO:aY H b):gR C G L H tx (.slice (some ⟨b,off,none⟩) zs.length c) zs:=by
 obtain⟨cs,t,fr,h1,h2,h3⟩:=h;exact oM.sl hU (Rd.old hm h1 hG hO aa (by rw[n7j h2 h3,<-nOn])) (by rw[vU,xq]) (noi _)
def Glb (w:World):Prop:=(∃t fr,w.heap[3]? =some (.cells S8.init.cells t fr))/\(∃t fr,w.heap[5]? =some (.cells (cf 64 (λi=>u32 (kk i))) t fr))
theorem Glb.lt(h:Glb w):6<=w.heap.size:=by
 obtain⟨_,t,fr,h⟩:=h;have:=(aT.1 h).1;omega
theorem Glb.old{G:Gh}(h:Glb w)(hS:St G L H W)(hw:w∈L)(hX:∀k,k<6->¬G.X k)(hH:Over 6 H):Glb W:=by
 have hs:=hS.same hw h.lt hX hH;obtain⟨⟨t,fr,h1⟩,t',CD,h2⟩:=h;exact⟨⟨t,fr,(hs 3 aa).trans h1⟩,t',CD,(hs 5 aa).trans h2⟩
def scalL (s:ByteArray) (xs:List UInt8):Int:=DE s xs.length (fU xs)
theorem DO(s:ByteArray)(xs:List UInt8):1<=scalL s xs/\scalL s xs<2305843009213688669:=by
 have hbd:=nRh 2305843009213688668 zB (Bt (tagged s xs.length (fU xs))) 0 zB zB;unfold scalL DE;omega
structure Fx where
 sc:ByteArray->List UInt8->Int
 tg:ByteArray->List UInt8->Nat->Int
 ge:Int->Int->Int×Int
structure FxOk (Z:Fx):Prop where
 sc:∀s xs,scalL s xs=Z.sc s xs
 tg:∀s xs,tagged s xs.length (fU xs)=Z.tg s xs
 ge:∀a k,gExp a k=Z.ge a k
variable {Z:Fx}
theorem FxOk.bd(hZ:FxOk Z)(s:ByteArray)(xs:List UInt8):1<=Z.sc s xs/\Z.sc s xs<2305843009213688669:=by
 rw[<-hZ.sc];exact DO s xs
theorem FxOk.byt(hZ:FxOk Z)(s:ByteArray)(xs:List UInt8):ec (Z.tg s xs):=by
 rw[<-hZ.tg];exact njg _ _ _
theorem Nv(hZ:FxOk Z)(k:Int)(w:World):Calls prog 124 #[ab k] w (aM w (qJ (Z.ge 4 k))):=by
 rw[<-hZ.ge];exact nFi k w
theorem JH(hZ:FxOk Z)(a:Int)(w:World):Calls prog 133 #[ab a] w (aM w (ab (Z.ge 4 a).1)):=by
 rw[<-hZ.ge];exact nKh a w
theorem Nw(hZ:FxOk Z)(s:ByteArray)(hs0:s.size<1000)(xs:List UInt8)(hn:xs.length<900000000000)(b off c:Nat)(hc:xs.length<=c)(w:World)(h:cj w b off xs)(hg:Glb w):Calls prog 195 #[.string s,.slice (some ⟨b,off,none⟩) xs.length c] w (aM w (ab (Z.sc s xs))):=by
 rw[<-hZ.sc];obtain⟨cs,t,fr,h1,h2,h3⟩:=h;obtain⟨⟨t2,xp,g1⟩,t3,qp,g2⟩:=hg;exact nEm s xs.length (fU xs) b off c t t2 t3 fr xp qp cs hs0 hc aa w h1 h2 h3 g1 g2
def b8 (n:Int) (i:Nat):UInt8:=UInt8.ofNat ((n%18446744073709551616).toNat/2^(56-8*i)%256)
def JI (n:Int):List UInt8:=(List.range 8).map (b8 n)
theorem nWj(n:Int):(JI n).length=8:=by simp[JI]
theorem nem(n:Int)(i:Nat)(h:i<8):(JI n).take (i+1)=(JI n).take i++[b8 n i]:=by
 have hl:i<(JI n).length:=by rw[nWj];exact h
 rw[Ni hl];congr 2;simp[JI]
theorem WU(n k:Int)(i:Nat)(hi:i<8)(hk:k=56-8*(i:Int)):(n%18446744073709551616).fdiv (2^(min (Int.toNat k) IntKind.u64.bits))%256=((b8 n i).toNat:Int):=by
 subst hk;have e1:min (Int.toNat (56-8*(i:Int))) IntKind.u64.bits=56-8*i:=by simp[IntKind.bits];omega
 obtain⟨m,hm⟩:∃m:Nat,n%18446744073709551616=(m:Int):=⟨(n%18446744073709551616).toNat,by omega⟩;rw[e1];unfold b8;rw[hm,WV,yB];simp only[UInt8.toNat_ofNat'];rw[nke];omega
def Ay (ns:List Int):List UInt8:=ns.flatMap JI
theorem nvk(ns:List Int):(Ay ns).length=8*ns.length:=by induction ns<;>grind [Ay,nWj]
theorem nFo(ns:List Int)(j:Nat)(h:j<ns.length):Ay (ns.take (j+1))=Ay (ns.take j)++JI ns[j]:=by
 rw[Ni h];unfold Ay;rw[List.flatMap_append];simp
def roV (ro:Option (Nat×Nat×List Value)) (ys:List UInt8):Value:=match ro with|none=>ao|some (b,c,_)=>bS b ys.length c
def roH (e:Nat) (ro:Option (Nat×Nat×List Value)) (ys:List UInt8):ad:=match ro with|none=>[]|some (b,_,sp)=>[(b,aL e ys sp)]
def WW (G:Gh) (L:List World) (ro:Option (Nat×Nat×List Value)) (ys:List UInt8):Prop:=match ro with|none=>ys=[]|some (b,c,sp)=>dF ys c sp/\Fr G L b
theorem nGk(hZ:FxOk Z)(s:ByteArray)(hs0:s.size<1000)(msg:List UInt8)(bm om cm:Nat)(vt:msg.length<=100000000000)(ns:List Int)(bn cn tn:Nat)(Nx:Nat×Nat)(hn0:0<ns.length)(hn1:ns.length<=1000)(w:World)(oN:cj w bm om msg)(ml:w.heap[bn]? =some (.cells (ns.map ab).toArray tn Nx))(hg:Glb w):Calls prog 126 #[.string s,.slice (some ⟨bm,om,none⟩) msg.length cm,.slice (aj bn) ns.length cn] w (aM w (ab (Z.sc s (Ay ns++msg)))):=by
 have anb:=(aT.1 ml).1;have WX:=oN.lt;have hg4:=hg.lt;refine eN func126 ntmps126 ?_;refine B 19 ?_;refine CJ.loop (α:=List UInt8×Nat×Option (Nat×Nat×List Value)) (λp=>[(0,.string s),(1,.slice (some ⟨bm,om,none⟩) msg.length cm),(7,roV p.2.2 p.1),(11,.slice (aj bn) ns.length cn),(12,ab (ns.length:Int)),(13,ab (p.2.1:Int))]) (λp=>roH 5 p.2.2 p.1) (λp=>[w]) (λp=>Gh.no) (λp=>p.1=Ay (ns.take p.2.1)/\p.2.1<=ns.length/\WW Gh.no [w] p.2.2 p.1) (λp=>ns.length-p.2.1) ([],0,none) ⟨rfl,cV _,rfl⟩ zR rfl rfl zJ ?_;rintro⟨ys0,j,ro0⟩ ⟨yC,hj,DP⟩;dsimp only at yC hj DP ⊢;refine B 6 ?_;refine aG ?_ ?_
 ·intro ar;refine B 7 ?_;obtain⟨n,hn⟩:∃n,ns[j]'aa=n:=⟨_,rfl⟩;refine rv rfl rfl rfl (av (v:=ab n) isAgg3 rfl A0 ml zL (by cases ro0 with|none=>trivial|some p=>obtain⟨b1,c1,s1⟩:=p;obtain⟨hr,hf⟩:=DP;simp only[Fr,Gh.no,ae,and_true,false_or]at hf;exact⟨by dsimp only;omega,trivial⟩) (by simp only[DQ,sA];rw[kx aa];simp[<-hn])) ?_;refine B 9 ?_;have anc:ys0.length<=8000:=by rw[yC,nvk,kQ];omega
  refine CJ.loop (α:=List UInt8×Nat×Option (Nat×Nat×List Value)) (λp=>[(0,.string s),(1,.slice (some ⟨bm,om,none⟩) msg.length cm),(7,roV p.2.2 p.1),(9,ab n),(10,ab (56-8*(p.2.1:Int))),(11,.slice (aj bn) ns.length cn),(12,ab (ns.length:Int)),(13,ab (j:Int))]) (λp=>roH 5 p.2.2 p.1) (λp=>[w]) (λp=>Gh.no) (λp=>p.1=ys0++(JI n).take p.2.1/\p.2.1<=8/\WW Gh.no [w] p.2.2 p.1) (λp=>8-p.2.1) (ys0,0,ro0) ⟨by simp,by dsimp only;omega,DP⟩ zR rfl rfl zJ ?_;rintro⟨ys,i,ro⟩ ⟨xt,hi,tw⟩;dsimp only at xt hi tw ⊢;have BB:ys.length<=8008:=by rw[xt,ck,kQ,nWj];omega
  refine B 7 ?_;refine aG ?_ ?_
  ·intro aN;refine B 7 ?_;refine rq (.int .u64 (n%18446744073709551616)) (kq underlying3 underlying233 rfl) (vu (nC n)) ?_;refine B 1 ?_;refine rv rfl rfl rfl (lJ rfl rfl aa) ?_;refine rq (.int .u8 ((b8 n i).toNat:Int)) (oK underlying233 underlying5 rfl) (congrArg (Value.int .u8) (WU n _ i aa rfl)) ?_;refine PA [b8 n i] bt zeroValue5 rfl rfl rfl rfl rfl rfl rfl rfl rfl ?_;intro ky BC WY ane anf;replace BC:=yb BC;replace WY:=yd WY;rcases ro with _|⟨b1,c1,s1⟩
   ·have e0:ys=[]:=tw;subst e0;refine apN (zs:=[b8 n i]) bt rfl rfl rfl rfl (gR.own (i:=0) underlying106 rfl) zJ zJ ?_;intro b28 c28 s28 PO WZ ang PQ;replace PO:=yb PO;replace WZ:=yd WZ;have JJ:Fr Gh.no [w] b28:=.inr ⟨PO.1,trivial⟩;refine OJ.dropF (i:=1) rfl (.inr ⟨BC.1,trivial⟩) ?_;refine B 9 ?_;refine PJ.again ([b8 n i],i+1,some (b28,c28,s28)) ⟨by dsimp only;rw[nem n i aa,<-iP,<-xt];first|done|rfl,by dsimp only;omega,PQ,JJ⟩ zW ⟨rfl,rfl,rfl,rfl,congrArg some (congrArg ab zW),rfl,rfl,rfl,trivial⟩ rfl rfl zJ
   obtain⟨hr,hf⟩:=tw;refine Nt (i:=1) (xs:=ys) (zs:=[b8 n i]) (sp:=s1) rfl bt rfl rfl rfl rfl (gR.own (i:=0) underlying106 rfl) hr hf By ?_;intro b28 c28 s28 JJ PQ;have W4:=JJ;replace W4:=ye W4;refine OJ.dropF (i:=0) rfl (.inr ⟨BC.1,trivial⟩) ?_;refine B 9 ?_;refine PJ.again (ys++[b8 n i],i+1,some (b28,c28,s28)) ⟨by dsimp only;rw[nem n i aa,<-iP,<-xt];first|done|rfl,by dsimp only;omega,PQ,JJ⟩ zW ⟨rfl,rfl,rfl,rfl,congrArg some (congrArg ab zW),rfl,rfl,rfl,trivial⟩ rfl rfl zJ
  intro aN;refine B 10 ?_;refine ag (ys,j+1,ro) ⟨by dsimp only;rw[nFo ns j aa,hn,xt,show i=8 by omega,yC];first|done|rfl,by dsimp only;omega,tw⟩
 intro ar;refine B 6 ?_;have ej:j=ns.length:=by omega
 subst ej;rw[jO (ak _)]at yC;have BB:=nvk ns;rcases ro0 with _|⟨b1,c1,s1⟩
 ·exact absurd (show ys0=[]from DP) (by intro e;rw[e]at yC;rw[<-yC]at BB;simp at BB;omega)
 obtain⟨hr,hf⟩:=DP;subst yC;have hg1:=hf;simp only[Fr,Gh.no,ae,and_true,false_or]at hg1;refine CJ.reH (H':=[(b1,aL 5 (Ay ns) s1)]) rfl ?_;refine B 4 ?_;refine Nt (i:=0) (xs:=Ay ns) (zs:=msg) (sp:=s1) rfl bt rfl rfl rfl rfl (gR.seg underlying106 A0 oN zL zA) hr hf (by rw[BB];omega) ?_;intro b33 c33 s33 afQ afR;have W6:=afQ;replace W6:=ye W6;refine call call195 rfl rfl rfl (λW hS=>Nw hZ s hs0 (Ay ns++msg) (by rw[ck,BB];omega) b33 0 c33 afR.le W (cj.row (hS.own _ A0)) (hg.old hS A0 zI zF)) ?_;refine B 4 ?_;refine cC (.inl rfl) results126 bj A0 zC ?_;rfl
def CE (Z:Fx) (x:Int) (msg:List UInt8):Int:=Z.sc (⟨#[110,111,110,99,101]⟩:ByteArray) (Ay [x]++msg)
def CF (Z:Fx) (r p:Int) (msg:List UInt8):Int:=Z.sc (⟨#[115,105,103,110]⟩:ByteArray) (Ay [r,p]++msg)
def qP (Z:Fx) (x:Int) (msg:List UInt8):Int:=(Z.ge 4 (CE Z x msg)).1
def vV (Z:Fx) (x:Int) (msg:List UInt8):Int:=(qL (CE Z x msg) (pR (CF Z (qP Z x msg) (Z.ge 4 x).1 msg) x).1).1
def BD (Z:Fx) (x:Int) (msg:List UInt8):Value:=if Dm x then .tuple #[.agg #[ab (qP Z x msg),ab (vV Z x msg)],ab 0]else .tuple #[.agg #[ab 0,ab 0],ab 50]
theorem JK(a b:Int):qo (pR a b).1:=by grind [pR]
theorem nvl(hZ:FxOk Z)(x:Int)(msg:List UInt8):qo (CE Z x msg):=by have:=hZ.bd (⟨#[110,111,110,99,101]⟩:ByteArray) (Ay [x]++msg);unfold CE;exact⟨by omega,by omega⟩
theorem DR(hZ:FxOk Z)(x:Int)(msg:List UInt8):(qL (CE Z x msg) (pR (CF Z (qP Z x msg) (Z.ge 4 x).1 msg) x).1).2=0:=by
 unfold qL;rw[if_pos ⟨nvl hZ _ _,JK _ _⟩]
theorem JL(hZ:FxOk Z)(x k e:Int)(msg:List UInt8)(hK:Dm x)(hk:CE Z x msg=k)(he:CF Z (Z.ge 4 k).1 (Z.ge 4 x).1 msg=e):Value.tuple #[.agg #[ab (Z.ge 4 k).1,ab (qL k (pR e x).1).1],ab (qL k (pR e x).1).2]=BD Z x msg:=by grind [DR,BD,qP,vV]
theorem JM(Z:Fx)(x:Int)(msg:List UInt8)(hK:¬Dm x):Value.tuple #[.agg #[ab 0,ab 0],ab 50]=BD Z x msg:=by
 unfold BD;rw[if_neg hK]
theorem nOo(hZ:FxOk Z)(x k:Int)(msg:List UInt8)(hk:CE Z x msg=k)(vt:msg.length<=100000000000)(bm om cm bn cn tn:Nat)(Nx:Nat×Nat)(w:World)(oN:cj w bm om msg)(ml:w.heap[bn]? =some (.cells #[ab x] tn Nx))(hg:Glb w):Calls prog 126 #[.string (⟨#[110,111,110,99,101]⟩:ByteArray),.slice (some ⟨bm,om,none⟩) msg.length cm,.slice (aj bn) 1 cn] w (aM w (ab k)):=by
 subst hk;exact nGk hZ (⟨#[110,111,110,99,101]⟩:ByteArray) zB msg bm om cm vt [x] bn cn tn Nx zJ zJ w oN ml hg
theorem nvi(hZ:FxOk Z)(r p e:Int)(msg:List UInt8)(he:CF Z r p msg=e)(vt:msg.length<=100000000000)(bm om cm bn cn tn:Nat)(Nx:Nat×Nat)(w:World)(oN:cj w bm om msg)(ml:w.heap[bn]? =some (.cells #[ab r,ab p] tn Nx))(hg:Glb w):Calls prog 126 #[.string (⟨#[115,105,103,110]⟩:ByteArray),.slice (some ⟨bm,om,none⟩) msg.length cm,.slice (aj bn) 2 cn] w (aM w (ab e)):=by
 subst he;exact nGk hZ (⟨#[115,105,103,110]⟩:ByteArray) zB msg bm om cm vt [r,p] bn cn tn Nx zJ zJ w oN ml hg
theorem nwp(hZ:FxOk Z)(x:Int)(msg:List UInt8)(bm om cm:Nat)(vt:msg.length<=100000000000)(w:World)(oN:cj w bm om msg)(hg:Glb w):Calls prog 146 #[ab x,.slice (some ⟨bm,om,none⟩) msg.length cm] w (aM w (BD Z x msg)):=by
 have WX:=oN.lt;have hg4:=hg.lt;obtain⟨k,hk⟩:∃k,CE Z x msg=k:=⟨_,rfl⟩;obtain⟨e,he⟩:∃e,CF Z (Z.ge 4 k).1 (Z.ge 4 x).1 msg=e:=⟨_,rfl⟩;refine eN func146 ntmps146 ?_;refine B 3 ?_;refine yW ?_;intro b4 ja jb;refine B 12 ?_;refine Wg ?_;refine B 1 ?_;refine Wg ?_;refine B 8 ?_;refine W8 (first:=[ab x]) (cap:=[]) rfl call132 rfl rfl rfl (λW hS=>nMi x W) ?_;refine B 3 ?_;refine aG ?_ ?_
 ·intro ar;refine B 9 ?_;refine cC (.inl rfl) results146 bj A0 zC ?_;exact JM Z x msg eC
 intro ar;refine B 6 ?_;refine Ij ?_;refine yV ?_;intro b23 w23 PR PS anh Xa PT;refine call call126 rfl rfl rfl (λW hS=>nOo hZ x k msg hk vt bm om cm b23 _ _ _ W (oN.old hS A1 zL zA) (hS.old A0 PR PS zA) (hg.old hS A1 zI zF)) ?_;refine B 6 ?_;refine call call124 rfl rfl rfl (λW hS=>Nv hZ _ W) ?_;refine B 4 ?_;refine zHe ?_;refine B 3 ?_;refine CJ.less (E':=[(0,_),(1,_),(4,_),(5,_),(6,_),(7,_),(8,_),(9,_),(12,_),(13,_),(14,_),(15,_),(16,_),(17,_),(18,_),(19,_),(21,_),(22,_),(23,_),(24,_),(25,_),(26,_),(27,_),(28,_),(30,_)]) zR ?_;refine CJ.chn 13 [5] [_,_,some (ab (Z.ge 4 k).1),_,_,none,some (ab e),_,_,_,_,_,_] (λcv L' H'=>let dU:ad:=[(b4,oC #[ab (Z.ge 4 k).1,ab 0] 59)];match cv with| []=>L'=[w23,w]/\H'=dU| [v1]=>∃(BF:Nat) (Ny:World),v1= .slice (aj BF) 2 2/\L'=[Ny,w23,w]/\H'=dU/\Ny.heap[BF]? =some (oC #[ab (Z.ge 4 k).1,ab (Z.ge 4 x).1] 3)/\(w23.heap.size<=BF/\w.heap.size<=BF)/\b4≠BF/\¬Gh.no.X BF/\Ny.heap.size=BF+1|_=>False) (pc zN (pc zac (pc (λcv L' H' hd hP=>match cv,hd,hP with| [],hd,hP=>(by obtain⟨rfl,rfl⟩:=hP;exact X.v (bJ (i:=0) rfl isAgg3 rfl rfl))| [v1],hd,hP=>(by obtain⟨BF,Ny,rfl,rfl,rfl,DS,DT,JN,DU,JO⟩:=hP;exact X.v (bJ (i:=0) rfl isAgg3 rfl rfl))|_::_::_,_,hP=>hP.elim) (pc zN (pc (by exact λcv L' H' hd hP=>nsn (first:=[ab x]) (cap:=[]) rfl call133 rfl rfl (λW hS _=>JH hZ x W) (λ_=>rfl)) (pk (pc (λcv L' H' hd hP=>match cv,hd,hP with| [],hd,hP=>(absurd (show false=true from hd) zB)| [v1],hd,hP=>(by obtain⟨BF,Ny,rfl,rfl,rfl,DS,DT,JN,DU,JO⟩:=hP;exact nf call126 rfl rfl (λW hS _=>nvi hZ _ _ e msg he vt bm om cm BF _ _ _ W (oN.old hS A2 zL (by simp only[aY,cW,dB,sx,yx,ne_eq,and_true];omega)) (hS.old A0 DS DU (by simp only[aY,cW,dB,sx,yx,ne_eq,and_true];omega)) (hg.old hS A2 zI zF)) (λ_=>rfl))|_::_::_,_,hP=>hP.elim) (pc zN (pc (by exact λcv L' H' hd hP=>nf call215 rfl rfl (λW hS _=>nFp _ _ W) (λ_=>rfl)) (pc zN (pc (by exact λcv L' H' hd hP=>X.v (jg rfl rfl)) (pc (by exact λcv L' H' hd hP=>X.v (jg rfl rfl)) (pc (by exact λcv L' H' hd hP=>X.v (tz rfl)) (pn)))))))))))))) ?_ ?_
 ·refine ss rfl ?_ ?_
  ·intro cv L' H' hl hP F Q' hk;obtain rfl:=kX hl;obtain⟨rfl,rfl⟩:=hP;refine Ij ?_;intro BF Ny DS DT JN DU JO;exact OJ.done (hk _ _ _ ⟨BF,Ny,rfl,rfl,rfl,DS,⟨DT.1,DT.2.1⟩,JN.1,DU,JO⟩)
  exact nn
 intro cv L' H' hl hP;obtain⟨v1,rfl⟩:=iw hl;obtain⟨BF,Ny,rfl,rfl,rfl,DS,DT,JN,DU,JO⟩:=hP;refine B 7 ?_;refine call call216 rfl rfl rfl (λW hS=>nGp _ _ W) ?_;refine B 4 ?_;refine zHe ?_;refine B 12 ?_;refine cC (.inl rfl) results146 bj A2 zC ?_;exact JL hZ x k e msg eC hk he

def cy (f:Nat->Int):List UInt8:=(List.range 32).map λi=>UInt8.ofNat (f i).toNat
theorem nH(f:Nat->Int):(cy f).length=32:=by simp[cy]
theorem Us(f:Nat->Int)(hf:ec f)(i:Nat)(h:i<32):fU (cy f) i=f i:=by
 have:=hf i;simp only[fU,cy,sA,List.getElem?_range h,JP,Option.getD_some,UInt8.toNat_ofNat'];omega
theorem cj.dg{t:Nat}{fr:Nat×Nat}{f:Nat->Int}(h:w.heap[b]? =some (.cells (dg f) t fr))(hf:ec f):cj w b 0 (cy f):=
 ⟨_,_,_,h,by rw[nH];exact ak 32,λi hi=>by rw[nH]at hi;rw[lE,qK f i hi,Us f hf i hi]⟩
theorem nAh(hZ:FxOk Z)(s:ByteArray)(hs0:s.size<1000)(xs:List UInt8)(hn:xs.length<900000000000)(b off c:Nat)(hc:xs.length<=c)(w:World)(h:cj w b off xs)(hg:Glb w):Calls prog 87 #[.string s,.slice (some ⟨b,off,none⟩) xs.length c] w (aM w (.agg (Px.dg (Z.tg s xs)))):=by
 rw[<-hZ.tg];obtain⟨cs,t,fr,h1,h2,h3⟩:=h;obtain⟨⟨t2,xp,g1⟩,t3,qp,g2⟩:=hg;exact nae s xs.length (fU xs) b off c t t2 t3 fr xp qp cs hs0 hc aa w h1 h2 h3 g1 g2
abbrev jR (n:Int):Prop:= -9223372036854775808<=n/\n<=9223372036854775807
def Ut:V->List Value
 | .int n=>[.int .i64 1,.int .i64 n,.string ⟨#[]⟩,.slice none 0 0]
 | .text s=>[.int .i64 2,.int .i64 0,.string s,.slice none 0 0]
 | .list _=>[]
def vw:V->Bool
 | .list _=>false
 |_=>true
def nK (l:List V):List Value:=l.flatMap Ut
theorem nUg(x:V)(h:vw x=true):(Ut x).length=4:=by cases x<;>simp_all[vw,Ut]
theorem nDo(l:List V)(h:l.all vw=true):(nK l).length=l.length*4:=by induction l<;>grind [nK,nUg]
theorem DV(N:Nat)(w:World):∀(l:List V),l.all vw=true->∀(pre sp:List Value),gB N w (pre++(nK l++sp)).toArray pre.length l
 | [],_,_,_=>by simp only[gB]
 |x::l,h,pre,sp=>by
  simp only[List.all_cons,oh]at h;have ih:=DV N w l h.2 (pre++Ut x) sp;have e:pre++Ut x++(nK l++sp)=pre++(nK (x::l)++sp):=by simp[nK]
  rw[e,ck,nUg x h.1]at ih;have hc:cut (pre++(nK (x::l)++sp)).toArray pre.length 4=(Ut x).toArray:=by
   unfold cut;simp only[nK,Uu,iP];rw[List.drop_left' rfl,<-nUg x h.1,PU rfl]
  simp only[gB];refine⟨?_,?_,ih⟩
  ·simp only[qq,ck,nDo (x::l) (by simp[h.1,h.2]),dC];omega
  rw[hc];cases x with
  |int n=>simp only[eM];rfl
  |text s=>simp only[eM];rfl
  |list l'=>simp[vw]at h
theorem JQ{N t cap:Nat}{fr:Nat×Nat}{l:List V}(hl:l.all vw=true)(hb:b<N)(hc:l.length<=cap)(h:w.heap[b]? =some (.cells (nK l++sp).toArray t fr)):eM N w (.list l) (vL (aj b) l.length cap):=by
 simp only[eM];exact⟨_,_,rfl,hc,.inr ⟨b,_,t,fr,rfl,hb,h,by have:=DV N w l hl [] sp;simpa using this⟩⟩
theorem BG(x:V)(hf:vw x=true)(h:x.fine):x.enc.length<=1000000020:=by
 cases x with
 |int n=>
  simp only[V.fine]at h;have:=CA (DF n h.1 h.2);simp only[V.enc,dC];omega
 |text s=>
  simp only[V.fine]at h;have:=CA (u:=s.size) aa;have e:s.data.toList.length=s.size:=Nu;simp only[V.enc,dC,ck,e];omega
 |list l=>simp[vw]at hf
theorem ncf(l:List V)(hf:l.all vw=true)(h:V.fineL l):(V.encL l).length<=l.length*1000000020/\V.depthL l=0:=by
 induction l with
 |nil=>simp[V.encL,V.depthL]
 |cons x l ih=>
  simp only[List.all_cons,oh]at hf;simp only[V.fineL]at h;obtain⟨h1,h2⟩:=ih hf.2 h.2;have h3:=BG x hf.1 h.1;simp only[V.encL,V.depthL,ck,dC,h2];refine⟨by omega,?_⟩;cases x with
  |int n=>simp[V.depth]
  |text s=>simp[V.depth]
  |list l'=>simp[vw]at hf
theorem xu:um prog 2 33 (lM 32 [.i]):=um.array underlying33 sizeOf5 rfl (kY.int underlying5 isAgg5)
theorem nL:prog.eqGuardType prog.depth 33=false:=by kernel_rfl
def lY (f g:Nat->Int):Bool:=oi (dg f).toList (dg g).toList
theorem DW(f:Nat->Int):lY f f=true:=nfm (ks:=lM 32 [.i]) (ys:=(dg f).toList) rfl
def sC (a b:Int):Int×Int:=if dY a/\dY b then(a*b%4611686018427377339,0)else(0,40)
theorem nFn{a b:Int}(h:¬(dY a/\dY b)):sC a b=(0,40):=by unfold sC;rw[if_neg h]
theorem nmn{a b:Int}(ha:dY a)(hb:dY b):sC a b=(a*b%4611686018427377339,0):=by unfold sC;rw[if_pos ⟨ha,hb⟩]
theorem Uv{x:Int}(h:¬(if dY x then(0:Int)else 40)=0):¬dY x:=λg=>h (if_pos g)
theorem nzg{x:Int}(h:(if dY x then(0:Int)else 40)=0):dY x:=by grind
def It (a b:Int) (j:Nat):Int:=match j with|0=>a|_=>b
theorem DX(a b:Int)(j:Nat)(h:j<2):(#[ab a,ab b]:Array Value)[j]? =some (ab (It a b j)):=by
 match j,h with
 |0,_=>rfl
 |1,_=>rfl
theorem nyp(a b:Int)(w:World):Calls prog 127 #[ab a,ab b] w (aM w (qJ (sC a b))):=by
 refine eN func127 ntmps127 ?_;refine B 11 ?_;refine rv rfl rfl rfl (yD underlying330 zeroValue330 sizeOf3 rfl rfl rfl rfl) ?_;refine B 4 ?_;refine CJ.lp (α:=Nat) [0,1,11] (λj=>[(12,ab (j:Int))]) (λj=>[]) (λj=>j<=2/\(1<=j->dY a)/\(2<=j->dY b)) (λj=>2-j) 0 ⟨by omega,λh=>absurd h aa,λh=>absurd h aa⟩ ?_;rintro j ⟨hj,JR,afW⟩;refine B 6 ?_;refine aG ?_ ?_
 ·intro ar;refine B 6 ?_;refine rq (ab (It a b j)) (ug underlying330 isAgg3 sizeOf3 rfl rfl aa aa (by rw[xq];exact DX a b _ aa)) (congrArg (λk=>ab (It a b k)) aa) ?_;refine B 6 ?_;obtain⟨e,he⟩:∃e,(if dY (It a b j)then(0:Int)else 40)=e:=⟨_,rfl⟩;refine zOd ?_;refine B 9 ?_;refine aG ?_ ?_
  ·intro aN;refine B 13 ?_;refine nS results127 rfl rfl A0 ?_ ?_
   ·exact congrArg ab (by rw[nFn (λg=>by match j,he with|0,he=>exact Uv (x:=It a b 0) JS g.1|j+1,he=>exact Uv (x:=It a b (j+1)) JS g.2)])
   exact congrArg ab (by rw[nFn (λg=>by match j,he with|0,he=>exact Uv (x:=It a b 0) JS g.1|j+1,he=>exact Uv (x:=It a b (j+1)) JS g.2),<-he];exact if_neg (Uv JS))
  intro aN;refine B 7 ?_;refine ag (j+1) ⟨by omega,λ_=>by match j,JR,he with|0,_,he=>exact nzg (x:=It a b 0) JS|j+1,JR,_=>exact JR aa,λh=>by match j,hj,he with|0,_,_=>exact absurd h aa|1,_,he=>exact nzg (x:=It a b 1) JS|j+2,hj,_=>exact absurd ar aa⟩
 intro ar;refine B 6 ?_;have hj2:j=2:=by omega
 have hga:=JR aa;have V7:=afW aa;have fX:=hga.1;have dx:=hga.2.1;have hb1:=V7.1;have da:=V7.2.1;have xm:=Int.emod_nonneg (a*b) (b:=4611686018427377339) zB;have cF:=Int.emod_lt_of_pos (a*b) (b:=4611686018427377339) zB;refine B 5 ?_;refine call call190 rfl rfl rfl (λW hS=>nff a b aa aa aa aa W) ?_;refine B 6 ?_;refine nS results127 rfl rfl A0 ?_ ?_
 ·exact congrArg ab (by rw[nmn hga V7])
 exact congrArg ab (by rw[nmn hga V7])
def Xb:List TK:=lM 3 [.i]
theorem eqA248:um prog 2 248 Xb:=um.array underlying248 sizeOf100 rfl ((kY.int underlying100 isAgg100).up zB:kY prog 1 100 [.i])
theorem PV:prog.eqGuardType prog.depth 248=false:=by kernel_rfl
def oO (Z:Fx) (p:Int) (msg:List UInt8) (r s:Int):Bool:=decide (dY p/\dY r/\qo s/\(Z.ge 4 s).1=(sC r (Z.ge p (CF Z r p msg)).1).1)
theorem neo{x e:Int}(h:(if dY x then(0:Int)else 40)=e):e=0↔dY x:=⟨λg=>nzg (h.trans g),λg=>by rw[<-h,if_pos g]⟩
theorem DY{x e:Int}(h:(if oJ x then(1:Int)else 0)=e):e=0↔qo x:=by
 all_goals(simp_all[qo,nUi,nLk];omega)
theorem JT{p r s e1 e2 e3:Int}{msg:List UInt8}(h1:e1=0↔dY p)(h2:e2=0↔dY r)(h3:e3=0↔qo s)(h:¬(e1=0/\e2=0/\e3=0)):bG= .bool (oO Z p msg r s):=by
 refine vb (decide_eq_false ?_).symm;all_goals grind
theorem DZ{p r s e1 e2 e3 e:Int}{msg:List UInt8}{m:Int×Int}(h1:e1=0↔dY p)(h2:e2=0↔dY r)(h3:e3=0↔qo s)(h:e1=0/\e2=0/\e3=0)(he:CF Z r p msg=e)(hm:sC r (Z.ge p e).1=m):Value.bool (decide ((Z.ge 4 s).1=m.1))= .bool (oO Z p msg r s):=by
 subst he;subst hm;refine vb (decide_eq_decide.2 ?_);all_goals grind
theorem afY(hZ:FxOk Z)(a k:Int)(w:World):Calls prog 125 #[ab a,ab k] w (aM w (qJ (Z.ge a k))):=by
 rw[<-hZ.ge];exact nnk a k w
theorem eq3(a b c:Int):(!oi [ab a,ab b,ab c] [ab 0,ab 0,ab 0])=decide (¬(a=0/\b=0/\c=0)):=by grind [oi,PY]
theorem nSc(hZ:FxOk Z)(p r s:Int)(msg:List UInt8)(bm om cm:Nat)(vt:msg.length<=100000000000)(w:World)(oN:cj w bm om msg)(hg:Glb w):Calls prog 75 #[ab p,.slice (some ⟨bm,om,none⟩) msg.length cm,.agg #[ab r,ab s]] w (aM w (.bool (oO Z p msg r s))):=by
 have WX:=oN.lt;obtain⟨e1,uo⟩:∃e,(if dY p then(0:Int)else 40)=e:=⟨_,rfl⟩;obtain⟨e2,Iu⟩:∃e,(if dY r then(0:Int)else 40)=e:=⟨_,rfl⟩;obtain⟨e,he⟩:∃e,CF Z r p msg=e:=⟨_,rfl⟩;obtain⟨m,hm⟩:∃m,sC r (Z.ge p e).1=m:=⟨_,rfl⟩;have pT:=neo uo;have Xc:=neo Iu;have hg4:=hg.lt;obtain⟨e3,Xd⟩:∃e,(if oJ s then(1:Int)else 0)=e:=⟨_,rfl⟩;have hi3:=DY Xd;refine eN func75 ntmps75 ?_;refine B 2 ?_;refine yX ?_;intro b5 w5 CG Xe hz5 so sq;refine B 4 ?_;refine eS 10 9 [] (pb:=by exact zU 1 (k:=by exact aU (nf call65 rfl rfl (λW hS _=>by rw[<-uo];exact nO p W) (λ_=>rfl)) (zU 2 (k:=by exact aU (nf call65 rfl rfl (λW hS _=>by rw[<-Iu];exact nO r W) (λ_=>rfl)) (zU 2 (k:=by exact aU (nf call123 rfl rfl (λW hS _=>by rw[<-Xd];exact nOm s W) (λ_=>rfl)) (aU (X.v (RV.re (yD underlying248 zeroValue248 sizeOf100 rfl rfl rfl rfl) rfl)) zT))))))) (sp:=[_,some (ab e1),_,some (ab r),some (ab e2),_,some (ab s),some (ab e3),some (.agg #[ab e1,ab e2,ab e3]),_]) (h:=?_);intro _ _ hk;refine B 1 ?_;intro b7 ha ho;have jy:(w5.heap.size<=b7/\w.heap.size<=b7):=⟨ha.1,ha.2.1⟩;refine zE ?_;refine B 8 ?_;refine rq (.bool (decide (¬(e1=0/\e2=0/\e3=0)))) (er eqA248 zB PV rfl rfl rfl) (vb (eq3 e1 e2 e3)) ?_;refine B 2 ?_;refine aG ?_ ?_
 ·intro ar;refine B 7 ?_;refine cC (.inl rfl) results75 bj A1 zC ?_;exact JT pT Xc hi3 (by simpa using ar)
 intro ar;refine B 6 ?_;refine call call124 rfl rfl rfl (λW hS=>Nv hZ _ W) ?_;refine B 14 ?_;refine Ij ?_;refine yV ?_;intro b38 w38 af1 af2 ani af3 af4;refine call call126 rfl rfl rfl (λW hS=>nvi hZ r p e msg he vt bm om cm b38 _ _ _ W (oN.old hS A2 zL zA) (hS.old A0 af1 af2 zA) (hg.old hS A2 zI zF)) ?_;refine call call125 rfl rfl rfl (λW hS=>afY hZ p e W) ?_;refine B 12 ?_;refine call call127 rfl rfl rfl (λW hS=>by rw[<-hm];exact nyp _ _ W) (v:=qJ m) ?_;refine B 16 ?_;refine cC (.inl rfl) results75 bj A2 zC ?_;exact DZ pT Xc hi3 (by simpa using ar) he hm
def oj (n:Nat):List Nat:=if h:1<n then n::oj (n/2)else[]
termination_by n
decreasing_by omega
theorem Uw{n:Nat}(h:1<n):oj n=n::oj (n/2):=by rw[oj,dif_pos h]
theorem Xf{n:Nat}(h:¬1<n):oj n=[]:=by rw[oj,dif_neg h]
theorem nEn(n:Nat):(oj n).length<=n:=by induction n using Nat.strongRecOn<;>grind [Uw,Xf]
theorem JU{n:Nat}:∀x∈oj n,1<x/\x<=n:=by induction n using Nat.strongRecOn<;>grind [Uw,Xf]
def uq (n:Nat):Nat:=n/2
def yE (n:Nat):Nat:=n^^^1
theorem JV(n:Nat)(h:n<4611686018427387904):IntKind.i64.wrap ((BitVec.ofInt 64 (n:Int)^^^BitVec.ofInt 64 1).toNat:Int)=((yE n:Nat):Int):=by
 have h1:n^^^1<2^62:=Nat.xor_lt_two_pow aa zB;have e1:(BitVec.ofInt 64 (n:Int))=BitVec.ofNat 64 n:=by simp
 have e2:(BitVec.ofInt 64 1)=BitVec.ofNat 64 1:=rfl;rw[e1,e2,BitVec.toNat_xor,BitVec.toNat_ofNat,BitVec.toNat_ofNat,Nat.mod_eq_of_lt (a:=n) aa];show IntKind.i64.wrap ((n^^^1:Nat):Int)=((n^^^1:Nat):Int);generalize n^^^1=m at *;simp[IntKind.wrap,IntKind.bits,IntKind.signed];omega
abbrev dW (d:Int):Prop:=0<=d/\d<512
theorem Xh:prog.info? 3=some Tryz.t3:=by kernel_rfl
theorem Nz:iR prog 55 3 1:=⟨underlying55,Tryz.t3,ab 0,Xh,rfl,rfl,rfl,by decide⟩
theorem nNi(d:Int)(h:dW d)(w:World):Calls prog 37 #[ab d] w (aM w (.tuple #[ab (512+d),ab 0])):=by
 have h1:=h.1;have h2:=h.2;refine eN func37 ntmps37 ?_;refine Pd ?_;refine xv ?_;refine B 15 ?_;refine nS results37 rfl rfl A0 ?_ ?_;all_goals rfl
theorem n2k(d:Int)(h:¬dW d)(w:World):Calls prog 37 #[ab d] w (aM w (.tuple #[ab 0,ab 200])):=by
 refine eN func37 ntmps37 ?_;refine B 12 ?_;refine ni (t:=6) rfl (λar=>?_) (λar=>?_)
 ·replace ar:=ya ar;refine B 14 ?_;exact zMg
 replace ar:=ya ar;refine B 5 ?_;refine aG ?_ ?_
 ·intro aN;refine B 8 ?_;exact zMg
 intro aN;refine B 11 ?_;exact zMg
theorem nOh(n:Nat)(h:n<4611686018427387904)(w:World):Calls prog 188 #[ab (n:Int)] w (aM w (ab ((uq n:Nat):Int))):=by
 refine eN func188 ntmps188 ?_;refine B 8 ?_;refine rv rfl rfl rfl (D2 rfl rfl aa aa aa) ?_;refine B 4 ?_;refine aF results188 rfl A0 ?_;exact congrArg ab (by unfold uq;omega)
theorem nQl(n:Nat)(h:n<4611686018427387904)(w:World):Calls prog 303 #[ab (n:Int)] w (aM w (ab ((yE n:Nat):Int))):=by
 refine eN func303 ntmps303 ?_;refine B 8 ?_;refine rq (ab ((yE n:Nat):Int)) (yu rfl rfl) (congrArg ab (JV n h)) ?_;refine B 4 ?_;refine aF results303 rfl A0 ?_;rfl
theorem D3(n:Nat)(w:World):Calls prog 251 #[ab (n:Int)] w (cN w (λb:Nat=>.func (.func 291) #[] #[ptr b 0]) (λb w1=>w.heap.size<=b/\True/\w1.heap[b]? =some (oC #[ab (n:Int)] 312))):=by
 refine eN func251 ntmps251 ?_;refine B 2 ?_;refine yX ?_;intro b1 w1 hb1 cF gA fX jq;refine B 10 ?_;refine rS b1 results251 rfl A1 rfl ?_;exact λW hS=>⟨fX.1,True.intro,hS.old A0 hb1 cF trivial⟩
theorem JW(n:Nat)(hn:n<4611686018427387904)(b:Nat)(W:World)(hb1:W.heap[b]? =some (oC #[ab (n:Int)] 312)):uc prog 291 [ptr b 0] (λm:Nat=>[ab (m:Int)]) (Cs (oj n)) (Is (oj n)) (λk=>k=b) (λ_=>False) W:=by
 intro l M I X0 hM hI hX hy h0;refine nB (dh hM (λ_=>False) (hI [] _)) [(b,oC #[ab (n:Int)] 312)] (vs:=[_,_]) func291 rfl ntmps291 rfl (Nj hM (hI [] _) h0 (by intro p hp;simp at hp;subst hp;exact hb1) (D4 _) zJ) ?_;refine B 1 ?_;refine CJ.loop (α:=(List Nat×Nat)×aE) (λp=>[(0,yv l),(1,ptr b 0)]) (λp=>[(b,oC #[ab (p.1.2:Int)] 312)]) (λp=>[W]) (λp=>dh hM p.2 (hI p.1.1 p.2)) (λp=>p.1.1++oj p.1.2=oj n/\p.1.2<=n/\∀k,p.2 k->W.heap.size<=k) (λp=>p.1.2) (([],n),λ_=>False) ⟨rfl,ak _,λ_ h=>h.elim⟩ ⟨rfl,rfl,trivial⟩ rfl rfl zJ ?_;rintro⟨⟨pre,m⟩,V⟩ ⟨rV,hmn,hV⟩;dsimp only at rV hmn hV ⊢;refine B 6 ?_;refine ni (t:=5) rfl (λar=>?_) (λar=>?_)
 ·replace ar:=ya ar;refine B 2 ?_;refine Br (λV=>hI (pre++[m]) V) hX hV zJ rfl rfl rfl rfl (λW1 ue kO=>hy (pre) (m) V W1 ⟨oj (m/2),by rw[iP,<-rV,Uw (n:=m) aa];rfl⟩ ue kO) ?_ ?_
  ·intro V hV;refine B 13 ?_;refine call call188 rfl rfl rfl (λW hS=>nOh m aa W) ?_;refine jP (i:=0) rfl sizeOf312 rfl rfl rfl rfl (dO rfl) rfl ?_;refine B 1 ?_;refine PJ.again ((pre++[m],uq m),V) ⟨by dsimp only;rw[<-rV,Uw (n:=m) aa,iP];rfl,by dsimp only[uq];omega,hV⟩ (by dsimp only[uq];omega) ⟨rfl,rfl,trivial⟩ rfl rfl zJ
  intro V hV;refine B 8 ?_;exact Bs (.inr rfl) results291 A0 hV zJ (λA hA=>.inr hA)
 replace ar:=ya ar;refine B 11 ?_;exact Bs (.inr rfl) results291 A0 hV zJ (λA hA=>.inl ⟨pre,by rw[<-rV,Xf aa,dV],hA⟩)
theorem n9o(fo:Nat->Nat)(pre:List Nat)(x:Nat):(pre++[x]).map (λn=>((fo n:Nat):Int))=pre.map (λn=>((fo n:Nat):Int))++[((fo x:Nat):Int)]:=by simp
theorem nIh(fo:Nat->Nat)(g:Nat)(az:eg prog g)(NA:∀(n:Nat) (w:World),n<4611686018427387904->Calls prog g #[ab (n:Int)] w (aM w (ab ((fo n:Nat):Int))))(d:Int)(kk:Nat)(JX:512+d=(kk:Int))(hd:dW d)(w:World):Calls prog 187 #[ab d,.func (.func g) #[] #[]] w (aD w aA 1 3 (List.map (λn=>((fo n:Nat):Int)) (oj kk)) (λs=>.tuple #[s,ab 0])):=by
 have hd1:=hd.1;have hd2:=hd.2;have hul:=nEn kk;refine Pj Gh.no [] (vs:=[_,_]) func187 rfl ntmps187 rfl (Jg w) ?_;refine B 2 ?_;refine yX ?_;intro b3 w3 hb3 cK fF ez eP;refine B 1 ?_;refine yW ?_;intro b4 ja jb;refine B 6 ?_;refine call call37 rfl rfl rfl (λW hS=>by rw[<-JX];exact nNi d hd W) (v:=.tuple #[ab (kk:Int),ab 0]) ?_;refine B 11 ?_;refine ax bG ?_;refine B 9 ?_;refine Pw (α:=Nat) (v:=λb=>.func (.func 291) #[] #[ptr b 0]) (bo:=λb=>(b,oC #[ab (kk:Int)] 312)) (Φ:=λ_=>True) call251 rfl rfl rfl (λW hS=>D3 kk W) ?_;intro bu sD xw _;dsimp only at sD xw ⊢;replace sD:=yb sD;simp only[aY,and_true]at xw;refine B 3 ?_;refine nKo (f:=291) (cap:=[ptr bu 0]) (α:=Nat) (enc:=(λm:Nat=>[ab (m:Int)])) (Pre:=Cs (oj kk)) (Fin:=Is (oj kk)) (RO:=λ_=>False) (i:=0) (b:=bu) (o:=oC #[ab (kk:Int)] 312) (H:=[(b4,oC #[ao] 55)]) rfl rfl zD zL rfl call291 (λW W2 hS fH hB=>JW kk aa bu W2 (by rw[hB.block bu (aT.1 fH).1];exact fH)) (λ_ _ _ hk=>hk.elim) (λ_=>rfl) (λpre G' Hc=>G'=Gh.no/\∃r:Rw,r.Fr Gh.no [w3,w]/\r.Fit 1 (List.map (λn=>((fo n:Nat):Int)) pre)/\Hc=[(b4,oC #[r.val (List.map (λn=>((fo n:Nat):Int)) pre).length] 55)]++(r.hp aA 3 (List.map (λn=>((fo n:Nat):Int)) pre)++[])) (λ_ _ _=>False) ⟨rfl,.nil,True.intro,rfl,rfl⟩ zB ?_ ?_ ?_
 ·rintro pre x G' Hc l Dk rec W1 M V Wy oe vn dP ⟨rfl,r,aK,ah,rfl⟩ iH lD Pm yi du Df;simp only[ae]at iH yi;have bH:r.ge w3.heap.size:=Rw.ge_of aK A0;have cK:=du.z (k:=b3) aa zL oI zL;have hxm:=JU x (dP.subset zJ);have im:=dP.length_le;simp only[ck,dC,fb]at im;have D5:∀p∈r.hp aA 3 (List.map (λn=>((fo n:Nat):Int)) pre),M p.1\/V p.1:=λp hp=>du.loc.h p Ux;refine B 3 ?_;refine Nl oe ?_;refine B 1 ?_;refine eS 5 4 [] (pb:=by exact zU 3 (k:=by exact aU (nsn (first:=[]) (cap:=[]) rfl az rfl rfl (λW hS _=>NA x W aa) (λ_=>rfl)) zT)) (h:=?_);intro _ _ hk;refine Ij ?_;intro b23 w23 PR ha PT PS hz;refine zE ?_;refine jS (r:=r) (xs:=(List.map (λn=>((fo n:Nat):Int)) pre)) (zs:=[((fo x:Nat):Int)]) (enc:=aA) (m:=1) (H0:=[(b4,oC #[r.val (List.map (λn=>((fo n:Nat):Int)) pre).length] 55)]) (H1:=(l,.loop {rec with state:=.busy})::fq Dk) zX Nz nz rfl rfl rfl rfl (bO.one (z:=((fo x:Nat):Int)) nz NB underlying55 (bB.old A0 PR PS PT)) ah (Rw.Fr_ext D5) zJ PZ ?_;intro kZ ur lN pU qQ;replace pU:=yb pU;refine B 3 ?_;refine BH (L':=[Wy,w3,w]) zJ ?_;refine Jh (G2:=Gh.no) (Hc2:=[(b4,oC #[(Rw.row kZ ur lN).val ((List.map (λn=>((fo n:Nat):Int)) pre)++[((fo x:Nat):Int)]).length] 55)]++((Rw.row kZ ur lN).hp aA 3 ((List.map (λn=>((fo n:Nat):Int)) pre)++[((fo x:Nat):Int)])++[])) du lD ⟨λ_ h=>h,λ_ h=>.inl h,λ_ h=>.inl h,(Uy rfl (pU.imp id (λh=>h.2.1))),zNc⟩ (Ji oe vn) ?_
  rw[n9o];exact⟨rfl,.row kZ ur lN,pU.elim (λh=>Rw.Fr_at aK h) (λh=>.inr h.2.2),qQ,rfl⟩
 ·rintro pQ l Dk rec G' Hc rfl iH lD ⟨rfl,r,aK,ah,rfl⟩;replace iH:=yb iH;have bH:r.ge w3.heap.size:=Rw.ge_of aK A0;refine P0 λWd yh=>?_;have ml:=Uz yh;refine B 5 ?_;refine gK (i:=0) rfl sizeOf55 rfl rfl rfl (Rw.val_size _ _) rfl (Rw.val_one _ _) ?_;refine B 4 ?_;have hq:=λ(k:Nat)=>Rw.mem_ge (enc:=aA) (t:=3) (xs:=(List.map (λn=>((fo n:Nat):Int)) (oj kk))) (k:=k) bH;refine PJ.reH (H':=(b4,oC #[r.val (List.map (λn=>((fo n:Nat):Int)) (oj kk)).length] 55)::(r.hp aA 3 (List.map (λn=>((fo n:Nat):Int)) (oj kk))++(l,.loop rec)::fq Dk)) UA ?_;refine D6 (b:=b4) (r:=r) (xs:=(List.map (λn=>((fo n:Nat):Int)) (oj kk))) (.inl rfl) results187 isAgg55 rfl rfl zJ A0 (ml _ A0).1 rfl ah (λp hp=>⟨.tail _ (bA.2 (.inl hp)),(ml p (bA.2 (.inr (bA.2 (.inl hp))))).1⟩) (Rw.ge_of aK A1) (λW H' hS aQ=>(hS.links w A1).below λk hk hx=>?_);exact Xi
 exact Pn
def dH (d:Int):List Int:=(oj (512+d).toNat).map λn=>((uq n:Nat):Int)
def jz (d:Int):List Int:=(oj (512+d).toNat).map λn=>((yE n:Nat):Int)
theorem P1:eg prog 188:=call188
theorem P2:eg prog 303:=call303
theorem nJf(d:Int)(hd:dW d)(w:World):Calls prog 112 #[ab d] w (aD w aA 1 3 (dH d) (λs=>.tuple #[s,ab 0])):=by
 obtain⟨kk,JX⟩:∃kk:Nat,512+d=(kk:Int):=⟨(512+d).toNat,by have:=hd.1;omega⟩;have e:dH d=(List.map (λn=>((uq n:Nat):Int)) (oj kk)):=by unfold dH;rw[JX,yB]
 rw[e];refine eN func112 ntmps112 ?_;refine B 9 ?_;refine Iv (enc:=aA) (m:=1) (t:=3) (xs:=(List.map (λn=>((uq n:Nat):Int)) (oj kk))) (v:=λs=>.tuple #[s,ab 0]) (first:=[]) (cap:=[]) rfl call187 rfl rfl rfl (λW hS=>nIh uq 188 P1 (λn w h=>nOh n h w) d kk JX hd W) ?_;intro r aK ah;refine B 7 ?_;exact nP (H0:=[]) (H1:=[]) (r:=r) (.inl rfl) results112 bj A0 Xj rfl ah (Rw.ge_of aK A0) zJ
theorem nTl(d:Int)(hd:dW d)(w:World):Calls prog 261 #[ab d] w (aD w aA 1 3 (jz d) (λs=>.tuple #[s,ab 0])):=by
 obtain⟨kk,JX⟩:∃kk:Nat,512+d=(kk:Int):=⟨(512+d).toNat,by have:=hd.1;omega⟩;have e:jz d=(List.map (λn=>((yE n:Nat):Int)) (oj kk)):=by unfold jz;rw[JX,yB]
 rw[e];refine eN func261 ntmps261 ?_;refine B 9 ?_;refine Iv (enc:=aA) (m:=1) (t:=3) (xs:=(List.map (λn=>((yE n:Nat):Int)) (oj kk))) (v:=λs=>.tuple #[s,ab 0]) (first:=[]) (cap:=[]) rfl call187 rfl rfl rfl (λW hS=>nIh yE 303 P2 (λn w h=>nQl n h w) d kk JX hd W) ?_;intro r aK ah;refine B 7 ?_;exact nP (H0:=[]) (H1:=[]) (r:=r) (.inl rfl) results261 bj A0 Xj rfl ah (Rw.ge_of aK A0) zJ
def eQ (xs:List Int):List Int:=xs.mergeSort λx y=>decide (x<=y)
theorem JY(xs:List Int):(eQ xs).length=xs.length:=List.length_mergeSort _
theorem Xk(hl:xs.length<=1000000){cap t:Nat}(bN:(Rw.row b cap sp).Fit 1 xs)(h:W.heap[b]? =some (aO aA t xs sp)):Calls prog 192 #[.slice (aj b) xs.length cap] W (λe w'=>∃bU,e= .returned ((λ_=>.tuple #[]) (Rw.row b cap bU))/\aH (· =b) W w'/\(Rw.row b cap bU).Fit 1 (eQ xs)/\w'.heap[b]? =some (aO aA t (eQ xs) bU)):=by
 have hc:=Any.slices_Sort_int Tryz.laySort b 0 cap xs W (D7 h) (aT.1 h).1 aa;change Calls prog 192 _ _ _ at hc;refine hc.mono ?_;rintro e w' ⟨rfl,n,os,rfl⟩;obtain⟨h1,h2⟩:=Xl (n:=n) (os:=os) h (JY xs);exact⟨sp,rfl,h1,by simp only[Rw.Fit,JY];exact bN,h2⟩
theorem D8(W:World):Calls prog 192 #[ao] W (λe w'=>e= .returned (.tuple #[])/\Below W.heap.size W w'):=by
 have hc:=Any.slices_Sort_int_none Tryz.laySort none 0 W;change Calls prog 192 _ _ _ at hc;refine hc.mono ?_;rintro e w' ⟨rfl,h⟩;refine⟨rfl,?_⟩;first
  |(obtain⟨n,rfl⟩:=h;exact D9 W _)
  |(subst h;exact Below.refl _ _)
theorem Xm(hl:xs.length<=1000000){cap t:Nat}(bN:(Rw.row b cap sp).Fit 1 xs)(h:W.heap[b]? =some (aO aA t xs sp)):Calls prog 250 #[.slice (aj b) xs.length cap] W (λe w'=>∃bU,e= .returned ((λr=>r.val (Go.Lib.compact xs).length) (Rw.row b cap bU))/\aH (· =b) W w'/\(Rw.row b cap bU).Fit 1 (Go.Lib.compact xs)/\w'.heap[b]? =some (aO aA t (Go.Lib.compact xs) bU)):=by
 obtain⟨f1,f2⟩:=bN;have hc:=Any.slices_Compact_int Tryz.layCompact b 0 cap xs W (D7 h) aa f1;change Calls prog 250 _ _ _ at hc;refine hc.mono ?_;rintro e w' ⟨rfl,q,rfl⟩;have hle:=Go.Lib.compact_length_le xs;obtain⟨h1,h2⟩:=Xl (n:=q) (os:=#[]) (ys:=Go.Lib.compact xs++List.replicate (xs.length-(Go.Lib.compact xs).length) 0) h oI;rw[Go.Sort.grow_empty]at h1 h2;refine⟨gN aA (List.replicate (xs.length-(Go.Lib.compact xs).length) 0)++sp,rfl,h1,⟨by omega,?_⟩,?_⟩
 ·rw[ck,nW nz,List.length_replicate,f2];omega
 rw[h2];simp only[aO,NC,iP]
theorem nNn(h:Rw.nil.Fit 1 xs)(W:World):Calls prog 192 #[Rw.nil.val xs.length] W (λe w'=>e= .returned ((λ_=>.tuple #[]) Rw.nil)/\eQ xs=[]/\Below W.heap.size W w'):=
 (D8 W).mono λe w' ⟨h1,h2⟩=>⟨h1,by have:xs=[]:=h;subst this;simp[eQ],h2⟩
theorem nKp(W:World):Calls prog 250 #[ao] W (λe w'=>e= .returned (ao)/\Below W.heap.size W w'):=by
 have hc:=Any.slices_Compact_int_empty Tryz.layCompact none 0 W;change Calls prog 250 _ _ _ at hc;refine hc.mono ?_;exact zOh
theorem JZ(h:Rw.nil.Fit 1 xs)(W:World):Calls prog 250 #[Rw.nil.val xs.length] W (λe w'=>e= .returned ((λr=>r.val (Go.Lib.compact xs).length) Rw.nil)/\Go.Lib.compact xs=[]/\Below W.heap.size W w'):=
 (nKp W).mono λe w' ⟨h1,h2⟩=>⟨h1,by have:xs=[]:=h;subst this;rfl,h2⟩
structure Nd where
 at_:Int
 pub:Int
def gH (n:Nd):List Value:=[ab n.at_,ab n.pub]
def fN (n:Nd):Array Value:=#[ab n.at_,ab n.pub]
theorem P3(n:Nd):(gH n).length=2:=rfl
theorem J0(n:Nd):∀u∈gH n,u.oneCell'=true:=by intro u hu;simp[gH]at hu;rcases hu with rfl|rfl<;>rfl
def pA (ns:List Nd):List Int:=(ns.filter λn=>decide (512<=n.at_/\n.at_<=1023)).map λn=>n.at_-512
variable {ns:List Nd} {x:Nd}
theorem nDj(hx:ns[j]? =some x)(h1:512<=x.at_)(h2:x.at_<=1023):pA (ns.take (j+1))=pA (ns.take j)++[x.at_-512]:=by
 rw[np hx];simp[pA,h1,h2]
theorem nqf(hx:ns[j]? =some x)(h:¬(512<=x.at_/\x.at_<=1023)):pA (ns.take (j+1))=pA (ns.take j):=by simp_all[np,pA]
theorem nPj(ns:List Nd)(j:Nat):(pA (ns.take j)).length<=j:=by grind [pA]
theorem J1(ns:List Nd)(j:Nat)(h:¬j<ns.length):pA (ns.take j)=pA ns:=by rw[jO aa]
def dZ (ns:List Nd):List Int:=Go.Lib.compact (eQ (pA ns))
theorem n6l(ns:List Nd):(dZ ns).length<=ns.length:=by
 have h1:=Go.Lib.compact_length_le (eQ (pA ns));all_goals grind [nPj,JY,dZ,List.take_length]
theorem Ea:prog.info? 240=some Tryz.t240:=by kernel_rfl
theorem n1b(ns:List Nd)(hn:ns.length<=100000)(N:Nat)(a:Option Addr)(cp:Nat)(w:World)(hN:N<=w.heap.size)(aJ:ai fN 2 N w a ns):Calls prog 186 #[.agg #[.slice a ns.length cp]] w (aD w aA 1 3 (dZ ns) id):=by
 have hlA:=nPj ns ns.length;rw[vW]at hlA;refine eN func186 ntmps186 ?_;refine B 2 ?_;refine yX ?_;intro b1 w1 hb1 cF gA fX jq;refine B 7 ?_;refine ax (.slice a ns.length cp) ?_;refine B 5 ?_;refine CJ.loop (α:=Rw×Nat) (λp=>[(1,ptr b1 0),(2,p.1.val (pA (ns.take p.2)).length),(6,.slice a ns.length cp),(7,ab (ns.length:Int)),(8,ab (p.2:Int))]) (λp=>p.1.hp aA 3 (pA (ns.take p.2))++[]) (λp=>[w1,w]) (λp=>Gh.no) (λp=>p.2<=ns.length/\p.1.Fr Gh.no [w1,w]/\p.1.Fit 1 (pA (ns.take p.2))) (λp=>ns.length-p.2) (.nil,0) ⟨cV _,True.intro,rfl⟩ zR rfl rfl zJ ?_;rintro⟨r,j⟩ ⟨hj,aK,ah⟩;dsimp only at hj aK ah ⊢;have bH:r.ge w1.heap.size:=Rw.ge_of aK A0;have Pu:=nPj ns j;refine B 6 ?_;refine aG ?_ ?_
 ·intro ar;refine B 5 ?_;obtain⟨bo,oo,cs0,to,fG,rfl,fH,cJ,aW⟩:=aJ.get aa;obtain⟨x,hx⟩:=ng ns j aa;refine B 2 ?_;refine ax (.agg (fN x)) ?_;refine B 1 ?_;refine yW ?_;intro b4 ja jb;refine B 9 ?_;refine ni (t:=15) rfl (λaN=>?_) (λaN=>?_)
  ·replace aN:=ya aN;refine B 6 ?_;refine aG ?_ ?_
   ·intro dc;refine B 5 ?_;refine Eb ?_;refine yW ?_;intro kZ P4 P5;refine jS (r:=r) (xs:=(pA (ns.take j))) (zs:=[(x.at_-512)]) (enc:=aA) (m:=1) (H0:=[(kZ,oC #[ab (x.at_-512)] 3),(b4,oC (fN x) 240)]) (H1:=[]) zX Nz nz rfl rfl rfl rfl (bO.one (z:=x.at_-512) nz NB underlying55 (bB.own (i:=0) rfl)) ah aK zJ Az ?_;intro b25 P6 P7 yF yG;replace yF:=yb yF;refine CH ?_;refine PJ.again (Rw.row b25 P6 P7,j+1) ⟨by dsimp only;omega,yF.elim (λh=>Rw.Fr_at aK h) (λh=>.inr h),by rw[nDj hx aa aa];exact yG⟩ zW ⟨rfl,by rw[nDj hx aa aa];rfl,rfl,rfl,rfl,trivial⟩ (by rw[nDj hx aa aa];rfl) rfl zJ
   intro dc;refine xx ?_;exact zXg
  replace aN:=ya aN;refine B 14 ?_;refine pV ?_;exact zXg
 intro ar;refine B 6 ?_;have cx:=J1 ns j aa;rw[cx]at ah ⊢;refine B 2 ?_;refine Ec (r:=r) (enc:=aA) (m:=1) (t:=3) (xs:=pA ns) (ys:=eQ (pA ns)) (H0:=[]) (H1:=[]) (v:=λ_=>.tuple #[]) rfl call192 rfl rfl rfl (λhr W _=>by subst hr;exact nNn ah W) (λb cap sp hr W _ h=>by subst hr;exact Xk aa ah h) ?_;intro r2 eu lb qR jE;have iy:=lb aK;have ee:=qR _ bH;refine B 5 ?_;refine Ec (r:=r2) (enc:=aA) (m:=1) (t:=3) (xs:=eQ (pA ns)) (ys:=dZ ns) (H0:=[]) (H1:=[]) (v:=λr=>r.val (dZ ns).length) rfl call250 rfl rfl rfl (λhr W _=>by have e:=jE (pA ns).length;rw[<-e];subst hr;rw[<-JY (pA ns)];exact JZ eu W) (λb cap sp hr W _ h=>by have e:=jE (pA ns).length;rw[<-e];subst hr;rw[<-JY (pA ns)];exact Xm (by rw[JY];omega) eu h) ?_;intro r3 mm uu Ed Ee;have J2:=uu iy;have pB:=Ed _ ee;refine B 4 ?_;exact nP (H0:=[]) (H1:=[]) (r:=r3) (.inl rfl) results186 bj A1 (by rw[dV];exact Rw.over (Rw.ge_of J2 A1)) rfl mm (Rw.ge_of J2 A1) zJ
def ND (kv:List (Int×Int)) (n:Nd):List (Int×Int):=if(bV kv n.at_).isSome then kv else dA kv n.at_ n.pub
def dL (ns:List Nd):List (Int×Int):=ns.foldl ND []
theorem nKm(hx:ns[j]? =some x):dL (ns.take (j+1))=ND (dL (ns.take j)) x:=by
 rw[np hx];simp[dL,Iw]
theorem nxn(hx:ns[j]? =some x)(h:(bV (dL (ns.take j)) x.at_).isSome=false):dL (ns.take (j+1))=dA (dL (ns.take j)) x.at_ x.pub:=by
 rw[nKm hx];unfold ND;rw[if_neg (by rw[h];decide)]
theorem Ef(hx:ns[j]? =some x)(h:(bV (dL (ns.take j)) x.at_).isSome=true):dL (ns.take (j+1))=dL (ns.take j):=by
 rw[nKm hx];unfold ND;rw[if_pos h]
theorem J3(ns:List Nd)(j:Nat)(h:¬j<ns.length):dL (ns.take j)=dL ns:=by rw[jO aa]
theorem Xo{β:Type}(l:List (Int×β))(k:Int)(v:β):(dA l k v).length<=l.length+1:=by
 unfold dA;split<;>simp
theorem UB(ns:List Nd):(dL ns).length<=ns.length:=by
 have key:∀(l:List Nd) (kv:List (Int×Int)),(l.foldl ND kv).length<=kv.length+l.length:=by
  intro l;induction l with
  |nil=>intro kv;simp
  |cons n l ih=>
   intro kv;have h1:=ih (ND kv n);have h2:(ND kv n).length<=kv.length+1:=by unfold ND;split;omega;exact Xo _ _ _
   simp only[List.foldl_cons,dC];omega
 simpa[dL]using key ns []
theorem nce(ns:List Nd)(hn:ns.length<=100000)(N:Nat)(a:Option Addr)(cp:Nat)(w:World)(hN:N<=w.heap.size)(aJ:ai fN 2 N w a ns):Calls prog 67 #[.agg #[.slice a ns.length cp]] w (Eg w ab (dL ns) id):=by
 refine eN func67 ntmps67 ?_;refine B 2 ?_;refine yX ?_;intro b1 w1 hb1 cF gA fX jq;refine B 5 ?_;refine J4 ab rfl rfl ?_;refine yW ?_;intro b8 Ik Il;refine B 7 ?_;refine ax (.slice a ns.length cp) ?_;refine B 5 ?_;refine CJ.lp (α:=Mp×Nat) [1,3,10,11] (λp=>[(12,ab (p.2:Int))]) (λp=>[(b8,p.1.obj ab (dL (ns.take p.2)))]) (λp=>p.2<=ns.length/\p.1.Ok (dL (ns.take p.2))) (λp=>ns.length-p.2) (⟨[],0⟩,0) ⟨cV _,Mp.nil⟩ ?_;rintro⟨m,j⟩ ⟨hj,hm⟩;dsimp only at hj hm ⊢;refine B 6 ?_;refine aG ?_ ?_
 ·intro ar;refine B 5 ?_;obtain⟨bo,oo,cs0,to,fG,rfl,fH,cJ,aW⟩:=aJ.get aa;obtain⟨x,hx⟩:=ng ns j aa;refine B 2 ?_;refine ax (.agg (fN x)) ?_;refine B 1 ?_;refine yW ?_;intro b5 so sq;refine B 8 ?_;refine rv rfl rfl rfl (qv (ev:=ab) underlying165 underlying3 zeroValue3 hm (bB.own (i:=1) rfl) rfl rfl) ?_;refine B 13 ?_;refine aG ?_ ?_
  ·intro aN;refine B 6 ?_;refine NF (i:=1) (ev:=ab) (v:=x.pub) rfl hm underlying165 underlying3 rfl rfl rfl rfl ?_;intro m2 bW;refine xx ?_;refine PJ.again (m2,j+1) ⟨by dsimp only;omega,by rw[nxn hx eC];exact bW⟩ zW zR (by rw[nxn hx eC];rfl) rfl zJ
  intro aN;refine xx ?_;refine PJ.again (m,j+1) ⟨by dsimp only;omega,by rw[Ef hx eC];exact hm⟩ zW zR (by rw[Ef hx eC];rfl) rfl zJ
 intro ar;refine B 6 ?_;have cx:=J3 ns j aa;rw[cx]at hm ⊢;refine B 6 ?_;exact Xp (i:=0) (.inl rfl) results67 bj A1 Au rfl hm rfl
theorem Xq:∀(n:Nat) (js:List Nat),js.Nodup->(∀j∈js,j<n)->js.length<=n
 |0,js,_,h=>by
  cases js with
  |nil=>simp
  |cons j js=>have:=h j zJ;omega
 |n+1,js,hd,h=>by
  have h1:=Xq n (js.erase n) (hd.erase n) (λj hj=>by
   have h2:=h j (List.mem_of_mem_erase hj);have h3:j≠n:=λe=>by subst e;exact absurd hj (by rw[hd.mem_erase_iff];simp)
   omega)
  have h2:=List.length_erase (a:=n) (l:=js);split at h2<;>omega
def Ix {β:Type} (kv:List (Int×β)) (j:Nat):Int:=((kv[j]?).map (·.1)).getD 0
theorem nzo{β:Type}{kv:List (Int×β)}{p:Int×β}(hp:kv[j]? =some p)(js:List Nat):(js++[j]).map (Ix kv)=js.map (Ix kv)++[p.1]:=by simp[Ix,hp]
theorem nno{β:Type}{kv:List (Int×β)}{js:List Nat}(hd:js.Nodup)(hl:∀j∈js,j<kv.length)(cx:∀j,j<kv.length->j∈js):(js.map (Ix kv)).Perm (kv.map (·.1)):=by
 have h1:js.Perm (List.range kv.length):=(List.perm_ext_iff_of_nodup hd List.nodup_range).2 λa=>⟨λh=>tA.2 (hl a h),λh=>cx a (tA.1 h)⟩;have h2:(List.range kv.length).map (Ix kv)=kv.map (·.1):=by
  apply List.ext_getElem zJ;intro i h3 h4;simp only[eG,List.length_range]at h3;simp[Ix,h3]
 rw[<-h2];exact h1.map _
theorem n6o{p q:List Int}(h:p.Perm q):eQ p=eQ q:=by
 have hs:∀l:List Int,(eQ l).Pairwise (λa b=>(decide (a<=b))=true):=λl=>List.pairwise_mergeSort (λa b c h1 h2=>by simp at *;omega) (λa b=>by simp;omega) l;exact List.Perm.eq_of_pairwise (λa b _ _ h1 h2=>by simp at h1 h2;omega) (hs p) (hs q) (((List.mergeSort_perm p _).trans h).trans (List.mergeSort_perm q _).symm)
theorem nch{β:Type}{kv:List (Int×β)}{js:List Nat}{jn:Nat}{pn:Int×β}(hnd:js.Nodup)(pC:∀j∈js,j<kv.length)(xy:kv[jn]? =some pn)(sE:jn∉js):(js++[jn]).Nodup/\(∀j∈js++[jn],j<kv.length)/\js.length+1<=kv.length:=by
 exact zrg
theorem nWd(b:Nat)(m:Mp)(hm:m.Ok kv)(k:Int)(w:World)(hb:w.heap[b]? =some (m.obj ab kv)):Calls prog 113 #[.map (some b),ab k] w (λe w'=>∃m':Mp,e= .returned (.tuple #[])/\aH (· =b) w w'/\m'.Ok (ji kv k)/\w'.heap[b]? =some (m'.obj ab (ji kv k))):=by
 refine nB (Gh.lent (· =b)) [(b,m.obj ab kv)] (vs:=[_,_]) func113 rfl ntmps113 rfl (DG hb) ?_;refine B 3 ?_;refine Xr (i:=0) (ev:=ab) rfl rfl hm underlying165 underlying3 rfl rfl rfl ?_;intro m2 bW;refine B 1 ?_;exact bM (.inr rfl) (rs:=[]) results113 bj λW hS=>⟨m2,rfl,hS.baseX A0 NG,bW,hS.own _ A0⟩
theorem nok(mp:Option Nat)(w:World):Calls prog 116 #[.map mp] w (cN w (λb:Nat=>.func (.func 193) #[] #[ptr b 0]) (λb w1=>w.heap.size<=b/\w1.heap[b]? =some (oC #[.map mp] 165))):=by
 refine eN func116 ntmps116 ?_;refine B 2 ?_;refine yX ?_;intro b1 w1 hb1 cF gA fX jq;refine B 10 ?_;refine rS b1 results116 rfl A1 rfl ?_;exact zmh
theorem nkp(mb bx:Nat)(m:Mp)(hm:m.Ok kv)(W:World)(hb1:W.heap[bx]? =some (oC #[.map (some mb)] 165))(sF:W.heap[mb]? =some (m.obj ab kv)):uc prog 193 [ptr bx 0] aA (λp=>p.length<=kv.length) (λxs=>xs.Perm (kv.map (·.1))) (λ_=>False) (λk=>k=bx\/k=mb) W:=by
 intro l M I X0 hM hI hX hy h0;have cF:¬(dh hM (λ_=>False) (hI [] _)).X bx:=by rintro(h|h);exact(hM _ h).2.2 (.inl rfl);exact h.elim
 have Eh:¬(dh hM (λ_=>False) (hI [] _)).X mb:=by rintro(h|h);exact(hM _ h).2.2 (.inr rfl);exact h.elim
 have P8:=(aT.1 sF).1;refine zue ?_;refine B 3 ?_;refine agd (ev:=ab) underlying165 (bB.old A0 sF Eh trivial) rfl rfl rfl ?_;intro rb vX Xs;replace vX:=yb vX;refine B 3 ?_;refine CJ.loop (α:=List Nat×aE) (λp=>[(0,yv l),(5,ptr rb 0)]) (λp=>[(rb,m.it mb p.1)]) (λp=>[W]) (λp=>dh hM p.2 (hI (p.1.map (Ix kv)) p.2)) (λp=>p.1.Nodup/\(∀j∈p.1,j<kv.length)/\∀k,p.2 k->W.heap.size<=k) (λp=>kv.length-p.1.length) ([],λ_=>False) ⟨List.nodup_nil,by simp,λ_ h=>h.elim⟩ ⟨rfl,rfl,trivial⟩ rfl rfl zJ ?_;rintro⟨js,V⟩ ⟨hnd,pC,hV⟩;dsimp only at hnd pC hV ⊢;have Eh:¬(dh hM V (hI (js.map (Ix kv)) V)).X mb:=by rintro(h|h);exact(hM _ h).2.2 (.inr rfl);have:=hV _ h;omega
 have Xt:=Xq kv.length js hnd pC;refine B 2 ?_;refine Xu (ev:=ab) (i:=0) rfl hm (bB.old A0 sF Eh zA) pC rfl rfl rfl (λcx=>?_) (λjn pn xy sE=>?_)
 ·refine B 9 ?_;exact Bs (.inr rfl) results193 A0 hV zJb (λA hA=>.inl ⟨_,nno hnd pC cx,hA⟩)
 refine B 10 ?_;refine rv rfl rfl rfl (P9 (ev:=ab) (i:=0) rfl hm (bB.old A0 sF Eh zA) xy rfl) ?_;refine B 8 ?_;refine Br (λV=>hI (js.map (Ix kv)++[pn.1]) V) hX hV zJ rfl rfl rfl rfl (λW1 ue kO=>hy (js.map (Ix kv)) (pn.1) V W1 (by have h9:=(nch hnd pC xy sE).2.2;simp only[ck,eG,dC,fb];omega) ue kO) ?_ ?_
 ·intro V hV;refine B 6 ?_;refine PJ.again (js++[jn],V) ⟨(nch hnd pC xy sE).1,(nch hnd pC xy sE).2.1,hV⟩ (by have h9:=(nch hnd pC xy sE).2.2;simp only[ck,dC,fb];omega) ⟨rfl,rfl,trivial⟩ rfl (by dsimp only;rw[nzo xy]) zJ
 intro V hV;refine B 8 ?_;exact Bs (.inl rfl) results193 A0 hV zJb (λA hA=>.inr hA)
theorem nZm{f:Nat}(az:eg prog f)(w:World)(kR:∀k,RO k->k<w.heap.size)(hlen:∀p,Pre p->p.length<=100000)(lO:∀W2,Below w.heap.size w W2->uc prog f cap aA Pre Fin (λ_=>False) RO W2):Calls prog 255 #[ao,.func (.func f) #[] cap.toArray] w (λe w'=>∃xs,Fin xs/\aD w aA 1 3 xs id e w'):=by
 refine Pj Gh.no [] (vs:=[_,_]) func255 rfl ntmps255 rfl (Jg w) ?_;refine NH ?_;refine yW ?_;intro b2 dx dq;refine B 10 ?_;refine VU (f:=f) (cap:=cap) (α:=Int) (enc:=aA) (Pre:=Pre) (Fin:=Fin) (RO:=RO) (MI:=λ_=>False) rfl az (λW W2 hS hB=>lO W2 ((hS.links w A0).below (by simp only[dt,eL,bX,dy,or_false,Gh.no,false_or];omega) |>.trans (hB.mono (hS.links w A0).size))) (λ_ _ _ hk=>hk.elim) (λW hS k hk=>by have h1:=kR k hk;have h2:=(hS.links w A0).size;exact⟨by omega,by simp only[dt,eL,bX,dy,or_false];omega,λh=>h⟩) (λ_=>rfl) (λpre G' Hc=>G'=Gh.no/\∃r:Rw,r.Fr Gh.no [w]/\r.Fit 1 pre/\Hc=[(b2,oC #[r.val pre.length] 55)]++(r.hp aA 3 pre++[])) (λ_ _ _=>False) ⟨rfl,.nil,True.intro,rfl,rfl⟩ zB ?_ ?_ ?_
 ·rintro pre x G' Hc l Dk rec W1 M V Wy oe vn dP ⟨rfl,r,aK,ah,rfl⟩ iH lD Pm yi du Df;simp only[ae]at iH yi;have bH:r.ge w.heap.size:=Rw.ge_of aK A0;have im:=hlen _ dP;simp only[ck,dC,fb]at im;have D5:∀p∈r.hp aA 3 pre,M p.1\/V p.1:=λp hp=>du.loc.h p Ux;refine B 3 ?_;refine Nl oe ?_;refine B 4 ?_;refine Eb ?_;refine yW ?_;intro gf lP pW;refine jS (r:=r) (xs:=pre) (zs:=[x]) (enc:=aA) (m:=1) (H0:=[(gf,oC #[ab x] 3),(b2,oC #[r.val pre.length] 55)]) (H1:=(l,.loop {rec with state:=.busy})::fq Dk) zX Nz nz rfl rfl rfl rfl (bO.one (z:=x) nz NB underlying55 (bB.own (i:=0) rfl)) ah (Rw.Fr_ext D5) zJ Az ?_;intro gG oP oQ jh kz;replace jh:=yb jh;refine B 3 ?_;refine pV ?_;refine Jh (G2:=Gh.no) (Hc2:=[(b2,oC #[(Rw.row gG oP oQ).val (pre++[x]).length] 55)]++((Rw.row gG oP oQ).hp aA 3 (pre++[x])++[])) du lD ⟨λ_ h=>h,λ_ h=>.inl h,λ_ h=>.inl h,(Uy rfl (jh.imp id (λh=>h.1))),zNc⟩ (Ji oe vn) ?_;exact zVg
 ·rintro pQ l Dk rec G' Hc dK iH lD ⟨rfl,r,aK,ah,rfl⟩;replace iH:=yb iH;have bH:r.ge w.heap.size:=Rw.ge_of aK A0;refine P0 λWd yh=>?_;have ml:=Uz yh;refine B 9 ?_;have hq:=λ(k:Nat)=>Rw.mem_ge (enc:=aA) (t:=3) (xs:=pQ) (k:=k) bH;refine PJ.reH (H':=(b2,oC #[r.val pQ.length] 55)::(r.hp aA 3 pQ++(l,.loop rec)::fq Dk)) UA ?_;refine BI (.inl rfl) zJ λa W H' hF hS dX aQ=>?_;refine⟨_,by rw[results_tmp results255];exact congrArg (λu=>Result.ok u W) (hF 4 _ rfl),pQ,dK,r,rfl,?_,bH,ah,?_⟩
  ·refine(hS.links w A0).below λk hk hx=>?_;exact Xi
  cases r with
  |nil=>trivial
  |row b cap sp=>exact hS.own _ (dX (b,aO aA 3 pQ sp) oR (ml _ oR).1)
 exact Pn
theorem nIk{f:Nat}(az:eg prog f)(w:World)(kR:∀k,RO k->k<w.heap.size)(hlen:∀p,Pre p->p.length<=100000)(lO:∀W2,Below w.heap.size w W2->uc prog f cap aA Pre Fin (λ_=>False) RO W2):Calls prog 191 #[.func (.func f) #[] cap.toArray] w (λe w'=>∃xs,Fin xs/\aD w aA 1 3 xs id e w'):=by
 refine eN func191 ntmps191 ?_;refine B 8 ?_;refine UC (enc:=aA) (m:=1) (t:=3) (Fin:=Fin) (v:=id) call255 rfl rfl rfl (λW hS=>nZm az W (λk hk=>lZ (kR k hk) (hS.links w A0).size) hlen (λW2 hB=>lO W2 (((hS.links w A0).below J5).trans (hB.mono (hS.links w A0).size)))) ?_;intro xs r dK aK ah;refine B 4 ?_;exact bM (.inl rfl) results191 bj λW hS=>⟨xs,dK,r,rfl,hS.base A0 Xj,Rw.ge_of aK A0,ah,by cases r with|nil=>exact True.intro|row b cap sp=>exact hS.own _ A0⟩
theorem nIm{f:Nat}(az:eg prog f)(w:World)(kR:∀k,RO k->k<w.heap.size)(hlen:∀p,Pre p->p.length<=100000)(lO:∀W2,Below w.heap.size w W2->uc prog f cap aA Pre Fin (λ_=>False) RO W2)(ys:List Int)(xt:∀xs,Fin xs->eQ xs=ys/\xs.length<=100000):Calls prog 115 #[.func (.func f) #[] cap.toArray] w (aD w aA 1 3 ys id):=by
 refine eN func115 ntmps115 ?_;refine B 8 ?_;refine UC (enc:=aA) (m:=1) (t:=3) (Fin:=Fin) (v:=id) call191 rfl rfl rfl (λW hS=>nIk az W (λk hk=>lZ (kR k hk) (hS.links w A0).size) hlen (λW2 hB=>lO W2 (((hS.links w A0).below J5).trans (hB.mono (hS.links w A0).size)))) ?_;intro xs r dK aK ah;obtain⟨J6,hxl⟩:=xt xs dK;have bH:=Rw.ge_of aK A0;refine B 6 ?_;refine Ec (r:=r) (enc:=aA) (m:=1) (t:=3) (xs:=xs) (ys:=eQ xs) (H0:=[]) (H1:=[]) (v:=λ_=>.tuple #[]) rfl call192 rfl rfl rfl (λhr W _=>by subst hr;exact nNn ah W) (λb cap sp hr W _ h=>by subst hr;exact Xk aa ah h) ?_;intro r2 eu lb qR jE;have iy:=lb aK;have ee:=qR _ bH;refine B 9 ?_;subst J6;exact nP (H0:=[]) (H1:=[]) (r:=r2) (.inl rfl) results115 bj A0 (by rw[dV];exact Rw.over (Rw.ge_of iy A0)) (by show r.val _=r2.val _;rw[<-jE,JY]) eu (Rw.ge_of iy A0) zJ
theorem nYk(bx:Nat)(W:World)(hb1:W.heap[bx]? =some (oC #[.map none] 165)):uc prog 193 [ptr bx 0] aA (λp=>p.length<=0) (λxs=>xs=[]) (λ_=>False) (λk=>k=bx) W:=by
 intro l M I X0 hM hI hX hy h0;have cF:¬(dh hM (λ_=>False) (hI [] _)).X bx:=by rintro(h|h);exact(hM _ h).2.2 rfl;exact h.elim
 refine zue ?_;refine B 3 ?_;refine Xv underlying165 rfl rfl rfl ?_;intro rb vX Xs;replace vX:=yb vX;refine B 3 ?_;refine CJ.lp (α:=Nat) [0,5] (λp=>[]) (λp=>[(rb,.mapIter none 0 #[] 0)]) (λp=>True) (λp=>0) 0 True.intro ?_;rintro p _;refine B 2 ?_;refine Qa (i:=0) rfl rfl rfl rfl ?_;refine B 9 ?_;exact Bs (.inr rfl) results193 A0 (λ_ h=>h.elim) (by intro k hk hx;simp only[dt,eL,bX,dy,or_false]at hx;omega) (λA hA=>.inl ⟨[],rfl,hA⟩)
def pX (kv:List (Int×Int)):List Nd:=(eQ (kv.map (·.1))).map λk=>⟨k,(bV kv k).getD 0⟩
theorem Xw:iR prog 49 240 2:=⟨underlying49,Tryz.t240,.agg #[ab 0,ab 0],Ea,rfl,rfl,rfl,by decide⟩
theorem Rw.val_one2(n:Nat)(r:Rw):aV [r.val n]=true:=by cases r<;>rfl
theorem nfo{β:Type}(f:Int->β){x:Int}(hx:xs[j]? =some x):(xs.take (j+1)).map f=(xs.take j).map f++[f x]:=by rw[np hx];simp
theorem Qc(o:Option Int):(o.map ab).getD (ab 0)=ab (o.getD 0):=by cases o<;>rfl
theorem n3f(vx:kv.length<=100000)(mb:Nat)(m:Mp)(hm:m.Ok kv)(w:World)(sF:w.heap[mb]? =some (m.obj ab kv)):Calls prog 66 #[.map (some mb)] w (aD w gH 2 240 (pX kv) (λs=>.agg #[s])):=by
 have P8:=(aT.1 sF).1;have anj:(eQ (kv.map (·.1))).length=kv.length:=by rw[JY,eG]
 refine eN func66 ntmps66 ?_;refine B 3 ?_;refine yW ?_;intro b2 dx dq;refine B 6 ?_;refine nv (α:=Nat) (v:=λb:Nat=>.func (.func 193) #[] #[ptr b 0]) (Φ:=λ(W:World) (b:Nat) (w1:World)=>W.heap.size<=b/\w1.heap[b]? =some (oC #[.map (some mb)] 165)) call116 rfl rfl rfl (λW hS=>nok (some mb) W) ?_;rintro Wk bk wk vy Ej ⟨Qd,yH⟩;try dsimp only at Qd yH
 have Xx:=vy.under;replace Xx:=yg Xx;have agh:=(aT.1 yH).1;have Xy:=vy.sizes;replace Xy:=yb Xy;have hzk:=Ej.size;refine nG (enc:=aA) (m:=1) (t:=3) (xs:=eQ (kv.map (·.1))) (v:=id) (first:=[]) (cap:=[]) rfl call115 rfl rfl rfl nz (λW hS=>nIm (f:=193) (cap:=[ptr bk 0]) (Pre:=λp=>p.length<=kv.length) (Fin:=λxs=>xs.Perm (kv.map (·.1))) (RO:=λk=>k=bk\/k=mb) call193 W ?_ ?_ ?_ _ ?_) ?_
 ·intro k hk;have h1:=(hS.links wk A0).size;rcases hk with rfl|rfl<;>omega
 ·intro p hp;have:p.length<=kv.length:=hp;omega
 ·intro W2 hB;exact nkp mb bk m hm W2 (by rw[hB.block bk (by have:=(hS.links wk A0).size;omega)];exact hS.old A0 yH zL zA) (by rw[hB.block mb (by have:=(hS.links w A1).size;omega)];exact hS.old A1 sF zL zA)
 ·intro xs hx;exact⟨n6o hx,by rw[hx.length_eq,eG];exact vx⟩
 intro Ws a7 CI ws Xz hBs jA mq;have XA:=Xz.sizes;replace XA:=yb XA;have tB:=hBs.size;have XB:=Xz.under;replace XB:=yg XB;refine B 5 ?_;refine CJ.lp (α:=Rw×Nat) [0,2,7,8] (λp=>[(9,ab (p.2:Int))]) (λp=>[(b2,oC #[p.1.val (((eQ (kv.map (·.1))).take p.2).map (λk=>(⟨k,(bV kv k).getD 0⟩:Nd))).length] 51)]++(p.1.hp gH 240 (((eQ (kv.map (·.1))).take p.2).map (λk=>(⟨k,(bV kv k).getD 0⟩:Nd)))++[])) (λp=>p.2<=(eQ (kv.map (·.1))).length/\p.1.Fr Gh.no [ws,wk,w]/\p.1.Fit 2 (((eQ (kv.map (·.1))).take p.2).map (λk=>(⟨k,(bV kv k).getD 0⟩:Nd)))) (λp=>(eQ (kv.map (·.1))).length-p.2) (.nil,0) ⟨cV _,True.intro,rfl⟩ ?_;rintro⟨r,j⟩ ⟨hj,aK,ah⟩;dsimp only at hj aK ah ⊢;have bH:r.ge ws.heap.size:=Rw.ge_of aK A0;refine B 6 ?_;refine aG ?_ ?_
 ·intro ar;refine B 5 ?_;obtain⟨bo,oo,cs0,to,fG,rfl,fH,cJ,aW⟩:=jA.get aa;obtain⟨x,hx⟩:=ng (eQ (kv.map (·.1))) j aa;have agj:=mq _ rfl;dsimp only at agj;refine B 2 ?_;refine rv rfl rfl rfl (av (v:=ab x) isAgg3 rfl A0 cJ zL zA (by have:=nN (enc:=λx=>(aA x).toArray) (n:=1) aW hx rfl zB;simpa[aA]using this)) ?_;refine B 9 ?_;refine rq (ab ((bV kv x).getD 0)) (mr (ev:=ab) underlying165 underlying3 zeroValue3 hm (bB.old A2 sF zL zA) rfl rfl) (Qc _) ?_;refine B 1 ?_;refine iS underlying49 sizeOf240 zeroValue240 rfl rfl rfl rfl rfl rfl rfl ?_;refine yW ?_;intro Ek agk agl;refine jS (r:=r) (xs:=(((eQ (kv.map (·.1))).take j).map (λk=>(⟨k,(bV kv k).getD 0⟩:Nd)))) (zs:=[(⟨x,(bV kv x).getD 0⟩:Nd)]) (enc:=gH) (m:=2) (H0:=[(Ek,oC #[ab x,ab ((bV kv x).getD 0)] 240),(b2,oC #[r.val (((eQ (kv.map (·.1))).take j).map (λk=>(⟨k,(bV kv k).getD 0⟩:Nd))).length] 51)]) (H1:=[]) zX Xw P3 rfl rfl rfl rfl (bO.one (z:=(⟨x,(bV kv x).getD 0⟩:Nd)) P3 J0 underlying49 (bB.own (i:=0) rfl)) ah aK zJ (by simp only[eG,kQ,dC,fb];omega) ?_;intro rT agm agn Qe Qf;replace Qe:=yb Qe;refine B 1 ?_;refine jP (i:=1) rfl sizeOf49 rfl rfl rfl rfl (dO rfl) rfl ?_;refine xx ?_;refine PJ.again (Rw.row rT agm agn,j+1) ⟨by dsimp only;omega,Qe.elim (λh=>Rw.Fr_at aK h) (λh=>.inr h),by rw[nfo (λk=>(⟨k,(bV kv k).getD 0⟩:Nd)) hx];exact Qf⟩ zW zR (by rw[nfo (λk=>(⟨k,(bV kv k).getD 0⟩:Nd)) hx];rfl) rfl zJ
 intro ar;refine B 6 ?_;have cx:(eQ (kv.map (·.1))).take j=eQ (kv.map (·.1)):=jO aa;rw[cx]at ah ⊢;refine B 2 ?_;refine zse ?_;refine B 3 ?_;exact nP (H0:=[(b2,oC #[r.val ((eQ (kv.map (·.1))).map (λk=>(⟨k,(bV kv k).getD 0⟩:Nd))).length] 51)]) (H1:=[]) (r:=r) (.inl rfl) results66 bj A2 (by simp only[dV,gi,ef,cW,Over];exact⟨by omega,Rw.over (Rw.ge_of aK A2)⟩) rfl ah (Rw.ge_of aK A2) (by simp[Value.cells,pX])
theorem nif(w:World):Calls prog 66 #[.map none] w (aD w gH 2 240 [] (λs=>.agg #[s])):=by
 refine eN func66 ntmps66 ?_;refine B 3 ?_;refine yW ?_;intro b2 dx dq;refine B 6 ?_;refine nv (α:=Nat) (v:=λb:Nat=>.func (.func 193) #[] #[ptr b 0]) (Φ:=λ(W:World) (b:Nat) (w1:World)=>W.heap.size<=b/\w1.heap[b]? =some (oC #[.map none] 165)) call116 rfl rfl rfl (λW hS=>nok none W) ?_;rintro Wk bk wk vy Ej ⟨Qd,yH⟩;try dsimp only at Qd yH
 have Xx:=vy.under;replace Xx:=yg Xx;have agh:=(aT.1 yH).1;have Xy:=vy.sizes;replace Xy:=yb Xy;have hzk:=Ej.size;refine nG (enc:=aA) (m:=1) (t:=3) (xs:=[]) (v:=id) (first:=[]) (cap:=[]) rfl call115 rfl rfl rfl nz (λW hS=>nIm (f:=193) (cap:=[ptr bk 0]) (Pre:=λp=>p.length<=0) (Fin:=λxs=>xs=[]) (RO:=λk=>k=bk) call193 W ?_ ?_ ?_ [] ?_) ?_
 ·intro k hk;have h1:=(hS.links wk A0).size;subst hk;omega
 ·intro p hp;omega
 ·intro W2 hB;exact nYk bk W2 (by rw[hB.block bk (by have:=(hS.links wk A0).size;omega)];exact hS.old A0 yH zL zA)
 ·intro xs hx;exact(by subst hx;exact⟨by simp[eQ],by simp⟩)
 intro Ws a7 CI ws Xz hBs jA mq;have XA:=Xz.sizes;replace XA:=yb XA;have tB:=hBs.size;have XB:=Xz.under;replace XB:=yg XB;refine B 5 ?_;refine CJ.lp (α:=Nat) [2,8,9] (λp=>[]) (λp=>[(b2,oC #[ao] 51)]) (λp=>True) (λp=>0) 0 True.intro ?_;rintro p _;refine xv ?_;refine B 16 ?_;exact nP (H0:=[(b2,oC #[ao] 51)]) (H1:=[]) (r:=.nil) (.inl rfl) results66 bj A2 zkc rfl rfl True.intro rfl
def Iy (kv:List (Int×Bool)) (n:Int):List (Int×Bool):=dA kv n true
def XC (kv:List (Int×Bool)) (d:Int):List (Int×Bool):=(dH d).foldl Iy (dA kv (512+d) true)
def yI (ds:List Int):List (Int×Bool):=ds.foldl XC []
theorem nzm{ds:List Int}(hx:ds[j]? =some d):yI (ds.take (j+1))=XC (yI (ds.take j)) d:=by rw[np hx];simp[yI,Iw]
theorem nxl(hx:l[i]? =some n)(kv:List (Int×Bool)):(l.take (i+1)).foldl Iy kv=dA ((l.take i).foldl Iy kv) n true:=by rw[np hx];simp[Iy,Iw]
theorem J7(l:List Int)(i:Nat)(h:¬i<l.length)(kv:List (Int×Bool)):(l.take i).foldl Iy kv=l.foldl Iy kv:=by rw[jO aa]
theorem J8(l:List Int)(i:Nat)(h:¬i<l.length):yI (l.take i)=yI l:=by rw[jO aa]
def J9 (ns:List Nd) (i:Nat) (x:Nd):Prop:=1<=x.at_/\x.at_<=1023/\(∀y,0<i->ns[i-1]? =some y->y.at_<x.at_)/\dY x.pub/\bV (yI (dZ ns)) x.at_=some true
def Em (ns:List Nd):Prop:=∀i x,ns[i]? =some x->J9 ns i x
def En (ns:List Nd) (j:Nat):Prop:=∀i x,i<j->ns[i]? =some x->J9 ns i x
open Classical in
noncomputable def jF (ns:List Nd):Int:=if Em ns then 0 else 210
theorem nOl(h:Em ns):jF ns=0:=by unfold jF;rw[if_pos h]
theorem Ka:jF ns=0↔Em ns:=by unfold jF;split<;>simp_all
theorem njh(ns:List Nd):jF ns=0\/jF ns=210:=by unfold jF;split<;>simp
theorem n8c(h:En ns j)(hj:¬j<ns.length):0=jF ns:=by
 rw[nOl];exact λi x hx=>h i x UD hx
theorem nM(hx:ns[j]? =some x)(h:¬J9 ns j x):210=jF ns:=by
 unfold jF;rw[if_neg];exact λg=>h (g j x hx)
theorem En.next(h:En ns j)(hx:ns[j]? =some x)(hk:J9 ns j x):En ns (j+1):=by
 exact zRh
theorem n8m{zs:List Int}{x:Int}(h:x∈Go.Lib.compact zs):x∈zs:=by
 unfold Go.Lib.compact Go.Lib.compactUpTo at h;all_goals grind
theorem ntj(h:d∈dZ ns):dW d:=by
 have h1:=n8m h;have h2:=(List.mergeSort_perm (pA ns) _).mem_iff.1 h1;obtain⟨n,hn,rfl⟩:=bY.1 h2;all_goals grind
theorem nZl(d:Int):(dH d).length<=(512+d).toNat:=by unfold dH;rw[eG];exact nEn _
theorem n2j(o:Option Bool):(o.map Value.bool).getD (bG)= .bool (o.getD false):=by cases o<;>rfl
theorem nTc(o:Option Bool):o.getD false=true↔o=some true:=by cases o with|none=>simp|some b=>cases b<;>simp
theorem nKb(ns:List Nd)(hn:ns.length<=100000)(N:Nat)(a:Option Addr)(cp:Nat)(w:World)(hN:N<=w.heap.size)(aJ:ai fN 2 N w a ns):Calls prog 111 #[.agg #[.slice a ns.length cp]] w (aM w (ab (jF ns))):=by
 have vt:=n6l ns;refine eN func111 ntmps111 ?_;refine B 2 ?_;refine yX ?_;intro b1 w1 hb1 cF gA fX jq;refine B 5 ?_;refine J4 Value.bool rfl rfl ?_;refine yW ?_;intro ik Kb Kc;refine B 6 ?_;refine Kd ?_;refine nG (enc:=aA) (m:=1) (t:=3) (xs:=dZ ns) (v:=id) (first:=[]) (cap:=[]) rfl call186 rfl rfl rfl nz (λW hS=>n1b ns hn N a cp W cM (aJ.up (ak _) hS.sm)) ?_;intro Wm am cpm wm vY Ke Eo XD;have XE:=vY.sizes;replace XE:=yb XE;have hzm:=Ke.size;have XF:=vY.under;replace XF:=yg XF;refine B 5 ?_;refine CJ.lp (α:=Mp×Nat) [1,3,14,15] (λp=>[(16,ab (p.2:Int))]) (λp=>[(ik,p.1.obj Value.bool (yI ((dZ ns).take p.2)))]) (λp=>p.2<=(dZ ns).length/\p.1.Ok (yI ((dZ ns).take p.2))) (λp=>(dZ ns).length-p.2) (⟨[],0⟩,0) ⟨cV _,Mp.nil⟩ ?_;rintro⟨m,j⟩ ⟨hj,hm⟩;dsimp only at hj hm ⊢;refine B 6 ?_;refine aG ?_ ?_
 ·intro ar;refine B 5 ?_;obtain⟨bm,om,csm,tm,frm,rfl,ot,Qg,Qh⟩:=Eo.get aa;have ml:=XD _ rfl;dsimp only at ml;obtain⟨d,hx⟩:=ng (dZ ns) j aa;have hd:=ntj (cP hx);have hd1:=hd.1;have hd2:=hd.2;have im:=nZl d;refine B 2 ?_;refine rv rfl rfl rfl (av (v:=ab d) isAgg3 rfl A0 Qg zL zA (by have:=nN (enc:=λx=>(aA x).toArray) (n:=1) Qh hx rfl zB;simpa[aA]using this)) ?_;refine B 6 ?_;refine zvd ?_;intro Wp ap gI wp BJ Qi oS tC;have vZ:=BJ.sizes;replace vZ:=yb vZ;have hzp:=Qi.size;have v7:=BJ.under;replace v7:=yg v7;refine B 12 ?_;refine NF (i:=0) (ev:=Value.bool) (v:=true) rfl hm underlying307 underlying3 rfl rfl rfl rfl ?_;intro m2 bW;refine B 10 ?_;refine CJ.lp (α:=Mp×Nat) [1,3,14,15,16,28,29] (λp=>[(30,ab (p.2:Int))]) (λp=>[(ik,p.1.obj Value.bool (((dH d).take p.2).foldl Iy (dA (yI ((dZ ns).take j)) (512+d) true)))]) (λp=>p.2<=(dH d).length/\p.1.Ok (((dH d).take p.2).foldl Iy (dA (yI ((dZ ns).take j)) (512+d) true))) (λp=>(dH d).length-p.2) (m2,0) ⟨cV _,bW⟩ ?_;rintro⟨mi,i⟩ ⟨hi,yJ⟩;dsimp only at hi yJ ⊢;refine B 6 ?_;refine aG ?_ ?_
  ·intro aN;refine B 5 ?_;obtain⟨bq,oq,Qj,tq,Qk,rfl,oT,yK,pY⟩:=oS.get aa;have Ep:=tC _ rfl;dsimp only at Ep;obtain⟨n,hy⟩:=ng (dH d) i aa;refine B 2 ?_;refine zWd ?_;refine B 6 ?_;refine NF (i:=0) (ev:=Value.bool) (v:=true) rfl yJ underlying307 underlying3 rfl rfl rfl rfl ?_;intro m3 cK;refine B 7 ?_;refine PJ.again (m3,i+1) ⟨by dsimp only;omega,by rw[nxl hy];exact cK⟩ zW zR (by rw[nxl hy];rfl) rfl zJ
  intro aN;refine B 6 ?_;have eD:((dH d).take i).foldl Iy (dA (yI ((dZ ns).take j)) (512+d) true)=XC (yI ((dZ ns).take j)) d:=by rw[J7 _ _ aa];rfl
  rw[eD]at yJ ⊢;refine B 4 ?_;refine PJ.again (mi,j+1) ⟨by dsimp only;omega,by rw[nzm hx];exact yJ⟩ zW zR (by rw[nzm hx]) rfl zJ
 intro ar;refine B 7 ?_;have cx:=J8 (dZ ns) j aa;rw[cx]at hm ⊢;refine B 2 ?_;refine ax (.slice a ns.length cp) ?_;refine B 5 ?_;refine CJ.lp (α:=Nat) [1,3,39,40] (λj=>[(41,ab (j:Int))]) (λj=>[(ik,m.obj Value.bool (yI (dZ ns)))]) (λj=>j<=ns.length/\En ns j) (λj=>ns.length-j) 0 ⟨cV _,λi x hi=>absurd hi aa⟩ ?_;rintro j ⟨hj,ea⟩;refine B 6 ?_;refine aG ?_ ?_
 ·intro dc;refine B 5 ?_;obtain⟨bo,oo,cs0,to,fG,rfl,fH,cJ,aW⟩:=aJ.get aa;obtain⟨x,hx⟩:=ng ns j aa;refine B 3 ?_;refine ax (.agg (fN x)) ?_;refine B 1 ?_;refine yW ?_;intro gG yt DC;refine B 5 ?_;by_cases h1:x.at_<1
  ·refine eA 34 (sp:=(_::_::(some cX)::_)) (k:=?_);exact XG
  by_cases h2:1023<x.at_
  ·refine eA 34 (sp:=(_::_::(some bG)::_::_::_::(some cX)::_)) (k:=?_);exact XG
  obtain⟨e,he⟩:∃e,(if dY x.pub then(0:Int)else 40)=e:=⟨_,rfl⟩;by_cases h3:j=0/\¬e=0
  ·refine eA 34 (pb:=by exact zU 27 (k:=by exact aU (nf (v:=ab e) call65 rfl rfl (λW hS _=>by rw[<-he];exact nO _ W) (λ_=>rfl)) (aU (X.v (RV.re (v':=cX) (cQ rfl rfl) (vb oI))) zT))) (sp:=(_::_::(some bG)::_::_::_::(some bG)::_::_::_::(some bG)::_)) (k:=?_);exact XG
  by_cases h4:j=0
  ·refine eA 34 (pb:=by exact zU 27 (k:=by exact aU (nf (v:=ab e) call65 rfl rfl (λW hS _=>by rw[<-he];exact nO _ W) (λ_=>rfl)) (aU (X.v (RV.re (v':=bG) (cQ rfl rfl) (vb oI))) zT))) (sp:=(_::_::(some bG)::_::_::_::(some bG)::_::_::_::(some bG)::_)) (k:=?_);refine zZd ?_;refine B 4 ?_;refine aG ?_ ?_
   ·intro jo;refine B 11 ?_;exact zUf
   intro jo;exact zNg
  obtain⟨y,hy⟩:=ng ns (j-1) aa;by_cases h5:x.at_<=y.at_
  ·refine eA 34 (pb:=by exact zU 20 (k:=by exact aU (X.v (av (v:=ab y.at_) isAgg3 rfl A2 cJ zL zA zPc)) zT)) (sp:=[_,_,some bG,_,_,_,some bG,_,_,_,some cX,_,_,_,_,some (.slice (some ⟨bo,oo,none⟩) ns.length cp),_,_,_,_,_,some cX,_,_,_,_,_,_,_,_,_,_,_,_]) (k:=?_);exact XG
  by_cases h6:¬e=0
  ·refine eA 34 (pb:=by exact zU 20 (k:=by exact aU (X.v (av (v:=ab y.at_) isAgg3 rfl A2 cJ zL zA zPc)) (zU 6 (k:=by exact aU (nf (v:=ab e) call65 rfl rfl (λW hS _=>by rw[<-he];exact nO _ W) (λ_=>rfl)) (aU (X.v (RV.re (v':=cX) (cQ rfl rfl) (vb oI))) zT))))) (sp:=[_,_,some bG,_,_,_,some bG,_,_,_,some cX,_,_,_,_,some (.slice (some ⟨bo,oo,none⟩) ns.length cp),_,_,_,_,_,some bG,_,_,_,_,_,_,_,_,_,_,_,_]) (k:=?_);exact XG
  refine eA 34 (pb:=by exact zU 20 (k:=by exact aU (X.v (av (v:=ab y.at_) isAgg3 rfl A2 cJ zL zA zPc)) (zU 6 (k:=by exact aU (nf (v:=ab e) call65 rfl rfl (λW hS _=>by rw[<-he];exact nO _ W) (λ_=>rfl)) (aU (X.v (RV.re (v':=bG) (cQ rfl rfl) (vb oI))) zT))))) (sp:=[_,_,some bG,_,_,_,some bG,_,_,_,some cX,_,_,_,_,some (.slice (some ⟨bo,oo,none⟩) ns.length cp),_,_,_,_,_,some bG,_,_,_,_,_,_,_,_,_,_,_,_]) (k:=?_);refine zZd ?_;refine B 4 ?_;refine aG ?_ ?_
  ·intro ij;refine B 11 ?_;exact zUf
  intro ij;exact zNg
 intro dc;refine B 11 ?_;exact zUf
def jT (kv:List (Int×Int)) (n:Int):List (Int×Int):=ji kv n
def oU (kv:List (Int×Int)) (d:Int):List (Int×Int):=(dH d).foldl jT (jT kv (512+d))
theorem n4f(hx:l[i]? =some n)(kv:List (Int×Int)):(l.take (i+1)).foldl jT kv=ji ((l.take i).foldl jT kv) n:=by rw[np hx];simp[jT,Iw]
theorem nZn(h:¬i<l.length)(kv:List (Int×Int)):(l.take i).foldl jT kv=l.foldl jT kv:=by rw[jO aa]
theorem XH(kv:List (Int×Int))(d:Int):(oU kv d).length<=kv.length:=by
 have key:∀(l:List Int) (kv:List (Int×Int)),(l.foldl jT kv).length<=kv.length:=by
  intro l;induction l with
  |nil=>intro kv;exact ak _
  |cons n l ih=>intro kv;exact dG (ih _) (nVh kv n).length_le
 exact dG (key _ _) (nVh kv _).length_le
theorem n2g(kv:List (Int×Int)):(pX kv).length=kv.length:=by unfold pX;rw[eG,JY,eG]
theorem nng(ns:List Nd)(hn:ns.length<=100000)(N:Nat)(a:Option Addr)(cp:Nat)(w:World)(hN:N<=w.heap.size)(aJ:ai fN 2 N w a ns)(gO:jF ns=210)(d:Int)(mem:Bool):Calls prog 64 #[.agg #[.slice a ns.length cp],ab d,.bool mem] w (aM w (.tuple #[.map none,ao,ab 210])):=by
 refine eN func64 ntmps64 ?_;refine B 2 ?_;refine yX ?_;intro b3 w3 hb3 cK fF ez eP;refine B 8 ?_;refine Kd ?_;refine zxe ?_;refine B 6 ?_;refine ax cX ?_;refine B 13 ?_;exact cC (.inl rfl) results64 bj A1 trivial rfl
theorem nDk(ns:List Nd)(hn:ns.length<=100000)(N:Nat)(a:Option Addr)(cp:Nat)(w:World)(hN:N<=w.heap.size)(aJ:ai fN 2 N w a ns)(gO:jF ns=0)(d:Int)(hd:dW d)(rW:bV (dL ns) (512+d)=none):Calls prog 64 #[.agg #[.slice a ns.length cp],ab d,cX] w (aM w (.tuple #[.map none,ao,ab 200])):=by
 have hd1:=hd.1;have hd2:=hd.2;refine eN func64 ntmps64 ?_;refine B 2 ?_;refine yX ?_;intro b3 w3 hb3 cK fF ez eP;refine B 8 ?_;refine znf ?_;refine Er ?_;refine Kd ?_;refine zqd ?_;intro bf m Es NA hm;replace Es:=yb Es;refine B 9 ?_;refine zGe ?_;refine Pd ?_;refine xv ?_;refine B 5 ?_;refine rq cX (iT rfl) (by rw[rW];rfl) ?_;refine B 14 ?_;exact cC (.inl rfl) results64 bj A1 Au rfl
theorem n4e(ns:List Nd)(hn:ns.length<=100000)(N:Nat)(a:Option Addr)(cp:Nat)(w:World)(hN:N<=w.heap.size)(aJ:ai fN 2 N w a ns)(gO:jF ns=0)(d:Int)(hd:dW d)(mem:Bool)(jU:mem=true->(bV (dL ns) (512+d)).isSome=true):Calls prog 64 #[.agg #[.slice a ns.length cp],ab d,.bool mem] w (NI w ab (oU (dL ns) d) aA 1 (dH d) (λmp s=>.tuple #[mp,s,ab 0])):=by
 have hd1:=hd.1;have hd2:=hd.2;have im:=nZl d;refine eN func64 ntmps64 ?_;refine B 2 ?_;refine yX ?_;intro b3 w3 hb3 cK fF ez eP;refine B 8 ?_;refine znf ?_;refine Er ?_;refine Kd ?_;refine zqd ?_;intro bf m Es NA hm;replace Es:=yb Es;refine B 9 ?_;refine zGe ?_;refine Pd ?_;refine xv ?_;refine B 4 ?_;refine ni (t:=37) rfl (λar=>?_) (λar=>?_)
 ·replace ar:=ya ar;refine B 1 ?_;refine rq bG (iT rfl) (vb (by rw[jU eC];rfl)) ?_;refine B 10 ?_;refine zvd ?_;intro Wp ap gI wp BJ Qi oS tC;have vZ:=BJ.sizes;replace vZ:=yb vZ;have hzp:=Qi.size;have v7:=BJ.under;replace v7:=yg v7;refine B 9 ?_;refine Wg ?_;refine B 8 ?_;refine zId ?_;intro m1 cF;refine B 11 ?_;refine zud ?_;rintro⟨mi,i⟩ ⟨hi,yJ⟩;dsimp only at hi yJ ⊢;refine B 6 ?_;refine aG ?_ ?_
  ·intro aN;exact zmg
  intro aN;exact zeg
 replace ar:=ya ar;refine B 12 ?_;refine zvd ?_;intro Wp ap gI wp BJ Qi oS tC;have vZ:=BJ.sizes;replace vZ:=yb vZ;have hzp:=Qi.size;have v7:=BJ.under;replace v7:=yg v7;refine B 9 ?_;refine Wg ?_;refine B 8 ?_;refine zId ?_;intro m1 cF;refine B 11 ?_;refine zud ?_;rintro⟨mi,i⟩ ⟨hi,yJ⟩;dsimp only at hi yJ ⊢;refine B 6 ?_;refine aG ?_ ?_
 ·intro dc;exact zmg
 intro dc;exact zeg
theorem Kf(ns:List Nd)(hn:ns.length<=100000)(N:Nat)(a:Option Addr)(cp:Nat)(w:World)(hN:N<=w.heap.size)(aJ:ai fN 2 N w a ns)(gO:jF ns=210)(d p:Int):Calls prog 34 #[.agg #[.slice a ns.length cp],ab d,ab p] w (aD w gH 2 240 [] (λs=>.tuple #[.agg #[s],ab 210])):=by
 refine eN func34 ntmps34 ?_;refine B 2 ?_;refine yX ?_;intro b3 w3 hb3 cK fF ez eP;refine B 1 ?_;refine yW ?_;intro b6 jD qu;refine NJ ?_;refine call call64 rfl rfl rfl (λW hS=>nng ns hn N a cp W cM (aJ.up (ak _) hS.sm) gO d false) ?_;refine PE ?_;refine B 13 ?_;exact nP (enc:=gH) (m:=2) (t:=240) (xs:=[]) (H0:=_) (H1:=[]) (r:=.nil) (.inl rfl) results34 bj A1 zbc rfl rfl True.intro (dV _).symm
theorem Kg(ns:List Nd)(hn:ns.length<=100000)(N:Nat)(a:Option Addr)(cp:Nat)(w:World)(hN:N<=w.heap.size)(aJ:ai fN 2 N w a ns)(gO:jF ns=0)(d p:Int)(hd:dW d)(hgk:(if dY p then(0:Int)else 40)=40):Calls prog 34 #[.agg #[.slice a ns.length cp],ab d,ab p] w (aD w gH 2 240 [] (λs=>.tuple #[.agg #[s],ab 50])):=by
 have hd1:=hd.1;have hd2:=hd.2;refine eN func34 ntmps34 ?_;refine B 2 ?_;refine yX ?_;intro b3 w3 hb3 cK fF ez eP;refine B 1 ?_;refine yW ?_;intro b6 jD qu;refine NJ ?_;refine zPd ?_;intro bm m a8 NK Wc wc Et Ql Qm BK qS yL hm uw BL;replace qS:=yb qS;simp only[aY,and_true]at yL;have AA:=Ql.size;have Eu:=Et.sizes;replace Eu:=yb Eu;have Ev:=Et.under;replace Ev:=yg Ev;refine B 13 ?_;refine ax bG ?_;refine B 9 ?_;refine call call65 rfl rfl rfl (λW hS=>by rw[<-hgk];exact nO p W) (v:=ab 40) ?_;refine XI ?_;exact nP (enc:=gH) (m:=2) (t:=240) (xs:=[]) (H0:=_) (H1:=[]) (r:=.nil) (.inl rfl) results34 bj A2 zbc rfl rfl True.intro (dV _).symm
theorem Qo(ns:List Nd)(hn:ns.length<=100000)(N:Nat)(a:Option Addr)(cp:Nat)(w:World)(hN:N<=w.heap.size)(aJ:ai fN 2 N w a ns)(gO:jF ns=0)(d p:Int)(hd:dW d)(hn1:ns.length<100000)(hgk:(if dY p then(0:Int)else 40)=0):Calls prog 34 #[.agg #[.slice a ns.length cp],ab d,ab p] w (aD w gH 2 240 (pX (dA (oU (dL ns) d) (512+d) p)) (λs=>.tuple #[.agg #[s],ab 0])):=by
 have hd1:=hd.1;have hd2:=hd.2;refine eN func34 ntmps34 ?_;refine B 2 ?_;refine yX ?_;intro b3 w3 hb3 cK fF ez eP;refine B 1 ?_;refine yW ?_;intro b6 jD qu;refine NJ ?_;refine zPd ?_;intro bm m a8 NK Wc wc Et Ql Qm BK qS yL hm uw BL;replace qS:=yb qS;simp only[aY,and_true]at yL;have AA:=Ql.size;have Eu:=Et.sizes;replace Eu:=yb Eu;have Ev:=Et.under;replace Ev:=yg Ev;refine B 13 ?_;refine ax bG ?_;refine B 9 ?_;refine call call65 rfl rfl rfl (λW hS=>by rw[<-hgk];exact nO p W) (v:=ab 0) ?_;refine ax bG ?_;refine B 11 ?_;refine NF (i:=0) (ev:=ab) (v:=p) rfl hm underlying165 underlying3 rfl rfl rfl rfl ?_;intro m2 bW;refine B 5 ?_;refine UE (enc:=gH) (m:=2) (t:=240) (xs:=pX (dA (oU (dL ns) d) (512+d) p)) (v:=λs=>.agg #[s]) (first:=[]) (cap:=[]) rfl call66 rfl rfl rfl (λW hS=>n3f (by have h1:=Xo (oU (dL ns) d) (512+d) p;have h2:=XH (dL ns) d;have h3:=UB ns;omega) bm m2 bW W (hS.own _ A0)) ?_;intro r aK ah;refine zre ?_;refine B 4 ?_;exact nP (enc:=gH) (m:=2) (t:=240) (xs:=pX (dA (oU (dL ns) d) (512+d) p)) (H0:=[(bm,m2.obj ab (dA (oU (dL ns) d) (512+d) p)),(b6,oC #[r.val (pX (dA (oU (dL ns) d) (512+d) p)).length] 51)]) (H1:=[]) (r:=r) (.inl rfl) results34 bj A2 zMb rfl ah (Rw.ge_of aK A2) z4b
theorem nwo(ns:List Nd)(hn:ns.length<=100000)(N:Nat)(a:Option Addr)(cp:Nat)(w:World)(hN:N<=w.heap.size)(aJ:ai fN 2 N w a ns)(gO:jF ns=210)(d:Int):Calls prog 35 #[.agg #[.slice a ns.length cp],ab d] w (aD w gH 2 240 [] (λs=>.tuple #[.agg #[s],ab 210])):=by
 refine eN func35 ntmps35 ?_;refine B 2 ?_;refine yX ?_;intro b2 w2 da bW eU dx dq;refine B 1 ?_;refine yW ?_;intro b4 ja jb;refine zmf ?_;exact zwg
theorem n0o(ns:List Nd)(hn:ns.length<=100000)(N:Nat)(a:Option Addr)(cp:Nat)(w:World)(hN:N<=w.heap.size)(aJ:ai fN 2 N w a ns)(gO:jF ns=0)(d:Int)(hd:dW d)(rW:bV (dL ns) (512+d)=none):Calls prog 35 #[.agg #[.slice a ns.length cp],ab d] w (aD w gH 2 240 [] (λs=>.tuple #[.agg #[s],ab 200])):=by
 refine eN func35 ntmps35 ?_;refine B 2 ?_;refine yX ?_;intro b2 w2 da bW eU dx dq;refine B 1 ?_;refine yW ?_;intro b4 ja jb;refine NJ ?_;refine zRe ?_;exact zwg
theorem nIp(ns:List Nd)(hn:ns.length<=100000)(N:Nat)(a:Option Addr)(cp:Nat)(w:World)(hN:N<=w.heap.size)(aJ:ai fN 2 N w a ns)(gO:jF ns=0)(d:Int)(hd:dW d)(jU:(bV (dL ns) (512+d)).isSome=true):Calls prog 35 #[.agg #[.slice a ns.length cp],ab d] w (aD w gH 2 240 (pX (oU (dL ns) d)) (λs=>.tuple #[.agg #[s],ab 0])):=by
 have hd1:=hd.1;have hd2:=hd.2;refine eN func35 ntmps35 ?_;refine B 2 ?_;refine yX ?_;intro b2 w2 da bW eU dx dq;refine B 1 ?_;refine yW ?_;intro b4 ja jb;refine NJ ?_;refine zQd ?_;intro bm m a8 NK Wc wc Et Ql Qm BK qS yL hm uw BL;replace qS:=yb qS;simp only[aY,and_true]at yL;have AA:=Ql.size;have Eu:=Et.sizes;replace Eu:=yb Eu;have Ev:=Et.under;replace Ev:=yg Ev;refine B 12 ?_;refine UE (enc:=gH) (m:=2) (t:=240) (xs:=pX (oU (dL ns) d)) (v:=λs=>.agg #[s]) (first:=[]) (cap:=[]) rfl call66 rfl rfl rfl (λW hS=>n3f (by have h2:=XH (dL ns) d;have h3:=UB ns;omega) bm m hm W (hS.own _ A0)) ?_;intro r aK ah;refine B 1 ?_;refine zre ?_;refine B 4 ?_;exact nP (enc:=gH) (m:=2) (t:=240) (xs:=pX (oU (dL ns) d)) (H0:=[(bm,m.obj ab (oU (dL ns) d)),(b4,oC #[r.val (pX (oU (dL ns) d)).length] 51)]) (H1:=[]) (r:=r) (.inl rfl) results35 bj A2 zMb rfl ah (Rw.ge_of aK A2) z4b
theorem Qp(x:Int)(hx:dY x)(w:World):Calls prog 224 #[ab x] w (aM w (bG)):=by
 refine eN func224 ntmps224 ?_;refine B 8 ?_;refine call call65 rfl rfl rfl (λW hS=>by have:=nO x W;rw[if_pos hx]at this;exact this) ?_;refine ax bG ?_;refine B 4 ?_;refine aF results224 rfl A0 ?_;rfl
theorem nvj(w:World)(l:List Int)(mw:∀y∈l,dY y)(hl:l.length<=1000)(NP:Nat)(ap:Option Addr)(gI:Nat)(mx:ai encI 1 NP w ap l)(CK:NP<=w.heap.size):Calls prog 275 #[.slice ap l.length gI,.func (.func 224) #[] #[]] w (aM w (ab (-1))):=by
 refine eN func275 ntmps275 ?_;refine B 14 ?_;refine CJ.lp (α:=Nat) [0,1,7] (λj=>[(8,ab (j:Int))]) (λj=>[]) (λj=>j<=l.length) (λj=>l.length-j) 0 (cV _) ?_;rintro j hj;refine B 6 ?_;refine aG ?_ ?_
 ·intro ar;refine B 11 ?_;obtain⟨b0,XJ,cs0,t0,fG,rfl,yM,Kh,aW⟩:=mx.get aa;obtain⟨x,hx⟩:=ng l j aa;refine B 5 ?_;refine rv rfl rfl rfl (av (v:=ab x) isAgg3 rfl A0 Kh zL trivial (nN aW hx rfl zB)) ?_;refine Bu (f:=224) (cap:=[]) rfl call224 rfl rfl rfl (λW hS=>Qp x (mw x (cP hx)) W) ?_;refine B 10 ?_;exact Jm
 intro ar;refine B 11 ?_;refine aF results275 rfl A0 ?_;rfl
theorem nEh(w:World)(l:List Int)(mw:∀y∈l,dY y)(hl:l.length<=1000)(NP:Nat)(ap:Option Addr)(gI:Nat)(mx:ai encI 1 NP w ap l)(CK:NP<=w.heap.size):Calls prog 223 #[.slice ap l.length gI,.func (.func 224) #[] #[]] w (aM w (bG)):=by
 refine eN func223 ntmps223 ?_;refine B 9 ?_;refine call call275 rfl rfl rfl (λW hS=>nvj W l mw hl NP ap gI (mx.up (ak _) (hS.same A0 CK zI trivial)) (dG CK (hS.links w A0).size)) ?_;refine ax bG ?_;refine B 4 ?_;refine aF results223 rfl A0 ?_;rfl
theorem nqn:∀(k n:Nat),2^k<=n->n<2^(k+1)->(oj n).length=k:=
 by intro x;induction x<;>(intros;grind [Xf,Uw])
theorem nik(hd:dW d):(dH d).length=9:=by
 have h1:=hd.1;have h2:=hd.2;unfold dH;rw[eG];exact nqn 9 _ aa aa
theorem nDp(hd:dW d):(jz d).length=9:=by
 have h1:=hd.1;have h2:=hd.2;unfold jz;rw[eG];exact nqn 9 _ aa aa
def ux (kv:List (Int×Int)) (p:Int×Int):List (Int×Int):=dA kv p.1 p.2
def qT (kv:List (Int×Int)) (d:Int) (l:List Int):List (Int×Int):=((dH d).zip (l.drop 1)).foldl ux (dA (oU kv d) (512+d) ((l[0]?).getD 0))
theorem npk{z:List (Int×Int)}{v:Int}(hz:z[i]? =some (n,v))(kv:List (Int×Int)):(z.take (i+1)).foldl ux kv=dA ((z.take i).foldl ux kv) n v:=by rw[np hz];simp[ux,Iw]
theorem Ew(z:List (Int×Int)):∀kv:List (Int×Int),(z.foldl ux kv).length<=kv.length+z.length:=by induction z<;>grind [ux,Xo]
theorem n9l(hd:dW d)(l:List Int):(qT kv d l).length<=kv.length+10:=by grind [qT,Ew,dH,dA,oU,Xo,XH,nik]
theorem Qq{A B:List Int}{v:Int}(h1:A[i]? =some n)(h2:B[i+1]? =some v):(A.zip (B.drop 1))[i]? =some (n,v):=by grind
theorem ntp(ns:List Nd)(hn:ns.length<=100000)(N:Nat)(a:Option Addr)(cp:Nat)(w:World)(hN:N<=w.heap.size)(aJ:ai fN 2 N w a ns)(gO:jF ns=210)(d:Int)(l:List Int)(mw:∀y∈l,dY y)(hl:l.length<=1000)(NP:Nat)(ap:Option Addr)(gI:Nat)(mx:ai encI 1 NP w ap l)(CK:NP<=w.heap.size):Calls prog 154 #[.agg #[.slice a ns.length cp],ab d,.slice ap l.length gI] w (aD w gH 2 240 [] (λs=>.tuple #[.agg #[s],ab 210])):=by
 refine eN func154 ntmps154 ?_;refine B 2 ?_;refine yX ?_;intro b3 w3 hb3 cK fF ez eP;refine B 1 ?_;refine yW ?_;intro b6 jD qu;refine zmf ?_;exact z1g
theorem Ex(ns:List Nd)(hn:ns.length<=100000)(N:Nat)(a:Option Addr)(cp:Nat)(w:World)(hN:N<=w.heap.size)(aJ:ai fN 2 N w a ns)(gO:jF ns=0)(d:Int)(hd:dW d)(rW:bV (dL ns) (512+d)=none)(l:List Int)(mw:∀y∈l,dY y)(hl:l.length<=1000)(NP:Nat)(ap:Option Addr)(gI:Nat)(mx:ai encI 1 NP w ap l)(CK:NP<=w.heap.size):Calls prog 154 #[.agg #[.slice a ns.length cp],ab d,.slice ap l.length gI] w (aD w gH 2 240 [] (λs=>.tuple #[.agg #[s],ab 200])):=by
 refine eN func154 ntmps154 ?_;refine B 2 ?_;refine yX ?_;intro b3 w3 hb3 cK fF ez eP;refine B 1 ?_;refine yW ?_;intro b6 jD qu;refine NJ ?_;refine zRe ?_;exact z1g
theorem Ey(ns:List Nd)(hn:ns.length<=100000)(N:Nat)(a:Option Addr)(cp:Nat)(w:World)(hN:N<=w.heap.size)(aJ:ai fN 2 N w a ns)(gO:jF ns=0)(d:Int)(hd:dW d)(jU:(bV (dL ns) (512+d)).isSome=true)(l:List Int)(mw:∀y∈l,dY y)(hl:l.length<=1000)(NP:Nat)(ap:Option Addr)(gI:Nat)(mx:ai encI 1 NP w ap l)(CK:NP<=w.heap.size)(Qr:l.length=10)(hn1:ns.length<90000):Calls prog 154 #[.agg #[.slice a ns.length cp],ab d,.slice ap l.length gI] w (aD w gH 2 240 (pX (qT (dL ns) d l)) (λs=>.tuple #[.agg #[s],ab 0])):=by
 have hd1:=hd.1;have hd2:=hd.2;have h9:=nik hd;obtain⟨b0,XJ,cs0,t0,fG,rfl,yM,Kh,aW⟩:=mx.get aa;obtain⟨x0,sG⟩:=ng l 0 aa;refine eN func154 ntmps154 ?_;refine B 2 ?_;refine yX ?_;intro b3 w3 hb3 cK fF ez eP;refine B 1 ?_;refine yW ?_;intro b6 jD qu;refine NJ ?_;refine zQd ?_;intro bm m a8 NK Wc wc Et Ql Qm BK qS yL hm uw BL;replace qS:=yb qS;simp only[aY,and_true]at yL;have AA:=Ql.size;have Eu:=Et.sizes;replace Eu:=yb Eu;have Ev:=Et.under;replace Ev:=yg Ev;refine B 13 ?_;refine ax bG ?_;refine B 10 ?_;refine rq bG (cQ rfl rfl) (by rw[Qr];rfl) ?_;refine B 2 ?_;refine call call223 rfl rfl rfl (λW hS=>nEh W l mw hl NP _ gI (mx.up (ak _) (hS.same A2 CK zI Au)) (dG CK (hS.links w A2).size)) ?_;refine B 13 ?_;refine rv rfl rfl rfl (av (v:=ab x0) isAgg3 rfl A2 Kh zL zA (nN aW sG rfl zB)) ?_;refine NF (i:=0) (ev:=ab) (v:=x0) rfl hm underlying165 underlying3 rfl rfl rfl rfl ?_;intro m2 bW;refine B 11 ?_;refine CJ.loop (α:=Mp×Nat) (λp=>[(2,.slice (some ⟨b0,XJ,none⟩) l.length gI),(6,ptr b6 0),(8,.map (some bm)),(37,.slice a8 (dH d).length NK),(38,ab ((dH d).length:Int)),(39,ab (p.2:Int))]) (λp=>[(bm,p.1.obj ab ((((dH d).zip (l.drop 1)).take p.2).foldl ux (dA (oU (dL ns) d) (512+d) ((l[0]?).getD 0)))),(b6,oC #[ao] 51)]) (λp=>[wc,w3,w]) (λp=>Gh.no) (λp=>p.2<=(dH d).length/\p.1.Ok ((((dH d).zip (l.drop 1)).take p.2).foldl ux (dA (oU (dL ns) d) (512+d) ((l[0]?).getD 0)))) (λp=>(dH d).length-p.2) (m2,0) ⟨cV _,by simpa[sG]using bW⟩ zR (by simp[sG,Value.cells]) rfl zJ ?_
 rintro⟨mi,i⟩ ⟨hi,yJ⟩;dsimp only at hi yJ ⊢;refine B 6 ?_;refine aG ?_ ?_
 ·intro ar;refine B 5 ?_;obtain⟨bq,oq,Qj,tq,Qk,rfl,oT,yK,pY⟩:=uw.get aa;have Ep:=BL _ rfl;dsimp only at Ep;obtain⟨n,hy⟩:=ng (dH d) i aa;obtain⟨x,hx⟩:=ng l (i+1) aa;have hz:=Qq hy hx;refine B 3 ?_;refine zWd ?_;refine B 11 ?_;refine rv rfl rfl rfl (av (v:=ab x) isAgg3 rfl A2 Kh zL zA (nN aW hx aa zB)) ?_;refine NF (i:=0) (ev:=ab) (v:=x) rfl yJ underlying165 underlying3 rfl rfl rfl rfl ?_;intro m3 cK;refine B 7 ?_;refine PJ.again (m3,i+1) ⟨by dsimp only;omega,by rw[npk hz];exact cK⟩ zW zR (by rw[npk hz];rfl) rfl zJ
 intro ar;refine B 6 ?_;have BM:((dH d).zip (l.drop 1)).length=9:=by rw[List.length_zip,BN];omega
 have cx:((((dH d).zip (l.drop 1)).take i).foldl ux (dA (oU (dL ns) d) (512+d) ((l[0]?).getD 0)))=qT (dL ns) d l:=by rw[jO aa];rfl
 rw[cx]at yJ ⊢
 rename Mp=>m4
 rename Mp.Ok (qT (dL ns) d l) m4=>Cu
 refine B 2 ?_;refine UE (enc:=gH) (m:=2) (t:=240) (xs:=pX (qT (dL ns) d l)) (v:=λs=>.agg #[s]) (first:=[]) (cap:=[]) rfl call66 rfl rfl rfl (λW hS=>n3f (by have h2:=n9l (kv:=dL ns) hd l;have h3:=UB ns;omega) bm m4 Cu W (hS.own _ A0)) ?_;intro r aK ah;refine zre ?_;refine B 4 ?_;exact nP (enc:=gH) (m:=2) (t:=240) (xs:=pX (qT (dL ns) d l)) (H0:=[(bm,m4.obj ab (qT (dL ns) d l)),(b6,oC #[r.val (pX (qT (dL ns) d l)).length] 51)]) (H1:=[]) (r:=r) (.inl rfl) results154 bj A2 zMb rfl ah (Rw.ge_of aK A2) z4b
def fg (kv:List (Int×Int)):Nat->Int->List Int
 |0,_=>[]
 |k+1,n=>if(bV kv n).isSome=true then[n]else if 512<=n then[]else fg kv k (2*n)++fg kv k (2*n+1)
theorem n5h(h:(bV kv n).isSome=true):fg kv (k+1) n=[n]:=by simp[fg,h]
theorem nTg(h:¬(bV kv n).isSome=true)(h2:512<=n):fg kv (k+1) n=[]:=by simp only[fg];rw[if_neg h,if_pos h2]
theorem n1e(h:¬(bV kv n).isSome=true)(h2:¬512<=n):fg kv (k+1) n=fg kv k (2*n)++fg kv k (2*n+1):=by simp only[fg];rw[if_neg h,if_neg h2]
def tD (kv:List (Int×Int)) (k:Nat) (n:Int) (i:Nat):List Int:=(List.range i).flatMap λ(j:Nat)=>fg kv k (2*n+(j:Int))
theorem nUh(kv:List (Int×Int))(k:Nat)(n:Int)(i:Nat):tD kv k n (i+1)=tD kv k n i++fg kv k (2*n+(i:Int)):=by simp[tD,List.range_succ]
theorem n2n(kv:List (Int×Int))(k:Nat)(n:Int):tD kv k n 2=fg kv k (2*n)++fg kv k (2*n+1):=by simp[tD,List.range_succ]
theorem Ki{p:List Int}(hi:i<2)(h:p <+:fg kv k (2*n+(i:Int))):tD kv k n i++p <+:tD kv k n 2:=by
 have h1:tD kv k n i++p <+:tD kv k n (i+1):=by rw[nUh];exact(List.prefix_append_right_inj _).2 h
 all_goals grind [nUh]
theorem Qs(n:Int)(i:Nat)(h:i<2):(#[ab (2*n),ab (2*n+1)]:Array Value)[(i:Int).toNat*1]? =some (ab (2*n+(i:Int))):=by
 rcases(show i=0\/i=1 by omega)with rfl|rfl<;>simp
def XK (bx by_ mb:Nat):aE:=λj=>j=bx\/j=by_\/j=mb
def Qt (kv:List (Int×Int)) (k:Nat):Prop:=∀(n:Int) (bx by_ mb:Nat) (m:Mp) (W:World),1<=n->n<1024->1024<=n*2^k->m.Ok kv->W.heap[bx]? =some (oC #[.map (some mb)] 165)->W.heap[by_]? =some (oC #[ab n] 3)->W.heap[mb]? =some (m.obj ab kv)->
 uc prog 327 [ptr bx 0,ptr by_ 0] aA (Cs (fg kv k n)) (Is (fg kv k n)) (λ_=>False) (XK bx by_ mb) W
theorem ngp(kv:List (Int×Int)):Qt kv 0:=λn bx by_ mb m W h1 h2 h3=>by omega
theorem nGe(mp:Option Nat)(n:Int)(w:World):Calls prog 304 #[.map mp,ab n] w (cN w (λq:Nat×Nat=>.func (.func 327) #[] #[ptr q.1 0,ptr q.2 0]) (λq w1=>w.heap.size<=q.1/\w.heap.size<=q.2/\w1.heap[q.1]? =some (oC #[.map mp] 165)/\w1.heap[q.2]? =some (oC #[ab n] 3))):=by
 refine eN func304 ntmps304 ?_;refine B 2 ?_;refine yX ?_;intro b2 w2 da bW eU dx dq;refine yX ?_;intro b3 w3 hb3 cK fF ez eP;refine B 10 ?_;refine rS (b2,b3) results304 rfl A2 rfl ?_;try simp only[ae]at dx ez
 have Xa:=dx.1;have ank:=ez.1;try have anl:=ez.2.1
 exact λW hS=>⟨by omega,by omega,hS.old A1 da bW trivial,hS.old A0 hb3 cK trivial⟩
theorem nkk{n l Dk:Nat}{rec:Loop}{ms:List Mk}(h1:n<=Dk)(h2:n<=l)(h:BO n ms):BO n ((l,rec,Dk)::ms):=by
 intro q hq;rcases bX.1 hq with rfl|hq
 ·exact⟨h2,h1⟩
 exact h q hq
theorem nnp{i:Int}(h:1024<=n*2^(k+1))(hi:0<=i):1024<=(2*n+i)*2^k:=by
 rw[Int.pow_succ]at h;have hp:(0:Int)<2^k:=Int.pow_pos zB;have h9:n*(2^k*2)=(2*n)*2^k:=by rw[Int.mul_comm (2^k) 2,<-Int.mul_assoc,Int.mul_comm n 2]
 have h8:(2*n+i)*2^k=(2*n)*2^k+i*2^k:=Int.add_mul _ _ _;have h7:0<=i*2^k:=Int.mul_nonneg hi aa;omega
theorem CJ.perm{C:Cx}{Q:aZ}{E:Env}{D:List Deferred}{G:Gh}{H':ad}{c:Code}(hp:H.Perm H')(h:CJ C c Q E D G L H'):CJ C c Q E D G L H:=λa W hN hD hF hS=>h a W hN hD hF (hS.perm hp)
theorem Ez(n:Nat):BO n []:=λq hq=>absurd hq zJ
theorem n4o(ih:Qt kv k)(n:Int)(bx by_ mb:Nat)(m:Mp)(W:World)(h1:1<=n)(h2:n<1024)(h3:1024<=n*2^(k+1))(hm:m.Ok kv)(hb1:W.heap[bx]? =some (oC #[.map (some mb)] 165))(da:W.heap[by_]? =some (oC #[ab n] 3))(sF:W.heap[mb]? =some (m.obj ab kv)):uc prog 327 [ptr bx 0,ptr by_ 0] aA (Cs (fg kv (k+1) n)) (Is (fg kv (k+1) n)) (λ_=>False) (XK bx by_ mb) W:=by
 intro l0 M0 I X0 hM hI hX hy h0;have cF:¬(dh hM (λ_=>False) (hI [] _)).X bx:=by rintro(h|h);exact(hM _ h).2.2 (.inl rfl);exact h.elim
 have bW:¬(dh hM (λ_=>False) (hI [] _)).X by_:=by rintro(h|h);exact(hM _ h).2.2 (.inr (.inl rfl));exact h.elim
 have Eh:¬(dh hM (λ_=>False) (hI [] _)).X mb:=by rintro(h|h);exact(hM _ h).2.2 (.inr (.inr rfl));exact h.elim
 have lX:=(aT.1 hb1).1;have Iz:=(aT.1 da).1;have P8:=(aT.1 sF).1;refine Pj (dh hM (λ_=>False) (hI [] _)) [] (vs:=[_,_,_]) func327 rfl ntmps327 rfl (Nj hM (hI [] _) h0 zJ (by simp[kV]) zJ) ?_;refine B 2 ?_;refine yX ?_;intro b3 w3 hb3 cK fF ez eP;refine B 7 ?_;refine rv rfl rfl rfl (qv (ev:=ab) underlying165 underlying3 zeroValue3 hm (bB.old A1 sF Eh trivial) rfl rfl) ?_;refine B 12 ?_;refine aG ?_ ?_
 ·intro ar;refine B 4 ?_;refine Br (λV=>hI ([]++[n]) V) hX (λ_ h=>h.elim) A1 rfl rfl rfl rfl (λW1 ue kO=>hy [] n _ W1 (by rw[n5h ar];exact List.prefix_refl _) ue kO) ?_ ?_
  ·intro V0 BP;refine B 4 ?_;exact XL (ms:=([]:List Mk)) (H0:=[]) (.inl rfl) results327 A1 BP (by intro j hj hx;simp[sH]at hx) (λA hA=>.inl ⟨[n],by rw[n5h ar],hA⟩)
  intro V0 BP;refine B 4 ?_;exact XL (ms:=([]:List Mk)) (H0:=[]) (.inl rfl) results327 A1 BP (by intro j hj hx;simp[sH]at hx) (λA hA=>.inr hA)
 intro ar;refine B 9 ?_;refine aG ?_ ?_
 ·intro aN;refine B 2 ?_;exact XL (ms:=([]:List Mk)) (H0:=[]) (.inl rfl) results327 A1 (λ_ h=>h.elim) (by intro j hj hx;simp[sH]at hx) (λA hA=>.inl ⟨[],by rw[nTg (by simpa using ar) aa],hA⟩)
 intro aN;refine B 9 ?_;refine rv rfl rfl rfl (yD underlying330 zeroValue330 sizeOf3 rfl rfl rfl rfl) ?_;refine B 4 ?_;refine CJ.loopD (α:=(Nat×List Mk)×aE) (λp=>mkD p.1.2) (λp=>[(1,ptr bx 0),(2,ptr by_ 0),(3,ptr b3 0),(26,.agg #[ab (2*n),ab (2*n+1)]),(27,ab (p.1.1:Int))]) (λp=>sH p.1.2) (λp=>[w3,W]) (λp=>dh hM p.2 (hI (tD kv k n p.1.1) p.2)) (λp=>p.1.1<=2/\BO w3.heap.size p.1.2/\∀j,p.2 j->w3.heap.size<=j) (λp=>2-p.1.1) ((0,[]),λ_=>False) ⟨cV _,Ez _,λ_ h=>h.elim⟩ zR rfl rfl zJ rfl ?_;rintro⟨⟨i,ms⟩,V0⟩ ⟨hi,BQ,BP⟩;dsimp only at hi BQ BP ⊢;have cF:¬(dh hM V0 (hI (tD kv k n i) V0)).X bx:=by rintro(h|h);exact(hM _ h).2.2 (.inl rfl);have:=BP _ h;omega
 clear cK;have cK:¬(dh hM V0 (hI (tD kv k n i) V0)).X b3:=by rintro(h|h);(have:=(hM _ h).1;omega);(have:=BP _ h;omega)
 refine B 6 ?_;refine aG ?_ ?_
 ·intro dc;refine B 6 ?_;refine rv rfl rfl rfl (ug (v:=ab (2*n+(i:Int))) underlying330 isAgg3 sizeOf3 rfl rfl aa aa (Qs n i aa)) ?_;refine B 5 ?_;refine rv rfl rfl rfl (av (v:=.map (some mb)) isAgg165 rfl A1 hb1 cF (nzn BQ aa) rfl) ?_;refine B 1 ?_;refine nv (α:=Nat×Nat) (v:=λq:Nat×Nat=>.func (.func 327) #[] #[ptr q.1 0,ptr q.2 0]) (Φ:=λ(W:World) (q:Nat×Nat) (w1:World)=>W.heap.size<=q.1/\W.heap.size<=q.2/\w1.heap[q.1]? =some (oC #[.map (some mb)] 165)/\w1.heap[q.2]? =some (oC #[ab (2*n+(i:Int))] 3)) call304 rfl rfl rfl (λW hS=>nGe (some mb) (2*n+(i:Int)) W) ?_;rintro Wk q wk vy Ej ⟨hq1,hq2,hq3,hq4⟩;try dsimp only at hq1 hq2 hq3 hq4
  have Qu:=(aT.1 hq3).1;have Qv:=(aT.1 hq4).1;have hzk:=Ej.size;have hzW:=(vy.links W A1).size;have fF:=(vy.links w3 A0).size;have hVk:∀j,V0 j->j<Wk.heap.size:=λj hj=>vy.xlt j (.inr hj);have NL:∀j,XK q.1 q.2 mb j->j<wk.heap.size/\j∉(sH ms).map (·.1)/\¬(dh hM V0 (hI (tD kv k n i) V0)).X j:=by
   intro j hj;have XM:Wk.heap.size<=j->j∉(sH ms).map (·.1)/\¬(dh hM V0 (hI (tD kv k n i) V0)).X j:=λhg=>⟨λhm=>by obtain⟨p,hp,e⟩:=bY.1 hm;have:=vy.lt p hp;omega,λhx=>by rcases hx with hx|hx;(have:=(hM _ hx).1;omega);(have:=hVk _ hx;omega)⟩;rcases hj with rfl|rfl|rfl
   ·exact⟨Qu,XM hq1⟩
   ·exact⟨Qv,XM hq2⟩
   exact⟨by omega,λhm=>by obtain⟨p,hp,e⟩:=bY.1 hm;have:=XN BQ p hp;omega,λhx=>by rcases hx with hx|hx;(exact(hM _ hx).2.2 (.inr (.inr rfl)));(have:=BP _ hx;omega)⟩
  refine B 3 ?_;refine VU (f:=327) (cap:=[ptr q.1 0,ptr q.2 0]) (α:=Int) (enc:=aA) (Pre:=Cs (fg kv k (2*n+(i:Int)))) (Fin:=Is (fg kv k (2*n+(i:Int)))) (RO:=XK q.1 q.2 mb) (MI:=λ_=>False) rfl call327 (λW' W2 hS hB=>by have hlk:=(hS.links wk A0).size;exact ih (2*n+(i:Int)) q.1 q.2 mb m W2 aa aa (nnp h3 aa) hm (by rw[hB.block q.1 aa];exact hS.old A0 hq3 (NL _ (.inl rfl)).2.2 (aY.of_mem (NL _ (.inl rfl)).2.1)) (by rw[hB.block q.2 aa];exact hS.old A0 hq4 (NL _ (.inr (.inl rfl))).2.2 (aY.of_mem (NL _ (.inr (.inl rfl))).2.1)) (by have:=(hS.links W A2).size;rw[hB.block mb aa];exact hS.old A2 sF (NL _ (.inr (.inr rfl))).2.2 (aY.of_mem (NL _ (.inr (.inr rfl))).2.1))) (λ_ _ _ hk=>hk.elim) (λW' hS j hj=>⟨by have:=(NL j hj).1;have:=(hS.links wk A0).size;omega,(NL j hj).2⟩) (λ_=>rfl) (λpre G' Hc=>∃V1:aE,(∀j,V0 j->V1 j)/\(∀j,V1 j->V0 j\/w3.heap.size<=j)/\G'=dh hM V1 (hI (tD kv k n i++pre) V1)/\Hc=sH ms) (λc G' Hc=>c= .ret/\∃V1:aE,(∀j,V1 j->W.heap.size<=j)/\G'=dh hM V1 (hX V1)/\Hc=sH ms) ⟨V0,λ_ h=>h,λ_ h=>.inl h,by rw[dV],rfl⟩ zB ?_ ?_ ?_
  ·rintro pre x G' Hc l Dk rec W1 M V Wy oe vn dP ⟨V1,hVV,UF,rfl,rfl⟩ iH lD Pm yi du Df;simp only[ae]at iH yi;have hVW:∀j,V1 j->W.heap.size<=j:=λj hj=>by rcases UF j hj with h|h;(have:=BP j h;omega);omega
   have cK:¬((dh hM V1 (hI (tD kv k n i++pre) V1)).ext λj=>M j\/V j).X b3:=du.z aa cK (λhm=>by obtain⟨p,hp,e⟩:=bY.1 hm;have:=XN BQ p hp;omega) (by rintro(h|h);(have:=(hM _ h).1;omega);(rcases UF _ h with h|h;(have:=BP _ h;omega);omega));have agG:∀r',aY (book (sH ms) l r' (fq Dk)) b3:=λr'=>by unfold book;rw[jB];exact⟨nzn BQ aa,by simp only[fq,aY,and_true];omega⟩
   refine B 3 ?_;refine Nl oe ?_;refine B 3 ?_;refine rv rfl rfl rfl (av (v:=yv l0) isAgg294 rfl A2 hb3 cK (agG _) rfl) ?_;refine B 1 ?_;refine XO (λj=>M j\/V j) (λG=>G.ext λj=>M j\/V j) (XP _) (V:=V1) (λV=>hI ((tD kv k n i++pre)++[x]) V) hX hVW rfl rfl rfl rfl (λW1 ue kO=>hy (tD kv k n i++pre) x V1 W1 (by rw[iP,n1e (by simpa using ar) aa,<-n2n];exact Ki aa dP) ue kO) ?_ ?_
   ·intro V2 kS wg;have yN:=wg Wy A0;have Qw:∀j,V2 j->V0 j\/w3.heap.size<=j:=λj hj=>by rcases yN j hj with h|h;exact UF j h;exact .inr (by have:=(Df.links w3 A1).size;omega)
    try dsimp only
    refine B 6 ?_;refine Jh (G2:=dh hM V2 (hI ((tD kv k n i++pre)++[x]) V2)) (Hc2:=sH ms) du lD ⟨(λj h=>h.imp id (λh=>kS j (hVV j h))),(λj h=>h.elim (λh=>.inl (.inl h)) (λh=>(yN j h).imp .inr id)),(λj h=>h.elim (λh=>.inl (.inl h)) (λh=>(yN j h).imp .inr id)),(λp hp=>.inl (bY.2 ⟨p,hp,rfl⟩)),(λp hp=>.inl (bY.2 ⟨p,hp,rfl⟩))⟩ (Ji oe vn) ?_;exact⟨V2,λj h=>kS j (hVV j h),Qw,by rw[iP],rfl⟩
   intro V2 kS wg;have yN:=wg Wy A0;have Qw:∀j,V2 j->V0 j\/w3.heap.size<=j:=λj hj=>by rcases yN j hj with h|h;exact UF j h;exact .inr (by have:=(Df.links w3 A1).size;omega)
   try dsimp only
   refine B 6 ?_;refine nZk (G2:=dh hM V2 (hX V2)) (Hc2:=sH ms) (c:=.ret) du lD ⟨(λj h=>h.imp id (λh=>kS j (hVV j h))),(λj h=>h.elim (λh=>.inl (.inl h)) (λh=>(yN j h).imp .inr id)),(λj h=>h.elim (λh=>.inl (.inl h)) (λh=>(yN j h).imp .inr id)),(λp hp=>.inl (bY.2 ⟨p,hp,rfl⟩)),(λp hp=>.inl (bY.2 ⟨p,hp,rfl⟩))⟩ (.inl ⟨rfl,rfl⟩) rfl ?_;exact⟨rfl,V2,λj hj=>by rcases Qw j hj with h|h;(have:=BP j h;omega);omega,rfl,rfl⟩
  ·rintro pQ l Dk rec G' Hc rfl iH lD ⟨V1,hVV,UF,rfl,rfl⟩;replace iH:=yb iH;refine B 7 ?_;refine PJ.perm (nnm l Dk rec ms []) ?_;refine nXo ((i+1,(l,rec,Dk)::ms),V1) ⟨by dsimp only;omega,nkk iH.2.1 aa BQ,λj hj=>(UF j hj).elim (BP j) id⟩ zW zR rfl (by dsimp only;rw[nUh]) zJ rfl
  rintro l Dk rec c G' Hc iH lD ⟨rfl,V1,hVW,rfl,rfl⟩;replace iH:=yb iH;refine CJ.perm (nnm l Dk rec ms []) ?_;refine B 6 ?_;exact XL (ms:=(l,rec,Dk)::ms) (H0:=[]) (.inl rfl) results327 A2 hVW (by intro j hj hx;obtain⟨p,hp,e⟩:=bY.1 hx;have:=XN (n:=w3.heap.size) (ms:=(l,rec,Dk)::ms) (nkk iH.2.1 aa BQ) p hp;omega) (λA hA=>.inr hA)
 intro dc;refine B 4 ?_;exact XL (ms:=ms) (H0:=[]) (.inr rfl) results327 A1 (λj hj=>by have:=BP j hj;omega) (by intro j hj hx;obtain⟨p,hp,e⟩:=bY.1 hx;have:=XN (n:=w3.heap.size) (ms:=ms) BQ p hp;omega) (λA hA=>.inl ⟨tD kv k n i,by rw[n1e (by simpa using ar) aa,<-n2n,show i=2 by omega],hA⟩)
theorem XQ(kv:List (Int×Int)):∀k,Qt kv k
 |0=>ngp kv
 |k+1=>λn bx by_ mb m W h1 h2 h3 hm hb1 da sF=>n4o (XQ kv k) n bx by_ mb m W h1 h2 h3 hm hb1 da sF
theorem OJ.frz{C:Cx}{Q:aZ}{E:Env}{D:List Deferred}{G:Gh}{H':ad}{ops:Array Oper}{l:List Oper}{o:Obj}(hi:H[i]? =some (b,o))(hH:H.eraseIdx i=H')(ha:ae L b)(k:∀w1,w1.heap[b]? =some o->b<w1.heap.size->(∀w∈L,w.heap.size<=w1.heap.size)->OJ C ops Q l E D G (w1::L) H'):OJ C ops Q l E D G L H:=by
 subst hH;intro a W hN hD hF hS;have hb:=hS.own _ (cP hi);exact k W hb (aT.1 hb).1 (λw hw=>(hS.links w hw).size) a W hN hD hF (hS.dropAt hi ha).snap
noncomputable def ou (ns:List Nd) (n:Int):List Int:=if jF ns=0/\1<=n/\n<=1023 then fg (dL ns) 10 n else[]
noncomputable def NM (ns:List Nd) (n:Int):Int:=if jF ns=0 then(if 1<=n/\n<=1023 then 0 else 200)else 210
theorem nmm(kv:List (Int×Int)):∀(k:Nat) (n:Int),(fg kv k n).length<=2^k:=
 by intro x;induction x<;>(intros;grind [fg,bV,n5h,nTg,n1e])
theorem nNk(ns:List Nd)(n:Int):(ou ns n).length<=1024:=by
 unfold ou;split
 ·exact nmm _ 10 n
 simp
theorem Kj:eg prog 327:=call327
theorem nVj(ns:List Nd)(hn:ns.length<=100000)(N:Nat)(a:Option Addr)(cp:Nat)(w:World)(hN:N<=w.heap.size)(aJ:ai fN 2 N w a ns)(gO:jF ns=210)(n:Int):Calls prog 262 #[.agg #[.slice a ns.length cp],ab n] w (aD w aA 1 3 [] (λs=>.tuple #[s,ab (210)])):=by
 refine eN func262 ntmps262 ?_;refine B 2 ?_;refine yX ?_;intro b2 w2 da bW eU dx dq;refine B 7 ?_;refine Kd ?_;refine zxe ?_;refine B 6 ?_;refine XI ?_;exact zzg
theorem n0k(ns:List Nd)(hn:ns.length<=100000)(N:Nat)(a:Option Addr)(cp:Nat)(w:World)(hN:N<=w.heap.size)(aJ:ai fN 2 N w a ns)(gO:jF ns=0)(n:Int)(rW:¬(1<=n/\n<=1023)):Calls prog 262 #[.agg #[.slice a ns.length cp],ab n] w (aD w aA 1 3 [] (λs=>.tuple #[s,ab (200)])):=by
 refine eN func262 ntmps262 ?_;refine B 2 ?_;refine yX ?_;intro b2 w2 da bW eU dx dq;refine B 7 ?_;refine znf ?_;refine Er ?_;by_cases h1:n<1
 ·refine B 2 ?_;refine ax cX ?_;refine B 15 ?_;exact zzg
 refine xv ?_;refine B 2 ?_;refine XI ?_;exact zzg
theorem nbl(ns:List Nd)(hn:ns.length<=100000)(N:Nat)(a:Option Addr)(cp:Nat)(w:World)(hN:N<=w.heap.size)(aJ:ai fN 2 N w a ns)(gO:jF ns=0)(n:Int)(rW:1<=n/\n<=1023):Calls prog 262 #[.agg #[.slice a ns.length cp],ab n] w (aD w aA 1 3 (fg (dL ns) 10 n) (λs=>.tuple #[s,ab (0)])):=by
 have hn1:=rW.1;have hn2:=rW.2;refine eN func262 ntmps262 ?_;refine B 2 ?_;refine yX ?_;intro b2 w2 da bW eU dx dq;refine B 7 ?_;refine znf ?_;refine ax bG ?_;refine B 9 ?_;refine ax bG ?_;refine xv ?_;refine B 8 ?_;refine Kd ?_;refine zqd ?_;intro bf m Es NA hm;replace Es:=yb Es;refine B 1 ?_;refine OJ.frz (i:=0) (H':=[]) rfl rfl zD ?_;intro wf hwf hlf hzf;have anm:=hzf w A1;refine nv (α:=Nat×Nat) (v:=λq:Nat×Nat=>.func (.func 327) #[] #[ptr q.1 0,ptr q.2 0]) (Φ:=λ(W:World) (q:Nat×Nat) (w1:World)=>W.heap.size<=q.1/\W.heap.size<=q.2/\w1.heap[q.1]? =some (oC #[.map (some bf)] 165)/\w1.heap[q.2]? =some (oC #[ab n] 3)) call304 rfl rfl rfl (λW hS=>nGe (some bf) n W) ?_;rintro Wk q wk vy Ej ⟨hq1,hq2,hq3,hq4⟩;try dsimp only at hq1 hq2 hq3 hq4
 have Qu:=(aT.1 hq3).1;have Qv:=(aT.1 hq4).1;have hzk:=Ej.size;have hzw:=(vy.links wf A0).size;refine UC (enc:=aA) (m:=1) (t:=3) (Fin:=Is (fg (dL ns) 10 n)) (v:=id) call191 rfl rfl rfl (λW hS=>nIk (f:=327) (cap:=[ptr q.1 0,ptr q.2 0]) (Pre:=Cs (fg (dL ns) 10 n)) (Fin:=Is (fg (dL ns) 10 n)) (RO:=XK q.1 q.2 bf) Kj W ?_ ?_ ?_) ?_
 ·have lX:=(hS.links wk A0).size;rintro j (rfl|rfl|rfl)<;>omega
 ·intro p hp;have h1:p.length<=_:=hp.length_le;have h2:=nmm (dL ns) 10 n;omega
 ·intro W2 hB;have lX:=(hS.links wk A0).size;exact XQ (dL ns) 10 n q.1 q.2 bf m W2 aa aa aa hm (by rw[hB.block q.1 aa];exact hS.old A0 hq3 zL trivial) (by rw[hB.block q.2 aa];exact hS.old A0 hq4 zL trivial) (by rw[hB.block bf aa];exact hS.old A1 hwf zL trivial)
 intro xs r dK aK ah;cases dK
 refine B 5 ?_;exact nP (H0:=[]) (H1:=[]) (r:=r) (.inl rfl) results262 bj A3 (by rw[dV];exact Rw.over (Rw.ge_of aK A3)) rfl ah (Rw.ge_of aK A3) zJ
theorem nHg(ns:List Nd)(hn:ns.length<=100000)(N:Nat)(a:Option Addr)(cp:Nat)(w:World)(hN:N<=w.heap.size)(aJ:ai fN 2 N w a ns)(n:Int):Calls prog 262 #[.agg #[.slice a ns.length cp],ab n] w (aD w aA 1 3 (ou ns n) (λs=>.tuple #[s,ab (NM ns n)])):=by
 rcases njh ns with h|h
 ·by_cases h2:1<=n/\n<=1023
  ·have e1:ou ns n=fg (dL ns) 10 n:=by unfold ou;rw[if_pos ⟨h,h2⟩]
   have e2:NM ns n=0:=by unfold NM;rw[if_pos h,if_pos h2]
   rw[e1,e2];exact nbl ns hn N a cp w hN aJ h n h2
  have e1:ou ns n=[]:=by unfold ou;rw[if_neg λg=>h2 g.2]
  have e2:NM ns n=200:=by unfold NM;rw[if_pos h,if_neg h2]
  rw[e1,e2];exact n0k ns hn N a cp w hN aJ h n h2
 have e1:ou ns n=[]:=by unfold ou;rw[if_neg λg=>by have:=g.1;omega]
 have e2:NM ns n=210:=by unfold NM;rw[if_neg aa]
 rw[e1,e2];exact nVj ns hn N a cp w hN aJ h n
end Px
