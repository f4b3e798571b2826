/- Contracts of functions of the program. No condition beyond those stated. -/
import Derived.Test.YtodpaegknpbomaaGreatDoorKa
import Derived.Test.YtodpaegknpbomaaGreatDoorProg
import Derived.Lib.RowBridge
import Derived.Test.YtodpaegknpbomaaGreatDoorLa
set_option linter.unusedSimpArgs false
set_option linter.unusedVariables false
set_option linter.unusedSectionVars false
set_option linter.unnecessarySimpa false
set_option maxRecDepth 20000
set_option maxHeartbeats 8000000
namespace Px
open Go Go.RowKit Go.Proofs Go.Proofs.Tryz
def bZ (w:World) (b off:Nat) (zs:List UInt8):Prop:=∃cs t fr,w.heap[b]? =some (.cells cs t fr)/\off+zs.length<=cs.size/\∀i,i<zs.length->cs[off+i]? =some (.int .u8 (fU zs i))
variable {H:ad} {d n:Int} {kv:List (Int×Int)} {l xs:List Int} {Fin Pre:List Int->Prop} {zs:List UInt8} {cap sp:List Value} {L:List World} {b i j k:Nat} {RO:Nat->Prop} {W w:World}
theorem bZ.up{w':World}{off:Nat}(h:bZ w b off zs)(hb:w'.heap[b]? =w.heap[b]?):bZ w' b off zs:=by
 obtain⟨cs,t,fr,h1,h2,h3⟩:=h;exact⟨cs,t,fr,hb.trans h1,h2,h3⟩
theorem bZ.lt{off:Nat}(h:bZ w b off zs):b<w.heap.size:=by
 obtain⟨cs,t,fr,h1,_⟩:=h;exact(aT.1 h1).1
theorem bZ.old{off:Nat}{G:Gh}(h:bZ w b off zs)(hS:St G L H W)(hw:w∈L)(hX:¬G.X b)(hO:bA H b):bZ W b off zs:=by
 obtain⟨cs,t,fr,h1,h2,h3⟩:=h;exact⟨cs,t,fr,hS.old hw h1 hX hO,h2,h3⟩
theorem bZ.row{e:Nat}(h:W.heap[b]? =some (aM e zs sp)):bZ W b 0 zs:=
 ⟨_,_,_,h,by simp only[qx,cy,vQ];omega,λi hi=>WX _ _ i hi⟩
theorem ib.seg{C:Cx}{G:Gh}{tx e' off c:Nat}{w1:World}(hU:C.P.underlying tx=some (.slice e'))(hm:w1∈L)(h:bZ w1 b off zs)(hG:¬G.X b)(hO:bA H b):ib C G L H tx (.slice (some ⟨b,off,none⟩) zs.length c) zs:=by
 obtain⟨cs,t,fr,h1,h2,h3⟩:=h;exact oQ.sl hU (Rd.old hm h1 hG hO aa (by rw[n2j h2 h3,<-nLn])) (by rw[vQ,xj]) (nhi _)
def Glb (w:World):Prop:=(∃t fr,w.heap[3]? =some (.cells S8.init.cells t fr))/\(∃t fr,w.heap[5]? =some (.cells (cf 64 (λi=>u32 (kk i))) t fr))
theorem Glb.lt(h:Glb w):6<=w.heap.size:=by
 obtain⟨_,t,fr,h⟩:=h;have:=(aT.1 h).1;omega
theorem Glb.old{G:Gh}(h:Glb w)(hS:St G L H W)(hw:w∈L)(hX:∀k,k<6->¬G.X k)(hH:Over 6 H):Glb W:=by
 have hs:=hS.same hw h.lt hX hH;obtain⟨⟨t,fr,h1⟩,t',Cs,h2⟩:=h;exact⟨⟨t,fr,(hs 3 aa).trans h1⟩,t',Cs,(hs 5 aa).trans h2⟩
def scalL (s:ByteArray) (xs:List UInt8):Int:=Dw s xs.length (fU xs)
theorem DG(s:ByteArray)(xs:List UInt8):1<=scalL s xs/\scalL s xs<2305843009213688669:=by
 have Jf:=nKh 2305843009213688668 zA (Bn (tagged s xs.length (fU xs))) 0 zA zA;unfold scalL Dw;omega
structure Fx where
 sc:ByteArray->List UInt8->Int
 tg:ByteArray->List UInt8->Nat->Int
 ge:Int->Int->Int×Int
structure FxOk (Z:Fx):Prop where
 sc:∀s xs,scalL s xs=Z.sc s xs
 tg:∀s xs,tagged s xs.length (fU xs)=Z.tg s xs
 ge:∀a k,gExp a k=Z.ge a k
variable {Z:Fx}
theorem FxOk.bd(hZ:FxOk Z)(s:ByteArray)(xs:List UInt8):1<=Z.sc s xs/\Z.sc s xs<2305843009213688669:=by
 rw[<-hZ.sc];exact DG s xs
theorem FxOk.byt(hZ:FxOk Z)(s:ByteArray)(xs:List UInt8):er (Z.tg s xs):=by
 rw[<-hZ.tg];exact ncg _ _ _
theorem Nn(hZ:FxOk Z)(k:Int)(w:World):Calls prog 124 #[ab k] w (aL w (qP (Z.ge 4 k))):=by
 rw[<-hZ.ge];exact nzi k w
theorem JF(hZ:FxOk Z)(a:Int)(w:World):Calls prog 133 #[ab a] w (aL w (ab (Z.ge 4 a).1)):=by
 rw[<-hZ.ge];exact nDh a w
theorem Np(hZ:FxOk Z)(s:ByteArray)(hs0:s.size<1000)(xs:List UInt8)(hn:xs.length<900000000000)(b off c:Nat)(hc:xs.length<=c)(w:World)(h:bZ w b off xs)(hg:Glb w):Calls prog 195 #[.string s,.slice (some ⟨b,off,none⟩) xs.length c] w (aL w (ab (Z.sc s xs))):=by
 rw[<-hZ.sc];obtain⟨cs,t,fr,h1,h2,h3⟩:=h;obtain⟨⟨t2,xi,g1⟩,t3,qw,g2⟩:=hg;exact nBm s xs.length (fU xs) b off c t t2 t3 fr xi qw cs hs0 hc aa w h1 h2 h3 g1 g2
def b8 (n:Int) (i:Nat):UInt8:=UInt8.ofNat ((n%18446744073709551616).toNat/2^(56-8*i)%256)
def JG (n:Int):List UInt8:=(List.range 8).map (b8 n)
theorem nQj(n:Int):(JG n).length=8:=by simp[JG]
theorem nbm(n:Int)(i:Nat)(h:i<8):(JG n).take (i+1)=(JG n).take i++[b8 n i]:=by
 have hl:i<(JG n).length:=by rw[nQj];exact h
 rw[M9 hl];congr 2;simp[JG]
theorem WY(n k:Int)(i:Nat)(hi:i<8)(hk:k=56-8*(i:Int)):(n%18446744073709551616).fdiv (2^(min (Int.toNat k) IntKind.u64.bits))%256=((b8 n i).toNat:Int):=by
 subst hk;have e1:min (Int.toNat (56-8*(i:Int))) IntKind.u64.bits=56-8*i:=by simp[IntKind.bits];omega
 obtain⟨m,hm⟩:∃m:Nat,n%18446744073709551616=(m:Int):=⟨(n%18446744073709551616).toNat,by omega⟩;rw[e1];unfold b8;rw[hm,WZ,yz];simp only[UInt8.toNat_ofNat'];rw[nje];omega
def As (ns:List Int):List UInt8:=ns.flatMap JG
theorem nqk(ns:List Int):(As ns).length=8*ns.length:=by induction ns<;>grind [As,nQj]
theorem nCo(ns:List Int)(j:Nat)(h:j<ns.length):As (ns.take (j+1))=As (ns.take j)++JG ns[j]:=by
 rw[M9 h];unfold As;rw[List.flatMap_append];simp
def roV (ro:Option (Nat×Nat×List Value)) (ys:List UInt8):Value:=match ro with|none=>aj|some (b,c,_)=>bQ b ys.length c
def roH (e:Nat) (ro:Option (Nat×Nat×List Value)) (ys:List UInt8):ad:=match ro with|none=>[]|some (b,_,sp)=>[(b,aM e ys sp)]
def W4 (G:Gh) (L:List World) (ro:Option (Nat×Nat×List Value)) (ys:List UInt8):Prop:=match ro with|none=>ys=[]|some (b,c,sp)=>dI ys c sp/\Fr G L b
theorem nBk(hZ:FxOk Z)(s:ByteArray)(hs0:s.size<1000)(msg:List UInt8)(bm om cm:Nat)(vm:msg.length<=100000000000)(ns:List Int)(bn cn tn:Nat)(Nq:Nat×Nat)(hn0:0<ns.length)(yA:ns.length<=1000)(w:World)(oR:bZ w bm om msg)(mC:w.heap[bn]? =some (.cells (ns.map ab).toArray tn Nq))(hg:Glb w):Calls prog 126 #[.string s,.slice (some ⟨bm,om,none⟩) msg.length cm,.slice (ao bn) ns.length cn] w (aL w (ab (Z.sc s (As ns++msg)))):=by
 have amV:=(aT.1 mC).1;have W6:=oR.lt;have hg4:=hg.lt;refine eN func126 ntmps126 ?_;refine B 19 ?_;refine CJ.loop (α:=List UInt8×Nat×Option (Nat×Nat×List Value)) (λp=>[(0,.string s),(1,.slice (some ⟨bm,om,none⟩) msg.length cm),(7,roV p.2.2 p.1),(11,.slice (ao bn) ns.length cn),(12,ab (ns.length:Int)),(13,ab (p.2.1:Int))]) (λp=>roH 5 p.2.2 p.1) (λp=>[w]) (λp=>Gh.no) (λp=>p.1=As (ns.take p.2.1)/\p.2.1<=ns.length/\W4 Gh.no [w] p.2.2 p.1) (λp=>ns.length-p.2.1) ([],0,none) ⟨rfl,cR _,rfl⟩ zR rfl rfl zI ?_;rintro⟨ys0,j,ro0⟩ ⟨yB,hj,DH⟩;dsimp only at yB hj DH ⊢;refine B 6 ?_;refine aG ?_ ?_
 ·intro ar;refine B 7 ?_;obtain⟨n,hn⟩:∃n,ns[j]'aa=n:=⟨_,rfl⟩;refine rv rfl rfl rfl (av (v:=ab n) isAgg3 rfl A0 mC zJ (by cases ro0 with|none=>trivial|some p=>obtain⟨b1,c1,s1⟩:=p;obtain⟨hr,hf⟩:=DH;simp only[Fr,Gh.no,ae,and_true,false_or]at hf;exact⟨by dsimp only;omega,trivial⟩) (by simp only[DI,sC];rw[kK aa];simp[<-hn])) ?_;refine B 9 ?_;have amW:ys0.length<=8000:=by rw[yB,nqk,lb];omega
  refine CJ.loop (α:=List UInt8×Nat×Option (Nat×Nat×List Value)) (λp=>[(0,.string s),(1,.slice (some ⟨bm,om,none⟩) msg.length cm),(7,roV p.2.2 p.1),(9,ab n),(10,ab (56-8*(p.2.1:Int))),(11,.slice (ao bn) ns.length cn),(12,ab (ns.length:Int)),(13,ab (j:Int))]) (λp=>roH 5 p.2.2 p.1) (λp=>[w]) (λp=>Gh.no) (λp=>p.1=ys0++(JG n).take p.2.1/\p.2.1<=8/\W4 Gh.no [w] p.2.2 p.1) (λp=>8-p.2.1) (ys0,0,ro0) ⟨by simp,by dsimp only;omega,DH⟩ zR rfl rfl zI ?_;rintro⟨ys,i,ro⟩ ⟨xl,hi,tC⟩;dsimp only at xl hi tC ⊢;have Io:ys.length<=8008:=by rw[xl,cy,lb,nQj];omega
  refine B 7 ?_;refine aG ?_ ?_
  ·intro aN;refine B 7 ?_;refine rq (.int .u64 (n%18446744073709551616)) (kH underlying3 underlying233 rfl) (vu (nC n)) ?_;refine B 1 ?_;refine rv rfl rfl rfl (lT rfl rfl aa) ?_;refine rq (.int .u8 ((b8 n i).toNat:Int)) (oP underlying233 underlying5 rfl) (congrArg (Value.int .u8) (WY n _ i aa rfl)) ?_;refine Pw [b8 n i] bt zeroValue5 rfl rfl rfl rfl rfl rfl rfl rfl rfl ?_;intro lO JH W8 amX amY;replace JH:=yb JH;replace W8:=yd W8;rcases ro with _|⟨b1,c1,s1⟩
   ·have e0:ys=[]:=tC;subst e0;refine apN (zs:=[b8 n i]) bt rfl rfl rfl rfl (ib.own (i:=0) underlying106 rfl) zI zI ?_;intro xm JI Nr PL Xa amZ PM;replace PL:=yb PL;replace Xa:=yd Xa;have JJ:Fr Gh.no [w] xm:=.inr ⟨PL.1,trivial⟩;refine OJ.dropF (i:=1) rfl (.inr ⟨JH.1,trivial⟩) ?_;refine B 9 ?_;refine PJ.again ([b8 n i],i+1,some (xm,JI,Nr)) ⟨by dsimp only;rw[nbm n i aa,<-iY,<-xl];first|done|rfl,by dsimp only;omega,PM,JJ⟩ zS ⟨rfl,rfl,rfl,rfl,congrArg some (congrArg ab zS),rfl,rfl,rfl,trivial⟩ rfl rfl zI
   obtain⟨hr,hf⟩:=tC;refine Nk (i:=1) (xs:=ys) (zs:=[b8 n i]) (sp:=s1) rfl bt rfl rfl rfl rfl (ib.own (i:=0) underlying106 rfl) hr hf Br ?_;intro xm JI Nr JJ PM;have Xb:=JJ;replace Xb:=ye Xb;refine OJ.dropF (i:=0) rfl (.inr ⟨JH.1,trivial⟩) ?_;refine B 9 ?_;refine PJ.again (ys++[b8 n i],i+1,some (xm,JI,Nr)) ⟨by dsimp only;rw[nbm n i aa,<-iY,<-xl];first|done|rfl,by dsimp only;omega,PM,JJ⟩ zS ⟨rfl,rfl,rfl,rfl,congrArg some (congrArg ab zS),rfl,rfl,rfl,trivial⟩ rfl rfl zI
  intro aN;refine B 10 ?_;refine ag (ys,j+1,ro) ⟨by dsimp only;rw[nCo ns j aa,hn,xl,show i=8 by omega,yB];first|done|rfl,by dsimp only;omega,tC⟩
 intro ar;refine B 6 ?_;have ej:j=ns.length:=by omega
 subst ej;rw[jZ (ak _)]at yB;have Io:=nqk ns;rcases ro0 with _|⟨b1,c1,s1⟩
 ·exact absurd (show ys0=[]from DH) (by intro e;rw[e]at yB;rw[<-yB]at Io;simp at Io;omega)
 obtain⟨hr,hf⟩:=DH;subst yB;have hg1:=hf;simp only[Fr,Gh.no,ae,and_true,false_or]at hg1;refine CJ.reH (H':=[(b1,aM 5 (As ns) s1)]) rfl ?_;refine B 4 ?_;refine Nk (i:=0) (xs:=As ns) (zs:=msg) (sp:=s1) rfl bt rfl rfl rfl rfl (ib.seg underlying106 A0 oR zJ zz) hr hf (by rw[Io];omega) ?_;intro b33 c33 s33 afC afD;have Xc:=afC;replace Xc:=ye Xc;refine call call195 rfl rfl rfl (λW hS=>Np hZ s hs0 (As ns++msg) (by rw[cy,Io];omega) b33 0 c33 afD.le W (bZ.row (hS.own _ A0)) (hg.old hS A0 zH zD)) ?_;refine B 4 ?_;refine cC (.inl rfl) results126 aX A0 zB ?_;rfl
def Cu (Z:Fx) (x:Int) (msg:List UInt8):Int:=Z.sc (⟨#[110,111,110,99,101]⟩:ByteArray) (As [x]++msg)
def Cv (Z:Fx) (r p:Int) (msg:List UInt8):Int:=Z.sc (⟨#[115,105,103,110]⟩:ByteArray) (As [r,p]++msg)
def qU (Z:Fx) (x:Int) (msg:List UInt8):Int:=(Z.ge 4 (Cu Z x msg)).1
def vR (Z:Fx) (x:Int) (msg:List UInt8):Int:=(qR (Cu Z x msg) (pW (Cv Z (qU Z x msg) (Z.ge 4 x).1 msg) x).1).1
def Bu (Z:Fx) (x:Int) (msg:List UInt8):Value:=if Db x then .tuple #[.agg #[ab (qU Z x msg),ab (vR Z x msg)],ab 0]else .tuple #[.agg #[ab 0,ab 0],ab 50]
theorem JK(a b:Int):qv (pW a b).1:=by grind [pW]
theorem ntl(hZ:FxOk Z)(x:Int)(msg:List UInt8):qv (Cu Z x msg):=by have:=hZ.bd (⟨#[110,111,110,99,101]⟩:ByteArray) (As [x]++msg);unfold Cu;exact⟨by omega,by omega⟩
theorem DK(hZ:FxOk Z)(x:Int)(msg:List UInt8):(qR (Cu Z x msg) (pW (Cv Z (qU Z x msg) (Z.ge 4 x).1 msg) x).1).2=0:=by
 unfold qR;rw[if_pos ⟨ntl hZ _ _,JK _ _⟩]
theorem JL(hZ:FxOk Z)(x k e:Int)(msg:List UInt8)(hK:Db x)(hk:Cu Z x msg=k)(he:Cv Z (Z.ge 4 k).1 (Z.ge 4 x).1 msg=e):Value.tuple #[.agg #[ab (Z.ge 4 k).1,ab (qR k (pW e x).1).1],ab (qR k (pW e x).1).2]=Bu Z x msg:=by grind [DK,Bu,qU,vR]
theorem JM(Z:Fx)(x:Int)(msg:List UInt8)(hK:¬Db x):Value.tuple #[.agg #[ab 0,ab 0],ab 50]=Bu Z x msg:=by
 unfold Bu;rw[if_neg hK]
theorem nLo(hZ:FxOk Z)(x k:Int)(msg:List UInt8)(hk:Cu Z x msg=k)(vm:msg.length<=100000000000)(bm om cm bn cn tn:Nat)(Nq:Nat×Nat)(w:World)(oR:bZ w bm om msg)(mC:w.heap[bn]? =some (.cells #[ab x] tn Nq))(hg:Glb w):Calls prog 126 #[.string (⟨#[110,111,110,99,101]⟩:ByteArray),.slice (some ⟨bm,om,none⟩) msg.length cm,.slice (ao bn) 1 cn] w (aL w (ab k)):=by
 subst hk;exact nBk hZ (⟨#[110,111,110,99,101]⟩:ByteArray) zA msg bm om cm vm [x] bn cn tn Nq zI zI w oR mC hg
theorem noi(hZ:FxOk Z)(r p e:Int)(msg:List UInt8)(he:Cv Z r p msg=e)(vm:msg.length<=100000000000)(bm om cm bn cn tn:Nat)(Nq:Nat×Nat)(w:World)(oR:bZ w bm om msg)(mC:w.heap[bn]? =some (.cells #[ab r,ab p] tn Nq))(hg:Glb w):Calls prog 126 #[.string (⟨#[115,105,103,110]⟩:ByteArray),.slice (some ⟨bm,om,none⟩) msg.length cm,.slice (ao bn) 2 cn] w (aL w (ab e)):=by
 subst he;exact nBk hZ (⟨#[115,105,103,110]⟩:ByteArray) zA msg bm om cm vm [r,p] bn cn tn Nq zI zI w oR mC hg
theorem ntp(hZ:FxOk Z)(x:Int)(msg:List UInt8)(bm om cm:Nat)(vm:msg.length<=100000000000)(w:World)(oR:bZ w bm om msg)(hg:Glb w):Calls prog 146 #[ab x,.slice (some ⟨bm,om,none⟩) msg.length cm] w (aL w (Bu Z x msg)):=by
 have W6:=oR.lt;have hg4:=hg.lt;obtain⟨k,hk⟩:∃k,Cu Z x msg=k:=⟨_,rfl⟩;obtain⟨e,he⟩:∃e,Cv Z (Z.ge 4 k).1 (Z.ge 4 x).1 msg=e:=⟨_,rfl⟩;refine eN func146 ntmps146 ?_;refine B 3 ?_;refine yW ?_;intro b4 ji jj;refine B 12 ?_;refine Wt ?_;refine B 1 ?_;refine Wt ?_;refine B 8 ?_;refine Xd (first:=[ab x]) (cap:=[]) rfl call132 rfl rfl rfl (λW hS=>nGi x W) ?_;refine B 3 ?_;refine aG ?_ ?_
 ·intro ar;refine B 9 ?_;refine cC (.inl rfl) results146 aX A0 zB ?_;exact JM Z x msg eE
 intro ar;refine B 6 ?_;refine Ic ?_;refine yV ?_;intro b23 w23 PN PO am0 Xe PQ;refine call call126 rfl rfl rfl (λW hS=>nLo hZ x k msg hk vm bm om cm b23 _ _ _ W (oR.old hS A1 zJ zz) (hS.old A0 PN PO zz) (hg.old hS A1 zH zD)) ?_;refine B 6 ?_;refine call call124 rfl rfl rfl (λW hS=>Nn hZ _ W) ?_;refine B 4 ?_;refine zGe ?_;refine B 3 ?_;refine CJ.less (E':=[(0,_),(1,_),(4,_),(5,_),(6,_),(7,_),(8,_),(9,_),(12,_),(13,_),(14,_),(15,_),(16,_),(17,_),(18,_),(19,_),(21,_),(22,_),(23,_),(24,_),(25,_),(26,_),(27,_),(28,_),(30,_)]) zR ?_;refine CJ.chn 13 [5] [_,_,some (ab (Z.ge 4 k).1),_,_,none,some (ab e),_,_,_,_,_,_] (λcv L' H'=>let dY:ad:=[(b4,oC #[ab (Z.ge 4 k).1,ab 0] 59)];match cv with| []=>L'=[w23,w]/\H'=dY| [v1]=>∃(Bv:Nat) (Ns:World),v1= .slice (ao Bv) 2 2/\L'=[Ns,w23,w]/\H'=dY/\Ns.heap[Bv]? =some (oC #[ab (Z.ge 4 k).1,ab (Z.ge 4 x).1] 3)/\(w23.heap.size<=Bv/\w.heap.size<=Bv)/\b4≠Bv/\¬Gh.no.X Bv/\Ns.heap.size=Bv+1|_=>False) (pc zM (pc z8b (pc (λcv L' H' hd hP=>match cv,hd,hP with| [],hd,hP=>(by obtain⟨rfl,rfl⟩:=hP;exact X.v (bH (i:=0) rfl isAgg3 rfl rfl))| [v1],hd,hP=>(by obtain⟨Bv,Ns,rfl,rfl,rfl,DL,DM,JN,DN,JO⟩:=hP;exact X.v (bH (i:=0) rfl isAgg3 rfl rfl))|_::_::_,_,hP=>hP.elim) (pc zM (pc (by exact λcv L' H' hd hP=>npn (first:=[ab x]) (cap:=[]) rfl call133 rfl rfl (λW hS _=>JF hZ x W) (λ_=>rfl)) (pk (pc (λcv L' H' hd hP=>match cv,hd,hP with| [],hd,hP=>(absurd (show false=true from hd) zA)| [v1],hd,hP=>(by obtain⟨Bv,Ns,rfl,rfl,rfl,DL,DM,JN,DN,JO⟩:=hP;exact nf call126 rfl rfl (λW hS _=>noi hZ _ _ e msg he vm bm om cm Bv _ _ _ W (oR.old hS A2 zJ (by simp only[bA,dm,dX,sy,yu,ne_eq,and_true];omega)) (hS.old A0 DL DN (by simp only[bA,dm,dX,sy,yu,ne_eq,and_true];omega)) (hg.old hS A2 zH zD)) (λ_=>rfl))|_::_::_,_,hP=>hP.elim) (pc zM (pc (by exact λcv L' H' hd hP=>nf call215 rfl rfl (λW hS _=>nBp _ _ W) (λ_=>rfl)) (pc zM (pc (by exact λcv L' H' hd hP=>X.v (jm rfl rfl)) (pc (by exact λcv L' H' hd hP=>X.v (jm rfl rfl)) (pc (by exact λcv L' H' hd hP=>X.v (tD rfl)) (pn)))))))))))))) ?_ ?_
 ·refine ss rfl ?_ ?_
  ·intro cv L' H' hl hP F Q' hk;obtain rfl:=lN hl;obtain⟨rfl,rfl⟩:=hP;refine Ic ?_;intro Bv Ns DL DM JN DN JO;exact OJ.done (hk _ _ _ ⟨Bv,Ns,rfl,rfl,rfl,DL,⟨DM.1,DM.2.1⟩,JN.1,DN,JO⟩)
  exact nn
 intro cv L' H' hl hP;obtain⟨v1,rfl⟩:=iZ hl;obtain⟨Bv,Ns,rfl,rfl,rfl,DL,DM,JN,DN,JO⟩:=hP;refine B 7 ?_;refine call call216 rfl rfl rfl (λW hS=>nCp _ _ W) ?_;refine B 4 ?_;refine zGe ?_;refine B 12 ?_;refine cC (.inl rfl) results146 aX A2 zB ?_;exact JL hZ x k e msg eE hk he

def cx (f:Nat->Int):List UInt8:=(List.range 32).map λi=>UInt8.ofNat (f i).toNat
theorem nH(f:Nat->Int):(cx f).length=32:=by simp[cx]
theorem Uw(f:Nat->Int)(hf:er f)(i:Nat)(h:i<32):fU (cx f) i=f i:=by
 have:=hf i;simp only[fU,cx,sC,List.getElem?_range h,JP,Option.getD_some,UInt8.toNat_ofNat'];omega
theorem bZ.dg{t:Nat}{fr:Nat×Nat}{f:Nat->Int}(h:w.heap[b]? =some (.cells (dg f) t fr))(hf:er f):bZ w b 0 (cx f):=
 ⟨_,_,_,h,by rw[nH];exact ak 32,λi hi=>by rw[nH]at hi;rw[lL,qQ f i hi,Uw f hf i hi]⟩
theorem nth(hZ:FxOk Z)(s:ByteArray)(hs0:s.size<1000)(xs:List UInt8)(hn:xs.length<900000000000)(b off c:Nat)(hc:xs.length<=c)(w:World)(h:bZ w b off xs)(hg:Glb w):Calls prog 87 #[.string s,.slice (some ⟨b,off,none⟩) xs.length c] w (aL w (.agg (Px.dg (Z.tg s xs)))):=by
 rw[<-hZ.tg];obtain⟨cs,t,fr,h1,h2,h3⟩:=h;obtain⟨⟨t2,xi,g1⟩,t3,qw,g2⟩:=hg;exact n9d s xs.length (fU xs) b off c t t2 t3 fr xi qw cs hs0 hc aa w h1 h2 h3 g1 g2
abbrev kf (n:Int):Prop:= -9223372036854775808<=n/\n<=9223372036854775807
def Ux:V->List Value
 | .int n=>[.int .i64 1,.int .i64 n,.string ⟨#[]⟩,.slice none 0 0]
 | .text s=>[.int .i64 2,.int .i64 0,.string s,.slice none 0 0]
 | .list _=>[]
def vn:V->Bool
 | .list _=>false
 |_=>true
def nL (l:List V):List Value:=l.flatMap Ux
theorem nOg(x:V)(h:vn x=true):(Ux x).length=4:=by cases x<;>simp_all[vn,Ux]
theorem nAo(l:List V)(h:l.all vn=true):(nL l).length=l.length*4:=by induction l<;>grind [nL,nOg]
theorem DO(N:Nat)(w:World):∀(l:List V),l.all vn=true->∀(pre sp:List Value),gL N w (pre++(nL l++sp)).toArray pre.length l
 | [],_,_,_=>by simp only[gL]
 |x::l,h,pre,sp=>by
  simp only[List.all_cons,oS]at h;have ih:=DO N w l h.2 (pre++Ux x) sp;have e:pre++Ux x++(nL l++sp)=pre++(nL (x::l)++sp):=by simp[nL]
  rw[e,cy,nOg x h.1]at ih;have hc:cut (pre++(nL (x::l)++sp)).toArray pre.length 4=(Ux x).toArray:=by
   unfold cut;simp only[nL,Uy,iY];rw[List.drop_left' rfl,<-nOg x h.1,PR rfl]
  simp only[gL];refine⟨?_,?_,ih⟩
  ·simp only[qx,cy,nAo (x::l) (by simp[h.1,h.2]),dF];omega
  rw[hc];cases x with
  |int n=>simp only[eX];rfl
  |text s=>simp only[eX];rfl
  |list l'=>simp[vn]at h
theorem JQ{N t cap:Nat}{fr:Nat×Nat}{l:List V}(hl:l.all vn=true)(hb:b<N)(hc:l.length<=cap)(h:w.heap[b]? =some (.cells (nL l++sp).toArray t fr)):eX N w (.list l) (vL (ao b) l.length cap):=by
 simp only[eX];exact⟨_,_,rfl,hc,.inr ⟨b,_,t,fr,rfl,hb,h,by have:=DO N w l hl [] sp;simpa using this⟩⟩
theorem Bw(x:V)(hf:vn x=true)(h:x.fine):x.enc.length<=1000000020:=by
 cases x with
 |int n=>
  simp only[V.fine]at h;have:=Cp (Dx n h.1 h.2);simp only[V.enc,dF];omega
 |text s=>
  simp only[V.fine]at h;have:=Cp (u:=s.size) aa;have e:s.data.toList.length=s.size:=Nl;simp only[V.enc,dF,cy,e];omega
 |list l=>simp[vn]at hf
theorem n9e(l:List V)(hf:l.all vn=true)(h:V.fineL l):(V.encL l).length<=l.length*1000000020/\V.depthL l=0:=by
 induction l with
 |nil=>simp[V.encL,V.depthL]
 |cons x l ih=>
  simp only[List.all_cons,oS]at hf;simp only[V.fineL]at h;obtain⟨h1,h2⟩:=ih hf.2 h.2;have h3:=Bw x hf.1 h.1;simp only[V.encL,V.depthL,cy,dF,h2];refine⟨by omega,?_⟩;cases x with
  |int n=>simp[V.depth]
  |text s=>simp[V.depth]
  |list l'=>simp[vn]at hf
theorem xn:uo prog 2 33 (lV 32 [.i]):=uo.array underlying33 sizeOf5 rfl (lx.int underlying5 isAgg5)
theorem nM:prog.eqGuardType prog.depth 33=false:=by kernel_rfl
def mw (f g:Nat->Int):Bool:=oy (dg f).toList (dg g).toList
theorem DP(f:Nat->Int):mw f f=true:=ncm (ks:=lV 32 [.i]) (ys:=(dg f).toList) rfl
def sD (a b:Int):Int×Int:=if eg a/\eg b then(a*b%4611686018427377339,0)else(0,40)
theorem nCn{a b:Int}(h:¬(eg a/\eg b)):sD a b=(0,40):=by unfold sD;rw[if_neg h]
theorem njn{a b:Int}(ha:eg a)(hb:eg b):sD a b=(a*b%4611686018427377339,0):=by unfold sD;rw[if_pos ⟨ha,hb⟩]
theorem Uz{x:Int}(h:¬(if eg x then(0:Int)else 40)=0):¬eg x:=λg=>h (if_pos g)
theorem ntg{x:Int}(h:(if eg x then(0:Int)else 40)=0):eg x:=by grind
def Ip (a b:Int) (j:Nat):Int:=match j with|0=>a|_=>b
theorem DQ(a b:Int)(j:Nat)(h:j<2):(#[ab a,ab b]:Array Value)[j]? =some (ab (Ip a b j)):=by
 match j,h with
 |0,_=>rfl
 |1,_=>rfl
theorem nvp(a b:Int)(w:World):Calls prog 127 #[ab a,ab b] w (aL w (qP (sD a b))):=by
 refine eN func127 ntmps127 ?_;refine B 11 ?_;refine rv rfl rfl rfl (yC underlying330 zeroValue330 sizeOf3 rfl rfl rfl rfl) ?_;refine B 4 ?_;refine CJ.lp (α:=Nat) [0,1,11] (λj=>[(12,ab (j:Int))]) (λj=>[]) (λj=>j<=2/\(1<=j->eg a)/\(2<=j->eg b)) (λj=>2-j) 0 ⟨by omega,λh=>absurd h aa,λh=>absurd h aa⟩ ?_;rintro j ⟨hj,JR,afH⟩;refine B 6 ?_;refine aG ?_ ?_
 ·intro ar;refine B 6 ?_;refine rq (ab (Ip a b j)) (uh underlying330 isAgg3 sizeOf3 rfl rfl aa aa (by rw[xj];exact DQ a b _ aa)) (congrArg (λk=>ab (Ip a b k)) aa) ?_;refine B 6 ?_;obtain⟨e,he⟩:∃e,(if eg (Ip a b j)then(0:Int)else 40)=e:=⟨_,rfl⟩;refine zLd ?_;refine B 9 ?_;refine aG ?_ ?_
  ·intro aN;refine B 13 ?_;refine nS results127 rfl rfl A0 ?_ ?_
   ·exact congrArg ab (by rw[nCn (λg=>by match j,he with|0,he=>exact Uz (x:=Ip a b 0) JS g.1|j+1,he=>exact Uz (x:=Ip a b (j+1)) JS g.2)])
   exact congrArg ab (by rw[nCn (λg=>by match j,he with|0,he=>exact Uz (x:=Ip a b 0) JS g.1|j+1,he=>exact Uz (x:=Ip a b (j+1)) JS g.2),<-he];exact if_neg (Uz JS))
  intro aN;refine B 7 ?_;refine ag (j+1) ⟨by omega,λ_=>by match j,JR,he with|0,_,he=>exact ntg (x:=Ip a b 0) JS|j+1,JR,_=>exact JR aa,λh=>by match j,hj,he with|0,_,_=>exact absurd h aa|1,_,he=>exact ntg (x:=Ip a b 1) JS|j+2,hj,_=>exact absurd ar aa⟩
 intro ar;refine B 6 ?_;have hj2:j=2:=by omega
 have hga:=JR aa;have Wg:=afH aa;have gj:=hga.1;have dB:=hga.2.1;have hb1:=Wg.1;have di:=Wg.2.1;have xg:=Int.emod_nonneg (a*b) (b:=4611686018427377339) zA;have cF:=Int.emod_lt_of_pos (a*b) (b:=4611686018427377339) zA;refine B 5 ?_;refine call call190 rfl rfl rfl (λW hS=>ncf a b aa aa aa aa W) ?_;refine B 6 ?_;refine nS results127 rfl rfl A0 ?_ ?_
 ·exact congrArg ab (by rw[njn hga Wg])
 exact congrArg ab (by rw[njn hga Wg])
def Xf:List TK:=lV 3 [.i]
theorem eqA248:uo prog 2 248 Xf:=uo.array underlying248 sizeOf100 rfl ((lx.int underlying100 isAgg100).up zA:lx prog 1 100 [.i])
theorem PS:prog.eqGuardType prog.depth 248=false:=by kernel_rfl
def oT (Z:Fx) (p:Int) (msg:List UInt8) (r s:Int):Bool:=decide (eg p/\eg r/\qv s/\(Z.ge 4 s).1=(sD r (Z.ge p (Cv Z r p msg)).1).1)
theorem nco{x e:Int}(h:(if eg x then(0:Int)else 40)=e):e=0↔eg x:=⟨λg=>ntg (h.trans g),λg=>by rw[<-h,if_pos g]⟩
theorem DR{x e:Int}(h:(if oO x then(1:Int)else 0)=e):e=0↔qv x:=by
 all_goals(simp_all[qv,nOi,nHk];omega)
theorem JT{p r s e1 e2 e3:Int}{msg:List UInt8}(h1:e1=0↔eg p)(h2:e2=0↔eg r)(h3:e3=0↔qv s)(h:¬(e1=0/\e2=0/\e3=0)):bN= .bool (oT Z p msg r s):=by
 refine vb (decide_eq_false ?_).symm;all_goals grind
theorem DS{p r s e1 e2 e3 e:Int}{msg:List UInt8}{m:Int×Int}(h1:e1=0↔eg p)(h2:e2=0↔eg r)(h3:e3=0↔qv s)(h:e1=0/\e2=0/\e3=0)(he:Cv Z r p msg=e)(hm:sD r (Z.ge p e).1=m):Value.bool (decide ((Z.ge 4 s).1=m.1))= .bool (oT Z p msg r s):=by
 subst he;subst hm;refine vb (decide_eq_decide.2 ?_);all_goals grind
theorem afJ(hZ:FxOk Z)(a k:Int)(w:World):Calls prog 125 #[ab a,ab k] w (aL w (qP (Z.ge a k))):=by
 rw[<-hZ.ge];exact nik a k w
theorem eq3(a b c:Int):(!oy [ab a,ab b,ab c] [ab 0,ab 0,ab 0])=decide (¬(a=0/\b=0/\c=0)):=by grind [oy,PT]
theorem nRc(hZ:FxOk Z)(p r s:Int)(msg:List UInt8)(bm om cm:Nat)(vm:msg.length<=100000000000)(w:World)(oR:bZ w bm om msg)(hg:Glb w):Calls prog 75 #[ab p,.slice (some ⟨bm,om,none⟩) msg.length cm,.agg #[ab r,ab s]] w (aL w (.bool (oT Z p msg r s))):=by
 have W6:=oR.lt;obtain⟨e1,uq⟩:∃e,(if eg p then(0:Int)else 40)=e:=⟨_,rfl⟩;obtain⟨e2,Iq⟩:∃e,(if eg r then(0:Int)else 40)=e:=⟨_,rfl⟩;obtain⟨e,he⟩:∃e,Cv Z r p msg=e:=⟨_,rfl⟩;obtain⟨m,hm⟩:∃m,sD r (Z.ge p e).1=m:=⟨_,rfl⟩;have pY:=nco uq;have Xh:=nco Iq;have hg4:=hg.lt;obtain⟨e3,Xi⟩:∃e,(if oO s then(1:Int)else 0)=e:=⟨_,rfl⟩;have hi3:=DR Xi;refine eN func75 ntmps75 ?_;refine B 2 ?_;refine yX ?_;intro b5 w5 Cw Xj hz5 sq su;refine B 4 ?_;refine eS 10 9 [] (pb:=by exact zU 1 (k:=by exact aU (nf call65 rfl rfl (λW hS _=>by rw[<-uq];exact nO p W) (λ_=>rfl)) (zU 2 (k:=by exact aU (nf call65 rfl rfl (λW hS _=>by rw[<-Iq];exact nO r W) (λ_=>rfl)) (zU 2 (k:=by exact aU (nf call123 rfl rfl (λW hS _=>by rw[<-Xi];exact nLm s W) (λ_=>rfl)) (aU (X.v (RV.re (yC underlying248 zeroValue248 sizeOf100 rfl rfl rfl rfl) rfl)) zT))))))) (sp:=[_,some (ab e1),_,some (ab r),some (ab e2),_,some (ab s),some (ab e3),some (.agg #[ab e1,ab e2,ab e3]),_]) (h:=?_);intro _ _ hk;refine B 1 ?_;intro b7 ha ho;have jN:(w5.heap.size<=b7/\w.heap.size<=b7):=⟨ha.1,ha.2.1⟩;refine zE ?_;refine B 8 ?_;refine rq (.bool (decide (¬(e1=0/\e2=0/\e3=0)))) (eF eqA248 zA PS rfl rfl rfl) (vb (eq3 e1 e2 e3)) ?_;refine B 2 ?_;refine aG ?_ ?_
 ·intro ar;refine B 7 ?_;refine cC (.inl rfl) results75 aX A1 zB ?_;exact JT pY Xh hi3 (by simpa using ar)
 intro ar;refine B 6 ?_;refine call call124 rfl rfl rfl (λW hS=>Nn hZ _ W) ?_;refine B 14 ?_;refine Ic ?_;refine yV ?_;intro b38 w38 afL afM am1 am2 am3;refine call call126 rfl rfl rfl (λW hS=>noi hZ r p e msg he vm bm om cm b38 _ _ _ W (oR.old hS A2 zJ zz) (hS.old A0 afL afM zz) (hg.old hS A2 zH zD)) ?_;refine call call125 rfl rfl rfl (λW hS=>afJ hZ p e W) ?_;refine B 12 ?_;refine call call127 rfl rfl rfl (λW hS=>by rw[<-hm];exact nvp _ _ W) (v:=qP m) ?_;refine B 16 ?_;refine cC (.inl rfl) results75 aX A2 zB ?_;exact DS pY Xh hi3 (by simpa using ar) he hm
def oA (n:Nat):List Nat:=if h:1<n then n::oA (n/2)else[]
termination_by n
decreasing_by omega
theorem UA{n:Nat}(h:1<n):oA n=n::oA (n/2):=by rw[oA,dif_pos h]
theorem Xk{n:Nat}(h:¬1<n):oA n=[]:=by rw[oA,dif_neg h]
theorem nBn(n:Nat):(oA n).length<=n:=by induction n using Nat.strongRecOn<;>grind [UA,Xk]
theorem JU{n:Nat}:∀x∈oA n,1<x/\x<=n:=by induction n using Nat.strongRecOn<;>grind [UA,Xk]
def ur (n:Nat):Nat:=n/2
def yD (n:Nat):Nat:=n^^^1
theorem JV(n:Nat)(h:n<4611686018427387904):IntKind.i64.wrap ((BitVec.ofInt 64 (n:Int)^^^BitVec.ofInt 64 1).toNat:Int)=((yD n:Nat):Int):=by
 have h1:n^^^1<2^62:=Nat.xor_lt_two_pow aa zA;have e1:(BitVec.ofInt 64 (n:Int))=BitVec.ofNat 64 n:=by simp
 have e2:(BitVec.ofInt 64 1)=BitVec.ofNat 64 1:=rfl;rw[e1,e2,BitVec.toNat_xor,BitVec.toNat_ofNat,BitVec.toNat_ofNat,Nat.mod_eq_of_lt (a:=n) aa];show IntKind.i64.wrap ((n^^^1:Nat):Int)=((n^^^1:Nat):Int);generalize n^^^1=m at *;simp[IntKind.wrap,IntKind.bits,IntKind.signed];omega
abbrev ee (d:Int):Prop:=0<=d/\d<512
theorem Xl:prog.info? 3=some Tryz.t3:=by kernel_rfl
theorem Nt:jH prog 55 3 1:=⟨underlying55,Tryz.t3,ab 0,Xl,rfl,rfl,rfl,by decide⟩
theorem nHi(d:Int)(h:ee d)(w:World):Calls prog 37 #[ab d] w (aL w (.tuple #[ab (512+d),ab 0])):=by
 have h1:=h.1;have h2:=h.2;refine eN func37 ntmps37 ?_;refine O9 ?_;refine xp ?_;refine B 15 ?_;refine nS results37 rfl rfl A0 ?_ ?_;all_goals rfl
theorem nYk(d:Int)(h:¬ee d)(w:World):Calls prog 37 #[ab d] w (aL w (.tuple #[ab 0,ab 200])):=by
 refine eN func37 ntmps37 ?_;refine B 12 ?_;refine ni (t:=6) rfl (λar=>?_) (λar=>?_)
 ·replace ar:=ya ar;refine B 14 ?_;exact zMg
 replace ar:=ya ar;refine B 5 ?_;refine aG ?_ ?_
 ·intro aN;refine B 8 ?_;exact zMg
 intro aN;refine B 11 ?_;exact zMg
theorem nHh(n:Nat)(h:n<4611686018427387904)(w:World):Calls prog 188 #[ab (n:Int)] w (aL w (ab ((ur n:Nat):Int))):=by
 refine eN func188 ntmps188 ?_;refine B 8 ?_;refine rv rfl rfl rfl (DT rfl rfl aa aa aa) ?_;refine B 4 ?_;refine aF results188 rfl A0 ?_;exact congrArg ab (by unfold ur;omega)
theorem nMl(n:Nat)(h:n<4611686018427387904)(w:World):Calls prog 303 #[ab (n:Int)] w (aL w (ab ((yD n:Nat):Int))):=by
 refine eN func303 ntmps303 ?_;refine B 8 ?_;refine rq (ab ((yD n:Nat):Int)) (yr rfl rfl) (congrArg ab (JV n h)) ?_;refine B 4 ?_;refine aF results303 rfl A0 ?_;rfl
theorem DU(n:Nat)(w:World):Calls prog 251 #[ab (n:Int)] w (cK w (λb:Nat=>.func (.func 291) #[] #[ptr b 0]) (λb w1=>w.heap.size<=b/\True/\w1.heap[b]? =some (oC #[ab (n:Int)] 312))):=by
 refine eN func251 ntmps251 ?_;refine B 2 ?_;refine yX ?_;intro b1 w1 hb1 cF gK gj jy;refine B 10 ?_;refine rY b1 results251 rfl A1 rfl ?_;exact λW hS=>⟨gj.1,True.intro,hS.old A0 hb1 cF trivial⟩
theorem JW(n:Nat)(hn:n<4611686018427387904)(b:Nat)(W:World)(hb1:W.heap[b]? =some (oC #[ab (n:Int)] 312)):ue prog 291 [ptr b 0] (λm:Nat=>[ab (m:Int)]) (Ci (oA n)) (Is (oA n)) (λk=>k=b) (λ_=>False) W:=by
 intro l M I X0 hM hI hX hy h0;refine nB (dt hM (λ_=>False) (hI [] _)) [(b,oC #[ab (n:Int)] 312)] (vs:=[_,_]) func291 rfl ntmps291 rfl (Na hM (hI [] _) h0 (by intro p hp;simp at hp;subst hp;exact hb1) (DV _) zI) ?_;refine B 1 ?_;refine CJ.loop (α:=(List Nat×Nat)×aE) (λp=>[(0,yv l),(1,ptr b 0)]) (λp=>[(b,oC #[ab (p.1.2:Int)] 312)]) (λp=>[W]) (λp=>dt hM p.2 (hI p.1.1 p.2)) (λp=>p.1.1++oA p.1.2=oA n/\p.1.2<=n/\∀k,p.2 k->W.heap.size<=k) (λp=>p.1.2) (([],n),λ_=>False) ⟨rfl,ak _,λ_ h=>h.elim⟩ ⟨rfl,rfl,trivial⟩ rfl rfl zI ?_;rintro⟨⟨pre,m⟩,V⟩ ⟨sa,hmn,hV⟩;dsimp only at sa hmn hV ⊢;refine B 6 ?_;refine ni (t:=5) rfl (λar=>?_) (λar=>?_)
 ·replace ar:=ya ar;refine B 2 ?_;refine Bl (λV=>hI (pre++[m]) V) hX hV zI rfl rfl rfl rfl (λW1 uf kX=>hy (pre) (m) V W1 ⟨oA (m/2),by rw[iY,<-sa,UA (n:=m) aa];rfl⟩ uf kX) ?_ ?_
  ·intro V hV;refine B 13 ?_;refine call call188 rfl rfl rfl (λW hS=>nHh m aa W) ?_;refine kY (i:=0) rfl sizeOf312 rfl rfl rfl rfl (ea rfl) rfl ?_;refine B 1 ?_;refine PJ.again ((pre++[m],ur m),V) ⟨by dsimp only;rw[<-sa,UA (n:=m) aa,iY];rfl,by dsimp only[ur];omega,hV⟩ (by dsimp only[ur];omega) ⟨rfl,rfl,trivial⟩ rfl rfl zI
  intro V hV;refine B 8 ?_;exact Bm (.inr rfl) results291 A0 hV zI (λA hA=>.inr hA)
 replace ar:=ya ar;refine B 11 ?_;exact Bm (.inr rfl) results291 A0 hV zI (λA hA=>.inl ⟨pre,by rw[<-sa,Xk aa,eb],hA⟩)
theorem n6o(fo:Nat->Nat)(pre:List Nat)(x:Nat):(pre++[x]).map (λn=>((fo n:Nat):Int))=pre.map (λn=>((fo n:Nat):Int))++[((fo x:Nat):Int)]:=by simp
theorem nBh(fo:Nat->Nat)(g:Nat)(az:ew prog g)(Nu:∀(n:Nat) (w:World),n<4611686018427387904->Calls prog g #[ab (n:Int)] w (aL w (ab ((fo n:Nat):Int))))(d:Int)(kk:Nat)(JX:512+d=(kk:Int))(hd:ee d)(w:World):Calls prog 187 #[ab d,.func (.func g) #[] #[]] w (aD w aA 1 3 (List.map (λn=>((fo n:Nat):Int)) (oA kk)) (λs=>.tuple #[s,ab 0])):=by
 have hd1:=hd.1;have hd2:=hd.2;have hul:=nBn kk;refine Pe Gh.no [] (vs:=[_,_]) func187 rfl ntmps187 rfl (Je w) ?_;refine B 2 ?_;refine yX ?_;intro b3 w3 cZ cu fC ez eP;refine B 1 ?_;refine yW ?_;intro b4 ji jj;refine B 6 ?_;refine call call37 rfl rfl rfl (λW hS=>by rw[<-JX];exact nHi d hd W) (v:=.tuple #[ab (kk:Int),ab 0]) ?_;refine B 11 ?_;refine ay bN ?_;refine B 9 ?_;refine Pr (α:=Nat) (v:=λb=>.func (.func 291) #[] #[ptr b 0]) (bo:=λb=>(b,oC #[ab (kk:Int)] 312)) (Φ:=λ_=>True) call251 rfl rfl rfl (λW hS=>DU kk W) ?_;intro bu sE xq _;dsimp only at sE xq ⊢;replace sE:=yb sE;simp only[bA,and_true]at xq;refine B 3 ?_;refine nHo (f:=291) (cap:=[ptr bu 0]) (α:=Nat) (enc:=(λm:Nat=>[ab (m:Int)])) (Pre:=Ci (oA kk)) (Fin:=Is (oA kk)) (RO:=λ_=>False) (i:=0) (b:=bu) (o:=oC #[ab (kk:Int)] 312) (H:=[(b4,oC #[aj] 55)]) rfl rfl zC zJ rfl call291 (λW W2 hS fP hB=>JW kk aa bu W2 (by rw[hB.block bu (aT.1 fP).1];exact fP)) (λ_ _ _ hk=>hk.elim) (λ_=>rfl) (λpre G' Hc=>G'=Gh.no/\∃r:Rw,r.Fr Gh.no [w3,w]/\r.Fit 1 (List.map (λn=>((fo n:Nat):Int)) pre)/\Hc=[(b4,oC #[r.val (List.map (λn=>((fo n:Nat):Int)) pre).length] 55)]++(r.hp aA 3 (List.map (λn=>((fo n:Nat):Int)) pre)++[])) (λ_ _ _=>False) ⟨rfl,.nil,True.intro,rfl,rfl⟩ zA ?_ ?_ ?_
 ·rintro pre x G' Hc l Dk rec W1 M V Wy ow vk dS ⟨rfl,r,aK,ah,rfl⟩ iQ lK Pg xZ dz C6;simp only[ae]at iQ xZ;have bG:r.ge w3.heap.size:=Rw.ge_of aK A0;have cu:=dz.z (k:=b3) aa zJ oN zJ;have hxm:=JU x (dS.subset zI);have iH:=dS.length_le;simp only[cy,dF,fh]at iH;have DW:∀p∈r.hp aA 3 (List.map (λn=>((fo n:Nat):Int)) pre),M p.1\/V p.1:=λp hp=>dz.loc.h p UB;refine B 3 ?_;refine Nc ow ?_;refine B 1 ?_;refine eS 5 4 [] (pb:=by exact zU 3 (k:=by exact aU (npn (first:=[]) (cap:=[]) rfl az rfl rfl (λW hS _=>Nu x W aa) (λ_=>rfl)) zT)) (h:=?_);intro _ _ hk;refine Ic ?_;intro b23 w23 PN ha PQ PO hz;refine zE ?_;refine kg (r:=r) (xs:=(List.map (λn=>((fo n:Nat):Int)) pre)) (zs:=[((fo x:Nat):Int)]) (enc:=aA) (m:=1) (H0:=[(b4,oC #[r.val (List.map (λn=>((fo n:Nat):Int)) pre).length] 55)]) (H1:=(l,.loop {rec with state:=.busy})::fG Dk) zW Nt nz rfl rfl rfl rfl (cd.one (z:=((fo x:Nat):Int)) nz Nv underlying55 (bB.old A0 PN PO PQ)) ah (Rw.Fr_ext DW) zI PU ?_;intro fH uu lW pZ qV;replace pZ:=yb pZ;refine B 3 ?_;refine By (L':=[Wy,w3,w]) zI ?_;refine Jg (G2:=Gh.no) (Hc2:=[(b4,oC #[(Rw.row fH uu lW).val ((List.map (λn=>((fo n:Nat):Int)) pre)++[((fo x:Nat):Int)]).length] 55)]++((Rw.row fH uu lW).hp aA 3 ((List.map (λn=>((fo n:Nat):Int)) pre)++[((fo x:Nat):Int)])++[])) dz lK ⟨λ_ h=>h,λ_ h=>.inl h,λ_ h=>.inl h,(UC rfl (pZ.imp id (λh=>h.2.1))),zLc⟩ (Jh ow vk) ?_
  rw[n6o];exact⟨rfl,.row fH uu lW,pZ.elim (λh=>Rw.Fr_at aK h) (λh=>.inr h.2.2),qV,rfl⟩
 ·rintro pV l Dk rec G' Hc rfl iQ lK ⟨rfl,r,aK,ah,rfl⟩;replace iQ:=yb iQ;have bG:r.ge w3.heap.size:=Rw.ge_of aK A0;refine PV λWd xY=>?_;have mC:=UD xY;refine B 5 ?_;refine ie (i:=0) rfl sizeOf55 rfl rfl rfl (Rw.val_size _ _) rfl (Rw.val_one _ _) ?_;refine B 4 ?_;have hq:=λ(k:Nat)=>Rw.mem_ge (enc:=aA) (t:=3) (xs:=(List.map (λn=>((fo n:Nat):Int)) (oA kk))) (k:=k) bG;refine PJ.reH (H':=(b4,oC #[r.val (List.map (λn=>((fo n:Nat):Int)) (oA kk)).length] 55)::(r.hp aA 3 (List.map (λn=>((fo n:Nat):Int)) (oA kk))++(l,.loop rec)::fG Dk)) UE ?_;refine DX (b:=b4) (r:=r) (xs:=(List.map (λn=>((fo n:Nat):Int)) (oA kk))) (.inl rfl) results187 isAgg55 rfl rfl zI A0 (mC _ A0).1 rfl ah (λp hp=>⟨.tail _ (bj.2 (.inl hp)),(mC p (bj.2 (.inr (bj.2 (.inl hp))))).1⟩) (Rw.ge_of aK A1) (λW H' hS aQ=>(hS.links w A1).below λk hk hx=>?_);exact Xm
 exact Pj
def dK (d:Int):List Int:=(oA (512+d).toNat).map λn=>((ur n:Nat):Int)
def jI (d:Int):List Int:=(oA (512+d).toNat).map λn=>((yD n:Nat):Int)
theorem PY:ew prog 188:=call188
theorem PZ:ew prog 303:=call303
theorem nEf(d:Int)(hd:ee d)(w:World):Calls prog 112 #[ab d] w (aD w aA 1 3 (dK d) (λs=>.tuple #[s,ab 0])):=by
 obtain⟨kk,JX⟩:∃kk:Nat,512+d=(kk:Int):=⟨(512+d).toNat,by have:=hd.1;omega⟩;have e:dK d=(List.map (λn=>((ur n:Nat):Int)) (oA kk)):=by unfold dK;rw[JX,yz]
 rw[e];refine eN func112 ntmps112 ?_;refine B 9 ?_;refine It (enc:=aA) (m:=1) (t:=3) (xs:=(List.map (λn=>((ur n:Nat):Int)) (oA kk))) (v:=λs=>.tuple #[s,ab 0]) (first:=[]) (cap:=[]) rfl call187 rfl rfl rfl (λW hS=>nBh ur 188 PY (λn w h=>nHh n h w) d kk JX hd W) ?_;intro r aK ah;refine B 7 ?_;exact nP (H0:=[]) (H1:=[]) (r:=r) (.inl rfl) results112 aX A0 Xo rfl ah (Rw.ge_of aK A0) zI
theorem nPl(d:Int)(hd:ee d)(w:World):Calls prog 261 #[ab d] w (aD w aA 1 3 (jI d) (λs=>.tuple #[s,ab 0])):=by
 obtain⟨kk,JX⟩:∃kk:Nat,512+d=(kk:Int):=⟨(512+d).toNat,by have:=hd.1;omega⟩;have e:jI d=(List.map (λn=>((yD n:Nat):Int)) (oA kk)):=by unfold jI;rw[JX,yz]
 rw[e];refine eN func261 ntmps261 ?_;refine B 9 ?_;refine It (enc:=aA) (m:=1) (t:=3) (xs:=(List.map (λn=>((yD n:Nat):Int)) (oA kk))) (v:=λs=>.tuple #[s,ab 0]) (first:=[]) (cap:=[]) rfl call187 rfl rfl rfl (λW hS=>nBh yD 303 PZ (λn w h=>nMl n h w) d kk JX hd W) ?_;intro r aK ah;refine B 7 ?_;exact nP (H0:=[]) (H1:=[]) (r:=r) (.inl rfl) results261 aX A0 Xo rfl ah (Rw.ge_of aK A0) zI
def eZ (xs:List Int):List Int:=xs.mergeSort λx y=>decide (x<=y)
theorem JY(xs:List Int):(eZ xs).length=xs.length:=List.length_mergeSort _
theorem Xp(hl:xs.length<=1000000){cap t:Nat}(bM:(Rw.row b cap sp).Fit 1 xs)(h:W.heap[b]? =some (aP aA t xs sp)):Calls prog 192 #[.slice (ao b) xs.length cap] W (λe w'=>∃bT,e= .returned ((λ_=>.tuple #[]) (Rw.row b cap bT))/\aH (· =b) W w'/\(Rw.row b cap bT).Fit 1 (eZ xs)/\w'.heap[b]? =some (aP aA t (eZ xs) bT)):=by
 have hc:=Any.slices_Sort_int Tryz.laySort b 0 cap xs W (DY h) (aT.1 h).1 aa;change Calls prog 192 _ _ _ at hc;refine hc.mono ?_;rintro e w' ⟨rfl,n,os,rfl⟩;obtain⟨h1,h2⟩:=Xq (n:=n) (os:=os) h (JY xs);exact⟨sp,rfl,h1,by simp only[Rw.Fit,JY];exact bM,h2⟩
theorem DZ(W:World):Calls prog 192 #[aj] W (λe w'=>e= .returned (.tuple #[])/\Below W.heap.size W w'):=by
 have hc:=Any.slices_Sort_int_none Tryz.laySort none 0 W;change Calls prog 192 _ _ _ at hc;refine hc.mono ?_;rintro e w' ⟨rfl,h⟩;refine⟨rfl,?_⟩;first
  |(obtain⟨n,rfl⟩:=h;exact D2 W _)
  |(subst h;exact Below.refl _ _)
theorem Xr(hl:xs.length<=1000000){cap t:Nat}(bM:(Rw.row b cap sp).Fit 1 xs)(h:W.heap[b]? =some (aP aA t xs sp)):Calls prog 250 #[.slice (ao b) xs.length cap] W (λe w'=>∃bT,e= .returned ((λr=>r.val (Go.Lib.compact xs).length) (Rw.row b cap bT))/\aH (· =b) W w'/\(Rw.row b cap bT).Fit 1 (Go.Lib.compact xs)/\w'.heap[b]? =some (aP aA t (Go.Lib.compact xs) bT)):=by
 obtain⟨f1,f2⟩:=bM;have hc:=Any.slices_Compact_int Tryz.layCompact b 0 cap xs W (DY h) aa f1;change Calls prog 250 _ _ _ at hc;refine hc.mono ?_;rintro e w' ⟨rfl,q,rfl⟩;have hle:=Go.Lib.compact_length_le xs;obtain⟨h1,h2⟩:=Xq (n:=q) (os:=#[]) (ys:=Go.Lib.compact xs++List.replicate (xs.length-(Go.Lib.compact xs).length) 0) h oN;rw[Go.Sort.grow_empty]at h1 h2;refine⟨gX aA (List.replicate (xs.length-(Go.Lib.compact xs).length) 0)++sp,rfl,h1,⟨by omega,?_⟩,?_⟩
 ·rw[cy,nW nz,List.length_replicate,f2];omega
 rw[h2];simp only[aP,Nw,iY]
theorem nKn(h:Rw.nil.Fit 1 xs)(W:World):Calls prog 192 #[Rw.nil.val xs.length] W (λe w'=>e= .returned ((λ_=>.tuple #[]) Rw.nil)/\eZ xs=[]/\Below W.heap.size W w'):=
 (DZ W).mono λe w' ⟨h1,h2⟩=>⟨h1,by have:xs=[]:=h;subst this;simp[eZ],h2⟩
theorem nGp(W:World):Calls prog 250 #[aj] W (λe w'=>e= .returned (aj)/\Below W.heap.size W w'):=by
 have hc:=Any.slices_Compact_int_empty Tryz.layCompact none 0 W;change Calls prog 250 _ _ _ at hc;refine hc.mono ?_;exact zNh
theorem JZ(h:Rw.nil.Fit 1 xs)(W:World):Calls prog 250 #[Rw.nil.val xs.length] W (λe w'=>e= .returned ((λr=>r.val (Go.Lib.compact xs).length) Rw.nil)/\Go.Lib.compact xs=[]/\Below W.heap.size W w'):=
 (nGp W).mono λe w' ⟨h1,h2⟩=>⟨h1,by have:xs=[]:=h;subst this;rfl,h2⟩
structure Nd where
 at_:Int
 pub:Int
def gS (n:Nd):List Value:=[ab n.at_,ab n.pub]
def gb (n:Nd):Array Value:=#[ab n.at_,ab n.pub]
theorem P0(n:Nd):(gS n).length=2:=rfl
theorem J0(n:Nd):∀u∈gS n,u.oneCell'=true:=by intro u hu;simp[gS]at hu;rcases hu with rfl|rfl<;>rfl
def pG (ns:List Nd):List Int:=(ns.filter λn=>decide (512<=n.at_/\n.at_<=1023)).map λn=>n.at_-512
variable {ns:List Nd} {x:Nd}
theorem nxj(hx:ns[j]? =some x)(h1:512<=x.at_)(h2:x.at_<=1023):pG (ns.take (j+1))=pG (ns.take j)++[x.at_-512]:=by
 rw[nq hx];simp[pG,h1,h2]
theorem nmf(hx:ns[j]? =some x)(h:¬(512<=x.at_/\x.at_<=1023)):pG (ns.take (j+1))=pG (ns.take j):=by simp_all[nq,pG]
theorem nHj(ns:List Nd)(j:Nat):(pG (ns.take j)).length<=j:=by grind [pG]
theorem J1(ns:List Nd)(j:Nat)(h:¬j<ns.length):pG (ns.take j)=pG ns:=by rw[jZ aa]
def eh (ns:List Nd):List Int:=Go.Lib.compact (eZ (pG ns))
theorem n2l(ns:List Nd):(eh ns).length<=ns.length:=by
 have h1:=Go.Lib.compact_length_le (eZ (pG ns));all_goals grind [nHj,JY,eh,List.take_length]
theorem D3:prog.info? 240=some Tryz.t240:=by kernel_rfl
theorem n1b(ns:List Nd)(hn:ns.length<=100000)(N:Nat)(a:Option Addr)(cp:Nat)(w:World)(hN:N<=w.heap.size)(aJ:ai gb 2 N w a ns):Calls prog 186 #[.agg #[.slice a ns.length cp]] w (aD w aA 1 3 (eh ns) id):=by
 have hlA:=nHj ns ns.length;rw[vS]at hlA;refine eN func186 ntmps186 ?_;refine B 2 ?_;refine yX ?_;intro b1 w1 hb1 cF gK gj jy;refine B 7 ?_;refine ay (.slice a ns.length cp) ?_;refine B 5 ?_;refine CJ.loop (α:=Rw×Nat) (λp=>[(1,ptr b1 0),(2,p.1.val (pG (ns.take p.2)).length),(6,.slice a ns.length cp),(7,ab (ns.length:Int)),(8,ab (p.2:Int))]) (λp=>p.1.hp aA 3 (pG (ns.take p.2))++[]) (λp=>[w1,w]) (λp=>Gh.no) (λp=>p.2<=ns.length/\p.1.Fr Gh.no [w1,w]/\p.1.Fit 1 (pG (ns.take p.2))) (λp=>ns.length-p.2) (.nil,0) ⟨cR _,True.intro,rfl⟩ zR rfl rfl zI ?_;rintro⟨r,j⟩ ⟨hj,aK,ah⟩;dsimp only at hj aK ah ⊢;have bG:r.ge w1.heap.size:=Rw.ge_of aK A0;have Pq:=nHj ns j;refine B 6 ?_;refine aG ?_ ?_
 ·intro ar;refine B 5 ?_;obtain⟨bo,oo,cs0,to,fV,rfl,fP,cJ,aV⟩:=aJ.get aa;obtain⟨x,hx⟩:=ng ns j aa;refine B 2 ?_;refine ay (.agg (gb x)) ?_;refine B 1 ?_;refine yW ?_;intro b4 ji jj;refine B 9 ?_;refine ni (t:=15) rfl (λaN=>?_) (λaN=>?_)
  ·replace aN:=ya aN;refine B 6 ?_;refine aG ?_ ?_
   ·intro dp;refine B 5 ?_;refine D4 ?_;refine yW ?_;intro fH Xs Xt;refine kg (r:=r) (xs:=(pG (ns.take j))) (zs:=[(x.at_-512)]) (enc:=aA) (m:=1) (H0:=[(fH,oC #[ab (x.at_-512)] 3),(b4,oC (gb x) 240)]) (H1:=[]) zW Nt nz rfl rfl rfl rfl (cd.one (z:=x.at_-512) nz Nv underlying55 (bB.own (i:=0) rfl)) ah aK zI Au ?_;intro b25 P1 P2 yE yF;replace yE:=yb yE;refine Cy ?_;refine PJ.again (Rw.row b25 P1 P2,j+1) ⟨by dsimp only;omega,yE.elim (λh=>Rw.Fr_at aK h) (λh=>.inr h),by rw[nxj hx aa aa];exact yF⟩ zS ⟨rfl,by rw[nxj hx aa aa];rfl,rfl,rfl,rfl,trivial⟩ (by rw[nxj hx aa aa];rfl) rfl zI
   intro dp;refine xr ?_;exact zXg
  replace aN:=ya aN;refine B 14 ?_;refine p5 ?_;exact zXg
 intro ar;refine B 6 ?_;have ck:=J1 ns j aa;rw[ck]at ah ⊢;refine B 2 ?_;refine D5 (r:=r) (enc:=aA) (m:=1) (t:=3) (xs:=pG ns) (ys:=eZ (pG ns)) (H0:=[]) (H1:=[]) (v:=λ_=>.tuple #[]) rfl call192 rfl rfl rfl (λhr W _=>by subst hr;exact nKn ah W) (λb cap sp hr W _ h=>by subst hr;exact Xp aa ah h) ?_;intro r2 eG ly qW jP;have iI:=ly aK;have eu:=qW _ bG;refine B 5 ?_;refine D5 (r:=r2) (enc:=aA) (m:=1) (t:=3) (xs:=eZ (pG ns)) (ys:=eh ns) (H0:=[]) (H1:=[]) (v:=λr=>r.val (eh ns).length) rfl call250 rfl rfl rfl (λhr W _=>by have e:=jP (pG ns).length;rw[<-e];subst hr;rw[<-JY (pG ns)];exact JZ eG W) (λb cap sp hr W _ h=>by have e:=jP (pG ns).length;rw[<-e];subst hr;rw[<-JY (pG ns)];exact Xr (by rw[JY];omega) eG h) ?_;intro r3 mD uw D6 D7;have J2:=uw iI;have pH:=D6 _ eu;refine B 4 ?_;exact nP (H0:=[]) (H1:=[]) (r:=r3) (.inl rfl) results186 aX A1 (by rw[eb];exact Rw.over (Rw.ge_of J2 A1)) rfl mD (Rw.ge_of J2 A1) zI
def Nx (kv:List (Int×Int)) (n:Nd):List (Int×Int):=if(bU kv n.at_).isSome then kv else dD kv n.at_ n.pub
def dP (ns:List Nd):List (Int×Int):=ns.foldl Nx []
theorem nHm(hx:ns[j]? =some x):dP (ns.take (j+1))=Nx (dP (ns.take j)) x:=by
 rw[nq hx];simp[dP,Iu]
theorem nun(hx:ns[j]? =some x)(h:(bU (dP (ns.take j)) x.at_).isSome=false):dP (ns.take (j+1))=dD (dP (ns.take j)) x.at_ x.pub:=by
 rw[nHm hx];unfold Nx;rw[if_neg (by rw[h];decide)]
theorem D8(hx:ns[j]? =some x)(h:(bU (dP (ns.take j)) x.at_).isSome=true):dP (ns.take (j+1))=dP (ns.take j):=by
 rw[nHm hx];unfold Nx;rw[if_pos h]
theorem J3(ns:List Nd)(j:Nat)(h:¬j<ns.length):dP (ns.take j)=dP ns:=by rw[jZ aa]
theorem Xu{β:Type}(l:List (Int×β))(k:Int)(v:β):(dD l k v).length<=l.length+1:=by
 unfold dD;split<;>simp
theorem UF(ns:List Nd):(dP ns).length<=ns.length:=by
 have key:∀(l:List Nd) (kv:List (Int×Int)),(l.foldl Nx kv).length<=kv.length+l.length:=by
  intro l;induction l with
  |nil=>intro kv;simp
  |cons n l ih=>
   intro kv;have h1:=ih (Nx kv n);have h2:(Nx kv n).length<=kv.length+1:=by unfold Nx;split;omega;exact Xu _ _ _
   simp only[List.foldl_cons,dF];omega
 simpa[dP]using key ns []
theorem nbe(ns:List Nd)(hn:ns.length<=100000)(N:Nat)(a:Option Addr)(cp:Nat)(w:World)(hN:N<=w.heap.size)(aJ:ai gb 2 N w a ns):Calls prog 67 #[.agg #[.slice a ns.length cp]] w (D9 w ab (dP ns) id):=by
 refine eN func67 ntmps67 ?_;refine B 2 ?_;refine yX ?_;intro b1 w1 hb1 cF gK gj jy;refine B 5 ?_;refine J4 ab rfl rfl ?_;refine yW ?_;intro b8 Ig Ii;refine B 7 ?_;refine ay (.slice a ns.length cp) ?_;refine B 5 ?_;refine CJ.lp (α:=Mp×Nat) [1,3,10,11] (λp=>[(12,ab (p.2:Int))]) (λp=>[(b8,p.1.obj ab (dP (ns.take p.2)))]) (λp=>p.2<=ns.length/\p.1.Ok (dP (ns.take p.2))) (λp=>ns.length-p.2) (⟨[],0⟩,0) ⟨cR _,Mp.nil⟩ ?_;rintro⟨m,j⟩ ⟨hj,hm⟩;dsimp only at hj hm ⊢;refine B 6 ?_;refine aG ?_ ?_
 ·intro ar;refine B 5 ?_;obtain⟨bo,oo,cs0,to,fV,rfl,fP,cJ,aV⟩:=aJ.get aa;obtain⟨x,hx⟩:=ng ns j aa;refine B 2 ?_;refine ay (.agg (gb x)) ?_;refine B 1 ?_;refine yW ?_;intro b5 sq su;refine B 8 ?_;refine rv rfl rfl rfl (qz (ev:=ab) underlying165 underlying3 zeroValue3 hm (bB.own (i:=1) rfl) rfl rfl) ?_;refine B 13 ?_;refine aG ?_ ?_
  ·intro aN;refine B 6 ?_;refine Ny (i:=1) (ev:=ab) (v:=x.pub) rfl hm underlying165 underlying3 rfl rfl rfl rfl ?_;intro m2 bV;refine xr ?_;refine PJ.again (m2,j+1) ⟨by dsimp only;omega,by rw[nun hx eE];exact bV⟩ zS zR (by rw[nun hx eE];rfl) rfl zI
  intro aN;refine xr ?_;refine PJ.again (m,j+1) ⟨by dsimp only;omega,by rw[D8 hx eE];exact hm⟩ zS zR (by rw[D8 hx eE];rfl) rfl zI
 intro ar;refine B 6 ?_;have ck:=J3 ns j aa;rw[ck]at hm ⊢;refine B 6 ?_;exact Xv (i:=0) (.inl rfl) results67 aX A1 Cl rfl hm rfl
theorem Xw:∀(n:Nat) (js:List Nat),js.Nodup->(∀j∈js,j<n)->js.length<=n
 |0,js,_,h=>by
  cases js with
  |nil=>simp
  |cons j js=>have:=h j zI;omega
 |n+1,js,hd,h=>by
  have h1:=Xw n (js.erase n) (hd.erase n) (λj hj=>by
   have h2:=h j (List.mem_of_mem_erase hj);have h3:j≠n:=λe=>by subst e;exact absurd hj (by rw[hd.mem_erase_iff];simp)
   omega)
  have h2:=List.length_erase (a:=n) (l:=js);split at h2<;>omega
def Iv {β:Type} (kv:List (Int×β)) (j:Nat):Int:=((kv[j]?).map (·.1)).getD 0
theorem nwo{β:Type}{kv:List (Int×β)}{p:Int×β}(hp:kv[j]? =some p)(js:List Nat):(js++[j]).map (Iv kv)=js.map (Iv kv)++[p.1]:=by simp[Iv,hp]
theorem nko{β:Type}{kv:List (Int×β)}{js:List Nat}(hd:js.Nodup)(hl:∀j∈js,j<kv.length)(ck:∀j,j<kv.length->j∈js):(js.map (Iv kv)).Perm (kv.map (·.1)):=by
 have h1:js.Perm (List.range kv.length):=(List.perm_ext_iff_of_nodup hd List.nodup_range).2 λa=>⟨λh=>tE.2 (hl a h),λh=>ck a (tE.1 h)⟩;have h2:(List.range kv.length).map (Iv kv)=kv.map (·.1):=by
  apply List.ext_getElem zI;intro i h3 h4;simp only[eQ,List.length_range]at h3;simp[Iv,h3]
 rw[<-h2];exact h1.map _
theorem n3o{p q:List Int}(h:p.Perm q):eZ p=eZ q:=by
 have hs:∀l:List Int,(eZ l).Pairwise (λa b=>(decide (a<=b))=true):=λl=>List.pairwise_mergeSort (λa b c h1 h2=>by simp at *;omega) (λa b=>by simp;omega) l;exact List.Perm.eq_of_pairwise (λa b _ _ h1 h2=>by simp at h1 h2;omega) (hs p) (hs q) (((List.mergeSort_perm p _).trans h).trans (List.mergeSort_perm q _).symm)
theorem n6g{β:Type}{kv:List (Int×β)}{js:List Nat}{jn:Nat}{pn:Int×β}(hnd:js.Nodup)(pI:∀j∈js,j<kv.length)(xt:kv[jn]? =some pn)(sF:jn∉js):(js++[jn]).Nodup/\(∀j∈js++[jn],j<kv.length)/\js.length+1<=kv.length:=by
 exact zrg
theorem nUd(b:Nat)(m:Mp)(hm:m.Ok kv)(k:Int)(w:World)(hb:w.heap[b]? =some (m.obj ab kv)):Calls prog 113 #[.map (some b),ab k] w (λe w'=>∃m':Mp,e= .returned (.tuple #[])/\aH (· =b) w w'/\m'.Ok (jq kv k)/\w'.heap[b]? =some (m'.obj ab (jq kv k))):=by
 refine nB (Gh.lent (· =b)) [(b,m.obj ab kv)] (vs:=[_,_]) func113 rfl ntmps113 rfl (Dy hb) ?_;refine B 3 ?_;refine Xx (i:=0) (ev:=ab) rfl rfl hm underlying165 underlying3 rfl rfl rfl ?_;intro m2 bV;refine B 1 ?_;exact bK (.inr rfl) (rs:=[]) results113 aX λW hS=>⟨m2,rfl,hS.baseX A0 Nz,bV,hS.own _ A0⟩
theorem njk(mp:Option Nat)(w:World):Calls prog 116 #[.map mp] w (cK w (λb:Nat=>.func (.func 193) #[] #[ptr b 0]) (λb w1=>w.heap.size<=b/\w1.heap[b]? =some (oC #[.map mp] 165))):=by
 refine eN func116 ntmps116 ?_;refine B 2 ?_;refine yX ?_;intro b1 w1 hb1 cF gK gj jy;refine B 10 ?_;refine rY b1 results116 rfl A1 rfl ?_;exact zmh
theorem nhp(mb bx:Nat)(m:Mp)(hm:m.Ok kv)(W:World)(hb1:W.heap[bx]? =some (oC #[.map (some mb)] 165))(sG:W.heap[mb]? =some (m.obj ab kv)):ue prog 193 [ptr bx 0] aA (λp=>p.length<=kv.length) (λxs=>xs.Perm (kv.map (·.1))) (λ_=>False) (λk=>k=bx\/k=mb) W:=by
 intro l M I X0 hM hI hX hy h0;have cF:¬(dt hM (λ_=>False) (hI [] _)).X bx:=by rintro(h|h);exact(hM _ h).2.2 (.inl rfl);exact h.elim
 have Ea:¬(dt hM (λ_=>False) (hI [] _)).X mb:=by rintro(h|h);exact(hM _ h).2.2 (.inr rfl);exact h.elim
 have P3:=(aT.1 sG).1;refine zre ?_;refine B 3 ?_;refine afV (ev:=ab) underlying165 (bB.old A0 sG Ea trivial) rfl rfl rfl ?_;intro rb vU Xy;replace vU:=yb vU;refine B 3 ?_;refine CJ.loop (α:=List Nat×aE) (λp=>[(0,yv l),(5,ptr rb 0)]) (λp=>[(rb,m.it mb p.1)]) (λp=>[W]) (λp=>dt hM p.2 (hI (p.1.map (Iv kv)) p.2)) (λp=>p.1.Nodup/\(∀j∈p.1,j<kv.length)/\∀k,p.2 k->W.heap.size<=k) (λp=>kv.length-p.1.length) ([],λ_=>False) ⟨List.nodup_nil,by simp,λ_ h=>h.elim⟩ ⟨rfl,rfl,trivial⟩ rfl rfl zI ?_;rintro⟨js,V⟩ ⟨hnd,pI,hV⟩;dsimp only at hnd pI hV ⊢;have Ea:¬(dt hM V (hI (js.map (Iv kv)) V)).X mb:=by rintro(h|h);exact(hM _ h).2.2 (.inr rfl);have:=hV _ h;omega
 have Xz:=Xw kv.length js hnd pI;refine B 2 ?_;refine XA (ev:=ab) (i:=0) rfl hm (bB.old A0 sG Ea zz) pI rfl rfl rfl (λck=>?_) (λjn pn xt sF=>?_)
 ·refine B 9 ?_;exact Bm (.inr rfl) results193 A0 hV zHb (λA hA=>.inl ⟨_,nko hnd pI ck,hA⟩)
 refine B 10 ?_;refine rv rfl rfl rfl (P4 (ev:=ab) (i:=0) rfl hm (bB.old A0 sG Ea zz) xt rfl) ?_;refine B 8 ?_;refine Bl (λV=>hI (js.map (Iv kv)++[pn.1]) V) hX hV zI rfl rfl rfl rfl (λW1 uf kX=>hy (js.map (Iv kv)) (pn.1) V W1 (by have h9:=(n6g hnd pI xt sF).2.2;simp only[cy,eQ,dF,fh];omega) uf kX) ?_ ?_
 ·intro V hV;refine B 6 ?_;refine PJ.again (js++[jn],V) ⟨(n6g hnd pI xt sF).1,(n6g hnd pI xt sF).2.1,hV⟩ (by have h9:=(n6g hnd pI xt sF).2.2;simp only[cy,dF,fh];omega) ⟨rfl,rfl,trivial⟩ rfl (by dsimp only;rw[nwo xt]) zI
 intro V hV;refine B 8 ?_;exact Bm (.inl rfl) results193 A0 hV zHb (λA hA=>.inr hA)
theorem nWm{f:Nat}(az:ew prog f)(w:World)(lg:∀k,RO k->k<w.heap.size)(hlen:∀p,Pre p->p.length<=100000)(lX:∀W2,Below w.heap.size w W2->ue prog f cap aA Pre Fin (λ_=>False) RO W2):Calls prog 255 #[aj,.func (.func f) #[] cap.toArray] w (λe w'=>∃xs,Fin xs/\aD w aA 1 3 xs id e w'):=by
 refine Pe Gh.no [] (vs:=[_,_]) func255 rfl ntmps255 rfl (Je w) ?_;refine NA ?_;refine yW ?_;intro b2 dB dx;refine B 10 ?_;refine VY (f:=f) (cap:=cap) (α:=Int) (enc:=aA) (Pre:=Pre) (Fin:=Fin) (RO:=RO) (MI:=λ_=>False) rfl az (λW W2 hS hB=>lX W2 ((hS.links w A0).below (by simp only[dy,eV,bX,dE,or_false,Gh.no,false_or];omega) |>.trans (hB.mono (hS.links w A0).size))) (λ_ _ _ hk=>hk.elim) (λW hS k hk=>by have h1:=lg k hk;have h2:=(hS.links w A0).size;exact⟨by omega,by simp only[dy,eV,bX,dE,or_false];omega,λh=>h⟩) (λ_=>rfl) (λpre G' Hc=>G'=Gh.no/\∃r:Rw,r.Fr Gh.no [w]/\r.Fit 1 pre/\Hc=[(b2,oC #[r.val pre.length] 55)]++(r.hp aA 3 pre++[])) (λ_ _ _=>False) ⟨rfl,.nil,True.intro,rfl,rfl⟩ zA ?_ ?_ ?_
 ·rintro pre x G' Hc l Dk rec W1 M V Wy ow vk dS ⟨rfl,r,aK,ah,rfl⟩ iQ lK Pg xZ dz C6;simp only[ae]at iQ xZ;have bG:r.ge w.heap.size:=Rw.ge_of aK A0;have iH:=hlen _ dS;simp only[cy,dF,fh]at iH;have DW:∀p∈r.hp aA 3 pre,M p.1\/V p.1:=λp hp=>dz.loc.h p UB;refine B 3 ?_;refine Nc ow ?_;refine B 4 ?_;refine D4 ?_;refine yW ?_;intro gB lY p6;refine kg (r:=r) (xs:=pre) (zs:=[x]) (enc:=aA) (m:=1) (H0:=[(gB,oC #[ab x] 3),(b2,oC #[r.val pre.length] 55)]) (H1:=(l,.loop {rec with state:=.busy})::fG Dk) zW Nt nz rfl rfl rfl rfl (cd.one (z:=x) nz Nv underlying55 (bB.own (i:=0) rfl)) ah (Rw.Fr_ext DW) zI Au ?_;intro gR oU oV jo kL;replace jo:=yb jo;refine B 3 ?_;refine p5 ?_;refine Jg (G2:=Gh.no) (Hc2:=[(b2,oC #[(Rw.row gR oU oV).val (pre++[x]).length] 55)]++((Rw.row gR oU oV).hp aA 3 (pre++[x])++[])) dz lK ⟨λ_ h=>h,λ_ h=>.inl h,λ_ h=>.inl h,(UC rfl (jo.imp id (λh=>h.1))),zLc⟩ (Jh ow vk) ?_;exact zVg
 ·rintro pV l Dk rec G' Hc dO iQ lK ⟨rfl,r,aK,ah,rfl⟩;replace iQ:=yb iQ;have bG:r.ge w.heap.size:=Rw.ge_of aK A0;refine PV λWd xY=>?_;have mC:=UD xY;refine B 9 ?_;have hq:=λ(k:Nat)=>Rw.mem_ge (enc:=aA) (t:=3) (xs:=pV) (k:=k) bG;refine PJ.reH (H':=(b2,oC #[r.val pV.length] 55)::(r.hp aA 3 pV++(l,.loop rec)::fG Dk)) UE ?_;refine Bz (.inl rfl) zI λa W H' hF hS ef aQ=>?_;refine⟨_,by rw[results_tmp results255];exact congrArg (λu=>Result.ok u W) (hF 4 _ rfl),pV,dO,r,rfl,?_,bG,ah,?_⟩
  ·refine(hS.links w A0).below λk hk hx=>?_;exact Xm
  cases r with
  |nil=>trivial
  |row b cap sp=>exact hS.own _ (ef (b,aP aA 3 pV sp) oW (mC _ oW).1)
 exact Pj
theorem nDk{f:Nat}(az:ew prog f)(w:World)(lg:∀k,RO k->k<w.heap.size)(hlen:∀p,Pre p->p.length<=100000)(lX:∀W2,Below w.heap.size w W2->ue prog f cap aA Pre Fin (λ_=>False) RO W2):Calls prog 191 #[.func (.func f) #[] cap.toArray] w (λe w'=>∃xs,Fin xs/\aD w aA 1 3 xs id e w'):=by
 refine eN func191 ntmps191 ?_;refine B 8 ?_;refine UG (enc:=aA) (m:=1) (t:=3) (Fin:=Fin) (v:=id) call255 rfl rfl rfl (λW hS=>nWm az W (λk hk=>mx (lg k hk) (hS.links w A0).size) hlen (λW2 hB=>lX W2 (((hS.links w A0).below J5).trans (hB.mono (hS.links w A0).size)))) ?_;intro xs r dO aK ah;refine B 4 ?_;exact bK (.inl rfl) results191 aX λW hS=>⟨xs,dO,r,rfl,hS.base A0 Xo,Rw.ge_of aK A0,ah,by cases r with|nil=>exact True.intro|row b cap sp=>exact hS.own _ A0⟩
theorem nFm{f:Nat}(az:ew prog f)(w:World)(lg:∀k,RO k->k<w.heap.size)(hlen:∀p,Pre p->p.length<=100000)(lX:∀W2,Below w.heap.size w W2->ue prog f cap aA Pre Fin (λ_=>False) RO W2)(ys:List Int)(xl:∀xs,Fin xs->eZ xs=ys/\xs.length<=100000):Calls prog 115 #[.func (.func f) #[] cap.toArray] w (aD w aA 1 3 ys id):=by
 refine eN func115 ntmps115 ?_;refine B 8 ?_;refine UG (enc:=aA) (m:=1) (t:=3) (Fin:=Fin) (v:=id) call191 rfl rfl rfl (λW hS=>nDk az W (λk hk=>mx (lg k hk) (hS.links w A0).size) hlen (λW2 hB=>lX W2 (((hS.links w A0).below J5).trans (hB.mono (hS.links w A0).size)))) ?_;intro xs r dO aK ah;obtain⟨J6,hxl⟩:=xl xs dO;have bG:=Rw.ge_of aK A0;refine B 6 ?_;refine D5 (r:=r) (enc:=aA) (m:=1) (t:=3) (xs:=xs) (ys:=eZ xs) (H0:=[]) (H1:=[]) (v:=λ_=>.tuple #[]) rfl call192 rfl rfl rfl (λhr W _=>by subst hr;exact nKn ah W) (λb cap sp hr W _ h=>by subst hr;exact Xp aa ah h) ?_;intro r2 eG ly qW jP;have iI:=ly aK;have eu:=qW _ bG;refine B 9 ?_;subst J6;exact nP (H0:=[]) (H1:=[]) (r:=r2) (.inl rfl) results115 aX A0 (by rw[eb];exact Rw.over (Rw.ge_of iI A0)) (by show r.val _=r2.val _;rw[<-jP,JY]) eG (Rw.ge_of iI A0) zI
theorem nUk(bx:Nat)(W:World)(hb1:W.heap[bx]? =some (oC #[.map none] 165)):ue prog 193 [ptr bx 0] aA (λp=>p.length<=0) (λxs=>xs=[]) (λ_=>False) (λk=>k=bx) W:=by
 intro l M I X0 hM hI hX hy h0;have cF:¬(dt hM (λ_=>False) (hI [] _)).X bx:=by rintro(h|h);exact(hM _ h).2.2 rfl;exact h.elim
 refine zre ?_;refine B 3 ?_;refine XB underlying165 rfl rfl rfl ?_;intro rb vU Xy;replace vU:=yb vU;refine B 3 ?_;refine CJ.lp (α:=Nat) [0,5] (λp=>[]) (λp=>[(rb,.mapIter none 0 #[] 0)]) (λp=>True) (λp=>0) 0 True.intro ?_;rintro p _;refine B 2 ?_;refine P5 (i:=0) rfl rfl rfl rfl ?_;refine B 9 ?_;exact Bm (.inr rfl) results193 A0 (λ_ h=>h.elim) (by intro k hk hx;simp only[dy,eV,bX,dE,or_false]at hx;omega) (λA hA=>.inl ⟨[],rfl,hA⟩)
def p7 (kv:List (Int×Int)):List Nd:=(eZ (kv.map (·.1))).map λk=>⟨k,(bU kv k).getD 0⟩
theorem XC:jH prog 49 240 2:=⟨underlying49,Tryz.t240,.agg #[ab 0,ab 0],D3,rfl,rfl,rfl,by decide⟩
theorem Rw.val_one2(n:Nat)(r:Rw):aZ [r.val n]=true:=by cases r<;>rfl
theorem ndo{β:Type}(f:Int->β){x:Int}(hx:xs[j]? =some x):(xs.take (j+1)).map f=(xs.take j).map f++[f x]:=by rw[nq hx];simp
theorem P6(o:Option Int):(o.map ab).getD (ab 0)=ab (o.getD 0):=by cases o<;>rfl
theorem nXf(vo:kv.length<=100000)(mb:Nat)(m:Mp)(hm:m.Ok kv)(w:World)(sG:w.heap[mb]? =some (m.obj ab kv)):Calls prog 66 #[.map (some mb)] w (aD w gS 2 240 (p7 kv) (λs=>.agg #[s])):=by
 have P3:=(aT.1 sG).1;have am4:(eZ (kv.map (·.1))).length=kv.length:=by rw[JY,eQ]
 refine eN func66 ntmps66 ?_;refine B 3 ?_;refine yW ?_;intro b2 dB dx;refine B 6 ?_;refine nv (α:=Nat) (v:=λb:Nat=>.func (.func 193) #[] #[ptr b 0]) (Φ:=λ(W:World) (b:Nat) (w1:World)=>W.heap.size<=b/\w1.heap[b]? =some (oC #[.map (some mb)] 165)) call116 rfl rfl rfl (λW hS=>njk (some mb) W) ?_;rintro Wk bk wk vq Eb ⟨P7,yG⟩;try dsimp only at P7 yG
 have XD:=vq.under;replace XD:=yg XD;have afY:=(aT.1 yG).1;have XE:=vq.sizes;replace XE:=yb XE;have hzk:=Eb.size;refine nG (enc:=aA) (m:=1) (t:=3) (xs:=eZ (kv.map (·.1))) (v:=id) (first:=[]) (cap:=[]) rfl call115 rfl rfl rfl nz (λW hS=>nFm (f:=193) (cap:=[ptr bk 0]) (Pre:=λp=>p.length<=kv.length) (Fin:=λxs=>xs.Perm (kv.map (·.1))) (RO:=λk=>k=bk\/k=mb) call193 W ?_ ?_ ?_ _ ?_) ?_
 ·intro k hk;have h1:=(hS.links wk A0).size;rcases hk with rfl|rfl<;>omega
 ·intro p hp;have:p.length<=kv.length:=hp;omega
 ·intro W2 hB;exact nhp mb bk m hm W2 (by rw[hB.block bk (by have:=(hS.links wk A0).size;omega)];exact hS.old A0 yG zJ zz) (by rw[hB.block mb (by have:=(hS.links w A1).size;omega)];exact hS.old A1 sG zJ zz)
 ·intro xs hx;exact⟨n3o hx,by rw[hx.length_eq,eQ];exact vo⟩
 intro Ws a7 CA ws XF hBs jJ mE;have XG:=XF.sizes;replace XG:=yb XG;have tF:=hBs.size;have XH:=XF.under;replace XH:=yg XH;refine B 5 ?_;refine CJ.lp (α:=Rw×Nat) [0,2,7,8] (λp=>[(9,ab (p.2:Int))]) (λp=>[(b2,oC #[p.1.val (((eZ (kv.map (·.1))).take p.2).map (λk=>(⟨k,(bU kv k).getD 0⟩:Nd))).length] 51)]++(p.1.hp gS 240 (((eZ (kv.map (·.1))).take p.2).map (λk=>(⟨k,(bU kv k).getD 0⟩:Nd)))++[])) (λp=>p.2<=(eZ (kv.map (·.1))).length/\p.1.Fr Gh.no [ws,wk,w]/\p.1.Fit 2 (((eZ (kv.map (·.1))).take p.2).map (λk=>(⟨k,(bU kv k).getD 0⟩:Nd)))) (λp=>(eZ (kv.map (·.1))).length-p.2) (.nil,0) ⟨cR _,True.intro,rfl⟩ ?_;rintro⟨r,j⟩ ⟨hj,aK,ah⟩;dsimp only at hj aK ah ⊢;have bG:r.ge ws.heap.size:=Rw.ge_of aK A0;refine B 6 ?_;refine aG ?_ ?_
 ·intro ar;refine B 5 ?_;obtain⟨bo,oo,cs0,to,fV,rfl,fP,cJ,aV⟩:=jJ.get aa;obtain⟨x,hx⟩:=ng (eZ (kv.map (·.1))) j aa;have af0:=mE _ rfl;dsimp only at af0;refine B 2 ?_;refine rv rfl rfl rfl (av (v:=ab x) isAgg3 rfl A0 cJ zJ zz (by have:=nK (enc:=λx=>(aA x).toArray) (n:=1) aV hx rfl zA;simpa[aA]using this)) ?_;refine B 9 ?_;refine rq (ab ((bU kv x).getD 0)) (mF (ev:=ab) underlying165 underlying3 zeroValue3 hm (bB.old A2 sG zJ zz) rfl rfl) (P6 _) ?_;refine B 1 ?_;refine kh underlying49 sizeOf240 zeroValue240 rfl rfl rfl rfl rfl rfl rfl ?_;refine yW ?_;intro Ec af1 af2;refine kg (r:=r) (xs:=(((eZ (kv.map (·.1))).take j).map (λk=>(⟨k,(bU kv k).getD 0⟩:Nd)))) (zs:=[(⟨x,(bU kv x).getD 0⟩:Nd)]) (enc:=gS) (m:=2) (H0:=[(Ec,oC #[ab x,ab ((bU kv x).getD 0)] 240),(b2,oC #[r.val (((eZ (kv.map (·.1))).take j).map (λk=>(⟨k,(bU kv k).getD 0⟩:Nd))).length] 51)]) (H1:=[]) zW XC P0 rfl rfl rfl rfl (cd.one (z:=(⟨x,(bU kv x).getD 0⟩:Nd)) P0 J0 underlying49 (bB.own (i:=0) rfl)) ah aK zI (by simp only[eQ,lb,dF,fh];omega) ?_;intro rZ af3 af4 P8 P9;replace P8:=yb P8;refine B 1 ?_;refine kY (i:=1) rfl sizeOf49 rfl rfl rfl rfl (ea rfl) rfl ?_;refine xr ?_;refine PJ.again (Rw.row rZ af3 af4,j+1) ⟨by dsimp only;omega,P8.elim (λh=>Rw.Fr_at aK h) (λh=>.inr h),by rw[ndo (λk=>(⟨k,(bU kv k).getD 0⟩:Nd)) hx];exact P9⟩ zS zR (by rw[ndo (λk=>(⟨k,(bU kv k).getD 0⟩:Nd)) hx];rfl) rfl zI
 intro ar;refine B 6 ?_;have ck:(eZ (kv.map (·.1))).take j=eZ (kv.map (·.1)):=jZ aa;rw[ck]at ah ⊢;refine B 2 ?_;refine zpe ?_;refine B 3 ?_;exact nP (H0:=[(b2,oC #[r.val ((eZ (kv.map (·.1))).map (λk=>(⟨k,(bU kv k).getD 0⟩:Nd))).length] 51)]) (H1:=[]) (r:=r) (.inl rfl) results66 aX A2 (by simp only[eb,ig,eL,dm,Over];exact⟨by omega,Rw.over (Rw.ge_of aK A2)⟩) rfl ah (Rw.ge_of aK A2) (by simp[Value.cells,p7])
theorem nff(w:World):Calls prog 66 #[.map none] w (aD w gS 2 240 [] (λs=>.agg #[s])):=by
 refine eN func66 ntmps66 ?_;refine B 3 ?_;refine yW ?_;intro b2 dB dx;refine B 6 ?_;refine nv (α:=Nat) (v:=λb:Nat=>.func (.func 193) #[] #[ptr b 0]) (Φ:=λ(W:World) (b:Nat) (w1:World)=>W.heap.size<=b/\w1.heap[b]? =some (oC #[.map none] 165)) call116 rfl rfl rfl (λW hS=>njk none W) ?_;rintro Wk bk wk vq Eb ⟨P7,yG⟩;try dsimp only at P7 yG
 have XD:=vq.under;replace XD:=yg XD;have afY:=(aT.1 yG).1;have XE:=vq.sizes;replace XE:=yb XE;have hzk:=Eb.size;refine nG (enc:=aA) (m:=1) (t:=3) (xs:=[]) (v:=id) (first:=[]) (cap:=[]) rfl call115 rfl rfl rfl nz (λW hS=>nFm (f:=193) (cap:=[ptr bk 0]) (Pre:=λp=>p.length<=0) (Fin:=λxs=>xs=[]) (RO:=λk=>k=bk) call193 W ?_ ?_ ?_ [] ?_) ?_
 ·intro k hk;have h1:=(hS.links wk A0).size;subst hk;omega
 ·intro p hp;omega
 ·intro W2 hB;exact nUk bk W2 (by rw[hB.block bk (by have:=(hS.links wk A0).size;omega)];exact hS.old A0 yG zJ zz)
 ·intro xs hx;exact(by subst hx;exact⟨by simp[eZ],by simp⟩)
 intro Ws a7 CA ws XF hBs jJ mE;have XG:=XF.sizes;replace XG:=yb XG;have tF:=hBs.size;have XH:=XF.under;replace XH:=yg XH;refine B 5 ?_;refine CJ.lp (α:=Nat) [2,8,9] (λp=>[]) (λp=>[(b2,oC #[aj] 51)]) (λp=>True) (λp=>0) 0 True.intro ?_;rintro p _;refine xp ?_;refine B 16 ?_;exact nP (H0:=[(b2,oC #[aj] 51)]) (H1:=[]) (r:=.nil) (.inl rfl) results66 aX A2 zic rfl rfl True.intro rfl
def Iw (kv:List (Int×Bool)) (n:Int):List (Int×Bool):=dD kv n true
def XI (kv:List (Int×Bool)) (d:Int):List (Int×Bool):=(dK d).foldl Iw (dD kv (512+d) true)
def yH (ds:List Int):List (Int×Bool):=ds.foldl XI []
theorem nwm{ds:List Int}(hx:ds[j]? =some d):yH (ds.take (j+1))=XI (yH (ds.take j)) d:=by rw[nq hx];simp[yH,Iu]
theorem nvl(hx:l[i]? =some n)(kv:List (Int×Bool)):(l.take (i+1)).foldl Iw kv=dD ((l.take i).foldl Iw kv) n true:=by rw[nq hx];simp[Iw,Iu]
theorem J7(l:List Int)(i:Nat)(h:¬i<l.length)(kv:List (Int×Bool)):(l.take i).foldl Iw kv=l.foldl Iw kv:=by rw[jZ aa]
theorem J8(l:List Int)(i:Nat)(h:¬i<l.length):yH (l.take i)=yH l:=by rw[jZ aa]
def J9 (ns:List Nd) (i:Nat) (x:Nd):Prop:=1<=x.at_/\x.at_<=1023/\(∀y,0<i->ns[i-1]? =some y->y.at_<x.at_)/\eg x.pub/\bU (yH (eh ns)) x.at_=some true
def Ed (ns:List Nd):Prop:=∀i x,ns[i]? =some x->J9 ns i x
def Ee (ns:List Nd) (j:Nat):Prop:=∀i x,i<j->ns[i]? =some x->J9 ns i x
open Classical in
noncomputable def jQ (ns:List Nd):Int:=if Ed ns then 0 else 210
theorem nKl(h:Ed ns):jQ ns=0:=by unfold jQ;rw[if_pos h]
theorem Ka:jQ ns=0↔Ed ns:=by unfold jQ;split<;>simp_all
theorem nch(ns:List Nd):jQ ns=0\/jQ ns=210:=by unfold jQ;split<;>simp
theorem n6c(h:Ee ns j)(hj:¬j<ns.length):0=jQ ns:=by
 rw[nKl];exact λi x hx=>h i x UH hx
theorem nN(hx:ns[j]? =some x)(h:¬J9 ns j x):210=jQ ns:=by
 unfold jQ;rw[if_neg];exact λg=>h (g j x hx)
theorem Ee.next(h:Ee ns j)(hx:ns[j]? =some x)(hk:J9 ns j x):Ee ns (j+1):=by
 exact zQh
theorem n5m{zs:List Int}{x:Int}(h:x∈Go.Lib.compact zs):x∈zs:=by
 unfold Go.Lib.compact Go.Lib.compactUpTo at h;all_goals grind
theorem nnj(h:d∈eh ns):ee d:=by
 have h1:=n5m h;have h2:=(List.mergeSort_perm (pG ns) _).mem_iff.1 h1;obtain⟨n,hn,rfl⟩:=bW.1 h2;all_goals grind
theorem nVl(d:Int):(dK d).length<=(512+d).toNat:=by unfold dK;rw[eQ];exact nBn _
theorem nXj(o:Option Bool):(o.map Value.bool).getD (bN)= .bool (o.getD false):=by cases o<;>rfl
theorem nSc(o:Option Bool):o.getD false=true↔o=some true:=by cases o with|none=>simp|some b=>cases b<;>simp
theorem nKb(ns:List Nd)(hn:ns.length<=100000)(N:Nat)(a:Option Addr)(cp:Nat)(w:World)(hN:N<=w.heap.size)(aJ:ai gb 2 N w a ns):Calls prog 111 #[.agg #[.slice a ns.length cp]] w (aL w (ab (jQ ns))):=by
 have vm:=n2l ns;refine eN func111 ntmps111 ?_;refine B 2 ?_;refine yX ?_;intro b1 w1 hb1 cF gK gj jy;refine B 5 ?_;refine J4 Value.bool rfl rfl ?_;refine yW ?_;intro iD Kb Kc;refine B 6 ?_;refine Kd ?_;refine nG (enc:=aA) (m:=1) (t:=3) (xs:=eh ns) (v:=id) (first:=[]) (cap:=[]) rfl call186 rfl rfl rfl nz (λW hS=>n1b ns hn N a cp W cM (aJ.up (ak _) hS.sm)) ?_;intro Wm am cpm wm vV Ke Ef XJ;have XK:=vV.sizes;replace XK:=yb XK;have hzm:=Ke.size;have XL:=vV.under;replace XL:=yg XL;refine B 5 ?_;refine CJ.lp (α:=Mp×Nat) [1,3,14,15] (λp=>[(16,ab (p.2:Int))]) (λp=>[(iD,p.1.obj Value.bool (yH ((eh ns).take p.2)))]) (λp=>p.2<=(eh ns).length/\p.1.Ok (yH ((eh ns).take p.2))) (λp=>(eh ns).length-p.2) (⟨[],0⟩,0) ⟨cR _,Mp.nil⟩ ?_;rintro⟨m,j⟩ ⟨hj,hm⟩;dsimp only at hj hm ⊢;refine B 6 ?_;refine aG ?_ ?_
 ·intro ar;refine B 5 ?_;obtain⟨bm,om,csm,tm,frm,rfl,oB,Qa,Qc⟩:=Ef.get aa;have mC:=XJ _ rfl;dsimp only at mC;obtain⟨d,hx⟩:=ng (eh ns) j aa;have hd:=nnj (cO hx);have hd1:=hd.1;have hd2:=hd.2;have iH:=nVl d;refine B 2 ?_;refine rv rfl rfl rfl (av (v:=ab d) isAgg3 rfl A0 Qa zJ zz (by have:=nK (enc:=λx=>(aA x).toArray) (n:=1) Qc hx rfl zA;simpa[aA]using this)) ?_;refine B 6 ?_;refine ztd ?_;intro Wp ap gT wp BA Qd oX tG;have vW:=BA.sizes;replace vW:=yb vW;have hzp:=Qd.size;have vX:=BA.under;replace vX:=yg vX;refine B 12 ?_;refine Ny (i:=0) (ev:=Value.bool) (v:=true) rfl hm underlying307 underlying3 rfl rfl rfl rfl ?_;intro m2 bV;refine B 10 ?_;refine CJ.lp (α:=Mp×Nat) [1,3,14,15,16,28,29] (λp=>[(30,ab (p.2:Int))]) (λp=>[(iD,p.1.obj Value.bool (((dK d).take p.2).foldl Iw (dD (yH ((eh ns).take j)) (512+d) true)))]) (λp=>p.2<=(dK d).length/\p.1.Ok (((dK d).take p.2).foldl Iw (dD (yH ((eh ns).take j)) (512+d) true))) (λp=>(dK d).length-p.2) (m2,0) ⟨cR _,bV⟩ ?_;rintro⟨mi,i⟩ ⟨hi,yI⟩;dsimp only at hi yI ⊢;refine B 6 ?_;refine aG ?_ ?_
  ·intro aN;refine B 5 ?_;obtain⟨bq,oq,Qe,tq,Qf,rfl,oY,yJ,qb⟩:=oX.get aa;have Eg:=tG _ rfl;dsimp only at Eg;obtain⟨n,hy⟩:=ng (dK d) i aa;refine B 2 ?_;refine zTd ?_;refine B 6 ?_;refine Ny (i:=0) (ev:=Value.bool) (v:=true) rfl yI underlying307 underlying3 rfl rfl rfl rfl ?_;intro m3 cu;refine B 7 ?_;refine PJ.again (m3,i+1) ⟨by dsimp only;omega,by rw[nvl hy];exact cu⟩ zS zR (by rw[nvl hy];rfl) rfl zI
  intro aN;refine B 6 ?_;have eD:((dK d).take i).foldl Iw (dD (yH ((eh ns).take j)) (512+d) true)=XI (yH ((eh ns).take j)) d:=by rw[J7 _ _ aa];rfl
  rw[eD]at yI ⊢;refine B 4 ?_;refine PJ.again (mi,j+1) ⟨by dsimp only;omega,by rw[nwm hx];exact yI⟩ zS zR (by rw[nwm hx]) rfl zI
 intro ar;refine B 7 ?_;have ck:=J8 (eh ns) j aa;rw[ck]at hm ⊢;refine B 2 ?_;refine ay (.slice a ns.length cp) ?_;refine B 5 ?_;refine CJ.lp (α:=Nat) [1,3,39,40] (λj=>[(41,ab (j:Int))]) (λj=>[(iD,m.obj Value.bool (yH (eh ns)))]) (λj=>j<=ns.length/\Ee ns j) (λj=>ns.length-j) 0 ⟨cR _,λi x hi=>absurd hi aa⟩ ?_;rintro j ⟨hj,dZ⟩;refine B 6 ?_;refine aG ?_ ?_
 ·intro dp;refine B 5 ?_;obtain⟨bo,oo,cs0,to,fV,rfl,fP,cJ,aV⟩:=aJ.get aa;obtain⟨x,hx⟩:=ng ns j aa;refine B 3 ?_;refine ay (.agg (gb x)) ?_;refine B 1 ?_;refine yW ?_;intro gR yq Dq;refine B 5 ?_;by_cases h1:x.at_<1
  ·refine eA 34 (sp:=(_::_::(some cY)::_)) (k:=?_);exact XM
  by_cases h2:1023<x.at_
  ·refine eA 34 (sp:=(_::_::(some bN)::_::_::_::(some cY)::_)) (k:=?_);exact XM
  obtain⟨e,he⟩:∃e,(if eg x.pub then(0:Int)else 40)=e:=⟨_,rfl⟩;by_cases h3:j=0/\¬e=0
  ·refine eA 34 (pb:=by exact zU 27 (k:=by exact aU (nf (v:=ab e) call65 rfl rfl (λW hS _=>by rw[<-he];exact nO _ W) (λ_=>rfl)) (aU (X.v (RV.re (v':=cY) (cV rfl rfl) (vb oN))) zT))) (sp:=(_::_::(some bN)::_::_::_::(some bN)::_::_::_::(some bN)::_)) (k:=?_);exact XM
  by_cases h4:j=0
  ·refine eA 34 (pb:=by exact zU 27 (k:=by exact aU (nf (v:=ab e) call65 rfl rfl (λW hS _=>by rw[<-he];exact nO _ W) (λ_=>rfl)) (aU (X.v (RV.re (v':=bN) (cV rfl rfl) (vb oN))) zT))) (sp:=(_::_::(some bN)::_::_::_::(some bN)::_::_::_::(some bN)::_)) (k:=?_);refine zVd ?_;refine B 4 ?_;refine aG ?_ ?_
   ·intro jh;refine B 11 ?_;exact zUf
   intro jh;exact zNg
  obtain⟨y,hy⟩:=ng ns (j-1) aa;by_cases h5:x.at_<=y.at_
  ·refine eA 34 (pb:=by exact zU 20 (k:=by exact aU (X.v (av (v:=ab y.at_) isAgg3 rfl A2 cJ zJ zz zNc)) zT)) (sp:=[_,_,some bN,_,_,_,some bN,_,_,_,some cY,_,_,_,_,some (.slice (some ⟨bo,oo,none⟩) ns.length cp),_,_,_,_,_,some cY,_,_,_,_,_,_,_,_,_,_,_,_]) (k:=?_);exact XM
  by_cases h6:¬e=0
  ·refine eA 34 (pb:=by exact zU 20 (k:=by exact aU (X.v (av (v:=ab y.at_) isAgg3 rfl A2 cJ zJ zz zNc)) (zU 6 (k:=by exact aU (nf (v:=ab e) call65 rfl rfl (λW hS _=>by rw[<-he];exact nO _ W) (λ_=>rfl)) (aU (X.v (RV.re (v':=cY) (cV rfl rfl) (vb oN))) zT))))) (sp:=[_,_,some bN,_,_,_,some bN,_,_,_,some cY,_,_,_,_,some (.slice (some ⟨bo,oo,none⟩) ns.length cp),_,_,_,_,_,some bN,_,_,_,_,_,_,_,_,_,_,_,_]) (k:=?_);exact XM
  refine eA 34 (pb:=by exact zU 20 (k:=by exact aU (X.v (av (v:=ab y.at_) isAgg3 rfl A2 cJ zJ zz zNc)) (zU 6 (k:=by exact aU (nf (v:=ab e) call65 rfl rfl (λW hS _=>by rw[<-he];exact nO _ W) (λ_=>rfl)) (aU (X.v (RV.re (v':=bN) (cV rfl rfl) (vb oN))) zT))))) (sp:=[_,_,some bN,_,_,_,some bN,_,_,_,some cY,_,_,_,_,some (.slice (some ⟨bo,oo,none⟩) ns.length cp),_,_,_,_,_,some bN,_,_,_,_,_,_,_,_,_,_,_,_]) (k:=?_);refine zVd ?_;refine B 4 ?_;refine aG ?_ ?_
  ·intro iC;refine B 11 ?_;exact zUf
  intro iC;exact zNg
 intro dp;refine B 11 ?_;exact zUf
def ki (kv:List (Int×Int)) (n:Int):List (Int×Int):=jq kv n
def oZ (kv:List (Int×Int)) (d:Int):List (Int×Int):=(dK d).foldl ki (ki kv (512+d))
theorem nYf(hx:l[i]? =some n)(kv:List (Int×Int)):(l.take (i+1)).foldl ki kv=jq ((l.take i).foldl ki kv) n:=by rw[nq hx];simp[ki,Iu]
theorem nWn(h:¬i<l.length)(kv:List (Int×Int)):(l.take i).foldl ki kv=l.foldl ki kv:=by rw[jZ aa]
theorem XN(kv:List (Int×Int))(d:Int):(oZ kv d).length<=kv.length:=by
 have key:∀(l:List Int) (kv:List (Int×Int)),(l.foldl ki kv).length<=kv.length:=by
  intro l;induction l with
  |nil=>intro kv;exact ak _
  |cons n l ih=>intro kv;exact dR (ih _) (nOh kv n).length_le
 exact dR (key _ _) (nOh kv _).length_le
theorem nWg(kv:List (Int×Int)):(p7 kv).length=kv.length:=by unfold p7;rw[eQ,JY,eQ]
theorem nhg(ns:List Nd)(hn:ns.length<=100000)(N:Nat)(a:Option Addr)(cp:Nat)(w:World)(hN:N<=w.heap.size)(aJ:ai gb 2 N w a ns)(gY:jQ ns=210)(d:Int)(mem:Bool):Calls prog 64 #[.agg #[.slice a ns.length cp],ab d,.bool mem] w (aL w (.tuple #[.map none,aj,ab 210])):=by
 refine eN func64 ntmps64 ?_;refine B 2 ?_;refine yX ?_;intro b3 w3 cZ cu fC ez eP;refine B 8 ?_;refine Kd ?_;refine zue ?_;refine B 6 ?_;refine ay cY ?_;refine B 13 ?_;exact cC (.inl rfl) results64 aX A1 trivial rfl
theorem nyk(ns:List Nd)(hn:ns.length<=100000)(N:Nat)(a:Option Addr)(cp:Nat)(w:World)(hN:N<=w.heap.size)(aJ:ai gb 2 N w a ns)(gY:jQ ns=0)(d:Int)(hd:ee d)(qA:bU (dP ns) (512+d)=none):Calls prog 64 #[.agg #[.slice a ns.length cp],ab d,cY] w (aL w (.tuple #[.map none,aj,ab 200])):=by
 have hd1:=hd.1;have hd2:=hd.2;refine eN func64 ntmps64 ?_;refine B 2 ?_;refine yX ?_;intro b3 w3 cZ cu fC ez eP;refine B 8 ?_;refine zlf ?_;refine Eh ?_;refine Kd ?_;refine znd ?_;intro bf m Ej Nu hm;replace Ej:=yb Ej;refine B 9 ?_;refine zDe ?_;refine O9 ?_;refine xp ?_;refine B 5 ?_;refine rq cY (gq rfl) (by rw[qA];rfl) ?_;refine B 14 ?_;exact cC (.inl rfl) results64 aX A1 Cl rfl
theorem n1e(ns:List Nd)(hn:ns.length<=100000)(N:Nat)(a:Option Addr)(cp:Nat)(w:World)(hN:N<=w.heap.size)(aJ:ai gb 2 N w a ns)(gY:jQ ns=0)(d:Int)(hd:ee d)(mem:Bool)(ko:mem=true->(bU (dP ns) (512+d)).isSome=true):Calls prog 64 #[.agg #[.slice a ns.length cp],ab d,.bool mem] w (NB w ab (oZ (dP ns) d) aA 1 (dK d) (λmp s=>.tuple #[mp,s,ab 0])):=by
 have hd1:=hd.1;have hd2:=hd.2;have iH:=nVl d;refine eN func64 ntmps64 ?_;refine B 2 ?_;refine yX ?_;intro b3 w3 cZ cu fC ez eP;refine B 8 ?_;refine zlf ?_;refine Eh ?_;refine Kd ?_;refine znd ?_;intro bf m Ej Nu hm;replace Ej:=yb Ej;refine B 9 ?_;refine zDe ?_;refine O9 ?_;refine xp ?_;refine B 4 ?_;refine ni (t:=37) rfl (λar=>?_) (λar=>?_)
 ·replace ar:=ya ar;refine B 1 ?_;refine rq bN (gq rfl) (vb (by rw[ko eE];rfl)) ?_;refine B 10 ?_;refine ztd ?_;intro Wp ap gT wp BA Qd oX tG;have vW:=BA.sizes;replace vW:=yb vW;have hzp:=Qd.size;have vX:=BA.under;replace vX:=yg vX;refine B 9 ?_;refine Wt ?_;refine B 8 ?_;refine zFd ?_;intro m1 cF;refine B 11 ?_;refine zrd ?_;rintro⟨mi,i⟩ ⟨hi,yI⟩;dsimp only at hi yI ⊢;refine B 6 ?_;refine aG ?_ ?_
  ·intro aN;exact zmg
  intro aN;exact zeg
 replace ar:=ya ar;refine B 12 ?_;refine ztd ?_;intro Wp ap gT wp BA Qd oX tG;have vW:=BA.sizes;replace vW:=yb vW;have hzp:=Qd.size;have vX:=BA.under;replace vX:=yg vX;refine B 9 ?_;refine Wt ?_;refine B 8 ?_;refine zFd ?_;intro m1 cF;refine B 11 ?_;refine zrd ?_;rintro⟨mi,i⟩ ⟨hi,yI⟩;dsimp only at hi yI ⊢;refine B 6 ?_;refine aG ?_ ?_
 ·intro dp;exact zmg
 intro dp;exact zeg
theorem Kf(ns:List Nd)(hn:ns.length<=100000)(N:Nat)(a:Option Addr)(cp:Nat)(w:World)(hN:N<=w.heap.size)(aJ:ai gb 2 N w a ns)(gY:jQ ns=210)(d p:Int):Calls prog 34 #[.agg #[.slice a ns.length cp],ab d,ab p] w (aD w gS 2 240 [] (λs=>.tuple #[.agg #[s],ab 210])):=by
 refine eN func34 ntmps34 ?_;refine B 2 ?_;refine yX ?_;intro b3 w3 cZ cu fC ez eP;refine B 1 ?_;refine yW ?_;intro b6 jO qy;refine NC ?_;refine call call64 rfl rfl rfl (λW hS=>nhg ns hn N a cp W cM (aJ.up (ak _) hS.sm) gY d false) ?_;refine PA ?_;refine B 13 ?_;exact nP (enc:=gS) (m:=2) (t:=240) (xs:=[]) (H0:=_) (H1:=[]) (r:=.nil) (.inl rfl) results34 aX A1 z9b rfl rfl True.intro (eb _).symm
theorem Kg(ns:List Nd)(hn:ns.length<=100000)(N:Nat)(a:Option Addr)(cp:Nat)(w:World)(hN:N<=w.heap.size)(aJ:ai gb 2 N w a ns)(gY:jQ ns=0)(d p:Int)(hd:ee d)(hgk:(if eg p then(0:Int)else 40)=40):Calls prog 34 #[.agg #[.slice a ns.length cp],ab d,ab p] w (aD w gS 2 240 [] (λs=>.tuple #[.agg #[s],ab 50])):=by
 have hd1:=hd.1;have hd2:=hd.2;refine eN func34 ntmps34 ?_;refine B 2 ?_;refine yX ?_;intro b3 w3 cZ cu fC ez eP;refine B 1 ?_;refine yW ?_;intro b6 jO qy;refine NC ?_;refine zMd ?_;intro bm m a8 ND Wc wc Ek Qg Qh BB qX yK hm ux BC;replace qX:=yb qX;simp only[bA,and_true]at yK;have Av:=Qg.size;have Em:=Ek.sizes;replace Em:=yb Em;have En:=Ek.under;replace En:=yg En;refine B 13 ?_;refine ay bN ?_;refine B 9 ?_;refine call call65 rfl rfl rfl (λW hS=>by rw[<-hgk];exact nO p W) (v:=ab 40) ?_;refine XO ?_;exact nP (enc:=gS) (m:=2) (t:=240) (xs:=[]) (H0:=_) (H1:=[]) (r:=.nil) (.inl rfl) results34 aX A2 z9b rfl rfl True.intro (eb _).symm
theorem Qi(ns:List Nd)(hn:ns.length<=100000)(N:Nat)(a:Option Addr)(cp:Nat)(w:World)(hN:N<=w.heap.size)(aJ:ai gb 2 N w a ns)(gY:jQ ns=0)(d p:Int)(hd:ee d)(yA:ns.length<100000)(hgk:(if eg p then(0:Int)else 40)=0):Calls prog 34 #[.agg #[.slice a ns.length cp],ab d,ab p] w (aD w gS 2 240 (p7 (dD (oZ (dP ns) d) (512+d) p)) (λs=>.tuple #[.agg #[s],ab 0])):=by
 have hd1:=hd.1;have hd2:=hd.2;refine eN func34 ntmps34 ?_;refine B 2 ?_;refine yX ?_;intro b3 w3 cZ cu fC ez eP;refine B 1 ?_;refine yW ?_;intro b6 jO qy;refine NC ?_;refine zMd ?_;intro bm m a8 ND Wc wc Ek Qg Qh BB qX yK hm ux BC;replace qX:=yb qX;simp only[bA,and_true]at yK;have Av:=Qg.size;have Em:=Ek.sizes;replace Em:=yb Em;have En:=Ek.under;replace En:=yg En;refine B 13 ?_;refine ay bN ?_;refine B 9 ?_;refine call call65 rfl rfl rfl (λW hS=>by rw[<-hgk];exact nO p W) (v:=ab 0) ?_;refine ay bN ?_;refine B 11 ?_;refine Ny (i:=0) (ev:=ab) (v:=p) rfl hm underlying165 underlying3 rfl rfl rfl rfl ?_;intro m2 bV;refine B 5 ?_;refine UI (enc:=gS) (m:=2) (t:=240) (xs:=p7 (dD (oZ (dP ns) d) (512+d) p)) (v:=λs=>.agg #[s]) (first:=[]) (cap:=[]) rfl call66 rfl rfl rfl (λW hS=>nXf (by have h1:=Xu (oZ (dP ns) d) (512+d) p;have h2:=XN (dP ns) d;have h3:=UF ns;omega) bm m2 bV W (hS.own _ A0)) ?_;intro r aK ah;refine zoe ?_;refine B 4 ?_;exact nP (enc:=gS) (m:=2) (t:=240) (xs:=p7 (dD (oZ (dP ns) d) (512+d) p)) (H0:=[(bm,m2.obj ab (dD (oZ (dP ns) d) (512+d) p)),(b6,oC #[r.val (p7 (dD (oZ (dP ns) d) (512+d) p)).length] 51)]) (H1:=[]) (r:=r) (.inl rfl) results34 aX A2 zKb rfl ah (Rw.ge_of aK A2) z2b
theorem nto(ns:List Nd)(hn:ns.length<=100000)(N:Nat)(a:Option Addr)(cp:Nat)(w:World)(hN:N<=w.heap.size)(aJ:ai gb 2 N w a ns)(gY:jQ ns=210)(d:Int):Calls prog 35 #[.agg #[.slice a ns.length cp],ab d] w (aD w gS 2 240 [] (λs=>.tuple #[.agg #[s],ab 210])):=by
 refine eN func35 ntmps35 ?_;refine B 2 ?_;refine yX ?_;intro b2 w2 di bV ff dB dx;refine B 1 ?_;refine yW ?_;intro b4 ji jj;refine zkf ?_;exact zvg
theorem nXo(ns:List Nd)(hn:ns.length<=100000)(N:Nat)(a:Option Addr)(cp:Nat)(w:World)(hN:N<=w.heap.size)(aJ:ai gb 2 N w a ns)(gY:jQ ns=0)(d:Int)(hd:ee d)(qA:bU (dP ns) (512+d)=none):Calls prog 35 #[.agg #[.slice a ns.length cp],ab d] w (aD w gS 2 240 [] (λs=>.tuple #[.agg #[s],ab 200])):=by
 refine eN func35 ntmps35 ?_;refine B 2 ?_;refine yX ?_;intro b2 w2 di bV ff dB dx;refine B 1 ?_;refine yW ?_;intro b4 ji jj;refine NC ?_;refine zQe ?_;exact zvg
theorem nEp(ns:List Nd)(hn:ns.length<=100000)(N:Nat)(a:Option Addr)(cp:Nat)(w:World)(hN:N<=w.heap.size)(aJ:ai gb 2 N w a ns)(gY:jQ ns=0)(d:Int)(hd:ee d)(ko:(bU (dP ns) (512+d)).isSome=true):Calls prog 35 #[.agg #[.slice a ns.length cp],ab d] w (aD w gS 2 240 (p7 (oZ (dP ns) d)) (λs=>.tuple #[.agg #[s],ab 0])):=by
 have hd1:=hd.1;have hd2:=hd.2;refine eN func35 ntmps35 ?_;refine B 2 ?_;refine yX ?_;intro b2 w2 di bV ff dB dx;refine B 1 ?_;refine yW ?_;intro b4 ji jj;refine NC ?_;refine zNd ?_;intro bm m a8 ND Wc wc Ek Qg Qh BB qX yK hm ux BC;replace qX:=yb qX;simp only[bA,and_true]at yK;have Av:=Qg.size;have Em:=Ek.sizes;replace Em:=yb Em;have En:=Ek.under;replace En:=yg En;refine B 12 ?_;refine UI (enc:=gS) (m:=2) (t:=240) (xs:=p7 (oZ (dP ns) d)) (v:=λs=>.agg #[s]) (first:=[]) (cap:=[]) rfl call66 rfl rfl rfl (λW hS=>nXf (by have h2:=XN (dP ns) d;have h3:=UF ns;omega) bm m hm W (hS.own _ A0)) ?_;intro r aK ah;refine B 1 ?_;refine zoe ?_;refine B 4 ?_;exact nP (enc:=gS) (m:=2) (t:=240) (xs:=p7 (oZ (dP ns) d)) (H0:=[(bm,m.obj ab (oZ (dP ns) d)),(b4,oC #[r.val (p7 (oZ (dP ns) d)).length] 51)]) (H1:=[]) (r:=r) (.inl rfl) results35 aX A2 zKb rfl ah (Rw.ge_of aK A2) z2b
theorem Qj(x:Int)(hx:eg x)(w:World):Calls prog 224 #[ab x] w (aL w (bN)):=by
 refine eN func224 ntmps224 ?_;refine B 8 ?_;refine call call65 rfl rfl rfl (λW hS=>by have:=nO x W;rw[if_pos hx]at this;exact this) ?_;refine ay bN ?_;refine B 4 ?_;refine aF results224 rfl A0 ?_;rfl
theorem npj(w:World)(l:List Int)(mG:∀y∈l,eg y)(hl:l.length<=1000)(NP:Nat)(ap:Option Addr)(gT:Nat)(mH:ai encI 1 NP w ap l)(CB:NP<=w.heap.size):Calls prog 275 #[.slice ap l.length gT,.func (.func 224) #[] #[]] w (aL w (ab (-1))):=by
 refine eN func275 ntmps275 ?_;refine B 14 ?_;refine CJ.lp (α:=Nat) [0,1,7] (λj=>[(8,ab (j:Int))]) (λj=>[]) (λj=>j<=l.length) (λj=>l.length-j) 0 (cR _) ?_;rintro j hj;refine B 6 ?_;refine aG ?_ ?_
 ·intro ar;refine B 11 ?_;obtain⟨b0,XP,cs0,t0,fV,rfl,yL,Kh,aV⟩:=mH.get aa;obtain⟨x,hx⟩:=ng l j aa;refine B 5 ?_;refine rv rfl rfl rfl (av (v:=ab x) isAgg3 rfl A0 Kh zJ trivial (nK aV hx rfl zA)) ?_;refine Bo (f:=224) (cap:=[]) rfl call224 rfl rfl rfl (λW hS=>Qj x (mG x (cO hx)) W) ?_;refine B 10 ?_;exact Jl
 intro ar;refine B 11 ?_;refine aF results275 rfl A0 ?_;rfl
theorem nxh(w:World)(l:List Int)(mG:∀y∈l,eg y)(hl:l.length<=1000)(NP:Nat)(ap:Option Addr)(gT:Nat)(mH:ai encI 1 NP w ap l)(CB:NP<=w.heap.size):Calls prog 223 #[.slice ap l.length gT,.func (.func 224) #[] #[]] w (aL w (bN)):=by
 refine eN func223 ntmps223 ?_;refine B 9 ?_;refine call call275 rfl rfl rfl (λW hS=>npj W l mG hl NP ap gT (mH.up (ak _) (hS.same A0 CB zH trivial)) (dR CB (hS.links w A0).size)) ?_;refine ay bN ?_;refine B 4 ?_;refine aF results223 rfl A0 ?_;rfl
theorem nnn:∀(k n:Nat),2^k<=n->n<2^(k+1)->(oA n).length=k:=
 by intro x;induction x<;>(intros;grind [Xk,UA])
theorem ndk(hd:ee d):(dK d).length=9:=by
 have h1:=hd.1;have h2:=hd.2;unfold dK;rw[eQ];exact nnn 9 _ aa aa
theorem nAp(hd:ee d):(jI d).length=9:=by
 have h1:=hd.1;have h2:=hd.2;unfold jI;rw[eQ];exact nnn 9 _ aa aa
def uy (kv:List (Int×Int)) (p:Int×Int):List (Int×Int):=dD kv p.1 p.2
def qY (kv:List (Int×Int)) (d:Int) (l:List Int):List (Int×Int):=((dK d).zip (l.drop 1)).foldl uy (dD (oZ kv d) (512+d) ((l[0]?).getD 0))
theorem nkk{z:List (Int×Int)}{v:Int}(hz:z[i]? =some (n,v))(kv:List (Int×Int)):(z.take (i+1)).foldl uy kv=dD ((z.take i).foldl uy kv) n v:=by rw[nq hz];simp[uy,Iu]
theorem Eo(z:List (Int×Int)):∀kv:List (Int×Int),(z.foldl uy kv).length<=kv.length+z.length:=by induction z<;>grind [uy,Xu]
theorem n5l(hd:ee d)(l:List Int):(qY kv d l).length<=kv.length+10:=by grind [qY,Eo,dK,dD,oZ,Xu,XN,ndk]
theorem Qk{A B:List Int}{v:Int}(h1:A[i]? =some n)(h2:B[i+1]? =some v):(A.zip (B.drop 1))[i]? =some (n,v):=by grind
theorem nqp(ns:List Nd)(hn:ns.length<=100000)(N:Nat)(a:Option Addr)(cp:Nat)(w:World)(hN:N<=w.heap.size)(aJ:ai gb 2 N w a ns)(gY:jQ ns=210)(d:Int)(l:List Int)(mG:∀y∈l,eg y)(hl:l.length<=1000)(NP:Nat)(ap:Option Addr)(gT:Nat)(mH:ai encI 1 NP w ap l)(CB:NP<=w.heap.size):Calls prog 154 #[.agg #[.slice a ns.length cp],ab d,.slice ap l.length gT] w (aD w gS 2 240 [] (λs=>.tuple #[.agg #[s],ab 210])):=by
 refine eN func154 ntmps154 ?_;refine B 2 ?_;refine yX ?_;intro b3 w3 cZ cu fC ez eP;refine B 1 ?_;refine yW ?_;intro b6 jO qy;refine zkf ?_;exact z1g
theorem Ep(ns:List Nd)(hn:ns.length<=100000)(N:Nat)(a:Option Addr)(cp:Nat)(w:World)(hN:N<=w.heap.size)(aJ:ai gb 2 N w a ns)(gY:jQ ns=0)(d:Int)(hd:ee d)(qA:bU (dP ns) (512+d)=none)(l:List Int)(mG:∀y∈l,eg y)(hl:l.length<=1000)(NP:Nat)(ap:Option Addr)(gT:Nat)(mH:ai encI 1 NP w ap l)(CB:NP<=w.heap.size):Calls prog 154 #[.agg #[.slice a ns.length cp],ab d,.slice ap l.length gT] w (aD w gS 2 240 [] (λs=>.tuple #[.agg #[s],ab 200])):=by
 refine eN func154 ntmps154 ?_;refine B 2 ?_;refine yX ?_;intro b3 w3 cZ cu fC ez eP;refine B 1 ?_;refine yW ?_;intro b6 jO qy;refine NC ?_;refine zQe ?_;exact z1g
theorem Er(ns:List Nd)(hn:ns.length<=100000)(N:Nat)(a:Option Addr)(cp:Nat)(w:World)(hN:N<=w.heap.size)(aJ:ai gb 2 N w a ns)(gY:jQ ns=0)(d:Int)(hd:ee d)(ko:(bU (dP ns) (512+d)).isSome=true)(l:List Int)(mG:∀y∈l,eg y)(hl:l.length<=1000)(NP:Nat)(ap:Option Addr)(gT:Nat)(mH:ai encI 1 NP w ap l)(CB:NP<=w.heap.size)(Ql:l.length=10)(yA:ns.length<90000):Calls prog 154 #[.agg #[.slice a ns.length cp],ab d,.slice ap l.length gT] w (aD w gS 2 240 (p7 (qY (dP ns) d l)) (λs=>.tuple #[.agg #[s],ab 0])):=by
 have hd1:=hd.1;have hd2:=hd.2;have h9:=ndk hd;obtain⟨b0,XP,cs0,t0,fV,rfl,yL,Kh,aV⟩:=mH.get aa;obtain⟨x0,sH⟩:=ng l 0 aa;refine eN func154 ntmps154 ?_;refine B 2 ?_;refine yX ?_;intro b3 w3 cZ cu fC ez eP;refine B 1 ?_;refine yW ?_;intro b6 jO qy;refine NC ?_;refine zNd ?_;intro bm m a8 ND Wc wc Ek Qg Qh BB qX yK hm ux BC;replace qX:=yb qX;simp only[bA,and_true]at yK;have Av:=Qg.size;have Em:=Ek.sizes;replace Em:=yb Em;have En:=Ek.under;replace En:=yg En;refine B 13 ?_;refine ay bN ?_;refine B 10 ?_;refine rq bN (cV rfl rfl) (by rw[Ql];rfl) ?_;refine B 2 ?_;refine call call223 rfl rfl rfl (λW hS=>nxh W l mG hl NP _ gT (mH.up (ak _) (hS.same A2 CB zH Cl)) (dR CB (hS.links w A2).size)) ?_;refine B 13 ?_;refine rv rfl rfl rfl (av (v:=ab x0) isAgg3 rfl A2 Kh zJ zz (nK aV sH rfl zA)) ?_;refine Ny (i:=0) (ev:=ab) (v:=x0) rfl hm underlying165 underlying3 rfl rfl rfl rfl ?_;intro m2 bV;refine B 11 ?_;refine CJ.loop (α:=Mp×Nat) (λp=>[(2,.slice (some ⟨b0,XP,none⟩) l.length gT),(6,ptr b6 0),(8,.map (some bm)),(37,.slice a8 (dK d).length ND),(38,ab ((dK d).length:Int)),(39,ab (p.2:Int))]) (λp=>[(bm,p.1.obj ab ((((dK d).zip (l.drop 1)).take p.2).foldl uy (dD (oZ (dP ns) d) (512+d) ((l[0]?).getD 0)))),(b6,oC #[aj] 51)]) (λp=>[wc,w3,w]) (λp=>Gh.no) (λp=>p.2<=(dK d).length/\p.1.Ok ((((dK d).zip (l.drop 1)).take p.2).foldl uy (dD (oZ (dP ns) d) (512+d) ((l[0]?).getD 0)))) (λp=>(dK d).length-p.2) (m2,0) ⟨cR _,by simpa[sH]using bV⟩ zR (by simp[sH,Value.cells]) rfl zI ?_
 rintro⟨mi,i⟩ ⟨hi,yI⟩;dsimp only at hi yI ⊢;refine B 6 ?_;refine aG ?_ ?_
 ·intro ar;refine B 5 ?_;obtain⟨bq,oq,Qe,tq,Qf,rfl,oY,yJ,qb⟩:=ux.get aa;have Eg:=BC _ rfl;dsimp only at Eg;obtain⟨n,hy⟩:=ng (dK d) i aa;obtain⟨x,hx⟩:=ng l (i+1) aa;have hz:=Qk hy hx;refine B 3 ?_;refine zTd ?_;refine B 11 ?_;refine rv rfl rfl rfl (av (v:=ab x) isAgg3 rfl A2 Kh zJ zz (nK aV hx aa zA)) ?_;refine Ny (i:=0) (ev:=ab) (v:=x) rfl yI underlying165 underlying3 rfl rfl rfl rfl ?_;intro m3 cu;refine B 7 ?_;refine PJ.again (m3,i+1) ⟨by dsimp only;omega,by rw[nkk hz];exact cu⟩ zS zR (by rw[nkk hz];rfl) rfl zI
 intro ar;refine B 6 ?_;have BD:((dK d).zip (l.drop 1)).length=9:=by rw[List.length_zip,BF];omega
 have ck:((((dK d).zip (l.drop 1)).take i).foldl uy (dD (oZ (dP ns) d) (512+d) ((l[0]?).getD 0)))=qY (dP ns) d l:=by rw[jZ aa];rfl
 rw[ck]at yI ⊢
 rename Mp=>m4
 rename Mp.Ok (qY (dP ns) d l) m4=>Cj
 refine B 2 ?_;refine UI (enc:=gS) (m:=2) (t:=240) (xs:=p7 (qY (dP ns) d l)) (v:=λs=>.agg #[s]) (first:=[]) (cap:=[]) rfl call66 rfl rfl rfl (λW hS=>nXf (by have h2:=n5l (kv:=dP ns) hd l;have h3:=UF ns;omega) bm m4 Cj W (hS.own _ A0)) ?_;intro r aK ah;refine zoe ?_;refine B 4 ?_;exact nP (enc:=gS) (m:=2) (t:=240) (xs:=p7 (qY (dP ns) d l)) (H0:=[(bm,m4.obj ab (qY (dP ns) d l)),(b6,oC #[r.val (p7 (qY (dP ns) d l)).length] 51)]) (H1:=[]) (r:=r) (.inl rfl) results154 aX A2 zKb rfl ah (Rw.ge_of aK A2) z2b
def fw (kv:List (Int×Int)):Nat->Int->List Int
 |0,_=>[]
 |k+1,n=>if(bU kv n).isSome=true then[n]else if 512<=n then[]else fw kv k (2*n)++fw kv k (2*n+1)
theorem nYh(h:(bU kv n).isSome=true):fw kv (k+1) n=[n]:=by simp[fw,h]
theorem nNg(h:¬(bU kv n).isSome=true)(h2:512<=n):fw kv (k+1) n=[]:=by simp only[fw];rw[if_neg h,if_pos h2]
theorem nYe(h:¬(bU kv n).isSome=true)(h2:¬512<=n):fw kv (k+1) n=fw kv k (2*n)++fw kv k (2*n+1):=by simp only[fw];rw[if_neg h,if_neg h2]
def tH (kv:List (Int×Int)) (k:Nat) (n:Int) (i:Nat):List Int:=(List.range i).flatMap λ(j:Nat)=>fw kv k (2*n+(j:Int))
theorem nNh(kv:List (Int×Int))(k:Nat)(n:Int)(i:Nat):tH kv k n (i+1)=tH kv k n i++fw kv k (2*n+(i:Int)):=by simp[tH,List.range_succ]
theorem nZn(kv:List (Int×Int))(k:Nat)(n:Int):tH kv k n 2=fw kv k (2*n)++fw kv k (2*n+1):=by simp[tH,List.range_succ]
theorem Ki{p:List Int}(hi:i<2)(h:p <+:fw kv k (2*n+(i:Int))):tH kv k n i++p <+:tH kv k n 2:=by
 have h1:tH kv k n i++p <+:tH kv k n (i+1):=by rw[nNh];exact(List.prefix_append_right_inj _).2 h
 all_goals grind [nNh]
theorem Qm(n:Int)(i:Nat)(h:i<2):(#[ab (2*n),ab (2*n+1)]:Array Value)[(i:Int).toNat*1]? =some (ab (2*n+(i:Int))):=by
 rcases(show i=0\/i=1 by omega)with rfl|rfl<;>simp
def XQ (bx by_ mb:Nat):aE:=λj=>j=bx\/j=by_\/j=mb
def Qo (kv:List (Int×Int)) (k:Nat):Prop:=∀(n:Int) (bx by_ mb:Nat) (m:Mp) (W:World),1<=n->n<1024->1024<=n*2^k->m.Ok kv->W.heap[bx]? =some (oC #[.map (some mb)] 165)->W.heap[by_]? =some (oC #[ab n] 3)->W.heap[mb]? =some (m.obj ab kv)->
 ue prog 327 [ptr bx 0,ptr by_ 0] aA (Ci (fw kv k n)) (Is (fw kv k n)) (λ_=>False) (XQ bx by_ mb) W
theorem ndp(kv:List (Int×Int)):Qo kv 0:=λn bx by_ mb m W h1 h2 h3=>by omega
theorem nDe(mp:Option Nat)(n:Int)(w:World):Calls prog 304 #[.map mp,ab n] w (cK w (λq:Nat×Nat=>.func (.func 327) #[] #[ptr q.1 0,ptr q.2 0]) (λq w1=>w.heap.size<=q.1/\w.heap.size<=q.2/\w1.heap[q.1]? =some (oC #[.map mp] 165)/\w1.heap[q.2]? =some (oC #[ab n] 3))):=by
 refine eN func304 ntmps304 ?_;refine B 2 ?_;refine yX ?_;intro b2 w2 di bV ff dB dx;refine yX ?_;intro b3 w3 cZ cu fC ez eP;refine B 10 ?_;refine rY (b2,b3) results304 rfl A2 rfl ?_;try simp only[ae]at dB ez
 have Xe:=dB.1;have am5:=ez.1;try have am6:=ez.2.1
 exact λW hS=>⟨by omega,by omega,hS.old A1 di bV trivial,hS.old A0 cZ cu trivial⟩
theorem nfk{n l Dk:Nat}{rec:Loop}{ms:List Mk}(h1:n<=Dk)(h2:n<=l)(h:BG n ms):BG n ((l,rec,Dk)::ms):=by
 intro q hq;rcases bX.1 hq with rfl|hq
 ·exact⟨h2,h1⟩
 exact h q hq
theorem nkp{i:Int}(h:1024<=n*2^(k+1))(hi:0<=i):1024<=(2*n+i)*2^k:=by
 rw[Int.pow_succ]at h;have hp:(0:Int)<2^k:=Int.pow_pos zA;have h9:n*(2^k*2)=(2*n)*2^k:=by rw[Int.mul_comm (2^k) 2,<-Int.mul_assoc,Int.mul_comm n 2]
 have h8:(2*n+i)*2^k=(2*n)*2^k+i*2^k:=Int.add_mul _ _ _;have h7:0<=i*2^k:=Int.mul_nonneg hi aa;omega
theorem CJ.perm{C:Cx}{Q:aY}{E:Env}{D:List Deferred}{G:Gh}{H':ad}{c:Code}(hp:H.Perm H')(h:CJ C c Q E D G L H'):CJ C c Q E D G L H:=λa W hN hD hF hS=>h a W hN hD hF (hS.perm hp)
theorem Es(n:Nat):BG n []:=λq hq=>absurd hq zI
theorem n1o(ih:Qo kv k)(n:Int)(bx by_ mb:Nat)(m:Mp)(W:World)(h1:1<=n)(h2:n<1024)(h3:1024<=n*2^(k+1))(hm:m.Ok kv)(hb1:W.heap[bx]? =some (oC #[.map (some mb)] 165))(di:W.heap[by_]? =some (oC #[ab n] 3))(sG:W.heap[mb]? =some (m.obj ab kv)):ue prog 327 [ptr bx 0,ptr by_ 0] aA (Ci (fw kv (k+1) n)) (Is (fw kv (k+1) n)) (λ_=>False) (XQ bx by_ mb) W:=by
 intro l0 M0 I X0 hM hI hX hy h0;have cF:¬(dt hM (λ_=>False) (hI [] _)).X bx:=by rintro(h|h);exact(hM _ h).2.2 (.inl rfl);exact h.elim
 have bV:¬(dt hM (λ_=>False) (hI [] _)).X by_:=by rintro(h|h);exact(hM _ h).2.2 (.inr (.inl rfl));exact h.elim
 have Ea:¬(dt hM (λ_=>False) (hI [] _)).X mb:=by rintro(h|h);exact(hM _ h).2.2 (.inr (.inr rfl));exact h.elim
 have mr:=(aT.1 hb1).1;have Ix:=(aT.1 di).1;have P3:=(aT.1 sG).1;refine Pe (dt hM (λ_=>False) (hI [] _)) [] (vs:=[_,_,_]) func327 rfl ntmps327 rfl (Na hM (hI [] _) h0 zI (by simp[lq]) zI) ?_;refine B 2 ?_;refine yX ?_;intro b3 w3 cZ cu fC ez eP;refine B 7 ?_;refine rv rfl rfl rfl (qz (ev:=ab) underlying165 underlying3 zeroValue3 hm (bB.old A1 sG Ea trivial) rfl rfl) ?_;refine B 12 ?_;refine aG ?_ ?_
 ·intro ar;refine B 4 ?_;refine Bl (λV=>hI ([]++[n]) V) hX (λ_ h=>h.elim) A1 rfl rfl rfl rfl (λW1 uf kX=>hy [] n _ W1 (by rw[nYh ar];exact List.prefix_refl _) uf kX) ?_ ?_
  ·intro V0 BH;refine B 4 ?_;exact XR (ms:=([]:List Mk)) (H0:=[]) (.inl rfl) results327 A1 BH (by intro j hj hx;simp[sI]at hx) (λA hA=>.inl ⟨[n],by rw[nYh ar],hA⟩)
  intro V0 BH;refine B 4 ?_;exact XR (ms:=([]:List Mk)) (H0:=[]) (.inl rfl) results327 A1 BH (by intro j hj hx;simp[sI]at hx) (λA hA=>.inr hA)
 intro ar;refine B 9 ?_;refine aG ?_ ?_
 ·intro aN;refine B 2 ?_;exact XR (ms:=([]:List Mk)) (H0:=[]) (.inl rfl) results327 A1 (λ_ h=>h.elim) (by intro j hj hx;simp[sI]at hx) (λA hA=>.inl ⟨[],by rw[nNg (by simpa using ar) aa],hA⟩)
 intro aN;refine B 9 ?_;refine rv rfl rfl rfl (yC underlying330 zeroValue330 sizeOf3 rfl rfl rfl rfl) ?_;refine B 4 ?_;refine CJ.loopD (α:=(Nat×List Mk)×aE) (λp=>mkD p.1.2) (λp=>[(1,ptr bx 0),(2,ptr by_ 0),(3,ptr b3 0),(26,.agg #[ab (2*n),ab (2*n+1)]),(27,ab (p.1.1:Int))]) (λp=>sI p.1.2) (λp=>[w3,W]) (λp=>dt hM p.2 (hI (tH kv k n p.1.1) p.2)) (λp=>p.1.1<=2/\BG w3.heap.size p.1.2/\∀j,p.2 j->w3.heap.size<=j) (λp=>2-p.1.1) ((0,[]),λ_=>False) ⟨cR _,Es _,λ_ h=>h.elim⟩ zR rfl rfl zI rfl ?_;rintro⟨⟨i,ms⟩,V0⟩ ⟨hi,BI,BH⟩;dsimp only at hi BI BH ⊢;have cF:¬(dt hM V0 (hI (tH kv k n i) V0)).X bx:=by rintro(h|h);exact(hM _ h).2.2 (.inl rfl);have:=BH _ h;omega
 clear cu;have cu:¬(dt hM V0 (hI (tH kv k n i) V0)).X b3:=by rintro(h|h);(have:=(hM _ h).1;omega);(have:=BH _ h;omega)
 refine B 6 ?_;refine aG ?_ ?_
 ·intro dp;refine B 6 ?_;refine rv rfl rfl rfl (uh (v:=ab (2*n+(i:Int))) underlying330 isAgg3 sizeOf3 rfl rfl aa aa (Qm n i aa)) ?_;refine B 5 ?_;refine rv rfl rfl rfl (av (v:=.map (some mb)) isAgg165 rfl A1 hb1 cF (nwn BI aa) rfl) ?_;refine B 1 ?_;refine nv (α:=Nat×Nat) (v:=λq:Nat×Nat=>.func (.func 327) #[] #[ptr q.1 0,ptr q.2 0]) (Φ:=λ(W:World) (q:Nat×Nat) (w1:World)=>W.heap.size<=q.1/\W.heap.size<=q.2/\w1.heap[q.1]? =some (oC #[.map (some mb)] 165)/\w1.heap[q.2]? =some (oC #[ab (2*n+(i:Int))] 3)) call304 rfl rfl rfl (λW hS=>nDe (some mb) (2*n+(i:Int)) W) ?_;rintro Wk q wk vq Eb ⟨xu,vr,Et,Eu⟩;try dsimp only at xu vr Et Eu
  have Qp:=(aT.1 Et).1;have Qq:=(aT.1 Eu).1;have hzk:=Eb.size;have hzW:=(vq.links W A1).size;have fC:=(vq.links w3 A0).size;have hVk:∀j,V0 j->j<Wk.heap.size:=λj hj=>vq.xlt j (.inr hj);have NF:∀j,XQ q.1 q.2 mb j->j<wk.heap.size/\j∉(sI ms).map (·.1)/\¬(dt hM V0 (hI (tH kv k n i) V0)).X j:=by
   intro j hj;have XS:Wk.heap.size<=j->j∉(sI ms).map (·.1)/\¬(dt hM V0 (hI (tH kv k n i) V0)).X j:=λhg=>⟨λhm=>by obtain⟨p,hp,e⟩:=bW.1 hm;have:=vq.lt p hp;omega,λhx=>by rcases hx with hx|hx;(have:=(hM _ hx).1;omega);(have:=hVk _ hx;omega)⟩;rcases hj with rfl|rfl|rfl
   ·exact⟨Qp,XS xu⟩
   ·exact⟨Qq,XS vr⟩
   exact⟨by omega,λhm=>by obtain⟨p,hp,e⟩:=bW.1 hm;have:=XT BI p hp;omega,λhx=>by rcases hx with hx|hx;(exact(hM _ hx).2.2 (.inr (.inr rfl)));(have:=BH _ hx;omega)⟩
  refine B 3 ?_;refine VY (f:=327) (cap:=[ptr q.1 0,ptr q.2 0]) (α:=Int) (enc:=aA) (Pre:=Ci (fw kv k (2*n+(i:Int)))) (Fin:=Is (fw kv k (2*n+(i:Int)))) (RO:=XQ q.1 q.2 mb) (MI:=λ_=>False) rfl call327 (λW' W2 hS hB=>by have hlk:=(hS.links wk A0).size;exact ih (2*n+(i:Int)) q.1 q.2 mb m W2 aa aa (nkp h3 aa) hm (by rw[hB.block q.1 aa];exact hS.old A0 Et (NF _ (.inl rfl)).2.2 (bA.of_mem (NF _ (.inl rfl)).2.1)) (by rw[hB.block q.2 aa];exact hS.old A0 Eu (NF _ (.inr (.inl rfl))).2.2 (bA.of_mem (NF _ (.inr (.inl rfl))).2.1)) (by have:=(hS.links W A2).size;rw[hB.block mb aa];exact hS.old A2 sG (NF _ (.inr (.inr rfl))).2.2 (bA.of_mem (NF _ (.inr (.inr rfl))).2.1))) (λ_ _ _ hk=>hk.elim) (λW' hS j hj=>⟨by have:=(NF j hj).1;have:=(hS.links wk A0).size;omega,(NF j hj).2⟩) (λ_=>rfl) (λpre G' Hc=>∃V1:aE,(∀j,V0 j->V1 j)/\(∀j,V1 j->V0 j\/w3.heap.size<=j)/\G'=dt hM V1 (hI (tH kv k n i++pre) V1)/\Hc=sI ms) (λc G' Hc=>c= .ret/\∃V1:aE,(∀j,V1 j->W.heap.size<=j)/\G'=dt hM V1 (hX V1)/\Hc=sI ms) ⟨V0,λ_ h=>h,λ_ h=>.inl h,by rw[eb],rfl⟩ zA ?_ ?_ ?_
  ·rintro pre x G' Hc l Dk rec W1 M V Wy ow vk dS ⟨V1,hVV,UJ,rfl,rfl⟩ iQ lK Pg xZ dz C6;simp only[ae]at iQ xZ;have hVW:∀j,V1 j->W.heap.size<=j:=λj hj=>by rcases UJ j hj with h|h;(have:=BH j h;omega);omega
   have cu:¬((dt hM V1 (hI (tH kv k n i++pre) V1)).ext λj=>M j\/V j).X b3:=dz.z aa cu (λhm=>by obtain⟨p,hp,e⟩:=bW.1 hm;have:=XT BI p hp;omega) (by rintro(h|h);(have:=(hM _ h).1;omega);(rcases UJ _ h with h|h;(have:=BH _ h;omega);omega));have agn:∀r',bA (book (sI ms) l r' (fG Dk)) b3:=λr'=>by unfold book;rw[jK];exact⟨nwn BI aa,by simp only[fG,bA,and_true];omega⟩
   refine B 3 ?_;refine Nc ow ?_;refine B 3 ?_;refine rv rfl rfl rfl (av (v:=yv l0) isAgg294 rfl A2 cZ cu (agn _) rfl) ?_;refine B 1 ?_;refine XU (λj=>M j\/V j) (λG=>G.ext λj=>M j\/V j) (XV _) (V:=V1) (λV=>hI ((tH kv k n i++pre)++[x]) V) hX hVW rfl rfl rfl rfl (λW1 uf kX=>hy (tH kv k n i++pre) x V1 W1 (by rw[iY,nYe (by simpa using ar) aa,<-nZn];exact Ki aa dS) uf kX) ?_ ?_
   ·intro V2 lh vY;have yM:=vY Wy A0;have Qr:∀j,V2 j->V0 j\/w3.heap.size<=j:=λj hj=>by rcases yM j hj with h|h;exact UJ j h;exact .inr (by have:=(C6.links w3 A1).size;omega)
    try dsimp only
    refine B 6 ?_;refine Jg (G2:=dt hM V2 (hI ((tH kv k n i++pre)++[x]) V2)) (Hc2:=sI ms) dz lK ⟨(λj h=>h.imp id (λh=>lh j (hVV j h))),(λj h=>h.elim (λh=>.inl (.inl h)) (λh=>(yM j h).imp .inr id)),(λj h=>h.elim (λh=>.inl (.inl h)) (λh=>(yM j h).imp .inr id)),(λp hp=>.inl (bW.2 ⟨p,hp,rfl⟩)),(λp hp=>.inl (bW.2 ⟨p,hp,rfl⟩))⟩ (Jh ow vk) ?_;exact⟨V2,λj h=>lh j (hVV j h),Qr,by rw[iY],rfl⟩
   intro V2 lh vY;have yM:=vY Wy A0;have Qr:∀j,V2 j->V0 j\/w3.heap.size<=j:=λj hj=>by rcases yM j hj with h|h;exact UJ j h;exact .inr (by have:=(C6.links w3 A1).size;omega)
   try dsimp only
   refine B 6 ?_;refine nVk (G2:=dt hM V2 (hX V2)) (Hc2:=sI ms) (c:=.ret) dz lK ⟨(λj h=>h.imp id (λh=>lh j (hVV j h))),(λj h=>h.elim (λh=>.inl (.inl h)) (λh=>(yM j h).imp .inr id)),(λj h=>h.elim (λh=>.inl (.inl h)) (λh=>(yM j h).imp .inr id)),(λp hp=>.inl (bW.2 ⟨p,hp,rfl⟩)),(λp hp=>.inl (bW.2 ⟨p,hp,rfl⟩))⟩ (.inl ⟨rfl,rfl⟩) rfl ?_;exact⟨rfl,V2,λj hj=>by rcases Qr j hj with h|h;(have:=BH j h;omega);omega,rfl,rfl⟩
  ·rintro pV l Dk rec G' Hc rfl iQ lK ⟨V1,hVV,UJ,rfl,rfl⟩;replace iQ:=yb iQ;refine B 7 ?_;refine PJ.perm (nkm l Dk rec ms []) ?_;refine nUo ((i+1,(l,rec,Dk)::ms),V1) ⟨by dsimp only;omega,nfk iQ.2.1 aa BI,λj hj=>(UJ j hj).elim (BH j) id⟩ zS zR rfl (by dsimp only;rw[nNh]) zI rfl
  rintro l Dk rec c G' Hc iQ lK ⟨rfl,V1,hVW,rfl,rfl⟩;replace iQ:=yb iQ;refine CJ.perm (nkm l Dk rec ms []) ?_;refine B 6 ?_;exact XR (ms:=(l,rec,Dk)::ms) (H0:=[]) (.inl rfl) results327 A2 hVW (by intro j hj hx;obtain⟨p,hp,e⟩:=bW.1 hx;have:=XT (n:=w3.heap.size) (ms:=(l,rec,Dk)::ms) (nfk iQ.2.1 aa BI) p hp;omega) (λA hA=>.inr hA)
 intro dp;refine B 4 ?_;exact XR (ms:=ms) (H0:=[]) (.inr rfl) results327 A1 (λj hj=>by have:=BH j hj;omega) (by intro j hj hx;obtain⟨p,hp,e⟩:=bW.1 hx;have:=XT (n:=w3.heap.size) (ms:=ms) BI p hp;omega) (λA hA=>.inl ⟨tH kv k n i,by rw[nYe (by simpa using ar) aa,<-nZn,show i=2 by omega],hA⟩)
theorem XW(kv:List (Int×Int)):∀k,Qo kv k
 |0=>ndp kv
 |k+1=>λn bx by_ mb m W h1 h2 h3 hm hb1 di sG=>n1o (XW kv k) n bx by_ mb m W h1 h2 h3 hm hb1 di sG
theorem OJ.frz{C:Cx}{Q:aY}{E:Env}{D:List Deferred}{G:Gh}{H':ad}{ops:Array Oper}{l:List Oper}{o:Obj}(hi:H[i]? =some (b,o))(hH:H.eraseIdx i=H')(ha:ae L b)(k:∀w1,w1.heap[b]? =some o->b<w1.heap.size->(∀w∈L,w.heap.size<=w1.heap.size)->OJ C ops Q l E D G (w1::L) H'):OJ C ops Q l E D G L H:=by
 subst hH;intro a W hN hD hF hS;have hb:=hS.own _ (cO hi);exact k W hb (aT.1 hb).1 (λw hw=>(hS.links w hw).size) a W hN hD hF (hS.dropAt hi ha).snap
noncomputable def oD (ns:List Nd) (n:Int):List Int:=if jQ ns=0/\1<=n/\n<=1023 then fw (dP ns) 10 n else[]
noncomputable def NG (ns:List Nd) (n:Int):Int:=if jQ ns=0 then(if 1<=n/\n<=1023 then 0 else 200)else 210
theorem njm(kv:List (Int×Int)):∀(k:Nat) (n:Int),(fw kv k n).length<=2^k:=
 by intro x;induction x<;>(intros;grind [fw,bU,nYh,nNg,nYe])
theorem nJk(ns:List Nd)(n:Int):(oD ns n).length<=1024:=by
 unfold oD;split
 ·exact njm _ 10 n
 simp
theorem Kj:ew prog 327:=call327
theorem nPj(ns:List Nd)(hn:ns.length<=100000)(N:Nat)(a:Option Addr)(cp:Nat)(w:World)(hN:N<=w.heap.size)(aJ:ai gb 2 N w a ns)(gY:jQ ns=210)(n:Int):Calls prog 262 #[.agg #[.slice a ns.length cp],ab n] w (aD w aA 1 3 [] (λs=>.tuple #[s,ab (210)])):=by
 refine eN func262 ntmps262 ?_;refine B 2 ?_;refine yX ?_;intro b2 w2 di bV ff dB dx;refine B 7 ?_;refine Kd ?_;refine zue ?_;refine B 6 ?_;refine XO ?_;exact zzg
theorem nWk(ns:List Nd)(hn:ns.length<=100000)(N:Nat)(a:Option Addr)(cp:Nat)(w:World)(hN:N<=w.heap.size)(aJ:ai gb 2 N w a ns)(gY:jQ ns=0)(n:Int)(qA:¬(1<=n/\n<=1023)):Calls prog 262 #[.agg #[.slice a ns.length cp],ab n] w (aD w aA 1 3 [] (λs=>.tuple #[s,ab (200)])):=by
 refine eN func262 ntmps262 ?_;refine B 2 ?_;refine yX ?_;intro b2 w2 di bV ff dB dx;refine B 7 ?_;refine zlf ?_;refine Eh ?_;by_cases h1:n<1
 ·refine B 2 ?_;refine ay cY ?_;refine B 15 ?_;exact zzg
 refine xp ?_;refine B 2 ?_;refine XO ?_;exact zzg
theorem n7k(ns:List Nd)(hn:ns.length<=100000)(N:Nat)(a:Option Addr)(cp:Nat)(w:World)(hN:N<=w.heap.size)(aJ:ai gb 2 N w a ns)(gY:jQ ns=0)(n:Int)(qA:1<=n/\n<=1023):Calls prog 262 #[.agg #[.slice a ns.length cp],ab n] w (aD w aA 1 3 (fw (dP ns) 10 n) (λs=>.tuple #[s,ab (0)])):=by
 have yA:=qA.1;have mq:=qA.2;refine eN func262 ntmps262 ?_;refine B 2 ?_;refine yX ?_;intro b2 w2 di bV ff dB dx;refine B 7 ?_;refine zlf ?_;refine ay bN ?_;refine B 9 ?_;refine ay bN ?_;refine xp ?_;refine B 8 ?_;refine Kd ?_;refine znd ?_;intro bf m Ej Nu hm;replace Ej:=yb Ej;refine B 1 ?_;refine OJ.frz (i:=0) (H':=[]) rfl rfl zC ?_;intro wf hwf hlf hzf;have am7:=hzf w A1;refine nv (α:=Nat×Nat) (v:=λq:Nat×Nat=>.func (.func 327) #[] #[ptr q.1 0,ptr q.2 0]) (Φ:=λ(W:World) (q:Nat×Nat) (w1:World)=>W.heap.size<=q.1/\W.heap.size<=q.2/\w1.heap[q.1]? =some (oC #[.map (some bf)] 165)/\w1.heap[q.2]? =some (oC #[ab n] 3)) call304 rfl rfl rfl (λW hS=>nDe (some bf) n W) ?_;rintro Wk q wk vq Eb ⟨xu,vr,Et,Eu⟩;try dsimp only at xu vr Et Eu
 have Qp:=(aT.1 Et).1;have Qq:=(aT.1 Eu).1;have hzk:=Eb.size;have hzw:=(vq.links wf A0).size;refine UG (enc:=aA) (m:=1) (t:=3) (Fin:=Is (fw (dP ns) 10 n)) (v:=id) call191 rfl rfl rfl (λW hS=>nDk (f:=327) (cap:=[ptr q.1 0,ptr q.2 0]) (Pre:=Ci (fw (dP ns) 10 n)) (Fin:=Is (fw (dP ns) 10 n)) (RO:=XQ q.1 q.2 bf) Kj W ?_ ?_ ?_) ?_
 ·have mr:=(hS.links wk A0).size;rintro j (rfl|rfl|rfl)<;>omega
 ·intro p hp;have h1:p.length<=_:=hp.length_le;have h2:=njm (dP ns) 10 n;omega
 ·intro W2 hB;have mr:=(hS.links wk A0).size;exact XW (dP ns) 10 n q.1 q.2 bf m W2 aa aa aa hm (by rw[hB.block q.1 aa];exact hS.old A0 Et zJ trivial) (by rw[hB.block q.2 aa];exact hS.old A0 Eu zJ trivial) (by rw[hB.block bf aa];exact hS.old A1 hwf zJ trivial)
 intro xs r dO aK ah;cases dO
 refine B 5 ?_;exact nP (H0:=[]) (H1:=[]) (r:=r) (.inl rfl) results262 aX A3 (by rw[eb];exact Rw.over (Rw.ge_of aK A3)) rfl ah (Rw.ge_of aK A3) zI
theorem nBg(ns:List Nd)(hn:ns.length<=100000)(N:Nat)(a:Option Addr)(cp:Nat)(w:World)(hN:N<=w.heap.size)(aJ:ai gb 2 N w a ns)(n:Int):Calls prog 262 #[.agg #[.slice a ns.length cp],ab n] w (aD w aA 1 3 (oD ns n) (λs=>.tuple #[s,ab (NG ns n)])):=by
 rcases nch ns with h|h
 ·by_cases h2:1<=n/\n<=1023
  ·have e1:oD ns n=fw (dP ns) 10 n:=by unfold oD;rw[if_pos ⟨h,h2⟩]
   have e2:NG ns n=0:=by unfold NG;rw[if_pos h,if_pos h2]
   rw[e1,e2];exact n7k ns hn N a cp w hN aJ h n h2
  have e1:oD ns n=[]:=by unfold oD;rw[if_neg λg=>h2 g.2]
  have e2:NG ns n=200:=by unfold NG;rw[if_pos h,if_neg h2]
  rw[e1,e2];exact nWk ns hn N a cp w hN aJ h n h2
 have e1:oD ns n=[]:=by unfold oD;rw[if_neg λg=>by have:=g.1;omega]
 have e2:NG ns n=210:=by unfold NG;rw[if_neg aa]
 rw[e1,e2];exact nPj ns hn N a cp w hN aJ h n
end Px
