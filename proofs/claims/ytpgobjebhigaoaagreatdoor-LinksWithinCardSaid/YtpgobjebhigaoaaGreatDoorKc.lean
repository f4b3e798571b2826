/- Contracts of functions of the program. No condition beyond those stated. -/
import Derived.Test.YtpgobjebhigaoaaGreatDoorKb
import Derived.Test.YtpgobjebhigaoaaGreatDoorProg
import Derived.Lib.RowBridge
import Derived.Test.YtpgobjebhigaoaaGreatDoorLa
set_option linter.unusedSimpArgs false
set_option linter.unusedVariables false
set_option linter.unusedSectionVars false
set_option linter.unnecessarySimpa false
set_option maxRecDepth 20000
set_option maxHeartbeats 8000000
namespace Px
open Go Go.RowKit Go.Proofs Go.Proofs.Tryz
variable {C:Cx} {E:Env} {Z:Fx} {G:Gh} {H H':ae} {d:Int} {D:List Deferred} {Fin Pre:List Int->Prop} {ms:List Mk} {js:List Nat} {sp:List Value} {L:List World} {rec:Loop} {b f i j k:Nat} {RO:Nat->Prop} {W:World}
theorem RI(hZ:FxOk Z)(k:Int):0<=(Z.ge 4 k).1/\(Z.ge 4 k).1<4611686018427377339:=by
 rw[<-hZ.ge];unfold gExp;split
 ·split
  ·exact VE 4 k _ zQ
  exact⟨by decide,by decide⟩
 exact⟨by decide,by decide⟩
theorem Fp(a b:Int):oM (qg a b).1:=by
 unfold qg;exact zdl
theorem Fq(hZ:FxOk Z)(x:Int)(m:List UInt8):fY (kY Z x m):=by
 have:=RI hZ (Dv Z x m);unfold kY;exact⟨by omega,by omega⟩
theorem Fs(Z:Fx)(x:Int)(m:List UInt8):fY (oT Z x m):=by
 have:=Fp (Dv Z x m) (kh (E1 Z (kY Z x m) (Z.ge 4 x).1 m) x).1;unfold oT;exact⟨by have:=this.1;omega,by have:=this.2;omega⟩
def sl (e:Int) (r s:Int):Lk:=⟨0,0,4,4,e,false,λ_=>0,r,s⟩
def OT:Lk:=⟨0,0,4,4,1,false,λi=>if i=0 then 1 else 0,0,0⟩
theorem OU(e r s:Int)(he:fY e)(hr:fY r)(hs:fY s):cT (sl e r s):=⟨show fY 0 by decide,show fY 0 by decide,show fY 4 by decide,show fY 4 by decide,he,λ_=>show(0:Int)<=0/\(0:Int)<256 by decide,hr,hs⟩
theorem K2:cT OT:=⟨by decide,by decide,by decide,by decide,by decide,λi=>by unfold OT;simp only;split<;>decide,by decide,by decide⟩
theorem sl0:nB (sl 0 0 0)=false:=by decide +kernel
theorem K3:nB (sl 1 0 0)=true:=by decide +kernel
theorem sl1(r s:Int):nB (sl 1 r s)=true:=K3
theorem aaK:nB OT=false:=by decide +kernel
theorem RJ:nB kH=false:=by decide +kernel
theorem RK:¬jY 0:=by decide
theorem zD:jY 1:=by decide
theorem RL:jY 2:=by decide
theorem ge1(hZ:FxOk Z):(Z.ge 4 1).1=4:=by rw[<-hZ.ge,VM zD];decide +kernel
theorem ge2(hZ:FxOk Z):(Z.ge 4 2).1≠4:=by rw[<-hZ.ge,VM RL];decide +kernel
def DG:Ek:=⟨λ_=>0,λ_=>0⟩
theorem aaL(Z:Fx):xV Z (sl 0 0 0) 1= .tuple #[.agg (lkC kH),.int .i64 400]:=by unfold xV;rw[if_neg (by rw[sl0];decide)]
theorem aaM(Z:Fx):xV Z (sl 1 0 0) 0= .tuple #[.agg (lkC kH),.int .i64 50]:=by unfold xV;rw[if_pos K3,if_neg RK]
theorem aaN(Z:Fx):xV Z OT 1= .tuple #[.agg (lkC kH),.int .i64 400]:=by unfold xV;rw[if_neg (by rw[aaK];decide)]
theorem aaO(hZ:FxOk Z):∃r s,fY r/\fY s/\xV Z (sl 1 0 0) 1= .tuple #[.agg (lkC (sl 1 r s)),.int .i64 0]:=by
 refine⟨_,_,Fq hZ 1 (dn (fe Z (sl 1 0 0))),Fs Z 1 (dn (fe Z (sl 1 0 0))),?_⟩;unfold xV;rw[if_pos K3,if_pos zD];rfl
theorem aaP(hZ:FxOk Z)(r s:Int):oW Z (sl 1 r s) DG 0 1 2= .tuple #[.agg (gY DE),.int .i64 400]:=by
 unfold oW;rw[if_pos ⟨sl1 r s,by decide,by decide⟩,if_pos zD,if_pos RL,if_neg (show ¬(Z.ge 4 2).1=(sl 1 r s).pub from ge2 hZ)]
theorem aaQ(hZ:FxOk Z)(r s:Int):∃n r2 s2,oW Z (sl 1 r s) DG 0 1 1= .tuple #[.agg (gY ⟨iL Z (sl 1 r s),λ_=>0,0,n,r2,s2⟩),.int .i64 0]:=by
 refine⟨wN Z DG 1,kY Z 1 (dn (rT Z (uj Z (sl 1 r s) DG 0 1))),oT Z 1 (dn (rT Z (uj Z (sl 1 r s) DG 0 1))),?_⟩;unfold oW;rw[if_pos ⟨sl1 r s,by decide,by decide⟩,if_pos zD,if_pos zD,if_pos (show(Z.ge 4 1).1=(sl 1 r s).pub from ge1 hZ)];rfl
theorem IJ:jh DG.com:=λ_=>show(0:Int)<=0/\(0:Int)<256 by decide
theorem IK:jh DG.sec:=λ_=>show(0:Int)<=0/\(0:Int)<256 by decide
theorem njl(f:Nat->Int):jl f f=true:=nUk (ks:=kZ 32 [.i]) (ys:=(dg f).toList) rfl
def IL:Array Value:=#[.int .i64 0,.int .u8 0,.int .u8 0,.int .u8 0,.int .u8 0,.int .u8 0,.int .u8 0,.int .u8 0,.int .u8 0,.int .u8 0,.int .u8 0,.int .u8 0,.int .u8 0,.int .u8 0,.int .u8 0,.int .u8 0,.int .u8 0,.int .u8 0,.int .u8 0,.int .u8 0,.int .u8 0,.int .u8 0,.int .u8 0,.int .u8 0,.int .u8 0,.int .u8 0,.int .u8 0,.int .u8 0,.int .u8 0,.int .u8 0,.int .u8 0,.int .u8 0,.int .u8 0,.int .i64 0,.int .i64 0,.int .i64 0,.int .i64 0,.int .i64 0,.int .i64 0,.int .u8 0,.int .u8 0,.int .u8 0,.int .u8 0,.int .u8 0,.int .u8 0,.int .u8 0,.int .u8 0,.int .u8 0,.int .u8 0,.int .u8 0,.int .u8 0,.int .u8 0,.int .u8 0,.int .u8 0,.int .u8 0,.int .u8 0,.int .u8 0,.int .u8 0,.int .u8 0,.int .u8 0,.int .u8 0,.int .u8 0,.int .u8 0,.int .u8 0,.int .u8 0,.int .u8 0,.int .u8 0,.int .u8 0,.int .u8 0,.int .u8 0,.int .u8 0,.slice none 0 0,.int .i64 0,.int .i64 0]
theorem n3f(hZ:FxOk Z)(w:World)(hg:Glb w):Calls prog 6 #[] w (av w (.bool true)):=by
 have eC:=hg.lt;obtain⟨r,sg,hr,hs,hmk⟩:=aaO hZ;obtain⟨vl,KY⟩:∃f,iL Z (sl 1 r sg)=f:=⟨_,rfl⟩;obtain⟨fn,fr_,fs_,hfa⟩:=aaQ hZ r sg;rw[KY]at hfa;refine enter (vs:=[]) func6 rfl ntmps6 rfl ?_;refine B 7 ?_;refine rr (.agg (dg (sl 0 0 0).par)) (qu underlying34 zeroValue34 sizeOf5 rfl rfl) ?_;refine call call15 rfl rfl rfl (λW hS=>by have:=Wv hZ (sl 0 0 0) (OU 0 0 0 zQ zQ zQ) rfl rfl 1 W (hg.old hS z1 zU zP);rw[aaL]at this;exact this) (v:=.tuple #[.agg (lkC kH),.int .i64 400]) ?_;refine Wz ?_;refine yW ?_;intro b1 eK iH;refine WA ?_;refine B 5 ?_;refine zPh ?_;refine call call15 rfl rfl rfl (λW hS=>by have:=Wv hZ (sl 1 0 0) (OU 1 0 0 zQ zQ zQ) rfl rfl 0 W (hg.old hS z1 zU zP);rw[aaM]at this;exact this) (v:=.tuple #[.agg (lkC kH),.int .i64 50]) ?_;refine Wz ?_;refine yW ?_;intro b3 bV cL;refine WA ?_;refine B 5 ?_;refine zPh ?_;refine call call15 rfl rfl rfl (λW hS=>by have:=Wv hZ (sl 1 0 0) (OU 1 0 0 zQ zQ zQ) rfl rfl 1 W (hg.old hS z1 zU zP);rw[hmk]at this;exact this) (v:=.tuple #[.agg (lkC (sl 1 r sg)),.int .i64 0]) ?_;refine Wz ?_;refine yW ?_;intro b5 gQ gR;refine WA ?_;refine B 5 ?_;refine rr (.agg (dg OT.par)) (qu underlying34 zeroValue34 sizeOf5 rfl rfl) ?_;refine call call15 rfl rfl rfl (λW hS=>by have:=Wv hZ OT K2 rfl rfl 1 W (hg.old hS z1 zU zP);rw[aaN]at this;exact this) (v:=.tuple #[.agg (lkC kH),.int .i64 400]) ?_
 refine Wz ?_;refine yW ?_;intro b7 gg ow;refine WA ?_;refine B 5 ?_;refine rr (.agg RF) (bS underlying31 zeroValue31 (bC.c sizeOf22 (bC.c sizeOf23 (bC.c sizeOf24 (bC.c sizeOf25 (bC.c sizeOf26 (bC.c sizeOf27 (bC.c sizeOf28 (bC.c sizeOf29 (bC.n))))))))) rfl rfl) ?_;refine rr (.agg (lkC kH)) (bS underlying38 zeroValue38 (bC.c sizeOf3 (bC.c sizeOf3 (bC.c sizeOf3 (bC.c sizeOf3 (bC.c sizeOf3 (bC.c sizeOf4 (bC.c sizeOf34 (bC.c sizeOf36 (bC.n))))))))) rfl rfl) ?_;refine rr (.agg IL) (bS underlying66 zeroValue66 (bC.c sizeOf3 (bC.c sizeOf34 (bC.c sizeOf3 (bC.c sizeOf3 (bC.c sizeOf3 (bC.c sizeOf3 (bC.c sizeOf63 (bC.c sizeOf64 (bC.c sizeOf36 (bC.n)))))))))) rfl rfl) ?_;refine call call14 rfl rfl rfl (λW hS=>RH kH (.inl RJ) IL W) ?_;refine B 3 ?_;refine aU zeroValue63 rfl rfl ?_;refine yW ?_;intro b9 rE Km;refine aZ (i:=0) rfl sizeOf63 rfl rfl rfl rfl rfl rfl ?_;refine B 5 ?_;refine rr (.agg (lkC (sl 1 r sg))) (aP (i:=2) rfl isAgg38 sizeOf38 rfl rfl) ?_;refine zth ?_;refine call call16 rfl rfl rfl (λW hS=>by have:=n3g hZ (sl 1 r sg) (OU 1 r sg zQ hr hs) DG IJ IK 0 1 2 W zQ (hg.old hS z1 zU zP);rw[aaP hZ]at this;exact this) (v:=.tuple #[.agg (gY DE),.int .i64 400]) ?_;refine B 3 ?_;refine aU zeroValue59 rfl rfl ?_;refine yW ?_;intro s9 Kq Kr;refine Wx ?_;refine B 5 ?_;refine rr (.agg (lkC (sl 1 r sg))) (aP (i:=3) rfl isAgg38 sizeOf38 rfl rfl) ?_
 refine zth ?_;refine call call16 rfl rfl rfl (λW hS=>by have:=n3g hZ (sl 1 r sg) (OU 1 r sg zQ hr hs) DG IJ IK 0 1 1 W zQ (hg.old hS z1 zU zP);rw[hfa]at this;exact this) (v:=.tuple #[.agg (gY ⟨vl,λ_=>0,0,fn,fr_,fs_⟩),.int .i64 0]) ?_;refine B 3 ?_;refine aU zeroValue59 rfl rfl ?_;refine yW ?_;intro b13 EP Ku;refine Wx ?_;refine B 5 ?_;refine call call17 rfl rfl rfl (λW hS=>nij 0 RK W) ?_;refine B 8 ?_;refine ng (E':=[(0,_),(1,_),(2,_),(3,_),(4,_),(5,_),(6,_),(7,_),(8,_),(9,_),(10,_),(11,_),(12,_),(13,_),(14,_),(16,_),(17,_),(18,_),(19,_),(20,_),(21,_),(22,_),(23,_),(24,_),(25,_),(26,_),(27,_),(28,_),(29,_),(30,_),(31,_),(32,_),(33,_),(34,_),(35,_),(36,_),(37,_),(38,_),(39,_),(40,_),(41,_),(42,_),(43,_),(44,_),(45,_),(46,_),(47,_),(48,_),(49,_),(50,_),(51,_),(52,_),(53,_),(54,_),(55,_),(56,_),(57,_),(58,_),(59,_)]) zR ?_;refine nl 58 ((.det [] _)::(.det [0] _)::(.det [1] _)::(.det [2] _)::(.det [2] _)::(.det [2,3,4] _)::(.det [2,5] _)::(.det [6] _)::(.det [7] _)::(.det [7,8] _)::(.det [7,9] _)::(.det [10] _)::(.det [11] _)::(.det [11,12] _)::(.det [11,13] _)::(.det [14] _)::(.det [15] _)::(.det [15,16] _)::(.det [15,17] _)::(.det [18] _)::(.det [19] _)::(.det [19,20] _)::(.det [19,21] _)::(.det [22] _)::(.det [23] _)::(.det [23,24] _)::(.det [23,25] _)::(.det [26] _)::(.det [27] _)::(.det [27,28] _)::(.det [27,29] _)::(.det [30] _)::(.det [31] _)::(.det [31,32] _)::(.det [31] _)::(.det [31,34] (.agg (dg vl)))::(.det [31,33,35] _)::(.det [31,36] _)::(.det [37] _)::(.det [38] _)::(.det [38,39] _)::(.det [38,40] _)::(.det [38,41] _)::(.det [42] _)::(.det [43] _)::(.det [43] _)::(.det [43,44,45] _)::(.det [43,46] _)::(.det [43,47] _)::(.det [48] _)::(.det [49] _)::(.det [49] _)::(.det [49,50,51] _)::(.det [49,52] _)::(.det [49,53] _)::(.det [54] _)::(.det [55] _)::(.det [55] _)::[]) zT (xc zO (xc IM (xc zO (xc zO (xc zO (xc IM (xc z6 (xc zO (xc zO (xc (by exact λab=>X.val rfl rfl (RV.re (v':=.bool true) (cy rfl rfl) rfl) (λ_ _=>rfl)) (xc z6 (xc zO (xc zO (xc IM (xc z6 (xc zO (xc zO (xc IM (xc z6 (xc zO (xc zO (xc IM (xc z6 (xc zO (xc zO (xc IM (xc z6 (xc zO (xc zO (xc IM (xc z6 (xc zO (xc WB (xc (by exact λab=>X.val rfl rfl (RV.re (v':=.agg (dg vl)) (de (i:=0) rfl isAgg34 sizeOf34 rfl (aV rfl)) (rfl)) (λ_ _=>rfl)) (xc z2b (xc (by exact λab=>nf call13 rfl rfl (λW hS _=>by rw[<-KY];exact Wo hZ (sl 1 r sg) (OU 1 r sg zQ hr hs) W (hg.old hS z1 zU zP)) (λ_=>rfl)) (xc (by exact λab=>X.val rfl rfl (RV.re (v':=.bool true) (gZ ui zQ nQ rfl rfl rfl) (vb (njl vl))) (λ_ _=>rfl)) (xc z6 (xc zO (xc rQ (xc (by exact λab=>X.val rfl rfl (aO (i:=4) rfl isAgg3 rfl rfl) (λ_ _=>rfl)) (xc IM (xc z6 (xc zO (xc zBb (xc z2b (xc (by exact λab=>nf call9 rfl rfl (λW hS _=>n1j (sl 1 r sg) (.inr (show(0:Int)≠ -1 by decide)) W) (λ_=>rfl)) (xc zsc (xc z6 (xc zO (xc zBb (xc (by exact λab=>X.val rfl rfl (RV.re (v':=.agg (lkC kH)) (bS underlying38 zeroValue38 (bC.c sizeOf3 (bC.c sizeOf3 (bC.c sizeOf3 (bC.c sizeOf3 (bC.c sizeOf3 (bC.c sizeOf4 (bC.c sizeOf34 (bC.c sizeOf36 (bC.n))))))))) rfl rfl) (rfl)) (λ_ _=>rfl)) (xc (by exact λab=>nf call9 rfl rfl (λW hS _=>n1j kH (.inl RJ) W) (λ_=>rfl)) (xc zsc (xc z6 (xc zO (xc zBb (xc z2b (xn))))))))))))))))))))))))))))))))))))))))))))))))))))))))))) zT zT zT (λab=>?_)
 refine call call8 rfl rfl rfl (λW hS=>K1 (sl 1 r sg) (.inr (show(0:Int)≠ -1 by decide)) W) ?_;refine B 1 ?_;refine rr (.bool true) (dH rfl rfl) ?_;refine B 5 ?_;refine bJ (.inl rfl) results6 (RS.t rfl (RS.n)) A0 zS ?_;rfl

def rU (a b:Int):Int×Int:=if dG a/\dG b then(a*b%4611686018427377339,0)else(0,40)
theorem n8m{a b:Int}(h:¬(dG a/\dG b)):rU a b=(0,40):=by unfold rU;rw[if_neg h]
theorem nPn{a b:Int}(ha:dG a)(hb:dG b):rU a b=(a*b%4611686018427377339,0):=by unfold rU;rw[if_pos ⟨ha,hb⟩]
theorem OV{x:Int}(h:¬(if dG x then(0:Int)else 40)=0):¬dG x:=λg=>h (if_pos g)
theorem WC{x:Int}(h:(if dG x then(0:Int)else 40)=0):dG x:=Decidable.byContradiction λg=>by rw[if_neg g]at h;exact absurd h zQ
def DH (a b:Int) (j:Nat):Int:=match j with|0=>a|_=>b
theorem zE(a b:Int)(j:Nat)(h:j<2):(#[.int .i64 a,.int .i64 b]:Array Value)[j]? =some (.int .i64 (DH a b j)):=by
 match j,h with
 |0,_=>rfl
 |1,_=>rfl
theorem ncp(a b:Int)(w:World):Calls prog 120 #[.int .i64 a,.int .i64 b] w (av w (lP (rU a b))):=by
 refine enter (vs:=[_,_]) func120 rfl ntmps120 rfl ?_;refine B 11 ?_;refine rv rfl rfl rfl (um underlying292 zeroValue292 sizeOf3 rfl rfl rfl rfl) ?_;refine B 4 ?_;refine CJ.loop (α:=Nat) (λj=>[(0,.int .i64 a),(1,.int .i64 b),(11,.agg #[.int .i64 a,.int .i64 b]),(12,.int .i64 (j:Int))]) (λj=>[]) (λj=>[w]) (λj=>Gh.no) (λj=>j<=2/\(1<=j->dG a)/\(2<=j->dG b)) (λj=>2-j) 0 ⟨by omega,λh=>absurd h zM,λh=>absurd h zM⟩ zR rfl rfl z1 ?_;rintro j ⟨hj,Ft,aaU⟩;refine B 6 ?_;refine aK ?_ ?_
 ·intro aj;refine B 6 ?_;refine rq (.int .i64 (DH a b j)) (qe underlying292 isAgg3 sizeOf3 rfl rfl zM zM (by rw[tX];exact zE a b _ zM)) (congrArg (λk=>Value.int .i64 (DH a b k)) zM) ?_;refine B 6 ?_;obtain⟨e,he⟩:∃e,(if dG (DH a b j)then(0:Int)else 40)=e:=⟨_,rfl⟩;refine WD ?_;refine B 9 ?_;refine aK ?_ ?_
  ·intro aN;refine B 13 ?_;refine nT results120 rfl rfl A0 ?_ ?_
   ·exact vi (by rw[n8m (λg=>by match j,he with|0,he=>exact OV (x:=DH a b 0) Fu g.1|j+1,he=>exact OV (x:=DH a b (j+1)) Fu g.2)])
   exact vi (by rw[n8m (λg=>by match j,he with|0,he=>exact OV (x:=DH a b 0) Fu g.1|j+1,he=>exact OV (x:=DH a b (j+1)) Fu g.2),<-he];exact if_neg (OV Fu))
  intro aN;refine B 7 ?_;refine PJ.again (j+1) ⟨by omega,λ_=>by match j,Ft,he with|0,_,he=>exact WC (x:=DH a b 0) Fu|j+1,Ft,_=>exact Ft zM,λh=>by match j,hj,he with|0,_,_=>exact absurd h zM|1,_,he=>exact WC (x:=DH a b 1) Fu|j+2,hj,_=>exact absurd aj zM⟩ zM zR rfl rfl z1
 intro aj;refine B 6 ?_;have hj2:j=2:=by omega
 have WE:=Ft zM;have Qt:=aaU zM;have eK:=WE.1;have cE:=WE.2.1;have aR:=Qt.1;have aH:=Qt.2.1;have tM:=Int.emod_nonneg (a*b) (b:=4611686018427377339) zQ;have aY:=Int.emod_lt_of_pos (a*b) (b:=4611686018427377339) zQ;refine B 5 ?_;refine call call173 rfl rfl rfl (λW hS=>YZ a b zM zM zM zM W) ?_;refine B 6 ?_;refine nT results120 rfl rfl A0 ?_ ?_
 ·exact vi (by rw[nPn WE Qt])
 exact vi (by rw[nPn WE Qt])
def RM:List TK:=kZ 3 [.i]
theorem eqA214:Fj prog 2 214 RM:=Fj.array underlying214 sizeOf67 rfl ((wM.int underlying67 isAgg67).up zQ:wM prog 1 67 [.i])
theorem K4:prog.eqGuardType prog.depth 214=false:=by kernel_rfl
def kq (Z:Fx) (p:Int) (msg:List UInt8) (r s:Int):Bool:=decide (dG p/\dG r/\oM s/\(Z.ge 4 s).1=(rU r (Z.ge p (E1 Z r p msg)).1).1)
theorem nHn{x e:Int}(h:(if dG x then(0:Int)else 40)=e):e=0↔dG x:=⟨λg=>WC (h.trans g),λg=>by rw[<-h,if_pos g]⟩
theorem zF{x e:Int}(h:(if jI x then(1:Int)else 0)=e):e=0↔oM x:=by
 subst h;by_cases g:oM x
 ·rw[VI.2 g];exact⟨λ_=>g,λ_=>rfl⟩
 rw[VJ.2 g];exact⟨λh=>absurd h zQ,λh=>absurd h g⟩
theorem Fv{p r s e1 e2 e3:Int}{msg:List UInt8}(h1:e1=0↔dG p)(h2:e2=0↔dG r)(h3:e3=0↔oM s)(h:¬(e1=0/\e2=0/\e3=0)):Value.bool false= .bool (kq Z p msg r s):=by
 refine vb (decide_eq_false ?_).symm;rintro⟨g1,g2,g3,_⟩;exact h ⟨h1.2 g1,h2.2 g2,h3.2 g3⟩
theorem zG{p r s e1 e2 e3 e:Int}{msg:List UInt8}{m:Int×Int}(h1:e1=0↔dG p)(h2:e2=0↔dG r)(h3:e3=0↔oM s)(h:e1=0/\e2=0/\e3=0)(he:E1 Z r p msg=e)(hm:rU r (Z.ge p e).1=m):Value.bool (decide ((Z.ge 4 s).1=m.1))= .bool (kq Z p msg r s):=by
 subst he;subst hm;refine vb (decide_eq_decide.2 ?_);exact⟨λg=>⟨h1.1 h.1,h2.1 h.2.1,h3.1 h.2.2,g⟩,λg=>g.2.2.2⟩
theorem aaW(hZ:FxOk Z)(a k:Int)(w:World):Calls prog 62 #[.int .i64 a,.int .i64 k] w (av w (lP (Z.ge a k))):=by
 rw[<-hZ.ge];exact n8j a k w
theorem eq3(a b c:Int):(!oB [.int .i64 a,.int .i64 b,.int .i64 c] [.int .i64 0,.int .i64 0,.int .i64 0])=decide (¬(a=0/\b=0/\c=0)):=by
 simp only[oB,OW,Bool.and_true];by_cases h1:a=0<;>by_cases h2:b=0<;>by_cases h3:c=0<;>simp[h1,h2,h3]
theorem OY(hZ:FxOk Z)(p r s:Int)(msg:List UInt8)(bm om cm:Nat)(q4:msg.length<=100000000000)(w:World)(kX:cG w bm om msg)(hg:Glb w):Calls prog 78 #[.int .i64 p,.slice (some ⟨bm,om,none⟩) msg.length cm,.agg #[.int .i64 r,.int .i64 s]] w (av w (.bool (kq Z p msg r s))):=by
 have Q1:=kX.lt;obtain⟨e1,rV⟩:∃e,(if dG p then(0:Int)else 40)=e:=⟨_,rfl⟩;obtain⟨e2,zH⟩:∃e,(if dG r then(0:Int)else 40)=e:=⟨_,rfl⟩;obtain⟨e,he⟩:∃e,E1 Z r p msg=e:=⟨_,rfl⟩;obtain⟨m,hm⟩:∃m,rU r (Z.ge p e).1=m:=⟨_,rfl⟩;have wP:=nHn rV;have DI:=nHn zH;have eC:=hg.lt;obtain⟨e3,he3⟩:∃e,(if jI s then(1:Int)else 0)=e:=⟨_,rfl⟩;have hi3:=zF he3;refine enter (vs:=[_,_,_]) func78 rfl ntmps78 rfl ?_;refine B 2 ?_;refine yX ?_;intro b5 w5 eg eP mv gQ gR;refine B 4 ?_;refine ng (E':=[(0,_),(1,_),(2,_),(5,_),(6,_)]) zR ?_;refine nJ 10 [9] [([],some _),([0],some (.int .i64 e1)),([],some _),([2],some (.int .i64 r)),([3],some (.int .i64 e2)),([],some _),([5],some (.int .i64 s)),([6],some (.int .i64 e3)),([1,4,7],some (.agg #[.int .i64 e1,.int .i64 e2,.int .i64 e3])),([],none)] (λcv L' H'=>match cv with| []=>L'=[w5,w]/\H'=[]| [v1]=>∃(b7:Nat),v1=ptr b7 0/\L'=[w5,w]/\H'=[(b7,.cells #[.int .i64 0,.int .i64 0,.int .i64 0] 214 (0,0))]/\(w5.heap.size<=b7/\w.heap.size<=b7)|_=>False) zT ⟨rfl,rfl⟩ zT zT zT zT zT zT (pc zW (pc (by exact λcv L' H' hd hP=>nf call63 rfl rfl (λW hS _=>by rw[<-rV];exact nL p W) (λ_=>rfl)) (pc KI (pc zco (pc (by exact λcv L' H' hd hP=>nf call63 rfl rfl (λW hS _=>by rw[<-zH];exact nL r W) (λ_=>rfl)) (pc KI (pc zco (pc (by exact λcv L' H' hd hP=>nf call119 rfl rfl (λW hS _=>by rw[<-he3];exact nNm s W) (λ_=>rfl)) (pc (by exact λcv L' H' hd hP=>X.val rfl rfl (um underlying214 zeroValue214 sizeOf67 rfl rfl rfl rfl) R2) (pk (pn))))))))))) ?_ ?_
 ·refine sc rfl rfl rfl ?_ ?_
  ·intro cv L' H' hl hP F Q' hk;obtain rfl:=ja hl;obtain⟨rfl,rfl⟩:=hP;refine aU zeroValue214 rfl rfl ?_;intro b7 ha ho;exact OJ.done (hk _ _ _ ⟨b7,rfl,rfl,rfl,⟨ha.1,ha.2.1⟩⟩)
  exact sn
 intro cv L' H' hl hP;obtain⟨v1,rfl⟩:=dd hl;obtain⟨b7,rfl,rfl,rfl,gg⟩:=hP;refine aZ (i:=0) rfl sizeOf214 rfl rfl rfl rfl rfl rfl ?_;refine B 7 ?_;refine rq (.bool (decide (¬(e1=0/\e2=0/\e3=0)))) (jM eqA214 zQ K4 rfl rfl rfl) (vb (eq3 e1 e2 e3)) ?_;refine B 2 ?_;refine aK ?_ ?_
 ·intro aj;refine B 7 ?_;refine bJ (.inl rfl) results78 (RS.t rfl (RS.n)) A1 zS ?_;exact Fv wP DI hi3 (by simpa using aj)
 intro aj;refine B 6 ?_;refine call call65 rfl rfl rfl (λW hS=>Iw hZ _ W) ?_;refine B 14 ?_;refine EA ?_;refine yV ?_;intro b38 w38 aaX aaY ahb ahc ahd;refine call call64 rfl rfl rfl (λW hS=>nOi hZ r p e msg he q4 bm om cm b38 _ _ _ W (kX.old hS A2 zX (by first|exact True.intro|(simp only[bE,dz,fj,qo,rJ,ne_eq,and_true];omega))) (hS.old A0 aaX aaY (by first|exact True.intro|(simp only[bE,dz,fj,qo,rJ,ne_eq,and_true];omega))) (hg.old hS A2 zU zP)) ?_;refine call call62 rfl rfl rfl (λW hS=>aaW hZ p e W) ?_;refine B 12 ?_;refine call call120 rfl rfl rfl (λW hS=>by rw[<-hm];exact ncp _ _ W) (v:=lP m) ?_;refine B 16 ?_;refine bJ (.inl rfl) results78 (RS.t rfl (RS.n)) A2 zS ?_;exact zG wP DI hi3 (by simpa using aj) he hm
def k4 (n:Nat):List Nat:=if h:1<n then n::k4 (n/2)else[]
termination_by n
decreasing_by omega
theorem RN{n:Nat}(h:1<n):k4 n=n::k4 (n/2):=by rw[k4,dif_pos h]
theorem WG{n:Nat}(h:¬1<n):k4 n=[]:=by rw[k4,dif_neg h]
theorem nDn(n:Nat):(k4 n).length<=n:=by
 induction n using Nat.strongRecOn with
 |ind n ih=>
  by_cases h:1<n
  ·rw[RN h,dW];have:=ih (n/2) zM;omega
  rw[WG h];simp
theorem Fw{n:Nat}:∀x∈k4 n,1<x/\x<=n:=by
 induction n using Nat.strongRecOn with
 |ind n ih=>
  intro x hx;by_cases h:1<n
  ·rw[RN h]at hx;rcases cP.1 hx with rfl|hx
   ·exact⟨h,ao _⟩
   have:=ih (n/2) zM x hx;omega
  rw[WG h]at hx;simp at hx
def qv (n:Nat):Nat:=n/2
def uo (n:Nat):Nat:=n^^^1
theorem Fy(n:Nat)(h:n<4611686018427387904):IntKind.i64.wrap ((BitVec.ofInt 64 (n:Int)^^^BitVec.ofInt 64 1).toNat:Int)=((uo n:Nat):Int):=by
 have h1:n^^^1<2^62:=Nat.xor_lt_two_pow zM zQ;have e1:(BitVec.ofInt 64 (n:Int))=BitVec.ofNat 64 n:=by simp
 have e2:(BitVec.ofInt 64 1)=BitVec.ofNat 64 1:=rfl;rw[e1,e2,BitVec.toNat_xor,BitVec.toNat_ofNat,BitVec.toNat_ofNat,Nat.mod_eq_of_lt (a:=n) zM];show IntKind.i64.wrap ((n^^^1:Nat):Int)=((n^^^1:Nat):Int);generalize n^^^1=m at *;simp[IntKind.wrap,IntKind.bits,IntKind.signed];omega
abbrev dM (d:Int):Prop:=0<=d/\d<512
theorem RP:prog.info? 3=some Tryz.t3:=by kernel_rfl
theorem DJ:lQ prog 44 3 1:=⟨underlying44,Tryz.t3,.int .i64 0,RP,rfl,rfl,rfl,by decide⟩
theorem npo(d:Int)(h:dM d)(w:World):Calls prog 310 #[.int .i64 d] w (av w (.tuple #[.int .i64 (512+d),.int .i64 0])):=by
 have h1:=h.1;have h2:=h.2;refine enter (vs:=[_]) func310 rfl ntmps310 rfl ?_;refine B 10 ?_;refine tW ?_;refine B 2 ?_;refine OZ ?_;refine B 15 ?_;refine nT results310 rfl rfl A0 ?_ ?_;all_goals rfl
theorem DK(d:Int)(h:¬dM d)(w:World):Calls prog 310 #[.int .i64 d] w (av w (.tuple #[.int .i64 0,.int .i64 200])):=by
 refine enter (vs:=[_]) func310 rfl ntmps310 rfl ?_;refine B 12 ?_;refine nh (t:=6) rfl (λaj=>?_) (λaj=>?_)
 ·replace aj:=ya aj;refine B 14 ?_;exact z8j
 replace aj:=ya aj;refine B 5 ?_;refine aK ?_ ?_
 ·intro aN;refine B 8 ?_;exact z8j
 intro aN;refine B 11 ?_;exact z8j
theorem nKh(n:Nat)(h:n<4611686018427387904)(w:World):Calls prog 291 #[.int .i64 (n:Int)] w (av w (.int .i64 ((qv n:Nat):Int))):=by
 refine enter (vs:=[_]) func291 rfl ntmps291 rfl ?_;refine B 8 ?_;refine rv rfl rfl rfl (K5 rfl rfl zM zM zM) ?_;refine B 4 ?_;refine ax results291 rfl A0 ?_;exact vi (by unfold qv;omega)
theorem ncm(n:Nat)(h:n<4611686018427387904)(w:World):Calls prog 292 #[.int .i64 (n:Int)] w (av w (.int .i64 ((uo n:Nat):Int))):=by
 refine enter (vs:=[_]) func292 rfl ntmps292 rfl ?_;refine B 8 ?_;refine rq (.int .i64 ((uo n:Nat):Int)) (tZ rfl rfl) (vi (Fy n h)) ?_;refine B 4 ?_;refine ax results292 rfl A0 ?_;rfl
theorem zI(n:Nat)(w:World):Calls prog 311 #[.int .i64 (n:Int)] w (cu w (λb:Nat=>.func (.func 318) #[] #[ptr b 0]) (λb w1=>w.heap.size<=b/\True/\w1.heap[b]? =some (.cells #[.int .i64 (n:Int)] 384 (0,0)))):=by
 refine enter (vs:=[_]) func311 rfl ntmps311 rfl ?_;refine B 2 ?_;refine yX ?_;intro b1 w1 aR aY gA eK iH;refine B 10 ?_;refine jG b1 results311 rfl A1 rfl ?_;exact λW hS=>⟨eK.1,True.intro,hS.old A0 aR aY trivial⟩
theorem Fz(n:Nat)(hn:n<4611686018427387904)(b:Nat)(W:World)(aR:W.heap[b]? =some (.cells #[.int .i64 (n:Int)] 384 (0,0))):vm prog 318 [ptr b 0] (λm:Nat=>[.int .i64 (m:Int)]) (xW (k4 n)) (Is (k4 n)) (λk=>k=b) (λ_=>False) W:=by
 intro l M I X0 hM hI hX hy h0;refine nN (cj hM (λ_=>False) (hI [] _)) [(b,.cells #[.int .i64 (n:Int)] 384 (0,0))] (vs:=[_,_]) func318 rfl ntmps318 rfl (IP hM (hI [] _) h0 (by intro p hp;simp at hp;subst hp;exact aR) (Rb _) z1) ?_;refine B 1 ?_;refine CJ.loop (α:=(List Nat×Nat)×aB) (λp=>[(0,yv l),(1,ptr b 0)]) (λp=>[(b,.cells #[.int .i64 (p.1.2:Int)] 384 (0,0))]) (λp=>[W]) (λp=>cj hM p.2 (hI p.1.1 p.2)) (λp=>p.1.1++k4 p.1.2=k4 n/\p.1.2<=n/\∀k,p.2 k->W.heap.size<=k) (λp=>p.1.2) (([],n),λ_=>False) ⟨rfl,ao _,λ_ h=>h.elim⟩ ⟨rfl,rfl,trivial⟩ rfl rfl z1 ?_;rintro⟨⟨pre,m⟩,V⟩ ⟨td,hmn,hV⟩;dsimp only at td hmn hV ⊢;refine B 6 ?_;refine nh (t:=5) rfl (λaj=>?_) (λaj=>?_)
 ·replace aj:=ya aj;refine B 2 ?_;refine FA (λV=>hI (pre++[m]) V) hX hV z1 rfl rfl rfl rfl (λW1 rW kI=>hy (pre) (m) V W1 ⟨k4 (m/2),by rw[i7,<-td,RN (n:=m) zM];rfl⟩ rW kI) ?_ ?_
  ·intro V hV;refine B 13 ?_;refine call call291 rfl rfl rfl (λW hS=>nKh m zM W) ?_;refine kS (i:=0) rfl sizeOf384 rfl rfl rfl rfl (aV rfl) rfl ?_;refine B 1 ?_;refine PJ.again ((pre++[m],qv m),V) ⟨by dsimp only;rw[<-td,RN (n:=m) zM,i7];rfl,by dsimp only[qv];omega,hV⟩ (by dsimp only[qv];omega) ⟨rfl,rfl,trivial⟩ rfl rfl z1
  intro V hV;refine B 8 ?_;exact FB (.inr rfl) results318 A0 hV z1 (λA hA=>.inr hA)
 replace aj:=ya aj;refine B 11 ?_;exact FB (.inr rfl) results318 A0 hV z1 (λA hA=>.inl ⟨pre,by rw[<-td,WG zM,dE],hA⟩)
theorem n1o(fo:Nat->Nat)(pre:List Nat)(x:Nat):(pre++[x]).map (λn=>((fo n:Nat):Int))=pre.map (λn=>((fo n:Nat):Int))++[((fo x:Nat):Int)]:=by simp
theorem nCh(fo:Nat->Nat)(g:Nat)(az:dR prog g)(O0:∀(n:Nat) (w:World),n<4611686018427387904->Calls prog g #[.int .i64 (n:Int)] w (av w (.int .i64 ((fo n:Nat):Int))))(d:Int)(kk:Nat)(K6:512+d=(kk:Int))(hd:dM d)(w:World):Calls prog 290 #[.int .i64 d,.func (.func g) #[] #[]] w (nC w ai 1 3 (List.map (λn=>((fo n:Nat):Int)) (k4 kk)) (λs=>.tuple #[s,.int .i64 0])):=by
 have hd1:=hd.1;have zJ:=hd.2;have hul:=nDn kk;refine xK Gh.no [] (vs:=[_,_]) func290 rfl ntmps290 rfl (u7 w) ?_;refine B 2 ?_;refine yX ?_;intro b3 w3 aC ay cS bV cL;refine aU zeroValue44 rfl rfl ?_;refine yW ?_;intro b4 dQ dV;refine B 6 ?_;refine call call310 rfl rfl rfl (λW hS=>by rw[<-K6];exact npo d hd W) (v:=.tuple #[.int .i64 (kk:Int),.int .i64 0]) ?_;refine B 11 ?_;refine xT ?_;refine B 9 ?_;refine VO (α:=Nat) (v:=λb=>.func (.func 318) #[] #[ptr b 0]) (bo:=λb=>(b,.cells #[.int .i64 (kk:Int)] 384 (0,0))) (Φ:=λ_=>True) call311 rfl rfl rfl (λW hS=>zI kk W) ?_;intro bu pF oX _;dsimp only at pF oX ⊢;replace pF:=yb pF;simp only[bE,and_true]at oX;refine B 3 ?_;refine n1n (f:=318) (cap:=[ptr bu 0]) (α:=Nat) (enc:=(λm:Nat=>[.int .i64 (m:Int)])) (Pre:=xW (k4 kk)) (Fin:=Is (k4 kk)) (RO:=λ_=>False) (i:=0) (b:=bu) (o:=.cells #[.int .i64 (kk:Int)] 384 (0,0)) (H:=[(b4,.cells #[.slice none 0 0] 44 (0,0))]) rfl rfl zZ zX rfl call318 (λW W2 hS ft hB=>Fz kk zM bu W2 (by rw[hB.block bu (aM.1 ft).1];exact ft)) (λ_ _ _ hk=>hk.elim) (λ_=>rfl) (λpre G' Hc=>G'=Gh.no/\∃r:Rw,r.Fr Gh.no [w3,w]/\r.Fit 1 (List.map (λn=>((fo n:Nat):Int)) pre)/\Hc=[(b4,.cells #[r.val (List.map (λn=>((fo n:Nat):Int)) pre).length] 44 (0,0))]++(r.hp ai 3 (List.map (λn=>((fo n:Nat):Int)) pre)++[])) (λ_ _ _=>False) ⟨rfl,.nil,True.intro,rfl,rfl⟩ zQ ?_ ?_ ?_
 ·rintro pre x G' Hc l Dk rec W1 M V Wy jX ov dU ⟨rfl,r,bG,al,rfl⟩ dr fK Dh oL bj th;simp only[ad]at dr oL;have cM:r.ge w3.heap.size:=Rw.ge_of bG A0;have ay:=bj.z (k:=b3) zM zX jZ zX;have WH:=Fw x (dU.subset z1);have hpl:=dU.length_le;simp only[cF,dW,lC]at hpl;have RQ:∀p∈r.hp ai 3 (List.map (λn=>((fo n:Nat):Int)) pre),M p.1\/V p.1:=λp hp=>bj.loc.h p RR;refine Ox ?_;refine B 1 ?_;refine ng (E':=[(0,_),(1,_),(3,_),(4,_),(5,_),(6,_),(7,_),(8,_),(9,_),(10,_),(11,_),(12,_),(13,_),(14,_),(16,_),(17,_),(18,_)]) zR ?_;refine nJ 5 [4] [([],some _),([],some _),([],some _),([1,2],some _),([3],none)] (λcv L' H'=>match cv with| []=>L'=[Wy,w3,w]/\H'=book ([(b4,.cells #[r.val (List.map (λn=>((fo n:Nat):Int)) pre).length] 44 (0,0))]++(r.hp ai 3 (List.map (λn=>((fo n:Nat):Int)) pre)++[])) l {rec with state:=.busy} (bQ Dk)| [v1]=>∃(Dw:Nat) (Dx:World),v1= .slice (some ⟨Dw,0,none⟩) 1 1/\L'=[Dx,Wy,w3,w]/\H'=book ([(b4,.cells #[r.val (List.map (λn=>((fo n:Nat):Int)) pre).length] 44 (0,0))]++(r.hp ai 3 (List.map (λn=>((fo n:Nat):Int)) pre)++[])) l {rec with state:=.busy} (bQ Dk)/\Dx.heap[Dw]? =some (.cells #[.int .i64 ((fo x:Nat):Int)] 3 (0,0))/\bE (book ([(b4,.cells #[r.val (List.map (λn=>((fo n:Nat):Int)) pre).length] 44 (0,0))]++(r.hp ai 3 (List.map (λn=>((fo n:Nat):Int)) pre)++[])) l {rec with state:=.busy} (bQ Dk)) Dw/\¬(Gh.no.ext λk=>M k\/V k).X Dw|_=>False) zT ⟨rfl,rfl⟩ zT zT zT zT zT zT (pc zcp (pc zcp (pc zW (pc (by exact λcv L' H' hd hP=>nXm (first:=[]) (cap:=[]) rfl az rfl rfl (λW hS _=>O0 x W zM) (λ_=>rfl)) (pk (pn)))))) ?_ ?_
  ·refine sc rfl rfl rfl ?_ ?_
   ·intro cv L' H' hl hP F Q' hk;obtain rfl:=ja hl;obtain⟨rfl,rfl⟩:=hP;refine EA ?_;intro Dw Dx hb ha ho hm hz;exact OJ.done (hk _ _ _ ⟨Dw,Dx,rfl,rfl,rfl,hb,ho,hm⟩)
   exact sn
  intro cv L' H' hl hP;obtain⟨v1,rfl⟩:=dd hl;obtain⟨Dw,Dx,rfl,rfl,rfl,E4,KH,E5⟩:=hP;refine oY (r:=r) (xs:=(List.map (λn=>((fo n:Nat):Int)) pre)) (zs:=[((fo x:Nat):Int)]) (enc:=ai) (m:=1) (H0:=[(b4,.cells #[r.val (List.map (λn=>((fo n:Nat):Int)) pre).length] 44 (0,0))]) (H1:=(l,.loop {rec with state:=.busy})::bQ Dk) wQ DJ nr rfl rfl rfl rfl (dt.one (z:=((fo x:Nat):Int)) nr DL underlying44 (bL.old A0 E4 E5 KH)) al (Rw.Fr_ext RQ) z1 K7 ?_;intro K8 K9 La FC Lb;replace FC:=yb FC;refine aZ (i:=0) rfl sizeOf44 rfl rfl rfl rfl rfl rfl ?_;refine B 2 ?_;refine WI (L':=[Wy,w3,w]) z1 ?_;refine DM (G2:=Gh.no) (Hc2:=[(b4,.cells #[(Rw.row K8 K9 La).val ((List.map (λn=>((fo n:Nat):Int)) pre)++[((fo x:Nat):Int)]).length] 44 (0,0))]++((Rw.row K8 K9 La).hp ai 3 ((List.map (λn=>((fo n:Nat):Int)) pre)++[((fo x:Nat):Int)])++[])) bj fK ⟨λ_ h=>h,λ_ h=>.inl h,λ_ h=>.inl h,(WJ rfl (FC.imp id (λh=>h.2.1))),zle⟩ (DN jX ov) ?_;rw[n1o];exact⟨rfl,.row K8 K9 La,FC.elim (λh=>Rw.Fr_at bG h) (λh=>.inr h.2.2),Lb,rfl⟩
 ·rintro im l Dk rec G' Hc rfl dr fK ⟨rfl,r,bG,al,rfl⟩;replace dr:=yb dr;have cM:r.ge w3.heap.size:=Rw.ge_of bG A0;refine O1 λWd pB=>?_;have kG:=Lc pB;refine B 5 ?_;refine aZ (i:=0) rfl sizeOf44 rfl rfl rfl (Rw.val_size _ _) rfl (Rw.val_one _ _) ?_;refine B 4 ?_;have hq:=λ(k:Nat)=>Rw.mem_ge (enc:=ai) (t:=3) (xs:=(List.map (λn=>((fo n:Nat):Int)) (k4 kk))) (k:=k) cM;refine PJ.reH (H':=(b4,.cells #[r.val (List.map (λn=>((fo n:Nat):Int)) (k4 kk)).length] 44 (0,0))::(r.hp ai 3 (List.map (λn=>((fo n:Nat):Int)) (k4 kk))++(l,.loop rec)::bQ Dk)) (by simp[book,Rw.val_cells]) ?_;refine zV (b:=b4) (r:=r) (xs:=(List.map (λn=>((fo n:Nat):Int)) (k4 kk))) (.inl rfl) results290 isAgg44 rfl rfl z1 A0 (kG _ A0).1 rfl al (λp hp=>⟨.tail _ (cO.2 (.inl hp)),(kG p (cO.2 (.inr (cO.2 (.inl hp))))).1⟩) (Rw.ge_of bG A1) (λW H' hS bO=>(hS.links w A1).below λk hk hx=>?_);exact zMj
 exact RT
def cH (d:Int):List Int:=(k4 (512+d).toNat).map λn=>((qv n:Nat):Int)
def iM (d:Int):List Int:=(k4 (512+d).toNat).map λn=>((uo n:Nat):Int)
theorem Ld:dR prog 291:=call291
theorem Le:dR prog 292:=call292
theorem nNf(d:Int)(hd:dM d)(w:World):Calls prog 253 #[.int .i64 d] w (nC w ai 1 3 (cH d) (λs=>.tuple #[s,.int .i64 0])):=by
 obtain⟨kk,K6⟩:∃kk:Nat,512+d=(kk:Int):=⟨(512+d).toNat,by have:=hd.1;omega⟩;have e:cH d=(List.map (λn=>((qv n:Nat):Int)) (k4 kk)):=by unfold cH;rw[K6,wE]
 rw[e];refine enter (vs:=[_]) func253 rfl ntmps253 rfl ?_;refine B 9 ?_;refine Aa (enc:=ai) (m:=1) (t:=3) (xs:=(List.map (λn=>((qv n:Nat):Int)) (k4 kk))) (v:=λs=>.tuple #[s,.int .i64 0]) (first:=[]) (cap:=[]) rfl call290 rfl rfl rfl (λW hS=>nCh qv 291 Ld (λn w h=>nKh n h w) d kk K6 hd W) ?_;intro r bG al;refine B 7 ?_;exact nU (H0:=[]) (H1:=[]) (r:=r) (.inl rfl) results253 (RS.t rfl (RS.t rfl RS.n)) A0 WK rfl al (Rw.ge_of bG A0) z1
theorem n5k(d:Int)(hd:dM d)(w:World):Calls prog 256 #[.int .i64 d] w (nC w ai 1 3 (iM d) (λs=>.tuple #[s,.int .i64 0])):=by
 obtain⟨kk,K6⟩:∃kk:Nat,512+d=(kk:Int):=⟨(512+d).toNat,by have:=hd.1;omega⟩;have e:iM d=(List.map (λn=>((uo n:Nat):Int)) (k4 kk)):=by unfold iM;rw[K6,wE]
 rw[e];refine enter (vs:=[_]) func256 rfl ntmps256 rfl ?_;refine B 9 ?_;refine Aa (enc:=ai) (m:=1) (t:=3) (xs:=(List.map (λn=>((uo n:Nat):Int)) (k4 kk))) (v:=λs=>.tuple #[s,.int .i64 0]) (first:=[]) (cap:=[]) rfl call290 rfl rfl rfl (λW hS=>nCh uo 292 Le (λn w h=>ncm n h w) d kk K6 hd W) ?_;intro r bG al;refine B 7 ?_;exact nU (H0:=[]) (H1:=[]) (r:=r) (.inl rfl) results256 (RS.t rfl (RS.t rfl RS.n)) A0 WK rfl al (Rw.ge_of bG A0) z1
def cW (xs:List Int):List Int:=xs.mergeSort λx y=>decide (x<=y)
theorem vn(xs:List Int):(cW xs).length=xs.length:=List.length_mergeSort _
theorem FD{xs:List Int}(hl:xs.length<=1000000){cap t:Nat}(bT:(Rw.row b cap sp).Fit 1 xs)(h:W.heap[b]? =some (cD ai t xs sp)):Calls prog 48 #[.slice (some ⟨b,0,none⟩) xs.length cap] W (λe w'=>∃bK,e= .returned ((λ_=>.tuple #[]) (Rw.row b cap bK))/\aI (· =b) W w'/\(Rw.row b cap bK).Fit 1 (cW xs)/\w'.heap[b]? =some (cD ai t (cW xs) bK)):=by
 have hc:=Any.slices_Sort_int Tryz.laySort b 0 cap xs W (Ab h) (aM.1 h).1 zM;change Calls prog 48 _ _ _ at hc;refine hc.mono ?_;rintro e w' ⟨rfl,n,os,rfl⟩;obtain⟨h1,h2⟩:=RU (n:=n) (os:=os) h (vn xs);exact⟨sp,rfl,h1,by simp only[Rw.Fit,vn];exact bT,h2⟩
theorem Ac(W:World):Calls prog 48 #[.slice none 0 0] W (λe w'=>e= .returned (.tuple #[])/\Below W.heap.size W w'):=by
 have hc:=Any.slices_Sort_int_none Tryz.laySort none 0 W;change Calls prog 48 _ _ _ at hc;refine hc.mono ?_;rintro e w' ⟨rfl,h⟩;refine⟨rfl,?_⟩;first
  |(obtain⟨n,rfl⟩:=h;exact FE W _)
  |(subst h;exact Below.refl _ _)
theorem IQ{xs:List Int}(hl:xs.length<=1000000){cap t:Nat}(bT:(Rw.row b cap sp).Fit 1 xs)(h:W.heap[b]? =some (cD ai t xs sp)):Calls prog 82 #[.slice (some ⟨b,0,none⟩) xs.length cap] W (λe w'=>∃bK,e= .returned ((λr=>r.val (Go.Lib.compact xs).length) (Rw.row b cap bK))/\aI (· =b) W w'/\(Rw.row b cap bK).Fit 1 (Go.Lib.compact xs)/\w'.heap[b]? =some (cD ai t (Go.Lib.compact xs) bK)):=by
 obtain⟨f1,f2⟩:=bT;have hc:=Any.slices_Compact_int Tryz.layCompact b 0 cap xs W (Ab h) zM f1;change Calls prog 82 _ _ _ at hc;refine hc.mono ?_;rintro e w' ⟨rfl,q,rfl⟩;have hle:=Go.Lib.compact_length_le xs;obtain⟨h1,h2⟩:=RU (n:=q) (os:=#[]) (ys:=Go.Lib.compact xs++List.replicate (xs.length-(Go.Lib.compact xs).length) 0) h jZ;rw[Go.Sort.grow_empty]at h1 h2;refine⟨eJ ai (List.replicate (xs.length-(Go.Lib.compact xs).length) 0)++sp,rfl,h1,⟨by omega,?_⟩,?_⟩
 ·rw[cF,rY nr,List.length_replicate,f2];omega
 rw[h2];simp only[cD,O2,i7]
theorem nkj{xs:List Int}(h:Rw.nil.Fit 1 xs)(W:World):Calls prog 48 #[Rw.nil.val xs.length] W (λe w'=>e= .returned ((λ_=>.tuple #[]) Rw.nil)/\cW xs=[]/\Below W.heap.size W w'):=
 (Ac W).mono λe w' ⟨h1,h2⟩=>⟨h1,by have:xs=[]:=h;subst this;simp[cW],h2⟩
theorem nzo(W:World):Calls prog 82 #[.slice none 0 0] W (λe w'=>e= .returned (.slice none 0 0)/\Below W.heap.size W w'):=by
 have hc:=Any.slices_Compact_int_empty Tryz.layCompact none 0 W;change Calls prog 82 _ _ _ at hc;refine hc.mono ?_;rintro e w' ⟨rfl,rfl⟩;exact⟨rfl,Below.refl _ _⟩
theorem n4m{xs:List Int}(h:Rw.nil.Fit 1 xs)(W:World):Calls prog 82 #[Rw.nil.val xs.length] W (λe w'=>e= .returned ((λr=>r.val (Go.Lib.compact xs).length) Rw.nil)/\Go.Lib.compact xs=[]/\Below W.heap.size W w'):=
 (nzo W).mono λe w' ⟨h1,h2⟩=>⟨h1,by have:xs=[]:=h;subst this;rfl,h2⟩
structure Nd where
 at_:Int
 pub:Int
def fH (n:Nd):List Value:=[.int .i64 n.at_,.int .i64 n.pub]
def gh (n:Nd):Array Value:=#[.int .i64 n.at_,.int .i64 n.pub]
theorem RW(n:Nd):(fH n).length=2:=rfl
theorem FF(n:Nd):∀u∈fH n,u.oneCell'=true:=by intro u hu;simp[fH]at hu;rcases hu with rfl|rfl<;>rfl
def mw (ns:List Nd):List Int:=(ns.filter λn=>decide (512<=n.at_/\n.at_<=1023)).map λn=>n.at_-512
variable {ns:List Nd}
theorem nzj{x:Nd}(hx:ns[j]? =some x)(h1:512<=x.at_)(h2:x.at_<=1023):mw (ns.take (j+1))=mw (ns.take j)++[x.at_-512]:=by
 rw[nz hx];simp[mw,h1,h2]
theorem nJf{x:Nd}(hx:ns[j]? =some x)(h:¬(512<=x.at_/\x.at_<=1023)):mw (ns.take (j+1))=mw (ns.take j):=by
 rw[nz hx];simp only[mw,List.filter_append];simp[h]
theorem nfj(ns:List Nd)(j:Nat):(mw (ns.take j)).length<=j:=by
 unfold mw;rw[fl];exact aS (Ad _ _) (by rw[kj];omega)
theorem FG(ns:List Nd)(j:Nat)(h:¬j<ns.length):mw (ns.take j)=mw ns:=by rw[iZ zM]
def dh (ns:List Nd):List Int:=Go.Lib.compact (cW (mw ns))
theorem nXl(ns:List Nd):(dh ns).length<=ns.length:=by
 have h1:=Go.Lib.compact_length_le (cW (mw ns));have h2:=nfj ns ns.length;rw[IS]at h2;rw[vn]at h1;unfold dh;omega
theorem Ae:prog.info? 355=some Tryz.t355:=by kernel_rfl
theorem n5b(ns:List Nd)(hn:ns.length<=100000)(N:Nat)(a:Option Addr)(cp:Nat)(w:World)(hN:N<=w.heap.size)(aJ:ah gh 2 N w a ns):Calls prog 205 #[.agg #[.slice a ns.length cp]] w (nC w ai 1 3 (dh ns) id):=by
 have hlA:=nfj ns ns.length;rw[IS]at hlA;refine enter (vs:=[_]) func205 rfl ntmps205 rfl ?_;refine B 2 ?_;refine yX ?_;intro b1 w1 aR aY gA eK iH;refine B 7 ?_;refine rr (.slice a ns.length cp) (aa isAgg53 rfl A0 aR aY trivial rfl) ?_;refine B 5 ?_;refine CJ.loop (α:=Rw×Nat) (λp=>[(1,ptr b1 0),(2,p.1.val (mw (ns.take p.2)).length),(6,.slice a ns.length cp),(7,.int .i64 (ns.length:Int)),(8,.int .i64 (p.2:Int))]) (λp=>p.1.hp ai 3 (mw (ns.take p.2))++[]) (λp=>[w1,w]) (λp=>Gh.no) (λp=>p.2<=ns.length/\p.1.Fr Gh.no [w1,w]/\p.1.Fit 1 (mw (ns.take p.2))) (λp=>ns.length-p.2) (.nil,0) ⟨cZ _,True.intro,rfl⟩ zR rfl rfl z1 ?_;rintro⟨r,j⟩ ⟨hj,bG,al⟩;dsimp only at hj bG al ⊢;have cM:r.ge w1.heap.size:=Rw.ge_of bG A0;have Kp:=nfj ns j;refine B 6 ?_;refine aK ?_ ?_
 ·intro aj;refine B 5 ?_;obtain⟨bo,oo,cs0,to,fp,rfl,ft,hcs,ar⟩:=aJ.get zM;obtain⟨x,hx⟩:=nk ns j zM;refine B 2 ?_;refine rq (.agg (gh x)) (ag isAgg355 sizeOf355 rfl A1 hcs zX (by simp only[bE,ne,and_true];(repeat' apply And.intro);all_goals first|exact True.intro|exact Rw.off_ge cM zM) (ni ar hx rfl)) (va (np ar hx rfl)) ?_;refine aU zeroValue355 rfl rfl ?_;refine yW ?_;intro b4 dQ dV;refine zWh ?_;refine B 8 ?_;refine nh (t:=15) rfl (λaN=>?_) (λaN=>?_)
  ·replace aN:=ya aN;refine B 6 ?_;refine aK ?_ ?_
   ·intro cN;refine B 5 ?_;refine vo ?_;refine yW ?_;intro K8 aa8 aa9;refine oY (r:=r) (xs:=(mw (ns.take j))) (zs:=[(x.at_-512)]) (enc:=ai) (m:=1) (H0:=[(K8,.cells #[.int .i64 (x.at_-512)] 3 (0,0)),(b4,.cells (gh x) 355 (0,0))]) (H1:=[]) wQ DJ nr rfl rfl rfl rfl (dt.one (z:=x.at_-512) nr DL underlying44 (bL.own (i:=0) rfl)) al bG z1 DO ?_;intro FH wR wS oZ mN;replace oZ:=yb oZ;refine B 8 ?_;refine FI ?_;refine PJ.again (Rw.row FH wR wS,j+1) ⟨by dsimp only;omega,oZ.elim (λh=>Rw.Fr_at bG h) (λh=>.inr h),by rw[nzj hx zM zM];exact mN⟩ dL ⟨rfl,by rw[nzj hx zM zM];rfl,rfl,rfl,rfl,trivial⟩ (by rw[nzj hx zM zM];rfl) rfl z1
   intro cN;refine wT ?_;exact znk
  replace aN:=ya aN;refine B 14 ?_;refine mx ?_;exact znk
 intro aj;refine B 6 ?_;have bW:=FG ns j zM;rw[bW]at al ⊢;refine B 2 ?_;refine wU (r:=r) (enc:=ai) (m:=1) (t:=3) (xs:=mw ns) (ys:=cW (mw ns)) (H0:=[]) (H1:=[]) (v:=λ_=>.tuple #[]) rfl call48 rfl rfl rfl (λhr W _=>by subst hr;exact nkj al W) (λb cap sp hr W _ h=>by subst hr;exact FD zM al h) ?_;intro r2 da mM mO jA;have gG:=mM bG;have dN:=mO _ cM;refine B 5 ?_;refine wU (r:=r2) (enc:=ai) (m:=1) (t:=3) (xs:=cW (mw ns)) (ys:=dh ns) (H0:=[]) (H1:=[]) (v:=λr=>r.val (dh ns).length) rfl call82 rfl rfl rfl (λhr W _=>by have e:=jA (mw ns).length;rw[<-e];subst hr;rw[<-vn (mw ns)];exact n4m da W) (λb cap sp hr W _ h=>by have e:=jA (mw ns).length;rw[<-e];subst hr;rw[<-vn (mw ns)];exact IQ (by rw[vn];omega) da h) ?_;intro r3 mP Af Ag vq;have Ah:=Af gG;have vr:=Ag _ dN;refine B 4 ?_;exact nU (H0:=[]) (H1:=[]) (r:=r3) (.inl rfl) results205 (RS.t rfl RS.n) A1 (by rw[dE];exact Rw.over (Rw.ge_of Ah A1)) rfl mP (Rw.ge_of Ah A1) z1
def IT (kv:List (Int×Int)) (n:Nd):List (Int×Int):=if(aE kv n.at_).isSome then kv else ck kv n.at_ n.pub
def cY (ns:List Nd):List (Int×Int):=ns.foldl IT []
theorem nMl{x:Nd}(hx:ns[j]? =some x):cY (ns.take (j+1))=IT (cY (ns.take j)) x:=by
 rw[nz hx];simp[cY,DP]
theorem nYm{x:Nd}(hx:ns[j]? =some x)(h:(aE (cY (ns.take j)) x.at_).isSome=false):cY (ns.take (j+1))=ck (cY (ns.take j)) x.at_ x.pub:=by
 rw[nMl hx];unfold IT;rw[if_neg (by rw[h];decide)]
theorem Ai{x:Nd}(hx:ns[j]? =some x)(h:(aE (cY (ns.take j)) x.at_).isSome=true):cY (ns.take (j+1))=cY (ns.take j):=by
 rw[nMl hx];unfold IT;rw[if_pos h]
theorem FJ(ns:List Nd)(j:Nat)(h:¬j<ns.length):cY (ns.take j)=cY ns:=by rw[iZ zM]
theorem O3{β:Type}(l:List (Int×β))(k:Int)(v:β):(ck l k v).length<=l.length+1:=by
 unfold ck;split<;>simp
theorem O4(ns:List Nd):(cY ns).length<=ns.length:=by
 have key:∀(l:List Nd) (kv:List (Int×Int)),(l.foldl IT kv).length<=kv.length+l.length:=by
  intro l;induction l with
  |nil=>intro kv;simp
  |cons n l ih=>
   intro kv;have h1:=ih (IT kv n);have h2:(IT kv n).length<=kv.length+1:=by unfold IT;split;omega;exact O3 _ _ _
   simp only[List.foldl_cons,dW];omega
 simpa[cY]using key ns []
theorem njg(ns:List Nd)(hn:ns.length<=100000)(N:Nat)(a:Option Addr)(cp:Nat)(w:World)(hN:N<=w.heap.size)(aJ:ah gh 2 N w a ns):Calls prog 261 #[.agg #[.slice a ns.length cp]] w (vt w (Value.int .i64) (cY ns) id):=by
 refine enter (vs:=[_]) func261 rfl ntmps261 rfl ?_;refine B 2 ?_;refine yX ?_;intro b1 w1 aR aY gA eK iH;refine B 5 ?_;refine FK (Value.int .i64) rfl rfl ?_;refine yW ?_;intro b8 wt wu;refine B 7 ?_;refine rr (.slice a ns.length cp) (aa isAgg53 rfl A0 aR aY zL rfl) ?_;refine B 5 ?_;refine CJ.loop (α:=Mp×Nat) (λp=>[(1,ptr b1 0),(3,.map (some b8)),(10,.slice a ns.length cp),(11,.int .i64 (ns.length:Int)),(12,.int .i64 (p.2:Int))]) (λp=>[(b8,p.1.obj (Value.int .i64) (cY (ns.take p.2)))]) (λp=>[w1,w]) (λp=>Gh.no) (λp=>p.2<=ns.length/\p.1.Ok (cY (ns.take p.2))) (λp=>ns.length-p.2) (⟨[],0⟩,0) ⟨cZ _,Mp.nil⟩ zR rfl rfl z1 ?_;rintro⟨m,j⟩ ⟨hj,hm⟩;dsimp only at hj hm ⊢;refine B 6 ?_;refine aK ?_ ?_
 ·intro aj;refine B 5 ?_;obtain⟨bo,oo,cs0,to,fp,rfl,ft,hcs,ar⟩:=aJ.get zM;obtain⟨x,hx⟩:=nk ns j zM;refine B 2 ?_;refine rq (.agg (gh x)) (ag isAgg355 sizeOf355 rfl A1 hcs zX xX (ni ar hx rfl)) (va (np ar hx rfl)) ?_;refine aU zeroValue355 rfl rfl ?_;refine yW ?_;intro b5 gQ gR;refine zWh ?_;refine B 7 ?_;refine rv rfl rfl rfl (hJ (ev:=(Value.int .i64)) underlying319 underlying3 zeroValue3 hm (bL.own (i:=1) rfl) rfl rfl) ?_;refine B 13 ?_;refine aK ?_ ?_
  ·intro aN;refine B 6 ?_;refine IU (i:=1) (ev:=(Value.int .i64)) (v:=x.pub) rfl hm underlying319 underlying3 rfl rfl rfl rfl ?_;intro m2 aF;refine wT ?_;refine PJ.again (m2,j+1) ⟨by dsimp only;omega,by rw[nYm hx gO];exact aF⟩ dL zR (by rw[nYm hx gO];rfl) rfl z1
  intro aN;refine wT ?_;refine PJ.again (m,j+1) ⟨by dsimp only;omega,by rw[Ai hx gO];exact hm⟩ dL zR (by rw[Ai hx gO];rfl) rfl z1
 intro aj;refine B 6 ?_;have bW:=FJ ns j zM;rw[bW]at hm ⊢;refine B 6 ?_;exact IV (i:=0) (.inl rfl) results261 (RS.t rfl RS.n) A1 wx rfl hm rfl
theorem WL:∀(n:Nat) (js:List Nat),js.Nodup->(∀j∈js,j<n)->js.length<=n
 |0,js,_,h=>by
  cases js with
  |nil=>simp
  |cons j js=>have:=h j z1;omega
 |n+1,js,hd,h=>by
  have h1:=WL n (js.erase n) (hd.erase n) (λj hj=>by
   have h2:=h j (List.mem_of_mem_erase hj);have h3:j≠n:=λe=>by subst e;exact absurd hj (by rw[hd.mem_erase_iff];simp)
   omega)
  have h2:=List.length_erase (a:=n) (l:=js);split at h2<;>omega
def Aj {β:Type} (kv:List (Int×β)) (j:Nat):Int:=((kv[j]?).map (·.1)).getD 0
theorem nUf{β:Type}{kv:List (Int×β)}{p:Int×β}(hp:kv[j]? =some p)(js:List Nat):(js++[j]).map (Aj kv)=js.map (Aj kv)++[p.1]:=by simp[Aj,hp]
theorem nJi{β:Type}{kv:List (Int×β)}(hd:js.Nodup)(hl:∀j∈js,j<kv.length)(bW:∀j,j<kv.length->j∈js):(js.map (Aj kv)).Perm (kv.map (·.1)):=by
 have h1:js.Perm (List.range kv.length):=(List.perm_ext_iff_of_nodup hd List.nodup_range).2 λa=>⟨λh=>pG.2 (hl a h),λh=>bW a (pG.1 h)⟩;have h2:(List.range kv.length).map (Aj kv)=kv.map (·.1):=by
  apply List.ext_getElem z1;intro i h3 h4;simp only[fl,List.length_range]at h3;simp[Aj,h3]
 rw[<-h2];exact h1.map _
theorem nek{p q:List Int}(h:p.Perm q):cW p=cW q:=by
 have hs:∀l:List Int,(cW l).Pairwise (λa b=>(decide (a<=b))=true):=λl=>List.pairwise_mergeSort (λa b c h1 h2=>by simp at *;omega) (λa b=>by simp;omega) l;exact List.Perm.eq_of_pairwise (λa b _ _ h1 h2=>by simp at h1 h2;omega) (hs p) (hs q) (((List.mergeSort_perm p _).trans h).trans (List.mergeSort_perm q _).symm)
theorem xY{β:Type}{kv:List (Int×β)}{jn:Nat}{pn:Int×β}(hnd:js.Nodup)(gB:∀j∈js,j<kv.length)(jB:kv[jn]? =some pn)(lR:jn∉js):(js++[jn]).Nodup/\(∀j∈js++[jn],j<kv.length)/\js.length+1<=kv.length:=by
 have h1:(js++[jn]).Nodup:=by rw[List.nodup_append];exact⟨hnd,by simp,by intro a ha b hb;simp at hb;subst hb;exact λe=>lR (e▸ha)⟩
 have h2:∀j∈js++[jn],j<kv.length:=by
  intro j hj;rcases cO.1 hj with hj|hj
  ·exact gB j hj
  simp at hj;subst hj;exact nE jB
 exact⟨h1,h2,by simpa using WL _ _ h1 h2⟩
theorem nXd{kv:List (Int×Int)}(b:Nat)(m:Mp)(hm:m.Ok kv)(k:Int)(w:World)(hb:w.heap[b]? =some (m.obj (Value.int .i64) kv)):Calls prog 262 #[.map (some b),.int .i64 k] w (λe w'=>∃m':Mp,e= .returned (.tuple #[])/\aI (· =b) w w'/\m'.Ok (gH kv k)/\w'.heap[b]? =some (m'.obj (Value.int .i64) (gH kv k))):=by
 refine nN (Gh.lent (· =b)) [(b,m.obj (Value.int .i64) kv)] (vs:=[_,_]) func262 rfl ntmps262 rfl (y6 hb) ?_;refine B 3 ?_;refine RX (i:=0) (ev:=(Value.int .i64)) rfl rfl hm underlying319 underlying3 rfl rfl rfl ?_;intro m2 aF;refine B 1 ?_;exact bH (.inr rfl) (rs:=[]) results262 RS.n λW hS=>⟨m2,rfl,hS.baseX A0 DQ,aF,hS.own _ A0⟩
theorem nUj(mp:Option Nat)(w:World):Calls prog 264 #[.map mp] w (cu w (λb:Nat=>.func (.func 302) #[] #[ptr b 0]) (λb w1=>w.heap.size<=b/\w1.heap[b]? =some (.cells #[.map mp] 319 (0,0)))):=by
 refine enter (vs:=[_]) func264 rfl ntmps264 rfl ?_;refine B 2 ?_;refine yX ?_;intro b1 w1 aR aY gA eK iH;refine B 10 ?_;refine jG b1 results264 rfl A1 rfl ?_;exact Y0
theorem n8o{kv:List (Int×Int)}(mb bx:Nat)(m:Mp)(hm:m.Ok kv)(W:World)(aR:W.heap[bx]? =some (.cells #[.map (some mb)] 319 (0,0)))(iN:W.heap[mb]? =some (m.obj (Value.int .i64) kv)):vm prog 302 [ptr bx 0] ai (λp=>p.length<=kv.length) (λxs=>xs.Perm (kv.map (·.1))) (λ_=>False) (λk=>k=bx\/k=mb) W:=by
 intro l M I X0 hM hI hX hy h0;have aY:¬(cj hM (λ_=>False) (hI [] _)).X bx:=by rintro(h|h);exact(hM _ h).2.2 (.inl rfl);exact h.elim
 have wV:¬(cj hM (λ_=>False) (hI [] _)).X mb:=by rintro(h|h);exact(hM _ h).2.2 (.inr rfl);exact h.elim
 have uq:=(aM.1 iN).1;refine zLh ?_;refine B 3 ?_;refine Lf (ev:=(Value.int .i64)) underlying319 (bL.old A0 iN wV trivial) rfl rfl rfl ?_;intro rb mQ Lg;replace mQ:=yb mQ;refine B 3 ?_;refine CJ.loop (α:=List Nat×aB) (λp=>[(0,yv l),(5,ptr rb 0)]) (λp=>[(rb,m.it mb p.1)]) (λp=>[W]) (λp=>cj hM p.2 (hI (p.1.map (Aj kv)) p.2)) (λp=>p.1.Nodup/\(∀j∈p.1,j<kv.length)/\∀k,p.2 k->W.heap.size<=k) (λp=>kv.length-p.1.length) ([],λ_=>False) ⟨List.nodup_nil,by simp,λ_ h=>h.elim⟩ ⟨rfl,rfl,trivial⟩ rfl rfl z1 ?_;rintro⟨js,V⟩ ⟨hnd,gB,hV⟩;dsimp only at hnd gB hV ⊢;have wV:¬(cj hM V (hI (js.map (Aj kv)) V)).X mb:=by rintro(h|h);exact(hM _ h).2.2 (.inr rfl);have:=hV _ h;omega
 have hln:=WL kv.length js hnd gB;refine B 2 ?_;refine Ak (ev:=(Value.int .i64)) (i:=0) rfl hm (bL.old A0 iN wV jN) gB rfl rfl rfl (λbW=>?_) (λjn pn jB lR=>?_)
 ·refine B 9 ?_;exact FB (.inr rfl) results302 A0 hV (by intro k hk hx;simp only[dz,eE,iD,cP,fG,or_false]at hx;omega) (λA hA=>.inl ⟨_,nJi hnd gB bW,hA⟩)
 refine B 10 ?_;refine rv rfl rfl rfl (ur (ev:=(Value.int .i64)) (i:=0) rfl hm (bL.old A0 iN wV jN) jB rfl) ?_;refine B 8 ?_;refine FA (λV=>hI (js.map (Aj kv)++[pn.1]) V) hX hV z1 rfl rfl rfl rfl (λW1 rW kI=>hy (js.map (Aj kv)) (pn.1) V W1 (by have h9:=(xY hnd gB jB lR).2.2;simp only[cF,fl,dW,lC];omega) rW kI) ?_ ?_
 ·intro V hV;refine B 6 ?_;refine PJ.again (js++[jn],V) ⟨(xY hnd gB jB lR).1,(xY hnd gB jB lR).2.1,hV⟩ RY ⟨rfl,rfl,trivial⟩ rfl (by dsimp only;rw[nUf jB]) z1
 intro V hV;refine B 8 ?_;exact FB (.inl rfl) results302 A0 hV (by intro k hk hx;simp only[dz,eE,iD,cP,fG,or_false]at hx;omega) (λA hA=>.inr hA)
theorem nRm{cap:List Value}(az:dR prog f)(w:World)(my:∀k,RO k->k<w.heap.size)(hlen:∀p,Pre p->p.length<=100000)(o3:∀W2,Below w.heap.size w W2->vm prog f cap ai Pre Fin (λ_=>False) RO W2):Calls prog 184 #[.slice none 0 0,.func (.func f) #[] cap.toArray] w (λe w'=>∃xs,Fin xs/\nC w ai 1 3 xs id e w'):=by
 refine xK Gh.no [] (vs:=[_,_]) func184 rfl ntmps184 rfl (u7 w) ?_;refine B 2 ?_;refine QQ rfl rfl rfl ?_;refine yW ?_;intro b2 cE cX;refine B 10 ?_;refine CJ.range2 (f:=f) (cap:=cap) (α:=Int) (enc:=ai) (Pre:=Pre) (Fin:=Fin) (RO:=RO) (MI:=λ_=>False) rfl az (λW W2 hS hB=>o3 W2 ((hS.links w A0).below (by simp only[eE,iD,cP,fG,or_false,Gh.no,false_or];omega) |>.trans (hB.mono (hS.links w A0).size))) (λ_ _ _ hk=>hk.elim) (λW hS k hk=>by have h1:=my k hk;have h2:=(hS.links w A0).size;exact⟨by omega,by simp only[eE,iD,cP,fG,or_false];omega,λh=>h⟩) (λ_=>rfl) (λpre G' Hc=>G'=Gh.no/\∃r:Rw,r.Fr Gh.no [w]/\r.Fit 1 pre/\Hc=[(b2,.cells #[r.val pre.length] 44 (0,0))]++(r.hp ai 3 pre++[])) (λ_ _ _=>False) ⟨rfl,.nil,True.intro,rfl,rfl⟩ zQ ?_ ?_ ?_
 ·rintro pre x G' Hc l Dk rec W1 M V Wy jX ov dU ⟨rfl,r,bG,al,rfl⟩ dr fK Dh oL bj th;simp only[ad]at dr oL;have cM:r.ge w.heap.size:=Rw.ge_of bG A0;have hpl:=hlen _ dU;simp only[cF,dW,lC]at hpl;have RQ:∀p∈r.hp ai 3 pre,M p.1\/V p.1:=λp hp=>bj.loc.h p RR;refine Ox ?_;refine B 4 ?_;refine vo ?_;refine yW ?_;intro kW rR rS;refine oY (r:=r) (xs:=pre) (zs:=[x]) (enc:=ai) (m:=1) (H0:=[(kW,.cells #[.int .i64 x] 3 (0,0)),(b2,.cells #[r.val pre.length] 44 (0,0))]) (H1:=(l,.loop {rec with state:=.busy})::bQ Dk) wQ DJ nr rfl rfl rfl rfl (dt.one (z:=x) nr DL underlying44 (bL.own (i:=0) rfl)) al (Rw.Fr_ext RQ) z1 DO ?_;intro s9 Lh Lj uf uu;replace uf:=yb uf;refine aZ (i:=1) rfl sizeOf44 rfl rfl rfl rfl rfl rfl ?_;refine B 2 ?_;refine mx ?_;refine DM (G2:=Gh.no) (Hc2:=[(b2,.cells #[(Rw.row s9 Lh Lj).val (pre++[x]).length] 44 (0,0))]++((Rw.row s9 Lh Lj).hp ai 3 (pre++[x])++[])) bj fK ⟨λ_ h=>h,λ_ h=>.inl h,λ_ h=>.inl h,(WJ rfl (uf.imp id (λh=>h.1))),zle⟩ (DN jX ov) ?_;exact⟨rfl,.row s9 Lh Lj,uf.elim (λh=>Rw.Fr_at bG h) (λh=>.inr h.2),uu,rfl⟩
 ·rintro im l Dk rec G' Hc bZ dr fK ⟨rfl,r,bG,al,rfl⟩;replace dr:=yb dr;have cM:r.ge w.heap.size:=Rw.ge_of bG A0;refine O1 λWd pB=>?_;have kG:=Lc pB;refine B 9 ?_;have hq:=λ(k:Nat)=>Rw.mem_ge (enc:=ai) (t:=3) (xs:=im) (k:=k) cM;refine PJ.reH (H':=(b2,.cells #[r.val im.length] 44 (0,0))::(r.hp ai 3 im++(l,.loop rec)::bQ Dk)) (by simp[book,Rw.val_cells]) ?_;refine uk (.inl rfl) z1 λa W H' hF hS bY bO=>?_;refine⟨_,by rw[results_tmp results184];exact congrArg (λu=>Result.ok u W) (hF 4 _ rfl),im,bZ,r,rfl,?_,cM,al,?_⟩
  ·refine(hS.links w A0).below λk hk hx=>?_;exact zMj
  cases r with
  |nil=>trivial
  |row b cap sp=>exact hS.own _ (bY (b,cD ai 3 im sp) vv (kG _ vv).1)
 exact RT
theorem WM{cap:List Value}(az:dR prog f)(w:World)(my:∀k,RO k->k<w.heap.size)(hlen:∀p,Pre p->p.length<=100000)(o3:∀W2,Below w.heap.size w W2->vm prog f cap ai Pre Fin (λ_=>False) RO W2):Calls prog 118 #[.func (.func f) #[] cap.toArray] w (λe w'=>∃xs,Fin xs/\nC w ai 1 3 xs id e w'):=by
 refine enter (vs:=[_]) func118 rfl ntmps118 rfl ?_;refine B 8 ?_;refine RZ (enc:=ai) (m:=1) (t:=3) (Fin:=Fin) (v:=id) call184 rfl rfl rfl (λW hS=>nRm az W (λk hk=>kJ (my k hk) (hS.links w A0).size) hlen (λW2 hB=>o3 W2 (((hS.links w A0).below Ll).trans (hB.mono (hS.links w A0).size)))) ?_;intro xs r bZ bG al;refine B 4 ?_;exact bH (.inl rfl) results118 (RS.t rfl RS.n) λW hS=>⟨xs,bZ,r,rfl,hS.base A0 WK,Rw.ge_of bG A0,al,by cases r with|nil=>exact True.intro|row b cap sp=>exact hS.own _ A0⟩
theorem nwl{cap:List Value}(az:dR prog f)(w:World)(my:∀k,RO k->k<w.heap.size)(hlen:∀p,Pre p->p.length<=100000)(o3:∀W2,Below w.heap.size w W2->vm prog f cap ai Pre Fin (λ_=>False) RO W2)(ys:List Int)(oS:∀xs,Fin xs->cW xs=ys/\xs.length<=100000):Calls prog 263 #[.func (.func f) #[] cap.toArray] w (nC w ai 1 3 ys id):=by
 refine enter (vs:=[_]) func263 rfl ntmps263 rfl ?_;refine B 8 ?_;refine RZ (enc:=ai) (m:=1) (t:=3) (Fin:=Fin) (v:=id) call118 rfl rfl rfl (λW hS=>WM az W (λk hk=>kJ (my k hk) (hS.links w A0).size) hlen (λW2 hB=>o3 W2 (((hS.links w A0).below Ll).trans (hB.mono (hS.links w A0).size)))) ?_;intro xs r bZ bG al;obtain⟨hsx,cb⟩:=oS xs bZ;have cM:=Rw.ge_of bG A0;refine B 6 ?_;refine wU (r:=r) (enc:=ai) (m:=1) (t:=3) (xs:=xs) (ys:=cW xs) (H0:=[]) (H1:=[]) (v:=λ_=>.tuple #[]) rfl call48 rfl rfl rfl (λhr W _=>by subst hr;exact nkj al W) (λb cap sp hr W _ h=>by subst hr;exact FD zM al h) ?_;intro r2 da mM mO jA;have gG:=mM bG;have dN:=mO _ cM;refine B 9 ?_;subst hsx;exact nU (H0:=[]) (H1:=[]) (r:=r2) (.inl rfl) results263 (RS.t rfl RS.n) A0 (by rw[dE];exact Rw.over (Rw.ge_of gG A0)) (by show r.val _=r2.val _;rw[<-jA,vn]) da (Rw.ge_of gG A0) z1
theorem nsk(bx:Nat)(W:World)(aR:W.heap[bx]? =some (.cells #[.map none] 319 (0,0))):vm prog 302 [ptr bx 0] ai (λp=>p.length<=0) (λxs=>xs=[]) (λ_=>False) (λk=>k=bx) W:=by
 intro l M I X0 hM hI hX hy h0;have aY:¬(cj hM (λ_=>False) (hI [] _)).X bx:=by rintro(h|h);exact(hM _ h).2.2 rfl;exact h.elim
 refine zLh ?_;refine B 3 ?_;refine R0 underlying319 rfl rfl rfl ?_;intro rb mQ Lg;replace mQ:=yb mQ;refine B 3 ?_;refine CJ.loop (α:=Nat) (λp=>[(0,yv l),(5,ptr rb 0)]) (λp=>[(rb,.mapIter none 0 #[] 0)]) (λp=>[W]) (λp=>cj hM (λ_=>False) (hI [] _)) (λp=>True) (λp=>0) 0 True.intro ⟨rfl,rfl,trivial⟩ rfl rfl z1 ?_;rintro p _;refine B 2 ?_;refine Lm (i:=0) rfl rfl rfl rfl ?_;refine B 9 ?_;exact FB (.inr rfl) results302 A0 (λ_ h=>h.elim) zkc (λA hA=>.inl ⟨[],rfl,hA⟩)
def oD (kv:List (Int×Int)):List Nd:=(cW (kv.map (·.1))).map λk=>⟨k,(aE kv k).getD 0⟩
theorem R1:lQ prog 53 355 2:=⟨underlying53,Tryz.t355,.agg #[.int .i64 0,.int .i64 0],Ae,rfl,rfl,rfl,by decide⟩
theorem Rw.val_one2(n:Nat)(r:Rw):nV [r.val n]=true:=by cases r<;>rfl
theorem nkn{β:Type}(f:Int->β){xs:List Int}{x:Int}(hx:xs[j]? =some x):(xs.take (j+1)).map f=(xs.take j).map f++[f x]:=by rw[nz hx];simp
theorem Ln(o:Option Int):(o.map (Value.int .i64)).getD (.int .i64 0)= .int .i64 (o.getD 0):=by cases o<;>rfl
theorem nPf{kv:List (Int×Int)}(lD:kv.length<=100000)(mb:Nat)(m:Mp)(hm:m.Ok kv)(w:World)(iN:w.heap[mb]? =some (m.obj (Value.int .i64) kv)):Calls prog 220 #[.map (some mb)] w (nC w fH 2 355 (oD kv) (λs=>.agg #[s])):=by
 have uq:=(aM.1 iN).1;have ahe:(cW (kv.map (·.1))).length=kv.length:=by rw[vn,fl]
 refine enter (vs:=[_]) func220 rfl ntmps220 rfl ?_;refine B 2 ?_;refine wW ?_;refine yW ?_;intro b2 cE cX;refine B 6 ?_;refine nu (α:=Nat) (v:=λb:Nat=>.func (.func 302) #[] #[ptr b 0]) (Φ:=λ(W:World) (b:Nat) (w1:World)=>W.heap.size<=b/\w1.heap[b]? =some (.cells #[.map (some mb)] 319 (0,0))) call264 rfl rfl rfl (λW hS=>nUj (some mb) W) ?_;rintro Wk bk wk vw FL ⟨Lo,uw⟩;try dsimp only at Lo uw
 have R3:=vw.under;replace R3:=yg R3;have abd:=(aM.1 uw).1;have R4:=vw.sizes;replace R4:=yb R4;have WN:=FL.size;refine vx (enc:=ai) (m:=1) (t:=3) (xs:=cW (kv.map (·.1))) (v:=id) (first:=[]) (cap:=[]) rfl call263 rfl rfl rfl nr (λW hS=>nwl (f:=302) (cap:=[ptr bk 0]) (Pre:=λp=>p.length<=kv.length) (Fin:=λxs=>xs.Perm (kv.map (·.1))) (RO:=λk=>k=bk\/k=mb) call302 W ?_ ?_ ?_ _ ?_) ?_
 ·intro k hk;have h1:=(hS.links wk A0).size;rcases hk with rfl|rfl<;>omega
 ·intro p hp;have:p.length<=kv.length:=hp;omega
 ·intro W2 hB;exact n8o mb bk m hm W2 (by rw[hB.block bk (by have:=(hS.links wk A0).size;omega)];exact hS.old A0 uw zX jN) (by rw[hB.block mb (by have:=(hS.links w A1).size;omega)];exact hS.old A1 iN zX jN)
 ·intro xs hx;exact⟨nek hx,by rw[hx.length_eq,fl];exact lD⟩
 intro Ws a7 DR ws R5 hBs iz pH;have R6:=R5.sizes;replace R6:=yb R6;have Al:=hBs.size;have R7:=R5.under;replace R7:=yg R7;refine B 5 ?_;refine CJ.loop (α:=Rw×Nat) (λp=>[(0,.map (some mb)),(2,ptr b2 0),(7,.slice a7 (cW (kv.map (·.1))).length DR),(8,.int .i64 ((cW (kv.map (·.1))).length:Int)),(9,.int .i64 (p.2:Int))]) (λp=>[(b2,.cells #[p.1.val (((cW (kv.map (·.1))).take p.2).map (λk=>(⟨k,(aE kv k).getD 0⟩:Nd))).length] 55 (0,0))]++(p.1.hp fH 355 (((cW (kv.map (·.1))).take p.2).map (λk=>(⟨k,(aE kv k).getD 0⟩:Nd)))++[])) (λp=>[ws,wk,w]) (λp=>Gh.no) (λp=>p.2<=(cW (kv.map (·.1))).length/\p.1.Fr Gh.no [ws,wk,w]/\p.1.Fit 2 (((cW (kv.map (·.1))).take p.2).map (λk=>(⟨k,(aE kv k).getD 0⟩:Nd)))) (λp=>(cW (kv.map (·.1))).length-p.2) (.nil,0) ⟨cZ _,True.intro,rfl⟩ zR rfl rfl z1 ?_;rintro⟨r,j⟩ ⟨hj,bG,al⟩;dsimp only at hj bG al ⊢;have cM:r.ge ws.heap.size:=Rw.ge_of bG A0;refine B 6 ?_;refine aK ?_ ?_
 ·intro aj;refine B 5 ?_;obtain⟨bo,oo,cs0,to,fp,rfl,ft,hcs,ar⟩:=iz.get zM;obtain⟨x,hx⟩:=nk (cW (kv.map (·.1))) j zM;have abf:=pH _ rfl;dsimp only at abf;refine B 2 ?_;refine rv rfl rfl rfl (aa (v:=.int .i64 x) isAgg3 rfl A0 hcs zX R8 (by have:=nS (enc:=λx=>(ai x).toArray) (n:=1) ar hx rfl zQ;simpa[ai]using this)) ?_;refine B 9 ?_;refine rq (.int .i64 ((aE kv x).getD 0)) (qw (ev:=(Value.int .i64)) underlying319 underlying3 zeroValue3 hm (bL.old A2 iN zX R8) rfl rfl) (Ln _) ?_;refine rv rfl rfl rfl (bS underlying355 zeroValue355 (bC.c sizeOf3 (bC.c sizeOf3 (bC.n))) rfl rfl) ?_;refine k9 underlying53 sizeOf355 zeroValue355 rfl rfl rfl rfl rfl rfl rfl ?_;refine yW ?_;intro kr qx ahf;refine oY (r:=r) (xs:=(((cW (kv.map (·.1))).take j).map (λk=>(⟨k,(aE kv k).getD 0⟩:Nd)))) (zs:=[(⟨x,(aE kv x).getD 0⟩:Nd)]) (enc:=fH) (m:=2) (H0:=[(kr,.cells #[.int .i64 x,.int .i64 ((aE kv x).getD 0)] 355 (0,0)),(b2,.cells #[r.val (((cW (kv.map (·.1))).take j).map (λk=>(⟨k,(aE kv k).getD 0⟩:Nd))).length] 55 (0,0))]) (H1:=[]) wQ R1 RW rfl rfl rfl rfl (dt.one (z:=(⟨x,(aE kv x).getD 0⟩:Nd)) RW FF underlying53 (bL.own (i:=0) rfl)) al bG z1 (by simp only[fl,kj,dW,lC];omega) ?_;intro pD Am An rZ ux;replace rZ:=yb rZ;refine B 1 ?_
  refine kS (i:=1) rfl sizeOf53 rfl rfl rfl rfl (aV rfl) rfl ?_;refine wT ?_;refine PJ.again (Rw.row pD Am An,j+1) ⟨by dsimp only;omega,rZ.elim (λh=>Rw.Fr_at bG h) (λh=>.inr h),by rw[nkn (λk=>(⟨k,(aE kv k).getD 0⟩:Nd)) hx];exact ux⟩ dL zR (by rw[nkn (λk=>(⟨k,(aE kv k).getD 0⟩:Nd)) hx];rfl) rfl z1
 intro aj;refine B 6 ?_;have bW:(cW (kv.map (·.1))).take j=cW (kv.map (·.1)):=iZ zM;rw[bW]at al ⊢;refine B 2 ?_;refine zBh ?_;refine B 3 ?_;exact nU (H0:=[(b2,.cells #[r.val ((cW (kv.map (·.1))).map (λk=>(⟨k,(aE kv k).getD 0⟩:Nd))).length] 55 (0,0))]) (H1:=[]) (r:=r) (.inl rfl) results220 (RS.wA (i:=0) rfl isAgg55 sizeOf55 rfl (aV rfl) RS.n) A2 (by simp only[dE,eY,dX,dz,Over];exact⟨by omega,Rw.over (Rw.ge_of bG A2)⟩) rfl al (Rw.ge_of bG A2) (by simp[Value.cells,oD])
theorem nIf(w:World):Calls prog 220 #[.map none] w (nC w fH 2 355 [] (λs=>.agg #[s])):=by
 refine enter (vs:=[_]) func220 rfl ntmps220 rfl ?_;refine B 2 ?_;refine wW ?_;refine yW ?_;intro b2 cE cX;refine B 6 ?_;refine nu (α:=Nat) (v:=λb:Nat=>.func (.func 302) #[] #[ptr b 0]) (Φ:=λ(W:World) (b:Nat) (w1:World)=>W.heap.size<=b/\w1.heap[b]? =some (.cells #[.map none] 319 (0,0))) call264 rfl rfl rfl (λW hS=>nUj none W) ?_;rintro Wk bk wk vw FL ⟨Lo,uw⟩;try dsimp only at Lo uw
 have R3:=vw.under;replace R3:=yg R3;have abd:=(aM.1 uw).1;have R4:=vw.sizes;replace R4:=yb R4;have WN:=FL.size;refine vx (enc:=ai) (m:=1) (t:=3) (xs:=[]) (v:=id) (first:=[]) (cap:=[]) rfl call263 rfl rfl rfl nr (λW hS=>nwl (f:=302) (cap:=[ptr bk 0]) (Pre:=λp=>p.length<=0) (Fin:=λxs=>xs=[]) (RO:=λk=>k=bk) call302 W ?_ ?_ ?_ [] ?_) ?_
 ·intro k hk;have h1:=(hS.links wk A0).size;subst hk;omega
 ·intro p hp;omega
 ·intro W2 hB;exact nsk bk W2 (by rw[hB.block bk (by have:=(hS.links wk A0).size;omega)];exact hS.old A0 uw zX jN)
 ·intro xs hx;exact(by subst hx;exact⟨by simp[cW],by simp⟩)
 intro Ws a7 DR ws R5 hBs iz pH;have R6:=R5.sizes;replace R6:=yb R6;have Al:=hBs.size;have R7:=R5.under;replace R7:=yg R7;refine B 5 ?_;refine CJ.loop (α:=Nat) (λp=>[(2,ptr b2 0),(8,.int .i64 0),(9,.int .i64 0)]) (λp=>[(b2,.cells #[.slice none 0 0] 55 (0,0))]) (λp=>[ws,wk,w]) (λp=>Gh.no) (λp=>True) (λp=>0) 0 True.intro zR rfl rfl z1 ?_;rintro p _;refine KM ?_;refine B 12 ?_;refine R9 ?_;refine B 3 ?_;exact nU (H0:=[(b2,.cells #[.slice none 0 0] 55 (0,0))]) (H1:=[]) (r:=.nil) (.inl rfl) results220 (RS.wA (i:=0) rfl isAgg55 sizeOf55 rfl (aV rfl) RS.n) A2 z9d rfl rfl True.intro rfl
def FM (kv:List (Int×Bool)) (n:Int):List (Int×Bool):=ck kv n true
def usD (kv:List (Int×Bool)) (d:Int):List (Int×Bool):=(cH d).foldl FM (ck kv (512+d) true)
def vy (ds:List Int):List (Int×Bool):=ds.foldl usD []
theorem nIk{ds:List Int}(hx:ds[j]? =some d):vy (ds.take (j+1))=usD (vy (ds.take j)) d:=by rw[nz hx];simp[vy,DP]
theorem nmm{l:List Int}{n:Int}(hx:l[i]? =some n)(kv:List (Int×Bool)):(l.take (i+1)).foldl FM kv=ck ((l.take i).foldl FM kv) n true:=by rw[nz hx];simp[FM,DP]
theorem FN(l:List Int)(i:Nat)(h:¬i<l.length)(kv:List (Int×Bool)):(l.take i).foldl FM kv=l.foldl FM kv:=by rw[iZ zM]
theorem FO(l:List Int)(i:Nat)(h:¬i<l.length):vy (l.take i)=vy l:=by rw[iZ zM]
def FP (ns:List Nd) (i:Nat) (x:Nd):Prop:=1<=x.at_/\x.at_<=1023/\(∀y,0<i->ns[i-1]? =some y->y.at_<x.at_)/\dG x.pub/\aE (vy (dh ns)) x.at_=some true
def Ao (ns:List Nd):Prop:=∀i x,ns[i]? =some x->FP ns i x
def Ap (ns:List Nd) (j:Nat):Prop:=∀i x,i<j->ns[i]? =some x->FP ns i x
open Classical in
noncomputable def iE (ns:List Nd):Int:=if Ao ns then 0 else 210
theorem Lp(h:Ao ns):iE ns=0:=by unfold iE;rw[if_pos h]
theorem FQ:iE ns=0↔Ao ns:=by unfold iE;split<;>simp_all
theorem WO(ns:List Nd):iE ns=0\/iE ns=210:=by unfold iE;split<;>simp
theorem nid(h:Ap ns j)(hj:¬j<ns.length):0=iE ns:=by
 rw[Lp];exact λi x hx=>h i x (by have:=nE hx;omega) hx
theorem nR{x:Nd}(hx:ns[j]? =some x)(h:¬FP ns j x):210=iE ns:=by
 unfold iE;rw[if_neg];exact λg=>h (g j x hx)
theorem Ap.next{x:Nd}(h:Ap ns j)(hx:ns[j]? =some x)(hk:FP ns j x):Ap ns (j+1):=by
 exact zgl
theorem nIh{zs:List Int}{x:Int}(h:x∈Go.Lib.compact zs):x∈zs:=by
 unfold Go.Lib.compact Go.Lib.compactUpTo at h;obtain⟨i,hi,rfl⟩:=bU.1 h;have hl:=pG.1 (vz.1 hi).1;rw[getElem!_pos zs.toArray i xZ];simp
theorem FR(h:d∈dh ns):dM d:=by
 have h1:=nIh h;have h2:=(List.mergeSort_perm (mw ns) _).mem_iff.1 h1;obtain⟨n,hn,rfl⟩:=bU.1 h2;have h3:=(vz.1 hn).2;simp only[decide_eq_true_eq]at h3;exact⟨by omega,by omega⟩
theorem nLl(d:Int):(cH d).length<=(512+d).toNat:=by unfold cH;rw[fl];exact nDn _
theorem nEj(o:Option Bool):(o.map Value.bool).getD (.bool false)= .bool (o.getD false):=by cases o<;>rfl
theorem n0c(o:Option Bool):o.getD false=true↔o=some true:=by cases o with|none=>simp|some b=>cases b<;>simp
theorem nLb(ns:List Nd)(hn:ns.length<=100000)(N:Nat)(a:Option Addr)(cp:Nat)(w:World)(hN:N<=w.heap.size)(aJ:ah gh 2 N w a ns):Calls prog 201 #[.agg #[.slice a ns.length cp]] w (av w (.int .i64 (iE ns))):=by
 have q4:=nXl ns;refine enter (vs:=[_]) func201 rfl ntmps201 rfl ?_;refine B 2 ?_;refine yX ?_;intro b1 w1 aR aY gA eK iH;refine B 5 ?_;refine FK Value.bool rfl rfl ?_;refine yW ?_;intro kV Rl Rm;refine B 6 ?_;refine rr (.agg #[.slice a ns.length cp]) (af isAgg55 sizeOf55 rfl A0 aR aY zL rfl) ?_;refine vx (enc:=ai) (m:=1) (t:=3) (xs:=dh ns) (v:=id) (first:=[]) (cap:=[]) rfl call205 rfl rfl rfl nr (λW hS=>n5b ns hn N a cp W (aS hN (hS.links w A1).size) (aJ.up (ao _) (hS.same A1 hN zU z7))) ?_;intro Wm am cpm wm Aq Sa Ar Sb;have Sd:=Aq.sizes;replace Sd:=yb Sd;have hzm:=Sa.size;have Se:=Aq.under;replace Se:=yg Se;refine B 5 ?_;refine CJ.loop (α:=Mp×Nat) (λp=>[(1,ptr b1 0),(3,.map (some kV)),(14,.slice am (dh ns).length cpm),(15,.int .i64 ((dh ns).length:Int)),(16,.int .i64 (p.2:Int))]) (λp=>[(kV,p.1.obj Value.bool (vy ((dh ns).take p.2)))]) (λp=>[wm,w1,w]) (λp=>Gh.no) (λp=>p.2<=(dh ns).length/\p.1.Ok (vy ((dh ns).take p.2))) (λp=>(dh ns).length-p.2) (⟨[],0⟩,0) ⟨cZ _,Mp.nil⟩ zR rfl rfl z1 ?_;rintro⟨m,j⟩ ⟨hj,hm⟩;dsimp only at hj hm ⊢;refine B 6 ?_;refine aK ?_ ?_
 ·intro aj;refine B 5 ?_;obtain⟨bm,om,csm,tm,frm,rfl,jb,abi,abj⟩:=Ar.get zM;have kG:=Sb _ rfl;dsimp only at kG;obtain⟨d,hx⟩:=nk (dh ns) j zM;have hd:=FR (cC hx);have hd1:=hd.1;have zJ:=hd.2;have hpl:=nLl d;refine B 2 ?_;refine rv rfl rfl rfl (aa (v:=.int .i64 d) isAgg3 rfl A0 abi zX xX (by have:=nS (enc:=λx=>(ai x).toArray) (n:=1) abj hx rfl zQ;simpa[ai]using this)) ?_;refine B 6 ?_;refine zSf ?_;intro Wp ap lS wp wX Lq qy pI;have r4:=wX.sizes;replace r4:=yb r4;have hzp:=Lq.size;have sa:=wX.under;replace sa:=yg sa;refine B 12 ?_;refine IU (i:=0) (ev:=Value.bool) (v:=true) rfl hm underlying351 underlying3 rfl rfl rfl rfl ?_;intro m2 aF;refine B 10 ?_;refine CJ.loop (α:=Mp×Nat) (λp=>[(1,ptr b1 0),(3,.map (some kV)),(14,.slice (some ⟨bm,om,none⟩) (dh ns).length cpm),(15,.int .i64 ((dh ns).length:Int)),(16,.int .i64 (j:Int)),(28,.slice ap (cH d).length lS),(29,.int .i64 ((cH d).length:Int)),(30,.int .i64 (p.2:Int))]) (λp=>[(kV,p.1.obj Value.bool (((cH d).take p.2).foldl FM (ck (vy ((dh ns).take j)) (512+d) true)))]) (λp=>[wp,wm,w1,w]) (λp=>Gh.no) (λp=>p.2<=(cH d).length/\p.1.Ok (((cH d).take p.2).foldl FM (ck (vy ((dh ns).take j)) (512+d) true))) (λp=>(cH d).length-p.2) (m2,0) ⟨cZ _,aF⟩ zR rfl rfl z1 ?_
  rintro⟨mi,i⟩ ⟨hi,uy⟩;dsimp only at hi uy ⊢;refine B 6 ?_;refine aK ?_ ?_
  ·intro aN;refine B 5 ?_;obtain⟨bq,oq,WQ,tq,WR,rfl,WS,sd,se⟩:=qy.get zM;have As:=pI _ rfl;dsimp only at As;obtain⟨n,hy⟩:=nk (cH d) i zM;refine B 2 ?_;refine rv rfl rfl rfl (aa (v:=.int .i64 n) isAgg3 rfl A0 sd zX xX zqd) ?_;refine B 6 ?_;refine IU (i:=0) (ev:=Value.bool) (v:=true) rfl uy underlying351 underlying3 rfl rfl rfl rfl ?_;intro m3 ay;refine B 7 ?_;refine PJ.again (m3,i+1) ⟨by dsimp only;omega,by rw[nmm hy];exact ay⟩ dL zR (by rw[nmm hy];rfl) rfl z1
  intro aN;refine B 6 ?_;have eD:((cH d).take i).foldl FM (ck (vy ((dh ns).take j)) (512+d) true)=usD (vy ((dh ns).take j)) d:=by rw[FN _ _ zM];rfl
  rw[eD]at uy ⊢;refine B 4 ?_;refine PJ.again (mi,j+1) ⟨by dsimp only;omega,by rw[nIk hx];exact uy⟩ dL zR (by rw[nIk hx]) rfl z1
 intro aj;refine B 7 ?_;have bW:=FO (dh ns) j zM;rw[bW]at hm ⊢;refine B 2 ?_;refine rr (.slice a ns.length cp) (aa isAgg53 rfl A1 aR aY zL rfl) ?_;refine B 5 ?_;refine CJ.loop (α:=Nat) (λj=>[(1,ptr b1 0),(3,.map (some kV)),(39,.slice a ns.length cp),(40,.int .i64 (ns.length:Int)),(41,.int .i64 (j:Int))]) (λj=>[(kV,m.obj Value.bool (vy (dh ns)))]) (λj=>[wm,w1,w]) (λj=>Gh.no) (λj=>j<=ns.length/\Ap ns j) (λj=>ns.length-j) 0 ⟨cZ _,λi x hi=>absurd hi zM⟩ zR rfl rfl z1 ?_;rintro j ⟨hj,dO⟩;refine B 6 ?_;refine aK ?_ ?_
 ·intro cN;refine B 5 ?_;obtain⟨bo,oo,cs0,to,fp,rfl,ft,hcs,ar⟩:=aJ.get zM;obtain⟨x,hx⟩:=nk ns j zM;refine B 3 ?_;refine rq (.agg (gh x)) (ag isAgg355 sizeOf355 rfl A2 hcs zX xX (ni ar hx rfl)) (va (np ar hx rfl)) ?_;refine aU zeroValue355 rfl rfl ?_;refine yW ?_;intro s9 Kq Kr;refine B 1 ?_;refine zWh ?_;refine B 3 ?_;by_cases h1:x.at_<1
  ·refine Lr ?_;refine nl 34 ((.det [] _)::(.det [0] _)::(.det [1] _)::(.det [2] _)::(.det [3] undef)::(.det [3,4] undef)::(.det [3,5] undef)::(.det [3,6] _)::(.det [7] _)::(.det [8] undef)::(.det [8,9] undef)::(.det [8,10] undef)::(.det [11] undef)::(.det [11,12] undef)::(.det [11] undef)::(.det [11,14] undef)::(.det [11] undef)::(.det [11,16] undef)::(.det [11,15,17] undef)::(.det [11,18] undef)::(.det [11,19] undef)::(.det [11,13,20] undef)::(.det [8,11,21] undef)::(.det [8,22] _)::(.det [23] _)::(.det [24] undef)::(.det [24,25] undef)::(.det [24,26] undef)::(.det [24,27] undef)::(.det [24,28] _)::(.det [29] _)::(.det [30] undef)::(.det [30] undef)::(.det [30,32] undef)::[]) zT (xc z5 (xc z2 (xc (by exact λab=>X.val rfl rfl (RV.re (v':=.bool true) (mR rfl rfl) (vb (decide_eq_true zM))) (λ_ _=>rfl)) (xc zO (xc zN (xc zN (xc zN (xc z6 (xc zO (xc zN (xc zN (xc zN (xc zN (xc zN (xc zN (xc zN (xc zN (xc zN (xc zN (xc zN (xc zN (xc zN (xc zN (xc z6 (xc zO (xc zN (xc zN (xc zN (xc zN (xc z6 (xc zO (xc zN (xc zN (xc zN (xn))))))))))))))))))))))))))))))))))) zT zT zT (λab=>?_);exact Sf
  by_cases h2:1023<x.at_
  ·refine Lr ?_;refine nl 34 ((.det [] _)::(.det [0] _)::(.det [1] _)::(.det [2] _)::(.det [3] _)::(.det [3,4] _)::(.det [3,5] _)::(.det [3,6] _)::(.det [7] _)::(.det [8] undef)::(.det [8,9] undef)::(.det [8,10] undef)::(.det [11] undef)::(.det [11,12] undef)::(.det [11] undef)::(.det [11,14] undef)::(.det [11] undef)::(.det [11,16] undef)::(.det [11,15,17] undef)::(.det [11,18] undef)::(.det [11,19] undef)::(.det [11,13,20] undef)::(.det [8,11,21] undef)::(.det [8,22] _)::(.det [23] _)::(.det [24] undef)::(.det [24,25] undef)::(.det [24,26] undef)::(.det [24,27] undef)::(.det [24,28] _)::(.det [29] _)::(.det [30] undef)::(.det [30] undef)::(.det [30,32] undef)::[]) zT (xc z5 (xc z2 (xc O5 (xc zO (xc z5 (xc z2 (xc IW (xc z8 (xc zO (xc zN (xc zN (xc zN (xc zN (xc zN (xc zN (xc zN (xc zN (xc zN (xc zN (xc zN (xc zN (xc zN (xc zN (xc z6 (xc zO (xc zN (xc zN (xc zN (xc zN (xc z6 (xc zO (xc zN (xc zN (xc zN (xn))))))))))))))))))))))))))))))))))) zT zT zT (λab=>?_);exact Sf
  obtain⟨e,he⟩:∃e,(if dG x.pub then(0:Int)else 40)=e:=⟨_,rfl⟩;by_cases h3:j=0/\¬e=0
  ·refine Lr ?_;refine nl 34 ((.det [] _)::(.det [0] _)::(.det [1] _)::(.det [2] _)::(.det [3] _)::(.det [3,4] _)::(.det [3,5] _)::(.det [3,6] _)::(.det [7] _)::(.det [8] _)::(.det [8,9] _)::(.det [8,10] _)::(.det [11] undef)::(.det [11,12] undef)::(.det [11] undef)::(.det [11,14] undef)::(.det [11] undef)::(.det [11,16] undef)::(.det [11,15,17] undef)::(.det [11,18] undef)::(.det [11,19] undef)::(.det [11,13,20] undef)::(.det [8,11,21] _)::(.det [8,22] _)::(.det [23] _)::(.det [24] _)::(.det [24,25] _)::(.det [24,26] _)::(.det [24,27] _)::(.det [24,28] _)::(.det [29] _)::(.det [30] undef)::(.det [30] undef)::(.det [30,32] undef)::[]) zT (xc z5 (xc z2 (xc O5 (xc zO (xc z5 (xc z2 (xc FT (xc z8 (xc zO (xc zO (xc FT (xc zO (xc zN (xc zN (xc zN (xc zN (xc zN (xc zN (xc zN (xc zN (xc zN (xc zN (xc z8 (xc z8 (xc zO (xc z5 (xc z2 (xc WT (xc z8d (xc z8 (xc zO (xc zN (xc zN (xc zN (xn))))))))))))))))))))))))))))))))))) zT zT zT (λab=>?_);exact Sf
  by_cases h4:j=0
  ·refine Lr ?_;refine nl 34 ((.det [] _)::(.det [0] _)::(.det [1] _)::(.det [2] _)::(.det [3] _)::(.det [3,4] _)::(.det [3,5] _)::(.det [3,6] _)::(.det [7] _)::(.det [8] _)::(.det [8,9] _)::(.det [8,10] _)::(.det [11] undef)::(.det [11,12] undef)::(.det [11] undef)::(.det [11,14] undef)::(.det [11] undef)::(.det [11,16] undef)::(.det [11,15,17] undef)::(.det [11,18] undef)::(.det [11,19] undef)::(.det [11,13,20] undef)::(.det [8,11,21] _)::(.det [8,22] _)::(.det [23] _)::(.det [24] _)::(.det [24,25] _)::(.det [24,26] _)::(.det [24,27] _)::(.det [24,28] _)::(.det [29] _)::(.det [30] _)::(.det [30] _)::(.det [30,32] _)::[]) zT (xc z5 (xc z2 (xc O5 (xc zO (xc z5 (xc z2 (xc FT (xc z8 (xc zO (xc zO (xc FT (xc zO (xc zN (xc zN (xc zN (xc zN (xc zN (xc zN (xc zN (xc zN (xc zN (xc zN (xc z8 (xc z8 (xc zO (xc z5 (xc z2 (xc WT (xc z7d (xc z8 (xc zO (xc zO (xc z5 (xc z2 (xn))))))))))))))))))))))))))))))))))) zT zT zT (λab=>?_);refine zKg ?_;refine B 4 ?_;refine aK ?_ ?_
   ·intro gf;refine B 11 ?_;exact WU
   intro gf;exact z2j
  obtain⟨y,hy⟩:=nk ns (j-1) zM;by_cases h5:x.at_<=y.at_
  ·refine Lr ?_;refine nl 34 ((.det [] _)::(.det [0] _)::(.det [1] _)::(.det [2] _)::(.det [3] _)::(.det [3,4] _)::(.det [3,5] _)::(.det [3,6] _)::(.det [7] _)::(.det [8] _)::(.det [8,9] _)::(.det [8,10] _)::(.det [11] _)::(.det [11,12] _)::(.det [11] _)::(.det [11,14] _)::(.det [11] _)::(.det [11,16] _)::(.det [11,15,17] _)::(.det [11,18] _)::(.det [11,19] _)::(.det [11,13,20] _)::(.det [8,11,21] _)::(.det [8,22] _)::(.det [23] _)::(.det [24] undef)::(.det [24,25] undef)::(.det [24,26] undef)::(.det [24,27] undef)::(.det [24,28] _)::(.det [29] _)::(.det [30] undef)::(.det [30] undef)::(.det [30,32] undef)::[]) zT (xc z5 (xc z2 (xc O5 (xc zO (xc z5 (xc z2 (xc FT (xc z8 (xc zO (xc zO (xc IW (xc zO (xc z5 (xc z2 (xc zxc (xc znd (xc zO (xc EE (xc zGd (xc z5 (xc zid (xc zVd (xc z6 (xc z8 (xc zO (xc zN (xc zN (xc zN (xc zN (xc z6 (xc zO (xc zN (xc zN (xc zN (xn))))))))))))))))))))))))))))))))))) zT zT zT (λab=>?_);exact Sf
  by_cases h6:¬e=0
  ·refine Lr ?_;refine nl 34 ((.det [] _)::(.det [0] _)::(.det [1] _)::(.det [2] _)::(.det [3] _)::(.det [3,4] _)::(.det [3,5] _)::(.det [3,6] _)::(.det [7] _)::(.det [8] _)::(.det [8,9] _)::(.det [8,10] _)::(.det [11] _)::(.det [11,12] _)::(.det [11] _)::(.det [11,14] _)::(.det [11] _)::(.det [11,16] _)::(.det [11,15,17] _)::(.det [11,18] _)::(.det [11,19] _)::(.det [11,13,20] _)::(.det [8,11,21] _)::(.det [8,22] _)::(.det [23] _)::(.det [24] _)::(.det [24,25] _)::(.det [24,26] _)::(.det [24,27] _)::(.det [24,28] _)::(.det [29] _)::(.det [30] undef)::(.det [30] undef)::(.det [30,32] undef)::[]) zT (xc z5 (xc z2 (xc O5 (xc zO (xc z5 (xc z2 (xc FT (xc z8 (xc zO (xc zO (xc IW (xc zO (xc z5 (xc z2 (xc zxc (xc znd (xc zO (xc EE (xc zGd (xc z5 (xc zid (xc zud (xc z6 (xc z8 (xc zO (xc z5 (xc z2 (xc WT (xc z8d (xc z8 (xc zO (xc zN (xc zN (xc zN (xn))))))))))))))))))))))))))))))))))) zT zT zT (λab=>?_);exact Sf
  refine Lr ?_;refine nl 34 ((.det [] _)::(.det [0] _)::(.det [1] _)::(.det [2] _)::(.det [3] _)::(.det [3,4] _)::(.det [3,5] _)::(.det [3,6] _)::(.det [7] _)::(.det [8] _)::(.det [8,9] _)::(.det [8,10] _)::(.det [11] _)::(.det [11,12] _)::(.det [11] _)::(.det [11,14] _)::(.det [11] _)::(.det [11,16] _)::(.det [11,15,17] _)::(.det [11,18] _)::(.det [11,19] _)::(.det [11,13,20] _)::(.det [8,11,21] _)::(.det [8,22] _)::(.det [23] _)::(.det [24] _)::(.det [24,25] _)::(.det [24,26] _)::(.det [24,27] _)::(.det [24,28] _)::(.det [29] _)::(.det [30] _)::(.det [30] _)::(.det [30,32] _)::[]) zT (xc z5 (xc z2 (xc O5 (xc zO (xc z5 (xc z2 (xc FT (xc z8 (xc zO (xc zO (xc IW (xc zO (xc z5 (xc z2 (xc zxc (xc znd (xc zO (xc EE (xc zGd (xc z5 (xc zid (xc zud (xc z6 (xc z8 (xc zO (xc z5 (xc z2 (xc WT (xc z7d (xc z8 (xc zO (xc zO (xc z5 (xc z2 (xn))))))))))))))))))))))))))))))))))) zT zT zT (λab=>?_);refine zKg ?_;refine B 4 ?_;refine aK ?_ ?_
  ·intro gM;refine B 11 ?_;exact WU
  intro gM;exact z2j
 intro cN;refine B 11 ?_;exact WU
def iO (kv:List (Int×Int)) (n:Int):List (Int×Int):=gH kv n
def lT (kv:List (Int×Int)) (d:Int):List (Int×Int):=(cH d).foldl iO (iO kv (512+d))
theorem n6f{l:List Int}{n:Int}(hx:l[i]? =some n)(kv:List (Int×Int)):(l.take (i+1)).foldl iO kv=gH ((l.take i).foldl iO kv) n:=by rw[nz hx];simp[iO,DP]
theorem nrn{l:List Int}(h:¬i<l.length)(kv:List (Int×Int)):(l.take i).foldl iO kv=l.foldl iO kv:=by rw[iZ zM]
theorem Sg(kv:List (Int×Int))(d:Int):(lT kv d).length<=kv.length:=by
 have key:∀(l:List Int) (kv:List (Int×Int)),(l.foldl iO kv).length<=kv.length:=by
  intro l;induction l with
  |nil=>intro kv;exact ao _
  |cons n l ih=>intro kv;exact aS (ih _) (nZh kv n).length_le
 exact aS (key _ _) (nZh kv _).length_le
theorem nSg(kv:List (Int×Int)):(oD kv).length=kv.length:=by unfold oD;rw[fl,vn,fl]
theorem nkg(ns:List Nd)(hn:ns.length<=100000)(N:Nat)(a:Option Addr)(cp:Nat)(w:World)(hN:N<=w.heap.size)(aJ:ah gh 2 N w a ns)(fJ:iE ns=210)(d:Int)(mem:Bool):Calls prog 218 #[.agg #[.slice a ns.length cp],.int .i64 d,.bool mem] w (av w (.tuple #[.map none,.slice none 0 0,.int .i64 210])):=by
 refine zbi ?_;refine B 2 ?_;refine yX ?_;intro b3 w3 aC ay cS bV cL;refine B 8 ?_;refine zof ?_;refine zSg ?_;refine B 6 ?_;refine Fl ?_;refine B 13 ?_;exact bJ (.inl rfl) results218 (RS.t rfl (RS.t rfl (RS.t rfl RS.n))) A1 trivial rfl
theorem n4j(ns:List Nd)(hn:ns.length<=100000)(N:Nat)(a:Option Addr)(cp:Nat)(w:World)(hN:N<=w.heap.size)(aJ:ah gh 2 N w a ns)(fJ:iE ns=0)(d:Int)(hd:dM d)(fm:aE (cY ns) (512+d)=none):Calls prog 218 #[.agg #[.slice a ns.length cp],.int .i64 d,.bool true] w (av w (.tuple #[.map none,.slice none 0 0,.int .i64 200])):=by
 have hd1:=hd.1;have zJ:=hd.2;refine zbi ?_;refine B 2 ?_;refine yX ?_;intro b3 w3 aC ay cS bV cL;refine zSi ?_;intro bf m vA O0 hm;replace vA:=yb vA;refine zbh ?_;refine tW ?_;refine B 2 ?_;refine OZ ?_;refine B 5 ?_;refine rq (.bool true) (dI rfl) (by rw[fm];rfl) ?_;refine B 14 ?_;exact bJ (.inl rfl) results218 (RS.t rfl (RS.t rfl (RS.t rfl RS.n))) A1 wx rfl
theorem n7e(ns:List Nd)(hn:ns.length<=100000)(N:Nat)(a:Option Addr)(cp:Nat)(w:World)(hN:N<=w.heap.size)(aJ:ah gh 2 N w a ns)(fJ:iE ns=0)(d:Int)(hd:dM d)(mem:Bool)(jO:mem=true->(aE (cY ns) (512+d)).isSome=true):Calls prog 218 #[.agg #[.slice a ns.length cp],.int .i64 d,.bool mem] w (IX w (Value.int .i64) (lT (cY ns) d) ai 1 (cH d) (λmp s=>.tuple #[mp,s,.int .i64 0])):=by
 have hd1:=hd.1;have zJ:=hd.2;have hpl:=nLl d;refine zbi ?_;refine B 2 ?_;refine yX ?_;intro b3 w3 aC ay cS bV cL;refine zSi ?_;intro bf m vA O0 hm;replace vA:=yb vA;refine zbh ?_;refine tW ?_;refine B 2 ?_;refine OZ ?_;refine B 4 ?_;refine nh (t:=37) rfl (λaj=>?_) (λaj=>?_)
 ·replace aj:=ya aj;refine B 1 ?_;refine rq (.bool false) (dI rfl) (vb (by rw[jO gO];rfl)) ?_;refine B 10 ?_;refine zSf ?_;intro Wp ap lS wp wX Lq qy pI;have r4:=wX.sizes;replace r4:=yb r4;have hzp:=Lq.size;have sa:=wX.under;replace sa:=yg sa;refine B 9 ?_;refine Qy ?_;refine B 8 ?_;refine zbg ?_;intro m1 aY;refine B 11 ?_;refine zbf ?_;rintro⟨mi,i⟩ ⟨hi,uy⟩;dsimp only at hi uy ⊢;refine B 6 ?_;refine aK ?_ ?_
  ·intro aN;exact zAj
  intro aN;exact ztj
 replace aj:=ya aj;refine B 12 ?_;refine zSf ?_;intro Wp ap lS wp wX Lq qy pI;have r4:=wX.sizes;replace r4:=yb r4;have hzp:=Lq.size;have sa:=wX.under;replace sa:=yg sa;refine B 9 ?_;refine Qy ?_;refine B 8 ?_;refine zbg ?_;intro m1 aY;refine B 11 ?_;refine zbf ?_;rintro⟨mi,i⟩ ⟨hi,uy⟩;dsimp only at hi uy ⊢;refine B 6 ?_;refine aK ?_ ?_
 ·intro cN;exact zAj
 intro cN;exact ztj
theorem FU(ns:List Nd)(hn:ns.length<=100000)(N:Nat)(a:Option Addr)(cp:Nat)(w:World)(hN:N<=w.heap.size)(aJ:ah gh 2 N w a ns)(fJ:iE ns=210)(d p:Int):Calls prog 222 #[.agg #[.slice a ns.length cp],.int .i64 d,.int .i64 p] w (nC w fH 2 355 [] (λs=>.tuple #[.agg #[s],.int .i64 210])):=by
 refine zai ?_;refine B 2 ?_;refine yX ?_;intro b3 w3 aC ay cS bV cL;refine wW ?_;refine yW ?_;intro b6 gS lB;refine O6 ?_;refine call call218 rfl rfl rfl (λW hS=>nkg ns hn N a cp W (aS hN (hS.links w A1).size) (aJ.up (ao _) (hS.same A1 hN zU z7)) fJ d false) ?_;refine zDi ?_;exact nU (enc:=fH) (m:=2) (t:=355) (xs:=[]) (H0:=_) (H1:=[]) (r:=.nil) (.inl rfl) results222 (RS.wA (i:=0) rfl isAgg55 sizeOf55 rfl (aV rfl) (RS.t rfl RS.n)) A1 zXd rfl rfl True.intro (dE _).symm
theorem FV(ns:List Nd)(hn:ns.length<=100000)(N:Nat)(a:Option Addr)(cp:Nat)(w:World)(hN:N<=w.heap.size)(aJ:ah gh 2 N w a ns)(fJ:iE ns=0)(d p:Int)(hd:dM d)(hgk:(if dG p then(0:Int)else 40)=40):Calls prog 222 #[.agg #[.slice a ns.length cp],.int .i64 d,.int .i64 p] w (nC w fH 2 355 [] (λs=>.tuple #[.agg #[s],.int .i64 50])):=by
 have hd1:=hd.1;have zJ:=hd.2;refine zai ?_;refine B 2 ?_;refine yX ?_;intro b3 w3 aC ay cS bV cL;refine wW ?_;refine yW ?_;intro b6 gS lB;refine O6 ?_;refine z4f ?_;intro bm m a8 IY Wc wc vB DS Ls wY mS uz hm qz wZ;replace mS:=yb mS;simp only[bE,and_true]at uz;have uA:=DS.size;have Au:=vB.sizes;replace Au:=yb Au;have Av:=vB.under;replace Av:=yg Av;refine B 13 ?_;refine xT ?_;refine B 9 ?_;refine call call63 rfl rfl rfl (λW hS=>by rw[<-hgk];exact nL p W) (v:=.int .i64 40) ?_;refine Fl ?_;refine B 6 ?_;refine aZ (i:=1) rfl sizeOf55 rfl rfl rfl rfl rfl rfl ?_;refine B 5 ?_;exact nU (enc:=fH) (m:=2) (t:=355) (xs:=[]) (H0:=_) (H1:=[]) (r:=.nil) (.inl rfl) results222 (RS.wA (i:=1) rfl isAgg55 sizeOf55 rfl (aV rfl) (RS.t rfl RS.n)) A2 zXd rfl rfl True.intro (dE _).symm
theorem Lt(ns:List Nd)(hn:ns.length<=100000)(N:Nat)(a:Option Addr)(cp:Nat)(w:World)(hN:N<=w.heap.size)(aJ:ah gh 2 N w a ns)(fJ:iE ns=0)(d p:Int)(hd:dM d)(u9:ns.length<100000)(hgk:(if dG p then(0:Int)else 40)=0):Calls prog 222 #[.agg #[.slice a ns.length cp],.int .i64 d,.int .i64 p] w (nC w fH 2 355 (oD (ck (lT (cY ns) d) (512+d) p)) (λs=>.tuple #[.agg #[s],.int .i64 0])):=by
 have hd1:=hd.1;have zJ:=hd.2;refine zai ?_;refine B 2 ?_;refine yX ?_;intro b3 w3 aC ay cS bV cL;refine wW ?_;refine yW ?_;intro b6 gS lB;refine O6 ?_;refine z4f ?_;intro bm m a8 IY Wc wc vB DS Ls wY mS uz hm qz wZ;replace mS:=yb mS;simp only[bE,and_true]at uz;have uA:=DS.size;have Au:=vB.sizes;replace Au:=yb Au;have Av:=vB.under;replace Av:=yg Av;refine B 13 ?_;refine xT ?_;refine B 9 ?_;refine call call63 rfl rfl rfl (λW hS=>by rw[<-hgk];exact nL p W) (v:=.int .i64 0) ?_;refine xT ?_;refine B 11 ?_;refine IU (i:=0) (ev:=(Value.int .i64)) (v:=p) rfl hm underlying319 underlying3 rfl rfl rfl rfl ?_;intro m2 aF;refine B 5 ?_;refine O7 (enc:=fH) (m:=2) (t:=355) (xs:=oD (ck (lT (cY ns) d) (512+d) p)) (v:=λs=>.agg #[s]) (first:=[]) (cap:=[]) rfl call220 rfl rfl rfl (λW hS=>nPf (by have h1:=O3 (lT (cY ns) d) (512+d) p;have h2:=Sg (cY ns) d;have h3:=O4 ns;omega) bm m2 aF W (hS.own _ A0)) ?_;intro r bG al;refine zAh ?_;refine B 4 ?_;exact nU (enc:=fH) (m:=2) (t:=355) (xs:=oD (ck (lT (cY ns) d) (512+d) p)) (H0:=[(bm,m2.obj (Value.int .i64) (ck (lT (cY ns) d) (512+d) p)),(b6,.cells #[r.val (oD (ck (lT (cY ns) d) (512+d) p)).length] 55 (0,0))]) (H1:=[]) (r:=r) (.inl rfl) results222 (RS.wA (i:=1) rfl isAgg55 sizeOf55 rfl (aV rfl) (RS.t rfl RS.n)) A2 zmc rfl al (Rw.ge_of bG A2) WV
theorem nXn(ns:List Nd)(hn:ns.length<=100000)(N:Nat)(a:Option Addr)(cp:Nat)(w:World)(hN:N<=w.heap.size)(aJ:ah gh 2 N w a ns)(fJ:iE ns=210)(d:Int):Calls prog 221 #[.agg #[.slice a ns.length cp],.int .i64 d] w (nC w fH 2 355 [] (λs=>.tuple #[.agg #[s],.int .i64 210])):=by
 refine zNi ?_;refine yV ?_;intro b2 w2 aH aF dS cE cX;refine wW ?_;refine yW ?_;intro b4 dQ dV;refine B 5 ?_;refine zyg ?_;refine B 1 ?_;refine zrh ?_;exact zKj
theorem nGo(ns:List Nd)(hn:ns.length<=100000)(N:Nat)(a:Option Addr)(cp:Nat)(w:World)(hN:N<=w.heap.size)(aJ:ah gh 2 N w a ns)(fJ:iE ns=0)(d:Int)(hd:dM d)(fm:aE (cY ns) (512+d)=none):Calls prog 221 #[.agg #[.slice a ns.length cp],.int .i64 d] w (nC w fH 2 355 [] (λs=>.tuple #[.agg #[s],.int .i64 200])):=by
 refine zNi ?_;refine yV ?_;intro b2 w2 aH aF dS cE cX;refine wW ?_;refine yW ?_;intro b4 dQ dV;refine B 5 ?_;refine zyg ?_;refine B 1 ?_;refine zph ?_;exact zKj
theorem nYo(ns:List Nd)(hn:ns.length<=100000)(N:Nat)(a:Option Addr)(cp:Nat)(w:World)(hN:N<=w.heap.size)(aJ:ah gh 2 N w a ns)(fJ:iE ns=0)(d:Int)(hd:dM d)(jO:(aE (cY ns) (512+d)).isSome=true):Calls prog 221 #[.agg #[.slice a ns.length cp],.int .i64 d] w (nC w fH 2 355 (oD (lT (cY ns) d)) (λs=>.tuple #[.agg #[s],.int .i64 0])):=by
 have hd1:=hd.1;have zJ:=hd.2;refine zNi ?_;refine yV ?_;intro b2 w2 aH aF dS cE cX;refine wW ?_;refine yW ?_;intro b4 dQ dV;refine B 5 ?_;refine zyg ?_;refine B 1 ?_;refine z7f ?_;intro bm m a8 IY Wc wc vB DS Ls wY mS uz hm qz wZ;replace mS:=yb mS;simp only[bE,and_true]at uz;have uA:=DS.size;have Au:=vB.sizes;replace Au:=yb Au;have Av:=vB.under;replace Av:=yg Av;refine B 12 ?_;refine O7 (enc:=fH) (m:=2) (t:=355) (xs:=oD (lT (cY ns) d)) (v:=λs=>.agg #[s]) (first:=[]) (cap:=[]) rfl call220 rfl rfl rfl (λW hS=>nPf (by have h2:=Sg (cY ns) d;have h3:=O4 ns;omega) bm m hm W (hS.own _ A0)) ?_;intro r bG al;refine B 1 ?_;refine zAh ?_;refine B 4 ?_;exact nU (enc:=fH) (m:=2) (t:=355) (xs:=oD (lT (cY ns) d)) (H0:=[(bm,m.obj (Value.int .i64) (lT (cY ns) d)),(b4,.cells #[r.val (oD (lT (cY ns) d)).length] 55 (0,0))]) (H1:=[]) (r:=r) (.inl rfl) results221 (RS.wA (i:=1) rfl isAgg55 sizeOf55 rfl (aV rfl) (RS.t rfl RS.n)) A2 zmc rfl al (Rw.ge_of bG A2) WV
theorem Lu(x:Int)(hx:dG x)(w:World):Calls prog 219 #[.int .i64 x] w (av w (.bool false)):=by
 refine enter (vs:=[_]) func219 rfl ntmps219 rfl ?_;refine B 8 ?_;refine call call63 rfl rfl rfl (λW hS=>by have:=nL x W;rw[if_pos hx]at this;exact this) ?_;refine xT ?_;refine B 4 ?_;refine ax results219 rfl A0 ?_;rfl
theorem nIj(w:World)(l:List Int)(ku:∀y∈l,dG y)(hl:l.length<=1000)(NP:Nat)(ap:Option Addr)(lS:Nat)(kx:ah encI 1 NP w ap l)(yh:NP<=w.heap.size):Calls prog 242 #[.slice ap l.length lS,.func (.func 219) #[] #[]] w (av w (.int .i64 (-1))):=by
 refine enter (vs:=[_,_]) func242 rfl ntmps242 rfl ?_;refine B 14 ?_;refine CJ.loop (α:=Nat) (λj=>[(0,.slice ap l.length lS),(1,.func (.func 219) #[] #[]),(7,.int .i64 (l.length:Int)),(8,.int .i64 (j:Int))]) (λj=>[]) (λj=>[w]) (λj=>Gh.no) (λj=>j<=l.length) (λj=>l.length-j) 0 (cZ _) zR rfl rfl z1 ?_;rintro j hj;refine B 6 ?_;refine aK ?_ ?_
 ·intro aj;refine B 11 ?_;obtain⟨b0,Sh,cs0,t0,fp,rfl,abD,FX,ar⟩:=kx.get zM;obtain⟨x,hx⟩:=nk l j zM;refine B 5 ?_;refine rv rfl rfl rfl (aa (v:=.int .i64 x) isAgg3 rfl A0 FX zX trivial (nS ar hx rfl zQ)) ?_;refine nH (f:=219) (cap:=[]) rfl call219 rfl rfl rfl (λW hS=>Lu x (ku x (cC hx)) W) ?_;refine B 10 ?_;exact Ez
 intro aj;refine B 11 ?_;refine ax results242 rfl A0 ?_;rfl
theorem nzh(w:World)(l:List Int)(ku:∀y∈l,dG y)(hl:l.length<=1000)(NP:Nat)(ap:Option Addr)(lS:Nat)(kx:ah encI 1 NP w ap l)(yh:NP<=w.heap.size):Calls prog 175 #[.slice ap l.length lS,.func (.func 219) #[] #[]] w (av w (.bool false)):=by
 refine enter (vs:=[_,_]) func175 rfl ntmps175 rfl ?_;refine B 9 ?_;refine call call242 rfl rfl rfl (λW hS=>nIj W l ku hl NP ap lS (kx.up (ao _) (hS.same A0 yh zU trivial)) (aS yh (hS.links w A0).size)) ?_;refine OZ ?_;refine B 4 ?_;refine ax results175 rfl A0 ?_;rfl
theorem n5i:∀(k n:Nat),2^k<=n->n<2^(k+1)->(k4 n).length=k
 |0,n,h1,h2=>by rw[WG zM];rfl
 |k+1,n,h1,h2=>by
  have e:2^(k+1)=2*2^k:=by rw[Nat.pow_succ,sY]
  have e2:2^(k+2)=2*2^(k+1):=by rw[Nat.pow_succ,sY]
  have h0:0<2^k:=Nat.pow_pos zQ;rw[RN zM,dW,n5i k (n/2) zM zM]
theorem nWj(hd:dM d):(cH d).length=9:=by
 have h1:=hd.1;have h2:=hd.2;unfold cH;rw[fl];exact n5i 9 _ zM zM
theorem nvo(hd:dM d):(iM d).length=9:=by
 have h1:=hd.1;have h2:=hd.2;unfold iM;rw[fl];exact n5i 9 _ zM zM
def o4 (kv:List (Int×Int)) (p:Int×Int):List (Int×Int):=ck kv p.1 p.2
def mT (kv:List (Int×Int)) (d:Int) (l:List Int):List (Int×Int):=((cH d).zip (l.drop 1)).foldl o4 (ck (lT kv d) (512+d) ((l[0]?).getD 0))
theorem n3j{z:List (Int×Int)}{n v:Int}(hz:z[i]? =some (n,v))(kv:List (Int×Int)):(z.take (i+1)).foldl o4 kv=ck ((z.take i).foldl o4 kv) n v:=by rw[nz hz];simp[o4,DP]
theorem Aw(z:List (Int×Int)):∀kv:List (Int×Int),(z.foldl o4 kv).length<=kv.length+z.length:=by
 induction z with
 |nil=>intro kv;simp
 |cons p z ih=>
  intro kv;have h1:=ih (o4 kv p);have h2:=O3 kv p.1 p.2;simp only[List.foldl_cons,dW];unfold o4 at h1 ⊢;omega
theorem n9k{kv:List (Int×Int)}(hd:dM d)(l:List Int):(mT kv d l).length<=kv.length+10:=by
 unfold mT;have h1:=Aw ((cH d).zip (l.drop 1)) (ck (lT kv d) (512+d) ((l[0]?).getD 0));have h2:=O3 (lT kv d) (512+d) ((l[0]?).getD 0);have h3:=Sg kv d;have h4:=nWj hd;rw[List.length_zip]at h1;omega
theorem Lv{A B:List Int}{n v:Int}(h1:A[i]? =some n)(h2:B[i+1]? =some v):(A.zip (B.drop 1))[i]? =some (n,v):=by
 rw[List.getElem?_zip_eq_some];exact⟨h1,by rw[wv,Nat.add_comm];exact h2⟩
theorem nbp(ns:List Nd)(hn:ns.length<=100000)(N:Nat)(a:Option Addr)(cp:Nat)(w:World)(hN:N<=w.heap.size)(aJ:ah gh 2 N w a ns)(fJ:iE ns=210)(d:Int)(l:List Int)(ku:∀y∈l,dG y)(hl:l.length<=1000)(NP:Nat)(ap:Option Addr)(lS:Nat)(kx:ah encI 1 NP w ap l)(yh:NP<=w.heap.size):Calls prog 154 #[.agg #[.slice a ns.length cp],.int .i64 d,.slice ap l.length lS] w (nC w fH 2 355 [] (λs=>.tuple #[.agg #[s],.int .i64 210])):=by
 refine zdi ?_;refine B 2 ?_;refine yX ?_;intro b3 w3 aC ay cS bV cL;refine wW ?_;refine yW ?_;intro b6 gS lB;refine O6 ?_;refine zrh ?_;exact z6j
theorem Ax(ns:List Nd)(hn:ns.length<=100000)(N:Nat)(a:Option Addr)(cp:Nat)(w:World)(hN:N<=w.heap.size)(aJ:ah gh 2 N w a ns)(fJ:iE ns=0)(d:Int)(hd:dM d)(fm:aE (cY ns) (512+d)=none)(l:List Int)(ku:∀y∈l,dG y)(hl:l.length<=1000)(NP:Nat)(ap:Option Addr)(lS:Nat)(kx:ah encI 1 NP w ap l)(yh:NP<=w.heap.size):Calls prog 154 #[.agg #[.slice a ns.length cp],.int .i64 d,.slice ap l.length lS] w (nC w fH 2 355 [] (λs=>.tuple #[.agg #[s],.int .i64 200])):=by
 refine zdi ?_;refine B 2 ?_;refine yX ?_;intro b3 w3 aC ay cS bV cL;refine wW ?_;refine yW ?_;intro b6 gS lB;refine O6 ?_;refine zph ?_;exact z6j
theorem Ay(ns:List Nd)(hn:ns.length<=100000)(N:Nat)(a:Option Addr)(cp:Nat)(w:World)(hN:N<=w.heap.size)(aJ:ah gh 2 N w a ns)(fJ:iE ns=0)(d:Int)(hd:dM d)(jO:(aE (cY ns) (512+d)).isSome=true)(l:List Int)(ku:∀y∈l,dG y)(hl:l.length<=1000)(NP:Nat)(ap:Option Addr)(lS:Nat)(kx:ah encI 1 NP w ap l)(yh:NP<=w.heap.size)(Lw:l.length=10)(u9:ns.length<90000):Calls prog 154 #[.agg #[.slice a ns.length cp],.int .i64 d,.slice ap l.length lS] w (nC w fH 2 355 (oD (mT (cY ns) d l)) (λs=>.tuple #[.agg #[s],.int .i64 0])):=by
 have hd1:=hd.1;have zJ:=hd.2;have h9:=nWj hd;obtain⟨b0,Sh,cs0,t0,fp,rfl,abD,FX,ar⟩:=kx.get zM;obtain⟨x0,iP⟩:=nk l 0 zM;refine zdi ?_;refine B 2 ?_;refine yX ?_;intro b3 w3 aC ay cS bV cL;refine wW ?_;refine yW ?_;intro b6 gS lB;refine O6 ?_;refine z7f ?_;intro bm m a8 IY Wc wc vB DS Ls wY mS uz hm qz wZ;replace mS:=yb mS;simp only[bE,and_true]at uz;have uA:=DS.size;have Au:=vB.sizes;replace Au:=yb Au;have Av:=vB.under;replace Av:=yg Av;refine B 13 ?_;refine xT ?_;refine B 10 ?_;refine rq (.bool false) (cy rfl rfl) (by rw[Lw];rfl) ?_;refine B 2 ?_;refine call call175 rfl rfl rfl (λW hS=>nzh W l ku hl NP _ lS (kx.up (ao _) (hS.same A2 yh zU wx)) (aS yh (hS.links w A2).size)) ?_;refine B 13 ?_;refine rv rfl rfl rfl (aa (v:=.int .i64 x0) isAgg3 rfl A2 FX zX jN (nS ar iP rfl zQ)) ?_;refine IU (i:=0) (ev:=(Value.int .i64)) (v:=x0) rfl hm underlying319 underlying3 rfl rfl rfl rfl ?_;intro m2 aF;refine B 11 ?_;refine CJ.loop (α:=Mp×Nat) (λp=>[(2,.slice (some ⟨b0,Sh,none⟩) l.length lS),(6,ptr b6 0),(8,.map (some bm)),(37,.slice a8 (cH d).length IY),(38,.int .i64 ((cH d).length:Int)),(39,.int .i64 (p.2:Int))]) (λp=>[(bm,p.1.obj (Value.int .i64) ((((cH d).zip (l.drop 1)).take p.2).foldl o4 (ck (lT (cY ns) d) (512+d) ((l[0]?).getD 0)))),(b6,.cells #[.slice none 0 0] 55 (0,0))]) (λp=>[wc,w3,w]) (λp=>Gh.no) (λp=>p.2<=(cH d).length/\p.1.Ok ((((cH d).zip (l.drop 1)).take p.2).foldl o4 (ck (lT (cY ns) d) (512+d) ((l[0]?).getD 0)))) (λp=>(cH d).length-p.2) (m2,0) ⟨cZ _,by simpa[iP]using aF⟩ zR (by simp[iP,Value.cells]) rfl z1 ?_
 rintro⟨mi,i⟩ ⟨hi,uy⟩;dsimp only at hi uy ⊢;refine B 6 ?_;refine aK ?_ ?_
 ·intro aj;refine B 5 ?_;obtain⟨bq,oq,WQ,tq,WR,rfl,WS,sd,se⟩:=qz.get zM;have As:=wZ _ rfl;dsimp only at As;obtain⟨n,hy⟩:=nk (cH d) i zM;obtain⟨x,hx⟩:=nk l (i+1) zM;have hz:=Lv hy hx;refine B 3 ?_;refine zoh ?_;refine B 11 ?_;refine rv rfl rfl rfl (aa (v:=.int .i64 x) isAgg3 rfl A2 FX zX jN (nS ar hx zM zQ)) ?_;refine IU (i:=0) (ev:=(Value.int .i64)) (v:=x) rfl uy underlying319 underlying3 rfl rfl rfl rfl ?_;intro m3 ay;refine B 7 ?_;refine PJ.again (m3,i+1) ⟨by dsimp only;omega,by rw[n3j hz];exact ay⟩ dL zR (by rw[n3j hz];rfl) rfl z1
 intro aj;refine B 6 ?_;have IZ:((cH d).zip (l.drop 1)).length=9:=by rw[List.length_zip,Az];omega
 have bW:((((cH d).zip (l.drop 1)).take i).foldl o4 (ck (lT (cY ns) d) (512+d) ((l[0]?).getD 0)))=mT (cY ns) d l:=by rw[iZ zM];rfl
 rw[bW]at uy ⊢
 rename Mp=>m4
 rename Mp.Ok (mT (cY ns) d l) m4=>eb
 refine B 2 ?_;refine O7 (enc:=fH) (m:=2) (t:=355) (xs:=oD (mT (cY ns) d l)) (v:=λs=>.agg #[s]) (first:=[]) (cap:=[]) rfl call220 rfl rfl rfl (λW hS=>nPf (by have h2:=n9k (kv:=cY ns) hd l;have h3:=O4 ns;omega) bm m4 eb W (hS.own _ A0)) ?_;intro r bG al;refine zAh ?_;refine B 4 ?_;exact nU (enc:=fH) (m:=2) (t:=355) (xs:=oD (mT (cY ns) d l)) (H0:=[(bm,m4.obj (Value.int .i64) (mT (cY ns) d l)),(b6,.cells #[r.val (oD (mT (cY ns) d l)).length] 55 (0,0))]) (H1:=[]) (r:=r) (.inl rfl) results154 (RS.wA (i:=1) rfl isAgg55 sizeOf55 rfl (aV rfl) (RS.t rfl RS.n)) A2 zmc rfl al (Rw.ge_of bG A2) WV
def eu (kv:List (Int×Int)):Nat->Int->List Int
 |0,_=>[]
 |k+1,n=>if(aE kv n).isSome=true then[n]else if 512<=n then[]else eu kv k (2*n)++eu kv k (2*n+1)
theorem nSh{kv:List (Int×Int)}{n:Int}(h:(aE kv n).isSome=true):eu kv (k+1) n=[n]:=by simp[eu,h]
theorem nNj{kv:List (Int×Int)}{n:Int}(h:¬(aE kv n).isSome=true)(h2:512<=n):eu kv (k+1) n=[]:=by simp only[eu];rw[if_neg h,if_pos h2]
theorem nBg{kv:List (Int×Int)}{n:Int}(h:¬(aE kv n).isSome=true)(h2:¬512<=n):eu kv (k+1) n=eu kv k (2*n)++eu kv k (2*n+1):=by simp only[eu];rw[if_neg h,if_neg h2]
def pJ (kv:List (Int×Int)) (k:Nat) (n:Int) (i:Nat):List Int:=(List.range i).flatMap λ(j:Nat)=>eu kv k (2*n+(j:Int))
theorem nUh(kv:List (Int×Int))(k:Nat)(n:Int)(i:Nat):pJ kv k n (i+1)=pJ kv k n i++eu kv k (2*n+(i:Int)):=by simp[pJ,List.range_succ]
theorem nKn(kv:List (Int×Int))(k:Nat)(n:Int):pJ kv k n 2=eu kv k (2*n)++eu kv k (2*n+1):=by simp[pJ,List.range_succ]
theorem FY{kv:List (Int×Int)}{n:Int}{p:List Int}(hi:i<2)(h:p <+:eu kv k (2*n+(i:Int))):pJ kv k n i++p <+:pJ kv k n 2:=by
 have h1:pJ kv k n i++p <+:pJ kv k n (i+1):=by rw[nUh];exact(List.prefix_append_right_inj _).2 h
 refine h1.trans ?_;rcases(show i=0\/i=1 by omega)with rfl|rfl
 ·rw[nUh kv k n 1];exact List.prefix_append _ _
 exact List.prefix_refl _
theorem Lx(n:Int)(i:Nat)(h:i<2):(#[Value.int .i64 (2*n),Value.int .i64 (2*n+1)]:Array Value)[(i:Int).toNat*1]? =some (.int .i64 (2*n+(i:Int))):=by
 rcases(show i=0\/i=1 by omega)with rfl|rfl<;>simp
def Si (bx by_ mb:Nat):aB:=λj=>j=bx\/j=by_\/j=mb
def Ly (kv:List (Int×Int)) (k:Nat):Prop:=∀(n:Int) (bx by_ mb:Nat) (m:Mp) (W:World),1<=n->n<1024->1024<=n*2^k->m.Ok kv->W.heap[bx]? =some (.cells #[.map (some mb)] 319 (0,0))->W.heap[by_]? =some (.cells #[.int .i64 n] 3 (0,0))->W.heap[mb]? =some (m.obj (Value.int .i64) kv)->
 vm prog 312 [ptr bx 0,ptr by_ 0] ai (xW (eu kv k n)) (Is (eu kv k n)) (λ_=>False) (Si bx by_ mb) W
theorem nDo(kv:List (Int×Int)):Ly kv 0:=λn bx by_ mb m W h1 h2 h3=>by omega
theorem nVe(mp:Option Nat)(n:Int)(w:World):Calls prog 293 #[.map mp,.int .i64 n] w (cu w (λq:Nat×Nat=>.func (.func 312) #[] #[ptr q.1 0,ptr q.2 0]) (λq w1=>w.heap.size<=q.1/\w.heap.size<=q.2/\w1.heap[q.1]? =some (.cells #[.map mp] 319 (0,0))/\w1.heap[q.2]? =some (.cells #[.int .i64 n] 3 (0,0)))):=by
 refine enter (vs:=[_,_]) func293 rfl ntmps293 rfl ?_;refine B 2 ?_;refine yX ?_;intro b2 w2 aH aF dS cE cX;refine yX ?_;intro b3 w3 aC ay cS bV cL;refine B 10 ?_;refine jG (b2,b3) results293 rfl A2 rfl ?_;exact zjk
theorem WW{n l Dk:Nat}(h1:n<=Dk)(h2:n<=l)(h:uB n ms):uB n ((l,rec,Dk)::ms):=by
 intro q hq;rcases cP.1 hq with rfl|hq
 ·exact⟨h2,h1⟩
 exact h q hq
theorem n2o{n i:Int}(h:1024<=n*2^(k+1))(hi:0<=i):1024<=(2*n+i)*2^k:=by
 rw[Int.pow_succ]at h;have hp:(0:Int)<2^k:=Int.pow_pos zQ;have h9:n*(2^k*2)=(2*n)*2^k:=by rw[Int.mul_comm (2^k) 2,<-Int.mul_assoc,Int.mul_comm n 2]
 have h8:(2*n+i)*2^k=(2*n)*2^k+i*2^k:=Int.add_mul _ _ _;have h7:0<=i*2^k:=Int.mul_nonneg hi zM;omega
theorem CJ.perm{Q:aG}{c:Code}(hp:H.Perm H')(h:CJ C c Q E D G L H'):CJ C c Q E D G L H:=λa W hN hD hF hS=>h a W hN hD hF (hS.perm hp)
theorem n4l(n:Nat):uB n []:=λq hq=>absurd hq z1
theorem ndp{kv:List (Int×Int)}(ih:Ly kv k)(n:Int)(bx by_ mb:Nat)(m:Mp)(W:World)(h1:1<=n)(h2:n<1024)(h3:1024<=n*2^(k+1))(hm:m.Ok kv)(aR:W.heap[bx]? =some (.cells #[.map (some mb)] 319 (0,0)))(aH:W.heap[by_]? =some (.cells #[.int .i64 n] 3 (0,0)))(iN:W.heap[mb]? =some (m.obj (Value.int .i64) kv)):vm prog 312 [ptr bx 0,ptr by_ 0] ai (xW (eu kv (k+1) n)) (Is (eu kv (k+1) n)) (λ_=>False) (Si bx by_ mb) W:=by
 intro l0 M0 I X0 hM hI hX hy h0;have aY:¬(cj hM (λ_=>False) (hI [] _)).X bx:=by rintro(h|h);exact(hM _ h).2.2 (.inl rfl);exact h.elim
 have aF:¬(cj hM (λ_=>False) (hI [] _)).X by_:=by rintro(h|h);exact(hM _ h).2.2 (.inr (.inl rfl));exact h.elim
 have wV:¬(cj hM (λ_=>False) (hI [] _)).X mb:=by rintro(h|h);exact(hM _ h).2.2 (.inr (.inr rfl));exact h.elim
 have mr:=(aM.1 aR).1;have xb:=(aM.1 aH).1;have uq:=(aM.1 iN).1;refine xK (cj hM (λ_=>False) (hI [] _)) [] (vs:=[_,_,_]) func312 rfl ntmps312 rfl (IP hM (hI [] _) h0 z1 I0 z1) ?_;refine B 2 ?_;refine yX ?_;intro b3 w3 aC ay cS bV cL;refine B 7 ?_;refine rv rfl rfl rfl (hJ (ev:=(Value.int .i64)) underlying319 underlying3 zeroValue3 hm (bL.old A1 iN wV trivial) rfl rfl) ?_;refine B 12 ?_;refine aK ?_ ?_
 ·intro aj;refine B 4 ?_;refine FA (λV=>hI ([]++[n]) V) hX (λ_ h=>h.elim) A1 rfl rfl rfl rfl (λW1 rW kI=>hy [] n _ W1 (by rw[nSh aj];exact List.prefix_refl _) rW kI) ?_ ?_
  ·intro V0 pK;refine B 4 ?_;exact Lz (ms:=([]:List Mk)) (H0:=[]) (.inl rfl) results312 A1 pK (by intro j hj hx;simp[jP]at hx) (λA hA=>.inl ⟨[n],by rw[nSh aj],hA⟩)
  intro V0 pK;refine B 4 ?_;exact Lz (ms:=([]:List Mk)) (H0:=[]) (.inl rfl) results312 A1 pK (by intro j hj hx;simp[jP]at hx) (λA hA=>.inr hA)
 intro aj;refine B 9 ?_;refine aK ?_ ?_
 ·intro aN;refine B 2 ?_;exact Lz (ms:=([]:List Mk)) (H0:=[]) (.inl rfl) results312 A1 (λ_ h=>h.elim) (by intro j hj hx;simp[jP]at hx) (λA hA=>.inl ⟨[],by rw[nNj (by simpa using aj) zM],hA⟩)
 intro aN;refine B 9 ?_;refine rv rfl rfl rfl (um underlying292 zeroValue292 sizeOf3 rfl rfl rfl rfl) ?_;refine B 4 ?_;refine nfm (α:=(Nat×List Mk)×aB) (λp=>Sj p.1.2) (λp=>[(1,ptr bx 0),(2,ptr by_ 0),(3,ptr b3 0),(26,.agg #[.int .i64 (2*n),.int .i64 (2*n+1)]),(27,.int .i64 (p.1.1:Int))]) (λp=>jP p.1.2) (λp=>[w3,W]) (λp=>cj hM p.2 (hI (pJ kv k n p.1.1) p.2)) (λp=>p.1.1<=2/\uB w3.heap.size p.1.2/\∀j,p.2 j->w3.heap.size<=j) (λp=>2-p.1.1) ((0,[]),λ_=>False) ⟨cZ _,n4l _,λ_ h=>h.elim⟩ zR rfl rfl z1 rfl ?_;rintro⟨⟨i,ms⟩,V0⟩ ⟨hi,ri,pK⟩;dsimp only at hi ri pK ⊢;have aY:¬(cj hM V0 (hI (pJ kv k n i) V0)).X bx:=by rintro(h|h);exact(hM _ h).2.2 (.inl rfl);have:=pK _ h;omega
 clear ay;have ay:¬(cj hM V0 (hI (pJ kv k n i) V0)).X b3:=by rintro(h|h);(have:=(hM _ h).1;omega);(have:=pK _ h;omega)
 refine B 6 ?_;refine aK ?_ ?_
 ·intro cN;refine B 6 ?_;refine rv rfl rfl rfl (qe (v:=.int .i64 (2*n+(i:Int))) underlying292 isAgg3 sizeOf3 rfl rfl zM zM (Lx n i zM)) ?_;refine B 5 ?_;refine rv rfl rfl rfl (aa (v:=.map (some mb)) isAgg319 rfl A1 aR aY (Sk ri zM) rfl) ?_;refine B 1 ?_;refine nu (α:=Nat×Nat) (v:=λq:Nat×Nat=>.func (.func 312) #[] #[ptr q.1 0,ptr q.2 0]) (Φ:=λ(W:World) (q:Nat×Nat) (w1:World)=>W.heap.size<=q.1/\W.heap.size<=q.2/\w1.heap[q.1]? =some (.cells #[.map (some mb)] 319 (0,0))/\w1.heap[q.2]? =some (.cells #[.int .i64 (2*n+(i:Int))] 3 (0,0))) call293 rfl rfl rfl (λW hS=>nVe (some mb) (2*n+(i:Int)) W) ?_;rintro Wk q wk vw FL ⟨eN,eQ,du,fu⟩;try dsimp only at eN eQ du fu
  have sf:=(aM.1 du).1;have sh:=(aM.1 fu).1;have WN:=FL.size;have hzW:=(vw.links W A1).size;have cS:=(vw.links w3 A0).size;have hVk:∀j,V0 j->j<Wk.heap.size:=λj hj=>vw.xlt j (.inr hj);have si:∀j,Si q.1 q.2 mb j->j<wk.heap.size/\j∉(jP ms).map (·.1)/\¬(cj hM V0 (hI (pJ kv k n i) V0)).X j:=by
   intro j hj;have AA:Wk.heap.size<=j->j∉(jP ms).map (·.1)/\¬(cj hM V0 (hI (pJ kv k n i) V0)).X j:=λhg=>⟨λhm=>by obtain⟨p,hp,e⟩:=bU.1 hm;have:=vw.lt p hp;omega,λhx=>by rcases hx with hx|hx;(have:=(hM _ hx).1;omega);(have:=hVk _ hx;omega)⟩;rcases hj with rfl|rfl|rfl
   ·exact⟨sf,AA eN⟩
   ·exact⟨sh,AA eQ⟩
   exact⟨by omega,λhm=>by obtain⟨p,hp,e⟩:=bU.1 hm;have:=FZ ri p hp;omega,λhx=>by rcases hx with hx|hx;(exact(hM _ hx).2.2 (.inr (.inr rfl)));(have:=pK _ hx;omega)⟩
  refine B 3 ?_;refine CJ.range2 (f:=312) (cap:=[ptr q.1 0,ptr q.2 0]) (α:=Int) (enc:=ai) (Pre:=xW (eu kv k (2*n+(i:Int)))) (Fin:=Is (eu kv k (2*n+(i:Int)))) (RO:=Si q.1 q.2 mb) (MI:=λ_=>False) rfl call312 (λW' W2 hS hB=>by have hlk:=(hS.links wk A0).size;exact ih (2*n+(i:Int)) q.1 q.2 mb m W2 zM zM (n2o h3 zM) hm (by rw[hB.block q.1 zM];exact hS.old A0 du (si _ (.inl rfl)).2.2 (bE.of_mem (si _ (.inl rfl)).2.1)) (by rw[hB.block q.2 zM];exact hS.old A0 fu (si _ (.inr (.inl rfl))).2.2 (bE.of_mem (si _ (.inr (.inl rfl))).2.1)) (by have:=(hS.links W A2).size;rw[hB.block mb zM];exact hS.old A2 iN (si _ (.inr (.inr rfl))).2.2 (bE.of_mem (si _ (.inr (.inr rfl))).2.1))) (λ_ _ _ hk=>hk.elim) (λW' hS j hj=>⟨by have:=(si j hj).1;have:=(hS.links wk A0).size;omega,(si j hj).2⟩) (λ_=>rfl) (λpre G' Hc=>∃V1:aB,(∀j,V0 j->V1 j)/\(∀j,V1 j->V0 j\/w3.heap.size<=j)/\G'=cj hM V1 (hI (pJ kv k n i++pre) V1)/\Hc=jP ms) (λc G' Hc=>c= .ret/\∃V1:aB,(∀j,V1 j->W.heap.size<=j)/\G'=cj hM V1 (hX V1)/\Hc=jP ms) ⟨V0,λ_ h=>h,λ_ h=>.inl h,by rw[dE],rfl⟩ zQ ?_ ?_ ?_
  ·rintro pre x G' Hc l Dk rec W1 M V Wy jX ov dU ⟨V1,DT,vC,rfl,rfl⟩ dr fK Dh oL bj th;simp only[ad]at dr oL;have LA:∀j,V1 j->W.heap.size<=j:=λj hj=>by rcases vC j hj with h|h;(have:=pK j h;omega);omega
   have ay:¬((cj hM V1 (hI (pJ kv k n i++pre) V1)).ext λj=>M j\/V j).X b3:=bj.z zM ay (λhm=>by obtain⟨p,hp,e⟩:=bU.1 hm;have:=FZ ri p hp;omega) (by rintro(h|h);(have:=(hM _ h).1;omega);(rcases vC _ h with h|h;(have:=pK _ h;omega);omega));have abK:∀r',bE (book (jP ms) l r' (bQ Dk)) b3:=λr'=>by unfold book;rw[ne];exact⟨Sk ri zM,by simp only[bQ,bE,and_true];omega⟩
   refine Ox ?_;refine B 3 ?_;refine rv rfl rfl rfl (aa (v:=yv l0) isAgg154 rfl A2 aC ay (abK _) rfl) ?_;refine B 1 ?_;refine LB (λj=>M j\/V j) (λG=>G.ext λj=>M j\/V j) (I2 _) (V:=V1) (λV=>hI ((pJ kv k n i++pre)++[x]) V) hX LA rfl rfl rfl rfl (λW1 rW kI=>hy (pJ kv k n i++pre) x V1 W1 (by rw[i7,nBg (by simpa using aj) zM,<-nKn];exact FY zM dU) rW kI) ?_ ?_
   ·intro V2 vD qA;have lb:=qA Wy A0;have xd:∀j,V2 j->V0 j\/w3.heap.size<=j:=λj hj=>by rcases lb j hj with h|h;exact vC j h;exact .inr (by have:=(th.links w3 A1).size;omega)
    try dsimp only
    refine B 6 ?_;refine DM (G2:=cj hM V2 (hI ((pJ kv k n i++pre)++[x]) V2)) (Hc2:=jP ms) bj fK ⟨(λj h=>h.imp id (λh=>vD j (DT j h))),(λj h=>h.elim (λh=>.inl (.inl h)) (λh=>(lb j h).imp .inr id)),(λj h=>h.elim (λh=>.inl (.inl h)) (λh=>(lb j h).imp .inr id)),(λp hp=>.inl (bU.2 ⟨p,hp,rfl⟩)),(λp hp=>.inl (bU.2 ⟨p,hp,rfl⟩))⟩ (DN jX ov) ?_;exact⟨V2,λj h=>vD j (DT j h),xd,by rw[i7],rfl⟩
   intro V2 vD qA;have lb:=qA Wy A0;have xd:∀j,V2 j->V0 j\/w3.heap.size<=j:=λj hj=>by rcases lb j hj with h|h;exact vC j h;exact .inr (by have:=(th.links w3 A1).size;omega)
   try dsimp only
   refine B 6 ?_;exact zNk
  ·rintro im l Dk rec G' Hc rfl dr fK ⟨V1,DT,vC,rfl,rfl⟩;replace dr:=yb dr;refine B 7 ?_;refine PJ.perm (WX l Dk rec ms []) ?_;refine n7j ((i+1,(l,rec,Dk)::ms),V1) ⟨by dsimp only;omega,WW dr.2.1 zM ri,λj hj=>(vC j hj).elim (pK j) id⟩ dL zR rfl (by dsimp only;rw[nUh]) z1 rfl
  rintro l Dk rec c G' Hc dr fK ⟨rfl,V1,LA,rfl,rfl⟩;replace dr:=yb dr;refine CJ.perm (WX l Dk rec ms []) ?_;refine B 6 ?_;exact Lz (ms:=(l,rec,Dk)::ms) (H0:=[]) (.inl rfl) results312 A2 LA (by intro j hj hx;obtain⟨p,hp,e⟩:=bU.1 hx;have:=FZ (n:=w3.heap.size) (ms:=(l,rec,Dk)::ms) (WW dr.2.1 zM ri) p hp;omega) (λA hA=>.inr hA)
 intro cN;refine B 4 ?_;exact Lz (ms:=ms) (H0:=[]) (.inr rfl) results312 A1 (λj hj=>by have:=pK j hj;omega) (by intro j hj hx;obtain⟨p,hp,e⟩:=bU.1 hx;have:=FZ (n:=w3.heap.size) (ms:=ms) ri p hp;omega) (λA hA=>.inl ⟨pJ kv k n i,by rw[nBg (by simpa using aj) zM,<-nKn,show i=2 by omega],hA⟩)
theorem Sl(kv:List (Int×Int)):∀k,Ly kv k
 |0=>nDo kv
 |k+1=>λn bx by_ mb m W h1 h2 h3 hm aR aH iN=>ndp (Sl kv k) n bx by_ mb m W h1 h2 h3 hm aR aH iN
end Px
