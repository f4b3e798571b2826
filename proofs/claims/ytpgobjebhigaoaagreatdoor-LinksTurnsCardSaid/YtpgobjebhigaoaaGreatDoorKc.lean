/- Contracts of functions of the program. No condition beyond those stated. -/
import Derived.Test.YtpgobjebhigaoaaGreatDoorKb
import Derived.Test.YtpgobjebhigaoaaGreatDoorProg
import Derived.Lib.RowBridge
import Derived.Test.YtpgobjebhigaoaaGreatDoorLa
set_option linter.unusedSimpArgs false
set_option linter.unusedVariables false
set_option linter.unusedSectionVars false
set_option maxRecDepth 20000
set_option maxHeartbeats 8000000
namespace Px
open Go Go.RowKit Go.Proofs Go.Proofs.Tryz
variable {C:Cx} {E:Env} {Z:Fx} {G:Gh} {H H':ad} {d:Int} {D:List Deferred} {Fin Pre:List Int->Prop} {ms:List Mk} {js:List Nat} {sp:List Value} {L:List World} {rec:Loop} {b f i j k:Nat} {RO:Nat->Prop} {W:World}
theorem R6(hZ:FxOk Z)(k:Int):0<=(Z.ge 4 k).1/\(Z.ge 4 k).1<4611686018427377339:=by
 rw[<-hZ.ge];unfold gExp;split
 ·split
  ·exact VW 4 k _ zQ
  exact⟨by decide,by decide⟩
 exact⟨by decide,by decide⟩
theorem FD(a b:Int):oR (qp a b).1:=by
 unfold qp;exact z5k
theorem FE(hZ:FxOk Z)(x:Int)(m:List UInt8):fO (lg Z x m):=by
 have:=R6 hZ (DM Z x m);unfold lg;exact⟨by omega,by omega⟩
theorem FF(Z:Fx)(x:Int)(m:List UInt8):fO (oY Z x m):=by
 have:=FD (DM Z x m) (kr (Ff Z (lg Z x m) (Z.ge 4 x).1 m) x).1;unfold oY;exact⟨by have:=this.1;omega,by have:=this.2;omega⟩
def sl (e:Int) (r s:Int):Lk:=⟨0,0,4,4,e,false,λ_=>0,r,s⟩
def Pk:Lk:=⟨0,0,4,4,1,false,λi=>if i=0 then 1 else 0,0,0⟩
theorem nth(e r s:Int)(he:fO e)(hr:fO r)(hs:fO s):cW (sl e r s):=⟨show fO 0 by decide,show fO 0 by decide,show fO 4 by decide,show fO 4 by decide,he,λ_=>show(0:Int)<=0/\(0:Int)<256 by decide,hr,hs⟩
theorem Ld:cW Pk:=⟨by decide,by decide,by decide,by decide,by decide,λi=>by unfold Pk;simp only;split<;>decide,by decide,by decide⟩
theorem sl0:nz (sl 0 0 0)=false:=by decide +kernel
theorem Le:nz (sl 1 0 0)=true:=by decide +kernel
theorem sl1(r s:Int):nz (sl 1 r s)=true:=Le
theorem aa5:nz Pk=false:=by decide +kernel
theorem R7:nz kO=false:=by decide +kernel
theorem R8:¬iG 0:=by decide
theorem Ab:iG 1:=by decide
theorem R9:iG 2:=by decide
theorem ge1(hZ:FxOk Z):(Z.ge 4 1).1=4:=by rw[<-hZ.ge,V6 Ab];decide +kernel
theorem ge2(hZ:FxOk Z):(Z.ge 4 2).1≠4:=by rw[<-hZ.ge,V6 R9];decide +kernel
def DU:Ek:=⟨λ_=>0,λ_=>0⟩
theorem aa6(Z:Fx):ym Z (sl 0 0 0) 1= .tuple #[.agg (lkC kO),.int .i64 400]:=by unfold ym;rw[if_neg (by rw[sl0];decide)]
theorem aa7(Z:Fx):ym Z (sl 1 0 0) 0= .tuple #[.agg (lkC kO),.int .i64 50]:=by unfold ym;rw[if_pos Le,if_neg R8]
theorem aa8(Z:Fx):ym Z Pk 1= .tuple #[.agg (lkC kO),.int .i64 400]:=by unfold ym;rw[if_neg (by rw[aa5];decide)]
theorem aa9(hZ:FxOk Z):∃r s,fO r/\fO s/\ym Z (sl 1 0 0) 1= .tuple #[.agg (lkC (sl 1 r s)),.int .i64 0]:=by
 refine⟨_,_,FE hZ 1 (dt (fe Z (sl 1 0 0))),FF Z 1 (dt (fe Z (sl 1 0 0))),?_⟩;unfold ym;rw[if_pos Le,if_pos Ab];rfl
theorem aba(hZ:FxOk Z)(r s:Int):o6 Z (sl 1 r s) DU 0 1 2= .tuple #[.agg (gD DT),.int .i64 400]:=by
 unfold o6;rw[if_pos ⟨sl1 r s,by decide,by decide⟩,if_pos Ab,if_pos R9,if_neg (show ¬(Z.ge 4 2).1=(sl 1 r s).pub from ge2 hZ)]
theorem abb(hZ:FxOk Z)(r s:Int):∃n r2 s2,o6 Z (sl 1 r s) DU 0 1 1= .tuple #[.agg (gD ⟨jI Z (sl 1 r s),λ_=>0,0,n,r2,s2⟩),.int .i64 0]:=by
 refine⟨wS Z DU 1,lg Z 1 (dt (se Z (uC Z (sl 1 r s) DU 0 1))),oY Z 1 (dt (se Z (uC Z (sl 1 r s) DU 0 1))),?_⟩;unfold o6;rw[if_pos ⟨sl1 r s,by decide,by decide⟩,if_pos Ab,if_pos Ab,if_pos (show(Z.ge 4 1).1=(sl 1 r s).pub from ge1 hZ)];rfl
theorem I2:jq DU.com:=λ_=>show(0:Int)<=0/\(0:Int)<256 by decide
theorem I3:jq DU.sec:=λ_=>show(0:Int)<=0/\(0:Int)<256 by decide
theorem Ac(f:Nat->Int):fE f f=true:=WO (ks:=kA 32 [.i]) (ys:=(dg f).toList) rfl
def I4:Array Value:=#[.int .i64 0,.int .u8 0,.int .u8 0,.int .u8 0,.int .u8 0,.int .u8 0,.int .u8 0,.int .u8 0,.int .u8 0,.int .u8 0,.int .u8 0,.int .u8 0,.int .u8 0,.int .u8 0,.int .u8 0,.int .u8 0,.int .u8 0,.int .u8 0,.int .u8 0,.int .u8 0,.int .u8 0,.int .u8 0,.int .u8 0,.int .u8 0,.int .u8 0,.int .u8 0,.int .u8 0,.int .u8 0,.int .u8 0,.int .u8 0,.int .u8 0,.int .u8 0,.int .u8 0,.int .i64 0,.int .i64 0,.int .i64 0,.int .i64 0,.int .i64 0,.int .i64 0,.int .u8 0,.int .u8 0,.int .u8 0,.int .u8 0,.int .u8 0,.int .u8 0,.int .u8 0,.int .u8 0,.int .u8 0,.int .u8 0,.int .u8 0,.int .u8 0,.int .u8 0,.int .u8 0,.int .u8 0,.int .u8 0,.int .u8 0,.int .u8 0,.int .u8 0,.int .u8 0,.int .u8 0,.int .u8 0,.int .u8 0,.int .u8 0,.int .u8 0,.int .u8 0,.int .u8 0,.int .u8 0,.int .u8 0,.int .u8 0,.int .u8 0,.int .u8 0,.slice none 0 0,.int .i64 0,.int .i64 0]
theorem nli(hZ:FxOk Z)(w:World)(hg:Glb w):Calls prog 6 #[] w (av w (.bool true)):=by
 have ew:=hg.lt;obtain⟨r,sg,hr,hs,hmk⟩:=aa9 hZ;obtain⟨vy,RU⟩:∃f,jI Z (sl 1 r sg)=f:=⟨_,rfl⟩;obtain⟨fn,fr_,fs_,hfa⟩:=abb hZ r sg;rw[RU]at hfa;refine enter (vs:=[]) func6 rfl ntmps6 rfl ?_;refine B 7 ?_;refine rr (.agg (dg (sl 0 0 0).par)) (qD underlying34 zeroValue34 sizeOf5 rfl rfl) ?_;refine call call15 rfl rfl rfl (λW hS=>by have:=WM hZ (sl 0 0 0) (nth 0 0 0 zQ zQ zQ) rfl rfl 1 W (hg.old hS z1 zU zP);rw[aa6]at this;exact this) (v:=.tuple #[.agg (lkC kO),.int .i64 400]) ?_;refine WQ ?_;refine yW ?_;intro b1 eb ir;refine WR ?_;refine B 5 ?_;refine zIh ?_;refine call call15 rfl rfl rfl (λW hS=>by have:=WM hZ (sl 1 0 0) (nth 1 0 0 zQ zQ zQ) rfl rfl 0 W (hg.old hS z1 zU zP);rw[aa7]at this;exact this) (v:=.tuple #[.agg (lkC kO),.int .i64 50]) ?_;refine WQ ?_;refine yW ?_;intro b3 bY cR;refine WR ?_;refine B 5 ?_;refine zIh ?_;refine call call15 rfl rfl rfl (λW hS=>by have:=WM hZ (sl 1 0 0) (nth 1 0 0 zQ zQ zQ) rfl rfl 1 W (hg.old hS z1 zU zP);rw[hmk]at this;exact this) (v:=.tuple #[.agg (lkC (sl 1 r sg)),.int .i64 0]) ?_;refine WQ ?_;refine yW ?_;intro b5 iu iv;refine WR ?_;refine B 5 ?_;refine rr (.agg (dg Pk.par)) (qD underlying34 zeroValue34 sizeOf5 rfl rfl) ?_;refine call call15 rfl rfl rfl (λW hS=>by have:=WM hZ Pk Ld rfl rfl 1 W (hg.old hS z1 zU zP);rw[aa8]at this;exact this) (v:=.tuple #[.agg (lkC kO),.int .i64 400]) ?_
 refine WQ ?_;refine yW ?_;intro b7 fu lG;refine WR ?_;refine B 5 ?_;refine rr (.agg R3) (bL underlying31 zeroValue31 (bA.c sizeOf22 (bA.c sizeOf23 (bA.c sizeOf24 (bA.c sizeOf25 (bA.c sizeOf26 (bA.c sizeOf27 (bA.c sizeOf28 (bA.c sizeOf29 (bA.n))))))))) rfl rfl) ?_;refine rr (.agg (lkC kO)) (bL underlying38 zeroValue38 (bA.c sizeOf3 (bA.c sizeOf3 (bA.c sizeOf3 (bA.c sizeOf3 (bA.c sizeOf3 (bA.c sizeOf4 (bA.c sizeOf34 (bA.c sizeOf36 (bA.n))))))))) rfl rfl) ?_;refine rr (.agg I4) (bL underlying66 zeroValue66 (bA.c sizeOf3 (bA.c sizeOf34 (bA.c sizeOf3 (bA.c sizeOf3 (bA.c sizeOf3 (bA.c sizeOf3 (bA.c sizeOf63 (bA.c sizeOf64 (bA.c sizeOf36 (bA.n)))))))))) rfl rfl) ?_;refine call call14 rfl rfl rfl (λW hS=>R5 kO (.inl R7) I4 W) ?_;refine B 3 ?_;refine Lc ?_;refine yW ?_;intro b9 qt EN;refine aV (i:=0) rfl sizeOf63 rfl rfl rfl rfl rfl rfl ?_;refine B 5 ?_;refine rr (.agg (lkC (sl 1 r sg))) (aK (i:=2) rfl isAgg38 sizeOf38 rfl rfl) ?_;refine zjh ?_;refine call call16 rfl rfl rfl (λW hS=>by have:=njh hZ (sl 1 r sg) (nth 1 r sg zQ hr hs) DU I2 I3 0 1 2 W zQ (hg.old hS z1 zU zP);rw[aba hZ]at this;exact this) (v:=.tuple #[.agg (gD DT),.int .i64 400]) ?_;refine B 3 ?_;refine aY zeroValue59 rfl rfl ?_;refine yW ?_;intro rA EV EW;refine RY ?_;refine B 5 ?_;refine rr (.agg (lkC (sl 1 r sg))) (aK (i:=3) rfl isAgg38 sizeOf38 rfl rfl) ?_
 refine zjh ?_;refine call call16 rfl rfl rfl (λW hS=>by have:=njh hZ (sl 1 r sg) (nth 1 r sg zQ hr hs) DU I2 I3 0 1 1 W zQ (hg.old hS z1 zU zP);rw[hfa]at this;exact this) (v:=.tuple #[.agg (gD ⟨vy,λ_=>0,0,fn,fr_,fs_⟩),.int .i64 0]) ?_;refine B 3 ?_;refine aY zeroValue59 rfl rfl ?_;refine yW ?_;intro b13 E2 KI;refine RY ?_;refine B 5 ?_;refine call call17 rfl rfl rfl (λW hS=>nCj 0 R8 W) ?_;refine B 8 ?_;refine ng (E':=[(0,_),(1,_),(2,_),(3,_),(4,_),(5,_),(6,_),(7,_),(8,_),(9,_),(10,_),(11,_),(12,_),(13,_),(14,_),(16,_),(17,_),(18,_),(19,_),(20,_),(21,_),(22,_),(23,_),(24,_),(25,_),(26,_),(27,_),(28,_),(29,_),(30,_),(31,_),(32,_),(33,_),(34,_),(35,_),(36,_),(37,_),(38,_),(39,_),(40,_),(41,_),(42,_),(43,_),(44,_),(45,_),(46,_),(47,_),(48,_),(49,_),(50,_),(51,_),(52,_),(53,_),(54,_),(55,_),(56,_),(57,_),(58,_),(59,_)]) zR ?_;refine nk 58 ((.det [] _)::(.det [0] _)::(.det [1] _)::(.det [2] _)::(.det [2] _)::(.det [2,3,4] _)::(.det [2,5] _)::(.det [6] _)::(.det [7] _)::(.det [7,8] _)::(.det [7,9] _)::(.det [10] _)::(.det [11] _)::(.det [11,12] _)::(.det [11,13] _)::(.det [14] _)::(.det [15] _)::(.det [15,16] _)::(.det [15,17] _)::(.det [18] _)::(.det [19] _)::(.det [19,20] _)::(.det [19,21] _)::(.det [22] _)::(.det [23] _)::(.det [23,24] _)::(.det [23,25] _)::(.det [26] _)::(.det [27] _)::(.det [27,28] _)::(.det [27,29] _)::(.det [30] _)::(.det [31] _)::(.det [31,32] _)::(.det [31] _)::(.det [31,34] (.agg (dg vy)))::(.det [31,33,35] _)::(.det [31,36] _)::(.det [37] _)::(.det [38] _)::(.det [38,39] _)::(.det [38,40] _)::(.det [38,41] _)::(.det [42] _)::(.det [43] _)::(.det [43] _)::(.det [43,44,45] _)::(.det [43,46] _)::(.det [43,47] _)::(.det [48] _)::(.det [49] _)::(.det [49] _)::(.det [49,50,51] _)::(.det [49,52] _)::(.det [49,53] _)::(.det [54] _)::(.det [55] _)::(.det [55] _)::[]) zT (xc zO (xc I5 (xc zO (xc zO (xc zO (xc I5 (xc z6 (xc zO (xc zO (xc (by exact λae=>X.val rfl rfl (RV.re (v':=.bool true) (bM rfl rfl) rfl) (λ_ _=>rfl)) (xc z6 (xc zO (xc zO (xc I5 (xc z6 (xc zO (xc zO (xc I5 (xc z6 (xc zO (xc zO (xc I5 (xc z6 (xc zO (xc zO (xc I5 (xc z6 (xc zO (xc zO (xc I5 (xc z6 (xc zO (xc (by exact λae=>X.val rfl rfl (ak underlying59 rfl sizeOf34 rfl) (λ_ _=>rfl)) (xc (by exact λae=>X.val rfl rfl (RV.re (v':=.agg (dg vy)) (cN (i:=0) rfl isAgg34 sizeOf34 rfl (aT rfl)) (rfl)) (λ_ _=>rfl)) (xc z2b (xc (by exact λae=>nf call13 rfl rfl (λW hS _=>by rw[<-RU];exact n1f hZ (sl 1 r sg) (nth 1 r sg zQ hr hs) W (hg.old hS z1 zU zP)) (λ_=>rfl)) (xc (by exact λae=>X.val rfl rfl (RV.re (v':=.bool true) (fF uB zQ nX rfl rfl rfl) (congrArg Value.bool (Ac vy))) (λ_ _=>rfl)) (xc z6 (xc zO (xc uA (xc (by exact λae=>X.val rfl rfl (aH (i:=4) rfl isAgg3 rfl rfl) (λ_ _=>rfl)) (xc I5 (xc z6 (xc zO (xc zCb (xc z2b (xc (by exact λae=>nf call9 rfl rfl (λW hS _=>nfk (sl 1 r sg) (.inr (show(0:Int)≠ -1 by decide)) W) (λ_=>rfl)) (xc zrc (xc z6 (xc zO (xc zCb (xc (by exact λae=>X.val rfl rfl (RV.re (v':=.agg (lkC kO)) (bL underlying38 zeroValue38 (bA.c sizeOf3 (bA.c sizeOf3 (bA.c sizeOf3 (bA.c sizeOf3 (bA.c sizeOf3 (bA.c sizeOf4 (bA.c sizeOf34 (bA.c sizeOf36 (bA.n))))))))) rfl rfl) (rfl)) (λ_ _=>rfl)) (xc (by exact λae=>nf call9 rfl rfl (λW hS _=>nfk kO (.inl R7) W) (λ_=>rfl)) (xc zrc (xc z6 (xc zO (xc zCb (xc z2b (xn))))))))))))))))))))))))))))))))))))))))))))))))))))))))))) zT zT zT (λae=>?_)
 refine call call8 rfl rfl rfl (λW hS=>Lb (sl 1 r sg) (.inr (show(0:Int)≠ -1 by decide)) W) ?_;refine B 1 ?_;refine rr (.bool true) (cM rfl rfl) ?_;refine B 5 ?_;refine bG (.inl rfl) results6 (RS.t rfl (RS.n)) A0 zS ?_;rfl

def sh (a b:Int):Int×Int:=if cE a/\cE b then(a*b%4611686018427377339,0)else(0,40)
theorem nxn{a b:Int}(h:¬(cE a/\cE b)):sh a b=(0,40):=by unfold sh;rw[if_neg h]
theorem nnn{a b:Int}(ha:cE a)(hb:cE b):sh a b=(a*b%4611686018427377339,0):=by unfold sh;rw[if_pos ⟨ha,hb⟩]
theorem Pm{x:Int}(h:¬(if cE x then(0:Int)else 40)=0):¬cE x:=λg=>h (if_pos g)
theorem WS{x:Int}(h:(if cE x then(0:Int)else 40)=0):cE x:=Decidable.byContradiction λg=>by rw[if_neg g]at h;exact absurd h zQ
def DV (a b:Int) (j:Nat):Int:=match j with|0=>a|_=>b
theorem Ad(a b:Int)(j:Nat)(h:j<2):(#[.int .i64 a,.int .i64 b]:Array Value)[j]? =some (.int .i64 (DV a b j)):=by
 match j,h with
 |0,_=>rfl
 |1,_=>rfl
theorem n0o(a b:Int)(w:World):Calls prog 120 #[.int .i64 a,.int .i64 b] w (av w (lQ (sh a b))):=by
 refine enter (vs:=[_,_]) func120 rfl ntmps120 rfl ?_;refine B 11 ?_;refine rv rfl rfl rfl (uD underlying292 zeroValue292 sizeOf3 rfl rfl rfl rfl) ?_;refine B 4 ?_;refine CJ.loop (α:=Nat) (λj=>[(0,.int .i64 a),(1,.int .i64 b),(11,.agg #[.int .i64 a,.int .i64 b]),(12,.int .i64 (j:Int))]) (λj=>[]) (λj=>[w]) (λj=>Gh.no) (λj=>j<=2/\(1<=j->cE a)/\(2<=j->cE b)) (λj=>2-j) 0 ⟨by omega,λh=>absurd h zM,λh=>absurd h zM⟩ zR rfl rfl z1 ?_;rintro j ⟨hj,FG,abf⟩;refine B 6 ?_;refine aO ?_ ?_
 ·intro aj;refine B 6 ?_;refine rq (.int .i64 (DV a b j)) (qm underlying292 isAgg3 sizeOf3 rfl rfl zM zM (by rw[uk];exact Ad a b _ zM)) (congrArg (λk=>Value.int .i64 (DV a b k)) zM) ?_;refine B 6 ?_;obtain⟨e,he⟩:∃e,(if cE (DV a b j)then(0:Int)else 40)=e:=⟨_,rfl⟩;refine WT ?_;refine B 9 ?_;refine aO ?_ ?_
  ·intro aQ;refine B 13 ?_;refine nS results120 rfl rfl A0 ?_ ?_
   ·exact vi (by rw[nxn (λg=>by match j,he with|0,he=>exact Pm (x:=DV a b 0) FH g.1|j+1,he=>exact Pm (x:=DV a b (j+1)) FH g.2)])
   exact vi (by rw[nxn (λg=>by match j,he with|0,he=>exact Pm (x:=DV a b 0) FH g.1|j+1,he=>exact Pm (x:=DV a b (j+1)) FH g.2),<-he];exact if_neg (Pm FH))
  intro aQ;refine B 7 ?_;refine PJ.again (j+1) ⟨by omega,λ_=>by match j,FG,he with|0,_,he=>exact WS (x:=DV a b 0) FH|j+1,FG,_=>exact FG zM,λh=>by match j,hj,he with|0,_,_=>exact absurd h zM|1,_,he=>exact WS (x:=DV a b 1) FH|j+2,hj,_=>exact absurd aj zM⟩ zM zR rfl rfl z1
 intro aj;refine B 6 ?_;have hj2:j=2:=by omega
 have WU:=FG zM;have QN:=abf zM;have eb:=WU.1;have cA:=WU.2.1;have aP:=QN.1;have aI:=QN.2.1;have tX:=Int.emod_nonneg (a*b) (b:=4611686018427377339) zQ;have aX:=Int.emod_lt_of_pos (a*b) (b:=4611686018427377339) zQ;refine B 5 ?_;refine call call173 rfl rfl rfl (λW hS=>Zh a b zM zM zM zM W) ?_;refine B 6 ?_;refine nS results120 rfl rfl A0 ?_ ?_
 ·exact vi (by rw[nnn WU QN])
 exact vi (by rw[nnn WU QN])
def Sa:List TK:=kA 3 [.i]
theorem eqA214:tz prog 2 214 Sa:=tz.array underlying214 sizeOf67 rfl ((lR.int underlying67 isAgg67).up zQ:lR prog 1 67 [.i])
theorem Lf:prog.eqGuardType prog.depth 214=false:=by kernel_rfl
def kB (Z:Fx) (p:Int) (msg:List UInt8) (r s:Int):Bool:=decide (cE p/\cE r/\oR s/\(Z.ge 4 s).1=(sh r (Z.ge p (Ff Z r p msg)).1).1)
theorem nWn{x e:Int}(h:(if cE x then(0:Int)else 40)=e):e=0↔cE x:=⟨λg=>WS (h.trans g),λg=>by rw[<-h,if_pos g]⟩
theorem Ae{x e:Int}(h:(if jO x then(1:Int)else 0)=e):e=0↔oR x:=by
 subst h;by_cases g:oR x
 ·rw[VZ.2 g];exact⟨λ_=>g,λ_=>rfl⟩
 rw[V3.2 g];exact⟨λh=>absurd h zQ,λh=>absurd h g⟩
theorem FI{p r s e1 e2 e3:Int}{msg:List UInt8}(h1:e1=0↔cE p)(h2:e2=0↔cE r)(h3:e3=0↔oR s)(h:¬(e1=0/\e2=0/\e3=0)):Value.bool false= .bool (kB Z p msg r s):=by
 refine vb (decide_eq_false ?_).symm;rintro⟨g1,g2,g3,_⟩;exact h ⟨h1.2 g1,h2.2 g2,h3.2 g3⟩
theorem Af{p r s e1 e2 e3 e:Int}{msg:List UInt8}{m:Int×Int}(h1:e1=0↔cE p)(h2:e2=0↔cE r)(h3:e3=0↔oR s)(h:e1=0/\e2=0/\e3=0)(he:Ff Z r p msg=e)(hm:sh r (Z.ge p e).1=m):Value.bool (decide ((Z.ge 4 s).1=m.1))= .bool (kB Z p msg r s):=by
 subst he;subst hm;refine vb (decide_eq_decide.2 ?_);exact⟨λg=>⟨h1.1 h.1,h2.1 h.2.1,h3.1 h.2.2,g⟩,λg=>g.2.2.2⟩
theorem abh(hZ:FxOk Z)(a k:Int)(w:World):Calls prog 62 #[.int .i64 a,.int .i64 k] w (av w (lQ (Z.ge a k))):=by
 rw[<-hZ.ge];exact Zp a k w
theorem eq3(a b c:Int):(!lS [.int .i64 a,.int .i64 b,.int .i64 c] [.int .i64 0,.int .i64 0,.int .i64 0])=decide (¬(a=0/\b=0/\c=0)):=by
 simp only[lS,Pn,Bool.and_true];by_cases h1:a=0<;>by_cases h2:b=0<;>by_cases h3:c=0<;>simp[h1,h2,h3]
theorem Po(hZ:FxOk Z)(p r s:Int)(msg:List UInt8)(bm om cm:Nat)(rB:msg.length<=100000000000)(w:World)(lf:cG w bm om msg)(hg:Glb w):Calls prog 78 #[.int .i64 p,.slice (some ⟨bm,om,none⟩) msg.length cm,.agg #[.int .i64 r,.int .i64 s]] w (av w (.bool (kB Z p msg r s))):=by
 have Rm:=lf.lt;obtain⟨e1,si⟩:∃e,(if cE p then(0:Int)else 40)=e:=⟨_,rfl⟩;obtain⟨e2,Ag⟩:∃e,(if cE r then(0:Int)else 40)=e:=⟨_,rfl⟩;obtain⟨e,he⟩:∃e,Ff Z r p msg=e:=⟨_,rfl⟩;obtain⟨m,hm⟩:∃m,sh r (Z.ge p e).1=m:=⟨_,rfl⟩;have wT:=nWn si;have DW:=nWn Ag;have ew:=hg.lt;obtain⟨e3,he3⟩:∃e,(if jO s then(1:Int)else 0)=e:=⟨_,rfl⟩;have hi3:=Ae he3;refine enter (vs:=[_,_,_]) func78 rfl ntmps78 rfl ?_;refine B 2 ?_;refine yX ?_;intro b5 w5 ff gd rF iu iv;refine B 4 ?_;refine ng (E':=[(0,_),(1,_),(2,_),(5,_),(6,_)]) zR ?_;refine nK 10 [9] [([],some _),([0],some (.int .i64 e1)),([],some _),([2],some (.int .i64 r)),([3],some (.int .i64 e2)),([],some _),([5],some (.int .i64 s)),([6],some (.int .i64 e3)),([1,4,7],some (.agg #[.int .i64 e1,.int .i64 e2,.int .i64 e3])),([],none)] (λcv L' H'=>match cv with| []=>L'=[w5,w]/\H'=[]| [v1]=>∃(b7:Nat),v1=ptr b7 0/\L'=[w5,w]/\H'=[(b7,.cells #[.int .i64 0,.int .i64 0,.int .i64 0] 214 (0,0))]/\(w5.heap.size<=b7/\w.heap.size<=b7)|_=>False) zT ⟨rfl,rfl⟩ zT zT zT zT zT zT (pc zW (pc (by exact λcv L' H' hd hP=>nf call63 rfl rfl (λW hS _=>by rw[<-si];exact nE p W) (λ_=>rfl)) (pc KV (pc zco (pc (by exact λcv L' H' hd hP=>nf call63 rfl rfl (λW hS _=>by rw[<-Ag];exact nE r W) (λ_=>rfl)) (pc KV (pc zco (pc (by exact λcv L' H' hd hP=>nf call119 rfl rfl (λW hS _=>by rw[<-he3];exact nNm s W) (λ_=>rfl)) (pc (by exact λcv L' H' hd hP=>X.val rfl rfl (uD underlying214 zeroValue214 sizeOf67 rfl rfl rfl rfl) R2) (pk (pn))))))))))) ?_ ?_
 ·refine sc rfl rfl rfl ?_ ?_
  ·intro cv L' H' hl hP F Q' hk;obtain rfl:=jt hl;obtain⟨rfl,rfl⟩:=hP;refine aY zeroValue214 rfl rfl ?_;intro b7 ha ho;exact OJ.done (hk _ _ _ ⟨b7,rfl,rfl,rfl,⟨ha.1,ha.2.1⟩⟩)
  exact sn
 intro cv L' H' hl hP;obtain⟨v1,rfl⟩:=di hl;obtain⟨b7,rfl,rfl,rfl,fu⟩:=hP;refine aV (i:=0) rfl sizeOf214 rfl rfl rfl rfl rfl rfl ?_;refine B 7 ?_;refine rq (.bool (decide (¬(e1=0/\e2=0/\e3=0)))) (jR eqA214 zQ Lf rfl rfl rfl) (vb (eq3 e1 e2 e3)) ?_;refine B 2 ?_;refine aO ?_ ?_
 ·intro aj;refine B 7 ?_;refine bG (.inl rfl) results78 (RS.t rfl (RS.n)) A1 zS ?_;exact FI wT DW hi3 (by simpa using aj)
 intro aj;refine B 6 ?_;refine call call65 rfl rfl rfl (λW hS=>IK hZ _ W) ?_;refine B 14 ?_;refine EI ?_;refine yV ?_;intro b38 w38 abi abj ahr ahs aht;refine call call64 rfl rfl rfl (λW hS=>nui hZ r p e msg he rB bm om cm b38 _ _ _ W (lf.old hS A2 zZ (by first|exact True.intro|(simp only[bE,dC,fk,qx,rV,ne_eq,and_true];omega))) (hS.old A0 abi abj (by first|exact True.intro|(simp only[bE,dC,fk,qx,rV,ne_eq,and_true];omega))) (hg.old hS A2 zU zP)) ?_;refine call call62 rfl rfl rfl (λW hS=>abh hZ p e W) ?_;refine B 12 ?_;refine call call120 rfl rfl rfl (λW hS=>by rw[<-hm];exact n0o _ _ W) (v:=lQ m) ?_;refine B 16 ?_;refine bG (.inl rfl) results78 (RS.t rfl (RS.n)) A2 zS ?_;exact Af wT DW hi3 (by simpa using aj) he hm
def lh (n:Nat):List Nat:=if h:1<n then n::lh (n/2)else[]
termination_by n
decreasing_by omega
theorem Sb{n:Nat}(h:1<n):lh n=n::lh (n/2):=by rw[lh,dif_pos h]
theorem WV{n:Nat}(h:¬1<n):lh n=[]:=by rw[lh,dif_neg h]
theorem n5m(n:Nat):(lh n).length<=n:=by
 induction n using Nat.strongRecOn with
 |ind n ih=>
  by_cases h:1<n
  ·rw[Sb h,ec];have:=ih (n/2) zM;omega
  rw[WV h];simp
theorem FJ{n:Nat}:∀x∈lh n,1<x/\x<=n:=by
 induction n using Nat.strongRecOn with
 |ind n ih=>
  intro x hx;by_cases h:1<n
  ·rw[Sb h]at hx;rcases cP.1 hx with rfl|hx
   ·exact⟨h,ao _⟩
   have:=ih (n/2) zM x hx;omega
  rw[WV h]at hx;simp at hx
def qE (n:Nat):Nat:=n/2
def uE (n:Nat):Nat:=n^^^1
theorem FK(n:Nat)(h:n<4611686018427387904):IntKind.i64.wrap ((BitVec.ofInt 64 (n:Int)^^^BitVec.ofInt 64 1).toNat:Int)=((uE n:Nat):Int):=by
 have h1:n^^^1<2^62:=Nat.xor_lt_two_pow zM zQ;have e1:(BitVec.ofInt 64 (n:Int))=BitVec.ofNat 64 n:=by simp
 have e2:(BitVec.ofInt 64 1)=BitVec.ofNat 64 1:=rfl;rw[e1,e2,BitVec.toNat_xor,BitVec.toNat_ofNat,BitVec.toNat_ofNat,Nat.mod_eq_of_lt (a:=n) zM];show IntKind.i64.wrap ((n^^^1:Nat):Int)=((n^^^1:Nat):Int);generalize n^^^1=m at *;simp[IntKind.wrap,IntKind.bits,IntKind.signed];omega
abbrev dV (d:Int):Prop:=0<=d/\d<512
theorem Sd:prog.info? 3=some Tryz.t3:=by kernel_rfl
theorem FL:lT prog 44 3 1:=⟨underlying44,Tryz.t3,.int .i64 0,Sd,rfl,rfl,rfl,by decide⟩
theorem n0n(d:Int)(h:dV d)(w:World):Calls prog 310 #[.int .i64 d] w (av w (.tuple #[.int .i64 (512+d),.int .i64 0])):=by
 have h1:=h.1;have h2:=h.2;refine enter (vs:=[_]) func310 rfl ntmps310 rfl ?_;refine B 10 ?_;refine wD ?_;refine B 2 ?_;refine Pp ?_;refine B 15 ?_;refine nS results310 rfl rfl A0 ?_ ?_;all_goals rfl
theorem DX(d:Int)(h:¬dV d)(w:World):Calls prog 310 #[.int .i64 d] w (av w (.tuple #[.int .i64 0,.int .i64 200])):=by
 refine enter (vs:=[_]) func310 rfl ntmps310 rfl ?_;refine B 12 ?_;refine nh (t:=6) rfl (λaj=>?_) (λaj=>?_)
 ·replace aj:=ya aj;refine B 14 ?_;exact z5j
 replace aj:=ya aj;refine B 5 ?_;refine aO ?_ ?_
 ·intro aQ;refine B 8 ?_;exact z5j
 intro aQ;refine B 11 ?_;exact z5j
theorem nMh(n:Nat)(h:n<4611686018427387904)(w:World):Calls prog 291 #[.int .i64 (n:Int)] w (av w (.int .i64 ((qE n:Nat):Int))):=by
 refine enter (vs:=[_]) func291 rfl ntmps291 rfl ?_;refine B 8 ?_;refine rv rfl rfl rfl (Lg rfl rfl zM zM zM) ?_;refine B 4 ?_;refine ay results291 rfl A0 ?_;exact vi (by unfold qE;omega)
theorem nVl(n:Nat)(h:n<4611686018427387904)(w:World):Calls prog 292 #[.int .i64 (n:Int)] w (av w (.int .i64 ((uE n:Nat):Int))):=by
 refine enter (vs:=[_]) func292 rfl ntmps292 rfl ?_;refine B 8 ?_;refine rq (.int .i64 ((uE n:Nat):Int)) (uo rfl rfl) (vi (FK n h)) ?_;refine B 4 ?_;refine ay results292 rfl A0 ?_;rfl
theorem Ah(n:Nat)(w:World):Calls prog 311 #[.int .i64 (n:Int)] w (cu w (λb:Nat=>.func (.func 318) #[] #[ptr b 0]) (λb w1=>w.heap.size<=b/\True/\w1.heap[b]? =some (.cells #[.int .i64 (n:Int)] 384 (0,0)))):=by
 refine enter (vs:=[_]) func311 rfl ntmps311 rfl ?_;refine B 2 ?_;refine yX ?_;intro b1 w1 aP aX fW eb ir;refine B 10 ?_;refine jM b1 results311 rfl A1 rfl ?_;exact λW hS=>⟨eb.1,True.intro,hS.old A0 aP aX trivial⟩
theorem FM(n:Nat)(hn:n<4611686018427387904)(b:Nat)(W:World)(aP:W.heap[b]? =some (.cells #[.int .i64 (n:Int)] 384 (0,0))):vz prog 318 [ptr b 0] (λm:Nat=>[.int .i64 (m:Int)]) (yn (lh n)) (Is (lh n)) (λk=>k=b) (λ_=>False) W:=by
 intro l M I X0 hM hI hX hy h0;refine nM (cj hM (λ_=>False) (hI [] _)) [(b,.cells #[.int .i64 (n:Int)] 384 (0,0))] (vs:=[_,_]) func318 rfl ntmps318 rfl (I6 hM (hI [] _) h0 (by intro p hp;simp at hp;subst hp;exact aP) (Ry _) z1) ?_;refine B 1 ?_;refine CJ.loop (α:=(List Nat×Nat)×aA) (λp=>[(0,yv l),(1,ptr b 0)]) (λp=>[(b,.cells #[.int .i64 (p.1.2:Int)] 384 (0,0))]) (λp=>[W]) (λp=>cj hM p.2 (hI p.1.1 p.2)) (λp=>p.1.1++lh p.1.2=lh n/\p.1.2<=n/\∀k,p.2 k->W.heap.size<=k) (λp=>p.1.2) (([],n),λ_=>False) ⟨rfl,ao _,λ_ h=>h.elim⟩ ⟨rfl,rfl,trivial⟩ rfl rfl z1 ?_;rintro⟨⟨pre,m⟩,V⟩ ⟨tB,hmn,hV⟩;dsimp only at tB hmn hV ⊢;refine B 6 ?_;refine nh (t:=5) rfl (λaj=>?_) (λaj=>?_)
 ·replace aj:=ya aj;refine B 2 ?_;refine FN (λV=>hI (pre++[m]) V) hX hV z1 rfl rfl rfl rfl (λW1 sj kP=>hy (pre) (m) V W1 ⟨lh (m/2),by rw[iH,<-tB,Sb (n:=m) zM];rfl⟩ sj kP) ?_ ?_
  ·intro V hV;refine B 13 ?_;refine call call291 rfl rfl rfl (λW hS=>nMh m zM W) ?_;refine kq (i:=0) rfl sizeOf384 rfl rfl rfl rfl (aT rfl) rfl ?_;refine B 1 ?_;refine PJ.again ((pre++[m],qE m),V) ⟨by dsimp only;rw[<-tB,Sb (n:=m) zM,iH];rfl,by dsimp only[qE];omega,hV⟩ (by dsimp only[qE];omega) ⟨rfl,rfl,trivial⟩ rfl rfl z1
  intro V hV;refine B 8 ?_;exact FO (.inr rfl) results318 A0 hV z1 (λA hA=>.inr hA)
 replace aj:=ya aj;refine B 11 ?_;exact FO (.inr rfl) results318 A0 hV z1 (λA hA=>.inl ⟨pre,by rw[<-tB,WV zM,dN],hA⟩)
theorem n5o(fo:Nat->Nat)(pre:List Nat)(x:Nat):(pre++[x]).map (λn=>((fo n:Nat):Int))=pre.map (λn=>((fo n:Nat):Int))++[((fo x:Nat):Int)]:=by simp
theorem nRh(fo:Nat->Nat)(g:Nat)(ax:dU prog g)(Pq:∀(n:Nat) (w:World),n<4611686018427387904->Calls prog g #[.int .i64 (n:Int)] w (av w (.int .i64 ((fo n:Nat):Int))))(d:Int)(kk:Nat)(Lh:512+d=(kk:Int))(hd:dV d)(w:World):Calls prog 290 #[.int .i64 d,.func (.func g) #[] #[]] w (nB w ai 1 3 (List.map (λn=>((fo n:Nat):Int)) (lh kk)) (λs=>.tuple #[s,.int .i64 0])):=by
 have hd1:=hd.1;have Ai:=hd.2;have hul:=n5m kk;refine wy Gh.no [] (vs:=[_,_]) func290 rfl ntmps290 rfl (rR w) ?_;refine B 2 ?_;refine yX ?_;intro b3 w3 aJ aD dr bY cR;refine aY zeroValue44 rfl rfl ?_;refine yW ?_;intro b4 dD dH;refine B 6 ?_;refine call call310 rfl rfl rfl (λW hS=>by rw[<-Lh];exact n0n d hd W) (v:=.tuple #[.int .i64 (kk:Int),.int .i64 0]) ?_;refine B 11 ?_;refine yk ?_;refine B 9 ?_;refine Wa (α:=Nat) (v:=λb=>.func (.func 318) #[] #[ptr b 0]) (bo:=λb=>(b,.cells #[.int .i64 (kk:Int)] 384 (0,0))) (Φ:=λ_=>True) call311 rfl rfl rfl (λW hS=>Ah kk W) ?_;intro bu pL o7 _;dsimp only at pL o7 ⊢;replace pL:=yb pL;simp only[bE,and_true]at o7;refine B 3 ?_;refine n5n (f:=318) (cap:=[ptr bu 0]) (α:=Nat) (enc:=(λm:Nat=>[.int .i64 (m:Int)])) (Pre:=yn (lh kk)) (Fin:=Is (lh kk)) (RO:=λ_=>False) (i:=0) (b:=bu) (o:=.cells #[.int .i64 (kk:Int)] 384 (0,0)) (H:=[(b4,.cells #[.slice none 0 0] 44 (0,0))]) rfl rfl zX zZ rfl call318 (λW W2 hS fG hB=>FM kk zM bu W2 (by rw[hB.block bu (aL.1 fG).1];exact fG)) (λ_ _ _ hk=>hk.elim) (λ_=>rfl) (λpre G' Hc=>G'=Gh.no/\∃r:Rw,r.Fr Gh.no [w3,w]/\r.Fit 1 (List.map (λn=>((fo n:Nat):Int)) pre)/\Hc=[(b4,.cells #[r.val (List.map (λn=>((fo n:Nat):Int)) pre).length] 44 (0,0))]++(r.hp ai 3 (List.map (λn=>((fo n:Nat):Int)) pre)++[])) (λ_ _ _=>False) ⟨rfl,.nil,True.intro,rfl,rfl⟩ zQ ?_ ?_ ?_
 ·rintro pre x G' Hc l Dk rec W1 M V Wy iM mz dF ⟨rfl,r,bH,al,rfl⟩ cQ eW yP mQ aW sk;simp only[ab]at cQ mQ;have cO:r.ge w3.heap.size:=Rw.ge_of bH A0;have aD:=aW.z (k:=b3) zM zZ kh zZ;have WW:=FJ x (dF.subset z1);have hpl:=dF.length_le;simp only[cC,ec,lF]at hpl;have Se:∀p∈r.hp ai 3 (List.map (λn=>((fo n:Nat):Int)) pre),M p.1\/V p.1:=λp hp=>aW.loc.h p Sf;refine OR ?_;refine B 1 ?_;refine ng (E':=[(0,_),(1,_),(3,_),(4,_),(5,_),(6,_),(7,_),(8,_),(9,_),(10,_),(11,_),(12,_),(13,_),(14,_),(16,_),(17,_),(18,_)]) zR ?_;refine nK 5 [4] [([],some _),([],some _),([],some _),([1,2],some _),([3],none)] (λcv L' H'=>match cv with| []=>L'=[Wy,w3,w]/\H'=book ([(b4,.cells #[r.val (List.map (λn=>((fo n:Nat):Int)) pre).length] 44 (0,0))]++(r.hp ai 3 (List.map (λn=>((fo n:Nat):Int)) pre)++[])) l {rec with state:=.busy} (bQ Dk)| [v1]=>∃(DN:Nat) (DO:World),v1= .slice (some ⟨DN,0,none⟩) 1 1/\L'=[DO,Wy,w3,w]/\H'=book ([(b4,.cells #[r.val (List.map (λn=>((fo n:Nat):Int)) pre).length] 44 (0,0))]++(r.hp ai 3 (List.map (λn=>((fo n:Nat):Int)) pre)++[])) l {rec with state:=.busy} (bQ Dk)/\DO.heap[DN]? =some (.cells #[.int .i64 ((fo x:Nat):Int)] 3 (0,0))/\bE (book ([(b4,.cells #[r.val (List.map (λn=>((fo n:Nat):Int)) pre).length] 44 (0,0))]++(r.hp ai 3 (List.map (λn=>((fo n:Nat):Int)) pre)++[])) l {rec with state:=.busy} (bQ Dk)) DN/\¬(Gh.no.ext λk=>M k\/V k).X DN|_=>False) zT ⟨rfl,rfl⟩ zT zT zT zT zT zT (pc zcp (pc zcp (pc zW (pc (by exact λcv L' H' hd hP=>nNn (first:=[]) (cap:=[]) rfl ax rfl rfl (λW hS _=>Pq x W zM) (λ_=>rfl)) (pk (pn)))))) ?_ ?_
  ·refine sc rfl rfl rfl ?_ ?_
   ·intro cv L' H' hl hP F Q' hk;obtain rfl:=jt hl;obtain⟨rfl,rfl⟩:=hP;refine EI ?_;intro DN DO hb ha ho hm hz;exact OJ.done (hk _ _ _ ⟨DN,DO,rfl,rfl,rfl,hb,ho,hm⟩)
   exact sn
  intro cv L' H' hl hP;obtain⟨v1,rfl⟩:=di hl;obtain⟨DN,DO,rfl,rfl,rfl,Fi,KU,Fj⟩:=hP;refine o8 (r:=r) (xs:=(List.map (λn=>((fo n:Nat):Int)) pre)) (zs:=[((fo x:Nat):Int)]) (enc:=ai) (m:=1) (H0:=[(b4,.cells #[r.val (List.map (λn=>((fo n:Nat):Int)) pre).length] 44 (0,0))]) (H1:=(l,.loop {rec with state:=.busy})::bQ Dk) wU FL nu rfl rfl rfl rfl (dy.one (z:=((fo x:Nat):Int)) nu FP underlying44 (bN.old A0 Fi Fj KU)) al (Rw.Fr_ext Se) z1 Lj ?_;intro Ll Lm Ln FQ Lo;replace FQ:=yb FQ;refine aV (i:=0) rfl sizeOf44 rfl rfl rfl rfl rfl rfl ?_;refine B 2 ?_;refine WX (L':=[Wy,w3,w]) z1 ?_;refine Aj (G2:=Gh.no) (Hc2:=[(b4,.cells #[(Rw.row Ll Lm Ln).val ((List.map (λn=>((fo n:Nat):Int)) pre)++[((fo x:Nat):Int)]).length] 44 (0,0))]++((Rw.row Ll Lm Ln).hp ai 3 ((List.map (λn=>((fo n:Nat):Int)) pre)++[((fo x:Nat):Int)])++[])) aW eW ⟨λ_ h=>h,λ_ h=>.inl h,λ_ h=>.inl h,(WY rfl (FQ.imp id (λh=>h.2.1))),zae⟩ (Ak iM mz) ?_;rw[n5o];exact⟨rfl,.row Ll Lm Ln,FQ.elim (λh=>Rw.Fr_at bH h) (λh=>.inr h.2.2),Lo,rfl⟩
 ·rintro gV l Dk rec G' Hc rfl cQ eW ⟨rfl,r,bH,al,rfl⟩;replace cQ:=yb cQ;have cO:r.ge w3.heap.size:=Rw.ge_of bH A0;refine Pr λWd pH=>?_;have kN:=Lp pH;refine B 5 ?_;refine aV (i:=0) rfl sizeOf44 rfl rfl rfl (Rw.val_size _ _) rfl (Rw.val_one _ _) ?_;refine B 4 ?_;have hq:=λ(k:Nat)=>Rw.mem_ge (enc:=ai) (t:=3) (xs:=(List.map (λn=>((fo n:Nat):Int)) (lh kk))) (k:=k) cO;refine PJ.reH (H':=(b4,.cells #[r.val (List.map (λn=>((fo n:Nat):Int)) (lh kk)).length] 44 (0,0))::(r.hp ai 3 (List.map (λn=>((fo n:Nat):Int)) (lh kk))++(l,.loop rec)::bQ Dk)) (by simp[book,Rw.val_cells]) ?_;refine Al (b:=b4) (r:=r) (xs:=(List.map (λn=>((fo n:Nat):Int)) (lh kk))) (.inl rfl) results290 isAgg44 rfl rfl z1 A0 (kN _ A0).1 rfl al (λp hp=>⟨.tail _ (cS.2 (.inl hp)),(kN p (cS.2 (.inr (cS.2 (.inl hp))))).1⟩) (Rw.ge_of bH A1) (λW H' hS bF=>(hS.links w A1).below λk hk hx=>?_);exact zLj
 exact Sg
def cH (d:Int):List Int:=(lh (512+d).toNat).map λn=>((qE n:Nat):Int)
def iR (d:Int):List Int:=(lh (512+d).toNat).map λn=>((uE n:Nat):Int)
theorem Lq:dU prog 291:=call291
theorem Lr:dU prog 292:=call292
theorem nbg(d:Int)(hd:dV d)(w:World):Calls prog 253 #[.int .i64 d] w (nB w ai 1 3 (cH d) (λs=>.tuple #[s,.int .i64 0])):=by
 obtain⟨kk,Lh⟩:∃kk:Nat,512+d=(kk:Int):=⟨(512+d).toNat,by have:=hd.1;omega⟩;have e:cH d=(List.map (λn=>((qE n:Nat):Int)) (lh kk)):=by unfold cH;rw[Lh,wK]
 rw[e];refine enter (vs:=[_]) func253 rfl ntmps253 rfl ?_;refine B 9 ?_;refine Am (enc:=ai) (m:=1) (t:=3) (xs:=(List.map (λn=>((qE n:Nat):Int)) (lh kk))) (v:=λs=>.tuple #[s,.int .i64 0]) (first:=[]) (cap:=[]) rfl call290 rfl rfl rfl (λW hS=>nRh qE 291 Lq (λn w h=>nMh n h w) d kk Lh hd W) ?_;intro r bH al;refine B 7 ?_;exact nT (H0:=[]) (H1:=[]) (r:=r) (.inl rfl) results253 (RS.t rfl (RS.t rfl RS.n)) A0 WZ rfl al (Rw.ge_of bH A0) z1
theorem nfl(d:Int)(hd:dV d)(w:World):Calls prog 256 #[.int .i64 d] w (nB w ai 1 3 (iR d) (λs=>.tuple #[s,.int .i64 0])):=by
 obtain⟨kk,Lh⟩:∃kk:Nat,512+d=(kk:Int):=⟨(512+d).toNat,by have:=hd.1;omega⟩;have e:iR d=(List.map (λn=>((uE n:Nat):Int)) (lh kk)):=by unfold iR;rw[Lh,wK]
 rw[e];refine enter (vs:=[_]) func256 rfl ntmps256 rfl ?_;refine B 9 ?_;refine Am (enc:=ai) (m:=1) (t:=3) (xs:=(List.map (λn=>((uE n:Nat):Int)) (lh kk))) (v:=λs=>.tuple #[s,.int .i64 0]) (first:=[]) (cap:=[]) rfl call290 rfl rfl rfl (λW hS=>nRh uE 292 Lr (λn w h=>nVl n h w) d kk Lh hd W) ?_;intro r bH al;refine B 7 ?_;exact nT (H0:=[]) (H1:=[]) (r:=r) (.inl rfl) results256 (RS.t rfl (RS.t rfl RS.n)) A0 WZ rfl al (Rw.ge_of bH A0) z1
def da (xs:List Int):List Int:=xs.mergeSort λx y=>decide (x<=y)
theorem vA(xs:List Int):(da xs).length=xs.length:=List.length_mergeSort _
theorem FR{xs:List Int}(hl:xs.length<=1000000){cap t:Nat}(bW:(Rw.row b cap sp).Fit 1 xs)(h:W.heap[b]? =some (cD ai t xs sp)):Calls prog 48 #[.slice (some ⟨b,0,none⟩) xs.length cap] W (λe w'=>∃bK,e= .returned ((λ_=>.tuple #[]) (Rw.row b cap bK))/\aG (· =b) W w'/\(Rw.row b cap bK).Fit 1 (da xs)/\w'.heap[b]? =some (cD ai t (da xs) bK)):=by
 have hc:=Any.slices_Sort_int Tryz.laySort b 0 cap xs W (An h) (aL.1 h).1 zM;change Calls prog 48 _ _ _ at hc;refine hc.mono ?_;rintro e w' ⟨rfl,n,os,rfl⟩;obtain⟨h1,h2⟩:=Sh (n:=n) (os:=os) h (vA xs);exact⟨sp,rfl,h1,by simp only[Rw.Fit,vA];exact bW,h2⟩
theorem Ao(W:World):Calls prog 48 #[.slice none 0 0] W (λe w'=>e= .returned (.tuple #[])/\Below W.heap.size W w'):=by
 have hc:=Any.slices_Sort_int_none Tryz.laySort none 0 W;change Calls prog 48 _ _ _ at hc;refine hc.mono ?_;rintro e w' ⟨rfl,h⟩;refine⟨rfl,?_⟩;first
  |(obtain⟨n,rfl⟩:=h;exact FT W _)
  |(subst h;exact Below.refl _ _)
theorem I7{xs:List Int}(hl:xs.length<=1000000){cap t:Nat}(bW:(Rw.row b cap sp).Fit 1 xs)(h:W.heap[b]? =some (cD ai t xs sp)):Calls prog 82 #[.slice (some ⟨b,0,none⟩) xs.length cap] W (λe w'=>∃bK,e= .returned ((λr=>r.val (Go.Lib.compact xs).length) (Rw.row b cap bK))/\aG (· =b) W w'/\(Rw.row b cap bK).Fit 1 (Go.Lib.compact xs)/\w'.heap[b]? =some (cD ai t (Go.Lib.compact xs) bK)):=by
 obtain⟨f1,f2⟩:=bW;have hc:=Any.slices_Compact_int Tryz.layCompact b 0 cap xs W (An h) zM f1;change Calls prog 82 _ _ _ at hc;refine hc.mono ?_;rintro e w' ⟨rfl,q,rfl⟩;have hle:=Go.Lib.compact_length_le xs;obtain⟨h1,h2⟩:=Sh (n:=q) (os:=#[]) (ys:=Go.Lib.compact xs++List.replicate (xs.length-(Go.Lib.compact xs).length) 0) h kh;rw[Go.Sort.grow_empty]at h1 h2;refine⟨eL ai (List.replicate (xs.length-(Go.Lib.compact xs).length) 0)++sp,rfl,h1,⟨by omega,?_⟩,?_⟩
 ·rw[cC,so nu,List.length_replicate,f2];omega
 rw[h2];simp only[cD,Ps,iH]
theorem nlj{xs:List Int}(h:Rw.nil.Fit 1 xs)(W:World):Calls prog 48 #[Rw.nil.val xs.length] W (λe w'=>e= .returned ((λ_=>.tuple #[]) Rw.nil)/\da xs=[]/\Below W.heap.size W w'):=
 (Ao W).mono λe w' ⟨h1,h2⟩=>⟨h1,by have:xs=[]:=h;subst this;simp[da],h2⟩
theorem nHo(W:World):Calls prog 82 #[.slice none 0 0] W (λe w'=>e= .returned (.slice none 0 0)/\Below W.heap.size W w'):=by
 have hc:=Any.slices_Compact_int_empty Tryz.layCompact none 0 W;change Calls prog 82 _ _ _ at hc;refine hc.mono ?_;rintro e w' ⟨rfl,rfl⟩;exact⟨rfl,Below.refl _ _⟩
theorem nAn{xs:List Int}(h:Rw.nil.Fit 1 xs)(W:World):Calls prog 82 #[Rw.nil.val xs.length] W (λe w'=>e= .returned ((λr=>r.val (Go.Lib.compact xs).length) Rw.nil)/\Go.Lib.compact xs=[]/\Below W.heap.size W w'):=
 (nHo W).mono λe w' ⟨h1,h2⟩=>⟨h1,by have:xs=[]:=h;subst this;rfl,h2⟩
structure Nd where
 at_:Int
 pub:Int
def fw (n:Nd):List Value:=[.int .i64 n.at_,.int .i64 n.pub]
def gf (n:Nd):Array Value:=#[.int .i64 n.at_,.int .i64 n.pub]
theorem Si(n:Nd):(fw n).length=2:=rfl
theorem FU(n:Nd):∀u∈fw n,u.oneCell'=true:=by intro u hu;simp[fw]at hu;rcases hu with rfl|rfl<;>rfl
def mC (ns:List Nd):List Int:=(ns.filter λn=>decide (512<=n.at_/\n.at_<=1023)).map λn=>n.at_-512
variable {ns:List Nd}
theorem n7i{x:Nd}(hx:ns[j]? =some x)(h1:512<=x.at_)(h2:x.at_<=1023):mC (ns.take (j+1))=mC (ns.take j)++[x.at_-512]:=by
 rw[nC hx];simp[mC,h1,h2]
theorem nvf{x:Nd}(hx:ns[j]? =some x)(h:¬(512<=x.at_/\x.at_<=1023)):mC (ns.take (j+1))=mC (ns.take j):=by
 rw[nC hx];simp only[mC,List.filter_append];simp[h]
theorem noj(ns:List Nd)(j:Nat):(mC (ns.take j)).length<=j:=by
 unfold mC;rw[fy];exact aS (Ap _ _) (by rw[kx];omega)
theorem FV(ns:List Nd)(j:Nat)(h:¬j<ns.length):mC (ns.take j)=mC ns:=by rw[jo zM]
def dm (ns:List Nd):List Int:=Go.Lib.compact (da (mC ns))
theorem ncm(ns:List Nd):(dm ns).length<=ns.length:=by
 have h1:=Go.Lib.compact_length_le (da (mC ns));have h2:=noj ns ns.length;rw[I8]at h2;rw[vA]at h1;unfold dm;omega
theorem Aq:prog.info? 355=some Tryz.t355:=by kernel_rfl
theorem n5b(ns:List Nd)(hn:ns.length<=100000)(N:Nat)(a:Option Addr)(cp:Nat)(w:World)(hN:N<=w.heap.size)(aN:ah gf 2 N w a ns):Calls prog 205 #[.agg #[.slice a ns.length cp]] w (nB w ai 1 3 (dm ns) id):=by
 have hlA:=noj ns ns.length;rw[I8]at hlA;refine enter (vs:=[_]) func205 rfl ntmps205 rfl ?_;refine B 2 ?_;refine yX ?_;intro b1 w1 aP aX fW eb ir;refine B 7 ?_;refine rr (.slice a ns.length cp) (aa isAgg53 rfl A0 aP aX trivial rfl) ?_;refine B 5 ?_;refine CJ.loop (α:=Rw×Nat) (λp=>[(1,ptr b1 0),(2,p.1.val (mC (ns.take p.2)).length),(6,.slice a ns.length cp),(7,.int .i64 (ns.length:Int)),(8,.int .i64 (p.2:Int))]) (λp=>p.1.hp ai 3 (mC (ns.take p.2))++[]) (λp=>[w1,w]) (λp=>Gh.no) (λp=>p.2<=ns.length/\p.1.Fr Gh.no [w1,w]/\p.1.Fit 1 (mC (ns.take p.2))) (λp=>ns.length-p.2) (.nil,0) ⟨dx _,True.intro,rfl⟩ zR rfl rfl z1 ?_;rintro⟨r,j⟩ ⟨hj,bH,al⟩;dsimp only at hj bH al ⊢;have cO:r.ge w1.heap.size:=Rw.ge_of bH A0;have KE:=noj ns j;refine B 6 ?_;refine aO ?_ ?_
 ·intro aj;refine B 5 ?_;obtain⟨bo,oo,cs0,to,fA,rfl,fG,hcs,ar⟩:=aN.get zM;obtain⟨x,hx⟩:=nj ns j zM;refine B 2 ?_;refine rq (.agg (gf x)) (ag isAgg355 sizeOf355 rfl A1 hcs zZ (by simp only[bE,ne,and_true];(repeat' apply And.intro);all_goals first|exact True.intro|exact Rw.off_ge cO zM) (nl ar hx rfl)) (va (nq ar hx rfl)) ?_;refine aY zeroValue355 rfl rfl ?_;refine yW ?_;intro b4 dD dH;refine zRh ?_;refine B 8 ?_;refine nh (t:=15) rfl (λaQ=>?_) (λaQ=>?_)
  ·replace aQ:=ya aQ;refine B 6 ?_;refine aO ?_ ?_
   ·intro cY;refine B 5 ?_;refine wV ?_;refine yW ?_;intro Ll abv abw;refine o8 (r:=r) (xs:=(mC (ns.take j))) (zs:=[(x.at_-512)]) (enc:=ai) (m:=1) (H0:=[(Ll,.cells #[.int .i64 (x.at_-512)] 3 (0,0)),(b4,.cells (gf x) 355 (0,0))]) (H1:=[]) wU FL nu rfl rfl rfl rfl (dy.one (z:=x.at_-512) nu FP underlying44 (bN.own (i:=0) rfl)) al bH z1 FX ?_;intro FY wW wX pb mV;replace pb:=yb pb;refine B 8 ?_;refine Ar ?_;refine PJ.again (Rw.row FY wW wX,j+1) ⟨by dsimp only;omega,pb.elim (λh=>Rw.Fr_at bH h) (λh=>.inr h),by rw[n7i hx zM zM];exact mV⟩ dE ⟨rfl,by rw[n7i hx zM zM];rfl,rfl,rfl,rfl,trivial⟩ (by rw[n7i hx zM zM];rfl) rfl z1
   intro cY;refine wY ?_;exact zik
  replace aQ:=ya aQ;refine B 14 ?_;refine mD ?_;exact zik
 intro aj;refine B 6 ?_;have bT:=FV ns j zM;rw[bT]at al ⊢;refine B 2 ?_;refine wZ (r:=r) (enc:=ai) (m:=1) (t:=3) (xs:=mC ns) (ys:=da (mC ns)) (H0:=[]) (H1:=[]) (v:=λ_=>.tuple #[]) rfl call48 rfl rfl rfl (λhr W _=>by subst hr;exact nlj al W) (λb cap sp hr W _ h=>by subst hr;exact FR zM al h) ?_;intro r2 de mU mW jJ;have gE:=mU bH;have dW:=mW _ cO;refine B 5 ?_;refine wZ (r:=r2) (enc:=ai) (m:=1) (t:=3) (xs:=da (mC ns)) (ys:=dm ns) (H0:=[]) (H1:=[]) (v:=λr=>r.val (dm ns).length) rfl call82 rfl rfl rfl (λhr W _=>by have e:=jJ (mC ns).length;rw[<-e];subst hr;rw[<-vA (mC ns)];exact nAn de W) (λb cap sp hr W _ h=>by have e:=jJ (mC ns).length;rw[<-e];subst hr;rw[<-vA (mC ns)];exact I7 (by rw[vA];omega) de h) ?_;intro r3 mX As Au vB;have Av:=As gE;have vC:=Au _ dW;refine B 4 ?_;exact nT (H0:=[]) (H1:=[]) (r:=r3) (.inl rfl) results205 (RS.t rfl RS.n) A1 (by rw[dN];exact Rw.over (Rw.ge_of Av A1)) rfl mX (Rw.ge_of Av A1) z1
def I9 (kv:List (Int×Int)) (n:Nd):List (Int×Int):=if(aC kv n.at_).isSome then kv else cq kv n.at_ n.pub
def dc (ns:List Nd):List (Int×Int):=ns.foldl I9 []
theorem ndl{x:Nd}(hx:ns[j]? =some x):dc (ns.take (j+1))=I9 (dc (ns.take j)) x:=by
 rw[nC hx];simp[dc,DY]
theorem nrn{x:Nd}(hx:ns[j]? =some x)(h:(aC (dc (ns.take j)) x.at_).isSome=false):dc (ns.take (j+1))=cq (dc (ns.take j)) x.at_ x.pub:=by
 rw[ndl hx];unfold I9;rw[if_neg (by rw[h];decide)]
theorem Aw{x:Nd}(hx:ns[j]? =some x)(h:(aC (dc (ns.take j)) x.at_).isSome=true):dc (ns.take (j+1))=dc (ns.take j):=by
 rw[ndl hx];unfold I9;rw[if_pos h]
theorem FZ(ns:List Nd)(j:Nat)(h:¬j<ns.length):dc (ns.take j)=dc ns:=by rw[jo zM]
theorem Pt{β:Type}(l:List (Int×β))(k:Int)(v:β):(cq l k v).length<=l.length+1:=by
 unfold cq;split<;>simp
theorem Pu(ns:List Nd):(dc ns).length<=ns.length:=by
 have key:∀(l:List Nd) (kv:List (Int×Int)),(l.foldl I9 kv).length<=kv.length+l.length:=by
  intro l;induction l with
  |nil=>intro kv;simp
  |cons n l ih=>
   intro kv;have h1:=ih (I9 kv n);have h2:(I9 kv n).length<=kv.length+1:=by unfold I9;split;omega;exact Pt _ _ _
   simp only[List.foldl_cons,ec];omega
 simpa[dc]using key ns []
theorem nRf(ns:List Nd)(hn:ns.length<=100000)(N:Nat)(a:Option Addr)(cp:Nat)(w:World)(hN:N<=w.heap.size)(aN:ah gf 2 N w a ns):Calls prog 261 #[.agg #[.slice a ns.length cp]] w (vD w (Value.int .i64) (dc ns) id):=by
 refine enter (vs:=[_]) func261 rfl ntmps261 rfl ?_;refine B 2 ?_;refine yX ?_;intro b1 w1 aP aX fW eb ir;refine B 5 ?_;refine F0 (Value.int .i64) rfl rfl ?_;refine yW ?_;intro b8 ua uc;refine B 7 ?_;refine rr (.slice a ns.length cp) (aa isAgg53 rfl A0 aP aX zL rfl) ?_;refine B 5 ?_;refine CJ.loop (α:=Mp×Nat) (λp=>[(1,ptr b1 0),(3,.map (some b8)),(10,.slice a ns.length cp),(11,.int .i64 (ns.length:Int)),(12,.int .i64 (p.2:Int))]) (λp=>[(b8,p.1.obj (Value.int .i64) (dc (ns.take p.2)))]) (λp=>[w1,w]) (λp=>Gh.no) (λp=>p.2<=ns.length/\p.1.Ok (dc (ns.take p.2))) (λp=>ns.length-p.2) (⟨[],0⟩,0) ⟨dx _,Mp.nil⟩ zR rfl rfl z1 ?_;rintro⟨m,j⟩ ⟨hj,hm⟩;dsimp only at hj hm ⊢;refine B 6 ?_;refine aO ?_ ?_
 ·intro aj;refine B 5 ?_;obtain⟨bo,oo,cs0,to,fA,rfl,fG,hcs,ar⟩:=aN.get zM;obtain⟨x,hx⟩:=nj ns j zM;refine B 2 ?_;refine rq (.agg (gf x)) (ag isAgg355 sizeOf355 rfl A1 hcs zZ yo (nl ar hx rfl)) (va (nq ar hx rfl)) ?_;refine aY zeroValue355 rfl rfl ?_;refine yW ?_;intro b5 iu iv;refine zRh ?_;refine B 7 ?_;refine rv rfl rfl rfl (gW (ev:=(Value.int .i64)) underlying319 underlying3 zeroValue3 hm (bN.own (i:=1) rfl) rfl rfl) ?_;refine B 13 ?_;refine aO ?_ ?_
  ·intro aQ;refine B 6 ?_;refine Ja (i:=1) (ev:=(Value.int .i64)) (v:=x.pub) rfl hm underlying319 underlying3 rfl rfl rfl rfl ?_;intro m2 aE;refine wY ?_;refine PJ.again (m2,j+1) ⟨by dsimp only;omega,by rw[nrn hx gM];exact aE⟩ dE zR (by rw[nrn hx gM];rfl) rfl z1
  intro aQ;refine wY ?_;refine PJ.again (m,j+1) ⟨by dsimp only;omega,by rw[Aw hx gM];exact hm⟩ dE zR (by rw[Aw hx gM];rfl) rfl z1
 intro aj;refine B 6 ?_;have bT:=FZ ns j zM;rw[bT]at hm ⊢;refine B 6 ?_;exact Jb (i:=0) (.inl rfl) results261 (RS.t rfl RS.n) A1 wE rfl hm rfl
theorem W4:∀(n:Nat) (js:List Nat),js.Nodup->(∀j∈js,j<n)->js.length<=n
 |0,js,_,h=>by
  cases js with
  |nil=>simp
  |cons j js=>have:=h j z1;omega
 |n+1,js,hd,h=>by
  have h1:=W4 n (js.erase n) (hd.erase n) (λj hj=>by
   have h2:=h j (List.mem_of_mem_erase hj);have h3:j≠n:=λe=>by subst e;exact absurd hj (by rw[hd.mem_erase_iff];simp)
   omega)
  have h2:=List.length_erase (a:=n) (l:=js);split at h2<;>omega
def Ax {β:Type} (kv:List (Int×β)) (j:Nat):Int:=((kv[j]?).map (·.1)).getD 0
theorem nLf{β:Type}{kv:List (Int×β)}{p:Int×β}(hp:kv[j]? =some p)(js:List Nat):(js++[j]).map (Ax kv)=js.map (Ax kv)++[p.1]:=by simp[Ax,hp]
theorem nci{β:Type}{kv:List (Int×β)}(hd:js.Nodup)(hl:∀j∈js,j<kv.length)(bT:∀j,j<kv.length->j∈js):(js.map (Ax kv)).Perm (kv.map (·.1)):=by
 have h1:js.Perm (List.range kv.length):=(List.perm_ext_iff_of_nodup hd List.nodup_range).2 λa=>⟨λh=>pM.2 (hl a h),λh=>bT a (pM.1 h)⟩;have h2:(List.range kv.length).map (Ax kv)=kv.map (·.1):=by
  apply List.ext_getElem z1;intro i h3 h4;simp only[fy,List.length_range]at h3;simp[Ax,h3]
 rw[<-h2];exact h1.map _
theorem nVj{p q:List Int}(h:p.Perm q):da p=da q:=by
 have hs:∀l:List Int,(da l).Pairwise (λa b=>(decide (a<=b))=true):=λl=>List.pairwise_mergeSort (λa b c h1 h2=>by simp at *;omega) (λa b=>by simp;omega) l;exact List.Perm.eq_of_pairwise (λa b _ _ h1 h2=>by simp at h1 h2;omega) (hs p) (hs q) (((List.mergeSort_perm p _).trans h).trans (List.mergeSort_perm q _).symm)
theorem yp{β:Type}{kv:List (Int×β)}{jn:Nat}{pn:Int×β}(hnd:js.Nodup)(gy:∀j∈js,j<kv.length)(jK:kv[jn]? =some pn)(lU:jn∉js):(js++[jn]).Nodup/\(∀j∈js++[jn],j<kv.length)/\js.length+1<=kv.length:=by
 have h1:(js++[jn]).Nodup:=by rw[List.nodup_append];exact⟨hnd,by simp,by intro a ha b hb;simp at hb;subst hb;exact λe=>lU (e▸ha)⟩
 have h2:∀j∈js++[jn],j<kv.length:=by
  intro j hj;rcases cS.1 hj with hj|hj
  ·exact gy j hj
  simp at hj;subst hj;exact nF jK
 exact⟨h1,h2,by simpa using W4 _ _ h1 h2⟩
theorem nYd{kv:List (Int×Int)}(b:Nat)(m:Mp)(hm:m.Ok kv)(k:Int)(w:World)(hb:w.heap[b]? =some (m.obj (Value.int .i64) kv)):Calls prog 262 #[.map (some b),.int .i64 k] w (λe w'=>∃m':Mp,e= .returned (.tuple #[])/\aG (· =b) w w'/\m'.Ok (gF kv k)/\w'.heap[b]? =some (m'.obj (Value.int .i64) (gF kv k))):=by
 refine nM (Gh.lent (· =b)) [(b,m.obj (Value.int .i64) kv)] (vs:=[_,_]) func262 rfl ntmps262 rfl (zh hb) ?_;refine B 3 ?_;refine Sj (i:=0) (ev:=(Value.int .i64)) rfl rfl hm underlying319 underlying3 rfl rfl rfl ?_;intro m2 aE;refine B 1 ?_;exact bJ (.inr rfl) (rs:=[]) results262 RS.n λW hS=>⟨m2,rfl,hS.baseX A0 DZ,aE,hS.own _ A0⟩
theorem ngk(mp:Option Nat)(w:World):Calls prog 264 #[.map mp] w (cu w (λb:Nat=>.func (.func 302) #[] #[ptr b 0]) (λb w1=>w.heap.size<=b/\w1.heap[b]? =some (.cells #[.map mp] 319 (0,0)))):=by
 refine enter (vs:=[_]) func264 rfl ntmps264 rfl ?_;refine B 2 ?_;refine yX ?_;intro b1 w1 aP aX fW eb ir;refine B 10 ?_;refine jM b1 results264 rfl A1 rfl ?_;exact Zi
theorem nap{kv:List (Int×Int)}(mb bx:Nat)(m:Mp)(hm:m.Ok kv)(W:World)(aP:W.heap[bx]? =some (.cells #[.map (some mb)] 319 (0,0)))(iS:W.heap[mb]? =some (m.obj (Value.int .i64) kv)):vz prog 302 [ptr bx 0] ai (λp=>p.length<=kv.length) (λxs=>xs.Perm (kv.map (·.1))) (λ_=>False) (λk=>k=bx\/k=mb) W:=by
 intro l M I X0 hM hI hX hy h0;have aX:¬(cj hM (λ_=>False) (hI [] _)).X bx:=by rintro(h|h);exact(hM _ h).2.2 (.inl rfl);exact h.elim
 have xb:¬(cj hM (λ_=>False) (hI [] _)).X mb:=by rintro(h|h);exact(hM _ h).2.2 (.inr rfl);exact h.elim
 have uF:=(aL.1 iS).1;refine zEh ?_;refine B 3 ?_;refine Ls (ev:=(Value.int .i64)) underlying319 (bN.old A0 iS xb trivial) rfl rfl rfl ?_;intro rb mY Lt;replace mY:=yb mY;refine B 3 ?_;refine CJ.loop (α:=List Nat×aA) (λp=>[(0,yv l),(5,ptr rb 0)]) (λp=>[(rb,m.it mb p.1)]) (λp=>[W]) (λp=>cj hM p.2 (hI (p.1.map (Ax kv)) p.2)) (λp=>p.1.Nodup/\(∀j∈p.1,j<kv.length)/\∀k,p.2 k->W.heap.size<=k) (λp=>kv.length-p.1.length) ([],λ_=>False) ⟨List.nodup_nil,by simp,λ_ h=>h.elim⟩ ⟨rfl,rfl,trivial⟩ rfl rfl z1 ?_;rintro⟨js,V⟩ ⟨hnd,gy,hV⟩;dsimp only at hnd gy hV ⊢;have xb:¬(cj hM V (hI (js.map (Ax kv)) V)).X mb:=by rintro(h|h);exact(hM _ h).2.2 (.inr rfl);have:=hV _ h;omega
 have hln:=W4 kv.length js hnd gy;refine B 2 ?_;refine Ay (ev:=(Value.int .i64)) (i:=0) rfl hm (bN.old A0 iS xb jS) gy rfl rfl rfl (λbT=>?_) (λjn pn jK lU=>?_)
 ·refine B 9 ?_;exact FO (.inr rfl) results302 A0 hV (by intro k hk hx;simp only[dC,eF,iz,cP,fm,or_false]at hx;omega) (λA hA=>.inl ⟨_,nci hnd gy bT,hA⟩)
 refine B 10 ?_;refine rv rfl rfl rfl (uG (ev:=(Value.int .i64)) (i:=0) rfl hm (bN.old A0 iS xb jS) jK rfl) ?_;refine B 8 ?_;refine FN (λV=>hI (js.map (Ax kv)++[pn.1]) V) hX hV z1 rfl rfl rfl rfl (λW1 sj kP=>hy (js.map (Ax kv)) (pn.1) V W1 (by have h9:=(yp hnd gy jK lU).2.2;simp only[cC,fy,ec,lF];omega) sj kP) ?_ ?_
 ·intro V hV;refine B 6 ?_;refine PJ.again (js++[jn],V) ⟨(yp hnd gy jK lU).1,(yp hnd gy jK lU).2.1,hV⟩ Sk ⟨rfl,rfl,trivial⟩ rfl (by dsimp only;rw[nLf jK]) z1
 intro V hV;refine B 8 ?_;exact FO (.inl rfl) results302 A0 hV (by intro k hk hx;simp only[dC,eF,iz,cP,fm,or_false]at hx;omega) (λA hA=>.inr hA)
theorem nym{cap:List Value}(ax:dU prog f)(w:World)(mE:∀k,RO k->k<w.heap.size)(hlen:∀p,Pre p->p.length<=100000)(pd:∀W2,Below w.heap.size w W2->vz prog f cap ai Pre Fin (λ_=>False) RO W2):Calls prog 184 #[.slice none 0 0,.func (.func f) #[] cap.toArray] w (λe w'=>∃xs,Fin xs/\nB w ai 1 3 xs id e w'):=by
 refine wy Gh.no [] (vs:=[_,_]) func184 rfl ntmps184 rfl (rR w) ?_;refine B 2 ?_;refine KM rfl rfl rfl ?_;refine yW ?_;intro b2 cA db;refine B 10 ?_;refine CJ.range2 (f:=f) (cap:=cap) (α:=Int) (enc:=ai) (Pre:=Pre) (Fin:=Fin) (RO:=RO) (MI:=λ_=>False) rfl ax (λW W2 hS hB=>pd W2 ((hS.links w A0).below (by simp only[eF,iz,cP,fm,or_false,Gh.no,false_or];omega) |>.trans (hB.mono (hS.links w A0).size))) (λ_ _ _ hk=>hk.elim) (λW hS k hk=>by have h1:=mE k hk;have h2:=(hS.links w A0).size;exact⟨by omega,by simp only[eF,iz,cP,fm,or_false];omega,λh=>h⟩) (λ_=>rfl) (λpre G' Hc=>G'=Gh.no/\∃r:Rw,r.Fr Gh.no [w]/\r.Fit 1 pre/\Hc=[(b2,.cells #[r.val pre.length] 44 (0,0))]++(r.hp ai 3 pre++[])) (λ_ _ _=>False) ⟨rfl,.nil,True.intro,rfl,rfl⟩ zQ ?_ ?_ ?_
 ·rintro pre x G' Hc l Dk rec W1 M V Wy iM mz dF ⟨rfl,r,bH,al,rfl⟩ cQ eW yP mQ aW sk;simp only[ab]at cQ mQ;have cO:r.ge w.heap.size:=Rw.ge_of bH A0;have hpl:=hlen _ dF;simp only[cC,ec,lF]at hpl;have Se:∀p∈r.hp ai 3 pre,M p.1\/V p.1:=λp hp=>aW.loc.h p Sf;refine OR ?_;refine B 4 ?_;refine wV ?_;refine yW ?_;intro ix o3 o4;refine o8 (r:=r) (xs:=pre) (zs:=[x]) (enc:=ai) (m:=1) (H0:=[(ix,.cells #[.int .i64 x] 3 (0,0)),(b2,.cells #[r.val pre.length] 44 (0,0))]) (H1:=(l,.loop {rec with state:=.busy})::bQ Dk) wU FL nu rfl rfl rfl rfl (dy.one (z:=x) nu FP underlying44 (bN.own (i:=0) rfl)) al (Rw.Fr_ext Se) z1 FX ?_;intro rA Lu Lv ux uH;replace ux:=yb ux;refine aV (i:=1) rfl sizeOf44 rfl rfl rfl rfl rfl rfl ?_;refine B 2 ?_;refine mD ?_;refine Aj (G2:=Gh.no) (Hc2:=[(b2,.cells #[(Rw.row rA Lu Lv).val (pre++[x]).length] 44 (0,0))]++((Rw.row rA Lu Lv).hp ai 3 (pre++[x])++[])) aW eW ⟨λ_ h=>h,λ_ h=>.inl h,λ_ h=>.inl h,(WY rfl (ux.imp id (λh=>h.1))),zae⟩ (Ak iM mz) ?_;exact⟨rfl,.row rA Lu Lv,ux.elim (λh=>Rw.Fr_at bH h) (λh=>.inr h.2),uH,rfl⟩
 ·rintro gV l Dk rec G' Hc bV cQ eW ⟨rfl,r,bH,al,rfl⟩;replace cQ:=yb cQ;have cO:r.ge w.heap.size:=Rw.ge_of bH A0;refine Pr λWd pH=>?_;have kN:=Lp pH;refine B 9 ?_;have hq:=λ(k:Nat)=>Rw.mem_ge (enc:=ai) (t:=3) (xs:=gV) (k:=k) cO;refine PJ.reH (H':=(b2,.cells #[r.val gV.length] 44 (0,0))::(r.hp ai 3 gV++(l,.loop rec)::bQ Dk)) (by simp[book,Rw.val_cells]) ?_;refine sf (.inl rfl) z1 λa W H' hF hS bS bF=>?_;refine⟨_,by rw[results_tmp results184];exact congrArg (λu=>Result.ok u W) (hF 4 _ rfl),gV,bV,r,rfl,?_,cO,al,?_⟩
  ·refine(hS.links w A0).below λk hk hx=>?_;exact zLj
  cases r with
  |nil=>trivial
  |row b cap sp=>exact hS.own _ (bS (b,cD ai 3 gV sp) vE (kN _ vE).1)
 exact Sg
theorem W6{cap:List Value}(ax:dU prog f)(w:World)(mE:∀k,RO k->k<w.heap.size)(hlen:∀p,Pre p->p.length<=100000)(pd:∀W2,Below w.heap.size w W2->vz prog f cap ai Pre Fin (λ_=>False) RO W2):Calls prog 118 #[.func (.func f) #[] cap.toArray] w (λe w'=>∃xs,Fin xs/\nB w ai 1 3 xs id e w'):=by
 refine enter (vs:=[_]) func118 rfl ntmps118 rfl ?_;refine B 8 ?_;refine Sl (enc:=ai) (m:=1) (t:=3) (Fin:=Fin) (v:=id) call184 rfl rfl rfl (λW hS=>nym ax W (λk hk=>kQ (mE k hk) (hS.links w A0).size) hlen (λW2 hB=>pd W2 (((hS.links w A0).below Lw).trans (hB.mono (hS.links w A0).size)))) ?_;intro xs r bV bH al;refine B 4 ?_;exact bJ (.inl rfl) results118 (RS.t rfl RS.n) λW hS=>⟨xs,bV,r,rfl,hS.base A0 WZ,Rw.ge_of bH A0,al,by cases r with|nil=>exact True.intro|row b cap sp=>exact hS.own _ A0⟩
theorem nCl{cap:List Value}(ax:dU prog f)(w:World)(mE:∀k,RO k->k<w.heap.size)(hlen:∀p,Pre p->p.length<=100000)(pd:∀W2,Below w.heap.size w W2->vz prog f cap ai Pre Fin (λ_=>False) RO W2)(ys:List Int)(oX:∀xs,Fin xs->da xs=ys/\xs.length<=100000):Calls prog 263 #[.func (.func f) #[] cap.toArray] w (nB w ai 1 3 ys id):=by
 refine enter (vs:=[_]) func263 rfl ntmps263 rfl ?_;refine B 8 ?_;refine Sl (enc:=ai) (m:=1) (t:=3) (Fin:=Fin) (v:=id) call118 rfl rfl rfl (λW hS=>W6 ax W (λk hk=>kQ (mE k hk) (hS.links w A0).size) hlen (λW2 hB=>pd W2 (((hS.links w A0).below Lw).trans (hB.mono (hS.links w A0).size)))) ?_;intro xs r bV bH al;obtain⟨hsx,ck⟩:=oX xs bV;have cO:=Rw.ge_of bH A0;refine B 6 ?_;refine wZ (r:=r) (enc:=ai) (m:=1) (t:=3) (xs:=xs) (ys:=da xs) (H0:=[]) (H1:=[]) (v:=λ_=>.tuple #[]) rfl call48 rfl rfl rfl (λhr W _=>by subst hr;exact nlj al W) (λb cap sp hr W _ h=>by subst hr;exact FR zM al h) ?_;intro r2 de mU mW jJ;have gE:=mU bH;have dW:=mW _ cO;refine B 9 ?_;subst hsx;exact nT (H0:=[]) (H1:=[]) (r:=r2) (.inl rfl) results263 (RS.t rfl RS.n) A0 (by rw[dN];exact Rw.over (Rw.ge_of gE A0)) (by show r.val _=r2.val _;rw[<-jJ,vA]) de (Rw.ge_of gE A0) z1
theorem nMk(bx:Nat)(W:World)(aP:W.heap[bx]? =some (.cells #[.map none] 319 (0,0))):vz prog 302 [ptr bx 0] ai (λp=>p.length<=0) (λxs=>xs=[]) (λ_=>False) (λk=>k=bx) W:=by
 intro l M I X0 hM hI hX hy h0;have aX:¬(cj hM (λ_=>False) (hI [] _)).X bx:=by rintro(h|h);exact(hM _ h).2.2 rfl;exact h.elim
 refine zEh ?_;refine B 3 ?_;refine Sm underlying319 rfl rfl rfl ?_;intro rb mY Lt;replace mY:=yb mY;refine B 3 ?_;refine CJ.loop (α:=Nat) (λp=>[(0,yv l),(5,ptr rb 0)]) (λp=>[(rb,.mapIter none 0 #[] 0)]) (λp=>[W]) (λp=>cj hM (λ_=>False) (hI [] _)) (λp=>True) (λp=>0) 0 True.intro ⟨rfl,rfl,trivial⟩ rfl rfl z1 ?_;rintro p _;refine B 2 ?_;refine Lx (i:=0) rfl rfl rfl rfl ?_;refine B 9 ?_;exact FO (.inr rfl) results302 A0 (λ_ h=>h.elim) zjc (λA hA=>.inl ⟨[],rfl,hA⟩)
def oJ (kv:List (Int×Int)):List Nd:=(da (kv.map (·.1))).map λk=>⟨k,(aC kv k).getD 0⟩
theorem Sn:lT prog 53 355 2:=⟨underlying53,Tryz.t355,.agg #[.int .i64 0,.int .i64 0],Aq,rfl,rfl,rfl,by decide⟩
theorem Rw.val_one2(n:Nat)(r:Rw):nU [r.val n]=true:=by cases r<;>rfl
theorem nQn{β:Type}(f:Int->β){xs:List Int}{x:Int}(hx:xs[j]? =some x):(xs.take (j+1)).map f=(xs.take j).map f++[f x]:=by rw[nC hx];simp
theorem Ly(o:Option Int):(o.map (Value.int .i64)).getD (.int .i64 0)= .int .i64 (o.getD 0):=by cases o<;>rfl
theorem n8f{kv:List (Int×Int)}(lH:kv.length<=100000)(mb:Nat)(m:Mp)(hm:m.Ok kv)(w:World)(iS:w.heap[mb]? =some (m.obj (Value.int .i64) kv)):Calls prog 220 #[.map (some mb)] w (nB w fw 2 355 (oJ kv) (λs=>.agg #[s])):=by
 have uF:=(aL.1 iS).1;have ahu:(da (kv.map (·.1))).length=kv.length:=by rw[vA,fy]
 refine enter (vs:=[_]) func220 rfl ntmps220 rfl ?_;refine B 2 ?_;refine xd ?_;refine yW ?_;intro b2 cA db;refine B 6 ?_;refine nr (α:=Nat) (v:=λb:Nat=>.func (.func 302) #[] #[ptr b 0]) (Φ:=λ(W:World) (b:Nat) (w1:World)=>W.heap.size<=b/\w1.heap[b]? =some (.cells #[.map (some mb)] 319 (0,0))) call264 rfl rfl rfl (λW hS=>ngk (some mb) W) ?_;rintro Wk bk wk vF F4 ⟨Lz,uI⟩;try dsimp only at Lz uI
 have Sq:=vF.under;replace Sq:=yg Sq;have abA:=(aL.1 uI).1;have Sr:=vF.sizes;replace Sr:=yb Sr;have W8:=F4.size;refine xe (enc:=ai) (m:=1) (t:=3) (xs:=da (kv.map (·.1))) (v:=id) (first:=[]) (cap:=[]) rfl call263 rfl rfl rfl nu (λW hS=>nCl (f:=302) (cap:=[ptr bk 0]) (Pre:=λp=>p.length<=kv.length) (Fin:=λxs=>xs.Perm (kv.map (·.1))) (RO:=λk=>k=bk\/k=mb) call302 W ?_ ?_ ?_ _ ?_) ?_
 ·intro k hk;have h1:=(hS.links wk A0).size;rcases hk with rfl|rfl<;>omega
 ·intro p hp;have:p.length<=kv.length:=hp;omega
 ·intro W2 hB;exact nap mb bk m hm W2 (by rw[hB.block bk (by have:=(hS.links wk A0).size;omega)];exact hS.old A0 uI zZ jS) (by rw[hB.block mb (by have:=(hS.links w A1).size;omega)];exact hS.old A1 iS zZ jS)
 ·intro xs hx;exact⟨nVj hx,by rw[hx.length_eq,fy];exact lH⟩
 intro Ws a7 D0 ws Ss hBs iD pN;have Su:=Ss.sizes;replace Su:=yb Su;have Az:=hBs.size;have Sv:=Ss.under;replace Sv:=yg Sv;refine B 5 ?_;refine CJ.loop (α:=Rw×Nat) (λp=>[(0,.map (some mb)),(2,ptr b2 0),(7,.slice a7 (da (kv.map (·.1))).length D0),(8,.int .i64 ((da (kv.map (·.1))).length:Int)),(9,.int .i64 (p.2:Int))]) (λp=>[(b2,.cells #[p.1.val (((da (kv.map (·.1))).take p.2).map (λk=>(⟨k,(aC kv k).getD 0⟩:Nd))).length] 55 (0,0))]++(p.1.hp fw 355 (((da (kv.map (·.1))).take p.2).map (λk=>(⟨k,(aC kv k).getD 0⟩:Nd)))++[])) (λp=>[ws,wk,w]) (λp=>Gh.no) (λp=>p.2<=(da (kv.map (·.1))).length/\p.1.Fr Gh.no [ws,wk,w]/\p.1.Fit 2 (((da (kv.map (·.1))).take p.2).map (λk=>(⟨k,(aC kv k).getD 0⟩:Nd)))) (λp=>(da (kv.map (·.1))).length-p.2) (.nil,0) ⟨dx _,True.intro,rfl⟩ zR rfl rfl z1 ?_;rintro⟨r,j⟩ ⟨hj,bH,al⟩;dsimp only at hj bH al ⊢;have cO:r.ge ws.heap.size:=Rw.ge_of bH A0;refine B 6 ?_;refine aO ?_ ?_
 ·intro aj;refine B 5 ?_;obtain⟨bo,oo,cs0,to,fA,rfl,fG,hcs,ar⟩:=iD.get zM;obtain⟨x,hx⟩:=nj (da (kv.map (·.1))) j zM;have abC:=pN _ rfl;dsimp only at abC;refine B 2 ?_;refine rv rfl rfl rfl (aa (v:=.int .i64 x) isAgg3 rfl A0 hcs zZ Sw (by have:=nR (enc:=λx=>(ai x).toArray) (n:=1) ar hx rfl zQ;simpa[ai]using this)) ?_;refine B 9 ?_;refine rq (.int .i64 ((aC kv x).getD 0)) (qF (ev:=(Value.int .i64)) underlying319 underlying3 zeroValue3 hm (bN.old A2 iS zZ Sw) rfl rfl) (Ly _) ?_;refine rv rfl rfl rfl (bL underlying355 zeroValue355 (bA.c sizeOf3 (bA.c sizeOf3 (bA.n))) rfl rfl) ?_;refine lj underlying53 sizeOf355 zeroValue355 rfl rfl rfl rfl rfl rfl rfl ?_;refine yW ?_;intro kC qG ahv;refine o8 (r:=r) (xs:=(((da (kv.map (·.1))).take j).map (λk=>(⟨k,(aC kv k).getD 0⟩:Nd)))) (zs:=[(⟨x,(aC kv x).getD 0⟩:Nd)]) (enc:=fw) (m:=2) (H0:=[(kC,.cells #[.int .i64 x,.int .i64 ((aC kv x).getD 0)] 355 (0,0)),(b2,.cells #[r.val (((da (kv.map (·.1))).take j).map (λk=>(⟨k,(aC kv k).getD 0⟩:Nd))).length] 55 (0,0))]) (H1:=[]) wU Sn Si rfl rfl rfl rfl (dy.one (z:=(⟨x,(aC kv x).getD 0⟩:Nd)) Si FU underlying53 (bN.own (i:=0) rfl)) al bH z1 (by simp only[fy,kx,ec,lF];omega) ?_;intro pJ AA AB sq uJ;replace sq:=yb sq;refine B 1 ?_
  refine kq (i:=1) rfl sizeOf53 rfl rfl rfl rfl (aT rfl) rfl ?_;refine wY ?_;refine PJ.again (Rw.row pJ AA AB,j+1) ⟨by dsimp only;omega,sq.elim (λh=>Rw.Fr_at bH h) (λh=>.inr h),by rw[nQn (λk=>(⟨k,(aC kv k).getD 0⟩:Nd)) hx];exact uJ⟩ dE zR (by rw[nQn (λk=>(⟨k,(aC kv k).getD 0⟩:Nd)) hx];rfl) rfl z1
 intro aj;refine B 6 ?_;have bT:(da (kv.map (·.1))).take j=da (kv.map (·.1)):=jo zM;rw[bT]at al ⊢;refine B 2 ?_;refine zrh ?_;refine B 3 ?_;exact nT (H0:=[(b2,.cells #[r.val ((da (kv.map (·.1))).map (λk=>(⟨k,(aC kv k).getD 0⟩:Nd))).length] 55 (0,0))]) (H1:=[]) (r:=r) (.inl rfl) results220 (RS.wA (i:=0) rfl isAgg55 sizeOf55 rfl (aT rfl) RS.n) A2 (by simp only[dN,fj,eg,dC,Over];exact⟨by omega,Rw.over (Rw.ge_of bH A2)⟩) rfl al (Rw.ge_of bH A2) (by simp[Value.cells,oJ])
theorem nEf(w:World):Calls prog 220 #[.map none] w (nB w fw 2 355 [] (λs=>.agg #[s])):=by
 refine enter (vs:=[_]) func220 rfl ntmps220 rfl ?_;refine B 2 ?_;refine xd ?_;refine yW ?_;intro b2 cA db;refine B 6 ?_;refine nr (α:=Nat) (v:=λb:Nat=>.func (.func 302) #[] #[ptr b 0]) (Φ:=λ(W:World) (b:Nat) (w1:World)=>W.heap.size<=b/\w1.heap[b]? =some (.cells #[.map none] 319 (0,0))) call264 rfl rfl rfl (λW hS=>ngk none W) ?_;rintro Wk bk wk vF F4 ⟨Lz,uI⟩;try dsimp only at Lz uI
 have Sq:=vF.under;replace Sq:=yg Sq;have abA:=(aL.1 uI).1;have Sr:=vF.sizes;replace Sr:=yb Sr;have W8:=F4.size;refine xe (enc:=ai) (m:=1) (t:=3) (xs:=[]) (v:=id) (first:=[]) (cap:=[]) rfl call263 rfl rfl rfl nu (λW hS=>nCl (f:=302) (cap:=[ptr bk 0]) (Pre:=λp=>p.length<=0) (Fin:=λxs=>xs=[]) (RO:=λk=>k=bk) call302 W ?_ ?_ ?_ [] ?_) ?_
 ·intro k hk;have h1:=(hS.links wk A0).size;subst hk;omega
 ·intro p hp;omega
 ·intro W2 hB;exact nMk bk W2 (by rw[hB.block bk (by have:=(hS.links wk A0).size;omega)];exact hS.old A0 uI zZ jS)
 ·intro xs hx;exact(by subst hx;exact⟨by simp[da],by simp⟩)
 intro Ws a7 D0 ws Ss hBs iD pN;have Su:=Ss.sizes;replace Su:=yb Su;have Az:=hBs.size;have Sv:=Ss.under;replace Sv:=yg Sv;refine B 5 ?_;refine CJ.loop (α:=Nat) (λp=>[(2,ptr b2 0),(8,.int .i64 0),(9,.int .i64 0)]) (λp=>[(b2,.cells #[.slice none 0 0] 55 (0,0))]) (λp=>[ws,wk,w]) (λp=>Gh.no) (λp=>True) (λp=>0) 0 True.intro zR rfl rfl z1 ?_;rintro p _;refine KY ?_;refine B 12 ?_;refine Sx ?_;refine B 3 ?_;exact nT (H0:=[(b2,.cells #[.slice none 0 0] 55 (0,0))]) (H1:=[]) (r:=.nil) (.inl rfl) results220 (RS.wA (i:=0) rfl isAgg55 sizeOf55 rfl (aT rfl) RS.n) A2 z0c rfl rfl True.intro rfl
def F5 (kv:List (Int×Bool)) (n:Int):List (Int×Bool):=cq kv n true
def usD (kv:List (Int×Bool)) (d:Int):List (Int×Bool):=(cH d).foldl F5 (cq kv (512+d) true)
def vG (ds:List Int):List (Int×Bool):=ds.foldl usD []
theorem npm{ds:List Int}(hx:ds[j]? =some d):vG (ds.take (j+1))=usD (vG (ds.take j)) d:=by rw[nC hx];simp[vG,DY]
theorem nkl{l:List Int}{n:Int}(hx:l[i]? =some n)(kv:List (Int×Bool)):(l.take (i+1)).foldl F5 kv=cq ((l.take i).foldl F5 kv) n true:=by rw[nC hx];simp[F5,DY]
theorem F6(l:List Int)(i:Nat)(h:¬i<l.length)(kv:List (Int×Bool)):(l.take i).foldl F5 kv=l.foldl F5 kv:=by rw[jo zM]
theorem F7(l:List Int)(i:Nat)(h:¬i<l.length):vG (l.take i)=vG l:=by rw[jo zM]
def F8 (ns:List Nd) (i:Nat) (x:Nd):Prop:=1<=x.at_/\x.at_<=1023/\(∀y,0<i->ns[i-1]? =some y->y.at_<x.at_)/\cE x.pub/\aC (vG (dm ns)) x.at_=some true
def AD (ns:List Nd):Prop:=∀i x,ns[i]? =some x->F8 ns i x
def AE (ns:List Nd) (j:Nat):Prop:=∀i x,i<j->ns[i]? =some x->F8 ns i x
open Classical in
noncomputable def iJ (ns:List Nd):Int:=if AD ns then 0 else 210
theorem LA(h:AD ns):iJ ns=0:=by unfold iJ;rw[if_pos h]
theorem F9:iJ ns=0↔AD ns:=by unfold iJ;split<;>simp_all
theorem Xa(ns:List Nd):iJ ns=0\/iJ ns=210:=by unfold iJ;split<;>simp
theorem njd(h:AE ns j)(hj:¬j<ns.length):0=iJ ns:=by
 rw[LA];exact λi x hx=>h i x (by have:=nF hx;omega) hx
theorem nQ{x:Nd}(hx:ns[j]? =some x)(h:¬F8 ns j x):210=iJ ns:=by
 unfold iJ;rw[if_neg];exact λg=>h (g j x hx)
theorem AE.next{x:Nd}(h:AE ns j)(hx:ns[j]? =some x)(hk:F8 ns j x):AE ns (j+1):=by
 exact z8k
theorem nSm{zs:List Int}{x:Int}(h:x∈Go.Lib.compact zs):x∈zs:=by
 unfold Go.Lib.compact Go.Lib.compactUpTo at h;obtain⟨i,hi,rfl⟩:=bU.1 h;have hl:=pM.1 (vH.1 hi).1;rw[getElem!_pos zs.toArray i yq];simp
theorem Ga(h:d∈dm ns):dV d:=by
 have h1:=nSm h;have h2:=(List.mergeSort_perm (mC ns) _).mem_iff.1 h1;obtain⟨n,hn,rfl⟩:=bU.1 h2;have h3:=(vH.1 hn).2;simp only[decide_eq_true_eq]at h3;exact⟨by omega,by omega⟩
theorem nml(d:Int):(cH d).length<=(512+d).toNat:=by unfold cH;rw[fy];exact n5m _
theorem nsj(o:Option Bool):(o.map Value.bool).getD (.bool false)= .bool (o.getD false):=by cases o<;>rfl
theorem n4c(o:Option Bool):o.getD false=true↔o=some true:=by cases o with|none=>simp|some b=>cases b<;>simp
theorem nMb(ns:List Nd)(hn:ns.length<=100000)(N:Nat)(a:Option Addr)(cp:Nat)(w:World)(hN:N<=w.heap.size)(aN:ah gf 2 N w a ns):Calls prog 201 #[.agg #[.slice a ns.length cp]] w (av w (.int .i64 (iJ ns))):=by
 have rB:=ncm ns;refine enter (vs:=[_]) func201 rfl ntmps201 rfl ?_;refine B 2 ?_;refine yX ?_;intro b1 w1 aP aX fW eb ir;refine B 5 ?_;refine F0 Value.bool rfl rfl ?_;refine yW ?_;intro jH Ft Fu;refine B 6 ?_;refine rr (.agg #[.slice a ns.length cp]) (af isAgg55 sizeOf55 rfl A0 aP aX zL rfl) ?_;refine xe (enc:=ai) (m:=1) (t:=3) (xs:=dm ns) (v:=id) (first:=[]) (cap:=[]) rfl call205 rfl rfl rfl nu (λW hS=>n5b ns hn N a cp W (aS hN (hS.links w A1).size) (aN.up (ao _) (hS.same A1 hN zU z7))) ?_;intro Wm am cpm wm AF Sy AG Sz;have SA:=AF.sizes;replace SA:=yb SA;have hzm:=Sy.size;have SB:=AF.under;replace SB:=yg SB;refine B 5 ?_;refine CJ.loop (α:=Mp×Nat) (λp=>[(1,ptr b1 0),(3,.map (some jH)),(14,.slice am (dm ns).length cpm),(15,.int .i64 ((dm ns).length:Int)),(16,.int .i64 (p.2:Int))]) (λp=>[(jH,p.1.obj Value.bool (vG ((dm ns).take p.2)))]) (λp=>[wm,w1,w]) (λp=>Gh.no) (λp=>p.2<=(dm ns).length/\p.1.Ok (vG ((dm ns).take p.2))) (λp=>(dm ns).length-p.2) (⟨[],0⟩,0) ⟨dx _,Mp.nil⟩ zR rfl rfl z1 ?_;rintro⟨m,j⟩ ⟨hj,hm⟩;dsimp only at hj hm ⊢;refine B 6 ?_;refine aO ?_ ?_
 ·intro aj;refine B 5 ?_;obtain⟨bm,om,csm,tm,frm,rfl,jh,abF,abG⟩:=AG.get zM;have kN:=Sz _ rfl;dsimp only at kN;obtain⟨d,hx⟩:=nj (dm ns) j zM;have hd:=Ga (cB hx);have hd1:=hd.1;have Ai:=hd.2;have hpl:=nml d;refine B 2 ?_;refine rv rfl rfl rfl (aa (v:=.int .i64 d) isAgg3 rfl A0 abF zZ yo (by have:=nR (enc:=λx=>(ai x).toArray) (n:=1) abG hx rfl zQ;simpa[ai]using this)) ?_;refine B 6 ?_;refine zDf ?_;intro Wp ap lV wp xf LB qH pO;have su:=xf.sizes;replace su:=yb su;have hzp:=LB.size;have sw:=xf.under;replace sw:=yg sw;refine B 12 ?_;refine Ja (i:=0) (ev:=Value.bool) (v:=true) rfl hm underlying351 underlying3 rfl rfl rfl rfl ?_;intro m2 aE;refine B 10 ?_;refine CJ.loop (α:=Mp×Nat) (λp=>[(1,ptr b1 0),(3,.map (some jH)),(14,.slice (some ⟨bm,om,none⟩) (dm ns).length cpm),(15,.int .i64 ((dm ns).length:Int)),(16,.int .i64 (j:Int)),(28,.slice ap (cH d).length lV),(29,.int .i64 ((cH d).length:Int)),(30,.int .i64 (p.2:Int))]) (λp=>[(jH,p.1.obj Value.bool (((cH d).take p.2).foldl F5 (cq (vG ((dm ns).take j)) (512+d) true)))]) (λp=>[wp,wm,w1,w]) (λp=>Gh.no) (λp=>p.2<=(cH d).length/\p.1.Ok (((cH d).take p.2).foldl F5 (cq (vG ((dm ns).take j)) (512+d) true))) (λp=>(cH d).length-p.2) (m2,0) ⟨dx _,aE⟩ zR rfl rfl z1 ?_
  rintro⟨mi,i⟩ ⟨hi,uK⟩;dsimp only at hi uK ⊢;refine B 6 ?_;refine aO ?_ ?_
  ·intro aQ;refine B 5 ?_;obtain⟨bq,oq,Xb,tq,Xc,rfl,Xd,sx,sy⟩:=qH.get zM;have AH:=pO _ rfl;dsimp only at AH;obtain⟨n,hy⟩:=nj (cH d) i zM;refine B 2 ?_;refine rv rfl rfl rfl (aa (v:=.int .i64 n) isAgg3 rfl A0 sx zZ yo zud) ?_;refine B 6 ?_;refine Ja (i:=0) (ev:=Value.bool) (v:=true) rfl uK underlying351 underlying3 rfl rfl rfl rfl ?_;intro m3 aD;refine B 7 ?_;refine PJ.again (m3,i+1) ⟨by dsimp only;omega,by rw[nkl hy];exact aD⟩ dE zR (by rw[nkl hy];rfl) rfl z1
  intro aQ;refine B 6 ?_;have eD:((cH d).take i).foldl F5 (cq (vG ((dm ns).take j)) (512+d) true)=usD (vG ((dm ns).take j)) d:=by rw[F6 _ _ zM];rfl
  rw[eD]at uK ⊢;refine B 4 ?_;refine PJ.again (mi,j+1) ⟨by dsimp only;omega,by rw[npm hx];exact uK⟩ dE zR (by rw[npm hx]) rfl z1
 intro aj;refine B 7 ?_;have bT:=F7 (dm ns) j zM;rw[bT]at hm ⊢;refine B 2 ?_;refine rr (.slice a ns.length cp) (aa isAgg53 rfl A1 aP aX zL rfl) ?_;refine B 5 ?_;refine CJ.loop (α:=Nat) (λj=>[(1,ptr b1 0),(3,.map (some jH)),(39,.slice a ns.length cp),(40,.int .i64 (ns.length:Int)),(41,.int .i64 (j:Int))]) (λj=>[(jH,m.obj Value.bool (vG (dm ns)))]) (λj=>[wm,w1,w]) (λj=>Gh.no) (λj=>j<=ns.length/\AE ns j) (λj=>ns.length-j) 0 ⟨dx _,λi x hi=>absurd hi zM⟩ zR rfl rfl z1 ?_;rintro j ⟨hj,er⟩;refine B 6 ?_;refine aO ?_ ?_
 ·intro cY;refine B 5 ?_;obtain⟨bo,oo,cs0,to,fA,rfl,fG,hcs,ar⟩:=aN.get zM;obtain⟨x,hx⟩:=nj ns j zM;refine B 3 ?_;refine rq (.agg (gf x)) (ag isAgg355 sizeOf355 rfl A2 hcs zZ yo (nl ar hx rfl)) (va (nq ar hx rfl)) ?_;refine aY zeroValue355 rfl rfl ?_;refine yW ?_;intro rA EV EW;refine B 1 ?_;refine zRh ?_;refine B 3 ?_;by_cases h1:x.at_<1
  ·refine LC ?_;refine nk 34 ((.det [] _)::(.det [0] _)::(.det [1] _)::(.det [2] _)::(.det [3] undef)::(.det [3,4] undef)::(.det [3,5] undef)::(.det [3,6] _)::(.det [7] _)::(.det [8] undef)::(.det [8,9] undef)::(.det [8,10] undef)::(.det [11] undef)::(.det [11,12] undef)::(.det [11] undef)::(.det [11,14] undef)::(.det [11] undef)::(.det [11,16] undef)::(.det [11,15,17] undef)::(.det [11,18] undef)::(.det [11,19] undef)::(.det [11,13,20] undef)::(.det [8,11,21] undef)::(.det [8,22] _)::(.det [23] _)::(.det [24] undef)::(.det [24,25] undef)::(.det [24,26] undef)::(.det [24,27] undef)::(.det [24,28] _)::(.det [29] _)::(.det [30] undef)::(.det [30] undef)::(.det [30,32] undef)::[]) zT (xc z5 (xc z2 (xc (by exact λae=>X.val rfl rfl (RV.re (v':=.bool true) (mZ rfl rfl) (vb (decide_eq_true zM))) (λ_ _=>rfl)) (xc zO (xc zN (xc zN (xc zN (xc z6 (xc zO (xc zN (xc zN (xc zN (xc zN (xc zN (xc zN (xc zN (xc zN (xc zN (xc zN (xc zN (xc zN (xc zN (xc zN (xc z6 (xc zO (xc zN (xc zN (xc zN (xc zN (xc z6 (xc zO (xc zN (xc zN (xc zN (xn))))))))))))))))))))))))))))))))))) zT zT zT (λae=>?_);exact SC
  by_cases h2:1023<x.at_
  ·refine LC ?_;refine nk 34 ((.det [] _)::(.det [0] _)::(.det [1] _)::(.det [2] _)::(.det [3] _)::(.det [3,4] _)::(.det [3,5] _)::(.det [3,6] _)::(.det [7] _)::(.det [8] undef)::(.det [8,9] undef)::(.det [8,10] undef)::(.det [11] undef)::(.det [11,12] undef)::(.det [11] undef)::(.det [11,14] undef)::(.det [11] undef)::(.det [11,16] undef)::(.det [11,15,17] undef)::(.det [11,18] undef)::(.det [11,19] undef)::(.det [11,13,20] undef)::(.det [8,11,21] undef)::(.det [8,22] _)::(.det [23] _)::(.det [24] undef)::(.det [24,25] undef)::(.det [24,26] undef)::(.det [24,27] undef)::(.det [24,28] _)::(.det [29] _)::(.det [30] undef)::(.det [30] undef)::(.det [30,32] undef)::[]) zT (xc z5 (xc z2 (xc Pw (xc zO (xc z5 (xc z2 (xc Jc (xc z8 (xc zO (xc zN (xc zN (xc zN (xc zN (xc zN (xc zN (xc zN (xc zN (xc zN (xc zN (xc zN (xc zN (xc zN (xc zN (xc z6 (xc zO (xc zN (xc zN (xc zN (xc zN (xc z6 (xc zO (xc zN (xc zN (xc zN (xn))))))))))))))))))))))))))))))))))) zT zT zT (λae=>?_);exact SC
  obtain⟨e,he⟩:∃e,(if cE x.pub then(0:Int)else 40)=e:=⟨_,rfl⟩;by_cases h3:j=0/\¬e=0
  ·refine LC ?_;refine nk 34 ((.det [] _)::(.det [0] _)::(.det [1] _)::(.det [2] _)::(.det [3] _)::(.det [3,4] _)::(.det [3,5] _)::(.det [3,6] _)::(.det [7] _)::(.det [8] _)::(.det [8,9] _)::(.det [8,10] _)::(.det [11] undef)::(.det [11,12] undef)::(.det [11] undef)::(.det [11,14] undef)::(.det [11] undef)::(.det [11,16] undef)::(.det [11,15,17] undef)::(.det [11,18] undef)::(.det [11,19] undef)::(.det [11,13,20] undef)::(.det [8,11,21] _)::(.det [8,22] _)::(.det [23] _)::(.det [24] _)::(.det [24,25] _)::(.det [24,26] _)::(.det [24,27] _)::(.det [24,28] _)::(.det [29] _)::(.det [30] undef)::(.det [30] undef)::(.det [30,32] undef)::[]) zT (xc z5 (xc z2 (xc Pw (xc zO (xc z5 (xc z2 (xc Gb (xc z8 (xc zO (xc zO (xc Gb (xc zO (xc zN (xc zN (xc zN (xc zN (xc zN (xc zN (xc zN (xc zN (xc zN (xc zN (xc z8 (xc z8 (xc zO (xc z5 (xc z2 (xc Xe (xc zYd (xc z8 (xc zO (xc zN (xc zN (xc zN (xn))))))))))))))))))))))))))))))))))) zT zT zT (λae=>?_);exact SC
  by_cases h4:j=0
  ·refine LC ?_;refine nk 34 ((.det [] _)::(.det [0] _)::(.det [1] _)::(.det [2] _)::(.det [3] _)::(.det [3,4] _)::(.det [3,5] _)::(.det [3,6] _)::(.det [7] _)::(.det [8] _)::(.det [8,9] _)::(.det [8,10] _)::(.det [11] undef)::(.det [11,12] undef)::(.det [11] undef)::(.det [11,14] undef)::(.det [11] undef)::(.det [11,16] undef)::(.det [11,15,17] undef)::(.det [11,18] undef)::(.det [11,19] undef)::(.det [11,13,20] undef)::(.det [8,11,21] _)::(.det [8,22] _)::(.det [23] _)::(.det [24] _)::(.det [24,25] _)::(.det [24,26] _)::(.det [24,27] _)::(.det [24,28] _)::(.det [29] _)::(.det [30] _)::(.det [30] _)::(.det [30,32] _)::[]) zT (xc z5 (xc z2 (xc Pw (xc zO (xc z5 (xc z2 (xc Gb (xc z8 (xc zO (xc zO (xc Gb (xc zO (xc zN (xc zN (xc zN (xc zN (xc zN (xc zN (xc zN (xc zN (xc zN (xc zN (xc z8 (xc z8 (xc zO (xc z5 (xc z2 (xc Xe (xc zXd (xc z8 (xc zO (xc zO (xc z5 (xc z2 (xn))))))))))))))))))))))))))))))))))) zT zT zT (λae=>?_);refine zyg ?_;refine B 4 ?_;refine aO ?_ ?_
   ·intro gb;refine B 11 ?_;exact Xf
   intro gb;exact z0j
  obtain⟨y,hy⟩:=nj ns (j-1) zM;by_cases h5:x.at_<=y.at_
  ·refine LC ?_;refine nk 34 ((.det [] _)::(.det [0] _)::(.det [1] _)::(.det [2] _)::(.det [3] _)::(.det [3,4] _)::(.det [3,5] _)::(.det [3,6] _)::(.det [7] _)::(.det [8] _)::(.det [8,9] _)::(.det [8,10] _)::(.det [11] _)::(.det [11,12] _)::(.det [11] _)::(.det [11,14] _)::(.det [11] _)::(.det [11,16] _)::(.det [11,15,17] _)::(.det [11,18] _)::(.det [11,19] _)::(.det [11,13,20] _)::(.det [8,11,21] _)::(.det [8,22] _)::(.det [23] _)::(.det [24] undef)::(.det [24,25] undef)::(.det [24,26] undef)::(.det [24,27] undef)::(.det [24,28] _)::(.det [29] _)::(.det [30] undef)::(.det [30] undef)::(.det [30,32] undef)::[]) zT (xc z5 (xc z2 (xc Pw (xc zO (xc z5 (xc z2 (xc Gb (xc z8 (xc zO (xc zO (xc Jc (xc zO (xc z5 (xc z2 (xc zxc (xc zrd (xc zO (xc EM (xc zId (xc z5 (xc zmd (xc zVd (xc z6 (xc z8 (xc zO (xc zN (xc zN (xc zN (xc zN (xc z6 (xc zO (xc zN (xc zN (xc zN (xn))))))))))))))))))))))))))))))))))) zT zT zT (λae=>?_);exact SC
  by_cases h6:¬e=0
  ·refine LC ?_;refine nk 34 ((.det [] _)::(.det [0] _)::(.det [1] _)::(.det [2] _)::(.det [3] _)::(.det [3,4] _)::(.det [3,5] _)::(.det [3,6] _)::(.det [7] _)::(.det [8] _)::(.det [8,9] _)::(.det [8,10] _)::(.det [11] _)::(.det [11,12] _)::(.det [11] _)::(.det [11,14] _)::(.det [11] _)::(.det [11,16] _)::(.det [11,15,17] _)::(.det [11,18] _)::(.det [11,19] _)::(.det [11,13,20] _)::(.det [8,11,21] _)::(.det [8,22] _)::(.det [23] _)::(.det [24] _)::(.det [24,25] _)::(.det [24,26] _)::(.det [24,27] _)::(.det [24,28] _)::(.det [29] _)::(.det [30] undef)::(.det [30] undef)::(.det [30,32] undef)::[]) zT (xc z5 (xc z2 (xc Pw (xc zO (xc z5 (xc z2 (xc Gb (xc z8 (xc zO (xc zO (xc Jc (xc zO (xc z5 (xc z2 (xc zxc (xc zrd (xc zO (xc EM (xc zId (xc z5 (xc zmd (xc zwd (xc z6 (xc z8 (xc zO (xc z5 (xc z2 (xc Xe (xc zYd (xc z8 (xc zO (xc zN (xc zN (xc zN (xn))))))))))))))))))))))))))))))))))) zT zT zT (λae=>?_);exact SC
  refine LC ?_;refine nk 34 ((.det [] _)::(.det [0] _)::(.det [1] _)::(.det [2] _)::(.det [3] _)::(.det [3,4] _)::(.det [3,5] _)::(.det [3,6] _)::(.det [7] _)::(.det [8] _)::(.det [8,9] _)::(.det [8,10] _)::(.det [11] _)::(.det [11,12] _)::(.det [11] _)::(.det [11,14] _)::(.det [11] _)::(.det [11,16] _)::(.det [11,15,17] _)::(.det [11,18] _)::(.det [11,19] _)::(.det [11,13,20] _)::(.det [8,11,21] _)::(.det [8,22] _)::(.det [23] _)::(.det [24] _)::(.det [24,25] _)::(.det [24,26] _)::(.det [24,27] _)::(.det [24,28] _)::(.det [29] _)::(.det [30] _)::(.det [30] _)::(.det [30,32] _)::[]) zT (xc z5 (xc z2 (xc Pw (xc zO (xc z5 (xc z2 (xc Gb (xc z8 (xc zO (xc zO (xc Jc (xc zO (xc z5 (xc z2 (xc zxc (xc zrd (xc zO (xc EM (xc zId (xc z5 (xc zmd (xc zwd (xc z6 (xc z8 (xc zO (xc z5 (xc z2 (xc Xe (xc zXd (xc z8 (xc zO (xc zO (xc z5 (xc z2 (xn))))))))))))))))))))))))))))))))))) zT zT zT (λae=>?_);refine zyg ?_;refine B 4 ?_;refine aO ?_ ?_
  ·intro gL;refine B 11 ?_;exact Xf
  intro gL;exact z0j
 intro cY;refine B 11 ?_;exact Xf
def iT (kv:List (Int×Int)) (n:Int):List (Int×Int):=gF kv n
def lW (kv:List (Int×Int)) (d:Int):List (Int×Int):=(cH d).foldl iT (iT kv (512+d))
theorem nig{l:List Int}{n:Int}(hx:l[i]? =some n)(kv:List (Int×Int)):(l.take (i+1)).foldl iT kv=gF ((l.take i).foldl iT kv) n:=by rw[nC hx];simp[iT,DY]
theorem ndn{l:List Int}(h:¬i<l.length)(kv:List (Int×Int)):(l.take i).foldl iT kv=l.foldl iT kv:=by rw[jo zM]
theorem SD(kv:List (Int×Int))(d:Int):(lW kv d).length<=kv.length:=by
 have key:∀(l:List Int) (kv:List (Int×Int)),(l.foldl iT kv).length<=kv.length:=by
  intro l;induction l with
  |nil=>intro kv;exact ao _
  |cons n l ih=>intro kv;exact aS (ih _) (n4h kv n).length_le
 exact aS (key _ _) (n4h kv _).length_le
theorem n3g(kv:List (Int×Int)):(oJ kv).length=kv.length:=by unfold oJ;rw[fy,vA,fy]
theorem nUf(ns:List Nd)(hn:ns.length<=100000)(N:Nat)(a:Option Addr)(cp:Nat)(w:World)(hN:N<=w.heap.size)(aN:ah gf 2 N w a ns)(eX:iJ ns=210)(d:Int)(mem:Bool):Calls prog 218 #[.agg #[.slice a ns.length cp],.int .i64 d,.bool mem] w (av w (.tuple #[.map none,.slice none 0 0,.int .i64 210])):=by
 refine z8h ?_;refine B 2 ?_;refine yX ?_;intro b3 w3 aJ aD dr bY cR;refine B 8 ?_;refine zbf ?_;refine zGg ?_;refine B 6 ?_;refine FB ?_;refine B 13 ?_;exact bG (.inl rfl) results218 (RS.t rfl (RS.t rfl (RS.t rfl RS.n))) A1 trivial rfl
theorem nek(ns:List Nd)(hn:ns.length<=100000)(N:Nat)(a:Option Addr)(cp:Nat)(w:World)(hN:N<=w.heap.size)(aN:ah gf 2 N w a ns)(eX:iJ ns=0)(d:Int)(hd:dV d)(eN:aC (dc ns) (512+d)=none):Calls prog 218 #[.agg #[.slice a ns.length cp],.int .i64 d,.bool true] w (av w (.tuple #[.map none,.slice none 0 0,.int .i64 200])):=by
 have hd1:=hd.1;have Ai:=hd.2;refine z8h ?_;refine B 2 ?_;refine yX ?_;intro b3 w3 aJ aD dr bY cR;refine zPi ?_;intro bf m vJ Pq hm;replace vJ:=yb vJ;refine z1g ?_;refine wD ?_;refine B 2 ?_;refine Pp ?_;refine B 5 ?_;refine rq (.bool true) (dP rfl) (by rw[eN];rfl) ?_;refine B 14 ?_;exact bG (.inl rfl) results218 (RS.t rfl (RS.t rfl (RS.t rfl RS.n))) A1 wE rfl
theorem nbf(ns:List Nd)(hn:ns.length<=100000)(N:Nat)(a:Option Addr)(cp:Nat)(w:World)(hN:N<=w.heap.size)(aN:ah gf 2 N w a ns)(eX:iJ ns=0)(d:Int)(hd:dV d)(mem:Bool)(jT:mem=true->(aC (dc ns) (512+d)).isSome=true):Calls prog 218 #[.agg #[.slice a ns.length cp],.int .i64 d,.bool mem] w (Jd w (Value.int .i64) (lW (dc ns) d) ai 1 (cH d) (λmp s=>.tuple #[mp,s,.int .i64 0])):=by
 have hd1:=hd.1;have Ai:=hd.2;have hpl:=nml d;refine z8h ?_;refine B 2 ?_;refine yX ?_;intro b3 w3 aJ aD dr bY cR;refine zPi ?_;intro bf m vJ Pq hm;replace vJ:=yb vJ;refine z1g ?_;refine wD ?_;refine B 2 ?_;refine Pp ?_;refine B 4 ?_;refine nh (t:=37) rfl (λaj=>?_) (λaj=>?_)
 ·replace aj:=ya aj;refine B 1 ?_;refine rq (.bool false) (dP rfl) (vb (by rw[jT gM];rfl)) ?_;refine B 10 ?_;refine zDf ?_;intro Wp ap lV wp xf LB qH pO;have su:=xf.sizes;replace su:=yb su;have hzp:=LB.size;have sw:=xf.under;replace sw:=yg sw;refine B 9 ?_;refine QR ?_;refine B 8 ?_;refine zXf ?_;intro m1 aX;refine B 11 ?_;refine zZe ?_;rintro⟨mi,i⟩ ⟨hi,uK⟩;dsimp only at hi uK ⊢;refine B 6 ?_;refine aO ?_ ?_
  ·intro aQ;exact zAj
  intro aQ;exact ztj
 replace aj:=ya aj;refine B 12 ?_;refine zDf ?_;intro Wp ap lV wp xf LB qH pO;have su:=xf.sizes;replace su:=yb su;have hzp:=LB.size;have sw:=xf.under;replace sw:=yg sw;refine B 9 ?_;refine QR ?_;refine B 8 ?_;refine zXf ?_;intro m1 aX;refine B 11 ?_;refine zZe ?_;rintro⟨mi,i⟩ ⟨hi,uK⟩;dsimp only at hi uK ⊢;refine B 6 ?_;refine aO ?_ ?_
 ·intro cY;exact zAj
 intro cY;exact ztj
theorem Gc(ns:List Nd)(hn:ns.length<=100000)(N:Nat)(a:Option Addr)(cp:Nat)(w:World)(hN:N<=w.heap.size)(aN:ah gf 2 N w a ns)(eX:iJ ns=210)(d p:Int):Calls prog 222 #[.agg #[.slice a ns.length cp],.int .i64 d,.int .i64 p] w (nB w fw 2 355 [] (λs=>.tuple #[.agg #[s],.int .i64 210])):=by
 refine z7h ?_;refine B 2 ?_;refine yX ?_;intro b3 w3 aJ aD dr bY cR;refine xd ?_;refine yW ?_;intro b6 gm kg;refine Py ?_;refine call call218 rfl rfl rfl (λW hS=>nUf ns hn N a cp W (aS hN (hS.links w A1).size) (aN.up (ao _) (hS.same A1 hN zU z7)) eX d false) ?_;refine zBi ?_;exact nT (enc:=fw) (m:=2) (t:=355) (xs:=[]) (H0:=_) (H1:=[]) (r:=.nil) (.inl rfl) results222 (RS.wA (i:=0) rfl isAgg55 sizeOf55 rfl (aT rfl) (RS.t rfl RS.n)) A1 zSc rfl rfl True.intro (dN _).symm
theorem Gd(ns:List Nd)(hn:ns.length<=100000)(N:Nat)(a:Option Addr)(cp:Nat)(w:World)(hN:N<=w.heap.size)(aN:ah gf 2 N w a ns)(eX:iJ ns=0)(d p:Int)(hd:dV d)(hgk:(if cE p then(0:Int)else 40)=40):Calls prog 222 #[.agg #[.slice a ns.length cp],.int .i64 d,.int .i64 p] w (nB w fw 2 355 [] (λs=>.tuple #[.agg #[s],.int .i64 50])):=by
 have hd1:=hd.1;have Ai:=hd.2;refine z7h ?_;refine B 2 ?_;refine yX ?_;intro b3 w3 aJ aD dr bY cR;refine xd ?_;refine yW ?_;intro b6 gm kg;refine Py ?_;refine zRf ?_;intro bm m a8 Je Wc wc xg Ge LD xh nt uL hm qI xi;replace nt:=yb nt;simp only[bE,and_true]at uL;have uM:=Ge.size;have AI:=xg.sizes;replace AI:=yb AI;have AJ:=xg.under;replace AJ:=yg AJ;refine B 13 ?_;refine yk ?_;refine B 9 ?_;refine call call63 rfl rfl rfl (λW hS=>by rw[<-hgk];exact nE p W) (v:=.int .i64 40) ?_;refine FB ?_;refine B 6 ?_;refine aV (i:=1) rfl sizeOf55 rfl rfl rfl rfl rfl rfl ?_;refine B 5 ?_;exact nT (enc:=fw) (m:=2) (t:=355) (xs:=[]) (H0:=_) (H1:=[]) (r:=.nil) (.inl rfl) results222 (RS.wA (i:=1) rfl isAgg55 sizeOf55 rfl (aT rfl) (RS.t rfl RS.n)) A2 zSc rfl rfl True.intro (dN _).symm
theorem LF(ns:List Nd)(hn:ns.length<=100000)(N:Nat)(a:Option Addr)(cp:Nat)(w:World)(hN:N<=w.heap.size)(aN:ah gf 2 N w a ns)(eX:iJ ns=0)(d p:Int)(hd:dV d)(vl:ns.length<100000)(hgk:(if cE p then(0:Int)else 40)=0):Calls prog 222 #[.agg #[.slice a ns.length cp],.int .i64 d,.int .i64 p] w (nB w fw 2 355 (oJ (cq (lW (dc ns) d) (512+d) p)) (λs=>.tuple #[.agg #[s],.int .i64 0])):=by
 have hd1:=hd.1;have Ai:=hd.2;refine z7h ?_;refine B 2 ?_;refine yX ?_;intro b3 w3 aJ aD dr bY cR;refine xd ?_;refine yW ?_;intro b6 gm kg;refine Py ?_;refine zRf ?_;intro bm m a8 Je Wc wc xg Ge LD xh nt uL hm qI xi;replace nt:=yb nt;simp only[bE,and_true]at uL;have uM:=Ge.size;have AI:=xg.sizes;replace AI:=yb AI;have AJ:=xg.under;replace AJ:=yg AJ;refine B 13 ?_;refine yk ?_;refine B 9 ?_;refine call call63 rfl rfl rfl (λW hS=>by rw[<-hgk];exact nE p W) (v:=.int .i64 0) ?_;refine yk ?_;refine B 11 ?_;refine Ja (i:=0) (ev:=(Value.int .i64)) (v:=p) rfl hm underlying319 underlying3 rfl rfl rfl rfl ?_;intro m2 aE;refine B 5 ?_;refine Pz (enc:=fw) (m:=2) (t:=355) (xs:=oJ (cq (lW (dc ns) d) (512+d) p)) (v:=λs=>.agg #[s]) (first:=[]) (cap:=[]) rfl call220 rfl rfl rfl (λW hS=>n8f (by have h1:=Pt (lW (dc ns) d) (512+d) p;have h2:=SD (dc ns) d;have h3:=Pu ns;omega) bm m2 aE W (hS.own _ A0)) ?_;intro r bH al;refine zqh ?_;refine B 4 ?_;exact nT (enc:=fw) (m:=2) (t:=355) (xs:=oJ (cq (lW (dc ns) d) (512+d) p)) (H0:=[(bm,m2.obj (Value.int .i64) (cq (lW (dc ns) d) (512+d) p)),(b6,.cells #[r.val (oJ (cq (lW (dc ns) d) (512+d) p)).length] 55 (0,0))]) (H1:=[]) (r:=r) (.inl rfl) results222 (RS.wA (i:=1) rfl isAgg55 sizeOf55 rfl (aT rfl) (RS.t rfl RS.n)) A2 zlc rfl al (Rw.ge_of bH A2) Xg
theorem nto(ns:List Nd)(hn:ns.length<=100000)(N:Nat)(a:Option Addr)(cp:Nat)(w:World)(hN:N<=w.heap.size)(aN:ah gf 2 N w a ns)(eX:iJ ns=210)(d:Int):Calls prog 221 #[.agg #[.slice a ns.length cp],.int .i64 d] w (nB w fw 2 355 [] (λs=>.tuple #[.agg #[s],.int .i64 210])):=by
 refine zRi ?_;refine yV ?_;intro b2 w2 aI aE dY cA db;refine xd ?_;refine yW ?_;intro b4 dD dH;refine B 5 ?_;refine zkg ?_;refine B 1 ?_;refine zhh ?_;exact zJj
theorem nrp(ns:List Nd)(hn:ns.length<=100000)(N:Nat)(a:Option Addr)(cp:Nat)(w:World)(hN:N<=w.heap.size)(aN:ah gf 2 N w a ns)(eX:iJ ns=0)(d:Int)(hd:dV d)(eN:aC (dc ns) (512+d)=none):Calls prog 221 #[.agg #[.slice a ns.length cp],.int .i64 d] w (nB w fw 2 355 [] (λs=>.tuple #[.agg #[s],.int .i64 200])):=by
 refine zRi ?_;refine yV ?_;intro b2 w2 aI aE dY cA db;refine xd ?_;refine yW ?_;intro b4 dD dH;refine B 5 ?_;refine zkg ?_;refine B 1 ?_;refine zeh ?_;exact zJj
theorem n8o(ns:List Nd)(hn:ns.length<=100000)(N:Nat)(a:Option Addr)(cp:Nat)(w:World)(hN:N<=w.heap.size)(aN:ah gf 2 N w a ns)(eX:iJ ns=0)(d:Int)(hd:dV d)(jT:(aC (dc ns) (512+d)).isSome=true):Calls prog 221 #[.agg #[.slice a ns.length cp],.int .i64 d] w (nB w fw 2 355 (oJ (lW (dc ns) d)) (λs=>.tuple #[.agg #[s],.int .i64 0])):=by
 have hd1:=hd.1;have Ai:=hd.2;refine zRi ?_;refine yV ?_;intro b2 w2 aI aE dY cA db;refine xd ?_;refine yW ?_;intro b4 dD dH;refine B 5 ?_;refine zkg ?_;refine B 1 ?_;refine zUf ?_;intro bm m a8 Je Wc wc xg Ge LD xh nt uL hm qI xi;replace nt:=yb nt;simp only[bE,and_true]at uL;have uM:=Ge.size;have AI:=xg.sizes;replace AI:=yb AI;have AJ:=xg.under;replace AJ:=yg AJ;refine B 12 ?_;refine Pz (enc:=fw) (m:=2) (t:=355) (xs:=oJ (lW (dc ns) d)) (v:=λs=>.agg #[s]) (first:=[]) (cap:=[]) rfl call220 rfl rfl rfl (λW hS=>n8f (by have h2:=SD (dc ns) d;have h3:=Pu ns;omega) bm m hm W (hS.own _ A0)) ?_;intro r bH al;refine B 1 ?_;refine zqh ?_;refine B 4 ?_;exact nT (enc:=fw) (m:=2) (t:=355) (xs:=oJ (lW (dc ns) d)) (H0:=[(bm,m.obj (Value.int .i64) (lW (dc ns) d)),(b4,.cells #[r.val (oJ (lW (dc ns) d)).length] 55 (0,0))]) (H1:=[]) (r:=r) (.inl rfl) results221 (RS.wA (i:=1) rfl isAgg55 sizeOf55 rfl (aT rfl) (RS.t rfl RS.n)) A2 zlc rfl al (Rw.ge_of bH A2) Xg
theorem LG(x:Int)(hx:cE x)(w:World):Calls prog 219 #[.int .i64 x] w (av w (.bool false)):=by
 refine enter (vs:=[_]) func219 rfl ntmps219 rfl ?_;refine B 8 ?_;refine call call63 rfl rfl rfl (λW hS=>by have:=nE x W;rw[if_pos hx]at this;exact this) ?_;refine yk ?_;refine B 4 ?_;refine ay results219 rfl A0 ?_;rfl
theorem nij(w:World)(l:List Int)(kD:∀y∈l,cE y)(hl:l.length<=1000)(NP:Nat)(ap:Option Addr)(lV:Nat)(kE:ah encI 1 NP w ap l)(yr:NP<=w.heap.size):Calls prog 242 #[.slice ap l.length lV,.func (.func 219) #[] #[]] w (av w (.int .i64 (-1))):=by
 refine enter (vs:=[_,_]) func242 rfl ntmps242 rfl ?_;refine B 14 ?_;refine CJ.loop (α:=Nat) (λj=>[(0,.slice ap l.length lV),(1,.func (.func 219) #[] #[]),(7,.int .i64 (l.length:Int)),(8,.int .i64 (j:Int))]) (λj=>[]) (λj=>[w]) (λj=>Gh.no) (λj=>j<=l.length) (λj=>l.length-j) 0 (dx _) zR rfl rfl z1 ?_;rintro j hj;refine B 6 ?_;refine aO ?_ ?_
 ·intro aj;refine B 11 ?_;obtain⟨b0,SE,cs0,t0,fA,rfl,abY,Gf,ar⟩:=kE.get zM;obtain⟨x,hx⟩:=nj l j zM;refine B 5 ?_;refine rv rfl rfl rfl (aa (v:=.int .i64 x) isAgg3 rfl A0 Gf zZ trivial (nR ar hx rfl zQ)) ?_;refine nJ (f:=219) (cap:=[]) rfl call219 rfl rfl rfl (λW hS=>LG x (kD x (cB hx)) W) ?_;refine B 10 ?_;exact EH
 intro aj;refine B 11 ?_;refine ay results242 rfl A0 ?_;rfl
theorem nGh(w:World)(l:List Int)(kD:∀y∈l,cE y)(hl:l.length<=1000)(NP:Nat)(ap:Option Addr)(lV:Nat)(kE:ah encI 1 NP w ap l)(yr:NP<=w.heap.size):Calls prog 175 #[.slice ap l.length lV,.func (.func 219) #[] #[]] w (av w (.bool false)):=by
 refine enter (vs:=[_,_]) func175 rfl ntmps175 rfl ?_;refine B 9 ?_;refine call call242 rfl rfl rfl (λW hS=>nij W l kD hl NP ap lV (kE.up (ao _) (hS.same A0 yr zU trivial)) (aS yr (hS.links w A0).size)) ?_;refine Pp ?_;refine B 4 ?_;refine ay results175 rfl A0 ?_;rfl
theorem naj:∀(k n:Nat),2^k<=n->n<2^(k+1)->(lh n).length=k
 |0,n,h1,h2=>by rw[WV zM];rfl
 |k+1,n,h1,h2=>by
  have e:2^(k+1)=2*2^k:=by rw[Nat.pow_succ,ts]
  have e2:2^(k+2)=2*2^(k+1):=by rw[Nat.pow_succ,ts]
  have h0:0<2^k:=Nat.pow_pos zQ;rw[Sb zM,ec,naj k (n/2) zM zM]
theorem n4j(hd:dV d):(cH d).length=9:=by
 have h1:=hd.1;have h2:=hd.2;unfold cH;rw[fy];exact naj 9 _ zM zM
theorem nZo(hd:dV d):(iR d).length=9:=by
 have h1:=hd.1;have h2:=hd.2;unfold iR;rw[fy];exact naj 9 _ zM zM
def pe (kv:List (Int×Int)) (p:Int×Int):List (Int×Int):=cq kv p.1 p.2
def oc (kv:List (Int×Int)) (d:Int) (l:List Int):List (Int×Int):=((cH d).zip (l.drop 1)).foldl pe (cq (lW kv d) (512+d) ((l[0]?).getD 0))
theorem n2j{z:List (Int×Int)}{n v:Int}(hz:z[i]? =some (n,v))(kv:List (Int×Int)):(z.take (i+1)).foldl pe kv=cq ((z.take i).foldl pe kv) n v:=by rw[nC hz];simp[pe,DY]
theorem AK(z:List (Int×Int)):∀kv:List (Int×Int),(z.foldl pe kv).length<=kv.length+z.length:=by
 induction z with
 |nil=>intro kv;simp
 |cons p z ih=>
  intro kv;have h1:=ih (pe kv p);have h2:=Pt kv p.1 p.2;simp only[List.foldl_cons,ec];unfold pe at h1 ⊢;omega
theorem n3k{kv:List (Int×Int)}(hd:dV d)(l:List Int):(oc kv d l).length<=kv.length+10:=by
 unfold oc;have h1:=AK ((cH d).zip (l.drop 1)) (cq (lW kv d) (512+d) ((l[0]?).getD 0));have h2:=Pt (lW kv d) (512+d) ((l[0]?).getD 0);have h3:=SD kv d;have h4:=n4j hd;rw[List.length_zip]at h1;omega
theorem LH{A B:List Int}{n v:Int}(h1:A[i]? =some n)(h2:B[i+1]? =some v):(A.zip (B.drop 1))[i]? =some (n,v):=by
 rw[List.getElem?_zip_eq_some];exact⟨h1,by rw[wC,Nat.add_comm];exact h2⟩
theorem nip(ns:List Nd)(hn:ns.length<=100000)(N:Nat)(a:Option Addr)(cp:Nat)(w:World)(hN:N<=w.heap.size)(aN:ah gf 2 N w a ns)(eX:iJ ns=210)(d:Int)(l:List Int)(kD:∀y∈l,cE y)(hl:l.length<=1000)(NP:Nat)(ap:Option Addr)(lV:Nat)(kE:ah encI 1 NP w ap l)(yr:NP<=w.heap.size):Calls prog 154 #[.agg #[.slice a ns.length cp],.int .i64 d,.slice ap l.length lV] w (nB w fw 2 355 [] (λs=>.tuple #[.agg #[s],.int .i64 210])):=by
 refine z9h ?_;refine B 2 ?_;refine yX ?_;intro b3 w3 aJ aD dr bY cR;refine xd ?_;refine yW ?_;intro b6 gm kg;refine Py ?_;refine zhh ?_;exact z3j
theorem AL(ns:List Nd)(hn:ns.length<=100000)(N:Nat)(a:Option Addr)(cp:Nat)(w:World)(hN:N<=w.heap.size)(aN:ah gf 2 N w a ns)(eX:iJ ns=0)(d:Int)(hd:dV d)(eN:aC (dc ns) (512+d)=none)(l:List Int)(kD:∀y∈l,cE y)(hl:l.length<=1000)(NP:Nat)(ap:Option Addr)(lV:Nat)(kE:ah encI 1 NP w ap l)(yr:NP<=w.heap.size):Calls prog 154 #[.agg #[.slice a ns.length cp],.int .i64 d,.slice ap l.length lV] w (nB w fw 2 355 [] (λs=>.tuple #[.agg #[s],.int .i64 200])):=by
 refine z9h ?_;refine B 2 ?_;refine yX ?_;intro b3 w3 aJ aD dr bY cR;refine xd ?_;refine yW ?_;intro b6 gm kg;refine Py ?_;refine zeh ?_;exact z3j
theorem AM(ns:List Nd)(hn:ns.length<=100000)(N:Nat)(a:Option Addr)(cp:Nat)(w:World)(hN:N<=w.heap.size)(aN:ah gf 2 N w a ns)(eX:iJ ns=0)(d:Int)(hd:dV d)(jT:(aC (dc ns) (512+d)).isSome=true)(l:List Int)(kD:∀y∈l,cE y)(hl:l.length<=1000)(NP:Nat)(ap:Option Addr)(lV:Nat)(kE:ah encI 1 NP w ap l)(yr:NP<=w.heap.size)(LI:l.length=10)(vl:ns.length<90000):Calls prog 154 #[.agg #[.slice a ns.length cp],.int .i64 d,.slice ap l.length lV] w (nB w fw 2 355 (oJ (oc (dc ns) d l)) (λs=>.tuple #[.agg #[s],.int .i64 0])):=by
 have hd1:=hd.1;have Ai:=hd.2;have h9:=n4j hd;obtain⟨b0,SE,cs0,t0,fA,rfl,abY,Gf,ar⟩:=kE.get zM;obtain⟨x0,iU⟩:=nj l 0 zM;refine z9h ?_;refine B 2 ?_;refine yX ?_;intro b3 w3 aJ aD dr bY cR;refine xd ?_;refine yW ?_;intro b6 gm kg;refine Py ?_;refine zUf ?_;intro bm m a8 Je Wc wc xg Ge LD xh nt uL hm qI xi;replace nt:=yb nt;simp only[bE,and_true]at uL;have uM:=Ge.size;have AI:=xg.sizes;replace AI:=yb AI;have AJ:=xg.under;replace AJ:=yg AJ;refine B 13 ?_;refine yk ?_;refine B 10 ?_;refine rq (.bool false) (bM rfl rfl) (by rw[LI];rfl) ?_;refine B 2 ?_;refine call call175 rfl rfl rfl (λW hS=>nGh W l kD hl NP _ lV (kE.up (ao _) (hS.same A2 yr zU wE)) (aS yr (hS.links w A2).size)) ?_;refine B 13 ?_;refine rv rfl rfl rfl (aa (v:=.int .i64 x0) isAgg3 rfl A2 Gf zZ jS (nR ar iU rfl zQ)) ?_;refine Ja (i:=0) (ev:=(Value.int .i64)) (v:=x0) rfl hm underlying319 underlying3 rfl rfl rfl rfl ?_;intro m2 aE;refine B 11 ?_;refine CJ.loop (α:=Mp×Nat) (λp=>[(2,.slice (some ⟨b0,SE,none⟩) l.length lV),(6,ptr b6 0),(8,.map (some bm)),(37,.slice a8 (cH d).length Je),(38,.int .i64 ((cH d).length:Int)),(39,.int .i64 (p.2:Int))]) (λp=>[(bm,p.1.obj (Value.int .i64) ((((cH d).zip (l.drop 1)).take p.2).foldl pe (cq (lW (dc ns) d) (512+d) ((l[0]?).getD 0)))),(b6,.cells #[.slice none 0 0] 55 (0,0))]) (λp=>[wc,w3,w]) (λp=>Gh.no) (λp=>p.2<=(cH d).length/\p.1.Ok ((((cH d).zip (l.drop 1)).take p.2).foldl pe (cq (lW (dc ns) d) (512+d) ((l[0]?).getD 0)))) (λp=>(cH d).length-p.2) (m2,0) ⟨dx _,by simpa[iU]using aE⟩ zR (by simp[iU,Value.cells]) rfl z1 ?_
 rintro⟨mi,i⟩ ⟨hi,uK⟩;dsimp only at hi uK ⊢;refine B 6 ?_;refine aO ?_ ?_
 ·intro aj;refine B 5 ?_;obtain⟨bq,oq,Xb,tq,Xc,rfl,Xd,sx,sy⟩:=qI.get zM;have AH:=xi _ rfl;dsimp only at AH;obtain⟨n,hy⟩:=nj (cH d) i zM;obtain⟨x,hx⟩:=nj l (i+1) zM;have hz:=LH hy hx;refine B 3 ?_;refine zdh ?_;refine B 11 ?_;refine rv rfl rfl rfl (aa (v:=.int .i64 x) isAgg3 rfl A2 Gf zZ jS (nR ar hx zM zQ)) ?_;refine Ja (i:=0) (ev:=(Value.int .i64)) (v:=x) rfl uK underlying319 underlying3 rfl rfl rfl rfl ?_;intro m3 aD;refine B 7 ?_;refine PJ.again (m3,i+1) ⟨by dsimp only;omega,by rw[n2j hz];exact aD⟩ dE zR (by rw[n2j hz];rfl) rfl z1
 intro aj;refine B 6 ?_;have Jf:((cH d).zip (l.drop 1)).length=9:=by rw[List.length_zip,AN];omega
 have bT:((((cH d).zip (l.drop 1)).take i).foldl pe (cq (lW (dc ns) d) (512+d) ((l[0]?).getD 0)))=oc (dc ns) d l:=by rw[jo zM];rfl
 rw[bT]at uK ⊢
 rename Mp=>m4
 rename Mp.Ok (oc (dc ns) d l) m4=>dI
 refine B 2 ?_;refine Pz (enc:=fw) (m:=2) (t:=355) (xs:=oJ (oc (dc ns) d l)) (v:=λs=>.agg #[s]) (first:=[]) (cap:=[]) rfl call220 rfl rfl rfl (λW hS=>n8f (by have h2:=n3k (kv:=dc ns) hd l;have h3:=Pu ns;omega) bm m4 dI W (hS.own _ A0)) ?_;intro r bH al;refine zqh ?_;refine B 4 ?_;exact nT (enc:=fw) (m:=2) (t:=355) (xs:=oJ (oc (dc ns) d l)) (H0:=[(bm,m4.obj (Value.int .i64) (oc (dc ns) d l)),(b6,.cells #[r.val (oJ (oc (dc ns) d l)).length] 55 (0,0))]) (H1:=[]) (r:=r) (.inl rfl) results154 (RS.wA (i:=1) rfl isAgg55 sizeOf55 rfl (aT rfl) (RS.t rfl RS.n)) A2 zlc rfl al (Rw.ge_of bH A2) Xg
def ey (kv:List (Int×Int)):Nat->Int->List Int
 |0,_=>[]
 |k+1,n=>if(aC kv n).isSome=true then[n]else if 512<=n then[]else ey kv k (2*n)++ey kv k (2*n+1)
theorem n1h{kv:List (Int×Int)}{n:Int}(h:(aC kv n).isSome=true):ey kv (k+1) n=[n]:=by simp[ey,h]
theorem n9j{kv:List (Int×Int)}{n:Int}(h:¬(aC kv n).isSome=true)(h2:512<=n):ey kv (k+1) n=[]:=by simp only[ey];rw[if_neg h,if_pos h2]
theorem nWg{kv:List (Int×Int)}{n:Int}(h:¬(aC kv n).isSome=true)(h2:¬512<=n):ey kv (k+1) n=ey kv k (2*n)++ey kv k (2*n+1):=by simp only[ey];rw[if_neg h,if_neg h2]
def pP (kv:List (Int×Int)) (k:Nat) (n:Int) (i:Nat):List Int:=(List.range i).flatMap λ(j:Nat)=>ey kv k (2*n+(j:Int))
theorem n7h(kv:List (Int×Int))(k:Nat)(n:Int)(i:Nat):pP kv k n (i+1)=pP kv k n i++ey kv k (2*n+(i:Int)):=by simp[pP,List.range_succ]
theorem n3m(kv:List (Int×Int))(k:Nat)(n:Int):pP kv k n 2=ey kv k (2*n)++ey kv k (2*n+1):=by simp[pP,List.range_succ]
theorem Gg{kv:List (Int×Int)}{n:Int}{p:List Int}(hi:i<2)(h:p <+:ey kv k (2*n+(i:Int))):pP kv k n i++p <+:pP kv k n 2:=by
 have h1:pP kv k n i++p <+:pP kv k n (i+1):=by rw[n7h];exact(List.prefix_append_right_inj _).2 h
 refine h1.trans ?_;rcases(show i=0\/i=1 by omega)with rfl|rfl
 ·rw[n7h kv k n 1];exact List.prefix_append _ _
 exact List.prefix_refl _
theorem LJ(n:Int)(i:Nat)(h:i<2):(#[Value.int .i64 (2*n),Value.int .i64 (2*n+1)]:Array Value)[(i:Int).toNat*1]? =some (.int .i64 (2*n+(i:Int))):=by
 rcases(show i=0\/i=1 by omega)with rfl|rfl<;>simp
def SF (bx by_ mb:Nat):aA:=λj=>j=bx\/j=by_\/j=mb
def LK (kv:List (Int×Int)) (k:Nat):Prop:=∀(n:Int) (bx by_ mb:Nat) (m:Mp) (W:World),1<=n->n<1024->1024<=n*2^k->m.Ok kv->W.heap[bx]? =some (.cells #[.map (some mb)] 319 (0,0))->W.heap[by_]? =some (.cells #[.int .i64 n] 3 (0,0))->W.heap[mb]? =some (m.obj (Value.int .i64) kv)->
 vz prog 312 [ptr bx 0,ptr by_ 0] ai (yn (ey kv k n)) (Is (ey kv k n)) (λ_=>False) (SF bx by_ mb) W
theorem nXo(kv:List (Int×Int)):LK kv 0:=λn bx by_ mb m W h1 h2 h3=>by omega
theorem nRe(mp:Option Nat)(n:Int)(w:World):Calls prog 293 #[.map mp,.int .i64 n] w (cu w (λq:Nat×Nat=>.func (.func 312) #[] #[ptr q.1 0,ptr q.2 0]) (λq w1=>w.heap.size<=q.1/\w.heap.size<=q.2/\w1.heap[q.1]? =some (.cells #[.map mp] 319 (0,0))/\w1.heap[q.2]? =some (.cells #[.int .i64 n] 3 (0,0)))):=by
 refine enter (vs:=[_,_]) func293 rfl ntmps293 rfl ?_;refine B 2 ?_;refine yX ?_;intro b2 w2 aI aE dY cA db;refine yX ?_;intro b3 w3 aJ aD dr bY cR;refine B 10 ?_;refine jM (b2,b3) results293 rfl A2 rfl ?_;exact zfk
theorem Xh{n l Dk:Nat}(h1:n<=Dk)(h2:n<=l)(h:uN n ms):uN n ((l,rec,Dk)::ms):=by
 intro q hq;rcases cP.1 hq with rfl|hq
 ·exact⟨h2,h1⟩
 exact h q hq
theorem n1o{n i:Int}(h:1024<=n*2^(k+1))(hi:0<=i):1024<=(2*n+i)*2^k:=by
 rw[Int.pow_succ]at h;have hp:(0:Int)<2^k:=Int.pow_pos zQ;have h9:n*(2^k*2)=(2*n)*2^k:=by rw[Int.mul_comm (2^k) 2,<-Int.mul_assoc,Int.mul_comm n 2]
 have h8:(2*n+i)*2^k=(2*n)*2^k+i*2^k:=Int.add_mul _ _ _;have h7:0<=i*2^k:=Int.mul_nonneg hi zM;omega
theorem CJ.perm{Q:aF}{c:Code}(hp:H.Perm H')(h:CJ C c Q E D G L H'):CJ C c Q E D G L H:=λa W hN hD hF hS=>h a W hN hD hF (hS.perm hp)
theorem nbm(n:Nat):uN n []:=λq hq=>absurd hq z1
theorem nMo{kv:List (Int×Int)}(ih:LK kv k)(n:Int)(bx by_ mb:Nat)(m:Mp)(W:World)(h1:1<=n)(h2:n<1024)(h3:1024<=n*2^(k+1))(hm:m.Ok kv)(aP:W.heap[bx]? =some (.cells #[.map (some mb)] 319 (0,0)))(aI:W.heap[by_]? =some (.cells #[.int .i64 n] 3 (0,0)))(iS:W.heap[mb]? =some (m.obj (Value.int .i64) kv)):vz prog 312 [ptr bx 0,ptr by_ 0] ai (yn (ey kv (k+1) n)) (Is (ey kv (k+1) n)) (λ_=>False) (SF bx by_ mb) W:=by
 intro l0 M0 I X0 hM hI hX hy h0;have aX:¬(cj hM (λ_=>False) (hI [] _)).X bx:=by rintro(h|h);exact(hM _ h).2.2 (.inl rfl);exact h.elim
 have aE:¬(cj hM (λ_=>False) (hI [] _)).X by_:=by rintro(h|h);exact(hM _ h).2.2 (.inr (.inl rfl));exact h.elim
 have xb:¬(cj hM (λ_=>False) (hI [] _)).X mb:=by rintro(h|h);exact(hM _ h).2.2 (.inr (.inr rfl));exact h.elim
 have mB:=(aL.1 aP).1;have xj:=(aL.1 aI).1;have uF:=(aL.1 iS).1;refine wy (cj hM (λ_=>False) (hI [] _)) [] (vs:=[_,_,_]) func312 rfl ntmps312 rfl (I6 hM (hI [] _) h0 z1 Jg z1) ?_;refine B 2 ?_;refine yX ?_;intro b3 w3 aJ aD dr bY cR;refine B 7 ?_;refine rv rfl rfl rfl (gW (ev:=(Value.int .i64)) underlying319 underlying3 zeroValue3 hm (bN.old A1 iS xb trivial) rfl rfl) ?_;refine B 12 ?_;refine aO ?_ ?_
 ·intro aj;refine B 4 ?_;refine FN (λV=>hI ([]++[n]) V) hX (λ_ h=>h.elim) A1 rfl rfl rfl rfl (λW1 sj kP=>hy [] n _ W1 (by rw[n1h aj];exact List.prefix_refl _) sj kP) ?_ ?_
  ·intro V0 pQ;refine B 4 ?_;exact LL (ms:=([]:List Mk)) (H0:=[]) (.inl rfl) results312 A1 pQ (by intro j hj hx;simp[jU]at hx) (λA hA=>.inl ⟨[n],by rw[n1h aj],hA⟩)
  intro V0 pQ;refine B 4 ?_;exact LL (ms:=([]:List Mk)) (H0:=[]) (.inl rfl) results312 A1 pQ (by intro j hj hx;simp[jU]at hx) (λA hA=>.inr hA)
 intro aj;refine B 9 ?_;refine aO ?_ ?_
 ·intro aQ;refine B 2 ?_;exact LL (ms:=([]:List Mk)) (H0:=[]) (.inl rfl) results312 A1 (λ_ h=>h.elim) (by intro j hj hx;simp[jU]at hx) (λA hA=>.inl ⟨[],by rw[n9j (by simpa using aj) zM],hA⟩)
 intro aQ;refine B 9 ?_;refine rv rfl rfl rfl (uD underlying292 zeroValue292 sizeOf3 rfl rfl rfl rfl) ?_;refine B 4 ?_;refine n9l (α:=(Nat×List Mk)×aA) (λp=>SG p.1.2) (λp=>[(1,ptr bx 0),(2,ptr by_ 0),(3,ptr b3 0),(26,.agg #[.int .i64 (2*n),.int .i64 (2*n+1)]),(27,.int .i64 (p.1.1:Int))]) (λp=>jU p.1.2) (λp=>[w3,W]) (λp=>cj hM p.2 (hI (pP kv k n p.1.1) p.2)) (λp=>p.1.1<=2/\uN w3.heap.size p.1.2/\∀j,p.2 j->w3.heap.size<=j) (λp=>2-p.1.1) ((0,[]),λ_=>False) ⟨dx _,nbm _,λ_ h=>h.elim⟩ zR rfl rfl z1 rfl ?_;rintro⟨⟨i,ms⟩,V0⟩ ⟨hi,rG,pQ⟩;dsimp only at hi rG pQ ⊢;have aX:¬(cj hM V0 (hI (pP kv k n i) V0)).X bx:=by rintro(h|h);exact(hM _ h).2.2 (.inl rfl);have:=pQ _ h;omega
 clear aD;have aD:¬(cj hM V0 (hI (pP kv k n i) V0)).X b3:=by rintro(h|h);(have:=(hM _ h).1;omega);(have:=pQ _ h;omega)
 refine B 6 ?_;refine aO ?_ ?_
 ·intro cY;refine B 6 ?_;refine rv rfl rfl rfl (qm (v:=.int .i64 (2*n+(i:Int))) underlying292 isAgg3 sizeOf3 rfl rfl zM zM (LJ n i zM)) ?_;refine B 5 ?_;refine rv rfl rfl rfl (aa (v:=.map (some mb)) isAgg319 rfl A1 aP aX (SH rG zM) rfl) ?_;refine B 1 ?_;refine nr (α:=Nat×Nat) (v:=λq:Nat×Nat=>.func (.func 312) #[] #[ptr q.1 0,ptr q.2 0]) (Φ:=λ(W:World) (q:Nat×Nat) (w1:World)=>W.heap.size<=q.1/\W.heap.size<=q.2/\w1.heap[q.1]? =some (.cells #[.map (some mb)] 319 (0,0))/\w1.heap[q.2]? =some (.cells #[.int .i64 (2*n+(i:Int))] 3 (0,0))) call293 rfl rfl rfl (λW hS=>nRe (some mb) (2*n+(i:Int)) W) ?_;rintro Wk q wk vF F4 ⟨gX,gY,eO,eY⟩;try dsimp only at gX gY eO eY
  have qJ:=(aL.1 eO).1;have qK:=(aL.1 eY).1;have W8:=F4.size;have hzW:=(vF.links W A1).size;have dr:=(vF.links w3 A0).size;have hVk:∀j,V0 j->j<Wk.heap.size:=λj hj=>vF.xlt j (.inr hj);have sA:∀j,SF q.1 q.2 mb j->j<wk.heap.size/\j∉(jU ms).map (·.1)/\¬(cj hM V0 (hI (pP kv k n i) V0)).X j:=by
   intro j hj;have AO:Wk.heap.size<=j->j∉(jU ms).map (·.1)/\¬(cj hM V0 (hI (pP kv k n i) V0)).X j:=λhg=>⟨λhm=>by obtain⟨p,hp,e⟩:=bU.1 hm;have:=vF.lt p hp;omega,λhx=>by rcases hx with hx|hx;(have:=(hM _ hx).1;omega);(have:=hVk _ hx;omega)⟩;rcases hj with rfl|rfl|rfl
   ·exact⟨qJ,AO gX⟩
   ·exact⟨qK,AO gY⟩
   exact⟨by omega,λhm=>by obtain⟨p,hp,e⟩:=bU.1 hm;have:=Gj rG p hp;omega,λhx=>by rcases hx with hx|hx;(exact(hM _ hx).2.2 (.inr (.inr rfl)));(have:=pQ _ hx;omega)⟩
  refine B 3 ?_;refine CJ.range2 (f:=312) (cap:=[ptr q.1 0,ptr q.2 0]) (α:=Int) (enc:=ai) (Pre:=yn (ey kv k (2*n+(i:Int)))) (Fin:=Is (ey kv k (2*n+(i:Int)))) (RO:=SF q.1 q.2 mb) (MI:=λ_=>False) rfl call312 (λW' W2 hS hB=>by have hlk:=(hS.links wk A0).size;exact ih (2*n+(i:Int)) q.1 q.2 mb m W2 zM zM (n1o h3 zM) hm (by rw[hB.block q.1 zM];exact hS.old A0 eO (sA _ (.inl rfl)).2.2 (bE.of_mem (sA _ (.inl rfl)).2.1)) (by rw[hB.block q.2 zM];exact hS.old A0 eY (sA _ (.inr (.inl rfl))).2.2 (bE.of_mem (sA _ (.inr (.inl rfl))).2.1)) (by have:=(hS.links W A2).size;rw[hB.block mb zM];exact hS.old A2 iS (sA _ (.inr (.inr rfl))).2.2 (bE.of_mem (sA _ (.inr (.inr rfl))).2.1))) (λ_ _ _ hk=>hk.elim) (λW' hS j hj=>⟨by have:=(sA j hj).1;have:=(hS.links wk A0).size;omega,(sA j hj).2⟩) (λ_=>rfl) (λpre G' Hc=>∃V1:aA,(∀j,V0 j->V1 j)/\(∀j,V1 j->V0 j\/w3.heap.size<=j)/\G'=cj hM V1 (hI (pP kv k n i++pre) V1)/\Hc=jU ms) (λc G' Hc=>c= .ret/\∃V1:aA,(∀j,V1 j->W.heap.size<=j)/\G'=cj hM V1 (hX V1)/\Hc=jU ms) ⟨V0,λ_ h=>h,λ_ h=>.inl h,by rw[dN],rfl⟩ zQ ?_ ?_ ?_
  ·rintro pre x G' Hc l Dk rec W1 M V Wy iM mz dF ⟨V1,D1,vK,rfl,rfl⟩ cQ eW yP mQ aW sk;simp only[ab]at cQ mQ;have LM:∀j,V1 j->W.heap.size<=j:=λj hj=>by rcases vK j hj with h|h;(have:=pQ j h;omega);omega
   have aD:¬((cj hM V1 (hI (pP kv k n i++pre) V1)).ext λj=>M j\/V j).X b3:=aW.z zM aD (λhm=>by obtain⟨p,hp,e⟩:=bU.1 hm;have:=Gj rG p hp;omega) (by rintro(h|h);(have:=(hM _ h).1;omega);(rcases vK _ h with h|h;(have:=pQ _ h;omega);omega));have ab5:∀r',bE (book (jU ms) l r' (bQ Dk)) b3:=λr'=>by unfold book;rw[ne];exact⟨SH rG zM,by simp only[bQ,bE,and_true];omega⟩
   refine OR ?_;refine B 3 ?_;refine rv rfl rfl rfl (aa (v:=yv l0) isAgg154 rfl A2 aJ aD (ab5 _) rfl) ?_;refine B 1 ?_;refine LN (λj=>M j\/V j) (λG=>G.ext λj=>M j\/V j) (Jh _) (V:=V1) (λV=>hI ((pP kv k n i++pre)++[x]) V) hX LM rfl rfl rfl rfl (λW1 sj kP=>hy (pP kv k n i++pre) x V1 W1 (by rw[iH,nWg (by simpa using aj) zM,<-n3m];exact Gg zM dF) sj kP) ?_ ?_
   ·intro V2 vM qL;have ll:=qL Wy A0;have xk:∀j,V2 j->V0 j\/w3.heap.size<=j:=λj hj=>by rcases ll j hj with h|h;exact vK j h;exact .inr (by have:=(sk.links w3 A1).size;omega)
    try dsimp only
    refine B 6 ?_;refine Aj (G2:=cj hM V2 (hI ((pP kv k n i++pre)++[x]) V2)) (Hc2:=jU ms) aW eW ⟨(λj h=>h.imp id (λh=>vM j (D1 j h))),(λj h=>h.elim (λh=>.inl (.inl h)) (λh=>(ll j h).imp .inr id)),(λj h=>h.elim (λh=>.inl (.inl h)) (λh=>(ll j h).imp .inr id)),(λp hp=>.inl (bU.2 ⟨p,hp,rfl⟩)),(λp hp=>.inl (bU.2 ⟨p,hp,rfl⟩))⟩ (Ak iM mz) ?_;exact⟨V2,λj h=>vM j (D1 j h),xk,by rw[iH],rfl⟩
   intro V2 vM qL;have ll:=qL Wy A0;have xk:∀j,V2 j->V0 j\/w3.heap.size<=j:=λj hj=>by rcases ll j hj with h|h;exact vK j h;exact .inr (by have:=(sk.links w3 A1).size;omega)
   try dsimp only
   refine B 6 ?_;exact zGk
  ·rintro gV l Dk rec G' Hc rfl cQ eW ⟨V1,D1,vK,rfl,rfl⟩;replace cQ:=yb cQ;refine B 7 ?_;refine PJ.perm (Xi l Dk rec ms []) ?_;refine nkk ((i+1,(l,rec,Dk)::ms),V1) ⟨by dsimp only;omega,Xh cQ.2.1 zM rG,λj hj=>(vK j hj).elim (pQ j) id⟩ dE zR rfl (by dsimp only;rw[n7h]) z1 rfl
  rintro l Dk rec c G' Hc cQ eW ⟨rfl,V1,LM,rfl,rfl⟩;replace cQ:=yb cQ;refine CJ.perm (Xi l Dk rec ms []) ?_;refine B 6 ?_;exact LL (ms:=(l,rec,Dk)::ms) (H0:=[]) (.inl rfl) results312 A2 LM (by intro j hj hx;obtain⟨p,hp,e⟩:=bU.1 hx;have:=Gj (n:=w3.heap.size) (ms:=(l,rec,Dk)::ms) (Xh cQ.2.1 zM rG) p hp;omega) (λA hA=>.inr hA)
 intro cY;refine B 4 ?_;exact LL (ms:=ms) (H0:=[]) (.inr rfl) results312 A1 (λj hj=>by have:=pQ j hj;omega) (by intro j hj hx;obtain⟨p,hp,e⟩:=bU.1 hx;have:=Gj (n:=w3.heap.size) (ms:=ms) rG p hp;omega) (λA hA=>.inl ⟨pP kv k n i,by rw[nWg (by simpa using aj) zM,<-n3m,show i=2 by omega],hA⟩)
theorem SI(kv:List (Int×Int)):∀k,LK kv k
 |0=>nXo kv
 |k+1=>λn bx by_ mb m W h1 h2 h3 hm aP aI iS=>nMo (SI kv k) n bx by_ mb m W h1 h2 h3 hm aP aI iS
end Px
