/- Contracts of functions of the program. No condition beyond those stated. -/
import Derived.Test.YtpgobjebhigaoaaGreatDoorKb
import Derived.Test.YtpgobjebhigaoaaGreatDoorProg
import Derived.Lib.RowBridge
import Derived.Test.YtpgobjebhigaoaaGreatDoorLa
set_option linter.unusedSimpArgs false
set_option linter.unusedVariables false
set_option linter.unusedSectionVars false
set_option linter.unnecessarySimpa false
set_option maxRecDepth 20000
set_option maxHeartbeats 8000000
namespace Px
open Go Go.RowKit Go.Proofs Go.Proofs.Tryz
variable {C:Cx} {E:Env} {Z:Fx} {G:Gh} {H H':ab} {d:Int} {D:List Deferred} {Fin Pre:List Int->Prop} {ms:List Mk} {js:List Nat} {sp:List Value} {L:List World} {rec:Loop} {b f i j k:Nat} {RO:Nat->Prop} {W:World}
theorem Ql(hZ:FxOk Z)(k:Int):0<=(Z.ge 4 k).1/\(Z.ge 4 k).1<4611686018427377339:=by
 rw[<-hZ.ge];unfold gExp;split
 ·split
  ·exact Ub 4 k _ zO
  exact⟨by decide,by decide⟩
 exact⟨by decide,by decide⟩
theorem DZ(a b:Int):mQ (pB a b).1:=by
 unfold pB;exact zek
theorem D0(hZ:FxOk Z)(x:Int)(m:List UInt8):fl (kn Z x m):=by
 have:=Ql hZ (B9 Z x m);unfold kn;exact⟨by omega,by omega⟩
theorem D1(Z:Fx)(x:Int)(m:List UInt8):fl (mX Z x m):=by
 have:=DZ (B9 Z x m) (jA (DF Z (kn Z x m) (Z.ge 4 x).1 m) x).1;unfold mX;exact⟨by have:=this.1;omega,by have:=this.2;omega⟩
def sl (e:Int) (r s:Int):Lk:=⟨0,0,4,4,e,false,λ_=>0,r,s⟩
def Nc:Lk:=⟨0,0,4,4,1,false,λi=>if i=0 then 1 else 0,0,0⟩
theorem Nf(e r s:Int)(he:fl e)(hr:fl r)(hs:fl s):cY (sl e r s):=⟨show fl 0 by decide,show fl 0 by decide,show fl 4 by decide,show fl 4 by decide,he,λ_=>show(0:Int)<=0/\(0:Int)<256 by decide,hr,hs⟩
theorem JE:cY Nc:=⟨by decide,by decide,by decide,by decide,by decide,λi=>by unfold Nc;simp only;split<;>decide,by decide,by decide⟩
theorem sl0:nu (sl 0 0 0)=false:=by decide +kernel
theorem JF:nu (sl 1 0 0)=true:=by decide +kernel
theorem sl1(r s:Int):nu (sl 1 r s)=true:=JF
theorem Y4:nu Nc=false:=by decide +kernel
theorem Qm:nu sF=false:=by decide +kernel
theorem Qo:¬jt 0:=by decide
theorem yi:jt 1:=by decide
theorem Qp:jt 2:=by decide
theorem ge1(hZ:FxOk Z):(Z.ge 4 1).1=4:=by rw[<-hZ.ge,Uk yi];decide +kernel
theorem ge2(hZ:FxOk Z):(Z.ge 4 2).1≠4:=by rw[<-hZ.ge,Uk Qp];decide +kernel
def Ck:Ek:=⟨λ_=>0,λ_=>0⟩
theorem Y5(Z:Fx):wo Z (sl 0 0 0) 1= .tuple #[.agg (lkC sF),.int .i64 400]:=by unfold wo;rw[if_neg (by rw[sl0];decide)]
theorem Y6(Z:Fx):wo Z (sl 1 0 0) 0= .tuple #[.agg (lkC sF),.int .i64 50]:=by unfold wo;rw[if_pos JF,if_neg Qo]
theorem Y7(Z:Fx):wo Z Nc 1= .tuple #[.agg (lkC sF),.int .i64 400]:=by unfold wo;rw[if_neg (by rw[Y4];decide)]
theorem Y8(hZ:FxOk Z):∃r s,fl r/\fl s/\wo Z (sl 1 0 0) 1= .tuple #[.agg (lkC (sl 1 r s)),.int .i64 0]:=by
 refine⟨_,_,D0 hZ 1 (dc (eG Z (sl 1 0 0))),D1 Z 1 (dc (eG Z (sl 1 0 0))),?_⟩;unfold wo;rw[if_pos JF,if_pos yi];rfl
theorem Y9(hZ:FxOk Z)(r s:Int):oc Z (sl 1 r s) Ck 0 1 2= .tuple #[.agg (oR Cj),.int .i64 400]:=by
 unfold oc;rw[if_pos ⟨sl1 r s,by decide,by decide⟩,if_pos yi,if_pos Qp,if_neg (show ¬(Z.ge 4 2).1=(sl 1 r s).pub from ge2 hZ)]
theorem Za(hZ:FxOk Z)(r s:Int):∃n r2 s2,oc Z (sl 1 r s) Ck 0 1 1= .tuple #[.agg (oR ⟨lV Z (sl 1 r s),λ_=>0,0,n,r2,s2⟩),.int .i64 0]:=by
 refine⟨u3 Z Ck 1,kn Z 1 (dc (G9 Z (sG Z (sl 1 r s) Ck 0 1))),mX Z 1 (dc (G9 Z (sG Z (sl 1 r s) Ck 0 1))),?_⟩;unfold oc;rw[if_pos ⟨sl1 r s,by decide,by decide⟩,if_pos yi,if_pos yi,if_pos (show(Z.ge 4 1).1=(sl 1 r s).pub from ge1 hZ)];rfl
theorem Hf:iJ Ck.com:=λ_=>show(0:Int)<=0/\(0:Int)<256 by decide
theorem Hg:iJ Ck.sec:=λ_=>show(0:Int)<=0/\(0:Int)<256 by decide
theorem yj(f:Nat->Int):jS f f=true:=nQl (ks:=kp 32 [.i]) (ys:=(dg f).toList) rfl
def Hh:Array Value:=#[.int .i64 0,.int .u8 0,.int .u8 0,.int .u8 0,.int .u8 0,.int .u8 0,.int .u8 0,.int .u8 0,.int .u8 0,.int .u8 0,.int .u8 0,.int .u8 0,.int .u8 0,.int .u8 0,.int .u8 0,.int .u8 0,.int .u8 0,.int .u8 0,.int .u8 0,.int .u8 0,.int .u8 0,.int .u8 0,.int .u8 0,.int .u8 0,.int .u8 0,.int .u8 0,.int .u8 0,.int .u8 0,.int .u8 0,.int .u8 0,.int .u8 0,.int .u8 0,.int .u8 0,.int .i64 0,.int .i64 0,.int .i64 0,.int .i64 0,.int .i64 0,.int .i64 0,.int .u8 0,.int .u8 0,.int .u8 0,.int .u8 0,.int .u8 0,.int .u8 0,.int .u8 0,.int .u8 0,.int .u8 0,.int .u8 0,.int .u8 0,.int .u8 0,.int .u8 0,.int .u8 0,.int .u8 0,.int .u8 0,.int .u8 0,.int .u8 0,.int .u8 0,.int .u8 0,.int .u8 0,.int .u8 0,.int .u8 0,.int .u8 0,.int .u8 0,.int .u8 0,.int .u8 0,.int .u8 0,.int .u8 0,.int .u8 0,.int .u8 0,.int .u8 0,.slice none 0 0,.int .i64 0,.int .i64 0]
theorem n7d(hZ:FxOk Z)(w:World)(hg:Glb w):Calls prog 6 #[] w (ay w (.bool true)):=by
 have eE:=hg.lt;obtain⟨r,sg,hr,hs,hmk⟩:=Y8 hZ;obtain⟨tX,P9⟩:∃f,lV Z (sl 1 r sg)=f:=⟨_,rfl⟩;obtain⟨fn,fr_,fs_,hfa⟩:=Za hZ r sg;rw[P9]at hfa;refine enter (vs:=[]) func6 rfl ntmps6 rfl ?_;refine B 7 ?_;refine rr (.agg (dg (sl 0 0 0).par)) (pK underlying34 zeroValue34 sizeOf5 rfl rfl) ?_;refine call call15 rfl rfl rfl (λW hS=>by have:=UN hZ (sl 0 0 0) (Nf 0 0 0 zO zO zO) rfl rfl 1 W (hg.old hS zX zS zM);rw[Y5]at this;exact this) (v:=.tuple #[.agg (lkC sF),.int .i64 400]) ?_;refine B 3 ?_;refine Nb ?_;refine yW ?_;intro b1 eO gZ;refine Qq ?_;refine B 5 ?_;refine z6g ?_;refine call call15 rfl rfl rfl (λW hS=>by have:=UN hZ (sl 1 0 0) (Nf 1 0 0 zO zO zO) rfl rfl 0 W (hg.old hS zX zS zM);rw[Y6]at this;exact this) (v:=.tuple #[.agg (lkC sF),.int .i64 50]) ?_;refine B 3 ?_;refine Nb ?_;refine yW ?_;intro b3 cd cP;refine Qq ?_;refine B 5 ?_;refine z6g ?_;refine call call15 rfl rfl rfl (λW hS=>by have:=UN hZ (sl 1 0 0) (Nf 1 0 0 zO zO zO) rfl rfl 1 W (hg.old hS zX zS zM);rw[hmk]at this;exact this) (v:=.tuple #[.agg (lkC (sl 1 r sg)),.int .i64 0]) ?_;refine B 3 ?_;refine Nb ?_;refine yW ?_;intro b5 iH iI;refine Qq ?_;refine B 5 ?_;refine rr (.agg (dg Nc.par)) (pK underlying34 zeroValue34 sizeOf5 rfl rfl) ?_;refine call call15 rfl rfl rfl (λW hS=>by have:=UN hZ Nc JE rfl rfl 1 W (hg.old hS zX zS zM);rw[Y7]at this;exact this) (v:=.tuple #[.agg (lkC sF),.int .i64 400]) ?_
 refine B 3 ?_;refine Nb ?_;refine yW ?_;intro b7 gd oN;refine Qq ?_;refine B 5 ?_;refine rr (.agg Qh) (bY underlying31 zeroValue31 (bA.c sizeOf22 (bA.c sizeOf23 (bA.c sizeOf24 (bA.c sizeOf25 (bA.c sizeOf26 (bA.c sizeOf27 (bA.c sizeOf28 (bA.c sizeOf29 (bA.n))))))))) rfl rfl) ?_;refine rr (.agg (lkC sF)) (bY underlying38 zeroValue38 (bA.c sizeOf3 (bA.c sizeOf3 (bA.c sizeOf3 (bA.c sizeOf3 (bA.c sizeOf3 (bA.c sizeOf4 (bA.c sizeOf34 (bA.c sizeOf36 (bA.n))))))))) rfl rfl) ?_;refine rr (.agg Hh) (bY underlying66 zeroValue66 (bA.c sizeOf3 (bA.c sizeOf34 (bA.c sizeOf3 (bA.c sizeOf3 (bA.c sizeOf3 (bA.c sizeOf3 (bA.c sizeOf63 (bA.c sizeOf64 (bA.c sizeOf36 (bA.n)))))))))) rfl rfl) ?_;refine call call14 rfl rfl rfl (λW hS=>Qk sF (.inl Qm) Hh W) ?_;refine B 3 ?_;refine aZ zeroValue63 rfl rfl ?_;refine yW ?_;intro b9 qD I0;refine bh (i:=0) rfl sizeOf63 rfl rfl rfl rfl rfl rfl ?_;refine B 5 ?_;refine rr (.agg (lkC (sl 1 r sg))) (aO (i:=2) rfl isAgg38 sizeOf38 rfl rfl) ?_;refine zMg ?_;refine call call16 rfl rfl rfl (λW hS=>by have:=nug hZ (sl 1 r sg) (Nf 1 r sg zO hr hs) Ck Hf Hg 0 1 2 W zO (hg.old hS zX zS zM);rw[Y9 hZ]at this;exact this) (v:=.tuple #[.agg (oR Cj),.int .i64 400]) ?_;refine B 3 ?_;refine aZ zeroValue59 rfl rfl ?_;refine yW ?_;intro rG I5 I6;refine UQ ?_;refine B 5 ?_
 refine rr (.agg (lkC (sl 1 r sg))) (aO (i:=3) rfl isAgg38 sizeOf38 rfl rfl) ?_;refine zMg ?_;refine call call16 rfl rfl rfl (λW hS=>by have:=nug hZ (sl 1 r sg) (Nf 1 r sg zO hr hs) Ck Hf Hg 0 1 1 W zO (hg.old hS zX zS zM);rw[hfa]at this;exact this) (v:=.tuple #[.agg (oR ⟨tX,λ_=>0,0,fn,fr_,fs_⟩),.int .i64 0]) ?_;refine B 3 ?_;refine aZ zeroValue59 rfl rfl ?_;refine yW ?_;intro b13 Dv I9;refine UQ ?_;refine B 5 ?_;refine call call17 rfl rfl rfl (λW hS=>YJ 0 Qo W) ?_;refine B 8 ?_;refine ng (E':=[(0,_),(1,_),(2,_),(3,_),(4,_),(5,_),(6,_),(7,_),(8,_),(9,_),(10,_),(11,_),(12,_),(13,_),(14,_),(16,_),(17,_),(18,_),(19,_),(20,_),(21,_),(22,_),(23,_),(24,_),(25,_),(26,_),(27,_),(28,_),(29,_),(30,_),(31,_),(32,_),(33,_),(34,_),(35,_),(36,_),(37,_),(38,_),(39,_),(40,_),(41,_),(42,_),(43,_),(44,_),(45,_),(46,_),(47,_),(48,_),(49,_),(50,_),(51,_),(52,_),(53,_),(54,_),(55,_),(56,_),(57,_),(58,_),(59,_)]) zR ?_;refine nl 58 ((.det [] _)::(.det [0] _)::(.det [1] _)::(.det [2] _)::(.det [2] _)::(.det [2,3,4] _)::(.det [2,5] _)::(.det [6] _)::(.det [7] _)::(.det [7,8] _)::(.det [7,9] _)::(.det [10] _)::(.det [11] _)::(.det [11,12] _)::(.det [11,13] _)::(.det [14] _)::(.det [15] _)::(.det [15,16] _)::(.det [15,17] _)::(.det [18] _)::(.det [19] _)::(.det [19,20] _)::(.det [19,21] _)::(.det [22] _)::(.det [23] _)::(.det [23,24] _)::(.det [23,25] _)::(.det [26] _)::(.det [27] _)::(.det [27,28] _)::(.det [27,29] _)::(.det [30] _)::(.det [31] _)::(.det [31,32] _)::(.det [31] _)::(.det [31,34] (.agg (dg tX)))::(.det [31,33,35] _)::(.det [31,36] _)::(.det [37] _)::(.det [38] _)::(.det [38,39] _)::(.det [38,40] _)::(.det [38,41] _)::(.det [42] _)::(.det [43] _)::(.det [43] _)::(.det [43,44,45] _)::(.det [43,46] _)::(.det [43,47] _)::(.det [48] _)::(.det [49] _)::(.det [49] _)::(.det [49,50,51] _)::(.det [49,52] _)::(.det [49,53] _)::(.det [54] _)::(.det [55] _)::(.det [55] _)::[]) zQ (xc zN (xc Hj (xc zN (xc zN (xc zN (xc Hj (xc z4 (xc zN (xc zN (xc (by exact λaf=>X.val rfl rfl (RV.re (v':=.bool true) (cq rfl rfl) rfl) (λ_ _=>rfl)) (xc z4 (xc zN (xc zN (xc Hj (xc z4 (xc zN (xc zN (xc Hj (xc z4 (xc zN (xc zN (xc Hj (xc z4 (xc zN (xc zN (xc Hj (xc z4 (xc zN (xc zN (xc Hj (xc z4 (xc zN (xc (by exact λaf=>X.val rfl rfl (al underlying59 rfl sizeOf34 rfl) (λ_ _=>rfl)) (xc (by exact λaf=>X.val rfl rfl (RV.re (v':=.agg (dg tX)) (dd (i:=0) rfl isAgg34 sizeOf34 rfl (bj rfl)) (rfl)) (λ_ _=>rfl)) (xc Zb (xc (by exact λaf=>nf call13 rfl rfl (λW hS _=>by rw[<-P9];exact UL hZ (sl 1 r sg) (Nf 1 r sg zO hr hs) W (hg.old hS zX zS zM)) (λ_=>rfl)) (xc (by exact λaf=>X.val rfl rfl (RV.re (v':=.bool true) (pJ xX zO xY rfl rfl rfl) (congrArg Value.bool (yj tX))) (λ_ _=>rfl)) (xc z4 (xc zN (xc tW (xc (by exact λaf=>X.val rfl rfl (aK (i:=4) rfl isAgg3 rfl rfl) (λ_ _=>rfl)) (xc Hj (xc z4 (xc zN (xc Zc (xc Zb (xc (by exact λaf=>nf call9 rfl rfl (λW hS _=>n6j (sl 1 r sg) (.inr (show(0:Int)≠ -1 by decide)) W) (λ_=>rfl)) (xc Zd (xc z4 (xc zN (xc Zc (xc (by exact λaf=>X.val rfl rfl (RV.re (v':=.agg (lkC sF)) (bY underlying38 zeroValue38 (bA.c sizeOf3 (bA.c sizeOf3 (bA.c sizeOf3 (bA.c sizeOf3 (bA.c sizeOf3 (bA.c sizeOf4 (bA.c sizeOf34 (bA.c sizeOf36 (bA.n))))))))) rfl rfl) (rfl)) (λ_ _=>rfl)) (xc (by exact λaf=>nf call9 rfl rfl (λW hS _=>n6j sF (.inl Qm) W) (λ_=>rfl)) (xc Zd (xc z4 (xc zN (xc Zc (xc Zb (xn))))))))))))))))))))))))))))))))))))))))))))))))))))))))))) zQ zQ zQ (λaf=>?_)
 refine call call8 rfl rfl rfl (λW hS=>JD (sl 1 r sg) (.inr (show(0:Int)≠ -1 by decide)) W) ?_;refine B 1 ?_;refine rr (.bool true) (er rfl rfl) ?_;refine B 5 ?_;refine bF (.inl rfl) results6 (RS.t rfl (RS.n)) A0 zP ?_;rfl

def qP (a b:Int):Int×Int:=if dy a/\dy b then(a*b%4611686018427377339,0)else(0,40)
theorem nLm{a b:Int}(h:¬(dy a/\dy b)):qP a b=(0,40):=by unfold qP;rw[if_neg h]
theorem nPm{a b:Int}(ha:dy a)(hb:dy b):qP a b=(a*b%4611686018427377339,0):=by unfold qP;rw[if_pos ⟨ha,hb⟩]
theorem Ng{x:Int}(h:¬(if dy x then(0:Int)else 40)=0):¬dy x:=λg=>h (if_pos g)
theorem UR{x:Int}(h:(if dy x then(0:Int)else 40)=0):dy x:=Decidable.byContradiction λg=>by rw[if_neg g]at h;exact absurd h zO
def Cl (a b:Int) (j:Nat):Int:=match j with|0=>a|_=>b
theorem yk(a b:Int)(j:Nat)(h:j<2):(#[.int .i64 a,.int .i64 b]:Array Value)[j]? =some (.int .i64 (Cl a b j)):=by
 match j,h with
 |0,_=>rfl
 |1,_=>rfl
theorem n3n(a b:Int)(w:World):Calls prog 120 #[.int .i64 a,.int .i64 b] w (ay w (kW (qP a b))):=by
 refine enter (vs:=[_,_]) func120 rfl ntmps120 rfl ?_;refine B 11 ?_;refine rv rfl rfl rfl (sH underlying292 zeroValue292 sizeOf3 rfl rfl rfl rfl) ?_;refine B 4 ?_;refine CJ.loop (α:=Nat) (λj=>[(0,.int .i64 a),(1,.int .i64 b),(11,.agg #[.int .i64 a,.int .i64 b]),(12,.int .i64 (j:Int))]) (λj=>[]) (λj=>[w]) (λj=>Gh.no) (λj=>j<=2/\(1<=j->dy a)/\(2<=j->dy b)) (λj=>2-j) 0 ⟨by omega,λh=>absurd h zJ,λh=>absurd h zJ⟩ zR rfl rfl zX ?_;rintro j ⟨hj,D2,Ze⟩;refine B 6 ?_;refine aG ?_ ?_
 ·intro ah;refine B 6 ?_;refine rq (.int .i64 (Cl a b j)) (py underlying292 isAgg3 sizeOf3 rfl rfl zJ zJ (by rw[sm];exact yk a b _ zJ)) (congrArg (λk=>Value.int .i64 (Cl a b k)) zJ) ?_;refine B 6 ?_;obtain⟨e,he⟩:∃e,(if dy (Cl a b j)then(0:Int)else 40)=e:=⟨_,rfl⟩;refine US ?_;refine B 9 ?_;refine aG ?_ ?_
  ·intro aJ;refine B 13 ?_;refine nS results120 rfl rfl A0 ?_ ?_
   ·exact vi (by rw[nLm (λg=>by match j,he with|0,he=>exact Ng (x:=Cl a b 0) D3 g.1|j+1,he=>exact Ng (x:=Cl a b (j+1)) D3 g.2)])
   exact vi (by rw[nLm (λg=>by match j,he with|0,he=>exact Ng (x:=Cl a b 0) D3 g.1|j+1,he=>exact Ng (x:=Cl a b (j+1)) D3 g.2),<-he];exact if_neg (Ng D3))
  intro aJ;refine B 7 ?_;refine PJ.again (j+1) ⟨by omega,λ_=>by match j,D2,he with|0,_,he=>exact UR (x:=Cl a b 0) D3|j+1,D2,_=>exact D2 zJ,λh=>by match j,hj,he with|0,_,_=>exact absurd h zJ|1,_,he=>exact UR (x:=Cl a b 1) D3|j+2,hj,_=>exact absurd ah zJ⟩ zJ zR rfl rfl zX
 intro ah;refine B 6 ?_;have Zg:j=2:=by omega
 have UT:=D2 zJ;have OT:=Ze zJ;have eO:=UT.1;have cR:=UT.2.1;have aQ:=OT.1;have aU:=OT.2.1;have r6:=Int.emod_nonneg (a*b) (b:=4611686018427377339) zO;have aX:=Int.emod_lt_of_pos (a*b) (b:=4611686018427377339) zO;refine B 5 ?_;refine call call173 rfl rfl rfl (λW hS=>Xs a b zJ zJ zJ zJ W) ?_;refine B 6 ?_;refine nS results120 rfl rfl A0 ?_ ?_
 ·exact vi (by rw[nPm UT OT])
 exact vi (by rw[nPm UT OT])
def Qr:List TK:=kp 3 [.i]
theorem eqA214:DW prog 2 214 Qr:=DW.array underlying214 sizeOf67 rfl ((u2.int underlying67 isAgg67).up zO:u2 prog 1 67 [.i])
theorem JG:prog.eqGuardType prog.depth 214=false:=by kernel_rfl
def kX (Z:Fx) (p:Int) (msg:List UInt8) (r s:Int):Bool:=decide (dy p/\dy r/\mQ s/\(Z.ge 4 s).1=(qP r (Z.ge p (DF Z r p msg)).1).1)
theorem n7m{x e:Int}(h:(if dy x then(0:Int)else 40)=e):e=0↔dy x:=⟨λg=>UR (h.trans g),λg=>by rw[<-h,if_pos g]⟩
theorem yl{x e:Int}(h:(if jg x then(1:Int)else 0)=e):e=0↔mQ x:=by
 subst h;by_cases g:mQ x
 ·rw[Uf.2 g];exact⟨λ_=>g,λ_=>rfl⟩
 rw[Ug.2 g];exact⟨λh=>absurd h zO,λh=>absurd h g⟩
theorem D4{p r s e1 e2 e3:Int}{msg:List UInt8}(h1:e1=0↔dy p)(h2:e2=0↔dy r)(h3:e3=0↔mQ s)(h:¬(e1=0/\e2=0/\e3=0)):Value.bool false= .bool (kX Z p msg r s):=by
 refine vb (decide_eq_false ?_).symm;rintro⟨g1,g2,g3,_⟩;exact h ⟨h1.2 g1,h2.2 g2,h3.2 g3⟩
theorem ym{p r s e1 e2 e3 e:Int}{msg:List UInt8}{m:Int×Int}(h1:e1=0↔dy p)(h2:e2=0↔dy r)(h3:e3=0↔mQ s)(h:e1=0/\e2=0/\e3=0)(he:DF Z r p msg=e)(hm:qP r (Z.ge p e).1=m):Value.bool (decide ((Z.ge 4 s).1=m.1))= .bool (kX Z p msg r s):=by
 subst he;subst hm;refine vb (decide_eq_decide.2 ?_);exact⟨λg=>⟨h1.1 h.1,h2.1 h.2.1,h3.1 h.2.2,g⟩,λg=>g.2.2.2⟩
theorem Zh(hZ:FxOk Z)(a k:Int)(w:World):Calls prog 62 #[.int .i64 a,.int .i64 k] w (ay w (kW (Z.ge a k))):=by
 rw[<-hZ.ge];exact nTj a k w
theorem eq3(a b c:Int):(!mG [.int .i64 a,.int .i64 b,.int .i64 c] [.int .i64 0,.int .i64 0,.int .i64 0])=decide (¬(a=0/\b=0/\c=0)):=by
 simp only[mG,Nh,Bool.and_true];by_cases h1:a=0<;>by_cases h2:b=0<;>by_cases h3:c=0<;>simp[h1,h2,h3]
theorem Qs(hZ:FxOk Z)(p r s:Int)(msg:List UInt8)(bm om cm:Nat)(qo:msg.length<=100000000000)(w:World)(km:cC w bm om msg)(hg:Glb w):Calls prog 78 #[.int .i64 p,.slice (some ⟨bm,om,none⟩) msg.length cm,.agg #[.int .i64 r,.int .i64 s]] w (ay w (.bool (kX Z p msg r s))):=by
 have Pw:=km.lt;obtain⟨e1,tY⟩:∃e,(if dy p then(0:Int)else 40)=e:=⟨_,rfl⟩;obtain⟨e2,yn⟩:∃e,(if dy r then(0:Int)else 40)=e:=⟨_,rfl⟩;obtain⟨e,he⟩:∃e,DF Z r p msg=e:=⟨_,rfl⟩;obtain⟨m,hm⟩:∃m,qP r (Z.ge p e).1=m:=⟨_,rfl⟩;have u6:=n7m tY;have Hk:=n7m yn;have eE:=hg.lt;obtain⟨e3,he3⟩:∃e,(if jg s then(1:Int)else 0)=e:=⟨_,rfl⟩;have hi3:=yl he3;refine enter (vs:=[_,_,_]) func78 rfl ntmps78 rfl ?_;refine B 2 ?_;refine yX ?_;intro b5 w5 eo eH oQ iH iI;refine B 4 ?_;refine ng (E':=[(0,_),(1,_),(2,_),(5,_),(6,_)]) zR ?_;refine nP 10 [9] [([],some _),([0],some (.int .i64 e1)),([],some _),([2],some (.int .i64 r)),([3],some (.int .i64 e2)),([],some _),([5],some (.int .i64 s)),([6],some (.int .i64 e3)),([1,4,7],some (.agg #[.int .i64 e1,.int .i64 e2,.int .i64 e3])),([],none)] (λcv L' H'=>match cv with| []=>L'=[w5,w]/\H'=[]| [v1]=>∃(b7:Nat),v1=ptr b7 0/\L'=[w5,w]/\H'=[(b7,.cells #[.int .i64 0,.int .i64 0,.int .i64 0] 214 (0,0))]/\(w5.heap.size<=b7/\w.heap.size<=b7)|_=>False) zQ ⟨rfl,rfl⟩ zQ zQ zQ zQ zQ zQ (pc zT (pc (by exact λcv L' H' hd hP=>nf call63 rfl rfl (λW hS _=>by rw[<-tY];exact nJ p W) (λ_=>rfl)) (pc Jn (pc zcn (pc (by exact λcv L' H' hd hP=>nf call63 rfl rfl (λW hS _=>by rw[<-yn];exact nJ r W) (λ_=>rfl)) (pc Jn (pc zcn (pc (by exact λcv L' H' hd hP=>nf call119 rfl rfl (λW hS _=>by rw[<-he3];exact n6l s W) (λ_=>rfl)) (pc (by exact λcv L' H' hd hP=>X.val rfl rfl (sH underlying214 zeroValue214 sizeOf67 rfl rfl rfl rfl) R2) (pk (pn))))))))))) ?_ ?_
 ·refine sc rfl rfl rfl ?_ ?_
  ·intro cv L' H' hl hP F Q' hk;obtain rfl:=iZ hl;obtain⟨rfl,rfl⟩:=hP;refine aZ zeroValue214 rfl rfl ?_;intro b7 ha ho;exact OJ.done (hk _ _ _ ⟨b7,rfl,rfl,rfl,⟨ha.1,ha.2.1⟩⟩)
  exact sn
 intro cv L' H' hl hP;obtain⟨v1,rfl⟩:=cM hl;obtain⟨b7,rfl,rfl,rfl,gd⟩:=hP;refine bh (i:=0) rfl sizeOf214 rfl rfl rfl rfl rfl rfl ?_;refine B 7 ?_;refine rq (.bool (decide (¬(e1=0/\e2=0/\e3=0)))) (ie eqA214 zO JG rfl rfl rfl) (vb (eq3 e1 e2 e3)) ?_;refine B 2 ?_;refine aG ?_ ?_
 ·intro ah;refine B 7 ?_;refine bF (.inl rfl) results78 (RS.t rfl (RS.n)) A1 zP ?_;exact D4 u6 Hk hi3 (by simpa using ah)
 intro ah;refine B 6 ?_;refine call call65 rfl rfl rfl (λW hS=>GX hZ _ W) ?_;refine B 14 ?_;refine Da ?_;refine yV ?_;intro b38 w38 Zi Zj afe aff afg;refine call call64 rfl rfl rfl (λW hS=>n8h hZ r p e msg he qo bm om cm b38 _ _ _ W (km.old hS A2 zU (by first|exact True.intro|(simp only[bD,cZ,eB,pG,qG,ne_eq,and_true];omega))) (hS.old A0 Zi Zj (by first|exact True.intro|(simp only[bD,cZ,eB,pG,qG,ne_eq,and_true];omega))) (hg.old hS A2 zS zM)) ?_;refine call call62 rfl rfl rfl (λW hS=>Zh hZ p e W) ?_;refine B 12 ?_;refine call call120 rfl rfl rfl (λW hS=>by rw[<-hm];exact n3n _ _ W) (v:=kW m) ?_;refine B 16 ?_;refine bF (.inl rfl) results78 (RS.t rfl (RS.n)) A2 zP ?_;exact ym u6 Hk hi3 (by simpa using ah) he hm
def kq (n:Nat):List Nat:=if h:1<n then n::kq (n/2)else[]
termination_by n
decreasing_by omega
theorem Qt{n:Nat}(h:1<n):kq n=n::kq (n/2):=by rw[kq,dif_pos h]
theorem UU{n:Nat}(h:¬1<n):kq n=[]:=by rw[kq,dif_neg h]
theorem n0m(n:Nat):(kq n).length<=n:=by
 induction n using Nat.strongRecOn with
 |ind n ih=>
  by_cases h:1<n
  ·rw[Qt h,dQ];have:=ih (n/2) zJ;omega
  rw[UU h];simp
theorem D5{n:Nat}:∀x∈kq n,1<x/\x<=n:=by
 induction n using Nat.strongRecOn with
 |ind n ih=>
  intro x hx;by_cases h:1<n
  ·rw[Qt h]at hx;rcases cI.1 hx with rfl|hx
   ·exact⟨h,ao _⟩
   have:=ih (n/2) zJ x hx;omega
  rw[UU h]at hx;simp at hx
def pL (n:Nat):Nat:=n/2
def sI (n:Nat):Nat:=n^^^1
theorem D6(n:Nat)(h:n<4611686018427387904):IntKind.i64.wrap ((BitVec.ofInt 64 (n:Int)^^^BitVec.ofInt 64 1).toNat:Int)=((sI n:Nat):Int):=by
 have h1:n^^^1<2^62:=Nat.xor_lt_two_pow zJ zO;have e1:(BitVec.ofInt 64 (n:Int))=BitVec.ofNat 64 n:=by simp
 have e2:(BitVec.ofInt 64 1)=BitVec.ofNat 64 1:=rfl;rw[e1,e2,BitVec.toNat_xor,BitVec.toNat_ofNat,BitVec.toNat_ofNat,Nat.mod_eq_of_lt (a:=n) zJ];show IntKind.i64.wrap ((n^^^1:Nat):Int)=((n^^^1:Nat):Int);generalize n^^^1=m at *;simp[IntKind.wrap,IntKind.bits,IntKind.signed];omega
abbrev dD (d:Int):Prop:=0<=d/\d<512
theorem Qu:prog.info? 3=some Tryz.t3:=by kernel_rfl
theorem Hl:kY prog 44 3 1:=⟨underlying44,Tryz.t3,.int .i64 0,Qu,rfl,rfl,rfl,by decide⟩
theorem nyn(d:Int)(h:dD d)(w:World):Calls prog 310 #[.int .i64 d] w (ay w (.tuple #[.int .i64 (512+d),.int .i64 0])):=by
 have h1:=h.1;have h2:=h.2;refine enter (vs:=[_]) func310 rfl ntmps310 rfl ?_;refine B 10 ?_;refine tR ?_;refine B 2 ?_;refine Ni ?_;refine B 15 ?_;refine nS results310 rfl rfl A0 ?_ ?_;all_goals rfl
theorem Cn(d:Int)(h:¬dD d)(w:World):Calls prog 310 #[.int .i64 d] w (ay w (.tuple #[.int .i64 0,.int .i64 200])):=by
 refine enter (vs:=[_]) func310 rfl ntmps310 rfl ?_;refine B 12 ?_;refine nh (t:=6) rfl (λah=>?_) (λah=>?_)
 ·replace ah:=ya ah;refine B 14 ?_;exact Zk
 replace ah:=ya ah;refine B 5 ?_;refine aG ?_ ?_
 ·intro aJ;refine B 8 ?_;exact Zk
 intro aJ;refine B 11 ?_;exact Zk
theorem nqh(n:Nat)(h:n<4611686018427387904)(w:World):Calls prog 291 #[.int .i64 (n:Int)] w (ay w (.int .i64 ((pL n:Nat):Int))):=by
 refine enter (vs:=[_]) func291 rfl ntmps291 rfl ?_;refine B 8 ?_;refine rv rfl rfl rfl (JH rfl rfl zJ zJ zJ) ?_;refine B 4 ?_;refine ax results291 rfl A0 ?_;exact vi (by unfold pL;omega)
theorem nAl(n:Nat)(h:n<4611686018427387904)(w:World):Calls prog 292 #[.int .i64 (n:Int)] w (ay w (.int .i64 ((sI n:Nat):Int))):=by
 refine enter (vs:=[_]) func292 rfl ntmps292 rfl ?_;refine B 8 ?_;refine rq (.int .i64 ((sI n:Nat):Int)) (sq rfl rfl) (vi (D6 n h)) ?_;refine B 4 ?_;refine ax results292 rfl A0 ?_;rfl
theorem yo(n:Nat)(w:World):Calls prog 311 #[.int .i64 (n:Int)] w (cJ w (λb:Nat=>.func (.func 318) #[] #[ptr b 0]) (λb w1=>w.heap.size<=b/\True/\w1.heap[b]? =some (.cells #[.int .i64 (n:Int)] 384 (0,0)))):=by
 refine enter (vs:=[_]) func311 rfl ntmps311 rfl ?_;refine B 2 ?_;refine yX ?_;intro b1 w1 aQ aX gb eO gZ;refine B 10 ?_;refine kH b1 results311 rfl A1 rfl ?_;exact λW hS=>⟨eO.1,True.intro,hS.old A0 aQ aX trivial⟩
theorem D7(n:Nat)(hn:n<4611686018427387904)(b:Nat)(W:World)(aQ:W.heap[b]? =some (.cells #[.int .i64 (n:Int)] 384 (0,0))):u7 prog 318 [ptr b 0] (λm:Nat=>[.int .i64 (m:Int)]) (wt (kq n)) (Is (kq n)) (λk=>k=b) (λ_=>False) W:=by
 intro l M I X0 hM hI hX hy h0;refine nL (cF hM (λ_=>False) (hI [] _)) [(b,.cells #[.int .i64 (n:Int)] 384 (0,0))] (vs:=[_,_]) func318 rfl ntmps318 rfl (JI hM (hI [] _) h0 (by intro p hp;simp at hp;subst hp;exact aQ) (PF _) zX) ?_;refine B 1 ?_;refine CJ.loop (α:=(List Nat×Nat)×aB) (λp=>[(0,yv l),(1,ptr b 0)]) (λp=>[(b,.cells #[.int .i64 (p.1.2:Int)] 384 (0,0))]) (λp=>[W]) (λp=>cF hM p.2 (hI p.1.1 p.2)) (λp=>p.1.1++kq p.1.2=kq n/\p.1.2<=n/\∀k,p.2 k->W.heap.size<=k) (λp=>p.1.2) (([],n),λ_=>False) ⟨rfl,ao _,λ_ h=>h.elim⟩ ⟨rfl,rfl,trivial⟩ rfl rfl zX ?_;rintro⟨⟨pre,m⟩,V⟩ ⟨qu,Zl,hV⟩;dsimp only at qu Zl hV ⊢;refine B 6 ?_;refine nh (t:=5) rfl (λah=>?_) (λah=>?_)
 ·replace ah:=ya ah;refine B 2 ?_;refine D8 (λV=>hI (pre++[m]) V) hX hV zX rfl rfl rfl rfl (λW1 sJ kJ=>hy (pre) (m) V W1 ⟨kq (m/2),by rw[iX,<-qu,Qt (n:=m) zJ];rfl⟩ sJ kJ) ?_ ?_
  ·intro V hV;refine B 13 ?_;refine call call291 rfl rfl rfl (λW hS=>nqh m zJ W) ?_;refine kf (i:=0) rfl sizeOf384 rfl rfl rfl rfl (bj rfl) rfl ?_;refine B 1 ?_;refine PJ.again ((pre++[m],pL m),V) ⟨by dsimp only;rw[<-qu,Qt (n:=m) zJ,iX];rfl,by dsimp only[pL];omega,hV⟩ (by dsimp only[pL];omega) ⟨rfl,rfl,trivial⟩ rfl rfl zX
  intro V hV;refine B 8 ?_;exact D9 (.inr rfl) results318 A0 hV zX (λA hA=>.inr hA)
 replace ah:=ya ah;refine B 11 ?_;exact D9 (.inr rfl) results318 A0 hV zX (λA hA=>.inl ⟨pre,by rw[<-qu,UU zJ,dH],hA⟩)
theorem njo(fo:Nat->Nat)(pre:List Nat)(x:Nat):(pre++[x]).map (λn=>((fo n:Nat):Int))=pre.map (λn=>((fo n:Nat):Int))++[((fo x:Nat):Int)]:=by simp
theorem nrh(fo:Nat->Nat)(g:Nat)(az:dP prog g)(Nj:∀(n:Nat) (w:World),n<4611686018427387904->Calls prog g #[.int .i64 (n:Int)] w (ay w (.int .i64 ((fo n:Nat):Int))))(d:Int)(kk:Nat)(JJ:512+d=(kk:Int))(hd:dD d)(w:World):Calls prog 290 #[.int .i64 d,.func (.func g) #[] #[]] w (nD w aj 1 3 (List.map (λn=>((fo n:Nat):Int)) (kq kk)) (λs=>.tuple #[s,.int .i64 0])):=by
 have hd1:=hd.1;have yp:=hd.2;have hul:=n0m kk;refine B1 Gh.no [] (vs:=[_,_]) func290 rfl ntmps290 rfl (uK w) ?_;refine B 2 ?_;refine yX ?_;intro b3 w3 aM aD da cd cP;refine aZ zeroValue44 rfl rfl ?_;refine yW ?_;intro b4 dO dU;refine B 6 ?_;refine call call310 rfl rfl rfl (λW hS=>by rw[<-JJ];exact nyn d hd W) (v:=.tuple #[.int .i64 (kk:Int),.int .i64 0]) ?_;refine B 11 ?_;refine wh ?_;refine B 9 ?_;refine Un (α:=Nat) (v:=λb=>.func (.func 318) #[] #[ptr b 0]) (bo:=λb=>(b,.cells #[.int .i64 (kk:Int)] 384 (0,0))) (Φ:=λ_=>True) call311 rfl rfl rfl (λW hS=>yo kk W) ?_;intro bu oS od _;dsimp only at oS od ⊢;replace oS:=yb oS;simp only[bD,and_true]at od;refine B 3 ?_;refine nCn (f:=318) (cap:=[ptr bu 0]) (α:=Nat) (enc:=(λm:Nat=>[.int .i64 (m:Int)])) (Pre:=wt (kq kk)) (Fin:=Is (kq kk)) (RO:=λ_=>False) (i:=0) (b:=bu) (o:=.cells #[.int .i64 (kk:Int)] 384 (0,0)) (H:=[(b4,.cells #[.slice none 0 0] 44 (0,0))]) rfl rfl zW zU rfl call318 (λW W2 hS fE hB=>D7 kk zJ bu W2 (by rw[hB.block bu (aT.1 fE).1];exact fE)) (λ_ _ _ hk=>hk.elim) (λ_=>rfl) (λpre G' Hc=>G'=Gh.no/\∃r:Rw,r.Fr Gh.no [w3,w]/\r.Fit 1 (List.map (λn=>((fo n:Nat):Int)) pre)/\Hc=[(b4,.cells #[r.val (List.map (λn=>((fo n:Nat):Int)) pre).length] 44 (0,0))]++(r.hp aj 3 (List.map (λn=>((fo n:Nat):Int)) pre)++[])) (λ_ _ _=>False) ⟨rfl,.nil,True.intro,rfl,rfl⟩ zO ?_ ?_ ?_
 ·rintro pre x G' Hc l Dk rec W1 M V Wy lN qB eC ⟨rfl,r,bE,ak,rfl⟩ dZ gM GM qC bM yq;simp only[ad]at dZ qC;have cE:r.ge w3.heap.size:=Rw.ge_of bE A0;have aD:=bM.z (k:=b3) zJ zU jB zU;have UW:=D5 x (eC.subset zX);have hpl:=eC.length_le;simp only[cK,dQ,mT]at hpl;have Qv:∀p∈r.hp aj 3 (List.map (λn=>((fo n:Nat):Int)) pre),M p.1\/V p.1:=λp hp=>bM.loc.h p UX;refine MQ ?_;refine B 1 ?_;refine ng (E':=[(0,_),(1,_),(3,_),(4,_),(5,_),(6,_),(7,_),(8,_),(9,_),(10,_),(11,_),(12,_),(13,_),(14,_),(16,_),(17,_),(18,_)]) zR ?_;refine nP 5 [4] [([],some _),([],some _),([],some _),([1,2],some _),([3],none)] (λcv L' H'=>match cv with| []=>L'=[Wy,w3,w]/\H'=book ([(b4,.cells #[r.val (List.map (λn=>((fo n:Nat):Int)) pre).length] 44 (0,0))]++(r.hp aj 3 (List.map (λn=>((fo n:Nat):Int)) pre)++[])) l {rec with state:=.busy} (bT Dk)| [v1]=>∃(Ca:Nat) (Cb:World),v1= .slice (some ⟨Ca,0,none⟩) 1 1/\L'=[Cb,Wy,w3,w]/\H'=book ([(b4,.cells #[r.val (List.map (λn=>((fo n:Nat):Int)) pre).length] 44 (0,0))]++(r.hp aj 3 (List.map (λn=>((fo n:Nat):Int)) pre)++[])) l {rec with state:=.busy} (bT Dk)/\Cb.heap[Ca]? =some (.cells #[.int .i64 ((fo x:Nat):Int)] 3 (0,0))/\bD (book ([(b4,.cells #[r.val (List.map (λn=>((fo n:Nat):Int)) pre).length] 44 (0,0))]++(r.hp aj 3 (List.map (λn=>((fo n:Nat):Int)) pre)++[])) l {rec with state:=.busy} (bT Dk)) Ca/\¬(Gh.no.ext λk=>M k\/V k).X Ca|_=>False) zQ ⟨rfl,rfl⟩ zQ zQ zQ zQ zQ zQ (pc zco (pc zco (pc zT (pc (by exact λcv L' H' hd hP=>nfn (first:=[]) (cap:=[]) rfl az rfl rfl (λW hS _=>Nj x W zJ) (λ_=>rfl)) (pk (pn)))))) ?_ ?_
  ·refine sc rfl rfl rfl ?_ ?_
   ·intro cv L' H' hl hP F Q' hk;obtain rfl:=iZ hl;obtain⟨rfl,rfl⟩:=hP;refine Da ?_;intro Ca Cb hb ha ho hm hz;exact OJ.done (hk _ _ _ ⟨Ca,Cb,rfl,rfl,rfl,hb,ho,hm⟩)
   exact sn
  intro cv L' H' hl hP;obtain⟨v1,rfl⟩:=cM hl;obtain⟨Ca,Cb,rfl,rfl,rfl,DI,Jm,DJ⟩:=hP;refine pM (r:=r) (xs:=(List.map (λn=>((fo n:Nat):Int)) pre)) (zs:=[((fo x:Nat):Int)]) (enc:=aj) (m:=1) (H0:=[(b4,.cells #[r.val (List.map (λn=>((fo n:Nat):Int)) pre).length] 44 (0,0))]) (H1:=(l,.loop {rec with state:=.busy})::bT Dk) yr Hl nw rfl rfl rfl rfl (dz.one (z:=((fo x:Nat):Int)) nw Hm underlying44 (bL.old A0 DI DJ Jm)) ak (Rw.Fr_ext Qv) zX JK ?_;intro JL JM JN Ea JO;replace Ea:=yb Ea;refine bh (i:=0) rfl sizeOf44 rfl rfl rfl rfl rfl rfl ?_;refine B 2 ?_;refine Zm (L':=[Wy,w3,w]) zX ?_;refine JP (G2:=Gh.no) (Hc2:=[(b4,.cells #[(Rw.row JL JM JN).val ((List.map (λn=>((fo n:Nat):Int)) pre)++[((fo x:Nat):Int)]).length] 44 (0,0))]++((Rw.row JL JM JN).hp aj 3 ((List.map (λn=>((fo n:Nat):Int)) pre)++[((fo x:Nat):Int)])++[])) bM gM ⟨λ_ h=>h,λ_ h=>.inl h,λ_ h=>.inl h,(Zn rfl (Ea.imp id (λh=>h.2.1))),Zo⟩ (JQ lN qB) ?_;rw[njo];exact⟨rfl,.row JL JM JN,Ea.elim (λh=>Rw.Fr_at bE h) (λh=>.inr h.2.2),JO,rfl⟩
 ·rintro i6 l Dk rec G' Hc rfl dZ gM ⟨rfl,r,bE,ak,rfl⟩;replace dZ:=yb dZ;have cE:r.ge w3.heap.size:=Rw.ge_of bE A0;refine Qw λWd qh=>?_;have kI:=Nk qh;refine B 5 ?_;refine bh (i:=0) rfl sizeOf44 rfl rfl rfl (Rw.val_size _ _) rfl (Rw.val_one _ _) ?_;refine B 4 ?_;have hq:=λ(k:Nat)=>Rw.mem_ge (enc:=aj) (t:=3) (xs:=(List.map (λn=>((fo n:Nat):Int)) (kq kk))) (k:=k) cE;refine PJ.reH (H':=(b4,.cells #[r.val (List.map (λn=>((fo n:Nat):Int)) (kq kk)).length] 44 (0,0))::(r.hp aj 3 (List.map (λn=>((fo n:Nat):Int)) (kq kk))++(l,.loop rec)::bT Dk)) (by simp[book,Rw.val_cells]) ?_;refine yt (b:=b4) (r:=r) (xs:=(List.map (λn=>((fo n:Nat):Int)) (kq kk))) (.inl rfl) results290 isAgg44 rfl rfl zX A0 (kI _ A0).1 rfl ak (λp hp=>⟨.tail _ (cQ.2 (.inl hp)),(kI p (cQ.2 (.inr (cQ.2 (.inl hp))))).1⟩) (Rw.ge_of bE A1) (λW H' hS bO=>(hS.links w A1).below λk hk hx=>?_);exact Zp
 exact UY
def cu (d:Int):List Int:=(kq (512+d).toNat).map λn=>((pL n:Nat):Int)
def ig (d:Int):List Int:=(kq (512+d).toNat).map λn=>((sI n:Nat):Int)
theorem JR:dP prog 291:=call291
theorem JS:dP prog 292:=call292
theorem nOf(d:Int)(hd:dD d)(w:World):Calls prog 253 #[.int .i64 d] w (nD w aj 1 3 (cu d) (λs=>.tuple #[s,.int .i64 0])):=by
 obtain⟨kk,JJ⟩:∃kk:Nat,512+d=(kk:Int):=⟨(512+d).toNat,by have:=hd.1;omega⟩;have e:cu d=(List.map (λn=>((pL n:Nat):Int)) (kq kk)):=by unfold cu;rw[JJ,uS]
 rw[e];refine enter (vs:=[_]) func253 rfl ntmps253 rfl ?_;refine B 9 ?_;refine Ho (enc:=aj) (m:=1) (t:=3) (xs:=(List.map (λn=>((pL n:Nat):Int)) (kq kk))) (v:=λs=>.tuple #[s,.int .i64 0]) (first:=[]) (cap:=[]) rfl call290 rfl rfl rfl (λW hS=>nrh pL 291 JR (λn w h=>nqh n h w) d kk JJ hd W) ?_;intro r bE ak;refine B 7 ?_;exact nW (H0:=[]) (H1:=[]) (r:=r) (.inl rfl) results253 (RS.t rfl (RS.t rfl RS.n)) A0 UZ rfl ak (Rw.ge_of bE A0) zX
theorem nvl(d:Int)(hd:dD d)(w:World):Calls prog 256 #[.int .i64 d] w (nD w aj 1 3 (ig d) (λs=>.tuple #[s,.int .i64 0])):=by
 obtain⟨kk,JJ⟩:∃kk:Nat,512+d=(kk:Int):=⟨(512+d).toNat,by have:=hd.1;omega⟩;have e:ig d=(List.map (λn=>((sI n:Nat):Int)) (kq kk)):=by unfold ig;rw[JJ,uS]
 rw[e];refine enter (vs:=[_]) func256 rfl ntmps256 rfl ?_;refine B 9 ?_;refine Ho (enc:=aj) (m:=1) (t:=3) (xs:=(List.map (λn=>((sI n:Nat):Int)) (kq kk))) (v:=λs=>.tuple #[s,.int .i64 0]) (first:=[]) (cap:=[]) rfl call290 rfl rfl rfl (λW hS=>nrh sI 292 JS (λn w h=>nAl n h w) d kk JJ hd W) ?_;intro r bE ak;refine B 7 ?_;exact nW (H0:=[]) (H1:=[]) (r:=r) (.inl rfl) results256 (RS.t rfl (RS.t rfl RS.n)) A0 UZ rfl ak (Rw.ge_of bE A0) zX
def de (xs:List Int):List Int:=xs.mergeSort λx y=>decide (x<=y)
theorem yu(xs:List Int):(de xs).length=xs.length:=List.length_mergeSort _
theorem JT{xs:List Int}(hl:xs.length<=1000000){cap t:Nat}(bN:(Rw.row b cap sp).Fit 1 xs)(h:W.heap[b]? =some (ck aj t xs sp)):Calls prog 48 #[.slice (some ⟨b,0,none⟩) xs.length cap] W (λe w'=>∃bG,e= .returned ((λ_=>.tuple #[]) (Rw.row b cap bG))/\aF (· =b) W w'/\(Rw.row b cap bG).Fit 1 (de xs)/\w'.heap[b]? =some (ck aj t (de xs) bG)):=by
 have hc:=Any.slices_Sort_int Tryz.laySort b 0 cap xs W (yw h) (aT.1 h).1 zJ;change Calls prog 48 _ _ _ at hc;refine hc.mono ?_;rintro e w' ⟨rfl,n,os,rfl⟩;obtain⟨h1,h2⟩:=Qx (n:=n) (os:=os) h (yu xs);exact⟨sp,rfl,h1,by simp only[Rw.Fit,yu];exact bN,h2⟩
theorem yx(W:World):Calls prog 48 #[.slice none 0 0] W (λe w'=>e= .returned (.tuple #[])/\Below W.heap.size W w'):=by
 have hc:=Any.slices_Sort_int_none Tryz.laySort none 0 W;change Calls prog 48 _ _ _ at hc;refine hc.mono ?_;rintro e w' ⟨rfl,h⟩;refine⟨rfl,?_⟩;first
  |(obtain⟨n,rfl⟩:=h;exact Eb W _)
  |(subst h;exact Below.refl _ _)
theorem Qy{xs:List Int}(hl:xs.length<=1000000){cap t:Nat}(bN:(Rw.row b cap sp).Fit 1 xs)(h:W.heap[b]? =some (ck aj t xs sp)):Calls prog 82 #[.slice (some ⟨b,0,none⟩) xs.length cap] W (λe w'=>∃bG,e= .returned ((λr=>r.val (Go.Lib.compact xs).length) (Rw.row b cap bG))/\aF (· =b) W w'/\(Rw.row b cap bG).Fit 1 (Go.Lib.compact xs)/\w'.heap[b]? =some (ck aj t (Go.Lib.compact xs) bG)):=by
 obtain⟨f1,f2⟩:=bN;have hc:=Any.slices_Compact_int Tryz.layCompact b 0 cap xs W (yw h) zJ f1;change Calls prog 82 _ _ _ at hc;refine hc.mono ?_;rintro e w' ⟨rfl,q,rfl⟩;have hle:=Go.Lib.compact_length_le xs;obtain⟨h1,h2⟩:=Qx (n:=q) (os:=#[]) (ys:=Go.Lib.compact xs++List.replicate (xs.length-(Go.Lib.compact xs).length) 0) h jB;rw[Go.Sort.grow_empty]at h1 h2;refine⟨eg aj (List.replicate (xs.length-(Go.Lib.compact xs).length) 0)++sp,rfl,h1,⟨by omega,?_⟩,?_⟩
 ·rw[cK,qQ nw,List.length_replicate,f2];omega
 rw[h2];simp only[ck,Nl,iX]
theorem Zq{xs:List Int}(h:Rw.nil.Fit 1 xs)(W:World):Calls prog 48 #[Rw.nil.val xs.length] W (λe w'=>e= .returned ((λ_=>.tuple #[]) Rw.nil)/\de xs=[]/\Below W.heap.size W w'):=
 (yx W).mono λe w' ⟨h1,h2⟩=>⟨h1,by have:xs=[]:=h;subst this;simp[de],h2⟩
theorem n2n(W:World):Calls prog 82 #[.slice none 0 0] W (λe w'=>e= .returned (.slice none 0 0)/\Below W.heap.size W w'):=by
 have hc:=Any.slices_Compact_int_empty Tryz.layCompact none 0 W;change Calls prog 82 _ _ _ at hc;refine hc.mono ?_;rintro e w' ⟨rfl,rfl⟩;exact⟨rfl,Below.refl _ _⟩
theorem Ec{xs:List Int}(h:Rw.nil.Fit 1 xs)(W:World):Calls prog 82 #[Rw.nil.val xs.length] W (λe w'=>e= .returned ((λr=>r.val (Go.Lib.compact xs).length) Rw.nil)/\Go.Lib.compact xs=[]/\Below W.heap.size W w'):=
 (n2n W).mono λe w' ⟨h1,h2⟩=>⟨h1,by have:xs=[]:=h;subst this;rfl,h2⟩
structure Nd where
 at_:Int
 pub:Int
def eW (n:Nd):List Value:=[.int .i64 n.at_,.int .i64 n.pub]
def fF (n:Nd):Array Value:=#[.int .i64 n.at_,.int .i64 n.pub]
theorem Qz(n:Nd):(eW n).length=2:=rfl
theorem Ed(n:Nd):∀u∈eW n,u.oneCell'=true:=by intro u hu;simp[eW]at hu;rcases hu with rfl|rfl<;>rfl
def lE (ns:List Nd):List Int:=(ns.filter λn=>decide (512<=n.at_/\n.at_<=1023)).map λn=>n.at_-512
variable {ns:List Nd}
theorem Zr{x:Nd}(hx:ns[j]? =some x)(h1:512<=x.at_)(h2:x.at_<=1023):lE (ns.take (j+1))=lE (ns.take j)++[x.at_-512]:=by
 rw[nC hx];simp[lE,h1,h2]
theorem Zs{x:Nd}(hx:ns[j]? =some x)(h:¬(512<=x.at_/\x.at_<=1023)):lE (ns.take (j+1))=lE (ns.take j):=by
 rw[nC hx];simp only[lE,List.filter_append];simp[h]
theorem Zt(ns:List Nd)(j:Nat):(lE (ns.take j)).length<=j:=by
 unfold lE;rw[fp];exact aR (yy _ _) (by rw[jD];omega)
theorem Ee(ns:List Nd)(j:Nat)(h:¬j<ns.length):lE (ns.take j)=lE ns:=by rw[iV zJ]
def cS (ns:List Nd):List Int:=Go.Lib.compact (de (lE ns))
theorem nNk(ns:List Nd):(cS ns).length<=ns.length:=by
 have h1:=Go.Lib.compact_length_le (de (lE ns));have h2:=Zt ns ns.length;rw[JU]at h2;rw[yu]at h1;unfold cS;omega
theorem yz:prog.info? 355=some Tryz.t355:=by kernel_rfl
theorem n0b(ns:List Nd)(hn:ns.length<=100000)(N:Nat)(a:Option Addr)(cp:Nat)(w:World)(hN:N<=w.heap.size)(aH:ag fF 2 N w a ns):Calls prog 205 #[.agg #[.slice a ns.length cp]] w (nD w aj 1 3 (cS ns) id):=by
 have hlA:=Zt ns ns.length;rw[JU]at hlA;refine enter (vs:=[_]) func205 rfl ntmps205 rfl ?_;refine B 2 ?_;refine yX ?_;intro b1 w1 aQ aX gb eO gZ;refine B 7 ?_;refine rr (.slice a ns.length cp) (aa isAgg53 rfl A0 aQ aX trivial rfl) ?_;refine B 5 ?_;refine CJ.loop (α:=Rw×Nat) (λp=>[(1,ptr b1 0),(2,p.1.val (lE (ns.take p.2)).length),(6,.slice a ns.length cp),(7,.int .i64 (ns.length:Int)),(8,.int .i64 (p.2:Int))]) (λp=>p.1.hp aj 3 (lE (ns.take p.2))++[]) (λp=>[w1,w]) (λp=>Gh.no) (λp=>p.2<=ns.length/\p.1.Fr Gh.no [w1,w]/\p.1.Fit 1 (lE (ns.take p.2))) (λp=>ns.length-p.2) (.nil,0) ⟨db _,True.intro,rfl⟩ zR rfl rfl zX ?_;rintro⟨r,j⟩ ⟨hj,bE,ak⟩;dsimp only at hj bE ak ⊢;have cE:r.ge w1.heap.size:=Rw.ge_of bE A0;have I4:=Zt ns j;refine B 6 ?_;refine aG ?_ ?_
 ·intro ah;refine B 5 ?_;obtain⟨bo,oo,cs0,to,fk,rfl,fE,hcs,ar⟩:=aH.get zJ;obtain⟨x,hx⟩:=nj ns j zJ;refine B 2 ?_;refine rq (.agg (fF x)) (ai isAgg355 sizeOf355 rfl A1 hcs zU (by simp only[bD,ne,and_true];(repeat' apply And.intro);all_goals first|exact True.intro|exact Rw.off_ge cE zJ) (nk ar hx rfl)) (va (nr ar hx rfl)) ?_;refine aZ zeroValue355 rfl rfl ?_;refine yW ?_;intro b4 dO dU;refine Zu ?_;refine B 8 ?_;refine nh (t:=15) rfl (λaJ=>?_) (λaJ=>?_)
  ·replace aJ:=ya aJ;refine B 6 ?_;refine aG ?_ ?_
   ·intro cO;refine B 5 ?_;refine Co ?_;refine yW ?_;intro JL Zv Zw;refine pM (r:=r) (xs:=(lE (ns.take j))) (zs:=[(x.at_-512)]) (enc:=aj) (m:=1) (H0:=[(JL,.cells #[.int .i64 (x.at_-512)] 3 (0,0)),(b4,.cells (fF x) 355 (0,0))]) (H1:=[]) yr Hl nw rfl rfl rfl rfl (dz.one (z:=x.at_-512) nw Hm underlying44 (bL.own (i:=0) rfl)) ak bE zX Cp ?_;intro Ef u9 vc oe lW;replace oe:=yb oe;refine B 8 ?_;refine Hp ?_;refine PJ.again (Rw.row Ef u9 vc,j+1) ⟨by dsimp only;omega,oe.elim (λh=>Rw.Fr_at bE h) (λh=>.inr h),by rw[Zr hx zJ zJ];exact lW⟩ dG ⟨rfl,by rw[Zr hx zJ zJ];rfl,rfl,rfl,rfl,trivial⟩ (by rw[Zr hx zJ zJ];rfl) rfl zX
   intro cO;refine vd ?_;exact zuj
  replace aJ:=ya aJ;refine B 14 ?_;refine og ?_;exact zuj
 intro ah;refine B 6 ?_;have bP:=Ee ns j zJ;rw[bP]at ak ⊢;refine B 2 ?_;refine yA (r:=r) (enc:=aj) (m:=1) (t:=3) (xs:=lE ns) (ys:=de (lE ns)) (H0:=[]) (H1:=[]) (v:=λ_=>.tuple #[]) rfl call48 rfl rfl rfl (λhr W _=>by subst hr;exact Zq ak W) (λb cap sp hr W _ h=>by subst hr;exact JT zJ ak h) ?_;intro r2 cN lU lX i7;have gm:=lU bE;have dE:=lX _ cE;refine B 5 ?_;refine yA (r:=r2) (enc:=aj) (m:=1) (t:=3) (xs:=de (lE ns)) (ys:=cS ns) (H0:=[]) (H1:=[]) (v:=λr=>r.val (cS ns).length) rfl call82 rfl rfl rfl (λhr W _=>by have e:=i7 (lE ns).length;rw[<-e];subst hr;rw[<-yu (lE ns)];exact Ec cN W) (λb cap sp hr W _ h=>by have e:=i7 (lE ns).length;rw[<-e];subst hr;rw[<-yu (lE ns)];exact Qy (by rw[yu];omega) cN h) ?_;intro r3 lY yB yC tZ;have yD:=yB gm;have ua:=yC _ dE;refine B 4 ?_;exact nW (H0:=[]) (H1:=[]) (r:=r3) (.inl rfl) results205 (RS.t rfl RS.n) A1 (by rw[dH];exact Rw.over (Rw.ge_of yD A1)) rfl lY (Rw.ge_of yD A1) zX
def Hq (kv:List (Int×Int)) (n:Nd):List (Int×Int):=if(av kv n.at_).isSome then kv else bQ kv n.at_ n.pub
def cL (ns:List Nd):List (Int×Int):=ns.foldl Hq []
theorem nVl{x:Nd}(hx:ns[j]? =some x):cL (ns.take (j+1))=Hq (cL (ns.take j)) x:=by
 rw[nC hx];simp[cL,Cq]
theorem nCm{x:Nd}(hx:ns[j]? =some x)(h:(av (cL (ns.take j)) x.at_).isSome=false):cL (ns.take (j+1))=bQ (cL (ns.take j)) x.at_ x.pub:=by
 rw[nVl hx];unfold Hq;rw[if_neg (by rw[h];decide)]
theorem yE{x:Nd}(hx:ns[j]? =some x)(h:(av (cL (ns.take j)) x.at_).isSome=true):cL (ns.take (j+1))=cL (ns.take j):=by
 rw[nVl hx];unfold Hq;rw[if_pos h]
theorem Eg(ns:List Nd)(j:Nat)(h:¬j<ns.length):cL (ns.take j)=cL ns:=by rw[iV zJ]
theorem Nn{β:Type}(l:List (Int×β))(k:Int)(v:β):(bQ l k v).length<=l.length+1:=by
 unfold bQ;split<;>simp
theorem Np(ns:List Nd):(cL ns).length<=ns.length:=by
 have key:∀(l:List Nd) (kv:List (Int×Int)),(l.foldl Hq kv).length<=kv.length+l.length:=by
  intro l;induction l with
  |nil=>intro kv;simp
  |cons n l ih=>
   intro kv;have h1:=ih (Hq kv n);have h2:(Hq kv n).length<=kv.length+1:=by unfold Hq;split;omega;exact Nn _ _ _
   simp only[List.foldl_cons,dQ];omega
 simpa[cL]using key ns []
theorem nCf(ns:List Nd)(hn:ns.length<=100000)(N:Nat)(a:Option Addr)(cp:Nat)(w:World)(hN:N<=w.heap.size)(aH:ag fF 2 N w a ns):Calls prog 261 #[.agg #[.slice a ns.length cp]] w (uc w (Value.int .i64) (cL ns) id):=by
 refine enter (vs:=[_]) func261 rfl ntmps261 rfl ?_;refine B 2 ?_;refine yX ?_;intro b1 w1 aQ aX gb eO gZ;refine B 5 ?_;refine Eh (Value.int .i64) rfl rfl ?_;refine yW ?_;intro b8 vU vV;refine B 7 ?_;refine rr (.slice a ns.length cp) (aa isAgg53 rfl A0 aQ aX zI rfl) ?_;refine B 5 ?_;refine CJ.loop (α:=Mp×Nat) (λp=>[(1,ptr b1 0),(3,.map (some b8)),(10,.slice a ns.length cp),(11,.int .i64 (ns.length:Int)),(12,.int .i64 (p.2:Int))]) (λp=>[(b8,p.1.obj (Value.int .i64) (cL (ns.take p.2)))]) (λp=>[w1,w]) (λp=>Gh.no) (λp=>p.2<=ns.length/\p.1.Ok (cL (ns.take p.2))) (λp=>ns.length-p.2) (⟨[],0⟩,0) ⟨db _,Mp.nil⟩ zR rfl rfl zX ?_;rintro⟨m,j⟩ ⟨hj,hm⟩;dsimp only at hj hm ⊢;refine B 6 ?_;refine aG ?_ ?_
 ·intro ah;refine B 5 ?_;obtain⟨bo,oo,cs0,to,fk,rfl,fE,hcs,ar⟩:=aH.get zJ;obtain⟨x,hx⟩:=nj ns j zJ;refine B 2 ?_;refine rq (.agg (fF x)) (ai isAgg355 sizeOf355 rfl A1 hcs zU Ej (nk ar hx rfl)) (va (nr ar hx rfl)) ?_;refine aZ zeroValue355 rfl rfl ?_;refine yW ?_;intro b5 iH iI;refine Zu ?_;refine B 7 ?_;refine rv rfl rfl rfl (gE (ev:=(Value.int .i64)) underlying319 underlying3 zeroValue3 hm (bL.own (i:=1) rfl) rfl rfl) ?_;refine B 13 ?_;refine aG ?_ ?_
  ·intro aJ;refine B 6 ?_;refine Hr (i:=1) (ev:=(Value.int .i64)) (v:=x.pub) rfl hm underlying319 underlying3 rfl rfl rfl rfl ?_;intro m2 aN;refine vd ?_;refine PJ.again (m2,j+1) ⟨by dsimp only;omega,by rw[nCm hx gw];exact aN⟩ dG zR (by rw[nCm hx gw];rfl) rfl zX
  intro aJ;refine vd ?_;refine PJ.again (m,j+1) ⟨by dsimp only;omega,by rw[yE hx gw];exact hm⟩ dG zR (by rw[yE hx gw];rfl) rfl zX
 intro ah;refine B 6 ?_;have bP:=Eg ns j zJ;rw[bP]at hm ⊢;refine B 6 ?_;exact Hs (i:=0) (.inl rfl) results261 (RS.t rfl RS.n) A1 uN rfl hm rfl
theorem U0:∀(n:Nat) (js:List Nat),js.Nodup->(∀j∈js,j<n)->js.length<=n
 |0,js,_,h=>by
  cases js with
  |nil=>simp
  |cons j js=>have:=h j zX;omega
 |n+1,js,hd,h=>by
  have h1:=U0 n (js.erase n) (hd.erase n) (λj hj=>by
   have h2:=h j (List.mem_of_mem_erase hj);have h3:j≠n:=λe=>by subst e;exact absurd hj (by rw[hd.mem_erase_iff];simp)
   omega)
  have h2:=List.length_erase (a:=n) (l:=js);split at h2<;>omega
def yF {β:Type} (kv:List (Int×β)) (j:Nat):Int:=((kv[j]?).map (·.1)).getD 0
theorem Zx{β:Type}{kv:List (Int×β)}{p:Int×β}(hp:kv[j]? =some p)(js:List Nat):(js++[j]).map (yF kv)=js.map (yF kv)++[p.1]:=by simp[yF,hp]
theorem nUh{β:Type}{kv:List (Int×β)}(hd:js.Nodup)(hl:∀j∈js,j<kv.length)(bP:∀j,j<kv.length->j∈js):(js.map (yF kv)).Perm (kv.map (·.1)):=by
 have h1:js.Perm (List.range kv.length):=(List.perm_ext_iff_of_nodup hd List.nodup_range).2 λa=>⟨λh=>oT.2 (hl a h),λh=>bP a (oT.1 h)⟩;have h2:(List.range kv.length).map (yF kv)=kv.map (·.1):=by
  apply List.ext_getElem zX;intro i h3 h4;simp only[fp,List.length_range]at h3;simp[yF,h3]
 rw[<-h2];exact h1.map _
theorem nGj{p q:List Int}(h:p.Perm q):de p=de q:=by
 have hs:∀l:List Int,(de l).Pairwise (λa b=>(decide (a<=b))=true):=λl=>List.pairwise_mergeSort (λa b c h1 h2=>by simp at *;omega) (λa b=>by simp;omega) l;exact List.Perm.eq_of_pairwise (λa b _ _ h1 h2=>by simp at h1 h2;omega) (hs p) (hs q) (((List.mergeSort_perm p _).trans h).trans (List.mergeSort_perm q _).symm)
theorem wu{β:Type}{kv:List (Int×β)}{jn:Nat}{pn:Int×β}(hnd:js.Nodup)(gf:∀j∈js,j<kv.length)(ja:kv[jn]? =some pn)(kZ:jn∉js):(js++[jn]).Nodup/\(∀j∈js++[jn],j<kv.length)/\js.length+1<=kv.length:=by
 have h1:(js++[jn]).Nodup:=by rw[List.nodup_append];exact⟨hnd,by simp,by intro a ha b hb;simp at hb;subst hb;exact λe=>kZ (e▸ha)⟩
 have h2:∀j∈js++[jn],j<kv.length:=by
  intro j hj;rcases cQ.1 hj with hj|hj
  ·exact gf j hj
  simp at hj;subst hj;exact nE ja
 exact⟨h1,h2,by simpa using U0 _ _ h1 h2⟩
theorem nJd{kv:List (Int×Int)}(b:Nat)(m:Mp)(hm:m.Ok kv)(k:Int)(w:World)(hb:w.heap[b]? =some (m.obj (Value.int .i64) kv)):Calls prog 262 #[.map (some b),.int .i64 k] w (λe w'=>∃m':Mp,e= .returned (.tuple #[])/\aF (· =b) w w'/\m'.Ok (gn kv k)/\w'.heap[b]? =some (m'.obj (Value.int .i64) (gn kv k))):=by
 refine nL (Gh.lent (· =b)) [(b,m.obj (Value.int .i64) kv)] (vs:=[_,_]) func262 rfl ntmps262 rfl (xv hb) ?_;refine B 3 ?_;refine QA (i:=0) (ev:=(Value.int .i64)) rfl rfl hm underlying319 underlying3 rfl rfl rfl ?_;intro m2 aN;refine B 1 ?_;exact bH (.inr rfl) (rs:=[]) results262 RS.n λW hS=>⟨m2,rfl,hS.baseX A0 Cr,aN,hS.own _ A0⟩
theorem nKj(mp:Option Nat)(w:World):Calls prog 264 #[.map mp] w (cJ w (λb:Nat=>.func (.func 302) #[] #[ptr b 0]) (λb w1=>w.heap.size<=b/\w1.heap[b]? =some (.cells #[.map mp] 319 (0,0)))):=by
 refine enter (vs:=[_]) func264 rfl ntmps264 rfl ?_;refine B 2 ?_;refine yX ?_;intro b1 w1 aQ aX gb eO gZ;refine B 10 ?_;refine kH b1 results264 rfl A1 rfl ?_;exact Xt
theorem nLo{kv:List (Int×Int)}(mb bx:Nat)(m:Mp)(hm:m.Ok kv)(W:World)(aQ:W.heap[bx]? =some (.cells #[.map (some mb)] 319 (0,0)))(ij:W.heap[mb]? =some (m.obj (Value.int .i64) kv)):u7 prog 302 [ptr bx 0] aj (λp=>p.length<=kv.length) (λxs=>xs.Perm (kv.map (·.1))) (λ_=>False) (λk=>k=bx\/k=mb) W:=by
 intro l M I X0 hM hI hX hy h0;have aX:¬(cF hM (λ_=>False) (hI [] _)).X bx:=by rintro(h|h);exact(hM _ h).2.2 (.inl rfl);exact h.elim
 have ve:¬(cF hM (λ_=>False) (hI [] _)).X mb:=by rintro(h|h);exact(hM _ h).2.2 (.inr rfl);exact h.elim
 have sK:=(aT.1 ij).1;refine zUg ?_;refine B 3 ?_;refine JV (ev:=(Value.int .i64)) underlying319 (bL.old A0 ij ve trivial) rfl rfl rfl ?_;intro rb lZ JW;replace lZ:=yb lZ;refine B 3 ?_;refine CJ.loop (α:=List Nat×aB) (λp=>[(0,yv l),(5,ptr rb 0)]) (λp=>[(rb,m.it mb p.1)]) (λp=>[W]) (λp=>cF hM p.2 (hI (p.1.map (yF kv)) p.2)) (λp=>p.1.Nodup/\(∀j∈p.1,j<kv.length)/\∀k,p.2 k->W.heap.size<=k) (λp=>kv.length-p.1.length) ([],λ_=>False) ⟨List.nodup_nil,by simp,λ_ h=>h.elim⟩ ⟨rfl,rfl,trivial⟩ rfl rfl zX ?_;rintro⟨js,V⟩ ⟨hnd,gf,hV⟩;dsimp only at hnd gf hV ⊢;have ve:¬(cF hM V (hI (js.map (yF kv)) V)).X mb:=by rintro(h|h);exact(hM _ h).2.2 (.inr rfl);have:=hV _ h;omega
 have hln:=U0 kv.length js hnd gf;refine B 2 ?_;refine yG (ev:=(Value.int .i64)) (i:=0) rfl hm (bL.old A0 ij ve z7) gf rfl rfl rfl (λbP=>?_) (λjn pn ja kZ=>?_)
 ·refine B 9 ?_;exact D9 (.inr rfl) results302 A0 hV (by intro k hk hx;simp only[cZ,eh,iB,cI,fu,or_false]at hx;omega) (λA hA=>.inl ⟨_,nUh hnd gf bP,hA⟩)
 refine B 10 ?_;refine rv rfl rfl rfl (sL (ev:=(Value.int .i64)) (i:=0) rfl hm (bL.old A0 ij ve z7) ja rfl) ?_;refine B 8 ?_;refine D8 (λV=>hI (js.map (yF kv)++[pn.1]) V) hX hV zX rfl rfl rfl rfl (λW1 sJ kJ=>hy (js.map (yF kv)) (pn.1) V W1 (by have h9:=(wu hnd gf ja kZ).2.2;simp only[cK,fp,dQ,mT];omega) sJ kJ) ?_ ?_
 ·intro V hV;refine B 6 ?_;refine PJ.again (js++[jn],V) ⟨(wu hnd gf ja kZ).1,(wu hnd gf ja kZ).2.1,hV⟩ QB ⟨rfl,rfl,trivial⟩ rfl (by dsimp only;rw[Zx ja]) zX
 intro V hV;refine B 8 ?_;exact D9 (.inl rfl) results302 A0 hV (by intro k hk hx;simp only[cZ,eh,iB,cI,fu,or_false]at hx;omega) (λA hA=>.inr hA)
theorem n1l{cap:List Value}(az:dP prog f)(w:World)(lF:∀k,RO k->k<w.heap.size)(hlen:∀p,Pre p->p.length<=100000)(oh:∀W2,Below w.heap.size w W2->u7 prog f cap aj Pre Fin (λ_=>False) RO W2):Calls prog 184 #[.slice none 0 0,.func (.func f) #[] cap.toArray] w (λe w'=>∃xs,Fin xs/\nD w aj 1 3 xs id e w'):=by
 refine B1 Gh.no [] (vs:=[_,_]) func184 rfl ntmps184 rfl (uK w) ?_;refine B 2 ?_;refine Pj rfl rfl rfl ?_;refine yW ?_;intro b2 cR cX;refine B 10 ?_;refine CJ.range2 (f:=f) (cap:=cap) (α:=Int) (enc:=aj) (Pre:=Pre) (Fin:=Fin) (RO:=RO) (MI:=λ_=>False) rfl az (λW W2 hS hB=>oh W2 ((hS.links w A0).below (by simp only[eh,iB,cI,fu,or_false,Gh.no,false_or];omega) |>.trans (hB.mono (hS.links w A0).size))) (λ_ _ _ hk=>hk.elim) (λW hS k hk=>by have h1:=lF k hk;have h2:=(hS.links w A0).size;exact⟨by omega,by simp only[eh,iB,cI,fu,or_false];omega,λh=>h⟩) (λ_=>rfl) (λpre G' Hc=>G'=Gh.no/\∃r:Rw,r.Fr Gh.no [w]/\r.Fit 1 pre/\Hc=[(b2,.cells #[r.val pre.length] 44 (0,0))]++(r.hp aj 3 pre++[])) (λ_ _ _=>False) ⟨rfl,.nil,True.intro,rfl,rfl⟩ zO ?_ ?_ ?_
 ·rintro pre x G' Hc l Dk rec W1 M V Wy lN qB eC ⟨rfl,r,bE,ak,rfl⟩ dZ gM GM qC bM yq;simp only[ad]at dZ qC;have cE:r.ge w.heap.size:=Rw.ge_of bE A0;have hpl:=hlen _ eC;simp only[cK,dQ,mT]at hpl;have Qv:∀p∈r.hp aj 3 pre,M p.1\/V p.1:=λp hp=>bM.loc.h p UX;refine MQ ?_;refine B 4 ?_;refine Co ?_;refine yW ?_;intro kj qN qO;refine pM (r:=r) (xs:=pre) (zs:=[x]) (enc:=aj) (m:=1) (H0:=[(kj,.cells #[.int .i64 x] 3 (0,0)),(b2,.cells #[r.val pre.length] 44 (0,0))]) (H1:=(l,.loop {rec with state:=.busy})::bT Dk) yr Hl nw rfl rfl rfl rfl (dz.one (z:=x) nw Hm underlying44 (bL.own (i:=0) rfl)) ak (Rw.Fr_ext Qv) zX Cp ?_;intro rG JX JY sA sM;replace sA:=yb sA;refine bh (i:=1) rfl sizeOf44 rfl rfl rfl rfl rfl rfl ?_;refine B 2 ?_;refine og ?_;refine JP (G2:=Gh.no) (Hc2:=[(b2,.cells #[(Rw.row rG JX JY).val (pre++[x]).length] 44 (0,0))]++((Rw.row rG JX JY).hp aj 3 (pre++[x])++[])) bM gM ⟨λ_ h=>h,λ_ h=>.inl h,λ_ h=>.inl h,(Zn rfl (sA.imp id (λh=>h.1))),Zo⟩ (JQ lN qB) ?_;exact⟨rfl,.row rG JX JY,sA.elim (λh=>Rw.Fr_at bE h) (λh=>.inr h.2),sM,rfl⟩
 ·rintro i6 l Dk rec G' Hc cB dZ gM ⟨rfl,r,bE,ak,rfl⟩;replace dZ:=yb dZ;have cE:r.ge w.heap.size:=Rw.ge_of bE A0;refine Qw λWd qh=>?_;have kI:=Nk qh;refine B 9 ?_;have hq:=λ(k:Nat)=>Rw.mem_ge (enc:=aj) (t:=3) (xs:=i6) (k:=k) cE;refine PJ.reH (H':=(b2,.cells #[r.val i6.length] 44 (0,0))::(r.hp aj 3 i6++(l,.loop rec)::bT Dk)) (by simp[book,Rw.val_cells]) ?_;refine u5 (.inl rfl) zX λa W H' hF hS bV bO=>?_;refine⟨_,by rw[results_tmp results184];exact congrArg (λu=>Result.ok u W) (hF 4 _ rfl),i6,cB,r,rfl,?_,cE,ak,?_⟩
  ·refine(hS.links w A0).below λk hk hx=>?_;exact Zp
  cases r with
  |nil=>trivial
  |row b cap sp=>exact hS.own _ (bV (b,ck aj 3 i6 sp) ud (kI _ ud).1)
 exact UY
theorem U1{cap:List Value}(az:dP prog f)(w:World)(lF:∀k,RO k->k<w.heap.size)(hlen:∀p,Pre p->p.length<=100000)(oh:∀W2,Below w.heap.size w W2->u7 prog f cap aj Pre Fin (λ_=>False) RO W2):Calls prog 118 #[.func (.func f) #[] cap.toArray] w (λe w'=>∃xs,Fin xs/\nD w aj 1 3 xs id e w'):=by
 refine enter (vs:=[_]) func118 rfl ntmps118 rfl ?_;refine B 8 ?_;refine QC (enc:=aj) (m:=1) (t:=3) (Fin:=Fin) (v:=id) call184 rfl rfl rfl (λW hS=>n1l az W (λk hk=>jT (lF k hk) (hS.links w A0).size) hlen (λW2 hB=>oh W2 (((hS.links w A0).below Nq).trans (hB.mono (hS.links w A0).size)))) ?_;intro xs r cB bE ak;refine B 4 ?_;exact bH (.inl rfl) results118 (RS.t rfl RS.n) λW hS=>⟨xs,cB,r,rfl,hS.base A0 UZ,Rw.ge_of bE A0,ak,by cases r with|nil=>exact True.intro|row b cap sp=>exact hS.own _ A0⟩
theorem nGl{cap:List Value}(az:dP prog f)(w:World)(lF:∀k,RO k->k<w.heap.size)(hlen:∀p,Pre p->p.length<=100000)(oh:∀W2,Below w.heap.size w W2->u7 prog f cap aj Pre Fin (λ_=>False) RO W2)(ys:List Int)(Ji:∀xs,Fin xs->de xs=ys/\xs.length<=100000):Calls prog 263 #[.func (.func f) #[] cap.toArray] w (nD w aj 1 3 ys id):=by
 refine enter (vs:=[_]) func263 rfl ntmps263 rfl ?_;refine B 8 ?_;refine QC (enc:=aj) (m:=1) (t:=3) (Fin:=Fin) (v:=id) call118 rfl rfl rfl (λW hS=>U1 az W (λk hk=>jT (lF k hk) (hS.links w A0).size) hlen (λW2 hB=>oh W2 (((hS.links w A0).below Nq).trans (hB.mono (hS.links w A0).size)))) ?_;intro xs r cB bE ak;obtain⟨hsx,cj⟩:=Ji xs cB;have cE:=Rw.ge_of bE A0;refine B 6 ?_;refine yA (r:=r) (enc:=aj) (m:=1) (t:=3) (xs:=xs) (ys:=de xs) (H0:=[]) (H1:=[]) (v:=λ_=>.tuple #[]) rfl call48 rfl rfl rfl (λhr W _=>by subst hr;exact Zq ak W) (λb cap sp hr W _ h=>by subst hr;exact JT zJ ak h) ?_;intro r2 cN lU lX i7;have gm:=lU bE;have dE:=lX _ cE;refine B 9 ?_;subst hsx;exact nW (H0:=[]) (H1:=[]) (r:=r2) (.inl rfl) results263 (RS.t rfl RS.n) A0 (by rw[dH];exact Rw.over (Rw.ge_of gm A0)) (by show r.val _=r2.val _;rw[<-i7,yu]) cN (Rw.ge_of gm A0) zX
theorem ntk(bx:Nat)(W:World)(aQ:W.heap[bx]? =some (.cells #[.map none] 319 (0,0))):u7 prog 302 [ptr bx 0] aj (λp=>p.length<=0) (λxs=>xs=[]) (λ_=>False) (λk=>k=bx) W:=by
 intro l M I X0 hM hI hX hy h0;have aX:¬(cF hM (λ_=>False) (hI [] _)).X bx:=by rintro(h|h);exact(hM _ h).2.2 rfl;exact h.elim
 refine zUg ?_;refine B 3 ?_;refine QD underlying319 rfl rfl rfl ?_;intro rb lZ JW;replace lZ:=yb lZ;refine B 3 ?_;refine CJ.loop (α:=Nat) (λp=>[(0,yv l),(5,ptr rb 0)]) (λp=>[(rb,.mapIter none 0 #[] 0)]) (λp=>[W]) (λp=>cF hM (λ_=>False) (hI [] _)) (λp=>True) (λp=>0) 0 True.intro ⟨rfl,rfl,trivial⟩ rfl rfl zX ?_;rintro p _;refine B 2 ?_;refine JZ (i:=0) rfl rfl rfl rfl ?_;refine B 9 ?_;exact D9 (.inr rfl) results302 A0 (λ_ h=>h.elim) Zy (λA hA=>.inl ⟨[],rfl,hA⟩)
def mI (kv:List (Int×Int)):List Nd:=(de (kv.map (·.1))).map λk=>⟨k,(av kv k).getD 0⟩
theorem QE:kY prog 53 355 2:=⟨underlying53,Tryz.t355,.agg #[.int .i64 0,.int .i64 0],yz,rfl,rfl,rfl,by decide⟩
theorem Rw.val_one2(n:Nat)(r:Rw):nT [r.val n]=true:=by cases r<;>rfl
theorem nmn{β:Type}(f:Int->β){xs:List Int}{x:Int}(hx:xs[j]? =some x):(xs.take (j+1)).map f=(xs.take j).map f++[f x]:=by rw[nC hx];simp
theorem J0(o:Option Int):(o.map (Value.int .i64)).getD (.int .i64 0)= .int .i64 (o.getD 0):=by cases o<;>rfl
theorem Zz{kv:List (Int×Int)}(kK:kv.length<=100000)(mb:Nat)(m:Mp)(hm:m.Ok kv)(w:World)(ij:w.heap[mb]? =some (m.obj (Value.int .i64) kv)):Calls prog 220 #[.map (some mb)] w (nD w eW 2 355 (mI kv) (λs=>.agg #[s])):=by
 have sK:=(aT.1 ij).1;have afh:(de (kv.map (·.1))).length=kv.length:=by rw[yu,fp]
 refine enter (vs:=[_]) func220 rfl ntmps220 rfl ?_;refine B 2 ?_;refine vf ?_;refine yW ?_;intro b2 cR cX;refine B 6 ?_;refine nB (α:=Nat) (v:=λb:Nat=>.func (.func 302) #[] #[ptr b 0]) (Φ:=λ(W:World) (b:Nat) (w1:World)=>W.heap.size<=b/\w1.heap[b]? =some (.cells #[.map (some mb)] 319 (0,0))) call264 rfl rfl rfl (λW hS=>nKj (some mb) W) ?_;rintro Wk bk wk ue Em ⟨J1,sN⟩;try dsimp only at J1 sN
 have QF:=ue.under;replace QF:=yf QF;have ZA:=(aT.1 sN).1;have QG:=ue.sizes;replace QG:=yb QG;have U2:=Em.size;refine n0 (enc:=aj) (m:=1) (t:=3) (xs:=de (kv.map (·.1))) (v:=id) (first:=[]) (cap:=[]) rfl call263 rfl rfl rfl nw (λW hS=>nGl (f:=302) (cap:=[ptr bk 0]) (Pre:=λp=>p.length<=kv.length) (Fin:=λxs=>xs.Perm (kv.map (·.1))) (RO:=λk=>k=bk\/k=mb) call302 W ?_ ?_ ?_ _ ?_) ?_
 ·intro k hk;have h1:=(hS.links wk A0).size;rcases hk with rfl|rfl<;>omega
 ·intro p hp;have:p.length<=kv.length:=hp;omega
 ·intro W2 hB;exact nLo mb bk m hm W2 (by rw[hB.block bk (by have:=(hS.links wk A0).size;omega)];exact hS.old A0 sN zU z7) (by rw[hB.block mb (by have:=(hS.links w A1).size;omega)];exact hS.old A1 ij zU z7)
 ·intro xs hx;exact⟨nGj hx,by rw[hx.length_eq,fp];exact kK⟩
 intro Ws a7 Ht ws QH ZB jH uf;have QI:=QH.sizes;replace QI:=yb QI;have yH:=ZB.size;have QJ:=QH.under;replace QJ:=yf QJ;refine B 5 ?_;refine CJ.loop (α:=Rw×Nat) (λp=>[(0,.map (some mb)),(2,ptr b2 0),(7,.slice a7 (de (kv.map (·.1))).length Ht),(8,.int .i64 ((de (kv.map (·.1))).length:Int)),(9,.int .i64 (p.2:Int))]) (λp=>[(b2,.cells #[p.1.val (((de (kv.map (·.1))).take p.2).map (λk=>(⟨k,(av kv k).getD 0⟩:Nd))).length] 55 (0,0))]++(p.1.hp eW 355 (((de (kv.map (·.1))).take p.2).map (λk=>(⟨k,(av kv k).getD 0⟩:Nd)))++[])) (λp=>[ws,wk,w]) (λp=>Gh.no) (λp=>p.2<=(de (kv.map (·.1))).length/\p.1.Fr Gh.no [ws,wk,w]/\p.1.Fit 2 (((de (kv.map (·.1))).take p.2).map (λk=>(⟨k,(av kv k).getD 0⟩:Nd)))) (λp=>(de (kv.map (·.1))).length-p.2) (.nil,0) ⟨db _,True.intro,rfl⟩ zR rfl rfl zX ?_;rintro⟨r,j⟩ ⟨hj,bE,ak⟩;dsimp only at hj bE ak ⊢;have cE:r.ge ws.heap.size:=Rw.ge_of bE A0;refine B 6 ?_;refine aG ?_ ?_
 ·intro ah;refine B 5 ?_;obtain⟨bo,oo,cs0,to,fk,rfl,fE,hcs,ar⟩:=jH.get zJ;obtain⟨x,hx⟩:=nj (de (kv.map (·.1))) j zJ;have ZC:=uf _ rfl;dsimp only at ZC;refine B 2 ?_;refine rv rfl rfl rfl (aa (v:=.int .i64 x) isAgg3 rfl A0 hcs zU QK (by have:=nR (enc:=λx=>(aj x).toArray) (n:=1) ar hx rfl zO;simpa[aj]using this)) ?_;refine B 9 ?_;refine rq (.int .i64 ((av kv x).getD 0)) (pN (ev:=(Value.int .i64)) underlying319 underlying3 zeroValue3 hm (bL.old A2 ij zU QK) rfl rfl) (J0 _) ?_;refine rv rfl rfl rfl (bY underlying355 zeroValue355 (bA.c sizeOf3 (bA.c sizeOf3 (bA.n))) rfl rfl) ?_;refine kr underlying53 sizeOf355 zeroValue355 rfl rfl rfl rfl rfl rfl rfl ?_;refine yW ?_;intro jI pO afi;refine pM (r:=r) (xs:=(((de (kv.map (·.1))).take j).map (λk=>(⟨k,(av kv k).getD 0⟩:Nd)))) (zs:=[(⟨x,(av kv x).getD 0⟩:Nd)]) (enc:=eW) (m:=2) (H0:=[(jI,.cells #[.int .i64 x,.int .i64 ((av kv x).getD 0)] 355 (0,0)),(b2,.cells #[r.val (((de (kv.map (·.1))).take j).map (λk=>(⟨k,(av kv k).getD 0⟩:Nd))).length] 55 (0,0))]) (H1:=[]) yr QE Qz rfl rfl rfl rfl (dz.one (z:=(⟨x,(av kv x).getD 0⟩:Nd)) Qz Ed underlying53 (bL.own (i:=0) rfl)) ak bE zX (by simp only[fp,jD,dQ,mT];omega) ?_;intro oM yI yJ qR sO;replace qR:=yb qR;refine B 1 ?_
  refine kf (i:=1) rfl sizeOf53 rfl rfl rfl rfl (bj rfl) rfl ?_;refine vd ?_;refine PJ.again (Rw.row oM yI yJ,j+1) ⟨by dsimp only;omega,qR.elim (λh=>Rw.Fr_at bE h) (λh=>.inr h),by rw[nmn (λk=>(⟨k,(av kv k).getD 0⟩:Nd)) hx];exact sO⟩ dG zR (by rw[nmn (λk=>(⟨k,(av kv k).getD 0⟩:Nd)) hx];rfl) rfl zX
 intro ah;refine B 6 ?_;have bP:(de (kv.map (·.1))).take j=de (kv.map (·.1)):=iV zJ;rw[bP]at ak ⊢;refine B 2 ?_;refine zTg ?_;refine B 3 ?_;exact nW (H0:=[(b2,.cells #[r.val ((de (kv.map (·.1))).map (λk=>(⟨k,(av kv k).getD 0⟩:Nd))).length] 55 (0,0))]) (H1:=[]) (r:=r) (.inl rfl) results220 (RS.wA (i:=0) rfl isAgg55 sizeOf55 rfl (bj rfl) RS.n) A2 (by simp only[dH,eP,dK,cZ,Over];exact⟨by omega,Rw.over (Rw.ge_of bE A2)⟩) rfl ak (Rw.ge_of bE A2) (by simp[Value.cells,mI])
theorem nuf(w:World):Calls prog 220 #[.map none] w (nD w eW 2 355 [] (λs=>.agg #[s])):=by
 refine enter (vs:=[_]) func220 rfl ntmps220 rfl ?_;refine B 2 ?_;refine vf ?_;refine yW ?_;intro b2 cR cX;refine B 6 ?_;refine nB (α:=Nat) (v:=λb:Nat=>.func (.func 302) #[] #[ptr b 0]) (Φ:=λ(W:World) (b:Nat) (w1:World)=>W.heap.size<=b/\w1.heap[b]? =some (.cells #[.map none] 319 (0,0))) call264 rfl rfl rfl (λW hS=>nKj none W) ?_;rintro Wk bk wk ue Em ⟨J1,sN⟩;try dsimp only at J1 sN
 have QF:=ue.under;replace QF:=yf QF;have ZA:=(aT.1 sN).1;have QG:=ue.sizes;replace QG:=yb QG;have U2:=Em.size;refine n0 (enc:=aj) (m:=1) (t:=3) (xs:=[]) (v:=id) (first:=[]) (cap:=[]) rfl call263 rfl rfl rfl nw (λW hS=>nGl (f:=302) (cap:=[ptr bk 0]) (Pre:=λp=>p.length<=0) (Fin:=λxs=>xs=[]) (RO:=λk=>k=bk) call302 W ?_ ?_ ?_ [] ?_) ?_
 ·intro k hk;have h1:=(hS.links wk A0).size;subst hk;omega
 ·intro p hp;omega
 ·intro W2 hB;exact ntk bk W2 (by rw[hB.block bk (by have:=(hS.links wk A0).size;omega)];exact hS.old A0 sN zU z7)
 ·intro xs hx;exact(by subst hx;exact⟨by simp[de],by simp⟩)
 intro Ws a7 Ht ws QH ZB jH uf;have QI:=QH.sizes;replace QI:=yb QI;have yH:=ZB.size;have QJ:=QH.under;replace QJ:=yf QJ;refine B 5 ?_;refine CJ.loop (α:=Nat) (λp=>[(2,ptr b2 0),(8,.int .i64 0),(9,.int .i64 0)]) (λp=>[(b2,.cells #[.slice none 0 0] 55 (0,0))]) (λp=>[ws,wk,w]) (λp=>Gh.no) (λp=>True) (λp=>0) 0 True.intro zR rfl rfl zX ?_;rintro p _;refine Jr ?_;refine B 12 ?_;refine QL ?_;refine B 3 ?_;exact nW (H0:=[(b2,.cells #[.slice none 0 0] 55 (0,0))]) (H1:=[]) (r:=.nil) (.inl rfl) results220 (RS.wA (i:=0) rfl isAgg55 sizeOf55 rfl (bj rfl) RS.n) A2 zRc rfl rfl True.intro rfl
def En (kv:List (Int×Bool)) (n:Int):List (Int×Bool):=bQ kv n true
def ZD (kv:List (Int×Bool)) (d:Int):List (Int×Bool):=(cu d).foldl En (bQ kv (512+d) true)
def ug (ds:List Int):List (Int×Bool):=ds.foldl ZD []
theorem nHl{ds:List Int}(hx:ds[j]? =some d):ug (ds.take (j+1))=ZD (ug (ds.take j)) d:=by rw[nC hx];simp[ug,Cq]
theorem nFk{l:List Int}{n:Int}(hx:l[i]? =some n)(kv:List (Int×Bool)):(l.take (i+1)).foldl En kv=bQ ((l.take i).foldl En kv) n true:=by rw[nC hx];simp[En,Cq]
theorem Eo(l:List Int)(i:Nat)(h:¬i<l.length)(kv:List (Int×Bool)):(l.take i).foldl En kv=l.foldl En kv:=by rw[iV zJ]
theorem Ep(l:List Int)(i:Nat)(h:¬i<l.length):ug (l.take i)=ug l:=by rw[iV zJ]
def Er (ns:List Nd) (i:Nat) (x:Nd):Prop:=1<=x.at_/\x.at_<=1023/\(∀y,0<i->ns[i-1]? =some y->y.at_<x.at_)/\dy x.pub/\av (ug (cS ns)) x.at_=some true
def yK (ns:List Nd):Prop:=∀i x,ns[i]? =some x->Er ns i x
def yL (ns:List Nd) (j:Nat):Prop:=∀i x,i<j->ns[i]? =some x->Er ns i x
open Classical in
noncomputable def gW (ns:List Nd):Int:=if yK ns then 0 else 210
theorem J2(h:yK ns):gW ns=0:=by unfold gW;rw[if_pos h]
theorem Es:gW ns=0↔yK ns:=by unfold gW;split<;>simp_all
theorem U3(ns:List Nd):gW ns=0\/gW ns=210:=by unfold gW;split<;>simp
theorem nad(h:yL ns j)(hj:¬j<ns.length):0=gW ns:=by
 rw[J2];exact λi x hx=>h i x (by have:=nE hx;omega) hx
theorem nO{x:Nd}(hx:ns[j]? =some x)(h:¬Er ns j x):210=gW ns:=by
 unfold gW;rw[if_neg];exact λg=>h (g j x hx)
theorem yL.next{x:Nd}(h:yL ns j)(hx:ns[j]? =some x)(hk:Er ns j x):yL ns (j+1):=by
 exact zhk
theorem n3l{zs:List Int}{x:Int}(h:x∈Go.Lib.compact zs):x∈zs:=by
 unfold Go.Lib.compact Go.Lib.compactUpTo at h;obtain⟨i,hi,rfl⟩:=bW.1 h;have hl:=oT.1 (sP.1 hi).1;rw[getElem!_pos zs.toArray i wv];simp
theorem Et(h:d∈cS ns):dD d:=by
 have h1:=n3l h;have h2:=(List.mergeSort_perm (lE ns) _).mem_iff.1 h1;obtain⟨n,hn,rfl⟩:=bW.1 h2;have h3:=(sP.1 hn).2;simp only[decide_eq_true_eq]at h3;exact⟨by omega,by omega⟩
theorem nDl(d:Int):(cu d).length<=(512+d).toNat:=by unfold cu;rw[fp];exact n0m _
theorem nyj(o:Option Bool):(o.map Value.bool).getD (.bool false)= .bool (o.getD false):=by cases o<;>rfl
theorem nVc(o:Option Bool):o.getD false=true↔o=some true:=by cases o with|none=>simp|some b=>cases b<;>simp
theorem ZE(ns:List Nd)(hn:ns.length<=100000)(N:Nat)(a:Option Addr)(cp:Nat)(w:World)(hN:N<=w.heap.size)(aH:ag fF 2 N w a ns):Calls prog 201 #[.agg #[.slice a ns.length cp]] w (ay w (.int .i64 (gW ns))):=by
 have qo:=nNk ns;refine enter (vs:=[_]) func201 rfl ntmps201 rfl ?_;refine B 2 ?_;refine yX ?_;intro b1 w1 aQ aX gb eO gZ;refine B 5 ?_;refine Eh Value.bool rfl rfl ?_;refine yW ?_;intro ki PQ PR;refine B 6 ?_;refine rr (.agg #[.slice a ns.length cp]) (ae isAgg55 sizeOf55 rfl A0 aQ aX zI rfl) ?_;refine n0 (enc:=aj) (m:=1) (t:=3) (xs:=cS ns) (v:=id) (first:=[]) (cap:=[]) rfl call205 rfl rfl rfl nw (λW hS=>n0b ns hn N a cp W (aR hN (hS.links w A1).size) (aH.up (ao _) (hS.same A1 hN zS Cs))) ?_;intro Wm am cpm wm Cu U4 yM QM;have QN:=Cu.sizes;replace QN:=yb QN;have hzm:=U4.size;have QO:=Cu.under;replace QO:=yf QO;refine B 5 ?_;refine CJ.loop (α:=Mp×Nat) (λp=>[(1,ptr b1 0),(3,.map (some ki)),(14,.slice am (cS ns).length cpm),(15,.int .i64 ((cS ns).length:Int)),(16,.int .i64 (p.2:Int))]) (λp=>[(ki,p.1.obj Value.bool (ug ((cS ns).take p.2)))]) (λp=>[wm,w1,w]) (λp=>Gh.no) (λp=>p.2<=(cS ns).length/\p.1.Ok (ug ((cS ns).take p.2))) (λp=>(cS ns).length-p.2) (⟨[],0⟩,0) ⟨db _,Mp.nil⟩ zR rfl rfl zX ?_;rintro⟨m,j⟩ ⟨hj,hm⟩;dsimp only at hj hm ⊢;refine B 6 ?_;refine aG ?_ ?_
 ·intro ah;refine B 5 ?_;obtain⟨bm,om,csm,tm,frm,rfl,ku,ZF,ZG⟩:=yM.get zJ;have kI:=QM _ rfl;dsimp only at kI;obtain⟨d,hx⟩:=nj (cS ns) j zJ;have hd:=Et (cb hx);have hd1:=hd.1;have yp:=hd.2;have hpl:=nDl d;refine B 2 ?_;refine rv rfl rfl rfl (aa (v:=.int .i64 d) isAgg3 rfl A0 ZF zU Ej (by have:=nR (enc:=λx=>(aj x).toArray) (n:=1) ZG hx rfl zO;simpa[aj]using this)) ?_;refine B 6 ?_;refine ZH ?_;intro Wp ap k4 wp vg J3 pP oU;have qS:=vg.sizes;replace qS:=yb qS;have hzp:=J3.size;have qT:=vg.under;replace qT:=yf qT;refine B 12 ?_;refine Hr (i:=0) (ev:=Value.bool) (v:=true) rfl hm underlying351 underlying3 rfl rfl rfl rfl ?_;intro m2 aN;refine B 10 ?_;refine CJ.loop (α:=Mp×Nat) (λp=>[(1,ptr b1 0),(3,.map (some ki)),(14,.slice (some ⟨bm,om,none⟩) (cS ns).length cpm),(15,.int .i64 ((cS ns).length:Int)),(16,.int .i64 (j:Int)),(28,.slice ap (cu d).length k4),(29,.int .i64 ((cu d).length:Int)),(30,.int .i64 (p.2:Int))]) (λp=>[(ki,p.1.obj Value.bool (((cu d).take p.2).foldl En (bQ (ug ((cS ns).take j)) (512+d) true)))]) (λp=>[wp,wm,w1,w]) (λp=>Gh.no) (λp=>p.2<=(cu d).length/\p.1.Ok (((cu d).take p.2).foldl En (bQ (ug ((cS ns).take j)) (512+d) true))) (λp=>(cu d).length-p.2) (m2,0) ⟨db _,aN⟩ zR rfl rfl zX ?_
  rintro⟨mi,i⟩ ⟨hi,sQ⟩;dsimp only at hi sQ ⊢;refine B 6 ?_;refine aG ?_ ?_
  ·intro aJ;refine B 5 ?_;obtain⟨bq,oq,U5,tq,U6,rfl,U7,qU,qV⟩:=pP.get zJ;have yN:=oU _ rfl;dsimp only at yN;obtain⟨n,hy⟩:=nj (cu d) i zJ;refine B 2 ?_;refine rv rfl rfl rfl (aa (v:=.int .i64 n) isAgg3 rfl A0 qU zU Ej zqd) ?_;refine B 6 ?_;refine Hr (i:=0) (ev:=Value.bool) (v:=true) rfl sQ underlying351 underlying3 rfl rfl rfl rfl ?_;intro m3 aD;refine B 7 ?_;refine PJ.again (m3,i+1) ⟨by dsimp only;omega,by rw[nFk hy];exact aD⟩ dG zR (by rw[nFk hy];rfl) rfl zX
  intro aJ;refine B 6 ?_;have eD:((cu d).take i).foldl En (bQ (ug ((cS ns).take j)) (512+d) true)=ZD (ug ((cS ns).take j)) d:=by rw[Eo _ _ zJ];rfl
  rw[eD]at sQ ⊢;refine B 4 ?_;refine PJ.again (mi,j+1) ⟨by dsimp only;omega,by rw[nHl hx];exact sQ⟩ dG zR (by rw[nHl hx]) rfl zX
 intro ah;refine B 7 ?_;have bP:=Ep (cS ns) j zJ;rw[bP]at hm ⊢;refine B 2 ?_;refine rr (.slice a ns.length cp) (aa isAgg53 rfl A1 aQ aX zI rfl) ?_;refine B 5 ?_;refine CJ.loop (α:=Nat) (λj=>[(1,ptr b1 0),(3,.map (some ki)),(39,.slice a ns.length cp),(40,.int .i64 (ns.length:Int)),(41,.int .i64 (j:Int))]) (λj=>[(ki,m.obj Value.bool (ug (cS ns)))]) (λj=>[wm,w1,w]) (λj=>Gh.no) (λj=>j<=ns.length/\yL ns j) (λj=>ns.length-j) 0 ⟨db _,λi x hi=>absurd hi zJ⟩ zR rfl rfl zX ?_;rintro j ⟨hj,dm⟩;refine B 6 ?_;refine aG ?_ ?_
 ·intro cO;refine B 5 ?_;obtain⟨bo,oo,cs0,to,fk,rfl,fE,hcs,ar⟩:=aH.get zJ;obtain⟨x,hx⟩:=nj ns j zJ;refine B 3 ?_;refine rq (.agg (fF x)) (ai isAgg355 sizeOf355 rfl A2 hcs zU Ej (nk ar hx rfl)) (va (nr ar hx rfl)) ?_;refine aZ zeroValue355 rfl rfl ?_;refine yW ?_;intro rG I5 I6;refine B 1 ?_;refine Zu ?_;refine B 3 ?_;by_cases h1:x.at_<1
  ·refine J4 ?_;refine nl 34 ((.det [] _)::(.det [0] _)::(.det [1] _)::(.det [2] _)::(.det [3] undef)::(.det [3,4] undef)::(.det [3,5] undef)::(.det [3,6] _)::(.det [7] _)::(.det [8] undef)::(.det [8,9] undef)::(.det [8,10] undef)::(.det [11] undef)::(.det [11,12] undef)::(.det [11] undef)::(.det [11,14] undef)::(.det [11] undef)::(.det [11,16] undef)::(.det [11,15,17] undef)::(.det [11,18] undef)::(.det [11,19] undef)::(.det [11,13,20] undef)::(.det [8,11,21] undef)::(.det [8,22] _)::(.det [23] _)::(.det [24] undef)::(.det [24,25] undef)::(.det [24,26] undef)::(.det [24,27] undef)::(.det [24,28] _)::(.det [29] _)::(.det [30] undef)::(.det [30] undef)::(.det [30,32] undef)::[]) zQ (xc z3 (xc zZ (xc (by exact λaf=>X.val rfl rfl (RV.re (v':=.bool true) (me rfl rfl) (vb (decide_eq_true zJ))) (λ_ _=>rfl)) (xc zN (xc zL (xc zL (xc zL (xc z4 (xc zN (xc zL (xc zL (xc zL (xc zL (xc zL (xc zL (xc zL (xc zL (xc zL (xc zL (xc zL (xc zL (xc zL (xc zL (xc z4 (xc zN (xc zL (xc zL (xc zL (xc zL (xc z4 (xc zN (xc zL (xc zL (xc zL (xn))))))))))))))))))))))))))))))))))) zQ zQ zQ (λaf=>?_);exact QP
  by_cases h2:1023<x.at_
  ·refine J4 ?_;refine nl 34 ((.det [] _)::(.det [0] _)::(.det [1] _)::(.det [2] _)::(.det [3] _)::(.det [3,4] _)::(.det [3,5] _)::(.det [3,6] _)::(.det [7] _)::(.det [8] undef)::(.det [8,9] undef)::(.det [8,10] undef)::(.det [11] undef)::(.det [11,12] undef)::(.det [11] undef)::(.det [11,14] undef)::(.det [11] undef)::(.det [11,16] undef)::(.det [11,15,17] undef)::(.det [11,18] undef)::(.det [11,19] undef)::(.det [11,13,20] undef)::(.det [8,11,21] undef)::(.det [8,22] _)::(.det [23] _)::(.det [24] undef)::(.det [24,25] undef)::(.det [24,26] undef)::(.det [24,27] undef)::(.det [24,28] _)::(.det [29] _)::(.det [30] undef)::(.det [30] undef)::(.det [30,32] undef)::[]) zQ (xc z3 (xc zZ (xc Nr (xc zN (xc z3 (xc zZ (xc Hu (xc z5 (xc zN (xc zL (xc zL (xc zL (xc zL (xc zL (xc zL (xc zL (xc zL (xc zL (xc zL (xc zL (xc zL (xc zL (xc zL (xc z4 (xc zN (xc zL (xc zL (xc zL (xc zL (xc z4 (xc zN (xc zL (xc zL (xc zL (xn))))))))))))))))))))))))))))))))))) zQ zQ zQ (λaf=>?_);exact QP
  obtain⟨e,he⟩:∃e,(if dy x.pub then(0:Int)else 40)=e:=⟨_,rfl⟩;by_cases h3:j=0/\¬e=0
  ·refine J4 ?_;refine nl 34 ((.det [] _)::(.det [0] _)::(.det [1] _)::(.det [2] _)::(.det [3] _)::(.det [3,4] _)::(.det [3,5] _)::(.det [3,6] _)::(.det [7] _)::(.det [8] _)::(.det [8,9] _)::(.det [8,10] _)::(.det [11] undef)::(.det [11,12] undef)::(.det [11] undef)::(.det [11,14] undef)::(.det [11] undef)::(.det [11,16] undef)::(.det [11,15,17] undef)::(.det [11,18] undef)::(.det [11,19] undef)::(.det [11,13,20] undef)::(.det [8,11,21] _)::(.det [8,22] _)::(.det [23] _)::(.det [24] _)::(.det [24,25] _)::(.det [24,26] _)::(.det [24,27] _)::(.det [24,28] _)::(.det [29] _)::(.det [30] undef)::(.det [30] undef)::(.det [30,32] undef)::[]) zQ (xc z3 (xc zZ (xc Nr (xc zN (xc z3 (xc zZ (xc Eu (xc z5 (xc zN (xc zN (xc Eu (xc zN (xc zL (xc zL (xc zL (xc zL (xc zL (xc zL (xc zL (xc zL (xc zL (xc zL (xc z5 (xc z5 (xc zN (xc z3 (xc zZ (xc U8 (xc zRd (xc z5 (xc zN (xc zL (xc zL (xc zL (xn))))))))))))))))))))))))))))))))))) zQ zQ zQ (λaf=>?_);exact QP
  by_cases h4:j=0
  ·refine J4 ?_;refine nl 34 ((.det [] _)::(.det [0] _)::(.det [1] _)::(.det [2] _)::(.det [3] _)::(.det [3,4] _)::(.det [3,5] _)::(.det [3,6] _)::(.det [7] _)::(.det [8] _)::(.det [8,9] _)::(.det [8,10] _)::(.det [11] undef)::(.det [11,12] undef)::(.det [11] undef)::(.det [11,14] undef)::(.det [11] undef)::(.det [11,16] undef)::(.det [11,15,17] undef)::(.det [11,18] undef)::(.det [11,19] undef)::(.det [11,13,20] undef)::(.det [8,11,21] _)::(.det [8,22] _)::(.det [23] _)::(.det [24] _)::(.det [24,25] _)::(.det [24,26] _)::(.det [24,27] _)::(.det [24,28] _)::(.det [29] _)::(.det [30] _)::(.det [30] _)::(.det [30,32] _)::[]) zQ (xc z3 (xc zZ (xc Nr (xc zN (xc z3 (xc zZ (xc Eu (xc z5 (xc zN (xc zN (xc Eu (xc zN (xc zL (xc zL (xc zL (xc zL (xc zL (xc zL (xc zL (xc zL (xc zL (xc zL (xc z5 (xc z5 (xc zN (xc z3 (xc zZ (xc U8 (xc zQd (xc z5 (xc zN (xc zN (xc z3 (xc zZ (xn))))))))))))))))))))))))))))))))))) zQ zQ zQ (λaf=>?_);refine z6f ?_;refine B 4 ?_;refine aG ?_ ?_
   ·intro gL;refine B 11 ?_;exact U9
   intro gL;exact zdj
  obtain⟨y,hy⟩:=nj ns (j-1) zJ;by_cases h5:x.at_<=y.at_
  ·refine J4 ?_;refine nl 34 ((.det [] _)::(.det [0] _)::(.det [1] _)::(.det [2] _)::(.det [3] _)::(.det [3,4] _)::(.det [3,5] _)::(.det [3,6] _)::(.det [7] _)::(.det [8] _)::(.det [8,9] _)::(.det [8,10] _)::(.det [11] _)::(.det [11,12] _)::(.det [11] _)::(.det [11,14] _)::(.det [11] _)::(.det [11,16] _)::(.det [11,15,17] _)::(.det [11,18] _)::(.det [11,19] _)::(.det [11,13,20] _)::(.det [8,11,21] _)::(.det [8,22] _)::(.det [23] _)::(.det [24] undef)::(.det [24,25] undef)::(.det [24,26] undef)::(.det [24,27] undef)::(.det [24,28] _)::(.det [29] _)::(.det [30] undef)::(.det [30] undef)::(.det [30,32] undef)::[]) zQ (xc z3 (xc zZ (xc Nr (xc zN (xc z3 (xc zZ (xc Eu (xc z5 (xc zN (xc zN (xc Hu (xc zN (xc z3 (xc zZ (xc ZI (xc ZJ (xc zN (xc Dg (xc ZK (xc z3 (xc ZL (xc (by exact λaf=>X.val rfl rfl (RV.re (v':=.bool true) (qW rfl rfl) (vb (decide_eq_true zJ))) (λ_ _=>rfl)) (xc z4 (xc z5 (xc zN (xc zL (xc zL (xc zL (xc zL (xc z4 (xc zN (xc zL (xc zL (xc zL (xn))))))))))))))))))))))))))))))))))) zQ zQ zQ (λaf=>?_);exact QP
  by_cases h6:¬e=0
  ·refine J4 ?_;refine nl 34 ((.det [] _)::(.det [0] _)::(.det [1] _)::(.det [2] _)::(.det [3] _)::(.det [3,4] _)::(.det [3,5] _)::(.det [3,6] _)::(.det [7] _)::(.det [8] _)::(.det [8,9] _)::(.det [8,10] _)::(.det [11] _)::(.det [11,12] _)::(.det [11] _)::(.det [11,14] _)::(.det [11] _)::(.det [11,16] _)::(.det [11,15,17] _)::(.det [11,18] _)::(.det [11,19] _)::(.det [11,13,20] _)::(.det [8,11,21] _)::(.det [8,22] _)::(.det [23] _)::(.det [24] _)::(.det [24,25] _)::(.det [24,26] _)::(.det [24,27] _)::(.det [24,28] _)::(.det [29] _)::(.det [30] undef)::(.det [30] undef)::(.det [30,32] undef)::[]) zQ (xc z3 (xc zZ (xc Nr (xc zN (xc z3 (xc zZ (xc Eu (xc z5 (xc zN (xc zN (xc Hu (xc zN (xc z3 (xc zZ (xc ZI (xc ZJ (xc zN (xc Dg (xc ZK (xc z3 (xc ZL (xc zOd (xc z4 (xc z5 (xc zN (xc z3 (xc zZ (xc U8 (xc zRd (xc z5 (xc zN (xc zL (xc zL (xc zL (xn))))))))))))))))))))))))))))))))))) zQ zQ zQ (λaf=>?_);exact QP
  refine J4 ?_;refine nl 34 ((.det [] _)::(.det [0] _)::(.det [1] _)::(.det [2] _)::(.det [3] _)::(.det [3,4] _)::(.det [3,5] _)::(.det [3,6] _)::(.det [7] _)::(.det [8] _)::(.det [8,9] _)::(.det [8,10] _)::(.det [11] _)::(.det [11,12] _)::(.det [11] _)::(.det [11,14] _)::(.det [11] _)::(.det [11,16] _)::(.det [11,15,17] _)::(.det [11,18] _)::(.det [11,19] _)::(.det [11,13,20] _)::(.det [8,11,21] _)::(.det [8,22] _)::(.det [23] _)::(.det [24] _)::(.det [24,25] _)::(.det [24,26] _)::(.det [24,27] _)::(.det [24,28] _)::(.det [29] _)::(.det [30] _)::(.det [30] _)::(.det [30,32] _)::[]) zQ (xc z3 (xc zZ (xc Nr (xc zN (xc z3 (xc zZ (xc Eu (xc z5 (xc zN (xc zN (xc Hu (xc zN (xc z3 (xc zZ (xc ZI (xc ZJ (xc zN (xc Dg (xc ZK (xc z3 (xc ZL (xc zOd (xc z4 (xc z5 (xc zN (xc z3 (xc zZ (xc U8 (xc zQd (xc z5 (xc zN (xc zN (xc z3 (xc zZ (xn))))))))))))))))))))))))))))))))))) zQ zQ zQ (λaf=>?_);refine z6f ?_;refine B 4 ?_;refine aG ?_ ?_
  ·intro gv;refine B 11 ?_;exact U9
  intro gv;exact zdj
 intro cO;refine B 11 ?_;exact U9
def ik (kv:List (Int×Int)) (n:Int):List (Int×Int):=gn kv n
def k9 (kv:List (Int×Int)) (d:Int):List (Int×Int):=(cu d).foldl ik (ik kv (512+d))
theorem nIf{l:List Int}{n:Int}(hx:l[i]? =some n)(kv:List (Int×Int)):(l.take (i+1)).foldl ik kv=gn ((l.take i).foldl ik kv) n:=by rw[nC hx];simp[ik,Cq]
theorem nin{l:List Int}(h:¬i<l.length)(kv:List (Int×Int)):(l.take i).foldl ik kv=l.foldl ik kv:=by rw[iV zJ]
theorem QQ(kv:List (Int×Int))(d:Int):(k9 kv d).length<=kv.length:=by
 have key:∀(l:List Int) (kv:List (Int×Int)),(l.foldl ik kv).length<=kv.length:=by
  intro l;induction l with
  |nil=>intro kv;exact ao _
  |cons n l ih=>intro kv;exact aR (ih _) (ZM kv n).length_le
 exact aR (key _ _) (ZM kv _).length_le
theorem ZN(kv:List (Int×Int)):(mI kv).length=kv.length:=by unfold mI;rw[fp,yu,fp]
theorem nXf(ns:List Nd)(hn:ns.length<=100000)(N:Nat)(a:Option Addr)(cp:Nat)(w:World)(hN:N<=w.heap.size)(aH:ag fF 2 N w a ns)(eX:gW ns=210)(d:Int)(mem:Bool):Calls prog 218 #[.agg #[.slice a ns.length cp],.int .i64 d,.bool mem] w (ay w (.tuple #[.map none,.slice none 0 0,.int .i64 210])):=by
 refine ZO ?_;refine B 2 ?_;refine yX ?_;intro b3 w3 aM aD da cd cP;refine B 8 ?_;refine ZP ?_;refine zeg ?_;refine B 6 ?_;refine P8 ?_;refine B 13 ?_;exact bF (.inl rfl) results218 (RS.t rfl (RS.t rfl (RS.t rfl RS.n))) A1 trivial rfl
theorem n4j(ns:List Nd)(hn:ns.length<=100000)(N:Nat)(a:Option Addr)(cp:Nat)(w:World)(hN:N<=w.heap.size)(aH:ag fF 2 N w a ns)(eX:gW ns=0)(d:Int)(hd:dD d)(fN:av (cL ns) (512+d)=none):Calls prog 218 #[.agg #[.slice a ns.length cp],.int .i64 d,.bool true] w (ay w (.tuple #[.map none,.slice none 0 0,.int .i64 200])):=by
 have hd1:=hd.1;have yp:=hd.2;refine ZO ?_;refine B 2 ?_;refine yX ?_;intro b3 w3 aM aD da cd cP;refine z9h ?_;intro bf m uh Nj hm;replace uh:=yb uh;refine zIg ?_;refine tR ?_;refine B 2 ?_;refine Ni ?_;refine B 5 ?_;refine rq (.bool true) (dA rfl) (by rw[fN];rfl) ?_;refine B 14 ?_;exact bF (.inl rfl) results218 (RS.t rfl (RS.t rfl (RS.t rfl RS.n))) A1 uN rfl
theorem nVe(ns:List Nd)(hn:ns.length<=100000)(N:Nat)(a:Option Addr)(cp:Nat)(w:World)(hN:N<=w.heap.size)(aH:ag fF 2 N w a ns)(eX:gW ns=0)(d:Int)(hd:dD d)(mem:Bool)(jj:mem=true->(av (cL ns) (512+d)).isSome=true):Calls prog 218 #[.agg #[.slice a ns.length cp],.int .i64 d,.bool mem] w (Hv w (Value.int .i64) (k9 (cL ns) d) aj 1 (cu d) (λmp s=>.tuple #[mp,s,.int .i64 0])):=by
 have hd1:=hd.1;have yp:=hd.2;have hpl:=nDl d;refine ZO ?_;refine B 2 ?_;refine yX ?_;intro b3 w3 aM aD da cd cP;refine z9h ?_;intro bf m uh Nj hm;replace uh:=yb uh;refine zIg ?_;refine tR ?_;refine B 2 ?_;refine Ni ?_;refine B 4 ?_;refine nh (t:=37) rfl (λah=>?_) (λah=>?_)
 ·replace ah:=ya ah;refine B 1 ?_;refine rq (.bool false) (dA rfl) (vb (by rw[jj gw];rfl)) ?_;refine B 10 ?_;refine ZH ?_;intro Wp ap k4 wp vg J3 pP oU;have qS:=vg.sizes;replace qS:=yb qS;have hzp:=J3.size;have qT:=vg.under;replace qT:=yf qT;refine B 9 ?_;refine OY ?_;refine B 8 ?_;refine zAf ?_;intro m1 aX;refine B 11 ?_;refine zFe ?_;rintro⟨mi,i⟩ ⟨hi,sQ⟩;dsimp only at hi sQ ⊢;refine B 6 ?_;refine aG ?_ ?_
  ·intro aJ;exact zQi
  intro aJ;exact zHi
 replace ah:=ya ah;refine B 12 ?_;refine ZH ?_;intro Wp ap k4 wp vg J3 pP oU;have qS:=vg.sizes;replace qS:=yb qS;have hzp:=J3.size;have qT:=vg.under;replace qT:=yf qT;refine B 9 ?_;refine OY ?_;refine B 8 ?_;refine zAf ?_;intro m1 aX;refine B 11 ?_;refine zFe ?_;rintro⟨mi,i⟩ ⟨hi,sQ⟩;dsimp only at hi sQ ⊢;refine B 6 ?_;refine aG ?_ ?_
 ·intro cO;exact zQi
 intro cO;exact zHi
theorem Ev(ns:List Nd)(hn:ns.length<=100000)(N:Nat)(a:Option Addr)(cp:Nat)(w:World)(hN:N<=w.heap.size)(aH:ag fF 2 N w a ns)(eX:gW ns=210)(d p:Int):Calls prog 222 #[.agg #[.slice a ns.length cp],.int .i64 d,.int .i64 p] w (nD w eW 2 355 [] (λs=>.tuple #[.agg #[s],.int .i64 210])):=by
 refine ZQ ?_;refine B 2 ?_;refine yX ?_;intro b3 w3 aM aD da cd cP;refine vf ?_;refine yW ?_;intro b6 gV lP;refine Ns ?_;refine call call218 rfl rfl rfl (λW hS=>nXf ns hn N a cp W (aR hN (hS.links w A1).size) (aH.up (ao _) (hS.same A1 hN zS Cs)) eX d false) ?_;refine zdi ?_;exact nW (enc:=eW) (m:=2) (t:=355) (xs:=[]) (H0:=_) (H1:=[]) (r:=.nil) (.inl rfl) results222 (RS.wA (i:=0) rfl isAgg55 sizeOf55 rfl (bj rfl) (RS.t rfl RS.n)) A1 ZR rfl rfl True.intro (dH _).symm
theorem Ew(ns:List Nd)(hn:ns.length<=100000)(N:Nat)(a:Option Addr)(cp:Nat)(w:World)(hN:N<=w.heap.size)(aH:ag fF 2 N w a ns)(eX:gW ns=0)(d p:Int)(hd:dD d)(ZS:(if dy p then(0:Int)else 40)=40):Calls prog 222 #[.agg #[.slice a ns.length cp],.int .i64 d,.int .i64 p] w (nD w eW 2 355 [] (λs=>.tuple #[.agg #[s],.int .i64 50])):=by
 have hd1:=hd.1;have yp:=hd.2;refine ZQ ?_;refine B 2 ?_;refine yX ?_;intro b3 w3 aM aD da cd cP;refine vf ?_;refine yW ?_;intro b6 gV lP;refine Ns ?_;refine zuf ?_;intro bm m a8 Hw Wc wc vh Ex J5 vj mg sR hm pQ vk;replace mg:=yb mg;simp only[bD,and_true]at sR;have sS:=Ex.size;have yO:=vh.sizes;replace yO:=yb yO;have yP:=vh.under;replace yP:=yf yP;refine B 13 ?_;refine wh ?_;refine B 9 ?_;refine call call63 rfl rfl rfl (λW hS=>by rw[<-ZS];exact nJ p W) (v:=.int .i64 40) ?_;refine P8 ?_;refine B 6 ?_;refine bh (i:=1) rfl sizeOf55 rfl rfl rfl rfl rfl rfl ?_;refine B 5 ?_;exact nW (enc:=eW) (m:=2) (t:=355) (xs:=[]) (H0:=_) (H1:=[]) (r:=.nil) (.inl rfl) results222 (RS.wA (i:=1) rfl isAgg55 sizeOf55 rfl (bj rfl) (RS.t rfl RS.n)) A2 ZR rfl rfl True.intro (dH _).symm
theorem J6(ns:List Nd)(hn:ns.length<=100000)(N:Nat)(a:Option Addr)(cp:Nat)(w:World)(hN:N<=w.heap.size)(aH:ag fF 2 N w a ns)(eX:gW ns=0)(d p:Int)(hd:dD d)(tM:ns.length<100000)(ZS:(if dy p then(0:Int)else 40)=0):Calls prog 222 #[.agg #[.slice a ns.length cp],.int .i64 d,.int .i64 p] w (nD w eW 2 355 (mI (bQ (k9 (cL ns) d) (512+d) p)) (λs=>.tuple #[.agg #[s],.int .i64 0])):=by
 have hd1:=hd.1;have yp:=hd.2;refine ZQ ?_;refine B 2 ?_;refine yX ?_;intro b3 w3 aM aD da cd cP;refine vf ?_;refine yW ?_;intro b6 gV lP;refine Ns ?_;refine zuf ?_;intro bm m a8 Hw Wc wc vh Ex J5 vj mg sR hm pQ vk;replace mg:=yb mg;simp only[bD,and_true]at sR;have sS:=Ex.size;have yO:=vh.sizes;replace yO:=yb yO;have yP:=vh.under;replace yP:=yf yP;refine B 13 ?_;refine wh ?_;refine B 9 ?_;refine call call63 rfl rfl rfl (λW hS=>by rw[<-ZS];exact nJ p W) (v:=.int .i64 0) ?_;refine wh ?_;refine B 11 ?_;refine Hr (i:=0) (ev:=(Value.int .i64)) (v:=p) rfl hm underlying319 underlying3 rfl rfl rfl rfl ?_;intro m2 aN;refine B 5 ?_;refine Nt (enc:=eW) (m:=2) (t:=355) (xs:=mI (bQ (k9 (cL ns) d) (512+d) p)) (v:=λs=>.agg #[s]) (first:=[]) (cap:=[]) rfl call220 rfl rfl rfl (λW hS=>Zz (by have h1:=Nn (k9 (cL ns) d) (512+d) p;have h2:=QQ (cL ns) d;have h3:=Np ns;omega) bm m2 aN W (hS.own _ A0)) ?_;intro r bE ak;refine ZT ?_;refine B 4 ?_;exact nW (enc:=eW) (m:=2) (t:=355) (xs:=mI (bQ (k9 (cL ns) d) (512+d) p)) (H0:=[(bm,m2.obj (Value.int .i64) (bQ (k9 (cL ns) d) (512+d) p)),(b6,.cells #[r.val (mI (bQ (k9 (cL ns) d) (512+d) p)).length] 55 (0,0))]) (H1:=[]) (r:=r) (.inl rfl) results222 (RS.wA (i:=1) rfl isAgg55 sizeOf55 rfl (bj rfl) (RS.t rfl RS.n)) A2 ZU rfl ak (Rw.ge_of bE A2) Va
theorem nDn(ns:List Nd)(hn:ns.length<=100000)(N:Nat)(a:Option Addr)(cp:Nat)(w:World)(hN:N<=w.heap.size)(aH:ag fF 2 N w a ns)(eX:gW ns=210)(d:Int):Calls prog 221 #[.agg #[.slice a ns.length cp],.int .i64 d] w (nD w eW 2 355 [] (λs=>.tuple #[.agg #[s],.int .i64 210])):=by
 refine ZV ?_;refine yV ?_;intro b2 w2 aU aN dY cR cX;refine vf ?_;refine yW ?_;intro b4 dO dU;refine B 5 ?_;refine ZX ?_;refine B 1 ?_;refine zKg ?_;exact zXi
theorem nvo(ns:List Nd)(hn:ns.length<=100000)(N:Nat)(a:Option Addr)(cp:Nat)(w:World)(hN:N<=w.heap.size)(aH:ag fF 2 N w a ns)(eX:gW ns=0)(d:Int)(hd:dD d)(fN:av (cL ns) (512+d)=none):Calls prog 221 #[.agg #[.slice a ns.length cp],.int .i64 d] w (nD w eW 2 355 [] (λs=>.tuple #[.agg #[s],.int .i64 200])):=by
 refine ZV ?_;refine yV ?_;intro b2 w2 aU aN dY cR cX;refine vf ?_;refine yW ?_;intro b4 dO dU;refine B 5 ?_;refine ZX ?_;refine B 1 ?_;refine zxg ?_;exact zXi
theorem nmo(ns:List Nd)(hn:ns.length<=100000)(N:Nat)(a:Option Addr)(cp:Nat)(w:World)(hN:N<=w.heap.size)(aH:ag fF 2 N w a ns)(eX:gW ns=0)(d:Int)(hd:dD d)(jj:(av (cL ns) (512+d)).isSome=true):Calls prog 221 #[.agg #[.slice a ns.length cp],.int .i64 d] w (nD w eW 2 355 (mI (k9 (cL ns) d)) (λs=>.tuple #[.agg #[s],.int .i64 0])):=by
 have hd1:=hd.1;have yp:=hd.2;refine ZV ?_;refine yV ?_;intro b2 w2 aU aN dY cR cX;refine vf ?_;refine yW ?_;intro b4 dO dU;refine B 5 ?_;refine ZX ?_;refine B 1 ?_;refine zwf ?_;intro bm m a8 Hw Wc wc vh Ex J5 vj mg sR hm pQ vk;replace mg:=yb mg;simp only[bD,and_true]at sR;have sS:=Ex.size;have yO:=vh.sizes;replace yO:=yb yO;have yP:=vh.under;replace yP:=yf yP;refine B 12 ?_;refine Nt (enc:=eW) (m:=2) (t:=355) (xs:=mI (k9 (cL ns) d)) (v:=λs=>.agg #[s]) (first:=[]) (cap:=[]) rfl call220 rfl rfl rfl (λW hS=>Zz (by have h2:=QQ (cL ns) d;have h3:=Np ns;omega) bm m hm W (hS.own _ A0)) ?_;intro r bE ak;refine B 1 ?_;refine ZT ?_;refine B 4 ?_;exact nW (enc:=eW) (m:=2) (t:=355) (xs:=mI (k9 (cL ns) d)) (H0:=[(bm,m.obj (Value.int .i64) (k9 (cL ns) d)),(b4,.cells #[r.val (mI (k9 (cL ns) d)).length] 55 (0,0))]) (H1:=[]) (r:=r) (.inl rfl) results221 (RS.wA (i:=1) rfl isAgg55 sizeOf55 rfl (bj rfl) (RS.t rfl RS.n)) A2 ZU rfl ak (Rw.ge_of bE A2) Va
theorem J7(x:Int)(hx:dy x)(w:World):Calls prog 219 #[.int .i64 x] w (ay w (.bool false)):=by
 refine enter (vs:=[_]) func219 rfl ntmps219 rfl ?_;refine B 8 ?_;refine call call63 rfl rfl rfl (λW hS=>by have:=nJ x W;rw[if_pos hx]at this;exact this) ?_;refine wh ?_;refine B 4 ?_;refine ax results219 rfl A0 ?_;rfl
theorem nej(w:World)(l:List Int)(jJ:∀y∈l,dy y)(hl:l.length<=1000)(NP:Nat)(ap:Option Addr)(k4:Nat)(jK:ag encI 1 NP w ap l)(wx:NP<=w.heap.size):Calls prog 242 #[.slice ap l.length k4,.func (.func 219) #[] #[]] w (ay w (.int .i64 (-1))):=by
 refine enter (vs:=[_,_]) func242 rfl ntmps242 rfl ?_;refine B 14 ?_;refine CJ.loop (α:=Nat) (λj=>[(0,.slice ap l.length k4),(1,.func (.func 219) #[] #[]),(7,.int .i64 (l.length:Int)),(8,.int .i64 (j:Int))]) (λj=>[]) (λj=>[w]) (λj=>Gh.no) (λj=>j<=l.length) (λj=>l.length-j) 0 (db _) zR rfl rfl zX ?_;rintro j hj;refine B 6 ?_;refine aG ?_ ?_
 ·intro ah;refine B 11 ?_;obtain⟨b0,QR,cs0,t0,fk,rfl,ZY,Ey,ar⟩:=jK.get zJ;obtain⟨x,hx⟩:=nj l j zJ;refine B 5 ?_;refine rv rfl rfl rfl (aa (v:=.int .i64 x) isAgg3 rfl A0 Ey zU trivial (nR ar hx rfl zO)) ?_;refine nK (f:=219) (cap:=[]) rfl call219 rfl rfl rfl (λW hS=>J7 x (jJ x (cb hx)) W) ?_;refine B 10 ?_;exact C9
 intro ah;refine B 11 ?_;refine ax results242 rfl A0 ?_;rfl
theorem nkh(w:World)(l:List Int)(jJ:∀y∈l,dy y)(hl:l.length<=1000)(NP:Nat)(ap:Option Addr)(k4:Nat)(jK:ag encI 1 NP w ap l)(wx:NP<=w.heap.size):Calls prog 175 #[.slice ap l.length k4,.func (.func 219) #[] #[]] w (ay w (.bool false)):=by
 refine enter (vs:=[_,_]) func175 rfl ntmps175 rfl ?_;refine B 9 ?_;refine call call242 rfl rfl rfl (λW hS=>nej W l jJ hl NP ap k4 (jK.up (ao _) (hS.same A0 wx zS trivial)) (aR wx (hS.links w A0).size)) ?_;refine Ni ?_;refine B 4 ?_;refine ax results175 rfl A0 ?_;rfl
theorem ZZ:∀(k n:Nat),2^k<=n->n<2^(k+1)->(kq n).length=k
 |0,n,h1,h2=>by rw[UU zJ];rfl
 |k+1,n,h1,h2=>by
  have e:2^(k+1)=2*2^k:=by rw[Nat.pow_succ,rE]
  have e2:2^(k+2)=2*2^(k+1):=by rw[Nat.pow_succ,rE]
  have h0:0<2^k:=Nat.pow_pos zO;rw[Qt zJ,dQ,ZZ k (n/2) zJ zJ]
theorem nEj(hd:dD d):(cu d).length=9:=by
 have h1:=hd.1;have h2:=hd.2;unfold cu;rw[fp];exact ZZ 9 _ zJ zJ
theorem n4n(hd:dD d):(ig d).length=9:=by
 have h1:=hd.1;have h2:=hd.2;unfold ig;rw[fp];exact ZZ 9 _ zJ zJ
def ou (kv:List (Int×Int)) (p:Int×Int):List (Int×Int):=bQ kv p.1 p.2
def mh (kv:List (Int×Int)) (d:Int) (l:List Int):List (Int×Int):=((cu d).zip (l.drop 1)).foldl ou (bQ (k9 kv d) (512+d) ((l[0]?).getD 0))
theorem n2j{z:List (Int×Int)}{n v:Int}(hz:z[i]? =some (n,v))(kv:List (Int×Int)):(z.take (i+1)).foldl ou kv=bQ ((z.take i).foldl ou kv) n v:=by rw[nC hz];simp[ou,Cq]
theorem yQ(z:List (Int×Int)):∀kv:List (Int×Int),(z.foldl ou kv).length<=kv.length+z.length:=by
 induction z with
 |nil=>intro kv;simp
 |cons p z ih=>
  intro kv;have h1:=ih (ou kv p);have h2:=Nn kv p.1 p.2;simp only[List.foldl_cons,dQ];unfold ou at h1 ⊢;omega
theorem nwl{kv:List (Int×Int)}(hd:dD d)(l:List Int):(mh kv d l).length<=kv.length+10:=by
 unfold mh;have h1:=yQ ((cu d).zip (l.drop 1)) (bQ (k9 kv d) (512+d) ((l[0]?).getD 0));have h2:=Nn (k9 kv d) (512+d) ((l[0]?).getD 0);have h3:=QQ kv d;have h4:=nEj hd;rw[List.length_zip]at h1;omega
theorem J8{A B:List Int}{n v:Int}(h1:A[i]? =some n)(h2:B[i+1]? =some v):(A.zip (B.drop 1))[i]? =some (n,v):=by
 rw[List.getElem?_zip_eq_some];exact⟨h1,by rw[uL,Nat.add_comm];exact h2⟩
theorem nJo(ns:List Nd)(hn:ns.length<=100000)(N:Nat)(a:Option Addr)(cp:Nat)(w:World)(hN:N<=w.heap.size)(aH:ag fF 2 N w a ns)(eX:gW ns=210)(d:Int)(l:List Int)(jJ:∀y∈l,dy y)(hl:l.length<=1000)(NP:Nat)(ap:Option Addr)(k4:Nat)(jK:ag encI 1 NP w ap l)(wx:NP<=w.heap.size):Calls prog 154 #[.agg #[.slice a ns.length cp],.int .i64 d,.slice ap l.length k4] w (nD w eW 2 355 [] (λs=>.tuple #[.agg #[s],.int .i64 210])):=by
 refine Z0 ?_;refine B 2 ?_;refine yX ?_;intro b3 w3 aM aD da cd cP;refine vf ?_;refine yW ?_;intro b6 gV lP;refine Ns ?_;refine zKg ?_;exact zgj
theorem yR(ns:List Nd)(hn:ns.length<=100000)(N:Nat)(a:Option Addr)(cp:Nat)(w:World)(hN:N<=w.heap.size)(aH:ag fF 2 N w a ns)(eX:gW ns=0)(d:Int)(hd:dD d)(fN:av (cL ns) (512+d)=none)(l:List Int)(jJ:∀y∈l,dy y)(hl:l.length<=1000)(NP:Nat)(ap:Option Addr)(k4:Nat)(jK:ag encI 1 NP w ap l)(wx:NP<=w.heap.size):Calls prog 154 #[.agg #[.slice a ns.length cp],.int .i64 d,.slice ap l.length k4] w (nD w eW 2 355 [] (λs=>.tuple #[.agg #[s],.int .i64 200])):=by
 refine Z0 ?_;refine B 2 ?_;refine yX ?_;intro b3 w3 aM aD da cd cP;refine vf ?_;refine yW ?_;intro b6 gV lP;refine Ns ?_;refine zxg ?_;exact zgj
theorem yS(ns:List Nd)(hn:ns.length<=100000)(N:Nat)(a:Option Addr)(cp:Nat)(w:World)(hN:N<=w.heap.size)(aH:ag fF 2 N w a ns)(eX:gW ns=0)(d:Int)(hd:dD d)(jj:(av (cL ns) (512+d)).isSome=true)(l:List Int)(jJ:∀y∈l,dy y)(hl:l.length<=1000)(NP:Nat)(ap:Option Addr)(k4:Nat)(jK:ag encI 1 NP w ap l)(wx:NP<=w.heap.size)(J9:l.length=10)(tM:ns.length<90000):Calls prog 154 #[.agg #[.slice a ns.length cp],.int .i64 d,.slice ap l.length k4] w (nD w eW 2 355 (mI (mh (cL ns) d l)) (λs=>.tuple #[.agg #[s],.int .i64 0])):=by
 have hd1:=hd.1;have yp:=hd.2;have h9:=nEj hd;obtain⟨b0,QR,cs0,t0,fk,rfl,ZY,Ey,ar⟩:=jK.get zJ;obtain⟨x0,il⟩:=nj l 0 zJ;refine Z0 ?_;refine B 2 ?_;refine yX ?_;intro b3 w3 aM aD da cd cP;refine vf ?_;refine yW ?_;intro b6 gV lP;refine Ns ?_;refine zwf ?_;intro bm m a8 Hw Wc wc vh Ex J5 vj mg sR hm pQ vk;replace mg:=yb mg;simp only[bD,and_true]at sR;have sS:=Ex.size;have yO:=vh.sizes;replace yO:=yb yO;have yP:=vh.under;replace yP:=yf yP;refine B 13 ?_;refine wh ?_;refine B 10 ?_;refine rq (.bool false) (cq rfl rfl) (by rw[J9];rfl) ?_;refine B 2 ?_;refine call call175 rfl rfl rfl (λW hS=>nkh W l jJ hl NP _ k4 (jK.up (ao _) (hS.same A2 wx zS uN)) (aR wx (hS.links w A2).size)) ?_;refine B 13 ?_;refine rv rfl rfl rfl (aa (v:=.int .i64 x0) isAgg3 rfl A2 Ey zU z7 (nR ar il rfl zO)) ?_;refine Hr (i:=0) (ev:=(Value.int .i64)) (v:=x0) rfl hm underlying319 underlying3 rfl rfl rfl rfl ?_;intro m2 aN;refine B 11 ?_;refine CJ.loop (α:=Mp×Nat) (λp=>[(2,.slice (some ⟨b0,QR,none⟩) l.length k4),(6,ptr b6 0),(8,.map (some bm)),(37,.slice a8 (cu d).length Hw),(38,.int .i64 ((cu d).length:Int)),(39,.int .i64 (p.2:Int))]) (λp=>[(bm,p.1.obj (Value.int .i64) ((((cu d).zip (l.drop 1)).take p.2).foldl ou (bQ (k9 (cL ns) d) (512+d) ((l[0]?).getD 0)))),(b6,.cells #[.slice none 0 0] 55 (0,0))]) (λp=>[wc,w3,w]) (λp=>Gh.no) (λp=>p.2<=(cu d).length/\p.1.Ok ((((cu d).zip (l.drop 1)).take p.2).foldl ou (bQ (k9 (cL ns) d) (512+d) ((l[0]?).getD 0)))) (λp=>(cu d).length-p.2) (m2,0) ⟨db _,by simpa[il]using aN⟩ zR (by simp[il,Value.cells]) rfl zX ?_
 rintro⟨mi,i⟩ ⟨hi,sQ⟩;dsimp only at hi sQ ⊢;refine B 6 ?_;refine aG ?_ ?_
 ·intro ah;refine B 5 ?_;obtain⟨bq,oq,U5,tq,U6,rfl,U7,qU,qV⟩:=pQ.get zJ;have yN:=vk _ rfl;dsimp only at yN;obtain⟨n,hy⟩:=nj (cu d) i zJ;obtain⟨x,hx⟩:=nj l (i+1) zJ;have hz:=J8 hy hx;refine B 3 ?_;refine zJg ?_;refine B 11 ?_;refine rv rfl rfl rfl (aa (v:=.int .i64 x) isAgg3 rfl A2 Ey zU z7 (nR ar hx zJ zO)) ?_;refine Hr (i:=0) (ev:=(Value.int .i64)) (v:=x) rfl sQ underlying319 underlying3 rfl rfl rfl rfl ?_;intro m3 aD;refine B 7 ?_;refine PJ.again (m3,i+1) ⟨by dsimp only;omega,by rw[n2j hz];exact aD⟩ dG zR (by rw[n2j hz];rfl) rfl zX
 intro ah;refine B 6 ?_;have Hx:((cu d).zip (l.drop 1)).length=9:=by rw[List.length_zip,yT];omega
 have bP:((((cu d).zip (l.drop 1)).take i).foldl ou (bQ (k9 (cL ns) d) (512+d) ((l[0]?).getD 0)))=mh (cL ns) d l:=by rw[iV zJ];rfl
 rw[bP]at sQ ⊢
 rename Mp=>m4
 rename Mp.Ok (mh (cL ns) d l) m4=>eR
 refine B 2 ?_;refine Nt (enc:=eW) (m:=2) (t:=355) (xs:=mI (mh (cL ns) d l)) (v:=λs=>.agg #[s]) (first:=[]) (cap:=[]) rfl call220 rfl rfl rfl (λW hS=>Zz (by have h2:=nwl (kv:=cL ns) hd l;have h3:=Np ns;omega) bm m4 eR W (hS.own _ A0)) ?_;intro r bE ak;refine ZT ?_;refine B 4 ?_;exact nW (enc:=eW) (m:=2) (t:=355) (xs:=mI (mh (cL ns) d l)) (H0:=[(bm,m4.obj (Value.int .i64) (mh (cL ns) d l)),(b6,.cells #[r.val (mI (mh (cL ns) d l)).length] 55 (0,0))]) (H1:=[]) (r:=r) (.inl rfl) results154 (RS.wA (i:=1) rfl isAgg55 sizeOf55 rfl (bj rfl) (RS.t rfl RS.n)) A2 ZU rfl ak (Rw.ge_of bE A2) Va
def dV (kv:List (Int×Int)):Nat->Int->List Int
 |0,_=>[]
 |k+1,n=>if(av kv n).isSome=true then[n]else if 512<=n then[]else dV kv k (2*n)++dV kv k (2*n+1)
theorem Z1{kv:List (Int×Int)}{n:Int}(h:(av kv n).isSome=true):dV kv (k+1) n=[n]:=by simp[dV,h]
theorem nJj{kv:List (Int×Int)}{n:Int}(h:¬(av kv n).isSome=true)(h2:512<=n):dV kv (k+1) n=[]:=by simp only[dV];rw[if_neg h,if_pos h2]
theorem Z2{kv:List (Int×Int)}{n:Int}(h:¬(av kv n).isSome=true)(h2:¬512<=n):dV kv (k+1) n=dV kv k (2*n)++dV kv k (2*n+1):=by simp only[dV];rw[if_neg h,if_neg h2]
def oV (kv:List (Int×Int)) (k:Nat) (n:Int) (i:Nat):List Int:=(List.range i).flatMap λ(j:Nat)=>dV kv k (2*n+(j:Int))
theorem Z3(kv:List (Int×Int))(k:Nat)(n:Int)(i:Nat):oV kv k n (i+1)=oV kv k n i++dV kv k (2*n+(i:Int)):=by simp[oV,List.range_succ]
theorem nGm(kv:List (Int×Int))(k:Nat)(n:Int):oV kv k n 2=dV kv k (2*n)++dV kv k (2*n+1):=by simp[oV,List.range_succ]
theorem Ez{kv:List (Int×Int)}{n:Int}{p:List Int}(hi:i<2)(h:p <+:dV kv k (2*n+(i:Int))):oV kv k n i++p <+:oV kv k n 2:=by
 have h1:oV kv k n i++p <+:oV kv k n (i+1):=by rw[Z3];exact(List.prefix_append_right_inj _).2 h
 refine h1.trans ?_;rcases(show i=0\/i=1 by omega)with rfl|rfl
 ·rw[Z3 kv k n 1];exact List.prefix_append _ _
 exact List.prefix_refl _
theorem Ka(n:Int)(i:Nat)(h:i<2):(#[Value.int .i64 (2*n),Value.int .i64 (2*n+1)]:Array Value)[(i:Int).toNat*1]? =some (.int .i64 (2*n+(i:Int))):=by
 rcases(show i=0\/i=1 by omega)with rfl|rfl<;>simp
def QS (bx by_ mb:Nat):aB:=λj=>j=bx\/j=by_\/j=mb
def Kb (kv:List (Int×Int)) (k:Nat):Prop:=∀(n:Int) (bx by_ mb:Nat) (m:Mp) (W:World),1<=n->n<1024->1024<=n*2^k->m.Ok kv->W.heap[bx]? =some (.cells #[.map (some mb)] 319 (0,0))->W.heap[by_]? =some (.cells #[.int .i64 n] 3 (0,0))->W.heap[mb]? =some (m.obj (Value.int .i64) kv)->
 u7 prog 312 [ptr bx 0,ptr by_ 0] aj (wt (dV kv k n)) (Is (dV kv k n)) (λ_=>False) (QS bx by_ mb) W
theorem nFo(kv:List (Int×Int)):Kb kv 0:=λn bx by_ mb m W h1 h2 h3=>by omega
theorem nLe(mp:Option Nat)(n:Int)(w:World):Calls prog 293 #[.map mp,.int .i64 n] w (cJ w (λq:Nat×Nat=>.func (.func 312) #[] #[ptr q.1 0,ptr q.2 0]) (λq w1=>w.heap.size<=q.1/\w.heap.size<=q.2/\w1.heap[q.1]? =some (.cells #[.map mp] 319 (0,0))/\w1.heap[q.2]? =some (.cells #[.int .i64 n] 3 (0,0)))):=by
 refine enter (vs:=[_,_]) func293 rfl ntmps293 rfl ?_;refine B 2 ?_;refine yX ?_;intro b2 w2 aU aN dY cR cX;refine yX ?_;intro b3 w3 aM aD da cd cP;refine B 10 ?_;refine kH (b2,b3) results293 rfl A2 rfl ?_;exact zrj
theorem nUj{n l Dk:Nat}(h1:n<=Dk)(h2:n<=l)(h:vl n ms):vl n ((l,rec,Dk)::ms):=by
 intro q hq;rcases cI.1 hq with rfl|hq
 ·exact⟨h2,h1⟩
 exact h q hq
theorem nDo{n i:Int}(h:1024<=n*2^(k+1))(hi:0<=i):1024<=(2*n+i)*2^k:=by
 rw[Int.pow_succ]at h;have hp:(0:Int)<2^k:=Int.pow_pos zO;have h9:n*(2^k*2)=(2*n)*2^k:=by rw[Int.mul_comm (2^k) 2,<-Int.mul_assoc,Int.mul_comm n 2]
 have h8:(2*n+i)*2^k=(2*n)*2^k+i*2^k:=Int.add_mul _ _ _;have h7:0<=i*2^k:=Int.mul_nonneg hi zJ;omega
theorem CJ.perm{Q:aC}{c:Code}(hp:H.Perm H')(h:CJ C c Q E D G L H'):CJ C c Q E D G L H:=λa W hN hD hF hS=>h a W hN hD hF (hS.perm hp)
theorem yU(n:Nat):vl n []:=λq hq=>absurd hq zX
theorem nxo{kv:List (Int×Int)}(ih:Kb kv k)(n:Int)(bx by_ mb:Nat)(m:Mp)(W:World)(h1:1<=n)(h2:n<1024)(h3:1024<=n*2^(k+1))(hm:m.Ok kv)(aQ:W.heap[bx]? =some (.cells #[.map (some mb)] 319 (0,0)))(aU:W.heap[by_]? =some (.cells #[.int .i64 n] 3 (0,0)))(ij:W.heap[mb]? =some (m.obj (Value.int .i64) kv)):u7 prog 312 [ptr bx 0,ptr by_ 0] aj (wt (dV kv (k+1) n)) (Is (dV kv (k+1) n)) (λ_=>False) (QS bx by_ mb) W:=by
 intro l0 M0 I X0 hM hI hX hy h0;have aX:¬(cF hM (λ_=>False) (hI [] _)).X bx:=by rintro(h|h);exact(hM _ h).2.2 (.inl rfl);exact h.elim
 have aN:¬(cF hM (λ_=>False) (hI [] _)).X by_:=by rintro(h|h);exact(hM _ h).2.2 (.inr (.inl rfl));exact h.elim
 have ve:¬(cF hM (λ_=>False) (hI [] _)).X mb:=by rintro(h|h);exact(hM _ h).2.2 (.inr (.inr rfl));exact h.elim
 have mE:=(aT.1 aQ).1;have Hy:=(aT.1 aU).1;have sK:=(aT.1 ij).1;refine B1 (cF hM (λ_=>False) (hI [] _)) [] (vs:=[_,_,_]) func312 rfl ntmps312 rfl (JI hM (hI [] _) h0 zX (by simp[jk]) zX) ?_;refine B 2 ?_;refine yX ?_;intro b3 w3 aM aD da cd cP;refine B 7 ?_;refine rv rfl rfl rfl (gE (ev:=(Value.int .i64)) underlying319 underlying3 zeroValue3 hm (bL.old A1 ij ve trivial) rfl rfl) ?_;refine B 12 ?_;refine aG ?_ ?_
 ·intro ah;refine B 4 ?_;refine D8 (λV=>hI ([]++[n]) V) hX (λ_ h=>h.elim) A1 rfl rfl rfl rfl (λW1 sJ kJ=>hy [] n _ W1 (by rw[Z1 ah];exact List.prefix_refl _) sJ kJ) ?_ ?_
  ·intro V0 vm;refine B 4 ?_;exact QT (ms:=([]:List Mk)) (H0:=[]) (.inl rfl) results312 A1 vm (by intro j hj hx;simp[ov]at hx) (λA hA=>.inl ⟨[n],by rw[Z1 ah],hA⟩)
  intro V0 vm;refine B 4 ?_;exact QT (ms:=([]:List Mk)) (H0:=[]) (.inl rfl) results312 A1 vm (by intro j hj hx;simp[ov]at hx) (λA hA=>.inr hA)
 intro ah;refine B 9 ?_;refine aG ?_ ?_
 ·intro aJ;refine B 2 ?_;exact QT (ms:=([]:List Mk)) (H0:=[]) (.inl rfl) results312 A1 (λ_ h=>h.elim) (by intro j hj hx;simp[ov]at hx) (λA hA=>.inl ⟨[],by rw[nJj (by simpa using ah) zJ],hA⟩)
 intro aJ;refine B 9 ?_;refine rv rfl rfl rfl (sH underlying292 zeroValue292 sizeOf3 rfl rfl rfl rfl) ?_;refine B 4 ?_;refine CJ.loopD (α:=(Nat×List Mk)×aB) (λp=>Vb p.1.2) (λp=>[(1,ptr bx 0),(2,ptr by_ 0),(3,ptr b3 0),(26,.agg #[.int .i64 (2*n),.int .i64 (2*n+1)]),(27,.int .i64 (p.1.1:Int))]) (λp=>ov p.1.2) (λp=>[w3,W]) (λp=>cF hM p.2 (hI (oV kv k n p.1.1) p.2)) (λp=>p.1.1<=2/\vl w3.heap.size p.1.2/\∀j,p.2 j->w3.heap.size<=j) (λp=>2-p.1.1) ((0,[]),λ_=>False) ⟨db _,yU _,λ_ h=>h.elim⟩ zR rfl rfl zX rfl ?_;rintro⟨⟨i,ms⟩,V0⟩ ⟨hi,HA,vm⟩;dsimp only at hi HA vm ⊢;have aX:¬(cF hM V0 (hI (oV kv k n i) V0)).X bx:=by rintro(h|h);exact(hM _ h).2.2 (.inl rfl);have:=vm _ h;omega
 clear aD;have aD:¬(cF hM V0 (hI (oV kv k n i) V0)).X b3:=by rintro(h|h);(have:=(hM _ h).1;omega);(have:=vm _ h;omega)
 refine B 6 ?_;refine aG ?_ ?_
 ·intro cO;refine B 6 ?_;refine rv rfl rfl rfl (py (v:=.int .i64 (2*n+(i:Int))) underlying292 isAgg3 sizeOf3 rfl rfl zJ zJ (Ka n i zJ)) ?_;refine B 5 ?_;refine rv rfl rfl rfl (aa (v:=.map (some mb)) isAgg319 rfl A1 aQ aX (nWm HA zJ) rfl) ?_;refine B 1 ?_;refine nB (α:=Nat×Nat) (v:=λq:Nat×Nat=>.func (.func 312) #[] #[ptr q.1 0,ptr q.2 0]) (Φ:=λ(W:World) (q:Nat×Nat) (w1:World)=>W.heap.size<=q.1/\W.heap.size<=q.2/\w1.heap[q.1]? =some (.cells #[.map (some mb)] 319 (0,0))/\w1.heap[q.2]? =some (.cells #[.int .i64 (2*n+(i:Int))] 3 (0,0))) call293 rfl rfl rfl (λW hS=>nLe (some mb) (2*n+(i:Int)) W) ?_;rintro Wk q wk ue Em ⟨jb,jc,fw,gg⟩;try dsimp only at jb jc fw gg
  have yY:=(aT.1 fw).1;have yZ:=(aT.1 gg).1;have U2:=Em.size;have hzW:=(ue.links W A1).size;have da:=(ue.links w3 A0).size;have hVk:∀j,V0 j->j<Wk.heap.size:=λj hj=>ue.xlt j (.inr hj);have HB:∀j,QS q.1 q.2 mb j->j<wk.heap.size/\j∉(ov ms).map (·.1)/\¬(cF hM V0 (hI (oV kv k n i) V0)).X j:=by
   intro j hj;have QU:Wk.heap.size<=j->j∉(ov ms).map (·.1)/\¬(cF hM V0 (hI (oV kv k n i) V0)).X j:=λhg=>⟨λhm=>by obtain⟨p,hp,e⟩:=bW.1 hm;have:=ue.lt p hp;omega,λhx=>by rcases hx with hx|hx;(have:=(hM _ hx).1;omega);(have:=hVk _ hx;omega)⟩;rcases hj with rfl|rfl|rfl
   ·exact⟨yY,QU jb⟩
   ·exact⟨yZ,QU jc⟩
   exact⟨by omega,λhm=>by obtain⟨p,hp,e⟩:=bW.1 hm;have:=QV HA p hp;omega,λhx=>by rcases hx with hx|hx;(exact(hM _ hx).2.2 (.inr (.inr rfl)));(have:=vm _ hx;omega)⟩
  refine B 3 ?_;refine CJ.range2 (f:=312) (cap:=[ptr q.1 0,ptr q.2 0]) (α:=Int) (enc:=aj) (Pre:=wt (dV kv k (2*n+(i:Int)))) (Fin:=Is (dV kv k (2*n+(i:Int)))) (RO:=QS q.1 q.2 mb) (MI:=λ_=>False) rfl call312 (λW' W2 hS hB=>by have hlk:=(hS.links wk A0).size;exact ih (2*n+(i:Int)) q.1 q.2 mb m W2 zJ zJ (nDo h3 zJ) hm (by rw[hB.block q.1 zJ];exact hS.old A0 fw (HB _ (.inl rfl)).2.2 (bD.of_mem (HB _ (.inl rfl)).2.1)) (by rw[hB.block q.2 zJ];exact hS.old A0 gg (HB _ (.inr (.inl rfl))).2.2 (bD.of_mem (HB _ (.inr (.inl rfl))).2.1)) (by have:=(hS.links W A2).size;rw[hB.block mb zJ];exact hS.old A2 ij (HB _ (.inr (.inr rfl))).2.2 (bD.of_mem (HB _ (.inr (.inr rfl))).2.1))) (λ_ _ _ hk=>hk.elim) (λW' hS j hj=>⟨by have:=(HB j hj).1;have:=(hS.links wk A0).size;omega,(HB j hj).2⟩) (λ_=>rfl) (λpre G' Hc=>∃V1:aB,(∀j,V0 j->V1 j)/\(∀j,V1 j->V0 j\/w3.heap.size<=j)/\G'=cF hM V1 (hI (oV kv k n i++pre) V1)/\Hc=ov ms) (λc G' Hc=>c= .ret/\∃V1:aB,(∀j,V1 j->W.heap.size<=j)/\G'=cF hM V1 (hX V1)/\Hc=ov ms) ⟨V0,λ_ h=>h,λ_ h=>.inl h,by rw[dH],rfl⟩ zO ?_ ?_ ?_
  ·rintro pre x G' Hc l Dk rec W1 M V Wy lN qB eC ⟨V1,Vc,Nu,rfl,rfl⟩ dZ gM GM qC bM yq;simp only[ad]at dZ qC;have Z4:∀j,V1 j->W.heap.size<=j:=λj hj=>by rcases Nu j hj with h|h;(have:=vm j h;omega);omega
   have aD:¬((cF hM V1 (hI (oV kv k n i++pre) V1)).ext λj=>M j\/V j).X b3:=bM.z zJ aD (λhm=>by obtain⟨p,hp,e⟩:=bW.1 hm;have:=QV HA p hp;omega) (by rintro(h|h);(have:=(hM _ h).1;omega);(rcases Nu _ h with h|h;(have:=vm _ h;omega);omega));have Z5:∀r',bD (book (ov ms) l r' (bT Dk)) b3:=λr'=>by unfold book;rw[ne];exact⟨nWm HA zJ,by simp only[bT,bD,and_true];omega⟩
   refine MQ ?_;refine B 3 ?_;refine rv rfl rfl rfl (aa (v:=yv l0) isAgg154 rfl A2 aM aD (Z5 _) rfl) ?_;refine B 1 ?_;refine QW (λj=>M j\/V j) (λG=>G.ext λj=>M j\/V j) (QX _) (V:=V1) (λV=>hI ((oV kv k n i++pre)++[x]) V) hX Z4 rfl rfl rfl rfl (λW1 sJ kJ=>hy (oV kv k n i++pre) x V1 W1 (by rw[iX,Z2 (by simpa using ah) zJ,<-nGm];exact Ez zJ eC) sJ kJ) ?_ ?_
   ·intro V2 Cv sT;have sU:=sT Wy A0;have Kc:∀j,V2 j->V0 j\/w3.heap.size<=j:=λj hj=>by rcases sU j hj with h|h;exact Nu j h;exact .inr (by have:=(yq.links w3 A1).size;omega)
    try dsimp only
    refine B 6 ?_;refine JP (G2:=cF hM V2 (hI ((oV kv k n i++pre)++[x]) V2)) (Hc2:=ov ms) bM gM ⟨(λj h=>h.imp id (λh=>Cv j (Vc j h))),(λj h=>h.elim (λh=>.inl (.inl h)) (λh=>(sU j h).imp .inr id)),(λj h=>h.elim (λh=>.inl (.inl h)) (λh=>(sU j h).imp .inr id)),(λp hp=>.inl (bW.2 ⟨p,hp,rfl⟩)),(λp hp=>.inl (bW.2 ⟨p,hp,rfl⟩))⟩ (JQ lN qB) ?_;exact⟨V2,λj h=>Cv j (Vc j h),Kc,by rw[iX],rfl⟩
   intro V2 Cv sT;have sU:=sT Wy A0;have Kc:∀j,V2 j->V0 j\/w3.heap.size<=j:=λj hj=>by rcases sU j hj with h|h;exact Nu j h;exact .inr (by have:=(yq.links w3 A1).size;omega)
   try dsimp only
   refine B 6 ?_;refine Z6 (G2:=cF hM V2 (hX V2)) (Hc2:=ov ms) (c:=.ret) bM gM ⟨(λj h=>h.imp id (λh=>Cv j (Vc j h))),(λj h=>h.elim (λh=>.inl (.inl h)) (λh=>(sU j h).imp .inr id)),(λj h=>h.elim (λh=>.inl (.inl h)) (λh=>(sU j h).imp .inr id)),(λp hp=>.inl (bW.2 ⟨p,hp,rfl⟩)),(λp hp=>.inl (bW.2 ⟨p,hp,rfl⟩))⟩ (.inl ⟨rfl,rfl⟩) rfl ?_;exact⟨rfl,V2,λj hj=>by rcases Kc j hj with h|h;(have:=vm j h;omega);omega,rfl,rfl⟩
  ·rintro i6 l Dk rec G' Hc rfl dZ gM ⟨V1,Vc,Nu,rfl,rfl⟩;replace dZ:=yb dZ;refine B 7 ?_;refine PJ.perm (nJk l Dk rec ms []) ?_;refine n5n ((i+1,(l,rec,Dk)::ms),V1) ⟨by dsimp only;omega,nUj dZ.2.1 zJ HA,λj hj=>(Nu j hj).elim (vm j) id⟩ dG zR rfl (by dsimp only;rw[Z3]) zX rfl
  rintro l Dk rec c G' Hc dZ gM ⟨rfl,V1,Z4,rfl,rfl⟩;replace dZ:=yb dZ;refine CJ.perm (nJk l Dk rec ms []) ?_;refine B 6 ?_;exact QT (ms:=(l,rec,Dk)::ms) (H0:=[]) (.inl rfl) results312 A2 Z4 (by intro j hj hx;obtain⟨p,hp,e⟩:=bW.1 hx;have:=QV (n:=w3.heap.size) (ms:=(l,rec,Dk)::ms) (nUj dZ.2.1 zJ HA) p hp;omega) (λA hA=>.inr hA)
 intro cO;refine B 4 ?_;exact QT (ms:=ms) (H0:=[]) (.inr rfl) results312 A1 (λj hj=>by have:=vm j hj;omega) (by intro j hj hx;obtain⟨p,hp,e⟩:=bW.1 hx;have:=QV (n:=w3.heap.size) (ms:=ms) HA p hp;omega) (λA hA=>.inl ⟨oV kv k n i,by rw[Z2 (by simpa using ah) zJ,<-nGm,show i=2 by omega],hA⟩)
theorem QY(kv:List (Int×Int)):∀k,Kb kv k
 |0=>nFo kv
 |k+1=>λn bx by_ mb m W h1 h2 h3 hm aQ aU ij=>nxo (QY kv k) n bx by_ mb m W h1 h2 h3 hm aQ aU ij
end Px
