/- Contracts of functions of the program. No condition beyond those stated. -/
import Derived.Test.YtpgobjebhigaoaaGreatDoorXe
import Derived.Test.YtpgobjebhigaoaaGreatDoorProg
set_option linter.unusedSimpArgs false
set_option linter.unusedVariables false
set_option linter.unusedSectionVars false
set_option linter.unnecessarySimpa false
set_option maxRecDepth 20000
set_option maxHeartbeats 8000000
namespace Px
open Go Go.RowKit Go.Proofs Go.Proofs.Tryz
theorem nEi(x y:Int)(hx:0<=x)(C2:x<18446744073709551616)(hy:0<=y)(uI:y<18446744073709551616)(w:World):Calls prog 177 #[.int .u64 x,.int .u64 y] w (ay w (.tuple #[.int .u64 (x*y/18446744073709551616),.int .u64 (x*y%18446744073709551616)])):=by
 have m1:=GF (a:=x/4294967296) (b:=y/4294967296) (A:=4294967295) (B:=4294967295) zJ zJ zJ zJ;have m2:=GF (a:=x/4294967296) (b:=y%4294967296) (A:=4294967295) (B:=4294967295) zJ zJ zJ zJ;have m3:=GF (a:=x%4294967296) (b:=y%4294967296) (A:=4294967295) (B:=4294967295) zJ zJ zJ zJ;have m4:=GF (a:=x%4294967296) (b:=y/4294967296) (A:=4294967295) (B:=4294967295) zJ zJ zJ zJ;refine enter (vs:=[_,_]) func177 rfl ntmps177 rfl ?_;refine B 9 ?_;refine Xj ?_;refine B 6 ?_;refine MK ?_;refine B 6 ?_;refine Xj ?_;refine B 6 ?_;refine MK ?_;refine B 7 ?_;refine ML ?_;refine B 7 ?_;refine ML ?_;refine B 1 ?_;refine MK ?_;refine OA ?_;refine B 6 ?_;refine Xj ?_;refine B 6 ?_;refine MK ?_;refine B 8 ?_;refine ML ?_;refine OA ?_;refine B 7 ?_;refine ML ?_;refine B 1 ?_;refine OA ?_;refine B 1 ?_;refine MK ?_;refine OA ?_;refine B 7 ?_;refine rv rfl rfl rfl (gX rfl rfl) ?_;refine B 4 ?_;refine nS results177 rfl rfl A0 ?_ ?_
 ·exact vu (nio x y hx hy C2 uI)
 rw[nz]
def OB:ByteArray:=⟨#[0,1,2,2,3,3,3,3,4,4,4,4,4,4,4,4,5,5,5,5,5,5,5,5,5,5,5,5,5,5,5,5,6,6,6,6,6,6,6,6,6,6,6,6,6,6,6,6,6,6,6,6,6,6,6,6,6,6,6,6,6,6,6,6,7,7,7,7,7,7,7,7,7,7,7,7,7,7,7,7,7,7,7,7,7,7,7,7,7,7,7,7,7,7,7,7,7,7,7,7,7,7,7,7,7,7,7,7,7,7,7,7,7,7,7,7,7,7,7,7,7,7,7,7,7,7,7,7,8,8,8,8,8,8,8,8,8,8,8,8,8,8,8,8,8,8,8,8,8,8,8,8,8,8,8,8,8,8,8,8,8,8,8,8,8,8,8,8,8,8,8,8,8,8,8,8,8,8,8,8,8,8,8,8,8,8,8,8,8,8,8,8,8,8,8,8,8,8,8,8,8,8,8,8,8,8,8,8,8,8,8,8,8,8,8,8,8,8,8,8,8,8,8,8,8,8,8,8,8,8,8,8,8,8,8,8,8,8,8,8,8,8,8,8,8,8,8,8,8,8,8,8,8,8,8,8]⟩
theorem nAn(n:Nat)(h:n<256):OB[n]? =some (UInt8.ofNat (cA n)):=by
 have:∀n:Fin 256,OB[n.val]? =some (UInt8.ofNat (cA n.val)):=by decide +kernel
 exact this ⟨n,h⟩
theorem C3{x:Int}(h0:0<=x)(h:x<256):∃b,OB[x.toNat]? =some b/\(b.toNat:Int)=kV x:=by
 refine⟨_,nAn x.toNat zJ,?_⟩;have:=OC x.toNat 8 zJ;unfold kV;simp;omega
variable {aA:Array Edge} {ops:Array Oper} {cs:Array Value} {C:Cx} {E:Env} {G:Gh} {H:ab} {D:List Deferred} {L:List World} {N N' T ty:Nat} {x:Operand} {pos:String} {v:Value} {w':World}
theorem IL{y:Operand}{n:Int}(hU:C.P.underlying T=some .string)(hx:ev E x=some (.string OB))(hy:ev E y=some (.int .u8 n))(h0:0<=n)(h1:n<256):RV C G L H E (.index T x y) (.int .u8 (kV n)):=by
 obtain⟨b,hb,he⟩:=C3 h0 h1;exact he▸wO hU hx hy h0 hb
theorem ni(x:Int)(q:Int)(k:Nat)(hq:(2:Int)^k=q)(h:q<=x):kV x=kV (x/q)+k:=by
 subst hq;exact nnm k h
theorem wP(x:Int)(h0:0<=x)(h:x<256):0<=kV x/\kV x<=8:=by
 have:=n6k (x:=x) 8 h0 qz;simpa using this
theorem qA{Q:aC}{l:List Oper}{d:Nat}{g:Option (Nat×Bool)}{y:Operand}{n:Int}(hU:C.P.underlying T=some .string)(hx:ev E x=some (.string OB))(hw:np ops E g=some true)(hN:Nat.blt d C.N=true)(hy:ev E y=some (.int .u8 n))(h0:0<=n)(h1:n<256)(k:0<=kV n->kV n<=8->OJ C ops Q l ((d,.int .u8 (kV n))::E) D G L H):OJ C ops Q (⟨some d,.index T x y,ty,pos,aA,g⟩::l) E D G L H:=
 rv rfl hw hN (IL hU hx hy h0 h1) (k (wP n h0 h1).1 (wP n h0 h1).2)
theorem n1f(x:Int)(hx:0<=x)(C2:x<18446744073709551616)(w:World):Calls prog 139 #[.int .u64 x] w (ay w (.int .i64 (kV x))):=by
 refine enter (vs:=[_]) func139 rfl ntmps139 rfl ?_;refine B 12 ?_;refine aG ?_ ?_
 ·intro ah;refine B 3 ?_;refine MK ?_;refine B 14 ?_;refine aG ?_ ?_
  ·intro aJ;refine B 3 ?_;refine rv rfl rfl rfl (fK 16 65536 zO rfl rfl rfl) ?_;refine B 16 ?_;refine aG ?_ ?_
   ·intro cO;refine TV ?_;refine qA underlying9 zQ rfl rfl rfl zJ zJ (λBW IM=>?_);refine GG ?_
    (refine vi ?_;(try simp only[ni x 4294967296 32 zO,ni (x/4294967296) 65536 16 zO,ni (x/4294967296/65536) 256 8 zO,ni (x/4294967296) 256 8 zO,ni x 65536 16 zO,ni (x/65536) 256 8 zO,ni x 256 8 zO, *]);omega)
   intro cO;refine B 6 ?_;refine OD ?_;refine qA underlying9 zQ rfl rfl rfl zJ zJ (λBW IM=>?_);refine GG ?_
   (refine vi ?_;(try simp only[ni x 4294967296 32 zO,ni (x/4294967296) 65536 16 zO,ni (x/4294967296/65536) 256 8 zO,ni (x/4294967296) 256 8 zO,ni x 65536 16 zO,ni (x/65536) 256 8 zO,ni x 256 8 zO, *]);omega)
  intro aJ;refine B 9 ?_;refine aG ?_ ?_
  ·intro gL;refine TV ?_;refine qA underlying9 zQ rfl rfl rfl zJ zJ (λBW IM=>?_);refine GG ?_
   (refine vi ?_;(try simp only[ni x 4294967296 32 zO,ni (x/4294967296) 65536 16 zO,ni (x/4294967296/65536) 256 8 zO,ni (x/4294967296) 256 8 zO,ni x 65536 16 zO,ni (x/65536) 256 8 zO,ni x 256 8 zO, *]);omega)
  intro gL;refine B 6 ?_;refine OD ?_;refine qA underlying9 zQ rfl rfl rfl zJ zJ (λBW IM=>?_);refine GG ?_
  (refine vi ?_;(try simp only[ni x 4294967296 32 zO,ni (x/4294967296) 65536 16 zO,ni (x/4294967296/65536) 256 8 zO,ni (x/4294967296) 256 8 zO,ni x 65536 16 zO,ni (x/65536) 256 8 zO,ni x 256 8 zO, *]);omega)
 intro ah;refine B 9 ?_;refine aG ?_ ?_
 ·intro gv;refine B 3 ?_;refine rv rfl rfl rfl (fK 16 65536 zO rfl rfl rfl) ?_;refine B 16 ?_;refine aG ?_ ?_
  ·intro je;refine TV ?_;refine qA underlying9 zQ rfl rfl rfl zJ zJ (λBW IM=>?_);refine GG ?_
   (refine vi ?_;(try simp only[ni x 4294967296 32 zO,ni (x/4294967296) 65536 16 zO,ni (x/4294967296/65536) 256 8 zO,ni (x/4294967296) 256 8 zO,ni x 65536 16 zO,ni (x/65536) 256 8 zO,ni x 256 8 zO, *]);omega)
  intro je;refine B 6 ?_;refine OD ?_;refine qA underlying9 zQ rfl rfl rfl zJ zJ (λBW IM=>?_);refine GG ?_
  (refine vi ?_;(try simp only[ni x 4294967296 32 zO,ni (x/4294967296) 65536 16 zO,ni (x/4294967296/65536) 256 8 zO,ni (x/4294967296) 256 8 zO,ni x 65536 16 zO,ni (x/65536) 256 8 zO,ni x 256 8 zO, *]);omega)
 intro gv;refine B 9 ?_;refine aG ?_ ?_
 ·intro iU;refine TV ?_;refine qA underlying9 zQ rfl rfl rfl zJ zJ (λBW IM=>?_);refine GG ?_
  (refine vi ?_;(try simp only[ni x 4294967296 32 zO,ni (x/4294967296) 65536 16 zO,ni (x/4294967296/65536) 256 8 zO,ni (x/4294967296) 256 8 zO,ni x 65536 16 zO,ni (x/65536) 256 8 zO,ni x 256 8 zO, *]);omega)
 intro iU;refine B 6 ?_;refine OD ?_;refine qA underlying9 zQ rfl rfl rfl zJ zJ (λBW IM=>?_);refine GG ?_
 (refine vi ?_;(try simp only[ni x 4294967296 32 zO,ni (x/4294967296) 65536 16 zO,ni (x/4294967296/65536) 256 8 zO,ni (x/4294967296) 256 8 zO,ni x 65536 16 zO,ni (x/65536) 256 8 zO,ni x 256 8 zO, *]);omega)
theorem nlg(x:Int)(hx:0<=x)(C2:x<18446744073709551616)(w:World):Calls prog 243 #[.int .u64 x] w (ay w (.int .i64 (64-kV x))):=by
 have hb:=n6k (x:=x) 64 hx (by simpa using C2);refine enter (vs:=[_]) func243 rfl ntmps243 rfl ?_;refine B 8 ?_;refine Xk ?_;refine B 5 ?_;refine ax results243 rfl A0 ?_;rfl
theorem Xl(x:Int)(hx:0<=x)(C2:x<18446744073709551616)(w:World):Calls prog 97 #[.int .u64 x] w (ay w (.int .i64 (kV x))):=by
 refine enter (vs:=[_]) func97 rfl ntmps97 rfl ?_;refine B 12 ?_;refine Xk ?_;refine B 4 ?_;refine ax results97 rfl A0 ?_;rfl
theorem nfh(u q y1 r:Nat)(h:q*y1+r=u):((u:Int)-(q:Int)*(y1:Int))=(r:Int):=by
 have:((q*y1+r:Nat):Int)=u:=by rw[h]
 simp at this;omega
theorem nom(hi lo y:Nat)(hhi:hi<y)(hlo:lo<18446744073709551616)(hy:y<18446744073709551616)(h0:0<hi)(w:World):Calls prog 178 #[.int .u64 (hi:Int),.int .u64 (lo:Int),.int .u64 (y:Int)] w (ay w (.tuple #[.int .u64 (((hi*2^64+lo)/y:Nat):Int),.int .u64 (((hi*2^64+lo)%y:Nat):Int)])):=by
 obtain⟨aQ,aU,aM⟩:=nWn y zJ hy;have Xm:=(nnl y zJ).2.2;obtain⟨s,hs⟩:∃s,64-cA y=s:=⟨_,rfl⟩;rw[hs]at aU aM;have hsI:(64-kV (y:Int))=(s:Int):=by unfold kV;simp;omega
 obtain⟨Y,hY⟩:∃Y,y*2^s=Y:=⟨_,rfl⟩;rw[hY]at aU aM;obtain⟨y1,uI⟩:∃z,Y/4294967296=z:=⟨_,rfl⟩;obtain⟨y0,BX⟩:∃z,Y%4294967296=z:=⟨_,rfl⟩;have MM:y1*2^32+y0=Y:=by omega
 obtain⟨hN,hlt⟩:=npn hi lo y s zJ hhi hlo;obtain⟨u,hu⟩:∃z,hi*2^s+lo/2^(64-s)=z:=⟨_,rfl⟩;obtain⟨v,hv⟩:∃z,lo*2^s%2^64=z:=⟨_,rfl⟩;rw[hu,hv]at hN;rw[hu,hY]at hlt;have aeI:v<18446744073709551616:=by rw[<-hv];exact Nat.mod_lt _ zO
 obtain⟨v1,hv1⟩:∃z,v/4294967296=z:=⟨_,rfl⟩;obtain⟨v0,hv0⟩:∃z,v%4294967296=z:=⟨_,rfl⟩;have ft:2^31<=y1:=by omega
 have C4:v1<2^32:=by omega
 have mO:v0<2^32:=by omega
 have TW:u<y1*2^32+y0:=by omega
 have d1:=oJ.start ft zJ zJ C4 TW;have aeJ:hi*2^s<=u:=by rw[<-hu];exact Nat.le_add_right _ _
 have OE:u/y1*y1<=u:=Nat.div_mul_le_self u y1;refine zAh ?_;refine OF ?_;refine B 8 ?_;refine call call243 rfl rfl rfl (λW hS=>nlg _ zJ zJ W) ?_;refine rq (.int .u64 (s:Int)) (rV underlying3 underlying189 rfl zJ zJ) (vu hsI) ?_;refine B 7 ?_;refine rq (.int .u64 (Y:Int)) (lK rfl rfl zJ) (vu ((wQ y s zJ zJ).trans (by rw[hY]))) ?_;refine B 6 ?_;refine rq (.int .u64 (y1:Int)) (fK 32 4294967296 zO rfl rfl rfl) (vu zJ) ?_;refine B 6 ?_;refine rq (.int .u64 (y0:Int)) (lL 32 4294967296 zO rfl rfl rfl rfl zJ zJ) (vu zJ) ?_;refine B 7 ?_;refine rq (.int .u64 ((hi*2^s:Nat):Int)) (lK rfl rfl zJ) (vu (wQ hi s zJ zJ)) ?_;refine B 2 ?_;refine rv rfl rfl rfl (lM rfl rfl zJ zJ) ?_;refine rq (.int .u64 ((lo/2^(64-s):Nat):Int)) (gY rfl rfl zJ) (vu (IP lo s _ zJ)) ?_;refine rq (.int .u64 (u:Int)) (tL rfl rfl) (vu ((GH hi _ s (wR lo s zJ hlo) zJ).trans (by rw[hu]))) ?_;refine B 7 ?_;refine rq (.int .u64 (v:Int)) (lK rfl rfl zJ) (vu ((C5 lo s zJ).trans (by rw[hv]))) ?_;refine B 6 ?_;refine rq (.int .u64 (v1:Int)) (fK 32 4294967296 zO rfl rfl rfl) (vu zJ) ?_;refine B 6 ?_;refine rq (.int .u64 (v0:Int)) (lL 32 4294967296 zO rfl rfl rfl rfl zJ zJ) (vu zJ) ?_;refine B 7 ?_;refine rq (.int .u64 ((u/y1:Nat):Int)) (rW rfl rfl zJ zJ zJ) (vu (TX u y1)) ?_;refine B 8 ?_;refine ML ?_
 refine rq (.int .u64 ((u%y1:Nat):Int)) (lM rfl rfl zJ zJ) (vu (nfh _ _ _ _ d1.eq)) ?_;refine B 5 ?_;refine CJ.loop (α:=Nat×Nat) (λp=>[(2,.int .u64 (Y:Int)),(8,.int .u64 (s:Int)),(9,.int .u64 (y1:Int)),(10,.int .u64 (y0:Int)),(11,.int .u64 (u:Int)),(13,.int .u64 (v1:Int)),(14,.int .u64 (v0:Int)),(15,.int .u64 (p.1:Int)),(16,.int .u64 (p.2:Int))]) (λp=>[]) (λp=>[w]) (λp=>Gh.no) (λp=>oJ u y1 y0 v1 p.1 p.2) (λp=>p.1) (u/y1,u%y1) d1 zR rfl rfl zX ?_;rintro⟨q,r⟩ hd;dsimp only;replace hd:oJ u y1 y0 v1 q r:=hd;have MN:=hd.lt;have Xo:=hd.le;have Xp:(0:Int)<=(q:Int)*(y0:Int):=Int.mul_nonneg zJ zJ;have TY:(q:Int)<=4294967295->(q:Int)*(y0:Int)<=4294967295*4294967295:=λh=>(GF zJ h zJ zJ).2;refine B 6 ?_;refine nh (t:=69) rfl (λah=>?_) (λah=>?_)
 ·replace ah:=ya ah;refine B 18 ?_;obtain⟨aX,aN,aD⟩:=hd.more ft TW C4 zJ;refine GI ?_;refine aG ?_ ?_
  ·intro aJ;refine Xq ?_;first|(have rY:=hd.stop ft zJ;obtain⟨q1,rfl⟩:∃q1,q1=q:=⟨_,rfl⟩)|(have rY:=TZ zJ zJ aN aD ft zJ;generalize q-1=q1 at *)
   rw[MM]at rY;obtain⟨r1,C6⟩:∃z,(u*2^32+v1)%Y=z:=⟨_,rfl⟩;have OG:r1<Y:=by rw[<-C6];exact Nat.mod_lt _ zJ
   have gb:q1*Y+r1=u*2^32+v1:=by have:=uJ (u*2^32+v1) Y;rw[rY,C6,rE]at this;exact this
   have d2:=oJ.start ft zJ zJ mO (show r1<y1*2^32+y0 by omega);have OH:r1/y1*y1<=r1:=Nat.div_mul_le_self r1 y1;have pr:r1<y1*2^32+y0:=by omega
   clear hd;try clear aX aN aD
   refine Xr ?_;rintro⟨q,r⟩ hd;dsimp only;replace hd:oJ r1 y1 y0 v0 q r:=hd;have MN:=hd.lt;have Xo:=hd.le;have Xp:(0:Int)<=(q:Int)*(y0:Int):=Int.mul_nonneg zJ zJ;have TY:(q:Int)<=4294967295->(q:Int)*(y0:Int)<=4294967295*4294967295:=λh=>(GF zJ h zJ zJ).2;refine B 6 ?_;refine nh (t:=104) rfl (λcO=>?_) (λcO=>?_)
   ·replace cO:=ya cO;refine B 18 ?_;obtain⟨aX,aN,aD⟩:=hd.more ft pr mO zJ;refine GI ?_;refine aG ?_ ?_
    ·intro gL;exact MO
    intro gL;exact GJ
   replace cO:=ya cO;refine T0 ?_;refine aG ?_ ?_
   ·intro gv;refine B 6 ?_;obtain⟨aX,aN,aD⟩:=hd.more ft pr mO zJ;refine GI ?_;refine aG ?_ ?_
    ·intro je;exact MO
    intro je;exact GJ
   intro gv;refine B 6 ?_;exact T3
  intro aJ;exact GJ
 replace ah:=ya ah;refine T0 ?_;refine aG ?_ ?_
 ·intro iU;refine B 6 ?_;obtain⟨aX,aN,aD⟩:=hd.more ft TW C4 zJ;refine GI ?_;refine aG ?_ ?_
  ·intro rZ;refine Xq ?_;first|(have rY:=hd.stop ft zJ;obtain⟨q1,rfl⟩:∃q1,q1=q:=⟨_,rfl⟩)|(have rY:=TZ zJ zJ aN aD ft zJ;generalize q-1=q1 at *)
   rw[MM]at rY;obtain⟨r1,C6⟩:∃z,(u*2^32+v1)%Y=z:=⟨_,rfl⟩;have OG:r1<Y:=by rw[<-C6];exact Nat.mod_lt _ zJ
   have gb:q1*Y+r1=u*2^32+v1:=by have:=uJ (u*2^32+v1) Y;rw[rY,C6,rE]at this;exact this
   have d2:=oJ.start ft zJ zJ mO (show r1<y1*2^32+y0 by omega);have OH:r1/y1*y1<=r1:=Nat.div_mul_le_self r1 y1;have pr:r1<y1*2^32+y0:=by omega
   clear hd;try clear aX aN aD
   refine Xr ?_;rintro⟨q,r⟩ hd;dsimp only;replace hd:oJ r1 y1 y0 v0 q r:=hd;have MN:=hd.lt;have Xo:=hd.le;have Xp:(0:Int)<=(q:Int)*(y0:Int):=Int.mul_nonneg zJ zJ;have TY:(q:Int)<=4294967295->(q:Int)*(y0:Int)<=4294967295*4294967295:=λh=>(GF zJ h zJ zJ).2;refine B 6 ?_;refine nh (t:=104) rfl (λqg=>?_) (λqg=>?_)
   ·replace qg:=ya qg;refine B 18 ?_;obtain⟨aX,aN,aD⟩:=hd.more ft pr mO zJ;refine GI ?_;refine aG ?_ ?_
    ·intro pv;exact MO
    intro pv;exact GJ
   replace qg:=ya qg;refine T0 ?_;refine aG ?_ ?_
   ·intro pw;refine B 6 ?_;obtain⟨aX,aN,aD⟩:=hd.more ft pr mO zJ;refine GI ?_;refine aG ?_ ?_
    ·intro kb;exact MO
    intro kb;exact GJ
   intro pw;refine B 6 ?_;exact T3
  intro rZ;exact GJ
 intro iU;refine B 6 ?_;first|(have rY:=hd.stop ft zJ;obtain⟨q1,rfl⟩:∃q1,q1=q:=⟨_,rfl⟩)|(have rY:=TZ zJ zJ aN aD ft zJ;generalize q-1=q1 at *)
 rw[MM]at rY;obtain⟨r1,C6⟩:∃z,(u*2^32+v1)%Y=z:=⟨_,rfl⟩;have OG:r1<Y:=by rw[<-C6];exact Nat.mod_lt _ zJ
 have gb:q1*Y+r1=u*2^32+v1:=by have:=uJ (u*2^32+v1) Y;rw[rY,C6,rE]at this;exact this
 have d2:=oJ.start ft zJ zJ mO (show r1<y1*2^32+y0 by omega);have OH:r1/y1*y1<=r1:=Nat.div_mul_le_self r1 y1;have pr:r1<y1*2^32+y0:=by omega
 clear hd;try clear aX aN aD
 refine Xr ?_;rintro⟨q,r⟩ hd;dsimp only;replace hd:oJ r1 y1 y0 v0 q r:=hd;have MN:=hd.lt;have Xo:=hd.le;have Xp:(0:Int)<=(q:Int)*(y0:Int):=Int.mul_nonneg zJ zJ;have TY:(q:Int)<=4294967295->(q:Int)*(y0:Int)<=4294967295*4294967295:=λh=>(GF zJ h zJ zJ).2;refine B 6 ?_;refine nh (t:=104) rfl (λke=>?_) (λke=>?_)
 ·replace ke:=ya ke;refine B 18 ?_;obtain⟨aX,aN,aD⟩:=hd.more ft pr mO zJ;refine GI ?_;refine aG ?_ ?_
  ·intro r4;exact MO
  intro r4;exact GJ
 replace ke:=ya ke;refine T0 ?_;refine aG ?_ ?_
 ·intro r5;refine B 6 ?_;obtain⟨aX,aN,aD⟩:=hd.more ft pr mO zJ;refine GI ?_;refine aG ?_ ?_
  ·intro wS;exact MO
  intro wS;exact GJ
 intro r5;refine B 6 ?_;exact T3
theorem n5l(lo y:Nat)(h0:0<y)(hlo:lo<18446744073709551616)(hy:y<18446744073709551616)(w:World):Calls prog 178 #[.int .u64 0,.int .u64 (lo:Int),.int .u64 (y:Int)] w (ay w (.tuple #[.int .u64 ((lo/y:Nat):Int),.int .u64 ((lo%y:Nat):Int)])):=by
 refine zAh ?_;refine BY ?_;refine B 4 ?_;refine ng (E':=[(0,_),(1,_),(2,_),(7,_),(19,_),(20,_),(22,_),(23,_),(24,_),(26,_),(27,_)]) zR ?_;refine nl 7 [.det [] _,.det [] _,.det [0,1] _,.det [] _,.det [] _,.det [3,4] _,.det [2] _] zQ (xc zN (xc zN (xc (by exact λaf=>X.val rfl rfl (rW rfl rfl zJ zJ zJ) (λ_ _=>rfl)) (xc zN (xc zN (xc (by exact λaf=>X.val rfl rfl (wT rfl rfl zJ zJ) (λ_ _=>rfl)) (xc (by exact λaf=>X.val rfl rfl (jz rfl) (λ_ _=>rfl)) (xn)))))))) zQ zQ zQ (λaf=>?_);refine B 5 ?_;refine nS results178 rfl rfl A0 ?_ ?_
 ·exact vu (TX lo y)
 exact vu (Int.natCast_emod lo y).symm
theorem nPf(hi lo y:Int)(h0:0<=hi)(h1:hi<y)(h2:0<=lo)(h3:lo<18446744073709551616)(h4:y<18446744073709551616)(w:World):Calls prog 178 #[.int .u64 hi,.int .u64 lo,.int .u64 y] w (ay w (.tuple #[.int .u64 ((hi*18446744073709551616+lo)/y),.int .u64 ((hi*18446744073709551616+lo)%y)])):=by
 obtain⟨a,rfl⟩:=BZ h0;obtain⟨b,rfl⟩:=BZ h2;obtain⟨c,rfl⟩:=BZ (Int.le_trans h0 (Int.le_of_lt h1));have e:((a:Int)*18446744073709551616+(b:Int))=((a*2^64+b:Nat):Int):=by simp
 rw[e,TX,<-Int.natCast_emod];by_cases ha:a=0
 ·subst ha;have:=n5l b c zJ zJ zJ w;simpa using this
 exact nom a b c zJ zJ zJ zJ w
theorem nVh{a b p:Int}(ha:0<=a)(eO:a<p)(hb:0<=b)(aQ:b<p)(hp:p<18446744073709551616):0<=a*b/18446744073709551616/\a*b/18446744073709551616<p/\0<=a*b%18446744073709551616/\a*b%18446744073709551616<18446744073709551616/\a*b/18446744073709551616*18446744073709551616+a*b%18446744073709551616=a*b:=by
 have h0:0<=a*b:=Int.mul_nonneg ha hb;have h1:a*b<=a*18446744073709551616:=Int.mul_le_mul_of_nonneg_left zJ ha;refine⟨by omega,by omega,by omega,by omega,by omega⟩
theorem Xs(a b:Int)(ha:0<=a)(eO:a<4611686018427377339)(hb:0<=b)(aQ:b<4611686018427377339)(w:World):Calls prog 173 #[.int .u64 a,.int .u64 b] w (ay w (.int .u64 (a*b%4611686018427377339))):=by
 obtain⟨m1,m2,m3,m4,m5⟩:=nVh ha eO hb aQ zO;refine enter (vs:=[_,_]) func173 rfl ntmps173 rfl ?_;refine B 9 ?_;refine zOh ?_;refine B 14 ?_;refine ax results173 rfl A0 ?_
 (rw[m5];rfl)
theorem npl(k:Int)(w:World):Calls prog 172 #[.int .u64 k] w (cJ w (λb=>.func (.func 240) #[] #[ptr b 0]) (λb w1=>w.heap.size<=b/\w1.heap[b]? =some (.cells #[.int .u64 k] 202 (0,0)))):=by
 refine enter (vs:=[_]) func172 rfl ntmps172 rfl ?_;refine B 2 ?_;refine yX ?_;intro b1 w1 aQ aX gb eO gZ;refine B 10 ?_;refine kH b1 results172 rfl A1 rfl ?_;exact Xt
def oK (n:Nat):List Bool:=(List.range (cA n)).reverse.map (λi=>n.testBit i)
theorem Xu(n:Nat):(oK n).length=cA n:=by simp[oK]
theorem Xv(n j:Nat)(h:j<cA n):(oK n).take (j+1)=(oK n).take j++[n.testBit (cA n-1-j)]:=by
 have hl:j<(oK n).length:=by rw[Xu];exact h
 rw[GK hl];congr 2;simp[oK]
theorem IQ(n i:Nat):decide (((n/2^i:Nat):Int)%2=1)=n.testBit i:=by
 rw[Nat.testBit_eq_decide_div_mod_eq];congr 1;apply propext;omega
theorem nSk(n j:Nat)(h:j<cA n):((oK n).take j++[n.testBit (cA n-1-j)]) <+:oK n:=by
 rw[<-Xv n j h];exact List.take_prefix _ _
theorem nrm(n:Nat)(hn:n<18446744073709551616)(b:Nat)(W:World)(aQ:W.heap[b]? =some (.cells #[.int .u64 (n:Int)] 202 (0,0))):MP prog 240 [ptr b 0] (λx:Bool=>[.bool x]) (oK n) (λ_=>False) (λk=>k=b) W:=by
 intro l M I X0 hM hI hX hy h0;have aX:¬M b:=λh=>(hM b h).2.2 rfl;have jf:=OC n 64 hn;have T6:kV (n:Int)=(cA n:Int):=by simp[kV]
 refine nL (B0 hM (hI [])) [] (vs:=[_,_]) func240 rfl ntmps240 rfl (wU hM (hI []) h0) ?_;refine B 3 ?_;refine Xk ?_;refine zrg ?_;refine B 4 ?_;refine zQf ?_;rintro j hj;refine B 7 ?_;refine aG ?_ ?_
 ·intro ah;refine B 9 ?_;refine rq (.int .u64 ((n/2^(cA n-1-j):Nat):Int)) (gY rfl rfl zJ) (vu (wV n _ _ zJ zJ)) ?_;refine rv rfl rfl rfl (lL 1 2 zO rfl rfl rfl rfl (Int.natCast_nonneg _) (Int.lt_of_le_of_lt (Int.ofNat_le.2 (Nat.div_le_self n _)) zJ)) ?_;refine z1g ?_;refine yld (B0 hM (hI ((oK n).take (j+1)))) (B0 hM hX) rfl rfl rfl rfl (λW1 hS=>by have:=hy ((oK n).take j) _ W1 (nSk n j zJ) hS.ghost;rw[<-Xv n j zJ]at this;exact this) rfl rfl rfl rfl ?_ ?_
  ·exact zWj
  refine B 9 ?_;exact OI (.inl rfl) results240 A0 (λA hA=>.inr hA)
 intro ah;refine B 4 ?_;exact OI (.inr rfl) results240 A0 (λA hA=>.inl (by have e:=iV (l:=oK n) (i:=j) (by rw[Xu];omega);rw[e]at hA;exact hA))
def nI (a m:Int):List Bool->Int->Int
 | [],c=>c
 |b::bs,c=>nI a m bs (if b then(c*c%m)*a%m else c*c%m)
theorem T7(a m:Int)(bs:List Bool)(b:Bool)(c:Int):nI a m (bs++[b]) c=if b then(nI a m bs c*nI a m bs c%m)*a%m else nI a m bs c*nI a m bs c%m:=by
 induction bs generalizing c with
 |nil=>rfl
 |cons x bs ih=>simp only[eP,nI];exact ih _
theorem Xw(a m:Int)(hm:0<m)(bs:List Bool)(c:Int)(h0:0<=c)(h1:c<m):0<=nI a m bs c/\nI a m bs c<m:=by
 induction bs generalizing c with
 |nil=>exact⟨h0,h1⟩
 |cons x bs ih=>
  simp only[nI];apply ih
  ·split<;>exact Int.emod_nonneg _ zJ
  split<;>exact Int.emod_lt_of_pos _ hm
def px (a n m:Int):Int:=nI a m (oK n.toNat) 1
theorem nxh(a k:Int)(ha:0<=a)(eO:a<4611686018427377339)(hk:0<=k)(T8:k<18446744073709551616)(w:World):Calls prog 109 #[.int .u64 a,.int .u64 k] w (ay w (.int .u64 (px a k 4611686018427377339))):=by
 refine B1 Gh.no [] (vs:=[_,_]) func109 rfl ntmps109 rfl (uK w) ?_;refine B 2 ?_;refine yX ?_;intro b2 w2 aU aN dY cR cX;refine B 5 ?_;refine aZ zeroValue202 rfl rfl ?_;refine yW ?_;intro b5 iH iI;refine T9 ?_;refine B 6 ?_;refine nB (Φ:=λW b w1=>W.heap.size<=b/\w1.heap[b]? =some (.cells #[.int .u64 k] 202 (0,0))) call172 rfl rfl rfl (λW hS=>npl _ W) ?_;intro Wd bd wd qh OK Xx;obtain⟨IS,mP⟩:=Xx;have OL:=qh.under;simp only[nY,cZ,eB]at OL;have GL:=qh.sizes;replace GL:=yb GL;have Xy:=OK.size;refine B 3 ?_;refine CJ.range (f:=240) (cap:=[ptr bd 0]) (α:=Bool) (enc:=(λx:Bool=>[.bool x])) (xs:=oK k.toNat) (MI:=λ_=>False) (RO:=λk=>k=bd) rfl call240 (λW W2 hS hB=>by have e:(.int .u64 k:Value)= .int .u64 ((k.toNat:Nat):Int):=(by rw[Int.toNat_of_nonneg hk]);exact nrm k.toNat zJ bd W2 (by rw[<-e,hB.block bd Xz];exact hS.old A0 mP zU (by simp only[bD,cZ,ne_eq,and_true];omega))) (λ_ _ _ hk=>hk.elim) (λW hS k hk=>by subst hk;have:=hS.sizes;simp only[ad]at this;have:=(aT.1 mP).1;refine⟨by omega,by simp only[cZ,eh,iB,qi];omega,λh=>h⟩) (λ_=>rfl) (λpre Hc=>Hc=[(b5,.cells #[.int .u64 (nI a 4611686018427377339 pre 1)] 202 (0,0))]) (λ_ _=>False) rfl (by rintro pre Hc rfl;rfl) (λ_ _ hk=>hk.elim) zO ?_ ?_ ?_
 ·rintro pre x Hc l Dk rec Wy lN qB eC rfl dZ gM GM qC;simp only[ad]at dZ qC;have IT:=Xw a 4611686018427377339 zO pre 1 zO zO;have hX:=Int.emod_nonneg (nI a 4611686018427377339 pre 1*nI a 4611686018427377339 pre 1) (b:=4611686018427377339) zO;have eQ:=Int.emod_lt_of_pos (nI a 4611686018427377339 pre 1*nI a 4611686018427377339 pre 1) (b:=4611686018427377339) zO;refine MQ ?_;refine B 5 ?_;refine call call173 rfl rfl rfl (λW hS=>Xs _ _ zJ zJ zJ zJ W) ?_;refine T9 ?_;refine B 7 ?_;refine aG ?_ ?_
  ·intro ah;refine B 3 ?_;refine call call173 rfl rfl rfl (λW hS=>Xs _ _ zJ zJ zJ zJ W) ?_;refine T9 ?_;refine B 2 ?_;exact Ua (Hc:=[(b5,.cells #[.int .u64 (nI a 4611686018427377339 pre 1*nI a 4611686018427377339 pre 1%4611686018427377339*a%4611686018427377339)] 202 (0,0))]) (λ_ hk=>hk) (by cases rec;simp_all) (by rw[T7,ah];rfl)
  intro ah;refine B 2 ?_;exact Ua (Hc:=[(b5,.cells #[.int .u64 (nI a 4611686018427377339 pre 1*nI a 4611686018427377339 pre 1%4611686018427377339)] 202 (0,0))]) (λ_ hk=>hk) (by cases rec;simp_all) (by rw[T7,ah];rfl)
 ·rintro l Dk rec Hc dZ gM rfl;replace dZ:=yb dZ;refine B 9 ?_;refine GN (.inl rfl) results109 rfl wW (λW H' hS bO=>⟨?_,?_⟩)
  ·exact congrArg Ending.returned rfl
  exact zfk
 exact λ_ _ _ _ _ _ _ hk=>hk.elim
theorem Ub(a k m:Int)(hm:1<m):0<=px a k m/\px a k m<m:=Xw a m zJ _ 1 zJ hm
abbrev dy (a:Int):Prop:=1<=a/\a<4611686018427377339/\px a 2305843009213688669 4611686018427377339=1
def gExp (a k:Int):Int×Int:=if dy a then if 0<=k/\k<2305843009213688669 then(px a k 4611686018427377339,0)else(0,1)else(0,40)
def kW (p:Int×Int):Value:=.tuple #[.int .i64 p.1,.int .i64 p.2]
theorem nJ(a:Int)(w:World):Calls prog 63 #[.int .i64 a] w (ay w (.int .i64 (if dy a then 0 else 40))):=by
 have hp:=Ub a 2305843009213688669 4611686018427377339 zO;refine enter (vs:=[_]) func63 rfl ntmps63 rfl ?_;refine B 11 ?_;refine nh (t:=5) rfl (λah=>?_) (λah=>?_)
 ·replace ah:=ya ah;refine B 19 ?_;refine Uc ?_;split<;>omega
 replace ah:=ya ah;refine B 4 ?_;refine nh (t:=9) rfl (λaJ=>?_) (λaJ=>?_)
 ·replace aJ:=ya aJ;refine B 15 ?_;refine Uc ?_;split<;>omega
 replace aJ:=ya aJ;refine B 2 ?_;refine call call109 rfl rfl rfl (λW hS=>nxh _ _ zJ zJ zJ zJ W) ?_;refine B 4 ?_;refine aG ?_ ?_
 ·intro cO;refine B 7 ?_;refine Uc ?_;split<;>omega
 intro cO;refine B 8 ?_;refine Uc ?_;split<;>omega
theorem nTj(a k:Int)(w:World):Calls prog 62 #[.int .i64 a,.int .i64 k] w (ay w (kW (gExp a k))):=by
 have hp:=Ub a k 4611686018427377339 zO;refine enter (vs:=[_,_]) func62 rfl ntmps62 rfl ?_;refine B 10 ?_;refine call call63 rfl rfl rfl (λW hS=>nJ _ W) ?_;refine B 9 ?_;refine aG ?_ ?_
 ·intro ah;refine B 1 ?_;have hg:¬dy a:=λh=>by simp[if_pos h]at ah
  refine B 8 ?_;exact Ud
 intro ah;refine B 4 ?_;have hg:dy a:=Decidable.byContradiction λh=>by simp[if_neg h]at ah
 refine B 4 ?_;refine nh (t:=14) rfl (λaJ=>?_) (λaJ=>?_)
 ·replace aJ:=ya aJ;refine B 14 ?_;exact Ud
 replace aJ:=ya aJ;refine B 5 ?_;refine aG ?_ ?_
 ·intro cO;refine B 8 ?_;exact Ud
 intro cO;refine B 8 ?_;refine call call109 rfl rfl rfl (λW hS=>nxh _ _ zJ zJ zJ zJ W) ?_;refine B 6 ?_;exact Ud
theorem n3h(k:Int)(w:World):Calls prog 65 #[.int .i64 k] w (ay w (kW (gExp 4 k))):=by
 refine enter (vs:=[_]) func65 rfl ntmps65 rfl ?_;refine B 9 ?_;refine call call62 rfl rfl rfl (λW hS=>nTj _ _ W) ?_;refine B 7 ?_;refine nS results65 rfl rfl A0 ?_ ?_;all_goals rfl
theorem C7(x b:Int)(h0:0<=b)(h1:b<256):IntKind.u64.wrap (BitVec.ofInt IntKind.u64.bits (IntKind.u64.wrap (x*256))|||BitVec.ofInt IntKind.u64.bits b).toNat=(x*256)%18446744073709551616+b:=by
 obtain⟨y,hy⟩:∃y:Nat,(x*256)%18446744073709551616=((y*2^8:Nat):Int):=⟨((x*256)%18446744073709551616/256).toNat,by omega⟩;obtain⟨c,rfl⟩:=BZ h0;rw[hy,(nz (x*256)).trans hy,GH y c 8 zJ zJ];omega
theorem C8(n b m:Int):n/72057594037927936*18446744073709551616+(n*256%18446744073709551616+b)=n*256+b:=by omega
def B2 (m:Int):List Int->Int->Int
 | [],n=>n
 |b::bs,n=>B2 m bs ((n*256+b)%m)
theorem nVn(m:Int)(bs:List Int)(b n:Int):B2 m (bs++[b]) n=(B2 m bs n*256+b)%m:=by
 induction bs generalizing n with
 |nil=>rfl
 |cons x bs ih=>simp only[eP,B2];exact ih _
theorem XA(m:Int)(hm:0<m)(bs:List Int)(n:Int)(h0:0<=n)(h1:n<m):0<=B2 m bs n/\B2 m bs n<m:=by
 induction bs generalizing n with
 |nil=>exact⟨h0,h1⟩
 |cons x bs ih=>exact ih _ (Int.emod_nonneg _ zJ) (Int.emod_lt_of_pos _ hm)
theorem ntm(c n m:Int)(b b2:Nat)(hc:0<=c)(ah:c<256)(hn:0<=n)(hnm:n<m)(hm:m<72057594037927936*256)(w:World)(hb:w.heap[b]? =some (.cells #[.int .u64 n] 202 (0,0)))(aU:w.heap[b2]? =some (.cells #[.int .u64 m] 202 (0,0)))(dn:b≠b2):Calls prog 241 #[.int .u8 c,ptr b 0,ptr b2 0] w (wX w (.tuple #[]) b (.cells #[.int .u64 ((n*256+c)%m)] 202 (0,0))):=by
 have aN:¬Gh.no.M b2:=λh=>h;refine nL Gh.no [(b,_)] (vs:=[_,_,_]) func241 rfl ntmps241 rfl (Ue hb) ?_;refine B 2 ?_;refine rv rfl rfl rfl (fK 56 72057594037927936 zO rfl rfl rfl) ?_;refine B 1 ?_;refine rv rfl rfl rfl (wY 8 256 zO rfl rfl rfl) ?_;refine B 2 ?_;refine rq (.int .u64 ((n*256)%18446744073709551616+c)) (tL rfl rfl) (vu (C7 n c hc ah)) ?_;refine B 1 ?_;refine zRg ?_;refine B 2 ?_;refine rq (.int .u64 ((n*256+c)%m)) (gk rfl rfl) (vu (by rw[C8 n c m])) ?_;refine kf (i:=0) rfl sizeOf202 rfl rfl rfl rfl (bj rfl) rfl ?_;refine B 1 ?_;refine bH (.inr rfl) results241 RS.n (λW hS=>⟨rfl,(hS.links w A0).mono λk _ hk=>?_,hS.own _ A0⟩);simpa[Gh.no]using hk
def dg (f:Nat->Int):Array Value:=#[.int .u8 (f 0),.int .u8 (f 1),.int .u8 (f 2),.int .u8 (f 3),.int .u8 (f 4),.int .u8 (f 5),.int .u8 (f 6),.int .u8 (f 7),.int .u8 (f 8),.int .u8 (f 9),.int .u8 (f 10),.int .u8 (f 11),.int .u8 (f 12),.int .u8 (f 13),.int .u8 (f 14),.int .u8 (f 15),.int .u8 (f 16),.int .u8 (f 17),.int .u8 (f 18),.int .u8 (f 19),.int .u8 (f 20),.int .u8 (f 21),.int .u8 (f 22),.int .u8 (f 23),.int .u8 (f 24),.int .u8 (f 25),.int .u8 (f 26),.int .u8 (f 27),.int .u8 (f 28),.int .u8 (f 29),.int .u8 (f 30),.int .u8 (f 31)]
def qj (f:Nat->Int):List Int:=(List.range 32).map f
abbrev iJ (f:Nat->Int):Prop:=∀i,0<=f i/\f i<256
theorem oL(f:Nat->Int)(i:Nat)(h:i<32):(dg f)[i]? =some (.int .u8 (f i)):=by
 have e:dg f=((List.range 32).map λi=>Value.int .u8 (f i)).toArray:=rfl;rw[e];simp[h]
theorem wZ(f:Nat->Int)(j:Nat)(h:j<32):(qj f).take (j+1)=(qj f).take j++[f j]:=by
 have hl:j<(qj f).length:=by simp[qj];exact h
 rw[GK hl];simp[qj]
theorem nRn(f:Nat->Int)(hf:iJ f)(m:Int)(r6:0<m)(hm:m<72057594037927936*256)(w:World):Calls prog 174 #[.agg (dg f),.int .u64 m] w (ay w (.int .u64 (B2 m (qj f) 0))):=by
 refine enter (vs:=[_,_]) func174 rfl ntmps174 rfl ?_;refine B 2 ?_;refine yX ?_;intro b2 w2 aU aN dY cR cX;refine yX ?_;intro b3 w3 aM aD da cd cP;refine aZ zeroValue202 rfl rfl ?_;refine yW ?_;intro b4 dO dU;refine B 11 ?_;refine rv rfl rfl rfl (ae isAgg34 sizeOf34 rfl A1 aU aN zI rfl) ?_;refine B 4 ?_;refine CJ.loop (α:=Nat) (λj=>[(2,ptr b2 0),(3,ptr b3 0),(4,ptr b4 0),(5,.func (.func 241) #[] #[ptr b4 0,ptr b3 0]),(9,.agg (dg f)),(10,.int .i64 (j:Int))]) (λj=>[(b4,.cells #[.int .u64 (B2 m ((qj f).take j) 0)] 202 (0,0))]) (λj=>[w3,w2,w]) (λj=>Gh.no) (λj=>j<=32) (λj=>32-j) 0 zO zR rfl rfl zX ?_;rintro j hj;have IT:=XA m r6 ((qj f).take j) 0 zO r6;refine B 6 ?_;refine aG ?_ ?_
 ·intro ah;refine B 6 ?_;refine rq (.int .u8 (f j)) (py underlying34 isAgg5 sizeOf5 rfl rfl zJ zJ (oL f _ zJ)) (congrArg (λk=>Value.int .u8 (f k)) zJ) ?_;refine B 6 ?_;refine MR (f:=241) (i:=0) (first:=[]) (cap:=[ptr b4 0,ptr b3 0]) rfl rfl call241 rfl rfl rfl (λW hS hW=>ntm _ _ _ _ _ (hf j).1 (hf j).2 IT.1 IT.2 hm W hW (hS.old A0 aM aD pz) zJ) ?_;refine B 7 ?_;refine PJ.reH (H':=[(b4,.cells #[.int .u64 (B2 m ((qj f).take (j+1)) 0)] 202 (0,0))]) (by rw[wZ f j zJ,nVn];rfl) ?_;exact C9
 intro ah;refine B 8 ?_;refine T9 ?_;refine B 3 ?_;refine bF (.inl rfl) results174 (RS.w (i:=0) rfl isAgg202 rfl rfl (RS.n)) A2 zP ?_;exact vu (by rw[iV (by simp[qj];omega)])
end Px
namespace Px
open Go

end Px
namespace Px
open Go Go.RowKit Go.Proofs Go.Proofs.Tryz
def jg (a:Int):Bool:=decide (a<0)||decide (2305843009213688669<=a)
theorem Uf{a:Int}:jg a=false↔0<=a/\a<2305843009213688669:=by simp[jg]
theorem Ug{a:Int}:jg a=true↔¬(0<=a/\a<2305843009213688669):=by simp[jg];omega
theorem nij(a:Int)(w:World):Calls prog 176 #[.int .i64 a] w (ay w (.bool (jg a))):=by
 refine enter (vs:=[_]) func176 rfl ntmps176 rfl ?_;refine B 10 ?_;refine nh (t:=5) rfl (λah=>?_) (λah=>?_)
 ·exact zRj
 exact zRj
def r7 (p:Int->Bool) (xs:List Int):Int:=match xs.findIdx? p with|some i=>(i:Int)|none=> -1
theorem xb(p:Int->Bool)(xs:List Int)(j:Nat)(hj:j<xs.length)(h:∀x∈xs.take j,p x=false)(hp:p xs[j]=true):r7 p xs=(j:Int):=by
 unfold r7;have:xs.findIdx? p=some j:=by
  rw[Uh];refine⟨hj,hp,λi hi=>?_⟩;have:=h (xs[i]'zJ) (by rw[List.mem_take_iff_getElem];exact⟨i,by omega,rfl⟩);simp[this]
 rw[this]
theorem n1n(p:Int->Bool)(xs:List Int)(h:∀x∈xs,p x=false):r7 p xs= -1:=by
 unfold r7;have:xs.findIdx? p=none:=by rw[List.findIdx?_eq_none_iff];exact h
 rw[this]
theorem xd(p:Int->Bool)(xs:List Int):decide (0<=r7 p xs)=xs.any p:=by
 unfold r7;cases h:xs.findIdx? p with
 |some i=>
  obtain⟨h1,h2,_⟩:=Uh.1 h;have:xs.any p=true:=List.any_eq_true.2 ⟨xs[i],OM h1,h2⟩;rw[this];simp
 |none=>
  have:xs.any p=false:=List.any_eq_false.2 (by simpa using List.findIdx?_eq_none_iff.1 h);rw[this];simp
def ints (xs:List Int):Array Value:=(xs.map λx=>Value.int .i64 x).toArray
theorem ints_at(xs:List Int)(j:Nat)(h:j<xs.length):(ints xs)[j]? =some (.int .i64 xs[j]):=by simp[ints,h]
theorem nkk(p:Int->Bool)(f:Nat)(az:dP prog f)(hp:∀x W,Calls prog f #[.int .i64 x] W (ay W (.bool (p x))))(xs:List Int)(b T n c:Nat)(fr:Nat×Nat)(hn:xs.length=n)(IU:n<9223372036854775807)(w:World)(lO:w.heap[b]? =some (.cells (ints xs) T fr)):Calls prog 242 #[.slice (some ⟨b,0,none⟩) n c,.func (.func f) #[] #[]] w (ay w (.int .i64 (r7 p xs))):=by
 have r6:¬Gh.no.M b:=λh=>h;refine enter (vs:=[_,_]) func242 rfl ntmps242 rfl ?_;refine B 14 ?_;refine CJ.loop (α:=Nat) (λj=>[(0,.slice (some ⟨b,0,none⟩) n c),(1,.func (.func f) #[] #[]),(7,.int .i64 (n:Int)),(8,.int .i64 (j:Int))]) (λj=>[]) (λj=>[w]) (λj=>Gh.no) (λj=>j<=n/\∀x∈xs.take j,p x=false) (λj=>n-j) 0 ⟨db _,by simp⟩ zR rfl rfl zX ?_;rintro j ⟨hj,XB⟩;refine B 6 ?_;refine aG ?_ ?_
 ·intro ah;refine B 16 ?_;refine rv rfl rfl rfl (aa (v:=.int .i64 (xs[j]'zJ)) isAgg3 rfl A0 lO r6 trivial (by rw[<-ints_at xs j zJ];congr 1;omega)) ?_;refine nK (f:=f) (cap:=[]) rfl az rfl rfl rfl (λW hS=>hp _ W) ?_;refine B 2 ?_;refine aG ?_ ?_
  ·intro aJ;refine B 12 ?_;refine ax results242 rfl A0 ?_;exact vi (xb p xs j zJ XB aJ).symm
  intro aJ;refine B 7 ?_;refine PJ.again (j+1) ⟨by omega,by intro x hx;rw[GK zJ]at hx;simp only[cQ,qi]at hx;rcases hx with hx|rfl;exact XB x hx;exact aJ⟩ zJ zR rfl rfl zX
 intro ah;refine B 11 ?_;refine ax results242 rfl A0 ?_;exact vi (n1n p xs (by rw[<-iV (l:=xs) (i:=j) zJ];exact XB)).symm
theorem nKh(p:Int->Bool)(f:Nat)(az:dP prog f)(hp:∀x W,Calls prog f #[.int .i64 x] W (ay W (.bool (p x))))(xs:List Int)(b T n c:Nat)(fr:Nat×Nat)(hn:xs.length=n)(IU:n<9223372036854775807)(w:World)(lO:w.heap[b]? =some (.cells (ints xs) T fr)):Calls prog 175 #[.slice (some ⟨b,0,none⟩) n c,.func (.func f) #[] #[]] w (ay w (.bool (xs.any p))):=by
 refine enter (vs:=[_,_]) func175 rfl ntmps175 rfl ?_;refine B 9 ?_;refine call call242 rfl rfl rfl (λW hS=>nkk p f az hp xs b T n c fr hn IU W (hS.old A0 lO zU trivial)) ?_;refine B 5 ?_;refine ax results175 rfl A0 ?_;exact vb (xd p xs)
theorem XC(xs:List Int)(b T n c:Nat)(fr:Nat×Nat)(hn:xs.length=n)(IU:n<9223372036854775807)(w:World)(lO:w.heap[b]? =some (.cells (ints xs) T fr)):Calls prog 111 #[.slice (some ⟨b,0,none⟩) n c] w (ay w (.bool (xs.any jg))):=by
 refine enter (vs:=[_]) func111 rfl ntmps111 rfl ?_;refine B 8 ?_;refine call call175 rfl rfl rfl (λW hS=>nKh jg 176 call176 (λx W=>nij x W) xs b T n c fr hn IU W (hS.old A0 lO zU trivial)) ?_;refine B 4 ?_;refine ax results111 rfl A0 ?_;rfl
theorem nfg(a b:Int)(ha:0<=a)(eO:a<2305843009213688669)(hb:0<=b)(aQ:b<2305843009213688669)(w:World):Calls prog 112 #[.int .i64 a,.int .i64 b] w (ay w (.int .i64 (a*b%2305843009213688669))):=by
 obtain⟨m1,m2,m3,m4,m5⟩:=nVh ha eO hb aQ zO;have m6:=Int.emod_nonneg (a*b) (b:=2305843009213688669) zO;have m7:=Int.emod_lt_of_pos (a*b) (b:=2305843009213688669) zO;refine enter (vs:=[_,_]) func112 rfl ntmps112 rfl ?_;refine B 11 ?_;refine zOh ?_;refine B 10 ?_;refine rq (.int .i64 (a*b%2305843009213688669)) (sa underlying202 underlying3 rfl (by rw[m5];omega) (by rw[m5];omega)) (by rw[m5]) ?_;refine B 4 ?_;refine ax results112 rfl A0 ?_;rfl
theorem n6l(a:Int)(w:World):Calls prog 119 #[.int .i64 a] w (ay w (.int .i64 (if jg a then 1 else 0))):=by
 refine enter (vs:=[_]) func119 rfl ntmps119 rfl ?_;refine B 9 ?_;refine Da ?_;refine yV ?_;intro b4 w4 ew eR pA dO dU;refine call call111 rfl rfl rfl (λW hS=>XC [a] _ _ _ _ _ rfl zX W (hS.old A0 ew eR trivial)) ?_;refine B 2 ?_;refine aG ?_ ?_
 ·intro ah;refine B 7 ?_;refine ax results119 rfl A1 ?_;refine vi ?_;simp_all
 intro ah;refine B 8 ?_;refine ax results119 rfl A1 ?_;refine vi ?_;simp_all
abbrev mQ (a:Int):Prop:=0<=a/\a<2305843009213688669
def jA (a b:Int):Int×Int:=if mQ a/\mQ b then(a*b%2305843009213688669,0)else(0,1)
def pB (a b:Int):Int×Int:=if mQ a/\mQ b then((a+b)%2305843009213688669,0)else(0,1)
def mR (a:Int):Int×Int:=if mQ a then if a=0 then(0,30)else(px a 2305843009213688667 2305843009213688669,0)else(0,1)
theorem ON{a b:Int}(h:[a,b].any jg=false):mQ a/\mQ b:=by simp only[List.any_cons,List.any_nil,Bool.or_false,Bool.or_eq_false_iff]at h;exact⟨Uf.1 h.1,Uf.1 h.2⟩
theorem GO{a b:Int}(h:[a,b].any jg=true):¬(mQ a/\mQ b):=by
 simp only[List.any_cons,List.any_nil,Bool.or_false,Bool.or_eq_true]at h;intro⟨h1,h2⟩;rcases h with h|h
 ·exact Ug.1 h h1
 exact Ug.1 h h2
theorem XD{a:Int}(h:[a].any jg=false):mQ a:=Uf.1 qz
theorem OO{a:Int}(h:[a].any jg=true):¬mQ a:=Ug.1 qz
theorem n5j(a b:Int)(w:World):Calls prog 66 #[.int .i64 a,.int .i64 b] w (ay w (kW (jA a b))):=by
 refine enter (vs:=[_,_]) func66 rfl ntmps66 rfl ?_;refine B 11 ?_;refine Da ?_;refine yV ?_;intro b8 w8 Db Dc Ui vU vV;refine znh ?_;refine B 2 ?_;refine aG ?_ ?_
 ·intro ah;refine B 1 ?_;have hg:=GO ah;refine B 7 ?_;exact zHj
 intro ah;refine B 3 ?_;have hg:=ON ah;refine B 3 ?_;refine call call112 rfl rfl rfl (λW hS=>nfg _ _ zJ zJ zJ zJ W) ?_;refine B 5 ?_;exact zHj
theorem n7n(a b:Int)(w:World):Calls prog 67 #[.int .i64 a,.int .i64 b] w (ay w (kW (pB a b))):=by
 refine enter (vs:=[_,_]) func67 rfl ntmps67 rfl ?_;refine B 11 ?_;refine Da ?_;refine yV ?_;intro b8 w8 Db Dc Ui vU vV;refine znh ?_;refine B 2 ?_;refine aG ?_ ?_
 ·intro ah;refine B 1 ?_;have hg:=GO ah;refine B 7 ?_;exact zGj
 intro ah;refine B 3 ?_;have hg:=ON ah;refine B 4 ?_;refine rv rfl rfl rfl (wT rfl rfl zJ zJ) ?_;refine B 5 ?_;exact zGj
theorem nCg(c n:Int)(b:Nat)(hc:0<=c)(ah:c<2305843009213688669)(hn:0<=n)(tM:n<2305843009213688669)(w:World)(hb:w.heap[b]? =some (.cells #[.int .i64 n] 3 (0,0))):Calls prog 179 #[.int .i64 c,ptr b 0] w (wX w (.tuple #[]) b (.cells #[.int .i64 (n*c%2305843009213688669)] 3 (0,0))):=by
 refine nL Gh.no [(b,_)] (vs:=[_,_]) func179 rfl ntmps179 rfl (Ue hb) ?_;refine B 3 ?_;refine call call112 rfl rfl rfl (λW hS=>nfg _ _ zJ zJ zJ zJ W) ?_;refine Uj ?_;refine B 1 ?_;refine bH (.inr rfl) results179 RS.n (λW hS=>⟨rfl,(hS.links w A0).mono λk _ hk=>?_,hS.own _ A0⟩);simpa[Gh.no]using hk
theorem n5k(k:Int)(w:World):Calls prog 180 #[.int .i64 k] w (cJ w (λb=>.func (.func 244) #[] #[ptr b 0]) (λb w1=>w.heap.size<=b/\w1.heap[b]? =some (.cells #[.int .i64 k] 3 (0,0)))):=by
 refine enter (vs:=[_]) func180 rfl ntmps180 rfl ?_;refine B 2 ?_;refine yX ?_;intro b1 w1 aQ aX gb eO gZ;refine B 10 ?_;refine kH b1 results180 rfl A1 rfl ?_;exact Xt
theorem Dd(m:Int)(h0:0<=m)(h1:m<9223372036854775808):IntKind.i64.wrap (BitVec.ofInt IntKind.i64.bits m&&&BitVec.ofInt IntKind.i64.bits 1).toNat=m%2:=by
 obtain⟨n,rfl⟩:=BZ h0;have e:(BitVec.ofInt IntKind.i64.bits (n:Int)&&&BitVec.ofInt IntKind.i64.bits 1).toNat=n%2:=by
  rw[BitVec.toNat_and];have h2:(BitVec.ofInt IntKind.i64.bits (n:Int)).toNat=n:=by
   simp only[IntKind.bits,BitVec.ofInt_natCast,BitVec.toNat_ofNat];omega
  have h3:(BitVec.ofInt IntKind.i64.bits 1).toNat=1:=rfl;rw[h2,h3,Nat.and_one_is_mod]
 rw[e,GP zJ zJ];omega
theorem IV(m i:Nat)(k:Int)(hk:k=(i:Int))(hi:i<=64):(m:Int).fdiv (2^(min (Int.toNat k) IntKind.i64.bits))=((m/2^i:Nat):Int):=wV m i k hk hi
theorem nhm(n:Nat)(hn:n<9223372036854775808)(b:Nat)(W:World)(aQ:W.heap[b]? =some (.cells #[.int .i64 (n:Int)] 3 (0,0))):MP prog 244 [ptr b 0] (λx:Bool=>[.bool x]) (oK n) (λ_=>False) (λk=>k=b) W:=by
 intro l M I X0 hM hI hX hy h0;have aX:¬M b:=λh=>(hM b h).2.2 rfl;have jf:=OC n 63 hn;have T6:kV (n:Int)=(cA n:Int):=by simp[kV]
 refine nL (B0 hM (hI [])) [] (vs:=[_,_]) func244 rfl ntmps244 rfl (wU hM (hI []) h0) ?_;refine B 4 ?_;refine call call97 rfl rfl rfl (λW hS=>Xl _ zJ zJ W) ?_;refine zrg ?_;refine B 4 ?_;refine zQf ?_;rintro j hj;refine B 7 ?_;refine aG ?_ ?_
 ·intro ah;refine B 9 ?_;refine rq (.int .i64 ((n/2^(cA n-1-j):Nat):Int)) (gY rfl rfl zJ) (vi (IV n _ _ zJ zJ)) ?_;refine rq (.int .i64 (((n/2^(cA n-1-j):Nat):Int)%2)) (sd rfl rfl) (vi (Dd _ (Int.natCast_nonneg _) (Int.lt_of_le_of_lt (Int.ofNat_le.2 (Nat.div_le_self n _)) zJ))) ?_;refine z1g ?_;refine yld (B0 hM (hI ((oK n).take (j+1)))) (B0 hM hX) rfl rfl rfl rfl (λW1 hS=>by have:=hy ((oK n).take j) _ W1 (nSk n j zJ) hS.ghost;rw[<-Xv n j zJ]at this;exact this) rfl rfl rfl rfl ?_ ?_
  ·exact zWj
  refine B 9 ?_;exact OI (.inl rfl) results244 A0 (λA hA=>.inr hA)
 intro ah;refine B 4 ?_;exact OI (.inr rfl) results244 A0 (λA hA=>.inl (by have e:=iV (l:=oK n) (i:=j) (by rw[Xu];omega);rw[e]at hA;exact hA))
theorem ndm(a k:Int)(ha:0<=a)(eO:a<2305843009213688669)(hk:0<=k)(T8:k<9223372036854775808)(w:World):Calls prog 113 #[.int .i64 a,.int .i64 k] w (ay w (.int .i64 (px a k 2305843009213688669))):=by
 refine B1 Gh.no [] (vs:=[_,_]) func113 rfl ntmps113 rfl (uK w) ?_;refine B 2 ?_;refine yX ?_;intro b2 w2 aU aN dY cR cX;refine B 5 ?_;refine aZ zeroValue3 rfl rfl ?_;refine yW ?_;intro b5 iH iI;refine bh (i:=0) rfl sizeOf3 rfl rfl rfl rfl rfl rfl ?_;refine B 5 ?_;refine aZ zeroValue276 rfl rfl ?_;refine yW ?_;intro b6 gV lP;refine bh (i:=0) rfl sizeOf276 rfl rfl rfl rfl rfl rfl ?_;refine B 6 ?_;refine nB (Φ:=λW b w1=>W.heap.size<=b/\w1.heap[b]? =some (.cells #[.int .i64 k] 3 (0,0))) call180 rfl rfl rfl (λW hS=>n5k _ W) ?_;intro Wd bd wd qh OK Xx;obtain⟨IS,mP⟩:=Xx;have OL:=qh.under;simp only[nY,cZ,eB]at OL;have GL:=qh.sizes;replace GL:=yb GL;have Xy:=OK.size;refine B 3 ?_;refine CJ.range (f:=244) (cap:=[ptr bd 0]) (α:=Bool) (enc:=(λx:Bool=>[.bool x])) (xs:=oK k.toNat) (MI:=λ_=>False) (RO:=λk=>k=bd) rfl call244 (λW W2 hS hB=>by have e:(.int .i64 k:Value)= .int .i64 ((k.toNat:Nat):Int):=(by rw[Int.toNat_of_nonneg hk]);exact nhm k.toNat zJ bd W2 (by rw[<-e,hB.block bd Xz];exact hS.old A0 mP zU pz)) (λ_ _ _ hk=>hk.elim) (λW hS k hk=>by subst hk;have:=hS.sizes;simp only[ad]at this;have:=(aT.1 mP).1;refine⟨by omega,by simp only[cZ,eB,eh,iB,cI,fu,or_false,not_or];omega,λh=>h⟩) (λ_=>rfl) (λpre Hc=>Hc=[(b6,.cells #[.func (.func 179) #[] #[ptr b5 0]] 276 (0,0)),(b5,.cells #[.int .i64 (nI a 2305843009213688669 pre 1)] 3 (0,0))]) (λ_ _=>False) rfl (by rintro pre Hc rfl;rfl) (λ_ _ hk=>hk.elim) zO ?_ ?_ ?_
 ·rintro pre x Hc l Dk rec Wy lN qB eC rfl dZ gM GM qC;simp only[ad]at dZ qC;have IT:=Xw a 2305843009213688669 zO pre 1 zO zO;have hX:=Int.emod_nonneg (nI a 2305843009213688669 pre 1*nI a 2305843009213688669 pre 1) (b:=2305843009213688669) zO;have eQ:=Int.emod_lt_of_pos (nI a 2305843009213688669 pre 1*nI a 2305843009213688669 pre 1) (b:=2305843009213688669) zO;refine MQ ?_;refine B 5 ?_;refine zQg ?_;refine B 7 ?_;refine aG ?_ ?_
  ·intro ah;refine B 3 ?_;refine zQg ?_;refine B 2 ?_;exact Ua (Hc:=[(b6,.cells #[.func (.func 179) #[] #[ptr b5 0]] 276 (0,0)),(b5,.cells #[.int .i64 (nI a 2305843009213688669 pre 1*nI a 2305843009213688669 pre 1%2305843009213688669*a%2305843009213688669)] 3 (0,0))]) (λ_ hk=>hk) (by cases rec;simp_all) (by rw[T7,ah];rfl)
  intro ah;refine B 2 ?_;exact Ua (Hc:=[(b6,.cells #[.func (.func 179) #[] #[ptr b5 0]] 276 (0,0)),(b5,.cells #[.int .i64 (nI a 2305843009213688669 pre 1*nI a 2305843009213688669 pre 1%2305843009213688669)] 3 (0,0))]) (λ_ hk=>hk) (by cases rec;simp_all) (by rw[T7,ah];rfl)
 ·rintro l Dk rec Hc dZ gM rfl;replace dZ:=yb dZ;refine B 9 ?_;refine GN (.inl rfl) results113 rfl wW (λW H' hS bO=>⟨?_,?_⟩)
  ·exact congrArg Ending.returned rfl
  exact zfk
 exact λ_ _ _ _ _ _ _ hk=>hk.elim
theorem nco(a:Int)(w:World):Calls prog 69 #[.int .i64 a] w (ay w (kW (mR a))):=by
 refine enter (vs:=[_]) func69 rfl ntmps69 rfl ?_;refine B 11 ?_;refine Da ?_;refine yV ?_;intro b6 w6 MS MT hz6 gV lP;refine call call111 rfl rfl rfl (λW hS=>XC [a] _ _ _ _ _ rfl zX W (hS.old A0 MS MT trivial)) ?_;refine B 3 ?_;refine aG ?_ ?_
 ·intro ah;refine B 1 ?_;have hg:=OO ah;refine B 8 ?_;exact XE
 intro ah;refine B 1 ?_;have hg:=XD ah;refine B 6 ?_;refine aG ?_ ?_
 ·intro aJ;refine B 9 ?_;exact XE
 intro aJ;refine B 6 ?_;refine call call113 rfl rfl rfl (λW hS=>ndm _ _ zJ zJ zJ zJ W) ?_;refine B 5 ?_;exact XE
abbrev jt (x:Int):Prop:=1<=x/\x<2305843009213688669
theorem XF:dy 4:=by decide +kernel
def xe (x:Int):Int×Int:=if jt x then(px 4 x 4611686018427377339,0)else(0,50)
theorem Uk{x:Int}(h:jt x):gExp 4 x=(px 4 x 4611686018427377339,0):=by unfold gExp;rw[if_pos XF,if_pos zJ]
theorem nci(a:Int)(w:World):Calls prog 32 #[.int .i64 a] w (ay w (.bool (decide (jt a)))):=by
 refine enter (vs:=[_]) func32 rfl ntmps32 rfl ?_;refine B 10 ?_;refine nh (t:=5) rfl (λah=>?_) (λah=>?_)
 ·replace ah:=ya ah;refine B 7 ?_;refine ax results32 rfl A0 ?_;refine vb (vW.2 ?_)
  (try simp only[decide_eq_true_eq,Bool.false_eq_true,false_iff,true_iff])
  first|omega|(intro h;omega)
 replace ah:=ya ah;refine B 7 ?_;refine ax results32 rfl A0 ?_;refine vb (vW.2 ?_)
 (try simp only[decide_eq_true_eq,Bool.false_eq_true,false_iff,true_iff])
 first|omega|(intro h;omega)
theorem noh(a:Int)(w:World):Calls prog 33 #[.int .i64 a] w (ay w (.int .i64 (gExp 4 a).1)):=by
 refine enter (vs:=[_]) func33 rfl ntmps33 rfl ?_;refine B 8 ?_;refine call call65 rfl rfl rfl (λW hS=>n3h _ W) ?_;refine B 14 ?_;refine ax results33 rfl A0 ?_;rfl
theorem nyh(a:Int)(w:World):Calls prog 17 #[.int .i64 a] w (ay w (kW (xe a))):=by
 refine enter (vs:=[_]) func17 rfl ntmps17 rfl ?_;refine B 10 ?_;refine call call32 rfl rfl rfl (λW hS=>nci _ W) ?_;refine B 3 ?_;refine aG ?_ ?_
 ·intro ah;refine B 8 ?_;exact zsj
 intro ah;refine B 5 ?_;refine call call33 rfl rfl rfl (λW hS=>noh _ W) ?_;refine B 5 ?_;exact zsj
theorem OP(n:Nat)(h1:1<=n)(h2:n<=31):(IntKind.u64.wrap (-(n:Int)))%32=((32-n:Nat):Int):=by rw[nz];omega
theorem IW(x:BitVec 32)(n:Nat)(h1:1<=n)(h2:n<=31)(w:World):Calls prog 284 #[u32 x,.int .i64 (-(n:Int))] w (ay w (u32 (tN x n))):=by
 refine enter (vs:=[_,_]) func284 rfl ntmps284 rfl ?_;refine B 8 ?_;refine rv rfl rfl rfl (hJ underlying3 underlying189 rfl) ?_;refine rq (.int .u64 ((32-n:Nat):Int)) (lL 5 32 zO rfl rfl rfl rfl (by rw[nz];omega) (by rw[nz];omega)) (vu (OP n h1 h2)) ?_;refine B 7 ?_;refine rv rfl rfl rfl (xf (32-n) zJ rfl rfl rfl) ?_;refine B 2 ?_;refine rq (.int .u64 (n:Int)) (lM rfl rfl zJ zJ) (vu zJ) ?_;refine rv rfl rfl rfl (se n zJ rfl rfl rfl) ?_;refine rv rfl rfl rfl (tO rfl rfl) ?_;refine B 4 ?_;refine ax results284 rfl A0 ?_;exact congrArg u32 (BitVec.or_comm _ _)
theorem nwf(x:BitVec 32)(a b c:Nat)(ha:1<=a)(eO:a<=31)(hb:1<=b)(aQ:b<=31)(hc:1<=c)(ah:c<=31)(w:World):Calls prog 285 #[u32 x,.int .i64 (a:Int),.int .i64 (b:Int),.int .i64 (c:Int)] w (ay w (u32 (tN x a^^^tN x b^^^tN x c))):=by
 refine enter (vs:=[_,_,_,_]) func285 rfl ntmps285 rfl ?_;refine B 9 ?_;refine rv rfl rfl rfl (sf rfl zJ zJ) ?_;refine call call284 rfl rfl rfl (λW hS=>IW _ a zJ zJ W) ?_;refine B 2 ?_;refine rv rfl rfl rfl (sf rfl zJ zJ) ?_;refine call call284 rfl rfl rfl (λW hS=>IW _ b zJ zJ W) ?_;refine rv rfl rfl rfl (sh rfl rfl) ?_;refine B 2 ?_;refine rv rfl rfl rfl (sf rfl zJ zJ) ?_;refine call call284 rfl rfl rfl (λW hS=>IW _ c zJ zJ W) ?_;refine rv rfl rfl rfl (sh rfl rfl) ?_;refine B 4 ?_;refine ax results285 rfl A0 ?_;rfl
def tP (m:Nat->Int):Nat->BitVec 32
 |0=>0
 |n+1=>tP m n<<<8|||BitVec.ofInt 32 (m n)
theorem De(m:Nat->Int):tP m 4=MU m 0:=by
 simp only[tP,MU,BitVec.shiftLeft_or_distrib,<-BitVec.shiftLeft_add,iC];simp
theorem n4l(m:Nat->Int)(b off n c t:Nat)(fr:Nat×Nat)(cs:Array Value)(hn:4<=n)(hc:n<=c)(w:World)(lO:w.heap[b]? =some (.cells cs t fr))(hm:∀i,i<4->cs[off+i]? =some (.int .u8 (m i))):Calls prog 283 #[.slice (some ⟨b,off,none⟩) n c] w (ay w (u32 (MU m 0))):=by
 have r6:¬Gh.no.M b:=λh=>h;refine enter (vs:=[_]) func283 rfl ntmps283 rfl ?_;refine B 9 ?_;refine rv rfl rfl rfl (fM (h:=4) underlying64 sizeOf5 rfl ⟨_,_,rfl,rfl⟩ zJ) ?_;refine B 5 ?_;refine CJ.loop (α:=Nat) (λj=>[(2,u32 (tP m j)),(6,.slice (some ⟨b,off,none⟩) 4 c),(7,.int .i64 4),(8,.int .i64 (j:Int))]) (λj=>[]) (λj=>[w]) (λj=>Gh.no) (λj=>j<=4) (λj=>4-j) 0 zO zR rfl rfl zX ?_;rintro j hj;refine B 6 ?_;refine aG ?_ ?_
 ·intro ah;refine B 7 ?_;refine rv rfl rfl rfl (aa (v:=.int .u8 (m j)) isAgg5 rfl A0 lO r6 trivial (by rw[<-hm j zJ];exact congrArg (λi=>cs[i]?) zJ)) ?_;refine B 5 ?_;refine rv rfl rfl rfl (xf 8 zO rfl rfl rfl) ?_;refine B 1 ?_;refine rv rfl rfl rfl (IX underlying5 underlying229 rfl) ?_;refine rv rfl rfl rfl (tO rfl rfl) ?_;refine B 8 ?_;exact C9
 intro ah;refine B 12 ?_;refine ax results283 rfl A0 ?_;have e:j=4:=by omega
 subst e;exact congrArg u32 (De m)
def pC (cs:Array Value) (off len:Nat) (n:Nat):Nat->Array Value
 |0=>cs
 |i+1=>setCells (pC cs off len n i) (off+(len-1-i)) [.int .u8 ((n/2^(8*i)%256:Nat):Int)]
theorem nWj(cs:Array Value)(off len n:Nat):∀i,(pC cs off len n i).size=cs.size
 |0=>rfl
 |i+1=>by rw[pC,nVd];exact nWj cs off len n i
theorem OQ(n i:Nat)(k:Int)(hk:k=((8*i:Nat):Int))(hi:i<=7):(n:Int).fdiv (2^(min (Int.toNat k) IntKind.u64.bits))%256=((n/2^(8*i)%256:Nat):Int):=by
 rw[wV n (8*i) k hk zJ];omega
theorem n0d(n:Nat)(b off len cap t:Nat)(cs:Array Value)(hlen:len<=8)(iW:off+len<=cs.size)(w:World)(hb:w.heap[b]? =some (.cells cs t (0,0))):Calls prog 238 #[.slice (some ⟨b,off,none⟩) len cap,.int .u64 (n:Int)] w (wX w (.tuple #[]) b (.cells (pC cs off len n len) t (0,0))):=by
 refine nL Gh.no [(b,_)] (vs:=[_,_]) func238 rfl ntmps238 rfl (Ue hb) ?_;refine B 8 ?_;refine CJ.loop (α:=Nat) (λj=>[(0,.slice (some ⟨b,off,none⟩) len cap),(1,.int .u64 (n:Int)),(6,.int .i64 (len:Int)),(7,.int .i64 (j:Int))]) (λj=>[(b,.cells (pC cs off len n j) t (0,0))]) (λj=>[w]) (λj=>Gh.no) (λj=>j<=len) (λj=>len-j) 0 (db _) zR rfl rfl zX ?_;rintro j hj;refine B 6 ?_;refine aG ?_ ?_
 ·intro ah;refine B 20 ?_;refine rv rfl rfl rfl (gY rfl rfl zJ) ?_;refine rq (.int .u8 ((n/2^(8*j)%256:Nat):Int)) (lQ underlying202 underlying5 rfl) (congrArg (Value.int .u8) (OQ n j _ zJ zJ)) ?_;refine rq (ptr b (off+(len-1-j))) (cD underlying64 sizeOf5 rfl rfl zJ zJ) (congrArg (λk=>ptr b (off+k)) zJ) ?_;refine kf (i:=0) rfl sizeOf5 rfl rfl rfl rfl (by rw[nWj];omega) rfl ?_;refine B 7 ?_;exact C9
 intro ah;refine B 4 ?_;have e:j=len:=by omega
 subst e;refine bH (.inr rfl) results238 RS.n (λW hS=>⟨rfl,(hS.links w A0).mono λk _ hk=>?_,hS.own _ A0⟩);simpa[Gh.no]using hk
theorem GQ(n:Nat)(f:Nat->Value)(i k:Nat)(h:k=i)(hi:i<n):(cf n f)[k]? =some (f i):=by subst h;exact GR n f k hi
theorem S8.cells_ld(s:S8)(i k:Nat)(h:k=i)(hi:i<8):s.cells[k]? =some (u32 (s.at i)):=by subst h;exact s.cells_at k hi
theorem xg(m:Nat->Int)(j:Nat)(v:BitVec 32)(hv:v=if j<16 then MU m (4*j)else ei m j (j-16)+s0 (ei m j (j-15))+ei m j (j-7)+s1 (ei m j (j-2))):setCells (cf 64 (λi=>u32 (ei m j i))) j (u32 v).cells.toList=cf 64 (λi=>u32 (ei m (j+1) i)):=by
 show setCells (cf 64 (λi=>u32 (ei m j i))) j [u32 v]=_;rw[OR];congr 1;funext i;simp only[ei,B3];split<;>simp_all
def mS (s v:S8) (j:Nat):Array Value:=cf 8 (λk=>u32 (if k<j then s.at k+v.at k else s.at k))
theorem nyo(s v:S8)(j:Nat):setCells (mS s v j) j (u32 (s.at j+v.at j)).cells.toList=mS s v (j+1):=by
 show setCells (cf 8 _) j [u32 (s.at j+v.at j)]=_;rw[OR];unfold mS;congr 1;funext i;simp only[B3];by_cases h:i=j
 ·subst h;simp
 by_cases h2:i<j
 ·simp[h,h2,show i<j+1 by omega]
 simp[h,h2,show ¬i<j+1 by omega]
theorem IY(s v:S8):mS s v 8=(s.add v).cells:=rfl
theorem Df(s v:S8)(j k:Nat)(h:k=j)(hj:j<8):(mS s v j)[k]? =some (u32 (s.at j)):=by
 rw[mS,GQ 8 _ j k h hj];simp
theorem nWd(s:S8)(m:Nat->Int)(b bb off n c t:Nat)(fr si:Nat×Nat)(t3:Nat)(cs:Array Value)(hn:64<=n)(hc:n<=c)(w:World)(hb:w.heap[b]? =some (.cells s.cells 336 (0,0)))(xh:w.heap[bb]? =some (.cells cs t fr))(hm:∀i,i<64->cs[off+i]? =some (.int .u8 (m i)))(dn:bb≠b)(hg:w.heap[4]? =some (.cells (cf 64 (λi=>u32 (kk i))) t3 si))(OT:b≠4):Calls prog 237 #[ptr b 0,.slice (some ⟨bb,off,none⟩) n c] w (wX w (.tuple #[]) b (.cells (s.comp m).cells 336 (0,0))):=by
 have OU:=(aT.1 xh).1;have jf:=(aT.1 hb).1;have Ul:=(aT.1 hg).1;refine nL Gh.no [(b,_)] (vs:=[_,_]) func237 rfl ntmps237 rfl (Ue hb) ?_;refine B 2 ?_;refine aZ zeroValue375 rfl rfl ?_;refine yW ?_;intro b4 dO dU;refine B 9 ?_;refine CJ.loop (α:=Nat) (λj=>[(0,ptr b 0),(1,.slice (some ⟨bb,off,none⟩) n c),(4,ptr b4 0),(14,.int .i64 (j:Int))]) (λj=>[(b4,.cells (cf 64 (λi=>u32 (ei m j i))) 375 (0,0)),(b,.cells s.cells 336 (0,0))]) (λj=>[w]) (λj=>Gh.no) (λj=>j<=16) (λj=>16-j) 0 zO zR rfl rfl zX ?_;rintro j hj;refine B 6 ?_;refine aG ?_ ?_
 ·intro ah;refine B 15 ?_;refine rv rfl rfl rfl (gO (l:=4*j) (h:=n) (off':=off+4*j) underlying64 sizeOf5 rfl ⟨_,_,rfl,by omega⟩ rfl zJ zJ (by rw[if_neg zJ];omega)) ?_;refine call call283 rfl rfl rfl (λW hS=>n4l (λi=>m (4*j+i)) _ _ _ _ _ _ _ zJ zJ W (hS.old A0 xh zU pz) (λi hi=>by rw[Nat.add_assoc];exact hm _ zJ)) ?_;refine z4f ?_;refine B 7 ?_;refine PJ.reH (H':=[(b4,.cells (cf 64 (λi=>u32 (ei m (j+1) i))) 375 (0,0)),(b,.cells s.cells 336 (0,0))]) (by rw[<-xg m j (MU (λi=>m (4*j+i)) 0) (by rw[if_pos zJ];rfl)];rfl) ?_;exact C9
 intro ah;refine B 12 ?_;have e:j=16:=by omega
 subst e;refine CJ.loop (α:=Nat) (λj=>[(0,ptr b 0),(4,ptr b4 0),(6,.int .i64 (j:Int))]) (λj=>[(b4,.cells (cf 64 (λi=>u32 (ei m j i))) 375 (0,0)),(b,.cells s.cells 336 (0,0))]) (λj=>[w]) (λj=>Gh.no) (λj=>16<=j/\j<=64) (λj=>64-j) 16 zO zR rfl rfl zX ?_;rintro j ⟨XG,hj⟩;refine B 7 ?_;refine aG ?_ ?_
 ·intro aJ;refine B 5 ?_;refine ng (E':=[(0,_),(4,_),(6,_),(25,_),(26,_)]) zR ?_;refine nl 9 [.det [] _,.det [0] _,.det [1] _,.det [2] _,.det [] _,.det [4] _,.det [5] _,.det [6] _,.det [3] _] zQ (xc zN (xc Dg (xc MV (xc (by exact λaf=>X.val rfl rfl (aK (v:=u32 (ei m j (j-15))) (i:=0) rfl isAgg229 rfl (GQ 64 (λi=>u32 (ei m j i)) (j-15) _ zJ zJ)) (λ_ _=>rfl)) (xc zN (xc Dg (xc MV (xc (by exact λaf=>X.val rfl rfl (aK (v:=u32 (ei m j (j-2))) (i:=0) rfl isAgg229 rfl (GQ 64 (λi=>u32 (ei m j i)) (j-2) _ zJ zJ)) (λ_ _=>rfl)) (xc (by exact λaf=>X.val rfl rfl (jz rfl) (λ_ _=>rfl)) (xn)))))))))) zQ zQ zQ (λaf=>?_);refine B 3 ?_;refine ng (E':=[(0,_),(4,_),(6,_),(7,_),(8,_),(25,_),(26,_),(29,_),(30,_),(31,_),(32,_),(33,_),(34,_),(35,_),(36,_)]) zR ?_;refine nl 28 [.det [] _,.det [] _,.det [1] _,.det [2] _,.det [3] _,.det [] _,.det [5] _,.det [] _,.det [7] _,.det [6,8] _,.det [] _,.det [10] _,.det [9,11] _,.det [4,12] _,.det [] _,.det [14] _,.det [15] _,.det [16] _,.det [13,17] _,.det [] _,.det [19] _,.det [] _,.det [21] _,.det [20,22] _,.det [] _,.det [24] _,.det [23,25] _,.det [18,26] _] zQ (xc zN (xc zN (xc Dg (xc MV (xc (by exact λaf=>X.val rfl rfl (aK (v:=u32 (ei m j (j-16))) (i:=0) rfl isAgg229 rfl (GQ 64 (λi=>u32 (ei m j i)) (j-16) _ zJ zJ)) (λ_ _=>rfl)) (xc zN (xc (by exact λaf=>nf call284 rfl rfl (λW hS _=>IW _ 7 zO zO W) (λ_=>rfl)) (xc zN (xc (by exact λaf=>nf call284 rfl rfl (λW hS _=>IW _ 18 zO zO W) (λ_=>rfl)) (xc MW (xc zN (xc (by exact λaf=>X.val rfl rfl (se 3 zO rfl rfl rfl) (λ_ _=>rfl)) (xc MW (xc IZ (xc zN (xc Dg (xc MV (xc (by exact λaf=>X.val rfl rfl (aK (v:=u32 (ei m j (j-7))) (i:=0) rfl isAgg229 rfl (GQ 64 (λi=>u32 (ei m j i)) (j-7) _ zJ zJ)) (λ_ _=>rfl)) (xc IZ (xc zN (xc (by exact λaf=>nf call284 rfl rfl (λW hS _=>IW _ 17 zO zO W) (λ_=>rfl)) (xc zN (xc (by exact λaf=>nf call284 rfl rfl (λW hS _=>IW _ 19 zO zO W) (λ_=>rfl)) (xc MW (xc zN (xc (by exact λaf=>X.val rfl rfl (se 10 zO rfl rfl rfl) (λ_ _=>rfl)) (xc MW (xc IZ (xn))))))))))))))))))))))))))))) zQ zQ zQ (λaf=>?_)
  refine z4f ?_;refine B 8 ?_;refine PJ.reH (H':=[(b4,.cells (cf 64 (λi=>u32 (ei m (j+1) i))) 375 (0,0)),(b,.cells s.cells 336 (0,0))]) (by rw[<-xg m j _ (by rw[if_neg zJ])];rfl) ?_;exact C9
 intro aJ;refine B 10 ?_;refine aZ zeroValue336 rfl rfl ?_;refine yW ?_;intro b9 qD I0;refine bh (i:=0) rfl sizeOf336 rfl rfl rfl rfl rfl rfl ?_;refine B 9 ?_;have e:j=64:=by omega
 subst e;obtain⟨ws,hX⟩:∃ws,ws=ei m 64:=⟨_,rfl⟩;refine CJ.reH (H':=[(b9,.cells s.cells 336 (0,0)),(b4,.cells (cf 64 (λi=>u32 (ws i))) 375 (0,0)),(b,.cells s.cells 336 (0,0))]) (by rw[hX];rfl) ?_;refine CJ.loop (α:=Nat) (λj=>[(0,ptr b 0),(4,ptr b4 0),(9,ptr b9 0),(69,.int .i64 (j:Int))]) (λj=>[(b9,.cells (S8.run ws s j).cells 336 (0,0)),(b4,.cells (cf 64 (λi=>u32 (ws i))) 375 (0,0)),(b,.cells s.cells 336 (0,0))]) (λj=>[w]) (λj=>Gh.no) (λj=>j<=64) (λj=>64-j) 0 zO zR rfl rfl zX ?_;rintro j hj;dsimp only;generalize hv:S8.run ws s j=v;refine B 6 ?_;refine aG ?_ ?_
 ·intro cO;refine B 11 ?_;refine ng (E':=[(0,_),(4,_),(9,_),(10,_),(69,_),(70,_),(71,_)]) zR ?_;refine nl 25 [.det [] _,.det [0] _,.det [] _,.det [2] _,.det [3] _,.det [1,4] _,.det [] _,.det [6] _,.det [] _,.det [8] _,.det [] _,.det [10] _,.det [] _,.det [12] _,.det [11,13] _,.det [9,14] _,.det [7,15] _,.det [5,16] _,.det [] _,.det [18] _,.det [19] _,.det [17,20] _,.det [] _,.det [22] _,.det [23] _] zQ (xc tQ (xc vX (xc tQ (xc vX (xc (by exact λaf=>nf call285 rfl rfl (λW hS _=>nwf _ 6 11 25 zO zO zO zO zO zO W) (λ_=>rfl)) (xc IZ (xc tQ (xc vX (xc tQ (xc vX (xc tQ (xc vX (xc tQ (xc vX (xc MW (xc XH (xc MW (xc IZ (xc zN (xc MV (xc (by exact λaf=>X.val rfl rfl (aa (v:=u32 (kk j)) isAgg229 rfl A0 hg zU pz (GQ 64 (λi=>u32 (kk i)) j _ zJ zJ)) (λ_ _=>rfl)) (xc IZ (xc zN (xc MV (xc (by exact λaf=>X.val rfl rfl (aK (v:=u32 (ws j)) (i:=1) rfl isAgg229 rfl (GQ 64 (λi=>u32 (ws i)) j _ zJ zJ)) (λ_ _=>rfl)) (xn)))))))))))))))))))))))))) zQ zQ zQ (λaf=>?_);refine rv rfl rfl rfl (pD rfl rfl) ?_;refine B 4 ?_;refine ng (E':=[(0,_),(4,_),(9,_),(10,_),(11,_),(69,_),(70,_),(71,_),(72,_),(73,_),(74,_),(75,_),(76,_),(77,_),(78,_),(79,_),(80,_),(81,_),(82,_),(83,_),(84,_),(85,_),(86,_),(87,_),(88,_),(89,_),(90,_),(91,_),(92,_),(93,_),(94,_),(95,_),(96,_),(97,_)]) zR ?_
  refine nl 17 [.det [] _,.det [0] _,.det [1] _,.det [] _,.det [3] _,.det [] _,.det [5] _,.det [4,6] _,.det [] _,.det [8] _,.det [] _,.det [10] _,.det [] _,.det [12] _,.det [11,13] _,.det [9,14] _,.det [7,15] _] zQ (xc tQ (xc vX (xc (by exact λaf=>nf call285 rfl rfl (λW hS _=>nwf _ 2 13 22 zO zO zO zO zO zO W) (λ_=>rfl)) (xc tQ (xc vX (xc tQ (xc vX (xc XH (xc tQ (xc vX (xc tQ (xc vX (xc tQ (xc vX (xc (by exact λaf=>X.val rfl rfl (tO rfl rfl) (λ_ _=>rfl)) (xc XH (xc (by exact λaf=>X.val rfl rfl (tO rfl rfl) (λ_ _=>rfl)) (xn)))))))))))))))))) zQ zQ zQ (λaf=>?_);refine rv rfl rfl rfl (pD rfl rfl) ?_;refine B 4 ?_;refine ng (E':=[(0,_),(4,_),(9,_),(10,_),(11,_),(12,_),(69,_),(70,_),(71,_),(72,_),(73,_),(74,_),(75,_),(76,_),(77,_),(78,_),(79,_),(80,_),(81,_),(82,_),(83,_),(84,_),(85,_),(86,_),(87,_),(88,_),(89,_),(90,_),(91,_),(92,_),(93,_),(94,_),(95,_),(96,_),(97,_),(98,_),(99,_),(100,_),(101,_),(102,_),(103,_),(104,_),(105,_),(106,_),(107,_),(108,_),(109,_),(110,_),(111,_),(112,_),(113,_),(114,_),(115,_)]) zR ?_;refine nl 2 [.det [] _,.det [] _] zQ (xc (by exact λaf=>X.val rfl rfl (xi (l:=1) underlying336 sizeOf229 rfl ⟨_,_,rfl,rfl⟩ rfl zJ zJ (by rw[if_neg zJ])) (λ_ _=>rfl)) (xc (by exact λaf=>X.val rfl rfl (kg (h:=7) underlying336 sizeOf229 rfl ⟨_,_,rfl,rfl⟩ zJ) (λ_ _=>rfl)) (xn))) zQ zQ zQ (λaf=>?_)
  refine Um (i:=0) (n:=7) rfl underlying379 sizeOf229 rfl rfl rfl rfl (λ_=>rfl) zO (Rd.own (i:=0) rfl (bj rfl) rfl) (bj rfl) rfl ?_;refine B 3 ?_;refine CJ.reH (H':=[(b9,.cells #[u32 v.a,u32 v.a,u32 v.b,u32 v.c,u32 v.d,u32 v.e,u32 v.f,u32 v.g] 336 (0,0)),(b4,.cells (cf 64 (λi=>u32 (ws i))) 375 (0,0)),(b,.cells s.cells 336 (0,0))]) rfl ?_;refine B 4 ?_;refine zai ?_;refine B 5 ?_;refine zai ?_;refine B 7 ?_;refine PJ.reH (H':=[(b9,.cells (S8.run ws s (j+1)).cells 336 (0,0)),(b4,.cells (cf 64 (λi=>u32 (ws i))) 375 (0,0)),(b,.cells s.cells 336 (0,0))]) (by simp only[S8.run,hv,S8.step,S8.P,S8.Q,<-Dh,<-Dj];rfl) ?_;exact C9
 intro cO;refine B 11 ?_;have e:j=64:=by omega
 subst e;refine CJ.loop (α:=Nat) (λj=>[(0,ptr b 0),(9,ptr b9 0),(129,.int .i64 (j:Int))]) (λj=>[(b9,.cells v.cells 336 (0,0)),(b4,.cells (cf 64 (λi=>u32 (ws i))) 375 (0,0)),(b,.cells (mS s v j) 336 (0,0))]) (λj=>[w]) (λj=>Gh.no) (λj=>j<=8) (λj=>8-j) 0 zO zR rfl rfl zX ?_;rintro j hj;refine B 6 ?_;refine aG ?_ ?_
 ·intro gL;refine B 10 ?_;refine ng (E':=[(0,_),(9,_),(13,_),(129,_),(130,_),(131,_)]) zR ?_;refine nl 10 [.det [] _,.det [] _,.det [0] _,.det [1,2] _,.det [3] _,.det [] _,.det [5] _,.det [6] _,.det [4,7] _,.det [0] _] zQ (xc zN (xc zN (xc Dl (xc tQ (xc (by exact λaf=>X.val rfl rfl (aK (v:=u32 (s.at j)) (i:=2) rfl isAgg229 rfl (Df s v j _ zJ zJ)) (λ_ _=>rfl)) (xc zN (xc tQ (xc (by exact λaf=>X.val rfl rfl (aK (v:=u32 (v.at j)) (i:=0) rfl isAgg229 rfl (S8.cells_ld _ j _ zJ zJ)) (λ_ _=>rfl)) (xc IZ (xc Dl (xn))))))))))) zQ zQ zQ (λaf=>?_);refine rq (ptr b j) (kh underlying336 sizeOf229 rfl rfl zJ zJ) (congrArg (ptr b) zJ) ?_;refine kf (i:=2) rfl sizeOf229 rfl rfl rfl rfl (by rw[mS,xj];omega) rfl ?_;refine B 7 ?_;refine PJ.reH (H':=[(b9,.cells v.cells 336 (0,0)),(b4,.cells (cf 64 (λi=>u32 (ws i))) 375 (0,0)),(b,.cells (mS s v (j+1)) 336 (0,0))]) (by rw[<-nyo];rfl) ?_;exact C9
 intro gL;refine B 4 ?_;have e:j=8:=by omega
 subst e;rw[show(s.comp m).cells=mS s v 8 from by rw[IY,S8.comp,<-hX,hv]];refine bH (.inr rfl) results237 RS.n (λW hS=>⟨rfl,(hS.links w A0).mono λk hk hx=>?_,hS.own _ A2⟩);simp only[Gh.no,eh,iB,cI,fu,or_false,false_or]at hx;omega
theorem OV:prog.info? 5=some Tryz.t5:=by kernel_rfl
theorem xk(N:Nat)(g:Nat->Value):∀(news:List Value) (f:Nat->Value) (off:Nat),(∀i,i<news.length->news[i]? =some (g (off+i)))->setCells (cf N f) off news=cf N (λi=>if off<=i/\i<off+news.length then g i else f i)
 | [],f,off,_=>by
  show cf N f=_;apply MX;intro i _;rw[if_neg (by simp only[mT];omega)]
 |v::vs,f,off,h=>by
  have h0:=h 0 zX;simp only[GS,qE,Nat.add_zero]at h0;show setCells (setCells (cf N f) off [v]) (off+1) vs=_;rw[OR,xk N g vs _ (off+1) (λi hi=>by
   have:=h (i+1) jB;simp only[xm]at this;rw[this];congr 2;omega)]
  apply MX;intro i _;simp only[dQ,B3];by_cases h1:i=off
  ·subst h1;rw[if_neg zJ,if_pos rfl,if_pos zJ,h0]
  by_cases h2:off+1<=i/\i<off+1+vs.length
  ·rw[if_pos h2,if_pos zJ]
  rw[if_neg h2,if_neg h1,if_neg zJ]
theorem XI(N:Nat)(f:Nat->Value)(off len n:Nat):∀k,k<=len->pC (cf N f) off len n k=cf N (λi=>if off+(len-k)<=i/\i<off+len then .int .u8 ((n/2^(8*(off+len-1-i))%256:Nat):Int)else f i)
 |0,_=>by
  show cf N f=_;apply MX;intro i _;rw[if_neg zJ]
 |k+1,hk=>by
  rw[pC,XI N f off len n k zJ,OR];apply MX;intro i _;simp only[B3];by_cases h1:i=off+(len-1-k)
  ·rw[if_pos h1,if_pos zJ,show off+len-1-i=k by omega]
  rw[if_neg h1];by_cases h2:off+(len-k)<=i/\i<off+len
  ·rw[if_pos h2,if_pos zJ]
  rw[if_neg h2,if_neg zJ]
theorem OW(f:Nat->Int):cf 32 (λk=>.int .u8 (f k))=dg f:=rfl
variable {cs:Array Value}
theorem ndn{o r:Nat}{m:Nat->Int}(h:o+r<=cs.size)(hm:∀i,i<r->cs[o+i]? =some (.int .u8 (m i))):∀i,i<((cs.toList.drop o).take (r*1)).length->((cs.toList.drop o).take (r*1))[i]? =some (.int .u8 (m i)):=by
 intro i hi;have XJ:i<r:=by simp at hi;omega
 rw[I2 zJ,uL,vY,hm i XJ]
theorem XK{o r:Nat}(h:o+r<=cs.size):((cs.toList.drop o).take (r*1)).length=r:=by simp;omega
theorem nTm{m:Nat->Int}:∀(l:List Value),(∀i,i<l.length->l[i]? =some (.int .u8 (m i)))->nT l=true
 | [],_=>rfl
 |v::l,h=>by
  have h0:=h 0 zX;simp at h0;subst h0;simp only[nT,sj,Bool.true_and];exact nTm (m:=λi=>m (i+1)) l λi hi=>by have:=h (i+1) jB;simpa using this
def lR (n:Nat) (m:Nat->Int) (j N i:Nat):Value:=if(N-8)+(8-8)<=i/\i<(N-8)+8 then .int .u8 ((8*n/2^(8*((N-8)+8-1-i))%256:Nat):Int)else B3 (λi=>if 0<=i/\i<0+(n-64*j)then .int .u8 (m (64*j+i))else .int .u8 0) (n-64*j) (.int .u8 128) i
theorem nZl(n:Nat)(m:Nat->Int)(j N:Nat):pC (setCells (cf 128 (λi=>if 0<=i/\i<0+(n-64*j)then .int .u8 (m (64*j+i))else .int .u8 0)) (n-64*j) [.int .u8 128]) (N-8) 8 (8*n) 8=cf 128 (lR n m j N):=by
 rw[OR,XI 128 _ _ 8 _ 8 (ao _)];rfl
theorem nTl(n:Nat)(m:Nat->Int)(j N i:Nat)(hj:64*j<=n)(hN:64*(ea n-j)=N)(hr:n-64*j<64)(hi:i<N):lR n m j N i= .int .u8 (sk n m (64*j+i)):=by
 have hb:ea n=j+N/64:=by unfold ea at *;omega
 have hN8:N=64\/N=128:=by unfold ea at hN;omega
 have hrN:n-64*j+9<=N:=by unfold ea at hN;omega
 simp only[lR,sk,B3];by_cases h1:i<n-64*j
 ·rw[if_neg zJ,if_neg zJ,if_pos zJ,if_pos zJ]
 rw[if_neg (show ¬64*j+i<n by omega)];by_cases h2:i=n-64*j
 ·rw[if_neg zJ,if_pos h2,if_pos zJ]
 rw[if_neg (show ¬64*j+i=n by omega)];by_cases h3:i<N-8
 ·rw[if_neg zJ,if_neg h2,if_neg zJ,if_pos zJ]
 rw[if_pos zJ,if_neg zJ,show 64*ea n-1-(64*j+i)=N-8+8-1-i by omega];congr 1
def hQ (s:S8) (i:Nat):Array Value:=cf 32 (λk=>.int .u8 (if k<4*i then xp s k else 0))
theorem nFj(s:S8)(i:Nat)(hi:i<8):pC (hQ s i) (4*i) 4 (s.at i).toNat 4=hQ s (i+1):=by
 unfold hQ;rw[XI 32 _ (4*i) 4 _ 4 (ao _)];apply MX;intro k hk;by_cases h:k<4*i
 ·rw[if_neg zJ,if_pos h,if_pos zJ]
 by_cases h2:k<4*i+4
 ·rw[if_pos zJ,if_pos zJ];unfold xp;rw[show k/4=i by omega,show 24-8*(k%4)=8*(4*i+4-1-k) by omega]
 rw[if_neg zJ,if_neg h,if_neg zJ]
theorem I3(s:S8):hQ s 8=dg (xp s):=by
 rw[<-OW];unfold hQ;apply MX;intro k hk;rw[if_pos zJ]
theorem Dm(n:Nat)(m:Nat->Int)(i:Nat)(h:i<n):sk n m i=m i:=by unfold sk;rw[if_pos h]
theorem n6h(n:Nat)(m:Nat->Int)(bb off c t t2 t3:Nat)(fr ql si:Nat×Nat)(cs:Array Value)(hc:n<=c)(hn:n<1152921504606846976)(w:World)(xh:w.heap[bb]? =some (.cells cs t fr))(lS:off+n<=cs.size)(hm:∀i,i<n->cs[off+i]? =some (.int .u8 (m i)))(GU:w.heap[0]? =some (.cells S8.init.cells t2 ql))(hg:w.heap[4]? =some (.cells (cf 64 (λi=>u32 (kk i))) t3 si)):Calls prog 170 #[.slice (some ⟨bb,off,none⟩) n c] w (ay w (.agg (dg (rF n m)))):=by
 have OU:=(aT.1 xh).1;have XL:=(aT.1 GU).1;have Ul:=(aT.1 hg).1;refine enter (vs:=[_]) func170 rfl ntmps170 rfl ?_;refine B 2 ?_;refine uM ?_;refine yW ?_;intro b2 cR cX;refine B 4 ?_;refine rv rfl rfl rfl (ae isAgg335 sizeOf335 rfl A0 GU zU pz rfl) ?_;refine aZ zeroValue336 rfl rfl ?_;refine yW ?_;intro b3 cd cP;refine bh (i:=0) rfl sizeOf336 rfl rfl rfl rfl rfl rfl ?_;refine B 4 ?_;refine OY ?_;refine B 11 ?_;refine CJ.loop (α:=Nat×Nat) (λp=>[(0,.slice (some ⟨bb,off,none⟩) n c),(2,ptr b2 0),(3,ptr b3 0),(4,.func (.func 237) #[ptr b3 0] #[]),(5,.slice (some ⟨bb,p.2,none⟩) (n-64*p.1) (c-64*p.1))]) (λp=>[(b3,.cells (mU n m p.1).cells 336 (0,0)),(b2,.cells #[.int .u8 0,.int .u8 0,.int .u8 0,.int .u8 0,.int .u8 0,.int .u8 0,.int .u8 0,.int .u8 0,.int .u8 0,.int .u8 0,.int .u8 0,.int .u8 0,.int .u8 0,.int .u8 0,.int .u8 0,.int .u8 0,.int .u8 0,.int .u8 0,.int .u8 0,.int .u8 0,.int .u8 0,.int .u8 0,.int .u8 0,.int .u8 0,.int .u8 0,.int .u8 0,.int .u8 0,.int .u8 0,.int .u8 0,.int .u8 0,.int .u8 0,.int .u8 0] 34 (0,0))]) (λp=>[w]) (λp=>Gh.no) (λp=>64*p.1<=n/\(64*p.1<c->p.2=off+64*p.1)/\p.2<=off+64*p.1) (λp=>n-64*p.1) (0,off) dG zR rfl rfl zX ?_;rintro⟨j,o⟩ ⟨hj,ho,gZ⟩;dsimp only at hj ho gZ ⊢;refine B 8 ?_;refine aG ?_ ?_
 ·intro ah;refine B 7 ?_;refine rv rfl rfl rfl (fM (h:=64) underlying64 sizeOf5 rfl ⟨_,_,rfl,rfl⟩ zJ) ?_;refine MR (f:=237) (i:=0) (first:=[ptr b3 0]) (cap:=[]) rfl rfl call237 rfl rfl rfl (λW hS hW=>nWd (mU n m j) (λi=>sk n m (64*j+i)) b3 bb o 64 (c-64*j) t fr si t3 cs zJ zJ W hW (hS.old A0 xh zU pz) (λi hi=>by rw[Dm n m _ zJ,<-hm _ zJ];exact congrArg (λk=>cs[k]?) (by have:=ho zJ;omega)) zJ (hS.old A0 hg zU pz) zJ) ?_;refine B 5 ?_;refine rv rfl rfl rfl (gO (l:=64) (h:=n-64*j) underlying64 sizeOf5 rfl ⟨_,_,rfl,rfl⟩ rfl zJ zJ rfl) ?_;refine B 2 ?_;refine PJ.again (j+1,if c-64*j=64 then o else o+64*1) (by dsimp only;split<;>omega) dG ⟨rfl,rfl,rfl,rfl,by rw[show n-64*(j+1)=n-64*j-64 by omega,show c-64*(j+1)=c-64*j-64 by omega];rfl,trivial⟩ rfl rfl zX
 intro ah;refine B 7 ?_;refine OZ (ln:=64) (cp:=128) underlying64 OV rfl rfl rfl rfl rfl rfl rfl zJ zO zJ ?_;refine yW ?_;intro oM aeK aeL;refine B 4 ?_;have hmr:∀i,i<n-64*j->cs[o+i]? =some (.int .u8 (m (64*j+i))):=λi hi=>by rw[<-hm _ zJ];exact congrArg (λk=>cs[k]?) (by have:=ho zJ;omega)
 refine B 3 ?_;refine Um (i:=0) (n:=n-64*j) rfl underlying64 sizeOf5 rfl rfl rfl rfl (λ_=>rfl) zJ (Rd.old A0 xh zU pz zJ rfl) (by rw[XK zJ,xj];omega) (nTm _ (ndn (m:=λi=>m (64*j+i)) zJ hmr)) ?_;refine B 3 ?_;refine CJ.reH (H':=[(oM,.cells (cf 128 (λi=>if 0<=i/\i<0+(n-64*j)then .int .u8 (m (64*j+i))else .int .u8 0)) 5 (0,0)),(b3,.cells (mU n m j).cells 336 (0,0)),(b2,.cells #[.int .u8 0,.int .u8 0,.int .u8 0,.int .u8 0,.int .u8 0,.int .u8 0,.int .u8 0,.int .u8 0,.int .u8 0,.int .u8 0,.int .u8 0,.int .u8 0,.int .u8 0,.int .u8 0,.int .u8 0,.int .u8 0,.int .u8 0,.int .u8 0,.int .u8 0,.int .u8 0,.int .u8 0,.int .u8 0,.int .u8 0,.int .u8 0,.int .u8 0,.int .u8 0,.int .u8 0,.int .u8 0,.int .u8 0,.int .u8 0,.int .u8 0,.int .u8 0] 34 (0,0))]) (by rw[<-XK (cs:=cs) (o:=o) (r:=n-64*j) zJ,<-xk 128 (λi=>.int .u8 (m (64*j+i))) _ _ 0 (by intro i hi;rw[iC];exact ndn (m:=λi=>m (64*j+i)) zJ hmr i hi),XK zJ];rfl) ?_;refine B 4 ?_;refine rq (ptr oM (n-64*j)) (cD underlying64 sizeOf5 rfl rfl zJ zJ) (congrArg (ptr oM) zJ) ?_;refine kf (i:=0) rfl sizeOf5 rfl rfl rfl rfl (by rw[xj];omega) rfl ?_;refine B 10 ?_;refine aG ?_ ?_
 ·intro aJ;refine B 2 ?_;refine rv rfl rfl rfl (fM (h:=128) underlying64 sizeOf5 rfl ⟨_,_,rfl,rfl⟩ zJ) ?_;refine B 4 ?_;obtain⟨N,hN,hNN⟩:∃N,N=128/\64*(ea n-j)=N:=⟨128,rfl,by unfold ea;omega⟩;refine B 5 ?_;refine rv rfl rfl rfl (gO (l:=120) (h:=128) (off':=120) underlying64 sizeOf5 rfl ⟨_,_,rfl,rfl⟩ rfl zJ zJ rfl) ?_;refine B 3 ?_;refine zxf ?_;refine OJ.reH (H':=[(oM,.cells (cf 128 (lR n m j N)) 5 (0,0)),(b3,.cells (mU n m j).cells 336 (0,0)),(b2,.cells #[.int .u8 0,.int .u8 0,.int .u8 0,.int .u8 0,.int .u8 0,.int .u8 0,.int .u8 0,.int .u8 0,.int .u8 0,.int .u8 0,.int .u8 0,.int .u8 0,.int .u8 0,.int .u8 0,.int .u8 0,.int .u8 0,.int .u8 0,.int .u8 0,.int .u8 0,.int .u8 0,.int .u8 0,.int .u8 0,.int .u8 0,.int .u8 0,.int .u8 0,.int .u8 0,.int .u8 0,.int .u8 0,.int .u8 0,.int .u8 0,.int .u8 0,.int .u8 0] 34 (0,0))]) (by subst hN;rw[<-nZl];rfl) ?_;refine B 4 ?_;refine CJ.loop (α:=Nat×Nat) (λp=>[(2,ptr b2 0),(3,ptr b3 0),(4,.func (.func 237) #[ptr b3 0] #[]),(6,.slice (some ⟨oM,p.2,none⟩) (N-64*p.1) (128-64*p.1))]) (λp=>[(oM,.cells (cf 128 (lR n m j N)) 5 (0,0)),(b3,.cells (mU n m (j+p.1)).cells 336 (0,0)),(b2,.cells #[.int .u8 0,.int .u8 0,.int .u8 0,.int .u8 0,.int .u8 0,.int .u8 0,.int .u8 0,.int .u8 0,.int .u8 0,.int .u8 0,.int .u8 0,.int .u8 0,.int .u8 0,.int .u8 0,.int .u8 0,.int .u8 0,.int .u8 0,.int .u8 0,.int .u8 0,.int .u8 0,.int .u8 0,.int .u8 0,.int .u8 0,.int .u8 0,.int .u8 0,.int .u8 0,.int .u8 0,.int .u8 0,.int .u8 0,.int .u8 0,.int .u8 0,.int .u8 0] 34 (0,0))]) (λp=>[w]) (λp=>Gh.no) (λp=>64*p.1<=N/\(64*p.1<128->p.2=64*p.1)) (λp=>N-64*p.1) (0,0) dG ⟨rfl,rfl,rfl,by subst hN;rfl,trivial⟩ rfl rfl zX ?_
  rintro⟨k,o2⟩ ⟨hk,cX⟩;dsimp only at hk cX ⊢;refine B 8 ?_;refine aG ?_ ?_
  ·intro cO;exact zVi
  intro cO;refine B 13 ?_;have XM:j+k=ea n:=by unfold ea at *;omega
  rw[XM];refine z6e ?_;rintro i hi;refine B 6 ?_;refine aG ?_ ?_
  ·intro gL;exact zvj
  intro gL;exact z7i
 intro aJ;refine B 3 ?_;obtain⟨N,hN,hNN⟩:∃N,N=64/\64*(ea n-j)=N:=⟨64,rfl,by unfold ea;omega⟩;refine B 5 ?_;refine rv rfl rfl rfl (gO (l:=56) (h:=64) (off':=56) underlying64 sizeOf5 rfl ⟨_,_,rfl,rfl⟩ rfl zJ zJ rfl) ?_;refine B 3 ?_;refine zxf ?_;refine OJ.reH (H':=[(oM,.cells (cf 128 (lR n m j N)) 5 (0,0)),(b3,.cells (mU n m j).cells 336 (0,0)),(b2,.cells #[.int .u8 0,.int .u8 0,.int .u8 0,.int .u8 0,.int .u8 0,.int .u8 0,.int .u8 0,.int .u8 0,.int .u8 0,.int .u8 0,.int .u8 0,.int .u8 0,.int .u8 0,.int .u8 0,.int .u8 0,.int .u8 0,.int .u8 0,.int .u8 0,.int .u8 0,.int .u8 0,.int .u8 0,.int .u8 0,.int .u8 0,.int .u8 0,.int .u8 0,.int .u8 0,.int .u8 0,.int .u8 0,.int .u8 0,.int .u8 0,.int .u8 0,.int .u8 0] 34 (0,0))]) (by subst hN;rw[<-nZl];rfl) ?_;refine B 4 ?_;refine CJ.loop (α:=Nat×Nat) (λp=>[(2,ptr b2 0),(3,ptr b3 0),(4,.func (.func 237) #[ptr b3 0] #[]),(6,.slice (some ⟨oM,p.2,none⟩) (N-64*p.1) (128-64*p.1))]) (λp=>[(oM,.cells (cf 128 (lR n m j N)) 5 (0,0)),(b3,.cells (mU n m (j+p.1)).cells 336 (0,0)),(b2,.cells #[.int .u8 0,.int .u8 0,.int .u8 0,.int .u8 0,.int .u8 0,.int .u8 0,.int .u8 0,.int .u8 0,.int .u8 0,.int .u8 0,.int .u8 0,.int .u8 0,.int .u8 0,.int .u8 0,.int .u8 0,.int .u8 0,.int .u8 0,.int .u8 0,.int .u8 0,.int .u8 0,.int .u8 0,.int .u8 0,.int .u8 0,.int .u8 0,.int .u8 0,.int .u8 0,.int .u8 0,.int .u8 0,.int .u8 0,.int .u8 0,.int .u8 0,.int .u8 0] 34 (0,0))]) (λp=>[w]) (λp=>Gh.no) (λp=>64*p.1<=N/\(64*p.1<128->p.2=64*p.1)) (λp=>N-64*p.1) (0,0) dG ⟨rfl,rfl,rfl,by subst hN;rfl,trivial⟩ rfl rfl zX ?_
 rintro⟨k,o2⟩ ⟨hk,cX⟩;dsimp only at hk cX ⊢;refine B 8 ?_;refine aG ?_ ?_
 ·intro gv;exact zVi
 intro gv;refine B 13 ?_;have XM:j+k=ea n:=by unfold ea at *;omega
 rw[XM];refine z6e ?_;rintro i hi;refine B 6 ?_;refine aG ?_ ?_
 ·intro je;exact zvj
 intro je;exact z7i
theorem xq(n:Nat)(h0:0<n)(h1:n<=1099511627776)(w:World):Calls prog 239 #[.slice none 0 0,.int .i64 (n:Int)] w (cJ w (λp:Nat×Nat=>.slice (some ⟨p.1,0,none⟩) 0 p.2) (λp w1=>w.heap.size<=p.1/\n<=p.2/\w1.heap[p.1]? =some (.cells (cf p.2 (λ_=>.int .u8 0)) 5 (0,0)))):=by
 refine enter (vs:=[_,_]) func239 rfl ntmps239 rfl ?_;refine B 9 ?_;refine tR ?_;refine B 14 ?_;refine rq (.int .i64 (n:Int)) (gz rfl rfl zJ zJ) (vi zJ) ?_;refine B 6 ?_;refine O0 ?_;refine B 7 ?_;refine rv rfl rfl rfl (O1 underlying64 sizeOf5 rfl ⟨_,_,rfl,rfl⟩) ?_;refine B 1 ?_;refine XN underlying64 underlying3 OV rfl rfl rfl rfl rfl rfl rfl rfl h0 h1 ?_;intro b22 cap O2 aeM aeN;replace O2:=yb O2;refine B 2 ?_;refine rv rfl rfl rfl (fM (h:=0) underlying64 sizeOf5 rfl ⟨_,_,rfl,rfl⟩ zJ) ?_;refine B 10 ?_;exact bH (.inl rfl) results239 (RS.t rfl RS.n) (λW hS=>⟨(b22,cap),rfl,hS.base A0 uN,by omega,by omega,hS.own _ A0⟩)
def XO (ss:List qm):Array Value:=(ss.map qm.val).toArray
theorem n7h(ss:List qm)(j k:Nat)(h:k=j)(hj:j<ss.length):(XO ss)[k]? =some ss[j].val:=by subst h;simp[XO,hj]
theorem nIl(ss:List qm)(b0 c0 t0:Nat)(fk:Nat×Nat)(hk:ss.length<1000)(h0:0<(nN ss).length)(h1:(nN ss).length<=1099511627776)(w:World)(lO:w.heap[b0]? =some (.cells (XO ss) t0 fk))(hss:∀s∈ss,s.At w):Calls prog 171 #[.slice (some ⟨b0,0,none⟩) ss.length c0] w (cJ w (λp:Nat×Nat×List Value=>.slice (some ⟨p.1,0,none⟩) (nN ss).length p.2.1) (λp w1=>w.heap.size<=p.1/\((nN ss).length<=p.2.1/\p.2.2.length=p.2.1-(nN ss).length)/\w1.heap[p.1]? =some (.cells (nN ss++p.2.2).toArray 5 (0,0)))):=by
 have aeO:=(aT.1 lO).1;refine enter (vs:=[_]) func171 rfl ntmps171 rfl ?_;refine B 19 ?_;refine CJ.loop (α:=Nat) (λj=>[(0,.slice (some ⟨b0,0,none⟩) ss.length c0),(3,.int .i64 (((nN (ss.take j)).length:Nat):Int)),(9,.slice (some ⟨b0,0,none⟩) ss.length c0),(10,.int .i64 (ss.length:Int)),(11,.int .i64 (j:Int))]) (λj=>[]) (λj=>[w]) (λj=>Gh.no) (λj=>j<=ss.length) (λj=>ss.length-j) 0 (db _) zR rfl rfl zX ?_;rintro j hj;have mE:=nig ss (j+1);have I4:∀h:j<ss.length,(nN (ss.take (j+1))).length=(nN (ss.take j)).length+(ss[j]).n:=λh=>by rw[XP ss j h,cK];exact congrArg (_+ ·) (uO _ _)
 refine B 6 ?_;refine aG ?_ ?_
 ·intro ah;refine B 5 ?_;have B4:j<ss.length:=by omega
  have XQ:=I4 B4;refine B 2 ?_;refine rv rfl rfl rfl (aa (v:=(ss[j]'zJ).val) isAgg64 rfl A0 lO zU trivial (n7h ss j _ zJ zJ)) ?_;refine B 8 ?_;refine rq (.int .i64 (((nN (ss.take (j+1))).length:Nat):Int)) (pE rfl rfl zJ zJ) (vi zJ) ?_;refine B 6 ?_;refine tR ?_;refine B 10 ?_;exact C9
 intro ah;refine B 6 ?_;have e:j=ss.length:=by omega
 subst e;rw[iV (ao _)];refine B 2 ?_;refine Un (bo:=λp:Nat×Nat=>(p.1,.cells (cf p.2 (λ_=>.int .u8 0)) 5 (0,0))) (Φ:=λp=>(nN ss).length<=p.2) call239 rfl rfl rfl (λW hS=>xq _ h0 h1 W) ?_;rintro⟨bg,cg⟩ hag hog dt;simp only[ad]at hag dt;refine B 12 ?_;refine CJ.loop (α:=Nat×Nat×Nat×List Value) (λp=>[(6,.slice (some ⟨p.2.1,0,none⟩) (nN (ss.take p.1)).length p.2.2.1),(25,.slice (some ⟨b0,0,none⟩) ss.length c0),(26,.int .i64 (ss.length:Int)),(27,.int .i64 (p.1:Int))]) (λp=>[(p.2.1,.cells (nN (ss.take p.1)++p.2.2.2).toArray 5 (0,0))]) (λp=>[w]) (λp=>Gh.no) (λp=>p.1<=ss.length/\w.heap.size<=p.2.1/\(nN (ss.take p.1)).length<=p.2.2.1/\p.2.2.2.length=p.2.2.1-(nN (ss.take p.1)).length) (λp=>ss.length-p.1) (0,bg,cg,(List.range cg).map (λ_=>.int .u8 0)) ⟨db _,hag.1,db _,by simp[nN]⟩ zR rfl rfl zX ?_;rintro⟨j,b,cap,sp⟩ ⟨hj,h2,h3,h4⟩;dsimp only at hj h2 h3 h4 ⊢;have mE:=nig ss (j+1);have I4:∀h:j<ss.length,(nN (ss.take (j+1))).length=(nN (ss.take j)).length+(ss[j]).n:=λh=>by rw[XP ss j h,cK];exact congrArg (_+ ·) (uO _ _)
 refine B 6 ?_;refine aG ?_ ?_
 ·intro aJ;refine B 5 ?_;have B4:j<ss.length:=by omega
  have XQ:=I4 B4;refine B 2 ?_;refine rv rfl rfl rfl (aa (v:=(ss[j]'zJ).val) isAgg64 rfl A0 lO zU pz (n7h ss j _ zJ zJ)) ?_;refine B 3 ?_;obtain⟨csj,tj,frj,MY,hso,B5⟩:=hss (ss[j]'zJ) (OM _);have aeP:=(aT.1 MY).1;refine B 3 ?_;refine O3 (i:=0) (m:=1) (ys:=nN (ss.take j)) (sp:=sp) (news:=(ss[j]'zJ).l) (n:=(ss[j]'zJ).n) rfl underlying64 OV rfl rfl rfl rfl rfl rfl rfl (jh.sl underlying64 (Rd.old A0 MY zU pz zJ (XR zJ B5)) (by rw[sm];exact uO _ _) (xr _ _)) zJ zJ h3 ⟨h2,trivial⟩ zJ (by show _*1<=_;omega) ?_;intro b' aP bG O4 O5 jC;simp only[ad]at O4;refine B 8 ?_;refine PJ.reH (H':=[(b',.cells (nN (ss.take (j+1))++bG).toArray 5 (0,0))]) (by rw[XP ss j zJ];rfl) ?_;refine PJ.again (j+1,b',aP,bG) ⟨by dsimp only;omega,O4.1,by dsimp only;rw[I4 zJ];exact O5,by dsimp only;rw[I4 zJ];omega⟩ dG ⟨by rw[I4 zJ];rfl,rfl,rfl,rfl,trivial⟩ rfl rfl zX
 intro aJ;refine B 12 ?_;have e:j=ss.length:=by omega
 subst e;rw[iV (ao _)]at h3 h4 ⊢;exact bH (.inl rfl) results171 (RS.t rfl RS.n) (λW hS=>⟨(b,cap,sp),rfl,hS.base A0 uN,h2,⟨h3,h4⟩,hS.own _ A0⟩)
def uP (n:Nat) (m m':Nat->Int) (i:Nat):Int:=if i<n then m i else m' (i-n)
theorem nro(n n':Nat)(m m':Nat->Int):iK n m++iK n' m'=iK (n+n') (uP n m m'):=by
 apply tS;intro i;by_cases h:i<n
 ·rw[vZ (by rw[uO];exact h)];simp[iK,h,show i<n+n' by omega,uP]
 rw[B6 (by rw[uO];omega),uO];by_cases h2:i<n+n'
 ·simp[iK,h2,show i-n<n' by omega,uP,h]
 rw[so (by rw[uO];omega),so (by rw[uO];omega)]
theorem Dn(n:Nat)(m:Nat->Int)(sp:List Value)(i:Nat)(h:i<n):((iK n m++sp).toArray)[0+i]? =some (.int .u8 (m i)):=by
 rw[iC,B7,vZ (by rw[uO];exact h)];simp[iK,h]
def tagged (s:ByteArray) (n:Nat) (m:Nat->Int):Nat->Int:=rF (32+n) (uP 32 (rF s.size (sB s)) m)
theorem ngg(s:ByteArray)(n:Nat)(m:Nat->Int)(bb off c t t2 t3:Nat)(fr ql si:Nat×Nat)(cs:Array Value)(hs0:s.size<1000)(hc:n<=c)(hn:n<1000000000000)(w:World)(xh:w.heap[bb]? =some (.cells cs t fr))(lS:off+n<=cs.size)(hm:∀i,i<n->cs[off+i]? =some (.int .u8 (m i)))(GU:w.heap[0]? =some (.cells S8.init.cells t2 ql))(hg:w.heap[4]? =some (.cells (cf 64 (λi=>u32 (kk i))) t3 si)):Calls prog 108 #[.string s,.slice (some ⟨bb,off,none⟩) n c] w (ay w (.agg (dg (tagged s n m)))):=by
 have OU:=(aT.1 xh).1;have XL:=(aT.1 GU).1;have Ul:=(aT.1 hg).1;refine enter (vs:=[_,_]) func108 rfl ntmps108 rfl ?_;refine B 2 ?_;refine uM ?_;refine yW ?_;intro b4 dO dU;refine B 5 ?_;refine O6 underlying9 underlying64 underlying5 rfl rfl rfl ?_;intro b7 XS w7 cs7 fr7 Uo gd oN Up hz7 iU aeQ hs7;replace gd:=yb gd;try simp only[bD,ne_eq]at oN
 refine call call170 rfl rfl rfl (λW hS=>n6h s.size (sB s) b7 0 XS _ _ _ _ _ _ cs7 zJ zJ W (hS.old A0 Uo Up pz) zJ hs7 (hS.old A1 GU zU pz) (hS.old A1 hg zU pz)) ?_;refine uM ?_;refine yW ?_;intro b5 iH iI;refine MZ ?_;refine B 3 ?_;have aH:(nN [⟨b5,0,32,32,rF s.size (sB s)⟩,⟨bb,off,n,c,m⟩]).length=32+n:=by simp[nN,qm.l,uO]
 have O7:∀W,W.heap[b5]? =some (.cells (dg (rF s.size (sB s))) 34 (0,0))->W.heap[bb]? =some (.cells cs t fr)->∀x∈([⟨b5,0,32,32,rF s.size (sB s)⟩,⟨bb,off,n,c,m⟩]:List qm),x.At W:=λW h1 h2 x hx=>by
  simp only[cI,fu,or_false]at hx;rcases hx with rfl|rfl
  ·exact⟨_,_,_,h1,ao 32,λi hi=>by rw[iC];exact oL _ i hi⟩
  exact⟨_,_,_,h2,lS,hm⟩
 refine B 1 ?_;refine O8 ?_;refine B 1 ?_;refine Dp underlying339 sizeOf64 zeroValue64 rfl rfl rfl rfl rfl rfl rfl ?_;refine yV ?_;intro rG Uq XT XU aeR I5 I6;refine Un (bo:=λp:Nat×Nat×List Value=>(p.1,.cells (nN [⟨b5,0,32,32,rF s.size (sB s)⟩,⟨bb,off,n,c,m⟩]++p.2.2).toArray 5 (0,0))) (Φ:=λp=>(nN [⟨b5,0,32,32,rF s.size (sB s)⟩,⟨bb,off,n,c,m⟩]).length<=p.2.1/\p.2.2.length=p.2.1-(nN [⟨b5,0,32,32,rF s.size (sB s)⟩,⟨bb,off,n,c,m⟩]).length) call171 rfl rfl rfl (λW hS=>nIl [⟨b5,0,32,32,rF s.size (sB s)⟩,⟨bb,off,n,c,m⟩] rG 2 _ _ zX (by rw[aH];omega) (by rw[aH];omega) W (hS.old A0 XT XU pz) (O7 W (hS.own _ A0) (hS.old A2 xh zU pz))) ?_;rintro⟨bc,cc,spc⟩ hac hoc ⟨hcc,O9⟩;replace hac:=yb hac;dsimp only at hcc O9;rw[aH]at hcc O9;refine OJ.re (v':=.slice (some ⟨bc,0,none⟩) (32+n) cc) (by show Value.slice _ (nN _).length _=_;rw[aH]) ?_;refine OJ.reH (H':=[(bc,.cells (iK (32+n) (uP 32 (rF s.size (sB s)) m)++spc).toArray 5 (0,0)),(b5,.cells (dg (rF s.size (sB s))) 34 (0,0)),(b4,.cells #[.int .u8 0,.int .u8 0,.int .u8 0,.int .u8 0,.int .u8 0,.int .u8 0,.int .u8 0,.int .u8 0,.int .u8 0,.int .u8 0,.int .u8 0,.int .u8 0,.int .u8 0,.int .u8 0,.int .u8 0,.int .u8 0,.int .u8 0,.int .u8 0,.int .u8 0,.int .u8 0,.int .u8 0,.int .u8 0,.int .u8 0,.int .u8 0,.int .u8 0,.int .u8 0,.int .u8 0,.int .u8 0,.int .u8 0,.int .u8 0,.int .u8 0,.int .u8 0] 34 (0,0))]) (by rw[<-nro];simp only[nN,qm.l,dH];rfl) ?_
 refine call call170 rfl rfl rfl (λW hS=>n6h (32+n) (uP 32 (rF s.size (sB s)) m) bc 0 cc _ _ _ _ _ _ _ zJ zJ W (hS.own _ A0) (by simp only[qF,cK,uO];omega) (λi hi=>Dn _ _ _ i hi) (hS.old A2 GU zU pz) (hS.old A2 hg zU pz)) ?_;refine bh (i:=2) rfl sizeOf34 rfl rfl rfl rfl rfl rfl ?_;refine B 3 ?_;refine bF (.inl rfl) results108 (RS.wA (i:=2) rfl isAgg34 sizeOf34 rfl (bj rfl) (RS.n)) A2 zP ?_;rfl
def xt (s:ByteArray) (n:Nat) (m:Nat->Int):Int:=1+B2 2305843009213688668 (qj (tagged s n m)) 0
theorem nji(s:ByteArray)(n:Nat)(m:Nat->Int):iJ (tagged s n m):=Dq _ _
theorem n3k(s:ByteArray)(n:Nat)(m:Nat->Int)(bb off c t t2 t3:Nat)(fr ql si:Nat×Nat)(cs:Array Value)(hs0:s.size<1000)(hc:n<=c)(hn:n<1000000000000)(w:World)(xh:w.heap[bb]? =some (.cells cs t fr))(lS:off+n<=cs.size)(hm:∀i,i<n->cs[off+i]? =some (.int .u8 (m i)))(GU:w.heap[0]? =some (.cells S8.init.cells t2 ql))(hg:w.heap[4]? =some (.cells (cf 64 (λi=>u32 (kk i))) t3 si)):Calls prog 110 #[.string s,.slice (some ⟨bb,off,none⟩) n c] w (ay w (.int .i64 (xt s n m))):=by
 have hB:=nji s n m;have IT:=XA 2305843009213688668 zO (qj (tagged s n m)) 0 zO zO;refine enter (vs:=[_,_]) func110 rfl ntmps110 rfl ?_;refine B 9 ?_;refine call call108 rfl rfl rfl (λW hS=>ngg s n m bb off c _ _ _ _ _ _ cs hs0 hc hn W (hS.old A0 xh zU trivial) lS hm (hS.old A0 GU zU trivial) (hS.old A0 hg zU trivial)) ?_;refine call call174 rfl rfl rfl (λW hS=>nRn _ hB _ zO zO W) ?_;refine B 6 ?_;refine ax results110 rfl A0 ?_;rfl




theorem bt:tT prog 64 5:=⟨underlying64,underlying5,⟨_,OV,rfl,rfl,rfl⟩,sizeOf5⟩
theorem I7(n:Int)(h1: -9223372036854775808<=n)(h2:n<=9223372036854775807):IntKind.u64.wrap (BitVec.ofInt 64 (IntKind.u64.wrap (IntKind.u64.wrap n*2))^^^BitVec.ofInt 64 (IntKind.u64.wrap (n/9223372036854775808))).toNat=(Dr n:Int):=by
 simp only[nz];unfold Dr;by_cases h:0<=n
 ·rw[if_pos h,show n/9223372036854775808=0 by omega];have:(0:Int)%18446744073709551616=0:=by decide
  rw[this,show n%18446744073709551616*2%18446744073709551616=2*n by omega];have e:BitVec.ofInt 64 0=0#64:=rfl;rw[e,BitVec.xor_zero,BitVec.toNat_ofInt];omega
 rw[if_neg h,show n/9223372036854775808= -1 by omega];have:(-1:Int)%18446744073709551616=18446744073709551615:=by decide
 rw[this,show n%18446744073709551616*2%18446744073709551616=2*n+18446744073709551616 by omega];have e:BitVec.ofInt 64 18446744073709551615=BitVec.allOnes 64:=by decide
 rw[e,BitVec.xor_allOnes,BitVec.toNat_not,BitVec.toNat_ofInt];omega
theorem xu(n:Int)(h1: -9223372036854775808<=n)(h2:n<=9223372036854775807):Dr n<18446744073709551616:=by unfold Dr;split<;>omega
theorem Pa(u:Nat):IntKind.u8.wrap (BitVec.ofInt IntKind.u8.bits ((u:Int)%256)|||BitVec.ofInt IntKind.u8.bits 128).toNat=((UInt8.ofNat (u%128+128)).toNat:Int):=by
 have key:∀v:BitVec 8,(v|||128#8).toNat=(v.toNat%128+128):=by decide
 have e:BitVec.ofInt IntKind.u8.bits 128=128#8:=rfl;rw[e];have e2:(BitVec.ofInt 8 ((u:Int)%256)).toNat=u%256:=by rw[BitVec.toNat_ofInt];omega
 have:=key (BitVec.ofInt 8 ((u:Int)%256));rw[e2]at this;show IntKind.u8.wrap (BitVec.ofInt 8 ((u:Int)%256)|||128#8).toNat=_;rw[this,ngl];simp only[UInt8.toNat_ofNat'];omega
theorem Dt(u:Nat)(h:u<256):((u:Int)%256)=((UInt8.ofNat u).toNat:Int):=by
 simp only[UInt8.toNat_ofNat'];omega
theorem nqj(n:Int)(h1: -9223372036854775808<=n)(h2:n<=9223372036854775807)(w:World):Calls prog 234 #[.int .i64 n] w (ay w (.int .u64 (Dr n:Int))):=by
 refine enter (vs:=[_]) func234 rfl ntmps234 rfl ?_;refine B 8 ?_;refine rv rfl rfl rfl (hJ underlying3 underlying202 rfl) ?_;refine rv rfl rfl rfl (wY 1 2 zO rfl rfl rfl) ?_;refine B 1 ?_;refine rv rfl rfl rfl (fK 63 9223372036854775808 zO rfl rfl rfl) ?_;refine rv rfl rfl rfl (hJ underlying3 underlying202 rfl) ?_;refine rv rfl rfl rfl (sq rfl rfl) ?_;refine B 4 ?_;refine ax results234 rfl A0 ?_;exact vu (I7 n h1 h2)
theorem Ur(xs:List UInt8)(u:Nat)(hu:u<18446744073709551616)(b cap:Nat)(sp:List Value)(pF:cy xs cap sp)(gA:xs.length<=900000000000)(w:World)(hb:w.heap[b]? =some (aV 5 xs sp)):Calls prog 233 #[aW b xs.length cap,.int .u64 (u:Int)] w (I8 w b 5 (xs++num u)):=by
 have jf:=(aT.1 hb).1;have aeS:=B8 hu;refine nL (vs:=[_,_]) (Gh.lent (· =b)) [(b,aV 5 xs sp)] func233 rfl ntmps233 rfl (xv hb) ?_;refine B 7 ?_;refine CJ.loop (α:=List UInt8×Nat×Nat×Nat×List Value) (λp=>[(0,aW p.2.2.1 p.1.length p.2.2.2.1),(1,.int .u64 (p.2.1:Int))]) (λp=>[(p.2.2.1,aV 5 p.1 p.2.2.2.2)]) (λp=>[w]) (λp=>Gh.lent (· =b)) (λp=>xs++num u=p.1++num p.2.1/\p.2.1<18446744073709551616/\Fr (Gh.lent (· =b)) [w] p.2.2.1/\cy p.1 p.2.2.2.1 p.2.2.2.2) (λp=>p.2.1) (xs,u,b,cap,sp) ⟨rfl,hu,.inl rfl,pF⟩ ⟨rfl,rfl,trivial⟩ rfl rfl zX ?_;rintro⟨ys,v,b1,c1,Us⟩ ⟨hinv,hv,hf,hr⟩;dsimp only at hinv hv hf hr ⊢;have su:(ys++num v).length<=900000000010:=by rw[<-hinv,cK];omega
 have mV:=Du v;rw[cK]at su;refine B 7 ?_;refine aG ?_ ?_
 ·intro ah;refine B 7 ?_;refine rv rfl rfl rfl (lQ underlying202 underlying5 rfl) ?_;refine rq (.int .u8 ((UInt8.ofNat (v%128+128)).toNat:Int)) (tL rfl rfl) (congrArg (Value.int .u8) (Pa v)) ?_;refine M1 [UInt8.ofNat (v%128+128)] bt zeroValue5 rfl rfl rfl rfl rfl rfl rfl rfl rfl ?_;intro b13 Dv I9 aeT aeU;replace Dv:=yb Dv;replace I9:=yd I9;refine GV (i:=1) (xs:=ys) (zs:=[UInt8.ofNat (v%128+128)]) (sp:=Us) rfl bt rfl rfl rfl rfl (gS.own (i:=0) underlying64 rfl) hr hf v7 ?_;intro b14 c14 s14 Pb XV;have Pc:=Pb;replace Pc:=ye Pc;refine OJ.dropF (i:=0) rfl (.inr ⟨Dv.1,trivial⟩) ?_;refine B 6 ?_;refine rq (.int .u64 ((v/128:Nat):Int)) (fK 7 128 zO rfl rfl rfl) (vu zJ) ?_;refine B 2 ?_;refine PJ.again (ys++[UInt8.ofNat (v%128+128)],v/128,b14,c14,s14) ⟨by dsimp only;rw[hinv,XW zJ,iX];rfl,by dsimp only;omega,Pb,XV⟩ dG ⟨rfl,rfl,trivial⟩ rfl rfl zX
 intro ah;refine B 9 ?_;refine rq (.int .u8 ((UInt8.ofNat v).toNat:Int)) (lQ underlying202 underlying5 rfl) (congrArg (Value.int .u8) (Dt v zJ)) ?_;refine M1 [UInt8.ofNat v] bt zeroValue5 rfl rfl rfl rfl rfl rfl rfl rfl rfl ?_;intro b18 sw Dw XX Pd;replace sw:=yb sw;replace Dw:=yd Dw;refine GV (i:=1) (xs:=ys) (zs:=[UInt8.ofNat v]) (sp:=Us) rfl bt rfl rfl rfl rfl (gS.own (i:=0) underlying64 rfl) hr hf v7 ?_;intro b19 c19 s19 Pe XY;have Pf:=Pe;replace Pf:=ye Pf;refine OJ.dropF (i:=0) rfl (.inr ⟨sw.1,trivial⟩) ?_;refine B 4 ?_;rw[hinv,Pg zJ];exact Ut (i:=0) (.inl rfl) results233 rfl rfl A0 (by simp only[iY,cZ,eB,pG,qG,and_true];simp only[Fr,Gh.lent,ad]at Pe;omega) XY
variable {C:Cx} {E:Env} {G:Gh} {H:ab} {L:List World} {T:Nat} {x:Operand}
theorem Ja{U:Nat}{y:Operand}(hx:ev E x=some (.string ⟨#[]⟩))(hy:ev E y=some (.string ⟨#[]⟩)):RV C G L H E (.binOp .eql T x y U) (.bool true):=
 RV.re (sx hx hy) (vb zX)
def Dx (N:Nat) (w:World) (base:Option Addr) (l:List V):Prop:=∀i (h:i<l.length),∃bl cs t fr,base=some ⟨bl,0,none⟩/\bl<N/\w.heap[bl]? =some (.cells cs t fr)/\4*i+4<=cs.size/\∃a1 a2 p3 n3 c3,cut cs (4*i) 4=#[.int .i64 (l[i]).kind,.int .i64 a1,.string a2,.slice p3 n3 c3]/\dM N w l[i] (.agg #[.int .i64 (l[i]).kind,.int .i64 a1,.string a2,.slice p3 n3 c3])
variable {N:Nat} {v:Value}
theorem dM.list{w:World}{l:List V}(h:dM N w (.list l) v):∃base cap,v=vL base l.length cap/\l.length<=cap/\Dx N w base l:=by
 simp only[dM]at h;obtain⟨base,cap,hv,hc,hl⟩:=h;refine⟨base,cap,hv,hc,λi hi=>?_⟩;rcases hl with rfl|⟨b,cs,t,fr,hb,hlt,hcs,hs⟩
 ·simp at hi
 obtain⟨h1,h2⟩:=hs.get i hi;rw[iC]at h1 h2;obtain⟨a1,a2,p3,n3,c3,hsh⟩:=h2.shape;rw[hsh]at h2;exact⟨b,cs,t,fr,hb,hlt,hcs,h1,a1,a2,p3,n3,c3,by injection hsh,h2⟩
def nGk (x:V):Prop:=∀(N:Nat) (w:World) (v:Value),N<=w.heap.size->dM N w x v->x.fine->Calls prog 231 #[v] w (ay w (.tuple #[.int .i64 (x.depth:Int),.bool true]))
theorem nBn(n:Int)(w:World):Calls prog 231 #[vI n] w (ay w (.tuple #[.int .i64 0,.bool true])):=by
 refine XZ ?_;refine yV ?_;intro b1 w1 aQ aX gb eO gZ;refine B 13 ?_;refine BY ?_;refine B 5 ?_;refine nh (t:=21) rfl (λah=>?_) (λah=>?_)
 ·replace ah:=ya ah;refine B 9 ?_;refine nh (t:=30) rfl (λaJ=>?_) (λaJ=>?_)
  ·replace aJ:=ya aJ;refine B 5 ?_;exact M3
  replace aJ:=ya aJ;refine B 5 ?_;exact M3
 replace ah:=ya ah;refine B 9 ?_;refine nh (t:=30) rfl (λcO=>?_) (λcO=>?_)
 ·replace cO:=ya cO;refine B 5 ?_;exact M3
 replace cO:=ya cO;refine B 5 ?_;exact M3
theorem nvm(x:ByteArray)(w:World):Calls prog 231 #[vT x] w (ay w (.tuple #[.int .i64 0,.bool true])):=by
 refine XZ ?_;refine yV ?_;intro b1 w1 aQ aX gb eO gZ;refine B 8 ?_;refine rv rfl rfl rfl (sx rfl rfl) ?_;refine B 1 ?_;refine nh (t:=12) rfl (λah=>?_) (λah=>?_)
 ·replace ah:=ya ah;refine B 3 ?_;refine BY ?_;refine B 3 ?_;refine zMh ?_;refine B 2 ?_;exact M3
 replace ah:=ya ah;refine B 7 ?_;refine zMh ?_;refine B 2 ?_;exact M3
theorem n8l(l:List V)(ih:∀y∈l,nGk y)(cB:(V.list l).fine)(N:Nat)(base:Option Addr)(cap:Nat)(w:World)(hN:N<=w.heap.size)(oO:Dx N w base l):Calls prog 231 #[vL base l.length cap] w (ay w (.tuple #[.int .i64 ((V.depthL l+1:Nat):Int),.bool true])):=by
 simp only[V.fine]at cB;obtain⟨sy,uQ,Jb⟩:=cB;refine XZ ?_;refine yV ?_;intro b1 w1 aQ aX gb eO gZ;refine B 17 ?_;refine BY ?_;refine B 8 ?_;refine BY ?_;refine B 6 ?_;refine ztg ?_;refine yW ?_;intro b4 dO dU;refine zqf ?_;refine B 7 ?_;refine tR ?_;refine B 3 ?_;refine Jc ?_;refine B 18 ?_;refine tR ?_;refine B 15 ?_;refine CJ.dropAt (i:=0) rfl ⟨by omega,by omega,trivial⟩ ?_;refine CJ.loop (α:=Nat) (λi=>[(1,ptr b1 0),(2,.int .i64 ((V.depthL (l.take i):Nat):Int)),(55,.slice base l.length cap),(56,.int .i64 (l.length:Int)),(57,.int .i64 (i:Int))]) (λi=>[]) (λi=>[w1,w]) (λi=>Gh.no) (λi=>i<=l.length/\V.depthL (l.take i)<=1000000000) (λi=>l.length-i) 0 ⟨db _,by simp[V.depthL]⟩ zR rfl rfl zX ?_;rintro i ⟨hi,hdi⟩;refine B 6 ?_;refine aG ?_ ?_
 ·intro ah;refine B 5 ?_;obtain⟨bl,cs,te,fre,rfl,jf,hcs,hcz,a1,a2,p3,n3,c3,qH,rH⟩:=oO i zJ;have xw:=(aT.1 hcs).1;obtain⟨y,hy⟩:∃y,l[i]'zJ=y:=⟨_,rfl⟩;rw[hy]at qH rH;have Dy:y∈l:=hy▸OM _;refine B 2 ?_;refine rq (.agg #[.int .i64 y.kind,.int .i64 a1,.string a2,.slice p3 n3 c3]) (ai isAgg149 sizeOf149 rfl A1 hcs zU trivial zJ) (va (by rw[<-qH];congr 1;omega)) ?_;refine xx ?_;refine yW ?_;intro b6 gV lP;refine Uu ?_;refine B 5 ?_;refine call call231 rfl rfl rfl (λW hS=>ih y Dy N W _ (aR hN (hS.links _ A1).size) (dM.up (ao _) (hS.same A1 hN zS (by first|exact True.intro|(simp only[Over,cZ,eB,and_true];omega))) _ _ rH) (V.fineL_mem Jb y Dy)) ?_;refine B 20 ?_;refine rv rfl rfl rfl (xy rfl rfl) ?_;refine B 8 ?_;refine PJ.dropAt (i:=0) rfl ⟨by omega,by omega,trivial⟩ ?_;refine PJ.again (i+1) ⟨by omega,by have h1:=V.depthL_take l i zJ;rw[hy]at h1;have h2:=V.depthL_mem y Dy;omega⟩ zJ ⟨rfl,congrArg some (vi (by rw[V.depthL_take l i zJ,hy];omega)),rfl,rfl,rfl,trivial⟩ rfl rfl zX
 intro ah;refine B 14 ?_;refine nS results231 rfl rfl A1 ?_ ?_
 ·have e:i=l.length:=by omega
  subst e;rw[iV (ao _)];rfl
 rfl
theorem nbo:∀x,nGk x:=by
 refine V.ind ?_ ?_ ?_
 ·intro n N w v _ hv _;simp only[dM]at hv;subst hv;exact nBn n w
 ·intro s N w v _ hv _;simp only[dM]at hv;subst hv;exact nvm s w
 intro l ih N w v hN hv hf;obtain⟨base,cap,rfl,hc,oO⟩:=hv.list;exact n8l l ih hf N base cap w hN oO
theorem nbm(x:V)(n1:Int)(s2:ByteArray)(p3:Option Addr)(n3 c3:Nat)(cB:x.fine)(hd:x.depth<=16)(N:Nat)(w:World)(hN:N<=w.heap.size)(rH:dM N w x (.agg #[.int .i64 x.kind,.int .i64 n1,.string s2,.slice p3 n3 c3])):Calls prog 168 #[.agg #[.int .i64 x.kind,.int .i64 n1,.string s2,.slice p3 n3 c3]] w (ay w (.int .i64 0)):=by
 refine enter (vs:=[_]) func168 rfl ntmps168 rfl ?_;refine B 2 ?_;refine yX ?_;intro b1 w1 aQ aX gb eO gZ;refine B 5 ?_;refine rv rfl rfl rfl (ae isAgg149 sizeOf149 rfl A0 aQ aX trivial rfl) ?_;refine call call231 rfl rfl rfl (λW hS=>nbo x N W _ (aR hN (hS.links _ A1).size) (dM.up (ao _) (hS.same A1 hN zS (by first|exact True.intro|(simp only[Over,cZ,eB,and_true];omega))) _ _ rH) cB) ?_;refine B 20 ?_;refine Jc ?_;refine B 13 ?_;refine ax results168 rfl A1 ?_;rfl
def V.fn:V->Nat
 | .int _=>232
 | .text _=>235
 | .list _=>236
def V.cap (bv:Nat):V->List Value
 | .list _=>[ptr bv 0]
 |_=>[]
def Dz (bv:Nat):Array Value:=#[.nilFunc,.func (.func 232) #[] #[],.func (.func 235) #[] #[],.func (.func 236) #[] #[ptr bv 0]]
theorem xz(bv:Nat)(x:V)(k:Nat)(hk:(k:Int)=x.kind):(Dz bv)[k]? =some (.func (.func x.fn) #[] (x.cap bv).toArray):=by
 cases x<;>simp only[V.kind]at hk
 ·have:k=1:=by omega
  subst this;rfl
 ·have:k=2:=by omega
  subst this;rfl
 have:k=3:=by omega
 subst this;rfl
theorem V.kind_bd(x:V):1<=x.kind/\x.kind<=3:=by cases x<;>simp[V.kind]
structure Wr (N:Nat) (w:World) (bv bw:Nat):Prop where
 ltv:bv<N
 ltw:bw<N
 atv:w.heap[bv]? =some (.cells #[ptr bw 0] 264 (0,0))
 atw:w.heap[bw]? =some (.cells (Dz bv) 332 (0,0))
variable {N':Nat} {w':World}
theorem Wr.up{w:World}{bv bw:Nat}(h:Wr N w bv bw)(hN:N<=N')(hw:∀k,k<N->w'.heap[k]? =w.heap[k]?):Wr N' w' bv bw:=
 ⟨by have:=h.ltv;omega,by have:=h.ltw;omega,(hw _ h.ltv).trans h.atv,(hw _ h.ltw).trans h.atw⟩
theorem nbi(w:World):Calls prog 169 #[] w (cJ w (λp:Nat×Nat=>ptr p.1 0) (λp w1=>w.heap.size<=p.1/\w.heap.size<=p.2/\w1.heap[p.2]? =some (.cells #[ptr p.1 0] 264 (0,0))/\w1.heap[p.1]? =some (.cells (Dz p.2) 332 (0,0)))):=by
 refine enter (vs:=[]) func169 rfl ntmps169 rfl ?_;refine B 8 ?_;refine Pj rfl rfl rfl ?_;refine yW ?_;intro b3 cd cP;refine aZ zeroValue264 rfl rfl ?_;refine yW ?_;intro b1 eO gZ;refine bh (i:=0) rfl sizeOf264 rfl rfl rfl rfl rfl rfl ?_;refine B 8 ?_;refine X2 ?_;refine B 8 ?_;refine X2 ?_;refine B 9 ?_;refine X2 ?_;refine B 9 ?_;exact bH (.inl rfl) results169 (RS.t rfl RS.n) (λW hS=>⟨(b3,b1),rfl,hS.base A0 (by simp only[Over,cZ,eB,and_true];omega),by simp only[ad]at *;omega,by simp only[ad]at *;omega,hS.own (b1,_) A0,hS.own (b3,_) A1⟩)
def X3 (x:V):Prop:=∀(N b cap bv bw:Nat) (xs:List UInt8) (sp:List Value) (w:World) (v:Value),dM N w x v->x.fine->Wr N w bv bw->N<=b->N<=w.heap.size->cy xs cap sp->xs.length+x.enc.length<=800000000000->w.heap[b]? =some (aV 5 xs sp)->
 Calls prog x.fn (aW b xs.length cap::v::x.cap bv).toArray w (I8 w b 5 (xs++x.enc))
theorem nAo(n:Int)(hn:(V.int n).fine)(xs:List UInt8)(b cap:Nat)(sp:List Value)(pF:cy xs cap sp)(w:World)(hb:w.heap[b]? =some (aV 5 xs sp))(gA:xs.length+(V.int n).enc.length<=800000000000):Calls prog 232 #[aW b xs.length cap,vI n] w (I8 w b 5 (xs++(V.int n).enc)):=by
 have jf:=(aT.1 hb).1;simp only[V.fine]at hn;simp only[V.enc,dQ]at gA;have hz:=xu n hn.1 hn.2;refine nL (vs:=[_,_]) (Gh.lent (· =b)) [(b,aV 5 xs sp)] func232 rfl ntmps232 rfl (xv hb) ?_;refine B 2 ?_;refine yX ?_;intro b3 w3 aM aD da cd cP;refine X4 ?_;refine nP 5 [1,2] [([],some _),([],none),([0,1],none),([],some _),([3],some _)] (λcv L' H'=>match cv with| []=>L'=[w3,w]/\H'=[(b,aV 5 xs sp)]| [v1]=>∃(b6:Nat),v1=aW b6 ([1]:List UInt8).length 1/\L'=[w3,w]/\H'=[(b6,aV 5 [1] []),(b,aV 5 xs sp)]/\w3.heap.size<=b6/\w.heap.size<=b6| [v1,v2]=>∃(b6:Nat) (b7:Nat) (c7:Nat) (s7:List Value),v1=aW b6 ([1]:List UInt8).length 1/\v2=aW b7 (xs++[1]).length c7/\L'=[w3,w]/\H'=[(b6,aV 5 [1] []),(b7,aV 5 (xs++[1]) s7)]/\w3.heap.size<=b6/\w.heap.size<=b6/\Fr (Gh.lent (· =b)) [w3,w] b7/\(b7=b\/w3.heap.size<=b7/\w.heap.size<=b7)/\cy (xs++[1]) c7 s7|_=>False) zQ ⟨rfl,rfl⟩ zQ zQ zQ zQ zQ zQ (pc zT (pk (pk (pc (by exact λcv L' H' hd hP=>X.val rfl rfl (al underlying149 rfl sizeOf3 rfl) R2) (pc zcg (pn)))))) ?_ ?_
 ·refine sc rfl rfl rfl ?_ ?_
  ·intro cv L' H' hl hP F Q' hk;obtain rfl:=iZ hl;obtain⟨rfl,rfl⟩:=hP;refine M1 [1] bt zeroValue5 rfl rfl rfl rfl rfl rfl rfl rfl rfl ?_;intro b6 ha ho hx hr;exact OJ.done (hk _ _ _ ⟨b6,rfl,rfl,rfl,ha.1,ha.2.1⟩)
  refine sc rfl rfl rfl ?_ ?_
  ·intro cv L' H' hl hP F Q' hk;obtain⟨v1,rfl⟩:=cM hl;obtain⟨b6,rfl,rfl,rfl,gV,we⟩:=hP;refine GV (i:=1) (xs:=xs) (zs:=[1]) (sp:=sp) rfl bt rfl rfl rfl rfl (gS.own (i:=0) underlying64 rfl) pF (.inl rfl) v7 ?_;exact zxj
  exact sn
 intro cv L' H' hl hP;obtain⟨v1,v2,rfl⟩:=iL hl;obtain⟨b6,b7,c7,s7,rfl,rfl,rfl,rfl,gV,we,oP,M4,tU⟩:=hP;refine OJ.dropF (i:=0) rfl (.inr ⟨gV,we,trivial⟩) ?_;refine call call234 rfl rfl rfl (λW hS=>nqj _ zJ zJ W) ?_;refine M5 (i:=0) (ys:=xs++[1]++num (Dr n)) (first:=[]) (cap:=[]) rfl rfl call233 rfl rfl rfl oP (λW hS hW=>Ur (xs++[1]) (Dr n) hz b7 c7 s7 tU v7 W hW) ?_;intro rG c11 s11 sA X5;have Pk:=sA;replace Pk:=ye Pk;refine B 4 ?_;have Jd:xs++(V.int n).enc=xs++[1]++num (Dr n):=by simp[V.enc]
 rw[Jd];exact Ut (i:=0) (.inl rfl) results232 rfl rfl A1 (by simp only[iY,cZ,eB,pG,qG,and_true];simp only[Fr,Gh.lent,ad]at sA;omega) X5
end Px
