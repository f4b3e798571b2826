/- Contracts of functions of the program. No conditions. -/
import Derived.Test.YtodpaegknpbomaaGreatDoorXb
import Derived.Test.YtodpaegknpbomaaGreatDoorProg
import Derived.Lib.RowBridge
import Derived.Test.YtodpaegknpbomaaGreatDoorLa
set_option linter.unusedSimpArgs false
set_option linter.unusedVariables false
set_option linter.unusedSectionVars false
set_option maxRecDepth 20000
set_option maxHeartbeats 8000000
namespace Px
open Go Go.RowKit Go.Proofs Go.Proofs.Tryz
theorem n2i(x y:Int)(hx:0<=x)(Qh:x<18446744073709551616)(hy:0<=y)(J:y<18446744073709551616)(w:World):Calls prog 253 #[.int .u64 x,.int .u64 y] w (aU w (.tuple #[.int .u64 (x*y/18446744073709551616),.int .u64 (x*y%18446744073709551616)])):=by
 have m1:=Ob (a:=x/4294967296) (b:=y/4294967296) (A:=4294967295) (B:=4294967295) aa aa aa aa;have m2:=Ob (a:=x/4294967296) (b:=y%4294967296) (A:=4294967295) (B:=4294967295) aa aa aa aa;have m3:=Ob (a:=x%4294967296) (b:=y%4294967296) (A:=4294967295) (B:=4294967295) aa aa aa aa;have m4:=Ob (a:=x%4294967296) (b:=y/4294967296) (A:=4294967295) (B:=4294967295) aa aa aa aa;refine ei 9 func253 ntmps253 ?_;refine zFe ?_;refine B 6 ?_;refine Ve ?_;refine B 6 ?_;refine zFe ?_;refine B 6 ?_;refine Ve ?_;refine B 7 ?_;refine Qi ?_;refine B 7 ?_;refine Qi ?_;refine B 1 ?_;refine Ve ?_;refine XD ?_;refine B 6 ?_;refine zFe ?_;refine B 6 ?_;refine Ve ?_;refine B 8 ?_;refine Qi ?_;refine XD ?_;refine B 7 ?_;refine Qi ?_;refine B 1 ?_;refine XD ?_;refine B 1 ?_;refine Ve ?_;refine XD ?_;refine B 7 ?_;refine rv rfl rfl rfl (kX rfl rfl) ?_;refine B 4 ?_;refine nT results253 rfl rfl A0 ?_ ?_
 ·exact vu (nCp x y hx hy Qh J)
 rw[nD]
def XE:ByteArray:=⟨#[0,1,2,2,3,3,3,3,4,4,4,4,4,4,4,4,5,5,5,5,5,5,5,5,5,5,5,5,5,5,5,5,6,6,6,6,6,6,6,6,6,6,6,6,6,6,6,6,6,6,6,6,6,6,6,6,6,6,6,6,6,6,6,6,7,7,7,7,7,7,7,7,7,7,7,7,7,7,7,7,7,7,7,7,7,7,7,7,7,7,7,7,7,7,7,7,7,7,7,7,7,7,7,7,7,7,7,7,7,7,7,7,7,7,7,7,7,7,7,7,7,7,7,7,7,7,7,7,8,8,8,8,8,8,8,8,8,8,8,8,8,8,8,8,8,8,8,8,8,8,8,8,8,8,8,8,8,8,8,8,8,8,8,8,8,8,8,8,8,8,8,8,8,8,8,8,8,8,8,8,8,8,8,8,8,8,8,8,8,8,8,8,8,8,8,8,8,8,8,8,8,8,8,8,8,8,8,8,8,8,8,8,8,8,8,8,8,8,8,8,8,8,8,8,8,8,8,8,8,8,8,8,8,8,8,8,8,8,8,8,8,8,8,8,8,8,8,8,8,8,8,8,8,8,8,8]⟩
theorem nlp(n:Nat)(h:n<256):XE[n]? =some (UInt8.ofNat (dw n)):=by
 have:∀n:Fin 256,XE[n.val]? =some (UInt8.ofNat (dw n.val)):=by decide +kernel
 exact this ⟨n,h⟩
variable {G:Gh} {H:ad} {a d n x:Int} {kv:List (Int×Int)} {l xs:List Int} {Fin Pre:List Int->Prop} {zs:List UInt8} {sp:List Value} {L:List World} {b i j:Nat} {RO:Nat->Prop} {W w:World}
theorem JR(h0:0<=x)(h:x<256):∃b,XE[x.toNat]? =some b/\(b.toNat:Int)=ry x:=by
 refine⟨_,nlp x.toNat aa,?_⟩;have:=nPh x.toNat 8 aa;unfold ry;simp;omega
theorem Qj{C:Cx}{E:Env}{T:Nat}{x y:Operand}(hU:C.P.underlying T=some .string)(hx:ev E x=some (.string XE))(hy:ev E y=some (.int .u8 n))(h0:0<=n)(h1:n<256):RV C G L H E (.index T x y) (.int .u8 (ry n)):=by grind [JR,DQ]
theorem nl(x:Int)(q:Int)(k:Nat)(hq:(2:Int)^k=q)(h:q<=x):ry x=ry (x/q)+k:=by
 subst hq;exact nBn k h
theorem DR(x:Int)(h0:0<=x)(h:x<256):0<=ry x/\ry x<=8:=by
 have:=nDm (x:=x) 8 h0 BT;simpa using this
theorem wJ{C:Cx}{Q:bE}{E:Env}{D:List Deferred}{ops:Array Oper}{l:List Oper}{d T ty:Nat}{pos:String}{J:Array Edge}{g:Option (Nat×Bool)}{x y:Operand}(hU:C.P.underlying T=some .string)(hx:ev E x=some (.string XE))(hw:nr ops E g=some true)(hN:Nat.blt d C.N=true)(hy:ev E y=some (.int .u8 n))(h0:0<=n)(h1:n<256)(k:0<=ry n->ry n<=8->OJ C ops Q l ((d,.int .u8 (ry n))::E) D G L H):OJ C ops Q (⟨some d,.index T x y,ty,pos,J,g⟩::l) E D G L H:=
 rv rfl hw hN (Qj hU hx hy h0 h1) (k (DR n h0 h1).1 (DR n h0 h1).2)
section
variable (x:Int)(hx:0<=x)(Qh:x<18446744073709551616)(w:World)
include hx Qh
theorem n5f:Calls prog 180 #[.int .u64 x] w (aU w (ab (ry x))):=by
 refine eN func180 ntmps180 ?_;refine aG 12 ?_ ?_
 ·intro av;refine B 3 ?_;refine Ve ?_;refine aG 14 ?_ ?_
  ·intro aS;refine B 3 ?_;refine rv rfl rfl rfl (jo 16 65536 zz rfl rfl rfl) ?_;refine aG 16 ?_ ?_
   ·intro dh;refine zkd ?_;refine wJ underlying9 zN rfl rfl rfl aa aa (λJ Qk=>?_);refine Oc ?_
    (refine congrArg ab ?_;(try simp only[nl x 4294967296 32 zz,nl (x/4294967296) 65536 16 zz,nl (x/4294967296/65536) 256 8 zz,nl (x/4294967296) 256 8 zz,nl x 65536 16 zz,nl (x/65536) 256 8 zz,nl x 256 8 zz, *]);omega)
   intro dh;refine B 6 ?_;refine zef ?_;refine wJ underlying9 zN rfl rfl rfl aa aa (λJ Qk=>?_);refine Oc ?_
   (refine congrArg ab ?_;(try simp only[nl x 4294967296 32 zz,nl (x/4294967296) 65536 16 zz,nl (x/4294967296/65536) 256 8 zz,nl (x/4294967296) 256 8 zz,nl x 65536 16 zz,nl (x/65536) 256 8 zz,nl x 256 8 zz, *]);omega)
  intro aS;refine aG 9 ?_ ?_
  ·intro iR;refine zkd ?_;refine wJ underlying9 zN rfl rfl rfl aa aa (λJ Qk=>?_);refine Oc ?_
   (refine congrArg ab ?_;(try simp only[nl x 4294967296 32 zz,nl (x/4294967296) 65536 16 zz,nl (x/4294967296/65536) 256 8 zz,nl (x/4294967296) 256 8 zz,nl x 65536 16 zz,nl (x/65536) 256 8 zz,nl x 256 8 zz, *]);omega)
  intro iR;refine B 6 ?_;refine zef ?_;refine wJ underlying9 zN rfl rfl rfl aa aa (λJ Qk=>?_);refine Oc ?_
  (refine congrArg ab ?_;(try simp only[nl x 4294967296 32 zz,nl (x/4294967296) 65536 16 zz,nl (x/4294967296/65536) 256 8 zz,nl (x/4294967296) 256 8 zz,nl x 65536 16 zz,nl (x/65536) 256 8 zz,nl x 256 8 zz, *]);omega)
 intro av;refine aG 9 ?_ ?_
 ·intro gU;refine B 3 ?_;refine rv rfl rfl rfl (jo 16 65536 zz rfl rfl rfl) ?_;refine aG 16 ?_ ?_
  ·intro kY;refine zkd ?_;refine wJ underlying9 zN rfl rfl rfl aa aa (λJ Qk=>?_);refine Oc ?_
   (refine congrArg ab ?_;(try simp only[nl x 4294967296 32 zz,nl (x/4294967296) 65536 16 zz,nl (x/4294967296/65536) 256 8 zz,nl (x/4294967296) 256 8 zz,nl x 65536 16 zz,nl (x/65536) 256 8 zz,nl x 256 8 zz, *]);omega)
  intro kY;refine B 6 ?_;refine zef ?_;refine wJ underlying9 zN rfl rfl rfl aa aa (λJ Qk=>?_);refine Oc ?_
  (refine congrArg ab ?_;(try simp only[nl x 4294967296 32 zz,nl (x/4294967296) 65536 16 zz,nl (x/4294967296/65536) 256 8 zz,nl (x/4294967296) 256 8 zz,nl x 65536 16 zz,nl (x/65536) 256 8 zz,nl x 256 8 zz, *]);omega)
 intro gU;refine aG 9 ?_ ?_
 ·intro jU;refine zkd ?_;refine wJ underlying9 zN rfl rfl rfl aa aa (λJ Qk=>?_);refine Oc ?_
  (refine congrArg ab ?_;(try simp only[nl x 4294967296 32 zz,nl (x/4294967296) 65536 16 zz,nl (x/4294967296/65536) 256 8 zz,nl (x/4294967296) 256 8 zz,nl x 65536 16 zz,nl (x/65536) 256 8 zz,nl x 256 8 zz, *]);omega)
 intro jU;refine B 6 ?_;refine zef ?_;refine wJ underlying9 zN rfl rfl rfl aa aa (λJ Qk=>?_);refine Oc ?_
 (refine congrArg ab ?_;(try simp only[nl x 4294967296 32 zz,nl (x/4294967296) 65536 16 zz,nl (x/4294967296/65536) 256 8 zz,nl (x/4294967296) 256 8 zz,nl x 65536 16 zz,nl (x/65536) 256 8 zz,nl x 256 8 zz, *]);omega)
theorem nOg:Calls prog 292 #[.int .u64 x] w (aU w (ab (64-ry x))):=by
 have hb:=nDm (x:=x) 64 hx (by simpa using Qh);refine ei 8 func292 ntmps292 ?_;refine zVe ?_;refine B 5 ?_;refine aL results292 rfl A0 ?_;rfl
theorem ntg:Calls prog 106 #[.int .u64 x] w (aU w (ab (ry x))):=by
 refine ei 12 func106 ntmps106 ?_;refine zVe ?_;refine B 4 ?_;refine aL results106 rfl A0 ?_;rfl
end
theorem nYh(u q y1 r:Nat)(h:q*y1+r=u):((u:Int)-(q:Int)*(y1:Int))=(r:Int):=by grind
theorem nDn(hi lo y:Nat)(XF:hi<y)(I5:lo<18446744073709551616)(hy:y<18446744073709551616)(h0:0<hi)(w:World):Calls prog 254 #[.int .u64 (hi:Int),.int .u64 (lo:Int),.int .u64 (y:Int)] w (aU w (.tuple #[.int .u64 (((hi*2^64+lo)/y:Nat):Int),.int .u64 (((hi*2^64+lo)%y:Nat):Int)])):=by
 obtain⟨hb1,dz,dE⟩:=nVo y aa hy;have AM:=(nzi y aa).2.2;obtain⟨s,hs⟩:∃s,64-dw y=s:=⟨_,rfl⟩;rw[hs]at dz dE;have aq:(64-ry (y:Int))=(s:Int):=by unfold ry;simp;omega
 obtain⟨Y,hY⟩:∃Y,y*2^s=Y:=⟨_,rfl⟩;rw[hY]at dz dE;obtain⟨y1,BS⟩:∃z,Y/4294967296=z:=⟨_,rfl⟩;obtain⟨y0,I6⟩:∃z,Y%4294967296=z:=⟨_,rfl⟩;have Vf:y1*2^32+y0=Y:=by omega
 obtain⟨hN,hlt⟩:=n8o hi lo y s aa XF I5;obtain⟨u,hu⟩:∃z,hi*2^s+lo/2^(64-s)=z:=⟨_,rfl⟩;obtain⟨v,hv⟩:∃z,lo*2^s%2^64=z:=⟨_,rfl⟩;rw[hu,hv]at hN;rw[hu,hY]at hlt;have cb:v<18446744073709551616:=by rw[<-hv];exact Nat.mod_lt _ zz
 obtain⟨v1,hv1⟩:∃z,v/4294967296=z:=⟨_,rfl⟩;obtain⟨v0,hv0⟩:∃z,v%4294967296=z:=⟨_,rfl⟩;have iV:2^31<=y1:=by omega
 have JS:v1<2^32:=by omega
 have th:v0<2^32:=by omega
 have huY:u<y1*2^32+y0:=by omega
 have d1:=ue.start iV aa aa JS huY;have bZ:hi*2^s<=u:=by rw[<-hu];exact Nat.le_add_right _ _
 have Ql:u/y1*y1<=u:=Nat.div_mul_le_self u y1;refine eN func254 ntmps254 ?_;refine Qm ?_;refine Qm ?_;refine B 9 ?_;refine Vg ?_;refine call call292 rfl rfl rfl (λW hS=>nOg _ aa aa W) ?_;refine rq (.int .u64 (s:Int)) (yD underlying3 underlying222 rfl aa aa) (vu aq) ?_;refine B 7 ?_;refine rq (.int .u64 (Y:Int)) (rz rfl rfl aa) (vu ((DT y s aa aa).trans (by rw[hY]))) ?_;refine B 6 ?_;refine rq (.int .u64 (y1:Int)) (jo 32 4294967296 zz rfl rfl rfl) (vu aa) ?_;refine B 6 ?_;refine rq (.int .u64 (y0:Int)) (rB 32 4294967296 zz rfl rfl rfl rfl aa aa) (vu aa) ?_;refine B 7 ?_;refine rq (.int .u64 ((hi*2^s:Nat):Int)) (rz rfl rfl aa) (vu (DT hi s aa aa)) ?_;refine B 2 ?_;refine rv rfl rfl rfl (uO rfl rfl aa aa) ?_;refine rq (.int .u64 ((lo/2^(64-s):Nat):Int)) (mC rfl rfl aa) (vu (Qo lo s _ aa)) ?_;refine rq (.int .u64 (u:Int)) (AN rfl rfl) (vu ((Od hi _ s (DU lo s aa I5) aa).trans (by rw[hu]))) ?_;refine B 7 ?_;refine rq (.int .u64 (v:Int)) (rz rfl rfl aa) (vu ((JT lo s aa).trans (by rw[hv]))) ?_;refine B 6 ?_;refine rq (.int .u64 (v1:Int)) (jo 32 4294967296 zz rfl rfl rfl) (vu aa) ?_;refine B 6 ?_;refine rq (.int .u64 (v0:Int)) (rB 32 4294967296 zz rfl rfl rfl rfl aa aa) (vu aa) ?_;refine B 7 ?_;refine rq (.int .u64 ((u/y1:Nat):Int)) (yE rfl rfl aa aa aa) (vu (nHe u y1)) ?_
 refine B 8 ?_;refine Qi ?_;refine rq (.int .u64 ((u%y1:Nat):Int)) (uO rfl rfl aa aa) (vu (nYh _ _ _ _ d1.eq)) ?_;refine B 5 ?_;refine CJ.lp (α:=Nat×Nat) [2,8,9,10,11,13,14] (λp=>[(15,.int .u64 (p.1:Int)),(16,.int .u64 (p.2:Int))]) (λp=>[]) (λp=>ue u y1 y0 v1 p.1 p.2) (λp=>p.1) (u/y1,u%y1) d1 ?_;rintro⟨q,r⟩ hd;dsimp only;replace hd:ue u y1 y0 v1 q r:=hd;have uP:=hd.lt;have al:=hd.le;have J:(0:Int)<=(q:Int)*(y0:Int):=Int.mul_nonneg aa aa;have hqy:(q:Int)<=4294967295->(q:Int)*(y0:Int)<=4294967295*4294967295:=λh=>(Ob aa h aa aa).2;refine B 6 ?_;refine ni (t:=69) rfl (λav=>?_) (λav=>?_)
 ·replace av:=ya av;refine B 18 ?_;obtain⟨cN,bY,da⟩:=hd.more iV huY JS aa;refine Oe ?_;refine uf ?_ ?_
  ·intro aS;refine zcf ?_;first|(have BU:=hd.stop iV aa;obtain⟨q1,rfl⟩:∃q1,q1=q:=⟨_,rfl⟩)|(have BU:=nxb aa aa bY da iV aa;generalize q-1=q1 at *)
   rw[Vf]at BU;obtain⟨r1,JU⟩:∃z,(u*2^32+v1)%Y=z:=⟨_,rfl⟩;have XG:r1<Y:=by rw[<-JU];exact Nat.mod_lt _ aa
   have gV:q1*Y+r1=u*2^32+v1:=by have:=BV (u*2^32+v1) Y;rw[BU,JU,I7]at this;exact this
   have d2:=ue.start iV aa aa th (show r1<y1*2^32+y0 by omega);have XH:r1/y1*y1<=r1:=Nat.div_mul_le_self r1 y1;have uQ:r1<y1*2^32+y0:=by omega
   clear hd;try clear cN bY da
   refine zZf ?_;rintro⟨q,r⟩ hd;dsimp only;replace hd:ue r1 y1 y0 v0 q r:=hd;have uP:=hd.lt;have al:=hd.le;have J:(0:Int)<=(q:Int)*(y0:Int):=Int.mul_nonneg aa aa;have hqy:(q:Int)<=4294967295->(q:Int)*(y0:Int)<=4294967295*4294967295:=λh=>(Ob aa h aa aa).2;refine B 6 ?_;refine ni (t:=104) rfl (λdh=>?_) (λdh=>?_)
   ·replace dh:=ya dh;refine B 18 ?_;obtain⟨cN,bY,da⟩:=hd.more iV uQ th aa;refine Oe ?_;refine uf ?_ ?_
    ·intro iR;exact Vh
    intro iR;exact Of
   replace dh:=ya dh;refine zCf ?_;refine uf ?_ ?_
   ·intro gU;refine B 6 ?_;obtain⟨cN,bY,da⟩:=hd.more iV uQ th aa;refine Oe ?_;refine uf ?_ ?_
    ·intro kY;exact Vh
    intro kY;exact Of
   intro gU;refine B 6 ?_;exact z7f
  intro aS;exact Of
 replace av:=ya av;refine zCf ?_;refine uf ?_ ?_
 ·intro jU;refine B 6 ?_;obtain⟨cN,bY,da⟩:=hd.more iV huY JS aa;refine Oe ?_;refine uf ?_ ?_
  ·intro DV;refine zcf ?_;first|(have BU:=hd.stop iV aa;obtain⟨q1,rfl⟩:∃q1,q1=q:=⟨_,rfl⟩)|(have BU:=nxb aa aa bY da iV aa;generalize q-1=q1 at *)
   rw[Vf]at BU;obtain⟨r1,JU⟩:∃z,(u*2^32+v1)%Y=z:=⟨_,rfl⟩;have XG:r1<Y:=by rw[<-JU];exact Nat.mod_lt _ aa
   have gV:q1*Y+r1=u*2^32+v1:=by have:=BV (u*2^32+v1) Y;rw[BU,JU,I7]at this;exact this
   have d2:=ue.start iV aa aa th (show r1<y1*2^32+y0 by omega);have XH:r1/y1*y1<=r1:=Nat.div_mul_le_self r1 y1;have uQ:r1<y1*2^32+y0:=by omega
   clear hd;try clear cN bY da
   refine zZf ?_;rintro⟨q,r⟩ hd;dsimp only;replace hd:ue r1 y1 y0 v0 q r:=hd;have uP:=hd.lt;have al:=hd.le;have J:(0:Int)<=(q:Int)*(y0:Int):=Int.mul_nonneg aa aa;have hqy:(q:Int)<=4294967295->(q:Int)*(y0:Int)<=4294967295*4294967295:=λh=>(Ob aa h aa aa).2;refine B 6 ?_;refine ni (t:=104) rfl (λpw=>?_) (λpw=>?_)
   ·replace pw:=ya pw;refine B 18 ?_;obtain⟨cN,bY,da⟩:=hd.more iV uQ th aa;refine Oe ?_;refine uf ?_ ?_
    ·intro rC;exact Vh
    intro rC;exact Of
   replace pw:=ya pw;refine zCf ?_;refine uf ?_ ?_
   ·intro mD;refine B 6 ?_;obtain⟨cN,bY,da⟩:=hd.more iV uQ th aa;refine Oe ?_;refine uf ?_ ?_
    ·intro kg;exact Vh
    intro kg;exact Of
   intro mD;refine B 6 ?_;exact z7f
  intro DV;exact Of
 intro jU;refine B 6 ?_;first|(have BU:=hd.stop iV aa;obtain⟨q1,rfl⟩:∃q1,q1=q:=⟨_,rfl⟩)|(have BU:=nxb aa aa bY da iV aa;generalize q-1=q1 at *)
 rw[Vf]at BU;obtain⟨r1,JU⟩:∃z,(u*2^32+v1)%Y=z:=⟨_,rfl⟩;have XG:r1<Y:=by rw[<-JU];exact Nat.mod_lt _ aa
 have gV:q1*Y+r1=u*2^32+v1:=by have:=BV (u*2^32+v1) Y;rw[BU,JU,I7]at this;exact this
 have d2:=ue.start iV aa aa th (show r1<y1*2^32+y0 by omega);have XH:r1/y1*y1<=r1:=Nat.div_mul_le_self r1 y1;have uQ:r1<y1*2^32+y0:=by omega
 clear hd;try clear cN bY da
 refine zZf ?_;rintro⟨q,r⟩ hd;dsimp only;replace hd:ue r1 y1 y0 v0 q r:=hd;have uP:=hd.lt;have al:=hd.le;have J:(0:Int)<=(q:Int)*(y0:Int):=Int.mul_nonneg aa aa;have hqy:(q:Int)<=4294967295->(q:Int)*(y0:Int)<=4294967295*4294967295:=λh=>(Ob aa h aa aa).2;refine B 6 ?_;refine ni (t:=104) rfl (λmE=>?_) (λmE=>?_)
 ·replace mE:=ya mE;refine B 18 ?_;obtain⟨cN,bY,da⟩:=hd.more iV uQ th aa;refine Oe ?_;refine uf ?_ ?_
  ·intro uR;exact Vh
  intro uR;exact Of
 replace mE:=ya mE;refine zCf ?_;refine uf ?_ ?_
 ·intro px;refine B 6 ?_;obtain⟨cN,bY,da⟩:=hd.more iV uQ th aa;refine Oe ?_;refine uf ?_ ?_
  ·intro DW;exact Vh
  intro DW;exact Of
 intro px;refine B 6 ?_;exact z7f
theorem npn(lo y:Nat)(h0:0<y)(J:lo<18446744073709551616)(hy:y<18446744073709551616)(w:World):Calls prog 254 #[.int .u64 0,.int .u64 (lo:Int),.int .u64 (y:Int)] w (aU w (.tuple #[.int .u64 ((lo/y:Nat):Int),.int .u64 ((lo%y:Nat):Int)])):=by
 refine eN func254 ntmps254 ?_;refine Qm ?_;refine Qm ?_;refine aF 9 cD ?_;refine B 4 ?_;refine eA 7 (pb:=by exact zU 2 (k:=by exact aM (X.v (yE rfl rfl aa aa aa)) (zU 2 (k:=by exact aM (X.v (DX rfl rfl aa aa)) zT)))) (k:=?_);refine B 5 ?_;refine nT results254 rfl rfl A0 ?_ ?_
 ·exact vu (nHe lo y)
 exact vu (Int.natCast_emod lo y).symm
theorem nwg(hi lo y:Int)(h0:0<=hi)(h1:hi<y)(h2:0<=lo)(h3:lo<18446744073709551616)(h4:y<18446744073709551616)(w:World):Calls prog 254 #[.int .u64 hi,.int .u64 lo,.int .u64 y] w (aU w (.tuple #[.int .u64 ((hi*18446744073709551616+lo)/y),.int .u64 ((hi*18446744073709551616+lo)%y)])):=by
 obtain⟨a,rfl⟩:=Og h0;obtain⟨b,rfl⟩:=Og h2;obtain⟨c,rfl⟩:=Og (Int.le_trans h0 (Int.le_of_lt h1));have e:((a:Int)*18446744073709551616+(b:Int))=((a*2^64+b:Nat):Int):=by simp
 rw[e,nHe,<-Int.natCast_emod];by_cases ha:a=0
 ·subst ha;have:=npn b c aa aa aa w;simpa using this
 exact nDn a b c aa aa aa aa w
theorem nVi{b p:Int}(ha:0<=a)(gb:a<p)(hb:0<=b)(hb1:b<p)(hp:p<18446744073709551616):0<=a*b/18446744073709551616/\a*b/18446744073709551616<p/\0<=a*b%18446744073709551616/\a*b%18446744073709551616<18446744073709551616/\a*b/18446744073709551616*18446744073709551616+a*b%18446744073709551616=a*b:=by
 have h0:0<=a*b:=Int.mul_nonneg ha hb;have h1:a*b<=a*18446744073709551616:=Int.mul_le_mul_of_nonneg_left aa ha;all_goals grind
theorem nyf(a b:Int)(ha:0<=a)(gb:a<4611686018427377339)(hb:0<=b)(hb1:b<4611686018427377339)(w:World):Calls prog 190 #[.int .u64 a,.int .u64 b] w (aU w (.int .u64 (a*b%4611686018427377339))):=by
 obtain⟨m1,m2,m3,m4,m5⟩:=nVi ha gb hb hb1 zz;refine ei 9 func190 ntmps190 ?_;refine zrf ?_;refine B 14 ?_;refine aL results190 rfl A0 ?_
 (rw[m5];rfl)
theorem n0m(k:Int)(w:World):Calls prog 189 #[.int .u64 k] w (dc w (λb=>.func (.func 252) #[] #[ptr b 0]) (λb w1=>w.heap.size<=b/\w1.heap[b]? =some (oC #[.int .u64 k] 233))):=by
 refine eN func189 ntmps189 ?_;refine cK 2 ?_;intro b1 w1 hb1 cN J gb jJ;refine B 10 ?_;refine sM b1 results189 rfl A1 rfl ?_;exact zLh
def ug (n:Nat):List Bool:=(List.range (dw n)).reverse.map (λi=>n.testBit i)
theorem nne(n:Nat):(ug n).length=dw n:=by simp[ug]
theorem nxf(n j:Nat)(h:j<dw n):(ug n).take (j+1)=(ug n).take j++[n.testBit (dw n-1-j)]:=by
 have hl:j<(ug n).length:=by rw[nne];exact h
 rw[Oh hl];congr 2;simp[ug]
theorem Qp(n i:Nat):decide (((n/2^i:Nat):Int)%2=1)=n.testBit i:=by grind
theorem DY(n j:Nat)(h:j<dw n):((ug n).take j++[n.testBit (dw n-1-j)]) <+:ug n:=by
 rw[<-nxf n j h];exact List.take_prefix _ _
theorem n8m(n:Nat)(hn:n<18446744073709551616)(b:Nat)(W:World)(hb1:W.heap[b]? =some (oC #[.int .u64 (n:Int)] 233)):uS prog 252 [ptr b 0] (λx:Bool=>[.bool x]) (C2 (ug n)) (Is (ug n)) (λ_=>False) (λk=>k=b) W:=by
 intro l M I X0 hM hI hX hy h0;have Vi:=(bB.1 hb1).1;have cN:¬(M b\/False):=λh=>h.elim (λh=>(hM b h).2.2 rfl) id;have jq:=nPh n 64 hn;have J:ry (n:Int)=(dw n:Int):=by simp[ry]
 refine nB (dF hM (λ_=>False) (hI [] _)) [] (vs:=[_,_]) func252 rfl ntmps252 rfl (Oi hM (hI [] _) h0 zI (by simp[lS]) zI) ?_;refine B 3 ?_;refine zVe ?_;refine rq (ab ((dw n:Int)-1-(0:Nat))) (rD rfl rfl aa aa) (congrArg ab (by rw[J];omega)) ?_;refine B 4 ?_;refine CJ.loop (α:=Nat×aJ) (λp=>[(0,yv l),(1,ptr b 0),(3,ab ((dw n:Int)-1-(p.1:Int)))]) (λp=>[]) (λp=>[W]) (λp=>dF hM p.2 (hI ((ug n).take p.1) p.2)) (λp=>p.1<=dw n/\∀k,p.2 k->W.heap.size<=k) (λp=>dw n-p.1) (0,λ_=>False) ⟨cO _,λ_ h=>h.elim⟩ zR rfl rfl zI ?_;rintro⟨j,V⟩ ⟨hj,hV⟩;dsimp only at hj hV ⊢;have cN:¬(M b\/V b):=λh=>h.elim (λh=>(hM b h).2.2 rfl) (λh=>by have:=hV b h;omega);refine aG 7 ?_ ?_
 ·intro av;refine B 9 ?_;refine rq (.int .u64 ((n/2^(dw n-1-j):Nat):Int)) (mC rfl rfl aa) (vu (Oj n _ _ aa aa)) ?_;refine rv rfl rfl rfl (rB 1 2 zz rfl rfl rfl rfl (Int.natCast_nonneg _) (Int.lt_of_le_of_lt (Int.ofNat_le.2 (Nat.div_le_self n _)) aa)) ?_;refine rq (.bool (n.testBit (dw n-1-j))) (kZ rfl rfl) (vb (Qp n _)) ?_;refine BW (λV=>hI ((ug n).take (j+1)) V) hX hV A0 rfl rfl rfl rfl (λW1 uT lM=>by have:=hy ((ug n).take j) _ V W1 (DY n j aa) uT lM;rw[<-nxf n j aa]at this;exact this) ?_ ?_
  ·intro V hV;refine B 12 ?_;refine PJ.again (j+1,V) ⟨by dsimp only;omega,hV⟩ zS ⟨rfl,rfl,congrArg some (congrArg ab zS),trivial⟩ rfl rfl zI
  intro V hV;refine B 9 ?_;exact BX (.inl rfl) results252 A0 hV zI (λA hA=>.inr hA)
 intro av;refine B 4 ?_;exact BX (.inr rfl) results252 A0 hV zI (λA hA=>.inl ⟨ug n,rfl,by have e:=iC (l:=ug n) (i:=j) (by rw[nne];omega);rw[e]at hA;exact hA⟩)
def sN (a m:Int):List Bool->Int->Int
 | [],c=>c
 |b::bs,c=>sN a m bs (if b then(c*c%m)*a%m else c*c%m)
theorem nah(a m:Int)(bs:List Bool)(b:Bool)(c:Int):sN a m (bs++[b]) c=if b then(sN a m bs c*sN a m bs c%m)*a%m else sN a m bs c*sN a m bs c%m:=by induction bs generalizing c<;>grind [sN]
theorem n5i(a m:Int)(hm:0<m)(bs:List Bool)(c:Int)(h0:0<=c)(h1:c<m):0<=sN a m bs c/\sN a m bs c<m:=by
 induction bs generalizing c with
 |nil=>exact⟨h0,h1⟩
 |cons x bs ih=>
  simp only[sN];apply ih
  ·split<;>exact Int.emod_nonneg _ aa
  split<;>exact Int.emod_lt_of_pos _ hm
def uU (a n m:Int):Int:=sN a m (ug n.toNat) 1
theorem n9h(a k:Int)(ha:0<=a)(gb:a<4611686018427377339)(hk:0<=k)(JV:k<18446744073709551616)(w:World):Calls prog 114 #[.int .u64 a,.int .u64 k] w (aU w (.int .u64 (uU a k 4611686018427377339))):=by
 refine Qq Gh.no [] (vs:=[_,_]) func114 rfl ntmps114 rfl (JW w) ?_;refine cK 2 ?_;intro b2 w2 dz bY ft dL dH;refine bM 6 ?_;intro b5 tr tu;refine B 7 ?_;refine ny (Φ:=λW b w1=>W.heap.size<=b/\w1.heap[b]? =some (oC #[.int .u64 k] 233)) call189 rfl rfl rfl (λW hS=>n0m _ W) ?_;intro Wd bd wd yF a8 bh;obtain⟨bA,Qr⟩:=bh;have az:=yF.under;simp only[I8,dA,eh]at az;have J:=yF.sizes;replace J:=yb J;have bz:=a8.size;refine B 3 ?_;refine XI (f:=252) (cap:=[ptr bd 0]) (α:=Bool) (enc:=(λx:Bool=>[.bool x])) (Pre:=C2 (ug k.toNat)) (Fin:=Is (ug k.toNat)) (RO:=λk=>k=bd) (MI:=λ_=>False) rfl call252 (λW W2 hS hB=>by have e:(.int .u64 k:Value)= .int .u64 ((k.toNat:Nat):Int):=(by rw[Int.toNat_of_nonneg hk]);exact n8m k.toNat aa bd W2 (by rw[<-e,hB.block bd (by have:=(hS.sizes);simp only[ah]at this;have:=(bB.1 Qr).1;omega)];exact hS.old A0 Qr zH zy)) (λ_ _ _ hk=>hk.elim) (λW hS k hk=>by subst hk;have:=hS.sizes;simp only[ah]at this;have:=(bB.1 Qr).1;refine⟨by omega,by simp only[dA,dP,fu,fC];omega,λh=>h⟩) (λ_=>rfl) (λpre G' Hc=>G'=Gh.no/\Hc=[(b5,oC #[.int .u64 (sN a 4611686018427377339 pre 1)] 233)]) (λ_ _ _=>False) ⟨rfl,rfl⟩ zz ?_ ?_ ?_
 ·rintro pre x G' Hc l Dk rec W1 M V Wy qd xN eM ⟨rfl,rfl⟩ jh mw Qs yG dO DZ;simp only[ah]at jh yG;have bY:=dO.z (k:=b2) aa zH mZ zH;have JX:=n5i a 4611686018427377339 zz pre 1 zz zz;have hX:=Int.emod_nonneg (sN a 4611686018427377339 pre 1*sN a 4611686018427377339 pre 1) (b:=4611686018427377339) zz;have gk:=Int.emod_lt_of_pos (sN a 4611686018427377339 pre 1*sN a 4611686018427377339 pre 1) (b:=4611686018427377339) zz;refine B 3 ?_;refine Om qd ?_;refine B 5 ?_;refine call call190 rfl rfl rfl (λW hS=>nyf _ _ aa aa aa aa W) ?_;refine aG 8 ?_ ?_
  ·intro av;refine B 3 ?_;refine call call190 rfl rfl rfl (λW hS=>nyf _ _ aa aa aa aa W) ?_;refine B 3 ?_;refine JY (G2:=Gh.no) (Hc2:=[(b5,oC #[.int .u64 (sN a 4611686018427377339 pre 1*sN a 4611686018427377339 pre 1%4611686018427377339*a%4611686018427377339)] 233)]) dO mw ⟨λ_ h=>h,λ_ h=>.inl h,λ_ h=>.inl h,zI,zI⟩ (JZ qd xN) ?_;exact⟨rfl,by rw[nah,av];rfl⟩
  intro av;refine B 2 ?_;refine JY (G2:=Gh.no) (Hc2:=[(b5,oC #[.int .u64 (sN a 4611686018427377339 pre 1*sN a 4611686018427377339 pre 1%4611686018427377339)] 233)]) dO mw ⟨λ_ h=>h,λ_ h=>.inl h,λ_ h=>.inl h,zI,zI⟩ (JZ qd xN) ?_;exact⟨rfl,by rw[nah,av];rfl⟩
 ·rintro qz l Dk rec G' Hc rfl jh mw ⟨rfl,rfl⟩;replace jh:=yb jh;refine B 9 ?_;refine XJ (.inl rfl) results114 rfl (by simp[book]) (λW H' hS aX=>⟨?_,?_⟩)
  ·exact congrArg Ending.returned rfl
  refine(hS.links w A2).below λk hk hx=>?_;rw[aX]at hx;simp[Gh.no,book]at hx;omega
 exact Qt
theorem nKj(a k m:Int)(hm:1<m):0<=uU a k m/\uU a k m<m:=n5i a m aa _ 1 aa hm
abbrev eo (a:Int):Prop:=1<=a/\a<4611686018427377339/\uU a 2305843009213688669 4611686018427377339=1
def gExp (a k:Int):Int×Int:=if eo a then if 0<=k/\k<2305843009213688669 then(uU a k 4611686018427377339,0)else(0,1)else(0,40)
def rE (p:Int×Int):Value:=.tuple #[ab p.1,ab p.2]
theorem nP(a:Int)(w:World):Calls prog 65 #[ab a] w (aU w (ab (if eo a then 0 else 40))):=by
 have hp:=nKj a 2305843009213688669 4611686018427377339 zz;refine ei 11 func65 ntmps65 ?_;refine ni (t:=5) rfl (λav=>?_) (λav=>?_)
 ·replace av:=ya av;refine B 19 ?_;refine zre ?_;split<;>omega
 replace av:=ya av;refine B 4 ?_;refine ni (t:=9) rfl (λaS=>?_) (λaS=>?_)
 ·replace aS:=ya aS;refine B 15 ?_;refine zre ?_;split<;>omega
 replace aS:=ya aS;refine B 2 ?_;refine call call114 rfl rfl rfl (λW hS=>n9h _ _ aa aa aa aa W) ?_;refine aG 4 ?_ ?_
 ·intro dh;refine B 7 ?_;refine zre ?_;split<;>omega
 intro dh;refine B 8 ?_;refine zre ?_;split<;>omega
theorem nEk(a k:Int)(w:World):Calls prog 125 #[ab a,ab k] w (aU w (rE (gExp a k))):=by
 have hp:=nKj a k 4611686018427377339 zz;refine ei 10 func125 ntmps125 ?_;refine call call65 rfl rfl rfl (λW hS=>nP _ W) ?_;refine aG 9 ?_ ?_
 ·intro av;refine B 1 ?_;have hg:¬eo a:=λh=>by simp[if_pos h]at av
  refine B 8 ?_;exact zug
 intro av;refine B 4 ?_;have hg:eo a:=Decidable.byContradiction λh=>by simp[if_neg h]at av
 refine B 4 ?_;refine ni (t:=14) rfl (λaS=>?_) (λaS=>?_)
 ·replace aS:=ya aS;refine B 14 ?_;exact zug
 replace aS:=ya aS;refine aG 5 ?_ ?_
 ·intro dh;refine B 8 ?_;exact zug
 intro dh;refine B 8 ?_;refine call call114 rfl rfl rfl (λW hS=>n9h _ _ aa aa aa aa W) ?_;refine B 6 ?_;exact zug
theorem n4i(k:Int)(w:World):Calls prog 124 #[ab k] w (aU w (rE (gExp 4 k))):=by
 refine ei 9 func124 ntmps124 ?_;refine call call125 rfl rfl rfl (λW hS=>nEk _ _ W) ?_;refine B 7 ?_;refine nT results124 rfl rfl A0 ?_ ?_;all_goals rfl
theorem J0(x b:Int)(h0:0<=b)(h1:b<256):IntKind.u64.wrap (BitVec.ofInt IntKind.u64.bits (IntKind.u64.wrap (x*256))|||BitVec.ofInt IntKind.u64.bits b).toNat=(x*256)%18446744073709551616+b:=by
 obtain⟨y,hy⟩:∃y:Nat,(x*256)%18446744073709551616=((y*2^8:Nat):Int):=⟨((x*256)%18446744073709551616/256).toNat,by omega⟩;obtain⟨c,rfl⟩:=Og h0;rw[hy,(nD (x*256)).trans hy,Od y c 8 aa aa];omega
theorem J1(n b m:Int):n/72057594037927936*18446744073709551616+(n*256%18446744073709551616+b)=n*256+b:=by omega
def I9 (m:Int):List Int->Int->Int
 | [],n=>n
 |b::bs,n=>I9 m bs ((n*256+b)%m)
theorem nkp(m:Int)(bs:List Int)(b n:Int):I9 m (bs++[b]) n=(I9 m bs n*256+b)%m:=by induction bs generalizing n<;>grind [I9]
theorem nfi(m:Int)(hm:0<m)(bs:List Int)(n:Int)(h0:0<=n)(h1:n<m):0<=I9 m bs n/\I9 m bs n<m:=by
 induction bs generalizing n with
 |nil=>exact⟨h0,h1⟩
 |cons x bs ih=>exact ih _ (Int.emod_nonneg _ aa) (Int.emod_lt_of_pos _ hm)
theorem nun(c n m:Int)(b b2:Nat)(hc:0<=c)(av:c<256)(hn:0<=n)(J:n<m)(hm:m<72057594037927936*256)(w:World)(hb:w.heap[b]? =some (oC #[.int .u64 n] 233))(dz:w.heap[b2]? =some (oC #[.int .u64 m] 233))(hne:b≠b2):Calls prog 302 #[.int .u8 c,ptr b 0,ptr b2 0] w (J2 w (.tuple #[]) b (oC #[.int .u64 ((n*256+c)%m)] 233)):=by
 have bY:¬Gh.no.M b2:=λh=>h;refine nB Gh.no [(b,_)] (vs:=[_,_,_]) func302 rfl ntmps302 rfl (nnm hb) ?_;refine B 2 ?_;refine rv rfl rfl rfl (jo 56 72057594037927936 zz rfl rfl rfl) ?_;refine B 1 ?_;refine rv rfl rfl rfl (D2 8 256 zz rfl rfl rfl) ?_;refine B 2 ?_;refine rq (.int .u64 ((n*256)%18446744073709551616+c)) (AN rfl rfl) (vu (J0 n c hc av)) ?_;refine B 1 ?_;refine zte ?_;refine B 2 ?_;refine rq (.int .u64 ((n*256+c)%m)) (ji rfl rfl) (vu (by rw[J1 n c m])) ?_;refine kT (i:=0) rfl sizeOf233 rfl rfl rfl rfl (er rfl) rfl ?_;refine B 1 ?_;refine bS (.inr rfl) results302 bD (λW hS=>⟨rfl,(hS.links w A0).mono λk _ hk=>?_,hS.own _ A0⟩);simpa[Gh.no]using hk
def dg (f:Nat->Int):Array Value:=(lN f []).toArray
def BY (f:Nat->Int):List Int:=(List.range 32).map f
abbrev ey (f:Nat->Int):Prop:=∀i,0<=f i/\f i<256
theorem rF(f:Nat->Int)(i:Nat)(h:i<32):(dg f)[i]? =some (.int .u8 (f i)):=by
 have e:dg f=((List.range 32).map λi=>Value.int .u8 (f i)).toArray:=rfl;rw[e];simp[h]
theorem D3(f:Nat->Int)(j:Nat)(h:j<32):(BY f).take (j+1)=(BY f).take j++[f j]:=by
 have hl:j<(BY f).length:=by simp[BY];exact h
 rw[Oh hl];simp[BY]
theorem nPo(f:Nat->Int)(hf:ey f)(m:Int)(xO:0<m)(hm:m<72057594037927936*256)(w:World):Calls prog 258 #[.agg (dg f),.int .u64 m] w (aU w (.int .u64 (I9 m (BY f) 0))):=by
 refine eN func258 ntmps258 ?_;refine cK 2 ?_;intro b2 w2 dz bY ft dL dH;refine yX ?_;intro b3 w3 dE da gi eO fw;refine bM 1 ?_;intro b4 iW iX;refine B 16 ?_;refine CJ.lp (α:=Nat) [2,3,4,5,9] (λj=>[(10,ab (j:Int))]) (λj=>[(b4,oC #[.int .u64 (I9 m ((BY f).take j) 0)] 233)]) (λj=>j<=32) (λj=>32-j) 0 zz ?_;rintro j hj;have J:=nfi m xO ((BY f).take j) 0 zz xO;refine aG 6 ?_ ?_
 ·intro av;refine B 6 ?_;refine rq (.int .u8 (f j)) (uV underlying33 isAgg5 sizeOf5 rfl rfl aa aa (rF f _ aa)) (congrArg (λk=>Value.int .u8 (f k)) aa) ?_;refine B 6 ?_;refine XK (f:=302) (i:=0) (first:=[]) (cap:=[ptr b4 0,ptr b3 0]) rfl rfl call302 rfl rfl rfl (λW hS hW=>nun _ _ _ _ _ (hf j).1 (hf j).2 J.1 J.2 hm W hW (hS.old A0 dE da zy) aa) ?_;refine B 7 ?_;refine PJ.reH (H':=[(b4,oC #[.int .u64 (I9 m ((BY f).take (j+1)) 0)] 233)]) (by rw[D3 f j aa,nkp];rfl) ?_;exact J3
 intro av;refine B 12 ?_;refine cA (.inl rfl) results258 bD A2 zA ?_;exact vu (by rw[iC (by simp[BY];omega)])
end Px
namespace Px
open Go
def yH:List Bool->Nat->Nat
 | [],v=>v
 |b::bs,v=>yH bs (2*v+if b then 1 else 0)
theorem nEp(bs:List Bool)(b:Bool)(v:Nat):yH (bs++[b]) v=2*yH bs v+if b then 1 else 0:=by
 induction bs generalizing v with
 |nil=>rfl
 |cons x bs ih=>exact ih _
theorem nCn(a m:Int)(bs:List Bool):∀(c:Int) (v:Nat),c%m=a^v%m->sN a m bs c%m=a^yH bs v%m:=by
 induction bs with
 |nil=>intro c v h;exact h
 |cons x bs ih=>
  intro c v h;simp only[sN,yH];apply ih;have J:c*c%m=a^(2*v)%m:=by rw[Int.mul_emod,h,<-Int.mul_emod,<-Int.pow_add];congr 2;omega
  cases x with
  |false=>simp only[Bool.false_eq_true,if_false,Int.emod_emod,Nat.add_zero];exact J
  |true=>simp only[if_true,Int.emod_emod];rw[J,Int.mul_emod,Int.emod_emod,<-Int.mul_emod,<-Int.pow_succ]
theorem nqj(n:Nat):∀j,j<=dw n->yH ((ug n).take j) 0=n/2^(dw n-j)
 |0,_=>by
  simp only[List.take_zero,yH,Nat.sub_zero];have hlt:n<2^dw n:=by
   by_cases h:n=0
   ·subst h;exact Nat.pow_pos zz
   exact(nzi n h).2.1
  exact(Nat.div_eq_of_lt hlt).symm
 |j+1,h=>by
  rw[nxf n j aa,nEp,nqj n j aa];have e:dw n-j=(dw n-1-j)+1:=by omega
  have e2:dw n-(j+1)=dw n-1-j:=by omega
  rw[e,e2,Nat.pow_succ,<-Nat.div_div_eq_div_mul,Nat.testBit_eq_decide_div_mod_eq];by_cases hb:n/2^(dw n-1-j)%2=1
  ·simp only[hb,decide_true,if_true];omega
  simp only[hb,decide_false,Bool.false_eq_true,if_false];omega
theorem nIj(a k m:Int)(h0:0<=k)(hm:1<m):uU a k m=a^k.toNat%m:=by
 have h1:=nCn a m (ug k.toNat) 1 0 zI;have h2:=nqj k.toNat (dw k.toNat) (aj _);rw[iC (by rw[nne];exact aj _)]at h2;simp only[Nat.sub_self,Nat.pow_zero,Nat.div_one]at h2;rw[h2]at h1;rw[<-h1];have hb:=nKj a k m hm;exact(Int.emod_eq_of_lt hb.1 hb.2).symm
end Px
namespace Px
open Go Go.RowKit Go.Proofs Go.Proofs.Tryz
def py (a:Int):Bool:=decide (a<0)||decide (2305843009213688669<=a)
variable {a:Int}
theorem nij:py a=false↔0<=a/\a<2305843009213688669:=by simp[py]
theorem n1k:py a=true↔¬(0<=a/\a<2305843009213688669):=by simp[py];omega
theorem nek(a:Int)(w:World):Calls prog 257 #[ab a] w (aU w (.bool (py a))):=by
 refine ei 10 func257 ntmps257 ?_;refine ni (t:=5) rfl (λav=>?_) (λav=>?_)
 ·exact zMh
 exact zMh
def yI (p:Int->Bool) (xs:List Int):Int:=match xs.findIdx? p with|some i=>(i:Int)|none=> -1
theorem D4(p:Int->Bool)(xs:List Int)(j:Nat)(hj:j<xs.length)(h:∀x∈xs.take j,p x=false)(hp:p xs[j]=true):yI p xs=(j:Int):=by grind [yI,List.findIdx?_eq_some_iff_getElem,List.mem_take_iff_getElem]
theorem nMp(p:Int->Bool)(xs:List Int)(h:∀x∈xs,p x=false):yI p xs= -1:=by grind [yI]
theorem D5(p:Int->Bool)(xs:List Int):decide (0<=yI p xs)=xs.any p:=by grind [yI]
def ints (xs:List Int):Array Value:=(xs.map λx=>ab x).toArray
theorem ints_at(xs:List Int)(j:Nat)(h:j<xs.length):(ints xs)[j]? =some (ab xs[j]):=by simp[ints,h]
section
variable (p:Int->Bool)(f:Nat)(aB:eV prog f)(hp:∀x W,Calls prog f #[ab x] W (aU W (.bool (p x))))(xs:List Int)(b T n c:Nat)(fr:Nat×Nat)(hn:xs.length=n)(mS:n<9223372036854775807)(w:World)(hb0:w.heap[b]? =some (.cells (ints xs) T fr))
include p f aB hp T c fr hn mS hb0
theorem n6k:Calls prog 275 #[.slice (ao b) n c,.func (.func f) #[] #[]] w (aU w (ab (yI p xs))):=by
 have xO:¬Gh.no.M b:=λh=>h;refine ei 14 func275 ntmps275 ?_;refine CJ.lp (α:=Nat) [0,1,7] (λj=>[(8,ab (j:Int))]) (λj=>[]) (λj=>j<=n/\∀x∈xs.take j,p x=false) (λj=>n-j) 0 ⟨cO _,by simp⟩ ?_;rintro j ⟨hj,J⟩;refine aG 6 ?_ ?_
 ·intro av;refine B 16 ?_;refine rv rfl rfl rfl (ar (v:=ab (xs[j]'aa)) isAgg3 rfl A0 hb0 xO trivial (by rw[<-ints_at xs j aa];congr 1;omega)) ?_;refine C3 (f:=f) (cap:=[]) rfl aB rfl rfl rfl (λW hS=>hp _ W) ?_;refine aG 2 ?_ ?_
  ·intro aS;refine B 12 ?_;refine aL results275 rfl A0 ?_;exact congrArg ab (D4 p xs j aa J aS).symm
  intro aS;refine B 7 ?_;refine ag (j+1) ⟨by omega,by intro x hx;rw[Oh aa]at hx;simp only[aY,fC]at hx;rcases hx with hx|rfl;exact J x hx;exact aS⟩
 intro av;refine B 11 ?_;refine aL results275 rfl A0 ?_;exact congrArg ab (nMp p xs (by rw[<-iC (l:=xs) (i:=j) aa];exact J)).symm
theorem nki:Calls prog 223 #[.slice (ao b) n c,.func (.func f) #[] #[]] w (aU w (.bool (xs.any p))):=by
 refine ei 9 func223 ntmps223 ?_;refine call call275 rfl rfl rfl (λW hS=>n6k p f aB hp xs b T n c fr hn mS W (hS.old A0 hb0 zH trivial)) ?_;refine B 5 ?_;refine aL results223 rfl A0 ?_;exact vb (D5 p xs)
end
theorem nme(xs:List Int)(b T n c:Nat)(fr:Nat×Nat)(hn:xs.length=n)(mS:n<9223372036854775807)(w:World)(hb0:w.heap[b]? =some (.cells (ints xs) T fr)):Calls prog 194 #[.slice (ao b) n c] w (aU w (.bool (xs.any py))):=by
 refine ei 8 func194 ntmps194 ?_;refine call call223 rfl rfl rfl (λW hS=>nki py 257 call257 (λx W=>nek x W) xs b T n c fr hn mS W (hS.old A0 hb0 zH trivial)) ?_;refine B 4 ?_;refine aL results194 rfl A0 ?_;rfl
theorem nql(a b:Int)(ha:0<=a)(gb:a<2305843009213688669)(hb:0<=b)(hb1:b<2305843009213688669)(w:World):Calls prog 274 #[ab a,ab b] w (aU w (ab (a*b%2305843009213688669))):=by
 obtain⟨m1,m2,m3,m4,m5⟩:=nVi ha gb hb hb1 zz;have m6:=Int.emod_nonneg (a*b) (b:=2305843009213688669) zz;have m7:=Int.emod_lt_of_pos (a*b) (b:=2305843009213688669) zz;refine ei 11 func274 ntmps274 ?_;refine zrf ?_;refine B 10 ?_;refine rq (ab (a*b%2305843009213688669)) (yJ underlying233 underlying3 rfl (by rw[m5];omega) (by rw[m5];omega)) (by rw[m5]) ?_;refine B 4 ?_;refine aL results274 rfl A0 ?_;rfl
theorem nbn(a:Int)(w:World):Calls prog 123 #[ab a] w (aU w (ab (if py a then 1 else 0))):=by
 refine ei 9 func123 ntmps123 ?_;refine Ja ?_;refine yV ?_;intro b4 w4 D6 BZ J iW iX;refine call call194 rfl rfl rfl (λW hS=>nme [a] _ _ _ _ _ rfl zI W (hS.old A0 D6 BZ trivial)) ?_;refine aG 2 ?_ ?_
 ·intro av;refine B 7 ?_;refine aL results123 rfl A1 ?_;refine congrArg ab ?_;simp_all
 intro av;refine B 8 ?_;refine aL results123 rfl A1 ?_;refine congrArg ab ?_;simp_all
abbrev qZ (a:Int):Prop:=0<=a/\a<2305843009213688669
def qA (a b:Int):Int×Int:=if qZ a/\qZ b then(a*b%2305843009213688669,0)else(0,1)
def rG (a b:Int):Int×Int:=if qZ a/\qZ b then((a+b)%2305843009213688669,0)else(0,1)
theorem XL{b:Int}(h:[a,b].any py=false):qZ a/\qZ b:=by grind [nij]
theorem On{b:Int}(h:[a,b].any py=true):¬(qZ a/\qZ b):=by grind [n1k]
theorem n4p(a b:Int)(w:World):Calls prog 215 #[ab a,ab b] w (aU w (rE (qA a b))):=by
 refine ei 11 func215 ntmps215 ?_;refine Ja ?_;refine yV ?_;intro b8 w8 hb8 hm8 XM C4 J;refine z6e ?_;refine aG 2 ?_ ?_
 ·intro av;refine B 1 ?_;have hg:=On av;refine B 7 ?_;exact zKh
 intro av;refine B 3 ?_;have hg:=XL av;refine B 3 ?_;refine call call274 rfl rfl rfl (λW hS=>nql _ _ aa aa aa aa W) ?_;refine B 5 ?_;exact zKh
theorem n5p(a b:Int)(w:World):Calls prog 216 #[ab a,ab b] w (aU w (rE (rG a b))):=by
 refine ei 11 func216 ntmps216 ?_;refine Ja ?_;refine yV ?_;intro b8 w8 hb8 hm8 XM C4 J;refine z6e ?_;refine aG 2 ?_ ?_
 ·intro av;refine B 1 ?_;have hg:=On av;refine B 7 ?_;exact zJh
 intro av;refine B 3 ?_;have hg:=XL av;refine B 4 ?_;refine rv rfl rfl rfl (DX rfl rfl aa aa) ?_;refine B 5 ?_;exact zJh

abbrev D7 (x:Int):Prop:=1<=x/\x<2305843009213688669
theorem B0:eo 4:=by decide +kernel
def J4 (x:Int):Int×Int:=if D7 x then(uU 4 x 4611686018427377339,0)else(0,50)
variable {x:Int}
theorem Oo(h:D7 x):gExp 4 x=(uU 4 x 4611686018427377339,0):=by unfold gExp;rw[if_pos B0,if_pos aa]
theorem nbj(a:Int)(w:World):Calls prog 132 #[ab a] w (aU w (.bool (decide (D7 a)))):=by
 refine ei 10 func132 ntmps132 ?_;refine ni (t:=5) rfl (λav=>?_) (λav=>?_)
 ·replace av:=ya av;refine B 7 ?_;refine aL results132 rfl A0 ?_;refine vb (D8.2 ?_)
  (try simp only[decide_eq_true_eq,Bool.false_eq_true,false_iff,true_iff])
  first|omega|(intro h;omega)
 replace av:=ya av;refine B 7 ?_;refine aL results132 rfl A0 ?_;refine vb (D8.2 ?_)
 (try simp only[decide_eq_true_eq,Bool.false_eq_true,false_iff,true_iff])
 first|omega|(intro h;omega)
theorem n7h(a:Int)(w:World):Calls prog 133 #[ab a] w (aU w (ab (gExp 4 a).1)):=by
 refine ei 8 func133 ntmps133 ?_;refine call call124 rfl rfl rfl (λW hS=>n4i _ W) ?_;refine B 14 ?_;refine aL results133 rfl A0 ?_;rfl
theorem nEn(a:Int)(w:World):Calls prog 79 #[ab a] w (aU w (rE (J4 a))):=by
 refine ei 10 func79 ntmps79 ?_;refine call call132 rfl rfl rfl (λW hS=>nbj _ W) ?_;refine aG 3 ?_ ?_
 ·intro av;refine B 8 ?_;exact zoh
 intro av;refine B 5 ?_;refine call call133 rfl rfl rfl (λW hS=>n7h _ W) ?_;refine B 5 ?_;exact zoh
theorem XN(n:Nat)(h1:1<=n)(h2:n<=31):(IntKind.u64.wrap (-(n:Int)))%32=((32-n:Nat):Int):=by rw[nD];omega
theorem Qu(x:BitVec 32)(n:Nat)(h1:1<=n)(h2:n<=31)(w:World):Calls prog 285 #[u32 x,ab (-(n:Int))] w (aU w (u32 (AO x n))):=by
 refine ei 8 func285 ntmps285 ?_;refine rv rfl rfl rfl (lg underlying3 underlying222 rfl) ?_;refine rq (.int .u64 ((32-n:Nat):Int)) (rB 5 32 zz rfl rfl rfl rfl (by rw[nD];omega) (by rw[nD];omega)) (vu (XN n h1 h2)) ?_;refine B 7 ?_;refine rv rfl rfl rfl (D9 (32-n) aa rfl rfl rfl) ?_;refine aF 2 (.int .u64 (n:Int)) ?_;refine rv rfl rfl rfl (yK n aa rfl rfl rfl) ?_;refine rv rfl rfl rfl (AP rfl rfl) ?_;refine B 4 ?_;refine aL results285 rfl A0 ?_;exact congrArg u32 (BitVec.or_comm _ _)
theorem nFf(x:BitVec 32)(a b c:Nat)(ha:1<=a)(gb:a<=31)(hb:1<=b)(hb1:b<=31)(hc:1<=c)(av:c<=31)(w:World):Calls prog 286 #[u32 x,ab (a:Int),ab (b:Int),ab (c:Int)] w (aU w (u32 (AO x a^^^AO x b^^^AO x c))):=by
 refine ei 9 func286 ntmps286 ?_;refine rv rfl rfl rfl (yL rfl aa aa) ?_;refine call call285 rfl rfl rfl (λW hS=>Qu _ a aa aa W) ?_;refine B 2 ?_;refine rv rfl rfl rfl (yL rfl aa aa) ?_;refine call call285 rfl rfl rfl (λW hS=>Qu _ b aa aa W) ?_;refine rv rfl rfl rfl (lh rfl rfl) ?_;refine B 2 ?_;refine rv rfl rfl rfl (yL rfl aa aa) ?_;refine call call285 rfl rfl rfl (λW hS=>Qu _ c aa aa W) ?_;refine rv rfl rfl rfl (lh rfl rfl) ?_;refine B 4 ?_;refine aL results286 rfl A0 ?_;rfl
def AQ (m:Nat->Int):Nat->BitVec 32
 |0=>0
 |n+1=>AQ m n<<<8|||BitVec.ofInt 32 (m n)
theorem J5(m:Nat->Int):AQ m 4=Vk m 0:=by grind [AQ,Vk]
theorem ngn(m:Nat->Int)(b off n c t:Nat)(fr:Nat×Nat)(cs:Array Value)(hn:4<=n)(hc:n<=c)(w:World)(hb0:w.heap[b]? =some (.cells cs t fr))(hm:∀i,i<4->cs[off+i]? =some (.int .u8 (m i))):Calls prog 284 #[.slice (some ⟨b,off,none⟩) n c] w (aU w (u32 (Vk m 0))):=by
 have xO:¬Gh.no.M b:=λh=>h;refine ei 9 func284 ntmps284 ?_;refine rv rfl rfl rfl (fM (h:=4) underlying106 sizeOf5 rfl ⟨_,_,rfl,rfl⟩ aa) ?_;refine B 5 ?_;refine CJ.lp (α:=Nat) [6,7] (λj=>[(2,u32 (AQ m j)),(8,ab (j:Int))]) (λj=>[]) (λj=>j<=4) (λj=>4-j) 0 zz ?_;rintro j hj;refine aG 6 ?_ ?_
 ·intro av;refine B 7 ?_;refine rv rfl rfl rfl (ar (v:=.int .u8 (m j)) isAgg5 rfl A0 hb0 xO trivial (by rw[<-hm j aa];exact congrArg (λi=>cs[i]?) aa)) ?_;refine B 5 ?_;refine rv rfl rfl rfl (D9 8 zz rfl rfl rfl) ?_;refine B 1 ?_;refine rv rfl rfl rfl (Qv underlying5 underlying303 rfl) ?_;refine rv rfl rfl rfl (AP rfl rfl) ?_;refine B 8 ?_;exact J3
 intro av;refine B 12 ?_;refine aL results284 rfl A0 ?_;have e:j=4:=by omega
 subst e;exact congrArg u32 (J5 m)
def uW (cs:Array Value) (off len:Nat) (n:Nat):Nat->Array Value
 |0=>cs
 |i+1=>setCells (uW cs off len n i) (off+(len-1-i)) [.int .u8 ((n/2^(8*i)%256:Nat):Int)]
theorem nYp(cs:Array Value)(off len n:Nat):∀i,(uW cs off len n i).size=cs.size:=
 by intro x;induction x<;>(intros;grind [uW,nle])
theorem XO(n i:Nat)(k:Int)(hk:k=((8*i:Nat):Int))(hi:i<=7):(n:Int).fdiv (2^(min (Int.toNat k) IntKind.u64.bits))%256=((n/2^(8*i)%256:Nat):Int):=by
 rw[Oj n (8*i) k hk aa];omega
theorem nre(n:Nat)(b off len cap t:Nat)(cs:Array Value)(hlen:len<=8)(J:off+len<=cs.size)(w:World)(hb:w.heap[b]? =some (oC cs t)):Calls prog 234 #[.slice (some ⟨b,off,none⟩) len cap,.int .u64 (n:Int)] w (J2 w (.tuple #[]) b (oC (uW cs off len n len) t)):=by
 refine nB Gh.no [(b,_)] (vs:=[_,_]) func234 rfl ntmps234 rfl (nnm hb) ?_;refine B 8 ?_;refine CJ.lp (α:=Nat) [0,1,6] (λj=>[(7,ab (j:Int))]) (λj=>[(b,oC (uW cs off len n j) t)]) (λj=>j<=len) (λj=>len-j) 0 (cO _) ?_;rintro j hj;refine aG 6 ?_ ?_
 ·intro av;refine B 20 ?_;refine rv rfl rfl rfl (mC rfl rfl aa) ?_;refine rq (.int .u8 ((n/2^(8*j)%256:Nat):Int)) (pz underlying233 underlying5 rfl) (congrArg (Value.int .u8) (XO n j _ aa aa)) ?_;refine rq (ptr b (off+(len-1-j))) (bC underlying106 sizeOf5 rfl rfl aa aa) (congrArg (λk=>ptr b (off+k)) aa) ?_;refine kT (i:=0) rfl sizeOf5 rfl rfl rfl rfl (by rw[nYp];omega) rfl ?_;refine B 7 ?_;exact J3
 intro av;refine B 4 ?_;have e:j=len:=by omega
 subst e;refine bS (.inr rfl) results234 bD (λW hS=>⟨rfl,(hS.links w A0).mono λk _ hk=>?_,hS.own _ A0⟩);simpa[Gh.no]using hk
theorem Oq(n:Nat)(f:Nat->Value)(i k:Nat)(h:k=i)(hi:i<n):(cf n f)[k]? =some (f i):=by subst h;exact Ot n f k hi
theorem S8.cells_ld(s:S8)(i k:Nat)(h:k=i)(hi:i<8):s.cells[k]? =some (u32 (s.at i)):=by subst h;exact s.cells_at k hi
theorem Ea(m:Nat->Int)(j:Nat)(v:BitVec 32)(hv:v=if j<16 then Vk m (4*j)else gC m j (j-16)+s0 (gC m j (j-15))+gC m j (j-7)+s1 (gC m j (j-2))):setCells (cf 64 (λi=>u32 (gC m j i))) j (u32 v).cells.toList=cf 64 (λi=>u32 (gC m (j+1) i)):=by
 show setCells (cf 64 (λi=>u32 (gC m j i))) j [u32 v]=_;rw[XP];congr 1;funext i;simp only[gC,J6];split<;>simp_all
def tv (s v:S8) (j:Nat):Array Value:=cf 8 (λk=>u32 (if k<j then s.at k+v.at k else s.at k))
theorem nZp(s v:S8)(j:Nat):setCells (tv s v j) j (u32 (s.at j+v.at j)).cells.toList=tv s v (j+1):=by
 show setCells (cf 8 _) j [u32 (s.at j+v.at j)]=_;rw[XP];unfold tv;congr 1;all_goals grind [J6]
theorem Qw(s v:S8):tv s v 8=(s.add v).cells:=rfl
theorem J7(s v:S8)(j k:Nat)(h:k=j)(hj:j<8):(tv s v j)[k]? =some (u32 (s.at j)):=by
 rw[tv,Oq 8 _ j k h hj];simp
theorem noe(s:S8)(m:Nat->Int)(b bb off n c t:Nat)(fr q9:Nat×Nat)(t3:Nat)(cs:Array Value)(hn:64<=n)(hc:n<=c)(w:World)(hb:w.heap[b]? =some (oC s.cells 374))(J:w.heap[bb]? =some (.cells cs t fr))(hm:∀i,i<64->cs[off+i]? =some (.int .u8 (m i)))(hne:bb≠b)(hg:w.heap[5]? =some (.cells (cf 64 (λi=>u32 (kk i))) t3 q9))(C5:b≠5):Calls prog 233 #[ptr b 0,.slice (some ⟨bb,off,none⟩) n c] w (J2 w (.tuple #[]) b (oC (s.comp m).cells 374)):=by
 have XQ:=(bB.1 J).1;have jq:=(bB.1 hb).1;have Qx:=(bB.1 hg).1;refine nB Gh.no [(b,_)] (vs:=[_,_]) func233 rfl ntmps233 rfl (nnm hb) ?_;refine bM 3 ?_;intro b4 iW iX;refine B 9 ?_;refine CJ.lp (α:=Nat) [0,1,4] (λj=>[(14,ab (j:Int))]) (λj=>[(b4,oC (cf 64 (λi=>u32 (gC m j i))) 426),(b,oC s.cells 374)]) (λj=>j<=16) (λj=>16-j) 0 zz ?_;rintro j hj;refine aG 6 ?_ ?_
 ·intro av;refine B 15 ?_;refine rv rfl rfl rfl (gy (l:=4*j) (h:=n) (off':=off+4*j) underlying106 sizeOf5 rfl ⟨_,_,rfl,by omega⟩ rfl aa aa zCc) ?_;refine call call284 rfl rfl rfl (λW hS=>ngn (λi=>m (4*j+i)) _ _ _ _ _ _ _ aa aa W (hS.old A0 J zH zy) (λi hi=>by rw[Nat.add_assoc];exact hm _ aa)) ?_;refine z3d ?_;refine B 7 ?_;refine PJ.reH (H':=[(b4,oC (cf 64 (λi=>u32 (gC m (j+1) i))) 426),(b,oC s.cells 374)]) (by rw[<-Ea m j (Vk (λi=>m (4*j+i)) 0) (by rw[if_pos aa];rfl)];rfl) ?_;exact J3
 intro av;refine B 12 ?_;have e:j=16:=by omega
 subst e;refine CJ.lp (α:=Nat) [0,4] (λj=>[(6,ab (j:Int))]) (λj=>[(b4,oC (cf 64 (λi=>u32 (gC m j i))) 426),(b,oC s.cells 374)]) (λj=>16<=j/\j<=64) (λj=>64-j) 16 zz ?_;rintro j ⟨Vl,hj⟩;refine aG 7 ?_ ?_
 ·intro aS;refine B 5 ?_;refine eA 9 (pb:=by exact zU 3 (k:=by exact aM (X.v (bV (v:=u32 (gC m j (j-15))) (i:=0) rfl isAgg303 rfl (Oq 64 (λi=>u32 (gC m j i)) (j-15) _ aa aa))) (zU 3 (k:=by exact aM (X.v (bV (v:=u32 (gC m j (j-2))) (i:=0) rfl isAgg303 rfl (Oq 64 (λi=>u32 (gC m j i)) (j-2) _ aa aa))) zT)))) (k:=?_);refine B 3 ?_;refine eA 28 (pb:=by exact zU 4 (k:=by exact aM (X.v (bV (v:=u32 (gC m j (j-16))) (i:=0) rfl isAgg303 rfl (Oq 64 (λi=>u32 (gC m j i)) (j-16) _ aa aa))) (zU 1 (k:=by exact aM (nf call285 rfl rfl (λW hS _=>Qu _ 7 zz zz W) (λ_=>rfl)) (zU 1 (k:=by exact aM (nf call285 rfl rfl (λW hS _=>Qu _ 18 zz zz W) (λ_=>rfl)) (aM (X.v (lh rfl rfl)) (zU 1 (k:=by exact aM (X.v (yK 3 zz rfl rfl rfl)) (aM (X.v (lh rfl rfl)) (aM (X.v (jr rfl rfl)) (zU 3 (k:=by exact aM (X.v (bV (v:=u32 (gC m j (j-7))) (i:=0) rfl isAgg303 rfl (Oq 64 (λi=>u32 (gC m j i)) (j-7) _ aa aa))) (aM (X.v (jr rfl rfl)) (zU 1 (k:=by exact aM (nf call285 rfl rfl (λW hS _=>Qu _ 17 zz zz W) (λ_=>rfl)) (zU 1 (k:=by exact aM (nf call285 rfl rfl (λW hS _=>Qu _ 19 zz zz W) (λ_=>rfl)) (aM (X.v (lh rfl rfl)) (zU 1 (k:=by exact aM (X.v (yK 10 zz rfl rfl rfl)) (aM (X.v (lh rfl rfl)) (aM (X.v (jr rfl rfl)) (ra rfl)))))))))))))))))))))))) (k:=?_)
  refine z3d ?_;refine B 8 ?_;refine PJ.reH (H':=[(b4,oC (cf 64 (λi=>u32 (gC m (j+1) i))) 426),(b,oC s.cells 374)]) (by rw[<-Ea m j _ XR];rfl) ?_;exact J3
 intro aS;refine bM 11 ?_;intro b9 xP uh;refine B 10 ?_;have e:j=64:=by omega
 subst e;obtain⟨ws,hX⟩:∃ws,ws=gC m 64:=⟨_,rfl⟩;refine CJ.reH (H':=[(b9,oC s.cells 374),(b4,oC (cf 64 (λi=>u32 (ws i))) 426),(b,oC s.cells 374)]) (by rw[hX];rfl) ?_;refine CJ.lp (α:=Nat) [0,4,9] (λj=>[(69,ab (j:Int))]) (λj=>[(b9,oC (S8.run ws s j).cells 374),(b4,oC (cf 64 (λi=>u32 (ws i))) 426),(b,oC s.cells 374)]) (λj=>j<=64) (λj=>64-j) 0 zz ?_;rintro j hj;dsimp only;generalize hv:S8.run ws s j=v;refine aG 6 ?_ ?_
 ·intro dh;refine B 11 ?_;refine eA 25 (pb:=by exact zU 4 (k:=by exact aM (nf call286 rfl rfl (λW hS _=>nFf _ 6 11 25 zz zz zz zz zz zz W) (λ_=>rfl)) (aM (X.v (jr rfl rfl)) (zU 8 (k:=by exact aM (X.v (lh rfl rfl)) (aM (X.v (yM rfl rfl)) (aM (X.v (lh rfl rfl)) (aM (X.v (jr rfl rfl)) (zU 2 (k:=by exact aM (X.v (ar (v:=u32 (kk j)) isAgg303 rfl A0 hg zH zy (Oq 64 (λi=>u32 (kk i)) j _ aa aa))) (aM (X.v (jr rfl rfl)) (zU 2 (k:=by exact aM (X.v (bV (v:=u32 (ws j)) (i:=1) rfl isAgg303 rfl (Oq 64 (λi=>u32 (ws i)) j _ aa aa))) (ra rfl)))))))))))))) (k:=?_);refine rv rfl rfl rfl (jr rfl rfl) ?_;refine B 4 ?_;refine eA 17 (pb:=by exact zU 2 (k:=by exact aM (nf call286 rfl rfl (λW hS _=>nFf _ 2 13 22 zz zz zz zz zz zz W) (λ_=>rfl)) (zU 4 (k:=by exact aM (X.v (yM rfl rfl)) (zU 6 (k:=by exact aM (X.v (AP rfl rfl)) (aM (X.v (yM rfl rfl)) (aM (X.v (AP rfl rfl)) (ra rfl))))))))) (k:=?_);refine rv rfl rfl rfl (jr rfl rfl) ?_;refine B 4 ?_;refine eA 2 (pb:=by exact aM (X.v (Eb (l:=1) underlying374 sizeOf303 rfl ⟨_,_,rfl,rfl⟩ rfl aa aa XR)) (aM (X.v (gd (h:=7) underlying374 sizeOf303 rfl ⟨_,_,rfl,rfl⟩ aa)) (ra rfl))) (k:=?_);refine Vm (i:=0) (n:=7) rfl underlying430 sizeOf303 rfl rfl rfl rfl (λ_=>rfl) zz (Rd.own (i:=0) rfl (er rfl) rfl) (er rfl) rfl ?_
  refine B 3 ?_;refine CJ.reH (H':=[(b9,oC #[u32 v.a,u32 v.a,u32 v.b,u32 v.c,u32 v.d,u32 v.e,u32 v.f,u32 v.g] 374),(b4,oC (cf 64 (λi=>u32 (ws i))) 426),(b,oC s.cells 374)]) rfl ?_;refine B 4 ?_;refine zYf ?_;refine B 5 ?_;refine zYf ?_;refine B 7 ?_;refine PJ.reH (H':=[(b9,oC (S8.run ws s (j+1)).cells 374),(b4,oC (cf 64 (λi=>u32 (ws i))) 426),(b,oC s.cells 374)]) (by simp only[S8.run,hv,S8.step,S8.P,S8.Q,<-J8,<-J9];rfl) ?_;exact J3
 intro dh;refine B 11 ?_;have e:j=64:=by omega
 subst e;refine CJ.lp (α:=Nat) [0,9] (λj=>[(129,ab (j:Int))]) (λj=>[(b9,oC v.cells 374),(b4,oC (cf 64 (λi=>u32 (ws i))) 426),(b,oC (tv s v j) 374)]) (λj=>j<=8) (λj=>8-j) 0 zz ?_;rintro j hj;refine aG 6 ?_ ?_
 ·intro iR;refine B 10 ?_;refine eA 10 (pb:=by exact zU 4 (k:=by exact aM (X.v (bV (v:=u32 (s.at j)) (i:=2) rfl isAgg303 rfl (J7 s v j _ aa aa))) (zU 2 (k:=by exact aM (X.v (bV (v:=u32 (v.at j)) (i:=0) rfl isAgg303 rfl (S8.cells_ld _ j _ aa aa))) (aM (X.v (jr rfl rfl)) zT))))) (k:=?_);refine rq (ptr b j) (uX underlying374 sizeOf303 rfl rfl aa aa) (congrArg (ptr b) aa) ?_;refine kT (i:=2) rfl sizeOf303 rfl rfl rfl rfl (by rw[tv,Ec];omega) rfl ?_;refine B 7 ?_;refine PJ.reH (H':=[(b9,oC v.cells 374),(b4,oC (cf 64 (λi=>u32 (ws i))) 426),(b,oC (tv s v (j+1)) 374)]) (by rw[<-nZp];rfl) ?_;exact J3
 intro iR;refine B 4 ?_;have e:j=8:=by omega
 subst e;rw[show(s.comp m).cells=tv s v 8 from by rw[Qw,S8.comp,<-hX,hv]];refine bS (.inr rfl) results233 bD (λW hS=>⟨rfl,(hS.links w A0).mono λk hk hx=>?_,hS.own _ A2⟩);simp only[Gh.no,dP,fu,cd,dZ,or_false,false_or]at hx;omega
theorem Vn:prog.info? 5=some Tryz.t5:=by kernel_rfl
theorem Ed(N:Nat)(g:Nat->Value):∀(news:List Value) (f:Nat->Value) (off:Nat),(∀i,i<news.length->news[i]? =some (g (off+i)))->setCells (cf N f) off news=cf N (λi=>if off<=i/\i<off+news.length then g i else f i)
 | [],f,off,_=>by
  show cf N f=_;apply Vo;intro i _;rw[if_neg (by simp only[fJ];omega)]
 |v::vs,f,off,h=>by
  have h0:=h 0 zI;simp only[Ka,wK,Nat.add_zero]at h0;show setCells (setCells (cf N f) off [v]) (off+1) vs=_;rw[XP,Ed N g vs _ (off+1) (λi hi=>by
   have:=h (i+1) mZ;simp only[Jc]at this;rw[this];congr 2;omega)]
  apply Vo;intro i _;simp only[dI,J6];by_cases h1:i=off
  ·subst h1;rw[if_neg aa,if_pos rfl,if_pos aa,h0]
  by_cases h2:off+1<=i/\i<off+1+vs.length
  ·rw[if_pos h2,if_pos aa]
  rw[if_neg h2,if_neg h1,if_neg aa]
theorem n7j(N:Nat)(f:Nat->Value)(off len n:Nat):∀k,k<=len->uW (cf N f) off len n k=cf N (λi=>if off+(len-k)<=i/\i<off+len then .int .u8 ((n/2^(8*(off+len-1-i))%256:Nat):Int)else f i)
 |0,_=>by
  show cf N f=_;apply Vo;intro i _;rw[if_neg aa]
 |k+1,hk=>by
  rw[uW,n7j N f off len n k aa,XP];apply Vo;intro i _;simp only[J6];by_cases h1:i=off+(len-1-k)
  ·rw[if_pos h1,if_pos aa,show off+len-1-i=k by omega]
  rw[if_neg h1];by_cases h2:off+(len-k)<=i/\i<off+len
  ·rw[if_pos h2,if_pos aa]
  rw[if_neg h2,if_neg aa]
theorem XS(f:Nat->Int):cf 32 (λk=>.int .u8 (f k))=dg f:=rfl
theorem nKn{cs:Array Value}{o r:Nat}{m:Nat->Int}(h:o+r<=cs.size)(hm:∀i,i<r->cs[o+i]? =some (.int .u8 (m i))):∀i,i<((cs.toList.drop o).take (r*1)).length->((cs.toList.drop o).take (r*1))[i]? =some (.int .u8 (m i)):=by grind
theorem nBi{cs:Array Value}{o r:Nat}(h:o+r<=cs.size):((cs.toList.drop o).take (r*1)).length=r:=by simp;omega
theorem nmo{m:Nat->Int}:∀(l:List Value),(∀i,i<l.length->l[i]? =some (.int .u8 (m i)))->bG l=true
 | [],_=>rfl
 |v::l,h=>by
  have h0:=h 0 zI;simp at h0;subst h0;simp only[bG,yN,Bool.true_and];exact nmo (m:=λi=>m (i+1)) l λi hi=>by have:=h (i+1) mZ;simpa using this
def rH (n:Nat) (m:Nat->Int) (j N i:Nat):Value:=if(N-8)+(8-8)<=i/\i<(N-8)+8 then .int .u8 ((8*n/2^(8*((N-8)+8-1-i))%256:Nat):Int)else J6 (λi=>if 0<=i/\i<0+(n-64*j)then .int .u8 (m (64*j+i))else C6) (n-64*j) (.int .u8 128) i
theorem nOm(n:Nat)(m:Nat->Int)(j N:Nat):uW (setCells (cf 128 (λi=>if 0<=i/\i<0+(n-64*j)then .int .u8 (m (64*j+i))else C6)) (n-64*j) [.int .u8 128]) (N-8) 8 (8*n) 8=cf 128 (rH n m j N):=by
 rw[XP,n7j 128 _ _ 8 _ 8 (aj _)];rfl
theorem nJl(n:Nat)(m:Nat->Int)(j N i:Nat)(hj:64*j<=n)(hN:64*(iq n-j)=N)(hr:n-64*j<64)(hi:i<N):rH n m j N i= .int .u8 (yO n m (64*j+i)):=by grind [iq,rH,yO,J6]
def lk (s:S8) (i:Nat):Array Value:=cf 32 (λk=>.int .u8 (if k<4*i then Ee s k else 0))
theorem nVk(s:S8)(i:Nat)(hi:i<8):uW (lk s i) (4*i) 4 (s.at i).toNat 4=lk s (i+1):=by
 unfold lk;rw[n7j 32 _ (4*i) 4 _ 4 (aj _)];apply Vo;all_goals grind [Ee]
theorem Qy(s:S8):lk s 8=dg (Ee s):=by grind [XS,lk,Vo]
theorem Kb(n:Nat)(m:Nat->Int)(i:Nat)(h:i<n):yO n m i=m i:=by unfold yO;rw[if_pos h]
theorem ncg(n:Nat)(m:Nat->Int)(bb off c t t2 t3:Nat)(fr xQ q9:Nat×Nat)(cs:Array Value)(hc:n<=c)(hn:n<1152921504606846976)(w:World)(AR:w.heap[bb]? =some (.cells cs t fr))(od:off+n<=cs.size)(hm:∀i,i<n->cs[off+i]? =some (.int .u8 (m i)))(an:w.heap[3]? =some (.cells S8.init.cells t2 xQ))(hg:w.heap[5]? =some (.cells (cf 64 (λi=>u32 (kk i))) t3 q9)):Calls prog 164 #[.slice (some ⟨bb,off,none⟩) n c] w (aU w (.agg (dg (vX n m)))):=by
 have XQ:=(bB.1 AR).1;have ay:=(bB.1 an).1;have Qx:=(bB.1 hg).1;refine eN func164 ntmps164 ?_;refine bM 3 ?_;intro b2 dL dH;refine bM 6 ?_;intro b3 eO fw;refine B 5 ?_;refine XT ?_;refine B 11 ?_;refine CJ.loop (α:=Nat×Nat) (λp=>[(0,.slice (some ⟨bb,off,none⟩) n c),(2,ptr b2 0),(3,ptr b3 0),(4,.func (.func 233) #[ptr b3 0] #[]),(5,.slice (some ⟨bb,p.2,none⟩) (n-64*p.1) (c-64*p.1))]) (λp=>[(b3,oC (tw n m p.1).cells 374),(b2,oC (ui []).toArray 33)]) (λp=>[w]) (λp=>Gh.no) (λp=>64*p.1<=n/\(64*p.1<c->p.2=off+64*p.1)/\p.2<=off+64*p.1) (λp=>n-64*p.1) (0,off) zS zR rfl rfl zI ?_;rintro⟨j,o⟩ ⟨hj,ho,jJ⟩;dsimp only at hj ho jJ ⊢;refine aG 8 ?_ ?_
 ·intro av;refine zMf ?_;refine XK (f:=233) (i:=0) (first:=[ptr b3 0]) (cap:=[]) rfl rfl call233 rfl rfl rfl (λW hS hW=>noe (tw n m j) (λi=>yO n m (64*j+i)) b3 bb o 64 (c-64*j) t fr q9 t3 cs aa aa W hW (hS.old A0 AR zH zy) (λi hi=>by rw[Kb n m _ aa,<-hm _ aa];exact congrArg (λk=>cs[k]?) (by have:=ho aa;omega)) aa (hS.old A0 hg zH zy) aa) ?_;refine B 5 ?_;refine rv rfl rfl rfl (gy (l:=64) (h:=n-64*j) underlying106 sizeOf5 rfl ⟨_,_,rfl,rfl⟩ rfl aa aa rfl) ?_;refine B 2 ?_;refine PJ.again (j+1,if c-64*j=64 then o else o+64*1) (by dsimp only;split<;>omega) zS ⟨rfl,rfl,rfl,rfl,by rw[show n-64*(j+1)=n-64*j-64 by omega,show c-64*(j+1)=c-64*j-64 by omega];rfl,trivial⟩ rfl rfl zI
 intro av;refine B 7 ?_;refine XU (ln:=64) (cp:=128) underlying106 Vn rfl rfl rfl rfl rfl rfl rfl aa zz aa ?_;refine yW ?_;intro rI Ef Qz;refine B 4 ?_;have al:∀i,i<n-64*j->cs[o+i]? =some (.int .u8 (m (64*j+i))):=λi hi=>by rw[<-hm _ aa];exact congrArg (λk=>cs[k]?) (by have:=ho aa;omega)
 refine B 3 ?_;refine Vm (i:=0) (n:=n-64*j) rfl underlying106 sizeOf5 rfl rfl rfl rfl (λ_=>rfl) aa (Rd.old A0 AR zH zy aa rfl) (by rw[nBi aa,Ec];omega) (nmo _ (nKn (m:=λi=>m (64*j+i)) aa al)) ?_;refine B 3 ?_;refine CJ.reH (H':=[(rI,oC (cf 128 (λi=>if 0<=i/\i<0+(n-64*j)then .int .u8 (m (64*j+i))else C6)) 5),(b3,oC (tw n m j).cells 374),(b2,oC (ui []).toArray 33)]) (by rw[<-nBi (cs:=cs) (o:=o) (r:=n-64*j) aa,<-Ed 128 (λi=>.int .u8 (m (64*j+i))) _ _ 0 (by intro i hi;rw[mx];exact nKn (m:=λi=>m (64*j+i)) aa al i hi),nBi aa];rfl) ?_;refine B 4 ?_;refine rq (ptr rI (n-64*j)) (bC underlying106 sizeOf5 rfl rfl aa aa) (congrArg (ptr rI) aa) ?_;refine kT (i:=0) rfl sizeOf5 rfl rfl rfl rfl (by rw[Ec];omega) rfl ?_;refine aG 10 ?_ ?_
 ·intro aS;refine B 2 ?_;refine rv rfl rfl rfl (fM (h:=128) underlying106 sizeOf5 rfl ⟨_,_,rfl,rfl⟩ aa) ?_;refine B 4 ?_;obtain⟨N,hN,hNN⟩:∃N,N=128/\64*(iq n-j)=N:=⟨128,rfl,by unfold iq;omega⟩;refine B 5 ?_;refine rv rfl rfl rfl (gy (l:=120) (h:=128) (off':=120) underlying106 sizeOf5 rfl ⟨_,_,rfl,rfl⟩ rfl aa aa rfl) ?_;refine B 3 ?_;refine zId ?_;refine OJ.reH (H':=[(rI,oC (cf 128 (rH n m j N)) 5),(b3,oC (tw n m j).cells 374),(b2,oC (ui []).toArray 33)]) (by subst hN;rw[<-nOm];rfl) ?_;refine B 4 ?_;refine CJ.loop (α:=Nat×Nat) (λp=>[(2,ptr b2 0),(3,ptr b3 0),(4,.func (.func 233) #[ptr b3 0] #[]),(6,.slice (some ⟨rI,p.2,none⟩) (N-64*p.1) (128-64*p.1))]) (λp=>[(rI,oC (cf 128 (rH n m j N)) 5),(b3,oC (tw n m (j+p.1)).cells 374),(b2,oC (ui []).toArray 33)]) (λp=>[w]) (λp=>Gh.no) (λp=>64*p.1<=N/\(64*p.1<128->p.2=64*p.1)) (λp=>N-64*p.1) (0,0) zS ⟨rfl,rfl,rfl,by subst hN;rfl,trivial⟩ rfl rfl zI ?_;rintro⟨k,o2⟩ ⟨hk,dH⟩;dsimp only at hk dH ⊢;refine aG 8 ?_ ?_
  ·intro dh;exact zIg
  intro dh;refine B 13 ?_;have J:j+k=iq n:=by unfold iq at *;omega
  rw[J];refine zFd ?_;rintro i hi;refine aG 6 ?_ ?_
  ·intro iR;refine zWf ?_;refine ag (i+1) aa
  intro iR;exact zXg
 intro aS;refine B 3 ?_;obtain⟨N,hN,hNN⟩:∃N,N=64/\64*(iq n-j)=N:=⟨64,rfl,by unfold iq;omega⟩;refine B 5 ?_;refine rv rfl rfl rfl (gy (l:=56) (h:=64) (off':=56) underlying106 sizeOf5 rfl ⟨_,_,rfl,rfl⟩ rfl aa aa rfl) ?_;refine B 3 ?_;refine zId ?_;refine OJ.reH (H':=[(rI,oC (cf 128 (rH n m j N)) 5),(b3,oC (tw n m j).cells 374),(b2,oC (ui []).toArray 33)]) (by subst hN;rw[<-nOm];rfl) ?_;refine B 4 ?_;refine CJ.loop (α:=Nat×Nat) (λp=>[(2,ptr b2 0),(3,ptr b3 0),(4,.func (.func 233) #[ptr b3 0] #[]),(6,.slice (some ⟨rI,p.2,none⟩) (N-64*p.1) (128-64*p.1))]) (λp=>[(rI,oC (cf 128 (rH n m j N)) 5),(b3,oC (tw n m (j+p.1)).cells 374),(b2,oC (ui []).toArray 33)]) (λp=>[w]) (λp=>Gh.no) (λp=>64*p.1<=N/\(64*p.1<128->p.2=64*p.1)) (λp=>N-64*p.1) (0,0) zS ⟨rfl,rfl,rfl,by subst hN;rfl,trivial⟩ rfl rfl zI ?_;rintro⟨k,o2⟩ ⟨hk,dH⟩;dsimp only at hk dH ⊢;refine aG 8 ?_ ?_
 ·intro gU;exact zIg
 intro gU;refine B 13 ?_;have J:j+k=iq n:=by unfold iq at *;omega
 rw[J];refine zFd ?_;rintro i hi;refine aG 6 ?_ ?_
 ·intro kY;refine zWf ?_;refine ag (i+1) aa
 intro kY;exact zXg
theorem Eg(n:Nat)(h0:0<n)(h1:n<=1099511627776)(w:World):Calls prog 235 #[ak,ab (n:Int)] w (dc w (λp:Nat×Nat=>.slice (ao p.1) 0 p.2) (λp w1=>w.heap.size<=p.1/\n<=p.2/\w1.heap[p.1]? =some (oC (cf p.2 (λ_=>C6)) 5))):=by
 refine eN func235 ntmps235 ?_;refine aF 9 bH ?_;refine aF 14 (ab (n:Int)) ?_;refine aF 6 cD ?_;refine B 7 ?_;refine rv rfl rfl rfl (XV underlying106 sizeOf5 rfl ⟨_,_,rfl,rfl⟩) ?_;refine B 1 ?_;refine XW underlying106 underlying3 Vn rfl rfl rfl rfl rfl rfl rfl rfl h0 h1 ?_;intro J cap QA an aq;replace QA:=yb QA;refine B 2 ?_;refine rv rfl rfl rfl (fM (h:=0) underlying106 sizeOf5 rfl ⟨_,_,rfl,rfl⟩ aa) ?_;refine B 10 ?_;exact bS (.inl rfl) results235 bD (λW hS=>⟨(J,cap),rfl,hS.base A0 C7,by omega,by omega,hS.own _ A0⟩)
def nzj (ss:List uj):Array Value:=(ss.map uj.val).toArray
theorem njj(ss:List uj)(j k:Nat)(h:k=j)(hj:j<ss.length):(nzj ss)[k]? =some ss[j].val:=by subst h;simp[nzj,hj]
theorem nih(ss:List uj)(b0 c0 t0:Nat)(fg:Nat×Nat)(hk:ss.length<1000)(h0:0<(nG ss).length)(h1:(nG ss).length<=1099511627776)(w:World)(hb0:w.heap[b0]? =some (.cells (nzj ss) t0 fg))(XX:∀s∈ss,s.At w):Calls prog 165 #[.slice (ao b0) ss.length c0] w (dc w (λp:Nat×Nat×List Value=>.slice (ao p.1) (nG ss).length p.2.1) (λp w1=>w.heap.size<=p.1/\((nG ss).length<=p.2.1/\p.2.2.length=p.2.1-(nG ss).length)/\w1.heap[p.1]? =some (oC (nG ss++p.2.2).toArray 5))):=by
 have bQ:=(bB.1 hb0).1;refine ei 19 func165 ntmps165 ?_;refine CJ.loop (α:=Nat) (λj=>[(0,.slice (ao b0) ss.length c0),(3,ab (((nG (ss.take j)).length:Nat):Int)),(9,.slice (ao b0) ss.length c0),(10,ab (ss.length:Int)),(11,ab (j:Int))]) (λj=>[]) (λj=>[w]) (λj=>Gh.no) (λj=>j<=ss.length) (λj=>ss.length-j) 0 (cO _) zR rfl rfl zI ?_;rintro j hj;have my:=nHg ss (j+1);have J:∀h:j<ss.length,(nG (ss.take (j+1))).length=(nG (ss.take j)).length+(ss[j]).n:=λh=>by rw[nhg ss j h,cB];exact congrArg (_+ ·) (Eh _ _)
 refine aG 6 ?_ ?_
 ·intro av;refine B 5 ?_;have C8:j<ss.length:=by omega
  have aq:=J C8;refine B 2 ?_;refine rv rfl rfl rfl (ar (v:=(ss[j]'aa).val) isAgg106 rfl A0 hb0 zH trivial (njj ss j _ aa aa)) ?_;refine aF 8 (ab (((nG (ss.take (j+1))).length:Nat):Int)) ?_;refine aF 6 bH ?_;refine B 10 ?_;exact J3
 intro av;refine B 6 ?_;have e:j=ss.length:=by omega
 subst e;rw[iC (aj _)];refine B 2 ?_;refine QC (bo:=λp:Nat×Nat=>(p.1,oC (cf p.2 (λ_=>C6)) 5)) (Φ:=λp=>(nG ss).length<=p.2) call235 rfl rfl rfl (λW hS=>Eg _ h0 h1 W) ?_;rintro⟨bg,cg⟩ al cq dG;simp only[ah]at al dG;refine B 12 ?_;refine CJ.loop (α:=Nat×Nat×Nat×List Value) (λp=>[(6,.slice (ao p.2.1) (nG (ss.take p.1)).length p.2.2.1),(25,.slice (ao b0) ss.length c0),(26,ab (ss.length:Int)),(27,ab (p.1:Int))]) (λp=>[(p.2.1,oC (nG (ss.take p.1)++p.2.2.2).toArray 5)]) (λp=>[w]) (λp=>Gh.no) (λp=>p.1<=ss.length/\w.heap.size<=p.2.1/\(nG (ss.take p.1)).length<=p.2.2.1/\p.2.2.2.length=p.2.2.1-(nG (ss.take p.1)).length) (λp=>ss.length-p.1) (0,bg,cg,(List.range cg).map (λ_=>C6)) ⟨cO _,al.1,cO _,by simp[nG]⟩ zR rfl rfl zI ?_;rintro⟨j,b,cap,sp⟩ ⟨hj,h2,h3,h4⟩;dsimp only at hj h2 h3 h4 ⊢;have my:=nHg ss (j+1);have J:∀h:j<ss.length,(nG (ss.take (j+1))).length=(nG (ss.take j)).length+(ss[j]).n:=λh=>by rw[nhg ss j h,cB];exact congrArg (_+ ·) (Eh _ _)
 refine aG 6 ?_ ?_
 ·intro aS;refine B 5 ?_;have C8:j<ss.length:=by omega
  have aq:=J C8;refine B 2 ?_;refine rv rfl rfl rfl (ar (v:=(ss[j]'aa).val) isAgg106 rfl A0 hb0 zH zy (njj ss j _ aa aa)) ?_;refine B 3 ?_;obtain⟨bx,tj,br,Vp,cb,ay⟩:=XX (ss[j]'aa) (XY _);have bh:=(bB.1 Vp).1;refine B 3 ?_;refine ag7 (i:=0) (m:=1) (ys:=nG (ss.take j)) (sp:=sp) (news:=(ss[j]'aa).l) (n:=(ss[j]'aa).n) rfl underlying106 Vn rfl rfl rfl rfl rfl rfl rfl (pA.sl underlying106 (Rd.old A0 Vp zH zy aa (nqk aa ay)) (by rw[xR];exact Eh _ _) (Ej _ _)) aa aa h3 ⟨h2,trivial⟩ aa (by show _*1<=_;omega) ?_;intro b' bA bZ XZ X2 kJ;simp only[ah]at XZ;refine B 8 ?_;refine PJ.reH (H':=[(b',oC (nG (ss.take (j+1))++bZ).toArray 5)]) (by rw[nhg ss j aa];rfl) ?_;refine PJ.again (j+1,b',bA,bZ) ⟨by dsimp only;omega,XZ.1,by dsimp only;rw[J aa];exact X2,by dsimp only;rw[J aa];omega⟩ zS ⟨by rw[J aa];rfl,rfl,rfl,rfl,trivial⟩ rfl rfl zI
 intro aS;refine B 12 ?_;have e:j=ss.length:=by omega
 subst e;rw[iC (aj _)]at h3 h4 ⊢;exact bS (.inl rfl) results165 bD (λW hS=>⟨(b,cap,sp),rfl,hS.base A0 C7,h2,⟨h3,h4⟩,hS.own _ A0⟩)
def yP (n:Nat) (m m':Nat->Int) (i:Nat):Int:=if i<n then m i else m' (i-n)
theorem nSk(n J:Nat)(m m':Nat->Int):lT n m++lT J m'=lT (n+J) (yP n m m'):=by
 apply C9;all_goals grind [Eh,lT,yP]
theorem nio(n:Nat)(m:Nat->Int)(sp:List Value)(i:Nat)(h:i<n):((lT n m++sp).toArray)[0+i]? =some (.int .u8 (m i)):=by grind [Eh,lT]
def tagged (s:ByteArray) (n:Nat) (m:Nat->Int):Nat->Int:=vX (32+n) (yP 32 (vX s.size (sB s)) m)
theorem nqe(s:ByteArray)(n:Nat)(m:Nat->Int)(bb off c t t2 t3:Nat)(fr xQ q9:Nat×Nat)(cs:Array Value)(hs0:s.size<1000)(hc:n<=c)(hn:n<1000000000000)(w:World)(AR:w.heap[bb]? =some (.cells cs t fr))(od:off+n<=cs.size)(hm:∀i,i<n->cs[off+i]? =some (.int .u8 (m i)))(J:w.heap[3]? =some (.cells S8.init.cells t2 xQ))(hg:w.heap[5]? =some (.cells (cf 64 (λi=>u32 (kk i))) t3 q9)):Calls prog 87 #[.string s,.slice (some ⟨bb,off,none⟩) n c] w (aU w (.agg (dg (tagged s n m)))):=by
 have XQ:=(bB.1 AR).1;have bz:=(bB.1 J).1;have Qx:=(bB.1 hg).1;refine eN func87 ntmps87 ?_;refine bM 3 ?_;intro b4 iW iX;refine B 5 ?_;refine Ou underlying9 underlying106 underlying5 rfl rfl rfl ?_;intro b7 aq w7 al bZ QD kh vY Vq cr jU br ay;replace kh:=yb kh;try simp only[bN,ne_eq]at vY
 refine call call164 rfl rfl rfl (λW hS=>ncg s.size (sB s) b7 0 aq _ _ _ _ _ _ al aa aa W (hS.old A0 QD Vq zy) aa ay (hS.old A1 J zH zy) (hS.old A1 hg zH zy)) ?_;refine bM 1 ?_;intro b5 tr tu;refine B 4 ?_;have aI:(nG [⟨b5,0,32,32,vX s.size (sB s)⟩,⟨bb,off,n,c,m⟩]).length=32+n:=by simp[nG,uj.l,Eh]
 have X3:∀W,W.heap[b5]? =some (oC (dg (vX s.size (sB s))) 33)->W.heap[bb]? =some (.cells cs t fr)->∀x∈([⟨b5,0,32,32,vX s.size (sB s)⟩,⟨bb,off,n,c,m⟩]:List uj),x.At W:=λW h1 h2 x hx=>by
  simp only[cd,dZ,or_false]at hx;rcases hx with rfl|rfl
  ·exact⟨_,_,_,h1,aj 32,λi hi=>by rw[mx];exact rF _ i hi⟩
  exact⟨_,_,_,h2,od,hm⟩
 refine B 1 ?_;refine zze ?_;refine B 1 ?_;refine rJ underlying377 sizeOf106 zeroValue106 rfl rfl rfl rfl rfl rfl rfl ?_;refine yV ?_;intro gD X4 Kc Kd X5 uY yQ;refine QC (bo:=λp:Nat×Nat×List Value=>(p.1,oC (nG [⟨b5,0,32,32,vX s.size (sB s)⟩,⟨bb,off,n,c,m⟩]++p.2.2).toArray 5)) (Φ:=λp=>(nG [⟨b5,0,32,32,vX s.size (sB s)⟩,⟨bb,off,n,c,m⟩]).length<=p.2.1/\p.2.2.length=p.2.1-(nG [⟨b5,0,32,32,vX s.size (sB s)⟩,⟨bb,off,n,c,m⟩]).length) call165 rfl rfl rfl (λW hS=>nih [⟨b5,0,32,32,vX s.size (sB s)⟩,⟨bb,off,n,c,m⟩] gD 2 _ _ zI (by rw[aI];omega) (by rw[aI];omega) W (hS.old A0 Kc Kd zy) (X3 W (hS.own _ A0) (hS.old A2 AR zH zy))) ?_;rintro⟨bc,cc,an⟩ X6 bh ⟨Ke,Ek⟩;replace X6:=yb X6;dsimp only at Ke Ek;rw[aI]at Ke Ek;refine OJ.re (v':=.slice (ao bc) (32+n) cc) (by show Value.slice _ (nG _).length _=_;rw[aI]) ?_;refine OJ.reH (H':=[(bc,oC (lT (32+n) (yP 32 (vX s.size (sB s)) m)++an).toArray 5),(b5,oC (dg (vX s.size (sB s))) 33),(b4,oC (ui []).toArray 33)]) (by rw[<-nSk];simp only[nG,uj.l,ec];rfl) ?_;refine call call164 rfl rfl rfl (λW hS=>ncg (32+n) (yP 32 (vX s.size (sB s)) m) bc 0 cc _ _ _ _ _ _ _ aa aa W (hS.own _ A0) (by simp only[rf,cB,Eh];omega) (λi hi=>nio _ _ _ i hi) (hS.old A2 J zH zy) (hS.old A2 hg zH zy)) ?_
 refine B 4 ?_;refine cA (.inl rfl) results87 bD A2 zA ?_;rfl
def Em (s:ByteArray) (n:Nat) (m:Nat->Int):Int:=1+I9 2305843009213688668 (BY (tagged s n m)) 0
theorem nyg(s:ByteArray)(n:Nat)(m:Nat->Int):ey (tagged s n m):=nHn _ _
theorem nZm(s:ByteArray)(n:Nat)(m:Nat->Int)(bb off c t t2 t3:Nat)(fr xQ q9:Nat×Nat)(cs:Array Value)(hs0:s.size<1000)(hc:n<=c)(hn:n<1000000000000)(w:World)(AR:w.heap[bb]? =some (.cells cs t fr))(od:off+n<=cs.size)(hm:∀i,i<n->cs[off+i]? =some (.int .u8 (m i)))(J:w.heap[3]? =some (.cells S8.init.cells t2 xQ))(hg:w.heap[5]? =some (.cells (cf 64 (λi=>u32 (kk i))) t3 q9)):Calls prog 195 #[.string s,.slice (some ⟨bb,off,none⟩) n c] w (aU w (ab (Em s n m))):=by
 have hB:=nyg s n m;have JX:=nfi 2305843009213688668 zz (BY (tagged s n m)) 0 zz zz;refine ei 9 func195 ntmps195 ?_;refine call call87 rfl rfl rfl (λW hS=>nqe s n m bb off c _ _ _ _ _ _ cs hs0 hc hn W (hS.old A0 AR zH trivial) od hm (hS.old A0 J zH trivial) (hS.old A0 hg zH trivial)) ?_;refine call call258 rfl rfl rfl (λW hS=>nPo _ hB _ zz zz W) ?_;refine B 6 ?_;refine aL results195 rfl A0 ?_;rfl




theorem bt:AS prog 106 5:=⟨underlying106,underlying5,⟨_,Vn,rfl,rfl,rfl⟩,sizeOf5⟩
section
variable (n:Int)(h1: -9223372036854775808<=n)(h2:n<=9223372036854775807)
include h1 h2
theorem QE:IntKind.u64.wrap (BitVec.ofInt 64 (IntKind.u64.wrap (IntKind.u64.wrap n*2))^^^BitVec.ofInt 64 (IntKind.u64.wrap (n/9223372036854775808))).toNat=(Kf n:Int):=by
 simp only[nD];unfold Kf;by_cases h:0<=n
 ·rw[if_pos h,show n/9223372036854775808=0 by omega];have:(0:Int)%18446744073709551616=0:=by decide
  rw[this,show n%18446744073709551616*2%18446744073709551616=2*n by omega];have e:BitVec.ofInt 64 0=0#64:=rfl;rw[e,BitVec.xor_zero,BitVec.toNat_ofInt];omega
 rw[if_neg h,show n/9223372036854775808= -1 by omega];have:(-1:Int)%18446744073709551616=18446744073709551615:=by decide
 rw[this,show n%18446744073709551616*2%18446744073709551616=2*n+18446744073709551616 by omega];have e:BitVec.ofInt 64 18446744073709551615=BitVec.allOnes 64:=by decide
 rw[e,BitVec.xor_allOnes,BitVec.toNat_not,BitVec.toNat_ofInt];omega
theorem En:Kf n<18446744073709551616:=by unfold Kf;split<;>omega
end
theorem X7(u:Nat):IntKind.u8.wrap (BitVec.ofInt IntKind.u8.bits ((u:Int)%256)|||BitVec.ofInt IntKind.u8.bits 128).toNat=((UInt8.ofNat (u%128+128)).toNat:Int):=by
 have key:∀v:BitVec 8,(v|||128#8).toNat=(v.toNat%128+128):=by decide
 have e:BitVec.ofInt IntKind.u8.bits 128=128#8:=rfl;rw[e];have e2:(BitVec.ofInt 8 ((u:Int)%256)).toNat=u%256:=by rw[BitVec.toNat_ofInt];omega
 have:=key (BitVec.ofInt 8 ((u:Int)%256));rw[e2]at this;show IntKind.u8.wrap (BitVec.ofInt 8 ((u:Int)%256)|||128#8).toNat=_;all_goals simp_all[nwl]
theorem Kg(u:Nat)(h:u<256):((u:Int)%256)=((UInt8.ofNat u).toNat:Int):=by
 simp only[UInt8.toNat_ofNat'];omega
theorem nEj(n:Int)(h1: -9223372036854775808<=n)(h2:n<=9223372036854775807)(w:World):Calls prog 230 #[ab n] w (aU w (.int .u64 (Kf n:Int))):=by
 refine ei 8 func230 ntmps230 ?_;refine rv rfl rfl rfl (lg underlying3 underlying233 rfl) ?_;refine rv rfl rfl rfl (D2 1 2 zz rfl rfl rfl) ?_;refine B 1 ?_;refine rv rfl rfl rfl (jo 63 9223372036854775808 zz rfl rfl rfl) ?_;refine rv rfl rfl rfl (lg underlying3 underlying233 rfl) ?_;refine rv rfl rfl rfl (yR rfl rfl) ?_;refine B 4 ?_;refine aL results230 rfl A0 ?_;exact vu (QE n h1 h2)
theorem ncd(xs:List UInt8)(u:Nat)(hu:u<18446744073709551616)(b cap:Nat)(sp:List Value)(uZ:dT xs cap sp)(jt:xs.length<=900000000000)(w:World)(hb:w.heap[b]? =some (aV 5 xs sp)):Calls prog 229 #[bW b xs.length cap,.int .u64 (u:Int)] w (QF w b 5 (xs++num u)):=by
 have jq:=(bB.1 hb).1;have cr:=Da hu;refine nB (vs:=[_,_]) (Gh.lent (· =b)) [(b,aV 5 xs sp)] func229 rfl ntmps229 rfl (Eo hb) ?_;refine B 7 ?_;refine CJ.lp (α:=List UInt8×Nat×Nat×Nat×List Value) [] (λp=>[(0,bW p.2.2.1 p.1.length p.2.2.2.1),(1,.int .u64 (p.2.1:Int))]) (λp=>[(p.2.2.1,aV 5 p.1 p.2.2.2.2)]) (λp=>xs++num u=p.1++num p.2.1/\p.2.1<18446744073709551616/\Fr (Gh.lent (· =b)) [w] p.2.2.1/\dT p.1 p.2.2.2.1 p.2.2.2.2) (λp=>p.2.1) (xs,u,b,cap,sp) ⟨rfl,hu,.inl rfl,uZ⟩ ?_;rintro⟨ys,v,b1,c1,J⟩ ⟨hinv,hv,hf,hr⟩;dsimp only at hinv hv hf hr ⊢;have yS:(ys++num v).length<=900000000010:=by rw[<-hinv,cB];omega
 have sO:=Kh v;rw[cB]at yS;refine aG 7 ?_ ?_
 ·intro av;refine B 7 ?_;refine rv rfl rfl rfl (pz underlying233 underlying5 rfl) ?_;refine rq (.int .u8 ((UInt8.ofNat (v%128+128)).toNat:Int)) (AN rfl rfl) (congrArg (Value.int .u8) (X7 v)) ?_;refine QG [UInt8.ofNat (v%128+128)] bt zeroValue5 rfl rfl rfl rfl rfl rfl rfl rfl rfl ?_;intro Vr yT B1 bz b0;replace yT:=yb yT;replace B1:=yd B1;refine Ov (i:=1) (xs:=ys) (zs:=[UInt8.ofNat (v%128+128)]) (sp:=J) rfl bt rfl rfl rfl rfl (iH.own (i:=0) underlying106 rfl) hr hf yU ?_;intro eJ an az X8 aq;have X9:=X8;replace X9:=ye X9;refine OJ.dropF (i:=0) rfl (.inr ⟨yT.1,trivial⟩) ?_;refine B 6 ?_;refine rq (.int .u64 ((v/128:Nat):Int)) (jo 7 128 zz rfl rfl rfl) (vu aa) ?_;refine B 2 ?_;refine ag (ys++[UInt8.ofNat (v%128+128)],v/128,eJ,an,az) ⟨by dsimp only;rw[hinv,nYm aa,iY];rfl,by dsimp only;omega,X8,aq⟩
 intro av;refine B 9 ?_;refine rq (.int .u8 ((UInt8.ofNat v).toNat:Int)) (pz underlying233 underlying5 rfl) (congrArg (Value.int .u8) (Kg v aa)) ?_;refine QG [UInt8.ofNat v] bt zeroValue5 rfl rfl rfl rfl rfl rfl rfl rfl rfl ?_;intro bA B2 QH cq Ya;replace B2:=yb B2;replace QH:=yd QH;refine Ov (i:=1) (xs:=ys) (zs:=[UInt8.ofNat v]) (sp:=J) rfl bt rfl rfl rfl rfl (iH.own (i:=0) underlying106 rfl) hr hf yU ?_;intro cy cb bZ Yb al;have Yc:=Yb;replace Yc:=ye Yc;refine OJ.dropF (i:=0) rfl (.inr ⟨B2.1,trivial⟩) ?_;refine B 4 ?_;rw[hinv,Yd aa];exact n7i (i:=0) (.inl rfl) results229 rfl rfl A0 (by simp only[mz,dA,eh,rK,wL,and_true];simp only[Fr,Gh.lent,ah]at Yb;omega) al
variable {G:Gh} {H:ad} {L:List World}
theorem QJ{C:Cx}{E:Env}{T U:Nat}{x y:Operand}(hx:ev E x=some (Vs))(hy:ev E y=some (Vs)):RV C G L H E (.binOp .eql T x y U) (cD):=
 RV.re (yY hx hy) (vb zI)
def Ki (N:Nat) (w:World) (base:Option Addr) (l:List V):Prop:=∀i (h:i<l.length),∃bl cs t fr,base=some ⟨bl,0,none⟩/\bl<N/\w.heap[bl]? =some (.cells cs t fr)/\4*i+4<=cs.size/\∃a1 a2 p3 n3 c3,cut cs (4*i) 4=#[ab (l[i]).kind,ab a1,.string a2,.slice p3 n3 c3]/\fy N w l[i] (.agg #[ab (l[i]).kind,ab a1,.string a2,.slice p3 n3 c3])
variable {w:World}
theorem fy.list{N:Nat}{l:List V}{v:Value}(h:fy N w (.list l) v):∃base cap,v=vL base l.length cap/\l.length<=cap/\Ki N w base l:=by
 simp only[fy]at h;obtain⟨base,cap,hv,hc,hl⟩:=h;refine⟨base,cap,hv,hc,λi hi=>?_⟩;rcases hl with rfl|⟨b,cs,t,fr,hb,hlt,bX,hs⟩
 ·simp at hi
 obtain⟨h1,h2⟩:=hs.get i hi;rw[mx]at h1 h2;obtain⟨a1,a2,p3,n3,c3,J⟩:=h2.shape;rw[J]at h2;exact⟨b,cs,t,fr,hb,hlt,bX,h1,a1,a2,p3,n3,c3,by injection J,h2⟩
def nHl (x:V):Prop:=∀(N:Nat) (w:World) (v:Value),N<=w.heap.size->fy N w x v->x.fine->Calls prog 227 #[v] w (aU w (.tuple #[ab (x.depth:Int),cD]))
theorem nUo(n:Int)(w:World):Calls prog 227 #[vI n] w (aU w (.tuple #[ab 0,cD])):=by
 refine eN func227 ntmps227 ?_;refine cK 2 ?_;intro b1 w1 hb1 cN J gb jJ;refine QK ?_;refine B 5 ?_;refine ni (t:=21) rfl (λav=>?_) (λav=>?_)
 ·replace av:=ya av;refine B 9 ?_;refine ni (t:=30) rfl (λaS=>?_) (λaS=>?_)
  ·replace aS:=ya aS;refine B 6 ?_;exact Vu
  replace aS:=ya aS;refine B 6 ?_;exact Vu
 replace av:=ya av;refine B 9 ?_;refine ni (t:=30) rfl (λdh=>?_) (λdh=>?_)
 ·replace dh:=ya dh;refine B 6 ?_;exact Vu
 replace dh:=ya dh;refine B 6 ?_;exact Vu
theorem nwn(x:ByteArray)(w:World):Calls prog 227 #[vT x] w (aU w (.tuple #[ab 0,cD])):=by
 refine eN func227 ntmps227 ?_;refine cK 2 ?_;intro b1 w1 hb1 cN J gb jJ;refine B 8 ?_;refine rv rfl rfl rfl (yY rfl rfl) ?_;refine B 1 ?_;refine ni (t:=12) rfl (λav=>?_) (λav=>?_)
 ·replace av:=ya av;refine aF 3 cD ?_;refine B 3 ?_;refine zxf ?_;exact Vu
 replace av:=ya av;refine B 7 ?_;refine zxf ?_;exact Vu
theorem n9m(l:List V)(ih:∀y∈l,nHl y)(ee:(V.list l).fine)(N:Nat)(base:Option Addr)(cap:Nat)(w:World)(hN:N<=w.heap.size)(al:Ki N w base l):Calls prog 227 #[vL base l.length cap] w (aU w (.tuple #[ab ((V.depthL l+1:Nat):Int),cD])):=by
 simp only[V.fine]at ee;obtain⟨AT,yZ,QL⟩:=ee;refine eN func227 ntmps227 ?_;refine cK 2 ?_;intro b1 w1 hb1 cN gV gb jJ;refine aF 17 cD ?_;refine aF 8 cD ?_;refine bM 7 ?_;intro b4 iW iX;refine aF 8 bH ?_;refine aF 3 bH ?_;refine aF 18 bH ?_;refine B 15 ?_;refine CJ.dropAt (i:=0) rfl ⟨by omega,by omega,trivial⟩ ?_;refine CJ.loop (α:=Nat) (λi=>[(1,ptr b1 0),(2,ab ((V.depthL (l.take i):Nat):Int)),(55,.slice base l.length cap),(56,ab (l.length:Int)),(57,ab (i:Int))]) (λi=>[]) (λi=>[w1,w]) (λi=>Gh.no) (λi=>i<=l.length/\V.depthL (l.take i)<=1000000000) (λi=>l.length-i) 0 ⟨cO _,by simp[V.depthL]⟩ zR rfl rfl zI ?_;rintro i ⟨hi,hdi⟩;refine aG 6 ?_ ?_
 ·intro av;refine B 5 ?_;obtain⟨bl,cs,te,aq,rfl,jq,bX,a6,a1,a2,p3,n3,c3,wM,xS⟩:=al i aa;have Ep:=(bB.1 bX).1;obtain⟨y,hy⟩:∃y,l[i]'aa=y:=⟨_,rfl⟩;rw[hy]at wM xS;have J:y∈l:=hy▸XY _;refine B 2 ?_;refine rq (.agg #[ab y.kind,ab a1,.string a2,.slice p3 n3 c3]) (dt isAgg200 sizeOf200 rfl A1 bX zH trivial aa) (va (by rw[<-wM];congr 1;omega)) ?_;refine bM 1 ?_;intro b6 ky rh;refine B 6 ?_;refine call call227 rfl rfl rfl (λW hS=>ih y J N W _ (eB hN (hS.links _ A1).size) (fy.up (aj _) hS.sm _ _ xS) (V.fineL_mem QL y J)) ?_;refine B 20 ?_;refine rv rfl rfl rfl (QM rfl rfl) ?_;refine B 8 ?_;refine PJ.dropAt (i:=0) rfl ⟨by omega,by omega,trivial⟩ ?_;refine PJ.again (i+1) ⟨by omega,by have h1:=V.depthL_take l i aa;rw[hy]at h1;have h2:=V.depthL_mem y J;omega⟩ aa ⟨rfl,congrArg some (congrArg ab (by rw[V.depthL_take l i aa,hy];omega)),rfl,rfl,rfl,trivial⟩ rfl rfl zI
 intro av;refine B 14 ?_;refine nT results227 rfl rfl A1 ?_ ?_
 ·have e:i=l.length:=by omega
  subst e;rw[iC (aj _)];rfl
 rfl
theorem n8p:∀x,nHl x:=by
 refine V.ind ?_ ?_ ?_
 ·intro n N w v _ hv _;simp only[fy]at hv;subst hv;exact nUo n w
 ·intro s N w v _ hv _;simp only[fy]at hv;subst hv;exact nwn s w
 intro l ih N w v hN hv hf;obtain⟨base,cap,rfl,hc,J⟩:=hv.list;exact n9m l ih hf N base cap w hN J
theorem nkn(x:V)(n1:Int)(s2:ByteArray)(J:Option Addr)(n3 c3:Nat)(ee:x.fine)(hd:x.depth<=16)(N:Nat)(w:World)(hN:N<=w.heap.size)(xS:fy N w x (.agg #[ab x.kind,ab n1,.string s2,.slice J n3 c3])):Calls prog 162 #[.agg #[ab x.kind,ab n1,.string s2,.slice J n3 c3]] w (aU w (ab 0)):=by
 refine eN func162 ntmps162 ?_;refine cK 2 ?_;intro b1 w1 hb1 cN gV gb jJ;refine B 6 ?_;refine call call227 rfl rfl rfl (λW hS=>n8p x N W _ (eB hN (hS.links _ A1).size) (fy.up (aj _) hS.sm _ _ xS) ee) ?_;refine aF 20 bH ?_;refine B 13 ?_;refine aL results162 rfl A1 ?_;rfl
def V.fn:V->Nat
 | .int _=>228
 | .text _=>231
 | .list _=>232
def V.cap (bv:Nat):V->List Value
 | .list _=>[ptr bv 0]
 |_=>[]
def wrC (bv:Nat):Array Value:=#[.nilFunc,.func (.func 228) #[] #[],.func (.func 231) #[] #[],.func (.func 232) #[] #[ptr bv 0]]
theorem Er(bv:Nat)(x:V)(k:Nat)(hk:(k:Int)=x.kind):(wrC bv)[k]? =some (.func (.func x.fn) #[] (x.cap bv).toArray):=by
 cases x<;>simp only[V.kind]at hk
 ·have:k=1:=by omega
  subst this;rfl
 ·have:k=2:=by omega
  subst this;rfl
 have:k=3:=by omega
 subst this;rfl
theorem V.kind_bd(x:V):1<=x.kind/\x.kind<=3:=by cases x<;>simp[V.kind]
structure Wr (N:Nat) (w:World) (bv bw:Nat):Prop where
 ltv:bv<N
 ltw:bw<N
 atv:w.heap[bv]? =some (oC #[ptr bw 0] 288)
 atw:w.heap[bw]? =some (oC (wrC bv) 370)
theorem Wr.up{N J:Nat}{w':World}{bv bw:Nat}(h:Wr N w bv bw)(hN:N<=J)(hw:∀k,k<N->w'.heap[k]? =w.heap[k]?):Wr J w' bv bw:=
 ⟨by have:=h.ltv;omega,by have:=h.ltw;omega,(hw _ h.ltv).trans h.atv,(hw _ h.ltw).trans h.atw⟩
theorem nSi(w:World):Calls prog 163 #[] w (dc w (λp:Nat×Nat=>ptr p.1 0) (λp w1=>w.heap.size<=p.1/\w.heap.size<=p.2/\w1.heap[p.2]? =some (oC #[ptr p.1 0] 288)/\w1.heap[p.1]? =some (oC (wrC p.2) 370))):=by
 refine ei 8 func163 ntmps163 ?_;refine Kk rfl rfl rfl ?_;refine yW ?_;intro b3 eO J;refine bM 1 ?_;intro b1 gb jJ;refine B 9 ?_;refine zPe ?_;refine B 8 ?_;refine zPe ?_;refine B 9 ?_;refine zPe ?_;refine B 9 ?_;exact bS (.inl rfl) results163 bD (λW hS=>⟨(b3,b1),rfl,hS.base A0 zP,by simp only[ah]at *;omega,by simp only[ah]at *;omega,hS.own (b1,_) A0,hS.own (b3,_) A1⟩)
def nMj (x:V):Prop:=∀(N b cap bv bw:Nat) (xs:List UInt8) (sp:List Value) (w:World) (v:Value),fy N w x v->x.fine->Wr N w bv bw->N<=b->N<=w.heap.size->dT xs cap sp->xs.length+x.enc.length<=800000000000->w.heap[b]? =some (aV 5 xs sp)->
 Calls prog x.fn (bW b xs.length cap::v::x.cap bv).toArray w (QF w b 5 (xs++x.enc))
theorem n6p(n:Int)(hn:(V.int n).fine)(xs:List UInt8)(b cap:Nat)(sp:List Value)(uZ:dT xs cap sp)(w:World)(hb:w.heap[b]? =some (aV 5 xs sp))(jt:xs.length+(V.int n).enc.length<=800000000000):Calls prog 228 #[bW b xs.length cap,vI n] w (QF w b 5 (xs++(V.int n).enc)):=by
 have jq:=(bB.1 hb).1;simp only[V.fine]at hn;simp only[V.enc,dI]at jt;have hz:=En n hn.1 hn.2;refine nB (vs:=[_,_]) (Gh.lent (· =b)) [(b,aV 5 xs sp)] func228 rfl ntmps228 rfl (Eo hb) ?_;refine cK 2 ?_;intro b3 w3 dE da gi eO fw;refine B 4 ?_;refine CJ.less (E':=[(0,_),(1,_),(3,_),(4,_)]) zR ?_;refine CJ.chn 5 [1,2] [_,none,none,_,_] (λcv L' H'=>match cv with| []=>L'=[w3,w]/\H'=[(b,aV 5 xs sp)]| [v1]=>∃(b6:Nat),v1=bW b6 ([1]:List UInt8).length 1/\L'=[w3,w]/\H'=[(b6,aV 5 [1] []),(b,aV 5 xs sp)]/\w3.heap.size<=b6/\w.heap.size<=b6| [v1,v2]=>∃(b6:Nat) (b7:Nat) (c7:Nat) (s7:List Value),v1=bW b6 ([1]:List UInt8).length 1/\v2=bW b7 (xs++[1]).length c7/\L'=[w3,w]/\H'=[(b6,aV 5 [1] []),(b7,aV 5 (xs++[1]) s7)]/\w3.heap.size<=b6/\w.heap.size<=b6/\Fr (Gh.lent (· =b)) [w3,w] b7/\(b7=b\/w3.heap.size<=b7/\w.heap.size<=b7)/\dT (xs++[1]) c7 s7|_=>False) (pc zL (pk (pk (pc (by exact λcv L' H' hd hP=>X.v (cX underlying200 rfl sizeOf3 rfl)) (pc zch (pn)))))) ?_ ?_
 ·refine ss rfl ?_ ?_
  ·intro cv L' H' hl hP F Q' hk;obtain rfl:=mF hl;obtain⟨rfl,rfl⟩:=hP;refine QG [1] bt zeroValue5 rfl rfl rfl rfl rfl rfl rfl rfl rfl ?_;intro b6 ha ho hx hr;exact OJ.done (hk _ _ _ ⟨b6,rfl,rfl,rfl,ha.1,ha.2.1⟩)
  refine ss rfl ?_ ?_
  ·intro cv L' H' hl hP F Q' hk;obtain⟨v1,rfl⟩:=jK hl;obtain⟨b6,rfl,rfl,rfl,ky,Db⟩:=hP;refine Ov (i:=1) (xs:=xs) (zs:=[1]) (sp:=sp) rfl bt rfl rfl rfl rfl (iH.own (i:=0) underlying106 rfl) uZ (.inl rfl) yU ?_;exact zvh
  exact nn
 intro cv L' H' hl hP;obtain⟨v1,v2,rfl⟩:=rL hl;obtain⟨b6,b7,c7,s7,rfl,rfl,rfl,rfl,ky,Db,um,Vv,Dc⟩:=hP;refine OJ.dropF (i:=0) rfl (.inr ⟨ky,Db,trivial⟩) ?_;refine call call230 rfl rfl rfl (λW hS=>nEj _ aa aa W) ?_;refine Vw (i:=0) (ys:=xs++[1]++num (Kf n)) (first:=[]) (cap:=[]) rfl rfl call229 rfl rfl rfl um (λW hS hW=>ncd (xs++[1]) (Kf n) hz b7 c7 s7 Dc yU W hW) ?_;intro gD an ay jL J;have Ye:=jL;replace Ye:=ye Ye;refine B 4 ?_;have QN:xs++(V.int n).enc=xs++[1]++num (Kf n):=by simp[V.enc]
 rw[QN];exact n7i (i:=0) (.inl rfl) results228 rfl rfl A1 (by simp only[mz,dA,eh,rK,wL,and_true];simp only[Fr,Gh.lent,ah]at jL;omega) J
theorem V.encL_drop(l:List V)(i:Nat)(h:i<l.length):V.encL (l.drop i)=(l[i]).enc++V.encL (l.drop (i+1)):=by
 rw[aNq h,V.encL]
theorem Es(x:V):eV prog x.fn:=by
 cases x
 ·exact call228
 ·exact call231
 exact call232
theorem nJo(x:ByteArray)(hn:(V.text x).fine)(xs:List UInt8)(b cap:Nat)(sp:List Value)(uZ:dT xs cap sp)(w:World)(hb:w.heap[b]? =some (aV 5 xs sp))(jt:xs.length+(V.text x).enc.length<=800000000000):Calls prog 231 #[bW b xs.length cap,vT x] w (QF w b 5 (xs++(V.text x).enc)):=by
 have jq:=(bB.1 hb).1;simp only[V.fine]at hn;simp only[V.enc,dI,cB]at jt;have hxl:x.data.toList.length=x.size:=Ox;refine nB (vs:=[_,_]) (Gh.lent (· =b)) [(b,aV 5 xs sp)] func231 rfl ntmps231 rfl (Eo hb) ?_;refine cK 2 ?_;intro b3 w3 dE da gi eO fw;refine B 4 ?_;refine CJ.less (E':=[(0,_),(1,_),(3,_),(4,_)]) zR ?_;refine CJ.chn 10 [1,2,7] [_,none,none,_,some (.string x),_,_,none,_,some (.string x)] (λcv L' H'=>match cv with| []=>L'=[w3,w]/\H'=[(b,aV 5 xs sp)]| [v1]=>∃(b6:Nat),v1=bW b6 ([2]:List UInt8).length 1/\L'=[w3,w]/\H'=[(b6,aV 5 [2] []),(b,aV 5 xs sp)]/\w3.heap.size<=b6/\w.heap.size<=b6| [v1,v2]=>∃(b6:Nat) (b7:Nat) (c7:Nat) (s7:List Value),v1=bW b6 ([2]:List UInt8).length 1/\v2=bW b7 (xs++[2]).length c7/\L'=[w3,w]/\H'=[(b6,aV 5 [2] []),(b7,aV 5 (xs++[2]) s7)]/\w3.heap.size<=b6/\w.heap.size<=b6/\Fr (Gh.lent (· =b)) [w3,w] b7/\(b7=b\/w3.heap.size<=b7/\w.heap.size<=b7)/\dT (xs++[2]) c7 s7| [v1,v2,v3]=>∃(b6:Nat) (b7:Nat) (c7:Nat) (s7:List Value) (iI:Nat) (c12:Nat) (Yf:List Value),v1=bW b6 ([2]:List UInt8).length 1/\v2=bW b7 (xs++[2]).length c7/\v3=bW iI (xs++[2]++num x.size).length c12/\L'=[w3,w]/\H'=[(b6,aV 5 [2] []),(iI,aV 5 (xs++[2]++num x.size) Yf)]/\w3.heap.size<=b6/\w.heap.size<=b6/\Fr (Gh.lent (· =b)) [w3,w] b7/\(b7=b\/w3.heap.size<=b7/\w.heap.size<=b7)/\dT (xs++[2]) c7 s7/\Fr (Gh.lent (· =b)) [w3,w] iI/\(iI=b\/w3.heap.size<=iI/\w.heap.size<=iI)/\dT (xs++[2]++num x.size) c12 Yf|_=>False) (pc zL (pk (pk (pc (by exact λcv L' H' hd hP=>X.v (cX underlying200 rfl sizeOf9 rfl)) (pc zci (pc (by exact λcv L' H' hd hP=>X.v (Et underlying9 rfl)) (pc zzc (pk (pc (by exact λcv L' H' hd hP=>X.v (cX underlying200 rfl sizeOf9 rfl)) (pc zci (pn))))))))))) ?_ ?_
 ·refine ss rfl ?_ ?_
  ·intro cv L' H' hl hP F Q' hk;obtain rfl:=mF hl;obtain⟨rfl,rfl⟩:=hP;refine QG [2] bt zeroValue5 rfl rfl rfl rfl rfl rfl rfl rfl rfl ?_;intro b6 ha ho hx hr;exact OJ.done (hk _ _ _ ⟨b6,rfl,rfl,rfl,ha.1,ha.2.1⟩)
  refine ss rfl ?_ ?_
  ·intro cv L' H' hl hP F Q' hk;obtain⟨v1,rfl⟩:=jK hl;obtain⟨b6,rfl,rfl,rfl,ky,Db⟩:=hP;refine Ov (i:=1) (xs:=xs) (zs:=[2]) (sp:=sp) rfl bt rfl rfl rfl rfl (iH.own (i:=0) underlying106 rfl) uZ (.inl rfl) yU ?_;exact zvh
  refine ss rfl ?_ ?_
  ·intro cv L' H' hl hP F Q' hk;obtain⟨v1,v2,rfl⟩:=rL hl;obtain⟨b6,b7,c7,s7,rfl,rfl,rfl,rfl,ky,Db,um,Vv,Dc⟩:=hP;refine Vw (i:=1) (ys:=xs++[2]++num x.size) (first:=[]) (cap:=[]) rfl rfl call229 rfl rfl rfl um (λW hS hW=>ncd (xs++[2]) x.size aa b7 c7 s7 Dc yU W hW) ?_;intro bn cn sn hfn J;have Vx:=hfn;replace Vx:=ye Vx;exact OJ.done (hk _ _ _ ⟨b6,b7,c7,s7,bn,cn,sn,rfl,rfl,rfl,rfl,rfl,ky,Db,um,Vv,Dc,hfn,by simpa only[Fr,Gh.lent,ah,and_true]using hfn,J⟩)
  exact nn
 intro cv L' H' hl hP;obtain⟨v1,v2,v3,rfl⟩:=pB hl;obtain⟨b6,b7,c7,s7,iI,c12,Yf,rfl,rfl,rfl,rfl,rfl,ky,Db,um,Vv,Dc,Yg,ahl,Yh⟩:=hP;refine Ov (i:=1) (xs:=xs++[2]++num x.size) (zs:=x.data.toList) (sp:=Yf) rfl bt rfl rfl rfl rfl (iH.str underlying9) Yh Yg yU ?_;intro dU a8 ay tz Eu;have wO:=tz;replace wO:=ye wO;refine B 4 ?_;have QN:xs++(V.text x).enc=xs++[2]++num x.size++x.data.toList:=by simp[V.enc]
 rw[QN];exact n7i (i:=1) (.inl rfl) results231 rfl rfl A1 (by simp only[mz,dA,eh,rK,wL,and_true];simp only[Fr,Gh.lent,ah]at tz;omega) Eu
section
variable (l:List V)(ih:∀y∈l,nMj y)(ee:(V.list l).fine)(N:Nat)(base:Option Addr)(lc bv bw:Nat)
include ih ee N base lc bv bw
theorem nQo(xs:List UInt8)(b cap:Nat)(sp:List Value)(uZ:dT xs cap sp)(w:World)(hb:w.heap[b]? =some (aV 5 xs sp))(hN:N<=w.heap.size)(bx:N<=b)(al:Ki N w base l)(J:Wr N w bv bw)(jt:xs.length+(V.list l).enc.length<=800000000000):Calls prog 232 #[bW b xs.length cap,vL base l.length lc,ptr bv 0] w (QF w b 5 (xs++(V.list l).enc)):=by
 have jq:=(bB.1 hb).1;simp only[V.fine]at ee;obtain⟨AT,yZ,QL⟩:=ee;have cb:=J.ltv;have cq:=J.ltw;simp only[V.enc,dI,cB]at jt;refine nB (vs:=[_,_,_]) (Gh.lent (· =b)) [(b,aV 5 xs sp)] func232 rfl ntmps232 rfl (Eo hb) ?_;refine cK 2 ?_;intro b4 w4 D6 BZ Vj iW iX;refine B 4 ?_;refine CJ.less (E':=[(0,_),(1,_),(2,_),(4,_),(5,_)]) zR ?_;refine CJ.chn 7 [1,2] [_,none,none,_,some (.slice base l.length lc),_,_] (λcv L' H'=>match cv with| []=>L'=[w4,w]/\H'=[(b,aV 5 xs sp)]| [v1]=>∃(b9:Nat),v1=bW b9 ([3]:List UInt8).length 1/\L'=[w4,w]/\H'=[(b9,aV 5 [3] []),(b,aV 5 xs sp)]/\w4.heap.size<=b9/\w.heap.size<=b9| [v1,v2]=>∃(b9:Nat) (fN:Nat) (Jd:Nat) (Kl:List Value),v1=bW b9 ([3]:List UInt8).length 1/\v2=bW fN (xs++[3]).length Jd/\L'=[w4,w]/\H'=[(b9,aV 5 [3] []),(fN,aV 5 (xs++[3]) Kl)]/\w4.heap.size<=b9/\w.heap.size<=b9/\Fr (Gh.lent (· =b)) [w4,w] fN/\(fN=b\/w4.heap.size<=fN/\w.heap.size<=fN)/\dT (xs++[3]) Jd Kl|_=>False) (pc zL (pk (pk (pc Yi (pc zcj (pc (by exact λcv L' H' hd hP=>X.v (mG underlying134 rfl)) (pc zzc (pn)))))))) ?_ ?_
 ·refine ss rfl ?_ ?_
  ·intro cv L' H' hl hP F Q' hk;obtain rfl:=mF hl;obtain⟨rfl,rfl⟩:=hP;refine QG [3] bt zeroValue5 rfl rfl rfl rfl rfl rfl rfl rfl rfl ?_;intro b9 ha ho hx hr;exact OJ.done (hk _ _ _ ⟨b9,rfl,rfl,rfl,ha.1,ha.2.1⟩)
  refine ss rfl ?_ ?_
  ·intro cv L' H' hl hP F Q' hk;obtain⟨v1,rfl⟩:=jK hl;obtain⟨b9,rfl,rfl,rfl,xP,QO⟩:=hP;refine Ov (i:=1) (xs:=xs) (zs:=[3]) (sp:=sp) rfl bt rfl rfl rfl rfl (iH.own (i:=0) underlying106 rfl) uZ (.inl rfl) yU ?_;intro b7 c7 s7 um Dc;exact OJ.done (hk _ _ _ ⟨b9,b7,c7,s7,rfl,rfl,rfl,rfl,xP,QO,um,by simpa only[Fr,Gh.lent,ah,and_true]using um,Dc⟩)
  exact nn
 intro cv L' H' hl hP;obtain⟨v1,v2,rfl⟩:=rL hl;obtain⟨b9,fN,Jd,Kl,rfl,rfl,rfl,rfl,xP,QO,Km,QP,y4⟩:=hP;refine OJ.dropF (i:=0) rfl (.inr ⟨xP,QO,trivial⟩) ?_;refine Vw (i:=0) (ys:=xs++[3]++num l.length) (first:=[]) (cap:=[]) rfl rfl call229 rfl rfl rfl Km (λW hS hW=>ncd (xs++[3]) l.length aa fN Jd Kl y4 yU W hW) ?_;intro dU aq ay tz Eu;have wO:=tz;replace wO:=ye wO;refine B 13 ?_;refine CJ.lp (α:=List UInt8×Nat×Nat×Nat×List Value) [2,17,18] (λp=>[(0,bW p.2.2.1 p.1.length p.2.2.2.1),(19,ab (p.2.1:Int))]) (λp=>[(p.2.2.1,aV 5 p.1 p.2.2.2.2)]) (λp=>p.1++V.encL (l.drop p.2.1)=xs++(V.list l).enc/\p.2.1<=l.length/\Fr (Gh.lent (· =b)) [w4,w] p.2.2.1/\(p.2.2.1=b\/w4.heap.size<=p.2.2.1/\w.heap.size<=p.2.2.1)/\dT p.1 p.2.2.2.1 p.2.2.2.2) (λp=>l.length-p.2.1) (xs++[3]++num l.length,0,dU,aq,ay) ⟨by simp[V.enc],cO _,tz,by simpa only[Fr,Gh.lent,Gh.no,ah,and_true,false_or]using tz,Eu⟩ ?_;rintro⟨ys,i,b1,c1,s1⟩ ⟨hinv,hi,hf,hg,hr⟩;dsimp only at hinv hi hf hg hr ⊢;have yS:=congrArg List.length hinv;simp only[V.enc,cB,dI]at yS;refine aG 6 ?_ ?_
 ·intro av;refine B 5 ?_;obtain⟨bl,cs,te,br,rfl,jq,bX,cr,a1,a2,p3,n3,c3,wM,xS⟩:=al i aa;have Ep:=(bB.1 bX).1;obtain⟨y,hy⟩:∃y,l[i]'aa=y:=⟨_,rfl⟩;rw[hy]at wM xS;have Kj:y∈l:=hy▸XY _;have bZ:=V.kind_bd y;have az:=congrArg List.length (V.encL_drop l i aa);rw[cB,hy]at az;refine B 2 ?_;refine rq (.agg #[ab y.kind,ab a1,.string a2,.slice p3 n3 c3]) (dt isAgg200 sizeOf200 rfl A1 bX (by show ¬(_=_);omega) zy aa) (va (by rw[<-wM];congr 1;omega)) ?_;refine bM 1 ?_;intro b7 kh vY;refine B 3 ?_;refine eA 9 (pb:=by exact aM (X.v (ar isAgg288 rfl A1 J.atv (by show ¬(_=_);omega) zy rfl)) (zU 5 (k:=by exact aM (X.v (ar (v:=.func (.func y.fn) #[] (y.cap bv).toArray) isAgg285 rfl A1 J.atw (by show ¬(_=_);omega) zy (Er bv _ _ (by show((0+Int.toNat y.kind*1+0:Nat):Int)=_;omega)))) zT))) (k:=?_);refine Vw (i:=1) (ys:=ys++y.enc) (first:=[]) (cap:=y.cap bv) rfl rfl (Es _) rfl rfl rfl hf (λW hS hW=>ih y Kj N b1 c1 bv bw ys s1 W _ (fy.up (aj _) (hS.same A1 hN (λk hk (h:k=b)=>by omega) zD) _ _ xS) (V.fineL_mem QL y Kj) (J.up (aj _) (hS.same A1 hN (λk hk (h:k=b)=>by omega) zD)) aa (eB hN (hS.links _ A1).size) hr aa hW) ?_;exact zLg
 intro av;refine B 12 ?_;have e:i=l.length:=by omega
 subst e;rw[List.drop_of_length_le (aj _)]at hinv;simp only[V.encL,ec]at hinv;rw[<-hinv];exact n7i (i:=0) (.inl rfl) results232 rfl rfl A1 (by simp only[mz,dA,eh,rK,wL,and_true];omega) hr
theorem n6j(w:World)(hN:N<=w.heap.size)(al:Ki N w base l)(J:Wr N w bv bw)(jt:(V.list l).enc.length<=800000000000):Calls prog 232 #[ak,vL base l.length lc,ptr bv 0] w (nWm w 5 ((V.list l).enc)):=by
 simp only[V.fine]at ee;obtain⟨AT,yZ,QL⟩:=ee;have b0:=J.ltv;have cb:=J.ltw;simp only[V.enc,dI,cB]at jt;refine eN func232 ntmps232 ?_;refine cK 2 ?_;intro b4 w4 D6 BZ Vj iW iX;refine B 4 ?_;refine eS 7 1 [2] (sp:=[_,_,_,_,some (.slice base l.length lc),_,_]) (h:=?_);intro _ _ hk;refine QG [3] bt zeroValue5 rfl rfl rfl rfl rfl rfl rfl rfl rfl ?_;intro b9 ha ho hx hr;have xP:w4.heap.size<=b9:=ha.1;have QO:w.heap.size<=b9:=ha.2.1;refine zG ?_;intro _ _ hk;refine apN (zs:=[3]) bt rfl rfl rfl rfl (iH.own (i:=0) underlying106 rfl) zz zz ?_;intro fN Jd Kl kh vY bQ y4;have Km:w4.heap.size<=fN:=kh.1;have QP:w.heap.size<=fN:=kh.2.1;refine zE ?_;refine OJ.dropF (i:=1) rfl (.inr ⟨xP,QO,trivial⟩) ?_;refine Vw (i:=0) (ys:=[3]++num l.length) (first:=[]) (cap:=[]) rfl rfl call229 rfl rfl rfl (.inr ⟨Km,QP,trivial⟩) (λW hS hW=>ncd ([3]) l.length aa fN Jd Kl y4 yU W hW) ?_;intro dU aq ay tz Eu;have wO:=tz;replace wO:=ye wO;refine B 13 ?_;refine CJ.lp (α:=List UInt8×Nat×Nat×Nat×List Value) [2,17,18] (λp=>[(0,bW p.2.2.1 p.1.length p.2.2.2.1),(19,ab (p.2.1:Int))]) (λp=>[(p.2.2.1,aV 5 p.1 p.2.2.2.2)]) (λp=>p.1++V.encL (l.drop p.2.1)=(V.list l).enc/\p.2.1<=l.length/\Fr (Gh.no) [w4,w] p.2.2.1/\(w4.heap.size<=p.2.2.1/\w.heap.size<=p.2.2.1)/\dT p.1 p.2.2.2.1 p.2.2.2.2) (λp=>l.length-p.2.1) ([3]++num l.length,0,dU,aq,ay) ⟨by simp[V.enc],cO _,tz,by simpa only[Fr,Gh.lent,Gh.no,ah,and_true,false_or]using tz,Eu⟩ ?_
 rintro⟨ys,i,b1,c1,s1⟩ ⟨hinv,hi,hf,hg,hr⟩;dsimp only at hinv hi hf hg hr ⊢;have yS:=congrArg List.length hinv;simp only[V.enc,cB,dI]at yS;refine aG 6 ?_ ?_
 ·intro av;refine B 5 ?_;obtain⟨bl,cs,te,br,rfl,jq,bX,cq,a1,a2,p3,n3,c3,wM,xS⟩:=al i aa;have Ep:=(bB.1 bX).1;obtain⟨y,hy⟩:∃y,l[i]'aa=y:=⟨_,rfl⟩;rw[hy]at wM xS;have Kj:y∈l:=hy▸XY _;have bL:=V.kind_bd y;have az:=congrArg List.length (V.encL_drop l i aa);rw[cB,hy]at az;refine B 2 ?_;refine rq (.agg #[ab y.kind,ab a1,.string a2,.slice p3 n3 c3]) (dt isAgg200 sizeOf200 rfl A1 bX zH zy aa) (va (by rw[<-wM];congr 1;omega)) ?_;refine bM 1 ?_;intro b7 kh vY;refine B 3 ?_;refine eA 9 (pb:=by exact aM (X.v (ar isAgg288 rfl A1 J.atv zH zy rfl)) (zU 5 (k:=by exact aM (X.v (ar (v:=.func (.func y.fn) #[] (y.cap bv).toArray) isAgg285 rfl A1 J.atw zH zy (Er bv _ _ (by show((0+Int.toNat y.kind*1+0:Nat):Int)=_;omega)))) zT))) (k:=?_);refine Vw (i:=1) (ys:=ys++y.enc) (first:=[]) (cap:=y.cap bv) rfl rfl (Es _) rfl rfl rfl hf (λW hS hW=>ih y Kj N b1 c1 bv bw ys s1 W _ (fy.up (aj _) hS.sm _ _ xS) (V.fineL_mem QL y Kj) (J.up (aj _) hS.sm) aa (eB hN (hS.links _ A1).size) hr aa hW) ?_;exact zLg
 intro av;refine B 12 ?_;have e:i=l.length:=by omega
 subst e;rw[List.drop_of_length_le (aj _)]at hinv;simp only[V.encL,ec]at hinv;rw[<-hinv];exact QQ (i:=0) (.inl rfl) results232 rfl rfl A1 C7 hr
end
theorem Ev:∀x,nMj x:=by
 refine V.ind ?_ ?_ ?_
 ·intro n N b cap bv bw xs sp w v hv hf _ _ _ hr hl hb;simp only[fy]at hv;subst hv;exact n6p n hf xs b cap sp hr w hb hl
 ·intro s N b cap bv bw xs sp w v hv hf _ _ _ hr hl hb;simp only[fy]at hv;subst hv;exact nJo s hf xs b cap sp hr w hb hl
 intro l ih N b cap bv bw xs sp w v hv hf B3 J hN hr hl hb;obtain⟨base,lc,rfl,hc,al⟩:=hv.list;exact nQo l ih hf N base lc bv bw xs b cap sp hr w hb hN J al B3 hl
theorem nOe(l:List V)(ee:(V.list l).fine)(hd:(V.list l).depth<=16)(jt:(V.list l).enc.length<=800000000000)(N:Nat)(base:Option Addr)(lc:Nat)(w:World)(hN:N<=w.heap.size)(xS:fy N w (.list l) (vL base l.length lc)):Calls prog 85 #[vL base l.length lc] w (nRl w 5 (V.list l).enc):=by
 obtain⟨Yj,a8,a6,Je,ay⟩:=xS.list;obtain⟨rfl,rfl⟩:base=Yj/\lc=a8:=by simpa[vL]using a6
 refine eN func85 ntmps85 ?_;refine cK 2 ?_;intro b1 w1 hb1 cN gV gb jJ;refine B 8 ?_;refine call call162 rfl rfl rfl (λW hS=>nkn (.list l) _ _ _ _ _ ee hd N W (eB hN (hS.links _ A1).size) (fy.up aa hS.sm _ _ xS)) ?_;refine B 6 ?_;refine Ew ?_;refine eS 8 0 [3,4,5,6] (sp:=[_,_,some (ab 3),_,_,_,_,some (vL base l.length lc)]) (h:=?_);intro _ _ hk;refine ny (Φ:=λ(W:World) (p:Nat×Nat) (v1:World)=>W.heap.size<=p.1/\W.heap.size<=p.2/\v1.heap[p.2]? =some (oC #[ptr p.1 0] 288)/\v1.heap[p.1]? =some (oC (wrC p.2) 370)) call163 rfl rfl rfl (λW hS=>nSi W) ?_;rintro W ⟨bw,bv⟩ al az aE ⟨h1,h2,e5,e6⟩;have h5:=az.sizes;replace h5:=yb h5;dsimp only at h1 h2 e5 e6;have e3:=(bB.1 e6).1;have e4:=(bB.1 e5).1;have e7:=aE.size;have e1:w1.heap.size<=bw:=by omega
 have e2:w1.heap.size<=bv:=by omega
 have e7:w1.heap.size<=al.heap.size:=by omega
 refine zG ?_;intro _ _ hk;refine B 1 ?_;refine zG ?_;intro _ _ hk;refine B 1 ?_;refine zG ?_;intro _ _ hk;refine B 1 ?_;refine zG ?_;intro _ _ hk;refine rv rfl rfl rfl (ar (v:=.func (.func 232) #[] #[ptr bv 0]) isAgg285 rfl A0 e6 zH trivial rfl) ?_;refine zE ?_;refine QR (ys:=(V.list l).enc) (first:=[]) (cap:=[ptr bv 0]) rfl call232 rfl rfl rfl (λW hS=>n6j l (λy _=>Ev y) ee al.heap.size base lc bv bw W (hS.links _ A0).size (λi hi=>by
  obtain⟨bl,cs,t,fr,h1,h2,h3,h4,a1,a2,p3,n3,c3,h5,h6⟩:=ay i hi;have J:=hS.same A2 hN zF zD;exact⟨bl,cs,t,fr,h1,by omega,(J bl h2).trans h3,h4,a1,a2,p3,n3,c3,h5,fy.up aa J _ _ h6⟩) ⟨e4,e3,hS.old A0 e5 zH trivial,hS.old A0 e6 zH trivial⟩ jt) ?_
 intro bu bA bL B2 QH bZ Ya;replace B2:=yb B2;refine B 5 ?_;exact QS (i:=0) (.inl rfl) results85 rfl rfl rfl A2 C7 Ya


def cC (w:World) (b off:Nat) (zs:List UInt8):Prop:=∃cs t fr,w.heap[b]? =some (.cells cs t fr)/\off+zs.length<=cs.size/\∀i,i<zs.length->cs[off+i]? =some (.int .u8 (fU zs i))
variable {zs:List UInt8} {b:Nat}
theorem cC.up{w':World}{off:Nat}(h:cC w b off zs)(hb:w'.heap[b]? =w.heap[b]?):cC w' b off zs:=by
 obtain⟨cs,t,fr,h1,h2,h3⟩:=h;exact⟨cs,t,fr,hb.trans h1,h2,h3⟩
theorem cC.lt{off:Nat}(h:cC w b off zs):b<w.heap.size:=by
 obtain⟨cs,t,fr,h1,_⟩:=h;exact(bB.1 h1).1
variable {W:World}
theorem cC.old{off:Nat}(h:cC w b off zs)(hS:St G L H W)(hw:w∈L)(hX:¬G.X b)(hO:bN H b):cC W b off zs:=by
 obtain⟨cs,t,fr,h1,h2,h3⟩:=h;exact⟨cs,t,fr,hS.old hw h1 hX hO,h2,h3⟩
variable {sp:List Value}
theorem cC.row{e:Nat}(h:W.heap[b]? =some (aV e zs sp)):cC W b 0 zs:=
 ⟨_,_,_,h,by simp only[rf,cB,wP];omega,λi hi=>Yk _ _ i hi⟩
theorem iH.seg{C:Cx}{J e' off c:Nat}{w1:World}(hU:C.P.underlying J=some (.slice e'))(hm:w1∈L)(h:cC w1 b off zs)(hG:¬G.X b)(hO:bN H b):iH C G L H J (.slice (some ⟨b,off,none⟩) zs.length c) zs:=by
 obtain⟨cs,t,fr,h1,h2,h3⟩:=h;exact pA.sl hU (Rd.old hm h1 hG hO aa (by rw[nqk h2 h3,<-n8n])) (by rw[wP,xR]) (nOi _)
def Glb (w:World):Prop:=(∃t fr,w.heap[3]? =some (.cells S8.init.cells t fr))/\(∃t fr,w.heap[5]? =some (.cells (cf 64 (λi=>u32 (kk i))) t fr))
theorem Glb.lt(h:Glb w):6<=w.heap.size:=by
 obtain⟨_,t,fr,h⟩:=h;have:=(bB.1 h).1;omega
theorem Glb.old(h:Glb w)(hS:St G L H W)(hw:w∈L)(hX:∀k,k<6->¬G.X k)(hH:Over 6 H):Glb W:=by
 have J:=hS.same hw h.lt hX hH;obtain⟨⟨t,fr,h1⟩,t',Dd,h2⟩:=h;exact⟨⟨t,fr,(J 3 aa).trans h1⟩,t',Dd,(J 5 aa).trans h2⟩
def scalL (s:ByteArray) (xs:List UInt8):Int:=Em s xs.length (fU xs)
theorem Ex(s:ByteArray)(xs:List UInt8):1<=scalL s xs/\scalL s xs<2305843009213688669:=by
 have J:=nfi 2305843009213688668 zz (BY (tagged s xs.length (fU xs))) 0 zz zz;unfold scalL Em;omega
structure Fx where
 sc:ByteArray->List UInt8->Int
 tg:ByteArray->List UInt8->Nat->Int
 ge:Int->Int->Int×Int
structure FxOk (Z:Fx):Prop where
 sc:∀s xs,scalL s xs=Z.sc s xs
 tg:∀s xs,tagged s xs.length (fU xs)=Z.tg s xs
 ge:∀a k,gExp a k=Z.ge a k
variable {Z:Fx}
theorem FxOk.bd(hZ:FxOk Z)(s:ByteArray)(xs:List UInt8):1<=Z.sc s xs/\Z.sc s xs<2305843009213688669:=by
 rw[<-hZ.sc];exact Ex s xs
theorem FxOk.byt(hZ:FxOk Z)(s:ByteArray)(xs:List UInt8):ey (Z.tg s xs):=by
 rw[<-hZ.tg];exact nyg _ _ _
theorem Oy(hZ:FxOk Z)(k:Int)(w:World):Calls prog 124 #[ab k] w (aU w (rE (Z.ge 4 k))):=by
 rw[<-hZ.ge];exact n4i k w
theorem Ko(hZ:FxOk Z)(a:Int)(w:World):Calls prog 133 #[ab a] w (aU w (ab (Z.ge 4 a).1)):=by
 rw[<-hZ.ge];exact n7h a w
theorem Oz(hZ:FxOk Z)(s:ByteArray)(hs0:s.size<1000)(xs:List UInt8)(hn:xs.length<900000000000)(b off c:Nat)(hc:xs.length<=c)(w:World)(h:cC w b off xs)(hg:Glb w):Calls prog 195 #[.string s,.slice (some ⟨b,off,none⟩) xs.length c] w (aU w (ab (Z.sc s xs))):=by
 rw[<-hZ.sc];obtain⟨cs,t,fr,h1,h2,h3⟩:=h;obtain⟨⟨t2,J,g1⟩,t3,q9,g2⟩:=hg;exact nZm s xs.length (fU xs) b off c t t2 t3 fr J q9 cs hs0 hc aa w h1 h2 h3 g1 g2
def b8 (n:Int) (i:Nat):UInt8:=UInt8.ofNat ((n%18446744073709551616).toNat/2^(56-8*i)%256)
def Kp (n:Int):List UInt8:=(List.range 8).map (b8 n)
theorem nhk(n:Int):(Kp n).length=8:=by simp[Kp]
theorem nzm(n:Int)(i:Nat)(h:i<8):(Kp n).take (i+1)=(Kp n).take i++[b8 n i]:=by
 have hl:i<(Kp n).length:=by rw[nhk];exact h
 rw[Oh hl];congr 2;simp[Kp]
theorem Yl(n k:Int)(i:Nat)(hi:i<8)(hk:k=56-8*(i:Int)):(n%18446744073709551616).fdiv (2^(min (Int.toNat k) IntKind.u64.bits))%256=((b8 n i).toNat:Int):=by
 subst hk;have e1:min (Int.toNat (56-8*(i:Int))) IntKind.u64.bits=56-8*i:=by simp[IntKind.bits];omega
 obtain⟨m,hm⟩:∃m:Nat,n%18446744073709551616=(m:Int):=⟨(n%18446744073709551616).toNat,by omega⟩;rw[e1];unfold b8;rw[hm,Ym,xU];simp only[UInt8.toNat_ofNat'];rw[nDe];omega
def AU (ns:List Int):List UInt8:=ns.flatMap Kp
theorem nOk(ns:List Int):(AU ns).length=8*ns.length:=by induction ns<;>grind [AU,nhk]
theorem n5o(ns:List Int)(j:Nat)(h:j<ns.length):AU (ns.take (j+1))=AU (ns.take j)++Kp ns[j]:=by
 rw[Oh h];unfold AU;rw[List.flatMap_append];simp
def roV (ro:Option (Nat×Nat×List Value)) (ys:List UInt8):Value:=match ro with|none=>ak|some (b,c,_)=>bW b ys.length c
def roH (e:Nat) (ro:Option (Nat×Nat×List Value)) (ys:List UInt8):ad:=match ro with|none=>[]|some (b,_,sp)=>[(b,aV e ys sp)]
def Yn (G:Gh) (L:List World) (ro:Option (Nat×Nat×List Value)) (ys:List UInt8):Prop:=match ro with|none=>ys=[]|some (b,c,sp)=>dT ys c sp/\Fr G L b
theorem nXk(hZ:FxOk Z)(s:ByteArray)(hs0:s.size<1000)(msg:List UInt8)(bm om cm:Nat)(vZ:msg.length<=100000000000)(ns:List Int)(bn cn tn:Nat)(OA:Nat×Nat)(ea:0<ns.length)(c5:ns.length<=1000)(w:World)(pC:cC w bm om msg)(oe:w.heap[bn]? =some (.cells (ns.map ab).toArray tn OA))(hg:Glb w):Calls prog 126 #[.string s,.slice (some ⟨bm,om,none⟩) msg.length cm,.slice (ao bn) ns.length cn] w (aU w (ab (Z.sc s (AU ns++msg)))):=by
 have dp:=(bB.1 oe).1;have Yo:=pC.lt;have c6:=hg.lt;refine ei 19 func126 ntmps126 ?_;refine CJ.loop (α:=List UInt8×Nat×Option (Nat×Nat×List Value)) (λp=>[(0,.string s),(1,.slice (some ⟨bm,om,none⟩) msg.length cm),(7,roV p.2.2 p.1),(11,.slice (ao bn) ns.length cn),(12,ab (ns.length:Int)),(13,ab (p.2.1:Int))]) (λp=>roH 5 p.2.2 p.1) (λp=>[w]) (λp=>Gh.no) (λp=>p.1=AU (ns.take p.2.1)/\p.2.1<=ns.length/\Yn Gh.no [w] p.2.2 p.1) (λp=>ns.length-p.2.1) ([],0,none) ⟨rfl,cO _,rfl⟩ zR rfl rfl zI ?_;rintro⟨J,j,az⟩ ⟨y6,hj,Ey⟩;dsimp only at y6 hj Ey ⊢;refine aG 6 ?_ ?_
 ·intro av;refine B 7 ?_;obtain⟨n,hn⟩:∃n,ns[j]'aa=n:=⟨_,rfl⟩;refine rv rfl rfl rfl (ar (v:=ab n) isAgg3 rfl A0 oe zH (by cases az with|none=>trivial|some p=>obtain⟨b1,c1,s1⟩:=p;obtain⟨hr,hf⟩:=Ey;simp only[Fr,Gh.no,ah,and_true,false_or]at hf;exact⟨by dsimp only;omega,trivial⟩) (by simp only[Ez,oh];rw[ll aa];simp[<-hn])) ?_;refine B 9 ?_;have eb:J.length<=8000:=by rw[y6,nOk,kU];omega
  refine CJ.loop (α:=List UInt8×Nat×Option (Nat×Nat×List Value)) (λp=>[(0,.string s),(1,.slice (some ⟨bm,om,none⟩) msg.length cm),(7,roV p.2.2 p.1),(9,ab n),(10,ab (56-8*(p.2.1:Int))),(11,.slice (ao bn) ns.length cn),(12,ab (ns.length:Int)),(13,ab (j:Int))]) (λp=>roH 5 p.2.2 p.1) (λp=>[w]) (λp=>Gh.no) (λp=>p.1=J++(Kp n).take p.2.1/\p.2.1<=8/\Yn Gh.no [w] p.2.2 p.1) (λp=>8-p.2.1) (J,0,az) ⟨by simp,by dsimp only;omega,Ey⟩ zR rfl rfl zI ?_;rintro⟨ys,i,ro⟩ ⟨xV,hi,rM⟩;dsimp only at xV hi rM ⊢;have Kq:ys.length<=8008:=by rw[xV,cB,kU,nhk];omega
  refine aG 7 ?_ ?_
  ·intro aS;refine B 7 ?_;refine rq (.int .u64 (n%18446744073709551616)) (lg underlying3 underlying233 rfl) (vu (nD n)) ?_;refine B 1 ?_;refine rv rfl rfl rfl (mC rfl rfl aa) ?_;refine rq (.int .u8 ((b8 n i).toNat:Int)) (pz underlying233 underlying5 rfl) (congrArg (Value.int .u8) (Yl n _ i aa rfl)) ?_;refine QG [b8 n i] bt zeroValue5 rfl rfl rfl rfl rfl rfl rfl rfl rfl ?_;intro mA Kr Yp dL dK;replace Kr:=yb Kr;replace Yp:=yd Yp;rcases ro with _|⟨b1,c1,s1⟩
   ·have e0:ys=[]:=rM;subst e0;refine apN (zs:=[b8 n i]) bt rfl rfl rfl rfl (iH.own (i:=0) underlying106 rfl) zI zI ?_;intro al ay an QT Yq dO QU;replace QT:=yb QT;replace Yq:=yd Yq;have Ks:Fr Gh.no [w] al:=.inr ⟨QT.1,trivial⟩;refine OJ.dropF (i:=1) rfl (.inr ⟨Kr.1,trivial⟩) ?_;refine B 9 ?_;refine PJ.again ([b8 n i],i+1,some (al,ay,an)) ⟨by dsimp only;rw[nzm n i aa,<-iY,<-xV];first|done|rfl,by dsimp only;omega,QU,Ks⟩ zS ⟨rfl,rfl,rfl,rfl,congrArg some (congrArg ab zS),rfl,rfl,rfl,trivial⟩ rfl rfl zI
   obtain⟨hr,hf⟩:=rM;refine Ov (i:=1) (xs:=ys) (zs:=[b8 n i]) (sp:=s1) rfl bt rfl rfl rfl rfl (iH.own (i:=0) underlying106 rfl) hr hf yU ?_;intro al ay an Ks QU;have Yr:=Ks;replace Yr:=ye Yr;refine OJ.dropF (i:=0) rfl (.inr ⟨Kr.1,trivial⟩) ?_;refine B 9 ?_;refine PJ.again (ys++[b8 n i],i+1,some (al,ay,an)) ⟨by dsimp only;rw[nzm n i aa,<-iY,<-xV];first|done|rfl,by dsimp only;omega,QU,Ks⟩ zS ⟨rfl,rfl,rfl,rfl,congrArg some (congrArg ab zS),rfl,rfl,rfl,trivial⟩ rfl rfl zI
  intro aS;refine B 10 ?_;refine ag (ys,j+1,ro) ⟨by dsimp only;rw[n5o ns j aa,hn,xV,show i=8 by omega,y6];first|done|rfl,by dsimp only;omega,rM⟩
 intro av;refine B 6 ?_;have ej:j=ns.length:=by omega
 subst ej;rw[iC (aj _)]at y6;have Kq:=nOk ns;rcases az with _|⟨b1,c1,s1⟩
 ·exact absurd (show J=[]from Ey) (by intro e;rw[e]at y6;rw[<-y6]at Kq;simp at Kq;omega)
 obtain⟨hr,hf⟩:=Ey;subst y6;have bQ:=hf;simp only[Fr,Gh.no,ah,and_true,false_or]at bQ;refine CJ.reH (H':=[(b1,aV 5 (AU ns) s1)]) rfl ?_;refine B 4 ?_;refine Ov (i:=0) (xs:=AU ns) (zs:=msg) (sp:=s1) rfl bt rfl rfl rfl rfl (iH.seg underlying106 A0 pC zH zy) hr hf (by rw[Kq];omega) ?_;intro bx b0 db bz bA;have Ys:=bz;replace Ys:=ye Ys;refine call call195 rfl rfl rfl (λW hS=>Oz hZ s hs0 (AU ns++msg) (by rw[cB,Kq];omega) bx 0 b0 bA.le W (cC.row (hS.own _ A0)) (hg.old hS A0 zF zD)) ?_;refine B 4 ?_;refine cA (.inl rfl) results126 bD A0 zA ?_;rfl
def De (Z:Fx) (x:Int) (msg:List UInt8):Int:=Z.sc (⟨#[110,111,110,99,101]⟩:ByteArray) (AU [x]++msg)
def Df (Z:Fx) (r p:Int) (msg:List UInt8):Int:=Z.sc (⟨#[115,105,103,110]⟩:ByteArray) (AU [r,p]++msg)
def rO (Z:Fx) (x:Int) (msg:List UInt8):Int:=(Z.ge 4 (De Z x msg)).1
def wQ (Z:Fx) (x:Int) (msg:List UInt8):Int:=(rG (De Z x msg) (qA (Df Z (rO Z x msg) (Z.ge 4 x).1 msg) x).1).1
def B4 (Z:Fx) (x:Int) (msg:List UInt8):Value:=if D7 x then .tuple #[.agg #[ab (rO Z x msg),ab (wQ Z x msg)],ab 0]else .tuple #[.agg #[ab 0,ab 0],ab 50]
theorem Kt(a b:Int):qZ (qA a b).1:=by grind [qA]
theorem nOl(hZ:FxOk Z)(x:Int)(msg:List UInt8):qZ (De Z x msg):=by have:=hZ.bd (⟨#[110,111,110,99,101]⟩:ByteArray) (AU [x]++msg);unfold De;exact⟨by omega,by omega⟩
theorem EA(hZ:FxOk Z)(x:Int)(msg:List UInt8):(rG (De Z x msg) (qA (Df Z (rO Z x msg) (Z.ge 4 x).1 msg) x).1).2=0:=by
 unfold rG;rw[if_pos ⟨nOl hZ _ _,Kt _ _⟩]
theorem Ku(hZ:FxOk Z)(x k e:Int)(msg:List UInt8)(J:D7 x)(hk:De Z x msg=k)(he:Df Z (Z.ge 4 k).1 (Z.ge 4 x).1 msg=e):Value.tuple #[.agg #[ab (Z.ge 4 k).1,ab (rG k (qA e x).1).1],ab (rG k (qA e x).1).2]=B4 Z x msg:=by grind [EA,B4,rO,wQ]
theorem Kx(Z:Fx)(x:Int)(msg:List UInt8)(J:¬D7 x):Value.tuple #[.agg #[ab 0,ab 0],ab 50]=B4 Z x msg:=by
 unfold B4;rw[if_neg J]
theorem nep(hZ:FxOk Z)(x k:Int)(msg:List UInt8)(hk:De Z x msg=k)(vZ:msg.length<=100000000000)(bm J cm bn cn tn:Nat)(OA:Nat×Nat)(w:World)(pC:cC w bm J msg)(oe:w.heap[bn]? =some (.cells #[ab x] tn OA))(hg:Glb w):Calls prog 126 #[.string (⟨#[110,111,110,99,101]⟩:ByteArray),.slice (some ⟨bm,J,none⟩) msg.length cm,.slice (ao bn) 1 cn] w (aU w (ab k)):=by
 subst hk;exact nXk hZ (⟨#[110,111,110,99,101]⟩:ByteArray) zz msg bm J cm vZ [x] bn cn tn OA zI zI w pC oe hg
theorem nWi(hZ:FxOk Z)(r p e:Int)(msg:List UInt8)(he:Df Z r p msg=e)(vZ:msg.length<=100000000000)(bm J cm bn cn tn:Nat)(OA:Nat×Nat)(w:World)(pC:cC w bm J msg)(oe:w.heap[bn]? =some (.cells #[ab r,ab p] tn OA))(hg:Glb w):Calls prog 126 #[.string (⟨#[115,105,103,110]⟩:ByteArray),.slice (some ⟨bm,J,none⟩) msg.length cm,.slice (ao bn) 2 cn] w (aU w (ab e)):=by
 subst he;exact nXk hZ (⟨#[115,105,103,110]⟩:ByteArray) zz msg bm J cm vZ [r,p] bn cn tn OA zI zI w pC oe hg
theorem nVp(hZ:FxOk Z)(x:Int)(msg:List UInt8)(bm om cm:Nat)(vZ:msg.length<=100000000000)(w:World)(pC:cC w bm om msg)(hg:Glb w):Calls prog 146 #[ab x,.slice (some ⟨bm,om,none⟩) msg.length cm] w (aU w (B4 Z x msg)):=by
 have Yo:=pC.lt;have bA:=hg.lt;obtain⟨k,hk⟩:∃k,De Z x msg=k:=⟨_,rfl⟩;obtain⟨e,he⟩:∃e,Df Z (Z.ge 4 k).1 (Z.ge 4 x).1 msg=e:=⟨_,rfl⟩;refine eN func146 ntmps146 ?_;refine bM 3 ?_;intro b4 iW iX;refine B 12 ?_;refine XT ?_;refine B 1 ?_;refine XT ?_;refine B 8 ?_;refine Yt (first:=[ab x]) (cap:=[]) rfl call132 rfl rfl rfl (λW hS=>nbj x W) ?_;refine aG 3 ?_ ?_
 ·intro av;refine B 9 ?_;refine cA (.inl rfl) results146 bD A0 zA ?_;exact Kx Z x msg cY
 intro av;refine B 6 ?_;refine Ja ?_;refine yV ?_;intro br an QV QW bu Yu QX;refine call call126 rfl rfl rfl (λW hS=>nep hZ x k msg hk vZ bm om cm br _ _ _ W (pC.old hS A1 zH zy) (hS.old A0 QV QW zy) (hg.old hS A1 zF zD)) ?_;refine B 6 ?_;refine call call124 rfl rfl rfl (λW hS=>Oy hZ _ W) ?_;refine B 4 ?_;refine zUe ?_;refine B 3 ?_;refine CJ.less (E':=[(0,_),(1,_),(4,_),(5,_),(6,_),(7,_),(8,_),(9,_),(12,_),(13,_),(14,_),(15,_),(16,_),(17,_),(18,_),(19,_),(21,_),(22,_),(23,_),(24,_),(25,_),(26,_),(27,_),(28,_),(30,_)]) zR ?_;refine CJ.chn 13 [5] [_,_,some (ab (Z.ge 4 k).1),_,_,none,some (ab e),_,_,_,_,_,_] (λcv L' H'=>let ew:ad:=[(b4,oC #[ab (Z.ge 4 k).1,ab 0] 59)];match cv with| []=>L'=[an,w]/\H'=ew| [v1]=>∃(J:Nat) (OB:World),v1= .slice (ao J) 2 2/\L'=[OB,an,w]/\H'=ew/\OB.heap[J]? =some (oC #[ab (Z.ge 4 k).1,ab (Z.ge 4 x).1] 3)/\(an.heap.size<=J/\w.heap.size<=J)/\b4≠J/\¬Gh.no.X J/\OB.heap.size=J+1|_=>False) (pc zL (pc zbc (pc (λcv L' H' hd hP=>match cv,hd,hP with| [],hd,hP=>(by obtain⟨rfl,rfl⟩:=hP;exact X.v (bV (i:=0) rfl isAgg3 rfl rfl))| [v1],hd,hP=>(by obtain⟨J,OB,rfl,rfl,rfl,EB,EC,Ky,ED,KA⟩:=hP;exact X.v (bV (i:=0) rfl isAgg3 rfl rfl))|_::_::_,_,hP=>hP.elim) (pc zL (pc (by exact λcv L' H' hd hP=>nOn (first:=[ab x]) (cap:=[]) rfl call133 rfl rfl (λW hS _=>Ko hZ x W) (λ_=>rfl)) (pk (pc (λcv L' H' hd hP=>match cv,hd,hP with| [],hd,hP=>(absurd (show false=true from hd) zz)| [v1],hd,hP=>(by obtain⟨J,OB,rfl,rfl,rfl,EB,EC,Ky,ED,KA⟩:=hP;exact nf call126 rfl rfl (λW hS _=>nWi hZ _ _ e msg he vZ bm om cm J _ _ _ W (pC.old hS A2 zH (by simp only[bN,dA,eh,rK,wL,ne_eq,and_true];omega)) (hS.old A0 EB ED (by simp only[bN,dA,eh,rK,wL,ne_eq,and_true];omega)) (hg.old hS A2 zF zD)) (λ_=>rfl))|_::_::_,_,hP=>hP.elim) (pc zL (pc (by exact λcv L' H' hd hP=>nf call215 rfl rfl (λW hS _=>n4p _ _ W) (λ_=>rfl)) (pc zL (pc (by exact λcv L' H' hd hP=>X.v (ji rfl rfl)) (pc (by exact λcv L' H' hd hP=>X.v (ji rfl rfl)) (pc (by exact λcv L' H' hd hP=>X.v (uo rfl)) (pn)))))))))))))) ?_ ?_
 ·refine ss rfl ?_ ?_
  ·intro cv L' H' hl hP F Q' hk;obtain rfl:=mF hl;obtain⟨rfl,rfl⟩:=hP;refine Ja ?_;intro J OB EB EC Ky ED KA;exact OJ.done (hk _ _ _ ⟨J,OB,rfl,rfl,rfl,EB,⟨EC.1,EC.2.1⟩,Ky.1,ED,KA⟩)
  exact nn
 intro cv L' H' hl hP;obtain⟨v1,rfl⟩:=jK hl;obtain⟨J,OB,rfl,rfl,rfl,EB,EC,Ky,ED,KA⟩:=hP;refine B 7 ?_;refine call call216 rfl rfl rfl (λW hS=>n5p _ _ W) ?_;refine B 4 ?_;refine zUe ?_;refine B 12 ?_;refine cA (.inl rfl) results146 bD A2 zA ?_;exact Ku hZ x k e msg cY hk he

def cM (f:Nat->Int):List UInt8:=(List.range 32).map λi=>UInt8.ofNat (f i).toNat
theorem nI(f:Nat->Int):(cM f).length=32:=by simp[cM]
theorem Vy(f:Nat->Int)(hf:ey f)(i:Nat)(h:i<32):fU (cM f) i=f i:=by
 have:=hf i;simp only[fU,cM,oh,List.getElem?_range h,KB,Option.getD_some,UInt8.toNat_ofNat'];omega
theorem cC.dg{t:Nat}{fr:Nat×Nat}{f:Nat->Int}(h:w.heap[b]? =some (.cells (dg f) t fr))(hf:ey f):cC w b 0 (cM f):=
 ⟨_,_,_,h,by rw[nI];exact aj 32,λi hi=>by rw[nI]at hi;rw[mx,rF f i hi,Vy f hf i hi]⟩
theorem nWh(hZ:FxOk Z)(s:ByteArray)(hs0:s.size<1000)(xs:List UInt8)(hn:xs.length<900000000000)(b off c:Nat)(hc:xs.length<=c)(w:World)(h:cC w b off xs)(hg:Glb w):Calls prog 87 #[.string s,.slice (some ⟨b,off,none⟩) xs.length c] w (aU w (.agg (Px.dg (Z.tg s xs)))):=by
 rw[<-hZ.tg];obtain⟨cs,t,fr,h1,h2,h3⟩:=h;obtain⟨⟨t2,J,g1⟩,t3,q9,g2⟩:=hg;exact nqe s xs.length (fU xs) b off c t t2 t3 fr J q9 cs hs0 hc aa w h1 h2 h3 g1 g2
abbrev kK (n:Int):Prop:= -9223372036854775808<=n/\n<=9223372036854775807
def VA:V->List Value
 | .int n=>[.int .i64 1,.int .i64 n,.string ⟨#[]⟩,.slice none 0 0]
 | .text s=>[.int .i64 2,.int .i64 0,.string s,.slice none 0 0]
 | .list _=>[]
def v7:V->Bool
 | .list _=>false
 |_=>true
def nM (l:List V):List Value:=l.flatMap VA
theorem neh(x:V)(h:v7 x=true):(VA x).length=4:=by cases x<;>simp_all[v7,VA]
theorem n4o(l:List V)(h:l.all v7=true):(nM l).length=l.length*4:=by induction l<;>grind [nM,neh]
theorem EE(N:Nat)(w:World):∀(l:List V),l.all v7=true->∀(pre sp:List Value),gX N w (pre++(nM l++sp)).toArray pre.length l
 | [],_,_,_=>by simp only[gX]
 |x::l,h,pre,sp=>by
  simp only[List.all_cons,mT]at h;have ih:=EE N w l h.2 (pre++VA x) sp;have e:pre++VA x++(nM l++sp)=pre++(nM (x::l)++sp):=by simp[nM]
  rw[e,cB,neh x h.1]at ih;have hc:cut (pre++(nM (x::l)++sp)).toArray pre.length 4=(VA x).toArray:=by
   unfold cut;simp only[nM,VB,iY];rw[List.drop_left' rfl,<-neh x h.1,QY rfl]
  simp only[gX];refine⟨?_,?_,ih⟩
  ·simp only[rf,cB,n4o (x::l) (by simp[h.1,h.2]),dI];omega
  rw[hc];cases x with
  |int n=>simp only[fy];rfl
  |text s=>simp only[fy];rfl
  |list l'=>simp[v7]at h
theorem KC{N t cap:Nat}{fr:Nat×Nat}{l:List V}(hl:l.all v7=true)(hb:b<N)(hc:l.length<=cap)(h:w.heap[b]? =some (.cells (nM l++sp).toArray t fr)):fy N w (.list l) (vL (ao b) l.length cap):=by
 simp only[fy];exact⟨_,_,rfl,hc,.inr ⟨b,_,t,fr,rfl,hb,h,by have:=EE N w l hl [] sp;simpa using this⟩⟩
theorem B6(x:V)(hf:v7 x=true)(h:x.fine):x.enc.length<=1000000020:=by
 cases x with
 |int n=>
  simp only[V.fine]at h;have:=Da (En n h.1 h.2);simp only[V.enc,dI];omega
 |text s=>
  simp only[V.fine]at h;have:=Da (u:=s.size) aa;have e:s.data.toList.length=s.size:=Ox;simp only[V.enc,dI,cB,e];omega
 |list l=>simp[v7]at hf
theorem nvf(l:List V)(hf:l.all v7=true)(h:V.fineL l):(V.encL l).length<=l.length*1000000020/\V.depthL l=0:=by
 induction l with
 |nil=>simp[V.encL,V.depthL]
 |cons x l ih=>
  simp only[List.all_cons,mT]at hf;simp only[V.fineL]at h;obtain⟨h1,h2⟩:=ih hf.2 h.2;have h3:=B6 x hf.1 h.1;simp only[V.encL,V.depthL,cB,dI,h2];refine⟨by omega,?_⟩;cases x with
  |int n=>simp[V.depth]
  |text s=>simp[V.depth]
  |list l'=>simp[v7]at hf
theorem nO:u2 prog 2 33 (mH 32 [.i]):=u2.array underlying33 sizeOf5 rfl (mU.int underlying5 isAgg5)
theorem nF:prog.eqGuardType prog.depth 33=false:=by kernel_rfl
def iD (f g:Nat->Int):Bool:=oY (dg f).toList (dg g).toList
theorem EF(f:Nat->Int):iD f f=true:=nAm (ks:=mH 32 [.i]) (ys:=(dg f).toList) rfl
def tA (a b:Int):Int×Int:=if eo a/\eo b then(a*b%4611686018427377339,0)else(0,40)
theorem nZn{b:Int}(h:¬(eo a/\eo b)):tA a b=(0,40):=by unfold tA;rw[if_neg h]
theorem nIn{b:Int}(ha:eo a)(hb:eo b):tA a b=(a*b%4611686018427377339,0):=by unfold tA;rw[if_pos ⟨ha,hb⟩]
theorem VC(h:¬(if eo x then(0:Int)else 40)=0):¬eo x:=λg=>h (if_pos g)
theorem nRg(h:(if eo x then(0:Int)else 40)=0):eo x:=by grind
def Jf (a b:Int) (j:Nat):Int:=match j with|0=>a|_=>b
theorem EG(a b:Int)(j:Nat)(h:j<2):(#[ab a,ab b]:Array Value)[j]? =some (ab (Jf a b j)):=by
 match j,h with
 |0,_=>rfl
 |1,_=>rfl
theorem nXp(a b:Int)(w:World):Calls prog 127 #[ab a,ab b] w (aU w (rE (tA a b))):=by
 refine ei 11 func127 ntmps127 ?_;refine rv rfl rfl rfl (y8 underlying330 zeroValue330 sizeOf3 rfl rfl rfl rfl) ?_;refine B 4 ?_;refine CJ.lp (α:=Nat) [0,1,11] (λj=>[(12,ab (j:Int))]) (λj=>[]) (λj=>j<=2/\(1<=j->eo a)/\(2<=j->eo b)) (λj=>2-j) 0 ⟨by omega,λh=>absurd h aa,λh=>absurd h aa⟩ ?_;rintro j ⟨hj,KD,aq⟩;refine aG 6 ?_ ?_
 ·intro av;refine B 6 ?_;refine rq (ab (Jf a b j)) (uV underlying330 isAgg3 sizeOf3 rfl rfl aa aa (by rw[xR];exact EG a b _ aa)) (congrArg (λk=>ab (Jf a b k)) aa) ?_;refine B 6 ?_;obtain⟨e,he⟩:∃e,(if eo (Jf a b j)then(0:Int)else 40)=e:=⟨_,rfl⟩;refine zVd ?_;refine aG 9 ?_ ?_
  ·intro aS;refine B 13 ?_;refine nT results127 rfl rfl A0 ?_ ?_
   ·exact congrArg ab (by rw[nZn (λg=>by match j,he with|0,he=>exact VC (x:=Jf a b 0) KE g.1|j+1,he=>exact VC (x:=Jf a b (j+1)) KE g.2)])
   exact congrArg ab (by rw[nZn (λg=>by match j,he with|0,he=>exact VC (x:=Jf a b 0) KE g.1|j+1,he=>exact VC (x:=Jf a b (j+1)) KE g.2),<-he];exact if_neg (VC KE))
  intro aS;refine B 7 ?_;refine ag (j+1) ⟨by omega,λ_=>by match j,KD,he with|0,_,he=>exact nRg (x:=Jf a b 0) KE|j+1,KD,_=>exact KD aa,λh=>by match j,hj,he with|0,_,_=>exact absurd h aa|1,_,he=>exact nRg (x:=Jf a b 1) KE|j+2,hj,_=>exact absurd av aa⟩
 intro av;refine B 6 ?_;have ay:j=2:=by omega
 have J:=KD aa;have C5:=aq aa;have gb:=J.1;have dL:=J.2.1;have hb1:=C5.1;have dz:=C5.2.1;have xO:=Int.emod_nonneg (a*b) (b:=4611686018427377339) zz;have cN:=Int.emod_lt_of_pos (a*b) (b:=4611686018427377339) zz;refine B 5 ?_;refine call call190 rfl rfl rfl (λW hS=>nyf a b aa aa aa aa W) ?_;refine B 6 ?_;refine nT results127 rfl rfl A0 ?_ ?_
 ·exact congrArg ab (by rw[nIn J C5])
 exact congrArg ab (by rw[nIn J C5])
def Yv:List TK:=mH 3 [.i]
theorem eqA248:u2 prog 2 248 Yv:=u2.array underlying248 sizeOf100 rfl ((mU.int underlying100 isAgg100).up zz:mU prog 1 100 [.i])
theorem QZ:prog.eqGuardType prog.depth 248=false:=by kernel_rfl
def pD (Z:Fx) (p:Int) (msg:List UInt8) (r s:Int):Bool:=decide (eo p/\eo r/\qZ s/\(Z.ge 4 s).1=(tA r (Z.ge p (Df Z r p msg)).1).1)
theorem nDo{e:Int}(h:(if eo x then(0:Int)else 40)=e):e=0↔eo x:=⟨λg=>nRg (h.trans g),λg=>by rw[<-h,if_pos g]⟩
theorem EH{e:Int}(h:(if py x then(1:Int)else 0)=e):e=0↔qZ x:=by
 all_goals(simp_all[qZ,nij,n1k];omega)
theorem KF{p r s e1 e2 e3:Int}{msg:List UInt8}(h1:e1=0↔eo p)(h2:e2=0↔eo r)(h3:e3=0↔qZ s)(h:¬(e1=0/\e2=0/\e3=0)):bH= .bool (pD Z p msg r s):=by
 refine vb (decide_eq_false ?_).symm;all_goals grind
theorem EI{p r s e1 e2 e3 e:Int}{msg:List UInt8}{m:Int×Int}(h1:e1=0↔eo p)(h2:e2=0↔eo r)(h3:e3=0↔qZ s)(h:e1=0/\e2=0/\e3=0)(he:Df Z r p msg=e)(hm:tA r (Z.ge p e).1=m):Value.bool (decide ((Z.ge 4 s).1=m.1))= .bool (pD Z p msg r s):=by
 subst he;subst hm;refine vb (decide_eq_decide.2 ?_);all_goals grind
theorem ahH(hZ:FxOk Z)(a k:Int)(w:World):Calls prog 125 #[ab a,ab k] w (aU w (rE (Z.ge a k))):=by
 rw[<-hZ.ge];exact nEk a k w
theorem eq3(a b c:Int):(!oY [ab a,ab b,ab c] [ab 0,ab 0,ab 0])=decide (¬(a=0/\b=0/\c=0)):=by grind [oY,Q0]
theorem n1c(hZ:FxOk Z)(p r s:Int)(msg:List UInt8)(bm om cm:Nat)(vZ:msg.length<=100000000000)(w:World)(pC:cC w bm om msg)(hg:Glb w):Calls prog 75 #[ab p,.slice (some ⟨bm,om,none⟩) msg.length cm,.agg #[ab r,ab s]] w (aU w (.bool (pD Z p msg r s))):=by
 have Yo:=pC.lt;obtain⟨e1,uq⟩:∃e,(if eo p then(0:Int)else 40)=e:=⟨_,rfl⟩;obtain⟨e2,Jg⟩:∃e,(if eo r then(0:Int)else 40)=e:=⟨_,rfl⟩;obtain⟨e,he⟩:∃e,Df Z r p msg=e:=⟨_,rfl⟩;obtain⟨m,hm⟩:∃m,tA r (Z.ge p e).1=m:=⟨_,rfl⟩;have qB:=nDo uq;have VD:=nDo Jg;have br:=hg.lt;obtain⟨e3,Yw⟩:∃e,(if py s then(1:Int)else 0)=e:=⟨_,rfl⟩;have J:=EH Yw;refine eN func75 ntmps75 ?_;refine cK 2 ?_;intro b5 w5 Dg Yx bA tr tu;refine B 4 ?_;refine eS 10 9 [] (pb:=by exact zU 1 (k:=by exact aM (nf call65 rfl rfl (λW hS _=>by rw[<-uq];exact nP p W) (λ_=>rfl)) (zU 2 (k:=by exact aM (nf call65 rfl rfl (λW hS _=>by rw[<-Jg];exact nP r W) (λ_=>rfl)) (zU 2 (k:=by exact aM (nf call123 rfl rfl (λW hS _=>by rw[<-Yw];exact nbn s W) (λ_=>rfl)) (aM (X.v (RV.re (y8 underlying248 zeroValue248 sizeOf100 rfl rfl rfl rfl) rfl)) zT))))))) (sp:=[_,some (ab e1),_,some (ab r),some (ab e2),_,some (ab s),some (ab e3),some (.agg #[ab e1,ab e2,ab e3]),_]) (h:=?_);intro _ _ hk;refine B 1 ?_;intro b7 ha ho;have kh:(w5.heap.size<=b7/\w.heap.size<=b7):=⟨ha.1,ha.2.1⟩;refine zE ?_;refine B 8 ?_;refine rq (.bool (decide (¬(e1=0/\e2=0/\e3=0)))) (dV eqA248 zz QZ rfl rfl rfl) (vb (eq3 e1 e2 e3)) ?_;refine aG 2 ?_ ?_
 ·intro av;refine B 7 ?_;refine cA (.inl rfl) results75 bD A1 zA ?_;exact KF qB VD J (by simpa using av)
 intro av;refine B 6 ?_;refine call call124 rfl rfl rfl (λW hS=>Oy hZ _ W) ?_;refine B 14 ?_;refine Ja ?_;refine yV ?_;intro an bu al ay bh bz bx;refine call call126 rfl rfl rfl (λW hS=>nWi hZ r p e msg he vZ bm om cm an _ _ _ W (pC.old hS A2 zH zy) (hS.old A0 al ay zy) (hg.old hS A2 zF zD)) ?_;refine call call125 rfl rfl rfl (λW hS=>ahH hZ p e W) ?_;refine B 12 ?_;refine call call127 rfl rfl rfl (λW hS=>by rw[<-hm];exact nXp _ _ W) (v:=rE m) ?_;refine B 16 ?_;refine cA (.inl rfl) results75 bD A2 zA ?_;exact EI qB VD J (by simpa using av) he hm
def oZ (n:Nat):List Nat:=if h:1<n then n::oZ (n/2)else[]
termination_by n
decreasing_by omega
theorem VE{n:Nat}(h:1<n):oZ n=n::oZ (n/2):=by rw[oZ,dif_pos h]
theorem Yy{n:Nat}(h:¬1<n):oZ n=[]:=by rw[oZ,dif_neg h]
theorem nYn(n:Nat):(oZ n).length<=n:=by induction n using Nat.strongRecOn<;>grind [VE,Yy]
theorem neo{n:Nat}:∀x∈oZ n,1<x/\x<=n:=by induction n using Nat.strongRecOn<;>grind [VE,Yy]
def tB (n:Nat):Nat:=n/2
def y9 (n:Nat):Nat:=n^^^1
theorem KG(n:Nat)(h:n<4611686018427387904):IntKind.i64.wrap ((BitVec.ofInt 64 (n:Int)^^^BitVec.ofInt 64 1).toNat:Int)=((y9 n:Nat):Int):=by
 have h1:n^^^1<2^62:=Nat.xor_lt_two_pow aa zz;have e1:(BitVec.ofInt 64 (n:Int))=BitVec.ofNat 64 n:=by simp
 have e2:(BitVec.ofInt 64 1)=BitVec.ofNat 64 1:=rfl;rw[e1,e2,BitVec.toNat_xor,BitVec.toNat_ofNat,BitVec.toNat_ofNat,Nat.mod_eq_of_lt (a:=n) aa];show IntKind.i64.wrap ((n^^^1:Nat):Int)=((n^^^1:Nat):Int);generalize n^^^1=m at *;simp[IntKind.wrap,IntKind.bits,IntKind.signed];omega
abbrev di (d:Int):Prop:=0<=d/\d<512
theorem Yz:prog.info? 3=some Tryz.t3:=by kernel_rfl
theorem OC:jM prog 55 3 1:=⟨underlying55,Tryz.t3,ab 0,Yz,rfl,rfl,rfl,by decide⟩
theorem ncj(d:Int)(h:di d)(w:World):Calls prog 37 #[ab d] w (aU w (.tuple #[ab (512+d),ab 0])):=by
 have h1:=h.1;have h2:=h.2;refine eN func37 ntmps37 ?_;refine Qm ?_;refine Dh ?_;refine B 15 ?_;refine nT results37 rfl rfl A0 ?_ ?_;all_goals rfl
theorem njl(d:Int)(h:¬di d)(w:World):Calls prog 37 #[ab d] w (aU w (.tuple #[ab 0,ab 200])):=by
 refine ei 12 func37 ntmps37 ?_;refine ni (t:=6) rfl (λav=>?_) (λav=>?_)
 ·replace av:=ya av;refine B 14 ?_;exact z7g
 replace av:=ya av;refine aG 5 ?_ ?_
 ·intro aS;refine B 8 ?_;exact z7g
 intro aS;refine B 11 ?_;exact z7g
theorem nci(n:Nat)(h:n<4611686018427387904)(w:World):Calls prog 188 #[ab (n:Int)] w (aU w (ab ((tB n:Nat):Int))):=by
 refine ei 8 func188 ntmps188 ?_;refine rv rfl rfl rfl (EJ rfl rfl aa aa aa) ?_;refine B 4 ?_;refine aL results188 rfl A0 ?_;exact congrArg ab (by unfold tB;omega)
theorem n8l(n:Nat)(h:n<4611686018427387904)(w:World):Calls prog 303 #[ab (n:Int)] w (aU w (ab ((y9 n:Nat):Int))):=by
 refine ei 8 func303 ntmps303 ?_;refine rq (ab ((y9 n:Nat):Int)) (yR rfl rfl) (congrArg ab (KG n h)) ?_;refine B 4 ?_;refine aL results303 rfl A0 ?_;rfl
theorem EK(n:Nat)(w:World):Calls prog 251 #[ab (n:Int)] w (dc w (λb:Nat=>.func (.func 291) #[] #[ptr b 0]) (λb w1=>w.heap.size<=b/\True/\w1.heap[b]? =some (oC #[ab (n:Int)] 312))):=by
 refine eN func251 ntmps251 ?_;refine cK 2 ?_;intro b1 w1 hb1 cN J gb jJ;refine B 10 ?_;refine sM b1 results251 rfl A1 rfl ?_;exact λW hS=>⟨gb.1,True.intro,hS.old A0 hb1 cN trivial⟩
theorem KH(n:Nat)(hn:n<4611686018427387904)(b:Nat)(W:World)(hb1:W.heap[b]? =some (oC #[ab (n:Int)] 312)):uS prog 291 [ptr b 0] (λm:Nat=>[ab (m:Int)]) (C2 (oZ n)) (Is (oZ n)) (λk=>k=b) (λ_=>False) W:=by
 intro l M I X0 hM hI hX hy h0;refine nB (dF hM (λ_=>False) (hI [] _)) [(b,oC #[ab (n:Int)] 312)] (vs:=[_,_]) func291 rfl ntmps291 rfl (Oi hM (hI [] _) h0 (by intro p hp;simp at hp;subst hp;exact hb1) (EL _) zI) ?_;refine B 1 ?_;refine CJ.loop (α:=(List Nat×Nat)×aJ) (λp=>[(0,yv l),(1,ptr b 0)]) (λp=>[(b,oC #[ab (p.1.2:Int)] 312)]) (λp=>[W]) (λp=>dF hM p.2 (hI p.1.1 p.2)) (λp=>p.1.1++oZ p.1.2=oZ n/\p.1.2<=n/\∀k,p.2 k->W.heap.size<=k) (λp=>p.1.2) (([],n),λ_=>False) ⟨rfl,aj _,λ_ h=>h.elim⟩ ⟨rfl,rfl,trivial⟩ rfl rfl zI ?_;rintro⟨⟨pre,m⟩,V⟩ ⟨J,al,hV⟩;dsimp only at J al hV ⊢;refine B 6 ?_;refine ni (t:=5) rfl (λav=>?_) (λav=>?_)
 ·replace av:=ya av;refine B 2 ?_;refine BW (λV=>hI (pre++[m]) V) hX hV zI rfl rfl rfl rfl (λW1 uT lM=>hy (pre) (m) V W1 ⟨oZ (m/2),by rw[iY,<-J,VE (n:=m) aa];rfl⟩ uT lM) ?_ ?_
  ·intro V hV;refine B 13 ?_;refine call call188 rfl rfl rfl (λW hS=>nci m aa W) ?_;refine kT (i:=0) rfl sizeOf312 rfl rfl rfl rfl (er rfl) rfl ?_;refine B 1 ?_;refine PJ.again ((pre++[m],tB m),V) ⟨by dsimp only;rw[<-J,VE (n:=m) aa,iY];rfl,by dsimp only[tB];omega,hV⟩ (by dsimp only[tB];omega) ⟨rfl,rfl,trivial⟩ rfl rfl zI
  intro V hV;refine B 8 ?_;exact BX (.inr rfl) results291 A0 hV zI (λA hA=>.inr hA)
 replace av:=ya av;refine B 11 ?_;exact BX (.inr rfl) results291 A0 hV zI (λA hA=>.inl ⟨pre,by rw[<-J,Yy aa,ec],hA⟩)
theorem nzp(fo:Nat->Nat)(pre:List Nat)(x:Nat):(pre++[x]).map (λn=>((fo n:Nat):Int))=pre.map (λn=>((fo n:Nat):Int))++[((fo x:Nat):Int)]:=by simp
theorem n5h(fo:Nat->Nat)(g:Nat)(aB:eV prog g)(OD:∀(n:Nat) (w:World),n<4611686018427387904->Calls prog g #[ab (n:Int)] w (aU w (ab ((fo n:Nat):Int))))(d:Int)(kk:Nat)(Dj:512+d=(kk:Int))(hd:di d)(w:World):Calls prog 187 #[ab d,.func (.func g) #[] #[]] w (aD w aA 1 3 (List.map (λn=>((fo n:Nat):Int)) (oZ kk)) (λs=>.tuple #[s,ab 0])):=by
 have cq:=hd.1;have bA:=hd.2;have bZ:=nYn kk;refine Qq Gh.no [] (vs:=[_,_]) func187 rfl ntmps187 rfl (JW w) ?_;refine cK 2 ?_;intro b3 w3 dE da gi eO fw;refine bM 1 ?_;intro b4 iW iX;refine B 6 ?_;refine call call37 rfl rfl rfl (λW hS=>by rw[<-Dj];exact ncj d hd W) (v:=.tuple #[ab (kk:Int),ab 0]) ?_;refine aF 11 bH ?_;refine B 9 ?_;refine QC (α:=Nat) (v:=λb=>.func (.func 291) #[] #[ptr b 0]) (bo:=λb=>(b,oC #[ab (kk:Int)] 312)) (Φ:=λ_=>True) call251 rfl rfl rfl (λW hS=>EK kk W) ?_;intro J tC KI _;dsimp only at tC KI ⊢;replace tC:=yb tC;simp only[bN,and_true]at KI;refine B 3 ?_;refine nap (f:=291) (cap:=[ptr J 0]) (α:=Nat) (enc:=(λm:Nat=>[ab (m:Int)])) (Pre:=C2 (oZ kk)) (Fin:=Is (oZ kk)) (RO:=λ_=>False) (i:=0) (b:=J) (o:=oC #[ab (kk:Int)] 312) (H:=[(b4,oC #[ak] 55)]) rfl rfl zB zH rfl call291 (λW W2 hS fh hB=>KH kk aa J W2 (by rw[hB.block J (bB.1 fh).1];exact fh)) (λ_ _ _ hk=>hk.elim) (λ_=>rfl) (λpre G' Hc=>G'=Gh.no/\∃r:Rw,r.Fr Gh.no [w3,w]/\r.Fit 1 (List.map (λn=>((fo n:Nat):Int)) pre)/\Hc=[(b4,oC #[r.val (List.map (λn=>((fo n:Nat):Int)) pre).length] 55)]++(r.hp aA 3 (List.map (λn=>((fo n:Nat):Int)) pre)++[])) (λ_ _ _=>False) ⟨rfl,.nil,True.intro,rfl,rfl⟩ zz ?_ ?_ ?_
 ·rintro pre x G' Hc l Dk rec W1 M V Wy qd xN eM ⟨rfl,r,aK,ae,rfl⟩ jh mw Qs yG dO DZ;simp only[ah]at jh yG;have bK:r.ge w3.heap.size:=Rw.ge_of aK A0;have da:=dO.z (k:=b3) aa zH mZ zH;have Q1:=neo x (eM.subset zI);have gq:=eM.length_le;simp only[cB,dI,fJ]at gq;have EM:∀p∈r.hp aA 3 (List.map (λn=>((fo n:Nat):Int)) pre),M p.1\/V p.1:=λp hp=>dO.loc.h p VF;refine B 3 ?_;refine Om qd ?_;refine B 1 ?_;refine eS 5 4 [] (pb:=by exact zU 3 (k:=by exact aM (nOn (first:=[]) (cap:=[]) rfl aB rfl rfl (λW hS _=>OD x W aa) (λ_=>rfl)) zT)) (h:=?_);intro _ _ hk;refine Ja ?_;intro b0 bQ QV ha QX QW hz;refine zE ?_;refine jV (r:=r) (xs:=(List.map (λn=>((fo n:Nat):Int)) pre)) (zs:=[((fo x:Nat):Int)]) (enc:=aA) (m:=1) (H0:=[(b4,oC #[r.val (List.map (λn=>((fo n:Nat):Int)) pre).length] 55)]) (H1:=(l,.loop {rec with state:=.busy})::jj Dk) zW OC nz rfl rfl rfl rfl (ck.one (z:=((fo x:Nat):Int)) nz OE underlying55 (bF.old A0 QV QW QX)) ae (Rw.Fr_ext EM) zI Q2 ?_;intro lV u3 mI qC rP;replace qC:=yb qC;refine B 3 ?_;refine B7 (L':=[Wy,w3,w]) zI ?_;refine JY (G2:=Gh.no) (Hc2:=[(b4,oC #[(Rw.row lV u3 mI).val ((List.map (λn=>((fo n:Nat):Int)) pre)++[((fo x:Nat):Int)]).length] 55)]++((Rw.row lV u3 mI).hp aA 3 ((List.map (λn=>((fo n:Nat):Int)) pre)++[((fo x:Nat):Int)])++[])) dO mw ⟨λ_ h=>h,λ_ h=>.inl h,λ_ h=>.inl h,(VG rfl (qC.imp id (λh=>h.2.1))),zSc⟩ (JZ qd xN) ?_
  rw[nzp];exact⟨rfl,.row lV u3 mI,qC.elim (λh=>Rw.Fr_at aK h) (λh=>.inr h.2.2),rP,rfl⟩
 ·rintro qz l Dk rec G' Hc rfl jh mw ⟨rfl,r,aK,ae,rfl⟩;replace jh:=yb jh;have bK:r.ge w3.heap.size:=Rw.ge_of aK A0;refine Q3 λWd yF=>?_;have oe:=VH yF;refine B 5 ?_;refine jN (i:=0) rfl sizeOf55 rfl rfl rfl (Rw.val_size _ _) rfl (Rw.val_one _ _) ?_;refine B 4 ?_;have hq:=λ(k:Nat)=>Rw.mem_ge (enc:=aA) (t:=3) (xs:=(List.map (λn=>((fo n:Nat):Int)) (oZ kk))) (k:=k) bK;refine PJ.reH (H':=(b4,oC #[r.val (List.map (λn=>((fo n:Nat):Int)) (oZ kk)).length] 55)::(r.hp aA 3 (List.map (λn=>((fo n:Nat):Int)) (oZ kk))++(l,.loop rec)::jj Dk)) VI ?_;refine EN (b:=b4) (r:=r) (xs:=(List.map (λn=>((fo n:Nat):Int)) (oZ kk))) (.inl rfl) results187 isAgg55 rfl rfl zI A0 (oe _ A0).1 rfl ae (λp hp=>⟨.tail _ (aY.2 (.inl hp)),(oe p (aY.2 (.inr (aY.2 (.inl hp))))).1⟩) (Rw.ge_of aK A1) (λW H' hS aX=>(hS.links w A1).below λk hk hx=>?_);exact YA
 exact Qt
def dx (d:Int):List Int:=(oZ (512+d).toNat).map λn=>((tB n:Nat):Int)
def ki (d:Int):List Int:=(oZ (512+d).toNat).map λn=>((y9 n:Nat):Int)
theorem Q4:eV prog 188:=call188
theorem Q5:eV prog 303:=call303
theorem n0f(d:Int)(hd:di d)(w:World):Calls prog 112 #[ab d] w (aD w aA 1 3 (dx d) (λs=>.tuple #[s,ab 0])):=by
 obtain⟨kk,Dj⟩:∃kk:Nat,512+d=(kk:Int):=⟨(512+d).toNat,by have:=hd.1;omega⟩;have e:dx d=(List.map (λn=>((tB n:Nat):Int)) (oZ kk)):=by unfold dx;rw[Dj,xU]
 rw[e];refine ei 9 func112 ntmps112 ?_;refine Jh (enc:=aA) (m:=1) (t:=3) (xs:=(List.map (λn=>((tB n:Nat):Int)) (oZ kk))) (v:=λs=>.tuple #[s,ab 0]) (first:=[]) (cap:=[]) rfl call187 rfl rfl rfl (λW hS=>n5h tB 188 Q4 (λn w h=>nci n h w) d kk Dj hd W) ?_;intro r aK ae;refine B 7 ?_;exact nQ (H0:=[]) (H1:=[]) (r:=r) (.inl rfl) results112 bD A0 YB rfl ae (Rw.ge_of aK A0) zI
theorem nbm(d:Int)(hd:di d)(w:World):Calls prog 261 #[ab d] w (aD w aA 1 3 (ki d) (λs=>.tuple #[s,ab 0])):=by
 obtain⟨kk,Dj⟩:∃kk:Nat,512+d=(kk:Int):=⟨(512+d).toNat,by have:=hd.1;omega⟩;have e:ki d=(List.map (λn=>((y9 n:Nat):Int)) (oZ kk)):=by unfold ki;rw[Dj,xU]
 rw[e];refine ei 9 func261 ntmps261 ?_;refine Jh (enc:=aA) (m:=1) (t:=3) (xs:=(List.map (λn=>((y9 n:Nat):Int)) (oZ kk))) (v:=λs=>.tuple #[s,ab 0]) (first:=[]) (cap:=[]) rfl call187 rfl rfl rfl (λW hS=>n5h y9 303 Q5 (λn w h=>n8l n h w) d kk Dj hd W) ?_;intro r aK ae;refine B 7 ?_;exact nQ (H0:=[]) (H1:=[]) (r:=r) (.inl rfl) results261 bD A0 YB rfl ae (Rw.ge_of aK A0) zI
def eZ (xs:List Int):List Int:=xs.mergeSort λx y=>decide (x<=y)
theorem KJ(xs:List Int):(eZ xs).length=xs.length:=List.length_mergeSort _
variable {xs:List Int}
theorem YC(hl:xs.length<=1000000){cap t:Nat}(bQ:(Rw.row b cap sp).Fit 1 xs)(h:W.heap[b]? =some (bj aA t xs sp)):Calls prog 192 #[.slice (ao b) xs.length cap] W (λe w'=>∃J,e= .returned ((λ_=>.tuple #[]) (Rw.row b cap J))/\aT (· =b) W w'/\(Rw.row b cap J).Fit 1 (eZ xs)/\w'.heap[b]? =some (bj aA t (eZ xs) J)):=by
 have hc:=Any.slices_Sort_int Tryz.laySort b 0 cap xs W (EO h) (bB.1 h).1 aa;change Calls prog 192 _ _ _ at hc;refine hc.mono ?_;rintro e w' ⟨rfl,n,os,rfl⟩;obtain⟨h1,h2⟩:=YD (n:=n) (os:=os) h (KJ xs);exact⟨sp,rfl,h1,by simp only[Rw.Fit,KJ];exact bQ,h2⟩
theorem EP(W:World):Calls prog 192 #[ak] W (λe w'=>e= .returned (.tuple #[])/\Below W.heap.size W w'):=by
 have hc:=Any.slices_Sort_int_none Tryz.laySort none 0 W;change Calls prog 192 _ _ _ at hc;refine hc.mono ?_;rintro e w' ⟨rfl,h⟩;refine⟨rfl,?_⟩;first
  |(obtain⟨n,rfl⟩:=h;exact ER W _)
  |(subst h;exact Below.refl _ _)
theorem YE(hl:xs.length<=1000000){cap t:Nat}(bQ:(Rw.row b cap sp).Fit 1 xs)(h:W.heap[b]? =some (bj aA t xs sp)):Calls prog 250 #[.slice (ao b) xs.length cap] W (λe w'=>∃J,e= .returned ((λr=>r.val (Go.Lib.compact xs).length) (Rw.row b cap J))/\aT (· =b) W w'/\(Rw.row b cap J).Fit 1 (Go.Lib.compact xs)/\w'.heap[b]? =some (bj aA t (Go.Lib.compact xs) J)):=by
 obtain⟨f1,f2⟩:=bQ;have hc:=Any.slices_Compact_int Tryz.layCompact b 0 cap xs W (EO h) aa f1;change Calls prog 250 _ _ _ at hc;refine hc.mono ?_;rintro e w' ⟨rfl,q,rfl⟩;have hle:=Go.Lib.compact_length_le xs;obtain⟨h1,h2⟩:=YD (n:=q) (os:=#[]) (ys:=Go.Lib.compact xs++List.replicate (xs.length-(Go.Lib.compact xs).length) 0) h mZ;rw[Go.Sort.grow_empty]at h1 h2;refine⟨iE aA (List.replicate (xs.length-(Go.Lib.compact xs).length) 0)++sp,rfl,h1,⟨by omega,?_⟩,?_⟩
 ·rw[cB,sP nz,List.length_replicate,f2];omega
 rw[h2];simp only[bj,OF,iY]
theorem n6n(h:Rw.nil.Fit 1 xs)(W:World):Calls prog 192 #[Rw.nil.val xs.length] W (λe w'=>e= .returned ((λ_=>.tuple #[]) Rw.nil)/\eZ xs=[]/\Below W.heap.size W w'):=
 (EP W).mono λe w' ⟨h1,h2⟩=>⟨h1,by have:xs=[]:=h;subst this;simp[eZ],h2⟩
theorem n9p(W:World):Calls prog 250 #[ak] W (λe w'=>e= .returned (ak)/\Below W.heap.size W w'):=by
 have hc:=Any.slices_Compact_int_empty Tryz.layCompact none 0 W;change Calls prog 250 _ _ _ at hc;refine hc.mono ?_;exact zdi
theorem KK(h:Rw.nil.Fit 1 xs)(W:World):Calls prog 250 #[Rw.nil.val xs.length] W (λe w'=>e= .returned ((λr=>r.val (Go.Lib.compact xs).length) Rw.nil)/\Go.Lib.compact xs=[]/\Below W.heap.size W w'):=
 (n9p W).mono λe w' ⟨h1,h2⟩=>⟨h1,by have:xs=[]:=h;subst this;rfl,h2⟩
structure Nd where
 at_:Int
 pub:Int
def ik (n:Nd):List Value:=[ab n.at_,ab n.pub]
def fZ (n:Nd):Array Value:=#[ab n.at_,ab n.pub]
theorem KL(n:Nd):(ik n).length=2:=rfl
theorem KM(n:Nd):∀u∈ik n,u.oneCell'=true:=by intro u hu;simp[ik]at hu;rcases hu with rfl|rfl<;>rfl
def mV (ns:List Nd):List Int:=(ns.filter λn=>decide (512<=n.at_/\n.at_<=1023)).map λn=>n.at_-512
variable {ns:List Nd} {j:Nat}
theorem nZj{x:Nd}(hx:ns[j]? =some x)(h1:512<=x.at_)(h2:x.at_<=1023):mV (ns.take (j+1))=mV (ns.take j)++[x.at_-512]:=by
 rw[np hx];simp[mV,h1,h2]
theorem nJf{x:Nd}(hx:ns[j]? =some x)(h:¬(512<=x.at_/\x.at_<=1023)):mV (ns.take (j+1))=mV (ns.take j):=by simp_all[np,mV]
theorem n9j(ns:List Nd)(j:Nat):(mV (ns.take j)).length<=j:=by grind [mV]
theorem KN(ns:List Nd)(j:Nat)(h:¬j<ns.length):mV (ns.take j)=mV ns:=by rw[iC aa]
def eu (ns:List Nd):List Int:=Go.Lib.compact (eZ (mV ns))
theorem nom(ns:List Nd):(eu ns).length<=ns.length:=by
 have h1:=Go.Lib.compact_length_le (eZ (mV ns));all_goals grind [n9j,KJ,eu,List.take_length]
theorem ES:prog.info? 240=some Tryz.t240:=by kernel_rfl
theorem n3b(ns:List Nd)(hn:ns.length<=100000)(N:Nat)(a:Option Addr)(cp:Nat)(w:World)(hN:N<=w.heap.size)(aI:ai fZ 2 N w a ns):Calls prog 186 #[.agg #[.slice a ns.length cp]] w (aD w aA 1 3 (eu ns) id):=by
 have al:=n9j ns ns.length;rw[ur]at al;refine eN func186 ntmps186 ?_;refine cK 2 ?_;intro b1 w1 hb1 cN gV gb jJ;refine aF 7 (.slice a ns.length cp) ?_;refine B 5 ?_;refine CJ.loop (α:=Rw×Nat) (λp=>[(1,ptr b1 0),(2,p.1.val (mV (ns.take p.2)).length),(6,.slice a ns.length cp),(7,ab (ns.length:Int)),(8,ab (p.2:Int))]) (λp=>p.1.hp aA 3 (mV (ns.take p.2))++[]) (λp=>[w1,w]) (λp=>Gh.no) (λp=>p.2<=ns.length/\p.1.Fr Gh.no [w1,w]/\p.1.Fit 1 (mV (ns.take p.2))) (λp=>ns.length-p.2) (.nil,0) ⟨cO _,True.intro,rfl⟩ zR rfl rfl zI ?_;rintro⟨r,j⟩ ⟨hj,aK,ae⟩;dsimp only at hj aK ae ⊢;have bK:r.ge w1.heap.size:=Rw.ge_of aK A0;have QB:=n9j ns j;refine aG 6 ?_ ?_
 ·intro av;refine B 5 ?_;obtain⟨bo,oo,br,to,fg,rfl,fh,bX,aR⟩:=aI.get aa;obtain⟨x,hx⟩:=ng ns j aa;refine aF 2 (.agg (fZ x)) ?_;refine bM 1 ?_;intro b4 iW iX;refine B 9 ?_;refine ni (t:=15) rfl (λaS=>?_) (λaS=>?_)
  ·replace aS:=ya aS;refine aG 6 ?_ ?_
   ·intro dh;refine B 5 ?_;refine ET ?_;refine yW ?_;intro lV Q6 Q7;refine jV (r:=r) (xs:=(mV (ns.take j))) (zs:=[(x.at_-512)]) (enc:=aA) (m:=1) (H0:=[(lV,oC #[ab (x.at_-512)] 3),(b4,oC (fZ x) 240)]) (H1:=[]) zW OC nz rfl rfl rfl rfl (ck.one (z:=x.at_-512) nz OE underlying55 (bF.own (i:=0) rfl)) ae aK zI za ?_;intro VJ Q8 Q9 J zc;replace J:=yb J;refine zd ?_;refine PJ.again (Rw.row VJ Q8 Q9,j+1) ⟨by dsimp only;omega,J.elim (λh=>Rw.Fr_at aK h) (λh=>.inr h),by rw[nZj hx aa aa];exact zc⟩ zS ⟨rfl,by rw[nZj hx aa aa];rfl,rfl,rfl,rfl,trivial⟩ (by rw[nZj hx aa aa];rfl) rfl zI
   intro dh;refine xW ?_;exact znh
  replace aS:=ya aS;refine B 14 ?_;refine qD ?_;exact znh
 intro av;refine B 6 ?_;have cH:=KN ns j aa;rw[cH]at ae ⊢;refine B 2 ?_;refine EU (r:=r) (enc:=aA) (m:=1) (t:=3) (xs:=mV ns) (ys:=eZ (mV ns)) (H0:=[]) (H1:=[]) (v:=λ_=>.tuple #[]) rfl call192 rfl rfl rfl (λhr W _=>by subst hr;exact n6n ae W) (λb cap sp hr W _ h=>by subst hr;exact YC aa ae h) ?_;intro r2 eP lW rQ kz;have gO:=lW aK;have eE:=rQ _ bK;refine B 5 ?_;refine EU (r:=r2) (enc:=aA) (m:=1) (t:=3) (xs:=eZ (mV ns)) (ys:=eu ns) (H0:=[]) (H1:=[]) (v:=λr=>r.val (eu ns).length) rfl call250 rfl rfl rfl (λhr W _=>by have e:=kz (mV ns).length;rw[<-e];subst hr;rw[<-KJ (mV ns)];exact KK eP W) (λb cap sp hr W _ h=>by have e:=kz (mV ns).length;rw[<-e];subst hr;rw[<-KJ (mV ns)];exact YE (by rw[KJ];omega) eP h) ?_;intro r3 oi u7 EV EW;have KO:=u7 gO;have qe:=EV _ eE;refine B 4 ?_;exact nQ (H0:=[]) (H1:=[]) (r:=r3) (.inl rfl) results186 bD A1 (by rw[ec];exact Rw.over (Rw.ge_of KO A1)) rfl oi (Rw.ge_of KO A1) zI
def Dl (kv:List (Int×Int)) (n:Nd):List (Int×Int):=if(aH kv n.at_).isSome then kv else dQ kv n.at_ n.pub
def dq (ns:List Nd):List (Int×Int):=ns.foldl Dl []
theorem nFg{x:Nd}(hx:ns[j]? =some x):dq (ns.take (j+1))=Dl (dq (ns.take j)) x:=by
 rw[np hx];simp[dq,Ji]
theorem nSn{x:Nd}(hx:ns[j]? =some x)(h:(aH (dq (ns.take j)) x.at_).isSome=false):dq (ns.take (j+1))=dQ (dq (ns.take j)) x.at_ x.pub:=by
 rw[nFg hx];unfold Dl;rw[if_neg (by rw[h];decide)]
theorem EX{x:Nd}(hx:ns[j]? =some x)(h:(aH (dq (ns.take j)) x.at_).isSome=true):dq (ns.take (j+1))=dq (ns.take j):=by
 rw[nFg hx];unfold Dl;rw[if_pos h]
theorem KP(ns:List Nd)(j:Nat)(h:¬j<ns.length):dq (ns.take j)=dq ns:=by rw[iC aa]
theorem YF{β:Type}(l:List (Int×β))(k:Int)(v:β):(dQ l k v).length<=l.length+1:=by
 unfold dQ;split<;>simp
theorem VK(ns:List Nd):(dq ns).length<=ns.length:=by
 have key:∀(l:List Nd) (kv:List (Int×Int)),(l.foldl Dl kv).length<=kv.length+l.length:=by
  intro l;induction l with
  |nil=>intro kv;simp
  |cons n l ih=>
   intro kv;have h1:=ih (Dl kv n);have h2:(Dl kv n).length<=kv.length+1:=by unfold Dl;split;omega;exact YF _ _ _
   simp only[List.foldl_cons,dI];omega
 simpa[dq]using key ns []
theorem YG(ns:List Nd):((dq ns).map (·.1)).Nodup:=by
 have key:∀(l:List Nd) (kv:List (Int×Int)),(kv.map (·.1)).Nodup->((l.foldl Dl kv).map (·.1)).Nodup:=by
  intro l;induction l with
  |nil=>intro kv h;exact h
  |cons n l ih=>
   intro kv h;refine ih _ ?_;unfold Dl;split
   ·exact h
   exact nue h
 exact key ns [] zI
theorem nse(ns:List Nd)(hn:ns.length<=100000)(N:Nat)(a:Option Addr)(cp:Nat)(w:World)(hN:N<=w.heap.size)(aI:ai fZ 2 N w a ns):Calls prog 67 #[.agg #[.slice a ns.length cp]] w (EY w ab (dq ns) id):=by
 refine eN func67 ntmps67 ?_;refine cK 2 ?_;intro b1 w1 hb1 cN gV gb jJ;refine B 5 ?_;refine KQ ab rfl rfl ?_;refine yW ?_;intro b8 C4 Jb;refine aF 7 (.slice a ns.length cp) ?_;refine B 5 ?_;refine CJ.lp (α:=Mp×Nat) [1,3,10,11] (λp=>[(12,ab (p.2:Int))]) (λp=>[(b8,p.1.obj ab (dq (ns.take p.2)))]) (λp=>p.2<=ns.length/\p.1.Ok (dq (ns.take p.2))) (λp=>ns.length-p.2) (⟨[],0⟩,0) ⟨cO _,Mp.nil⟩ ?_;rintro⟨m,j⟩ ⟨hj,hm⟩;dsimp only at hj hm ⊢;refine aG 6 ?_ ?_
 ·intro av;refine B 5 ?_;obtain⟨bo,oo,J,to,fg,rfl,fh,bX,aR⟩:=aI.get aa;obtain⟨x,hx⟩:=ng ns j aa;refine aF 2 (.agg (fZ x)) ?_;refine bM 1 ?_;intro b5 tr tu;refine B 8 ?_;refine rv rfl rfl rfl (ri (ev:=ab) underlying165 underlying3 zeroValue3 hm (bF.own (i:=1) rfl) rfl rfl) ?_;refine aG 13 ?_ ?_
  ·intro aS;refine B 6 ?_;refine OG (i:=1) (ev:=ab) (v:=x.pub) rfl hm underlying165 underlying3 rfl rfl rfl rfl ?_;intro m2 bY;refine xW ?_;refine PJ.again (m2,j+1) ⟨by dsimp only;omega,by rw[nSn hx cY];exact bY⟩ zS zR (by rw[nSn hx cY];rfl) rfl zI
  intro aS;refine xW ?_;refine PJ.again (m,j+1) ⟨by dsimp only;omega,by rw[EX hx cY];exact hm⟩ zS zR (by rw[EX hx cY];rfl) rfl zI
 intro av;refine B 6 ?_;have cH:=KP ns j aa;rw[cH]at hm ⊢;refine B 6 ?_;exact YH (i:=0) (.inl rfl) results67 bD A1 C7 rfl hm rfl
theorem YI:∀(n:Nat) (js:List Nat),js.Nodup->(∀j∈js,j<n)->js.length<=n
 |0,js,_,h=>by
  cases js with
  |nil=>simp
  |cons j js=>have:=h j zI;omega
 |n+1,js,hd,h=>by
  have h1:=YI n (js.erase n) (hd.erase n) (λj hj=>by
   have h2:=h j (List.mem_of_mem_erase hj);have h3:j≠n:=λe=>by subst e;exact absurd hj (by rw[hd.mem_erase_iff];simp)
   omega)
  have h2:=List.length_erase (a:=n) (l:=js);split at h2<;>omega
def Jj {β:Type} (kv:List (Int×β)) (j:Nat):Int:=((kv[j]?).map (·.1)).getD 0
theorem n0o{β:Type}{kv:List (Int×β)}{p:Int×β}(hp:kv[j]? =some p)(js:List Nat):(js++[j]).map (Jj kv)=js.map (Jj kv)++[p.1]:=by simp[Jj,hp]
theorem nNo{β:Type}{kv:List (Int×β)}{js:List Nat}(hd:js.Nodup)(hl:∀j∈js,j<kv.length)(cH:∀j,j<kv.length->j∈js):(js.map (Jj kv)).Perm (kv.map (·.1)):=by
 have h1:js.Perm (List.range kv.length):=(List.perm_ext_iff_of_nodup hd List.nodup_range).2 λa=>⟨λh=>uu.2 (hl a h),λh=>cH a (uu.1 h)⟩;have h2:(List.range kv.length).map (Jj kv)=kv.map (·.1):=by
  apply List.ext_getElem zI;intro i h3 h4;simp only[eK,List.length_range]at h3;simp[Jj,h3]
 rw[<-h2];exact h1.map _
theorem nwp{p q:List Int}(h:p.Perm q):eZ p=eZ q:=by
 have J:∀l:List Int,(eZ l).Pairwise (λa b=>(decide (a<=b))=true):=λl=>List.pairwise_mergeSort (λa b c h1 h2=>by simp at *;omega) (λa b=>by simp;omega) l;exact List.Perm.eq_of_pairwise (λa b _ _ h1 h2=>by simp at h1 h2;omega) (J p) (J q) (((List.mergeSort_perm p _).trans h).trans (List.mergeSort_perm q _).symm)
theorem nyh{β:Type}{kv:List (Int×β)}{js:List Nat}{jn:Nat}{pn:Int×β}(hnd:js.Nodup)(qf:∀j∈js,j<kv.length)(wR:kv[jn]? =some pn)(tD:jn∉js):(js++[jn]).Nodup/\(∀j∈js++[jn],j<kv.length)/\js.length+1<=kv.length:=by
 exact zJg
variable {kv:List (Int×Int)}
theorem n8d(b:Nat)(m:Mp)(hm:m.Ok kv)(k:Int)(w:World)(hb:w.heap[b]? =some (m.obj ab kv)):Calls prog 113 #[.map (some b),ab k] w (λe w'=>∃m':Mp,e= .returned (.tuple #[])/\aT (· =b) w w'/\m'.Ok (iu kv k)/\w'.heap[b]? =some (m'.obj ab (iu kv k))):=by
 refine nB (Gh.lent (· =b)) [(b,m.obj ab kv)] (vs:=[_,_]) func113 rfl ntmps113 rfl (Eo hb) ?_;refine B 3 ?_;refine YJ (i:=0) (ev:=ab) rfl rfl hm underlying165 underlying3 rfl rfl rfl ?_;intro m2 bY;refine B 1 ?_;exact bS (.inr rfl) (rs:=[]) results113 bD λW hS=>⟨m2,rfl,hS.baseX A0 OH,bY,hS.own _ A0⟩
theorem nGk(mp:Option Nat)(w:World):Calls prog 116 #[.map mp] w (dc w (λb:Nat=>.func (.func 193) #[] #[ptr b 0]) (λb w1=>w.heap.size<=b/\w1.heap[b]? =some (oC #[.map mp] 165))):=by
 refine eN func116 ntmps116 ?_;refine cK 2 ?_;intro b1 w1 hb1 cN J gb jJ;refine B 10 ?_;refine sM b1 results116 rfl A1 rfl ?_;exact zLh
theorem nIp(J bx:Nat)(m:Mp)(hm:m.Ok kv)(W:World)(hb1:W.heap[bx]? =some (oC #[.map (some J)] 165))(tE:W.heap[J]? =some (m.obj ab kv)):uS prog 193 [ptr bx 0] aA (λp=>p.length<=kv.length) (λxs=>xs.Perm (kv.map (·.1))) (λ_=>False) (λk=>k=bx\/k=J) W:=by
 intro l M I X0 hM hI hX hy h0;have cN:¬(dF hM (λ_=>False) (hI [] _)).X bx:=by rintro(h|h);exact(hM _ h).2.2 (.inl rfl);exact h.elim
 have B8:¬(dF hM (λ_=>False) (hI [] _)).X J:=by rintro(h|h);exact(hM _ h).2.2 (.inr rfl);exact h.elim
 have Ra:=(bB.1 tE).1;refine zGe ?_;refine B 3 ?_;refine ahS (ev:=ab) underlying165 (bF.old A0 tE B8 trivial) rfl rfl rfl ?_;intro rb wS YK;replace wS:=yb wS;refine B 3 ?_;refine CJ.loop (α:=List Nat×aJ) (λp=>[(0,yv l),(5,ptr rb 0)]) (λp=>[(rb,m.it J p.1)]) (λp=>[W]) (λp=>dF hM p.2 (hI (p.1.map (Jj kv)) p.2)) (λp=>p.1.Nodup/\(∀j∈p.1,j<kv.length)/\∀k,p.2 k->W.heap.size<=k) (λp=>kv.length-p.1.length) ([],λ_=>False) ⟨List.nodup_nil,by simp,λ_ h=>h.elim⟩ ⟨rfl,rfl,trivial⟩ rfl rfl zI ?_;rintro⟨js,V⟩ ⟨hnd,qf,hV⟩;dsimp only at hnd qf hV ⊢;have B8:¬(dF hM V (hI (js.map (Jj kv)) V)).X J:=by rintro(h|h);exact(hM _ h).2.2 (.inr rfl);have:=hV _ h;omega
 have YL:=YI kv.length js hnd qf;refine B 2 ?_;refine YM (ev:=ab) (i:=0) rfl hm (bF.old A0 tE B8 zy) qf rfl rfl rfl (λcH=>?_) (λjn pn wR tD=>?_)
 ·refine B 9 ?_;exact BX (.inr rfl) results193 A0 hV zJb (λA hA=>.inl ⟨_,nNo hnd qf cH,hA⟩)
 refine B 10 ?_;refine rv rfl rfl rfl (Rb (ev:=ab) (i:=0) rfl hm (bF.old A0 tE B8 zy) wR rfl) ?_;refine B 8 ?_;refine BW (λV=>hI (js.map (Jj kv)++[pn.1]) V) hX hV zI rfl rfl rfl rfl (λW1 uT lM=>hy (js.map (Jj kv)) (pn.1) V W1 (by have h9:=(nyh hnd qf wR tD).2.2;simp only[cB,eK,dI,fJ];omega) uT lM) ?_ ?_
 ·intro V hV;refine B 6 ?_;refine PJ.again (js++[jn],V) ⟨(nyh hnd qf wR tD).1,(nyh hnd qf wR tD).2.1,hV⟩ (by have h9:=(nyh hnd qf wR tD).2.2;simp only[cB,dI,fJ];omega) ⟨rfl,rfl,trivial⟩ rfl (by dsimp only;rw[n0o wR]) zI
 intro V hV;refine B 8 ?_;exact BX (.inl rfl) results193 A0 hV zJb (λA hA=>.inr hA)
variable {Fin Pre:List Int->Prop} {RO:Nat->Prop}
section
variable {f:Nat}{cap:List Value}(aB:eV prog f)(w:World)(pE:∀k,RO k->k<w.heap.size)(hlen:∀p,Pre p->p.length<=100000)(qE:∀W2,Below w.heap.size w W2->uS prog f cap aA Pre Fin (λ_=>False) RO W2)
include f cap aB pE hlen qE
theorem nmn:Calls prog 255 #[ak,.func (.func f) #[] cap.toArray] w (λe w'=>∃xs,Fin xs/\aD w aA 1 3 xs id e w'):=by
 refine Qq Gh.no [] (vs:=[_,_]) func255 rfl ntmps255 rfl (JW w) ?_;refine OI ?_;refine yW ?_;intro b2 dL dH;refine B 10 ?_;refine XI (f:=f) (cap:=cap) (α:=Int) (enc:=aA) (Pre:=Pre) (Fin:=Fin) (RO:=RO) (MI:=λ_=>False) rfl aB (λW W2 hS hB=>qE W2 ((hS.links w A0).below (by simp only[dP,fu,cd,dZ,or_false,Gh.no,false_or];omega) |>.trans (hB.mono (hS.links w A0).size))) (λ_ _ _ hk=>hk.elim) (λW hS k hk=>by have h1:=pE k hk;have h2:=(hS.links w A0).size;exact⟨by omega,by simp only[dP,fu,cd,dZ,or_false];omega,λh=>h⟩) (λ_=>rfl) (λpre G' Hc=>G'=Gh.no/\∃r:Rw,r.Fr Gh.no [w]/\r.Fit 1 pre/\Hc=[(b2,oC #[r.val pre.length] 55)]++(r.hp aA 3 pre++[])) (λ_ _ _=>False) ⟨rfl,.nil,True.intro,rfl,rfl⟩ zz ?_ ?_ ?_
 ·rintro pre x G' Hc l Dk rec W1 M V Wy qd xN eM ⟨rfl,r,aK,ae,rfl⟩ jh mw Qs yG dO DZ;simp only[ah]at jh yG;have bK:r.ge w.heap.size:=Rw.ge_of aK A0;have gq:=hlen _ eM;simp only[cB,dI,fJ]at gq;have EM:∀p∈r.hp aA 3 pre,M p.1\/V p.1:=λp hp=>dO.loc.h p VF;refine B 3 ?_;refine Om qd ?_;refine B 4 ?_;refine ET ?_;refine yW ?_;intro fN lq oj;refine jV (r:=r) (xs:=pre) (zs:=[x]) (enc:=aA) (m:=1) (H0:=[(fN,oC #[ab x] 3),(b2,oC #[r.val pre.length] 55)]) (H1:=(l,.loop {rec with state:=.busy})::jj Dk) zW OC nz rfl rfl rfl rfl (ck.one (z:=x) nz OE underlying55 (bF.own (i:=0) rfl)) ae (Rw.Fr_ext EM) zI za ?_;intro gD pF pG jL lu;replace jL:=yb jL;refine B 3 ?_;refine qD ?_;refine JY (G2:=Gh.no) (Hc2:=[(b2,oC #[(Rw.row gD pF pG).val (pre++[x]).length] 55)]++((Rw.row gD pF pG).hp aA 3 (pre++[x])++[])) dO mw ⟨λ_ h=>h,λ_ h=>.inl h,λ_ h=>.inl h,(VG rfl (jL.imp id (λh=>h.1))),zSc⟩ (JZ qd xN) ?_;exact zlh
 ·rintro J l Dk rec G' Hc ee jh mw ⟨rfl,r,aK,ae,rfl⟩;replace jh:=yb jh;have bK:r.ge w.heap.size:=Rw.ge_of aK A0;refine Q3 λWd yF=>?_;have oe:=VH yF;refine B 9 ?_;have hq:=λ(k:Nat)=>Rw.mem_ge (enc:=aA) (t:=3) (xs:=J) (k:=k) bK;refine PJ.reH (H':=(b2,oC #[r.val J.length] 55)::(r.hp aA 3 J++(l,.loop rec)::jj Dk)) VI ?_;refine B9 (.inl rfl) zI λa W H' hF hS eX aX=>?_;refine⟨_,by rw[results_tmp results255];exact congrArg (λu=>Result.ok u W) (hF 4 _ rfl),J,ee,r,rfl,?_,bK,ae,?_⟩
  ·refine(hS.links w A0).below λk hk hx=>?_;exact YA
  cases r with
  |nil=>trivial
  |row b cap sp=>exact hS.own _ (eX (b,bj aA 3 J sp) o8 (oe _ o8).1)
 exact Qt
theorem nZk:Calls prog 191 #[.func (.func f) #[] cap.toArray] w (λe w'=>∃xs,Fin xs/\aD w aA 1 3 xs id e w'):=by
 refine ei 8 func191 ntmps191 ?_;refine VL (enc:=aA) (m:=1) (t:=3) (Fin:=Fin) (v:=id) call255 rfl rfl rfl (λW hS=>nmn aB W (λk hk=>qF (pE k hk) (hS.links w A0).size) hlen (λW2 hB=>qE W2 (((hS.links w A0).below KR).trans (hB.mono (hS.links w A0).size)))) ?_;intro xs r ee aK ae;refine B 4 ?_;exact bS (.inl rfl) results191 bD λW hS=>⟨xs,ee,r,rfl,hS.base A0 YB,Rw.ge_of aK A0,ae,by cases r with|nil=>exact True.intro|row b cap sp=>exact hS.own _ A0⟩
theorem n4m(ys:List Int)(xV:∀xs,Fin xs->eZ xs=ys/\xs.length<=100000):Calls prog 115 #[.func (.func f) #[] cap.toArray] w (aD w aA 1 3 ys id):=by
 refine ei 8 func115 ntmps115 ?_;refine VL (enc:=aA) (m:=1) (t:=3) (Fin:=Fin) (v:=id) call191 rfl rfl rfl (λW hS=>nZk aB W (λk hk=>qF (pE k hk) (hS.links w A0).size) hlen (λW2 hB=>qE W2 (((hS.links w A0).below KR).trans (hB.mono (hS.links w A0).size)))) ?_;intro xs r ee aK ae;obtain⟨KT,hxl⟩:=xV xs ee;have bK:=Rw.ge_of aK A0;refine B 6 ?_;refine EU (r:=r) (enc:=aA) (m:=1) (t:=3) (xs:=xs) (ys:=eZ xs) (H0:=[]) (H1:=[]) (v:=λ_=>.tuple #[]) rfl call192 rfl rfl rfl (λhr W _=>by subst hr;exact n6n ae W) (λb cap sp hr W _ h=>by subst hr;exact YC aa ae h) ?_;intro r2 eP lW rQ kz;have J:=lW aK;have eE:=rQ _ bK;refine B 9 ?_;subst KT;exact nQ (H0:=[]) (H1:=[]) (r:=r2) (.inl rfl) results115 bD A0 (by rw[ec];exact Rw.over (Rw.ge_of J A0)) (by show r.val _=r2.val _;rw[<-kz,KJ]) eP (Rw.ge_of J A0) zI
end
theorem nel(J:Nat)(W:World)(hb1:W.heap[J]? =some (oC #[.map none] 165)):uS prog 193 [ptr J 0] aA (λp=>p.length<=0) (λxs=>xs=[]) (λ_=>False) (λk=>k=J) W:=by
 intro l M I X0 hM hI hX hy h0;have cN:¬(dF hM (λ_=>False) (hI [] _)).X J:=by rintro(h|h);exact(hM _ h).2.2 rfl;exact h.elim
 refine zGe ?_;refine B 3 ?_;refine YN underlying165 rfl rfl rfl ?_;intro rb wS YK;replace wS:=yb wS;refine B 3 ?_;refine CJ.lp (α:=Nat) [0,5] (λp=>[]) (λp=>[(rb,.mapIter none 0 #[] 0)]) (λp=>True) (λp=>0) 0 True.intro ?_;rintro p _;refine B 2 ?_;refine Rc (i:=0) rfl rfl rfl rfl ?_;refine B 9 ?_;exact BX (.inr rfl) results193 A0 (λ_ h=>h.elim) (by intro k hk hx;simp only[dP,fu,cd,dZ,or_false]at hx;omega) (λA hA=>.inl ⟨[],rfl,hA⟩)
def nU (kv:List (Int×Int)):List Nd:=(eZ (kv.map (·.1))).map λk=>⟨k,(aH kv k).getD 0⟩
theorem YO:jM prog 49 240 2:=⟨underlying49,Tryz.t240,.agg #[ab 0,ab 0],ES,rfl,rfl,rfl,by decide⟩
theorem Rw.val_one2(n:Nat)(r:Rw):bG [r.val n]=true:=by cases r<;>rfl
theorem nEo{β:Type}(f:Int->β)(hx:xs[j]? =some x):(xs.take (j+1)).map f=(xs.take j).map f++[f x]:=by rw[np hx];simp
theorem Re(o:Option Int):(o.map ab).getD (ab 0)=ab (o.getD 0):=by cases o<;>rfl
theorem nig(sQ:kv.length<=100000)(J:Nat)(m:Mp)(hm:m.Ok kv)(w:World)(tE:w.heap[J]? =some (m.obj ab kv)):Calls prog 66 #[.map (some J)] w (aD w ik 2 240 (nU kv) (λs=>.agg #[s])):=by
 have Ra:=(bB.1 tE).1;have bL:(eZ (kv.map (·.1))).length=kv.length:=by rw[KJ,eK]
 refine eN func66 ntmps66 ?_;refine bM 3 ?_;intro b2 dL dH;refine B 6 ?_;refine ny (α:=Nat) (v:=λb:Nat=>.func (.func 193) #[] #[ptr b 0]) (Φ:=λ(W:World) (b:Nat) (w1:World)=>W.heap.size<=b/\w1.heap[b]? =some (oC #[.map (some J)] 165)) call116 rfl rfl rfl (λW hS=>nGk (some J) W) ?_;rintro Wk bk wk wg EZ ⟨Rf,ze⟩;try dsimp only at Rf ze
 have YP:=wg.under;replace YP:=yg YP;have bQ:=(bB.1 ze).1;have YQ:=wg.sizes;replace YQ:=yb YQ;have cb:=EZ.size;refine nH (enc:=aA) (m:=1) (t:=3) (xs:=eZ (kv.map (·.1))) (v:=id) (first:=[]) (cap:=[]) rfl call115 rfl rfl rfl nz (λW hS=>n4m (f:=193) (cap:=[ptr bk 0]) (Pre:=λp=>p.length<=kv.length) (Fin:=λxs=>xs.Perm (kv.map (·.1))) (RO:=λk=>k=bk\/k=J) call193 W ?_ ?_ ?_ _ ?_) ?_
 ·intro k hk;have h1:=(hS.links wk A0).size;rcases hk with rfl|rfl<;>omega
 ·intro p hp;have:p.length<=kv.length:=hp;omega
 ·intro W2 hB;exact nIp J bk m hm W2 (by rw[hB.block bk (by have:=(hS.links wk A0).size;omega)];exact hS.old A0 ze zH zy) (by rw[hB.block J (by have:=(hS.links w A1).size;omega)];exact hS.old A1 tE zH zy)
 ·intro xs hx;exact⟨nwp hx,by rw[hx.length_eq,eK];exact sQ⟩
 intro Ws a7 Dm ws Rg ay ko ou;have YS:=Rg.sizes;replace YS:=yb YS;have uw:=ay.size;have YT:=Rg.under;replace YT:=yg YT;refine B 5 ?_;refine CJ.lp (α:=Rw×Nat) [0,2,7,8] (λp=>[(9,ab (p.2:Int))]) (λp=>[(b2,oC #[p.1.val (((eZ (kv.map (·.1))).take p.2).map (λk=>(⟨k,(aH kv k).getD 0⟩:Nd))).length] 51)]++(p.1.hp ik 240 (((eZ (kv.map (·.1))).take p.2).map (λk=>(⟨k,(aH kv k).getD 0⟩:Nd)))++[])) (λp=>p.2<=(eZ (kv.map (·.1))).length/\p.1.Fr Gh.no [ws,wk,w]/\p.1.Fit 2 (((eZ (kv.map (·.1))).take p.2).map (λk=>(⟨k,(aH kv k).getD 0⟩:Nd)))) (λp=>(eZ (kv.map (·.1))).length-p.2) (.nil,0) ⟨cO _,True.intro,rfl⟩ ?_;rintro⟨r,j⟩ ⟨hj,aK,ae⟩;dsimp only at hj aK ae ⊢;have bK:r.ge ws.heap.size:=Rw.ge_of aK A0;refine aG 6 ?_ ?_
 ·intro av;refine B 5 ?_;obtain⟨bo,oo,b0,to,fg,rfl,fh,bX,aR⟩:=ko.get aa;obtain⟨x,hx⟩:=ng (eZ (kv.map (·.1))) j aa;have a6:=ou _ rfl;dsimp only at a6;refine B 2 ?_;refine rv rfl rfl rfl (ar (v:=ab x) isAgg3 rfl A0 bX zH zy (by have:=nJ (enc:=λx=>(aA x).toArray) (n:=1) aR hx rfl zz;simpa[aA]using this)) ?_;refine B 9 ?_;refine rq (ab ((aH kv x).getD 0)) (ov (ev:=ab) underlying165 underlying3 zeroValue3 hm (bF.old A2 tE zH zy) rfl rfl) (Re _) ?_;refine B 1 ?_;refine kp underlying49 sizeOf240 zeroValue240 rfl rfl rfl rfl rfl rfl rfl ?_;refine yW ?_;intro E1 bA bZ;refine jV (r:=r) (xs:=(((eZ (kv.map (·.1))).take j).map (λk=>(⟨k,(aH kv k).getD 0⟩:Nd)))) (zs:=[(⟨x,(aH kv x).getD 0⟩:Nd)]) (enc:=ik) (m:=2) (H0:=[(E1,oC #[ab x,ab ((aH kv x).getD 0)] 240),(b2,oC #[r.val (((eZ (kv.map (·.1))).take j).map (λk=>(⟨k,(aH kv k).getD 0⟩:Nd))).length] 51)]) (H1:=[]) zW YO KL rfl rfl rfl rfl (ck.one (z:=(⟨x,(aH kv x).getD 0⟩:Nd)) KL KM underlying49 (bF.own (i:=0) rfl)) ae aK zI (by simp only[eK,kU,dI,fJ];omega) ?_;intro rI aq al Rh Ri;replace Rh:=yb Rh;refine B 1 ?_;refine kT (i:=1) rfl sizeOf49 rfl rfl rfl rfl (er rfl) rfl ?_;refine xW ?_;refine PJ.again (Rw.row rI aq al,j+1) ⟨by dsimp only;omega,Rh.elim (λh=>Rw.Fr_at aK h) (λh=>.inr h),by rw[nEo (λk=>(⟨k,(aH kv k).getD 0⟩:Nd)) hx];exact Ri⟩ zS zR (by rw[nEo (λk=>(⟨k,(aH kv k).getD 0⟩:Nd)) hx];rfl) rfl zI
 intro av;refine B 6 ?_;have cH:(eZ (kv.map (·.1))).take j=eZ (kv.map (·.1)):=iC aa;rw[cH]at ae ⊢;refine B 2 ?_;refine zEe ?_;refine B 3 ?_;exact nQ (H0:=[(b2,oC #[r.val ((eZ (kv.map (·.1))).map (λk=>(⟨k,(aH kv k).getD 0⟩:Nd))).length] 51)]) (H1:=[]) (r:=r) (.inl rfl) results66 bD A2 (by simp only[ec,iv,eY,dA,Over];exact⟨by omega,Rw.over (Rw.ge_of aK A2)⟩) rfl ae (Rw.ge_of aK A2) (by simp[Value.cells,nU])
theorem nCf(w:World):Calls prog 66 #[.map none] w (aD w ik 2 240 [] (λs=>.agg #[s])):=by
 refine eN func66 ntmps66 ?_;refine bM 3 ?_;intro b2 dL dH;refine B 6 ?_;refine ny (α:=Nat) (v:=λb:Nat=>.func (.func 193) #[] #[ptr b 0]) (Φ:=λ(W:World) (b:Nat) (w1:World)=>W.heap.size<=b/\w1.heap[b]? =some (oC #[.map none] 165)) call116 rfl rfl rfl (λW hS=>nGk none W) ?_;rintro Wk bk wk wg EZ ⟨Rf,ze⟩;try dsimp only at Rf ze
 have YP:=wg.under;replace YP:=yg YP;have bu:=(bB.1 ze).1;have YQ:=wg.sizes;replace YQ:=yb YQ;have a8:=EZ.size;refine nH (enc:=aA) (m:=1) (t:=3) (xs:=[]) (v:=id) (first:=[]) (cap:=[]) rfl call115 rfl rfl rfl nz (λW hS=>n4m (f:=193) (cap:=[ptr bk 0]) (Pre:=λp=>p.length<=0) (Fin:=λxs=>xs=[]) (RO:=λk=>k=bk) call193 W ?_ ?_ ?_ [] ?_) ?_
 ·intro k hk;have h1:=(hS.links wk A0).size;subst hk;omega
 ·intro p hp;omega
 ·intro W2 hB;exact nel bk W2 (by rw[hB.block bk (by have:=(hS.links wk A0).size;omega)];exact hS.old A0 ze zH zy)
 ·intro xs hx;exact(by subst hx;exact⟨by simp[eZ],by simp⟩)
 intro Ws a7 Dm ws Rg J ko ou;have YS:=Rg.sizes;replace YS:=yb YS;have uw:=J.size;have YT:=Rg.under;replace YT:=yg YT;refine B 5 ?_;refine CJ.lp (α:=Nat) [2,8,9] (λp=>[]) (λp=>[(b2,oC #[ak] 51)]) (λp=>True) (λp=>0) 0 True.intro ?_;rintro p _;refine Dh ?_;refine B 16 ?_;exact nQ (H0:=[(b2,oC #[ak] 51)]) (H1:=[]) (r:=.nil) (.inl rfl) results66 bD A2 zlc rfl rfl True.intro rfl
def Dp (kv:List (Int×Bool)) (n:Int):List (Int×Bool):=dQ kv n true
def Rj (kv:List (Int×Bool)) (d:Int):List (Int×Bool):=(dx d).foldl Dp (dQ kv (512+d) true)
def wT (ds:List Int):List (Int×Bool):=ds.foldl Rj []
variable {d:Int}
theorem nUm{ds:List Int}(hx:ds[j]? =some d):wT (ds.take (j+1))=Rj (wT (ds.take j)) d:=by rw[np hx];simp[wT,Ji]
variable {n:Int} {l:List Int} {i:Nat}
theorem nQl(hx:l[i]? =some n)(kv:List (Int×Bool)):(l.take (i+1)).foldl Dp kv=dQ ((l.take i).foldl Dp kv) n true:=by rw[np hx];simp[Dp,Ji]
theorem KU(l:List Int)(i:Nat)(h:¬i<l.length)(kv:List (Int×Bool)):(l.take i).foldl Dp kv=l.foldl Dp kv:=by rw[iC aa]
theorem KV(l:List Int)(i:Nat)(h:¬i<l.length):wT (l.take i)=wT l:=by rw[iC aa]
def KW (ns:List Nd) (i:Nat) (x:Nd):Prop:=1<=x.at_/\x.at_<=1023/\(∀y,0<i->ns[i-1]? =some y->y.at_<x.at_)/\eo x.pub/\aH (wT (eu ns)) x.at_=some true
def u9 (ns:List Nd):Prop:=∀i x,ns[i]? =some x->KW ns i x
def E2 (ns:List Nd) (j:Nat):Prop:=∀i x,i<j->ns[i]? =some x->KW ns i x
open Classical in
noncomputable def jF (ns:List Nd):Int:=if u9 ns then 0 else 210
theorem n6l(h:u9 ns):jF ns=0:=by unfold jF;rw[if_pos h]
theorem nJh:jF ns=0↔u9 ns:=by unfold jF;split<;>simp_all
theorem nEh(ns:List Nd):jF ns=0\/jF ns=210:=by unfold jF;split<;>simp
theorem nhd(h:E2 ns j)(hj:¬j<ns.length):0=jF ns:=by
 rw[n6l];exact λi x hx=>h i x VM hx
theorem nN{x:Nd}(hx:ns[j]? =some x)(h:¬KW ns j x):210=jF ns:=by
 unfold jF;rw[if_neg];exact λg=>h (g j x hx)
theorem E2.next{x:Nd}(h:E2 ns j)(hx:ns[j]? =some x)(hk:KW ns j x):E2 ns (j+1):=by
 exact zgi
theorem nai{zs:List Int}(h:x∈Go.Lib.compact zs):x∈zs:=by
 unfold Go.Lib.compact Go.Lib.compactUpTo at h;all_goals grind
theorem nPj(h:d∈eu ns):di d:=by
 have h1:=nai h;have h2:=(List.mergeSort_perm (mV ns) _).mem_iff.1 h1;obtain⟨n,hn,rfl⟩:=bU.1 h2;all_goals grind
theorem nhm(d:Int):(dx d).length<=(512+d).toNat:=by unfold dx;rw[eK];exact nYn _
theorem nlk(o:Option Bool):(o.map Value.bool).getD (bH)= .bool (o.getD false):=by cases o<;>rfl
theorem n3c(o:Option Bool):o.getD false=true↔o=some true:=by cases o with|none=>simp|some b=>cases b<;>simp
theorem nLb(ns:List Nd)(hn:ns.length<=100000)(N:Nat)(a:Option Addr)(cp:Nat)(w:World)(hN:N<=w.heap.size)(aI:ai fZ 2 N w a ns):Calls prog 111 #[.agg #[.slice a ns.length cp]] w (aU w (ab (jF ns))):=by
 have vZ:=nom ns;refine eN func111 ntmps111 ?_;refine cK 2 ?_;intro b1 w1 hb1 cN gV gb jJ;refine B 5 ?_;refine KQ Value.bool rfl rfl ?_;refine yW ?_;intro iI E3 E4;refine B 6 ?_;refine KX ?_;refine nH (enc:=aA) (m:=1) (t:=3) (xs:=eu ns) (v:=id) (first:=[]) (cap:=[]) rfl call186 rfl rfl rfl nz (λW hS=>n3b ns hn N a cp W cR (aI.up (aj _) hS.sm)) ?_;intro Wm am bA wm wU KY E5 YU;have YV:=wU.sizes;replace YV:=yb YV;have a6:=KY.size;have YW:=wU.under;replace YW:=yg YW;refine B 5 ?_;refine CJ.lp (α:=Mp×Nat) [1,3,14,15] (λp=>[(16,ab (p.2:Int))]) (λp=>[(iI,p.1.obj Value.bool (wT ((eu ns).take p.2)))]) (λp=>p.2<=(eu ns).length/\p.1.Ok (wT ((eu ns).take p.2))) (λp=>(eu ns).length-p.2) (⟨[],0⟩,0) ⟨cO _,Mp.nil⟩ ?_;rintro⟨m,j⟩ ⟨hj,hm⟩;dsimp only at hj hm ⊢;refine aG 6 ?_ ?_
 ·intro av;refine B 5 ?_;obtain⟨bm,om,cy,tm,bQ,rfl,o9,Rk,Rl⟩:=E5.get aa;have oe:=YU _ rfl;dsimp only at oe;obtain⟨d,hx⟩:=ng (eu ns) j aa;have hd:=nPj (cu hx);have cq:=hd.1;have aE:=hd.2;have gq:=nhm d;refine B 2 ?_;refine rv rfl rfl rfl (ar (v:=ab d) isAgg3 rfl A0 Rk zH zy (by have:=nJ (enc:=λx=>(aA x).toArray) (n:=1) Rl hx rfl zz;simpa[aA]using this)) ?_;refine B 6 ?_;refine zEd ?_;intro Wp ap im wp Ca Rm pH ux;have wV:=Ca.sizes;replace wV:=yb wV;have bL:=Rm.size;have wW:=Ca.under;replace wW:=yg wW;refine B 12 ?_;refine OG (i:=0) (ev:=Value.bool) (v:=true) rfl hm underlying307 underlying3 rfl rfl rfl rfl ?_;intro m2 bY;refine B 10 ?_;refine CJ.lp (α:=Mp×Nat) [1,3,14,15,16,28,29] (λp=>[(30,ab (p.2:Int))]) (λp=>[(iI,p.1.obj Value.bool (((dx d).take p.2).foldl Dp (dQ (wT ((eu ns).take j)) (512+d) true)))]) (λp=>p.2<=(dx d).length/\p.1.Ok (((dx d).take p.2).foldl Dp (dQ (wT ((eu ns).take j)) (512+d) true))) (λp=>(dx d).length-p.2) (m2,0) ⟨cO _,bY⟩ ?_;rintro⟨mi,i⟩ ⟨hi,zf⟩;dsimp only at hi zf ⊢;refine aG 6 ?_ ?_
  ·intro aS;refine B 5 ?_;obtain⟨bq,oq,Rn,tq,Ro,rfl,pI,zg,qG⟩:=pH.get aa;have E6:=ux _ rfl;dsimp only at E6;obtain⟨n,hy⟩:=ng (dx d) i aa;refine B 2 ?_;refine z4d ?_;refine B 6 ?_;refine OG (i:=0) (ev:=Value.bool) (v:=true) rfl zf underlying307 underlying3 rfl rfl rfl rfl ?_;intro m3 da;refine B 7 ?_;refine PJ.again (m3,i+1) ⟨by dsimp only;omega,by rw[nQl hy];exact da⟩ zS zR (by rw[nQl hy];rfl) rfl zI
  intro aS;refine B 6 ?_;have eD:((dx d).take i).foldl Dp (dQ (wT ((eu ns).take j)) (512+d) true)=Rj (wT ((eu ns).take j)) d:=by rw[KU _ _ aa];rfl
  rw[eD]at zf ⊢;refine B 4 ?_;refine PJ.again (mi,j+1) ⟨by dsimp only;omega,by rw[nUm hx];exact zf⟩ zS zR (by rw[nUm hx]) rfl zI
 intro av;refine B 7 ?_;have cH:=KV (eu ns) j aa;rw[cH]at hm ⊢;refine aF 2 (.slice a ns.length cp) ?_;refine B 5 ?_;refine CJ.lp (α:=Nat) [1,3,39,40] (λj=>[(41,ab (j:Int))]) (λj=>[(iI,m.obj Value.bool (wT (eu ns)))]) (λj=>j<=ns.length/\E2 ns j) (λj=>ns.length-j) 0 ⟨cO _,λi x hi=>absurd hi aa⟩ ?_;rintro j ⟨hj,dR⟩;refine aG 6 ?_ ?_
 ·intro dh;refine B 5 ?_;obtain⟨bo,J,cr,to,fg,rfl,fh,bX,aR⟩:=aI.get aa;obtain⟨x,hx⟩:=ng ns j aa;refine aF 3 (.agg (fZ x)) ?_;refine bM 1 ?_;intro gD uY yQ;refine B 5 ?_;by_cases h1:x.at_<1
  ·refine eA 34 (sp:=(_::_::(some cD)::_)) (k:=?_);exact YX
  by_cases h2:1023<x.at_
  ·refine eA 34 (sp:=(_::_::(some bH)::_::_::_::(some cD)::_)) (k:=?_);exact YX
  obtain⟨e,he⟩:∃e,(if eo x.pub then(0:Int)else 40)=e:=⟨_,rfl⟩;by_cases h3:j=0/\¬e=0
  ·refine eA 34 (pb:=by exact zU 27 (k:=by exact aM (nf (v:=ab e) call65 rfl rfl (λW hS _=>by rw[<-he];exact nP _ W) (λ_=>rfl)) (aM (X.v (RV.re (v':=cD) (dB rfl rfl) (vb mZ))) zT))) (sp:=(_::_::(some bH)::_::_::_::(some bH)::_::_::_::(some bH)::_)) (k:=?_);exact YX
  by_cases h4:j=0
  ·refine eA 34 (pb:=by exact zU 27 (k:=by exact aM (nf (v:=ab e) call65 rfl rfl (λW hS _=>by rw[<-he];exact nP _ W) (λ_=>rfl)) (aM (X.v (RV.re (v':=bH) (dB rfl rfl) (vb mZ))) zT))) (sp:=(_::_::(some bH)::_::_::_::(some bH)::_::_::_::(some bH)::_)) (k:=?_);refine z6d ?_;refine aG 4 ?_ ?_
   ·intro iR;refine B 11 ?_;exact zag
   intro iR;exact zah
  obtain⟨y,hy⟩:=ng ns (j-1) aa;by_cases h5:x.at_<=y.at_
  ·refine eA 34 (pb:=by exact zU 20 (k:=by exact aM (X.v (ar (v:=ab y.at_) isAgg3 rfl A2 bX zH zy zUc)) zT)) (sp:=[_,_,some bH,_,_,_,some bH,_,_,_,some cD,_,_,_,_,some (.slice (some ⟨bo,J,none⟩) ns.length cp),_,_,_,_,_,some cD,_,_,_,_,_,_,_,_,_,_,_,_]) (k:=?_);exact YX
  by_cases h6:¬e=0
  ·refine eA 34 (pb:=by exact zU 20 (k:=by exact aM (X.v (ar (v:=ab y.at_) isAgg3 rfl A2 bX zH zy zUc)) (zU 6 (k:=by exact aM (nf (v:=ab e) call65 rfl rfl (λW hS _=>by rw[<-he];exact nP _ W) (λ_=>rfl)) (aM (X.v (RV.re (v':=cD) (dB rfl rfl) (vb mZ))) zT))))) (sp:=[_,_,some bH,_,_,_,some bH,_,_,_,some cD,_,_,_,_,some (.slice (some ⟨bo,J,none⟩) ns.length cp),_,_,_,_,_,some bH,_,_,_,_,_,_,_,_,_,_,_,_]) (k:=?_);exact YX
  refine eA 34 (pb:=by exact zU 20 (k:=by exact aM (X.v (ar (v:=ab y.at_) isAgg3 rfl A2 bX zH zy zUc)) (zU 6 (k:=by exact aM (nf (v:=ab e) call65 rfl rfl (λW hS _=>by rw[<-he];exact nP _ W) (λ_=>rfl)) (aM (X.v (RV.re (v':=bH) (dB rfl rfl) (vb mZ))) zT))))) (sp:=[_,_,some bH,_,_,_,some bH,_,_,_,some cD,_,_,_,_,some (.slice (some ⟨bo,J,none⟩) ns.length cp),_,_,_,_,_,some bH,_,_,_,_,_,_,_,_,_,_,_,_]) (k:=?_);refine z6d ?_;refine aG 4 ?_ ?_
  ·intro gU;refine B 11 ?_;exact zag
  intro gU;exact zah
 intro dh;refine B 11 ?_;exact zag
def iw (kv:List (Int×Int)) (n:Int):List (Int×Int):=iu kv n
def mW (kv:List (Int×Int)) (d:Int):List (Int×Int):=(dx d).foldl iw (iw kv (512+d))
theorem njg(hx:l[i]? =some n)(kv:List (Int×Int)):(l.take (i+1)).foldl iw kv=iu ((l.take i).foldl iw kv) n:=by rw[np hx];simp[iw,Ji]
theorem nko(h:¬i<l.length)(kv:List (Int×Int)):(l.take i).foldl iw kv=l.foldl iw kv:=by rw[iC aa]
theorem YY(kv:List (Int×Int))(d:Int):(mW kv d).length<=kv.length:=by
 have key:∀(l:List Int) (kv:List (Int×Int)),(l.foldl iw kv).length<=kv.length:=by
  intro l;induction l with
  |nil=>intro kv;exact aj _
  |cons n l ih=>intro kv;exact eB (ih _) (nmi kv n).length_le
 exact eB (key _ _) (nmi kv _).length_le
theorem noh(kv:List (Int×Int)):(nU kv).length=kv.length:=by unfold nU;rw[eK,KJ,eK]
section
variable (ns:List Nd)(hn:ns.length<=100000)(N:Nat)(a:Option Addr)(cp:Nat)(w:World)(hN:N<=w.heap.size)(aI:ai fZ 2 N w a ns)
include hn N cp hN aI
theorem nEg(iF:jF ns=210)(d:Int)(mem:Bool):Calls prog 64 #[.agg #[.slice a ns.length cp],ab d,.bool mem] w (aU w (.tuple #[.map none,ak,ab 210])):=by
 refine eN func64 ntmps64 ?_;refine cK 2 ?_;intro b3 w3 dE da gi eO J;refine B 8 ?_;refine KX ?_;refine zJe ?_;refine aF 6 cD ?_;refine B 13 ?_;exact cA (.inl rfl) results64 bD A1 trivial rfl
theorem nUk(iF:jF ns=0)(d:Int)(hd:di d)(sR:aH (dq ns) (512+d)=none):Calls prog 64 #[.agg #[.slice a ns.length cp],ab d,cD] w (aU w (.tuple #[.map none,ak,ab 200])):=by
 have an:=hd.1;have al:=hd.2;refine eN func64 ntmps64 ?_;refine cK 2 ?_;intro b3 w3 dE da gi eO fw;refine B 8 ?_;refine zKf ?_;refine wX ?_;refine KX ?_;refine zvd ?_;intro bf m J OD hm;replace J:=yb J;refine B 9 ?_;refine zTe ?_;refine Qm ?_;refine Dh ?_;refine B 5 ?_;refine rq cD (kq rfl) (by rw[sR];rfl) ?_;refine B 14 ?_;exact cA (.inl rfl) results64 bD A1 C7 rfl
theorem nof(iF:jF ns=0)(d:Int)(hd:di d)(mem:Bool)(kL:mem=true->(aH (dq ns) (512+d)).isSome=true):Calls prog 64 #[.agg #[.slice a ns.length cp],ab d,.bool mem] w (OK w ab (mW (dq ns) d) aA 1 (dx d) (λmp s=>.tuple #[mp,s,ab 0])):=by
 have aE:=hd.1;have az:=hd.2;have gq:=nhm d;refine eN func64 ntmps64 ?_;refine cK 2 ?_;intro b3 w3 dE da gi eO fw;refine B 8 ?_;refine zKf ?_;refine wX ?_;refine KX ?_;refine zvd ?_;intro bf m E7 OD hm;replace E7:=yb E7;refine B 9 ?_;refine zTe ?_;refine Qm ?_;refine Dh ?_;refine B 4 ?_;refine ni (t:=37) rfl (λav=>?_) (λav=>?_)
 ·replace av:=ya av;refine B 1 ?_;refine rq bH (kq rfl) (vb (by rw[kL cY];rfl)) ?_;refine B 10 ?_;refine zEd ?_;intro Wp ap im wp Ca Rm pH ux;have wV:=Ca.sizes;replace wV:=yb wV;have aq:=Rm.size;have J:=Ca.under;replace J:=yg J;refine B 9 ?_;refine XT ?_;refine B 8 ?_;refine zQd ?_;intro m1 cN;refine B 11 ?_;refine zBd ?_;rintro⟨mi,i⟩ ⟨hi,zf⟩;dsimp only at hi zf ⊢;refine aG 6 ?_ ?_
  ·intro aS;exact zEg
  intro aS;exact zxg
 replace av:=ya av;refine B 12 ?_;refine zEd ?_;intro Wp ap im wp Ca Rm pH ux;have wV:=Ca.sizes;replace wV:=yb wV;have aq:=Rm.size;have J:=Ca.under;replace J:=yg J;refine B 9 ?_;refine XT ?_;refine B 8 ?_;refine zQd ?_;intro m1 cN;refine B 11 ?_;refine zBd ?_;rintro⟨mi,i⟩ ⟨hi,zf⟩;dsimp only at hi zf ⊢;refine aG 6 ?_ ?_
 ·intro dh;exact zEg
 intro dh;exact zxg
theorem KZ(iF:jF ns=210)(d p:Int):Calls prog 34 #[.agg #[.slice a ns.length cp],ab d,ab p] w (aD w ik 2 240 [] (λs=>.tuple #[.agg #[s],ab 210])):=by
 refine eN func34 ntmps34 ?_;refine cK 2 ?_;intro b3 w3 dE da gi eO J;refine bM 1 ?_;intro b6 ky rh;refine OL ?_;refine call call64 rfl rfl rfl (λW hS=>nEg ns hn N a cp W cR (aI.up (aj _) hS.sm) iF d false) ?_;refine QK ?_;refine B 13 ?_;exact nQ (enc:=ik) (m:=2) (t:=240) (xs:=[]) (H0:=_) (H1:=[]) (r:=.nil) (.inl rfl) results34 bD A1 zcc rfl rfl True.intro (ec _).symm
theorem K0(iF:jF ns=0)(d p:Int)(hd:di d)(VN:(if eo p then(0:Int)else 40)=40):Calls prog 34 #[.agg #[.slice a ns.length cp],ab d,ab p] w (aD w ik 2 240 [] (λs=>.tuple #[.agg #[s],ab 50])):=by
 have aE:=hd.1;have ay:=hd.2;refine eN func34 ntmps34 ?_;refine cK 2 ?_;intro b3 w3 dE da gi eO fw;refine bM 1 ?_;intro b6 ky rh;refine OL ?_;refine zWd ?_;intro bm m a8 OM Wc wc J Rp Rq Cb rR zh hm vc Cc;replace rR:=yb rR;simp only[bN,and_true]at zh;have AV:=Rp.size;have E9:=J.sizes;replace E9:=yb E9;have Fa:=J.under;replace Fa:=yg Fa;refine aF 13 bH ?_;refine B 9 ?_;refine call call65 rfl rfl rfl (λW hS=>by rw[<-VN];exact nP p W) (v:=ab 40) ?_;refine YZ ?_;exact nQ (enc:=ik) (m:=2) (t:=240) (xs:=[]) (H0:=_) (H1:=[]) (r:=.nil) (.inl rfl) results34 bD A2 zcc rfl rfl True.intro (ec _).symm
theorem Rr(iF:jF ns=0)(d p:Int)(hd:di d)(aE:ns.length<100000)(VN:(if eo p then(0:Int)else 40)=0):Calls prog 34 #[.agg #[.slice a ns.length cp],ab d,ab p] w (aD w ik 2 240 (nU (dQ (mW (dq ns) d) (512+d) p)) (λs=>.tuple #[.agg #[s],ab 0])):=by
 have a6:=hd.1;have ay:=hd.2;refine eN func34 ntmps34 ?_;refine cK 2 ?_;intro b3 w3 dE da gi eO fw;refine bM 1 ?_;intro b6 ky rh;refine OL ?_;refine zWd ?_;intro bm m a8 OM Wc wc J Rp Rq Cb rR zh hm vc Cc;replace rR:=yb rR;simp only[bN,and_true]at zh;have AV:=Rp.size;have E9:=J.sizes;replace E9:=yb E9;have Fa:=J.under;replace Fa:=yg Fa;refine aF 13 bH ?_;refine B 9 ?_;refine call call65 rfl rfl rfl (λW hS=>by rw[<-VN];exact nP p W) (v:=ab 0) ?_;refine du bH ?_;refine B 11 ?_;refine OG (i:=0) (ev:=ab) (v:=p) rfl hm underlying165 underlying3 rfl rfl rfl rfl ?_;intro m2 bY;refine B 5 ?_;refine VO (enc:=ik) (m:=2) (t:=240) (xs:=nU (dQ (mW (dq ns) d) (512+d) p)) (v:=λs=>.agg #[s]) (first:=[]) (cap:=[]) rfl call66 rfl rfl rfl (λW hS=>nig (by have h1:=YF (mW (dq ns) d) (512+d) p;have h2:=YY (dq ns) d;have h3:=VK ns;omega) bm m2 bY W (hS.own _ A0)) ?_;intro r aK ae;refine zDe ?_;refine B 4 ?_;exact nQ (enc:=ik) (m:=2) (t:=240) (xs:=nU (dQ (mW (dq ns) d) (512+d) p)) (H0:=[(bm,m2.obj ab (dQ (mW (dq ns) d) (512+d) p)),(b6,oC #[r.val (nU (dQ (mW (dq ns) d) (512+d) p)).length] 51)]) (H1:=[]) (r:=r) (.inl rfl) results34 bD A2 zMb rfl ae (Rw.ge_of aK A2) z3b
theorem nXo(iF:jF ns=210)(d:Int):Calls prog 35 #[.agg #[.slice a ns.length cp],ab d] w (aD w ik 2 240 [] (λs=>.tuple #[.agg #[s],ab 210])):=by
 refine eN func35 ntmps35 ?_;refine cK 2 ?_;intro b2 w2 dz bY ft J dH;refine bM 1 ?_;intro b4 iW iX;refine zAf ?_;exact zOg
theorem nqp(iF:jF ns=0)(d:Int)(hd:di d)(sR:aH (dq ns) (512+d)=none):Calls prog 35 #[.agg #[.slice a ns.length cp],ab d] w (aD w ik 2 240 [] (λs=>.tuple #[.agg #[s],ab 200])):=by
 refine eN func35 ntmps35 ?_;refine cK 2 ?_;intro b2 w2 dz bY ft J dH;refine bM 1 ?_;intro b4 iW iX;refine OL ?_;refine z5e ?_;exact zOg
theorem n7p(iF:jF ns=0)(d:Int)(hd:di d)(kL:(aH (dq ns) (512+d)).isSome=true):Calls prog 35 #[.agg #[.slice a ns.length cp],ab d] w (aD w ik 2 240 (nU (mW (dq ns) d)) (λs=>.tuple #[.agg #[s],ab 0])):=by
 have az:=hd.1;have ay:=hd.2;refine eN func35 ntmps35 ?_;refine cK 2 ?_;intro b2 w2 dz bY ft dL dH;refine bM 1 ?_;intro b4 iW iX;refine OL ?_;refine zXd ?_;intro bm m a8 OM Wc wc E8 Rp Rq Cb rR zh hm vc Cc;replace rR:=yb rR;simp only[bN,and_true]at zh;have AV:=Rp.size;have J:=E8.sizes;replace J:=yb J;have Fa:=E8.under;replace Fa:=yg Fa;refine B 12 ?_;refine VO (enc:=ik) (m:=2) (t:=240) (xs:=nU (mW (dq ns) d)) (v:=λs=>.agg #[s]) (first:=[]) (cap:=[]) rfl call66 rfl rfl rfl (λW hS=>nig (by have h2:=YY (dq ns) d;have h3:=VK ns;omega) bm m hm W (hS.own _ A0)) ?_;intro r aK ae;refine B 1 ?_;refine zDe ?_;refine B 4 ?_;exact nQ (enc:=ik) (m:=2) (t:=240) (xs:=nU (mW (dq ns) d)) (H0:=[(bm,m.obj ab (mW (dq ns) d)),(b4,oC #[r.val (nU (mW (dq ns) d)).length] 51)]) (H1:=[]) (r:=r) (.inl rfl) results35 bD A2 zMb rfl ae (Rw.ge_of aK A2) z3b
end
theorem Rs(x:Int)(hx:eo x)(w:World):Calls prog 224 #[ab x] w (aU w (bH)):=by
 refine ei 8 func224 ntmps224 ?_;refine call call65 rfl rfl rfl (λW hS=>by have:=nP x W;rw[if_pos hx]at this;exact this) ?_;refine du bH ?_;refine B 4 ?_;refine aL results224 rfl A0 ?_;rfl
section
variable (w:World)(l:List Int)(ow:∀y∈l,eo y)(hl:l.length<=1000)(NP:Nat)(ap:Option Addr)(im:Nat)(oy:ai encI 1 NP w ap l)(Dq:NP<=w.heap.size)
include ow hl NP ap im oy Dq
theorem nSj:Calls prog 275 #[.slice ap l.length im,.func (.func 224) #[] #[]] w (aU w (ab (-1))):=by
 refine ei 14 func275 ntmps275 ?_;refine CJ.lp (α:=Nat) [0,1,7] (λj=>[(8,ab (j:Int))]) (λj=>[]) (λj=>j<=l.length) (λj=>l.length-j) 0 (cO _) ?_;rintro j hj;refine aG 6 ?_ ?_
 ·intro av;refine B 11 ?_;obtain⟨b0,Y0,J,t0,fg,rfl,zj,K1,aR⟩:=oy.get aa;obtain⟨x,hx⟩:=ng l j aa;refine B 5 ?_;refine rv rfl rfl rfl (ar (v:=ab x) isAgg3 rfl A0 K1 zH trivial (nJ aR hx rfl zz)) ?_;refine C3 (f:=224) (cap:=[]) rfl call224 rfl rfl rfl (λW hS=>Rs x (ow x (cu hx)) W) ?_;refine B 10 ?_;exact J3
 intro av;refine B 11 ?_;refine aL results275 rfl A0 ?_;rfl
theorem n1h:Calls prog 223 #[.slice ap l.length im,.func (.func 224) #[] #[]] w (aU w (bH)):=by
 refine ei 9 func223 ntmps223 ?_;refine call call275 rfl rfl rfl (λW hS=>nSj W l ow hl NP ap im (oy.up (aj _) (hS.same A0 Dq zF trivial)) (eB Dq (hS.links w A0).size)) ?_;refine du bH ?_;refine B 4 ?_;refine aL results223 rfl A0 ?_;rfl
end
theorem nMn:∀(k n:Nat),2^k<=n->n<2^(k+1)->(oZ n).length=k:=
 by intro x;induction x<;>(intros;grind [Yy,VE])
theorem nBk(hd:di d):(dx d).length=9:=by
 have h1:=hd.1;have h2:=hd.2;unfold dx;rw[eK];exact nMn 9 _ aa aa
theorem n2p(hd:di d):(ki d).length=9:=by
 have h1:=hd.1;have h2:=hd.2;unfold ki;rw[eK];exact nMn 9 _ aa aa
def vd (kv:List (Int×Int)) (p:Int×Int):List (Int×Int):=dQ kv p.1 p.2
def rS (kv:List (Int×Int)) (d:Int) (l:List Int):List (Int×Int):=((dx d).zip (l.drop 1)).foldl vd (dQ (mW kv d) (512+d) ((l[0]?).getD 0))
theorem nIk{z:List (Int×Int)}{v:Int}(hz:z[i]? =some (n,v))(kv:List (Int×Int)):(z.take (i+1)).foldl vd kv=dQ ((z.take i).foldl vd kv) n v:=by rw[np hz];simp[vd,Ji]
theorem Fb(z:List (Int×Int)):∀kv:List (Int×Int),(z.foldl vd kv).length<=kv.length+z.length:=by induction z<;>grind [vd,YF]
theorem nrm(hd:di d)(l:List Int):(rS kv d l).length<=kv.length+10:=by grind [rS,Fb,dx,dQ,mW,YF,YY,nBk]
theorem Rt{A B:List Int}{v:Int}(h1:A[i]? =some n)(h2:B[i+1]? =some v):(A.zip (B.drop 1))[i]? =some (n,v):=by grind
section
variable (ns:List Nd)(hn:ns.length<=100000)(N:Nat)(a:Option Addr)(cp:Nat)(w:World)(hN:N<=w.heap.size)(aI:ai fZ 2 N w a ns)
include hn N cp hN aI
theorem nRp(iF:jF ns=210)(d:Int)(l:List Int)(ow:∀y∈l,eo y)(hl:l.length<=1000)(NP:Nat)(ap:Option Addr)(im:Nat)(oy:ai encI 1 NP w ap l)(Dq:NP<=w.heap.size):Calls prog 154 #[.agg #[.slice a ns.length cp],ab d,.slice ap l.length im] w (aD w ik 2 240 [] (λs=>.tuple #[.agg #[s],ab 210])):=by
 refine eN func154 ntmps154 ?_;refine cK 2 ?_;intro b3 w3 dE da gi eO J;refine bM 1 ?_;intro b6 ky rh;refine zAf ?_;exact zrh
theorem Fc(iF:jF ns=0)(d:Int)(hd:di d)(sR:aH (dq ns) (512+d)=none)(l:List Int)(ow:∀y∈l,eo y)(hl:l.length<=1000)(NP:Nat)(ap:Option Addr)(im:Nat)(oy:ai encI 1 NP w ap l)(Dq:NP<=w.heap.size):Calls prog 154 #[.agg #[.slice a ns.length cp],ab d,.slice ap l.length im] w (aD w ik 2 240 [] (λs=>.tuple #[.agg #[s],ab 200])):=by
 refine eN func154 ntmps154 ?_;refine cK 2 ?_;intro b3 w3 dE da gi eO J;refine bM 1 ?_;intro b6 ky rh;refine OL ?_;refine z5e ?_;exact zrh
theorem Fe(iF:jF ns=0)(d:Int)(hd:di d)(kL:(aH (dq ns) (512+d)).isSome=true)(l:List Int)(ow:∀y∈l,eo y)(hl:l.length<=1000)(NP:Nat)(ap:Option Addr)(im:Nat)(oy:ai encI 1 NP w ap l)(Dq:NP<=w.heap.size)(Ru:l.length=10)(bu:ns.length<90000):Calls prog 154 #[.agg #[.slice a ns.length cp],ab d,.slice ap l.length im] w (aD w ik 2 240 (nU (rS (dq ns) d l)) (λs=>.tuple #[.agg #[s],ab 0])):=by
 have bL:=hd.1;have a6:=hd.2;have h9:=nBk hd;obtain⟨b0,Y0,bA,t0,fg,rfl,zj,K1,aR⟩:=oy.get aa;obtain⟨x0,J⟩:=ng l 0 aa;refine eN func154 ntmps154 ?_;refine cK 2 ?_;intro b3 w3 dE da gi eO fw;refine bM 1 ?_;intro b6 ky rh;refine OL ?_;refine zXd ?_;intro bm m a8 OM Wc wc E8 Rp Rq Cb rR zh hm vc Cc;replace rR:=yb rR;simp only[bN,and_true]at zh;have AV:=Rp.size;have E9:=E8.sizes;replace E9:=yb E9;have Fa:=E8.under;replace Fa:=yg Fa;refine aF 13 bH ?_;refine B 10 ?_;refine rq bH (dB rfl rfl) (by rw[Ru];rfl) ?_;refine B 2 ?_;refine call call223 rfl rfl rfl (λW hS=>n1h W l ow hl NP _ im (oy.up (aj _) (hS.same A2 Dq zF C7)) (eB Dq (hS.links w A2).size)) ?_;refine B 13 ?_;refine rv rfl rfl rfl (ar (v:=ab x0) isAgg3 rfl A2 K1 zH zy (nJ aR J rfl zz)) ?_;refine OG (i:=0) (ev:=ab) (v:=x0) rfl hm underlying165 underlying3 rfl rfl rfl rfl ?_;intro m2 bY;refine B 11 ?_;refine CJ.loop (α:=Mp×Nat) (λp=>[(2,.slice (some ⟨b0,Y0,none⟩) l.length im),(6,ptr b6 0),(8,.map (some bm)),(37,.slice a8 (dx d).length OM),(38,ab ((dx d).length:Int)),(39,ab (p.2:Int))]) (λp=>[(bm,p.1.obj ab ((((dx d).zip (l.drop 1)).take p.2).foldl vd (dQ (mW (dq ns) d) (512+d) ((l[0]?).getD 0)))),(b6,oC #[ak] 51)]) (λp=>[wc,w3,w]) (λp=>Gh.no) (λp=>p.2<=(dx d).length/\p.1.Ok ((((dx d).zip (l.drop 1)).take p.2).foldl vd (dQ (mW (dq ns) d) (512+d) ((l[0]?).getD 0)))) (λp=>(dx d).length-p.2) (m2,0) ⟨cO _,by simpa[J]using bY⟩ zR (by simp[J,Value.cells]) rfl zI ?_
 rintro⟨mi,i⟩ ⟨hi,zf⟩;dsimp only at hi zf ⊢;refine aG 6 ?_ ?_
 ·intro av;refine B 5 ?_;obtain⟨bq,oq,Rn,tq,Ro,rfl,pI,zg,qG⟩:=vc.get aa;have E6:=Cc _ rfl;dsimp only at E6;obtain⟨n,hy⟩:=ng (dx d) i aa;obtain⟨x,hx⟩:=ng l (i+1) aa;have hz:=Rt hy hx;refine B 3 ?_;refine z4d ?_;refine B 11 ?_;refine rv rfl rfl rfl (ar (v:=ab x) isAgg3 rfl A2 K1 zH zy (nJ aR hx aa zz)) ?_;refine OG (i:=0) (ev:=ab) (v:=x) rfl zf underlying165 underlying3 rfl rfl rfl rfl ?_;intro m3 da;refine B 7 ?_;refine PJ.again (m3,i+1) ⟨by dsimp only;omega,by rw[nIk hz];exact da⟩ zS zR (by rw[nIk hz];rfl) rfl zI
 intro av;refine B 6 ?_;have Ce:((dx d).zip (l.drop 1)).length=9:=by rw[List.length_zip,Cf];omega
 have cH:((((dx d).zip (l.drop 1)).take i).foldl vd (dQ (mW (dq ns) d) (512+d) ((l[0]?).getD 0)))=rS (dq ns) d l:=by rw[iC aa];rfl
 rw[cH]at zf ⊢
 rename Mp=>m4
 rename Mp.Ok (rS (dq ns) d l) m4=>BZ
 refine B 2 ?_;refine VO (enc:=ik) (m:=2) (t:=240) (xs:=nU (rS (dq ns) d l)) (v:=λs=>.agg #[s]) (first:=[]) (cap:=[]) rfl call66 rfl rfl rfl (λW hS=>nig (by have h2:=nrm (kv:=dq ns) hd l;have h3:=VK ns;omega) bm m4 BZ W (hS.own _ A0)) ?_;intro r aK ae;refine zDe ?_;refine B 4 ?_;exact nQ (enc:=ik) (m:=2) (t:=240) (xs:=nU (rS (dq ns) d l)) (H0:=[(bm,m4.obj ab (rS (dq ns) d l)),(b6,oC #[r.val (nU (rS (dq ns) d l)).length] 51)]) (H1:=[]) (r:=r) (.inl rfl) results154 bD A2 zMb rfl ae (Rw.ge_of aK A2) z3b
end
end Px
