/- Contracts of functions of the program. No conditions. -/
import Derived.Test.YtodpaegknpbomaaGreatDoorXb
import Derived.Test.YtodpaegknpbomaaGreatDoorProg
import Derived.Lib.RowBridge
import Derived.Test.YtodpaegknpbomaaGreatDoorLa
set_option linter.unusedSimpArgs false
set_option linter.unusedVariables false
set_option linter.unusedSectionVars false
set_option maxRecDepth 20000
set_option maxHeartbeats 8000000
namespace Px
open Go Go.RowKit Go.Proofs Go.Proofs.Tryz
theorem n0i(x y:Int)(hx:0<=x)(Qd:x<18446744073709551616)(hy:0<=y)(BJ:y<18446744073709551616)(w:World):Calls prog 253 #[.int .u64 x,.int .u64 y] w (aP w (.tuple #[.int .u64 (x*y/18446744073709551616),.int .u64 (x*y%18446744073709551616)])):=by
 have m1:=Ob (a:=x/4294967296) (b:=y/4294967296) (A:=4294967295) (B:=4294967295) aa aa aa aa;have m2:=Ob (a:=x/4294967296) (b:=y%4294967296) (A:=4294967295) (B:=4294967295) aa aa aa aa;have m3:=Ob (a:=x%4294967296) (b:=y%4294967296) (A:=4294967295) (B:=4294967295) aa aa aa aa;have m4:=Ob (a:=x%4294967296) (b:=y/4294967296) (A:=4294967295) (B:=4294967295) aa aa aa aa;refine ef 9 func253 ntmps253 ?_;refine zEe ?_;refine B 6 ?_;refine Vc ?_;refine B 6 ?_;refine zEe ?_;refine B 6 ?_;refine Vc ?_;refine B 7 ?_;refine Qe ?_;refine B 7 ?_;refine Qe ?_;refine B 1 ?_;refine Vc ?_;refine Xv ?_;refine B 6 ?_;refine zEe ?_;refine B 6 ?_;refine Vc ?_;refine B 8 ?_;refine Qe ?_;refine Xv ?_;refine B 7 ?_;refine Qe ?_;refine B 1 ?_;refine Xv ?_;refine B 1 ?_;refine Vc ?_;refine Xv ?_;refine B 7 ?_;refine rv rfl rfl rfl (kW rfl rfl) ?_;refine B 4 ?_;refine nT results253 rfl rfl A0 ?_ ?_
 ·exact vu (nCp x y hx hy Qd BJ)
 rw[nD]
def Xw:ByteArray:=⟨#[0,1,2,2,3,3,3,3,4,4,4,4,4,4,4,4,5,5,5,5,5,5,5,5,5,5,5,5,5,5,5,5,6,6,6,6,6,6,6,6,6,6,6,6,6,6,6,6,6,6,6,6,6,6,6,6,6,6,6,6,6,6,6,6,7,7,7,7,7,7,7,7,7,7,7,7,7,7,7,7,7,7,7,7,7,7,7,7,7,7,7,7,7,7,7,7,7,7,7,7,7,7,7,7,7,7,7,7,7,7,7,7,7,7,7,7,7,7,7,7,7,7,7,7,7,7,7,7,8,8,8,8,8,8,8,8,8,8,8,8,8,8,8,8,8,8,8,8,8,8,8,8,8,8,8,8,8,8,8,8,8,8,8,8,8,8,8,8,8,8,8,8,8,8,8,8,8,8,8,8,8,8,8,8,8,8,8,8,8,8,8,8,8,8,8,8,8,8,8,8,8,8,8,8,8,8,8,8,8,8,8,8,8,8,8,8,8,8,8,8,8,8,8,8,8,8,8,8,8,8,8,8,8,8,8,8,8,8,8,8,8,8,8,8,8,8,8,8,8,8,8,8,8,8,8,8]⟩
theorem nkp(n:Nat)(h:n<256):Xw[n]? =some (UInt8.ofNat (dq n)):=by
 have:∀n:Fin 256,Xw[n.val]? =some (UInt8.ofNat (dq n.val)):=by decide +kernel
 exact this ⟨n,h⟩
variable {G:Gh} {H:ad} {a d n x:Int} {kv:List (Int×Int)} {l xs:List Int} {Fin Pre:List Int->Prop} {zs:List UInt8} {sp:List Value} {L:List World} {b i j:Nat} {RO:Nat->Prop} {W w:World}
theorem JP(h0:0<=x)(h:x<256):∃b,Xw[x.toNat]? =some b/\(b.toNat:Int)=rB x:=by
 refine⟨_,nkp x.toNat aa,?_⟩;have:=nMh x.toNat 8 aa;unfold rB;simp;omega
theorem Qf{C:Cx}{E:Env}{T:Nat}{x y:Operand}(hU:C.P.underlying T=some .string)(hx:ev E x=some (.string Xw))(hy:ev E y=some (.int .u8 n))(h0:0<=n)(h1:n<256):RV C G L H E (.index T x y) (.int .u8 (rB n)):=by grind [JP,DI]
theorem nl(x:Int)(q:Int)(k:Nat)(hq:(2:Int)^k=q)(h:q<=x):rB x=rB (x/q)+k:=by
 subst hq;exact nAn k h
theorem DK(x:Int)(h0:0<=x)(h:x<256):0<=rB x/\rB x<=8:=by
 have:=nEm (x:=x) 8 h0 BK;simpa using this
theorem wJ{C:Cx}{Q:bC}{E:Env}{D:List Deferred}{ops:Array Oper}{l:List Oper}{d T ty:Nat}{pos:String}{aC:Array Edge}{g:Option (Nat×Bool)}{x y:Operand}(hU:C.P.underlying T=some .string)(hx:ev E x=some (.string Xw))(hw:nr ops E g=some true)(hN:Nat.blt d C.N=true)(hy:ev E y=some (.int .u8 n))(h0:0<=n)(h1:n<256)(k:0<=rB n->rB n<=8->OJ C ops Q l ((d,.int .u8 (rB n))::E) D G L H):OJ C ops Q (⟨some d,.index T x y,ty,pos,aC,g⟩::l) E D G L H:=
 rv rfl hw hN (Qf hU hx hy h0 h1) (k (DK n h0 h1).1 (DK n h0 h1).2)
section
variable (x:Int)(hx:0<=x)(Qd:x<18446744073709551616)(w:World)
include hx Qd
theorem n2f:Calls prog 180 #[.int .u64 x] w (aP w (ab (rB x))):=by
 refine eN func180 ntmps180 ?_;refine aG 12 ?_ ?_
 ·intro av;refine B 3 ?_;refine Vc ?_;refine aG 14 ?_ ?_
  ·intro aR;refine B 3 ?_;refine rv rfl rfl rfl (jq 16 65536 zA rfl rfl rfl) ?_;refine aG 16 ?_ ?_
   ·intro dm;refine zld ?_;refine wJ underlying9 zO rfl rfl rfl aa aa (λDL Qg=>?_);refine Oc ?_
    (refine congrArg ab ?_;(try simp only[nl x 4294967296 32 zA,nl (x/4294967296) 65536 16 zA,nl (x/4294967296/65536) 256 8 zA,nl (x/4294967296) 256 8 zA,nl x 65536 16 zA,nl (x/65536) 256 8 zA,nl x 256 8 zA, *]);omega)
   intro dm;refine B 6 ?_;refine zdf ?_;refine wJ underlying9 zO rfl rfl rfl aa aa (λDL Qg=>?_);refine Oc ?_
   (refine congrArg ab ?_;(try simp only[nl x 4294967296 32 zA,nl (x/4294967296) 65536 16 zA,nl (x/4294967296/65536) 256 8 zA,nl (x/4294967296) 256 8 zA,nl x 65536 16 zA,nl (x/65536) 256 8 zA,nl x 256 8 zA, *]);omega)
  intro aR;refine aG 9 ?_ ?_
  ·intro je;refine zld ?_;refine wJ underlying9 zO rfl rfl rfl aa aa (λDL Qg=>?_);refine Oc ?_
   (refine congrArg ab ?_;(try simp only[nl x 4294967296 32 zA,nl (x/4294967296) 65536 16 zA,nl (x/4294967296/65536) 256 8 zA,nl (x/4294967296) 256 8 zA,nl x 65536 16 zA,nl (x/65536) 256 8 zA,nl x 256 8 zA, *]);omega)
  intro je;refine B 6 ?_;refine zdf ?_;refine wJ underlying9 zO rfl rfl rfl aa aa (λDL Qg=>?_);refine Oc ?_
  (refine congrArg ab ?_;(try simp only[nl x 4294967296 32 zA,nl (x/4294967296) 65536 16 zA,nl (x/4294967296/65536) 256 8 zA,nl (x/4294967296) 256 8 zA,nl x 65536 16 zA,nl (x/65536) 256 8 zA,nl x 256 8 zA, *]);omega)
 intro av;refine aG 9 ?_ ?_
 ·intro ib;refine B 3 ?_;refine rv rfl rfl rfl (jq 16 65536 zA rfl rfl rfl) ?_;refine aG 16 ?_ ?_
  ·intro kX;refine zld ?_;refine wJ underlying9 zO rfl rfl rfl aa aa (λDL Qg=>?_);refine Oc ?_
   (refine congrArg ab ?_;(try simp only[nl x 4294967296 32 zA,nl (x/4294967296) 65536 16 zA,nl (x/4294967296/65536) 256 8 zA,nl (x/4294967296) 256 8 zA,nl x 65536 16 zA,nl (x/65536) 256 8 zA,nl x 256 8 zA, *]);omega)
  intro kX;refine B 6 ?_;refine zdf ?_;refine wJ underlying9 zO rfl rfl rfl aa aa (λDL Qg=>?_);refine Oc ?_
  (refine congrArg ab ?_;(try simp only[nl x 4294967296 32 zA,nl (x/4294967296) 65536 16 zA,nl (x/4294967296/65536) 256 8 zA,nl (x/4294967296) 256 8 zA,nl x 65536 16 zA,nl (x/65536) 256 8 zA,nl x 256 8 zA, *]);omega)
 intro ib;refine aG 9 ?_ ?_
 ·intro jW;refine zld ?_;refine wJ underlying9 zO rfl rfl rfl aa aa (λDL Qg=>?_);refine Oc ?_
  (refine congrArg ab ?_;(try simp only[nl x 4294967296 32 zA,nl (x/4294967296) 65536 16 zA,nl (x/4294967296/65536) 256 8 zA,nl (x/4294967296) 256 8 zA,nl x 65536 16 zA,nl (x/65536) 256 8 zA,nl x 256 8 zA, *]);omega)
 intro jW;refine B 6 ?_;refine zdf ?_;refine wJ underlying9 zO rfl rfl rfl aa aa (λDL Qg=>?_);refine Oc ?_
 (refine congrArg ab ?_;(try simp only[nl x 4294967296 32 zA,nl (x/4294967296) 65536 16 zA,nl (x/4294967296/65536) 256 8 zA,nl (x/4294967296) 256 8 zA,nl x 65536 16 zA,nl (x/65536) 256 8 zA,nl x 256 8 zA, *]);omega)
theorem nKg:Calls prog 292 #[.int .u64 x] w (aP w (ab (64-rB x))):=by
 have hb:=nEm (x:=x) 64 hx (by simpa using Qd);refine ef 8 func292 ntmps292 ?_;refine zUe ?_;refine B 5 ?_;refine aK results292 rfl A0 ?_;rfl
theorem nqg:Calls prog 106 #[.int .u64 x] w (aP w (ab (rB x))):=by
 refine ef 12 func106 ntmps106 ?_;refine zUe ?_;refine B 4 ?_;refine aK results106 rfl A0 ?_;rfl
end
theorem nVh(u q y1 r:Nat)(h:q*y1+r=u):((u:Int)-(q:Int)*(y1:Int))=(r:Int):=by grind
theorem nCn(hi lo y:Nat)(Xx:hi<y)(I6:lo<18446744073709551616)(hy:y<18446744073709551616)(h0:0<hi)(w:World):Calls prog 254 #[.int .u64 (hi:Int),.int .u64 (lo:Int),.int .u64 (y:Int)] w (aP w (.tuple #[.int .u64 (((hi*2^64+lo)/y:Nat):Int),.int .u64 (((hi*2^64+lo)%y:Nat):Int)])):=by
 obtain⟨hb1,dw,dA⟩:=nUo y aa hy;have BL:=(nwi y aa).2.2;obtain⟨s,hs⟩:∃s,64-dq y=s:=⟨_,rfl⟩;rw[hs]at dw dA;have hsI:(64-rB (y:Int))=(s:Int):=by unfold rB;simp;omega
 obtain⟨Y,hY⟩:∃Y,y*2^s=Y:=⟨_,rfl⟩;rw[hY]at dw dA;obtain⟨y1,BJ⟩:∃z,Y/4294967296=z:=⟨_,rfl⟩;obtain⟨y0,I7⟩:∃z,Y%4294967296=z:=⟨_,rfl⟩;have Vd:y1*2^32+y0=Y:=by omega
 obtain⟨hN,hlt⟩:=n7o hi lo y s aa Xx I6;obtain⟨u,hu⟩:∃z,hi*2^s+lo/2^(64-s)=z:=⟨_,rfl⟩;obtain⟨v,hv⟩:∃z,lo*2^s%2^64=z:=⟨_,rfl⟩;rw[hu,hv]at hN;rw[hu,hY]at hlt;have aoW:v<18446744073709551616:=by rw[<-hv];exact Nat.mod_lt _ zA
 obtain⟨v1,hv1⟩:∃z,v/4294967296=z:=⟨_,rfl⟩;obtain⟨v0,hv0⟩:∃z,v%4294967296=z:=⟨_,rfl⟩;have iS:2^31<=y1:=by omega
 have JQ:v1<2^32:=by omega
 have tv:v0<2^32:=by omega
 have huY:u<y1*2^32+y0:=by omega
 have d1:=ug.start iS aa aa JQ huY;have aoX:hi*2^s<=u:=by rw[<-hu];exact Nat.le_add_right _ _
 have hq0:u/y1*y1<=u:=Nat.div_mul_le_self u y1;refine eN func254 ntmps254 ?_;refine Qh ?_;refine Qh ?_;refine B 9 ?_;refine CV ?_;refine call call292 rfl rfl rfl (λW hS=>nKg _ aa aa W) ?_;refine rq (.int .u64 (s:Int)) (yD underlying3 underlying222 rfl aa aa) (vu hsI) ?_;refine B 7 ?_;refine rq (.int .u64 (Y:Int)) (rC rfl rfl aa) (vu ((DM y s aa aa).trans (by rw[hY]))) ?_;refine B 6 ?_;refine rq (.int .u64 (y1:Int)) (jq 32 4294967296 zA rfl rfl rfl) (vu aa) ?_;refine B 6 ?_;refine rq (.int .u64 (y0:Int)) (rD 32 4294967296 zA rfl rfl rfl rfl aa aa) (vu aa) ?_;refine B 7 ?_;refine rq (.int .u64 ((hi*2^s:Nat):Int)) (rC rfl rfl aa) (vu (DM hi s aa aa)) ?_;refine B 2 ?_;refine rv rfl rfl rfl (uP rfl rfl aa aa) ?_;refine rq (.int .u64 ((lo/2^(64-s):Nat):Int)) (mB rfl rfl aa) (vu (Qi lo s _ aa)) ?_;refine rq (.int .u64 (u:Int)) (AG rfl rfl) (vu ((Od hi _ s (DN lo s aa I6) aa).trans (by rw[hu]))) ?_;refine B 7 ?_;refine rq (.int .u64 (v:Int)) (rC rfl rfl aa) (vu ((JR lo s aa).trans (by rw[hv]))) ?_;refine B 6 ?_;refine rq (.int .u64 (v1:Int)) (jq 32 4294967296 zA rfl rfl rfl) (vu aa) ?_;refine B 6 ?_;refine rq (.int .u64 (v0:Int)) (rD 32 4294967296 zA rfl rfl rfl rfl aa aa) (vu aa) ?_;refine B 7 ?_;refine rq (.int .u64 ((u/y1:Nat):Int)) (yE rfl rfl aa aa aa) (vu (nEe u y1)) ?_
 refine B 8 ?_;refine Qe ?_;refine rq (.int .u64 ((u%y1:Nat):Int)) (uP rfl rfl aa aa) (vu (nVh _ _ _ _ d1.eq)) ?_;refine B 5 ?_;refine CJ.lp (α:=Nat×Nat) [2,8,9,10,11,13,14] (λp=>[(15,.int .u64 (p.1:Int)),(16,.int .u64 (p.2:Int))]) (λp=>[]) (λp=>ug u y1 y0 v1 p.1 p.2) (λp=>p.1) (u/y1,u%y1) d1 ?_;rintro⟨q,r⟩ hd;dsimp only;replace hd:ug u y1 y0 v1 q r:=hd;have uQ:=hd.lt;have hde:=hd.le;have hqn:(0:Int)<=(q:Int)*(y0:Int):=Int.mul_nonneg aa aa;have hqy:(q:Int)<=4294967295->(q:Int)*(y0:Int)<=4294967295*4294967295:=λh=>(Ob aa h aa aa).2;refine B 6 ?_;refine ni (t:=69) rfl (λav=>?_) (λav=>?_)
 ·replace av:=ya av;refine B 18 ?_;obtain⟨cK,bX,cX⟩:=hd.more iS huY JQ aa;refine Oe ?_;refine uh ?_ ?_
  ·intro aR;refine zbf ?_;first|(have BM:=hd.stop iS aa;obtain⟨q1,rfl⟩:∃q1,q1=q:=⟨_,rfl⟩)|(have BM:=nwb aa aa bX cX iS aa;generalize q-1=q1 at *)
   rw[Vd]at BM;obtain⟨r1,JS⟩:∃z,(u*2^32+v1)%Y=z:=⟨_,rfl⟩;have Xy:r1<Y:=by rw[<-JS];exact Nat.mod_lt _ aa
   have gS:q1*Y+r1=u*2^32+v1:=by have:=BN (u*2^32+v1) Y;rw[BM,JS,I8]at this;exact this
   have d2:=ug.start iS aa aa tv (show r1<y1*2^32+y0 by omega);have Xz:r1/y1*y1<=r1:=Nat.div_mul_le_self r1 y1;have uR:r1<y1*2^32+y0:=by omega
   clear hd;try clear cK bX cX
   refine zYf ?_;rintro⟨q,r⟩ hd;dsimp only;replace hd:ug r1 y1 y0 v0 q r:=hd;have uQ:=hd.lt;have hde:=hd.le;have hqn:(0:Int)<=(q:Int)*(y0:Int):=Int.mul_nonneg aa aa;have hqy:(q:Int)<=4294967295->(q:Int)*(y0:Int)<=4294967295*4294967295:=λh=>(Ob aa h aa aa).2;refine B 6 ?_;refine ni (t:=104) rfl (λdm=>?_) (λdm=>?_)
   ·replace dm:=ya dm;refine B 18 ?_;obtain⟨cK,bX,cX⟩:=hd.more iS uR tv aa;refine Oe ?_;refine uh ?_ ?_
    ·intro je;exact Ve
    intro je;exact Of
   replace dm:=ya dm;refine zBf ?_;refine uh ?_ ?_
   ·intro ib;refine B 6 ?_;obtain⟨cK,bX,cX⟩:=hd.more iS uR tv aa;refine Oe ?_;refine uh ?_ ?_
    ·intro kX;exact Ve
    intro kX;exact Of
   intro ib;refine B 6 ?_;exact z7f
  intro aR;exact Of
 replace av:=ya av;refine zBf ?_;refine uh ?_ ?_
 ·intro jW;refine B 6 ?_;obtain⟨cK,bX,cX⟩:=hd.more iS huY JQ aa;refine Oe ?_;refine uh ?_ ?_
  ·intro DO;refine zbf ?_;first|(have BM:=hd.stop iS aa;obtain⟨q1,rfl⟩:∃q1,q1=q:=⟨_,rfl⟩)|(have BM:=nwb aa aa bX cX iS aa;generalize q-1=q1 at *)
   rw[Vd]at BM;obtain⟨r1,JS⟩:∃z,(u*2^32+v1)%Y=z:=⟨_,rfl⟩;have Xy:r1<Y:=by rw[<-JS];exact Nat.mod_lt _ aa
   have gS:q1*Y+r1=u*2^32+v1:=by have:=BN (u*2^32+v1) Y;rw[BM,JS,I8]at this;exact this
   have d2:=ug.start iS aa aa tv (show r1<y1*2^32+y0 by omega);have Xz:r1/y1*y1<=r1:=Nat.div_mul_le_self r1 y1;have uR:r1<y1*2^32+y0:=by omega
   clear hd;try clear cK bX cX
   refine zYf ?_;rintro⟨q,r⟩ hd;dsimp only;replace hd:ug r1 y1 y0 v0 q r:=hd;have uQ:=hd.lt;have hde:=hd.le;have hqn:(0:Int)<=(q:Int)*(y0:Int):=Int.mul_nonneg aa aa;have hqy:(q:Int)<=4294967295->(q:Int)*(y0:Int)<=4294967295*4294967295:=λh=>(Ob aa h aa aa).2;refine B 6 ?_;refine ni (t:=104) rfl (λph=>?_) (λph=>?_)
   ·replace ph:=ya ph;refine B 18 ?_;obtain⟨cK,bX,cX⟩:=hd.more iS uR tv aa;refine Oe ?_;refine uh ?_ ?_
    ·intro rE;exact Ve
    intro rE;exact Of
   replace ph:=ya ph;refine zBf ?_;refine uh ?_ ?_
   ·intro mC;refine B 6 ?_;obtain⟨cK,bX,cX⟩:=hd.more iS uR tv aa;refine Oe ?_;refine uh ?_ ?_
    ·intro kg;exact Ve
    intro kg;exact Of
   intro mC;refine B 6 ?_;exact z7f
  intro DO;exact Of
 intro jW;refine B 6 ?_;first|(have BM:=hd.stop iS aa;obtain⟨q1,rfl⟩:∃q1,q1=q:=⟨_,rfl⟩)|(have BM:=nwb aa aa bX cX iS aa;generalize q-1=q1 at *)
 rw[Vd]at BM;obtain⟨r1,JS⟩:∃z,(u*2^32+v1)%Y=z:=⟨_,rfl⟩;have Xy:r1<Y:=by rw[<-JS];exact Nat.mod_lt _ aa
 have gS:q1*Y+r1=u*2^32+v1:=by have:=BN (u*2^32+v1) Y;rw[BM,JS,I8]at this;exact this
 have d2:=ug.start iS aa aa tv (show r1<y1*2^32+y0 by omega);have Xz:r1/y1*y1<=r1:=Nat.div_mul_le_self r1 y1;have uR:r1<y1*2^32+y0:=by omega
 clear hd;try clear cK bX cX
 refine zYf ?_;rintro⟨q,r⟩ hd;dsimp only;replace hd:ug r1 y1 y0 v0 q r:=hd;have uQ:=hd.lt;have hde:=hd.le;have hqn:(0:Int)<=(q:Int)*(y0:Int):=Int.mul_nonneg aa aa;have hqy:(q:Int)<=4294967295->(q:Int)*(y0:Int)<=4294967295*4294967295:=λh=>(Ob aa h aa aa).2;refine B 6 ?_;refine ni (t:=104) rfl (λmD=>?_) (λmD=>?_)
 ·replace mD:=ya mD;refine B 18 ?_;obtain⟨cK,bX,cX⟩:=hd.more iS uR tv aa;refine Oe ?_;refine uh ?_ ?_
  ·intro uS;exact Ve
  intro uS;exact Of
 replace mD:=ya mD;refine zBf ?_;refine uh ?_ ?_
 ·intro pj;refine B 6 ?_;obtain⟨cK,bX,cX⟩:=hd.more iS uR tv aa;refine Oe ?_;refine uh ?_ ?_
  ·intro DP;exact Ve
  intro DP;exact Of
 intro pj;refine B 6 ?_;exact z7f
theorem non(lo y:Nat)(h0:0<y)(I6:lo<18446744073709551616)(hy:y<18446744073709551616)(w:World):Calls prog 254 #[.int .u64 0,.int .u64 (lo:Int),.int .u64 (y:Int)] w (aP w (.tuple #[.int .u64 ((lo/y:Nat):Int),.int .u64 ((lo%y:Nat):Int)])):=by
 refine eN func254 ntmps254 ?_;refine Qh ?_;refine Qh ?_;refine aE 9 bZ ?_;refine B 4 ?_;refine eA 7 (pb:=by exact zU 2 (k:=by exact aJ (X.v (yE rfl rfl aa aa aa)) (zU 2 (k:=by exact aJ (X.v (DQ rfl rfl aa aa)) zT)))) (k:=?_);refine B 5 ?_;refine nT results254 rfl rfl A0 ?_ ?_
 ·exact vu (nEe lo y)
 exact vu (Int.natCast_emod lo y).symm
theorem ntg(hi lo y:Int)(h0:0<=hi)(h1:hi<y)(h2:0<=lo)(h3:lo<18446744073709551616)(h4:y<18446744073709551616)(w:World):Calls prog 254 #[.int .u64 hi,.int .u64 lo,.int .u64 y] w (aP w (.tuple #[.int .u64 ((hi*18446744073709551616+lo)/y),.int .u64 ((hi*18446744073709551616+lo)%y)])):=by
 obtain⟨a,rfl⟩:=Og h0;obtain⟨b,rfl⟩:=Og h2;obtain⟨c,rfl⟩:=Og (Int.le_trans h0 (Int.le_of_lt h1));have e:((a:Int)*18446744073709551616+(b:Int))=((a*2^64+b:Nat):Int):=by simp
 rw[e,nEe,<-Int.natCast_emod];by_cases ha:a=0
 ·subst ha;have:=non b c aa aa aa w;simpa using this
 exact nCn a b c aa aa aa aa w
theorem nSi{b p:Int}(ha:0<=a)(fX:a<p)(hb:0<=b)(hb1:b<p)(hp:p<18446744073709551616):0<=a*b/18446744073709551616/\a*b/18446744073709551616<p/\0<=a*b%18446744073709551616/\a*b%18446744073709551616<18446744073709551616/\a*b/18446744073709551616*18446744073709551616+a*b%18446744073709551616=a*b:=by
 have h0:0<=a*b:=Int.mul_nonneg ha hb;have h1:a*b<=a*18446744073709551616:=Int.mul_le_mul_of_nonneg_left aa ha;all_goals grind
theorem nwf(a b:Int)(ha:0<=a)(fX:a<4611686018427377339)(hb:0<=b)(hb1:b<4611686018427377339)(w:World):Calls prog 190 #[.int .u64 a,.int .u64 b] w (aP w (.int .u64 (a*b%4611686018427377339))):=by
 obtain⟨m1,m2,m3,m4,m5⟩:=nSi ha fX hb hb1 zA;refine ef 9 func190 ntmps190 ?_;refine zqf ?_;refine B 14 ?_;refine aK results190 rfl A0 ?_
 (rw[m5];rfl)
theorem n0m(k:Int)(w:World):Calls prog 189 #[.int .u64 k] w (cZ w (λb=>.func (.func 252) #[] #[ptr b 0]) (λb w1=>w.heap.size<=b/\w1.heap[b]? =some (oC #[.int .u64 k] 233))):=by
 refine eN func189 ntmps189 ?_;refine cH 2 ?_;intro b1 w1 hb1 cK gS fX jK;refine B 10 ?_;refine sQ b1 results189 rfl A1 rfl ?_;exact zLh
def ui (n:Nat):List Bool:=(List.range (dq n)).reverse.map (λi=>n.testBit i)
theorem nme(n:Nat):(ui n).length=dq n:=by simp[ui]
theorem nvf(n j:Nat)(h:j<dq n):(ui n).take (j+1)=(ui n).take j++[n.testBit (dq n-1-j)]:=by
 have hl:j<(ui n).length:=by rw[nme];exact h
 rw[Oh hl];congr 2;simp[ui]
theorem Qj(n i:Nat):decide (((n/2^i:Nat):Int)%2=1)=n.testBit i:=by grind
theorem DR(n j:Nat)(h:j<dq n):((ui n).take j++[n.testBit (dq n-1-j)]) <+:ui n:=by
 rw[<-nvf n j h];exact List.take_prefix _ _
theorem n7m(n:Nat)(hn:n<18446744073709551616)(b:Nat)(W:World)(hb1:W.heap[b]? =some (oC #[.int .u64 (n:Int)] 233)):uT prog 252 [ptr b 0] (λx:Bool=>[.bool x]) (CW (ui n)) (Is (ui n)) (λ_=>False) (λk=>k=b) W:=by
 intro l M I X0 hM hI hX hy h0;have Vf:=(bA.1 hb1).1;have cK:¬(M b\/False):=λh=>h.elim (λh=>(hM b h).2.2 rfl) id;have jr:=nMh n 64 hn;have hbI:rB (n:Int)=(dq n:Int):=by simp[rB]
 refine nB (dD hM (λ_=>False) (hI [] _)) [] (vs:=[_,_]) func252 rfl ntmps252 rfl (Oi hM (hI [] _) h0 zJ (by simp[lO]) zJ) ?_;refine B 3 ?_;refine zUe ?_;refine rq (ab ((dq n:Int)-1-(0:Nat))) (pq rfl rfl aa aa) (congrArg ab (by rw[hbI];omega)) ?_;refine B 4 ?_;refine CJ.loop (α:=Nat×aI) (λp=>[(0,yv l),(1,ptr b 0),(3,ab ((dq n:Int)-1-(p.1:Int)))]) (λp=>[]) (λp=>[W]) (λp=>dD hM p.2 (hI ((ui n).take p.1) p.2)) (λp=>p.1<=dq n/\∀k,p.2 k->W.heap.size<=k) (λp=>dq n-p.1) (0,λ_=>False) ⟨cY _,λ_ h=>h.elim⟩ zR rfl rfl zJ ?_;rintro⟨j,V⟩ ⟨hj,hV⟩;dsimp only at hj hV ⊢;have cK:¬(M b\/V b):=λh=>h.elim (λh=>(hM b h).2.2 rfl) (λh=>by have:=hV b h;omega);refine aG 7 ?_ ?_
 ·intro av;refine B 9 ?_;refine rq (.int .u64 ((n/2^(dq n-1-j):Nat):Int)) (mB rfl rfl aa) (vu (Oj n _ _ aa aa)) ?_;refine rv rfl rfl rfl (rD 1 2 zA rfl rfl rfl rfl (Int.natCast_nonneg _) (Int.lt_of_le_of_lt (Int.ofNat_le.2 (Nat.div_le_self n _)) aa)) ?_;refine rq (.bool (n.testBit (dq n-1-j))) (kY rfl rfl) (vb (Qj n _)) ?_;refine BO (λV=>hI ((ui n).take (j+1)) V) hX hV A0 rfl rfl rfl rfl (λW1 uU lI=>by have:=hy ((ui n).take j) _ V W1 (DR n j aa) uU lI;rw[<-nvf n j aa]at this;exact this) ?_ ?_
  ·intro V hV;refine B 12 ?_;refine PJ.again (j+1,V) ⟨by dsimp only;omega,hV⟩ zW ⟨rfl,rfl,congrArg some (congrArg ab zW),trivial⟩ rfl rfl zJ
  intro V hV;refine B 9 ?_;exact BP (.inl rfl) results252 A0 hV zJ (λA hA=>.inr hA)
 intro av;refine B 4 ?_;exact BP (.inr rfl) results252 A0 hV zJ (λA hA=>.inl ⟨ui n,rfl,by have e:=iz (l:=ui n) (i:=j) (by rw[nme];omega);rw[e]at hA;exact hA⟩)
def sR (a m:Int):List Bool->Int->Int
 | [],c=>c
 |b::bs,c=>sR a m bs (if b then(c*c%m)*a%m else c*c%m)
theorem n6g(a m:Int)(bs:List Bool)(b:Bool)(c:Int):sR a m (bs++[b]) c=if b then(sR a m bs c*sR a m bs c%m)*a%m else sR a m bs c*sR a m bs c%m:=by induction bs generalizing c<;>grind [sR]
theorem n3i(a m:Int)(hm:0<m)(bs:List Bool)(c:Int)(h0:0<=c)(h1:c<m):0<=sR a m bs c/\sR a m bs c<m:=by
 induction bs generalizing c with
 |nil=>exact⟨h0,h1⟩
 |cons x bs ih=>
  simp only[sR];apply ih
  ·split<;>exact Int.emod_nonneg _ aa
  split<;>exact Int.emod_lt_of_pos _ hm
def uV (a n m:Int):Int:=sR a m (ui n.toNat) 1
theorem n6h(a k:Int)(ha:0<=a)(fX:a<4611686018427377339)(hk:0<=k)(JT:k<18446744073709551616)(w:World):Calls prog 114 #[.int .u64 a,.int .u64 k] w (aP w (.int .u64 (uV a k 4611686018427377339))):=by
 refine Qk Gh.no [] (vs:=[_,_]) func114 rfl ntmps114 rfl (JU w) ?_;refine cH 2 ?_;intro b2 w2 dw bX fB dJ dH;refine bH 6 ?_;intro b5 rF rG;refine B 7 ?_;refine nv (Φ:=λW b w1=>W.heap.size<=b/\w1.heap[b]? =some (oC #[.int .u64 k] 233)) call189 rfl rfl rfl (λW hS=>n0m _ W) ?_;intro Wd bd wd yF hBd hPd;obtain⟨aoY,Ql⟩:=hPd;have hUd:=yF.under;simp only[I9,dx,ec]at hUd;have hAd:=yF.sizes;replace hAd:=yb hAd;have hzd:=hBd.size;refine B 3 ?_;refine XA (f:=252) (cap:=[ptr bd 0]) (α:=Bool) (enc:=(λx:Bool=>[.bool x])) (Pre:=CW (ui k.toNat)) (Fin:=Is (ui k.toNat)) (RO:=λk=>k=bd) (MI:=λ_=>False) rfl call252 (λW W2 hS hB=>by have e:(.int .u64 k:Value)= .int .u64 ((k.toNat:Nat):Int):=(by rw[Int.toNat_of_nonneg hk]);exact n7m k.toNat aa bd W2 (by rw[<-e,hB.block bd (by have:=(hS.sizes);simp only[ah]at this;have:=(bA.1 Ql).1;omega)];exact hS.old A0 Ql zI zz)) (λ_ _ _ hk=>hk.elim) (λW hS k hk=>by subst hk;have:=hS.sizes;simp only[ah]at this;have:=(bA.1 Ql).1;refine⟨by omega,by simp only[dx,dL,ft,gh];omega,λh=>h⟩) (λ_=>rfl) (λpre G' Hc=>G'=Gh.no/\Hc=[(b5,oC #[.int .u64 (sR a 4611686018427377339 pre 1)] 233)]) (λ_ _ _=>False) ⟨rfl,rfl⟩ zA ?_ ?_ ?_
 ·rintro pre x G' Hc l Dk rec W1 M V Wy p7 xN eK ⟨rfl,rfl⟩ jf mm Qm yG dK DS;simp only[ah]at jf yG;have bX:=dK.z (k:=b2) aa zI mV zI;have JV:=n3i a 4611686018427377339 zA pre 1 zA zA;have hX:=Int.emod_nonneg (sR a 4611686018427377339 pre 1*sR a 4611686018427377339 pre 1) (b:=4611686018427377339) zA;have gi:=Int.emod_lt_of_pos (sR a 4611686018427377339 pre 1*sR a 4611686018427377339 pre 1) (b:=4611686018427377339) zA;refine B 3 ?_;refine Om p7 ?_;refine B 5 ?_;refine call call190 rfl rfl rfl (λW hS=>nwf _ _ aa aa aa aa W) ?_;refine aG 8 ?_ ?_
  ·intro av;refine B 3 ?_;refine call call190 rfl rfl rfl (λW hS=>nwf _ _ aa aa aa aa W) ?_;refine B 3 ?_;refine JW (G2:=Gh.no) (Hc2:=[(b5,oC #[.int .u64 (sR a 4611686018427377339 pre 1*sR a 4611686018427377339 pre 1%4611686018427377339*a%4611686018427377339)] 233)]) dK mm ⟨λ_ h=>h,λ_ h=>.inl h,λ_ h=>.inl h,zJ,zJ⟩ (JX p7 xN) ?_;exact⟨rfl,by rw[n6g,av];rfl⟩
  intro av;refine B 2 ?_;refine JW (G2:=Gh.no) (Hc2:=[(b5,oC #[.int .u64 (sR a 4611686018427377339 pre 1*sR a 4611686018427377339 pre 1%4611686018427377339)] 233)]) dK mm ⟨λ_ h=>h,λ_ h=>.inl h,λ_ h=>.inl h,zJ,zJ⟩ (JX p7 xN) ?_;exact⟨rfl,by rw[n6g,av];rfl⟩
 ·rintro qB l Dk rec G' Hc rfl jf mm ⟨rfl,rfl⟩;replace jf:=yb jf;refine B 9 ?_;refine XB (.inl rfl) results114 rfl (by simp[book]) (λW H' hS aW=>⟨?_,?_⟩)
  ·exact congrArg Ending.returned rfl
  refine(hS.links w A2).below λk hk hx=>?_;rw[aW]at hx;simp[Gh.no,book]at hx;omega
 exact Qo
theorem nGj(a k m:Int)(hm:1<m):0<=uV a k m/\uV a k m<m:=n3i a m aa _ 1 aa hm
abbrev eg (a:Int):Prop:=1<=a/\a<4611686018427377339/\uV a 2305843009213688669 4611686018427377339=1
def gExp (a k:Int):Int×Int:=if eg a then if 0<=k/\k<2305843009213688669 then(uV a k 4611686018427377339,0)else(0,1)else(0,40)
def rH (p:Int×Int):Value:=.tuple #[ab p.1,ab p.2]
theorem nP(a:Int)(w:World):Calls prog 65 #[ab a] w (aP w (ab (if eg a then 0 else 40))):=by
 have hp:=nGj a 2305843009213688669 4611686018427377339 zA;refine ef 11 func65 ntmps65 ?_;refine ni (t:=5) rfl (λav=>?_) (λav=>?_)
 ·replace av:=ya av;refine B 19 ?_;refine zqe ?_;split<;>omega
 replace av:=ya av;refine B 4 ?_;refine ni (t:=9) rfl (λaR=>?_) (λaR=>?_)
 ·replace aR:=ya aR;refine B 15 ?_;refine zqe ?_;split<;>omega
 replace aR:=ya aR;refine B 2 ?_;refine call call114 rfl rfl rfl (λW hS=>n6h _ _ aa aa aa aa W) ?_;refine aG 4 ?_ ?_
 ·intro dm;refine B 7 ?_;refine zqe ?_;split<;>omega
 intro dm;refine B 8 ?_;refine zqe ?_;split<;>omega
theorem nDk(a k:Int)(w:World):Calls prog 125 #[ab a,ab k] w (aP w (rH (gExp a k))):=by
 have hp:=nGj a k 4611686018427377339 zA;refine ef 10 func125 ntmps125 ?_;refine call call65 rfl rfl rfl (λW hS=>nP _ W) ?_;refine aG 9 ?_ ?_
 ·intro av;refine B 1 ?_;have hg:¬eg a:=λh=>by simp[if_pos h]at av
  refine B 8 ?_;exact zug
 intro av;refine B 4 ?_;have hg:eg a:=Decidable.byContradiction λh=>by simp[if_neg h]at av
 refine B 4 ?_;refine ni (t:=14) rfl (λaR=>?_) (λaR=>?_)
 ·replace aR:=ya aR;refine B 14 ?_;exact zug
 replace aR:=ya aR;refine aG 5 ?_ ?_
 ·intro dm;refine B 8 ?_;exact zug
 intro dm;refine B 8 ?_;refine call call114 rfl rfl rfl (λW hS=>n6h _ _ aa aa aa aa W) ?_;refine B 6 ?_;exact zug
theorem n2i(k:Int)(w:World):Calls prog 124 #[ab k] w (aP w (rH (gExp 4 k))):=by
 refine ef 9 func124 ntmps124 ?_;refine call call125 rfl rfl rfl (λW hS=>nDk _ _ W) ?_;refine B 7 ?_;refine nT results124 rfl rfl A0 ?_ ?_;all_goals rfl
theorem JY(x b:Int)(h0:0<=b)(h1:b<256):IntKind.u64.wrap (BitVec.ofInt IntKind.u64.bits (IntKind.u64.wrap (x*256))|||BitVec.ofInt IntKind.u64.bits b).toNat=(x*256)%18446744073709551616+b:=by
 obtain⟨y,hy⟩:∃y:Nat,(x*256)%18446744073709551616=((y*2^8:Nat):Int):=⟨((x*256)%18446744073709551616/256).toNat,by omega⟩;obtain⟨c,rfl⟩:=Og h0;rw[hy,(nD (x*256)).trans hy,Od y c 8 aa aa];omega
theorem JZ(n b m:Int):n/72057594037927936*18446744073709551616+(n*256%18446744073709551616+b)=n*256+b:=by omega
def Ja (m:Int):List Int->Int->Int
 | [],n=>n
 |b::bs,n=>Ja m bs ((n*256+b)%m)
theorem njp(m:Int)(bs:List Int)(b n:Int):Ja m (bs++[b]) n=(Ja m bs n*256+b)%m:=by induction bs generalizing n<;>grind [Ja]
theorem nci(m:Int)(hm:0<m)(bs:List Int)(n:Int)(h0:0<=n)(h1:n<m):0<=Ja m bs n/\Ja m bs n<m:=by
 induction bs generalizing n with
 |nil=>exact⟨h0,h1⟩
 |cons x bs ih=>exact ih _ (Int.emod_nonneg _ aa) (Int.emod_lt_of_pos _ hm)
theorem ntn(c n m:Int)(b b2:Nat)(hc:0<=c)(av:c<256)(hn:0<=n)(hnm:n<m)(hm:m<72057594037927936*256)(w:World)(hb:w.heap[b]? =some (oC #[.int .u64 n] 233))(dw:w.heap[b2]? =some (oC #[.int .u64 m] 233))(hne:b≠b2):Calls prog 302 #[.int .u8 c,ptr b 0,ptr b2 0] w (J0 w (.tuple #[]) b (oC #[.int .u64 ((n*256+c)%m)] 233)):=by
 have bX:¬Gh.no.M b2:=λh=>h;refine nB Gh.no [(b,_)] (vs:=[_,_,_]) func302 rfl ntmps302 rfl (nom hb) ?_;refine B 2 ?_;refine rv rfl rfl rfl (jq 56 72057594037927936 zA rfl rfl rfl) ?_;refine B 1 ?_;refine rv rfl rfl rfl (DT 8 256 zA rfl rfl rfl) ?_;refine B 2 ?_;refine rq (.int .u64 ((n*256)%18446744073709551616+c)) (AG rfl rfl) (vu (JY n c hc av)) ?_;refine B 1 ?_;refine zse ?_;refine B 2 ?_;refine rq (.int .u64 ((n*256+c)%m)) (jg rfl rfl) (vu (by rw[JZ n c m])) ?_;refine kT (i:=0) rfl sizeOf233 rfl rfl rfl rfl (eh rfl) rfl ?_;refine B 1 ?_;refine bQ (.inr rfl) results302 bB (λW hS=>⟨rfl,(hS.links w A0).mono λk _ hk=>?_,hS.own _ A0⟩);simpa[Gh.no]using hk
def dg (f:Nat->Int):Array Value:=(lJ f []).toArray
def BQ (f:Nat->Int):List Int:=(List.range 32).map f
abbrev eu (f:Nat->Int):Prop:=∀i,0<=f i/\f i<256
theorem rI(f:Nat->Int)(i:Nat)(h:i<32):(dg f)[i]? =some (.int .u8 (f i)):=by
 have e:dg f=((List.range 32).map λi=>Value.int .u8 (f i)).toArray:=rfl;rw[e];simp[h]
theorem DU(f:Nat->Int)(j:Nat)(h:j<32):(BQ f).take (j+1)=(BQ f).take j++[f j]:=by
 have hl:j<(BQ f).length:=by simp[BQ];exact h
 rw[Oh hl];simp[BQ]
theorem nOo(f:Nat->Int)(hf:eu f)(m:Int)(xO:0<m)(hm:m<72057594037927936*256)(w:World):Calls prog 258 #[.agg (dg f),.int .u64 m] w (aP w (.int .u64 (Ja m (BQ f) 0))):=by
 refine eN func258 ntmps258 ?_;refine cH 2 ?_;intro b2 w2 dw bX fB dJ dH;refine yX ?_;intro b3 w3 dA cX fT eC ff;refine bH 1 ?_;intro b4 iT iU;refine B 16 ?_;refine CJ.lp (α:=Nat) [2,3,4,5,9] (λj=>[(10,ab (j:Int))]) (λj=>[(b4,oC #[.int .u64 (Ja m ((BQ f).take j) 0)] 233)]) (λj=>j<=32) (λj=>32-j) 0 zA ?_;rintro j hj;have JV:=nci m xO ((BQ f).take j) 0 zA xO;refine aG 6 ?_ ?_
 ·intro av;refine B 6 ?_;refine rq (.int .u8 (f j)) (uW underlying33 isAgg5 sizeOf5 rfl rfl aa aa (rI f _ aa)) (congrArg (λk=>Value.int .u8 (f k)) aa) ?_;refine B 6 ?_;refine XC (f:=302) (i:=0) (first:=[]) (cap:=[ptr b4 0,ptr b3 0]) rfl rfl call302 rfl rfl rfl (λW hS hW=>ntn _ _ _ _ _ (hf j).1 (hf j).2 JV.1 JV.2 hm W hW (hS.old A0 dA cX zz) aa) ?_;refine B 7 ?_;refine PJ.reH (H':=[(b4,oC #[.int .u64 (Ja m ((BQ f).take (j+1)) 0)] 233)]) (by rw[DU f j aa,njp];rfl) ?_;exact J1
 intro av;refine B 12 ?_;refine cu (.inl rfl) results258 bB A2 zB ?_;exact vu (by rw[iz (by simp[BQ];omega)])
end Px
namespace Px
open Go
def yH:List Bool->Nat->Nat
 | [],v=>v
 |b::bs,v=>yH bs (2*v+if b then 1 else 0)
theorem nEp(bs:List Bool)(b:Bool)(v:Nat):yH (bs++[b]) v=2*yH bs v+if b then 1 else 0:=by
 induction bs generalizing v with
 |nil=>rfl
 |cons x bs ih=>exact ih _
theorem nBn(a m:Int)(bs:List Bool):∀(c:Int) (v:Nat),c%m=a^v%m->sR a m bs c%m=a^yH bs v%m:=by
 induction bs with
 |nil=>intro c v h;exact h
 |cons x bs ih=>
  intro c v h;simp only[sR,yH];apply ih;have hs:c*c%m=a^(2*v)%m:=by rw[Int.mul_emod,h,<-Int.mul_emod,<-Int.pow_add];congr 2;omega
  cases x with
  |false=>simp only[Bool.false_eq_true,if_false,Int.emod_emod,Nat.add_zero];exact hs
  |true=>simp only[if_true,Int.emod_emod];rw[hs,Int.mul_emod,Int.emod_emod,<-Int.mul_emod,<-Int.pow_succ]
theorem noj(n:Nat):∀j,j<=dq n->yH ((ui n).take j) 0=n/2^(dq n-j)
 |0,_=>by
  simp only[List.take_zero,yH,Nat.sub_zero];have hlt:n<2^dq n:=by
   by_cases h:n=0
   ·subst h;exact Nat.pow_pos zA
   exact(nwi n h).2.1
  exact(Nat.div_eq_of_lt hlt).symm
 |j+1,h=>by
  rw[nvf n j aa,nEp,noj n j aa];have e:dq n-j=(dq n-1-j)+1:=by omega
  have e2:dq n-(j+1)=dq n-1-j:=by omega
  rw[e,e2,Nat.pow_succ,<-Nat.div_div_eq_div_mul,Nat.testBit_eq_decide_div_mod_eq];by_cases hb:n/2^(dq n-1-j)%2=1
  ·simp only[hb,decide_true,if_true];omega
  simp only[hb,decide_false,Bool.false_eq_true,if_false];omega
theorem nEj(a k m:Int)(h0:0<=k)(hm:1<m):uV a k m=a^k.toNat%m:=by
 have h1:=nBn a m (ui k.toNat) 1 0 zJ;have h2:=noj k.toNat (dq k.toNat) (aj _);rw[iz (by rw[nme];exact aj _)]at h2;simp only[Nat.sub_self,Nat.pow_zero,Nat.div_one]at h2;rw[h2]at h1;rw[<-h1];have hb:=nGj a k m hm;exact(Int.emod_eq_of_lt hb.1 hb.2).symm
end Px
namespace Px
open Go Go.RowKit Go.Proofs Go.Proofs.Tryz
def pr (a:Int):Bool:=decide (a<0)||decide (2305843009213688669<=a)
variable {a:Int}
theorem ngj:pr a=false↔0<=a/\a<2305843009213688669:=by simp[pr]
theorem n0k:pr a=true↔¬(0<=a/\a<2305843009213688669):=by simp[pr];omega
theorem nck(a:Int)(w:World):Calls prog 257 #[ab a] w (aP w (.bool (pr a))):=by
 refine ef 10 func257 ntmps257 ?_;refine ni (t:=5) rfl (λav=>?_) (λav=>?_)
 ·exact zMh
 exact zMh
def yI (p:Int->Bool) (xs:List Int):Int:=match xs.findIdx? p with|some i=>(i:Int)|none=> -1
theorem DV(p:Int->Bool)(xs:List Int)(j:Nat)(hj:j<xs.length)(h:∀x∈xs.take j,p x=false)(hp:p xs[j]=true):yI p xs=(j:Int):=by grind [yI,List.findIdx?_eq_some_iff_getElem,List.mem_take_iff_getElem]
theorem nMp(p:Int->Bool)(xs:List Int)(h:∀x∈xs,p x=false):yI p xs= -1:=by grind [yI]
theorem DW(p:Int->Bool)(xs:List Int):decide (0<=yI p xs)=xs.any p:=by grind [yI]
def ints (xs:List Int):Array Value:=(xs.map λx=>ab x).toArray
theorem ints_at(xs:List Int)(j:Nat)(h:j<xs.length):(ints xs)[j]? =some (ab xs[j]):=by simp[ints,h]
section
variable (p:Int->Bool)(f:Nat)(aA:eU prog f)(hp:∀x W,Calls prog f #[ab x] W (aP W (.bool (p x))))(xs:List Int)(b T n c:Nat)(fr:Nat×Nat)(hn:xs.length=n)(mN:n<9223372036854775807)(w:World)(hb0:w.heap[b]? =some (.cells (ints xs) T fr))
include p f aA hp T c fr hn mN hb0
theorem n5k:Calls prog 275 #[.slice (ao b) n c,.func (.func f) #[] #[]] w (aP w (ab (yI p xs))):=by
 have xO:¬Gh.no.M b:=λh=>h;refine ef 14 func275 ntmps275 ?_;refine CJ.lp (α:=Nat) [0,1,7] (λj=>[(8,ab (j:Int))]) (λj=>[]) (λj=>j<=n/\∀x∈xs.take j,p x=false) (λj=>n-j) 0 ⟨cY _,by simp⟩ ?_;rintro j ⟨hj,hjp⟩;refine aG 6 ?_ ?_
 ·intro av;refine B 16 ?_;refine rv rfl rfl rfl (ar (v:=ab (xs[j]'aa)) isAgg3 rfl A0 hb0 xO trivial (by rw[<-ints_at xs j aa];congr 1;omega)) ?_;refine CY (f:=f) (cap:=[]) rfl aA rfl rfl rfl (λW hS=>hp _ W) ?_;refine aG 2 ?_ ?_
  ·intro aR;refine B 12 ?_;refine aK results275 rfl A0 ?_;exact congrArg ab (DV p xs j aa hjp aR).symm
  intro aR;refine B 7 ?_;refine ag (j+1) ⟨by omega,by intro x hx;rw[Oh aa]at hx;simp only[aY,gh]at hx;rcases hx with hx|rfl;exact hjp x hx;exact aR⟩
 intro av;refine B 11 ?_;refine aK results275 rfl A0 ?_;exact congrArg ab (nMp p xs (by rw[<-iz (l:=xs) (i:=j) aa];exact hjp)).symm
theorem nhi:Calls prog 223 #[.slice (ao b) n c,.func (.func f) #[] #[]] w (aP w (.bool (xs.any p))):=by
 refine ef 9 func223 ntmps223 ?_;refine call call275 rfl rfl rfl (λW hS=>n5k p f aA hp xs b T n c fr hn mN W (hS.old A0 hb0 zI trivial)) ?_;refine B 5 ?_;refine aK results223 rfl A0 ?_;exact vb (DW p xs)
end
theorem nle(xs:List Int)(b T n c:Nat)(fr:Nat×Nat)(hn:xs.length=n)(mN:n<9223372036854775807)(w:World)(hb0:w.heap[b]? =some (.cells (ints xs) T fr)):Calls prog 194 #[.slice (ao b) n c] w (aP w (.bool (xs.any pr))):=by
 refine ef 8 func194 ntmps194 ?_;refine call call223 rfl rfl rfl (λW hS=>nhi pr 257 call257 (λx W=>nck x W) xs b T n c fr hn mN W (hS.old A0 hb0 zI trivial)) ?_;refine B 4 ?_;refine aK results194 rfl A0 ?_;rfl
theorem npl(a b:Int)(ha:0<=a)(fX:a<2305843009213688669)(hb:0<=b)(hb1:b<2305843009213688669)(w:World):Calls prog 274 #[ab a,ab b] w (aP w (ab (a*b%2305843009213688669))):=by
 obtain⟨m1,m2,m3,m4,m5⟩:=nSi ha fX hb hb1 zA;have m6:=Int.emod_nonneg (a*b) (b:=2305843009213688669) zA;have m7:=Int.emod_lt_of_pos (a*b) (b:=2305843009213688669) zA;refine ef 11 func274 ntmps274 ?_;refine zqf ?_;refine B 10 ?_;refine rq (ab (a*b%2305843009213688669)) (yJ underlying233 underlying3 rfl (by rw[m5];omega) (by rw[m5];omega)) (by rw[m5]) ?_;refine B 4 ?_;refine aK results274 rfl A0 ?_;rfl
theorem nan(a:Int)(w:World):Calls prog 123 #[ab a] w (aP w (ab (if pr a then 1 else 0))):=by
 refine ef 9 func123 ntmps123 ?_;refine Jb ?_;refine yV ?_;intro b4 w4 DX BR Vg iT iU;refine call call194 rfl rfl rfl (λW hS=>nle [a] _ _ _ _ _ rfl zJ W (hS.old A0 DX BR trivial)) ?_;refine aG 2 ?_ ?_
 ·intro av;refine B 7 ?_;refine aK results123 rfl A1 ?_;refine congrArg ab ?_;simp_all
 intro av;refine B 8 ?_;refine aK results123 rfl A1 ?_;refine congrArg ab ?_;simp_all
abbrev q9 (a:Int):Prop:=0<=a/\a<2305843009213688669
def qC (a b:Int):Int×Int:=if q9 a/\q9 b then(a*b%2305843009213688669,0)else(0,1)
def rJ (a b:Int):Int×Int:=if q9 a/\q9 b then((a+b)%2305843009213688669,0)else(0,1)
theorem XD{b:Int}(h:[a,b].any pr=false):q9 a/\q9 b:=by grind [ngj]
theorem On{b:Int}(h:[a,b].any pr=true):¬(q9 a/\q9 b):=by grind [n0k]
theorem n4p(a b:Int)(w:World):Calls prog 215 #[ab a,ab b] w (aP w (rH (qC a b))):=by
 refine ef 11 func215 ntmps215 ?_;refine Jb ?_;refine yV ?_;intro b8 w8 hb8 hm8 XE CZ Jc;refine z5e ?_;refine aG 2 ?_ ?_
 ·intro av;refine B 1 ?_;have hg:=On av;refine B 7 ?_;exact zKh
 intro av;refine B 3 ?_;have hg:=XD av;refine B 3 ?_;refine call call274 rfl rfl rfl (λW hS=>npl _ _ aa aa aa aa W) ?_;refine B 5 ?_;exact zKh
theorem n5p(a b:Int)(w:World):Calls prog 216 #[ab a,ab b] w (aP w (rH (rJ a b))):=by
 refine ef 11 func216 ntmps216 ?_;refine Jb ?_;refine yV ?_;intro b8 w8 hb8 hm8 XE CZ Jc;refine z5e ?_;refine aG 2 ?_ ?_
 ·intro av;refine B 1 ?_;have hg:=On av;refine B 7 ?_;exact zJh
 intro av;refine B 3 ?_;have hg:=XD av;refine B 4 ?_;refine rv rfl rfl rfl (DQ rfl rfl aa aa) ?_;refine B 5 ?_;exact zJh

abbrev DY (x:Int):Prop:=1<=x/\x<2305843009213688669
theorem BS:eg 4:=by decide +kernel
def J2 (x:Int):Int×Int:=if DY x then(uV 4 x 4611686018427377339,0)else(0,50)
variable {x:Int}
theorem Oo(h:DY x):gExp 4 x=(uV 4 x 4611686018427377339,0):=by unfold gExp;rw[if_pos BS,if_pos aa]
theorem n9i(a:Int)(w:World):Calls prog 132 #[ab a] w (aP w (.bool (decide (DY a)))):=by
 refine ef 10 func132 ntmps132 ?_;refine ni (t:=5) rfl (λav=>?_) (λav=>?_)
 ·replace av:=ya av;refine B 7 ?_;refine aK results132 rfl A0 ?_;refine vb (DZ.2 ?_)
  (try simp only[decide_eq_true_eq,Bool.false_eq_true,false_iff,true_iff])
  first|omega|(intro h;omega)
 replace av:=ya av;refine B 7 ?_;refine aK results132 rfl A0 ?_;refine vb (DZ.2 ?_)
 (try simp only[decide_eq_true_eq,Bool.false_eq_true,false_iff,true_iff])
 first|omega|(intro h;omega)
theorem n4h(a:Int)(w:World):Calls prog 133 #[ab a] w (aP w (ab (gExp 4 a).1)):=by
 refine ef 8 func133 ntmps133 ?_;refine call call124 rfl rfl rfl (λW hS=>n2i _ W) ?_;refine B 14 ?_;refine aK results133 rfl A0 ?_;rfl
theorem nDn(a:Int)(w:World):Calls prog 79 #[ab a] w (aP w (rH (J2 a))):=by
 refine ef 10 func79 ntmps79 ?_;refine call call132 rfl rfl rfl (λW hS=>n9i _ W) ?_;refine aG 3 ?_ ?_
 ·intro av;refine B 8 ?_;exact zph
 intro av;refine B 5 ?_;refine call call133 rfl rfl rfl (λW hS=>n4h _ W) ?_;refine B 5 ?_;exact zph
theorem XF(n:Nat)(h1:1<=n)(h2:n<=31):(IntKind.u64.wrap (-(n:Int)))%32=((32-n:Nat):Int):=by rw[nD];omega
theorem Qp(x:BitVec 32)(n:Nat)(h1:1<=n)(h2:n<=31)(w:World):Calls prog 285 #[u32 x,ab (-(n:Int))] w (aP w (u32 (AH x n))):=by
 refine ef 8 func285 ntmps285 ?_;refine rv rfl rfl rfl (kZ underlying3 underlying222 rfl) ?_;refine rq (.int .u64 ((32-n:Nat):Int)) (rD 5 32 zA rfl rfl rfl rfl (by rw[nD];omega) (by rw[nD];omega)) (vu (XF n h1 h2)) ?_;refine B 7 ?_;refine rv rfl rfl rfl (D2 (32-n) aa rfl rfl rfl) ?_;refine aE 2 (.int .u64 (n:Int)) ?_;refine rv rfl rfl rfl (yK n aa rfl rfl rfl) ?_;refine rv rfl rfl rfl (AI rfl rfl) ?_;refine B 4 ?_;refine aK results285 rfl A0 ?_;exact congrArg u32 (BitVec.or_comm _ _)
theorem nCf(x:BitVec 32)(a b c:Nat)(ha:1<=a)(fX:a<=31)(hb:1<=b)(hb1:b<=31)(hc:1<=c)(av:c<=31)(w:World):Calls prog 286 #[u32 x,ab (a:Int),ab (b:Int),ab (c:Int)] w (aP w (u32 (AH x a^^^AH x b^^^AH x c))):=by
 refine ef 9 func286 ntmps286 ?_;refine rv rfl rfl rfl (yL rfl aa aa) ?_;refine call call285 rfl rfl rfl (λW hS=>Qp _ a aa aa W) ?_;refine B 2 ?_;refine rv rfl rfl rfl (yL rfl aa aa) ?_;refine call call285 rfl rfl rfl (λW hS=>Qp _ b aa aa W) ?_;refine rv rfl rfl rfl (lg rfl rfl) ?_;refine B 2 ?_;refine rv rfl rfl rfl (yL rfl aa aa) ?_;refine call call285 rfl rfl rfl (λW hS=>Qp _ c aa aa W) ?_;refine rv rfl rfl rfl (lg rfl rfl) ?_;refine B 4 ?_;refine aK results286 rfl A0 ?_;rfl
def AJ (m:Nat->Int):Nat->BitVec 32
 |0=>0
 |n+1=>AJ m n<<<8|||BitVec.ofInt 32 (m n)
theorem J3(m:Nat->Int):AJ m 4=Vh m 0:=by grind [AJ,Vh]
theorem nfn(m:Nat->Int)(b off n c t:Nat)(fr:Nat×Nat)(cs:Array Value)(hn:4<=n)(hc:n<=c)(w:World)(hb0:w.heap[b]? =some (.cells cs t fr))(hm:∀i,i<4->cs[off+i]? =some (.int .u8 (m i))):Calls prog 284 #[.slice (some ⟨b,off,none⟩) n c] w (aP w (u32 (Vh m 0))):=by
 have xO:¬Gh.no.M b:=λh=>h;refine ef 9 func284 ntmps284 ?_;refine rv rfl rfl rfl (eL (h:=4) underlying106 sizeOf5 rfl ⟨_,_,rfl,rfl⟩ aa) ?_;refine B 5 ?_;refine CJ.lp (α:=Nat) [6,7] (λj=>[(2,u32 (AJ m j)),(8,ab (j:Int))]) (λj=>[]) (λj=>j<=4) (λj=>4-j) 0 zA ?_;rintro j hj;refine aG 6 ?_ ?_
 ·intro av;refine B 7 ?_;refine rv rfl rfl rfl (ar (v:=.int .u8 (m j)) isAgg5 rfl A0 hb0 xO trivial (by rw[<-hm j aa];exact congrArg (λi=>cs[i]?) aa)) ?_;refine B 5 ?_;refine rv rfl rfl rfl (D2 8 zA rfl rfl rfl) ?_;refine B 1 ?_;refine rv rfl rfl rfl (Qq underlying5 underlying303 rfl) ?_;refine rv rfl rfl rfl (AI rfl rfl) ?_;refine B 8 ?_;exact J1
 intro av;refine B 12 ?_;refine aK results284 rfl A0 ?_;have e:j=4:=by omega
 subst e;exact congrArg u32 (J3 m)
def uX (cs:Array Value) (off len:Nat) (n:Nat):Nat->Array Value
 |0=>cs
 |i+1=>setCells (uX cs off len n i) (off+(len-1-i)) [.int .u8 ((n/2^(8*i)%256:Nat):Int)]
theorem nYp(cs:Array Value)(off len n:Nat):∀i,(uX cs off len n i).size=cs.size:=
 by intro x;induction x<;>(intros;grind [uX,nke])
theorem XG(n i:Nat)(k:Int)(hk:k=((8*i:Nat):Int))(hi:i<=7):(n:Int).fdiv (2^(min (Int.toNat k) IntKind.u64.bits))%256=((n/2^(8*i)%256:Nat):Int):=by
 rw[Oj n (8*i) k hk aa];omega
theorem nqe(n:Nat)(b off len cap t:Nat)(cs:Array Value)(hlen:len<=8)(mq:off+len<=cs.size)(w:World)(hb:w.heap[b]? =some (oC cs t)):Calls prog 234 #[.slice (some ⟨b,off,none⟩) len cap,.int .u64 (n:Int)] w (J0 w (.tuple #[]) b (oC (uX cs off len n len) t)):=by
 refine nB Gh.no [(b,_)] (vs:=[_,_]) func234 rfl ntmps234 rfl (nom hb) ?_;refine B 8 ?_;refine CJ.lp (α:=Nat) [0,1,6] (λj=>[(7,ab (j:Int))]) (λj=>[(b,oC (uX cs off len n j) t)]) (λj=>j<=len) (λj=>len-j) 0 (cY _) ?_;rintro j hj;refine aG 6 ?_ ?_
 ·intro av;refine B 20 ?_;refine rv rfl rfl rfl (mB rfl rfl aa) ?_;refine rq (.int .u8 ((n/2^(8*j)%256:Nat):Int)) (pw underlying233 underlying5 rfl) (congrArg (Value.int .u8) (XG n j _ aa aa)) ?_;refine rq (ptr b (off+(len-1-j))) (bK underlying106 sizeOf5 rfl rfl aa aa) (congrArg (λk=>ptr b (off+k)) aa) ?_;refine kT (i:=0) rfl sizeOf5 rfl rfl rfl rfl (by rw[nYp];omega) rfl ?_;refine B 7 ?_;exact J1
 intro av;refine B 4 ?_;have e:j=len:=by omega
 subst e;refine bQ (.inr rfl) results234 bB (λW hS=>⟨rfl,(hS.links w A0).mono λk _ hk=>?_,hS.own _ A0⟩);simpa[Gh.no]using hk
theorem Oq(n:Nat)(f:Nat->Value)(i k:Nat)(h:k=i)(hi:i<n):(cf n f)[k]? =some (f i):=by subst h;exact Ot n f k hi
theorem S8.cells_ld(s:S8)(i k:Nat)(h:k=i)(hi:i<8):s.cells[k]? =some (u32 (s.at i)):=by subst h;exact s.cells_at k hi
theorem D3(m:Nat->Int)(j:Nat)(v:BitVec 32)(hv:v=if j<16 then Vh m (4*j)else gA m j (j-16)+s0 (gA m j (j-15))+gA m j (j-7)+s1 (gA m j (j-2))):setCells (cf 64 (λi=>u32 (gA m j i))) j (u32 v).cells.toList=cf 64 (λi=>u32 (gA m (j+1) i)):=by
 show setCells (cf 64 (λi=>u32 (gA m j i))) j [u32 v]=_;rw[XH];congr 1;funext i;simp only[gA,J4];split<;>simp_all
def tw (s v:S8) (j:Nat):Array Value:=cf 8 (λk=>u32 (if k<j then s.at k+v.at k else s.at k))
theorem nZp(s v:S8)(j:Nat):setCells (tw s v j) j (u32 (s.at j+v.at j)).cells.toList=tw s v (j+1):=by
 show setCells (cf 8 _) j [u32 (s.at j+v.at j)]=_;rw[XH];unfold tw;congr 1;all_goals grind [J4]
theorem Qr(s v:S8):tw s v 8=(s.add v).cells:=rfl
theorem J5(s v:S8)(j k:Nat)(h:k=j)(hj:j<8):(tw s v j)[k]? =some (u32 (s.at j)):=by
 rw[tw,Oq 8 _ j k h hj];simp
theorem nne(s:S8)(m:Nat->Int)(b bb off n c t:Nat)(fr ra:Nat×Nat)(t3:Nat)(cs:Array Value)(hn:64<=n)(hc:n<=c)(w:World)(hb:w.heap[b]? =some (oC s.cells 374))(AK:w.heap[bb]? =some (.cells cs t fr))(hm:∀i,i<64->cs[off+i]? =some (.int .u8 (m i)))(hne:bb≠b)(hg:w.heap[5]? =some (.cells (cf 64 (λi=>u32 (kk i))) t3 ra))(C0:b≠5):Calls prog 233 #[ptr b 0,.slice (some ⟨bb,off,none⟩) n c] w (J0 w (.tuple #[]) b (oC (s.comp m).cells 374)):=by
 have XI:=(bA.1 AK).1;have jr:=(bA.1 hb).1;have Qs:=(bA.1 hg).1;refine nB Gh.no [(b,_)] (vs:=[_,_]) func233 rfl ntmps233 rfl (nom hb) ?_;refine bH 3 ?_;intro b4 iT iU;refine B 9 ?_;refine CJ.lp (α:=Nat) [0,1,4] (λj=>[(14,ab (j:Int))]) (λj=>[(b4,oC (cf 64 (λi=>u32 (gA m j i))) 426),(b,oC s.cells 374)]) (λj=>j<=16) (λj=>16-j) 0 zA ?_;rintro j hj;refine aG 6 ?_ ?_
 ·intro av;refine B 15 ?_;refine rv rfl rfl rfl (gu (l:=4*j) (h:=n) (off':=off+4*j) underlying106 sizeOf5 rfl ⟨_,_,rfl,by omega⟩ rfl aa aa zDc) ?_;refine call call284 rfl rfl rfl (λW hS=>nfn (λi=>m (4*j+i)) _ _ _ _ _ _ _ aa aa W (hS.old A0 AK zI zz) (λi hi=>by rw[Nat.add_assoc];exact hm _ aa)) ?_;refine z3d ?_;refine B 7 ?_;refine PJ.reH (H':=[(b4,oC (cf 64 (λi=>u32 (gA m (j+1) i))) 426),(b,oC s.cells 374)]) (by rw[<-D3 m j (Vh (λi=>m (4*j+i)) 0) (by rw[if_pos aa];rfl)];rfl) ?_;exact J1
 intro av;refine B 12 ?_;have e:j=16:=by omega
 subst e;refine CJ.lp (α:=Nat) [0,4] (λj=>[(6,ab (j:Int))]) (λj=>[(b4,oC (cf 64 (λi=>u32 (gA m j i))) 426),(b,oC s.cells 374)]) (λj=>16<=j/\j<=64) (λj=>64-j) 16 zA ?_;rintro j ⟨Vi,hj⟩;refine aG 7 ?_ ?_
 ·intro aR;refine B 5 ?_;refine eA 9 (pb:=by exact zU 3 (k:=by exact aJ (X.v (bU (v:=u32 (gA m j (j-15))) (i:=0) rfl isAgg303 rfl (Oq 64 (λi=>u32 (gA m j i)) (j-15) _ aa aa))) (zU 3 (k:=by exact aJ (X.v (bU (v:=u32 (gA m j (j-2))) (i:=0) rfl isAgg303 rfl (Oq 64 (λi=>u32 (gA m j i)) (j-2) _ aa aa))) zT)))) (k:=?_);refine B 3 ?_;refine eA 28 (pb:=by exact zU 4 (k:=by exact aJ (X.v (bU (v:=u32 (gA m j (j-16))) (i:=0) rfl isAgg303 rfl (Oq 64 (λi=>u32 (gA m j i)) (j-16) _ aa aa))) (zU 1 (k:=by exact aJ (nf call285 rfl rfl (λW hS _=>Qp _ 7 zA zA W) (λ_=>rfl)) (zU 1 (k:=by exact aJ (nf call285 rfl rfl (λW hS _=>Qp _ 18 zA zA W) (λ_=>rfl)) (aJ (X.v (lg rfl rfl)) (zU 1 (k:=by exact aJ (X.v (yK 3 zA rfl rfl rfl)) (aJ (X.v (lg rfl rfl)) (aJ (X.v (jt rfl rfl)) (zU 3 (k:=by exact aJ (X.v (bU (v:=u32 (gA m j (j-7))) (i:=0) rfl isAgg303 rfl (Oq 64 (λi=>u32 (gA m j i)) (j-7) _ aa aa))) (aJ (X.v (jt rfl rfl)) (zU 1 (k:=by exact aJ (nf call285 rfl rfl (λW hS _=>Qp _ 17 zA zA W) (λ_=>rfl)) (zU 1 (k:=by exact aJ (nf call285 rfl rfl (λW hS _=>Qp _ 19 zA zA W) (λ_=>rfl)) (aJ (X.v (lg rfl rfl)) (zU 1 (k:=by exact aJ (X.v (yK 10 zA rfl rfl rfl)) (aJ (X.v (lg rfl rfl)) (aJ (X.v (jt rfl rfl)) (rf rfl)))))))))))))))))))))))) (k:=?_)
  refine z3d ?_;refine B 8 ?_;refine PJ.reH (H':=[(b4,oC (cf 64 (λi=>u32 (gA m (j+1) i))) 426),(b,oC s.cells 374)]) (by rw[<-D3 m j _ XJ];rfl) ?_;exact J1
 intro aR;refine bH 11 ?_;intro b9 xP uj;refine B 10 ?_;have e:j=64:=by omega
 subst e;obtain⟨ws,hX⟩:∃ws,ws=gA m 64:=⟨_,rfl⟩;refine CJ.reH (H':=[(b9,oC s.cells 374),(b4,oC (cf 64 (λi=>u32 (ws i))) 426),(b,oC s.cells 374)]) (by rw[hX];rfl) ?_;refine CJ.lp (α:=Nat) [0,4,9] (λj=>[(69,ab (j:Int))]) (λj=>[(b9,oC (S8.run ws s j).cells 374),(b4,oC (cf 64 (λi=>u32 (ws i))) 426),(b,oC s.cells 374)]) (λj=>j<=64) (λj=>64-j) 0 zA ?_;rintro j hj;dsimp only;generalize hv:S8.run ws s j=v;refine aG 6 ?_ ?_
 ·intro dm;refine B 11 ?_;refine eA 25 (pb:=by exact zU 4 (k:=by exact aJ (nf call286 rfl rfl (λW hS _=>nCf _ 6 11 25 zA zA zA zA zA zA W) (λ_=>rfl)) (aJ (X.v (jt rfl rfl)) (zU 8 (k:=by exact aJ (X.v (lg rfl rfl)) (aJ (X.v (yM rfl rfl)) (aJ (X.v (lg rfl rfl)) (aJ (X.v (jt rfl rfl)) (zU 2 (k:=by exact aJ (X.v (ar (v:=u32 (kk j)) isAgg303 rfl A0 hg zI zz (Oq 64 (λi=>u32 (kk i)) j _ aa aa))) (aJ (X.v (jt rfl rfl)) (zU 2 (k:=by exact aJ (X.v (bU (v:=u32 (ws j)) (i:=1) rfl isAgg303 rfl (Oq 64 (λi=>u32 (ws i)) j _ aa aa))) (rf rfl)))))))))))))) (k:=?_);refine rv rfl rfl rfl (jt rfl rfl) ?_;refine B 4 ?_;refine eA 17 (pb:=by exact zU 2 (k:=by exact aJ (nf call286 rfl rfl (λW hS _=>nCf _ 2 13 22 zA zA zA zA zA zA W) (λ_=>rfl)) (zU 4 (k:=by exact aJ (X.v (yM rfl rfl)) (zU 6 (k:=by exact aJ (X.v (AI rfl rfl)) (aJ (X.v (yM rfl rfl)) (aJ (X.v (AI rfl rfl)) (rf rfl))))))))) (k:=?_);refine rv rfl rfl rfl (jt rfl rfl) ?_;refine B 4 ?_;refine eA 2 (pb:=by exact aJ (X.v (D4 (l:=1) underlying374 sizeOf303 rfl ⟨_,_,rfl,rfl⟩ rfl aa aa XJ)) (aJ (X.v (fY (h:=7) underlying374 sizeOf303 rfl ⟨_,_,rfl,rfl⟩ aa)) (rf rfl))) (k:=?_);refine Vj (i:=0) (n:=7) rfl underlying430 sizeOf303 rfl rfl rfl rfl (λ_=>rfl) zA (Rd.own (i:=0) rfl (eh rfl) rfl) (eh rfl) rfl ?_
  refine B 3 ?_;refine CJ.reH (H':=[(b9,oC #[u32 v.a,u32 v.a,u32 v.b,u32 v.c,u32 v.d,u32 v.e,u32 v.f,u32 v.g] 374),(b4,oC (cf 64 (λi=>u32 (ws i))) 426),(b,oC s.cells 374)]) rfl ?_;refine B 4 ?_;refine zZf ?_;refine B 5 ?_;refine zZf ?_;refine B 7 ?_;refine PJ.reH (H':=[(b9,oC (S8.run ws s (j+1)).cells 374),(b4,oC (cf 64 (λi=>u32 (ws i))) 426),(b,oC s.cells 374)]) (by simp only[S8.run,hv,S8.step,S8.P,S8.Q,<-J6,<-J7];rfl) ?_;exact J1
 intro dm;refine B 11 ?_;have e:j=64:=by omega
 subst e;refine CJ.lp (α:=Nat) [0,9] (λj=>[(129,ab (j:Int))]) (λj=>[(b9,oC v.cells 374),(b4,oC (cf 64 (λi=>u32 (ws i))) 426),(b,oC (tw s v j) 374)]) (λj=>j<=8) (λj=>8-j) 0 zA ?_;rintro j hj;refine aG 6 ?_ ?_
 ·intro je;refine B 10 ?_;refine eA 10 (pb:=by exact zU 4 (k:=by exact aJ (X.v (bU (v:=u32 (s.at j)) (i:=2) rfl isAgg303 rfl (J5 s v j _ aa aa))) (zU 2 (k:=by exact aJ (X.v (bU (v:=u32 (v.at j)) (i:=0) rfl isAgg303 rfl (S8.cells_ld _ j _ aa aa))) (aJ (X.v (jt rfl rfl)) zT))))) (k:=?_);refine rq (ptr b j) (uY underlying374 sizeOf303 rfl rfl aa aa) (congrArg (ptr b) aa) ?_;refine kT (i:=2) rfl sizeOf303 rfl rfl rfl rfl (by rw[tw,D5];omega) rfl ?_;refine B 7 ?_;refine PJ.reH (H':=[(b9,oC v.cells 374),(b4,oC (cf 64 (λi=>u32 (ws i))) 426),(b,oC (tw s v (j+1)) 374)]) (by rw[<-nZp];rfl) ?_;exact J1
 intro je;refine B 4 ?_;have e:j=8:=by omega
 subst e;rw[show(s.comp m).cells=tw s v 8 from by rw[Qr,S8.comp,<-hX,hv]];refine bQ (.inr rfl) results233 bB (λW hS=>⟨rfl,(hS.links w A0).mono λk hk hx=>?_,hS.own _ A2⟩);simp only[Gh.no,dL,ft,cd,dV,or_false,false_or]at hx;omega
theorem Vk:prog.info? 5=some Tryz.t5:=by kernel_rfl
theorem D6(N:Nat)(g:Nat->Value):∀(news:List Value) (f:Nat->Value) (off:Nat),(∀i,i<news.length->news[i]? =some (g (off+i)))->setCells (cf N f) off news=cf N (λi=>if off<=i/\i<off+news.length then g i else f i)
 | [],f,off,_=>by
  show cf N f=_;apply Vl;intro i _;rw[if_neg (by simp only[fO];omega)]
 |v::vs,f,off,h=>by
  have h0:=h 0 zJ;simp only[J8,wK,Nat.add_zero]at h0;show setCells (setCells (cf N f) off [v]) (off+1) vs=_;rw[XH,D6 N g vs _ (off+1) (λi hi=>by
   have:=h (i+1) mV;simp only[Jd]at this;rw[this];congr 2;omega)]
  apply Vl;intro i _;simp only[dO,J4];by_cases h1:i=off
  ·subst h1;rw[if_neg aa,if_pos rfl,if_pos aa,h0]
  by_cases h2:off+1<=i/\i<off+1+vs.length
  ·rw[if_pos h2,if_pos aa]
  rw[if_neg h2,if_neg h1,if_neg aa]
theorem n5j(N:Nat)(f:Nat->Value)(off len n:Nat):∀k,k<=len->uX (cf N f) off len n k=cf N (λi=>if off+(len-k)<=i/\i<off+len then .int .u8 ((n/2^(8*(off+len-1-i))%256:Nat):Int)else f i)
 |0,_=>by
  show cf N f=_;apply Vl;intro i _;rw[if_neg aa]
 |k+1,hk=>by
  rw[uX,n5j N f off len n k aa,XH];apply Vl;intro i _;simp only[J4];by_cases h1:i=off+(len-1-k)
  ·rw[if_pos h1,if_pos aa,show off+len-1-i=k by omega]
  rw[if_neg h1];by_cases h2:off+(len-k)<=i/\i<off+len
  ·rw[if_pos h2,if_pos aa]
  rw[if_neg h2,if_neg aa]
theorem XK(f:Nat->Int):cf 32 (λk=>.int .u8 (f k))=dg f:=rfl
theorem nJn{cs:Array Value}{o r:Nat}{m:Nat->Int}(h:o+r<=cs.size)(hm:∀i,i<r->cs[o+i]? =some (.int .u8 (m i))):∀i,i<((cs.toList.drop o).take (r*1)).length->((cs.toList.drop o).take (r*1))[i]? =some (.int .u8 (m i)):=by grind
theorem nyi{cs:Array Value}{o r:Nat}(h:o+r<=cs.size):((cs.toList.drop o).take (r*1)).length=r:=by simp;omega
theorem nmo{m:Nat->Int}:∀(l:List Value),(∀i,i<l.length->l[i]? =some (.int .u8 (m i)))->bD l=true
 | [],_=>rfl
 |v::l,h=>by
  have h0:=h 0 zJ;simp at h0;subst h0;simp only[bD,yN,Bool.true_and];exact nmo (m:=λi=>m (i+1)) l λi hi=>by have:=h (i+1) mV;simpa using this
def rK (n:Nat) (m:Nat->Int) (j N i:Nat):Value:=if(N-8)+(8-8)<=i/\i<(N-8)+8 then .int .u8 ((8*n/2^(8*((N-8)+8-1-i))%256:Nat):Int)else J4 (λi=>if 0<=i/\i<0+(n-64*j)then .int .u8 (m (64*j+i))else C1) (n-64*j) (.int .u8 128) i
theorem nPm(n:Nat)(m:Nat->Int)(j N:Nat):uX (setCells (cf 128 (λi=>if 0<=i/\i<0+(n-64*j)then .int .u8 (m (64*j+i))else C1)) (n-64*j) [.int .u8 128]) (N-8) 8 (8*n) 8=cf 128 (rK n m j N):=by
 rw[XH,n5j 128 _ _ 8 _ 8 (aj _)];rfl
theorem nIl(n:Nat)(m:Nat->Int)(j N i:Nat)(hj:64*j<=n)(hN:64*(ij n-j)=N)(hr:n-64*j<64)(hi:i<N):rK n m j N i= .int .u8 (yO n m (64*j+i)):=by grind [ij,rK,yO,J4]
def lh (s:S8) (i:Nat):Array Value:=cf 32 (λk=>.int .u8 (if k<4*i then D7 s k else 0))
theorem nUk(s:S8)(i:Nat)(hi:i<8):uX (lh s i) (4*i) 4 (s.at i).toNat 4=lh s (i+1):=by
 unfold lh;rw[n5j 32 _ (4*i) 4 _ 4 (aj _)];apply Vl;all_goals grind [D7]
theorem Qt(s:S8):lh s 8=dg (D7 s):=by grind [XK,lh,Vl]
theorem J9(n:Nat)(m:Nat->Int)(i:Nat)(h:i<n):yO n m i=m i:=by unfold yO;rw[if_pos h]
theorem n9f(n:Nat)(m:Nat->Int)(bb off c t t2 t3:Nat)(fr xQ ra:Nat×Nat)(cs:Array Value)(hc:n<=c)(hn:n<1152921504606846976)(w:World)(AK:w.heap[bb]? =some (.cells cs t fr))(mW:off+n<=cs.size)(hm:∀i,i<n->cs[off+i]? =some (.int .u8 (m i)))(hg2:w.heap[3]? =some (.cells S8.init.cells t2 xQ))(hg:w.heap[5]? =some (.cells (cf 64 (λi=>u32 (kk i))) t3 ra)):Calls prog 164 #[.slice (some ⟨bb,off,none⟩) n c] w (aP w (.agg (dg (vZ n m)))):=by
 have XI:=(bA.1 AK).1;have agM:=(bA.1 hg2).1;have Qs:=(bA.1 hg).1;refine eN func164 ntmps164 ?_;refine bH 3 ?_;intro b2 dJ dH;refine bH 6 ?_;intro b3 eC ff;refine B 5 ?_;refine XL ?_;refine B 11 ?_;refine CJ.loop (α:=Nat×Nat) (λp=>[(0,.slice (some ⟨bb,off,none⟩) n c),(2,ptr b2 0),(3,ptr b3 0),(4,.func (.func 233) #[ptr b3 0] #[]),(5,.slice (some ⟨bb,p.2,none⟩) (n-64*p.1) (c-64*p.1))]) (λp=>[(b3,oC (tz n m p.1).cells 374),(b2,oC (um []).toArray 33)]) (λp=>[w]) (λp=>Gh.no) (λp=>64*p.1<=n/\(64*p.1<c->p.2=off+64*p.1)/\p.2<=off+64*p.1) (λp=>n-64*p.1) (0,off) zW zR rfl rfl zJ ?_;rintro⟨j,o⟩ ⟨hj,ho,jK⟩;dsimp only at hj ho jK ⊢;refine aG 8 ?_ ?_
 ·intro av;refine zLf ?_;refine XC (f:=233) (i:=0) (first:=[ptr b3 0]) (cap:=[]) rfl rfl call233 rfl rfl rfl (λW hS hW=>nne (tz n m j) (λi=>yO n m (64*j+i)) b3 bb o 64 (c-64*j) t fr ra t3 cs aa aa W hW (hS.old A0 AK zI zz) (λi hi=>by rw[J9 n m _ aa,<-hm _ aa];exact congrArg (λk=>cs[k]?) (by have:=ho aa;omega)) aa (hS.old A0 hg zI zz) aa) ?_;refine B 5 ?_;refine rv rfl rfl rfl (gu (l:=64) (h:=n-64*j) underlying106 sizeOf5 rfl ⟨_,_,rfl,rfl⟩ rfl aa aa rfl) ?_;refine B 2 ?_;refine PJ.again (j+1,if c-64*j=64 then o else o+64*1) (by dsimp only;split<;>omega) zW ⟨rfl,rfl,rfl,rfl,by rw[show n-64*(j+1)=n-64*j-64 by omega,show c-64*(j+1)=c-64*j-64 by omega];rfl,trivial⟩ rfl rfl zJ
 intro av;refine B 7 ?_;refine XM (ln:=64) (cp:=128) underlying106 Vk rfl rfl rfl rfl rfl rfl rfl aa zA aa ?_;refine yW ?_;intro rL D8 Qu;refine B 4 ?_;have hmr:∀i,i<n-64*j->cs[o+i]? =some (.int .u8 (m (64*j+i))):=λi hi=>by rw[<-hm _ aa];exact congrArg (λk=>cs[k]?) (by have:=ho aa;omega)
 refine B 3 ?_;refine Vj (i:=0) (n:=n-64*j) rfl underlying106 sizeOf5 rfl rfl rfl rfl (λ_=>rfl) aa (Rd.old A0 AK zI zz aa rfl) (by rw[nyi aa,D5];omega) (nmo _ (nJn (m:=λi=>m (64*j+i)) aa hmr)) ?_;refine B 3 ?_;refine CJ.reH (H':=[(rL,oC (cf 128 (λi=>if 0<=i/\i<0+(n-64*j)then .int .u8 (m (64*j+i))else C1)) 5),(b3,oC (tz n m j).cells 374),(b2,oC (um []).toArray 33)]) (by rw[<-nyi (cs:=cs) (o:=o) (r:=n-64*j) aa,<-D6 128 (λi=>.int .u8 (m (64*j+i))) _ _ 0 (by intro i hi;rw[mr];exact nJn (m:=λi=>m (64*j+i)) aa hmr i hi),nyi aa];rfl) ?_;refine B 4 ?_;refine rq (ptr rL (n-64*j)) (bK underlying106 sizeOf5 rfl rfl aa aa) (congrArg (ptr rL) aa) ?_;refine kT (i:=0) rfl sizeOf5 rfl rfl rfl rfl (by rw[D5];omega) rfl ?_;refine aG 10 ?_ ?_
 ·intro aR;refine B 2 ?_;refine rv rfl rfl rfl (eL (h:=128) underlying106 sizeOf5 rfl ⟨_,_,rfl,rfl⟩ aa) ?_;refine B 4 ?_;obtain⟨N,hN,hNN⟩:∃N,N=128/\64*(ij n-j)=N:=⟨128,rfl,by unfold ij;omega⟩;refine B 5 ?_;refine rv rfl rfl rfl (gu (l:=120) (h:=128) (off':=120) underlying106 sizeOf5 rfl ⟨_,_,rfl,rfl⟩ rfl aa aa rfl) ?_;refine B 3 ?_;refine zId ?_;refine OJ.reH (H':=[(rL,oC (cf 128 (rK n m j N)) 5),(b3,oC (tz n m j).cells 374),(b2,oC (um []).toArray 33)]) (by subst hN;rw[<-nPm];rfl) ?_;refine B 4 ?_;refine CJ.loop (α:=Nat×Nat) (λp=>[(2,ptr b2 0),(3,ptr b3 0),(4,.func (.func 233) #[ptr b3 0] #[]),(6,.slice (some ⟨rL,p.2,none⟩) (N-64*p.1) (128-64*p.1))]) (λp=>[(rL,oC (cf 128 (rK n m j N)) 5),(b3,oC (tz n m (j+p.1)).cells 374),(b2,oC (um []).toArray 33)]) (λp=>[w]) (λp=>Gh.no) (λp=>64*p.1<=N/\(64*p.1<128->p.2=64*p.1)) (λp=>N-64*p.1) (0,0) zW ⟨rfl,rfl,rfl,by subst hN;rfl,trivial⟩ rfl rfl zJ ?_;rintro⟨k,o2⟩ ⟨hk,dH⟩;dsimp only at hk dH ⊢;refine aG 8 ?_ ?_
  ·intro dm;exact zIg
  intro dm;refine B 13 ?_;have hjk:j+k=ij n:=by unfold ij at *;omega
  rw[hjk];refine zEd ?_;rintro i hi;refine aG 6 ?_ ?_
  ·intro je;refine zTf ?_;refine ag (i+1) aa
  intro je;exact zXg
 intro aR;refine B 3 ?_;obtain⟨N,hN,hNN⟩:∃N,N=64/\64*(ij n-j)=N:=⟨64,rfl,by unfold ij;omega⟩;refine B 5 ?_;refine rv rfl rfl rfl (gu (l:=56) (h:=64) (off':=56) underlying106 sizeOf5 rfl ⟨_,_,rfl,rfl⟩ rfl aa aa rfl) ?_;refine B 3 ?_;refine zId ?_;refine OJ.reH (H':=[(rL,oC (cf 128 (rK n m j N)) 5),(b3,oC (tz n m j).cells 374),(b2,oC (um []).toArray 33)]) (by subst hN;rw[<-nPm];rfl) ?_;refine B 4 ?_;refine CJ.loop (α:=Nat×Nat) (λp=>[(2,ptr b2 0),(3,ptr b3 0),(4,.func (.func 233) #[ptr b3 0] #[]),(6,.slice (some ⟨rL,p.2,none⟩) (N-64*p.1) (128-64*p.1))]) (λp=>[(rL,oC (cf 128 (rK n m j N)) 5),(b3,oC (tz n m (j+p.1)).cells 374),(b2,oC (um []).toArray 33)]) (λp=>[w]) (λp=>Gh.no) (λp=>64*p.1<=N/\(64*p.1<128->p.2=64*p.1)) (λp=>N-64*p.1) (0,0) zW ⟨rfl,rfl,rfl,by subst hN;rfl,trivial⟩ rfl rfl zJ ?_;rintro⟨k,o2⟩ ⟨hk,dH⟩;dsimp only at hk dH ⊢;refine aG 8 ?_ ?_
 ·intro ib;exact zIg
 intro ib;refine B 13 ?_;have hjk:j+k=ij n:=by unfold ij at *;omega
 rw[hjk];refine zEd ?_;rintro i hi;refine aG 6 ?_ ?_
 ·intro kX;refine zTf ?_;refine ag (i+1) aa
 intro kX;exact zXg
theorem D9(n:Nat)(h0:0<n)(h1:n<=1099511627776)(w:World):Calls prog 235 #[ak,ab (n:Int)] w (cZ w (λp:Nat×Nat=>.slice (ao p.1) 0 p.2) (λp w1=>w.heap.size<=p.1/\n<=p.2/\w1.heap[p.1]? =some (oC (cf p.2 (λ_=>C1)) 5))):=by
 refine eN func235 ntmps235 ?_;refine aE 9 bG ?_;refine aE 14 (ab (n:Int)) ?_;refine aE 6 bZ ?_;refine B 7 ?_;refine rv rfl rfl rfl (XN underlying106 sizeOf5 rfl ⟨_,_,rfl,rfl⟩) ?_;refine B 1 ?_;refine XO underlying106 underlying3 Vk rfl rfl rfl rfl rfl rfl rfl rfl h0 h1 ?_;intro b22 cap Qv agO aoZ;replace Qv:=yb Qv;refine B 2 ?_;refine rv rfl rfl rfl (eL (h:=0) underlying106 sizeOf5 rfl ⟨_,_,rfl,rfl⟩ aa) ?_;refine B 10 ?_;exact bQ (.inl rfl) results235 bB (λW hS=>⟨(b22,cap),rfl,hS.base A0 C2,by omega,by omega,hS.own _ A0⟩)
def nwj (ss:List uo):Array Value:=(ss.map uo.val).toArray
theorem nhj(ss:List uo)(j k:Nat)(h:k=j)(hj:j<ss.length):(nwj ss)[k]? =some ss[j].val:=by subst h;simp[nwj,hj]
theorem ndh(ss:List uo)(b0 c0 t0:Nat)(fC:Nat×Nat)(hk:ss.length<1000)(h0:0<(nG ss).length)(h1:(nG ss).length<=1099511627776)(w:World)(hb0:w.heap[b0]? =some (.cells (nwj ss) t0 fC))(hss:∀s∈ss,s.At w):Calls prog 165 #[.slice (ao b0) ss.length c0] w (cZ w (λp:Nat×Nat×List Value=>.slice (ao p.1) (nG ss).length p.2.1) (λp w1=>w.heap.size<=p.1/\((nG ss).length<=p.2.1/\p.2.2.length=p.2.1-(nG ss).length)/\w1.heap[p.1]? =some (oC (nG ss++p.2.2).toArray 5))):=by
 have ao0:=(bA.1 hb0).1;refine ef 19 func165 ntmps165 ?_;refine CJ.loop (α:=Nat) (λj=>[(0,.slice (ao b0) ss.length c0),(3,ab (((nG (ss.take j)).length:Nat):Int)),(9,.slice (ao b0) ss.length c0),(10,ab (ss.length:Int)),(11,ab (j:Int))]) (λj=>[]) (λj=>[w]) (λj=>Gh.no) (λj=>j<=ss.length) (λj=>ss.length-j) 0 (cY _) zR rfl rfl zJ ?_;rintro j hj;have mw:=nDg ss (j+1);have Qw:∀h:j<ss.length,(nG (ss.take (j+1))).length=(nG (ss.take j)).length+(ss[j]).n:=λh=>by rw[ncg ss j h,cO];exact congrArg (_+ ·) (Ea _ _)
 refine aG 6 ?_ ?_
 ·intro av;refine B 5 ?_;have BT:j<ss.length:=by omega
  have agR:=Qw BT;refine B 2 ?_;refine rv rfl rfl rfl (ar (v:=(ss[j]'aa).val) isAgg106 rfl A0 hb0 zI trivial (nhj ss j _ aa aa)) ?_;refine aE 8 (ab (((nG (ss.take (j+1))).length:Nat):Int)) ?_;refine aE 6 bG ?_;refine B 10 ?_;exact J1
 intro av;refine B 6 ?_;have e:j=ss.length:=by omega
 subst e;rw[iz (aj _)];refine B 2 ?_;refine Qx (bo:=λp:Nat×Nat=>(p.1,oC (cf p.2 (λ_=>C1)) 5)) (Φ:=λp=>(nG ss).length<=p.2) call235 rfl rfl rfl (λW hS=>D9 _ h0 h1 W) ?_;rintro⟨bg,cg⟩ hag hog dE;simp only[ah]at hag dE;refine B 12 ?_;refine CJ.loop (α:=Nat×Nat×Nat×List Value) (λp=>[(6,.slice (ao p.2.1) (nG (ss.take p.1)).length p.2.2.1),(25,.slice (ao b0) ss.length c0),(26,ab (ss.length:Int)),(27,ab (p.1:Int))]) (λp=>[(p.2.1,oC (nG (ss.take p.1)++p.2.2.2).toArray 5)]) (λp=>[w]) (λp=>Gh.no) (λp=>p.1<=ss.length/\w.heap.size<=p.2.1/\(nG (ss.take p.1)).length<=p.2.2.1/\p.2.2.2.length=p.2.2.1-(nG (ss.take p.1)).length) (λp=>ss.length-p.1) (0,bg,cg,(List.range cg).map (λ_=>C1)) ⟨cY _,hag.1,cY _,by simp[nG]⟩ zR rfl rfl zJ ?_;rintro⟨j,b,cap,sp⟩ ⟨hj,h2,h3,h4⟩;dsimp only at hj h2 h3 h4 ⊢;have mw:=nDg ss (j+1);have Qw:∀h:j<ss.length,(nG (ss.take (j+1))).length=(nG (ss.take j)).length+(ss[j]).n:=λh=>by rw[ncg ss j h,cO];exact congrArg (_+ ·) (Ea _ _)
 refine aG 6 ?_ ?_
 ·intro aR;refine B 5 ?_;have BT:j<ss.length:=by omega
  have agR:=Qw BT;refine B 2 ?_;refine rv rfl rfl rfl (ar (v:=(ss[j]'aa).val) isAgg106 rfl A0 hb0 zI zz (nhj ss j _ aa aa)) ?_;refine B 3 ?_;obtain⟨csj,tj,frj,Vm,hso,hsm⟩:=hss (ss[j]'aa) (XP _);have ao1:=(bA.1 Vm).1;refine B 3 ?_;refine agS (i:=0) (m:=1) (ys:=nG (ss.take j)) (sp:=sp) (news:=(ss[j]'aa).l) (n:=(ss[j]'aa).n) rfl underlying106 Vk rfl rfl rfl rfl rfl rfl rfl (px.sl underlying106 (Rd.old A0 Vm zI zz aa (npk aa hsm)) (by rw[xR];exact Ea _ _) (Eb _ _)) aa aa h3 ⟨h2,trivial⟩ aa (by show _*1<=_;omega) ?_;intro b' aZ bY XQ XR kJ;simp only[ah]at XQ;refine B 8 ?_;refine PJ.reH (H':=[(b',oC (nG (ss.take (j+1))++bY).toArray 5)]) (by rw[ncg ss j aa];rfl) ?_;refine PJ.again (j+1,b',aZ,bY) ⟨by dsimp only;omega,XQ.1,by dsimp only;rw[Qw aa];exact XR,by dsimp only;rw[Qw aa];omega⟩ zW ⟨by rw[Qw aa];rfl,rfl,rfl,rfl,trivial⟩ rfl rfl zJ
 intro aR;refine B 12 ?_;have e:j=ss.length:=by omega
 subst e;rw[iz (aj _)]at h3 h4 ⊢;exact bQ (.inl rfl) results165 bB (λW hS=>⟨(b,cap,sp),rfl,hS.base A0 C2,h2,⟨h3,h4⟩,hS.own _ A0⟩)
def yP (n:Nat) (m m':Nat->Int) (i:Nat):Int:=if i<n then m i else m' (i-n)
theorem nRk(n n':Nat)(m m':Nat->Int):lP n m++lP n' m'=lP (n+n') (yP n m m'):=by
 apply C3;all_goals grind [Ea,lP,yP]
theorem nio(n:Nat)(m:Nat->Int)(sp:List Value)(i:Nat)(h:i<n):((lP n m++sp).toArray)[0+i]? =some (.int .u8 (m i)):=by grind [Ea,lP]
def tagged (s:ByteArray) (n:Nat) (m:Nat->Int):Nat->Int:=vZ (32+n) (yP 32 (vZ s.size (sB s)) m)
theorem npe(s:ByteArray)(n:Nat)(m:Nat->Int)(bb off c t t2 t3:Nat)(fr xQ ra:Nat×Nat)(cs:Array Value)(hs0:s.size<1000)(hc:n<=c)(hn:n<1000000000000)(w:World)(AK:w.heap[bb]? =some (.cells cs t fr))(mW:off+n<=cs.size)(hm:∀i,i<n->cs[off+i]? =some (.int .u8 (m i)))(hg2:w.heap[3]? =some (.cells S8.init.cells t2 xQ))(hg:w.heap[5]? =some (.cells (cf 64 (λi=>u32 (kk i))) t3 ra)):Calls prog 87 #[.string s,.slice (some ⟨bb,off,none⟩) n c] w (aP w (.agg (dg (tagged s n m)))):=by
 have XI:=(bA.1 AK).1;have agM:=(bA.1 hg2).1;have Qs:=(bA.1 hg).1;refine eN func87 ntmps87 ?_;refine bH 3 ?_;intro b4 iT iU;refine B 5 ?_;refine Ou underlying9 underlying106 underlying5 rfl rfl rfl ?_;intro b7 agV w7 cs7 fr7 Qy kh v7 Vn hz7 jW ao2 hs7;replace kh:=yb kh;try simp only[bM,ne_eq]at v7
 refine call call164 rfl rfl rfl (λW hS=>n9f s.size (sB s) b7 0 agV _ _ _ _ _ _ cs7 aa aa W (hS.old A0 Qy Vn zz) aa hs7 (hS.old A1 hg2 zI zz) (hS.old A1 hg zI zz)) ?_;refine bH 1 ?_;intro b5 rF rG;refine B 4 ?_;have aH:(nG [⟨b5,0,32,32,vZ s.size (sB s)⟩,⟨bb,off,n,c,m⟩]).length=32+n:=by simp[nG,uo.l,Ea]
 have XS:∀W,W.heap[b5]? =some (oC (dg (vZ s.size (sB s))) 33)->W.heap[bb]? =some (.cells cs t fr)->∀x∈([⟨b5,0,32,32,vZ s.size (sB s)⟩,⟨bb,off,n,c,m⟩]:List uo),x.At W:=λW h1 h2 x hx=>by
  simp only[cd,dV,or_false]at hx;rcases hx with rfl|rfl
  ·exact⟨_,_,_,h1,aj 32,λi hi=>by rw[mr];exact rI _ i hi⟩
  exact⟨_,_,_,h2,mW,hm⟩
 refine B 1 ?_;refine zye ?_;refine B 1 ?_;refine rM underlying377 sizeOf106 zeroValue106 rfl rfl rfl rfl rfl rfl rfl ?_;refine yV ?_;intro gB XT Ka Kb XU uZ yQ;refine Qx (bo:=λp:Nat×Nat×List Value=>(p.1,oC (nG [⟨b5,0,32,32,vZ s.size (sB s)⟩,⟨bb,off,n,c,m⟩]++p.2.2).toArray 5)) (Φ:=λp=>(nG [⟨b5,0,32,32,vZ s.size (sB s)⟩,⟨bb,off,n,c,m⟩]).length<=p.2.1/\p.2.2.length=p.2.1-(nG [⟨b5,0,32,32,vZ s.size (sB s)⟩,⟨bb,off,n,c,m⟩]).length) call165 rfl rfl rfl (λW hS=>ndh [⟨b5,0,32,32,vZ s.size (sB s)⟩,⟨bb,off,n,c,m⟩] gB 2 _ _ zJ (by rw[aH];omega) (by rw[aH];omega) W (hS.old A0 Ka Kb zz) (XS W (hS.own _ A0) (hS.old A2 AK zI zz))) ?_;rintro⟨bc,cc,spc⟩ XV hoc ⟨Kc,Ec⟩;replace XV:=yb XV;dsimp only at Kc Ec;rw[aH]at Kc Ec;refine OJ.re (v':=.slice (ao bc) (32+n) cc) (by show Value.slice _ (nG _).length _=_;rw[aH]) ?_;refine OJ.reH (H':=[(bc,oC (lP (32+n) (yP 32 (vZ s.size (sB s)) m)++spc).toArray 5),(b5,oC (dg (vZ s.size (sB s))) 33),(b4,oC (um []).toArray 33)]) (by rw[<-nRk];simp only[nG,uo.l,ee];rfl) ?_;refine call call164 rfl rfl rfl (λW hS=>n9f (32+n) (yP 32 (vZ s.size (sB s)) m) bc 0 cc _ _ _ _ _ _ _ aa aa W (hS.own _ A0) (by simp only[rh,cO,Ea];omega) (λi hi=>nio _ _ _ i hi) (hS.old A2 hg2 zI zz) (hS.old A2 hg zI zz)) ?_
 refine B 4 ?_;refine cu (.inl rfl) results87 bB A2 zB ?_;rfl
def Ed (s:ByteArray) (n:Nat) (m:Nat->Int):Int:=1+Ja 2305843009213688668 (BQ (tagged s n m)) 0
theorem nug(s:ByteArray)(n:Nat)(m:Nat->Int):eu (tagged s n m):=nGn _ _
theorem nZm(s:ByteArray)(n:Nat)(m:Nat->Int)(bb off c t t2 t3:Nat)(fr xQ ra:Nat×Nat)(cs:Array Value)(hs0:s.size<1000)(hc:n<=c)(hn:n<1000000000000)(w:World)(AK:w.heap[bb]? =some (.cells cs t fr))(mW:off+n<=cs.size)(hm:∀i,i<n->cs[off+i]? =some (.int .u8 (m i)))(hg2:w.heap[3]? =some (.cells S8.init.cells t2 xQ))(hg:w.heap[5]? =some (.cells (cf 64 (λi=>u32 (kk i))) t3 ra)):Calls prog 195 #[.string s,.slice (some ⟨bb,off,none⟩) n c] w (aP w (ab (Ed s n m))):=by
 have hB:=nug s n m;have JV:=nci 2305843009213688668 zA (BQ (tagged s n m)) 0 zA zA;refine ef 9 func195 ntmps195 ?_;refine call call87 rfl rfl rfl (λW hS=>npe s n m bb off c _ _ _ _ _ _ cs hs0 hc hn W (hS.old A0 AK zI trivial) mW hm (hS.old A0 hg2 zI trivial) (hS.old A0 hg zI trivial)) ?_;refine call call258 rfl rfl rfl (λW hS=>nOo _ hB _ zA zA W) ?_;refine B 6 ?_;refine aK results195 rfl A0 ?_;rfl




theorem bt:AL prog 106 5:=⟨underlying106,underlying5,⟨_,Vk,rfl,rfl,rfl⟩,sizeOf5⟩
section
variable (n:Int)(h1: -9223372036854775808<=n)(h2:n<=9223372036854775807)
include h1 h2
theorem Qz:IntKind.u64.wrap (BitVec.ofInt 64 (IntKind.u64.wrap (IntKind.u64.wrap n*2))^^^BitVec.ofInt 64 (IntKind.u64.wrap (n/9223372036854775808))).toNat=(Kd n:Int):=by
 simp only[nD];unfold Kd;by_cases h:0<=n
 ·rw[if_pos h,show n/9223372036854775808=0 by omega];have:(0:Int)%18446744073709551616=0:=by decide
  rw[this,show n%18446744073709551616*2%18446744073709551616=2*n by omega];have e:BitVec.ofInt 64 0=0#64:=rfl;rw[e,BitVec.xor_zero,BitVec.toNat_ofInt];omega
 rw[if_neg h,show n/9223372036854775808= -1 by omega];have:(-1:Int)%18446744073709551616=18446744073709551615:=by decide
 rw[this,show n%18446744073709551616*2%18446744073709551616=2*n+18446744073709551616 by omega];have e:BitVec.ofInt 64 18446744073709551615=BitVec.allOnes 64:=by decide
 rw[e,BitVec.xor_allOnes,BitVec.toNat_not,BitVec.toNat_ofInt];omega
theorem Ee:Kd n<18446744073709551616:=by unfold Kd;split<;>omega
end
theorem XW(u:Nat):IntKind.u8.wrap (BitVec.ofInt IntKind.u8.bits ((u:Int)%256)|||BitVec.ofInt IntKind.u8.bits 128).toNat=((UInt8.ofNat (u%128+128)).toNat:Int):=by
 have key:∀v:BitVec 8,(v|||128#8).toNat=(v.toNat%128+128):=by decide
 have e:BitVec.ofInt IntKind.u8.bits 128=128#8:=rfl;rw[e];have e2:(BitVec.ofInt 8 ((u:Int)%256)).toNat=u%256:=by rw[BitVec.toNat_ofInt];omega
 have:=key (BitVec.ofInt 8 ((u:Int)%256));rw[e2]at this;show IntKind.u8.wrap (BitVec.ofInt 8 ((u:Int)%256)|||128#8).toNat=_;all_goals simp_all[nwl]
theorem Ke(u:Nat)(h:u<256):((u:Int)%256)=((UInt8.ofNat u).toNat:Int):=by
 simp only[UInt8.toNat_ofNat'];omega
theorem nBj(n:Int)(h1: -9223372036854775808<=n)(h2:n<=9223372036854775807)(w:World):Calls prog 230 #[ab n] w (aP w (.int .u64 (Kd n:Int))):=by
 refine ef 8 func230 ntmps230 ?_;refine rv rfl rfl rfl (kZ underlying3 underlying233 rfl) ?_;refine rv rfl rfl rfl (DT 1 2 zA rfl rfl rfl) ?_;refine B 1 ?_;refine rv rfl rfl rfl (jq 63 9223372036854775808 zA rfl rfl rfl) ?_;refine rv rfl rfl rfl (kZ underlying3 underlying233 rfl) ?_;refine rv rfl rfl rfl (yR rfl rfl) ?_;refine B 4 ?_;refine aK results230 rfl A0 ?_;exact vu (Qz n h1 h2)
theorem nad(xs:List UInt8)(u:Nat)(hu:u<18446744073709551616)(b cap:Nat)(sp:List Value)(u2:dR xs cap sp)(ju:xs.length<=900000000000)(w:World)(hb:w.heap[b]? =some (aU 5 xs sp)):Calls prog 229 #[bV b xs.length cap,.int .u64 (u:Int)] w (QA w b 5 (xs++num u)):=by
 have jr:=(bA.1 hb).1;have ao3:=C4 hu;refine nB (vs:=[_,_]) (Gh.lent (· =b)) [(b,aU 5 xs sp)] func229 rfl ntmps229 rfl (Ef hb) ?_;refine B 7 ?_;refine CJ.lp (α:=List UInt8×Nat×Nat×Nat×List Value) [] (λp=>[(0,bV p.2.2.1 p.1.length p.2.2.2.1),(1,.int .u64 (p.2.1:Int))]) (λp=>[(p.2.2.1,aU 5 p.1 p.2.2.2.2)]) (λp=>xs++num u=p.1++num p.2.1/\p.2.1<18446744073709551616/\Fr (Gh.lent (· =b)) [w] p.2.2.1/\dR p.1 p.2.2.2.1 p.2.2.2.2) (λp=>p.2.1) (xs,u,b,cap,sp) ⟨rfl,hu,.inl rfl,u2⟩ ?_;rintro⟨ys,v,b1,c1,sp1⟩ ⟨hinv,hv,hf,hr⟩;dsimp only at hinv hv hf hr ⊢;have AM:(ys++num v).length<=900000000010:=by rw[<-hinv,cO];omega
 have sS:=Kf v;rw[cO]at AM;refine aG 7 ?_ ?_
 ·intro av;refine B 7 ?_;refine rv rfl rfl rfl (pw underlying233 underlying5 rfl) ?_;refine rq (.int .u8 ((UInt8.ofNat (v%128+128)).toNat:Int)) (AG rfl rfl) (congrArg (Value.int .u8) (XW v)) ?_;refine QB [UInt8.ofNat (v%128+128)] bt zeroValue5 rfl rfl rfl rfl rfl rfl rfl rfl rfl ?_;intro Vo yS BU ao4 ao5;replace yS:=yb yS;replace BU:=yd BU;refine Ov (i:=1) (xs:=ys) (zs:=[UInt8.ofNat (v%128+128)]) (sp:=sp1) rfl bt rfl rfl rfl rfl (iE.own (i:=0) underlying106 rfl) hr hf BV ?_;intro eI c14 s14 XX agZ;have XY:=XX;replace XY:=ye XY;refine OJ.dropF (i:=0) rfl (.inr ⟨yS.1,trivial⟩) ?_;refine B 6 ?_;refine rq (.int .u64 ((v/128:Nat):Int)) (jq 7 128 zA rfl rfl rfl) (vu aa) ?_;refine B 2 ?_;refine ag (ys++[UInt8.ofNat (v%128+128)],v/128,eI,c14,s14) ⟨by dsimp only;rw[hinv,nYm aa,jh];rfl,by dsimp only;omega,XX,agZ⟩
 intro av;refine B 9 ?_;refine rq (.int .u8 ((UInt8.ofNat v).toNat:Int)) (pw underlying233 underlying5 rfl) (congrArg (Value.int .u8) (Ke v aa)) ?_;refine QB [UInt8.ofNat v] bt zeroValue5 rfl rfl rfl rfl rfl rfl rfl rfl rfl ?_;intro b18 BW QC ag1 XZ;replace BW:=yb BW;replace QC:=yd QC;refine Ov (i:=1) (xs:=ys) (zs:=[UInt8.ofNat v]) (sp:=sp1) rfl bt rfl rfl rfl rfl (iE.own (i:=0) underlying106 rfl) hr hf BV ?_;intro b19 c19 s19 X2 ag2;have X3:=X2;replace X3:=ye X3;refine OJ.dropF (i:=0) rfl (.inr ⟨BW.1,trivial⟩) ?_;refine B 4 ?_;rw[hinv,X4 aa];exact n5i (i:=0) (.inl rfl) results229 rfl rfl A0 (by simp only[mx,dx,ec,rO,wL,and_true];simp only[Fr,Gh.lent,ah]at X2;omega) ag2
variable {G:Gh} {H:ad} {L:List World}
theorem QD{C:Cx}{E:Env}{T U:Nat}{x y:Operand}(hx:ev E x=some (Vp))(hy:ev E y=some (Vp)):RV C G L H E (.binOp .eql T x y U) (bZ):=
 RV.re (yT hx hy) (vb zJ)
def Kg (N:Nat) (w:World) (base:Option Addr) (l:List V):Prop:=∀i (h:i<l.length),∃bl cs t fr,base=some ⟨bl,0,none⟩/\bl<N/\w.heap[bl]? =some (.cells cs t fr)/\4*i+4<=cs.size/\∃a1 a2 p3 n3 c3,cut cs (4*i) 4=#[ab (l[i]).kind,ab a1,.string a2,.slice p3 n3 c3]/\fu N w l[i] (.agg #[ab (l[i]).kind,ab a1,.string a2,.slice p3 n3 c3])
variable {w:World}
theorem fu.list{N:Nat}{l:List V}{v:Value}(h:fu N w (.list l) v):∃base cap,v=vL base l.length cap/\l.length<=cap/\Kg N w base l:=by
 simp only[fu]at h;obtain⟨base,cap,hv,hc,hl⟩:=h;refine⟨base,cap,hv,hc,λi hi=>?_⟩;rcases hl with rfl|⟨b,cs,t,fr,hb,hlt,bW,hs⟩
 ·simp at hi
 obtain⟨h1,h2⟩:=hs.get i hi;rw[mr]at h1 h2;obtain⟨a1,a2,p3,n3,c3,hsh⟩:=h2.shape;rw[hsh]at h2;exact⟨b,cs,t,fr,hb,hlt,bW,h1,a1,a2,p3,n3,c3,by injection hsh,h2⟩
def nGl (x:V):Prop:=∀(N:Nat) (w:World) (v:Value),N<=w.heap.size->fu N w x v->x.fine->Calls prog 227 #[v] w (aP w (.tuple #[ab (x.depth:Int),bZ]))
theorem nTo(n:Int)(w:World):Calls prog 227 #[vI n] w (aP w (.tuple #[ab 0,bZ])):=by
 refine eN func227 ntmps227 ?_;refine cH 2 ?_;intro b1 w1 hb1 cK gS fX jK;refine QE ?_;refine B 5 ?_;refine ni (t:=21) rfl (λav=>?_) (λav=>?_)
 ·replace av:=ya av;refine B 9 ?_;refine ni (t:=30) rfl (λaR=>?_) (λaR=>?_)
  ·replace aR:=ya aR;refine B 6 ?_;exact Vq
  replace aR:=ya aR;refine B 6 ?_;exact Vq
 replace av:=ya av;refine B 9 ?_;refine ni (t:=30) rfl (λdm=>?_) (λdm=>?_)
 ·replace dm:=ya dm;refine B 6 ?_;exact Vq
 replace dm:=ya dm;refine B 6 ?_;exact Vq
theorem nvn(x:ByteArray)(w:World):Calls prog 227 #[vT x] w (aP w (.tuple #[ab 0,bZ])):=by
 refine eN func227 ntmps227 ?_;refine cH 2 ?_;intro b1 w1 hb1 cK gS fX jK;refine B 8 ?_;refine rv rfl rfl rfl (yT rfl rfl) ?_;refine B 1 ?_;refine ni (t:=12) rfl (λav=>?_) (λav=>?_)
 ·replace av:=ya av;refine aE 3 bZ ?_;refine B 3 ?_;refine zwf ?_;exact Vq
 replace av:=ya av;refine B 7 ?_;refine zwf ?_;exact Vq
theorem n8m(l:List V)(ih:∀y∈l,nGl y)(dW:(V.list l).fine)(N:Nat)(base:Option Addr)(cap:Nat)(w:World)(hN:N<=w.heap.size)(hel:Kg N w base l):Calls prog 227 #[vL base l.length cap] w (aP w (.tuple #[ab ((V.depthL l+1:Nat):Int),bZ])):=by
 simp only[V.fine]at dW;obtain⟨AN,yU,QF⟩:=dW;refine eN func227 ntmps227 ?_;refine cH 2 ?_;intro b1 w1 hb1 cK gS fX jK;refine aE 17 bZ ?_;refine aE 8 bZ ?_;refine bH 7 ?_;intro b4 iT iU;refine aE 8 bG ?_;refine aE 3 bG ?_;refine aE 18 bG ?_;refine B 15 ?_;refine CJ.dropAt (i:=0) rfl ⟨by omega,by omega,trivial⟩ ?_;refine CJ.loop (α:=Nat) (λi=>[(1,ptr b1 0),(2,ab ((V.depthL (l.take i):Nat):Int)),(55,.slice base l.length cap),(56,ab (l.length:Int)),(57,ab (i:Int))]) (λi=>[]) (λi=>[w1,w]) (λi=>Gh.no) (λi=>i<=l.length/\V.depthL (l.take i)<=1000000000) (λi=>l.length-i) 0 ⟨cY _,by simp[V.depthL]⟩ zR rfl rfl zJ ?_;rintro i ⟨hi,hdi⟩;refine aG 6 ?_ ?_
 ·intro av;refine B 5 ?_;obtain⟨bl,cs,te,fre,rfl,jr,bW,hcz,a1,a2,p3,n3,c3,wM,xS⟩:=hel i aa;have Eg:=(bA.1 bW).1;obtain⟨y,hy⟩:∃y,l[i]'aa=y:=⟨_,rfl⟩;rw[hy]at wM xS;have Kh:y∈l:=hy▸XP _;refine B 2 ?_;refine rq (.agg #[ab y.kind,ab a1,.string a2,.slice p3 n3 c3]) (dy isAgg200 sizeOf200 rfl A1 bW zI trivial aa) (va (by rw[<-wM];congr 1;omega)) ?_;refine bH 1 ?_;intro b6 ky ri;refine B 6 ?_;refine call call227 rfl rfl rfl (λW hS=>ih y Kh N W _ (eE hN (hS.links _ A1).size) (fu.up (aj _) hS.sm _ _ xS) (V.fineL_mem QF y Kh)) ?_;refine B 20 ?_;refine rv rfl rfl rfl (QG rfl rfl) ?_;refine B 8 ?_;refine PJ.dropAt (i:=0) rfl ⟨by omega,by omega,trivial⟩ ?_;refine PJ.again (i+1) ⟨by omega,by have h1:=V.depthL_take l i aa;rw[hy]at h1;have h2:=V.depthL_mem y Kh;omega⟩ aa ⟨rfl,congrArg some (congrArg ab (by rw[V.depthL_take l i aa,hy];omega)),rfl,rfl,rfl,trivial⟩ rfl rfl zJ
 intro av;refine B 14 ?_;refine nT results227 rfl rfl A1 ?_ ?_
 ·have e:i=l.length:=by omega
  subst e;rw[iz (aj _)];rfl
 rfl
theorem n8p:∀x,nGl x:=by
 refine V.ind ?_ ?_ ?_
 ·intro n N w v _ hv _;simp only[fu]at hv;subst hv;exact nTo n w
 ·intro s N w v _ hv _;simp only[fu]at hv;subst hv;exact nvn s w
 intro l ih N w v hN hv hf;obtain⟨base,cap,rfl,hc,hel⟩:=hv.list;exact n8m l ih hf N base cap w hN hel
theorem njn(x:V)(n1:Int)(s2:ByteArray)(p3:Option Addr)(n3 c3:Nat)(dW:x.fine)(hd:x.depth<=16)(N:Nat)(w:World)(hN:N<=w.heap.size)(xS:fu N w x (.agg #[ab x.kind,ab n1,.string s2,.slice p3 n3 c3])):Calls prog 162 #[.agg #[ab x.kind,ab n1,.string s2,.slice p3 n3 c3]] w (aP w (ab 0)):=by
 refine eN func162 ntmps162 ?_;refine cH 2 ?_;intro b1 w1 hb1 cK gS fX jK;refine B 6 ?_;refine call call227 rfl rfl rfl (λW hS=>n8p x N W _ (eE hN (hS.links _ A1).size) (fu.up (aj _) hS.sm _ _ xS) dW) ?_;refine aE 20 bG ?_;refine B 13 ?_;refine aK results162 rfl A1 ?_;rfl
def V.fn:V->Nat
 | .int _=>228
 | .text _=>231
 | .list _=>232
def V.cap (bv:Nat):V->List Value
 | .list _=>[ptr bv 0]
 |_=>[]
def wrC (bv:Nat):Array Value:=#[.nilFunc,.func (.func 228) #[] #[],.func (.func 231) #[] #[],.func (.func 232) #[] #[ptr bv 0]]
theorem Eh(bv:Nat)(x:V)(k:Nat)(hk:(k:Int)=x.kind):(wrC bv)[k]? =some (.func (.func x.fn) #[] (x.cap bv).toArray):=by
 cases x<;>simp only[V.kind]at hk
 ·have:k=1:=by omega
  subst this;rfl
 ·have:k=2:=by omega
  subst this;rfl
 have:k=3:=by omega
 subst this;rfl
theorem V.kind_bd(x:V):1<=x.kind/\x.kind<=3:=by cases x<;>simp[V.kind]
structure Wr (N:Nat) (w:World) (bv bw:Nat):Prop where
 ltv:bv<N
 ltw:bw<N
 atv:w.heap[bv]? =some (oC #[ptr bw 0] 288)
 atw:w.heap[bw]? =some (oC (wrC bv) 370)
theorem Wr.up{N N':Nat}{w':World}{bv bw:Nat}(h:Wr N w bv bw)(hN:N<=N')(hw:∀k,k<N->w'.heap[k]? =w.heap[k]?):Wr N' w' bv bw:=
 ⟨by have:=h.ltv;omega,by have:=h.ltw;omega,(hw _ h.ltv).trans h.atv,(hw _ h.ltw).trans h.atw⟩
theorem nPi(w:World):Calls prog 163 #[] w (cZ w (λp:Nat×Nat=>ptr p.1 0) (λp w1=>w.heap.size<=p.1/\w.heap.size<=p.2/\w1.heap[p.2]? =some (oC #[ptr p.1 0] 288)/\w1.heap[p.1]? =some (oC (wrC p.2) 370))):=by
 refine ef 8 func163 ntmps163 ?_;refine Ki rfl rfl rfl ?_;refine yW ?_;intro b3 eC ff;refine bH 1 ?_;intro b1 fX jK;refine B 9 ?_;refine zOe ?_;refine B 8 ?_;refine zOe ?_;refine B 9 ?_;refine zOe ?_;refine B 9 ?_;exact bQ (.inl rfl) results163 bB (λW hS=>⟨(b3,b1),rfl,hS.base A0 zQ,by simp only[ah]at *;omega,by simp only[ah]at *;omega,hS.own (b1,_) A0,hS.own (b3,_) A1⟩)
def nIj (x:V):Prop:=∀(N b cap bv bw:Nat) (xs:List UInt8) (sp:List Value) (w:World) (v:Value),fu N w x v->x.fine->Wr N w bv bw->N<=b->N<=w.heap.size->dR xs cap sp->xs.length+x.enc.length<=800000000000->w.heap[b]? =some (aU 5 xs sp)->
 Calls prog x.fn (bV b xs.length cap::v::x.cap bv).toArray w (QA w b 5 (xs++x.enc))
theorem n6p(n:Int)(hn:(V.int n).fine)(xs:List UInt8)(b cap:Nat)(sp:List Value)(u2:dR xs cap sp)(w:World)(hb:w.heap[b]? =some (aU 5 xs sp))(ju:xs.length+(V.int n).enc.length<=800000000000):Calls prog 228 #[bV b xs.length cap,vI n] w (QA w b 5 (xs++(V.int n).enc)):=by
 have jr:=(bA.1 hb).1;simp only[V.fine]at hn;simp only[V.enc,dO]at ju;have hz:=Ee n hn.1 hn.2;refine nB (vs:=[_,_]) (Gh.lent (· =b)) [(b,aU 5 xs sp)] func228 rfl ntmps228 rfl (Ef hb) ?_;refine cH 2 ?_;intro b3 w3 dA cX fT eC ff;refine B 4 ?_;refine CJ.less (E':=[(0,_),(1,_),(3,_),(4,_)]) zR ?_;refine CJ.chn 5 [1,2] [_,none,none,_,_] (λcv L' H'=>match cv with| []=>L'=[w3,w]/\H'=[(b,aU 5 xs sp)]| [v1]=>∃(b6:Nat),v1=bV b6 ([1]:List UInt8).length 1/\L'=[w3,w]/\H'=[(b6,aU 5 [1] []),(b,aU 5 xs sp)]/\w3.heap.size<=b6/\w.heap.size<=b6| [v1,v2]=>∃(b6:Nat) (b7:Nat) (c7:Nat) (s7:List Value),v1=bV b6 ([1]:List UInt8).length 1/\v2=bV b7 (xs++[1]).length c7/\L'=[w3,w]/\H'=[(b6,aU 5 [1] []),(b7,aU 5 (xs++[1]) s7)]/\w3.heap.size<=b6/\w.heap.size<=b6/\Fr (Gh.lent (· =b)) [w3,w] b7/\(b7=b\/w3.heap.size<=b7/\w.heap.size<=b7)/\dR (xs++[1]) c7 s7|_=>False) (pc zM (pk (pk (pc (by exact λcv L' H' hd hP=>X.v (cR underlying200 rfl sizeOf3 rfl)) (pc zch (pn)))))) ?_ ?_
 ·refine ss rfl ?_ ?_
  ·intro cv L' H' hl hP F Q' hk;obtain rfl:=my hl;obtain⟨rfl,rfl⟩:=hP;refine QB [1] bt zeroValue5 rfl rfl rfl rfl rfl rfl rfl rfl rfl ?_;intro b6 ha ho hx hr;exact OJ.done (hk _ _ _ ⟨b6,rfl,rfl,rfl,ha.1,ha.2.1⟩)
  refine ss rfl ?_ ?_
  ·intro cv L' H' hl hP F Q' hk;obtain⟨v1,rfl⟩:=jv hl;obtain⟨b6,rfl,rfl,rfl,ky,C5⟩:=hP;refine Ov (i:=1) (xs:=xs) (zs:=[1]) (sp:=sp) rfl bt rfl rfl rfl rfl (iE.own (i:=0) underlying106 rfl) u2 (.inl rfl) BV ?_;exact zvh
  exact nn
 intro cv L' H' hl hP;obtain⟨v1,v2,rfl⟩:=rP hl;obtain⟨b6,b7,c7,s7,rfl,rfl,rfl,rfl,ky,C5,uq,Vr,C6⟩:=hP;refine OJ.dropF (i:=0) rfl (.inr ⟨ky,C5,trivial⟩) ?_;refine call call230 rfl rfl rfl (λW hS=>nBj _ aa aa W) ?_;refine Vs (i:=0) (ys:=xs++[1]++num (Kd n)) (first:=[]) (cap:=[]) rfl rfl call229 rfl rfl rfl uq (λW hS hW=>nad (xs++[1]) (Kd n) hz b7 c7 s7 C6 BV W hW) ?_;intro gB c11 s11 jL ag5;have X5:=jL;replace X5:=ye X5;refine B 4 ?_;have QH:xs++(V.int n).enc=xs++[1]++num (Kd n):=by simp[V.enc]
 rw[QH];exact n5i (i:=0) (.inl rfl) results228 rfl rfl A1 (by simp only[mx,dx,ec,rO,wL,and_true];simp only[Fr,Gh.lent,ah]at jL;omega) ag5
theorem V.encL_drop(l:List V)(i:Nat)(h:i<l.length):V.encL (l.drop i)=(l[i]).enc++V.encL (l.drop (i+1)):=by
 rw[aNq h,V.encL]
theorem Ej(x:V):eU prog x.fn:=by
 cases x
 ·exact call228
 ·exact call231
 exact call232
theorem nIo(x:ByteArray)(hn:(V.text x).fine)(xs:List UInt8)(b cap:Nat)(sp:List Value)(u2:dR xs cap sp)(w:World)(hb:w.heap[b]? =some (aU 5 xs sp))(ju:xs.length+(V.text x).enc.length<=800000000000):Calls prog 231 #[bV b xs.length cap,vT x] w (QA w b 5 (xs++(V.text x).enc)):=by
 have jr:=(bA.1 hb).1;simp only[V.fine]at hn;simp only[V.enc,dO,cO]at ju;have hxl:x.data.toList.length=x.size:=Ox;refine nB (vs:=[_,_]) (Gh.lent (· =b)) [(b,aU 5 xs sp)] func231 rfl ntmps231 rfl (Ef hb) ?_;refine cH 2 ?_;intro b3 w3 dA cX fT eC ff;refine B 4 ?_;refine CJ.less (E':=[(0,_),(1,_),(3,_),(4,_)]) zR ?_;refine CJ.chn 10 [1,2,7] [_,none,none,_,some (.string x),_,_,none,_,some (.string x)] (λcv L' H'=>match cv with| []=>L'=[w3,w]/\H'=[(b,aU 5 xs sp)]| [v1]=>∃(b6:Nat),v1=bV b6 ([2]:List UInt8).length 1/\L'=[w3,w]/\H'=[(b6,aU 5 [2] []),(b,aU 5 xs sp)]/\w3.heap.size<=b6/\w.heap.size<=b6| [v1,v2]=>∃(b6:Nat) (b7:Nat) (c7:Nat) (s7:List Value),v1=bV b6 ([2]:List UInt8).length 1/\v2=bV b7 (xs++[2]).length c7/\L'=[w3,w]/\H'=[(b6,aU 5 [2] []),(b7,aU 5 (xs++[2]) s7)]/\w3.heap.size<=b6/\w.heap.size<=b6/\Fr (Gh.lent (· =b)) [w3,w] b7/\(b7=b\/w3.heap.size<=b7/\w.heap.size<=b7)/\dR (xs++[2]) c7 s7| [v1,v2,v3]=>∃(b6:Nat) (b7:Nat) (c7:Nat) (s7:List Value) (iF:Nat) (c12:Nat) (X6:List Value),v1=bV b6 ([2]:List UInt8).length 1/\v2=bV b7 (xs++[2]).length c7/\v3=bV iF (xs++[2]++num x.size).length c12/\L'=[w3,w]/\H'=[(b6,aU 5 [2] []),(iF,aU 5 (xs++[2]++num x.size) X6)]/\w3.heap.size<=b6/\w.heap.size<=b6/\Fr (Gh.lent (· =b)) [w3,w] b7/\(b7=b\/w3.heap.size<=b7/\w.heap.size<=b7)/\dR (xs++[2]) c7 s7/\Fr (Gh.lent (· =b)) [w3,w] iF/\(iF=b\/w3.heap.size<=iF/\w.heap.size<=iF)/\dR (xs++[2]++num x.size) c12 X6|_=>False) (pc zM (pk (pk (pc (by exact λcv L' H' hd hP=>X.v (cR underlying200 rfl sizeOf9 rfl)) (pc zci (pc (by exact λcv L' H' hd hP=>X.v (Ek underlying9 rfl)) (pc zAc (pk (pc (by exact λcv L' H' hd hP=>X.v (cR underlying200 rfl sizeOf9 rfl)) (pc zci (pn))))))))))) ?_ ?_
 ·refine ss rfl ?_ ?_
  ·intro cv L' H' hl hP F Q' hk;obtain rfl:=my hl;obtain⟨rfl,rfl⟩:=hP;refine QB [2] bt zeroValue5 rfl rfl rfl rfl rfl rfl rfl rfl rfl ?_;intro b6 ha ho hx hr;exact OJ.done (hk _ _ _ ⟨b6,rfl,rfl,rfl,ha.1,ha.2.1⟩)
  refine ss rfl ?_ ?_
  ·intro cv L' H' hl hP F Q' hk;obtain⟨v1,rfl⟩:=jv hl;obtain⟨b6,rfl,rfl,rfl,ky,C5⟩:=hP;refine Ov (i:=1) (xs:=xs) (zs:=[2]) (sp:=sp) rfl bt rfl rfl rfl rfl (iE.own (i:=0) underlying106 rfl) u2 (.inl rfl) BV ?_;exact zvh
  refine ss rfl ?_ ?_
  ·intro cv L' H' hl hP F Q' hk;obtain⟨v1,v2,rfl⟩:=rP hl;obtain⟨b6,b7,c7,s7,rfl,rfl,rfl,rfl,ky,C5,uq,Vr,C6⟩:=hP;refine Vs (i:=1) (ys:=xs++[2]++num x.size) (first:=[]) (cap:=[]) rfl rfl call229 rfl rfl rfl uq (λW hS hW=>nad (xs++[2]) x.size aa b7 c7 s7 C6 BV W hW) ?_;intro bn cn sn hfn hrn;have Vu:=hfn;replace Vu:=ye Vu;exact OJ.done (hk _ _ _ ⟨b6,b7,c7,s7,bn,cn,sn,rfl,rfl,rfl,rfl,rfl,ky,C5,uq,Vr,C6,hfn,by simpa only[Fr,Gh.lent,ah,and_true]using hfn,hrn⟩)
  exact nn
 intro cv L' H' hl hP;obtain⟨v1,v2,v3,rfl⟩:=py hl;obtain⟨b6,b7,c7,s7,iF,c12,X6,rfl,rfl,rfl,rfl,rfl,ky,C5,uq,Vr,C6,X7,ag6,X8⟩:=hP;refine Ov (i:=1) (xs:=xs++[2]++num x.size) (zs:=x.data.toList) (sp:=X6) rfl bt rfl rfl rfl rfl (iE.str underlying9) X8 X7 BV ?_;intro dS c15 s15 tA Em;have wO:=tA;replace wO:=ye wO;refine B 4 ?_;have QH:xs++(V.text x).enc=xs++[2]++num x.size++x.data.toList:=by simp[V.enc]
 rw[QH];exact n5i (i:=1) (.inl rfl) results231 rfl rfl A1 (by simp only[mx,dx,ec,rO,wL,and_true];simp only[Fr,Gh.lent,ah]at tA;omega) Em
section
variable (l:List V)(ih:∀y∈l,nIj y)(dW:(V.list l).fine)(N:Nat)(base:Option Addr)(lc bv bw:Nat)
include ih dW N base lc bv bw
theorem nPo(xs:List UInt8)(b cap:Nat)(sp:List Value)(u2:dR xs cap sp)(w:World)(hb:w.heap[b]? =some (aU 5 xs sp))(hN:N<=w.heap.size)(hNb:N<=b)(hel:Kg N w base l)(BX:Wr N w bv bw)(ju:xs.length+(V.list l).enc.length<=800000000000):Calls prog 232 #[bV b xs.length cap,vL base l.length lc,ptr bv 0] w (QA w b 5 (xs++(V.list l).enc)):=by
 have jr:=(bA.1 hb).1;simp only[V.fine]at dW;obtain⟨AN,yU,QF⟩:=dW;have hlv:=BX.ltv;have hlw:=BX.ltw;simp only[V.enc,dO,cO]at ju;refine nB (vs:=[_,_,_]) (Gh.lent (· =b)) [(b,aU 5 xs sp)] func232 rfl ntmps232 rfl (Ef hb) ?_;refine cH 2 ?_;intro b4 w4 DX BR Vg iT iU;refine B 4 ?_;refine CJ.less (E':=[(0,_),(1,_),(2,_),(4,_),(5,_)]) zR ?_;refine CJ.chn 7 [1,2] [_,none,none,_,some (.slice base l.length lc),_,_] (λcv L' H'=>match cv with| []=>L'=[w4,w]/\H'=[(b,aU 5 xs sp)]| [v1]=>∃(b9:Nat),v1=bV b9 ([3]:List UInt8).length 1/\L'=[w4,w]/\H'=[(b9,aU 5 [3] []),(b,aU 5 xs sp)]/\w4.heap.size<=b9/\w.heap.size<=b9| [v1,v2]=>∃(b9:Nat) (gd:Nat) (Je:Nat) (Kj:List Value),v1=bV b9 ([3]:List UInt8).length 1/\v2=bV gd (xs++[3]).length Je/\L'=[w4,w]/\H'=[(b9,aU 5 [3] []),(gd,aU 5 (xs++[3]) Kj)]/\w4.heap.size<=b9/\w.heap.size<=b9/\Fr (Gh.lent (· =b)) [w4,w] gd/\(gd=b\/w4.heap.size<=gd/\w.heap.size<=gd)/\dR (xs++[3]) Je Kj|_=>False) (pc zM (pk (pk (pc X9 (pc zcj (pc (by exact λcv L' H' hd hP=>X.v (mE underlying134 rfl)) (pc zAc (pn)))))))) ?_ ?_
 ·refine ss rfl ?_ ?_
  ·intro cv L' H' hl hP F Q' hk;obtain rfl:=my hl;obtain⟨rfl,rfl⟩:=hP;refine QB [3] bt zeroValue5 rfl rfl rfl rfl rfl rfl rfl rfl rfl ?_;intro b9 ha ho hx hr;exact OJ.done (hk _ _ _ ⟨b9,rfl,rfl,rfl,ha.1,ha.2.1⟩)
  refine ss rfl ?_ ?_
  ·intro cv L' H' hl hP F Q' hk;obtain⟨v1,rfl⟩:=jv hl;obtain⟨b9,rfl,rfl,rfl,xP,QJ⟩:=hP;refine Ov (i:=1) (xs:=xs) (zs:=[3]) (sp:=sp) rfl bt rfl rfl rfl rfl (iE.own (i:=0) underlying106 rfl) u2 (.inl rfl) BV ?_;intro b7 c7 s7 uq C6;exact OJ.done (hk _ _ _ ⟨b9,b7,c7,s7,rfl,rfl,rfl,rfl,xP,QJ,uq,by simpa only[Fr,Gh.lent,ah,and_true]using uq,C6⟩)
  exact nn
 intro cv L' H' hl hP;obtain⟨v1,v2,rfl⟩:=rP hl;obtain⟨b9,gd,Je,Kj,rfl,rfl,rfl,rfl,xP,QJ,Kk,QK,yY⟩:=hP;refine OJ.dropF (i:=0) rfl (.inr ⟨xP,QJ,trivial⟩) ?_;refine Vs (i:=0) (ys:=xs++[3]++num l.length) (first:=[]) (cap:=[]) rfl rfl call229 rfl rfl rfl Kk (λW hS hW=>nad (xs++[3]) l.length aa gd Je Kj yY BV W hW) ?_;intro dS c15 s15 tA Em;have wO:=tA;replace wO:=ye wO;refine B 13 ?_;refine CJ.lp (α:=List UInt8×Nat×Nat×Nat×List Value) [2,17,18] (λp=>[(0,bV p.2.2.1 p.1.length p.2.2.2.1),(19,ab (p.2.1:Int))]) (λp=>[(p.2.2.1,aU 5 p.1 p.2.2.2.2)]) (λp=>p.1++V.encL (l.drop p.2.1)=xs++(V.list l).enc/\p.2.1<=l.length/\Fr (Gh.lent (· =b)) [w4,w] p.2.2.1/\(p.2.2.1=b\/w4.heap.size<=p.2.2.1/\w.heap.size<=p.2.2.1)/\dR p.1 p.2.2.2.1 p.2.2.2.2) (λp=>l.length-p.2.1) (xs++[3]++num l.length,0,dS,c15,s15) ⟨by simp[V.enc],cY _,tA,by simpa only[Fr,Gh.lent,Gh.no,ah,and_true,false_or]using tA,Em⟩ ?_;rintro⟨ys,i,b1,c1,s1⟩ ⟨hinv,hi,hf,hg,hr⟩;dsimp only at hinv hi hf hg hr ⊢;have AM:=congrArg List.length hinv;simp only[V.enc,cO,dO]at AM;refine aG 6 ?_ ?_
 ·intro av;refine B 5 ?_;obtain⟨bl,cs,te,fre,rfl,jr,bW,hcz,a1,a2,p3,n3,c3,wM,xS⟩:=hel i aa;have Eg:=(bA.1 bW).1;obtain⟨y,hy⟩:∃y,l[i]'aa=y:=⟨_,rfl⟩;rw[hy]at wM xS;have Kh:y∈l:=hy▸XP _;have hkb:=V.kind_bd y;have hed:=congrArg List.length (V.encL_drop l i aa);rw[cO,hy]at hed;refine B 2 ?_;refine rq (.agg #[ab y.kind,ab a1,.string a2,.slice p3 n3 c3]) (dy isAgg200 sizeOf200 rfl A1 bW (by show ¬(_=_);omega) zz aa) (va (by rw[<-wM];congr 1;omega)) ?_;refine bH 1 ?_;intro b7 kh v7;refine B 3 ?_;refine eA 9 (pb:=by exact aJ (X.v (ar isAgg288 rfl A1 BX.atv (by show ¬(_=_);omega) zz rfl)) (zU 5 (k:=by exact aJ (X.v (ar (v:=.func (.func y.fn) #[] (y.cap bv).toArray) isAgg285 rfl A1 BX.atw (by show ¬(_=_);omega) zz (Eh bv _ _ (by show((0+Int.toNat y.kind*1+0:Nat):Int)=_;omega)))) zT))) (k:=?_);refine Vs (i:=1) (ys:=ys++y.enc) (first:=[]) (cap:=y.cap bv) rfl rfl (Ej _) rfl rfl rfl hf (λW hS hW=>ih y Kh N b1 c1 bv bw ys s1 W _ (fu.up (aj _) (hS.same A1 hN (λk hk (h:k=b)=>by omega) zF) _ _ xS) (V.fineL_mem QF y Kh) (BX.up (aj _) (hS.same A1 hN (λk hk (h:k=b)=>by omega) zF)) aa (eE hN (hS.links _ A1).size) hr aa hW) ?_;exact zLg
 intro av;refine B 12 ?_;have e:i=l.length:=by omega
 subst e;rw[List.drop_of_length_le (aj _)]at hinv;simp only[V.encL,ee]at hinv;rw[<-hinv];exact n5i (i:=0) (.inl rfl) results232 rfl rfl A1 (by simp only[mx,dx,ec,rO,wL,and_true];omega) hr
theorem n4j(w:World)(hN:N<=w.heap.size)(hel:Kg N w base l)(BX:Wr N w bv bw)(ju:(V.list l).enc.length<=800000000000):Calls prog 232 #[ak,vL base l.length lc,ptr bv 0] w (nXm w 5 ((V.list l).enc)):=by
 simp only[V.fine]at dW;obtain⟨AN,yU,QF⟩:=dW;have hlv:=BX.ltv;have hlw:=BX.ltw;simp only[V.enc,dO,cO]at ju;refine eN func232 ntmps232 ?_;refine cH 2 ?_;intro b4 w4 DX BR Vg iT iU;refine B 4 ?_;refine eS 7 1 [2] (sp:=[_,_,_,_,some (.slice base l.length lc),_,_]) (h:=?_);intro _ _ hk;refine QB [3] bt zeroValue5 rfl rfl rfl rfl rfl rfl rfl rfl rfl ?_;intro b9 ha ho hx hr;have xP:w4.heap.size<=b9:=ha.1;have QJ:w.heap.size<=b9:=ha.2.1;refine zG ?_;intro _ _ hk;refine apN (zs:=[3]) bt rfl rfl rfl rfl (iE.own (i:=0) underlying106 rfl) zA zA ?_;intro gd Je Kj kh v7 hx7 yY;have Kk:w4.heap.size<=gd:=kh.1;have QK:w.heap.size<=gd:=kh.2.1;refine zE ?_;refine OJ.dropF (i:=1) rfl (.inr ⟨xP,QJ,trivial⟩) ?_;refine Vs (i:=0) (ys:=[3]++num l.length) (first:=[]) (cap:=[]) rfl rfl call229 rfl rfl rfl (.inr ⟨Kk,QK,trivial⟩) (λW hS hW=>nad ([3]) l.length aa gd Je Kj yY BV W hW) ?_;intro dS c15 s15 tA Em;have wO:=tA;replace wO:=ye wO;refine B 13 ?_;refine CJ.lp (α:=List UInt8×Nat×Nat×Nat×List Value) [2,17,18] (λp=>[(0,bV p.2.2.1 p.1.length p.2.2.2.1),(19,ab (p.2.1:Int))]) (λp=>[(p.2.2.1,aU 5 p.1 p.2.2.2.2)]) (λp=>p.1++V.encL (l.drop p.2.1)=(V.list l).enc/\p.2.1<=l.length/\Fr (Gh.no) [w4,w] p.2.2.1/\(w4.heap.size<=p.2.2.1/\w.heap.size<=p.2.2.1)/\dR p.1 p.2.2.2.1 p.2.2.2.2) (λp=>l.length-p.2.1) ([3]++num l.length,0,dS,c15,s15) ⟨by simp[V.enc],cY _,tA,by simpa only[Fr,Gh.lent,Gh.no,ah,and_true,false_or]using tA,Em⟩ ?_
 rintro⟨ys,i,b1,c1,s1⟩ ⟨hinv,hi,hf,hg,hr⟩;dsimp only at hinv hi hf hg hr ⊢;have AM:=congrArg List.length hinv;simp only[V.enc,cO,dO]at AM;refine aG 6 ?_ ?_
 ·intro av;refine B 5 ?_;obtain⟨bl,cs,te,fre,rfl,jr,bW,hcz,a1,a2,p3,n3,c3,wM,xS⟩:=hel i aa;have Eg:=(bA.1 bW).1;obtain⟨y,hy⟩:∃y,l[i]'aa=y:=⟨_,rfl⟩;rw[hy]at wM xS;have Kh:y∈l:=hy▸XP _;have hkb:=V.kind_bd y;have hed:=congrArg List.length (V.encL_drop l i aa);rw[cO,hy]at hed;refine B 2 ?_;refine rq (.agg #[ab y.kind,ab a1,.string a2,.slice p3 n3 c3]) (dy isAgg200 sizeOf200 rfl A1 bW zI zz aa) (va (by rw[<-wM];congr 1;omega)) ?_;refine bH 1 ?_;intro b7 kh v7;refine B 3 ?_;refine eA 9 (pb:=by exact aJ (X.v (ar isAgg288 rfl A1 BX.atv zI zz rfl)) (zU 5 (k:=by exact aJ (X.v (ar (v:=.func (.func y.fn) #[] (y.cap bv).toArray) isAgg285 rfl A1 BX.atw zI zz (Eh bv _ _ (by show((0+Int.toNat y.kind*1+0:Nat):Int)=_;omega)))) zT))) (k:=?_);refine Vs (i:=1) (ys:=ys++y.enc) (first:=[]) (cap:=y.cap bv) rfl rfl (Ej _) rfl rfl rfl hf (λW hS hW=>ih y Kh N b1 c1 bv bw ys s1 W _ (fu.up (aj _) hS.sm _ _ xS) (V.fineL_mem QF y Kh) (BX.up (aj _) hS.sm) aa (eE hN (hS.links _ A1).size) hr aa hW) ?_;exact zLg
 intro av;refine B 12 ?_;have e:i=l.length:=by omega
 subst e;rw[List.drop_of_length_le (aj _)]at hinv;simp only[V.encL,ee]at hinv;rw[<-hinv];exact QL (i:=0) (.inl rfl) results232 rfl rfl A1 C2 hr
end
theorem En:∀x,nIj x:=by
 refine V.ind ?_ ?_ ?_
 ·intro n N b cap bv bw xs sp w v hv hf _ _ _ hr hl hb;simp only[fu]at hv;subst hv;exact n6p n hf xs b cap sp hr w hb hl
 ·intro s N b cap bv bw xs sp w v hv hf _ _ _ hr hl hb;simp only[fu]at hv;subst hv;exact nIo s hf xs b cap sp hr w hb hl
 intro l ih N b cap bv bw xs sp w v hv hf BX hNb hN hr hl hb;obtain⟨base,lc,rfl,hc,hel⟩:=hv.list;exact nPo l ih hf N base lc bv bw xs b cap sp hr w hb hN hNb hel BX hl
theorem nLe(l:List V)(dW:(V.list l).fine)(hd:(V.list l).depth<=16)(ju:(V.list l).enc.length<=800000000000)(N:Nat)(base:Option Addr)(lc:Nat)(w:World)(hN:N<=w.heap.size)(xS:fu N w (.list l) (vL base l.length lc)):Calls prog 85 #[vL base l.length lc] w (nRl w 5 (V.list l).enc):=by
 obtain⟨Ya,lc',aha,Jf,ahb⟩:=xS.list;obtain⟨rfl,rfl⟩:base=Ya/\lc=lc':=by simpa[vL]using aha
 refine eN func85 ntmps85 ?_;refine cH 2 ?_;intro b1 w1 hb1 cK gS fX jK;refine B 8 ?_;refine call call162 rfl rfl rfl (λW hS=>njn (.list l) _ _ _ _ _ dW hd N W (eE hN (hS.links _ A1).size) (fu.up aa hS.sm _ _ xS)) ?_;refine B 6 ?_;refine Eo ?_;refine eS 8 0 [3,4,5,6] (sp:=[_,_,some (ab 3),_,_,_,_,some (vL base l.length lc)]) (h:=?_);intro _ _ hk;refine nv (Φ:=λ(W:World) (p:Nat×Nat) (v1:World)=>W.heap.size<=p.1/\W.heap.size<=p.2/\v1.heap[p.2]? =some (oC #[ptr p.1 0] 288)/\v1.heap[p.1]? =some (oC (wrC p.2) 370)) call163 rfl rfl rfl (λW hS=>nPi W) ?_;rintro W ⟨bw,bv⟩ w10 hSW ahd ⟨h1,h2,e5,e6⟩;have h5:=hSW.sizes;replace h5:=yb h5;dsimp only at h1 h2 e5 e6;have e3:=(bA.1 e6).1;have e4:=(bA.1 e5).1;have e7:=ahd.size;have e1:w1.heap.size<=bw:=by omega
 have e2:w1.heap.size<=bv:=by omega
 have e7:w1.heap.size<=w10.heap.size:=by omega
 refine zG ?_;intro _ _ hk;refine B 1 ?_;refine zG ?_;intro _ _ hk;refine B 1 ?_;refine zG ?_;intro _ _ hk;refine B 1 ?_;refine zG ?_;intro _ _ hk;refine rv rfl rfl rfl (ar (v:=.func (.func 232) #[] #[ptr bv 0]) isAgg285 rfl A0 e6 zI trivial rfl) ?_;refine zE ?_;refine QM (ys:=(V.list l).enc) (first:=[]) (cap:=[ptr bv 0]) rfl call232 rfl rfl rfl (λW hS=>n4j l (λy _=>En y) dW w10.heap.size base lc bv bw W (hS.links _ A0).size (λi hi=>by
  obtain⟨bl,cs,t,fr,h1,h2,h3,h4,a1,a2,p3,n3,c3,h5,h6⟩:=ahb i hi;have hsm:=hS.same A2 hN zH zF;exact⟨bl,cs,t,fr,h1,by omega,(hsm bl h2).trans h3,h4,a1,a2,p3,n3,c3,h5,fu.up aa hsm _ _ h6⟩) ⟨e4,e3,hS.old A0 e5 zI trivial,hS.old A0 e6 zI trivial⟩ ju) ?_
 intro b18 c18 s18 BW QC ag1 XZ;replace BW:=yb BW;refine B 5 ?_;exact QN (i:=0) (.inl rfl) results85 rfl rfl rfl A2 C2 XZ


def cx (w:World) (b off:Nat) (zs:List UInt8):Prop:=∃cs t fr,w.heap[b]? =some (.cells cs t fr)/\off+zs.length<=cs.size/\∀i,i<zs.length->cs[off+i]? =some (.int .u8 (fU zs i))
variable {zs:List UInt8} {b:Nat}
theorem cx.up{w':World}{off:Nat}(h:cx w b off zs)(hb:w'.heap[b]? =w.heap[b]?):cx w' b off zs:=by
 obtain⟨cs,t,fr,h1,h2,h3⟩:=h;exact⟨cs,t,fr,hb.trans h1,h2,h3⟩
theorem cx.lt{off:Nat}(h:cx w b off zs):b<w.heap.size:=by
 obtain⟨cs,t,fr,h1,_⟩:=h;exact(bA.1 h1).1
variable {W:World}
theorem cx.old{off:Nat}(h:cx w b off zs)(hS:St G L H W)(hw:w∈L)(hX:¬G.X b)(hO:bM H b):cx W b off zs:=by
 obtain⟨cs,t,fr,h1,h2,h3⟩:=h;exact⟨cs,t,fr,hS.old hw h1 hX hO,h2,h3⟩
variable {sp:List Value}
theorem cx.row{e:Nat}(h:W.heap[b]? =some (aU e zs sp)):cx W b 0 zs:=
 ⟨_,_,_,h,by simp only[rh,cO,wP];omega,λi hi=>Yb _ _ i hi⟩
theorem iE.seg{C:Cx}{tx e' off c:Nat}{w1:World}(hU:C.P.underlying tx=some (.slice e'))(hm:w1∈L)(h:cx w1 b off zs)(hG:¬G.X b)(hO:bM H b):iE C G L H tx (.slice (some ⟨b,off,none⟩) zs.length c) zs:=by
 obtain⟨cs,t,fr,h1,h2,h3⟩:=h;exact px.sl hU (Rd.old hm h1 hG hO aa (by rw[npk h2 h3,<-n8n])) (by rw[wP,xR]) (nLi _)
def Glb (w:World):Prop:=(∃t fr,w.heap[3]? =some (.cells S8.init.cells t fr))/\(∃t fr,w.heap[5]? =some (.cells (cf 64 (λi=>u32 (kk i))) t fr))
theorem Glb.lt(h:Glb w):6<=w.heap.size:=by
 obtain⟨_,t,fr,h⟩:=h;have:=(bA.1 h).1;omega
theorem Glb.old(h:Glb w)(hS:St G L H W)(hw:w∈L)(hX:∀k,k<6->¬G.X k)(hH:Over 6 H):Glb W:=by
 have hs:=hS.same hw h.lt hX hH;obtain⟨⟨t,fr,h1⟩,t',C7,h2⟩:=h;exact⟨⟨t,fr,(hs 3 aa).trans h1⟩,t',C7,(hs 5 aa).trans h2⟩
def scalL (s:ByteArray) (xs:List UInt8):Int:=Ed s xs.length (fU xs)
theorem Ep(s:ByteArray)(xs:List UInt8):1<=scalL s xs/\scalL s xs<2305843009213688669:=by
 have JV:=nci 2305843009213688668 zA (BQ (tagged s xs.length (fU xs))) 0 zA zA;unfold scalL Ed;omega
structure Fx where
 sc:ByteArray->List UInt8->Int
 tg:ByteArray->List UInt8->Nat->Int
 ge:Int->Int->Int×Int
structure FxOk (Z:Fx):Prop where
 sc:∀s xs,scalL s xs=Z.sc s xs
 tg:∀s xs,tagged s xs.length (fU xs)=Z.tg s xs
 ge:∀a k,gExp a k=Z.ge a k
variable {Z:Fx}
theorem FxOk.bd(hZ:FxOk Z)(s:ByteArray)(xs:List UInt8):1<=Z.sc s xs/\Z.sc s xs<2305843009213688669:=by
 rw[<-hZ.sc];exact Ep s xs
theorem FxOk.byt(hZ:FxOk Z)(s:ByteArray)(xs:List UInt8):eu (Z.tg s xs):=by
 rw[<-hZ.tg];exact nug _ _ _
theorem Oy(hZ:FxOk Z)(k:Int)(w:World):Calls prog 124 #[ab k] w (aP w (rH (Z.ge 4 k))):=by
 rw[<-hZ.ge];exact n2i k w
theorem Kl(hZ:FxOk Z)(a:Int)(w:World):Calls prog 133 #[ab a] w (aP w (ab (Z.ge 4 a).1)):=by
 rw[<-hZ.ge];exact n4h a w
theorem Oz(hZ:FxOk Z)(s:ByteArray)(hs0:s.size<1000)(xs:List UInt8)(hn:xs.length<900000000000)(b off c:Nat)(hc:xs.length<=c)(w:World)(h:cx w b off xs)(hg:Glb w):Calls prog 195 #[.string s,.slice (some ⟨b,off,none⟩) xs.length c] w (aP w (ab (Z.sc s xs))):=by
 rw[<-hZ.sc];obtain⟨cs,t,fr,h1,h2,h3⟩:=h;obtain⟨⟨t2,xQ,g1⟩,t3,ra,g2⟩:=hg;exact nZm s xs.length (fU xs) b off c t t2 t3 fr xQ ra cs hs0 hc aa w h1 h2 h3 g1 g2
def b8 (n:Int) (i:Nat):UInt8:=UInt8.ofNat ((n%18446744073709551616).toNat/2^(56-8*i)%256)
def Km (n:Int):List UInt8:=(List.range 8).map (b8 n)
theorem nfk(n:Int):(Km n).length=8:=by simp[Km]
theorem nAm(n:Int)(i:Nat)(h:i<8):(Km n).take (i+1)=(Km n).take i++[b8 n i]:=by
 have hl:i<(Km n).length:=by rw[nfk];exact h
 rw[Oh hl];congr 2;simp[Km]
theorem Yc(n k:Int)(i:Nat)(hi:i<8)(hk:k=56-8*(i:Int)):(n%18446744073709551616).fdiv (2^(min (Int.toNat k) IntKind.u64.bits))%256=((b8 n i).toNat:Int):=by
 subst hk;have e1:min (Int.toNat (56-8*(i:Int))) IntKind.u64.bits=56-8*i:=by simp[IntKind.bits];omega
 obtain⟨m,hm⟩:∃m:Nat,n%18446744073709551616=(m:Int):=⟨(n%18446744073709551616).toNat,by omega⟩;rw[e1];unfold b8;rw[hm,Yd,xU];simp only[UInt8.toNat_ofNat'];rw[nAe];omega
def AO (ns:List Int):List UInt8:=ns.flatMap Km
theorem nNk(ns:List Int):(AO ns).length=8*ns.length:=by induction ns<;>grind [AO,nfk]
theorem n4o(ns:List Int)(j:Nat)(h:j<ns.length):AO (ns.take (j+1))=AO (ns.take j)++Km ns[j]:=by
 rw[Oh h];unfold AO;rw[List.flatMap_append];simp
def roV (ro:Option (Nat×Nat×List Value)) (ys:List UInt8):Value:=match ro with|none=>ak|some (b,c,_)=>bV b ys.length c
def roH (e:Nat) (ro:Option (Nat×Nat×List Value)) (ys:List UInt8):ad:=match ro with|none=>[]|some (b,_,sp)=>[(b,aU e ys sp)]
def Ye (G:Gh) (L:List World) (ro:Option (Nat×Nat×List Value)) (ys:List UInt8):Prop:=match ro with|none=>ys=[]|some (b,c,sp)=>dR ys c sp/\Fr G L b
theorem nWk(hZ:FxOk Z)(s:ByteArray)(hs0:s.size<1000)(msg:List UInt8)(bm om cm:Nat)(wg:msg.length<=100000000000)(ns:List Int)(bn cn tn:Nat)(OA:Nat×Nat)(hn0:0<ns.length)(yZ:ns.length<=1000)(w:World)(pz:cx w bm om msg)(mX:w.heap[bn]? =some (.cells (ns.map ab).toArray tn OA))(hg:Glb w):Calls prog 126 #[.string s,.slice (some ⟨bm,om,none⟩) msg.length cm,.slice (ao bn) ns.length cn] w (aP w (ab (Z.sc s (AO ns++msg)))):=by
 have ao6:=(bA.1 mX).1;have Yf:=pz.lt;have hg4:=hg.lt;refine ef 19 func126 ntmps126 ?_;refine CJ.loop (α:=List UInt8×Nat×Option (Nat×Nat×List Value)) (λp=>[(0,.string s),(1,.slice (some ⟨bm,om,none⟩) msg.length cm),(7,roV p.2.2 p.1),(11,.slice (ao bn) ns.length cn),(12,ab (ns.length:Int)),(13,ab (p.2.1:Int))]) (λp=>roH 5 p.2.2 p.1) (λp=>[w]) (λp=>Gh.no) (λp=>p.1=AO (ns.take p.2.1)/\p.2.1<=ns.length/\Ye Gh.no [w] p.2.2 p.1) (λp=>ns.length-p.2.1) ([],0,none) ⟨rfl,cY _,rfl⟩ zR rfl rfl zJ ?_;rintro⟨ys0,j,ro0⟩ ⟨y4,hj,Er⟩;dsimp only at y4 hj Er ⊢;refine aG 6 ?_ ?_
 ·intro av;refine B 7 ?_;obtain⟨n,hn⟩:∃n,ns[j]'aa=n:=⟨_,rfl⟩;refine rv rfl rfl rfl (ar (v:=ab n) isAgg3 rfl A0 mX zI (by cases ro0 with|none=>trivial|some p=>obtain⟨b1,c1,s1⟩:=p;obtain⟨hr,hf⟩:=Er;simp only[Fr,Gh.no,ah,and_true,false_or]at hf;exact⟨by dsimp only;omega,trivial⟩) (by simp only[Es,mY];rw[lj aa];simp[<-hn])) ?_;refine B 9 ?_;have ao7:ys0.length<=8000:=by rw[y4,nNk,jM];omega
  refine CJ.loop (α:=List UInt8×Nat×Option (Nat×Nat×List Value)) (λp=>[(0,.string s),(1,.slice (some ⟨bm,om,none⟩) msg.length cm),(7,roV p.2.2 p.1),(9,ab n),(10,ab (56-8*(p.2.1:Int))),(11,.slice (ao bn) ns.length cn),(12,ab (ns.length:Int)),(13,ab (j:Int))]) (λp=>roH 5 p.2.2 p.1) (λp=>[w]) (λp=>Gh.no) (λp=>p.1=ys0++(Km n).take p.2.1/\p.2.1<=8/\Ye Gh.no [w] p.2.2 p.1) (λp=>8-p.2.1) (ys0,0,ro0) ⟨by simp,by dsimp only;omega,Er⟩ zR rfl rfl zJ ?_;rintro⟨ys,i,ro⟩ ⟨xV,hi,rQ⟩;dsimp only at xV hi rQ ⊢;have Ko:ys.length<=8008:=by rw[xV,cO,jM,nfk];omega
  refine aG 7 ?_ ?_
  ·intro aR;refine B 7 ?_;refine rq (.int .u64 (n%18446744073709551616)) (kZ underlying3 underlying233 rfl) (vu (nD n)) ?_;refine B 1 ?_;refine rv rfl rfl rfl (mB rfl rfl aa) ?_;refine rq (.int .u8 ((b8 n i).toNat:Int)) (pw underlying233 underlying5 rfl) (congrArg (Value.int .u8) (Yc n _ i aa rfl)) ?_;refine QB [b8 n i] bt zeroValue5 rfl rfl rfl rfl rfl rfl rfl rfl rfl ?_;intro mz Kp Yg ao8 ao9;replace Kp:=yb Kp;replace Yg:=yd Yg;rcases ro with _|⟨b1,c1,s1⟩
   ·have e0:ys=[]:=rQ;subst e0;refine apN (zs:=[b8 n i]) bt rfl rfl rfl rfl (iE.own (i:=0) underlying106 rfl) zJ zJ ?_;intro b28 c28 s28 QO Yh apa QP;replace QO:=yb QO;replace Yh:=yd Yh;have Kq:Fr Gh.no [w] b28:=.inr ⟨QO.1,trivial⟩;refine OJ.dropF (i:=1) rfl (.inr ⟨Kp.1,trivial⟩) ?_;refine B 9 ?_;refine PJ.again ([b8 n i],i+1,some (b28,c28,s28)) ⟨by dsimp only;rw[nAm n i aa,<-jh,<-xV];first|done|rfl,by dsimp only;omega,QP,Kq⟩ zW ⟨rfl,rfl,rfl,rfl,congrArg some (congrArg ab zW),rfl,rfl,rfl,trivial⟩ rfl rfl zJ
   obtain⟨hr,hf⟩:=rQ;refine Ov (i:=1) (xs:=ys) (zs:=[b8 n i]) (sp:=s1) rfl bt rfl rfl rfl rfl (iE.own (i:=0) underlying106 rfl) hr hf BV ?_;intro b28 c28 s28 Kq QP;have Yi:=Kq;replace Yi:=ye Yi;refine OJ.dropF (i:=0) rfl (.inr ⟨Kp.1,trivial⟩) ?_;refine B 9 ?_;refine PJ.again (ys++[b8 n i],i+1,some (b28,c28,s28)) ⟨by dsimp only;rw[nAm n i aa,<-jh,<-xV];first|done|rfl,by dsimp only;omega,QP,Kq⟩ zW ⟨rfl,rfl,rfl,rfl,congrArg some (congrArg ab zW),rfl,rfl,rfl,trivial⟩ rfl rfl zJ
  intro aR;refine B 10 ?_;refine ag (ys,j+1,ro) ⟨by dsimp only;rw[n4o ns j aa,hn,xV,show i=8 by omega,y4];first|done|rfl,by dsimp only;omega,rQ⟩
 intro av;refine B 6 ?_;have ej:j=ns.length:=by omega
 subst ej;rw[iz (aj _)]at y4;have Ko:=nNk ns;rcases ro0 with _|⟨b1,c1,s1⟩
 ·exact absurd (show ys0=[]from Er) (by intro e;rw[e]at y4;rw[<-y4]at Ko;simp at Ko;omega)
 obtain⟨hr,hf⟩:=Er;subst y4;have hg1:=hf;simp only[Fr,Gh.no,ah,and_true,false_or]at hg1;refine CJ.reH (H':=[(b1,aU 5 (AO ns) s1)]) rfl ?_;refine B 4 ?_;refine Ov (i:=0) (xs:=AO ns) (zs:=msg) (sp:=s1) rfl bt rfl rfl rfl rfl (iE.seg underlying106 A0 pz zI zz) hr hf (by rw[Ko];omega) ?_;intro b33 c33 s33 ahi ahj;have Yj:=ahi;replace Yj:=ye Yj;refine call call195 rfl rfl rfl (λW hS=>Oz hZ s hs0 (AO ns++msg) (by rw[cO,Ko];omega) b33 0 c33 ahj.le W (cx.row (hS.own _ A0)) (hg.old hS A0 zH zF)) ?_;refine B 4 ?_;refine cu (.inl rfl) results126 bB A0 zB ?_;rfl
def C8 (Z:Fx) (x:Int) (msg:List UInt8):Int:=Z.sc (⟨#[110,111,110,99,101]⟩:ByteArray) (AO [x]++msg)
def C9 (Z:Fx) (r p:Int) (msg:List UInt8):Int:=Z.sc (⟨#[115,105,103,110]⟩:ByteArray) (AO [r,p]++msg)
def rR (Z:Fx) (x:Int) (msg:List UInt8):Int:=(Z.ge 4 (C8 Z x msg)).1
def wQ (Z:Fx) (x:Int) (msg:List UInt8):Int:=(rJ (C8 Z x msg) (qC (C9 Z (rR Z x msg) (Z.ge 4 x).1 msg) x).1).1
def BY (Z:Fx) (x:Int) (msg:List UInt8):Value:=if DY x then .tuple #[.agg #[ab (rR Z x msg),ab (wQ Z x msg)],ab 0]else .tuple #[.agg #[ab 0,ab 0],ab 50]
theorem Kr(a b:Int):q9 (qC a b).1:=by grind [qC]
theorem nOl(hZ:FxOk Z)(x:Int)(msg:List UInt8):q9 (C8 Z x msg):=by have:=hZ.bd (⟨#[110,111,110,99,101]⟩:ByteArray) (AO [x]++msg);unfold C8;exact⟨by omega,by omega⟩
theorem Et(hZ:FxOk Z)(x:Int)(msg:List UInt8):(rJ (C8 Z x msg) (qC (C9 Z (rR Z x msg) (Z.ge 4 x).1 msg) x).1).2=0:=by
 unfold rJ;rw[if_pos ⟨nOl hZ _ _,Kr _ _⟩]
theorem Ks(hZ:FxOk Z)(x k e:Int)(msg:List UInt8)(hK:DY x)(hk:C8 Z x msg=k)(he:C9 Z (Z.ge 4 k).1 (Z.ge 4 x).1 msg=e):Value.tuple #[.agg #[ab (Z.ge 4 k).1,ab (rJ k (qC e x).1).1],ab (rJ k (qC e x).1).2]=BY Z x msg:=by grind [Et,BY,rR,wQ]
theorem Kt(Z:Fx)(x:Int)(msg:List UInt8)(hK:¬DY x):Value.tuple #[.agg #[ab 0,ab 0],ab 50]=BY Z x msg:=by
 unfold BY;rw[if_neg hK]
theorem ndp(hZ:FxOk Z)(x k:Int)(msg:List UInt8)(hk:C8 Z x msg=k)(wg:msg.length<=100000000000)(bm om cm bn cn tn:Nat)(OA:Nat×Nat)(w:World)(pz:cx w bm om msg)(mX:w.heap[bn]? =some (.cells #[ab x] tn OA))(hg:Glb w):Calls prog 126 #[.string (⟨#[110,111,110,99,101]⟩:ByteArray),.slice (some ⟨bm,om,none⟩) msg.length cm,.slice (ao bn) 1 cn] w (aP w (ab k)):=by
 subst hk;exact nWk hZ (⟨#[110,111,110,99,101]⟩:ByteArray) zA msg bm om cm wg [x] bn cn tn OA zJ zJ w pz mX hg
theorem nUi(hZ:FxOk Z)(r p e:Int)(msg:List UInt8)(he:C9 Z r p msg=e)(wg:msg.length<=100000000000)(bm om cm bn cn tn:Nat)(OA:Nat×Nat)(w:World)(pz:cx w bm om msg)(mX:w.heap[bn]? =some (.cells #[ab r,ab p] tn OA))(hg:Glb w):Calls prog 126 #[.string (⟨#[115,105,103,110]⟩:ByteArray),.slice (some ⟨bm,om,none⟩) msg.length cm,.slice (ao bn) 2 cn] w (aP w (ab e)):=by
 subst he;exact nWk hZ (⟨#[115,105,103,110]⟩:ByteArray) zA msg bm om cm wg [r,p] bn cn tn OA zJ zJ w pz mX hg
theorem nVp(hZ:FxOk Z)(x:Int)(msg:List UInt8)(bm om cm:Nat)(wg:msg.length<=100000000000)(w:World)(pz:cx w bm om msg)(hg:Glb w):Calls prog 146 #[ab x,.slice (some ⟨bm,om,none⟩) msg.length cm] w (aP w (BY Z x msg)):=by
 have Yf:=pz.lt;have hg4:=hg.lt;obtain⟨k,hk⟩:∃k,C8 Z x msg=k:=⟨_,rfl⟩;obtain⟨e,he⟩:∃e,C9 Z (Z.ge 4 k).1 (Z.ge 4 x).1 msg=e:=⟨_,rfl⟩;refine eN func146 ntmps146 ?_;refine bH 3 ?_;intro b4 iT iU;refine B 12 ?_;refine XL ?_;refine B 1 ?_;refine XL ?_;refine B 8 ?_;refine Yk (first:=[ab x]) (cap:=[]) rfl call132 rfl rfl rfl (λW hS=>n9i x W) ?_;refine aG 3 ?_ ?_
 ·intro av;refine B 9 ?_;refine cu (.inl rfl) results146 bB A0 zB ?_;exact Kt Z x msg cV
 intro av;refine B 6 ?_;refine Jb ?_;refine yV ?_;intro b23 w23 QQ QR apb Yl QS;refine call call126 rfl rfl rfl (λW hS=>ndp hZ x k msg hk wg bm om cm b23 _ _ _ W (pz.old hS A1 zI zz) (hS.old A0 QQ QR zz) (hg.old hS A1 zH zF)) ?_;refine B 6 ?_;refine call call124 rfl rfl rfl (λW hS=>Oy hZ _ W) ?_;refine B 4 ?_;refine zTe ?_;refine B 3 ?_;refine CJ.less (E':=[(0,_),(1,_),(4,_),(5,_),(6,_),(7,_),(8,_),(9,_),(12,_),(13,_),(14,_),(15,_),(16,_),(17,_),(18,_),(19,_),(21,_),(22,_),(23,_),(24,_),(25,_),(26,_),(27,_),(28,_),(30,_)]) zR ?_;refine CJ.chn 13 [5] [_,_,some (ab (Z.ge 4 k).1),_,_,none,some (ab e),_,_,_,_,_,_] (λcv L' H'=>let eo:ad:=[(b4,oC #[ab (Z.ge 4 k).1,ab 0] 59)];match cv with| []=>L'=[w23,w]/\H'=eo| [v1]=>∃(BZ:Nat) (OB:World),v1= .slice (ao BZ) 2 2/\L'=[OB,w23,w]/\H'=eo/\OB.heap[BZ]? =some (oC #[ab (Z.ge 4 k).1,ab (Z.ge 4 x).1] 3)/\(w23.heap.size<=BZ/\w.heap.size<=BZ)/\b4≠BZ/\¬Gh.no.X BZ/\OB.heap.size=BZ+1|_=>False) (pc zM (pc zcc (pc (λcv L' H' hd hP=>match cv,hd,hP with| [],hd,hP=>(by obtain⟨rfl,rfl⟩:=hP;exact X.v (bU (i:=0) rfl isAgg3 rfl rfl))| [v1],hd,hP=>(by obtain⟨BZ,OB,rfl,rfl,rfl,Eu,Ev,Ku,Ew,Kx⟩:=hP;exact X.v (bU (i:=0) rfl isAgg3 rfl rfl))|_::_::_,_,hP=>hP.elim) (pc zM (pc (by exact λcv L' H' hd hP=>nNn (first:=[ab x]) (cap:=[]) rfl call133 rfl rfl (λW hS _=>Kl hZ x W) (λ_=>rfl)) (pk (pc (λcv L' H' hd hP=>match cv,hd,hP with| [],hd,hP=>(absurd (show false=true from hd) zA)| [v1],hd,hP=>(by obtain⟨BZ,OB,rfl,rfl,rfl,Eu,Ev,Ku,Ew,Kx⟩:=hP;exact nf call126 rfl rfl (λW hS _=>nUi hZ _ _ e msg he wg bm om cm BZ _ _ _ W (pz.old hS A2 zI (by simp only[bM,dx,ec,rO,wL,ne_eq,and_true];omega)) (hS.old A0 Eu Ew (by simp only[bM,dx,ec,rO,wL,ne_eq,and_true];omega)) (hg.old hS A2 zH zF)) (λ_=>rfl))|_::_::_,_,hP=>hP.elim) (pc zM (pc (by exact λcv L' H' hd hP=>nf call215 rfl rfl (λW hS _=>n4p _ _ W) (λ_=>rfl)) (pc zM (pc (by exact λcv L' H' hd hP=>X.v (jg rfl rfl)) (pc (by exact λcv L' H' hd hP=>X.v (jg rfl rfl)) (pc (by exact λcv L' H' hd hP=>X.v (ur rfl)) (pn)))))))))))))) ?_ ?_
 ·refine ss rfl ?_ ?_
  ·intro cv L' H' hl hP F Q' hk;obtain rfl:=my hl;obtain⟨rfl,rfl⟩:=hP;refine Jb ?_;intro BZ OB Eu Ev Ku Ew Kx;exact OJ.done (hk _ _ _ ⟨BZ,OB,rfl,rfl,rfl,Eu,⟨Ev.1,Ev.2.1⟩,Ku.1,Ew,Kx⟩)
  exact nn
 intro cv L' H' hl hP;obtain⟨v1,rfl⟩:=jv hl;obtain⟨BZ,OB,rfl,rfl,rfl,Eu,Ev,Ku,Ew,Kx⟩:=hP;refine B 7 ?_;refine call call216 rfl rfl rfl (λW hS=>n5p _ _ W) ?_;refine B 4 ?_;refine zTe ?_;refine B 12 ?_;refine cu (.inl rfl) results146 bB A2 zB ?_;exact Ks hZ x k e msg cV hk he

def cI (f:Nat->Int):List UInt8:=(List.range 32).map λi=>UInt8.ofNat (f i).toNat
theorem nI(f:Nat->Int):(cI f).length=32:=by simp[cI]
theorem Vv(f:Nat->Int)(hf:eu f)(i:Nat)(h:i<32):fU (cI f) i=f i:=by
 have:=hf i;simp only[fU,cI,mY,List.getElem?_range h,Ky,Option.getD_some,UInt8.toNat_ofNat'];omega
theorem cx.dg{t:Nat}{fr:Nat×Nat}{f:Nat->Int}(h:w.heap[b]? =some (.cells (dg f) t fr))(hf:eu f):cx w b 0 (cI f):=
 ⟨_,_,_,h,by rw[nI];exact aj 32,λi hi=>by rw[nI]at hi;rw[mr,rI f i hi,Vv f hf i hi]⟩
theorem nTh(hZ:FxOk Z)(s:ByteArray)(hs0:s.size<1000)(xs:List UInt8)(hn:xs.length<900000000000)(b off c:Nat)(hc:xs.length<=c)(w:World)(h:cx w b off xs)(hg:Glb w):Calls prog 87 #[.string s,.slice (some ⟨b,off,none⟩) xs.length c] w (aP w (.agg (Px.dg (Z.tg s xs)))):=by
 rw[<-hZ.tg];obtain⟨cs,t,fr,h1,h2,h3⟩:=h;obtain⟨⟨t2,xQ,g1⟩,t3,ra,g2⟩:=hg;exact npe s xs.length (fU xs) b off c t t2 t3 fr xQ ra cs hs0 hc aa w h1 h2 h3 g1 g2
abbrev kK (n:Int):Prop:= -9223372036854775808<=n/\n<=9223372036854775807
def Vw:V->List Value
 | .int n=>[.int .i64 1,.int .i64 n,.string ⟨#[]⟩,.slice none 0 0]
 | .text s=>[.int .i64 2,.int .i64 0,.string s,.slice none 0 0]
 | .list _=>[]
def wh:V->Bool
 | .list _=>false
 |_=>true
def nM (l:List V):List Value:=l.flatMap Vw
theorem nah(x:V)(h:wh x=true):(Vw x).length=4:=by cases x<;>simp_all[wh,Vw]
theorem n3o(l:List V)(h:l.all wh=true):(nM l).length=l.length*4:=by induction l<;>grind [nM,nah]
theorem Ex(N:Nat)(w:World):∀(l:List V),l.all wh=true->∀(pre sp:List Value),gT N w (pre++(nM l++sp)).toArray pre.length l
 | [],_,_,_=>by simp only[gT]
 |x::l,h,pre,sp=>by
  simp only[List.all_cons,mO]at h;have ih:=Ex N w l h.2 (pre++Vw x) sp;have e:pre++Vw x++(nM l++sp)=pre++(nM (x::l)++sp):=by simp[nM]
  rw[e,cO,nah x h.1]at ih;have hc:cut (pre++(nM (x::l)++sp)).toArray pre.length 4=(Vw x).toArray:=by
   unfold cut;simp only[nM,Vx,jh];rw[List.drop_left' rfl,<-nah x h.1,QT rfl]
  simp only[gT];refine⟨?_,?_,ih⟩
  ·simp only[rh,cO,n3o (x::l) (by simp[h.1,h.2]),dO];omega
  rw[hc];cases x with
  |int n=>simp only[fu];rfl
  |text s=>simp only[fu];rfl
  |list l'=>simp[wh]at h
theorem KA{N t cap:Nat}{fr:Nat×Nat}{l:List V}(hl:l.all wh=true)(hb:b<N)(hc:l.length<=cap)(h:w.heap[b]? =some (.cells (nM l++sp).toArray t fr)):fu N w (.list l) (vL (ao b) l.length cap):=by
 simp only[fu];exact⟨_,_,rfl,hc,.inr ⟨b,_,t,fr,rfl,hb,h,by have:=Ex N w l hl [] sp;simpa using this⟩⟩
theorem B0(x:V)(hf:wh x=true)(h:x.fine):x.enc.length<=1000000020:=by
 cases x with
 |int n=>
  simp only[V.fine]at h;have:=C4 (Ee n h.1 h.2);simp only[V.enc,dO];omega
 |text s=>
  simp only[V.fine]at h;have:=C4 (u:=s.size) aa;have e:s.data.toList.length=s.size:=Ox;simp only[V.enc,dO,cO,e];omega
 |list l=>simp[wh]at hf
theorem ntf(l:List V)(hf:l.all wh=true)(h:V.fineL l):(V.encL l).length<=l.length*1000000020/\V.depthL l=0:=by
 induction l with
 |nil=>simp[V.encL,V.depthL]
 |cons x l ih=>
  simp only[List.all_cons,mO]at hf;simp only[V.fineL]at h;obtain⟨h1,h2⟩:=ih hf.2 h.2;have h3:=B0 x hf.1 h.1;simp only[V.encL,V.depthL,cO,dO,h2];refine⟨by omega,?_⟩;cases x with
  |int n=>simp[V.depth]
  |text s=>simp[V.depth]
  |list l'=>simp[wh]at hf
theorem nO:u3 prog 2 33 (mF 32 [.i]):=u3.array underlying33 sizeOf5 rfl (mP.int underlying5 isAgg5)
theorem nF:prog.eqGuardType prog.depth 33=false:=by kernel_rfl
def iA (f g:Nat->Int):Bool:=oT (dg f).toList (dg g).toList
theorem Ey(f:Nat->Int):iA f f=true:=nBm (ks:=mF 32 [.i]) (ys:=(dg f).toList) rfl
def tB (a b:Int):Int×Int:=if eg a/\eg b then(a*b%4611686018427377339,0)else(0,40)
theorem nZn{b:Int}(h:¬(eg a/\eg b)):tB a b=(0,40):=by unfold tB;rw[if_neg h]
theorem nHn{b:Int}(ha:eg a)(hb:eg b):tB a b=(a*b%4611686018427377339,0):=by unfold tB;rw[if_pos ⟨ha,hb⟩]
theorem Vy(h:¬(if eg x then(0:Int)else 40)=0):¬eg x:=λg=>h (if_pos g)
theorem nNg(h:(if eg x then(0:Int)else 40)=0):eg x:=by grind
def Jg (a b:Int) (j:Nat):Int:=match j with|0=>a|_=>b
theorem Ez(a b:Int)(j:Nat)(h:j<2):(#[ab a,ab b]:Array Value)[j]? =some (ab (Jg a b j)):=by
 match j,h with
 |0,_=>rfl
 |1,_=>rfl
theorem nXp(a b:Int)(w:World):Calls prog 127 #[ab a,ab b] w (aP w (rH (tB a b))):=by
 refine ef 11 func127 ntmps127 ?_;refine rv rfl rfl rfl (y6 underlying330 zeroValue330 sizeOf3 rfl rfl rfl rfl) ?_;refine B 4 ?_;refine CJ.lp (α:=Nat) [0,1,11] (λj=>[(12,ab (j:Int))]) (λj=>[]) (λj=>j<=2/\(1<=j->eg a)/\(2<=j->eg b)) (λj=>2-j) 0 ⟨by omega,λh=>absurd h aa,λh=>absurd h aa⟩ ?_;rintro j ⟨hj,KB,aho⟩;refine aG 6 ?_ ?_
 ·intro av;refine B 6 ?_;refine rq (ab (Jg a b j)) (uW underlying330 isAgg3 sizeOf3 rfl rfl aa aa (by rw[xR];exact Ez a b _ aa)) (congrArg (λk=>ab (Jg a b k)) aa) ?_;refine B 6 ?_;obtain⟨e,he⟩:∃e,(if eg (Jg a b j)then(0:Int)else 40)=e:=⟨_,rfl⟩;refine zVd ?_;refine aG 9 ?_ ?_
  ·intro aR;refine B 13 ?_;refine nT results127 rfl rfl A0 ?_ ?_
   ·exact congrArg ab (by rw[nZn (λg=>by match j,he with|0,he=>exact Vy (x:=Jg a b 0) KC g.1|j+1,he=>exact Vy (x:=Jg a b (j+1)) KC g.2)])
   exact congrArg ab (by rw[nZn (λg=>by match j,he with|0,he=>exact Vy (x:=Jg a b 0) KC g.1|j+1,he=>exact Vy (x:=Jg a b (j+1)) KC g.2),<-he];exact if_neg (Vy KC))
  intro aR;refine B 7 ?_;refine ag (j+1) ⟨by omega,λ_=>by match j,KB,he with|0,_,he=>exact nNg (x:=Jg a b 0) KC|j+1,KB,_=>exact KB aa,λh=>by match j,hj,he with|0,_,_=>exact absurd h aa|1,_,he=>exact nNg (x:=Jg a b 1) KC|j+2,hj,_=>exact absurd av aa⟩
 intro av;refine B 6 ?_;have hj2:j=2:=by omega
 have hga:=KB aa;have C0:=aho aa;have fX:=hga.1;have dJ:=hga.2.1;have hb1:=C0.1;have dw:=C0.2.1;have xO:=Int.emod_nonneg (a*b) (b:=4611686018427377339) zA;have cK:=Int.emod_lt_of_pos (a*b) (b:=4611686018427377339) zA;refine B 5 ?_;refine call call190 rfl rfl rfl (λW hS=>nwf a b aa aa aa aa W) ?_;refine B 6 ?_;refine nT results127 rfl rfl A0 ?_ ?_
 ·exact congrArg ab (by rw[nHn hga C0])
 exact congrArg ab (by rw[nHn hga C0])
def Ym:List TK:=mF 3 [.i]
theorem eqA248:u3 prog 2 248 Ym:=u3.array underlying248 sizeOf100 rfl ((mP.int underlying100 isAgg100).up zA:mP prog 1 100 [.i])
theorem QU:prog.eqGuardType prog.depth 248=false:=by kernel_rfl
def pA (Z:Fx) (p:Int) (msg:List UInt8) (r s:Int):Bool:=decide (eg p/\eg r/\q9 s/\(Z.ge 4 s).1=(tB r (Z.ge p (C9 Z r p msg)).1).1)
theorem nCo{e:Int}(h:(if eg x then(0:Int)else 40)=e):e=0↔eg x:=⟨λg=>nNg (h.trans g),λg=>by rw[<-h,if_pos g]⟩
theorem EA{e:Int}(h:(if pr x then(1:Int)else 0)=e):e=0↔q9 x:=by
 all_goals(simp_all[q9,ngj,n0k];omega)
theorem KD{p r s e1 e2 e3:Int}{msg:List UInt8}(h1:e1=0↔eg p)(h2:e2=0↔eg r)(h3:e3=0↔q9 s)(h:¬(e1=0/\e2=0/\e3=0)):bG= .bool (pA Z p msg r s):=by
 refine vb (decide_eq_false ?_).symm;all_goals grind
theorem EB{p r s e1 e2 e3 e:Int}{msg:List UInt8}{m:Int×Int}(h1:e1=0↔eg p)(h2:e2=0↔eg r)(h3:e3=0↔q9 s)(h:e1=0/\e2=0/\e3=0)(he:C9 Z r p msg=e)(hm:tB r (Z.ge p e).1=m):Value.bool (decide ((Z.ge 4 s).1=m.1))= .bool (pA Z p msg r s):=by
 subst he;subst hm;refine vb (decide_eq_decide.2 ?_);all_goals grind
theorem ahs(hZ:FxOk Z)(a k:Int)(w:World):Calls prog 125 #[ab a,ab k] w (aP w (rH (Z.ge a k))):=by
 rw[<-hZ.ge];exact nDk a k w
theorem eq3(a b c:Int):(!oT [ab a,ab b,ab c] [ab 0,ab 0,ab 0])=decide (¬(a=0/\b=0/\c=0)):=by grind [oT,QV]
theorem n1c(hZ:FxOk Z)(p r s:Int)(msg:List UInt8)(bm om cm:Nat)(wg:msg.length<=100000000000)(w:World)(pz:cx w bm om msg)(hg:Glb w):Calls prog 75 #[ab p,.slice (some ⟨bm,om,none⟩) msg.length cm,.agg #[ab r,ab s]] w (aP w (.bool (pA Z p msg r s))):=by
 have Yf:=pz.lt;obtain⟨e1,uu⟩:∃e,(if eg p then(0:Int)else 40)=e:=⟨_,rfl⟩;obtain⟨e2,Jh⟩:∃e,(if eg r then(0:Int)else 40)=e:=⟨_,rfl⟩;obtain⟨e,he⟩:∃e,C9 Z r p msg=e:=⟨_,rfl⟩;obtain⟨m,hm⟩:∃m,tB r (Z.ge p e).1=m:=⟨_,rfl⟩;have qD:=nCo uu;have VA:=nCo Jh;have hg4:=hg.lt;obtain⟨e3,Yn⟩:∃e,(if pr s then(1:Int)else 0)=e:=⟨_,rfl⟩;have hi3:=EA Yn;refine eN func75 ntmps75 ?_;refine cH 2 ?_;intro b5 w5 AP QW Yo rF rG;refine B 4 ?_;refine eS 10 9 [] (pb:=by exact zU 1 (k:=by exact aJ (nf call65 rfl rfl (λW hS _=>by rw[<-uu];exact nP p W) (λ_=>rfl)) (zU 2 (k:=by exact aJ (nf call65 rfl rfl (λW hS _=>by rw[<-Jh];exact nP r W) (λ_=>rfl)) (zU 2 (k:=by exact aJ (nf call123 rfl rfl (λW hS _=>by rw[<-Yn];exact nan s W) (λ_=>rfl)) (aJ (X.v (RV.re (y6 underlying248 zeroValue248 sizeOf100 rfl rfl rfl rfl) rfl)) zT))))))) (sp:=[_,some (ab e1),_,some (ab r),some (ab e2),_,some (ab s),some (ab e3),some (.agg #[ab e1,ab e2,ab e3]),_]) (h:=?_);intro _ _ hk;refine B 1 ?_;intro b7 ha ho;have kh:(w5.heap.size<=b7/\w.heap.size<=b7):=⟨ha.1,ha.2.1⟩;refine zE ?_;refine B 8 ?_;refine rq (.bool (decide (¬(e1=0/\e2=0/\e3=0)))) (dT eqA248 zA QU rfl rfl rfl) (vb (eq3 e1 e2 e3)) ?_;refine aG 2 ?_ ?_
 ·intro av;refine B 7 ?_;refine cu (.inl rfl) results75 bB A1 zB ?_;exact KD qD VA hi3 (by simpa using av)
 intro av;refine B 6 ?_;refine call call124 rfl rfl rfl (λW hS=>Oy hZ _ W) ?_;refine B 14 ?_;refine Jb ?_;refine yV ?_;intro b38 w38 aht ahu apc apd ape;refine call call126 rfl rfl rfl (λW hS=>nUi hZ r p e msg he wg bm om cm b38 _ _ _ W (pz.old hS A2 zI zz) (hS.old A0 aht ahu zz) (hg.old hS A2 zH zF)) ?_;refine call call125 rfl rfl rfl (λW hS=>ahs hZ p e W) ?_;refine B 12 ?_;refine call call127 rfl rfl rfl (λW hS=>by rw[<-hm];exact nXp _ _ W) (v:=rH m) ?_;refine B 16 ?_;refine cu (.inl rfl) results75 bB A2 zB ?_;exact EB qD VA hi3 (by simpa using av) he hm
def oU (n:Nat):List Nat:=if h:1<n then n::oU (n/2)else[]
termination_by n
decreasing_by omega
theorem VB{n:Nat}(h:1<n):oU n=n::oU (n/2):=by rw[oU,dif_pos h]
theorem Yp{n:Nat}(h:¬1<n):oU n=[]:=by rw[oU,dif_neg h]
theorem nYn(n:Nat):(oU n).length<=n:=by induction n using Nat.strongRecOn<;>grind [VB,Yp]
theorem neo{n:Nat}:∀x∈oU n,1<x/\x<=n:=by induction n using Nat.strongRecOn<;>grind [VB,Yp]
def tC (n:Nat):Nat:=n/2
def y8 (n:Nat):Nat:=n^^^1
theorem KE(n:Nat)(h:n<4611686018427387904):IntKind.i64.wrap ((BitVec.ofInt 64 (n:Int)^^^BitVec.ofInt 64 1).toNat:Int)=((y8 n:Nat):Int):=by
 have h1:n^^^1<2^62:=Nat.xor_lt_two_pow aa zA;have e1:(BitVec.ofInt 64 (n:Int))=BitVec.ofNat 64 n:=by simp
 have e2:(BitVec.ofInt 64 1)=BitVec.ofNat 64 1:=rfl;rw[e1,e2,BitVec.toNat_xor,BitVec.toNat_ofNat,BitVec.toNat_ofNat,Nat.mod_eq_of_lt (a:=n) aa];show IntKind.i64.wrap ((n^^^1:Nat):Int)=((n^^^1:Nat):Int);generalize n^^^1=m at *;simp[IntKind.wrap,IntKind.bits,IntKind.signed];omega
abbrev dd (d:Int):Prop:=0<=d/\d<512
theorem Yq:prog.info? 3=some Tryz.t3:=by kernel_rfl
theorem OC:jN prog 55 3 1:=⟨underlying55,Tryz.t3,ab 0,Yq,rfl,rfl,rfl,by decide⟩
theorem naj(d:Int)(h:dd d)(w:World):Calls prog 37 #[ab d] w (aP w (.tuple #[ab (512+d),ab 0])):=by
 have h1:=h.1;have h2:=h.2;refine eN func37 ntmps37 ?_;refine Qh ?_;refine Ji ?_;refine B 15 ?_;refine nT results37 rfl rfl A0 ?_ ?_;all_goals rfl
theorem nhl(d:Int)(h:¬dd d)(w:World):Calls prog 37 #[ab d] w (aP w (.tuple #[ab 0,ab 200])):=by
 refine ef 12 func37 ntmps37 ?_;refine ni (t:=6) rfl (λav=>?_) (λav=>?_)
 ·replace av:=ya av;refine B 14 ?_;exact z7g
 replace av:=ya av;refine aG 5 ?_ ?_
 ·intro aR;refine B 8 ?_;exact z7g
 intro aR;refine B 11 ?_;exact z7g
theorem n9h(n:Nat)(h:n<4611686018427387904)(w:World):Calls prog 188 #[ab (n:Int)] w (aP w (ab ((tC n:Nat):Int))):=by
 refine ef 8 func188 ntmps188 ?_;refine rv rfl rfl rfl (EC rfl rfl aa aa aa) ?_;refine B 4 ?_;refine aK results188 rfl A0 ?_;exact congrArg ab (by unfold tC;omega)
theorem n9l(n:Nat)(h:n<4611686018427387904)(w:World):Calls prog 303 #[ab (n:Int)] w (aP w (ab ((y8 n:Nat):Int))):=by
 refine ef 8 func303 ntmps303 ?_;refine rq (ab ((y8 n:Nat):Int)) (yR rfl rfl) (congrArg ab (KE n h)) ?_;refine B 4 ?_;refine aK results303 rfl A0 ?_;rfl
theorem ED(n:Nat)(w:World):Calls prog 251 #[ab (n:Int)] w (cZ w (λb:Nat=>.func (.func 291) #[] #[ptr b 0]) (λb w1=>w.heap.size<=b/\True/\w1.heap[b]? =some (oC #[ab (n:Int)] 312))):=by
 refine eN func251 ntmps251 ?_;refine cH 2 ?_;intro b1 w1 hb1 cK gS fX jK;refine B 10 ?_;refine sQ b1 results251 rfl A1 rfl ?_;exact λW hS=>⟨fX.1,True.intro,hS.old A0 hb1 cK trivial⟩
theorem KF(n:Nat)(hn:n<4611686018427387904)(b:Nat)(W:World)(hb1:W.heap[b]? =some (oC #[ab (n:Int)] 312)):uT prog 291 [ptr b 0] (λm:Nat=>[ab (m:Int)]) (CW (oU n)) (Is (oU n)) (λk=>k=b) (λ_=>False) W:=by
 intro l M I X0 hM hI hX hy h0;refine nB (dD hM (λ_=>False) (hI [] _)) [(b,oC #[ab (n:Int)] 312)] (vs:=[_,_]) func291 rfl ntmps291 rfl (Oi hM (hI [] _) h0 (by intro p hp;simp at hp;subst hp;exact hb1) (EE _) zJ) ?_;refine B 1 ?_;refine CJ.loop (α:=(List Nat×Nat)×aI) (λp=>[(0,yv l),(1,ptr b 0)]) (λp=>[(b,oC #[ab (p.1.2:Int)] 312)]) (λp=>[W]) (λp=>dD hM p.2 (hI p.1.1 p.2)) (λp=>p.1.1++oU p.1.2=oU n/\p.1.2<=n/\∀k,p.2 k->W.heap.size<=k) (λp=>p.1.2) (([],n),λ_=>False) ⟨rfl,aj _,λ_ h=>h.elim⟩ ⟨rfl,rfl,trivial⟩ rfl rfl zJ ?_;rintro⟨⟨pre,m⟩,V⟩ ⟨lQ,hmn,hV⟩;dsimp only at lQ hmn hV ⊢;refine B 6 ?_;refine ni (t:=5) rfl (λav=>?_) (λav=>?_)
 ·replace av:=ya av;refine B 2 ?_;refine BO (λV=>hI (pre++[m]) V) hX hV zJ rfl rfl rfl rfl (λW1 uU lI=>hy (pre) (m) V W1 ⟨oU (m/2),by rw[jh,<-lQ,VB (n:=m) aa];rfl⟩ uU lI) ?_ ?_
  ·intro V hV;refine B 13 ?_;refine call call188 rfl rfl rfl (λW hS=>n9h m aa W) ?_;refine kT (i:=0) rfl sizeOf312 rfl rfl rfl rfl (eh rfl) rfl ?_;refine B 1 ?_;refine PJ.again ((pre++[m],tC m),V) ⟨by dsimp only;rw[<-lQ,VB (n:=m) aa,jh];rfl,by dsimp only[tC];omega,hV⟩ (by dsimp only[tC];omega) ⟨rfl,rfl,trivial⟩ rfl rfl zJ
  intro V hV;refine B 8 ?_;exact BP (.inr rfl) results291 A0 hV zJ (λA hA=>.inr hA)
 replace av:=ya av;refine B 11 ?_;exact BP (.inr rfl) results291 A0 hV zJ (λA hA=>.inl ⟨pre,by rw[<-lQ,Yp aa,ee],hA⟩)
theorem nzp(fo:Nat->Nat)(pre:List Nat)(x:Nat):(pre++[x]).map (λn=>((fo n:Nat):Int))=pre.map (λn=>((fo n:Nat):Int))++[((fo x:Nat):Int)]:=by simp
theorem n2h(fo:Nat->Nat)(g:Nat)(aA:eU prog g)(OD:∀(n:Nat) (w:World),n<4611686018427387904->Calls prog g #[ab (n:Int)] w (aP w (ab ((fo n:Nat):Int))))(d:Int)(kk:Nat)(Da:512+d=(kk:Int))(hd:dd d)(w:World):Calls prog 187 #[ab d,.func (.func g) #[] #[]] w (aD w az 1 3 (List.map (λn=>((fo n:Nat):Int)) (oU kk)) (λs=>.tuple #[s,ab 0])):=by
 have hd1:=hd.1;have hd2:=hd.2;have hul:=nYn kk;refine Qk Gh.no [] (vs:=[_,_]) func187 rfl ntmps187 rfl (JU w) ?_;refine cH 2 ?_;intro b3 w3 dA cX fT eC ff;refine bH 1 ?_;intro b4 iT iU;refine B 6 ?_;refine call call37 rfl rfl rfl (λW hS=>by rw[<-Da];exact naj d hd W) (v:=.tuple #[ab (kk:Int),ab 0]) ?_;refine aE 11 bG ?_;refine B 9 ?_;refine Qx (α:=Nat) (v:=λb=>.func (.func 291) #[] #[ptr b 0]) (bo:=λb=>(b,oC #[ab (kk:Int)] 312)) (Φ:=λ_=>True) call251 rfl rfl rfl (λW hS=>ED kk W) ?_;intro bu tD KG _;dsimp only at tD KG ⊢;replace tD:=yb tD;simp only[bM,and_true]at KG;refine B 3 ?_;refine n9o (f:=291) (cap:=[ptr bu 0]) (α:=Nat) (enc:=(λm:Nat=>[ab (m:Int)])) (Pre:=CW (oU kk)) (Fin:=Is (oU kk)) (RO:=λ_=>False) (i:=0) (b:=bu) (o:=oC #[ab (kk:Int)] 312) (H:=[(b4,oC #[ak] 55)]) rfl rfl zC zI rfl call291 (λW W2 hS fE hB=>KF kk aa bu W2 (by rw[hB.block bu (bA.1 fE).1];exact fE)) (λ_ _ _ hk=>hk.elim) (λ_=>rfl) (λpre G' Hc=>G'=Gh.no/\∃r:Rw,r.Fr Gh.no [w3,w]/\r.Fit 1 (List.map (λn=>((fo n:Nat):Int)) pre)/\Hc=[(b4,oC #[r.val (List.map (λn=>((fo n:Nat):Int)) pre).length] 55)]++(r.hp az 3 (List.map (λn=>((fo n:Nat):Int)) pre)++[])) (λ_ _ _=>False) ⟨rfl,.nil,True.intro,rfl,rfl⟩ zA ?_ ?_ ?_
 ·rintro pre x G' Hc l Dk rec W1 M V Wy p7 xN eK ⟨rfl,r,aM,ae,rfl⟩ jf mm Qm yG dK DS;simp only[ah]at jf yG;have bJ:r.ge w3.heap.size:=Rw.ge_of aM A0;have cX:=dK.z (k:=b3) aa zI mV zI;have QX:=neo x (eK.subset zJ);have gj:=eK.length_le;simp only[cO,dO,fO]at gj;have EF:∀p∈r.hp az 3 (List.map (λn=>((fo n:Nat):Int)) pre),M p.1\/V p.1:=λp hp=>dK.loc.h p VC;refine B 3 ?_;refine Om p7 ?_;refine B 1 ?_;refine eS 5 4 [] (pb:=by exact zU 3 (k:=by exact aJ (nNn (first:=[]) (cap:=[]) rfl aA rfl rfl (λW hS _=>OD x W aa) (λ_=>rfl)) zT)) (h:=?_);intro _ _ hk;refine Jb ?_;intro b23 w23 QQ ha QS QR hz;refine zE ?_;refine kz (r:=r) (xs:=(List.map (λn=>((fo n:Nat):Int)) pre)) (zs:=[((fo x:Nat):Int)]) (enc:=az) (m:=1) (H0:=[(b4,oC #[r.val (List.map (λn=>((fo n:Nat):Int)) pre).length] 55)]) (H1:=(l,.loop {rec with state:=.busy})::ji Dk) zX OC ny rfl rfl rfl rfl (cD.one (z:=((fo x:Nat):Int)) ny OE underlying55 (bE.old A0 QQ QR QS)) ae (Rw.Fr_ext EF) zJ QY ?_;intro lR u7 mG qE rS;replace qE:=yb qE;refine B 3 ?_;refine B1 (L':=[Wy,w3,w]) zJ ?_;refine JW (G2:=Gh.no) (Hc2:=[(b4,oC #[(Rw.row lR u7 mG).val ((List.map (λn=>((fo n:Nat):Int)) pre)++[((fo x:Nat):Int)]).length] 55)]++((Rw.row lR u7 mG).hp az 3 ((List.map (λn=>((fo n:Nat):Int)) pre)++[((fo x:Nat):Int)])++[])) dK mm ⟨λ_ h=>h,λ_ h=>.inl h,λ_ h=>.inl h,(VD rfl (qE.imp id (λh=>h.2.1))),zTc⟩ (JX p7 xN) ?_
  rw[nzp];exact⟨rfl,.row lR u7 mG,qE.elim (λh=>Rw.Fr_at aM h) (λh=>.inr h.2.2),rS,rfl⟩
 ·rintro qB l Dk rec G' Hc rfl jf mm ⟨rfl,r,aM,ae,rfl⟩;replace jf:=yb jf;have bJ:r.ge w3.heap.size:=Rw.ge_of aM A0;refine QZ λWd yF=>?_;have mX:=VE yF;refine B 5 ?_;refine jO (i:=0) rfl sizeOf55 rfl rfl rfl (Rw.val_size _ _) rfl (Rw.val_one _ _) ?_;refine B 4 ?_;have hq:=λ(k:Nat)=>Rw.mem_ge (enc:=az) (t:=3) (xs:=(List.map (λn=>((fo n:Nat):Int)) (oU kk))) (k:=k) bJ;refine PJ.reH (H':=(b4,oC #[r.val (List.map (λn=>((fo n:Nat):Int)) (oU kk)).length] 55)::(r.hp az 3 (List.map (λn=>((fo n:Nat):Int)) (oU kk))++(l,.loop rec)::ji Dk)) VF ?_;refine EG (b:=b4) (r:=r) (xs:=(List.map (λn=>((fo n:Nat):Int)) (oU kk))) (.inl rfl) results187 isAgg55 rfl rfl zJ A0 (mX _ A0).1 rfl ae (λp hp=>⟨.tail _ (aY.2 (.inl hp)),(mX p (aY.2 (.inr (aY.2 (.inl hp))))).1⟩) (Rw.ge_of aM A1) (λW H' hS aW=>(hS.links w A1).below λk hk hx=>?_);exact Yr
 exact Qo
def dt (d:Int):List Int:=(oU (512+d).toNat).map λn=>((tC n:Nat):Int)
def ki (d:Int):List Int:=(oU (512+d).toNat).map λn=>((y8 n:Nat):Int)
theorem Q0:eU prog 188:=call188
theorem Q1:eU prog 303:=call303
theorem nXf(d:Int)(hd:dd d)(w:World):Calls prog 112 #[ab d] w (aD w az 1 3 (dt d) (λs=>.tuple #[s,ab 0])):=by
 obtain⟨kk,Da⟩:∃kk:Nat,512+d=(kk:Int):=⟨(512+d).toNat,by have:=hd.1;omega⟩;have e:dt d=(List.map (λn=>((tC n:Nat):Int)) (oU kk)):=by unfold dt;rw[Da,xU]
 rw[e];refine ef 9 func112 ntmps112 ?_;refine Jj (enc:=az) (m:=1) (t:=3) (xs:=(List.map (λn=>((tC n:Nat):Int)) (oU kk))) (v:=λs=>.tuple #[s,ab 0]) (first:=[]) (cap:=[]) rfl call187 rfl rfl rfl (λW hS=>n2h tC 188 Q0 (λn w h=>n9h n h w) d kk Da hd W) ?_;intro r aM ae;refine B 7 ?_;exact nQ (H0:=[]) (H1:=[]) (r:=r) (.inl rfl) results112 bB A0 Ys rfl ae (Rw.ge_of aM A0) zJ
theorem ncm(d:Int)(hd:dd d)(w:World):Calls prog 261 #[ab d] w (aD w az 1 3 (ki d) (λs=>.tuple #[s,ab 0])):=by
 obtain⟨kk,Da⟩:∃kk:Nat,512+d=(kk:Int):=⟨(512+d).toNat,by have:=hd.1;omega⟩;have e:ki d=(List.map (λn=>((y8 n:Nat):Int)) (oU kk)):=by unfold ki;rw[Da,xU]
 rw[e];refine ef 9 func261 ntmps261 ?_;refine Jj (enc:=az) (m:=1) (t:=3) (xs:=(List.map (λn=>((y8 n:Nat):Int)) (oU kk))) (v:=λs=>.tuple #[s,ab 0]) (first:=[]) (cap:=[]) rfl call187 rfl rfl rfl (λW hS=>n2h y8 303 Q1 (λn w h=>n9l n h w) d kk Da hd W) ?_;intro r aM ae;refine B 7 ?_;exact nQ (H0:=[]) (H1:=[]) (r:=r) (.inl rfl) results261 bB A0 Ys rfl ae (Rw.ge_of aM A0) zJ
def eY (xs:List Int):List Int:=xs.mergeSort λx y=>decide (x<=y)
theorem KH(xs:List Int):(eY xs).length=xs.length:=List.length_mergeSort _
variable {xs:List Int}
theorem Yt(hl:xs.length<=1000000){cap t:Nat}(bP:(Rw.row b cap sp).Fit 1 xs)(h:W.heap[b]? =some (bj az t xs sp)):Calls prog 192 #[.slice (ao b) xs.length cap] W (λe w'=>∃bY,e= .returned ((λ_=>.tuple #[]) (Rw.row b cap bY))/\aQ (· =b) W w'/\(Rw.row b cap bY).Fit 1 (eY xs)/\w'.heap[b]? =some (bj az t (eY xs) bY)):=by
 have hc:=Any.slices_Sort_int Tryz.laySort b 0 cap xs W (EH h) (bA.1 h).1 aa;change Calls prog 192 _ _ _ at hc;refine hc.mono ?_;rintro e w' ⟨rfl,n,os,rfl⟩;obtain⟨h1,h2⟩:=Yu (n:=n) (os:=os) h (KH xs);exact⟨sp,rfl,h1,by simp only[Rw.Fit,KH];exact bP,h2⟩
theorem EI(W:World):Calls prog 192 #[ak] W (λe w'=>e= .returned (.tuple #[])/\Below W.heap.size W w'):=by
 have hc:=Any.slices_Sort_int_none Tryz.laySort none 0 W;change Calls prog 192 _ _ _ at hc;refine hc.mono ?_;rintro e w' ⟨rfl,h⟩;refine⟨rfl,?_⟩;first
  |(obtain⟨n,rfl⟩:=h;exact EJ W _)
  |(subst h;exact Below.refl _ _)
theorem Yv(hl:xs.length<=1000000){cap t:Nat}(bP:(Rw.row b cap sp).Fit 1 xs)(h:W.heap[b]? =some (bj az t xs sp)):Calls prog 250 #[.slice (ao b) xs.length cap] W (λe w'=>∃bY,e= .returned ((λr=>r.val (Go.Lib.compact xs).length) (Rw.row b cap bY))/\aQ (· =b) W w'/\(Rw.row b cap bY).Fit 1 (Go.Lib.compact xs)/\w'.heap[b]? =some (bj az t (Go.Lib.compact xs) bY)):=by
 obtain⟨f1,f2⟩:=bP;have hc:=Any.slices_Compact_int Tryz.layCompact b 0 cap xs W (EH h) aa f1;change Calls prog 250 _ _ _ at hc;refine hc.mono ?_;rintro e w' ⟨rfl,q,rfl⟩;have hle:=Go.Lib.compact_length_le xs;obtain⟨h1,h2⟩:=Yu (n:=q) (os:=#[]) (ys:=Go.Lib.compact xs++List.replicate (xs.length-(Go.Lib.compact xs).length) 0) h mV;rw[Go.Sort.grow_empty]at h1 h2;refine⟨iB az (List.replicate (xs.length-(Go.Lib.compact xs).length) 0)++sp,rfl,h1,⟨by omega,?_⟩,?_⟩
 ·rw[cO,sT ny,List.length_replicate,f2];omega
 rw[h2];simp only[bj,OF,jh]
theorem n7n(h:Rw.nil.Fit 1 xs)(W:World):Calls prog 192 #[Rw.nil.val xs.length] W (λe w'=>e= .returned ((λ_=>.tuple #[]) Rw.nil)/\eY xs=[]/\Below W.heap.size W w'):=
 (EI W).mono λe w' ⟨h1,h2⟩=>⟨h1,by have:xs=[]:=h;subst this;simp[eY],h2⟩
theorem n9p(W:World):Calls prog 250 #[ak] W (λe w'=>e= .returned (ak)/\Below W.heap.size W w'):=by
 have hc:=Any.slices_Compact_int_empty Tryz.layCompact none 0 W;change Calls prog 250 _ _ _ at hc;refine hc.mono ?_;exact zdi
theorem KI(h:Rw.nil.Fit 1 xs)(W:World):Calls prog 250 #[Rw.nil.val xs.length] W (λe w'=>e= .returned ((λr=>r.val (Go.Lib.compact xs).length) Rw.nil)/\Go.Lib.compact xs=[]/\Below W.heap.size W w'):=
 (n9p W).mono λe w' ⟨h1,h2⟩=>⟨h1,by have:xs=[]:=h;subst this;rfl,h2⟩
structure Nd where
 at_:Int
 pub:Int
def ie (n:Nd):List Value:=[ab n.at_,ab n.pub]
def fV (n:Nd):Array Value:=#[ab n.at_,ab n.pub]
theorem KJ(n:Nd):(ie n).length=2:=rfl
theorem KK(n:Nd):∀u∈ie n,u.oneCell'=true:=by intro u hu;simp[ie]at hu;rcases hu with rfl|rfl<;>rfl
def mQ (ns:List Nd):List Int:=(ns.filter λn=>decide (512<=n.at_/\n.at_<=1023)).map λn=>n.at_-512
variable {ns:List Nd} {j:Nat}
theorem nWj{x:Nd}(hx:ns[j]? =some x)(h1:512<=x.at_)(h2:x.at_<=1023):mQ (ns.take (j+1))=mQ (ns.take j)++[x.at_-512]:=by
 rw[np hx];simp[mQ,h1,h2]
theorem nHf{x:Nd}(hx:ns[j]? =some x)(h:¬(512<=x.at_/\x.at_<=1023)):mQ (ns.take (j+1))=mQ (ns.take j):=by simp_all[np,mQ]
theorem n7j(ns:List Nd)(j:Nat):(mQ (ns.take j)).length<=j:=by grind [mQ]
theorem KL(ns:List Nd)(j:Nat)(h:¬j<ns.length):mQ (ns.take j)=mQ ns:=by rw[iz aa]
def ei (ns:List Nd):List Int:=Go.Lib.compact (eY (mQ ns))
theorem npm(ns:List Nd):(ei ns).length<=ns.length:=by
 have h1:=Go.Lib.compact_length_le (eY (mQ ns));all_goals grind [n7j,KH,ei,List.take_length]
theorem EK:prog.info? 240=some Tryz.t240:=by kernel_rfl
theorem n3b(ns:List Nd)(hn:ns.length<=100000)(N:Nat)(a:Option Addr)(cp:Nat)(w:World)(hN:N<=w.heap.size)(aH:ai fV 2 N w a ns):Calls prog 186 #[.agg #[.slice a ns.length cp]] w (aD w az 1 3 (ei ns) id):=by
 have hlA:=n7j ns ns.length;rw[uw]at hlA;refine eN func186 ntmps186 ?_;refine cH 2 ?_;intro b1 w1 hb1 cK gS fX jK;refine aE 7 (.slice a ns.length cp) ?_;refine B 5 ?_;refine CJ.loop (α:=Rw×Nat) (λp=>[(1,ptr b1 0),(2,p.1.val (mQ (ns.take p.2)).length),(6,.slice a ns.length cp),(7,ab (ns.length:Int)),(8,ab (p.2:Int))]) (λp=>p.1.hp az 3 (mQ (ns.take p.2))++[]) (λp=>[w1,w]) (λp=>Gh.no) (λp=>p.2<=ns.length/\p.1.Fr Gh.no [w1,w]/\p.1.Fit 1 (mQ (ns.take p.2))) (λp=>ns.length-p.2) (.nil,0) ⟨cY _,True.intro,rfl⟩ zR rfl rfl zJ ?_;rintro⟨r,j⟩ ⟨hj,aM,ae⟩;dsimp only at hj aM ae ⊢;have bJ:r.ge w1.heap.size:=Rw.ge_of aM A0;have Qw:=n7j ns j;refine aG 6 ?_ ?_
 ·intro av;refine B 5 ?_;obtain⟨bo,oo,cs0,to,fC,rfl,fE,bW,aS⟩:=aH.get aa;obtain⟨x,hx⟩:=ng ns j aa;refine aE 2 (.agg (fV x)) ?_;refine bH 1 ?_;intro b4 iT iU;refine B 9 ?_;refine ni (t:=15) rfl (λaR=>?_) (λaR=>?_)
  ·replace aR:=ya aR;refine aG 6 ?_ ?_
   ·intro dm;refine B 5 ?_;refine EL ?_;refine yW ?_;intro lR Q2 Q3;refine kz (r:=r) (xs:=(mQ (ns.take j))) (zs:=[(x.at_-512)]) (enc:=az) (m:=1) (H0:=[(lR,oC #[ab (x.at_-512)] 3),(b4,oC (fV x) 240)]) (H1:=[]) zX OC ny rfl rfl rfl rfl (cD.one (z:=x.at_-512) ny OE underlying55 (bE.own (i:=0) rfl)) ae aM zJ y9 ?_;intro VG Q4 Q5 za zb;replace za:=yb za;refine zc ?_;refine PJ.again (Rw.row VG Q4 Q5,j+1) ⟨by dsimp only;omega,za.elim (λh=>Rw.Fr_at aM h) (λh=>.inr h),by rw[nWj hx aa aa];exact zb⟩ zW ⟨rfl,by rw[nWj hx aa aa];rfl,rfl,rfl,rfl,trivial⟩ (by rw[nWj hx aa aa];rfl) rfl zJ
   intro dm;refine xW ?_;exact znh
  replace aR:=ya aR;refine B 14 ?_;refine qF ?_;exact znh
 intro av;refine B 6 ?_;have cF:=KL ns j aa;rw[cF]at ae ⊢;refine B 2 ?_;refine EM (r:=r) (enc:=az) (m:=1) (t:=3) (xs:=mQ ns) (ys:=eY (mQ ns)) (H0:=[]) (H1:=[]) (v:=λ_=>.tuple #[]) rfl call192 rfl rfl rfl (λhr W _=>by subst hr;exact n7n ae W) (λb cap sp hr W _ h=>by subst hr;exact Yt aa ae h) ?_;intro r2 eM lS rT kA;have iV:=lS aM;have ey:=rT _ bJ;refine B 5 ?_;refine EM (r:=r2) (enc:=az) (m:=1) (t:=3) (xs:=eY (mQ ns)) (ys:=ei ns) (H0:=[]) (H1:=[]) (v:=λr=>r.val (ei ns).length) rfl call250 rfl rfl rfl (λhr W _=>by have e:=kA (mQ ns).length;rw[<-e];subst hr;rw[<-KH (mQ ns)];exact KI eM W) (λb cap sp hr W _ h=>by have e:=kA (mQ ns).length;rw[<-e];subst hr;rw[<-KH (mQ ns)];exact Yv (by rw[KH];omega) eM h) ?_;intro r3 mZ u9 EN EO;have KM:=u9 iV;have qb:=EN _ ey;refine B 4 ?_;exact nQ (H0:=[]) (H1:=[]) (r:=r3) (.inl rfl) results186 bB A1 (by rw[ee];exact Rw.over (Rw.ge_of KM A1)) rfl mZ (Rw.ge_of KM A1) zJ
def Db (kv:List (Int×Int)) (n:Nd):List (Int×Int):=if(aF kv n.at_).isSome then kv else dM kv n.at_ n.pub
def di (ns:List Nd):List (Int×Int):=ns.foldl Db []
theorem nBg{x:Nd}(hx:ns[j]? =some x):di (ns.take (j+1))=Db (di (ns.take j)) x:=by
 rw[np hx];simp[di,Jk]
theorem nRn{x:Nd}(hx:ns[j]? =some x)(h:(aF (di (ns.take j)) x.at_).isSome=false):di (ns.take (j+1))=dM (di (ns.take j)) x.at_ x.pub:=by
 rw[nBg hx];unfold Db;rw[if_neg (by rw[h];decide)]
theorem EP{x:Nd}(hx:ns[j]? =some x)(h:(aF (di (ns.take j)) x.at_).isSome=true):di (ns.take (j+1))=di (ns.take j):=by
 rw[nBg hx];unfold Db;rw[if_pos h]
theorem KN(ns:List Nd)(j:Nat)(h:¬j<ns.length):di (ns.take j)=di ns:=by rw[iz aa]
theorem Yw{β:Type}(l:List (Int×β))(k:Int)(v:β):(dM l k v).length<=l.length+1:=by
 unfold dM;split<;>simp
theorem VH(ns:List Nd):(di ns).length<=ns.length:=by
 have key:∀(l:List Nd) (kv:List (Int×Int)),(l.foldl Db kv).length<=kv.length+l.length:=by
  intro l;induction l with
  |nil=>intro kv;simp
  |cons n l ih=>
   intro kv;have h1:=ih (Db kv n);have h2:(Db kv n).length<=kv.length+1:=by unfold Db;split;omega;exact Yw _ _ _
   simp only[List.foldl_cons,dO];omega
 simpa[di]using key ns []
theorem Yx(ns:List Nd):((di ns).map (·.1)).Nodup:=by
 have key:∀(l:List Nd) (kv:List (Int×Int)),(kv.map (·.1)).Nodup->((l.foldl Db kv).map (·.1)).Nodup:=by
  intro l;induction l with
  |nil=>intro kv h;exact h
  |cons n l ih=>
   intro kv h;refine ih _ ?_;unfold Db;split
   ·exact h
   exact nte h
 exact key ns [] zJ
theorem nre(ns:List Nd)(hn:ns.length<=100000)(N:Nat)(a:Option Addr)(cp:Nat)(w:World)(hN:N<=w.heap.size)(aH:ai fV 2 N w a ns):Calls prog 67 #[.agg #[.slice a ns.length cp]] w (ER w ab (di ns) id):=by
 refine eN func67 ntmps67 ?_;refine cH 2 ?_;intro b1 w1 hb1 cK gS fX jK;refine B 5 ?_;refine KO ab rfl rfl ?_;refine yW ?_;intro b8 CZ Jc;refine aE 7 (.slice a ns.length cp) ?_;refine B 5 ?_;refine CJ.lp (α:=Mp×Nat) [1,3,10,11] (λp=>[(12,ab (p.2:Int))]) (λp=>[(b8,p.1.obj ab (di (ns.take p.2)))]) (λp=>p.2<=ns.length/\p.1.Ok (di (ns.take p.2))) (λp=>ns.length-p.2) (⟨[],0⟩,0) ⟨cY _,Mp.nil⟩ ?_;rintro⟨m,j⟩ ⟨hj,hm⟩;dsimp only at hj hm ⊢;refine aG 6 ?_ ?_
 ·intro av;refine B 5 ?_;obtain⟨bo,oo,cs0,to,fC,rfl,fE,bW,aS⟩:=aH.get aa;obtain⟨x,hx⟩:=ng ns j aa;refine aE 2 (.agg (fV x)) ?_;refine bH 1 ?_;intro b5 rF rG;refine B 8 ?_;refine rv rfl rfl rfl (rj (ev:=ab) underlying165 underlying3 zeroValue3 hm (bE.own (i:=1) rfl) rfl rfl) ?_;refine aG 13 ?_ ?_
  ·intro aR;refine B 6 ?_;refine OG (i:=1) (ev:=ab) (v:=x.pub) rfl hm underlying165 underlying3 rfl rfl rfl rfl ?_;intro m2 bX;refine xW ?_;refine PJ.again (m2,j+1) ⟨by dsimp only;omega,by rw[nRn hx cV];exact bX⟩ zW zR (by rw[nRn hx cV];rfl) rfl zJ
  intro aR;refine xW ?_;refine PJ.again (m,j+1) ⟨by dsimp only;omega,by rw[EP hx cV];exact hm⟩ zW zR (by rw[EP hx cV];rfl) rfl zJ
 intro av;refine B 6 ?_;have cF:=KN ns j aa;rw[cF]at hm ⊢;refine B 6 ?_;exact Yy (i:=0) (.inl rfl) results67 bB A1 C2 rfl hm rfl
theorem Yz:∀(n:Nat) (js:List Nat),js.Nodup->(∀j∈js,j<n)->js.length<=n
 |0,js,_,h=>by
  cases js with
  |nil=>simp
  |cons j js=>have:=h j zJ;omega
 |n+1,js,hd,h=>by
  have h1:=Yz n (js.erase n) (hd.erase n) (λj hj=>by
   have h2:=h j (List.mem_of_mem_erase hj);have h3:j≠n:=λe=>by subst e;exact absurd hj (by rw[hd.mem_erase_iff];simp)
   omega)
  have h2:=List.length_erase (a:=n) (l:=js);split at h2<;>omega
def Jl {β:Type} (kv:List (Int×β)) (j:Nat):Int:=((kv[j]?).map (·.1)).getD 0
theorem nZo{β:Type}{kv:List (Int×β)}{p:Int×β}(hp:kv[j]? =some p)(js:List Nat):(js++[j]).map (Jl kv)=js.map (Jl kv)++[p.1]:=by simp[Jl,hp]
theorem nMo{β:Type}{kv:List (Int×β)}{js:List Nat}(hd:js.Nodup)(hl:∀j∈js,j<kv.length)(cF:∀j,j<kv.length->j∈js):(js.map (Jl kv)).Perm (kv.map (·.1)):=by
 have h1:js.Perm (List.range kv.length):=(List.perm_ext_iff_of_nodup hd List.nodup_range).2 λa=>⟨λh=>ux.2 (hl a h),λh=>cF a (ux.1 h)⟩;have h2:(List.range kv.length).map (Jl kv)=kv.map (·.1):=by
  apply List.ext_getElem zJ;intro i h3 h4;simp only[eO,List.length_range]at h3;simp[Jl,h3]
 rw[<-h2];exact h1.map _
theorem nwp{p q:List Int}(h:p.Perm q):eY p=eY q:=by
 have hs:∀l:List Int,(eY l).Pairwise (λa b=>(decide (a<=b))=true):=λl=>List.pairwise_mergeSort (λa b c h1 h2=>by simp at *;omega) (λa b=>by simp;omega) l;exact List.Perm.eq_of_pairwise (λa b _ _ h1 h2=>by simp at h1 h2;omega) (hs p) (hs q) (((List.mergeSort_perm p _).trans h).trans (List.mergeSort_perm q _).symm)
theorem nvh{β:Type}{kv:List (Int×β)}{js:List Nat}{jn:Nat}{pn:Int×β}(hnd:js.Nodup)(qd:∀j∈js,j<kv.length)(wR:kv[jn]? =some pn)(tE:jn∉js):(js++[jn]).Nodup/\(∀j∈js++[jn],j<kv.length)/\js.length+1<=kv.length:=by
 exact zJg
variable {kv:List (Int×Int)}
theorem n8d(b:Nat)(m:Mp)(hm:m.Ok kv)(k:Int)(w:World)(hb:w.heap[b]? =some (m.obj ab kv)):Calls prog 113 #[.map (some b),ab k] w (λe w'=>∃m':Mp,e= .returned (.tuple #[])/\aQ (· =b) w w'/\m'.Ok (ik kv k)/\w'.heap[b]? =some (m'.obj ab (ik kv k))):=by
 refine nB (Gh.lent (· =b)) [(b,m.obj ab kv)] (vs:=[_,_]) func113 rfl ntmps113 rfl (Ef hb) ?_;refine B 3 ?_;refine YA (i:=0) (ev:=ab) rfl rfl hm underlying165 underlying3 rfl rfl rfl ?_;intro m2 bX;refine B 1 ?_;exact bQ (.inr rfl) (rs:=[]) results113 bB λW hS=>⟨m2,rfl,hS.baseX A0 OH,bX,hS.own _ A0⟩
theorem nFk(mp:Option Nat)(w:World):Calls prog 116 #[.map mp] w (cZ w (λb:Nat=>.func (.func 193) #[] #[ptr b 0]) (λb w1=>w.heap.size<=b/\w1.heap[b]? =some (oC #[.map mp] 165))):=by
 refine eN func116 ntmps116 ?_;refine cH 2 ?_;intro b1 w1 hb1 cK gS fX jK;refine B 10 ?_;refine sQ b1 results116 rfl A1 rfl ?_;exact zLh
theorem nIp(mb bx:Nat)(m:Mp)(hm:m.Ok kv)(W:World)(hb1:W.heap[bx]? =some (oC #[.map (some mb)] 165))(tF:W.heap[mb]? =some (m.obj ab kv)):uT prog 193 [ptr bx 0] az (λp=>p.length<=kv.length) (λxs=>xs.Perm (kv.map (·.1))) (λ_=>False) (λk=>k=bx\/k=mb) W:=by
 intro l M I X0 hM hI hX hy h0;have cK:¬(dD hM (λ_=>False) (hI [] _)).X bx:=by rintro(h|h);exact(hM _ h).2.2 (.inl rfl);exact h.elim
 have B2:¬(dD hM (λ_=>False) (hI [] _)).X mb:=by rintro(h|h);exact(hM _ h).2.2 (.inr rfl);exact h.elim
 have Q6:=(bA.1 tF).1;refine zFe ?_;refine B 3 ?_;refine ahC (ev:=ab) underlying165 (bE.old A0 tF B2 trivial) rfl rfl rfl ?_;intro rb wS YB;replace wS:=yb wS;refine B 3 ?_;refine CJ.loop (α:=List Nat×aI) (λp=>[(0,yv l),(5,ptr rb 0)]) (λp=>[(rb,m.it mb p.1)]) (λp=>[W]) (λp=>dD hM p.2 (hI (p.1.map (Jl kv)) p.2)) (λp=>p.1.Nodup/\(∀j∈p.1,j<kv.length)/\∀k,p.2 k->W.heap.size<=k) (λp=>kv.length-p.1.length) ([],λ_=>False) ⟨List.nodup_nil,by simp,λ_ h=>h.elim⟩ ⟨rfl,rfl,trivial⟩ rfl rfl zJ ?_;rintro⟨js,V⟩ ⟨hnd,qd,hV⟩;dsimp only at hnd qd hV ⊢;have B2:¬(dD hM V (hI (js.map (Jl kv)) V)).X mb:=by rintro(h|h);exact(hM _ h).2.2 (.inr rfl);have:=hV _ h;omega
 have YC:=Yz kv.length js hnd qd;refine B 2 ?_;refine YD (ev:=ab) (i:=0) rfl hm (bE.old A0 tF B2 zz) qd rfl rfl rfl (λcF=>?_) (λjn pn wR tE=>?_)
 ·refine B 9 ?_;exact BP (.inr rfl) results193 A0 hV zKb (λA hA=>.inl ⟨_,nMo hnd qd cF,hA⟩)
 refine B 10 ?_;refine rv rfl rfl rfl (Q7 (ev:=ab) (i:=0) rfl hm (bE.old A0 tF B2 zz) wR rfl) ?_;refine B 8 ?_;refine BO (λV=>hI (js.map (Jl kv)++[pn.1]) V) hX hV zJ rfl rfl rfl rfl (λW1 uU lI=>hy (js.map (Jl kv)) (pn.1) V W1 (by have h9:=(nvh hnd qd wR tE).2.2;simp only[cO,eO,dO,fO];omega) uU lI) ?_ ?_
 ·intro V hV;refine B 6 ?_;refine PJ.again (js++[jn],V) ⟨(nvh hnd qd wR tE).1,(nvh hnd qd wR tE).2.1,hV⟩ (by have h9:=(nvh hnd qd wR tE).2.2;simp only[cO,dO,fO];omega) ⟨rfl,rfl,trivial⟩ rfl (by dsimp only;rw[nZo wR]) zJ
 intro V hV;refine B 8 ?_;exact BP (.inl rfl) results193 A0 hV zKb (λA hA=>.inr hA)
variable {Fin Pre:List Int->Prop} {RO:Nat->Prop}
section
variable {f:Nat}{cap:List Value}(aA:eU prog f)(w:World)(pB:∀k,RO k->k<w.heap.size)(hlen:∀p,Pre p->p.length<=100000)(qG:∀W2,Below w.heap.size w W2->uT prog f cap az Pre Fin (λ_=>False) RO W2)
include f cap aA pB hlen qG
theorem nln:Calls prog 255 #[ak,.func (.func f) #[] cap.toArray] w (λe w'=>∃xs,Fin xs/\aD w az 1 3 xs id e w'):=by
 refine Qk Gh.no [] (vs:=[_,_]) func255 rfl ntmps255 rfl (JU w) ?_;refine OI ?_;refine yW ?_;intro b2 dJ dH;refine B 10 ?_;refine XA (f:=f) (cap:=cap) (α:=Int) (enc:=az) (Pre:=Pre) (Fin:=Fin) (RO:=RO) (MI:=λ_=>False) rfl aA (λW W2 hS hB=>qG W2 ((hS.links w A0).below (by simp only[dL,ft,cd,dV,or_false,Gh.no,false_or];omega) |>.trans (hB.mono (hS.links w A0).size))) (λ_ _ _ hk=>hk.elim) (λW hS k hk=>by have h1:=pB k hk;have h2:=(hS.links w A0).size;exact⟨by omega,by simp only[dL,ft,cd,dV,or_false];omega,λh=>h⟩) (λ_=>rfl) (λpre G' Hc=>G'=Gh.no/\∃r:Rw,r.Fr Gh.no [w]/\r.Fit 1 pre/\Hc=[(b2,oC #[r.val pre.length] 55)]++(r.hp az 3 pre++[])) (λ_ _ _=>False) ⟨rfl,.nil,True.intro,rfl,rfl⟩ zA ?_ ?_ ?_
 ·rintro pre x G' Hc l Dk rec W1 M V Wy p7 xN eK ⟨rfl,r,aM,ae,rfl⟩ jf mm Qm yG dK DS;simp only[ah]at jf yG;have bJ:r.ge w.heap.size:=Rw.ge_of aM A0;have gj:=hlen _ eK;simp only[cO,dO,fO]at gj;have EF:∀p∈r.hp az 3 pre,M p.1\/V p.1:=λp hp=>dK.loc.h p VC;refine B 3 ?_;refine Om p7 ?_;refine B 4 ?_;refine EL ?_;refine yW ?_;intro gd lT pC;refine kz (r:=r) (xs:=pre) (zs:=[x]) (enc:=az) (m:=1) (H0:=[(gd,oC #[ab x] 3),(b2,oC #[r.val pre.length] 55)]) (H1:=(l,.loop {rec with state:=.busy})::ji Dk) zX OC ny rfl rfl rfl rfl (cD.one (z:=x) ny OE underlying55 (bE.own (i:=0) rfl)) ae (Rw.Fr_ext EF) zJ y9 ?_;intro gB pD pE jL lk;replace jL:=yb jL;refine B 3 ?_;refine qF ?_;refine JW (G2:=Gh.no) (Hc2:=[(b2,oC #[(Rw.row gB pD pE).val (pre++[x]).length] 55)]++((Rw.row gB pD pE).hp az 3 (pre++[x])++[])) dK mm ⟨λ_ h=>h,λ_ h=>.inl h,λ_ h=>.inl h,(VD rfl (jL.imp id (λh=>h.1))),zTc⟩ (JX p7 xN) ?_;exact zlh
 ·rintro qB l Dk rec G' Hc dW jf mm ⟨rfl,r,aM,ae,rfl⟩;replace jf:=yb jf;have bJ:r.ge w.heap.size:=Rw.ge_of aM A0;refine QZ λWd yF=>?_;have mX:=VE yF;refine B 9 ?_;have hq:=λ(k:Nat)=>Rw.mem_ge (enc:=az) (t:=3) (xs:=qB) (k:=k) bJ;refine PJ.reH (H':=(b2,oC #[r.val qB.length] 55)::(r.hp az 3 qB++(l,.loop rec)::ji Dk)) VF ?_;refine B3 (.inl rfl) zJ λa W H' hF hS eV aW=>?_;refine⟨_,by rw[results_tmp results255];exact congrArg (λu=>Result.ok u W) (hF 4 _ rfl),qB,dW,r,rfl,?_,bJ,ae,?_⟩
  ·refine(hS.links w A0).below λk hk hx=>?_;exact Yr
  cases r with
  |nil=>trivial
  |row b cap sp=>exact hS.own _ (eV (b,bj az 3 qB sp) oV (mX _ oV).1)
 exact Qo
theorem nYk:Calls prog 191 #[.func (.func f) #[] cap.toArray] w (λe w'=>∃xs,Fin xs/\aD w az 1 3 xs id e w'):=by
 refine ef 8 func191 ntmps191 ?_;refine VI (enc:=az) (m:=1) (t:=3) (Fin:=Fin) (v:=id) call255 rfl rfl rfl (λW hS=>nln aA W (λk hk=>qH (pB k hk) (hS.links w A0).size) hlen (λW2 hB=>qG W2 (((hS.links w A0).below KP).trans (hB.mono (hS.links w A0).size)))) ?_;intro xs r dW aM ae;refine B 4 ?_;exact bQ (.inl rfl) results191 bB λW hS=>⟨xs,dW,r,rfl,hS.base A0 Ys,Rw.ge_of aM A0,ae,by cases r with|nil=>exact True.intro|row b cap sp=>exact hS.own _ A0⟩
theorem n4m(ys:List Int)(xV:∀xs,Fin xs->eY xs=ys/\xs.length<=100000):Calls prog 115 #[.func (.func f) #[] cap.toArray] w (aD w az 1 3 ys id):=by
 refine ef 8 func115 ntmps115 ?_;refine VI (enc:=az) (m:=1) (t:=3) (Fin:=Fin) (v:=id) call191 rfl rfl rfl (λW hS=>nYk aA W (λk hk=>qH (pB k hk) (hS.links w A0).size) hlen (λW2 hB=>qG W2 (((hS.links w A0).below KP).trans (hB.mono (hS.links w A0).size)))) ?_;intro xs r dW aM ae;obtain⟨KQ,hxl⟩:=xV xs dW;have bJ:=Rw.ge_of aM A0;refine B 6 ?_;refine EM (r:=r) (enc:=az) (m:=1) (t:=3) (xs:=xs) (ys:=eY xs) (H0:=[]) (H1:=[]) (v:=λ_=>.tuple #[]) rfl call192 rfl rfl rfl (λhr W _=>by subst hr;exact n7n ae W) (λb cap sp hr W _ h=>by subst hr;exact Yt aa ae h) ?_;intro r2 eM lS rT kA;have iV:=lS aM;have ey:=rT _ bJ;refine B 9 ?_;subst KQ;exact nQ (H0:=[]) (H1:=[]) (r:=r2) (.inl rfl) results115 bB A0 (by rw[ee];exact Rw.over (Rw.ge_of iV A0)) (by show r.val _=r2.val _;rw[<-kA,KH]) eM (Rw.ge_of iV A0) zJ
end
theorem ndl(bx:Nat)(W:World)(hb1:W.heap[bx]? =some (oC #[.map none] 165)):uT prog 193 [ptr bx 0] az (λp=>p.length<=0) (λxs=>xs=[]) (λ_=>False) (λk=>k=bx) W:=by
 intro l M I X0 hM hI hX hy h0;have cK:¬(dD hM (λ_=>False) (hI [] _)).X bx:=by rintro(h|h);exact(hM _ h).2.2 rfl;exact h.elim
 refine zFe ?_;refine B 3 ?_;refine YE underlying165 rfl rfl rfl ?_;intro rb wS YB;replace wS:=yb wS;refine B 3 ?_;refine CJ.lp (α:=Nat) [0,5] (λp=>[]) (λp=>[(rb,.mapIter none 0 #[] 0)]) (λp=>True) (λp=>0) 0 True.intro ?_;rintro p _;refine B 2 ?_;refine Q8 (i:=0) rfl rfl rfl rfl ?_;refine B 9 ?_;exact BP (.inr rfl) results193 A0 (λ_ h=>h.elim) (by intro k hk hx;simp only[dL,ft,cd,dV,or_false]at hx;omega) (λA hA=>.inl ⟨[],rfl,hA⟩)
def nU (kv:List (Int×Int)):List Nd:=(eY (kv.map (·.1))).map λk=>⟨k,(aF kv k).getD 0⟩
theorem YF:jN prog 49 240 2:=⟨underlying49,Tryz.t240,.agg #[ab 0,ab 0],EK,rfl,rfl,rfl,by decide⟩
theorem Rw.val_one2(n:Nat)(r:Rw):bD [r.val n]=true:=by cases r<;>rfl
theorem nDo{β:Type}(f:Int->β)(hx:xs[j]? =some x):(xs.take (j+1)).map f=(xs.take j).map f++[f x]:=by rw[np hx];simp
theorem Q9(o:Option Int):(o.map ab).getD (ab 0)=ab (o.getD 0):=by cases o<;>rfl
theorem ndg(sU:kv.length<=100000)(mb:Nat)(m:Mp)(hm:m.Ok kv)(w:World)(tF:w.heap[mb]? =some (m.obj ab kv)):Calls prog 66 #[.map (some mb)] w (aD w ie 2 240 (nU kv) (λs=>.agg #[s])):=by
 have Q6:=(bA.1 tF).1;have apf:(eY (kv.map (·.1))).length=kv.length:=by rw[KH,eO]
 refine eN func66 ntmps66 ?_;refine bH 3 ?_;intro b2 dJ dH;refine B 6 ?_;refine nv (α:=Nat) (v:=λb:Nat=>.func (.func 193) #[] #[ptr b 0]) (Φ:=λ(W:World) (b:Nat) (w1:World)=>W.heap.size<=b/\w1.heap[b]? =some (oC #[.map (some mb)] 165)) call116 rfl rfl rfl (λW hS=>nFk (some mb) W) ?_;rintro Wk bk wk wj ES ⟨Ra,zd⟩;try dsimp only at Ra zd
 have YG:=wj.under;replace YG:=yg YG;have ahF:=(bA.1 zd).1;have YH:=wj.sizes;replace YH:=yb YH;have hzk:=ES.size;refine nH (enc:=az) (m:=1) (t:=3) (xs:=eY (kv.map (·.1))) (v:=id) (first:=[]) (cap:=[]) rfl call115 rfl rfl rfl ny (λW hS=>n4m (f:=193) (cap:=[ptr bk 0]) (Pre:=λp=>p.length<=kv.length) (Fin:=λxs=>xs.Perm (kv.map (·.1))) (RO:=λk=>k=bk\/k=mb) call193 W ?_ ?_ ?_ _ ?_) ?_
 ·intro k hk;have h1:=(hS.links wk A0).size;rcases hk with rfl|rfl<;>omega
 ·intro p hp;have:p.length<=kv.length:=hp;omega
 ·intro W2 hB;exact nIp mb bk m hm W2 (by rw[hB.block bk (by have:=(hS.links wk A0).size;omega)];exact hS.old A0 zd zI zz) (by rw[hB.block mb (by have:=(hS.links w A1).size;omega)];exact hS.old A1 tF zI zz)
 ·intro xs hx;exact⟨nwp hx,by rw[hx.length_eq,eO];exact sU⟩
 intro Ws a7 Dc ws YI hBs ko od;have YJ:=YI.sizes;replace YJ:=yb YJ;have uy:=hBs.size;have YK:=YI.under;replace YK:=yg YK;refine B 5 ?_;refine CJ.lp (α:=Rw×Nat) [0,2,7,8] (λp=>[(9,ab (p.2:Int))]) (λp=>[(b2,oC #[p.1.val (((eY (kv.map (·.1))).take p.2).map (λk=>(⟨k,(aF kv k).getD 0⟩:Nd))).length] 51)]++(p.1.hp ie 240 (((eY (kv.map (·.1))).take p.2).map (λk=>(⟨k,(aF kv k).getD 0⟩:Nd)))++[])) (λp=>p.2<=(eY (kv.map (·.1))).length/\p.1.Fr Gh.no [ws,wk,w]/\p.1.Fit 2 (((eY (kv.map (·.1))).take p.2).map (λk=>(⟨k,(aF kv k).getD 0⟩:Nd)))) (λp=>(eY (kv.map (·.1))).length-p.2) (.nil,0) ⟨cY _,True.intro,rfl⟩ ?_;rintro⟨r,j⟩ ⟨hj,aM,ae⟩;dsimp only at hj aM ae ⊢;have bJ:r.ge ws.heap.size:=Rw.ge_of aM A0;refine aG 6 ?_ ?_
 ·intro av;refine B 5 ?_;obtain⟨bo,oo,cs0,to,fC,rfl,fE,bW,aS⟩:=ko.get aa;obtain⟨x,hx⟩:=ng (eY (kv.map (·.1))) j aa;have ahH:=od _ rfl;dsimp only at ahH;refine B 2 ?_;refine rv rfl rfl rfl (ar (v:=ab x) isAgg3 rfl A0 bW zI zz (by have:=nJ (enc:=λx=>(az x).toArray) (n:=1) aS hx rfl zA;simpa[az]using this)) ?_;refine B 9 ?_;refine rq (ab ((aF kv x).getD 0)) (oe (ev:=ab) underlying165 underlying3 zeroValue3 hm (bE.old A2 tF zI zz) rfl rfl) (Q9 _) ?_;refine B 1 ?_;refine kp underlying49 sizeOf240 zeroValue240 rfl rfl rfl rfl rfl rfl rfl ?_;refine yW ?_;intro ET ahI ahJ;refine kz (r:=r) (xs:=(((eY (kv.map (·.1))).take j).map (λk=>(⟨k,(aF kv k).getD 0⟩:Nd)))) (zs:=[(⟨x,(aF kv x).getD 0⟩:Nd)]) (enc:=ie) (m:=2) (H0:=[(ET,oC #[ab x,ab ((aF kv x).getD 0)] 240),(b2,oC #[r.val (((eY (kv.map (·.1))).take j).map (λk=>(⟨k,(aF kv k).getD 0⟩:Nd))).length] 51)]) (H1:=[]) zX YF KJ rfl rfl rfl rfl (cD.one (z:=(⟨x,(aF kv x).getD 0⟩:Nd)) KJ KK underlying49 (bE.own (i:=0) rfl)) ae aM zJ (by simp only[eO,jM,dO,fO];omega) ?_;intro rL ahK ahL Rb Rc;replace Rb:=yb Rb;refine B 1 ?_;refine kT (i:=1) rfl sizeOf49 rfl rfl rfl rfl (eh rfl) rfl ?_;refine xW ?_;refine PJ.again (Rw.row rL ahK ahL,j+1) ⟨by dsimp only;omega,Rb.elim (λh=>Rw.Fr_at aM h) (λh=>.inr h),by rw[nDo (λk=>(⟨k,(aF kv k).getD 0⟩:Nd)) hx];exact Rc⟩ zW zR (by rw[nDo (λk=>(⟨k,(aF kv k).getD 0⟩:Nd)) hx];rfl) rfl zJ
 intro av;refine B 6 ?_;have cF:(eY (kv.map (·.1))).take j=eY (kv.map (·.1)):=iz aa;rw[cF]at ae ⊢;refine B 2 ?_;refine zDe ?_;refine B 3 ?_;exact nQ (H0:=[(b2,oC #[r.val ((eY (kv.map (·.1))).map (λk=>(⟨k,(aF kv k).getD 0⟩:Nd))).length] 51)]) (H1:=[]) (r:=r) (.inl rfl) results66 bB A2 (by simp only[ee,im,eX,dx,Over];exact⟨by omega,Rw.over (Rw.ge_of aM A2)⟩) rfl ae (Rw.ge_of aM A2) (by simp[Value.cells,nU])
theorem nAf(w:World):Calls prog 66 #[.map none] w (aD w ie 2 240 [] (λs=>.agg #[s])):=by
 refine eN func66 ntmps66 ?_;refine bH 3 ?_;intro b2 dJ dH;refine B 6 ?_;refine nv (α:=Nat) (v:=λb:Nat=>.func (.func 193) #[] #[ptr b 0]) (Φ:=λ(W:World) (b:Nat) (w1:World)=>W.heap.size<=b/\w1.heap[b]? =some (oC #[.map none] 165)) call116 rfl rfl rfl (λW hS=>nFk none W) ?_;rintro Wk bk wk wj ES ⟨Ra,zd⟩;try dsimp only at Ra zd
 have YG:=wj.under;replace YG:=yg YG;have ahF:=(bA.1 zd).1;have YH:=wj.sizes;replace YH:=yb YH;have hzk:=ES.size;refine nH (enc:=az) (m:=1) (t:=3) (xs:=[]) (v:=id) (first:=[]) (cap:=[]) rfl call115 rfl rfl rfl ny (λW hS=>n4m (f:=193) (cap:=[ptr bk 0]) (Pre:=λp=>p.length<=0) (Fin:=λxs=>xs=[]) (RO:=λk=>k=bk) call193 W ?_ ?_ ?_ [] ?_) ?_
 ·intro k hk;have h1:=(hS.links wk A0).size;subst hk;omega
 ·intro p hp;omega
 ·intro W2 hB;exact ndl bk W2 (by rw[hB.block bk (by have:=(hS.links wk A0).size;omega)];exact hS.old A0 zd zI zz)
 ·intro xs hx;exact(by subst hx;exact⟨by simp[eY],by simp⟩)
 intro Ws a7 Dc ws YI hBs ko od;have YJ:=YI.sizes;replace YJ:=yb YJ;have uy:=hBs.size;have YK:=YI.under;replace YK:=yg YK;refine B 5 ?_;refine CJ.lp (α:=Nat) [2,8,9] (λp=>[]) (λp=>[(b2,oC #[ak] 51)]) (λp=>True) (λp=>0) 0 True.intro ?_;rintro p _;refine Ji ?_;refine B 16 ?_;exact nQ (H0:=[(b2,oC #[ak] 51)]) (H1:=[]) (r:=.nil) (.inl rfl) results66 bB A2 zmc rfl rfl True.intro rfl
def Dd (kv:List (Int×Bool)) (n:Int):List (Int×Bool):=dM kv n true
def Re (kv:List (Int×Bool)) (d:Int):List (Int×Bool):=(dt d).foldl Dd (dM kv (512+d) true)
def wT (ds:List Int):List (Int×Bool):=ds.foldl Re []
variable {d:Int}
theorem nVm{ds:List Int}(hx:ds[j]? =some d):wT (ds.take (j+1))=Re (wT (ds.take j)) d:=by rw[np hx];simp[wT,Jk]
variable {n:Int} {l:List Int} {i:Nat}
theorem nQl(hx:l[i]? =some n)(kv:List (Int×Bool)):(l.take (i+1)).foldl Dd kv=dM ((l.take i).foldl Dd kv) n true:=by rw[np hx];simp[Dd,Jk]
theorem KR(l:List Int)(i:Nat)(h:¬i<l.length)(kv:List (Int×Bool)):(l.take i).foldl Dd kv=l.foldl Dd kv:=by rw[iz aa]
theorem KT(l:List Int)(i:Nat)(h:¬i<l.length):wT (l.take i)=wT l:=by rw[iz aa]
def KU (ns:List Nd) (i:Nat) (x:Nd):Prop:=1<=x.at_/\x.at_<=1023/\(∀y,0<i->ns[i-1]? =some y->y.at_<x.at_)/\eg x.pub/\aF (wT (ei ns)) x.at_=some true
def vc (ns:List Nd):Prop:=∀i x,ns[i]? =some x->KU ns i x
def EU (ns:List Nd) (j:Nat):Prop:=∀i x,i<j->ns[i]? =some x->KU ns i x
open Classical in
noncomputable def jF (ns:List Nd):Int:=if vc ns then 0 else 210
theorem n7l(h:vc ns):jF ns=0:=by unfold jF;rw[if_pos h]
theorem nGh:jF ns=0↔vc ns:=by unfold jF;split<;>simp_all
theorem nBh(ns:List Nd):jF ns=0\/jF ns=210:=by unfold jF;split<;>simp
theorem nfd(h:EU ns j)(hj:¬j<ns.length):0=jF ns:=by
 rw[n7l];exact λi x hx=>h i x VJ hx
theorem nN{x:Nd}(hx:ns[j]? =some x)(h:¬KU ns j x):210=jF ns:=by
 unfold jF;rw[if_neg];exact λg=>h (g j x hx)
theorem EU.next{x:Nd}(h:EU ns j)(hx:ns[j]? =some x)(hk:KU ns j x):EU ns (j+1):=by
 exact zgi
theorem n7h{zs:List Int}(h:x∈Go.Lib.compact zs):x∈zs:=by
 unfold Go.Lib.compact Go.Lib.compactUpTo at h;all_goals grind
theorem nLj(h:d∈ei ns):dd d:=by
 have h1:=n7h h;have h2:=(List.mergeSort_perm (mQ ns) _).mem_iff.1 h1;obtain⟨n,hn,rfl⟩:=bT.1 h2;all_goals grind
theorem nim(d:Int):(dt d).length<=(512+d).toNat:=by unfold dt;rw[eO];exact nYn _
theorem nkk(o:Option Bool):(o.map Value.bool).getD (bG)= .bool (o.getD false):=by cases o<;>rfl
theorem n2c(o:Option Bool):o.getD false=true↔o=some true:=by cases o with|none=>simp|some b=>cases b<;>simp
theorem nKb(ns:List Nd)(hn:ns.length<=100000)(N:Nat)(a:Option Addr)(cp:Nat)(w:World)(hN:N<=w.heap.size)(aH:ai fV 2 N w a ns):Calls prog 111 #[.agg #[.slice a ns.length cp]] w (aP w (ab (jF ns))):=by
 have wg:=npm ns;refine eN func111 ntmps111 ?_;refine cH 2 ?_;intro b1 w1 hb1 cK gS fX jK;refine B 5 ?_;refine KO Value.bool rfl rfl ?_;refine yW ?_;intro iF EV EW;refine B 6 ?_;refine KV ?_;refine nH (enc:=az) (m:=1) (t:=3) (xs:=ei ns) (v:=id) (first:=[]) (cap:=[]) rfl call186 rfl rfl rfl ny (λW hS=>n3b ns hn N a cp W cJ (aH.up (aj _) hS.sm)) ?_;intro Wm am cpm wm wU KW EX YL;have YM:=wU.sizes;replace YM:=yb YM;have hzm:=KW.size;have YN:=wU.under;replace YN:=yg YN;refine B 5 ?_;refine CJ.lp (α:=Mp×Nat) [1,3,14,15] (λp=>[(16,ab (p.2:Int))]) (λp=>[(iF,p.1.obj Value.bool (wT ((ei ns).take p.2)))]) (λp=>p.2<=(ei ns).length/\p.1.Ok (wT ((ei ns).take p.2))) (λp=>(ei ns).length-p.2) (⟨[],0⟩,0) ⟨cY _,Mp.nil⟩ ?_;rintro⟨m,j⟩ ⟨hj,hm⟩;dsimp only at hj hm ⊢;refine aG 6 ?_ ?_
 ·intro av;refine B 5 ?_;obtain⟨bm,om,csm,tm,frm,rfl,oW,Rf,Rg⟩:=EX.get aa;have mX:=YL _ rfl;dsimp only at mX;obtain⟨d,hx⟩:=ng (ei ns) j aa;have hd:=nLj (cA hx);have hd1:=hd.1;have hd2:=hd.2;have gj:=nim d;refine B 2 ?_;refine rv rfl rfl rfl (ar (v:=ab d) isAgg3 rfl A0 Rf zI zz (by have:=nJ (enc:=λx=>(az x).toArray) (n:=1) Rg hx rfl zA;simpa[az]using this)) ?_;refine B 6 ?_;refine zDd ?_;intro Wp ap ig wp B4 Rh pF uz;have wV:=B4.sizes;replace wV:=yb wV;have hzp:=Rh.size;have wW:=B4.under;replace wW:=yg wW;refine B 12 ?_;refine OG (i:=0) (ev:=Value.bool) (v:=true) rfl hm underlying307 underlying3 rfl rfl rfl rfl ?_;intro m2 bX;refine B 10 ?_;refine CJ.lp (α:=Mp×Nat) [1,3,14,15,16,28,29] (λp=>[(30,ab (p.2:Int))]) (λp=>[(iF,p.1.obj Value.bool (((dt d).take p.2).foldl Dd (dM (wT ((ei ns).take j)) (512+d) true)))]) (λp=>p.2<=(dt d).length/\p.1.Ok (((dt d).take p.2).foldl Dd (dM (wT ((ei ns).take j)) (512+d) true))) (λp=>(dt d).length-p.2) (m2,0) ⟨cY _,bX⟩ ?_;rintro⟨mi,i⟩ ⟨hi,ze⟩;dsimp only at hi ze ⊢;refine aG 6 ?_ ?_
  ·intro aR;refine B 5 ?_;obtain⟨bq,oq,Ri,tq,Rj,rfl,pG,zf,qI⟩:=pF.get aa;have EY:=uz _ rfl;dsimp only at EY;obtain⟨n,hy⟩:=ng (dt d) i aa;refine B 2 ?_;refine z4d ?_;refine B 6 ?_;refine OG (i:=0) (ev:=Value.bool) (v:=true) rfl ze underlying307 underlying3 rfl rfl rfl rfl ?_;intro m3 cX;refine B 7 ?_;refine PJ.again (m3,i+1) ⟨by dsimp only;omega,by rw[nQl hy];exact cX⟩ zW zR (by rw[nQl hy];rfl) rfl zJ
  intro aR;refine B 6 ?_;have eD:((dt d).take i).foldl Dd (dM (wT ((ei ns).take j)) (512+d) true)=Re (wT ((ei ns).take j)) d:=by rw[KR _ _ aa];rfl
  rw[eD]at ze ⊢;refine B 4 ?_;refine PJ.again (mi,j+1) ⟨by dsimp only;omega,by rw[nVm hx];exact ze⟩ zW zR (by rw[nVm hx]) rfl zJ
 intro av;refine B 7 ?_;have cF:=KT (ei ns) j aa;rw[cF]at hm ⊢;refine aE 2 (.slice a ns.length cp) ?_;refine B 5 ?_;refine CJ.lp (α:=Nat) [1,3,39,40] (λj=>[(41,ab (j:Int))]) (λj=>[(iF,m.obj Value.bool (wT (ei ns)))]) (λj=>j<=ns.length/\EU ns j) (λj=>ns.length-j) 0 ⟨cY _,λi x hi=>absurd hi aa⟩ ?_;rintro j ⟨hj,dP⟩;refine aG 6 ?_ ?_
 ·intro dm;refine B 5 ?_;obtain⟨bo,oo,cs0,to,fC,rfl,fE,bW,aS⟩:=aH.get aa;obtain⟨x,hx⟩:=ng ns j aa;refine aE 3 (.agg (fV x)) ?_;refine bH 1 ?_;intro gB uZ yQ;refine B 5 ?_;by_cases h1:x.at_<1
  ·refine eA 34 (sp:=(_::_::(some bZ)::_)) (k:=?_);exact YO
  by_cases h2:1023<x.at_
  ·refine eA 34 (sp:=(_::_::(some bG)::_::_::_::(some bZ)::_)) (k:=?_);exact YO
  obtain⟨e,he⟩:∃e,(if eg x.pub then(0:Int)else 40)=e:=⟨_,rfl⟩;by_cases h3:j=0/\¬e=0
  ·refine eA 34 (pb:=by exact zU 27 (k:=by exact aJ (nf (v:=ab e) call65 rfl rfl (λW hS _=>by rw[<-he];exact nP _ W) (λ_=>rfl)) (aJ (X.v (RV.re (v':=bZ) (dz rfl rfl) (vb mV))) zT))) (sp:=(_::_::(some bG)::_::_::_::(some bG)::_::_::_::(some bG)::_)) (k:=?_);exact YO
  by_cases h4:j=0
  ·refine eA 34 (pb:=by exact zU 27 (k:=by exact aJ (nf (v:=ab e) call65 rfl rfl (λW hS _=>by rw[<-he];exact nP _ W) (λ_=>rfl)) (aJ (X.v (RV.re (v':=bG) (dz rfl rfl) (vb mV))) zT))) (sp:=(_::_::(some bG)::_::_::_::(some bG)::_::_::_::(some bG)::_)) (k:=?_);refine z6d ?_;refine aG 4 ?_ ?_
   ·intro je;refine B 11 ?_;exact zag
   intro je;exact zah
  obtain⟨y,hy⟩:=ng ns (j-1) aa;by_cases h5:x.at_<=y.at_
  ·refine eA 34 (pb:=by exact zU 20 (k:=by exact aJ (X.v (ar (v:=ab y.at_) isAgg3 rfl A2 bW zI zz zVc)) zT)) (sp:=[_,_,some bG,_,_,_,some bG,_,_,_,some bZ,_,_,_,_,some (.slice (some ⟨bo,oo,none⟩) ns.length cp),_,_,_,_,_,some bZ,_,_,_,_,_,_,_,_,_,_,_,_]) (k:=?_);exact YO
  by_cases h6:¬e=0
  ·refine eA 34 (pb:=by exact zU 20 (k:=by exact aJ (X.v (ar (v:=ab y.at_) isAgg3 rfl A2 bW zI zz zVc)) (zU 6 (k:=by exact aJ (nf (v:=ab e) call65 rfl rfl (λW hS _=>by rw[<-he];exact nP _ W) (λ_=>rfl)) (aJ (X.v (RV.re (v':=bZ) (dz rfl rfl) (vb mV))) zT))))) (sp:=[_,_,some bG,_,_,_,some bG,_,_,_,some bZ,_,_,_,_,some (.slice (some ⟨bo,oo,none⟩) ns.length cp),_,_,_,_,_,some bG,_,_,_,_,_,_,_,_,_,_,_,_]) (k:=?_);exact YO
  refine eA 34 (pb:=by exact zU 20 (k:=by exact aJ (X.v (ar (v:=ab y.at_) isAgg3 rfl A2 bW zI zz zVc)) (zU 6 (k:=by exact aJ (nf (v:=ab e) call65 rfl rfl (λW hS _=>by rw[<-he];exact nP _ W) (λ_=>rfl)) (aJ (X.v (RV.re (v':=bG) (dz rfl rfl) (vb mV))) zT))))) (sp:=[_,_,some bG,_,_,_,some bG,_,_,_,some bZ,_,_,_,_,some (.slice (some ⟨bo,oo,none⟩) ns.length cp),_,_,_,_,_,some bG,_,_,_,_,_,_,_,_,_,_,_,_]) (k:=?_);refine z6d ?_;refine aG 4 ?_ ?_
  ·intro ib;refine B 11 ?_;exact zag
  intro ib;exact zah
 intro dm;refine B 11 ?_;exact zag
def iq (kv:List (Int×Int)) (n:Int):List (Int×Int):=ik kv n
def mS (kv:List (Int×Int)) (d:Int):List (Int×Int):=(dt d).foldl iq (iq kv (512+d))
theorem nfg(hx:l[i]? =some n)(kv:List (Int×Int)):(l.take (i+1)).foldl iq kv=ik ((l.take i).foldl iq kv) n:=by rw[np hx];simp[iq,Jk]
theorem nko(h:¬i<l.length)(kv:List (Int×Int)):(l.take i).foldl iq kv=l.foldl iq kv:=by rw[iz aa]
theorem YP(kv:List (Int×Int))(d:Int):(mS kv d).length<=kv.length:=by
 have key:∀(l:List Int) (kv:List (Int×Int)),(l.foldl iq kv).length<=kv.length:=by
  intro l;induction l with
  |nil=>intro kv;exact aj _
  |cons n l ih=>intro kv;exact eE (ih _) (nji kv n).length_le
 exact eE (key _ _) (nji kv _).length_le
theorem nkh(kv:List (Int×Int)):(nU kv).length=kv.length:=by unfold nU;rw[eO,KH,eO]
section
variable (ns:List Nd)(hn:ns.length<=100000)(N:Nat)(a:Option Addr)(cp:Nat)(w:World)(hN:N<=w.heap.size)(aH:ai fV 2 N w a ns)
include hn N cp hN aH
theorem nAg(iC:jF ns=210)(d:Int)(mem:Bool):Calls prog 64 #[.agg #[.slice a ns.length cp],ab d,.bool mem] w (aP w (.tuple #[.map none,ak,ab 210])):=by
 refine eN func64 ntmps64 ?_;refine cH 2 ?_;intro b3 w3 dA cX fT eC ff;refine B 8 ?_;refine KV ?_;refine zIe ?_;refine aE 6 bZ ?_;refine B 13 ?_;exact cu (.inl rfl) results64 bB A1 trivial rfl
theorem nTk(iC:jF ns=0)(d:Int)(hd:dd d)(sV:aF (di ns) (512+d)=none):Calls prog 64 #[.agg #[.slice a ns.length cp],ab d,bZ] w (aP w (.tuple #[.map none,ak,ab 200])):=by
 have hd1:=hd.1;have hd2:=hd.2;refine eN func64 ntmps64 ?_;refine cH 2 ?_;intro b3 w3 dA cX fT eC ff;refine B 8 ?_;refine zFf ?_;refine wX ?_;refine KV ?_;refine zwd ?_;intro bf m EZ OD hm;replace EZ:=yb EZ;refine B 9 ?_;refine zSe ?_;refine Qh ?_;refine Ji ?_;refine B 5 ?_;refine rq bZ (kq rfl) (by rw[sV];rfl) ?_;refine B 14 ?_;exact cu (.inl rfl) results64 bB A1 C2 rfl
theorem nnf(iC:jF ns=0)(d:Int)(hd:dd d)(mem:Bool)(kL:mem=true->(aF (di ns) (512+d)).isSome=true):Calls prog 64 #[.agg #[.slice a ns.length cp],ab d,.bool mem] w (OK w ab (mS (di ns) d) az 1 (dt d) (λmp s=>.tuple #[mp,s,ab 0])):=by
 have hd1:=hd.1;have hd2:=hd.2;have gj:=nim d;refine eN func64 ntmps64 ?_;refine cH 2 ?_;intro b3 w3 dA cX fT eC ff;refine B 8 ?_;refine zFf ?_;refine wX ?_;refine KV ?_;refine zwd ?_;intro bf m EZ OD hm;replace EZ:=yb EZ;refine B 9 ?_;refine zSe ?_;refine Qh ?_;refine Ji ?_;refine B 4 ?_;refine ni (t:=37) rfl (λav=>?_) (λav=>?_)
 ·replace av:=ya av;refine B 1 ?_;refine rq bG (kq rfl) (vb (by rw[kL cV];rfl)) ?_;refine B 10 ?_;refine zDd ?_;intro Wp ap ig wp B4 Rh pF uz;have wV:=B4.sizes;replace wV:=yb wV;have hzp:=Rh.size;have wW:=B4.under;replace wW:=yg wW;refine B 9 ?_;refine XL ?_;refine B 8 ?_;refine zQd ?_;intro m1 cK;refine B 11 ?_;refine zAd ?_;rintro⟨mi,i⟩ ⟨hi,ze⟩;dsimp only at hi ze ⊢;refine aG 6 ?_ ?_
  ·intro aR;exact zEg
  intro aR;exact zxg
 replace av:=ya av;refine B 12 ?_;refine zDd ?_;intro Wp ap ig wp B4 Rh pF uz;have wV:=B4.sizes;replace wV:=yb wV;have hzp:=Rh.size;have wW:=B4.under;replace wW:=yg wW;refine B 9 ?_;refine XL ?_;refine B 8 ?_;refine zQd ?_;intro m1 cK;refine B 11 ?_;refine zAd ?_;rintro⟨mi,i⟩ ⟨hi,ze⟩;dsimp only at hi ze ⊢;refine aG 6 ?_ ?_
 ·intro dm;exact zEg
 intro dm;exact zxg
theorem KX(iC:jF ns=210)(d p:Int):Calls prog 34 #[.agg #[.slice a ns.length cp],ab d,ab p] w (aD w ie 2 240 [] (λs=>.tuple #[.agg #[s],ab 210])):=by
 refine eN func34 ntmps34 ?_;refine cH 2 ?_;intro b3 w3 dA cX fT eC ff;refine bH 1 ?_;intro b6 ky ri;refine OL ?_;refine call call64 rfl rfl rfl (λW hS=>nAg ns hn N a cp W cJ (aH.up (aj _) hS.sm) iC d false) ?_;refine QE ?_;refine B 13 ?_;exact nQ (enc:=ie) (m:=2) (t:=240) (xs:=[]) (H0:=_) (H1:=[]) (r:=.nil) (.inl rfl) results34 bB A1 zdc rfl rfl True.intro (ee _).symm
theorem KY(iC:jF ns=0)(d p:Int)(hd:dd d)(VK:(if eg p then(0:Int)else 40)=40):Calls prog 34 #[.agg #[.slice a ns.length cp],ab d,ab p] w (aD w ie 2 240 [] (λs=>.tuple #[.agg #[s],ab 50])):=by
 have hd1:=hd.1;have hd2:=hd.2;refine eN func34 ntmps34 ?_;refine cH 2 ?_;intro b3 w3 dA cX fT eC ff;refine bH 1 ?_;intro b6 ky ri;refine OL ?_;refine zWd ?_;intro bm m a8 OM Wc wc E1 Rk Rl B5 rU zg hm vd B6;replace rU:=yb rU;simp only[bM,and_true]at zg;have AQ:=Rk.size;have E2:=E1.sizes;replace E2:=yb E2;have E3:=E1.under;replace E3:=yg E3;refine aE 13 bG ?_;refine B 9 ?_;refine call call65 rfl rfl rfl (λW hS=>by rw[<-VK];exact nP p W) (v:=ab 40) ?_;refine YQ ?_;exact nQ (enc:=ie) (m:=2) (t:=240) (xs:=[]) (H0:=_) (H1:=[]) (r:=.nil) (.inl rfl) results34 bB A2 zdc rfl rfl True.intro (ee _).symm
theorem Rm(iC:jF ns=0)(d p:Int)(hd:dd d)(yZ:ns.length<100000)(VK:(if eg p then(0:Int)else 40)=0):Calls prog 34 #[.agg #[.slice a ns.length cp],ab d,ab p] w (aD w ie 2 240 (nU (dM (mS (di ns) d) (512+d) p)) (λs=>.tuple #[.agg #[s],ab 0])):=by
 have hd1:=hd.1;have hd2:=hd.2;refine eN func34 ntmps34 ?_;refine cH 2 ?_;intro b3 w3 dA cX fT eC ff;refine bH 1 ?_;intro b6 ky ri;refine OL ?_;refine zWd ?_;intro bm m a8 OM Wc wc E1 Rk Rl B5 rU zg hm vd B6;replace rU:=yb rU;simp only[bM,and_true]at zg;have AQ:=Rk.size;have E2:=E1.sizes;replace E2:=yb E2;have E3:=E1.under;replace E3:=yg E3;refine aE 13 bG ?_;refine B 9 ?_;refine call call65 rfl rfl rfl (λW hS=>by rw[<-VK];exact nP p W) (v:=ab 0) ?_;refine dp bG ?_;refine B 11 ?_;refine OG (i:=0) (ev:=ab) (v:=p) rfl hm underlying165 underlying3 rfl rfl rfl rfl ?_;intro m2 bX;refine B 5 ?_;refine VL (enc:=ie) (m:=2) (t:=240) (xs:=nU (dM (mS (di ns) d) (512+d) p)) (v:=λs=>.agg #[s]) (first:=[]) (cap:=[]) rfl call66 rfl rfl rfl (λW hS=>ndg (by have h1:=Yw (mS (di ns) d) (512+d) p;have h2:=YP (di ns) d;have h3:=VH ns;omega) bm m2 bX W (hS.own _ A0)) ?_;intro r aM ae;refine zCe ?_;refine B 4 ?_;exact nQ (enc:=ie) (m:=2) (t:=240) (xs:=nU (dM (mS (di ns) d) (512+d) p)) (H0:=[(bm,m2.obj ab (dM (mS (di ns) d) (512+d) p)),(b6,oC #[r.val (nU (dM (mS (di ns) d) (512+d) p)).length] 51)]) (H1:=[]) (r:=r) (.inl rfl) results34 bB A2 zNb rfl ae (Rw.ge_of aM A2) z4b
theorem nWo(iC:jF ns=210)(d:Int):Calls prog 35 #[.agg #[.slice a ns.length cp],ab d] w (aD w ie 2 240 [] (λs=>.tuple #[.agg #[s],ab 210])):=by
 refine eN func35 ntmps35 ?_;refine cH 2 ?_;intro b2 w2 dw bX fB dJ dH;refine bH 1 ?_;intro b4 iT iU;refine zzf ?_;exact zOg
theorem npp(iC:jF ns=0)(d:Int)(hd:dd d)(sV:aF (di ns) (512+d)=none):Calls prog 35 #[.agg #[.slice a ns.length cp],ab d] w (aD w ie 2 240 [] (λs=>.tuple #[.agg #[s],ab 200])):=by
 refine eN func35 ntmps35 ?_;refine cH 2 ?_;intro b2 w2 dw bX fB dJ dH;refine bH 1 ?_;intro b4 iT iU;refine OL ?_;refine z4e ?_;exact zOg
theorem n7p(iC:jF ns=0)(d:Int)(hd:dd d)(kL:(aF (di ns) (512+d)).isSome=true):Calls prog 35 #[.agg #[.slice a ns.length cp],ab d] w (aD w ie 2 240 (nU (mS (di ns) d)) (λs=>.tuple #[.agg #[s],ab 0])):=by
 have hd1:=hd.1;have hd2:=hd.2;refine eN func35 ntmps35 ?_;refine cH 2 ?_;intro b2 w2 dw bX fB dJ dH;refine bH 1 ?_;intro b4 iT iU;refine OL ?_;refine zXd ?_;intro bm m a8 OM Wc wc E1 Rk Rl B5 rU zg hm vd B6;replace rU:=yb rU;simp only[bM,and_true]at zg;have AQ:=Rk.size;have E2:=E1.sizes;replace E2:=yb E2;have E3:=E1.under;replace E3:=yg E3;refine B 12 ?_;refine VL (enc:=ie) (m:=2) (t:=240) (xs:=nU (mS (di ns) d)) (v:=λs=>.agg #[s]) (first:=[]) (cap:=[]) rfl call66 rfl rfl rfl (λW hS=>ndg (by have h2:=YP (di ns) d;have h3:=VH ns;omega) bm m hm W (hS.own _ A0)) ?_;intro r aM ae;refine B 1 ?_;refine zCe ?_;refine B 4 ?_;exact nQ (enc:=ie) (m:=2) (t:=240) (xs:=nU (mS (di ns) d)) (H0:=[(bm,m.obj ab (mS (di ns) d)),(b4,oC #[r.val (nU (mS (di ns) d)).length] 51)]) (H1:=[]) (r:=r) (.inl rfl) results35 bB A2 zNb rfl ae (Rw.ge_of aM A2) z4b
end
theorem Rn(x:Int)(hx:eg x)(w:World):Calls prog 224 #[ab x] w (aP w (bG)):=by
 refine ef 8 func224 ntmps224 ?_;refine call call65 rfl rfl rfl (λW hS=>by have:=nP x W;rw[if_pos hx]at this;exact this) ?_;refine dp bG ?_;refine B 4 ?_;refine aK results224 rfl A0 ?_;rfl
section
variable (w:World)(l:List Int)(oh:∀y∈l,eg y)(hl:l.length<=1000)(NP:Nat)(ap:Option Addr)(ig:Nat)(oi:ai encI 1 NP w ap l)(De:NP<=w.heap.size)
include oh hl NP ap ig oi De
theorem nOj:Calls prog 275 #[.slice ap l.length ig,.func (.func 224) #[] #[]] w (aP w (ab (-1))):=by
 refine ef 14 func275 ntmps275 ?_;refine CJ.lp (α:=Nat) [0,1,7] (λj=>[(8,ab (j:Int))]) (λj=>[]) (λj=>j<=l.length) (λj=>l.length-j) 0 (cY _) ?_;rintro j hj;refine aG 6 ?_ ?_
 ·intro av;refine B 11 ?_;obtain⟨b0,YS,cs0,t0,fC,rfl,zh,KZ,aS⟩:=oi.get aa;obtain⟨x,hx⟩:=ng l j aa;refine B 5 ?_;refine rv rfl rfl rfl (ar (v:=ab x) isAgg3 rfl A0 KZ zI trivial (nJ aS hx rfl zA)) ?_;refine CY (f:=224) (cap:=[]) rfl call224 rfl rfl rfl (λW hS=>Rn x (oh x (cA hx)) W) ?_;refine B 10 ?_;exact J1
 intro av;refine B 11 ?_;refine aK results275 rfl A0 ?_;rfl
theorem nYh:Calls prog 223 #[.slice ap l.length ig,.func (.func 224) #[] #[]] w (aP w (bG)):=by
 refine ef 9 func223 ntmps223 ?_;refine call call275 rfl rfl rfl (λW hS=>nOj W l oh hl NP ap ig (oi.up (aj _) (hS.same A0 De zH trivial)) (eE De (hS.links w A0).size)) ?_;refine dp bG ?_;refine B 4 ?_;refine aK results223 rfl A0 ?_;rfl
end
theorem nLn:∀(k n:Nat),2^k<=n->n<2^(k+1)->(oU n).length=k:=
 by intro x;induction x<;>(intros;grind [Yp,VB])
theorem nAk(hd:dd d):(dt d).length=9:=by
 have h1:=hd.1;have h2:=hd.2;unfold dt;rw[eO];exact nLn 9 _ aa aa
theorem n2p(hd:dd d):(ki d).length=9:=by
 have h1:=hd.1;have h2:=hd.2;unfold ki;rw[eO];exact nLn 9 _ aa aa
def ve (kv:List (Int×Int)) (p:Int×Int):List (Int×Int):=dM kv p.1 p.2
def rV (kv:List (Int×Int)) (d:Int) (l:List Int):List (Int×Int):=((dt d).zip (l.drop 1)).foldl ve (dM (mS kv d) (512+d) ((l[0]?).getD 0))
theorem nHk{z:List (Int×Int)}{v:Int}(hz:z[i]? =some (n,v))(kv:List (Int×Int)):(z.take (i+1)).foldl ve kv=dM ((z.take i).foldl ve kv) n v:=by rw[np hz];simp[ve,Jk]
theorem E4(z:List (Int×Int)):∀kv:List (Int×Int),(z.foldl ve kv).length<=kv.length+z.length:=by induction z<;>grind [ve,Yw]
theorem nsm(hd:dd d)(l:List Int):(rV kv d l).length<=kv.length+10:=by grind [rV,E4,dt,dM,mS,Yw,YP,nAk]
theorem Ro{A B:List Int}{v:Int}(h1:A[i]? =some n)(h2:B[i+1]? =some v):(A.zip (B.drop 1))[i]? =some (n,v):=by grind
section
variable (ns:List Nd)(hn:ns.length<=100000)(N:Nat)(a:Option Addr)(cp:Nat)(w:World)(hN:N<=w.heap.size)(aH:ai fV 2 N w a ns)
include hn N cp hN aH
theorem nRp(iC:jF ns=210)(d:Int)(l:List Int)(oh:∀y∈l,eg y)(hl:l.length<=1000)(NP:Nat)(ap:Option Addr)(ig:Nat)(oi:ai encI 1 NP w ap l)(De:NP<=w.heap.size):Calls prog 154 #[.agg #[.slice a ns.length cp],ab d,.slice ap l.length ig] w (aD w ie 2 240 [] (λs=>.tuple #[.agg #[s],ab 210])):=by
 refine eN func154 ntmps154 ?_;refine cH 2 ?_;intro b3 w3 dA cX fT eC ff;refine bH 1 ?_;intro b6 ky ri;refine zzf ?_;exact zrh
theorem E5(iC:jF ns=0)(d:Int)(hd:dd d)(sV:aF (di ns) (512+d)=none)(l:List Int)(oh:∀y∈l,eg y)(hl:l.length<=1000)(NP:Nat)(ap:Option Addr)(ig:Nat)(oi:ai encI 1 NP w ap l)(De:NP<=w.heap.size):Calls prog 154 #[.agg #[.slice a ns.length cp],ab d,.slice ap l.length ig] w (aD w ie 2 240 [] (λs=>.tuple #[.agg #[s],ab 200])):=by
 refine eN func154 ntmps154 ?_;refine cH 2 ?_;intro b3 w3 dA cX fT eC ff;refine bH 1 ?_;intro b6 ky ri;refine OL ?_;refine z4e ?_;exact zrh
theorem E6(iC:jF ns=0)(d:Int)(hd:dd d)(kL:(aF (di ns) (512+d)).isSome=true)(l:List Int)(oh:∀y∈l,eg y)(hl:l.length<=1000)(NP:Nat)(ap:Option Addr)(ig:Nat)(oi:ai encI 1 NP w ap l)(De:NP<=w.heap.size)(Rp:l.length=10)(yZ:ns.length<90000):Calls prog 154 #[.agg #[.slice a ns.length cp],ab d,.slice ap l.length ig] w (aD w ie 2 240 (nU (rV (di ns) d l)) (λs=>.tuple #[.agg #[s],ab 0])):=by
 have hd1:=hd.1;have hd2:=hd.2;have h9:=nAk hd;obtain⟨b0,YS,cs0,t0,fC,rfl,zh,KZ,aS⟩:=oi.get aa;obtain⟨x0,tG⟩:=ng l 0 aa;refine eN func154 ntmps154 ?_;refine cH 2 ?_;intro b3 w3 dA cX fT eC ff;refine bH 1 ?_;intro b6 ky ri;refine OL ?_;refine zXd ?_;intro bm m a8 OM Wc wc E1 Rk Rl B5 rU zg hm vd B6;replace rU:=yb rU;simp only[bM,and_true]at zg;have AQ:=Rk.size;have E2:=E1.sizes;replace E2:=yb E2;have E3:=E1.under;replace E3:=yg E3;refine aE 13 bG ?_;refine B 10 ?_;refine rq bG (dz rfl rfl) (by rw[Rp];rfl) ?_;refine B 2 ?_;refine call call223 rfl rfl rfl (λW hS=>nYh W l oh hl NP _ ig (oi.up (aj _) (hS.same A2 De zH C2)) (eE De (hS.links w A2).size)) ?_;refine B 13 ?_;refine rv rfl rfl rfl (ar (v:=ab x0) isAgg3 rfl A2 KZ zI zz (nJ aS tG rfl zA)) ?_;refine OG (i:=0) (ev:=ab) (v:=x0) rfl hm underlying165 underlying3 rfl rfl rfl rfl ?_;intro m2 bX;refine B 11 ?_;refine CJ.loop (α:=Mp×Nat) (λp=>[(2,.slice (some ⟨b0,YS,none⟩) l.length ig),(6,ptr b6 0),(8,.map (some bm)),(37,.slice a8 (dt d).length OM),(38,ab ((dt d).length:Int)),(39,ab (p.2:Int))]) (λp=>[(bm,p.1.obj ab ((((dt d).zip (l.drop 1)).take p.2).foldl ve (dM (mS (di ns) d) (512+d) ((l[0]?).getD 0)))),(b6,oC #[ak] 51)]) (λp=>[wc,w3,w]) (λp=>Gh.no) (λp=>p.2<=(dt d).length/\p.1.Ok ((((dt d).zip (l.drop 1)).take p.2).foldl ve (dM (mS (di ns) d) (512+d) ((l[0]?).getD 0)))) (λp=>(dt d).length-p.2) (m2,0) ⟨cY _,by simpa[tG]using bX⟩ zR (by simp[tG,Value.cells]) rfl zJ ?_
 rintro⟨mi,i⟩ ⟨hi,ze⟩;dsimp only at hi ze ⊢;refine aG 6 ?_ ?_
 ·intro av;refine B 5 ?_;obtain⟨bq,oq,Ri,tq,Rj,rfl,pG,zf,qI⟩:=vd.get aa;have EY:=B6 _ rfl;dsimp only at EY;obtain⟨n,hy⟩:=ng (dt d) i aa;obtain⟨x,hx⟩:=ng l (i+1) aa;have hz:=Ro hy hx;refine B 3 ?_;refine z4d ?_;refine B 11 ?_;refine rv rfl rfl rfl (ar (v:=ab x) isAgg3 rfl A2 KZ zI zz (nJ aS hx aa zA)) ?_;refine OG (i:=0) (ev:=ab) (v:=x) rfl ze underlying165 underlying3 rfl rfl rfl rfl ?_;intro m3 cX;refine B 7 ?_;refine PJ.again (m3,i+1) ⟨by dsimp only;omega,by rw[nHk hz];exact cX⟩ zW zR (by rw[nHk hz];rfl) rfl zJ
 intro av;refine B 6 ?_;have B7:((dt d).zip (l.drop 1)).length=9:=by rw[List.length_zip,B8];omega
 have cF:((((dt d).zip (l.drop 1)).take i).foldl ve (dM (mS (di ns) d) (512+d) ((l[0]?).getD 0)))=rV (di ns) d l:=by rw[iz aa];rfl
 rw[cF]at ze ⊢
 rename Mp=>m4
 rename Mp.Ok (rV (di ns) d l) m4=>BR
 refine B 2 ?_;refine VL (enc:=ie) (m:=2) (t:=240) (xs:=nU (rV (di ns) d l)) (v:=λs=>.agg #[s]) (first:=[]) (cap:=[]) rfl call66 rfl rfl rfl (λW hS=>ndg (by have h2:=nsm (kv:=di ns) hd l;have h3:=VH ns;omega) bm m4 BR W (hS.own _ A0)) ?_;intro r aM ae;refine zCe ?_;refine B 4 ?_;exact nQ (enc:=ie) (m:=2) (t:=240) (xs:=nU (rV (di ns) d l)) (H0:=[(bm,m4.obj ab (rV (di ns) d l)),(b6,oC #[r.val (nU (rV (di ns) d l)).length] 51)]) (H1:=[]) (r:=r) (.inl rfl) results154 bB A2 zNb rfl ae (Rw.ge_of aM A2) z4b
end
end Px
