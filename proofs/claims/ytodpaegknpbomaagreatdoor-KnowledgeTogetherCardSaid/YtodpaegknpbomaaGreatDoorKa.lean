/- Contracts of functions of the program. No condition beyond those stated. -/
import Derived.Test.YtodpaegknpbomaaGreatDoorXd
import Derived.Test.YtodpaegknpbomaaGreatDoorProg
set_option linter.unusedSimpArgs false
set_option linter.unusedVariables false
set_option linter.unusedSectionVars false
set_option linter.unnecessarySimpa false
set_option maxRecDepth 20000
set_option maxHeartbeats 8000000
namespace Px
open Go Go.RowKit Go.Proofs Go.Proofs.Tryz
theorem nxi(x y:Int)(hx:0<=x)(O5:x<18446744073709551616)(hy:0<=y)(Bi:y<18446744073709551616)(w:World):Calls prog 253 #[.int .u64 x,.int .u64 y] w (aL w (.tuple #[.int .u64 (x*y/18446744073709551616),.int .u64 (x*y%18446744073709551616)])):=by
 have m1:=M3 (a:=x/4294967296) (b:=y/4294967296) (A:=4294967295) (B:=4294967295) aa aa aa aa;have m2:=M3 (a:=x/4294967296) (b:=y%4294967296) (A:=4294967295) (B:=4294967295) aa aa aa aa;have m3:=M3 (a:=x%4294967296) (b:=y%4294967296) (A:=4294967295) (B:=4294967295) aa aa aa aa;have m4:=M3 (a:=x%4294967296) (b:=y/4294967296) (A:=4294967295) (B:=4294967295) aa aa aa aa;refine eN func253 ntmps253 ?_;refine B 9 ?_;refine zqe ?_;refine B 6 ?_;refine Uc ?_;refine B 6 ?_;refine zqe ?_;refine B 6 ?_;refine Uc ?_;refine B 7 ?_;refine O6 ?_;refine B 7 ?_;refine O6 ?_;refine B 1 ?_;refine Uc ?_;refine VT ?_;refine B 6 ?_;refine zqe ?_;refine B 6 ?_;refine Uc ?_;refine B 8 ?_;refine O6 ?_;refine VT ?_;refine B 7 ?_;refine O6 ?_;refine B 1 ?_;refine VT ?_;refine B 1 ?_;refine Uc ?_;refine VT ?_;refine B 7 ?_;refine rv rfl rfl rfl (kG rfl rfl) ?_;refine B 4 ?_;refine nS results253 rfl rfl A0 ?_ ?_
 ·exact vu (n9o x y hx hy O5 Bi)
 rw[nC]
def VU:ByteArray:=⟨#[0,1,2,2,3,3,3,3,4,4,4,4,4,4,4,4,5,5,5,5,5,5,5,5,5,5,5,5,5,5,5,5,6,6,6,6,6,6,6,6,6,6,6,6,6,6,6,6,6,6,6,6,6,6,6,6,6,6,6,6,6,6,6,6,7,7,7,7,7,7,7,7,7,7,7,7,7,7,7,7,7,7,7,7,7,7,7,7,7,7,7,7,7,7,7,7,7,7,7,7,7,7,7,7,7,7,7,7,7,7,7,7,7,7,7,7,7,7,7,7,7,7,7,7,7,7,7,7,8,8,8,8,8,8,8,8,8,8,8,8,8,8,8,8,8,8,8,8,8,8,8,8,8,8,8,8,8,8,8,8,8,8,8,8,8,8,8,8,8,8,8,8,8,8,8,8,8,8,8,8,8,8,8,8,8,8,8,8,8,8,8,8,8,8,8,8,8,8,8,8,8,8,8,8,8,8,8,8,8,8,8,8,8,8,8,8,8,8,8,8,8,8,8,8,8,8,8,8,8,8,8,8,8,8,8,8,8,8,8,8,8,8,8,8,8,8,8,8,8,8,8,8,8,8,8,8]⟩
theorem nRo(n:Nat)(h:n<256):VU[n]? =some (UInt8.ofNat (dd n)):=by
 have:∀n:Fin 256,VU[n.val]? =some (UInt8.ofNat (dd n.val)):=by decide +kernel
 exact this ⟨n,h⟩
theorem I8{x:Int}(h0:0<=x)(h:x<256):∃b,VU[x.toNat]? =some b/\(b.toNat:Int)=qK x:=by
 refine⟨_,nRo x.toNat aa,?_⟩;have:=nlh x.toNat 8 aa;unfold qK;simp;omega
variable {L:List World}
theorem O7{C:Cx}{E:Env}{G:Gh}{H:ad}{T:Nat}{x y:Operand}{n:Int}(hU:C.P.underlying T=some .string)(hx:ev E x=some (.string VU))(hy:ev E y=some (.int .u8 n))(h0:0<=n)(h1:n<256):RV C G L H E (.index T x y) (.int .u8 (qK n)):=by grind [I8,C0]
theorem nj(x:Int)(q:Int)(k:Nat)(hq:(2:Int)^k=q)(h:q<=x):qK x=qK (x/q)+k:=by
 subst hq;exact ndn k h
theorem C1(x:Int)(h0:0<=x)(h:x<256):0<=qK x/\qK x<=8:=by
 have:=nem (x:=x) 8 h0 Bj;simpa using this
theorem vH{C:Cx}{Q:aY}{E:Env}{D:List Deferred}{G:Gh}{H:ad}{ops:Array Oper}{l:List Oper}{d T ty:Nat}{pos:String}{aC:Array Edge}{g:Option (Nat×Bool)}{x y:Operand}{n:Int}(hU:C.P.underlying T=some .string)(hx:ev E x=some (.string VU))(hw:nl ops E g=some true)(hN:Nat.blt d C.N=true)(hy:ev E y=some (.int .u8 n))(h0:0<=n)(h1:n<256)(k:0<=qK n->qK n<=8->OJ C ops Q l ((d,.int .u8 (qK n))::E) D G L H):OJ C ops Q (⟨some d,.index T x y,ty,pos,aC,g⟩::l) E D G L H:=
 rv rfl hw hN (O7 hU hx hy h0 h1) (k (C1 n h0 h1).1 (C1 n h0 h1).2)
theorem nKf(x:Int)(hx:0<=x)(O5:x<18446744073709551616)(w:World):Calls prog 180 #[.int .u64 x] w (aL w (ab (qK x))):=by
 refine eN func180 ntmps180 ?_;refine B 12 ?_;refine aG ?_ ?_
 ·intro ar;refine B 3 ?_;refine Uc ?_;refine B 14 ?_;refine aG ?_ ?_
  ·intro aN;refine B 3 ?_;refine rv rfl rfl rfl (iU 16 65536 zA rfl rfl rfl) ?_;refine B 16 ?_;refine aG ?_ ?_
   ·intro dp;refine zcd ?_;refine vH underlying9 zN rfl rfl rfl aa aa (λH6 O8=>?_);refine M4 ?_
    (refine congrArg ab ?_;(try simp only[nj x 4294967296 32 zA,nj (x/4294967296) 65536 16 zA,nj (x/4294967296/65536) 256 8 zA,nj (x/4294967296) 256 8 zA,nj x 65536 16 zA,nj (x/65536) 256 8 zA,nj x 256 8 zA, *]);omega)
   intro dp;refine B 6 ?_;refine zZe ?_;refine vH underlying9 zN rfl rfl rfl aa aa (λH6 O8=>?_);refine M4 ?_
   (refine congrArg ab ?_;(try simp only[nj x 4294967296 32 zA,nj (x/4294967296) 65536 16 zA,nj (x/4294967296/65536) 256 8 zA,nj (x/4294967296) 256 8 zA,nj x 65536 16 zA,nj (x/65536) 256 8 zA,nj x 256 8 zA, *]);omega)
  intro aN;refine B 9 ?_;refine aG ?_ ?_
  ·intro jh;refine zcd ?_;refine vH underlying9 zN rfl rfl rfl aa aa (λH6 O8=>?_);refine M4 ?_
   (refine congrArg ab ?_;(try simp only[nj x 4294967296 32 zA,nj (x/4294967296) 65536 16 zA,nj (x/4294967296/65536) 256 8 zA,nj (x/4294967296) 256 8 zA,nj x 65536 16 zA,nj (x/65536) 256 8 zA,nj x 256 8 zA, *]);omega)
  intro jh;refine B 6 ?_;refine zZe ?_;refine vH underlying9 zN rfl rfl rfl aa aa (λH6 O8=>?_);refine M4 ?_
  (refine congrArg ab ?_;(try simp only[nj x 4294967296 32 zA,nj (x/4294967296) 65536 16 zA,nj (x/4294967296/65536) 256 8 zA,nj (x/4294967296) 256 8 zA,nj x 65536 16 zA,nj (x/65536) 256 8 zA,nj x 256 8 zA, *]);omega)
 intro ar;refine B 9 ?_;refine aG ?_ ?_
 ·intro iC;refine B 3 ?_;refine rv rfl rfl rfl (iU 16 65536 zA rfl rfl rfl) ?_;refine B 16 ?_;refine aG ?_ ?_
  ·intro lS;refine zcd ?_;refine vH underlying9 zN rfl rfl rfl aa aa (λH6 O8=>?_);refine M4 ?_
   (refine congrArg ab ?_;(try simp only[nj x 4294967296 32 zA,nj (x/4294967296) 65536 16 zA,nj (x/4294967296/65536) 256 8 zA,nj (x/4294967296) 256 8 zA,nj x 65536 16 zA,nj (x/65536) 256 8 zA,nj x 256 8 zA, *]);omega)
  intro lS;refine B 6 ?_;refine zZe ?_;refine vH underlying9 zN rfl rfl rfl aa aa (λH6 O8=>?_);refine M4 ?_
  (refine congrArg ab ?_;(try simp only[nj x 4294967296 32 zA,nj (x/4294967296) 65536 16 zA,nj (x/4294967296/65536) 256 8 zA,nj (x/4294967296) 256 8 zA,nj x 65536 16 zA,nj (x/65536) 256 8 zA,nj x 256 8 zA, *]);omega)
 intro iC;refine B 9 ?_;refine aG ?_ ?_
 ·intro kz;refine zcd ?_;refine vH underlying9 zN rfl rfl rfl aa aa (λH6 O8=>?_);refine M4 ?_
  (refine congrArg ab ?_;(try simp only[nj x 4294967296 32 zA,nj (x/4294967296) 65536 16 zA,nj (x/4294967296/65536) 256 8 zA,nj (x/4294967296) 256 8 zA,nj x 65536 16 zA,nj (x/65536) 256 8 zA,nj x 256 8 zA, *]);omega)
 intro kz;refine B 6 ?_;refine zZe ?_;refine vH underlying9 zN rfl rfl rfl aa aa (λH6 O8=>?_);refine M4 ?_
 (refine congrArg ab ?_;(try simp only[nj x 4294967296 32 zA,nj (x/4294967296) 65536 16 zA,nj (x/4294967296/65536) 256 8 zA,nj (x/4294967296) 256 8 zA,nj x 65536 16 zA,nj (x/65536) 256 8 zA,nj x 256 8 zA, *]);omega)
theorem nqg(x:Int)(hx:0<=x)(O5:x<18446744073709551616)(w:World):Calls prog 292 #[.int .u64 x] w (aL w (ab (64-qK x))):=by
 have hb:=nem (x:=x) 64 hx (by simpa using O5);refine eN func292 ntmps292 ?_;refine B 8 ?_;refine zHe ?_;refine B 5 ?_;refine aF results292 rfl A0 ?_;rfl
theorem n9f(x:Int)(hx:0<=x)(O5:x<18446744073709551616)(w:World):Calls prog 106 #[.int .u64 x] w (aL w (ab (qK x))):=by
 refine eN func106 ntmps106 ?_;refine B 12 ?_;refine zHe ?_;refine B 4 ?_;refine aF results106 rfl A0 ?_;rfl
theorem nvh(u q y1 r:Nat)(h:q*y1+r=u):((u:Int)-(q:Int)*(y1:Int))=(r:Int):=by grind
theorem nfn(hi lo y:Nat)(VV:hi<y)(H7:lo<18446744073709551616)(hy:y<18446744073709551616)(h0:0<hi)(w:World):Calls prog 254 #[.int .u64 (hi:Int),.int .u64 (lo:Int),.int .u64 (y:Int)] w (aL w (.tuple #[.int .u64 (((hi*2^64+lo)/y:Nat):Int),.int .u64 (((hi*2^64+lo)%y:Nat):Int)])):=by
 obtain⟨hb1,di,cZ⟩:=nro y aa hy;have Cg:=(n2h y aa).2.2;obtain⟨s,hs⟩:∃s,64-dd y=s:=⟨_,rfl⟩;rw[hs]at di cZ;have hsI:(64-qK (y:Int))=(s:Int):=by unfold qK;simp;omega
 obtain⟨Y,hY⟩:∃Y,y*2^s=Y:=⟨_,rfl⟩;rw[hY]at di cZ;obtain⟨y1,Bi⟩:∃z,Y/4294967296=z:=⟨_,rfl⟩;obtain⟨y0,H8⟩:∃z,Y%4294967296=z:=⟨_,rfl⟩;have Ud:y1*2^32+y0=Y:=by omega
 obtain⟨hN,hlt⟩:=nFo hi lo y s aa VV H7;obtain⟨u,hu⟩:∃z,hi*2^s+lo/2^(64-s)=z:=⟨_,rfl⟩;obtain⟨v,hv⟩:∃z,lo*2^s%2^64=z:=⟨_,rfl⟩;rw[hu,hv]at hN;rw[hu,hY]at hlt;have amL:v<18446744073709551616:=by rw[<-hv];exact Nat.mod_lt _ zA
 obtain⟨v1,hv1⟩:∃z,v/4294967296=z:=⟨_,rfl⟩;obtain⟨v0,hv0⟩:∃z,v%4294967296=z:=⟨_,rfl⟩;have iG:2^31<=y1:=by omega
 have I9:v1<2^32:=by omega
 have so:v0<2^32:=by omega
 have huY:u<y1*2^32+y0:=by omega
 have d1:=tu.start iG aa aa I9 huY;have amM:hi*2^s<=u:=by rw[<-hu];exact Nat.le_add_right _ _
 have hq0:u/y1*y1<=u:=Nat.div_mul_le_self u y1;refine eN func254 ntmps254 ?_;refine O9 ?_;refine O9 ?_;refine B 9 ?_;refine Ue ?_;refine call call292 rfl rfl rfl (λW hS=>nqg _ aa aa W) ?_;refine rq (.int .u64 (s:Int)) (xS underlying3 underlying222 rfl aa aa) (vu hsI) ?_;refine B 7 ?_;refine rq (.int .u64 (Y:Int)) (qL rfl rfl aa) (vu ((C2 y s aa aa).trans (by rw[hY]))) ?_;refine B 6 ?_;refine rq (.int .u64 (y1:Int)) (iU 32 4294967296 zA rfl rfl rfl) (vu aa) ?_;refine B 6 ?_;refine rq (.int .u64 (y0:Int)) (qM 32 4294967296 zA rfl rfl rfl rfl aa aa) (vu aa) ?_;refine B 7 ?_;refine rq (.int .u64 ((hi*2^s:Nat):Int)) (qL rfl rfl aa) (vu (C2 hi s aa aa)) ?_;refine B 2 ?_;refine rv rfl rfl rfl (tY rfl rfl aa aa) ?_;refine rq (.int .u64 ((lo/2^(64-s):Nat):Int)) (lT rfl rfl aa) (vu (Pa lo s _ aa)) ?_;refine rq (.int .u64 (u:Int)) (Aj rfl rfl) (vu ((M5 hi _ s (C3 lo s aa H7) aa).trans (by rw[hu]))) ?_;refine B 7 ?_;refine rq (.int .u64 (v:Int)) (qL rfl rfl aa) (vu ((Ja lo s aa).trans (by rw[hv]))) ?_;refine B 6 ?_;refine rq (.int .u64 (v1:Int)) (iU 32 4294967296 zA rfl rfl rfl) (vu aa) ?_;refine B 6 ?_;refine rq (.int .u64 (v0:Int)) (qM 32 4294967296 zA rfl rfl rfl rfl aa aa) (vu aa) ?_;refine B 7 ?_;refine rq (.int .u64 ((u/y1:Nat):Int)) (xU rfl rfl aa aa aa) (vu (nne u y1)) ?_
 refine B 8 ?_;refine O6 ?_;refine rq (.int .u64 ((u%y1:Nat):Int)) (tY rfl rfl aa aa) (vu (nvh _ _ _ _ d1.eq)) ?_;refine B 5 ?_;refine CJ.lp (α:=Nat×Nat) [2,8,9,10,11,13,14] (λp=>[(15,.int .u64 (p.1:Int)),(16,.int .u64 (p.2:Int))]) (λp=>[]) (λp=>tu u y1 y0 v1 p.1 p.2) (λp=>p.1) (u/y1,u%y1) d1 ?_;rintro⟨q,r⟩ hd;dsimp only;replace hd:tu u y1 y0 v1 q r:=hd;have vJ:=hd.lt;have hde:=hd.le;have hqn:(0:Int)<=(q:Int)*(y0:Int):=Int.mul_nonneg aa aa;have hqy:(q:Int)<=4294967295->(q:Int)*(y0:Int)<=4294967295*4294967295:=λh=>(M3 aa h aa aa).2;refine B 6 ?_;refine ni (t:=69) rfl (λar=>?_) (λar=>?_)
 ·replace ar:=ya ar;refine B 18 ?_;obtain⟨cF,bV,cu⟩:=hd.more iG huY I9 aa;refine M6 ?_;refine aG ?_ ?_
  ·intro aN;refine zXe ?_;first|(have xV:=hd.stop iG aa;obtain⟨q1,rfl⟩:∃q1,q1=q:=⟨_,rfl⟩)|(have xV:=nub aa aa bV cu iG aa;generalize q-1=q1 at *)
   rw[Ud]at xV;obtain⟨r1,Jb⟩:∃z,(u*2^32+v1)%Y=z:=⟨_,rfl⟩;have VW:r1<Y:=by rw[<-Jb];exact Nat.mod_lt _ aa
   have gK:q1*Y+r1=u*2^32+v1:=by have:=Bk (u*2^32+v1) Y;rw[xV,Jb,H9]at this;exact this
   have d2:=tu.start iG aa aa so (show r1<y1*2^32+y0 by omega);have VX:r1/y1*y1<=r1:=Nat.div_mul_le_self r1 y1;have tZ:r1<y1*2^32+y0:=by omega
   clear hd;try clear cF bV cu
   refine zMf ?_;rintro⟨q,r⟩ hd;dsimp only;replace hd:tu r1 y1 y0 v0 q r:=hd;have vJ:=hd.lt;have hde:=hd.le;have hqn:(0:Int)<=(q:Int)*(y0:Int):=Int.mul_nonneg aa aa;have hqy:(q:Int)<=4294967295->(q:Int)*(y0:Int)<=4294967295*4294967295:=λh=>(M3 aa h aa aa).2;refine B 6 ?_;refine ni (t:=104) rfl (λdp=>?_) (λdp=>?_)
   ·replace dp:=ya dp;refine B 18 ?_;obtain⟨cF,bV,cu⟩:=hd.more iG tZ so aa;refine M6 ?_;refine aG ?_ ?_
    ·intro jh;exact Uf
    intro jh;exact M7
   replace dp:=ya dp;refine zof ?_;refine aG ?_ ?_
   ·intro iC;refine B 6 ?_;obtain⟨cF,bV,cu⟩:=hd.more iG tZ so aa;refine M6 ?_;refine aG ?_ ?_
    ·intro lS;exact Uf
    intro lS;exact M7
   intro iC;refine B 6 ?_;exact zRf
  intro aN;exact M7
 replace ar:=ya ar;refine zof ?_;refine aG ?_ ?_
 ·intro kz;refine B 6 ?_;obtain⟨cF,bV,cu⟩:=hd.more iG huY I9 aa;refine M6 ?_;refine aG ?_ ?_
  ·intro Jc;refine zXe ?_;first|(have xV:=hd.stop iG aa;obtain⟨q1,rfl⟩:∃q1,q1=q:=⟨_,rfl⟩)|(have xV:=nub aa aa bV cu iG aa;generalize q-1=q1 at *)
   rw[Ud]at xV;obtain⟨r1,Jb⟩:∃z,(u*2^32+v1)%Y=z:=⟨_,rfl⟩;have VW:r1<Y:=by rw[<-Jb];exact Nat.mod_lt _ aa
   have gK:q1*Y+r1=u*2^32+v1:=by have:=Bk (u*2^32+v1) Y;rw[xV,Jb,H9]at this;exact this
   have d2:=tu.start iG aa aa so (show r1<y1*2^32+y0 by omega);have VX:r1/y1*y1<=r1:=Nat.div_mul_le_self r1 y1;have tZ:r1<y1*2^32+y0:=by omega
   clear hd;try clear cF bV cu
   refine zMf ?_;rintro⟨q,r⟩ hd;dsimp only;replace hd:tu r1 y1 y0 v0 q r:=hd;have vJ:=hd.lt;have hde:=hd.le;have hqn:(0:Int)<=(q:Int)*(y0:Int):=Int.mul_nonneg aa aa;have hqy:(q:Int)<=4294967295->(q:Int)*(y0:Int)<=4294967295*4294967295:=λh=>(M3 aa h aa aa).2;refine B 6 ?_;refine ni (t:=104) rfl (λqN=>?_) (λqN=>?_)
   ·replace qN:=ya qN;refine B 18 ?_;obtain⟨cF,bV,cu⟩:=hd.more iG tZ so aa;refine M6 ?_;refine aG ?_ ?_
    ·intro ua;exact Uf
    intro ua;exact M7
   replace qN:=ya qN;refine zof ?_;refine aG ?_ ?_
   ·intro uc;refine B 6 ?_;obtain⟨cF,bV,cu⟩:=hd.more iG tZ so aa;refine M6 ?_;refine aG ?_ ?_
    ·intro oK;exact Uf
    intro oK;exact M7
   intro uc;refine B 6 ?_;exact zRf
  intro Jc;exact M7
 intro kz;refine B 6 ?_;first|(have xV:=hd.stop iG aa;obtain⟨q1,rfl⟩:∃q1,q1=q:=⟨_,rfl⟩)|(have xV:=nub aa aa bV cu iG aa;generalize q-1=q1 at *)
 rw[Ud]at xV;obtain⟨r1,Jb⟩:∃z,(u*2^32+v1)%Y=z:=⟨_,rfl⟩;have VW:r1<Y:=by rw[<-Jb];exact Nat.mod_lt _ aa
 have gK:q1*Y+r1=u*2^32+v1:=by have:=Bk (u*2^32+v1) Y;rw[xV,Jb,H9]at this;exact this
 have d2:=tu.start iG aa aa so (show r1<y1*2^32+y0 by omega);have VX:r1/y1*y1<=r1:=Nat.div_mul_le_self r1 y1;have tZ:r1<y1*2^32+y0:=by omega
 clear hd;try clear cF bV cu
 refine zMf ?_;rintro⟨q,r⟩ hd;dsimp only;replace hd:tu r1 y1 y0 v0 q r:=hd;have vJ:=hd.lt;have hde:=hd.le;have hqn:(0:Int)<=(q:Int)*(y0:Int):=Int.mul_nonneg aa aa;have hqy:(q:Int)<=4294967295->(q:Int)*(y0:Int)<=4294967295*4294967295:=λh=>(M3 aa h aa aa).2;refine B 6 ?_;refine ni (t:=104) rfl (λoM=>?_) (λoM=>?_)
 ·replace oM:=ya oM;refine B 18 ?_;obtain⟨cF,bV,cu⟩:=hd.more iG tZ so aa;refine M6 ?_;refine aG ?_ ?_
  ·intro xW;exact Uf
  intro xW;exact M7
 replace oM:=ya oM;refine zof ?_;refine aG ?_ ?_
 ·intro xX;refine B 6 ?_;obtain⟨cF,bV,cu⟩:=hd.more iG tZ so aa;refine M6 ?_;refine aG ?_ ?_
  ·intro Pb;exact Uf
  intro Pb;exact M7
 intro xX;refine B 6 ?_;exact zRf
theorem nZm(lo y:Nat)(h0:0<y)(H7:lo<18446744073709551616)(hy:y<18446744073709551616)(w:World):Calls prog 254 #[.int .u64 0,.int .u64 (lo:Int),.int .u64 (y:Int)] w (aL w (.tuple #[.int .u64 ((lo/y:Nat):Int),.int .u64 ((lo%y:Nat):Int)])):=by
 refine eN func254 ntmps254 ?_;refine O9 ?_;refine O9 ?_;refine B 9 ?_;refine ay cY ?_;refine B 4 ?_;refine eA 7 (pb:=by exact zU 2 (k:=by exact aU (X.v (xU rfl rfl aa aa aa)) (zU 2 (k:=by exact aU (X.v (C4 rfl rfl aa aa)) zT)))) (k:=?_);refine B 5 ?_;refine nS results254 rfl rfl A0 ?_ ?_
 ·exact vu (nne lo y)
 exact vu (Int.natCast_emod lo y).symm
theorem nbg(hi lo y:Int)(h0:0<=hi)(h1:hi<y)(h2:0<=lo)(h3:lo<18446744073709551616)(h4:y<18446744073709551616)(w:World):Calls prog 254 #[.int .u64 hi,.int .u64 lo,.int .u64 y] w (aL w (.tuple #[.int .u64 ((hi*18446744073709551616+lo)/y),.int .u64 ((hi*18446744073709551616+lo)%y)])):=by
 obtain⟨a,rfl⟩:=M8 h0;obtain⟨b,rfl⟩:=M8 h2;obtain⟨c,rfl⟩:=M8 (Int.le_trans h0 (Int.le_of_lt h1));have e:((a:Int)*18446744073709551616+(b:Int))=((a*2^64+b:Nat):Int):=by simp
 rw[e,nne,<-Int.natCast_emod];by_cases ha:a=0
 ·subst ha;have:=nZm b c aa aa aa w;simpa using this
 exact nfn a b c aa aa aa aa w
theorem nni{a b p:Int}(ha:0<=a)(gj:a<p)(hb:0<=b)(hb1:b<p)(hp:p<18446744073709551616):0<=a*b/18446744073709551616/\a*b/18446744073709551616<p/\0<=a*b%18446744073709551616/\a*b%18446744073709551616<18446744073709551616/\a*b/18446744073709551616*18446744073709551616+a*b%18446744073709551616=a*b:=by
 have h0:0<=a*b:=Int.mul_nonneg ha hb;have h1:a*b<=a*18446744073709551616:=Int.mul_le_mul_of_nonneg_left aa ha;all_goals grind
theorem ncf(a b:Int)(ha:0<=a)(gj:a<4611686018427377339)(hb:0<=b)(hb1:b<4611686018427377339)(w:World):Calls prog 190 #[.int .u64 a,.int .u64 b] w (aL w (.int .u64 (a*b%4611686018427377339))):=by
 obtain⟨m1,m2,m3,m4,m5⟩:=nni ha gj hb hb1 zA;refine eN func190 ntmps190 ?_;refine B 9 ?_;refine zdf ?_;refine B 14 ?_;refine aF results190 rfl A0 ?_
 (rw[m5];rfl)
theorem nCm(k:Int)(w:World):Calls prog 189 #[.int .u64 k] w (cK w (λb=>.func (.func 252) #[] #[ptr b 0]) (λb w1=>w.heap.size<=b/\w1.heap[b]? =some (oC #[.int .u64 k] 233))):=by
 refine eN func189 ntmps189 ?_;refine B 2 ?_;refine yX ?_;intro b1 w1 hb1 cF gK gj jy;refine B 10 ?_;refine rY b1 results189 rfl A1 rfl ?_;exact zmh
def tv (n:Nat):List Bool:=(List.range (dd n)).reverse.map (λi=>n.testBit i)
theorem n6d(n:Nat):(tv n).length=dd n:=by simp[tv]
theorem nbf(n j:Nat)(h:j<dd n):(tv n).take (j+1)=(tv n).take j++[n.testBit (dd n-1-j)]:=by
 have hl:j<(tv n).length:=by rw[n6d];exact h
 rw[M9 hl];congr 2;simp[tv]
theorem Pd(n i:Nat):decide (((n/2^i:Nat):Int)%2=1)=n.testBit i:=by grind
theorem C5(n j:Nat)(h:j<dd n):((tv n).take j++[n.testBit (dd n-1-j)]) <+:tv n:=by
 rw[<-nbf n j h];exact List.take_prefix _ _
theorem nIm(n:Nat)(hn:n<18446744073709551616)(b:Nat)(W:World)(hb1:W.heap[b]? =some (oC #[.int .u64 (n:Int)] 233)):ue prog 252 [ptr b 0] (λx:Bool=>[.bool x]) (Ci (tv n)) (Is (tv n)) (λ_=>False) (λk=>k=b) W:=by
 intro l M I X0 hM hI hX hy h0;have Ug:=(aT.1 hb1).1;have cF:¬(M b\/False):=λh=>h.elim (λh=>(hM b h).2.2 rfl) id;have jl:=nlh n 64 hn;have hbI:qK (n:Int)=(dd n:Int):=by simp[qK]
 refine nB (dt hM (λ_=>False) (hI [] _)) [] (vs:=[_,_]) func252 rfl ntmps252 rfl (Na hM (hI [] _) h0 zI (by simp[lq]) zI) ?_;refine B 3 ?_;refine zHe ?_;refine rq (ab ((dd n:Int)-1-(0:Nat))) (qO rfl rfl aa aa) (congrArg ab (by rw[hbI];omega)) ?_;refine B 4 ?_;refine CJ.loop (α:=Nat×aE) (λp=>[(0,yv l),(1,ptr b 0),(3,ab ((dd n:Int)-1-(p.1:Int)))]) (λp=>[]) (λp=>[W]) (λp=>dt hM p.2 (hI ((tv n).take p.1) p.2)) (λp=>p.1<=dd n/\∀k,p.2 k->W.heap.size<=k) (λp=>dd n-p.1) (0,λ_=>False) ⟨cR _,λ_ h=>h.elim⟩ zR rfl rfl zI ?_;rintro⟨j,V⟩ ⟨hj,hV⟩;dsimp only at hj hV ⊢;have cF:¬(M b\/V b):=λh=>h.elim (λh=>(hM b h).2.2 rfl) (λh=>by have:=hV b h;omega);refine B 7 ?_;refine aG ?_ ?_
 ·intro ar;refine B 9 ?_;refine rq (.int .u64 ((n/2^(dd n-1-j):Nat):Int)) (lT rfl rfl aa) (vu (Nb n _ _ aa aa)) ?_;refine rv rfl rfl rfl (qM 1 2 zA rfl rfl rfl rfl (Int.natCast_nonneg _) (Int.lt_of_le_of_lt (Int.ofNat_le.2 (Nat.div_le_self n _)) aa)) ?_;refine rq (.bool (n.testBit (dd n-1-j))) (iV rfl rfl) (vb (Pd n _)) ?_;refine Bl (λV=>hI ((tv n).take (j+1)) V) hX hV A0 rfl rfl rfl rfl (λW1 uf kX=>by have:=hy ((tv n).take j) _ V W1 (C5 n j aa) uf kX;rw[<-nbf n j aa]at this;exact this) ?_ ?_
  ·intro V hV;refine B 12 ?_;refine PJ.again (j+1,V) ⟨by dsimp only;omega,hV⟩ zS ⟨rfl,rfl,congrArg some (congrArg ab zS),trivial⟩ rfl rfl zI
  intro V hV;refine B 9 ?_;exact Bm (.inl rfl) results252 A0 hV zI (λA hA=>.inr hA)
 intro ar;refine B 4 ?_;exact Bm (.inr rfl) results252 A0 hV zI (λA hA=>.inl ⟨tv n,rfl,by have e:=jZ (l:=tv n) (i:=j) (by rw[n6d];omega);rw[e]at hA;exact hA⟩)
def nV (a m:Int):List Bool->Int->Int
 | [],c=>c
 |b::bs,c=>nV a m bs (if b then(c*c%m)*a%m else c*c%m)
theorem nKg(a m:Int)(bs:List Bool)(b:Bool)(c:Int):nV a m (bs++[b]) c=if b then(nV a m bs c*nV a m bs c%m)*a%m else nV a m bs c*nV a m bs c%m:=by induction bs generalizing c<;>grind [nV]
theorem nAi(a m:Int)(hm:0<m)(bs:List Bool)(c:Int)(h0:0<=c)(h1:c<m):0<=nV a m bs c/\nV a m bs c<m:=by
 induction bs generalizing c with
 |nil=>exact⟨h0,h1⟩
 |cons x bs ih=>
  simp only[nV];apply ih
  ·split<;>exact Int.emod_nonneg _ aa
  split<;>exact Int.emod_lt_of_pos _ hm
def ug (a n m:Int):Int:=nV a m (tv n.toNat) 1
theorem nFh(a k:Int)(ha:0<=a)(gj:a<4611686018427377339)(hk:0<=k)(Jd:k<18446744073709551616)(w:World):Calls prog 114 #[.int .u64 a,.int .u64 k] w (aL w (.int .u64 (ug a k 4611686018427377339))):=by
 refine Pe Gh.no [] (vs:=[_,_]) func114 rfl ntmps114 rfl (Je w) ?_;refine B 2 ?_;refine yX ?_;intro b2 w2 di bV ff dB dx;refine B 6 ?_;refine yW ?_;intro b5 sq su;refine B 7 ?_;refine nv (Φ:=λW b w1=>W.heap.size<=b/\w1.heap[b]? =some (oC #[.int .u64 k] 233)) call189 rfl rfl rfl (λW hS=>nCm _ W) ?_;intro Wd bd wd xY hBd hPd;obtain⟨amN,Pf⟩:=hPd;have hUd:=xY.under;simp only[Ia,dm,dX]at hUd;have hAd:=xY.sizes;replace hAd:=yb hAd;have hzd:=hBd.size;refine B 3 ?_;refine VY (f:=252) (cap:=[ptr bd 0]) (α:=Bool) (enc:=(λx:Bool=>[.bool x])) (Pre:=Ci (tv k.toNat)) (Fin:=Is (tv k.toNat)) (RO:=λk=>k=bd) (MI:=λ_=>False) rfl call252 (λW W2 hS hB=>by have e:(.int .u64 k:Value)= .int .u64 ((k.toNat:Nat):Int):=(by rw[Int.toNat_of_nonneg hk]);exact nIm k.toNat aa bd W2 (by rw[<-e,hB.block bd (by have:=(hS.sizes);simp only[ae]at this;have:=(aT.1 Pf).1;omega)];exact hS.old A0 Pf zJ zz)) (λ_ _ _ hk=>hk.elim) (λW hS k hk=>by subst hk;have:=hS.sizes;simp only[ae]at this;have:=(aT.1 Pf).1;refine⟨by omega,by simp only[dm,dy,eV,ka];omega,λh=>h⟩) (λ_=>rfl) (λpre G' Hc=>G'=Gh.no/\Hc=[(b5,oC #[.int .u64 (nV a 4611686018427377339 pre 1)] 233)]) (λ_ _ _=>False) ⟨rfl,rfl⟩ zA ?_ ?_ ?_
 ·rintro pre x G' Hc l Dk rec W1 M V Wy ow vk dS ⟨rfl,rfl⟩ iQ lK Pg xZ dz C6;simp only[ae]at iQ xZ;have bV:=dz.z (k:=b2) aa zJ oN zJ;have Jf:=nAi a 4611686018427377339 zA pre 1 zA zA;have hX:=Int.emod_nonneg (nV a 4611686018427377339 pre 1*nV a 4611686018427377339 pre 1) (b:=4611686018427377339) zA;have fT:=Int.emod_lt_of_pos (nV a 4611686018427377339 pre 1*nV a 4611686018427377339 pre 1) (b:=4611686018427377339) zA;refine B 3 ?_;refine Nc ow ?_;refine B 5 ?_;refine call call190 rfl rfl rfl (λW hS=>ncf _ _ aa aa aa aa W) ?_;refine B 8 ?_;refine aG ?_ ?_
  ·intro ar;refine B 3 ?_;refine call call190 rfl rfl rfl (λW hS=>ncf _ _ aa aa aa aa W) ?_;refine B 3 ?_;refine Jg (G2:=Gh.no) (Hc2:=[(b5,oC #[.int .u64 (nV a 4611686018427377339 pre 1*nV a 4611686018427377339 pre 1%4611686018427377339*a%4611686018427377339)] 233)]) dz lK ⟨λ_ h=>h,λ_ h=>.inl h,λ_ h=>.inl h,zI,zI⟩ (Jh ow vk) ?_;exact⟨rfl,by rw[nKg,ar];rfl⟩
  intro ar;refine B 2 ?_;refine Jg (G2:=Gh.no) (Hc2:=[(b5,oC #[.int .u64 (nV a 4611686018427377339 pre 1*nV a 4611686018427377339 pre 1%4611686018427377339)] 233)]) dz lK ⟨λ_ h=>h,λ_ h=>.inl h,λ_ h=>.inl h,zI,zI⟩ (Jh ow vk) ?_;exact⟨rfl,by rw[nKg,ar];rfl⟩
 ·rintro pV l Dk rec G' Hc rfl iQ lK ⟨rfl,rfl⟩;replace iQ:=yb iQ;refine B 9 ?_;refine VZ (.inl rfl) results114 rfl (by simp[book]) (λW H' hS aQ=>⟨?_,?_⟩)
  ·exact congrArg Ending.returned rfl
  refine(hS.links w A2).below λk hk hx=>?_;rw[aQ]at hx;simp[Gh.no,book]at hx;omega
 exact Pj
theorem nij(a k m:Int)(hm:1<m):0<=ug a k m/\ug a k m<m:=nAi a m aa _ 1 aa hm
abbrev eg (a:Int):Prop:=1<=a/\a<4611686018427377339/\ug a 2305843009213688669 4611686018427377339=1
def gExp (a k:Int):Int×Int:=if eg a then if 0<=k/\k<2305843009213688669 then(ug a k 4611686018427377339,0)else(0,1)else(0,40)
def qP (p:Int×Int):Value:=.tuple #[ab p.1,ab p.2]
theorem nO(a:Int)(w:World):Calls prog 65 #[ab a] w (aL w (ab (if eg a then 0 else 40))):=by
 have hp:=nij a 2305843009213688669 4611686018427377339 zA;refine eN func65 ntmps65 ?_;refine B 11 ?_;refine ni (t:=5) rfl (λar=>?_) (λar=>?_)
 ·replace ar:=ya ar;refine B 19 ?_;refine zce ?_;split<;>omega
 replace ar:=ya ar;refine B 4 ?_;refine ni (t:=9) rfl (λaN=>?_) (λaN=>?_)
 ·replace aN:=ya aN;refine B 15 ?_;refine zce ?_;split<;>omega
 replace aN:=ya aN;refine B 2 ?_;refine call call114 rfl rfl rfl (λW hS=>nFh _ _ aa aa aa aa W) ?_;refine B 4 ?_;refine aG ?_ ?_
 ·intro dp;refine B 7 ?_;refine zce ?_;split<;>omega
 intro dp;refine B 8 ?_;refine zce ?_;split<;>omega
theorem nik(a k:Int)(w:World):Calls prog 125 #[ab a,ab k] w (aL w (qP (gExp a k))):=by
 have hp:=nij a k 4611686018427377339 zA;refine eN func125 ntmps125 ?_;refine B 10 ?_;refine call call65 rfl rfl rfl (λW hS=>nO _ W) ?_;refine B 9 ?_;refine aG ?_ ?_
 ·intro ar;refine B 1 ?_;have hg:¬eg a:=λh=>by simp[if_pos h]at ar
  refine B 8 ?_;exact zbg
 intro ar;refine B 4 ?_;have hg:eg a:=Decidable.byContradiction λh=>by simp[if_neg h]at ar
 refine B 4 ?_;refine ni (t:=14) rfl (λaN=>?_) (λaN=>?_)
 ·replace aN:=ya aN;refine B 14 ?_;exact zbg
 replace aN:=ya aN;refine B 5 ?_;refine aG ?_ ?_
 ·intro dp;refine B 8 ?_;exact zbg
 intro dp;refine B 8 ?_;refine call call114 rfl rfl rfl (λW hS=>nFh _ _ aa aa aa aa W) ?_;refine B 6 ?_;exact zbg
theorem nzi(k:Int)(w:World):Calls prog 124 #[ab k] w (aL w (qP (gExp 4 k))):=by
 refine eN func124 ntmps124 ?_;refine B 9 ?_;refine call call125 rfl rfl rfl (λW hS=>nik _ _ W) ?_;refine B 7 ?_;refine nS results124 rfl rfl A0 ?_ ?_;all_goals rfl
theorem Ji(x b:Int)(h0:0<=b)(h1:b<256):IntKind.u64.wrap (BitVec.ofInt IntKind.u64.bits (IntKind.u64.wrap (x*256))|||BitVec.ofInt IntKind.u64.bits b).toNat=(x*256)%18446744073709551616+b:=by
 obtain⟨y,hy⟩:∃y:Nat,(x*256)%18446744073709551616=((y*2^8:Nat):Int):=⟨((x*256)%18446744073709551616/256).toNat,by omega⟩;obtain⟨c,rfl⟩:=M8 h0;rw[hy,(nC (x*256)).trans hy,M5 y c 8 aa aa];omega
theorem Jj(n b m:Int):n/72057594037927936*18446744073709551616+(n*256%18446744073709551616+b)=n*256+b:=by omega
def Ib (m:Int):List Int->Int->Int
 | [],n=>n
 |b::bs,n=>Ib m bs ((n*256+b)%m)
theorem nQo(m:Int)(bs:List Int)(b n:Int):Ib m (bs++[b]) n=(Ib m bs n*256+b)%m:=by induction bs generalizing n<;>grind [Ib]
theorem nKh(m:Int)(hm:0<m)(bs:List Int)(n:Int)(h0:0<=n)(h1:n<m):0<=Ib m bs n/\Ib m bs n<m:=by
 induction bs generalizing n with
 |nil=>exact⟨h0,h1⟩
 |cons x bs ih=>exact ih _ (Int.emod_nonneg _ aa) (Int.emod_lt_of_pos _ hm)
theorem n6m(c n m:Int)(b b2:Nat)(hc:0<=c)(ar:c<256)(hn:0<=n)(hnm:n<m)(hm:m<72057594037927936*256)(w:World)(hb:w.heap[b]? =some (oC #[.int .u64 n] 233))(di:w.heap[b2]? =some (oC #[.int .u64 m] 233))(hne:b≠b2):Calls prog 302 #[.int .u8 c,ptr b 0,ptr b2 0] w (Jk w (.tuple #[]) b (oC #[.int .u64 ((n*256+c)%m)] 233)):=by
 have bV:¬Gh.no.M b2:=λh=>h;refine nB Gh.no [(b,_)] (vs:=[_,_,_]) func302 rfl ntmps302 rfl (n1l hb) ?_;refine B 2 ?_;refine rv rfl rfl rfl (iU 56 72057594037927936 zA rfl rfl rfl) ?_;refine B 1 ?_;refine rv rfl rfl rfl (C7 8 256 zA rfl rfl rfl) ?_;refine B 2 ?_;refine rq (.int .u64 ((n*256)%18446744073709551616+c)) (Aj rfl rfl) (vu (Ji n c hc ar)) ?_;refine B 1 ?_;refine zee ?_;refine B 2 ?_;refine rq (.int .u64 ((n*256+c)%m)) (jm rfl rfl) (vu (by rw[Jj n c m])) ?_;refine kY (i:=0) rfl sizeOf233 rfl rfl rfl rfl (ea rfl) rfl ?_;refine B 1 ?_;refine bK (.inr rfl) results302 aX (λW hS=>⟨rfl,(hS.links w A0).mono λk _ hk=>?_,hS.own _ A0⟩);simpa[Gh.no]using hk
def dg (f:Nat->Int):Array Value:=(lU f []).toArray
def Bn (f:Nat->Int):List Int:=(List.range 32).map f
abbrev er (f:Nat->Int):Prop:=∀i,0<=f i/\f i<256
theorem qQ(f:Nat->Int)(i:Nat)(h:i<32):(dg f)[i]? =some (.int .u8 (f i)):=by
 have e:dg f=((List.range 32).map λi=>Value.int .u8 (f i)).toArray:=rfl;rw[e];simp[h]
theorem C8(f:Nat->Int)(j:Nat)(h:j<32):(Bn f).take (j+1)=(Bn f).take j++[f j]:=by
 have hl:j<(Bn f).length:=by simp[Bn];exact h
 rw[M9 hl];simp[Bn]
theorem nmo(f:Nat->Int)(hf:er f)(m:Int)(xg:0<m)(hm:m<72057594037927936*256)(w:World):Calls prog 258 #[.agg (dg f),.int .u64 m] w (aL w (.int .u64 (Ib m (Bn f) 0))):=by
 refine eN func258 ntmps258 ?_;refine B 2 ?_;refine yX ?_;intro b2 w2 di bV ff dB dx;refine yX ?_;intro b3 w3 cZ cu fC ez eP;refine B 1 ?_;refine yW ?_;intro b4 ji jj;refine B 16 ?_;refine CJ.lp (α:=Nat) [2,3,4,5,9] (λj=>[(10,ab (j:Int))]) (λj=>[(b4,oC #[.int .u64 (Ib m ((Bn f).take j) 0)] 233)]) (λj=>j<=32) (λj=>32-j) 0 zA ?_;rintro j hj;have Jf:=nKh m xg ((Bn f).take j) 0 zA xg;refine B 6 ?_;refine aG ?_ ?_
 ·intro ar;refine B 6 ?_;refine rq (.int .u8 (f j)) (uh underlying33 isAgg5 sizeOf5 rfl rfl aa aa (qQ f _ aa)) (congrArg (λk=>Value.int .u8 (f k)) aa) ?_;refine B 6 ?_;refine V4 (f:=302) (i:=0) (first:=[]) (cap:=[ptr b4 0,ptr b3 0]) rfl rfl call302 rfl rfl rfl (λW hS hW=>n6m _ _ _ _ _ (hf j).1 (hf j).2 Jf.1 Jf.2 hm W hW (hS.old A0 cZ cu zz) aa) ?_;refine B 7 ?_;refine PJ.reH (H':=[(b4,oC #[.int .u64 (Ib m ((Bn f).take (j+1)) 0)] 233)]) (by rw[C8 f j aa,nQo];rfl) ?_;exact Jl
 intro ar;refine B 12 ?_;refine cC (.inl rfl) results258 aX A2 zB ?_;exact vu (by rw[jZ (by simp[Bn];omega)])
end Px
namespace Px
open Go
def yh:List Bool->Nat->Nat
 | [],v=>v
 |b::bs,v=>yh bs (2*v+if b then 1 else 0)
theorem ncp(bs:List Bool)(b:Bool)(v:Nat):yh (bs++[b]) v=2*yh bs v+if b then 1 else 0:=by
 induction bs generalizing v with
 |nil=>rfl
 |cons x bs ih=>exact ih _
theorem nen(a m:Int)(bs:List Bool):∀(c:Int) (v:Nat),c%m=a^v%m->nV a m bs c%m=a^yh bs v%m:=by
 induction bs with
 |nil=>intro c v h;exact h
 |cons x bs ih=>
  intro c v h;simp only[nV,yh];apply ih;have hs:c*c%m=a^(2*v)%m:=by rw[Int.mul_emod,h,<-Int.mul_emod,<-Int.pow_add];congr 2;omega
  cases x with
  |false=>simp only[Bool.false_eq_true,if_false,Int.emod_emod,Nat.add_zero];exact hs
  |true=>simp only[if_true,Int.emod_emod];rw[hs,Int.mul_emod,Int.emod_emod,<-Int.mul_emod,<-Int.pow_succ]
theorem nZi(n:Nat):∀j,j<=dd n->yh ((tv n).take j) 0=n/2^(dd n-j)
 |0,_=>by
  simp only[List.take_zero,yh,Nat.sub_zero];have hlt:n<2^dd n:=by
   by_cases h:n=0
   ·subst h;exact Nat.pow_pos zA
   exact(n2h n h).2.1
  exact(Nat.div_eq_of_lt hlt).symm
 |j+1,h=>by
  rw[nbf n j aa,ncp,nZi n j aa];have e:dd n-j=(dd n-1-j)+1:=by omega
  have e2:dd n-(j+1)=dd n-1-j:=by omega
  rw[e,e2,Nat.pow_succ,<-Nat.div_div_eq_div_mul,Nat.testBit_eq_decide_div_mod_eq];by_cases hb:n/2^(dd n-1-j)%2=1
  ·simp only[hb,decide_true,if_true];omega
  simp only[hb,decide_false,Bool.false_eq_true,if_false];omega
theorem ngj(a k m:Int)(h0:0<=k)(hm:1<m):ug a k m=a^k.toNat%m:=by
 have h1:=nen a m (tv k.toNat) 1 0 zI;have h2:=nZi k.toNat (dd k.toNat) (ak _);rw[jZ (by rw[n6d];exact ak _)]at h2;simp only[Nat.sub_self,Nat.pow_zero,Nat.div_one]at h2;rw[h2]at h1;rw[<-h1];have hb:=nij a k m hm;exact(Int.emod_eq_of_lt hb.1 hb.2).symm
end Px
namespace Px
open Go Go.RowKit Go.Proofs Go.Proofs.Tryz
def oO (a:Int):Bool:=decide (a<0)||decide (2305843009213688669<=a)
theorem nOi{a:Int}:oO a=false↔0<=a/\a<2305843009213688669:=by simp[oO]
theorem nHk{a:Int}:oO a=true↔¬(0<=a/\a<2305843009213688669):=by simp[oO];omega
theorem nMj(a:Int)(w:World):Calls prog 257 #[ab a] w (aL w (.bool (oO a))):=by
 refine eN func257 ntmps257 ?_;refine B 10 ?_;refine ni (t:=5) rfl (λar=>?_) (λar=>?_)
 ·exact znh
 exact znh
def yi (p:Int->Bool) (xs:List Int):Int:=match xs.findIdx? p with|some i=>(i:Int)|none=> -1
theorem C9(p:Int->Bool)(xs:List Int)(j:Nat)(hj:j<xs.length)(h:∀x∈xs.take j,p x=false)(hp:p xs[j]=true):yi p xs=(j:Int):=by grind [yi,List.findIdx?_eq_some_iff_getElem,List.mem_take_iff_getElem]
theorem nlp(p:Int->Bool)(xs:List Int)(h:∀x∈xs,p x=false):yi p xs= -1:=by grind [yi]
theorem Da(p:Int->Bool)(xs:List Int):decide (0<=yi p xs)=xs.any p:=by grind [yi]
def ints (xs:List Int):Array Value:=(xs.map λx=>ab x).toArray
theorem ints_at(xs:List Int)(j:Nat)(h:j<xs.length):(ints xs)[j]? =some (ab xs[j]):=by simp[ints,h]
theorem nMk(p:Int->Bool)(f:Nat)(az:ew prog f)(hp:∀x W,Calls prog f #[ab x] W (aL W (.bool (p x))))(xs:List Int)(b T n c:Nat)(fr:Nat×Nat)(hn:xs.length=n)(mq:n<9223372036854775807)(w:World)(hb0:w.heap[b]? =some (.cells (ints xs) T fr)):Calls prog 275 #[.slice (ao b) n c,.func (.func f) #[] #[]] w (aL w (ab (yi p xs))):=by
 have xg:¬Gh.no.M b:=λh=>h;refine eN func275 ntmps275 ?_;refine B 14 ?_;refine CJ.lp (α:=Nat) [0,1,7] (λj=>[(8,ab (j:Int))]) (λj=>[]) (λj=>j<=n/\∀x∈xs.take j,p x=false) (λj=>n-j) 0 ⟨cR _,by simp⟩ ?_;rintro j ⟨hj,hjp⟩;refine B 6 ?_;refine aG ?_ ?_
 ·intro ar;refine B 16 ?_;refine rv rfl rfl rfl (av (v:=ab (xs[j]'aa)) isAgg3 rfl A0 hb0 xg trivial (by rw[<-ints_at xs j aa];congr 1;omega)) ?_;refine Bo (f:=f) (cap:=[]) rfl az rfl rfl rfl (λW hS=>hp _ W) ?_;refine B 2 ?_;refine aG ?_ ?_
  ·intro aN;refine B 12 ?_;refine aF results275 rfl A0 ?_;exact congrArg ab (C9 p xs j aa hjp aN).symm
  intro aN;refine B 7 ?_;refine ag (j+1) ⟨by omega,by intro x hx;rw[M9 aa]at hx;simp only[bj,ka]at hx;rcases hx with hx|rfl;exact hjp x hx;exact aN⟩
 intro ar;refine B 11 ?_;refine aF results275 rfl A0 ?_;exact congrArg ab (nlp p xs (by rw[<-jZ (l:=xs) (i:=j) aa];exact hjp)).symm
theorem nMh(p:Int->Bool)(f:Nat)(az:ew prog f)(hp:∀x W,Calls prog f #[ab x] W (aL W (.bool (p x))))(xs:List Int)(b T n c:Nat)(fr:Nat×Nat)(hn:xs.length=n)(mq:n<9223372036854775807)(w:World)(hb0:w.heap[b]? =some (.cells (ints xs) T fr)):Calls prog 223 #[.slice (ao b) n c,.func (.func f) #[] #[]] w (aL w (.bool (xs.any p))):=by
 refine eN func223 ntmps223 ?_;refine B 9 ?_;refine call call275 rfl rfl rfl (λW hS=>nMk p f az hp xs b T n c fr hn mq W (hS.old A0 hb0 zJ trivial)) ?_;refine B 5 ?_;refine aF results223 rfl A0 ?_;exact vb (Da p xs)
theorem n5d(xs:List Int)(b T n c:Nat)(fr:Nat×Nat)(hn:xs.length=n)(mq:n<9223372036854775807)(w:World)(hb0:w.heap[b]? =some (.cells (ints xs) T fr)):Calls prog 194 #[.slice (ao b) n c] w (aL w (.bool (xs.any oO))):=by
 refine eN func194 ntmps194 ?_;refine B 8 ?_;refine call call223 rfl rfl rfl (λW hS=>nMh oO 257 call257 (λx W=>nMj x W) xs b T n c fr hn mq W (hS.old A0 hb0 zJ trivial)) ?_;refine B 4 ?_;refine aF results194 rfl A0 ?_;rfl
theorem n5k(a b:Int)(ha:0<=a)(gj:a<2305843009213688669)(hb:0<=b)(hb1:b<2305843009213688669)(w:World):Calls prog 274 #[ab a,ab b] w (aL w (ab (a*b%2305843009213688669))):=by
 obtain⟨m1,m2,m3,m4,m5⟩:=nni ha gj hb hb1 zA;have m6:=Int.emod_nonneg (a*b) (b:=2305843009213688669) zA;have m7:=Int.emod_lt_of_pos (a*b) (b:=2305843009213688669) zA;refine eN func274 ntmps274 ?_;refine B 11 ?_;refine zdf ?_;refine B 10 ?_;refine rq (ab (a*b%2305843009213688669)) (yj underlying233 underlying3 rfl (by rw[m5];omega) (by rw[m5];omega)) (by rw[m5]) ?_;refine B 4 ?_;refine aF results274 rfl A0 ?_;rfl
theorem nLm(a:Int)(w:World):Calls prog 123 #[ab a] w (aL w (ab (if oO a then 1 else 0))):=by
 refine eN func123 ntmps123 ?_;refine B 9 ?_;refine Ic ?_;refine yV ?_;intro b4 w4 Ie Cj V5 ji jj;refine call call194 rfl rfl rfl (λW hS=>n5d [a] _ _ _ _ _ rfl zI W (hS.old A0 Ie Cj trivial)) ?_;refine B 2 ?_;refine aG ?_ ?_
 ·intro ar;refine B 7 ?_;refine aF results123 rfl A1 ?_;refine congrArg ab ?_;simp_all
 intro ar;refine B 8 ?_;refine aF results123 rfl A1 ?_;refine congrArg ab ?_;simp_all
abbrev qv (a:Int):Prop:=0<=a/\a<2305843009213688669
def pW (a b:Int):Int×Int:=if qv a/\qv b then(a*b%2305843009213688669,0)else(0,1)
def qR (a b:Int):Int×Int:=if qv a/\qv b then((a+b)%2305843009213688669,0)else(0,1)
theorem V6{a b:Int}(h:[a,b].any oO=false):qv a/\qv b:=by grind [nOi]
theorem Nf{a b:Int}(h:[a,b].any oO=true):¬(qv a/\qv b):=by grind [nHk]
theorem nBp(a b:Int)(w:World):Calls prog 215 #[ab a,ab b] w (aL w (qP (pW a b))):=by
 refine eN func215 ntmps215 ?_;refine B 11 ?_;refine Ic ?_;refine yV ?_;intro b8 w8 hb8 hm8 V7 Ig Ii;refine zRe ?_;refine B 2 ?_;refine aG ?_ ?_
 ·intro ar;refine B 1 ?_;have hg:=Nf ar;refine B 7 ?_;exact zlh
 intro ar;refine B 3 ?_;have hg:=V6 ar;refine B 3 ?_;refine call call274 rfl rfl rfl (λW hS=>n5k _ _ aa aa aa aa W) ?_;refine B 5 ?_;exact zlh
theorem nCp(a b:Int)(w:World):Calls prog 216 #[ab a,ab b] w (aL w (qP (qR a b))):=by
 refine eN func216 ntmps216 ?_;refine B 11 ?_;refine Ic ?_;refine yV ?_;intro b8 w8 hb8 hm8 V7 Ig Ii;refine zRe ?_;refine B 2 ?_;refine aG ?_ ?_
 ·intro ar;refine B 1 ?_;have hg:=Nf ar;refine B 7 ?_;exact zkh
 intro ar;refine B 3 ?_;have hg:=V6 ar;refine B 4 ?_;refine rv rfl rfl rfl (C4 rfl rfl aa aa) ?_;refine B 5 ?_;exact zkh

abbrev Db (x:Int):Prop:=1<=x/\x<2305843009213688669
theorem Bp:eg 4:=by decide +kernel
def Jm (x:Int):Int×Int:=if Db x then(ug 4 x 4611686018427377339,0)else(0,50)
theorem Ng{x:Int}(h:Db x):gExp 4 x=(ug 4 x 4611686018427377339,0):=by unfold gExp;rw[if_pos Bp,if_pos aa]
theorem nGi(a:Int)(w:World):Calls prog 132 #[ab a] w (aL w (.bool (decide (Db a)))):=by
 refine eN func132 ntmps132 ?_;refine B 10 ?_;refine ni (t:=5) rfl (λar=>?_) (λar=>?_)
 ·replace ar:=ya ar;refine B 7 ?_;refine aF results132 rfl A0 ?_;refine vb (Dc.2 ?_)
  (try simp only[decide_eq_true_eq,Bool.false_eq_true,false_iff,true_iff])
  first|omega|(intro h;omega)
 replace ar:=ya ar;refine B 7 ?_;refine aF results132 rfl A0 ?_;refine vb (Dc.2 ?_)
 (try simp only[decide_eq_true_eq,Bool.false_eq_true,false_iff,true_iff])
 first|omega|(intro h;omega)
theorem nDh(a:Int)(w:World):Calls prog 133 #[ab a] w (aL w (ab (gExp 4 a).1)):=by
 refine eN func133 ntmps133 ?_;refine B 8 ?_;refine call call124 rfl rfl rfl (λW hS=>nzi _ W) ?_;refine B 14 ?_;refine aF results133 rfl A0 ?_;rfl
theorem ngn(a:Int)(w:World):Calls prog 79 #[ab a] w (aL w (qP (Jm a))):=by
 refine eN func79 ntmps79 ?_;refine B 10 ?_;refine call call132 rfl rfl rfl (λW hS=>nGi _ W) ?_;refine B 3 ?_;refine aG ?_ ?_
 ·intro ar;refine B 8 ?_;exact zYg
 intro ar;refine B 5 ?_;refine call call133 rfl rfl rfl (λW hS=>nDh _ W) ?_;refine B 5 ?_;exact zYg
theorem V8(n:Nat)(h1:1<=n)(h2:n<=31):(IntKind.u64.wrap (-(n:Int)))%32=((32-n:Nat):Int):=by rw[nC];omega
theorem Pk(x:BitVec 32)(n:Nat)(h1:1<=n)(h2:n<=31)(w:World):Calls prog 285 #[u32 x,ab (-(n:Int))] w (aL w (u32 (Ak x n))):=by
 refine eN func285 ntmps285 ?_;refine B 8 ?_;refine rv rfl rfl rfl (kH underlying3 underlying222 rfl) ?_;refine rq (.int .u64 ((32-n:Nat):Int)) (qM 5 32 zA rfl rfl rfl rfl (by rw[nC];omega) (by rw[nC];omega)) (vu (V8 n h1 h2)) ?_;refine B 7 ?_;refine rv rfl rfl rfl (Dd (32-n) aa rfl rfl rfl) ?_;refine B 2 ?_;refine ay (.int .u64 (n:Int)) ?_;refine rv rfl rfl rfl (yk n aa rfl rfl rfl) ?_;refine rv rfl rfl rfl (Al rfl rfl) ?_;refine B 4 ?_;refine aF results285 rfl A0 ?_;exact congrArg u32 (BitVec.or_comm _ _)
theorem nhf(x:BitVec 32)(a b c:Nat)(ha:1<=a)(gj:a<=31)(hb:1<=b)(hb1:b<=31)(hc:1<=c)(ar:c<=31)(w:World):Calls prog 286 #[u32 x,ab (a:Int),ab (b:Int),ab (c:Int)] w (aL w (u32 (Ak x a^^^Ak x b^^^Ak x c))):=by
 refine eN func286 ntmps286 ?_;refine B 9 ?_;refine rv rfl rfl rfl (yl rfl aa aa) ?_;refine call call285 rfl rfl rfl (λW hS=>Pk _ a aa aa W) ?_;refine B 2 ?_;refine rv rfl rfl rfl (yl rfl aa aa) ?_;refine call call285 rfl rfl rfl (λW hS=>Pk _ b aa aa W) ?_;refine rv rfl rfl rfl (kI rfl rfl) ?_;refine B 2 ?_;refine rv rfl rfl rfl (yl rfl aa aa) ?_;refine call call285 rfl rfl rfl (λW hS=>Pk _ c aa aa W) ?_;refine rv rfl rfl rfl (kI rfl rfl) ?_;refine B 4 ?_;refine aF results286 rfl A0 ?_;rfl
def Am (m:Nat->Int):Nat->BitVec 32
 |0=>0
 |n+1=>Am m n<<<8|||BitVec.ofInt 32 (m n)
theorem Jn(m:Nat->Int):Am m 4=Uh m 0:=by grind [Am,Uh]
theorem nQm(m:Nat->Int)(b off n c t:Nat)(fr:Nat×Nat)(cs:Array Value)(hn:4<=n)(hc:n<=c)(w:World)(hb0:w.heap[b]? =some (.cells cs t fr))(hm:∀i,i<4->cs[off+i]? =some (.int .u8 (m i))):Calls prog 284 #[.slice (some ⟨b,off,none⟩) n c] w (aL w (u32 (Uh m 0))):=by
 have xg:¬Gh.no.M b:=λh=>h;refine eN func284 ntmps284 ?_;refine B 9 ?_;refine rv rfl rfl rfl (fE (h:=4) underlying106 sizeOf5 rfl ⟨_,_,rfl,rfl⟩ aa) ?_;refine B 5 ?_;refine CJ.lp (α:=Nat) [6,7] (λj=>[(2,u32 (Am m j)),(8,ab (j:Int))]) (λj=>[]) (λj=>j<=4) (λj=>4-j) 0 zA ?_;rintro j hj;refine B 6 ?_;refine aG ?_ ?_
 ·intro ar;refine B 7 ?_;refine rv rfl rfl rfl (av (v:=.int .u8 (m j)) isAgg5 rfl A0 hb0 xg trivial (by rw[<-hm j aa];exact congrArg (λi=>cs[i]?) aa)) ?_;refine B 5 ?_;refine rv rfl rfl rfl (Dd 8 zA rfl rfl rfl) ?_;refine B 1 ?_;refine rv rfl rfl rfl (Pm underlying5 underlying303 rfl) ?_;refine rv rfl rfl rfl (Al rfl rfl) ?_;refine B 8 ?_;exact Jl
 intro ar;refine B 12 ?_;refine aF results284 rfl A0 ?_;have e:j=4:=by omega
 subst e;exact congrArg u32 (Jn m)
def ui (cs:Array Value) (off len:Nat) (n:Nat):Nat->Array Value
 |0=>cs
 |i+1=>setCells (ui cs off len n i) (off+(len-1-i)) [.int .u8 ((n/2^(8*i)%256:Nat):Int)]
theorem nwp(cs:Array Value)(off len n:Nat):∀i,(ui cs off len n i).size=cs.size:=
 by intro x;induction x<;>(intros;grind [ui,n4d])
theorem V9(n i:Nat)(k:Int)(hk:k=((8*i:Nat):Int))(hi:i<=7):(n:Int).fdiv (2^(min (Int.toNat k) IntKind.u64.bits))%256=((n/2^(8*i)%256:Nat):Int):=by
 rw[Nb n (8*i) k hk aa];omega
theorem nae(n:Nat)(b off len cap t:Nat)(cs:Array Value)(hlen:len<=8)(kZ:off+len<=cs.size)(w:World)(hb:w.heap[b]? =some (oC cs t)):Calls prog 234 #[.slice (some ⟨b,off,none⟩) len cap,.int .u64 (n:Int)] w (Jk w (.tuple #[]) b (oC (ui cs off len n len) t)):=by
 refine nB Gh.no [(b,_)] (vs:=[_,_]) func234 rfl ntmps234 rfl (n1l hb) ?_;refine B 8 ?_;refine CJ.lp (α:=Nat) [0,1,6] (λj=>[(7,ab (j:Int))]) (λj=>[(b,oC (ui cs off len n j) t)]) (λj=>j<=len) (λj=>len-j) 0 (cR _) ?_;rintro j hj;refine B 6 ?_;refine aG ?_ ?_
 ·intro ar;refine B 20 ?_;refine rv rfl rfl rfl (lT rfl rfl aa) ?_;refine rq (.int .u8 ((n/2^(8*j)%256:Nat):Int)) (oP underlying233 underlying5 rfl) (congrArg (Value.int .u8) (V9 n j _ aa aa)) ?_;refine rq (ptr b (off+(len-1-j))) (dc underlying106 sizeOf5 rfl rfl aa aa) (congrArg (λk=>ptr b (off+k)) aa) ?_;refine kY (i:=0) rfl sizeOf5 rfl rfl rfl rfl (by rw[nwp];omega) rfl ?_;refine B 7 ?_;exact Jl
 intro ar;refine B 4 ?_;have e:j=len:=by omega
 subst e;refine bK (.inr rfl) results234 aX (λW hS=>⟨rfl,(hS.links w A0).mono λk _ hk=>?_,hS.own _ A0⟩);simpa[Gh.no]using hk
theorem Nh(n:Nat)(f:Nat->Value)(i k:Nat)(h:k=i)(hi:i<n):(cf n f)[k]? =some (f i):=by subst h;exact Ni n f k hi
theorem S8.cells_ld(s:S8)(i k:Nat)(h:k=i)(hi:i<8):s.cells[k]? =some (u32 (s.at i)):=by subst h;exact s.cells_at k hi
theorem De(m:Nat->Int)(j:Nat)(v:BitVec 32)(hv:v=if j<16 then Uh m (4*j)else gk m j (j-16)+s0 (gk m j (j-15))+gk m j (j-7)+s1 (gk m j (j-2))):setCells (cf 64 (λi=>u32 (gk m j i))) j (u32 v).cells.toList=cf 64 (λi=>u32 (gk m (j+1) i)):=by
 show setCells (cf 64 (λi=>u32 (gk m j i))) j [u32 v]=_;rw[Wb];congr 1;funext i;simp only[gk,Jo];split<;>simp_all
def sw (s v:S8) (j:Nat):Array Value:=cf 8 (λk=>u32 (if k<j then s.at k+v.at k else s.at k))
theorem nxp(s v:S8)(j:Nat):setCells (sw s v j) j (u32 (s.at j+v.at j)).cells.toList=sw s v (j+1):=by
 show setCells (cf 8 _) j [u32 (s.at j+v.at j)]=_;rw[Wb];unfold sw;congr 1;all_goals grind [Jo]
theorem Pn(s v:S8):sw s v 8=(s.add v).cells:=rfl
theorem Jp(s v:S8)(j k:Nat)(h:k=j)(hj:j<8):(sw s v j)[k]? =some (u32 (s.at j)):=by
 rw[sw,Nh 8 _ j k h hj];simp
theorem n7d(s:S8)(m:Nat->Int)(b bb off n c t:Nat)(fr qw:Nat×Nat)(t3:Nat)(cs:Array Value)(hn:64<=n)(hc:n<=c)(w:World)(hb:w.heap[b]? =some (oC s.cells 374))(An:w.heap[bb]? =some (.cells cs t fr))(hm:∀i,i<64->cs[off+i]? =some (.int .u8 (m i)))(hne:bb≠b)(hg:w.heap[5]? =some (.cells (cf 64 (λi=>u32 (kk i))) t3 qw))(Wg:b≠5):Calls prog 233 #[ptr b 0,.slice (some ⟨bb,off,none⟩) n c] w (Jk w (.tuple #[]) b (oC (s.comp m).cells 374)):=by
 have Wh:=(aT.1 An).1;have jl:=(aT.1 hb).1;have Ui:=(aT.1 hg).1;refine nB Gh.no [(b,_)] (vs:=[_,_]) func233 rfl ntmps233 rfl (n1l hb) ?_;refine B 3 ?_;refine yW ?_;intro b4 ji jj;refine B 9 ?_;refine CJ.lp (α:=Nat) [0,1,4] (λj=>[(14,ab (j:Int))]) (λj=>[(b4,oC (cf 64 (λi=>u32 (gk m j i))) 426),(b,oC s.cells 374)]) (λj=>j<=16) (λj=>16-j) 0 zA ?_;rintro j hj;refine B 6 ?_;refine aG ?_ ?_
 ·intro ar;refine B 15 ?_;refine rv rfl rfl rfl (fZ (l:=4*j) (h:=n) (off':=off+4*j) underlying106 sizeOf5 rfl ⟨_,_,rfl,by omega⟩ rfl aa aa zwc) ?_;refine call call284 rfl rfl rfl (λW hS=>nQm (λi=>m (4*j+i)) _ _ _ _ _ _ _ aa aa W (hS.old A0 An zJ zz) (λi hi=>by rw[Nat.add_assoc];exact hm _ aa)) ?_;refine zSd ?_;refine B 7 ?_;refine PJ.reH (H':=[(b4,oC (cf 64 (λi=>u32 (gk m (j+1) i))) 426),(b,oC s.cells 374)]) (by rw[<-De m j (Uh (λi=>m (4*j+i)) 0) (by rw[if_pos aa];rfl)];rfl) ?_;exact Jl
 intro ar;refine B 12 ?_;have e:j=16:=by omega
 subst e;refine CJ.lp (α:=Nat) [0,4] (λj=>[(6,ab (j:Int))]) (λj=>[(b4,oC (cf 64 (λi=>u32 (gk m j i))) 426),(b,oC s.cells 374)]) (λj=>16<=j/\j<=64) (λj=>64-j) 16 zA ?_;rintro j ⟨Uj,hj⟩;refine B 7 ?_;refine aG ?_ ?_
 ·intro aN;refine B 5 ?_;refine eA 9 (pb:=by exact zU 3 (k:=by exact aU (X.v (bH (v:=u32 (gk m j (j-15))) (i:=0) rfl isAgg303 rfl (Nh 64 (λi=>u32 (gk m j i)) (j-15) _ aa aa))) (zU 3 (k:=by exact aU (X.v (bH (v:=u32 (gk m j (j-2))) (i:=0) rfl isAgg303 rfl (Nh 64 (λi=>u32 (gk m j i)) (j-2) _ aa aa))) zT)))) (k:=?_);refine B 3 ?_;refine eA 28 (pb:=by exact zU 4 (k:=by exact aU (X.v (bH (v:=u32 (gk m j (j-16))) (i:=0) rfl isAgg303 rfl (Nh 64 (λi=>u32 (gk m j i)) (j-16) _ aa aa))) (zU 1 (k:=by exact aU (nf call285 rfl rfl (λW hS _=>Pk _ 7 zA zA W) (λ_=>rfl)) (zU 1 (k:=by exact aU (nf call285 rfl rfl (λW hS _=>Pk _ 18 zA zA W) (λ_=>rfl)) (aU (X.v (kI rfl rfl)) (zU 1 (k:=by exact aU (X.v (yk 3 zA rfl rfl rfl)) (aU (X.v (kI rfl rfl)) (aU (X.v (iW rfl rfl)) (zU 3 (k:=by exact aU (X.v (bH (v:=u32 (gk m j (j-7))) (i:=0) rfl isAgg303 rfl (Nh 64 (λi=>u32 (gk m j i)) (j-7) _ aa aa))) (aU (X.v (iW rfl rfl)) (zU 1 (k:=by exact aU (nf call285 rfl rfl (λW hS _=>Pk _ 17 zA zA W) (λ_=>rfl)) (zU 1 (k:=by exact aU (nf call285 rfl rfl (λW hS _=>Pk _ 19 zA zA W) (λ_=>rfl)) (aU (X.v (kI rfl rfl)) (zU 1 (k:=by exact aU (X.v (yk 10 zA rfl rfl rfl)) (aU (X.v (kI rfl rfl)) (aU (X.v (iW rfl rfl)) (vK rfl)))))))))))))))))))))))) (k:=?_)
  refine zSd ?_;refine B 8 ?_;refine PJ.reH (H':=[(b4,oC (cf 64 (λi=>u32 (gk m (j+1) i))) 426),(b,oC s.cells 374)]) (by rw[<-De m j _ Wj];rfl) ?_;exact Jl
 intro aN;refine B 11 ?_;refine yW ?_;intro b9 xh tw;refine B 10 ?_;have e:j=64:=by omega
 subst e;obtain⟨ws,hX⟩:∃ws,ws=gk m 64:=⟨_,rfl⟩;refine CJ.reH (H':=[(b9,oC s.cells 374),(b4,oC (cf 64 (λi=>u32 (ws i))) 426),(b,oC s.cells 374)]) (by rw[hX];rfl) ?_;refine CJ.lp (α:=Nat) [0,4,9] (λj=>[(69,ab (j:Int))]) (λj=>[(b9,oC (S8.run ws s j).cells 374),(b4,oC (cf 64 (λi=>u32 (ws i))) 426),(b,oC s.cells 374)]) (λj=>j<=64) (λj=>64-j) 0 zA ?_;rintro j hj;dsimp only;generalize hv:S8.run ws s j=v;refine B 6 ?_;refine aG ?_ ?_
 ·intro dp;refine B 11 ?_;refine eA 25 (pb:=by exact zU 4 (k:=by exact aU (nf call286 rfl rfl (λW hS _=>nhf _ 6 11 25 zA zA zA zA zA zA W) (λ_=>rfl)) (aU (X.v (iW rfl rfl)) (zU 8 (k:=by exact aU (X.v (kI rfl rfl)) (aU (X.v (ym rfl rfl)) (aU (X.v (kI rfl rfl)) (aU (X.v (iW rfl rfl)) (zU 2 (k:=by exact aU (X.v (av (v:=u32 (kk j)) isAgg303 rfl A0 hg zJ zz (Nh 64 (λi=>u32 (kk i)) j _ aa aa))) (aU (X.v (iW rfl rfl)) (zU 2 (k:=by exact aU (X.v (bH (v:=u32 (ws j)) (i:=1) rfl isAgg303 rfl (Nh 64 (λi=>u32 (ws i)) j _ aa aa))) (vK rfl)))))))))))))) (k:=?_);refine rv rfl rfl rfl (iW rfl rfl) ?_;refine B 4 ?_;refine eA 17 (pb:=by exact zU 2 (k:=by exact aU (nf call286 rfl rfl (λW hS _=>nhf _ 2 13 22 zA zA zA zA zA zA W) (λ_=>rfl)) (zU 4 (k:=by exact aU (X.v (ym rfl rfl)) (zU 6 (k:=by exact aU (X.v (Al rfl rfl)) (aU (X.v (ym rfl rfl)) (aU (X.v (Al rfl rfl)) (vK rfl))))))))) (k:=?_);refine rv rfl rfl rfl (iW rfl rfl) ?_;refine B 4 ?_;refine eA 2 (pb:=by exact aU (X.v (Df (l:=1) underlying374 sizeOf303 rfl ⟨_,_,rfl,rfl⟩ rfl aa aa Wj)) (aU (X.v (fF (h:=7) underlying374 sizeOf303 rfl ⟨_,_,rfl,rfl⟩ aa)) (vK rfl))) (k:=?_);refine Uk (i:=0) (n:=7) rfl underlying430 sizeOf303 rfl rfl rfl rfl (λ_=>rfl) zA (Rd.own (i:=0) rfl (ea rfl) rfl) (ea rfl) rfl ?_
  refine B 3 ?_;refine CJ.reH (H':=[(b9,oC #[u32 v.a,u32 v.a,u32 v.b,u32 v.c,u32 v.d,u32 v.e,u32 v.f,u32 v.g] 374),(b4,oC (cf 64 (λi=>u32 (ws i))) 426),(b,oC s.cells 374)]) rfl ?_;refine B 4 ?_;refine zJf ?_;refine B 5 ?_;refine zJf ?_;refine B 7 ?_;refine PJ.reH (H':=[(b9,oC (S8.run ws s (j+1)).cells 374),(b4,oC (cf 64 (λi=>u32 (ws i))) 426),(b,oC s.cells 374)]) (by simp only[S8.run,hv,S8.step,S8.P,S8.Q,<-Jq,<-Jr];rfl) ?_;exact Jl
 intro dp;refine B 11 ?_;have e:j=64:=by omega
 subst e;refine CJ.lp (α:=Nat) [0,9] (λj=>[(129,ab (j:Int))]) (λj=>[(b9,oC v.cells 374),(b4,oC (cf 64 (λi=>u32 (ws i))) 426),(b,oC (sw s v j) 374)]) (λj=>j<=8) (λj=>8-j) 0 zA ?_;rintro j hj;refine B 6 ?_;refine aG ?_ ?_
 ·intro jh;refine B 10 ?_;refine eA 10 (pb:=by exact zU 4 (k:=by exact aU (X.v (bH (v:=u32 (s.at j)) (i:=2) rfl isAgg303 rfl (Jp s v j _ aa aa))) (zU 2 (k:=by exact aU (X.v (bH (v:=u32 (v.at j)) (i:=0) rfl isAgg303 rfl (S8.cells_ld _ j _ aa aa))) (aU (X.v (iW rfl rfl)) zT))))) (k:=?_);refine rq (ptr b j) (uj underlying374 sizeOf303 rfl rfl aa aa) (congrArg (ptr b) aa) ?_;refine kY (i:=2) rfl sizeOf303 rfl rfl rfl rfl (by rw[sw,Dg];omega) rfl ?_;refine B 7 ?_;refine PJ.reH (H':=[(b9,oC v.cells 374),(b4,oC (cf 64 (λi=>u32 (ws i))) 426),(b,oC (sw s v (j+1)) 374)]) (by rw[<-nxp];rfl) ?_;exact Jl
 intro jh;refine B 4 ?_;have e:j=8:=by omega
 subst e;rw[show(s.comp m).cells=sw s v 8 from by rw[Pn,S8.comp,<-hX,hv]];refine bK (.inr rfl) results233 aX (λW hS=>⟨rfl,(hS.links w A0).mono λk hk hx=>?_,hS.own _ A2⟩);simp only[Gh.no,dy,eV,bX,dE,or_false,false_or]at hx;omega
theorem Ul:prog.info? 5=some Tryz.t5:=by kernel_rfl
theorem Dh(N:Nat)(g:Nat->Value):∀(news:List Value) (f:Nat->Value) (off:Nat),(∀i,i<news.length->news[i]? =some (g (off+i)))->setCells (cf N f) off news=cf N (λi=>if off<=i/\i<off+news.length then g i else f i)
 | [],f,off,_=>by
  show cf N f=_;apply Um;intro i _;rw[if_neg (by simp only[fh];omega)]
 |v::vs,f,off,h=>by
  have h0:=h 0 zI;simp only[Js,vM,Nat.add_zero]at h0;show setCells (setCells (cf N f) off [v]) (off+1) vs=_;rw[Wb,Dh N g vs _ (off+1) (λi hi=>by
   have:=h (i+1) oN;simp only[Ij]at this;rw[this];congr 2;omega)]
  apply Um;intro i _;simp only[dF,Jo];by_cases h1:i=off
  ·subst h1;rw[if_neg aa,if_pos rfl,if_pos aa,h0]
  by_cases h2:off+1<=i/\i<off+1+vs.length
  ·rw[if_pos h2,if_pos aa]
  rw[if_neg h2,if_neg h1,if_neg aa]
theorem nFj(N:Nat)(f:Nat->Value)(off len n:Nat):∀k,k<=len->ui (cf N f) off len n k=cf N (λi=>if off+(len-k)<=i/\i<off+len then .int .u8 ((n/2^(8*(off+len-1-i))%256:Nat):Int)else f i)
 |0,_=>by
  show cf N f=_;apply Um;intro i _;rw[if_neg aa]
 |k+1,hk=>by
  rw[ui,nFj N f off len n k aa,Wb];apply Um;intro i _;simp only[Jo];by_cases h1:i=off+(len-1-k)
  ·rw[if_pos h1,if_pos aa,show off+len-1-i=k by omega]
  rw[if_neg h1];by_cases h2:off+(len-k)<=i/\i<off+len
  ·rw[if_pos h2,if_pos aa]
  rw[if_neg h2,if_neg aa]
theorem Wo(f:Nat->Int):cf 32 (λk=>.int .u8 (f k))=dg f:=rfl
theorem nln{cs:Array Value}{o r:Nat}{m:Nat->Int}(h:o+r<=cs.size)(hm:∀i,i<r->cs[o+i]? =some (.int .u8 (m i))):∀i,i<((cs.toList.drop o).take (r*1)).length->((cs.toList.drop o).take (r*1))[i]? =some (.int .u8 (m i)):=by grind
theorem n4h{cs:Array Value}{o r:Nat}(h:o+r<=cs.size):((cs.toList.drop o).take (r*1)).length=r:=by simp;omega
theorem nYn{m:Nat->Int}:∀(l:List Value),(∀i,i<l.length->l[i]? =some (.int .u8 (m i)))->aZ l=true
 | [],_=>rfl
 |v::l,h=>by
  have h0:=h 0 zI;simp at h0;subst h0;simp only[aZ,yn,Bool.true_and];exact nYn (m:=λi=>m (i+1)) l λi hi=>by have:=h (i+1) oN;simpa using this
def qS (n:Nat) (m:Nat->Int) (j N i:Nat):Value:=if(N-8)+(8-8)<=i/\i<(N-8)+8 then .int .u8 ((8*n/2^(8*((N-8)+8-1-i))%256:Nat):Int)else Jo (λi=>if 0<=i/\i<0+(n-64*j)then .int .u8 (m (64*j+i))else Ck) (n-64*j) (.int .u8 128) i
theorem npm(n:Nat)(m:Nat->Int)(j N:Nat):ui (setCells (cf 128 (λi=>if 0<=i/\i<0+(n-64*j)then .int .u8 (m (64*j+i))else Ck)) (n-64*j) [.int .u8 128]) (N-8) 8 (8*n) 8=cf 128 (qS n m j N):=by
 rw[Wb,nFj 128 _ _ 8 _ 8 (ak _)];rfl
theorem nol(n:Nat)(m:Nat->Int)(j N i:Nat)(hj:64*j<=n)(hN:64*(gU n-j)=N)(hr:n-64*j<64)(hi:i<N):qS n m j N i= .int .u8 (yo n m (64*j+i)):=by grind [gU,qS,yo,Jo]
def kJ (s:S8) (i:Nat):Array Value:=cf 32 (λk=>.int .u8 (if k<4*i then Dj s k else 0))
theorem nzk(s:S8)(i:Nat)(hi:i<8):ui (kJ s i) (4*i) 4 (s.at i).toNat 4=kJ s (i+1):=by
 unfold kJ;rw[nFj 32 _ (4*i) 4 _ 4 (ak _)];apply Um;all_goals grind [Dj]
theorem Po(s:S8):kJ s 8=dg (Dj s):=by grind [Wo,kJ,Um]
theorem Jt(n:Nat)(m:Nat->Int)(i:Nat)(h:i<n):yo n m i=m i:=by unfold yo;rw[if_pos h]
theorem nSf(n:Nat)(m:Nat->Int)(bb off c t t2 t3:Nat)(fr xi qw:Nat×Nat)(cs:Array Value)(hc:n<=c)(hn:n<1152921504606846976)(w:World)(An:w.heap[bb]? =some (.cells cs t fr))(mA:off+n<=cs.size)(hm:∀i,i<n->cs[off+i]? =some (.int .u8 (m i)))(hg2:w.heap[3]? =some (.cells S8.init.cells t2 xi))(hg:w.heap[5]? =some (.cells (cf 64 (λi=>u32 (kk i))) t3 qw)):Calls prog 164 #[.slice (some ⟨bb,off,none⟩) n c] w (aL w (.agg (dg (vl n m)))):=by
 have Wh:=(aT.1 An).1;have ae5:=(aT.1 hg2).1;have Ui:=(aT.1 hg).1;refine eN func164 ntmps164 ?_;refine B 3 ?_;refine yW ?_;intro b2 dB dx;refine B 6 ?_;refine yW ?_;intro b3 ez eP;refine B 5 ?_;refine Wt ?_;refine B 11 ?_;refine CJ.loop (α:=Nat×Nat) (λp=>[(0,.slice (some ⟨bb,off,none⟩) n c),(2,ptr b2 0),(3,ptr b3 0),(4,.func (.func 233) #[ptr b3 0] #[]),(5,.slice (some ⟨bb,p.2,none⟩) (n-64*p.1) (c-64*p.1))]) (λp=>[(b3,oC (sx n m p.1).cells 374),(b2,oC (tz []).toArray 33)]) (λp=>[w]) (λp=>Gh.no) (λp=>64*p.1<=n/\(64*p.1<c->p.2=off+64*p.1)/\p.2<=off+64*p.1) (λp=>n-64*p.1) (0,off) zS zR rfl rfl zI ?_;rintro⟨j,o⟩ ⟨hj,ho,jy⟩;dsimp only at hj ho jy ⊢;refine B 8 ?_;refine aG ?_ ?_
 ·intro ar;refine zmf ?_;refine V4 (f:=233) (i:=0) (first:=[ptr b3 0]) (cap:=[]) rfl rfl call233 rfl rfl rfl (λW hS hW=>n7d (sx n m j) (λi=>yo n m (64*j+i)) b3 bb o 64 (c-64*j) t fr qw t3 cs aa aa W hW (hS.old A0 An zJ zz) (λi hi=>by rw[Jt n m _ aa,<-hm _ aa];exact congrArg (λk=>cs[k]?) (by have:=ho aa;omega)) aa (hS.old A0 hg zJ zz) aa) ?_;refine B 5 ?_;refine rv rfl rfl rfl (fZ (l:=64) (h:=n-64*j) underlying106 sizeOf5 rfl ⟨_,_,rfl,rfl⟩ rfl aa aa rfl) ?_;refine B 2 ?_;refine PJ.again (j+1,if c-64*j=64 then o else o+64*1) (by dsimp only;split<;>omega) zS ⟨rfl,rfl,rfl,rfl,by rw[show n-64*(j+1)=n-64*j-64 by omega,show c-64*(j+1)=c-64*j-64 by omega];rfl,trivial⟩ rfl rfl zI
 intro ar;refine B 7 ?_;refine Wu (ln:=64) (cp:=128) underlying106 Ul rfl rfl rfl rfl rfl rfl rfl aa zA aa ?_;refine yW ?_;intro rZ Ju Wv;refine B 4 ?_;have hmr:∀i,i<n-64*j->cs[o+i]? =some (.int .u8 (m (64*j+i))):=λi hi=>by rw[<-hm _ aa];exact congrArg (λk=>cs[k]?) (by have:=ho aa;omega)
 refine B 3 ?_;refine Uk (i:=0) (n:=n-64*j) rfl underlying106 sizeOf5 rfl rfl rfl rfl (λ_=>rfl) aa (Rd.old A0 An zJ zz aa rfl) (by rw[n4h aa,Dg];omega) (nYn _ (nln (m:=λi=>m (64*j+i)) aa hmr)) ?_;refine B 3 ?_;refine CJ.reH (H':=[(rZ,oC (cf 128 (λi=>if 0<=i/\i<0+(n-64*j)then .int .u8 (m (64*j+i))else Ck)) 5),(b3,oC (sx n m j).cells 374),(b2,oC (tz []).toArray 33)]) (by rw[<-n4h (cs:=cs) (o:=o) (r:=n-64*j) aa,<-Dh 128 (λi=>.int .u8 (m (64*j+i))) _ _ 0 (by intro i hi;rw[lL];exact nln (m:=λi=>m (64*j+i)) aa hmr i hi),n4h aa];rfl) ?_;refine B 4 ?_;refine rq (ptr rZ (n-64*j)) (dc underlying106 sizeOf5 rfl rfl aa aa) (congrArg (ptr rZ) aa) ?_;refine kY (i:=0) rfl sizeOf5 rfl rfl rfl rfl (by rw[Dg];omega) rfl ?_;refine B 10 ?_;refine aG ?_ ?_
 ·intro aN;refine B 2 ?_;refine rv rfl rfl rfl (fE (h:=128) underlying106 sizeOf5 rfl ⟨_,_,rfl,rfl⟩ aa) ?_;refine B 4 ?_;obtain⟨N,hN,hNN⟩:∃N,N=128/\64*(gU n-j)=N:=⟨128,rfl,by unfold gU;omega⟩;refine B 5 ?_;refine rv rfl rfl rfl (fZ (l:=120) (h:=128) (off':=120) underlying106 sizeOf5 rfl ⟨_,_,rfl,rfl⟩ rfl aa aa rfl) ?_;refine B 3 ?_;refine zxd ?_;refine OJ.reH (H':=[(rZ,oC (cf 128 (qS n m j N)) 5),(b3,oC (sx n m j).cells 374),(b2,oC (tz []).toArray 33)]) (by subst hN;rw[<-npm];rfl) ?_;refine B 4 ?_;refine CJ.loop (α:=Nat×Nat) (λp=>[(2,ptr b2 0),(3,ptr b3 0),(4,.func (.func 233) #[ptr b3 0] #[]),(6,.slice (some ⟨rZ,p.2,none⟩) (N-64*p.1) (128-64*p.1))]) (λp=>[(rZ,oC (cf 128 (qS n m j N)) 5),(b3,oC (sx n m (j+p.1)).cells 374),(b2,oC (tz []).toArray 33)]) (λp=>[w]) (λp=>Gh.no) (λp=>64*p.1<=N/\(64*p.1<128->p.2=64*p.1)) (λp=>N-64*p.1) (0,0) zS ⟨rfl,rfl,rfl,by subst hN;rfl,trivial⟩ rfl rfl zI ?_;rintro⟨k,o2⟩ ⟨hk,dx⟩;dsimp only at hk dx ⊢;refine B 8 ?_;refine aG ?_ ?_
  ·intro dp;exact zqg
  intro dp;refine B 13 ?_;have hjk:j+k=gU n:=by unfold gU at *;omega
  rw[hjk];refine zud ?_;rintro i hi;refine B 6 ?_;refine aG ?_ ?_
  ·intro jh;refine zHf ?_;refine ag (i+1) aa
  intro jh;exact zEg
 intro aN;refine B 3 ?_;obtain⟨N,hN,hNN⟩:∃N,N=64/\64*(gU n-j)=N:=⟨64,rfl,by unfold gU;omega⟩;refine B 5 ?_;refine rv rfl rfl rfl (fZ (l:=56) (h:=64) (off':=56) underlying106 sizeOf5 rfl ⟨_,_,rfl,rfl⟩ rfl aa aa rfl) ?_;refine B 3 ?_;refine zxd ?_;refine OJ.reH (H':=[(rZ,oC (cf 128 (qS n m j N)) 5),(b3,oC (sx n m j).cells 374),(b2,oC (tz []).toArray 33)]) (by subst hN;rw[<-npm];rfl) ?_;refine B 4 ?_;refine CJ.loop (α:=Nat×Nat) (λp=>[(2,ptr b2 0),(3,ptr b3 0),(4,.func (.func 233) #[ptr b3 0] #[]),(6,.slice (some ⟨rZ,p.2,none⟩) (N-64*p.1) (128-64*p.1))]) (λp=>[(rZ,oC (cf 128 (qS n m j N)) 5),(b3,oC (sx n m (j+p.1)).cells 374),(b2,oC (tz []).toArray 33)]) (λp=>[w]) (λp=>Gh.no) (λp=>64*p.1<=N/\(64*p.1<128->p.2=64*p.1)) (λp=>N-64*p.1) (0,0) zS ⟨rfl,rfl,rfl,by subst hN;rfl,trivial⟩ rfl rfl zI ?_;rintro⟨k,o2⟩ ⟨hk,dx⟩;dsimp only at hk dx ⊢;refine B 8 ?_;refine aG ?_ ?_
 ·intro iC;exact zqg
 intro iC;refine B 13 ?_;have hjk:j+k=gU n:=by unfold gU at *;omega
 rw[hjk];refine zud ?_;rintro i hi;refine B 6 ?_;refine aG ?_ ?_
 ·intro lS;refine zHf ?_;refine ag (i+1) aa
 intro lS;exact zEg
theorem Dl(n:Nat)(h0:0<n)(h1:n<=1099511627776)(w:World):Calls prog 235 #[aj,ab (n:Int)] w (cK w (λp:Nat×Nat=>.slice (ao p.1) 0 p.2) (λp w1=>w.heap.size<=p.1/\n<=p.2/\w1.heap[p.1]? =some (oC (cf p.2 (λ_=>Ck)) 5))):=by
 refine eN func235 ntmps235 ?_;refine B 9 ?_;refine ay bN ?_;refine B 14 ?_;refine ay (ab (n:Int)) ?_;refine B 6 ?_;refine ay cY ?_;refine B 7 ?_;refine rv rfl rfl rfl (Wz underlying106 sizeOf5 rfl ⟨_,_,rfl,rfl⟩) ?_;refine B 1 ?_;refine WA underlying106 underlying3 Ul rfl rfl rfl rfl rfl rfl rfl rfl h0 h1 ?_;intro b22 cap Pp ae7 amO;replace Pp:=yb Pp;refine B 2 ?_;refine rv rfl rfl rfl (fE (h:=0) underlying106 sizeOf5 rfl ⟨_,_,rfl,rfl⟩ aa) ?_;refine B 10 ?_;exact bK (.inl rfl) results235 aX (λW hS=>⟨(b22,cap),rfl,hS.base A0 Cl,by omega,by omega,hS.own _ A0⟩)
def n8i (ss:List tA):Array Value:=(ss.map tA.val).toArray
theorem nPi(ss:List tA)(j k:Nat)(h:k=j)(hj:j<ss.length):(n8i ss)[k]? =some ss[j].val:=by subst h;simp[n8i,hj]
theorem nRg(ss:List tA)(b0 c0 t0:Nat)(fV:Nat×Nat)(hk:ss.length<1000)(h0:0<(nF ss).length)(h1:(nF ss).length<=1099511627776)(w:World)(hb0:w.heap[b0]? =some (.cells (n8i ss) t0 fV))(hss:∀s∈ss,s.At w):Calls prog 165 #[.slice (ao b0) ss.length c0] w (cK w (λp:Nat×Nat×List Value=>.slice (ao p.1) (nF ss).length p.2.1) (λp w1=>w.heap.size<=p.1/\((nF ss).length<=p.2.1/\p.2.2.length=p.2.1-(nF ss).length)/\w1.heap[p.1]? =some (oC (nF ss++p.2.2).toArray 5))):=by
 have amP:=(aT.1 hb0).1;refine eN func165 ntmps165 ?_;refine B 19 ?_;refine CJ.loop (α:=Nat) (λj=>[(0,.slice (ao b0) ss.length c0),(3,ab (((nF (ss.take j)).length:Nat):Int)),(9,.slice (ao b0) ss.length c0),(10,ab (ss.length:Int)),(11,ab (j:Int))]) (λj=>[]) (λj=>[w]) (λj=>Gh.no) (λj=>j<=ss.length) (λj=>ss.length-j) 0 (cR _) zR rfl rfl zI ?_;rintro j hj;have mr:=njg ss (j+1);have Pq:∀h:j<ss.length,(nF (ss.take (j+1))).length=(nF (ss.take j)).length+(ss[j]).n:=λh=>by rw[nWf ss j h,cy];exact congrArg (_+ ·) (Dm _ _)
 refine B 6 ?_;refine aG ?_ ?_
 ·intro ar;refine B 5 ?_;have Cn:j<ss.length:=by omega
  have afa:=Pq Cn;refine B 2 ?_;refine rv rfl rfl rfl (av (v:=(ss[j]'aa).val) isAgg106 rfl A0 hb0 zJ trivial (nPi ss j _ aa aa)) ?_;refine B 8 ?_;refine ay (ab (((nF (ss.take (j+1))).length:Nat):Int)) ?_;refine B 6 ?_;refine ay bN ?_;refine B 10 ?_;exact Jl
 intro ar;refine B 6 ?_;have e:j=ss.length:=by omega
 subst e;rw[jZ (ak _)];refine B 2 ?_;refine Pr (bo:=λp:Nat×Nat=>(p.1,oC (cf p.2 (λ_=>Ck)) 5)) (Φ:=λp=>(nF ss).length<=p.2) call235 rfl rfl rfl (λW hS=>Dl _ h0 h1 W) ?_;rintro⟨bg,cg⟩ hag hog dC;simp only[ae]at hag dC;refine B 12 ?_;refine CJ.loop (α:=Nat×Nat×Nat×List Value) (λp=>[(6,.slice (ao p.2.1) (nF (ss.take p.1)).length p.2.2.1),(25,.slice (ao b0) ss.length c0),(26,ab (ss.length:Int)),(27,ab (p.1:Int))]) (λp=>[(p.2.1,oC (nF (ss.take p.1)++p.2.2.2).toArray 5)]) (λp=>[w]) (λp=>Gh.no) (λp=>p.1<=ss.length/\w.heap.size<=p.2.1/\(nF (ss.take p.1)).length<=p.2.2.1/\p.2.2.2.length=p.2.2.1-(nF (ss.take p.1)).length) (λp=>ss.length-p.1) (0,bg,cg,(List.range cg).map (λ_=>Ck)) ⟨cR _,hag.1,cR _,by simp[nF]⟩ zR rfl rfl zI ?_;rintro⟨j,b,cap,sp⟩ ⟨hj,h2,h3,h4⟩;dsimp only at hj h2 h3 h4 ⊢;have mr:=njg ss (j+1);have Pq:∀h:j<ss.length,(nF (ss.take (j+1))).length=(nF (ss.take j)).length+(ss[j]).n:=λh=>by rw[nWf ss j h,cy];exact congrArg (_+ ·) (Dm _ _)
 refine B 6 ?_;refine aG ?_ ?_
 ·intro aN;refine B 5 ?_;have Cn:j<ss.length:=by omega
  have afa:=Pq Cn;refine B 2 ?_;refine rv rfl rfl rfl (av (v:=(ss[j]'aa).val) isAgg106 rfl A0 hb0 zJ zz (nPi ss j _ aa aa)) ?_;refine B 3 ?_;obtain⟨csj,tj,frj,Un,hso,hsm⟩:=hss (ss[j]'aa) (WB _);have amQ:=(aT.1 Un).1;refine B 3 ?_;refine afb (i:=0) (m:=1) (ys:=nF (ss.take j)) (sp:=sp) (news:=(ss[j]'aa).l) (n:=(ss[j]'aa).n) rfl underlying106 Ul rfl rfl rfl rfl rfl rfl rfl (oQ.sl underlying106 (Rd.old A0 Un zJ zz aa (n2j aa hsm)) (by rw[xj];exact Dm _ _) (Dp _ _)) aa aa h3 ⟨h2,trivial⟩ aa (by show _*1<=_;omega) ?_;intro b' aR bT WC WD ke;simp only[ae]at WC;refine B 8 ?_;refine PJ.reH (H':=[(b',oC (nF (ss.take (j+1))++bT).toArray 5)]) (by rw[nWf ss j aa];rfl) ?_;refine PJ.again (j+1,b',aR,bT) ⟨by dsimp only;omega,WC.1,by dsimp only;rw[Pq aa];exact WD,by dsimp only;rw[Pq aa];omega⟩ zS ⟨by rw[Pq aa];rfl,rfl,rfl,rfl,trivial⟩ rfl rfl zI
 intro aN;refine B 12 ?_;have e:j=ss.length:=by omega
 subst e;rw[jZ (ak _)]at h3 h4 ⊢;exact bK (.inl rfl) results165 aX (λW hS=>⟨(b,cap,sp),rfl,hS.base A0 Cl,h2,⟨h3,h4⟩,hS.own _ A0⟩)
def yp (n:Nat) (m m':Nat->Int) (i:Nat):Int:=if i<n then m i else m' (i-n)
theorem nuk(n n':Nat)(m m':Nat->Int):lu n m++lu n' m'=lu (n+n') (yp n m m'):=by
 apply Co;all_goals grind [Dm,lu,yp]
theorem nUn(n:Nat)(m:Nat->Int)(sp:List Value)(i:Nat)(h:i<n):((lu n m++sp).toArray)[0+i]? =some (.int .u8 (m i)):=by grind [Dm,lu]
def tagged (s:ByteArray) (n:Nat) (m:Nat->Int):Nat->Int:=vl (32+n) (yp 32 (vl s.size (sB s)) m)
theorem n9d(s:ByteArray)(n:Nat)(m:Nat->Int)(bb off c t t2 t3:Nat)(fr xi qw:Nat×Nat)(cs:Array Value)(hs0:s.size<1000)(hc:n<=c)(hn:n<1000000000000)(w:World)(An:w.heap[bb]? =some (.cells cs t fr))(mA:off+n<=cs.size)(hm:∀i,i<n->cs[off+i]? =some (.int .u8 (m i)))(hg2:w.heap[3]? =some (.cells S8.init.cells t2 xi))(hg:w.heap[5]? =some (.cells (cf 64 (λi=>u32 (kk i))) t3 qw)):Calls prog 87 #[.string s,.slice (some ⟨bb,off,none⟩) n c] w (aL w (.agg (dg (tagged s n m)))):=by
 have Wh:=(aT.1 An).1;have ae5:=(aT.1 hg2).1;have Ui:=(aT.1 hg).1;refine eN func87 ntmps87 ?_;refine B 3 ?_;refine yW ?_;intro b4 ji jj;refine B 5 ?_;refine Nj underlying9 underlying106 underlying5 rfl rfl rfl ?_;intro b7 afe w7 cs7 fr7 Ps jN vN Uo hz7 kz amR hs7;replace jN:=yb jN;try simp only[bA,ne_eq]at vN
 refine call call164 rfl rfl rfl (λW hS=>nSf s.size (sB s) b7 0 afe _ _ _ _ _ _ cs7 aa aa W (hS.old A0 Ps Uo zz) aa hs7 (hS.old A1 hg2 zJ zz) (hS.old A1 hg zJ zz)) ?_;refine B 1 ?_;refine yW ?_;intro b5 sq su;refine B 4 ?_;have aJ:(nF [⟨b5,0,32,32,vl s.size (sB s)⟩,⟨bb,off,n,c,m⟩]).length=32+n:=by simp[nF,tA.l,Dm]
 have WE:∀W,W.heap[b5]? =some (oC (dg (vl s.size (sB s))) 33)->W.heap[bb]? =some (.cells cs t fr)->∀x∈([⟨b5,0,32,32,vl s.size (sB s)⟩,⟨bb,off,n,c,m⟩]:List tA),x.At W:=λW h1 h2 x hx=>by
  simp only[bX,dE,or_false]at hx;rcases hx with rfl|rfl
  ·exact⟨_,_,_,h1,ak 32,λi hi=>by rw[lL];exact qQ _ i hi⟩
  exact⟨_,_,_,h2,mA,hm⟩
 refine B 1 ?_;refine zke ?_;refine B 1 ?_;refine qT underlying377 sizeOf106 zeroValue106 rfl rfl rfl rfl rfl rfl rfl ?_;refine yV ?_;intro gR WG Jv Jw WH yq Dq;refine Pr (bo:=λp:Nat×Nat×List Value=>(p.1,oC (nF [⟨b5,0,32,32,vl s.size (sB s)⟩,⟨bb,off,n,c,m⟩]++p.2.2).toArray 5)) (Φ:=λp=>(nF [⟨b5,0,32,32,vl s.size (sB s)⟩,⟨bb,off,n,c,m⟩]).length<=p.2.1/\p.2.2.length=p.2.1-(nF [⟨b5,0,32,32,vl s.size (sB s)⟩,⟨bb,off,n,c,m⟩]).length) call165 rfl rfl rfl (λW hS=>nRg [⟨b5,0,32,32,vl s.size (sB s)⟩,⟨bb,off,n,c,m⟩] gR 2 _ _ zI (by rw[aJ];omega) (by rw[aJ];omega) W (hS.old A0 Jv Jw zz) (WE W (hS.own _ A0) (hS.old A2 An zJ zz))) ?_;rintro⟨bc,cc,spc⟩ WI hoc ⟨Dt,Du⟩;replace WI:=yb WI;dsimp only at Dt Du;rw[aJ]at Dt Du;refine OJ.re (v':=.slice (ao bc) (32+n) cc) (by show Value.slice _ (nF _).length _=_;rw[aJ]) ?_;refine OJ.reH (H':=[(bc,oC (lu (32+n) (yp 32 (vl s.size (sB s)) m)++spc).toArray 5),(b5,oC (dg (vl s.size (sB s))) 33),(b4,oC (tz []).toArray 33)]) (by rw[<-nuk];simp only[nF,tA.l,eb];rfl) ?_;refine call call164 rfl rfl rfl (λW hS=>nSf (32+n) (yp 32 (vl s.size (sB s)) m) bc 0 cc _ _ _ _ _ _ _ aa aa W (hS.own _ A0) (by simp only[qx,cy,Dm];omega) (λi hi=>nUn _ _ _ i hi) (hS.old A2 hg2 zJ zz) (hS.old A2 hg zJ zz)) ?_
 refine B 4 ?_;refine cC (.inl rfl) results87 aX A2 zB ?_;rfl
def Dw (s:ByteArray) (n:Nat) (m:Nat->Int):Int:=1+Ib 2305843009213688668 (Bn (tagged s n m)) 0
theorem ncg(s:ByteArray)(n:Nat)(m:Nat->Int):er (tagged s n m):=nin _ _
theorem nBm(s:ByteArray)(n:Nat)(m:Nat->Int)(bb off c t t2 t3:Nat)(fr xi qw:Nat×Nat)(cs:Array Value)(hs0:s.size<1000)(hc:n<=c)(hn:n<1000000000000)(w:World)(An:w.heap[bb]? =some (.cells cs t fr))(mA:off+n<=cs.size)(hm:∀i,i<n->cs[off+i]? =some (.int .u8 (m i)))(hg2:w.heap[3]? =some (.cells S8.init.cells t2 xi))(hg:w.heap[5]? =some (.cells (cf 64 (λi=>u32 (kk i))) t3 qw)):Calls prog 195 #[.string s,.slice (some ⟨bb,off,none⟩) n c] w (aL w (ab (Dw s n m))):=by
 have hB:=ncg s n m;have Jf:=nKh 2305843009213688668 zA (Bn (tagged s n m)) 0 zA zA;refine eN func195 ntmps195 ?_;refine B 9 ?_;refine call call87 rfl rfl rfl (λW hS=>n9d s n m bb off c _ _ _ _ _ _ cs hs0 hc hn W (hS.old A0 An zJ trivial) mA hm (hS.old A0 hg2 zJ trivial) (hS.old A0 hg zJ trivial)) ?_;refine call call258 rfl rfl rfl (λW hS=>nmo _ hB _ zA zA W) ?_;refine B 6 ?_;refine aF results195 rfl A0 ?_;rfl




theorem bt:Ao prog 106 5:=⟨underlying106,underlying5,⟨_,Ul,rfl,rfl,rfl⟩,sizeOf5⟩
theorem Pt(n:Int)(h1: -9223372036854775808<=n)(h2:n<=9223372036854775807):IntKind.u64.wrap (BitVec.ofInt 64 (IntKind.u64.wrap (IntKind.u64.wrap n*2))^^^BitVec.ofInt 64 (IntKind.u64.wrap (n/9223372036854775808))).toNat=(Jx n:Int):=by
 simp only[nC];unfold Jx;by_cases h:0<=n
 ·rw[if_pos h,show n/9223372036854775808=0 by omega];have:(0:Int)%18446744073709551616=0:=by decide
  rw[this,show n%18446744073709551616*2%18446744073709551616=2*n by omega];have e:BitVec.ofInt 64 0=0#64:=rfl;rw[e,BitVec.xor_zero,BitVec.toNat_ofInt];omega
 rw[if_neg h,show n/9223372036854775808= -1 by omega];have:(-1:Int)%18446744073709551616=18446744073709551615:=by decide
 rw[this,show n%18446744073709551616*2%18446744073709551616=2*n+18446744073709551616 by omega];have e:BitVec.ofInt 64 18446744073709551615=BitVec.allOnes 64:=by decide
 rw[e,BitVec.xor_allOnes,BitVec.toNat_not,BitVec.toNat_ofInt];omega
theorem Dx(n:Int)(h1: -9223372036854775808<=n)(h2:n<=9223372036854775807):Jx n<18446744073709551616:=by unfold Jx;split<;>omega
theorem WJ(u:Nat):IntKind.u8.wrap (BitVec.ofInt IntKind.u8.bits ((u:Int)%256)|||BitVec.ofInt IntKind.u8.bits 128).toNat=((UInt8.ofNat (u%128+128)).toNat:Int):=by
 have key:∀v:BitVec 8,(v|||128#8).toNat=(v.toNat%128+128):=by decide
 have e:BitVec.ofInt IntKind.u8.bits 128=128#8:=rfl;rw[e];have e2:(BitVec.ofInt 8 ((u:Int)%256)).toNat=u%256:=by rw[BitVec.toNat_ofInt];omega
 have:=key (BitVec.ofInt 8 ((u:Int)%256));rw[e2]at this;show IntKind.u8.wrap (BitVec.ofInt 8 ((u:Int)%256)|||128#8).toNat=_;all_goals simp_all[ndl]
theorem Jy(u:Nat)(h:u<256):((u:Int)%256)=((UInt8.ofNat u).toNat:Int):=by
 simp only[UInt8.toNat_ofNat'];omega
theorem ndj(n:Int)(h1: -9223372036854775808<=n)(h2:n<=9223372036854775807)(w:World):Calls prog 230 #[ab n] w (aL w (.int .u64 (Jx n:Int))):=by
 refine eN func230 ntmps230 ?_;refine B 8 ?_;refine rv rfl rfl rfl (kH underlying3 underlying233 rfl) ?_;refine rv rfl rfl rfl (C7 1 2 zA rfl rfl rfl) ?_;refine B 1 ?_;refine rv rfl rfl rfl (iU 63 9223372036854775808 zA rfl rfl rfl) ?_;refine rv rfl rfl rfl (kH underlying3 underlying233 rfl) ?_;refine rv rfl rfl rfl (yr rfl rfl) ?_;refine B 4 ?_;refine aF results230 rfl A0 ?_;exact vu (Pt n h1 h2)
theorem n0c(xs:List UInt8)(u:Nat)(hu:u<18446744073709551616)(b cap:Nat)(sp:List Value)(um:dI xs cap sp)(iX:xs.length<=900000000000)(w:World)(hb:w.heap[b]? =some (aM 5 xs sp)):Calls prog 229 #[bQ b xs.length cap,.int .u64 (u:Int)] w (Pu w b 5 (xs++num u)):=by
 have jl:=(aT.1 hb).1;have amS:=Cp hu;refine nB (vs:=[_,_]) (Gh.lent (· =b)) [(b,aM 5 xs sp)] func229 rfl ntmps229 rfl (Dy hb) ?_;refine B 7 ?_;refine CJ.lp (α:=List UInt8×Nat×Nat×Nat×List Value) [] (λp=>[(0,bQ p.2.2.1 p.1.length p.2.2.2.1),(1,.int .u64 (p.2.1:Int))]) (λp=>[(p.2.2.1,aM 5 p.1 p.2.2.2.2)]) (λp=>xs++num u=p.1++num p.2.1/\p.2.1<18446744073709551616/\Fr (Gh.lent (· =b)) [w] p.2.2.1/\dI p.1 p.2.2.2.1 p.2.2.2.2) (λp=>p.2.1) (xs,u,b,cap,sp) ⟨rfl,hu,.inl rfl,um⟩ ?_;rintro⟨ys,v,b1,c1,sp1⟩ ⟨hinv,hv,hf,hr⟩;dsimp only at hinv hv hf hr ⊢;have Aq:(ys++num v).length<=900000000010:=by rw[<-hinv,cy];omega
 have r7:=Jz v;rw[cy]at Aq;refine B 7 ?_;refine aG ?_ ?_
 ·intro ar;refine B 7 ?_;refine rv rfl rfl rfl (oP underlying233 underlying5 rfl) ?_;refine rq (.int .u8 ((UInt8.ofNat (v%128+128)).toNat:Int)) (Aj rfl rfl) (congrArg (Value.int .u8) (WJ v)) ?_;refine Pw [UInt8.ofNat (v%128+128)] bt zeroValue5 rfl rfl rfl rfl rfl rfl rfl rfl rfl ?_;intro Up yt Bq amT amU;replace yt:=yb yt;replace Bq:=yd Bq;refine Nk (i:=1) (xs:=ys) (zs:=[UInt8.ofNat (v%128+128)]) (sp:=sp1) rfl bt rfl rfl rfl rfl (ib.own (i:=0) underlying106 rfl) hr hf Br ?_;intro eB c14 s14 WK afj;have WL:=WK;replace WL:=ye WL;refine OJ.dropF (i:=0) rfl (.inr ⟨yt.1,trivial⟩) ?_;refine B 6 ?_;refine rq (.int .u64 ((v/128:Nat):Int)) (iU 7 128 zA rfl rfl rfl) (vu aa) ?_;refine B 2 ?_;refine ag (ys++[UInt8.ofNat (v%128+128)],v/128,eB,c14,s14) ⟨by dsimp only;rw[hinv,nAm aa,iY];rfl,by dsimp only;omega,WK,afj⟩
 intro ar;refine B 9 ?_;refine rq (.int .u8 ((UInt8.ofNat v).toNat:Int)) (oP underlying233 underlying5 rfl) (congrArg (Value.int .u8) (Jy v aa)) ?_;refine Pw [UInt8.ofNat v] bt zeroValue5 rfl rfl rfl rfl rfl rfl rfl rfl rfl ?_;intro b18 Bs Py afl WM;replace Bs:=yb Bs;replace Py:=yd Py;refine Nk (i:=1) (xs:=ys) (zs:=[UInt8.ofNat v]) (sp:=sp1) rfl bt rfl rfl rfl rfl (ib.own (i:=0) underlying106 rfl) hr hf Br ?_;intro b19 Uq s19 WN afm;have WO:=WN;replace WO:=ye WO;refine OJ.dropF (i:=0) rfl (.inr ⟨Bs.1,trivial⟩) ?_;refine B 4 ?_;rw[hinv,WQ aa];exact nCi (i:=0) (.inl rfl) results229 rfl rfl A0 (by simp only[lM,dm,dX,sy,yu,and_true];simp only[Fr,Gh.lent,ae]at WN;omega) afm
variable {L:List World}
theorem Pz{C:Cx}{G:Gh}{H:ad}{E:Env}{T U:Nat}{x y:Operand}(hx:ev E x=some (Ur))(hy:ev E y=some (Ur)):RV C G L H E (.binOp .eql T x y U) (cY):=
 RV.re (yw hx hy) (vb zI)
def JA (N:Nat) (w:World) (base:Option Addr) (l:List V):Prop:=∀i (h:i<l.length),∃bl cs t fr,base=some ⟨bl,0,none⟩/\bl<N/\w.heap[bl]? =some (.cells cs t fr)/\4*i+4<=cs.size/\∃a1 a2 p3 n3 c3,cut cs (4*i) 4=#[ab (l[i]).kind,ab a1,.string a2,.slice p3 n3 c3]/\eX N w l[i] (.agg #[ab (l[i]).kind,ab a1,.string a2,.slice p3 n3 c3])
theorem eX.list{N:Nat}{w:World}{l:List V}{v:Value}(h:eX N w (.list l) v):∃base cap,v=vL base l.length cap/\l.length<=cap/\JA N w base l:=by
 simp only[eX]at h;obtain⟨base,cap,hv,hc,hl⟩:=h;refine⟨base,cap,hv,hc,λi hi=>?_⟩;rcases hl with rfl|⟨b,cs,t,fr,hb,hlt,cJ,hs⟩
 ·simp at hi
 obtain⟨h1,h2⟩:=hs.get i hi;rw[lL]at h1 h2;obtain⟨a1,a2,p3,n3,c3,hsh⟩:=h2.shape;rw[hsh]at h2;exact⟨b,cs,t,fr,hb,hlt,cJ,h1,a1,a2,p3,n3,c3,by injection hsh,h2⟩
def nml (x:V):Prop:=∀(N:Nat) (w:World) (v:Value),N<=w.heap.size->eX N w x v->x.fine->Calls prog 227 #[v] w (aL w (.tuple #[ab (x.depth:Int),cY]))
theorem nqo(n:Int)(w:World):Calls prog 227 #[vI n] w (aL w (.tuple #[ab 0,cY])):=by
 refine eN func227 ntmps227 ?_;refine B 2 ?_;refine yX ?_;intro b1 w1 hb1 cF gK gj jy;refine PA ?_;refine B 5 ?_;refine ni (t:=21) rfl (λar=>?_) (λar=>?_)
 ·replace ar:=ya ar;refine B 9 ?_;refine ni (t:=30) rfl (λaN=>?_) (λaN=>?_)
  ·replace aN:=ya aN;refine B 6 ?_;exact Us
  replace aN:=ya aN;refine B 6 ?_;exact Us
 replace ar:=ya ar;refine B 9 ?_;refine ni (t:=30) rfl (λdp=>?_) (λdp=>?_)
 ·replace dp:=ya dp;refine B 6 ?_;exact Us
 replace dp:=ya dp;refine B 6 ?_;exact Us
theorem n8m(x:ByteArray)(w:World):Calls prog 227 #[vT x] w (aL w (.tuple #[ab 0,cY])):=by
 refine eN func227 ntmps227 ?_;refine B 2 ?_;refine yX ?_;intro b1 w1 hb1 cF gK gj jy;refine B 8 ?_;refine rv rfl rfl rfl (yw rfl rfl) ?_;refine B 1 ?_;refine ni (t:=12) rfl (λar=>?_) (λar=>?_)
 ·replace ar:=ya ar;refine B 3 ?_;refine ay cY ?_;refine B 3 ?_;refine zhf ?_;exact Us
 replace ar:=ya ar;refine B 7 ?_;refine zhf ?_;exact Us
theorem nJm(l:List V)(ih:∀y∈l,nml y)(dO:(V.list l).fine)(N:Nat)(base:Option Addr)(cap:Nat)(w:World)(hN:N<=w.heap.size)(hel:JA N w base l):Calls prog 227 #[vL base l.length cap] w (aL w (.tuple #[ab ((V.depthL l+1:Nat):Int),cY])):=by
 simp only[V.fine]at dO;obtain⟨Ar,Dz,PC⟩:=dO;refine eN func227 ntmps227 ?_;refine B 2 ?_;refine yX ?_;intro b1 w1 hb1 cF gK gj jy;refine B 17 ?_;refine ay cY ?_;refine B 8 ?_;refine ay cY ?_;refine B 7 ?_;refine yW ?_;intro b4 ji jj;refine B 8 ?_;refine ay bN ?_;refine B 3 ?_;refine ay bN ?_;refine B 18 ?_;refine ay bN ?_;refine B 15 ?_;refine CJ.dropAt (i:=0) rfl ⟨by omega,by omega,trivial⟩ ?_;refine CJ.loop (α:=Nat) (λi=>[(1,ptr b1 0),(2,ab ((V.depthL (l.take i):Nat):Int)),(55,.slice base l.length cap),(56,ab (l.length:Int)),(57,ab (i:Int))]) (λi=>[]) (λi=>[w1,w]) (λi=>Gh.no) (λi=>i<=l.length/\V.depthL (l.take i)<=1000000000) (λi=>l.length-i) 0 ⟨cR _,by simp[V.depthL]⟩ zR rfl rfl zI ?_;rintro i ⟨hi,hdi⟩;refine B 6 ?_;refine aG ?_ ?_
 ·intro ar;refine B 5 ?_;obtain⟨bl,cs,te,fre,rfl,jl,cJ,hcz,a1,a2,p3,n3,c3,vO,xk⟩:=hel i aa;have DA:=(aT.1 cJ).1;obtain⟨y,hy⟩:∃y,l[i]'aa=y:=⟨_,rfl⟩;rw[hy]at vO xk;have JB:y∈l:=hy▸WB _;refine B 2 ?_;refine rq (.agg #[ab y.kind,ab a1,.string a2,.slice p3 n3 c3]) (dT isAgg200 sizeOf200 rfl A1 cJ zJ trivial aa) (va (by rw[<-vO];congr 1;omega)) ?_;refine B 1 ?_;refine yW ?_;intro b6 jO qy;refine B 6 ?_;refine call call227 rfl rfl rfl (λW hS=>ih y JB N W _ (dR hN (hS.links _ A1).size) (eX.up (ak _) hS.sm _ _ xk) (V.fineL_mem PC y JB)) ?_;refine B 20 ?_;refine rv rfl rfl rfl (PD rfl rfl) ?_;refine B 8 ?_;refine PJ.dropAt (i:=0) rfl ⟨by omega,by omega,trivial⟩ ?_;refine PJ.again (i+1) ⟨by omega,by have h1:=V.depthL_take l i aa;rw[hy]at h1;have h2:=V.depthL_mem y JB;omega⟩ aa ⟨rfl,congrArg some (congrArg ab (by rw[V.depthL_take l i aa,hy];omega)),rfl,rfl,rfl,trivial⟩ rfl rfl zI
 intro ar;refine B 14 ?_;refine nS results227 rfl rfl A1 ?_ ?_
 ·have e:i=l.length:=by omega
  subst e;rw[jZ (ak _)];rfl
 rfl
theorem nFp:∀x,nml x:=by
 refine V.ind ?_ ?_ ?_
 ·intro n N w v _ hv _;simp only[eX]at hv;subst hv;exact nqo n w
 ·intro s N w v _ hv _;simp only[eX]at hv;subst hv;exact n8m s w
 intro l ih N w v hN hv hf;obtain⟨base,cap,rfl,hc,hel⟩:=hv.list;exact nJm l ih hf N base cap w hN hel
theorem nUm(x:V)(n1:Int)(s2:ByteArray)(p3:Option Addr)(n3 c3:Nat)(dO:x.fine)(hd:x.depth<=16)(N:Nat)(w:World)(hN:N<=w.heap.size)(xk:eX N w x (.agg #[ab x.kind,ab n1,.string s2,.slice p3 n3 c3])):Calls prog 162 #[.agg #[ab x.kind,ab n1,.string s2,.slice p3 n3 c3]] w (aL w (ab 0)):=by
 refine eN func162 ntmps162 ?_;refine B 2 ?_;refine yX ?_;intro b1 w1 hb1 cF gK gj jy;refine B 6 ?_;refine call call227 rfl rfl rfl (λW hS=>nFp x N W _ (dR hN (hS.links _ A1).size) (eX.up (ak _) hS.sm _ _ xk) dO) ?_;refine B 20 ?_;refine ay bN ?_;refine B 13 ?_;refine aF results162 rfl A1 ?_;rfl
def V.fn:V->Nat
 | .int _=>228
 | .text _=>231
 | .list _=>232
def V.cap (bv:Nat):V->List Value
 | .list _=>[ptr bv 0]
 |_=>[]
def wrC (bv:Nat):Array Value:=#[.nilFunc,.func (.func 228) #[] #[],.func (.func 231) #[] #[],.func (.func 232) #[] #[ptr bv 0]]
theorem DB(bv:Nat)(x:V)(k:Nat)(hk:(k:Int)=x.kind):(wrC bv)[k]? =some (.func (.func x.fn) #[] (x.cap bv).toArray):=by
 cases x<;>simp only[V.kind]at hk
 ·have:k=1:=by omega
  subst this;rfl
 ·have:k=2:=by omega
  subst this;rfl
 have:k=3:=by omega
 subst this;rfl
theorem V.kind_bd(x:V):1<=x.kind/\x.kind<=3:=by cases x<;>simp[V.kind]
structure Wr (N:Nat) (w:World) (bv bw:Nat):Prop where
 ltv:bv<N
 ltw:bw<N
 atv:w.heap[bv]? =some (oC #[ptr bw 0] 288)
 atw:w.heap[bw]? =some (oC (wrC bv) 370)
theorem Wr.up{N N':Nat}{w w':World}{bv bw:Nat}(h:Wr N w bv bw)(hN:N<=N')(hw:∀k,k<N->w'.heap[k]? =w.heap[k]?):Wr N' w' bv bw:=
 ⟨by have:=h.ltv;omega,by have:=h.ltw;omega,(hw _ h.ltv).trans h.atv,(hw _ h.ltw).trans h.atw⟩
theorem nki(w:World):Calls prog 163 #[] w (cK w (λp:Nat×Nat=>ptr p.1 0) (λp w1=>w.heap.size<=p.1/\w.heap.size<=p.2/\w1.heap[p.2]? =some (oC #[ptr p.1 0] 288)/\w1.heap[p.1]? =some (oC (wrC p.2) 370))):=by
 refine eN func163 ntmps163 ?_;refine B 8 ?_;refine JC rfl rfl rfl ?_;refine yW ?_;intro b3 ez eP;refine B 1 ?_;refine yW ?_;intro b1 gj jy;refine B 9 ?_;refine zze ?_;refine B 8 ?_;refine zze ?_;refine B 9 ?_;refine zze ?_;refine B 9 ?_;exact bK (.inl rfl) results163 aX (λW hS=>⟨(b3,b1),rfl,hS.base A0 zP,by simp only[ae]at *;omega,by simp only[ae]at *;omega,hS.own (b1,_) A0,hS.own (b3,_) A1⟩)
def nkj (x:V):Prop:=∀(N b cap bv bw:Nat) (xs:List UInt8) (sp:List Value) (w:World) (v:Value),eX N w x v->x.fine->Wr N w bv bw->N<=b->N<=w.heap.size->dI xs cap sp->xs.length+x.enc.length<=800000000000->w.heap[b]? =some (aM 5 xs sp)->
 Calls prog x.fn (bQ b xs.length cap::v::x.cap bv).toArray w (Pu w b 5 (xs++x.enc))
theorem nDp(n:Int)(hn:(V.int n).fine)(xs:List UInt8)(b cap:Nat)(sp:List Value)(um:dI xs cap sp)(w:World)(hb:w.heap[b]? =some (aM 5 xs sp))(iX:xs.length+(V.int n).enc.length<=800000000000):Calls prog 228 #[bQ b xs.length cap,vI n] w (Pu w b 5 (xs++(V.int n).enc)):=by
 have jl:=(aT.1 hb).1;simp only[V.fine]at hn;simp only[V.enc,dF]at iX;have hz:=Dx n hn.1 hn.2;refine nB (vs:=[_,_]) (Gh.lent (· =b)) [(b,aM 5 xs sp)] func228 rfl ntmps228 rfl (Dy hb) ?_;refine B 2 ?_;refine yX ?_;intro b3 w3 cZ cu fC ez eP;refine B 4 ?_;refine CJ.less (E':=[(0,_),(1,_),(3,_),(4,_)]) zR ?_;refine CJ.chn 5 [1,2] [_,none,none,_,_] (λcv L' H'=>match cv with| []=>L'=[w3,w]/\H'=[(b,aM 5 xs sp)]| [v1]=>∃(b6:Nat),v1=bQ b6 ([1]:List UInt8).length 1/\L'=[w3,w]/\H'=[(b6,aM 5 [1] []),(b,aM 5 xs sp)]/\w3.heap.size<=b6/\w.heap.size<=b6| [v1,v2]=>∃(b6:Nat) (b7:Nat) (c7:Nat) (s7:List Value),v1=bQ b6 ([1]:List UInt8).length 1/\v2=bQ b7 (xs++[1]).length c7/\L'=[w3,w]/\H'=[(b6,aM 5 [1] []),(b7,aM 5 (xs++[1]) s7)]/\w3.heap.size<=b6/\w.heap.size<=b6/\Fr (Gh.lent (· =b)) [w3,w] b7/\(b7=b\/w3.heap.size<=b7/\w.heap.size<=b7)/\dI (xs++[1]) c7 s7|_=>False) (pc zM (pk (pk (pc (by exact λcv L' H' hd hP=>X.v (bP underlying200 rfl sizeOf3 rfl)) (pc zch (pn)))))) ?_ ?_
 ·refine ss rfl ?_ ?_
  ·intro cv L' H' hl hP F Q' hk;obtain rfl:=lN hl;obtain⟨rfl,rfl⟩:=hP;refine Pw [1] bt zeroValue5 rfl rfl rfl rfl rfl rfl rfl rfl rfl ?_;intro b6 ha ho hx hr;exact OJ.done (hk _ _ _ ⟨b6,rfl,rfl,rfl,ha.1,ha.2.1⟩)
  refine ss rfl ?_ ?_
  ·intro cv L' H' hl hP F Q' hk;obtain⟨v1,rfl⟩:=iZ hl;obtain⟨b6,rfl,rfl,rfl,jO,Cq⟩:=hP;refine Nk (i:=1) (xs:=xs) (zs:=[1]) (sp:=sp) rfl bt rfl rfl rfl rfl (ib.own (i:=0) underlying106 rfl) um (.inl rfl) Br ?_;exact z5g
  exact nn
 intro cv L' H' hl hP;obtain⟨v1,v2,rfl⟩:=pX hl;obtain⟨b6,b7,c7,s7,rfl,rfl,rfl,rfl,jO,Cq,tB,Ut,Cr⟩:=hP;refine OJ.dropF (i:=0) rfl (.inr ⟨jO,Cq,trivial⟩) ?_;refine call call230 rfl rfl rfl (λW hS=>ndj _ aa aa W) ?_;refine Uu (i:=0) (ys:=xs++[1]++num (Jx n)) (first:=[]) (cap:=[]) rfl rfl call229 rfl rfl rfl tB (λW hS hW=>n0c (xs++[1]) (Jx n) hz b7 c7 s7 Cr Br W hW) ?_;intro gR c11 s11 jo afp;have WR:=jo;replace WR:=ye WR;refine B 4 ?_;have PE:xs++(V.int n).enc=xs++[1]++num (Jx n):=by simp[V.enc]
 rw[PE];exact nCi (i:=0) (.inl rfl) results228 rfl rfl A1 (by simp only[lM,dm,dX,sy,yu,and_true];simp only[Fr,Gh.lent,ae]at jo;omega) afp
theorem V.encL_drop(l:List V)(i:Nat)(h:i<l.length):V.encL (l.drop i)=(l[i]).enc++V.encL (l.drop (i+1)):=by
 rw[List.drop_eq_getElem_cons h,V.encL]
theorem DC(x:V):ew prog x.fn:=by
 cases x
 ·exact call228
 ·exact call231
 exact call232
theorem nho(x:ByteArray)(hn:(V.text x).fine)(xs:List UInt8)(b cap:Nat)(sp:List Value)(um:dI xs cap sp)(w:World)(hb:w.heap[b]? =some (aM 5 xs sp))(iX:xs.length+(V.text x).enc.length<=800000000000):Calls prog 231 #[bQ b xs.length cap,vT x] w (Pu w b 5 (xs++(V.text x).enc)):=by
 have jl:=(aT.1 hb).1;simp only[V.fine]at hn;simp only[V.enc,dF,cy]at iX;have hxl:x.data.toList.length=x.size:=Nl;refine nB (vs:=[_,_]) (Gh.lent (· =b)) [(b,aM 5 xs sp)] func231 rfl ntmps231 rfl (Dy hb) ?_;refine B 2 ?_;refine yX ?_;intro b3 w3 cZ cu fC ez eP;refine B 4 ?_;refine CJ.less (E':=[(0,_),(1,_),(3,_),(4,_)]) zR ?_;refine CJ.chn 10 [1,2,7] [_,none,none,_,some (.string x),_,_,none,_,some (.string x)] (λcv L' H'=>match cv with| []=>L'=[w3,w]/\H'=[(b,aM 5 xs sp)]| [v1]=>∃(b6:Nat),v1=bQ b6 ([2]:List UInt8).length 1/\L'=[w3,w]/\H'=[(b6,aM 5 [2] []),(b,aM 5 xs sp)]/\w3.heap.size<=b6/\w.heap.size<=b6| [v1,v2]=>∃(b6:Nat) (b7:Nat) (c7:Nat) (s7:List Value),v1=bQ b6 ([2]:List UInt8).length 1/\v2=bQ b7 (xs++[2]).length c7/\L'=[w3,w]/\H'=[(b6,aM 5 [2] []),(b7,aM 5 (xs++[2]) s7)]/\w3.heap.size<=b6/\w.heap.size<=b6/\Fr (Gh.lent (· =b)) [w3,w] b7/\(b7=b\/w3.heap.size<=b7/\w.heap.size<=b7)/\dI (xs++[2]) c7 s7| [v1,v2,v3]=>∃(b6:Nat) (b7:Nat) (c7:Nat) (s7:List Value) (iD:Nat) (c12:Nat) (WS:List Value),v1=bQ b6 ([2]:List UInt8).length 1/\v2=bQ b7 (xs++[2]).length c7/\v3=bQ iD (xs++[2]++num x.size).length c12/\L'=[w3,w]/\H'=[(b6,aM 5 [2] []),(iD,aM 5 (xs++[2]++num x.size) WS)]/\w3.heap.size<=b6/\w.heap.size<=b6/\Fr (Gh.lent (· =b)) [w3,w] b7/\(b7=b\/w3.heap.size<=b7/\w.heap.size<=b7)/\dI (xs++[2]) c7 s7/\Fr (Gh.lent (· =b)) [w3,w] iD/\(iD=b\/w3.heap.size<=iD/\w.heap.size<=iD)/\dI (xs++[2]++num x.size) c12 WS|_=>False) (pc zM (pk (pk (pc (by exact λcv L' H' hd hP=>X.v (bP underlying200 rfl sizeOf9 rfl)) (pc zci (pc (by exact λcv L' H' hd hP=>X.v (DD underlying9 rfl)) (pc zuc (pk (pc (by exact λcv L' H' hd hP=>X.v (bP underlying200 rfl sizeOf9 rfl)) (pc zci (pn))))))))))) ?_ ?_
 ·refine ss rfl ?_ ?_
  ·intro cv L' H' hl hP F Q' hk;obtain rfl:=lN hl;obtain⟨rfl,rfl⟩:=hP;refine Pw [2] bt zeroValue5 rfl rfl rfl rfl rfl rfl rfl rfl rfl ?_;intro b6 ha ho hx hr;exact OJ.done (hk _ _ _ ⟨b6,rfl,rfl,rfl,ha.1,ha.2.1⟩)
  refine ss rfl ?_ ?_
  ·intro cv L' H' hl hP F Q' hk;obtain⟨v1,rfl⟩:=iZ hl;obtain⟨b6,rfl,rfl,rfl,jO,Cq⟩:=hP;refine Nk (i:=1) (xs:=xs) (zs:=[2]) (sp:=sp) rfl bt rfl rfl rfl rfl (ib.own (i:=0) underlying106 rfl) um (.inl rfl) Br ?_;exact z5g
  refine ss rfl ?_ ?_
  ·intro cv L' H' hl hP F Q' hk;obtain⟨v1,v2,rfl⟩:=pX hl;obtain⟨b6,b7,c7,s7,rfl,rfl,rfl,rfl,jO,Cq,tB,Ut,Cr⟩:=hP;refine Uu (i:=1) (ys:=xs++[2]++num x.size) (first:=[]) (cap:=[]) rfl rfl call229 rfl rfl rfl tB (λW hS hW=>n0c (xs++[2]) x.size aa b7 c7 s7 Cr Br W hW) ?_;intro bn cn sn hfn hrn;have Uv:=hfn;replace Uv:=ye Uv;exact OJ.done (hk _ _ _ ⟨b6,b7,c7,s7,bn,cn,sn,rfl,rfl,rfl,rfl,rfl,jO,Cq,tB,Ut,Cr,hfn,by simpa only[Fr,Gh.lent,ae,and_true]using hfn,hrn⟩)
  exact nn
 intro cv L' H' hl hP;obtain⟨v1,v2,v3,rfl⟩:=mB hl;obtain⟨b6,b7,c7,s7,iD,c12,WS,rfl,rfl,rfl,rfl,rfl,jO,Cq,tB,Ut,Cr,WT,afr,WU⟩:=hP;refine Nk (i:=1) (xs:=xs++[2]++num x.size) (zs:=x.data.toList) (sp:=WS) rfl bt rfl rfl rfl rfl (ib.str underlying9) WU WT Br ?_;intro dJ c15 s15 sA DE;have vP:=sA;replace vP:=ye vP;refine B 4 ?_;have PE:xs++(V.text x).enc=xs++[2]++num x.size++x.data.toList:=by simp[V.enc]
 rw[PE];exact nCi (i:=1) (.inl rfl) results231 rfl rfl A1 (by simp only[lM,dm,dX,sy,yu,and_true];simp only[Fr,Gh.lent,ae]at sA;omega) DE
theorem nno(l:List V)(ih:∀y∈l,nkj y)(dO:(V.list l).fine)(N:Nat)(base:Option Addr)(lc bv bw:Nat)(xs:List UInt8)(b cap:Nat)(sp:List Value)(um:dI xs cap sp)(w:World)(hb:w.heap[b]? =some (aM 5 xs sp))(hN:N<=w.heap.size)(hNb:N<=b)(hel:JA N w base l)(Bt:Wr N w bv bw)(iX:xs.length+(V.list l).enc.length<=800000000000):Calls prog 232 #[bQ b xs.length cap,vL base l.length lc,ptr bv 0] w (Pu w b 5 (xs++(V.list l).enc)):=by
 have jl:=(aT.1 hb).1;simp only[V.fine]at dO;obtain⟨Ar,Dz,PC⟩:=dO;have hlv:=Bt.ltv;have hlw:=Bt.ltw;simp only[V.enc,dF,cy]at iX;refine nB (vs:=[_,_,_]) (Gh.lent (· =b)) [(b,aM 5 xs sp)] func232 rfl ntmps232 rfl (Dy hb) ?_;refine B 2 ?_;refine yX ?_;intro b4 w4 Ie Cj V5 ji jj;refine B 4 ?_;refine CJ.less (E':=[(0,_),(1,_),(2,_),(4,_),(5,_)]) zR ?_;refine CJ.chn 7 [1,2] [_,none,none,_,some (.slice base l.length lc),_,_] (λcv L' H'=>match cv with| []=>L'=[w4,w]/\H'=[(b,aM 5 xs sp)]| [v1]=>∃(b9:Nat),v1=bQ b9 ([3]:List UInt8).length 1/\L'=[w4,w]/\H'=[(b9,aM 5 [3] []),(b,aM 5 xs sp)]/\w4.heap.size<=b9/\w.heap.size<=b9| [v1,v2]=>∃(b9:Nat) (gB:Nat) (Ik:Nat) (JD:List Value),v1=bQ b9 ([3]:List UInt8).length 1/\v2=bQ gB (xs++[3]).length Ik/\L'=[w4,w]/\H'=[(b9,aM 5 [3] []),(gB,aM 5 (xs++[3]) JD)]/\w4.heap.size<=b9/\w.heap.size<=b9/\Fr (Gh.lent (· =b)) [w4,w] gB/\(gB=b\/w4.heap.size<=gB/\w.heap.size<=gB)/\dI (xs++[3]) Ik JD|_=>False) (pc zM (pk (pk (pc WV (pc zcj (pc (by exact λcv L' H' hd hP=>X.v (i6 underlying134 rfl)) (pc zuc (pn)))))))) ?_ ?_
 ·refine ss rfl ?_ ?_
  ·intro cv L' H' hl hP F Q' hk;obtain rfl:=lN hl;obtain⟨rfl,rfl⟩:=hP;refine Pw [3] bt zeroValue5 rfl rfl rfl rfl rfl rfl rfl rfl rfl ?_;intro b9 ha ho hx hr;exact OJ.done (hk _ _ _ ⟨b9,rfl,rfl,rfl,ha.1,ha.2.1⟩)
  refine ss rfl ?_ ?_
  ·intro cv L' H' hl hP F Q' hk;obtain⟨v1,rfl⟩:=iZ hl;obtain⟨b9,rfl,rfl,rfl,xh,PF⟩:=hP;refine Nk (i:=1) (xs:=xs) (zs:=[3]) (sp:=sp) rfl bt rfl rfl rfl rfl (ib.own (i:=0) underlying106 rfl) um (.inl rfl) Br ?_;intro b7 c7 s7 tB Cr;exact OJ.done (hk _ _ _ ⟨b9,b7,c7,s7,rfl,rfl,rfl,rfl,xh,PF,tB,by simpa only[Fr,Gh.lent,ae,and_true]using tB,Cr⟩)
  exact nn
 intro cv L' H' hl hP;obtain⟨v1,v2,rfl⟩:=pX hl;obtain⟨b9,gB,Ik,JD,rfl,rfl,rfl,rfl,xh,PF,JE,PG,yx⟩:=hP;refine OJ.dropF (i:=0) rfl (.inr ⟨xh,PF,trivial⟩) ?_;refine Uu (i:=0) (ys:=xs++[3]++num l.length) (first:=[]) (cap:=[]) rfl rfl call229 rfl rfl rfl JE (λW hS hW=>n0c (xs++[3]) l.length aa gB Ik JD yx Br W hW) ?_;intro dJ c15 s15 sA DE;have vP:=sA;replace vP:=ye vP;refine B 13 ?_;refine CJ.lp (α:=List UInt8×Nat×Nat×Nat×List Value) [2,17,18] (λp=>[(0,bQ p.2.2.1 p.1.length p.2.2.2.1),(19,ab (p.2.1:Int))]) (λp=>[(p.2.2.1,aM 5 p.1 p.2.2.2.2)]) (λp=>p.1++V.encL (l.drop p.2.1)=xs++(V.list l).enc/\p.2.1<=l.length/\Fr (Gh.lent (· =b)) [w4,w] p.2.2.1/\(p.2.2.1=b\/w4.heap.size<=p.2.2.1/\w.heap.size<=p.2.2.1)/\dI p.1 p.2.2.2.1 p.2.2.2.2) (λp=>l.length-p.2.1) (xs++[3]++num l.length,0,dJ,c15,s15) ⟨by simp[V.enc],cR _,sA,by simpa only[Fr,Gh.lent,Gh.no,ae,and_true,false_or]using sA,DE⟩ ?_;rintro⟨ys,i,b1,c1,s1⟩ ⟨hinv,hi,hf,hg,hr⟩;dsimp only at hinv hi hf hg hr ⊢;have Aq:=congrArg List.length hinv;simp only[V.enc,cy,dF]at Aq;refine B 6 ?_;refine aG ?_ ?_
 ·intro ar;refine B 5 ?_;obtain⟨bl,cs,te,fre,rfl,jl,cJ,hcz,a1,a2,p3,n3,c3,vO,xk⟩:=hel i aa;have DA:=(aT.1 cJ).1;obtain⟨y,hy⟩:∃y,l[i]'aa=y:=⟨_,rfl⟩;rw[hy]at vO xk;have JB:y∈l:=hy▸WB _;have hkb:=V.kind_bd y;have hed:=congrArg List.length (V.encL_drop l i aa);rw[cy,hy]at hed;refine B 2 ?_;refine rq (.agg #[ab y.kind,ab a1,.string a2,.slice p3 n3 c3]) (dT isAgg200 sizeOf200 rfl A1 cJ (by show ¬(_=_);omega) zz aa) (va (by rw[<-vO];congr 1;omega)) ?_;refine B 1 ?_;refine yW ?_;intro b7 jN vN;refine B 3 ?_;refine eA 9 (pb:=by exact aU (X.v (av isAgg288 rfl A1 Bt.atv (by show ¬(_=_);omega) zz rfl)) (zU 5 (k:=by exact aU (X.v (av (v:=.func (.func y.fn) #[] (y.cap bv).toArray) isAgg285 rfl A1 Bt.atw (by show ¬(_=_);omega) zz (DB bv _ _ (by show((0+Int.toNat y.kind*1+0:Nat):Int)=_;omega)))) zT))) (k:=?_);refine Uu (i:=1) (ys:=ys++y.enc) (first:=[]) (cap:=y.cap bv) rfl rfl (DC _) rfl rfl rfl hf (λW hS hW=>ih y JB N b1 c1 bv bw ys s1 W _ (eX.up (ak _) (hS.same A1 hN (λk hk (h:k=b)=>by omega) zD) _ _ xk) (V.fineL_mem PC y JB) (Bt.up (ak _) (hS.same A1 hN (λk hk (h:k=b)=>by omega) zD)) aa (dR hN (hS.links _ A1).size) hr aa hW) ?_;exact ztg
 intro ar;refine B 12 ?_;have e:i=l.length:=by omega
 subst e;rw[List.drop_of_length_le (ak _)]at hinv;simp only[V.encL,eb]at hinv;rw[<-hinv];exact nCi (i:=0) (.inl rfl) results232 rfl rfl A1 (by simp only[lM,dm,dX,sy,yu,and_true];omega) hr
theorem nEj(l:List V)(ih:∀y∈l,nkj y)(dO:(V.list l).fine)(N:Nat)(base:Option Addr)(lc bv bw:Nat)(w:World)(hN:N<=w.heap.size)(hel:JA N w base l)(Bt:Wr N w bv bw)(iX:(V.list l).enc.length<=800000000000):Calls prog 232 #[aj,vL base l.length lc,ptr bv 0] w (nym w 5 ((V.list l).enc)):=by
 simp only[V.fine]at dO;obtain⟨Ar,Dz,PC⟩:=dO;have hlv:=Bt.ltv;have hlw:=Bt.ltw;simp only[V.enc,dF,cy]at iX;refine eN func232 ntmps232 ?_;refine B 2 ?_;refine yX ?_;intro b4 w4 Ie Cj V5 ji jj;refine B 4 ?_;refine eS 7 1 [2] (sp:=[_,_,_,_,some (.slice base l.length lc),_,_]) (h:=?_);intro _ _ hk;refine Pw [3] bt zeroValue5 rfl rfl rfl rfl rfl rfl rfl rfl rfl ?_;intro b9 ha ho hx hr;have xh:w4.heap.size<=b9:=ha.1;have PF:w.heap.size<=b9:=ha.2.1;refine zG ?_;intro _ _ hk;refine apN (zs:=[3]) bt rfl rfl rfl rfl (ib.own (i:=0) underlying106 rfl) zA zA ?_;intro gB Ik JD jN vN hx7 yx;have JE:w4.heap.size<=gB:=jN.1;have PG:w.heap.size<=gB:=jN.2.1;refine zE ?_;refine OJ.dropF (i:=1) rfl (.inr ⟨xh,PF,trivial⟩) ?_;refine Uu (i:=0) (ys:=[3]++num l.length) (first:=[]) (cap:=[]) rfl rfl call229 rfl rfl rfl (.inr ⟨JE,PG,trivial⟩) (λW hS hW=>n0c ([3]) l.length aa gB Ik JD yx Br W hW) ?_;intro dJ c15 s15 sA DE;have vP:=sA;replace vP:=ye vP;refine B 13 ?_;refine CJ.lp (α:=List UInt8×Nat×Nat×Nat×List Value) [2,17,18] (λp=>[(0,bQ p.2.2.1 p.1.length p.2.2.2.1),(19,ab (p.2.1:Int))]) (λp=>[(p.2.2.1,aM 5 p.1 p.2.2.2.2)]) (λp=>p.1++V.encL (l.drop p.2.1)=(V.list l).enc/\p.2.1<=l.length/\Fr (Gh.no) [w4,w] p.2.2.1/\(w4.heap.size<=p.2.2.1/\w.heap.size<=p.2.2.1)/\dI p.1 p.2.2.2.1 p.2.2.2.2) (λp=>l.length-p.2.1) ([3]++num l.length,0,dJ,c15,s15) ⟨by simp[V.enc],cR _,sA,by simpa only[Fr,Gh.lent,Gh.no,ae,and_true,false_or]using sA,DE⟩ ?_
 rintro⟨ys,i,b1,c1,s1⟩ ⟨hinv,hi,hf,hg,hr⟩;dsimp only at hinv hi hf hg hr ⊢;have Aq:=congrArg List.length hinv;simp only[V.enc,cy,dF]at Aq;refine B 6 ?_;refine aG ?_ ?_
 ·intro ar;refine B 5 ?_;obtain⟨bl,cs,te,fre,rfl,jl,cJ,hcz,a1,a2,p3,n3,c3,vO,xk⟩:=hel i aa;have DA:=(aT.1 cJ).1;obtain⟨y,hy⟩:∃y,l[i]'aa=y:=⟨_,rfl⟩;rw[hy]at vO xk;have JB:y∈l:=hy▸WB _;have hkb:=V.kind_bd y;have hed:=congrArg List.length (V.encL_drop l i aa);rw[cy,hy]at hed;refine B 2 ?_;refine rq (.agg #[ab y.kind,ab a1,.string a2,.slice p3 n3 c3]) (dT isAgg200 sizeOf200 rfl A1 cJ zJ zz aa) (va (by rw[<-vO];congr 1;omega)) ?_;refine B 1 ?_;refine yW ?_;intro b7 jN vN;refine B 3 ?_;refine eA 9 (pb:=by exact aU (X.v (av isAgg288 rfl A1 Bt.atv zJ zz rfl)) (zU 5 (k:=by exact aU (X.v (av (v:=.func (.func y.fn) #[] (y.cap bv).toArray) isAgg285 rfl A1 Bt.atw zJ zz (DB bv _ _ (by show((0+Int.toNat y.kind*1+0:Nat):Int)=_;omega)))) zT))) (k:=?_);refine Uu (i:=1) (ys:=ys++y.enc) (first:=[]) (cap:=y.cap bv) rfl rfl (DC _) rfl rfl rfl hf (λW hS hW=>ih y JB N b1 c1 bv bw ys s1 W _ (eX.up (ak _) hS.sm _ _ xk) (V.fineL_mem PC y JB) (Bt.up (ak _) hS.sm) aa (dR hN (hS.links _ A1).size) hr aa hW) ?_;exact ztg
 intro ar;refine B 12 ?_;have e:i=l.length:=by omega
 subst e;rw[List.drop_of_length_le (ak _)]at hinv;simp only[V.encL,eb]at hinv;rw[<-hinv];exact PH (i:=0) (.inl rfl) results232 rfl rfl A1 Cl hr
theorem DF:∀x,nkj x:=by
 refine V.ind ?_ ?_ ?_
 ·intro n N b cap bv bw xs sp w v hv hf _ _ _ hr hl hb;simp only[eX]at hv;subst hv;exact nDp n hf xs b cap sp hr w hb hl
 ·intro s N b cap bv bw xs sp w v hv hf _ _ _ hr hl hb;simp only[eX]at hv;subst hv;exact nho s hf xs b cap sp hr w hb hl
 intro l ih N b cap bv bw xs sp w v hv hf Bt hNb hN hr hl hb;obtain⟨base,lc,rfl,hc,hel⟩:=hv.list;exact nno l ih hf N base lc bv bw xs b cap sp hr w hb hN hNb hel Bt hl
theorem nue(l:List V)(dO:(V.list l).fine)(hd:(V.list l).depth<=16)(iX:(V.list l).enc.length<=800000000000)(N:Nat)(base:Option Addr)(lc:Nat)(w:World)(hN:N<=w.heap.size)(xk:eX N w (.list l) (vL base l.length lc)):Calls prog 85 #[vL base l.length lc] w (nwl w 5 (V.list l).enc):=by
 obtain⟨WW,lc',afw,Il,afx⟩:=xk.list;obtain⟨rfl,rfl⟩:base=WW/\lc=lc':=by simpa[vL]using afw
 refine eN func85 ntmps85 ?_;refine B 2 ?_;refine yX ?_;intro b1 w1 hb1 cF gK gj jy;refine B 8 ?_;refine call call162 rfl rfl rfl (λW hS=>nUm (.list l) _ _ _ _ _ dO hd N W (dR hN (hS.links _ A1).size) (eX.up aa hS.sm _ _ xk)) ?_;refine B 6 ?_;refine Im ?_;refine eS 8 0 [3,4,5,6] (sp:=[_,_,some (ab 3),_,_,_,_,some (vL base l.length lc)]) (h:=?_);intro _ _ hk;refine nv (Φ:=λ(W:World) (p:Nat×Nat) (v1:World)=>W.heap.size<=p.1/\W.heap.size<=p.2/\v1.heap[p.2]? =some (oC #[ptr p.1 0] 288)/\v1.heap[p.1]? =some (oC (wrC p.2) 370)) call163 rfl rfl rfl (λW hS=>nki W) ?_;rintro W ⟨bw,bv⟩ w10 hSW afz ⟨h1,h2,e5,e6⟩;have h5:=hSW.sizes;replace h5:=yb h5;dsimp only at h1 h2 e5 e6;have e3:=(aT.1 e6).1;have e4:=(aT.1 e5).1;have e7:=afz.size;have e1:w1.heap.size<=bw:=by omega
 have e2:w1.heap.size<=bv:=by omega
 have e7:w1.heap.size<=w10.heap.size:=by omega
 refine zG ?_;intro _ _ hk;refine B 1 ?_;refine zG ?_;intro _ _ hk;refine B 1 ?_;refine zG ?_;intro _ _ hk;refine B 1 ?_;refine zG ?_;intro _ _ hk;refine rv rfl rfl rfl (av (v:=.func (.func 232) #[] #[ptr bv 0]) isAgg285 rfl A0 e6 zJ trivial rfl) ?_;refine zE ?_;refine PI (ys:=(V.list l).enc) (first:=[]) (cap:=[ptr bv 0]) rfl call232 rfl rfl rfl (λW hS=>nEj l (λy _=>DF y) dO w10.heap.size base lc bv bw W (hS.links _ A0).size (λi hi=>by
  obtain⟨bl,cs,t,fr,h1,h2,h3,h4,a1,a2,p3,n3,c3,h5,h6⟩:=afx i hi;have hsm:=hS.same A2 hN zH zD;exact⟨bl,cs,t,fr,h1,by omega,(hsm bl h2).trans h3,h4,a1,a2,p3,n3,c3,h5,eX.up aa hsm _ _ h6⟩) ⟨e4,e3,hS.old A0 e5 zJ trivial,hS.old A0 e6 zJ trivial⟩ iX) ?_
 intro b18 c18 s18 Bs Py afl WM;replace Bs:=yb Bs;refine B 5 ?_;exact PK (i:=0) (.inl rfl) results85 rfl rfl rfl A2 Cl WM


end Px
