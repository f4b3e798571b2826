/- Contracts of functions of the program. No condition beyond those stated. -/
import Derived.Test.YtodpaegknpbomaaGreatDoorXd
import Derived.Test.YtodpaegknpbomaaGreatDoorProg
set_option linter.unusedSimpArgs false
set_option linter.unusedVariables false
set_option linter.unusedSectionVars false
set_option linter.unnecessarySimpa false
set_option maxRecDepth 20000
set_option maxHeartbeats 8000000
namespace Px
open Go Go.RowKit Go.Proofs Go.Proofs.Tryz
theorem nDi(x y:Int)(hx:0<=x)(O9:x<18446744073709551616)(hy:0<=y)(Bo:y<18446744073709551616)(w:World):Calls prog 253 #[.int .u64 x,.int .u64 y] w (aM w (.tuple #[.int .u64 (x*y/18446744073709551616),.int .u64 (x*y%18446744073709551616)])):=by
 have m1:=Na (a:=x/4294967296) (b:=y/4294967296) (A:=4294967295) (B:=4294967295) aa aa aa aa;have m2:=Na (a:=x/4294967296) (b:=y%4294967296) (A:=4294967295) (B:=4294967295) aa aa aa aa;have m3:=Na (a:=x%4294967296) (b:=y%4294967296) (A:=4294967295) (B:=4294967295) aa aa aa aa;have m4:=Na (a:=x%4294967296) (b:=y/4294967296) (A:=4294967295) (B:=4294967295) aa aa aa aa;refine eN func253 ntmps253 ?_;refine B 9 ?_;refine zte ?_;refine B 6 ?_;refine Uc ?_;refine B 6 ?_;refine zte ?_;refine B 6 ?_;refine Uc ?_;refine B 7 ?_;refine Pa ?_;refine B 7 ?_;refine Pa ?_;refine B 1 ?_;refine Uc ?_;refine VP ?_;refine B 6 ?_;refine zte ?_;refine B 6 ?_;refine Uc ?_;refine B 8 ?_;refine Pa ?_;refine VP ?_;refine B 7 ?_;refine Pa ?_;refine B 1 ?_;refine VP ?_;refine B 1 ?_;refine Uc ?_;refine VP ?_;refine B 7 ?_;refine rv rfl rfl rfl (kp rfl rfl) ?_;refine B 4 ?_;refine nS results253 rfl rfl A0 ?_ ?_
 ·exact vu (ncp x y hx hy O9 Bo)
 rw[nC]
def VQ:ByteArray:=⟨#[0,1,2,2,3,3,3,3,4,4,4,4,4,4,4,4,5,5,5,5,5,5,5,5,5,5,5,5,5,5,5,5,6,6,6,6,6,6,6,6,6,6,6,6,6,6,6,6,6,6,6,6,6,6,6,6,6,6,6,6,6,6,6,6,7,7,7,7,7,7,7,7,7,7,7,7,7,7,7,7,7,7,7,7,7,7,7,7,7,7,7,7,7,7,7,7,7,7,7,7,7,7,7,7,7,7,7,7,7,7,7,7,7,7,7,7,7,7,7,7,7,7,7,7,7,7,7,7,8,8,8,8,8,8,8,8,8,8,8,8,8,8,8,8,8,8,8,8,8,8,8,8,8,8,8,8,8,8,8,8,8,8,8,8,8,8,8,8,8,8,8,8,8,8,8,8,8,8,8,8,8,8,8,8,8,8,8,8,8,8,8,8,8,8,8,8,8,8,8,8,8,8,8,8,8,8,8,8,8,8,8,8,8,8,8,8,8,8,8,8,8,8,8,8,8,8,8,8,8,8,8,8,8,8,8,8,8,8,8,8,8,8,8,8,8,8,8,8,8,8,8,8,8,8,8,8]⟩
theorem nUo(n:Nat)(h:n<256):VQ[n]? =some (UInt8.ofNat (cY n)):=by
 have:∀n:Fin 256,VQ[n.val]? =some (UInt8.ofNat (cY n.val)):=by decide +kernel
 exact this ⟨n,h⟩
theorem Ja{x:Int}(h0:0<=x)(h:x<256):∃b,VQ[x.toNat]? =some b/\(b.toNat:Int)=qE x:=by
 refine⟨_,nUo x.toNat aa,?_⟩;have:=nsh x.toNat 8 aa;unfold qE;simp;omega
variable {L:List World}
theorem Pb{C:Cx}{E:Env}{G:Gh}{H:ad}{T:Nat}{x y:Operand}{n:Int}(hU:C.P.underlying T=some .string)(hx:ev E x=some (.string VQ))(hy:ev E y=some (.int .u8 n))(h0:0<=n)(h1:n<256):RV C G L H E (.index T x y) (.int .u8 (qE n)):=by grind [Ja,C9]
theorem nj(x:Int)(q:Int)(k:Nat)(hq:(2:Int)^k=q)(h:q<=x):qE x=qE (x/q)+k:=by
 subst hq;exact ngn k h
theorem Da(x:Int)(h0:0<=x)(h:x<256):0<=qE x/\qE x<=8:=by
 have:=nhm (x:=x) 8 h0 Bp;simpa using this
theorem vM{C:Cx}{Q:aZ}{E:Env}{D:List Deferred}{G:Gh}{H:ad}{ops:Array Oper}{l:List Oper}{d T ty:Nat}{pos:String}{aC:Array Edge}{g:Option (Nat×Bool)}{x y:Operand}{n:Int}(hU:C.P.underlying T=some .string)(hx:ev E x=some (.string VQ))(hw:nl ops E g=some true)(hN:Nat.blt d C.N=true)(hy:ev E y=some (.int .u8 n))(h0:0<=n)(h1:n<256)(k:0<=qE n->qE n<=8->OJ C ops Q l ((d,.int .u8 (qE n))::E) D G L H):OJ C ops Q (⟨some d,.index T x y,ty,pos,aC,g⟩::l) E D G L H:=
 rv rfl hw hN (Pb hU hx hy h0 h1) (k (Da n h0 h1).1 (Da n h0 h1).2)
theorem nPf(x:Int)(hx:0<=x)(O9:x<18446744073709551616)(w:World):Calls prog 180 #[.int .u64 x] w (aM w (ab (qE x))):=by
 refine eN func180 ntmps180 ?_;refine B 12 ?_;refine aG ?_ ?_
 ·intro ar;refine B 3 ?_;refine Uc ?_;refine B 14 ?_;refine aG ?_ ?_
  ·intro aN;refine B 3 ?_;refine rv rfl rfl rfl (iM 16 65536 zB rfl rfl rfl) ?_;refine B 16 ?_;refine aG ?_ ?_
   ·intro dc;refine zfd ?_;refine vM underlying9 zO rfl rfl rfl aa aa (λIb hl8=>?_);refine Nb ?_
    (refine congrArg ab ?_;(try simp only[nj x 4294967296 32 zB,nj (x/4294967296) 65536 16 zB,nj (x/4294967296/65536) 256 8 zB,nj (x/4294967296) 256 8 zB,nj x 65536 16 zB,nj (x/65536) 256 8 zB,nj x 256 8 zB, *]);omega)
   intro dc;refine B 6 ?_;refine z0e ?_;refine vM underlying9 zO rfl rfl rfl aa aa (λIb hl8=>?_);refine Nb ?_
   (refine congrArg ab ?_;(try simp only[nj x 4294967296 32 zB,nj (x/4294967296) 65536 16 zB,nj (x/4294967296/65536) 256 8 zB,nj (x/4294967296) 256 8 zB,nj x 65536 16 zB,nj (x/65536) 256 8 zB,nj x 256 8 zB, *]);omega)
  intro aN;refine B 9 ?_;refine aG ?_ ?_
  ·intro jo;refine zfd ?_;refine vM underlying9 zO rfl rfl rfl aa aa (λIb hl8=>?_);refine Nb ?_
   (refine congrArg ab ?_;(try simp only[nj x 4294967296 32 zB,nj (x/4294967296) 65536 16 zB,nj (x/4294967296/65536) 256 8 zB,nj (x/4294967296) 256 8 zB,nj x 65536 16 zB,nj (x/65536) 256 8 zB,nj x 256 8 zB, *]);omega)
  intro jo;refine B 6 ?_;refine z0e ?_;refine vM underlying9 zO rfl rfl rfl aa aa (λIb hl8=>?_);refine Nb ?_
  (refine congrArg ab ?_;(try simp only[nj x 4294967296 32 zB,nj (x/4294967296) 65536 16 zB,nj (x/4294967296/65536) 256 8 zB,nj (x/4294967296) 256 8 zB,nj x 65536 16 zB,nj (x/65536) 256 8 zB,nj x 256 8 zB, *]);omega)
 intro ar;refine B 9 ?_;refine aG ?_ ?_
 ·intro ij;refine B 3 ?_;refine rv rfl rfl rfl (iM 16 65536 zB rfl rfl rfl) ?_;refine B 16 ?_;refine aG ?_ ?_
  ·intro lI;refine zfd ?_;refine vM underlying9 zO rfl rfl rfl aa aa (λIb hl8=>?_);refine Nb ?_
   (refine congrArg ab ?_;(try simp only[nj x 4294967296 32 zB,nj (x/4294967296) 65536 16 zB,nj (x/4294967296/65536) 256 8 zB,nj (x/4294967296) 256 8 zB,nj x 65536 16 zB,nj (x/65536) 256 8 zB,nj x 256 8 zB, *]);omega)
  intro lI;refine B 6 ?_;refine z0e ?_;refine vM underlying9 zO rfl rfl rfl aa aa (λIb hl8=>?_);refine Nb ?_
  (refine congrArg ab ?_;(try simp only[nj x 4294967296 32 zB,nj (x/4294967296) 65536 16 zB,nj (x/4294967296/65536) 256 8 zB,nj (x/4294967296) 256 8 zB,nj x 65536 16 zB,nj (x/65536) 256 8 zB,nj x 256 8 zB, *]);omega)
 intro ij;refine B 9 ?_;refine aG ?_ ?_
 ·intro ke;refine zfd ?_;refine vM underlying9 zO rfl rfl rfl aa aa (λIb hl8=>?_);refine Nb ?_
  (refine congrArg ab ?_;(try simp only[nj x 4294967296 32 zB,nj (x/4294967296) 65536 16 zB,nj (x/4294967296/65536) 256 8 zB,nj (x/4294967296) 256 8 zB,nj x 65536 16 zB,nj (x/65536) 256 8 zB,nj x 256 8 zB, *]);omega)
 intro ke;refine B 6 ?_;refine z0e ?_;refine vM underlying9 zO rfl rfl rfl aa aa (λIb hl8=>?_);refine Nb ?_
 (refine congrArg ab ?_;(try simp only[nj x 4294967296 32 zB,nj (x/4294967296) 65536 16 zB,nj (x/4294967296/65536) 256 8 zB,nj (x/4294967296) 256 8 zB,nj x 65536 16 zB,nj (x/65536) 256 8 zB,nj x 256 8 zB, *]);omega)
theorem nwg(x:Int)(hx:0<=x)(O9:x<18446744073709551616)(w:World):Calls prog 292 #[.int .u64 x] w (aM w (ab (64-qE x))):=by
 have hb:=nhm (x:=x) 64 hx (by simpa using O9);refine eN func292 ntmps292 ?_;refine B 8 ?_;refine zIe ?_;refine B 5 ?_;refine aF results292 rfl A0 ?_;rfl
theorem ngg(x:Int)(hx:0<=x)(O9:x<18446744073709551616)(w:World):Calls prog 106 #[.int .u64 x] w (aM w (ab (qE x))):=by
 refine eN func106 ntmps106 ?_;refine B 12 ?_;refine zIe ?_;refine B 4 ?_;refine aF results106 rfl A0 ?_;rfl
theorem nCh(u q y1 r:Nat)(h:q*y1+r=u):((u:Int)-(q:Int)*(y1:Int))=(r:Int):=by grind
theorem nin(hi lo y:Nat)(VR:hi<y)(Ic:lo<18446744073709551616)(hy:y<18446744073709551616)(h0:0<hi)(w:World):Calls prog 254 #[.int .u64 (hi:Int),.int .u64 (lo:Int),.int .u64 (y:Int)] w (aM w (.tuple #[.int .u64 (((hi*2^64+lo)/y:Nat):Int),.int .u64 (((hi*2^64+lo)%y:Nat):Int)])):=by
 obtain⟨hb1,da,hb3⟩:=nuo y aa hy;have Cr:=(n9h y aa).2.2;obtain⟨s,hs⟩:∃s,64-cY y=s:=⟨_,rfl⟩;rw[hs]at da hb3;have hsI:(64-qE (y:Int))=(s:Int):=by unfold qE;simp;omega
 obtain⟨Y,hY⟩:∃Y,y*2^s=Y:=⟨_,rfl⟩;rw[hY]at da hb3;obtain⟨y1,Bo⟩:∃z,Y/4294967296=z:=⟨_,rfl⟩;obtain⟨y0,Ie⟩:∃z,Y%4294967296=z:=⟨_,rfl⟩;have Ud:y1*2^32+y0=Y:=by omega
 obtain⟨hN,hlt⟩:=nIo hi lo y s aa VR Ic;obtain⟨u,hu⟩:∃z,hi*2^s+lo/2^(64-s)=z:=⟨_,rfl⟩;obtain⟨v,hv⟩:∃z,lo*2^s%2^64=z:=⟨_,rfl⟩;rw[hu,hv]at hN;rw[hu,hY]at hlt;have am1:v<18446744073709551616:=by rw[<-hv];exact Nat.mod_lt _ zB
 obtain⟨v1,hv1⟩:∃z,v/4294967296=z:=⟨_,rfl⟩;obtain⟨v0,hv0⟩:∃z,v%4294967296=z:=⟨_,rfl⟩;have iv:2^31<=y1:=by omega
 have Jb:v1<2^32:=by omega
 have sk:v0<2^32:=by omega
 have huY:u<y1*2^32+y0:=by omega
 have d1:=td.start iv aa aa Jb huY;have am2:hi*2^s<=u:=by rw[<-hu];exact Nat.le_add_right _ _
 have hq0:u/y1*y1<=u:=Nat.div_mul_le_self u y1;refine eN func254 ntmps254 ?_;refine Pd ?_;refine Pd ?_;refine B 9 ?_;refine ax bG ?_;refine B 8 ?_;refine call call292 rfl rfl rfl (λW hS=>nwg _ aa aa W) ?_;refine rq (.int .u64 (s:Int)) (xV underlying3 underlying222 rfl aa aa) (vu hsI) ?_;refine B 7 ?_;refine rq (.int .u64 (Y:Int)) (qF rfl rfl aa) (vu ((Db y s aa aa).trans (by rw[hY]))) ?_;refine B 6 ?_;refine rq (.int .u64 (y1:Int)) (iM 32 4294967296 zB rfl rfl rfl) (vu aa) ?_;refine B 6 ?_;refine rq (.int .u64 (y0:Int)) (qG 32 4294967296 zB rfl rfl rfl rfl aa aa) (vu aa) ?_;refine B 7 ?_;refine rq (.int .u64 ((hi*2^s:Nat):Int)) (qF rfl rfl aa) (vu (Db hi s aa aa)) ?_;refine B 2 ?_;refine rv rfl rfl rfl (tX rfl rfl aa aa) ?_;refine rq (.int .u64 ((lo/2^(64-s):Nat):Int)) (lJ rfl rfl aa) (vu (Pe lo s _ aa)) ?_;refine rq (.int .u64 (u:Int)) (An rfl rfl) (vu ((Nc hi _ s (Dc lo s aa Ic) aa).trans (by rw[hu]))) ?_;refine B 7 ?_;refine rq (.int .u64 (v:Int)) (qF rfl rfl aa) (vu ((Jc lo s aa).trans (by rw[hv]))) ?_;refine B 6 ?_;refine rq (.int .u64 (v1:Int)) (iM 32 4294967296 zB rfl rfl rfl) (vu aa) ?_;refine B 6 ?_;refine rq (.int .u64 (v0:Int)) (qG 32 4294967296 zB rfl rfl rfl rfl aa aa) (vu aa) ?_;refine B 7 ?_;refine rq (.int .u64 ((u/y1:Nat):Int)) (xW rfl rfl aa aa aa) (vu (noe u y1)) ?_
 refine B 8 ?_;refine Pa ?_;refine rq (.int .u64 ((u%y1:Nat):Int)) (tX rfl rfl aa aa) (vu (nCh _ _ _ _ d1.eq)) ?_;refine B 5 ?_;refine CJ.lp (α:=Nat×Nat) [2,8,9,10,11,13,14] (λp=>[(15,.int .u64 (p.1:Int)),(16,.int .u64 (p.2:Int))]) (λp=>[]) (λp=>td u y1 y0 v1 p.1 p.2) (λp=>p.1) (u/y1,u%y1) d1 ?_;rintro⟨q,r⟩ hd;dsimp only;replace hd:td u y1 y0 v1 q r:=hd;have vN:=hd.lt;have hde:=hd.le;have hqn:(0:Int)<=(q:Int)*(y0:Int):=Int.mul_nonneg aa aa;have hqy:(q:Int)<=4294967295->(q:Int)*(y0:Int)<=4294967295*4294967295:=λh=>(Na aa h aa aa).2;refine B 6 ?_;refine ni (t:=69) rfl (λar=>?_) (λar=>?_)
 ·replace ar:=ya ar;refine B 18 ?_;obtain⟨cF,bW,cK⟩:=hd.more iv huY Jb aa;refine Nf ?_;refine aG ?_ ?_
  ·intro aN;refine zYe ?_;first|(have xX:=hd.stop iv aa;obtain⟨q1,rfl⟩:∃q1,q1=q:=⟨_,rfl⟩)|(have xX:=nub aa aa bW cK iv aa;generalize q-1=q1 at *)
   rw[Ud]at xX;obtain⟨r1,Jd⟩:∃z,(u*2^32+v1)%Y=z:=⟨_,rfl⟩;have VS:r1<Y:=by rw[<-Jd];exact Nat.mod_lt _ aa
   have gA:q1*Y+r1=u*2^32+v1:=by have:=Bq (u*2^32+v1) Y;rw[xX,Jd,Ig]at this;exact this
   have d2:=td.start iv aa aa sk (show r1<y1*2^32+y0 by omega);have VT:r1/y1*y1<=r1:=Nat.div_mul_le_self r1 y1;have tY:r1<y1*2^32+y0:=by omega
   clear hd;try clear cF bW cK
   refine zMf ?_;rintro⟨q,r⟩ hd;dsimp only;replace hd:td r1 y1 y0 v0 q r:=hd;have vN:=hd.lt;have hde:=hd.le;have hqn:(0:Int)<=(q:Int)*(y0:Int):=Int.mul_nonneg aa aa;have hqy:(q:Int)<=4294967295->(q:Int)*(y0:Int)<=4294967295*4294967295:=λh=>(Na aa h aa aa).2;refine B 6 ?_;refine ni (t:=104) rfl (λdc=>?_) (λdc=>?_)
   ·replace dc:=ya dc;refine B 18 ?_;obtain⟨cF,bW,cK⟩:=hd.more iv tY sk aa;refine Nf ?_;refine aG ?_ ?_
    ·intro jo;exact Ue
    intro jo;exact Ng
   replace dc:=ya dc;refine zqf ?_;refine aG ?_ ?_
   ·intro ij;refine B 6 ?_;obtain⟨cF,bW,cK⟩:=hd.more iv tY sk aa;refine Nf ?_;refine aG ?_ ?_
    ·intro lI;exact Ue
    intro lI;exact Ng
   intro ij;refine B 6 ?_;exact zRf
  intro aN;exact Ng
 replace ar:=ya ar;refine zqf ?_;refine aG ?_ ?_
 ·intro ke;refine B 6 ?_;obtain⟨cF,bW,cK⟩:=hd.more iv huY Jb aa;refine Nf ?_;refine aG ?_ ?_
  ·intro Je;refine zYe ?_;first|(have xX:=hd.stop iv aa;obtain⟨q1,rfl⟩:∃q1,q1=q:=⟨_,rfl⟩)|(have xX:=nub aa aa bW cK iv aa;generalize q-1=q1 at *)
   rw[Ud]at xX;obtain⟨r1,Jd⟩:∃z,(u*2^32+v1)%Y=z:=⟨_,rfl⟩;have VS:r1<Y:=by rw[<-Jd];exact Nat.mod_lt _ aa
   have gA:q1*Y+r1=u*2^32+v1:=by have:=Bq (u*2^32+v1) Y;rw[xX,Jd,Ig]at this;exact this
   have d2:=td.start iv aa aa sk (show r1<y1*2^32+y0 by omega);have VT:r1/y1*y1<=r1:=Nat.div_mul_le_self r1 y1;have tY:r1<y1*2^32+y0:=by omega
   clear hd;try clear cF bW cK
   refine zMf ?_;rintro⟨q,r⟩ hd;dsimp only;replace hd:td r1 y1 y0 v0 q r:=hd;have vN:=hd.lt;have hde:=hd.le;have hqn:(0:Int)<=(q:Int)*(y0:Int):=Int.mul_nonneg aa aa;have hqy:(q:Int)<=4294967295->(q:Int)*(y0:Int)<=4294967295*4294967295:=λh=>(Na aa h aa aa).2;refine B 6 ?_;refine ni (t:=104) rfl (λqH=>?_) (λqH=>?_)
   ·replace qH:=ya qH;refine B 18 ?_;obtain⟨cF,bW,cK⟩:=hd.more iv tY sk aa;refine Nf ?_;refine aG ?_ ?_
    ·intro tZ;exact Ue
    intro tZ;exact Ng
   replace qH:=ya qH;refine zqf ?_;refine aG ?_ ?_
   ·intro ua;refine B 6 ?_;obtain⟨cF,bW,cK⟩:=hd.more iv tY sk aa;refine Nf ?_;refine aG ?_ ?_
    ·intro oG;exact Ue
    intro oG;exact Ng
   intro ua;refine B 6 ?_;exact zRf
  intro Je;exact Ng
 intro ke;refine B 6 ?_;first|(have xX:=hd.stop iv aa;obtain⟨q1,rfl⟩:∃q1,q1=q:=⟨_,rfl⟩)|(have xX:=nub aa aa bW cK iv aa;generalize q-1=q1 at *)
 rw[Ud]at xX;obtain⟨r1,Jd⟩:∃z,(u*2^32+v1)%Y=z:=⟨_,rfl⟩;have VS:r1<Y:=by rw[<-Jd];exact Nat.mod_lt _ aa
 have gA:q1*Y+r1=u*2^32+v1:=by have:=Bq (u*2^32+v1) Y;rw[xX,Jd,Ig]at this;exact this
 have d2:=td.start iv aa aa sk (show r1<y1*2^32+y0 by omega);have VT:r1/y1*y1<=r1:=Nat.div_mul_le_self r1 y1;have tY:r1<y1*2^32+y0:=by omega
 clear hd;try clear cF bW cK
 refine zMf ?_;rintro⟨q,r⟩ hd;dsimp only;replace hd:td r1 y1 y0 v0 q r:=hd;have vN:=hd.lt;have hde:=hd.le;have hqn:(0:Int)<=(q:Int)*(y0:Int):=Int.mul_nonneg aa aa;have hqy:(q:Int)<=4294967295->(q:Int)*(y0:Int)<=4294967295*4294967295:=λh=>(Na aa h aa aa).2;refine B 6 ?_;refine ni (t:=104) rfl (λoH=>?_) (λoH=>?_)
 ·replace oH:=ya oH;refine B 18 ?_;obtain⟨cF,bW,cK⟩:=hd.more iv tY sk aa;refine Nf ?_;refine aG ?_ ?_
  ·intro xY;exact Ue
  intro xY;exact Ng
 replace oH:=ya oH;refine zqf ?_;refine aG ?_ ?_
 ·intro xZ;refine B 6 ?_;obtain⟨cF,bW,cK⟩:=hd.more iv tY sk aa;refine Nf ?_;refine aG ?_ ?_
  ·intro Pf;exact Ue
  intro Pf;exact Ng
 intro xZ;refine B 6 ?_;exact zRf
theorem n2m(lo y:Nat)(h0:0<y)(Ic:lo<18446744073709551616)(hy:y<18446744073709551616)(w:World):Calls prog 254 #[.int .u64 0,.int .u64 (lo:Int),.int .u64 (y:Int)] w (aM w (.tuple #[.int .u64 ((lo/y:Nat):Int),.int .u64 ((lo%y:Nat):Int)])):=by
 refine eN func254 ntmps254 ?_;refine Pd ?_;refine Pd ?_;refine B 9 ?_;refine ax cX ?_;refine B 4 ?_;refine eA 7 (pb:=by exact zU 2 (k:=by exact aU (X.v (xW rfl rfl aa aa aa)) (zU 2 (k:=by exact aU (X.v (Dd rfl rfl aa aa)) zT)))) (k:=?_);refine B 5 ?_;refine nS results254 rfl rfl A0 ?_ ?_
 ·exact vu (noe lo y)
 exact vu (Int.natCast_emod lo y).symm
theorem nig(hi lo y:Int)(h0:0<=hi)(h1:hi<y)(h2:0<=lo)(h3:lo<18446744073709551616)(h4:y<18446744073709551616)(w:World):Calls prog 254 #[.int .u64 hi,.int .u64 lo,.int .u64 y] w (aM w (.tuple #[.int .u64 ((hi*18446744073709551616+lo)/y),.int .u64 ((hi*18446744073709551616+lo)%y)])):=by
 obtain⟨a,rfl⟩:=Nh h0;obtain⟨b,rfl⟩:=Nh h2;obtain⟨c,rfl⟩:=Nh (Int.le_trans h0 (Int.le_of_lt h1));have e:((a:Int)*18446744073709551616+(b:Int))=((a*2^64+b:Nat):Int):=by simp
 rw[e,noe,<-Int.natCast_emod];by_cases ha:a=0
 ·subst ha;have:=n2m b c aa aa aa w;simpa using this
 exact nin a b c aa aa aa aa w
theorem nui{a b p:Int}(ha:0<=a)(fX:a<p)(hb:0<=b)(hb1:b<p)(hp:p<18446744073709551616):0<=a*b/18446744073709551616/\a*b/18446744073709551616<p/\0<=a*b%18446744073709551616/\a*b%18446744073709551616<18446744073709551616/\a*b/18446744073709551616*18446744073709551616+a*b%18446744073709551616=a*b:=by
 have h0:0<=a*b:=Int.mul_nonneg ha hb;have h1:a*b<=a*18446744073709551616:=Int.mul_le_mul_of_nonneg_left aa ha;all_goals grind
theorem nff(a b:Int)(ha:0<=a)(fX:a<4611686018427377339)(hb:0<=b)(hb1:b<4611686018427377339)(w:World):Calls prog 190 #[.int .u64 a,.int .u64 b] w (aM w (.int .u64 (a*b%4611686018427377339))):=by
 obtain⟨m1,m2,m3,m4,m5⟩:=nui ha fX hb hb1 zB;refine eN func190 ntmps190 ?_;refine B 9 ?_;refine zff ?_;refine B 14 ?_;refine aF results190 rfl A0 ?_
 (rw[m5];rfl)
theorem nFm(k:Int)(w:World):Calls prog 189 #[.int .u64 k] w (cN w (λb=>.func (.func 252) #[] #[ptr b 0]) (λb w1=>w.heap.size<=b/\w1.heap[b]? =some (oC #[.int .u64 k] 233))):=by
 refine eN func189 ntmps189 ?_;refine B 2 ?_;refine yX ?_;intro b1 w1 hb1 cF gA fX jq;refine B 10 ?_;refine rS b1 results189 rfl A1 rfl ?_;exact zmh
def th (n:Nat):List Bool:=(List.range (cY n)).reverse.map (λi=>n.testBit i)
theorem n7d(n:Nat):(th n).length=cY n:=by simp[th]
theorem nef(n j:Nat)(h:j<cY n):(th n).take (j+1)=(th n).take j++[n.testBit (cY n-1-j)]:=by
 have hl:j<(th n).length:=by rw[n7d];exact h
 rw[Ni hl];congr 2;simp[th]
theorem Pg(n i:Nat):decide (((n/2^i:Nat):Int)%2=1)=n.testBit i:=by grind
theorem De(n j:Nat)(h:j<cY n):((th n).take j++[n.testBit (cY n-1-j)]) <+:th n:=by
 rw[<-nef n j h];exact List.take_prefix _ _
theorem nLm(n:Nat)(hn:n<18446744073709551616)(b:Nat)(W:World)(hb1:W.heap[b]? =some (oC #[.int .u64 (n:Int)] 233)):uc prog 252 [ptr b 0] (λx:Bool=>[.bool x]) (Cs (th n)) (Is (th n)) (λ_=>False) (λk=>k=b) W:=by
 intro l M I X0 hM hI hX hy h0;have Uf:=(aT.1 hb1).1;have cF:¬(M b\/False):=λh=>h.elim (λh=>(hM b h).2.2 rfl) id;have jf:=nsh n 64 hn;have hbI:qE (n:Int)=(cY n:Int):=by simp[qE]
 refine nB (dh hM (λ_=>False) (hI [] _)) [] (vs:=[_,_]) func252 rfl ntmps252 rfl (Nj hM (hI [] _) h0 zJ (by simp[kV]) zJ) ?_;refine B 3 ?_;refine zIe ?_;refine rq (ab ((cY n:Int)-1-(0:Nat))) (qI rfl rfl aa aa) (congrArg ab (by rw[hbI];omega)) ?_;refine B 4 ?_;refine CJ.loop (α:=Nat×aE) (λp=>[(0,yv l),(1,ptr b 0),(3,ab ((cY n:Int)-1-(p.1:Int)))]) (λp=>[]) (λp=>[W]) (λp=>dh hM p.2 (hI ((th n).take p.1) p.2)) (λp=>p.1<=cY n/\∀k,p.2 k->W.heap.size<=k) (λp=>cY n-p.1) (0,λ_=>False) ⟨cV _,λ_ h=>h.elim⟩ zR rfl rfl zJ ?_;rintro⟨j,V⟩ ⟨hj,hV⟩;dsimp only at hj hV ⊢;have cF:¬(M b\/V b):=λh=>h.elim (λh=>(hM b h).2.2 rfl) (λh=>by have:=hV b h;omega);refine B 7 ?_;refine aG ?_ ?_
 ·intro ar;refine B 9 ?_;refine rq (.int .u64 ((n/2^(cY n-1-j):Nat):Int)) (lJ rfl rfl aa) (vu (Nk n _ _ aa aa)) ?_;refine rv rfl rfl rfl (qG 1 2 zB rfl rfl rfl rfl (Int.natCast_nonneg _) (Int.lt_of_le_of_lt (Int.ofNat_le.2 (Nat.div_le_self n _)) aa)) ?_;refine rq (.bool (n.testBit (cY n-1-j))) (lK rfl rfl) (vb (Pg n _)) ?_;refine Br (λV=>hI ((th n).take (j+1)) V) hX hV A0 rfl rfl rfl rfl (λW1 ue kO=>by have:=hy ((th n).take j) _ V W1 (De n j aa) ue kO;rw[<-nef n j aa]at this;exact this) ?_ ?_
  ·intro V hV;refine B 12 ?_;refine PJ.again (j+1,V) ⟨by dsimp only;omega,hV⟩ zW ⟨rfl,rfl,congrArg some (congrArg ab zW),trivial⟩ rfl rfl zJ
  intro V hV;refine B 9 ?_;exact Bs (.inl rfl) results252 A0 hV zJ (λA hA=>.inr hA)
 intro ar;refine B 4 ?_;exact Bs (.inr rfl) results252 A0 hV zJ (λA hA=>.inl ⟨th n,rfl,by have e:=jO (l:=th n) (i:=j) (by rw[n7d];omega);rw[e]at hA;exact hA⟩)
def nV (a m:Int):List Bool->Int->Int
 | [],c=>c
 |b::bs,c=>nV a m bs (if b then(c*c%m)*a%m else c*c%m)
theorem nQg(a m:Int)(bs:List Bool)(b:Bool)(c:Int):nV a m (bs++[b]) c=if b then(nV a m bs c*nV a m bs c%m)*a%m else nV a m bs c*nV a m bs c%m:=by induction bs generalizing c<;>grind [nV]
theorem nGi(a m:Int)(hm:0<m)(bs:List Bool)(c:Int)(h0:0<=c)(h1:c<m):0<=nV a m bs c/\nV a m bs c<m:=by
 induction bs generalizing c with
 |nil=>exact⟨h0,h1⟩
 |cons x bs ih=>
  simp only[nV];apply ih
  ·split<;>exact Int.emod_nonneg _ aa
  split<;>exact Int.emod_lt_of_pos _ hm
def uf (a n m:Int):Int:=nV a m (th n.toNat) 1
theorem nMh(a k:Int)(ha:0<=a)(fX:a<4611686018427377339)(hk:0<=k)(Jf:k<18446744073709551616)(w:World):Calls prog 114 #[.int .u64 a,.int .u64 k] w (aM w (.int .u64 (uf a k 4611686018427377339))):=by
 refine Pj Gh.no [] (vs:=[_,_]) func114 rfl ntmps114 rfl (Jg w) ?_;refine B 2 ?_;refine yX ?_;intro b2 w2 da bW eU dx dq;refine B 6 ?_;refine yW ?_;intro b5 so sq;refine B 7 ?_;refine nv (Φ:=λW b w1=>W.heap.size<=b/\w1.heap[b]? =some (oC #[.int .u64 k] 233)) call189 rfl rfl rfl (λW hS=>nFm _ W) ?_;intro Wd bd wd yh hBd hPd;obtain⟨am3,Pk⟩:=hPd;have hUd:=yh.under;simp only[nZ,cW,dB]at hUd;have hAd:=yh.sizes;replace hAd:=yb hAd;have hzd:=hBd.size;refine B 3 ?_;refine VU (f:=252) (cap:=[ptr bd 0]) (α:=Bool) (enc:=(λx:Bool=>[.bool x])) (Pre:=Cs (th k.toNat)) (Fin:=Is (th k.toNat)) (RO:=λk=>k=bd) (MI:=λ_=>False) rfl call252 (λW W2 hS hB=>by have e:(.int .u64 k:Value)= .int .u64 ((k.toNat:Nat):Int):=(by rw[Int.toNat_of_nonneg hk]);exact nLm k.toNat aa bd W2 (by rw[<-e,hB.block bd (by have:=(hS.sizes);simp only[ae]at this;have:=(aT.1 Pk).1;omega)];exact hS.old A0 Pk zL zA)) (λ_ _ _ hk=>hk.elim) (λW hS k hk=>by subst hk;have:=hS.sizes;simp only[ae]at this;have:=(aT.1 Pk).1;refine⟨by omega,by simp only[cW,dt,eL,kf];omega,λh=>h⟩) (λ_=>rfl) (λpre G' Hc=>G'=Gh.no/\Hc=[(b5,oC #[.int .u64 (nV a 4611686018427377339 pre 1)] 233)]) (λ_ _ _=>False) ⟨rfl,rfl⟩ zB ?_ ?_ ?_
 ·rintro pre x G' Hc l Dk rec W1 M V Wy oe vn dP ⟨rfl,rfl⟩ iH lD Pm yi du Df;simp only[ae]at iH yi;have bW:=du.z (k:=b2) aa zL oI zL;have hbd:=nGi a 4611686018427377339 zB pre 1 zB zB;have hX:=Int.emod_nonneg (nV a 4611686018427377339 pre 1*nV a 4611686018427377339 pre 1) (b:=4611686018427377339) zB;have fE:=Int.emod_lt_of_pos (nV a 4611686018427377339 pre 1*nV a 4611686018427377339 pre 1) (b:=4611686018427377339) zB;refine B 3 ?_;refine Nl oe ?_;refine B 5 ?_;refine call call190 rfl rfl rfl (λW hS=>nff _ _ aa aa aa aa W) ?_;refine B 8 ?_;refine aG ?_ ?_
  ·intro ar;refine B 3 ?_;refine call call190 rfl rfl rfl (λW hS=>nff _ _ aa aa aa aa W) ?_;refine B 3 ?_;refine Jh (G2:=Gh.no) (Hc2:=[(b5,oC #[.int .u64 (nV a 4611686018427377339 pre 1*nV a 4611686018427377339 pre 1%4611686018427377339*a%4611686018427377339)] 233)]) du lD ⟨λ_ h=>h,λ_ h=>.inl h,λ_ h=>.inl h,zJ,zJ⟩ (Ji oe vn) ?_;exact⟨rfl,by rw[nQg,ar];rfl⟩
  intro ar;refine B 2 ?_;refine Jh (G2:=Gh.no) (Hc2:=[(b5,oC #[.int .u64 (nV a 4611686018427377339 pre 1*nV a 4611686018427377339 pre 1%4611686018427377339)] 233)]) du lD ⟨λ_ h=>h,λ_ h=>.inl h,λ_ h=>.inl h,zJ,zJ⟩ (Ji oe vn) ?_;exact⟨rfl,by rw[nQg,ar];rfl⟩
 ·rintro pQ l Dk rec G' Hc rfl iH lD ⟨rfl,rfl⟩;replace iH:=yb iH;refine B 9 ?_;refine VV (.inl rfl) results114 rfl (by simp[book]) (λW H' hS aQ=>⟨?_,?_⟩)
  ·exact congrArg Ending.returned rfl
  refine(hS.links w A2).below λk hk hx=>?_;rw[aQ]at hx;simp[Gh.no,book]at hx;omega
 exact Pn
theorem noj(a k m:Int)(hm:1<m):0<=uf a k m/\uf a k m<m:=nGi a m aa _ 1 aa hm
abbrev dY (a:Int):Prop:=1<=a/\a<4611686018427377339/\uf a 2305843009213688669 4611686018427377339=1
def gExp (a k:Int):Int×Int:=if dY a then if 0<=k/\k<2305843009213688669 then(uf a k 4611686018427377339,0)else(0,1)else(0,40)
def qJ (p:Int×Int):Value:=.tuple #[ab p.1,ab p.2]
theorem nO(a:Int)(w:World):Calls prog 65 #[ab a] w (aM w (ab (if dY a then 0 else 40))):=by
 have hp:=noj a 2305843009213688669 4611686018427377339 zB;refine eN func65 ntmps65 ?_;refine B 11 ?_;refine ni (t:=5) rfl (λar=>?_) (λar=>?_)
 ·replace ar:=ya ar;refine B 19 ?_;refine zge ?_;split<;>omega
 replace ar:=ya ar;refine B 4 ?_;refine ni (t:=9) rfl (λaN=>?_) (λaN=>?_)
 ·replace aN:=ya aN;refine B 15 ?_;refine zge ?_;split<;>omega
 replace aN:=ya aN;refine B 2 ?_;refine call call114 rfl rfl rfl (λW hS=>nMh _ _ aa aa aa aa W) ?_;refine B 4 ?_;refine aG ?_ ?_
 ·intro dc;refine B 7 ?_;refine zge ?_;split<;>omega
 intro dc;refine B 8 ?_;refine zge ?_;split<;>omega
theorem nnk(a k:Int)(w:World):Calls prog 125 #[ab a,ab k] w (aM w (qJ (gExp a k))):=by
 have hp:=noj a k 4611686018427377339 zB;refine eN func125 ntmps125 ?_;refine B 10 ?_;refine call call65 rfl rfl rfl (λW hS=>nO _ W) ?_;refine B 9 ?_;refine aG ?_ ?_
 ·intro ar;refine B 1 ?_;have hg:¬dY a:=λh=>by simp[if_pos h]at ar
  refine B 8 ?_;exact zbg
 intro ar;refine B 4 ?_;have hg:dY a:=Decidable.byContradiction λh=>by simp[if_neg h]at ar
 refine B 4 ?_;refine ni (t:=14) rfl (λaN=>?_) (λaN=>?_)
 ·replace aN:=ya aN;refine B 14 ?_;exact zbg
 replace aN:=ya aN;refine B 5 ?_;refine aG ?_ ?_
 ·intro dc;refine B 8 ?_;exact zbg
 intro dc;refine B 8 ?_;refine call call114 rfl rfl rfl (λW hS=>nMh _ _ aa aa aa aa W) ?_;refine B 6 ?_;exact zbg
theorem nFi(k:Int)(w:World):Calls prog 124 #[ab k] w (aM w (qJ (gExp 4 k))):=by
 refine eN func124 ntmps124 ?_;refine B 9 ?_;refine call call125 rfl rfl rfl (λW hS=>nnk _ _ W) ?_;refine B 7 ?_;refine nS results124 rfl rfl A0 ?_ ?_;all_goals rfl
theorem Jj(x b:Int)(h0:0<=b)(h1:b<256):IntKind.u64.wrap (BitVec.ofInt IntKind.u64.bits (IntKind.u64.wrap (x*256))|||BitVec.ofInt IntKind.u64.bits b).toNat=(x*256)%18446744073709551616+b:=by
 obtain⟨y,hy⟩:∃y:Nat,(x*256)%18446744073709551616=((y*2^8:Nat):Int):=⟨((x*256)%18446744073709551616/256).toNat,by omega⟩;obtain⟨c,rfl⟩:=Nh h0;rw[hy,(nC (x*256)).trans hy,Nc y c 8 aa aa];omega
theorem Jk(n b m:Int):n/72057594037927936*18446744073709551616+(n*256%18446744073709551616+b)=n*256+b:=by omega
def Ii (m:Int):List Int->Int->Int
 | [],n=>n
 |b::bs,n=>Ii m bs ((n*256+b)%m)
theorem nTo(m:Int)(bs:List Int)(b n:Int):Ii m (bs++[b]) n=(Ii m bs n*256+b)%m:=by induction bs generalizing n<;>grind [Ii]
theorem nRh(m:Int)(hm:0<m)(bs:List Int)(n:Int)(h0:0<=n)(h1:n<m):0<=Ii m bs n/\Ii m bs n<m:=by
 induction bs generalizing n with
 |nil=>exact⟨h0,h1⟩
 |cons x bs ih=>exact ih _ (Int.emod_nonneg _ aa) (Int.emod_lt_of_pos _ hm)
theorem n9m(c n m:Int)(b b2:Nat)(hc:0<=c)(ar:c<256)(hn:0<=n)(hnm:n<m)(hm:m<72057594037927936*256)(w:World)(hb:w.heap[b]? =some (oC #[.int .u64 n] 233))(da:w.heap[b2]? =some (oC #[.int .u64 m] 233))(hne:b≠b2):Calls prog 302 #[.int .u8 c,ptr b 0,ptr b2 0] w (Jl w (.tuple #[]) b (oC #[.int .u64 ((n*256+c)%m)] 233)):=by
 have bW:¬Gh.no.M b2:=λh=>h;refine nB Gh.no [(b,_)] (vs:=[_,_,_]) func302 rfl ntmps302 rfl (n5l hb) ?_;refine B 2 ?_;refine rv rfl rfl rfl (iM 56 72057594037927936 zB rfl rfl rfl) ?_;refine B 1 ?_;refine rv rfl rfl rfl (Dg 8 256 zB rfl rfl rfl) ?_;refine B 2 ?_;refine rq (.int .u64 ((n*256)%18446744073709551616+c)) (An rfl rfl) (vu (Jj n c hc ar)) ?_;refine B 1 ?_;refine zie ?_;refine B 2 ?_;refine rq (.int .u64 ((n*256+c)%m)) (jg rfl rfl) (vu (by rw[Jk n c m])) ?_;refine jP (i:=0) rfl sizeOf233 rfl rfl rfl rfl (dO rfl) rfl ?_;refine B 1 ?_;refine bM (.inr rfl) results302 bj (λW hS=>⟨rfl,(hS.links w A0).mono λk _ hk=>?_,hS.own _ A0⟩);simpa[Gh.no]using hk
def dg (f:Nat->Int):Array Value:=(lL f []).toArray
def Bt (f:Nat->Int):List Int:=(List.range 32).map f
abbrev ec (f:Nat->Int):Prop:=∀i,0<=f i/\f i<256
theorem qK(f:Nat->Int)(i:Nat)(h:i<32):(dg f)[i]? =some (.int .u8 (f i)):=by
 have e:dg f=((List.range 32).map λi=>Value.int .u8 (f i)).toArray:=rfl;rw[e];simp[h]
theorem Dh(f:Nat->Int)(j:Nat)(h:j<32):(Bt f).take (j+1)=(Bt f).take j++[f j]:=by
 have hl:j<(Bt f).length:=by simp[Bt];exact h
 rw[Ni hl];simp[Bt]
theorem npo(f:Nat->Int)(hf:ec f)(m:Int)(xm:0<m)(hm:m<72057594037927936*256)(w:World):Calls prog 258 #[.agg (dg f),.int .u64 m] w (aM w (.int .u64 (Ii m (Bt f) 0))):=by
 refine eN func258 ntmps258 ?_;refine B 2 ?_;refine yX ?_;intro b2 w2 da bW eU dx dq;refine yX ?_;intro b3 w3 hb3 cK fF ez eP;refine B 1 ?_;refine yW ?_;intro b4 ja jb;refine B 16 ?_;refine CJ.lp (α:=Nat) [2,3,4,5,9] (λj=>[(10,ab (j:Int))]) (λj=>[(b4,oC #[.int .u64 (Ii m ((Bt f).take j) 0)] 233)]) (λj=>j<=32) (λj=>32-j) 0 zB ?_;rintro j hj;have hbd:=nRh m xm ((Bt f).take j) 0 zB xm;refine B 6 ?_;refine aG ?_ ?_
 ·intro ar;refine B 6 ?_;refine rq (.int .u8 (f j)) (ug underlying33 isAgg5 sizeOf5 rfl rfl aa aa (qK f _ aa)) (congrArg (λk=>Value.int .u8 (f k)) aa) ?_;refine B 6 ?_;refine VW (f:=302) (i:=0) (first:=[]) (cap:=[ptr b4 0,ptr b3 0]) rfl rfl call302 rfl rfl rfl (λW hS hW=>n9m _ _ _ _ _ (hf j).1 (hf j).2 hbd.1 hbd.2 hm W hW (hS.old A0 hb3 cK zA) aa) ?_;refine B 7 ?_;refine PJ.reH (H':=[(b4,oC #[.int .u64 (Ii m ((Bt f).take (j+1)) 0)] 233)]) (by rw[Dh f j aa,nTo];rfl) ?_;exact Jm
 intro ar;refine B 12 ?_;refine cC (.inl rfl) results258 bj A2 zC ?_;exact vu (by rw[jO (by simp[Bt];omega)])
end Px
namespace Px
open Go
def yj:List Bool->Nat->Nat
 | [],v=>v
 |b::bs,v=>yj bs (2*v+if b then 1 else 0)
theorem nfp(bs:List Bool)(b:Bool)(v:Nat):yj (bs++[b]) v=2*yj bs v+if b then 1 else 0:=by
 induction bs generalizing v with
 |nil=>rfl
 |cons x bs ih=>exact ih _
theorem nhn(a m:Int)(bs:List Bool):∀(c:Int) (v:Nat),c%m=a^v%m->nV a m bs c%m=a^yj bs v%m:=by
 induction bs with
 |nil=>intro c v h;exact h
 |cons x bs ih=>
  intro c v h;simp only[nV,yj];apply ih;have hs:c*c%m=a^(2*v)%m:=by rw[Int.mul_emod,h,<-Int.mul_emod,<-Int.pow_add];congr 2;omega
  cases x with
  |false=>simp only[Bool.false_eq_true,if_false,Int.emod_emod,Nat.add_zero];exact hs
  |true=>simp only[if_true,Int.emod_emod];rw[hs,Int.mul_emod,Int.emod_emod,<-Int.mul_emod,<-Int.pow_succ]
theorem n5i(n:Nat):∀j,j<=cY n->yj ((th n).take j) 0=n/2^(cY n-j)
 |0,_=>by
  simp only[List.take_zero,yj,Nat.sub_zero];have hlt:n<2^cY n:=by
   by_cases h:n=0
   ·subst h;exact Nat.pow_pos zB
   exact(n9h n h).2.1
  exact(Nat.div_eq_of_lt hlt).symm
 |j+1,h=>by
  rw[nef n j aa,nfp,n5i n j aa];have e:cY n-j=(cY n-1-j)+1:=by omega
  have e2:cY n-(j+1)=cY n-1-j:=by omega
  rw[e,e2,Nat.pow_succ,<-Nat.div_div_eq_div_mul,Nat.testBit_eq_decide_div_mod_eq];by_cases hb:n/2^(cY n-1-j)%2=1
  ·simp only[hb,decide_true,if_true];omega
  simp only[hb,decide_false,Bool.false_eq_true,if_false];omega
theorem nmj(a k m:Int)(h0:0<=k)(hm:1<m):uf a k m=a^k.toNat%m:=by
 have h1:=nhn a m (th k.toNat) 1 0 zJ;have h2:=n5i k.toNat (cY k.toNat) (ak _);rw[jO (by rw[n7d];exact ak _)]at h2;simp only[Nat.sub_self,Nat.pow_zero,Nat.div_one]at h2;rw[h2]at h1;rw[<-h1];have hb:=noj a k m hm;exact(Int.emod_eq_of_lt hb.1 hb.2).symm
end Px
namespace Px
open Go Go.RowKit Go.Proofs Go.Proofs.Tryz
def oJ (a:Int):Bool:=decide (a<0)||decide (2305843009213688669<=a)
theorem nUi{a:Int}:oJ a=false↔0<=a/\a<2305843009213688669:=by simp[oJ]
theorem nLk{a:Int}:oJ a=true↔¬(0<=a/\a<2305843009213688669):=by simp[oJ];omega
theorem nTj(a:Int)(w:World):Calls prog 257 #[ab a] w (aM w (.bool (oJ a))):=by
 refine eN func257 ntmps257 ?_;refine B 10 ?_;refine ni (t:=5) rfl (λar=>?_) (λar=>?_)
 ·exact znh
 exact znh
def yk (p:Int->Bool) (xs:List Int):Int:=match xs.findIdx? p with|some i=>(i:Int)|none=> -1
theorem Dj(p:Int->Bool)(xs:List Int)(j:Nat)(hj:j<xs.length)(h:∀x∈xs.take j,p x=false)(hp:p xs[j]=true):yk p xs=(j:Int):=by grind [yk,List.findIdx?_eq_some_iff_getElem,List.mem_take_iff_getElem]
theorem nop(p:Int->Bool)(xs:List Int)(h:∀x∈xs,p x=false):yk p xs= -1:=by grind [yk]
theorem Dl(p:Int->Bool)(xs:List Int):decide (0<=yk p xs)=xs.any p:=by grind [yk]
def ints (xs:List Int):Array Value:=(xs.map λx=>ab x).toArray
theorem ints_at(xs:List Int)(j:Nat)(h:j<xs.length):(ints xs)[j]? =some (ab xs[j]):=by simp[ints,h]
theorem nQk(p:Int->Bool)(f:Nat)(az:eg prog f)(hp:∀x W,Calls prog f #[ab x] W (aM W (.bool (p x))))(xs:List Int)(b T n c:Nat)(fr:Nat×Nat)(hn:xs.length=n)(hn2:n<9223372036854775807)(w:World)(hb0:w.heap[b]? =some (.cells (ints xs) T fr)):Calls prog 275 #[.slice (aj b) n c,.func (.func f) #[] #[]] w (aM w (ab (yk p xs))):=by
 have xm:¬Gh.no.M b:=λh=>h;refine eN func275 ntmps275 ?_;refine B 14 ?_;refine CJ.lp (α:=Nat) [0,1,7] (λj=>[(8,ab (j:Int))]) (λj=>[]) (λj=>j<=n/\∀x∈xs.take j,p x=false) (λj=>n-j) 0 ⟨cV _,by simp⟩ ?_;rintro j ⟨hj,hjp⟩;refine B 6 ?_;refine aG ?_ ?_
 ·intro ar;refine B 16 ?_;refine rv rfl rfl rfl (av (v:=ab (xs[j]'aa)) isAgg3 rfl A0 hb0 xm trivial (by rw[<-ints_at xs j aa];congr 1;omega)) ?_;refine Bu (f:=f) (cap:=[]) rfl az rfl rfl rfl (λW hS=>hp _ W) ?_;refine B 2 ?_;refine aG ?_ ?_
  ·intro aN;refine B 12 ?_;refine aF results275 rfl A0 ?_;exact congrArg ab (Dj p xs j aa hjp aN).symm
  intro aN;refine B 7 ?_;refine ag (j+1) ⟨by omega,by intro x hx;rw[Ni aa]at hx;simp only[bA,kf]at hx;rcases hx with hx|rfl;exact hjp x hx;exact aN⟩
 intro ar;refine B 11 ?_;refine aF results275 rfl A0 ?_;exact congrArg ab (nop p xs (by rw[<-jO (l:=xs) (i:=j) aa];exact hjp)).symm
theorem nTh(p:Int->Bool)(f:Nat)(az:eg prog f)(hp:∀x W,Calls prog f #[ab x] W (aM W (.bool (p x))))(xs:List Int)(b T n c:Nat)(fr:Nat×Nat)(hn:xs.length=n)(hn2:n<9223372036854775807)(w:World)(hb0:w.heap[b]? =some (.cells (ints xs) T fr)):Calls prog 223 #[.slice (aj b) n c,.func (.func f) #[] #[]] w (aM w (.bool (xs.any p))):=by
 refine eN func223 ntmps223 ?_;refine B 9 ?_;refine call call275 rfl rfl rfl (λW hS=>nQk p f az hp xs b T n c fr hn hn2 W (hS.old A0 hb0 zL trivial)) ?_;refine B 5 ?_;refine aF results223 rfl A0 ?_;exact vb (Dl p xs)
theorem n6d(xs:List Int)(b T n c:Nat)(fr:Nat×Nat)(hn:xs.length=n)(hn2:n<9223372036854775807)(w:World)(hb0:w.heap[b]? =some (.cells (ints xs) T fr)):Calls prog 194 #[.slice (aj b) n c] w (aM w (.bool (xs.any oJ))):=by
 refine eN func194 ntmps194 ?_;refine B 8 ?_;refine call call223 rfl rfl rfl (λW hS=>nTh oJ 257 call257 (λx W=>nTj x W) xs b T n c fr hn hn2 W (hS.old A0 hb0 zL trivial)) ?_;refine B 4 ?_;refine aF results194 rfl A0 ?_;rfl
theorem n9k(a b:Int)(ha:0<=a)(fX:a<2305843009213688669)(hb:0<=b)(hb1:b<2305843009213688669)(w:World):Calls prog 274 #[ab a,ab b] w (aM w (ab (a*b%2305843009213688669))):=by
 obtain⟨m1,m2,m3,m4,m5⟩:=nui ha fX hb hb1 zB;have m6:=Int.emod_nonneg (a*b) (b:=2305843009213688669) zB;have m7:=Int.emod_lt_of_pos (a*b) (b:=2305843009213688669) zB;refine eN func274 ntmps274 ?_;refine B 11 ?_;refine zff ?_;refine B 10 ?_;refine rq (ab (a*b%2305843009213688669)) (yl underlying233 underlying3 rfl (by rw[m5];omega) (by rw[m5];omega)) (by rw[m5]) ?_;refine B 4 ?_;refine aF results274 rfl A0 ?_;rfl
theorem nOm(a:Int)(w:World):Calls prog 123 #[ab a] w (aM w (ab (if oJ a then 1 else 0))):=by
 refine eN func123 ntmps123 ?_;refine B 9 ?_;refine Ij ?_;refine yV ?_;intro b4 w4 hb4 Cu VX ja jb;refine call call194 rfl rfl rfl (λW hS=>n6d [a] _ _ _ _ _ rfl zJ W (hS.old A0 hb4 Cu trivial)) ?_;refine B 2 ?_;refine aG ?_ ?_
 ·intro ar;refine B 7 ?_;refine aF results123 rfl A1 ?_;refine congrArg ab ?_;simp_all
 intro ar;refine B 8 ?_;refine aF results123 rfl A1 ?_;refine congrArg ab ?_;simp_all
abbrev qo (a:Int):Prop:=0<=a/\a<2305843009213688669
def pR (a b:Int):Int×Int:=if qo a/\qo b then(a*b%2305843009213688669,0)else(0,1)
def qL (a b:Int):Int×Int:=if qo a/\qo b then((a+b)%2305843009213688669,0)else(0,1)
theorem VY{a b:Int}(h:[a,b].any oJ=false):qo a/\qo b:=by grind [nUi]
theorem Nn{a b:Int}(h:[a,b].any oJ=true):¬(qo a/\qo b):=by grind [nLk]
theorem nFp(a b:Int)(w:World):Calls prog 215 #[ab a,ab b] w (aM w (qJ (pR a b))):=by
 refine eN func215 ntmps215 ?_;refine B 11 ?_;refine Ij ?_;refine yV ?_;intro b8 w8 hb8 hm8 VZ Ik Il;refine zSe ?_;refine B 2 ?_;refine aG ?_ ?_
 ·intro ar;refine B 1 ?_;have hg:=Nn ar;refine B 7 ?_;exact zlh
 intro ar;refine B 3 ?_;have hg:=VY ar;refine B 3 ?_;refine call call274 rfl rfl rfl (λW hS=>n9k _ _ aa aa aa aa W) ?_;refine B 5 ?_;exact zlh
theorem nGp(a b:Int)(w:World):Calls prog 216 #[ab a,ab b] w (aM w (qJ (qL a b))):=by
 refine eN func216 ntmps216 ?_;refine B 11 ?_;refine Ij ?_;refine yV ?_;intro b8 w8 hb8 hm8 VZ Ik Il;refine zSe ?_;refine B 2 ?_;refine aG ?_ ?_
 ·intro ar;refine B 1 ?_;have hg:=Nn ar;refine B 7 ?_;exact zkh
 intro ar;refine B 3 ?_;have hg:=VY ar;refine B 4 ?_;refine rv rfl rfl rfl (Dd rfl rfl aa aa) ?_;refine B 5 ?_;exact zkh

abbrev Dm (x:Int):Prop:=1<=x/\x<2305843009213688669
theorem Bv:dY 4:=by decide +kernel
def Jn (x:Int):Int×Int:=if Dm x then(uf 4 x 4611686018427377339,0)else(0,50)
theorem Np{x:Int}(h:Dm x):gExp 4 x=(uf 4 x 4611686018427377339,0):=by unfold gExp;rw[if_pos Bv,if_pos aa]
theorem nMi(a:Int)(w:World):Calls prog 132 #[ab a] w (aM w (.bool (decide (Dm a)))):=by
 refine eN func132 ntmps132 ?_;refine B 10 ?_;refine ni (t:=5) rfl (λar=>?_) (λar=>?_)
 ·replace ar:=ya ar;refine B 7 ?_;refine aF results132 rfl A0 ?_;refine vb (Dp.2 ?_)
  (try simp only[decide_eq_true_eq,Bool.false_eq_true,false_iff,true_iff])
  first|omega|(intro h;omega)
 replace ar:=ya ar;refine B 7 ?_;refine aF results132 rfl A0 ?_;refine vb (Dp.2 ?_)
 (try simp only[decide_eq_true_eq,Bool.false_eq_true,false_iff,true_iff])
 first|omega|(intro h;omega)
theorem nKh(a:Int)(w:World):Calls prog 133 #[ab a] w (aM w (ab (gExp 4 a).1)):=by
 refine eN func133 ntmps133 ?_;refine B 8 ?_;refine call call124 rfl rfl rfl (λW hS=>nFi _ W) ?_;refine B 14 ?_;refine aF results133 rfl A0 ?_;rfl
theorem njn(a:Int)(w:World):Calls prog 79 #[ab a] w (aM w (qJ (Jn a))):=by
 refine eN func79 ntmps79 ?_;refine B 10 ?_;refine call call132 rfl rfl rfl (λW hS=>nMi _ W) ?_;refine B 3 ?_;refine aG ?_ ?_
 ·intro ar;refine B 8 ?_;exact zYg
 intro ar;refine B 5 ?_;refine call call133 rfl rfl rfl (λW hS=>nKh _ W) ?_;refine B 5 ?_;exact zYg
theorem V4(n:Nat)(h1:1<=n)(h2:n<=31):(IntKind.u64.wrap (-(n:Int)))%32=((32-n:Nat):Int):=by rw[nC];omega
theorem Po(x:BitVec 32)(n:Nat)(h1:1<=n)(h2:n<=31)(w:World):Calls prog 285 #[u32 x,ab (-(n:Int))] w (aM w (u32 (Ao x n))):=by
 refine eN func285 ntmps285 ?_;refine B 8 ?_;refine rv rfl rfl rfl (kq underlying3 underlying222 rfl) ?_;refine rq (.int .u64 ((32-n:Nat):Int)) (qG 5 32 zB rfl rfl rfl rfl (by rw[nC];omega) (by rw[nC];omega)) (vu (V4 n h1 h2)) ?_;refine B 7 ?_;refine rv rfl rfl rfl (Dq (32-n) aa rfl rfl rfl) ?_;refine B 2 ?_;refine ax (.int .u64 (n:Int)) ?_;refine rv rfl rfl rfl (ym n aa rfl rfl rfl) ?_;refine rv rfl rfl rfl (Aq rfl rfl) ?_;refine B 4 ?_;refine aF results285 rfl A0 ?_;exact congrArg u32 (BitVec.or_comm _ _)
theorem nkf(x:BitVec 32)(a b c:Nat)(ha:1<=a)(fX:a<=31)(hb:1<=b)(hb1:b<=31)(hc:1<=c)(ar:c<=31)(w:World):Calls prog 286 #[u32 x,ab (a:Int),ab (b:Int),ab (c:Int)] w (aM w (u32 (Ao x a^^^Ao x b^^^Ao x c))):=by
 refine eN func286 ntmps286 ?_;refine B 9 ?_;refine rv rfl rfl rfl (yn rfl aa aa) ?_;refine call call285 rfl rfl rfl (λW hS=>Po _ a aa aa W) ?_;refine B 2 ?_;refine rv rfl rfl rfl (yn rfl aa aa) ?_;refine call call285 rfl rfl rfl (λW hS=>Po _ b aa aa W) ?_;refine rv rfl rfl rfl (kr rfl rfl) ?_;refine B 2 ?_;refine rv rfl rfl rfl (yn rfl aa aa) ?_;refine call call285 rfl rfl rfl (λW hS=>Po _ c aa aa W) ?_;refine rv rfl rfl rfl (kr rfl rfl) ?_;refine B 4 ?_;refine aF results286 rfl A0 ?_;rfl
def Ar (m:Nat->Int):Nat->BitVec 32
 |0=>0
 |n+1=>Ar m n<<<8|||BitVec.ofInt 32 (m n)
theorem Jo(m:Nat->Int):Ar m 4=Ug m 0:=by grind [Ar,Ug]
theorem nTm(m:Nat->Int)(b off n c t:Nat)(fr:Nat×Nat)(cs:Array Value)(hn:4<=n)(hc:n<=c)(w:World)(hb0:w.heap[b]? =some (.cells cs t fr))(hm:∀i,i<4->cs[off+i]? =some (.int .u8 (m i))):Calls prog 284 #[.slice (some ⟨b,off,none⟩) n c] w (aM w (u32 (Ug m 0))):=by
 have xm:¬Gh.no.M b:=λh=>h;refine eN func284 ntmps284 ?_;refine B 9 ?_;refine rv rfl rfl rfl (fk (h:=4) underlying106 sizeOf5 rfl ⟨_,_,rfl,rfl⟩ aa) ?_;refine B 5 ?_;refine CJ.lp (α:=Nat) [6,7] (λj=>[(2,u32 (Ar m j)),(8,ab (j:Int))]) (λj=>[]) (λj=>j<=4) (λj=>4-j) 0 zB ?_;rintro j hj;refine B 6 ?_;refine aG ?_ ?_
 ·intro ar;refine B 7 ?_;refine rv rfl rfl rfl (av (v:=.int .u8 (m j)) isAgg5 rfl A0 hb0 xm trivial (by rw[<-hm j aa];exact congrArg (λi=>cs[i]?) aa)) ?_;refine B 5 ?_;refine rv rfl rfl rfl (Dq 8 zB rfl rfl rfl) ?_;refine B 1 ?_;refine rv rfl rfl rfl (Pp underlying5 underlying303 rfl) ?_;refine rv rfl rfl rfl (Aq rfl rfl) ?_;refine B 8 ?_;exact Jm
 intro ar;refine B 12 ?_;refine aF results284 rfl A0 ?_;have e:j=4:=by omega
 subst e;exact congrArg u32 (Jo m)
def uh (cs:Array Value) (off len:Nat) (n:Nat):Nat->Array Value
 |0=>cs
 |i+1=>setCells (uh cs off len n i) (off+(len-1-i)) [.int .u8 ((n/2^(8*i)%256:Nat):Int)]
theorem nzp(cs:Array Value)(off len n:Nat):∀i,(uh cs off len n i).size=cs.size:=
 by intro x;induction x<;>(intros;grind [uh,n5d])
theorem V5(n i:Nat)(k:Int)(hk:k=((8*i:Nat):Int))(hi:i<=7):(n:Int).fdiv (2^(min (Int.toNat k) IntKind.u64.bits))%256=((n/2^(8*i)%256:Nat):Int):=by
 rw[Nk n (8*i) k hk aa];omega
theorem nbe(n:Nat)(b off len cap t:Nat)(cs:Array Value)(hlen:len<=8)(kP:off+len<=cs.size)(w:World)(hb:w.heap[b]? =some (oC cs t)):Calls prog 234 #[.slice (some ⟨b,off,none⟩) len cap,.int .u64 (n:Int)] w (Jl w (.tuple #[]) b (oC (uh cs off len n len) t)):=by
 refine nB Gh.no [(b,_)] (vs:=[_,_]) func234 rfl ntmps234 rfl (n5l hb) ?_;refine B 8 ?_;refine CJ.lp (α:=Nat) [0,1,6] (λj=>[(7,ab (j:Int))]) (λj=>[(b,oC (uh cs off len n j) t)]) (λj=>j<=len) (λj=>len-j) 0 (cV _) ?_;rintro j hj;refine B 6 ?_;refine aG ?_ ?_
 ·intro ar;refine B 20 ?_;refine rv rfl rfl rfl (lJ rfl rfl aa) ?_;refine rq (.int .u8 ((n/2^(8*j)%256:Nat):Int)) (oK underlying233 underlying5 rfl) (congrArg (Value.int .u8) (V5 n j _ aa aa)) ?_;refine rq (ptr b (off+(len-1-j))) (dd underlying106 sizeOf5 rfl rfl aa aa) (congrArg (λk=>ptr b (off+k)) aa) ?_;refine jP (i:=0) rfl sizeOf5 rfl rfl rfl rfl (by rw[nzp];omega) rfl ?_;refine B 7 ?_;exact Jm
 intro ar;refine B 4 ?_;have e:j=len:=by omega
 subst e;refine bM (.inr rfl) results234 bj (λW hS=>⟨rfl,(hS.links w A0).mono λk _ hk=>?_,hS.own _ A0⟩);simpa[Gh.no]using hk
theorem Nq(n:Nat)(f:Nat->Value)(i k:Nat)(h:k=i)(hi:i<n):(cf n f)[k]? =some (f i):=by subst h;exact Nr n f k hi
theorem S8.cells_ld(s:S8)(i k:Nat)(h:k=i)(hi:i<8):s.cells[k]? =some (u32 (s.at i)):=by subst h;exact s.cells_at k hi
theorem Dt(m:Nat->Int)(j:Nat)(v:BitVec 32)(hv:v=if j<16 then Ug m (4*j)else fY m j (j-16)+s0 (fY m j (j-15))+fY m j (j-7)+s1 (fY m j (j-2))):setCells (cf 64 (λi=>u32 (fY m j i))) j (u32 v).cells.toList=cf 64 (λi=>u32 (fY m (j+1) i)):=by
 show setCells (cf 64 (λi=>u32 (fY m j i))) j [u32 v]=_;rw[V6];congr 1;funext i;simp only[fY,Jp];split<;>simp_all
def su (s v:S8) (j:Nat):Array Value:=cf 8 (λk=>u32 (if k<j then s.at k+v.at k else s.at k))
theorem nAp(s v:S8)(j:Nat):setCells (su s v j) j (u32 (s.at j+v.at j)).cells.toList=su s v (j+1):=by
 show setCells (cf 8 _) j [u32 (s.at j+v.at j)]=_;rw[V6];unfold su;congr 1;all_goals grind [Jp]
theorem Pq(s v:S8):su s v 8=(s.add v).cells:=rfl
theorem Jq(s v:S8)(j k:Nat)(h:k=j)(hj:j<8):(su s v j)[k]? =some (u32 (s.at j)):=by
 rw[su,Nq 8 _ j k h hj];simp
theorem n8d(s:S8)(m:Nat->Int)(b bb off n c t:Nat)(fr qp:Nat×Nat)(t3:Nat)(cs:Array Value)(hn:64<=n)(hc:n<=c)(w:World)(hb:w.heap[b]? =some (oC s.cells 374))(As:w.heap[bb]? =some (.cells cs t fr))(hm:∀i,i<64->cs[off+i]? =some (.int .u8 (m i)))(hne:bb≠b)(hg:w.heap[5]? =some (.cells (cf 64 (λi=>u32 (kk i))) t3 qp))(V7:b≠5):Calls prog 233 #[ptr b 0,.slice (some ⟨bb,off,none⟩) n c] w (Jl w (.tuple #[]) b (oC (s.comp m).cells 374)):=by
 have V8:=(aT.1 As).1;have jf:=(aT.1 hb).1;have Pr:=(aT.1 hg).1;refine nB Gh.no [(b,_)] (vs:=[_,_]) func233 rfl ntmps233 rfl (n5l hb) ?_;refine B 3 ?_;refine yW ?_;intro b4 ja jb;refine B 9 ?_;refine CJ.lp (α:=Nat) [0,1,4] (λj=>[(14,ab (j:Int))]) (λj=>[(b4,oC (cf 64 (λi=>u32 (fY m j i))) 426),(b,oC s.cells 374)]) (λj=>j<=16) (λj=>16-j) 0 zB ?_;rintro j hj;refine B 6 ?_;refine aG ?_ ?_
 ·intro ar;refine B 15 ?_;refine rv rfl rfl rfl (fM (l:=4*j) (h:=n) (off':=off+4*j) underlying106 sizeOf5 rfl ⟨_,_,rfl,by omega⟩ rfl aa aa zyc) ?_;refine call call284 rfl rfl rfl (λW hS=>nTm (λi=>m (4*j+i)) _ _ _ _ _ _ _ aa aa W (hS.old A0 As zL zA) (λi hi=>by rw[Nat.add_assoc];exact hm _ aa)) ?_;refine zVd ?_;refine B 7 ?_;refine PJ.reH (H':=[(b4,oC (cf 64 (λi=>u32 (fY m (j+1) i))) 426),(b,oC s.cells 374)]) (by rw[<-Dt m j (Ug (λi=>m (4*j+i)) 0) (by rw[if_pos aa];rfl)];rfl) ?_;exact Jm
 intro ar;refine B 12 ?_;have e:j=16:=by omega
 subst e;refine CJ.lp (α:=Nat) [0,4] (λj=>[(6,ab (j:Int))]) (λj=>[(b4,oC (cf 64 (λi=>u32 (fY m j i))) 426),(b,oC s.cells 374)]) (λj=>16<=j/\j<=64) (λj=>64-j) 16 zB ?_;rintro j ⟨Uh,hj⟩;refine B 7 ?_;refine aG ?_ ?_
 ·intro aN;refine B 5 ?_;refine eA 9 (pb:=by exact zU 3 (k:=by exact aU (X.v (bJ (v:=u32 (fY m j (j-15))) (i:=0) rfl isAgg303 rfl (Nq 64 (λi=>u32 (fY m j i)) (j-15) _ aa aa))) (zU 3 (k:=by exact aU (X.v (bJ (v:=u32 (fY m j (j-2))) (i:=0) rfl isAgg303 rfl (Nq 64 (λi=>u32 (fY m j i)) (j-2) _ aa aa))) zT)))) (k:=?_);refine B 3 ?_;refine eA 28 (pb:=by exact zU 4 (k:=by exact aU (X.v (bJ (v:=u32 (fY m j (j-16))) (i:=0) rfl isAgg303 rfl (Nq 64 (λi=>u32 (fY m j i)) (j-16) _ aa aa))) (zU 1 (k:=by exact aU (nf call285 rfl rfl (λW hS _=>Po _ 7 zB zB W) (λ_=>rfl)) (zU 1 (k:=by exact aU (nf call285 rfl rfl (λW hS _=>Po _ 18 zB zB W) (λ_=>rfl)) (aU (X.v (kr rfl rfl)) (zU 1 (k:=by exact aU (X.v (ym 3 zB rfl rfl rfl)) (aU (X.v (kr rfl rfl)) (aU (X.v (iN rfl rfl)) (zU 3 (k:=by exact aU (X.v (bJ (v:=u32 (fY m j (j-7))) (i:=0) rfl isAgg303 rfl (Nq 64 (λi=>u32 (fY m j i)) (j-7) _ aa aa))) (aU (X.v (iN rfl rfl)) (zU 1 (k:=by exact aU (nf call285 rfl rfl (λW hS _=>Po _ 17 zB zB W) (λ_=>rfl)) (zU 1 (k:=by exact aU (nf call285 rfl rfl (λW hS _=>Po _ 19 zB zB W) (λ_=>rfl)) (aU (X.v (kr rfl rfl)) (zU 1 (k:=by exact aU (X.v (ym 10 zB rfl rfl rfl)) (aU (X.v (kr rfl rfl)) (aU (X.v (iN rfl rfl)) (vO rfl)))))))))))))))))))))))) (k:=?_)
  refine zVd ?_;refine B 8 ?_;refine PJ.reH (H':=[(b4,oC (cf 64 (λi=>u32 (fY m (j+1) i))) 426),(b,oC s.cells 374)]) (by rw[<-Dt m j _ V9];rfl) ?_;exact Jm
 intro aN;refine B 11 ?_;refine yW ?_;intro b9 xn tk;refine B 10 ?_;have e:j=64:=by omega
 subst e;obtain⟨ws,hX⟩:∃ws,ws=fY m 64:=⟨_,rfl⟩;refine CJ.reH (H':=[(b9,oC s.cells 374),(b4,oC (cf 64 (λi=>u32 (ws i))) 426),(b,oC s.cells 374)]) (by rw[hX];rfl) ?_;refine CJ.lp (α:=Nat) [0,4,9] (λj=>[(69,ab (j:Int))]) (λj=>[(b9,oC (S8.run ws s j).cells 374),(b4,oC (cf 64 (λi=>u32 (ws i))) 426),(b,oC s.cells 374)]) (λj=>j<=64) (λj=>64-j) 0 zB ?_;rintro j hj;dsimp only;generalize hv:S8.run ws s j=v;refine B 6 ?_;refine aG ?_ ?_
 ·intro dc;refine B 11 ?_;refine eA 25 (pb:=by exact zU 4 (k:=by exact aU (nf call286 rfl rfl (λW hS _=>nkf _ 6 11 25 zB zB zB zB zB zB W) (λ_=>rfl)) (aU (X.v (iN rfl rfl)) (zU 8 (k:=by exact aU (X.v (kr rfl rfl)) (aU (X.v (yo rfl rfl)) (aU (X.v (kr rfl rfl)) (aU (X.v (iN rfl rfl)) (zU 2 (k:=by exact aU (X.v (av (v:=u32 (kk j)) isAgg303 rfl A0 hg zL zA (Nq 64 (λi=>u32 (kk i)) j _ aa aa))) (aU (X.v (iN rfl rfl)) (zU 2 (k:=by exact aU (X.v (bJ (v:=u32 (ws j)) (i:=1) rfl isAgg303 rfl (Nq 64 (λi=>u32 (ws i)) j _ aa aa))) (vO rfl)))))))))))))) (k:=?_);refine rv rfl rfl rfl (iN rfl rfl) ?_;refine B 4 ?_;refine eA 17 (pb:=by exact zU 2 (k:=by exact aU (nf call286 rfl rfl (λW hS _=>nkf _ 2 13 22 zB zB zB zB zB zB W) (λ_=>rfl)) (zU 4 (k:=by exact aU (X.v (yo rfl rfl)) (zU 6 (k:=by exact aU (X.v (Aq rfl rfl)) (aU (X.v (yo rfl rfl)) (aU (X.v (Aq rfl rfl)) (vO rfl))))))))) (k:=?_);refine rv rfl rfl rfl (iN rfl rfl) ?_;refine B 4 ?_;refine eA 2 (pb:=by exact aU (X.v (Du (l:=1) underlying374 sizeOf303 rfl ⟨_,_,rfl,rfl⟩ rfl aa aa V9)) (aU (X.v (fp (h:=7) underlying374 sizeOf303 rfl ⟨_,_,rfl,rfl⟩ aa)) (vO rfl))) (k:=?_);refine Ui (i:=0) (n:=7) rfl underlying430 sizeOf303 rfl rfl rfl rfl (λ_=>rfl) zB (Rd.own (i:=0) rfl (dO rfl) rfl) (dO rfl) rfl ?_
  refine B 3 ?_;refine CJ.reH (H':=[(b9,oC #[u32 v.a,u32 v.a,u32 v.b,u32 v.c,u32 v.d,u32 v.e,u32 v.f,u32 v.g] 374),(b4,oC (cf 64 (λi=>u32 (ws i))) 426),(b,oC s.cells 374)]) rfl ?_;refine B 4 ?_;refine zJf ?_;refine B 5 ?_;refine zJf ?_;refine B 7 ?_;refine PJ.reH (H':=[(b9,oC (S8.run ws s (j+1)).cells 374),(b4,oC (cf 64 (λi=>u32 (ws i))) 426),(b,oC s.cells 374)]) (by simp only[S8.run,hv,S8.step,S8.P,S8.Q,<-Jr,<-Js];rfl) ?_;exact Jm
 intro dc;refine B 11 ?_;have e:j=64:=by omega
 subst e;refine CJ.lp (α:=Nat) [0,9] (λj=>[(129,ab (j:Int))]) (λj=>[(b9,oC v.cells 374),(b4,oC (cf 64 (λi=>u32 (ws i))) 426),(b,oC (su s v j) 374)]) (λj=>j<=8) (λj=>8-j) 0 zB ?_;rintro j hj;refine B 6 ?_;refine aG ?_ ?_
 ·intro jo;refine B 10 ?_;refine eA 10 (pb:=by exact zU 4 (k:=by exact aU (X.v (bJ (v:=u32 (s.at j)) (i:=2) rfl isAgg303 rfl (Jq s v j _ aa aa))) (zU 2 (k:=by exact aU (X.v (bJ (v:=u32 (v.at j)) (i:=0) rfl isAgg303 rfl (S8.cells_ld _ j _ aa aa))) (aU (X.v (iN rfl rfl)) zT))))) (k:=?_);refine rq (ptr b j) (ui underlying374 sizeOf303 rfl rfl aa aa) (congrArg (ptr b) aa) ?_;refine jP (i:=2) rfl sizeOf303 rfl rfl rfl rfl (by rw[su,Dw];omega) rfl ?_;refine B 7 ?_;refine PJ.reH (H':=[(b9,oC v.cells 374),(b4,oC (cf 64 (λi=>u32 (ws i))) 426),(b,oC (su s v (j+1)) 374)]) (by rw[<-nAp];rfl) ?_;exact Jm
 intro jo;refine B 4 ?_;have e:j=8:=by omega
 subst e;rw[show(s.comp m).cells=su s v 8 from by rw[Pq,S8.comp,<-hX,hv]];refine bM (.inr rfl) results233 bj (λW hS=>⟨rfl,(hS.links w A0).mono λk hk hx=>?_,hS.own _ A2⟩);simp only[Gh.no,dt,eL,bX,dy,or_false,false_or]at hx;omega
theorem Uj:prog.info? 5=some Tryz.t5:=by kernel_rfl
theorem Dx(N:Nat)(g:Nat->Value):∀(news:List Value) (f:Nat->Value) (off:Nat),(∀i,i<news.length->news[i]? =some (g (off+i)))->setCells (cf N f) off news=cf N (λi=>if off<=i/\i<off+news.length then g i else f i)
 | [],f,off,_=>by
  show cf N f=_;apply Uk;intro i _;rw[if_neg (by simp only[fb];omega)]
 |v::vs,f,off,h=>by
  have h0:=h 0 zJ;simp only[Jt,vP,Nat.add_zero]at h0;show setCells (setCells (cf N f) off [v]) (off+1) vs=_;rw[V6,Dx N g vs _ (off+1) (λi hi=>by
   have:=h (i+1) oI;simp only[Im]at this;rw[this];congr 2;omega)]
  apply Uk;intro i _;simp only[dC,Jp];by_cases h1:i=off
  ·subst h1;rw[if_neg aa,if_pos rfl,if_pos aa,h0]
  by_cases h2:off+1<=i/\i<off+1+vs.length
  ·rw[if_pos h2,if_pos aa]
  rw[if_neg h2,if_neg h1,if_neg aa]
theorem nNj(N:Nat)(f:Nat->Value)(off len n:Nat):∀k,k<=len->uh (cf N f) off len n k=cf N (λi=>if off+(len-k)<=i/\i<off+len then .int .u8 ((n/2^(8*(off+len-1-i))%256:Nat):Int)else f i)
 |0,_=>by
  show cf N f=_;apply Uk;intro i _;rw[if_neg aa]
 |k+1,hk=>by
  rw[uh,nNj N f off len n k aa,V6];apply Uk;intro i _;simp only[Jp];by_cases h1:i=off+(len-1-k)
  ·rw[if_pos h1,if_pos aa,show off+len-1-i=k by omega]
  rw[if_neg h1];by_cases h2:off+(len-k)<=i/\i<off+len
  ·rw[if_pos h2,if_pos aa]
  rw[if_neg h2,if_neg aa]
theorem Wb(f:Nat->Int):cf 32 (λk=>.int .u8 (f k))=dg f:=rfl
theorem non{cs:Array Value}{o r:Nat}{m:Nat->Int}(h:o+r<=cs.size)(hm:∀i,i<r->cs[o+i]? =some (.int .u8 (m i))):∀i,i<((cs.toList.drop o).take (r*1)).length->((cs.toList.drop o).take (r*1))[i]? =some (.int .u8 (m i)):=by grind
theorem nbi{cs:Array Value}{o r:Nat}(h:o+r<=cs.size):((cs.toList.drop o).take (r*1)).length=r:=by simp;omega
theorem n1n{m:Nat->Int}:∀(l:List Value),(∀i,i<l.length->l[i]? =some (.int .u8 (m i)))->aV l=true
 | [],_=>rfl
 |v::l,h=>by
  have h0:=h 0 zJ;simp at h0;subst h0;simp only[aV,yp,Bool.true_and];exact n1n (m:=λi=>m (i+1)) l λi hi=>by have:=h (i+1) oI;simpa using this
def qM (n:Nat) (m:Nat->Int) (j N i:Nat):Value:=if(N-8)+(8-8)<=i/\i<(N-8)+8 then .int .u8 ((8*n/2^(8*((N-8)+8-1-i))%256:Nat):Int)else Jp (λi=>if 0<=i/\i<0+(n-64*j)then .int .u8 (m (64*j+i))else Cv) (n-64*j) (.int .u8 128) i
theorem nsm(n:Nat)(m:Nat->Int)(j N:Nat):uh (setCells (cf 128 (λi=>if 0<=i/\i<0+(n-64*j)then .int .u8 (m (64*j+i))else Cv)) (n-64*j) [.int .u8 128]) (N-8) 8 (8*n) 8=cf 128 (qM n m j N):=by
 rw[V6,nNj 128 _ _ 8 _ 8 (ak _)];rfl
theorem nql(n:Nat)(m:Nat->Int)(j N i:Nat)(hj:64*j<=n)(hN:64*(gJ n-j)=N)(hr:n-64*j<64)(hi:i<N):qM n m j N i= .int .u8 (yq n m (64*j+i)):=by grind [gJ,qM,yq,Jp]
def ku (s:S8) (i:Nat):Array Value:=cf 32 (λk=>.int .u8 (if k<4*i then Dy s k else 0))
theorem nEk(s:S8)(i:Nat)(hi:i<8):uh (ku s i) (4*i) 4 (s.at i).toNat 4=ku s (i+1):=by
 unfold ku;rw[nNj 32 _ (4*i) 4 _ 4 (ak _)];apply Uk;all_goals grind [Dy]
theorem Ps(s:S8):ku s 8=dg (Dy s):=by grind [Wb,ku,Uk]
theorem Ju(n:Nat)(m:Nat->Int)(i:Nat)(h:i<n):yq n m i=m i:=by unfold yq;rw[if_pos h]
theorem nXf(n:Nat)(m:Nat->Int)(bb off c t t2 t3:Nat)(fr xp qp:Nat×Nat)(cs:Array Value)(hc:n<=c)(hn:n<1152921504606846976)(w:World)(As:w.heap[bb]? =some (.cells cs t fr))(mh:off+n<=cs.size)(hm:∀i,i<n->cs[off+i]? =some (.int .u8 (m i)))(hg2:w.heap[3]? =some (.cells S8.init.cells t2 xp))(hg:w.heap[5]? =some (.cells (cf 64 (λi=>u32 (kk i))) t3 qp)):Calls prog 164 #[.slice (some ⟨bb,off,none⟩) n c] w (aM w (.agg (dg (vo n m)))):=by
 have V8:=(aT.1 As).1;have afi:=(aT.1 hg2).1;have Pr:=(aT.1 hg).1;refine eN func164 ntmps164 ?_;refine B 3 ?_;refine yW ?_;intro b2 dx dq;refine B 6 ?_;refine yW ?_;intro b3 ez eP;refine B 5 ?_;refine Wg ?_;refine B 11 ?_;refine CJ.loop (α:=Nat×Nat) (λp=>[(0,.slice (some ⟨bb,off,none⟩) n c),(2,ptr b2 0),(3,ptr b3 0),(4,.func (.func 233) #[ptr b3 0] #[]),(5,.slice (some ⟨bb,p.2,none⟩) (n-64*p.1) (c-64*p.1))]) (λp=>[(b3,oC (sw n m p.1).cells 374),(b2,oC (tr []).toArray 33)]) (λp=>[w]) (λp=>Gh.no) (λp=>64*p.1<=n/\(64*p.1<c->p.2=off+64*p.1)/\p.2<=off+64*p.1) (λp=>n-64*p.1) (0,off) zW zR rfl rfl zJ ?_;rintro⟨j,o⟩ ⟨hj,ho,jq⟩;dsimp only at hj ho jq ⊢;refine B 8 ?_;refine aG ?_ ?_
 ·intro ar;refine zof ?_;refine VW (f:=233) (i:=0) (first:=[ptr b3 0]) (cap:=[]) rfl rfl call233 rfl rfl rfl (λW hS hW=>n8d (sw n m j) (λi=>yq n m (64*j+i)) b3 bb o 64 (c-64*j) t fr qp t3 cs aa aa W hW (hS.old A0 As zL zA) (λi hi=>by rw[Ju n m _ aa,<-hm _ aa];exact congrArg (λk=>cs[k]?) (by have:=ho aa;omega)) aa (hS.old A0 hg zL zA) aa) ?_;refine B 5 ?_;refine rv rfl rfl rfl (fM (l:=64) (h:=n-64*j) underlying106 sizeOf5 rfl ⟨_,_,rfl,rfl⟩ rfl aa aa rfl) ?_;refine B 2 ?_;refine PJ.again (j+1,if c-64*j=64 then o else o+64*1) (by dsimp only;split<;>omega) zW ⟨rfl,rfl,rfl,rfl,by rw[show n-64*(j+1)=n-64*j-64 by omega,show c-64*(j+1)=c-64*j-64 by omega];rfl,trivial⟩ rfl rfl zJ
 intro ar;refine B 7 ?_;refine Wh (ln:=64) (cp:=128) underlying106 Uj rfl rfl rfl rfl rfl rfl rfl aa zB aa ?_;refine yW ?_;intro rT Jv Wj;refine B 4 ?_;have hmr:∀i,i<n-64*j->cs[o+i]? =some (.int .u8 (m (64*j+i))):=λi hi=>by rw[<-hm _ aa];exact congrArg (λk=>cs[k]?) (by have:=ho aa;omega)
 refine B 3 ?_;refine Ui (i:=0) (n:=n-64*j) rfl underlying106 sizeOf5 rfl rfl rfl rfl (λ_=>rfl) aa (Rd.old A0 As zL zA aa rfl) (by rw[nbi aa,Dw];omega) (n1n _ (non (m:=λi=>m (64*j+i)) aa hmr)) ?_;refine B 3 ?_;refine CJ.reH (H':=[(rT,oC (cf 128 (λi=>if 0<=i/\i<0+(n-64*j)then .int .u8 (m (64*j+i))else Cv)) 5),(b3,oC (sw n m j).cells 374),(b2,oC (tr []).toArray 33)]) (by rw[<-nbi (cs:=cs) (o:=o) (r:=n-64*j) aa,<-Dx 128 (λi=>.int .u8 (m (64*j+i))) _ _ 0 (by intro i hi;rw[lE];exact non (m:=λi=>m (64*j+i)) aa hmr i hi),nbi aa];rfl) ?_;refine B 4 ?_;refine rq (ptr rT (n-64*j)) (dd underlying106 sizeOf5 rfl rfl aa aa) (congrArg (ptr rT) aa) ?_;refine jP (i:=0) rfl sizeOf5 rfl rfl rfl rfl (by rw[Dw];omega) rfl ?_;refine B 10 ?_;refine aG ?_ ?_
 ·intro aN;refine B 2 ?_;refine rv rfl rfl rfl (fk (h:=128) underlying106 sizeOf5 rfl ⟨_,_,rfl,rfl⟩ aa) ?_;refine B 4 ?_;obtain⟨N,hN,hNN⟩:∃N,N=128/\64*(gJ n-j)=N:=⟨128,rfl,by unfold gJ;omega⟩;refine B 5 ?_;refine rv rfl rfl rfl (fM (l:=120) (h:=128) (off':=120) underlying106 sizeOf5 rfl ⟨_,_,rfl,rfl⟩ rfl aa aa rfl) ?_;refine B 3 ?_;refine zAd ?_;refine OJ.reH (H':=[(rT,oC (cf 128 (qM n m j N)) 5),(b3,oC (sw n m j).cells 374),(b2,oC (tr []).toArray 33)]) (by subst hN;rw[<-nsm];rfl) ?_;refine B 4 ?_;refine CJ.loop (α:=Nat×Nat) (λp=>[(2,ptr b2 0),(3,ptr b3 0),(4,.func (.func 233) #[ptr b3 0] #[]),(6,.slice (some ⟨rT,p.2,none⟩) (N-64*p.1) (128-64*p.1))]) (λp=>[(rT,oC (cf 128 (qM n m j N)) 5),(b3,oC (sw n m (j+p.1)).cells 374),(b2,oC (tr []).toArray 33)]) (λp=>[w]) (λp=>Gh.no) (λp=>64*p.1<=N/\(64*p.1<128->p.2=64*p.1)) (λp=>N-64*p.1) (0,0) zW ⟨rfl,rfl,rfl,by subst hN;rfl,trivial⟩ rfl rfl zJ ?_;rintro⟨k,o2⟩ ⟨hk,dq⟩;dsimp only at hk dq ⊢;refine B 8 ?_;refine aG ?_ ?_
  ·intro dc;exact zqg
  intro dc;refine B 13 ?_;have hjk:j+k=gJ n:=by unfold gJ at *;omega
  rw[hjk];refine zxd ?_;rintro i hi;refine B 6 ?_;refine aG ?_ ?_
  ·intro jo;refine zIf ?_;refine ag (i+1) aa
  intro jo;exact zEg
 intro aN;refine B 3 ?_;obtain⟨N,hN,hNN⟩:∃N,N=64/\64*(gJ n-j)=N:=⟨64,rfl,by unfold gJ;omega⟩;refine B 5 ?_;refine rv rfl rfl rfl (fM (l:=56) (h:=64) (off':=56) underlying106 sizeOf5 rfl ⟨_,_,rfl,rfl⟩ rfl aa aa rfl) ?_;refine B 3 ?_;refine zAd ?_;refine OJ.reH (H':=[(rT,oC (cf 128 (qM n m j N)) 5),(b3,oC (sw n m j).cells 374),(b2,oC (tr []).toArray 33)]) (by subst hN;rw[<-nsm];rfl) ?_;refine B 4 ?_;refine CJ.loop (α:=Nat×Nat) (λp=>[(2,ptr b2 0),(3,ptr b3 0),(4,.func (.func 233) #[ptr b3 0] #[]),(6,.slice (some ⟨rT,p.2,none⟩) (N-64*p.1) (128-64*p.1))]) (λp=>[(rT,oC (cf 128 (qM n m j N)) 5),(b3,oC (sw n m (j+p.1)).cells 374),(b2,oC (tr []).toArray 33)]) (λp=>[w]) (λp=>Gh.no) (λp=>64*p.1<=N/\(64*p.1<128->p.2=64*p.1)) (λp=>N-64*p.1) (0,0) zW ⟨rfl,rfl,rfl,by subst hN;rfl,trivial⟩ rfl rfl zJ ?_;rintro⟨k,o2⟩ ⟨hk,dq⟩;dsimp only at hk dq ⊢;refine B 8 ?_;refine aG ?_ ?_
 ·intro ij;exact zqg
 intro ij;refine B 13 ?_;have hjk:j+k=gJ n:=by unfold gJ at *;omega
 rw[hjk];refine zxd ?_;rintro i hi;refine B 6 ?_;refine aG ?_ ?_
 ·intro lI;refine zIf ?_;refine ag (i+1) aa
 intro lI;exact zEg
theorem Dz(n:Nat)(h0:0<n)(h1:n<=1099511627776)(w:World):Calls prog 235 #[ao,ab (n:Int)] w (cN w (λp:Nat×Nat=>.slice (aj p.1) 0 p.2) (λp w1=>w.heap.size<=p.1/\n<=p.2/\w1.heap[p.1]? =some (oC (cf p.2 (λ_=>Cv)) 5))):=by
 refine eN func235 ntmps235 ?_;refine B 9 ?_;refine ax bG ?_;refine B 14 ?_;refine ax (ab (n:Int)) ?_;refine B 6 ?_;refine ax cX ?_;refine B 7 ?_;refine rv rfl rfl rfl (Wo underlying106 sizeOf5 rfl ⟨_,_,rfl,rfl⟩) ?_;refine B 1 ?_;refine Wt underlying106 underlying3 Uj rfl rfl rfl rfl rfl rfl rfl rfl h0 h1 ?_;intro b22 cap Pt afk am4;replace Pt:=yb Pt;refine B 2 ?_;refine rv rfl rfl rfl (fk (h:=0) underlying106 sizeOf5 rfl ⟨_,_,rfl,rfl⟩ aa) ?_;refine B 10 ?_;exact bM (.inl rfl) results235 bj (λW hS=>⟨(b22,cap),rfl,hS.base A0 Au,by omega,by omega,hS.own _ A0⟩)
def nej (ss:List tu):Array Value:=(ss.map tu.val).toArray
theorem nVi(ss:List tu)(j k:Nat)(h:k=j)(hj:j<ss.length):(nej ss)[k]? =some ss[j].val:=by subst h;simp[nej,hj]
theorem nXg(ss:List tu)(b0 c0 t0:Nat)(fG:Nat×Nat)(hk:ss.length<1000)(h0:0<(nF ss).length)(h1:(nF ss).length<=1099511627776)(w:World)(hb0:w.heap[b0]? =some (.cells (nej ss) t0 fG))(hss:∀s∈ss,s.At w):Calls prog 165 #[.slice (aj b0) ss.length c0] w (cN w (λp:Nat×Nat×List Value=>.slice (aj p.1) (nF ss).length p.2.1) (λp w1=>w.heap.size<=p.1/\((nF ss).length<=p.2.1/\p.2.2.length=p.2.1-(nF ss).length)/\w1.heap[p.1]? =some (oC (nF ss++p.2.2).toArray 5))):=by
 have am5:=(aT.1 hb0).1;refine eN func165 ntmps165 ?_;refine B 19 ?_;refine CJ.loop (α:=Nat) (λj=>[(0,.slice (aj b0) ss.length c0),(3,ab (((nF (ss.take j)).length:Nat):Int)),(9,.slice (aj b0) ss.length c0),(10,ab (ss.length:Int)),(11,ab (j:Int))]) (λj=>[]) (λj=>[w]) (λj=>Gh.no) (λj=>j<=ss.length) (λj=>ss.length-j) 0 (cV _) zR rfl rfl zJ ?_;rintro j hj;have lX:=npg ss (j+1);have Pu:∀h:j<ss.length,(nF (ss.take (j+1))).length=(nF (ss.take j)).length+(ss[j]).n:=λh=>by rw[n2f ss j h,ck];exact congrArg (_+ ·) (DA _ _)
 refine B 6 ?_;refine aG ?_ ?_
 ·intro ar;refine B 5 ?_;have Cw:j<ss.length:=by omega
  have afn:=Pu Cw;refine B 2 ?_;refine rv rfl rfl rfl (av (v:=(ss[j]'aa).val) isAgg106 rfl A0 hb0 zL trivial (nVi ss j _ aa aa)) ?_;refine B 8 ?_;refine ax (ab (((nF (ss.take (j+1))).length:Nat):Int)) ?_;refine B 6 ?_;refine ax bG ?_;refine B 10 ?_;exact Jm
 intro ar;refine B 6 ?_;have e:j=ss.length:=by omega
 subst e;rw[jO (ak _)];refine B 2 ?_;refine Pw (bo:=λp:Nat×Nat=>(p.1,oC (cf p.2 (λ_=>Cv)) 5)) (Φ:=λp=>(nF ss).length<=p.2) call235 rfl rfl rfl (λW hS=>Dz _ h0 h1 W) ?_;rintro⟨bg,cg⟩ hag hog dz;simp only[ae]at hag dz;refine B 12 ?_;refine CJ.loop (α:=Nat×Nat×Nat×List Value) (λp=>[(6,.slice (aj p.2.1) (nF (ss.take p.1)).length p.2.2.1),(25,.slice (aj b0) ss.length c0),(26,ab (ss.length:Int)),(27,ab (p.1:Int))]) (λp=>[(p.2.1,oC (nF (ss.take p.1)++p.2.2.2).toArray 5)]) (λp=>[w]) (λp=>Gh.no) (λp=>p.1<=ss.length/\w.heap.size<=p.2.1/\(nF (ss.take p.1)).length<=p.2.2.1/\p.2.2.2.length=p.2.2.1-(nF (ss.take p.1)).length) (λp=>ss.length-p.1) (0,bg,cg,(List.range cg).map (λ_=>Cv)) ⟨cV _,hag.1,cV _,by simp[nF]⟩ zR rfl rfl zJ ?_;rintro⟨j,b,cap,sp⟩ ⟨hj,h2,h3,h4⟩;dsimp only at hj h2 h3 h4 ⊢;have lX:=npg ss (j+1);have Pu:∀h:j<ss.length,(nF (ss.take (j+1))).length=(nF (ss.take j)).length+(ss[j]).n:=λh=>by rw[n2f ss j h,ck];exact congrArg (_+ ·) (DA _ _)
 refine B 6 ?_;refine aG ?_ ?_
 ·intro aN;refine B 5 ?_;have Cw:j<ss.length:=by omega
  have afn:=Pu Cw;refine B 2 ?_;refine rv rfl rfl rfl (av (v:=(ss[j]'aa).val) isAgg106 rfl A0 hb0 zL zA (nVi ss j _ aa aa)) ?_;refine B 3 ?_;obtain⟨csj,tj,frj,Ul,hso,hsm⟩:=hss (ss[j]'aa) (Wu _);have am6:=(aT.1 Ul).1;refine B 3 ?_;refine afo (i:=0) (m:=1) (ys:=nF (ss.take j)) (sp:=sp) (news:=(ss[j]'aa).l) (n:=(ss[j]'aa).n) rfl underlying106 Uj rfl rfl rfl rfl rfl rfl rfl (oM.sl underlying106 (Rd.old A0 Ul zL zA aa (n7j aa hsm)) (by rw[xq];exact DA _ _) (DB _ _)) aa aa h3 ⟨h2,trivial⟩ aa (by show _*1<=_;omega) ?_;intro b' aR bU Wv Wz jQ;simp only[ae]at Wv;refine B 8 ?_;refine PJ.reH (H':=[(b',oC (nF (ss.take (j+1))++bU).toArray 5)]) (by rw[n2f ss j aa];rfl) ?_;refine PJ.again (j+1,b',aR,bU) ⟨by dsimp only;omega,Wv.1,by dsimp only;rw[Pu aa];exact Wz,by dsimp only;rw[Pu aa];omega⟩ zW ⟨by rw[Pu aa];rfl,rfl,rfl,rfl,trivial⟩ rfl rfl zJ
 intro aN;refine B 12 ?_;have e:j=ss.length:=by omega
 subst e;rw[jO (ak _)]at h3 h4 ⊢;exact bM (.inl rfl) results165 bj (λW hS=>⟨(b,cap,sp),rfl,hS.base A0 Au,h2,⟨h3,h4⟩,hS.own _ A0⟩)
def yr (n:Nat) (m m':Nat->Int) (i:Nat):Int:=if i<n then m i else m' (i-n)
theorem nzk(n n':Nat)(m m':Nat->Int):kW n m++kW n' m'=kW (n+n') (yr n m m'):=by
 apply Cy;all_goals grind [DA,kW,yr]
theorem nXn(n:Nat)(m:Nat->Int)(sp:List Value)(i:Nat)(h:i<n):((kW n m++sp).toArray)[0+i]? =some (.int .u8 (m i)):=by grind [DA,kW]
def tagged (s:ByteArray) (n:Nat) (m:Nat->Int):Nat->Int:=vo (32+n) (yr 32 (vo s.size (sB s)) m)
theorem nae(s:ByteArray)(n:Nat)(m:Nat->Int)(bb off c t t2 t3:Nat)(fr xp qp:Nat×Nat)(cs:Array Value)(hs0:s.size<1000)(hc:n<=c)(hn:n<1000000000000)(w:World)(As:w.heap[bb]? =some (.cells cs t fr))(mh:off+n<=cs.size)(hm:∀i,i<n->cs[off+i]? =some (.int .u8 (m i)))(hg2:w.heap[3]? =some (.cells S8.init.cells t2 xp))(hg:w.heap[5]? =some (.cells (cf 64 (λi=>u32 (kk i))) t3 qp)):Calls prog 87 #[.string s,.slice (some ⟨bb,off,none⟩) n c] w (aM w (.agg (dg (tagged s n m)))):=by
 have V8:=(aT.1 As).1;have afi:=(aT.1 hg2).1;have Pr:=(aT.1 hg).1;refine eN func87 ntmps87 ?_;refine B 3 ?_;refine yW ?_;intro b4 ja jb;refine B 5 ?_;refine Ns underlying9 underlying106 underlying5 rfl rfl rfl ?_;intro b7 afs w7 cs7 fr7 vq jy vr vQ hz7 ke am7 hs7;replace jy:=yb jy;try simp only[aY,ne_eq]at vr
 refine call call164 rfl rfl rfl (λW hS=>nXf s.size (sB s) b7 0 afs _ _ _ _ _ _ cs7 aa aa W (hS.old A0 vq vQ zA) aa hs7 (hS.old A1 hg2 zL zA) (hS.old A1 hg zL zA)) ?_;refine B 1 ?_;refine yW ?_;intro b5 so sq;refine B 4 ?_;have aJ:(nF [⟨b5,0,32,32,vo s.size (sB s)⟩,⟨bb,off,n,c,m⟩]).length=32+n:=by simp[nF,tu.l,DA]
 have WA:∀W,W.heap[b5]? =some (oC (dg (vo s.size (sB s))) 33)->W.heap[bb]? =some (.cells cs t fr)->∀x∈([⟨b5,0,32,32,vo s.size (sB s)⟩,⟨bb,off,n,c,m⟩]:List tu),x.At W:=λW h1 h2 x hx=>by
  simp only[bX,dy,or_false]at hx;rcases hx with rfl|rfl
  ·exact⟨_,_,_,h1,ak 32,λi hi=>by rw[lE];exact qK _ i hi⟩
  exact⟨_,_,_,h2,mh,hm⟩
 refine B 1 ?_;refine zne ?_;refine B 1 ?_;refine qN underlying377 sizeOf106 zeroValue106 rfl rfl rfl rfl rfl rfl rfl ?_;refine yV ?_;intro gG WB Jw Jx WC yt DC;refine Pw (bo:=λp:Nat×Nat×List Value=>(p.1,oC (nF [⟨b5,0,32,32,vo s.size (sB s)⟩,⟨bb,off,n,c,m⟩]++p.2.2).toArray 5)) (Φ:=λp=>(nF [⟨b5,0,32,32,vo s.size (sB s)⟩,⟨bb,off,n,c,m⟩]).length<=p.2.1/\p.2.2.length=p.2.1-(nF [⟨b5,0,32,32,vo s.size (sB s)⟩,⟨bb,off,n,c,m⟩]).length) call165 rfl rfl rfl (λW hS=>nXg [⟨b5,0,32,32,vo s.size (sB s)⟩,⟨bb,off,n,c,m⟩] gG 2 _ _ zJ (by rw[aJ];omega) (by rw[aJ];omega) W (hS.old A0 Jw Jx zA) (WA W (hS.own _ A0) (hS.old A2 As zL zA))) ?_;rintro⟨bc,cc,spc⟩ WD hoc ⟨Jy,DD⟩;replace WD:=yb WD;dsimp only at Jy DD;rw[aJ]at Jy DD;refine OJ.re (v':=.slice (aj bc) (32+n) cc) (by show Value.slice _ (nF _).length _=_;rw[aJ]) ?_;refine OJ.reH (H':=[(bc,oC (kW (32+n) (yr 32 (vo s.size (sB s)) m)++spc).toArray 5),(b5,oC (dg (vo s.size (sB s))) 33),(b4,oC (tr []).toArray 33)]) (by rw[<-nzk];simp only[nF,tu.l,dV];rfl) ?_;refine call call164 rfl rfl rfl (λW hS=>nXf (32+n) (yr 32 (vo s.size (sB s)) m) bc 0 cc _ _ _ _ _ _ _ aa aa W (hS.own _ A0) (by simp only[qq,ck,DA];omega) (λi hi=>nXn _ _ _ i hi) (hS.old A2 hg2 zL zA) (hS.old A2 hg zL zA)) ?_
 refine B 4 ?_;refine cC (.inl rfl) results87 bj A2 zC ?_;rfl
def DE (s:ByteArray) (n:Nat) (m:Nat->Int):Int:=1+Ii 2305843009213688668 (Bt (tagged s n m)) 0
theorem njg(s:ByteArray)(n:Nat)(m:Nat->Int):ec (tagged s n m):=nln _ _
theorem nEm(s:ByteArray)(n:Nat)(m:Nat->Int)(bb off c t t2 t3:Nat)(fr xp qp:Nat×Nat)(cs:Array Value)(hs0:s.size<1000)(hc:n<=c)(hn:n<1000000000000)(w:World)(As:w.heap[bb]? =some (.cells cs t fr))(mh:off+n<=cs.size)(hm:∀i,i<n->cs[off+i]? =some (.int .u8 (m i)))(hg2:w.heap[3]? =some (.cells S8.init.cells t2 xp))(hg:w.heap[5]? =some (.cells (cf 64 (λi=>u32 (kk i))) t3 qp)):Calls prog 195 #[.string s,.slice (some ⟨bb,off,none⟩) n c] w (aM w (ab (DE s n m))):=by
 have hB:=njg s n m;have hbd:=nRh 2305843009213688668 zB (Bt (tagged s n m)) 0 zB zB;refine eN func195 ntmps195 ?_;refine B 9 ?_;refine call call87 rfl rfl rfl (λW hS=>nae s n m bb off c _ _ _ _ _ _ cs hs0 hc hn W (hS.old A0 As zL trivial) mh hm (hS.old A0 hg2 zL trivial) (hS.old A0 hg zL trivial)) ?_;refine call call258 rfl rfl rfl (λW hS=>npo _ hB _ zB zB W) ?_;refine B 6 ?_;refine aF results195 rfl A0 ?_;rfl




theorem bt:Av prog 106 5:=⟨underlying106,underlying5,⟨_,Uj,rfl,rfl,rfl⟩,sizeOf5⟩
theorem Py(n:Int)(h1: -9223372036854775808<=n)(h2:n<=9223372036854775807):IntKind.u64.wrap (BitVec.ofInt 64 (IntKind.u64.wrap (IntKind.u64.wrap n*2))^^^BitVec.ofInt 64 (IntKind.u64.wrap (n/9223372036854775808))).toNat=(Jz n:Int):=by
 simp only[nC];unfold Jz;by_cases h:0<=n
 ·rw[if_pos h,show n/9223372036854775808=0 by omega];have:(0:Int)%18446744073709551616=0:=by decide
  rw[this,show n%18446744073709551616*2%18446744073709551616=2*n by omega];have e:BitVec.ofInt 64 0=0#64:=rfl;rw[e,BitVec.xor_zero,BitVec.toNat_ofInt];omega
 rw[if_neg h,show n/9223372036854775808= -1 by omega];have:(-1:Int)%18446744073709551616=18446744073709551615:=by decide
 rw[this,show n%18446744073709551616*2%18446744073709551616=2*n+18446744073709551616 by omega];have e:BitVec.ofInt 64 18446744073709551615=BitVec.allOnes 64:=by decide
 rw[e,BitVec.xor_allOnes,BitVec.toNat_not,BitVec.toNat_ofInt];omega
theorem DF(n:Int)(h1: -9223372036854775808<=n)(h2:n<=9223372036854775807):Jz n<18446744073709551616:=by unfold Jz;split<;>omega
theorem WE(u:Nat):IntKind.u8.wrap (BitVec.ofInt IntKind.u8.bits ((u:Int)%256)|||BitVec.ofInt IntKind.u8.bits 128).toNat=((UInt8.ofNat (u%128+128)).toNat:Int):=by
 have key:∀v:BitVec 8,(v|||128#8).toNat=(v.toNat%128+128):=by decide
 have e:BitVec.ofInt IntKind.u8.bits 128=128#8:=rfl;rw[e];have e2:(BitVec.ofInt 8 ((u:Int)%256)).toNat=u%256:=by rw[BitVec.toNat_ofInt];omega
 have:=key (BitVec.ofInt 8 ((u:Int)%256));rw[e2]at this;show IntKind.u8.wrap (BitVec.ofInt 8 ((u:Int)%256)|||128#8).toNat=_;all_goals simp_all[nfl]
theorem JA(u:Nat)(h:u<256):((u:Int)%256)=((UInt8.ofNat u).toNat:Int):=by
 simp only[UInt8.toNat_ofNat'];omega
theorem njj(n:Int)(h1: -9223372036854775808<=n)(h2:n<=9223372036854775807)(w:World):Calls prog 230 #[ab n] w (aM w (.int .u64 (Jz n:Int))):=by
 refine eN func230 ntmps230 ?_;refine B 8 ?_;refine rv rfl rfl rfl (kq underlying3 underlying233 rfl) ?_;refine rv rfl rfl rfl (Dg 1 2 zB rfl rfl rfl) ?_;refine B 1 ?_;refine rv rfl rfl rfl (iM 63 9223372036854775808 zB rfl rfl rfl) ?_;refine rv rfl rfl rfl (kq underlying3 underlying233 rfl) ?_;refine rv rfl rfl rfl (yu rfl rfl) ?_;refine B 4 ?_;refine aF results230 rfl A0 ?_;exact vu (Py n h1 h2)
theorem n2c(xs:List UInt8)(u:Nat)(hu:u<18446744073709551616)(b cap:Nat)(sp:List Value)(uj:dF xs cap sp)(iO:xs.length<=900000000000)(w:World)(hb:w.heap[b]? =some (aL 5 xs sp)):Calls prog 229 #[bS b xs.length cap,.int .u64 (u:Int)] w (Pz w b 5 (xs++num u)):=by
 have jf:=(aT.1 hb).1;have am8:=CA hu;refine nB (vs:=[_,_]) (Gh.lent (· =b)) [(b,aL 5 xs sp)] func229 rfl ntmps229 rfl (DG hb) ?_;refine B 7 ?_;refine CJ.lp (α:=List UInt8×Nat×Nat×Nat×List Value) [] (λp=>[(0,bS p.2.2.1 p.1.length p.2.2.2.1),(1,.int .u64 (p.2.1:Int))]) (λp=>[(p.2.2.1,aL 5 p.1 p.2.2.2.2)]) (λp=>xs++num u=p.1++num p.2.1/\p.2.1<18446744073709551616/\Fr (Gh.lent (· =b)) [w] p.2.2.1/\dF p.1 p.2.2.2.1 p.2.2.2.2) (λp=>p.2.1) (xs,u,b,cap,sp) ⟨rfl,hu,.inl rfl,uj⟩ ?_;rintro⟨ys,v,b1,c1,sp1⟩ ⟨hinv,hv,hf,hr⟩;dsimp only at hinv hv hf hr ⊢;have Aw:(ys++num v).length<=900000000010:=by rw[<-hinv,ck];omega
 have rU:=JB v;rw[ck]at Aw;refine B 7 ?_;refine aG ?_ ?_
 ·intro ar;refine B 7 ?_;refine rv rfl rfl rfl (oK underlying233 underlying5 rfl) ?_;refine rq (.int .u8 ((UInt8.ofNat (v%128+128)).toNat:Int)) (An rfl rfl) (congrArg (Value.int .u8) (WE v)) ?_;refine PA [UInt8.ofNat (v%128+128)] bt zeroValue5 rfl rfl rfl rfl rfl rfl rfl rfl rfl ?_;intro Um yw Bw am9 ana;replace yw:=yb yw;replace Bw:=yd Bw;refine Nt (i:=1) (xs:=ys) (zs:=[UInt8.ofNat (v%128+128)]) (sp:=sp1) rfl bt rfl rfl rfl rfl (gR.own (i:=0) underlying106 rfl) hr hf By ?_;intro ei c14 s14 WG afx;have WH:=WG;replace WH:=ye WH;refine OJ.dropF (i:=0) rfl (.inr ⟨yw.1,trivial⟩) ?_;refine B 6 ?_;refine rq (.int .u64 ((v/128:Nat):Int)) (iM 7 128 zB rfl rfl rfl) (vu aa) ?_;refine B 2 ?_;refine ag (ys++[UInt8.ofNat (v%128+128)],v/128,ei,c14,s14) ⟨by dsimp only;rw[hinv,nDm aa,iP];rfl,by dsimp only;omega,WG,afx⟩
 intro ar;refine B 9 ?_;refine rq (.int .u8 ((UInt8.ofNat v).toNat:Int)) (oK underlying233 underlying5 rfl) (congrArg (Value.int .u8) (JA v aa)) ?_;refine PA [UInt8.ofNat v] bt zeroValue5 rfl rfl rfl rfl rfl rfl rfl rfl rfl ?_;intro b18 Bz PC afz WI;replace Bz:=yb Bz;replace PC:=yd PC;refine Nt (i:=1) (xs:=ys) (zs:=[UInt8.ofNat v]) (sp:=sp1) rfl bt rfl rfl rfl rfl (gR.own (i:=0) underlying106 rfl) hr hf By ?_;intro b19 c19 s19 WJ afA;have WK:=WJ;replace WK:=ye WK;refine OJ.dropF (i:=0) rfl (.inr ⟨Bz.1,trivial⟩) ?_;refine B 4 ?_;rw[hinv,WL aa];exact nIi (i:=0) (.inl rfl) results229 rfl rfl A0 (by simp only[lF,cW,dB,sx,yx,and_true];simp only[Fr,Gh.lent,ae]at WJ;omega) afA
variable {L:List World}
theorem PD{C:Cx}{G:Gh}{H:ad}{E:Env}{T U:Nat}{x y:Operand}(hx:ev E x=some (Un))(hy:ev E y=some (Un)):RV C G L H E (.binOp .eql T x y U) (cX):=
 RV.re (yz hx hy) (vb zJ)
def JC (N:Nat) (w:World) (base:Option Addr) (l:List V):Prop:=∀i (h:i<l.length),∃bl cs t fr,base=some ⟨bl,0,none⟩/\bl<N/\w.heap[bl]? =some (.cells cs t fr)/\4*i+4<=cs.size/\∃a1 a2 p3 n3 c3,cut cs (4*i) 4=#[ab (l[i]).kind,ab a1,.string a2,.slice p3 n3 c3]/\eM N w l[i] (.agg #[ab (l[i]).kind,ab a1,.string a2,.slice p3 n3 c3])
theorem eM.list{N:Nat}{w:World}{l:List V}{v:Value}(h:eM N w (.list l) v):∃base cap,v=vL base l.length cap/\l.length<=cap/\JC N w base l:=by
 simp only[eM]at h;obtain⟨base,cap,hv,hc,hl⟩:=h;refine⟨base,cap,hv,hc,λi hi=>?_⟩;rcases hl with rfl|⟨b,cs,t,fr,hb,hlt,cJ,hs⟩
 ·simp at hi
 obtain⟨h1,h2⟩:=hs.get i hi;rw[lE]at h1 h2;obtain⟨a1,a2,p3,n3,c3,hsh⟩:=h2.shape;rw[hsh]at h2;exact⟨b,cs,t,fr,hb,hlt,cJ,h1,a1,a2,p3,n3,c3,by injection hsh,h2⟩
def nol (x:V):Prop:=∀(N:Nat) (w:World) (v:Value),N<=w.heap.size->eM N w x v->x.fine->Calls prog 227 #[v] w (aM w (.tuple #[ab (x.depth:Int),cX]))
theorem nto(n:Int)(w:World):Calls prog 227 #[vI n] w (aM w (.tuple #[ab 0,cX])):=by
 refine eN func227 ntmps227 ?_;refine B 2 ?_;refine yX ?_;intro b1 w1 hb1 cF gA fX jq;refine PE ?_;refine B 5 ?_;refine ni (t:=21) rfl (λar=>?_) (λar=>?_)
 ·replace ar:=ya ar;refine B 9 ?_;refine ni (t:=30) rfl (λaN=>?_) (λaN=>?_)
  ·replace aN:=ya aN;refine B 6 ?_;exact Uo
  replace aN:=ya aN;refine B 6 ?_;exact Uo
 replace ar:=ya ar;refine B 9 ?_;refine ni (t:=30) rfl (λdc=>?_) (λdc=>?_)
 ·replace dc:=ya dc;refine B 6 ?_;exact Uo
 replace dc:=ya dc;refine B 6 ?_;exact Uo
theorem nbn(x:ByteArray)(w:World):Calls prog 227 #[vT x] w (aM w (.tuple #[ab 0,cX])):=by
 refine eN func227 ntmps227 ?_;refine B 2 ?_;refine yX ?_;intro b1 w1 hb1 cF gA fX jq;refine B 8 ?_;refine rv rfl rfl rfl (yz rfl rfl) ?_;refine B 1 ?_;refine ni (t:=12) rfl (λar=>?_) (λar=>?_)
 ·replace ar:=ya ar;refine B 3 ?_;refine ax cX ?_;refine B 3 ?_;refine zjf ?_;exact Uo
 replace ar:=ya ar;refine B 7 ?_;refine zjf ?_;exact Uo
theorem nMm(l:List V)(ih:∀y∈l,nol y)(dK:(V.list l).fine)(N:Nat)(base:Option Addr)(cap:Nat)(w:World)(hN:N<=w.heap.size)(hel:JC N w base l):Calls prog 227 #[vL base l.length cap] w (aM w (.tuple #[ab ((V.depthL l+1:Nat):Int),cX])):=by
 simp only[V.fine]at dK;obtain⟨Ax,DH,PF⟩:=dK;refine eN func227 ntmps227 ?_;refine B 2 ?_;refine yX ?_;intro b1 w1 hb1 cF gA fX jq;refine B 17 ?_;refine ax cX ?_;refine B 8 ?_;refine ax cX ?_;refine B 7 ?_;refine yW ?_;intro b4 ja jb;refine B 8 ?_;refine ax bG ?_;refine B 3 ?_;refine ax bG ?_;refine B 18 ?_;refine ax bG ?_;refine B 15 ?_;refine CJ.dropAt (i:=0) rfl ⟨by omega,by omega,trivial⟩ ?_;refine CJ.loop (α:=Nat) (λi=>[(1,ptr b1 0),(2,ab ((V.depthL (l.take i):Nat):Int)),(55,.slice base l.length cap),(56,ab (l.length:Int)),(57,ab (i:Int))]) (λi=>[]) (λi=>[w1,w]) (λi=>Gh.no) (λi=>i<=l.length/\V.depthL (l.take i)<=1000000000) (λi=>l.length-i) 0 ⟨cV _,by simp[V.depthL]⟩ zR rfl rfl zJ ?_;rintro i ⟨hi,hdi⟩;refine B 6 ?_;refine aG ?_ ?_
 ·intro ar;refine B 5 ?_;obtain⟨bl,cs,te,fre,rfl,jf,cJ,hcz,a1,a2,p3,n3,c3,vR,xr⟩:=hel i aa;have DI:=(aT.1 cJ).1;obtain⟨y,hy⟩:∃y,l[i]'aa=y:=⟨_,rfl⟩;rw[hy]at vR xr;have JD:y∈l:=hy▸Wu _;refine B 2 ?_;refine rq (.agg #[ab y.kind,ab a1,.string a2,.slice p3 n3 c3]) (dQ isAgg200 sizeOf200 rfl A1 cJ zL trivial aa) (va (by rw[<-vR];congr 1;omega)) ?_;refine B 1 ?_;refine yW ?_;intro b6 jD qu;refine B 6 ?_;refine call call227 rfl rfl rfl (λW hS=>ih y JD N W _ (dG hN (hS.links _ A1).size) (eM.up (ak _) hS.sm _ _ xr) (V.fineL_mem PF y JD)) ?_;refine B 20 ?_;refine rv rfl rfl rfl (PG rfl rfl) ?_;refine B 8 ?_;refine PJ.dropAt (i:=0) rfl ⟨by omega,by omega,trivial⟩ ?_;refine PJ.again (i+1) ⟨by omega,by have h1:=V.depthL_take l i aa;rw[hy]at h1;have h2:=V.depthL_mem y JD;omega⟩ aa ⟨rfl,congrArg some (congrArg ab (by rw[V.depthL_take l i aa,hy];omega)),rfl,rfl,rfl,trivial⟩ rfl rfl zJ
 intro ar;refine B 14 ?_;refine nS results227 rfl rfl A1 ?_ ?_
 ·have e:i=l.length:=by omega
  subst e;rw[jO (ak _)];rfl
 rfl
theorem nJp:∀x,nol x:=by
 refine V.ind ?_ ?_ ?_
 ·intro n N w v _ hv _;simp only[eM]at hv;subst hv;exact nto n w
 ·intro s N w v _ hv _;simp only[eM]at hv;subst hv;exact nbn s w
 intro l ih N w v hN hv hf;obtain⟨base,cap,rfl,hc,hel⟩:=hv.list;exact nMm l ih hf N base cap w hN hel
theorem nXm(x:V)(n1:Int)(s2:ByteArray)(p3:Option Addr)(n3 c3:Nat)(dK:x.fine)(hd:x.depth<=16)(N:Nat)(w:World)(hN:N<=w.heap.size)(xr:eM N w x (.agg #[ab x.kind,ab n1,.string s2,.slice p3 n3 c3])):Calls prog 162 #[.agg #[ab x.kind,ab n1,.string s2,.slice p3 n3 c3]] w (aM w (ab 0)):=by
 refine eN func162 ntmps162 ?_;refine B 2 ?_;refine yX ?_;intro b1 w1 hb1 cF gA fX jq;refine B 6 ?_;refine call call227 rfl rfl rfl (λW hS=>nJp x N W _ (dG hN (hS.links _ A1).size) (eM.up (ak _) hS.sm _ _ xr) dK) ?_;refine B 20 ?_;refine ax bG ?_;refine B 13 ?_;refine aF results162 rfl A1 ?_;rfl
def V.fn:V->Nat
 | .int _=>228
 | .text _=>231
 | .list _=>232
def V.cap (bv:Nat):V->List Value
 | .list _=>[ptr bv 0]
 |_=>[]
def wrC (bv:Nat):Array Value:=#[.nilFunc,.func (.func 228) #[] #[],.func (.func 231) #[] #[],.func (.func 232) #[] #[ptr bv 0]]
theorem DK(bv:Nat)(x:V)(k:Nat)(hk:(k:Int)=x.kind):(wrC bv)[k]? =some (.func (.func x.fn) #[] (x.cap bv).toArray):=by
 cases x<;>simp only[V.kind]at hk
 ·have:k=1:=by omega
  subst this;rfl
 ·have:k=2:=by omega
  subst this;rfl
 have:k=3:=by omega
 subst this;rfl
theorem V.kind_bd(x:V):1<=x.kind/\x.kind<=3:=by cases x<;>simp[V.kind]
structure Wr (N:Nat) (w:World) (bv bw:Nat):Prop where
 ltv:bv<N
 ltw:bw<N
 atv:w.heap[bv]? =some (oC #[ptr bw 0] 288)
 atw:w.heap[bw]? =some (oC (wrC bv) 370)
theorem Wr.up{N N':Nat}{w w':World}{bv bw:Nat}(h:Wr N w bv bw)(hN:N<=N')(hw:∀k,k<N->w'.heap[k]? =w.heap[k]?):Wr N' w' bv bw:=
 ⟨by have:=h.ltv;omega,by have:=h.ltw;omega,(hw _ h.ltv).trans h.atv,(hw _ h.ltw).trans h.atw⟩
theorem nri(w:World):Calls prog 163 #[] w (cN w (λp:Nat×Nat=>ptr p.1 0) (λp w1=>w.heap.size<=p.1/\w.heap.size<=p.2/\w1.heap[p.2]? =some (oC #[ptr p.1 0] 288)/\w1.heap[p.1]? =some (oC (wrC p.2) 370))):=by
 refine eN func163 ntmps163 ?_;refine B 8 ?_;refine JE rfl rfl rfl ?_;refine yW ?_;intro b3 ez eP;refine B 1 ?_;refine yW ?_;intro b1 fX jq;refine B 9 ?_;refine zCe ?_;refine B 8 ?_;refine zCe ?_;refine B 9 ?_;refine zCe ?_;refine B 9 ?_;exact bM (.inl rfl) results163 bj (λW hS=>⟨(b3,b1),rfl,hS.base A0 zQ,by simp only[ae]at *;omega,by simp only[ae]at *;omega,hS.own (b1,_) A0,hS.own (b3,_) A1⟩)
def nqj (x:V):Prop:=∀(N b cap bv bw:Nat) (xs:List UInt8) (sp:List Value) (w:World) (v:Value),eM N w x v->x.fine->Wr N w bv bw->N<=b->N<=w.heap.size->dF xs cap sp->xs.length+x.enc.length<=800000000000->w.heap[b]? =some (aL 5 xs sp)->
 Calls prog x.fn (bS b xs.length cap::v::x.cap bv).toArray w (Pz w b 5 (xs++x.enc))
theorem nHp(n:Int)(hn:(V.int n).fine)(xs:List UInt8)(b cap:Nat)(sp:List Value)(uj:dF xs cap sp)(w:World)(hb:w.heap[b]? =some (aL 5 xs sp))(iO:xs.length+(V.int n).enc.length<=800000000000):Calls prog 228 #[bS b xs.length cap,vI n] w (Pz w b 5 (xs++(V.int n).enc)):=by
 have jf:=(aT.1 hb).1;simp only[V.fine]at hn;simp only[V.enc,dC]at iO;have hz:=DF n hn.1 hn.2;refine nB (vs:=[_,_]) (Gh.lent (· =b)) [(b,aL 5 xs sp)] func228 rfl ntmps228 rfl (DG hb) ?_;refine B 2 ?_;refine yX ?_;intro b3 w3 hb3 cK fF ez eP;refine B 4 ?_;refine CJ.less (E':=[(0,_),(1,_),(3,_),(4,_)]) zR ?_;refine CJ.chn 5 [1,2] [_,none,none,_,_] (λcv L' H'=>match cv with| []=>L'=[w3,w]/\H'=[(b,aL 5 xs sp)]| [v1]=>∃(b6:Nat),v1=bS b6 ([1]:List UInt8).length 1/\L'=[w3,w]/\H'=[(b6,aL 5 [1] []),(b,aL 5 xs sp)]/\w3.heap.size<=b6/\w.heap.size<=b6| [v1,v2]=>∃(b6:Nat) (b7:Nat) (c7:Nat) (s7:List Value),v1=bS b6 ([1]:List UInt8).length 1/\v2=bS b7 (xs++[1]).length c7/\L'=[w3,w]/\H'=[(b6,aL 5 [1] []),(b7,aL 5 (xs++[1]) s7)]/\w3.heap.size<=b6/\w.heap.size<=b6/\Fr (Gh.lent (· =b)) [w3,w] b7/\(b7=b\/w3.heap.size<=b7/\w.heap.size<=b7)/\dF (xs++[1]) c7 s7|_=>False) (pc zN (pk (pk (pc (by exact λcv L' H' hd hP=>X.v (bQ underlying200 rfl sizeOf3 rfl)) (pc zch (pn)))))) ?_ ?_
 ·refine ss rfl ?_ ?_
  ·intro cv L' H' hl hP F Q' hk;obtain rfl:=kX hl;obtain⟨rfl,rfl⟩:=hP;refine PA [1] bt zeroValue5 rfl rfl rfl rfl rfl rfl rfl rfl rfl ?_;intro b6 ha ho hx hr;exact OJ.done (hk _ _ _ ⟨b6,rfl,rfl,rfl,ha.1,ha.2.1⟩)
  refine ss rfl ?_ ?_
  ·intro cv L' H' hl hP F Q' hk;obtain⟨v1,rfl⟩:=iw hl;obtain⟨b6,rfl,rfl,rfl,jD,CB⟩:=hP;refine Nt (i:=1) (xs:=xs) (zs:=[1]) (sp:=sp) rfl bt rfl rfl rfl rfl (gR.own (i:=0) underlying106 rfl) uj (.inl rfl) By ?_;exact z5g
  exact nn
 intro cv L' H' hl hP;obtain⟨v1,v2,rfl⟩:=pS hl;obtain⟨b6,b7,c7,s7,rfl,rfl,rfl,rfl,jD,CB,tv,Up,CC⟩:=hP;refine OJ.dropF (i:=0) rfl (.inr ⟨jD,CB,trivial⟩) ?_;refine call call230 rfl rfl rfl (λW hS=>njj _ aa aa W) ?_;refine Uq (i:=0) (ys:=xs++[1]++num (Jz n)) (first:=[]) (cap:=[]) rfl rfl call229 rfl rfl rfl tv (λW hS hW=>n2c (xs++[1]) (Jz n) hz b7 c7 s7 CC By W hW) ?_;intro gG c11 s11 jh afD;have WM:=jh;replace WM:=ye WM;refine B 4 ?_;have PH:xs++(V.int n).enc=xs++[1]++num (Jz n):=by simp[V.enc]
 rw[PH];exact nIi (i:=0) (.inl rfl) results228 rfl rfl A1 (by simp only[lF,cW,dB,sx,yx,and_true];simp only[Fr,Gh.lent,ae]at jh;omega) afD
theorem V.encL_drop(l:List V)(i:Nat)(h:i<l.length):V.encL (l.drop i)=(l[i]).enc++V.encL (l.drop (i+1)):=by
 rw[List.drop_eq_getElem_cons h,V.encL]
theorem DL(x:V):eg prog x.fn:=by
 cases x
 ·exact call228
 ·exact call231
 exact call232
theorem nko(x:ByteArray)(hn:(V.text x).fine)(xs:List UInt8)(b cap:Nat)(sp:List Value)(uj:dF xs cap sp)(w:World)(hb:w.heap[b]? =some (aL 5 xs sp))(iO:xs.length+(V.text x).enc.length<=800000000000):Calls prog 231 #[bS b xs.length cap,vT x] w (Pz w b 5 (xs++(V.text x).enc)):=by
 have jf:=(aT.1 hb).1;simp only[V.fine]at hn;simp only[V.enc,dC,ck]at iO;have hxl:x.data.toList.length=x.size:=Nu;refine nB (vs:=[_,_]) (Gh.lent (· =b)) [(b,aL 5 xs sp)] func231 rfl ntmps231 rfl (DG hb) ?_;refine B 2 ?_;refine yX ?_;intro b3 w3 hb3 cK fF ez eP;refine B 4 ?_;refine CJ.less (E':=[(0,_),(1,_),(3,_),(4,_)]) zR ?_;refine CJ.chn 10 [1,2,7] [_,none,none,_,some (.string x),_,_,none,_,some (.string x)] (λcv L' H'=>match cv with| []=>L'=[w3,w]/\H'=[(b,aL 5 xs sp)]| [v1]=>∃(b6:Nat),v1=bS b6 ([2]:List UInt8).length 1/\L'=[w3,w]/\H'=[(b6,aL 5 [2] []),(b,aL 5 xs sp)]/\w3.heap.size<=b6/\w.heap.size<=b6| [v1,v2]=>∃(b6:Nat) (b7:Nat) (c7:Nat) (s7:List Value),v1=bS b6 ([2]:List UInt8).length 1/\v2=bS b7 (xs++[2]).length c7/\L'=[w3,w]/\H'=[(b6,aL 5 [2] []),(b7,aL 5 (xs++[2]) s7)]/\w3.heap.size<=b6/\w.heap.size<=b6/\Fr (Gh.lent (· =b)) [w3,w] b7/\(b7=b\/w3.heap.size<=b7/\w.heap.size<=b7)/\dF (xs++[2]) c7 s7| [v1,v2,v3]=>∃(b6:Nat) (b7:Nat) (c7:Nat) (s7:List Value) (ik:Nat) (c12:Nat) (WN:List Value),v1=bS b6 ([2]:List UInt8).length 1/\v2=bS b7 (xs++[2]).length c7/\v3=bS ik (xs++[2]++num x.size).length c12/\L'=[w3,w]/\H'=[(b6,aL 5 [2] []),(ik,aL 5 (xs++[2]++num x.size) WN)]/\w3.heap.size<=b6/\w.heap.size<=b6/\Fr (Gh.lent (· =b)) [w3,w] b7/\(b7=b\/w3.heap.size<=b7/\w.heap.size<=b7)/\dF (xs++[2]) c7 s7/\Fr (Gh.lent (· =b)) [w3,w] ik/\(ik=b\/w3.heap.size<=ik/\w.heap.size<=ik)/\dF (xs++[2]++num x.size) c12 WN|_=>False) (pc zN (pk (pk (pc (by exact λcv L' H' hd hP=>X.v (bQ underlying200 rfl sizeOf9 rfl)) (pc zci (pc (by exact λcv L' H' hd hP=>X.v (DM underlying9 rfl)) (pc zwc (pk (pc (by exact λcv L' H' hd hP=>X.v (bQ underlying200 rfl sizeOf9 rfl)) (pc zci (pn))))))))))) ?_ ?_
 ·refine ss rfl ?_ ?_
  ·intro cv L' H' hl hP F Q' hk;obtain rfl:=kX hl;obtain⟨rfl,rfl⟩:=hP;refine PA [2] bt zeroValue5 rfl rfl rfl rfl rfl rfl rfl rfl rfl ?_;intro b6 ha ho hx hr;exact OJ.done (hk _ _ _ ⟨b6,rfl,rfl,rfl,ha.1,ha.2.1⟩)
  refine ss rfl ?_ ?_
  ·intro cv L' H' hl hP F Q' hk;obtain⟨v1,rfl⟩:=iw hl;obtain⟨b6,rfl,rfl,rfl,jD,CB⟩:=hP;refine Nt (i:=1) (xs:=xs) (zs:=[2]) (sp:=sp) rfl bt rfl rfl rfl rfl (gR.own (i:=0) underlying106 rfl) uj (.inl rfl) By ?_;exact z5g
  refine ss rfl ?_ ?_
  ·intro cv L' H' hl hP F Q' hk;obtain⟨v1,v2,rfl⟩:=pS hl;obtain⟨b6,b7,c7,s7,rfl,rfl,rfl,rfl,jD,CB,tv,Up,CC⟩:=hP;refine Uq (i:=1) (ys:=xs++[2]++num x.size) (first:=[]) (cap:=[]) rfl rfl call229 rfl rfl rfl tv (λW hS hW=>n2c (xs++[2]) x.size aa b7 c7 s7 CC By W hW) ?_;intro bn cn sn hfn hrn;have Ur:=hfn;replace Ur:=ye Ur;exact OJ.done (hk _ _ _ ⟨b6,b7,c7,s7,bn,cn,sn,rfl,rfl,rfl,rfl,rfl,jD,CB,tv,Up,CC,hfn,by simpa only[Fr,Gh.lent,ae,and_true]using hfn,hrn⟩)
  exact nn
 intro cv L' H' hl hP;obtain⟨v1,v2,v3,rfl⟩:=mj hl;obtain⟨b6,b7,c7,s7,ik,c12,WN,rfl,rfl,rfl,rfl,rfl,jD,CB,tv,Up,CC,WO,afE,WQ⟩:=hP;refine Nt (i:=1) (xs:=xs++[2]++num x.size) (zs:=x.data.toList) (sp:=WN) rfl bt rfl rfl rfl rfl (gR.str underlying9) WQ WO By ?_;intro di c15 s15 sy qO;have vS:=sy;replace vS:=ye vS;refine B 4 ?_;have PH:xs++(V.text x).enc=xs++[2]++num x.size++x.data.toList:=by simp[V.enc]
 rw[PH];exact nIi (i:=1) (.inl rfl) results231 rfl rfl A1 (by simp only[lF,cW,dB,sx,yx,and_true];simp only[Fr,Gh.lent,ae]at sy;omega) qO
theorem nqo(l:List V)(ih:∀y∈l,nqj y)(dK:(V.list l).fine)(N:Nat)(base:Option Addr)(lc bv bw:Nat)(xs:List UInt8)(b cap:Nat)(sp:List Value)(uj:dF xs cap sp)(w:World)(hb:w.heap[b]? =some (aL 5 xs sp))(hN:N<=w.heap.size)(hNb:N<=b)(hel:JC N w base l)(BA:Wr N w bv bw)(iO:xs.length+(V.list l).enc.length<=800000000000):Calls prog 232 #[bS b xs.length cap,vL base l.length lc,ptr bv 0] w (Pz w b 5 (xs++(V.list l).enc)):=by
 have jf:=(aT.1 hb).1;simp only[V.fine]at dK;obtain⟨Ax,DH,PF⟩:=dK;have hlv:=BA.ltv;have hlw:=BA.ltw;simp only[V.enc,dC,ck]at iO;refine nB (vs:=[_,_,_]) (Gh.lent (· =b)) [(b,aL 5 xs sp)] func232 rfl ntmps232 rfl (DG hb) ?_;refine B 2 ?_;refine yX ?_;intro b4 w4 hb4 Cu VX ja jb;refine B 4 ?_;refine CJ.less (E':=[(0,_),(1,_),(2,_),(4,_),(5,_)]) zR ?_;refine CJ.chn 7 [1,2] [_,none,none,_,some (.slice base l.length lc),_,_] (λcv L' H'=>match cv with| []=>L'=[w4,w]/\H'=[(b,aL 5 xs sp)]| [v1]=>∃(b9:Nat),v1=bS b9 ([3]:List UInt8).length 1/\L'=[w4,w]/\H'=[(b9,aL 5 [3] []),(b,aL 5 xs sp)]/\w4.heap.size<=b9/\w.heap.size<=b9| [v1,v2]=>∃(b9:Nat) (gf:Nat) (Io:Nat) (JF:List Value),v1=bS b9 ([3]:List UInt8).length 1/\v2=bS gf (xs++[3]).length Io/\L'=[w4,w]/\H'=[(b9,aL 5 [3] []),(gf,aL 5 (xs++[3]) JF)]/\w4.heap.size<=b9/\w.heap.size<=b9/\Fr (Gh.lent (· =b)) [w4,w] gf/\(gf=b\/w4.heap.size<=gf/\w.heap.size<=gf)/\dF (xs++[3]) Io JF|_=>False) (pc zN (pk (pk (pc WR (pc zcj (pc (by exact λcv L' H' hd hP=>X.v (iQ underlying134 rfl)) (pc zwc (pn)))))))) ?_ ?_
 ·refine ss rfl ?_ ?_
  ·intro cv L' H' hl hP F Q' hk;obtain rfl:=kX hl;obtain⟨rfl,rfl⟩:=hP;refine PA [3] bt zeroValue5 rfl rfl rfl rfl rfl rfl rfl rfl rfl ?_;intro b9 ha ho hx hr;exact OJ.done (hk _ _ _ ⟨b9,rfl,rfl,rfl,ha.1,ha.2.1⟩)
  refine ss rfl ?_ ?_
  ·intro cv L' H' hl hP F Q' hk;obtain⟨v1,rfl⟩:=iw hl;obtain⟨b9,rfl,rfl,rfl,xn,PI⟩:=hP;refine Nt (i:=1) (xs:=xs) (zs:=[3]) (sp:=sp) rfl bt rfl rfl rfl rfl (gR.own (i:=0) underlying106 rfl) uj (.inl rfl) By ?_;intro b7 c7 s7 tv CC;exact OJ.done (hk _ _ _ ⟨b9,b7,c7,s7,rfl,rfl,rfl,rfl,xn,PI,tv,by simpa only[Fr,Gh.lent,ae,and_true]using tv,CC⟩)
  exact nn
 intro cv L' H' hl hP;obtain⟨v1,v2,rfl⟩:=pS hl;obtain⟨b9,gf,Io,JF,rfl,rfl,rfl,rfl,xn,PI,JG,PK,yA⟩:=hP;refine OJ.dropF (i:=0) rfl (.inr ⟨xn,PI,trivial⟩) ?_;refine Uq (i:=0) (ys:=xs++[3]++num l.length) (first:=[]) (cap:=[]) rfl rfl call229 rfl rfl rfl JG (λW hS hW=>n2c (xs++[3]) l.length aa gf Io JF yA By W hW) ?_;intro di c15 s15 sy qO;have vS:=sy;replace vS:=ye vS;refine B 13 ?_;refine CJ.lp (α:=List UInt8×Nat×Nat×Nat×List Value) [2,17,18] (λp=>[(0,bS p.2.2.1 p.1.length p.2.2.2.1),(19,ab (p.2.1:Int))]) (λp=>[(p.2.2.1,aL 5 p.1 p.2.2.2.2)]) (λp=>p.1++V.encL (l.drop p.2.1)=xs++(V.list l).enc/\p.2.1<=l.length/\Fr (Gh.lent (· =b)) [w4,w] p.2.2.1/\(p.2.2.1=b\/w4.heap.size<=p.2.2.1/\w.heap.size<=p.2.2.1)/\dF p.1 p.2.2.2.1 p.2.2.2.2) (λp=>l.length-p.2.1) (xs++[3]++num l.length,0,di,c15,s15) ⟨by simp[V.enc],cV _,sy,by simpa only[Fr,Gh.lent,Gh.no,ae,and_true,false_or]using sy,qO⟩ ?_;rintro⟨ys,i,b1,c1,s1⟩ ⟨hinv,hi,hf,hg,hr⟩;dsimp only at hinv hi hf hg hr ⊢;have Aw:=congrArg List.length hinv;simp only[V.enc,ck,dC]at Aw;refine B 6 ?_;refine aG ?_ ?_
 ·intro ar;refine B 5 ?_;obtain⟨bl,cs,te,fre,rfl,jf,cJ,hcz,a1,a2,p3,n3,c3,vR,xr⟩:=hel i aa;have DI:=(aT.1 cJ).1;obtain⟨y,hy⟩:∃y,l[i]'aa=y:=⟨_,rfl⟩;rw[hy]at vR xr;have JD:y∈l:=hy▸Wu _;have hkb:=V.kind_bd y;have hed:=congrArg List.length (V.encL_drop l i aa);rw[ck,hy]at hed;refine B 2 ?_;refine rq (.agg #[ab y.kind,ab a1,.string a2,.slice p3 n3 c3]) (dQ isAgg200 sizeOf200 rfl A1 cJ (by show ¬(_=_);omega) zA aa) (va (by rw[<-vR];congr 1;omega)) ?_;refine B 1 ?_;refine yW ?_;intro b7 jy vr;refine B 3 ?_;refine eA 9 (pb:=by exact aU (X.v (av isAgg288 rfl A1 BA.atv (by show ¬(_=_);omega) zA rfl)) (zU 5 (k:=by exact aU (X.v (av (v:=.func (.func y.fn) #[] (y.cap bv).toArray) isAgg285 rfl A1 BA.atw (by show ¬(_=_);omega) zA (DK bv _ _ (by show((0+Int.toNat y.kind*1+0:Nat):Int)=_;omega)))) zT))) (k:=?_);refine Uq (i:=1) (ys:=ys++y.enc) (first:=[]) (cap:=y.cap bv) rfl rfl (DL _) rfl rfl rfl hf (λW hS hW=>ih y JD N b1 c1 bv bw ys s1 W _ (eM.up (ak _) (hS.same A1 hN (λk hk (h:k=b)=>by omega) zF) _ _ xr) (V.fineL_mem PF y JD) (BA.up (ak _) (hS.same A1 hN (λk hk (h:k=b)=>by omega) zF)) aa (dG hN (hS.links _ A1).size) hr aa hW) ?_;exact ztg
 intro ar;refine B 12 ?_;have e:i=l.length:=by omega
 subst e;rw[List.drop_of_length_le (ak _)]at hinv;simp only[V.encL,dV]at hinv;rw[<-hinv];exact nIi (i:=0) (.inl rfl) results232 rfl rfl A1 (by simp only[lF,cW,dB,sx,yx,and_true];omega) hr
theorem nLj(l:List V)(ih:∀y∈l,nqj y)(dK:(V.list l).fine)(N:Nat)(base:Option Addr)(lc bv bw:Nat)(w:World)(hN:N<=w.heap.size)(hel:JC N w base l)(BA:Wr N w bv bw)(iO:(V.list l).enc.length<=800000000000):Calls prog 232 #[ao,vL base l.length lc,ptr bv 0] w (nBm w 5 ((V.list l).enc)):=by
 simp only[V.fine]at dK;obtain⟨Ax,DH,PF⟩:=dK;have hlv:=BA.ltv;have hlw:=BA.ltw;simp only[V.enc,dC,ck]at iO;refine eN func232 ntmps232 ?_;refine B 2 ?_;refine yX ?_;intro b4 w4 hb4 Cu VX ja jb;refine B 4 ?_;refine eS 7 1 [2] (sp:=[_,_,_,_,some (.slice base l.length lc),_,_]) (h:=?_);intro _ _ hk;refine PA [3] bt zeroValue5 rfl rfl rfl rfl rfl rfl rfl rfl rfl ?_;intro b9 ha ho hx hr;have xn:w4.heap.size<=b9:=ha.1;have PI:w.heap.size<=b9:=ha.2.1;refine zG ?_;intro _ _ hk;refine apN (zs:=[3]) bt rfl rfl rfl rfl (gR.own (i:=0) underlying106 rfl) zB zB ?_;intro gf Io JF jy vr hx7 yA;have JG:w4.heap.size<=gf:=jy.1;have PK:w.heap.size<=gf:=jy.2.1;refine zE ?_;refine OJ.dropF (i:=1) rfl (.inr ⟨xn,PI,trivial⟩) ?_;refine Uq (i:=0) (ys:=[3]++num l.length) (first:=[]) (cap:=[]) rfl rfl call229 rfl rfl rfl (.inr ⟨JG,PK,trivial⟩) (λW hS hW=>n2c ([3]) l.length aa gf Io JF yA By W hW) ?_;intro di c15 s15 sy qO;have vS:=sy;replace vS:=ye vS;refine B 13 ?_;refine CJ.lp (α:=List UInt8×Nat×Nat×Nat×List Value) [2,17,18] (λp=>[(0,bS p.2.2.1 p.1.length p.2.2.2.1),(19,ab (p.2.1:Int))]) (λp=>[(p.2.2.1,aL 5 p.1 p.2.2.2.2)]) (λp=>p.1++V.encL (l.drop p.2.1)=(V.list l).enc/\p.2.1<=l.length/\Fr (Gh.no) [w4,w] p.2.2.1/\(w4.heap.size<=p.2.2.1/\w.heap.size<=p.2.2.1)/\dF p.1 p.2.2.2.1 p.2.2.2.2) (λp=>l.length-p.2.1) ([3]++num l.length,0,di,c15,s15) ⟨by simp[V.enc],cV _,sy,by simpa only[Fr,Gh.lent,Gh.no,ae,and_true,false_or]using sy,qO⟩ ?_
 rintro⟨ys,i,b1,c1,s1⟩ ⟨hinv,hi,hf,hg,hr⟩;dsimp only at hinv hi hf hg hr ⊢;have Aw:=congrArg List.length hinv;simp only[V.enc,ck,dC]at Aw;refine B 6 ?_;refine aG ?_ ?_
 ·intro ar;refine B 5 ?_;obtain⟨bl,cs,te,fre,rfl,jf,cJ,hcz,a1,a2,p3,n3,c3,vR,xr⟩:=hel i aa;have DI:=(aT.1 cJ).1;obtain⟨y,hy⟩:∃y,l[i]'aa=y:=⟨_,rfl⟩;rw[hy]at vR xr;have JD:y∈l:=hy▸Wu _;have hkb:=V.kind_bd y;have hed:=congrArg List.length (V.encL_drop l i aa);rw[ck,hy]at hed;refine B 2 ?_;refine rq (.agg #[ab y.kind,ab a1,.string a2,.slice p3 n3 c3]) (dQ isAgg200 sizeOf200 rfl A1 cJ zL zA aa) (va (by rw[<-vR];congr 1;omega)) ?_;refine B 1 ?_;refine yW ?_;intro b7 jy vr;refine B 3 ?_;refine eA 9 (pb:=by exact aU (X.v (av isAgg288 rfl A1 BA.atv zL zA rfl)) (zU 5 (k:=by exact aU (X.v (av (v:=.func (.func y.fn) #[] (y.cap bv).toArray) isAgg285 rfl A1 BA.atw zL zA (DK bv _ _ (by show((0+Int.toNat y.kind*1+0:Nat):Int)=_;omega)))) zT))) (k:=?_);refine Uq (i:=1) (ys:=ys++y.enc) (first:=[]) (cap:=y.cap bv) rfl rfl (DL _) rfl rfl rfl hf (λW hS hW=>ih y JD N b1 c1 bv bw ys s1 W _ (eM.up (ak _) hS.sm _ _ xr) (V.fineL_mem PF y JD) (BA.up (ak _) hS.sm) aa (dG hN (hS.links _ A1).size) hr aa hW) ?_;exact ztg
 intro ar;refine B 12 ?_;have e:i=l.length:=by omega
 subst e;rw[List.drop_of_length_le (ak _)]at hinv;simp only[V.encL,dV]at hinv;rw[<-hinv];exact PL (i:=0) (.inl rfl) results232 rfl rfl A1 Au hr
theorem DN:∀x,nqj x:=by
 refine V.ind ?_ ?_ ?_
 ·intro n N b cap bv bw xs sp w v hv hf _ _ _ hr hl hb;simp only[eM]at hv;subst hv;exact nHp n hf xs b cap sp hr w hb hl
 ·intro s N b cap bv bw xs sp w v hv hf _ _ _ hr hl hb;simp only[eM]at hv;subst hv;exact nko s hf xs b cap sp hr w hb hl
 intro l ih N b cap bv bw xs sp w v hv hf BA hNb hN hr hl hb;obtain⟨base,lc,rfl,hc,hel⟩:=hv.list;exact nqo l ih hf N base lc bv bw xs b cap sp hr w hb hN hNb hel BA hl
theorem nxe(l:List V)(dK:(V.list l).fine)(hd:(V.list l).depth<=16)(iO:(V.list l).enc.length<=800000000000)(N:Nat)(base:Option Addr)(lc:Nat)(w:World)(hN:N<=w.heap.size)(xr:eM N w (.list l) (vL base l.length lc)):Calls prog 85 #[vL base l.length lc] w (nyl w 5 (V.list l).enc):=by
 obtain⟨WS,lc',afI,Ip,afJ⟩:=xr.list;obtain⟨rfl,rfl⟩:base=WS/\lc=lc':=by simpa[vL]using afI
 refine eN func85 ntmps85 ?_;refine B 2 ?_;refine yX ?_;intro b1 w1 hb1 cF gA fX jq;refine B 8 ?_;refine call call162 rfl rfl rfl (λW hS=>nXm (.list l) _ _ _ _ _ dK hd N W (dG hN (hS.links _ A1).size) (eM.up aa hS.sm _ _ xr)) ?_;refine B 6 ?_;refine Iq ?_;refine eS 8 0 [3,4,5,6] (sp:=[_,_,some (ab 3),_,_,_,_,some (vL base l.length lc)]) (h:=?_);intro _ _ hk;refine nv (Φ:=λ(W:World) (p:Nat×Nat) (v1:World)=>W.heap.size<=p.1/\W.heap.size<=p.2/\v1.heap[p.2]? =some (oC #[ptr p.1 0] 288)/\v1.heap[p.1]? =some (oC (wrC p.2) 370)) call163 rfl rfl rfl (λW hS=>nri W) ?_;rintro W ⟨bw,bv⟩ w10 hSW afL ⟨h1,h2,e5,e6⟩;have h5:=hSW.sizes;replace h5:=yb h5;dsimp only at h1 h2 e5 e6;have e3:=(aT.1 e6).1;have e4:=(aT.1 e5).1;have e7:=afL.size;have e1:w1.heap.size<=bw:=by omega
 have e2:w1.heap.size<=bv:=by omega
 have e7:w1.heap.size<=w10.heap.size:=by omega
 refine zG ?_;intro _ _ hk;refine B 1 ?_;refine zG ?_;intro _ _ hk;refine B 1 ?_;refine zG ?_;intro _ _ hk;refine B 1 ?_;refine zG ?_;intro _ _ hk;refine rv rfl rfl rfl (av (v:=.func (.func 232) #[] #[ptr bv 0]) isAgg285 rfl A0 e6 zL trivial rfl) ?_;refine zE ?_;refine PM (ys:=(V.list l).enc) (first:=[]) (cap:=[ptr bv 0]) rfl call232 rfl rfl rfl (λW hS=>nLj l (λy _=>DN y) dK w10.heap.size base lc bv bw W (hS.links _ A0).size (λi hi=>by
  obtain⟨bl,cs,t,fr,h1,h2,h3,h4,a1,a2,p3,n3,c3,h5,h6⟩:=afJ i hi;have hsm:=hS.same A2 hN zI zF;exact⟨bl,cs,t,fr,h1,by omega,(hsm bl h2).trans h3,h4,a1,a2,p3,n3,c3,h5,eM.up aa hsm _ _ h6⟩) ⟨e4,e3,hS.old A0 e5 zL trivial,hS.old A0 e6 zL trivial⟩ iO) ?_
 intro b18 c18 s18 Bz PC afz WI;replace Bz:=yb Bz;refine B 5 ?_;exact PN (i:=0) (.inl rfl) results85 rfl rfl rfl A2 Au WI


end Px
