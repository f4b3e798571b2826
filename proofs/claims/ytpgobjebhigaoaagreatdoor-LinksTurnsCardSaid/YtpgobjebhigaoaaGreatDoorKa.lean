/- Contracts of functions of the program. No condition beyond those stated. -/
import Derived.Test.YtpgobjebhigaoaaGreatDoorXe
import Derived.Test.YtpgobjebhigaoaaGreatDoorProg
set_option linter.unusedSimpArgs false
set_option linter.unusedVariables false
set_option linter.unusedSectionVars false
set_option maxRecDepth 20000
set_option maxHeartbeats 8000000
namespace Px
open Go Go.RowKit Go.Proofs Go.Proofs.Tryz
theorem nzi(x y:Int)(hx:0<=x)(EB:x<18446744073709551616)(hy:0<=y)(wv:y<18446744073709551616)(w:World):Calls prog 177 #[.int .u64 x,.int .u64 y] w (av w (.tuple #[.int .u64 (x*y/18446744073709551616),.int .u64 (x*y%18446744073709551616)])):=by
 have m1:=Iv (a:=x/4294967296) (b:=y/4294967296) (A:=4294967295) (B:=4294967295) zM zM zM zM;have m2:=Iv (a:=x/4294967296) (b:=y%4294967296) (A:=4294967295) (B:=4294967295) zM zM zM zM;have m3:=Iv (a:=x%4294967296) (b:=y%4294967296) (A:=4294967295) (B:=4294967295) zM zM zM zM;have m4:=Iv (a:=x%4294967296) (b:=y/4294967296) (A:=4294967295) (B:=4294967295) zM zM zM zM;refine enter (vs:=[_,_]) func177 rfl ntmps177 rfl ?_;refine B 9 ?_;refine Y8 ?_;refine B 6 ?_;refine OL ?_;refine B 6 ?_;refine Y8 ?_;refine B 6 ?_;refine OL ?_;refine B 7 ?_;refine OM ?_;refine B 7 ?_;refine OM ?_;refine B 1 ?_;refine OL ?_;refine Qw ?_;refine B 6 ?_;refine Y8 ?_;refine B 6 ?_;refine OL ?_;refine B 8 ?_;refine OM ?_;refine Qw ?_;refine B 7 ?_;refine OM ?_;refine B 1 ?_;refine Qw ?_;refine B 1 ?_;refine OL ?_;refine Qw ?_;refine B 7 ?_;refine rv rfl rfl rfl (iK rfl rfl) ?_;refine B 4 ?_;refine nS results177 rfl rfl A0 ?_ ?_
 ·exact vu (n7o x y hx hy EB wv)
 rw[nD]
def Qx:ByteArray:=⟨#[0,1,2,2,3,3,3,3,4,4,4,4,4,4,4,4,5,5,5,5,5,5,5,5,5,5,5,5,5,5,5,5,6,6,6,6,6,6,6,6,6,6,6,6,6,6,6,6,6,6,6,6,6,6,6,6,6,6,6,6,6,6,6,6,7,7,7,7,7,7,7,7,7,7,7,7,7,7,7,7,7,7,7,7,7,7,7,7,7,7,7,7,7,7,7,7,7,7,7,7,7,7,7,7,7,7,7,7,7,7,7,7,7,7,7,7,7,7,7,7,7,7,7,7,7,7,7,7,8,8,8,8,8,8,8,8,8,8,8,8,8,8,8,8,8,8,8,8,8,8,8,8,8,8,8,8,8,8,8,8,8,8,8,8,8,8,8,8,8,8,8,8,8,8,8,8,8,8,8,8,8,8,8,8,8,8,8,8,8,8,8,8,8,8,8,8,8,8,8,8,8,8,8,8,8,8,8,8,8,8,8,8,8,8,8,8,8,8,8,8,8,8,8,8,8,8,8,8,8,8,8,8,8,8,8,8,8,8,8,8,8,8,8,8,8,8,8,8,8,8,8,8,8,8,8,8]⟩
theorem nro(n:Nat)(h:n<256):Qx[n]? =some (UInt8.ofNat (cK n)):=by
 have:∀n:Fin 256,Qx[n.val]? =some (UInt8.ofNat (cK n.val)):=by decide +kernel
 exact this ⟨n,h⟩
theorem EC{x:Int}(h0:0<=x)(h:x<256):∃b,Qx[x.toNat]? =some b/\(b.toNat:Int)=lP x:=by
 refine⟨_,nro x.toNat zM,?_⟩;have:=Qy x.toNat 8 zM;unfold lP;simp;omega
variable {aB:Array Edge} {ops:Array Oper} {cs:Array Value} {C:Cx} {E:Env} {G:Gh} {H:ad} {D:List Deferred} {L:List World} {N N' T ty:Nat} {x:Operand} {pos:String} {v:Value} {w':World}
theorem Kn{y:Operand}{n:Int}(hU:C.P.underlying T=some .string)(hx:ev E x=some (.string Qx))(hy:ev E y=some (.int .u8 n))(h0:0<=n)(h1:n<256):RV C G L H E (.index T x y) (.int .u8 (lP n)):=by
 obtain⟨b,hb,he⟩:=EC h0 h1;exact he▸yH hU hx hy h0 hb
theorem ni(x:Int)(q:Int)(k:Nat)(hq:(2:Int)^k=q)(h:q<=x):lP x=lP (x/q)+k:=by
 subst hq;exact nIm k h
theorem yI(x:Int)(h0:0<=x)(h:x<256):0<=lP x/\lP x<=8:=by
 have:=nMl (x:=x) 8 h0 rO;simpa using this
theorem rP{Q:aF}{l:List Oper}{d:Nat}{g:Option (Nat×Bool)}{y:Operand}{n:Int}(hU:C.P.underlying T=some .string)(hx:ev E x=some (.string Qx))(hw:np ops E g=some true)(hN:Nat.blt d C.N=true)(hy:ev E y=some (.int .u8 n))(h0:0<=n)(h1:n<256)(k:0<=lP n->lP n<=8->OJ C ops Q l ((d,.int .u8 (lP n))::E) D G L H):OJ C ops Q (⟨some d,.index T x y,ty,pos,aB,g⟩::l) E D G L H:=
 rv rfl hw hN (Kn hU hx hy h0 h1) (k (yI n h0 h1).1 (yI n h0 h1).2)
theorem nQf(x:Int)(hx:0<=x)(EB:x<18446744073709551616)(w:World):Calls prog 139 #[.int .u64 x] w (av w (.int .i64 (lP x))):=by
 refine enter (vs:=[_]) func139 rfl ntmps139 rfl ?_;refine B 12 ?_;refine aO ?_ ?_
 ·intro aj;refine B 3 ?_;refine OL ?_;refine B 14 ?_;refine aO ?_ ?_
  ·intro aQ;refine B 3 ?_;refine rv rfl rfl rfl (gl 16 65536 zQ rfl rfl rfl) ?_;refine B 16 ?_;refine aO ?_ ?_
   ·intro cY;refine VK ?_;refine rP underlying9 zT rfl rfl rfl zM zM (λDB Ko=>?_);refine Iw ?_
    (refine vi ?_;(try simp only[ni x 4294967296 32 zQ,ni (x/4294967296) 65536 16 zQ,ni (x/4294967296/65536) 256 8 zQ,ni (x/4294967296) 256 8 zQ,ni x 65536 16 zQ,ni (x/65536) 256 8 zQ,ni x 256 8 zQ, *]);omega)
   intro cY;refine B 6 ?_;refine Qz ?_;refine rP underlying9 zT rfl rfl rfl zM zM (λDB Ko=>?_);refine Iw ?_
   (refine vi ?_;(try simp only[ni x 4294967296 32 zQ,ni (x/4294967296) 65536 16 zQ,ni (x/4294967296/65536) 256 8 zQ,ni (x/4294967296) 256 8 zQ,ni x 65536 16 zQ,ni (x/65536) 256 8 zQ,ni x 256 8 zQ, *]);omega)
  intro aQ;refine B 9 ?_;refine aO ?_ ?_
  ·intro gb;refine VK ?_;refine rP underlying9 zT rfl rfl rfl zM zM (λDB Ko=>?_);refine Iw ?_
   (refine vi ?_;(try simp only[ni x 4294967296 32 zQ,ni (x/4294967296) 65536 16 zQ,ni (x/4294967296/65536) 256 8 zQ,ni (x/4294967296) 256 8 zQ,ni x 65536 16 zQ,ni (x/65536) 256 8 zQ,ni x 256 8 zQ, *]);omega)
  intro gb;refine B 6 ?_;refine Qz ?_;refine rP underlying9 zT rfl rfl rfl zM zM (λDB Ko=>?_);refine Iw ?_
  (refine vi ?_;(try simp only[ni x 4294967296 32 zQ,ni (x/4294967296) 65536 16 zQ,ni (x/4294967296/65536) 256 8 zQ,ni (x/4294967296) 256 8 zQ,ni x 65536 16 zQ,ni (x/65536) 256 8 zQ,ni x 256 8 zQ, *]);omega)
 intro aj;refine B 9 ?_;refine aO ?_ ?_
 ·intro gL;refine B 3 ?_;refine rv rfl rfl rfl (gl 16 65536 zQ rfl rfl rfl) ?_;refine B 16 ?_;refine aO ?_ ?_
  ·intro jL;refine VK ?_;refine rP underlying9 zT rfl rfl rfl zM zM (λDB Ko=>?_);refine Iw ?_
   (refine vi ?_;(try simp only[ni x 4294967296 32 zQ,ni (x/4294967296) 65536 16 zQ,ni (x/4294967296/65536) 256 8 zQ,ni (x/4294967296) 256 8 zQ,ni x 65536 16 zQ,ni (x/65536) 256 8 zQ,ni x 256 8 zQ, *]);omega)
  intro jL;refine B 6 ?_;refine Qz ?_;refine rP underlying9 zT rfl rfl rfl zM zM (λDB Ko=>?_);refine Iw ?_
  (refine vi ?_;(try simp only[ni x 4294967296 32 zQ,ni (x/4294967296) 65536 16 zQ,ni (x/4294967296/65536) 256 8 zQ,ni (x/4294967296) 256 8 zQ,ni x 65536 16 zQ,ni (x/65536) 256 8 zQ,ni x 256 8 zQ, *]);omega)
 intro gL;refine B 9 ?_;refine aO ?_ ?_
 ·intro jE;refine VK ?_;refine rP underlying9 zT rfl rfl rfl zM zM (λDB Ko=>?_);refine Iw ?_
  (refine vi ?_;(try simp only[ni x 4294967296 32 zQ,ni (x/4294967296) 65536 16 zQ,ni (x/4294967296/65536) 256 8 zQ,ni (x/4294967296) 256 8 zQ,ni x 65536 16 zQ,ni (x/65536) 256 8 zQ,ni x 256 8 zQ, *]);omega)
 intro jE;refine B 6 ?_;refine Qz ?_;refine rP underlying9 zT rfl rfl rfl zM zM (λDB Ko=>?_);refine Iw ?_
 (refine vi ?_;(try simp only[ni x 4294967296 32 zQ,ni (x/4294967296) 65536 16 zQ,ni (x/4294967296/65536) 256 8 zQ,ni (x/4294967296) 256 8 zQ,ni x 65536 16 zQ,ni (x/65536) 256 8 zQ,ni x 256 8 zQ, *]);omega)
theorem nFg(x:Int)(hx:0<=x)(EB:x<18446744073709551616)(w:World):Calls prog 243 #[.int .u64 x] w (av w (.int .i64 (64-lP x))):=by
 have hb:=nMl (x:=x) 64 hx (by simpa using EB);refine enter (vs:=[_]) func243 rfl ntmps243 rfl ?_;refine B 8 ?_;refine Y9 ?_;refine B 5 ?_;refine ay results243 rfl A0 ?_;rfl
theorem Za(x:Int)(hx:0<=x)(EB:x<18446744073709551616)(w:World):Calls prog 97 #[.int .u64 x] w (av w (.int .i64 (lP x))):=by
 refine enter (vs:=[_]) func97 rfl ntmps97 rfl ?_;refine B 12 ?_;refine Y9 ?_;refine B 4 ?_;refine ay results97 rfl A0 ?_;rfl
theorem nmh(u q y1 r:Nat)(h:q*y1+r=u):((u:Int)-(q:Int)*(y1:Int))=(r:Int):=by
 have:((q*y1+r:Nat):Int)=u:=by rw[h]
 simp at this;omega
theorem nrm(hi lo y:Nat)(hhi:hi<y)(hlo:lo<18446744073709551616)(hy:y<18446744073709551616)(h0:0<hi)(w:World):Calls prog 178 #[.int .u64 (hi:Int),.int .u64 (lo:Int),.int .u64 (y:Int)] w (av w (.tuple #[.int .u64 (((hi*2^64+lo)/y:Nat):Int),.int .u64 (((hi*2^64+lo)%y:Nat):Int)])):=by
 obtain⟨aP,aI,aJ⟩:=nxo y zM hy;have Zb:=(nXl y zM).2.2;obtain⟨s,hs⟩:∃s,64-cK y=s:=⟨_,rfl⟩;rw[hs]at aI aJ;have hsI:(64-lP (y:Int))=(s:Int):=by unfold lP;simp;omega
 obtain⟨Y,hY⟩:∃Y,y*2^s=Y:=⟨_,rfl⟩;rw[hY]at aI aJ;obtain⟨y1,wv⟩:∃z,Y/4294967296=z:=⟨_,rfl⟩;obtain⟨y0,rQ⟩:∃z,Y%4294967296=z:=⟨_,rfl⟩;have ON:y1*2^32+y0=Y:=by omega
 obtain⟨hN,hlt⟩:=nko hi lo y s zM hhi hlo;obtain⟨u,hu⟩:∃z,hi*2^s+lo/2^(64-s)=z:=⟨_,rfl⟩;obtain⟨v,hv⟩:∃z,lo*2^s%2^64=z:=⟨_,rfl⟩;rw[hu,hv]at hN;rw[hu,hY]at hlt;have agX:v<18446744073709551616:=by rw[<-hv];exact Nat.mod_lt _ zQ
 obtain⟨v1,hv1⟩:∃z,v/4294967296=z:=⟨_,rfl⟩;obtain⟨v0,hv0⟩:∃z,v%4294967296=z:=⟨_,rfl⟩;have fQ:2^31<=y1:=by omega
 have ED:v1<2^32:=by omega
 have oP:v0<2^32:=by omega
 have VL:u<y1*2^32+y0:=by omega
 have d1:=pF.start fQ zM zM ED VL;have agY:hi*2^s<=u:=by rw[<-hu];exact Nat.le_add_right _ _
 have QA:u/y1*y1<=u:=Nat.div_mul_le_self u y1;refine zhi ?_;refine QB ?_;refine B 8 ?_;refine call call243 rfl rfl rfl (λW hS=>nFg _ zM zM W) ?_;refine rq (.int .u64 (s:Int)) (tQ underlying3 underlying189 rfl zM zM) (vu hsI) ?_;refine B 7 ?_;refine rq (.int .u64 (Y:Int)) (mN rfl rfl zM) (vu ((yJ y s zM zM).trans (by rw[hY]))) ?_;refine B 6 ?_;refine rq (.int .u64 (y1:Int)) (gl 32 4294967296 zQ rfl rfl rfl) (vu zM) ?_;refine B 6 ?_;refine rq (.int .u64 (y0:Int)) (mO 32 4294967296 zQ rfl rfl rfl rfl zM zM) (vu zM) ?_;refine B 7 ?_;refine rq (.int .u64 ((hi*2^s:Nat):Int)) (mN rfl rfl zM) (vu (yJ hi s zM zM)) ?_;refine B 2 ?_;refine rv rfl rfl rfl (mP rfl rfl zM zM) ?_;refine rq (.int .u64 ((lo/2^(64-s):Nat):Int)) (iL rfl rfl zM) (vu (Kp lo s _ zM)) ?_;refine rq (.int .u64 (u:Int)) (vj rfl rfl) (vu ((Ix hi _ s (yK lo s zM hlo) zM).trans (by rw[hu]))) ?_;refine B 7 ?_;refine rq (.int .u64 (v:Int)) (mN rfl rfl zM) (vu ((EE lo s zM).trans (by rw[hv]))) ?_;refine B 6 ?_;refine rq (.int .u64 (v1:Int)) (gl 32 4294967296 zQ rfl rfl rfl) (vu zM) ?_;refine B 6 ?_;refine rq (.int .u64 (v0:Int)) (mO 32 4294967296 zQ rfl rfl rfl rfl zM zM) (vu zM) ?_;refine B 7 ?_;refine rq (.int .u64 ((u/y1:Nat):Int)) (tR rfl rfl zM zM zM) (vu (VM u y1)) ?_;refine B 8 ?_;refine OM ?_
 refine rq (.int .u64 ((u%y1:Nat):Int)) (mP rfl rfl zM zM) (vu (nmh _ _ _ _ d1.eq)) ?_;refine B 5 ?_;refine CJ.loop (α:=Nat×Nat) (λp=>[(2,.int .u64 (Y:Int)),(8,.int .u64 (s:Int)),(9,.int .u64 (y1:Int)),(10,.int .u64 (y0:Int)),(11,.int .u64 (u:Int)),(13,.int .u64 (v1:Int)),(14,.int .u64 (v0:Int)),(15,.int .u64 (p.1:Int)),(16,.int .u64 (p.2:Int))]) (λp=>[]) (λp=>[w]) (λp=>Gh.no) (λp=>pF u y1 y0 v1 p.1 p.2) (λp=>p.1) (u/y1,u%y1) d1 zR rfl rfl z1 ?_;rintro⟨q,r⟩ hd;dsimp only;replace hd:pF u y1 y0 v1 q r:=hd;have OO:=hd.lt;have Zc:=hd.le;have Zd:(0:Int)<=(q:Int)*(y0:Int):=Int.mul_nonneg zM zM;have VN:(q:Int)<=4294967295->(q:Int)*(y0:Int)<=4294967295*4294967295:=λh=>(Iv zM h zM zM).2;refine B 6 ?_;refine nh (t:=69) rfl (λaj=>?_) (λaj=>?_)
 ·replace aj:=ya aj;refine B 18 ?_;obtain⟨aX,aE,aD⟩:=hd.more fQ VL ED zM;refine Iy ?_;refine aO ?_ ?_
  ·intro aQ;refine Ze ?_;first|(have tS:=hd.stop fQ zM;obtain⟨q1,rfl⟩:∃q1,q1=q:=⟨_,rfl⟩)|(have tS:=VO zM zM aE aD fQ zM;generalize q-1=q1 at *)
   rw[ON]at tS;obtain⟨r1,kM⟩:∃z,(u*2^32+v1)%Y=z:=⟨_,rfl⟩;have QC:r1<Y:=by rw[<-kM];exact Nat.mod_lt _ zM
   have fW:q1*Y+r1=u*2^32+v1:=by have:=wx (u*2^32+v1) Y;rw[tS,kM,ts]at this;exact this
   have d2:=pF.start fQ zM zM oP (show r1<y1*2^32+y0 by omega);have QD:r1/y1*y1<=r1:=Nat.div_mul_le_self r1 y1;have qg:r1<y1*2^32+y0:=by omega
   clear hd;try clear aX aE aD
   refine Zg ?_;rintro⟨q,r⟩ hd;dsimp only;replace hd:pF r1 y1 y0 v0 q r:=hd;have OO:=hd.lt;have Zc:=hd.le;have Zd:(0:Int)<=(q:Int)*(y0:Int):=Int.mul_nonneg zM zM;have VN:(q:Int)<=4294967295->(q:Int)*(y0:Int)<=4294967295*4294967295:=λh=>(Iv zM h zM zM).2;refine B 6 ?_;refine nh (t:=104) rfl (λcY=>?_) (λcY=>?_)
   ·replace cY:=ya cY;refine B 18 ?_;obtain⟨aX,aE,aD⟩:=hd.more fQ qg oP zM;refine Iy ?_;refine aO ?_ ?_
    ·intro gb;exact OP
    intro gb;exact Iz
   replace cY:=ya cY;refine VP ?_;refine aO ?_ ?_
   ·intro gL;refine B 6 ?_;obtain⟨aX,aE,aD⟩:=hd.more fQ qg oP zM;refine Iy ?_;refine aO ?_ ?_
    ·intro jL;exact OP
    intro jL;exact Iz
   intro gL;refine B 6 ?_;exact VQ
  intro aQ;exact Iz
 replace aj:=ya aj;refine VP ?_;refine aO ?_ ?_
 ·intro jE;refine B 6 ?_;obtain⟨aX,aE,aD⟩:=hd.more fQ VL ED zM;refine Iy ?_;refine aO ?_ ?_
  ·intro tT;refine Ze ?_;first|(have tS:=hd.stop fQ zM;obtain⟨q1,rfl⟩:∃q1,q1=q:=⟨_,rfl⟩)|(have tS:=VO zM zM aE aD fQ zM;generalize q-1=q1 at *)
   rw[ON]at tS;obtain⟨r1,kM⟩:∃z,(u*2^32+v1)%Y=z:=⟨_,rfl⟩;have QC:r1<Y:=by rw[<-kM];exact Nat.mod_lt _ zM
   have fW:q1*Y+r1=u*2^32+v1:=by have:=wx (u*2^32+v1) Y;rw[tS,kM,ts]at this;exact this
   have d2:=pF.start fQ zM zM oP (show r1<y1*2^32+y0 by omega);have QD:r1/y1*y1<=r1:=Nat.div_mul_le_self r1 y1;have qg:r1<y1*2^32+y0:=by omega
   clear hd;try clear aX aE aD
   refine Zg ?_;rintro⟨q,r⟩ hd;dsimp only;replace hd:pF r1 y1 y0 v0 q r:=hd;have OO:=hd.lt;have Zc:=hd.le;have Zd:(0:Int)<=(q:Int)*(y0:Int):=Int.mul_nonneg zM zM;have VN:(q:Int)<=4294967295->(q:Int)*(y0:Int)<=4294967295*4294967295:=λh=>(Iv zM h zM zM).2;refine B 6 ?_;refine nh (t:=104) rfl (λrn=>?_) (λrn=>?_)
   ·replace rn:=ya rn;refine B 18 ?_;obtain⟨aX,aE,aD⟩:=hd.more fQ qg oP zM;refine Iy ?_;refine aO ?_ ?_
    ·intro qh;exact OP
    intro qh;exact Iz
   replace rn:=ya rn;refine VP ?_;refine aO ?_ ?_
   ·intro qi;refine B 6 ?_;obtain⟨aX,aE,aD⟩:=hd.more fQ qg oP zM;refine Iy ?_;refine aO ?_ ?_
    ·intro kY;exact OP
    intro kY;exact Iz
   intro qi;refine B 6 ?_;exact VQ
  intro tT;exact Iz
 intro jE;refine B 6 ?_;first|(have tS:=hd.stop fQ zM;obtain⟨q1,rfl⟩:∃q1,q1=q:=⟨_,rfl⟩)|(have tS:=VO zM zM aE aD fQ zM;generalize q-1=q1 at *)
 rw[ON]at tS;obtain⟨r1,kM⟩:∃z,(u*2^32+v1)%Y=z:=⟨_,rfl⟩;have QC:r1<Y:=by rw[<-kM];exact Nat.mod_lt _ zM
 have fW:q1*Y+r1=u*2^32+v1:=by have:=wx (u*2^32+v1) Y;rw[tS,kM,ts]at this;exact this
 have d2:=pF.start fQ zM zM oP (show r1<y1*2^32+y0 by omega);have QD:r1/y1*y1<=r1:=Nat.div_mul_le_self r1 y1;have qg:r1<y1*2^32+y0:=by omega
 clear hd;try clear aX aE aD
 refine Zg ?_;rintro⟨q,r⟩ hd;dsimp only;replace hd:pF r1 y1 y0 v0 q r:=hd;have OO:=hd.lt;have Zc:=hd.le;have Zd:(0:Int)<=(q:Int)*(y0:Int):=Int.mul_nonneg zM zM;have VN:(q:Int)<=4294967295->(q:Int)*(y0:Int)<=4294967295*4294967295:=λh=>(Iv zM h zM zM).2;refine B 6 ?_;refine nh (t:=104) rfl (λkZ=>?_) (λkZ=>?_)
 ·replace kZ:=ya kZ;refine B 18 ?_;obtain⟨aX,aE,aD⟩:=hd.more fQ qg oP zM;refine Iy ?_;refine aO ?_ ?_
  ·intro tU;exact OP
  intro tU;exact Iz
 replace kZ:=ya kZ;refine VP ?_;refine aO ?_ ?_
 ·intro tV;refine B 6 ?_;obtain⟨aX,aE,aD⟩:=hd.more fQ qg oP zM;refine Iy ?_;refine aO ?_ ?_
  ·intro yL;exact OP
  intro yL;exact Iz
 intro tV;refine B 6 ?_;exact VQ
theorem nHm(lo y:Nat)(h0:0<y)(hlo:lo<18446744073709551616)(hy:y<18446744073709551616)(w:World):Calls prog 178 #[.int .u64 0,.int .u64 (lo:Int),.int .u64 (y:Int)] w (av w (.tuple #[.int .u64 ((lo/y:Nat):Int),.int .u64 ((lo%y:Nat):Int)])):=by
 refine zhi ?_;refine DC ?_;refine B 4 ?_;refine ng (E':=[(0,_),(1,_),(2,_),(7,_),(19,_),(20,_),(22,_),(23,_),(24,_),(26,_),(27,_)]) zR ?_;refine nk 7 [.det [] _,.det [] _,.det [0,1] _,.det [] _,.det [] _,.det [3,4] _,.det [2] _] zT (xc zO (xc zO (xc (by exact λae=>X.val rfl rfl (tR rfl rfl zM zM zM) (λ_ _=>rfl)) (xc zO (xc zO (xc (by exact λae=>X.val rfl rfl (yM rfl rfl zM zM) (λ_ _=>rfl)) (xc (by exact λae=>X.val rfl rfl (kp rfl) (λ_ _=>rfl)) (xn)))))))) zT zT zT (λae=>?_);refine B 5 ?_;refine nS results178 rfl rfl A0 ?_ ?_
 ·exact vu (VM lo y)
 exact vu (Int.natCast_emod lo y).symm
theorem n2f(hi lo y:Int)(h0:0<=hi)(h1:hi<y)(h2:0<=lo)(h3:lo<18446744073709551616)(h4:y<18446744073709551616)(w:World):Calls prog 178 #[.int .u64 hi,.int .u64 lo,.int .u64 y] w (av w (.tuple #[.int .u64 ((hi*18446744073709551616+lo)/y),.int .u64 ((hi*18446744073709551616+lo)%y)])):=by
 obtain⟨a,rfl⟩:=DD h0;obtain⟨b,rfl⟩:=DD h2;obtain⟨c,rfl⟩:=DD (Int.le_trans h0 (Int.le_of_lt h1));have e:((a:Int)*18446744073709551616+(b:Int))=((a*2^64+b:Nat):Int):=by simp
 rw[e,VM,<-Int.natCast_emod];by_cases ha:a=0
 ·subst ha;have:=nHm b c zM zM zM w;simpa using this
 exact nrm a b c zM zM zM zM w
theorem nCi{a b p:Int}(ha:0<=a)(eb:a<p)(hb:0<=b)(aP:b<p)(hp:p<18446744073709551616):0<=a*b/18446744073709551616/\a*b/18446744073709551616<p/\0<=a*b%18446744073709551616/\a*b%18446744073709551616<18446744073709551616/\a*b/18446744073709551616*18446744073709551616+a*b%18446744073709551616=a*b:=by
 have h0:0<=a*b:=Int.mul_nonneg ha hb;have h1:a*b<=a*18446744073709551616:=Int.mul_le_mul_of_nonneg_left zM ha;refine⟨by omega,by omega,by omega,by omega,by omega⟩
theorem Zh(a b:Int)(ha:0<=a)(eb:a<4611686018427377339)(hb:0<=b)(aP:b<4611686018427377339)(w:World):Calls prog 173 #[.int .u64 a,.int .u64 b] w (av w (.int .u64 (a*b%4611686018427377339))):=by
 obtain⟨m1,m2,m3,m4,m5⟩:=nCi ha eb hb aP zQ;refine enter (vs:=[_,_]) func173 rfl ntmps173 rfl ?_;refine B 9 ?_;refine zzi ?_;refine B 14 ?_;refine ay results173 rfl A0 ?_
 (rw[m5];rfl)
theorem nZk(k:Int)(w:World):Calls prog 172 #[.int .u64 k] w (cu w (λb=>.func (.func 240) #[] #[ptr b 0]) (λb w1=>w.heap.size<=b/\w1.heap[b]? =some (.cells #[.int .u64 k] 202 (0,0)))):=by
 refine enter (vs:=[_]) func172 rfl ntmps172 rfl ?_;refine B 2 ?_;refine yX ?_;intro b1 w1 aP aX fW eb ir;refine B 10 ?_;refine jM b1 results172 rfl A1 rfl ?_;exact Zi
def pG (n:Nat):List Bool:=(List.range (cK n)).reverse.map (λi=>n.testBit i)
theorem Zj(n:Nat):(pG n).length=cK n:=by simp[pG]
theorem Zk(n j:Nat)(h:j<cK n):(pG n).take (j+1)=(pG n).take j++[n.testBit (cK n-1-j)]:=by
 have hl:j<(pG n).length:=by rw[Zj];exact h
 rw[IA hl];congr 2;simp[pG]
theorem Kq(n i:Nat):decide (((n/2^i:Nat):Int)%2=1)=n.testBit i:=by
 rw[Nat.testBit_eq_decide_div_mod_eq];congr 1;apply propext;omega
theorem nzl(n j:Nat)(h:j<cK n):((pG n).take j++[n.testBit (cK n-1-j)]) <+:pG n:=by
 rw[<-Zk n j h];exact List.take_prefix _ _
theorem nBm(n:Nat)(hn:n<18446744073709551616)(b:Nat)(W:World)(aP:W.heap[b]? =some (.cells #[.int .u64 (n:Int)] 202 (0,0))):OQ prog 240 [ptr b 0] (λx:Bool=>[.bool x]) (pG n) (λ_=>False) (λk=>k=b) W:=by
 intro l M I X0 hM hI hX hy h0;have aX:¬M b:=λh=>(hM b h).2.2 rfl;have jN:=Qy n 64 hn;have VR:lP (n:Int)=(cK n:Int):=by simp[lP]
 refine nM (DE hM (hI [])) [] (vs:=[_,_]) func240 rfl ntmps240 rfl (yN hM (hI []) h0) ?_;refine B 3 ?_;refine Y9 ?_;refine z6g ?_;refine B 4 ?_;refine zfg ?_;rintro j hj;refine B 7 ?_;refine aO ?_ ?_
 ·intro aj;refine B 9 ?_;refine rq (.int .u64 ((n/2^(cK n-1-j):Nat):Int)) (iL rfl rfl zM) (vu (yO n _ _ zM zM)) ?_;refine rv rfl rfl rfl (mO 1 2 zQ rfl rfl rfl rfl (Int.natCast_nonneg _) (Int.lt_of_le_of_lt (Int.ofNat_le.2 (Nat.div_le_self n _)) zM)) ?_;refine zBh ?_;refine yld (DE hM (hI ((pG n).take (j+1)))) (DE hM hX) rfl rfl rfl rfl (λW1 hS=>by have:=hy ((pG n).take j) _ W1 (nzl n j zM) hS.ghost;rw[<-Zk n j zM]at this;exact this) rfl rfl rfl rfl ?_ ?_
  ·exact zOk
  refine B 9 ?_;exact QE (.inl rfl) results240 A0 (λA hA=>.inr hA)
 intro aj;refine B 4 ?_;exact QE (.inr rfl) results240 A0 (λA hA=>.inl (by have e:=jo (l:=pG n) (i:=j) (by rw[Zj];omega);rw[e]at hA;exact hA))
def nL (a m:Int):List Bool->Int->Int
 | [],c=>c
 |b::bs,c=>nL a m bs (if b then(c*c%m)*a%m else c*c%m)
theorem VS(a m:Int)(bs:List Bool)(b:Bool)(c:Int):nL a m (bs++[b]) c=if b then(nL a m bs c*nL a m bs c%m)*a%m else nL a m bs c*nL a m bs c%m:=by
 induction bs generalizing c with
 |nil=>rfl
 |cons x bs ih=>simp only[fj,nL];exact ih _
theorem Zl(a m:Int)(hm:0<m)(bs:List Bool)(c:Int)(h0:0<=c)(h1:c<m):0<=nL a m bs c/\nL a m bs c<m:=by
 induction bs generalizing c with
 |nil=>exact⟨h0,h1⟩
 |cons x bs ih=>
  simp only[nL];apply ih
  ·split<;>exact Int.emod_nonneg _ zM
  split<;>exact Int.emod_lt_of_pos _ hm
def qj (a n m:Int):Int:=nL a m (pG n.toNat) 1
theorem nPh(a k:Int)(ha:0<=a)(eb:a<4611686018427377339)(hk:0<=k)(VT:k<18446744073709551616)(w:World):Calls prog 109 #[.int .u64 a,.int .u64 k] w (av w (.int .u64 (qj a k 4611686018427377339))):=by
 refine wy Gh.no [] (vs:=[_,_]) func109 rfl ntmps109 rfl (rR w) ?_;refine B 2 ?_;refine yX ?_;intro b2 w2 aI aE dY cA db;refine B 5 ?_;refine aY zeroValue202 rfl rfl ?_;refine yW ?_;intro b5 iu iv;refine VU ?_;refine B 6 ?_;refine nr (Φ:=λW b w1=>W.heap.size<=b/\w1.heap[b]? =some (.cells #[.int .u64 k] 202 (0,0))) call172 rfl rfl rfl (λW hS=>nZk _ W) ?_;intro Wd bd wd pH QF Zm;obtain⟨Kr,oQ⟩:=Zm;have QG:=pH.under;simp only[xS,dC,fk]at QG;have IB:=pH.sizes;replace IB:=yb IB;have Zn:=QF.size;refine B 3 ?_;refine CJ.range (f:=240) (cap:=[ptr bd 0]) (α:=Bool) (enc:=(λx:Bool=>[.bool x])) (xs:=pG k.toNat) (MI:=λ_=>False) (RO:=λk=>k=bd) rfl call240 (λW W2 hS hB=>by have e:(.int .u64 k:Value)= .int .u64 ((k.toNat:Nat):Int):=(by rw[Int.toNat_of_nonneg hk]);exact nBm k.toNat zM bd W2 (by rw[<-e,hB.block bd Zo];exact hS.old A0 oQ zZ (by simp only[bE,dC,ne_eq,and_true];omega))) (λ_ _ _ hk=>hk.elim) (λW hS k hk=>by subst hk;have:=hS.sizes;simp only[ab]at this;have:=(aL.1 oQ).1;refine⟨by omega,by simp only[dC,eF,iz,ql];omega,λh=>h⟩) (λ_=>rfl) (λpre Hc=>Hc=[(b5,.cells #[.int .u64 (nL a 4611686018427377339 pre 1)] 202 (0,0))]) (λ_ _=>False) rfl (by rintro pre Hc rfl;rfl) (λ_ _ hk=>hk.elim) zQ ?_ ?_ ?_
 ·rintro pre x Hc l Dk rec Wy iM mz dF rfl cQ eW yP mQ;simp only[ab]at cQ mQ;have Ks:=Zl a 4611686018427377339 zQ pre 1 zQ zQ;have hX:=Int.emod_nonneg (nL a 4611686018427377339 pre 1*nL a 4611686018427377339 pre 1) (b:=4611686018427377339) zQ;have fl:=Int.emod_lt_of_pos (nL a 4611686018427377339 pre 1*nL a 4611686018427377339 pre 1) (b:=4611686018427377339) zQ;refine OR ?_;refine B 5 ?_;refine call call173 rfl rfl rfl (λW hS=>Zh _ _ zM zM zM zM W) ?_;refine VU ?_;refine B 7 ?_;refine aO ?_ ?_
  ·intro aj;refine B 3 ?_;refine call call173 rfl rfl rfl (λW hS=>Zh _ _ zM zM zM zM W) ?_;refine VU ?_;refine B 2 ?_;exact VV (Hc:=[(b5,.cells #[.int .u64 (nL a 4611686018427377339 pre 1*nL a 4611686018427377339 pre 1%4611686018427377339*a%4611686018427377339)] 202 (0,0))]) (λ_ hk=>hk) (by cases rec;simp_all) (by rw[VS,aj];rfl)
  intro aj;refine B 2 ?_;exact VV (Hc:=[(b5,.cells #[.int .u64 (nL a 4611686018427377339 pre 1*nL a 4611686018427377339 pre 1%4611686018427377339)] 202 (0,0))]) (λ_ hk=>hk) (by cases rec;simp_all) (by rw[VS,aj];rfl)
 ·rintro l Dk rec Hc cQ eW rfl;replace cQ:=yb cQ;refine B 9 ?_;refine IC (.inl rfl) results109 rfl vk (λW H' hS bF=>⟨?_,?_⟩)
  ·exact congrArg Ending.returned rfl
  exact z6k
 exact λ_ _ _ _ _ _ _ hk=>hk.elim
theorem VW(a k m:Int)(hm:1<m):0<=qj a k m/\qj a k m<m:=Zl a m zM _ 1 zM hm
abbrev cE (a:Int):Prop:=1<=a/\a<4611686018427377339/\qj a 2305843009213688669 4611686018427377339=1
def gExp (a k:Int):Int×Int:=if cE a then if 0<=k/\k<2305843009213688669 then(qj a k 4611686018427377339,0)else(0,1)else(0,40)
def lQ (p:Int×Int):Value:=.tuple #[.int .i64 p.1,.int .i64 p.2]
theorem nE(a:Int)(w:World):Calls prog 63 #[.int .i64 a] w (av w (.int .i64 (if cE a then 0 else 40))):=by
 have hp:=VW a 2305843009213688669 4611686018427377339 zQ;refine enter (vs:=[_]) func63 rfl ntmps63 rfl ?_;refine B 11 ?_;refine nh (t:=5) rfl (λaj=>?_) (λaj=>?_)
 ·replace aj:=ya aj;refine B 19 ?_;refine VX ?_;split<;>omega
 replace aj:=ya aj;refine B 4 ?_;refine nh (t:=9) rfl (λaQ=>?_) (λaQ=>?_)
 ·replace aQ:=ya aQ;refine B 15 ?_;refine VX ?_;split<;>omega
 replace aQ:=ya aQ;refine B 2 ?_;refine call call109 rfl rfl rfl (λW hS=>nPh _ _ zM zM zM zM W) ?_;refine B 4 ?_;refine aO ?_ ?_
 ·intro cY;refine B 7 ?_;refine VX ?_;split<;>omega
 intro cY;refine B 8 ?_;refine VX ?_;split<;>omega
theorem Zp(a k:Int)(w:World):Calls prog 62 #[.int .i64 a,.int .i64 k] w (av w (lQ (gExp a k))):=by
 have hp:=VW a k 4611686018427377339 zQ;refine enter (vs:=[_,_]) func62 rfl ntmps62 rfl ?_;refine B 10 ?_;refine OT ?_;refine B 9 ?_;refine aO ?_ ?_
 ·intro aj;refine B 1 ?_;have hg:¬cE a:=λh=>by simp[if_pos h]at aj
  refine B 8 ?_;exact VY
 intro aj;refine B 4 ?_;have hg:cE a:=Decidable.byContradiction λh=>by simp[if_neg h]at aj
 refine B 4 ?_;refine nh (t:=14) rfl (λaQ=>?_) (λaQ=>?_)
 ·replace aQ:=ya aQ;refine B 14 ?_;exact VY
 replace aQ:=ya aQ;refine B 5 ?_;refine aO ?_ ?_
 ·intro cY;refine B 8 ?_;exact VY
 intro cY;refine B 8 ?_;refine call call109 rfl rfl rfl (λW hS=>nPh _ _ zM zM zM zM W) ?_;refine B 6 ?_;exact VY
theorem nTi(k:Int)(w:World):Calls prog 65 #[.int .i64 k] w (av w (lQ (gExp 4 k))):=by
 refine enter (vs:=[_]) func65 rfl ntmps65 rfl ?_;refine B 9 ?_;refine call call62 rfl rfl rfl (λW hS=>Zp _ _ W) ?_;refine B 7 ?_;refine nS results65 rfl rfl A0 ?_ ?_;all_goals rfl
theorem EF(x b:Int)(h0:0<=b)(h1:b<256):IntKind.u64.wrap (BitVec.ofInt IntKind.u64.bits (IntKind.u64.wrap (x*256))|||BitVec.ofInt IntKind.u64.bits b).toNat=(x*256)%18446744073709551616+b:=by
 obtain⟨y,hy⟩:∃y:Nat,(x*256)%18446744073709551616=((y*2^8:Nat):Int):=⟨((x*256)%18446744073709551616/256).toNat,by omega⟩;obtain⟨c,rfl⟩:=DD h0;rw[hy,(nD (x*256)).trans hy,Ix y c 8 zM zM];omega
theorem EG(n b m:Int):n/72057594037927936*18446744073709551616+(n*256%18446744073709551616+b)=n*256+b:=by omega
def DF (m:Int):List Int->Int->Int
 | [],n=>n
 |b::bs,n=>DF m bs ((n*256+b)%m)
theorem n4n(m:Int)(bs:List Int)(b n:Int):DF m (bs++[b]) n=(DF m bs n*256+b)%m:=by
 induction bs generalizing n with
 |nil=>rfl
 |cons x bs ih=>simp only[fj,DF];exact ih _
theorem Zq(m:Int)(hm:0<m)(bs:List Int)(n:Int)(h0:0<=n)(h1:n<m):0<=DF m bs n/\DF m bs n<m:=by
 induction bs generalizing n with
 |nil=>exact⟨h0,h1⟩
 |cons x bs ih=>exact ih _ (Int.emod_nonneg _ zM) (Int.emod_lt_of_pos _ hm)
theorem nOm(c n m:Int)(b b2:Nat)(hc:0<=c)(aj:c<256)(hn:0<=n)(hnm:n<m)(hm:m<72057594037927936*256)(w:World)(hb:w.heap[b]? =some (.cells #[.int .u64 n] 202 (0,0)))(aI:w.heap[b2]? =some (.cells #[.int .u64 m] 202 (0,0)))(dG:b≠b2):Calls prog 241 #[.int .u8 c,ptr b 0,ptr b2 0] w (tW w (.tuple #[]) b (.cells #[.int .u64 ((n*256+c)%m)] 202 (0,0))):=by
 have aE:¬Gh.no.M b2:=λh=>h;refine nM Gh.no [(b,_)] (vs:=[_,_,_]) func241 rfl ntmps241 rfl (OU hb) ?_;refine B 2 ?_;refine rv rfl rfl rfl (gl 56 72057594037927936 zQ rfl rfl rfl) ?_;refine B 1 ?_;refine rv rfl rfl rfl (yQ 8 256 zQ rfl rfl rfl) ?_;refine B 2 ?_;refine rq (.int .u64 ((n*256)%18446744073709551616+c)) (vj rfl rfl) (vu (EF n c hc aj)) ?_;refine B 1 ?_;refine zph ?_;refine B 2 ?_;refine rq (.int .u64 ((n*256+c)%m)) (gB rfl rfl) (vu (by rw[EG n c m])) ?_;refine kq (i:=0) rfl sizeOf202 rfl rfl rfl rfl (aT rfl) rfl ?_;refine B 1 ?_;refine bJ (.inr rfl) results241 RS.n (λW hS=>⟨rfl,(hS.links w A0).mono λk _ hk=>?_,hS.own _ A0⟩);simpa[Gh.no]using hk
def dg (f:Nat->Int):Array Value:=#[.int .u8 (f 0),.int .u8 (f 1),.int .u8 (f 2),.int .u8 (f 3),.int .u8 (f 4),.int .u8 (f 5),.int .u8 (f 6),.int .u8 (f 7),.int .u8 (f 8),.int .u8 (f 9),.int .u8 (f 10),.int .u8 (f 11),.int .u8 (f 12),.int .u8 (f 13),.int .u8 (f 14),.int .u8 (f 15),.int .u8 (f 16),.int .u8 (f 17),.int .u8 (f 18),.int .u8 (f 19),.int .u8 (f 20),.int .u8 (f 21),.int .u8 (f 22),.int .u8 (f 23),.int .u8 (f 24),.int .u8 (f 25),.int .u8 (f 26),.int .u8 (f 27),.int .u8 (f 28),.int .u8 (f 29),.int .u8 (f 30),.int .u8 (f 31)]
def rp (f:Nat->Int):List Int:=(List.range 32).map f
abbrev jq (f:Nat->Int):Prop:=∀i,0<=f i/\f i<256
theorem pI(f:Nat->Int)(i:Nat)(h:i<32):(dg f)[i]? =some (.int .u8 (f i)):=by
 have e:dg f=((List.range 32).map λi=>Value.int .u8 (f i)).toArray:=rfl;rw[e];simp[h]
theorem yR(f:Nat->Int)(j:Nat)(h:j<32):(rp f).take (j+1)=(rp f).take j++[f j]:=by
 have hl:j<(rp f).length:=by simp[rp];exact h
 rw[IA hl];simp[rp]
theorem neo(f:Nat->Int)(hf:jq f)(m:Int)(tX:0<m)(hm:m<72057594037927936*256)(w:World):Calls prog 174 #[.agg (dg f),.int .u64 m] w (av w (.int .u64 (DF m (rp f) 0))):=by
 refine enter (vs:=[_,_]) func174 rfl ntmps174 rfl ?_;refine B 2 ?_;refine yX ?_;intro b2 w2 aI aE dY cA db;refine yX ?_;intro b3 w3 aJ aD dr bY cR;refine aY zeroValue202 rfl rfl ?_;refine yW ?_;intro b4 dD dH;refine B 11 ?_;refine rv rfl rfl rfl (af isAgg34 sizeOf34 rfl A1 aI aE zL rfl) ?_;refine B 4 ?_;refine CJ.loop (α:=Nat) (λj=>[(2,ptr b2 0),(3,ptr b3 0),(4,ptr b4 0),(5,.func (.func 241) #[] #[ptr b4 0,ptr b3 0]),(9,.agg (dg f)),(10,.int .i64 (j:Int))]) (λj=>[(b4,.cells #[.int .u64 (DF m ((rp f).take j) 0)] 202 (0,0))]) (λj=>[w3,w2,w]) (λj=>Gh.no) (λj=>j<=32) (λj=>32-j) 0 zQ zR rfl rfl z1 ?_;rintro j hj;have Ks:=Zq m tX ((rp f).take j) 0 zQ tX;refine B 6 ?_;refine aO ?_ ?_
 ·intro aj;refine B 6 ?_;refine rq (.int .u8 (f j)) (qm underlying34 isAgg5 sizeOf5 rfl rfl zM zM (pI f _ zM)) (congrArg (λk=>Value.int .u8 (f k)) zM) ?_;refine B 6 ?_;refine Kt (f:=241) (i:=0) (first:=[]) (cap:=[ptr b4 0,ptr b3 0]) rfl rfl call241 rfl rfl rfl (λW hS hW=>nOm _ _ _ _ _ (hf j).1 (hf j).2 Ks.1 Ks.2 hm W hW (hS.old A0 aJ aD qo) zM) ?_;refine B 7 ?_;refine PJ.reH (H':=[(b4,.cells #[.int .u64 (DF m ((rp f).take (j+1)) 0)] 202 (0,0))]) (by rw[yR f j zM,n4n];rfl) ?_;exact EH
 intro aj;refine B 8 ?_;refine VU ?_;refine B 3 ?_;refine bG (.inl rfl) results174 (RS.w (i:=0) rfl isAgg202 rfl rfl (RS.n)) A2 zS ?_;exact vu (by rw[jo (by simp[rp];omega)])
end Px
namespace Px
open Go

end Px
namespace Px
open Go Go.RowKit Go.Proofs Go.Proofs.Tryz
def jO (a:Int):Bool:=decide (a<0)||decide (2305843009213688669<=a)
theorem VZ{a:Int}:jO a=false↔0<=a/\a<2305843009213688669:=by simp[jO]
theorem V3{a:Int}:jO a=true↔¬(0<=a/\a<2305843009213688669):=by simp[jO];omega
theorem nPj(a:Int)(w:World):Calls prog 176 #[.int .i64 a] w (av w (.bool (jO a))):=by
 refine enter (vs:=[_]) func176 rfl ntmps176 rfl ?_;refine B 10 ?_;refine nh (t:=5) rfl (λaj=>?_) (λaj=>?_)
 ·exact zFk
 exact zFk
def tY (p:Int->Bool) (xs:List Int):Int:=match xs.findIdx? p with|some i=>(i:Int)|none=> -1
theorem yS(p:Int->Bool)(xs:List Int)(j:Nat)(hj:j<xs.length)(h:∀x∈xs.take j,p x=false)(hp:p xs[j]=true):tY p xs=(j:Int):=by
 unfold tY;have:xs.findIdx? p=some j:=by
  rw[V4];refine⟨hj,hp,λi hi=>?_⟩;have:=h (xs[i]'zM) (by rw[List.mem_take_iff_getElem];exact⟨i,by omega,rfl⟩);simp[this]
 rw[this]
theorem nQo(p:Int->Bool)(xs:List Int)(h:∀x∈xs,p x=false):tY p xs= -1:=by
 unfold tY;have:xs.findIdx? p=none:=by rw[List.findIdx?_eq_none_iff];exact h
 rw[this]
theorem yT(p:Int->Bool)(xs:List Int):decide (0<=tY p xs)=xs.any p:=by
 unfold tY;cases h:xs.findIdx? p with
 |some i=>
  obtain⟨h1,h2,_⟩:=V4.1 h;have:xs.any p=true:=List.any_eq_true.2 ⟨xs[i],QH h1,h2⟩;rw[this];simp
 |none=>
  have:xs.any p=false:=List.any_eq_false.2 (by simpa using List.findIdx?_eq_none_iff.1 h);rw[this];simp
def ints (xs:List Int):Array Value:=(xs.map λx=>Value.int .i64 x).toArray
theorem ints_at(xs:List Int)(j:Nat)(h:j<xs.length):(ints xs)[j]? =some (.int .i64 xs[j]):=by simp[ints,h]
theorem nzk(p:Int->Bool)(f:Nat)(ax:dU prog f)(hp:∀x W,Calls prog f #[.int .i64 x] W (av W (.bool (p x))))(xs:List Int)(b T n c:Nat)(fr:Nat×Nat)(hn:xs.length=n)(Ku:n<9223372036854775807)(w:World)(mA:w.heap[b]? =some (.cells (ints xs) T fr)):Calls prog 242 #[.slice (some ⟨b,0,none⟩) n c,.func (.func f) #[] #[]] w (av w (.int .i64 (tY p xs))):=by
 have tX:¬Gh.no.M b:=λh=>h;refine enter (vs:=[_,_]) func242 rfl ntmps242 rfl ?_;refine B 14 ?_;refine CJ.loop (α:=Nat) (λj=>[(0,.slice (some ⟨b,0,none⟩) n c),(1,.func (.func f) #[] #[]),(7,.int .i64 (n:Int)),(8,.int .i64 (j:Int))]) (λj=>[]) (λj=>[w]) (λj=>Gh.no) (λj=>j<=n/\∀x∈xs.take j,p x=false) (λj=>n-j) 0 ⟨dx _,by simp⟩ zR rfl rfl z1 ?_;rintro j ⟨hj,Zr⟩;refine B 6 ?_;refine aO ?_ ?_
 ·intro aj;refine B 16 ?_;refine rv rfl rfl rfl (aa (v:=.int .i64 (xs[j]'zM)) isAgg3 rfl A0 mA tX trivial (by rw[<-ints_at xs j zM];congr 1;omega)) ?_;refine nJ (f:=f) (cap:=[]) rfl ax rfl rfl rfl (λW hS=>hp _ W) ?_;refine B 2 ?_;refine aO ?_ ?_
  ·intro aQ;refine B 12 ?_;refine ay results242 rfl A0 ?_;exact vi (yS p xs j zM Zr aQ).symm
  intro aQ;refine B 7 ?_;refine PJ.again (j+1) ⟨by omega,by intro x hx;rw[IA zM]at hx;simp only[cS,ql]at hx;rcases hx with hx|rfl;exact Zr x hx;exact aQ⟩ zM zR rfl rfl z1
 intro aj;refine B 11 ?_;refine ay results242 rfl A0 ?_;exact vi (nQo p xs (by rw[<-jo (l:=xs) (i:=j) zM];exact Zr)).symm
theorem nVh(p:Int->Bool)(f:Nat)(ax:dU prog f)(hp:∀x W,Calls prog f #[.int .i64 x] W (av W (.bool (p x))))(xs:List Int)(b T n c:Nat)(fr:Nat×Nat)(hn:xs.length=n)(Ku:n<9223372036854775807)(w:World)(mA:w.heap[b]? =some (.cells (ints xs) T fr)):Calls prog 175 #[.slice (some ⟨b,0,none⟩) n c,.func (.func f) #[] #[]] w (av w (.bool (xs.any p))):=by
 refine enter (vs:=[_,_]) func175 rfl ntmps175 rfl ?_;refine B 9 ?_;refine call call242 rfl rfl rfl (λW hS=>nzk p f ax hp xs b T n c fr hn Ku W (hS.old A0 mA zZ trivial)) ?_;refine B 5 ?_;refine ay results175 rfl A0 ?_;exact vb (yT p xs)
theorem Zs(xs:List Int)(b T n c:Nat)(fr:Nat×Nat)(hn:xs.length=n)(Ku:n<9223372036854775807)(w:World)(mA:w.heap[b]? =some (.cells (ints xs) T fr)):Calls prog 111 #[.slice (some ⟨b,0,none⟩) n c] w (av w (.bool (xs.any jO))):=by
 refine enter (vs:=[_]) func111 rfl ntmps111 rfl ?_;refine B 8 ?_;refine call call175 rfl rfl rfl (λW hS=>nVh jO 176 call176 (λx W=>nPj x W) xs b T n c fr hn Ku W (hS.old A0 mA zZ trivial)) ?_;refine B 4 ?_;refine ay results111 rfl A0 ?_;rfl
theorem nyg(a b:Int)(ha:0<=a)(eb:a<2305843009213688669)(hb:0<=b)(aP:b<2305843009213688669)(w:World):Calls prog 112 #[.int .i64 a,.int .i64 b] w (av w (.int .i64 (a*b%2305843009213688669))):=by
 obtain⟨m1,m2,m3,m4,m5⟩:=nCi ha eb hb aP zQ;have m6:=Int.emod_nonneg (a*b) (b:=2305843009213688669) zQ;have m7:=Int.emod_lt_of_pos (a*b) (b:=2305843009213688669) zQ;refine enter (vs:=[_,_]) func112 rfl ntmps112 rfl ?_;refine B 11 ?_;refine zzi ?_;refine B 10 ?_;refine rq (.int .i64 (a*b%2305843009213688669)) (tZ underlying202 underlying3 rfl (by rw[m5];omega) (by rw[m5];omega)) (by rw[m5]) ?_;refine B 4 ?_;refine ay results112 rfl A0 ?_;rfl
theorem nNm(a:Int)(w:World):Calls prog 119 #[.int .i64 a] w (av w (.int .i64 (if jO a then 1 else 0))):=by
 refine enter (vs:=[_]) func119 rfl ntmps119 rfl ?_;refine B 9 ?_;refine EI ?_;refine yV ?_;intro b4 w4 cT dI k4 dD dH;refine call call111 rfl rfl rfl (λW hS=>Zs [a] _ _ _ _ _ rfl z1 W (hS.old A0 cT dI trivial)) ?_;refine B 2 ?_;refine aO ?_ ?_
 ·intro aj;refine B 7 ?_;refine ay results119 rfl A1 ?_;refine vi ?_;simp_all
 intro aj;refine B 8 ?_;refine ay results119 rfl A1 ?_;refine vi ?_;simp_all
abbrev oR (a:Int):Prop:=0<=a/\a<2305843009213688669
def kr (a b:Int):Int×Int:=if oR a/\oR b then(a*b%2305843009213688669,0)else(0,1)
def qp (a b:Int):Int×Int:=if oR a/\oR b then((a+b)%2305843009213688669,0)else(0,1)
def oS (a:Int):Int×Int:=if oR a then if a=0 then(0,30)else(qj a 2305843009213688667 2305843009213688669,0)else(0,1)
theorem QI{a b:Int}(h:[a,b].any jO=false):oR a/\oR b:=by simp only[List.any_cons,List.any_nil,Bool.or_false,Bool.or_eq_false_iff]at h;exact⟨VZ.1 h.1,VZ.1 h.2⟩
theorem ID{a b:Int}(h:[a,b].any jO=true):¬(oR a/\oR b):=by
 simp only[List.any_cons,List.any_nil,Bool.or_false,Bool.or_eq_true]at h;intro⟨h1,h2⟩;rcases h with h|h
 ·exact V3.1 h h1
 exact V3.1 h h2
theorem Zt{a:Int}(h:[a].any jO=false):oR a:=VZ.1 rO
theorem QJ{a:Int}(h:[a].any jO=true):¬oR a:=V3.1 rO
theorem nik(a b:Int)(w:World):Calls prog 66 #[.int .i64 a,.int .i64 b] w (av w (lQ (kr a b))):=by
 refine enter (vs:=[_,_]) func66 rfl ntmps66 rfl ?_;refine B 11 ?_;refine EI ?_;refine yV ?_;intro b8 w8 hb8 hm8 Zu ua uc;refine z5h ?_;refine B 2 ?_;refine aO ?_ ?_
 ·intro aj;refine B 1 ?_;have hg:=ID aj;refine B 7 ?_;exact zvk
 intro aj;refine B 3 ?_;have hg:=QI aj;refine B 3 ?_;refine call call112 rfl rfl rfl (λW hS=>nyg _ _ zM zM zM zM W) ?_;refine B 5 ?_;exact zvk
theorem nDo(a b:Int)(w:World):Calls prog 67 #[.int .i64 a,.int .i64 b] w (av w (lQ (qp a b))):=by
 refine enter (vs:=[_,_]) func67 rfl ntmps67 rfl ?_;refine B 11 ?_;refine EI ?_;refine yV ?_;intro b8 w8 hb8 hm8 Zu ua uc;refine z5h ?_;refine B 2 ?_;refine aO ?_ ?_
 ·intro aj;refine B 1 ?_;have hg:=ID aj;refine B 7 ?_;exact zuk
 intro aj;refine B 3 ?_;have hg:=QI aj;refine B 4 ?_;refine rv rfl rfl rfl (yM rfl rfl zM zM) ?_;refine B 5 ?_;exact zuk
theorem nGg(c n:Int)(b:Nat)(hc:0<=c)(aj:c<2305843009213688669)(hn:0<=n)(vl:n<2305843009213688669)(w:World)(hb:w.heap[b]? =some (.cells #[.int .i64 n] 3 (0,0))):Calls prog 179 #[.int .i64 c,ptr b 0] w (tW w (.tuple #[]) b (.cells #[.int .i64 (n*c%2305843009213688669)] 3 (0,0))):=by
 refine nM Gh.no [(b,_)] (vs:=[_,_]) func179 rfl ntmps179 rfl (OU hb) ?_;refine B 3 ?_;refine call call112 rfl rfl rfl (λW hS=>nyg _ _ zM zM zM zM W) ?_;refine V5 ?_;refine B 1 ?_;refine bJ (.inr rfl) results179 RS.n (λW hS=>⟨rfl,(hS.links w A0).mono λk _ hk=>?_,hS.own _ A0⟩);simpa[Gh.no]using hk
theorem nPk(k:Int)(w:World):Calls prog 180 #[.int .i64 k] w (cu w (λb=>.func (.func 244) #[] #[ptr b 0]) (λb w1=>w.heap.size<=b/\w1.heap[b]? =some (.cells #[.int .i64 k] 3 (0,0)))):=by
 refine enter (vs:=[_]) func180 rfl ntmps180 rfl ?_;refine B 2 ?_;refine yX ?_;intro b1 w1 aP aX fW eb ir;refine B 10 ?_;refine jM b1 results180 rfl A1 rfl ?_;exact Zi
theorem EJ(m:Int)(h0:0<=m)(h1:m<9223372036854775808):IntKind.i64.wrap (BitVec.ofInt IntKind.i64.bits m&&&BitVec.ofInt IntKind.i64.bits 1).toNat=m%2:=by
 obtain⟨n,rfl⟩:=DD h0;have e:(BitVec.ofInt IntKind.i64.bits (n:Int)&&&BitVec.ofInt IntKind.i64.bits 1).toNat=n%2:=by
  rw[BitVec.toNat_and];have h2:(BitVec.ofInt IntKind.i64.bits (n:Int)).toNat=n:=by
   simp only[IntKind.bits,BitVec.ofInt_natCast,BitVec.toNat_ofNat];omega
  have h3:(BitVec.ofInt IntKind.i64.bits 1).toNat=1:=rfl;rw[h2,h3,Nat.and_one_is_mod]
 rw[e,IE zM zM];omega
theorem Kv(m i:Nat)(k:Int)(hk:k=(i:Int))(hi:i<=64):(m:Int).fdiv (2^(min (Int.toNat k) IntKind.i64.bits))=((m/2^i:Nat):Int):=yO m i k hk hi
theorem nqm(n:Nat)(hn:n<9223372036854775808)(b:Nat)(W:World)(aP:W.heap[b]? =some (.cells #[.int .i64 (n:Int)] 3 (0,0))):OQ prog 244 [ptr b 0] (λx:Bool=>[.bool x]) (pG n) (λ_=>False) (λk=>k=b) W:=by
 intro l M I X0 hM hI hX hy h0;have aX:¬M b:=λh=>(hM b h).2.2 rfl;have jN:=Qy n 63 hn;have VR:lP (n:Int)=(cK n:Int):=by simp[lP]
 refine nM (DE hM (hI [])) [] (vs:=[_,_]) func244 rfl ntmps244 rfl (yN hM (hI []) h0) ?_;refine B 4 ?_;refine call call97 rfl rfl rfl (λW hS=>Za _ zM zM W) ?_;refine z6g ?_;refine B 4 ?_;refine zfg ?_;rintro j hj;refine B 7 ?_;refine aO ?_ ?_
 ·intro aj;refine B 9 ?_;refine rq (.int .i64 ((n/2^(cK n-1-j):Nat):Int)) (iL rfl rfl zM) (vi (Kv n _ _ zM zM)) ?_;refine rq (.int .i64 (((n/2^(cK n-1-j):Nat):Int)%2)) (ud rfl rfl) (vi (EJ _ (Int.natCast_nonneg _) (Int.lt_of_le_of_lt (Int.ofNat_le.2 (Nat.div_le_self n _)) zM))) ?_;refine zBh ?_;refine yld (DE hM (hI ((pG n).take (j+1)))) (DE hM hX) rfl rfl rfl rfl (λW1 hS=>by have:=hy ((pG n).take j) _ W1 (nzl n j zM) hS.ghost;rw[<-Zk n j zM]at this;exact this) rfl rfl rfl rfl ?_ ?_
  ·exact zOk
  refine B 9 ?_;exact QE (.inl rfl) results244 A0 (λA hA=>.inr hA)
 intro aj;refine B 4 ?_;exact QE (.inr rfl) results244 A0 (λA hA=>.inl (by have e:=jo (l:=pG n) (i:=j) (by rw[Zj];omega);rw[e]at hA;exact hA))
theorem nPm(a k:Int)(ha:0<=a)(eb:a<2305843009213688669)(hk:0<=k)(VT:k<9223372036854775808)(w:World):Calls prog 113 #[.int .i64 a,.int .i64 k] w (av w (.int .i64 (qj a k 2305843009213688669))):=by
 refine wy Gh.no [] (vs:=[_,_]) func113 rfl ntmps113 rfl (rR w) ?_;refine B 2 ?_;refine yX ?_;intro b2 w2 aI aE dY cA db;refine B 5 ?_;refine aY zeroValue3 rfl rfl ?_;refine yW ?_;intro b5 iu iv;refine aV (i:=0) rfl sizeOf3 rfl rfl rfl rfl rfl rfl ?_;refine B 5 ?_;refine aY zeroValue276 rfl rfl ?_;refine yW ?_;intro b6 gm kg;refine aV (i:=0) rfl sizeOf276 rfl rfl rfl rfl rfl rfl ?_;refine B 6 ?_;refine nr (Φ:=λW b w1=>W.heap.size<=b/\w1.heap[b]? =some (.cells #[.int .i64 k] 3 (0,0))) call180 rfl rfl rfl (λW hS=>nPk _ W) ?_;intro Wd bd wd pH QF Zm;obtain⟨Kr,oQ⟩:=Zm;have QG:=pH.under;simp only[xS,dC,fk]at QG;have IB:=pH.sizes;replace IB:=yb IB;have Zn:=QF.size;refine B 3 ?_;refine CJ.range (f:=244) (cap:=[ptr bd 0]) (α:=Bool) (enc:=(λx:Bool=>[.bool x])) (xs:=pG k.toNat) (MI:=λ_=>False) (RO:=λk=>k=bd) rfl call244 (λW W2 hS hB=>by have e:(.int .i64 k:Value)= .int .i64 ((k.toNat:Nat):Int):=(by rw[Int.toNat_of_nonneg hk]);exact nqm k.toNat zM bd W2 (by rw[<-e,hB.block bd Zo];exact hS.old A0 oQ zZ qo)) (λ_ _ _ hk=>hk.elim) (λW hS k hk=>by subst hk;have:=hS.sizes;simp only[ab]at this;have:=(aL.1 oQ).1;refine⟨by omega,by simp only[dC,fk,eF,iz,cP,fm,or_false,not_or];omega,λh=>h⟩) (λ_=>rfl) (λpre Hc=>Hc=[(b6,.cells #[.func (.func 179) #[] #[ptr b5 0]] 276 (0,0)),(b5,.cells #[.int .i64 (nL a 2305843009213688669 pre 1)] 3 (0,0))]) (λ_ _=>False) rfl (by rintro pre Hc rfl;rfl) (λ_ _ hk=>hk.elim) zQ ?_ ?_ ?_
 ·rintro pre x Hc l Dk rec Wy iM mz dF rfl cQ eW yP mQ;simp only[ab]at cQ mQ;have Ks:=Zl a 2305843009213688669 zQ pre 1 zQ zQ;have hX:=Int.emod_nonneg (nL a 2305843009213688669 pre 1*nL a 2305843009213688669 pre 1) (b:=2305843009213688669) zQ;have fl:=Int.emod_lt_of_pos (nL a 2305843009213688669 pre 1*nL a 2305843009213688669 pre 1) (b:=2305843009213688669) zQ;refine OR ?_;refine B 5 ?_;refine zoh ?_;refine B 7 ?_;refine aO ?_ ?_
  ·intro aj;refine B 3 ?_;refine zoh ?_;refine B 2 ?_;exact VV (Hc:=[(b6,.cells #[.func (.func 179) #[] #[ptr b5 0]] 276 (0,0)),(b5,.cells #[.int .i64 (nL a 2305843009213688669 pre 1*nL a 2305843009213688669 pre 1%2305843009213688669*a%2305843009213688669)] 3 (0,0))]) (λ_ hk=>hk) (by cases rec;simp_all) (by rw[VS,aj];rfl)
  intro aj;refine B 2 ?_;exact VV (Hc:=[(b6,.cells #[.func (.func 179) #[] #[ptr b5 0]] 276 (0,0)),(b5,.cells #[.int .i64 (nL a 2305843009213688669 pre 1*nL a 2305843009213688669 pre 1%2305843009213688669)] 3 (0,0))]) (λ_ hk=>hk) (by cases rec;simp_all) (by rw[VS,aj];rfl)
 ·rintro l Dk rec Hc cQ eW rfl;replace cQ:=yb cQ;refine B 9 ?_;refine IC (.inl rfl) results113 rfl vk (λW H' hS bF=>⟨?_,?_⟩)
  ·exact congrArg Ending.returned rfl
  exact z6k
 exact λ_ _ _ _ _ _ _ hk=>hk.elim
theorem nop(a:Int)(w:World):Calls prog 69 #[.int .i64 a] w (av w (lQ (oS a))):=by
 refine enter (vs:=[_]) func69 rfl ntmps69 rfl ?_;refine B 11 ?_;refine EI ?_;refine yV ?_;intro b6 w6 wz wB OV gm kg;refine call call111 rfl rfl rfl (λW hS=>Zs [a] _ _ _ _ _ rfl z1 W (hS.old A0 wz wB trivial)) ?_;refine B 3 ?_;refine aO ?_ ?_
 ·intro aj;refine B 1 ?_;have hg:=QJ aj;refine B 8 ?_;exact Zv
 intro aj;refine B 1 ?_;have hg:=Zt aj;refine B 6 ?_;refine aO ?_ ?_
 ·intro aQ;refine B 9 ?_;exact Zv
 intro aQ;refine B 6 ?_;refine call call113 rfl rfl rfl (λW hS=>nPm _ _ zM zM zM zM W) ?_;refine B 5 ?_;exact Zv
abbrev iG (x:Int):Prop:=1<=x/\x<2305843009213688669
theorem Zw:cE 4:=by decide +kernel
def yU (x:Int):Int×Int:=if iG x then(qj 4 x 4611686018427377339,0)else(0,50)
theorem V6{x:Int}(h:iG x):gExp 4 x=(qj 4 x 4611686018427377339,0):=by unfold gExp;rw[if_pos Zw,if_pos zM]
theorem nhi(a:Int)(w:World):Calls prog 32 #[.int .i64 a] w (av w (.bool (decide (iG a)))):=by
 refine enter (vs:=[_]) func32 rfl ntmps32 rfl ?_;refine B 10 ?_;refine nh (t:=5) rfl (λaj=>?_) (λaj=>?_)
 ·replace aj:=ya aj;refine B 7 ?_;refine ay results32 rfl A0 ?_;refine vb (xU.2 ?_)
  (try simp only[decide_eq_true_eq,Bool.false_eq_true,false_iff,true_iff])
  first|omega|(intro h;omega)
 replace aj:=ya aj;refine B 7 ?_;refine ay results32 rfl A0 ?_;refine vb (xU.2 ?_)
 (try simp only[decide_eq_true_eq,Bool.false_eq_true,false_iff,true_iff])
 first|omega|(intro h;omega)
theorem nNh(a:Int)(w:World):Calls prog 33 #[.int .i64 a] w (av w (.int .i64 (gExp 4 a).1)):=by
 refine enter (vs:=[_]) func33 rfl ntmps33 rfl ?_;refine B 8 ?_;refine call call65 rfl rfl rfl (λW hS=>nTi _ W) ?_;refine B 14 ?_;refine ay results33 rfl A0 ?_;rfl
theorem nLh(a:Int)(w:World):Calls prog 17 #[.int .i64 a] w (av w (lQ (yU a))):=by
 refine enter (vs:=[_]) func17 rfl ntmps17 rfl ?_;refine B 10 ?_;refine call call32 rfl rfl rfl (λW hS=>nhi _ W) ?_;refine B 3 ?_;refine aO ?_ ?_
 ·intro aj;refine B 8 ?_;exact zgk
 intro aj;refine B 5 ?_;refine call call33 rfl rfl rfl (λW hS=>nNh _ W) ?_;refine B 5 ?_;exact zgk
theorem QK(n:Nat)(h1:1<=n)(h2:n<=31):(IntKind.u64.wrap (-(n:Int)))%32=((32-n:Nat):Int):=by rw[nD];omega
theorem Kx(x:BitVec 32)(n:Nat)(h1:1<=n)(h2:n<=31)(w:World):Calls prog 284 #[u32 x,.int .i64 (-(n:Int))] w (av w (u32 (vm x n))):=by
 refine enter (vs:=[_,_]) func284 rfl ntmps284 rfl ?_;refine B 8 ?_;refine rv rfl rfl rfl (iN underlying3 underlying189 rfl) ?_;refine rq (.int .u64 ((32-n:Nat):Int)) (mO 5 32 zQ rfl rfl rfl rfl (by rw[nD];omega) (by rw[nD];omega)) (vu (QK n h1 h2)) ?_;refine B 7 ?_;refine rv rfl rfl rfl (yY (32-n) zM rfl rfl rfl) ?_;refine B 2 ?_;refine rq (.int .u64 (n:Int)) (mP rfl rfl zM zM) (vu zM) ?_;refine rv rfl rfl rfl (ue n zM rfl rfl rfl) ?_;refine rv rfl rfl rfl (vn rfl rfl) ?_;refine B 4 ?_;refine ay results284 rfl A0 ?_;exact congrArg u32 (BitVec.or_comm _ _)
theorem nIf(x:BitVec 32)(a b c:Nat)(ha:1<=a)(eb:a<=31)(hb:1<=b)(aP:b<=31)(hc:1<=c)(aj:c<=31)(w:World):Calls prog 285 #[u32 x,.int .i64 (a:Int),.int .i64 (b:Int),.int .i64 (c:Int)] w (av w (u32 (vm x a^^^vm x b^^^vm x c))):=by
 refine enter (vs:=[_,_,_,_]) func285 rfl ntmps285 rfl ?_;refine B 9 ?_;refine rv rfl rfl rfl (uf rfl zM zM) ?_;refine call call284 rfl rfl rfl (λW hS=>Kx _ a zM zM W) ?_;refine B 2 ?_;refine rv rfl rfl rfl (uf rfl zM zM) ?_;refine call call284 rfl rfl rfl (λW hS=>Kx _ b zM zM W) ?_;refine rv rfl rfl rfl (ug rfl rfl) ?_;refine B 2 ?_;refine rv rfl rfl rfl (uf rfl zM zM) ?_;refine call call284 rfl rfl rfl (λW hS=>Kx _ c zM zM W) ?_;refine rv rfl rfl rfl (ug rfl rfl) ?_;refine B 4 ?_;refine ay results285 rfl A0 ?_;rfl
def vo (m:Nat->Int):Nat->BitVec 32
 |0=>0
 |n+1=>vo m n<<<8|||BitVec.ofInt 32 (m n)
theorem EK(m:Nat->Int):vo m 4=OW m 0:=by
 simp only[vo,OW,BitVec.shiftLeft_or_distrib,<-BitVec.shiftLeft_add,jg];simp
theorem nZm(m:Nat->Int)(b off n c t:Nat)(fr:Nat×Nat)(cs:Array Value)(hn:4<=n)(hc:n<=c)(w:World)(mA:w.heap[b]? =some (.cells cs t fr))(hm:∀i,i<4->cs[off+i]? =some (.int .u8 (m i))):Calls prog 283 #[.slice (some ⟨b,off,none⟩) n c] w (av w (u32 (OW m 0))):=by
 have tX:¬Gh.no.M b:=λh=>h;refine enter (vs:=[_]) func283 rfl ntmps283 rfl ?_;refine B 9 ?_;refine rv rfl rfl rfl (gn (h:=4) underlying64 sizeOf5 rfl ⟨_,_,rfl,rfl⟩ zM) ?_;refine B 5 ?_;refine CJ.loop (α:=Nat) (λj=>[(2,u32 (vo m j)),(6,.slice (some ⟨b,off,none⟩) 4 c),(7,.int .i64 4),(8,.int .i64 (j:Int))]) (λj=>[]) (λj=>[w]) (λj=>Gh.no) (λj=>j<=4) (λj=>4-j) 0 zQ zR rfl rfl z1 ?_;rintro j hj;refine B 6 ?_;refine aO ?_ ?_
 ·intro aj;refine B 7 ?_;refine rv rfl rfl rfl (aa (v:=.int .u8 (m j)) isAgg5 rfl A0 mA tX trivial (by rw[<-hm j zM];exact congrArg (λi=>cs[i]?) zM)) ?_;refine B 5 ?_;refine rv rfl rfl rfl (yY 8 zQ rfl rfl rfl) ?_;refine B 1 ?_;refine rv rfl rfl rfl (Ky underlying5 underlying229 rfl) ?_;refine rv rfl rfl rfl (vn rfl rfl) ?_;refine B 8 ?_;exact EH
 intro aj;refine B 12 ?_;refine ay results283 rfl A0 ?_;have e:j=4:=by omega
 subst e;exact congrArg u32 (EK m)
def qq (cs:Array Value) (off len:Nat) (n:Nat):Nat->Array Value
 |0=>cs
 |i+1=>setCells (qq cs off len n i) (off+(len-1-i)) [.int .u8 ((n/2^(8*i)%256:Nat):Int)]
theorem nmk(cs:Array Value)(off len n:Nat):∀i,(qq cs off len n i).size=cs.size
 |0=>rfl
 |i+1=>by rw[qq,nae];exact nmk cs off len n i
theorem QL(n i:Nat)(k:Int)(hk:k=((8*i:Nat):Int))(hi:i<=7):(n:Int).fdiv (2^(min (Int.toNat k) IntKind.u64.bits))%256=((n/2^(8*i)%256:Nat):Int):=by
 rw[yO n (8*i) k hk zM];omega
theorem nle(n:Nat)(b off len cap t:Nat)(cs:Array Value)(hlen:len<=8)(jF:off+len<=cs.size)(w:World)(hb:w.heap[b]? =some (.cells cs t (0,0))):Calls prog 238 #[.slice (some ⟨b,off,none⟩) len cap,.int .u64 (n:Int)] w (tW w (.tuple #[]) b (.cells (qq cs off len n len) t (0,0))):=by
 refine nM Gh.no [(b,_)] (vs:=[_,_]) func238 rfl ntmps238 rfl (OU hb) ?_;refine B 8 ?_;refine CJ.loop (α:=Nat) (λj=>[(0,.slice (some ⟨b,off,none⟩) len cap),(1,.int .u64 (n:Int)),(6,.int .i64 (len:Int)),(7,.int .i64 (j:Int))]) (λj=>[(b,.cells (qq cs off len n j) t (0,0))]) (λj=>[w]) (λj=>Gh.no) (λj=>j<=len) (λj=>len-j) 0 (dx _) zR rfl rfl z1 ?_;rintro j hj;refine B 6 ?_;refine aO ?_ ?_
 ·intro aj;refine B 20 ?_;refine rv rfl rfl rfl (iL rfl rfl zM) ?_;refine rq (.int .u8 ((n/2^(8*j)%256:Nat):Int)) (mR underlying202 underlying5 rfl) (congrArg (Value.int .u8) (QL n j _ zM zM)) ?_;refine rq (ptr b (off+(len-1-j))) (cL underlying64 sizeOf5 rfl rfl zM zM) (congrArg (λk=>ptr b (off+k)) zM) ?_;refine kq (i:=0) rfl sizeOf5 rfl rfl rfl rfl (by rw[nmk];omega) rfl ?_;refine B 7 ?_;exact EH
 intro aj;refine B 4 ?_;have e:j=len:=by omega
 subst e;refine bJ (.inr rfl) results238 RS.n (λW hS=>⟨rfl,(hS.links w A0).mono λk _ hk=>?_,hS.own _ A0⟩);simpa[Gh.no]using hk
theorem IF(n:Nat)(f:Nat->Value)(i k:Nat)(h:k=i)(hi:i<n):(cf n f)[k]? =some (f i):=by subst h;exact IG n f k hi
theorem S8.cells_ld(s:S8)(i k:Nat)(h:k=i)(hi:i<8):s.cells[k]? =some (u32 (s.at i)):=by subst h;exact s.cells_at k hi
theorem yZ(m:Nat->Int)(j:Nat)(v:BitVec 32)(hv:v=if j<16 then OW m (4*j)else eM m j (j-16)+s0 (eM m j (j-15))+eM m j (j-7)+s1 (eM m j (j-2))):setCells (cf 64 (λi=>u32 (eM m j i))) j (u32 v).cells.toList=cf 64 (λi=>u32 (eM m (j+1) i)):=by
 show setCells (cf 64 (λi=>u32 (eM m j i))) j [u32 v]=_;rw[QM];congr 1;funext i;simp only[eM,DG];split<;>simp_all
def oT (s v:S8) (j:Nat):Array Value:=cf 8 (λk=>u32 (if k<j then s.at k+v.at k else s.at k))
theorem nNo(s v:S8)(j:Nat):setCells (oT s v j) j (u32 (s.at j+v.at j)).cells.toList=oT s v (j+1):=by
 show setCells (cf 8 _) j [u32 (s.at j+v.at j)]=_;rw[QM];unfold oT;congr 1;funext i;simp only[DG];by_cases h:i=j
 ·subst h;simp
 by_cases h2:i<j
 ·simp[h,h2,show i<j+1 by omega]
 simp[h,h2,show ¬i<j+1 by omega]
theorem KA(s v:S8):oT s v 8=(s.add v).cells:=rfl
theorem EL(s v:S8)(j k:Nat)(h:k=j)(hj:j<8):(oT s v j)[k]? =some (u32 (s.at j)):=by
 rw[oT,IF 8 _ j k h hj];simp
theorem nce(s:S8)(m:Nat->Int)(b bb off n c t:Nat)(fr uh:Nat×Nat)(t3:Nat)(cs:Array Value)(hn:64<=n)(hc:n<=c)(w:World)(hb:w.heap[b]? =some (.cells s.cells 336 (0,0)))(y4:w.heap[bb]? =some (.cells cs t fr))(hm:∀i,i<64->cs[off+i]? =some (.int .u8 (m i)))(dG:bb≠b)(hg:w.heap[4]? =some (.cells (cf 64 (λi=>u32 (kk i))) t3 uh))(QN:b≠4):Calls prog 237 #[ptr b 0,.slice (some ⟨bb,off,none⟩) n c] w (tW w (.tuple #[]) b (.cells (s.comp m).cells 336 (0,0))):=by
 have QO:=(aL.1 y4).1;have jN:=(aL.1 hb).1;have V7:=(aL.1 hg).1;refine nM Gh.no [(b,_)] (vs:=[_,_]) func237 rfl ntmps237 rfl (OU hb) ?_;refine B 2 ?_;refine aY zeroValue375 rfl rfl ?_;refine yW ?_;intro b4 dD dH;refine B 9 ?_;refine CJ.loop (α:=Nat) (λj=>[(0,ptr b 0),(1,.slice (some ⟨bb,off,none⟩) n c),(4,ptr b4 0),(14,.int .i64 (j:Int))]) (λj=>[(b4,.cells (cf 64 (λi=>u32 (eM m j i))) 375 (0,0)),(b,.cells s.cells 336 (0,0))]) (λj=>[w]) (λj=>Gh.no) (λj=>j<=16) (λj=>16-j) 0 zQ zR rfl rfl z1 ?_;rintro j hj;refine B 6 ?_;refine aO ?_ ?_
 ·intro aj;refine B 15 ?_;refine rv rfl rfl rfl (iw (l:=4*j) (h:=n) (off':=off+4*j) underlying64 sizeOf5 rfl ⟨_,_,rfl,by omega⟩ rfl zM zM (by rw[if_neg zM];omega)) ?_;refine call call283 rfl rfl rfl (λW hS=>nZm (λi=>m (4*j+i)) _ _ _ _ _ _ _ zM zM W (hS.old A0 y4 zZ qo) (λi hi=>by rw[Nat.add_assoc];exact hm _ zM)) ?_;refine zwg ?_;refine B 7 ?_;refine PJ.reH (H':=[(b4,.cells (cf 64 (λi=>u32 (eM m (j+1) i))) 375 (0,0)),(b,.cells s.cells 336 (0,0))]) (by rw[<-yZ m j (OW (λi=>m (4*j+i)) 0) (by rw[if_pos zM];rfl)];rfl) ?_;exact EH
 intro aj;refine B 12 ?_;have e:j=16:=by omega
 subst e;refine CJ.loop (α:=Nat) (λj=>[(0,ptr b 0),(4,ptr b4 0),(6,.int .i64 (j:Int))]) (λj=>[(b4,.cells (cf 64 (λi=>u32 (eM m j i))) 375 (0,0)),(b,.cells s.cells 336 (0,0))]) (λj=>[w]) (λj=>Gh.no) (λj=>16<=j/\j<=64) (λj=>64-j) 16 zQ zR rfl rfl z1 ?_;rintro j ⟨Zx,hj⟩;refine B 7 ?_;refine aO ?_ ?_
 ·intro aQ;refine B 5 ?_;refine ng (E':=[(0,_),(4,_),(6,_),(25,_),(26,_)]) zR ?_;refine nk 9 [.det [] _,.det [0] _,.det [1] _,.det [2] _,.det [] _,.det [4] _,.det [5] _,.det [6] _,.det [3] _] zT (xc zO (xc EM (xc OY (xc (by exact λae=>X.val rfl rfl (aH (v:=u32 (eM m j (j-15))) (i:=0) rfl isAgg229 rfl (IF 64 (λi=>u32 (eM m j i)) (j-15) _ zM zM)) (λ_ _=>rfl)) (xc zO (xc EM (xc OY (xc (by exact λae=>X.val rfl rfl (aH (v:=u32 (eM m j (j-2))) (i:=0) rfl isAgg229 rfl (IF 64 (λi=>u32 (eM m j i)) (j-2) _ zM zM)) (λ_ _=>rfl)) (xc (by exact λae=>X.val rfl rfl (kp rfl) (λ_ _=>rfl)) (xn)))))))))) zT zT zT (λae=>?_);refine B 3 ?_;refine ng (E':=[(0,_),(4,_),(6,_),(7,_),(8,_),(25,_),(26,_),(29,_),(30,_),(31,_),(32,_),(33,_),(34,_),(35,_),(36,_)]) zR ?_;refine nk 28 [.det [] _,.det [] _,.det [1] _,.det [2] _,.det [3] _,.det [] _,.det [5] _,.det [] _,.det [7] _,.det [6,8] _,.det [] _,.det [10] _,.det [9,11] _,.det [4,12] _,.det [] _,.det [14] _,.det [15] _,.det [16] _,.det [13,17] _,.det [] _,.det [19] _,.det [] _,.det [21] _,.det [20,22] _,.det [] _,.det [24] _,.det [23,25] _,.det [18,26] _] zT (xc zO (xc zO (xc EM (xc OY (xc (by exact λae=>X.val rfl rfl (aH (v:=u32 (eM m j (j-16))) (i:=0) rfl isAgg229 rfl (IF 64 (λi=>u32 (eM m j i)) (j-16) _ zM zM)) (λ_ _=>rfl)) (xc zO (xc (by exact λae=>nf call284 rfl rfl (λW hS _=>Kx _ 7 zQ zQ W) (λ_=>rfl)) (xc zO (xc (by exact λae=>nf call284 rfl rfl (λW hS _=>Kx _ 18 zQ zQ W) (λ_=>rfl)) (xc OZ (xc zO (xc (by exact λae=>X.val rfl rfl (ue 3 zQ rfl rfl rfl) (λ_ _=>rfl)) (xc OZ (xc KB (xc zO (xc EM (xc OY (xc (by exact λae=>X.val rfl rfl (aH (v:=u32 (eM m j (j-7))) (i:=0) rfl isAgg229 rfl (IF 64 (λi=>u32 (eM m j i)) (j-7) _ zM zM)) (λ_ _=>rfl)) (xc KB (xc zO (xc (by exact λae=>nf call284 rfl rfl (λW hS _=>Kx _ 17 zQ zQ W) (λ_=>rfl)) (xc zO (xc (by exact λae=>nf call284 rfl rfl (λW hS _=>Kx _ 19 zQ zQ W) (λ_=>rfl)) (xc OZ (xc zO (xc (by exact λae=>X.val rfl rfl (ue 10 zQ rfl rfl rfl) (λ_ _=>rfl)) (xc OZ (xc KB (xn))))))))))))))))))))))))))))) zT zT zT (λae=>?_)
  refine zwg ?_;refine B 8 ?_;refine PJ.reH (H':=[(b4,.cells (cf 64 (λi=>u32 (eM m (j+1) i))) 375 (0,0)),(b,.cells s.cells 336 (0,0))]) (by rw[<-yZ m j _ (by rw[if_neg zM])];rfl) ?_;exact EH
 intro aQ;refine B 10 ?_;refine aY zeroValue336 rfl rfl ?_;refine yW ?_;intro b9 qt EN;refine aV (i:=0) rfl sizeOf336 rfl rfl rfl rfl rfl rfl ?_;refine B 9 ?_;have e:j=64:=by omega
 subst e;obtain⟨ws,hX⟩:∃ws,ws=eM m 64:=⟨_,rfl⟩;refine CJ.reH (H':=[(b9,.cells s.cells 336 (0,0)),(b4,.cells (cf 64 (λi=>u32 (ws i))) 375 (0,0)),(b,.cells s.cells 336 (0,0))]) (by rw[hX];rfl) ?_;refine CJ.loop (α:=Nat) (λj=>[(0,ptr b 0),(4,ptr b4 0),(9,ptr b9 0),(69,.int .i64 (j:Int))]) (λj=>[(b9,.cells (S8.run ws s j).cells 336 (0,0)),(b4,.cells (cf 64 (λi=>u32 (ws i))) 375 (0,0)),(b,.cells s.cells 336 (0,0))]) (λj=>[w]) (λj=>Gh.no) (λj=>j<=64) (λj=>64-j) 0 zQ zR rfl rfl z1 ?_;rintro j hj;dsimp only;generalize hv:S8.run ws s j=v;refine B 6 ?_;refine aO ?_ ?_
 ·intro cY;refine B 11 ?_;refine ng (E':=[(0,_),(4,_),(9,_),(10,_),(69,_),(70,_),(71,_)]) zR ?_;refine nk 25 [.det [] _,.det [0] _,.det [] _,.det [2] _,.det [3] _,.det [1,4] _,.det [] _,.det [6] _,.det [] _,.det [8] _,.det [] _,.det [10] _,.det [] _,.det [12] _,.det [11,13] _,.det [9,14] _,.det [7,15] _,.det [5,16] _,.det [] _,.det [18] _,.det [19] _,.det [17,20] _,.det [] _,.det [22] _,.det [23] _] zT (xc vq (xc xV (xc vq (xc xV (xc (by exact λae=>nf call285 rfl rfl (λW hS _=>nIf _ 6 11 25 zQ zQ zQ zQ zQ zQ W) (λ_=>rfl)) (xc KB (xc vq (xc xV (xc vq (xc xV (xc vq (xc xV (xc vq (xc xV (xc OZ (xc Zy (xc OZ (xc KB (xc zO (xc OY (xc (by exact λae=>X.val rfl rfl (aa (v:=u32 (kk j)) isAgg229 rfl A0 hg zZ qo (IF 64 (λi=>u32 (kk i)) j _ zM zM)) (λ_ _=>rfl)) (xc KB (xc zO (xc OY (xc (by exact λae=>X.val rfl rfl (aH (v:=u32 (ws j)) (i:=1) rfl isAgg229 rfl (IF 64 (λi=>u32 (ws i)) j _ zM zM)) (λ_ _=>rfl)) (xn)))))))))))))))))))))))))) zT zT zT (λae=>?_);refine rv rfl rfl rfl (qu rfl rfl) ?_;refine B 4 ?_;refine ng (E':=[(0,_),(4,_),(9,_),(10,_),(11,_),(69,_),(70,_),(71,_),(72,_),(73,_),(74,_),(75,_),(76,_),(77,_),(78,_),(79,_),(80,_),(81,_),(82,_),(83,_),(84,_),(85,_),(86,_),(87,_),(88,_),(89,_),(90,_),(91,_),(92,_),(93,_),(94,_),(95,_),(96,_),(97,_)]) zR ?_
  refine nk 17 [.det [] _,.det [0] _,.det [1] _,.det [] _,.det [3] _,.det [] _,.det [5] _,.det [4,6] _,.det [] _,.det [8] _,.det [] _,.det [10] _,.det [] _,.det [12] _,.det [11,13] _,.det [9,14] _,.det [7,15] _] zT (xc vq (xc xV (xc (by exact λae=>nf call285 rfl rfl (λW hS _=>nIf _ 2 13 22 zQ zQ zQ zQ zQ zQ W) (λ_=>rfl)) (xc vq (xc xV (xc vq (xc xV (xc Zy (xc vq (xc xV (xc vq (xc xV (xc vq (xc xV (xc (by exact λae=>X.val rfl rfl (vn rfl rfl) (λ_ _=>rfl)) (xc Zy (xc (by exact λae=>X.val rfl rfl (vn rfl rfl) (λ_ _=>rfl)) (xn)))))))))))))))))) zT zT zT (λae=>?_);refine rv rfl rfl rfl (qu rfl rfl) ?_;refine B 4 ?_;refine ng (E':=[(0,_),(4,_),(9,_),(10,_),(11,_),(12,_),(69,_),(70,_),(71,_),(72,_),(73,_),(74,_),(75,_),(76,_),(77,_),(78,_),(79,_),(80,_),(81,_),(82,_),(83,_),(84,_),(85,_),(86,_),(87,_),(88,_),(89,_),(90,_),(91,_),(92,_),(93,_),(94,_),(95,_),(96,_),(97,_),(98,_),(99,_),(100,_),(101,_),(102,_),(103,_),(104,_),(105,_),(106,_),(107,_),(108,_),(109,_),(110,_),(111,_),(112,_),(113,_),(114,_),(115,_)]) zR ?_;refine nk 2 [.det [] _,.det [] _] zT (xc (by exact λae=>X.val rfl rfl (y6 (l:=1) underlying336 sizeOf229 rfl ⟨_,_,rfl,rfl⟩ rfl zM zM (by rw[if_neg zM])) (λ_ _=>rfl)) (xc (by exact λae=>X.val rfl rfl (k9 (h:=7) underlying336 sizeOf229 rfl ⟨_,_,rfl,rfl⟩ zM) (λ_ _=>rfl)) (xn))) zT zT zT (λae=>?_)
  refine V8 (i:=0) (n:=7) rfl underlying379 sizeOf229 rfl rfl rfl rfl (λ_=>rfl) zQ (Rd.own (i:=0) rfl (aT rfl) rfl) (aT rfl) rfl ?_;refine B 3 ?_;refine CJ.reH (H':=[(b9,.cells #[u32 v.a,u32 v.a,u32 v.b,u32 v.c,u32 v.d,u32 v.e,u32 v.f,u32 v.g] 336 (0,0)),(b4,.cells (cf 64 (λi=>u32 (ws i))) 375 (0,0)),(b,.cells s.cells 336 (0,0))]) rfl ?_;refine B 4 ?_;refine zMi ?_;refine B 5 ?_;refine zMi ?_;refine B 7 ?_;refine PJ.reH (H':=[(b9,.cells (S8.run ws s (j+1)).cells 336 (0,0)),(b4,.cells (cf 64 (λi=>u32 (ws i))) 375 (0,0)),(b,.cells s.cells 336 (0,0))]) (by simp only[S8.run,hv,S8.step,S8.P,S8.Q,<-EO,<-EP];rfl) ?_;exact EH
 intro cY;refine B 11 ?_;have e:j=64:=by omega
 subst e;refine CJ.loop (α:=Nat) (λj=>[(0,ptr b 0),(9,ptr b9 0),(129,.int .i64 (j:Int))]) (λj=>[(b9,.cells v.cells 336 (0,0)),(b4,.cells (cf 64 (λi=>u32 (ws i))) 375 (0,0)),(b,.cells (oT s v j) 336 (0,0))]) (λj=>[w]) (λj=>Gh.no) (λj=>j<=8) (λj=>8-j) 0 zQ zR rfl rfl z1 ?_;rintro j hj;refine B 6 ?_;refine aO ?_ ?_
 ·intro gb;refine B 10 ?_;refine ng (E':=[(0,_),(9,_),(13,_),(129,_),(130,_),(131,_)]) zR ?_;refine nk 10 [.det [] _,.det [] _,.det [0] _,.det [1,2] _,.det [3] _,.det [] _,.det [5] _,.det [6] _,.det [4,7] _,.det [0] _] zT (xc zO (xc zO (xc ER (xc vq (xc (by exact λae=>X.val rfl rfl (aH (v:=u32 (s.at j)) (i:=2) rfl isAgg229 rfl (EL s v j _ zM zM)) (λ_ _=>rfl)) (xc zO (xc vq (xc (by exact λae=>X.val rfl rfl (aH (v:=u32 (v.at j)) (i:=0) rfl isAgg229 rfl (S8.cells_ld _ j _ zM zM)) (λ_ _=>rfl)) (xc KB (xc ER (xn))))))))))) zT zT zT (λae=>?_);refine rq (ptr b j) (lb underlying336 sizeOf229 rfl rfl zM zM) (congrArg (ptr b) zM) ?_;refine kq (i:=2) rfl sizeOf229 rfl rfl rfl rfl (by rw[oT,y9];omega) rfl ?_;refine B 7 ?_;refine PJ.reH (H':=[(b9,.cells v.cells 336 (0,0)),(b4,.cells (cf 64 (λi=>u32 (ws i))) 375 (0,0)),(b,.cells (oT s v (j+1)) 336 (0,0))]) (by rw[<-nNo];rfl) ?_;exact EH
 intro gb;refine B 4 ?_;have e:j=8:=by omega
 subst e;rw[show(s.comp m).cells=oT s v 8 from by rw[KA,S8.comp,<-hX,hv]];refine bJ (.inr rfl) results237 RS.n (λW hS=>⟨rfl,(hS.links w A0).mono λk hk hx=>?_,hS.own _ A2⟩);simp only[Gh.no,eF,iz,cP,fm,or_false,false_or]at hx;omega
theorem QP:prog.info? 5=some Tryz.t5:=by kernel_rfl
theorem za(N:Nat)(g:Nat->Value):∀(news:List Value) (f:Nat->Value) (off:Nat),(∀i,i<news.length->news[i]? =some (g (off+i)))->setCells (cf N f) off news=cf N (λi=>if off<=i/\i<off+news.length then g i else f i)
 | [],f,off,_=>by
  show cf N f=_;apply O0;intro i _;rw[if_neg (by simp only[lF];omega)]
 |v::vs,f,off,h=>by
  have h0:=h 0 z1;simp only[IH,rS,Nat.add_zero]at h0;show setCells (setCells (cf N f) off [v]) (off+1) vs=_;rw[QM,za N g vs _ (off+1) (λi hi=>by
   have:=h (i+1) kh;simp only[zb]at this;rw[this];congr 2;omega)]
  apply O0;intro i _;simp only[ec,DG];by_cases h1:i=off
  ·subst h1;rw[if_neg zM,if_pos rfl,if_pos zM,h0]
  by_cases h2:off+1<=i/\i<off+1+vs.length
  ·rw[if_pos h2,if_pos zM]
  rw[if_neg h2,if_neg h1,if_neg zM]
theorem Zz(N:Nat)(f:Nat->Value)(off len n:Nat):∀k,k<=len->qq (cf N f) off len n k=cf N (λi=>if off+(len-k)<=i/\i<off+len then .int .u8 ((n/2^(8*(off+len-1-i))%256:Nat):Int)else f i)
 |0,_=>by
  show cf N f=_;apply O0;intro i _;rw[if_neg zM]
 |k+1,hk=>by
  rw[qq,Zz N f off len n k zM,QM];apply O0;intro i _;simp only[DG];by_cases h1:i=off+(len-1-k)
  ·rw[if_pos h1,if_pos zM,show off+len-1-i=k by omega]
  rw[if_neg h1];by_cases h2:off+(len-k)<=i/\i<off+len
  ·rw[if_pos h2,if_pos zM]
  rw[if_neg h2,if_neg zM]
theorem QQ(f:Nat->Int):cf 32 (λk=>.int .u8 (f k))=dg f:=rfl
variable {cs:Array Value}
theorem nOn{o r:Nat}{m:Nat->Int}(h:o+r<=cs.size)(hm:∀i,i<r->cs[o+i]? =some (.int .u8 (m i))):∀i,i<((cs.toList.drop o).take (r*1)).length->((cs.toList.drop o).take (r*1))[i]? =some (.int .u8 (m i)):=by
 intro i hi;have ZA:i<r:=by simp at hi;omega
 rw[KC zM,wC,xW,hm i ZA]
theorem ZB{o r:Nat}(h:o+r<=cs.size):((cs.toList.drop o).take (r*1)).length=r:=by simp;omega
theorem ngn{m:Nat->Int}:∀(l:List Value),(∀i,i<l.length->l[i]? =some (.int .u8 (m i)))->nU l=true
 | [],_=>rfl
 |v::l,h=>by
  have h0:=h 0 z1;simp at h0;subst h0;simp only[nU,ui,Bool.true_and];exact ngn (m:=λi=>m (i+1)) l λi hi=>by have:=h (i+1) kh;simpa using this
def mS (n:Nat) (m:Nat->Int) (j N i:Nat):Value:=if(N-8)+(8-8)<=i/\i<(N-8)+8 then .int .u8 ((8*n/2^(8*((N-8)+8-1-i))%256:Nat):Int)else DG (λi=>if 0<=i/\i<0+(n-64*j)then .int .u8 (m (64*j+i))else .int .u8 0) (n-64*j) (.int .u8 128) i
theorem nWl(n:Nat)(m:Nat->Int)(j N:Nat):qq (setCells (cf 128 (λi=>if 0<=i/\i<0+(n-64*j)then .int .u8 (m (64*j+i))else .int .u8 0)) (n-64*j) [.int .u8 128]) (N-8) 8 (8*n) 8=cf 128 (mS n m j N):=by
 rw[QM,Zz 128 _ _ 8 _ 8 (ao _)];rfl
theorem nbl(n:Nat)(m:Nat->Int)(j N i:Nat)(hj:64*j<=n)(hN:64*(eG n-j)=N)(hr:n-64*j<64)(hi:i<N):mS n m j N i= .int .u8 (uj n m (64*j+i)):=by
 have hb:eG n=j+N/64:=by unfold eG at *;omega
 have hN8:N=64\/N=128:=by unfold eG at hN;omega
 have hrN:n-64*j+9<=N:=by unfold eG at hN;omega
 simp only[mS,uj,DG];by_cases h1:i<n-64*j
 ·rw[if_neg zM,if_neg zM,if_pos zM,if_pos zM]
 rw[if_neg (show ¬64*j+i<n by omega)];by_cases h2:i=n-64*j
 ·rw[if_neg zM,if_pos h2,if_pos zM]
 rw[if_neg (show ¬64*j+i=n by omega)];by_cases h3:i<N-8
 ·rw[if_neg zM,if_neg h2,if_neg zM,if_pos zM]
 rw[if_pos zM,if_neg zM,show 64*eG n-1-(64*j+i)=N-8+8-1-i by omega];congr 1
def iO (s:S8) (i:Nat):Array Value:=cf 32 (λk=>.int .u8 (if k<4*i then zc s k else 0))
theorem nhk(s:S8)(i:Nat)(hi:i<8):qq (iO s i) (4*i) 4 (s.at i).toNat 4=iO s (i+1):=by
 unfold iO;rw[Zz 32 _ (4*i) 4 _ 4 (ao _)];apply O0;intro k hk;by_cases h:k<4*i
 ·rw[if_neg zM,if_pos h,if_pos zM]
 by_cases h2:k<4*i+4
 ·rw[if_pos zM,if_pos zM];unfold zc;rw[show k/4=i by omega,show 24-8*(k%4)=8*(4*i+4-1-k) by omega]
 rw[if_neg zM,if_neg h,if_neg zM]
theorem KD(s:S8):iO s 8=dg (zc s):=by
 rw[<-QQ];unfold iO;apply O0;intro k hk;rw[if_pos zM]
theorem ES(n:Nat)(m:Nat->Int)(i:Nat)(h:i<n):uj n m i=m i:=by unfold uj;rw[if_pos h]
theorem nQi(n:Nat)(m:Nat->Int)(bb off c t t2 t3:Nat)(fr ry uh:Nat×Nat)(cs:Array Value)(hc:n<=c)(hn:n<1152921504606846976)(w:World)(y4:w.heap[bb]? =some (.cells cs t fr))(mT:off+n<=cs.size)(hm:∀i,i<n->cs[off+i]? =some (.int .u8 (m i)))(tu:w.heap[0]? =some (.cells S8.init.cells t2 ry))(hg:w.heap[4]? =some (.cells (cf 64 (λi=>u32 (kk i))) t3 uh)):Calls prog 170 #[.slice (some ⟨bb,off,none⟩) n c] w (av w (.agg (dg (tv n m)))):=by
 have QO:=(aL.1 y4).1;have ZC:=(aL.1 tu).1;have V7:=(aL.1 hg).1;refine enter (vs:=[_]) func170 rfl ntmps170 rfl ?_;refine B 2 ?_;refine rT ?_;refine yW ?_;intro b2 cA db;refine B 4 ?_;refine rv rfl rfl rfl (af isAgg335 sizeOf335 rfl A0 tu zZ qo rfl) ?_;refine aY zeroValue336 rfl rfl ?_;refine yW ?_;intro b3 bY cR;refine aV (i:=0) rfl sizeOf336 rfl rfl rfl rfl rfl rfl ?_;refine B 4 ?_;refine QR ?_;refine B 11 ?_;refine CJ.loop (α:=Nat×Nat) (λp=>[(0,.slice (some ⟨bb,off,none⟩) n c),(2,ptr b2 0),(3,ptr b3 0),(4,.func (.func 237) #[ptr b3 0] #[]),(5,.slice (some ⟨bb,p.2,none⟩) (n-64*p.1) (c-64*p.1))]) (λp=>[(b3,.cells (oU n m p.1).cells 336 (0,0)),(b2,.cells #[.int .u8 0,.int .u8 0,.int .u8 0,.int .u8 0,.int .u8 0,.int .u8 0,.int .u8 0,.int .u8 0,.int .u8 0,.int .u8 0,.int .u8 0,.int .u8 0,.int .u8 0,.int .u8 0,.int .u8 0,.int .u8 0,.int .u8 0,.int .u8 0,.int .u8 0,.int .u8 0,.int .u8 0,.int .u8 0,.int .u8 0,.int .u8 0,.int .u8 0,.int .u8 0,.int .u8 0,.int .u8 0,.int .u8 0,.int .u8 0,.int .u8 0,.int .u8 0] 34 (0,0))]) (λp=>[w]) (λp=>Gh.no) (λp=>64*p.1<=n/\(64*p.1<c->p.2=off+64*p.1)/\p.2<=off+64*p.1) (λp=>n-64*p.1) (0,off) dE zR rfl rfl z1 ?_;rintro⟨j,o⟩ ⟨hj,ho,ir⟩;dsimp only at hj ho ir ⊢;refine B 8 ?_;refine aO ?_ ?_
 ·intro aj;refine B 7 ?_;refine rv rfl rfl rfl (gn (h:=64) underlying64 sizeOf5 rfl ⟨_,_,rfl,rfl⟩ zM) ?_;refine Kt (f:=237) (i:=0) (first:=[ptr b3 0]) (cap:=[]) rfl rfl call237 rfl rfl rfl (λW hS hW=>nce (oU n m j) (λi=>uj n m (64*j+i)) b3 bb o 64 (c-64*j) t fr uh t3 cs zM zM W hW (hS.old A0 y4 zZ qo) (λi hi=>by rw[ES n m _ zM,<-hm _ zM];exact congrArg (λk=>cs[k]?) (by have:=ho zM;omega)) zM (hS.old A0 hg zZ qo) zM) ?_;refine B 5 ?_;refine rv rfl rfl rfl (iw (l:=64) (h:=n-64*j) underlying64 sizeOf5 rfl ⟨_,_,rfl,rfl⟩ rfl zM zM rfl) ?_;refine B 2 ?_;refine PJ.again (j+1,if c-64*j=64 then o else o+64*1) (by dsimp only;split<;>omega) dE ⟨rfl,rfl,rfl,rfl,by rw[show n-64*(j+1)=n-64*j-64 by omega,show c-64*(j+1)=c-64*j-64 by omega];rfl,trivial⟩ rfl rfl z1
 intro aj;refine B 7 ?_;refine QS (ln:=64) (cp:=128) underlying64 QP rfl rfl rfl rfl rfl rfl rfl zM zQ zM ?_;refine yW ?_;intro pJ agZ ag0;refine B 4 ?_;have V9:∀i,i<n-64*j->cs[o+i]? =some (.int .u8 (m (64*j+i))):=λi hi=>by rw[<-hm _ zM];exact congrArg (λk=>cs[k]?) (by have:=ho zM;omega)
 refine B 3 ?_;refine V8 (i:=0) (n:=n-64*j) rfl underlying64 sizeOf5 rfl rfl rfl rfl (λ_=>rfl) zM (Rd.old A0 y4 zZ qo zM rfl) (by rw[ZB zM,y9];omega) (ngn _ (nOn (m:=λi=>m (64*j+i)) zM V9)) ?_;refine B 3 ?_;refine CJ.reH (H':=[(pJ,.cells (cf 128 (λi=>if 0<=i/\i<0+(n-64*j)then .int .u8 (m (64*j+i))else .int .u8 0)) 5 (0,0)),(b3,.cells (oU n m j).cells 336 (0,0)),(b2,.cells #[.int .u8 0,.int .u8 0,.int .u8 0,.int .u8 0,.int .u8 0,.int .u8 0,.int .u8 0,.int .u8 0,.int .u8 0,.int .u8 0,.int .u8 0,.int .u8 0,.int .u8 0,.int .u8 0,.int .u8 0,.int .u8 0,.int .u8 0,.int .u8 0,.int .u8 0,.int .u8 0,.int .u8 0,.int .u8 0,.int .u8 0,.int .u8 0,.int .u8 0,.int .u8 0,.int .u8 0,.int .u8 0,.int .u8 0,.int .u8 0,.int .u8 0,.int .u8 0] 34 (0,0))]) (by rw[<-ZB (cs:=cs) (o:=o) (r:=n-64*j) zM,<-za 128 (λi=>.int .u8 (m (64*j+i))) _ _ 0 (by intro i hi;rw[jg];exact nOn (m:=λi=>m (64*j+i)) zM V9 i hi),ZB zM];rfl) ?_;refine B 4 ?_;refine rq (ptr pJ (n-64*j)) (cL underlying64 sizeOf5 rfl rfl zM zM) (congrArg (ptr pJ) zM) ?_;refine kq (i:=0) rfl sizeOf5 rfl rfl rfl rfl (by rw[y9];omega) rfl ?_;refine B 10 ?_;refine aO ?_ ?_
 ·intro aQ;refine B 2 ?_;refine rv rfl rfl rfl (gn (h:=128) underlying64 sizeOf5 rfl ⟨_,_,rfl,rfl⟩ zM) ?_;refine B 4 ?_;obtain⟨N,hN,hNN⟩:∃N,N=128/\64*(eG n-j)=N:=⟨128,rfl,by unfold eG;omega⟩;refine B 5 ?_;refine rv rfl rfl rfl (iw (l:=120) (h:=128) (off':=120) underlying64 sizeOf5 rfl ⟨_,_,rfl,rfl⟩ rfl zM zM rfl) ?_;refine B 3 ?_;refine zVf ?_;refine OJ.reH (H':=[(pJ,.cells (cf 128 (mS n m j N)) 5 (0,0)),(b3,.cells (oU n m j).cells 336 (0,0)),(b2,.cells #[.int .u8 0,.int .u8 0,.int .u8 0,.int .u8 0,.int .u8 0,.int .u8 0,.int .u8 0,.int .u8 0,.int .u8 0,.int .u8 0,.int .u8 0,.int .u8 0,.int .u8 0,.int .u8 0,.int .u8 0,.int .u8 0,.int .u8 0,.int .u8 0,.int .u8 0,.int .u8 0,.int .u8 0,.int .u8 0,.int .u8 0,.int .u8 0,.int .u8 0,.int .u8 0,.int .u8 0,.int .u8 0,.int .u8 0,.int .u8 0,.int .u8 0,.int .u8 0] 34 (0,0))]) (by subst hN;rw[<-nWl];rfl) ?_;refine B 4 ?_;refine CJ.loop (α:=Nat×Nat) (λp=>[(2,ptr b2 0),(3,ptr b3 0),(4,.func (.func 237) #[ptr b3 0] #[]),(6,.slice (some ⟨pJ,p.2,none⟩) (N-64*p.1) (128-64*p.1))]) (λp=>[(pJ,.cells (cf 128 (mS n m j N)) 5 (0,0)),(b3,.cells (oU n m (j+p.1)).cells 336 (0,0)),(b2,.cells #[.int .u8 0,.int .u8 0,.int .u8 0,.int .u8 0,.int .u8 0,.int .u8 0,.int .u8 0,.int .u8 0,.int .u8 0,.int .u8 0,.int .u8 0,.int .u8 0,.int .u8 0,.int .u8 0,.int .u8 0,.int .u8 0,.int .u8 0,.int .u8 0,.int .u8 0,.int .u8 0,.int .u8 0,.int .u8 0,.int .u8 0,.int .u8 0,.int .u8 0,.int .u8 0,.int .u8 0,.int .u8 0,.int .u8 0,.int .u8 0,.int .u8 0,.int .u8 0] 34 (0,0))]) (λp=>[w]) (λp=>Gh.no) (λp=>64*p.1<=N/\(64*p.1<128->p.2=64*p.1)) (λp=>N-64*p.1) (0,0) dE ⟨rfl,rfl,rfl,by subst hN;rfl,trivial⟩ rfl rfl z1 ?_
  rintro⟨k,o2⟩ ⟨hk,db⟩;dsimp only at hk db ⊢;refine B 8 ?_;refine aO ?_ ?_
  ·intro cY;exact zHj
  intro cY;refine B 13 ?_;have ZD:j+k=eG n:=by unfold eG at *;omega
  rw[ZD];refine ztf ?_;rintro i hi;refine B 6 ?_;refine aO ?_ ?_
  ·intro gb;exact zjk
  intro gb;exact zTj
 intro aQ;refine B 3 ?_;obtain⟨N,hN,hNN⟩:∃N,N=64/\64*(eG n-j)=N:=⟨64,rfl,by unfold eG;omega⟩;refine B 5 ?_;refine rv rfl rfl rfl (iw (l:=56) (h:=64) (off':=56) underlying64 sizeOf5 rfl ⟨_,_,rfl,rfl⟩ rfl zM zM rfl) ?_;refine B 3 ?_;refine zVf ?_;refine OJ.reH (H':=[(pJ,.cells (cf 128 (mS n m j N)) 5 (0,0)),(b3,.cells (oU n m j).cells 336 (0,0)),(b2,.cells #[.int .u8 0,.int .u8 0,.int .u8 0,.int .u8 0,.int .u8 0,.int .u8 0,.int .u8 0,.int .u8 0,.int .u8 0,.int .u8 0,.int .u8 0,.int .u8 0,.int .u8 0,.int .u8 0,.int .u8 0,.int .u8 0,.int .u8 0,.int .u8 0,.int .u8 0,.int .u8 0,.int .u8 0,.int .u8 0,.int .u8 0,.int .u8 0,.int .u8 0,.int .u8 0,.int .u8 0,.int .u8 0,.int .u8 0,.int .u8 0,.int .u8 0,.int .u8 0] 34 (0,0))]) (by subst hN;rw[<-nWl];rfl) ?_;refine B 4 ?_;refine CJ.loop (α:=Nat×Nat) (λp=>[(2,ptr b2 0),(3,ptr b3 0),(4,.func (.func 237) #[ptr b3 0] #[]),(6,.slice (some ⟨pJ,p.2,none⟩) (N-64*p.1) (128-64*p.1))]) (λp=>[(pJ,.cells (cf 128 (mS n m j N)) 5 (0,0)),(b3,.cells (oU n m (j+p.1)).cells 336 (0,0)),(b2,.cells #[.int .u8 0,.int .u8 0,.int .u8 0,.int .u8 0,.int .u8 0,.int .u8 0,.int .u8 0,.int .u8 0,.int .u8 0,.int .u8 0,.int .u8 0,.int .u8 0,.int .u8 0,.int .u8 0,.int .u8 0,.int .u8 0,.int .u8 0,.int .u8 0,.int .u8 0,.int .u8 0,.int .u8 0,.int .u8 0,.int .u8 0,.int .u8 0,.int .u8 0,.int .u8 0,.int .u8 0,.int .u8 0,.int .u8 0,.int .u8 0,.int .u8 0,.int .u8 0] 34 (0,0))]) (λp=>[w]) (λp=>Gh.no) (λp=>64*p.1<=N/\(64*p.1<128->p.2=64*p.1)) (λp=>N-64*p.1) (0,0) dE ⟨rfl,rfl,rfl,by subst hN;rfl,trivial⟩ rfl rfl z1 ?_
 rintro⟨k,o2⟩ ⟨hk,db⟩;dsimp only at hk db ⊢;refine B 8 ?_;refine aO ?_ ?_
 ·intro gL;exact zHj
 intro gL;refine B 13 ?_;have ZD:j+k=eG n:=by unfold eG at *;omega
 rw[ZD];refine ztf ?_;rintro i hi;refine B 6 ?_;refine aO ?_ ?_
 ·intro jL;exact zjk
 intro jL;exact zTj
theorem zd(n:Nat)(h0:0<n)(h1:n<=1099511627776)(w:World):Calls prog 239 #[.slice none 0 0,.int .i64 (n:Int)] w (cu w (λp:Nat×Nat=>.slice (some ⟨p.1,0,none⟩) 0 p.2) (λp w1=>w.heap.size<=p.1/\n<=p.2/\w1.heap[p.1]? =some (.cells (cf p.2 (λ_=>.int .u8 0)) 5 (0,0)))):=by
 refine enter (vs:=[_,_]) func239 rfl ntmps239 rfl ?_;refine B 9 ?_;refine wD ?_;refine B 14 ?_;refine rq (.int .i64 (n:Int)) (gP rfl rfl zM zM) (vi zM) ?_;refine B 6 ?_;refine QT ?_;refine B 7 ?_;refine rv rfl rfl rfl (QU underlying64 sizeOf5 rfl ⟨_,_,rfl,rfl⟩) ?_;refine B 1 ?_;refine ZE underlying64 underlying3 QP rfl rfl rfl rfl rfl rfl rfl rfl h0 h1 ?_;intro b22 cap QV ag1 ag2;replace QV:=yb QV;refine B 2 ?_;refine rv rfl rfl rfl (gn (h:=0) underlying64 sizeOf5 rfl ⟨_,_,rfl,rfl⟩ zM) ?_;refine B 10 ?_;exact bJ (.inl rfl) results239 (RS.t rfl RS.n) (λW hS=>⟨(b22,cap),rfl,hS.base A0 wE,by omega,by omega,hS.own _ A0⟩)
def ZF (ss:List rz):Array Value:=(ss.map rz.val).toArray
theorem nIi(ss:List rz)(j k:Nat)(h:k=j)(hj:j<ss.length):(ZF ss)[k]? =some ss[j].val:=by subst h;simp[ZF,hj]
theorem njl(ss:List rz)(b0 c0 t0:Nat)(fA:Nat×Nat)(hk:ss.length<1000)(h0:0<(nP ss).length)(h1:(nP ss).length<=1099511627776)(w:World)(mA:w.heap[b0]? =some (.cells (ZF ss) t0 fA))(hss:∀s∈ss,s.At w):Calls prog 171 #[.slice (some ⟨b0,0,none⟩) ss.length c0] w (cu w (λp:Nat×Nat×List Value=>.slice (some ⟨p.1,0,none⟩) (nP ss).length p.2.1) (λp w1=>w.heap.size<=p.1/\((nP ss).length<=p.2.1/\p.2.2.length=p.2.1-(nP ss).length)/\w1.heap[p.1]? =some (.cells (nP ss++p.2.2).toArray 5 (0,0)))):=by
 have ag3:=(aL.1 mA).1;refine enter (vs:=[_]) func171 rfl ntmps171 rfl ?_;refine B 19 ?_;refine CJ.loop (α:=Nat) (λj=>[(0,.slice (some ⟨b0,0,none⟩) ss.length c0),(3,.int .i64 (((nP (ss.take j)).length:Nat):Int)),(9,.slice (some ⟨b0,0,none⟩) ss.length c0),(10,.int .i64 (ss.length:Int)),(11,.int .i64 (j:Int))]) (λj=>[]) (λj=>[w]) (λj=>Gh.no) (λj=>j<=ss.length) (λj=>ss.length-j) 0 (dx _) zR rfl rfl z1 ?_;rintro j hj;have mB:=nBg ss (j+1);have KE:∀h:j<ss.length,(nP (ss.take (j+1))).length=(nP (ss.take j)).length+(ss[j]).n:=λh=>by rw[ZG ss j h,cC];exact congrArg (_+ ·) (wF _ _)
 refine B 6 ?_;refine aO ?_ ?_
 ·intro aj;refine B 5 ?_;have DH:j<ss.length:=by omega
  have ZH:=KE DH;refine B 2 ?_;refine rv rfl rfl rfl (aa (v:=(ss[j]'zM).val) isAgg64 rfl A0 mA zZ trivial (nIi ss j _ zM zM)) ?_;refine B 8 ?_;refine rq (.int .i64 (((nP (ss.take (j+1))).length:Nat):Int)) (qv rfl rfl zM zM) (vi zM) ?_;refine B 6 ?_;refine wD ?_;refine B 10 ?_;exact EH
 intro aj;refine B 6 ?_;have e:j=ss.length:=by omega
 subst e;rw[jo (ao _)];refine B 2 ?_;refine Wa (bo:=λp:Nat×Nat=>(p.1,.cells (cf p.2 (λ_=>.int .u8 0)) 5 (0,0))) (Φ:=λp=>(nP ss).length<=p.2) call239 rfl rfl rfl (λW hS=>zd _ h0 h1 W) ?_;rintro⟨bg,cg⟩ hag hog dM;simp only[ab]at hag dM;refine B 12 ?_;refine CJ.loop (α:=Nat×Nat×Nat×List Value) (λp=>[(6,.slice (some ⟨p.2.1,0,none⟩) (nP (ss.take p.1)).length p.2.2.1),(25,.slice (some ⟨b0,0,none⟩) ss.length c0),(26,.int .i64 (ss.length:Int)),(27,.int .i64 (p.1:Int))]) (λp=>[(p.2.1,.cells (nP (ss.take p.1)++p.2.2.2).toArray 5 (0,0))]) (λp=>[w]) (λp=>Gh.no) (λp=>p.1<=ss.length/\w.heap.size<=p.2.1/\(nP (ss.take p.1)).length<=p.2.2.1/\p.2.2.2.length=p.2.2.1-(nP (ss.take p.1)).length) (λp=>ss.length-p.1) (0,bg,cg,(List.range cg).map (λ_=>.int .u8 0)) ⟨dx _,hag.1,dx _,by simp[nP]⟩ zR rfl rfl z1 ?_;rintro⟨j,b,cap,sp⟩ ⟨hj,h2,h3,h4⟩;dsimp only at hj h2 h3 h4 ⊢;have mB:=nBg ss (j+1);have KE:∀h:j<ss.length,(nP (ss.take (j+1))).length=(nP (ss.take j)).length+(ss[j]).n:=λh=>by rw[ZG ss j h,cC];exact congrArg (_+ ·) (wF _ _)
 refine B 6 ?_;refine aO ?_ ?_
 ·intro aQ;refine B 5 ?_;have DH:j<ss.length:=by omega
  have ZH:=KE DH;refine B 2 ?_;refine rv rfl rfl rfl (aa (v:=(ss[j]'zM).val) isAgg64 rfl A0 mA zZ qo (nIi ss j _ zM zM)) ?_;refine B 3 ?_;obtain⟨csj,tj,frj,O1,hso,DI⟩:=hss (ss[j]'zM) (QH _);have ag4:=(aL.1 O1).1;refine B 3 ?_;refine QW (i:=0) (m:=1) (ys:=nP (ss.take j)) (sp:=sp) (news:=(ss[j]'zM).l) (n:=(ss[j]'zM).n) rfl underlying64 QP rfl rfl rfl rfl rfl rfl rfl (jP.sl underlying64 (Rd.old A0 O1 zZ qo zM (ZI zM DI)) (by rw[uk];exact wF _ _) (ze _ _)) zM zM h3 ⟨h2,trivial⟩ zM (by show _*1<=_;omega) ?_;intro b' aU bK QX QY ku;simp only[ab]at QX;refine B 8 ?_;refine PJ.reH (H':=[(b',.cells (nP (ss.take (j+1))++bK).toArray 5 (0,0))]) (by rw[ZG ss j zM];rfl) ?_;refine PJ.again (j+1,b',aU,bK) ⟨by dsimp only;omega,QX.1,by dsimp only;rw[KE zM];exact QY,by dsimp only;rw[KE zM];omega⟩ dE ⟨by rw[KE zM];rfl,rfl,rfl,rfl,trivial⟩ rfl rfl z1
 intro aQ;refine B 12 ?_;have e:j=ss.length:=by omega
 subst e;rw[jo (ao _)]at h3 h4 ⊢;exact bJ (.inl rfl) results171 (RS.t rfl RS.n) (λW hS=>⟨(b,cap,sp),rfl,hS.base A0 wE,h2,⟨h3,h4⟩,hS.own _ A0⟩)
def wG (n:Nat) (m m':Nat->Int) (i:Nat):Int:=if i<n then m i else m' (i-n)
theorem nqp(n n':Nat)(m m':Nat->Int):jr n m++jr n' m'=jr (n+n') (wG n m m'):=by
 apply vr;intro i;by_cases h:i<n
 ·rw[xX (by rw[wF];exact h)];simp[jr,h,show i<n+n' by omega,wG]
 rw[DJ (by rw[wF];omega),wF];by_cases h2:i<n+n'
 ·simp[jr,h2,show i-n<n' by omega,wG,h]
 rw[um (by rw[wF];omega),um (by rw[wF];omega)]
theorem ET(n:Nat)(m:Nat->Int)(sp:List Value)(i:Nat)(h:i<n):((jr n m++sp).toArray)[0+i]? =some (.int .u8 (m i)):=by
 rw[jg,DK,xX (by rw[wF];exact h)];simp[jr,h]
def tagged (s:ByteArray) (n:Nat) (m:Nat->Int):Nat->Int:=tv (32+n) (wG 32 (tv s.size (sB s)) m)
theorem nDg(s:ByteArray)(n:Nat)(m:Nat->Int)(bb off c t t2 t3:Nat)(fr ry uh:Nat×Nat)(cs:Array Value)(hs0:s.size<1000)(hc:n<=c)(hn:n<1000000000000)(w:World)(y4:w.heap[bb]? =some (.cells cs t fr))(mT:off+n<=cs.size)(hm:∀i,i<n->cs[off+i]? =some (.int .u8 (m i)))(tu:w.heap[0]? =some (.cells S8.init.cells t2 ry))(hg:w.heap[4]? =some (.cells (cf 64 (λi=>u32 (kk i))) t3 uh)):Calls prog 108 #[.string s,.slice (some ⟨bb,off,none⟩) n c] w (av w (.agg (dg (tagged s n m)))):=by
 have QO:=(aL.1 y4).1;have ZC:=(aL.1 tu).1;have V7:=(aL.1 hg).1;refine enter (vs:=[_,_]) func108 rfl ntmps108 rfl ?_;refine B 2 ?_;refine rT ?_;refine yW ?_;intro b4 dD dH;refine B 5 ?_;refine QZ underlying9 underlying64 underlying5 rfl rfl rfl ?_;intro b7 ZJ w7 cs7 fr7 vt fu lG xY KF jE ZK hs7;replace fu:=yb fu;try simp only[bE,ne_eq]at lG
 refine call call170 rfl rfl rfl (λW hS=>nQi s.size (sB s) b7 0 ZJ _ _ _ _ _ _ cs7 zM zM W (hS.old A0 vt xY qo) zM hs7 (hS.old A1 tu zZ qo) (hS.old A1 hg zZ qo)) ?_;refine rT ?_;refine yW ?_;intro b5 iu iv;refine O2 ?_;refine B 3 ?_;have aN:(nP [⟨b5,0,32,32,tv s.size (sB s)⟩,⟨bb,off,n,c,m⟩]).length=32+n:=by simp[nP,rz.l,wF]
 have Q0:∀W,W.heap[b5]? =some (.cells (dg (tv s.size (sB s))) 34 (0,0))->W.heap[bb]? =some (.cells cs t fr)->∀x∈([⟨b5,0,32,32,tv s.size (sB s)⟩,⟨bb,off,n,c,m⟩]:List rz),x.At W:=λW h1 h2 x hx=>by
  simp only[cP,fm,or_false]at hx;rcases hx with rfl|rfl
  ·exact⟨_,_,_,h1,ao 32,λi hi=>by rw[jg];exact pI _ i hi⟩
  exact⟨_,_,_,h2,mT,hm⟩
 refine B 1 ?_;refine Q1 ?_;refine B 1 ?_;refine EU underlying339 sizeOf64 zeroValue64 rfl rfl rfl rfl rfl rfl rfl ?_;refine yV ?_;intro rA Q2 ZL ZM ag5 EV EW;refine Wa (bo:=λp:Nat×Nat×List Value=>(p.1,.cells (nP [⟨b5,0,32,32,tv s.size (sB s)⟩,⟨bb,off,n,c,m⟩]++p.2.2).toArray 5 (0,0))) (Φ:=λp=>(nP [⟨b5,0,32,32,tv s.size (sB s)⟩,⟨bb,off,n,c,m⟩]).length<=p.2.1/\p.2.2.length=p.2.1-(nP [⟨b5,0,32,32,tv s.size (sB s)⟩,⟨bb,off,n,c,m⟩]).length) call171 rfl rfl rfl (λW hS=>njl [⟨b5,0,32,32,tv s.size (sB s)⟩,⟨bb,off,n,c,m⟩] rA 2 _ _ z1 (by rw[aN];omega) (by rw[aN];omega) W (hS.old A0 ZL ZM qo) (Q0 W (hS.own _ A0) (hS.old A2 y4 zZ qo))) ?_;rintro⟨bc,cc,spc⟩ hac hoc ⟨hcc,Q3⟩;replace hac:=yb hac;dsimp only at hcc Q3;rw[aN]at hcc Q3;refine OJ.re (v':=.slice (some ⟨bc,0,none⟩) (32+n) cc) (by show Value.slice _ (nP _).length _=_;rw[aN]) ?_;refine OJ.reH (H':=[(bc,.cells (jr (32+n) (wG 32 (tv s.size (sB s)) m)++spc).toArray 5 (0,0)),(b5,.cells (dg (tv s.size (sB s))) 34 (0,0)),(b4,.cells #[.int .u8 0,.int .u8 0,.int .u8 0,.int .u8 0,.int .u8 0,.int .u8 0,.int .u8 0,.int .u8 0,.int .u8 0,.int .u8 0,.int .u8 0,.int .u8 0,.int .u8 0,.int .u8 0,.int .u8 0,.int .u8 0,.int .u8 0,.int .u8 0,.int .u8 0,.int .u8 0,.int .u8 0,.int .u8 0,.int .u8 0,.int .u8 0,.int .u8 0,.int .u8 0,.int .u8 0,.int .u8 0,.int .u8 0,.int .u8 0,.int .u8 0,.int .u8 0] 34 (0,0))]) (by rw[<-nqp];simp only[nP,rz.l,dN];rfl) ?_
 refine call call170 rfl rfl rfl (λW hS=>nQi (32+n) (wG 32 (tv s.size (sB s)) m) bc 0 cc _ _ _ _ _ _ _ zM zM W (hS.own _ A0) (by simp only[rU,cC,wF];omega) (λi hi=>ET _ _ _ i hi) (hS.old A2 tu zZ qo) (hS.old A2 hg zZ qo)) ?_;refine aV (i:=2) rfl sizeOf34 rfl rfl rfl rfl rfl rfl ?_;refine B 3 ?_;refine bG (.inl rfl) results108 (RS.wA (i:=2) rfl isAgg34 sizeOf34 rfl (aT rfl) (RS.n)) A2 zS ?_;rfl
def zf (s:ByteArray) (n:Nat) (m:Nat->Int):Int:=1+DF 2305843009213688668 (rp (tagged s n m)) 0
theorem nPi(s:ByteArray)(n:Nat)(m:Nat->Int):jq (tagged s n m):=EX _ _
theorem ncl(s:ByteArray)(n:Nat)(m:Nat->Int)(bb off c t t2 t3:Nat)(fr ry uh:Nat×Nat)(cs:Array Value)(hs0:s.size<1000)(hc:n<=c)(hn:n<1000000000000)(w:World)(y4:w.heap[bb]? =some (.cells cs t fr))(mT:off+n<=cs.size)(hm:∀i,i<n->cs[off+i]? =some (.int .u8 (m i)))(tu:w.heap[0]? =some (.cells S8.init.cells t2 ry))(hg:w.heap[4]? =some (.cells (cf 64 (λi=>u32 (kk i))) t3 uh)):Calls prog 110 #[.string s,.slice (some ⟨bb,off,none⟩) n c] w (av w (.int .i64 (zf s n m))):=by
 have hB:=nPi s n m;have Ks:=Zq 2305843009213688668 zQ (rp (tagged s n m)) 0 zQ zQ;refine enter (vs:=[_,_]) func110 rfl ntmps110 rfl ?_;refine B 9 ?_;refine call call108 rfl rfl rfl (λW hS=>nDg s n m bb off c _ _ _ _ _ _ cs hs0 hc hn W (hS.old A0 y4 zZ trivial) mT hm (hS.old A0 tu zZ trivial) (hS.old A0 hg zZ trivial)) ?_;refine call call174 rfl rfl rfl (λW hS=>neo _ hB _ zQ zQ W) ?_;refine B 6 ?_;refine ay results110 rfl A0 ?_;rfl




theorem bt:vv prog 64 5:=⟨underlying64,underlying5,⟨_,QP,rfl,rfl,rfl⟩,sizeOf5⟩
theorem KG(n:Int)(h1: -9223372036854775808<=n)(h2:n<=9223372036854775807):IntKind.u64.wrap (BitVec.ofInt 64 (IntKind.u64.wrap (IntKind.u64.wrap n*2))^^^BitVec.ofInt 64 (IntKind.u64.wrap (n/9223372036854775808))).toNat=(EY n:Int):=by
 simp only[nD];unfold EY;by_cases h:0<=n
 ·rw[if_pos h,show n/9223372036854775808=0 by omega];have:(0:Int)%18446744073709551616=0:=by decide
  rw[this,show n%18446744073709551616*2%18446744073709551616=2*n by omega];have e:BitVec.ofInt 64 0=0#64:=rfl;rw[e,BitVec.xor_zero,BitVec.toNat_ofInt];omega
 rw[if_neg h,show n/9223372036854775808= -1 by omega];have:(-1:Int)%18446744073709551616=18446744073709551615:=by decide
 rw[this,show n%18446744073709551616*2%18446744073709551616=2*n+18446744073709551616 by omega];have e:BitVec.ofInt 64 18446744073709551615=BitVec.allOnes 64:=by decide
 rw[e,BitVec.xor_allOnes,BitVec.toNat_not,BitVec.toNat_ofInt];omega
theorem zg(n:Int)(h1: -9223372036854775808<=n)(h2:n<=9223372036854775807):EY n<18446744073709551616:=by unfold EY;split<;>omega
theorem Q4(u:Nat):IntKind.u8.wrap (BitVec.ofInt IntKind.u8.bits ((u:Int)%256)|||BitVec.ofInt IntKind.u8.bits 128).toNat=((UInt8.ofNat (u%128+128)).toNat:Int):=by
 have key:∀v:BitVec 8,(v|||128#8).toNat=(v.toNat%128+128):=by decide
 have e:BitVec.ofInt IntKind.u8.bits 128=128#8:=rfl;rw[e];have e2:(BitVec.ofInt 8 ((u:Int)%256)).toNat=u%256:=by rw[BitVec.toNat_ofInt];omega
 have:=key (BitVec.ofInt 8 ((u:Int)%256));rw[e2]at this;show IntKind.u8.wrap (BitVec.ofInt 8 ((u:Int)%256)|||128#8).toNat=_;rw[this,nnm];simp only[UInt8.toNat_ofNat'];omega
theorem EZ(u:Nat)(h:u<256):((u:Int)%256)=((UInt8.ofNat u).toNat:Int):=by
 simp only[UInt8.toNat_ofNat'];omega
theorem nIj(n:Int)(h1: -9223372036854775808<=n)(h2:n<=9223372036854775807)(w:World):Calls prog 234 #[.int .i64 n] w (av w (.int .u64 (EY n:Int))):=by
 refine enter (vs:=[_]) func234 rfl ntmps234 rfl ?_;refine B 8 ?_;refine rv rfl rfl rfl (iN underlying3 underlying202 rfl) ?_;refine rv rfl rfl rfl (yQ 1 2 zQ rfl rfl rfl) ?_;refine B 1 ?_;refine rv rfl rfl rfl (gl 63 9223372036854775808 zQ rfl rfl rfl) ?_;refine rv rfl rfl rfl (iN underlying3 underlying202 rfl) ?_;refine rv rfl rfl rfl (uo rfl rfl) ?_;refine B 4 ?_;refine ay results234 rfl A0 ?_;exact vu (KG n h1 h2)
theorem Wf(xs:List UInt8)(u:Nat)(hu:u<18446744073709551616)(b cap:Nat)(sp:List Value)(qw:cJ xs cap sp)(gQ:xs.length<=900000000000)(w:World)(hb:w.heap[b]? =some (bj 5 xs sp)):Calls prog 233 #[bB b xs.length cap,.int .u64 (u:Int)] w (KH w b 5 (xs++num u)):=by
 have jN:=(aL.1 hb).1;have ag6:=DL hu;refine nM (vs:=[_,_]) (Gh.lent (· =b)) [(b,bj 5 xs sp)] func233 rfl ntmps233 rfl (zh hb) ?_;refine B 7 ?_;refine CJ.loop (α:=List UInt8×Nat×Nat×Nat×List Value) (λp=>[(0,bB p.2.2.1 p.1.length p.2.2.2.1),(1,.int .u64 (p.2.1:Int))]) (λp=>[(p.2.2.1,bj 5 p.1 p.2.2.2.2)]) (λp=>[w]) (λp=>Gh.lent (· =b)) (λp=>xs++num u=p.1++num p.2.1/\p.2.1<18446744073709551616/\Fr (Gh.lent (· =b)) [w] p.2.2.1/\cJ p.1 p.2.2.2.1 p.2.2.2.2) (λp=>p.2.1) (xs,u,b,cap,sp) ⟨rfl,hu,.inl rfl,qw⟩ ⟨rfl,rfl,trivial⟩ rfl rfl z1 ?_;rintro⟨ys,v,b1,c1,Wg⟩ ⟨hinv,hv,hf,hr⟩;dsimp only at hinv hv hf hr ⊢;have uq:(ys++num v).length<=900000000010:=by rw[<-hinv,cC];omega
 have oV:=E1 v;rw[cC]at uq;refine B 7 ?_;refine aO ?_ ?_
 ·intro aj;refine B 7 ?_;refine rv rfl rfl rfl (mR underlying202 underlying5 rfl) ?_;refine rq (.int .u8 ((UInt8.ofNat (v%128+128)).toNat:Int)) (vj rfl rfl) (congrArg (Value.int .u8) (Q4 v)) ?_;refine O3 [UInt8.ofNat (v%128+128)] bt zeroValue5 rfl rfl rfl rfl rfl rfl rfl rfl rfl ?_;intro b13 E2 KI ag7 ag8;replace E2:=yb E2;replace KI:=ye KI;refine II (i:=1) (xs:=ys) (zs:=[UInt8.ofNat (v%128+128)]) (sp:=Wg) rfl bt rfl rfl rfl rfl (iA.own (i:=0) underlying64 rfl) hr hf xZ ?_;intro b14 c14 s14 Q5 ZN;have Q6:=Q5;replace Q6:=yf Q6;refine OJ.dropF (i:=0) rfl (.inr ⟨E2.1,trivial⟩) ?_;refine B 6 ?_;refine rq (.int .u64 ((v/128:Nat):Int)) (gl 7 128 zQ rfl rfl rfl) (vu zM) ?_;refine B 2 ?_;refine PJ.again (ys++[UInt8.ofNat (v%128+128)],v/128,b14,c14,s14) ⟨by dsimp only;rw[hinv,ZO zM,iH];rfl,by dsimp only;omega,Q5,ZN⟩ dE ⟨rfl,rfl,trivial⟩ rfl rfl z1
 intro aj;refine B 9 ?_;refine rq (.int .u8 ((UInt8.ofNat v).toNat:Int)) (mR underlying202 underlying5 rfl) (congrArg (Value.int .u8) (EZ v zM)) ?_;refine O3 [UInt8.ofNat v] bt zeroValue5 rfl rfl rfl rfl rfl rfl rfl rfl rfl ?_;intro b18 ur E3 ZP Q7;replace ur:=yb ur;replace E3:=ye E3;refine II (i:=1) (xs:=ys) (zs:=[UInt8.ofNat v]) (sp:=Wg) rfl bt rfl rfl rfl rfl (iA.own (i:=0) underlying64 rfl) hr hf xZ ?_;intro b19 c19 s19 Q8 ZQ;have Q9:=Q8;replace Q9:=yf Q9;refine OJ.dropF (i:=0) rfl (.inr ⟨ur.1,trivial⟩) ?_;refine B 4 ?_;rw[hinv,Ra zM];exact Wh (i:=0) (.inl rfl) results233 rfl rfl A0 (by simp only[jG,dC,fk,qx,rV,and_true];simp only[Fr,Gh.lent,ab]at Q8;omega) ZQ
variable {C:Cx} {E:Env} {G:Gh} {H:ad} {L:List World} {T:Nat} {x:Operand}
theorem KJ{U:Nat}{y:Operand}(hx:ev E x=some (.string ⟨#[]⟩))(hy:ev E y=some (.string ⟨#[]⟩)):RV C G L H E (.binOp .eql T x y U) (.bool true):=
 RV.re (uu hx hy) (vb z1)
def E4 (N:Nat) (w:World) (base:Option Addr) (l:List V):Prop:=∀i (h:i<l.length),∃bl cs t fr,base=some ⟨bl,0,none⟩/\bl<N/\w.heap[bl]? =some (.cells cs t fr)/\4*i+4<=cs.size/\∃a1 a2 p3 n3 c3,cut cs (4*i) 4=#[.int .i64 (l[i]).kind,.int .i64 a1,.string a2,.slice p3 n3 c3]/\ef N w l[i] (.agg #[.int .i64 (l[i]).kind,.int .i64 a1,.string a2,.slice p3 n3 c3])
variable {N:Nat} {v:Value}
theorem ef.list{w:World}{l:List V}(h:ef N w (.list l) v):∃base cap,v=vL base l.length cap/\l.length<=cap/\E4 N w base l:=by
 simp only[ef]at h;obtain⟨base,cap,hv,hc,hl⟩:=h;refine⟨base,cap,hv,hc,λi hi=>?_⟩;rcases hl with rfl|⟨b,cs,t,fr,hb,hlt,hcs,hs⟩
 ·simp at hi
 obtain⟨h1,h2⟩:=hs.get i hi;rw[jg]at h1 h2;obtain⟨a1,a2,p3,n3,c3,hsh⟩:=h2.shape;rw[hsh]at h2;exact⟨b,cs,t,fr,hb,hlt,hcs,h1,a1,a2,p3,n3,c3,by injection hsh,h2⟩
def nOk (x:V):Prop:=∀(N:Nat) (w:World) (v:Value),N<=w.heap.size->ef N w x v->x.fine->Calls prog 231 #[v] w (av w (.tuple #[.int .i64 (x.depth:Int),.bool true]))
theorem nfo(n:Int)(w:World):Calls prog 231 #[vI n] w (av w (.tuple #[.int .i64 0,.bool true])):=by
 refine ZR ?_;refine yV ?_;intro b1 w1 aP aX fW eb ir;refine B 13 ?_;refine DC ?_;refine B 5 ?_;refine nh (t:=21) rfl (λaj=>?_) (λaj=>?_)
 ·replace aj:=ya aj;refine B 9 ?_;refine nh (t:=30) rfl (λaQ=>?_) (λaQ=>?_)
  ·replace aQ:=ya aQ;exact Wj
  replace aQ:=ya aQ;exact Wj
 replace aj:=ya aj;refine B 9 ?_;refine nh (t:=30) rfl (λcY=>?_) (λcY=>?_)
 ·replace cY:=ya cY;exact Wj
 replace cY:=ya cY;exact Wj
theorem nRm(x:ByteArray)(w:World):Calls prog 231 #[vT x] w (av w (.tuple #[.int .i64 0,.bool true])):=by
 refine ZR ?_;refine yV ?_;intro b1 w1 aP aX fW eb ir;refine B 8 ?_;refine rv rfl rfl rfl (uu rfl rfl) ?_;refine B 1 ?_;refine nh (t:=12) rfl (λaj=>?_) (λaj=>?_)
 ·replace aj:=ya aj;refine B 3 ?_;refine DC ?_;refine B 3 ?_;refine zGi ?_;exact ZS
 replace aj:=ya aj;refine B 7 ?_;refine zGi ?_;exact ZS
theorem nCm(l:List V)(ih:∀y∈l,nOk y)(bV:(V.list l).fine)(N:Nat)(base:Option Addr)(cap:Nat)(w:World)(hN:N<=w.heap.size)(pK:E4 N w base l):Calls prog 231 #[vL base l.length cap] w (av w (.tuple #[.int .i64 ((V.depthL l+1:Nat):Int),.bool true])):=by
 simp only[V.fine]at bV;obtain⟨uw,wH,KK⟩:=bV;refine ZR ?_;refine yV ?_;intro b1 w1 aP aX fW eb ir;refine B 17 ?_;refine DC ?_;refine B 8 ?_;refine DC ?_;refine B 6 ?_;refine ZT ?_;refine yW ?_;intro b4 dD dH;refine zNf ?_;refine B 7 ?_;refine wD ?_;refine B 3 ?_;refine KL ?_;refine B 18 ?_;refine wD ?_;refine B 15 ?_;refine CJ.dropAt (i:=0) rfl ⟨by omega,by omega,trivial⟩ ?_;refine CJ.loop (α:=Nat) (λi=>[(1,ptr b1 0),(2,.int .i64 ((V.depthL (l.take i):Nat):Int)),(55,.slice base l.length cap),(56,.int .i64 (l.length:Int)),(57,.int .i64 (i:Int))]) (λi=>[]) (λi=>[w1,w]) (λi=>Gh.no) (λi=>i<=l.length/\V.depthL (l.take i)<=1000000000) (λi=>l.length-i) 0 ⟨dx _,by simp[V.depthL]⟩ zR rfl rfl z1 ?_;rintro i ⟨hi,hdi⟩;refine B 6 ?_;refine aO ?_ ?_
 ·intro aj;refine B 5 ?_;obtain⟨bl,cs,te,fre,rfl,jN,hcs,hcz,a1,a2,p3,n3,c3,rW,tw⟩:=pK i zM;have zi:=(aL.1 hcs).1;obtain⟨y,hy⟩:∃y,l[i]'zM=y:=⟨_,rfl⟩;rw[hy]at rW tw;have E5:y∈l:=hy▸QH _;refine B 2 ?_;refine rq (.agg #[.int .i64 y.kind,.int .i64 a1,.string a2,.slice p3 n3 c3]) (ag isAgg149 sizeOf149 rfl A1 hcs zZ trivial zM) (va (by rw[<-rW];congr 1;omega)) ?_;refine zj ?_;refine yW ?_;intro b6 gm kg;refine Wl ?_;refine B 5 ?_;refine call call231 rfl rfl rfl (λW hS=>ih y E5 N W _ (aS hN (hS.links _ A1).size) (ef.up (ao _) (hS.same A1 hN zU (by first|exact True.intro|(simp only[Over,dC,fk,and_true];omega))) _ _ tw) (V.fineL_mem KK y E5)) ?_;refine B 20 ?_;refine rv rfl rfl rfl (zk rfl rfl) ?_;refine B 8 ?_;refine PJ.dropAt (i:=0) rfl ⟨by omega,by omega,trivial⟩ ?_;refine PJ.again (i+1) ⟨by omega,by have h1:=V.depthL_take l i zM;rw[hy]at h1;have h2:=V.depthL_mem y E5;omega⟩ zM ⟨rfl,congrArg some (vi (by rw[V.depthL_take l i zM,hy];omega)),rfl,rfl,rfl,trivial⟩ rfl rfl z1
 intro aj;refine B 14 ?_;refine nS results231 rfl rfl A1 ?_ ?_
 ·have e:i=l.length:=by omega
  subst e;rw[jo (ao _)];rfl
 rfl
theorem nKo:∀x,nOk x:=by
 refine V.ind ?_ ?_ ?_
 ·intro n N w v _ hv _;simp only[ef]at hv;subst hv;exact nfo n w
 ·intro s N w v _ hv _;simp only[ef]at hv;subst hv;exact nRm s w
 intro l ih N w v hN hv hf;obtain⟨base,cap,rfl,hc,pK⟩:=hv.list;exact nCm l ih hf N base cap w hN pK
theorem nYm(x:V)(n1:Int)(s2:ByteArray)(p3:Option Addr)(n3 c3:Nat)(bV:x.fine)(hd:x.depth<=16)(N:Nat)(w:World)(hN:N<=w.heap.size)(tw:ef N w x (.agg #[.int .i64 x.kind,.int .i64 n1,.string s2,.slice p3 n3 c3])):Calls prog 168 #[.agg #[.int .i64 x.kind,.int .i64 n1,.string s2,.slice p3 n3 c3]] w (av w (.int .i64 0)):=by
 refine enter (vs:=[_]) func168 rfl ntmps168 rfl ?_;refine B 2 ?_;refine yX ?_;intro b1 w1 aP aX fW eb ir;refine B 5 ?_;refine rv rfl rfl rfl (af isAgg149 sizeOf149 rfl A0 aP aX trivial rfl) ?_;refine call call231 rfl rfl rfl (λW hS=>nKo x N W _ (aS hN (hS.links _ A1).size) (ef.up (ao _) (hS.same A1 hN zU (by first|exact True.intro|(simp only[Over,dC,fk,and_true];omega))) _ _ tw) bV) ?_;refine B 20 ?_;refine KL ?_;refine B 13 ?_;refine ay results168 rfl A1 ?_;rfl
def V.fn:V->Nat
 | .int _=>232
 | .text _=>235
 | .list _=>236
def V.cap (bv:Nat):V->List Value
 | .list _=>[ptr bv 0]
 |_=>[]
def E6 (bv:Nat):Array Value:=#[.nilFunc,.func (.func 232) #[] #[],.func (.func 235) #[] #[],.func (.func 236) #[] #[ptr bv 0]]
theorem zl(bv:Nat)(x:V)(k:Nat)(hk:(k:Int)=x.kind):(E6 bv)[k]? =some (.func (.func x.fn) #[] (x.cap bv).toArray):=by
 cases x<;>simp only[V.kind]at hk
 ·have:k=1:=by omega
  subst this;rfl
 ·have:k=2:=by omega
  subst this;rfl
 have:k=3:=by omega
 subst this;rfl
theorem V.kind_bd(x:V):1<=x.kind/\x.kind<=3:=by cases x<;>simp[V.kind]
structure Wr (N:Nat) (w:World) (bv bw:Nat):Prop where
 ltv:bv<N
 ltw:bw<N
 atv:w.heap[bv]? =some (.cells #[ptr bw 0] 264 (0,0))
 atw:w.heap[bw]? =some (.cells (E6 bv) 332 (0,0))
variable {N':Nat} {w':World}
theorem Wr.up{w:World}{bv bw:Nat}(h:Wr N w bv bw)(hN:N<=N')(hw:∀k,k<N->w'.heap[k]? =w.heap[k]?):Wr N' w' bv bw:=
 ⟨by have:=h.ltv;omega,by have:=h.ltw;omega,(hw _ h.ltv).trans h.atv,(hw _ h.ltw).trans h.atw⟩
theorem nOi(w:World):Calls prog 169 #[] w (cu w (λp:Nat×Nat=>ptr p.1 0) (λp w1=>w.heap.size<=p.1/\w.heap.size<=p.2/\w1.heap[p.2]? =some (.cells #[ptr p.1 0] 264 (0,0))/\w1.heap[p.1]? =some (.cells (E6 p.2) 332 (0,0)))):=by
 refine enter (vs:=[]) func169 rfl ntmps169 rfl ?_;refine B 8 ?_;refine KM rfl rfl rfl ?_;refine yW ?_;intro b3 bY cR;refine aY zeroValue264 rfl rfl ?_;refine yW ?_;intro b1 eb ir;refine aV (i:=0) rfl sizeOf264 rfl rfl rfl rfl rfl rfl ?_;refine B 8 ?_;refine ZU ?_;refine B 8 ?_;refine ZU ?_;refine B 9 ?_;refine ZU ?_;refine B 9 ?_;exact bJ (.inl rfl) results169 (RS.t rfl RS.n) (λW hS=>⟨(b3,b1),rfl,hS.base A0 qy,by simp only[ab]at *;omega,by simp only[ab]at *;omega,hS.own (b1,_) A0,hS.own (b3,_) A1⟩)
def ZV (x:V):Prop:=∀(N b cap bv bw:Nat) (xs:List UInt8) (sp:List Value) (w:World) (v:Value),ef N w x v->x.fine->Wr N w bv bw->N<=b->N<=w.heap.size->cJ xs cap sp->xs.length+x.enc.length<=800000000000->w.heap[b]? =some (bj 5 xs sp)->
 Calls prog x.fn (bB b xs.length cap::v::x.cap bv).toArray w (KH w b 5 (xs++x.enc))
theorem nWo(n:Int)(hn:(V.int n).fine)(xs:List UInt8)(b cap:Nat)(sp:List Value)(qw:cJ xs cap sp)(w:World)(hb:w.heap[b]? =some (bj 5 xs sp))(gQ:xs.length+(V.int n).enc.length<=800000000000):Calls prog 232 #[bB b xs.length cap,vI n] w (KH w b 5 (xs++(V.int n).enc)):=by
 have jN:=(aL.1 hb).1;simp only[V.fine]at hn;simp only[V.enc,ec]at gQ;have hz:=zg n hn.1 hn.2;refine nM (vs:=[_,_]) (Gh.lent (· =b)) [(b,bj 5 xs sp)] func232 rfl ntmps232 rfl (zh hb) ?_;refine B 2 ?_;refine yX ?_;intro b3 w3 aJ aD dr bY cR;refine ZX ?_;refine nK 5 [1,2] [([],some _),([],none),([0,1],none),([],some _),([3],some _)] (λcv L' H'=>match cv with| []=>L'=[w3,w]/\H'=[(b,bj 5 xs sp)]| [v1]=>∃(b6:Nat),v1=bB b6 ([1]:List UInt8).length 1/\L'=[w3,w]/\H'=[(b6,bj 5 [1] []),(b,bj 5 xs sp)]/\w3.heap.size<=b6/\w.heap.size<=b6| [v1,v2]=>∃(b6:Nat) (b7:Nat) (c7:Nat) (s7:List Value),v1=bB b6 ([1]:List UInt8).length 1/\v2=bB b7 (xs++[1]).length c7/\L'=[w3,w]/\H'=[(b6,bj 5 [1] []),(b7,bj 5 (xs++[1]) s7)]/\w3.heap.size<=b6/\w.heap.size<=b6/\Fr (Gh.lent (· =b)) [w3,w] b7/\(b7=b\/w3.heap.size<=b7/\w.heap.size<=b7)/\cJ (xs++[1]) c7 s7|_=>False) zT ⟨rfl,rfl⟩ zT zT zT zT zT zT (pc zW (pk (pk (pc (by exact λcv L' H' hd hP=>X.val rfl rfl (ak underlying149 rfl sizeOf3 rfl) R2) (pc zch (pn)))))) ?_ ?_
 ·refine sc rfl rfl rfl ?_ ?_
  ·intro cv L' H' hl hP F Q' hk;obtain rfl:=jt hl;obtain⟨rfl,rfl⟩:=hP;refine O3 [1] bt zeroValue5 rfl rfl rfl rfl rfl rfl rfl rfl rfl ?_;intro b6 ha ho hx hr;exact OJ.done (hk _ _ _ ⟨b6,rfl,rfl,rfl,ha.1,ha.2.1⟩)
  refine sc rfl rfl rfl ?_ ?_
  ·intro cv L' H' hl hP F Q' hk;obtain⟨v1,rfl⟩:=di hl;obtain⟨b6,rfl,rfl,rfl,gm,yh⟩:=hP;refine II (i:=1) (xs:=xs) (zs:=[1]) (sp:=sp) rfl bt rfl rfl rfl rfl (iA.own (i:=0) underlying64 rfl) qw (.inl rfl) xZ ?_;exact zlk
  exact sn
 intro cv L' H' hl hP;obtain⟨v1,v2,rfl⟩:=ju hl;obtain⟨b6,b7,c7,s7,rfl,rfl,rfl,rfl,gm,yh,oH,O4,vw⟩:=hP;refine OJ.dropF (i:=0) rfl (.inr ⟨gm,yh,trivial⟩) ?_;refine call call234 rfl rfl rfl (λW hS=>nIj _ zM zM W) ?_;refine O5 (i:=0) (ys:=xs++[1]++num (EY n)) (first:=[]) (cap:=[]) rfl rfl call233 rfl rfl rfl oH (λW hS hW=>Wf (xs++[1]) (EY n) hz b7 c7 s7 vw xZ W hW) ?_;intro rA c11 s11 ux ZY;have Rb:=ux;replace Rb:=yf Rb;refine B 4 ?_;have KN:xs++(V.int n).enc=xs++[1]++num (EY n):=by simp[V.enc]
 rw[KN];exact Wh (i:=0) (.inl rfl) results232 rfl rfl A1 (by simp only[jG,dC,fk,qx,rV,and_true];simp only[Fr,Gh.lent,ab]at ux;omega) ZY
end Px
