/- Contracts of functions of the program. No condition beyond those stated. -/
import Derived.Test.YtpgobjebhigaoaaGreatDoorXe
import Derived.Test.YtpgobjebhigaoaaGreatDoorProg
set_option linter.unusedSimpArgs false
set_option linter.unusedVariables false
set_option linter.unusedSectionVars false
set_option linter.unnecessarySimpa false
set_option maxRecDepth 20000
set_option maxHeartbeats 8000000
namespace Px
open Go Go.RowKit Go.Proofs Go.Proofs.Tryz
theorem nYi(x y:Int)(hx:0<=x)(Et:x<18446744073709551616)(hy:0<=y)(wj:y<18446744073709551616)(w:World):Calls prog 177 #[.int .u64 x,.int .u64 y] w (av w (.tuple #[.int .u64 (x*y/18446744073709551616),.int .u64 (x*y%18446744073709551616)])):=by
 have m1:=Ic (a:=x/4294967296) (b:=y/4294967296) (A:=4294967295) (B:=4294967295) zM zM zM zM;have m2:=Ic (a:=x/4294967296) (b:=y%4294967296) (A:=4294967295) (B:=4294967295) zM zM zM zM;have m3:=Ic (a:=x%4294967296) (b:=y%4294967296) (A:=4294967295) (B:=4294967295) zM zM zM zM;have m4:=Ic (a:=x%4294967296) (b:=y/4294967296) (A:=4294967295) (B:=4294967295) zM zM zM zM;refine enter (vs:=[_,_]) func177 rfl ntmps177 rfl ?_;refine B 9 ?_;refine YR ?_;refine B 6 ?_;refine Oo ?_;refine B 6 ?_;refine YR ?_;refine B 6 ?_;refine Oo ?_;refine B 7 ?_;refine Oq ?_;refine B 7 ?_;refine Oq ?_;refine B 1 ?_;refine Oo ?_;refine Qa ?_;refine B 6 ?_;refine YR ?_;refine B 6 ?_;refine Oo ?_;refine B 8 ?_;refine Oq ?_;refine Qa ?_;refine B 7 ?_;refine Oq ?_;refine B 1 ?_;refine Qa ?_;refine B 1 ?_;refine Oo ?_;refine Qa ?_;refine B 7 ?_;refine rv rfl rfl rfl (iF rfl rfl) ?_;refine B 4 ?_;refine nT results177 rfl rfl A0 ?_ ?_
 ·exact vu (n0o x y hx hy Et wj)
 rw[nD]
def Qc:ByteArray:=⟨#[0,1,2,2,3,3,3,3,4,4,4,4,4,4,4,4,5,5,5,5,5,5,5,5,5,5,5,5,5,5,5,5,6,6,6,6,6,6,6,6,6,6,6,6,6,6,6,6,6,6,6,6,6,6,6,6,6,6,6,6,6,6,6,6,7,7,7,7,7,7,7,7,7,7,7,7,7,7,7,7,7,7,7,7,7,7,7,7,7,7,7,7,7,7,7,7,7,7,7,7,7,7,7,7,7,7,7,7,7,7,7,7,7,7,7,7,7,7,7,7,7,7,7,7,7,7,7,7,8,8,8,8,8,8,8,8,8,8,8,8,8,8,8,8,8,8,8,8,8,8,8,8,8,8,8,8,8,8,8,8,8,8,8,8,8,8,8,8,8,8,8,8,8,8,8,8,8,8,8,8,8,8,8,8,8,8,8,8,8,8,8,8,8,8,8,8,8,8,8,8,8,8,8,8,8,8,8,8,8,8,8,8,8,8,8,8,8,8,8,8,8,8,8,8,8,8,8,8,8,8,8,8,8,8,8,8,8,8,8,8,8,8,8,8,8,8,8,8,8,8,8,8,8,8,8,8]⟩
theorem nWn(n:Nat)(h:n<256):Qc[n]? =some (UInt8.ofNat (cK n)):=by
 have:∀n:Fin 256,Qc[n.val]? =some (UInt8.ofNat (cK n.val)):=by decide +kernel
 exact this ⟨n,h⟩
theorem Eu{x:Int}(h0:0<=x)(h:x<256):∃b,Qc[x.toNat]? =some b/\(b.toNat:Int)=lO x:=by
 refine⟨_,nWn x.toNat zM,?_⟩;have:=Qd x.toNat 8 zM;unfold lO;simp;omega
variable {aD:Array Edge} {ops:Array Oper} {cs:Array Value} {C:Cx} {E:Env} {G:Gh} {H:ae} {D:List Deferred} {L:List World} {N N' T ty:Nat} {x:Operand} {pos:String} {v:Value} {w':World}
theorem Kb{y:Operand}{n:Int}(hU:C.P.underlying T=some .string)(hx:ev E x=some (.string Qc))(hy:ev E y=some (.int .u8 n))(h0:0<=n)(h1:n<256):RV C G L H E (.index T x y) (.int .u8 (lO n)):=by
 obtain⟨b,hb,he⟩:=Eu h0 h1;exact he▸yy hU hx hy h0 hb
theorem nj(x:Int)(q:Int)(k:Nat)(hq:(2:Int)^k=q)(h:q<=x):lO x=lO (x/q)+k:=by
 subst hq;exact nLm k h
theorem yz(x:Int)(h0:0<=x)(h:x<256):0<=lO x/\lO x<=8:=by
 have:=nUl (x:=x) 8 h0 rB;simpa using this
theorem rC{Q:aG}{l:List Oper}{d:Nat}{g:Option (Nat×Bool)}{y:Operand}{n:Int}(hU:C.P.underlying T=some .string)(hx:ev E x=some (.string Qc))(hw:nq ops E g=some true)(hN:Nat.blt d C.N=true)(hy:ev E y=some (.int .u8 n))(h0:0<=n)(h1:n<256)(k:0<=lO n->lO n<=8->OJ C ops Q l ((d,.int .u8 (lO n))::E) D G L H):OJ C ops Q (⟨some d,.index T x y,ty,pos,aD,g⟩::l) E D G L H:=
 rv rfl hw hN (Kb hU hx hy h0 h1) (k (yz n h0 h1).1 (yz n h0 h1).2)
theorem n1f(x:Int)(hx:0<=x)(Et:x<18446744073709551616)(w:World):Calls prog 139 #[.int .u64 x] w (av w (.int .i64 (lO x))):=by
 refine enter (vs:=[_]) func139 rfl ntmps139 rfl ?_;refine B 12 ?_;refine aK ?_ ?_
 ·intro aj;refine B 3 ?_;refine Oo ?_;refine B 14 ?_;refine aK ?_ ?_
  ·intro aN;refine B 3 ?_;refine rv rfl rfl rfl (gp 16 65536 zQ rfl rfl rfl) ?_;refine B 16 ?_;refine aK ?_ ?_
   ·intro cN;refine Vs ?_;refine rC underlying9 zT rfl rfl rfl zM zM (λDd Kc=>?_);refine Ie ?_
    (refine vi ?_;(try simp only[nj x 4294967296 32 zQ,nj (x/4294967296) 65536 16 zQ,nj (x/4294967296/65536) 256 8 zQ,nj (x/4294967296) 256 8 zQ,nj x 65536 16 zQ,nj (x/65536) 256 8 zQ,nj x 256 8 zQ, *]);omega)
   intro cN;refine B 6 ?_;refine Qe ?_;refine rC underlying9 zT rfl rfl rfl zM zM (λDd Kc=>?_);refine Ie ?_
   (refine vi ?_;(try simp only[nj x 4294967296 32 zQ,nj (x/4294967296) 65536 16 zQ,nj (x/4294967296/65536) 256 8 zQ,nj (x/4294967296) 256 8 zQ,nj x 65536 16 zQ,nj (x/65536) 256 8 zQ,nj x 256 8 zQ, *]);omega)
  intro aN;refine B 9 ?_;refine aK ?_ ?_
  ·intro gf;refine Vs ?_;refine rC underlying9 zT rfl rfl rfl zM zM (λDd Kc=>?_);refine Ie ?_
   (refine vi ?_;(try simp only[nj x 4294967296 32 zQ,nj (x/4294967296) 65536 16 zQ,nj (x/4294967296/65536) 256 8 zQ,nj (x/4294967296) 256 8 zQ,nj x 65536 16 zQ,nj (x/65536) 256 8 zQ,nj x 256 8 zQ, *]);omega)
  intro gf;refine B 6 ?_;refine Qe ?_;refine rC underlying9 zT rfl rfl rfl zM zM (λDd Kc=>?_);refine Ie ?_
  (refine vi ?_;(try simp only[nj x 4294967296 32 zQ,nj (x/4294967296) 65536 16 zQ,nj (x/4294967296/65536) 256 8 zQ,nj (x/4294967296) 256 8 zQ,nj x 65536 16 zQ,nj (x/65536) 256 8 zQ,nj x 256 8 zQ, *]);omega)
 intro aj;refine B 9 ?_;refine aK ?_ ?_
 ·intro gM;refine B 3 ?_;refine rv rfl rfl rfl (gp 16 65536 zQ rfl rfl rfl) ?_;refine B 16 ?_;refine aK ?_ ?_
  ·intro jE;refine Vs ?_;refine rC underlying9 zT rfl rfl rfl zM zM (λDd Kc=>?_);refine Ie ?_
   (refine vi ?_;(try simp only[nj x 4294967296 32 zQ,nj (x/4294967296) 65536 16 zQ,nj (x/4294967296/65536) 256 8 zQ,nj (x/4294967296) 256 8 zQ,nj x 65536 16 zQ,nj (x/65536) 256 8 zQ,nj x 256 8 zQ, *]);omega)
  intro jE;refine B 6 ?_;refine Qe ?_;refine rC underlying9 zT rfl rfl rfl zM zM (λDd Kc=>?_);refine Ie ?_
  (refine vi ?_;(try simp only[nj x 4294967296 32 zQ,nj (x/4294967296) 65536 16 zQ,nj (x/4294967296/65536) 256 8 zQ,nj (x/4294967296) 256 8 zQ,nj x 65536 16 zQ,nj (x/65536) 256 8 zQ,nj x 256 8 zQ, *]);omega)
 intro gM;refine B 9 ?_;refine aK ?_ ?_
 ·intro jx;refine Vs ?_;refine rC underlying9 zT rfl rfl rfl zM zM (λDd Kc=>?_);refine Ie ?_
  (refine vi ?_;(try simp only[nj x 4294967296 32 zQ,nj (x/4294967296) 65536 16 zQ,nj (x/4294967296/65536) 256 8 zQ,nj (x/4294967296) 256 8 zQ,nj x 65536 16 zQ,nj (x/65536) 256 8 zQ,nj x 256 8 zQ, *]);omega)
 intro jx;refine B 6 ?_;refine Qe ?_;refine rC underlying9 zT rfl rfl rfl zM zM (λDd Kc=>?_);refine Ie ?_
 (refine vi ?_;(try simp only[nj x 4294967296 32 zQ,nj (x/4294967296) 65536 16 zQ,nj (x/4294967296/65536) 256 8 zQ,nj (x/4294967296) 256 8 zQ,nj x 65536 16 zQ,nj (x/65536) 256 8 zQ,nj x 256 8 zQ, *]);omega)
theorem nzg(x:Int)(hx:0<=x)(Et:x<18446744073709551616)(w:World):Calls prog 243 #[.int .u64 x] w (av w (.int .i64 (64-lO x))):=by
 have hb:=nUl (x:=x) 64 hx (by simpa using Et);refine enter (vs:=[_]) func243 rfl ntmps243 rfl ?_;refine B 8 ?_;refine YS ?_;refine B 5 ?_;refine ax results243 rfl A0 ?_;rfl
theorem YT(x:Int)(hx:0<=x)(Et:x<18446744073709551616)(w:World):Calls prog 97 #[.int .u64 x] w (av w (.int .i64 (lO x))):=by
 refine enter (vs:=[_]) func97 rfl ntmps97 rfl ?_;refine B 12 ?_;refine YS ?_;refine B 4 ?_;refine ax results97 rfl A0 ?_;rfl
theorem noh(u q y1 r:Nat)(h:q*y1+r=u):((u:Int)-(q:Int)*(y1:Int))=(r:Int):=by
 have:((q*y1+r:Nat):Int)=u:=by rw[h]
 simp at this;omega
theorem nOm(hi lo y:Nat)(hhi:hi<y)(hlo:lo<18446744073709551616)(hy:y<18446744073709551616)(h0:0<hi)(w:World):Calls prog 178 #[.int .u64 (hi:Int),.int .u64 (lo:Int),.int .u64 (y:Int)] w (av w (.tuple #[.int .u64 (((hi*2^64+lo)/y:Nat):Int),.int .u64 (((hi*2^64+lo)%y:Nat):Int)])):=by
 obtain⟨aR,aH,aC⟩:=nmo y zM hy;have YU:=(nNk y zM).2.2;obtain⟨s,hs⟩:∃s,64-cK y=s:=⟨_,rfl⟩;rw[hs]at aH aC;have hsI:(64-lO (y:Int))=(s:Int):=by unfold lO;simp;omega
 obtain⟨Y,hY⟩:∃Y,y*2^s=Y:=⟨_,rfl⟩;rw[hY]at aH aC;obtain⟨y1,wj⟩:∃z,Y/4294967296=z:=⟨_,rfl⟩;obtain⟨y0,rD⟩:∃z,Y%4294967296=z:=⟨_,rfl⟩;have Ot:y1*2^32+y0=Y:=by omega
 obtain⟨hN,hlt⟩:=nko hi lo y s zM hhi hlo;obtain⟨u,hu⟩:∃z,hi*2^s+lo/2^(64-s)=z:=⟨_,rfl⟩;obtain⟨v,hv⟩:∃z,lo*2^s%2^64=z:=⟨_,rfl⟩;rw[hu,hv]at hN;rw[hu,hY]at hlt;have agI:v<18446744073709551616:=by rw[<-hv];exact Nat.mod_lt _ zQ
 obtain⟨v1,hv1⟩:∃z,v/4294967296=z:=⟨_,rfl⟩;obtain⟨v0,hv0⟩:∃z,v%4294967296=z:=⟨_,rfl⟩;have ga:2^31<=y1:=by omega
 have Ev:v1<2^32:=by omega
 have oJ:v0<2^32:=by omega
 have Vt:u<y1*2^32+y0:=by omega
 have d1:=pz.start ga zM zM Ev Vt;have agJ:hi*2^s<=u:=by rw[<-hu];exact Nat.le_add_right _ _
 have Qf:u/y1*y1<=u:=Nat.div_mul_le_self u y1;refine zki ?_;refine Qg ?_;refine B 8 ?_;refine call call243 rfl rfl rfl (λW hS=>nzg _ zM zM W) ?_;refine rq (.int .u64 (s:Int)) (tG underlying3 underlying189 rfl zM zM) (vu hsI) ?_;refine B 7 ?_;refine rq (.int .u64 (Y:Int)) (mF rfl rfl zM) (vu ((yA y s zM zM).trans (by rw[hY]))) ?_;refine B 6 ?_;refine rq (.int .u64 (y1:Int)) (gp 32 4294967296 zQ rfl rfl rfl) (vu zM) ?_;refine B 6 ?_;refine rq (.int .u64 (y0:Int)) (mG 32 4294967296 zQ rfl rfl rfl rfl zM zM) (vu zM) ?_;refine B 7 ?_;refine rq (.int .u64 ((hi*2^s:Nat):Int)) (mF rfl rfl zM) (vu (yA hi s zM zM)) ?_;refine B 2 ?_;refine rv rfl rfl rfl (mH rfl rfl zM zM) ?_;refine rq (.int .u64 ((lo/2^(64-s):Nat):Int)) (iG rfl rfl zM) (vu (Kd lo s _ zM)) ?_;refine rq (.int .u64 (u:Int)) (u6 rfl rfl) (vu ((Ig hi _ s (yB lo s zM hlo) zM).trans (by rw[hu]))) ?_;refine B 7 ?_;refine rq (.int .u64 (v:Int)) (mF rfl rfl zM) (vu ((Ew lo s zM).trans (by rw[hv]))) ?_;refine B 6 ?_;refine rq (.int .u64 (v1:Int)) (gp 32 4294967296 zQ rfl rfl rfl) (vu zM) ?_;refine B 6 ?_;refine rq (.int .u64 (v0:Int)) (mG 32 4294967296 zQ rfl rfl rfl rfl zM zM) (vu zM) ?_;refine B 7 ?_;refine rq (.int .u64 ((u/y1:Nat):Int)) (tH rfl rfl zM zM zM) (vu (Vu u y1)) ?_;refine B 8 ?_;refine Oq ?_
 refine rq (.int .u64 ((u%y1:Nat):Int)) (mH rfl rfl zM zM) (vu (noh _ _ _ _ d1.eq)) ?_;refine B 5 ?_;refine CJ.loop (α:=Nat×Nat) (λp=>[(2,.int .u64 (Y:Int)),(8,.int .u64 (s:Int)),(9,.int .u64 (y1:Int)),(10,.int .u64 (y0:Int)),(11,.int .u64 (u:Int)),(13,.int .u64 (v1:Int)),(14,.int .u64 (v0:Int)),(15,.int .u64 (p.1:Int)),(16,.int .u64 (p.2:Int))]) (λp=>[]) (λp=>[w]) (λp=>Gh.no) (λp=>pz u y1 y0 v1 p.1 p.2) (λp=>p.1) (u/y1,u%y1) d1 zR rfl rfl z1 ?_;rintro⟨q,r⟩ hd;dsimp only;replace hd:pz u y1 y0 v1 q r:=hd;have Ou:=hd.lt;have YV:=hd.le;have YW:(0:Int)<=(q:Int)*(y0:Int):=Int.mul_nonneg zM zM;have Vv:(q:Int)<=4294967295->(q:Int)*(y0:Int)<=4294967295*4294967295:=λh=>(Ic zM h zM zM).2;refine B 6 ?_;refine nh (t:=69) rfl (λaj=>?_) (λaj=>?_)
 ·replace aj:=ya aj;refine B 18 ?_;obtain⟨aY,aF,ay⟩:=hd.more ga Vt Ev zM;refine Ih ?_;refine aK ?_ ?_
  ·intro aN;refine YX ?_;first|(have tI:=hd.stop ga zM;obtain⟨q1,rfl⟩:∃q1,q1=q:=⟨_,rfl⟩)|(have tI:=Vw zM zM aF ay ga zM;generalize q-1=q1 at *)
   rw[Ot]at tI;obtain⟨r1,jF⟩:∃z,(u*2^32+v1)%Y=z:=⟨_,rfl⟩;have Qh:r1<Y:=by rw[<-jF];exact Nat.mod_lt _ zM
   have gA:q1*Y+r1=u*2^32+v1:=by have:=wo (u*2^32+v1) Y;rw[tI,jF,sY]at this;exact this
   have d2:=pz.start ga zM zM oJ (show r1<y1*2^32+y0 by omega);have Qi:r1/y1*y1<=r1:=Nat.div_mul_le_self r1 y1;have p7:r1<y1*2^32+y0:=by omega
   clear hd;try clear aY aF ay
   refine YY ?_;rintro⟨q,r⟩ hd;dsimp only;replace hd:pz r1 y1 y0 v0 q r:=hd;have Ou:=hd.lt;have YV:=hd.le;have YW:(0:Int)<=(q:Int)*(y0:Int):=Int.mul_nonneg zM zM;have Vv:(q:Int)<=4294967295->(q:Int)*(y0:Int)<=4294967295*4294967295:=λh=>(Ic zM h zM zM).2;refine B 6 ?_;refine nh (t:=104) rfl (λcN=>?_) (λcN=>?_)
   ·replace cN:=ya cN;refine B 18 ?_;obtain⟨aY,aF,ay⟩:=hd.more ga p7 oJ zM;refine Ih ?_;refine aK ?_ ?_
    ·intro gf;exact Ov
    intro gf;exact Ii
   replace cN:=ya cN;refine Vx ?_;refine aK ?_ ?_
   ·intro gM;refine B 6 ?_;obtain⟨aY,aF,ay⟩:=hd.more ga p7 oJ zM;refine Ih ?_;refine aK ?_ ?_
    ·intro jE;exact Ov
    intro jE;exact Ii
   intro gM;refine B 6 ?_;exact Vy
  intro aN;exact Ii
 replace aj:=ya aj;refine Vx ?_;refine aK ?_ ?_
 ·intro jx;refine B 6 ?_;obtain⟨aY,aF,ay⟩:=hd.more ga Vt Ev zM;refine Ih ?_;refine aK ?_ ?_
  ·intro tJ;refine YX ?_;first|(have tI:=hd.stop ga zM;obtain⟨q1,rfl⟩:∃q1,q1=q:=⟨_,rfl⟩)|(have tI:=Vw zM zM aF ay ga zM;generalize q-1=q1 at *)
   rw[Ot]at tI;obtain⟨r1,jF⟩:∃z,(u*2^32+v1)%Y=z:=⟨_,rfl⟩;have Qh:r1<Y:=by rw[<-jF];exact Nat.mod_lt _ zM
   have gA:q1*Y+r1=u*2^32+v1:=by have:=wo (u*2^32+v1) Y;rw[tI,jF,sY]at this;exact this
   have d2:=pz.start ga zM zM oJ (show r1<y1*2^32+y0 by omega);have Qi:r1/y1*y1<=r1:=Nat.div_mul_le_self r1 y1;have p7:r1<y1*2^32+y0:=by omega
   clear hd;try clear aY aF ay
   refine YY ?_;rintro⟨q,r⟩ hd;dsimp only;replace hd:pz r1 y1 y0 v0 q r:=hd;have Ou:=hd.lt;have YV:=hd.le;have YW:(0:Int)<=(q:Int)*(y0:Int):=Int.mul_nonneg zM zM;have Vv:(q:Int)<=4294967295->(q:Int)*(y0:Int)<=4294967295*4294967295:=λh=>(Ic zM h zM zM).2;refine B 6 ?_;refine nh (t:=104) rfl (λqX=>?_) (λqX=>?_)
   ·replace qX:=ya qX;refine B 18 ?_;obtain⟨aY,aF,ay⟩:=hd.more ga p7 oJ zM;refine Ih ?_;refine aK ?_ ?_
    ·intro p8;exact Ov
    intro p8;exact Ii
   replace qX:=ya qX;refine Vx ?_;refine aK ?_ ?_
   ·intro qa;refine B 6 ?_;obtain⟨aY,aF,ay⟩:=hd.more ga p7 oJ zM;refine Ih ?_;refine aK ?_ ?_
    ·intro kQ;exact Ov
    intro kQ;exact Ii
   intro qa;refine B 6 ?_;exact Vy
  intro tJ;exact Ii
 intro jx;refine B 6 ?_;first|(have tI:=hd.stop ga zM;obtain⟨q1,rfl⟩:∃q1,q1=q:=⟨_,rfl⟩)|(have tI:=Vw zM zM aF ay ga zM;generalize q-1=q1 at *)
 rw[Ot]at tI;obtain⟨r1,jF⟩:∃z,(u*2^32+v1)%Y=z:=⟨_,rfl⟩;have Qh:r1<Y:=by rw[<-jF];exact Nat.mod_lt _ zM
 have gA:q1*Y+r1=u*2^32+v1:=by have:=wo (u*2^32+v1) Y;rw[tI,jF,sY]at this;exact this
 have d2:=pz.start ga zM zM oJ (show r1<y1*2^32+y0 by omega);have Qi:r1/y1*y1<=r1:=Nat.div_mul_le_self r1 y1;have p7:r1<y1*2^32+y0:=by omega
 clear hd;try clear aY aF ay
 refine YY ?_;rintro⟨q,r⟩ hd;dsimp only;replace hd:pz r1 y1 y0 v0 q r:=hd;have Ou:=hd.lt;have YV:=hd.le;have YW:(0:Int)<=(q:Int)*(y0:Int):=Int.mul_nonneg zM zM;have Vv:(q:Int)<=4294967295->(q:Int)*(y0:Int)<=4294967295*4294967295:=λh=>(Ic zM h zM zM).2;refine B 6 ?_;refine nh (t:=104) rfl (λkR=>?_) (λkR=>?_)
 ·replace kR:=ya kR;refine B 18 ?_;obtain⟨aY,aF,ay⟩:=hd.more ga p7 oJ zM;refine Ih ?_;refine aK ?_ ?_
  ·intro tK;exact Ov
  intro tK;exact Ii
 replace kR:=ya kR;refine Vx ?_;refine aK ?_ ?_
 ·intro tL;refine B 6 ?_;obtain⟨aY,aF,ay⟩:=hd.more ga p7 oJ zM;refine Ih ?_;refine aK ?_ ?_
  ·intro yC;exact Ov
  intro yC;exact Ii
 intro tL;refine B 6 ?_;exact Vy
theorem nvm(lo y:Nat)(h0:0<y)(hlo:lo<18446744073709551616)(hy:y<18446744073709551616)(w:World):Calls prog 178 #[.int .u64 0,.int .u64 (lo:Int),.int .u64 (y:Int)] w (av w (.tuple #[.int .u64 ((lo/y:Nat):Int),.int .u64 ((lo%y:Nat):Int)])):=by
 refine zki ?_;refine De ?_;refine B 4 ?_;refine ng (E':=[(0,_),(1,_),(2,_),(7,_),(19,_),(20,_),(22,_),(23,_),(24,_),(26,_),(27,_)]) zR ?_;refine nl 7 [.det [] _,.det [] _,.det [0,1] _,.det [] _,.det [] _,.det [3,4] _,.det [2] _] zT (xc zO (xc zO (xc (by exact λab=>X.val rfl rfl (tH rfl rfl zM zM zM) (λ_ _=>rfl)) (xc zO (xc zO (xc (by exact λab=>X.val rfl rfl (yD rfl rfl zM zM) (λ_ _=>rfl)) (xc (by exact λab=>X.val rfl rfl (kg rfl) (λ_ _=>rfl)) (xn)))))))) zT zT zT (λab=>?_);refine B 5 ?_;refine nT results178 rfl rfl A0 ?_ ?_
 ·exact vu (Vu lo y)
 exact vu (Int.natCast_emod lo y).symm
theorem nfg(hi lo y:Int)(h0:0<=hi)(h1:hi<y)(h2:0<=lo)(h3:lo<18446744073709551616)(h4:y<18446744073709551616)(w:World):Calls prog 178 #[.int .u64 hi,.int .u64 lo,.int .u64 y] w (av w (.tuple #[.int .u64 ((hi*18446744073709551616+lo)/y),.int .u64 ((hi*18446744073709551616+lo)%y)])):=by
 obtain⟨a,rfl⟩:=Df h0;obtain⟨b,rfl⟩:=Df h2;obtain⟨c,rfl⟩:=Df (Int.le_trans h0 (Int.le_of_lt h1));have e:((a:Int)*18446744073709551616+(b:Int))=((a*2^64+b:Nat):Int):=by simp
 rw[e,Vu,<-Int.natCast_emod];by_cases ha:a=0
 ·subst ha;have:=nvm b c zM zM zM w;simpa using this
 exact nOm a b c zM zM zM zM w
theorem nHi{a b p:Int}(ha:0<=a)(eK:a<p)(hb:0<=b)(aR:b<p)(hp:p<18446744073709551616):0<=a*b/18446744073709551616/\a*b/18446744073709551616<p/\0<=a*b%18446744073709551616/\a*b%18446744073709551616<18446744073709551616/\a*b/18446744073709551616*18446744073709551616+a*b%18446744073709551616=a*b:=by
 have h0:0<=a*b:=Int.mul_nonneg ha hb;have h1:a*b<=a*18446744073709551616:=Int.mul_le_mul_of_nonneg_left zM ha;refine⟨by omega,by omega,by omega,by omega,by omega⟩
theorem YZ(a b:Int)(ha:0<=a)(eK:a<4611686018427377339)(hb:0<=b)(aR:b<4611686018427377339)(w:World):Calls prog 173 #[.int .u64 a,.int .u64 b] w (av w (.int .u64 (a*b%4611686018427377339))):=by
 obtain⟨m1,m2,m3,m4,m5⟩:=nHi ha eK hb aR zQ;refine enter (vs:=[_,_]) func173 rfl ntmps173 rfl ?_;refine B 9 ?_;refine zBi ?_;refine B 14 ?_;refine ax results173 rfl A0 ?_
 (rw[m5];rfl)
theorem nkl(k:Int)(w:World):Calls prog 172 #[.int .u64 k] w (cu w (λb=>.func (.func 240) #[] #[ptr b 0]) (λb w1=>w.heap.size<=b/\w1.heap[b]? =some (.cells #[.int .u64 k] 202 (0,0)))):=by
 refine enter (vs:=[_]) func172 rfl ntmps172 rfl ?_;refine B 2 ?_;refine yX ?_;intro b1 w1 aR aY gA eK iH;refine B 10 ?_;refine jG b1 results172 rfl A1 rfl ?_;exact Y0
def pA (n:Nat):List Bool:=(List.range (cK n)).reverse.map (λi=>n.testBit i)
theorem Y1(n:Nat):(pA n).length=cK n:=by simp[pA]
theorem Y2(n j:Nat)(h:j<cK n):(pA n).take (j+1)=(pA n).take j++[n.testBit (cK n-1-j)]:=by
 have hl:j<(pA n).length:=by rw[Y1];exact h
 rw[Ij hl];congr 2;simp[pA]
theorem Ke(n i:Nat):decide (((n/2^i:Nat):Int)%2=1)=n.testBit i:=by
 rw[Nat.testBit_eq_decide_div_mod_eq];congr 1;apply propext;omega
theorem nll(n j:Nat)(h:j<cK n):((pA n).take j++[n.testBit (cK n-1-j)]) <+:pA n:=by
 rw[<-Y2 n j h];exact List.take_prefix _ _
theorem nGm(n:Nat)(hn:n<18446744073709551616)(b:Nat)(W:World)(aR:W.heap[b]? =some (.cells #[.int .u64 (n:Int)] 202 (0,0))):Ow prog 240 [ptr b 0] (λx:Bool=>[.bool x]) (pA n) (λ_=>False) (λk=>k=b) W:=by
 intro l M I X0 hM hI hX hy h0;have aY:¬M b:=λh=>(hM b h).2.2 rfl;have jH:=Qd n 64 hn;have Vz:lO (n:Int)=(cK n:Int):=by simp[lO]
 refine nN (Dg hM (hI [])) [] (vs:=[_,_]) func240 rfl ntmps240 rfl (yE hM (hI []) h0) ?_;refine B 3 ?_;refine YS ?_;refine z9g ?_;rintro j hj;refine B 7 ?_;refine aK ?_ ?_
 ·intro aj;refine B 9 ?_;refine rq (.int .u64 ((n/2^(cK n-1-j):Nat):Int)) (iG rfl rfl zM) (vu (yF n _ _ zM zM)) ?_;refine rv rfl rfl rfl (mG 1 2 zQ rfl rfl rfl rfl (Int.natCast_nonneg _) (Int.lt_of_le_of_lt (Int.ofNat_le.2 (Nat.div_le_self n _)) zM)) ?_;refine zKh ?_;refine yld (Dg hM (hI ((pA n).take (j+1)))) (Dg hM hX) rfl rfl rfl rfl (λW1 hS=>by have:=hy ((pA n).take j) _ W1 (nll n j zM) hS.ghost;rw[<-Y2 n j zM]at this;exact this) rfl rfl rfl rfl ?_ ?_
  ·exact zTk
  refine B 9 ?_;exact Qj (.inl rfl) results240 A0 (λA hA=>.inr hA)
 intro aj;refine B 4 ?_;exact Qj (.inr rfl) results240 A0 (λA hA=>.inl (by have e:=iZ (l:=pA n) (i:=j) (by rw[Y1];omega);rw[e]at hA;exact hA))
def nK (a m:Int):List Bool->Int->Int
 | [],c=>c
 |b::bs,c=>nK a m bs (if b then(c*c%m)*a%m else c*c%m)
theorem VA(a m:Int)(bs:List Bool)(b:Bool)(c:Int):nK a m (bs++[b]) c=if b then(nK a m bs c*nK a m bs c%m)*a%m else nK a m bs c*nK a m bs c%m:=by
 induction bs generalizing c with
 |nil=>rfl
 |cons x bs ih=>simp only[eY,nK];exact ih _
theorem Y3(a m:Int)(hm:0<m)(bs:List Bool)(c:Int)(h0:0<=c)(h1:c<m):0<=nK a m bs c/\nK a m bs c<m:=by
 induction bs generalizing c with
 |nil=>exact⟨h0,h1⟩
 |cons x bs ih=>
  simp only[nK];apply ih
  ·split<;>exact Int.emod_nonneg _ zM
  split<;>exact Int.emod_lt_of_pos _ hm
def qb (a n m:Int):Int:=nK a m (pA n.toNat) 1
theorem nMh(a k:Int)(ha:0<=a)(eK:a<4611686018427377339)(hk:0<=k)(VB:k<18446744073709551616)(w:World):Calls prog 109 #[.int .u64 a,.int .u64 k] w (av w (.int .u64 (qb a k 4611686018427377339))):=by
 refine xK Gh.no [] (vs:=[_,_]) func109 rfl ntmps109 rfl (u7 w) ?_;refine B 2 ?_;refine yX ?_;intro b2 w2 aH aF dS cE cX;refine B 5 ?_;refine aU zeroValue202 rfl rfl ?_;refine yW ?_;intro b5 gQ gR;refine VC ?_;refine B 6 ?_;refine nu (Φ:=λW b w1=>W.heap.size<=b/\w1.heap[b]? =some (.cells #[.int .u64 k] 202 (0,0))) call172 rfl rfl rfl (λW hS=>nkl _ W) ?_;intro Wd bd wd pB Qk Y4;obtain⟨Kf,oK⟩:=Y4;have Ql:=pB.under;simp only[n0,dz,fj]at Ql;have Ik:=pB.sizes;replace Ik:=yb Ik;have Y5:=Qk.size;refine B 3 ?_;refine CJ.range (f:=240) (cap:=[ptr bd 0]) (α:=Bool) (enc:=(λx:Bool=>[.bool x])) (xs:=pA k.toNat) (MI:=λ_=>False) (RO:=λk=>k=bd) rfl call240 (λW W2 hS hB=>by have e:(.int .u64 k:Value)= .int .u64 ((k.toNat:Nat):Int):=(by rw[Int.toNat_of_nonneg hk]);exact nGm k.toNat zM bd W2 (by rw[<-e,hB.block bd Y6];exact hS.old A0 oK zX (by simp only[bE,dz,ne_eq,and_true];omega))) (λ_ _ _ hk=>hk.elim) (λW hS k hk=>by subst hk;have:=hS.sizes;simp only[ad]at this;have:=(aM.1 oK).1;refine⟨by omega,by simp only[dz,eE,iD,qd];omega,λh=>h⟩) (λ_=>rfl) (λpre Hc=>Hc=[(b5,.cells #[.int .u64 (nK a 4611686018427377339 pre 1)] 202 (0,0))]) (λ_ _=>False) rfl (by rintro pre Hc rfl;rfl) (λ_ _ hk=>hk.elim) zQ ?_ ?_ ?_
 ·rintro pre x Hc l Dk rec Wy jX ov dU rfl dr fK Dh oL;simp only[ad]at dr oL;have Kg:=Y3 a 4611686018427377339 zQ pre 1 zQ zQ;have hX:=Int.emod_nonneg (nK a 4611686018427377339 pre 1*nK a 4611686018427377339 pre 1) (b:=4611686018427377339) zQ;have fk:=Int.emod_lt_of_pos (nK a 4611686018427377339 pre 1*nK a 4611686018427377339 pre 1) (b:=4611686018427377339) zQ;refine Ox ?_;refine B 5 ?_;refine call call173 rfl rfl rfl (λW hS=>YZ _ _ zM zM zM zM W) ?_;refine VC ?_;refine B 7 ?_;refine aK ?_ ?_
  ·intro aj;refine B 3 ?_;refine call call173 rfl rfl rfl (λW hS=>YZ _ _ zM zM zM zM W) ?_;refine VC ?_;refine B 2 ?_;exact VD (Hc:=[(b5,.cells #[.int .u64 (nK a 4611686018427377339 pre 1*nK a 4611686018427377339 pre 1%4611686018427377339*a%4611686018427377339)] 202 (0,0))]) (λ_ hk=>hk) (by cases rec;simp_all) (by rw[VA,aj];rfl)
  intro aj;refine B 2 ?_;exact VD (Hc:=[(b5,.cells #[.int .u64 (nK a 4611686018427377339 pre 1*nK a 4611686018427377339 pre 1%4611686018427377339)] 202 (0,0))]) (λ_ hk=>hk) (by cases rec;simp_all) (by rw[VA,aj];rfl)
 ·rintro l Dk rec Hc dr fK rfl;replace dr:=yb dr;refine B 9 ?_;refine Il (.inl rfl) results109 rfl xL (λW H' hS bO=>⟨?_,?_⟩)
  ·exact congrArg Ending.returned rfl
  exact zel
 exact λ_ _ _ _ _ _ _ hk=>hk.elim
theorem VE(a k m:Int)(hm:1<m):0<=qb a k m/\qb a k m<m:=Y3 a m zM _ 1 zM hm
abbrev dG (a:Int):Prop:=1<=a/\a<4611686018427377339/\qb a 2305843009213688669 4611686018427377339=1
def gExp (a k:Int):Int×Int:=if dG a then if 0<=k/\k<2305843009213688669 then(qb a k 4611686018427377339,0)else(0,1)else(0,40)
def lP (p:Int×Int):Value:=.tuple #[.int .i64 p.1,.int .i64 p.2]
theorem nL(a:Int)(w:World):Calls prog 63 #[.int .i64 a] w (av w (.int .i64 (if dG a then 0 else 40))):=by
 have hp:=VE a 2305843009213688669 4611686018427377339 zQ;refine enter (vs:=[_]) func63 rfl ntmps63 rfl ?_;refine B 11 ?_;refine nh (t:=5) rfl (λaj=>?_) (λaj=>?_)
 ·replace aj:=ya aj;refine B 19 ?_;refine VF ?_;split<;>omega
 replace aj:=ya aj;refine B 4 ?_;refine nh (t:=9) rfl (λaN=>?_) (λaN=>?_)
 ·replace aN:=ya aN;refine B 15 ?_;refine VF ?_;split<;>omega
 replace aN:=ya aN;refine B 2 ?_;refine call call109 rfl rfl rfl (λW hS=>nMh _ _ zM zM zM zM W) ?_;refine B 4 ?_;refine aK ?_ ?_
 ·intro cN;refine B 7 ?_;refine VF ?_;split<;>omega
 intro cN;refine B 8 ?_;refine VF ?_;split<;>omega
theorem n8j(a k:Int)(w:World):Calls prog 62 #[.int .i64 a,.int .i64 k] w (av w (lP (gExp a k))):=by
 have hp:=VE a k 4611686018427377339 zQ;refine enter (vs:=[_,_]) func62 rfl ntmps62 rfl ?_;refine B 10 ?_;refine call call63 rfl rfl rfl (λW hS=>nL _ W) ?_;refine B 9 ?_;refine aK ?_ ?_
 ·intro aj;refine B 1 ?_;have hg:¬dG a:=λh=>by simp[if_pos h]at aj
  refine B 8 ?_;exact VG
 intro aj;refine B 4 ?_;have hg:dG a:=Decidable.byContradiction λh=>by simp[if_neg h]at aj
 refine B 4 ?_;refine nh (t:=14) rfl (λaN=>?_) (λaN=>?_)
 ·replace aN:=ya aN;refine B 14 ?_;exact VG
 replace aN:=ya aN;refine B 5 ?_;refine aK ?_ ?_
 ·intro cN;refine B 8 ?_;exact VG
 intro cN;refine B 8 ?_;refine call call109 rfl rfl rfl (λW hS=>nMh _ _ zM zM zM zM W) ?_;refine B 6 ?_;exact VG
theorem nvi(k:Int)(w:World):Calls prog 65 #[.int .i64 k] w (av w (lP (gExp 4 k))):=by
 refine enter (vs:=[_]) func65 rfl ntmps65 rfl ?_;refine B 9 ?_;refine call call62 rfl rfl rfl (λW hS=>n8j _ _ W) ?_;refine B 7 ?_;refine nT results65 rfl rfl A0 ?_ ?_;all_goals rfl
theorem Ex(x b:Int)(h0:0<=b)(h1:b<256):IntKind.u64.wrap (BitVec.ofInt IntKind.u64.bits (IntKind.u64.wrap (x*256))|||BitVec.ofInt IntKind.u64.bits b).toNat=(x*256)%18446744073709551616+b:=by
 obtain⟨y,hy⟩:∃y:Nat,(x*256)%18446744073709551616=((y*2^8:Nat):Int):=⟨((x*256)%18446744073709551616/256).toNat,by omega⟩;obtain⟨c,rfl⟩:=Df h0;rw[hy,(nD (x*256)).trans hy,Ig y c 8 zM zM];omega
theorem Ey(n b m:Int):n/72057594037927936*18446744073709551616+(n*256%18446744073709551616+b)=n*256+b:=by omega
def Dj (m:Int):List Int->Int->Int
 | [],n=>n
 |b::bs,n=>Dj m bs ((n*256+b)%m)
theorem nbo(m:Int)(bs:List Int)(b n:Int):Dj m (bs++[b]) n=(Dj m bs n*256+b)%m:=by
 induction bs generalizing n with
 |nil=>rfl
 |cons x bs ih=>simp only[eY,Dj];exact ih _
theorem Y7(m:Int)(hm:0<m)(bs:List Int)(n:Int)(h0:0<=n)(h1:n<m):0<=Dj m bs n/\Dj m bs n<m:=by
 induction bs generalizing n with
 |nil=>exact⟨h0,h1⟩
 |cons x bs ih=>exact ih _ (Int.emod_nonneg _ zM) (Int.emod_lt_of_pos _ hm)
theorem nJm(c n m:Int)(b b2:Nat)(hc:0<=c)(aj:c<256)(hn:0<=n)(hnm:n<m)(hm:m<72057594037927936*256)(w:World)(hb:w.heap[b]? =some (.cells #[.int .u64 n] 202 (0,0)))(aH:w.heap[b2]? =some (.cells #[.int .u64 m] 202 (0,0)))(dc:b≠b2):Calls prog 241 #[.int .u8 c,ptr b 0,ptr b2 0] w (yG w (.tuple #[]) b (.cells #[.int .u64 ((n*256+c)%m)] 202 (0,0))):=by
 have aF:¬Gh.no.M b2:=λh=>h;refine nN Gh.no [(b,_)] (vs:=[_,_,_]) func241 rfl ntmps241 rfl (VH hb) ?_;refine B 2 ?_;refine rv rfl rfl rfl (gp 56 72057594037927936 zQ rfl rfl rfl) ?_;refine B 1 ?_;refine rv rfl rfl rfl (yH 8 256 zQ rfl rfl rfl) ?_;refine B 2 ?_;refine rq (.int .u64 ((n*256)%18446744073709551616+c)) (u6 rfl rfl) (vu (Ex n c hc aj)) ?_;refine B 1 ?_;refine zzh ?_;refine B 2 ?_;refine rq (.int .u64 ((n*256+c)%m)) (gE rfl rfl) (vu (by rw[Ey n c m])) ?_;refine kS (i:=0) rfl sizeOf202 rfl rfl rfl rfl (aV rfl) rfl ?_;refine B 1 ?_;refine bH (.inr rfl) results241 RS.n (λW hS=>⟨rfl,(hS.links w A0).mono λk _ hk=>?_,hS.own _ A0⟩);simpa[Gh.no]using hk
def dg (f:Nat->Int):Array Value:=#[.int .u8 (f 0),.int .u8 (f 1),.int .u8 (f 2),.int .u8 (f 3),.int .u8 (f 4),.int .u8 (f 5),.int .u8 (f 6),.int .u8 (f 7),.int .u8 (f 8),.int .u8 (f 9),.int .u8 (f 10),.int .u8 (f 11),.int .u8 (f 12),.int .u8 (f 13),.int .u8 (f 14),.int .u8 (f 15),.int .u8 (f 16),.int .u8 (f 17),.int .u8 (f 18),.int .u8 (f 19),.int .u8 (f 20),.int .u8 (f 21),.int .u8 (f 22),.int .u8 (f 23),.int .u8 (f 24),.int .u8 (f 25),.int .u8 (f 26),.int .u8 (f 27),.int .u8 (f 28),.int .u8 (f 29),.int .u8 (f 30),.int .u8 (f 31)]
def qY (f:Nat->Int):List Int:=(List.range 32).map f
abbrev jh (f:Nat->Int):Prop:=∀i,0<=f i/\f i<256
theorem pC(f:Nat->Int)(i:Nat)(h:i<32):(dg f)[i]? =some (.int .u8 (f i)):=by
 have e:dg f=((List.range 32).map λi=>Value.int .u8 (f i)).toArray:=rfl;rw[e];simp[h]
theorem yI(f:Nat->Int)(j:Nat)(h:j<32):(qY f).take (j+1)=(qY f).take j++[f j]:=by
 have hl:j<(qY f).length:=by simp[qY];exact h
 rw[Ij hl];simp[qY]
theorem nro(f:Nat->Int)(hf:jh f)(m:Int)(tM:0<m)(hm:m<72057594037927936*256)(w:World):Calls prog 174 #[.agg (dg f),.int .u64 m] w (av w (.int .u64 (Dj m (qY f) 0))):=by
 refine enter (vs:=[_,_]) func174 rfl ntmps174 rfl ?_;refine B 2 ?_;refine yX ?_;intro b2 w2 aH aF dS cE cX;refine yX ?_;intro b3 w3 aC ay cS bV cL;refine aU zeroValue202 rfl rfl ?_;refine yW ?_;intro b4 dQ dV;refine B 11 ?_;refine rv rfl rfl rfl (af isAgg34 sizeOf34 rfl A1 aH aF zL rfl) ?_;refine B 4 ?_;refine CJ.loop (α:=Nat) (λj=>[(2,ptr b2 0),(3,ptr b3 0),(4,ptr b4 0),(5,.func (.func 241) #[] #[ptr b4 0,ptr b3 0]),(9,.agg (dg f)),(10,.int .i64 (j:Int))]) (λj=>[(b4,.cells #[.int .u64 (Dj m ((qY f).take j) 0)] 202 (0,0))]) (λj=>[w3,w2,w]) (λj=>Gh.no) (λj=>j<=32) (λj=>32-j) 0 zQ zR rfl rfl z1 ?_;rintro j hj;have Kg:=Y7 m tM ((qY f).take j) 0 zQ tM;refine B 6 ?_;refine aK ?_ ?_
 ·intro aj;refine B 6 ?_;refine rq (.int .u8 (f j)) (qe underlying34 isAgg5 sizeOf5 rfl rfl zM zM (pC f _ zM)) (congrArg (λk=>Value.int .u8 (f k)) zM) ?_;refine B 6 ?_;refine Oy (f:=241) (i:=0) (first:=[]) (cap:=[ptr b4 0,ptr b3 0]) rfl rfl call241 rfl rfl rfl (λW hS hW=>nJm _ _ _ _ _ (hf j).1 (hf j).2 Kg.1 Kg.2 hm W hW (hS.old A0 aC ay qf) zM) ?_;refine B 7 ?_;refine PJ.reH (H':=[(b4,.cells #[.int .u64 (Dj m ((qY f).take (j+1)) 0)] 202 (0,0))]) (by rw[yI f j zM,nbo];rfl) ?_;exact Ez
 intro aj;refine B 8 ?_;refine VC ?_;refine B 3 ?_;refine bJ (.inl rfl) results174 (RS.w (i:=0) rfl isAgg202 rfl rfl (RS.n)) A2 zS ?_;exact vu (by rw[iZ (by simp[qY];omega)])
end Px
namespace Px
open Go

end Px
namespace Px
open Go Go.RowKit Go.Proofs Go.Proofs.Tryz
def jI (a:Int):Bool:=decide (a<0)||decide (2305843009213688669<=a)
theorem VI{a:Int}:jI a=false↔0<=a/\a<2305843009213688669:=by simp[jI]
theorem VJ{a:Int}:jI a=true↔¬(0<=a/\a<2305843009213688669):=by simp[jI];omega
theorem nDj(a:Int)(w:World):Calls prog 176 #[.int .i64 a] w (av w (.bool (jI a))):=by
 refine enter (vs:=[_]) func176 rfl ntmps176 rfl ?_;refine B 10 ?_;refine nh (t:=5) rfl (λaj=>?_) (λaj=>?_)
 ·exact zMk
 exact zMk
def tN (p:Int->Bool) (xs:List Int):Int:=match xs.findIdx? p with|some i=>(i:Int)|none=> -1
theorem yJ(p:Int->Bool)(xs:List Int)(j:Nat)(hj:j<xs.length)(h:∀x∈xs.take j,p x=false)(hp:p xs[j]=true):tN p xs=(j:Int):=by
 unfold tN;have:xs.findIdx? p=some j:=by
  rw[VK];refine⟨hj,hp,λi hi=>?_⟩;have:=h (xs[i]'zM) (by rw[List.mem_take_iff_getElem];exact⟨i,by omega,rfl⟩);simp[this]
 rw[this]
theorem nhp(p:Int->Bool)(xs:List Int)(h:∀x∈xs,p x=false):tN p xs= -1:=by
 unfold tN;have:xs.findIdx? p=none:=by rw[List.findIdx?_eq_none_iff];exact h
 rw[this]
theorem yK(p:Int->Bool)(xs:List Int):decide (0<=tN p xs)=xs.any p:=by
 unfold tN;cases h:xs.findIdx? p with
 |some i=>
  obtain⟨h1,h2,_⟩:=VK.1 h;have:xs.any p=true:=List.any_eq_true.2 ⟨xs[i],Qm h1,h2⟩;rw[this];simp
 |none=>
  have:xs.any p=false:=List.any_eq_false.2 (by simpa using List.findIdx?_eq_none_iff.1 h);rw[this];simp
def ints (xs:List Int):Array Value:=(xs.map λx=>Value.int .i64 x).toArray
theorem ints_at(xs:List Int)(j:Nat)(h:j<xs.length):(ints xs)[j]? =some (.int .i64 xs[j]):=by simp[ints,h]
theorem ntk(p:Int->Bool)(f:Nat)(az:dR prog f)(hp:∀x W,Calls prog f #[.int .i64 x] W (av W (.bool (p x))))(xs:List Int)(b T n c:Nat)(fr:Nat×Nat)(hn:xs.length=n)(Dl:n<9223372036854775807)(w:World)(mq:w.heap[b]? =some (.cells (ints xs) T fr)):Calls prog 242 #[.slice (some ⟨b,0,none⟩) n c,.func (.func f) #[] #[]] w (av w (.int .i64 (tN p xs))):=by
 have tM:¬Gh.no.M b:=λh=>h;refine enter (vs:=[_,_]) func242 rfl ntmps242 rfl ?_;refine B 14 ?_;refine CJ.loop (α:=Nat) (λj=>[(0,.slice (some ⟨b,0,none⟩) n c),(1,.func (.func f) #[] #[]),(7,.int .i64 (n:Int)),(8,.int .i64 (j:Int))]) (λj=>[]) (λj=>[w]) (λj=>Gh.no) (λj=>j<=n/\∀x∈xs.take j,p x=false) (λj=>n-j) 0 ⟨cZ _,by simp⟩ zR rfl rfl z1 ?_;rintro j ⟨hj,Y8⟩;refine B 6 ?_;refine aK ?_ ?_
 ·intro aj;refine B 16 ?_;refine rv rfl rfl rfl (aa (v:=.int .i64 (xs[j]'zM)) isAgg3 rfl A0 mq tM trivial (by rw[<-ints_at xs j zM];congr 1;omega)) ?_;refine nH (f:=f) (cap:=[]) rfl az rfl rfl rfl (λW hS=>hp _ W) ?_;refine B 2 ?_;refine aK ?_ ?_
  ·intro aN;refine B 12 ?_;refine ax results242 rfl A0 ?_;exact vi (yJ p xs j zM Y8 aN).symm
  intro aN;refine B 7 ?_;refine PJ.again (j+1) ⟨by omega,by intro x hx;rw[Ij zM]at hx;simp only[cO,qd]at hx;rcases hx with hx|rfl;exact Y8 x hx;exact aN⟩ zM zR rfl rfl z1
 intro aj;refine B 11 ?_;refine ax results242 rfl A0 ?_;exact vi (nhp p xs (by rw[<-iZ (l:=xs) (i:=j) zM];exact Y8)).symm
theorem nPh(p:Int->Bool)(f:Nat)(az:dR prog f)(hp:∀x W,Calls prog f #[.int .i64 x] W (av W (.bool (p x))))(xs:List Int)(b T n c:Nat)(fr:Nat×Nat)(hn:xs.length=n)(Dl:n<9223372036854775807)(w:World)(mq:w.heap[b]? =some (.cells (ints xs) T fr)):Calls prog 175 #[.slice (some ⟨b,0,none⟩) n c,.func (.func f) #[] #[]] w (av w (.bool (xs.any p))):=by
 refine enter (vs:=[_,_]) func175 rfl ntmps175 rfl ?_;refine B 9 ?_;refine call call242 rfl rfl rfl (λW hS=>ntk p f az hp xs b T n c fr hn Dl W (hS.old A0 mq zX trivial)) ?_;refine B 5 ?_;refine ax results175 rfl A0 ?_;exact vb (yK p xs)
theorem Y9(xs:List Int)(b T n c:Nat)(fr:Nat×Nat)(hn:xs.length=n)(Dl:n<9223372036854775807)(w:World)(mq:w.heap[b]? =some (.cells (ints xs) T fr)):Calls prog 111 #[.slice (some ⟨b,0,none⟩) n c] w (av w (.bool (xs.any jI))):=by
 refine enter (vs:=[_]) func111 rfl ntmps111 rfl ?_;refine B 8 ?_;refine call call175 rfl rfl rfl (λW hS=>nPh jI 176 call176 (λx W=>nDj x W) xs b T n c fr hn Dl W (hS.old A0 mq zX trivial)) ?_;refine B 4 ?_;refine ax results111 rfl A0 ?_;rfl
theorem nyg(a b:Int)(ha:0<=a)(eK:a<2305843009213688669)(hb:0<=b)(aR:b<2305843009213688669)(w:World):Calls prog 112 #[.int .i64 a,.int .i64 b] w (av w (.int .i64 (a*b%2305843009213688669))):=by
 obtain⟨m1,m2,m3,m4,m5⟩:=nHi ha eK hb aR zQ;have m6:=Int.emod_nonneg (a*b) (b:=2305843009213688669) zQ;have m7:=Int.emod_lt_of_pos (a*b) (b:=2305843009213688669) zQ;refine enter (vs:=[_,_]) func112 rfl ntmps112 rfl ?_;refine B 11 ?_;refine zBi ?_;refine B 10 ?_;refine rq (.int .i64 (a*b%2305843009213688669)) (tO underlying202 underlying3 rfl (by rw[m5];omega) (by rw[m5];omega)) (by rw[m5]) ?_;refine B 4 ?_;refine ax results112 rfl A0 ?_;rfl
theorem nNm(a:Int)(w:World):Calls prog 119 #[.int .i64 a] w (av w (.int .i64 (if jI a then 1 else 0))):=by
 refine enter (vs:=[_]) func119 rfl ntmps119 rfl ?_;refine B 9 ?_;refine EA ?_;refine yV ?_;intro b4 w4 dm eb mI dQ dV;refine call call111 rfl rfl rfl (λW hS=>Y9 [a] _ _ _ _ _ rfl z1 W (hS.old A0 dm eb trivial)) ?_;refine B 2 ?_;refine aK ?_ ?_
 ·intro aj;refine B 7 ?_;refine ax results119 rfl A1 ?_;refine vi ?_;simp_all
 intro aj;refine B 8 ?_;refine ax results119 rfl A1 ?_;refine vi ?_;simp_all
abbrev oM (a:Int):Prop:=0<=a/\a<2305843009213688669
def kh (a b:Int):Int×Int:=if oM a/\oM b then(a*b%2305843009213688669,0)else(0,1)
def qg (a b:Int):Int×Int:=if oM a/\oM b then((a+b)%2305843009213688669,0)else(0,1)
def oN (a:Int):Int×Int:=if oM a then if a=0 then(0,30)else(qb a 2305843009213688667 2305843009213688669,0)else(0,1)
theorem Qo{a b:Int}(h:[a,b].any jI=false):oM a/\oM b:=by simp only[List.any_cons,List.any_nil,Bool.or_false,Bool.or_eq_false_iff]at h;exact⟨VI.1 h.1,VI.1 h.2⟩
theorem Im{a b:Int}(h:[a,b].any jI=true):¬(oM a/\oM b):=by
 simp only[List.any_cons,List.any_nil,Bool.or_false,Bool.or_eq_true]at h;intro⟨h1,h2⟩;rcases h with h|h
 ·exact VJ.1 h h1
 exact VJ.1 h h2
theorem Za{a:Int}(h:[a].any jI=false):oM a:=VI.1 rB
theorem Qp{a:Int}(h:[a].any jI=true):¬oM a:=VJ.1 rB
theorem n5j(a b:Int)(w:World):Calls prog 66 #[.int .i64 a,.int .i64 b] w (av w (lP (kh a b))):=by
 refine enter (vs:=[_,_]) func66 rfl ntmps66 rfl ?_;refine B 11 ?_;refine EA ?_;refine yV ?_;intro b8 w8 hb8 hm8 Zb wt wu;refine z8h ?_;refine B 2 ?_;refine aK ?_ ?_
 ·intro aj;refine B 1 ?_;have hg:=Im aj;refine B 7 ?_;exact zAk
 intro aj;refine B 3 ?_;have hg:=Qo aj;refine B 3 ?_;refine call call112 rfl rfl rfl (λW hS=>nyg _ _ zM zM zM zM W) ?_;refine B 5 ?_;exact zAk
theorem nip(a b:Int)(w:World):Calls prog 67 #[.int .i64 a,.int .i64 b] w (av w (lP (qg a b))):=by
 refine enter (vs:=[_,_]) func67 rfl ntmps67 rfl ?_;refine B 11 ?_;refine EA ?_;refine yV ?_;intro b8 w8 hb8 hm8 Zb wt wu;refine z8h ?_;refine B 2 ?_;refine aK ?_ ?_
 ·intro aj;refine B 1 ?_;have hg:=Im aj;refine B 7 ?_;exact zzk
 intro aj;refine B 3 ?_;have hg:=Qo aj;refine B 4 ?_;refine rv rfl rfl rfl (yD rfl rfl zM zM) ?_;refine B 5 ?_;exact zzk
theorem n2g(c n:Int)(b:Nat)(hc:0<=c)(aj:c<2305843009213688669)(hn:0<=n)(u9:n<2305843009213688669)(w:World)(hb:w.heap[b]? =some (.cells #[.int .i64 n] 3 (0,0))):Calls prog 179 #[.int .i64 c,ptr b 0] w (yG w (.tuple #[]) b (.cells #[.int .i64 (n*c%2305843009213688669)] 3 (0,0))):=by
 refine nN Gh.no [(b,_)] (vs:=[_,_]) func179 rfl ntmps179 rfl (VH hb) ?_;refine B 3 ?_;refine call call112 rfl rfl rfl (λW hS=>nyg _ _ zM zM zM zM W) ?_;refine VL ?_;refine B 1 ?_;refine bH (.inr rfl) results179 RS.n (λW hS=>⟨rfl,(hS.links w A0).mono λk _ hk=>?_,hS.own _ A0⟩);simpa[Gh.no]using hk
theorem nim(k:Int)(w:World):Calls prog 180 #[.int .i64 k] w (cu w (λb=>.func (.func 244) #[] #[ptr b 0]) (λb w1=>w.heap.size<=b/\w1.heap[b]? =some (.cells #[.int .i64 k] 3 (0,0)))):=by
 refine enter (vs:=[_]) func180 rfl ntmps180 rfl ?_;refine B 2 ?_;refine yX ?_;intro b1 w1 aR aY gA eK iH;refine B 10 ?_;refine jG b1 results180 rfl A1 rfl ?_;exact Y0
theorem EB(m:Int)(h0:0<=m)(h1:m<9223372036854775808):IntKind.i64.wrap (BitVec.ofInt IntKind.i64.bits m&&&BitVec.ofInt IntKind.i64.bits 1).toNat=m%2:=by
 obtain⟨n,rfl⟩:=Df h0;have e:(BitVec.ofInt IntKind.i64.bits (n:Int)&&&BitVec.ofInt IntKind.i64.bits 1).toNat=n%2:=by
  rw[BitVec.toNat_and];have h2:(BitVec.ofInt IntKind.i64.bits (n:Int)).toNat=n:=by
   simp only[IntKind.bits,BitVec.ofInt_natCast,BitVec.toNat_ofNat];omega
  have h3:(BitVec.ofInt IntKind.i64.bits 1).toNat=1:=rfl;rw[h2,h3,Nat.and_one_is_mod]
 rw[e,Io zM zM];omega
theorem Kh(m i:Nat)(k:Int)(hk:k=(i:Int))(hi:i<=64):(m:Int).fdiv (2^(min (Int.toNat k) IntKind.i64.bits))=((m/2^i:Nat):Int):=yF m i k hk hi
theorem nKm(n:Nat)(hn:n<9223372036854775808)(b:Nat)(W:World)(aR:W.heap[b]? =some (.cells #[.int .i64 (n:Int)] 3 (0,0))):Ow prog 244 [ptr b 0] (λx:Bool=>[.bool x]) (pA n) (λ_=>False) (λk=>k=b) W:=by
 intro l M I X0 hM hI hX hy h0;have aY:¬M b:=λh=>(hM b h).2.2 rfl;have jH:=Qd n 63 hn;have Vz:lO (n:Int)=(cK n:Int):=by simp[lO]
 refine nN (Dg hM (hI [])) [] (vs:=[_,_]) func244 rfl ntmps244 rfl (yE hM (hI []) h0) ?_;refine B 4 ?_;refine call call97 rfl rfl rfl (λW hS=>YT _ zM zM W) ?_;refine z9g ?_;rintro j hj;refine B 7 ?_;refine aK ?_ ?_
 ·intro aj;refine B 9 ?_;refine rq (.int .i64 ((n/2^(cK n-1-j):Nat):Int)) (iG rfl rfl zM) (vi (Kh n _ _ zM zM)) ?_;refine rq (.int .i64 (((n/2^(cK n-1-j):Nat):Int)%2)) (tP rfl rfl) (vi (EB _ (Int.natCast_nonneg _) (Int.lt_of_le_of_lt (Int.ofNat_le.2 (Nat.div_le_self n _)) zM))) ?_;refine zKh ?_;refine yld (Dg hM (hI ((pA n).take (j+1)))) (Dg hM hX) rfl rfl rfl rfl (λW1 hS=>by have:=hy ((pA n).take j) _ W1 (nll n j zM) hS.ghost;rw[<-Y2 n j zM]at this;exact this) rfl rfl rfl rfl ?_ ?_
  ·exact zTk
  refine B 9 ?_;exact Qj (.inl rfl) results244 A0 (λA hA=>.inr hA)
 intro aj;refine B 4 ?_;exact Qj (.inr rfl) results244 A0 (λA hA=>.inl (by have e:=iZ (l:=pA n) (i:=j) (by rw[Y1];omega);rw[e]at hA;exact hA))
theorem nym(a k:Int)(ha:0<=a)(eK:a<2305843009213688669)(hk:0<=k)(VB:k<9223372036854775808)(w:World):Calls prog 113 #[.int .i64 a,.int .i64 k] w (av w (.int .i64 (qb a k 2305843009213688669))):=by
 refine xK Gh.no [] (vs:=[_,_]) func113 rfl ntmps113 rfl (u7 w) ?_;refine B 2 ?_;refine yX ?_;intro b2 w2 aH aF dS cE cX;refine B 5 ?_;refine aU zeroValue3 rfl rfl ?_;refine yW ?_;intro b5 gQ gR;refine aZ (i:=0) rfl sizeOf3 rfl rfl rfl rfl rfl rfl ?_;refine B 5 ?_;refine aU zeroValue276 rfl rfl ?_;refine yW ?_;intro b6 gS lB;refine aZ (i:=0) rfl sizeOf276 rfl rfl rfl rfl rfl rfl ?_;refine B 6 ?_;refine nu (Φ:=λW b w1=>W.heap.size<=b/\w1.heap[b]? =some (.cells #[.int .i64 k] 3 (0,0))) call180 rfl rfl rfl (λW hS=>nim _ W) ?_;intro Wd bd wd pB Qk Y4;obtain⟨Kf,oK⟩:=Y4;have Ql:=pB.under;simp only[n0,dz,fj]at Ql;have Ik:=pB.sizes;replace Ik:=yb Ik;have Y5:=Qk.size;refine B 3 ?_;refine CJ.range (f:=244) (cap:=[ptr bd 0]) (α:=Bool) (enc:=(λx:Bool=>[.bool x])) (xs:=pA k.toNat) (MI:=λ_=>False) (RO:=λk=>k=bd) rfl call244 (λW W2 hS hB=>by have e:(.int .i64 k:Value)= .int .i64 ((k.toNat:Nat):Int):=(by rw[Int.toNat_of_nonneg hk]);exact nKm k.toNat zM bd W2 (by rw[<-e,hB.block bd Y6];exact hS.old A0 oK zX qf)) (λ_ _ _ hk=>hk.elim) (λW hS k hk=>by subst hk;have:=hS.sizes;simp only[ad]at this;have:=(aM.1 oK).1;refine⟨by omega,by simp only[dz,fj,eE,iD,cP,fG,or_false,not_or];omega,λh=>h⟩) (λ_=>rfl) (λpre Hc=>Hc=[(b6,.cells #[.func (.func 179) #[] #[ptr b5 0]] 276 (0,0)),(b5,.cells #[.int .i64 (nK a 2305843009213688669 pre 1)] 3 (0,0))]) (λ_ _=>False) rfl (by rintro pre Hc rfl;rfl) (λ_ _ hk=>hk.elim) zQ ?_ ?_ ?_
 ·rintro pre x Hc l Dk rec Wy jX ov dU rfl dr fK Dh oL;simp only[ad]at dr oL;have Kg:=Y3 a 2305843009213688669 zQ pre 1 zQ zQ;have hX:=Int.emod_nonneg (nK a 2305843009213688669 pre 1*nK a 2305843009213688669 pre 1) (b:=2305843009213688669) zQ;have fk:=Int.emod_lt_of_pos (nK a 2305843009213688669 pre 1*nK a 2305843009213688669 pre 1) (b:=2305843009213688669) zQ;refine Ox ?_;refine B 5 ?_;refine zyh ?_;refine B 7 ?_;refine aK ?_ ?_
  ·intro aj;refine B 3 ?_;refine zyh ?_;refine B 2 ?_;exact VD (Hc:=[(b6,.cells #[.func (.func 179) #[] #[ptr b5 0]] 276 (0,0)),(b5,.cells #[.int .i64 (nK a 2305843009213688669 pre 1*nK a 2305843009213688669 pre 1%2305843009213688669*a%2305843009213688669)] 3 (0,0))]) (λ_ hk=>hk) (by cases rec;simp_all) (by rw[VA,aj];rfl)
  intro aj;refine B 2 ?_;exact VD (Hc:=[(b6,.cells #[.func (.func 179) #[] #[ptr b5 0]] 276 (0,0)),(b5,.cells #[.int .i64 (nK a 2305843009213688669 pre 1*nK a 2305843009213688669 pre 1%2305843009213688669)] 3 (0,0))]) (λ_ hk=>hk) (by cases rec;simp_all) (by rw[VA,aj];rfl)
 ·rintro l Dk rec Hc dr fK rfl;replace dr:=yb dr;refine B 9 ?_;refine Il (.inl rfl) results113 rfl xL (λW H' hS bO=>⟨?_,?_⟩)
  ·exact congrArg Ending.returned rfl
  exact zel
 exact λ_ _ _ _ _ _ _ hk=>hk.elim
theorem nKo(a:Int)(w:World):Calls prog 69 #[.int .i64 a] w (av w (lP (oN a))):=by
 refine enter (vs:=[_]) func69 rfl ntmps69 rfl ?_;refine B 11 ?_;refine EA ?_;refine yV ?_;intro b6 w6 Oz OA hz6 gS lB;refine call call111 rfl rfl rfl (λW hS=>Y9 [a] _ _ _ _ _ rfl z1 W (hS.old A0 Oz OA trivial)) ?_;refine B 3 ?_;refine aK ?_ ?_
 ·intro aj;refine B 1 ?_;have hg:=Qp aj;refine B 8 ?_;exact Zc
 intro aj;refine B 1 ?_;have hg:=Za aj;refine B 6 ?_;refine aK ?_ ?_
 ·intro aN;refine B 9 ?_;exact Zc
 intro aN;refine B 6 ?_;refine call call113 rfl rfl rfl (λW hS=>nym _ _ zM zM zM zM W) ?_;refine B 5 ?_;exact Zc
abbrev jY (x:Int):Prop:=1<=x/\x<2305843009213688669
theorem Zd:dG 4:=by decide +kernel
def yL (x:Int):Int×Int:=if jY x then(qb 4 x 4611686018427377339,0)else(0,50)
theorem VM{x:Int}(h:jY x):gExp 4 x=(qb 4 x 4611686018427377339,0):=by unfold gExp;rw[if_pos Zd,if_pos zM]
theorem nBi(a:Int)(w:World):Calls prog 32 #[.int .i64 a] w (av w (.bool (decide (jY a)))):=by
 refine enter (vs:=[_]) func32 rfl ntmps32 rfl ?_;refine B 10 ?_;refine nh (t:=5) rfl (λaj=>?_) (λaj=>?_)
 ·replace aj:=ya aj;refine B 7 ?_;refine ax results32 rfl A0 ?_;refine vb (xM.2 ?_)
  (try simp only[decide_eq_true_eq,Bool.false_eq_true,false_iff,true_iff])
  first|omega|(intro h;omega)
 replace aj:=ya aj;refine B 7 ?_;refine ax results32 rfl A0 ?_;refine vb (xM.2 ?_)
 (try simp only[decide_eq_true_eq,Bool.false_eq_true,false_iff,true_iff])
 first|omega|(intro h;omega)
theorem nEh(a:Int)(w:World):Calls prog 33 #[.int .i64 a] w (av w (.int .i64 (gExp 4 a).1)):=by
 refine enter (vs:=[_]) func33 rfl ntmps33 rfl ?_;refine B 8 ?_;refine call call65 rfl rfl rfl (λW hS=>nvi _ W) ?_;refine B 14 ?_;refine ax results33 rfl A0 ?_;rfl
theorem nNh(a:Int)(w:World):Calls prog 17 #[.int .i64 a] w (av w (lP (yL a))):=by
 refine enter (vs:=[_]) func17 rfl ntmps17 rfl ?_;refine B 10 ?_;refine call call32 rfl rfl rfl (λW hS=>nBi _ W) ?_;refine B 3 ?_;refine aK ?_ ?_
 ·intro aj;refine B 8 ?_;exact zkk
 intro aj;refine B 5 ?_;refine call call33 rfl rfl rfl (λW hS=>nEh _ W) ?_;refine B 5 ?_;exact zkk
theorem Qq(n:Nat)(h1:1<=n)(h2:n<=31):(IntKind.u64.wrap (-(n:Int)))%32=((32-n:Nat):Int):=by rw[nD];omega
theorem Ki(x:BitVec 32)(n:Nat)(h1:1<=n)(h2:n<=31)(w:World):Calls prog 284 #[u32 x,.int .i64 (-(n:Int))] w (av w (u32 (vc x n))):=by
 refine enter (vs:=[_,_]) func284 rfl ntmps284 rfl ?_;refine B 8 ?_;refine rv rfl rfl rfl (iI underlying3 underlying189 rfl) ?_;refine rq (.int .u64 ((32-n:Nat):Int)) (mG 5 32 zQ rfl rfl rfl rfl (by rw[nD];omega) (by rw[nD];omega)) (vu (Qq n h1 h2)) ?_;refine B 7 ?_;refine rv rfl rfl rfl (yM (32-n) zM rfl rfl rfl) ?_;refine B 2 ?_;refine rq (.int .u64 (n:Int)) (mH rfl rfl zM zM) (vu zM) ?_;refine rv rfl rfl rfl (tQ n zM rfl rfl rfl) ?_;refine rv rfl rfl rfl (vd rfl rfl) ?_;refine B 4 ?_;refine ax results284 rfl A0 ?_;exact congrArg u32 (BitVec.or_comm _ _)
theorem nEf(x:BitVec 32)(a b c:Nat)(ha:1<=a)(eK:a<=31)(hb:1<=b)(aR:b<=31)(hc:1<=c)(aj:c<=31)(w:World):Calls prog 285 #[u32 x,.int .i64 (a:Int),.int .i64 (b:Int),.int .i64 (c:Int)] w (av w (u32 (vc x a^^^vc x b^^^vc x c))):=by
 refine enter (vs:=[_,_,_,_]) func285 rfl ntmps285 rfl ?_;refine B 9 ?_;refine rv rfl rfl rfl (tR rfl zM zM) ?_;refine call call284 rfl rfl rfl (λW hS=>Ki _ a zM zM W) ?_;refine B 2 ?_;refine rv rfl rfl rfl (tR rfl zM zM) ?_;refine call call284 rfl rfl rfl (λW hS=>Ki _ b zM zM W) ?_;refine rv rfl rfl rfl (tS rfl rfl) ?_;refine B 2 ?_;refine rv rfl rfl rfl (tR rfl zM zM) ?_;refine call call284 rfl rfl rfl (λW hS=>Ki _ c zM zM W) ?_;refine rv rfl rfl rfl (tS rfl rfl) ?_;refine B 4 ?_;refine ax results285 rfl A0 ?_;rfl
def ve (m:Nat->Int):Nat->BitVec 32
 |0=>0
 |n+1=>ve m n<<<8|||BitVec.ofInt 32 (m n)
theorem EC(m:Nat->Int):ve m 4=OB m 0:=by
 simp only[ve,OB,BitVec.shiftLeft_or_distrib,<-BitVec.shiftLeft_add,i6];simp
theorem nwm(m:Nat->Int)(b off n c t:Nat)(fr:Nat×Nat)(cs:Array Value)(hn:4<=n)(hc:n<=c)(w:World)(mq:w.heap[b]? =some (.cells cs t fr))(hm:∀i,i<4->cs[off+i]? =some (.int .u8 (m i))):Calls prog 283 #[.slice (some ⟨b,off,none⟩) n c] w (av w (u32 (OB m 0))):=by
 have tM:¬Gh.no.M b:=λh=>h;refine enter (vs:=[_]) func283 rfl ntmps283 rfl ?_;refine B 9 ?_;refine rv rfl rfl rfl (gq (h:=4) underlying64 sizeOf5 rfl ⟨_,_,rfl,rfl⟩ zM) ?_;refine B 5 ?_;refine CJ.loop (α:=Nat) (λj=>[(2,u32 (ve m j)),(6,.slice (some ⟨b,off,none⟩) 4 c),(7,.int .i64 4),(8,.int .i64 (j:Int))]) (λj=>[]) (λj=>[w]) (λj=>Gh.no) (λj=>j<=4) (λj=>4-j) 0 zQ zR rfl rfl z1 ?_;rintro j hj;refine B 6 ?_;refine aK ?_ ?_
 ·intro aj;refine B 7 ?_;refine rv rfl rfl rfl (aa (v:=.int .u8 (m j)) isAgg5 rfl A0 mq tM trivial (by rw[<-hm j zM];exact congrArg (λi=>cs[i]?) zM)) ?_;refine B 5 ?_;refine rv rfl rfl rfl (yM 8 zQ rfl rfl rfl) ?_;refine B 1 ?_;refine rv rfl rfl rfl (Kj underlying5 underlying229 rfl) ?_;refine rv rfl rfl rfl (vd rfl rfl) ?_;refine B 8 ?_;exact Ez
 intro aj;refine B 12 ?_;refine ax results283 rfl A0 ?_;have e:j=4:=by omega
 subst e;exact congrArg u32 (EC m)
def qh (cs:Array Value) (off len:Nat) (n:Nat):Nat->Array Value
 |0=>cs
 |i+1=>setCells (qh cs off len n i) (off+(len-1-i)) [.int .u8 ((n/2^(8*i)%256:Nat):Int)]
theorem n6j(cs:Array Value)(off len n:Nat):∀i,(qh cs off len n i).size=cs.size
 |0=>rfl
 |i+1=>by rw[qh,n7d];exact n6j cs off len n i
theorem Qr(n i:Nat)(k:Int)(hk:k=((8*i:Nat):Int))(hi:i<=7):(n:Int).fdiv (2^(min (Int.toNat k) IntKind.u64.bits))%256=((n/2^(8*i)%256:Nat):Int):=by
 rw[yF n (8*i) k hk zM];omega
theorem nhe(n:Nat)(b off len cap t:Nat)(cs:Array Value)(hlen:len<=8)(jy:off+len<=cs.size)(w:World)(hb:w.heap[b]? =some (.cells cs t (0,0))):Calls prog 238 #[.slice (some ⟨b,off,none⟩) len cap,.int .u64 (n:Int)] w (yG w (.tuple #[]) b (.cells (qh cs off len n len) t (0,0))):=by
 refine nN Gh.no [(b,_)] (vs:=[_,_]) func238 rfl ntmps238 rfl (VH hb) ?_;refine B 8 ?_;refine CJ.loop (α:=Nat) (λj=>[(0,.slice (some ⟨b,off,none⟩) len cap),(1,.int .u64 (n:Int)),(6,.int .i64 (len:Int)),(7,.int .i64 (j:Int))]) (λj=>[(b,.cells (qh cs off len n j) t (0,0))]) (λj=>[w]) (λj=>Gh.no) (λj=>j<=len) (λj=>len-j) 0 (cZ _) zR rfl rfl z1 ?_;rintro j hj;refine B 6 ?_;refine aK ?_ ?_
 ·intro aj;refine B 20 ?_;refine rv rfl rfl rfl (iG rfl rfl zM) ?_;refine rq (.int .u8 ((n/2^(8*j)%256:Nat):Int)) (mJ underlying202 underlying5 rfl) (congrArg (Value.int .u8) (Qr n j _ zM zM)) ?_;refine rq (ptr b (off+(len-1-j))) (cx underlying64 sizeOf5 rfl rfl zM zM) (congrArg (λk=>ptr b (off+k)) zM) ?_;refine kS (i:=0) rfl sizeOf5 rfl rfl rfl rfl (by rw[n6j];omega) rfl ?_;refine B 7 ?_;exact Ez
 intro aj;refine B 4 ?_;have e:j=len:=by omega
 subst e;refine bH (.inr rfl) results238 RS.n (λW hS=>⟨rfl,(hS.links w A0).mono λk _ hk=>?_,hS.own _ A0⟩);simpa[Gh.no]using hk
theorem Ip(n:Nat)(f:Nat->Value)(i k:Nat)(h:k=i)(hi:i<n):(cf n f)[k]? =some (f i):=by subst h;exact Iq n f k hi
theorem S8.cells_ld(s:S8)(i k:Nat)(h:k=i)(hi:i<8):s.cells[k]? =some (u32 (s.at i)):=by subst h;exact s.cells_at k hi
theorem yN(m:Nat->Int)(j:Nat)(v:BitVec 32)(hv:v=if j<16 then OB m (4*j)else eL m j (j-16)+s0 (eL m j (j-15))+eL m j (j-7)+s1 (eL m j (j-2))):setCells (cf 64 (λi=>u32 (eL m j i))) j (u32 v).cells.toList=cf 64 (λi=>u32 (eL m (j+1) i)):=by
 show setCells (cf 64 (λi=>u32 (eL m j i))) j [u32 v]=_;rw[Qs];congr 1;funext i;simp only[eL,Dm];split<;>simp_all
def oO (s v:S8) (j:Nat):Array Value:=cf 8 (λk=>u32 (if k<j then s.at k+v.at k else s.at k))
theorem nRo(s v:S8)(j:Nat):setCells (oO s v j) j (u32 (s.at j+v.at j)).cells.toList=oO s v (j+1):=by
 show setCells (cf 8 _) j [u32 (s.at j+v.at j)]=_;rw[Qs];unfold oO;congr 1;funext i;simp only[Dm];by_cases h:i=j
 ·subst h;simp
 by_cases h2:i<j
 ·simp[h,h2,show i<j+1 by omega]
 simp[h,h2,show ¬i<j+1 by omega]
theorem Kk(s v:S8):oO s v 8=(s.add v).cells:=rfl
theorem ED(s v:S8)(j k:Nat)(h:k=j)(hj:j<8):(oO s v j)[k]? =some (u32 (s.at j)):=by
 rw[oO,Ip 8 _ j k h hj];simp
theorem n8d(s:S8)(m:Nat->Int)(b bb off n c t:Nat)(fr tT:Nat×Nat)(t3:Nat)(cs:Array Value)(hn:64<=n)(hc:n<=c)(w:World)(hb:w.heap[b]? =some (.cells s.cells 336 (0,0)))(yO:w.heap[bb]? =some (.cells cs t fr))(hm:∀i,i<64->cs[off+i]? =some (.int .u8 (m i)))(dc:bb≠b)(hg:w.heap[4]? =some (.cells (cf 64 (λi=>u32 (kk i))) t3 tT))(Qt:b≠4):Calls prog 237 #[ptr b 0,.slice (some ⟨bb,off,none⟩) n c] w (yG w (.tuple #[]) b (.cells (s.comp m).cells 336 (0,0))):=by
 have Qu:=(aM.1 yO).1;have jH:=(aM.1 hb).1;have Qv:=(aM.1 hg).1;refine nN Gh.no [(b,_)] (vs:=[_,_]) func237 rfl ntmps237 rfl (VH hb) ?_;refine B 2 ?_;refine aU zeroValue375 rfl rfl ?_;refine yW ?_;intro b4 dQ dV;refine B 9 ?_;refine CJ.loop (α:=Nat) (λj=>[(0,ptr b 0),(1,.slice (some ⟨bb,off,none⟩) n c),(4,ptr b4 0),(14,.int .i64 (j:Int))]) (λj=>[(b4,.cells (cf 64 (λi=>u32 (eL m j i))) 375 (0,0)),(b,.cells s.cells 336 (0,0))]) (λj=>[w]) (λj=>Gh.no) (λj=>j<=16) (λj=>16-j) 0 zQ zR rfl rfl z1 ?_;rintro j hj;refine B 6 ?_;refine aK ?_ ?_
 ·intro aj;refine B 15 ?_;refine rv rfl rfl rfl (il (l:=4*j) (h:=n) (off':=off+4*j) underlying64 sizeOf5 rfl ⟨_,_,rfl,by omega⟩ rfl zM zM (by rw[if_neg zM];omega)) ?_;refine call call283 rfl rfl rfl (λW hS=>nwm (λi=>m (4*j+i)) _ _ _ _ _ _ _ zM zM W (hS.old A0 yO zX qf) (λi hi=>by rw[Nat.add_assoc];exact hm _ zM)) ?_;refine zIg ?_;refine B 7 ?_;refine PJ.reH (H':=[(b4,.cells (cf 64 (λi=>u32 (eL m (j+1) i))) 375 (0,0)),(b,.cells s.cells 336 (0,0))]) (by rw[<-yN m j (OB (λi=>m (4*j+i)) 0) (by rw[if_pos zM];rfl)];rfl) ?_;exact Ez
 intro aj;refine B 12 ?_;have e:j=16:=by omega
 subst e;refine CJ.loop (α:=Nat) (λj=>[(0,ptr b 0),(4,ptr b4 0),(6,.int .i64 (j:Int))]) (λj=>[(b4,.cells (cf 64 (λi=>u32 (eL m j i))) 375 (0,0)),(b,.cells s.cells 336 (0,0))]) (λj=>[w]) (λj=>Gh.no) (λj=>16<=j/\j<=64) (λj=>64-j) 16 zQ zR rfl rfl z1 ?_;rintro j ⟨Ze,hj⟩;refine B 7 ?_;refine aK ?_ ?_
 ·intro aN;refine B 5 ?_;refine ng (E':=[(0,_),(4,_),(6,_),(25,_),(26,_)]) zR ?_;refine nl 9 [.det [] _,.det [0] _,.det [1] _,.det [2] _,.det [] _,.det [4] _,.det [5] _,.det [6] _,.det [3] _] zT (xc zO (xc EE (xc OC (xc (by exact λab=>X.val rfl rfl (aO (v:=u32 (eL m j (j-15))) (i:=0) rfl isAgg229 rfl (Ip 64 (λi=>u32 (eL m j i)) (j-15) _ zM zM)) (λ_ _=>rfl)) (xc zO (xc EE (xc OC (xc (by exact λab=>X.val rfl rfl (aO (v:=u32 (eL m j (j-2))) (i:=0) rfl isAgg229 rfl (Ip 64 (λi=>u32 (eL m j i)) (j-2) _ zM zM)) (λ_ _=>rfl)) (xc (by exact λab=>X.val rfl rfl (kg rfl) (λ_ _=>rfl)) (xn)))))))))) zT zT zT (λab=>?_);refine B 3 ?_;refine ng (E':=[(0,_),(4,_),(6,_),(7,_),(8,_),(25,_),(26,_),(29,_),(30,_),(31,_),(32,_),(33,_),(34,_),(35,_),(36,_)]) zR ?_;refine nl 28 [.det [] _,.det [] _,.det [1] _,.det [2] _,.det [3] _,.det [] _,.det [5] _,.det [] _,.det [7] _,.det [6,8] _,.det [] _,.det [10] _,.det [9,11] _,.det [4,12] _,.det [] _,.det [14] _,.det [15] _,.det [16] _,.det [13,17] _,.det [] _,.det [19] _,.det [] _,.det [21] _,.det [20,22] _,.det [] _,.det [24] _,.det [23,25] _,.det [18,26] _] zT (xc zO (xc zO (xc EE (xc OC (xc (by exact λab=>X.val rfl rfl (aO (v:=u32 (eL m j (j-16))) (i:=0) rfl isAgg229 rfl (Ip 64 (λi=>u32 (eL m j i)) (j-16) _ zM zM)) (λ_ _=>rfl)) (xc zO (xc (by exact λab=>nf call284 rfl rfl (λW hS _=>Ki _ 7 zQ zQ W) (λ_=>rfl)) (xc zO (xc (by exact λab=>nf call284 rfl rfl (λW hS _=>Ki _ 18 zQ zQ W) (λ_=>rfl)) (xc OD (xc zO (xc (by exact λab=>X.val rfl rfl (tQ 3 zQ rfl rfl rfl) (λ_ _=>rfl)) (xc OD (xc Kl (xc zO (xc EE (xc OC (xc (by exact λab=>X.val rfl rfl (aO (v:=u32 (eL m j (j-7))) (i:=0) rfl isAgg229 rfl (Ip 64 (λi=>u32 (eL m j i)) (j-7) _ zM zM)) (λ_ _=>rfl)) (xc Kl (xc zO (xc (by exact λab=>nf call284 rfl rfl (λW hS _=>Ki _ 17 zQ zQ W) (λ_=>rfl)) (xc zO (xc (by exact λab=>nf call284 rfl rfl (λW hS _=>Ki _ 19 zQ zQ W) (λ_=>rfl)) (xc OD (xc zO (xc (by exact λab=>X.val rfl rfl (tQ 10 zQ rfl rfl rfl) (λ_ _=>rfl)) (xc OD (xc Kl (xn))))))))))))))))))))))))))))) zT zT zT (λab=>?_)
  refine zIg ?_;refine B 8 ?_;refine PJ.reH (H':=[(b4,.cells (cf 64 (λi=>u32 (eL m (j+1) i))) 375 (0,0)),(b,.cells s.cells 336 (0,0))]) (by rw[<-yN m j _ (by rw[if_neg zM])];rfl) ?_;exact Ez
 intro aN;refine B 10 ?_;refine aU zeroValue336 rfl rfl ?_;refine yW ?_;intro b9 rE Km;refine aZ (i:=0) rfl sizeOf336 rfl rfl rfl rfl rfl rfl ?_;refine B 9 ?_;have e:j=64:=by omega
 subst e;obtain⟨ws,hX⟩:∃ws,ws=eL m 64:=⟨_,rfl⟩;refine CJ.reH (H':=[(b9,.cells s.cells 336 (0,0)),(b4,.cells (cf 64 (λi=>u32 (ws i))) 375 (0,0)),(b,.cells s.cells 336 (0,0))]) (by rw[hX];rfl) ?_;refine CJ.loop (α:=Nat) (λj=>[(0,ptr b 0),(4,ptr b4 0),(9,ptr b9 0),(69,.int .i64 (j:Int))]) (λj=>[(b9,.cells (S8.run ws s j).cells 336 (0,0)),(b4,.cells (cf 64 (λi=>u32 (ws i))) 375 (0,0)),(b,.cells s.cells 336 (0,0))]) (λj=>[w]) (λj=>Gh.no) (λj=>j<=64) (λj=>64-j) 0 zQ zR rfl rfl z1 ?_;rintro j hj;dsimp only;generalize hv:S8.run ws s j=v;refine B 6 ?_;refine aK ?_ ?_
 ·intro cN;refine B 11 ?_;refine ng (E':=[(0,_),(4,_),(9,_),(10,_),(69,_),(70,_),(71,_)]) zR ?_;refine nl 25 [.det [] _,.det [0] _,.det [] _,.det [2] _,.det [3] _,.det [1,4] _,.det [] _,.det [6] _,.det [] _,.det [8] _,.det [] _,.det [10] _,.det [] _,.det [12] _,.det [11,13] _,.det [9,14] _,.det [7,15] _,.det [5,16] _,.det [] _,.det [18] _,.det [19] _,.det [17,20] _,.det [] _,.det [22] _,.det [23] _] zT (xc vf (xc xN (xc vf (xc xN (xc (by exact λab=>nf call285 rfl rfl (λW hS _=>nEf _ 6 11 25 zQ zQ zQ zQ zQ zQ W) (λ_=>rfl)) (xc Kl (xc vf (xc xN (xc vf (xc xN (xc vf (xc xN (xc vf (xc xN (xc OD (xc Zg (xc OD (xc Kl (xc zO (xc OC (xc (by exact λab=>X.val rfl rfl (aa (v:=u32 (kk j)) isAgg229 rfl A0 hg zX qf (Ip 64 (λi=>u32 (kk i)) j _ zM zM)) (λ_ _=>rfl)) (xc Kl (xc zO (xc OC (xc (by exact λab=>X.val rfl rfl (aO (v:=u32 (ws j)) (i:=1) rfl isAgg229 rfl (Ip 64 (λi=>u32 (ws i)) j _ zM zM)) (λ_ _=>rfl)) (xn)))))))))))))))))))))))))) zT zT zT (λab=>?_);refine rv rfl rfl rfl (qi rfl rfl) ?_;refine B 4 ?_;refine ng (E':=[(0,_),(4,_),(9,_),(10,_),(11,_),(69,_),(70,_),(71,_),(72,_),(73,_),(74,_),(75,_),(76,_),(77,_),(78,_),(79,_),(80,_),(81,_),(82,_),(83,_),(84,_),(85,_),(86,_),(87,_),(88,_),(89,_),(90,_),(91,_),(92,_),(93,_),(94,_),(95,_),(96,_),(97,_)]) zR ?_
  refine nl 17 [.det [] _,.det [0] _,.det [1] _,.det [] _,.det [3] _,.det [] _,.det [5] _,.det [4,6] _,.det [] _,.det [8] _,.det [] _,.det [10] _,.det [] _,.det [12] _,.det [11,13] _,.det [9,14] _,.det [7,15] _] zT (xc vf (xc xN (xc (by exact λab=>nf call285 rfl rfl (λW hS _=>nEf _ 2 13 22 zQ zQ zQ zQ zQ zQ W) (λ_=>rfl)) (xc vf (xc xN (xc vf (xc xN (xc Zg (xc vf (xc xN (xc vf (xc xN (xc vf (xc xN (xc (by exact λab=>X.val rfl rfl (vd rfl rfl) (λ_ _=>rfl)) (xc Zg (xc (by exact λab=>X.val rfl rfl (vd rfl rfl) (λ_ _=>rfl)) (xn)))))))))))))))))) zT zT zT (λab=>?_);refine rv rfl rfl rfl (qi rfl rfl) ?_;refine B 4 ?_;refine ng (E':=[(0,_),(4,_),(9,_),(10,_),(11,_),(12,_),(69,_),(70,_),(71,_),(72,_),(73,_),(74,_),(75,_),(76,_),(77,_),(78,_),(79,_),(80,_),(81,_),(82,_),(83,_),(84,_),(85,_),(86,_),(87,_),(88,_),(89,_),(90,_),(91,_),(92,_),(93,_),(94,_),(95,_),(96,_),(97,_),(98,_),(99,_),(100,_),(101,_),(102,_),(103,_),(104,_),(105,_),(106,_),(107,_),(108,_),(109,_),(110,_),(111,_),(112,_),(113,_),(114,_),(115,_)]) zR ?_;refine nl 2 [.det [] _,.det [] _] zT (xc (by exact λab=>X.val rfl rfl (yP (l:=1) underlying336 sizeOf229 rfl ⟨_,_,rfl,rfl⟩ rfl zM zM (by rw[if_neg zM])) (λ_ _=>rfl)) (xc (by exact λab=>X.val rfl rfl (kT (h:=7) underlying336 sizeOf229 rfl ⟨_,_,rfl,rfl⟩ zM) (λ_ _=>rfl)) (xn))) zT zT zT (λab=>?_)
  refine VN (i:=0) (n:=7) rfl underlying379 sizeOf229 rfl rfl rfl rfl (λ_=>rfl) zQ (Rd.own (i:=0) rfl (aV rfl) rfl) (aV rfl) rfl ?_;refine B 3 ?_;refine CJ.reH (H':=[(b9,.cells #[u32 v.a,u32 v.a,u32 v.b,u32 v.c,u32 v.d,u32 v.e,u32 v.f,u32 v.g] 336 (0,0)),(b4,.cells (cf 64 (λi=>u32 (ws i))) 375 (0,0)),(b,.cells s.cells 336 (0,0))]) rfl ?_;refine B 4 ?_;refine zVi ?_;refine B 5 ?_;refine zVi ?_;refine B 7 ?_;refine PJ.reH (H':=[(b9,.cells (S8.run ws s (j+1)).cells 336 (0,0)),(b4,.cells (cf 64 (λi=>u32 (ws i))) 375 (0,0)),(b,.cells s.cells 336 (0,0))]) (by simp only[S8.run,hv,S8.step,S8.P,S8.Q,<-EF,<-EG];rfl) ?_;exact Ez
 intro cN;refine B 11 ?_;have e:j=64:=by omega
 subst e;refine CJ.loop (α:=Nat) (λj=>[(0,ptr b 0),(9,ptr b9 0),(129,.int .i64 (j:Int))]) (λj=>[(b9,.cells v.cells 336 (0,0)),(b4,.cells (cf 64 (λi=>u32 (ws i))) 375 (0,0)),(b,.cells (oO s v j) 336 (0,0))]) (λj=>[w]) (λj=>Gh.no) (λj=>j<=8) (λj=>8-j) 0 zQ zR rfl rfl z1 ?_;rintro j hj;refine B 6 ?_;refine aK ?_ ?_
 ·intro gf;refine B 10 ?_;refine ng (E':=[(0,_),(9,_),(13,_),(129,_),(130,_),(131,_)]) zR ?_;refine nl 10 [.det [] _,.det [] _,.det [0] _,.det [1,2] _,.det [3] _,.det [] _,.det [5] _,.det [6] _,.det [4,7] _,.det [0] _] zT (xc zO (xc zO (xc EH (xc vf (xc (by exact λab=>X.val rfl rfl (aO (v:=u32 (s.at j)) (i:=2) rfl isAgg229 rfl (ED s v j _ zM zM)) (λ_ _=>rfl)) (xc zO (xc vf (xc (by exact λab=>X.val rfl rfl (aO (v:=u32 (v.at j)) (i:=0) rfl isAgg229 rfl (S8.cells_ld _ j _ zM zM)) (λ_ _=>rfl)) (xc Kl (xc EH (xn))))))))))) zT zT zT (λab=>?_);refine rq (ptr b j) (kU underlying336 sizeOf229 rfl rfl zM zM) (congrArg (ptr b) zM) ?_;refine kS (i:=2) rfl sizeOf229 rfl rfl rfl rfl (by rw[oO,yQ];omega) rfl ?_;refine B 7 ?_;refine PJ.reH (H':=[(b9,.cells v.cells 336 (0,0)),(b4,.cells (cf 64 (λi=>u32 (ws i))) 375 (0,0)),(b,.cells (oO s v (j+1)) 336 (0,0))]) (by rw[<-nRo];rfl) ?_;exact Ez
 intro gf;refine B 4 ?_;have e:j=8:=by omega
 subst e;rw[show(s.comp m).cells=oO s v 8 from by rw[Kk,S8.comp,<-hX,hv]];refine bH (.inr rfl) results237 RS.n (λW hS=>⟨rfl,(hS.links w A0).mono λk hk hx=>?_,hS.own _ A2⟩);simp only[Gh.no,eE,iD,cP,fG,or_false,false_or]at hx;omega
theorem Qw:prog.info? 5=some Tryz.t5:=by kernel_rfl
theorem yR(N:Nat)(g:Nat->Value):∀(news:List Value) (f:Nat->Value) (off:Nat),(∀i,i<news.length->news[i]? =some (g (off+i)))->setCells (cf N f) off news=cf N (λi=>if off<=i/\i<off+news.length then g i else f i)
 | [],f,off,_=>by
  show cf N f=_;apply OE;intro i _;rw[if_neg (by simp only[lC];omega)]
 |v::vs,f,off,h=>by
  have h0:=h 0 z1;simp only[Ir,rF,Nat.add_zero]at h0;show setCells (setCells (cf N f) off [v]) (off+1) vs=_;rw[Qs,yR N g vs _ (off+1) (λi hi=>by
   have:=h (i+1) jZ;simp only[yS]at this;rw[this];congr 2;omega)]
  apply OE;intro i _;simp only[dW,Dm];by_cases h1:i=off
  ·subst h1;rw[if_neg zM,if_pos rfl,if_pos zM,h0]
  by_cases h2:off+1<=i/\i<off+1+vs.length
  ·rw[if_pos h2,if_pos zM]
  rw[if_neg h2,if_neg h1,if_neg zM]
theorem Zh(N:Nat)(f:Nat->Value)(off len n:Nat):∀k,k<=len->qh (cf N f) off len n k=cf N (λi=>if off+(len-k)<=i/\i<off+len then .int .u8 ((n/2^(8*(off+len-1-i))%256:Nat):Int)else f i)
 |0,_=>by
  show cf N f=_;apply OE;intro i _;rw[if_neg zM]
 |k+1,hk=>by
  rw[qh,Zh N f off len n k zM,Qs];apply OE;intro i _;simp only[Dm];by_cases h1:i=off+(len-1-k)
  ·rw[if_pos h1,if_pos zM,show off+len-1-i=k by omega]
  rw[if_neg h1];by_cases h2:off+(len-k)<=i/\i<off+len
  ·rw[if_pos h2,if_pos zM]
  rw[if_neg h2,if_neg zM]
theorem Qx(f:Nat->Int):cf 32 (λk=>.int .u8 (f k))=dg f:=rfl
variable {cs:Array Value}
theorem nyn{o r:Nat}{m:Nat->Int}(h:o+r<=cs.size)(hm:∀i,i<r->cs[o+i]? =some (.int .u8 (m i))):∀i,i<((cs.toList.drop o).take (r*1)).length->((cs.toList.drop o).take (r*1))[i]? =some (.int .u8 (m i)):=by
 intro i hi;have Zi:i<r:=by simp at hi;omega
 rw[Kn zM,wv,xO,hm i Zi]
theorem Zj{o r:Nat}(h:o+r<=cs.size):((cs.toList.drop o).take (r*1)).length=r:=by simp;omega
theorem nRn{m:Nat->Int}:∀(l:List Value),(∀i,i<l.length->l[i]? =some (.int .u8 (m i)))->nV l=true
 | [],_=>rfl
 |v::l,h=>by
  have h0:=h 0 z1;simp at h0;subst h0;simp only[nV,tU,Bool.true_and];exact nRn (m:=λi=>m (i+1)) l λi hi=>by have:=h (i+1) jZ;simpa using this
def mK (n:Nat) (m:Nat->Int) (j N i:Nat):Value:=if(N-8)+(8-8)<=i/\i<(N-8)+8 then .int .u8 ((8*n/2^(8*((N-8)+8-1-i))%256:Nat):Int)else Dm (λi=>if 0<=i/\i<0+(n-64*j)then .int .u8 (m (64*j+i))else .int .u8 0) (n-64*j) (.int .u8 128) i
theorem n7k(n:Nat)(m:Nat->Int)(j N:Nat):qh (setCells (cf 128 (λi=>if 0<=i/\i<0+(n-64*j)then .int .u8 (m (64*j+i))else .int .u8 0)) (n-64*j) [.int .u8 128]) (N-8) 8 (8*n) 8=cf 128 (mK n m j N):=by
 rw[Qs,Zh 128 _ _ 8 _ 8 (ao _)];rfl
theorem nQk(n:Nat)(m:Nat->Int)(j N i:Nat)(hj:64*j<=n)(hN:64*(eF n-j)=N)(hr:n-64*j<64)(hi:i<N):mK n m j N i= .int .u8 (tV n m (64*j+i)):=by
 have hb:eF n=j+N/64:=by unfold eF at *;omega
 have hN8:N=64\/N=128:=by unfold eF at hN;omega
 have hrN:n-64*j+9<=N:=by unfold eF at hN;omega
 simp only[mK,tV,Dm];by_cases h1:i<n-64*j
 ·rw[if_neg zM,if_neg zM,if_pos zM,if_pos zM]
 rw[if_neg (show ¬64*j+i<n by omega)];by_cases h2:i=n-64*j
 ·rw[if_neg zM,if_pos h2,if_pos zM]
 rw[if_neg (show ¬64*j+i=n by omega)];by_cases h3:i<N-8
 ·rw[if_neg zM,if_neg h2,if_neg zM,if_pos zM]
 rw[if_pos zM,if_neg zM,show 64*eF n-1-(64*j+i)=N-8+8-1-i by omega];congr 1
def iJ (s:S8) (i:Nat):Array Value:=cf 32 (λk=>.int .u8 (if k<4*i then yT s k else 0))
theorem nhk(s:S8)(i:Nat)(hi:i<8):qh (iJ s i) (4*i) 4 (s.at i).toNat 4=iJ s (i+1):=by
 unfold iJ;rw[Zh 32 _ (4*i) 4 _ 4 (ao _)];apply OE;intro k hk;by_cases h:k<4*i
 ·rw[if_neg zM,if_pos h,if_pos zM]
 by_cases h2:k<4*i+4
 ·rw[if_pos zM,if_pos zM];unfold yT;rw[show k/4=i by omega,show 24-8*(k%4)=8*(4*i+4-1-k) by omega]
 rw[if_neg zM,if_neg h,if_neg zM]
theorem Ko(s:S8):iJ s 8=dg (yT s):=by
 rw[<-Qx];unfold iJ;apply OE;intro k hk;rw[if_pos zM]
theorem EI(n:Nat)(m:Nat->Int)(i:Nat)(h:i<n):tV n m i=m i:=by unfold tV;rw[if_pos h]
theorem nwi(n:Nat)(m:Nat->Int)(bb off c t t2 t3:Nat)(fr qj tT:Nat×Nat)(cs:Array Value)(hc:n<=c)(hn:n<1152921504606846976)(w:World)(yO:w.heap[bb]? =some (.cells cs t fr))(mL:off+n<=cs.size)(hm:∀i,i<n->cs[off+i]? =some (.int .u8 (m i)))(sZ:w.heap[0]? =some (.cells S8.init.cells t2 qj))(hg:w.heap[4]? =some (.cells (cf 64 (λi=>u32 (kk i))) t3 tT)):Calls prog 170 #[.slice (some ⟨bb,off,none⟩) n c] w (av w (.agg (dg (s4 n m)))):=by
 have Qu:=(aM.1 yO).1;have Zk:=(aM.1 sZ).1;have Qv:=(aM.1 hg).1;refine enter (vs:=[_]) func170 rfl ntmps170 rfl ?_;refine B 2 ?_;refine rG ?_;refine yW ?_;intro b2 cE cX;refine B 4 ?_;refine rv rfl rfl rfl (af isAgg335 sizeOf335 rfl A0 sZ zX qf rfl) ?_;refine aU zeroValue336 rfl rfl ?_;refine yW ?_;intro b3 bV cL;refine aZ (i:=0) rfl sizeOf336 rfl rfl rfl rfl rfl rfl ?_;refine B 4 ?_;refine Qy ?_;refine B 11 ?_;refine CJ.loop (α:=Nat×Nat) (λp=>[(0,.slice (some ⟨bb,off,none⟩) n c),(2,ptr b2 0),(3,ptr b3 0),(4,.func (.func 237) #[ptr b3 0] #[]),(5,.slice (some ⟨bb,p.2,none⟩) (n-64*p.1) (c-64*p.1))]) (λp=>[(b3,.cells (oP n m p.1).cells 336 (0,0)),(b2,.cells #[.int .u8 0,.int .u8 0,.int .u8 0,.int .u8 0,.int .u8 0,.int .u8 0,.int .u8 0,.int .u8 0,.int .u8 0,.int .u8 0,.int .u8 0,.int .u8 0,.int .u8 0,.int .u8 0,.int .u8 0,.int .u8 0,.int .u8 0,.int .u8 0,.int .u8 0,.int .u8 0,.int .u8 0,.int .u8 0,.int .u8 0,.int .u8 0,.int .u8 0,.int .u8 0,.int .u8 0,.int .u8 0,.int .u8 0,.int .u8 0,.int .u8 0,.int .u8 0] 34 (0,0))]) (λp=>[w]) (λp=>Gh.no) (λp=>64*p.1<=n/\(64*p.1<c->p.2=off+64*p.1)/\p.2<=off+64*p.1) (λp=>n-64*p.1) (0,off) dL zR rfl rfl z1 ?_;rintro⟨j,o⟩ ⟨hj,ho,iH⟩;dsimp only at hj ho iH ⊢;refine B 8 ?_;refine aK ?_ ?_
 ·intro aj;refine B 7 ?_;refine rv rfl rfl rfl (gq (h:=64) underlying64 sizeOf5 rfl ⟨_,_,rfl,rfl⟩ zM) ?_;refine Oy (f:=237) (i:=0) (first:=[ptr b3 0]) (cap:=[]) rfl rfl call237 rfl rfl rfl (λW hS hW=>n8d (oP n m j) (λi=>tV n m (64*j+i)) b3 bb o 64 (c-64*j) t fr tT t3 cs zM zM W hW (hS.old A0 yO zX qf) (λi hi=>by rw[EI n m _ zM,<-hm _ zM];exact congrArg (λk=>cs[k]?) (by have:=ho zM;omega)) zM (hS.old A0 hg zX qf) zM) ?_;refine B 5 ?_;refine rv rfl rfl rfl (il (l:=64) (h:=n-64*j) underlying64 sizeOf5 rfl ⟨_,_,rfl,rfl⟩ rfl zM zM rfl) ?_;refine B 2 ?_;refine PJ.again (j+1,if c-64*j=64 then o else o+64*1) (by dsimp only;split<;>omega) dL ⟨rfl,rfl,rfl,rfl,by rw[show n-64*(j+1)=n-64*j-64 by omega,show c-64*(j+1)=c-64*j-64 by omega];rfl,trivial⟩ rfl rfl z1
 intro aj;refine B 7 ?_;refine Qz (ln:=64) (cp:=128) underlying64 Qw rfl rfl rfl rfl rfl rfl rfl zM zQ zM ?_;refine yW ?_;intro pD agK agL;refine B 4 ?_;have hmr:∀i,i<n-64*j->cs[o+i]? =some (.int .u8 (m (64*j+i))):=λi hi=>by rw[<-hm _ zM];exact congrArg (λk=>cs[k]?) (by have:=ho zM;omega)
 refine B 3 ?_;refine VN (i:=0) (n:=n-64*j) rfl underlying64 sizeOf5 rfl rfl rfl rfl (λ_=>rfl) zM (Rd.old A0 yO zX qf zM rfl) (by rw[Zj zM,yQ];omega) (nRn _ (nyn (m:=λi=>m (64*j+i)) zM hmr)) ?_;refine B 3 ?_;refine CJ.reH (H':=[(pD,.cells (cf 128 (λi=>if 0<=i/\i<0+(n-64*j)then .int .u8 (m (64*j+i))else .int .u8 0)) 5 (0,0)),(b3,.cells (oP n m j).cells 336 (0,0)),(b2,.cells #[.int .u8 0,.int .u8 0,.int .u8 0,.int .u8 0,.int .u8 0,.int .u8 0,.int .u8 0,.int .u8 0,.int .u8 0,.int .u8 0,.int .u8 0,.int .u8 0,.int .u8 0,.int .u8 0,.int .u8 0,.int .u8 0,.int .u8 0,.int .u8 0,.int .u8 0,.int .u8 0,.int .u8 0,.int .u8 0,.int .u8 0,.int .u8 0,.int .u8 0,.int .u8 0,.int .u8 0,.int .u8 0,.int .u8 0,.int .u8 0,.int .u8 0,.int .u8 0] 34 (0,0))]) (by rw[<-Zj (cs:=cs) (o:=o) (r:=n-64*j) zM,<-yR 128 (λi=>.int .u8 (m (64*j+i))) _ _ 0 (by intro i hi;rw[i6];exact nyn (m:=λi=>m (64*j+i)) zM hmr i hi),Zj zM];rfl) ?_;refine B 4 ?_;refine rq (ptr pD (n-64*j)) (cx underlying64 sizeOf5 rfl rfl zM zM) (congrArg (ptr pD) zM) ?_;refine kS (i:=0) rfl sizeOf5 rfl rfl rfl rfl (by rw[yQ];omega) rfl ?_;refine B 10 ?_;refine aK ?_ ?_
 ·intro aN;refine B 2 ?_;refine rv rfl rfl rfl (gq (h:=128) underlying64 sizeOf5 rfl ⟨_,_,rfl,rfl⟩ zM) ?_;refine B 4 ?_;obtain⟨N,hN,hNN⟩:∃N,N=128/\64*(eF n-j)=N:=⟨128,rfl,by unfold eF;omega⟩;refine B 5 ?_;refine rv rfl rfl rfl (il (l:=120) (h:=128) (off':=120) underlying64 sizeOf5 rfl ⟨_,_,rfl,rfl⟩ rfl zM zM rfl) ?_;refine B 3 ?_;refine z8f ?_;refine OJ.reH (H':=[(pD,.cells (cf 128 (mK n m j N)) 5 (0,0)),(b3,.cells (oP n m j).cells 336 (0,0)),(b2,.cells #[.int .u8 0,.int .u8 0,.int .u8 0,.int .u8 0,.int .u8 0,.int .u8 0,.int .u8 0,.int .u8 0,.int .u8 0,.int .u8 0,.int .u8 0,.int .u8 0,.int .u8 0,.int .u8 0,.int .u8 0,.int .u8 0,.int .u8 0,.int .u8 0,.int .u8 0,.int .u8 0,.int .u8 0,.int .u8 0,.int .u8 0,.int .u8 0,.int .u8 0,.int .u8 0,.int .u8 0,.int .u8 0,.int .u8 0,.int .u8 0,.int .u8 0,.int .u8 0] 34 (0,0))]) (by subst hN;rw[<-n7k];rfl) ?_;refine B 4 ?_;refine CJ.loop (α:=Nat×Nat) (λp=>[(2,ptr b2 0),(3,ptr b3 0),(4,.func (.func 237) #[ptr b3 0] #[]),(6,.slice (some ⟨pD,p.2,none⟩) (N-64*p.1) (128-64*p.1))]) (λp=>[(pD,.cells (cf 128 (mK n m j N)) 5 (0,0)),(b3,.cells (oP n m (j+p.1)).cells 336 (0,0)),(b2,.cells #[.int .u8 0,.int .u8 0,.int .u8 0,.int .u8 0,.int .u8 0,.int .u8 0,.int .u8 0,.int .u8 0,.int .u8 0,.int .u8 0,.int .u8 0,.int .u8 0,.int .u8 0,.int .u8 0,.int .u8 0,.int .u8 0,.int .u8 0,.int .u8 0,.int .u8 0,.int .u8 0,.int .u8 0,.int .u8 0,.int .u8 0,.int .u8 0,.int .u8 0,.int .u8 0,.int .u8 0,.int .u8 0,.int .u8 0,.int .u8 0,.int .u8 0,.int .u8 0] 34 (0,0))]) (λp=>[w]) (λp=>Gh.no) (λp=>64*p.1<=N/\(64*p.1<128->p.2=64*p.1)) (λp=>N-64*p.1) (0,0) dL ⟨rfl,rfl,rfl,by subst hN;rfl,trivial⟩ rfl rfl z1 ?_
  rintro⟨k,o2⟩ ⟨hk,cX⟩;dsimp only at hk cX ⊢;refine B 8 ?_;refine aK ?_ ?_
  ·intro cN;exact zIj
  intro cN;refine B 13 ?_;have Zl:j+k=eF n:=by unfold eF at *;omega
  rw[Zl];refine zIf ?_;rintro i hi;refine B 6 ?_;refine aK ?_ ?_
  ·intro gf;exact zok
  intro gf;exact zVj
 intro aN;refine B 3 ?_;obtain⟨N,hN,hNN⟩:∃N,N=64/\64*(eF n-j)=N:=⟨64,rfl,by unfold eF;omega⟩;refine B 5 ?_;refine rv rfl rfl rfl (il (l:=56) (h:=64) (off':=56) underlying64 sizeOf5 rfl ⟨_,_,rfl,rfl⟩ rfl zM zM rfl) ?_;refine B 3 ?_;refine z8f ?_;refine OJ.reH (H':=[(pD,.cells (cf 128 (mK n m j N)) 5 (0,0)),(b3,.cells (oP n m j).cells 336 (0,0)),(b2,.cells #[.int .u8 0,.int .u8 0,.int .u8 0,.int .u8 0,.int .u8 0,.int .u8 0,.int .u8 0,.int .u8 0,.int .u8 0,.int .u8 0,.int .u8 0,.int .u8 0,.int .u8 0,.int .u8 0,.int .u8 0,.int .u8 0,.int .u8 0,.int .u8 0,.int .u8 0,.int .u8 0,.int .u8 0,.int .u8 0,.int .u8 0,.int .u8 0,.int .u8 0,.int .u8 0,.int .u8 0,.int .u8 0,.int .u8 0,.int .u8 0,.int .u8 0,.int .u8 0] 34 (0,0))]) (by subst hN;rw[<-n7k];rfl) ?_;refine B 4 ?_;refine CJ.loop (α:=Nat×Nat) (λp=>[(2,ptr b2 0),(3,ptr b3 0),(4,.func (.func 237) #[ptr b3 0] #[]),(6,.slice (some ⟨pD,p.2,none⟩) (N-64*p.1) (128-64*p.1))]) (λp=>[(pD,.cells (cf 128 (mK n m j N)) 5 (0,0)),(b3,.cells (oP n m (j+p.1)).cells 336 (0,0)),(b2,.cells #[.int .u8 0,.int .u8 0,.int .u8 0,.int .u8 0,.int .u8 0,.int .u8 0,.int .u8 0,.int .u8 0,.int .u8 0,.int .u8 0,.int .u8 0,.int .u8 0,.int .u8 0,.int .u8 0,.int .u8 0,.int .u8 0,.int .u8 0,.int .u8 0,.int .u8 0,.int .u8 0,.int .u8 0,.int .u8 0,.int .u8 0,.int .u8 0,.int .u8 0,.int .u8 0,.int .u8 0,.int .u8 0,.int .u8 0,.int .u8 0,.int .u8 0,.int .u8 0] 34 (0,0))]) (λp=>[w]) (λp=>Gh.no) (λp=>64*p.1<=N/\(64*p.1<128->p.2=64*p.1)) (λp=>N-64*p.1) (0,0) dL ⟨rfl,rfl,rfl,by subst hN;rfl,trivial⟩ rfl rfl z1 ?_
 rintro⟨k,o2⟩ ⟨hk,cX⟩;dsimp only at hk cX ⊢;refine B 8 ?_;refine aK ?_ ?_
 ·intro gM;exact zIj
 intro gM;refine B 13 ?_;have Zl:j+k=eF n:=by unfold eF at *;omega
 rw[Zl];refine zIf ?_;rintro i hi;refine B 6 ?_;refine aK ?_ ?_
 ·intro jE;exact zok
 intro jE;exact zVj
theorem yU(n:Nat)(h0:0<n)(h1:n<=1099511627776)(w:World):Calls prog 239 #[.slice none 0 0,.int .i64 (n:Int)] w (cu w (λp:Nat×Nat=>.slice (some ⟨p.1,0,none⟩) 0 p.2) (λp w1=>w.heap.size<=p.1/\n<=p.2/\w1.heap[p.1]? =some (.cells (cf p.2 (λ_=>.int .u8 0)) 5 (0,0)))):=by
 refine enter (vs:=[_,_]) func239 rfl ntmps239 rfl ?_;refine B 9 ?_;refine tW ?_;refine B 14 ?_;refine rq (.int .i64 (n:Int)) (gT rfl rfl zM zM) (vi zM) ?_;refine B 6 ?_;refine OF ?_;refine B 7 ?_;refine rv rfl rfl rfl (QA underlying64 sizeOf5 rfl ⟨_,_,rfl,rfl⟩) ?_;refine B 1 ?_;refine Zm underlying64 underlying3 Qw rfl rfl rfl rfl rfl rfl rfl rfl h0 h1 ?_;intro b22 cap QB agM agN;replace QB:=yb QB;refine B 2 ?_;refine rv rfl rfl rfl (gq (h:=0) underlying64 sizeOf5 rfl ⟨_,_,rfl,rfl⟩ zM) ?_;refine B 10 ?_;exact bH (.inl rfl) results239 (RS.t rfl RS.n) (λW hS=>⟨(b22,cap),rfl,hS.base A0 wx,by omega,by omega,hS.own _ A0⟩)
def Zn (ss:List qZ):Array Value:=(ss.map qZ.val).toArray
theorem nTi(ss:List qZ)(j k:Nat)(h:k=j)(hj:j<ss.length):(Zn ss)[k]? =some ss[j].val:=by subst h;simp[Zn,hj]
theorem ntl(ss:List qZ)(b0 c0 t0:Nat)(fp:Nat×Nat)(hk:ss.length<1000)(h0:0<(nP ss).length)(h1:(nP ss).length<=1099511627776)(w:World)(mq:w.heap[b0]? =some (.cells (Zn ss) t0 fp))(hss:∀s∈ss,s.At w):Calls prog 171 #[.slice (some ⟨b0,0,none⟩) ss.length c0] w (cu w (λp:Nat×Nat×List Value=>.slice (some ⟨p.1,0,none⟩) (nP ss).length p.2.1) (λp w1=>w.heap.size<=p.1/\((nP ss).length<=p.2.1/\p.2.2.length=p.2.1-(nP ss).length)/\w1.heap[p.1]? =some (.cells (nP ss++p.2.2).toArray 5 (0,0)))):=by
 have agO:=(aM.1 mq).1;refine enter (vs:=[_]) func171 rfl ntmps171 rfl ?_;refine B 19 ?_;refine CJ.loop (α:=Nat) (λj=>[(0,.slice (some ⟨b0,0,none⟩) ss.length c0),(3,.int .i64 (((nP (ss.take j)).length:Nat):Int)),(9,.slice (some ⟨b0,0,none⟩) ss.length c0),(10,.int .i64 (ss.length:Int)),(11,.int .i64 (j:Int))]) (λj=>[]) (λj=>[w]) (λj=>Gh.no) (λj=>j<=ss.length) (λj=>ss.length-j) 0 (cZ _) zR rfl rfl z1 ?_;rintro j hj;have mr:=ntg ss (j+1);have Kp:∀h:j<ss.length,(nP (ss.take (j+1))).length=(nP (ss.take j)).length+(ss[j]).n:=λh=>by rw[Zo ss j h,cF];exact congrArg (_+ ·) (wy _ _)
 refine B 6 ?_;refine aK ?_ ?_
 ·intro aj;refine B 5 ?_;have Dn:j<ss.length:=by omega
  have Zp:=Kp Dn;refine B 2 ?_;refine rv rfl rfl rfl (aa (v:=(ss[j]'zM).val) isAgg64 rfl A0 mq zX trivial (nTi ss j _ zM zM)) ?_;refine B 8 ?_;refine rq (.int .i64 (((nP (ss.take (j+1))).length:Nat):Int)) (ql rfl rfl zM zM) (vi zM) ?_;refine B 6 ?_;refine tW ?_;refine B 10 ?_;exact Ez
 intro aj;refine B 6 ?_;have e:j=ss.length:=by omega
 subst e;rw[iZ (ao _)];refine B 2 ?_;refine VO (bo:=λp:Nat×Nat=>(p.1,.cells (cf p.2 (λ_=>.int .u8 0)) 5 (0,0))) (Φ:=λp=>(nP ss).length<=p.2) call239 rfl rfl rfl (λW hS=>yU _ h0 h1 W) ?_;rintro⟨bg,cg⟩ hag hog dD;simp only[ad]at hag dD;refine B 12 ?_;refine CJ.loop (α:=Nat×Nat×Nat×List Value) (λp=>[(6,.slice (some ⟨p.2.1,0,none⟩) (nP (ss.take p.1)).length p.2.2.1),(25,.slice (some ⟨b0,0,none⟩) ss.length c0),(26,.int .i64 (ss.length:Int)),(27,.int .i64 (p.1:Int))]) (λp=>[(p.2.1,.cells (nP (ss.take p.1)++p.2.2.2).toArray 5 (0,0))]) (λp=>[w]) (λp=>Gh.no) (λp=>p.1<=ss.length/\w.heap.size<=p.2.1/\(nP (ss.take p.1)).length<=p.2.2.1/\p.2.2.2.length=p.2.2.1-(nP (ss.take p.1)).length) (λp=>ss.length-p.1) (0,bg,cg,(List.range cg).map (λ_=>.int .u8 0)) ⟨cZ _,hag.1,cZ _,by simp[nP]⟩ zR rfl rfl z1 ?_;rintro⟨j,b,cap,sp⟩ ⟨hj,h2,h3,h4⟩;dsimp only at hj h2 h3 h4 ⊢;have mr:=ntg ss (j+1);have Kp:∀h:j<ss.length,(nP (ss.take (j+1))).length=(nP (ss.take j)).length+(ss[j]).n:=λh=>by rw[Zo ss j h,cF];exact congrArg (_+ ·) (wy _ _)
 refine B 6 ?_;refine aK ?_ ?_
 ·intro aN;refine B 5 ?_;have Dn:j<ss.length:=by omega
  have Zp:=Kp Dn;refine B 2 ?_;refine rv rfl rfl rfl (aa (v:=(ss[j]'zM).val) isAgg64 rfl A0 mq zX qf (nTi ss j _ zM zM)) ?_;refine B 3 ?_;obtain⟨csj,tj,frj,OG,hso,Dp⟩:=hss (ss[j]'zM) (Qm _);have agP:=(aM.1 OG).1;refine B 3 ?_;refine QC (i:=0) (m:=1) (ys:=nP (ss.take j)) (sp:=sp) (news:=(ss[j]'zM).l) (n:=(ss[j]'zM).n) rfl underlying64 Qw rfl rfl rfl rfl rfl rfl rfl (jJ.sl underlying64 (Rd.old A0 OG zX qf zM (Zq zM Dp)) (by rw[tX];exact wy _ _) (yY _ _)) zM zM h3 ⟨h2,trivial⟩ zM (by show _*1<=_;omega) ?_;intro b' aT bK QD QE ki;simp only[ad]at QD;refine B 8 ?_;refine PJ.reH (H':=[(b',.cells (nP (ss.take (j+1))++bK).toArray 5 (0,0))]) (by rw[Zo ss j zM];rfl) ?_;refine PJ.again (j+1,b',aT,bK) ⟨by dsimp only;omega,QD.1,by dsimp only;rw[Kp zM];exact QE,by dsimp only;rw[Kp zM];omega⟩ dL ⟨by rw[Kp zM];rfl,rfl,rfl,rfl,trivial⟩ rfl rfl z1
 intro aN;refine B 12 ?_;have e:j=ss.length:=by omega
 subst e;rw[iZ (ao _)]at h3 h4 ⊢;exact bH (.inl rfl) results171 (RS.t rfl RS.n) (λW hS=>⟨(b,cap,sp),rfl,hS.base A0 wx,h2,⟨h3,h4⟩,hS.own _ A0⟩)
def wz (n:Nat) (m m':Nat->Int) (i:Nat):Int:=if i<n then m i else m' (i-n)
theorem nxo(n n':Nat)(m m':Nat->Int):ji n m++ji n' m'=ji (n+n') (wz n m m'):=by
 apply vg;intro i;by_cases h:i<n
 ·rw[xP (by rw[wy];exact h)];simp[ji,h,show i<n+n' by omega,wz]
 rw[Dq (by rw[wy];omega),wy];by_cases h2:i<n+n'
 ·simp[ji,h2,show i-n<n' by omega,wz,h]
 rw[tY (by rw[wy];omega),tY (by rw[wy];omega)]
theorem EJ(n:Nat)(m:Nat->Int)(sp:List Value)(i:Nat)(h:i<n):((ji n m++sp).toArray)[0+i]? =some (.int .u8 (m i)):=by
 rw[i6,Dr,xP (by rw[wy];exact h)];simp[ji,h]
def tagged (s:ByteArray) (n:Nat) (m:Nat->Int):Nat->Int:=s4 (32+n) (wz 32 (s4 s.size (sB s)) m)
theorem nsg(s:ByteArray)(n:Nat)(m:Nat->Int)(bb off c t t2 t3:Nat)(fr qj tT:Nat×Nat)(cs:Array Value)(hs0:s.size<1000)(hc:n<=c)(hn:n<1000000000000)(w:World)(yO:w.heap[bb]? =some (.cells cs t fr))(mL:off+n<=cs.size)(hm:∀i,i<n->cs[off+i]? =some (.int .u8 (m i)))(sZ:w.heap[0]? =some (.cells S8.init.cells t2 qj))(hg:w.heap[4]? =some (.cells (cf 64 (λi=>u32 (kk i))) t3 tT)):Calls prog 108 #[.string s,.slice (some ⟨bb,off,none⟩) n c] w (av w (.agg (dg (tagged s n m)))):=by
 have Qu:=(aM.1 yO).1;have Zk:=(aM.1 sZ).1;have Qv:=(aM.1 hg).1;refine enter (vs:=[_,_]) func108 rfl ntmps108 rfl ?_;refine B 2 ?_;refine rG ?_;refine yW ?_;intro b4 dQ dV;refine B 5 ?_;refine QF underlying9 underlying64 underlying5 rfl rfl rfl ?_;intro b7 Zr w7 cs7 fr7 VP gg ow VQ Zs jx Zt hs7;replace gg:=yb gg;try simp only[bE,ne_eq]at ow
 refine call call170 rfl rfl rfl (λW hS=>nwi s.size (sB s) b7 0 Zr _ _ _ _ _ _ cs7 zM zM W (hS.old A0 VP VQ qf) zM hs7 (hS.old A1 sZ zX qf) (hS.old A1 hg zX qf)) ?_;refine rG ?_;refine yW ?_;intro b5 gQ gR;refine OH ?_;refine B 3 ?_;have aJ:(nP [⟨b5,0,32,32,s4 s.size (sB s)⟩,⟨bb,off,n,c,m⟩]).length=32+n:=by simp[nP,qZ.l,wy]
 have QG:∀W,W.heap[b5]? =some (.cells (dg (s4 s.size (sB s))) 34 (0,0))->W.heap[bb]? =some (.cells cs t fr)->∀x∈([⟨b5,0,32,32,s4 s.size (sB s)⟩,⟨bb,off,n,c,m⟩]:List qZ),x.At W:=λW h1 h2 x hx=>by
  simp only[cP,fG,or_false]at hx;rcases hx with rfl|rfl
  ·exact⟨_,_,_,h1,ao 32,λi hi=>by rw[i6];exact pC _ i hi⟩
  exact⟨_,_,_,h2,mL,hm⟩
 refine B 1 ?_;refine QH ?_;refine B 1 ?_;refine EK underlying339 sizeOf64 zeroValue64 rfl rfl rfl rfl rfl rfl rfl ?_;refine yV ?_;intro s9 VR Zu Zv agQ Kq Kr;refine VO (bo:=λp:Nat×Nat×List Value=>(p.1,.cells (nP [⟨b5,0,32,32,s4 s.size (sB s)⟩,⟨bb,off,n,c,m⟩]++p.2.2).toArray 5 (0,0))) (Φ:=λp=>(nP [⟨b5,0,32,32,s4 s.size (sB s)⟩,⟨bb,off,n,c,m⟩]).length<=p.2.1/\p.2.2.length=p.2.1-(nP [⟨b5,0,32,32,s4 s.size (sB s)⟩,⟨bb,off,n,c,m⟩]).length) call171 rfl rfl rfl (λW hS=>ntl [⟨b5,0,32,32,s4 s.size (sB s)⟩,⟨bb,off,n,c,m⟩] s9 2 _ _ z1 (by rw[aJ];omega) (by rw[aJ];omega) W (hS.old A0 Zu Zv qf) (QG W (hS.own _ A0) (hS.old A2 yO zX qf))) ?_;rintro⟨bc,cc,spc⟩ hac hoc ⟨hcc,QI⟩;replace hac:=yb hac;dsimp only at hcc QI;rw[aJ]at hcc QI;refine OJ.re (v':=.slice (some ⟨bc,0,none⟩) (32+n) cc) (by show Value.slice _ (nP _).length _=_;rw[aJ]) ?_;refine OJ.reH (H':=[(bc,.cells (ji (32+n) (wz 32 (s4 s.size (sB s)) m)++spc).toArray 5 (0,0)),(b5,.cells (dg (s4 s.size (sB s))) 34 (0,0)),(b4,.cells #[.int .u8 0,.int .u8 0,.int .u8 0,.int .u8 0,.int .u8 0,.int .u8 0,.int .u8 0,.int .u8 0,.int .u8 0,.int .u8 0,.int .u8 0,.int .u8 0,.int .u8 0,.int .u8 0,.int .u8 0,.int .u8 0,.int .u8 0,.int .u8 0,.int .u8 0,.int .u8 0,.int .u8 0,.int .u8 0,.int .u8 0,.int .u8 0,.int .u8 0,.int .u8 0,.int .u8 0,.int .u8 0,.int .u8 0,.int .u8 0,.int .u8 0,.int .u8 0] 34 (0,0))]) (by rw[<-nxo];simp only[nP,qZ.l,dE];rfl) ?_
 refine call call170 rfl rfl rfl (λW hS=>nwi (32+n) (wz 32 (s4 s.size (sB s)) m) bc 0 cc _ _ _ _ _ _ _ zM zM W (hS.own _ A0) (by simp only[rH,cF,wy];omega) (λi hi=>EJ _ _ _ i hi) (hS.old A2 sZ zX qf) (hS.old A2 hg zX qf)) ?_;refine aZ (i:=2) rfl sizeOf34 rfl rfl rfl rfl rfl rfl ?_;refine B 3 ?_;refine bJ (.inl rfl) results108 (RS.wA (i:=2) rfl isAgg34 sizeOf34 rfl (aV rfl) (RS.n)) A2 zS ?_;rfl
def yZ (s:ByteArray) (n:Nat) (m:Nat->Int):Int:=1+Dj 2305843009213688668 (qY (tagged s n m)) 0
theorem nsi(s:ByteArray)(n:Nat)(m:Nat->Int):jh (tagged s n m):=EL _ _
theorem nRk(s:ByteArray)(n:Nat)(m:Nat->Int)(bb off c t t2 t3:Nat)(fr qj tT:Nat×Nat)(cs:Array Value)(hs0:s.size<1000)(hc:n<=c)(hn:n<1000000000000)(w:World)(yO:w.heap[bb]? =some (.cells cs t fr))(mL:off+n<=cs.size)(hm:∀i,i<n->cs[off+i]? =some (.int .u8 (m i)))(sZ:w.heap[0]? =some (.cells S8.init.cells t2 qj))(hg:w.heap[4]? =some (.cells (cf 64 (λi=>u32 (kk i))) t3 tT)):Calls prog 110 #[.string s,.slice (some ⟨bb,off,none⟩) n c] w (av w (.int .i64 (yZ s n m))):=by
 have hB:=nsi s n m;have Kg:=Y7 2305843009213688668 zQ (qY (tagged s n m)) 0 zQ zQ;refine enter (vs:=[_,_]) func110 rfl ntmps110 rfl ?_;refine B 9 ?_;refine call call108 rfl rfl rfl (λW hS=>nsg s n m bb off c _ _ _ _ _ _ cs hs0 hc hn W (hS.old A0 yO zX trivial) mL hm (hS.old A0 sZ zX trivial) (hS.old A0 hg zX trivial)) ?_;refine call call174 rfl rfl rfl (λW hS=>nro _ hB _ zQ zQ W) ?_;refine B 6 ?_;refine ax results110 rfl A0 ?_;rfl




theorem bt:vh prog 64 5:=⟨underlying64,underlying5,⟨_,Qw,rfl,rfl,rfl⟩,sizeOf5⟩
theorem Ks(n:Int)(h1: -9223372036854775808<=n)(h2:n<=9223372036854775807):IntKind.u64.wrap (BitVec.ofInt 64 (IntKind.u64.wrap (IntKind.u64.wrap n*2))^^^BitVec.ofInt 64 (IntKind.u64.wrap (n/9223372036854775808))).toNat=(EM n:Int):=by
 simp only[nD];unfold EM;by_cases h:0<=n
 ·rw[if_pos h,show n/9223372036854775808=0 by omega];have:(0:Int)%18446744073709551616=0:=by decide
  rw[this,show n%18446744073709551616*2%18446744073709551616=2*n by omega];have e:BitVec.ofInt 64 0=0#64:=rfl;rw[e,BitVec.xor_zero,BitVec.toNat_ofInt];omega
 rw[if_neg h,show n/9223372036854775808= -1 by omega];have:(-1:Int)%18446744073709551616=18446744073709551615:=by decide
 rw[this,show n%18446744073709551616*2%18446744073709551616=2*n+18446744073709551616 by omega];have e:BitVec.ofInt 64 18446744073709551615=BitVec.allOnes 64:=by decide
 rw[e,BitVec.xor_allOnes,BitVec.toNat_not,BitVec.toNat_ofInt];omega
theorem y4(n:Int)(h1: -9223372036854775808<=n)(h2:n<=9223372036854775807):EM n<18446744073709551616:=by unfold EM;split<;>omega
theorem QJ(u:Nat):IntKind.u8.wrap (BitVec.ofInt IntKind.u8.bits ((u:Int)%256)|||BitVec.ofInt IntKind.u8.bits 128).toNat=((UInt8.ofNat (u%128+128)).toNat:Int):=by
 have key:∀v:BitVec 8,(v|||128#8).toNat=(v.toNat%128+128):=by decide
 have e:BitVec.ofInt IntKind.u8.bits 128=128#8:=rfl;rw[e];have e2:(BitVec.ofInt 8 ((u:Int)%256)).toNat=u%256:=by rw[BitVec.toNat_ofInt];omega
 have:=key (BitVec.ofInt 8 ((u:Int)%256));rw[e2]at this;show IntKind.u8.wrap (BitVec.ofInt 8 ((u:Int)%256)|||128#8).toNat=_;rw[this,nOl];simp only[UInt8.toNat_ofNat'];omega
theorem EN(u:Nat)(h:u<256):((u:Int)%256)=((UInt8.ofNat u).toNat:Int):=by
 simp only[UInt8.toNat_ofNat'];omega
theorem nBj(n:Int)(h1: -9223372036854775808<=n)(h2:n<=9223372036854775807)(w:World):Calls prog 234 #[.int .i64 n] w (av w (.int .u64 (EM n:Int))):=by
 refine enter (vs:=[_]) func234 rfl ntmps234 rfl ?_;refine B 8 ?_;refine rv rfl rfl rfl (iI underlying3 underlying202 rfl) ?_;refine rv rfl rfl rfl (yH 1 2 zQ rfl rfl rfl) ?_;refine B 1 ?_;refine rv rfl rfl rfl (gp 63 9223372036854775808 zQ rfl rfl rfl) ?_;refine rv rfl rfl rfl (iI underlying3 underlying202 rfl) ?_;refine rv rfl rfl rfl (tZ rfl rfl) ?_;refine B 4 ?_;refine ax results234 rfl A0 ?_;exact vu (Ks n h1 h2)
theorem VS(xs:List UInt8)(u:Nat)(hu:u<18446744073709551616)(b cap:Nat)(sp:List Value)(qm:cJ xs cap sp)(gU:xs.length<=900000000000)(w:World)(hb:w.heap[b]? =some (bh 5 xs sp)):Calls prog 233 #[bA b xs.length cap,.int .u64 (u:Int)] w (Kt w b 5 (xs++num u)):=by
 have jH:=(aM.1 hb).1;have agR:=Dt hu;refine nN (vs:=[_,_]) (Gh.lent (· =b)) [(b,bh 5 xs sp)] func233 rfl ntmps233 rfl (y6 hb) ?_;refine B 7 ?_;refine CJ.loop (α:=List UInt8×Nat×Nat×Nat×List Value) (λp=>[(0,bA p.2.2.1 p.1.length p.2.2.2.1),(1,.int .u64 (p.2.1:Int))]) (λp=>[(p.2.2.1,bh 5 p.1 p.2.2.2.2)]) (λp=>[w]) (λp=>Gh.lent (· =b)) (λp=>xs++num u=p.1++num p.2.1/\p.2.1<18446744073709551616/\Fr (Gh.lent (· =b)) [w] p.2.2.1/\cJ p.1 p.2.2.2.1 p.2.2.2.2) (λp=>p.2.1) (xs,u,b,cap,sp) ⟨rfl,hu,.inl rfl,qm⟩ ⟨rfl,rfl,trivial⟩ rfl rfl z1 ?_;rintro⟨ys,v,b1,c1,VT⟩ ⟨hinv,hv,hf,hr⟩;dsimp only at hinv hv hf hr ⊢;have ua:(ys++num v).length<=900000000010:=by rw[<-hinv,cF];omega
 have oQ:=EO v;rw[cF]at ua;refine B 7 ?_;refine aK ?_ ?_
 ·intro aj;refine B 7 ?_;refine rv rfl rfl rfl (mJ underlying202 underlying5 rfl) ?_;refine rq (.int .u8 ((UInt8.ofNat (v%128+128)).toNat:Int)) (u6 rfl rfl) (congrArg (Value.int .u8) (QJ v)) ?_;refine OI [UInt8.ofNat (v%128+128)] bt zeroValue5 rfl rfl rfl rfl rfl rfl rfl rfl rfl ?_;intro b13 EP Ku agS agT;replace EP:=yb EP;replace Ku:=ye Ku;refine It (i:=1) (xs:=ys) (zs:=[UInt8.ofNat (v%128+128)]) (sp:=VT) rfl bt rfl rfl rfl rfl (iw.own (i:=0) underlying64 rfl) hr hf xQ ?_;intro b14 c14 s14 QK Zw;have QL:=QK;replace QL:=yf QL;refine OJ.dropF (i:=0) rfl (.inr ⟨EP.1,trivial⟩) ?_;refine B 6 ?_;refine rq (.int .u64 ((v/128:Nat):Int)) (gp 7 128 zQ rfl rfl rfl) (vu zM) ?_;refine B 2 ?_;refine PJ.again (ys++[UInt8.ofNat (v%128+128)],v/128,b14,c14,s14) ⟨by dsimp only;rw[hinv,Zx zM,i7];rfl,by dsimp only;omega,QK,Zw⟩ dL ⟨rfl,rfl,trivial⟩ rfl rfl z1
 intro aj;refine B 9 ?_;refine rq (.int .u8 ((UInt8.ofNat v).toNat:Int)) (mJ underlying202 underlying5 rfl) (congrArg (Value.int .u8) (EN v zM)) ?_;refine OI [UInt8.ofNat v] bt zeroValue5 rfl rfl rfl rfl rfl rfl rfl rfl rfl ?_;intro b18 uc ER Zy QM;replace uc:=yb uc;replace ER:=ye ER;refine It (i:=1) (xs:=ys) (zs:=[UInt8.ofNat v]) (sp:=VT) rfl bt rfl rfl rfl rfl (iw.own (i:=0) underlying64 rfl) hr hf xQ ?_;intro b19 c19 s19 QN Zz;have QO:=QN;replace QO:=yf QO;refine OJ.dropF (i:=0) rfl (.inr ⟨uc.1,trivial⟩) ?_;refine B 4 ?_;rw[hinv,QP zM];exact VU (i:=0) (.inl rfl) results233 rfl rfl A0 (by simp only[jz,dz,fj,qo,rJ,and_true];simp only[Fr,Gh.lent,ad]at QN;omega) Zz
variable {C:Cx} {E:Env} {G:Gh} {H:ae} {L:List World} {T:Nat} {x:Operand}
theorem Kv{U:Nat}{y:Operand}(hx:ev E x=some (.string ⟨#[]⟩))(hy:ev E y=some (.string ⟨#[]⟩)):RV C G L H E (.binOp .eql T x y U) (.bool true):=
 RV.re (ud hx hy) (vb z1)
def ES (N:Nat) (w:World) (base:Option Addr) (l:List V):Prop:=∀i (h:i<l.length),∃bl cs t fr,base=some ⟨bl,0,none⟩/\bl<N/\w.heap[bl]? =some (.cells cs t fr)/\4*i+4<=cs.size/\∃a1 a2 p3 n3 c3,cut cs (4*i) 4=#[.int .i64 (l[i]).kind,.int .i64 a1,.string a2,.slice p3 n3 c3]/\ef N w l[i] (.agg #[.int .i64 (l[i]).kind,.int .i64 a1,.string a2,.slice p3 n3 c3])
variable {N:Nat} {v:Value}
theorem ef.list{w:World}{l:List V}(h:ef N w (.list l) v):∃base cap,v=vL base l.length cap/\l.length<=cap/\ES N w base l:=by
 simp only[ef]at h;obtain⟨base,cap,hv,hc,hl⟩:=h;refine⟨base,cap,hv,hc,λi hi=>?_⟩;rcases hl with rfl|⟨b,cs,t,fr,hb,hlt,hcs,hs⟩
 ·simp at hi
 obtain⟨h1,h2⟩:=hs.get i hi;rw[i6]at h1 h2;obtain⟨a1,a2,p3,n3,c3,hsh⟩:=h2.shape;rw[hsh]at h2;exact⟨b,cs,t,fr,hb,hlt,hcs,h1,a1,a2,p3,n3,c3,by injection hsh,h2⟩
def n3k (x:V):Prop:=∀(N:Nat) (w:World) (v:Value),N<=w.heap.size->ef N w x v->x.fine->Calls prog 231 #[v] w (av w (.tuple #[.int .i64 (x.depth:Int),.bool true]))
theorem nZn(n:Int)(w:World):Calls prog 231 #[vI n] w (av w (.tuple #[.int .i64 0,.bool true])):=by
 refine ZA ?_;refine yV ?_;intro b1 w1 aR aY gA eK iH;refine B 13 ?_;refine De ?_;refine B 5 ?_;refine nh (t:=21) rfl (λaj=>?_) (λaj=>?_)
 ·replace aj:=ya aj;refine B 9 ?_;refine nh (t:=30) rfl (λaN=>?_) (λaN=>?_)
  ·replace aN:=ya aN;exact VV
  replace aN:=ya aN;exact VV
 replace aj:=ya aj;refine B 9 ?_;refine nh (t:=30) rfl (λcN=>?_) (λcN=>?_)
 ·replace cN:=ya cN;exact VV
 replace cN:=ya cN;exact VV
theorem nSm(x:ByteArray)(w:World):Calls prog 231 #[vT x] w (av w (.tuple #[.int .i64 0,.bool true])):=by
 refine ZA ?_;refine yV ?_;intro b1 w1 aR aY gA eK iH;refine B 8 ?_;refine rv rfl rfl rfl (ud rfl rfl) ?_;refine B 1 ?_;refine nh (t:=12) rfl (λaj=>?_) (λaj=>?_)
 ·replace aj:=ya aj;refine B 3 ?_;refine De ?_;refine B 3 ?_;refine zIi ?_;exact ZB
 replace aj:=ya aj;refine B 7 ?_;refine zIi ?_;exact ZB
theorem nBm(l:List V)(ih:∀y∈l,n3k y)(bZ:(V.list l).fine)(N:Nat)(base:Option Addr)(cap:Nat)(w:World)(hN:N<=w.heap.size)(pE:ES N w base l):Calls prog 231 #[vL base l.length cap] w (av w (.tuple #[.int .i64 ((V.depthL l+1:Nat):Int),.bool true])):=by
 simp only[V.fine]at bZ;obtain⟨ue,wB,Kx⟩:=bZ;refine ZA ?_;refine yV ?_;intro b1 w1 aR aY gA eK iH;refine B 17 ?_;refine De ?_;refine B 8 ?_;refine De ?_;refine B 6 ?_;refine ZC ?_;refine yW ?_;intro b4 dQ dV;refine z0f ?_;refine B 7 ?_;refine tW ?_;refine B 3 ?_;refine Iu ?_;refine B 18 ?_;refine tW ?_;refine B 15 ?_;refine CJ.dropAt (i:=0) rfl ⟨by omega,by omega,trivial⟩ ?_;refine CJ.loop (α:=Nat) (λi=>[(1,ptr b1 0),(2,.int .i64 ((V.depthL (l.take i):Nat):Int)),(55,.slice base l.length cap),(56,.int .i64 (l.length:Int)),(57,.int .i64 (i:Int))]) (λi=>[]) (λi=>[w1,w]) (λi=>Gh.no) (λi=>i<=l.length/\V.depthL (l.take i)<=1000000000) (λi=>l.length-i) 0 ⟨cZ _,by simp[V.depthL]⟩ zR rfl rfl z1 ?_;rintro i ⟨hi,hdi⟩;refine B 6 ?_;refine aK ?_ ?_
 ·intro aj;refine B 5 ?_;obtain⟨bl,cs,te,fre,rfl,jH,hcs,hcz,a1,a2,p3,n3,c3,rK,tb⟩:=pE i zM;have y7:=(aM.1 hcs).1;obtain⟨y,hy⟩:∃y,l[i]'zM=y:=⟨_,rfl⟩;rw[hy]at rK tb;have ET:y∈l:=hy▸Qm _;refine B 2 ?_;refine rq (.agg #[.int .i64 y.kind,.int .i64 a1,.string a2,.slice p3 n3 c3]) (ag isAgg149 sizeOf149 rfl A1 hcs zX trivial zM) (va (by rw[<-rK];congr 1;omega)) ?_;refine y9 ?_;refine yW ?_;intro b6 gS lB;refine VW ?_;refine B 5 ?_;refine call call231 rfl rfl rfl (λW hS=>ih y ET N W _ (aS hN (hS.links _ A1).size) (ef.up (ao _) (hS.same A1 hN zU (by first|exact True.intro|(simp only[Over,dz,fj,and_true];omega))) _ _ tb) (V.fineL_mem Kx y ET)) ?_;refine B 20 ?_;refine rv rfl rfl rfl (za rfl rfl) ?_;refine B 8 ?_;refine PJ.dropAt (i:=0) rfl ⟨by omega,by omega,trivial⟩ ?_;refine PJ.again (i+1) ⟨by omega,by have h1:=V.depthL_take l i zM;rw[hy]at h1;have h2:=V.depthL_mem y ET;omega⟩ zM ⟨rfl,congrArg some (vi (by rw[V.depthL_take l i zM,hy];omega)),rfl,rfl,rfl,trivial⟩ rfl rfl z1
 intro aj;refine B 14 ?_;refine nT results231 rfl rfl A1 ?_ ?_
 ·have e:i=l.length:=by omega
  subst e;rw[iZ (ao _)];rfl
 rfl
theorem n9o:∀x,n3k x:=by
 refine V.ind ?_ ?_ ?_
 ·intro n N w v _ hv _;simp only[ef]at hv;subst hv;exact nZn n w
 ·intro s N w v _ hv _;simp only[ef]at hv;subst hv;exact nSm s w
 intro l ih N w v hN hv hf;obtain⟨base,cap,rfl,hc,pE⟩:=hv.list;exact nBm l ih hf N base cap w hN pE
theorem nsm(x:V)(n1:Int)(s2:ByteArray)(p3:Option Addr)(n3 c3:Nat)(bZ:x.fine)(hd:x.depth<=16)(N:Nat)(w:World)(hN:N<=w.heap.size)(tb:ef N w x (.agg #[.int .i64 x.kind,.int .i64 n1,.string s2,.slice p3 n3 c3])):Calls prog 168 #[.agg #[.int .i64 x.kind,.int .i64 n1,.string s2,.slice p3 n3 c3]] w (av w (.int .i64 0)):=by
 refine enter (vs:=[_]) func168 rfl ntmps168 rfl ?_;refine B 2 ?_;refine yX ?_;intro b1 w1 aR aY gA eK iH;refine B 5 ?_;refine rv rfl rfl rfl (af isAgg149 sizeOf149 rfl A0 aR aY trivial rfl) ?_;refine call call231 rfl rfl rfl (λW hS=>n9o x N W _ (aS hN (hS.links _ A1).size) (ef.up (ao _) (hS.same A1 hN zU (by first|exact True.intro|(simp only[Over,dz,fj,and_true];omega))) _ _ tb) bZ) ?_;refine B 20 ?_;refine Iu ?_;refine B 13 ?_;refine ax results168 rfl A1 ?_;rfl
def V.fn:V->Nat
 | .int _=>232
 | .text _=>235
 | .list _=>236
def V.cap (bv:Nat):V->List Value
 | .list _=>[ptr bv 0]
 |_=>[]
def EU (bv:Nat):Array Value:=#[.nilFunc,.func (.func 232) #[] #[],.func (.func 235) #[] #[],.func (.func 236) #[] #[ptr bv 0]]
theorem zb(bv:Nat)(x:V)(k:Nat)(hk:(k:Int)=x.kind):(EU bv)[k]? =some (.func (.func x.fn) #[] (x.cap bv).toArray):=by
 cases x<;>simp only[V.kind]at hk
 ·have:k=1:=by omega
  subst this;rfl
 ·have:k=2:=by omega
  subst this;rfl
 have:k=3:=by omega
 subst this;rfl
theorem V.kind_bd(x:V):1<=x.kind/\x.kind<=3:=by cases x<;>simp[V.kind]
structure Wr (N:Nat) (w:World) (bv bw:Nat):Prop where
 ltv:bv<N
 ltw:bw<N
 atv:w.heap[bv]? =some (.cells #[ptr bw 0] 264 (0,0))
 atw:w.heap[bw]? =some (.cells (EU bv) 332 (0,0))
variable {N':Nat} {w':World}
theorem Wr.up{w:World}{bv bw:Nat}(h:Wr N w bv bw)(hN:N<=N')(hw:∀k,k<N->w'.heap[k]? =w.heap[k]?):Wr N' w' bv bw:=
 ⟨by have:=h.ltv;omega,by have:=h.ltw;omega,(hw _ h.ltv).trans h.atv,(hw _ h.ltw).trans h.atw⟩
theorem nSi(w:World):Calls prog 169 #[] w (cu w (λp:Nat×Nat=>ptr p.1 0) (λp w1=>w.heap.size<=p.1/\w.heap.size<=p.2/\w1.heap[p.2]? =some (.cells #[ptr p.1 0] 264 (0,0))/\w1.heap[p.1]? =some (.cells (EU p.2) 332 (0,0)))):=by
 refine enter (vs:=[]) func169 rfl ntmps169 rfl ?_;refine B 8 ?_;refine QQ rfl rfl rfl ?_;refine yW ?_;intro b3 bV cL;refine aU zeroValue264 rfl rfl ?_;refine yW ?_;intro b1 eK iH;refine aZ (i:=0) rfl sizeOf264 rfl rfl rfl rfl rfl rfl ?_;refine B 8 ?_;refine ZD ?_;refine B 8 ?_;refine ZD ?_;refine B 9 ?_;refine ZD ?_;refine B 9 ?_;exact bH (.inl rfl) results169 (RS.t rfl RS.n) (λW hS=>⟨(b3,b1),rfl,hS.base A0 Du,by simp only[ad]at *;omega,by simp only[ad]at *;omega,hS.own (b1,_) A0,hS.own (b3,_) A1⟩)
def ZE (x:V):Prop:=∀(N b cap bv bw:Nat) (xs:List UInt8) (sp:List Value) (w:World) (v:Value),ef N w x v->x.fine->Wr N w bv bw->N<=b->N<=w.heap.size->cJ xs cap sp->xs.length+x.enc.length<=800000000000->w.heap[b]? =some (bh 5 xs sp)->
 Calls prog x.fn (bA b xs.length cap::v::x.cap bv).toArray w (Kt w b 5 (xs++x.enc))
theorem nwo(n:Int)(hn:(V.int n).fine)(xs:List UInt8)(b cap:Nat)(sp:List Value)(qm:cJ xs cap sp)(w:World)(hb:w.heap[b]? =some (bh 5 xs sp))(gU:xs.length+(V.int n).enc.length<=800000000000):Calls prog 232 #[bA b xs.length cap,vI n] w (Kt w b 5 (xs++(V.int n).enc)):=by
 have jH:=(aM.1 hb).1;simp only[V.fine]at hn;simp only[V.enc,dW]at gU;have hz:=y4 n hn.1 hn.2;refine nN (vs:=[_,_]) (Gh.lent (· =b)) [(b,bh 5 xs sp)] func232 rfl ntmps232 rfl (y6 hb) ?_;refine B 2 ?_;refine yX ?_;intro b3 w3 aC ay cS bV cL;refine ZF ?_;refine nJ 5 [1,2] [([],some _),([],none),([0,1],none),([],some _),([3],some _)] (λcv L' H'=>match cv with| []=>L'=[w3,w]/\H'=[(b,bh 5 xs sp)]| [v1]=>∃(b6:Nat),v1=bA b6 ([1]:List UInt8).length 1/\L'=[w3,w]/\H'=[(b6,bh 5 [1] []),(b,bh 5 xs sp)]/\w3.heap.size<=b6/\w.heap.size<=b6| [v1,v2]=>∃(b6:Nat) (b7:Nat) (c7:Nat) (s7:List Value),v1=bA b6 ([1]:List UInt8).length 1/\v2=bA b7 (xs++[1]).length c7/\L'=[w3,w]/\H'=[(b6,bh 5 [1] []),(b7,bh 5 (xs++[1]) s7)]/\w3.heap.size<=b6/\w.heap.size<=b6/\Fr (Gh.lent (· =b)) [w3,w] b7/\(b7=b\/w3.heap.size<=b7/\w.heap.size<=b7)/\cJ (xs++[1]) c7 s7|_=>False) zT ⟨rfl,rfl⟩ zT zT zT zT zT zT (pc zW (pk (pk (pc (by exact λcv L' H' hd hP=>X.val rfl rfl (ak underlying149 rfl sizeOf3 rfl) R2) (pc zch (pn)))))) ?_ ?_
 ·refine sc rfl rfl rfl ?_ ?_
  ·intro cv L' H' hl hP F Q' hk;obtain rfl:=ja hl;obtain⟨rfl,rfl⟩:=hP;refine OI [1] bt zeroValue5 rfl rfl rfl rfl rfl rfl rfl rfl rfl ?_;intro b6 ha ho hx hr;exact OJ.done (hk _ _ _ ⟨b6,rfl,rfl,rfl,ha.1,ha.2.1⟩)
  refine sc rfl rfl rfl ?_ ?_
  ·intro cv L' H' hl hP F Q' hk;obtain⟨v1,rfl⟩:=dd hl;obtain⟨b6,rfl,rfl,rfl,gS,xR⟩:=hP;refine It (i:=1) (xs:=xs) (zs:=[1]) (sp:=sp) rfl bt rfl rfl rfl rfl (iw.own (i:=0) underlying64 rfl) qm (.inl rfl) xQ ?_;exact zqk
  exact sn
 intro cv L' H' hl hP;obtain⟨v1,v2,rfl⟩:=jj hl;obtain⟨b6,b7,c7,s7,rfl,rfl,rfl,rfl,gS,xR,oy,OK,vj⟩:=hP;refine OJ.dropF (i:=0) rfl (.inr ⟨gS,xR,trivial⟩) ?_;refine call call234 rfl rfl rfl (λW hS=>nBj _ zM zM W) ?_;refine OL (i:=0) (ys:=xs++[1]++num (EM n)) (first:=[]) (cap:=[]) rfl rfl call233 rfl rfl rfl oy (λW hS hW=>VS (xs++[1]) (EM n) hz b7 c7 s7 vj xQ W hW) ?_;intro s9 c11 s11 uf ZG;have QR:=uf;replace QR:=yf QR;refine B 4 ?_;have Ky:xs++(V.int n).enc=xs++[1]++num (EM n):=by simp[V.enc]
 rw[Ky];exact VU (i:=0) (.inl rfl) results232 rfl rfl A1 (by simp only[jz,dz,fj,qo,rJ,and_true];simp only[Fr,Gh.lent,ad]at uf;omega) ZG
end Px
