/- Contracts of functions of the program, each walked once. No condition beyond those that each theorem states. -/
import Derived.Test.YtidnomjiienllaaGreatDoorXe
import Derived.Test.YtidnomjiienllaaGreatDoorProg
set_option linter.unusedSimpArgs false
set_option linter.unusedVariables false
set_option linter.unusedSectionVars false
set_option maxRecDepth 20000
set_option maxHeartbeats 8000000
namespace Px
open Go Go.RowKit Go.Proofs Go.Proofs.Tryz
theorem nLh(x y:Int)(hx:0<=x)(hx1:x<18446744073709551616)(hy:0<=y)(hy1:y<18446744073709551616)(w:World):Calls prog 147 #[.int .u64 x,.int .u64 y] w (Ret w (.tuple #[.int .u64 (x*y/18446744073709551616),.int .u64 (x*y%18446744073709551616)])):=by
 have m1:=nFd (a:=x/4294967296) (b:=y/4294967296) (A:=4294967295) (B:=4294967295) zG zG zG zG;have m2:=nFd (a:=x/4294967296) (b:=y%4294967296) (A:=4294967295) (B:=4294967295) zG zG zG zG;have m3:=nFd (a:=x%4294967296) (b:=y%4294967296) (A:=4294967295) (B:=4294967295) zG zG zG zG;have m4:=nFd (a:=x%4294967296) (b:=y/4294967296) (A:=4294967295) (B:=4294967295) zG zG zG zG;refine enter (vs:=[_,_]) func147 rfl ntmps147 rfl ?_;refine B 9 ?_;refine zEg ?_;refine B 6 ?_;refine zvf ?_;refine B 6 ?_;refine zEg ?_;refine B 6 ?_;refine zvf ?_;refine B 7 ?_;refine zsg ?_;refine B 7 ?_;refine zsg ?_;refine B 1 ?_;refine zvf ?_;refine zxf ?_;refine B 6 ?_;refine zEg ?_;refine B 6 ?_;refine zvf ?_;refine B 8 ?_;refine zsg ?_;refine zxf ?_;refine B 7 ?_;refine zsg ?_;refine B 1 ?_;refine zxf ?_;refine B 1 ?_;refine zvf ?_;refine zxf ?_;refine B 7 ?_;refine rv rfl rfl rfl (mulW_r rfl rfl) ?_;refine B 4 ?_;refine nP results147 rfl rfl A0 ?_ ?_
 ·exact congrArg (Value.int .u64) (nyn x y hx hy hx1 hy1)
 rw[ny]
def n0e:ByteArray:=⟨#[0,1,2,2,3,3,3,3,4,4,4,4,4,4,4,4,5,5,5,5,5,5,5,5,5,5,5,5,5,5,5,5,6,6,6,6,6,6,6,6,6,6,6,6,6,6,6,6,6,6,6,6,6,6,6,6,6,6,6,6,6,6,6,6,7,7,7,7,7,7,7,7,7,7,7,7,7,7,7,7,7,7,7,7,7,7,7,7,7,7,7,7,7,7,7,7,7,7,7,7,7,7,7,7,7,7,7,7,7,7,7,7,7,7,7,7,7,7,7,7,7,7,7,7,7,7,7,7,8,8,8,8,8,8,8,8,8,8,8,8,8,8,8,8,8,8,8,8,8,8,8,8,8,8,8,8,8,8,8,8,8,8,8,8,8,8,8,8,8,8,8,8,8,8,8,8,8,8,8,8,8,8,8,8,8,8,8,8,8,8,8,8,8,8,8,8,8,8,8,8,8,8,8,8,8,8,8,8,8,8,8,8,8,8,8,8,8,8,8,8,8,8,8,8,8,8,8,8,8,8,8,8,8,8,8,8,8,8,8,8,8,8,8,8,8,8,8,8,8,8,8,8,8,8,8,8]⟩
theorem nQm(n:Nat)(h:n<256):n0e[n]? =some (UInt8.ofNat (blen n)):=by
 have:∀n:Fin 256,n0e[n.val]? =some (UInt8.ofNat (blen n.val)):=by decide +kernel
 exact this ⟨n,h⟩
theorem len8_re{x:Int}(h0:0<=x)(h:x<256):∃b,n0e[x.toNat]? =some b/\(b.toNat:Int)=nlb x:=by
 refine⟨_,nQm x.toNat zG,?_⟩;have:=nGg x.toNat 8 zG;unfold nlb;simp;omega
variable {aft:Array Edge} {ops:Array Oper} {cs:Array Value} {C:Cx} {E:Env} {G:Gh} {H:Heap} {D:List Deferred} {L:List World} {N N' T:Nat} {x:Operand} {pos:String} {w':World}
theorem idx8_r{y:Operand}{n:Int}(hU:C.P.underlying T=some .string)(hx:ev E x=some (.string n0e))(hy:ev E y=some (.int .u8 n))(h0:0<=n)(h1:n<256):RV C G L H E (.index T x y) (.int .u8 (nlb n)):=by
 obtain⟨b,hb,he⟩:=len8_re h0 h1;exact he▸idxStr_r hU hx hy h0 hb
theorem nh(x:Int)(q:Int)(k:Nat)(hq:(2:Int)^k=q)(h:q<=x):nlb x=nlb (x/q)+k:=by
 subst hq;exact nLl k h
theorem blen_8(x:Int)(h0:0<=x)(h:x<256):0<=nlb x/\nlb x<=8:=by
 have:=nIk (x:=x) 8 h0 z2b;simpa using this
theorem idx8{Q:Post}{l:List Oper}{d ty:Nat}{g:Option (Nat×Bool)}{y:Operand}{n:Int}(hU:C.P.underlying T=some .string)(hx:ev E x=some (.string n0e))(hw:nm ops E g=some true)(hN:Nat.blt d C.N=true)(hy:ev E y=some (.int .u8 n))(h0:0<=n)(h1:n<256)(k:0<=nlb n->nlb n<=8->OJ C ops Q l ((d,.int .u8 (nlb n))::E) D G L H):OJ C ops Q (⟨some d,.index T x y,ty,pos,aft,g⟩::l) E D G L H:=
 rv rfl hw hN (idx8_r hU hx hy h0 h1) (k (blen_8 n h0 h1).1 (blen_8 n h0 h1).2)
theorem nhf(x:Int)(hx:0<=x)(hx1:x<18446744073709551616)(w:World):Calls prog 232 #[.int .u64 x] w (Ret w (.int .i64 (nlb x))):=by
 refine enter (vs:=[_]) func232 rfl ntmps232 rfl ?_;refine B 12 ?_;refine zCD ?_ ?_
 ·intro hc1;refine B 3 ?_;refine zvf ?_;refine B 14 ?_;refine zCD ?_ ?_
  ·intro hc2;refine B 3 ?_;refine rv rfl rfl rfl (shrC_r 16 65536 zI rfl rfl rfl) ?_;refine B 16 ?_;refine zCD ?_ ?_
   ·intro hc3;refine ztg ?_;refine idx8 underlying9 zM rfl rfl rfl zG zG (λhl0 hl8=>?_);refine zoh ?_
    (refine congrArg (Value.int .i64) ?_;(try simp only[nh x 4294967296 32 zI,nh (x/4294967296) 65536 16 zI,nh (x/4294967296/65536) 256 8 zI,nh (x/4294967296) 256 8 zI,nh x 65536 16 zI,nh (x/65536) 256 8 zI,nh x 256 8 zI, *]);omega)
   intro hc3;refine B 6 ?_;refine zNe ?_;refine idx8 underlying9 zM rfl rfl rfl zG zG (λhl0 hl8=>?_);refine zoh ?_
   (refine congrArg (Value.int .i64) ?_;(try simp only[nh x 4294967296 32 zI,nh (x/4294967296) 65536 16 zI,nh (x/4294967296/65536) 256 8 zI,nh (x/4294967296) 256 8 zI,nh x 65536 16 zI,nh (x/65536) 256 8 zI,nh x 256 8 zI, *]);omega)
  intro hc2;refine B 9 ?_;refine zCD ?_ ?_
  ·intro hc4;refine ztg ?_;refine idx8 underlying9 zM rfl rfl rfl zG zG (λhl0 hl8=>?_);refine zoh ?_
   (refine congrArg (Value.int .i64) ?_;(try simp only[nh x 4294967296 32 zI,nh (x/4294967296) 65536 16 zI,nh (x/4294967296/65536) 256 8 zI,nh (x/4294967296) 256 8 zI,nh x 65536 16 zI,nh (x/65536) 256 8 zI,nh x 256 8 zI, *]);omega)
  intro hc4;refine B 6 ?_;refine zNe ?_;refine idx8 underlying9 zM rfl rfl rfl zG zG (λhl0 hl8=>?_);refine zoh ?_
  (refine congrArg (Value.int .i64) ?_;(try simp only[nh x 4294967296 32 zI,nh (x/4294967296) 65536 16 zI,nh (x/4294967296/65536) 256 8 zI,nh (x/4294967296) 256 8 zI,nh x 65536 16 zI,nh (x/65536) 256 8 zI,nh x 256 8 zI, *]);omega)
 intro hc1;refine B 9 ?_;refine zCD ?_ ?_
 ·intro hc5;refine B 3 ?_;refine rv rfl rfl rfl (shrC_r 16 65536 zI rfl rfl rfl) ?_;refine B 16 ?_;refine zCD ?_ ?_
  ·intro hc6;refine ztg ?_;refine idx8 underlying9 zM rfl rfl rfl zG zG (λhl0 hl8=>?_);refine zoh ?_
   (refine congrArg (Value.int .i64) ?_;(try simp only[nh x 4294967296 32 zI,nh (x/4294967296) 65536 16 zI,nh (x/4294967296/65536) 256 8 zI,nh (x/4294967296) 256 8 zI,nh x 65536 16 zI,nh (x/65536) 256 8 zI,nh x 256 8 zI, *]);omega)
  intro hc6;refine B 6 ?_;refine zNe ?_;refine idx8 underlying9 zM rfl rfl rfl zG zG (λhl0 hl8=>?_);refine zoh ?_
  (refine congrArg (Value.int .i64) ?_;(try simp only[nh x 4294967296 32 zI,nh (x/4294967296) 65536 16 zI,nh (x/4294967296/65536) 256 8 zI,nh (x/4294967296) 256 8 zI,nh x 65536 16 zI,nh (x/65536) 256 8 zI,nh x 256 8 zI, *]);omega)
 intro hc5;refine B 9 ?_;refine zCD ?_ ?_
 ·intro hc7;refine ztg ?_;refine idx8 underlying9 zM rfl rfl rfl zG zG (λhl0 hl8=>?_);refine zoh ?_
  (refine congrArg (Value.int .i64) ?_;(try simp only[nh x 4294967296 32 zI,nh (x/4294967296) 65536 16 zI,nh (x/4294967296/65536) 256 8 zI,nh (x/4294967296) 256 8 zI,nh x 65536 16 zI,nh (x/65536) 256 8 zI,nh x 256 8 zI, *]);omega)
 intro hc7;refine B 6 ?_;refine zNe ?_;refine idx8 underlying9 zM rfl rfl rfl zG zG (λhl0 hl8=>?_);refine zoh ?_
 (refine congrArg (Value.int .i64) ?_;(try simp only[nh x 4294967296 32 zI,nh (x/4294967296) 65536 16 zI,nh (x/4294967296/65536) 256 8 zI,nh (x/4294967296) 256 8 zI,nh x 65536 16 zI,nh (x/65536) 256 8 zI,nh x 256 8 zI, *]);omega)
theorem nTf(x:Int)(hx:0<=x)(hx1:x<18446744073709551616)(w:World):Calls prog 191 #[.int .u64 x] w (Ret w (.int .i64 (64-nlb x))):=by
 have hb:=nIk (x:=x) 64 hx (by simpa using hx1);refine enter (vs:=[_]) func191 rfl ntmps191 rfl ?_;refine B 8 ?_;refine zYg ?_;refine B 5 ?_;refine retV results191 rfl A0 ?_;rfl
theorem nDh(x:Int)(hx:0<=x)(hx1:x<18446744073709551616)(w:World):Calls prog 181 #[.int .u64 x] w (Ret w (.int .i64 (nlb x))):=by
 refine enter (vs:=[_]) func181 rfl ntmps181 rfl ?_;refine B 12 ?_;refine zYg ?_;refine B 4 ?_;refine retV results181 rfl A0 ?_;rfl
theorem nVg(u q y1 r:Nat)(h:q*y1+r=u):((u:Int)-(q:Int)*(y1:Int))=(r:Int):=by
 have:((q*y1+r:Nat):Int)=u:=by rw[h]
 simp at this;omega
theorem nYl(hi lo y:Nat)(hhi:hi<y)(hlo:lo<18446744073709551616)(hy:y<18446744073709551616)(h0:0<hi)(w:World):Calls prog 148 #[.int .u64 (hi:Int),.int .u64 (lo:Int),.int .u64 (y:Int)] w (Ret w (.tuple #[.int .u64 (((hi*2^64+lo)/y:Nat):Int),.int .u64 (((hi*2^64+lo)%y:Nat):Int)])):=by
 obtain⟨hb1,hb2,hb3⟩:=nOm y zG hy;have hbp:=(njh y zG).2.2;obtain⟨s,hs⟩:∃s,64-blen y=s:=⟨_,rfl⟩;rw[hs]at hb2 hb3;have hsI:(64-nlb (y:Int))=(s:Int):=by unfold nlb;simp;omega
 obtain⟨Y,hY⟩:∃Y,y*2^s=Y:=⟨_,rfl⟩;rw[hY]at hb2 hb3;obtain⟨y1,hy1⟩:∃z,Y/4294967296=z:=⟨_,rfl⟩;obtain⟨y0,hy0⟩:∃z,Y%4294967296=z:=⟨_,rfl⟩;have hYe:y1*2^32+y0=Y:=by omega
 obtain⟨hN,hlt⟩:=n3m hi lo y s zG hhi hlo;obtain⟨u,hu⟩:∃z,hi*2^s+lo/2^(64-s)=z:=⟨_,rfl⟩;obtain⟨v,hv⟩:∃z,lo*2^s%2^64=z:=⟨_,rfl⟩;rw[hu,hv]at hN;rw[hu,hY]at hlt;have hv64:v<18446744073709551616:=by rw[<-hv];exact Nat.mod_lt _ zI
 obtain⟨v1,hv1⟩:∃z,v/4294967296=z:=⟨_,rfl⟩;obtain⟨v0,hv0⟩:∃z,v%4294967296=z:=⟨_,rfl⟩;have hy1a:2^31<=y1:=by omega
 have hv1a:v1<2^32:=by omega
 have hv0a:v0<2^32:=by omega
 have huY:u<y1*2^32+y0:=by omega
 have d1:=Dig.start hy1a zG zG hv1a huY;have hhi2:hi*2^s<=u:=by rw[<-hu];exact Nat.le_add_right _ _
 have hq0:u/y1*y1<=u:=Nat.div_mul_le_self u y1;refine zug ?_;refine zOe ?_;refine B 8 ?_;refine call call191 rfl rfl rfl (λW hS=>nTf _ zG zG W) ?_;refine rv rfl rfl rfl (RV.re (v':=.int .u64 (s:Int)) (cvtU_r underlying3 underlying271 rfl zG zG) (congrArg (Value.int .u64) hsI)) ?_;refine B 7 ?_;refine rv rfl rfl rfl (RV.re (v':=.int .u64 (Y:Int)) (shlW_r rfl rfl zG) (congrArg (Value.int .u64) ((shl_re y s zG zG).trans (by rw[hY])))) ?_;refine B 6 ?_;refine rv rfl rfl rfl (RV.re (v':=.int .u64 (y1:Int)) (shrC_r 32 4294967296 zI rfl rfl rfl) (congrArg (Value.int .u64) zG)) ?_;refine B 6 ?_;refine rv rfl rfl rfl (RV.re (v':=.int .u64 (y0:Int)) (mskC_r 32 4294967296 zI rfl rfl rfl rfl zG zG) (congrArg (Value.int .u64) zG)) ?_;refine B 7 ?_;refine rv rfl rfl rfl (RV.re (v':=.int .u64 ((hi*2^s:Nat):Int)) (shlW_r rfl rfl zG) (congrArg (Value.int .u64) (shl_re hi s zG zG))) ?_;refine B 2 ?_;refine rv rfl rfl rfl (subU_r rfl rfl zG zG) ?_;refine rv rfl rfl rfl (RV.re (v':=.int .u64 ((lo/2^(64-s):Nat):Int)) (shrW_r rfl rfl zG) (congrArg (Value.int .u64) (shr_re lo s _ zG))) ?_;refine rv rfl rfl rfl (RV.re (v':=.int .u64 (u:Int)) (orW_r rfl rfl) (congrArg (Value.int .u64) ((or_re hi _ s (lo_shift lo s zG hlo) zG).trans (by rw[hu])))) ?_;refine B 7 ?_;refine rv rfl rfl rfl (RV.re (v':=.int .u64 (v:Int)) (shlW_r rfl rfl zG) (congrArg (Value.int .u64) ((shl_mod lo s zG).trans (by rw[hv])))) ?_
 refine B 6 ?_;refine rv rfl rfl rfl (RV.re (v':=.int .u64 (v1:Int)) (shrC_r 32 4294967296 zI rfl rfl rfl) (congrArg (Value.int .u64) zG)) ?_;refine B 6 ?_;refine rv rfl rfl rfl (RV.re (v':=.int .u64 (v0:Int)) (mskC_r 32 4294967296 zI rfl rfl rfl rfl zG zG) (congrArg (Value.int .u64) zG)) ?_;refine B 7 ?_;refine rv rfl rfl rfl (RV.re (v':=.int .u64 ((u/y1:Nat):Int)) (quoU_r rfl rfl zG zG zG) (congrArg (Value.int .u64) (n9d u y1))) ?_;refine B 8 ?_;refine zsg ?_;refine rv rfl rfl rfl (RV.re (v':=.int .u64 ((u%y1:Nat):Int)) (subU_r rfl rfl zG zG) (congrArg (Value.int .u64) (nVg _ _ _ _ d1.eq))) ?_;refine B 5 ?_;refine CJ.loop (α:=Nat×Nat) (λp=>[(2,.int .u64 (Y:Int)),(8,.int .u64 (s:Int)),(9,.int .u64 (y1:Int)),(10,.int .u64 (y0:Int)),(11,.int .u64 (u:Int)),(13,.int .u64 (v1:Int)),(14,.int .u64 (v0:Int)),(15,.int .u64 (p.1:Int)),(16,.int .u64 (p.2:Int))]) (λp=>[]) (λp=>[w]) (λp=>Gh.no) (λp=>Dig u y1 y0 v1 p.1 p.2) (λp=>p.1) (u/y1,u%y1) d1 zR rfl rfl zS ?_;rintro⟨q,r⟩ hd;dsimp only;replace hd:Dig u y1 y0 v1 q r:=hd;have hdl:=hd.lt;have hde:=hd.le;have hqn:(0:Int)<=(q:Int)*(y0:Int):=Int.mul_nonneg zG zG;have hqy:(q:Int)<=4294967295->(q:Int)*(y0:Int)<=4294967295*4294967295:=λh=>(nFd zG h zG zG).2;refine B 6 ?_;refine nf (t:=69) rfl (λhc1=>?_) (λhc1=>?_)
 ·replace hc1:=ya hc1;refine B 18 ?_;obtain⟨hm1,hm2,hm3⟩:=hd.more hy1a huY hv1a zG;refine zVd ?_;refine zCD ?_ ?_
  ·intro hc2;refine zBh ?_;first|(have hD1:=hd.stop hy1a zG;obtain⟨q1,rfl⟩:∃q1,q1=q:=⟨_,rfl⟩)|(have hD1:=nnb zG zG hm2 hm3 hy1a zG;generalize q-1=q1 at *)
   rw[hYe]at hD1;obtain⟨r1,hr1⟩:∃z,(u*2^32+v1)%Y=z:=⟨_,rfl⟩;have hr1Y:r1<Y:=by rw[<-hr1];exact Nat.mod_lt _ zG
   have hz1:q1*Y+r1=u*2^32+v1:=by have:=a4o (u*2^32+v1) Y;rw[hD1,hr1,a6o]at this;exact this
   have d2:=Dig.start hy1a zG zG hv0a (show r1<y1*2^32+y0 by omega);have hq0b:r1/y1*y1<=r1:=Nat.div_mul_le_self r1 y1;have hur1:r1<y1*2^32+y0:=by omega
   clear hd;try clear hm1 hm2 hm3
   refine znh ?_;rintro⟨q,r⟩ hd;dsimp only;replace hd:Dig r1 y1 y0 v0 q r:=hd;have hdl:=hd.lt;have hde:=hd.le;have hqn:(0:Int)<=(q:Int)*(y0:Int):=Int.mul_nonneg zG zG;have hqy:(q:Int)<=4294967295->(q:Int)*(y0:Int)<=4294967295*4294967295:=λh=>(nFd zG h zG zG).2;refine B 6 ?_;refine nf (t:=104) rfl (λhc3=>?_) (λhc3=>?_)
   ·replace hc3:=ya hc3;refine B 18 ?_;obtain⟨hm1,hm2,hm3⟩:=hd.more hy1a hur1 hv0a zG;refine zVd ?_;refine zCD ?_ ?_
    ·intro hc4;exact zek
    intro hc4;exact zpi
   replace hc3:=ya hc3;refine zwh ?_;refine zCD ?_ ?_
   ·intro hc5;refine B 6 ?_;obtain⟨hm1,hm2,hm3⟩:=hd.more hy1a hur1 hv0a zG;refine zVd ?_;refine zCD ?_ ?_
    ·intro hc6;exact zek
    intro hc6;exact zpi
   intro hc5;refine B 6 ?_;exact z2h
  intro hc2;exact zpi
 replace hc1:=ya hc1;refine zwh ?_;refine zCD ?_ ?_
 ·intro hc7;refine B 6 ?_;obtain⟨hm1,hm2,hm3⟩:=hd.more hy1a huY hv1a zG;refine zVd ?_;refine zCD ?_ ?_
  ·intro hc8;refine zBh ?_;first|(have hD1:=hd.stop hy1a zG;obtain⟨q1,rfl⟩:∃q1,q1=q:=⟨_,rfl⟩)|(have hD1:=nnb zG zG hm2 hm3 hy1a zG;generalize q-1=q1 at *)
   rw[hYe]at hD1;obtain⟨r1,hr1⟩:∃z,(u*2^32+v1)%Y=z:=⟨_,rfl⟩;have hr1Y:r1<Y:=by rw[<-hr1];exact Nat.mod_lt _ zG
   have hz1:q1*Y+r1=u*2^32+v1:=by have:=a4o (u*2^32+v1) Y;rw[hD1,hr1,a6o]at this;exact this
   have d2:=Dig.start hy1a zG zG hv0a (show r1<y1*2^32+y0 by omega);have hq0b:r1/y1*y1<=r1:=Nat.div_mul_le_self r1 y1;have hur1:r1<y1*2^32+y0:=by omega
   clear hd;try clear hm1 hm2 hm3
   refine znh ?_;rintro⟨q,r⟩ hd;dsimp only;replace hd:Dig r1 y1 y0 v0 q r:=hd;have hdl:=hd.lt;have hde:=hd.le;have hqn:(0:Int)<=(q:Int)*(y0:Int):=Int.mul_nonneg zG zG;have hqy:(q:Int)<=4294967295->(q:Int)*(y0:Int)<=4294967295*4294967295:=λh=>(nFd zG h zG zG).2;refine B 6 ?_;refine nf (t:=104) rfl (λhc9=>?_) (λhc9=>?_)
   ·replace hc9:=ya hc9;refine B 18 ?_;obtain⟨hm1,hm2,hm3⟩:=hd.more hy1a hur1 hv0a zG;refine zVd ?_;refine zCD ?_ ?_
    ·intro hc10;exact zek
    intro hc10;exact zpi
   replace hc9:=ya hc9;refine zwh ?_;refine zCD ?_ ?_
   ·intro hc11;refine B 6 ?_;obtain⟨hm1,hm2,hm3⟩:=hd.more hy1a hur1 hv0a zG;refine zVd ?_;refine zCD ?_ ?_
    ·intro hc12;exact zek
    intro hc12;exact zpi
   intro hc11;refine B 6 ?_;exact z2h
  intro hc8;exact zpi
 intro hc7;refine B 6 ?_;first|(have hD1:=hd.stop hy1a zG;obtain⟨q1,rfl⟩:∃q1,q1=q:=⟨_,rfl⟩)|(have hD1:=nnb zG zG hm2 hm3 hy1a zG;generalize q-1=q1 at *)
 rw[hYe]at hD1;obtain⟨r1,hr1⟩:∃z,(u*2^32+v1)%Y=z:=⟨_,rfl⟩;have hr1Y:r1<Y:=by rw[<-hr1];exact Nat.mod_lt _ zG
 have hz1:q1*Y+r1=u*2^32+v1:=by have:=a4o (u*2^32+v1) Y;rw[hD1,hr1,a6o]at this;exact this
 have d2:=Dig.start hy1a zG zG hv0a (show r1<y1*2^32+y0 by omega);have hq0b:r1/y1*y1<=r1:=Nat.div_mul_le_self r1 y1;have hur1:r1<y1*2^32+y0:=by omega
 clear hd;try clear hm1 hm2 hm3
 refine znh ?_;rintro⟨q,r⟩ hd;dsimp only;replace hd:Dig r1 y1 y0 v0 q r:=hd;have hdl:=hd.lt;have hde:=hd.le;have hqn:(0:Int)<=(q:Int)*(y0:Int):=Int.mul_nonneg zG zG;have hqy:(q:Int)<=4294967295->(q:Int)*(y0:Int)<=4294967295*4294967295:=λh=>(nFd zG h zG zG).2;refine B 6 ?_;refine nf (t:=104) rfl (λhc13=>?_) (λhc13=>?_)
 ·replace hc13:=ya hc13;refine B 18 ?_;obtain⟨hm1,hm2,hm3⟩:=hd.more hy1a hur1 hv0a zG;refine zVd ?_;refine zCD ?_ ?_
  ·intro hc14;exact zek
  intro hc14;exact zpi
 replace hc13:=ya hc13;refine zwh ?_;refine zCD ?_ ?_
 ·intro hc15;refine B 6 ?_;obtain⟨hm1,hm2,hm3⟩:=hd.more hy1a hur1 hv0a zG;refine zVd ?_;refine zCD ?_ ?_
  ·intro hc16;exact zek
  intro hc16;exact zpi
 intro hc15;refine B 6 ?_;exact z2h
theorem nZl(lo y:Nat)(h0:0<y)(hlo:lo<18446744073709551616)(hy:y<18446744073709551616)(w:World):Calls prog 148 #[.int .u64 0,.int .u64 (lo:Int),.int .u64 (y:Int)] w (Ret w (.tuple #[.int .u64 ((lo/y:Nat):Int),.int .u64 ((lo%y:Nat):Int)])):=by
 refine zug ?_;refine z3d ?_;refine B 4 ?_;refine CJ.less (E':=[(0,_),(1,_),(2,_),(7,_),(19,_),(20,_),(22,_),(23,_),(24,_),(26,_),(27,_)]) zR ?_;refine nw 7 [.det [] _,.det [] _,.det [0,1] _,.det [] _,.det [] _,.det [3,4] _,.det [2] _] zM (xc zK (xc zK (xc (by exact λvals=>X.val rfl rfl (quoU_r rfl rfl zG zG zG) (λ_ _=>rfl)) (xc zK (xc zK (xc (by exact λvals=>X.val rfl rfl (remU_r rfl rfl zG zG) (λ_ _=>rfl)) (xc (by exact λvals=>X.val rfl rfl (asg_r rfl) (λ_ _=>rfl)) (xn)))))))) zM zM zM (λvals=>?_);refine B 5 ?_;refine nP results148 rfl rfl A0 ?_ ?_
 ·exact congrArg (Value.int .u64) (n9d lo y)
 exact congrArg (Value.int .u64) (Int.natCast_emod lo y).symm
theorem ngf(hi lo y:Int)(h0:0<=hi)(h1:hi<y)(h2:0<=lo)(h3:lo<18446744073709551616)(h4:y<18446744073709551616)(w:World):Calls prog 148 #[.int .u64 hi,.int .u64 lo,.int .u64 y] w (Ret w (.tuple #[.int .u64 ((hi*18446744073709551616+lo)/y),.int .u64 ((hi*18446744073709551616+lo)%y)])):=by
 obtain⟨a,rfl⟩:=aqo h0;obtain⟨b,rfl⟩:=aqo h2;obtain⟨c,rfl⟩:=aqo (Int.le_trans h0 (Int.le_of_lt h1));have e:((a:Int)*18446744073709551616+(b:Int))=((a*2^64+b:Nat):Int):=by simp
 rw[e,n9d,<-Int.natCast_emod];by_cases ha:a=0
 ·subst ha;have:=nZl b c zG zG zG w;simpa using this
 exact nYl a b c zG zG zG zG w
theorem nai{a b p:Int}(ha:0<=a)(ha1:a<p)(hb:0<=b)(hb1:b<p)(hp:p<18446744073709551616):0<=a*b/18446744073709551616/\a*b/18446744073709551616<p/\0<=a*b%18446744073709551616/\a*b%18446744073709551616<18446744073709551616/\a*b/18446744073709551616*18446744073709551616+a*b%18446744073709551616=a*b:=by
 have h0:0<=a*b:=Int.mul_nonneg ha hb;have h1:a*b<=a*18446744073709551616:=Int.mul_le_mul_of_nonneg_left zG ha;refine⟨by omega,by omega,by omega,by omega,by omega⟩
theorem nMe(a b:Int)(ha:0<=a)(ha1:a<4611686018427377339)(hb:0<=b)(hb1:b<4611686018427377339)(w:World):Calls prog 149 #[.int .u64 a,.int .u64 b] w (Ret w (.int .u64 (a*b%4611686018427377339))):=by
 obtain⟨m1,m2,m3,m4,m5⟩:=nai ha ha1 hb hb1 zI;refine enter (vs:=[_,_]) func149 rfl ntmps149 rfl ?_;refine B 9 ?_;refine zzg ?_;refine B 14 ?_;refine retV results149 rfl A0 ?_
 (rw[m5];rfl)
theorem nGk(k:Int)(w:World):Calls prog 190 #[.int .u64 k] w (RetX w (λb=>.func (.func 243) #[] #[ptr b 0]) (λb w1=>w.heap.size<=b/\w1.heap[b]? =some (.cells #[.int .u64 k] 210 (0,0)))):=by
 refine enter (vs:=[_]) func190 rfl ntmps190 rfl ?_;refine B 3 ?_;intro b1 w1 hb1 ha1 ho1 hm1 hz1;replace ha1:=yb ha1;replace ho1:=yc ho1;refine B 10 ?_;refine nE b1 results190 rfl A1 rfl ?_;exact λW hS=>⟨ha1.1,hS.old A0 hb1 hm1 trivial⟩
def nwb (n:Nat):List Bool:=(List.range (blen n)).reverse.map (λi=>n.testBit i)
theorem nRd(n:Nat):(nwb n).length=blen n:=by simp[nwb]
theorem nNe(n j:Nat)(h:j<blen n):(nwb n).take (j+1)=(nwb n).take j++[n.testBit (blen n-1-j)]:=by
 have hl:j<(nwb n).length:=by rw[nRd];exact h
 rw[aep hl];congr 2;simp[nwb]
theorem bit_re(n i:Nat):decide (((n/2^i:Nat):Int)%2=1)=n.testBit i:=by
 rw[Nat.testBit_eq_decide_div_mod_eq];congr 1;apply propext;omega
theorem bits_pre(n j:Nat)(h:j<blen n):((nwb n).take j++[n.testBit (blen n-1-j)]) <+:nwb n:=by
 rw[<-nNe n j h];exact List.take_prefix _ _
theorem nNl(n:Nat)(hn:n<18446744073709551616)(b:Nat)(W:World)(hb1:W.heap[b]? =some (.cells #[.int .u64 (n:Int)] 210 (0,0))):nmd prog 243 [ptr b 0] (λx:Bool=>[.bool x]) (nwb n) (λ_=>False) (λk=>k=b) W:=by
 intro l M I X0 hM hI hX hy h0;have hm1:¬M b:=λh=>(hM b h).2.2 rfl;have hbl:=nGg n 64 hn;have hbI:nlb (n:Int)=(blen n:Int):=by simp[nlb]
 refine nT (itG hM (hI [])) [] (vs:=[_,_]) func243 rfl ntmps243 rfl (st_it hM (hI []) h0) ?_;refine B 3 ?_;refine zYg ?_;refine rv rfl rfl rfl (RV.re (v':=.int .i64 ((blen n:Int)-1-(0:Nat))) (subI_r rfl rfl zG zG) (congrArg (Value.int .i64) (by rw[hbI];omega))) ?_;refine B 4 ?_;refine CJ.loop (α:=Nat) (λj=>[(0,yv l),(1,ptr b 0),(3,.int .i64 ((blen n:Int)-1-(j:Int)))]) (λj=>[]) (λj=>[W]) (λj=>itG hM (hI ((nwb n).take j))) (λj=>j<=blen n) (λj=>blen n-j) 0 (a3o _) zR rfl rfl zS ?_;rintro j hj;refine B 7 ?_;refine zCD ?_ ?_
 ·intro hc1;refine B 9 ?_;refine rv rfl rfl rfl (RV.re (v':=.int .u64 ((n/2^(blen n-1-j):Nat):Int)) (shrW_r rfl rfl zG) (congrArg (Value.int .u64) (shr_v n _ _ zG zG))) ?_;refine rv rfl rfl rfl (mskC_r 1 2 zI rfl rfl rfl rfl (Int.natCast_nonneg _) (Int.lt_of_le_of_lt (Int.ofNat_le.2 (Nat.div_le_self n _)) zG)) ?_;refine rv rfl rfl rfl (RV.re (v':=.bool (n.testBit (blen n-1-j))) (eqlI_r rfl rfl) (congrArg Value.bool (bit_re n _))) ?_;refine yld (itG hM (hI ((nwb n).take (j+1)))) (itG hM hX) rfl rfl rfl rfl (λW1 hS=>by have:=hy ((nwb n).take j) _ W1 (bits_pre n j zG) hS.ghost;rw[<-nNe n j zG]at this;exact this) rfl rfl rfl rfl ?_ ?_
  ·refine B 12 ?_;refine PJ.again (j+1) zG zG ⟨rfl,rfl,congrArg some (congrArg (Value.int .i64) zG),trivial⟩ rfl rfl zS
  refine B 9 ?_;exact nPh (.inl rfl) results243 A0 (λA hA=>.inr hA)
 intro hc1;refine B 4 ?_;exact nPh (.inr rfl) results243 A0 (λA hA=>.inl (by have e:=afp (l:=nwb n) (i:=j) (by rw[nRd];omega);rw[e]at hA;exact hA))
def nS (a m:Int):List Bool->Int->Int
 | [],c=>c
 |b::bs,c=>nS a m bs (if b then(c*c%m)*a%m else c*c%m)
theorem nVf(a m:Int)(bs:List Bool)(b:Bool)(c:Int):nS a m (bs++[b]) c=if b then(nS a m bs c*nS a m bs c%m)*a%m else nS a m bs c*nS a m bs c%m:=by
 induction bs generalizing c with
 |nil=>rfl
 |cons x bs ih=>simp only[aEo,nS];exact ih _
theorem nti(a m:Int)(hm:0<m)(bs:List Bool)(c:Int)(h0:0<=c)(h1:c<m):0<=nS a m bs c/\nS a m bs c<m:=by
 induction bs generalizing c with
 |nil=>exact⟨h0,h1⟩
 |cons x bs ih=>
  simp only[nS];apply ih
  ·split<;>exact Int.emod_nonneg _ zG
  split<;>exact Int.emod_lt_of_pos _ hm
def powM (a n m:Int):Int:=nS a m (nwb n.toNat) 1
theorem n8g(a k:Int)(ha:0<=a)(ha1:a<4611686018427377339)(hk:0<=k)(hk1:k<18446744073709551616)(w:World):Calls prog 145 #[.int .u64 a,.int .u64 k] w (Ret w (.int .u64 (powM a k 4611686018427377339))):=by
 refine n1b Gh.no [] (vs:=[_,_]) func145 rfl ntmps145 rfl (nmc w) ?_;refine B 3 ?_;intro b2 w2 hb2 ha2 ho2 hm2 hz2;replace ha2:=yb ha2;replace ho2:=yc ho2;refine B 5 ?_;refine allW zeroValue210 rfl rfl ?_;intro b5 ha5 ho5;replace ha5:=yb ha5;replace ho5:=yc ho5;refine z5f ?_;refine B 6 ?_;refine nq (Φ:=λW b w1=>W.heap.size<=b/\w1.heap[b]? =some (.cells #[.int .u64 k] 210 (0,0))) call190 rfl rfl rfl (λW hS=>nGk _ W) ?_;intro Wd bd wd hSd hBd hPd;obtain⟨hbd1,hbd2⟩:=hPd;have hUd:=hSd.under;simp only[nH,adp,a9o]at hUd;have hAd:=hSd.sizes;replace hAd:=yb hAd;have hzd:=hBd.size;refine B 3 ?_;refine CJ.range (f:=243) (cap:=[ptr bd 0]) (α:=Bool) (enc:=(λx:Bool=>[.bool x])) (xs:=nwb k.toNat) (MI:=λ_=>False) (RO:=λk=>k=bd) rfl call243 (λW W2 hS hB=>by have e:(.int .u64 k:Value)= .int .u64 ((k.toNat:Nat):Int):=(by rw[Int.toNat_of_nonneg hk]);exact nNl k.toNat zG bd W2 (by rw[<-e,hB.block bd (by have:=(hS.sizes);simp only[Above]at this;have:=(ago.1 hbd2).1;omega)];exact hS.old A0 hbd2 zO zSd)) (λ_ _ _ hk=>hk.elim) (λW hS k hk=>by subst hk;have:=hS.sizes;simp only[Above]at this;have:=(ago.1 hbd2).1;refine⟨by omega,by simp only[adp,afo,a0o,agp];omega,λh=>h⟩) (λ_=>rfl) (λpre Hc=>Hc=[(b5,.cells #[.int .u64 (nS a 4611686018427377339 pre 1)] 210 (0,0))]) (λ_ _=>False) rfl zIc (λ_ _ hk=>hk.elim) zI ?_ ?_ ?_
 ·rintro pre x Hc l Dk rec Wy hrs hrp hpre rfl haD hlD hlW haW;simp only[Above]at haD haW;have hbd:=nti a 4611686018427377339 zI pre 1 zI zI;have hX:=Int.emod_nonneg (nS a 4611686018427377339 pre 1*nS a 4611686018427377339 pre 1) (b:=4611686018427377339) zI;have hX1:=Int.emod_lt_of_pos (nS a 4611686018427377339 pre 1*nS a 4611686018427377339 pre 1) (b:=4611686018427377339) zI;refine B 3 ?_;refine n8b hrs ?_;refine B 5 ?_;refine call call149 rfl rfl rfl (λW hS=>nMe _ _ zG zG zG zG W) ?_;refine z5f ?_;refine B 7 ?_;refine zCD ?_ ?_
  ·intro hc1;refine B 3 ?_;refine call call149 rfl rfl rfl (λW hS=>nMe _ _ zG zG zG zG W) ?_;refine z5f ?_;refine B 2 ?_;exact ntg (Hc:=[(b5,.cells #[.int .u64 (nS a 4611686018427377339 pre 1*nS a 4611686018427377339 pre 1%4611686018427377339*a%4611686018427377339)] 210 (0,0))]) (λ_ hk=>hk) (by cases rec;simp_all) (by rw[nVf,hc1];rfl)
  intro hc1;refine B 2 ?_;exact ntg (Hc:=[(b5,.cells #[.int .u64 (nS a 4611686018427377339 pre 1*nS a 4611686018427377339 pre 1%4611686018427377339)] 210 (0,0))]) (λ_ hk=>hk) (by cases rec;simp_all) (by rw[nVf,hc1];rfl)
 ·rintro l Dk rec Hc haD hlD rfl;replace haD:=yb haD;refine B 9 ?_;refine nHf (.inl rfl) results145 rfl zjc (λW H' hS hmap=>⟨?_,?_⟩)
  ·exact congrArg Ending.returned rfl
  refine(hS.links w A2).below λk hk hx=>?_;exact zMi
 exact zDj
theorem nLi(a k m:Int)(hm:1<m):0<=powM a k m/\powM a k m<m:=nti a m zG _ 1 zG hm
abbrev GOk (a:Int):Prop:=1<=a/\a<4611686018427377339/\powM a 2305843009213688669 4611686018427377339=1
def gExp (a k:Int):Int×Int:=if GOk a then if 0<=k/\k<2305843009213688669 then(powM a k 4611686018427377339,0)else(0,1)else(0,40)
def eTup (p:Int×Int):Value:=.tuple #[.int .i64 p.1,.int .i64 p.2]
theorem nD(a:Int)(w:World):Calls prog 98 #[.int .i64 a] w (Ret w (.int .i64 (if GOk a then 0 else 40))):=by
 have hp:=nLi a 2305843009213688669 4611686018427377339 zI;refine enter (vs:=[_]) func98 rfl ntmps98 rfl ?_;refine B 11 ?_;refine nf (t:=5) rfl (λhc1=>?_) (λhc1=>?_)
 ·replace hc1:=ya hc1;refine B 19 ?_;refine zWf ?_;split<;>omega
 replace hc1:=ya hc1;refine B 4 ?_;refine nf (t:=9) rfl (λhc2=>?_) (λhc2=>?_)
 ·replace hc2:=ya hc2;refine B 15 ?_;refine zWf ?_;split<;>omega
 replace hc2:=ya hc2;refine B 2 ?_;refine call call145 rfl rfl rfl (λW hS=>n8g _ _ zG zG zG zG W) ?_;refine B 4 ?_;refine zCD ?_ ?_
 ·intro hc3;refine B 7 ?_;refine zWf ?_;split<;>omega
 intro hc3;refine B 8 ?_;refine zWf ?_;split<;>omega
theorem nIj(a k:Int)(w:World):Calls prog 95 #[.int .i64 a,.int .i64 k] w (Ret w (eTup (gExp a k))):=by
 have hp:=nLi a k 4611686018427377339 zI;refine enter (vs:=[_,_]) func95 rfl ntmps95 rfl ?_;refine B 10 ?_;refine call call98 rfl rfl rfl (λW hS=>nD _ W) ?_;refine B 9 ?_;refine zCD ?_ ?_
 ·intro hc1;refine B 1 ?_;have hg:¬GOk a:=λh=>by simp[if_pos h]at hc1
  refine B 8 ?_;exact zti
 intro hc1;refine B 4 ?_;have hg:GOk a:=Decidable.byContradiction λh=>by simp[if_neg h]at hc1
 refine B 4 ?_;refine nf (t:=14) rfl (λhc2=>?_) (λhc2=>?_)
 ·replace hc2:=ya hc2;refine B 14 ?_;exact zti
 replace hc2:=ya hc2;refine B 5 ?_;refine zCD ?_ ?_
 ·intro hc3;refine B 8 ?_;exact zti
 intro hc3;refine B 8 ?_;refine call call145 rfl rfl rfl (λW hS=>n8g _ _ zG zG zG zG W) ?_;refine B 6 ?_;exact zti
theorem n1h(k:Int)(w:World):Calls prog 64 #[.int .i64 k] w (Ret w (eTup (gExp 4 k))):=by
 refine enter (vs:=[_]) func64 rfl ntmps64 rfl ?_;refine B 9 ?_;refine call call95 rfl rfl rfl (λW hS=>nIj _ _ W) ?_;refine B 7 ?_;refine nP results64 rfl rfl A0 ?_ ?_;all_goals rfl
theorem or_byte(x b:Int)(h0:0<=b)(h1:b<256):IntKind.u64.wrap (BitVec.ofInt IntKind.u64.bits (IntKind.u64.wrap (x*256))|||BitVec.ofInt IntKind.u64.bits b).toNat=(x*256)%18446744073709551616+b:=by
 obtain⟨y,hy⟩:∃y:Nat,(x*256)%18446744073709551616=((y*2^8:Nat):Int):=⟨((x*256)%18446744073709551616/256).toNat,by omega⟩;obtain⟨c,rfl⟩:=aqo h0;rw[hy,(ny (x*256)).trans hy,or_re y c 8 zG zG];omega
theorem restDiv(n b m:Int):n/72057594037927936*18446744073709551616+(n*256%18446744073709551616+b)=n*256+b:=by omega
def nAd (m:Int):List Int->Int->Int
 | [],n=>n
 |b::bs,n=>nAd m bs ((n*256+b)%m)
theorem nSm(m:Int)(bs:List Int)(b n:Int):nAd m (bs++[b]) n=(nAd m bs n*256+b)%m:=by
 induction bs generalizing n with
 |nil=>rfl
 |cons x bs ih=>simp only[aEo,nAd];exact ih _
theorem nmh(m:Int)(hm:0<m)(bs:List Int)(n:Int)(h0:0<=n)(h1:n<m):0<=nAd m bs n/\nAd m bs n<m:=by
 induction bs generalizing n with
 |nil=>exact⟨h0,h1⟩
 |cons x bs ih=>exact ih _ (Int.emod_nonneg _ zG) (Int.emod_lt_of_pos _ hm)
theorem nDl(c n m:Int)(b b2:Nat)(hc:0<=c)(hc1:c<256)(hn:0<=n)(hnm:n<m)(hm:m<72057594037927936*256)(w:World)(hb:w.heap[b]? =some (.cells #[.int .u64 n] 210 (0,0)))(hb2:w.heap[b2]? =some (.cells #[.int .u64 m] 210 (0,0)))(hne:b≠b2):Calls prog 189 #[.int .u8 c,ptr b 0,ptr b2 0] w (RetM w (.tuple #[]) b (.cells #[.int .u64 ((n*256+c)%m)] 210 (0,0))):=by
 have hm2:¬Gh.no.M b2:=λh=>h;refine nT Gh.no [(b,_)] (vs:=[_,_,_]) func189 rfl ntmps189 rfl (ngg hb) ?_;refine B 2 ?_;refine rv rfl rfl rfl (shrC_r 56 72057594037927936 zI rfl rfl rfl) ?_;refine B 1 ?_;refine rv rfl rfl rfl (shlC_r 8 256 zI rfl rfl rfl) ?_;refine B 2 ?_;refine rv rfl rfl rfl (RV.re (v':=.int .u64 ((n*256)%18446744073709551616+c)) (orW_r rfl rfl) (congrArg (Value.int .u64) (or_byte n c hc hc1))) ?_;refine B 1 ?_;refine call call148 rfl rfl rfl (λW hS=>ngf _ _ _ zG zG zG zG zG W) ?_;refine B 2 ?_;refine rv rfl rfl rfl (RV.re (v':=.int .u64 ((n*256+c)%m)) (ext_r rfl rfl) (congrArg (Value.int .u64) (by rw[restDiv n c m]))) ?_;refine stW (i:=0) rfl sizeOf210 rfl rfl rfl rfl (apo rfl) rfl ?_;refine B 1 ?_;refine retG (.inr rfl) results189 RS.n (λW hS=>⟨rfl,(hS.links w A0).mono λk _ hk=>?_,hS.own _ A0⟩);simpa[Gh.no]using hk
def dg (f:Nat->Int):Array Value:=#[.int .u8 (f 0),.int .u8 (f 1),.int .u8 (f 2),.int .u8 (f 3),.int .u8 (f 4),.int .u8 (f 5),.int .u8 (f 6),.int .u8 (f 7),.int .u8 (f 8),.int .u8 (f 9),.int .u8 (f 10),.int .u8 (f 11),.int .u8 (f 12),.int .u8 (f 13),.int .u8 (f 14),.int .u8 (f 15),.int .u8 (f 16),.int .u8 (f 17),.int .u8 (f 18),.int .u8 (f 19),.int .u8 (f 20),.int .u8 (f 21),.int .u8 (f 22),.int .u8 (f 23),.int .u8 (f 24),.int .u8 (f 25),.int .u8 (f 26),.int .u8 (f 27),.int .u8 (f 28),.int .u8 (f 29),.int .u8 (f 30),.int .u8 (f 31)]
def dgL (f:Nat->Int):List Int:=(List.range 32).map f
abbrev Byt (f:Nat->Int):Prop:=∀i,0<=f i/\f i<256
theorem dg_at(f:Nat->Int)(i:Nat)(h:i<32):(dg f)[i]? =some (.int .u8 (f i)):=by
 have e:dg f=((List.range 32).map λi=>Value.int .u8 (f i)).toArray:=rfl;rw[e];simp[h]
theorem dgL_take(f:Nat->Int)(j:Nat)(h:j<32):(dgL f).take (j+1)=(dgL f).take j++[f j]:=by
 have hl:j<(dgL f).length:=by simp[dgL];exact h
 rw[aep hl];simp[dgL]
theorem non(f:Nat->Int)(hf:Byt f)(m:Int)(hm0:0<m)(hm:m<72057594037927936*256)(w:World):Calls prog 144 #[.agg (dg f),.int .u64 m] w (Ret w (.int .u64 (nAd m (dgL f) 0))):=by
 refine enter (vs:=[_,_]) func144 rfl ntmps144 rfl ?_;refine B 3 ?_;intro b2 w2 hb2 ha2 ho2 hm2 hz2;replace ha2:=yb ha2;replace ho2:=yc ho2;refine B 1 ?_;intro b3 w3 hb3 ha3 ho3 hm3 hz3;replace ha3:=yb ha3;replace ho3:=yc ho3;refine allW zeroValue210 rfl rfl ?_;intro b4 ha4 ho4;replace ha4:=yb ha4;replace ho4:=yc ho4;refine B 11 ?_;refine rv rfl rfl rfl (ldRAw_r isAgg43 sizeOf43 rfl A1 hb2 hm2 zF rfl) ?_;refine B 4 ?_;refine CJ.loop (α:=Nat) (λj=>[(2,ptr b2 0),(3,ptr b3 0),(4,ptr b4 0),(5,.func (.func 189) #[] #[ptr b4 0,ptr b3 0]),(9,.agg (dg f)),(10,.int .i64 (j:Int))]) (λj=>[(b4,.cells #[.int .u64 (nAd m ((dgL f).take j) 0)] 210 (0,0))]) (λj=>[w3,w2,w]) (λj=>Gh.no) (λj=>j<=32) (λj=>32-j) 0 zI zR rfl rfl zS ?_;rintro j hj;have hbd:=nmh m hm0 ((dgL f).take j) 0 zI hm0;refine B 6 ?_;refine zCD ?_ ?_
 ·intro hc1;refine B 6 ?_;refine rv rfl rfl rfl (RV.re (v':=.int .u8 (f j)) (idxV_r underlying43 isAgg5 sizeOf5 rfl rfl zG zG (dg_at f _ zG)) (congrArg (λk=>Value.int .u8 (f k)) zG)) ?_;refine B 6 ?_;refine nMc (f:=189) (i:=0) (first:=[]) (cap:=[ptr b4 0,ptr b3 0]) rfl rfl call189 rfl rfl rfl (λW hS hW=>nDl _ _ _ _ _ (hf j).1 (hf j).2 hbd.1 hbd.2 hm W hW (hS.old A0 hb3 hm3 z7) zG) ?_;refine B 7 ?_;refine PJ.reH (H':=[(b4,.cells #[.int .u64 (nAd m ((dgL f).take (j+1)) 0)] 210 (0,0))]) (by rw[dgL_take f j zG,nSm];rfl) ?_;exact zFi
 intro hc1;refine B 8 ?_;refine z5f ?_;refine B 3 ?_;refine retO (.inl rfl) results144 (RS.w (i:=0) rfl isAgg210 rfl rfl (RS.n)) A2 zL ?_;exact congrArg (Value.int .u64) (by rw[afp (by simp[dgL];omega)])
end Px
namespace Px
open Go
theorem nKg(x m:Int)(n:Nat):(x%m)^n%m=x^n%m:=by
 induction n with
 |zero=>simp
 |succ n ih=>rw[Int.pow_succ,Int.pow_succ,Int.mul_emod,ih,Int.emod_emod,<-Int.mul_emod]
def valB:List Bool->Nat->Nat
 | [],v=>v
 |b::bs,v=>valB bs (2*v+if b then 1 else 0)
theorem nJn(bs:List Bool)(b:Bool)(v:Nat):valB (bs++[b]) v=2*valB bs v+if b then 1 else 0:=by
 induction bs generalizing v with
 |nil=>rfl
 |cons x bs ih=>exact ih _
theorem nRl(a m:Int)(bs:List Bool):∀(c:Int) (v:Nat),c%m=a^v%m->nS a m bs c%m=a^valB bs v%m:=by
 induction bs with
 |nil=>intro c v h;exact h
 |cons x bs ih=>
  intro c v h;simp only[nS,valB];apply ih;have hs:c*c%m=a^(2*v)%m:=by rw[Int.mul_emod,h,<-Int.mul_emod,<-Int.pow_add];congr 2;omega
  cases x with
  |false=>simp only[Bool.false_eq_true,if_false,Int.emod_emod,Nat.add_zero];exact hs
  |true=>simp only[if_true,Int.emod_emod];rw[hs,Int.mul_emod,Int.emod_emod,<-Int.mul_emod,<-Int.pow_succ]
theorem nMh(n:Nat):∀j,j<=blen n->valB ((nwb n).take j) 0=n/2^(blen n-j)
 |0,_=>by
  simp only[List.take_zero,valB,Nat.sub_zero];have hlt:n<2^blen n:=by
   by_cases h:n=0
   ·subst h;exact Nat.pow_pos zI
   exact(njh n h).2.1
  exact(Nat.div_eq_of_lt hlt).symm
 |j+1,h=>by
  rw[nNe n j zG,nJn,nMh n j zG];have e:blen n-j=(blen n-1-j)+1:=by omega
  have e2:blen n-(j+1)=blen n-1-j:=by omega
  rw[e,e2,Nat.pow_succ,<-Nat.div_div_eq_div_mul,Nat.testBit_eq_decide_div_mod_eq];by_cases hb:n/2^(blen n-1-j)%2=1
  ·simp only[hb,decide_true,if_true];omega
  simp only[hb,decide_false,Bool.false_eq_true,if_false];omega
theorem n8i(a k m:Int)(h0:0<=k)(hm:1<m):powM a k m=a^k.toNat%m:=by
 have h1:=nRl a m (nwb k.toNat) 1 0 zS;have h2:=nMh k.toNat (blen k.toNat) (abo _);rw[afp (by rw[nRd];exact abo _)]at h2;simp only[Nat.sub_self,Nat.pow_zero,Nat.div_one]at h2;rw[h2]at h1;rw[<-h1];have hb:=nLi a k m hm;exact(Int.emod_eq_of_lt hb.1 hb.2).symm
end Px
namespace Px
open Go Go.RowKit Go.Proofs Go.Proofs.Tryz
def sOut (a:Int):Bool:=decide (a<0)||decide (2305843009213688669<=a)
theorem ndf{a:Int}:sOut a=false↔0<=a/\a<2305843009213688669:=by simp[sOut]
theorem n6f{a:Int}:sOut a=true↔¬(0<=a/\a<2305843009213688669):=by simp[sOut];omega
theorem n4i(a:Int)(w:World):Calls prog 146 #[.int .i64 a] w (Ret w (.bool (sOut a))):=by
 refine enter (vs:=[_]) func146 rfl ntmps146 rfl ?_;refine B 10 ?_;refine nf (t:=5) rfl (λhc1=>?_) (λhc1=>?_)
 ·exact zEj
 exact zEj
def ixOf (p:Int->Bool) (xs:List Int):Int:=match xs.findIdx? p with|some i=>(i:Int)|none=> -1
theorem nlk(p:Int->Bool)(xs:List Int)(j:Nat)(hj:j<xs.length)(h:∀x∈xs.take j,p x=false)(hp:p xs[j]=true):ixOf p xs=(j:Int):=by
 unfold ixOf;have:xs.findIdx? p=some j:=by
  rw[ajp];refine⟨hj,hp,λi hi=>?_⟩;have:=h (xs[i]'zG) (by rw[List.mem_take_iff_getElem];exact⟨i,by omega,rfl⟩);simp[this]
 rw[this]
theorem nCj(p:Int->Bool)(xs:List Int)(h:∀x∈xs,p x=false):ixOf p xs= -1:=by
 unfold ixOf;have:xs.findIdx? p=none:=by rw[akp];exact h
 rw[this]
theorem nvl(p:Int->Bool)(xs:List Int):decide (0<=ixOf p xs)=xs.any p:=by
 unfold ixOf;cases h:xs.findIdx? p with
 |some i=>
  obtain⟨h1,h2,_⟩:=ajp.1 h;have:xs.any p=true:=List.any_eq_true.2 ⟨xs[i],alp h1,h2⟩;rw[this];simp
 |none=>
  have:xs.any p=false:=List.any_eq_false.2 (by simpa using akp.1 h);rw[this];simp
def ints (xs:List Int):Array Value:=(xs.map λx=>Value.int .i64 x).toArray
theorem ints_at(xs:List Int)(j:Nat)(h:j<xs.length):(ints xs)[j]? =some (.int .i64 xs[j]):=by simp[ints,h]
theorem nak(p:Int->Bool)(f:Nat)(hent:Ent prog f)(hp:∀x W,Calls prog f #[.int .i64 x] W (Ret W (.bool (p x))))(xs:List Int)(b T n c:Nat)(fr:Nat×Nat)(hn:xs.length=n)(hn2:n<9223372036854775807)(w:World)(hb0:w.heap[b]? =some (.cells (ints xs) T fr)):Calls prog 46 #[.slice (some ⟨b,0,none⟩) n c,.func (.func f) #[] #[]] w (Ret w (.int .i64 (ixOf p xs))):=by
 have hm0:¬Gh.no.M b:=λh=>h;refine zHg ?_;refine CJ.loop (α:=Nat) (λj=>[(0,.slice (some ⟨b,0,none⟩) n c),(1,.func (.func f) #[] #[]),(7,.int .i64 (n:Int)),(8,.int .i64 (j:Int))]) (λj=>[]) (λj=>[w]) (λj=>Gh.no) (λj=>j<=n/\∀x∈xs.take j,p x=false) (λj=>n-j) 0 ⟨a3o _,by simp⟩ zR rfl rfl zS ?_;rintro j ⟨hj,hjp⟩;refine B 6 ?_;refine zCD ?_ ?_
 ·intro hc1;refine B 16 ?_;refine rv rfl rfl rfl (ldR_r (v:=.int .i64 (xs[j]'zG)) isAgg3 rfl A0 hb0 hm0 trivial (by rw[<-ints_at xs j zG];congr 1;omega)) ?_;refine nSb (f:=f) (cap:=[]) rfl hent rfl rfl rfl (λW hS=>hp _ W) ?_;refine B 2 ?_;refine zCD ?_ ?_
  ·intro hc2;refine B 12 ?_;refine retV results46 rfl A0 ?_;exact congrArg (Value.int .i64) (nlk p xs j zG hjp hc2).symm
  intro hc2;refine B 7 ?_;refine PJ.again (j+1) ⟨by omega,by intro x hx;rw[aep zG]at hx;simp only[azo,agp]at hx;rcases hx with hx|rfl;exact hjp x hx;exact hc2⟩ zG zR rfl rfl zS
 intro hc1;refine B 11 ?_;refine retV results46 rfl A0 ?_;exact congrArg (Value.int .i64) (nCj p xs (by rw[<-afp (l:=xs) (i:=j) zG];exact hjp)).symm
theorem nxh(p:Int->Bool)(f:Nat)(hent:Ent prog f)(hp:∀x W,Calls prog f #[.int .i64 x] W (Ret W (.bool (p x))))(xs:List Int)(b T n c:Nat)(fr:Nat×Nat)(hn:xs.length=n)(hn2:n<9223372036854775807)(w:World)(hb0:w.heap[b]? =some (.cells (ints xs) T fr)):Calls prog 20 #[.slice (some ⟨b,0,none⟩) n c,.func (.func f) #[] #[]] w (Ret w (.bool (xs.any p))):=by
 refine zsh ?_;refine call call46 rfl rfl rfl (λW hS=>nak p f hent hp xs b T n c fr hn hn2 W (hS.old A0 hb0 zO trivial)) ?_;refine B 5 ?_;refine retV results20 rfl A0 ?_;exact congrArg Value.bool (nvl p xs)
theorem nOd(xs:List Int)(b T n c:Nat)(fr:Nat×Nat)(hn:xs.length=n)(hn2:n<9223372036854775807)(w:World)(hb0:w.heap[b]? =some (.cells (ints xs) T fr)):Calls prog 96 #[.slice (some ⟨b,0,none⟩) n c] w (Ret w (.bool (xs.any sOut))):=by
 refine enter (vs:=[_]) func96 rfl ntmps96 rfl ?_;refine B 8 ?_;refine call call20 rfl rfl rfl (λW hS=>nxh sOut 146 call146 (λx W=>n4i x W) xs b T n c fr hn hn2 W (hS.old A0 hb0 zO trivial)) ?_;refine B 4 ?_;refine retV results96 rfl A0 ?_;rfl
theorem nbk(a b:Int)(ha:0<=a)(ha1:a<2305843009213688669)(hb:0<=b)(hb1:b<2305843009213688669)(w:World):Calls prog 97 #[.int .i64 a,.int .i64 b] w (Ret w (.int .i64 (a*b%2305843009213688669))):=by
 obtain⟨m1,m2,m3,m4,m5⟩:=nai ha ha1 hb hb1 zI;have m6:=Int.emod_nonneg (a*b) (b:=2305843009213688669) zI;have m7:=Int.emod_lt_of_pos (a*b) (b:=2305843009213688669) zI;refine enter (vs:=[_,_]) func97 rfl ntmps97 rfl ?_;refine B 11 ?_;refine zzg ?_;refine B 10 ?_;refine rv rfl rfl rfl (RV.re (v':=.int .i64 (a*b%2305843009213688669)) (cvtI_r underlying210 underlying3 rfl (by rw[m5];omega) (by rw[m5];omega)) (by rw[m5])) ?_;refine B 4 ?_;refine retV results97 rfl A0 ?_;rfl
theorem nFl(a:Int)(w:World):Calls prog 99 #[.int .i64 a] w (Ret w (.int .i64 (if sOut a then 1 else 0))):=by
 refine enter (vs:=[_]) func99 rfl ntmps99 rfl ?_;refine B 9 ?_;refine zte ?_;intro b4 w4 hb4 ha4 ho4 hm4 hz4;replace ha4:=yb ha4;replace ho4:=yc ho4;refine call call96 rfl rfl rfl (λW hS=>nOd [a] _ _ _ _ _ rfl zS W (hS.old A0 hb4 hm4 trivial)) ?_;refine B 2 ?_;refine zCD ?_ ?_
 ·intro hc1;refine B 7 ?_;refine retV results99 rfl A1 ?_;refine congrArg (Value.int .i64) ?_;simp_all
 intro hc1;refine B 8 ?_;refine retV results99 rfl A1 ?_;refine congrArg (Value.int .i64) ?_;simp_all
abbrev SOk (a:Int):Prop:=0<=a/\a<2305843009213688669
def sMul (a b:Int):Int×Int:=if SOk a/\SOk b then(a*b%2305843009213688669,0)else(0,1)
def sAdd (a b:Int):Int×Int:=if SOk a/\SOk b then((a+b)%2305843009213688669,0)else(0,1)
theorem out2{a b:Int}(h:[a,b].any sOut=false):SOk a/\SOk b:=by simp only[List.any_cons,List.any_nil,Bool.or_false,Bool.or_eq_false_iff]at h;exact⟨ndf.1 h.1,ndf.1 h.2⟩
theorem out2'{a b:Int}(h:[a,b].any sOut=true):¬(SOk a/\SOk b):=by
 simp only[List.any_cons,List.any_nil,Bool.or_false,Bool.or_eq_true]at h;intro⟨h1,h2⟩;rcases h with h|h
 ·exact n6f.1 h h1
 exact n6f.1 h h2
theorem nHn(a b:Int)(w:World):Calls prog 65 #[.int .i64 a,.int .i64 b] w (Ret w (eTup (sMul a b))):=by
 refine enter (vs:=[_,_]) func65 rfl ntmps65 rfl ?_;refine B 11 ?_;refine zte ?_;intro b8 w8 hb8 ha8 ho8 hm8 hz8;replace ha8:=yb ha8;replace ho8:=yc ho8;refine zlh ?_;refine B 2 ?_;refine zCD ?_ ?_
 ·intro hc1;refine B 1 ?_;have hg:=out2' hc1;refine B 7 ?_;exact zwj
 intro hc1;refine B 3 ?_;have hg:=out2 hc1;refine B 3 ?_;refine call call97 rfl rfl rfl (λW hS=>nbk _ _ zG zG zG zG W) ?_;refine B 5 ?_;exact zwj
theorem n0n(a b:Int)(w:World):Calls prog 66 #[.int .i64 a,.int .i64 b] w (Ret w (eTup (sAdd a b))):=by
 refine enter (vs:=[_,_]) func66 rfl ntmps66 rfl ?_;refine B 11 ?_;refine zte ?_;intro b8 w8 hb8 ha8 ho8 hm8 hz8;replace ha8:=yb ha8;replace ho8:=yc ho8;refine zlh ?_;refine B 2 ?_;refine zCD ?_ ?_
 ·intro hc1;refine B 1 ?_;have hg:=out2' hc1;refine B 7 ?_;exact zvj
 intro hc1;refine B 3 ?_;have hg:=out2 hc1;refine B 4 ?_;refine rv rfl rfl rfl (remU_r rfl rfl zG zG) ?_;refine B 5 ?_;exact zvj

abbrev KOk (x:Int):Prop:=1<=x/\x<2305843009213688669
theorem gok4:GOk 4:=by decide +kernel
def kPub (x:Int):Int×Int:=if KOk x then(powM 4 x 4611686018427377339,0)else(0,50)
theorem gExp4{x:Int}(h:KOk x):gExp 4 x=(powM 4 x 4611686018427377339,0):=by unfold gExp;rw[if_pos gok4,if_pos zG]
theorem nzi(a:Int)(w:World):Calls prog 61 #[.int .i64 a] w (Ret w (.bool (decide (KOk a)))):=by
 refine enter (vs:=[_]) func61 rfl ntmps61 rfl ?_;refine B 10 ?_;refine nf (t:=5) rfl (λhc1=>?_) (λhc1=>?_)
 ·replace hc1:=ya hc1;refine B 7 ?_;refine retV results61 rfl A0 ?_;refine congrArg Value.bool (aZo.2 ?_)
  (try simp only[decide_eq_true_eq,Bool.false_eq_true,false_iff,true_iff])
  first|omega|(intro h;omega)
 replace hc1:=ya hc1;refine B 7 ?_;refine retV results61 rfl A0 ?_;refine congrArg Value.bool (aZo.2 ?_)
 (try simp only[decide_eq_true_eq,Bool.false_eq_true,false_iff,true_iff])
 first|omega|(intro h;omega)
theorem n7g(a:Int)(w:World):Calls prog 62 #[.int .i64 a] w (Ret w (.int .i64 (gExp 4 a).1)):=by
 refine enter (vs:=[_]) func62 rfl ntmps62 rfl ?_;refine B 8 ?_;refine call call64 rfl rfl rfl (λW hS=>n1h _ W) ?_;refine B 14 ?_;refine retV results62 rfl A0 ?_;rfl
theorem n4g(a:Int)(w:World):Calls prog 31 #[.int .i64 a] w (Ret w (eTup (kPub a))):=by
 refine enter (vs:=[_]) func31 rfl ntmps31 rfl ?_;refine B 10 ?_;refine call call61 rfl rfl rfl (λW hS=>nzi _ W) ?_;refine B 3 ?_;refine zCD ?_ ?_
 ·intro hc1;refine B 8 ?_;exact zgj
 intro hc1;refine B 5 ?_;refine call call62 rfl rfl rfl (λW hS=>n7g _ W) ?_;refine B 5 ?_;exact zgj
theorem rot_s(n:Nat)(h1:1<=n)(h2:n<=31):(IntKind.u64.wrap (-(n:Int)))%32=((32-n:Nat):Int):=by rw[ny];omega
theorem nxc(x:BitVec 32)(n:Nat)(h1:1<=n)(h2:n<=31)(w:World):Calls prog 142 #[u32 x,.int .i64 (-(n:Int))] w (Ret w (u32 (nnc x n))):=by
 refine enter (vs:=[_,_]) func142 rfl ntmps142 rfl ?_;refine B 8 ?_;refine rv rfl rfl rfl (cvtW_r underlying3 underlying271 rfl) ?_;refine rv rfl rfl rfl (RV.re (v':=.int .u64 ((32-n:Nat):Int)) (mskC_r 5 32 zI rfl rfl rfl rfl (by rw[ny];omega) (by rw[ny];omega)) (congrArg (Value.int .u64) (rot_s n h1 h2))) ?_;refine B 7 ?_;refine rv rfl rfl rfl (shlV_r (32-n) zG rfl rfl rfl) ?_;refine B 2 ?_;refine rv rfl rfl rfl (RV.re (v':=.int .u64 (n:Int)) (subU_r rfl rfl zG zG) (congrArg (Value.int .u64) zG)) ?_;refine rv rfl rfl rfl (shrV_r n zG rfl rfl rfl) ?_;refine rv rfl rfl rfl (orV_r rfl rfl) ?_;refine B 4 ?_;refine retV results142 rfl A0 ?_;exact congrArg u32 (BitVec.or_comm _ _)
theorem nPe(x:BitVec 32)(a b c:Nat)(ha:1<=a)(ha1:a<=31)(hb:1<=b)(hb1:b<=31)(hc:1<=c)(hc1:c<=31)(w:World):Calls prog 143 #[u32 x,.int .i64 (a:Int),.int .i64 (b:Int),.int .i64 (c:Int)] w (Ret w (u32 (nnc x a^^^nnc x b^^^nnc x c))):=by
 refine enter (vs:=[_,_,_,_]) func143 rfl ntmps143 rfl ?_;refine B 9 ?_;refine rv rfl rfl rfl (negI_r rfl zG zG) ?_;refine call call142 rfl rfl rfl (λW hS=>nxc _ a zG zG W) ?_;refine B 2 ?_;refine rv rfl rfl rfl (negI_r rfl zG zG) ?_;refine call call142 rfl rfl rfl (λW hS=>nxc _ b zG zG W) ?_;refine rv rfl rfl rfl (xorV_r rfl rfl) ?_;refine B 2 ?_;refine rv rfl rfl rfl (negI_r rfl zG zG) ?_;refine call call142 rfl rfl rfl (λW hS=>nxc _ c zG zG W) ?_;refine rv rfl rfl rfl (xorV_r rfl rfl) ?_;refine B 4 ?_;refine retV results143 rfl A0 ?_;rfl
def wordN (m:Nat->Int):Nat->BitVec 32
 |0=>0
 |n+1=>wordN m n<<<8|||BitVec.ofInt 32 (m n)
theorem wordN_4(m:Nat->Int):wordN m 4=n2e m 0:=by
 simp only[wordN,n2e,BitVec.shiftLeft_or_distrib,<-BitVec.shiftLeft_add,aVo];simp
theorem nAl(m:Nat->Int)(b off n c t:Nat)(fr:Nat×Nat)(cs:Array Value)(hn:4<=n)(hc:n<=c)(w:World)(hb0:w.heap[b]? =some (.cells cs t fr))(hm:∀i,i<4->cs[off+i]? =some (.int .u8 (m i))):Calls prog 141 #[.slice (some ⟨b,off,none⟩) n c] w (Ret w (u32 (n2e m 0))):=by
 have hm0:¬Gh.no.M b:=λh=>h;refine enter (vs:=[_]) func141 rfl ntmps141 rfl ?_;refine B 9 ?_;refine rv rfl rfl rfl (slS0_r (h:=4) underlying52 sizeOf5 rfl ⟨_,_,rfl,rfl⟩ zG) ?_;refine B 5 ?_;refine CJ.loop (α:=Nat) (λj=>[(2,u32 (wordN m j)),(6,.slice (some ⟨b,off,none⟩) 4 c),(7,.int .i64 4),(8,.int .i64 (j:Int))]) (λj=>[]) (λj=>[w]) (λj=>Gh.no) (λj=>j<=4) (λj=>4-j) 0 zI zR rfl rfl zS ?_;rintro j hj;refine B 6 ?_;refine zCD ?_ ?_
 ·intro hc1;refine B 7 ?_;refine rv rfl rfl rfl (ldR_r (v:=.int .u8 (m j)) isAgg5 rfl A0 hb0 hm0 trivial (by rw[<-hm j zG];exact congrArg (λi=>cs[i]?) zG)) ?_;refine B 5 ?_;refine rv rfl rfl rfl (shlV_r 8 zI rfl rfl rfl) ?_;refine B 1 ?_;refine rv rfl rfl rfl (cvtV_r underlying5 underlying205 rfl) ?_;refine rv rfl rfl rfl (orV_r rfl rfl) ?_;refine B 8 ?_;exact zFi
 intro hc1;refine B 12 ?_;refine retV results141 rfl A0 ?_;have e:j=4:=by omega
 subst e;exact congrArg u32 (wordN_4 m)
def putN (cs:Array Value) (off len:Nat) (n:Nat):Nat->Array Value
 |0=>cs
 |i+1=>setCells (putN cs off len n i) (off+(len-1-i)) [.int .u8 ((n/2^(8*i)%256:Nat):Int)]
theorem nRj(cs:Array Value)(off len n:Nat):∀i,(putN cs off len n i).size=cs.size
 |0=>rfl
 |i+1=>by rw[putN,nPd];exact nRj cs off len n i
theorem shr_b(n i:Nat)(k:Int)(hk:k=((8*i:Nat):Int))(hi:i<=7):(n:Int).fdiv (2^(min (Int.toNat k) IntKind.u64.bits))%256=((n/2^(8*i)%256:Nat):Int):=by
 rw[shr_v n (8*i) k hk zG];omega
theorem nTd(n:Nat)(b off len cap t:Nat)(cs:Array Value)(hlen:len<=8)(hsz:off+len<=cs.size)(w:World)(hb:w.heap[b]? =some (.cells cs t (0,0))):Calls prog 91 #[.slice (some ⟨b,off,none⟩) len cap,.int .u64 (n:Int)] w (RetM w (.tuple #[]) b (.cells (putN cs off len n len) t (0,0))):=by
 refine nT Gh.no [(b,_)] (vs:=[_,_]) func91 rfl ntmps91 rfl (ngg hb) ?_;refine B 8 ?_;refine CJ.loop (α:=Nat) (λj=>[(0,.slice (some ⟨b,off,none⟩) len cap),(1,.int .u64 (n:Int)),(6,.int .i64 (len:Int)),(7,.int .i64 (j:Int))]) (λj=>[(b,.cells (putN cs off len n j) t (0,0))]) (λj=>[w]) (λj=>Gh.no) (λj=>j<=len) (λj=>len-j) 0 (a3o _) zR rfl rfl zS ?_;rintro j hj;refine B 6 ?_;refine zCD ?_ ?_
 ·intro hc1;refine B 20 ?_;refine rv rfl rfl rfl (shrW_r rfl rfl zG) ?_;refine rv rfl rfl rfl (RV.re (v':=.int .u8 ((n/2^(8*j)%256:Nat):Int)) (cvtB_r underlying210 underlying5 rfl) (congrArg (Value.int .u8) (shr_b n j _ zG zG))) ?_;refine rv rfl rfl rfl (RV.re (v':=ptr b (off+(len-1-j))) (idxS_r underlying52 sizeOf5 rfl rfl zG zG) (congrArg (λk=>ptr b (off+k)) zG)) ?_;refine stW (i:=0) rfl sizeOf5 rfl rfl rfl rfl (by rw[nRj];omega) rfl ?_;refine B 7 ?_;exact zFi
 intro hc1;refine B 4 ?_;have e:j=len:=by omega
 subst e;refine retG (.inr rfl) results91 RS.n (λW hS=>⟨rfl,(hS.links w A0).mono λk _ hk=>?_,hS.own _ A0⟩);simpa[Gh.no]using hk
theorem nUd(n:Nat)(f:Nat->Value)(i k:Nat)(h:k=i)(hi:i<n):(cf n f)[k]? =some (f i):=by subst h;exact cf_at n f k hi
theorem S8.cells_ld(s:S8)(i k:Nat)(h:k=i)(hi:i<8):s.cells[k]? =some (u32 (s.at i)):=by subst h;exact s.cells_at k hi
theorem cf_sch(m:Nat->Int)(j:Nat)(v:BitVec 32)(hv:v=if j<16 then n2e m (4*j)else schN m j (j-16)+s0 (schN m j (j-15))+schN m j (j-7)+s1 (schN m j (j-2))):setCells (cf 64 (λi=>u32 (schN m j i))) j (u32 v).cells.toList=cf 64 (λi=>u32 (schN m (j+1) i)):=by
 show setCells (cf 64 (λi=>u32 (schN m j i))) j [u32 v]=_;rw[nYf];congr 1;funext i;simp only[schN,upd];split<;>simp_all
def addN (s v:S8) (j:Nat):Array Value:=cf 8 (λk=>u32 (if k<j then s.at k+v.at k else s.at k))
theorem n2n(s v:S8)(j:Nat):setCells (addN s v j) j (u32 (s.at j+v.at j)).cells.toList=addN s v (j+1):=by
 show setCells (cf 8 _) j [u32 (s.at j+v.at j)]=_;rw[nYf];unfold addN;congr 1;funext i;simp only[upd];by_cases h:i=j
 ·subst h;simp
 by_cases h2:i<j
 ·simp[h,h2,show i<j+1 by omega]
 simp[h,h2,show ¬i<j+1 by omega]
theorem addN_8(s v:S8):addN s v 8=(s.add v).cells:=rfl
theorem addN_ld(s v:S8)(j k:Nat)(h:k=j)(hj:j<8):(addN s v j)[k]? =some (u32 (s.at j)):=by
 rw[addN,nUd 8 _ j k h hj];simp
theorem nQd(s:S8)(m:Nat->Int)(b bb off n c t:Nat)(fr fr3:Nat×Nat)(t3:Nat)(cs:Array Value)(hn:64<=n)(hc:n<=c)(w:World)(hb:w.heap[b]? =some (.cells s.cells 207 (0,0)))(hbb:w.heap[bb]? =some (.cells cs t fr))(hm:∀i,i<64->cs[off+i]? =some (.int .u8 (m i)))(hne:bb≠b)(hg:w.heap[2]? =some (.cells (cf 64 (λi=>u32 (kk i))) t3 fr3))(hgb:b≠2):Calls prog 90 #[ptr b 0,.slice (some ⟨bb,off,none⟩) n c] w (RetM w (.tuple #[]) b (.cells (s.comp m).cells 207 (0,0))):=by
 have hbbl:=(ago.1 hbb).1;have hbl:=(ago.1 hb).1;have hgl:=(ago.1 hg).1;refine nT Gh.no [(b,_)] (vs:=[_,_]) func90 rfl ntmps90 rfl (ngg hb) ?_;refine B 2 ?_;refine allW zeroValue268 rfl rfl ?_;intro b4 ha4 ho4;replace ha4:=yb ha4;replace ho4:=yc ho4;refine B 9 ?_;refine CJ.loop (α:=Nat) (λj=>[(0,ptr b 0),(1,.slice (some ⟨bb,off,none⟩) n c),(4,ptr b4 0),(14,.int .i64 (j:Int))]) (λj=>[(b4,.cells (cf 64 (λi=>u32 (schN m j i))) 268 (0,0)),(b,.cells s.cells 207 (0,0))]) (λj=>[w]) (λj=>Gh.no) (λj=>j<=16) (λj=>16-j) 0 zI zR rfl rfl zS ?_;rintro j hj;refine B 6 ?_;refine zCD ?_ ?_
 ·intro hc1;refine B 15 ?_;refine rv rfl rfl rfl (slS_r (l:=4*j) (h:=n) (off':=off+4*j) underlying52 sizeOf5 rfl ⟨_,_,rfl,by omega⟩ rfl zG zG (by rw[if_neg zG];omega)) ?_;refine call call141 rfl rfl rfl (λW hS=>nAl (λi=>m (4*j+i)) _ _ _ _ _ _ _ zG zG W (hS.old A0 hbb zO z7) (λi hi=>by rw[Nat.add_assoc];exact hm _ zG)) ?_;refine zRf ?_;refine B 7 ?_;refine PJ.reH (H':=[(b4,.cells (cf 64 (λi=>u32 (schN m (j+1) i))) 268 (0,0)),(b,.cells s.cells 207 (0,0))]) (by rw[<-cf_sch m j (n2e (λi=>m (4*j+i)) 0) (by rw[if_pos zG];rfl)];rfl) ?_;exact zFi
 intro hc1;refine B 12 ?_;have e:j=16:=by omega
 subst e;refine CJ.loop (α:=Nat) (λj=>[(0,ptr b 0),(4,ptr b4 0),(6,.int .i64 (j:Int))]) (λj=>[(b4,.cells (cf 64 (λi=>u32 (schN m j i))) 268 (0,0)),(b,.cells s.cells 207 (0,0))]) (λj=>[w]) (λj=>Gh.no) (λj=>16<=j/\j<=64) (λj=>64-j) 16 zI zR rfl rfl zS ?_;rintro j ⟨hj1,hj⟩;refine B 7 ?_;refine zCD ?_ ?_
 ·intro hc2;refine B 5 ?_;refine CJ.less (E':=[(0,_),(4,_),(6,_),(25,_),(26,_)]) zR ?_;refine nw 9 [.det [] _,.det [0] _,.det [1] _,.det [2] _,.det [] _,.det [4] _,.det [5] _,.det [6] _,.det [3] _] zM (xc zK (xc z5c (xc z9c (xc (by exact λvals=>X.val rfl rfl (ldW_r (v:=u32 (schN m j (j-15))) (i:=0) rfl isAgg205 rfl (nUd 64 (λi=>u32 (schN m j i)) (j-15) _ zG zG)) (λ_ _=>rfl)) (xc zK (xc z5c (xc z9c (xc (by exact λvals=>X.val rfl rfl (ldW_r (v:=u32 (schN m j (j-2))) (i:=0) rfl isAgg205 rfl (nUd 64 (λi=>u32 (schN m j i)) (j-2) _ zG zG)) (λ_ _=>rfl)) (xc (by exact λvals=>X.val rfl rfl (asg_r rfl) (λ_ _=>rfl)) (xn)))))))))) zM zM zM (λvals=>?_);refine B 3 ?_;refine CJ.less (E':=[(0,_),(4,_),(6,_),(7,_),(8,_),(25,_),(26,_),(29,_),(30,_),(31,_),(32,_),(33,_),(34,_),(35,_),(36,_)]) zR ?_;refine nw 28 [.det [] _,.det [] _,.det [1] _,.det [2] _,.det [3] _,.det [] _,.det [5] _,.det [] _,.det [7] _,.det [6,8] _,.det [] _,.det [10] _,.det [9,11] _,.det [4,12] _,.det [] _,.det [14] _,.det [15] _,.det [16] _,.det [13,17] _,.det [] _,.det [19] _,.det [] _,.det [21] _,.det [20,22] _,.det [] _,.det [24] _,.det [23,25] _,.det [18,26] _] zM (xc zK (xc zK (xc z5c (xc z9c (xc (by exact λvals=>X.val rfl rfl (ldW_r (v:=u32 (schN m j (j-16))) (i:=0) rfl isAgg205 rfl (nUd 64 (λi=>u32 (schN m j i)) (j-16) _ zG zG)) (λ_ _=>rfl)) (xc zK (xc (by exact λvals=>ni call142 rfl rfl (λW hS _=>nxc _ 7 zI zI W) (λ_=>rfl)) (xc zK (xc (by exact λvals=>ni call142 rfl rfl (λW hS _=>nxc _ 18 zI zI W) (λ_=>rfl)) (xc zLb (xc zK (xc (by exact λvals=>X.val rfl rfl (shrV_r 3 zI rfl rfl rfl) (λ_ _=>rfl)) (xc zLb (xc zCb (xc zK (xc z5c (xc z9c (xc (by exact λvals=>X.val rfl rfl (ldW_r (v:=u32 (schN m j (j-7))) (i:=0) rfl isAgg205 rfl (nUd 64 (λi=>u32 (schN m j i)) (j-7) _ zG zG)) (λ_ _=>rfl)) (xc zCb (xc zK (xc (by exact λvals=>ni call142 rfl rfl (λW hS _=>nxc _ 17 zI zI W) (λ_=>rfl)) (xc zK (xc (by exact λvals=>ni call142 rfl rfl (λW hS _=>nxc _ 19 zI zI W) (λ_=>rfl)) (xc zLb (xc zK (xc (by exact λvals=>X.val rfl rfl (shrV_r 10 zI rfl rfl rfl) (λ_ _=>rfl)) (xc zLb (xc zCb (xn))))))))))))))))))))))))))))) zM zM zM (λvals=>?_)
  refine zRf ?_;refine B 8 ?_;refine PJ.reH (H':=[(b4,.cells (cf 64 (λi=>u32 (schN m (j+1) i))) 268 (0,0)),(b,.cells s.cells 207 (0,0))]) (by rw[<-cf_sch m j _ (by rw[if_neg zG])];rfl) ?_;exact zFi
 intro hc2;refine B 10 ?_;refine allW zeroValue207 rfl rfl ?_;intro b9 ha9 ho9;replace ha9:=yb ha9;replace ho9:=yc ho9;refine stWw (i:=0) rfl sizeOf207 rfl rfl rfl rfl rfl rfl ?_;refine B 9 ?_;have e:j=64:=by omega
 subst e;obtain⟨ws,hX⟩:∃ws,ws=schN m 64:=⟨_,rfl⟩;refine CJ.reH (H':=[(b9,.cells s.cells 207 (0,0)),(b4,.cells (cf 64 (λi=>u32 (ws i))) 268 (0,0)),(b,.cells s.cells 207 (0,0))]) (by rw[hX];rfl) ?_;refine CJ.loop (α:=Nat) (λj=>[(0,ptr b 0),(4,ptr b4 0),(9,ptr b9 0),(69,.int .i64 (j:Int))]) (λj=>[(b9,.cells (S8.run ws s j).cells 207 (0,0)),(b4,.cells (cf 64 (λi=>u32 (ws i))) 268 (0,0)),(b,.cells s.cells 207 (0,0))]) (λj=>[w]) (λj=>Gh.no) (λj=>j<=64) (λj=>64-j) 0 zI zR rfl rfl zS ?_;rintro j hj;dsimp only;generalize hv:S8.run ws s j=v;refine B 6 ?_;refine zCD ?_ ?_
 ·intro hc3;refine B 11 ?_;refine CJ.less (E':=[(0,_),(4,_),(9,_),(10,_),(69,_),(70,_),(71,_)]) zR ?_;refine nw 25 [.det [] _,.det [0] _,.det [] _,.det [2] _,.det [3] _,.det [1,4] _,.det [] _,.det [6] _,.det [] _,.det [8] _,.det [] _,.det [10] _,.det [] _,.det [12] _,.det [11,13] _,.det [9,14] _,.det [7,15] _,.det [5,16] _,.det [] _,.det [18] _,.det [19] _,.det [17,20] _,.det [] _,.det [22] _,.det [23] _] zM (xc zXc (xc zdb (xc zXc (xc zdb (xc (by exact λvals=>ni call143 rfl rfl (λW hS _=>nPe _ 6 11 25 zI zI zI zI zI zI W) (λ_=>rfl)) (xc zCb (xc zXc (xc zdb (xc zXc (xc zdb (xc zXc (xc zdb (xc zXc (xc zdb (xc zLb (xc zDc (xc zLb (xc zCb (xc zK (xc z9c (xc (by exact λvals=>X.val rfl rfl (ldR_r (v:=u32 (kk j)) isAgg205 rfl A0 hg zO z7 (nUd 64 (λi=>u32 (kk i)) j _ zG zG)) (λ_ _=>rfl)) (xc zCb (xc zK (xc z9c (xc (by exact λvals=>X.val rfl rfl (ldW_r (v:=u32 (ws j)) (i:=1) rfl isAgg205 rfl (nUd 64 (λi=>u32 (ws i)) j _ zG zG)) (λ_ _=>rfl)) (xn)))))))))))))))))))))))))) zM zM zM (λvals=>?_);refine rv rfl rfl rfl (addV_r rfl rfl) ?_;refine B 4 ?_;refine CJ.less (E':=[(0,_),(4,_),(9,_),(10,_),(11,_),(69,_),(70,_),(71,_),(72,_),(73,_),(74,_),(75,_),(76,_),(77,_),(78,_),(79,_),(80,_),(81,_),(82,_),(83,_),(84,_),(85,_),(86,_),(87,_),(88,_),(89,_),(90,_),(91,_),(92,_),(93,_),(94,_),(95,_),(96,_),(97,_)]) zR ?_
  refine nw 17 [.det [] _,.det [0] _,.det [1] _,.det [] _,.det [3] _,.det [] _,.det [5] _,.det [4,6] _,.det [] _,.det [8] _,.det [] _,.det [10] _,.det [] _,.det [12] _,.det [11,13] _,.det [9,14] _,.det [7,15] _] zM (xc zXc (xc zdb (xc (by exact λvals=>ni call143 rfl rfl (λW hS _=>nPe _ 2 13 22 zI zI zI zI zI zI W) (λ_=>rfl)) (xc zXc (xc zdb (xc zXc (xc zdb (xc zDc (xc zXc (xc zdb (xc zXc (xc zdb (xc zXc (xc zdb (xc (by exact λvals=>X.val rfl rfl (orV_r rfl rfl) (λ_ _=>rfl)) (xc zDc (xc (by exact λvals=>X.val rfl rfl (orV_r rfl rfl) (λ_ _=>rfl)) (xn)))))))))))))))))) zM zM zM (λvals=>?_);refine rv rfl rfl rfl (addV_r rfl rfl) ?_;refine B 4 ?_;refine CJ.less (E':=[(0,_),(4,_),(9,_),(10,_),(11,_),(12,_),(69,_),(70,_),(71,_),(72,_),(73,_),(74,_),(75,_),(76,_),(77,_),(78,_),(79,_),(80,_),(81,_),(82,_),(83,_),(84,_),(85,_),(86,_),(87,_),(88,_),(89,_),(90,_),(91,_),(92,_),(93,_),(94,_),(95,_),(96,_),(97,_),(98,_),(99,_),(100,_),(101,_),(102,_),(103,_),(104,_),(105,_),(106,_),(107,_),(108,_),(109,_),(110,_),(111,_),(112,_),(113,_),(114,_),(115,_)]) zR ?_;refine nw 2 [.det [] _,.det [] _] zM (xc (by exact λvals=>X.val rfl rfl (slA_r (l:=1) underlying207 sizeOf205 rfl ⟨_,_,rfl,rfl⟩ rfl zG zG (by rw[if_neg zG])) (λ_ _=>rfl)) (xc (by exact λvals=>X.val rfl rfl (slA0_r (h:=7) underlying207 sizeOf205 rfl ⟨_,_,rfl,rfl⟩ zG) (λ_ _=>rfl)) (xn))) zM zM zM (λvals=>?_)
  refine cpW (i:=0) (n:=7) rfl underlying273 sizeOf205 rfl rfl rfl rfl (λ_=>rfl) zI (Rd.own (i:=0) rfl (apo rfl) rfl) (apo rfl) rfl ?_;refine B 3 ?_;refine CJ.reH (H':=[(b9,.cells #[u32 v.a,u32 v.a,u32 v.b,u32 v.c,u32 v.d,u32 v.e,u32 v.f,u32 v.g] 207 (0,0)),(b4,.cells (cf 64 (λi=>u32 (ws i))) 268 (0,0)),(b,.cells s.cells 207 (0,0))]) rfl ?_;refine B 4 ?_;refine zSh ?_;refine B 5 ?_;refine zSh ?_;refine B 7 ?_;refine PJ.reH (H':=[(b9,.cells (S8.run ws s (j+1)).cells 207 (0,0)),(b4,.cells (cf 64 (λi=>u32 (ws i))) 268 (0,0)),(b,.cells s.cells 207 (0,0))]) (by simp only[S8.run,hv,S8.step,S8.P,S8.Q,<-chf_alt,<-maj_alt];rfl) ?_;exact zFi
 intro hc3;refine B 11 ?_;have e:j=64:=by omega
 subst e;refine CJ.loop (α:=Nat) (λj=>[(0,ptr b 0),(9,ptr b9 0),(129,.int .i64 (j:Int))]) (λj=>[(b9,.cells v.cells 207 (0,0)),(b4,.cells (cf 64 (λi=>u32 (ws i))) 268 (0,0)),(b,.cells (addN s v j) 207 (0,0))]) (λj=>[w]) (λj=>Gh.no) (λj=>j<=8) (λj=>8-j) 0 zI zR rfl rfl zS ?_;rintro j hj;refine B 6 ?_;refine zCD ?_ ?_
 ·intro hc4;refine B 10 ?_;refine CJ.less (E':=[(0,_),(9,_),(13,_),(129,_),(130,_),(131,_)]) zR ?_;refine nw 10 [.det [] _,.det [] _,.det [0] _,.det [1,2] _,.det [3] _,.det [] _,.det [5] _,.det [6] _,.det [4,7] _,.det [0] _] zM (xc zK (xc zK (xc zec (xc zXc (xc (by exact λvals=>X.val rfl rfl (ldW_r (v:=u32 (s.at j)) (i:=2) rfl isAgg205 rfl (addN_ld s v j _ zG zG)) (λ_ _=>rfl)) (xc zK (xc zXc (xc (by exact λvals=>X.val rfl rfl (ldW_r (v:=u32 (v.at j)) (i:=0) rfl isAgg205 rfl (S8.cells_ld _ j _ zG zG)) (λ_ _=>rfl)) (xc zCb (xc zec (xn))))))))))) zM zM zM (λvals=>?_);refine rv rfl rfl rfl (RV.re (v':=ptr b j) (idxA_r underlying207 sizeOf205 rfl rfl zG zG) (congrArg (ptr b) zG)) ?_;refine stW (i:=2) rfl sizeOf205 rfl rfl rfl rfl (by rw[addN,nZ];omega) rfl ?_;refine B 7 ?_;refine PJ.reH (H':=[(b9,.cells v.cells 207 (0,0)),(b4,.cells (cf 64 (λi=>u32 (ws i))) 268 (0,0)),(b,.cells (addN s v (j+1)) 207 (0,0))]) (by rw[<-n2n];rfl) ?_;exact zFi
 intro hc4;refine B 4 ?_;have e:j=8:=by omega
 subst e;rw[show(s.comp m).cells=addN s v 8 from by rw[addN_8,S8.comp,<-hX,hv]];refine retG (.inr rfl) results90 RS.n (λW hS=>⟨rfl,(hS.links w A0).mono λk hk hx=>?_,hS.own _ A2⟩);simp only[Gh.no,afo,a0o,aeo,aCo,or_false,false_or]at hx;omega
theorem nTh:prog.info? 5=some Tryz.t5:=by kernel_rfl
theorem cf_lay(N:Nat)(g:Nat->Value):∀(news:List Value) (f:Nat->Value) (off:Nat),(∀i,i<news.length->news[i]? =some (g (off+i)))->setCells (cf N f) off news=cf N (λi=>if off<=i/\i<off+news.length then g i else f i)
 | [],f,off,_=>by
  show cf N f=_;apply npd;intro i _;rw[if_neg (by simp only[a1o];omega)]
 |v::vs,f,off,h=>by
  have h0:=h 0 zS;simp only[aho,a9n,Nat.add_zero]at h0;show setCells (setCells (cf N f) off [v]) (off+1) vs=_;rw[nYf,cf_lay N g vs _ (off+1) (λi hi=>by
   have:=h (i+1) zGb;simp only[aio]at this;rw[this];congr 2;omega)]
  apply npd;intro i _;simp only[axo,upd];by_cases h1:i=off
  ·subst h1;rw[if_neg zG,if_pos rfl,if_pos zG,h0]
  by_cases h2:off+1<=i/\i<off+1+vs.length
  ·rw[if_pos h2,if_pos zG]
  rw[if_neg h2,if_neg h1,if_neg zG]
theorem nPi(N:Nat)(f:Nat->Value)(off len n:Nat):∀k,k<=len->putN (cf N f) off len n k=cf N (λi=>if off+(len-k)<=i/\i<off+len then .int .u8 ((n/2^(8*(off+len-1-i))%256:Nat):Int)else f i)
 |0,_=>by
  show cf N f=_;apply npd;intro i _;rw[if_neg zG]
 |k+1,hk=>by
  rw[putN,nPi N f off len n k zG,nYf];apply npd;intro i _;simp only[upd];by_cases h1:i=off+(len-1-k)
  ·rw[if_pos h1,if_pos zG,show off+len-1-i=k by omega]
  rw[if_neg h1];by_cases h2:off+(len-k)<=i/\i<off+len
  ·rw[if_pos h2,if_pos zG]
  rw[if_neg h2,if_neg zG]
theorem dg_cf(f:Nat->Int):cf 32 (λk=>.int .u8 (f k))=dg f:=rfl
variable {cs:Array Value}
theorem ntm{o r:Nat}{m:Nat->Int}(h:o+r<=cs.size)(hm:∀i,i<r->cs[o+i]? =some (.int .u8 (m i))):∀i,i<((cs.toList.drop o).take (r*1)).length->((cs.toList.drop o).take (r*1))[i]? =some (.int .u8 (m i)):=by
 intro i hi;have hi':i<r:=by simp at hi;omega
 rw[atp zG,aGo,auo,hm i hi']
theorem nAh{o r:Nat}(h:o+r<=cs.size):((cs.toList.drop o).take (r*1)).length=r:=by simp;omega
theorem njm{m:Nat->Int}:∀(l:List Value),(∀i,i<l.length->l[i]? =some (.int .u8 (m i)))->nO l=true
 | [],_=>rfl
 |v::l,h=>by
  have h0:=h 0 zS;simp at h0;subst h0;simp only[nO,one1,Bool.true_and];exact njm (m:=λi=>m (i+1)) l λi hi=>by have:=h (i+1) zGb;simpa using this
def endF (n:Nat) (m:Nat->Int) (j N i:Nat):Value:=if(N-8)+(8-8)<=i/\i<(N-8)+8 then .int .u8 ((8*n/2^(8*((N-8)+8-1-i))%256:Nat):Int)else upd (λi=>if 0<=i/\i<0+(n-64*j)then .int .u8 (m (64*j+i))else .int .u8 0) (n-64*j) (.int .u8 128) i
theorem nvk(n:Nat)(m:Nat->Int)(j N:Nat):putN (setCells (cf 128 (λi=>if 0<=i/\i<0+(n-64*j)then .int .u8 (m (64*j+i))else .int .u8 0)) (n-64*j) [.int .u8 128]) (N-8) 8 (8*n) 8=cf 128 (endF n m j N):=by
 rw[nYf,nPi 128 _ _ 8 _ 8 (abo _)];rfl
theorem nml(n:Nat)(m:Nat->Int)(j N i:Nat)(hj:64*j<=n)(hN:64*(nBlk n-j)=N)(hr:n-64*j<64)(hi:i<N):endF n m j N i= .int .u8 (padF n m (64*j+i)):=by
 have hb:nBlk n=j+N/64:=by unfold nBlk at *;omega
 have hN8:N=64\/N=128:=by unfold nBlk at hN;omega
 have hrN:n-64*j+9<=N:=by unfold nBlk at hN;omega
 simp only[endF,padF,upd];by_cases h1:i<n-64*j
 ·rw[if_neg zG,if_neg zG,if_pos zG,if_pos zG]
 rw[if_neg (show ¬64*j+i<n by omega)];by_cases h2:i=n-64*j
 ·rw[if_neg zG,if_pos h2,if_pos zG]
 rw[if_neg (show ¬64*j+i=n by omega)];by_cases h3:i<N-8
 ·rw[if_neg zG,if_neg h2,if_neg zG,if_pos zG]
 rw[if_pos zG,if_neg zG,show 64*nBlk n-1-(64*j+i)=N-8+8-1-i by omega];congr 1
def outN (s:S8) (i:Nat):Array Value:=cf 32 (λk=>.int .u8 (if k<4*i then outB s k else 0))
theorem nSj(s:S8)(i:Nat)(hi:i<8):putN (outN s i) (4*i) 4 (s.at i).toNat 4=outN s (i+1):=by
 unfold outN;rw[nPi 32 _ (4*i) 4 _ 4 (abo _)];apply npd;intro k hk;by_cases h:k<4*i
 ·rw[if_neg zG,if_pos h,if_pos zG]
 by_cases h2:k<4*i+4
 ·rw[if_pos zG,if_pos zG];unfold outB;rw[show k/4=i by omega,show 24-8*(k%4)=8*(4*i+4-1-k) by omega]
 rw[if_neg zG,if_neg h,if_neg zG]
theorem outN_8(s:S8):outN s 8=dg (outB s):=by
 rw[<-dg_cf];unfold outN;apply npd;intro k hk;rw[if_pos zG]
theorem pad_raw(n:Nat)(m:Nat->Int)(i:Nat)(h:i<n):padF n m i=m i:=by unfold padF;rw[if_pos h]
theorem nZd(n:Nat)(m:Nat->Int)(bb off c t t2 t3:Nat)(fr fr2 fr3:Nat×Nat)(cs:Array Value)(hc:n<=c)(hn:n<1152921504606846976)(w:World)(hbb:w.heap[bb]? =some (.cells cs t fr))(hoff:off+n<=cs.size)(hm:∀i,i<n->cs[off+i]? =some (.int .u8 (m i)))(hg2:w.heap[0]? =some (.cells S8.init.cells t2 fr2))(hg:w.heap[2]? =some (.cells (cf 64 (λi=>u32 (kk i))) t3 fr3)):Calls prog 55 #[.slice (some ⟨bb,off,none⟩) n c] w (Ret w (.agg (dg (sha n m)))):=by
 have hbbl:=(ago.1 hbb).1;have hg2l:=(ago.1 hg2).1;have hgl:=(ago.1 hg).1;refine enter (vs:=[_]) func55 rfl ntmps55 rfl ?_;refine B 2 ?_;refine z8e ?_;intro b2 ha2 ho2;replace ha2:=yb ha2;replace ho2:=yc ho2;refine B 4 ?_;refine rv rfl rfl rfl (ldRAw_r isAgg206 sizeOf206 rfl A0 hg2 zO z7 rfl) ?_;refine allW zeroValue207 rfl rfl ?_;intro b3 ha3 ho3;replace ha3:=yb ha3;replace ho3:=yc ho3;refine stWw (i:=0) rfl sizeOf207 rfl rfl rfl rfl rfl rfl ?_;refine B 4 ?_;refine z7f ?_;refine B 11 ?_;refine CJ.loop (α:=Nat×Nat) (λp=>[(0,.slice (some ⟨bb,off,none⟩) n c),(2,ptr b2 0),(3,ptr b3 0),(4,.func (.func 90) #[ptr b3 0] #[]),(5,.slice (some ⟨bb,p.2,none⟩) (n-64*p.1) (c-64*p.1))]) (λp=>[(b3,.cells (stN n m p.1).cells 207 (0,0)),(b2,.cells #[.int .u8 0,.int .u8 0,.int .u8 0,.int .u8 0,.int .u8 0,.int .u8 0,.int .u8 0,.int .u8 0,.int .u8 0,.int .u8 0,.int .u8 0,.int .u8 0,.int .u8 0,.int .u8 0,.int .u8 0,.int .u8 0,.int .u8 0,.int .u8 0,.int .u8 0,.int .u8 0,.int .u8 0,.int .u8 0,.int .u8 0,.int .u8 0,.int .u8 0,.int .u8 0,.int .u8 0,.int .u8 0,.int .u8 0,.int .u8 0,.int .u8 0,.int .u8 0] 43 (0,0))]) (λp=>[w]) (λp=>Gh.no) (λp=>64*p.1<=n/\(64*p.1<c->p.2=off+64*p.1)/\p.2<=off+64*p.1) (λp=>n-64*p.1) (0,off) z2 zR rfl rfl zS ?_;rintro⟨j,o⟩ ⟨hj,ho,ho1⟩;dsimp only at hj ho ho1 ⊢
 refine B 8 ?_;refine zCD ?_ ?_
 ·intro hc1;refine B 7 ?_;refine rv rfl rfl rfl (slS0_r (h:=64) underlying52 sizeOf5 rfl ⟨_,_,rfl,rfl⟩ zG) ?_;refine nMc (f:=90) (i:=0) (first:=[ptr b3 0]) (cap:=[]) rfl rfl call90 rfl rfl rfl (λW hS hW=>nQd (stN n m j) (λi=>padF n m (64*j+i)) b3 bb o 64 (c-64*j) t fr fr3 t3 cs zG zG W hW (hS.old A0 hbb zO z7) (λi hi=>by rw[pad_raw n m _ zG,<-hm _ zG];exact congrArg (λk=>cs[k]?) (by have:=ho zG;omega)) zG (hS.old A0 hg zO z7) zG) ?_;refine B 5 ?_;refine rv rfl rfl rfl (slS_r (l:=64) (h:=n-64*j) underlying52 sizeOf5 rfl ⟨_,_,rfl,rfl⟩ rfl zG zG rfl) ?_;refine B 2 ?_;refine PJ.again (j+1,if c-64*j=64 then o else o+64*1) (by dsimp only;split<;>omega) z2 ⟨rfl,rfl,rfl,rfl,by rw[show n-64*(j+1)=n-64*j-64 by omega,show c-64*(j+1)=c-64*j-64 by omega];rfl,trivial⟩ rfl rfl zS
 intro hc1;refine B 7 ?_;refine mkSW (ln:=64) (cp:=128) underlying52 nTh rfl rfl rfl rfl rfl rfl rfl zG zI zG ?_;intro b21 ha21 ho21;replace ha21:=yb ha21;replace ho21:=yc ho21;refine B 4 ?_;have hmr:∀i,i<n-64*j->cs[o+i]? =some (.int .u8 (m (64*j+i))):=λi hi=>by rw[<-hm _ zG];exact congrArg (λk=>cs[k]?) (by have:=ho zG;omega)
 refine B 3 ?_;refine cpW (i:=0) (n:=n-64*j) rfl underlying52 sizeOf5 rfl rfl rfl rfl (λ_=>rfl) zG (Rd.old A0 hbb zO z7 zG rfl) (by rw[nAh zG,nZ];omega) (njm _ (ntm (m:=λi=>m (64*j+i)) zG hmr)) ?_;refine B 3 ?_;refine CJ.reH (H':=[(b21,.cells (cf 128 (λi=>if 0<=i/\i<0+(n-64*j)then .int .u8 (m (64*j+i))else .int .u8 0)) 5 (0,0)),(b3,.cells (stN n m j).cells 207 (0,0)),(b2,.cells #[.int .u8 0,.int .u8 0,.int .u8 0,.int .u8 0,.int .u8 0,.int .u8 0,.int .u8 0,.int .u8 0,.int .u8 0,.int .u8 0,.int .u8 0,.int .u8 0,.int .u8 0,.int .u8 0,.int .u8 0,.int .u8 0,.int .u8 0,.int .u8 0,.int .u8 0,.int .u8 0,.int .u8 0,.int .u8 0,.int .u8 0,.int .u8 0,.int .u8 0,.int .u8 0,.int .u8 0,.int .u8 0,.int .u8 0,.int .u8 0,.int .u8 0,.int .u8 0] 43 (0,0))]) (by rw[<-nAh (cs:=cs) (o:=o) (r:=n-64*j) zG,<-cf_lay 128 (λi=>.int .u8 (m (64*j+i))) _ _ 0 (by intro i hi;rw[aVo];exact ntm (m:=λi=>m (64*j+i)) zG hmr i hi),nAh zG];rfl) ?_;refine B 4 ?_;refine rv rfl rfl rfl (RV.re (v':=ptr b21 (n-64*j)) (idxS_r underlying52 sizeOf5 rfl rfl zG zG) (congrArg (ptr b21) zG)) ?_;refine stW (i:=0) rfl sizeOf5 rfl rfl rfl rfl (by rw[nZ];omega) rfl ?_;refine B 10 ?_;refine zCD ?_ ?_
 ·intro hc2;refine B 2 ?_;refine rv rfl rfl rfl (slS0_r (h:=128) underlying52 sizeOf5 rfl ⟨_,_,rfl,rfl⟩ zG) ?_;refine B 4 ?_;obtain⟨N,hN,hNN⟩:∃N,N=128/\64*(nBlk n-j)=N:=⟨128,rfl,by unfold nBlk;omega⟩;refine B 5 ?_;refine rv rfl rfl rfl (slS_r (l:=120) (h:=128) (off':=120) underlying52 sizeOf5 rfl ⟨_,_,rfl,rfl⟩ rfl zG zG rfl) ?_;refine B 3 ?_;refine zmf ?_;refine OJ.reH (H':=[(b21,.cells (cf 128 (endF n m j N)) 5 (0,0)),(b3,.cells (stN n m j).cells 207 (0,0)),(b2,.cells #[.int .u8 0,.int .u8 0,.int .u8 0,.int .u8 0,.int .u8 0,.int .u8 0,.int .u8 0,.int .u8 0,.int .u8 0,.int .u8 0,.int .u8 0,.int .u8 0,.int .u8 0,.int .u8 0,.int .u8 0,.int .u8 0,.int .u8 0,.int .u8 0,.int .u8 0,.int .u8 0,.int .u8 0,.int .u8 0,.int .u8 0,.int .u8 0,.int .u8 0,.int .u8 0,.int .u8 0,.int .u8 0,.int .u8 0,.int .u8 0,.int .u8 0,.int .u8 0] 43 (0,0))]) (by subst hN;rw[<-nvk];rfl) ?_;refine B 4 ?_;refine CJ.loop (α:=Nat×Nat) (λp=>[(2,ptr b2 0),(3,ptr b3 0),(4,.func (.func 90) #[ptr b3 0] #[]),(6,.slice (some ⟨b21,p.2,none⟩) (N-64*p.1) (128-64*p.1))]) (λp=>[(b21,.cells (cf 128 (endF n m j N)) 5 (0,0)),(b3,.cells (stN n m (j+p.1)).cells 207 (0,0)),(b2,.cells #[.int .u8 0,.int .u8 0,.int .u8 0,.int .u8 0,.int .u8 0,.int .u8 0,.int .u8 0,.int .u8 0,.int .u8 0,.int .u8 0,.int .u8 0,.int .u8 0,.int .u8 0,.int .u8 0,.int .u8 0,.int .u8 0,.int .u8 0,.int .u8 0,.int .u8 0,.int .u8 0,.int .u8 0,.int .u8 0,.int .u8 0,.int .u8 0,.int .u8 0,.int .u8 0,.int .u8 0,.int .u8 0,.int .u8 0,.int .u8 0,.int .u8 0,.int .u8 0] 43 (0,0))]) (λp=>[w]) (λp=>Gh.no) (λp=>64*p.1<=N/\(64*p.1<128->p.2=64*p.1)) (λp=>N-64*p.1) (0,0) z2 ⟨rfl,rfl,rfl,by subst hN;rfl,trivial⟩ rfl rfl zS ?_
  rintro⟨k,o2⟩ ⟨hk,ho2⟩;dsimp only at hk ho2 ⊢;refine B 8 ?_;refine zCD ?_ ?_
  ·intro hc3;exact zGi
  intro hc3;refine B 13 ?_;have hjk:j+k=nBlk n:=by unfold nBlk at *;omega
  rw[hjk];refine zUe ?_;rintro i hi;refine B 6 ?_;refine zCD ?_ ?_
  ·intro hc4;exact zij
  intro hc4;exact zUi
 intro hc2;refine B 3 ?_;obtain⟨N,hN,hNN⟩:∃N,N=64/\64*(nBlk n-j)=N:=⟨64,rfl,by unfold nBlk;omega⟩;refine B 5 ?_;refine rv rfl rfl rfl (slS_r (l:=56) (h:=64) (off':=56) underlying52 sizeOf5 rfl ⟨_,_,rfl,rfl⟩ rfl zG zG rfl) ?_;refine B 3 ?_;refine zmf ?_;refine OJ.reH (H':=[(b21,.cells (cf 128 (endF n m j N)) 5 (0,0)),(b3,.cells (stN n m j).cells 207 (0,0)),(b2,.cells #[.int .u8 0,.int .u8 0,.int .u8 0,.int .u8 0,.int .u8 0,.int .u8 0,.int .u8 0,.int .u8 0,.int .u8 0,.int .u8 0,.int .u8 0,.int .u8 0,.int .u8 0,.int .u8 0,.int .u8 0,.int .u8 0,.int .u8 0,.int .u8 0,.int .u8 0,.int .u8 0,.int .u8 0,.int .u8 0,.int .u8 0,.int .u8 0,.int .u8 0,.int .u8 0,.int .u8 0,.int .u8 0,.int .u8 0,.int .u8 0,.int .u8 0,.int .u8 0] 43 (0,0))]) (by subst hN;rw[<-nvk];rfl) ?_;refine B 4 ?_;refine CJ.loop (α:=Nat×Nat) (λp=>[(2,ptr b2 0),(3,ptr b3 0),(4,.func (.func 90) #[ptr b3 0] #[]),(6,.slice (some ⟨b21,p.2,none⟩) (N-64*p.1) (128-64*p.1))]) (λp=>[(b21,.cells (cf 128 (endF n m j N)) 5 (0,0)),(b3,.cells (stN n m (j+p.1)).cells 207 (0,0)),(b2,.cells #[.int .u8 0,.int .u8 0,.int .u8 0,.int .u8 0,.int .u8 0,.int .u8 0,.int .u8 0,.int .u8 0,.int .u8 0,.int .u8 0,.int .u8 0,.int .u8 0,.int .u8 0,.int .u8 0,.int .u8 0,.int .u8 0,.int .u8 0,.int .u8 0,.int .u8 0,.int .u8 0,.int .u8 0,.int .u8 0,.int .u8 0,.int .u8 0,.int .u8 0,.int .u8 0,.int .u8 0,.int .u8 0,.int .u8 0,.int .u8 0,.int .u8 0,.int .u8 0] 43 (0,0))]) (λp=>[w]) (λp=>Gh.no) (λp=>64*p.1<=N/\(64*p.1<128->p.2=64*p.1)) (λp=>N-64*p.1) (0,0) z2 ⟨rfl,rfl,rfl,by subst hN;rfl,trivial⟩ rfl rfl zS ?_
 rintro⟨k,o2⟩ ⟨hk,ho2⟩;dsimp only at hk ho2 ⊢;refine B 8 ?_;refine zCD ?_ ?_
 ·intro hc5;exact zGi
 intro hc5;refine B 13 ?_;have hjk:j+k=nBlk n:=by unfold nBlk at *;omega
 rw[hjk];refine zUe ?_;rintro i hi;refine B 6 ?_;refine zCD ?_ ?_
 ·intro hc6;exact zij
 intro hc6;exact zUi
theorem nrl(n:Nat)(h0:0<n)(h1:n<=1099511627776)(w:World):Calls prog 92 #[.slice none 0 0,.int .i64 (n:Int)] w (RetX w (λp:Nat×Nat=>.slice (some ⟨p.1,0,none⟩) 0 p.2) (λp w1=>w.heap.size<=p.1/\n<=p.2/\w1.heap[p.1]? =some (.cells (cf p.2 (λ_=>.int .u8 0)) 5 (0,0)))):=by
 refine enter (vs:=[_,_]) func92 rfl ntmps92 rfl ?_;refine B 9 ?_;refine zUd ?_;refine B 10 ?_;refine rv rfl rfl rfl (capS_r underlying52 rfl) ?_;refine B 3 ?_;refine rv rfl rfl rfl (RV.re (v':=.int .i64 (n:Int)) (subI_r rfl rfl zG zG) (congrArg (Value.int .i64) zG)) ?_;refine B 6 ?_;refine zbh ?_;refine B 6 ?_;refine rv rfl rfl rfl (capS_r underlying52 rfl) ?_;refine rv rfl rfl rfl (slN_r underlying52 sizeOf5 rfl ⟨_,_,rfl,rfl⟩) ?_;refine B 1 ?_;refine appZ underlying52 underlying3 nTh rfl rfl rfl rfl rfl rfl rfl rfl h0 h1 ?_;intro b22 cap ha22 ho22 hcap;replace ha22:=yb ha22;refine B 2 ?_;refine rv rfl rfl rfl (slS0_r (h:=0) underlying52 sizeOf5 rfl ⟨_,_,rfl,rfl⟩ zG) ?_;refine B 10 ?_;exact retG (.inl rfl) results92 (RS.t rfl RS.n) (λW hS=>⟨(b22,cap),rfl,hS.base A0 zmb,by omega,by omega,hS.own _ A0⟩)
def nTi (ss:List Seg):Array Value:=(ss.map Seg.val).toArray
theorem n4h(ss:List Seg)(j k:Nat)(h:k=j)(hj:j<ss.length):(nTi ss)[k]? =some ss[j].val:=by subst h;simp[nTi,hj]
theorem nJk(ss:List Seg)(b0 c0 t0:Nat)(fr0:Nat×Nat)(hk:ss.length<1000)(h0:0<(nr ss).length)(h1:(nr ss).length<=1099511627776)(w:World)(hb0:w.heap[b0]? =some (.cells (nTi ss) t0 fr0))(hss:∀s∈ss,s.At w):Calls prog 56 #[.slice (some ⟨b0,0,none⟩) ss.length c0] w (RetX w (λp:Nat×Nat×List Value=>.slice (some ⟨p.1,0,none⟩) (nr ss).length p.2.1) (λp w1=>w.heap.size<=p.1/\((nr ss).length<=p.2.1/\p.2.2.length=p.2.1-(nr ss).length)/\w1.heap[p.1]? =some (.cells (nr ss++p.2.2).toArray 5 (0,0)))):=by
 have hb0l:=(ago.1 hb0).1;refine zGe ?_;rintro j hj;have hl1:=nTc ss (j+1);have hlj:∀h:j<ss.length,(nr (ss.take (j+1))).length=(nr (ss.take j)).length+(ss[j]).n:=λh=>by rw[nHc ss j h,aHo];exact congrArg (_+ ·) (nW _ _)
 refine B 6 ?_;refine zCD ?_ ?_
 ·intro hc1;refine B 5 ?_;have hjl:j<ss.length:=by omega
  have hlj2:=hlj hjl;refine B 2 ?_;refine rv rfl rfl rfl (ldR_r (v:=(ss[j]'zG).val) isAgg52 rfl A0 hb0 zO trivial (n4h ss j _ zG zG)) ?_;exact zik
 intro hc1;refine B 6 ?_;have e:j=ss.length:=by omega
 subst e;rw[afp (abo _)];refine B 2 ?_;refine zXf ?_;rintro⟨bg,cg⟩ hag hog hcg;simp only[Above]at hag hcg;refine B 12 ?_;refine zse ?_;rintro⟨j,b,cap,sp⟩ ⟨hj,h2,h3,h4⟩;dsimp only at hj h2 h3 h4 ⊢;have hl1:=nTc ss (j+1);have hlj:∀h:j<ss.length,(nr (ss.take (j+1))).length=(nr (ss.take j)).length+(ss[j]).n:=λh=>by rw[nHc ss j h,aHo];exact congrArg (_+ ·) (nW _ _)
 refine B 6 ?_;refine zCD ?_ ?_
 ·intro hc2;refine B 5 ?_;have hjl:j<ss.length:=by omega
  have hlj2:=hlj hjl;refine B 2 ?_;refine rv rfl rfl rfl (ldR_r (v:=(ss[j]'zG).val) isAgg52 rfl A0 hb0 zO z7 (n4h ss j _ zG zG)) ?_;refine B 3 ?_;obtain⟨csj,tj,frj,hsb,hso,hsm⟩:=hss (ss[j]'zG) (alp _);have hsbl:=(ago.1 hsb).1;refine B 3 ?_;refine appW (i:=0) (m:=1) (ys:=nr (ss.take j)) (sp:=sp) (news:=(ss[j]'zG).l) (n:=(ss[j]'zG).n) rfl underlying52 nTh rfl rfl rfl rfl rfl rfl rfl (SrcJ.sl underlying52 (Rd.old A0 hsb zO z7 zG (nkj zG hsm)) (by rw[arp];exact nW _ _) (nZk _ _)) zG zG h3 ⟨h2,trivial⟩ zG (by show _*1<=_;omega) ?_;exact zPi
 exact zWi
def cat2 (n:Nat) (m m':Nat->Int) (i:Nat):Int:=if i<n then m i else m' (i-n)
theorem nFj(n n':Nat)(m m':Nat->Int):byts n m++byts n' m'=byts (n+n') (cat2 n m m'):=by
 apply aDo;intro i;by_cases h:i<n
 ·rw[aOo (by rw[nW];exact h)];simp[byts,h,show i<n+n' by omega,cat2]
 rw[aLo (by rw[nW];omega),nW];by_cases h2:i<n+n'
 ·simp[byts,h2,show i-n<n' by omega,cat2,h]
 rw[aYo (by rw[nW];omega),aYo (by rw[nW];omega)]
theorem nnm(n:Nat)(m:Nat->Int)(sp:List Value)(i:Nat)(h:i<n):((byts n m++sp).toArray)[0+i]? =some (.int .u8 (m i)):=by
 rw[aVo,aUo,aOo (by rw[nW];exact h)];simp[byts,h]
def tagged (s:ByteArray) (n:Nat) (m:Nat->Int):Nat->Int:=sha (32+n) (cat2 32 (sha s.size (sB s)) m)
theorem nLf(s:ByteArray)(n:Nat)(m:Nat->Int)(bb off c t t2 t3:Nat)(fr fr2 fr3:Nat×Nat)(cs:Array Value)(hs0:s.size<1000)(hc:n<=c)(hn:n<1000000000000)(w:World)(hbb:w.heap[bb]? =some (.cells cs t fr))(hoff:off+n<=cs.size)(hm:∀i,i<n->cs[off+i]? =some (.int .u8 (m i)))(hg2:w.heap[0]? =some (.cells S8.init.cells t2 fr2))(hg:w.heap[2]? =some (.cells (cf 64 (λi=>u32 (kk i))) t3 fr3)):Calls prog 26 #[.string s,.slice (some ⟨bb,off,none⟩) n c] w (Ret w (.agg (dg (tagged s n m)))):=by
 have hbbl:=(ago.1 hbb).1;have hg2l:=(ago.1 hg2).1;have hgl:=(ago.1 hg).1;refine enter (vs:=[_,_]) func26 rfl ntmps26 rfl ?_;refine B 2 ?_;refine z8e ?_;intro b4 ha4 ho4;replace ha4:=yb ha4;replace ho4:=yc ho4;refine B 5 ?_;refine cvtSB underlying9 underlying52 underlying5 rfl rfl rfl ?_;intro b7 cap7 w7 cs7 fr7 hb7 ha7 ho7 hm7 hz7 hc7 hz7b hs7;replace ha7:=yb ha7;try simp only[Off,ne_eq]at ho7
 refine call call55 rfl rfl rfl (λW hS=>nZd s.size (sB s) b7 0 cap7 _ _ _ _ _ _ cs7 zG zG W (hS.old A0 hb7 hm7 z7) zG hs7 (hS.old A1 hg2 zO z7) (hS.old A1 hg zO z7)) ?_;refine z8e ?_;intro b5 ha5 ho5;replace ha5:=yb ha5;replace ho5:=yc ho5;refine zHe ?_;refine B 3 ?_;have hsl:(nr [⟨b5,0,32,32,sha s.size (sB s)⟩,⟨bb,off,n,c,m⟩]).length=32+n:=by simp[nr,Seg.l,nW]
 have hsegs:∀W,W.heap[b5]? =some (.cells (dg (sha s.size (sB s))) 43 (0,0))->W.heap[bb]? =some (.cells cs t fr)->∀x∈([⟨b5,0,32,32,sha s.size (sB s)⟩,⟨bb,off,n,c,m⟩]:List Seg),x.At W:=λW h1 h2 x hx=>by
  simp only[aeo,aCo,or_false]at hx;rcases hx with rfl|rfl
  ·exact⟨_,_,_,h1,abo 32,λi hi=>by rw[aVo];exact dg_at _ i hi⟩
  exact⟨_,_,_,h2,hoff,hm⟩
 refine zVh ?_;intro b11 w11 hb11 ha11 ho11 hm11 hz11;replace ha11:=yb ha11;replace ho11:=yc ho11;refine nvg (bo:=λp:Nat×Nat×List Value=>(p.1,.cells (nr [⟨b5,0,32,32,sha s.size (sB s)⟩,⟨bb,off,n,c,m⟩]++p.2.2).toArray 5 (0,0))) (Φ:=λp=>(nr [⟨b5,0,32,32,sha s.size (sB s)⟩,⟨bb,off,n,c,m⟩]).length<=p.2.1/\p.2.2.length=p.2.1-(nr [⟨b5,0,32,32,sha s.size (sB s)⟩,⟨bb,off,n,c,m⟩]).length) call56 rfl rfl rfl (λW hS=>nJk [⟨b5,0,32,32,sha s.size (sB s)⟩,⟨bb,off,n,c,m⟩] b11 2 _ _ zS (by rw[hsl];omega) (by rw[hsl];omega) W (hS.old A0 hb11 hm11 z7) (hsegs W (hS.own _ A0) (hS.old A2 hbb zO z7))) ?_;rintro⟨bc,cc,spc⟩ hac hoc ⟨hcc,hspc⟩;replace hac:=yb hac;dsimp only at hcc hspc;rw[hsl]at hcc hspc;refine OJ.re (v':=.slice (some ⟨bc,0,none⟩) (32+n) cc) (by show Value.slice _ (nr _).length _=_;rw[hsl]) ?_;refine OJ.reH (H':=[(bc,.cells (byts (32+n) (cat2 32 (sha s.size (sB s)) m)++spc).toArray 5 (0,0)),(b5,.cells (dg (sha s.size (sB s))) 43 (0,0)),(b4,.cells #[.int .u8 0,.int .u8 0,.int .u8 0,.int .u8 0,.int .u8 0,.int .u8 0,.int .u8 0,.int .u8 0,.int .u8 0,.int .u8 0,.int .u8 0,.int .u8 0,.int .u8 0,.int .u8 0,.int .u8 0,.int .u8 0,.int .u8 0,.int .u8 0,.int .u8 0,.int .u8 0,.int .u8 0,.int .u8 0,.int .u8 0,.int .u8 0,.int .u8 0,.int .u8 0,.int .u8 0,.int .u8 0,.int .u8 0,.int .u8 0,.int .u8 0,.int .u8 0] 43 (0,0))]) (by rw[<-nFj];simp only[nr,Seg.l,asp];rfl) ?_
 refine call call55 rfl rfl rfl (λW hS=>nZd (32+n) (cat2 32 (sha s.size (sB s)) m) bc 0 cc _ _ _ _ _ _ _ zG zG W (hS.own _ A0) (by simp only[amp,aHo,nW];omega) (λi hi=>nnm _ _ _ i hi) (hS.old A2 hg2 zO z7) (hS.old A2 hg zO z7)) ?_;refine zDh ?_;rfl
def tScal (s:ByteArray) (n:Nat) (m:Nat->Int):Int:=1+nAd 2305843009213688668 (dgL (tagged s n m)) 0
theorem nAi(s:ByteArray)(n:Nat)(m:Nat->Int):Byt (tagged s n m):=sha_byt _ _
theorem nmk(s:ByteArray)(n:Nat)(m:Nat->Int)(bb off c t t2 t3:Nat)(fr fr2 fr3:Nat×Nat)(cs:Array Value)(hs0:s.size<1000)(hc:n<=c)(hn:n<1000000000000)(w:World)(hbb:w.heap[bb]? =some (.cells cs t fr))(hoff:off+n<=cs.size)(hm:∀i,i<n->cs[off+i]? =some (.int .u8 (m i)))(hg2:w.heap[0]? =some (.cells S8.init.cells t2 fr2))(hg:w.heap[2]? =some (.cells (cf 64 (λi=>u32 (kk i))) t3 fr3)):Calls prog 94 #[.string s,.slice (some ⟨bb,off,none⟩) n c] w (Ret w (.int .i64 (tScal s n m))):=by
 have hB:=nAi s n m;have hbd:=nmh 2305843009213688668 zI (dgL (tagged s n m)) 0 zI zI;refine enter (vs:=[_,_]) func94 rfl ntmps94 rfl ?_;refine B 9 ?_;refine call call26 rfl rfl rfl (λW hS=>nLf s n m bb off c _ _ _ _ _ _ cs hs0 hc hn W (hS.old A0 hbb zO trivial) hoff hm (hS.old A0 hg2 zO trivial) (hS.old A0 hg zO trivial)) ?_;refine call call144 rfl rfl rfl (λW hS=>non _ hB _ zI zI W) ?_;refine B 6 ?_;refine retV results94 rfl A0 ?_;rfl




theorem bt:ByteT prog 52 5:=⟨underlying52,underlying5,⟨_,nTh,rfl,rfl,rfl⟩,sizeOf5⟩
theorem zig_eq(n:Int)(h1: -9223372036854775808<=n)(h2:n<=9223372036854775807):IntKind.u64.wrap (BitVec.ofInt 64 (IntKind.u64.wrap (IntKind.u64.wrap n*2))^^^BitVec.ofInt 64 (IntKind.u64.wrap (n/9223372036854775808))).toNat=(zig n:Int):=by
 simp only[ny];unfold zig;by_cases h:0<=n
 ·rw[if_pos h,show n/9223372036854775808=0 by omega];have:(0:Int)%18446744073709551616=0:=by decide
  rw[this,show n%18446744073709551616*2%18446744073709551616=2*n by omega];have e:BitVec.ofInt 64 0=0#64:=rfl;rw[e,BitVec.xor_zero,BitVec.toNat_ofInt];omega
 rw[if_neg h,show n/9223372036854775808= -1 by omega];have:(-1:Int)%18446744073709551616=18446744073709551615:=by decide
 rw[this,show n%18446744073709551616*2%18446744073709551616=2*n+18446744073709551616 by omega];have e:BitVec.ofInt 64 18446744073709551615=BitVec.allOnes 64:=by decide
 rw[e,BitVec.xor_allOnes,BitVec.toNat_not,BitVec.toNat_ofInt];omega
theorem zig_lt(n:Int)(h1: -9223372036854775808<=n)(h2:n<=9223372036854775807):zig n<18446744073709551616:=by unfold zig;split<;>omega
theorem or128(u:Nat):IntKind.u8.wrap (BitVec.ofInt IntKind.u8.bits ((u:Int)%256)|||BitVec.ofInt IntKind.u8.bits 128).toNat=((UInt8.ofNat (u%128+128)).toNat:Int):=by
 have key:∀v:BitVec 8,(v|||128#8).toNat=(v.toNat%128+128):=by decide
 have e:BitVec.ofInt IntKind.u8.bits 128=128#8:=rfl;rw[e];have e2:(BitVec.ofInt 8 ((u:Int)%256)).toNat=u%256:=by rw[BitVec.toNat_ofInt];omega
 have:=key (BitVec.ofInt 8 ((u:Int)%256));rw[e2]at this;show IntKind.u8.wrap (BitVec.ofInt 8 ((u:Int)%256)|||128#8).toNat=_;rw[this,nhl];simp only[UInt8.toNat_ofNat'];omega
theorem byte_of(u:Nat)(h:u<256):((u:Int)%256)=((UInt8.ofNat u).toNat:Int):=by
 simp only[UInt8.toNat_ofNat'];omega
theorem nXi(n:Int)(h1: -9223372036854775808<=n)(h2:n<=9223372036854775807)(w:World):Calls prog 138 #[.int .i64 n] w (Ret w (.int .u64 (zig n:Int))):=by
 refine enter (vs:=[_]) func138 rfl ntmps138 rfl ?_;refine B 8 ?_;refine rv rfl rfl rfl (cvtW_r underlying3 underlying210 rfl) ?_;refine rv rfl rfl rfl (shlC_r 1 2 zI rfl rfl rfl) ?_;refine B 1 ?_;refine rv rfl rfl rfl (shrC_r 63 9223372036854775808 zI rfl rfl rfl) ?_;refine rv rfl rfl rfl (cvtW_r underlying3 underlying210 rfl) ?_;refine rv rfl rfl rfl (xorW_r rfl rfl) ?_;refine B 4 ?_;refine retV results138 rfl A0 ?_;exact congrArg (Value.int .u64) (zig_eq n h1 h2)
theorem nVc(xs:List UInt8)(u:Nat)(hu:u<18446744073709551616)(b cap:Nat)(sp:List Value)(hrow:RowOk xs cap sp)(hlim:xs.length<=900000000000)(w:World)(hb:w.heap[b]? =some (rowC 5 xs sp)):Calls prog 137 #[rowV b xs.length cap,.int .u64 (u:Int)] w (nme w b 5 (xs++num u)):=by
 have hbl:=(ago.1 hb).1;have hn10:=nJb hu;refine nT (vs:=[_,_]) (Gh.lent (· =b)) [(b,rowC 5 xs sp)] func137 rfl ntmps137 rfl (ntd hb) ?_;refine B 7 ?_;refine CJ.loop (α:=List UInt8×Nat×Nat×Nat×List Value) (λp=>[(0,rowV p.2.2.1 p.1.length p.2.2.2.1),(1,.int .u64 (p.2.1:Int))]) (λp=>[(p.2.2.1,rowC 5 p.1 p.2.2.2.2)]) (λp=>[w]) (λp=>Gh.lent (· =b)) (λp=>xs++num u=p.1++num p.2.1/\p.2.1<18446744073709551616/\Fr (Gh.lent (· =b)) [w] p.2.2.1/\RowOk p.1 p.2.2.2.1 p.2.2.2.2) (λp=>p.2.1) (xs,u,b,cap,sp) ⟨rfl,hu,.inl rfl,hrow⟩ ⟨rfl,rfl,trivial⟩ rfl rfl zS ?_;rintro⟨ys,v,b1,c1,sp1⟩ ⟨hinv,hv,hf,hr⟩;dsimp only at hinv hv hf hr ⊢;have hll:(ys++num v).length<=900000000010:=by rw[<-hinv,aHo];omega
 have hvp:=num_pos v;rw[aHo]at hll;refine B 7 ?_;refine zCD ?_ ?_
 ·intro hc1;refine B 7 ?_;refine rv rfl rfl rfl (cvtB_r underlying210 underlying5 rfl) ?_;refine rv rfl rfl rfl (RV.re (v':=.int .u8 ((UInt8.ofNat (v%128+128)).toNat:Int)) (orW_r rfl rfl) (congrArg (Value.int .u8) (or128 v))) ?_;refine bsB [UInt8.ofNat (v%128+128)] bt zeroValue5 rfl rfl rfl rfl rfl rfl rfl rfl rfl ?_;intro b13 ha13 ho13 hx13 hr13;replace ha13:=yb ha13;replace ho13:=yd ho13;refine apB (i:=1) (xs:=ys) (zs:=[UInt8.ofNat (v%128+128)]) (sp:=sp1) rfl bt rfl rfl rfl rfl (SrcB.own (i:=0) underlying52 rfl) hr hf zDb ?_;intro b14 c14 s14 hf14 hr14;have hg14:=hf14;replace hg14:=ye hg14;refine OJ.dropF (i:=0) rfl (.inr ⟨ha13.1,trivial⟩) ?_;refine B 6 ?_;refine rv rfl rfl rfl (RV.re (v':=.int .u64 ((v/128:Nat):Int)) (shrC_r 7 128 zI rfl rfl rfl) (congrArg (Value.int .u64) zG)) ?_;refine B 2 ?_;refine PJ.again (ys++[UInt8.ofNat (v%128+128)],v/128,b14,c14,s14) ⟨by dsimp only;rw[hinv,n4k zG,a2o];rfl,by dsimp only;omega,hf14,hr14⟩ z2 ⟨rfl,rfl,trivial⟩ rfl rfl zS
 intro hc1;refine B 9 ?_;refine rv rfl rfl rfl (RV.re (v':=.int .u8 ((UInt8.ofNat v).toNat:Int)) (cvtB_r underlying210 underlying5 rfl) (congrArg (Value.int .u8) (byte_of v zG))) ?_;refine bsB [UInt8.ofNat v] bt zeroValue5 rfl rfl rfl rfl rfl rfl rfl rfl rfl ?_;intro b18 ha18 ho18 hx18 hr18;replace ha18:=yb ha18;replace ho18:=yd ho18;refine apB (i:=1) (xs:=ys) (zs:=[UInt8.ofNat v]) (sp:=sp1) rfl bt rfl rfl rfl rfl (SrcB.own (i:=0) underlying52 rfl) hr hf zDb ?_;intro b19 c19 s19 hf19 hr19;have hg19:=hf19;replace hg19:=ye hg19;refine OJ.dropF (i:=0) rfl (.inr ⟨ha18.1,trivial⟩) ?_;refine B 4 ?_;rw[hinv,nVk zG];exact nWh (i:=0) (.inl rfl) results137 rfl rfl A0 (by simp only[OverX,adp,a9o,ahp,aip,and_true];simp only[Fr,Gh.lent,Above]at hf19;omega) hr19
variable {C:Cx} {E:Env} {G:Gh} {H:Heap} {L:List World} {T:Nat} {x:Operand}
theorem eqlE_r{U:Nat}{y:Operand}(hx:ev E x=some (.string ⟨#[]⟩))(hy:ev E y=some (.string ⟨#[]⟩)):RV C G L H E (.binOp .eql T x y U) (.bool true):=
 RV.re (eqlS_r hx hy) (congrArg Value.bool zS)
def ElAt (N:Nat) (w:World) (base:Option Addr) (l:List V):Prop:=∀i (h:i<l.length),∃bl cs t fr,base=some ⟨bl,0,none⟩/\bl<N/\w.heap[bl]? =some (.cells cs t fr)/\4*i+4<=cs.size/\∃a1 a2 p3 n3 c3,cut cs (4*i) 4=#[.int .i64 (l[i]).kind,.int .i64 a1,.string a2,.slice p3 n3 c3]/\VAt N w l[i] (.agg #[.int .i64 (l[i]).kind,.int .i64 a1,.string a2,.slice p3 n3 c3])
variable {N:Nat}
theorem VAt.list{w:World}{l:List V}{v:Value}(h:VAt N w (.list l) v):∃base cap,v=vL base l.length cap/\l.length<=cap/\ElAt N w base l:=by
 simp only[VAt]at h;obtain⟨base,cap,hv,hc,hl⟩:=h;refine⟨base,cap,hv,hc,λi hi=>?_⟩;rcases hl with rfl|⟨b,cs,t,fr,hb,hlt,hcs,hs⟩
 ·simp at hi
 obtain⟨h1,h2⟩:=hs.get i hi;rw[aVo]at h1 h2;obtain⟨a1,a2,p3,n3,c3,hsh⟩:=h2.shape;rw[hsh]at h2;exact⟨b,cs,t,fr,hb,hlt,hcs,h1,a1,a2,p3,n3,c3,by injection hsh,h2⟩
def nCk (x:V):Prop:=∀(N:Nat) (w:World) (v:Value),N<=w.heap.size->VAt N w x v->x.fine->Calls prog 135 #[v] w (Ret w (.tuple #[.int .i64 (x.depth:Int),.bool true]))
theorem nnn(n:Int)(w:World):Calls prog 135 #[vI n] w (Ret w (.tuple #[.int .i64 0,.bool true])):=by
 refine zXh ?_;intro b1 w1 hb1 ha1 ho1 hm1 hz1;replace ha1:=yb ha1;replace ho1:=yc ho1;refine B 13 ?_;refine z3d ?_;refine B 5 ?_;refine nf (t:=21) rfl (λhc1=>?_) (λhc1=>?_)
 ·replace hc1:=ya hc1;refine B 9 ?_;refine nf (t:=30) rfl (λhc2=>?_) (λhc2=>?_)
  ·replace hc2:=ya hc2;exact zgk
  replace hc2:=ya hc2;exact zgk
 replace hc1:=ya hc1;refine B 9 ?_;refine nf (t:=30) rfl (λhc3=>?_) (λhc3=>?_)
 ·replace hc3:=ya hc3;exact zgk
 replace hc3:=ya hc3;exact zgk
theorem nzl(x:ByteArray)(w:World):Calls prog 135 #[vT x] w (Ret w (.tuple #[.int .i64 0,.bool true])):=by
 refine zXh ?_;intro b1 w1 hb1 ha1 ho1 hm1 hz1;replace ha1:=yb ha1;replace ho1:=yc ho1;refine B 8 ?_;refine rv rfl rfl rfl (eqlS_r rfl rfl) ?_;refine B 1 ?_;refine nf (t:=12) rfl (λhc1=>?_) (λhc1=>?_)
 ·replace hc1:=ya hc1;refine B 3 ?_;refine z3d ?_;refine B 3 ?_;refine zPh ?_;exact zDi
 replace hc1:=ya hc1;refine B 7 ?_;refine zPh ?_;exact zDi
theorem nUl(l:List V)(ih:∀y∈l,nCk y)(hfin:(V.list l).fine)(N:Nat)(base:Option Addr)(cap:Nat)(w:World)(hN:N<=w.heap.size)(hel:ElAt N w base l):Calls prog 135 #[vL base l.length cap] w (Ret w (.tuple #[.int .i64 ((V.depthL l+1:Nat):Int),.bool true])):=by
 simp only[V.fine]at hfin;obtain⟨hf1,hf2,hf3⟩:=hfin;refine zXh ?_;intro b1 w1 hb1 ha1 ho1 hm1 hz1;replace ha1:=yb ha1;replace ho1:=yc ho1;refine B 17 ?_;refine z3d ?_;refine B 8 ?_;refine z3d ?_;refine B 6 ?_;refine zag ?_;intro b4 ha4 ho4;replace ha4:=yb ha4;replace ho4:=yc ho4;refine zcf ?_;refine B 7 ?_;refine zUd ?_;refine B 3 ?_;refine zvg ?_;refine B 18 ?_;refine zUd ?_;refine B 15 ?_;refine CJ.dropAt (i:=0) rfl ⟨by omega,by omega,trivial⟩ ?_;refine CJ.loop (α:=Nat) (λi=>[(1,ptr b1 0),(2,.int .i64 ((V.depthL (l.take i):Nat):Int)),(55,.slice base l.length cap),(56,.int .i64 (l.length:Int)),(57,.int .i64 (i:Int))]) (λi=>[]) (λi=>[w1,w]) (λi=>Gh.no) (λi=>i<=l.length/\V.depthL (l.take i)<=1000000000) (λi=>l.length-i) 0 ⟨a3o _,by simp[V.depthL]⟩ zR rfl rfl zS ?_;rintro i ⟨hi,hdi⟩;refine B 6 ?_;refine zCD ?_ ?_
 ·intro hc1;refine B 5 ?_;obtain⟨bl,cs,te,fre,rfl,hbl,hcs,hcz,a1,a2,p3,n3,c3,hcut,hva⟩:=hel i zG;have hbl2:=(ago.1 hcs).1;obtain⟨y,hy⟩:∃y,l[i]'zG=y:=⟨_,rfl⟩;rw[hy]at hcut hva;have hym:y∈l:=hy▸alp _;refine B 2 ?_;refine rv rfl rfl rfl (RV.re (v':=.agg #[.int .i64 y.kind,.int .i64 a1,.string a2,.slice p3 n3 c3]) (ldRA_r isAgg149 sizeOf149 rfl A1 hcs zO trivial zG) (congrArg Value.agg (by rw[<-hcut];congr 1;omega))) ?_;refine zqf ?_;intro b6 ha6 ho6;replace ha6:=yb ha6;replace ho6:=yc ho6;refine zef ?_;refine B 5 ?_;refine call call135 rfl rfl rfl (λW hS=>ih y hym N W _ (aco hN (hS.links _ A1).size) (VAt.up (abo _) (hS.same A1 hN zN (by first|exact True.intro|(simp only[Over,adp,a9o,and_true];omega))) _ _ hva) (V.fineL_mem hf3 y hym)) ?_;refine B 20 ?_;refine rv rfl rfl rfl (maxI_r rfl rfl) ?_;refine B 8 ?_;refine PJ.dropAt (i:=0) rfl ⟨by omega,by omega,trivial⟩ ?_;refine PJ.again (i+1) ⟨by omega,by have h1:=V.depthL_take l i zG;rw[hy]at h1;have h2:=V.depthL_mem y hym;omega⟩ zG ⟨rfl,congrArg some (congrArg (Value.int .i64) (by rw[V.depthL_take l i zG,hy];omega)),rfl,rfl,rfl,trivial⟩ rfl rfl zS
 intro hc1;refine B 14 ?_;refine nP results135 rfl rfl A1 ?_ ?_
 ·have e:i=l.length:=by omega
  subst e;rw[afp (abo _)];rfl
 rfl
theorem nrn:∀x,nCk x:=by
 refine V.ind ?_ ?_ ?_
 ·intro n N w v _ hv _;simp only[VAt]at hv;subst hv;exact nnn n w
 ·intro s N w v _ hv _;simp only[VAt]at hv;subst hv;exact nzl s w
 intro l ih N w v hN hv hf;obtain⟨base,cap,rfl,hc,hel⟩:=hv.list;exact nUl l ih hf N base cap w hN hel
theorem nBl(x:V)(n1:Int)(s2:ByteArray)(p3:Option Addr)(n3 c3:Nat)(hfin:x.fine)(hd:x.depth<=16)(N:Nat)(w:World)(hN:N<=w.heap.size)(hva:VAt N w x (.agg #[.int .i64 x.kind,.int .i64 n1,.string s2,.slice p3 n3 c3])):Calls prog 88 #[.agg #[.int .i64 x.kind,.int .i64 n1,.string s2,.slice p3 n3 c3]] w (Ret w (.int .i64 0)):=by
 refine enter (vs:=[_]) func88 rfl ntmps88 rfl ?_;refine B 3 ?_;intro b1 w1 hb1 ha1 ho1 hm1 hz1;replace ha1:=yb ha1;replace ho1:=yc ho1;refine B 5 ?_;refine rv rfl rfl rfl (ldRAw_r isAgg149 sizeOf149 rfl A0 hb1 hm1 trivial rfl) ?_;refine call call135 rfl rfl rfl (λW hS=>nrn x N W _ (aco hN (hS.links _ A1).size) (VAt.up (abo _) (hS.same A1 hN zN (by first|exact True.intro|(simp only[Over,adp,a9o,and_true];omega))) _ _ hva) hfin) ?_;refine B 20 ?_;refine zvg ?_;refine B 13 ?_;refine retV results88 rfl A1 ?_;rfl
def V.fn:V->Nat
 | .int _=>136
 | .text _=>139
 | .list _=>140
def V.cap (bv:Nat):V->List Value
 | .list _=>[ptr bv 0]
 |_=>[]
def wrC (bv:Nat):Array Value:=#[.nilFunc,.func (.func 136) #[] #[],.func (.func 139) #[] #[],.func (.func 140) #[] #[ptr bv 0]]
theorem wrC_at(bv:Nat)(x:V)(k:Nat)(hk:(k:Int)=x.kind):(wrC bv)[k]? =some (.func (.func x.fn) #[] (x.cap bv).toArray):=by
 cases x<;>simp only[V.kind]at hk
 ·have:k=1:=by omega
  subst this;rfl
 ·have:k=2:=by omega
  subst this;rfl
 have:k=3:=by omega
 subst this;rfl
theorem V.kind_bd(x:V):1<=x.kind/\x.kind<=3:=by cases x<;>simp[V.kind]
structure Wr (N:Nat) (w:World) (bv bw:Nat):Prop where
 ltv:bv<N
 ltw:bw<N
 atv:w.heap[bv]? =some (.cells #[ptr bw 0] 203 (0,0))
 atw:w.heap[bw]? =some (.cells (wrC bv) 264 (0,0))
variable {N':Nat} {w':World}
theorem Wr.up{w:World}{bv bw:Nat}(h:Wr N w bv bw)(hN:N<=N')(hw:∀k,k<N->w'.heap[k]? =w.heap[k]?):Wr N' w' bv bw:=
 ⟨by have:=h.ltv;omega,by have:=h.ltw;omega,(hw _ h.ltv).trans h.atv,(hw _ h.ltw).trans h.atw⟩
theorem noi(w:World):Calls prog 89 #[] w (RetX w (λp:Nat×Nat=>ptr p.1 0) (λp w1=>w.heap.size<=p.1/\w.heap.size<=p.2/\w1.heap[p.2]? =some (.cells #[ptr p.1 0] 203 (0,0))/\w1.heap[p.1]? =some (.cells (wrC p.2) 264 (0,0)))):=by
 refine enter (vs:=[]) func89 rfl ntmps89 rfl ?_;refine B 8 ?_;refine boxW rfl rfl rfl ?_;intro b3 ha3 ho3;replace ha3:=yb ha3;replace ho3:=yc ho3;refine allW zeroValue203 rfl rfl ?_;intro b1 ha1 ho1;replace ha1:=yb ha1;replace ho1:=yc ho1;refine stWw (i:=0) rfl sizeOf203 rfl rfl rfl rfl rfl rfl ?_;refine B 8 ?_;refine zPg ?_;refine B 8 ?_;refine zPg ?_;refine B 9 ?_;refine zPg ?_;refine B 9 ?_;exact retG (.inl rfl) results89 (RS.t rfl RS.n) (λW hS=>⟨(b3,b1),rfl,hS.base A0 zic,by simp only[Above]at *;omega,by simp only[Above]at *;omega,hS.own (b1,_) A0,hS.own (b3,_) A1⟩)
def n2i (x:V):Prop:=∀(N b cap bv bw:Nat) (xs:List UInt8) (sp:List Value) (w:World) (v:Value),VAt N w x v->x.fine->Wr N w bv bw->N<=b->N<=w.heap.size->RowOk xs cap sp->xs.length+x.enc.length<=800000000000->w.heap[b]? =some (rowC 5 xs sp)->
 Calls prog x.fn (rowV b xs.length cap::v::x.cap bv).toArray w (nme w b 5 (xs++x.enc))
theorem nwn(n:Int)(hn:(V.int n).fine)(xs:List UInt8)(b cap:Nat)(sp:List Value)(hrow:RowOk xs cap sp)(w:World)(hb:w.heap[b]? =some (rowC 5 xs sp))(hlim:xs.length+(V.int n).enc.length<=800000000000):Calls prog 136 #[rowV b xs.length cap,vI n] w (nme w b 5 (xs++(V.int n).enc)):=by
 have hbl:=(ago.1 hb).1;simp only[V.fine]at hn;simp only[V.enc,axo]at hlim;have hz:=zig_lt n hn.1 hn.2;refine nT (vs:=[_,_]) (Gh.lent (· =b)) [(b,rowC 5 xs sp)] func136 rfl ntmps136 rfl (ntd hb) ?_;refine B 3 ?_;intro b3 w3 hb3 ha3 ho3 hm3 hz3;replace ha3:=yb ha3;replace ho3:=yc ho3;refine B 4 ?_;refine CJ.less (E':=[(0,_),(1,_),(3,_),(4,_)]) zR ?_;refine nJ 5 [1,2] [([],some _),([],none),([0,1],none),([],some _),([3],some _)] (λcv L' H'=>match cv with| []=>L'=[w3,w]/\H'=[(b,rowC 5 xs sp)]| [v1]=>∃(b6:Nat),v1=rowV b6 ([1]:List UInt8).length 1/\L'=[w3,w]/\H'=[(b6,rowC 5 [1] []),(b,rowC 5 xs sp)]/\w3.heap.size<=b6/\w.heap.size<=b6| [v1,v2]=>∃(b6:Nat) (b7:Nat) (c7:Nat) (s7:List Value),v1=rowV b6 ([1]:List UInt8).length 1/\v2=rowV b7 (xs++[1]).length c7/\L'=[w3,w]/\H'=[(b6,rowC 5 [1] []),(b7,rowC 5 (xs++[1]) s7)]/\w3.heap.size<=b6/\w.heap.size<=b6/\Fr (Gh.lent (· =b)) [w3,w] b7/\(b7=b\/w3.heap.size<=b7/\w.heap.size<=b7)/\RowOk (xs++[1]) c7 s7|_=>False) zM ⟨rfl,rfl⟩ zM zM zM zM zM zM (pc zP (pk (pk (pc (by exact λcv L' H' hd hP=>X.val rfl rfl (fld_r underlying149 rfl sizeOf3 rfl) R2) (pc zcg (pn)))))) ?_ ?_
 ·refine sc rfl rfl rfl ?_ ?_
  ·intro cv L' H' hl hP F Q' hk;obtain rfl:=aap hl;obtain⟨rfl,rfl⟩:=hP;refine bsB [1] bt zeroValue5 rfl rfl rfl rfl rfl rfl rfl rfl rfl ?_;intro b6 ha ho hx hr;exact OJ.done (hk _ _ _ ⟨b6,rfl,rfl,rfl,ha.1,ha.2.1⟩)
  refine sc rfl rfl rfl ?_ ?_
  ·intro cv L' H' hl hP F Q' hk;obtain⟨v1,rfl⟩:=len1 hl;obtain⟨b6,rfl,rfl,rfl,ha6,hA6⟩:=hP;refine apB (i:=1) (xs:=xs) (zs:=[1]) (sp:=sp) rfl bt rfl rfl rfl rfl (SrcB.own (i:=0) underlying52 rfl) hrow (.inl rfl) zDb ?_;exact znj
  exact sn
 intro cv L' H' hl hP;obtain⟨v1,v2,rfl⟩:=len2 hl;obtain⟨b6,b7,c7,s7,rfl,rfl,rfl,rfl,ha6,hA6,hf7,hg7,hr7⟩:=hP;refine OJ.dropF (i:=0) rfl (.inr ⟨ha6,hA6,trivial⟩) ?_;refine call call138 rfl rfl rfl (λW hS=>nXi _ zG zG W) ?_;refine nLg (i:=0) (ys:=xs++[1]++num (zig n)) (first:=[]) (cap:=[]) rfl rfl call137 rfl rfl rfl hf7 (λW hS hW=>nVc (xs++[1]) (zig n) hz b7 c7 s7 hr7 zDb W hW) ?_;intro b11 c11 s11 hf11 hr11;have hg11:=hf11;replace hg11:=ye hg11;refine B 4 ?_;have henc:xs++(V.int n).enc=xs++[1]++num (zig n):=by simp[V.enc]
 rw[henc];exact nWh (i:=0) (.inl rfl) results136 rfl rfl A1 (by simp only[OverX,adp,a9o,ahp,aip,and_true];simp only[Fr,Gh.lent,Above]at hf11;omega) hr11
end Px
