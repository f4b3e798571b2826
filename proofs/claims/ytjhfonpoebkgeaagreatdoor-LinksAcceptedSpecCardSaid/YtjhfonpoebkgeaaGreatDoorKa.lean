/- Contracts of functions of the program. No conditions. -/
import Derived.Test.YtjhfonpoebkgeaaGreatDoorXb
import Derived.Test.YtjhfonpoebkgeaaGreatDoorProg
set_option linter.unusedSimpArgs false
set_option linter.unusedVariables false
set_option linter.unusedSectionVars false
set_option maxRecDepth 20000
set_option maxHeartbeats 8000000
namespace Px
open Go Go.RowKit Go.Proofs Go.Proofs.Tryz
theorem nGj(x y:Int)(hx:0<=x)(Py:x<18446744073709551616)(hy:0<=y)(J:y<18446744073709551616)(w:World):Calls prog 136 #[.int .u64 x,.int .u64 y] w (ar w (.tuple #[.int .u64 (x*y/18446744073709551616),.int .u64 (x*y%18446744073709551616)])):=by
 have m1:=Nc (a:=x/4294967296) (b:=y/4294967296) (A:=4294967295) (B:=4294967295) aa aa aa aa;have m2:=Nc (a:=x/4294967296) (b:=y%4294967296) (A:=4294967295) (B:=4294967295) aa aa aa aa;have m3:=Nc (a:=x%4294967296) (b:=y%4294967296) (A:=4294967295) (B:=4294967295) aa aa aa aa;have m4:=Nc (a:=x%4294967296) (b:=y/4294967296) (A:=4294967295) (B:=4294967295) aa aa aa aa;refine cH 9 func136 ntmps136 ?_;refine zvg ?_;refine B 6 ?_;refine UB ?_;refine B 6 ?_;refine zvg ?_;refine B 6 ?_;refine UB ?_;refine B 7 ?_;refine Jb ?_;refine B 7 ?_;refine Jb ?_;refine B 1 ?_;refine UB ?_;refine Pz ?_;refine B 6 ?_;refine zvg ?_;refine B 6 ?_;refine UB ?_;refine B 8 ?_;refine Jb ?_;refine Pz ?_;refine B 7 ?_;refine Jb ?_;refine B 1 ?_;refine Pz ?_;refine B 1 ?_;refine UB ?_;refine Pz ?_;refine B 7 ?_;refine rx (ku rfl rfl) ?_;refine B 4 ?_;refine nK results136 rfl rfl A0 ?_ ?_
 ·exact vu (nJs x y hx hy Py J)
 rw[nz]
def WZ:ByteArray:=⟨#[0,1,2,2,3,3,3,3,4,4,4,4,4,4,4,4,5,5,5,5,5,5,5,5,5,5,5,5,5,5,5,5,6,6,6,6,6,6,6,6,6,6,6,6,6,6,6,6,6,6,6,6,6,6,6,6,6,6,6,6,6,6,6,6,7,7,7,7,7,7,7,7,7,7,7,7,7,7,7,7,7,7,7,7,7,7,7,7,7,7,7,7,7,7,7,7,7,7,7,7,7,7,7,7,7,7,7,7,7,7,7,7,7,7,7,7,7,7,7,7,7,7,7,7,7,7,7,7,8,8,8,8,8,8,8,8,8,8,8,8,8,8,8,8,8,8,8,8,8,8,8,8,8,8,8,8,8,8,8,8,8,8,8,8,8,8,8,8,8,8,8,8,8,8,8,8,8,8,8,8,8,8,8,8,8,8,8,8,8,8,8,8,8,8,8,8,8,8,8,8,8,8,8,8,8,8,8,8,8,8,8,8,8,8,8,8,8,8,8,8,8,8,8,8,8,8,8,8,8,8,8,8,8,8,8,8,8,8,8,8,8,8,8,8,8,8,8,8,8,8,8,8,8,8,8,8]⟩
theorem nfr(n:Nat)(h:n<256):WZ[n]? =some (UInt8.ofNat (cX n)):=by
 have:∀n:Fin 256,WZ[n.val]? =some (UInt8.ofNat (cX n.val)):=by decide +kernel
 exact this ⟨n,h⟩
theorem Jc{x:Int}(h0:0<=x)(h:x<256):∃b,WZ[x.toNat]? =some b/\(b.toNat:Int)=pG x:=by
 refine⟨_,nfr x.toNat aa,?_⟩;have:=W4 x.toNat 8 aa
 (simp[pG];grind)
variable {cs:Array Value} {C:Cx} {E:Env} {G:Gh} {H:ae} {a:Int} {zs:List UInt8} {L:List World} {b:Nat} {fr:Nat×Nat} {f:Nat->Int} {x:Operand} {w w1:World}
theorem PA{T:Nat}{y:Operand}{n:Int}(hU:C.P.underlying T=some .string)(hx:ev E x=some (.string WZ))(hy:ev E y=some (.int .u8 n))(h0:0<=n)(h1:n<256):RV C G L H E (.index T x y) (.int .u8 (pG n)):=by grind [Jc,CT]
theorem nj(x:Int)(q:Int)(k:Nat)(hq:(2:Int)^k=q)(h:q<=x):pG x=pG (x/q)+k:=by
 grind [nQo]
theorem CU(x:Int)(h0:0<=x)(h:x<256):0<=pG x/\pG x<=8:=by
 have:=nan (x:=x) 8 h0 aa;omega
theorem vC{Q:bA}{D:List Deferred}{ops:Array Oper}{l:List Oper}{d T ty:Nat}{pos:String}{J:Array Edge}{g:Option (Nat×Bool)}{y:Operand}{n:Int}(hU:C.P.underlying T=some .string)(hx:ev E x=some (.string WZ))(hw:nr ops E g=some true)(hN:Nat.blt d C.N=true)(hy:ev E y=some (.int .u8 n))(h0:0<=n)(h1:n<256)(k:0<=pG n->pG n<=8->OJ C ops Q l ((d,.int .u8 (pG n))::E) D G L H):OJ C ops Q (⟨some d,.index T x y,ty,pos,J,g⟩::l) E D G L H:=
 rv rfl hw hN (PA hU hx hy h0 h1) (k (CU n h0 h1).1 (CU n h0 h1).2)
section
variable (x:Int)(hx:0<=x)(Py:x<18446744073709551616)(w:World)
include hx Py
theorem nOg:Calls prog 185 #[.int .u64 x] w (ar w (ab (pG x))):=by
 refine eN func185 ntmps185 ?_;refine av 12 ?_ ?_
 ·intro ai;refine B 3 ?_;refine UB ?_;refine av 14 ?_ ?_
  ·intro ax;refine B 3 ?_;refine rx (iP 16 65536 zF rfl rfl rfl) ?_;refine av 16 ?_ ?_
   ·intro bY;refine z5f ?_;refine vC underlying9 xw rfl rfl rfl aa aa (λCc J=>?_);refine Nf ?_
    (refine congrArg ab ?_;(try simp only[nj x 4294967296 32 zF,nj (x/4294967296) 65536 16 zF,nj (x/4294967296/65536) 256 8 zF,nj (x/4294967296) 256 8 zF,nj x 65536 16 zF,nj (x/65536) 256 8 zF,nj x 256 8 zF, *]);omega)
   intro bY;refine B 6 ?_;refine W6 ?_;refine vC underlying9 xw rfl rfl rfl aa aa (λCc J=>?_);refine Nf ?_
   (refine congrArg ab ?_;(try simp only[nj x 4294967296 32 zF,nj (x/4294967296) 65536 16 zF,nj (x/4294967296/65536) 256 8 zF,nj (x/4294967296) 256 8 zF,nj x 65536 16 zF,nj (x/65536) 256 8 zF,nj x 256 8 zF, *]);omega)
  intro ax;refine av 9 ?_ ?_
  ·intro ez;refine z5f ?_;refine vC underlying9 xw rfl rfl rfl aa aa (λCc J=>?_);refine Nf ?_
   (refine congrArg ab ?_;(try simp only[nj x 4294967296 32 zF,nj (x/4294967296) 65536 16 zF,nj (x/4294967296/65536) 256 8 zF,nj (x/4294967296) 256 8 zF,nj x 65536 16 zF,nj (x/65536) 256 8 zF,nj x 256 8 zF, *]);omega)
  intro ez;refine B 6 ?_;refine W6 ?_;refine vC underlying9 xw rfl rfl rfl aa aa (λCc J=>?_);refine Nf ?_
  (refine congrArg ab ?_;(try simp only[nj x 4294967296 32 zF,nj (x/4294967296) 65536 16 zF,nj (x/4294967296/65536) 256 8 zF,nj (x/4294967296) 256 8 zF,nj x 65536 16 zF,nj (x/65536) 256 8 zF,nj x 256 8 zF, *]);omega)
 intro ai;refine av 9 ?_ ?_
 ·intro eB;refine B 3 ?_;refine rx (iP 16 65536 zF rfl rfl rfl) ?_;refine av 16 ?_ ?_
  ·intro gq;refine z5f ?_;refine vC underlying9 xw rfl rfl rfl aa aa (λCc J=>?_);refine Nf ?_
   (refine congrArg ab ?_;(try simp only[nj x 4294967296 32 zF,nj (x/4294967296) 65536 16 zF,nj (x/4294967296/65536) 256 8 zF,nj (x/4294967296) 256 8 zF,nj x 65536 16 zF,nj (x/65536) 256 8 zF,nj x 256 8 zF, *]);omega)
  intro gq;refine B 6 ?_;refine W6 ?_;refine vC underlying9 xw rfl rfl rfl aa aa (λCc J=>?_);refine Nf ?_
  (refine congrArg ab ?_;(try simp only[nj x 4294967296 32 zF,nj (x/4294967296) 65536 16 zF,nj (x/4294967296/65536) 256 8 zF,nj (x/4294967296) 256 8 zF,nj x 65536 16 zF,nj (x/65536) 256 8 zF,nj x 256 8 zF, *]);omega)
 intro eB;refine av 9 ?_ ?_
 ·intro fw;refine z5f ?_;refine vC underlying9 xw rfl rfl rfl aa aa (λCc J=>?_);refine Nf ?_
  (refine congrArg ab ?_;(try simp only[nj x 4294967296 32 zF,nj (x/4294967296) 65536 16 zF,nj (x/4294967296/65536) 256 8 zF,nj (x/4294967296) 256 8 zF,nj x 65536 16 zF,nj (x/65536) 256 8 zF,nj x 256 8 zF, *]);omega)
 intro fw;refine B 6 ?_;refine W6 ?_;refine vC underlying9 xw rfl rfl rfl aa aa (λCc J=>?_);refine Nf ?_
 (refine congrArg ab ?_;(try simp only[nj x 4294967296 32 zF,nj (x/4294967296) 65536 16 zF,nj (x/4294967296/65536) 256 8 zF,nj (x/4294967296) 256 8 zF,nj x 65536 16 zF,nj (x/65536) 256 8 zF,nj x 256 8 zF, *]);omega)
theorem nBh:Calls prog 188 #[.int .u64 x] w (ar w (ab (64-pG x))):=by
 have hb:=nan (x:=x) 64 hx (by simpa using Py);refine cH 8 func188 ntmps188 ?_;refine zSg ?_;refine B 5 ?_;refine ao results188 rfl A0 ?_;rfl
theorem nze:Calls prog 144 #[.int .u64 x] w (ar w (ab (pG x))):=by
 refine cH 12 func144 ntmps144 ?_;refine zSg ?_;refine B 4 ?_;refine ao results144 rfl A0 ?_;rfl
end
theorem nDi(u q y1 r:Nat)(h:q*y1+r=u):((u:Int)-(q:Int)*(y1:Int))=(r:Int):=by grind
theorem nNo(hi lo y:Nat)(a8:hi<y)(aR:lo<18446744073709551616)(hy:y<18446744073709551616)(h0:0<hi)(w:World):Calls prog 137 #[.int .u64 (hi:Int),.int .u64 (lo:Int),.int .u64 (y:Int)] w (ar w (.tuple #[.int .u64 (((hi*2^64+lo)/y:Nat):Int),.int .u64 (((hi*2^64+lo)%y:Nat):Int)])):=by
 obtain⟨aW,bV,bQ⟩:=nnr y aa hy;have c0:=(naj y aa).2.2;obtain⟨s,hs⟩:∃s,64-cX y=s:=⟨_,rfl⟩;rw[hs]at bV bQ;have bg:(64-pG (y:Int))=(s:Int):=by unfold pG;simp;omega
 obtain⟨Y,hY⟩:∃Y,y*2^s=Y:=⟨_,rfl⟩;rw[hY]at bV bQ;obtain⟨y1,AV⟩:∃z,Y/4294967296=z:=⟨_,rfl⟩;obtain⟨y0,AW⟩:∃z,Y%4294967296=z:=⟨_,rfl⟩;have UC:y1*2^32+y0=Y:=by omega
 obtain⟨hN,hlt⟩:=nDr hi lo y s aa a8 aR;obtain⟨u,hu⟩:∃z,hi*2^s+lo/2^(64-s)=z:=⟨_,rfl⟩;obtain⟨v,hv⟩:∃z,lo*2^s%2^64=z:=⟨_,rfl⟩;rw[hu,hv]at hN;rw[hu,hY]at hlt;have bz:v<18446744073709551616:=by rw[<-hv];exact Nat.mod_lt _ zF
 obtain⟨v1,hv1⟩:∃z,v/4294967296=z:=⟨_,rfl⟩;obtain⟨v0,hv0⟩:∃z,v%4294967296=z:=⟨_,rfl⟩;have iC:2^31<=y1:=by omega
 have Jd:v1<2^32:=by omega
 have rW:v0<2^32:=by omega
 have huY:u<y1*2^32+y0:=by omega
 have d1:=tf.start iC aa aa Jd huY;have cz:hi*2^s<=u:=by rw[<-hu];exact Nat.le_add_right _ _
 have Ng:u/y1*y1<=u:=Nat.div_mul_le_self u y1;refine cH 10 func137 ntmps137 ?_;refine PD ?_;refine Ce ?_;refine Je ?_;refine cl call188 rfl (λW hS=>nBh _ aa aa W) ?_;refine rq (.int .u64 (s:Int)) (xx underlying3 underlying224 rfl aa aa) (vu bg) ?_;refine B 7 ?_;refine rq (.int .u64 (Y:Int)) (qD rfl rfl aa) (vu ((CV y s aa aa).trans (by rw[hY]))) ?_;refine B 6 ?_;refine rq (.int .u64 (y1:Int)) (iP 32 4294967296 zF rfl rfl rfl) (vu aa) ?_;refine B 6 ?_;refine rq (.int .u64 (y0:Int)) (qE 32 4294967296 zF rfl rfl rfl rfl aa aa) (vu aa) ?_;refine B 7 ?_;refine rq (.int .u64 ((hi*2^s:Nat):Int)) (qD rfl rfl aa) (vu (CV hi s aa aa)) ?_;refine B 2 ?_;refine rx (uf rfl rfl aa aa) ?_;refine rq (.int .u64 ((lo/2^(64-s):Nat):Int)) (lB rfl rfl aa) (vu (PE lo s _ aa)) ?_;refine rq (.int .u64 (u:Int)) (zi rfl rfl) (vu ((Nh hi _ s (CW lo s aa aR) aa).trans (by rw[hu]))) ?_;refine B 7 ?_;refine rq (.int .u64 (v:Int)) (qD rfl rfl aa) (vu ((Jf lo s aa).trans (by rw[hv]))) ?_;refine B 6 ?_;refine rq (.int .u64 (v1:Int)) (iP 32 4294967296 zF rfl rfl rfl) (vu aa) ?_;refine B 6 ?_;refine rq (.int .u64 (v0:Int)) (qE 32 4294967296 zF rfl rfl rfl rfl aa aa) (vu aa) ?_;refine B 7 ?_;refine rq (.int .u64 ((u/y1:Nat):Int)) (ug rfl rfl aa aa aa) (vu (nng u y1)) ?_
 refine B 8 ?_;refine Jb ?_;refine rq (.int .u64 ((u%y1:Nat):Int)) (uf rfl rfl aa aa) (vu (nDi _ _ _ _ d1.eq)) ?_;refine B 5 ?_;refine CJ.lp (α:=Nat×Nat) [2,8,9,10,11,13,14] (λp=>[(15,.int .u64 (p.1:Int)),(16,.int .u64 (p.2:Int))]) (λp=>[]) (λp=>tf u y1 y0 v1 p.1 p.2) (λp=>p.1) (u/y1,u%y1) d1 ?_;rintro⟨q,r⟩ hd;dsimp only;replace hd:tf u y1 y0 v1 q r:=hd;have PF:=hd.lt;have aq:=hd.le;have J:(0:Int)<=(q:Int)*(y0:Int):=Int.mul_nonneg aa aa;have hqy:(q:Int)<=4294967295->(q:Int)*(y0:Int)<=4294967295*4294967295:=λh=>(Nc aa h aa aa).2;refine B 6 ?_;refine nf (t:=69) rfl (λai=>?_) (λai=>?_)
 ·replace ai:=ya ai;refine B 18 ?_;obtain⟨bJ,bj,aZ⟩:=hd.more iC huY Jd aa;refine Ni ?_;refine pd ?_ ?_
  ·intro ax;refine zEh ?_;first|(have xy:=hd.stop iC aa;obtain⟨q1,rfl⟩:∃q1,q1=q:=⟨_,rfl⟩)|(have xy:=nHb aa aa bj aZ iC aa;generalize q-1=q1 at *)
   rw[UC]at xy;obtain⟨r1,Jg⟩:∃z,(u*2^32+v1)%Y=z:=⟨_,rfl⟩;have W8:r1<Y:=by rw[<-Jg];exact Nat.mod_lt _ aa
   have eO:q1*Y+r1=u*2^32+v1:=by have:=Jh (u*2^32+v1) Y;rw[xy,Jg,Nj]at this;exact this
   have d2:=tf.start iC aa aa rW (show r1<y1*2^32+y0 by omega);have Xa:r1/y1*y1<=r1:=Nat.div_mul_le_self r1 y1;have uh:r1<y1*2^32+y0:=by omega
   clear hd;try clear bJ bj aZ
   refine z0f ?_;rintro⟨q,r⟩ hd;dsimp only;replace hd:tf r1 y1 y0 v0 q r:=hd;have PF:=hd.lt;have aq:=hd.le;have J:(0:Int)<=(q:Int)*(y0:Int):=Int.mul_nonneg aa aa;have hqy:(q:Int)<=4294967295->(q:Int)*(y0:Int)<=4294967295*4294967295:=λh=>(Nc aa h aa aa).2;refine B 6 ?_;refine nf (t:=104) rfl (λbY=>?_) (λbY=>?_)
   ·replace bY:=ya bY;refine B 18 ?_;obtain⟨bJ,bj,aZ⟩:=hd.more iC uh rW aa;refine Ni ?_;refine pd ?_ ?_
    ·intro ez;exact UD
    intro ez;exact Nk
   replace bY:=ya bY;refine zsh ?_;refine pd ?_ ?_
   ·intro eB;refine B 6 ?_;obtain⟨bJ,bj,aZ⟩:=hd.more iC uh rW aa;refine Ni ?_;refine pd ?_ ?_
    ·intro gq;exact UD
    intro gq;exact Nk
   intro eB;refine B 6 ?_;exact zBi
  intro ax;exact Nk
 replace ai:=ya ai;refine zsh ?_;refine pd ?_ ?_
 ·intro fw;refine B 6 ?_;obtain⟨bJ,bj,aZ⟩:=hd.more iC huY Jd aa;refine Ni ?_;refine pd ?_ ?_
  ·intro ja;refine zEh ?_;first|(have xy:=hd.stop iC aa;obtain⟨q1,rfl⟩:∃q1,q1=q:=⟨_,rfl⟩)|(have xy:=nHb aa aa bj aZ iC aa;generalize q-1=q1 at *)
   rw[UC]at xy;obtain⟨r1,Jg⟩:∃z,(u*2^32+v1)%Y=z:=⟨_,rfl⟩;have W8:r1<Y:=by rw[<-Jg];exact Nat.mod_lt _ aa
   have eO:q1*Y+r1=u*2^32+v1:=by have:=Jh (u*2^32+v1) Y;rw[xy,Jg,Nj]at this;exact this
   have d2:=tf.start iC aa aa rW (show r1<y1*2^32+y0 by omega);have Xa:r1/y1*y1<=r1:=Nat.div_mul_le_self r1 y1;have uh:r1<y1*2^32+y0:=by omega
   clear hd;try clear bJ bj aZ
   refine z0f ?_;rintro⟨q,r⟩ hd;dsimp only;replace hd:tf r1 y1 y0 v0 q r:=hd;have PF:=hd.lt;have aq:=hd.le;have J:(0:Int)<=(q:Int)*(y0:Int):=Int.mul_nonneg aa aa;have hqy:(q:Int)<=4294967295->(q:Int)*(y0:Int)<=4294967295*4294967295:=λh=>(Nc aa h aa aa).2;refine B 6 ?_;refine nf (t:=104) rfl (λjz=>?_) (λjz=>?_)
   ·replace jz:=ya jz;refine B 18 ?_;obtain⟨bJ,bj,aZ⟩:=hd.more iC uh rW aa;refine Ni ?_;refine pd ?_ ?_
    ·intro ji;exact UD
    intro ji;exact Nk
   replace jz:=ya jz;refine zsh ?_;refine pd ?_ ?_
   ·intro pH;refine B 6 ?_;obtain⟨bJ,bj,aZ⟩:=hd.more iC uh rW aa;refine Ni ?_;refine pd ?_ ?_
    ·intro lC;exact UD
    intro lC;exact Nk
   intro pH;refine B 6 ?_;exact zBi
  intro ja;exact Nk
 intro fw;refine B 6 ?_;first|(have xy:=hd.stop iC aa;obtain⟨q1,rfl⟩:∃q1,q1=q:=⟨_,rfl⟩)|(have xy:=nHb aa aa bj aZ iC aa;generalize q-1=q1 at *)
 rw[UC]at xy;obtain⟨r1,Jg⟩:∃z,(u*2^32+v1)%Y=z:=⟨_,rfl⟩;have W8:r1<Y:=by rw[<-Jg];exact Nat.mod_lt _ aa
 have eO:q1*Y+r1=u*2^32+v1:=by have:=Jh (u*2^32+v1) Y;rw[xy,Jg,Nj]at this;exact this
 have d2:=tf.start iC aa aa rW (show r1<y1*2^32+y0 by omega);have Xa:r1/y1*y1<=r1:=Nat.div_mul_le_self r1 y1;have uh:r1<y1*2^32+y0:=by omega
 clear hd;try clear bJ bj aZ
 refine z0f ?_;rintro⟨q,r⟩ hd;dsimp only;replace hd:tf r1 y1 y0 v0 q r:=hd;have PF:=hd.lt;have aq:=hd.le;have J:(0:Int)<=(q:Int)*(y0:Int):=Int.mul_nonneg aa aa;have hqy:(q:Int)<=4294967295->(q:Int)*(y0:Int)<=4294967295*4294967295:=λh=>(Nc aa h aa aa).2;refine B 6 ?_;refine nf (t:=104) rfl (λjj=>?_) (λjj=>?_)
 ·replace jj:=ya jj;refine B 18 ?_;obtain⟨bJ,bj,aZ⟩:=hd.more iC uh rW aa;refine Ni ?_;refine pd ?_ ?_
  ·intro lD;exact UD
  intro lD;exact Nk
 replace jj:=ya jj;refine zsh ?_;refine pd ?_ ?_
 ·intro oy;refine B 6 ?_;obtain⟨bJ,bj,aZ⟩:=hd.more iC uh rW aa;refine Ni ?_;refine pd ?_ ?_
  ·intro xz;exact UD
  intro xz;exact Nk
 intro oy;refine B 6 ?_;exact zBi
theorem nlp(lo y:Nat)(h0:0<y)(J:lo<18446744073709551616)(hy:y<18446744073709551616)(w:World):Calls prog 137 #[.int .u64 0,.int .u64 (lo:Int),.int .u64 (y:Int)] w (ar w (.tuple #[.int .u64 ((lo/y:Nat):Int),.int .u64 ((lo%y:Nat):Int)])):=by
 refine cH 10 func137 ntmps137 ?_;refine PD ?_;refine Ce ?_;refine bX aK ?_;refine B 4 ?_;refine eA 7 (pb:=by exact zU 2 (k:=by exact qv (ug rfl rfl aa aa aa) (zU 2 (k:=by exact qv (xA rfl rfl aa aa) zT)))) (k:=?_);refine B 5 ?_;refine nK results137 rfl rfl A0 ?_ ?_
 ·exact vu (nng lo y)
 exact vu (Int.natCast_emod lo y).symm
theorem n2g(hi lo y:Int)(h0:0<=hi)(h1:hi<y)(h2:0<=lo)(h3:lo<18446744073709551616)(h4:y<18446744073709551616)(w:World):Calls prog 137 #[.int .u64 hi,.int .u64 lo,.int .u64 y] w (ar w (.tuple #[.int .u64 ((hi*18446744073709551616+lo)/y),.int .u64 ((hi*18446744073709551616+lo)%y)])):=by
 obtain⟨a,rfl⟩:=Ji h0;obtain⟨b,rfl⟩:=Ji h2;obtain⟨c,rfl⟩:=Ji (Int.le_trans h0 (Int.le_of_lt h1));by_cases ha:a=0
 ·subst ha
  grind [nlp]
 grind [nNo]
theorem nkk{b p:Int}(ha:0<=a)(dC:a<p)(hb:0<=b)(aW:b<p)(hp:p<18446744073709551616):0<=a*b/18446744073709551616/\a*b/18446744073709551616<p/\0<=a*b%18446744073709551616/\a*b%18446744073709551616<18446744073709551616/\a*b/18446744073709551616*18446744073709551616+a*b%18446744073709551616=a*b:=by
 have h0:0<=a*b:=Int.mul_nonneg ha hb;have h1:a*b<=a*18446744073709551616:=Int.mul_le_mul_of_nonneg_left aa ha;omega
theorem ncg(a b:Int)(ha:0<=a)(dC:a<4611686018427377339)(hb:0<=b)(aW:b<4611686018427377339)(w:World):Calls prog 132 #[.int .u64 a,.int .u64 b] w (ar w (.int .u64 (a*b%4611686018427377339))):=by
 obtain⟨m1,m2,m3,m4,m5⟩:=nkk ha dC hb aW zF;refine cH 9 func132 ntmps132 ?_;refine zBh ?_;refine B 14 ?_;refine ao results132 rfl A0 ?_
 (rw[m5];rfl)
theorem ncn(k:Int)(w:World):Calls prog 131 #[.int .u64 k] w (db w (λb=>.func (.func 184) #[] #[ptr b 0]) (λb w1=>w.heap.size<=b/\w1.heap[b]? =some (oC #[.int .u64 k] 161))):=by
 refine eN func131 ntmps131 ?_;refine aU 2 ?_;intro b1 w1 aW bJ eO dC fg;refine B 10 ?_;refine pe b1 results131 rfl A1 rfl ?_;exact zVk
def pI (n:Nat):List Bool:=(List.range (cX n)).reverse.map (λi=>n.testBit i)
theorem nYe(n:Nat):(pI n).length=cX n:=by simp[pI]
theorem nEe(n j:Nat)(h:j<cX n):(pI n).take (j+1)=(pI n).take j++[n.testBit (cX n-1-j)]:=by
 grind [pI,List.take_succ_eq_append_getElem]
theorem PG(n i:Nat):decide (((n/2^i:Nat):Int)%2=1)=n.testBit i:=by grind
theorem ngo(n j:Nat)(h:j<cX n):((pI n).take j++[n.testBit (cX n-1-j)]) <+:pI n:=by
 rw[<-nEe n j h];grind
theorem nVo(n:Nat)(hn:n<18446744073709551616)(b:Nat)(W:World)(aW:W.heap[b]? =some (oC #[.int .u64 (n:Int)] 161)):zj prog 184 [ptr b 0] (λx:Bool=>[.bool x]) (zk (pI n)) (Is (pI n)) (λ_=>False) (λk=>k=b) W:=by
 intro l M I X0 hM hI hX hy h0;have J:=(bO.1 aW).1;have bJ:¬(M b\/False):=λh=>h.elim (λh=>(hM b h).2.2 rfl) id;have kx:=W4 n 64 hn;have hbI:pG (n:Int)=(cX n:Int):=by simp[pG]
 refine nP (dI hM (λ_=>False) (hI [] _)) [] (vs:=[_,_]) func184 rfl ntmps184 rfl (Nl hM (hI [] _) h0 zP (by simp[ky]) zP) ?_;refine B 3 ?_;refine zSg ?_;refine ztg ?_;refine B 4 ?_;refine CJ.loop (α:=Nat×aJ) (λp=>[(0,yv l),(1,ptr b 0),(3,ab ((cX n:Int)-1-(p.1:Int)))]) (λp=>[]) (λp=>[W]) (λp=>dI hM p.2 (hI ((pI n).take p.1) p.2)) (λp=>p.1<=cX n/\∀k,p.2 k->W.heap.size<=k) (λp=>cX n-p.1) (0,λ_=>False) ⟨cd _,λ_ h=>h.elim⟩ zR rfl rfl zP ?_;rintro⟨j,V⟩ ⟨hj,hV⟩;dsimp only at hj hV ⊢;have bJ:¬(M b\/V b):=λh=>h.elim (λh=>(hM b h).2.2 rfl) (λh=>by have:=hV b h;omega);refine av 7 ?_ ?_
 ·intro ai;refine B 9 ?_;refine rq (.int .u64 ((n/2^(cX n-1-j):Nat):Int)) (lB rfl rfl aa) (vu (zl n _ _ aa aa)) ?_;refine rx (qE 1 2 zF rfl rfl rfl rfl (Int.natCast_nonneg _) (Int.lt_of_le_of_lt (Int.ofNat_le.2 (Nat.div_le_self n _)) aa)) ?_;refine zGg ?_;refine CY (λV=>hI ((pI n).take (j+1)) V) hX hV A0 rfl rfl rfl rfl (λW1 vD mY=>by have:=hy ((pI n).take j) _ V W1 (ngo n j aa) vD mY;rw[<-nEe n j aa]at this;exact this) ?_ ?_
  ·intro V hV;refine B 12 ?_;refine PJ.again (j+1,V) ⟨by dsimp only;omega,hV⟩ zZ ⟨rfl,rfl,congrArg some (congrArg ab zZ),trivial⟩ rfl rfl zP
  intro V hV;refine B 9 ?_;exact CZ (.inl rfl) results184 A0 hV zP (λA hA=>.inr hA)
 intro ai;refine B 4 ?_;exact CZ (.inr rfl) results184 A0 hV zP (λA hA=>.inl ⟨pI n,rfl,zYBF⟩)
def nO (a m:Int):List Bool->Int->Int
 | [],c=>c
 |b::bs,c=>nO a m bs (if b then(c*c%m)*a%m else c*c%m)
theorem nSd(a m:Int)(bs:List Bool)(b:Bool)(c:Int):nO a m (bs++[b]) c=if b then(nO a m bs c*nO a m bs c%m)*a%m else nO a m bs c*nO a m bs c%m:=by induction bs generalizing c<;>grind [nO]
theorem nTg(a m:Int)(hm:0<m)(bs:List Bool)(c:Int)(h0:0<=c)(h1:c<m):0<=nO a m bs c/\nO a m bs c<m:=by
 induction bs generalizing c<;>grind [nO,Int.emod_nonneg,Int.emod_lt_of_pos]
def qF (a n m:Int):Int:=nO a m (pI n.toNat) 1
theorem nRi(a k:Int)(ha:0<=a)(dC:a<4611686018427377339)(hk:0<=k)(PH:k<18446744073709551616)(w:World):Calls prog 89 #[.int .u64 a,.int .u64 k] w (ar w (.int .u64 (qF a k 4611686018427377339))):=by
 refine Im Gh.no [] (vs:=[_,_]) func89 rfl ntmps89 rfl (AX w) ?_;refine aU 2 ?_;intro b2 w2 bV bj dz cL cR;refine bD 6 ?_;intro b5 fK gf;refine B 7 ?_;refine ny (Φ:=λW b w1=>W.heap.size<=b/\w1.heap[b]? =some (oC #[.int .u64 k] 161)) call131 rfl rfl rfl (λW hS=>ncn _ W) ?_;intro Wd bd wd vf Xb aD;obtain⟨PI,rY⟩:=aD;have Xc:=vf.under;simp only[nD,eI,gB]at Xc;have Nn:=vf.sizes;replace Nn:=yb Nn;have bx:=Xb.size;refine B 3 ?_;refine Xd (f:=184) (cap:=[ptr bd 0]) (α:=Bool) (enc:=(λx:Bool=>[.bool x])) (Pre:=zk (pI k.toNat)) (Fin:=Is (pI k.toNat)) (RO:=λk=>k=bd) (MI:=λ_=>False) rfl call184 (λW W2 hS hB=>by have e:(.int .u64 k:Value)= .int .u64 ((k.toNat:Nat):Int):=(by rw[Int.toNat_of_nonneg hk]);exact nVo k.toNat aa bd W2 (zYBc)) (λ_ _ _ hk=>hk.elim) (λW hS k hk=>by subst hk;have:=hS.sizes;simp only[ah]at this;have:=(bO.1 rY).1;refine⟨by omega,by simp only[eI,jv,kS,xB];omega,λh=>h⟩) (λ_=>rfl) (λpre G' Hc=>G'=Gh.no/\Hc=[(b5,oC #[.int .u64 (nO a 4611686018427377339 pre 1)] 161)]) (λ_ _ _=>False) ⟨rfl,rfl⟩ zF ?_ ?_ ?_
 ·rintro pre x G' Hc l Dk rec W1 M V Wy pJ ui gX ⟨rfl,rfl⟩ J jA Np vE cI Io;simp only[ah]at J vE;have bj:=cI.z (k:=b2) aa zL mZ zL;have Jj:=nTg a 4611686018427377339 zF pre 1 zF zF;have hX:=Int.emod_nonneg (nO a 4611686018427377339 pre 1*nO a 4611686018427377339 pre 1) (b:=4611686018427377339) zF;have oc:=Int.emod_lt_of_pos (nO a 4611686018427377339 pre 1*nO a 4611686018427377339 pre 1) (b:=4611686018427377339) zF;refine UE ?_;refine B 5 ?_;refine cl call132 rfl (λW hS=>ncg _ _ aa aa aa aa W) ?_;refine av 8 ?_ ?_
  ·intro ai;refine B 3 ?_;refine cl call132 rfl (λW hS=>ncg _ _ aa aa aa aa W) ?_;refine B 3 ?_;refine Jk (G2:=Gh.no) (Hc2:=[(b5,oC #[.int .u64 (nO a 4611686018427377339 pre 1*nO a 4611686018427377339 pre 1%4611686018427377339*a%4611686018427377339)] 161)]) cI jA ⟨λ_ h=>h,λ_ h=>.inl h,λ_ h=>.inl h,zP,zP⟩ (Jl pJ ui) ?_;exact⟨rfl,by rw[nSd,ai];rfl⟩
  intro ai;refine B 2 ?_;refine Jk (G2:=Gh.no) (Hc2:=[(b5,oC #[.int .u64 (nO a 4611686018427377339 pre 1*nO a 4611686018427377339 pre 1%4611686018427377339)] 161)]) cI jA ⟨λ_ h=>h,λ_ h=>.inl h,λ_ h=>.inl h,zP,zP⟩ (Jl pJ ui) ?_;exact⟨rfl,by rw[nSd,ai];rfl⟩
 ·rintro lF l Dk rec G' Hc rfl J jA ⟨rfl,rfl⟩;replace J:=yb J;refine B 9 ?_;refine Nq (.inl rfl) results89 rfl Cf (λW H' hS di=>⟨?_,?_⟩)
  ·exact congrArg Ending.returned rfl
  exact zSk
 exact Xe
theorem PK(a k m:Int)(hm:1<m):0<=qF a k m/\qF a k m<m:=nTg a m aa _ 1 aa hm
abbrev dr (a:Int):Prop:=1<=a/\a<4611686018427377339/\qF a 2305843009213688669 4611686018427377339=1
def gExp (a k:Int):Int×Int:=if dr a then if 0<=k/\k<2305843009213688669 then(qF a k 4611686018427377339,0)else(0,1)else(0,40)
def jZ (p:Int×Int):Value:=.tuple #[ab p.1,ab p.2]
theorem nQ(a:Int)(w:World):Calls prog 43 #[ab a] w (ar w (ab (if dr a then 0 else 40))):=by
 have hp:=PK a 2305843009213688669 4611686018427377339 zF;refine cH 11 func43 ntmps43 ?_;refine nf (t:=5) rfl (λai=>?_) (λai=>?_)
 ·replace ai:=ya ai;refine B 19 ?_;refine zUf ?_;split<;>omega
 replace ai:=ya ai;refine B 4 ?_;refine nf (t:=9) rfl (λax=>?_) (λax=>?_)
 ·replace ax:=ya ax;refine B 15 ?_;refine zUf ?_;split<;>omega
 replace ax:=ya ax;refine B 2 ?_;refine cl call89 rfl (λW hS=>nRi _ _ aa aa aa aa W) ?_;refine av 4 ?_ ?_
 ·intro bY;refine B 7 ?_;refine zUf ?_;split<;>omega
 intro bY;refine B 8 ?_;refine zUf ?_;split<;>omega
theorem n3l(a k:Int)(w:World):Calls prog 64 #[ab a,ab k] w (ar w (jZ (gExp a k))):=by
 have hp:=PK a k 4611686018427377339 zF;refine cH 10 func64 ntmps64 ?_;refine cl call43 rfl (λW hS=>nQ _ W) ?_;refine av 9 ?_ ?_
 ·intro ai;refine B 1 ?_;have hg:¬dr a:=λh=>by simp[if_pos h]at ai
  refine B 8 ?_;exact z3i
 intro ai;refine B 4 ?_;have hg:dr a:=Decidable.byContradiction λh=>by simp[if_neg h]at ai
 refine B 4 ?_;refine nf (t:=14) rfl (λax=>?_) (λax=>?_)
 ·replace ax:=ya ax;refine B 14 ?_;exact z3i
 replace ax:=ya ax;refine av 5 ?_ ?_
 ·intro bY;refine B 8 ?_;exact z3i
 intro bY;refine B 8 ?_;refine cl call89 rfl (λW hS=>nRi _ _ aa aa aa aa W) ?_;refine B 6 ?_;exact z3i
theorem nQj(k:Int)(w:World):Calls prog 45 #[ab k] w (ar w (jZ (gExp 4 k))):=by
 refine cH 9 func45 ntmps45 ?_;refine cl call64 rfl (λW hS=>n3l _ _ W) ?_;refine B 7 ?_;refine nK results45 rfl rfl A0 ?_ ?_;all_goals rfl
theorem Jm(x b:Int)(h0:0<=b)(h1:b<256):IntKind.u64.wrap (BitVec.ofInt IntKind.u64.bits (IntKind.u64.wrap (x*256))|||BitVec.ofInt IntKind.u64.bits b).toNat=(x*256)%18446744073709551616+b:=by
 obtain⟨y,hy⟩:∃y:Nat,(x*256)%18446744073709551616=((y*2^8:Nat):Int):=⟨((x*256)%18446744073709551616/256).toNat,by omega⟩;obtain⟨c,rfl⟩:=Ji h0;rw[(nz (x*256)).trans hy,Nh y c 8 aa aa];omega
theorem Jn(n b m:Int):n/72057594037927936*18446744073709551616+(n*256%18446744073709551616+b)=n*256+b:=by omega
def xC (m:Int):List Int->Int->Int
 | [],n=>n
 |b::bs,n=>xC m bs ((n*256+b)%m)
theorem nuj(m:Int)(bs:List Int)(b n:Int):xC m (bs++[b]) n=(xC m bs n*256+b)%m:=by induction bs generalizing n<;>grind [xC]
theorem Xf(m:Int)(hm:0<m)(bs:List Int)(n:Int)(h0:0<=n)(h1:n<m):0<=xC m bs n/\xC m bs n<m:=by
 induction bs generalizing n with
 |nil=>exact⟨h0,h1⟩
 |cons x bs ih=>exact ih _ (Int.emod_nonneg _ aa) (Int.emod_lt_of_pos _ hm)
theorem n3o(c n m:Int)(b b2:Nat)(hc:0<=c)(ai:c<256)(hn:0<=n)(J:n<m)(hm:m<72057594037927936*256)(w:World)(hb:w.heap[b]? =some (oC #[.int .u64 n] 161))(bV:w.heap[b2]? =some (oC #[.int .u64 m] 161))(kq:b≠b2):Calls prog 186 #[.int .u8 c,ptr b 0,ptr b2 0] w (C0 w (.tuple #[]) b (oC #[.int .u64 ((n*256+c)%m)] 161)):=by
 have bj:¬Gh.no.M b2:=λh=>h;refine nP Gh.no [(b,_)] (vs:=[_,_,_]) func186 rfl ntmps186 rfl (n3j hb) ?_;refine B 2 ?_;refine rx (iP 56 72057594037927936 zF rfl rfl rfl) ?_;refine B 1 ?_;refine rx (C1 8 256 zF rfl rfl rfl) ?_;refine B 2 ?_;refine rq (.int .u64 ((n*256)%18446744073709551616+c)) (zi rfl rfl) (vu (Jm n c hc ai)) ?_;refine B 1 ?_;refine zWf ?_;refine B 2 ?_;refine rq (.int .u64 ((n*256+c)%m)) (gr rfl rfl) (vu (by rw[Jn n c m])) ?_;refine lG (i:=0) rfl sizeOf161 rfl rfl rfl rfl (fy rfl) rfl ?_;refine B 1 ?_;refine bH (.inr rfl) results186 aL (λW hS=>⟨rfl,(hS.links w A0).mono λk _ hk=>?_,hS.own _ A0⟩);simpa[Gh.no]using hk
def dg (f:Nat->Int):Array Value:=(th f []).toArray
def pK (f:Nat->Int):List Int:=(List.range 32).map f
abbrev gY (f:Nat->Int):Prop:=∀i,0<=f i/\f i<256
theorem jN(f:Nat->Int)(i:Nat)(h:i<32):(dg f)[i]? =some (.int .u8 (f i)):=by
 have e:dg f=((List.range 32).map λi=>Value.int .u8 (f i)).toArray:=rfl
 grind
theorem ntn(f:Nat->Int)(j:Nat)(h:j<32):(pK f).take (j+1)=(pK f).take j++[f j]:=by
 grind [pK,List.take_succ_eq_append_getElem]
theorem nrr(f:Nat->Int)(hf:gY f)(m:Int)(J:0<m)(hm:m<72057594037927936*256)(w:World):Calls prog 133 #[.agg (dg f),.int .u64 m] w (ar w (.int .u64 (xC m (pK f) 0))):=by
 refine eN func133 ntmps133 ?_;refine aU 2 ?_;intro b2 w2 bV bj dz cL cR;refine yX ?_;intro b3 w3 bQ aZ dK cP dt;refine bD 1 ?_;intro b4 dL dP;refine B 16 ?_;refine CJ.lp (α:=Nat) [2,3,4,5,9] (λj=>[(10,ab (j:Int))]) (λj=>[(b4,oC #[.int .u64 (xC m ((pK f).take j) 0)] 161)]) (λj=>j<=32) (λj=>32-j) 0 zF ?_;rintro j hj;have Jj:=Xf m J ((pK f).take j) 0 zF J;refine av 6 ?_ ?_
 ·intro ai;refine B 6 ?_;refine rq (.int .u8 (f j)) (uj underlying34 isAgg5 sizeOf5 rfl rfl aa aa (jN f _ aa)) (congrArg (λk=>Value.int .u8 (f k)) aa) ?_;refine B 6 ?_;refine UF (f:=186) (i:=0) (first:=[]) (cap:=[ptr b4 0,ptr b3 0]) rfl rfl call186 rfl rfl rfl (λW hS hW=>n3o _ _ _ _ _ (hf j).1 (hf j).2 Jj.1 Jj.2 hm W hW (hS.old A0 bQ aZ zD) aa) ?_;refine B 7 ?_;refine PJ.reH (H':=[(b4,oC #[.int .u64 (xC m ((pK f).take (j+1)) 0)] 161)]) (by rw[ntn f j aa,nuj];rfl) ?_;exact AY
 intro ai;refine B 12 ?_;refine aS (.inl rfl) results133 aL A2 zH ?_;exact vu (by rw[lE (by simp[pK];omega)])
end Px
namespace Px
open Go
theorem Nr(m a b c:Int)(hb:b%2=1):((c+a)%m+(a+a)%m*(b/2))%m=(c+a*b)%m:=by
 obtain⟨t,J⟩:∃t,b/2=t:=⟨_,rfl⟩;rw[J,Int.add_emod,Int.emod_emod,Int.mul_emod,Int.emod_emod,<-Int.mul_emod,<-Int.add_emod]
 grind
theorem Ns(m a b c:Int)(hb:¬b%2=1):(c+(a+a)%m*(b/2))%m=(c+a*b)%m:=by
 obtain⟨t,J⟩:∃t,b/2=t:=⟨_,rfl⟩;have e:b=2*t:=by omega
 rw[J,Int.add_emod,Int.mul_emod,Int.emod_emod,<-Int.mul_emod,<-Int.add_emod]
 grind
theorem nDq(x m:Int)(n:Nat):(x%m)^n%m=x^n%m:=by
 induction n<;>grind [Int.pow_succ,Int.mul_emod,Int.emod_emod]
theorem nBp(a:Int)(t:Nat):(a*a)^t=a^(2*t):=by rw[Int.pow_mul];grind
theorem Xh(m a c k:Int)(h0:0<=k)(hk:k%2=1):(c*a%m)*(a*a%m)^(k/2).toNat%m=c*a^k.toNat%m:=by
 have e:k.toNat=2*(k/2).toNat+1:=by omega
 grind [Int.mul_emod,nDq,Int.emod_emod,nBp,Int.mul_assoc,Int.mul_comm]
theorem Xi(m a c k:Int)(h0:0<=k)(hk:¬k%2=1):c*(a*a%m)^(k/2).toNat%m=c*a^k.toNat%m:=by
 (simp[Int.mul_emod,nDq,nBp];grind)
def AZ:List Bool->Nat->Nat
 | [],v=>v
 |b::bs,v=>AZ bs (2*v+if b then 1 else 0)
theorem nBs(bs:List Bool)(b:Bool)(v:Nat):AZ (bs++[b]) v=2*AZ bs v+if b then 1 else 0:=by
 induction bs generalizing v with
 |nil=>rfl
 |cons x bs ih=>exact ih _
theorem nOo(a m:Int)(bs:List Bool):∀(c:Int) (v:Nat),c%m=a^v%m->nO a m bs c%m=a^AZ bs v%m:=by
 induction bs with
 |nil=>intro c v h;exact h
 |cons x bs ih=>
  intro c v h;apply ih;have hs:c*c%m=a^(2*v)%m:=by rw[Int.mul_emod,h,<-Int.mul_emod,<-Int.pow_add];congr 2;omega
  (split<;>grind [Int.mul_emod,Int.emod_emod])
theorem nuk(n:Nat):∀j,j<=cX n->AZ ((pI n).take j) 0=n/2^(cX n-j)
 |0,_=>by
  simp[AZ];have hlt:n<2^cX n:=by
   by_cases h:n=0
   ·grind
   exact(naj n h).2.1
  grind [Nat.div_eq_of_lt]
 |j+1,h=>by
  rw[nEe n j aa,nBs,nuk n j aa];have e:cX n-j=(cX n-1-j)+1:=by omega
  rw[e,Nat.pow_succ,<-Nat.div_div_eq_div_mul]
  grind
theorem Jo(a k m:Int)(h0:0<=k)(hm:1<m):qF a k m=a^k.toNat%m:=by
 have h1:=nOo a m (pI k.toNat) 1 0 zP;have h2:=nuk k.toNat (cX k.toNat) (aC _);rw[lE (by grind [nYe])]at h2;simp at h2;rw[h2]at h1;rw[<-h1];have hb:=PK a k m hm;exact(Int.emod_eq_of_lt hb.1 hb.2).symm
end Px
namespace Px
open Go Go.RowKit Go.Proofs Go.Proofs.Tryz
def lH (a:Int):Bool:=decide (a<0)||decide (2305843009213688669<=a)
variable {a:Int}
theorem nnk:lH a=false↔0<=a/\a<2305843009213688669:=by simp[lH]
theorem ngi:lH a=true↔¬(0<=a/\a<2305843009213688669):=by simp[lH];omega
theorem n1k(a:Int)(w:World):Calls prog 135 #[ab a] w (ar w (.bool (lH a))):=by
 refine cH 10 func135 ntmps135 ?_;refine nf (t:=5) rfl (λai=>?_) (λai=>?_)
 ·exact zkk
 exact zkk
def xD (p:Int->Bool) (xs:List Int):Int:=match xs.findIdx? p with|some i=>(i:Int)|none=> -1
theorem C2(p:Int->Bool)(xs:List Int)(j:Nat)(hj:j<xs.length)(h:∀x∈xs.take j,p x=false)(hp:p xs[j]=true):xD p xs=(j:Int):=by grind [xD,List.findIdx?_eq_some_iff_getElem,List.mem_take_iff_getElem]
theorem nLr(p:Int->Bool)(xs:List Int)(h:∀x∈xs,p x=false):xD p xs= -1:=by grind [xD]
theorem C3(p:Int->Bool)(xs:List Int):decide (0<=xD p xs)=xs.any p:=by grind [xD]
def ints (xs:List Int):Array Value:=(xs.map λx=>ab x).toArray
theorem ints_at(xs:List Int)(j:Nat)(h:j<xs.length):(ints xs)[j]? =some (ab xs[j]):=by simp[ints]
section
variable (p:Int->Bool)(f:Nat)(aF:fh prog f)(hp:∀x W,Calls prog f #[ab x] W (ar W (.bool (p x))))(xs:List Int)(b T n c:Nat)(fr:Nat×Nat)(hn:xs.length=n)(uk:n<9223372036854775807)(w:World)(mo:w.heap[b]? =some (.cells (ints xs) T fr))
include p aF hp xs T n c hn uk mo
theorem nDm:Calls prog 187 #[.slice (aH b) n c,.func (.func f) #[] #[]] w (ar w (ab (xD p xs))):=by
 have qo:¬Gh.no.M b:=λh=>h;refine cH 14 func187 ntmps187 ?_;refine CJ.lp (α:=Nat) [0,1,7] (λj=>[(8,ab (j:Int))]) (λj=>[]) (λj=>j<=n/\∀x∈xs.take j,p x=false) (λj=>n-j) 0 ⟨cd _,by simp⟩ ?_;rintro j ⟨hj,J⟩;refine av 6 ?_ ?_
 ·intro ai;refine B 16 ?_;refine rx (ad (v:=ab (xs[j]'aa)) isAgg3 rfl A0 mo qo trivial (by rw[<-ints_at xs j aa];congr 1;omega)) ?_;refine nU (f:=f) (cap:=[]) rfl aF rfl rfl rfl (λW hS=>hp _ W) ?_;refine av 2 ?_ ?_
  ·intro ax;refine B 12 ?_;refine ao results187 rfl A0 ?_;exact congrArg ab (C2 p xs j aa J ax).symm
  intro ax;refine B 7 ?_;refine ag (j+1) ⟨by omega,by intro x hx;rw[aAt aa]at hx;simp only[dQ,xB]at hx;rcases hx with hx|rfl;exact J x hx;exact ax⟩
 intro ai;refine B 11 ?_;refine ao results187 rfl A0 ?_;exact congrArg ab (nLr p xs (by rw[<-lE (l:=xs) (i:=j) aa];exact J)).symm
theorem n8i:Calls prog 134 #[.slice (aH b) n c,.func (.func f) #[] #[]] w (ar w (.bool (xs.any p))):=by
 refine cH 9 func134 ntmps134 ?_;refine cl call187 rfl (λW hS=>nDm p f aF hp xs b T n c fr hn uk W (hS.old A0 mo zL trivial)) ?_;refine B 5 ?_;refine ao results134 rfl A0 ?_;exact vb (C3 p xs)
end
theorem ntd(xs:List Int)(b T n c:Nat)(fr:Nat×Nat)(hn:xs.length=n)(uk:n<9223372036854775807)(w:World)(mo:w.heap[b]? =some (.cells (ints xs) T fr)):Calls prog 91 #[.slice (aH b) n c] w (ar w (.bool (xs.any lH))):=by
 refine cH 8 func91 ntmps91 ?_;refine cl call134 rfl (λW hS=>n8i lH 135 call135 (λx W=>n1k x W) xs b T n c fr hn uk W (hS.old A0 mo zL trivial)) ?_;refine B 4 ?_;refine ao results91 rfl A0 ?_;rfl
theorem nrh(a b:Int)(ha:0<=a)(dC:a<2305843009213688669)(hb:0<=b)(aW:b<2305843009213688669)(w:World):Calls prog 92 #[ab a,ab b] w (ar w (ab (a*b%2305843009213688669))):=by
 obtain⟨m1,m2,m3,m4,m5⟩:=nkk ha dC hb aW zF;have m6:=Int.emod_nonneg (a*b) (b:=2305843009213688669) zF;have m7:=Int.emod_lt_of_pos (a*b) (b:=2305843009213688669) zF;refine cH 11 func92 ntmps92 ?_;refine zBh ?_;refine B 10 ?_;refine rq (ab (a*b%2305843009213688669)) (xE underlying161 underlying3 rfl (by rw[m5];omega) (by rw[m5];omega)) (by rw[m5]) ?_;refine B 4 ?_;refine ao results92 rfl A0 ?_;rfl
theorem nUo(a:Int)(w:World):Calls prog 114 #[ab a] w (ar w (ab (if lH a then 1 else 0))):=by
 refine cH 9 func114 ntmps114 ?_;refine Jp ?_;refine yV ?_;intro b4 w4 gI iA J dL dP;refine cl call91 rfl (λW hS=>ntd [a] _ _ _ _ _ rfl zP W (hS.old A0 gI iA trivial)) ?_;refine av 2 ?_ ?_
 ·intro ai;refine B 7 ?_;refine ao results114 rfl A1 ?_;refine congrArg ab ?_;simp_all
 intro ai;refine B 8 ?_;refine ao results114 rfl A1 ?_;refine congrArg ab ?_;simp_all
abbrev pf (a:Int):Prop:=0<=a/\a<2305843009213688669
def mz (a b:Int):Int×Int:=if pf a/\pf b then(a*b%2305843009213688669,0)else(0,1)
def um (a b:Int):Int×Int:=if pf a/\pf b then((a+b)%2305843009213688669,0)else(0,1)
def rZ (a:Int):Int×Int:=if pf a then if a=0 then(0,30)else(qF a 2305843009213688667 2305843009213688669,0)else(0,1)
theorem Xj{b:Int}(h:[a,b].any lH=false):pf a/\pf b:=by grind [nnk]
theorem Nt{b:Int}(h:[a,b].any lH=true):¬(pf a/\pf b):=by grind [ngi]
theorem agS(h:[a].any lH=false):pf a:=nnk.1 cM
theorem Xk(h:[a].any lH=true):¬pf a:=ngi.1 cM
theorem nVl(a b:Int)(w:World):Calls prog 46 #[ab a,ab b] w (ar w (jZ (mz a b))):=by
 refine cH 11 func46 ntmps46 ?_;refine Jp ?_;refine yV ?_;intro b8 w8 hb8 hm8 J lI r4;refine zbh ?_;refine av 2 ?_ ?_
 ·intro ai;refine B 1 ?_;have hg:=Nt ai;refine B 7 ?_;exact zik
 intro ai;refine B 3 ?_;have hg:=Xj ai;refine B 3 ?_;refine cl call92 rfl (λW hS=>nrh _ _ aa aa aa aa W) ?_;refine B 5 ?_;exact zik
theorem nNr(a b:Int)(w:World):Calls prog 47 #[ab a,ab b] w (ar w (jZ (um a b))):=by
 refine cH 11 func47 ntmps47 ?_;refine Jp ?_;refine yV ?_;intro b8 w8 hb8 hm8 J lI r4;refine zbh ?_;refine av 2 ?_ ?_
 ·intro ai;refine B 1 ?_;have hg:=Nt ai;refine B 7 ?_;exact zhk
 intro ai;refine B 3 ?_;have hg:=Xj ai;refine B 4 ?_;refine UG ?_;refine B 5 ?_;exact zhk
theorem nMh(c n:Int)(b:Nat)(hc:0<=c)(ai:c<2305843009213688669)(hn:0<=n)(J:n<2305843009213688669)(w:World)(hb:w.heap[b]? =some (oC #[ab n] 3)):Calls prog 147 #[ab c,ptr b 0] w (C0 w (.tuple #[]) b (oC #[ab (n*c%2305843009213688669)] 3)):=by
 refine nP Gh.no [(b,_)] (vs:=[_,_]) func147 rfl ntmps147 rfl (n3j hb) ?_;refine B 3 ?_;refine cl call92 rfl (λW hS=>nrh _ _ aa aa aa aa W) ?_;refine zzf ?_;refine B 1 ?_;refine bH (.inr rfl) results147 aL (λW hS=>⟨rfl,(hS.links w A0).mono λk _ hk=>?_,hS.own _ A0⟩);simpa[Gh.no]using hk
theorem n1m(k:Int)(w:World):Calls prog 148 #[ab k] w (db w (λb=>.func (.func 212) #[] #[ptr b 0]) (λb w1=>w.heap.size<=b/\w1.heap[b]? =some (oC #[ab k] 3))):=by
 refine eN func148 ntmps148 ?_;refine aU 2 ?_;intro b1 w1 aW bJ eO dC fg;refine B 10 ?_;refine pe b1 results148 rfl A1 rfl ?_;exact zVk
theorem and_one(m:Int)(h0:0<=m)(h1:m<9223372036854775808):IntKind.i64.wrap (BitVec.ofInt IntKind.i64.bits m&&&BitVec.ofInt IntKind.i64.bits 1).toNat=m%2:=by
 obtain⟨n,rfl⟩:=Ji h0;have e:(BitVec.ofInt IntKind.i64.bits (n:Int)&&&BitVec.ofInt IntKind.i64.bits 1).toNat=n%2:=by
  rw[BitVec.toNat_and];have h2:(BitVec.ofInt IntKind.i64.bits (n:Int)).toNat=n:=by
   simp only[IntKind.bits,BitVec.ofInt_natCast,BitVec.toNat_ofNat];omega
  have h3:(BitVec.ofInt IntKind.i64.bits 1).toNat=1:=rfl;rw[h2,h3,Nat.and_one_is_mod]
 grind [Nu]
theorem PL(m i:Nat)(k:Int)(hk:k=(i:Int))(hi:i<=64):(m:Int).fdiv (2^(min (Int.toNat k) IntKind.i64.bits))=((m/2^i:Nat):Int):=zl m i k hk hi
theorem njp(n:Nat)(hn:n<9223372036854775808)(b:Nat)(W:World)(aW:W.heap[b]? =some (oC #[ab (n:Int)] 3)):Xl prog 212 [ptr b 0] (λx:Bool=>[.bool x]) (pI n) (λ_=>False) (λk=>k=b) W:=by
 intro l M I X0 hM hI J hy h0;have bJ:¬M b:=λh=>(hM b h).2.2 rfl;have kx:=W4 n 63 hn;have hbI:pG (n:Int)=(cX n:Int):=by simp[pG]
 refine nP (PM hM (hI [])) [] (vs:=[_,_]) func212 rfl ntmps212 rfl (Nv hM (hI []) h0) ?_;refine B 4 ?_;refine cl call144 rfl (λW hS=>nze _ aa aa W) ?_;refine ztg ?_;refine B 4 ?_;refine CJ.loop (α:=Nat) (λj=>[(0,yv l),(1,ptr b 0),(3,ab ((cX n:Int)-1-(j:Int)))]) (λj=>[]) (λj=>[W]) (λj=>PM hM (hI ((pI n).take j))) (λj=>j<=cX n) (λj=>cX n-j) 0 (cd _) zR rfl rfl zP ?_;rintro j hj;refine av 7 ?_ ?_
 ·intro ai;refine B 9 ?_;refine rq (ab ((n/2^(cX n-1-j):Nat):Int)) (lB rfl rfl aa) (congrArg ab (PL n _ _ aa aa)) ?_;refine rq (ab (((n/2^(cX n-1-j):Nat):Int)%2)) (xH rfl rfl) (congrArg ab (and_one _ (Int.natCast_nonneg _) (Int.lt_of_le_of_lt (Int.ofNat_le.2 (Nat.div_le_self n _)) aa))) ?_;refine zGg ?_;refine yld (PM hM (hI ((pI n).take (j+1)))) (PM hM J) rfl rfl rfl rfl (λW1 hS=>by have:=hy ((pI n).take j) _ W1 (ngo n j aa) hS.ghost;rw[<-nEe n j aa]at this;exact this) rfl rfl rfl rfl ?_ ?_
  ·refine B 12 ?_;refine PJ.again (j+1) aa aa ⟨rfl,rfl,congrArg some (congrArg ab aa),trivial⟩ rfl rfl zP
  refine B 9 ?_;exact C4 (.inl rfl) results212 A0 (λA hA=>.inr hA)
 intro ai;refine B 4 ?_;exact C4 (.inr rfl) results212 A0 (λA hA=>.inl (zYBF))
theorem nYo(a k:Int)(ha:0<=a)(dC:a<2305843009213688669)(hk:0<=k)(PH:k<9223372036854775808)(w:World):Calls prog 106 #[ab a,ab k] w (ar w (ab (qF a k 2305843009213688669))):=by
 refine Im Gh.no [] (vs:=[_,_]) func106 rfl ntmps106 rfl (AX w) ?_;refine aU 2 ?_;intro b2 w2 bV bj dz cL cR;refine bD 6 ?_;intro b5 fK gf;refine bD 7 ?_;intro b6 jb od;refine B 7 ?_;refine ny (Φ:=λW b w1=>W.heap.size<=b/\w1.heap[b]? =some (oC #[ab k] 3)) call148 rfl rfl rfl (λW hS=>n1m _ W) ?_;intro Wd bd wd vf Xb aq;obtain⟨PI,rY⟩:=aq;have Xc:=vf.under;simp only[nD,eI,gB]at Xc;have Nn:=vf.sizes;replace Nn:=yb Nn;have a6:=Xb.size;refine B 3 ?_;refine CJ.range (f:=212) (cap:=[ptr bd 0]) (α:=Bool) (enc:=(λx:Bool=>[.bool x])) (xs:=pI k.toNat) (MI:=λ_=>False) (RO:=λk=>k=bd) rfl call212 (λW W2 hS hB=>by have e:(ab k:Value)=ab ((k.toNat:Nat):Int):=(by rw[Int.toNat_of_nonneg hk]);exact njp k.toNat aa bd W2 (zYBc)) (λ_ _ _ hk=>hk.elim) (λW hS k hk=>zYb) (λ_=>rfl) (λpre Hc=>Hc=[(b6,oC #[.func (.func 147) #[] #[ptr b5 0]] 233),(b5,oC #[ab (nO a 2305843009213688669 pre 1)] 3)]) (λ_ _=>False) rfl (by rintro pre Hc rfl;rfl) (λ_ _ hk=>hk.elim) zF ?_ ?_ ?_
 ·rintro pre x Hc l Dk rec Wy pJ ui gX rfl J jA Np vE;simp only[ah]at J vE;have Jj:=nTg a 2305843009213688669 zF pre 1 zF zF;have hX:=Int.emod_nonneg (nO a 2305843009213688669 pre 1*nO a 2305843009213688669 pre 1) (b:=2305843009213688669) zF;have oc:=Int.emod_lt_of_pos (nO a 2305843009213688669 pre 1*nO a 2305843009213688669 pre 1) (b:=2305843009213688669) zF;refine UE ?_;refine B 5 ?_;refine zog ?_;refine av 7 ?_ ?_
  ·intro ai;refine B 3 ?_;refine zog ?_;refine B 2 ?_;exact nSl (Hc:=[(b6,oC #[.func (.func 147) #[] #[ptr b5 0]] 233),(b5,oC #[ab (nO a 2305843009213688669 pre 1*nO a 2305843009213688669 pre 1%2305843009213688669*a%2305843009213688669)] 3)]) (λ_ hk=>hk) (by cases rec;simp_all) (by rw[nSd,ai];rfl)
  intro ai;refine B 2 ?_;exact nSl (Hc:=[(b6,oC #[.func (.func 147) #[] #[ptr b5 0]] 233),(b5,oC #[ab (nO a 2305843009213688669 pre 1*nO a 2305843009213688669 pre 1%2305843009213688669)] 3)]) (λ_ hk=>hk) (by cases rec;simp_all) (by rw[nSd,ai];rfl)
 ·rintro l Dk rec Hc J jA rfl;replace J:=yb J;refine B 9 ?_;refine Nq (.inl rfl) results106 rfl Cf (λW H' hS di=>⟨?_,?_⟩)
  ·exact congrArg Ending.returned rfl
  exact zSk
 exact λ_ _ _ _ _ _ _ hk=>hk.elim
theorem nvs(a:Int)(w:World):Calls prog 66 #[ab a] w (ar w (jZ (rZ a))):=by
 refine cH 11 func66 ntmps66 ?_;refine Jp ?_;refine yV ?_;intro b6 w6 aq J aD jb od;refine cl call91 rfl (λW hS=>ntd [a] _ _ _ _ _ rfl zP W (hS.old A0 aq J trivial)) ?_;refine av 3 ?_ ?_
 ·intro ai;refine B 1 ?_;have hg:=Xk ai;refine B 8 ?_;exact zej
 intro ai;refine B 1 ?_;have hg:=agS ai;refine av 6 ?_ ?_
 ·intro ax;refine B 9 ?_;exact zej
 intro ax;refine B 6 ?_;refine cl call106 rfl (λW hS=>nYo _ _ aa aa aa aa W) ?_;refine B 5 ?_;exact zej
theorem nkr(a:Int)(w:World):Calls prog 84 #[ab a] w (ar w (.bool (decide (pf a)))):=by
 refine cH 10 func84 ntmps84 ?_;refine nf (t:=5) rfl (λai=>?_) (λai=>?_)
 ·replace ai:=ya ai;refine B 7 ?_;refine ao results84 rfl A0 ?_;refine vb (wW.2 ?_)
  (try simp only[decide_eq_true_eq,Bool.false_eq_true,false_iff,true_iff])
  exact Nw
 replace ai:=ya ai;refine B 7 ?_;refine ao results84 rfl A0 ?_;refine vb (wW.2 ?_)
 (try simp only[decide_eq_true_eq,Bool.false_eq_true,false_iff,true_iff])
 exact Nw
theorem PN(c m:Int)(h:m<=c)(h2:c<m+m):c-m=c%m:=by
 have:=Int.emod_eq_of_lt (a:=c-m) (b:=m) aa aa;simp_all
section
variable (a b m:Int)(ha:0<=a)(dC:a<m)(hb:0<=b)(aW:b<m)(hm:m<4611686018427387904)(w:World)
include m ha dC hb aW hm
theorem ntl:Calls prog 162 #[ab a,ab b,ab m] w (ar w (ab ((a+b)%m))):=by
 refine eN func162 ntmps162 ?_;refine av 21 ?_ ?_
 ·intro ai;refine B 10 ?_;refine ao results162 rfl A0 ?_;exact congrArg ab z0c
 intro ai;refine B 9 ?_;refine ao results162 rfl A0 ?_;exact congrArg ab z0c
theorem nOc:Calls prog 116 #[ab a,ab b,ab m] w (ar w (ab (a*b%m))):=by
 refine enter (vs:=[_,_,_]) func116 rfl ntmps116 rfl ?_;refine B 2 ?_;refine zm ?_;refine zm ?_;refine CJ.loop (α:=Int×Int×Int) (λp=>[(0,ab p.1),(1,ab p.2.1),(7,ab p.2.2),(2,ab m)]) (λp=>[]) (λp=>[w]) (λp=>Gh.no) (λp=>0<=p.1/\p.1<m/\0<=p.2.1/\p.2.1<9223372036854775808/\0<=p.2.2/\p.2.2<m/\(p.2.2+p.1*p.2.1)%m=a*b%m) (λp=>p.2.1.toNat) (a,b,0) zbd zR rfl rfl zP ?_;rintro⟨a',b',c⟩ ⟨h1,h2,h3,h4,h5,h6,hR⟩;dsimp only at h1 h2 h3 h4 h5 h6 hR ⊢;have q1:=Int.emod_nonneg (a'+a') (b:=m) aa;have q2:=Int.emod_lt_of_pos (a'+a') (b:=m) aa;have J:=Int.emod_nonneg (c+a') (b:=m) aa;have q4:=Int.emod_lt_of_pos (c+a') (b:=m) aa;refine B 3 ?_;refine C5 ?_;refine rx (C6 rfl rfl) ?_;refine av 2 ?_ ?_
 ·intro ai;refine zpi ?_;refine pd ?_ ?_
  ·intro ax;refine B 1 ?_;refine UH ?_;refine C5 ?_;refine zVf ?_;refine zm ?_;refine UH ?_;refine C5 ?_;refine zVf ?_;refine zai ?_;refine PJ.again (((a'+a')%m,b'/2,(c+a')%m):Int×Int×Int) ⟨by omega,by omega,by dsimp only;omega,by dsimp only;omega,by omega,by omega,zYBG⟩ zZ zR rfl rfl zP
  intro ax;refine B 4 ?_;refine UH ?_;refine C5 ?_;refine zVf ?_;refine zai ?_;refine PJ.again (((a'+a')%m,b'/2,c):Int×Int×Int) ⟨by omega,by omega,by dsimp only;omega,by dsimp only;omega,by omega,by omega,zYBG⟩ zZ zR rfl rfl zP
 intro ai;refine B 7 ?_;refine C5 ?_;refine Nx ?_;refine B 3 ?_;refine ao results116 rfl A0 ?_;have e:b'=0:=by omega
 subst e;rw[Int.mul_zero,Int.add_zero,Int.emod_eq_of_lt h5 h6]at hR;exact congrArg ab hR
end
theorem n4l(a k:Int)(ha:0<=a)(dC:a<4611686018427377339)(hk:0<=k)(PH:k<9223372036854775808)(w:World):Calls prog 77 #[ab a,ab k] w (ar w (ab (qF a k 4611686018427377339))):=by
 refine enter (vs:=[_,_]) func77 rfl ntmps77 rfl ?_;refine B 2 ?_;refine zm ?_;refine zm ?_;refine CJ.loop (α:=Int×Int×Int) (λp=>[(0,ab p.1),(1,ab p.2.1),(5,ab p.2.2)]) (λp=>[]) (λp=>[w]) (λp=>Gh.no) (λp=>0<=p.1/\p.1<4611686018427377339/\0<=p.2.1/\p.2.1<9223372036854775808/\0<=p.2.2/\p.2.2<4611686018427377339/\p.2.2*p.1^p.2.1.toNat%4611686018427377339=a^k.toNat%4611686018427377339) (λp=>p.2.1.toNat) (a,k,1) zbd zR rfl rfl zP ?_;rintro⟨a',b',c⟩ ⟨h1,h2,h3,h4,h5,h6,hR⟩;dsimp only at h1 h2 h3 h4 h5 h6 hR ⊢;have q1:=Int.emod_nonneg (a'*a') (b:=4611686018427377339) aa;have q2:=Int.emod_lt_of_pos (a'*a') (b:=4611686018427377339) aa;have J:=Int.emod_nonneg (c*a') (b:=4611686018427377339) aa;have q4:=Int.emod_lt_of_pos (c*a') (b:=4611686018427377339) aa;refine B 3 ?_;refine C5 ?_;refine rx (C6 rfl rfl) ?_;refine av 2 ?_ ?_
 ·intro ai;refine zpi ?_;refine pd ?_ ?_
  ·intro ax;refine B 1 ?_;refine UH ?_;refine zYf ?_;refine zm ?_;refine UH ?_;refine zYf ?_;refine zai ?_;refine PJ.again (((a'*a')%4611686018427377339,b'/2,(c*a')%4611686018427377339):Int×Int×Int) ⟨by omega,by omega,by dsimp only;omega,by dsimp only;omega,by omega,by omega,zYBA⟩ zZ zR rfl rfl zP
  intro ax;refine B 4 ?_;refine UH ?_;refine zYf ?_;refine zai ?_;refine PJ.again (((a'*a')%4611686018427377339,b'/2,c):Int×Int×Int) ⟨by omega,by omega,by dsimp only;omega,by dsimp only;omega,by omega,by omega,zYBA⟩ zZ zR rfl rfl zP
 intro ai;refine B 7 ?_;refine C5 ?_;refine Nx ?_;refine B 3 ?_;refine ao results77 rfl A0 ?_;have e:b'=0:=by omega
 subst e;rw[Int.toNat_zero,Int.pow_zero,Int.mul_one,Int.emod_eq_of_lt h5 h6]at hR;exact congrArg ab (by rw[Jo a k 4611686018427377339 aa zF];exact hR)
theorem nZn(a:Int)(w:World):Calls prog 128 #[ab a] w (ar w (.bool (decide (pf a)))):=by
 refine cH 10 func128 ntmps128 ?_;refine nf (t:=5) rfl (λai=>?_) (λai=>?_)
 ·replace ai:=ya ai;refine B 7 ?_;refine ao results128 rfl A0 ?_;refine vb (wW.2 ?_)
  (try simp only[decide_eq_true_eq,Bool.false_eq_true,false_iff,true_iff])
  exact Nw
 replace ai:=ya ai;refine B 7 ?_;refine ao results128 rfl A0 ?_;refine vb (wW.2 ?_)
 (try simp only[decide_eq_true_eq,Bool.false_eq_true,false_iff,true_iff])
 exact Nw
theorem nL(a:Int)(w:World):Calls prog 35 #[ab a] w (ar w (ab (if dr a then 0 else 40))):=by
 have hp:=PK a 2305843009213688669 4611686018427377339 zF;refine cH 11 func35 ntmps35 ?_;refine nf (t:=5) rfl (λai=>?_) (λai=>?_)
 ·replace ai:=ya ai;refine B 18 ?_;refine zeg ?_;split<;>omega
 replace ai:=ya ai;refine B 4 ?_;refine nf (t:=9) rfl (λax=>?_) (λax=>?_)
 ·replace ax:=ya ax;refine B 14 ?_;refine zeg ?_;split<;>omega
 replace ax:=ya ax;refine B 1 ?_;refine cl call77 rfl (λW hS=>n4l _ _ aa aa aa aa W) ?_;refine av 4 ?_ ?_
 ·intro bY;refine B 7 ?_;refine zeg ?_;split<;>omega
 intro bY;refine B 8 ?_;refine zeg ?_;split<;>omega
theorem nNq(a k:Int)(w:World):Calls prog 86 #[ab a,ab k] w (ar w (jZ (gExp a k))):=by
 have hp:=PK a k 4611686018427377339 zF;refine cH 9 func86 ntmps86 ?_;refine cl call35 rfl (λW hS=>nL _ W) ?_;refine av 10 ?_ ?_
 ·intro ai;refine B 1 ?_;have hg:¬dr a:=λh=>by simp[if_pos h]at ai
  refine B 8 ?_;exact zdj
 intro ai;refine B 4 ?_;have hg:dr a:=Decidable.byContradiction λh=>by simp[if_neg h]at ai
 refine B 2 ?_;refine cl call128 rfl (λW hS=>nZn _ W) ?_;refine av 3 ?_ ?_
 ·intro ax;refine B 8 ?_;exact zdj
 intro ax;refine B 6 ?_;refine cl call77 rfl (λW hS=>n4l _ _ aa aa aa aa W) ?_;refine B 5 ?_;exact zdj
theorem C7(k:Int)(w:World):Calls prog 85 #[ab k] w (ar w (jZ (gExp 4 k))):=by
 refine cH 9 func85 ntmps85 ?_;refine cl call86 rfl (λW hS=>nNq _ _ W) ?_;refine B 7 ?_;refine nK results85 rfl rfl A0 ?_ ?_;all_goals rfl
theorem Jq(n c m:Int):((256*n)%m+c)%m=(n*256+c)%m:=by rw[Int.emod_add_emod,Int.mul_comm]
theorem C8(f:Nat->Int)(hf:gY f)(m:Int)(qo:256<m)(hm:m<4611686018427387904)(w:World):Calls prog 183 #[.agg (dg f),ab m] w (ar w (ab (xC m (pK f) 0))):=by
 refine eN func183 ntmps183 ?_;refine aU 2 ?_;intro b2 w2 bV bj dz cL cR;refine B 15 ?_;refine CJ.loop (α:=Nat) (λj=>[(1,ab m),(2,ptr b2 0),(5,ab (xC m ((pK f).take j) 0)),(6,ab (j:Int))]) (λj=>[]) (λj=>[w2,w]) (λj=>Gh.no) (λj=>j<=32) (λj=>32-j) 0 zF zR rfl rfl zP ?_;rintro j hj;have Jj:=Xf m aa ((pK f).take j) 0 zF aa;have J:=hf j;have q1:=Int.emod_nonneg (256*xC m ((pK f).take j) 0) (b:=m) aa;have q2:=Int.emod_lt_of_pos (256*xC m ((pK f).take j) 0) (b:=m) aa;refine av 7 ?_ ?_
 ·intro ai;refine B 4 ?_;refine eA 9 (pb:=by exact zU 2 (k:=by exact dh (X.cv call116 rfl (λW hS _=>nOc _ _ _ aa aa aa aa aa W)) (zU 2 (k:=by exact qv (ad (v:=.int .u8 (f j)) isAgg5 rfl A0 bV bj trivial (by rw[<-jN f j aa];exact congrArg (λi=>(dg f)[i]?) aa)) zT)))) (k:=?_);refine rq (ab ((xC m ((pK f).take j) 0*256+f j)%m)) (xA rfl rfl aa aa) (congrArg ab (Jq _ _ _)) ?_;refine B 9 ?_;refine PJ.again (j+1) aa aa ⟨rfl,rfl,by rw[ntn f j aa,nuj];rfl,rfl,trivial⟩ rfl rfl zP
 intro ai;refine B 12 ?_;refine ao results183 rfl A1 ?_;exact congrArg ab (by rw[lE (by simp[pK];omega)])
abbrev lJ (x:Int):Prop:=1<=x/\x<2305843009213688669
theorem ag2:dr 4:=by decide +kernel
def C9 (x:Int):Int×Int:=if lJ x then(qF 4 x 4611686018427377339,0)else(0,50)
theorem Da{x:Int}(h:lJ x):gExp 4 x=(qF 4 x 4611686018427377339,0):=by grind [gExp,ag2]
theorem nvj(a:Int)(w:World):Calls prog 28 #[ab a] w (ar w (.bool (decide (lJ a)))):=by
 refine cH 10 func28 ntmps28 ?_;refine nf (t:=5) rfl (λai=>?_) (λai=>?_)
 ·replace ai:=ya ai;refine B 7 ?_;refine ao results28 rfl A0 ?_;refine vb (wW.2 ?_)
  (try simp only[decide_eq_true_eq,Bool.false_eq_true,false_iff,true_iff])
  exact Nw
 replace ai:=ya ai;refine B 7 ?_;refine ao results28 rfl A0 ?_;refine vb (wW.2 ?_)
 (try simp only[decide_eq_true_eq,Bool.false_eq_true,false_iff,true_iff])
 exact Nw
theorem nOi(a:Int)(w:World):Calls prog 29 #[ab a] w (ar w (ab (gExp 4 a).1)):=by
 refine cH 8 func29 ntmps29 ?_;refine cl call45 rfl (λW hS=>nQj _ W) ?_;refine B 14 ?_;refine ao results29 rfl A0 ?_;rfl
theorem nSi(a:Int)(w:World):Calls prog 11 #[ab a] w (ar w (jZ (C9 a))):=by
 refine cH 10 func11 ntmps11 ?_;refine cl call28 rfl (λW hS=>nvj _ W) ?_;refine av 3 ?_ ?_
 ·intro ai;refine B 8 ?_;exact zXj
 intro ai;refine B 5 ?_;refine cl call29 rfl (λW hS=>nOi _ W) ?_;refine B 5 ?_;exact zXj
theorem Xm(n:Nat)(h1:1<=n)(h2:n<=31):(IntKind.u64.wrap (-(n:Int)))%32=((32-n:Nat):Int):=by rw[nz];omega
theorem PO(x:BitVec 32)(n:Nat)(h1:1<=n)(h2:n<=31)(w:World):Calls prog 247 #[u32 x,ab (-(n:Int))] w (ar w (u32 (xI x n))):=by
 refine cH 8 func247 ntmps247 ?_;refine rx (kz underlying3 underlying224 rfl) ?_;refine rq (.int .u64 ((32-n:Nat):Int)) (qE 5 32 zF rfl rfl rfl rfl (by rw[nz];omega) (by rw[nz];omega)) (vu (Xm n h1 h2)) ?_;refine B 7 ?_;refine rx (oB (32-n) aa rfl rfl rfl) ?_;refine aV 2 (.int .u64 (n:Int)) ?_;refine rx (oD n aa rfl rfl rfl) ?_;refine rx (pg rfl rfl) ?_;refine B 4 ?_;refine ao results247 rfl A0 ?_;exact congrArg u32 (BitVec.or_comm _ _)
theorem nqg(x:BitVec 32)(a b c:Nat)(ha:1<=a)(dC:a<=31)(hb:1<=b)(aW:b<=31)(hc:1<=c)(ai:c<=31)(w:World):Calls prog 248 #[u32 x,ab (a:Int),ab (b:Int),ab (c:Int)] w (ar w (u32 (xI x a^^^xI x b^^^xI x c))):=by
 refine cH 9 func248 ntmps248 ?_;refine zYg ?_;refine cl call247 rfl (λW hS=>PO _ a aa aa W) ?_;refine B 2 ?_;refine zYg ?_;refine cl call247 rfl (λW hS=>PO _ b aa aa W) ?_;refine UI ?_;refine B 2 ?_;refine zYg ?_;refine cl call247 rfl (λW hS=>PO _ c aa aa W) ?_;refine UI ?_;refine B 4 ?_;refine ao results248 rfl A0 ?_;rfl
def zn (m:Nat->Int):Nat->BitVec 32
 |0=>0
 |n+1=>zn m n<<<8|||BitVec.ofInt 32 (m n)
theorem Jr(m:Nat->Int):zn m 4=Ny m 0:=by grind [zn,Ny]
theorem nop(m:Nat->Int)(b off n c t:Nat)(fr:Nat×Nat)(cs:Array Value)(hn:4<=n)(hc:n<=c)(w:World)(mo:w.heap[b]? =some (.cells cs t fr))(hm:∀i,i<4->cs[off+i]? =some (.int .u8 (m i))):Calls prog 246 #[.slice (some ⟨b,off,none⟩) n c] w (ar w (u32 (Ny m 0))):=by
 have J:¬Gh.no.M b:=λh=>h;refine cH 9 func246 ntmps246 ?_;refine rx (gZ (h:=4) underlying50 sizeOf5 rfl ⟨_,_,rfl,rfl⟩ aa) ?_;refine B 5 ?_;refine CJ.lp (α:=Nat) [6,7] (λj=>[(2,u32 (zn m j)),(8,ab (j:Int))]) (λj=>[]) (λj=>j<=4) (λj=>4-j) 0 zF ?_;rintro j hj;refine av 6 ?_ ?_
 ·intro ai;refine B 7 ?_;refine rx (ad (v:=.int .u8 (m j)) isAgg5 rfl A0 mo J trivial (by rw[<-hm j aa];exact congrArg (λi=>cs[i]?) aa)) ?_;refine B 5 ?_;refine rx (oB 8 zF rfl rfl rfl) ?_;refine B 1 ?_;refine rx (qG underlying5 underlying287 rfl) ?_;refine rx (pg rfl rfl) ?_;refine B 8 ?_;exact AY
 intro ai;refine B 12 ?_;refine ao results246 rfl A0 ?_;have e:j=4:=by omega
 subst e;exact congrArg u32 (Jr m)
def r5 (cs:Array Value) (off len:Nat) (n:Nat):Nat->Array Value
 |0=>cs
 |i+1=>setCells (r5 cs off len n i) (off+(len-1-i)) [.int .u8 ((n/2^(8*i)%256:Nat):Int)]
theorem nzs(cs:Array Value)(off len n:Nat):∀i,(r5 cs off len n i).size=cs.size:=
 by intro x;induction x<;>(grind [r5,nTe])
theorem Xo(n i:Nat)(k:Int)(hk:k=((8*i:Nat):Int))(hi:i<=7):(n:Int).fdiv (2^(min (Int.toNat k) IntKind.u64.bits))%256=((n/2^(8*i)%256:Nat):Int):=by
 grind [zl]
theorem nZe(n:Nat)(b off len cap t:Nat)(cs:Array Value)(hlen:len<=8)(J:off+len<=cs.size)(w:World)(hb:w.heap[b]? =some (oC cs t)):Calls prog 196 #[.slice (some ⟨b,off,none⟩) len cap,.int .u64 (n:Int)] w (C0 w (.tuple #[]) b (oC (r5 cs off len n len) t)):=by
 refine nP Gh.no [(b,_)] (vs:=[_,_]) func196 rfl ntmps196 rfl (n3j hb) ?_;refine B 8 ?_;refine CJ.lp (α:=Nat) [0,1,6] (λj=>[(7,ab (j:Int))]) (λj=>[(b,oC (r5 cs off len n j) t)]) (λj=>j<=len) (λj=>len-j) 0 (cd _) ?_;rintro j hj;refine av 6 ?_ ?_
 ·intro ai;refine B 20 ?_;refine Xp ?_;refine rq (.int .u8 ((n/2^(8*j)%256:Nat):Int)) (iQ underlying161 underlying5 rfl) (congrArg (Value.int .u8) (Xo n j _ aa aa)) ?_;refine rq (ptr b (off+(len-1-j))) (oE underlying50 sizeOf5 rfl rfl aa aa) (congrArg (λk=>ptr b (off+k)) aa) ?_;refine lG (i:=0) rfl sizeOf5 rfl rfl rfl rfl (by rw[nzs];omega) rfl ?_;refine B 7 ?_;exact AY
 intro ai;refine B 4 ?_;have e:j=len:=by omega
 subst e;refine bH (.inr rfl) results196 aL (λW hS=>⟨rfl,(hS.links w A0).mono λk _ hk=>?_,hS.own _ A0⟩);simpa[Gh.no]using hk
theorem zo(n:Nat)(f:Nat->Value)(i k:Nat)(h:k=i)(hi:i<n):(cf n f)[k]? =some (f i):=by grind [Nz]
theorem S8.cells_ld(s:S8)(i k:Nat)(h:k=i)(hi:i<8):s.cells[k]? =some (u32 (s.at i)):=by subst h;exact s.cells_at k hi
theorem nZj(m:Nat->Int)(j:Nat)(v:BitVec 32)(hv:v=if j<16 then Ny m (4*j)else dU m j (j-16)+s0 (dU m j (j-15))+dU m j (j-7)+s1 (dU m j (j-2))):setCells (cf 64 (λi=>u32 (dU m j i))) j (u32 v).cells.toList=cf 64 (λi=>u32 (dU m (j+1) i)):=by
 show setCells (cf 64 (λi=>u32 (dU m j i))) j [u32 v]=_;rw[UJ];congr 1;funext i;simp[dU,Ip]
 grind
def uo (s v:S8) (j:Nat):Array Value:=cf 8 (λk=>u32 (if k<j then s.at k+v.at k else s.at k))
theorem nls(s v:S8)(j:Nat):setCells (uo s v j) j (u32 (s.at j+v.at j)).cells.toList=uo s v (j+1):=by
 show setCells (cf 8 _) j [u32 (s.at j+v.at j)]=_;rw[UJ];congr 1
 grind [Ip]
theorem PQ(s v:S8):uo s v 8=(s.add v).cells:=rfl
theorem Js(s v:S8)(j k:Nat)(h:k=j)(hj:j<8):(uo s v j)[k]? =some (u32 (s.at j)):=by
 simp_all[uo,zo]
theorem nUe(s:S8)(m:Nat->Int)(b bb off n c t:Nat)(fr zp:Nat×Nat)(t3:Nat)(cs:Array Value)(hn:64<=n)(hc:n<=c)(w:World)(hb:w.heap[b]? =some (oC s.cells 289))(mq:w.heap[bb]? =some (.cells cs t fr))(hm:∀i,i<64->cs[off+i]? =some (.int .u8 (m i)))(kq:bb≠b)(hg:w.heap[3]? =some (.cells (cf 64 (λi=>u32 (kk i))) t3 zp))(Db:b≠3):Calls prog 195 #[ptr b 0,.slice (some ⟨bb,off,none⟩) n c] w (C0 w (.tuple #[]) b (oC (s.comp m).cells 289)):=by
 have Ba:=(bO.1 mq).1;have kx:=(bO.1 hb).1;have UK:=(bO.1 hg).1;refine nP Gh.no [(b,_)] (vs:=[_,_]) func195 rfl ntmps195 rfl (n3j hb) ?_;refine bD 3 ?_;intro b4 dL dP;refine B 9 ?_;refine CJ.lp (α:=Nat) [0,1,4] (λj=>[(14,ab (j:Int))]) (λj=>[(b4,oC (cf 64 (λi=>u32 (dU m j i))) 335),(b,oC s.cells 289)]) (λj=>j<=16) (λj=>16-j) 0 zF ?_;rintro j hj;refine av 6 ?_ ?_
 ·intro ai;refine B 15 ?_;refine rx (hQ (l:=4*j) (h:=n) (off':=off+4*j) underlying50 sizeOf5 rfl ⟨_,_,rfl,by omega⟩ rfl aa aa Xr) ?_;refine cl call246 rfl (λW hS=>nop (λi=>m (4*j+i)) _ _ _ _ _ _ _ aa aa W (hS.old A0 mq zL zD) (λi hi=>by rw[Nat.add_assoc];exact hm _ aa)) ?_;refine zLg ?_;refine zef ?_;refine B 7 ?_;refine PJ.reH (H':=[(b4,oC (cf 64 (λi=>u32 (dU m (j+1) i))) 335),(b,oC s.cells 289)]) (zYBI) ?_;exact AY
 intro ai;refine B 12 ?_;have e:j=16:=by omega
 subst e;refine CJ.lp (α:=Nat) [0,4] (λj=>[(6,ab (j:Int))]) (λj=>[(b4,oC (cf 64 (λi=>u32 (dU m j i))) 335),(b,oC s.cells 289)]) (λj=>16<=j/\j<=64) (λj=>64-j) 16 zF ?_;rintro j ⟨aD,hj⟩;refine av 7 ?_ ?_
 ·intro ax;refine B 5 ?_;refine eA 9 (pb:=by exact zU 3 (k:=by exact qv (aX (v:=u32 (dU m j (j-15))) (i:=0) rfl isAgg287 rfl (zo 64 (λi=>u32 (dU m j i)) (j-15) _ aa aa)) (zU 3 (k:=by exact qv (aX (v:=u32 (dU m j (j-2))) (i:=0) rfl isAgg287 rfl (zo 64 (λi=>u32 (dU m j i)) (j-2) _ aa aa)) zT)))) (k:=?_);refine B 3 ?_;refine eA 28 (pb:=by exact zU 4 (k:=by exact qv (aX (v:=u32 (dU m j (j-16))) (i:=0) rfl isAgg287 rfl (zo 64 (λi=>u32 (dU m j i)) (j-16) _ aa aa)) (zU 1 (k:=by exact dh (X.cv call247 rfl (λW hS _=>PO _ 7 zF zF W)) (zU 1 (k:=by exact dh (X.cv call247 rfl (λW hS _=>PO _ 18 zF zF W)) (qv (fC rfl rfl) (zU 1 (k:=by exact qv (oD 3 zF rfl rfl rfl) (qv (fC rfl rfl) (qv (ee rfl rfl) (zU 3 (k:=by exact qv (aX (v:=u32 (dU m j (j-7))) (i:=0) rfl isAgg287 rfl (zo 64 (λi=>u32 (dU m j i)) (j-7) _ aa aa)) (qv (ee rfl rfl) (zU 1 (k:=by exact dh (X.cv call247 rfl (λW hS _=>PO _ 17 zF zF W)) (zU 1 (k:=by exact dh (X.cv call247 rfl (λW hS _=>PO _ 19 zF zF W)) (qv (fC rfl rfl) (zU 1 (k:=zY3))))))))))))))))))))) (k:=?_);refine zLg ?_;refine zef ?_;refine B 8 ?_;refine PJ.reH (H':=[(b4,oC (cf 64 (λi=>u32 (dU m (j+1) i))) 335),(b,oC s.cells 289)]) (by rw[<-nZj m j _ Xs];rfl) ?_
  exact AY
 intro ax;refine bD 11 ?_;intro b9 oF xJ;refine B 10 ?_;have e:j=64:=by omega
 subst e;obtain⟨ws,J⟩:∃ws,ws=dU m 64:=⟨_,rfl⟩;refine CJ.reH (H':=[(b9,oC s.cells 289),(b4,oC (cf 64 (λi=>u32 (ws i))) 335),(b,oC s.cells 289)]) (by rw[J];rfl) ?_;refine CJ.lp (α:=Nat) [0,4,9] (λj=>[(69,ab (j:Int))]) (λj=>[(b9,oC (S8.run ws s j).cells 289),(b4,oC (cf 64 (λi=>u32 (ws i))) 335),(b,oC s.cells 289)]) (λj=>j<=64) (λj=>64-j) 0 zF ?_;rintro j hj;dsimp only;generalize hv:S8.run ws s j=v;refine av 6 ?_ ?_
 ·intro bY;refine B 11 ?_;refine eA 25 (pb:=by exact zU 4 (k:=by exact dh (X.cv call248 rfl (λW hS _=>nqg _ 6 11 25 zF zF zF zF zF zF W)) (qv (ee rfl rfl) (zU 8 (k:=by exact qv (fC rfl rfl) (qv (oG rfl rfl) (qv (fC rfl rfl) (qv (ee rfl rfl) (zU 2 (k:=by exact qv (ad (v:=u32 (kk j)) isAgg287 rfl A0 hg zL zD (zo 64 (λi=>u32 (kk i)) j _ aa aa)) (qv (ee rfl rfl) (zU 2 (k:=zYt))))))))))))) (k:=?_);refine NA ?_;refine B 4 ?_;refine eA 17 (pb:=by exact zU 2 (k:=by exact dh (X.cv call248 rfl (λW hS _=>nqg _ 2 13 22 zF zF zF zF zF zF W)) (zU 4 (k:=by exact qv (oG rfl rfl) (zU 6 (k:=by exact qv (pg rfl rfl) (qv (oG rfl rfl) (qv (pg rfl rfl) (lK rfl))))))))) (k:=?_);refine NA ?_;refine B 4 ?_;refine eA 2 (pb:=by exact qv (Dc (l:=1) underlying289 sizeOf287 rfl ⟨_,_,rfl,rfl⟩ rfl aa aa Xs) (qv (lL (h:=7) underlying289 sizeOf287 rfl ⟨_,_,rfl,rfl⟩ aa) (lK rfl))) (k:=?_);refine cpW (i:=0) (n:=7) rfl underlying339 sizeOf287 rfl rfl rfl rfl (λ_=>rfl) zF (Rd.own (i:=0) rfl (fy rfl) rfl) (fy rfl) rfl ?_;refine B 3 ?_;refine CJ.reH (H':=[(b9,oC #[u32 v.a,u32 v.a,u32 v.b,u32 v.c,u32 v.d,u32 v.e,u32 v.f,u32 v.g] 289),(b4,oC (cf 64 (λi=>u32 (ws i))) 335),(b,oC s.cells 289)]) rfl ?_
  refine B 4 ?_;refine NA ?_;refine B 1 ?_;refine lG (i:=0) rfl sizeOf287 rfl rfl rfl rfl (fy rfl) rfl ?_;refine B 5 ?_;refine NA ?_;refine B 1 ?_;refine lG (i:=0) rfl sizeOf287 rfl rfl rfl rfl (fy rfl) rfl ?_;refine B 7 ?_;refine PJ.reH (H':=[(b9,oC (S8.run ws s (j+1)).cells 289),(b4,oC (cf 64 (λi=>u32 (ws i))) 335),(b,oC s.cells 289)]) (by simp only[S8.run,hv,S8.step,S8.P,S8.Q,<-Jt,<-Ju];rfl) ?_;exact AY
 intro bY;refine B 11 ?_;have e:j=64:=by omega
 subst e;refine CJ.lp (α:=Nat) [0,9] (λj=>[(129,ab (j:Int))]) (λj=>[(b9,oC v.cells 289),(b4,oC (cf 64 (λi=>u32 (ws i))) 335),(b,oC (uo s v j) 289)]) (λj=>j<=8) (λj=>8-j) 0 zF ?_;rintro j hj;refine av 6 ?_ ?_
 ·intro ez;refine B 10 ?_;refine eA 10 (pb:=by exact zU 4 (k:=by exact qv (aX (v:=u32 (s.at j)) (i:=2) rfl isAgg287 rfl (Js s v j _ aa aa)) (zU 2 (k:=by exact qv (aX (v:=u32 (v.at j)) (i:=0) rfl isAgg287 rfl (S8.cells_ld _ j _ aa aa)) (qv (ee rfl rfl) zT))))) (k:=?_);refine rq (ptr b j) (qH underlying289 sizeOf287 rfl rfl aa aa) (congrArg (ptr b) aa) ?_;refine lG (i:=2) rfl sizeOf287 rfl rfl rfl rfl (by rw[uo,nZ];omega) rfl ?_;refine B 7 ?_;refine PJ.reH (H':=[(b9,oC v.cells 289),(b4,oC (cf 64 (λi=>u32 (ws i))) 335),(b,oC (uo s v (j+1)) 289)]) (by rw[<-nls];rfl) ?_;exact AY
 intro ez;refine B 4 ?_;have e:j=8:=by omega
 subst e;rw[show(s.comp m).cells=uo s v 8 from by rw[PQ,S8.comp,<-J,hv]];refine bH (.inr rfl) results195 aL (λW hS=>⟨rfl,(hS.links w A0).mono λk hk hx=>?_,hS.own _ A2⟩);simp only[Gh.no,jv,kS,ft,jc,or_false,false_or]at hx;omega
theorem Dd:prog.info? 5=some Tryz.t5:=by kernel_rfl
theorem De(N:Nat)(g:Nat->Value):∀(news:List Value) (f:Nat->Value) (off:Nat),(∀i,i<news.length->news[i]? =some (g (off+i)))->setCells (cf N f) off news=cf N (λi=>if off<=i/\i<off+news.length then g i else f i)
 | [],f,off,_=>by
  grind [cf,njh,setCells]
 |v::vs,f,off,h=>by
  have h0:=h 0 zP;show setCells (setCells (cf N f) off [v]) (off+1) vs=_;rw[UJ,De N g vs _ (off+1) (λi hi=>by
   have:=h (i+1) mZ
   grind)]
  grind [Ip]
theorem nml(N:Nat)(f:Nat->Value)(off len n:Nat):∀k,k<=len->r5 (cf N f) off len n k=cf N (λi=>if off+(len-k)<=i/\i<off+len then .int .u8 ((n/2^(8*(off+len-1-i))%256:Nat):Int)else f i)
 |0,_=>by
  grind [cf,njh,r5]
 |k+1,hk=>by
  rw[r5,nml N f off len n k aa,UJ]
  grind [njh,Ip]
variable {cs:Array Value}
theorem nEp{o r:Nat}{m:Nat->Int}(h:o+r<=cs.size)(hm:∀i,i<r->cs[o+i]? =some (.int .u8 (m i))):∀i,i<((cs.toList.drop o).take (r*1)).length->((cs.toList.drop o).take (r*1))[i]? =some (.int .u8 (m i)):=by grind
theorem nYi{o r:Nat}(h:o+r<=cs.size):((cs.toList.drop o).take (r*1)).length=r:=by simp;omega
theorem nAp{m:Nat->Int}:∀(l:List Value),(∀i,i<l.length->l[i]? =some (.int .u8 (m i)))->rK l=true
 | [],_=>rfl
 |v::l,h=>by
  have h0:=h 0 zP;simp at h0;subst h0;exact nAp (m:=λi=>m (i+1)) l λi hi=>by grind
def qI (n:Nat) (m:Nat->Int) (j N i:Nat):Value:=if(N-8)+(8-8)<=i/\i<(N-8)+8 then .int .u8 ((8*n/2^(8*((N-8)+8-1-i))%256:Nat):Int)else Ip (λi=>if 0<=i/\i<0+(n-64*j)then .int .u8 (m (64*j+i))else Cg) (n-64*j) (.int .u8 128) i
theorem nMo(n:Nat)(m:Nat->Int)(j N:Nat):r5 (setCells (cf 128 (λi=>if 0<=i/\i<0+(n-64*j)then .int .u8 (m (64*j+i))else Cg)) (n-64*j) [.int .u8 128]) (N-8) 8 (8*n) 8=cf 128 (qI n m j N):=by
 rw[UJ,nml 128 _ _ 8 _ 8 (aC _)];rfl
theorem nho(n:Nat)(m:Nat->Int)(j N i:Nat)(hj:64*j<=n)(hN:64*(bK n-j)=N)(hr:n-64*j<64)(hi:i<N):qI n m j N i= .int .u8 (fj n m (64*j+i)):=by grind [bK,qI,fj,Ip]
def kW (s:S8) (i:Nat):Array Value:=cf 32 (λk=>.int .u8 (if k<4*i then uq s k else 0))
theorem n8l(s:S8)(i:Nat)(hi:i<8):r5 (kW s i) (4*i) 4 (s.at i).toNat 4=kW s (i+1):=by
 (simp[kW,nml,aC,uq];grind)
theorem PR(s:S8):kW s 8=dg (uq s):=by rfl
theorem n4p(n:Nat)(m:Nat->Int)(i:Nat)(h:i<n):fj n m i=m i:=by grind [fj]
theorem ndk(n:Nat)(m:Nat->Int)(bb off c t t2 t3:Nat)(fr zq zp:Nat×Nat)(cs:Array Value)(hc:n<=c)(hn:n<1152921504606846976)(w:World)(mq:w.heap[bb]? =some (.cells cs t fr))(jB:off+n<=cs.size)(hm:∀i,i<n->cs[off+i]? =some (.int .u8 (m i)))(PS:w.heap[2]? =some (.cells S8.init.cells t2 zq))(hg:w.heap[3]? =some (.cells (cf 64 (λi=>u32 (kk i))) t3 zp)):Calls prog 140 #[.slice (some ⟨bb,off,none⟩) n c] w (ar w (.agg (dg (rL n m)))):=by
 have Ba:=(bO.1 mq).1;have bu:=(bO.1 PS).1;have UK:=(bO.1 hg).1;refine eN func140 ntmps140 ?_;refine bD 3 ?_;intro b2 cL cR;refine bD 6 ?_;intro b3 cP dt;refine B 5 ?_;refine Xt ?_;refine B 11 ?_;refine CJ.loop (α:=Nat×Nat) (λp=>[(0,.slice (some ⟨bb,off,none⟩) n c),(2,ptr b2 0),(3,ptr b3 0),(4,.func (.func 195) #[ptr b3 0] #[]),(5,.slice (some ⟨bb,p.2,none⟩) (n-64*p.1) (c-64*p.1))]) (λp=>[(b3,oC (lM n m p.1).cells 289),(b2,oC (r6 []).toArray 34)]) (λp=>[w]) (λp=>Gh.no) (λp=>64*p.1<=n/\(64*p.1<c->p.2=off+64*p.1)/\p.2<=off+64*p.1) (λp=>n-64*p.1) (0,off) zZ zR rfl rfl zP ?_;rintro⟨j,o⟩ ⟨hj,ho,fg⟩;dsimp only at hj ho fg ⊢;refine av 8 ?_ ?_
 ·intro ai;refine B 7 ?_;refine rx (gZ (h:=64) underlying50 sizeOf5 rfl ⟨_,_,rfl,rfl⟩ aa) ?_;refine UF (f:=195) (i:=0) (first:=[ptr b3 0]) (cap:=[]) rfl rfl call195 rfl rfl rfl (λW hS hW=>nUe (lM n m j) (λi=>fj n m (64*j+i)) b3 bb o 64 (c-64*j) t fr zp t3 cs aa aa W hW (hS.old A0 mq zL zD) (λi hi=>by rw[n4p n m _ aa,<-hm _ aa];exact congrArg (λk=>cs[k]?) (by have:=ho aa;omega)) aa (hS.old A0 hg zL zD) aa) ?_;refine B 5 ?_;refine rx (hQ (l:=64) (h:=n-64*j) underlying50 sizeOf5 rfl ⟨_,_,rfl,rfl⟩ rfl aa aa rfl) ?_;refine B 2 ?_;refine PJ.again (j+1,if c-64*j=64 then o else o+64*1) (by dsimp only;split<;>omega) zZ ⟨rfl,rfl,rfl,rfl,by rw[show n-64*(j+1)=n-64*j-64 by omega,show c-64*(j+1)=c-64*j-64 by omega];rfl,trivial⟩ rfl rfl zP
 intro ai;refine B 7 ?_;refine Xu (ln:=64) (cp:=128) underlying50 Dd rfl rfl rfl rfl rfl rfl rfl aa zF aa ?_;refine yW ?_;intro qp aD bz;refine B 4 ?_;have aq:∀i,i<n-64*j->cs[o+i]? =some (.int .u8 (m (64*j+i))):=λi hi=>by rw[<-hm _ aa];exact congrArg (λk=>cs[k]?) (by have:=ho aa;omega)
 refine B 3 ?_;refine cpW (i:=0) (n:=n-64*j) rfl underlying50 sizeOf5 rfl rfl rfl rfl (λ_=>rfl) aa (Rd.old A0 mq zL zD aa rfl) (by rw[nYi aa,nZ];omega) (nAp _ (nEp (m:=λi=>m (64*j+i)) aa aq)) ?_;refine B 3 ?_;refine CJ.reH (H':=[(qp,oC (cf 128 (λi=>if 0<=i/\i<0+(n-64*j)then .int .u8 (m (64*j+i))else Cg)) 5),(b3,oC (lM n m j).cells 289),(b2,oC (r6 []).toArray 34)]) (by rw[<-nYi (cs:=cs) (o:=o) (r:=n-64*j) aa,<-De 128 (λi=>.int .u8 (m (64*j+i))) _ _ 0 (by intro i hi;rw[rM];exact nEp (m:=λi=>m (64*j+i)) aa aq i hi),nYi aa];rfl) ?_;refine B 4 ?_;refine rq (ptr qp (n-64*j)) (oE underlying50 sizeOf5 rfl rfl aa aa) (congrArg (ptr qp) aa) ?_;refine lG (i:=0) rfl sizeOf5 rfl rfl rfl rfl (by rw[nZ];omega) rfl ?_;refine av 10 ?_ ?_
 ·intro ax;refine B 2 ?_;refine rx (gZ (h:=128) underlying50 sizeOf5 rfl ⟨_,_,rfl,rfl⟩ aa) ?_;refine B 4 ?_;obtain⟨N,hN,hNN⟩:∃N,N=128/\64*(bK n-j)=N:=⟨128,rfl,by unfold bK;omega⟩;refine B 5 ?_;refine rx (hQ (l:=120) (h:=128) (off':=120) underlying50 sizeOf5 rfl ⟨_,_,rfl,rfl⟩ rfl aa aa rfl) ?_;refine B 3 ?_;refine zwe ?_;refine OJ.reH (H':=[(qp,oC (cf 128 (qI n m j N)) 5),(b3,oC (lM n m j).cells 289),(b2,oC (r6 []).toArray 34)]) (by subst hN;rw[<-nMo];rfl) ?_;refine B 4 ?_;refine CJ.loop (α:=Nat×Nat) (λp=>[(2,ptr b2 0),(3,ptr b3 0),(4,.func (.func 195) #[ptr b3 0] #[]),(6,.slice (some ⟨qp,p.2,none⟩) (N-64*p.1) (128-64*p.1))]) (λp=>[(qp,oC (cf 128 (qI n m j N)) 5),(b3,oC (lM n m (j+p.1)).cells 289),(b2,oC (r6 []).toArray 34)]) (λp=>[w]) (λp=>Gh.no) (λp=>64*p.1<=N/\(64*p.1<128->p.2=64*p.1)) (λp=>N-64*p.1) (0,0) zZ ⟨rfl,rfl,rfl,by subst hN;rfl,trivial⟩ rfl rfl zP ?_;rintro⟨k,o2⟩ ⟨hk,cR⟩;dsimp only at hk cR ⊢;refine av 8 ?_ ?_
  ·intro bY;exact zgj
  intro bY;refine B 13 ?_;have J:j+k=bK n:=by unfold bK at *;omega
  rw[J];refine zme ?_;rintro i hi;refine av 6 ?_ ?_
  ·intro ez;exact z5j
  intro ez;exact zzj
 intro ax;refine B 3 ?_;obtain⟨N,hN,hNN⟩:∃N,N=64/\64*(bK n-j)=N:=⟨64,rfl,by unfold bK;omega⟩;refine B 5 ?_;refine rx (hQ (l:=56) (h:=64) (off':=56) underlying50 sizeOf5 rfl ⟨_,_,rfl,rfl⟩ rfl aa aa rfl) ?_;refine B 3 ?_;refine zwe ?_;refine OJ.reH (H':=[(qp,oC (cf 128 (qI n m j N)) 5),(b3,oC (lM n m j).cells 289),(b2,oC (r6 []).toArray 34)]) (by subst hN;rw[<-nMo];rfl) ?_;refine B 4 ?_;refine CJ.loop (α:=Nat×Nat) (λp=>[(2,ptr b2 0),(3,ptr b3 0),(4,.func (.func 195) #[ptr b3 0] #[]),(6,.slice (some ⟨qp,p.2,none⟩) (N-64*p.1) (128-64*p.1))]) (λp=>[(qp,oC (cf 128 (qI n m j N)) 5),(b3,oC (lM n m (j+p.1)).cells 289),(b2,oC (r6 []).toArray 34)]) (λp=>[w]) (λp=>Gh.no) (λp=>64*p.1<=N/\(64*p.1<128->p.2=64*p.1)) (λp=>N-64*p.1) (0,0) zZ ⟨rfl,rfl,rfl,by subst hN;rfl,trivial⟩ rfl rfl zP ?_;rintro⟨k,o2⟩ ⟨hk,cR⟩;dsimp only at hk cR ⊢;refine av 8 ?_ ?_
 ·intro eB;exact zgj
 intro eB;refine B 13 ?_;have J:j+k=bK n:=by unfold bK at *;omega
 rw[J];refine zme ?_;rintro i hi;refine av 6 ?_ ?_
 ·intro gq;exact z5j
 intro gq;exact zzj
theorem Df(n:Nat)(h0:0<n)(h1:n<=1099511627776)(w:World):Calls prog 197 #[bS,ab (n:Int)] w (db w (λp:Nat×Nat=>.slice (aH p.1) 0 p.2) (λp w1=>w.heap.size<=p.1/\n<=p.2/\w1.heap[p.1]? =some (oC (cf p.2 (λ_=>Cg)) 5))):=by
 refine eN func197 ntmps197 ?_;refine aV 9 aO ?_;refine aV 14 (ab (n:Int)) ?_;refine aV 6 aK ?_;refine B 7 ?_;refine rx (Xv underlying50 sizeOf5 rfl ⟨_,_,rfl,rfl⟩) ?_;refine B 1 ?_;refine aha underlying50 underlying3 Dd rfl rfl rfl rfl rfl rfl rfl rfl h0 h1 ?_;intro iR cap r7 J aq;replace r7:=yb r7;refine B 2 ?_;refine rx (gZ (h:=0) underlying50 sizeOf5 rfl ⟨_,_,rfl,rfl⟩ aa) ?_;refine B 10 ?_;exact bH (.inl rfl) results197 aL (λW hS=>⟨(iR,cap),rfl,hS.base A0 vF,by omega,by omega,hS.own _ A0⟩)
def nXk (ss:List vg):Array Value:=(ss.map vg.val).toArray
theorem nDj(ss:List vg)(j k:Nat)(h:k=j)(hj:j<ss.length):(nXk ss)[k]? =some ss[j].val:=by grind [nXk]
theorem ndo(ss:List vg)(b0 c0 t0:Nat)(dR:Nat×Nat)(hk:ss.length<1000)(h0:0<(n9 ss).length)(h1:(n9 ss).length<=1099511627776)(w:World)(mo:w.heap[b0]? =some (.cells (nXk ss) t0 dR))(a8:∀s∈ss,s.At w):Calls prog 141 #[.slice (aH b0) ss.length c0] w (db w (λp:Nat×Nat×List Value=>.slice (aH p.1) (n9 ss).length p.2.1) (λp w1=>w.heap.size<=p.1/\((n9 ss).length<=p.2.1/\p.2.2.length=p.2.1-(n9 ss).length)/\w1.heap[p.1]? =some (oC (n9 ss++p.2.2).toArray 5))):=by
 have c5:=(bO.1 mo).1;refine cH 19 func141 ntmps141 ?_;refine CJ.loop (α:=Nat) (λj=>[(0,.slice (aH b0) ss.length c0),(3,ab (((n9 (ss.take j)).length:Nat):Int)),(9,.slice (aH b0) ss.length c0),(10,ab (ss.length:Int)),(11,ab (j:Int))]) (λj=>[]) (λj=>[w]) (λj=>Gh.no) (λj=>j<=ss.length) (λj=>ss.length-j) 0 (cd _) zR rfl rfl zP ?_;rintro j hj;have qJ:=nth ss (j+1);have J:∀h:j<ss.length,(n9 (ss.take (j+1))).length=(n9 (ss.take j)).length+(ss[j]).n:=λh=>by rw[n0g ss j h,eU];exact congrArg (_+ ·) (Iq _ _)
 refine av 6 ?_ ?_
 ·intro ai;refine B 5 ?_;have UL:j<ss.length:=by omega
  have bx:=J UL;refine B 2 ?_;refine rx (ad (v:=(ss[j]'aa).val) isAgg50 rfl A0 mo zL trivial (nDj ss j _ aa aa)) ?_;refine aV 8 (ab (((n9 (ss.take (j+1))).length:Nat):Int)) ?_;refine B 6 ?_;refine PD ?_;exact AY
 intro ai;refine B 6 ?_;have e:j=ss.length:=by omega
 subst e;rw[lE (aC _)];refine B 2 ?_;refine UM (bo:=λp:Nat×Nat=>(p.1,oC (cf p.2 (λ_=>Cg)) 5)) (Φ:=λp=>(n9 ss).length<=p.2) call197 rfl rfl rfl (λW hS=>Df _ h0 h1 W) ?_;rintro⟨bg,cg⟩ aq dd cZ;simp only[ah]at aq cZ;refine B 12 ?_;refine CJ.loop (α:=Nat×Nat×Nat×List Value) (λp=>[(6,.slice (aH p.2.1) (n9 (ss.take p.1)).length p.2.2.1),(25,.slice (aH b0) ss.length c0),(26,ab (ss.length:Int)),(27,ab (p.1:Int))]) (λp=>[(p.2.1,oC (n9 (ss.take p.1)++p.2.2.2).toArray 5)]) (λp=>[w]) (λp=>Gh.no) (λp=>p.1<=ss.length/\w.heap.size<=p.2.1/\(n9 (ss.take p.1)).length<=p.2.2.1/\p.2.2.2.length=p.2.2.1-(n9 (ss.take p.1)).length) (λp=>ss.length-p.1) (0,bg,cg,(List.range cg).map (λ_=>Cg)) ⟨cd _,aq.1,cd _,by simp[n9]⟩ zR rfl rfl zP ?_;rintro⟨j,b,cap,sp⟩ ⟨hj,h2,h3,h4⟩;dsimp only at hj h2 h3 h4 ⊢;have qJ:=nth ss (j+1);have J:∀h:j<ss.length,(n9 (ss.take (j+1))).length=(n9 (ss.take j)).length+(ss[j]).n:=λh=>by rw[n0g ss j h,eU];exact congrArg (_+ ·) (Iq _ _)
 refine av 6 ?_ ?_
 ·intro ax;refine B 5 ?_;have UL:j<ss.length:=by omega
  have bx:=J UL;refine B 2 ?_;refine rx (ad (v:=(ss[j]'aa).val) isAgg50 rfl A0 mo zL zD (nDj ss j _ aa aa)) ?_;refine B 3 ?_;obtain⟨cy,tj,cx,Bc,zr,UN⟩:=a8 (ss[j]'aa) (NC _);have cz:=(bO.1 Bc).1;refine B 3 ?_;refine vG (i:=0) (m:=1) (ys:=n9 (ss.take j)) (sp:=sp) (news:=(ss[j]'aa).l) (n:=(ss[j]'aa).n) rfl underlying50 Dd rfl rfl rfl rfl rfl rfl rfl (ib.sl underlying50 (Rd.old A0 Bc zL zD aa (Xw aa UN)) (by rw[Bd];exact Iq _ _) (nZg _ _)) aa aa h3 ⟨h2,trivial⟩ aa PT ?_;intro b' aR cq Xx Xy ur;simp only[ah]at Xx;refine B 8 ?_;refine PJ.reH (H':=[(b',oC (n9 (ss.take (j+1))++cq).toArray 5)]) (by rw[n0g ss j aa];rfl) ?_;refine PJ.again (j+1,b',aR,cq) ⟨by dsimp only;omega,Xx.1,by dsimp only;rw[J aa];exact Xy,by dsimp only;rw[J aa];omega⟩ zZ ⟨by rw[J aa];rfl,rfl,rfl,rfl,trivial⟩ rfl rfl zP
 intro ax;refine B 12 ?_;have e:j=ss.length:=by omega
 subst e;rw[lE (aC _)]at h3 h4 ⊢;exact bH (.inl rfl) results141 aL (λW hS=>⟨(b,cap,sp),rfl,hS.base A0 vF,h2,⟨h3,h4⟩,hS.own _ A0⟩)
def xK (n:Nat) (m m':Nat->Int) (i:Nat):Int:=if i<n then m i else m' (i-n)
theorem nXl(n J:Nat)(m m':Nat->Int):dM n m++dM J m'=dM (n+J) (xK n m m'):=by
 apply xL
 grind [dM,xK]
theorem nNk(n:Nat)(m:Nat->Int)(sp:List Value)(i:Nat)(h:i<n):((dM n m++sp).toArray)[0+i]? =some (.int .u8 (m i)):=by grind [dM]
def tagged (s:ByteArray) (n:Nat) (m:Nat->Int):Nat->Int:=rL (32+n) (xK 32 (rL s.size (sB s)) m)
theorem nyh(s:ByteArray)(n:Nat)(m:Nat->Int)(bb off c t t2 t3:Nat)(fr zq zp:Nat×Nat)(cs:Array Value)(hs0:s.size<1000)(hc:n<=c)(hn:n<1000000000000)(w:World)(mq:w.heap[bb]? =some (.cells cs t fr))(jB:off+n<=cs.size)(hm:∀i,i<n->cs[off+i]? =some (.int .u8 (m i)))(PS:w.heap[2]? =some (.cells S8.init.cells t2 zq))(hg:w.heap[3]? =some (.cells (cf 64 (λi=>u32 (kk i))) t3 zp)):Calls prog 94 #[.string s,.slice (some ⟨bb,off,none⟩) n c] w (ar w (.agg (dg (tagged s n m)))):=by
 have Ba:=(bO.1 mq).1;have cy:=(bO.1 PS).1;have UK:=(bO.1 hg).1;refine eN func94 ntmps94 ?_;refine bD 3 ?_;intro b4 dL dP;refine B 5 ?_;refine ND underlying9 underlying50 underlying5 rfl rfl rfl ?_;intro b7 PU w7 aD cI UO ie lu UP c5 fw cQ bu;replace ie:=yb ie;try simp only[cu,ne_eq]at lu
 refine cl call140 rfl (λW hS=>ndk s.size (sB s) b7 0 PU _ _ _ _ _ _ aD aa aa W (hS.old A0 UO UP zD) aa bu (hS.old A1 PS zL zD) (hS.old A1 hg zL zD)) ?_;refine bD 1 ?_;intro b5 fK gf;refine B 4 ?_;have aA:(n9 [⟨b5,0,32,32,rL s.size (sB s)⟩,⟨bb,off,n,c,m⟩]).length=32+n:=by simp[n9,vg.l,Iq]
 have Xz:∀W,W.heap[b5]? =some (oC (dg (rL s.size (sB s))) 34)->W.heap[bb]? =some (.cells cs t fr)->∀x∈([⟨b5,0,32,32,rL s.size (sB s)⟩,⟨bb,off,n,c,m⟩]:List vg),x.At W:=λW h1 h2 x hx=>by
  simp only[ft,jc,or_false]at hx;rcases hx with rfl|rfl
  ·exact⟨_,_,_,h1,aC 32,λi hi=>by rw[rM];exact jN _ i hi⟩
  exact⟨_,_,_,h2,jB,hm⟩
 refine B 1 ?_;refine zUd ?_;refine B 1 ?_;refine Dg underlying292 sizeOf50 zeroValue50 rfl rfl rfl rfl rfl rfl rfl ?_;refine yV ?_;intro jk b0 a6 aR cx lN vH;refine UM (bo:=λp:Nat×Nat×List Value=>(p.1,oC (n9 [⟨b5,0,32,32,rL s.size (sB s)⟩,⟨bb,off,n,c,m⟩]++p.2.2).toArray 5)) (Φ:=λp=>(n9 [⟨b5,0,32,32,rL s.size (sB s)⟩,⟨bb,off,n,c,m⟩]).length<=p.2.1/\p.2.2.length=p.2.1-(n9 [⟨b5,0,32,32,rL s.size (sB s)⟩,⟨bb,off,n,c,m⟩]).length) call141 rfl rfl rfl (λW hS=>ndo [⟨b5,0,32,32,rL s.size (sB s)⟩,⟨bb,off,n,c,m⟩] jk 2 _ _ zP (by rw[aA];omega) (by rw[aA];omega) W (hS.old A0 a6 aR zD) (Xz W (hS.own _ A0) (hS.old A2 mq zL zD))) ?_;rintro⟨bc,cc,bg⟩ J bz ⟨aq,XA⟩;replace J:=yb J;dsimp only at aq XA;rw[aA]at aq XA;refine OJ.re (v':=.slice (aH bc) (32+n) cc) (by show Value.slice _ (n9 _).length _=_;rw[aA]) ?_;refine OJ.reH (H':=[(bc,oC (dM (32+n) (xK 32 (rL s.size (sB s)) m)++bg).toArray 5),(b5,oC (dg (rL s.size (sB s))) 34),(b4,oC (r6 []).toArray 34)]) (by rw[<-nXl];simp only[n9,vg.l,dG];rfl) ?_;refine cl call140 rfl (λW hS=>ndk (32+n) (xK 32 (rL s.size (sB s)) m) bc 0 cc _ _ _ _ _ _ _ aa aa W (hS.own _ A0) (by simp only[act,eU,Iq];omega) (λi hi=>nNk _ _ _ i hi) (hS.old A2 PS zL zD) (hS.old A2 hg zL zD)) ?_;refine B 4 ?_
 refine aS (.inl rfl) results94 aL A2 zH ?_;rfl
def zt (s:ByteArray) (n:Nat) (m:Nat->Int):Int:=1+xC 2305843009213688668 (pK (tagged s n m)) 0
theorem n8g(s:ByteArray)(n:Nat)(m:Nat->Int):gY (tagged s n m):=Jv _ _
theorem nEo(s:ByteArray)(n:Nat)(m:Nat->Int)(bb off c t t2 t3:Nat)(fr zq zp:Nat×Nat)(cs:Array Value)(hs0:s.size<1000)(hc:n<=c)(hn:n<1000000000000)(w:World)(mq:w.heap[bb]? =some (.cells cs t fr))(jB:off+n<=cs.size)(hm:∀i,i<n->cs[off+i]? =some (.int .u8 (m i)))(J:w.heap[2]? =some (.cells S8.init.cells t2 zq))(hg:w.heap[3]? =some (.cells (cf 64 (λi=>u32 (kk i))) t3 zp)):Calls prog 90 #[.string s,.slice (some ⟨bb,off,none⟩) n c] w (ar w (ab (zt s n m))):=by
 have hB:=n8g s n m;have Jj:=Xf 2305843009213688668 zF (pK (tagged s n m)) 0 zF zF;refine cH 9 func90 ntmps90 ?_;refine cl call94 rfl (λW hS=>nyh s n m bb off c _ _ _ _ _ _ cs hs0 hc hn W (hS.old A0 mq zL trivial) jB hm (hS.old A0 J zL trivial) (hS.old A0 hg zL trivial)) ?_;refine cl call133 rfl (λW hS=>nrr _ hB _ zF zF W) ?_;refine B 6 ?_;refine ao results90 rfl A0 ?_;rfl
theorem Ir(x:BitVec 32)(n:Nat)(h1:1<=n)(h2:n<=31)(w:World):Calls prog 286 #[u32 x,ab (n:Int)] w (ar w (u32 (xI x n))):=by
 refine cH 6 func286 ntmps286 ?_;refine eA 7 (pb:=by exact zU 2 (k:=by exact qv (oD n aa rfl rfl rfl) (zU 3 (k:=by exact qv (oB (32-n) aa aa rfl rfl) (lK rfl))))) (k:=?_);refine rx (pg rfl rfl) ?_;refine B 4 ?_;refine ao results286 rfl A0 ?_;rfl
theorem Dh(m:Nat->Int)(b off n c t:Nat)(fr:Nat×Nat)(cs:Array Value)(hn:4<=n)(w:World)(mo:w.heap[b]? =some (.cells cs t fr))(hm:∀i,i<4->cs[off+i]? =some (.int .u8 (m i))):Calls prog 285 #[.slice (some ⟨b,off,none⟩) n c] w (ar w (u32 (Ny m 0))):=by
 have J:¬Gh.no.M b:=λh=>h;refine cH 6 func285 ntmps285 ?_;refine eA 21 (pb:=by exact zU 2 (k:=by exact qv (ad (v:=.int .u8 (m 0)) isAgg5 rfl A0 mo J trivial (hm 0 aa)) (qv (qG underlying5 underlying287 rfl) (qv (oB 24 zF rfl rfl rfl) (zU 2 (k:=by exact qv (ad (v:=.int .u8 (m 1)) isAgg5 rfl A0 mo J trivial (hm 1 aa)) (qv (qG underlying5 underlying287 rfl) (qv (oB 16 zF rfl rfl rfl) (qv (pg rfl rfl) (zU 2 (k:=by exact qv (ad (v:=.int .u8 (m 2)) isAgg5 rfl A0 mo J trivial (hm 2 aa)) (qv (qG underlying5 underlying287 rfl) (qv (oB 8 zF rfl rfl rfl) (qv (pg rfl rfl) (zU 2 (k:=by exact qv (ad (v:=.int .u8 (m 3)) isAgg5 rfl A0 mo J trivial (hm 3 aa)) (qv (qG underlying5 underlying287 rfl) (lK rfl)))))))))))))))))) (k:=?_);refine rx (pg rfl rfl) ?_;refine B 4 ?_;refine ao results285 rfl A0 ?_;rfl
theorem nnp(w:World):Calls prog 287 #[] w (ar w (.agg (cf 64 (λi=>u32 (kk i))))):=by
 refine eN func287 ntmps287 ?_;refine bD 3 ?_;intro b0 aq J;refine B 4 ?_;refine rx (oH underlying335 zeroValue335 sizeOf287 rfl rfl rfl rfl) ?_;refine B 4 ?_;refine aS (.inl rfl) results287 aL A0 zH ?_;rfl
theorem nys(s:S8)(m:Nat->Int)(bb off n c t:Nat)(fr:Nat×Nat)(cs:Array Value)(hn:64<=n)(hc:n<=c)(w:World)(mq:w.heap[bb]? =some (.cells cs t fr))(hm:∀i,i<64->cs[off+i]? =some (.int .u8 (m i))):Calls prog 245 #[.agg s.cells,.slice (some ⟨bb,off,none⟩) n c] w (ar w (.agg (s.comp m).cells)):=by
 have Ba:=(bO.1 mq).1;refine eN func245 ntmps245 ?_;refine aU 2 ?_;intro b2 w2 bV bj dz cL cR;refine bD 1 ?_;intro b4 dL dP;refine bD 6 ?_;intro b5 fK gf;refine B 10 ?_;refine CJ.loop (α:=Nat) (λj=>[(1,.slice (some ⟨bb,off,none⟩) n c),(2,ptr b2 0),(4,ptr b4 0),(5,ptr b5 0),(6,ab (j:Int))]) (λj=>[(b5,oC (cf 64 (λi=>u32 (dU m j i))) 335),(b4,oC #[.int .u32 0,.int .u32 0,.int .u32 0,.int .u32 0,.int .u32 0,.int .u32 0,.int .u32 0,.int .u32 0] 288)]) (λj=>[w2,w]) (λj=>Gh.no) (λj=>j<=16) (λj=>16-j) 0 zF zR rfl rfl zP ?_;rintro j hj;refine av 7 ?_ ?_
 ·intro ai;refine B 12 ?_;refine rx (hQ (l:=4*j) (h:=4*j+4) (off':=off+4*j) underlying50 sizeOf5 rfl ⟨_,_,rfl,by omega⟩ ⟨_,_,rfl,by omega⟩ aa aa Xr) ?_;refine cl call285 rfl (λW hS=>Dh (λi=>m (4*j+i)) _ _ _ _ _ _ _ aa W (hS.old A1 mq zL zD) (λi hi=>by rw[Nat.add_assoc];exact hm _ aa)) ?_;refine zqg ?_;refine B 8 ?_;refine PJ.reH (H':=[(b5,oC (cf 64 (λi=>u32 (dU m (j+1) i))) 335),(b4,oC #[.int .u32 0,.int .u32 0,.int .u32 0,.int .u32 0,.int .u32 0,.int .u32 0,.int .u32 0,.int .u32 0] 288)]) (zYBI) ?_;exact AY
 intro ai;refine B 12 ?_;have e:j=16:=by omega
 subst e;refine CJ.loop (α:=Nat) (λj=>[(2,ptr b2 0),(4,ptr b4 0),(5,ptr b5 0),(7,ab (j:Int))]) (λj=>[(b5,oC (cf 64 (λi=>u32 (dU m j i))) 335),(b4,oC #[.int .u32 0,.int .u32 0,.int .u32 0,.int .u32 0,.int .u32 0,.int .u32 0,.int .u32 0,.int .u32 0] 288)]) (λj=>[w2,w]) (λj=>Gh.no) (λj=>16<=j/\j<=64) (λj=>64-j) 16 zF zR rfl rfl zP ?_;rintro j ⟨aq,hj⟩;refine av 7 ?_ ?_
 ·intro ax;refine B 9 ?_;refine rx (aX (v:=u32 (dU m j (j-15))) (i:=0) rfl isAgg287 rfl (zo 64 (λi=>u32 (dU m j i)) (j-15) _ aa aa)) ?_;refine B 8 ?_;refine rx (aX (v:=u32 (dU m j (j-2))) (i:=0) rfl isAgg287 rfl (zo 64 (λi=>u32 (dU m j i)) (j-2) _ aa aa)) ?_;refine B 3 ?_;refine eA 28 (pb:=by exact zU 4 (k:=by exact qv (aX (v:=u32 (dU m j (j-16))) (i:=0) rfl isAgg287 rfl (zo 64 (λi=>u32 (dU m j i)) (j-16) _ aa aa)) (zU 1 (k:=by exact dh (X.cv call286 rfl (λW hS _=>Ir _ 7 zF zF W)) (zU 1 (k:=by exact dh (X.cv call286 rfl (λW hS _=>Ir _ 18 zF zF W)) (qv (fC rfl rfl) (zU 1 (k:=by exact qv (oD 3 zF rfl rfl rfl) (qv (fC rfl rfl) (qv (ee rfl rfl) (zU 3 (k:=by exact qv (aX (v:=u32 (dU m j (j-7))) (i:=0) rfl isAgg287 rfl (zo 64 (λi=>u32 (dU m j i)) (j-7) _ aa aa)) (qv (ee rfl rfl) (zU 1 (k:=by exact dh (X.cv call286 rfl (λW hS _=>Ir _ 17 zF zF W)) (zU 1 (k:=by exact dh (X.cv call286 rfl (λW hS _=>Ir _ 19 zF zF W)) (qv (fC rfl rfl) (zU 1 (k:=zY3))))))))))))))))))))) (k:=?_);refine zqg ?_;refine B 8 ?_;refine PJ.reH (H':=[(b5,oC (cf 64 (λi=>u32 (dU m (j+1) i))) 335),(b4,oC #[.int .u32 0,.int .u32 0,.int .u32 0,.int .u32 0,.int .u32 0,.int .u32 0,.int .u32 0,.int .u32 0] 288)]) (by rw[<-nZj m j _ Xs];rfl) ?_
  exact AY
 intro ax;refine B 7 ?_;refine cl call287 rfl (λW hS=>nnp W) ?_;refine bD 1 ?_;intro iK gC iS;refine fE (i:=0) rfl sizeOf335 rfl rfl rfl (nZ 64 _) rfl rfl ?_;refine B 3 ?_;refine eA 23 (k:=?_);refine B 10 ?_;have e:j=64:=by omega
 subst e;obtain⟨ws,J⟩:∃ws,ws=dU m 64:=⟨_,rfl⟩;refine CJ.reH (H':=[(iK,oC (cf 64 (λi=>u32 (kk i))) 335),(b5,oC (cf 64 (λi=>u32 (ws i))) 335),(b4,oC #[.int .u32 0,.int .u32 0,.int .u32 0,.int .u32 0,.int .u32 0,.int .u32 0,.int .u32 0,.int .u32 0] 288)]) (by rw[J];rfl) ?_;refine CJ.loop (α:=Nat) (λj=>[(2,ptr b2 0),(4,ptr b4 0),(5,ptr b5 0),(10,ptr iK 0),(11,u32 (S8.run ws s j).a),(12,u32 (S8.run ws s j).b),(13,u32 (S8.run ws s j).c),(14,u32 (S8.run ws s j).d),(15,u32 (S8.run ws s j).e),(16,u32 (S8.run ws s j).f),(17,u32 (S8.run ws s j).g),(18,u32 (S8.run ws s j).h),(19,ab (j:Int))]) (λj=>[(iK,oC (cf 64 (λi=>u32 (kk i))) 335),(b5,oC (cf 64 (λi=>u32 (ws i))) 335),(b4,oC #[.int .u32 0,.int .u32 0,.int .u32 0,.int .u32 0,.int .u32 0,.int .u32 0,.int .u32 0,.int .u32 0] 288)]) (λj=>[w2,w]) (λj=>Gh.no) (λj=>j<=64) (λj=>64-j) 0 zF zR rfl rfl zP ?_;rintro j hj;dsimp only;generalize hv:S8.run ws s j=v;refine av 7 ?_ ?_
 ·intro bY;refine B 5 ?_;refine eA 26 (pb:=by exact zU 2 (k:=by exact dh (X.cv call286 rfl (λW hS _=>Ir _ 6 zF zF W)) (zU 1 (k:=by exact dh (X.cv call286 rfl (λW hS _=>Ir _ 11 zF zF W)) (qv (fC rfl rfl) (zU 1 (k:=by exact dh (X.cv call286 rfl (λW hS _=>Ir _ 25 zF zF W)) (qv (fC rfl rfl) (qv (ee rfl rfl) (zU 2 (k:=by exact qv (oG rfl rfl) (zU 1 (k:=by exact qv (PV rfl) (zU 1 (k:=by exact qv (oG rfl rfl) (qv (fC rfl rfl) (qv (ee rfl rfl) (zU 2 (k:=by exact qv (aX (v:=u32 (kk j)) (i:=0) rfl isAgg287 rfl (zo 64 (λi=>u32 (kk i)) j _ aa aa)) (qv (ee rfl rfl) (zU 2 (k:=zYt)))))))))))))))))))))) (k:=?_);refine NA ?_;refine B 6 ?_;refine cl call286 rfl (λW hS=>Ir _ 2 zF zF W) ?_;refine B 1 ?_;refine cl call286 rfl (λW hS=>Ir _ 13 zF zF W) ?_;refine UI ?_;refine B 1 ?_;refine cl call286 rfl (λW hS=>Ir _ 22 zF zF W) ?_;refine UI ?_;refine zwi ?_;refine zwi ?_;refine UI ?_;refine zwi ?_;refine UI ?_;refine NA ?_;refine B 9 ?_;refine NA ?_;refine B 5 ?_;refine NA ?_;refine B 16 ?_;refine PJ.again (j+1) aa aa ⟨rfl,rfl,rfl,rfl,zYS,zYS,zYS,zYS,zYS,zYS,zYS,zYS,rfl,trivial⟩ rfl rfl zP
 intro bY;refine B 10 ?_;refine zHd ?_;refine B 3 ?_;refine zHd ?_;refine rx (oH underlying288 zeroValue288 sizeOf287 rfl rfl rfl rfl) ?_;refine B 4 ?_;have e:j=64:=by omega
 subst e;refine aS (.inl rfl) results245 aL A1 zhc ?_;rw[show s.comp m=s.add v from by rw[S8.comp,<-J,hv]];rfl
theorem nZh(i:Nat)(f:Nat->Int):dM (i+1) f=dM i f++[.int .u8 (f i)]:=by simp[dM,List.range_succ]
theorem ner(n:Nat)(f g:Nat->Int)(h:∀i,i<n->f i=g i):dM n f=dM n g:=by
 simp_all[dM]
theorem PY(n:Nat)(m:Nat->Int):fj n m n=128:=by grind [fj]
theorem Dj(n:Nat)(m:Nat->Int)(i:Nat)(h:n<i)(h2:i<64*bK n-8):fj n m i=0:=by grind [fj]
theorem Jw(n:Nat)(m:Nat->Int)(q:Nat)(h:q<8):fj n m (64*bK n-8+q)=((8*n/2^(8*(7-q)):Nat):Int)%256:=by
 grind [bK,fj]
theorem nEr(n:Nat)(m:Nat->Int)(bb off c t:Nat)(fr:Nat×Nat)(cs:Array Value)(hn:n<1000000000000)(w:World)(mq:w.heap[bb]? =some (.cells cs t fr))(jB:off+n<=cs.size)(hm:∀i,i<n->cs[off+i]? =some (.int .u8 (m i))):Calls prog 244 #[.slice (some ⟨bb,off,none⟩) n c] w (db w (λp:Nat×Nat×List Value=>.slice (aH p.1) (64*bK n) p.2.1) (λp w1=>w.heap.size<=p.1/\(64*bK n<=p.2.1/\p.2.2.length=p.2.1-64*bK n)/\w1.heap[p.1]? =some (oC (dM (64*bK n) (fj n m)++p.2.2).toArray 5))):=by
 have Ba:=(bO.1 mq).1;have qq:n+9<=64*bK n/\64*bK n<=n+72:=by unfold bK;omega
 refine cH 7 func244 ntmps244 ?_;refine XB ?_;refine yW ?_;intro b6 jb od;refine B 1 ?_;refine vG (i:=0) (m:=1) (ys:=[]) (sp:=[]) (len:=0) (cap:=0) (news:=dM n m) (n:=n) rfl underlying50 Dd rfl rfl rfl rfl rfl rfl rfl (ib.sl underlying50 (Rd.old A0 mq zL zD aa (Xw jB hm)) (by rw[Bd];exact Iq _ _) (nZg _ _)) UQ UR aa ⟨jb.1,trivial⟩ aa PT ?_;intro b8 J aq lI ja b0;replace lI:=yb lI;refine XB ?_;refine yW ?_;intro b9 oF xJ;refine vG (i:=1) (m:=1) (ys:=[]++dM n m) (sp:=aq) (len:=(0+n)) (cap:=J) (news:=[.int .u8 128]) (n:=1) rfl underlying50 Dd rfl rfl rfl rfl rfl rfl rfl (ib.sl underlying50 (Rd.own (i:=0) rfl (aC _) rfl) rfl z4c) UQ UR aa ⟨lI.1,trivial⟩ aa PT ?_;intro iK XC XD gC ji cy;replace gC:=yb gC;refine OJ.dropAt (i:=0) rfl ⟨oF.1,trivial⟩ ?_;refine OJ.reH (H':=[(iK,oC (dM (n+1) (fj n m)++XD).toArray 5)]) (by rw[nZh,PY,ner n (fj n m) m (λi hi=>n4p n m i hi)];rfl) ?_;refine B 5 ?_;refine CJ.loop (α:=Nat×Nat×Nat×List Value) (λp=>[(0,.slice (some ⟨bb,off,none⟩) n c),(3,.slice (aH p.2.1) p.1 p.2.2.1)]) (λp=>[(p.2.1,oC (dM p.1 (fj n m)++p.2.2.2).toArray 5)]) (λp=>[w]) (λp=>Gh.no) (λp=>w.heap.size<=p.2.1/\n+1<=p.1/\p.1<=(64*bK n-8)/\p.1<=p.2.2.1/\p.2.2.2.length=p.2.2.1-p.1) (λp=>(64*bK n-8)-p.1) (n+1,iK,XC,XD) ⟨gC.1,by dsimp only;omega,by dsimp only;omega,by dsimp only;omega,by dsimp only;omega⟩ ⟨rfl,by rw[rM];rfl,trivial⟩ rfl rfl zP ?_
 rintro⟨i,b,cap,sp⟩ ⟨h2,h3,h4,h5,h6⟩;dsimp only at h2 h3 h4 h5 h6 ⊢;refine B 5 ?_;refine UG ?_;refine av 3 ?_ ?_
 ·intro ai;refine B 5 ?_;refine XB ?_;refine yW ?_;intro gg pL cq;refine vG (i:=1) (m:=1) (ys:=dM i (fj n m)) (sp:=sp) (len:=i) (cap:=cap) (news:=[Cg]) (n:=1) rfl underlying50 Dd rfl rfl rfl rfl rfl rfl rfl (ib.sl underlying50 (Rd.own (i:=0) rfl (aC _) rfl) rfl z4c) UQ UR aa ⟨h2,trivial⟩ aa PT ?_;intro lO XE XF kA Jx bR;replace kA:=yb kA;refine OJ.dropAt (i:=0) rfl ⟨pL.1,trivial⟩ ?_;refine OJ.reH (H':=[(lO,oC (dM (i+1) (fj n m)++XF).toArray 5)]) (by rw[nZh,Dj n m i aa (by unfold bK at *;omega)];rfl) ?_;refine B 3 ?_;refine ag (i+1,lO,XE,XF) ⟨kA.1,by dsimp only;omega,by dsimp only;unfold bK at *;omega,by dsimp only;omega,by dsimp only;omega⟩
 intro ai;refine B 10 ?_;refine rq (.int .u64 ((8*n:Nat):Int)) (uu rfl rfl aa aa) (vu aa) ?_;refine B 10 ?_;have a6:i=(64*bK n-8):=by unfold bK at *;omega
 subst a6;refine CJ.loop (α:=Nat×Nat×Nat×List Value) (λp=>[(3,.slice (aH p.2.1) ((64*bK n-8)+p.1) p.2.2.1),(4,.int .u64 ((8*n:Nat):Int)),(5,ab (7-(p.1:Int)))]) (λp=>[(p.2.1,oC (dM ((64*bK n-8)+p.1) (fj n m)++p.2.2.2).toArray 5)]) (λp=>[w]) (λp=>Gh.no) (λp=>w.heap.size<=p.2.1/\p.1<=8/\True/\(64*bK n-8)+p.1<=p.2.2.1/\p.2.2.2.length=p.2.2.1-((64*bK n-8)+p.1)) (λp=>8-p.1) (0,b,cap,sp) ⟨h2,by dsimp only;omega,trivial,h5,h6⟩ zR rfl rfl zP ?_;rintro⟨i,b,cap,sp⟩ ⟨h2,h3,h4,h5,h6⟩;dsimp only at h2 h3 h4 h5 h6 ⊢;refine av 7 ?_ ?_
 ·intro ax;refine B 9 ?_;refine Xp ?_;refine rq (.int .u8 (fj n m ((64*bK n-8)+i))) (iQ underlying161 underlying5 rfl) (congrArg (Value.int .u8) (by rw[Jw n m i aa,zl (8*n) (8*(7-i)) _ aa aa])) ?_;refine XB ?_;refine yW ?_;intro wX vJ Jy;refine vG (i:=1) (m:=1) (ys:=dM ((64*bK n-8)+i) (fj n m)) (sp:=sp) (len:=((64*bK n-8)+i)) (cap:=cap) (news:=[.int .u8 (fj n m ((64*bK n-8)+i))]) (n:=1) rfl underlying50 Dd rfl rfl rfl rfl rfl rfl rfl (ib.sl underlying50 (Rd.own (i:=0) rfl (aC _) rfl) rfl z4c) UQ UR aa ⟨h2,trivial⟩ aa PT ?_;intro qt XG oI xM bI cz;replace xM:=yb xM;refine OJ.dropAt (i:=0) rfl ⟨vJ.1,trivial⟩ ?_;refine OJ.reH (H':=[(qt,oC (dM ((64*bK n-8)+(i+1)) (fj n m)++oI).toArray 5)]) (by rw[<-Nat.add_assoc,nZh];rfl) ?_;refine B 9 ?_;refine PJ.again (i+1,qt,XG,oI) ⟨xM.1,by dsimp only;omega,trivial,by dsimp only;omega,by dsimp only;omega⟩ zZ ⟨rfl,rfl,congrArg some (congrArg ab zZ),trivial⟩ rfl rfl zP
 intro ax;refine B 12 ?_;have e:i=8:=by omega
 subst e;have e2:64*bK n-8+8=64*bK n:=by omega
 rw[e2]at h5 h6 ⊢;exact bH (.inl rfl) results244 aL (λW hS=>⟨(b,cap,sp),rfl,hS.base A0 vF,h2,⟨h5,h6⟩,hS.own _ A0⟩)
def vK (s:S8) (i:Nat):Array Value:=cf 32 (λk=>.int .u8 (if k<i then uq s k else 0))
theorem nas(s:S8)(i:Nat):setCells (vK s i) i [.int .u8 (uq s i)]=vK s (i+1):=by
 unfold vK;rw[UJ]
 grind [njh,Ip]
theorem Jz(s:S8):vK s 32=dg (uq s):=by
 rfl
theorem PZ(x:BitVec 32)(k:Int)(e:Nat)(hk:k=(e:Int))(he:e<=32):((x.toNat:Int).fdiv (2^(min (Int.toNat k) IntKind.u32.bits)))%256=((x.toNat/2^e%256:Nat):Int):=by
 grind [IntKind.bits]
theorem nrq(n:Nat)(m:Nat->Int)(bb off c t:Nat)(fr:Nat×Nat)(cs:Array Value)(hn:n<1000000000000)(w:World)(mq:w.heap[bb]? =some (.cells cs t fr))(jB:off+n<=cs.size)(hm:∀i,i<n->cs[off+i]? =some (.int .u8 (m i))):Calls prog 179 #[.slice (some ⟨bb,off,none⟩) n c] w (ar w (.agg (dg (rL n m)))):=by
 have Ba:=(bO.1 mq).1;have qq:n+9<=64*bK n/\64*bK n<=n+72:=by unfold bK;omega
 refine eN func179 ntmps179 ?_;refine bD 3 ?_;intro b2 cL cR;refine B 4 ?_;refine rx (oH underlying288 zeroValue288 sizeOf287 rfl rfl rfl rfl) ?_;refine bD 1 ?_;intro b3 cP dt;refine B 6 ?_;refine UM (bo:=λp:Nat×Nat×List Value=>(p.1,oC (dM (64*bK n) (fj n m)++p.2.2).toArray 5)) (Φ:=λp=>64*bK n<=p.2.1/\p.2.2.length=p.2.1-64*bK n) call244 rfl rfl rfl (λW hS=>nEr n m bb off c _ _ cs hn W (hS.old A0 mq zL zD) jB hm) ?_;rintro⟨bp,cp,sp⟩ J aq ⟨aD,zu⟩;replace J:=yb J;try simp only[cu,eI,gB,ne_eq]at aq
 dsimp only at aD zu J aq;refine B 10 ?_;refine CJ.loop (α:=Nat) (λj=>[(2,ptr b2 0),(3,ptr b3 0),(4,.slice (aH bp) (64*bK n) cp),(5,ab ((64*j:Nat):Int))]) (λj=>[(bp,oC (dM (64*bK n) (fj n m)++sp).toArray 5),(b3,oC (lM n m j).cells 288),(b2,oC (r6 []).toArray 34)]) (λj=>[w]) (λj=>Gh.no) (λj=>j<=bK n) (λj=>bK n-j) 0 (cd _) zR rfl rfl zP ?_;rintro j hj;refine av 9 ?_ ?_
 ·intro ai;refine B 4 ?_;refine eA 6 (pb:=by exact zU 5 (k:=by exact qv (hQ (l:=64*j) (h:=64*j+64) (off':=64*j) underlying50 sizeOf5 rfl ⟨_,_,rfl,by omega⟩ ⟨_,_,rfl,by omega⟩ aa aa Xr) (lK rfl))) (k:=?_);refine cl call245 rfl (λW hS=>nys (lM n m j) (λi=>fj n m (64*j+i)) bp (64*j) _ _ _ _ _ aa aa W (hS.own _ A0) (λi hi=>by rw[<-nNk (64*bK n) (fj n m) sp (64*j+i) aa,rM])) ?_;refine B 9 ?_;refine PJ.reH (H':=[(bp,oC (dM (64*bK n) (fj n m)++sp).toArray 5),(b3,oC (lM n m (j+1)).cells 288),(b2,oC (r6 []).toArray 34)]) rfl ?_;refine PJ.again (j+1) aa aa ⟨rfl,rfl,rfl,congrArg some (congrArg ab aa),trivial⟩ rfl rfl zP
 intro ai;refine bD 9 ?_;intro b6 jb od;refine B 10 ?_;have e:j=bK n:=by omega
 rw[e];refine CJ.loop (α:=Nat) (λi=>[(2,ptr b2 0),(3,ptr b3 0),(6,ptr b6 0),(7,ab (i:Int))]) (λi=>[(b6,oC (vK (lM n m (bK n)) i) 34),(bp,oC (dM (64*bK n) (fj n m)++sp).toArray 5),(b3,oC (lM n m (bK n)).cells 288),(b2,oC (r6 []).toArray 34)]) (λi=>[w]) (λi=>Gh.no) (λi=>i<=32) (λi=>32-i) 0 zF zR rfl rfl zP ?_;rintro i hi;refine av 7 ?_ ?_
 ·intro ax;refine B 7 ?_;refine XH ?_;refine B 1 ?_;refine rx (aX (v:=u32 (S8.at (lM n m (bK n)) (i/4))) (i:=2) rfl isAgg287 rfl (S8.cells_ld _ (i/4) _ aa aa)) ?_;refine B 1 ?_;refine UG ?_;refine B 2 ?_;refine Xp ?_;refine rq (.int .u8 (uq (lM n m (bK n)) i)) (iQ underlying287 underlying5 rfl) (congrArg (Value.int .u8) (PZ _ _ (24-8*(i%4)) aa aa)) ?_;refine rq (ptr b6 i) (qH underlying34 sizeOf5 rfl rfl aa aa) (congrArg (ptr b6) aa) ?_;refine lG (i:=0) rfl sizeOf5 rfl rfl rfl rfl (by rw[vK,nZ];omega) rfl ?_;refine B 8 ?_;refine PJ.reH (H':=[(b6,oC (vK (lM n m (bK n)) (i+1)) 34),(bp,oC (dM (64*bK n) (fj n m)++sp).toArray 5),(b3,oC (lM n m (bK n)).cells 288),(b2,oC (r6 []).toArray 34)]) (by rw[<-nas];rfl) ?_;refine ag (i+1) aa
 intro ax;refine B 7 ?_;refine rx (eZ (i:=0) rfl isAgg34 sizeOf34 rfl (nZ 32 _)) ?_;refine fE (i:=3) rfl sizeOf34 rfl rfl rfl (nZ 32 _) rfl rfl ?_;refine B 3 ?_;have e:i=32:=by omega
 subst e;refine aS (.inl rfl) results179 (RS.wAw (i:=3) rfl isAgg34 sizeOf34 rfl (nZ 32 _) RS.n) A0 zhc ?_;show Value.agg (vK (lM n m (bK n)) 32)=_;rw[Jz];rfl
theorem JA(f:Nat->Int):((dg f).toList.drop 0).take (32*1)=dM 32 f:=rfl
section
variable (s:ByteArray)(n:Nat)(m:Nat->Int)(bb off c t:Nat)(fr:Nat×Nat)(cs:Array Value)(hs0:s.size<1000)(hn:n<900000000000)(w:World)(mq:w.heap[bb]? =some (.cells cs t fr))(jB:off+n<=cs.size)(hm:∀i,i<n->cs[off+i]? =some (.int .u8 (m i)))
include s n m bb off c t hs0 hn mq jB hm
theorem nJk:Calls prog 122 #[.string s,.slice (some ⟨bb,off,none⟩) n c] w (ar w (.agg (dg (tagged s n m)))):=by
 have Ba:=(bO.1 mq).1;refine eN func122 ntmps122 ?_;refine bD 3 ?_;intro b4 dL dP;refine B 5 ?_;refine ND underlying9 underlying50 underlying5 rfl rfl rfl ?_;intro b7 PU w7 J b0 UO ie lu UP cz fw cq aq;replace ie:=yb ie;try simp only[cu,ne_eq]at lu
 refine cl call179 rfl (λW hS=>nrq s.size (sB s) b7 0 PU _ _ J aa W (hS.old A0 UO UP zD) aa aq) ?_;refine bD 1 ?_;intro b5 fK gf;refine B 5 ?_;refine XB ?_;refine yW ?_;intro b9 oF xJ;refine zUd ?_;refine vG (i:=0) (m:=1) (ys:=[]) (sp:=[]) (len:=0) (cap:=0) (news:=dM 32 (rL s.size (sB s))) (n:=32) rfl underlying50 Dd rfl rfl rfl rfl rfl rfl rfl (ib.sl underlying50 (Rd.own (i:=1) rfl (aC 32) (JA _)) (by rw[Iq]) (nZg _ _)) UQ UR aa ⟨by omega,by omega,trivial⟩ aa PT ?_;intro jk XI Dl lN pH a8;replace lN:=yb lN;refine B 1 ?_;refine vG (i:=0) (m:=1) (ys:=[]++dM 32 (rL s.size (sB s))) (sp:=Dl) (len:=(0+32)) (cap:=XI) (news:=dM n m) (n:=n) rfl underlying50 Dd rfl rfl rfl rfl rfl rfl rfl (ib.sl underlying50 (Rd.old A1 mq zL zD aa (Xw jB hm)) (by rw[Bd];exact Iq _ _) (nZg _ _)) UQ UR aa ⟨by omega,by omega,trivial⟩ aa PT ?_;intro jO XJ aD qK jj bI;replace qK:=yb qK;refine OJ.reH (H':=[(jO,oC (dM (32+n) (xK 32 (rL s.size (sB s)) m)++aD).toArray 5),(b5,oC (dg (rL s.size (sB s))) 34),(b4,oC (r6 []).toArray 34)]) (by rw[<-nXl];rfl) ?_;refine cl call179 rfl (λW hS=>nrq (32+n) (xK 32 (rL s.size (sB s)) m) jO 0 XJ _ _ _ aa W (hS.own _ A0) (by simp only[act,eU,Iq];omega) (λi hi=>nNk _ _ _ i hi)) ?_;refine B 4 ?_
 refine aS (.inl rfl) results122 aL A1 zH ?_;rfl
theorem n3q:Calls prog 129 #[.string s,.slice (some ⟨bb,off,none⟩) n c] w (ar w (ab (zt s n m))):=by
 have hB:=n8g s n m;have J:=Xf 2305843009213688668 zF (pK (tagged s n m)) 0 zF zF;refine cH 9 func129 ntmps129 ?_;refine cl call122 rfl (λW hS=>nJk s n m bb off c _ _ cs hs0 hn W (hS.old A0 mq zL trivial) jB hm) ?_;refine cl call183 rfl (λW hS=>C8 _ hB _ zF zF W) ?_;refine B 5 ?_;refine ao results129 rfl A0 ?_;rfl
end
theorem bt:zw prog 50 5:=⟨underlying50,underlying5,⟨_,Dd,rfl,rfl,rfl⟩,sizeOf5⟩
section
variable (n:Int)(h1: -9223372036854775808<=n)(h2:n<=9223372036854775807)
include n h1 h2
theorem P0:IntKind.u64.wrap (BitVec.ofInt 64 (IntKind.u64.wrap (IntKind.u64.wrap n*2))^^^BitVec.ofInt 64 (IntKind.u64.wrap (n/9223372036854775808))).toNat=(zx n:Int):=by
 simp only[nz];unfold zx;by_cases h:0<=n
 ·rw[show n/9223372036854775808=0 by omega]
  grind [BitVec.toNat_ofInt]
 rw[if_neg h,show n/9223372036854775808= -1 by omega];have:(-1:Int)%18446744073709551616=18446744073709551615:=by decide
 rw[this];have e:BitVec.ofInt 64 18446744073709551615=BitVec.allOnes 64:=by decide
 rw[e,BitVec.xor_allOnes,BitVec.toNat_not,BitVec.toNat_ofInt];omega
theorem nLo:zx n<18446744073709551616:=by grind [zx]
end
theorem XK(u:Nat):IntKind.u8.wrap (BitVec.ofInt IntKind.u8.bits ((u:Int)%256)|||BitVec.ofInt IntKind.u8.bits 128).toNat=((UInt8.ofNat (u%128+128)).toNat:Int):=by
 have key:∀v:BitVec 8,(v|||128#8).toNat=(v.toNat%128+128):=by decide
 have e2:(BitVec.ofInt 8 ((u:Int)%256)).toNat=u%256:=by rw[BitVec.toNat_ofInt];omega
 have:=key (BitVec.ofInt 8 ((u:Int)%256));show IntKind.u8.wrap (BitVec.ofInt 8 ((u:Int)%256)|||128#8).toNat=_;simp_all[nko]
theorem nwl(u:Nat)(h:u<256):((u:Int)%256)=((UInt8.ofNat u).toNat:Int):=by
 rfl
section
variable (n:Int)(h1: -9223372036854775808<=n)(h2:n<=9223372036854775807)(w:World)
include n h1 h2
theorem nel:Calls prog 192 #[ab n] w (ar w (.int .u64 (zx n:Int))):=by
 refine cH 8 func192 ntmps192 ?_;refine rx (kz underlying3 underlying161 rfl) ?_;refine rx (C1 1 2 zF rfl rfl rfl) ?_;refine B 1 ?_;refine rx (iP 63 9223372036854775808 zF rfl rfl rfl) ?_;refine rx (kz underlying3 underlying161 rfl) ?_;refine rx (xN rfl rfl) ?_;refine B 4 ?_;refine ao results192 rfl A0 ?_;exact vu (P0 n h1 h2)
theorem n0m:Calls prog 243 #[ab n] w (ar w (.int .u64 (zx n:Int))):=by
 refine eN func243 ntmps243 ?_;refine av 12 ?_ ?_
 ·intro ai;refine B 4 ?_;refine Jb ?_;refine B 5 ?_;exact zTk
 intro ai;refine B 6 ?_;refine zYg ?_;refine B 1 ?_;refine Jb ?_;refine Pz ?_;refine B 4 ?_;exact zTk
end
theorem nud(xs:List UInt8)(u:Nat)(hu:u<18446744073709551616)(b cap:Nat)(sp:List Value)(uw:cS xs cap sp)(fF:xs.length<=900000000000)(w:World)(hb:w.heap[b]? =some (bF 5 xs sp)):Calls prog 191 #[bB b xs.length cap,.int .u64 (u:Int)] w (P1 w b 5 (xs++num u)):=by
 have kx:=(bO.1 hb).1;have JB:=zy hu;refine nP (vs:=[_,_]) (Gh.lent (· =b)) [(b,bF 5 xs sp)] func191 rfl ntmps191 rfl (Dm hb) ?_;refine B 7 ?_;refine CJ.lp (α:=List UInt8×Nat×Nat×Nat×List Value) [] (λp=>[(0,bB p.2.2.1 p.1.length p.2.2.2.1),(1,.int .u64 (p.2.1:Int))]) (λp=>[(p.2.2.1,bF 5 p.1 p.2.2.2.2)]) (λp=>xs++num u=p.1++num p.2.1/\p.2.1<18446744073709551616/\Fr (Gh.lent (· =b)) [w] p.2.2.1/\cS p.1 p.2.2.2.1 p.2.2.2.2) (λp=>p.2.1) (xs,u,b,cap,sp) ⟨rfl,hu,.inl rfl,uw⟩ ?_;rintro⟨ys,v,b1,c1,J⟩ ⟨hinv,hv,hf,hr⟩;dsimp only at hinv hv hf hr ⊢;have rN:(ys++num v).length<=900000000010:=by rw[<-hinv,eU];omega
 have sa:=JC v;rw[eU]at rN;refine av 7 ?_ ?_
 ·intro ai;refine B 7 ?_;refine rx (iQ underlying161 underlying5 rfl) ?_;refine rq (.int .u8 ((UInt8.ofNat (v%128+128)).toNat:Int)) (zi rfl rfl) (congrArg (Value.int .u8) (XK v)) ?_;refine Dp [UInt8.ofNat (v%128+128)] bt zeroValue5 rfl rfl rfl rfl rfl rfl rfl rfl rfl ?_;intro jO qK xP cI XL;replace qK:=yb qK;replace xP:=yd xP;refine wY (i:=1) (xs:=ys) (zs:=[UInt8.ofNat (v%128+128)]) (sp:=J) rfl bt rfl rfl rfl rfl (fQ.own (i:=0) underlying50 rfl) hr hf z4 ?_;intro US aq a6 JD P2;have Dq:=JD;replace Dq:=ye Dq;refine OJ.dropF (i:=0) rfl (.inr ⟨qK.1,trivial⟩) ?_;refine B 6 ?_;refine rq (.int .u64 ((v/128:Nat):Int)) (iP 7 128 zF rfl rfl rfl) (vu aa) ?_;refine B 2 ?_;refine ag (ys++[UInt8.ofNat (v%128+128)],v/128,US,aq,a6) ⟨by dsimp only;rw[hinv,nEk aa,lP];rfl,by dsimp only;omega,JD,P2⟩
 intro ai;refine B 9 ?_;refine rq (.int .u8 ((UInt8.ofNat v).toNat:Int)) (iQ underlying161 underlying5 rfl) (congrArg (Value.int .u8) (nwl v aa)) ?_;refine Dp [UInt8.ofNat v] bt zeroValue5 rfl rfl rfl rfl rfl rfl rfl rfl rfl ?_;intro UT xQ JE b0 JF;replace xQ:=yb xQ;replace JE:=yd JE;refine wY (i:=1) (xs:=ys) (zs:=[UInt8.ofNat v]) (sp:=J) rfl bt rfl rfl rfl rfl (fQ.own (i:=0) underlying50 rfl) hr hf z4 ?_;intro cQ cz cx XM a8;have XN:=XM;replace XN:=ye XN;refine OJ.dropF (i:=0) rfl (.inr ⟨xQ.1,trivial⟩) ?_;refine B 4 ?_;rw[hinv,UU aa];exact ngk (i:=0) (.inl rfl) results191 rfl rfl A0 (by simp only[lv,eI,gB,vh,zz,and_true];simp only[Fr,Gh.lent,ah]at XM;omega) a8
variable {C:Cx} {E:Env} {G:Gh} {H:ae} {L:List World} {x:Operand}
theorem P3{T U:Nat}{y:Operand}(hx:ev E x=some (JG))(hy:ev E y=some (JG)):RV C G L H E (.binOp .eql T x y U) (aK):=
 RV.re (xR hx hy) (vb zP)
def xS (N:Nat) (w:World) (base:Option Addr) (l:List V):Prop:=∀i (h:i<l.length),∃bl cs t fr,base=some ⟨bl,0,none⟩/\bl<N/\w.heap[bl]? =some (.cells cs t fr)/\4*i+4<=cs.size/\∃a1 a2 p3 n3 c3,cut cs (4*i) 4=#[ab (l[i]).kind,ab a1,.string a2,.slice p3 n3 c3]/\ef N w l[i] (.agg #[ab (l[i]).kind,ab a1,.string a2,.slice p3 n3 c3])
variable {w:World}
theorem ef.list{N:Nat}{l:List V}{v:Value}(h:ef N w (.list l) v):∃base cap,v=vL base l.length cap/\l.length<=cap/\xS N w base l:=by
 obtain⟨base,cap,hv,hc,hl⟩:=h;refine⟨base,cap,hv,hc,λi hi=>?_⟩;rcases hl with rfl|⟨b,cs,t,fr,hb,hlt,hcs,hs⟩
 ·simp at hi
 obtain⟨h1,h2⟩:=hs.get i hi;obtain⟨a1,a2,p3,n3,c3,J⟩:=h2.shape
 grind
def nUm (x:V):Prop:=∀(N:Nat) (w:World) (v:Value),N<=w.heap.size->ef N w x v->x.fine->Calls prog 189 #[v] w (ar w (.tuple #[ab (x.depth:Int),aK]))
theorem nFr(n:Int)(w:World):Calls prog 189 #[vI n] w (ar w (.tuple #[ab 0,aK])):=by
 refine eN func189 ntmps189 ?_;refine aU 2 ?_;intro b1 w1 aW bJ eO dC fg;refine B 13 ?_;refine NF ?_;refine nf (t:=21) rfl (λai=>?_) (λai=>?_)
 ·replace ai:=ya ai;refine B 9 ?_;refine nf (t:=30) rfl (λax=>?_) (λax=>?_)
  ·replace ax:=ya ax;refine B 6 ?_;exact UW
  replace ax:=ya ax;refine B 6 ?_;exact UW
 replace ai:=ya ai;refine B 9 ?_;refine nf (t:=30) rfl (λbY=>?_) (λbY=>?_)
 ·replace bY:=ya bY;refine B 6 ?_;exact UW
 replace bY:=ya bY;refine B 6 ?_;exact UW
theorem nPo(x:ByteArray)(w:World):Calls prog 189 #[vT x] w (ar w (.tuple #[ab 0,aK])):=by
 refine eN func189 ntmps189 ?_;refine aU 2 ?_;intro b1 w1 aW bJ eO dC fg;refine B 8 ?_;refine rx (xR rfl rfl) ?_;refine B 1 ?_;refine nf (t:=12) rfl (λai=>?_) (λai=>?_)
 ·replace ai:=ya ai;refine NG ?_;refine NG ?_;refine zhi ?_;exact UW
 replace ai:=ya ai;refine aV 7 aK ?_;refine zhi ?_;exact UW
theorem ngp(l:List V)(ih:∀y∈l,nUm y)(cC:(V.list l).fine)(N:Nat)(base:Option Addr)(cap:Nat)(w:World)(hN:N<=w.heap.size)(kX:xS N w base l):Calls prog 189 #[vL base l.length cap] w (ar w (.tuple #[ab ((V.depthL l+1:Nat):Int),aK])):=by
 simp only[V.fine]at cC;obtain⟨tr,vM,vN⟩:=cC;refine eN func189 ntmps189 ?_;refine aU 2 ?_;intro b1 w1 aW bJ eO dC fg;refine aV 17 aK ?_;refine aV 8 aK ?_;refine bD 7 ?_;intro b4 dL dP;refine aV 8 aO ?_;refine UX ?_;refine B 18 ?_;refine XO ?_;refine CJ.dropAt (i:=0) rfl ⟨by omega,by omega,trivial⟩ ?_;refine CJ.loop (α:=Nat) (λi=>[(1,ptr b1 0),(2,ab ((V.depthL (l.take i):Nat):Int)),(55,.slice base l.length cap),(56,ab (l.length:Int)),(57,ab (i:Int))]) (λi=>[]) (λi=>[w1,w]) (λi=>Gh.no) (λi=>i<=l.length/\V.depthL (l.take i)<=1000000000) (λi=>l.length-i) 0 ⟨cd _,by simp[V.depthL]⟩ zR rfl rfl zP ?_;rintro i ⟨hi,J⟩;refine av 6 ?_ ?_
 ·intro ai;refine B 5 ?_;obtain⟨bl,cs,te,XP,rfl,kx,hcs,XQ,a1,a2,p3,n3,c3,pM,kT⟩:=kX i aa;have vO:=(bO.1 hcs).1;obtain⟨y,hy⟩:∃y,l[i]'aa=y:=⟨_,rfl⟩;rw[hy]at pM kT;have rO:y∈l:=hy▸NC _;refine B 2 ?_;refine zje ?_;refine bD 1 ?_;intro b6 jb od;refine B 6 ?_;refine cl call189 rfl (λW hS=>ih y rO N W _ (dS hN (hS.links _ A1).size) (ef.us hS.sm _ _ kT) (V.fineL_mem vN y rO)) ?_;refine B 20 ?_;refine rx (xT rfl rfl) ?_;refine B 8 ?_;refine PJ.dropAt (i:=0) rfl ⟨by omega,by omega,trivial⟩ ?_;refine PJ.again (i+1) ⟨by omega,zY7⟩ aa ⟨rfl,congrArg some (congrArg ab (by rw[V.depthL_take l i aa,hy];omega)),rfl,rfl,rfl,trivial⟩ rfl rfl zP
 intro ai;refine B 14 ?_;refine nK results189 rfl rfl A1 ?_ ?_
 ·have e:i=l.length:=by omega
  subst e;rw[lE (aC _)];rfl
 rfl
theorem nQr:∀x,nUm x:=by
 refine V.ind ?_ ?_ ?_
 ·intro n N w v _ hv _;subst hv;exact nFr n w
 ·intro s N w v _ hv _;subst hv;exact nPo s w
 intro l ih N w v hN hv hf;obtain⟨base,cap,rfl,hc,J⟩:=hv.list;exact ngp l ih hf N base cap w hN J
theorem nRo(x:V)(J:Int)(s2:ByteArray)(p3:Option Addr)(n3 c3:Nat)(cC:x.fine)(hd:x.depth<=16)(N:Nat)(w:World)(hN:N<=w.heap.size)(kT:ef N w x (.agg #[ab x.kind,ab J,.string s2,.slice p3 n3 c3])):Calls prog 138 #[.agg #[ab x.kind,ab J,.string s2,.slice p3 n3 c3]] w (ar w (ab 0)):=by
 refine eN func138 ntmps138 ?_;refine aU 2 ?_;intro b1 w1 aW bJ eO dC fg;refine B 6 ?_;refine cl call189 rfl (λW hS=>nQr x N W _ (dS hN (hS.links _ A1).size) (ef.us hS.sm _ _ kT) cC) ?_;refine aV 20 aO ?_;refine B 13 ?_;refine ao results138 rfl A1 ?_;rfl
def V.fn:V->Nat
 | .int _=>190
 | .text _=>193
 | .list _=>194
def V.cap (bv:Nat):V->List Value
 | .list _=>[ptr bv 0]
 |_=>[]
def XR (bv:Nat):Array Value:=#[.nilFunc,.func (.func 190) #[] #[],.func (.func 193) #[] #[],.func (.func 194) #[] #[ptr bv 0]]
theorem Dt(bv:Nat)(x:V)(k:Nat)(hk:(k:Int)=x.kind):(XR bv)[k]? =some (.func (.func x.fn) #[] (x.cap bv).toArray):=by
 cases x<;>simp only[V.kind]at hk
 all_goals grind [XR,V.fn,V.cap]
theorem V.kind_bd(x:V):1<=x.kind/\x.kind<=3:=by cases x<;>simp[V.kind]
structure Wr (N:Nat) (w:World) (bv bw:Nat):Prop where
 ltv:bv<N
 ltw:bw<N
 atv:w.heap[bv]? =some (oC #[ptr bw 0] 217)
 atw:w.heap[bw]? =some (oC (XR bv) 284)
theorem Wr.up{N J:Nat}{w':World}{bv bw:Nat}(h:Wr N w bv bw)(hN:N<=J)(hw:∀k,k<N->w'.heap[k]? =w.heap[k]?):Wr J w' bv bw:=
 ⟨by have:=h.ltv;omega,by have:=h.ltw;omega,(hw _ h.ltv).trans h.atv,(hw _ h.ltw).trans h.atw⟩
theorem nhk(w:World):Calls prog 139 #[] w (db w (λp:Nat×Nat=>ptr p.1 0) (λp w1=>w.heap.size<=p.1/\w.heap.size<=p.2/\w1.heap[p.2]? =some (oC #[ptr p.1 0] 217)/\w1.heap[p.1]? =some (oC (XR p.2) 284))):=by
 refine cH 8 func139 ntmps139 ?_;refine P4 rfl rfl rfl ?_;refine yW ?_;intro b3 cP J;refine bD 1 ?_;intro b1 dC fg;refine B 9 ?_;refine zMg ?_;refine B 8 ?_;refine zMg ?_;refine B 9 ?_;refine zMg ?_;refine B 9 ?_;exact bH (.inl rfl) results139 aL (λW hS=>⟨(b3,b1),rfl,hS.base A0 zhc,by simp only[ah]at *;omega,by simp only[ah]at *;omega,hS.own (b1,_) A0,hS.own (b3,_) A1⟩)
def nCl (x:V):Prop:=∀(N b cap bv bw:Nat) (xs:List UInt8) (sp:List Value) (w:World) (v:Value),ef N w x v->x.fine->Wr N w bv bw->N<=b->N<=w.heap.size->cS xs cap sp->xs.length+x.enc.length<=800000000000->w.heap[b]? =some (bF 5 xs sp)->
 Calls prog x.fn (bB b xs.length cap::v::x.cap bv).toArray w (P1 w b 5 (xs++x.enc))
theorem nOr(n:Int)(hn:(V.int n).fine)(xs:List UInt8)(b cap:Nat)(sp:List Value)(uw:cS xs cap sp)(w:World)(hb:w.heap[b]? =some (bF 5 xs sp))(fF:xs.length+(V.int n).enc.length<=800000000000):Calls prog 190 #[bB b xs.length cap,vI n] w (P1 w b 5 (xs++(V.int n).enc)):=by
 have kx:=(bO.1 hb).1;simp only[V.fine]at hn;simp only[V.enc,kb]at fF;have hz:=nLo n hn.1 hn.2;refine nP (vs:=[_,_]) (Gh.lent (· =b)) [(b,bF 5 xs sp)] func190 rfl ntmps190 rfl (Dm hb) ?_;refine aU 2 ?_;intro b3 w3 bQ aZ dK cP dt;refine B 4 ?_;refine nE (E':=[(0,_),(1,_),(3,_),(4,_)]) zR ?_;refine CJ.chn 5 [1,2] [_,none,none,_,_] (λcv L' H'=>match cv with| []=>L'=[w3,w]/\H'=[(b,bF 5 xs sp)]| [v1]=>∃(b6:Nat),v1=bB b6 ([1]:List UInt8).length 1/\L'=[w3,w]/\H'=[(b6,bF 5 [1] []),(b,bF 5 xs sp)]/\w3.heap.size<=b6/\w.heap.size<=b6| [v1,v2]=>∃(b6:Nat) (b7:Nat) (c7:Nat) (s7:List Value),v1=bB b6 ([1]:List UInt8).length 1/\v2=bB b7 (xs++[1]).length c7/\L'=[w3,w]/\H'=[(b6,bF 5 [1] []),(b7,bF 5 (xs++[1]) s7)]/\w3.heap.size<=b6/\w.heap.size<=b6/\Fr (Gh.lent (· =b)) [w3,w] b7/\(b7=b\/w3.heap.size<=b7/\w.heap.size<=b7)/\cS (xs++[1]) c7 s7|_=>False) (pc zX (pk (pk (pc (by exact λcv L' H' hd hP=>X.v (du underlying139 rfl sizeOf3 rfl)) (pc zch (pn)))))) ?_ ?_
 ·refine ss rfl ?_ ?_
  ·intro cv L' H' hl hP F Q' hk;obtain rfl:=oJ hl;obtain⟨rfl,rfl⟩:=hP;refine Dp [1] bt zeroValue5 rfl rfl rfl rfl rfl rfl rfl rfl rfl ?_;intro b6 ha ho hx hr;exact OJ.done (hk _ _ _ ⟨b6,rfl,rfl,rfl,ha.1,ha.2.1⟩)
  refine ss rfl ?_ ?_
  ·intro cv L' H' hl hP F Q' hk;obtain⟨v1,rfl⟩:=gh hl;obtain⟨b6,rfl,rfl,rfl,jb,Ci⟩:=hP;refine wY (i:=1) (xs:=xs) (zs:=[1]) (sp:=sp) rfl bt rfl rfl rfl rfl (fQ.own (i:=0) underlying50 rfl) uw (.inl rfl) z4 ?_;exact z2j
  exact nn
 intro cv L' H' hl hP;obtain⟨v1,v2,rfl⟩:=kY hl;obtain⟨b6,b7,c7,s7,rfl,rfl,rfl,rfl,jb,Ci,tu,UY,zA⟩:=hP;refine OJ.dropF (i:=0) rfl (.inr ⟨jb,Ci,trivial⟩) ?_;refine cl call192 rfl (λW hS=>nel _ aa aa W) ?_;refine UZ (i:=0) (ys:=xs++[1]++num (zx n)) (first:=[]) (cap:=[]) rfl rfl call191 rfl rfl rfl tu (λW hS hW=>nud (xs++[1]) (zx n) hz b7 c7 s7 zA z4 W hW) ?_;intro jk a6 bg sd Du;have J:=sd;replace J:=ye J;refine B 4 ?_;have Dw:xs++(V.int n).enc=xs++[1]++num (zx n):=by simp[V.enc]
 rw[Dw];exact ngk (i:=0) (.inl rfl) results190 rfl rfl A1 (by simp only[lv,eI,gB,vh,zz,and_true];simp only[Fr,Gh.lent,ah]at sd;omega) Du
theorem V.encL_drop(l:List V)(i:Nat)(h:i<l.length):V.encL (l.drop i)=(l[i]).enc++V.encL (l.drop (i+1)):=by
 rw[aet h,V.encL]
theorem Dx(x:V):fh prog x.fn:=by
 cases x
 ·exact call190
 ·exact call193
 exact call194
theorem nXq(x:ByteArray)(hn:(V.text x).fine)(xs:List UInt8)(b cap:Nat)(sp:List Value)(uw:cS xs cap sp)(w:World)(hb:w.heap[b]? =some (bF 5 xs sp))(fF:xs.length+(V.text x).enc.length<=800000000000):Calls prog 193 #[bB b xs.length cap,vT x] w (P1 w b 5 (xs++(V.text x).enc)):=by
 have kx:=(bO.1 hb).1;simp only[V.fine]at hn;simp only[V.enc,kb,eU]at fF;have de:x.data.toList.length=x.size:=P5;refine nP (vs:=[_,_]) (Gh.lent (· =b)) [(b,bF 5 xs sp)] func193 rfl ntmps193 rfl (Dm hb) ?_;refine aU 2 ?_;intro b3 w3 bQ aZ dK cP dt;refine B 4 ?_;refine nE (E':=[(0,_),(1,_),(3,_),(4,_)]) zR ?_;refine CJ.chn 10 [1,2,7] [_,none,none,_,some (.string x),_,_,none,_,some (.string x)] (λcv L' H'=>match cv with| []=>L'=[w3,w]/\H'=[(b,bF 5 xs sp)]| [v1]=>∃(b6:Nat),v1=bB b6 ([2]:List UInt8).length 1/\L'=[w3,w]/\H'=[(b6,bF 5 [2] []),(b,bF 5 xs sp)]/\w3.heap.size<=b6/\w.heap.size<=b6| [v1,v2]=>∃(b6:Nat) (b7:Nat) (c7:Nat) (s7:List Value),v1=bB b6 ([2]:List UInt8).length 1/\v2=bB b7 (xs++[2]).length c7/\L'=[w3,w]/\H'=[(b6,bF 5 [2] []),(b7,bF 5 (xs++[2]) s7)]/\w3.heap.size<=b6/\w.heap.size<=b6/\Fr (Gh.lent (· =b)) [w3,w] b7/\(b7=b\/w3.heap.size<=b7/\w.heap.size<=b7)/\cS (xs++[2]) c7 s7| [v1,v2,v3]=>∃(b6:Nat) (b7:Nat) (c7:Nat) (s7:List Value) (jw:Nat) (c12:Nat) (XS:List Value),v1=bB b6 ([2]:List UInt8).length 1/\v2=bB b7 (xs++[2]).length c7/\v3=bB jw (xs++[2]++num x.size).length c12/\L'=[w3,w]/\H'=[(b6,bF 5 [2] []),(jw,bF 5 (xs++[2]++num x.size) XS)]/\w3.heap.size<=b6/\w.heap.size<=b6/\Fr (Gh.lent (· =b)) [w3,w] b7/\(b7=b\/w3.heap.size<=b7/\w.heap.size<=b7)/\cS (xs++[2]) c7 s7/\Fr (Gh.lent (· =b)) [w3,w] jw/\(jw=b\/w3.heap.size<=jw/\w.heap.size<=jw)/\cS (xs++[2]++num x.size) c12 XS|_=>False) (pc zX (pk (pk (pc (zYBK) (pc zci (pc (by exact λcv L' H' hd hP=>X.v (qL underlying9 rfl)) (pc z8c (pk (pc (zYBK) (pc zci (pn))))))))))) ?_ ?_
 ·refine ss rfl ?_ ?_
  ·intro cv L' H' hl hP F Q' hk;obtain rfl:=oJ hl;obtain⟨rfl,rfl⟩:=hP;refine zJg ?_;intro b6 ha ho hx hr;exact OJ.done (hk _ _ _ ⟨b6,rfl,rfl,rfl,ha.1,ha.2.1⟩)
  refine ss rfl ?_ ?_
  ·intro cv L' H' hl hP F Q' hk;obtain⟨v1,rfl⟩:=gh hl;obtain⟨b6,rfl,rfl,rfl,jb,Ci⟩:=hP;refine wY (i:=1) (xs:=xs) (zs:=[2]) (sp:=sp) rfl bt rfl rfl rfl rfl (fQ.own (i:=0) underlying50 rfl) uw (.inl rfl) z4 ?_;exact z2j
  refine ss rfl ?_ ?_
  ·intro cv L' H' hl hP F Q' hk;obtain⟨v1,v2,rfl⟩:=kY hl;obtain⟨b6,b7,c7,s7,rfl,rfl,rfl,rfl,jb,Ci,tu,UY,zA⟩:=hP;refine UZ (i:=1) (ys:=xs++[2]++num x.size) (first:=[]) (cap:=[]) rfl rfl call191 rfl rfl rfl tu (λW hS hW=>nud (xs++[2]) x.size aa b7 c7 s7 zA z4 W hW) ?_;intro bn cn sn hfn J;have JH:=hfn;replace JH:=ye JH;exact OJ.done (hk _ _ _ ⟨b6,b7,c7,s7,bn,cn,sn,rfl,rfl,rfl,rfl,rfl,jb,Ci,tu,UY,zA,hfn,by simpa only[Fr,Gh.lent,ah,and_true]using hfn,J⟩)
  exact nn
 intro cv L' H' hl hP;obtain⟨v1,v2,v3,rfl⟩:=gO hl;obtain⟨b6,b7,c7,s7,jw,c12,XS,rfl,rfl,rfl,rfl,rfl,jb,Ci,tu,UY,zA,XT,ahE,JI⟩:=hP;refine wY (i:=1) (xs:=xs++[2]++num x.size) (zs:=x.data.toList) (sp:=XS) rfl bt rfl rfl rfl rfl (fQ.str underlying9) JI XT z4 ?_;intro gl XU XV se Be;have vP:=se;replace vP:=ye vP;refine B 4 ?_;have Dw:xs++(V.text x).enc=xs++[2]++num x.size++x.data.toList:=by simp[V.enc]
 rw[Dw];exact ngk (i:=1) (.inl rfl) results193 rfl rfl A1 (by simp only[lv,eI,gB,vh,zz,and_true];simp only[Fr,Gh.lent,ah]at se;omega) Be
section
variable (l:List V)(ih:∀y∈l,nCl y)(cC:(V.list l).fine)(N:Nat)(base:Option Addr)(lc bv bw:Nat)
include l ih cC N base lc bv bw
theorem nBr(xs:List UInt8)(b cap:Nat)(sp:List Value)(uw:cS xs cap sp)(w:World)(hb:w.heap[b]? =some (bF 5 xs sp))(hN:N<=w.heap.size)(a6:N<=b)(kX:xS N w base l)(J:Wr N w bv bw)(fF:xs.length+(V.list l).enc.length<=800000000000):Calls prog 194 #[bB b xs.length cap,vL base l.length lc,ptr bv 0] w (P1 w b 5 (xs++(V.list l).enc)):=by
 have kx:=(bO.1 hb).1;simp only[V.fine]at cC;obtain⟨tr,vM,vN⟩:=cC;have b0:=J.ltv;have cq:=J.ltw;simp only[V.enc,kb,eU]at fF;refine nP (vs:=[_,_,_]) (Gh.lent (· =b)) [(b,bF 5 xs sp)] func194 rfl ntmps194 rfl (Dm hb) ?_;refine aU 2 ?_;intro b4 w4 gI iA oA dL dP;refine B 4 ?_;refine nE (E':=[(0,_),(1,_),(2,_),(4,_),(5,_)]) zR ?_;refine CJ.chn 7 [1,2] [_,none,none,_,some (.slice base l.length lc),_,_] (λcv L' H'=>match cv with| []=>L'=[w4,w]/\H'=[(b,bF 5 xs sp)]| [v1]=>∃(b9:Nat),v1=bB b9 ([3]:List UInt8).length 1/\L'=[w4,w]/\H'=[(b9,bF 5 [3] []),(b,bF 5 xs sp)]/\w4.heap.size<=b9/\w.heap.size<=b9| [v1,v2]=>∃(b9:Nat) (iK:Nat) (zC:Nat) (Cj:List Value),v1=bB b9 ([3]:List UInt8).length 1/\v2=bB iK (xs++[3]).length zC/\L'=[w4,w]/\H'=[(b9,bF 5 [3] []),(iK,bF 5 (xs++[3]) Cj)]/\w4.heap.size<=b9/\w.heap.size<=b9/\Fr (Gh.lent (· =b)) [w4,w] iK/\(iK=b\/w4.heap.size<=iK/\w.heap.size<=iK)/\cS (xs++[3]) zC Cj|_=>False) (pc zX (pk (pk (pc z1b (pc zcj (pc (by exact λcv L' H' hd hP=>X.v (lQ underlying115 rfl)) (pc z8c (pn)))))))) ?_ ?_
 ·refine ss rfl ?_ ?_
  ·intro cv L' H' hl hP F Q' hk;obtain rfl:=oJ hl;obtain⟨rfl,rfl⟩:=hP;refine zIg ?_;intro b9 ha ho hx hr;exact OJ.done (hk _ _ _ ⟨b9,rfl,rfl,rfl,ha.1,ha.2.1⟩)
  refine ss rfl ?_ ?_
  ·intro cv L' H' hl hP F Q' hk;obtain⟨v1,rfl⟩:=gh hl;obtain⟨b9,rfl,rfl,rfl,oF,P6⟩:=hP;refine wY (i:=1) (xs:=xs) (zs:=[3]) (sp:=sp) rfl bt rfl rfl rfl rfl (fQ.own (i:=0) underlying50 rfl) uw (.inl rfl) z4 ?_;intro b7 c7 s7 tu zA;exact OJ.done (hk _ _ _ ⟨b9,b7,c7,s7,rfl,rfl,rfl,rfl,oF,P6,tu,by simpa only[Fr,Gh.lent,ah,and_true]using tu,zA⟩)
  exact nn
 intro cv L' H' hl hP;obtain⟨v1,v2,rfl⟩:=kY hl;obtain⟨b9,iK,zC,Cj,rfl,rfl,rfl,rfl,oF,P6,JJ,P7,sf⟩:=hP;refine OJ.dropF (i:=0) rfl (.inr ⟨oF,P6,trivial⟩) ?_;refine UZ (i:=0) (ys:=xs++[3]++num l.length) (first:=[]) (cap:=[]) rfl rfl call191 rfl rfl rfl JJ (λW hS hW=>nud (xs++[3]) l.length aa iK zC Cj sf z4 W hW) ?_;intro gl XU XV se Be;have vP:=se;replace vP:=ye vP;refine B 13 ?_;refine CJ.lp (α:=List UInt8×Nat×Nat×Nat×List Value) [2,17,18] (λp=>[(0,bB p.2.2.1 p.1.length p.2.2.2.1),(19,ab (p.2.1:Int))]) (λp=>[(p.2.2.1,bF 5 p.1 p.2.2.2.2)]) (λp=>p.1++V.encL (l.drop p.2.1)=xs++(V.list l).enc/\p.2.1<=l.length/\Fr (Gh.lent (· =b)) [w4,w] p.2.2.1/\(p.2.2.1=b\/w4.heap.size<=p.2.2.1/\w.heap.size<=p.2.2.1)/\cS p.1 p.2.2.2.1 p.2.2.2.2) (λp=>l.length-p.2.1) (xs++[3]++num l.length,0,gl,XU,XV) ⟨by simp[V.enc],cd _,se,zYBQ,Be⟩ ?_;rintro⟨ys,i,b1,c1,s1⟩ ⟨hinv,hi,hf,hg,hr⟩;dsimp only at hinv hi hf hg hr ⊢;have rN:=congrArg List.length hinv;simp only[V.enc,eU,kb]at rN;refine av 6 ?_ ?_
 ·intro ai;refine B 5 ?_;obtain⟨bl,cs,te,XP,rfl,kx,hcs,XQ,a1,a2,p3,n3,c3,pM,kT⟩:=kX i aa;have vO:=(bO.1 hcs).1;obtain⟨y,hy⟩:∃y,l[i]'aa=y:=⟨_,rfl⟩;rw[hy]at pM kT;have rO:y∈l:=hy▸NC _;have bI:=V.kind_bd y;have XW:=congrArg List.length (V.encL_drop l i aa);rw[eU,hy]at XW;refine B 2 ?_;refine rq (.agg #[ab y.kind,ab a1,.string a2,.slice p3 n3 c3]) (eg isAgg139 sizeOf139 rfl A1 hcs (by show ¬(_=_);omega) zD aa) (va ztc) ?_;refine bD 1 ?_;intro b7 ie lu;refine B 3 ?_;refine eA 9 (pb:=by exact qv (ad isAgg217 rfl A1 J.atv (by show ¬(_=_);omega) zD rfl) (zU 5 (k:=by exact qv (ad (v:=.func (.func y.fn) #[] (y.cap bv).toArray) isAgg214 rfl A1 J.atw (by show ¬(_=_);omega) zD (Dt bv _ _ (zYBf))) zT))) (k:=?_);refine UZ (i:=1) (ys:=ys++y.enc) (first:=[]) (cap:=y.cap bv) rfl rfl (Dx _) rfl rfl rfl hf (λW hS hW=>ih y rO N b1 c1 bv bw ys s1 W _ (ef.us (hS.same A1 hN (λk hk (h:k=b)=>by omega) zJ) _ _ kT) (V.fineL_mem vN y rO) (J.up (aC _) (hS.same A1 hN (λk hk (h:k=b)=>by omega) zJ)) aa (dS hN (hS.links _ A1).size) hr aa hW) ?_;exact zmj
 intro ai;refine B 12 ?_;have e:i=l.length:=by omega
 subst e;rw[List.drop_of_length_le (aC _)]at hinv;simp only[V.encL,dG]at hinv;rw[<-hinv];exact ngk (i:=0) (.inl rfl) results194 rfl rfl A1 (by simp only[lv,eI,gB,vh,zz,and_true];omega) hr
theorem n8k(w:World)(hN:N<=w.heap.size)(kX:xS N w base l)(J:Wr N w bv bw)(fF:(V.list l).enc.length<=800000000000):Calls prog 194 #[bS,vL base l.length lc,ptr bv 0] w (Ck w 5 ((V.list l).enc)):=by
 simp only[V.fine]at cC;obtain⟨tr,vM,vN⟩:=cC;have bR:=J.ltv;have b0:=J.ltw;simp only[V.enc,kb,eU]at fF;refine eN func194 ntmps194 ?_;refine aU 2 ?_;intro b4 w4 gI iA oA dL dP;refine B 4 ?_;refine eS 7 1 [2] (sp:=[_,_,_,_,some (.slice base l.length lc),_,_]) (h:=?_);intro _ _ hk;refine zIg ?_;intro b9 ha ho hx hr;have oF:w4.heap.size<=b9:=ha.1;have P6:w.heap.size<=b9:=ha.2.1;refine zG ?_;intro _ _ hk;refine apN (zs:=[3]) bt rfl rfl rfl rfl (fQ.own (i:=0) underlying50 rfl) zF zF ?_;intro iK zC Cj ie lu bz sf;have JJ:w4.heap.size<=iK:=ie.1;have P7:w.heap.size<=iK:=ie.2.1;refine zE ?_;refine OJ.dropF (i:=1) rfl (.inr ⟨oF,P6,trivial⟩) ?_;refine UZ (i:=0) (ys:=[3]++num l.length) (first:=[]) (cap:=[]) rfl rfl call191 rfl rfl rfl (.inr ⟨JJ,P7,trivial⟩) (λW hS hW=>nud ([3]) l.length aa iK zC Cj sf z4 W hW) ?_;intro gl XU XV se Be;have vP:=se;replace vP:=ye vP;refine B 13 ?_;refine CJ.lp (α:=List UInt8×Nat×Nat×Nat×List Value) [2,17,18] (λp=>[(0,bB p.2.2.1 p.1.length p.2.2.2.1),(19,ab (p.2.1:Int))]) (λp=>[(p.2.2.1,bF 5 p.1 p.2.2.2.2)]) (λp=>p.1++V.encL (l.drop p.2.1)=(V.list l).enc/\p.2.1<=l.length/\Fr (Gh.no) [w4,w] p.2.2.1/\(w4.heap.size<=p.2.2.1/\w.heap.size<=p.2.2.1)/\cS p.1 p.2.2.2.1 p.2.2.2.2) (λp=>l.length-p.2.1) ([3]++num l.length,0,gl,XU,XV) ⟨by simp[V.enc],cd _,se,zYBQ,Be⟩ ?_
 rintro⟨ys,i,b1,c1,s1⟩ ⟨hinv,hi,hf,hg,hr⟩;dsimp only at hinv hi hf hg hr ⊢;have rN:=congrArg List.length hinv;simp only[V.enc,eU,kb]at rN;refine av 6 ?_ ?_
 ·intro ai;refine B 5 ?_;obtain⟨bl,cs,te,XP,rfl,kx,hcs,XQ,a1,a2,p3,n3,c3,pM,kT⟩:=kX i aa;have vO:=(bO.1 hcs).1;obtain⟨y,hy⟩:∃y,l[i]'aa=y:=⟨_,rfl⟩;rw[hy]at pM kT;have rO:y∈l:=hy▸NC _;have bx:=V.kind_bd y;have XW:=congrArg List.length (V.encL_drop l i aa);rw[eU,hy]at XW;refine B 2 ?_;refine zBf ?_;refine bD 1 ?_;intro b7 ie lu;refine B 3 ?_;refine eA 9 (pb:=by exact qv (ad isAgg217 rfl A1 J.atv zL zD rfl) (zU 5 (k:=by exact qv (ad (v:=.func (.func y.fn) #[] (y.cap bv).toArray) isAgg214 rfl A1 J.atw zL zD (Dt bv _ _ (zYBf))) zT))) (k:=?_);refine UZ (i:=1) (ys:=ys++y.enc) (first:=[]) (cap:=y.cap bv) rfl rfl (Dx _) rfl rfl rfl hf (λW hS hW=>ih y rO N b1 c1 bv bw ys s1 W _ (ef.us hS.sm _ _ kT) (V.fineL_mem vN y rO) (J.up (aC _) hS.sm) aa (dS hN (hS.links _ A1).size) hr aa hW) ?_;exact zmj
 intro ai;refine B 12 ?_;have e:i=l.length:=by omega
 subst e;rw[List.drop_of_length_le (aC _)]at hinv;simp only[V.encL,dG]at hinv;rw[<-hinv];exact P8 (i:=0) (.inl rfl) results194 rfl rfl A1 vF hr
end
theorem Dy:∀x,nCl x:=by
 refine V.ind ?_ ?_ ?_
 ·intro n N b cap bv bw xs sp w v hv hf _ _ _ hr hl hb;subst hv;exact nOr n hf xs b cap sp hr w hb hl
 ·intro s N b cap bv bw xs sp w v hv hf _ _ _ hr hl hb;subst hv;exact nXq s hf xs b cap sp hr w hb hl
 intro l ih N b cap bv bw xs sp w v hv hf zB J hN hr hl hb;obtain⟨base,lc,rfl,hc,kX⟩:=hv.list;exact nBr l ih hf N base lc bv bw xs b cap sp hr w hb hN J kX zB hl
theorem nrf(l:List V)(cC:(V.list l).fine)(hd:(V.list l).depth<=16)(fF:(V.list l).enc.length<=800000000000)(N:Nat)(base:Option Addr)(lc:Nat)(w:World)(hN:N<=w.heap.size)(kT:ef N w (.list l) (vL base l.length lc)):Calls prog 93 #[vL base l.length lc] w (nFj w 5 (V.list l).enc):=by
 obtain⟨XX,a8,aD,cy,a6⟩:=kT.list;obtain⟨rfl,rfl⟩:base=XX/\lc=a8:=by simpa[vL]using aD
 refine eN func93 ntmps93 ?_;refine aU 2 ?_;intro b1 w1 aW bJ eO dC fg;refine B 8 ?_;refine cl call138 rfl (λW hS=>nRo (.list l) _ _ _ _ _ cC hd N W (dS hN (hS.links _ A1).size) (ef.up aa hS.sm _ _ kT)) ?_;refine B 6 ?_;refine pN ?_;refine eS 8 0 [3,4,5,6] (sp:=[_,_,some (ab 3),_,_,_,_,some (vL base l.length lc)]) (h:=?_);intro _ _ hk;refine ny (Φ:=λ(W:World) (p:Nat×Nat) (v1:World)=>W.heap.size<=p.1/\W.heap.size<=p.2/\v1.heap[p.2]? =some (oC #[ptr p.1 0] 217)/\v1.heap[p.1]? =some (oC (XR p.2) 284)) call139 rfl rfl rfl (λW hS=>nhk W) ?_;rintro W ⟨bw,bv⟩ U0 aR bg ⟨h1,h2,e5,J⟩;have h5:=aR.sizes;replace h5:=yb h5;dsimp only at h1 h2 e5 J;have e3:=(bO.1 J).1;have e4:=(bO.1 e5).1;have e7:=bg.size;have e1:w1.heap.size<=bw:=by omega
 have e2:w1.heap.size<=bv:=by omega
 have e7:w1.heap.size<=U0.heap.size:=by omega
 refine zG ?_;intro _ _ hk;refine B 1 ?_;refine zG ?_;intro _ _ hk;refine B 1 ?_;refine zG ?_;intro _ _ hk;refine B 1 ?_;refine zG ?_;intro _ _ hk;refine rx (ad (v:=.func (.func 194) #[] #[ptr bv 0]) isAgg214 rfl A0 J zL trivial rfl) ?_;refine zE ?_;refine P9 (ys:=(V.list l).enc) (first:=[]) (cap:=[ptr bv 0]) rfl call194 rfl rfl rfl (λW hS=>n8k l (λy _=>Dy y) cC U0.heap.size base lc bv bw W (hS.links _ A0).size (λi hi=>by
  obtain⟨bl,cs,t,fr,h1,h2,h3,h4,a1,a2,p3,n3,c3,h5,h6⟩:=a6 i hi;have UN:=hS.same A2 hN zO zJ;exact⟨bl,cs,t,fr,h1,by omega,(UN bl h2).trans h3,h4,a1,a2,p3,n3,c3,h5,ef.up aa UN _ _ h6⟩) ⟨e4,e3,hS.old A0 e5 zL trivial,hS.old A0 J zL trivial⟩ fF) ?_
 intro UT cO cq xQ JE bI JF;replace xQ:=yb xQ;refine B 5 ?_;exact Dz (i:=0) (.inl rfl) results93 rfl rfl rfl A2 vF JF
def nRf (x:V):Prop:=∀(N:Nat) (w:World) (v:Value),N<=w.heap.size->ef N w x v->x.fine->Calls prog 240 #[v] w (ar w (aK))
def nIo (x:V):Prop:=∀(N:Nat) (w:World) (v:Value),N<=w.heap.size->ef N w x v->x.fine->Calls prog 241 #[v] w (ar w (ab (x.depth:Int)))
theorem n8o(n:Int)(w:World):Calls prog 240 #[vI n] w (ar w (aK)):=by
 refine eN func240 ntmps240 ?_;refine aU 2 ?_;intro b1 w1 aW bJ eO dC fg;refine B 13 ?_;refine Bf ?_;refine bX aK ?_;refine B 7 ?_;refine ao results240 rfl A1 ?_;rfl
theorem nhn(x:ByteArray)(w:World):Calls prog 240 #[vT x] w (ar w (aK)):=by
 refine eN func240 ntmps240 ?_;refine aU 2 ?_;intro b1 w1 aW bJ eO dC fg;refine B 13 ?_;refine pN ?_;refine bX aK ?_;refine aV 8 aK ?_;refine aV 4 aK ?_;refine B 7 ?_;refine ao results240 rfl A1 ?_;rfl
theorem nao(l:List V)(ih:∀y∈l,nRf y)(cC:(V.list l).fine)(N:Nat)(base:Option Addr)(cap:Nat)(w:World)(hN:N<=w.heap.size)(kX:xS N w base l):Calls prog 240 #[vL base l.length cap] w (ar w (aK)):=by
 simp only[V.fine]at cC;obtain⟨tr,vM,J⟩:=cC;refine eN func240 ntmps240 ?_;refine aU 2 ?_;intro b1 w1 aW bJ eO dC fg;refine B 13 ?_;refine pN ?_;refine pN ?_;refine Cl ?_;refine CJ.lp (α:=Nat) [1] (λi=>[(3,ab (i:Int))]) (λi=>[]) (λi=>i<=l.length) (λi=>l.length-i) 0 (cd _) ?_;rintro i hi;refine av 10 ?_ ?_
 ·intro ai;refine B 5 ?_;obtain⟨bl,cs,te,XP,rfl,kx,hcs,XQ,a1,a2,p3,n3,c3,pM,kT⟩:=kX i aa;have vO:=(bO.1 hcs).1;obtain⟨y,hy⟩:∃y,l[i]'aa=y:=⟨_,rfl⟩;rw[hy]at pM kT;have rO:y∈l:=hy▸NC _;refine B 5 ?_;refine zje ?_;refine cl call240 rfl (λW hS=>ih y rO N W _ (dS hN (hS.links _ A1).size) (ef.us hS.sm _ _ kT) (V.fineL_mem J y rO)) ?_;refine B 12 ?_;refine ag (i+1) aa
 intro ai;refine B 9 ?_;refine Cl ?_;refine ao results240 rfl A1 ?_;rfl
theorem n8q:∀x,nRf x:=by
 refine V.ind ?_ ?_ ?_
 ·simp[ef,n8o,nRf]
 ·simp[ef,nhn,nRf]
 intro l ih N w v hN hv hf;obtain⟨base,cap,rfl,hc,J⟩:=hv.list
 grind [nao]
theorem nqr(n:Int)(w:World):Calls prog 241 #[vI n] w (ar w (ab 0)):=by
 exact zJj
theorem n0o(x:ByteArray)(w:World):Calls prog 241 #[vT x] w (ar w (ab 0)):=by
 exact zJj
theorem n7o(l:List V)(ih:∀y∈l,nIo y)(cC:(V.list l).fine)(N:Nat)(base:Option Addr)(cap:Nat)(w:World)(hN:N<=w.heap.size)(kX:xS N w base l):Calls prog 241 #[vL base l.length cap] w (ar w (ab ((V.depthL l+1:Nat):Int))):=by
 simp only[V.fine]at cC;obtain⟨tr,vM,vN⟩:=cC;refine eN func241 ntmps241 ?_;refine aU 2 ?_;intro b1 w1 aW bJ eO dC fg;refine aV 8 aO ?_;refine B 17 ?_;refine CJ.loop (α:=Nat) (λi=>[(1,ptr b1 0),(3,ab ((V.depthL (l.take i):Nat):Int)),(4,ab (i:Int))]) (λi=>[]) (λi=>[w1,w]) (λi=>Gh.no) (λi=>i<=l.length/\V.depthL (l.take i)<=1000000000) (λi=>l.length-i) 0 ⟨cd _,by simp[V.depthL]⟩ zR rfl rfl zP ?_;rintro i ⟨hi,J⟩;refine av 10 ?_ ?_
 ·intro ai;refine B 4 ?_;obtain⟨bl,cs,te,XP,rfl,kx,hcs,XQ,a1,a2,p3,n3,c3,pM,kT⟩:=kX i aa;have vO:=(bO.1 hcs).1;obtain⟨y,hy⟩:∃y,l[i]'aa=y:=⟨_,rfl⟩;rw[hy]at pM kT;have rO:y∈l:=hy▸NC _;refine B 6 ?_;refine zje ?_;refine cl call241 rfl (λW hS=>ih y rO N W _ (dS hN (hS.links _ A1).size) (ef.us hS.sm _ _ kT) (V.fineL_mem vN y rO)) ?_;refine rx (xT rfl rfl) ?_;refine B 9 ?_;refine PJ.again (i+1) ⟨by omega,zY7⟩ aa ⟨rfl,congrArg some (congrArg ab (by rw[V.depthL_take l i aa,hy];omega)),rfl,trivial⟩ rfl rfl zP
 intro ai;refine B 13 ?_;refine ao results241 rfl A1 ?_;have e:i=l.length:=by omega
 subst e;rw[lE (aC _)];rfl
theorem n1r:∀x,nIo x:=by
 refine V.ind ?_ ?_ ?_
 ·intro n N w v _ hv _;subst hv;exact nqr n w
 ·intro s N w v _ hv _;subst hv;exact n0o s w
 intro l ih N w v hN hv hf;obtain⟨base,cap,rfl,hc,J⟩:=hv.list;exact n7o l ih hf N base cap w hN J
theorem nZr(x:V)(J:Int)(s2:ByteArray)(p3:Option Addr)(n3 c3:Nat)(cC:x.fine)(hd:x.depth<=16)(N:Nat)(w:World)(hN:N<=w.heap.size)(kT:ef N w x (.agg #[ab x.kind,ab J,.string s2,.slice p3 n3 c3])):Calls prog 177 #[.agg #[ab x.kind,ab J,.string s2,.slice p3 n3 c3]] w (ar w (ab 0)):=by
 refine eN func177 ntmps177 ?_;refine aU 2 ?_;intro b1 w1 aW bJ eO dC fg;refine B 7 ?_;refine cl call240 rfl (λW hS=>n8q x N W _ (dS hN (hS.links _ A1).size) (ef.us hS.sm _ _ kT) cC) ?_;refine B 10 ?_;refine cl call241 rfl (λW hS=>n1r x N W _ (dS hN (hS.links _ A1).size) (ef.us hS.sm _ _ kT) cC) ?_;refine U1 ?_;refine ao results177 rfl A1 ?_;rfl
theorem nij(u:Nat)(hu:u<18446744073709551616)(ih:∀v,v<u->∀w,Calls prog 242 #[.int .u64 (v:Int)] w (Ck w 5 (num v)))(w:World):Calls prog 242 #[.int .u64 (u:Int)] w (Ck w 5 (num u)):=by
 have JB:=zy (u:=u/128) aa;refine eN func242 ntmps242 ?_;refine av 12 ?_ ?_
 ·intro ai;refine B 3 ?_;refine rq (.int .u8 ((UInt8.ofNat u).toNat:Int)) (iQ underlying161 underlying5 rfl) (congrArg (Value.int .u8) (nwl u aa)) ?_;refine Dp [UInt8.ofNat u] bt zeroValue5 rfl rfl rfl rfl rfl rfl rfl rfl rfl ?_;intro b7 ie lu bg zA;replace ie:=yb ie;replace lu:=yd lu;refine B 5 ?_;rw[UU aa];exact P8 (i:=0) (.inl rfl) results242 rfl rfl A0 XY zA
 intro ai;refine B 5 ?_;refine UG ?_;refine Pz ?_;refine rq (.int .u8 ((UInt8.ofNat (u%128+128)).toNat:Int)) (iQ underlying161 underlying5 rfl) (congrArg (Value.int .u8) (by have:=nwl (u%128+128) aa;omega)) ?_;refine Dp [UInt8.ofNat (u%128+128)] bt zeroValue5 rfl rfl rfl rfl rfl rfl rfl rfl rfl ?_;intro jw qM Bg bu JI;replace qM:=yb qM;replace Bg:=yd Bg;refine B 1 ?_;refine rq (.int .u64 ((u/128:Nat):Int)) (ug rfl rfl aa aa aa) (vu aa) ?_;refine JK (ys:=num (u/128)) call242 rfl rfl rfl (λW hS=>ih (u/128) aa W) ?_;intro gl XU XV jl Bh bx Be;replace jl:=yb jl;replace Bh:=yd Bh;refine wY (i:=1) (xs:=[UInt8.ofNat (u%128+128)]) (zs:=num (u/128)) (sp:=[]) rfl bt rfl rfl rfl rfl (fQ.own (i:=0) underlying50 rfl) JI (.inr ⟨qM.1,trivial⟩) z4 ?_;intro gg bz bI kB J;have XZ:=kB;replace XZ:=ye XZ;refine B 4 ?_;rw[nEk aa];exact P8 (i:=1) (.inl rfl) results242 rfl rfl A0 XY J
theorem nFe:∀(u:Nat),u<18446744073709551616->∀w,Calls prog 242 #[.int .u64 (u:Int)] w (Ck w 5 (num u)):=by
 intro u;induction u using Nat.strongRecOn<;>grind [nij]
def nUj (x:V):Prop:=∀(N:Nat) (w:World) (v:Value),N<=w.heap.size->ef N w x v->x.fine->x.enc.length<=800000000000->Calls prog 178 #[v] w (Ck w 5 x.enc)
theorem DA(n:Int)(hn:(V.int n).fine)(w:World):Calls prog 178 #[vI n] w (Ck w 5 (V.int n).enc):=by
 simp only[V.fine]at hn;have hz:=nLo n hn.1 hn.2;have JB:=zy hz;refine eN func178 ntmps178 ?_;refine aU 2 ?_;intro b1 w1 aW bJ eO dC fg;refine X2 ?_;refine B 6 ?_;refine Dp [1] bt zeroValue5 rfl rfl rfl rfl rfl rfl rfl rfl rfl ?_;intro b9 oF xJ hx9 J;replace oF:=yb oF;replace xJ:=yd xJ;refine B 2 ?_;refine cl call243 rfl (λW hS=>n0m _ aa aa W) ?_;refine JK (ys:=num (zx n)) call242 rfl rfl rfl (λW hS=>nFe (zx n) hz W) ?_;intro jO bx bg qK xP bu XL;replace qK:=yb qK;replace xP:=yd xP;refine wY (i:=1) (xs:=[1]) (zs:=num (zx n)) (sp:=[]) rfl bt rfl rfl rfl rfl (fQ.own (i:=0) underlying50 rfl) J (.inr ⟨oF.1,oF.2.1,trivial⟩) z4 ?_;intro US bR bz JD P2;have Dq:=JD;replace Dq:=ye Dq;refine B 6 ?_;rw[V.enc];exact P8 (i:=1) (.inl rfl) results178 rfl rfl A1 XY P2
theorem nPr(x:ByteArray)(hn:(V.text x).fine)(w:World):Calls prog 178 #[vT x] w (Ck w 5 (V.text x).enc):=by
 simp only[V.fine]at hn;have JB:=zy (u:=x.size) aa;have de:x.data.toList.length=x.size:=P5;refine eN func178 ntmps178 ?_;refine aU 2 ?_;intro b1 w1 aW bJ eO dC fg;refine B 13 ?_;refine pN ?_;refine NF ?_;refine nE (E':=[(0,_),(1,_),(2,_),(5,_),(6,_),(7,_),(8,_),(15,_),(16,_)]) zR ?_;refine dN 9 [0,5,6] [[],[],[0,1]] (λcv L' H'=>match cv with| [none,none,none]=>L'=[w1,w]/\H'=[]| [none,some v5,none]=>∃(iR:Nat) (tv:Nat) (tw:List Value),v5=bB iR (num x.size).length tv/\L'=[w1,w]/\H'=[(iR,bF 5 (num x.size) tw)]/\w1.heap.size<=iR/\w.heap.size<=iR/\cS (num x.size) tv tw| [some v0,none,none]=>∃(lO:Nat),v0=bB lO ([2]:List UInt8).length 1/\L'=[w1,w]/\H'=[(lO,bF 5 [2] [])]/\w1.heap.size<=lO/\w.heap.size<=lO| [some v0,some v5,none]=>∃(lO:Nat) (iR:Nat) (tv:Nat) (tw:List Value),v0=bB lO ([2]:List UInt8).length 1/\v5=bB iR (num x.size).length tv/\L'=[w1,w]/\H'=[(iR,bF 5 (num x.size) tw),(lO,bF 5 [2] [])]/\w1.heap.size<=lO/\w.heap.size<=lO/\w1.heap.size<=iR/\w.heap.size<=iR/\cS (num x.size) tv tw| [some v0,some v5,some v6]=>∃(lO:Nat) (iR:Nat) (tv:Nat) (tw:List Value) (zV:Nat) (U2:Nat) (Qa:List Value),v0=bB lO ([2]:List UInt8).length 1/\v5=bB iR (num x.size).length tv/\v6=bB zV ([2]++num x.size).length U2/\L'=[w1,w]/\H'=[(iR,bF 5 (num x.size) tw),(zV,bF 5 ([2]++num x.size) Qa)]/\w1.heap.size<=lO/\w.heap.size<=lO/\w1.heap.size<=iR/\w.heap.size<=iR/\cS (num x.size) tv tw/\Fr Gh.no [w1,w] zV/\(w1.heap.size<=zV/\w.heap.size<=zV)/\cS ([2]++num x.size) U2 Qa|_=>False) ⟨rfl,rfl⟩ (Aa 2 (k:=by exact ph zck (ph (λcv L' H' _ _ hP=>X.v (qL underlying9 rfl)) (Aa 4 (k:=by exact ph zck (qtn rfl)))))) (sp:=[_,_,some (.string x),_,_,_,_,_,some (.string x)]) ?_ ?_
 ·refine nc rfl rfl ?_ ?_
  ·intro cv L' H' hl hr hP F Q' hk;obtain⟨x0,x5,x6,rfl⟩:=gO hl;rcases x0 with _|v0<;>rcases x5 with _|v5<;>rcases x6 with _|v6<;>try exact False.elim hP
   ·obtain⟨rfl,rfl⟩:=hP;refine zJg ?_;intro lO ha ho hx hr;exact OJ.done (hk _ _ _ ⟨lO,rfl,rfl,rfl,ha.1,ha.2.1⟩)
   ·obtain⟨iR,tv,tw,rfl,rfl,rfl,r7,xU,xV⟩:=hP;refine zJg ?_;intro lO ha ho hx hr;exact OJ.done (nHo (hk _ _ _ ⟨lO,iR,tv,tw,rfl,rfl,rfl,rfl,ha.1,ha.2.1,r7,xU,xV⟩))
   ·exact fN
   ·exact fN
   exact fN
  refine nc rfl rfl ?_ ?_
  ·intro cv L' H' hl hr hP F Q' hk;obtain⟨x0,x5,x6,rfl⟩:=gO hl;rcases x0 with _|v0<;>rcases x5 with _|v5<;>rcases x6 with _|v6<;>try exact False.elim hP
   ·obtain⟨rfl,rfl⟩:=hP;refine JK (ys:=num x.size) call242 rfl rfl rfl (λW hS=>nFe x.size aa W) ?_;intro iR tv tw ha ho hx J;exact OJ.done (hk _ _ _ ⟨iR,tv,tw,rfl,rfl,rfl,ha.1,ha.2.1,J⟩)
   ·exact fN
   ·obtain⟨lO,rfl,rfl,rfl,kA,vQ⟩:=hP;refine JK (ys:=num x.size) call242 rfl rfl rfl (λW hS=>nFe x.size aa W) ?_;intro iR tv tw ha ho hx J;exact OJ.done (hk _ _ _ ⟨lO,iR,tv,tw,rfl,rfl,rfl,rfl,kA,vQ,ha.1,ha.2.1,J⟩)
   ·exact fN
   exact fN
  refine nc rfl rfl ?_ ?_
  ·intro cv L' H' hl hr hP F Q' hk;obtain⟨x0,x5,x6,rfl⟩:=gO hl;rcases x0 with _|v0<;>rcases x5 with _|v5<;>rcases x6 with _|v6<;>try exact False.elim hP
   ·exact fN
   ·exact fN
   ·exact fN
   ·obtain⟨lO,iR,tv,tw,rfl,rfl,rfl,rfl,kA,vQ,r7,xU,xV⟩:=hP;refine wY (i:=1) (xs:=[2]) (zs:=num x.size) (sp:=[]) rfl bt rfl rfl rfl rfl (fQ.own (i:=0) underlying50 rfl) ⟨by decide,rfl⟩ (.inr ⟨kA,vQ,trivial⟩) z4 ?_;intro zV U2 Qa DB JL;exact OJ.done (hk _ _ _ ⟨lO,iR,tv,tw,zV,U2,Qa,rfl,rfl,rfl,rfl,rfl,kA,vQ,r7,xU,xV,DB,by simpa only[Fr,Gh.no,ah,and_true,false_or]using DB,JL⟩)
   exact fN
  exact nn
 intro cv L' H' hl hr hP;obtain⟨x0,x5,x6,rfl⟩:=gO hl;rcases x0 with _|v0<;>rcases x5 with _|v5<;>rcases x6 with _|v6
 ·exact fN
 ·exact fN
 ·exact fN
 ·exact fN
 ·exact fN
 ·exact fN
 ·exact fN
 obtain⟨lO,iR,tv,tw,zV,U2,Qa,rfl,rfl,rfl,rfl,rfl,kA,vQ,r7,xU,xV,DB,ahP,JL⟩:=hP;refine wY (i:=1) (xs:=[2]++num x.size) (zs:=x.data.toList) (sp:=Qa) rfl bt rfl rfl rfl rfl (fQ.str underlying9) JL DB z4 ?_;intro fO a8 aR Qc aq;have X3:=Qc;replace X3:=ye X3;refine B 6 ?_;have Dw:(V.text x).enc=[2]++num x.size++x.data.toList:=by simp[V.enc]
 rw[Dw];exact P8 (i:=1) (.inl rfl) results178 rfl rfl A1 XY aq
theorem nEs(l:List V)(ih:∀y∈l,nUj y)(cC:(V.list l).fine)(N:Nat)(base:Option Addr)(cap:Nat)(w:World)(hN:N<=w.heap.size)(kX:xS N w base l)(fF:(V.list l).enc.length<=800000000000):Calls prog 178 #[vL base l.length cap] w (Ck w 5 (V.list l).enc):=by
 simp only[V.fine]at cC;obtain⟨tr,vM,vN⟩:=cC;have JB:=zy (u:=l.length) aa;have hle:=congrArg List.length (show(V.list l).enc=[3]++num l.length++V.encL l by simp[V.enc]);simp only[eU,kb,oe]at hle;refine eN func178 ntmps178 ?_;refine aU 2 ?_;intro b1 w1 aW bJ eO dC fg;refine B 13 ?_;refine pN ?_;refine Ce ?_;refine zIg ?_;intro kZ J DC dK X4;replace J:=yb J;replace DC:=yd DC;refine B 4 ?_;refine JK (ys:=num l.length) call242 rfl rfl rfl (λW hS=>nFe l.length aa W) ?_;intro wX c32 s32 vJ Jy c4 X5;replace vJ:=yb vJ;replace Jy:=yd Jy;refine wY (i:=1) (xs:=[3]) (zs:=num l.length) (sp:=[]) rfl bt rfl rfl rfl rfl (fQ.own (i:=0) underlying50 rfl) X4 (.inr ⟨J.1,J.2.1,trivial⟩) z4 ?_;intro qt bu aR sh Qd;have Bi:=sh;replace Bi:=ye Bi;refine OJ.dropF (i:=0) rfl (.inr ⟨vJ.1,vJ.2.1,trivial⟩) ?_;refine B 10 ?_;refine CJ.lp (α:=List UInt8×Nat×Nat×Nat×List Value) [1] (λp=>[(3,bB p.2.2.1 p.1.length p.2.2.2.1),(4,ab (p.2.1:Int))]) (λp=>[(p.2.2.1,bF 5 p.1 p.2.2.2.2)]) (λp=>p.1++V.encL (l.drop p.2.1)=(V.list l).enc/\p.2.1<=l.length/\Fr Gh.no [w1,w] p.2.2.1/\(w1.heap.size<=p.2.2.1/\w.heap.size<=p.2.2.1)/\cS p.1 p.2.2.2.1 p.2.2.2.2) (λp=>l.length-p.2.1) ([3]++num l.length,0,qt,bu,aR) ⟨by simp[V.enc],cd _,sh,Bi,Qd⟩ ?_
 rintro⟨ys,i,ea,c1,s1⟩ ⟨hinv,hi,hf,hg,hr⟩;dsimp only at hinv hi hf hg hr ⊢;have rN:=congrArg List.length hinv;simp only[eU]at rN;refine av 10 ?_ ?_
 ·intro ai;refine B 4 ?_;obtain⟨bl,cs,te,XP,rfl,kx,hcs,XQ,a1,a2,p3,n3,c3,pM,kT⟩:=kX i aa;have vO:=(bO.1 hcs).1;obtain⟨y,hy⟩:∃y,l[i]'aa=y:=⟨_,rfl⟩;rw[hy]at pM kT;have rO:y∈l:=hy▸NC _;have XW:=congrArg List.length (V.encL_drop l i aa);rw[eU,hy]at XW;refine B 6 ?_;refine zBf ?_;refine JK (ys:=y.enc) call178 rfl rfl rfl (λW hS=>ih y rO N W _ (dS hN (hS.links _ A1).size) (ef.us hS.sm _ _ kT) (V.fineL_mem vN y rO) aa) ?_;intro cy cI dd JM X6 dt c5;replace JM:=yb JM;replace X6:=yd X6;refine wY (i:=1) (xs:=ys) (zs:=y.enc) (sp:=s1) rfl bt rfl rfl rfl rfl (fQ.own (i:=0) underlying50 rfl) hr hf aa ?_;intro bz bx a8 X7 a6;have Qe:=X7;replace Qe:=ye Qe;refine OJ.dropF (i:=0) rfl (.inr ⟨JM.1,JM.2.1,trivial⟩) ?_;refine B 9 ?_;refine ag (ys++y.enc,i+1,bz,bx,a8) ⟨by dsimp only;rw[lP,<-hy,<-V.encL_drop l i aa];exact hinv,by dsimp only;omega,X7,Qe,a6⟩
 intro ai;refine B 12 ?_;have e:i=l.length:=by omega
 subst e;rw[List.drop_of_length_le (aC _)]at hinv;simp only[V.encL,dG]at hinv;rw[<-hinv];exact P8 (i:=0) (.inl rfl) results178 rfl rfl A1 XY hr
theorem JN:∀x,nUj x:=by
 refine V.ind ?_ ?_ ?_
 ·grind [ef,DA,nUj]
 ·grind [ef,nPr,nUj]
 intro l ih N w v hN hv hf hl;obtain⟨base,cap,rfl,hc,J⟩:=hv.list
 grind [nEs]
theorem nOj(l:List V)(cC:(V.list l).fine)(hd:(V.list l).depth<=16)(fF:(V.list l).enc.length<=800000000000)(N:Nat)(base:Option Addr)(lc:Nat)(w:World)(hN:N<=w.heap.size)(kT:ef N w (.list l) (vL base l.length lc)):Calls prog 120 #[vL base l.length lc] w (nFj w 5 (V.list l).enc):=by
 refine eN func120 ntmps120 ?_;refine aU 2 ?_;intro b1 w1 aW bJ eO dC fg;refine B 7 ?_;refine cl call177 rfl (λW hS=>nZr (.list l) _ _ _ _ _ cC hd N W (dS hN (hS.links _ A1).size) (ef.up aa hS.sm _ _ kT)) ?_;refine B 7 ?_;refine Je ?_;refine JK (ys:=(V.list l).enc) call178 rfl rfl rfl (λW hS=>JN (.list l) N W _ (dS hN (hS.links _ A1).size) (ef.up aa hS.sm _ _ kT) cC fF) ?_;intro jk aR a6 J vH a8 Du;replace J:=yb J;replace vH:=yd vH;refine B 5 ?_;exact Dz (i:=0) (.inl rfl) results120 rfl rfl rfl A1 vF Du
def cD (w:World) (b off:Nat) (zs:List UInt8):Prop:=∃cs t fr,w.heap[b]? =some (.cells cs t fr)/\off+zs.length<=cs.size/\∀i,i<zs.length->cs[off+i]? =some (.int .u8 (fU zs i))
variable {zs:List UInt8} {b:Nat}
theorem cD.up{w':World}{off:Nat}(h:cD w b off zs)(hb:w'.heap[b]? =w.heap[b]?):cD w' b off zs:=by
 grind [cD]
theorem cD.lt{off:Nat}(h:cD w b off zs):b<w.heap.size:=by
 grind [cD]
theorem cD.old{W:World}{off:Nat}(h:cD w b off zs)(hS:St G L H W)(hw:w∈L)(J:¬G.X b)(hO:cu H b):cD W b off zs:=by
 obtain⟨cs,t,fr,h1,h2,h3⟩:=h;exact⟨cs,t,fr,hS.old hw h1 J hO,h2,h3⟩
theorem cD.row{W:World}{e:Nat}{sp:List Value}(h:W.heap[b]? =some (bF e zs sp)):cD W b 0 zs:=
 ⟨_,_,_,h,by grind [Bj],λi hi=>X8 _ _ i hi⟩
variable {w1:World}
theorem fQ.seg{J e' off c:Nat}(hU:C.P.underlying J=some (.slice e'))(hm:w1∈L)(h:cD w1 b off zs)(hG:¬G.X b)(hO:cu H b):fQ C G L H J (.slice (some ⟨b,off,none⟩) zs.length c) zs:=by
 obtain⟨cs,t,fr,h1,h2,h3⟩:=h;exact ib.sl hU (Rd.old hm h1 hG hO aa (by grind [Xw,nFq])) (by rw[Bj,Bd]) (nfk _)
def Glb (w:World):Prop:=(∃t fr,w.heap[2]? =some (.cells S8.init.cells t fr))/\(∃t fr,w.heap[3]? =some (.cells (cf 64 (λi=>u32 (kk i))) t fr))
theorem Glb.lt(h:Glb w):4<=w.heap.size:=by
 grind [Glb]
theorem Glb.old{W:World}(h:Glb w)(hS:St G L H W)(hw:w∈L)(J:∀k,k<4->¬G.X k)(hH:Over 4 H):Glb W:=by
 have hs:=hS.same hw h.lt J hH;simp_all[Glb,Gh.X,Over]
def scalL (s:ByteArray) (xs:List UInt8):Int:=zt s xs.length (fU xs)
theorem DD(s:ByteArray)(xs:List UInt8):1<=scalL s xs/\scalL s xs<2305843009213688669:=by
 have J:=Xf 2305843009213688668 zF (pK (tagged s xs.length (fU xs))) 0 zF zF
 grind [scalL,zt]
structure Fx where
 sc:ByteArray->List UInt8->Int
 tg:ByteArray->List UInt8->Nat->Int
 ge:Int->Int->Int×Int
structure FxOk (Z:Fx):Prop where
 sc:∀s xs,scalL s xs=Z.sc s xs
 tg:∀s xs,tagged s xs.length (fU xs)=Z.tg s xs
 ge:∀a k,gExp a k=Z.ge a k
variable {Z:Fx}
section
variable (hZ:FxOk Z)
include hZ
theorem FxOk.bd(s:ByteArray)(xs:List UInt8):1<=Z.sc s xs/\Z.sc s xs<2305843009213688669:=by
 rw[<-hZ.sc];exact DD s xs
theorem FxOk.byt(s:ByteArray)(xs:List UInt8):gY (Z.tg s xs):=by
 rw[<-hZ.tg];exact n8g _ _ _
theorem NH(k:Int)(w:World):Calls prog 45 #[ab k] w (ar w (jZ (Z.ge 4 k))):=by
 rw[<-hZ.ge];exact nQj k w
theorem X9(k:Int)(w:World):Calls prog 85 #[ab k] w (ar w (jZ (Z.ge 4 k))):=by
 rw[<-hZ.ge];exact C7 k w
theorem JO(a:Int)(w:World):Calls prog 29 #[ab a] w (ar w (ab (Z.ge 4 a).1)):=by
 rw[<-hZ.ge];exact nOi a w
theorem NI(s:ByteArray)(hs0:s.size<1000)(xs:List UInt8)(hn:xs.length<900000000000)(b off c:Nat)(hc:xs.length<=c)(w:World)(h:cD w b off xs)(hg:Glb w):Calls prog 90 #[.string s,.slice (some ⟨b,off,none⟩) xs.length c] w (ar w (ab (Z.sc s xs))):=by
 rw[<-hZ.sc];obtain⟨cs,t,fr,h1,h2,h3⟩:=h;obtain⟨⟨t2,J,g1⟩,t3,zp,g2⟩:=hg;exact nEo s xs.length (fU xs) b off c t t2 t3 fr J zp cs hs0 hc aa w h1 h2 h3 g1 g2
theorem Ya(s:ByteArray)(hs0:s.size<1000)(xs:List UInt8)(hn:xs.length<900000000000)(b off c:Nat)(w:World)(h:cD w b off xs):Calls prog 129 #[.string s,.slice (some ⟨b,off,none⟩) xs.length c] w (ar w (ab (Z.sc s xs))):=by
 rw[<-hZ.sc];obtain⟨cs,t,fr,h1,h2,h3⟩:=h;exact n3q s xs.length (fU xs) b off c t fr cs hs0 hn w h1 h2 h3
end
def b8 (n:Int) (i:Nat):UInt8:=UInt8.ofNat ((n%18446744073709551616).toNat/2^(56-8*i)%256)
def si (n:Int):List UInt8:=(List.range 8).map (b8 n)
theorem Qf(n:Int):(si n).length=8:=by rfl
theorem n4i(n:Int)(i:Nat)(h:i<8):(si n).take (i+1)=(si n).take i++[b8 n i]:=by
 grind [si,List.take_succ_eq_append_getElem]
theorem NJ(n k:Int)(i:Nat)(hi:i<8)(hk:k=56-8*(i:Int)):(n%18446744073709551616).fdiv (2^(min (Int.toNat k) IntKind.u64.bits))%256=((b8 n i).toNat:Int):=by
 (intros;grind [min,Int.toNat,IntKind.bits,b8,UInt8.toNat_ofNat'])
def Ab (ns:List Int):List UInt8:=ns.flatMap si
theorem nWl(ns:List Int):(Ab ns).length=8*ns.length:=by induction ns<;>grind [Ab,Qf]
theorem nwr(ns:List Int)(j:Nat)(h:j<ns.length):Ab (ns.take (j+1))=Ab (ns.take j)++si ns[j]:=by
 grind [List.take_succ_eq_append_getElem,Ab]
def roV (ro:Option (Nat×Nat×List Value)) (ys:List UInt8):Value:=match ro with|none=>bS|some (b,c,_)=>bB b ys.length c
def roH (e:Nat) (ro:Option (Nat×Nat×List Value)) (ys:List UInt8):ae:=match ro with|none=>[]|some (b,_,sp)=>[(b,bF e ys sp)]
def Yb (G:Gh) (L:List World) (ro:Option (Nat×Nat×List Value)) (ys:List UInt8):Prop:=match ro with|none=>ys=[]|some (b,c,sp)=>cS ys c sp/\Fr G L b
theorem nTl(hZ:FxOk Z)(s:ByteArray)(hs0:s.size<1000)(msg:List UInt8)(bm om cm:Nat)(pO:msg.length<=100000000000)(ns:List Int)(bn cn tn:Nat)(NK:Nat×Nat)(et:0<ns.length)(xG:ns.length<=1000)(w:World)(jm:cD w bm om msg)(pj:w.heap[bn]? =some (.cells (ns.map ab).toArray tn NK))(hg:Glb w):Calls prog 44 #[.string s,.slice (some ⟨bm,om,none⟩) msg.length cm,.slice (aH bn) ns.length cn] w (ar w (ab (Z.sc s (Ab ns++msg)))):=by
 have c6:=(bO.1 pj).1;have JP:=jm.lt;have gP:=hg.lt;refine cH 19 func44 ntmps44 ?_;refine CJ.loop (α:=List UInt8×Nat×Option (Nat×Nat×List Value)) (λp=>[(0,.string s),(1,.slice (some ⟨bm,om,none⟩) msg.length cm),(7,roV p.2.2 p.1),(11,.slice (aH bn) ns.length cn),(12,ab (ns.length:Int)),(13,ab (p.2.1:Int))]) (λp=>roH 5 p.2.2 p.1) (λp=>[w]) (λp=>Gh.no) (λp=>p.1=Ab (ns.take p.2.1)/\p.2.1<=ns.length/\Yb Gh.no [w] p.2.2 p.1) (λp=>ns.length-p.2.1) ([],0,none) ⟨rfl,cd _,rfl⟩ zR rfl rfl zP ?_;rintro⟨J,j,a6⟩ ⟨xW,hj,DE⟩;dsimp only at xW hj DE ⊢;refine av 6 ?_ ?_
 ·intro ai;refine B 7 ?_;obtain⟨n,hn⟩:∃n,ns[j]'aa=n:=⟨_,rfl⟩;refine rx (ad (v:=ab n) isAgg3 rfl A0 pj zL (by cases a6 with|none=>trivial|some p=>obtain⟨b1,c1,s1⟩:=p;obtain⟨hr,hf⟩:=DE;simp only[Fr,Gh.no,ah,and_true,false_or]at hf;exact⟨by dsimp only;omega,trivial⟩) (by simp only[Qg,alt];rw[kC aa];simp[<-hn])) ?_;refine B 9 ?_;have dd:J.length<=8000:=by rw[xW,nWl,oK];omega
  refine CJ.loop (α:=List UInt8×Nat×Option (Nat×Nat×List Value)) (λp=>[(0,.string s),(1,.slice (some ⟨bm,om,none⟩) msg.length cm),(7,roV p.2.2 p.1),(9,ab n),(10,ab (56-8*(p.2.1:Int))),(11,.slice (aH bn) ns.length cn),(12,ab (ns.length:Int)),(13,ab (j:Int))]) (λp=>roH 5 p.2.2 p.1) (λp=>[w]) (λp=>Gh.no) (λp=>p.1=J++(si n).take p.2.1/\p.2.1<=8/\Yb Gh.no [w] p.2.2 p.1) (λp=>8-p.2.1) (J,0,a6) ⟨by simp,by dsimp only;omega,DE⟩ zR rfl rfl zP ?_;rintro⟨ys,i,ro⟩ ⟨Cn,hi,U3⟩;dsimp only at Cn hi U3 ⊢;have Qh:ys.length<=8008:=by rw[Cn,eU,oK,Qf];omega
  refine av 7 ?_ ?_
  ·intro ax;refine B 7 ?_;refine zQf ?_;refine B 1 ?_;refine Xp ?_;refine rq (.int .u8 ((b8 n i).toNat:Int)) (iQ underlying161 underlying5 rfl) (congrArg (Value.int .u8) (NJ n _ i aa rfl)) ?_;refine Dp [b8 n i] bt zeroValue5 rfl rfl rfl rfl rfl rfl rfl rfl rfl ?_;intro kZ ux DC eu X4;replace ux:=yb ux;replace DC:=yd DC;rcases ro with _|⟨b1,c1,s1⟩
   ·have e0:ys=[]:=U3;subst e0;refine apN (zs:=[b8 n i]) bt rfl rfl rfl rfl (fQ.own (i:=0) underlying50 rfl) zP zP ?_;intro aq aR aD Qi Yc ea Qj;replace Qi:=yb Qi;replace Yc:=yd Yc;have JQ:Fr Gh.no [w] aq:=.inr ⟨Qi.1,trivial⟩;refine OJ.dropF (i:=1) rfl (.inr ⟨ux.1,trivial⟩) ?_;refine B 9 ?_;refine PJ.again ([b8 n i],i+1,some (aq,aR,aD)) ⟨zYBW,by dsimp only;omega,Qj,JQ⟩ zZ ⟨rfl,rfl,rfl,rfl,congrArg some (congrArg ab zZ),rfl,rfl,rfl,trivial⟩ rfl rfl zP
   obtain⟨hr,hf⟩:=U3;refine zFg ?_;intro aq aR aD JQ Qj;have Yd:=JQ;replace Yd:=ye Yd;refine OJ.dropF (i:=0) rfl (.inr ⟨ux.1,trivial⟩) ?_;refine B 9 ?_;refine PJ.again (ys++[b8 n i],i+1,some (aq,aR,aD)) ⟨zYBW,by dsimp only;omega,Qj,JQ⟩ zZ ⟨rfl,rfl,rfl,rfl,congrArg some (congrArg ab zZ),rfl,rfl,rfl,trivial⟩ rfl rfl zP
  intro ax;refine B 10 ?_;refine ag (ys,j+1,ro) ⟨by dsimp only;rw[nwr ns j aa,hn,Cn,show i=8 by omega,xW];first|done|rfl,by dsimp only;omega,U3⟩
 intro ai;refine B 6 ?_;have ej:j=ns.length:=by omega
 subst ej;rw[lE (aC _)]at xW;have Qh:=nWl ns;rcases a6 with _|⟨b1,c1,s1⟩
 ·exact absurd (show J=[]from DE) (by intro e;rw[e]at xW;rw[<-xW]at Qh;simp at Qh;omega)
 obtain⟨hr,hf⟩:=DE;subst xW;have b0:=hf;simp only[Fr,Gh.no,ah,and_true,false_or]at b0;refine CJ.reH (H':=[(b1,bF 5 (Ab ns) s1)]) rfl ?_;refine B 4 ?_;refine wY (i:=0) (xs:=Ab ns) (zs:=msg) (sp:=s1) rfl bt rfl rfl rfl rfl (fQ.seg underlying50 A0 jm zL zD) hr hf (by rw[Qh];omega) ?_;intro qt cq dK sh Qd;have Bi:=sh;replace Bi:=ye Bi;refine cl call90 rfl (λW hS=>NI hZ s hs0 (Ab ns++msg) (by rw[eU,Qh];omega) qt 0 cq Qd.le W (cD.row (hS.own _ A0)) (hg.old hS A0 zO zJ)) ?_;refine B 4 ?_;refine aS (.inl rfl) results44 aL A0 zH ?_;rfl
def It (Z:Fx) (x:Int) (msg:List UInt8):Int:=Z.sc (⟨#[110,111,110,99,101]⟩:ByteArray) (Ab [x]++msg)
def Bk (Z:Fx) (r p:Int) (msg:List UInt8):Int:=Z.sc (⟨#[115,105,103,110]⟩:ByteArray) (Ab [r,p]++msg)
def oL (Z:Fx) (x:Int) (msg:List UInt8):Int:=(Z.ge 4 (It Z x msg)).1
def sj (Z:Fx) (x:Int) (msg:List UInt8):Int:=(um (It Z x msg) (mz (Bk Z (oL Z x msg) (Z.ge 4 x).1 msg) x).1).1
def vR (Z:Fx) (x:Int) (msg:List UInt8):Value:=if lJ x then .tuple #[.agg #[ab (oL Z x msg),ab (sj Z x msg)],ab 0]else .tuple #[.agg #[ab 0,ab 0],ab 50]
theorem nNp(a b:Int):pf (mz a b).1:=by grind [mz]
theorem DF(hZ:FxOk Z)(x:Int)(msg:List UInt8):pf (It Z x msg):=by have:=hZ.bd (⟨#[110,111,110,99,101]⟩:ByteArray) (Ab [x]++msg);grind [It]
theorem DG(hZ:FxOk Z)(x:Int)(msg:List UInt8):(um (It Z x msg) (mz (Bk Z (oL Z x msg) (Z.ge 4 x).1 msg) x).1).2=0:=by
 grind [um,DF,nNp]
theorem JR(hZ:FxOk Z)(x k e:Int)(msg:List UInt8)(J:lJ x)(hk:It Z x msg=k)(he:Bk Z (Z.ge 4 k).1 (Z.ge 4 x).1 msg=e):Value.tuple #[.agg #[ab (Z.ge 4 k).1,ab (um k (mz e x).1).1],ab (um k (mz e x).1).2]=vR Z x msg:=by grind [DG,vR,oL,sj]
theorem JS(Z:Fx)(x:Int)(msg:List UInt8)(J:¬lJ x):Value.tuple #[.agg #[ab 0,ab 0],ab 50]=vR Z x msg:=by
 grind [vR]
theorem nVq(hZ:FxOk Z)(x k:Int)(msg:List UInt8)(hk:It Z x msg=k)(pO:msg.length<=100000000000)(bm J cm bn cn tn:Nat)(NK:Nat×Nat)(w:World)(jm:cD w bm J msg)(pj:w.heap[bn]? =some (.cells #[ab x] tn NK))(hg:Glb w):Calls prog 44 #[.string (⟨#[110,111,110,99,101]⟩:ByteArray),.slice (some ⟨bm,J,none⟩) msg.length cm,.slice (aH bn) 1 cn] w (ar w (ab k)):=by
 subst hk;exact nTl hZ (⟨#[110,111,110,99,101]⟩:ByteArray) zF msg bm J cm pO [x] bn cn tn NK zP zP w jm pj hg
theorem nrk(hZ:FxOk Z)(r p e:Int)(msg:List UInt8)(he:Bk Z r p msg=e)(pO:msg.length<=100000000000)(bm J cm bn cn tn:Nat)(NK:Nat×Nat)(w:World)(jm:cD w bm J msg)(pj:w.heap[bn]? =some (.cells #[ab r,ab p] tn NK))(hg:Glb w):Calls prog 44 #[.string (⟨#[115,105,103,110]⟩:ByteArray),.slice (some ⟨bm,J,none⟩) msg.length cm,.slice (aH bn) 2 cn] w (ar w (ab e)):=by
 subst he;exact nTl hZ (⟨#[115,105,103,110]⟩:ByteArray) zF msg bm J cm pO [r,p] bn cn tn NK zP zP w jm pj hg
theorem nHr(hZ:FxOk Z)(x:Int)(msg:List UInt8)(bm om cm:Nat)(pO:msg.length<=100000000000)(w:World)(jm:cD w bm om msg)(hg:Glb w):Calls prog 21 #[ab x,.slice (some ⟨bm,om,none⟩) msg.length cm] w (ar w (vR Z x msg)):=by
 have JP:=jm.lt;have gP:=hg.lt;obtain⟨k,hk⟩:∃k,It Z x msg=k:=⟨_,rfl⟩;obtain⟨e,he⟩:∃e,Bk Z (Z.ge 4 k).1 (Z.ge 4 x).1 msg=e:=⟨_,rfl⟩;refine eN func21 ntmps21 ?_;refine bD 3 ?_;intro b4 dL dP;refine B 12 ?_;refine Xt ?_;refine B 1 ?_;refine Xt ?_;refine B 8 ?_;refine Ye (first:=[ab x]) (cap:=[]) rfl call28 rfl rfl rfl (λW hS=>nvj x W) ?_;refine av 3 ?_ ?_
 ·intro ai;refine B 9 ?_;refine aS (.inl rfl) results21 aL A0 zH ?_;exact JS Z x msg ew
 intro ai;refine B 6 ?_;refine Jp ?_;refine yV ?_;intro zV aD Qk Ql b0 Qm Qo;refine cl call44 rfl (λW hS=>nVq hZ x k msg hk pO bm om cm zV _ _ _ W (jm.old hS A1 zL zD) (hS.old A0 Qk Ql zD) (hg.old hS A1 zO zJ)) ?_;refine B 6 ?_;refine cl call45 rfl (λW hS=>NH hZ _ W) ?_;refine B 4 ?_;refine zzf ?_;refine B 3 ?_;refine nE (E':=[(0,_),(1,_),(4,_),(5,_),(6,_),(7,_),(8,_),(9,_),(12,_),(13,_),(14,_),(15,_),(16,_),(17,_),(18,_),(19,_),(21,_),(22,_),(23,_),(24,_),(25,_),(26,_),(27,_),(28,_),(30,_)]) zR ?_;refine CJ.chn 13 [5] [_,_,some (ab (Z.ge 4 k).1),_,_,none,some (ab e),_,_,_,_,_,_] (λcv L' H'=>let dA:ae:=[(b4,oC #[ab (Z.ge 4 k).1,ab 0] 36)];match cv with| []=>L'=[aD,w]/\H'=dA| [v1]=>∃(J:Nat) (NL:World),v1= .slice (aH J) 2 2/\L'=[NL,aD,w]/\H'=dA/\NL.heap[J]? =some (oC #[ab (Z.ge 4 k).1,ab (Z.ge 4 x).1] 3)/\(aD.heap.size<=J/\w.heap.size<=J)/\b4≠J/\¬Gh.no.X J/\NL.heap.size=J+1|_=>False) (pc zX (pc JT (pc (λcv L' H' hd hP=>match cv,hd,hP with| [],hd,hP=>(by obtain⟨rfl,rfl⟩:=hP;exact X.v (aX (i:=0) rfl isAgg3 rfl rfl))| [v1],hd,hP=>(by obtain⟨J,NL,rfl,rfl,rfl,DH,DI,JU,DK,JV⟩:=hP;exact X.v (aX (i:=0) rfl isAgg3 rfl rfl))|_::_::_,_,hP=>hP.elim) (pc zX (pc (by exact λcv L' H' hd hP=>nUp (first:=[ab x]) (cap:=[]) rfl call29 rfl rfl (λW hS _=>JO hZ x W) (λ_=>rfl)) (pk (pc (λcv L' H' hd hP=>match cv,hd,hP with| [],hd,hP=>(absurd (show false=true from hd) zF)| [v1],hd,hP=>(by obtain⟨J,NL,rfl,rfl,rfl,DH,DI,JU,DK,JV⟩:=hP;exact X.cv call44 rfl (λW hS _=>nrk hZ _ _ e msg he pO bm om cm J _ _ _ W (jm.old hS A2 zL (zYBg)) (hS.old A0 DH DK (zYBg)) (hg.old hS A2 zO zJ)))|_::_::_,_,hP=>hP.elim) (pc zX (pc (by exact λcv L' H' hd hP=>X.cv call46 rfl (λW hS _=>nVl _ _ W)) (pc zX (pc (by exact λcv L' H' hd hP=>X.v (gr rfl rfl)) (pc (by exact λcv L' H' hd hP=>X.v (gr rfl rfl)) (pc (by exact λcv L' H' hd hP=>X.v (po rfl)) (pn)))))))))))))) ?_ ?_
 ·refine ss rfl ?_ ?_
  ·intro cv L' H' hl hP F Q' hk;obtain rfl:=oJ hl;obtain⟨rfl,rfl⟩:=hP;refine Jp ?_;intro J NL DH DI JU DK JV;exact OJ.done (hk _ _ _ ⟨J,NL,rfl,rfl,rfl,DH,⟨DI.1,DI.2.1⟩,JU.1,DK,JV⟩)
  exact nn
 intro cv L' H' hl hP;obtain⟨v1,rfl⟩:=gh hl;obtain⟨J,NL,rfl,rfl,rfl,DH,DI,JU,DK,JV⟩:=hP;refine B 7 ?_;refine cl call47 rfl (λW hS=>nNr _ _ W) ?_;refine B 4 ?_;refine zzf ?_;refine B 12 ?_;refine aS (.inl rfl) results21 aL A2 zH ?_;exact JR hZ x k e msg ew hk he
theorem nPl(n:Int)(w:World):Calls prog 130 #[ab n] w (Ck w 5 (si n)):=by
 refine cH 7 func130 ntmps130 ?_;refine Dp [] bt zeroValue5 rfl rfl rfl rfl rfl rfl rfl rfl rfl ?_;intro b5 fK gf bg aq;replace fK:=yb fK;replace gf:=yd gf;refine B 10 ?_;refine CJ.loop (α:=List UInt8×Nat×Nat×Nat×List Value) (λp=>[(0,ab n),(3,bB p.2.2.1 p.1.length p.2.2.2.1),(4,ab (7-(p.2.1:Int)))]) (λp=>[(p.2.2.1,bF 5 p.1 p.2.2.2.2)]) (λp=>[w]) (λp=>Gh.no) (λp=>p.1=(si n).take p.2.1/\p.2.1<=8/\Fr Gh.no [w] p.2.2.1/\(w.heap.size<=p.2.2.1)/\cS p.1 p.2.2.2.1 p.2.2.2.2) (λp=>8-p.2.1) ([],0,b5,0,[]) ⟨by simp,by dsimp only;omega,.inr ⟨fK.1,trivial⟩,fK.1,aq⟩ zR rfl rfl zP ?_;rintro⟨ys,i,b1,c1,s1⟩ ⟨Cn,hi,hf,hg,hr⟩;dsimp only at Cn hi hf hg hr ⊢;have Qh:ys.length<=8:=by rw[Cn,oK,Qf];omega
 refine av 7 ?_ ?_
 ·intro ai;refine B 7 ?_;refine zQf ?_;refine B 2 ?_;refine Xp ?_;refine rq (.int .u8 ((b8 n i).toNat:Int)) (iQ underlying161 underlying5 rfl) (congrArg (Value.int .u8) (NJ n _ i aa aa)) ?_;refine Dp [b8 n i] bt zeroValue5 rfl rfl rfl rfl rfl rfl rfl rfl rfl ?_;intro lO kA Qp bu bx;replace kA:=yb kA;replace Qp:=yd Qp;refine zFg ?_;intro UT aR J JW JF;have Qq:=JW;replace Qq:=ye Qq;refine OJ.dropF (i:=0) rfl (.inr ⟨kA.1,trivial⟩) ?_;refine B 9 ?_;refine PJ.again (ys++[b8 n i],i+1,UT,aR,J) ⟨by dsimp only;rw[n4i n i aa,<-Cn],by dsimp only;omega,JW,Qq,JF⟩ zZ ⟨rfl,rfl,congrArg some (congrArg ab zZ),trivial⟩ rfl rfl zP
 intro ai;refine B 12 ?_;have e:i=8:=by omega
 subst e;rw[show si n=(si n).take 8 from(lE (by rw[Qf];exact aC _)).symm,<-Cn];exact P8 (i:=0) (.inl rfl) results130 rfl rfl A0 vF hr
theorem Qr(r p:Int):Ab [r,p]=si r++si p:=by rfl
theorem nqm(hZ:FxOk Z)(p r:Int)(msg:List UInt8)(bm om cm:Nat)(pO:msg.length<=100000000000)(w:World)(jm:cD w bm om msg):Calls prog 87 #[ab p,ab r,.slice (some ⟨bm,om,none⟩) msg.length cm] w (ar w (ab (Bk Z r p msg))):=by
 have JP:=jm.lt;refine cH 8 func87 ntmps87 ?_;refine JK (ys:=si r) call130 rfl rfl rfl (λW hS=>nPl r W) ?_;intro b8 c8 s8 lI r4 cz J;replace lI:=yb lI;replace r4:=yd r4;refine B 1 ?_;refine JK (ys:=si p) call130 rfl rfl rfl (λW hS=>nPl p W) ?_;intro iK zC Cj gC iS JX sf;replace gC:=yb gC;replace iS:=yd iS;refine wY (i:=1) (xs:=si r) (zs:=si p) (sp:=s8) rfl bt rfl rfl rfl rfl (fQ.own (i:=0) underlying50 rfl) J (.inr ⟨lI.1,trivial⟩) (by simp only[Qf];omega) ?_;intro jk cq aR sd Du;have Dv:=sd;replace Dv:=ye Dv;refine B 1 ?_;refine wY (i:=1) (xs:=si r++si p) (zs:=msg) (sp:=aR) rfl bt rfl rfl rfl rfl (fQ.seg underlying50 A0 jm zL zD) Du sd (by simp only[eU,Qf];omega) ?_;intro jO aD cy qN XL;have Yf:=qN;replace Yf:=ye Yf;refine cl call129 rfl (λW hS=>Ya hZ (⟨#[115,105,103,110]⟩:ByteArray) zF (si r++si p++msg) (by simp only[eU,Qf];omega) jO 0 aD W (cD.row (hS.own _ A1))) ?_;refine B 4 ?_;refine aS (.inl rfl) results87 aL A0 zH ?_;unfold Bk;rw[Qr];rfl
theorem njl(hZ:FxOk Z)(p r e:Int)(msg:List UInt8)(he:Bk Z r p msg=e)(bm J cm:Nat)(pO:msg.length<=100000000000)(w:World)(jm:cD w bm J msg):Calls prog 87 #[ab p,ab r,.slice (some ⟨bm,J,none⟩) msg.length cm] w (ar w (ab e)):=by
 grind [nqm]
theorem JY(hZ:FxOk Z)(x:Int):C9 x=if lJ x then((Z.ge 4 x).1,0)else(0,50):=by
 unfold C9;split
 ·rename_i h;rw[<-hZ.ge,Da h]
 rfl
theorem DL{P:Program}{T:Nat}{ms:Array (String×TypeId)}(hU:P.underlying T=some (.interface ms))(d:Nat)(W:World):(Op.equalIn (d+1) T .nilIface .nilIface).run P W= .ok true W:=by
 exact Yg
theorem JZ{T U:Nat}{ms:Array (String×TypeId)}(hU:C.P.underlying T=some (.interface ms))(hx:ev E x=some .nilIface):RV C G L H E (.binOp .eql T x (.const .nilIface) U) (aK):=λd ty pos J g a W hF _=>by
 have h0:a.eval (.const .nilIface)= .nilIface:=rfl;have h1:(eqGuard .eql T x (.const .nilIface) .nilIface .nilIface).run C.P W= .ok () W:=by simp[eqGuard]
 have h2:(binOp .eql T .nilIface .nilIface).run C.P W= .ok (aK) W:=by
  have e:binOp .eql T .nilIface .nilIface=(do pure (.bool (<-Op.equalIn (9999+1) T .nilIface .nilIface))):=rfl;rw[e,Sem.run_bind,DL hU];rfl
 simp only[execOp,hF.ev hx,h0,Sem.run_bind,h1,h2,Result.andThen];rfl
theorem ntk(a:Int)(w:World):Calls prog 61 #[ab a] w (ar w (.bool (decide (lJ a)))):=by
 refine cH 10 func61 ntmps61 ?_;refine nf (t:=5) rfl (λai=>?_) (λai=>?_)
 ·replace ai:=ya ai;refine B 7 ?_;refine ao results61 rfl A0 ?_;refine vb (wW.2 ?_)
  (try simp only[decide_eq_true_eq,Bool.false_eq_true,false_iff,true_iff])
  exact Nw
 replace ai:=ya ai;refine B 7 ?_;refine ao results61 rfl A0 ?_;refine vb (wW.2 ?_)
 (try simp only[decide_eq_true_eq,Bool.false_eq_true,false_iff,true_iff])
 exact Nw
theorem nIe(a:Int)(h:lJ a)(w:World):Calls prog 61 #[ab a] w (ar w (aK)):=by
 have:=ntk a w
 grind
theorem nQn(b:Nat)(w:World):Calls prog 59 #[.nilIface,ptr b 0] w (ar w (.tuple #[])):=by
 refine cH 8 func59 ntmps59 ?_;refine rx (JZ underlying20 rfl) ?_;refine B 7 ?_;refine aS (.inr rfl) results59 aL A0 trivial ?_;rfl
theorem n5m(e:Int)(w:World):Calls prog 60 #[aK,ab e] w (ar w (.tuple #[])):=by
 refine cH 8 func60 ntmps60 ?_;refine aS (.inr rfl) results60 aL A0 trivial ?_;rfl
theorem nNj(n e:Int)(he:e=0)(w:World):Calls prog 63 #[ab n,ab e] w (ar w (ab n)):=by
 refine cH 9 func63 ntmps63 ?_;refine rq aO (aN rfl rfl) (vb (by simp[he])) ?_;refine B 12 ?_;refine ao results63 rfl A0 ?_;rfl
theorem nLm(b:Nat)(w:World):CallsDIn (FW none) 0 prog 65 #[ptr b 0] .returning w (λe u' w'=>u'= .returning/\(∃v,e= .returned v)/\Below w.heap.size w w'):=by
 refine(J0 (vs:=[ptr b 0]) (R:=ar w (.tuple #[])) .returning .returning .nilIface nzm func65 rfl ntmps65 rfl rfl (AX w) ?_).mono ?_
 ·refine cl call59 rfl (λW hS=>nQn b W) ?_;refine B 1 ?_;exact aS (.inr rfl) results65 aL A0 trivial rfl
 rintro e u' w' ⟨rfl,rfl,hb⟩;exact⟨rfl,⟨_,rfl⟩,hb⟩
theorem n5n(a b:Int)(ha:lJ a)(hb:lJ b)(w:World):Calls prog 25 #[ab a,ab b] w (ar w (.tuple #[ab (mz b (rZ a).1).1,ab 0])):=by
 have J:(rZ a).2=0/\pf (rZ a).1:=by
  unfold rZ;have h1:pf a:=⟨zYBi,zYBi⟩;rw[if_pos h1,if_neg (zYBi)];exact⟨rfl,PK _ _ _ zF⟩
 have UN:(mz b (rZ a).1).2=0:=by
  unfold mz;rw[if_pos ⟨⟨by unfold lJ at hb;omega,by unfold lJ at hb;omega⟩,J.2⟩]
 refine Qs (vs:=[_,_]) Gh.no [] func25 rfl ntmps25 rfl (AX w) ?_;refine bD 4 ?_;intro b5 fK gf;refine B 5 ?_;refine OJ.defer (cap:=[ptr b5 0]) rfl rfl ?_;refine B 5 ?_;refine cl call61 rfl (λW hS=>nIe a ha W) ?_;refine B 2 ?_;refine cl call61 rfl (λW hS=>nIe b hb W) ?_;refine B 1 ?_;refine cl call60 rfl (λW hS=>n5m _ W) ?_;refine B 6 ?_;refine cl call66 rfl (λW hS=>nvs _ W) ?_;refine B 2 ?_;refine cl call63 rfl (λW hS=>nNj _ _ J.1 W) ?_;refine cl call46 rfl (λW hS=>nVl _ _ W) ?_;refine B 2 ?_;refine cl call63 rfl (λW hS=>nNj _ _ UN W) ?_;refine B 5 ?_;refine ahY (.inl rfl) call65 (λW hS=>nLm b5 W) results25 aL (λW hS=>⟨rfl,hS.base A0 uy⟩)
def dy (f:Nat->Int):List UInt8:=(List.range 32).map λi=>UInt8.ofNat (f i).toNat
theorem nM(f:Nat->Int):(dy f).length=32:=by rfl
theorem U4(f:Nat->Int)(hf:gY f)(i:Nat)(h:i<32):fU (dy f) i=f i:=by
 grind [fU,dy,UInt8.toNat_ofNat']
variable {fr:Nat×Nat} {f:Nat->Int}
theorem cD.dg{t:Nat}(h:w.heap[b]? =some (.cells (dg f) t fr))(hf:gY f):cD w b 0 (dy f):=
 ⟨_,_,_,h,by exact aC 32,λi hi=>by grind [nM,jN,U4]⟩
section
variable (hZ:FxOk Z)(s:ByteArray)(hs0:s.size<1000)(xs:List UInt8)(hn:xs.length<900000000000)(b off c:Nat)
include hZ s hs0 xs hn off c
theorem nYk(hc:xs.length<=c)(w:World)(h:cD w b off xs)(hg:Glb w):Calls prog 94 #[.string s,.slice (some ⟨b,off,none⟩) xs.length c] w (ar w (.agg (Px.dg (Z.tg s xs)))):=by
 rw[<-hZ.tg];obtain⟨cs,t,fr,h1,h2,h3⟩:=h;obtain⟨⟨t2,J,g1⟩,t3,zp,g2⟩:=hg
 grind [nyh]
theorem nIq(w:World)(h:cD w b off xs):Calls prog 122 #[.string s,.slice (some ⟨b,off,none⟩) xs.length c] w (ar w (.agg (Px.dg (Z.tg s xs)))):=by
 rw[<-hZ.tg];obtain⟨cs,t,fr,h1,h2,h3⟩:=h
 grind [nJk]
end
def dx (s:Value) (r:Int):Array Value:=#[s,ab 0,.int .i8 r]
def vj (n:Nat):List Value:=List.replicate n (Cg)
theorem J1(J:Nat)(lr:Int)(t:Nat)(fr:Nat×Nat)(w:World)(mo:w.heap[J]? =some (.cells (dx (bS) lr) t fr)):Calls prog 264 #[ptr J 0] w (ar w (ab 0)):=by
 have qo:¬Gh.no.X J:=λh=>h;refine cH 6 func264 ntmps264 ?_;refine eA 9 (k:=?_);refine B 5 ?_;refine ao results264 rfl A0 ?_;rfl
theorem nVi(J:Nat)(lr:Int)(t:Nat)(fr:Nat×Nat)(n:Nat)(hn:0<n)(w:World)(mo:w.heap[J]? =some (.cells (dx (bS) lr) t fr)):Calls prog 213 #[ptr J 0,ab (n:Int)] w (ar w (.tuple #[ab 0,aO])):=by
 have qo:¬Gh.no.X J:=λh=>h;refine cH 27 func213 ntmps213 ?_;refine Yh ?_;refine nK results213 rfl rfl A0 ?_ ?_;all_goals rfl
theorem nbp(J bR m c n:Nat)(lr:Int)(t:Nat)(hc:m+n<=c)(ax:c<=1000000)(w:World)(hb:w.heap[J]? =some (oC (dx (bB bR m c) lr) t)):Calls prog 213 #[ptr J 0,ab (n:Int)] w (vS w [J] (λ_:Unit=>.tuple #[ab (m:Int),aK]) (λ_=>[(J,oC (dx (bB bR (m+n) c) lr) t)]) (λ_=>True)):=by
 have kx:=(bO.1 hb).1;refine nP (vs:=[_,_]) (Gh.lent (λk=>k∈keys [(J,oC (dx (bB bR m c) lr) t)])) [(J,oC (dx (bB bR m c) lr) t)] func213 rfl ntmps213 rfl (Yi (jC.mem ⟨hb,trivial⟩) (Yj _)) ?_;refine B 27 ?_;refine DM ?_;refine bX (ab ((m+n:Nat):Int)) ?_;refine rx (gZ (h:=m+n) underlying50 sizeOf5 rfl ⟨_,_,rfl,rfl⟩ aa) ?_;refine B 2 ?_;refine lG (i:=0) rfl sizeOf50 rfl rfl rfl rfl (fy rfl) rfl ?_;refine B 11 ?_;exact DN (Hz:=[(J,oC (dx (bB bR m c) lr) t)]) (H0:=[]) () (.inl rfl) results213 aL A0 Yk rfl Yl
theorem mkz(c:Nat):cf c (λ_=>Cg)=(ub ([]:List UInt8)++vj c).toArray:=by
 grind [cf,ub,vj]
theorem DO(c n:Nat):(vj c).drop n=vj (c-n):=by simp[vj]
theorem nol(n:Nat):(vj n).length=n:=by simp[vj]
theorem nbo(xs zs:List UInt8)(sp:List Value)(h:zs.length<=sp.length):setCells (ub xs++sp).toArray xs.length (ub zs)=(ub (xs++zs)++sp.drop zs.length).toArray:=by
 apply Array.ext';rw[U5];have hs:sp=sp.take zs.length++sp.drop zs.length:=(J2 _ _).symm
 grind [Bj,nEf,DP]
theorem DQ(J n:Nat)(lr:Int)(t:Nat)(aR:0<n)(hn:n<=64)(w:World)(hb:w.heap[J]? =some (oC (dx (bS) lr) t)):Calls prog 214 #[ptr J 0,ab (n:Int)] w (vS w [J] (λ_:Nat=>ab 0) (λbR=>[(J,oC (dx (bB bR n 64) lr) t),(bR,oC (cf 64 (λ_=>Cg)) 5)]) (λ_=>True)):=by
 have kx:=(bO.1 hb).1;refine nP (vs:=[_,_]) (Gh.lent (λk=>k∈keys [(J,oC (dx (bS) lr) t)])) [(J,oC (dx (bS) lr) t)] func214 rfl ntmps214 rfl (Yi (jC.mem ⟨hb,trivial⟩) (Yj _)) ?_;refine B 8 ?_;refine cl call264 rfl (λW hS=>J1 J lr _ _ W (hS.own _ A0)) ?_;refine B 7 ?_;refine NF ?_;refine U1 ?_;refine cl call213 rfl (λW hS=>nVi J lr _ _ n aR W (hS.own _ A0)) ?_;refine B 22 ?_;refine rx (Qt underlying50 rfl rfl) ?_;refine aV 2 aK ?_;refine B 8 ?_;refine Xu (ln:=n) (cp:=64) underlying50 Dd rfl rfl rfl rfl rfl rfl rfl aa zF aa ?_;intro a6 Ym aD;replace Ym:=yb Ym;try simp only[cu,ne_eq,and_true]at aD
 refine B 2 ?_;refine lG (i:=1) rfl sizeOf50 rfl rfl rfl rfl (fy rfl) rfl ?_;refine B 9 ?_;refine nHo ?_;exact DN (Hz:=[(J,oC (dx (bS) lr) t)]) (H0:=[]) a6 (.inl rfl) results214 aL A0 Yk rfl Yl
theorem Rd.seg{off c:Nat}(hm:w1∈L)(h:cD w1 b off zs)(hG:¬G.X b)(hO:cu H b):Rd C G L H 1 zs.length (.slice (some ⟨b,off,none⟩) zs.length c) (ub zs):=by
 obtain⟨cs,t,fr,h1,h2,h3⟩:=h
 grind [Rd.old,Xw,nFq]
theorem Yn(zs:List UInt8):rK (ub zs)=true:=by induction zs<;>grind [ub,rK,Bm]
theorem nJm(J:Nat)(lr:Int)(t:Nat)(zs:List UInt8)(bz oz cz:Nat)(hz0:0<zs.length)(eO:zs.length<=64)(w:World)(hb:w.heap[J]? =some (oC (dx (bS) lr) t))(DR:cD w bz oz zs)(kq:bz≠J):Calls prog 150 #[ptr J 0,.slice (some ⟨bz,oz,none⟩) zs.length cz] w (vS w [J] (λ_:Nat=>.tuple #[ab (zs.length:Int),.nilIface]) (λbR=>[(J,oC (dx (bB bR zs.length 64) 0) t),(bR,bF 5 zs (vj (64-zs.length)))]) (λ_=>True)):=by
 have kx:=(bO.1 hb).1;have aA:=DR.lt;refine nP (vs:=[_,_]) (Gh.lent (λk=>k∈keys [(J,oC (dx (bS) lr) t)])) [(J,oC (dx (bS) lr) t)] func150 rfl ntmps150 rfl (Yi (jC.mem ⟨hb,trivial⟩) (Yj _)) ?_;refine B 11 ?_;refine lG (i:=0) rfl sizeOf236 rfl rfl rfl rfl (fy rfl) rfl ?_;refine B 7 ?_;refine cl call213 rfl (λW hS=>nVi J 0 _ _ zs.length hz0 W (hS.own _ A0)) ?_;refine B 19 ?_;refine Yo (Hz:=[(J,oC (dx (bS) 0) t)]) (H0:=[]) (first:=[]) (cap:=[]) (v:=λ_:Nat=>ab 0) (Hn:=λbR=>[(J,oC (dx (bB bR zs.length 64) 0) t),(bR,oC (cf 64 (λ_=>Cg)) 5)]) (Φ:=λ_=>True) rfl rfl call214 rfl rfl rfl ⟨.inl (by simp[Gh.lent,keys]),trivial⟩ (λW hS=>DQ J zs.length 0 t hz0 eO W (hS.own _ A0)) ?_;rintro bR-sk;have Yp:bR=J\/w.heap.size<=bR:=by
  rcases sk (bR,_) A1 with h|h
  ·left;simpa[keys]using h
  right;exact h.1.1
 refine OJ.reH (H':=[(J,oC (dx (bB bR zs.length 64) 0) t),(bR,bF 5 [] (vj 64))]) (by rw[mkz];rfl) ?_;refine B 10 ?_;refine rx (hQ (l:=0) (h:=zs.length) (off':=0) underlying50 sizeOf5 rfl ⟨_,_,rfl,rfl⟩ rfl aa aa Xs) ?_;refine B 1 ?_;refine cpW (i:=1) (m:=1) (n:=zs.length) (k:=zs.length) (news:=ub zs) rfl underlying50 sizeOf5 rfl rfl rfl rfl (λ_=>rfl) aa (Rd.seg A0 DR (by simp[Gh.lent,keys]<;>omega) zD) (by simp only[act,eU,Bj,nol];omega) (Yn _) ?_;refine B 5 ?_;refine PJ.reH (H':=[(J,oC (dx (bB bR zs.length 64) 0) t),(bR,bF 5 zs (vj (64-zs.length)))]) (by have:=nbo [] zs (vj 64) (by rw[nol];omega);simp only[oe,fP]at this;simp only[gB,eI,bF];rw[this,DO]) ?_;exact DN (Hz:=[(J,oC (dx (bS) lr) t)]) (H0:=[]) bR (.inl rfl) results150 aL A0 Yk rfl Yl
theorem nIm(bI J t:Nat)(xs:List UInt8)(sp:List Value)(zs:List UInt8)(bz oz cz:Nat)(eO:xs.length+zs.length<=64)(zu:sp.length=64-xs.length)(hx:xs.length<64)(w:World)(hb:w.heap[bI]? =some (oC (dx (bB J xs.length 64) 0) t))(Yp:w.heap[J]? =some (bF 5 xs sp))(aR:bI≠J)(DR:cD w bz oz zs)(kq:bz≠bI)(so:bz≠J):Calls prog 150 #[ptr bI 0,.slice (some ⟨bz,oz,none⟩) zs.length cz] w (vS w [bI,J] (λ_:Unit=>.tuple #[ab (zs.length:Int),.nilIface]) (λ_=>[(bI,oC (dx (bB J (xs++zs).length 64) 0) t),(J,bF 5 (xs++zs) (sp.drop zs.length))]) (λ_=>True)):=by
 have kx:=(bO.1 hb).1;have vO:=(bO.1 Yp).1;have aA:=DR.lt;refine nP (vs:=[_,_]) (Gh.lent (λk=>k∈keys [(bI,oC (dx (bB J xs.length 64) 0) t),(J,bF 5 xs sp)])) [(bI,oC (dx (bB J xs.length 64) 0) t),(J,bF 5 xs sp)] func150 rfl ntmps150 rfl (Yi (jC.mem ⟨hb,Yp,trivial⟩) (Yq aR)) ?_;refine B 11 ?_;refine lG (i:=0) rfl sizeOf236 rfl rfl rfl rfl (fy rfl) rfl ?_;refine B 7 ?_;refine Yo (Hz:=[(bI,oC (dx (bB J xs.length 64) 0) t)]) (H0:=[(J,bF 5 xs sp)]) (first:=[]) (cap:=[]) (v:=λ_:Unit=>.tuple #[ab (xs.length:Int),aK]) (Hn:=λ_=>[(bI,oC (dx (bB J (xs.length+zs.length) 64) 0) t)]) (Φ:=λ_=>True) rfl rfl call213 rfl rfl rfl ⟨.inl (by simp[Gh.lent,keys]),trivial⟩ (λW hS=>nbp bI J xs.length 64 zs.length 0 t aa zF W (hS.own _ A0)) ?_;rintro _-sk;refine OJ.reH (H':=[(bI,oC (dx (bB J (xs.length+zs.length) 64) 0) t),(J,bF 5 xs sp)]) rfl ?_;refine B 24 ?_;refine rx (hQ (l:=xs.length) (h:=xs.length+zs.length) (off':=xs.length) underlying50 sizeOf5 rfl ⟨_,_,rfl,rfl⟩ rfl aa aa Xr) ?_;refine B 1 ?_;refine cpW (i:=1) (m:=1) (n:=zs.length) (k:=zs.length) (news:=ub zs) rfl underlying50 sizeOf5 rfl rfl rfl rfl (λ_=>rfl) aa (Rd.seg A0 DR (by simp[Gh.lent,keys]<;>omega) zD) (by simp only[act,eU,Bj];omega) (Yn _) ?_;refine B 5 ?_
 refine PJ.reH (H':=[(bI,oC (dx (bB J (xs++zs).length 64) 0) t),(J,bF 5 (xs++zs) (sp.drop zs.length))]) (by have:=nbo xs zs sp aa;show[(bI,_),(J,Obj.cells (setCells (ub xs++sp).toArray xs.length (ub zs)) _ _)]=_;rw[this,eU];first|done|rfl) ?_;exact DN (Hz:=[(bI,oC (dx (bB J xs.length 64) 0) t),(J,bF 5 xs sp)]) (H0:=[]) () (.inl rfl) results150 aL A0 Yk rfl Yl
theorem n6r(J bR n:Nat)(lr:Int)(t:Nat)(fr:Nat×Nat)(hn:n<=64)(w:World)(mo:w.heap[J]? =some (.cells (dx (bB bR n 64) lr) t fr)):Calls prog 215 #[ptr J 0] w (ar w (bB bR n 64)):=by
 have qo:¬Gh.no.X J:=λh=>h;refine cH 6 func215 ntmps215 ?_;refine eA 8 (k:=?_);refine rx (hQ (l:=0) (h:=n) (off':=0) underlying50 sizeOf5 rfl ⟨_,_,rfl,rfl⟩ rfl aa aa Xs) ?_;refine B 4 ?_;refine ao results215 rfl A0 ?_;rfl
theorem nvm(J t:Nat)(f:Nat->Int)(b3 t3:Nat)(zp:Nat×Nat)(hf:gY f)(w:World)(hb:w.heap[J]? =some (oC (dx (bS) 0) t))(bQ:w.heap[b3]? =some (.cells (dg f) t3 zp))(kq:b3≠J):Calls prog 150 #[ptr J 0,.slice (aH b3) 32 32] w (vS w [J] (λ_:Nat=>.tuple #[ab 32,.nilIface]) (λbR=>[(J,oC (dx (bB bR 32 64) 0) t),(bR,bF 5 (dy f) (vj 32))]) (λ_=>True)):=by
 have h:=nJm J 0 t (dy f) b3 0 32 (by rw[nM];decide) (by rw[nM];decide) w hb (cD.dg bQ hf) kq
 grind [nM]
theorem nar(J t:Nat)(f:Nat->Int)(hf:gY f)(w:World)(hb:w.heap[J]? =some (oC (dx (bS) 0) t)):Calls prog 149 #[ptr J 0,.agg (dg f)] w (vS w [J] (λ_:Nat=>ptr J 0) (λbR=>[(J,oC (dx (bB bR 32 64) 0) t),(bR,bF 5 (dy f) (vj 32))]) (λ_=>True)):=by
 have kx:=(bO.1 hb).1;refine nP (vs:=[_,_]) (Gh.lent (λk=>k∈keys [(J,oC (dx (bS) 0) t)])) [(J,oC (dx (bS) 0) t)] func149 rfl ntmps149 rfl (Yi (jC.mem ⟨hb,trivial⟩) (Yj _)) ?_;refine aU 2 ?_;intro b3 w3 bQ aZ dK cP dt;refine B 4 ?_;refine eA 4 (pb:=by exact zU 3 (k:=by exact qv (lL (h:=32) underlying45 sizeOf5 rfl rfl aa) (lK rfl))) (k:=?_);refine Yo (Hz:=[(J,oC (dx (bS) 0) t)]) (H0:=[]) (first:=[]) (cap:=[]) (v:=λ_:Nat=>.tuple #[ab 32,.nilIface]) (Hn:=λbR=>[(J,oC (dx (bB bR 32 64) 0) t),(bR,bF 5 (dy f) (vj 32))]) (Φ:=λ_=>True) rfl rfl call150 rfl rfl rfl ⟨.inl (by simp[Gh.lent,keys]),trivial⟩ (λW hS=>nvm J t f b3 _ _ hf W (hS.own _ A0) (hS.old A0 bQ aZ zD) aa) ?_;rintro bR-sk;have Yp:bR=J\/w.heap.size<=bR:=by
  rcases sk (bR,_) A1 with h|h
  ·left;simpa[keys]using h
  right;exact h.1.2.1
 refine B 9 ?_;exact DN (Hz:=[(J,oC (dx (bS) 0) t)]) (H0:=[]) bR (.inl rfl) results149 aL A1 Yk rfl Yl
theorem nVm(hZ:FxOk Z)(bI J t:Nat)(s:ByteArray)(hs0:s.size<1000)(xs:List UInt8)(de:xs.length<=64)(w:World)(hb:w.heap[bI]? =some (oC (dx (bB J xs.length 64) 0) t))(hR:cD w J 0 xs)(hg:Glb w):Calls prog 151 #[ptr bI 0,.string s] w (ar w (.agg (dg (Z.tg s xs)))):=by
 have kx:=(bO.1 hb).1;have aD:=hR.lt;have gP:=hg.lt;obtain⟨df,gJ⟩:∃df,Z.tg s xs=df:=⟨_,rfl⟩;refine eN func151 ntmps151 ?_;refine bD 3 ?_;intro b4 dL dP;refine B 8 ?_;refine cl call215 rfl (λW hS=>n6r bI J xs.length 0 t _ de W (hS.old A0 hb zL zD)) ?_;refine cl call94 rfl (λW hS=>by rw[<-gJ];exact nYk hZ s hs0 xs aa J 0 64 de W (hR.old hS A0 zL zD) (hg.old hS A0 zO zJ)) (v:=.agg (dg df)) ?_;refine B 4 ?_;refine aS (.inl rfl) results151 aL A0 zH ?_;rw[gJ];rfl
def mA (s:ByteArray):List UInt8:=(V.list [.text s]).enc
theorem n5i(s:ByteArray)(h:s.size<128):(mA s).length=4+s.size:=by
 have h1:num 1=[UInt8.ofNat 1]:=UU zF;have h2:=UU h
 (simp[P5,mA,V.enc,V.encL];grind)
theorem DS(s:ByteArray)(h:s.size<128):(V.list [.text s]).fine:=by
 simp[V.fine,V.fineL,V.depthL,V.depth];omega
theorem n2r(s:ByteArray):(V.list [.text s]).depth<=16:=by simp[V.depth,V.depthL]
theorem Qu(s:ByteArray)(N b t:Nat)(fr:Nat×Nat)(w:World)(hb:b<N)(h:w.heap[b]? =some (.cells #[ab 2,ab 0,.string s,bS] t fr)):ef N w (.list [.text s]) (vL (aH b) 1 1):=by
 exact⟨_,_,rfl,aC _,.inr ⟨b,_,t,fr,rfl,hb,h,aC 4,rfl,trivial⟩⟩
def zK:Array Value:=cf 32 (λ_=>Cg)
def Bn (Z:Fx) (f:Nat->Int) (s:ByteArray):Nat->Int:=Z.tg (⟨#[100,101,114,105,118,101]⟩:ByteArray) (dy f++mA s)
def NM (Z:Fx) (f:Nat->Int) (s:ByteArray):Int:=Z.sc (⟨#[115,99,97,108,97,114]⟩:ByteArray) (dy (Bn Z f s))
theorem nCm(hZ:FxOk Z)(f:Nat->Int)(hf:gY f)(s:ByteArray)(Yr:s.size<=28)(w:World)(hg:Glb w):Calls prog 107 #[.agg (dg f),.string s,bS] w (ar w (.agg (dg (Bn Z f s)))):=by
 have kr:s.size<128:=by omega
 have hpl:=n5i s kr;have gP:=hg.lt;obtain⟨df,gJ⟩:∃df,Z.tg (⟨#[100,101,114,105,118,101]⟩:ByteArray) (dy f++mA s)=df:=⟨_,rfl⟩;refine eN func107 ntmps107 ?_;refine aU 2 ?_;intro b3 w3 bQ aZ dK cP dt;refine bD 1 ?_;intro b6 jb od;refine B 6 ?_;refine z6e ?_;refine yV ?_;intro gl aq bg bu bz jl Bh;refine B 12 ?_;refine CJ.lp (α:=Unit) [3,6,7,17,18] (λp=>[]) (λp=>[(b6,oC (zK) 45)]) (λp=>True) (λp=>0) () trivial ?_;rintro⟨⟩ -;refine aV 2 aO ?_;refine B 13 ?_;refine nkg (ys:=mA s) call93 rfl rfl rfl (λW hS=>nrf [.text s] (DS s kr) (n2r s) (by have:=n5i s kr;unfold mA at this;omega) aq.heap.size (aH gl) 1 W (hS.links _ A0).size (Qu s _ gl _ _ W aa (hS.old A0 bg bu zD))) ?_;intro jD a8 aD mB Ys b0 cq;replace mB:=yb mB;replace Ys:=yd Ys;refine bD 10 ?_;intro jw qM Bg;refine B 5 ?_;refine Yo (Hz:=[(jw,oC (dx (bS) 0) 240)]) (H0:=[(jD,bF 5 (mA s) aD),(b6,oC (zK) 45)]) (first:=[]) (cap:=[]) (v:=λ_:Nat=>ptr jw 0) (Hn:=λJ=>[(jw,oC (dx (bB J 32 64) 0) 240),(J,bF 5 (dy f) (vj 32))]) (Φ:=λ_=>True) rfl rfl call149 rfl rfl rfl ⟨.inr ⟨by omega,by omega,by omega,trivial⟩,trivial⟩ (λW hS=>nar jw 240 f hf W (hS.own _ A0)) ?_;rintro J-sk;have Yp:J=jw\/(aq.heap.size<=J/\w3.heap.size<=J/\w.heap.size<=J/\jD≠J/\b6≠J):=by
  rcases sk (J,_) A1 with h|h
  ·left;simpa[keys]using h
  right;obtain⟨⟨h1,h2,h3,_⟩,h4⟩:=h;simp only[cu]at h4;exact⟨h1,h2,h3,h4.2.1,h4.2.2.1⟩
 refine B 3 ?_;refine nIj (i:=0) (j:=1) rfl rfl zF λa6=>?_;refine nIj (i:=1) (j:=2) rfl rfl zF λbI=>?_;refine Yo (Hz:=[(jw,oC (dx (bB J (dy f).length 64) 0) 240),(J,bF 5 (dy f) (vj 32))]) (H0:=[(jD,bF 5 (mA s) aD),(b6,oC (zK) 45)]) (first:=[]) (cap:=[]) (v:=λ_:Unit=>.tuple #[ab ((mA s).length:Int),.nilIface]) (Hn:=λ_=>[(jw,oC (dx (bB J (dy f++mA s).length 64) 0) 240),(J,bF 5 (dy f++mA s) ((vj 32).drop (mA s).length))]) (Φ:=λ_=>True) (by rw[nM]) rfl call150 rfl rfl rfl ⟨.inr ⟨by omega,by omega,by omega,trivial⟩,.inr ⟨by omega,by omega,by omega,trivial⟩,trivial⟩ (λW hS=>nIm jw J 240 (dy f) (vj 32) (mA s) jD 0 a8 (by rw[nM,n5i s kr];omega) (by rw[nol,nM]) (by rw[nM];decide) W (hS.own _ A0) (hS.own _ A1) a6 (cD.row (hS.own _ A2)) aa aa) ?_;rintro _-uz;refine B 4 ?_;refine cl call151 rfl (λW hS=>by rw[<-gJ];exact nVm hZ jw J 240 (⟨#[100,101,114,105,118,101]⟩:ByteArray) zF (dy f++mA s) (by rw[eU,nM];omega) W (hS.own _ A0) (cD.row (hS.own _ A1)) (hg.old hS A2 zO (by simp[Over]<;>omega))) (v:=.agg (dg df)) ?_;refine B 4 ?_;refine aS (.inl rfl) results107 aL A2 zH ?_;rw[show Bn Z f s=df from gJ];rfl
theorem DT(hZ:FxOk Z)(s:ByteArray)(hs0:s.size<1000)(f:Nat->Int)(hf:gY f)(b t:Nat)(fr:Nat×Nat)(w:World)(h:w.heap[b]? =some (.cells (dg f) t fr))(hg:Glb w):Calls prog 90 #[.string s,.slice (aH b) 32 32] w (ar w (ab (Z.sc s (dy f)))):=by
 grind [NI,nM,cD.dg]
theorem J3(hZ:FxOk Z)(f:Nat->Int)(s:ByteArray):gY (Bn Z f s):=hZ.byt _ _
theorem nFm(hZ:FxOk Z)(f:Nat->Int)(hf:gY f)(s:ByteArray)(J:s.size<=28)(w:World)(hg:Glb w):Calls prog 67 #[.agg (dg f),.string s] w (ar w (ab (NM Z f s))):=by
 have gP:=hg.lt;have hB:=J3 hZ f s;obtain⟨df,gJ⟩:∃df,Bn Z f s=df:=⟨_,rfl⟩;rw[gJ]at hB;refine eN func67 ntmps67 ?_;refine aU 2 ?_;intro b2 w2 bV bj dz cL cR;refine B 7 ?_;refine cl call107 rfl (λW hS=>by rw[<-gJ];exact nCm hZ f hf s J W (hg.old hS A1 zO zJ)) (v:=.agg (dg df)) ?_;refine bD 1 ?_;intro b5 fK gf;refine B 5 ?_;refine rx (lL (h:=32) underlying45 sizeOf5 rfl rfl aa) ?_;refine cl call90 rfl (λW hS=>DT hZ (⟨#[115,99,97,108,97,114]⟩:ByteArray) zF df hB b5 _ _ W (hS.own _ A0) (hg.old hS A1 zO zJ)) ?_;refine B 4 ?_;refine aS (.inl rfl) results67 aL A1 zH ?_;unfold NM;rw[gJ];rfl
theorem nNm(hZ:FxOk Z)(f:Nat->Int)(hf:gY f)(w:World)(hg:Glb w):Calls prog 26 #[.agg (dg f)] w (ar w (ab (NM Z f (⟨#[108,105,110,107]⟩:ByteArray)))):=by
 have J:=hg.lt;refine eN func26 ntmps26 ?_;refine aU 2 ?_;intro b1 w1 aW bJ eO dC fg;refine B 6 ?_;refine cl call67 rfl (λW hS=>nFm hZ f hf (⟨#[108,105,110,107]⟩:ByteArray) zF W (hg.old hS A1 zO zJ)) ?_;refine B 4 ?_;refine ao results26 rfl A1 ?_;rfl
structure Lk where
 fo:Int
 by_:Int
 pub:Int
 ver:Int
 exp:Int
 resh:Bool
 par:Nat->Int
 sr:Int
 ss:Int
def lkC (l:Lk):Array Value:=(ab l.fo::ab l.by_::ab l.pub::ab l.ver::ab l.exp:: .bool l.resh::th l.par [ab l.sr,ab l.ss]).toArray
abbrev ig (n:Int):Prop:= -9223372036854775808<=n/\n<=9223372036854775807
structure dm (l:Lk):Prop where
 fo:ig l.fo
 by_:ig l.by_
 pub:ig l.pub
 ver:ig l.ver
 exp:ig l.exp
 par:gY l.par
 sr:ig l.sr
 ss:ig l.ss
def Qv:V->List Value
 | .int n=>[.int .i64 1,.int .i64 n,.string ⟨#[]⟩,.slice none 0 0]
 | .text s=>[.int .i64 2,.int .i64 0,.string s,.slice none 0 0]
 | .list _=>[]
def vk:V->Bool
 | .list _=>false
 |_=>true
def nw (l:List V):List Value:=l.flatMap Qv
theorem ndi(x:V)(h:vk x=true):(Qv x).length=4:=by cases x<;>simp_all[vk,Qv]
theorem Yt(l:List V)(h:l.all vk=true):(nw l).length=l.length*4:=by
 induction l<;>grind [nw,ndi]
theorem DU(N:Nat)(w:World):∀(l:List V),l.all vk=true->∀(pre sp:List Value),iT N w (pre++(nw l++sp)).toArray pre.length l
 | [],_,_,_=>by simp[iT]
 |x::l,h,pre,sp=>by
  simp only[List.all_cons,vU]at h;have ih:=DU N w l h.2 (pre++Qv x) sp;have e:pre++Qv x++(nw l++sp)=pre++(nw (x::l)++sp):=by simp[nw]
  rw[e,eU,ndi x h.1]at ih;have hc:cut (pre++(nw (x::l)++sp)).toArray pre.length 4=(Qv x).toArray:=by
   unfold cut;simp only[nw,List.flatMap_cons,lP];rw[List.drop_left' rfl,<-ndi x h.1,List.take_left' rfl]
  refine⟨?_,?_,ih⟩
  ·grind [Yt]
  rw[hc];cases x with
  |int n=>rfl
  |text s=>rfl
  |list l'=>simp[vk]at h
theorem Qw{N t cap:Nat}{l:List V}{sp:List Value}(hl:l.all vk=true)(hb:b<N)(hc:l.length<=cap)(h:w.heap[b]? =some (.cells (nw l++sp).toArray t fr)):ef N w (.list l) (vL (aH b) l.length cap):=by
 exact⟨_,_,rfl,hc,.inr ⟨b,_,t,fr,rfl,hb,h,by have:=DU N w l hl [] sp;grind⟩⟩
theorem NN(x:V)(hf:vk x=true)(h:x.fine):x.enc.length<=1000000020:=by
 cases x with
 |int n=>
  grind [V.fine,zy,nLo,V.enc]
 |text s=>
  simp[V.fine]at h;have:=zy (u:=s.size) aa
  (simp[P5,V.enc];grind)
 |list l=>simp[vk]at hf
theorem nZf(l:List V)(hf:l.all vk=true)(h:V.fineL l):(V.encL l).length<=l.length*1000000020/\V.depthL l=0:=by
 induction l with
 |nil=>simp[V.encL,V.depthL]
 |cons x l ih=>
  simp only[List.all_cons,vU]at hf;obtain⟨h1,h2⟩:=ih hf.2 h.2;have h3:=NN x hf.1 h.1;simp[V.encL,V.depthL,h2];refine⟨by omega,?_⟩;cases x with
  |int n=>rfl
  |text s=>rfl
  |list l'=>simp[vk]at hf
theorem Yu(l:List V)(hf:l.all vk=true)(h:V.fineL l)(hl:l.length<=100):(V.list l).fine/\(V.list l).depth<=16/\(V.list l).enc.length<=800000000000:=by
 grind [nZf,zy,V.fine,V.depth,V.enc]
abbrev dT (f:Nat->Int):ByteArray:=strOfNums (pK f)
theorem ncl(f:Nat->Int):(dT f).size=32:=by rfl
theorem Qx{src dst e t:Nat}(hs:C.P.underlying src=some (.slice e))(he:C.P.underlying e=some (.int .u8))(hd:C.P.underlying dst=some .string)(hx:ev E x=some (.slice (aH b) 32 32))(hm:w1∈L)(hb:w1.heap[b]? =some (.cells (dg f) t fr))(hG:¬G.X b)(hO:cu H b):RV C G L H E (.convert src dst x) (.string (dT f)):=λd ty pos J g a W hF hS=>by
 have hW:=hS.old hm hb hG hO;have hr:=run_convert_bytes_arg (P:=C.P) W src e hs he b 0 32 32 (pK f) pP (λi hi=>by
  rw[fb hW,rM,jN f i hi]
  grind [pK]) dst hd
 simp[execOp,hF.ev hx,hr]
theorem J4{src dst e t off:Nat}(hs:C.P.underlying src=some (.slice e))(he:C.P.underlying e=some (.int .u8))(hd:C.P.underlying dst=some .string)(hx:ev E x=some (.slice (some ⟨b,off,none⟩) 32 32))(hm:w1∈L)(hb:w1.heap[b]? =some (.cells cs t fr))(hG:¬G.X b)(hO:cu H b)(hc:cut cs off 32=dg f):RV C G L H E (.convert src dst x) (.string (dT f)):=λd ty pos J g a W hF hS=>by
 have hW:=hS.old hm hb hG hO;have hr:=run_convert_bytes_arg (P:=C.P) W src e hs he b off 32 32 (pK f) pP (λi hi=>by
  rw[fb hW];have h1:=jN f i hi
  grind [cut,pK]) dst hd
 simp[execOp,hF.ev hx,hr]
def J5 (l:Lk) (r:Int):List V:=[.int l.fo,.int l.by_,.int l.pub,.int l.ver,.int l.exp,.int r,.text (dT l.par)]
def cV (l:Lk):List V:=J5 l (if l.resh then 1 else 0)
theorem Yv(l:Lk):(cV l).all vk=true:=rfl
theorem nCq(l:Lk)(h:dm l):V.fineL (cV l):=by
 simp only[cV,J5,V.fineL,V.fine,ncl];exact⟨h.fo,h.by_,h.pub,h.ver,h.exp,by omega,by decide,trivial⟩
def Bo (l:Lk):List V:=cV l++[.int l.sr,.int l.ss]
theorem nAn(l:Lk)(h:dm l):V.fineL (Bo l):=by
 simp only[Bo,cV,J5,gU,V.fineL,V.fine,ncl];exact⟨h.fo,h.by_,h.pub,h.ver,h.exp,by omega,by decide,h.sr,h.ss,trivial⟩
theorem nW(n:Int)(w:World):Calls prog 69 #[ab n] w (ar w (vI n)):=by
 refine eN func69 ntmps69 ?_;refine bD 3 ?_;intro b2 cL cR;refine B 10 ?_;refine aS (.inl rfl) results69 aL A0 zH ?_;rfl
theorem Iu(n:Int)(w:World):Calls prog 81 #[ab n] w (ar w (vI n)):=by
 refine eN func81 ntmps81 ?_;refine bD 3 ?_;intro b2 cL cR;refine B 10 ?_;refine aS (.inl rfl) results81 aL A0 zH ?_;rfl
theorem nph(s:ByteArray)(w:World):Calls prog 124 #[.string s] w (ar w (vT s)):=by
 refine eN func124 ntmps124 ?_;refine bD 3 ?_;intro b2 cL cR;refine B 10 ?_;refine aS (.inl rfl) results124 aL A0 zH ?_;rfl
theorem ntf(base:Option Addr)(n c:Nat)(w:World):Calls prog 121 #[.slice base n c] w (ar w (vL base n c)):=by
 refine eN func121 ntmps121 ?_;refine bD 3 ?_;intro b2 cL cR;refine B 10 ?_;refine aS (.inl rfl) results121 aL A0 zH ?_;rfl
theorem n5e(f:Nat->Int)(w:World):Calls prog 68 #[.agg (dg f)] w (ar w (vT (dT f))):=by
 refine eN func68 ntmps68 ?_;refine aU 2 ?_;intro b1 w1 aW bJ eO dC fg;refine bD 1 ?_;intro b2 cL cR;refine B 4 ?_;refine z8g ?_;refine B 5 ?_;refine aS (.inl rfl) results68 aL A1 zH ?_;rfl
theorem DV(b:Bool)(w:World):Calls prog 123 #[.bool b] w (ar w (ab (if b then 1 else 0))):=by
 refine eN func123 ntmps123 ?_;refine av 11 ?_ ?_
 ·intro ai;refine B 7 ?_;refine ao results123 rfl A0 ?_
  (simp_all)
 intro ai;refine B 8 ?_;refine ao results123 rfl A0 ?_
 (simp_all)
end Px
