/- What an argument that comes in looks like. No conditions. -/
import Derived.Test.YtjhfonpoebkgeaaGreatDoorKf
import Derived.ProofKit
import Derived.LaidMore
import Derived.OpenShut
import Derived.Stop.Joined
import Derived.Carry
import Derived.Deep.Slices
import Derived.Test.YtjhfonpoebkgeaaGreatDoorProg
namespace Px
open Go Go.RowKit Go.Proofs Go.Proofs.Tryz
theorem jM(b off n:Nat):(⟨b,off,none⟩:Addr).add n=⟨b,off+n,none⟩:=by
 unfold Addr.add;split<;>simp_all
theorem pE{α:Type}{p:Nat->α->Prop}:∀n,(∀i,i<n->∃x,p i x)->∃xs:List α,xs.length=n/\∀i x,xs[i]? =some x->p i x
 |0,_=>⟨[],rfl,λi x h=>by simp at h⟩
 |n+1,h=>by
  obtain⟨xs,h1,h2⟩:=pE n λi hi=>h i (by omega);obtain⟨x,hx⟩:=h n (by omega);refine⟨xs++[x],by simp[h1],λi y hy=>?_⟩
  grind
variable {H:Type} {fs:Array Field} {y:DataW H×List MemPlace} {f:Field} {xs:List (DataW H×List MemPlace)} {cs l:List Value} {m n:Nat} {v:Value}
theorem TO{cs:Array Value}{k:Nat}{r:List Value}(hn:0<n)(hr:r.length=n)(h:∀j,j<n->cs[k+j]? =r[j]?):k+n<=cs.size/\cut cs k n=r.toArray:=by
 constructor
 ·have h1:=h (n-1) (by omega)
  grind
 unfold cut;congr 1;apply List.ext_getElem?
 grind
theorem y7{W:World}{b i:Nat}(h:W.cell? ⟨b,i,none⟩=some v):∃cs t fr,W.heap[b]? =some (.cells cs t fr)/\cs[i]? =some v:=by
 unfold World.cell? at h
 grind
theorem MK{α:Type}{enc:α->Array Value}(hn:0<n){W:World}{a:Addr}{xs:List α}(h:∀i x,xs[i]? =some x->∃gk:List Value,W.cells? 0 (a.add (i*n)) n=some gk/\gk=(enc x).toList):aj enc n W.heap.size W (some a) xs:=by
 rcases xs with _|⟨x0,xs⟩
 ·exact .inl rfl
 right;obtain⟨c0,h0,_⟩:=h 0 x0 rfl;rw[Nat.zero_mul]at h0;obtain⟨_,Cc,aq⟩:=World.cells?_some h0;have J:=aq 0 hn;rw[List.getElem?_eq_getElem (by omega)]at J;obtain⟨b,off,spot⟩:=a;have hs:spot=none:=by simpa[Addr.add]using World.cell?_spot J
 subst hs;rw[jM,jM]at J;obtain⟨cs,t,fr,hb,_⟩:=y7 J;refine⟨b,off,cs,t,fr,rfl,(Array.getElem?_eq_some_iff.1 hb).1,hb,λi hi=>?_⟩;obtain⟨c1,h1,e1⟩:=h i _ (List.getElem?_eq_getElem hi);rw[jM]at h1;obtain⟨_,qJ,ai⟩:=World.cells?_some h1;have:=TO (cs:=cs) (k:=off+i*n) (r:=c1) hn qJ (λj hj=>by
  have:=ai j hj;rw[jM,fb hb]at this;exact this)
 refine⟨this.1,?_⟩;rw[this.2,e1]
section
variable {enc:TypeId×Value->H} {P:Program} {w:World} {held:Bool}
theorem sl_in{α:Type}{el:α->Array Value}{t e fuel:Nat}{x:DataW H×List MemPlace}(q:α->Prop)(hn:0<n)(ht:P.underlying t=some (.slice e))(hc:P.cellsOf e=n)(h:DataW.trod enc P w 0 (λ_=>true) held fuel t cs=some x)(kX:∀J m y,J.length=n->DataW.trod enc P w 0 (λ_=>true) held m e J=some y->∃z,J=(el z).toList/\q z):∃a xs cap,cs=[.slice a xs.length cap]/\aj el n w.heap.size w a xs/\(∀z∈xs,q z)/\xs.length<=maxLen:=by
 rcases Go.Deep.open_slice ht h with⟨rfl,_⟩|⟨a,len,cap,m,nn,D,Pl,rfl,_,hl,hm,Bz,_,hx⟩
 ·exact⟨none,[],0,rfl,.inl rfl,by simp,Nat.zero_le _⟩
 have TJ:len<=m:=by rw[Bz];simpa using hl
 obtain⟨xs,h1,h2⟩:=pE (p:=λi z=>∃J,w.cells? 0 (a.add (i*n)) n=some J/\J=(el z).toList/\q z) len (λi hi=>by
  obtain⟨J,g1,g2⟩:=hx i (by omega);rw[hc]at g1;obtain⟨z,g3,g4⟩:=kX J nn _ (World.cells?_some g1).2.1 g2
  grind)
 grind [MK,List.getElem?_of_mem]
theorem y9{i:Nat}(h:(cs.drop i).take 1=[v]):cs[i]? =some v:=by
 have:=congrArg (λl=>l[0]?) h
 grind
theorem wfI{n:Int}(h:(Lit.int .i64 n).wf=true): -9223372036854775808<=n/\n<=9223372036854775807:=bounds_i64 h
theorem arr_ints{t e fuel base:Nat}{spare:Nat->Bool}{k:IntKind}{ns:List Int}{ps:List MemPlace}(ht:P.underlying t=some (.array n e))(he:P.underlying e=some (.int k))(hc:P.cellsOf e=1)(hn:P.cellsOf t=n)(h:DataW.trod enc P w base spare held fuel t cs=some (.agg (ns.map λx=>.lit (.int k x)),ps)):cs=ns.map λx=>.int k x:=by
 obtain⟨xs,m,rfl,hx,hl,de,kX⟩:=DataW.trod_array ht h;simp at hx;have hlen:ns.length=n:=by have:=congrArg List.length hx.1;simpa[de]using this
 apply List.ext_getElem (by grind);intro i h1 h2;have hi:i<n:=by rw[hl,hn]at h1;exact h1
 have e1:=kX i hi;rw[hc]at e1;have J:i<xs.length:=by omega
 rw[List.getElem?_eq_getElem J]at e1;obtain⟨q,e2,e3,_⟩:=DataW.trod_int he e1;have e4:(xs.map (·.1))[i]'(by grind)= .lit (.int k q):=by simp[e3]
 have e5:(xs.map (·.1))[i]'(by grind)= .lit (.int k ns[i]):=by
  have:(xs.map (·.1))=ns.map λx=>.lit (.int k x):=hx.1.symm;simp only[this,List.getElem_map]
 rw[e4]at e5;have e6:q=ns[i]:=by injection e5 with e7;injection e7
 subst e6;have e8:cs[i]= .int k ns[i]:=by
  have:=congrArg (λl=>l[0]?) e2;simp[List.getElem?_drop]at this;rw[List.getElem?_eq_getElem h1]at this;exact Option.some.inj this
 rw[e8,List.getElem_map]
end
theorem TP{cs:Array Value}(hs:cs.size=l.length)(h:∀i,i<l.length->cs[i]? =l[i]?):cs=l.toArray:=by
 grind
theorem sz3:prog.cellsOf 3=1:=by kernel_rfl
theorem sz4:prog.cellsOf 4=1:=by kernel_rfl
theorem sz5:prog.cellsOf 5=1:=by kernel_rfl
theorem sz9:prog.cellsOf 9=1:=by kernel_rfl
theorem ann:prog.cellsOf 22=1:=by kernel_rfl
theorem ano:prog.cellsOf 23=1:=by kernel_rfl
theorem anp:prog.cellsOf 24=1:=by kernel_rfl
theorem anq:prog.cellsOf 25=1:=by kernel_rfl
theorem anr:prog.cellsOf 26=1:=by kernel_rfl
theorem ans:prog.cellsOf 27=1:=by kernel_rfl
theorem anu:prog.cellsOf 28=1:=by kernel_rfl
theorem anv:prog.cellsOf 29=1:=by kernel_rfl
theorem sz31:prog.cellsOf 31=8:=by kernel_rfl
theorem za:prog.cellsOf 34=32:=by kernel_rfl
theorem ML:prog.cellsOf 36=2:=by kernel_rfl
theorem sz38:prog.cellsOf 38=40:=by kernel_rfl
theorem acg:prog.cellsOf 50=1:=by kernel_rfl
theorem anw:prog.cellsOf 54=68:=by kernel_rfl
theorem anx:prog.cellsOf 95=1:=by kernel_rfl
theorem anz:prog.cellsOf 96=1:=by kernel_rfl
theorem anA:prog.cellsOf 97=1:=by kernel_rfl
theorem anB:prog.cellsOf 98=1:=by kernel_rfl
theorem ach:prog.cellsOf 100=73:=by kernel_rfl
theorem Pf:prog.cellsOf 143=2:=by kernel_rfl
theorem aci:prog.cellsOf 145=4:=by kernel_rfl
theorem acj:prog.cellsOf 147=3:=by kernel_rfl
theorem ack:prog.cellsOf 152=33:=by kernel_rfl
theorem sz199:prog.cellsOf 199=5:=by kernel_rfl
theorem acm:prog.cellsOf 271=5:=by kernel_rfl
section
noncomputable abbrev TDq {H:Type} (enc:TypeId×Value->H) (w:World) (held:Bool) (m:Nat):=DataW.trod enc prog w 0 (λ_=>true) held m
noncomputable abbrev FXq {H:Type} (enc:TypeId×Value->H) (w:World) (held:Bool) (m:Nat) (cs:List Value) (fs:Array Field) (xs:List (DataW H×List MemPlace)):=∀(i:Nat) (f:Field),fs[i]? =some f->DataW.trod enc prog w 0 (λ_=>true) held m f.type ((cs.drop f.offset).take (prog.cellsOf f.type))=xs[i]?
variable {enc:TypeId×Value->H} {w:World} {held:Bool}
theorem Pg{n:Int}(h:(Lit.int .u8 n).wf=true):0<=n/\n<256:=by have:=bounds_u8 h;omega
theorem HY(h:n<=maxLen):n<=9223372036854775807:=Nat.le_trans h (by decide)
theorem TQ{off k j:Nat}(h:((cs.drop off).take k)[j]? =some v):cs[off+j]? =some v:=by
 grind
theorem MM{r:List Value}(hs:cs.length=r.length)(h:∀i,i<r.length->cs[i]? =r[i]?):cs=r:=by
 apply List.ext_getElem?
 grind
def WN (u:UInt8):Array Value:=#[.int .u8 (u.toNat:Int)]
theorem u8_in(J:List Value)(m:Nat)(y:DataW H×List MemPlace)(_:J.length=1)(h:TDq enc w held m 5 J=some y):∃z,J=(WN z).toList/\True:=by
 obtain⟨n,e,_,hw⟩:=DataW.trod_int underlying5 h;obtain⟨h1,h2⟩:=Pg hw;refine⟨UInt8.ofNat n.toNat,?_,trivial⟩;have e2:((UInt8.ofNat n.toNat).toNat:Int)=n:=by rw[show(UInt8.ofNat n.toNat).toNat=n.toNat%256 from rfl];omega
 grind [WN]
theorem Pj{N:Nat}{a:Option Addr}{l:List UInt8}(h:aj WN 1 N w a l):mL N w a l:=by
 rcases h with h|⟨b,off,cs,t,fr,h1,h2,h3,h4⟩
 ·exact .inl h
 by_cases h0:l=[]
 ·exact .inl h0
 refine .inr ⟨b,off,h1,h2,cs,t,fr,h3,?_,λi hi=>?_⟩
 ·have hp:0<l.length:=List.length_pos_iff.2 h0;have:=(h4 (l.length-1) (by omega)).1;omega
 obtain⟨h5,h6⟩:=h4 i hi;have h7:=yI h6 0 (by decide)
 grind [WN,fU]
theorem TR(J:List Value)(m:Nat)(y:DataW H×List MemPlace)(_:J.length=1)(h:TDq enc w held m 3 J=some y):∃z,J=(encI z).toList/\ig z:=by
 obtain⟨n,e,_,hw⟩:=DataW.trod_int underlying3 h;exact⟨n,e,wfI hw⟩
def At (cs:List Value) (o:Nat) (l:List Value):Prop:=∀k,k<l.length->cs[o+k]? =l[k]?
theorem At.one{o:Nat}(h:cs[o]? =some v):At cs o [v]:=λk hk=>by
 grind
theorem At.app{l':List Value}{o J:Nat}(h:At cs o l)(h':At cs J l')(e:J=o+l.length:=by rfl):At cs o (l++l'):=λk hk=>by
 by_cases hl:k<l.length
 ·rw[List.getElem?_append_left hl];exact h k hl
 rw[List.getElem?_append_right (by omega)];have:=h' (k-l.length) (by grind)
 grind
theorem At.sub{b o:Nat}(h:At ((cs.drop b).take n) o l):At cs (b+o) l:=λk hk=>by
 have:=h k hk
 grind
theorem At.all(h:At cs 0 l)(hl:cs.length=l.length):cs=l:=MM hl λi hi=>by have:=h i hi;grind
theorem At.arr{cs:Array Value}(h:At cs.toList 0 l)(hl:cs.size=l.length):cs=l.toArray:=TP hl λi hi=>by have:=h i hi;grind
theorem fR(de:xs.length=fs.size)(hf:FXq enc w held m cs fs xs)(i:Nat)(h:fs[i]? =some f)(hc:prog.cellsOf f.type=n):∃x,DataW.trod enc prog w 0 (λ_=>true) held m f.type ((cs.drop f.offset).take n)=some x:=by
 grind
theorem fI(de:xs.length=fs.size)(hf:FXq enc w held m cs fs xs)(i:Nat)(h:fs[i]? =some f)(J:f.type=3:=by rfl):∃n,At cs f.offset [.int .i64 n]/\ig n:=by
 obtain⟨x,h⟩:=fR de hf i h (n:=1) (by grind [sz3]);obtain⟨n,e,_,hw⟩:=DataW.trod_int (by rw[J];exact underlying3) h;exact⟨n,.one (y9 e),wfI hw⟩
theorem fB(de:xs.length=fs.size)(hf:FXq enc w held m cs fs xs)(i:Nat)(h:fs[i]? =some f)(J:f.type=4:=by rfl):∃n,At cs f.offset [.bool n]:=by
 obtain⟨x,h⟩:=fR de hf i h (n:=1) (by grind [sz4]);obtain⟨n,e,_⟩:=DataW.trod_bool (by simp_all) h;exact⟨n,.one (y9 e)⟩
theorem fT(de:xs.length=fs.size)(hf:FXq enc w held m cs fs xs)(i:Nat)(h:fs[i]? =some f)(J:f.type=9:=by rfl):∃n,At cs f.offset [.string n]:=by
 obtain⟨x,h⟩:=fR de hf i h (n:=1) (by grind [sz9]);obtain⟨n,e,_⟩:=DataW.trod_string (by simp_all) h;exact⟨n,.one (y9 e)⟩
theorem fD(de:xs.length=fs.size)(hf:FXq enc w held m cs fs xs)(i:Nat)(h:fs[i]? =some f)(ht:prog.underlying f.type=some (.array 32 5))(hn:prog.cellsOf f.type=32):∃d,gY d/\At cs f.offset (dg d).toList:=by
 obtain⟨x,h⟩:=fR de hf i h hn;obtain⟨xs,m,rfl,hx,hl,de,kX⟩:=DataW.trod_array ht h;have key:∀i,i<32->∃v,(0<=v/\v<256)/\cs[f.offset+i]? =some (.int .u8 v):=λi hi=>by
  have e1:=kX i hi;rw[sz5,Nat.mul_one,List.getElem?_eq_getElem (by omega)]at e1;obtain⟨q,e2,_,J⟩:=DataW.trod_int underlying5 e1;exact⟨q,Pg J,TQ (y9 e2)⟩
 refine⟨λi=>if hi:i<32 then Classical.choose (key i hi)else 0,λi=>?_,λk hk=>?_⟩
 ·grind
 have hk:k<32:=hk
 grind [jN]
theorem fSq(de:xs.length=fs.size)(hf:FXq enc w held m cs fs xs)(i:Nat)(h:fs[i]? =some f){e:Nat}(J:prog.underlying f.type=some (.slice e))(hn:prog.cellsOf f.type=1):∃a n c,At cs f.offset [.slice a n c]:=by
 obtain⟨x,h⟩:=fR de hf i h hn;rcases Go.Deep.open_slice J h with⟨e,_⟩|⟨a,len,cap,m,nn,D,Pl,e,_⟩
 ·exact⟨none,0,0,.one (y9 e)⟩
 exact⟨some a,len,cap,.one (y9 e)⟩
theorem fL{α:Type}{el:α->Array Value}(q:α->Prop)(de:xs.length=fs.size)(hf:FXq enc w held m cs fs xs)(i:Nat)(h:fs[i]? =some f)(hn:0<n){e:Nat}(ht:prog.underlying f.type=some (.slice e))(h1:prog.cellsOf f.type=1)(hc:prog.cellsOf e=n)(kX:∀J m y,J.length=n->DataW.trod enc prog w 0 (λ_=>true) held m e J=some y->∃z,J=(el z).toList/\q z):∃a xs cap,At cs f.offset [.slice a xs.length cap]/\aj el n w.heap.size w a xs/\(∀z∈xs,q z)/\xs.length<=maxLen:=by
 obtain⟨x,h⟩:=fR de hf i h h1;obtain⟨a,xs,c,e2,h2⟩:=sl_in q hn ht hc h kX;exact⟨a,xs,c,.one (y9 e2),h2⟩
theorem acn(gk:List Value)(m:Nat)(y:DataW H×List MemPlace)(hl:gk.length=5)(h:TDq enc w held m 271 gk=some y):∃z:Ch,gk=(ff z).toList/\ChI z:=by
 obtain⟨x0,m0,rfl,_,_,J,f0⟩:=DataW.trod_struct underlying271 h;obtain⟨n1,e1,w1⟩:=fI J f0 0 rfl;obtain⟨n2,e2,w2⟩:=fI J f0 1 rfl;obtain⟨n3,e3,w3⟩:=fI J f0 2 rfl;obtain⟨n4,e4,w4⟩:=fI J f0 3 rfl;obtain⟨n5,e5,w5⟩:=fI J f0 4 rfl;have A:=e1.app (e2.app (e3.app (e4.app (e5))));exact⟨(⟨n1,n2,n3,n4,n5⟩:Ch),A.all hl,⟨w1,w2,w3,w4,w5⟩⟩
theorem aco(gk:List Value)(m:Nat)(y:DataW H×List MemPlace)(hl:gk.length=4)(h:TDq enc w held m 145 gk=some y):∃z:Bx,gk=(xh z).toList/\(BxI z/\uL w.heap.size w z.w):=by
 obtain⟨x0,m0,rfl,_,_,J,f0⟩:=DataW.trod_struct underlying145 h;obtain⟨n1,e1,w1⟩:=fI J f0 0 rfl;obtain⟨n2,e2,w2⟩:=fI J f0 1 rfl;obtain⟨y3,g3⟩:=fR J f0 2 rfl Pf;obtain⟨x4,m4,_,_,_,l4,f4⟩:=DataW.trod_struct underlying143 g3;obtain⟨n5,e5,w5⟩:=fI l4 f4 0 rfl;obtain⟨a6,c6,b6,e6,s6,q6,k6⟩:=fL (el:=WN) (n:=1) (λ_=>True) l4 f4 1 rfl (by decide) underlying50 acg sz5 u8_in;have A:=e1.app (e2.app (e5.sub.app (e6.sub)));exact⟨(⟨n1,n2,⟨n5,a6,b6,c6⟩⟩:Bx),A.all hl,⟨⟨w1,w2,w5⟩,Pj s6⟩⟩
theorem acp(J:List Value)(m:Nat)(y:DataW H×List MemPlace)(hl:J.length=3)(h:TDq enc w held m 147 J=some y):∃z:We,J=(xi z).toList/\(WeI z/\uL w.heap.size w z.w):=by
 obtain⟨x0,m0,rfl,_,_,l0,f0⟩:=DataW.trod_struct underlying147 h;obtain⟨n1,e1,w1⟩:=fI l0 f0 0 rfl;obtain⟨y2,g2⟩:=fR l0 f0 1 rfl Pf;obtain⟨x3,m3,_,_,_,l3,f3⟩:=DataW.trod_struct underlying143 g2;obtain⟨n4,e4,w4⟩:=fI l3 f3 0 rfl;obtain⟨a5,c5,b5,e5,s5,q5,k5⟩:=fL (el:=WN) (n:=1) (λ_=>True) l3 f3 1 rfl (by decide) underlying50 acg sz5 u8_in;have A:=e1.app (e4.sub.app (e5.sub));exact⟨(⟨n1,⟨n4,a5,b5,c5⟩⟩:We),A.all hl,⟨⟨w1,w4⟩,Pj s5⟩⟩
theorem acq(gk:List Value)(m:Nat)(y:DataW H×List MemPlace)(hl:gk.length=73)(h:TDq enc w held m 100 gk=some y):∃z:Cm,gk=(cW z).toList/\(MH z/\dc w.heap.size w z):=by
 obtain⟨x0,m0,rfl,_,_,J,f0⟩:=DataW.trod_struct underlying100 h;obtain⟨n1,e1,w1⟩:=fI J f0 0 rfl;obtain⟨n2,e2,w2⟩:=fI J f0 1 rfl;obtain⟨d3,w3,e3⟩:=fD J f0 2 rfl underlying34 za;obtain⟨n4,e4,w4⟩:=fI J f0 3 rfl;obtain⟨a5,c5,b5,e5,s5,q5,k5⟩:=fL (el:=ff) (n:=5) ChI J f0 4 rfl (by decide) underlying95 anx acm acn;obtain⟨a6,c6,b6,e6,s6,q6,k6⟩:=fL (el:=encI) (n:=1) ig J f0 5 rfl (by decide) underlying96 anz sz3 TR;obtain⟨a7,c7,b7,e7,s7,q7,k7⟩:=fL (el:=xh) (n:=4) (λz=>BxI z/\uL w.heap.size w z.w) J f0 6 rfl (by decide) underlying97 anA aci aco;obtain⟨a8,c8,b8,e8,s8,q8,k8⟩:=fL (el:=xi) (n:=3) (λz=>WeI z/\uL w.heap.size w z.w) J f0 7 rfl (by decide) underlying98 anB acj acp;obtain⟨d9,w9,e9⟩:=fD J f0 8 rfl underlying34 za;obtain⟨cq,g10⟩:=fR J f0 9 rfl ML;obtain⟨rT,m11,_,_,_,aq,f11⟩:=DataW.trod_struct underlying36 g10;obtain⟨n12,bu,FN⟩:=fI aq f11 0 rfl;obtain⟨n13,aR,bg⟩:=fI aq f11 1 rfl;have A:=e1.app (e2.app (e3.app (e4.app (e5.app (e6.app (e7.app (e8.app (e9.app (bu.sub.app (aR.sub))))))))));exact⟨({folder:=n1,epoch:=n2,par:=d3,author:=n4,chs:=c5,ca:=a5,cc:=b5,path:=c6,pa:=a6,pc:=b6,bxs:=c7,ba:=a7,bc:=b7,wes:=c8,wa:=a8,wc:=b8,conf:=d9,sr:=n12,ss:=n13}:Cm),A.all hl,⟨{folder:=w1,epoch:=w2,par:=w3,author:=w4,chs:=q5,path:=q6,bxs:=λx hx=>(q7 x hx).1,wes:=λx hx=>(q8 x hx).1,conf:=w9,sr:=FN,ss:=bg,lim:=⟨HY k7,HY k8⟩},⟨s5,s6,s7,s8,λx hx=>(q7 x hx).2,λx hx=>(q8 x hx).2⟩⟩⟩
theorem acr(J:List Value)(m:Nat)(y:DataW H×List MemPlace)(hl:J.length=33)(h:TDq enc w held m 152 J=some y):∃z:Fo,J=(sM z).toList/\True:=by
 obtain⟨x0,m0,rfl,_,_,l0,f0⟩:=DataW.trod_struct underlying152 h;obtain⟨n1,e1,w1⟩:=fI l0 f0 0 rfl;obtain⟨d2,w2,e2⟩:=fD l0 f0 1 rfl underlying34 za;have A:=e1.app (e2);exact⟨(⟨n1,d2⟩:Fo),A.all hl,trivial⟩
theorem acs(gk:List Value)(m:Nat)(y:DataW H×List MemPlace)(hl:gk.length=40)(h:TDq enc w held m 38 gk=some y):∃z:Lk,gk=(lkC z).toList/\dm z:=by
 obtain⟨x0,m0,rfl,_,_,J,f0⟩:=DataW.trod_struct underlying38 h;obtain⟨n1,e1,w1⟩:=fI J f0 0 rfl;obtain⟨n2,e2,w2⟩:=fI J f0 1 rfl;obtain⟨n3,e3,w3⟩:=fI J f0 2 rfl;obtain⟨n4,e4,w4⟩:=fI J f0 3 rfl;obtain⟨n5,e5,w5⟩:=fI J f0 4 rfl;obtain⟨n6,e6⟩:=fB J f0 5 rfl;obtain⟨d7,w7,e7⟩:=fD J f0 6 rfl underlying34 za;obtain⟨y8,g8⟩:=fR J f0 7 rfl ML;obtain⟨x9,m9,_,_,_,l9,f9⟩:=DataW.trod_struct underlying36 g8;obtain⟨n10,aD,U0⟩:=fI l9 f9 0 rfl;obtain⟨n11,Rx,aq⟩:=fI l9 f9 1 rfl;have A:=e1.app (e2.app (e3.app (e4.app (e5.app (e6.app (e7.app (aD.sub.app (Rx.sub))))))));exact⟨(⟨n1,n2,n3,n4,n5,n6,d7,n10,n11⟩:Lk),A.all hl,⟨w1,w2,w3,w4,w5,w7,U0,aq⟩⟩
theorem acu(gk:List Value)(m:Nat)(y:DataW H×List MemPlace)(hl:gk.length=68)(h:TDq enc w held m 54 gk=some y):∃z:Fa,gk=(vl z).toList/\Mw z:=by
 obtain⟨x0,m0,rfl,_,_,J,f0⟩:=DataW.trod_struct underlying54 h;obtain⟨d1,w1,e1⟩:=fD J f0 0 rfl underlying34 za;obtain⟨d2,w2,e2⟩:=fD J f0 1 rfl underlying34 za;obtain⟨n3,e3,w3⟩:=fI J f0 2 rfl;obtain⟨n4,e4,w4⟩:=fI J f0 3 rfl;obtain⟨y5,g5⟩:=fR J f0 4 rfl ML;obtain⟨x6,m6,_,_,_,l6,f6⟩:=DataW.trod_struct underlying36 g5;obtain⟨n7,e7,w7⟩:=fI l6 f6 0 rfl;obtain⟨n8,e8,w8⟩:=fI l6 f6 1 rfl;have A:=e1.app (e2.app (e3.app (e4.app (e7.sub.app (e8.sub)))));exact⟨(⟨d1,d2,n3,n4,n7,n8⟩:Fa),A.all hl,⟨w1,w2,w3,w4⟩⟩
theorem pl_in(gk:List Value)(m:Nat)(y:DataW H×List MemPlace)(hl:gk.length=5)(h:TDq enc w held m 199 gk=some y):∃z:Pl,gk=(plA z).toList/\True:=by
 obtain⟨x0,m0,rfl,_,_,J,f0⟩:=DataW.trod_struct underlying199 h;obtain⟨n1,e1,w1⟩:=fI J f0 0 rfl;obtain⟨n2,e2,w2⟩:=fI J f0 1 rfl;obtain⟨n3,e3,w3⟩:=fI J f0 2 rfl;obtain⟨n4,e4,w4⟩:=fI J f0 3 rfl;obtain⟨n5,e5⟩:=fT J f0 4 rfl;have A:=e1.app (e2.app (e3.app (e4.app (e5))));exact⟨(⟨n1,n2,n3,n4,n5⟩:Pl),A.all hl,trivial⟩
theorem rc_in{cs:Array Value}(hl:cs.size=8)(h:TDq enc w held m 31 cs.toList=some y):∃s:Sc,cs=rdA s/\B6 s/\aj sM 33 w.heap.size w s.fa s.fos/\aj cW 73 w.heap.size w s.la s.cs/\(∀c∈s.cs,dc w.heap.size w c)/\aj lkC 40 w.heap.size w s.ka s.lks/\aj vl 68 w.heap.size w s.xa s.fas:=by
 obtain⟨x0,m0,rfl,_,_,J,f0⟩:=DataW.trod_struct underlying31 h;obtain⟨a1,c1,b1,e1,s1,q1,k1⟩:=fL (el:=sM) (n:=33) (λ_=>True) J f0 0 rfl (by decide) underlying22 ann ack acr;obtain⟨a2,c2,b2,e2⟩:=fSq J f0 1 rfl underlying23 ano;obtain⟨a3,c3,b3,e3,s3,q3,k3⟩:=fL (el:=cW) (n:=73) (λz=>MH z/\dc w.heap.size w z) J f0 2 rfl (by decide) underlying24 anp ach acq;obtain⟨a4,c4,b4,e4⟩:=fSq J f0 3 rfl underlying25 anq;obtain⟨a5,c5,b5,e5⟩:=fSq J f0 4 rfl underlying26 anr;obtain⟨a6,c6,b6,e6,s6,q6,k6⟩:=fL (el:=lkC) (n:=40) dm J f0 5 rfl (by decide) underlying27 ans sz38 acs;obtain⟨a7,c7,b7,e7,s7,q7,k7⟩:=fL (el:=vl) (n:=68) Mw J f0 6 rfl (by decide) underlying28 anu anw acu;obtain⟨a8,c8,b8,e8⟩:=fSq J f0 7 rfl underlying29 anv;have A:=e1.app (e2.app (e3.app (e4.app (e5.app (e6.app (e7.app (e8)))))));exact⟨{fos:=c1,fa:=a1,fc:=b1,cs:=c3,la:=a3,lc:=b3,lks:=c6,ka:=a6,kc:=b6,fas:=c7,xa:=a7,xc:=b7,pls:=[],pa:=none,pc:=0,ot:=λi=>[(none,0,0),(a2,c2,b2),(none,0,0),(a4,c4,b4),(a5,c5,b5),(none,0,0),(none,0,0),(a8,c8,b8)].getD i (none,0,0)},A.arr hl,⟨λc hc=>(q3 c hc).1,q6,q7⟩,s1,s3,λc hc=>(q3 c hc).2,s6,s7⟩
theorem lkt_in{cs:Array Value}(hl:cs.size=40)(h:TDq enc w held m 38 cs.toList=some y):∃l,cs=lkC l/\dm l:=by
 obtain⟨x0,m0,rfl,_,_,J,f0⟩:=DataW.trod_struct underlying38 h;obtain⟨n1,e1,w1⟩:=fI J f0 0 rfl;obtain⟨n2,e2,w2⟩:=fI J f0 1 rfl;obtain⟨n3,e3,w3⟩:=fI J f0 2 rfl;obtain⟨n4,e4,w4⟩:=fI J f0 3 rfl;obtain⟨n5,e5,w5⟩:=fI J f0 4 rfl;obtain⟨n6,e6⟩:=fB J f0 5 rfl;obtain⟨d7,w7,e7⟩:=fD J f0 6 rfl underlying34 za;obtain⟨y8,g8⟩:=fR J f0 7 rfl ML;obtain⟨x9,m9,_,_,_,l9,f9⟩:=DataW.trod_struct underlying36 g8;obtain⟨n10,aD,U0⟩:=fI l9 f9 0 rfl;obtain⟨n11,Rx,aq⟩:=fI l9 f9 1 rfl;have A:=e1.app (e2.app (e3.app (e4.app (e5.app (e6.app (e7.app (aD.sub.app (Rx.sub))))))));exact⟨(⟨n1,n2,n3,n4,n5,n6,d7,n10,n11⟩:Lk),A.arr hl,⟨w1,w2,w3,w4,w5,w7,U0,aq⟩⟩
end
end Px
