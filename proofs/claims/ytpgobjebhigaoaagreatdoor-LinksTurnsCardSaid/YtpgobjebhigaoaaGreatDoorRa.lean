/- What an argument that comes in looks like. No condition beyond those stated. -/
import Derived.Test.YtpgobjebhigaoaaGreatDoorKi
import Derived.Test.YtpgobjebhigaoaaGreatDoorProg
set_option linter.unusedSimpArgs false
set_option linter.unusedVariables false
set_option linter.unusedSectionVars false
set_option linter.unnecessarySimpa false
namespace Px
open Go Go.RowKit Go.Proofs
theorem sz3:Tryz.prog.cellsOf 3=1:=by kernel_rfl
theorem sz4:Tryz.prog.cellsOf 4=1:=by kernel_rfl
theorem sz5:Tryz.prog.cellsOf 5=1:=by kernel_rfl
theorem sz9:Tryz.prog.cellsOf 9=1:=by kernel_rfl
theorem aff:Tryz.prog.cellsOf 22=1:=by kernel_rfl
theorem afg:Tryz.prog.cellsOf 23=1:=by kernel_rfl
theorem afh:Tryz.prog.cellsOf 24=1:=by kernel_rfl
theorem afi:Tryz.prog.cellsOf 25=1:=by kernel_rfl
theorem afj:Tryz.prog.cellsOf 26=1:=by kernel_rfl
theorem afk:Tryz.prog.cellsOf 27=1:=by kernel_rfl
theorem afl:Tryz.prog.cellsOf 28=1:=by kernel_rfl
theorem afm:Tryz.prog.cellsOf 29=1:=by kernel_rfl
theorem sz31:Tryz.prog.cellsOf 31=8:=by kernel_rfl
theorem s9:Tryz.prog.cellsOf 34=32:=by kernel_rfl
theorem C1:Tryz.prog.cellsOf 36=2:=by kernel_rfl
theorem sz38:Tryz.prog.cellsOf 38=40:=by kernel_rfl
theorem afn:Tryz.prog.cellsOf 44=1:=by kernel_rfl
theorem afo:Tryz.prog.cellsOf 50=33:=by kernel_rfl
theorem afp:Tryz.prog.cellsOf 59=68:=by kernel_rfl
theorem afr:Tryz.prog.cellsOf 61=32:=by kernel_rfl
theorem afs:Tryz.prog.cellsOf 63=34:=by kernel_rfl
theorem NU:Tryz.prog.cellsOf 64=1:=by kernel_rfl
theorem sz66:Tryz.prog.cellsOf 66=74:=by kernel_rfl
theorem afu:Tryz.prog.cellsOf 95=1:=by kernel_rfl
theorem afv:Tryz.prog.cellsOf 96=1:=by kernel_rfl
theorem afw:Tryz.prog.cellsOf 97=1:=by kernel_rfl
theorem afx:Tryz.prog.cellsOf 99=73:=by kernel_rfl
theorem sz135:Tryz.prog.cellsOf 135=5:=by kernel_rfl
theorem J4:Tryz.prog.cellsOf 162=2:=by kernel_rfl
theorem UT:Tryz.prog.cellsOf 164=4:=by kernel_rfl
theorem UU:Tryz.prog.cellsOf 166=3:=by kernel_rfl
theorem UW:Tryz.prog.cellsOf 233=5:=by kernel_rfl
section
variable {H:Type} {enc:TypeId×Value->H} {w:World} {held:Bool}
theorem J5{n:Int}(h:(Lit.int .u8 n).wf=true):0<=n/\n<256:=by have:=bounds_u8 h;omega
theorem C2{n:Nat}(h:n<=maxLen):n<=9223372036854775807:=Nat.le_trans h (by decide)
variable {cs:Array Value} {y:DataW H×List MemPlace} {xs:List (DataW H×List MemPlace)} {N b j k m:Nat} {a:Option Addr} {v:Value}
theorem C3{cs:List Value}{off:Nat}(h:((cs.drop off).take k)[j]? =some v):cs[off+j]? =some v:=by
 rw[List.getElem?_take]at h;split at h
 ·rwa[List.getElem?_drop]at h
 cases h
theorem HX{cs r:List Value}(hs:cs.length=r.length)(h:∀i,i<r.length->cs[i]? =r[i]?):cs=r:=by
 apply List.ext_getElem?;intro i;by_cases hi:i<r.length
 ·exact h i hi
 rw[List.getElem?_eq_none (by omega),List.getElem?_eq_none (by omega)]
def Qf (u:UInt8):Array Value:=#[.int .u8 (u.toNat:Int)]
theorem u8_in(eu:List Value)(m:Nat)(y:DataW H×List MemPlace)(_:eu.length=1)(h:DataW.trod enc Tryz.prog w 0 (λ_=>true) held m 5 eu=some y):∃z,eu=(Qf z).toList/\True:=by
 obtain⟨n,e,_,hw⟩:=DataW.trod_int Tryz.underlying5 h;obtain⟨h1,h2⟩:=J5 hw;refine⟨UInt8.ofNat n.toNat,?_,trivial⟩;have e2:((UInt8.ofNat n.toNat).toNat:Int)=n:=by rw[show(UInt8.ofNat n.toNat).toNat=n.toNat%256 from rfl];omega
 rw[e];unfold Qf;rw[e2]
theorem J6{l:List UInt8}(h:ah Qf 1 N w a l):oe N w a l:=by
 rcases h with h|⟨b,off,cs,t,fr,h1,h2,h3,h4⟩
 ·exact .inl h
 by_cases h0:l=[]
 ·exact .inl h0
 refine .inr ⟨b,off,h1,h2,cs,t,fr,h3,?_,λi hi=>?_⟩
 ·have hp:0<l.length:=List.length_pos_iff.2 h0;have:=(h4 (l.length-1) (by omega)).1;omega
 obtain⟨h5,h6⟩:=h4 i hi;have h7:=uW h6 0 (by decide);rw[Nat.add_zero,Nat.mul_one]at h7;rw[h7];simp[Qf,fU,hi]
theorem NV(eu:List Value)(m:Nat)(y:DataW H×List MemPlace)(_:eu.length=1)(h:DataW.trod enc Tryz.prog w 0 (λ_=>true) held m 3 eu=some y):∃z,eu=(encI z).toList/\fO z:=by
 obtain⟨n,e,_,hw⟩:=DataW.trod_int Tryz.underlying3 h;exact⟨n,e,wfI hw⟩
def At (cs:List Value) (o:Nat) (l:List Value):Prop:=∀k,k<l.length->cs[o+k]? =l[k]?
theorem At.one{cs:List Value}{o:Nat}(h:cs[o]? =some v):At cs o [v]:=λk hk=>by
 obtain rfl:k=0:=by simpa using hk
 exact h
theorem At.app{cs l l':List Value}{o o':Nat}(h:At cs o l)(h':At cs o' l')(e:o'=o+l.length:=by rfl):At cs o (l++l'):=λk hk=>by
 by_cases hl:k<l.length
 ·rw[List.getElem?_append_left hl];exact h k hl
 rw[List.getElem?_append_right (by omega)];have:=h' (k-l.length) (by rw[List.length_append]at hk;omega);rwa[e,show o+l.length+(k-l.length)=o+k by omega]at this
theorem At.sub{cs l:List Value}{n o:Nat}(h:At ((cs.drop b).take n) o l):At cs (b+o) l:=λk hk=>by
 have:=h k hk;rw[List.getElem?_eq_getElem hk]at this;rw[List.getElem?_eq_getElem hk,Nat.add_assoc];exact C3 this
theorem At.all{cs l:List Value}(h:At cs 0 l)(hl:cs.length=l.length):cs=l:=HX hl λi hi=>by have:=h i hi;rwa[Nat.zero_add]at this
theorem At.arr{l:List Value}(h:At cs.toList 0 l)(hl:cs.size=l.length):cs=l.toArray:=NW hl λi hi=>by have:=h i hi;rwa[Nat.zero_add,Array.getElem?_toList]at this
theorem fR{cs:List Value}{fs:Array Field}(ck:xs.length=fs.size)(hf:∀(i:Nat) (f:Field),fs[i]? =some f->DataW.trod enc Tryz.prog w 0 (λ_=>true) held m f.type ((cs.drop f.offset).take (Tryz.prog.cellsOf f.type))=xs[i]?)(i:Nat){f:Field}(h:fs[i]? =some f){n:Nat}(hc:Tryz.prog.cellsOf f.type=n):∃x,DataW.trod enc Tryz.prog w 0 (λ_=>true) held m f.type ((cs.drop f.offset).take n)=some x:=by
 have h1:=(Array.getElem?_eq_some_iff.1 h).1;rw[<-hc,hf i f h];exact⟨_,List.getElem?_eq_getElem (by omega)⟩
theorem fI{cs:List Value}{fs:Array Field}(ck:xs.length=fs.size)(hf:∀(i:Nat) (f:Field),fs[i]? =some f->DataW.trod enc Tryz.prog w 0 (λ_=>true) held m f.type ((cs.drop f.offset).take (Tryz.prog.cellsOf f.type))=xs[i]?)(i:Nat){f:Field}(h:fs[i]? =some f)(ht:f.type=3:=by rfl):∃n,At cs f.offset [.int .i64 n]/\fO n:=by
 obtain⟨x,h⟩:=fR ck hf i h (n:=1) (by rw[ht];exact sz3);obtain⟨n,e,_,hw⟩:=DataW.trod_int (by rw[ht];exact Tryz.underlying3) h;exact⟨n,.one (u7 e),wfI hw⟩
theorem fB{cs:List Value}{fs:Array Field}(ck:xs.length=fs.size)(hf:∀(i:Nat) (f:Field),fs[i]? =some f->DataW.trod enc Tryz.prog w 0 (λ_=>true) held m f.type ((cs.drop f.offset).take (Tryz.prog.cellsOf f.type))=xs[i]?)(i:Nat){f:Field}(h:fs[i]? =some f)(ht:f.type=4:=by rfl):∃n,At cs f.offset [.bool n]:=by
 obtain⟨x,h⟩:=fR ck hf i h (n:=1) (by rw[ht];exact sz4);obtain⟨n,e,_⟩:=DataW.trod_bool (by rw[ht];exact Tryz.underlying4) h;exact⟨n,.one (u7 e)⟩
theorem fT{cs:List Value}{fs:Array Field}(ck:xs.length=fs.size)(hf:∀(i:Nat) (f:Field),fs[i]? =some f->DataW.trod enc Tryz.prog w 0 (λ_=>true) held m f.type ((cs.drop f.offset).take (Tryz.prog.cellsOf f.type))=xs[i]?)(i:Nat){f:Field}(h:fs[i]? =some f)(ht:f.type=9:=by rfl):∃n,At cs f.offset [.string n]:=by
 obtain⟨x,h⟩:=fR ck hf i h (n:=1) (by rw[ht];exact sz9);obtain⟨n,e,_⟩:=DataW.trod_string (by rw[ht];exact Tryz.underlying9) h;exact⟨n,.one (u7 e)⟩
theorem fD{cs:List Value}{fs:Array Field}(ck:xs.length=fs.size)(hf:∀(i:Nat) (f:Field),fs[i]? =some f->DataW.trod enc Tryz.prog w 0 (λ_=>true) held m f.type ((cs.drop f.offset).take (Tryz.prog.cellsOf f.type))=xs[i]?)(i:Nat){f:Field}(h:fs[i]? =some f)(ht:Tryz.prog.underlying f.type=some (.array 32 5))(hn:Tryz.prog.cellsOf f.type=32):∃d,jq d/\At cs f.offset (dg d).toList:=by
 obtain⟨x,h⟩:=fR ck hf i h hn;obtain⟨xs,m,rfl,hx,hl,ck,pK⟩:=DataW.trod_array ht h;have key:∀i,i<32->∃v,(0<=v/\v<256)/\cs[f.offset+i]? =some (.int .u8 v):=λi hi=>by
  have e1:=pK i hi;rw[sz5,Nat.mul_one,List.getElem?_eq_getElem (by omega)]at e1;obtain⟨q,e2,_,e3⟩:=DataW.trod_int Tryz.underlying5 e1;exact⟨q,J5 e3,C3 (u7 e2)⟩
 refine⟨λi=>if hi:i<32 then Classical.choose (key i hi)else 0,λi=>?_,λk hk=>?_⟩
 ·by_cases hi:i<32
  ·simp only[dif_pos hi];exact(Classical.choose_spec (key i hi)).1
  simp only[dif_neg hi];exact⟨by decide,by decide⟩
 have hk:k<32:=hk;exact(Classical.choose_spec (key k hk)).2.trans ((Array.getElem?_toList ..).trans ((pI _ k hk).trans (by simp only[dif_pos hk]))).symm
theorem fS{cs:List Value}{fs:Array Field}(ck:xs.length=fs.size)(hf:∀(i:Nat) (f:Field),fs[i]? =some f->DataW.trod enc Tryz.prog w 0 (λ_=>true) held m f.type ((cs.drop f.offset).take (Tryz.prog.cellsOf f.type))=xs[i]?)(i:Nat){f:Field}(h:fs[i]? =some f){e:Nat}(ht:Tryz.prog.underlying f.type=some (.slice e))(hn:Tryz.prog.cellsOf f.type=1):∃a n c,At cs f.offset [.slice a n c]:=by
 obtain⟨x,h⟩:=fR ck hf i h hn;rcases Go.Deep.open_slice ht h with⟨e,_⟩|⟨a,len,cap,m,nn,D,Pl,e,_⟩
 ·exact⟨none,0,0,.one (u7 e)⟩
 exact⟨some a,len,cap,.one (u7 e)⟩
theorem fL{α:Type}{el:α->Array Value}{n:Nat}(q:α->Prop){cs:List Value}{fs:Array Field}(ck:xs.length=fs.size)(hf:∀(i:Nat) (f:Field),fs[i]? =some f->DataW.trod enc Tryz.prog w 0 (λ_=>true) held m f.type ((cs.drop f.offset).take (Tryz.prog.cellsOf f.type))=xs[i]?)(i:Nat){f:Field}(h:fs[i]? =some f)(hn:0<n){e:Nat}(ht:Tryz.prog.underlying f.type=some (.slice e))(h1:Tryz.prog.cellsOf f.type=1)(hc:Tryz.prog.cellsOf e=n)(pK:∀eu m y,eu.length=n->DataW.trod enc Tryz.prog w 0 (λ_=>true) held m e eu=some y->∃z,eu=(el z).toList/\q z):∃a xs cap,At cs f.offset [.slice a xs.length cap]/\ah el n w.heap.size w a xs/\(∀z∈xs,q z)/\xs.length<=maxLen:=by
 obtain⟨x,h⟩:=fR ck hf i h h1;obtain⟨a,xs,c,e2,h2⟩:=sl_in q hn ht hc h pK;exact⟨a,xs,c,.one (u7 e2),h2⟩
theorem UX(eu:List Value)(m:Nat)(y:DataW H×List MemPlace)(hl:eu.length=5)(h:DataW.trod enc Tryz.prog w 0 (λ_=>true) held m 233 eu=some y):∃z:Ch,eu=(eR z).toList/\ChI z:=by
 obtain⟨x0,m0,rfl,_,_,l0,f0⟩:=DataW.trod_struct Tryz.underlying233 h;obtain⟨n1,e1,w1⟩:=fI l0 f0 0 rfl;obtain⟨n2,e2,w2⟩:=fI l0 f0 1 rfl;obtain⟨n3,e3,w3⟩:=fI l0 f0 2 rfl;obtain⟨n4,e4,w4⟩:=fI l0 f0 3 rfl;obtain⟨n5,e5,w5⟩:=fI l0 f0 4 rfl;have A:=e1.app (e2.app (e3.app (e4.app (e5))));exact⟨(⟨n1,n2,n3,n4,n5⟩:Ch),A.all hl,⟨w1,w2,w3,w4,w5⟩⟩
theorem UY(eu:List Value)(m:Nat)(y:DataW H×List MemPlace)(hl:eu.length=4)(h:DataW.trod enc Tryz.prog w 0 (λ_=>true) held m 164 eu=some y):∃z:Bx,eu=(tC z).toList/\(BxI z/\qN w.heap.size w z.w):=by
 obtain⟨x0,m0,rfl,_,_,l0,f0⟩:=DataW.trod_struct Tryz.underlying164 h;obtain⟨n1,e1,w1⟩:=fI l0 f0 0 rfl;obtain⟨n2,e2,w2⟩:=fI l0 f0 1 rfl;obtain⟨y3,g3⟩:=fR l0 f0 2 rfl J4;obtain⟨x4,m4,_,_,_,l4,f4⟩:=DataW.trod_struct Tryz.underlying162 g3;obtain⟨n5,e5,w5⟩:=fI l4 f4 0 rfl;obtain⟨a6,c6,b6,e6,s6,q6,k6⟩:=fL (el:=Qf) (n:=1) (λ_=>True) l4 f4 1 rfl (by decide) Tryz.underlying64 NU sz5 u8_in;have A:=e1.app (e2.app (e5.sub.app (e6.sub)));exact⟨(⟨n1,n2,⟨n5,a6,b6,c6⟩⟩:Bx),A.all hl,⟨⟨w1,w2,w5⟩,J6 s6⟩⟩
theorem UZ(eu:List Value)(m:Nat)(y:DataW H×List MemPlace)(hl:eu.length=3)(h:DataW.trod enc Tryz.prog w 0 (λ_=>true) held m 166 eu=some y):∃z:We,eu=(sH z).toList/\(WeI z/\qN w.heap.size w z.w):=by
 obtain⟨x0,m0,rfl,_,_,l0,f0⟩:=DataW.trod_struct Tryz.underlying166 h;obtain⟨n1,e1,w1⟩:=fI l0 f0 0 rfl;obtain⟨y2,g2⟩:=fR l0 f0 1 rfl J4;obtain⟨x3,m3,_,_,_,l3,f3⟩:=DataW.trod_struct Tryz.underlying162 g2;obtain⟨n4,e4,w4⟩:=fI l3 f3 0 rfl;obtain⟨a5,c5,b5,e5,s5,q5,k5⟩:=fL (el:=Qf) (n:=1) (λ_=>True) l3 f3 1 rfl (by decide) Tryz.underlying64 NU sz5 u8_in;have A:=e1.app (e4.sub.app (e5.sub));exact⟨(⟨n1,⟨n4,a5,b5,c5⟩⟩:We),A.all hl,⟨⟨w1,w4⟩,J6 s5⟩⟩
theorem U0(eu:List Value)(m:Nat)(y:DataW H×List MemPlace)(hl:eu.length=73)(h:DataW.trod enc Tryz.prog w 0 (λ_=>true) held m 99 eu=some y):∃z:Cm,eu=(dZ z).toList/\(HT z/\dQ w.heap.size w z):=by
 obtain⟨x0,m0,rfl,_,_,l0,f0⟩:=DataW.trod_struct Tryz.underlying99 h;obtain⟨n1,e1,w1⟩:=fI l0 f0 0 rfl;obtain⟨n2,e2,w2⟩:=fI l0 f0 1 rfl;obtain⟨d3,w3,e3⟩:=fD l0 f0 2 rfl Tryz.underlying34 s9;obtain⟨n4,e4,w4⟩:=fI l0 f0 3 rfl;obtain⟨a5,c5,b5,e5,s5,q5,k5⟩:=fL (el:=eR) (n:=5) ChI l0 f0 4 rfl (by decide) Tryz.underlying95 afu UW UX;obtain⟨a6,c6,b6,e6,s6,q6,k6⟩:=fL (el:=encI) (n:=1) fO l0 f0 5 rfl (by decide) Tryz.underlying44 afn sz3 NV;obtain⟨a7,c7,b7,e7,s7,q7,k7⟩:=fL (el:=tC) (n:=4) (λz=>BxI z/\qN w.heap.size w z.w) l0 f0 6 rfl (by decide) Tryz.underlying96 afv UT UY;obtain⟨a8,c8,b8,e8,s8,q8,k8⟩:=fL (el:=sH) (n:=3) (λz=>WeI z/\qN w.heap.size w z.w) l0 f0 7 rfl (by decide) Tryz.underlying97 afw UU UZ;obtain⟨d9,w9,e9⟩:=fD l0 f0 8 rfl Tryz.underlying34 s9;obtain⟨y10,g10⟩:=fR l0 f0 9 rfl C1;obtain⟨mL,m11,_,_,_,l11,f11⟩:=DataW.trod_struct Tryz.underlying36 g10;obtain⟨n12,e12,dR⟩:=fI l11 f11 0 rfl;obtain⟨n13,e13,w13⟩:=fI l11 f11 1 rfl;have A:=e1.app (e2.app (e3.app (e4.app (e5.app (e6.app (e7.app (e8.app (e9.app (e12.sub.app (e13.sub))))))))));exact⟨({folder:=n1,epoch:=n2,par:=d3,author:=n4,chs:=c5,ca:=a5,cc:=b5,path:=c6,pa:=a6,pc:=b6,bxs:=c7,ba:=a7,bc:=b7,wes:=c8,wa:=a8,wc:=b8,conf:=d9,sr:=n12,ss:=n13}:Cm),A.all hl,⟨{folder:=w1,epoch:=w2,par:=w3,author:=w4,chs:=q5,path:=q6,bxs:=λx hx=>(q7 x hx).1,wes:=λx hx=>(q8 x hx).1,conf:=w9,sr:=dR,ss:=w13,lim:=⟨C2 k7,C2 k8⟩},⟨s5,s6,s7,s8,λx hx=>(q7 x hx).2,λx hx=>(q8 x hx).2⟩⟩⟩
theorem U1(eu:List Value)(m:Nat)(y:DataW H×List MemPlace)(hl:eu.length=33)(h:DataW.trod enc Tryz.prog w 0 (λ_=>true) held m 50 eu=some y):∃z:Fo,eu=(rJ z).toList/\True:=by
 obtain⟨x0,m0,rfl,_,_,l0,f0⟩:=DataW.trod_struct Tryz.underlying50 h;obtain⟨n1,e1,w1⟩:=fI l0 f0 0 rfl;obtain⟨d2,w2,e2⟩:=fD l0 f0 1 rfl Tryz.underlying34 s9;have A:=e1.app (e2);exact⟨(⟨n1,d2⟩:Fo),A.all hl,trivial⟩
theorem U2(eu:List Value)(m:Nat)(y:DataW H×List MemPlace)(hl:eu.length=40)(h:DataW.trod enc Tryz.prog w 0 (λ_=>true) held m 38 eu=some y):∃z:Lk,eu=(lkC z).toList/\cW z:=by
 obtain⟨x0,m0,rfl,_,_,l0,f0⟩:=DataW.trod_struct Tryz.underlying38 h;obtain⟨n1,e1,w1⟩:=fI l0 f0 0 rfl;obtain⟨n2,e2,w2⟩:=fI l0 f0 1 rfl;obtain⟨n3,e3,w3⟩:=fI l0 f0 2 rfl;obtain⟨n4,e4,w4⟩:=fI l0 f0 3 rfl;obtain⟨n5,e5,w5⟩:=fI l0 f0 4 rfl;obtain⟨n6,e6⟩:=fB l0 f0 5 rfl;obtain⟨d7,w7,e7⟩:=fD l0 f0 6 rfl Tryz.underlying34 s9;obtain⟨y8,g8⟩:=fR l0 f0 7 rfl C1;obtain⟨x9,m9,_,_,_,l9,f9⟩:=DataW.trod_struct Tryz.underlying36 g8;obtain⟨n10,U3,eK⟩:=fI l9 f9 0 rfl;obtain⟨n11,Mn,Q2⟩:=fI l9 f9 1 rfl;have A:=e1.app (e2.app (e3.app (e4.app (e5.app (e6.app (e7.app (U3.sub.app (Mn.sub))))))));exact⟨(⟨n1,n2,n3,n4,n5,n6,d7,n10,n11⟩:Lk),A.all hl,⟨w1,w2,w3,w4,w5,w7,eK,Q2⟩⟩
theorem U4(eu:List Value)(m:Nat)(y:DataW H×List MemPlace)(hl:eu.length=68)(h:DataW.trod enc Tryz.prog w 0 (λ_=>true) held m 59 eu=some y):∃z:Fa,eu=(gD z).toList/\kL z:=by
 obtain⟨x0,m0,rfl,_,_,l0,f0⟩:=DataW.trod_struct Tryz.underlying59 h;obtain⟨d1,w1,e1⟩:=fD l0 f0 0 rfl Tryz.underlying34 s9;obtain⟨d2,w2,e2⟩:=fD l0 f0 1 rfl Tryz.underlying34 s9;obtain⟨n3,e3,w3⟩:=fI l0 f0 2 rfl;obtain⟨n4,e4,w4⟩:=fI l0 f0 3 rfl;obtain⟨y5,g5⟩:=fR l0 f0 4 rfl C1;obtain⟨x6,m6,_,_,_,l6,f6⟩:=DataW.trod_struct Tryz.underlying36 g5;obtain⟨n7,e7,w7⟩:=fI l6 f6 0 rfl;obtain⟨n8,e8,w8⟩:=fI l6 f6 1 rfl;have A:=e1.app (e2.app (e3.app (e4.app (e7.sub.app (e8.sub)))));exact⟨(⟨d1,d2,n3,n4,n7,n8⟩:Fa),A.all hl,⟨w1,w2,w3,w4⟩⟩
theorem pl_in(eu:List Value)(m:Nat)(y:DataW H×List MemPlace)(hl:eu.length=5)(h:DataW.trod enc Tryz.prog w 0 (λ_=>true) held m 135 eu=some y):∃z:Pl,eu=(plA z).toList/\True:=by
 obtain⟨x0,m0,rfl,_,_,l0,f0⟩:=DataW.trod_struct Tryz.underlying135 h;obtain⟨n1,e1,w1⟩:=fI l0 f0 0 rfl;obtain⟨n2,e2,w2⟩:=fI l0 f0 1 rfl;obtain⟨n3,e3,w3⟩:=fI l0 f0 2 rfl;obtain⟨n4,e4,w4⟩:=fI l0 f0 3 rfl;obtain⟨n5,e5⟩:=fT l0 f0 4 rfl;have A:=e1.app (e2.app (e3.app (e4.app (e5))));exact⟨(⟨n1,n2,n3,n4,n5⟩:Pl),A.all hl,trivial⟩
theorem rc_in(hl:cs.size=8)(h:DataW.trod enc Tryz.prog w 0 (λ_=>true) held m 31 cs.toList=some y):∃s:Sc,cs=rdA s/\xI s/\ah rJ 33 w.heap.size w s.fa s.fos/\ah dZ 73 w.heap.size w s.la s.cs/\(∀c∈s.cs,dQ w.heap.size w c)/\ah lkC 40 w.heap.size w s.ka s.lks/\ah gD 68 w.heap.size w s.xa s.fas:=by
 obtain⟨x0,m0,rfl,_,_,l0,f0⟩:=DataW.trod_struct Tryz.underlying31 h;obtain⟨a1,c1,b1,e1,s1,q1,k1⟩:=fL (el:=rJ) (n:=33) (λ_=>True) l0 f0 0 rfl (by decide) Tryz.underlying22 aff afo U1;obtain⟨a2,c2,b2,e2⟩:=fS l0 f0 1 rfl Tryz.underlying23 afg;obtain⟨a3,c3,b3,e3,s3,q3,k3⟩:=fL (el:=dZ) (n:=73) (λz=>HT z/\dQ w.heap.size w z) l0 f0 2 rfl (by decide) Tryz.underlying24 afh afx U0;obtain⟨a4,c4,b4,e4⟩:=fS l0 f0 3 rfl Tryz.underlying25 afi;obtain⟨a5,c5,b5,e5⟩:=fS l0 f0 4 rfl Tryz.underlying26 afj;obtain⟨a6,c6,b6,e6,s6,q6,k6⟩:=fL (el:=lkC) (n:=40) cW l0 f0 5 rfl (by decide) Tryz.underlying27 afk sz38 U2;obtain⟨a7,c7,b7,e7,s7,q7,k7⟩:=fL (el:=gD) (n:=68) kL l0 f0 6 rfl (by decide) Tryz.underlying28 afl afp U4;obtain⟨a8,c8,b8,e8⟩:=fS l0 f0 7 rfl Tryz.underlying29 afm;have A:=e1.app (e2.app (e3.app (e4.app (e5.app (e6.app (e7.app (e8)))))));exact⟨{fos:=c1,fa:=a1,fc:=b1,cs:=c3,la:=a3,lc:=b3,lks:=c6,ka:=a6,kc:=b6,fas:=c7,xa:=a7,xc:=b7,pls:=[],pa:=none,pc:=0,ot:=λi=>[(none,0,0),(a2,c2,b2),(none,0,0),(a4,c4,b4),(a5,c5,b5),(none,0,0),(none,0,0),(a8,c8,b8)].getD i (none,0,0)},A.arr hl,⟨λc hc=>(q3 c hc).1,q6,q7⟩,s1,s3,λc hc=>(q3 c hc).2,s6,s7⟩
theorem lkt_in(hl:cs.size=40)(h:DataW.trod enc Tryz.prog w 0 (λ_=>true) held m 38 cs.toList=some y):∃l,cs=lkC l/\cW l:=by
 obtain⟨x0,m0,rfl,_,_,l0,f0⟩:=DataW.trod_struct Tryz.underlying38 h;obtain⟨n1,e1,w1⟩:=fI l0 f0 0 rfl;obtain⟨n2,e2,w2⟩:=fI l0 f0 1 rfl;obtain⟨n3,e3,w3⟩:=fI l0 f0 2 rfl;obtain⟨n4,e4,w4⟩:=fI l0 f0 3 rfl;obtain⟨n5,e5,w5⟩:=fI l0 f0 4 rfl;obtain⟨n6,e6⟩:=fB l0 f0 5 rfl;obtain⟨d7,w7,e7⟩:=fD l0 f0 6 rfl Tryz.underlying34 s9;obtain⟨y8,g8⟩:=fR l0 f0 7 rfl C1;obtain⟨x9,m9,_,_,_,l9,f9⟩:=DataW.trod_struct Tryz.underlying36 g8;obtain⟨n10,U3,eK⟩:=fI l9 f9 0 rfl;obtain⟨n11,Mn,Q2⟩:=fI l9 f9 1 rfl;have A:=e1.app (e2.app (e3.app (e4.app (e5.app (e6.app (e7.app (U3.sub.app (Mn.sub))))))));exact⟨(⟨n1,n2,n3,n4,n5,n6,d7,n10,n11⟩:Lk),A.arr hl,⟨w1,w2,w3,w4,w5,w7,eK,Q2⟩⟩
theorem im_in(hl:cs.size=74)(h:DataW.trod enc Tryz.prog w 0 (λ_=>true) held m 66 cs.toList=some y):∃x,cs=imA x/\True:=by
 obtain⟨x0,m0,rfl,_,_,l0,f0⟩:=DataW.trod_struct Tryz.underlying66 h;obtain⟨n1,e1,w1⟩:=fI l0 f0 0 rfl;obtain⟨d2,w2,e2⟩:=fD l0 f0 1 rfl Tryz.underlying34 s9;obtain⟨n3,e3,w3⟩:=fI l0 f0 2 rfl;obtain⟨n4,e4,w4⟩:=fI l0 f0 3 rfl;obtain⟨n5,e5,w5⟩:=fI l0 f0 4 rfl;obtain⟨n6,e6,w6⟩:=fI l0 f0 5 rfl;obtain⟨y7,g7⟩:=fR l0 f0 6 rfl afs;obtain⟨x8,m8,_,_,_,l8,f8⟩:=DataW.trod_struct Tryz.underlying63 g7;obtain⟨n9,e9,w9⟩:=fI l8 f8 0 rfl;obtain⟨n10,U3,eK⟩:=fI l8 f8 1 rfl;obtain⟨d11,Q2,Mn⟩:=fD l8 f8 2 rfl Tryz.underlying61 afr;obtain⟨a12,O6,jH,e12⟩:=fS l0 f0 7 rfl Tryz.underlying64 NU;obtain⟨y13,g13⟩:=fR l0 f0 8 rfl C1;obtain⟨ki,m14,_,_,_,l14,f14⟩:=DataW.trod_struct Tryz.underlying36 g13;obtain⟨n15,e15,WG⟩:=fI l14 f14 0 rfl;obtain⟨n16,e16,w16⟩:=fI l14 f14 1 rfl;have A:=e1.app (e2.app (e3.app (e4.app (e5.app (e6.app (e9.sub.app (U3.sub.app (Mn.sub.app (e12.app (e15.sub.app (e16.sub)))))))))));exact⟨(⟨n1,d2,n3,n4,n5,n6,⟨n9,n10,d11⟩,a12,O6,jH,n15,n16⟩:Im),A.arr hl,trivial⟩
end
end Px
