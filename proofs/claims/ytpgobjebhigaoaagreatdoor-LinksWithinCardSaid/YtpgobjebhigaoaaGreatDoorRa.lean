/- What an argument that comes in looks like. No condition beyond those stated. -/
import Derived.Test.YtpgobjebhigaoaaGreatDoorKi
import Derived.Test.YtpgobjebhigaoaaGreatDoorProg
set_option linter.unusedSimpArgs false
set_option linter.unusedVariables false
set_option linter.unusedSectionVars false
set_option linter.unnecessarySimpa false
namespace Px
open Go Go.RowKit Go.Proofs
theorem sz3:Tryz.prog.cellsOf 3=1:=by kernel_rfl
theorem sz4:Tryz.prog.cellsOf 4=1:=by kernel_rfl
theorem sz5:Tryz.prog.cellsOf 5=1:=by kernel_rfl
theorem sz9:Tryz.prog.cellsOf 9=1:=by kernel_rfl
theorem ae4:Tryz.prog.cellsOf 22=1:=by kernel_rfl
theorem ae5:Tryz.prog.cellsOf 23=1:=by kernel_rfl
theorem ae6:Tryz.prog.cellsOf 24=1:=by kernel_rfl
theorem ae7:Tryz.prog.cellsOf 25=1:=by kernel_rfl
theorem ae8:Tryz.prog.cellsOf 26=1:=by kernel_rfl
theorem ae9:Tryz.prog.cellsOf 27=1:=by kernel_rfl
theorem afa:Tryz.prog.cellsOf 28=1:=by kernel_rfl
theorem afb:Tryz.prog.cellsOf 29=1:=by kernel_rfl
theorem sz31:Tryz.prog.cellsOf 31=8:=by kernel_rfl
theorem uU:Tryz.prog.cellsOf 34=32:=by kernel_rfl
theorem HI:Tryz.prog.cellsOf 36=2:=by kernel_rfl
theorem sz38:Tryz.prog.cellsOf 38=40:=by kernel_rfl
theorem afc:Tryz.prog.cellsOf 44=1:=by kernel_rfl
theorem afd:Tryz.prog.cellsOf 50=33:=by kernel_rfl
theorem afe:Tryz.prog.cellsOf 59=68:=by kernel_rfl
theorem UF:Tryz.prog.cellsOf 64=1:=by kernel_rfl
theorem aff:Tryz.prog.cellsOf 95=1:=by kernel_rfl
theorem afg:Tryz.prog.cellsOf 96=1:=by kernel_rfl
theorem afh:Tryz.prog.cellsOf 97=1:=by kernel_rfl
theorem afi:Tryz.prog.cellsOf 99=73:=by kernel_rfl
theorem sz135:Tryz.prog.cellsOf 135=5:=by kernel_rfl
theorem JR:Tryz.prog.cellsOf 162=2:=by kernel_rfl
theorem UG:Tryz.prog.cellsOf 164=4:=by kernel_rfl
theorem UH:Tryz.prog.cellsOf 166=3:=by kernel_rfl
theorem UI:Tryz.prog.cellsOf 233=5:=by kernel_rfl
section
variable {H:Type} {enc:TypeId×Value->H} {w:World} {held:Bool}
theorem JS{n:Int}(h:(Lit.int .u8 n).wf=true):0<=n/\n<256:=by have:=bounds_u8 h;omega
theorem CE{n:Nat}(h:n<=maxLen):n<=9223372036854775807:=Nat.le_trans h (by decide)
variable {cs:Array Value} {xs:List (DataW H×List MemPlace)} {N b e j k m:Nat} {a:Option Addr} {v:Value}
theorem CF{cs:List Value}{off:Nat}(h:((cs.drop off).take k)[j]? =some v):cs[off+j]? =some v:=by
 rw[List.getElem?_take]at h;split at h
 ·rwa[List.getElem?_drop]at h
 cases h
theorem HJ{cs r:List Value}(hs:cs.length=r.length)(h:∀i,i<r.length->cs[i]? =r[i]?):cs=r:=by
 apply List.ext_getElem?;intro i;by_cases hi:i<r.length
 ·exact h i hi
 rw[List.getElem?_eq_none (by omega),List.getElem?_eq_none (by omega)]
def PR (u:UInt8):Array Value:=#[.int .u8 (u.toNat:Int)]
theorem u8_in(eo:List Value)(m:Nat)(y:DataW H×List MemPlace)(_:eo.length=1)(h:DataW.trod enc Tryz.prog w 0 (λ_=>true) held m 5 eo=some y):∃z,eo=(PR z).toList/\True:=by
 obtain⟨n,e,_,hw⟩:=DataW.trod_int Tryz.underlying5 h;obtain⟨h1,h2⟩:=JS hw;refine⟨UInt8.ofNat n.toNat,?_,trivial⟩;have e2:((UInt8.ofNat n.toNat).toNat:Int)=n:=by rw[show(UInt8.ofNat n.toNat).toNat=n.toNat%256 from rfl];omega
 rw[e];unfold PR;rw[e2]
theorem JT{l:List UInt8}(h:ah PR 1 N w a l):mU N w a l:=by
 rcases h with h|⟨b,off,cs,t,fr,h1,h2,h3,h4⟩
 ·exact .inl h
 by_cases h0:l=[]
 ·exact .inl h0
 refine .inr ⟨b,off,h1,h2,cs,t,fr,h3,?_,λi hi=>?_⟩
 ·have hp:0<l.length:=List.length_pos_iff.2 h0;have:=(h4 (l.length-1) (by omega)).1;omega
 obtain⟨h5,h6⟩:=h4 i hi;have h7:=uJ h6 0 (by decide);rw[Nat.add_zero,Nat.mul_one]at h7;rw[h7];simp[PR,fU,hi]
theorem Ny(eo:List Value)(m:Nat)(y:DataW H×List MemPlace)(_:eo.length=1)(h:DataW.trod enc Tryz.prog w 0 (λ_=>true) held m 3 eo=some y):∃z,eo=(encI z).toList/\fY z:=by
 obtain⟨n,e,_,hw⟩:=DataW.trod_int Tryz.underlying3 h;exact⟨n,e,wfI hw⟩
def At (cs:List Value) (o:Nat) (l:List Value):Prop:=∀k,k<l.length->cs[o+k]? =l[k]?
theorem At.one{cs:List Value}{o:Nat}(h:cs[o]? =some v):At cs o [v]:=λk hk=>by
 obtain rfl:k=0:=by simpa using hk
 exact h
theorem At.app{cs l l':List Value}{o o':Nat}(h:At cs o l)(h':At cs o' l')(e:o'=o+l.length:=by rfl):At cs o (l++l'):=λk hk=>by
 by_cases hl:k<l.length
 ·rw[List.getElem?_append_left hl];exact h k hl
 rw[List.getElem?_append_right (by omega)];have:=h' (k-l.length) (by rw[List.length_append]at hk;omega);rwa[e,show o+l.length+(k-l.length)=o+k by omega]at this
theorem At.sub{cs l:List Value}{n o:Nat}(h:At ((cs.drop b).take n) o l):At cs (b+o) l:=λk hk=>by
 have:=h k hk;rw[List.getElem?_eq_getElem hk]at this;rw[List.getElem?_eq_getElem hk,Nat.add_assoc];exact CF this
theorem At.all{cs l:List Value}(h:At cs 0 l)(hl:cs.length=l.length):cs=l:=HJ hl λi hi=>by have:=h i hi;rwa[Nat.zero_add]at this
theorem At.arr{l:List Value}(h:At cs.toList 0 l)(hl:cs.size=l.length):cs=l.toArray:=Nz hl λi hi=>by have:=h i hi;rwa[Nat.zero_add,Array.getElem?_toList]at this
theorem fR{cs:List Value}{fs:Array Field}(cb:xs.length=fs.size)(hf:∀(i:Nat) (f:Field),fs[i]? =some f->DataW.trod enc Tryz.prog w 0 (λ_=>true) held m f.type ((cs.drop f.offset).take (Tryz.prog.cellsOf f.type))=xs[i]?)(i:Nat){f:Field}(h:fs[i]? =some f){n:Nat}(hc:Tryz.prog.cellsOf f.type=n):∃x,DataW.trod enc Tryz.prog w 0 (λ_=>true) held m f.type ((cs.drop f.offset).take n)=some x:=by
 have h1:=(Array.getElem?_eq_some_iff.1 h).1;rw[<-hc,hf i f h];exact⟨_,List.getElem?_eq_getElem (by omega)⟩
theorem fI{cs:List Value}{fs:Array Field}(cb:xs.length=fs.size)(hf:∀(i:Nat) (f:Field),fs[i]? =some f->DataW.trod enc Tryz.prog w 0 (λ_=>true) held m f.type ((cs.drop f.offset).take (Tryz.prog.cellsOf f.type))=xs[i]?)(i:Nat){f:Field}(h:fs[i]? =some f)(ht:f.type=3:=by rfl):∃n,At cs f.offset [.int .i64 n]/\fY n:=by
 obtain⟨x,h⟩:=fR cb hf i h (n:=1) (by rw[ht];exact sz3);obtain⟨n,e,_,hw⟩:=DataW.trod_int (by rw[ht];exact Tryz.underlying3) h;exact⟨n,.one (uV e),wfI hw⟩
theorem fB{cs:List Value}{fs:Array Field}(cb:xs.length=fs.size)(hf:∀(i:Nat) (f:Field),fs[i]? =some f->DataW.trod enc Tryz.prog w 0 (λ_=>true) held m f.type ((cs.drop f.offset).take (Tryz.prog.cellsOf f.type))=xs[i]?)(i:Nat){f:Field}(h:fs[i]? =some f)(ht:f.type=4:=by rfl):∃n,At cs f.offset [.bool n]:=by
 obtain⟨x,h⟩:=fR cb hf i h (n:=1) (by rw[ht];exact sz4);obtain⟨n,e,_⟩:=DataW.trod_bool (by rw[ht];exact Tryz.underlying4) h;exact⟨n,.one (uV e)⟩
theorem fT{cs:List Value}{fs:Array Field}(cb:xs.length=fs.size)(hf:∀(i:Nat) (f:Field),fs[i]? =some f->DataW.trod enc Tryz.prog w 0 (λ_=>true) held m f.type ((cs.drop f.offset).take (Tryz.prog.cellsOf f.type))=xs[i]?)(i:Nat){f:Field}(h:fs[i]? =some f)(ht:f.type=9:=by rfl):∃n,At cs f.offset [.string n]:=by
 obtain⟨x,h⟩:=fR cb hf i h (n:=1) (by rw[ht];exact sz9);obtain⟨n,e,_⟩:=DataW.trod_string (by rw[ht];exact Tryz.underlying9) h;exact⟨n,.one (uV e)⟩
theorem fD{cs:List Value}{fs:Array Field}(cb:xs.length=fs.size)(hf:∀(i:Nat) (f:Field),fs[i]? =some f->DataW.trod enc Tryz.prog w 0 (λ_=>true) held m f.type ((cs.drop f.offset).take (Tryz.prog.cellsOf f.type))=xs[i]?)(i:Nat){f:Field}(h:fs[i]? =some f)(ht:Tryz.prog.underlying f.type=some (.array 32 5))(hn:Tryz.prog.cellsOf f.type=32):∃d,jh d/\At cs f.offset (dg d).toList:=by
 obtain⟨x,h⟩:=fR cb hf i h hn;obtain⟨xs,m,rfl,hx,hl,cb,pE⟩:=DataW.trod_array ht h;have key:∀i,i<32->∃v,(0<=v/\v<256)/\cs[f.offset+i]? =some (.int .u8 v):=λi hi=>by
  have e1:=pE i hi;rw[sz5,Nat.mul_one,List.getElem?_eq_getElem (by omega)]at e1;obtain⟨q,e2,_,e3⟩:=DataW.trod_int Tryz.underlying5 e1;exact⟨q,JS e3,CF (uV e2)⟩
 refine⟨λi=>if hi:i<32 then Classical.choose (key i hi)else 0,λi=>?_,λk hk=>?_⟩
 ·by_cases hi:i<32
  ·simp only[dif_pos hi];exact(Classical.choose_spec (key i hi)).1
  simp only[dif_neg hi];exact⟨by decide,by decide⟩
 have hk:k<32:=hk;exact(Classical.choose_spec (key k hk)).2.trans ((Array.getElem?_toList ..).trans ((pC _ k hk).trans (by simp only[dif_pos hk]))).symm
theorem fS{cs:List Value}{fs:Array Field}(cb:xs.length=fs.size)(hf:∀(i:Nat) (f:Field),fs[i]? =some f->DataW.trod enc Tryz.prog w 0 (λ_=>true) held m f.type ((cs.drop f.offset).take (Tryz.prog.cellsOf f.type))=xs[i]?)(i:Nat){f:Field}(h:fs[i]? =some f)(ht:Tryz.prog.underlying f.type=some (.slice e))(hn:Tryz.prog.cellsOf f.type=1):∃a n c,At cs f.offset [.slice a n c]:=by
 obtain⟨x,h⟩:=fR cb hf i h hn;rcases Go.Deep.open_slice ht h with⟨e,_⟩|⟨a,len,cap,m,nn,D,Pl,e,_⟩
 ·exact⟨none,0,0,.one (uV e)⟩
 exact⟨some a,len,cap,.one (uV e)⟩
theorem fL{α:Type}{el:α->Array Value}{n:Nat}(q:α->Prop){cs:List Value}{fs:Array Field}(cb:xs.length=fs.size)(hf:∀(i:Nat) (f:Field),fs[i]? =some f->DataW.trod enc Tryz.prog w 0 (λ_=>true) held m f.type ((cs.drop f.offset).take (Tryz.prog.cellsOf f.type))=xs[i]?)(i:Nat){f:Field}(h:fs[i]? =some f)(hn:0<n)(ht:Tryz.prog.underlying f.type=some (.slice e))(h1:Tryz.prog.cellsOf f.type=1)(hc:Tryz.prog.cellsOf e=n)(pE:∀eo m y,eo.length=n->DataW.trod enc Tryz.prog w 0 (λ_=>true) held m e eo=some y->∃z,eo=(el z).toList/\q z):∃a xs cap,At cs f.offset [.slice a xs.length cap]/\ah el n w.heap.size w a xs/\(∀z∈xs,q z)/\xs.length<=maxLen:=by
 obtain⟨x,h⟩:=fR cb hf i h h1;obtain⟨a,xs,c,e2,h2⟩:=sl_in q hn ht hc h pE;exact⟨a,xs,c,.one (uV e2),h2⟩
theorem UJ(eo:List Value)(m:Nat)(y:DataW H×List MemPlace)(hl:eo.length=5)(h:DataW.trod enc Tryz.prog w 0 (λ_=>true) held m 233 eo=some y):∃z:Ch,eo=(eR z).toList/\ChI z:=by
 obtain⟨x0,m0,rfl,_,_,l0,f0⟩:=DataW.trod_struct Tryz.underlying233 h;obtain⟨n1,e1,w1⟩:=fI l0 f0 0 rfl;obtain⟨n2,e2,w2⟩:=fI l0 f0 1 rfl;obtain⟨n3,e3,w3⟩:=fI l0 f0 2 rfl;obtain⟨n4,e4,w4⟩:=fI l0 f0 3 rfl;obtain⟨n5,e5,w5⟩:=fI l0 f0 4 rfl;have A:=e1.app (e2.app (e3.app (e4.app (e5))));exact⟨(⟨n1,n2,n3,n4,n5⟩:Ch),A.all hl,⟨w1,w2,w3,w4,w5⟩⟩
theorem UK(eo:List Value)(m:Nat)(y:DataW H×List MemPlace)(hl:eo.length=4)(h:DataW.trod enc Tryz.prog w 0 (λ_=>true) held m 164 eo=some y):∃z:Bx,eo=(tk z).toList/\(BxI z/\qC w.heap.size w z.w):=by
 obtain⟨x0,m0,rfl,_,_,l0,f0⟩:=DataW.trod_struct Tryz.underlying164 h;obtain⟨n1,e1,w1⟩:=fI l0 f0 0 rfl;obtain⟨n2,e2,w2⟩:=fI l0 f0 1 rfl;obtain⟨y3,g3⟩:=fR l0 f0 2 rfl JR;obtain⟨x4,m4,_,_,_,l4,f4⟩:=DataW.trod_struct Tryz.underlying162 g3;obtain⟨n5,e5,w5⟩:=fI l4 f4 0 rfl;obtain⟨a6,c6,b6,e6,s6,q6,k6⟩:=fL (el:=PR) (n:=1) (λ_=>True) l4 f4 1 rfl (by decide) Tryz.underlying64 UF sz5 u8_in;have A:=e1.app (e2.app (e5.sub.app (e6.sub)));exact⟨(⟨n1,n2,⟨n5,a6,b6,c6⟩⟩:Bx),A.all hl,⟨⟨w1,w2,w5⟩,JT s6⟩⟩
theorem UL(eo:List Value)(m:Nat)(y:DataW H×List MemPlace)(hl:eo.length=3)(h:DataW.trod enc Tryz.prog w 0 (λ_=>true) held m 166 eo=some y):∃z:We,eo=(sw z).toList/\(WeI z/\qC w.heap.size w z.w):=by
 obtain⟨x0,m0,rfl,_,_,l0,f0⟩:=DataW.trod_struct Tryz.underlying166 h;obtain⟨n1,e1,w1⟩:=fI l0 f0 0 rfl;obtain⟨y2,g2⟩:=fR l0 f0 1 rfl JR;obtain⟨x3,m3,_,_,_,l3,f3⟩:=DataW.trod_struct Tryz.underlying162 g2;obtain⟨n4,e4,w4⟩:=fI l3 f3 0 rfl;obtain⟨a5,c5,b5,e5,s5,q5,k5⟩:=fL (el:=PR) (n:=1) (λ_=>True) l3 f3 1 rfl (by decide) Tryz.underlying64 UF sz5 u8_in;have A:=e1.app (e4.sub.app (e5.sub));exact⟨(⟨n1,⟨n4,a5,b5,c5⟩⟩:We),A.all hl,⟨⟨w1,w4⟩,JT s5⟩⟩
theorem UM(eo:List Value)(m:Nat)(y:DataW H×List MemPlace)(hl:eo.length=73)(h:DataW.trod enc Tryz.prog w 0 (λ_=>true) held m 99 eo=some y):∃z:Cm,eo=(dY z).toList/\(HD z/\dJ w.heap.size w z):=by
 obtain⟨x0,m0,rfl,_,_,l0,f0⟩:=DataW.trod_struct Tryz.underlying99 h;obtain⟨n1,e1,w1⟩:=fI l0 f0 0 rfl;obtain⟨n2,e2,w2⟩:=fI l0 f0 1 rfl;obtain⟨d3,w3,e3⟩:=fD l0 f0 2 rfl Tryz.underlying34 uU;obtain⟨n4,e4,w4⟩:=fI l0 f0 3 rfl;obtain⟨a5,c5,b5,e5,s5,q5,k5⟩:=fL (el:=eR) (n:=5) ChI l0 f0 4 rfl (by decide) Tryz.underlying95 aff UI UJ;obtain⟨a6,c6,b6,e6,s6,q6,k6⟩:=fL (el:=encI) (n:=1) fY l0 f0 5 rfl (by decide) Tryz.underlying44 afc sz3 Ny;obtain⟨a7,c7,b7,e7,s7,q7,k7⟩:=fL (el:=tk) (n:=4) (λz=>BxI z/\qC w.heap.size w z.w) l0 f0 6 rfl (by decide) Tryz.underlying96 afg UG UK;obtain⟨a8,c8,b8,e8,s8,q8,k8⟩:=fL (el:=sw) (n:=3) (λz=>WeI z/\qC w.heap.size w z.w) l0 f0 7 rfl (by decide) Tryz.underlying97 afh UH UL;obtain⟨d9,w9,e9⟩:=fD l0 f0 8 rfl Tryz.underlying34 uU;obtain⟨y10,g10⟩:=fR l0 f0 9 rfl HI;obtain⟨ir,m11,_,_,_,l11,f11⟩:=DataW.trod_struct Tryz.underlying36 g10;obtain⟨n12,e12,dK⟩:=fI l11 f11 0 rfl;obtain⟨n13,e13,w13⟩:=fI l11 f11 1 rfl;have A:=e1.app (e2.app (e3.app (e4.app (e5.app (e6.app (e7.app (e8.app (e9.app (e12.sub.app (e13.sub))))))))));exact⟨({folder:=n1,epoch:=n2,par:=d3,author:=n4,chs:=c5,ca:=a5,cc:=b5,path:=c6,pa:=a6,pc:=b6,bxs:=c7,ba:=a7,bc:=b7,wes:=c8,wa:=a8,wc:=b8,conf:=d9,sr:=n12,ss:=n13}:Cm),A.all hl,⟨{folder:=w1,epoch:=w2,par:=w3,author:=w4,chs:=q5,path:=q6,bxs:=λx hx=>(q7 x hx).1,wes:=λx hx=>(q8 x hx).1,conf:=w9,sr:=dK,ss:=w13,lim:=⟨CE k7,CE k8⟩},⟨s5,s6,s7,s8,λx hx=>(q7 x hx).2,λx hx=>(q8 x hx).2⟩⟩⟩
theorem UN(eo:List Value)(m:Nat)(y:DataW H×List MemPlace)(hl:eo.length=33)(h:DataW.trod enc Tryz.prog w 0 (λ_=>true) held m 50 eo=some y):∃z:Fo,eo=(pg z).toList/\True:=by
 obtain⟨x0,m0,rfl,_,_,l0,f0⟩:=DataW.trod_struct Tryz.underlying50 h;obtain⟨n1,e1,w1⟩:=fI l0 f0 0 rfl;obtain⟨d2,w2,e2⟩:=fD l0 f0 1 rfl Tryz.underlying34 uU;have A:=e1.app (e2);exact⟨(⟨n1,d2⟩:Fo),A.all hl,trivial⟩
theorem UO(eo:List Value)(m:Nat)(y:DataW H×List MemPlace)(hl:eo.length=40)(h:DataW.trod enc Tryz.prog w 0 (λ_=>true) held m 38 eo=some y):∃z:Lk,eo=(lkC z).toList/\cT z:=by
 obtain⟨x0,m0,rfl,_,_,l0,f0⟩:=DataW.trod_struct Tryz.underlying38 h;obtain⟨n1,e1,w1⟩:=fI l0 f0 0 rfl;obtain⟨n2,e2,w2⟩:=fI l0 f0 1 rfl;obtain⟨n3,e3,w3⟩:=fI l0 f0 2 rfl;obtain⟨n4,e4,w4⟩:=fI l0 f0 3 rfl;obtain⟨n5,e5,w5⟩:=fI l0 f0 4 rfl;obtain⟨n6,e6⟩:=fB l0 f0 5 rfl;obtain⟨d7,w7,e7⟩:=fD l0 f0 6 rfl Tryz.underlying34 uU;obtain⟨y8,g8⟩:=fR l0 f0 7 rfl HI;obtain⟨x9,m9,_,_,_,l9,f9⟩:=DataW.trod_struct Tryz.underlying36 g8;obtain⟨n10,e10,eM⟩:=fI l9 f9 0 rfl;obtain⟨n11,S2,VR⟩:=fI l9 f9 1 rfl;have A:=e1.app (e2.app (e3.app (e4.app (e5.app (e6.app (e7.app (e10.sub.app (S2.sub))))))));exact⟨(⟨n1,n2,n3,n4,n5,n6,d7,n10,n11⟩:Lk),A.all hl,⟨w1,w2,w3,w4,w5,w7,eM,VR⟩⟩
theorem UP(eo:List Value)(m:Nat)(y:DataW H×List MemPlace)(hl:eo.length=68)(h:DataW.trod enc Tryz.prog w 0 (λ_=>true) held m 59 eo=some y):∃z:Fa,eo=(gY z).toList/\kD z:=by
 obtain⟨x0,m0,rfl,_,_,l0,f0⟩:=DataW.trod_struct Tryz.underlying59 h;obtain⟨d1,w1,e1⟩:=fD l0 f0 0 rfl Tryz.underlying34 uU;obtain⟨d2,w2,e2⟩:=fD l0 f0 1 rfl Tryz.underlying34 uU;obtain⟨n3,e3,w3⟩:=fI l0 f0 2 rfl;obtain⟨n4,e4,w4⟩:=fI l0 f0 3 rfl;obtain⟨y5,g5⟩:=fR l0 f0 4 rfl HI;obtain⟨x6,m6,_,_,_,l6,f6⟩:=DataW.trod_struct Tryz.underlying36 g5;obtain⟨n7,e7,w7⟩:=fI l6 f6 0 rfl;obtain⟨n8,e8,w8⟩:=fI l6 f6 1 rfl;have A:=e1.app (e2.app (e3.app (e4.app (e7.sub.app (e8.sub)))));exact⟨(⟨d1,d2,n3,n4,n7,n8⟩:Fa),A.all hl,⟨w1,w2,w3,w4⟩⟩
theorem pl_in(eo:List Value)(m:Nat)(y:DataW H×List MemPlace)(hl:eo.length=5)(h:DataW.trod enc Tryz.prog w 0 (λ_=>true) held m 135 eo=some y):∃z:Pl,eo=(plA z).toList/\True:=by
 obtain⟨x0,m0,rfl,_,_,l0,f0⟩:=DataW.trod_struct Tryz.underlying135 h;obtain⟨n1,e1,w1⟩:=fI l0 f0 0 rfl;obtain⟨n2,e2,w2⟩:=fI l0 f0 1 rfl;obtain⟨n3,e3,w3⟩:=fI l0 f0 2 rfl;obtain⟨n4,e4,w4⟩:=fI l0 f0 3 rfl;obtain⟨n5,e5⟩:=fT l0 f0 4 rfl;have A:=e1.app (e2.app (e3.app (e4.app (e5))));exact⟨(⟨n1,n2,n3,n4,n5⟩:Pl),A.all hl,trivial⟩
theorem rc_in{y:DataW H×List MemPlace}(hl:cs.size=8)(h:DataW.trod enc Tryz.prog w 0 (λ_=>true) held m 31 cs.toList=some y):∃s:Sc,cs=rdA s/\uT s/\ah pg 33 w.heap.size w s.fa s.fos/\ah dY 73 w.heap.size w s.la s.cs/\(∀c∈s.cs,dJ w.heap.size w c)/\ah lkC 40 w.heap.size w s.ka s.lks/\ah gY 68 w.heap.size w s.xa s.fas:=by
 obtain⟨x0,m0,rfl,_,_,l0,f0⟩:=DataW.trod_struct Tryz.underlying31 h;obtain⟨a1,c1,b1,e1,s1,q1,k1⟩:=fL (el:=pg) (n:=33) (λ_=>True) l0 f0 0 rfl (by decide) Tryz.underlying22 ae4 afd UN;obtain⟨a2,c2,b2,e2⟩:=fS l0 f0 1 rfl Tryz.underlying23 ae5;obtain⟨a3,c3,b3,e3,s3,q3,k3⟩:=fL (el:=dY) (n:=73) (λz=>HD z/\dJ w.heap.size w z) l0 f0 2 rfl (by decide) Tryz.underlying24 ae6 afi UM;obtain⟨a4,c4,b4,e4⟩:=fS l0 f0 3 rfl Tryz.underlying25 ae7;obtain⟨a5,c5,b5,e5⟩:=fS l0 f0 4 rfl Tryz.underlying26 ae8;obtain⟨a6,c6,b6,e6,s6,q6,k6⟩:=fL (el:=lkC) (n:=40) cT l0 f0 5 rfl (by decide) Tryz.underlying27 ae9 sz38 UO;obtain⟨a7,c7,b7,e7,s7,q7,k7⟩:=fL (el:=gY) (n:=68) kD l0 f0 6 rfl (by decide) Tryz.underlying28 afa afe UP;obtain⟨a8,c8,b8,e8⟩:=fS l0 f0 7 rfl Tryz.underlying29 afb;have A:=e1.app (e2.app (e3.app (e4.app (e5.app (e6.app (e7.app (e8)))))));exact⟨{fos:=c1,fa:=a1,fc:=b1,cs:=c3,la:=a3,lc:=b3,lks:=c6,ka:=a6,kc:=b6,fas:=c7,xa:=a7,xc:=b7,pls:=[],pa:=none,pc:=0,ot:=λi=>[(none,0,0),(a2,c2,b2),(none,0,0),(a4,c4,b4),(a5,c5,b5),(none,0,0),(none,0,0),(a8,c8,b8)].getD i (none,0,0)},A.arr hl,⟨λc hc=>(q3 c hc).1,q6,q7⟩,s1,s3,λc hc=>(q3 c hc).2,s6,s7⟩
theorem lkt_in{y:DataW H×List MemPlace}(hl:cs.size=40)(h:DataW.trod enc Tryz.prog w 0 (λ_=>true) held m 38 cs.toList=some y):∃l,cs=lkC l/\cT l:=by
 obtain⟨x0,m0,rfl,_,_,l0,f0⟩:=DataW.trod_struct Tryz.underlying38 h;obtain⟨n1,e1,w1⟩:=fI l0 f0 0 rfl;obtain⟨n2,e2,w2⟩:=fI l0 f0 1 rfl;obtain⟨n3,e3,w3⟩:=fI l0 f0 2 rfl;obtain⟨n4,e4,w4⟩:=fI l0 f0 3 rfl;obtain⟨n5,e5,w5⟩:=fI l0 f0 4 rfl;obtain⟨n6,e6⟩:=fB l0 f0 5 rfl;obtain⟨d7,w7,e7⟩:=fD l0 f0 6 rfl Tryz.underlying34 uU;obtain⟨y8,g8⟩:=fR l0 f0 7 rfl HI;obtain⟨x9,m9,_,_,_,l9,f9⟩:=DataW.trod_struct Tryz.underlying36 g8;obtain⟨n10,e10,eM⟩:=fI l9 f9 0 rfl;obtain⟨n11,S2,VR⟩:=fI l9 f9 1 rfl;have A:=e1.app (e2.app (e3.app (e4.app (e5.app (e6.app (e7.app (e10.sub.app (S2.sub))))))));exact⟨(⟨n1,n2,n3,n4,n5,n6,d7,n10,n11⟩:Lk),A.arr hl,⟨w1,w2,w3,w4,w5,w7,eM,VR⟩⟩
end
end Px
