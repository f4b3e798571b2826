/- What an argument that comes in looks like. No condition beyond those stated. -/
import Derived.Test.YtpgobjebhigaoaaGreatDoorKi
import Derived.Test.YtpgobjebhigaoaaGreatDoorProg
set_option linter.unusedSimpArgs false
set_option linter.unusedVariables false
set_option linter.unusedSectionVars false
set_option linter.unnecessarySimpa false
namespace Px
open Go Go.RowKit Go.Proofs
theorem sz3:Tryz.prog.cellsOf 3=1:=by kernel_rfl
theorem sz4:Tryz.prog.cellsOf 4=1:=by kernel_rfl
theorem sz5:Tryz.prog.cellsOf 5=1:=by kernel_rfl
theorem sz9:Tryz.prog.cellsOf 9=1:=by kernel_rfl
theorem ac0:Tryz.prog.cellsOf 22=1:=by kernel_rfl
theorem ac1:Tryz.prog.cellsOf 23=1:=by kernel_rfl
theorem ac2:Tryz.prog.cellsOf 24=1:=by kernel_rfl
theorem ac3:Tryz.prog.cellsOf 25=1:=by kernel_rfl
theorem ac4:Tryz.prog.cellsOf 26=1:=by kernel_rfl
theorem ac5:Tryz.prog.cellsOf 27=1:=by kernel_rfl
theorem ac6:Tryz.prog.cellsOf 28=1:=by kernel_rfl
theorem ac7:Tryz.prog.cellsOf 29=1:=by kernel_rfl
theorem sz31:Tryz.prog.cellsOf 31=8:=by kernel_rfl
theorem tB:Tryz.prog.cellsOf 34=32:=by kernel_rfl
theorem F6:Tryz.prog.cellsOf 36=2:=by kernel_rfl
theorem sz38:Tryz.prog.cellsOf 38=40:=by kernel_rfl
theorem ac8:Tryz.prog.cellsOf 44=1:=by kernel_rfl
theorem ac9:Tryz.prog.cellsOf 50=33:=by kernel_rfl
theorem ada:Tryz.prog.cellsOf 59=68:=by kernel_rfl
theorem S5:Tryz.prog.cellsOf 64=1:=by kernel_rfl
theorem adb:Tryz.prog.cellsOf 95=1:=by kernel_rfl
theorem ade:Tryz.prog.cellsOf 96=1:=by kernel_rfl
theorem adf:Tryz.prog.cellsOf 97=1:=by kernel_rfl
theorem adg:Tryz.prog.cellsOf 99=73:=by kernel_rfl
theorem sz135:Tryz.prog.cellsOf 135=5:=by kernel_rfl
theorem Iq:Tryz.prog.cellsOf 162=2:=by kernel_rfl
theorem S6:Tryz.prog.cellsOf 164=4:=by kernel_rfl
theorem S7:Tryz.prog.cellsOf 166=3:=by kernel_rfl
theorem S9:Tryz.prog.cellsOf 233=5:=by kernel_rfl
section
variable {H:Type} {enc:TypeId×Value->H} {w:World} {held:Bool}
theorem Ir{n:Int}(h:(Lit.int .u8 n).wf=true):0<=n/\n<256:=by have:=bounds_u8 h;omega
theorem Bn{n:Nat}(h:n<=maxLen):n<=9223372036854775807:=Nat.le_trans h (by decide)
variable {cs:Array Value} {xs:List (DataW H×List MemPlace)} {N b e j k m:Nat} {a:Option Addr} {v:Value}
theorem Bo{cs:List Value}{off:Nat}(h:((cs.drop off).take k)[j]? =some v):cs[off+j]? =some v:=by
 rw[List.getElem?_take]at h;split at h
 ·rwa[List.getElem?_drop]at h
 cases h
theorem F7{cs r:List Value}(hs:cs.length=r.length)(h:∀i,i<r.length->cs[i]? =r[i]?):cs=r:=by
 apply List.ext_getElem?;intro i;by_cases hi:i<r.length
 ·exact h i hi
 rw[List.getElem?_eq_none (by omega),List.getElem?_eq_none (by omega)]
def Od (u:UInt8):Array Value:=#[.int .u8 (u.toNat:Int)]
theorem u8_in(dS:List Value)(m:Nat)(y:DataW H×List MemPlace)(_:dS.length=1)(h:DataW.trod enc Tryz.prog w 0 (λ_=>true) held m 5 dS=some y):∃z,dS=(Od z).toList/\True:=by
 obtain⟨n,e,_,hw⟩:=DataW.trod_int Tryz.underlying5 h;obtain⟨h1,h2⟩:=Ir hw;refine⟨UInt8.ofNat n.toNat,?_,trivial⟩;have e2:((UInt8.ofNat n.toNat).toNat:Int)=n:=by rw[show(UInt8.ofNat n.toNat).toNat=n.toNat%256 from rfl];omega
 rw[e];unfold Od;rw[e2]
theorem It{l:List UInt8}(h:ag Od 1 N w a l):mj N w a l:=by
 rcases h with h|⟨b,off,cs,t,fr,h1,h2,h3,h4⟩
 ·exact .inl h
 by_cases h0:l=[]
 ·exact .inl h0
 refine .inr ⟨b,off,h1,h2,cs,t,fr,h3,?_,λi hi=>?_⟩
 ·have hp:0<l.length:=List.length_pos_iff.2 h0;have:=(h4 (l.length-1) (by omega)).1;omega
 obtain⟨h5,h6⟩:=h4 i hi;have h7:=th h6 0 (by decide);rw[Nat.add_zero,Nat.mul_one]at h7;rw[h7];simp[Od,fU,hi]
theorem LU(dS:List Value)(m:Nat)(y:DataW H×List MemPlace)(_:dS.length=1)(h:DataW.trod enc Tryz.prog w 0 (λ_=>true) held m 3 dS=some y):∃z,dS=(encI z).toList/\fl z:=by
 obtain⟨n,e,_,hw⟩:=DataW.trod_int Tryz.underlying3 h;exact⟨n,e,wfI hw⟩
def At (cs:List Value) (o:Nat) (l:List Value):Prop:=∀k,k<l.length->cs[o+k]? =l[k]?
theorem At.one{cs:List Value}{o:Nat}(h:cs[o]? =some v):At cs o [v]:=λk hk=>by
 obtain rfl:k=0:=by simpa using hk
 exact h
theorem At.app{cs l l':List Value}{o o':Nat}(h:At cs o l)(h':At cs o' l')(e:o'=o+l.length:=by rfl):At cs o (l++l'):=λk hk=>by
 by_cases hl:k<l.length
 ·rw[List.getElem?_append_left hl];exact h k hl
 rw[List.getElem?_append_right (by omega)];have:=h' (k-l.length) (by rw[List.length_append]at hk;omega);rwa[e,show o+l.length+(k-l.length)=o+k by omega]at this
theorem At.sub{cs l:List Value}{n o:Nat}(h:At ((cs.drop b).take n) o l):At cs (b+o) l:=λk hk=>by
 have:=h k hk;rw[List.getElem?_eq_getElem hk]at this;rw[List.getElem?_eq_getElem hk,Nat.add_assoc];exact Bo this
theorem At.all{cs l:List Value}(h:At cs 0 l)(hl:cs.length=l.length):cs=l:=F7 hl λi hi=>by have:=h i hi;rwa[Nat.zero_add]at this
theorem At.arr{l:List Value}(h:At cs.toList 0 l)(hl:cs.size=l.length):cs=l.toArray:=LV hl λi hi=>by have:=h i hi;rwa[Nat.zero_add,Array.getElem?_toList]at this
theorem fR{cs:List Value}{fs:Array Field}(cj:xs.length=fs.size)(hf:∀(i:Nat) (f:Field),fs[i]? =some f->DataW.trod enc Tryz.prog w 0 (λ_=>true) held m f.type ((cs.drop f.offset).take (Tryz.prog.cellsOf f.type))=xs[i]?)(i:Nat){f:Field}(h:fs[i]? =some f){n:Nat}(hc:Tryz.prog.cellsOf f.type=n):∃x,DataW.trod enc Tryz.prog w 0 (λ_=>true) held m f.type ((cs.drop f.offset).take n)=some x:=by
 have h1:=(Array.getElem?_eq_some_iff.1 h).1;rw[<-hc,hf i f h];exact⟨_,List.getElem?_eq_getElem (by omega)⟩
theorem fI{cs:List Value}{fs:Array Field}(cj:xs.length=fs.size)(hf:∀(i:Nat) (f:Field),fs[i]? =some f->DataW.trod enc Tryz.prog w 0 (λ_=>true) held m f.type ((cs.drop f.offset).take (Tryz.prog.cellsOf f.type))=xs[i]?)(i:Nat){f:Field}(h:fs[i]? =some f)(ht:f.type=3:=by rfl):∃n,At cs f.offset [.int .i64 n]/\fl n:=by
 obtain⟨x,h⟩:=fR cj hf i h (n:=1) (by rw[ht];exact sz3);obtain⟨n,e,_,hw⟩:=DataW.trod_int (by rw[ht];exact Tryz.underlying3) h;exact⟨n,.one (tC e),wfI hw⟩
theorem fB{cs:List Value}{fs:Array Field}(cj:xs.length=fs.size)(hf:∀(i:Nat) (f:Field),fs[i]? =some f->DataW.trod enc Tryz.prog w 0 (λ_=>true) held m f.type ((cs.drop f.offset).take (Tryz.prog.cellsOf f.type))=xs[i]?)(i:Nat){f:Field}(h:fs[i]? =some f)(ht:f.type=4:=by rfl):∃n,At cs f.offset [.bool n]:=by
 obtain⟨x,h⟩:=fR cj hf i h (n:=1) (by rw[ht];exact sz4);obtain⟨n,e,_⟩:=DataW.trod_bool (by rw[ht];exact Tryz.underlying4) h;exact⟨n,.one (tC e)⟩
theorem fT{cs:List Value}{fs:Array Field}(cj:xs.length=fs.size)(hf:∀(i:Nat) (f:Field),fs[i]? =some f->DataW.trod enc Tryz.prog w 0 (λ_=>true) held m f.type ((cs.drop f.offset).take (Tryz.prog.cellsOf f.type))=xs[i]?)(i:Nat){f:Field}(h:fs[i]? =some f)(ht:f.type=9:=by rfl):∃n,At cs f.offset [.string n]:=by
 obtain⟨x,h⟩:=fR cj hf i h (n:=1) (by rw[ht];exact sz9);obtain⟨n,e,_⟩:=DataW.trod_string (by rw[ht];exact Tryz.underlying9) h;exact⟨n,.one (tC e)⟩
theorem fD{cs:List Value}{fs:Array Field}(cj:xs.length=fs.size)(hf:∀(i:Nat) (f:Field),fs[i]? =some f->DataW.trod enc Tryz.prog w 0 (λ_=>true) held m f.type ((cs.drop f.offset).take (Tryz.prog.cellsOf f.type))=xs[i]?)(i:Nat){f:Field}(h:fs[i]? =some f)(ht:Tryz.prog.underlying f.type=some (.array 32 5))(hn:Tryz.prog.cellsOf f.type=32):∃d,iJ d/\At cs f.offset (dg d).toList:=by
 obtain⟨x,h⟩:=fR cj hf i h hn;obtain⟨xs,m,rfl,hx,hl,cj,oO⟩:=DataW.trod_array ht h;have key:∀i,i<32->∃v,(0<=v/\v<256)/\cs[f.offset+i]? =some (.int .u8 v):=λi hi=>by
  have e1:=oO i hi;rw[sz5,Nat.mul_one,List.getElem?_eq_getElem (by omega)]at e1;obtain⟨q,e2,_,e3⟩:=DataW.trod_int Tryz.underlying5 e1;exact⟨q,Ir e3,Bo (tC e2)⟩
 refine⟨λi=>if hi:i<32 then Classical.choose (key i hi)else 0,λi=>?_,λk hk=>?_⟩
 ·by_cases hi:i<32
  ·simp only[dif_pos hi];exact(Classical.choose_spec (key i hi)).1
  simp only[dif_neg hi];exact⟨by decide,by decide⟩
 have hk:k<32:=hk;exact(Classical.choose_spec (key k hk)).2.trans ((Array.getElem?_toList ..).trans ((oL _ k hk).trans (by simp only[dif_pos hk]))).symm
theorem fS{cs:List Value}{fs:Array Field}(cj:xs.length=fs.size)(hf:∀(i:Nat) (f:Field),fs[i]? =some f->DataW.trod enc Tryz.prog w 0 (λ_=>true) held m f.type ((cs.drop f.offset).take (Tryz.prog.cellsOf f.type))=xs[i]?)(i:Nat){f:Field}(h:fs[i]? =some f)(ht:Tryz.prog.underlying f.type=some (.slice e))(hn:Tryz.prog.cellsOf f.type=1):∃a n c,At cs f.offset [.slice a n c]:=by
 obtain⟨x,h⟩:=fR cj hf i h hn;rcases Go.Deep.open_slice ht h with⟨e,_⟩|⟨a,len,cap,m,nn,D,Pl,e,_⟩
 ·exact⟨none,0,0,.one (tC e)⟩
 exact⟨some a,len,cap,.one (tC e)⟩
theorem fL{α:Type}{el:α->Array Value}{n:Nat}(q:α->Prop){cs:List Value}{fs:Array Field}(cj:xs.length=fs.size)(hf:∀(i:Nat) (f:Field),fs[i]? =some f->DataW.trod enc Tryz.prog w 0 (λ_=>true) held m f.type ((cs.drop f.offset).take (Tryz.prog.cellsOf f.type))=xs[i]?)(i:Nat){f:Field}(h:fs[i]? =some f)(hn:0<n)(ht:Tryz.prog.underlying f.type=some (.slice e))(h1:Tryz.prog.cellsOf f.type=1)(hc:Tryz.prog.cellsOf e=n)(oO:∀dS m y,dS.length=n->DataW.trod enc Tryz.prog w 0 (λ_=>true) held m e dS=some y->∃z,dS=(el z).toList/\q z):∃a xs cap,At cs f.offset [.slice a xs.length cap]/\ag el n w.heap.size w a xs/\(∀z∈xs,q z)/\xs.length<=maxLen:=by
 obtain⟨x,h⟩:=fR cj hf i h h1;obtain⟨a,xs,c,e2,h2⟩:=sl_in q hn ht hc h oO;exact⟨a,xs,c,.one (tC e2),h2⟩
theorem Ta(dS:List Value)(m:Nat)(y:DataW H×List MemPlace)(hl:dS.length=5)(h:DataW.trod enc Tryz.prog w 0 (λ_=>true) held m 233 dS=some y):∃z:Ch,dS=(ez z).toList/\ChI z:=by
 obtain⟨x0,m0,rfl,_,_,l0,f0⟩:=DataW.trod_struct Tryz.underlying233 h;obtain⟨n1,e1,w1⟩:=fI l0 f0 0 rfl;obtain⟨n2,e2,w2⟩:=fI l0 f0 1 rfl;obtain⟨n3,e3,w3⟩:=fI l0 f0 2 rfl;obtain⟨n4,e4,w4⟩:=fI l0 f0 3 rfl;obtain⟨n5,e5,w5⟩:=fI l0 f0 4 rfl;have A:=e1.app (e2.app (e3.app (e4.app (e5))));exact⟨(⟨n1,n2,n3,n4,n5⟩:Ch),A.all hl,⟨w1,w2,w3,w4,w5⟩⟩
theorem Tb(dS:List Value)(m:Nat)(y:DataW H×List MemPlace)(hl:dS.length=4)(h:DataW.trod enc Tryz.prog w 0 (λ_=>true) held m 164 dS=some y):∃z:Bx,dS=(rJ z).toList/\(BxI z/\pS w.heap.size w z.w):=by
 obtain⟨x0,m0,rfl,_,_,l0,f0⟩:=DataW.trod_struct Tryz.underlying164 h;obtain⟨n1,e1,w1⟩:=fI l0 f0 0 rfl;obtain⟨n2,e2,w2⟩:=fI l0 f0 1 rfl;obtain⟨y3,g3⟩:=fR l0 f0 2 rfl Iq;obtain⟨x4,m4,_,_,_,l4,f4⟩:=DataW.trod_struct Tryz.underlying162 g3;obtain⟨n5,e5,w5⟩:=fI l4 f4 0 rfl;obtain⟨a6,c6,b6,e6,s6,q6,k6⟩:=fL (el:=Od) (n:=1) (λ_=>True) l4 f4 1 rfl (by decide) Tryz.underlying64 S5 sz5 u8_in;have A:=e1.app (e2.app (e5.sub.app (e6.sub)));exact⟨(⟨n1,n2,⟨n5,a6,b6,c6⟩⟩:Bx),A.all hl,⟨⟨w1,w2,w5⟩,It s6⟩⟩
theorem Tc(dS:List Value)(m:Nat)(y:DataW H×List MemPlace)(hl:dS.length=3)(h:DataW.trod enc Tryz.prog w 0 (λ_=>true) held m 166 dS=some y):∃z:We,dS=(ra z).toList/\(WeI z/\pS w.heap.size w z.w):=by
 obtain⟨x0,m0,rfl,_,_,l0,f0⟩:=DataW.trod_struct Tryz.underlying166 h;obtain⟨n1,e1,w1⟩:=fI l0 f0 0 rfl;obtain⟨y2,g2⟩:=fR l0 f0 1 rfl Iq;obtain⟨x3,m3,_,_,_,l3,f3⟩:=DataW.trod_struct Tryz.underlying162 g2;obtain⟨n4,e4,w4⟩:=fI l3 f3 0 rfl;obtain⟨a5,c5,b5,e5,s5,q5,k5⟩:=fL (el:=Od) (n:=1) (λ_=>True) l3 f3 1 rfl (by decide) Tryz.underlying64 S5 sz5 u8_in;have A:=e1.app (e4.sub.app (e5.sub));exact⟨(⟨n1,⟨n4,a5,b5,c5⟩⟩:We),A.all hl,⟨⟨w1,w4⟩,It s5⟩⟩
theorem Td(dS:List Value)(m:Nat)(y:DataW H×List MemPlace)(hl:dS.length=73)(h:DataW.trod enc Tryz.prog w 0 (λ_=>true) held m 99 dS=some y):∃z:Cm,dS=(dI z).toList/\(FV z/\dB w.heap.size w z):=by
 obtain⟨x0,m0,rfl,_,_,l0,f0⟩:=DataW.trod_struct Tryz.underlying99 h;obtain⟨n1,e1,w1⟩:=fI l0 f0 0 rfl;obtain⟨n2,e2,w2⟩:=fI l0 f0 1 rfl;obtain⟨d3,w3,e3⟩:=fD l0 f0 2 rfl Tryz.underlying34 tB;obtain⟨n4,e4,w4⟩:=fI l0 f0 3 rfl;obtain⟨a5,c5,b5,e5,s5,q5,k5⟩:=fL (el:=ez) (n:=5) ChI l0 f0 4 rfl (by decide) Tryz.underlying95 adb S9 Ta;obtain⟨a6,c6,b6,e6,s6,q6,k6⟩:=fL (el:=encI) (n:=1) fl l0 f0 5 rfl (by decide) Tryz.underlying44 ac8 sz3 LU;obtain⟨a7,c7,b7,e7,s7,q7,k7⟩:=fL (el:=rJ) (n:=4) (λz=>BxI z/\pS w.heap.size w z.w) l0 f0 6 rfl (by decide) Tryz.underlying96 ade S6 Tb;obtain⟨a8,c8,b8,e8,s8,q8,k8⟩:=fL (el:=ra) (n:=3) (λz=>WeI z/\pS w.heap.size w z.w) l0 f0 7 rfl (by decide) Tryz.underlying97 adf S7 Tc;obtain⟨d9,w9,e9⟩:=fD l0 f0 8 rfl Tryz.underlying34 tB;obtain⟨y10,g10⟩:=fR l0 f0 9 rfl F6;obtain⟨lJ,m11,_,_,_,l11,f11⟩:=DataW.trod_struct Tryz.underlying36 g10;obtain⟨n12,e12,dC⟩:=fI l11 f11 0 rfl;obtain⟨n13,e13,w13⟩:=fI l11 f11 1 rfl;have A:=e1.app (e2.app (e3.app (e4.app (e5.app (e6.app (e7.app (e8.app (e9.app (e12.sub.app (e13.sub))))))))));exact⟨({folder:=n1,epoch:=n2,par:=d3,author:=n4,chs:=c5,ca:=a5,cc:=b5,path:=c6,pa:=a6,pc:=b6,bxs:=c7,ba:=a7,bc:=b7,wes:=c8,wa:=a8,wc:=b8,conf:=d9,sr:=n12,ss:=n13}:Cm),A.all hl,⟨{folder:=w1,epoch:=w2,par:=w3,author:=w4,chs:=q5,path:=q6,bxs:=λx hx=>(q7 x hx).1,wes:=λx hx=>(q8 x hx).1,conf:=w9,sr:=dC,ss:=w13,lim:=⟨Bn k7,Bn k8⟩},⟨s5,s6,s7,s8,λx hx=>(q7 x hx).2,λx hx=>(q8 x hx).2⟩⟩⟩
theorem Te(dS:List Value)(m:Nat)(y:DataW H×List MemPlace)(hl:dS.length=33)(h:DataW.trod enc Tryz.prog w 0 (λ_=>true) held m 50 dS=some y):∃z:Fo,dS=(qw z).toList/\True:=by
 obtain⟨x0,m0,rfl,_,_,l0,f0⟩:=DataW.trod_struct Tryz.underlying50 h;obtain⟨n1,e1,w1⟩:=fI l0 f0 0 rfl;obtain⟨d2,w2,e2⟩:=fD l0 f0 1 rfl Tryz.underlying34 tB;have A:=e1.app (e2);exact⟨(⟨n1,d2⟩:Fo),A.all hl,trivial⟩
theorem Tf(dS:List Value)(m:Nat)(y:DataW H×List MemPlace)(hl:dS.length=40)(h:DataW.trod enc Tryz.prog w 0 (λ_=>true) held m 38 dS=some y):∃z:Lk,dS=(lkC z).toList/\cY z:=by
 obtain⟨x0,m0,rfl,_,_,l0,f0⟩:=DataW.trod_struct Tryz.underlying38 h;obtain⟨n1,e1,w1⟩:=fI l0 f0 0 rfl;obtain⟨n2,e2,w2⟩:=fI l0 f0 1 rfl;obtain⟨n3,e3,w3⟩:=fI l0 f0 2 rfl;obtain⟨n4,e4,w4⟩:=fI l0 f0 3 rfl;obtain⟨n5,e5,w5⟩:=fI l0 f0 4 rfl;obtain⟨n6,e6⟩:=fB l0 f0 5 rfl;obtain⟨d7,w7,e7⟩:=fD l0 f0 6 rfl Tryz.underlying34 tB;obtain⟨y8,g8⟩:=fR l0 f0 7 rfl F6;obtain⟨x9,m9,_,_,_,l9,f9⟩:=DataW.trod_struct Tryz.underlying36 g8;obtain⟨n10,e10,eb⟩:=fI l9 f9 0 rfl;obtain⟨n11,Ry,Uq⟩:=fI l9 f9 1 rfl;have A:=e1.app (e2.app (e3.app (e4.app (e5.app (e6.app (e7.app (e10.sub.app (Ry.sub))))))));exact⟨(⟨n1,n2,n3,n4,n5,n6,d7,n10,n11⟩:Lk),A.all hl,⟨w1,w2,w3,w4,w5,w7,eb,Uq⟩⟩
theorem Tg(dS:List Value)(m:Nat)(y:DataW H×List MemPlace)(hl:dS.length=68)(h:DataW.trod enc Tryz.prog w 0 (λ_=>true) held m 59 dS=some y):∃z:Fa,dS=(oR z).toList/\FK z:=by
 obtain⟨x0,m0,rfl,_,_,l0,f0⟩:=DataW.trod_struct Tryz.underlying59 h;obtain⟨d1,w1,e1⟩:=fD l0 f0 0 rfl Tryz.underlying34 tB;obtain⟨d2,w2,e2⟩:=fD l0 f0 1 rfl Tryz.underlying34 tB;obtain⟨n3,e3,w3⟩:=fI l0 f0 2 rfl;obtain⟨n4,e4,w4⟩:=fI l0 f0 3 rfl;obtain⟨y5,g5⟩:=fR l0 f0 4 rfl F6;obtain⟨x6,m6,_,_,_,l6,f6⟩:=DataW.trod_struct Tryz.underlying36 g5;obtain⟨n7,e7,w7⟩:=fI l6 f6 0 rfl;obtain⟨n8,e8,w8⟩:=fI l6 f6 1 rfl;have A:=e1.app (e2.app (e3.app (e4.app (e7.sub.app (e8.sub)))));exact⟨(⟨d1,d2,n3,n4,n7,n8⟩:Fa),A.all hl,⟨w1,w2,w3,w4⟩⟩
theorem pl_in(dS:List Value)(m:Nat)(y:DataW H×List MemPlace)(hl:dS.length=5)(h:DataW.trod enc Tryz.prog w 0 (λ_=>true) held m 135 dS=some y):∃z:Pl,dS=(plA z).toList/\True:=by
 obtain⟨x0,m0,rfl,_,_,l0,f0⟩:=DataW.trod_struct Tryz.underlying135 h;obtain⟨n1,e1,w1⟩:=fI l0 f0 0 rfl;obtain⟨n2,e2,w2⟩:=fI l0 f0 1 rfl;obtain⟨n3,e3,w3⟩:=fI l0 f0 2 rfl;obtain⟨n4,e4,w4⟩:=fI l0 f0 3 rfl;obtain⟨n5,e5⟩:=fT l0 f0 4 rfl;have A:=e1.app (e2.app (e3.app (e4.app (e5))));exact⟨(⟨n1,n2,n3,n4,n5⟩:Pl),A.all hl,trivial⟩
theorem rc_in{y:DataW H×List MemPlace}(hl:cs.size=8)(h:DataW.trod enc Tryz.prog w 0 (λ_=>true) held m 31 cs.toList=some y):∃s:Sc,cs=rdA s/\rz s/\ag qw 33 w.heap.size w s.fa s.fos/\ag dI 73 w.heap.size w s.la s.cs/\(∀c∈s.cs,dB w.heap.size w c)/\ag lkC 40 w.heap.size w s.ka s.lks/\ag oR 68 w.heap.size w s.xa s.fas:=by
 obtain⟨x0,m0,rfl,_,_,l0,f0⟩:=DataW.trod_struct Tryz.underlying31 h;obtain⟨a1,c1,b1,e1,s1,q1,k1⟩:=fL (el:=qw) (n:=33) (λ_=>True) l0 f0 0 rfl (by decide) Tryz.underlying22 ac0 ac9 Te;obtain⟨a2,c2,b2,e2⟩:=fS l0 f0 1 rfl Tryz.underlying23 ac1;obtain⟨a3,c3,b3,e3,s3,q3,k3⟩:=fL (el:=dI) (n:=73) (λz=>FV z/\dB w.heap.size w z) l0 f0 2 rfl (by decide) Tryz.underlying24 ac2 adg Td;obtain⟨a4,c4,b4,e4⟩:=fS l0 f0 3 rfl Tryz.underlying25 ac3;obtain⟨a5,c5,b5,e5⟩:=fS l0 f0 4 rfl Tryz.underlying26 ac4;obtain⟨a6,c6,b6,e6,s6,q6,k6⟩:=fL (el:=lkC) (n:=40) cY l0 f0 5 rfl (by decide) Tryz.underlying27 ac5 sz38 Tf;obtain⟨a7,c7,b7,e7,s7,q7,k7⟩:=fL (el:=oR) (n:=68) FK l0 f0 6 rfl (by decide) Tryz.underlying28 ac6 ada Tg;obtain⟨a8,c8,b8,e8⟩:=fS l0 f0 7 rfl Tryz.underlying29 ac7;have A:=e1.app (e2.app (e3.app (e4.app (e5.app (e6.app (e7.app (e8)))))));exact⟨{fos:=c1,fa:=a1,fc:=b1,cs:=c3,la:=a3,lc:=b3,lks:=c6,ka:=a6,kc:=b6,fas:=c7,xa:=a7,xc:=b7,pls:=[],pa:=none,pc:=0,ot:=λi=>[(none,0,0),(a2,c2,b2),(none,0,0),(a4,c4,b4),(a5,c5,b5),(none,0,0),(none,0,0),(a8,c8,b8)].getD i (none,0,0)},A.arr hl,⟨λc hc=>(q3 c hc).1,q6,q7⟩,s1,s3,λc hc=>(q3 c hc).2,s6,s7⟩
theorem lkt_in{y:DataW H×List MemPlace}(hl:cs.size=40)(h:DataW.trod enc Tryz.prog w 0 (λ_=>true) held m 38 cs.toList=some y):∃l,cs=lkC l/\cY l:=by
 obtain⟨x0,m0,rfl,_,_,l0,f0⟩:=DataW.trod_struct Tryz.underlying38 h;obtain⟨n1,e1,w1⟩:=fI l0 f0 0 rfl;obtain⟨n2,e2,w2⟩:=fI l0 f0 1 rfl;obtain⟨n3,e3,w3⟩:=fI l0 f0 2 rfl;obtain⟨n4,e4,w4⟩:=fI l0 f0 3 rfl;obtain⟨n5,e5,w5⟩:=fI l0 f0 4 rfl;obtain⟨n6,e6⟩:=fB l0 f0 5 rfl;obtain⟨d7,w7,e7⟩:=fD l0 f0 6 rfl Tryz.underlying34 tB;obtain⟨y8,g8⟩:=fR l0 f0 7 rfl F6;obtain⟨x9,m9,_,_,_,l9,f9⟩:=DataW.trod_struct Tryz.underlying36 g8;obtain⟨n10,e10,eb⟩:=fI l9 f9 0 rfl;obtain⟨n11,Ry,Uq⟩:=fI l9 f9 1 rfl;have A:=e1.app (e2.app (e3.app (e4.app (e5.app (e6.app (e7.app (e10.sub.app (Ry.sub))))))));exact⟨(⟨n1,n2,n3,n4,n5,n6,d7,n10,n11⟩:Lk),A.arr hl,⟨w1,w2,w3,w4,w5,w7,eb,Uq⟩⟩
end
end Px
