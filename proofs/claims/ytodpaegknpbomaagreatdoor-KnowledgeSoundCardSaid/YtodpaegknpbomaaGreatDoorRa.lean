/- What an argument that comes in looks like. No conditions. -/
import Derived.Test.YtodpaegknpbomaaGreatDoorKf
import Derived.ProofKit
import Derived.LaidMore
import Derived.OpenShut
import Derived.Stop.Joined
import Derived.Carry
import Derived.Deep.Slices
import Derived.Test.YtodpaegknpbomaaGreatDoorProg
namespace Px
open Go Go.RowKit Go.Proofs Go.Proofs.Tryz
theorem CP{α:Type}{xs:List α}{j:Nat}{x:α}(h:xs[j]? =some x):j<xs.length:=(List.getElem?_eq_some_iff.1 h).1
theorem kx(b off n:Nat):(⟨b,off,none⟩:Addr).add n=⟨b,off+n,none⟩:=by
 unfold Addr.add;split<;>simp_all
theorem NF{W:World}{b:Nat}{cs:Array Value}{t:Nat}{fr:Nat×Nat}(h:W.heap[b]? =some (.cells cs t fr))(i:Nat):W.cell? ⟨b,i,none⟩=cs[i]? :=by
 simp[World.cell?,h]
theorem qA{α:Type}{p:Nat->α->Prop}:∀n,(∀i,i<n->∃x,p i x)->∃xs:List α,xs.length=n/\∀i x,xs[i]? =some x->p i x
 |0,_=>⟨[],rfl,λi x h=>by simp at h⟩
 |n+1,h=>by
  obtain⟨xs,h1,h2⟩:=qA n λi hi=>h i (by omega);obtain⟨x,hx⟩:=h n (by omega);refine⟨xs++[x],by simp[h1],λi y hy=>?_⟩;by_cases hi:i<xs.length
  ·rw[List.getElem?_append_left hi]at hy;exact h2 i y hy
  have e:i=n:=by
   have:=CP hy;simp at this;omega
  subst e;rw[List.getElem?_append_right (by omega),h1,Nat.sub_self]at hy;obtain rfl:x=y:=by simpa using hy
  exact hx
variable {fs:Array Field} {f:Field} {cs l:List Value} {m n:Nat} {v:Value}
theorem UF{cs:Array Value}{k:Nat}{r:List Value}(hn:0<n)(hr:r.length=n)(h:∀j,j<n->cs[k+j]? =r[j]?):k+n<=cs.size/\cut cs k n=r.toArray:=by
 constructor
 ·have h1:=h (n-1) (by omega);rw[List.getElem?_eq_getElem (by omega)]at h1;have:=(Array.getElem?_eq_some_iff.1 h1).1;omega
 unfold cut;congr 1;apply List.ext_getElem?;intro i;by_cases hi:i<n
 ·rw[List.getElem?_take_of_lt hi,List.getElem?_drop,Array.getElem?_toList];exact h i hi
 rw[List.getElem?_take_eq_none (by omega),List.getElem?_eq_none (by omega)]
theorem Aw{W:World}{b i:Nat}(h:W.cell? ⟨b,i,none⟩=some v):∃cs t fr,W.heap[b]? =some (.cells cs t fr)/\cs[i]? =some v:=by
 unfold World.cell? at h;cases hb:W.heap[b]? with
 |none=>simp[hb]at h
 |some o=>
  cases o with
  |cells cs t fr=>simp[hb]at h;exact⟨cs,t,fr,rfl,h⟩
  |_=>simp[hb]at h
theorem NG{α:Type}{enc:α->Array Value}(hn:0<n){W:World}{a:Addr}{xs:List α}(h:∀i x,xs[i]? =some x->∃eG:List Value,W.cells? 0 (a.add (i*n)) n=some eG/\eG=(enc x).toList):ai enc n W.heap.size W (some a) xs:=by
 rcases xs with _|⟨x0,xs⟩
 ·exact .inl rfl
 right;obtain⟨c0,h0,_⟩:=h 0 x0 rfl;rw[Nat.zero_mul]at h0;obtain⟨_,DL,hc0⟩:=World.cells?_some h0;have e0:=hc0 0 hn;rw[List.getElem?_eq_getElem (by omega)]at e0;obtain⟨b,off,spot⟩:=a;have hs:spot=none:=by simpa[Addr.add]using World.cell?_spot e0
 subst hs;rw[kx,kx]at e0;obtain⟨cs,t,fr,hb,_⟩:=Aw e0;refine⟨b,off,cs,t,fr,rfl,(Array.getElem?_eq_some_iff.1 hb).1,hb,λi hi=>?_⟩;obtain⟨c1,h1,e1⟩:=h i _ (List.getElem?_eq_getElem hi);rw[kx]at h1;obtain⟨_,mw,av⟩:=World.cells?_some h1;have:=UF (cs:=cs) (k:=off+i*n) (r:=c1) hn mw (λj hj=>by
  have:=av j hj;rw[kx,NF hb]at this;exact this)
 refine⟨this.1,?_⟩;rw[this.2,e1]
section
variable {H:Type} {enc:TypeId×Value->H} {P:Program} {w:World} {held:Bool}
theorem acn{α:Type}{el:α->Array Value}{t e fuel:Nat}{x:DataW H×List MemPlace}(q:α->Prop)(hn:0<n)(ht:P.underlying t=some (.slice e))(hc:P.cellsOf e=n)(h:DataW.trod enc P w 0 (λ_=>true) held fuel t cs=some x)(hel:∀eG m y,eG.length=n->DataW.trod enc P w 0 (λ_=>true) held m e eG=some y->∃z,eG=(el z).toList/\q z):∃a xs cap,cs=[.slice a xs.length cap]/\ai el n w.heap.size w a xs/\(∀z∈xs,q z)/\xs.length<=maxLen:=by
 rcases Go.Deep.open_slice ht h with⟨rfl,_⟩|⟨a,len,cap,m,nn,D,Pl,rfl,_,hl,hm,B2,_,hx⟩
 ·exact⟨none,[],0,rfl,.inl rfl,by simp,Nat.zero_le _⟩
 have hlm:len<=m:=by rw[B2];simpa using hl
 obtain⟨xs,h1,h2⟩:=qA (p:=λi z=>∃eG,w.cells? 0 (a.add (i*n)) n=some eG/\eG=(el z).toList/\q z) len (λi hi=>by
  obtain⟨eG,g1,g2⟩:=hx i (by omega);rw[hc]at g1;obtain⟨z,g3,g4⟩:=hel eG nn _ (World.cells?_some g1).2.1 g2;exact⟨z,eG,g1,g3,g4⟩)
 refine⟨some a,xs,cap,by rw[h1],NG hn (λi z hz=>?_),λz hz=>?_,by omega⟩
 ·obtain⟨eG,g1,g2,_⟩:=h2 i z hz;exact⟨eG,g1,g2⟩
 obtain⟨i,hi⟩:=List.getElem?_of_mem hz;exact(h2 i z hi).choose_spec.2.2
theorem IB{i:Nat}(h:(cs.drop i).take 1=[v]):cs[i]? =some v:=by
 have:=congrArg (λl=>l[0]?) h;simpa[List.getElem?_take,List.getElem?_drop]using this
theorem wfI{n:Int}(h:(Lit.int .i64 n).wf=true): -9223372036854775808<=n/\n<=9223372036854775807:=bounds_i64 h
theorem arr_ints{t e fuel base:Nat}{spare:Nat->Bool}{k:IntKind}{ns:List Int}{ps:List MemPlace}(ht:P.underlying t=some (.array n e))(he:P.underlying e=some (.int k))(hc:P.cellsOf e=1)(hn:P.cellsOf t=n)(h:DataW.trod enc P w base spare held fuel t cs=some (.agg (ns.map λx=>.lit (.int k x)),ps)):cs=ns.map λx=>.int k x:=by
 obtain⟨xs,m,rfl,hx,hl,hxl,hel⟩:=DataW.trod_array ht h;simp only[Prod.mk.injEq,DataW.agg.injEq]at hx;have hlen:ns.length=n:=by have:=congrArg List.length hx.1;simpa[hxl]using this
 apply List.ext_getElem (by rw[hl,hn];simp[hlen]);intro i h1 h2;have hi:i<n:=by rw[hl,hn]at h1;exact h1
 have VA:i<ns.length:=by omega
 have e1:=hel i hi;rw[hc]at e1;have hxi:i<xs.length:=by omega
 rw[List.getElem?_eq_getElem hxi]at e1;obtain⟨q,e2,e3,_⟩:=DataW.trod_int he e1;have e4:(xs.map (·.1))[i]'(by simpa using hxi)= .lit (.int k q):=by simp[e3]
 have e5:(xs.map (·.1))[i]'(by simpa using hxi)= .lit (.int k ns[i]):=by
  have:(xs.map (·.1))=ns.map λx=>.lit (.int k x):=hx.1.symm;simp only[this,List.getElem_map]
 rw[e4]at e5;have e6:q=ns[i]:=by injection e5 with e7;injection e7
 subst e6;have e8:cs[i]= .int k ns[i]:=by
  have:=congrArg (λl=>l[0]?) e2;simp[List.getElem?_drop]at this;rw[List.getElem?_eq_getElem h1]at this;exact Option.some.inj this
 rw[e8,List.getElem_map]
end
theorem UG{cs:Array Value}(hs:cs.size=l.length)(h:∀i,i<l.length->cs[i]? =l[i]?):cs=l.toArray:=by
 apply Array.ext';apply List.ext_getElem?;intro i;rw[Array.getElem?_toList];by_cases hi:i<l.length
 ·rw[h i hi]
 rw[List.getElem?_eq_none (by simpa using hi),Array.getElem?_eq_none (by omega)]
theorem sz3:prog.cellsOf 3=1:=by kernel_rfl
theorem sz5:prog.cellsOf 5=1:=by kernel_rfl
theorem am8:prog.cellsOf 22=1:=by kernel_rfl
theorem am9:prog.cellsOf 23=1:=by kernel_rfl
theorem ana:prog.cellsOf 24=1:=by kernel_rfl
theorem anb:prog.cellsOf 25=1:=by kernel_rfl
theorem anc:prog.cellsOf 26=1:=by kernel_rfl
theorem ane:prog.cellsOf 27=1:=by kernel_rfl
theorem anf:prog.cellsOf 28=1:=by kernel_rfl
theorem ang:prog.cellsOf 29=1:=by kernel_rfl
theorem sz31:prog.cellsOf 31=8:=by kernel_rfl
theorem vW:prog.cellsOf 33=32:=by kernel_rfl
theorem sz35:prog.cellsOf 35=35:=by kernel_rfl
theorem anh:prog.cellsOf 54=1:=by kernel_rfl
theorem ani:prog.cellsOf 55=1:=by kernel_rfl
theorem anj:prog.cellsOf 56=1:=by kernel_rfl
theorem ank:prog.cellsOf 57=1:=by kernel_rfl
theorem UH:prog.cellsOf 59=2:=by kernel_rfl
theorem anl:prog.cellsOf 61=73:=by kernel_rfl
theorem anm:prog.cellsOf 71=2:=by kernel_rfl
theorem ann:prog.cellsOf 85=1:=by kernel_rfl
theorem ano:prog.cellsOf 87=39:=by kernel_rfl
theorem anp:prog.cellsOf 97=33:=by kernel_rfl
theorem ans:prog.cellsOf 99=5:=by kernel_rfl
theorem Bz:prog.cellsOf 106=1:=by kernel_rfl
theorem IC:prog.cellsOf 108=2:=by kernel_rfl
theorem acp:prog.cellsOf 110=4:=by kernel_rfl
theorem acs:prog.cellsOf 114=3:=by kernel_rfl
theorem acu:prog.cellsOf 119=34:=by kernel_rfl
theorem acv:prog.cellsOf 121=68:=by kernel_rfl
section
noncomputable abbrev TDq {H:Type} (enc:TypeId×Value->H) (w:World) (held:Bool) (m:Nat):=DataW.trod enc prog w 0 (λ_=>true) held m
noncomputable abbrev FXq {H:Type} (enc:TypeId×Value->H) (w:World) (held:Bool) (m:Nat) (cs:List Value) (fs:Array Field) (xs:List (DataW H×List MemPlace)):=∀(i:Nat) (f:Field),fs[i]? =some f->DataW.trod enc prog w 0 (λ_=>true) held m f.type ((cs.drop f.offset).take (prog.cellsOf f.type))=xs[i]?
variable {H:Type} {enc:TypeId×Value->H} {w:World} {held:Bool} {y:DataW H×List MemPlace} {xs:List (DataW H×List MemPlace)}
theorem PY{n:Int}(h:(Lit.int .u8 n).wf=true):0<=n/\n<256:=by have:=bounds_u8 h;omega
theorem pW(h:n<=maxLen):n<=9223372036854775807:=Nat.le_trans h (by decide)
theorem ID{off k j:Nat}(h:((cs.drop off).take k)[j]? =some v):cs[off+j]? =some v:=by
 rw[List.getElem?_take]at h;split at h
 ·rwa[List.getElem?_drop]at h
 cases h
theorem NH{r:List Value}(hs:cs.length=r.length)(h:∀i,i<r.length->cs[i]? =r[i]?):cs=r:=by
 apply List.ext_getElem?;intro i;by_cases hi:i<r.length
 ·exact h i hi
 rw[List.getElem?_eq_none (by omega),List.getElem?_eq_none (by omega)]
def PZ (u:UInt8):Array Value:=#[.int .u8 (u.toNat:Int)]
theorem u8_in(eG:List Value)(m:Nat)(y:DataW H×List MemPlace)(_:eG.length=1)(h:TDq enc w held m 5 eG=some y):∃z,eG=(PZ z).toList/\True:=by
 obtain⟨n,e,_,hw⟩:=DataW.trod_int underlying5 h;obtain⟨h1,h2⟩:=PY hw;refine⟨UInt8.ofNat n.toNat,?_,trivial⟩;have e2:((UInt8.ofNat n.toNat).toNat:Int)=n:=by rw[show(UInt8.ofNat n.toNat).toNat=n.toNat%256 from rfl];omega
 rw[e];unfold PZ;rw[e2]
theorem BA{N:Nat}{a:Option Addr}{l:List UInt8}(h:ai PZ 1 N w a l):gF N w a l:=by
 rcases h with h|⟨b,off,cs,t,fr,h1,h2,h3,h4⟩
 ·exact .inl h
 by_cases h0:l=[]
 ·exact .inl h0
 refine .inr ⟨b,off,h1,h2,cs,t,fr,h3,?_,λi hi=>?_⟩
 ·have hp:0<l.length:=List.length_pos_iff.2 h0;have:=(h4 (l.length-1) (by omega)).1;omega
 obtain⟨h5,h6⟩:=h4 i hi;have h7:=vD h6 0 (by decide);rw[Nat.add_zero,Nat.mul_one]at h7;rw[h7];simp[PZ,fU,hi]
theorem UI(eG:List Value)(m:Nat)(y:DataW H×List MemPlace)(_:eG.length=1)(h:TDq enc w held m 3 eG=some y):∃z,eG=(encI z).toList/\kK z:=by
 obtain⟨n,e,_,hw⟩:=DataW.trod_int underlying3 h;exact⟨n,e,wfI hw⟩
def At (cs:List Value) (o:Nat) (l:List Value):Prop:=∀k,k<l.length->cs[o+k]? =l[k]?
theorem At.one{o:Nat}(h:cs[o]? =some v):At cs o [v]:=λk hk=>by
 obtain rfl:k=0:=by simpa using hk
 exact h
theorem At.app{l':List Value}{o o':Nat}(h:At cs o l)(h':At cs o' l')(e:o'=o+l.length:=by rfl):At cs o (l++l'):=λk hk=>by
 by_cases hl:k<l.length
 ·rw[List.getElem?_append_left hl];exact h k hl
 rw[List.getElem?_append_right (by omega)];have:=h' (k-l.length) (by rw[List.length_append]at hk;omega);rwa[e,show o+l.length+(k-l.length)=o+k by omega]at this
theorem At.sub{b o:Nat}(h:At ((cs.drop b).take n) o l):At cs (b+o) l:=λk hk=>by
 have:=h k hk;rw[List.getElem?_eq_getElem hk]at this;rw[List.getElem?_eq_getElem hk,Nat.add_assoc];exact ID this
theorem At.all(h:At cs 0 l)(hl:cs.length=l.length):cs=l:=NH hl λi hi=>by have:=h i hi;rwa[Nat.zero_add]at this
theorem At.arr{cs:Array Value}(h:At cs.toList 0 l)(hl:cs.size=l.length):cs=l.toArray:=UG hl λi hi=>by have:=h i hi;rwa[Nat.zero_add,Array.getElem?_toList]at this
theorem fR(hxl:xs.length=fs.size)(hf:FXq enc w held m cs fs xs)(i:Nat)(h:fs[i]? =some f)(hc:prog.cellsOf f.type=n):∃x,DataW.trod enc prog w 0 (λ_=>true) held m f.type ((cs.drop f.offset).take n)=some x:=by
 have h1:=(Array.getElem?_eq_some_iff.1 h).1;rw[<-hc,hf i f h];exact⟨_,List.getElem?_eq_getElem (by omega)⟩
theorem fI(hxl:xs.length=fs.size)(hf:FXq enc w held m cs fs xs)(i:Nat)(h:fs[i]? =some f)(ht:f.type=3:=by rfl):∃n,At cs f.offset [.int .i64 n]/\kK n:=by
 obtain⟨x,h⟩:=fR hxl hf i h (n:=1) (by rw[ht];exact sz3);obtain⟨n,e,_,hw⟩:=DataW.trod_int (by rw[ht];exact underlying3) h;exact⟨n,.one (IB e),wfI hw⟩
theorem fD(hxl:xs.length=fs.size)(hf:FXq enc w held m cs fs xs)(i:Nat)(h:fs[i]? =some f)(ht:prog.underlying f.type=some (.array 32 5))(hn:prog.cellsOf f.type=32):∃d,eu d/\At cs f.offset (dg d).toList:=by
 obtain⟨x,h⟩:=fR hxl hf i h hn;obtain⟨xs,m,rfl,hx,hl,hxl,hel⟩:=DataW.trod_array ht h;have key:∀i,i<32->∃v,(0<=v/\v<256)/\cs[f.offset+i]? =some (.int .u8 v):=λi hi=>by
  have e1:=hel i hi;rw[sz5,Nat.mul_one,List.getElem?_eq_getElem (by omega)]at e1;obtain⟨q,e2,_,e3⟩:=DataW.trod_int underlying5 e1;exact⟨q,PY e3,ID (IB e2)⟩
 refine⟨λi=>if hi:i<32 then Classical.choose (key i hi)else 0,λi=>?_,λk hk=>?_⟩
 ·by_cases hi:i<32
  ·simp only[dif_pos hi];exact(Classical.choose_spec (key i hi)).1
  simp only[dif_neg hi];exact⟨by decide,by decide⟩
 have hk:k<32:=hk;exact(Classical.choose_spec (key k hk)).2.trans ((Array.getElem?_toList ..).trans ((rI _ k hk).trans (by simp only[dif_pos hk]))).symm
theorem fSq(hxl:xs.length=fs.size)(hf:FXq enc w held m cs fs xs)(i:Nat)(h:fs[i]? =some f){e:Nat}(ht:prog.underlying f.type=some (.slice e))(hn:prog.cellsOf f.type=1):∃a n c,At cs f.offset [.slice a n c]:=by
 obtain⟨x,h⟩:=fR hxl hf i h hn;rcases Go.Deep.open_slice ht h with⟨e,_⟩|⟨a,len,cap,m,nn,D,Pl,e,_⟩
 ·exact⟨none,0,0,.one (IB e)⟩
 exact⟨some a,len,cap,.one (IB e)⟩
theorem fL{α:Type}{el:α->Array Value}(q:α->Prop)(hxl:xs.length=fs.size)(hf:FXq enc w held m cs fs xs)(i:Nat)(h:fs[i]? =some f)(hn:0<n){e:Nat}(ht:prog.underlying f.type=some (.slice e))(h1:prog.cellsOf f.type=1)(hc:prog.cellsOf e=n)(hel:∀eG m y,eG.length=n->DataW.trod enc prog w 0 (λ_=>true) held m e eG=some y->∃z,eG=(el z).toList/\q z):∃a xs cap,At cs f.offset [.slice a xs.length cap]/\ai el n w.heap.size w a xs/\(∀z∈xs,q z)/\xs.length<=maxLen:=by
 obtain⟨x,h⟩:=fR hxl hf i h h1;obtain⟨a,xs,c,e2,h2⟩:=acn q hn ht hc h hel;exact⟨a,xs,c,.one (IB e2),h2⟩
theorem acw(eG:List Value)(m:Nat)(y:DataW H×List MemPlace)(hl:eG.length=5)(h:TDq enc w held m 99 eG=some y):∃z:Ch,eG=(gK z).toList/\ChI z:=by
 obtain⟨x0,m0,rfl,_,_,l0,f0⟩:=DataW.trod_struct underlying99 h;obtain⟨n1,e1,w1⟩:=fI l0 f0 0 rfl;obtain⟨n2,e2,w2⟩:=fI l0 f0 1 rfl;obtain⟨n3,e3,w3⟩:=fI l0 f0 2 rfl;obtain⟨n4,e4,w4⟩:=fI l0 f0 3 rfl;obtain⟨n5,e5,w5⟩:=fI l0 f0 4 rfl;have A:=e1.app (e2.app (e3.app (e4.app (e5))));exact⟨(⟨n1,n2,n3,n4,n5⟩:Ch),A.all hl,⟨w1,w2,w3,w4,w5⟩⟩
theorem acx(eG:List Value)(m:Nat)(y:DataW H×List MemPlace)(hl:eG.length=4)(h:TDq enc w held m 110 eG=some y):∃z:Bx,eG=(tN z).toList/\(BxI z/\vk w.heap.size w z.w):=by
 obtain⟨x0,m0,rfl,_,_,l0,f0⟩:=DataW.trod_struct underlying110 h;obtain⟨n1,e1,w1⟩:=fI l0 f0 0 rfl;obtain⟨n2,e2,w2⟩:=fI l0 f0 1 rfl;obtain⟨y3,g3⟩:=fR l0 f0 2 rfl IC;obtain⟨x4,m4,_,_,_,l4,f4⟩:=DataW.trod_struct underlying108 g3;obtain⟨n5,e5,w5⟩:=fI l4 f4 0 rfl;obtain⟨a6,c6,b6,e6,s6,q6,k6⟩:=fL (el:=PZ) (n:=1) (λ_=>True) l4 f4 1 rfl (by decide) underlying106 Bz sz5 u8_in;have A:=e1.app (e2.app (e5.sub.app (e6.sub)));exact⟨(⟨n1,n2,⟨n5,a6,b6,c6⟩⟩:Bx),A.all hl,⟨⟨w1,w2,w5⟩,BA s6⟩⟩
theorem acy(eG:List Value)(m:Nat)(y:DataW H×List MemPlace)(hl:eG.length=3)(h:TDq enc w held m 114 eG=some y):∃z:We,eG=(vj z).toList/\(WeI z/\vk w.heap.size w z.w):=by
 obtain⟨x0,m0,rfl,_,_,l0,f0⟩:=DataW.trod_struct underlying114 h;obtain⟨n1,e1,w1⟩:=fI l0 f0 0 rfl;obtain⟨y2,g2⟩:=fR l0 f0 1 rfl IC;obtain⟨x3,m3,_,_,_,l3,f3⟩:=DataW.trod_struct underlying108 g2;obtain⟨n4,e4,w4⟩:=fI l3 f3 0 rfl;obtain⟨a5,c5,b5,e5,s5,q5,k5⟩:=fL (el:=PZ) (n:=1) (λ_=>True) l3 f3 1 rfl (by decide) underlying106 Bz sz5 u8_in;have A:=e1.app (e4.sub.app (e5.sub));exact⟨(⟨n1,⟨n4,a5,b5,c5⟩⟩:We),A.all hl,⟨⟨w1,w4⟩,BA s5⟩⟩
theorem acz(eG:List Value)(m:Nat)(y:DataW H×List MemPlace)(hl:eG.length=73)(h:TDq enc w held m 61 eG=some y):∃z:Cm,eG=(cM z).toList/\(Nh z/\dB w.heap.size w z):=by
 obtain⟨x0,m0,rfl,_,_,l0,f0⟩:=DataW.trod_struct underlying61 h;obtain⟨n1,e1,w1⟩:=fI l0 f0 0 rfl;obtain⟨n2,e2,w2⟩:=fI l0 f0 1 rfl;obtain⟨d3,w3,e3⟩:=fD l0 f0 2 rfl underlying33 vW;obtain⟨n4,e4,w4⟩:=fI l0 f0 3 rfl;obtain⟨a5,c5,b5,e5,s5,q5,k5⟩:=fL (el:=gK) (n:=5) ChI l0 f0 4 rfl (by decide) underlying54 anh ans acw;obtain⟨a6,c6,b6,e6,s6,q6,k6⟩:=fL (el:=encI) (n:=1) kK l0 f0 5 rfl (by decide) underlying55 ani sz3 UI;obtain⟨a7,c7,b7,e7,s7,q7,k7⟩:=fL (el:=tN) (n:=4) (λz=>BxI z/\vk w.heap.size w z.w) l0 f0 6 rfl (by decide) underlying56 anj acp acx;obtain⟨a8,c8,b8,e8,s8,q8,k8⟩:=fL (el:=vj) (n:=3) (λz=>WeI z/\vk w.heap.size w z.w) l0 f0 7 rfl (by decide) underlying57 ank acs acy;obtain⟨d9,w9,e9⟩:=fD l0 f0 8 rfl underlying33 vW;obtain⟨y10,g10⟩:=fR l0 f0 9 rfl UH;obtain⟨Gs,m11,_,_,_,l11,f11⟩:=DataW.trod_struct underlying59 g10;obtain⟨n12,e12,fq⟩:=fI l11 f11 0 rfl;obtain⟨n13,e13,w13⟩:=fI l11 f11 1 rfl;have A:=e1.app (e2.app (e3.app (e4.app (e5.app (e6.app (e7.app (e8.app (e9.app (e12.sub.app (e13.sub))))))))));exact⟨({folder:=n1,epoch:=n2,par:=d3,author:=n4,chs:=c5,ca:=a5,cc:=b5,path:=c6,pa:=a6,pc:=b6,bxs:=c7,ba:=a7,bc:=b7,wes:=c8,wa:=a8,wc:=b8,conf:=d9,sr:=n12,ss:=n13}:Cm),A.all hl,⟨{folder:=w1,epoch:=w2,par:=w3,author:=w4,chs:=q5,path:=q6,bxs:=λx hx=>(q7 x hx).1,wes:=λx hx=>(q8 x hx).1,conf:=w9,sr:=fq,ss:=w13,lim:=⟨pW k7,pW k8⟩},⟨s5,s6,s7,s8,λx hx=>(q7 x hx).2,λx hx=>(q8 x hx).2⟩⟩⟩
theorem acA(eG:List Value)(m:Nat)(y:DataW H×List MemPlace)(hl:eG.length=33)(h:TDq enc w held m 97 eG=some y):∃z:Fo,eG=(qR z).toList/\True:=by
 obtain⟨x0,m0,rfl,_,_,l0,f0⟩:=DataW.trod_struct underlying97 h;obtain⟨n1,e1,w1⟩:=fI l0 f0 0 rfl;obtain⟨d2,w2,e2⟩:=fD l0 f0 1 rfl underlying33 vW;have A:=e1.app (e2);exact⟨(⟨n1,d2⟩:Fo),A.all hl,trivial⟩
theorem acB(eG:List Value)(m:Nat)(y:DataW H×List MemPlace)(hl:eG.length=2)(h:TDq enc w held m 71 eG=some y):∃z:Ow,eG=(HF z).toList/\True:=by
 obtain⟨x0,m0,rfl,_,_,l0,f0⟩:=DataW.trod_struct underlying71 h;obtain⟨n1,e1,w1⟩:=fI l0 f0 0 rfl;obtain⟨n2,e2,w2⟩:=fI l0 f0 1 rfl;have A:=e1.app (e2);exact⟨(⟨n1,n2⟩:Ow),A.all hl,trivial⟩
theorem acC(eG:List Value)(m:Nat)(y:DataW H×List MemPlace)(hl:eG.length=34)(h:TDq enc w held m 119 eG=some y):∃z:Ol,eG=(vK z).toList/\((eu z.f/\kK z.w.u)/\gF w.heap.size w z.w.ba z.w.body):=by
 obtain⟨x0,m0,rfl,_,_,l0,f0⟩:=DataW.trod_struct underlying119 h;obtain⟨d1,w1,e1⟩:=fD l0 f0 0 rfl underlying33 vW;obtain⟨y2,g2⟩:=fR l0 f0 1 rfl IC;obtain⟨x3,m3,_,_,_,l3,f3⟩:=DataW.trod_struct underlying108 g2;obtain⟨n4,e4,w4⟩:=fI l3 f3 0 rfl;obtain⟨a5,c5,b5,e5,s5,q5,k5⟩:=fL (el:=PZ) (n:=1) (λ_=>True) l3 f3 1 rfl (by decide) underlying106 Bz sz5 u8_in;have A:=e1.app (e4.sub.app (e5.sub));exact⟨(⟨d1,⟨n4,a5,b5,c5⟩⟩:Ol),A.all hl,⟨⟨w1,w4⟩,BA s5⟩⟩
theorem acD(eG:List Value)(m:Nat)(y:DataW H×List MemPlace)(hl:eG.length=39)(h:TDq enc w held m 87 eG=some y):∃z:Gr,eG=(tX z).toList/\(Up z/\sE w.heap.size w z):=by
 obtain⟨x0,m0,rfl,_,_,l0,f0⟩:=DataW.trod_struct underlying87 h;obtain⟨n1,e1,w1⟩:=fI l0 f0 0 rfl;obtain⟨n2,e2,w2⟩:=fI l0 f0 1 rfl;obtain⟨n3,e3,w3⟩:=fI l0 f0 2 rfl;obtain⟨n4,e4,w4⟩:=fI l0 f0 3 rfl;obtain⟨d5,w5,e5⟩:=fD l0 f0 4 rfl underlying33 vW;obtain⟨a6,c6,b6,e6,s6,q6,k6⟩:=fL (el:=vK) (n:=34) (λz=>(eu z.f/\kK z.w.u)/\gF w.heap.size w z.w.ba z.w.body) l0 f0 5 rfl (by decide) underlying85 ann acu acC;obtain⟨y7,g7⟩:=fR l0 f0 6 rfl UH;obtain⟨x8,m8,_,_,_,l8,f8⟩:=DataW.trod_struct underlying59 g7;obtain⟨n9,e9,w9⟩:=fI l8 f8 0 rfl;obtain⟨n10,e10,w10⟩:=fI l8 f8 1 rfl;have A:=e1.app (e2.app (e3.app (e4.app (e5.app (e6.app (e9.sub.app (e10.sub)))))));exact⟨({folder:=n1,by_:=n2,device:=n3,pub:=n4,f:=d5,olds:=c6,oa:=a6,oc:=b6,sr:=n9,ss:=n10}:Gr),A.all hl,⟨⟨w5,λo ho=>(q6 o ho).1.1,⟨w1,w2,w3,w4⟩,λo ho=>(q6 o ho).1.2⟩,s6,λo ho=>(q6 o ho).2⟩⟩
theorem acE(eG:List Value)(m:Nat)(y:DataW H×List MemPlace)(hl:eG.length=68)(h:TDq enc w held m 121 eG=some y):∃z:Ir,eG=(Bi z).toList/\(ku z/\gF w.heap.size w z.ba z.body):=by
 obtain⟨x0,m0,rfl,_,_,l0,f0⟩:=DataW.trod_struct underlying121 h;obtain⟨d1,w1,e1⟩:=fD l0 f0 0 rfl underlying33 vW;obtain⟨d2,w2,e2⟩:=fD l0 f0 1 rfl underlying33 vW;obtain⟨n3,e3,w3⟩:=fI l0 f0 2 rfl;obtain⟨a4,c4,b4,e4,s4,q4,k4⟩:=fL (el:=PZ) (n:=1) (λ_=>True) l0 f0 3 rfl (by decide) underlying106 Bz sz5 u8_in;obtain⟨y5,g5⟩:=fR l0 f0 4 rfl UH;obtain⟨x6,m6,_,_,_,l6,f6⟩:=DataW.trod_struct underlying59 g5;obtain⟨n7,e7,w7⟩:=fI l6 f6 0 rfl;obtain⟨n8,e8,w8⟩:=fI l6 f6 1 rfl;have A:=e1.app (e2.app (e3.app (e4.app (e7.sub.app (e8.sub)))));exact⟨({f:=d1,g:=d2,by_:=n3,body:=c4,ba:=a4,bc:=b4,sr:=n7,ss:=n8}:Ir),A.all hl,⟨⟨w1,w2,w3⟩,BA s4⟩⟩
theorem aoS(eG:List Value)(m:Nat)(y:DataW H×List MemPlace)(hl:eG.length=35)(h:TDq enc w held m 35 eG=some y):∃z:Se,eG=(seA z).toList/\True:=by
 obtain⟨x0,m0,rfl,_,_,l0,f0⟩:=DataW.trod_struct underlying35 h;obtain⟨n1,e1,w1⟩:=fI l0 f0 0 rfl;obtain⟨n2,e2,w2⟩:=fI l0 f0 1 rfl;obtain⟨d3,w3,e3⟩:=fD l0 f0 2 rfl underlying33 vW;obtain⟨n4,e4,w4⟩:=fI l0 f0 3 rfl;have A:=e1.app (e2.app (e3.app (e4)));exact⟨(⟨n1,n2,dk d3,n4⟩:Se),A.all hl,trivial⟩
theorem rc_in{cs:Array Value}(hl:cs.size=8)(h:TDq enc w held m 31 cs.toList=some y):∃r:dY,cs=rdA r/\uM r/\sG r/\fg w.heap.size w r/\bD [r.o5,r.o6,r.o7]=true:=by
 obtain⟨x0,m0,rfl,_,_,l0,f0⟩:=DataW.trod_struct underlying31 h;obtain⟨a1,c1,b1,e1,s1,q1,k1⟩:=fL (el:=qR) (n:=33) (λ_=>True) l0 f0 0 rfl (by decide) underlying22 am8 anp acA;obtain⟨a2,c2,b2,e2,s2,q2,k2⟩:=fL (el:=HF) (n:=2) (λ_=>True) l0 f0 1 rfl (by decide) underlying23 am9 anm acB;obtain⟨a3,c3,b3,e3,s3,q3,k3⟩:=fL (el:=cM) (n:=73) (λz=>Nh z/\dB w.heap.size w z) l0 f0 2 rfl (by decide) underlying24 ana anl acz;obtain⟨a4,c4,b4,e4,s4,q4,k4⟩:=fL (el:=tX) (n:=39) (λz=>Up z/\sE w.heap.size w z) l0 f0 3 rfl (by decide) underlying25 anb ano acD;obtain⟨a5,c5,b5,e5,s5,q5,k5⟩:=fL (el:=Bi) (n:=68) (λz=>ku z/\gF w.heap.size w z.ba z.body) l0 f0 4 rfl (by decide) underlying26 anc acv acE;obtain⟨a6,c6,b6,e6⟩:=fSq l0 f0 5 rfl underlying27 ane;obtain⟨a7,c7,b7,e7⟩:=fSq l0 f0 6 rfl underlying28 anf;obtain⟨a8,c8,b8,e8⟩:=fSq l0 f0 7 rfl underlying29 ang;have A:=e1.app (e2.app (e3.app (e4.app (e5.app (e6.app (e7.app (e8)))))));exact⟨⟨a1,c1,b1,a2,c2,b2,a3,c3,b3,a4,c4,b4,a5,c5,b5,.slice a6 c6 b6,.slice a7 c7 b7,.slice a8 c8 b8⟩,A.arr hl,⟨λc hc=>(q3 c hc).1,λg hg=>(q4 g hg).1,λx hx=>(q5 x hx).1⟩,⟨pW k1,pW k4,pW k5,pW k2,λc hc=>(q3 c hc).1.lim⟩,⟨s1,s2,s3,λc hc=>(q3 c hc).2,s4,λg hg=>(q4 g hg).2,s5,λx hx=>(q5 x hx).2⟩,rfl⟩
theorem sa_in{cs:Array Value}(hl:cs.size=35)(h:TDq enc w held m 35 cs.toList=some y):∃s:Se,cs=seA s/\True:=by
 obtain⟨x0,m0,rfl,_,_,l0,f0⟩:=DataW.trod_struct underlying35 h;obtain⟨n1,e1,w1⟩:=fI l0 f0 0 rfl;obtain⟨n2,e2,w2⟩:=fI l0 f0 1 rfl;obtain⟨d3,w3,e3⟩:=fD l0 f0 2 rfl underlying33 vW;obtain⟨n4,e4,w4⟩:=fI l0 f0 3 rfl;have A:=e1.app (e2.app (e3.app (e4)));exact⟨⟨n1,n2,dk d3,n4⟩,A.arr hl,trivial⟩
end
end Px
