/- What an argument that comes in looks like. No condition beyond those stated. -/
import Derived.Test.YtodpaegknpbomaaGreatDoorKj
import Derived.Test.YtodpaegknpbomaaGreatDoorProg
namespace Px
open Go Go.RowKit Go.Proofs
section
variable {cs:Array Value} {N b i j k m:Nat} {fr:Nat×Nat} {spare:Nat->Bool} {a:Option Addr} {W:World}
theorem lt_of_get{α:Type}{xs:List α}{x:α}(h:xs[j]? =some x):j<xs.length:=(List.getElem?_eq_some_iff.1 h).1
theorem add_plain'(b off n:Nat):(⟨b,off,none⟩:Addr).add n=⟨b,off+n,none⟩:=by
 unfold Addr.add;split<;>simp_all
theorem cell_at{t:Nat}(h:W.heap[b]? =some (.cells cs t fr))(i:Nat):W.cell? ⟨b,i,none⟩=cs[i]? :=by
 simp[World.cell?,h]
theorem exists_list{α:Type}{p:Nat->α->Prop}:∀n,(∀i,i<n->∃x,p i x)->∃xs:List α,xs.length=n/\∀i x,xs[i]? =some x->p i x
 |0,_=>⟨[],rfl,λi x h=>by simp at h⟩
 |n+1,h=>by
  obtain⟨xs,h1,h2⟩:=exists_list n λi hi=>h i (by omega);obtain⟨x,hx⟩:=h n (by omega);refine⟨xs++[x],by simp[h1],λi y hy=>?_⟩;by_cases hi:i<xs.length
  ·rw[List.getElem?_append_left hi]at hy;exact h2 i y hy
  have e:i=n:=by
   have:=lt_of_get hy;simp at this;omega
  subst e;rw[List.getElem?_append_right (by omega),h1,Nat.sub_self]at hy;obtain rfl:x=y:=by simpa using hy
  exact hx
theorem cut_of{n:Nat}{r:List Value}(hn:0<n)(hr:r.length=n)(h:∀j,j<n->cs[k+j]? =r[j]?):k+n<=cs.size/\cut cs k n=r.toArray:=by
 constructor
 ·have h1:=h (n-1) (by omega);rw[List.getElem?_eq_getElem (by omega)]at h1;have:=(Array.getElem?_eq_some_iff.1 h1).1;omega
 unfold cut;congr 1;apply List.ext_getElem?;intro i;by_cases hi:i<n
 ·rw[List.getElem?_take_of_lt hi,List.getElem?_drop,Array.getElem?_toList];exact h i hi
 rw[List.getElem?_take_eq_none (by omega),List.getElem?_eq_none (by omega)]
theorem cell_block{v:Value}(h:W.cell? ⟨b,i,none⟩=some v):∃cs t fr,W.heap[b]? =some (.cells cs t fr)/\cs[i]? =some v:=by
 unfold World.cell? at h;cases hb:W.heap[b]? with
 |none=>simp[hb]at h
 |some o=>
  cases o with
  |cells cs t fr=>simp[hb]at h;exact⟨cs,t,fr,rfl,h⟩
  |_=>simp[hb]at h
theorem slAt_of{α:Type}{enc:α->Array Value}{n:Nat}(hn:0<n){a:Addr}{xs:List α}(h:∀i x,xs[i]? =some x->∃fC:List Value,W.cells? 0 (a.add (i*n)) n=some fC/\fC=(enc x).toList):ai enc n W.heap.size W (some a) xs:=by
 rcases xs with _|⟨x0,xs⟩
 ·exact .inl rfl
 right;obtain⟨c0,h0,_⟩:=h 0 x0 rfl;rw[Nat.zero_mul]at h0;obtain⟨_,Ib,hc0⟩:=World.cells?_some h0;have e0:=hc0 0 hn;rw[List.getElem?_eq_getElem (by omega)]at e0;obtain⟨b,off,spot⟩:=a;have hs:spot=none:=by simpa[Addr.add]using World.cell?_spot e0
 subst hs;rw[add_plain',add_plain']at e0;obtain⟨cs,t,fr,hb,_⟩:=cell_block e0;refine⟨b,off,cs,t,fr,rfl,(Array.getElem?_eq_some_iff.1 hb).1,hb,λi hi=>?_⟩;obtain⟨c1,h1,e1⟩:=h i _ (List.getElem?_eq_getElem hi);rw[add_plain']at h1;obtain⟨_,lX,ar⟩:=World.cells?_some h1;have:=cut_of (cs:=cs) (k:=off+i*n) (r:=c1) hn lX (λj hj=>by
  have:=ar j hj;rw[add_plain',cell_at hb]at this;exact this)
 refine⟨this.1,?_⟩;rw[this.2,e1]
section
variable {H:Type} {enc:TypeId×Value->H} {P:Program} {w:World} {held:Bool}
theorem sl_in{α:Type}{el:α->Array Value}{n t e fuel:Nat}{cs:List Value}{x:DataW H×List MemPlace}(q:α->Prop)(hn:0<n)(ht:P.underlying t=some (.slice e))(hc:P.cellsOf e=n)(h:DataW.trod enc P w 0 (λ_=>true) held fuel t cs=some x)(hel:∀fC m y,fC.length=n->DataW.trod enc P w 0 (λ_=>true) held m e fC=some y->∃z,fC=(el z).toList/\q z):∃a xs cap,cs=[.slice a xs.length cap]/\ai el n w.heap.size w a xs/\(∀z∈xs,q z)/\xs.length<=maxLen:=by
 rcases Go.Deep.open_slice ht h with⟨rfl,_⟩|⟨a,len,cap,m,nn,D,Pl,rfl,_,hl,hm,Eh,_,hx⟩
 ·exact⟨none,[],0,rfl,.inl rfl,by simp,Nat.zero_le _⟩
 have hlm:len<=m:=by rw[Eh];simpa using hl
 obtain⟨xs,h1,h2⟩:=exists_list (p:=λi z=>∃fC,w.cells? 0 (a.add (i*n)) n=some fC/\fC=(el z).toList/\q z) len (λi hi=>by
  obtain⟨fC,g1,g2⟩:=hx i (by omega);rw[hc]at g1;obtain⟨z,g3,g4⟩:=hel fC nn _ (World.cells?_some g1).2.1 g2;exact⟨z,fC,g1,g3,g4⟩)
 refine⟨some a,xs,cap,by rw[h1],slAt_of hn (λi z hz=>?_),λz hz=>?_,by omega⟩
 ·obtain⟨fC,g1,g2,_⟩:=h2 i z hz;exact⟨fC,g1,g2⟩
 obtain⟨i,hi⟩:=List.getElem?_of_mem hz;exact(h2 i z hi).choose_spec.2.2
theorem MJ{cs:List Value}{v:Value}(h:(cs.drop i).take 1=[v]):cs[i]? =some v:=by
 have:=congrArg (λl=>l[0]?) h;simpa[List.getElem?_take,List.getElem?_drop]using this
theorem wfI{n:Int}(h:(Lit.int .i64 n).wf=true): -9223372036854775808<=n/\n<=9223372036854775807:=bounds_i64 h
theorem arr_ints{t e n fuel base:Nat}{k:IntKind}{cs:List Value}{ns:List Int}{ps:List MemPlace}(ht:P.underlying t=some (.array n e))(he:P.underlying e=some (.int k))(hc:P.cellsOf e=1)(hn:P.cellsOf t=n)(h:DataW.trod enc P w base spare held fuel t cs=some (.agg (ns.map λx=>.lit (.int k x)),ps)):cs=ns.map λx=>.int k x:=by
 obtain⟨xs,m,rfl,hx,hl,hxl,hel⟩:=DataW.trod_array ht h;simp only[Prod.mk.injEq,DataW.agg.injEq]at hx;have hlen:ns.length=n:=by have:=congrArg List.length hx.1;simpa[hxl]using this
 apply List.ext_getElem (by rw[hl,hn];simp[hlen]);intro i h1 h2;have hi:i<n:=by rw[hl,hn]at h1;exact h1
 have Xc:i<ns.length:=by omega
 have e1:=hel i hi;rw[hc]at e1;have hxi:i<xs.length:=by omega
 rw[List.getElem?_eq_getElem hxi]at e1;obtain⟨q,e2,e3,_⟩:=DataW.trod_int he e1;have e4:(xs.map (·.1))[i]'(by simpa using hxi)= .lit (.int k q):=by simp[e3]
 have e5:(xs.map (·.1))[i]'(by simpa using hxi)= .lit (.int k ns[i]):=by
  have:(xs.map (·.1))=ns.map λx=>.lit (.int k x):=hx.1.symm;simp only[this,List.getElem_map]
 rw[e4]at e5;have e6:q=ns[i]:=by injection e5 with e7;injection e7
 subst e6;have e8:cs[i]= .int k ns[i]:=by
  have:=congrArg (λl=>l[0]?) e2;simp[List.getElem?_drop]at this;rw[List.getElem?_eq_getElem h1]at this;exact Option.some.inj this
 rw[e8,List.getElem_map]
end
theorem aln{l:List Value}(hs:cs.size=l.length)(h:∀i,i<l.length->cs[i]? =l[i]?):cs=l.toArray:=by
 apply Array.ext';apply List.ext_getElem?;intro i;rw[Array.getElem?_toList];by_cases hi:i<l.length
 ·rw[h i hi]
 rw[List.getElem?_eq_none (by simpa using hi),Array.getElem?_eq_none (by omega)]
end
theorem sz3:Tryz.prog.cellsOf 3=1:=by kernel_rfl
theorem sz5:Tryz.prog.cellsOf 5=1:=by kernel_rfl
theorem ak9:Tryz.prog.cellsOf 22=1:=by kernel_rfl
theorem sz23:Tryz.prog.cellsOf 23=1:=by kernel_rfl
theorem ala:Tryz.prog.cellsOf 24=1:=by kernel_rfl
theorem sz25:Tryz.prog.cellsOf 25=1:=by kernel_rfl
theorem sz26:Tryz.prog.cellsOf 26=1:=by kernel_rfl
theorem alb:Tryz.prog.cellsOf 27=1:=by kernel_rfl
theorem alc:Tryz.prog.cellsOf 28=1:=by kernel_rfl
theorem ald:Tryz.prog.cellsOf 29=1:=by kernel_rfl
theorem sz31:Tryz.prog.cellsOf 31=8:=by kernel_rfl
theorem xg:Tryz.prog.cellsOf 33=32:=by kernel_rfl
theorem sz35:Tryz.prog.cellsOf 35=35:=by kernel_rfl
theorem ale:Tryz.prog.cellsOf 54=1:=by kernel_rfl
theorem alf:Tryz.prog.cellsOf 55=1:=by kernel_rfl
theorem alg:Tryz.prog.cellsOf 56=1:=by kernel_rfl
theorem alh:Tryz.prog.cellsOf 57=1:=by kernel_rfl
theorem TG:Tryz.prog.cellsOf 59=2:=by kernel_rfl
theorem ali:Tryz.prog.cellsOf 61=73:=by kernel_rfl
theorem sz71:Tryz.prog.cellsOf 71=2:=by kernel_rfl
theorem alj:Tryz.prog.cellsOf 85=1:=by kernel_rfl
theorem sz87:Tryz.prog.cellsOf 87=39:=by kernel_rfl
theorem alk:Tryz.prog.cellsOf 97=33:=by kernel_rfl
theorem alm:Tryz.prog.cellsOf 99=5:=by kernel_rfl
theorem Be:Tryz.prog.cellsOf 106=1:=by kernel_rfl
theorem HG:Tryz.prog.cellsOf 108=2:=by kernel_rfl
theorem abc:Tryz.prog.cellsOf 110=4:=by kernel_rfl
theorem abd:Tryz.prog.cellsOf 114=3:=by kernel_rfl
theorem abe:Tryz.prog.cellsOf 119=34:=by kernel_rfl
theorem sz121:Tryz.prog.cellsOf 121=68:=by kernel_rfl
section
noncomputable abbrev TDq {H:Type} (enc:TypeId×Value->H) (w:World) (held:Bool) (m:Nat):=DataW.trod enc Tryz.prog w 0 (λ_=>true) held m
noncomputable abbrev FXq {H:Type} (enc:TypeId×Value->H) (w:World) (held:Bool) (m:Nat) (cs:List Value) (fs:Array Field) (xs:List (DataW H×List MemPlace)):=∀(i:Nat) (f:Field),fs[i]? =some f->DataW.trod enc Tryz.prog w 0 (λ_=>true) held m f.type ((cs.drop f.offset).take (Tryz.prog.cellsOf f.type))=xs[i]?
variable {H:Type} {enc:TypeId×Value->H} {w:World} {held:Bool}
theorem OT{n:Int}(h:(Lit.int .u8 n).wf=true):0<=n/\n<256:=by have:=bounds_u8 h;omega
theorem pr{n:Nat}(h:n<=maxLen):n<=9223372036854775807:=Nat.le_trans h (by decide)
variable {fs:Array Field} {f:Field} {xs:List (DataW H×List MemPlace)} {cs l:List Value} {m:Nat}
theorem HH{off k j:Nat}{v:Value}(h:((cs.drop off).take k)[j]? =some v):cs[off+j]? =some v:=by
 rw[List.getElem?_take]at h;split at h
 ·rwa[List.getElem?_drop]at h
 cases h
theorem MH{r:List Value}(hs:cs.length=r.length)(h:∀i,i<r.length->cs[i]? =r[i]?):cs=r:=by
 apply List.ext_getElem?;intro i;by_cases hi:i<r.length
 ·exact h i hi
 rw[List.getElem?_eq_none (by omega),List.getElem?_eq_none (by omega)]
def OU (u:UInt8):Array Value:=#[.int .u8 (u.toNat:Int)]
theorem u8_in(fC:List Value)(m:Nat)(y:DataW H×List MemPlace)(_:fC.length=1)(h:TDq enc w held m 5 fC=some y):∃z,fC=(OU z).toList/\True:=by
 obtain⟨n,e,_,hw⟩:=DataW.trod_int Tryz.underlying5 h;obtain⟨h1,h2⟩:=OT hw;refine⟨UInt8.ofNat n.toNat,?_,trivial⟩;have e2:((UInt8.ofNat n.toNat).toNat:Int)=n:=by rw[show(UInt8.ofNat n.toNat).toNat=n.toNat%256 from rfl];omega
 rw[e];unfold OU;rw[e2]
theorem Bf{N:Nat}{a:Option Addr}{l:List UInt8}(h:ai OU 1 N w a l):ByAt N w a l:=by
 rcases h with h|⟨b,off,cs,t,fr,h1,h2,h3,h4⟩
 ·exact .inl h
 by_cases h0:l=[]
 ·exact .inl h0
 refine .inr ⟨b,off,h1,h2,cs,t,fr,h3,?_,λi hi=>?_⟩
 ·have hp:0<l.length:=List.length_pos_iff.2 h0;have:=(h4 (l.length-1) (by omega)).1;omega
 obtain⟨h5,h6⟩:=h4 i hi;have h7:=uS h6 0 (by decide);rw[Nat.add_zero,Nat.mul_one]at h7;rw[h7];simp[OU,fU,hi]
theorem TH(fC:List Value)(m:Nat)(y:DataW H×List MemPlace)(_:fC.length=1)(h:TDq enc w held m 3 fC=some y):∃z,fC=(encI z).toList/\jR z:=by
 obtain⟨n,e,_,hw⟩:=DataW.trod_int Tryz.underlying3 h;exact⟨n,e,wfI hw⟩
def At (cs:List Value) (o:Nat) (l:List Value):Prop:=∀k,k<l.length->cs[o+k]? =l[k]?
theorem At.one{o:Nat}{v:Value}(h:cs[o]? =some v):At cs o [v]:=λk hk=>by
 obtain rfl:k=0:=by simpa using hk
 exact h
theorem At.app{l':List Value}{o o':Nat}(h:At cs o l)(h':At cs o' l')(e:o'=o+l.length:=by rfl):At cs o (l++l'):=λk hk=>by
 by_cases hl:k<l.length
 ·rw[List.getElem?_append_left hl];exact h k hl
 rw[List.getElem?_append_right (by omega)];have:=h' (k-l.length) (by rw[List.length_append]at hk;omega);rwa[e,show o+l.length+(k-l.length)=o+k by omega]at this
theorem At.sub{b n o:Nat}(h:At ((cs.drop b).take n) o l):At cs (b+o) l:=λk hk=>by
 have:=h k hk;rw[List.getElem?_eq_getElem hk]at this;rw[List.getElem?_eq_getElem hk,Nat.add_assoc];exact HH this
theorem At.all(h:At cs 0 l)(hl:cs.length=l.length):cs=l:=MH hl λi hi=>by have:=h i hi;rwa[Nat.zero_add]at this
theorem At.arr{cs:Array Value}(h:At cs.toList 0 l)(hl:cs.size=l.length):cs=l.toArray:=aln hl λi hi=>by have:=h i hi;rwa[Nat.zero_add,Array.getElem?_toList]at this
theorem fR(hxl:xs.length=fs.size)(hf:FXq enc w held m cs fs xs)(i:Nat)(h:fs[i]? =some f){n:Nat}(hc:Tryz.prog.cellsOf f.type=n):∃x,DataW.trod enc Tryz.prog w 0 (λ_=>true) held m f.type ((cs.drop f.offset).take n)=some x:=by
 have h1:=(Array.getElem?_eq_some_iff.1 h).1;rw[<-hc,hf i f h];exact⟨_,List.getElem?_eq_getElem (by omega)⟩
theorem fI(hxl:xs.length=fs.size)(hf:FXq enc w held m cs fs xs)(i:Nat)(h:fs[i]? =some f)(ht:f.type=3:=by rfl):∃n,At cs f.offset [.int .i64 n]/\jR n:=by
 obtain⟨x,h⟩:=fR hxl hf i h (n:=1) (by rw[ht];exact sz3);obtain⟨n,e,_,hw⟩:=DataW.trod_int (by rw[ht];exact Tryz.underlying3) h;exact⟨n,.one (MJ e),wfI hw⟩
theorem fD(hxl:xs.length=fs.size)(hf:FXq enc w held m cs fs xs)(i:Nat)(h:fs[i]? =some f)(ht:Tryz.prog.underlying f.type=some (.array 32 5))(hn:Tryz.prog.cellsOf f.type=32):∃d,ec d/\At cs f.offset (dg d).toList:=by
 obtain⟨x,h⟩:=fR hxl hf i h hn;obtain⟨xs,m,rfl,hx,hl,hxl,hel⟩:=DataW.trod_array ht h;have key:∀i,i<32->∃v,(0<=v/\v<256)/\cs[f.offset+i]? =some (.int .u8 v):=λi hi=>by
  have e1:=hel i hi;rw[sz5,Nat.mul_one,List.getElem?_eq_getElem (by omega)]at e1;obtain⟨q,e2,_,e3⟩:=DataW.trod_int Tryz.underlying5 e1;exact⟨q,OT e3,HH (MJ e2)⟩
 refine⟨λi=>if hi:i<32 then Classical.choose (key i hi)else 0,λi=>?_,λk hk=>?_⟩
 ·by_cases hi:i<32
  ·simp only[dif_pos hi];exact(Classical.choose_spec (key i hi)).1
  simp only[dif_neg hi];exact⟨by decide,by decide⟩
 have hk:k<32:=hk;exact(Classical.choose_spec (key k hk)).2.trans ((Array.getElem?_toList ..).trans ((qK _ k hk).trans (by simp only[dif_pos hk]))).symm
theorem fSq(hxl:xs.length=fs.size)(hf:FXq enc w held m cs fs xs)(i:Nat)(h:fs[i]? =some f){e:Nat}(ht:Tryz.prog.underlying f.type=some (.slice e))(hn:Tryz.prog.cellsOf f.type=1):∃a n c,At cs f.offset [.slice a n c]:=by
 obtain⟨x,h⟩:=fR hxl hf i h hn;rcases Go.Deep.open_slice ht h with⟨e,_⟩|⟨a,len,cap,m,nn,D,Pl,e,_⟩
 ·exact⟨none,0,0,.one (MJ e)⟩
 exact⟨some a,len,cap,.one (MJ e)⟩
theorem fL{α:Type}{el:α->Array Value}{n:Nat}(q:α->Prop)(hxl:xs.length=fs.size)(hf:FXq enc w held m cs fs xs)(i:Nat)(h:fs[i]? =some f)(hn:0<n){e:Nat}(ht:Tryz.prog.underlying f.type=some (.slice e))(h1:Tryz.prog.cellsOf f.type=1)(hc:Tryz.prog.cellsOf e=n)(hel:∀fC m y,fC.length=n->DataW.trod enc Tryz.prog w 0 (λ_=>true) held m e fC=some y->∃z,fC=(el z).toList/\q z):∃a xs cap,At cs f.offset [.slice a xs.length cap]/\ai el n w.heap.size w a xs/\(∀z∈xs,q z)/\xs.length<=maxLen:=by
 obtain⟨x,h⟩:=fR hxl hf i h h1;obtain⟨a,xs,c,e2,h2⟩:=sl_in q hn ht hc h hel;exact⟨a,xs,c,.one (MJ e2),h2⟩
theorem abf(fC:List Value)(m:Nat)(y:DataW H×List MemPlace)(hl:fC.length=5)(h:TDq enc w held m 99 fC=some y):∃z:Ch,fC=(gh z).toList/\ChI z:=by
 obtain⟨x0,m0,rfl,_,_,l0,f0⟩:=DataW.trod_struct Tryz.underlying99 h;obtain⟨n1,e1,w1⟩:=fI l0 f0 0 rfl;obtain⟨n2,e2,w2⟩:=fI l0 f0 1 rfl;obtain⟨n3,e3,w3⟩:=fI l0 f0 2 rfl;obtain⟨n4,e4,w4⟩:=fI l0 f0 3 rfl;obtain⟨n5,e5,w5⟩:=fI l0 f0 4 rfl;have A:=e1.app (e2.app (e3.app (e4.app (e5))));exact⟨(⟨n1,n2,n3,n4,n5⟩:Ch),A.all hl,⟨w1,w2,w3,w4,w5⟩⟩
theorem abg(fC:List Value)(m:Nat)(y:DataW H×List MemPlace)(hl:fC.length=4)(h:TDq enc w held m 110 fC=some y):∃z:Bx,fC=(yS z).toList/\(BxI z/\uC w.heap.size w z.w):=by
 obtain⟨x0,m0,rfl,_,_,l0,f0⟩:=DataW.trod_struct Tryz.underlying110 h;obtain⟨n1,e1,w1⟩:=fI l0 f0 0 rfl;obtain⟨n2,e2,w2⟩:=fI l0 f0 1 rfl;obtain⟨y3,g3⟩:=fR l0 f0 2 rfl HG;obtain⟨x4,m4,_,_,_,l4,f4⟩:=DataW.trod_struct Tryz.underlying108 g3;obtain⟨n5,e5,w5⟩:=fI l4 f4 0 rfl;obtain⟨a6,c6,b6,e6,s6,q6,k6⟩:=fL (el:=OU) (n:=1) (λ_=>True) l4 f4 1 rfl (by decide) Tryz.underlying106 Be sz5 u8_in;have A:=e1.app (e2.app (e5.sub.app (e6.sub)));exact⟨(⟨n1,n2,⟨n5,a6,b6,c6⟩⟩:Bx),A.all hl,⟨⟨w1,w2,w5⟩,Bf s6⟩⟩
theorem abh(fC:List Value)(m:Nat)(y:DataW H×List MemPlace)(hl:fC.length=3)(h:TDq enc w held m 114 fC=some y):∃z:We,fC=(wj z).toList/\(WeI z/\uC w.heap.size w z.w):=by
 obtain⟨x0,m0,rfl,_,_,l0,f0⟩:=DataW.trod_struct Tryz.underlying114 h;obtain⟨n1,e1,w1⟩:=fI l0 f0 0 rfl;obtain⟨y2,g2⟩:=fR l0 f0 1 rfl HG;obtain⟨x3,m3,_,_,_,l3,f3⟩:=DataW.trod_struct Tryz.underlying108 g2;obtain⟨n4,e4,w4⟩:=fI l3 f3 0 rfl;obtain⟨a5,c5,b5,e5,s5,q5,k5⟩:=fL (el:=OU) (n:=1) (λ_=>True) l3 f3 1 rfl (by decide) Tryz.underlying106 Be sz5 u8_in;have A:=e1.app (e4.sub.app (e5.sub));exact⟨(⟨n1,⟨n4,a5,b5,c5⟩⟩:We),A.all hl,⟨⟨w1,w4⟩,Bf s5⟩⟩
theorem abi(fC:List Value)(m:Nat)(y:DataW H×List MemPlace)(hl:fC.length=73)(h:TDq enc w held m 61 fC=some y):∃z:Cm,fC=(cG z).toList/\(MA z/\dm w.heap.size w z):=by
 obtain⟨x0,m0,rfl,_,_,l0,f0⟩:=DataW.trod_struct Tryz.underlying61 h;obtain⟨n1,e1,w1⟩:=fI l0 f0 0 rfl;obtain⟨n2,e2,w2⟩:=fI l0 f0 1 rfl;obtain⟨d3,w3,e3⟩:=fD l0 f0 2 rfl Tryz.underlying33 xg;obtain⟨n4,e4,w4⟩:=fI l0 f0 3 rfl;obtain⟨a5,c5,b5,e5,s5,q5,k5⟩:=fL (el:=gh) (n:=5) ChI l0 f0 4 rfl (by decide) Tryz.underlying54 ale alm abf;obtain⟨a6,c6,b6,e6,s6,q6,k6⟩:=fL (el:=encI) (n:=1) jR l0 f0 5 rfl (by decide) Tryz.underlying55 alf sz3 TH;obtain⟨a7,c7,b7,e7,s7,q7,k7⟩:=fL (el:=yS) (n:=4) (λz=>BxI z/\uC w.heap.size w z.w) l0 f0 6 rfl (by decide) Tryz.underlying56 alg abc abg;obtain⟨a8,c8,b8,e8,s8,q8,k8⟩:=fL (el:=wj) (n:=3) (λz=>WeI z/\uC w.heap.size w z.w) l0 f0 7 rfl (by decide) Tryz.underlying57 alh abd abh;obtain⟨d9,w9,e9⟩:=fD l0 f0 8 rfl Tryz.underlying33 xg;obtain⟨y10,g10⟩:=fR l0 f0 9 rfl TG;obtain⟨FC,m11,_,_,_,l11,f11⟩:=DataW.trod_struct Tryz.underlying59 g10;obtain⟨n12,e12,eJ⟩:=fI l11 f11 0 rfl;obtain⟨n13,e13,w13⟩:=fI l11 f11 1 rfl;have A:=e1.app (e2.app (e3.app (e4.app (e5.app (e6.app (e7.app (e8.app (e9.app (e12.sub.app (e13.sub))))))))));exact⟨({folder:=n1,epoch:=n2,par:=d3,author:=n4,chs:=c5,ca:=a5,cc:=b5,path:=c6,pa:=a6,pc:=b6,bxs:=c7,ba:=a7,bc:=b7,wes:=c8,wa:=a8,wc:=b8,conf:=d9,sr:=n12,ss:=n13}:Cm),A.all hl,⟨{folder:=w1,epoch:=w2,par:=w3,author:=w4,chs:=q5,path:=q6,bxs:=λx hx=>(q7 x hx).1,wes:=λx hx=>(q8 x hx).1,conf:=w9,sr:=eJ,ss:=w13,lim:=⟨pr k7,pr k8⟩},⟨s5,s6,s7,s8,λx hx=>(q7 x hx).2,λx hx=>(q8 x hx).2⟩⟩⟩
theorem abj(fC:List Value)(m:Nat)(y:DataW H×List MemPlace)(hl:fC.length=33)(h:TDq enc w held m 97 fC=some y):∃z:Fo,fC=(sR z).toList/\True:=by
 obtain⟨x0,m0,rfl,_,_,l0,f0⟩:=DataW.trod_struct Tryz.underlying97 h;obtain⟨n1,e1,w1⟩:=fI l0 f0 0 rfl;obtain⟨d2,w2,e2⟩:=fD l0 f0 1 rfl Tryz.underlying33 xg;have A:=e1.app (e2);exact⟨(⟨n1,d2⟩:Fo),A.all hl,trivial⟩
theorem ow_in(fC:List Value)(m:Nat)(y:DataW H×List MemPlace)(hl:fC.length=2)(h:TDq enc w held m 71 fC=some y):∃z:Ow,fC=(owA z).toList/\True:=by
 obtain⟨x0,m0,rfl,_,_,l0,f0⟩:=DataW.trod_struct Tryz.underlying71 h;obtain⟨n1,e1,w1⟩:=fI l0 f0 0 rfl;obtain⟨n2,e2,w2⟩:=fI l0 f0 1 rfl;have A:=e1.app (e2);exact⟨(⟨n1,n2⟩:Ow),A.all hl,trivial⟩
theorem abk(fC:List Value)(m:Nat)(y:DataW H×List MemPlace)(hl:fC.length=34)(h:TDq enc w held m 119 fC=some y):∃z:Ol,fC=(u3 z).toList/\((ec z.f/\jR z.w.u)/\ByAt w.heap.size w z.w.ba z.w.body):=by
 obtain⟨x0,m0,rfl,_,_,l0,f0⟩:=DataW.trod_struct Tryz.underlying119 h;obtain⟨d1,w1,e1⟩:=fD l0 f0 0 rfl Tryz.underlying33 xg;obtain⟨y2,g2⟩:=fR l0 f0 1 rfl HG;obtain⟨x3,m3,_,_,_,l3,f3⟩:=DataW.trod_struct Tryz.underlying108 g2;obtain⟨n4,e4,w4⟩:=fI l3 f3 0 rfl;obtain⟨a5,c5,b5,e5,s5,q5,k5⟩:=fL (el:=OU) (n:=1) (λ_=>True) l3 f3 1 rfl (by decide) Tryz.underlying106 Be sz5 u8_in;have A:=e1.app (e4.sub.app (e5.sub));exact⟨(⟨d1,⟨n4,a5,b5,c5⟩⟩:Ol),A.all hl,⟨⟨w1,w4⟩,Bf s5⟩⟩
theorem gr_in(fC:List Value)(m:Nat)(y:DataW H×List MemPlace)(hl:fC.length=39)(h:TDq enc w held m 87 fC=some y):∃z:Gr,fC=(grA z).toList/\(GrIn z/\GrAt w.heap.size w z):=by
 obtain⟨x0,m0,rfl,_,_,l0,f0⟩:=DataW.trod_struct Tryz.underlying87 h;obtain⟨n1,e1,w1⟩:=fI l0 f0 0 rfl;obtain⟨n2,e2,w2⟩:=fI l0 f0 1 rfl;obtain⟨n3,e3,w3⟩:=fI l0 f0 2 rfl;obtain⟨n4,e4,w4⟩:=fI l0 f0 3 rfl;obtain⟨d5,w5,e5⟩:=fD l0 f0 4 rfl Tryz.underlying33 xg;obtain⟨a6,c6,b6,e6,s6,q6,k6⟩:=fL (el:=u3) (n:=34) (λz=>(ec z.f/\jR z.w.u)/\ByAt w.heap.size w z.w.ba z.w.body) l0 f0 5 rfl (by decide) Tryz.underlying85 alj abe abk;obtain⟨y7,g7⟩:=fR l0 f0 6 rfl TG;obtain⟨x8,m8,_,_,_,l8,f8⟩:=DataW.trod_struct Tryz.underlying59 g7;obtain⟨n9,e9,w9⟩:=fI l8 f8 0 rfl;obtain⟨n10,e10,w10⟩:=fI l8 f8 1 rfl;have A:=e1.app (e2.app (e3.app (e4.app (e5.app (e6.app (e9.sub.app (e10.sub)))))));exact⟨({folder:=n1,by_:=n2,device:=n3,pub:=n4,f:=d5,olds:=c6,oa:=a6,oc:=b6,sr:=n9,ss:=n10}:Gr),A.all hl,⟨⟨w5,λo ho=>(q6 o ho).1.1,⟨w1,w2,w3,w4⟩,λo ho=>(q6 o ho).1.2⟩,s6,λo ho=>(q6 o ho).2⟩⟩
theorem ir_in(fC:List Value)(m:Nat)(y:DataW H×List MemPlace)(hl:fC.length=68)(h:TDq enc w held m 121 fC=some y):∃z:Ir,fC=(irA z).toList/\(IrGood z/\ByAt w.heap.size w z.ba z.body):=by
 obtain⟨x0,m0,rfl,_,_,l0,f0⟩:=DataW.trod_struct Tryz.underlying121 h;obtain⟨d1,w1,e1⟩:=fD l0 f0 0 rfl Tryz.underlying33 xg;obtain⟨d2,w2,e2⟩:=fD l0 f0 1 rfl Tryz.underlying33 xg;obtain⟨n3,e3,w3⟩:=fI l0 f0 2 rfl;obtain⟨a4,c4,b4,e4,s4,q4,k4⟩:=fL (el:=OU) (n:=1) (λ_=>True) l0 f0 3 rfl (by decide) Tryz.underlying106 Be sz5 u8_in;obtain⟨y5,g5⟩:=fR l0 f0 4 rfl TG;obtain⟨x6,m6,_,_,_,l6,f6⟩:=DataW.trod_struct Tryz.underlying59 g5;obtain⟨n7,e7,w7⟩:=fI l6 f6 0 rfl;obtain⟨n8,e8,w8⟩:=fI l6 f6 1 rfl;have A:=e1.app (e2.app (e3.app (e4.app (e7.sub.app (e8.sub)))));exact⟨({f:=d1,g:=d2,by_:=n3,body:=c4,ba:=a4,bc:=b4,sr:=n7,ss:=n8}:Ir),A.all hl,⟨⟨w1,w2,w3⟩,Bf s4⟩⟩
theorem se_in(fC:List Value)(m:Nat)(y:DataW H×List MemPlace)(hl:fC.length=35)(h:TDq enc w held m 35 fC=some y):∃z:Se,fC=(seA z).toList/\True:=by
 obtain⟨x0,m0,rfl,_,_,l0,f0⟩:=DataW.trod_struct Tryz.underlying35 h;obtain⟨n1,e1,w1⟩:=fI l0 f0 0 rfl;obtain⟨n2,e2,w2⟩:=fI l0 f0 1 rfl;obtain⟨d3,w3,e3⟩:=fD l0 f0 2 rfl Tryz.underlying33 xg;obtain⟨n4,e4,w4⟩:=fI l0 f0 3 rfl;have A:=e1.app (e2.app (e3.app (e4)));exact⟨(⟨n1,n2,dk d3,n4⟩:Se),A.all hl,trivial⟩
theorem rc_in{cs:Array Value}{y:DataW H×List MemPlace}(hl:cs.size=8)(h:TDq enc w held m 31 cs.toList=some y):∃r:Rcd,cs=rdA r/\tN r/\vd r/\fP w.heap.size w r/\aV [r.o5,r.o6,r.o7]=true:=by
 obtain⟨x0,m0,rfl,_,_,l0,f0⟩:=DataW.trod_struct Tryz.underlying31 h;obtain⟨a1,c1,b1,e1,s1,q1,k1⟩:=fL (el:=sR) (n:=33) (λ_=>True) l0 f0 0 rfl (by decide) Tryz.underlying22 ak9 alk abj;obtain⟨a2,c2,b2,e2,s2,q2,k2⟩:=fL (el:=owA) (n:=2) (λ_=>True) l0 f0 1 rfl (by decide) Tryz.underlying23 sz23 sz71 ow_in;obtain⟨a3,c3,b3,e3,s3,q3,k3⟩:=fL (el:=cG) (n:=73) (λz=>MA z/\dm w.heap.size w z) l0 f0 2 rfl (by decide) Tryz.underlying24 ala ali abi;obtain⟨a4,c4,b4,e4,s4,q4,k4⟩:=fL (el:=grA) (n:=39) (λz=>GrIn z/\GrAt w.heap.size w z) l0 f0 3 rfl (by decide) Tryz.underlying25 sz25 sz87 gr_in;obtain⟨a5,c5,b5,e5,s5,q5,k5⟩:=fL (el:=irA) (n:=68) (λz=>IrGood z/\ByAt w.heap.size w z.ba z.body) l0 f0 4 rfl (by decide) Tryz.underlying26 sz26 sz121 ir_in;obtain⟨a6,c6,b6,e6⟩:=fSq l0 f0 5 rfl Tryz.underlying27 alb;obtain⟨a7,c7,b7,e7⟩:=fSq l0 f0 6 rfl Tryz.underlying28 alc;obtain⟨a8,c8,b8,e8⟩:=fSq l0 f0 7 rfl Tryz.underlying29 ald;have A:=e1.app (e2.app (e3.app (e4.app (e5.app (e6.app (e7.app (e8)))))));exact⟨⟨a1,c1,b1,a2,c2,b2,a3,c3,b3,a4,c4,b4,a5,c5,b5,.slice a6 c6 b6,.slice a7 c7 b7,.slice a8 c8 b8⟩,A.arr hl,⟨λc hc=>(q3 c hc).1,λg hg=>(q4 g hg).1,λx hx=>(q5 x hx).1⟩,⟨pr k1,pr k4,pr k5,pr k2,λc hc=>(q3 c hc).1.lim⟩,⟨s1,s2,s3,λc hc=>(q3 c hc).2,s4,λg hg=>(q4 g hg).2,s5,λx hx=>(q5 x hx).2⟩,rfl⟩
end
end Px
