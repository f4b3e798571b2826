/- What an argument that comes in looks like. No condition beyond those that each theorem states. -/
import Derived.Test.YtidnomjiienllaaGreatDoorKi
import Derived.ProofKit
import Derived.LaidMore
import Derived.OpenShut
import Derived.Stop.Joined
import Derived.Carry
import Derived.Deep.Slices
import Derived.Test.YtidnomjiienllaaGreatDoorRows
set_option linter.unusedSimpArgs false
set_option linter.unusedVariables false
set_option linter.unusedSectionVars false
namespace Px
open Go Go.RowKit Go.Proofs
variable {cs:Array Value} {N b i j k m:Nat} {fr:Nat×Nat} {spare:Nat->Bool} {a:Option Addr} {W:World}
theorem lt_of_get{α:Type}{xs:List α}{x:α}(h:xs[j]? =some x):j<xs.length:=(List.getElem?_eq_some_iff.1 h).1
theorem add_plain'(b off n:Nat):(⟨b,off,none⟩:Addr).add n=⟨b,off+n,none⟩:=by
 unfold Addr.add;split<;>simp_all
theorem cell_at{t:Nat}(h:W.heap[b]? =some (.cells cs t fr))(i:Nat):W.cell? ⟨b,i,none⟩=cs[i]? :=by
 simp[World.cell?,h]
theorem exists_list{α:Type}{p:Nat->α->Prop}:∀n,(∀i,i<n->∃x,p i x)->∃xs:List α,xs.length=n/\∀i x,xs[i]? =some x->p i x
 |0,_=>⟨[],rfl,λi x h=>by simp at h⟩
 |n+1,h=>by
  obtain⟨xs,h1,h2⟩:=exists_list n λi hi=>h i (by omega);obtain⟨x,hx⟩:=h n (by omega);refine⟨xs++[x],by simp[h1],λi y hy=>?_⟩;by_cases hi:i<xs.length
  ·rw[List.getElem?_append_left hi]at hy;exact h2 i y hy
  have e:i=n:=by
   have:=lt_of_get hy;simp at this;omega
  subst e;rw[List.getElem?_append_right (by omega),h1,Nat.sub_self]at hy;obtain rfl:x=y:=by simpa using hy
  exact hx
theorem cut_of{n:Nat}{r:List Value}(hn:0<n)(hr:r.length=n)(h:∀j,j<n->cs[k+j]? =r[j]?):k+n<=cs.size/\cut cs k n=r.toArray:=by
 constructor
 ·have h1:=h (n-1) (by omega);rw[List.getElem?_eq_getElem (by omega)]at h1;have:=(Array.getElem?_eq_some_iff.1 h1).1;omega
 unfold cut;congr 1;apply List.ext_getElem?;intro i;by_cases hi:i<n
 ·rw[List.getElem?_take_of_lt hi,List.getElem?_drop,Array.getElem?_toList];exact h i hi
 rw[List.getElem?_take_eq_none (by omega),List.getElem?_eq_none (by omega)]
theorem cell_block{v:Value}(h:W.cell? ⟨b,i,none⟩=some v):∃cs t fr,W.heap[b]? =some (.cells cs t fr)/\cs[i]? =some v:=by
 unfold World.cell? at h;cases hb:W.heap[b]? with
 |none=>simp[hb]at h
 |some o=>
  cases o with
  |cells cs t fr=>simp[hb]at h;exact⟨cs,t,fr,rfl,h⟩
  |_=>simp[hb]at h
theorem slAt_of{α:Type}{enc:α->Array Value}{n:Nat}(hn:0<n){a:Addr}{xs:List α}(h:∀i x,xs[i]? =some x->∃cs':List Value,W.cells? 0 (a.add (i*n)) n=some cs'/\cs'=(enc x).toList):SlAt enc n W.heap.size W (some a) xs:=by
 rcases xs with _|⟨x0,xs⟩
 ·exact .inl rfl
 right;obtain⟨c0,h0,_⟩:=h 0 x0 rfl;rw[Nat.zero_mul]at h0;obtain⟨_,hl0,hc0⟩:=World.cells?_some h0;have e0:=hc0 0 hn;rw[List.getElem?_eq_getElem (by omega)]at e0;obtain⟨b,off,spot⟩:=a;have hs:spot=none:=by simpa[Addr.add]using World.cell?_spot e0
 subst hs;rw[add_plain',add_plain']at e0;obtain⟨cs,t,fr,hb,_⟩:=cell_block e0;refine⟨b,off,cs,t,fr,rfl,(Array.getElem?_eq_some_iff.1 hb).1,hb,λi hi=>?_⟩;obtain⟨c1,h1,e1⟩:=h i _ (List.getElem?_eq_getElem hi);rw[add_plain']at h1;obtain⟨_,hl1,hc1⟩:=World.cells?_some h1;have:=cut_of (cs:=cs) (k:=off+i*n) (r:=c1) hn hl1 (λj hj=>by
  have:=hc1 j hj;rw[add_plain',cell_at hb]at this;exact this)
 refine⟨this.1,?_⟩;rw[this.2,e1]
section
variable {H:Type} {enc:TypeId×Value->H} {P:Program} {w:World} {held:Bool}
theorem sl_in{α:Type}{el:α->Array Value}{n t e fuel:Nat}{cs:List Value}{x:DataW H×List MemPlace}(q:α->Prop)(hn:0<n)(ht:P.underlying t=some (.slice e))(hc:P.cellsOf e=n)(h:DataW.trod enc P w 0 (λ_=>true) held fuel t cs=some x)(hel:∀cs' m y,cs'.length=n->DataW.trod enc P w 0 (λ_=>true) held m e cs'=some y->∃z,cs'=(el z).toList/\q z):∃a xs cap,cs=[.slice a xs.length cap]/\SlAt el n w.heap.size w a xs/\(∀z∈xs,q z)/\xs.length<=maxLen:=by
 rcases Go.Deep.open_slice ht h with⟨rfl,_⟩|⟨a,len,cap,m,nn,D,Pl,rfl,_,hl,hm,hmm,_,hx⟩
 ·exact⟨none,[],0,rfl,.inl rfl,by simp,Nat.zero_le _⟩
 have hlm:len<=m:=by rw[hmm];simpa using hl
 obtain⟨xs,h1,h2⟩:=exists_list (p:=λi z=>∃cs',w.cells? 0 (a.add (i*n)) n=some cs'/\cs'=(el z).toList/\q z) len (λi hi=>by
  obtain⟨cs',g1,g2⟩:=hx i (by omega);rw[hc]at g1;obtain⟨z,g3,g4⟩:=hel cs' nn _ (World.cells?_some g1).2.1 g2;exact⟨z,cs',g1,g3,g4⟩)
 refine⟨some a,xs,cap,by rw[h1],slAt_of hn (λi z hz=>?_),λz hz=>?_,by omega⟩
 ·obtain⟨cs',g1,g2,_⟩:=h2 i z hz;exact⟨cs',g1,g2⟩
 obtain⟨i,hi⟩:=List.getElem?_of_mem hz;exact(h2 i z hi).choose_spec.2.2
theorem fld1{cs:List Value}{v:Value}(h:(cs.drop i).take 1=[v]):cs[i]? =some v:=by
 have:=congrArg (λl=>l[0]?) h;simpa[List.getElem?_take,List.getElem?_drop]using this
theorem wfI{n:Int}(h:(Lit.int .i64 n).wf=true): -9223372036854775808<=n/\n<=9223372036854775807:=bounds_i64 h
theorem arr_ints{t e n fuel base:Nat}{k:IntKind}{cs:List Value}{ns:List Int}{ps:List MemPlace}(ht:P.underlying t=some (.array n e))(he:P.underlying e=some (.int k))(hc:P.cellsOf e=1)(hn:P.cellsOf t=n)(h:DataW.trod enc P w base spare held fuel t cs=some (.agg (ns.map λx=>.lit (.int k x)),ps)):cs=ns.map λx=>.int k x:=by
 obtain⟨xs,m,rfl,hx,hl,hxl,hel⟩:=DataW.trod_array ht h;simp only[Prod.mk.injEq,DataW.agg.injEq]at hx;have hlen:ns.length=n:=by have:=congrArg List.length hx.1;simpa[hxl]using this
 apply List.ext_getElem (by rw[hl,hn];simp[hlen]);intro i h1 h2;have hi:i<n:=by rw[hl,hn]at h1;exact h1
 have hi2:i<ns.length:=by omega
 have e1:=hel i hi;rw[hc]at e1;have hxi:i<xs.length:=by omega
 rw[List.getElem?_eq_getElem hxi]at e1;obtain⟨q,e2,e3,_⟩:=DataW.trod_int he e1;have e4:(xs.map (·.1))[i]'(by simpa using hxi)= .lit (.int k q):=by simp[e3]
 have e5:(xs.map (·.1))[i]'(by simpa using hxi)= .lit (.int k ns[i]):=by
  have:(xs.map (·.1))=ns.map λx=>.lit (.int k x):=hx.1.symm;simp only[this,List.getElem_map]
 rw[e4]at e5;have e6:q=ns[i]:=by injection e5 with e7;injection e7
 subst e6;have e8:cs[i]= .int k ns[i]:=by
  have:=congrArg (λl=>l[0]?) e2;simp[List.getElem?_take,List.getElem?_drop]at this;rw[List.getElem?_eq_getElem h1]at this;exact Option.some.inj this
 rw[e8,List.getElem_map]
end
theorem arr_of{l:List Value}(hs:cs.size=l.length)(h:∀i,i<l.length->cs[i]? =l[i]?):cs=l.toArray:=by
 apply Array.ext';apply List.ext_getElem?;intro i;rw[Array.getElem?_toList];by_cases hi:i<l.length
 ·rw[h i hi]
 rw[List.getElem?_eq_none (by simpa using hi),Array.getElem?_eq_none (by omega)]
theorem sz3:Tryz.prog.cellsOf 3=1:=by kernel_rfl
theorem sz4:Tryz.prog.cellsOf 4=1:=by kernel_rfl
theorem sz5:Tryz.prog.cellsOf 5=1:=by kernel_rfl
theorem sz22:Tryz.prog.cellsOf 22=1:=by kernel_rfl
theorem sz23:Tryz.prog.cellsOf 23=1:=by kernel_rfl
theorem sz24:Tryz.prog.cellsOf 24=1:=by kernel_rfl
theorem sz25:Tryz.prog.cellsOf 25=1:=by kernel_rfl
theorem sz26:Tryz.prog.cellsOf 26=1:=by kernel_rfl
theorem sz27:Tryz.prog.cellsOf 27=1:=by kernel_rfl
theorem sz28:Tryz.prog.cellsOf 28=1:=by kernel_rfl
theorem sz29:Tryz.prog.cellsOf 29=1:=by kernel_rfl
theorem sz31:Tryz.prog.cellsOf 31=8:=by kernel_rfl
theorem sz32:Tryz.prog.cellsOf 32=1:=by kernel_rfl
theorem sz34:Tryz.prog.cellsOf 34=6:=by kernel_rfl
theorem sz43:Tryz.prog.cellsOf 43=32:=by kernel_rfl
theorem sz45:Tryz.prog.cellsOf 45=33:=by kernel_rfl
theorem sz49:Tryz.prog.cellsOf 49=32:=by kernel_rfl
theorem sz51:Tryz.prog.cellsOf 51=34:=by kernel_rfl
theorem sz52:Tryz.prog.cellsOf 52=1:=by kernel_rfl
theorem sz54:Tryz.prog.cellsOf 54=2:=by kernel_rfl
theorem sz56:Tryz.prog.cellsOf 56=74:=by kernel_rfl
theorem sz98:Tryz.prog.cellsOf 98=1:=by kernel_rfl
theorem sz99:Tryz.prog.cellsOf 99=1:=by kernel_rfl
theorem sz100:Tryz.prog.cellsOf 100=1:=by kernel_rfl
theorem sz102:Tryz.prog.cellsOf 102=73:=by kernel_rfl
theorem sz174:Tryz.prog.cellsOf 174=1:=by kernel_rfl
theorem sz176:Tryz.prog.cellsOf 176=39:=by kernel_rfl
theorem sz178:Tryz.prog.cellsOf 178=2:=by kernel_rfl
theorem sz180:Tryz.prog.cellsOf 180=34:=by kernel_rfl
theorem sz182:Tryz.prog.cellsOf 182=68:=by kernel_rfl
theorem sz184:Tryz.prog.cellsOf 184=4:=by kernel_rfl
theorem sz186:Tryz.prog.cellsOf 186=3:=by kernel_rfl
theorem sz223:Tryz.prog.cellsOf 223=40:=by kernel_rfl
theorem sz229:Tryz.prog.cellsOf 229=5:=by kernel_rfl
theorem sz282:Tryz.prog.cellsOf 282=2:=by kernel_rfl
theorem sz348:Tryz.prog.cellsOf 348=68:=by kernel_rfl
section
variable {H:Type} {enc:TypeId×Value->H} {w:World} {held:Bool}
theorem u8_bd{n:Int}(h:(Lit.int .u8 n).wf=true):0<=n/\n<256:=by have:=bounds_u8 h;omega
theorem lim_of{n:Nat}(h:n<=maxLen):n<=9223372036854775807:=Nat.le_trans h (by decide)
theorem sub_at{cs:List Value}{off:Nat}{v:Value}(h:((cs.drop off).take k)[j]? =some v):cs[off+j]? =some v:=by
 rw[List.getElem?_take]at h;split at h
 ·rwa[List.getElem?_drop]at h
 cases h
theorem list_of{cs r:List Value}(hs:cs.length=r.length)(h:∀i,i<r.length->cs[i]? =r[i]?):cs=r:=by
 apply List.ext_getElem?;intro i;by_cases hi:i<r.length
 ·exact h i hi
 rw[List.getElem?_eq_none (by omega),List.getElem?_eq_none (by omega)]
theorem bytes_inB{P:Program}{t e fuel:Nat}{cs:List Value}{x:DataW H×List MemPlace}(ht:P.underlying t=some (.array 32 e))(he:P.underlying e=some (.int .u8))(hc:P.cellsOf e=1)(hn:P.cellsOf t=32)(h:DataW.trod enc P w 0 spare held fuel t cs=some x):∃f:Nat->Int,Byt f/\cs.length=32/\∀i,i<32->cs[i]? =some (.int .u8 (f i)):=by
 obtain⟨xs,m,rfl,hx,hl,hxl,hel⟩:=DataW.trod_array ht h;have key:∀i,i<32->∃v,(0<=v/\v<256)/\cs[i]? =some (.int .u8 v):=λi hi=>by
  have e1:=hel i hi;rw[hc,Nat.mul_one,List.getElem?_eq_getElem (by omega)]at e1;obtain⟨q,e2,_,e3⟩:=DataW.trod_int he e1;exact⟨q,u8_bd e3,fld1 e2⟩
 refine⟨λi=>if hi:i<32 then Classical.choose (key i hi)else 0,λi=>?_,by rw[hl,hn],λi hi=>?_⟩
 ·by_cases hi:i<32
  ·simp only[dif_pos hi];exact(Classical.choose_spec (key i hi)).1
  simp only[dif_neg hi];exact⟨by decide,by decide⟩
 simp only[dif_pos hi];exact(Classical.choose_spec (key i hi)).2
def u8A (u:UInt8):Array Value:=#[.int .u8 (u.toNat:Int)]
theorem u8_in(cs':List Value)(m:Nat)(y:DataW H×List MemPlace)(_:cs'.length=1)(h:DataW.trod enc Tryz.prog w 0 (λ_=>true) held m 5 cs'=some y):∃z,cs'=(u8A z).toList/\True:=by
 obtain⟨n,e,_,hw⟩:=DataW.trod_int Tryz.underlying5 h;obtain⟨h1,h2⟩:=u8_bd hw;refine⟨UInt8.ofNat n.toNat,?_,trivial⟩;have e2:((UInt8.ofNat n.toNat).toNat:Int)=n:=by rw[show(UInt8.ofNat n.toNat).toNat=n.toNat%256 from rfl];omega
 rw[e];unfold u8A;rw[e2]
theorem sl_by{l:List UInt8}(h:SlAt u8A 1 N w a l):ByAt N w a l:=by
 rcases h with h|⟨b,off,cs,t,fr,h1,h2,h3,h4⟩
 ·exact .inl h
 by_cases h0:l=[]
 ·exact .inl h0
 refine .inr ⟨b,off,h1,h2,cs,t,fr,h3,?_,λi hi=>?_⟩
 ·have hp:0<l.length:=List.length_pos_iff.2 h0;have:=(h4 (l.length-1) (by omega)).1;omega
 obtain⟨h5,h6⟩:=h4 i hi;have h7:=cut_at h6 0 (by decide);rw[Nat.add_zero,Nat.mul_one]at h7;rw[h7];simp[u8A,fU,hi]
theorem int_in(cs':List Value)(m:Nat)(y:DataW H×List MemPlace)(_:cs'.length=1)(h:DataW.trod enc Tryz.prog w 0 (λ_=>true) held m 3 cs'=some y):∃z,cs'=(encI z).toList/\I64 z:=by
 obtain⟨n,e,_,hw⟩:=DataW.trod_int Tryz.underlying3 h;exact⟨n,e,wfI hw⟩
theorem shape_in{P:Program}{t e fuel:Nat}{cs:List Value}{x:DataW H×List MemPlace}(ht:P.underlying t=some (.slice e))(h:DataW.trod enc P w 0 (λ_=>true) held fuel t cs=some x):∃a n c,cs=[.slice a n c]:=by
 rcases Go.Deep.open_slice ht h with⟨rfl,_⟩|⟨a,len,cap,m,nn,D,Pl,rfl,_⟩
 ·exact⟨none,0,0,rfl⟩
 exact⟨some a,len,cap,rfl⟩
theorem ch_in(cs':List Value)(m:Nat)(y:DataW H×List MemPlace)(hl:cs'.length=5)(h:DataW.trod enc Tryz.prog w 0 (λ_=>true) held m 229 cs'=some y):∃z:Ch,cs'=(chA z).toList/\ChI z:=by
 obtain⟨xs0,m0,rfl,_,_,hxl0,hf0⟩:=DataW.trod_struct Tryz.underlying229 h;have f1:DataW.trod enc Tryz.prog w 0 (λ_=>true) held m0 3 ((cs'.drop 0).take (Tryz.prog.cellsOf 3))=xs0[0]? :=hf0 0 _ rfl;rw[sz3,List.getElem?_eq_getElem (show 0<xs0.length by rw[hxl0];decide)]at f1;obtain⟨n1,e1,_,w1⟩:=DataW.trod_int Tryz.underlying3 f1;have f2:DataW.trod enc Tryz.prog w 0 (λ_=>true) held m0 3 ((cs'.drop 1).take (Tryz.prog.cellsOf 3))=xs0[1]? :=hf0 1 _ rfl;rw[sz3,List.getElem?_eq_getElem (show 1<xs0.length by rw[hxl0];decide)]at f2;obtain⟨n2,e2,_,w2⟩:=DataW.trod_int Tryz.underlying3 f2;have f3:DataW.trod enc Tryz.prog w 0 (λ_=>true) held m0 3 ((cs'.drop 2).take (Tryz.prog.cellsOf 3))=xs0[2]? :=hf0 2 _ rfl;rw[sz3,List.getElem?_eq_getElem (show 2<xs0.length by rw[hxl0];decide)]at f3;obtain⟨n3,e3,_,w3⟩:=DataW.trod_int Tryz.underlying3 f3;have f4:DataW.trod enc Tryz.prog w 0 (λ_=>true) held m0 3 ((cs'.drop 3).take (Tryz.prog.cellsOf 3))=xs0[3]? :=hf0 3 _ rfl;rw[sz3,List.getElem?_eq_getElem (show 3<xs0.length by rw[hxl0];decide)]at f4;obtain⟨n4,e4,_,w4⟩:=DataW.trod_int Tryz.underlying3 f4;have f5:DataW.trod enc Tryz.prog w 0 (λ_=>true) held m0 3 ((cs'.drop 4).take (Tryz.prog.cellsOf 3))=xs0[4]? :=hf0 4 _ rfl;rw[sz3,List.getElem?_eq_getElem (show 4<xs0.length by rw[hxl0];decide)]at f5
 obtain⟨n5,e5,_,w5⟩:=DataW.trod_int Tryz.underlying3 f5;refine⟨(⟨n1,n2,n3,n4,n5⟩:Ch),list_of (r:=(chA (⟨n1,n2,n3,n4,n5⟩:Ch)).toList) hl (λi hi=>?_),⟨(wfI w1),(wfI w2),(wfI w3),(wfI w4),(wfI w5)⟩⟩;have hi2:i<5:=hi
 match i,hi2 with
 |0,_=>exact(fld1 e1)
 |1,_=>exact(fld1 e2)
 |2,_=>exact(fld1 e3)
 |3,_=>exact(fld1 e4)
 |4,_=>exact(fld1 e5)
 |i+5,hlt=>exact absurd hlt (by omega)
theorem bx_in(cs':List Value)(m:Nat)(y:DataW H×List MemPlace)(hl:cs'.length=4)(h:DataW.trod enc Tryz.prog w 0 (λ_=>true) held m 184 cs'=some y):∃z:Bx,cs'=(bxA z).toList/\(BxI z/\BdAt w.heap.size w z.w):=by
 obtain⟨xs0,m0,rfl,_,_,hxl0,hf0⟩:=DataW.trod_struct Tryz.underlying184 h;have f1:DataW.trod enc Tryz.prog w 0 (λ_=>true) held m0 3 ((cs'.drop 0).take (Tryz.prog.cellsOf 3))=xs0[0]? :=hf0 0 _ rfl;rw[sz3,List.getElem?_eq_getElem (show 0<xs0.length by rw[hxl0];decide)]at f1;obtain⟨n1,e1,_,w1⟩:=DataW.trod_int Tryz.underlying3 f1;have f2:DataW.trod enc Tryz.prog w 0 (λ_=>true) held m0 3 ((cs'.drop 1).take (Tryz.prog.cellsOf 3))=xs0[1]? :=hf0 1 _ rfl;rw[sz3,List.getElem?_eq_getElem (show 1<xs0.length by rw[hxl0];decide)]at f2;obtain⟨n2,e2,_,w2⟩:=DataW.trod_int Tryz.underlying3 f2;have f3:DataW.trod enc Tryz.prog w 0 (λ_=>true) held m0 178 ((cs'.drop 2).take (Tryz.prog.cellsOf 178))=xs0[2]? :=hf0 2 _ rfl;rw[sz178,List.getElem?_eq_getElem (show 2<xs0.length by rw[hxl0];decide)]at f3;obtain⟨xs4,m4,_,_,_,hxl4,hf4⟩:=DataW.trod_struct Tryz.underlying178 f3;have f5:DataW.trod enc Tryz.prog w 0 (λ_=>true) held m4 3 ((((cs'.drop 2).take 2).drop 0).take (Tryz.prog.cellsOf 3))=xs4[0]? :=hf4 0 _ rfl;rw[sz3,List.getElem?_eq_getElem (show 0<xs4.length by rw[hxl4];decide)]at f5;obtain⟨n5,e5,_,w5⟩:=DataW.trod_int Tryz.underlying3 f5;have f6:DataW.trod enc Tryz.prog w 0 (λ_=>true) held m4 52 ((((cs'.drop 2).take 2).drop 1).take (Tryz.prog.cellsOf 52))=xs4[1]? :=hf4 1 _ rfl;rw[sz52,List.getElem?_eq_getElem (show 1<xs4.length by rw[hxl4];decide)]at f6
 obtain⟨a6,l6,c6,e6,s6,q6,k6⟩:=sl_in (el:=u8A) (n:=1) (λ_=>True) (by decide) Tryz.underlying52 sz5 f6 u8_in;refine⟨(⟨n1,n2,⟨n5,a6,c6,l6⟩⟩:Bx),list_of (r:=(bxA (⟨n1,n2,⟨n5,a6,c6,l6⟩⟩:Bx)).toList) hl (λi hi=>?_),⟨⟨(wfI w1),(wfI w2),(wfI w5)⟩,sl_by s6⟩⟩;have hi2:i<4:=hi
 match i,hi2 with
 |0,_=>exact(fld1 e1)
 |1,_=>exact(fld1 e2)
 |2,_=>exact(sub_at (fld1 e5))
 |3,_=>exact(sub_at (fld1 e6))
 |i+4,hlt=>exact absurd hlt (by omega)
theorem we_in(cs':List Value)(m:Nat)(y:DataW H×List MemPlace)(hl:cs'.length=3)(h:DataW.trod enc Tryz.prog w 0 (λ_=>true) held m 186 cs'=some y):∃z:We,cs'=(weA z).toList/\(WeI z/\BdAt w.heap.size w z.w):=by
 obtain⟨xs0,m0,rfl,_,_,hxl0,hf0⟩:=DataW.trod_struct Tryz.underlying186 h;have f1:DataW.trod enc Tryz.prog w 0 (λ_=>true) held m0 3 ((cs'.drop 0).take (Tryz.prog.cellsOf 3))=xs0[0]? :=hf0 0 _ rfl;rw[sz3,List.getElem?_eq_getElem (show 0<xs0.length by rw[hxl0];decide)]at f1;obtain⟨n1,e1,_,w1⟩:=DataW.trod_int Tryz.underlying3 f1;have f2:DataW.trod enc Tryz.prog w 0 (λ_=>true) held m0 178 ((cs'.drop 1).take (Tryz.prog.cellsOf 178))=xs0[1]? :=hf0 1 _ rfl;rw[sz178,List.getElem?_eq_getElem (show 1<xs0.length by rw[hxl0];decide)]at f2;obtain⟨xs3,m3,_,_,_,hxl3,hf3⟩:=DataW.trod_struct Tryz.underlying178 f2;have f4:DataW.trod enc Tryz.prog w 0 (λ_=>true) held m3 3 ((((cs'.drop 1).take 2).drop 0).take (Tryz.prog.cellsOf 3))=xs3[0]? :=hf3 0 _ rfl;rw[sz3,List.getElem?_eq_getElem (show 0<xs3.length by rw[hxl3];decide)]at f4;obtain⟨n4,e4,_,w4⟩:=DataW.trod_int Tryz.underlying3 f4;have f5:DataW.trod enc Tryz.prog w 0 (λ_=>true) held m3 52 ((((cs'.drop 1).take 2).drop 1).take (Tryz.prog.cellsOf 52))=xs3[1]? :=hf3 1 _ rfl;rw[sz52,List.getElem?_eq_getElem (show 1<xs3.length by rw[hxl3];decide)]at f5;obtain⟨a5,l5,c5,e5,s5,q5,k5⟩:=sl_in (el:=u8A) (n:=1) (λ_=>True) (by decide) Tryz.underlying52 sz5 f5 u8_in;refine⟨(⟨n1,⟨n4,a5,c5,l5⟩⟩:We),list_of (r:=(weA (⟨n1,⟨n4,a5,c5,l5⟩⟩:We)).toList) hl (λi hi=>?_),⟨⟨(wfI w1),(wfI w4)⟩,sl_by s5⟩⟩
 have hi2:i<3:=hi
 match i,hi2 with
 |0,_=>exact(fld1 e1)
 |1,_=>exact(sub_at (fld1 e4))
 |2,_=>exact(sub_at (fld1 e5))
 |i+3,hlt=>exact absurd hlt (by omega)
theorem cm_in(cs':List Value)(m:Nat)(y:DataW H×List MemPlace)(hl:cs'.length=73)(h:DataW.trod enc Tryz.prog w 0 (λ_=>true) held m 102 cs'=some y):∃z:Cm,cs'=(cmA z).toList/\(CmIn z/\CmAt w.heap.size w z):=by
 obtain⟨xs0,m0,rfl,_,_,hxl0,hf0⟩:=DataW.trod_struct Tryz.underlying102 h;have f1:DataW.trod enc Tryz.prog w 0 (λ_=>true) held m0 3 ((cs'.drop 0).take (Tryz.prog.cellsOf 3))=xs0[0]? :=hf0 0 _ rfl;rw[sz3,List.getElem?_eq_getElem (show 0<xs0.length by rw[hxl0];decide)]at f1;obtain⟨n1,e1,_,w1⟩:=DataW.trod_int Tryz.underlying3 f1;have f2:DataW.trod enc Tryz.prog w 0 (λ_=>true) held m0 3 ((cs'.drop 1).take (Tryz.prog.cellsOf 3))=xs0[1]? :=hf0 1 _ rfl;rw[sz3,List.getElem?_eq_getElem (show 1<xs0.length by rw[hxl0];decide)]at f2;obtain⟨n2,e2,_,w2⟩:=DataW.trod_int Tryz.underlying3 f2;have f3:DataW.trod enc Tryz.prog w 0 (λ_=>true) held m0 43 ((cs'.drop 2).take (Tryz.prog.cellsOf 43))=xs0[2]? :=hf0 2 _ rfl;rw[sz43,List.getElem?_eq_getElem (show 2<xs0.length by rw[hxl0];decide)]at f3;obtain⟨d3,B3,_,b3⟩:=bytes_inB Tryz.underlying43 Tryz.underlying5 sz5 sz43 f3;have f4:DataW.trod enc Tryz.prog w 0 (λ_=>true) held m0 3 ((cs'.drop 34).take (Tryz.prog.cellsOf 3))=xs0[3]? :=hf0 3 _ rfl;rw[sz3,List.getElem?_eq_getElem (show 3<xs0.length by rw[hxl0];decide)]at f4;obtain⟨n4,e4,_,w4⟩:=DataW.trod_int Tryz.underlying3 f4;have f5:DataW.trod enc Tryz.prog w 0 (λ_=>true) held m0 98 ((cs'.drop 35).take (Tryz.prog.cellsOf 98))=xs0[4]? :=hf0 4 _ rfl;rw[sz98,List.getElem?_eq_getElem (show 4<xs0.length by rw[hxl0];decide)]at f5
 obtain⟨a5,l5,c5,e5,s5,q5,k5⟩:=sl_in (el:=chA) (n:=5) ChI (by decide) Tryz.underlying98 sz229 f5 ch_in;have f6:DataW.trod enc Tryz.prog w 0 (λ_=>true) held m0 32 ((cs'.drop 36).take (Tryz.prog.cellsOf 32))=xs0[5]? :=hf0 5 _ rfl;rw[sz32,List.getElem?_eq_getElem (show 5<xs0.length by rw[hxl0];decide)]at f6;obtain⟨a6,l6,c6,e6,s6,q6,k6⟩:=sl_in (el:=encI) (n:=1) I64 (by decide) Tryz.underlying32 sz3 f6 int_in;have f7:DataW.trod enc Tryz.prog w 0 (λ_=>true) held m0 99 ((cs'.drop 37).take (Tryz.prog.cellsOf 99))=xs0[6]? :=hf0 6 _ rfl;rw[sz99,List.getElem?_eq_getElem (show 6<xs0.length by rw[hxl0];decide)]at f7;obtain⟨a7,l7,c7,e7,s7,q7,k7⟩:=sl_in (el:=bxA) (n:=4) (λz=>BxI z/\BdAt w.heap.size w z.w) (by decide) Tryz.underlying99 sz184 f7 bx_in;have f8:DataW.trod enc Tryz.prog w 0 (λ_=>true) held m0 100 ((cs'.drop 38).take (Tryz.prog.cellsOf 100))=xs0[7]? :=hf0 7 _ rfl;rw[sz100,List.getElem?_eq_getElem (show 7<xs0.length by rw[hxl0];decide)]at f8;obtain⟨a8,l8,c8,e8,s8,q8,k8⟩:=sl_in (el:=weA) (n:=3) (λz=>WeI z/\BdAt w.heap.size w z.w) (by decide) Tryz.underlying100 sz186 f8 we_in;have f9:DataW.trod enc Tryz.prog w 0 (λ_=>true) held m0 43 ((cs'.drop 39).take (Tryz.prog.cellsOf 43))=xs0[8]? :=hf0 8 _ rfl;rw[sz43,List.getElem?_eq_getElem (show 8<xs0.length by rw[hxl0];decide)]at f9
 obtain⟨d9,B9,_,b9⟩:=bytes_inB Tryz.underlying43 Tryz.underlying5 sz5 sz43 f9;have f10:DataW.trod enc Tryz.prog w 0 (λ_=>true) held m0 54 ((cs'.drop 71).take (Tryz.prog.cellsOf 54))=xs0[9]? :=hf0 9 _ rfl;rw[sz54,List.getElem?_eq_getElem (show 9<xs0.length by rw[hxl0];decide)]at f10;obtain⟨xs11,m11,_,_,_,hxl11,hf11⟩:=DataW.trod_struct Tryz.underlying54 f10;have f12:DataW.trod enc Tryz.prog w 0 (λ_=>true) held m11 3 ((((cs'.drop 71).take 2).drop 0).take (Tryz.prog.cellsOf 3))=xs11[0]? :=hf11 0 _ rfl;rw[sz3,List.getElem?_eq_getElem (show 0<xs11.length by rw[hxl11];decide)]at f12;obtain⟨n12,e12,_,w12⟩:=DataW.trod_int Tryz.underlying3 f12;have f13:DataW.trod enc Tryz.prog w 0 (λ_=>true) held m11 3 ((((cs'.drop 71).take 2).drop 1).take (Tryz.prog.cellsOf 3))=xs11[1]? :=hf11 1 _ rfl;rw[sz3,List.getElem?_eq_getElem (show 1<xs11.length by rw[hxl11];decide)]at f13;obtain⟨n13,e13,_,w13⟩:=DataW.trod_int Tryz.underlying3 f13;refine⟨({folder:=n1,epoch:=n2,par:=d3,author:=n4,chs:=l5,ca:=a5,cc:=c5,path:=l6,pa:=a6,pc:=c6,bxs:=l7,ba:=a7,bc:=c7,wes:=l8,wa:=a8,wc:=c8,conf:=d9,sr:=n12,ss:=n13}:Cm),list_of (r:=(cmA ({folder:=n1,epoch:=n2,par:=d3,author:=n4,chs:=l5,ca:=a5,cc:=c5,path:=l6,pa:=a6,pc:=c6,bxs:=l7,ba:=a7,bc:=c7,wes:=l8,wa:=a8,wc:=c8,conf:=d9,sr:=n12,ss:=n13}:Cm)).toList) hl (λi hi=>?_),⟨{folder:=(wfI w1),epoch:=(wfI w2),par:=B3,author:=(wfI w4),chs:=q5,path:=q6,bxs:=λx hx=>(q7 x hx).1,wes:=λx hx=>(q8 x hx).1,conf:=B9,sr:=(wfI w12),ss:=(wfI w13),lim:=⟨lim_of k7,lim_of k8⟩},⟨s5,s6,s7,s8,λx hx=>(q7 x hx).2,λx hx=>(q8 x hx).2⟩⟩⟩
 have hi2:i<73:=hi
 match i,hi2 with
 |0,_=>exact(fld1 e1)
 |1,_=>exact(fld1 e2)
 |2,_=>exact(sub_at (b3 0 (by decide)))
 |3,_=>exact(sub_at (b3 1 (by decide)))
 |4,_=>exact(sub_at (b3 2 (by decide)))
 |5,_=>exact(sub_at (b3 3 (by decide)))
 |6,_=>exact(sub_at (b3 4 (by decide)))
 |7,_=>exact(sub_at (b3 5 (by decide)))
 |8,_=>exact(sub_at (b3 6 (by decide)))
 |9,_=>exact(sub_at (b3 7 (by decide)))
 |10,_=>exact(sub_at (b3 8 (by decide)))
 |11,_=>exact(sub_at (b3 9 (by decide)))
 |12,_=>exact(sub_at (b3 10 (by decide)))
 |13,_=>exact(sub_at (b3 11 (by decide)))
 |14,_=>exact(sub_at (b3 12 (by decide)))
 |15,_=>exact(sub_at (b3 13 (by decide)))
 |16,_=>exact(sub_at (b3 14 (by decide)))
 |17,_=>exact(sub_at (b3 15 (by decide)))
 |18,_=>exact(sub_at (b3 16 (by decide)))
 |19,_=>exact(sub_at (b3 17 (by decide)))
 |20,_=>exact(sub_at (b3 18 (by decide)))
 |21,_=>exact(sub_at (b3 19 (by decide)))
 |22,_=>exact(sub_at (b3 20 (by decide)))
 |23,_=>exact(sub_at (b3 21 (by decide)))
 |24,_=>exact(sub_at (b3 22 (by decide)))
 |25,_=>exact(sub_at (b3 23 (by decide)))
 |26,_=>exact(sub_at (b3 24 (by decide)))
 |27,_=>exact(sub_at (b3 25 (by decide)))
 |28,_=>exact(sub_at (b3 26 (by decide)))
 |29,_=>exact(sub_at (b3 27 (by decide)))
 |30,_=>exact(sub_at (b3 28 (by decide)))
 |31,_=>exact(sub_at (b3 29 (by decide)))
 |32,_=>exact(sub_at (b3 30 (by decide)))
 |33,_=>exact(sub_at (b3 31 (by decide)))
 |34,_=>exact(fld1 e4)
 |35,_=>exact(fld1 e5)
 |36,_=>exact(fld1 e6)
 |37,_=>exact(fld1 e7)
 |38,_=>exact(fld1 e8)
 |39,_=>exact(sub_at (b9 0 (by decide)))
 |40,_=>exact(sub_at (b9 1 (by decide)))
 |41,_=>exact(sub_at (b9 2 (by decide)))
 |42,_=>exact(sub_at (b9 3 (by decide)))
 |43,_=>exact(sub_at (b9 4 (by decide)))
 |44,_=>exact(sub_at (b9 5 (by decide)))
 |45,_=>exact(sub_at (b9 6 (by decide)))
 |46,_=>exact(sub_at (b9 7 (by decide)))
 |47,_=>exact(sub_at (b9 8 (by decide)))
 |48,_=>exact(sub_at (b9 9 (by decide)))
 |49,_=>exact(sub_at (b9 10 (by decide)))
 |50,_=>exact(sub_at (b9 11 (by decide)))
 |51,_=>exact(sub_at (b9 12 (by decide)))
 |52,_=>exact(sub_at (b9 13 (by decide)))
 |53,_=>exact(sub_at (b9 14 (by decide)))
 |54,_=>exact(sub_at (b9 15 (by decide)))
 |55,_=>exact(sub_at (b9 16 (by decide)))
 |56,_=>exact(sub_at (b9 17 (by decide)))
 |57,_=>exact(sub_at (b9 18 (by decide)))
 |58,_=>exact(sub_at (b9 19 (by decide)))
 |59,_=>exact(sub_at (b9 20 (by decide)))
 |60,_=>exact(sub_at (b9 21 (by decide)))
 |61,_=>exact(sub_at (b9 22 (by decide)))
 |62,_=>exact(sub_at (b9 23 (by decide)))
 |63,_=>exact(sub_at (b9 24 (by decide)))
 |64,_=>exact(sub_at (b9 25 (by decide)))
 |65,_=>exact(sub_at (b9 26 (by decide)))
 |66,_=>exact(sub_at (b9 27 (by decide)))
 |67,_=>exact(sub_at (b9 28 (by decide)))
 |68,_=>exact(sub_at (b9 29 (by decide)))
 |69,_=>exact(sub_at (b9 30 (by decide)))
 |70,_=>exact(sub_at (b9 31 (by decide)))
 |71,_=>exact(sub_at (fld1 e12))
 |72,_=>exact(sub_at (fld1 e13))
 |i+73,hlt=>exact absurd hlt (by omega)
theorem fo_in(cs':List Value)(m:Nat)(y:DataW H×List MemPlace)(hl:cs'.length=33)(h:DataW.trod enc Tryz.prog w 0 (λ_=>true) held m 45 cs'=some y):∃z:Fo,cs'=(foA z).toList/\True:=by
 obtain⟨xs0,m0,rfl,_,_,hxl0,hf0⟩:=DataW.trod_struct Tryz.underlying45 h;have f1:DataW.trod enc Tryz.prog w 0 (λ_=>true) held m0 3 ((cs'.drop 0).take (Tryz.prog.cellsOf 3))=xs0[0]? :=hf0 0 _ rfl;rw[sz3,List.getElem?_eq_getElem (show 0<xs0.length by rw[hxl0];decide)]at f1;obtain⟨n1,e1,_,w1⟩:=DataW.trod_int Tryz.underlying3 f1;have f2:DataW.trod enc Tryz.prog w 0 (λ_=>true) held m0 43 ((cs'.drop 1).take (Tryz.prog.cellsOf 43))=xs0[1]? :=hf0 1 _ rfl;rw[sz43,List.getElem?_eq_getElem (show 1<xs0.length by rw[hxl0];decide)]at f2;obtain⟨d2,B2,_,b2⟩:=bytes_inB Tryz.underlying43 Tryz.underlying5 sz5 sz43 f2;refine⟨(⟨n1,d2⟩:Fo),list_of (r:=(foA (⟨n1,d2⟩:Fo)).toList) hl (λi hi=>?_),trivial⟩;have hi2:i<33:=hi
 match i,hi2 with
 |0,_=>exact(fld1 e1)
 |1,_=>exact(sub_at (b2 0 (by decide)))
 |2,_=>exact(sub_at (b2 1 (by decide)))
 |3,_=>exact(sub_at (b2 2 (by decide)))
 |4,_=>exact(sub_at (b2 3 (by decide)))
 |5,_=>exact(sub_at (b2 4 (by decide)))
 |6,_=>exact(sub_at (b2 5 (by decide)))
 |7,_=>exact(sub_at (b2 6 (by decide)))
 |8,_=>exact(sub_at (b2 7 (by decide)))
 |9,_=>exact(sub_at (b2 8 (by decide)))
 |10,_=>exact(sub_at (b2 9 (by decide)))
 |11,_=>exact(sub_at (b2 10 (by decide)))
 |12,_=>exact(sub_at (b2 11 (by decide)))
 |13,_=>exact(sub_at (b2 12 (by decide)))
 |14,_=>exact(sub_at (b2 13 (by decide)))
 |15,_=>exact(sub_at (b2 14 (by decide)))
 |16,_=>exact(sub_at (b2 15 (by decide)))
 |17,_=>exact(sub_at (b2 16 (by decide)))
 |18,_=>exact(sub_at (b2 17 (by decide)))
 |19,_=>exact(sub_at (b2 18 (by decide)))
 |20,_=>exact(sub_at (b2 19 (by decide)))
 |21,_=>exact(sub_at (b2 20 (by decide)))
 |22,_=>exact(sub_at (b2 21 (by decide)))
 |23,_=>exact(sub_at (b2 22 (by decide)))
 |24,_=>exact(sub_at (b2 23 (by decide)))
 |25,_=>exact(sub_at (b2 24 (by decide)))
 |26,_=>exact(sub_at (b2 25 (by decide)))
 |27,_=>exact(sub_at (b2 26 (by decide)))
 |28,_=>exact(sub_at (b2 27 (by decide)))
 |29,_=>exact(sub_at (b2 28 (by decide)))
 |30,_=>exact(sub_at (b2 29 (by decide)))
 |31,_=>exact(sub_at (b2 30 (by decide)))
 |32,_=>exact(sub_at (b2 31 (by decide)))
 |i+33,hlt=>exact absurd hlt (by omega)
theorem od_in(cs':List Value)(m:Nat)(y:DataW H×List MemPlace)(hl:cs'.length=34)(h:DataW.trod enc Tryz.prog w 0 (λ_=>true) held m 180 cs'=some y):∃z:Od,cs'=(odA z).toList/\True:=by
 obtain⟨xs0,m0,rfl,_,_,hxl0,hf0⟩:=DataW.trod_struct Tryz.underlying180 h;have f1:DataW.trod enc Tryz.prog w 0 (λ_=>true) held m0 43 ((cs'.drop 0).take (Tryz.prog.cellsOf 43))=xs0[0]? :=hf0 0 _ rfl;rw[sz43,List.getElem?_eq_getElem (show 0<xs0.length by rw[hxl0];decide)]at f1;obtain⟨d1,B1,_,b1⟩:=bytes_inB Tryz.underlying43 Tryz.underlying5 sz5 sz43 f1;have f2:DataW.trod enc Tryz.prog w 0 (λ_=>true) held m0 178 ((cs'.drop 32).take (Tryz.prog.cellsOf 178))=xs0[1]? :=hf0 1 _ rfl;rw[sz178,List.getElem?_eq_getElem (show 1<xs0.length by rw[hxl0];decide)]at f2;obtain⟨xs3,m3,_,_,_,hxl3,hf3⟩:=DataW.trod_struct Tryz.underlying178 f2;have f4:DataW.trod enc Tryz.prog w 0 (λ_=>true) held m3 3 ((((cs'.drop 32).take 2).drop 0).take (Tryz.prog.cellsOf 3))=xs3[0]? :=hf3 0 _ rfl;rw[sz3,List.getElem?_eq_getElem (show 0<xs3.length by rw[hxl3];decide)]at f4;obtain⟨n4,e4,_,w4⟩:=DataW.trod_int Tryz.underlying3 f4;have f5:DataW.trod enc Tryz.prog w 0 (λ_=>true) held m3 52 ((((cs'.drop 32).take 2).drop 1).take (Tryz.prog.cellsOf 52))=xs3[1]? :=hf3 1 _ rfl;rw[sz52,List.getElem?_eq_getElem (show 1<xs3.length by rw[hxl3];decide)]at f5;obtain⟨a5,l5,c5,e5⟩:=shape_in Tryz.underlying52 f5;refine⟨({f:=d1,u:=n4,ba:=a5,bn:=l5,bc:=c5}:Od),list_of (r:=(odA ({f:=d1,u:=n4,ba:=a5,bn:=l5,bc:=c5}:Od)).toList) hl (λi hi=>?_),trivial⟩
 have hi2:i<34:=hi
 match i,hi2 with
 |0,_=>exact(sub_at (b1 0 (by decide)))
 |1,_=>exact(sub_at (b1 1 (by decide)))
 |2,_=>exact(sub_at (b1 2 (by decide)))
 |3,_=>exact(sub_at (b1 3 (by decide)))
 |4,_=>exact(sub_at (b1 4 (by decide)))
 |5,_=>exact(sub_at (b1 5 (by decide)))
 |6,_=>exact(sub_at (b1 6 (by decide)))
 |7,_=>exact(sub_at (b1 7 (by decide)))
 |8,_=>exact(sub_at (b1 8 (by decide)))
 |9,_=>exact(sub_at (b1 9 (by decide)))
 |10,_=>exact(sub_at (b1 10 (by decide)))
 |11,_=>exact(sub_at (b1 11 (by decide)))
 |12,_=>exact(sub_at (b1 12 (by decide)))
 |13,_=>exact(sub_at (b1 13 (by decide)))
 |14,_=>exact(sub_at (b1 14 (by decide)))
 |15,_=>exact(sub_at (b1 15 (by decide)))
 |16,_=>exact(sub_at (b1 16 (by decide)))
 |17,_=>exact(sub_at (b1 17 (by decide)))
 |18,_=>exact(sub_at (b1 18 (by decide)))
 |19,_=>exact(sub_at (b1 19 (by decide)))
 |20,_=>exact(sub_at (b1 20 (by decide)))
 |21,_=>exact(sub_at (b1 21 (by decide)))
 |22,_=>exact(sub_at (b1 22 (by decide)))
 |23,_=>exact(sub_at (b1 23 (by decide)))
 |24,_=>exact(sub_at (b1 24 (by decide)))
 |25,_=>exact(sub_at (b1 25 (by decide)))
 |26,_=>exact(sub_at (b1 26 (by decide)))
 |27,_=>exact(sub_at (b1 27 (by decide)))
 |28,_=>exact(sub_at (b1 28 (by decide)))
 |29,_=>exact(sub_at (b1 29 (by decide)))
 |30,_=>exact(sub_at (b1 30 (by decide)))
 |31,_=>exact(sub_at (b1 31 (by decide)))
 |32,_=>exact(sub_at (fld1 e4))
 |33,_=>exact(sub_at (fld1 e5))
 |i+34,hlt=>exact absurd hlt (by omega)
theorem gn_in(cs':List Value)(m:Nat)(y:DataW H×List MemPlace)(hl:cs'.length=39)(h:DataW.trod enc Tryz.prog w 0 (λ_=>true) held m 176 cs'=some y):∃z:Gn,cs'=(gnA z).toList/\SlAt odA 34 w.heap.size w z.oa z.olds:=by
 obtain⟨xs0,m0,rfl,_,_,hxl0,hf0⟩:=DataW.trod_struct Tryz.underlying176 h;have f1:DataW.trod enc Tryz.prog w 0 (λ_=>true) held m0 3 ((cs'.drop 0).take (Tryz.prog.cellsOf 3))=xs0[0]? :=hf0 0 _ rfl;rw[sz3,List.getElem?_eq_getElem (show 0<xs0.length by rw[hxl0];decide)]at f1;obtain⟨n1,e1,_,w1⟩:=DataW.trod_int Tryz.underlying3 f1;have f2:DataW.trod enc Tryz.prog w 0 (λ_=>true) held m0 3 ((cs'.drop 1).take (Tryz.prog.cellsOf 3))=xs0[1]? :=hf0 1 _ rfl;rw[sz3,List.getElem?_eq_getElem (show 1<xs0.length by rw[hxl0];decide)]at f2;obtain⟨n2,e2,_,w2⟩:=DataW.trod_int Tryz.underlying3 f2;have f3:DataW.trod enc Tryz.prog w 0 (λ_=>true) held m0 3 ((cs'.drop 2).take (Tryz.prog.cellsOf 3))=xs0[2]? :=hf0 2 _ rfl;rw[sz3,List.getElem?_eq_getElem (show 2<xs0.length by rw[hxl0];decide)]at f3;obtain⟨n3,e3,_,w3⟩:=DataW.trod_int Tryz.underlying3 f3;have f4:DataW.trod enc Tryz.prog w 0 (λ_=>true) held m0 3 ((cs'.drop 3).take (Tryz.prog.cellsOf 3))=xs0[3]? :=hf0 3 _ rfl;rw[sz3,List.getElem?_eq_getElem (show 3<xs0.length by rw[hxl0];decide)]at f4;obtain⟨n4,e4,_,w4⟩:=DataW.trod_int Tryz.underlying3 f4;have f5:DataW.trod enc Tryz.prog w 0 (λ_=>true) held m0 43 ((cs'.drop 4).take (Tryz.prog.cellsOf 43))=xs0[4]? :=hf0 4 _ rfl;rw[sz43,List.getElem?_eq_getElem (show 4<xs0.length by rw[hxl0];decide)]at f5
 obtain⟨d5,B5,_,b5⟩:=bytes_inB Tryz.underlying43 Tryz.underlying5 sz5 sz43 f5;have f6:DataW.trod enc Tryz.prog w 0 (λ_=>true) held m0 174 ((cs'.drop 36).take (Tryz.prog.cellsOf 174))=xs0[5]? :=hf0 5 _ rfl;rw[sz174,List.getElem?_eq_getElem (show 5<xs0.length by rw[hxl0];decide)]at f6;obtain⟨a6,l6,c6,e6,s6,q6,k6⟩:=sl_in (el:=odA) (n:=34) (λ_=>True) (by decide) Tryz.underlying174 sz180 f6 od_in;have f7:DataW.trod enc Tryz.prog w 0 (λ_=>true) held m0 54 ((cs'.drop 37).take (Tryz.prog.cellsOf 54))=xs0[6]? :=hf0 6 _ rfl;rw[sz54,List.getElem?_eq_getElem (show 6<xs0.length by rw[hxl0];decide)]at f7;obtain⟨xs8,m8,_,_,_,hxl8,hf8⟩:=DataW.trod_struct Tryz.underlying54 f7;have f9:DataW.trod enc Tryz.prog w 0 (λ_=>true) held m8 3 ((((cs'.drop 37).take 2).drop 0).take (Tryz.prog.cellsOf 3))=xs8[0]? :=hf8 0 _ rfl;rw[sz3,List.getElem?_eq_getElem (show 0<xs8.length by rw[hxl8];decide)]at f9;obtain⟨n9,e9,_,w9⟩:=DataW.trod_int Tryz.underlying3 f9;have f10:DataW.trod enc Tryz.prog w 0 (λ_=>true) held m8 3 ((((cs'.drop 37).take 2).drop 1).take (Tryz.prog.cellsOf 3))=xs8[1]? :=hf8 1 _ rfl;rw[sz3,List.getElem?_eq_getElem (show 1<xs8.length by rw[hxl8];decide)]at f10;obtain⟨n10,e10,_,w10⟩:=DataW.trod_int Tryz.underlying3 f10;refine⟨({folder:=n1,by_:=n2,device:=n3,pub:=n4,f:=d5,olds:=l6,oa:=a6,oc:=c6,sr:=n9,ss:=n10}:Gn),list_of (r:=(gnA ({folder:=n1,by_:=n2,device:=n3,pub:=n4,f:=d5,olds:=l6,oa:=a6,oc:=c6,sr:=n9,ss:=n10}:Gn)).toList) hl (λi hi=>?_),s6⟩
 have hi2:i<39:=hi
 match i,hi2 with
 |0,_=>exact(fld1 e1)
 |1,_=>exact(fld1 e2)
 |2,_=>exact(fld1 e3)
 |3,_=>exact(fld1 e4)
 |4,_=>exact(sub_at (b5 0 (by decide)))
 |5,_=>exact(sub_at (b5 1 (by decide)))
 |6,_=>exact(sub_at (b5 2 (by decide)))
 |7,_=>exact(sub_at (b5 3 (by decide)))
 |8,_=>exact(sub_at (b5 4 (by decide)))
 |9,_=>exact(sub_at (b5 5 (by decide)))
 |10,_=>exact(sub_at (b5 6 (by decide)))
 |11,_=>exact(sub_at (b5 7 (by decide)))
 |12,_=>exact(sub_at (b5 8 (by decide)))
 |13,_=>exact(sub_at (b5 9 (by decide)))
 |14,_=>exact(sub_at (b5 10 (by decide)))
 |15,_=>exact(sub_at (b5 11 (by decide)))
 |16,_=>exact(sub_at (b5 12 (by decide)))
 |17,_=>exact(sub_at (b5 13 (by decide)))
 |18,_=>exact(sub_at (b5 14 (by decide)))
 |19,_=>exact(sub_at (b5 15 (by decide)))
 |20,_=>exact(sub_at (b5 16 (by decide)))
 |21,_=>exact(sub_at (b5 17 (by decide)))
 |22,_=>exact(sub_at (b5 18 (by decide)))
 |23,_=>exact(sub_at (b5 19 (by decide)))
 |24,_=>exact(sub_at (b5 20 (by decide)))
 |25,_=>exact(sub_at (b5 21 (by decide)))
 |26,_=>exact(sub_at (b5 22 (by decide)))
 |27,_=>exact(sub_at (b5 23 (by decide)))
 |28,_=>exact(sub_at (b5 24 (by decide)))
 |29,_=>exact(sub_at (b5 25 (by decide)))
 |30,_=>exact(sub_at (b5 26 (by decide)))
 |31,_=>exact(sub_at (b5 27 (by decide)))
 |32,_=>exact(sub_at (b5 28 (by decide)))
 |33,_=>exact(sub_at (b5 29 (by decide)))
 |34,_=>exact(sub_at (b5 30 (by decide)))
 |35,_=>exact(sub_at (b5 31 (by decide)))
 |36,_=>exact(fld1 e6)
 |37,_=>exact(sub_at (fld1 e9))
 |38,_=>exact(sub_at (fld1 e10))
 |i+39,hlt=>exact absurd hlt (by omega)
theorem ih_in(cs':List Value)(m:Nat)(y:DataW H×List MemPlace)(hl:cs'.length=68)(h:DataW.trod enc Tryz.prog w 0 (λ_=>true) held m 182 cs'=some y):∃z:Ih,cs'=(ihA z).toList/\True:=by
 obtain⟨xs0,m0,rfl,_,_,hxl0,hf0⟩:=DataW.trod_struct Tryz.underlying182 h;have f1:DataW.trod enc Tryz.prog w 0 (λ_=>true) held m0 43 ((cs'.drop 0).take (Tryz.prog.cellsOf 43))=xs0[0]? :=hf0 0 _ rfl;rw[sz43,List.getElem?_eq_getElem (show 0<xs0.length by rw[hxl0];decide)]at f1;obtain⟨d1,B1,_,b1⟩:=bytes_inB Tryz.underlying43 Tryz.underlying5 sz5 sz43 f1;have f2:DataW.trod enc Tryz.prog w 0 (λ_=>true) held m0 43 ((cs'.drop 32).take (Tryz.prog.cellsOf 43))=xs0[1]? :=hf0 1 _ rfl;rw[sz43,List.getElem?_eq_getElem (show 1<xs0.length by rw[hxl0];decide)]at f2;obtain⟨d2,B2,_,b2⟩:=bytes_inB Tryz.underlying43 Tryz.underlying5 sz5 sz43 f2;have f3:DataW.trod enc Tryz.prog w 0 (λ_=>true) held m0 3 ((cs'.drop 64).take (Tryz.prog.cellsOf 3))=xs0[2]? :=hf0 2 _ rfl;rw[sz3,List.getElem?_eq_getElem (show 2<xs0.length by rw[hxl0];decide)]at f3;obtain⟨n3,e3,_,w3⟩:=DataW.trod_int Tryz.underlying3 f3;have f4:DataW.trod enc Tryz.prog w 0 (λ_=>true) held m0 52 ((cs'.drop 65).take (Tryz.prog.cellsOf 52))=xs0[3]? :=hf0 3 _ rfl;rw[sz52,List.getElem?_eq_getElem (show 3<xs0.length by rw[hxl0];decide)]at f4;obtain⟨a4,l4,c4,e4⟩:=shape_in Tryz.underlying52 f4;have f5:DataW.trod enc Tryz.prog w 0 (λ_=>true) held m0 54 ((cs'.drop 66).take (Tryz.prog.cellsOf 54))=xs0[4]? :=hf0 4 _ rfl;rw[sz54,List.getElem?_eq_getElem (show 4<xs0.length by rw[hxl0];decide)]at f5
 obtain⟨xs6,m6,_,_,_,hxl6,hf6⟩:=DataW.trod_struct Tryz.underlying54 f5;have f7:DataW.trod enc Tryz.prog w 0 (λ_=>true) held m6 3 ((((cs'.drop 66).take 2).drop 0).take (Tryz.prog.cellsOf 3))=xs6[0]? :=hf6 0 _ rfl;rw[sz3,List.getElem?_eq_getElem (show 0<xs6.length by rw[hxl6];decide)]at f7;obtain⟨n7,e7,_,w7⟩:=DataW.trod_int Tryz.underlying3 f7;have f8:DataW.trod enc Tryz.prog w 0 (λ_=>true) held m6 3 ((((cs'.drop 66).take 2).drop 1).take (Tryz.prog.cellsOf 3))=xs6[1]? :=hf6 1 _ rfl;rw[sz3,List.getElem?_eq_getElem (show 1<xs6.length by rw[hxl6];decide)]at f8;obtain⟨n8,e8,_,w8⟩:=DataW.trod_int Tryz.underlying3 f8;refine⟨({f:=d1,g:=d2,by_:=n3,ba:=a4,bn:=l4,bc:=c4,sr:=n7,ss:=n8}:Ih),list_of (r:=(ihA ({f:=d1,g:=d2,by_:=n3,ba:=a4,bn:=l4,bc:=c4,sr:=n7,ss:=n8}:Ih)).toList) hl (λi hi=>?_),trivial⟩;have hi2:i<68:=hi
 match i,hi2 with
 |0,_=>exact(sub_at (b1 0 (by decide)))
 |1,_=>exact(sub_at (b1 1 (by decide)))
 |2,_=>exact(sub_at (b1 2 (by decide)))
 |3,_=>exact(sub_at (b1 3 (by decide)))
 |4,_=>exact(sub_at (b1 4 (by decide)))
 |5,_=>exact(sub_at (b1 5 (by decide)))
 |6,_=>exact(sub_at (b1 6 (by decide)))
 |7,_=>exact(sub_at (b1 7 (by decide)))
 |8,_=>exact(sub_at (b1 8 (by decide)))
 |9,_=>exact(sub_at (b1 9 (by decide)))
 |10,_=>exact(sub_at (b1 10 (by decide)))
 |11,_=>exact(sub_at (b1 11 (by decide)))
 |12,_=>exact(sub_at (b1 12 (by decide)))
 |13,_=>exact(sub_at (b1 13 (by decide)))
 |14,_=>exact(sub_at (b1 14 (by decide)))
 |15,_=>exact(sub_at (b1 15 (by decide)))
 |16,_=>exact(sub_at (b1 16 (by decide)))
 |17,_=>exact(sub_at (b1 17 (by decide)))
 |18,_=>exact(sub_at (b1 18 (by decide)))
 |19,_=>exact(sub_at (b1 19 (by decide)))
 |20,_=>exact(sub_at (b1 20 (by decide)))
 |21,_=>exact(sub_at (b1 21 (by decide)))
 |22,_=>exact(sub_at (b1 22 (by decide)))
 |23,_=>exact(sub_at (b1 23 (by decide)))
 |24,_=>exact(sub_at (b1 24 (by decide)))
 |25,_=>exact(sub_at (b1 25 (by decide)))
 |26,_=>exact(sub_at (b1 26 (by decide)))
 |27,_=>exact(sub_at (b1 27 (by decide)))
 |28,_=>exact(sub_at (b1 28 (by decide)))
 |29,_=>exact(sub_at (b1 29 (by decide)))
 |30,_=>exact(sub_at (b1 30 (by decide)))
 |31,_=>exact(sub_at (b1 31 (by decide)))
 |32,_=>exact(sub_at (b2 0 (by decide)))
 |33,_=>exact(sub_at (b2 1 (by decide)))
 |34,_=>exact(sub_at (b2 2 (by decide)))
 |35,_=>exact(sub_at (b2 3 (by decide)))
 |36,_=>exact(sub_at (b2 4 (by decide)))
 |37,_=>exact(sub_at (b2 5 (by decide)))
 |38,_=>exact(sub_at (b2 6 (by decide)))
 |39,_=>exact(sub_at (b2 7 (by decide)))
 |40,_=>exact(sub_at (b2 8 (by decide)))
 |41,_=>exact(sub_at (b2 9 (by decide)))
 |42,_=>exact(sub_at (b2 10 (by decide)))
 |43,_=>exact(sub_at (b2 11 (by decide)))
 |44,_=>exact(sub_at (b2 12 (by decide)))
 |45,_=>exact(sub_at (b2 13 (by decide)))
 |46,_=>exact(sub_at (b2 14 (by decide)))
 |47,_=>exact(sub_at (b2 15 (by decide)))
 |48,_=>exact(sub_at (b2 16 (by decide)))
 |49,_=>exact(sub_at (b2 17 (by decide)))
 |50,_=>exact(sub_at (b2 18 (by decide)))
 |51,_=>exact(sub_at (b2 19 (by decide)))
 |52,_=>exact(sub_at (b2 20 (by decide)))
 |53,_=>exact(sub_at (b2 21 (by decide)))
 |54,_=>exact(sub_at (b2 22 (by decide)))
 |55,_=>exact(sub_at (b2 23 (by decide)))
 |56,_=>exact(sub_at (b2 24 (by decide)))
 |57,_=>exact(sub_at (b2 25 (by decide)))
 |58,_=>exact(sub_at (b2 26 (by decide)))
 |59,_=>exact(sub_at (b2 27 (by decide)))
 |60,_=>exact(sub_at (b2 28 (by decide)))
 |61,_=>exact(sub_at (b2 29 (by decide)))
 |62,_=>exact(sub_at (b2 30 (by decide)))
 |63,_=>exact(sub_at (b2 31 (by decide)))
 |64,_=>exact(fld1 e3)
 |65,_=>exact(fld1 e4)
 |66,_=>exact(sub_at (fld1 e7))
 |67,_=>exact(sub_at (fld1 e8))
 |i+68,hlt=>exact absurd hlt (by omega)
theorem it_in(cs':List Value)(m:Nat)(y:DataW H×List MemPlace)(hl:cs'.length=74)(h:DataW.trod enc Tryz.prog w 0 (λ_=>true) held m 56 cs'=some y):∃z:It,cs'=(itA z).toList/\(ItIn z/\ByAt w.heap.size w z.ba z.body):=by
 obtain⟨xs0,m0,rfl,_,_,hxl0,hf0⟩:=DataW.trod_struct Tryz.underlying56 h;have f1:DataW.trod enc Tryz.prog w 0 (λ_=>true) held m0 3 ((cs'.drop 0).take (Tryz.prog.cellsOf 3))=xs0[0]? :=hf0 0 _ rfl;rw[sz3,List.getElem?_eq_getElem (show 0<xs0.length by rw[hxl0];decide)]at f1;obtain⟨n1,e1,_,w1⟩:=DataW.trod_int Tryz.underlying3 f1;have f2:DataW.trod enc Tryz.prog w 0 (λ_=>true) held m0 43 ((cs'.drop 1).take (Tryz.prog.cellsOf 43))=xs0[1]? :=hf0 1 _ rfl;rw[sz43,List.getElem?_eq_getElem (show 1<xs0.length by rw[hxl0];decide)]at f2;obtain⟨d2,B2,_,b2⟩:=bytes_inB Tryz.underlying43 Tryz.underlying5 sz5 sz43 f2;have f3:DataW.trod enc Tryz.prog w 0 (λ_=>true) held m0 3 ((cs'.drop 33).take (Tryz.prog.cellsOf 3))=xs0[2]? :=hf0 2 _ rfl;rw[sz3,List.getElem?_eq_getElem (show 2<xs0.length by rw[hxl0];decide)]at f3;obtain⟨n3,e3,_,w3⟩:=DataW.trod_int Tryz.underlying3 f3;have f4:DataW.trod enc Tryz.prog w 0 (λ_=>true) held m0 3 ((cs'.drop 34).take (Tryz.prog.cellsOf 3))=xs0[3]? :=hf0 3 _ rfl;rw[sz3,List.getElem?_eq_getElem (show 3<xs0.length by rw[hxl0];decide)]at f4;obtain⟨n4,e4,_,w4⟩:=DataW.trod_int Tryz.underlying3 f4;have f5:DataW.trod enc Tryz.prog w 0 (λ_=>true) held m0 3 ((cs'.drop 35).take (Tryz.prog.cellsOf 3))=xs0[4]? :=hf0 4 _ rfl;rw[sz3,List.getElem?_eq_getElem (show 4<xs0.length by rw[hxl0];decide)]at f5
 obtain⟨n5,e5,_,w5⟩:=DataW.trod_int Tryz.underlying3 f5;have f6:DataW.trod enc Tryz.prog w 0 (λ_=>true) held m0 3 ((cs'.drop 36).take (Tryz.prog.cellsOf 3))=xs0[5]? :=hf0 5 _ rfl;rw[sz3,List.getElem?_eq_getElem (show 5<xs0.length by rw[hxl0];decide)]at f6;obtain⟨n6,e6,_,w6⟩:=DataW.trod_int Tryz.underlying3 f6;have f7:DataW.trod enc Tryz.prog w 0 (λ_=>true) held m0 51 ((cs'.drop 37).take (Tryz.prog.cellsOf 51))=xs0[6]? :=hf0 6 _ rfl;rw[sz51,List.getElem?_eq_getElem (show 6<xs0.length by rw[hxl0];decide)]at f7;obtain⟨xs8,m8,_,_,_,hxl8,hf8⟩:=DataW.trod_struct Tryz.underlying51 f7;have f9:DataW.trod enc Tryz.prog w 0 (λ_=>true) held m8 3 ((((cs'.drop 37).take 34).drop 0).take (Tryz.prog.cellsOf 3))=xs8[0]? :=hf8 0 _ rfl;rw[sz3,List.getElem?_eq_getElem (show 0<xs8.length by rw[hxl8];decide)]at f9;obtain⟨n9,e9,_,w9⟩:=DataW.trod_int Tryz.underlying3 f9;have f10:DataW.trod enc Tryz.prog w 0 (λ_=>true) held m8 3 ((((cs'.drop 37).take 34).drop 1).take (Tryz.prog.cellsOf 3))=xs8[1]? :=hf8 1 _ rfl;rw[sz3,List.getElem?_eq_getElem (show 1<xs8.length by rw[hxl8];decide)]at f10;obtain⟨n10,e10,_,w10⟩:=DataW.trod_int Tryz.underlying3 f10;have f11:DataW.trod enc Tryz.prog w 0 (λ_=>true) held m8 49 ((((cs'.drop 37).take 34).drop 2).take (Tryz.prog.cellsOf 49))=xs8[2]? :=hf8 2 _ rfl;rw[sz49,List.getElem?_eq_getElem (show 2<xs8.length by rw[hxl8];decide)]at f11
 obtain⟨d11,B11,_,b11⟩:=bytes_inB Tryz.underlying49 Tryz.underlying5 sz5 sz49 f11;have f12:DataW.trod enc Tryz.prog w 0 (λ_=>true) held m0 52 ((cs'.drop 71).take (Tryz.prog.cellsOf 52))=xs0[7]? :=hf0 7 _ rfl;rw[sz52,List.getElem?_eq_getElem (show 7<xs0.length by rw[hxl0];decide)]at f12;obtain⟨a12,l12,c12,e12,s12,q12,k12⟩:=sl_in (el:=u8A) (n:=1) (λ_=>True) (by decide) Tryz.underlying52 sz5 f12 u8_in;have f13:DataW.trod enc Tryz.prog w 0 (λ_=>true) held m0 54 ((cs'.drop 72).take (Tryz.prog.cellsOf 54))=xs0[8]? :=hf0 8 _ rfl;rw[sz54,List.getElem?_eq_getElem (show 8<xs0.length by rw[hxl0];decide)]at f13;obtain⟨xs14,m14,_,_,_,hxl14,hf14⟩:=DataW.trod_struct Tryz.underlying54 f13;have f15:DataW.trod enc Tryz.prog w 0 (λ_=>true) held m14 3 ((((cs'.drop 72).take 2).drop 0).take (Tryz.prog.cellsOf 3))=xs14[0]? :=hf14 0 _ rfl;rw[sz3,List.getElem?_eq_getElem (show 0<xs14.length by rw[hxl14];decide)]at f15;obtain⟨n15,e15,_,w15⟩:=DataW.trod_int Tryz.underlying3 f15;have f16:DataW.trod enc Tryz.prog w 0 (λ_=>true) held m14 3 ((((cs'.drop 72).take 2).drop 1).take (Tryz.prog.cellsOf 3))=xs14[1]? :=hf14 1 _ rfl;rw[sz3,List.getElem?_eq_getElem (show 1<xs14.length by rw[hxl14];decide)]at f16;obtain⟨n16,e16,_,w16⟩:=DataW.trod_int Tryz.underlying3 f16;refine⟨({folder:=n1,commit:=d2,device:=n3,counter:=n4,kind:=n5,size:=n6,ca:=n9,cb:=n10,pad:=d11,sr:=n15,ss:=n16,body:=l12,ba:=a12,bc:=c12}:It),list_of (r:=(itA ({folder:=n1,commit:=d2,device:=n3,counter:=n4,kind:=n5,size:=n6,ca:=n9,cb:=n10,pad:=d11,sr:=n15,ss:=n16,body:=l12,ba:=a12,bc:=c12}:It)).toList) hl (λi hi=>?_),⟨{folder:=(wfI w1),commit:=B2,device:=(wfI w3),counter:=(wfI w4),kind:=(wfI w5),size:=(wfI w6),ca:=(wfI w9),cb:=(wfI w10),pad:=B11,sr:=(wfI w15),ss:=(wfI w16)},sl_by s12⟩⟩
 have hi2:i<74:=hi
 match i,hi2 with
 |0,_=>exact(fld1 e1)
 |1,_=>exact(sub_at (b2 0 (by decide)))
 |2,_=>exact(sub_at (b2 1 (by decide)))
 |3,_=>exact(sub_at (b2 2 (by decide)))
 |4,_=>exact(sub_at (b2 3 (by decide)))
 |5,_=>exact(sub_at (b2 4 (by decide)))
 |6,_=>exact(sub_at (b2 5 (by decide)))
 |7,_=>exact(sub_at (b2 6 (by decide)))
 |8,_=>exact(sub_at (b2 7 (by decide)))
 |9,_=>exact(sub_at (b2 8 (by decide)))
 |10,_=>exact(sub_at (b2 9 (by decide)))
 |11,_=>exact(sub_at (b2 10 (by decide)))
 |12,_=>exact(sub_at (b2 11 (by decide)))
 |13,_=>exact(sub_at (b2 12 (by decide)))
 |14,_=>exact(sub_at (b2 13 (by decide)))
 |15,_=>exact(sub_at (b2 14 (by decide)))
 |16,_=>exact(sub_at (b2 15 (by decide)))
 |17,_=>exact(sub_at (b2 16 (by decide)))
 |18,_=>exact(sub_at (b2 17 (by decide)))
 |19,_=>exact(sub_at (b2 18 (by decide)))
 |20,_=>exact(sub_at (b2 19 (by decide)))
 |21,_=>exact(sub_at (b2 20 (by decide)))
 |22,_=>exact(sub_at (b2 21 (by decide)))
 |23,_=>exact(sub_at (b2 22 (by decide)))
 |24,_=>exact(sub_at (b2 23 (by decide)))
 |25,_=>exact(sub_at (b2 24 (by decide)))
 |26,_=>exact(sub_at (b2 25 (by decide)))
 |27,_=>exact(sub_at (b2 26 (by decide)))
 |28,_=>exact(sub_at (b2 27 (by decide)))
 |29,_=>exact(sub_at (b2 28 (by decide)))
 |30,_=>exact(sub_at (b2 29 (by decide)))
 |31,_=>exact(sub_at (b2 30 (by decide)))
 |32,_=>exact(sub_at (b2 31 (by decide)))
 |33,_=>exact(fld1 e3)
 |34,_=>exact(fld1 e4)
 |35,_=>exact(fld1 e5)
 |36,_=>exact(fld1 e6)
 |37,_=>exact(sub_at (fld1 e9))
 |38,_=>exact(sub_at (fld1 e10))
 |39,_=>exact(sub_at (sub_at (b11 0 (by decide))))
 |40,_=>exact(sub_at (sub_at (b11 1 (by decide))))
 |41,_=>exact(sub_at (sub_at (b11 2 (by decide))))
 |42,_=>exact(sub_at (sub_at (b11 3 (by decide))))
 |43,_=>exact(sub_at (sub_at (b11 4 (by decide))))
 |44,_=>exact(sub_at (sub_at (b11 5 (by decide))))
 |45,_=>exact(sub_at (sub_at (b11 6 (by decide))))
 |46,_=>exact(sub_at (sub_at (b11 7 (by decide))))
 |47,_=>exact(sub_at (sub_at (b11 8 (by decide))))
 |48,_=>exact(sub_at (sub_at (b11 9 (by decide))))
 |49,_=>exact(sub_at (sub_at (b11 10 (by decide))))
 |50,_=>exact(sub_at (sub_at (b11 11 (by decide))))
 |51,_=>exact(sub_at (sub_at (b11 12 (by decide))))
 |52,_=>exact(sub_at (sub_at (b11 13 (by decide))))
 |53,_=>exact(sub_at (sub_at (b11 14 (by decide))))
 |54,_=>exact(sub_at (sub_at (b11 15 (by decide))))
 |55,_=>exact(sub_at (sub_at (b11 16 (by decide))))
 |56,_=>exact(sub_at (sub_at (b11 17 (by decide))))
 |57,_=>exact(sub_at (sub_at (b11 18 (by decide))))
 |58,_=>exact(sub_at (sub_at (b11 19 (by decide))))
 |59,_=>exact(sub_at (sub_at (b11 20 (by decide))))
 |60,_=>exact(sub_at (sub_at (b11 21 (by decide))))
 |61,_=>exact(sub_at (sub_at (b11 22 (by decide))))
 |62,_=>exact(sub_at (sub_at (b11 23 (by decide))))
 |63,_=>exact(sub_at (sub_at (b11 24 (by decide))))
 |64,_=>exact(sub_at (sub_at (b11 25 (by decide))))
 |65,_=>exact(sub_at (sub_at (b11 26 (by decide))))
 |66,_=>exact(sub_at (sub_at (b11 27 (by decide))))
 |67,_=>exact(sub_at (sub_at (b11 28 (by decide))))
 |68,_=>exact(sub_at (sub_at (b11 29 (by decide))))
 |69,_=>exact(sub_at (sub_at (b11 30 (by decide))))
 |70,_=>exact(sub_at (sub_at (b11 31 (by decide))))
 |71,_=>exact(fld1 e12)
 |72,_=>exact(sub_at (fld1 e15))
 |73,_=>exact(sub_at (fld1 e16))
 |i+74,hlt=>exact absurd hlt (by omega)
theorem dk_in(cs':List Value)(m:Nat)(y:DataW H×List MemPlace)(hl:cs'.length=32)(h:DataW.trod enc Tryz.prog w 0 (λ_=>true) held m 43 cs'=some y):∃z:Dk,cs'=(dkA z).toList/\True:=by
 obtain⟨f,_,_,hb⟩:=bytes_inB Tryz.underlying43 Tryz.underlying5 sz5 sz43 h;refine⟨dk f,list_of (r:=(dg f).toList) hl (λi hi=>?_),trivial⟩;have hi2:i<32:=hi;rw[hb i hi2];exact(by rw[Array.getElem?_toList];exact dg_at f i hi2:(dg f).toList[i]? =some (.int .u8 (f i))).symm
theorem po_in{y:DataW H×List MemPlace}(hl:cs.size=6)(h:DataW.trod enc Tryz.prog w 0 (λ_=>true) held m 34 cs.toList=some y):∃p,cs=poC p/\PoAt w.heap.size w p:=by
 obtain⟨xs0,m0,rfl,_,_,hxl0,hf0⟩:=DataW.trod_struct Tryz.underlying34 h;have f1:DataW.trod enc Tryz.prog w 0 (λ_=>true) held m0 3 ((cs.toList.drop 0).take (Tryz.prog.cellsOf 3))=xs0[0]? :=hf0 0 _ rfl;rw[sz3,List.getElem?_eq_getElem (show 0<xs0.length by rw[hxl0];decide)]at f1;obtain⟨n1,e1,_,w1⟩:=DataW.trod_int Tryz.underlying3 f1;have f2:DataW.trod enc Tryz.prog w 0 (λ_=>true) held m0 4 ((cs.toList.drop 1).take (Tryz.prog.cellsOf 4))=xs0[1]? :=hf0 1 _ rfl;rw[sz4,List.getElem?_eq_getElem (show 1<xs0.length by rw[hxl0];decide)]at f2;obtain⟨n2,e2,_⟩:=DataW.trod_bool Tryz.underlying4 f2;have f3:DataW.trod enc Tryz.prog w 0 (λ_=>true) held m0 32 ((cs.toList.drop 2).take (Tryz.prog.cellsOf 32))=xs0[2]? :=hf0 2 _ rfl;rw[sz32,List.getElem?_eq_getElem (show 2<xs0.length by rw[hxl0];decide)]at f3;obtain⟨a3,l3,c3,e3,s3,q3,k3⟩:=sl_in (el:=encI) (n:=1) I64 (by decide) Tryz.underlying32 sz3 f3 int_in;have f4:DataW.trod enc Tryz.prog w 0 (λ_=>true) held m0 32 ((cs.toList.drop 3).take (Tryz.prog.cellsOf 32))=xs0[3]? :=hf0 3 _ rfl;rw[sz32,List.getElem?_eq_getElem (show 3<xs0.length by rw[hxl0];decide)]at f4;obtain⟨a4,l4,c4,e4,s4,q4,k4⟩:=sl_in (el:=encI) (n:=1) I64 (by decide) Tryz.underlying32 sz3 f4 int_in;have f5:DataW.trod enc Tryz.prog w 0 (λ_=>true) held m0 3 ((cs.toList.drop 4).take (Tryz.prog.cellsOf 3))=xs0[4]? :=hf0 4 _ rfl
 rw[sz3,List.getElem?_eq_getElem (show 4<xs0.length by rw[hxl0];decide)]at f5;obtain⟨n5,e5,_,w5⟩:=DataW.trod_int Tryz.underlying3 f5;have f6:DataW.trod enc Tryz.prog w 0 (λ_=>true) held m0 3 ((cs.toList.drop 5).take (Tryz.prog.cellsOf 3))=xs0[5]? :=hf0 5 _ rfl;rw[sz3,List.getElem?_eq_getElem (show 5<xs0.length by rw[hxl0];decide)]at f6;obtain⟨n6,e6,_,w6⟩:=DataW.trod_int Tryz.underlying3 f6;refine⟨(⟨n1,n2,a3,l3,c3,a4,l4,c4,n5,n6⟩:Po),?_,⟨s3,s4⟩⟩;refine(arr_of (l:=(poC (⟨n1,n2,a3,l3,c3,a4,l4,c4,n5,n6⟩:Po)).toList) hl (λi hi=>?_)).trans (Array.toArray_toList);have hi2:i<6:=hi;rw[<-Array.getElem?_toList]
 match i,hi2 with
 |0,_=>exact(fld1 e1)
 |1,_=>exact(fld1 e2)
 |2,_=>exact(fld1 e3)
 |3,_=>exact(fld1 e4)
 |4,_=>exact(fld1 e5)
 |5,_=>exact(fld1 e6)
 |i+6,hlt=>exact absurd hlt (by omega)
theorem rc_in{y:DataW H×List MemPlace}(hl:cs.size=8)(h:DataW.trod enc Tryz.prog w 0 (λ_=>true) held m 31 cs.toList=some y):∃(fa:Option Addr) (fos:List Fo) (fc:Nat) (la:Option Addr) (ms:List Cm) (lc:Nat) (ia:Option Addr) (its:List It) (ic:Nat) (rx:Rx) (gs:List Gn) (js:List Ih),cs=rcA fa fos.length fc la ms.length lc ia its.length ic rx/\fos.length<=9223372036854775807/\(∀c∈ms,CmIn c/\CmAt w.heap.size w c)/\SlAt cmA 73 w.heap.size w la ms/\its.length<=9223372036854775807/\SlAt itA 74 w.heap.size w ia its/\(∀x∈its,ItIn x/\ByAt w.heap.size w x.ba x.body)/\rx.n3=gs.length/\SlAt gnA 39 w.heap.size w rx.a3 gs/\(∀g∈gs,SlAt odA 34 w.heap.size w g.oa g.olds)/\rx.n4=js.length/\SlAt ihA 68 w.heap.size w rx.a4 js/\SlAt foA 33 w.heap.size w fa fos:=by
 obtain⟨xs0,m0,rfl,_,_,hxl0,hf0⟩:=DataW.trod_struct Tryz.underlying31 h;have f1:DataW.trod enc Tryz.prog w 0 (λ_=>true) held m0 22 ((cs.toList.drop 0).take (Tryz.prog.cellsOf 22))=xs0[0]? :=hf0 0 _ rfl;rw[sz22,List.getElem?_eq_getElem (show 0<xs0.length by rw[hxl0];decide)]at f1;obtain⟨a1,l1,c1,e1,s1,q1,k1⟩:=sl_in (el:=foA) (n:=33) (λ_=>True) (by decide) Tryz.underlying22 sz45 f1 fo_in;have f2:DataW.trod enc Tryz.prog w 0 (λ_=>true) held m0 23 ((cs.toList.drop 1).take (Tryz.prog.cellsOf 23))=xs0[1]? :=hf0 1 _ rfl;rw[sz23,List.getElem?_eq_getElem (show 1<xs0.length by rw[hxl0];decide)]at f2;obtain⟨a2,l2,c2,e2⟩:=shape_in Tryz.underlying23 f2;have f3:DataW.trod enc Tryz.prog w 0 (λ_=>true) held m0 24 ((cs.toList.drop 2).take (Tryz.prog.cellsOf 24))=xs0[2]? :=hf0 2 _ rfl;rw[sz24,List.getElem?_eq_getElem (show 2<xs0.length by rw[hxl0];decide)]at f3;obtain⟨a3,l3,c3,e3,s3,q3,k3⟩:=sl_in (el:=cmA) (n:=73) (λz=>CmIn z/\CmAt w.heap.size w z) (by decide) Tryz.underlying24 sz102 f3 cm_in;have f4:DataW.trod enc Tryz.prog w 0 (λ_=>true) held m0 25 ((cs.toList.drop 3).take (Tryz.prog.cellsOf 25))=xs0[3]? :=hf0 3 _ rfl;rw[sz25,List.getElem?_eq_getElem (show 3<xs0.length by rw[hxl0];decide)]at f4;obtain⟨a4,l4,c4,e4,s4,q4,k4⟩:=sl_in (el:=gnA) (n:=39) (λz=>SlAt odA 34 w.heap.size w z.oa z.olds) (by decide) Tryz.underlying25 sz176 f4 gn_in
 have f5:DataW.trod enc Tryz.prog w 0 (λ_=>true) held m0 26 ((cs.toList.drop 4).take (Tryz.prog.cellsOf 26))=xs0[4]? :=hf0 4 _ rfl;rw[sz26,List.getElem?_eq_getElem (show 4<xs0.length by rw[hxl0];decide)]at f5;obtain⟨a5,l5,c5,e5,s5,q5,k5⟩:=sl_in (el:=ihA) (n:=68) (λ_=>True) (by decide) Tryz.underlying26 sz182 f5 ih_in;have f6:DataW.trod enc Tryz.prog w 0 (λ_=>true) held m0 27 ((cs.toList.drop 5).take (Tryz.prog.cellsOf 27))=xs0[5]? :=hf0 5 _ rfl;rw[sz27,List.getElem?_eq_getElem (show 5<xs0.length by rw[hxl0];decide)]at f6;obtain⟨a6,l6,c6,e6⟩:=shape_in Tryz.underlying27 f6;have f7:DataW.trod enc Tryz.prog w 0 (λ_=>true) held m0 28 ((cs.toList.drop 6).take (Tryz.prog.cellsOf 28))=xs0[6]? :=hf0 6 _ rfl;rw[sz28,List.getElem?_eq_getElem (show 6<xs0.length by rw[hxl0];decide)]at f7;obtain⟨a7,l7,c7,e7⟩:=shape_in Tryz.underlying28 f7;have f8:DataW.trod enc Tryz.prog w 0 (λ_=>true) held m0 29 ((cs.toList.drop 7).take (Tryz.prog.cellsOf 29))=xs0[7]? :=hf0 7 _ rfl;rw[sz29,List.getElem?_eq_getElem (show 7<xs0.length by rw[hxl0];decide)]at f8;obtain⟨a8,l8,c8,e8,s8,q8,k8⟩:=sl_in (el:=itA) (n:=74) (λz=>ItIn z/\ByAt w.heap.size w z.ba z.body) (by decide) Tryz.underlying29 sz56 f8 it_in;refine⟨a1,l1,c1,a3,l3,c3,a8,l8,c8,⟨a2,l2,c2,a4,l4.length,c4,a5,l5.length,c5,a6,l6,c6,a7,l7,c7⟩,l4,l5,?_,lim_of k1,q3,s3,lim_of k8,s8,q8,rfl,s4,q4,rfl,s5,s1⟩
 refine(arr_of (l:=(rcA a1 l1.length c1 a3 l3.length c3 a8 l8.length c8 ⟨a2,l2,c2,a4,l4.length,c4,a5,l5.length,c5,a6,l6,c6,a7,l7,c7⟩).toList) hl (λi hi=>?_)).trans (Array.toArray_toList);have hi2:i<8:=hi;rw[<-Array.getElem?_toList]
 match i,hi2 with
 |0,_=>exact(fld1 e1)
 |1,_=>exact(fld1 e2)
 |2,_=>exact(fld1 e3)
 |3,_=>exact(fld1 e4)
 |4,_=>exact(fld1 e5)
 |5,_=>exact(fld1 e6)
 |6,_=>exact(fld1 e7)
 |7,_=>exact(fld1 e8)
 |i+8,hlt=>exact absurd hlt (by omega)
end
end Px
