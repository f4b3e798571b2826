/- Contracts of functions of the program. No condition beyond those stated. -/
import Derived.Test.YtodpaegknpbomaaGreatDoorKd
import Derived.Test.YtodpaegknpbomaaGreatDoorProg
import Derived.Test.YtodpaegknpbomaaGreatDoorLa
set_option linter.unusedSimpArgs false
set_option linter.unusedVariables false
set_option linter.unusedSectionVars false
set_option linter.unnecessarySimpa false
set_option maxRecDepth 20000
set_option maxHeartbeats 8000000
namespace Px
open Go Go.RowKit Go.Proofs Go.Proofs.Tryz
def kg (d:Cd):Nat:=d.at_.toNat
structure sQ (Z:Fx) (cs:List Cm) (g:Gp) (d:Cd):Prop where
 nn:0<=d.at_
 at_:cs[kg d]? =some d.c
 id:d.id=aB Z d.c
 since:d.since=B3 g.ms d.c.author
 x:d.x.g=kT Z g d.c
 ok:ju Z g d.c=0
noncomputable def Fp (Z:Fx) (cs:List Cm) (g:Gp) (i:Nat):Bool:=match cs[i]? with|some c=>lY c.par g.last&&decide (ju Z g c=0)|none=>false
noncomputable def vC (Z:Fx) (cs:List Cm) (g:Gp) (k:Nat):List Nat:=(((bF Z cs cs.length).take k).map λp=>p.2.toNat).filter (Fp Z cs g)
variable {d:Cd} {Z:Fx} {g:Gp} {x:Gv} {vs:List (Nat×Gp)} {cs:List Cm} {cap sp:List Value} {L:List World} {K N b i j:Nat} {RO:Nat->Prop} {W w:World}
theorem KX{k:Nat}{q:Dk×Int}(hq:(bF Z cs cs.length)[k]? =some q)(hi:q.2=(i:Int))(h:Fp Z cs g i=true):vC Z cs g (k+1)=vC Z cs g k++[i]:=by simp_all[vC,np]
theorem Fq{k:Nat}{q:Dk×Int}(hq:(bF Z cs cs.length)[k]? =some q)(hi:q.2=(i:Int))(h:Fp Z cs g i=false):vC Z cs g (k+1)=vC Z cs g k:=by simp_all[vC,np]
theorem KY{c:Cm}(hc:cs[i]? =some c)(h:¬lY c.par g.last=true):Fp Z cs g i=false:=by simp[Fp,hc,h]
theorem KZ{c:Cm}(hc:cs[i]? =some c)(h:¬ju Z g c=0):Fp Z cs g i=false:=by simp[Fp,hc,h]
theorem K0{c:Cm}(hc:cs[i]? =some c)(h:lY c.par g.last=true)(h2:ju Z g c=0):Fp Z cs g i=true:=by simp[Fp,hc,h,h2]
theorem nKj{k:Nat}(h:i∈vC Z cs g k):∃c,cs[i]? =some c/\(dk (aB Z c),(i:Int))∈(bF Z cs cs.length):=by
 obtain⟨h1,_⟩:=wD.1 h;all_goals grind [U7,dk,aB]
noncomputable def Fs (Z:Fx) (cs:List Cm) (g:Gp) (i:Nat):Int×Int×List UInt8:=match cs[i]? with|some c=>(B3 g.ms c.author,c.author,cy (aB Z c))|none=>(0,0,[])
theorem sQ.key(h:sQ Z cs g d):kyD d=Fs Z cs g (kg d):=by simp only[kyD,Fs,h.at_,h.since,h.id]
noncomputable def Ob (Z:Fx) (cs:List Cm) (g:Gp) (i j:Nat):Bool:=decide (ky3 (Fs Z cs g i) (Fs Z cs g j)<=0)
noncomputable def AN (Z:Fx) (cs:List Cm) (g:Gp):List Nat:=(vC Z cs g (bF Z cs cs.length).length).mergeSort (Ob Z cs g)
theorem K1{f g:Nat->Int}(hf:ec f)(hg:ec g)(h:cy f=cy g):dk f=dk g:=by
 have key:∀i,i<32->f i=g i:=by
  intro i hi;have h1:=Us f hf i hi;have h2:=Us g hg i hi;rw[<-h1,<-h2,h]
 all_goals grind [dk]
theorem K2(hZ:FxOk Z){k:Nat}:∀a∈vC Z cs g k,∀b∈vC Z cs g k,Ob Z cs g a b=true->Ob Z cs g b a=true->a=b:=by
 intro a ha b hb h1 h2;obtain⟨c,hc,hm⟩:=nKj ha;obtain⟨c2,aN,bW⟩:=nKj hb;simp only[Ob,decide_eq_true_eq]at h1 h2;have h3:=CO.ky3.anti (Fs Z cs g a) (Fs Z cs g b);have h4:=Rl (x:=Fs Z cs g a) (y:=Fs Z cs g b) aa;simp only[Fs,hc,aN]at h4;have h5:dk (aB Z c)=dk (aB Z c2):=K1 (hZ.byt _ _) (hZ.byt _ _) h4;have nd:=nyg Z cs cs.length;obtain⟨i,hi⟩:=kA.1 hm;obtain⟨j,hj⟩:=kA.1 bW;have lk:=nr hi;have Cw:=nr hj;have uy:i=j:=by
  have e1:((bF Z cs cs.length).map (·.1))[i]? =some (dk (aB Z c)):=by rw[sA,hi];rfl
  have e2:((bF Z cs cs.length).map (·.1))[j]? =some (dk (aB Z c)):=by rw[sA,hj,h5];rfl
  exact(List.getElem?_inj (by rw[eG];exact lk) nd).1 (e1.trans e2.symm)
 subst uy;rw[hi]at hj;have:=(Prod.mk.inj (Option.some.inj hj)).2;omega
instance:Inhabited Cd:=⟨⟨0,⟨0,0,λ_=>0,0,[],none,0,[],none,0,[],none,0,[],none,0,λ_=>0,0,0⟩,λ_=>0,0,gy⟩⟩
theorem nmp{α:Type}[Inhabited α]{cf:α->α->Int}(h:CO cf)(xs:List α):(gC cf xs).Pairwise (λa b=>cf a b<=0):=by
 have hs:=(Go.Sort.pdq_sorts (Go.Proofs.ltOf cf) h.swo xs.toArray 0 xs.toArray.size (Go.Lib.bitLen xs.toArray.size) true true (cV _) (ak _) (Or.inl rfl)).2;have hl:(gC cf xs).length=xs.toArray.size:=by rw[N2 h.swo];simp
 rw[List.pairwise_iff_getElem];intro i j hi hj uy;have h2:=hs i j (cV _) uy aa;simp only[Go.Proofs.ltOf,decide_eq_false_iff_not]at h2;have e:∀k (hk:k<(gC cf xs).length),(Go.Sort.pdq (Go.Proofs.ltOf cf) xs.toArray 0 xs.toArray.size (Go.Lib.bitLen xs.toArray.size) true true)[k]! =(gC cf xs)[k]:=by
  intro k hk;unfold gC at hk ⊢;rw[Nu]at hk;rw[Array.getElem_toList];exact getElem!_pos (Go.Sort.pdq (Go.Proofs.ltOf cf) xs.toArray 0 xs.toArray.size (Go.Lib.bitLen xs.toArray.size) true true) k hk
 rw[e i hi,e j hj]at h2;have:=h.anti ((gC cf xs)[i]) ((gC cf xs)[j]);omega
theorem K3(hZ:FxOk Z){ds:List Cd}(hm:ds.map kg=vC Z cs g (bF Z cs cs.length).length)(hd:∀d∈ds,sQ Z cs g d):(gC rkI ds).map kg=AN Z cs g:=by
 have hp:(gC rkI ds).Perm ds:=U2 CO.rkI.swo ds;have Ft:((gC rkI ds).map kg).Perm (vC Z cs g (bF Z cs cs.length).length):=hm▸hp.map kg;have Rm:(AN Z cs g).Perm (vC Z cs g (bF Z cs cs.length).length):=List.mergeSort_perm _ _;refine nhk (le:=Ob Z cs g) (λa ha b hb=>K2 hZ a (Ft.mem_iff.1 ha) b (Ft.mem_iff.1 hb)) ?_ ?_ (Ft.trans Rm.symm)
 ·rw[List.pairwise_map];refine(nmp CO.rkI ds).imp_of_mem ?_;intro a b ha hb h;have h1:=(hd a (hp.mem_iff.1 ha)).key;have h2:=(hd b (hp.mem_iff.1 hb)).key;simp only[Ob,decide_eq_true_eq,<-h1,<-h2];exact h
 refine List.pairwise_mergeSort (λa b c h1 h2=>?_) (λa b=>?_) _
 ·simp only[Ob,decide_eq_true_eq]at *;exact CO.ky3.trans _ _ _ h1 h2
 have:=CO.ky3.anti (Fs Z cs g a) (Fs Z cs g b);simp only[Ob,Bool.or_eq_true,decide_eq_true_eq];omega
structure sa (F:ad) (x:Gv):Prop where
 ms:ll pZ 3 F x.ma x.g.ms
 ns:ll fN 2 F x.na x.g.ns
 mn:x.g.ms.length<=10000
 nn:x.g.ns.length<=80000
theorem sa.mono{F F':ad}(h:sa F x)(hF:∀p∈F,p∈F'):sa F' x:=⟨h.ms.mono hF,h.ns.mono hF,h.mn,h.nn⟩
theorem sa.lies{F:ad}(h:sa F x)(hW:∀p∈F,p.1<N/\W.heap[p.1]? =some p.2):bT N W x:=⟨h.ms.at hW,h.ns.at hW,h.mn,h.nn⟩
def dw (K:Nat) (x:Gv):Prop:=(∀q,x.ma=some q->x.g.ms=[]\/K<=q.block)/\(∀q,x.na=some q->x.g.ns=[]\/K<=q.block)
theorem sa.new{F:ad}(h:sa F x)(hF:∀p∈F,K<=p.1):dw K x:=⟨h.ms.ge hF,h.ns.ge hF⟩
theorem n5k(hZ:FxOk Z)(G:Gv)(c:Cm)(dz:bP c)(N:Nat)(w:World)(hN:N<=w.heap.size)(hG:bT N w G)(hC:dm N w c)(hg:Glb w):Calls prog 83 #[.agg (bD G),.agg (cG c)] w (λe w'=>∃(X:Gv) (F':ad),e= .returned (.tuple #[.agg (bD X),ab (ju Z G.g c)])/\Below w.heap.size w w'/\(∀p∈F',w.heap.size<=p.1/\w'.heap[p.1]? =some p.2)/\X.g=xD Z G.g c/\sa F' X):=by
 refine(nnd hZ G c dz N w hN hG hC hg).mono ?_;rintro e w' ⟨X,rfl,hb,hg9,fj,hn1,hn2⟩;obtain⟨F1,zj,xH⟩:=fj.ms.fs hn1;obtain⟨F2,Oc,N6⟩:=fj.ns.fs hn2;refine⟨X,F1++F2,rfl,hb,λp hp=>(bA.1 hp).elim (zj p) (Oc p),hg9,xH.mono (λp hp=>bA.2 (.inl hp)),N6.mono (λp hp=>bA.2 (.inr hp)),fj.mn,fj.nn⟩
theorem Rr{xs:List Cd}(hl:xs.length<=1000000){cap:Nat}(bN:(Rw.row b cap sp).Fit 143 xs)(h:W.heap[b]? =some (aO ow 159 xs sp))(bk:Nat)(Va:∀w:World,aH (· =b) W w->B6 w bk):Calls prog 109 #[.slice (aj b) xs.length cap,.func (.func 249) #[] #[ptr bk 0]] W (λe w'=>∃bU,e= .returned ((λ_=>.tuple #[]) (Rw.row b cap bU))/\aH (· =b) W w'/\(Rw.row b cap bU).Fit 143 (gC rkI xs)/\w'.heap[b]? =some (aO ow 159 (gC rkI xs) bU)):=by
 have Iz:∀ys:List Cd,ys.length=xs.length->∀(m:Nat) (os:Array Obj),aH (· =b) W (Go.Proofs.sortWorldK ow 143 W b 0 m ys.toArray os):=λys hy m os=>(YB (n:=m) (os:=os) Fe h (ys:=ys) hy).1;have hc:=Go.Proofs.AnyQ.slices_SortFunc_eq Go.Proofs.Tryz.laySC 143 isAgg159 sizeOf159 ow Fe nak rkI CO.rkI.swo 249 #[ptr bk 0] b 0 cap xs.toArray W (Go.Proofs.enters_of func249 zO rfl) (λm os dk hd x y=>ahS x y bk _ (Va _ (by have:=Iz dk.toList (by rw[Nu,hd];simp) m os;simpa using this))) (n0i Fe h) (aT.1 h).1 oI;change Calls prog 109 _ _ _ at hc;refine hc.mono ?_;rintro e w' ⟨rfl,n,os,rfl⟩;have hp:=YB (n:=n) (os:=os) Fe h (ys:=gC rkI xs) (N2 CO.rkI.swo xs);exact⟨sp,rfl,hp.1,by simp only[Rw.Fit,N2 CO.rkI.swo];exact bN,hp.2⟩
theorem B6.keep{X:Nat->Prop}(h:B6 w b)(hk:aH X w W)(hX:∀k,k<w.heap.size->X k->∀c,w.heap[k]? =some c->∀b',w.heap[b]? =some (oC #[.slice (aj b') 3 3] 390)->k≠b/\k≠b'):B6 W b:=by
 obtain⟨b',h1,h2⟩:=h;have l1:=(aT.1 h1).1;have l2:=(aT.1 h2).1;refine⟨b',?_,?_⟩
 ·rw[hk.block b l1 (λhx=>(hX b l1 hx _ h1 b' h1).1 rfl)];exact h1
 rw[hk.block b' l2 (λhx=>(hX b' l2 hx _ h2 b' h1).2 rfl)];exact h2
def zk (w:World) (b N:Nat):Prop:=N<=b/\∃b',N<=b'/\w.heap[b]? =some (oC #[.slice (aj b') 3 3] 390)/\w.heap[b']? =some (oC #[.func (.func 183) #[] #[],.func (.func 184) #[] #[],.func (.func 185) #[] #[]] 227)
theorem zk.keep{X:Nat->Prop}(h:zk w b N)(hk:aH X w W)(hX:∀k,X k->k<N):zk W b N:=by
 obtain⟨h0,b',ew,h1,h2⟩:=h;have l1:=(aT.1 h1).1;have l2:=(aT.1 h2).1;refine⟨h0,b',ew,?_,?_⟩
 ·rw[hk.block b l1 (λhx=>by have:=hX _ hx;omega)];exact h1
 rw[hk.block b' l2 (λhx=>by have:=hX _ hx;omega)];exact h2
theorem zk.at(h:zk w b N):B6 w b:=⟨h.2.choose,h.2.choose_spec.2⟩
theorem nLo(b:Nat)(w:World):Calls prog 182 #[.slice (aj b) 3 3] w (cN w (λb1:Nat=>.func (.func 249) #[] #[ptr b1 0]) (λb1 w1=>w.heap.size<=b1/\w1.heap[b1]? =some (oC #[.slice (aj b) 3 3] 390))):=by
 refine eN func182 ntmps182 ?_;refine B 2 ?_;refine yX ?_;intro b1 w1 hb1 cF gA fX jq;refine B 10 ?_;refine rS b1 results182 rfl A1 rfl ?_;exact λW hS=>⟨by omega,hS.old A0 hb1 cF trivial⟩
theorem nEl(w:World):Calls prog 110 #[] w (cN w (λb1:Nat=>.func (.func 249) #[] #[ptr b1 0]) (λb1 w1=>zk w1 b1 w.heap.size)):=by
 refine eN func110 ntmps110 ?_;refine B 7 ?_;refine qN underlying390 sizeOf227 zeroValue227 rfl rfl rfl rfl rfl rfl rfl ?_;refine yV ?_;intro b1 w1 hb1 cF gA fX jq;refine nv (α:=Nat) (v:=λb9:Nat=>.func (.func 249) #[] #[ptr b9 0]) (Φ:=λW b9 w9=>W.heap.size<=b9/\w9.heap[b9]? =some (oC #[.slice (aj b1) 3 3] 390)) call182 rfl rfl rfl (λW hS=>nLo b1 W) ?_;rintro W9 b9 w9 cu xz ⟨hq1,hq2⟩;have X4:=(cu.links w1 A0).size;have hzw:=(cu.links w A1).size;refine B 4 ?_;refine rS b9 results110 rfl A2 rfl ?_;exact λW hS=>⟨by omega,b1,by omega,hS.old A0 hq2 zL trivial,hS.old A1 hb1 cF trivial⟩
theorem n6k(bk:Nat)(w:World):Calls prog 241 #[ao,ab 0,ab 0,.func (.func 249) #[] #[ptr bk 0]] w (aM w (.tuple #[])):=by
 refine eN func241 ntmps241 ?_;refine B 8 ?_;refine zyd ?_;rintro j _;refine B 5 ?_;refine Er ?_;exact cC (.inr rfl) results241 bj A0 trivial rfl
theorem nHo(bk:Nat)(l:Int)(w:World):Calls prog 181 #[ao,ab 0,ab 0,ab l,.func (.func 249) #[] #[ptr bk 0]] w (aM w (.tuple #[])):=by
 refine eN func181 ntmps181 ?_;refine B 11 ?_;refine zzd ?_;rintro j _;refine PE ?_;refine B 9 ?_;refine call call241 rfl rfl rfl (λW hS=>n6k bk W) ?_;refine B 7 ?_;exact cC (.inl rfl) results181 bj A0 trivial rfl
theorem nWm(bk:Nat)(w:World):Calls prog 109 #[ao,.func (.func 249) #[] #[ptr bk 0]] w (aM w (.tuple #[])):=by
 refine eN func109 ntmps109 ?_;refine zLf ?_;refine call call181 rfl rfl rfl (λW hS=>nHo bk _ W) ?_;refine B 1 ?_;exact cC (.inr rfl) results109 bj A0 trivial rfl
theorem nKi(hZ:FxOk Z)(cs:List Cm)(cJ:cs.length<=1000)(dz:∀c∈cs,bP c)(N:Nat)(la:Option Addr)(lc:Nat)(w:World)(hN:N<=w.heap.size)(aJ:ai cG 73 N w la cs)(hC:∀c∈cs,dm N w c)(ia:Option Addr)(ic:Nat)(ta:Option Addr)(tc:Nat)(hp:o8 Z cs N w ⟨ia,ic,ta,tc⟩)(G:Gv)(hG:bT N w G)(hg:Glb w):Calls prog 63 #[.agg (zf Z cs la lc ⟨ia,ic,ta,tc⟩),.agg (bD G)] w (λe w'=>∃ds:List Cd,(ds.map kg=AN Z cs G.g/\∀d∈ds,sQ Z cs G.g d/\bT w'.heap.size w' d.x/\dw w.heap.size d.x)/\aD w ow 143 159 ds id e w'):=by
 have hg4:=hg.lt;have im:=ngh Z cs cs.length;have lX:((bF Z cs cs.length).map (·.1)).length=(bF Z cs cs.length).length:=eG ..;have Iz:((bF Z cs cs.length).map (·.2)).length=(bF Z cs cs.length).length:=eG ..;have Fu:=hp.ids;have Fv:=hp.at_;dsimp only at Fu Fv;refine nB (dI []) [] (vs:=[_,_]) func63 rfl ntmps63 rfl (N0 w) ?_;refine B 2 ?_;refine yX ?_;intro b2 w2 da bW eU dx dq;refine yX ?_;intro b3 w3 hb3 cK fF ez eP;refine B 7 ?_;refine ax (.slice ta ((bF Z cs cs.length).map (·.2)).length tc) ?_;refine B 5 ?_;refine CJ.loop (α:=((Rw×List Cd)×ad)×Nat) (λp9=>[(2,ptr b2 0),(3,ptr b3 0),(4,p9.1.1.1.val p9.1.1.2.length),(11,.slice ta ((bF Z cs cs.length).map (·.2)).length tc),(12,ab (((bF Z cs cs.length).map (·.2)).length:Int)),(13,ab (p9.2:Int))]) (λp9=>p9.1.1.1.hp ow 159 p9.1.1.2++[]) (λp9=>[w3,w2,w]) (λp9=>dI p9.1.2) (λp9=>p9.2<=((bF Z cs cs.length).map (·.2)).length/\p9.1.1.1.Fr (dI p9.1.2) [w3,w2,w]/\p9.1.1.1.Fit 143 p9.1.1.2/\p9.1.1.2.map kg=vC Z cs G.g p9.2/\(∀d∈p9.1.1.2,sQ Z cs G.g d/\sa p9.1.2 d.x)/\p9.1.1.2.length<=p9.2/\∀q∈p9.1.2,w.heap.size<=q.1) (λp9=>((bF Z cs cs.length).map (·.2)).length-p9.2) (((.nil,[]),[]),0) ⟨cV _,True.intro,rfl,rfl,by simp,ak _,by simp⟩ zR rfl rfl zJ ?_;rintro⟨⟨⟨r,ds⟩,F⟩,k⟩ ⟨hk,aK,ah,aQ,iq,vN,dS⟩
 dsimp only at hk aK ah aQ iq vN dS ⊢;have bH:r.ge w3.heap.size:=Rw.ge_fz aK A0;refine B 6 ?_;refine aG ?_ ?_
 ·intro ar;refine B 5 ?_;obtain⟨q,hq⟩:=ng (bF Z cs cs.length) k aa;obtain⟨i,c,Rs,lk,hc,hqk⟩:=U7 Z cs _ q (cP hq);have IJ:((bF Z cs cs.length).map (·.2))[k]? =some ((i:Nat):Int):=by rw[sA,hq,JP,Rs]
  have O9:((bF Z cs cs.length).map (·.1))[k]? =some (dk (aB Z c)):=by rw[sA,hq,JP,hqk]
  have CR:=cP hc;obtain⟨ba,oa,csa,ta,fra,rfl,hba,Fw,K4⟩:=Fv.get aa;obtain⟨bq,oq,Qj,tq,Qk,rfl,oT,yK,pY⟩:=Fu.get aa;obtain⟨bl,ol,csl,tl,frl,rfl,jf,wF,qh⟩:=aJ.get aa;refine B 3 ?_;refine rv rfl rfl rfl (av (v:=ab (i:Int)) isAgg3 rfl A2 Fw zL zA zIc) ?_;refine B 7 ?_;refine ax (.slice (some ⟨bl,ol,none⟩) cs.length lc) ?_;refine B 2 ?_;refine ax (.agg (cG c)) ?_;refine B 1 ?_;refine yW ?_;intro b7 jy vr;refine B 5 ?_;by_cases hq9:lY c.par G.g.last=true
  ·refine B 2 ?_;refine ax (.agg (dg c.par)) ?_;refine B 1 ?_;refine ax (.agg (dg G.g.last)) ?_;refine rq bG (er xu zB nL rfl rfl rfl) (congrArg (λq=>Value.bool (!q)) hq9) ?_;refine B 7 ?_;refine ax (.agg (bD G)) ?_;refine ax (.agg (cG c)) ?_;refine Vb (γ:=Gv) (v:=λX=>.tuple #[.agg (bD X),ab (ju Z G.g c)]) (Φ:=λF X=>X.g=xD Z G.g c/\sa F X) call83 rfl rfl rfl (λW hS=>n5k hZ G c (dz c CR) N W cM (hG.up (ak _) (hS.same A2 hN zI zH)) ((hC c CR).up (ak _) (hS.same A2 hN zI zH)) (hg.old hS A2 zI zH)) ?_;rintro Xn F2 ⟨fE,jv⟩ Oc;obtain⟨e,he⟩:∃e,ju Z G.g c=e:=⟨_,rfl⟩;rw[he];refine B 4 ?_;refine yW ?_;intro b8 Ik Il;refine B 10 ?_;refine aG ?_ ?_
   ·intro aN;refine eS 15 14 [] (pb:=by exact zU 11 (k:=by exact aU (nf call108 rfl rfl (λW hS _=>KM G N W cM (hG.up (ak _) (hS.same A2 hN zI zH)) c.author) (λ_=>rfl)) zT)) (sp:=[_,_,some (.agg (cG c)),_,some (.slice (some ⟨bq,oq,none⟩) ((bF Z cs cs.length).map (·.1)).length ic),_,_,some (.agg (dg (aB Z c))),some (.agg (bD G)),_,some (ab c.author),some (ab (B3 G.g.ms c.author)),some (.agg (bD Xn)),some (.agg (iK (⟨(i:Int),c,aB Z c,B3 G.g.ms c.author,Xn⟩:Cd))),_]) (h:=?_);intro _ _ hk;refine iS underlying162 sizeOf159 zeroValue159 rfl rfl rfl rfl rfl rfl rfl ?_;intro b50 mE gP;have anx:w3.heap.size<=b50:=mE.1;refine zE ?_;refine jS (r:=r) (xs:=ds) (zs:=[(⟨(i:Int),c,aB Z c,B3 G.g.ms c.author,Xn⟩:Cd)]) (enc:=ow) (m:=143) (H0:=[(b50,oC (iK (⟨(i:Int),c,aB Z c,B3 G.g.ms c.author,Xn⟩:Cd)) 159),(b8,oC (bD Xn) 53),(b7,oC (cG c) 61)]) (H1:=[]) zX Fg Fe rfl rfl rfl rfl (bO.one (z:=(⟨(i:Int),c,aB Z c,B3 G.g.ms c.author,Xn⟩:Cd)) Fe nak underlying162 (bB.own (i:=0) rfl)) ah aK zJ Az ?_;intro b51 ahV ahW Rt Ru;replace Rt:=yb Rt;refine CH ?_;refine pV ?_;refine ag (((Rw.row b51 ahV ahW,ds++[(⟨(i:Int),c,aB Z c,B3 G.g.ms c.author,Xn⟩:Cd)]),F2++F),k+1) ⟨by dsimp only;omega,Rt.elim (λh=>Rw.Fr_at aK h) (λh=>.inr h),Ru,by dsimp only;rw[KX hq Rs (K0 hc hq9 (by rw[he];assumption)),gb,aQ];rfl,λd hd=>(bA.1 hd).elim (λh=>⟨(iq d h).1,(iq d h).2.mono (λp hp=>bA.2 (.inr hp))⟩) (λh=>by rw[kf.1 h];exact⟨⟨Int.natCast_nonneg _,hc,rfl,rfl,fE.trans (if_pos (by rw[he];assumption)),by rw[he];assumption⟩,jv.mono (λp hp=>bA.2 (.inl hp))⟩),by dsimp only;rw[ck,List.length_singleton];omega,λq hq=>(bA.1 hq).elim (λh=>(Oc q h).not A2) (dS q)⟩
   intro aN;refine Re ?_;refine ag (((r,ds),F2++F),k+1) ⟨by dsimp only;omega,aK,ah,by dsimp only;rw[Fq hq Rs (KZ hc (by rw[he];assumption))];exact aQ,λd hd=>⟨(iq d hd).1,(iq d hd).2.mono (λp hp=>bA.2 (.inr hp))⟩,by dsimp only;omega,λq hq=>(bA.1 hq).elim (λh=>(Oc q h).not A2) (dS q)⟩
  refine B 2 ?_;refine ax (.agg (dg c.par)) ?_;refine B 1 ?_;refine ax (.agg (dg G.g.last)) ?_;refine rq cX (er xu zB nL rfl rfl rfl) (congrArg (λq=>Value.bool (!q)) (Bool.eq_false_iff.2 hq9)) ?_;refine B 11 ?_;refine pV ?_;refine ag (((r,ds),F),k+1) ⟨by dsimp only;omega,aK,ah,by dsimp only;rw[Fq hq Rs (KY hc hq9)];exact aQ,iq,by dsimp only;omega,dS⟩
 intro ar;refine B 6 ?_;have hke:k=(bF Z cs cs.length).length:=by omega
 rw[hke]at aQ;refine B 2 ?_;refine nv (α:=Nat) (v:=λb:Nat=>.func (.func 249) #[] #[ptr b 0]) (Φ:=λW b w1=>zk w1 b W.heap.size) call110 rfl rfl rfl (λW hS=>nEl W) ?_;intro Wk bk wk vy Ej Va;have hzk:=Ej.size;refine Ec (r:=r) (enc:=ow) (m:=143) (t:=159) (xs:=ds) (ys:=gC rkI ds) (H0:=[]) (H1:=[]) (v:=λ_=>.tuple #[]) rfl call109 rfl rfl rfl (λhr W hS=>?_) (λb cap sp hr W hS h=>?_) ?_
 ·subst hr;have h0:ds=[]:=ah;subst h0;exact(nWm bk W).mono λe w2 h=>⟨h.1,kX (N2 CO.rkI.swo []),h.2⟩
 ·subst hr;have jf:b<Wk.heap.size:=vy.lt (b,_) A0;exact Rr aa ah h bk (λw9 Y6=>((Va.keep (X:=λk=>k=b) ((hS.links wk A0).mono (λk _ hx=>by rcases hx with hx|hx;(exact hx.elim);simpa[Rw.hp]using hx)) (λk hk=>by omega)).keep Y6 (λk hk=>by omega)).at)
 intro r2 eu lb qR jE;have ee:=qR _ bH;refine B 9 ?_;refine bM (.inl rfl) results63 bj λW hS=>?_;have rV:(gC rkI ds).Perm ds:=U2 CO.rkI.swo ds;refine⟨gC rkI ds,⟨K3 hZ aQ (λd hd=>(iq d hd).1),λd hd=>⟨(iq d (rV.mem_iff.1 hd)).1,(iq d (rV.mem_iff.1 hd)).2.lies hS.fzLies,(iq d (rV.mem_iff.1 hd)).2.new dS⟩⟩,r2,?_,?_,Rw.ge_mono ee aa,eu,?_⟩
 ·show Ending.returned (r.val ds.length)=Ending.returned (r2.val (gC rkI ds).length);rw[jE,N2 CO.rkI.swo]
 ·exact(hS.links w A3).below (λk hk hx=>by rcases hx with hx|hx;(exact hx);simp only[ef,dV]at hx;have:=Rw.mem_ge ee hx;omega)
 cases r2 with
  |nil=>trivial
  |row b cap sp=>exact hS.own (b,_) oR
instance:Inhabited Cm:=⟨⟨0,0,λ_=>0,0,[],none,0,[],none,0,[],none,0,[],none,0,λ_=>0,0,0⟩⟩
def zCd:Cd:=default
def ahX {α:Type} (cf:α->Cm) (l:List α) (d:α):Bool:=l.any λx=>decide ((cf x).author≠(cf d).author)&&(cf x).chs.any (ahB (cf d).author)
def ahY {α:Type} (cf:α->Cm) (b:Option α) (d:α):Option α:=match b with|none=>some d|some w=>if rmN (cf w).chs<rmN (cf d).chs then some d else some w
def wnS {α:Type} (cf:α->Cm) (s:List α×Option α) (d:α):List α×Option α:=if ahX cf s.1 d=true then s else(s.1++[d],ahY cf s.2 d)
def wnT {α:Type} (cf:α->Cm) (l:List α) (k:Nat):List α×Option α:=(l.take k).foldl (wnS cf) ([],none)
def me (cs:List Cm) (i:Nat):Cm:=(cs[i]?).getD default
noncomputable def wnI (Z:Fx) (cs:List Cm) (g:Gp):Option Nat:=(wnT (me cs) (AN Z cs g) (AN Z cs g).length).2
theorem bT.toG{G:Gh}{H:ad}(h:bT N w x)(hn:dw K x)(hS:St G L H W)(hw:w∈L)(hN:N<=w.heap.size)(ho:∀b,K<=b->b<N->¬G.X b/\aY H b):bT W.heap.size W x:=
 ⟨h.ms.toG hS hw hN (λb off e=>(hn.1 _ e).imp id (λh=>ho b h)),h.ns.toG hS hw hN (λb off e=>(hn.2 _ e).imp id (λh=>ho b h)),h.mn,h.nn⟩
theorem dw.mono{K':Nat}(h:dw K x)(hk:K'<=K):dw K' x:=⟨λq e=>(h.1 q e).imp id (dG hk),λq e=>(h.2 q e).imp id (dG hk)⟩
structure Fo where
 id:Int
 first:Nat->Int
def sR (f:Fo):Array Value:=(ab f.id::lL f.first []).toArray
def g0 (f:Fo):Gp:=⟨f.id,0,λ_=>0,[],[]⟩
def Y7 (f:Fo):Gv:=⟨g0 f,none,0,none,0⟩
theorem Rv(f:Fo)(N:Nat)(w:World):bT N w (Y7 f):=⟨.inl rfl,.inl rfl,by simp[Y7,g0],by simp[Y7,g0]⟩
theorem ndp(l:List Dk)(k:Dk):oY l k= -1\/∃j:Nat,oY l k=(j:Int)/\l[j]? =some k:=by
 unfold oY;cases h:l.findIdx? λx=>decide (x=k)with
 |none=>exact .inl rfl
 |some j=>
  obtain⟨h1,h2,_⟩:=aZq.1 h;refine .inr ⟨j,rfl,?_⟩;rw[kx h1];simpa using h2
noncomputable def Oe (Z:Fx) (cs:List Cm) (f:Fo):Option Nat:=if oY ((bF Z cs cs.length).map (·.1)) (dk f.first)<0 then none else((bF Z cs cs.length)[(oY ((bF Z cs cs.length).map (·.1)) (dk f.first)).toNat]?).map λp=>p.2.toNat
noncomputable def tJ (Z:Fx) (cs:List Cm) (f:Fo):Option Nat:=(Oe Z cs f).bind λi=>if ju Z (g0 f) (me cs i)=0 then some i else none
structure uT (Z:Fx) (cs:List Cm) (g:Gp) (d:Cd):Prop where
 nn:0<=d.at_
 at_:cs[kg d]? =some d.c
 x:d.x.g=kT Z g d.c
 ok:ju Z g d.c=0
theorem sQ.le(h:sQ Z cs g d):uT Z cs g d:=⟨h.nn,h.at_,h.x,h.ok⟩
def uU (b:Nat) (x:Gv):Prop:=(∀q,x.ma=some q->x.g.ms=[]\/q.block≠b)/\(∀q,x.na=some q->x.g.ns=[]\/q.block≠b)
theorem dw.off(h:(∀q,x.ma=some q->K<=q.block)/\(∀q,x.na=some q->K<=q.block))(hb:b<K):uU b x:=⟨λq e=>.inr (by have:=h.1 q e;omega),λq e=>.inr (by have:=h.2 q e;omega)⟩
theorem ai.ltq{α:Type}{enc:α->Array Value}{n:Nat}{a:Option Addr}{xs:List α}(h:ai enc n N w a xs):∀q,a=some q->xs=[]\/q.block<N:=by
 intro q e;rcases h with h|⟨b,off,cs,t,fr,h1,h2,_⟩;all_goals grind
theorem bT.off(h:bT N w x)(hb:N<=b):uU b x:=⟨λq e=>(h.ms.ltq q e).imp id (λh=>by omega),λq e=>(h.ns.ltq q e).imp id (λh=>by omega)⟩
theorem bT.toO{H:ad}(h:bT N w x)(hS:St Gh.no L H W)(hw:w∈L)(hN:N<=w.heap.size)(ho:∀p∈H,uU p.1 x):bT W.heap.size W x:=by
 have key:∀b,(∀p∈H,p.1≠b)->aY H b:=λb hb=>aY.of_mem (λhm=>by obtain⟨p,hp,e⟩:=bY.1 hm;exact hb p hp e);refine⟨h.ms.toG hS hw hN (λb off e=>?_),h.ns.toG hS hw hN (λb off e=>?_),h.mn,h.nn⟩
 ·by_cases h0:x.g.ms=[]
  ·exact .inl h0
  exact .inr (λ_=>⟨λh=>h,key b (λp hp e2=>((ho p hp).1 _ e).resolve_left h0 e2.symm)⟩)
 by_cases h0:x.g.ns=[]
 ·exact .inl h0
 exact .inr (λ_=>⟨λh=>h,key b (λp hp e2=>((ho p hp).2 _ e).resolve_left h0 e2.symm)⟩)
theorem ae.sub{L':List World}(h:ae L b)(hs:∀w∈L',w∈L):ae L' b:=ae.of_mem λw hw=>h.mem w (hs w hw)
theorem nQo(hZ:FxOk Z)(cs:List Cm)(cJ:cs.length<=1000)(dz:∀c∈cs,bP c)(N:Nat)(la:Option Addr)(lc:Nat)(w:World)(hN:N<=w.heap.size)(aJ:ai cG 73 N w la cs)(hC:∀c∈cs,dm N w c)(ia:Option Addr)(ic:Nat)(ta:Option Addr)(tc:Nat)(hp:o8 Z cs N w ⟨ia,ic,ta,tc⟩)(fo:Fo)(hg:Glb w):Calls prog 62 #[.agg (zf Z cs la lc ⟨ia,ic,ta,tc⟩),.agg (sR fo)] w (cN w (λq:Cd×Bool=>.tuple #[.agg (iK q.1),.bool q.2]) (λq w'=>(q.2=true/\tJ Z cs fo=some (kg q.1)/\uT Z cs (g0 fo) q.1/\bT w'.heap.size w' q.1.x/\dw w.heap.size q.1.x)\/(q.2=false/\tJ Z cs fo=none))):=by
 have hg4:=hg.lt;have im:=ngh Z cs cs.length;have lX:((bF Z cs cs.length).map (·.1)).length=(bF Z cs cs.length).length:=eG ..;have Iz:((bF Z cs cs.length).map (·.2)).length=(bF Z cs cs.length).length:=eG ..;have Fu:=hp.ids;have Fv:=hp.at_;dsimp only at Fu Fv;obtain⟨k,Y8⟩:∃k,oY ((bF Z cs cs.length).map (·.1)) (dk fo.first)=k:=⟨_,rfl⟩;refine eN func62 ntmps62 ?_;refine B 2 ?_;refine yX ?_;intro b2 w2 da bW eU dx dq;refine yX ?_;intro b3 w3 hb3 cK fF ez eP;refine B 1 ?_;refine yW ?_;intro b4 ja jb;refine B 6 ?_;refine ax (.slice ia ((bF Z cs cs.length).map (·.1)).length ic) ?_;refine B 1 ?_;refine ax (.agg (dg fo.first)) ?_;refine call call107 rfl rfl rfl (λW hS=>by rw[<-Y8];exact Fi ((bF Z cs cs.length).map (·.1)) aa N ia ic W cM (Fu.up (ak _) hS.sm) fo.first) (v:=ab k) ?_;refine B 5 ?_;rcases ndp ((bF Z cs cs.length).map (·.1)) (dk fo.first)with hd1|⟨j,hd1,hd2⟩
 ·have hk:k= -1:=by rw[<-Y8];exact hd1
  refine B 2 ?_;refine UH ?_;refine ax (.agg (iK zCd)) ?_;refine B 6 ?_;refine bM (.inl rfl) results62 bj λW hS=>⟨(zCd,false),rfl,hS.base A2 zF,.inr ⟨rfl,?_⟩⟩;show tJ Z cs fo=none;unfold tJ Oe;rw[hd1,if_pos aa];rfl
 have hk:k=(j:Int):=by rw[<-Y8];exact hd1
 refine xv ?_;refine B 6 ?_;obtain⟨q,hq⟩:=ng (bF Z cs cs.length) j (by have:=nr hd2;omega);obtain⟨i,c,Rs,lk,hc,hqk⟩:=U7 Z cs _ q (cP hq);have IJ:((bF Z cs cs.length).map (·.2))[j]? =some ((i:Nat):Int):=by rw[sA,hq,JP,Rs]
 have Cw:=nr IJ;have CR:=cP hc;obtain⟨e,he⟩:∃e,ju Z (g0 fo) c=e:=⟨_,rfl⟩;subst hk;obtain⟨ba,oa,csa,ta,fra,rfl,hba,Fw,K4⟩:=Fv.get aa;obtain⟨bl,ol,csl,tl,frl,rfl,jf,wF,qh⟩:=aJ.get aa;have hk:oY ((bF Z cs cs.length).map (·.1)) (dk fo.first)=(j:Int):=hd1;refine CJ.less (E':=[(0,_),(1,_),(2,_),(3,_),(4,_),(5,_),(6,_),(9,_),(10,_),(11,_),(12,_),(13,_),(14,_),(15,_)]) zR ?_;refine dN 18 [12,13,14,16,17] [[],[0],[0,1],[],[0,1,2,3]] (λcv L' H'=>let dU:ad:=[(b4,oC (iK zCd) 159)];match cv with| [none,none,none,none,none]=>L'=[w3,w2,w]/\H'=dU| [none,none,none,some wG,none]=>∃(b7:Nat),wG=ptr b7 0/\L'=[w3,w2,w]/\H'=(b7,oC (bD gy) 53)::dU/\w3.heap.size<=b7| [some v12,none,none,none,none]=>∃(Xn:Gv) (eJ:World),v12= .tuple #[.agg (bD Xn),ab e]/\L'=[eJ,w3,w2,w]/\H'=dU/\Xn.g=xD Z (g0 fo) c/\bT eJ.heap.size eJ Xn/\uU b4 Xn/\dw w.heap.size Xn| [some v12,none,none,some wG,none]=>∃(Xn:Gv) (eJ:World) (b7:Nat),v12= .tuple #[.agg (bD Xn),ab e]/\wG=ptr b7 0/\L'=[eJ,w3,w2,w]/\H'=(b7,oC (bD gy) 53)::dU/\Xn.g=xD Z (g0 fo) c/\bT eJ.heap.size eJ Xn/\uU b4 Xn/\dw w.heap.size Xn/\w3.heap.size<=b7/\uU b7 Xn| [some v12,some wH,none,none,none]=>∃(Xn:Gv) (eJ:World),v12= .tuple #[.agg (bD Xn),ab e]/\wH= .tuple #[.agg (bD Xn),ab e]/\L'=[eJ,w3,w2,w]/\H'=dU/\Xn.g=xD Z (g0 fo) c/\bT eJ.heap.size eJ Xn/\uU b4 Xn/\dw w.heap.size Xn| [some v12,some wH,none,some wG,none]=>∃(Xn:Gv) (eJ:World) (b7:Nat),v12= .tuple #[.agg (bD Xn),ab e]/\wH= .tuple #[.agg (bD Xn),ab e]/\wG=ptr b7 0/\L'=[eJ,w3,w2,w]/\H'=(b7,oC (bD gy) 53)::dU/\Xn.g=xD Z (g0 fo) c/\bT eJ.heap.size eJ Xn/\uU b4 Xn/\dw w.heap.size Xn/\w3.heap.size<=b7/\uU b7 Xn| [some v12,some wH,some B7,none,none]=>∃(Xn:Gv) (eJ:World),v12= .tuple #[.agg (bD Xn),ab e]/\wH= .tuple #[.agg (bD Xn),ab e]/\B7= .agg (bD Xn)/\L'=[eJ,w3,w2,w]/\H'=dU/\Xn.g=xD Z (g0 fo) c/\bT eJ.heap.size eJ Xn/\uU b4 Xn/\dw w.heap.size Xn| [some v12,some wH,some B7,some wG,none]=>∃(Xn:Gv) (eJ:World) (b7:Nat),v12= .tuple #[.agg (bD Xn),ab e]/\wH= .tuple #[.agg (bD Xn),ab e]/\B7= .agg (bD Xn)/\wG=ptr b7 0/\L'=[eJ,w3,w2,w]/\H'=(b7,oC (bD gy) 53)::dU/\Xn.g=xD Z (g0 fo) c/\bT eJ.heap.size eJ Xn/\uU b4 Xn/\dw w.heap.size Xn/\w3.heap.size<=b7/\uU b7 Xn| [some v12,some wH,some B7,some wG,some v17]=>∃(Xn:Gv) (eJ:World) (b7:Nat),v12= .tuple #[.agg (bD Xn),ab e]/\wH= .tuple #[.agg (bD Xn),ab e]/\B7= .agg (bD Xn)/\wG=ptr b7 0/\v17= .tuple #[]/\L'=[eJ,w3,w2,w]/\H'=(b7,oC (bD Xn) 53)::dU/\Xn.g=xD Z (g0 fo) c/\bT eJ.heap.size eJ Xn/\uU b4 Xn/\dw w.heap.size Xn/\w3.heap.size<=b7/\uU b7 Xn|_=>False) ⟨rfl,rfl⟩ (xG 1 (k:=by exact r7 Y9 (xG 2 (k:=by exact r7 Y9 (xG 1 (k:=by exact r7 Y9 (xG 2 (k:=by exact r7 Y9 (xG 1 (k:=by exact r7 Y9 (xG 3 (k:=by exact r7 (λcv L' H' hl hd hP=>by obtain⟨qz,se,tK,xJ,xK,rfl⟩:=sO hl;(rcases qz with _|v12<;>rcases se with _|wH<;>rcases tK with _|B7<;>rcases xJ with _|wG<;>rcases xK with _|v17<;>try exact False.elim hP);exact(absurd (show false=true from hd) zB);exact(absurd (show false=true from hd) zB);exact(absurd (show false=true from hd) zB);exact(absurd (show false=true from hd) zB);(obtain⟨Xn,eJ,rfl,rfl,rfl,rfl,fE,jv,lu,lx⟩:=hP;exact X.v (jg rfl rfl));(obtain⟨Xn,eJ,b7,rfl,rfl,rfl,rfl,rfl,fE,jv,lu,lx,jy,sf⟩:=hP;exact X.v (jg rfl rfl));(obtain⟨Xn,eJ,rfl,rfl,rfl,rfl,rfl,fE,jv,lu,lx⟩:=hP;exact X.v (jg rfl rfl));(obtain⟨Xn,eJ,b7,rfl,rfl,rfl,rfl,rfl,rfl,fE,jv,lu,lx,jy,sf⟩:=hP;exact X.v (jg rfl rfl));(obtain⟨Xn,eJ,b7,rfl,rfl,rfl,rfl,rfl,rfl,rfl,fE,jv,lu,lx,jy,sf⟩:=hP;exact X.v (jg rfl rfl))) U9)))))))))))) (sp:=[_,some (ab fo.id),some (.agg (bD (Y7 fo))),_,some (.slice (some ⟨bl,ol,none⟩) cs.length lc),_,some (.slice (some ⟨ba,oa,none⟩) ((bF Z cs cs.length).map (·.2)).length tc),_,_,some (ab (i:Int)),_,some (.agg (cG c)),_,_,_,some (ab e),_,_]) ?_ ?_
 ·refine nc rfl rfl ?_ ?_
  ·intro cv L' H' hl hr hP F Q' hk;obtain⟨qz,se,tK,xJ,xK,rfl⟩:=sO hl;rcases qz with _|v12<;>rcases se with _|wH<;>rcases tK with _|B7<;>rcases xJ with _|wG<;>rcases xK with _|v17<;>try exact False.elim hP
   ·obtain⟨rfl,rfl⟩:=hP;refine znd ?_;rintro W9 Xn eJ cu xz ⟨fE,jv,IL⟩;try dsimp only at fE jv IL
    have Fy:=cu.lt (b4,_) A0;try dsimp only at Fy
    have Fz:=(cu.links w A2).size;have lu:=dw.off IL Fy;have lx:dw w.heap.size Xn:=⟨λq e=>.inr (dG Fz (IL.1 q e)),λq e=>.inr (dG Fz (IL.2 q e))⟩;exact OJ.done (hk _ _ _ ⟨Xn,eJ,rfl,rfl,rfl,fE,jv,lu,lx⟩)
   ·obtain⟨b7,rfl,rfl,rfl,jy⟩:=hP;refine znd ?_;rintro W9 Xn eJ cu xz ⟨fE,jv,IL⟩;try dsimp only at fE jv IL
    have Fy:=cu.lt (b4,_) A1;try dsimp only at Fy
    have Za:=cu.lt (b7,_) A0;try dsimp only at Za
    have Fz:=(cu.links w A2).size;have lu:=dw.off IL Fy;have lx:dw w.heap.size Xn:=⟨λq e=>.inr (dG Fz (IL.1 q e)),λq e=>.inr (dG Fz (IL.2 q e))⟩;have sf:=dw.off IL Za;exact OJ.done (hk _ _ _ ⟨Xn,eJ,b7,rfl,rfl,rfl,rfl,fE,jv,lu,lx,jy,sf⟩)
   ·exact cB
   ·exact cB
   ·exact cB
   ·exact cB
   ·exact cB
   ·exact cB
   exact cB
  refine nc rfl rfl ?_ ?_
  ·intro cv L' H' hl hr hP F Q' hk;obtain⟨qz,se,tK,xJ,xK,rfl⟩:=sO hl;rcases qz with _|v12<;>rcases se with _|wH<;>rcases tK with _|B7<;>rcases xJ with _|wG<;>rcases xK with _|v17<;>try exact False.elim hP
   ·exact cB
   ·exact cB
   ·obtain⟨Xn,eJ,rfl,rfl,rfl,fE,jv,lu,lx⟩:=hP;refine B 1 ?_;exact OJ.done (hk _ _ _ ⟨Xn,eJ,rfl,rfl,rfl,rfl,fE,jv,lu,lx⟩)
   ·obtain⟨Xn,eJ,b7,rfl,rfl,rfl,rfl,fE,jv,lu,lx,jy,sf⟩:=hP;refine B 1 ?_;exact OJ.done (hk _ _ _ ⟨Xn,eJ,b7,rfl,rfl,rfl,rfl,rfl,fE,jv,lu,lx,jy,sf⟩)
   ·exact cB
   ·exact cB
   ·exact cB
   ·exact cB
   exact cB
  refine nc rfl rfl ?_ ?_
  ·intro cv L' H' hl hr hP F Q' hk;obtain⟨qz,se,tK,xJ,xK,rfl⟩:=sO hl;rcases qz with _|v12<;>rcases se with _|wH<;>rcases tK with _|B7<;>rcases xJ with _|wG<;>rcases xK with _|v17<;>try exact False.elim hP
   ·exact cB
   ·exact cB
   ·exact cB
   ·exact cB
   ·obtain⟨Xn,eJ,rfl,rfl,rfl,rfl,fE,jv,lu,lx⟩:=hP;refine B 1 ?_;exact OJ.done (hk _ _ _ ⟨Xn,eJ,rfl,rfl,rfl,rfl,rfl,fE,jv,lu,lx⟩)
   ·obtain⟨Xn,eJ,b7,rfl,rfl,rfl,rfl,rfl,fE,jv,lu,lx,jy,sf⟩:=hP;refine B 1 ?_;exact OJ.done (hk _ _ _ ⟨Xn,eJ,b7,rfl,rfl,rfl,rfl,rfl,rfl,fE,jv,lu,lx,jy,sf⟩)
   ·exact cB
   ·exact cB
   exact cB
  refine nc rfl rfl ?_ ?_
  ·intro cv L' H' hl hr hP F Q' hk;obtain⟨qz,se,tK,xJ,xK,rfl⟩:=sO hl;rcases qz with _|v12<;>rcases se with _|wH<;>rcases tK with _|B7<;>rcases xJ with _|wG<;>rcases xK with _|v17<;>try exact False.elim hP
   ·obtain⟨rfl,rfl⟩:=hP;refine B 1 ?_;intro b7 ha ho;exact OJ.done (hk _ _ _ ⟨b7,rfl,rfl,rfl,(ha.mem w3 zJ)⟩)
   ·exact cB
   ·obtain⟨Xn,eJ,rfl,rfl,rfl,fE,jv,lu,lx⟩:=hP;refine B 1 ?_;intro b7 ha ho;have sf:uU b7 Xn:=jv.off (by have:=ha.not (w:=eJ) A0;omega);exact OJ.done (hk _ _ _ ⟨Xn,eJ,b7,rfl,rfl,rfl,rfl,fE,jv,lu,lx,(ha.mem w3 zJ),sf⟩)
   ·exact cB
   ·obtain⟨Xn,eJ,rfl,rfl,rfl,rfl,fE,jv,lu,lx⟩:=hP;refine B 1 ?_;intro b7 ha ho;have sf:uU b7 Xn:=jv.off (by have:=ha.not (w:=eJ) A0;omega);exact OJ.done (hk _ _ _ ⟨Xn,eJ,b7,rfl,rfl,rfl,rfl,rfl,fE,jv,lu,lx,(ha.mem w3 zJ),sf⟩)
   ·exact cB
   ·obtain⟨Xn,eJ,rfl,rfl,rfl,rfl,rfl,fE,jv,lu,lx⟩:=hP;refine B 1 ?_;intro b7 ha ho;have sf:uU b7 Xn:=jv.off (by have:=ha.not (w:=eJ) A0;omega);exact OJ.done (hk _ _ _ ⟨Xn,eJ,b7,rfl,rfl,rfl,rfl,rfl,rfl,fE,jv,lu,lx,(ha.mem w3 zJ),sf⟩)
   ·exact cB
   exact cB
  refine nc rfl rfl ?_ ?_
  ·intro cv L' H' hl hr hP F Q' hk;obtain⟨qz,se,tK,xJ,xK,rfl⟩:=sO hl;rcases qz with _|v12<;>rcases se with _|wH<;>rcases tK with _|B7<;>rcases xJ with _|wG<;>rcases xK with _|v17<;>try exact False.elim hP
   ·exact cB
   ·exact cB
   ·exact cB
   ·exact cB
   ·exact cB
   ·exact cB
   ·exact cB
   ·obtain⟨Xn,eJ,b7,rfl,rfl,rfl,rfl,rfl,rfl,fE,jv,lu,lx,jy,sf⟩:=hP;refine B 1 ?_;exact OJ.done (hk (.tuple #[]) _ _ ⟨Xn,eJ,b7,rfl,rfl,rfl,rfl,rfl,rfl,rfl,fE,jv,lu,lx,jy,sf⟩)
   exact cB
  exact nn
 intro cv L' H' hl hr hP;obtain⟨qz,se,tK,xJ,xK,rfl⟩:=sO hl;rcases qz with _|v12<;>rcases se with _|wH<;>rcases tK with _|B7<;>rcases xJ with _|wG<;>rcases xK with _|v17
 ·exact cB
 ·exact cB
 ·exact cB
 ·exact cB
 ·exact cB
 ·exact cB
 ·exact cB
 ·exact cB
 ·exact cB
 ·exact cB
 ·exact cB
 ·exact cB
 ·exact cB
 ·exact cB
 ·exact cB
 ·exact cB
 ·exact cB
 ·exact cB
 ·exact cB
 ·exact cB
 ·exact cB
 ·exact cB
 ·exact cB
 ·exact cB
 ·exact cB
 ·exact cB
 ·exact cB
 ·exact cB
 ·exact cB
 ·exact cB
 ·exact cB
 obtain⟨Xn,eJ,b7,rfl,rfl,rfl,rfl,rfl,rfl,rfl,fE,jv,lu,lx,jy,sf⟩:=hP;refine B 4 ?_;refine CJ.less (E':=[(0,_),(1,_),(2,_),(3,_),(4,_),(5,_),(6,_),(7,_),(8,_),(9,_),(10,_),(11,_),(12,_),(13,_),(14,_),(15,_),(17,_),(18,_),(19,_),(20,_),(21,_),(22,_),(23,_),(24,_),(25,_),(26,_),(27,_),(28,_),(29,_),(30,_),(31,_),(32,_)]) zR ?_;refine CJ.chn 21 [20] [_,some (.slice (some ⟨ba,oa,none⟩) ((bF Z cs cs.length).map (·.2)).length tc),_,_,some (ab (i:Int)),_,some (.slice (some ⟨bl,ol,none⟩) cs.length lc),_,some (.slice (some ⟨ba,oa,none⟩) ((bF Z cs cs.length).map (·.2)).length tc),_,_,some (ab (i:Int)),_,some (.agg (cG c)),_,some (.agg (dg fo.first)),some (.agg (bD Xn)),some (.agg (iK (⟨(i:Int),c,fo.first,0,Xn⟩:Cd))),_,_,none] (λcv L' H'=>match cv with| []=>L'=[eJ,w3,w2,w]/\H'=[(b7,oC (bD Xn) 53),(b4,oC (iK zCd) 159)]| [v1]=>v1= .tuple #[]/\L'=[eJ,w3,w2,w]/\H'=[(b7,oC (bD Xn) 53),(b4,oC (iK (⟨(i:Int),c,fo.first,0,Xn⟩:Cd)) 159)]|_=>False) (pc (by exact λcv L' H' hd hP=>X.v (bQ underlying156 rfl sizeOf55 rfl)) (pc IM (pc zN (pc zSb (pc IM (pc (by exact λcv L' H' hd hP=>X.v (bQ underlying156 rfl sizeOf24 rfl)) (pc IM (pc (by exact λcv L' H' hd hP=>X.v (bQ underlying156 rfl sizeOf55 rfl)) (pc IM (pc zN (pc zSb (pc IM (pc (by exact λcv L' H' hd hP=>X.v (dd underlying24 sizeOf61 rfl rfl aa aa)) (pc IM (pc (by exact λcv L' H' hd hP=>X.v (bQ underlying97 rfl sizeOf33 rfl)) (pc IM (pc IM (pc (by exact λcv L' H' hd hP=>X.v (zl underlying159 zeroValue159 (sS.c sizeOf3 (sS.c sizeOf61 (sS.c sizeOf33 (sS.c sizeOf3 (sS.c sizeOf53 (sS.n)))))) rfl rfl)) (pc zN (pc (by exact λcv L' H' hd hP=>X.v (lK rfl rfl)) (pk (pn)))))))))))))))))))))) ?_ ?_
 ·exact zJg
 intro cv L' H' hl hP;obtain⟨v1,rfl⟩:=iw hl;obtain⟨rfl,rfl,rfl⟩:=hP;refine B 4 ?_;have uI:Oe Z cs fo=some i:=by unfold Oe;rw[hk,if_neg aa,yB,hq,JP,Rs,yB]
 have hcN:me cs i=c:=by unfold me;rw[hc];rfl
 refine bM (.inl rfl) results62 bj λW hS=>⟨((⟨(i:Int),c,fo.first,0,Xn⟩:Cd),decide (e=0)),rfl,hS.base A3 zF,?_⟩;by_cases Vc:e=0
 ·refine .inl ⟨decide_eq_true Vc,by unfold tJ;rw[uI,Option.bind_some,hcN,he,if_pos Vc];rfl,⟨Int.natCast_nonneg _,hc,fE.trans (if_pos (by rw[he];exact Vc)),by rw[<-Vc];exact he⟩,jv.toO hS A0 (ak _) (λp hp=>?_),lx⟩;simp only[cW,dB,bX,dy,or_false]at hp;rcases hp with rfl|rfl
  ·exact sf
  exact lu
 exact .inr ⟨decide_eq_false Vc,by unfold tJ;rw[uI,Option.bind_some,hcN,he,if_neg Vc]⟩
def IP (cs:List Cm) (e:Int):Nat:=(cs.filter λc=>decide (e<c.epoch)).length
theorem Rx(cs:List Cm)(e:Int):IP cs e<=cs.length:=Q8 _ _
theorem njl(e:Int):∀cs:List Cm,IP cs (e+1)<=IP cs e
 | []=>ak _
 |c::cs=>by
  have ih:=njl e cs;unfold IP at ih ⊢;by_cases h1:e+1<c.epoch
  ·rw[Ry CM,Ry oI];simp only[dC];omega
  rw[Zb CM];by_cases h2:e<c.epoch
  ·rw[Ry Kq];simp only[dC];omega
  rw[Zb Kq];exact ih
theorem nCm{e:Int}{c:Cm}(he:c.epoch=e+1):∀{cs:List Cm},c∈cs->IP cs (e+1)<IP cs e
 | [],h=>by cases h
 |b::cs,h=>by
  rcases bX.1 h with rfl|h
  ·have ih:=njl e cs;unfold IP at ih ⊢;rw[Zb oI,Ry oI];simp only[dC];omega
  have ih:=nCm he h;unfold IP at ih ⊢;by_cases h1:e+1<b.epoch
  ·rw[Ry CM,Ry oI];simp only[dC];omega
  rw[Zb CM];by_cases h2:e<b.epoch
  ·rw[Ry Kq];simp only[dC];omega
  rw[Zb Kq];exact ih
theorem FA{c:Cm}(h:c∈cs):1+IP cs c.epoch<=cs.length:=by
 have h1:=nCm (e:=c.epoch-1) (c:=c) aa h;rw[show c.epoch-1+1=c.epoch by omega]at h1;have:=Rx cs (c.epoch-1);omega
theorem naf{c:Cm}(h:ju Z g c=0):c.epoch=g.epoch+1:=by grind [ju,kH]
def ChG (Z:Fx) (cs:List Cm):Gp->List (Nat×Gp)->Prop
 |g,[]=>wnI Z cs g=none
 |g,p::l=>wnI Z cs g=some p.1/\p.2=kT Z g (me cs p.1)/\ChG Z cs p.2 l
def ChF (Z:Fx) (cs:List Cm) (fo:Fo):List (Nat×Gp)->Prop
 | []=>tJ Z cs fo=none
 |p::l=>tJ Z cs fo=some p.1/\p.2=kT Z (g0 fo) (me cs p.1)/\ChG Z cs p.2 l
def sg (d:Cd):Nat×Gp:=(kg d,d.x.g)
def wI (Y:aE) (x:Gv):Prop:=(∀q,x.ma=some q->x.g.ms=[]\/¬Y q.block)/\(∀q,x.na=some q->x.g.ns=[]\/¬Y q.block)
theorem dw.out{Y:aE}(h:dw K x)(hy:∀k,Y k->k<K):wI Y x:=⟨λq e=>(h.1 q e).imp id (λh h2=>by have:=hy _ h2;omega),λq e=>(h.2 q e).imp id (λh h2=>by have:=hy _ h2;omega)⟩
theorem dw.offb(h:dw K x)(hb:b<K):uU b x:=⟨λq e=>(h.1 q e).imp id (λh=>by omega),λq e=>(h.2 q e).imp id (λh=>by omega)⟩
theorem wI.up{Y Y':aE}(h:wI Y x)(ha:bT N w x)(hy:∀k,Y' k->Y k\/N<=k):wI Y' x:=
 ⟨λq e=>by
  rcases h.1 q e with h1|h1
  ·exact .inl h1
  rcases ha.ms.ltq q e with h2|h2
  ·exact .inl h2
  exact .inr (λh3=>(hy _ h3).elim h1 (λh4=>by omega)),
  λq e=>by
   rcases h.2 q e with h1|h1
   ·exact .inl h1
   rcases ha.ns.ltq q e with h2|h2
   ·exact .inl h2
   exact .inr (λh3=>(hy _ h3).elim h1 (λh4=>by omega))⟩
structure Rz (Z:Fx) (cs:List Cm) (fo:Fo) (M:aE) (pre:List Cd) (d:Cd) (V:aE) (wk:World) (b4:Nat):Prop where
 next:∀l,ChG Z cs d.x.g l->ChF Z cs fo (pre.map sg++sg d::l)
 lies:bT wk.heap.size wk d.x
 out:wI (λk=>M k\/V k) d.x
 off:uU b4 d.x
 mu:pre.length+1+IP cs d.x.g.epoch<=cs.length
theorem uT.nx(h:uT Z cs g d):d.x.g=kT Z g (me cs (kg d)):=by rw[h.x];unfold me;rw[h.at_];rfl
variable {fo:Fo}
theorem Rz.first{M:aE}{w9:World}{b4:Nat}(h:tJ Z cs fo=some (kg d))(hd:uT Z cs (g0 fo) d)(ha:bT w9.heap.size w9 d.x)(hn:dw K d.x)(hM:∀k,M k->k<K)(hb:w9.heap.size<=b4):Rz Z cs fo M [] d (λ_=>False) w9 b4 where
 next:=λl hl=>⟨h,hd.nx,hl⟩
 lies:=ha
 out:=hn.out (λk hk=>hk.elim (hM k) (λh=>h.elim))
 off:=ha.off hb
 mu:=by
  have h1:=FA (cP hd.at_);rw[hd.x];simp only[fb,kT];omega
theorem Rz.step{M V V2:aE}{pre:List Cd}{d2:Cd}{wk w9:World}{b4 b5:Nat}(hc:Rz Z cs fo M pre d V wk b4)(h:wnI Z cs d.x.g=some (kg d2))(hd:uT Z cs d.x.g d2)(ha:bT w9.heap.size w9 d2.x)(hn:dw K d2.x)(hM:∀k,M k->k<K)(hV:∀k,V2 k->k<K)(hb:b5<K):Rz Z cs fo M (pre++[d]) d2 V2 w9 b5 where
 next:=λl hl=>by
  have h1:=hc.next (sg d2::l) ⟨h,hd.nx,hl⟩;rw[gb,iP];exact h1
 lies:=ha
 out:=hn.out (λk hk=>hk.elim (hM k) (hV k))
 off:=hn.offb hb
 mu:=by
  have h1:=hc.mu;have h2:=naf hd.ok;have h3:=nCm h2 (cP hd.at_);rw[hd.x];simp only[ck,dC,fb,kT,h2];omega
theorem Rz.stop{M V:aE}{pre:List Cd}{wk:World}{b4:Nat}(hc:Rz Z cs fo M pre d V wk b4)(h:wnI Z cs d.x.g=none):ChF Z cs fo ((pre++[d]).map sg):=by
 rw[gb];exact hc.next [] h
def Zc (NQ NR NX:Nat):aE:=λk=>k<NX/\(k<NQ\/NR<=k)
structure PlB (Z:Fx) (cs:List Cm) (la ia ta:Option Addr) (ic tc NQ NR NX:Nat) (W:World):Prop where
 q:NQ<=NX
 x:NX<=W.heap.size
 n3:6<=NQ
 sl:ai cG 73 NQ W la cs
 C:∀c∈cs,dm NQ W c
 p:o8 Z cs NX W ⟨ia,ic,ta,tc⟩
 pi:∀q,ia=some q->NR<=q.block
 pt:∀q,ta=some q->NR<=q.block
 g:Glb W
theorem PlB.same{la ia ta:Option Addr}{ic tc NQ NR NX:Nat}{W':World}{M V:aE}{I:World->Prop}{hM:∀k,M k->k<W.heap.size/\¬(λ_=>False) k/\¬Zc NQ NR NX k}{hI:eX (λk=>(k<W.heap.size/\¬(λ_=>False) k)\/V k) I}{H:ad}(h:PlB Z cs la ia ta ic tc NQ NR NX W)(hS:St (dh hM V hI) L H W')(hw:W∈L)(hV:∀k,V k->W.heap.size<=k)(ho:Over W.heap.size H):∀k,Zc NQ NR NX k->W'.heap[k]? =W.heap[k]? :=λk hk=>by
 have hx:=h.x;have Jf:=hk.1
 refine(hS.links W hw).block k aa ?_;rintro((h1|h1)|h1)
 ·exact(hM k h1).2.2 hk
 ·have:=hV k h1;omega
 obtain⟨p,hp,rfl⟩:=bY.1 h1;have:=ho.mem p hp;omega
theorem CJ.resnap{C:Cx}{c:Code}{Q:aZ}{E:Env}{D:List Deferred}{G:Gh}{L':List World}{H:ad}{o:Obj}(hi:H[i]? =some (b,o))(hb:ae L' b)(hs:∀w∈L',w∈L)(k:∀W,St G L H W->CJ C c Q E D G (W::L') (H.eraseIdx i)):CJ C c Q E D G L H:=
 λa W hN hD hF hS=>k W hS a W hN hD hF ((hS.lessL hs).dropAt hi hb).snap

def sT (c:Cm):Bool:=c.bxs.all (λx=>decide (x.w.body.length<=200))&&c.wes.all (λx=>decide (x.w.body.length<=200))&&decide (c.chs.length<=10)&&decide (c.path.length<=12)&&decide (c.bxs.length<=40)&&decide (c.wes.length<=10)
theorem nbg{α:Type}{f:α->Bool}{xs:List α}{x:α}(h:(xs.take j).all f=true)(hx:xs[j]? =some x)(hf:f x=true):(xs.take (j+1)).all f=true:=by rw[np hx,List.all_append,h];simp[hf]
theorem n6g{α:Type}{f:α->Bool}{xs:List α}(h:(xs.take j).all f=true)(hj:¬j<xs.length):xs.all f=true:=by rw[jO aa]at h;exact h
theorem nhb{α:Type}{f:α->Bool}{xs:List α}{x:α}(hx:xs[j]? =some x)(hf:f x=false):xs.all f=false:=by grind
theorem nxj(l:List Ch)(a:Option Addr)(c:Nat)(w:World):Calls prog 91 #[.slice a l.length c] w (aM w (.bool (decide (l.length<=10)))):=by
 refine eN func91 ntmps91 ?_;refine B 14 ?_;refine aF results91 rfl A0 ?_;exact vb (by rw[Dp];simp;omega)
theorem K5(c:Cm)(N:Nat)(w:World)(hN:N<=w.heap.size)(hC:dm N w c)(jf:c.bxs.length<=9223372036854775807)(hwl:c.wes.length<=9223372036854775807):Calls prog 46 #[.agg (cG c)] w (aM w (.bool (sT c))):=by
 refine eN func46 ntmps46 ?_;refine B 2 ?_;refine yX ?_;intro b1 w1 hb1 cF gA fX jq;refine B 10 ?_;refine CJ.lp (α:=Nat) [1] (λj=>[(3,ab (j:Int))]) (λj=>[]) (λj=>j<=c.bxs.length/\(c.bxs.take j).all (λx:Bx=>decide (x.w.body.length<=200))=true) (λj=>c.bxs.length-j) 0 ⟨cV _,rfl⟩ ?_;rintro j ⟨hj,xI⟩;refine B 10 ?_;refine aG ?_ ?_
 ·intro ar;refine B 5 ?_;obtain⟨b0,o0,cs0,t0,fG,gU,hb0,cJ,aW⟩:=hC.bxs.get aa;obtain⟨y,hy⟩:=ng c.bxs j aa;refine B 2 ?_;refine rq (.slice (some ⟨b0,o0,none⟩) c.bxs.length c.bc) (av isAgg56 rfl A0 hb1 cF trivial rfl) (congrArg (λq=>Value.slice q c.bxs.length c.bc) gU) ?_;refine B 4 ?_;refine rv rfl rfl rfl (av (v:=.slice y.w.ba y.w.body.length y.w.bc) isAgg106 rfl A1 cJ zL trivial (by have:=yQ aW hy rfl 3 zB;simpa[yS]using this)) ?_;refine B 4 ?_;refine aG ?_ ?_
  ·intro aN;refine B 11 ?_;exact Vd
  intro aN;refine B 8 ?_;refine ag (j+1) ⟨by omega,nbg xI hy (decide_eq_true aa)⟩
 intro ar;refine B 7 ?_;have tI:=n6g xI aa;refine B 5 ?_;refine CJ.lp (α:=Nat) [1] (λj=>[(4,ab (j:Int))]) (λj=>[]) (λj=>j<=c.wes.length/\(c.wes.take j).all (λx:We=>decide (x.w.body.length<=200))=true) (λj=>c.wes.length-j) 0 ⟨cV _,rfl⟩ ?_;rintro j ⟨hj,hwx⟩;refine B 10 ?_;refine aG ?_ ?_
 ·intro dc;refine B 5 ?_;obtain⟨b0,o0,cs0,t0,fG,gU,hb0,cJ,aW⟩:=hC.wes.get aa;obtain⟨y,hy⟩:=ng c.wes j aa;refine B 2 ?_;refine rq (.slice (some ⟨b0,o0,none⟩) c.wes.length c.wc) (av isAgg57 rfl A0 hb1 cF trivial rfl) (congrArg (λq=>Value.slice q c.wes.length c.wc) gU) ?_;refine B 4 ?_;refine rv rfl rfl rfl (av (v:=.slice y.w.ba y.w.body.length y.w.bc) isAgg106 rfl A1 cJ zL trivial (by have:=yQ aW hy rfl 2 zB;simpa[wj]using this)) ?_;refine B 4 ?_;refine aG ?_ ?_
  ·intro jo;refine B 11 ?_;exact Vd
  intro jo;refine B 8 ?_;refine ag (j+1) ⟨by omega,nbg hwx hy (decide_eq_true aa)⟩
 intro dc;refine B 6 ?_;have haw:=n6g hwx aa;refine B 3 ?_;refine call call91 rfl rfl rfl (λW hS=>nxj c.chs c.ca c.cc W) ?_;refine B 1 ?_;refine ni (t:=40) rfl (λij=>?_) (λij=>?_)
 ·replace ij:=ya ij;refine B 6 ?_;refine ni (t:=46) rfl (λlI=>?_) (λlI=>?_)
  ·replace lI:=ya lI;refine B 6 ?_;refine ni (t:=52) rfl (λke=>?_) (λke=>?_)
   ·replace ke:=ya ke;refine B 9 ?_;exact Vd
   replace ke:=ya ke;refine B 9 ?_;exact Vd
  replace lI:=ya lI;refine B 15 ?_;exact Vd
 replace ij:=ya ij;refine B 21 ?_;exact Vd
structure Od where
 f:Nat->Int
 u:Int
 ba:Option Addr
 bn:Nat
 bc:Nat
structure Gn where
 folder:Int
 by_:Int
 device:Int
 pub:Int
 f:Nat->Int
 oa:Option Addr
 olds:List Od
 oc:Nat
 sr:Int
 ss:Int
structure Ih where
 f:Nat->Int
 g:Nat->Int
 by_:Int
 ba:Option Addr
 bn:Nat
 bc:Nat
 sr:Int
 ss:Int
def zm (cs:List Cm):Bool:=decide (cs.length<=7)&&cs.all sT
structure FB (c:Cm):Prop where
 b:c.bxs.length<=9223372036854775807
 w:c.wes.length<=9223372036854775807
theorem K6(cs:List Cm)(hlm:∀c∈cs,FB c)(N:Nat)(la:Option Addr)(lc:Nat)(w:World)(hN:N<=w.heap.size)(aJ:ai cG 73 N w la cs)(hC:∀c∈cs,dm N w c):Calls prog 25 #[.slice la cs.length lc] w (aM w (.bool (zm cs))):=by
 refine eN func25 ntmps25 ?_;refine B 13 ?_;refine aG ?_ ?_
 ·intro ar;refine B 7 ?_;exact zCg
 intro ar;refine B 9 ?_;refine CJ.lp (α:=Nat) [0] (λj=>[(3,ab (j:Int))]) (λj=>[]) (λj=>j<=cs.length/\(cs.take j).all sT=true) (λj=>cs.length-j) 0 ⟨cV _,rfl⟩ ?_;rintro j ⟨hj,vz⟩;refine B 9 ?_;refine aG ?_ ?_
 ·intro aN;refine B 5 ?_;obtain⟨bl,ol,csl,tl,frl,rfl,jf,wF,qh⟩:=aJ.get aa;obtain⟨c,hc⟩:=ng cs j aa;have CR:=cP hc;refine B 4 ?_;refine ax (.agg (cG c)) ?_;refine call call46 rfl rfl rfl (λW hS=>K5 c N W cM ((hC c CR).up (ak _) hS.sm) (hlm c CR).b (hlm c CR).w) ?_;refine B 3 ?_;refine aG ?_ ?_
  ·intro dc;refine B 11 ?_;exact zCg
  intro dc;refine B 8 ?_;refine ag (j+1) ⟨by omega,nbg vz hc (by simpa using ‹_›)⟩
 intro aN;refine B 6 ?_;have cx:=n6g vz aa;refine B 5 ?_;exact zCg

def RA:List TK:=lM 32 [.i]
theorem eqA33:um prog 2 33 RA:=um.array underlying33 sizeOf5 rfl ((kY.int underlying5 isAgg5).up zB:kY prog 1 5 [.i])
theorem Zd:prog.eqGuardType prog.depth 33=false:=by kernel_rfl
def Ze:List TK:=[.i]++([.i]++(RA++([.i]++([]))))
theorem Ve:um prog 3 35 Ze:=um.struct underlying35 zO (o9.c rfl zB ((kY.int underlying3 isAgg3).up zB:kY prog 2 3 [.i]) (o9.c rfl zB ((kY.int underlying3 isAgg3).up zB:kY prog 2 3 [.i]) (o9.c rfl zB ((kY.agg isAgg33 sizeOf33 rfl eqA33).up zB:kY prog 2 33 RA) (o9.c rfl zB ((kY.int underlying3 isAgg3).up zB:kY prog 2 3 [.i]) (o9.n)))))
theorem Zg:prog.eqGuardType prog.depth 35=false:=by kernel_rfl
def fJ (x:Dk) (i:Nat):Int:=x.1.getD i 0
theorem K7(x:Dk):dk (fJ x)=x:=by
 obtain⟨l,h⟩:=x
 match l,h with
 | [x0,x1,x2,x3,x4,x5,x6,x7,x8,x9,CT,FC,qz,se,tK,x15,xJ,xK,x18,x19,x20,x21,x22,x23,x24,x25,x26,x27,x28,x29,x30,x31],_=>rfl
structure Se where
 kind:Int
 pub:Int
 com:Dk
 lev:Int
instance:DecidableEq Se:=λa b=>decidable_of_iff (a.kind=b.kind/\a.pub=b.pub/\a.com=b.com/\a.lev=b.lev) (by cases a;cases b;simp)
def seA (s:Se):Array Value:=(ab s.kind::ab s.pub::lL (fJ s.com) [ab s.lev]).toArray
def dJ (s:Se):List Value:=(ab s.kind::ab s.pub::lL (fJ s.com) [ab s.lev])
def de (s:Se):Value:=.agg (seA s)
theorem nGm(s:Se):(seA s).toList=[ab s.kind,ab s.pub]++(s.com.1.map (Value.int .u8)++[ab s.lev]):=by
 obtain⟨k,p,c,l⟩:=s;obtain⟨f,rfl⟩:∃f,dk f=c:=⟨_,K7 c⟩;rfl
theorem nu(s:Se):(dJ s).length=35:=rfl
theorem IQ(s:Se):∀u∈dJ s,u.oneCell'=true:=II rfl
theorem Vf(a b:Se):jW Ze (seA a).toList (seA b).toList=true:=rfl
theorem Vg(a b:Se):oi (seA a).toList (seA b).toList=decide (a=b):=by
 rw[nGm,nGm,Zh (show([ab a.kind,ab a.pub]:List Value).length=([ab b.kind,ab b.pub]:List Value).length from rfl),Zh (by simp[a.com.2,b.com.2]),U6 _ _ (by rw[a.com.2,b.com.2])];have e:decide (a=b)=(decide (a.kind=b.kind)&&decide (a.pub=b.pub)&&(decide (a.com.1=b.com.1)&&decide (a.lev=b.lev))):=by
  rw[Dp];cases a;cases b
  simp[Subtype.ext_iff,and_assoc]
 all_goals grind [oi,PY]
theorem K8:wB prog 35 de where
 und:=⟨_,underlying35,λk v=>by cases v<;>rfl⟩
 chk:=λb s W=>by
  show(Instr.checkKey b (9997+1+1+1) 35 _).run _ _=_;generalize 9997=n;refine RB (fs:=[_,_,_,_]) underlying35 λf hf=>?_;simp only[bX,dy,or_false]at hf;rcases hf with rfl|rfl|rfl|rfl
  ·exact⟨by decide,_,nDl isAgg3 rfl,n5j underlying3⟩
  ·exact⟨by decide,_,nDl isAgg3 rfl,n5j underlying3⟩
  ·exact⟨by decide,.agg (lL (fJ s.com) []).toArray,(RC isAgg33 sizeOf33).trans (congrArg (λq=>Result.ok (Value.agg q) W) (show cut (seA s) 2 32=_ from rfl)),FD underlying33 underlying5 sizeOf5 isAgg5 b _ rfl _⟩
  exact⟨by decide,_,nDl isAgg3 rfl,n5j underlying3⟩
 eq:=λa b W=>by
  rw[<-Vg];exact Ve 9997 _ _ W (Vf a b)
 bits:=λs=>by
  show Instr.sameBits (9999+1) (de s) (de s)=true;generalize 9999=n;simp only[de,seA,Instr.sameBits,beq_self_eq_true,Bool.true_and,List.zip_cons_cons,List.all_cons,List.zip_nil_right,List.all_nil,FE,Bool.and_self]
theorem K9:prog.info? 35=some Tryz.t35:=by kernel_rfl
theorem Of:iR prog 38 35 35:=⟨underlying38,Tryz.t35,.agg (ab 0::ab 0::tr [ab 0]).toArray,K9,rfl,rfl,rfl,by decide⟩
def aS (p:Int):Se:=⟨1,p,dk λ_=>0,0⟩
def nq (d:Dk) (l:Int):Se:=⟨2,0,d,l⟩
def bE (d:Dk):Se:=⟨3,0,d,0⟩
theorem nye(p:Int)(w:World):Calls prog 29 #[ab p] w (aM w (de (aS p))):=by
 refine eN func29 ntmps29 ?_;refine B 3 ?_;refine yW ?_;intro b2 dx dq;refine B 10 ?_;refine cC (.inl rfl) results29 bj A0 zC ?_;rfl
theorem ntn(p:Int)(w:World):Calls prog 18 #[ab p] w (aM w (de (aS p))):=by
 refine eN func18 ntmps18 ?_;refine B 3 ?_;refine yW ?_;intro b2 dx dq;refine B 10 ?_;refine cC (.inl rfl) results18 bj A0 zC ?_;rfl
theorem Zi(f:Nat->Int)(l:Int)(w:World):Calls prog 31 #[.agg (dg f),ab l] w (aM w (de (nq (dk f) l))):=by
 refine eN func31 ntmps31 ?_;refine B 2 ?_;refine yX ?_;intro b2 w2 da bW eU dx dq;refine B 1 ?_;refine yW ?_;intro b4 ja jb;refine B 11 ?_;refine cC (.inl rfl) results31 bj A1 zC ?_;rfl
theorem Zj(f:Nat->Int)(w:World):Calls prog 97 #[.agg (dg f)] w (aM w (de (bE (dk f)))):=by
 refine eN func97 ntmps97 ?_;refine B 2 ?_;refine yX ?_;intro b1 w1 hb1 cF gA fX jq;refine B 1 ?_;refine yW ?_;intro b2 dx dq;refine B 10 ?_;refine cC (.inl rfl) results97 bj A1 zC ?_;rfl
theorem nAk(f:Nat->Int)(w:World):Calls prog 16 #[.agg (dg f)] w (aM w (de (bE (dk f)))):=by
 refine eN func16 ntmps16 ?_;refine B 2 ?_;refine yX ?_;intro b1 w1 hb1 cF gA fX jq;refine B 1 ?_;refine yW ?_;intro b2 dx dq;refine B 10 ?_;refine cC (.inl rfl) results16 bj A1 zC ?_;rfl
theorem nYh(p:Prop)[Decidable p]:(!decide p)=decide ¬p:=by simp
def FF {α:Type} (xs:List α) (p:α->Bool):Int:=match xs.findIdx? p with|some j=>(j:Int)|none=> -1
theorem RD{α:Type}{p:α->Bool}{xs:List α}{x:α}(h:gL p xs j)(hx:xs[j]? =some x)(hp:p x=true):FF xs p=(j:Int):=by
 obtain⟨h1,h2⟩:=gX.1 hx;have e:xs.findIdx? p=some j:=aZq.2 ⟨h1,by rw[h2];exact hp,λk hk=>by simp[h k xs[k] hk (kx aa)]⟩;simp[FF,e]
theorem Zk{α:Type}{p:α->Bool}{xs:List α}(h:gL p xs j)(hj:xs.length<=j):FF xs p= -1:=by
 have e:xs.findIdx? p=none:=List.findIdx?_eq_none_iff.2 λx hx=>by
  obtain⟨i,hi⟩:=kA.1 hx;exact h i x (by have:=nr hi;omega) hi
 simp[FF,e]
theorem nGl{α:Type}(p:α->Bool)(xs:List α):(FF xs p= -1/\∀x∈xs,p x=false)\/∃(j:Nat) (x:α),FF xs p=(j:Int)/\xs[j]? =some x/\p x=true/\gL p xs j:=by
 unfold FF;cases h:xs.findIdx? p with
 |none=>exact .inl ⟨rfl,λx hx=>by simpa using List.findIdx?_eq_none_iff.1 h x hx⟩
 |some j=>
  obtain⟨h1,h2,h3⟩:=aZq.1 h;refine .inr ⟨j,_,rfl,kx h1,h2,λi x hi hx=>?_⟩;have:=h3 i hi;rw[kx aa]at hx;cases hx
  simpa using this
theorem RE(s:Se)(xs:List Se):decide (0<=FF xs (λy=>decide (s=y)))=decide (s∈xs):=by grind [nGl]
variable {xs:List Se}
theorem nWn{x s:Se}(hx:xs[j]? =some x)(h:x=s):true=decide (s∈xs):=by subst h;simp[cP hx]
theorem RF{s:Se}(h:gL (λy=>decide (y=s)) xs j)(hj:xs.length<=j):false=decide (s∈xs):=by
 symm;rw[decide_eq_false_iff_not];intro hm;obtain⟨i,hi⟩:=kA.1 hm;have:=h i s (by have:=nr hi;omega) hi;simp at this
def zo {α:Type} (xs ys:List α) (j:Nat):Prop:=xs.take j=ys.take j
theorem zo.next{α:Type}{xs ys:List α}{x y:α}(h:zo xs ys j)(hx:xs[j]? =some x)(hy:ys[j]? =some y)(e:x=y):zo xs ys (j+1):=by
 unfold zo at h ⊢;rw[np hx,np hy,h,e]
theorem nof{α:Type}[DecidableEq α]{xs ys:List α}(h:zo xs ys j)(hl:xs.length=ys.length)(hj:xs.length<=j):true=decide (xs=ys):=by
 unfold zo at h;rw[jO hj,jO aa]at h;simp[h]
theorem noh{α:Type}[DecidableEq α]{xs ys:List α}{x y:α}(hx:xs[j]? =some x)(hy:ys[j]? =some y)(e:x≠y):false=decide (xs=ys):=by grind
theorem nGf{α:Type}[DecidableEq α]{xs ys:List α}(h:xs.length≠ys.length):false=decide (xs=ys):=by grind
def wJ (xs ys:List Se):Bool:=xs.all λx=>decide (x∈ys)
theorem n7n{ys:List Se}(h:gL (λx=> !decide (x∈ys)) xs j)(hj:xs.length<=j):true=wJ xs ys:=by
 symm;unfold wJ;rw[rZ];intro x hx;obtain⟨i,hi⟩:=kA.1 hx;have:=h i x (by have:=nr hi;omega) hi;simpa using this
theorem RG{ys:List Se}{x:Se}(hx:xs[j]? =some x)(h:x∉ys):false=wJ xs ys:=by grind [wJ]
theorem nJl(xs:List Se)(hxl:xs.length<=1000000000)(N:Nat)(a:Option Addr)(cp:Nat)(w:World)(hN:N<=w.heap.size)(aJ:ai seA 35 N w a xs)(s:Se):Calls prog 27 #[.slice a xs.length cp,de s] w (aM w (ab (FF xs (λy=>decide (s=y))))):=by
 refine eN func27 ntmps27 ?_;refine B 2 ?_;refine yX ?_;intro b3 w3 hb3 cK fF ez eP;refine B 12 ?_;refine CJ.lp (α:=Nat) [0,3,7] (λj=>[(8,ab (j:Int))]) (λj=>[]) (λj=>j<=xs.length/\gL (λy=>decide (s=y)) xs j) (λj=>xs.length-j) 0 ⟨cV _,λi x hi=>absurd hi aa⟩ ?_;rintro j ⟨hj,ea⟩;refine B 6 ?_;refine aG ?_ ?_
 ·intro ar;refine B 11 ?_;obtain⟨bo,oo,cs0,to,fG,rfl,fH,cJ,aW⟩:=aJ.get aa;obtain⟨x,hx⟩:=ng xs j aa;refine eA 5 (sp:=[_,_,_,_,some (.agg (seA x))]) (k:=?_);refine rq (.bool (decide (s=x))) (oZ Ve zB Zg rfl rfl (Vf _ _)) (vb (Vg _ _)) ?_;refine B 2 ?_;refine aG ?_ ?_
  ·intro aN;refine B 12 ?_;refine aF results27 rfl A1 ?_;exact congrArg ab zrc
  intro aN;refine B 7 ?_;exact zwh
 intro ar;refine B 11 ?_;refine aF results27 rfl A1 ?_;exact congrArg ab zrc
theorem ndn(xs:List Se)(hxl:xs.length<=1000000000)(N:Nat)(a:Option Addr)(cp:Nat)(w:World)(hN:N<=w.heap.size)(aJ:ai seA 35 N w a xs)(s:Se):Calls prog 28 #[.slice a xs.length cp,de s] w (aM w (.bool (decide (s∈xs)))):=by
 refine eN func28 ntmps28 ?_;refine B 2 ?_;refine yX ?_;intro b3 w3 hb3 cK fF ez eP;refine B 7 ?_;refine Bu (f:=27) (cap:=[]) rfl call27 rfl rfl rfl (λW hS=>nJl xs hxl N a cp W cM (aJ.up (ak _) hS.sm) s) ?_;refine B 5 ?_;refine aF results28 rfl A1 ?_;exact vb (RE s xs)
theorem La(xs:List Se)(hxl:xs.length<=1000000000)(N:Nat)(a:Option Addr)(cp:Nat)(w:World)(hN:N<=w.heap.size)(aJ:ai seA 35 N w a xs)(s:Se):Calls prog 13 #[.slice a xs.length cp,de s] w (aM w (.bool (decide (s∈xs)))):=by
 refine eN func13 ntmps13 ?_;refine B 2 ?_;refine yX ?_;intro b3 w3 hb3 cK fF ez eP;refine B 10 ?_;refine CJ.lp (α:=Nat) [0,3] (λj=>[(5,ab (j:Int))]) (λj=>[]) (λj=>j<=xs.length/\gL (λy=>decide (y=s)) xs j) (λj=>xs.length-j) 0 ⟨cV _,λi x hi=>absurd hi aa⟩ ?_;rintro j ⟨hj,ea⟩;refine B 9 ?_;refine aG ?_ ?_
 ·intro ar;refine B 5 ?_;obtain⟨bo,oo,cs0,to,fG,rfl,fH,cJ,aW⟩:=aJ.get aa;obtain⟨x,hx⟩:=ng xs j aa;refine eA 5 (sp:=[_,_,_,some (.agg (seA x)),_]) (k:=?_);refine rq (.bool (decide (x=s))) (oZ Ve zB Zg rfl rfl (Vf _ _)) (vb (Vg _ _)) ?_;refine B 2 ?_;refine aG ?_ ?_
  ·intro aN;exact zph
  intro aN;refine B 8 ?_;exact zwh
 intro ar;exact zph
theorem FG(xs ys:List Se)(hxl:xs.length<=1000000000)(BB:ys.length<=1000000000)(N:Nat)(a c:Option Addr)(cp cq:Nat)(w:World)(hN:N<=w.heap.size)(aJ:ai seA 35 N w a xs)(Og:ai seA 35 N w c ys):Calls prog 19 #[.slice a xs.length cp,.slice c ys.length cq] w (aM w (.bool (decide (xs=ys)))):=by
 refine eN func19 ntmps19 ?_;refine B 15 ?_;refine aG ?_ ?_
 ·intro ar;refine B 7 ?_;exact zzh
 intro ar;refine B 4 ?_;have hlen:xs.length=ys.length:=by omega
 refine B 5 ?_;refine z8d ?_;rintro j ⟨hj,ea⟩;refine B 9 ?_;refine aG ?_ ?_
 ·intro aN;refine B 5 ?_;obtain⟨bo,oo,cs0,to,fG,rfl,fH,cJ,aW⟩:=aJ.get aa;obtain⟨x,hx⟩:=ng xs j aa;obtain⟨bp,op,ps0,tp,fp0,rfl,Cr,iJ,ah7⟩:=Og.get aa;obtain⟨y,hy⟩:=ng ys j aa;refine eA 8 (sp:=[_,_,_,some (.agg (seA x)),_,_,_,some (.agg (seA y))]) (k:=?_);refine rq (.bool (decide (¬x=y))) (er Ve zB Zg rfl rfl (Vf _ _)) (vb ((congrArg not (Vg _ _)).trans (nYh _))) ?_;refine B 2 ?_;refine aG ?_ ?_
  ·intro dc;refine B 11 ?_;exact zzh
  exact zGh
 intro aN;refine B 11 ?_;exact zzh
theorem RH(x y:Dk):oi (uQ x).toList (uQ y).toList=decide (x=y):=by
 have h:=U6 x.1 y.1 (by rw[x.2,y.2]);have e:decide (x=y)=decide (x.1=y.1):=by simp only[Subtype.ext_iff]
 rw[e,<-h];rfl
theorem RI(x y:Dk):jW (lM 32 [.i]) (uQ x).toList (uQ y).toList=true:=nSf 32 x.1 y.1 x.2 y.2
theorem nRo(xs ys:List Dk)(hxl:xs.length<=1000000000)(BB:ys.length<=1000000000)(N:Nat)(a c:Option Addr)(cp cq:Nat)(w:World)(hN:N<=w.heap.size)(aJ:ai uQ 32 N w a xs)(Og:ai uQ 32 N w c ys):Calls prog 24 #[.slice a xs.length cp,.slice c ys.length cq] w (aM w (.bool (decide (xs=ys)))):=by
 refine eN func24 ntmps24 ?_;refine B 15 ?_;refine aG ?_ ?_
 ·intro ar;refine B 7 ?_;exact zxh
 intro ar;refine B 4 ?_;have hlen:xs.length=ys.length:=by omega
 refine B 5 ?_;refine z8d ?_;rintro j ⟨hj,ea⟩;refine B 9 ?_;refine aG ?_ ?_
 ·intro aN;refine B 5 ?_;obtain⟨bo,oo,cs0,to,fG,rfl,fH,cJ,aW⟩:=aJ.get aa;obtain⟨x,hx⟩:=ng xs j aa;obtain⟨bp,op,ps0,tp,fp0,rfl,Cr,iJ,ah7⟩:=Og.get aa;obtain⟨y,hy⟩:=ng ys j aa;refine eA 8 (sp:=[_,_,_,some (.agg (uQ x)),_,_,_,some (.agg (uQ y))]) (k:=?_);refine rq (.bool (decide (¬x=y))) (er eqA33 zB Zd rfl rfl (RI _ _)) (vb ((congrArg not (RH _ _)).trans (nYh _))) ?_;refine B 2 ?_;refine aG ?_ ?_
  ·intro dc;refine B 11 ?_;exact zxh
  exact zGh
 intro aN;refine B 11 ?_;exact zxh
theorem n1f(xs ys:List Se)(hxl:xs.length<=1000000000)(BB:ys.length<=1000000000)(N:Nat)(a c:Option Addr)(cp cq:Nat)(w:World)(hN:N<=w.heap.size)(aJ:ai seA 35 N w a xs)(Og:ai seA 35 N w c ys):Calls prog 20 #[.slice a xs.length cp,.slice c ys.length cq] w (aM w (.bool (wJ xs ys))):=by
 refine eN func20 ntmps20 ?_;refine B 12 ?_;refine CJ.lp (α:=Nat) [0,1] (λj=>[(5,ab (j:Int))]) (λj=>[]) (λj=>j<=xs.length/\gL (λx=> !decide (x∈ys)) xs j) (λj=>xs.length-j) 0 ⟨cV _,λi x hi=>absurd hi aa⟩ ?_;rintro j ⟨hj,ea⟩;refine B 9 ?_;refine aG ?_ ?_
 ·intro ar;refine B 5 ?_;obtain⟨bo,oo,cs0,to,fG,rfl,fH,cJ,aW⟩:=aJ.get aa;obtain⟨x,hx⟩:=ng xs j aa;refine B 5 ?_;refine ax (.agg (seA x)) ?_;refine Bu (f:=13) (cap:=[]) rfl call13 rfl rfl rfl (λW hS=>La ys BB N c cq W cM (Og.up (ak _) hS.sm) x) ?_;refine B 3 ?_;refine aG ?_ ?_
  ·intro aN;exact zoh
  intro aN;refine B 8 ?_;refine ag (j+1) ⟨by omega,ea.next hx yO⟩
 intro ar;exact zoh
theorem npl(p:Se->Bool)(f:Nat)(cap:List Value)(az:eg prog f)(xs:List Se)(hxl:xs.length<=1000000000)(N:Nat)(a:Option Addr)(cp:Nat)(w:World)(hN:N<=w.heap.size)(aJ:ai seA 35 N w a xs)(hp:∀(j:Nat) (x:Se),xs[j]? =some x->∀W,Below w.heap.size w W->Calls prog f (.agg (seA x)::cap).toArray W (aM W (.bool (p x)))):Calls prog 99 #[.slice a xs.length cp,.func (.func f) #[] cap.toArray] w (cN w (λi:Int=>ab i) (λi _=>eR p xs i)):=by
 refine eN func99 ntmps99 ?_;refine UI ?_;rintro j ⟨hj,ea⟩;refine B 6 ?_;refine aG ?_ ?_
 ·intro ar;refine B 11 ?_;obtain⟨bo,oo,cs0,to,fG,rfl,fH,cJ,aW⟩:=aJ.get aa;obtain⟨x,hx⟩:=ng xs j aa;refine B 5 ?_;refine ax (.agg (seA x)) ?_;refine UJ ?_;refine aG ?_ ?_
  ·intro aN;refine B 12 ?_;refine rS (j:Int) results99 rfl A0 rfl ?_;exact UK
  exact UL
 intro ar;refine B 11 ?_;refine rS (-1:Int) results99 rfl A0 rfl ?_;exact UM
theorem nQi(p:Se->Bool)(f:Nat)(cap:List Value)(az:eg prog f)(xs:List Se)(hxl:xs.length<=1000000000)(N:Nat)(a:Option Addr)(cp:Nat)(w:World)(hN:N<=w.heap.size)(aJ:ai seA 35 N w a xs)(hp:∀(j:Nat) (x:Se),xs[j]? =some x->∀W,Below w.heap.size w W->Calls prog f (.agg (seA x)::cap).toArray W (aM W (.bool (p x)))):Calls prog 50 #[.slice a xs.length cp,.func (.func f) #[] cap.toArray] w (aM w (.bool (xs.any p))):=by
 refine eN func50 ntmps50 ?_;refine B 9 ?_;refine nv (α:=Int) (v:=λi:Int=>ab i) (Φ:=λ_ i _=>eR p xs i) call99 rfl rfl rfl (λW hS=>npl p f cap az xs hxl N a cp W cM (aJ.up (ak _) hS.sm) (λj x hx W2 hB=>hp j x hx W2 (((hS.links w A0).below J5).trans (hB.mono (hS.links w A0).size)))) ?_;intro Wi i wi EA EB hi;refine B 5 ?_;refine aF results50 rfl A1 ?_;exact vb hi.any
def wK:List Int->Int
 | []=>0
 |x::l=>if x=0 then wK l else x
theorem FH:∀{xs:List Int} {j:Nat} {x:Int},(∀(i:Nat) (y:Int),i<j->xs[i]? =some y->y=0)->xs[j]? =some x->x≠0->x=wK xs
 | [],_,_,_,h,_=>by simp at h
 |y::xs,0,x,_,h,hn=>by
  simp only[Jt,vP]at h;subst h;simp[wK,hn]
 |y::xs,j+1,x,h0,h,hn=>by
  have e:=h0 0 y aa rfl;unfold wK;rw[if_pos e];exact FH (j:=j) (λi z hi hz=>h0 (i+1) z aa (by simpa using hz)) Bp hn
theorem ndo:∀{xs:List Int},(∀(i:Nat) (y:Int),xs[i]? =some y->y=0)->0=wK xs
 | [],_=>rfl
 |y::xs,h=>by
  unfold wK;rw[if_pos (h 0 y rfl)];exact ndo λi z hz=>h (i+1) z (by simpa using hz)
theorem aia(xs:List Int)(b cap t:Nat)(cs:Array Value)(fr:Nat×Nat)(hl:xs.length<=1000)(w:World)(hb:w.heap[b]? =some (.cells cs t fr))(cJ:∀(i:Nat) (x:Int),xs[i]? =some x->cs[i]? =some (ab x)):Calls prog 102 #[.slice (aj b) xs.length cap] w λe w'=>e= .returned (ab (wK xs))/\w'=w:=by
 refine Fl (vs:=[_]) func102 rfl ntmps102 rfl ?_;have hT:∀W',W'=w->St Gh.no [w] [] W':=λW' e=>by
  rw[e];exact N8 (by intro v hv;simp only[bX,dy,or_false]at hv;subst hv;exact Below.refl _ _)
 refine AL ?_;refine Rp ?_;refine AL ?_;refine Rp ?_;refine CX.seq ?_;refine AL ?_;refine N9 ?_;refine pH hT rfl rfl rfl (iQ underlying55 rfl) ?_;refine N9 ?_;refine Fm ?_;refine CX.block ?_;refine CX.loop (α:=Nat) (λj=>[(3,ab 0),(6,.slice (aj b) xs.length cap),(7,ab (xs.length:Int)),(8,ab (j:Int))]) (λ_=>(· =w)) (λj=>j<=xs.length/\∀(i:Nat) (y:Int),i<j->xs[i]? =some y->y=0) (λj=>xs.length-j) 0 ⟨cV _,λi y h=>absurd h aa⟩ zR (λW e=>e) ?_;rintro j ⟨hj,hz⟩;refine AL ?_;by_cases ar:j<xs.length
 ·obtain⟨x,hx⟩:=ng xs j ar;have hv:=cJ j x hx;refine z2e ?_;refine pH hT rfl rfl rfl (dd underlying55 sizeOf3 rfl rfl aa aa) ?_;refine pH hT rfl rfl rfl (av (v:=ab x) isAgg3 rfl A0 hb zL trivial (by simpa using hv)) ?_;refine Rp ?_;refine AL ?_;refine N9 ?_;refine N9 ?_;by_cases aN:x=0
  ·refine pH hT rfl rfl rfl (RV.re (v':=bG) (cQ rfl rfl) (vb (by simp[aN]))) ?_;refine zcf ?_;refine pH hT rfl rfl rfl (hJ rfl rfl aa aa) ?_;refine N9 ?_;refine OX.done ?_;exact PX.again (j+1) ⟨by omega,λi y hi hy=>by by_cases e:i=j;(subst e;rw[hx]at hy;cases hy;exact aN);exact hz i y aa hy⟩ aa zR (λW' e=>e)
  refine pH hT rfl rfl rfl (RV.re (v':=cX) (cQ rfl rfl) (vb (by simp[aN]))) ?_;refine Fm ?_;refine CX.condT rfl ?_;refine AL ?_;refine N9 ?_;refine Rp ?_;refine zqe ?_;exact AM (.inl rfl) results102 rfl (λW' e=>⟨congrArg (λn=>Ending.returned (ab n)) (FH hz hx aN),e⟩)
 refine ztf ?_;refine N9 ?_;refine Rp ?_;refine CX.ret ?_;exact AM (.inl rfl) results102 rfl (λW' e=>⟨congrArg (λn=>Ending.returned (ab n)) (ndo (λi y hy=>hz i y (by have:=nr hy;omega) hy)),e⟩)
def ly (x y:Se):Int:=wK [cZ x.kind y.kind,cZ x.pub y.pub,Go.Lib.compareBytes (cy (fJ x.com)) (cy (fJ y.com)),cZ x.lev y.lev]
theorem CO.or{α:Type}{f:α->α->Int}{g:α->α->List Int}(hf:CO f)(hg:CO λx y=>wK (g x y)):CO λx y=>wK (f x y::g x y):=by
 have:=hf.lex hg;exact this
theorem CO.ord:CO ly:=by
 have h4:CO λx y:Se=>wK [cZ x.lev y.lev]:=by
  have e:(λx y:Se=>wK [cZ x.lev y.lev])=λx y:Se=>cZ x.lev y.lev:=by funext x y;simp only[wK];split<;>simp_all
  rw[e];exact CO.int.key (λx:Se=>x.lev)
 exact(CO.int.key (λx:Se=>x.kind)).or ((CO.int.key (λx:Se=>x.pub)).or ((CO.bytes.key (λx:Se=>cy (fJ x.com))).or h4))
theorem Oh{X:Array Value}{t k:Nat}{fr:Nat×Nat}{v:Value}(hb:W.heap[b]? =some (.cells X t fr))(h:X[k]? =some v):W.cell? ⟨b,k,none⟩=some v:=by
 simp only[World.cell?,hb];exact h
theorem Zl{w':World}(h:Below w.heap.size w w'):∃q zc,w'=Go.Sort.grow (w.drewN q) zc:=by
 refine⟨w'.drawn-w.drawn,w'.heap.extract w.heap.size w'.heap.size,?_⟩;have e1:w.heap++w'.heap.extract w.heap.size w'.heap.size=w'.heap:=by
  apply Array.ext_getElem?;intro k;by_cases hk:k<w.heap.size
  ·rw[Vh hk];exact(h.block k hk).symm
  rw[Array.getElem?_append_right aa,Array.getElem?_extract];have:=h.size;split
  ·rw[show w.heap.size+(k-w.heap.size)=k by omega]
  rw[Array.getElem?_eq_none aa]
 have e2:w.drawn+(w'.drawn-w.drawn)=w'.drawn:=by have:=h.drawn;omega
 have h1:=h.os;have h2:=h.tape;have h3:=h.output
 obtain⟨hp,tp,dn,os,op⟩:=w';obtain⟨U1,tp0,dn0,os0,op0⟩:=w;simp only[Go.Sort.grow,World.drewN]at *;all_goals grind
theorem n4m(x y:Se){b1 b2 t1 t2:Nat}{fr1 xp:Nat×Nat}(h1:W.heap[b1]? =some (.cells (seA x) t1 fr1))(h2:W.heap[b2]? =some (.cells (seA y) t2 xp)):Calls prog 104 #[.slice (some ⟨b1,2,none⟩) 32 32,.slice (some ⟨b2,2,none⟩) 32 32] W (aM W (ab (Go.Lib.compareBytes (cy (fJ x.com)) (cy (fJ y.com))))):=by
 have key:∀(z:Se) (i:Nat) (h:i<(dk (fJ z.com)).1.length),(seA z)[2+i]? =some (.int .u8 (dk (fJ z.com)).1[i]):=by
  intro z i h;have h2:i<32:=by rw[(dk (fJ z.com)).2]at h;exact h
  have e1:((dk (fJ z.com)).1.map (Value.int .u8))[i]? =some (.int .u8 ((dk (fJ z.com)).1[i]'h)):=by rw[sA,kx h];rfl
  have e2:(dg (fJ z.com))[i]? =((dk (fJ z.com)).1.map (Value.int .u8))[i]? :=by rw[<-nun,DQ];rfl
  exact(uS (k:=2) (n:=32) (r:=dg (fJ z.com)) rfl i h2).trans (e2.trans e1)
 have:=njf (W:=W) (b1:=b1) (o1:=2) (c1:=32) (b2:=b2) (o2:=2) (c2:=32) (xs:=(dk (fJ x.com)).1) (ys:=(dk (fJ y.com)).1) (λi h=>Oh h1 (key x i h)) (λi h=>Oh h2 (key y i h));rw[(dk (fJ x.com)).2,(dk (fJ y.com)).2,nmi,nmi]at this;refine this.mono ?_;exact zOh
theorem aib(a b c d:Int){n t:Nat}{fr:Nat×Nat}(h:W.heap[n]? =some (.cells #[ab a,ab b,ab c,ab d] t fr)):Calls prog 102 #[.slice (aj n) 4 4] W (aM W (ab (wK [a,b,c,d]))):=by
 refine(aia [a,b,c,d] n 4 t _ fr zJ W h (by
  intro i x hi
  match i,hi with
  |0,hi=>exact congrArg (λq=>some (ab q)) (Option.some.inj hi)
  |1,hi=>exact congrArg (λq=>some (ab q)) (Option.some.inj hi)
  |2,hi=>exact congrArg (λq=>some (ab q)) (Option.some.inj hi)
  |3,hi=>exact congrArg (λq=>some (ab q)) (Option.some.inj hi))).mono ?_
 exact zOh
theorem FI(x y:Se)(w:World):Calls prog 54 #[de x,de y] w (aM w (ab (ly x y))):=by
 refine eN func54 ntmps54 ?_;refine B 2 ?_;refine yX ?_;intro b2 w2 da bW eU dx dq;refine yX ?_;intro b3 w3 hb3 cK fF ez eP;refine B 4 ?_;refine eA 19 (pb:=by exact zU 4 (k:=by exact aU (nf call103 rfl rfl (λW hS _=>nbh _ _ W) (λ_=>rfl)) (zU 4 (k:=by exact aU (nf call103 rfl rfl (λW hS _=>nbh _ _ W) (λ_=>rfl)) (zU 1 (k:=by exact aU (X.v (RV.re (v':=.slice (some ⟨b2,2,none⟩) 32 32) (fp (h:=32) underlying33 sizeOf5 rfl rfl aa) rfl)) (zU 1 (k:=by exact aU (X.v (RV.re (v':=.slice (some ⟨b3,2,none⟩) 32 32) (fp (h:=32) underlying33 sizeOf5 rfl rfl aa) rfl)) (aU (nf call104 rfl rfl (λW hS _=>n4m x y (hS.old A1 da bW trivial) (hS.old A0 hb3 cK trivial)) (λ_=>rfl)) zT))))))))) (k:=?_);refine call call103 rfl rfl rfl (λW hS=>nbh _ _ W) ?_;refine Eb ?_;refine yW ?_;intro b25 anz anA;refine call (v:=ab (ly x y)) call102 rfl rfl rfl (λW hS=>aib _ _ _ _ (hS.own _ A0)) ?_;refine B 4 ?_;refine cC (.inl rfl) results54 bj A2 zC ?_;rfl
theorem Zm(x y:Se)(W:World):Calls prog 54 #[de x,de y] W λe w'=>e= .returned (ab (ly x y))/\∃q zc,w'=Go.Sort.grow (W.drewN q) zc:=(FI x y W).mono λe w' h=>⟨h.1,Zl h.2⟩
instance:Inhabited Se:=⟨aS 0⟩
abbrev gq (xs:List Se):List Se:=gC ly xs
theorem Lb(xs:List Se):(gq xs).length=xs.length:=N2 CO.ord.swo xs
theorem nXh:gq []=[]:=kX (Lb [])
theorem n4h(xs:List Se)(s:Se):s∈gq xs↔s∈xs:=(U2 CO.ord.swo xs).mem_iff
theorem Oi(hl:xs.length<=1000000){cap:Nat}(bN:(Rw.row b cap sp).Fit 35 xs)(h:W.heap[b]? =some (aO dJ 35 xs sp)):Calls prog 59 #[.slice (aj b) xs.length cap,.func (.func 54) #[] #[]] W (λe w'=>∃bU,e= .returned ((λ_=>.tuple #[]) (Rw.row b cap bU))/\aH (· =b) W w'/\(Rw.row b cap bU).Fit 35 (gq xs)/\w'.heap[b]? =some (aO dJ 35 (gq xs) bU)):=by
 have hc:=Go.Proofs.AnyQ.slices_SortFunc_eq Go.Proofs.Tryz.laySS 35 isAgg35 sizeOf35 dJ nu IQ ly CO.ord.swo 54 #[] b 0 cap xs.toArray W (Go.Proofs.enters_of func54 zO rfl) (λ_ _ _ _ x y=>Zm x y _) (n0i nu h) (aT.1 h).1 oI;change Calls prog 59 _ _ _ at hc;refine hc.mono ?_;rintro e w' ⟨rfl,n,os,rfl⟩;have hp:=YB (n:=n) (os:=os) nu h (ys:=gq xs) (Lb xs);exact⟨sp,rfl,hp.1,by simp only[Rw.Fit,Lb];exact bN,hp.2⟩
def lS (xs:List Se):Nat->List Se
 |0=>[]
 |j+1=>match xs[j]? with
  |none=>lS xs j
  |some x=>if 0<j/\xs[j-1]? =some x then lS xs j else lS xs j++[x]
def FJ (xs:List Se):List Se:=lS xs xs.length
theorem nDn{x y:Se}(hj:0<j)(hx:xs[j]? =some x)(hy:xs[j-1]? =some y)(e:x=y):lS xs (j+1)=lS xs j:=by grind [lS]
theorem FK{x y:Se}(hx:xs[j]? =some x)(hy:xs[j-1]? =some y)(e:x≠y):lS xs (j+1)=lS xs j++[x]:=by grind [lS]
theorem Lc:lS xs 1=xs.take 1:=by
 cases xs with
 |nil=>rfl
 |cons x l=>rfl
theorem nhj(xs:List Se):∀(j:Nat) (s:Se),s∈lS xs j↔s∈xs.take j
 |0,s=>by simp[lS]
 |j+1,s=>by
  have ih:=nhj xs j;cases hx:xs[j]? with
  |none=>
   have e1:lS xs (j+1)=lS xs j:=by conv=>lhs;unfold lS;rw[hx]
   rw[e1,ih,jO (by have:=List.getElem?_eq_none_iff.1 hx;omega),jO (by have:=List.getElem?_eq_none_iff.1 hx;omega)]
  |some x=>
   rw[np hx,bA,kf];by_cases h:0<j/\xs[j-1]? =some x
   ·have e1:lS xs (j+1)=lS xs j:=by conv=>lhs;unfold lS;rw[hx];simp only;rw[if_pos h]
    rw[e1,ih];refine⟨.inl,λh1=>h1.elim id λh1=>?_⟩;subst h1;have:(xs.take j)[j-1]? =some s:=by rw[QX aa];exact h.2
    exact cP this
   have e1:lS xs (j+1)=lS xs j++[x]:=by conv=>lhs;unfold lS;rw[hx];simp only;rw[if_neg h]
   rw[e1,bA,kf,ih]
theorem Ld(xs:List Se)(s:Se):s∈FJ xs↔s∈xs:=by unfold FJ;rw[nhj,vW]
theorem Le(xs:List Se):∀j,(lS xs j).length<=j:=
 by intro x;induction x<;>(intros;grind [lS])
theorem Lf(xs:List Se):(FJ xs).length<=xs.length:=Le xs _
def zp (xs:List Se) (j:Nat):Prop:=lS xs j=xs.take j
theorem zp.next{x y:Se}(h:zp xs j)(hx:xs[j]? =some x)(hy:xs[j-1]? =some y)(e:¬x=y):zp xs (j+1):=by
 unfold zp at h ⊢;rw[FK hx hy e,h,np hx]
theorem zp.end_(h:zp xs j)(hj:j=xs.length):FJ xs=xs:=by
 subst hj;unfold FJ;rw[show lS xs xs.length=xs.take xs.length from h,vW]
theorem nJg(h:xs.length<2):FJ xs=xs:=by
 match xs,h with
 | [],_=>rfl
 | [x],_=>rfl
 |_::_::_,h=>simp at h;omega
def cA (xs:List Se):List Se:=FJ (gq xs)
theorem CU(xs:List Se)(s:Se):s∈cA xs↔s∈xs:=(Ld _ _).trans (n4h _ _)
theorem Lg(xs:List Se):(cA xs).length<=xs.length:=by have:=Lf (gq xs);rw[Lb]at this;exact this
theorem nLf:cA []=[]:=by unfold cA;rw[nXh];rfl
theorem nMf{α:Type}{enc:α->List Value}{m o k:Nat}{cur:List α}{x:α}(hm:∀x,(enc x).length=m)(hx:cur[o+k]? =some x){i:Int}(hi:i=(k:Int)):cut (gN enc cur++sp).toArray (o*m+i.toNat*m) m=(enc x).toArray:=by
 subst hi;have:=Q5 (enc:=enc) (sp:=sp) hm hx;rw[yB,lE,pE]at this;rw[yB];exact this
theorem nqh{α:Type}{enc:α->List Value}{m o k:Nat}{cur:List α}(hm:∀x,(enc x).length=m)(hj:o+k<cur.length){i:Int}(hi:i=(k:Int)):o*m+i.toNat*m+m<=(gN enc cur++sp).toArray.size:=by
 subst hi;have:=Q6 (enc:=enc) (sp:=sp) hm hj;rw[yB,lE,pE]at this;rw[yB];exact this
theorem ndm(n c:Nat)(w:World):Calls prog 58 #[.slice none n c] w (aD w dJ 35 35 ([]:List Se) id):=by
 refine eN func58 ntmps58 ?_;refine B 9 ?_;refine rr cX (uL underlying38 rfl rfl) ?_;refine B 10 ?_;exact nP (H0:=[]) (H1:=[]) (r:=.nil) (.inl rfl) results58 bj A0 trivial rfl rfl True.intro rfl
theorem n3k(xs:List Se)(hxl:xs.length<=100000)(N:Nat)(q:Addr)(cp:Nat)(w:World)(hN:N<=w.heap.size)(aJ:ai seA 35 N w (some q) xs):Calls prog 58 #[.slice (some q) xs.length cp] w (aD w dJ 35 35 xs id):=by
 refine eN func58 ntmps58 ?_;refine B 9 ?_;refine rr bG (uM underlying38 rfl rfl) ?_;refine B 7 ?_;refine IS ?_;refine yW ?_;intro b5 so sq;refine B 1 ?_;refine CP (xs:=([]:List Se)) (zs:=xs) (enc:=dJ) (m:=35) (H0:=[]) (H1:=[]) (sp:=[]) (by rfl) Of nu rfl rfl rfl rfl (bO.sl nu IQ underlying38 A0 aJ (λb hb=>⟨λh=>h,by simp only[aY,and_true];omega⟩)) ⟨ak _,rfl⟩ (.inr zD) oI ?_;intro b7 CI Yv tv pF;have ET:w.heap.size<=b7:=by rcases tv with h|h;(omega);exact h.not A0
 rw[ef]at pF ⊢;refine B 4 ?_;exact nP (H0:=[]) (H1:=[]) (r:=.row b7 CI Yv) (.inl rfl) results58 bj A0 (by simp only[ef,Over,and_true];omega) rfl pF ET (by rfl)
theorem FL(xs:List Se)(hxl:xs.length<=100000)(N:Nat)(a:Option Addr)(cp:Nat)(w:World)(hN:N<=w.heap.size)(aJ:ai seA 35 N w a xs):Calls prog 58 #[.slice a xs.length cp] w (aD w dJ 35 35 xs id):=by
 cases a with
 |none=>
  have h0:xs=[]:=by rcases aJ with h|⟨b,off,cs,t,fr,h,_⟩;(exact h);cases h
  subst h0;exact ndm 0 cp w
 |some q=>exact n3k xs hxl N q cp w hN aJ
theorem nPk(w:World):Calls prog 171 #[ao,ab 0,ab 0,.func (.func 54) #[] #[]] w (aM w (.tuple #[])):=by
 refine eN func171 ntmps171 ?_;refine B 8 ?_;refine zyd ?_;rintro j _;refine B 5 ?_;refine Er ?_;exact cC (.inr rfl) results171 bj A0 trivial rfl
theorem nCo(l:Int)(w:World):Calls prog 105 #[ao,ab 0,ab 0,ab l,.func (.func 54) #[] #[]] w (aM w (.tuple #[])):=by
 refine eN func105 ntmps105 ?_;refine B 11 ?_;refine zzd ?_;rintro j _;refine PE ?_;refine B 9 ?_;refine call call171 rfl rfl rfl (λW hS=>nPk W) ?_;refine B 7 ?_;exact cC (.inl rfl) results105 bj A0 trivial rfl
theorem nJh(w:World):Calls prog 59 #[ao,.func (.func 54) #[] #[]] w (aM w (.tuple #[])):=by
 refine eN func59 ntmps59 ?_;refine zLf ?_;refine call call105 rfl rfl rfl (λW hS=>nCo _ W) ?_;refine B 1 ?_;exact cC (.inr rfl) results59 bj A0 trivial rfl
theorem nVo(xs:List Se)(hxl:xs.length<=100000)(b cp:Nat)(sp:List Value)(w:World)(hb:w.heap[b]? =some (aO dJ 35 xs sp))(bN:(Rw.row b cp sp).Fit 35 xs):Calls prog 60 #[.slice (aj b) xs.length cp] w (λe w'=>∃bU,e= .returned ((λr=>r.val (FJ xs).length) (Rw.row b cp bU))/\aH (· =b) w w'/\(Rw.row b cp bU).Fit 35 (FJ xs)/\w'.heap[b]? =some (aO dJ 35 (FJ xs) bU)):=by
 have gV:=bN.1;have eu:=bN.2;have jf:=(aT.1 hb).1;refine nB (Gh.lent (· =b)) [(b,aO dJ 35 xs sp)] (vs:=[_]) func60 rfl ntmps60 rfl (DG hb) ?_;refine B 13 ?_;refine aG ?_ ?_
 ·intro ar;refine B 8 ?_;exact bM (.inl rfl) results60 bj λW hS=>⟨sp,by rw[nJg aa];rfl,hS.baseX A0 NG,by rw[nJg aa];exact bN,by rw[nJg aa];exact hS.own _ A0⟩
 intro ar;refine B 9 ?_;refine CJ.lp (α:=Nat) [0] (λj=>[(3,ab (j:Int))]) (λj=>[(b,aO dJ 35 xs sp)]) (λj=>1<=j/\j<=xs.length/\zp xs j) (λj=>xs.length-j) 1 ⟨ak _,by omega,Lc⟩ ?_;rintro j ⟨Uh,hj,rW⟩;refine B 9 ?_;refine aG ?_ ?_
 ·intro aN;refine B 5 ?_;obtain⟨x,hx⟩:=ng xs j aa;obtain⟨y,hy⟩:=ng xs (j-1) aa;refine eA 9 (pb:=by exact zU 3 (k:=by exact aU (X.v (RV.re (v':=.agg (seA x)) (eV (i:=0) rfl isAgg35 sizeOf35 rfl (Q6 nu aa)) (va (Q5 (sp:=sp) nu hx)))) (zU 4 (k:=by exact aU (X.v (RV.re (v':=.agg (seA y)) (eV (i:=0) rfl isAgg35 sizeOf35 rfl (Q6 nu aa)) (va (Q5 (sp:=sp) nu hy)))) (vO rfl))))) (sp:=[_,_,_,_,_,_,some (ab ((j-1:Nat):Int)),_,_]) (k:=?_);refine rq (.bool (decide (x=y))) (oZ Ve zB Zg rfl rfl (Vf _ _)) (vb (Vg _ _)) ?_;refine B 2 ?_;refine aG ?_ ?_
  ·intro dc;refine B 4 ?_;refine rq (.slice (some ⟨b,j*35,none⟩) (xs.length-j) (cp-j)) (fM (l:=j) (h:=xs.length) underlying38 sizeOf35 rfl ⟨_,_,rfl,rfl⟩ rfl aa aa rfl) (by rw[if_neg aa,lE]) ?_;refine B 10 ?_;refine CJ.lp (α:=(Nat×List Se)×Nat) [0,4] (λp9=>[(3,ab (p9.1.1:Int)),(5,ab (p9.2:Int))]) (λp9=>[(b,aO dJ 35 p9.1.2 sp)]) (λp9=>1<=p9.2/\p9.1.1<=j+p9.2-1/\p9.2<=xs.length-j/\p9.1.2.length=xs.length/\p9.1.2.take p9.1.1=lS xs (j+p9.2)/\p9.1.2.drop (j+p9.2-1)=xs.drop (j+p9.2-1)) (λp9=>xs.length-p9.2) ((j,xs),1) ⟨ak _,by dsimp only;omega,by dsimp only;omega,rfl,by dsimp only;rw[nDn aa hx hy eC];exact rW.symm,rfl⟩ ?_;rintro⟨⟨i2,cur⟩,k2⟩ ⟨Jf,hik,Vi,lQ,wt,y9⟩;dsimp only at Jf hik Vi lQ wt y9 ⊢;refine B 9 ?_;refine aG ?_ ?_
   ·intro jo;refine B 5 ?_;obtain⟨x2,IJ⟩:=ng xs (j+k2) aa;obtain⟨y2,hy2⟩:=ng xs (j+k2-1) aa;obtain⟨hcy,ri⟩:=Yx y9 hy2;rw[show j+k2-1+1=j+k2 by omega]at ri;obtain⟨vz,anB⟩:=Yx ri IJ;have aih:cur[j+(k2-1)]? =some y2:=by rw[show j+(k2-1)=j+k2-1 by omega];exact hcy
    refine eA 9 (pb:=by exact zU 3 (k:=by exact aU (X.v (RV.re (v':=.agg (seA x2)) (eV (i:=0) rfl isAgg35 sizeOf35 rfl (nqh (o:=j) (k:=k2) nu aa rfl)) (va (nMf (sp:=sp) (o:=j) (k:=k2) nu vz rfl)))) (zU 4 (k:=by exact aU (X.v (RV.re (v':=.agg (seA y2)) (eV (i:=0) rfl isAgg35 sizeOf35 rfl (nqh (o:=j) (k:=(k2-1)) nu aa rfl)) (va (nMf (sp:=sp) (o:=j) (k:=(k2-1)) nu aih rfl)))) (vO rfl))))) (sp:=[_,_,_,_,_,_,some (ab ((k2-1:Nat):Int)),_,_]) (k:=?_);refine rq (.bool (decide (¬x2=y2))) (er Ve zB Zg rfl rfl (Vf _ _)) (vb ((congrArg not (Vg _ _)).trans (nYh _))) ?_;refine B 2 ?_;refine aG ?_ ?_
    ·intro ij;refine B 7 ?_;refine rq (.agg (seA x2)) (eV (i:=0) rfl isAgg35 sizeOf35 rfl (nqh (o:=j) (k:=k2) nu aa rfl)) (va (nMf (sp:=sp) (o:=j) (k:=k2) nu vz rfl)) ?_;refine B 1 ?_;refine KH (enc:=dJ) (m:=35) (i:=0) (j:=i2) (z:=x2) rfl nu IQ sizeOf35 rfl rfl rfl zJ aa rfl rfl ?_;refine B 14 ?_;refine ag ((i2+1,cur.set i2 x2),k2+1) ⟨by dsimp only;omega,by dsimp only;omega,by dsimp only;omega,by dsimp only;rw[List.length_set];exact lQ,by dsimp only;rw[n0c aa,wt,<-Nat.add_assoc,FK IJ hy2 eC],by dsimp only;rw[show j+(k2+1)-1=j+k2 by omega,nSd aa];exact ri⟩
    intro ij;refine B 8 ?_;refine ag ((i2,cur),k2+1) ⟨by dsimp only;omega,by dsimp only;omega,by dsimp only;omega,lQ,by dsimp only;rw[wt,<-Nat.add_assoc,nDn aa IJ hy2 (Decidable.not_not.1 eC)],by dsimp only;rw[show j+(k2+1)-1=j+k2 by omega];exact ri⟩
   intro jo;refine B 6 ?_;have za:j+k2=xs.length:=by omega
   have jV:cur.take i2=FJ xs:=by rw[wt,za];rfl
   refine B 3 ?_;refine rq (.slice (some ⟨b,if cp=i2 then 0 else 0+i2*35,none⟩) (cur.drop i2).length (cp-i2)) (fM (l:=i2) (h:=xs.length) underlying38 sizeOf35 rfl ⟨_,_,rfl,rfl⟩ rfl aa aa rfl) (by rw[BN,lQ]) ?_;refine OJ.reH (H':=[(b,aO dJ 35 (cur.take i2++cur.drop i2) sp)]) (by rw[AH]) ?_;refine AI (i:=0) rfl nu underlying38 zeroValue35 rfl (nbf rfl _) rfl rfl zqb ?_;intro Q7 zb;refine B 6 ?_;refine rq (.slice (aj b) (cur.take i2).length cp) (fk (h:=i2) underlying38 sizeOf35 rfl ⟨_,_,rfl,rfl⟩ aa) Yy ?_;refine B 9 ?_;exact bM (.inl rfl) results60 bj λW hS=>⟨Q7,by rw[<-jV];rfl,hS.baseX A0 NG,by rw[<-jV];exact⟨by rw[kQ];omega,by rw[zb,BN,kQ,eu,Nat.min_eq_left aa,lQ,<-pE];congr 1;omega⟩,by rw[<-jV];exact hS.own _ A0⟩
  intro dc;refine B 8 ?_;refine ag (j+1) ⟨by omega,by omega,rW.next hx hy eC⟩
 intro aN;refine B 12 ?_;exact bM (.inl rfl) results60 bj λW hS=>⟨sp,by rw[rW.end_ aa];rfl,hS.baseX A0 NG,by rw[rW.end_ aa];exact bN,by rw[rW.end_ aa];exact hS.own _ A0⟩
theorem nRj(w:World):Calls prog 60 #[ao] w (aM w (ao)):=by
 refine eN func60 ntmps60 ?_;refine B 10 ?_;refine KG ?_;refine aF results60 rfl A0 ?_;rfl
theorem nCg(xs:List Se)(hxl:xs.length<=100000)(N:Nat)(a:Option Addr)(cp:Nat)(w:World)(hN:N<=w.heap.size)(aJ:ai seA 35 N w a xs):Calls prog 32 #[.slice a xs.length cp] w (aD w dJ 35 35 (cA xs) id):=by
 refine eN func32 ntmps32 ?_;refine B 8 ?_;refine Iv (enc:=dJ) (m:=35) (t:=35) (xs:=xs) (v:=id) (first:=[]) (cap:=[]) rfl call58 rfl rfl rfl (λW hS=>FL xs hxl N a cp W cM (aJ.up (ak _) hS.sm)) ?_;intro r aK ah;have bH:=Rw.ge_of aK A0;refine B 6 ?_;refine Ec (r:=r) (enc:=dJ) (m:=35) (t:=35) (xs:=xs) (ys:=gq xs) (H0:=[]) (H1:=[]) (v:=λ_=>.tuple #[]) rfl call59 rfl rfl rfl (λhr W hS=>?_) (λb cap sp hr W hS h=>?_) ?_
 ·exact zPh
 ·subst hr;exact Oi aa ah h
 intro r2 gd lb qR jE;have iy:=lb aK;have ee:=qR _ bH;refine B 5 ?_;refine Ec (r:=r2) (enc:=dJ) (m:=35) (t:=35) (xs:=gq xs) (ys:=cA xs) (H0:=[]) (H1:=[]) (v:=λr=>r.val (cA xs).length) rfl call60 rfl rfl rfl (λhr W hS=>?_) (λb cap sp hr W hS h=>?_) ?_
 ·have e8:=jE (xs).length;rw[<-e8,<-Lb xs];subst hr;have h0:gq xs=[]:=gd;unfold cA;rw[h0];exact(nRj W).mono λe w2 h=>⟨h.1,rfl,h.2⟩
 ·have e8:=jE (xs).length;rw[<-e8,<-Lb xs];subst hr;have e9:=Lb xs;exact nVo (gq xs) aa b cap sp W h gd
 intro r3 RJ uu Ed Ee;have J2:=uu iy;have pB:=Ed _ ee;refine B 4 ?_;exact nP (H0:=[]) (H1:=[]) (r:=r3) (.inl rfl) results32 bj A0 (by rw[dV];exact Rw.over pB) rfl RJ pB zJ
def sU {K β:Type} [Inhabited K] (kv:List (K×β)) (j:Nat):K:=((kv[j]?).map (·.1)).getD default
theorem n5o{K β:Type}[Inhabited K]{kv:List (K×β)}{p:K×β}(hp:kv[j]? =some p)(js:List Nat):(js++[j]).map (sU kv)=js.map (sU kv)++[p.1]:=by simp[sU,hp]
theorem n1o{K β:Type}[Inhabited K]{kv:List (K×β)}{js:List Nat}(hd:js.Nodup)(hl:∀j∈js,j<kv.length)(cx:∀j,j<kv.length->j∈js):(js.map (sU kv)).Perm (kv.map (·.1)):=by
 have h1:js.Perm (List.range kv.length):=(List.perm_ext_iff_of_nodup hd List.nodup_range).2 λa=>⟨λh=>tA.2 (hl a h),λh=>cx a (tA.1 h)⟩;have h2:(List.range kv.length).map (sU kv)=kv.map (·.1):=by
  apply List.ext_getElem zJ;intro i h3 h4;simp only[eG,List.length_range]at h3;simp[sU,h3]
 rw[<-h2];exact h1.map _
theorem ndh{K β:Type}{kv:List (K×β)}{js:List Nat}{jn:Nat}{pn:K×β}(hnd:js.Nodup)(pC:∀j∈js,j<kv.length)(xy:kv[jn]? =some pn)(sE:jn∉js):(js++[jn]).Nodup/\(∀j∈js++[jn],j<kv.length)/\js.length+1<=kv.length:=by
 exact zrg
theorem nSo(mp:Option Nat)(w:World):Calls prog 53 #[.map mp] w (cN w (λb:Nat=>.func (.func 101) #[] #[ptr b 0]) (λb w1=>w.heap.size<=b/\w1.heap[b]? =some (oC #[.map mp] 137))):=by
 refine eN func53 ntmps53 ?_;refine B 2 ?_;refine yX ?_;intro b1 w1 hb1 cF gA fX jq;refine B 10 ?_;refine rS b1 results53 rfl A1 rfl ?_;exact zmh
theorem nvo{kv:List (Se×Bool)}(mb bx:Nat)(m:Mq)(hm:m.Ok kv)(W:World)(hb1:W.heap[bx]? =some (oC #[.map (some mb)] 137))(sF:W.heap[mb]? =some (m.obj de Value.bool kv)):uc prog 101 [ptr bx 0] (λs:Se=>[de s]) (λp=>p.length<=kv.length) (λxs=>xs.Perm (kv.map (·.1))) (λ_=>False) (λk=>k=bx\/k=mb) W:=by
 intro l M I X0 hM hI hX hy h0;have cF:¬(dh hM (λ_=>False) (hI [] _)).X bx:=by rintro(h|h);exact(hM _ h).2.2 (.inl rfl);exact h.elim
 have Eh:¬(dh hM (λ_=>False) (hI [] _)).X mb:=by rintro(h|h);exact(hM _ h).2.2 (.inr rfl);exact h.elim
 have P8:=(aT.1 sF).1;refine nB (dh hM (λ_=>False) (hI [] _)) [] (vs:=[_,_]) func101 rfl ntmps101 rfl (Nj hM (hI [] _) h0 zJ (by simp[kV]) zJ) ?_;refine B 3 ?_;refine aij (ek:=de) (ev:=Value.bool) underlying137 (bB.old A0 sF Eh trivial) rfl rfl rfl ?_;intro rb vX Xs;replace vX:=yb vX;refine B 3 ?_;refine CJ.loop (α:=List Nat×aE) (λp=>[(0,yv l),(5,ptr rb 0)]) (λp=>[(rb,m.it mb p.1)]) (λp=>[W]) (λp=>dh hM p.2 (hI (p.1.map (sU kv)) p.2)) (λp=>p.1.Nodup/\(∀j∈p.1,j<kv.length)/\∀k,p.2 k->W.heap.size<=k) (λp=>kv.length-p.1.length) ([],λ_=>False) ⟨List.nodup_nil,by simp,λ_ h=>h.elim⟩ ⟨rfl,rfl,trivial⟩ rfl rfl zJ ?_;rintro⟨js,V⟩ ⟨hnd,pC,hV⟩;dsimp only at hnd pC hV ⊢;have Eh:¬(dh hM V (hI (js.map (sU kv)) V)).X mb:=by rintro(h|h);exact(hM _ h).2.2 (.inr rfl);have:=hV _ h;omega
 have Xt:=Xq kv.length js hnd pC;refine B 2 ?_;refine Zn (ek:=de) (ev:=Value.bool) (i:=0) rfl hm (bB.old A0 sF Eh zA) pC rfl rfl rfl (λcx=>?_) (λjn pn xy sE=>?_)
 ·refine B 9 ?_;exact Bs (.inr rfl) results101 A0 hV zJb (λA hA=>.inl ⟨_,n1o hnd pC cx,hA⟩)
 refine B 10 ?_;refine rv rfl rfl rfl (RK (ek:=de) (ev:=Value.bool) (i:=0) rfl hm (bB.old A0 sF Eh zA) xy rfl) ?_;refine B 2 ?_;refine yW ?_;intro b3 ez eP;refine B 6 ?_;refine ax (de pn.1) ?_;refine Br (λV=>hI (js.map (sU kv)++[pn.1]) V) hX hV zJ rfl rfl rfl rfl (λW1 ue kO=>hy (js.map (sU kv)) (pn.1) V W1 (by have h9:=(ndh hnd pC xy sE).2.2;simp only[ck,eG,dC,fb];omega) ue kO) ?_ ?_
 ·intro V hV;refine B 6 ?_;refine pV ?_;refine PJ.again (js++[jn],V) ⟨(ndh hnd pC xy sE).1,(ndh hnd pC xy sE).2.1,hV⟩ (by have h9:=(ndh hnd pC xy sE).2.2;simp only[ck,dC,fb];omega) ⟨rfl,rfl,trivial⟩ rfl (by dsimp only;rw[n5o xy]) zJ
 intro V hV;refine B 8 ?_;exact Bs (.inl rfl) results101 A0 hV zJb (λA hA=>.inr hA)
variable {Fin Pre:List Se->Prop}
theorem ncn{f:Nat}(az:eg prog f)(w:World)(kR:∀k,RO k->k<w.heap.size)(hlen:∀p,Pre p->p.length<=100000)(lO:∀W2,Below w.heap.size w W2->uc prog f cap (λs:Se=>[de s]) Pre Fin (λ_=>False) RO W2):Calls prog 168 #[ao,.func (.func f) #[] cap.toArray] w (λe w'=>∃xs,Fin xs/\aD w dJ 35 35 xs id e w'):=by
 refine Pj Gh.no [] (vs:=[_,_]) func168 rfl ntmps168 rfl (Jg w) ?_;refine NH ?_;refine yW ?_;intro b2 dx dq;refine B 10 ?_;refine VU (f:=f) (cap:=cap) (α:=Se) (enc:=(λs:Se=>[de s])) (Pre:=Pre) (Fin:=Fin) (RO:=RO) (MI:=λ_=>False) rfl az (λW W2 hS hB=>lO W2 ((hS.links w A0).below (by simp only[dt,eL,bX,dy,or_false,Gh.no,false_or];omega) |>.trans (hB.mono (hS.links w A0).size))) (λ_ _ _ hk=>hk.elim) (λW hS k hk=>by have h1:=kR k hk;have h2:=(hS.links w A0).size;exact⟨by omega,by simp only[dt,eL,bX,dy,or_false];omega,λh=>h⟩) (λ_=>rfl) (λpre G' Hc=>G'=Gh.no/\∃r:Rw,r.Fr Gh.no [w]/\r.Fit 35 pre/\Hc=[(b2,oC #[r.val pre.length] 38)]++(r.hp dJ 35 pre++[])) (λ_ _ _=>False) ⟨rfl,.nil,True.intro,rfl,rfl⟩ zB ?_ ?_ ?_
 ·rintro pre x G' Hc l Dk rec W1 M V Wy oe vn dP ⟨rfl,r,aK,ah,rfl⟩ iH lD Pm yi du Df;simp only[ae]at iH yi;have bH:r.ge w.heap.size:=Rw.ge_of aK A0;have im:=hlen _ dP;simp only[ck,dC,fb]at im;have D5:∀p∈r.hp dJ 35 pre,M p.1\/V p.1:=λp hp=>du.loc.h p Ux;refine B 2 ?_;refine yW ?_;intro b5 so sq;refine B 2 ?_;refine PJ.reH (H':=book ([(b5,oC (seA x) 35)]++([(b2,oC #[r.val pre.length] 38)]++(r.hp dJ 35 pre++[]))) l rec (fq Dk)) rfl ?_;refine Nl oe ?_;refine B 3 ?_;refine ax (.agg (seA x)) ?_;refine IS ?_;refine yW ?_;intro gf lP pW;refine jS (r:=r) (xs:=pre) (zs:=[x]) (enc:=dJ) (m:=35) (H0:=[(gf,oC (seA x) 35),(b5,oC (seA x) 35),(b2,oC #[r.val pre.length] 38)]) (H1:=(l,.loop {rec with state:=.busy})::fq Dk) zX Of nu rfl rfl rfl rfl (bO.one (z:=x) nu IQ underlying38 (bB.own (i:=0) rfl)) ah (Rw.Fr_ext D5) zJ Az ?_;intro gG oP oQ jh kz;replace jh:=yb jh;refine B 3 ?_;refine B4 ?_;refine Jh (G2:=Gh.no) (Hc2:=[(b2,oC #[(Rw.row gG oP oQ).val (pre++[x]).length] 38)]++((Rw.row gG oP oQ).hp dJ 35 (pre++[x])++[])) du lD ⟨λ_ h=>h,λ_ h=>.inl h,λ_ h=>.inl h,(Uy rfl (jh.imp id (λh=>h.1))),zOc⟩ (Ji oe vn) ?_;exact zVg
 ·rintro pQ l Dk rec G' Hc dK iH lD ⟨rfl,r,aK,ah,rfl⟩;replace iH:=yb iH;have bH:r.ge w.heap.size:=Rw.ge_of aK A0;refine P0 λWd yh=>?_;have ml:=Uz yh;refine B 9 ?_;have hq:=λ(k:Nat)=>Rw.mem_ge (enc:=dJ) (t:=35) (xs:=pQ) (k:=k) bH;refine PJ.reH (H':=(b2,oC #[r.val pQ.length] 38)::(r.hp dJ 35 pQ++(l,.loop rec)::fq Dk)) UA ?_;refine BI (.inl rfl) zJ λa W H' hF hS dX aQ=>?_;refine⟨_,by rw[results_tmp results168];exact congrArg (λu=>Result.ok u W) (hF 4 _ rfl),pQ,dK,r,rfl,?_,bH,ah,?_⟩
  ·refine(hS.links w A0).below λk hk hx=>?_;exact Xi
  cases r with
  |nil=>trivial
  |row b cap sp=>exact hS.own _ (dX (b,aO dJ 35 pQ sp) oR (ml _ oR).1)
 exact Pn
theorem nZo{f:Nat}(az:eg prog f)(w:World)(kR:∀k,RO k->k<w.heap.size)(hlen:∀p,Pre p->p.length<=100000)(lO:∀W2,Below w.heap.size w W2->uc prog f cap (λs:Se=>[de s]) Pre Fin (λ_=>False) RO W2):Calls prog 100 #[.func (.func f) #[] cap.toArray] w (λe w'=>∃xs,Fin xs/\aD w dJ 35 35 xs id e w'):=by
 refine eN func100 ntmps100 ?_;refine B 8 ?_;refine UC (enc:=dJ) (m:=35) (t:=35) (Fin:=Fin) (v:=id) call168 rfl rfl rfl (λW hS=>ncn az W (λk hk=>lZ (kR k hk) (hS.links w A0).size) hlen (λW2 hB=>lO W2 (((hS.links w A0).below J5).trans (hB.mono (hS.links w A0).size)))) ?_;intro xs r dK aK ah;refine B 4 ?_;exact bM (.inl rfl) results100 bj λW hS=>⟨xs,dK,r,rfl,hS.base A0 Xj,Rw.ge_of aK A0,ah,by cases r with|nil=>exact True.intro|row b cap sp=>exact hS.own _ A0⟩
theorem ngl{f:Nat}(az:eg prog f)(w:World)(kR:∀k,RO k->k<w.heap.size)(hlen:∀p,Pre p->p.length<=100000)(lO:∀W2,Below w.heap.size w W2->uc prog f cap (λs:Se=>[de s]) Pre Fin (λ_=>False) RO W2)(jV:∀xs,Fin xs->xs.length<=100000):Calls prog 52 #[.func (.func f) #[] cap.toArray,.func (.func 54) #[] #[]] w (λe w'=>∃xs,Fin xs/\aD w dJ 35 35 (gq xs) id e w'):=by
 refine eN func52 ntmps52 ?_;refine B 8 ?_;refine UC (enc:=dJ) (m:=35) (t:=35) (Fin:=Fin) (v:=id) call100 rfl rfl rfl (λW hS=>nZo az W (λk hk=>lZ (kR k hk) (hS.links w A0).size) hlen (λW2 hB=>lO W2 (((hS.links w A0).below J5).trans (hB.mono (hS.links w A0).size)))) ?_;intro xs r dK aK ah;have hxl:=jV xs dK;have bH:=Rw.ge_of aK A0;refine B 7 ?_;refine Ec (r:=r) (enc:=dJ) (m:=35) (t:=35) (xs:=xs) (ys:=gq xs) (H0:=[]) (H1:=[]) (v:=λ_=>.tuple #[]) rfl call59 rfl rfl rfl (λhr W hS=>?_) (λb cap sp hr W hS h=>?_) ?_
 ·exact zPh
 ·subst hr;exact Oi aa ah h
 intro r2 gd lb qR jE;have iy:=lb aK;have ee:=qR _ bH;refine B 9 ?_;exact bM (.inl rfl) results52 bj λW hS=>⟨xs,dK,r2,by show Ending.returned (r.val _)=Ending.returned (r2.val _);rw[<-jE,Lb],hS.base A0 (by rw[dV];exact Rw.over ee),ee,gd,by cases r2 with|nil=>exact True.intro|row b cap sp=>exact hS.own _ A0⟩
noncomputable def eb (ns:List Nd) (node:Int):Option Int:=bV (dL ns) node
noncomputable def aik (o:Option Int):Value:=.tuple #[ab (o.getD 0),.bool o.isSome]
theorem Lh(o:Option Int):((o.map ab).getD (ab 0))=ab (o.getD 0):=by cases o<;>rfl
theorem nQc(ns:List Nd)(hn:ns.length<=100000)(N:Nat)(a:Option Addr)(cp:Nat)(w:World)(hN:N<=w.heap.size)(aJ:ai fN 2 N w a ns)(node:Int):Calls prog 36 #[.agg #[.slice a ns.length cp],ab node] w (aM w (aik (eb ns node))):=by
 refine eN func36 ntmps36 ?_;refine B 2 ?_;refine yX ?_;intro b2 w2 da bW eU dx dq;refine B 6 ?_;refine Kd ?_;refine zqd ?_;intro bf m Es NA hm;replace Es:=yb Es;refine B 1 ?_;refine rq (.tuple #[ab ((eb ns node).getD 0),.bool (eb ns node).isSome]) (qv (ev:=ab) underlying165 underlying3 zeroValue3 hm (bB.own (i:=0) rfl) rfl rfl) (by unfold eb;rw[Lh]) ?_;refine B 16 ?_;refine cC (.inl rfl) results36 bj A1 zC ?_;rfl
theorem nmg(ns:List Nd)(wh:ns.length<=90000)(l:List Ch)(Aw:l.length<=64)(qw:∀x∈l,dW x.dev)(N:Nat)(na:Option Addr)(nc:Nat)(a:Option Addr)(cp:Nat)(w:World)(hN:N<=w.heap.size)(RL:ai fN 2 N w na ns)(aJ:ai gh 5 N w a l):Calls prog 57 #[.agg #[.slice na ns.length nc],.slice a l.length cp] w (cN w (λq:Option Addr×Nat=>.agg #[.slice q.1 (aX ns l).length q.2]) (λq w1=>ai fN 2 w1.heap.size w1 q.1 (aX ns l)/\((l=[]/\q=(na,nc))\/∀b off,q.1=some ⟨b,off,none⟩->w.heap.size<=b))):=by
 refine eN func57 ntmps57 ?_;refine NH ?_;refine yW ?_;intro b2 dx dq;refine B 1 ?_;refine yW ?_;intro b4 ja jb;refine B 11 ?_;refine CJ.loop (α:=(Option Addr×Nat)×World×Nat) (λp=>[(2,ptr b2 0),(4,ptr b4 0),(7,.slice a l.length cp),(8,ab (l.length:Int)),(9,ab (p.2.2:Int))]) (λp=>[(b4,oC #[ao] 51),(b2,oC #[.slice p.1.1 (aX ns (l.take p.2.2)).length p.1.2] 51)]) (λp=>[p.2.1,w]) (λp=>Gh.no) (λp=>p.2.2<=l.length/\w.heap.size<=p.2.1.heap.size/\ai fN 2 p.2.1.heap.size p.2.1 p.1.1 (aX ns (l.take p.2.2))/\(∀b off,p.1.1=some ⟨b,off,none⟩->aX ns (l.take p.2.2)=[]\/(b≠b2/\b≠b4/\(b<N\/w.heap.size<=b)))/\((p.2.2=0/\p.1=(na,nc))\/∀b off,p.1.1=some ⟨b,off,none⟩->w.heap.size<=b)) (λp=>l.length-p.2.2) ((na,nc),w,0) ⟨cV _,ak _,RL.up hN R2,λb off e=>by rcases RL.lt e with h|h;(exact .inl h);exact .inr aa,.inl ⟨rfl,rfl⟩⟩ zR rfl rfl zJ ?_;rintro⟨⟨ta,tc⟩,wk,j⟩ ⟨hj,sI,dX,ea,htn⟩;dsimp only at hj sI dX ea htn ⊢;refine B 6 ?_;refine aG ?_ ?_
 ·intro ar;refine B 5 ?_;obtain⟨bo,oo,cs0,to,fG,rfl,fH,cJ,aW⟩:=aJ.get aa;obtain⟨x,hx⟩:=ng l j aa;have hd:=qw x (cP hx);have NU:=nmk ns l j aa;refine XX ?_;refine yW ?_;intro b6 jD qu;refine B 10 ?_;refine aG ?_ ?_
  ·intro aN;refine B 4 ?_;refine OJ.dropAt (i:=0) rfl zD ?_;refine nG (enc:=gH) (m:=2) (t:=240) (xs:=oW (aX ns (l.take j)) x.dev) (v:=λs=>.tuple #[.agg #[s],ab (uA (aX ns (l.take j)) x.dev)]) (first:=[]) (cap:=[]) rfl call35 rfl rfl rfl P3 (λW hS=>nEf (aX ns (l.take j)) aa W.heap.size ta tc W (ak _) (dX.to hS A0 (ak _) (λb off e=>by rcases ea b off e with h9|h9;(exact .inl h9);rcases dX.lt e with h8|h8;(exact .inl h8);refine .inr ?_;simp only[aY,cW,dB,sx,and_true];omega)) x.dev hd) ?_;intro W9 a9 EF IB cu xz jj jG;have QM:=cu.under;simp only[nZ,cW,dB,sx,and_true]at QM;have X4:=xz.size;have VZ:=(cu.links w A1).size;refine B 11 ?_;refine PJ.again ((a9,EF),IB,j+1) ⟨by dsimp only;omega,by dsimp only;omega,by dsimp only;rw[nag hx eC];exact jj,λb off e=>by have:=jG _ e;dsimp only at this;exact .inr aa,.inr λb off e=>by have:=jG _ e;dsimp only at this ⊢;omega⟩ zW zR (by rw[nag hx eC];rfl) rfl zJ
  intro aN;refine B 6 ?_;refine OJ.dropAt (i:=0) rfl zD ?_;refine nG (enc:=gH) (m:=2) (t:=240) (xs:=mA (aX ns (l.take j)) x.dev x.pub) (v:=λs=>.tuple #[.agg #[s],ab (uB (aX ns (l.take j)) x.dev x.pub)]) (first:=[]) (cap:=[]) rfl call34 rfl rfl rfl P3 (λW hS=>nLh (aX ns (l.take j)) aa W.heap.size ta tc W (ak _) (dX.to hS A0 (ak _) (λb off e=>by rcases ea b off e with h9|h9;(exact .inl h9);rcases dX.lt e with h8|h8;(exact .inl h8);refine .inr ?_;simp only[aY,cW,dB,sx,and_true];omega)) x.dev x.pub hd aa) ?_;intro W9 a9 EF IB cu xz jj jG;have QM:=cu.under;simp only[nZ,cW,dB,sx,and_true]at QM;have X4:=xz.size;have VZ:=(cu.links w A1).size;refine B 11 ?_;refine PJ.again ((a9,EF),IB,j+1) ⟨by dsimp only;omega,by dsimp only;omega,by dsimp only;rw[nZf hx eC];exact jj,λb off e=>by have:=jG _ e;dsimp only at this;exact .inr aa,.inr λb off e=>by have:=jG _ e;dsimp only at this ⊢;omega⟩ zW zR (by rw[nZf hx eC];rfl) rfl zJ
 intro ar;refine B 6 ?_;rw[nhl _ _ _ aa]at dX ea ⊢;refine B 6 ?_;exact bM (.inl rfl) results57 bj λW hS=>⟨(ta,tc),rfl,hS.base A1 zF,dX.to hS A0 (ak _) (λb off e=>by rcases ea b off e with h9|h9;(exact .inl h9);exact .inr zA),htn.imp (λh=>⟨kX (by have:=h.1;omega),h.2⟩) id⟩
noncomputable def zq (Z:Fx) (cs:List Cm) (p:Nat×Gp):List (Nat×Gp):=(AN Z cs p.2).map λj=>(j,kT Z p.2 (me cs j))
noncomputable def CV (Z:Fx) (cs:List Cm):Nat->List (Nat×Gp)->List (Nat×Gp)
 |0,_=>[]
 |_+1,[]=>[]
 |n+1,q::qs=>q::CV Z cs n (qs++zq Z cs q)
noncomputable def mN (Z:Fx) (cs:List Cm) (fo:Fo):List (Nat×Gp):=match tJ Z cs fo with
 |none=>[]
 |some i=>CV Z cs (cs.length+1) [(i,kT Z (g0 fo) (me cs i))]
theorem Lj(Z:Fx)(cs:List Cm)(n:Nat):CV Z cs n []=[]:=by cases n<;>rfl
theorem nxo{α β γ:Type}{f:α->β}{h:α->γ}:∀{l:List α},(l.map f).Nodup->(∀a∈l,∀b∈l,h a=h b->f a=f b)->(l.map h).Nodup:=
 by intro x;induction x<;>(intros;grind)
theorem nqp(Z:Fx)(cs:List Cm)(g:Gp):(vC Z cs g (bF Z cs cs.length).length).Nodup:=by grind [vC,nxo,nyg,U7]
theorem nPl(Z:Fx)(cs:List Cm)(g:Gp):(AN Z cs g).Perm (vC Z cs g (bF Z cs cs.length).length):=List.mergeSort_perm _ _
theorem nbk(h:j∈AN Z cs g):∃c,cs[j]? =some c/\(dk (aB Z c),(j:Int))∈bF Z cs cs.length/\dk c.par=dk g.last/\ju Z g c=0:=by
 have h1:=(nPl Z cs g).mem_iff.1 h;obtain⟨c,hc,hm⟩:=nKj h1;refine⟨c,hc,hm,?_⟩;have h2:=(wD.1 h1).2;all_goals grind [Fp,Rg]
structure QOk (Z:Fx) (cs:List Cm) (p:Nat×Gp):Prop where
 c:∃c,cs[p.1]? =some c/\(dk (aB Z c),(p.1:Int))∈bF Z cs cs.length/\p.2.last=aB Z c/\p.2.epoch=c.epoch
theorem RM{k:Dk}{i j:Int}(h1:(k,i)∈bF Z cs cs.length)(h2:(k,j)∈bF Z cs cs.length):i=j:=by
 have nd:=nyg Z cs cs.length;obtain⟨a,ha⟩:=kA.1 h1;obtain⟨b,hb⟩:=kA.1 h2;have e1:((bF Z cs cs.length).map (·.1))[a]? =some k:=by rw[sA,ha];rfl
 have e2:((bF Z cs cs.length).map (·.1))[b]? =some k:=by rw[sA,hb];rfl
 have tI:a=b:=(List.getElem?_inj (by rw[eG];exact nr ha) nd).1 (e1.trans e2.symm);all_goals grind
structure QI (Z:Fx) (cs:List Cm) (vs qs:List (Nat×Gp)):Prop where
 nd:((vs++qs).map (·.1)).Nodup
 ok:∀p∈vs++qs,QOk Z cs p
 par:∀p∈vs++qs,∀c,cs[p.1]? =some c->c.epoch=1\/∃r∈vs,dk c.par=dk r.2.last
 ge:∀p∈vs++qs,1<=p.2.epoch
theorem QI.len{qs:List (Nat×Gp)}(h:QI Z cs vs qs):vs.length+qs.length<=cs.length:=by
 have h1:=Xq cs.length _ h.nd λj hj=>by
  obtain⟨p,hp,rfl⟩:=bY.1 hj;obtain⟨c,hc,_⟩:=(h.ok p hp).c;exact nr hc
 simpa using h1
theorem QI.step{qs:List (Nat×Gp)}{q:Nat×Gp}(h:QI Z cs vs (q::qs)):QI Z cs (vs++[q]) (qs++zq Z cs q):=by
 have e:(vs++[q])++(qs++zq Z cs q)=(vs++q::qs)++zq Z cs q:=by simp
 have FM:(zq Z cs q).map (·.1)=AN Z cs q.2:=by unfold zq;rw[List.map_map];exact(List.map_congr_left λ_ _=>rfl).trans (List.map_id _)
 have rn:∀p∈zq Z cs q,∃c,cs[p.1]? =some c/\(dk (aB Z c),(p.1:Int))∈bF Z cs cs.length/\dk c.par=dk q.2.last/\ju Z q.2 c=0/\p.2=kT Z q.2 c:=by
  intro p hp;obtain⟨j,hj,rfl⟩:=bY.1 hp;obtain⟨c,h1,h2,h3,h4⟩:=nbk hj;exact⟨c,h1,h2,h3,h4,by show kT Z q.2 (me cs j)=_;unfold me;rw[h1];rfl⟩
 have hq:q∈vs++q::qs:=bA.2 (.inr A0);have jw:=h.ge q hq;refine⟨?_,λp hp=>?_,λp hp c hc=>?_,λp hp=>?_⟩
 ·rw[e,gb,FM,List.nodup_append];refine⟨h.nd,(nPl Z cs q.2).nodup_iff.2 (nqp Z cs q.2),λa ha b hb tI=>?_⟩;subst tI;obtain⟨p,hp,e1⟩:=bY.1 ha;obtain⟨c,h1,_,h3,h4⟩:=nbk hb;have he:=naf h4;rcases h.par p hp c (by rw[e1];exact h1)with h5|⟨r,hr,h5⟩
  ·omega
  obtain⟨c1,_,g2,g3,_⟩:=(h.ok q hq).c;obtain⟨c2,_,k2,k3,_⟩:=(h.ok r (bA.2 (.inl hr))).c;have e2:dk (aB Z c1)=dk (aB Z c2):=by rw[<-g3,<-k3,<-h3,h5]
  rw[e2]at g2;have e3:q.1=r.1:=by have:=RM g2 k2;omega
  have nd:=h.nd;rw[gb,List.nodup_append]at nd;exact nd.2.2 r.1 (bY.2 ⟨r,hr,rfl⟩) q.1 zJ e3.symm
 ·rw[e]at hp;rcases bA.1 hp with hp|hp
  ·exact h.ok p hp
  obtain⟨c,h1,h2,_,_,h5⟩:=rn p hp;exact⟨c,h1,h2,by rw[h5];rfl,by rw[h5];rfl⟩
 ·rw[e]at hp;rcases bA.1 hp with hp|hp
  ·exact(h.par p hp c hc).imp id λ⟨r,hr,h5⟩=>⟨r,bA.2 (.inl hr),h5⟩
  obtain⟨c',h1,_,h3,_⟩:=rn p hp;rw[h1]at hc;cases hc;exact .inr ⟨q,by simp,h3⟩
 rw[e]at hp;rcases bA.1 hp with hp|hp
 ·exact h.ge p hp
 obtain⟨c,_,_,_,h4,h5⟩:=rn p hp;have:=naf h4;rw[h5];show 1<=c.epoch;omega
structure FN (Z:Fx) (cs:List Cm) (fo:Fo) (vs qs:List (Nat×Gp)):Prop where
 qi:QI Z cs vs qs
 eq:∃n,vs++CV Z cs n qs=mN Z cs fo/\cs.length+1<=n+vs.length
theorem FN.first(h:tJ Z cs fo=some (kg d))(hd:uT Z cs (g0 fo) d):FN Z cs fo [] [sg d]:=by
 have hx:d.x.g=kT Z (g0 fo) (me cs (kg d)):=hd.nx;have he:=naf hd.ok;have hm:(dk (aB Z d.c),((kg d:Nat):Int))∈bF Z cs cs.length:=by
  unfold tJ Oe at h;split at h
  ·cases h
  rename_i h0;rw[Option.bind_eq_some_iff]at h;obtain⟨i,h1,h2⟩:=h;rw[AK]at h1;obtain⟨p,hp,e1⟩:=h1;obtain⟨j,c,f1,_,f3,f4⟩:=U7 Z cs _ p (cP hp);have uy:i=j:=by rw[<-e1,f1,yB]
  subst uy;split at h2
  ·have e3:=Option.some.inj h2;subst e3;rw[hd.at_]at f3;cases f3;have:=cP hp;rw[show p=(p.1,p.2)from rfl,f4,f1]at this;exact this
  cases h2
 refine⟨⟨by simp,λp hp=>?_,λp hp c hc=>?_,λp hp=>?_⟩,cs.length+1,?_,by simp⟩
 ·simp only[ef,kf]at hp;subst hp;exact⟨d.c,hd.at_,hm,by show d.x.g.last=_;rw[hd.x];rfl,by show d.x.g.epoch=_;rw[hd.x];rfl⟩
 ·simp only[ef,kf]at hp;subst hp;have:cs[kg d]? =some c:=hc;rw[hd.at_]at this;cases this;exact .inl (by rw[he];rfl)
 ·simp only[ef,kf]at hp;subst hp;show 1<=d.x.g.epoch;rw[hd.x];show 1<=d.c.epoch;rw[he];show(1:Int)<=0+1;decide
 unfold mN;rw[h,ef];show CV Z cs (cs.length+1) [(kg d,d.x.g)]=_;rw[hx]
theorem FN.step{qs:List (Nat×Gp)}{q:Nat×Gp}(h:FN Z cs fo vs (q::qs)):FN Z cs fo (vs++[q]) (qs++zq Z cs q):=by
 obtain⟨n,h1,h2⟩:=h.eq;have hl:=h.qi.len;simp only[dC]at hl;obtain⟨m,rfl⟩:∃m,n=m+1:=⟨n-1,by omega⟩;exact⟨h.qi.step,m,by rw[<-h1];simp[CV],by simp only[ck,dC,fb];omega⟩
theorem FN.done(h:FN Z cs fo vs []):vs=mN Z cs fo:=by
 obtain⟨n,h1,_⟩:=h.eq;rw[Lj,dV]at h1;exact h1
theorem FN.none(h:tJ Z cs fo=none):mN Z cs fo=[]:=by unfold mN;rw[h]
theorem nLn{ds:List Cd}(hm:ds.map kg=AN Z cs d.x.g)(hd:∀x∈ds,sQ Z cs d.x.g x):ds.map sg=zq Z cs (sg d):=by
 unfold zq;show _=(AN Z cs d.x.g).map _;rw[<-hm,List.map_map];refine List.map_congr_left λx hx=>?_;show(kg x,x.x.g)=(kg x,kT Z d.x.g (me cs (kg x)));rw[(hd x hx).le.nx]
theorem bT.fz(h:bT N w x)(hn:dw K x):∃F:ad,(∀p∈F,K<=p.1/\w.heap[p.1]? =some p.2)/\sa F x:=by
 have key:∀{α:Type} {enc:α->Array Value} {n:Nat} {a:Option Addr} {xs:List α},ai enc n N w a xs->(∀q,a=some q->xs=[]\/K<=q.block)->∃F:ad,(∀p∈F,K<=p.1/\w.heap[p.1]? =some p.2)/\ll enc n F a xs:=by
  intro α enc n a xs h1 h2;by_cases h0:xs=[]
  ·exact⟨[],by simp,.inl h0⟩
  exact h1.fs λq hq=>(h2 q hq).resolve_left h0
 obtain⟨F1,zj,xH⟩:=key h.ms hn.1;obtain⟨F2,Oc,N6⟩:=key h.ns hn.2;exact⟨F1++F2,λp hp=>(bA.1 hp).elim (zj p) (Oc p),xH.mono (λp hp=>bA.2 (.inl hp)),N6.mono (λp hp=>bA.2 (.inr hp)),h.mn,h.nn⟩
theorem bT.fzAll{N K:Nat}{w:World}:∀{ds:List Cd},(∀d∈ds,bT N w d.x/\dw K d.x)->∃F:ad,(∀p∈F,K<=p.1/\w.heap[p.1]? =some p.2)/\∀d∈ds,sa F d.x
 | [],_=>⟨[],by simp,by simp⟩
 |d::ds,h=>by
  obtain⟨F1,h1,h2⟩:=(h d A0).1.fz (h d A0).2;obtain⟨F2,h3,h4⟩:=bT.fzAll λx hx=>h x (.tail _ hx);refine⟨F1++F2,λp hp=>(bA.1 hp).elim (h1 p) (h3 p),λx hx=>?_⟩;rcases bX.1 hx with rfl|hx
  ·exact h2.mono λp hp=>bA.2 (.inl hp)
  exact(h4 x hx).mono λp hp=>bA.2 (.inr hp)
theorem nai(hZ:FxOk Z)(cs:List Cm)(cJ:cs.length<=1000)(dz:∀c∈cs,bP c)(N:Nat)(la:Option Addr)(lc:Nat)(w:World)(hN:N<=w.heap.size)(aJ:ai cG 73 N w la cs)(hC:∀c∈cs,dm N w c)(ia:Option Addr)(ic:Nat)(ta:Option Addr)(tc:Nat)(hp:o8 Z cs N w ⟨ia,ic,ta,tc⟩)(G:Gv)(hG:bT N w G)(hg:Glb w):Calls prog 63 #[.agg (zf Z cs la lc ⟨ia,ic,ta,tc⟩),.agg (bD G)] w (λe w'=>∃(x:(Option Addr×Nat)×List Cd) (F':ad),e= .returned (.slice x.1.1 x.2.length x.1.2)/\Below w.heap.size w w'/\(∀p∈F',w.heap.size<=p.1/\w'.heap[p.1]? =some p.2)/\(x.2.map kg=AN Z cs G.g/\(∀d∈x.2,sQ Z cs G.g d/\sa F' d.x)/\ll iK 143 F' x.1.1 x.2)):=by
 refine(nKi hZ cs cJ dz N la lc w hN aJ hC ia ic ta tc hp G hG hg).mono ?_;rintro e w' ⟨ds,⟨hm,iq⟩,r,rfl,hb,jw,bN,fj⟩;obtain⟨F1,h1,h2⟩:=bT.fzAll λd hd=>(iq d hd).2;obtain⟨a,c,he,aJ⟩:=r.sl Fe bN fj (ak w'.heap.size);obtain⟨F2,h3,h4⟩:=aJ.fs (K:=w.heap.size) (by
  intro q hq;cases r with
  |nil=>simp only[Rw.val,Value.slice.injEq]at he;rw[<-he.1]at hq;cases hq
  |row b cap sp=>simp only[Rw.val,Value.slice.injEq]at he;rw[<-he.1]at hq;cases hq;exact jw)
 exact⟨((a,c),ds),F1++F2,by show Ending.returned (r.val ds.length)=_;rw[he],hb,λp hp=>(bA.1 hp).elim (h1 p) (h3 p),hm,λd hd=>⟨(iq d hd).1,(h2 d hd).mono λp hp=>bA.2 (.inl hp)⟩,h4.mono λp hp=>bA.2 (.inr hp)⟩
theorem n7m(hZ:FxOk Z)(cs:List Cm)(cJ:cs.length<=1000)(dz:∀c∈cs,bP c)(N:Nat)(la:Option Addr)(lc:Nat)(w:World)(hN:N<=w.heap.size)(aJ:ai cG 73 N w la cs)(hC:∀c∈cs,dm N w c)(ia:Option Addr)(ic:Nat)(ta:Option Addr)(tc:Nat)(hp:o8 Z cs N w ⟨ia,ic,ta,tc⟩)(fo:Fo)(hg:Glb w):Calls prog 62 #[.agg (zf Z cs la lc ⟨ia,ic,ta,tc⟩),.agg (sR fo)] w (λe w'=>∃(x:Cd×Bool) (F':ad),e= .returned (.tuple #[.agg (iK x.1),.bool x.2])/\Below w.heap.size w w'/\(∀p∈F',w.heap.size<=p.1/\w'.heap[p.1]? =some p.2)/\((x.2=true/\tJ Z cs fo=some (kg x.1)/\uT Z cs (g0 fo) x.1/\sa F' x.1.x)\/(x.2=false/\tJ Z cs fo=none))):=by
 refine(nQo hZ cs cJ dz N la lc w hN aJ hC ia ic ta tc hp fo hg).mono ?_;rintro e w' ⟨x,rfl,hb,h|h⟩
 ·obtain⟨F,h1,h2⟩:=h.2.2.2.1.fz h.2.2.2.2;exact⟨x,F,rfl,hb,h1,.inl ⟨h.1,h.2.1,h.2.2.1,h2⟩⟩
 exact⟨x,[],rfl,hb,by simp,.inr h⟩
end Px
