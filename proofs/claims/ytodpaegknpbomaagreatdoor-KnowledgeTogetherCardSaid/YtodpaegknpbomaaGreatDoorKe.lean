/- Contracts of functions of the program. No condition beyond those stated. -/
import Derived.Test.YtodpaegknpbomaaGreatDoorKd
import Derived.Test.YtodpaegknpbomaaGreatDoorProg
import Derived.Test.YtodpaegknpbomaaGreatDoorLa
set_option linter.unusedSimpArgs false
set_option linter.unusedVariables false
set_option linter.unusedSectionVars false
set_option linter.unnecessarySimpa false
set_option maxRecDepth 20000
set_option maxHeartbeats 8000000
namespace Px
open Go Go.RowKit Go.Proofs Go.Proofs.Tryz
def kC (d:Cd):Nat:=d.at_.toNat
structure sS (Z:Fx) (cs:List Cm) (g:Gp) (d:Cd):Prop where
 nn:0<=d.at_
 at_:cs[kC d]? =some d.c
 id:d.id=aB Z d.c
 since:d.since=BU g.ms d.c.author
 x:d.x.g=lj Z g d.c
 ok:jC Z g d.c=0
noncomputable def Fj (Z:Fx) (cs:List Cm) (g:Gp) (i:Nat):Bool:=match cs[i]? with|some c=>mw c.par g.last&&decide (jC Z g c=0)|none=>false
noncomputable def vy (Z:Fx) (cs:List Cm) (g:Gp) (k:Nat):List Nat:=(((bF Z cs cs.length).take k).map λp=>p.2.toNat).filter (Fj Z cs g)
variable {d:Cd} {Z:Fx} {g:Gp} {x:Gv} {vs:List (Nat×Gp)} {cs:List Cm} {cap sp:List Value} {L:List World} {K N b i j:Nat} {RO:Nat->Prop} {W w:World}
theorem KY{k:Nat}{q:Dk×Int}(hq:(bF Z cs cs.length)[k]? =some q)(hi:q.2=(i:Int))(h:Fj Z cs g i=true):vy Z cs g (k+1)=vy Z cs g k++[i]:=by simp_all[vy,nq]
theorem Fk{k:Nat}{q:Dk×Int}(hq:(bF Z cs cs.length)[k]? =some q)(hi:q.2=(i:Int))(h:Fj Z cs g i=false):vy Z cs g (k+1)=vy Z cs g k:=by simp_all[vy,nq]
theorem KZ{c:Cm}(hc:cs[i]? =some c)(h:¬mw c.par g.last=true):Fj Z cs g i=false:=by simp[Fj,hc,h]
theorem K0{c:Cm}(hc:cs[i]? =some c)(h:¬jC Z g c=0):Fj Z cs g i=false:=by simp[Fj,hc,h]
theorem K1{c:Cm}(hc:cs[i]? =some c)(h:mw c.par g.last=true)(h2:jC Z g c=0):Fj Z cs g i=true:=by simp[Fj,hc,h,h2]
theorem nDj{k:Nat}(h:i∈vy Z cs g k):∃c,cs[i]? =some c/\(dk (aB Z c),(i:Int))∈(bF Z cs cs.length):=by
 obtain⟨h1,_⟩:=uU.1 h;all_goals grind [Vc,dk,aB]
noncomputable def Fl (Z:Fx) (cs:List Cm) (g:Gp) (i:Nat):Int×Int×List UInt8:=match cs[i]? with|some c=>(BU g.ms c.author,c.author,cx (aB Z c))|none=>(0,0,[])
theorem sS.key(h:sS Z cs g d):kyD d=Fl Z cs g (kC d):=by simp only[kyD,Fl,h.at_,h.since,h.id]
noncomputable def N7 (Z:Fx) (cs:List Cm) (g:Gp) (i j:Nat):Bool:=decide (ky3 (Fl Z cs g i) (Fl Z cs g j)<=0)
noncomputable def AI (Z:Fx) (cs:List Cm) (g:Gp):List Nat:=(vy Z cs g (bF Z cs cs.length).length).mergeSort (N7 Z cs g)
theorem K2{f g:Nat->Int}(hf:er f)(hg:er g)(h:cx f=cx g):dk f=dk g:=by
 have key:∀i,i<32->f i=g i:=by
  intro i hi;have h1:=Uw f hf i hi;have h2:=Uw g hg i hi;rw[<-h1,<-h2,h]
 all_goals grind [dk]
theorem K3(hZ:FxOk Z){k:Nat}:∀a∈vy Z cs g k,∀b∈vy Z cs g k,N7 Z cs g a b=true->N7 Z cs g b a=true->a=b:=by
 intro a ha b hb h1 h2;obtain⟨c,hc,hm⟩:=nDj ha;obtain⟨c2,aN,bV⟩:=nDj hb;simp only[N7,decide_eq_true_eq]at h1 h2;have h3:=CO.ky3.anti (Fl Z cs g a) (Fl Z cs g b);have h4:=Rg (x:=Fl Z cs g a) (y:=Fl Z cs g b) aa;simp only[Fl,hc,aN]at h4;have h5:dk (aB Z c)=dk (aB Z c2):=K2 (hZ.byt _ _) (hZ.byt _ _) h4;have nd:=nsg Z cs cs.length;obtain⟨i,hi⟩:=kA.1 hm;obtain⟨j,hj⟩:=kA.1 bV;have lB:=nr hi;have Cn:=nr hj;have uz:i=j:=by
  have e1:((bF Z cs cs.length).map (·.1))[i]? =some (dk (aB Z c)):=by rw[sC,hi];rfl
  have e2:((bF Z cs cs.length).map (·.1))[j]? =some (dk (aB Z c)):=by rw[sC,hj,h5];rfl
  exact(List.getElem?_inj (by rw[eQ];exact lB) nd).1 (e1.trans e2.symm)
 subst uz;rw[hi]at hj;have:=(Prod.mk.inj (Option.some.inj hj)).2;omega
instance:Inhabited Cd:=⟨⟨0,⟨0,0,λ_=>0,0,[],none,0,[],none,0,[],none,0,[],none,0,λ_=>0,0,0⟩,λ_=>0,0,gI⟩⟩
theorem njp{α:Type}[Inhabited α]{cf:α->α->Int}(h:CO cf)(xs:List α):(gM cf xs).Pairwise (λa b=>cf a b<=0):=by
 have hs:=(Go.Sort.pdq_sorts (Go.Proofs.ltOf cf) h.swo xs.toArray 0 xs.toArray.size (Go.Lib.bitLen xs.toArray.size) true true (cR _) (ak _) (Or.inl rfl)).2;have hl:(gM cf xs).length=xs.toArray.size:=by rw[NW h.swo];simp
 rw[List.pairwise_iff_getElem];intro i j hi hj uz;have h2:=hs i j (cR _) uz aa;simp only[Go.Proofs.ltOf,decide_eq_false_iff_not]at h2;have e:∀k (hk:k<(gM cf xs).length),(Go.Sort.pdq (Go.Proofs.ltOf cf) xs.toArray 0 xs.toArray.size (Go.Lib.bitLen xs.toArray.size) true true)[k]! =(gM cf xs)[k]:=by
  intro k hk;unfold gM at hk ⊢;rw[Nl]at hk;rw[Array.getElem_toList];exact getElem!_pos (Go.Sort.pdq (Go.Proofs.ltOf cf) xs.toArray 0 xs.toArray.size (Go.Lib.bitLen xs.toArray.size) true true) k hk
 rw[e i hi,e j hj]at h2;have:=h.anti ((gM cf xs)[i]) ((gM cf xs)[j]);omega
theorem K4(hZ:FxOk Z){ds:List Cd}(hm:ds.map kC=vy Z cs g (bF Z cs cs.length).length)(hd:∀d∈ds,sS Z cs g d):(gM rkI ds).map kC=AI Z cs g:=by
 have hp:(gM rkI ds).Perm ds:=U7 CO.rkI.swo ds;have Fm:((gM rkI ds).map kC).Perm (vy Z cs g (bF Z cs cs.length).length):=hm▸hp.map kC;have Rh:(AI Z cs g).Perm (vy Z cs g (bF Z cs cs.length).length):=List.mergeSort_perm _ _;refine nck (le:=N7 Z cs g) (λa ha b hb=>K3 hZ a (Fm.mem_iff.1 ha) b (Fm.mem_iff.1 hb)) ?_ ?_ (Fm.trans Rh.symm)
 ·rw[List.pairwise_map];refine(njp CO.rkI ds).imp_of_mem ?_;intro a b ha hb h;have h1:=(hd a (hp.mem_iff.1 ha)).key;have h2:=(hd b (hp.mem_iff.1 hb)).key;simp only[N7,decide_eq_true_eq,<-h1,<-h2];exact h
 refine List.pairwise_mergeSort (λa b c h1 h2=>?_) (λa b=>?_) _
 ·simp only[N7,decide_eq_true_eq]at *;exact CO.ky3.trans _ _ _ h1 h2
 have:=CO.ky3.anti (Fl Z cs g a) (Fl Z cs g b);simp only[N7,Bool.or_eq_true,decide_eq_true_eq];omega
structure sg (F:ad) (x:Gv):Prop where
 ms:lC qd 3 F x.ma x.g.ms
 ns:lC gb 2 F x.na x.g.ns
 mn:x.g.ms.length<=10000
 nn:x.g.ns.length<=80000
theorem sg.mono{F F':ad}(h:sg F x)(hF:∀p∈F,p∈F'):sg F' x:=⟨h.ms.mono hF,h.ns.mono hF,h.mn,h.nn⟩
theorem sg.lies{F:ad}(h:sg F x)(hW:∀p∈F,p.1<N/\W.heap[p.1]? =some p.2):bS N W x:=⟨h.ms.at hW,h.ns.at hW,h.mn,h.nn⟩
def dA (K:Nat) (x:Gv):Prop:=(∀q,x.ma=some q->x.g.ms=[]\/K<=q.block)/\(∀q,x.na=some q->x.g.ns=[]\/K<=q.block)
theorem sg.new{F:ad}(h:sg F x)(hF:∀p∈F,K<=p.1):dA K x:=⟨h.ms.ge hF,h.ns.ge hF⟩
theorem n1k(hZ:FxOk Z)(G:Gv)(c:Cm)(dC:bO c)(N:Nat)(w:World)(hN:N<=w.heap.size)(hG:bS N w G)(hC:du N w c)(hg:Glb w):Calls prog 83 #[.agg (bD G),.agg (cG c)] w (λe w'=>∃(X:Gv) (F':ad),e= .returned (.tuple #[.agg (bD X),ab (jC Z G.g c)])/\Below w.heap.size w w'/\(∀p∈F',w.heap.size<=p.1/\w'.heap[p.1]? =some p.2)/\X.g=xA Z G.g c/\sg F' X):=by
 refine(nkd hZ G c dC N w hN hG hC hg).mono ?_;rintro e w' ⟨X,rfl,hb,hg9,fB,yA,mq⟩;obtain⟨F1,ze,xD⟩:=fB.ms.fs yA;obtain⟨F2,N8,N2⟩:=fB.ns.fs mq;refine⟨X,F1++F2,rfl,hb,λp hp=>(bj.1 hp).elim (ze p) (N8 p),hg9,xD.mono (λp hp=>bj.2 (.inl hp)),N2.mono (λp hp=>bj.2 (.inr hp)),fB.mn,fB.nn⟩
theorem Rm{xs:List Cd}(hl:xs.length<=1000000){cap:Nat}(bM:(Rw.row b cap sp).Fit 143 xs)(h:W.heap[b]? =some (aP oF 159 xs sp))(bk:Nat)(Vf:∀w:World,aH (· =b) W w->BX w bk):Calls prog 109 #[.slice (ao b) xs.length cap,.func (.func 249) #[] #[ptr bk 0]] W (λe w'=>∃bT,e= .returned ((λ_=>.tuple #[]) (Rw.row b cap bT))/\aH (· =b) W w'/\(Rw.row b cap bT).Fit 143 (gM rkI xs)/\w'.heap[b]? =some (aP oF 159 (gM rkI xs) bT)):=by
 have Ix:∀ys:List Cd,ys.length=xs.length->∀(m:Nat) (os:Array Obj),aH (· =b) W (Go.Proofs.sortWorldK oF 143 W b 0 m ys.toArray os):=λys hy m os=>(YH (n:=m) (os:=os) E9 h (ys:=ys) hy).1;have hc:=Go.Proofs.AnyQ.slices_SortFunc_eq Go.Proofs.Tryz.laySC 143 isAgg159 sizeOf159 oF E9 n5j rkI CO.rkI.swo 249 #[ptr bk 0] b 0 cap xs.toArray W (Go.Proofs.enters_of func249 zN rfl) (λm os dk hd x y=>ahB x y bk _ (Vf _ (by have:=Ix dk.toList (by rw[Nl,hd];simp) m os;simpa using this))) (nUi E9 h) (aT.1 h).1 oN;change Calls prog 109 _ _ _ at hc;refine hc.mono ?_;rintro e w' ⟨rfl,n,os,rfl⟩;have hp:=YH (n:=n) (os:=os) E9 h (ys:=gM rkI xs) (NW CO.rkI.swo xs);exact⟨sp,rfl,hp.1,by simp only[Rw.Fit,NW CO.rkI.swo];exact bM,hp.2⟩
theorem BX.keep{X:Nat->Prop}(h:BX w b)(hk:aH X w W)(hX:∀k,k<w.heap.size->X k->∀c,w.heap[k]? =some c->∀b',w.heap[b]? =some (oC #[.slice (ao b') 3 3] 390)->k≠b/\k≠b'):BX W b:=by
 obtain⟨b',h1,h2⟩:=h;have l1:=(aT.1 h1).1;have l2:=(aT.1 h2).1;refine⟨b',?_,?_⟩
 ·rw[hk.block b l1 (λhx=>(hX b l1 hx _ h1 b' h1).1 rfl)];exact h1
 rw[hk.block b' l2 (λhx=>(hX b' l2 hx _ h2 b' h1).2 rfl)];exact h2
def zf (w:World) (b N:Nat):Prop:=N<=b/\∃b',N<=b'/\w.heap[b]? =some (oC #[.slice (ao b') 3 3] 390)/\w.heap[b']? =some (oC #[.func (.func 183) #[] #[],.func (.func 184) #[] #[],.func (.func 185) #[] #[]] 227)
theorem zf.keep{X:Nat->Prop}(h:zf w b N)(hk:aH X w W)(hX:∀k,X k->k<N):zf W b N:=by
 obtain⟨h0,b',eH,h1,h2⟩:=h;have l1:=(aT.1 h1).1;have l2:=(aT.1 h2).1;refine⟨h0,b',eH,?_,?_⟩
 ·rw[hk.block b l1 (λhx=>by have:=hX _ hx;omega)];exact h1
 rw[hk.block b' l2 (λhx=>by have:=hX _ hx;omega)];exact h2
theorem zf.at(h:zf w b N):BX w b:=⟨h.2.choose,h.2.choose_spec.2⟩
theorem nIo(b:Nat)(w:World):Calls prog 182 #[.slice (ao b) 3 3] w (cK w (λb1:Nat=>.func (.func 249) #[] #[ptr b1 0]) (λb1 w1=>w.heap.size<=b1/\w1.heap[b1]? =some (oC #[.slice (ao b) 3 3] 390))):=by
 refine eN func182 ntmps182 ?_;refine B 2 ?_;refine yX ?_;intro b1 w1 hb1 cF gK gj jy;refine B 10 ?_;refine rY b1 results182 rfl A1 rfl ?_;exact λW hS=>⟨by omega,hS.old A0 hb1 cF trivial⟩
theorem nAl(w:World):Calls prog 110 #[] w (cK w (λb1:Nat=>.func (.func 249) #[] #[ptr b1 0]) (λb1 w1=>zf w1 b1 w.heap.size)):=by
 refine eN func110 ntmps110 ?_;refine B 7 ?_;refine qT underlying390 sizeOf227 zeroValue227 rfl rfl rfl rfl rfl rfl rfl ?_;refine yV ?_;intro b1 w1 hb1 cF gK gj jy;refine nv (α:=Nat) (v:=λb9:Nat=>.func (.func 249) #[] #[ptr b9 0]) (Φ:=λW b9 w9=>W.heap.size<=b9/\w9.heap[b9]? =some (oC #[.slice (ao b1) 3 3] 390)) call182 rfl rfl rfl (λW hS=>nIo b1 W) ?_;rintro W9 b9 w9 cj xw ⟨xu,vr⟩;have Ya:=(cj.links w1 A0).size;have hzw:=(cj.links w A1).size;refine B 4 ?_;refine rY b9 results110 rfl A2 rfl ?_;exact λW hS=>⟨by omega,b1,by omega,hS.old A0 vr zJ trivial,hS.old A1 hb1 cF trivial⟩
theorem n2k(bk:Nat)(w:World):Calls prog 241 #[aj,ab 0,ab 0,.func (.func 249) #[] #[ptr bk 0]] w (aL w (.tuple #[])):=by
 refine eN func241 ntmps241 ?_;refine B 8 ?_;refine zvd ?_;rintro j _;refine B 5 ?_;refine Eh ?_;exact cC (.inr rfl) results241 aX A0 trivial rfl
theorem nEo(bk:Nat)(l:Int)(w:World):Calls prog 181 #[aj,ab 0,ab 0,ab l,.func (.func 249) #[] #[ptr bk 0]] w (aL w (.tuple #[])):=by
 refine eN func181 ntmps181 ?_;refine B 11 ?_;refine zwd ?_;rintro j _;refine PA ?_;refine B 9 ?_;refine call call241 rfl rfl rfl (λW hS=>n2k bk W) ?_;refine B 7 ?_;exact cC (.inl rfl) results181 aX A0 trivial rfl
theorem nTm(bk:Nat)(w:World):Calls prog 109 #[aj,.func (.func 249) #[] #[ptr bk 0]] w (aL w (.tuple #[])):=by
 refine eN func109 ntmps109 ?_;refine zLf ?_;refine call call181 rfl rfl rfl (λW hS=>nEo bk _ W) ?_;refine B 1 ?_;exact cC (.inr rfl) results109 aX A0 trivial rfl
theorem nEi(hZ:FxOk Z)(cs:List Cm)(cJ:cs.length<=1000)(dC:∀c∈cs,bO c)(N:Nat)(la:Option Addr)(lc:Nat)(w:World)(hN:N<=w.heap.size)(aJ:ai cG 73 N w la cs)(hC:∀c∈cs,du N w c)(ia:Option Addr)(ic:Nat)(ta:Option Addr)(tc:Nat)(hp:ph Z cs N w ⟨ia,ic,ta,tc⟩)(G:Gv)(hG:bS N w G)(hg:Glb w):Calls prog 63 #[.agg (zb Z cs la lc ⟨ia,ic,ta,tc⟩),.agg (bD G)] w (λe w'=>∃ds:List Cd,(ds.map kC=AI Z cs G.g/\∀d∈ds,sS Z cs G.g d/\bS w'.heap.size w' d.x/\dA w.heap.size d.x)/\aD w oF 143 159 ds id e w'):=by
 have hg4:=hg.lt;have iH:=n9g Z cs cs.length;have mr:((bF Z cs cs.length).map (·.1)).length=(bF Z cs cs.length).length:=eQ ..;have Ix:((bF Z cs cs.length).map (·.2)).length=(bF Z cs cs.length).length:=eQ ..;have Fp:=hp.ids;have Fq:=hp.at_;dsimp only at Fp Fq;refine nB (dL []) [] (vs:=[_,_]) func63 rfl ntmps63 rfl (NU w) ?_;refine B 2 ?_;refine yX ?_;intro b2 w2 di bV ff dB dx;refine yX ?_;intro b3 w3 cZ cu fC ez eP;refine B 7 ?_;refine ay (.slice ta ((bF Z cs cs.length).map (·.2)).length tc) ?_;refine B 5 ?_;refine CJ.loop (α:=((Rw×List Cd)×ad)×Nat) (λp9=>[(2,ptr b2 0),(3,ptr b3 0),(4,p9.1.1.1.val p9.1.1.2.length),(11,.slice ta ((bF Z cs cs.length).map (·.2)).length tc),(12,ab (((bF Z cs cs.length).map (·.2)).length:Int)),(13,ab (p9.2:Int))]) (λp9=>p9.1.1.1.hp oF 159 p9.1.1.2++[]) (λp9=>[w3,w2,w]) (λp9=>dL p9.1.2) (λp9=>p9.2<=((bF Z cs cs.length).map (·.2)).length/\p9.1.1.1.Fr (dL p9.1.2) [w3,w2,w]/\p9.1.1.1.Fit 143 p9.1.1.2/\p9.1.1.2.map kC=vy Z cs G.g p9.2/\(∀d∈p9.1.1.2,sS Z cs G.g d/\sg p9.1.2 d.x)/\p9.1.1.2.length<=p9.2/\∀q∈p9.1.2,w.heap.size<=q.1) (λp9=>((bF Z cs cs.length).map (·.2)).length-p9.2) (((.nil,[]),[]),0) ⟨cR _,True.intro,rfl,rfl,by simp,ak _,by simp⟩ zR rfl rfl zI ?_;rintro⟨⟨⟨r,ds⟩,F⟩,k⟩ ⟨hk,aK,ah,aQ,iE,vJ,dV⟩
 dsimp only at hk aK ah aQ iE vJ dV ⊢;have bG:r.ge w3.heap.size:=Rw.ge_fz aK A0;refine B 6 ?_;refine aG ?_ ?_
 ·intro ar;refine B 5 ?_;obtain⟨q,hq⟩:=ng (bF Z cs cs.length) k aa;obtain⟨i,c,Rn,lB,hc,hqk⟩:=Vc Z cs _ q (cO hq);have IF:((bF Z cs cs.length).map (·.2))[k]? =some ((i:Nat):Int):=by rw[sC,hq,JP,Rn]
  have O5:((bF Z cs cs.length).map (·.1))[k]? =some (dk (aB Z c)):=by rw[sC,hq,JP,hqk]
  have CG:=cO hc;obtain⟨ba,oa,csa,ta,fra,rfl,hba,Fs,K5⟩:=Fq.get aa;obtain⟨bq,oq,Qe,tq,Qf,rfl,oY,yJ,qb⟩:=Fp.get aa;obtain⟨bl,ol,csl,tl,frl,rfl,jl,wz,ql⟩:=aJ.get aa;refine B 3 ?_;refine rv rfl rfl rfl (av (v:=ab (i:Int)) isAgg3 rfl A2 Fs zJ zz zGc) ?_;refine B 7 ?_;refine ay (.slice (some ⟨bl,ol,none⟩) cs.length lc) ?_;refine B 2 ?_;refine ay (.agg (cG c)) ?_;refine B 1 ?_;refine yW ?_;intro b7 jN vN;refine B 5 ?_;by_cases hq9:mw c.par G.g.last=true
  ·refine B 2 ?_;refine ay (.agg (dg c.par)) ?_;refine B 1 ?_;refine ay (.agg (dg G.g.last)) ?_;refine rq bN (eF xn zA nM rfl rfl rfl) (congrArg (λq=>Value.bool (!q)) hq9) ?_;refine B 7 ?_;refine ay (.agg (bD G)) ?_;refine ay (.agg (cG c)) ?_;refine Vg (γ:=Gv) (v:=λX=>.tuple #[.agg (bD X),ab (jC Z G.g c)]) (Φ:=λF X=>X.g=xA Z G.g c/\sg F X) call83 rfl rfl rfl (λW hS=>n1k hZ G c (dC c CG) N W cM (hG.up (ak _) (hS.same A2 hN zH zF)) ((hC c CG).up (ak _) (hS.same A2 hN zH zF)) (hg.old hS A2 zH zF)) ?_;rintro Xn F2 ⟨fT,jD⟩ N8;obtain⟨e,he⟩:∃e,jC Z G.g c=e:=⟨_,rfl⟩;rw[he];refine B 4 ?_;refine yW ?_;intro b8 Ig Ii;refine B 10 ?_;refine aG ?_ ?_
   ·intro aN;refine eS 15 14 [] (pb:=by exact zU 11 (k:=by exact aU (nf call108 rfl rfl (λW hS _=>KN G N W cM (hG.up (ak _) (hS.same A2 hN zH zF)) c.author) (λ_=>rfl)) zT)) (sp:=[_,_,some (.agg (cG c)),_,some (.slice (some ⟨bq,oq,none⟩) ((bF Z cs cs.length).map (·.1)).length ic),_,_,some (.agg (dg (aB Z c))),some (.agg (bD G)),_,some (ab c.author),some (ab (BU G.g.ms c.author)),some (.agg (bD Xn)),some (.agg (iS (⟨(i:Int),c,aB Z c,BU G.g.ms c.author,Xn⟩:Cd))),_]) (h:=?_);intro _ _ hk;refine kh underlying162 sizeOf159 zeroValue159 rfl rfl rfl rfl rfl rfl rfl ?_;intro b50 mO hJ;have ani:w3.heap.size<=b50:=mO.1;refine zE ?_;refine kg (r:=r) (xs:=ds) (zs:=[(⟨(i:Int),c,aB Z c,BU G.g.ms c.author,Xn⟩:Cd)]) (enc:=oF) (m:=143) (H0:=[(b50,oC (iS (⟨(i:Int),c,aB Z c,BU G.g.ms c.author,Xn⟩:Cd)) 159),(b8,oC (bD Xn) 53),(b7,oC (cG c) 61)]) (H1:=[]) zW Fb E9 rfl rfl rfl rfl (cd.one (z:=(⟨(i:Int),c,aB Z c,BU G.g.ms c.author,Xn⟩:Cd)) E9 n5j underlying162 (bB.own (i:=0) rfl)) ah aK zI Au ?_;intro b51 ahE ahF Ro Rp;replace Ro:=yb Ro;refine Cy ?_;refine p5 ?_;refine ag (((Rw.row b51 ahE ahF,ds++[(⟨(i:Int),c,aB Z c,BU G.g.ms c.author,Xn⟩:Cd)]),F2++F),k+1) ⟨by dsimp only;omega,Ro.elim (λh=>Rw.Fr_at aK h) (λh=>.inr h),Rp,by dsimp only;rw[KY hq Rn (K1 hc hq9 (by rw[he];assumption)),gz,aQ];rfl,λd hd=>(bj.1 hd).elim (λh=>⟨(iE d h).1,(iE d h).2.mono (λp hp=>bj.2 (.inr hp))⟩) (λh=>by rw[ka.1 h];exact⟨⟨Int.natCast_nonneg _,hc,rfl,rfl,fT.trans (if_pos (by rw[he];assumption)),by rw[he];assumption⟩,jD.mono (λp hp=>bj.2 (.inl hp))⟩),by dsimp only;rw[cy,List.length_singleton];omega,λq hq=>(bj.1 hq).elim (λh=>(N8 q h).not A2) (dV q)⟩
   intro aN;refine Q8 ?_;refine ag (((r,ds),F2++F),k+1) ⟨by dsimp only;omega,aK,ah,by dsimp only;rw[Fk hq Rn (K0 hc (by rw[he];assumption))];exact aQ,λd hd=>⟨(iE d hd).1,(iE d hd).2.mono (λp hp=>bj.2 (.inr hp))⟩,by dsimp only;omega,λq hq=>(bj.1 hq).elim (λh=>(N8 q h).not A2) (dV q)⟩
  refine B 2 ?_;refine ay (.agg (dg c.par)) ?_;refine B 1 ?_;refine ay (.agg (dg G.g.last)) ?_;refine rq cY (eF xn zA nM rfl rfl rfl) (congrArg (λq=>Value.bool (!q)) (Bool.eq_false_iff.2 hq9)) ?_;refine B 11 ?_;refine p5 ?_;refine ag (((r,ds),F),k+1) ⟨by dsimp only;omega,aK,ah,by dsimp only;rw[Fk hq Rn (KZ hc hq9)];exact aQ,iE,by dsimp only;omega,dV⟩
 intro ar;refine B 6 ?_;have hke:k=(bF Z cs cs.length).length:=by omega
 rw[hke]at aQ;refine B 2 ?_;refine nv (α:=Nat) (v:=λb:Nat=>.func (.func 249) #[] #[ptr b 0]) (Φ:=λW b w1=>zf w1 b W.heap.size) call110 rfl rfl rfl (λW hS=>nAl W) ?_;intro Wk bk wk vq Eb Vf;have hzk:=Eb.size;refine D5 (r:=r) (enc:=oF) (m:=143) (t:=159) (xs:=ds) (ys:=gM rkI ds) (H0:=[]) (H1:=[]) (v:=λ_=>.tuple #[]) rfl call109 rfl rfl rfl (λhr W hS=>?_) (λb cap sp hr W hS h=>?_) ?_
 ·subst hr;have h0:ds=[]:=ah;subst h0;exact(nTm bk W).mono λe w2 h=>⟨h.1,lN (NW CO.rkI.swo []),h.2⟩
 ·subst hr;have jl:b<Wk.heap.size:=vq.lt (b,_) A0;exact Rm aa ah h bk (λw9 Zc=>((Vf.keep (X:=λk=>k=b) ((hS.links wk A0).mono (λk _ hx=>by rcases hx with hx|hx;(exact hx.elim);simpa[Rw.hp]using hx)) (λk hk=>by omega)).keep Zc (λk hk=>by omega)).at)
 intro r2 eG ly qW jP;have eu:=qW _ bG;refine B 9 ?_;refine bK (.inl rfl) results63 aX λW hS=>?_;have sa:(gM rkI ds).Perm ds:=U7 CO.rkI.swo ds;refine⟨gM rkI ds,⟨K4 hZ aQ (λd hd=>(iE d hd).1),λd hd=>⟨(iE d (sa.mem_iff.1 hd)).1,(iE d (sa.mem_iff.1 hd)).2.lies hS.fzLies,(iE d (sa.mem_iff.1 hd)).2.new dV⟩⟩,r2,?_,?_,Rw.ge_mono eu aa,eG,?_⟩
 ·show Ending.returned (r.val ds.length)=Ending.returned (r2.val (gM rkI ds).length);rw[jP,NW CO.rkI.swo]
 ·exact(hS.links w A3).below (λk hk hx=>by rcases hx with hx|hx;(exact hx);simp only[eL,eb]at hx;have:=Rw.mem_ge eu hx;omega)
 cases r2 with
  |nil=>trivial
  |row b cap sp=>exact hS.own (b,_) oW
instance:Inhabited Cm:=⟨⟨0,0,λ_=>0,0,[],none,0,[],none,0,[],none,0,[],none,0,λ_=>0,0,0⟩⟩
def zCd:Cd:=default
def ahG {α:Type} (cf:α->Cm) (l:List α) (d:α):Bool:=l.any λx=>decide ((cf x).author≠(cf d).author)&&(cf x).chs.any (ahi (cf d).author)
def ahH {α:Type} (cf:α->Cm) (b:Option α) (d:α):Option α:=match b with|none=>some d|some w=>if rmN (cf w).chs<rmN (cf d).chs then some d else some w
def wnS {α:Type} (cf:α->Cm) (s:List α×Option α) (d:α):List α×Option α:=if ahG cf s.1 d=true then s else(s.1++[d],ahH cf s.2 d)
def wnT {α:Type} (cf:α->Cm) (l:List α) (k:Nat):List α×Option α:=(l.take k).foldl (wnS cf) ([],none)
def lQ (cs:List Cm) (i:Nat):Cm:=(cs[i]?).getD default
noncomputable def wnI (Z:Fx) (cs:List Cm) (g:Gp):Option Nat:=(wnT (lQ cs) (AI Z cs g) (AI Z cs g).length).2
theorem bS.toG{G:Gh}{H:ad}(h:bS N w x)(hn:dA K x)(hS:St G L H W)(hw:w∈L)(hN:N<=w.heap.size)(ho:∀b,K<=b->b<N->¬G.X b/\bA H b):bS W.heap.size W x:=
 ⟨h.ms.toG hS hw hN (λb off e=>(hn.1 _ e).imp id (λh=>ho b h)),h.ns.toG hS hw hN (λb off e=>(hn.2 _ e).imp id (λh=>ho b h)),h.mn,h.nn⟩
theorem dA.mono{K':Nat}(h:dA K x)(hk:K'<=K):dA K' x:=⟨λq e=>(h.1 q e).imp id (dR hk),λq e=>(h.2 q e).imp id (dR hk)⟩
structure Fo where
 id:Int
 first:Nat->Int
def sT (f:Fo):Array Value:=(ab f.id::lU f.first []).toArray
def g0 (f:Fo):Gp:=⟨f.id,0,λ_=>0,[],[]⟩
def Zd (f:Fo):Gv:=⟨g0 f,none,0,none,0⟩
theorem Rq(f:Fo)(N:Nat)(w:World):bS N w (Zd f):=⟨.inl rfl,.inl rfl,by simp[Zd,g0],by simp[Zd,g0]⟩
theorem nap(l:List Dk)(k:Dk):pe l k= -1\/∃j:Nat,pe l k=(j:Int)/\l[j]? =some k:=by
 unfold pe;cases h:l.findIdx? λx=>decide (x=k)with
 |none=>exact .inl rfl
 |some j=>
  obtain⟨h1,h2,_⟩:=aVq.1 h;refine .inr ⟨j,rfl,?_⟩;rw[kK h1];simpa using h2
noncomputable def N9 (Z:Fx) (cs:List Cm) (f:Fo):Option Nat:=if pe ((bF Z cs cs.length).map (·.1)) (dk f.first)<0 then none else((bF Z cs cs.length)[(pe ((bF Z cs cs.length).map (·.1)) (dk f.first)).toNat]?).map λp=>p.2.toNat
noncomputable def tO (Z:Fx) (cs:List Cm) (f:Fo):Option Nat:=(N9 Z cs f).bind λi=>if jC Z (g0 f) (lQ cs i)=0 then some i else none
structure uV (Z:Fx) (cs:List Cm) (g:Gp) (d:Cd):Prop where
 nn:0<=d.at_
 at_:cs[kC d]? =some d.c
 x:d.x.g=lj Z g d.c
 ok:jC Z g d.c=0
theorem sS.le(h:sS Z cs g d):uV Z cs g d:=⟨h.nn,h.at_,h.x,h.ok⟩
def uW (b:Nat) (x:Gv):Prop:=(∀q,x.ma=some q->x.g.ms=[]\/q.block≠b)/\(∀q,x.na=some q->x.g.ns=[]\/q.block≠b)
theorem dA.off(h:(∀q,x.ma=some q->K<=q.block)/\(∀q,x.na=some q->K<=q.block))(hb:b<K):uW b x:=⟨λq e=>.inr (by have:=h.1 q e;omega),λq e=>.inr (by have:=h.2 q e;omega)⟩
theorem ai.ltq{α:Type}{enc:α->Array Value}{n:Nat}{a:Option Addr}{xs:List α}(h:ai enc n N w a xs):∀q,a=some q->xs=[]\/q.block<N:=by
 intro q e;rcases h with h|⟨b,off,cs,t,fr,h1,h2,_⟩;all_goals grind
theorem bS.off(h:bS N w x)(hb:N<=b):uW b x:=⟨λq e=>(h.ms.ltq q e).imp id (λh=>by omega),λq e=>(h.ns.ltq q e).imp id (λh=>by omega)⟩
theorem bS.toO{H:ad}(h:bS N w x)(hS:St Gh.no L H W)(hw:w∈L)(hN:N<=w.heap.size)(ho:∀p∈H,uW p.1 x):bS W.heap.size W x:=by
 have key:∀b,(∀p∈H,p.1≠b)->bA H b:=λb hb=>bA.of_mem (λhm=>by obtain⟨p,hp,e⟩:=bW.1 hm;exact hb p hp e);refine⟨h.ms.toG hS hw hN (λb off e=>?_),h.ns.toG hS hw hN (λb off e=>?_),h.mn,h.nn⟩
 ·by_cases h0:x.g.ms=[]
  ·exact .inl h0
  exact .inr (λ_=>⟨λh=>h,key b (λp hp e2=>((ho p hp).1 _ e).resolve_left h0 e2.symm)⟩)
 by_cases h0:x.g.ns=[]
 ·exact .inl h0
 exact .inr (λ_=>⟨λh=>h,key b (λp hp e2=>((ho p hp).2 _ e).resolve_left h0 e2.symm)⟩)
theorem ae.sub{L':List World}(h:ae L b)(hs:∀w∈L',w∈L):ae L' b:=ae.of_mem λw hw=>h.mem w (hs w hw)
theorem nNo(hZ:FxOk Z)(cs:List Cm)(cJ:cs.length<=1000)(dC:∀c∈cs,bO c)(N:Nat)(la:Option Addr)(lc:Nat)(w:World)(hN:N<=w.heap.size)(aJ:ai cG 73 N w la cs)(hC:∀c∈cs,du N w c)(ia:Option Addr)(ic:Nat)(ta:Option Addr)(tc:Nat)(hp:ph Z cs N w ⟨ia,ic,ta,tc⟩)(fo:Fo)(hg:Glb w):Calls prog 62 #[.agg (zb Z cs la lc ⟨ia,ic,ta,tc⟩),.agg (sT fo)] w (cK w (λq:Cd×Bool=>.tuple #[.agg (iS q.1),.bool q.2]) (λq w'=>(q.2=true/\tO Z cs fo=some (kC q.1)/\uV Z cs (g0 fo) q.1/\bS w'.heap.size w' q.1.x/\dA w.heap.size q.1.x)\/(q.2=false/\tO Z cs fo=none))):=by
 have hg4:=hg.lt;have iH:=n9g Z cs cs.length;have mr:((bF Z cs cs.length).map (·.1)).length=(bF Z cs cs.length).length:=eQ ..;have Ix:((bF Z cs cs.length).map (·.2)).length=(bF Z cs cs.length).length:=eQ ..;have Fp:=hp.ids;have Fq:=hp.at_;dsimp only at Fp Fq;obtain⟨k,Ze⟩:∃k,pe ((bF Z cs cs.length).map (·.1)) (dk fo.first)=k:=⟨_,rfl⟩;refine eN func62 ntmps62 ?_;refine B 2 ?_;refine yX ?_;intro b2 w2 di bV ff dB dx;refine yX ?_;intro b3 w3 cZ cu fC ez eP;refine B 1 ?_;refine yW ?_;intro b4 ji jj;refine B 6 ?_;refine ay (.slice ia ((bF Z cs cs.length).map (·.1)).length ic) ?_;refine B 1 ?_;refine ay (.agg (dg fo.first)) ?_;refine call call107 rfl rfl rfl (λW hS=>by rw[<-Ze];exact Fe ((bF Z cs cs.length).map (·.1)) aa N ia ic W cM (Fp.up (ak _) hS.sm) fo.first) (v:=ab k) ?_;refine B 5 ?_;rcases nap ((bF Z cs cs.length).map (·.1)) (dk fo.first)with hd1|⟨j,hd1,hd2⟩
 ·have hk:k= -1:=by rw[<-Ze];exact hd1
  refine B 2 ?_;refine UL ?_;refine ay (.agg (iS zCd)) ?_;refine B 6 ?_;refine bK (.inl rfl) results62 aX λW hS=>⟨(zCd,false),rfl,hS.base A2 zD,.inr ⟨rfl,?_⟩⟩;show tO Z cs fo=none;unfold tO N9;rw[hd1,if_pos aa];rfl
 have hk:k=(j:Int):=by rw[<-Ze];exact hd1
 refine xp ?_;refine B 6 ?_;obtain⟨q,hq⟩:=ng (bF Z cs cs.length) j (by have:=nr hd2;omega);obtain⟨i,c,Rn,lB,hc,hqk⟩:=Vc Z cs _ q (cO hq);have IF:((bF Z cs cs.length).map (·.2))[j]? =some ((i:Nat):Int):=by rw[sC,hq,JP,Rn]
 have Cn:=nr IF;have CG:=cO hc;obtain⟨e,he⟩:∃e,jC Z (g0 fo) c=e:=⟨_,rfl⟩;subst hk;obtain⟨ba,oa,csa,ta,fra,rfl,hba,Fs,K5⟩:=Fq.get aa;obtain⟨bl,ol,csl,tl,frl,rfl,jl,wz,ql⟩:=aJ.get aa;have hk:pe ((bF Z cs cs.length).map (·.1)) (dk fo.first)=(j:Int):=hd1;refine CJ.less (E':=[(0,_),(1,_),(2,_),(3,_),(4,_),(5,_),(6,_),(9,_),(10,_),(11,_),(12,_),(13,_),(14,_),(15,_)]) zR ?_;refine dN 18 [12,13,14,16,17] [[],[0],[0,1],[],[0,1,2,3]] (λcv L' H'=>let dY:ad:=[(b4,oC (iS zCd) 159)];match cv with| [none,none,none,none,none]=>L'=[w3,w2,w]/\H'=dY| [none,none,none,some wB,none]=>∃(b7:Nat),wB=ptr b7 0/\L'=[w3,w2,w]/\H'=(b7,oC (bD gI) 53)::dY/\w3.heap.size<=b7| [some v12,none,none,none,none]=>∃(Xn:Gv) (eT:World),v12= .tuple #[.agg (bD Xn),ab e]/\L'=[eT,w3,w2,w]/\H'=dY/\Xn.g=xA Z (g0 fo) c/\bS eT.heap.size eT Xn/\uW b4 Xn/\dA w.heap.size Xn| [some v12,none,none,some wB,none]=>∃(Xn:Gv) (eT:World) (b7:Nat),v12= .tuple #[.agg (bD Xn),ab e]/\wB=ptr b7 0/\L'=[eT,w3,w2,w]/\H'=(b7,oC (bD gI) 53)::dY/\Xn.g=xA Z (g0 fo) c/\bS eT.heap.size eT Xn/\uW b4 Xn/\dA w.heap.size Xn/\w3.heap.size<=b7/\uW b7 Xn| [some v12,some wC,none,none,none]=>∃(Xn:Gv) (eT:World),v12= .tuple #[.agg (bD Xn),ab e]/\wC= .tuple #[.agg (bD Xn),ab e]/\L'=[eT,w3,w2,w]/\H'=dY/\Xn.g=xA Z (g0 fo) c/\bS eT.heap.size eT Xn/\uW b4 Xn/\dA w.heap.size Xn| [some v12,some wC,none,some wB,none]=>∃(Xn:Gv) (eT:World) (b7:Nat),v12= .tuple #[.agg (bD Xn),ab e]/\wC= .tuple #[.agg (bD Xn),ab e]/\wB=ptr b7 0/\L'=[eT,w3,w2,w]/\H'=(b7,oC (bD gI) 53)::dY/\Xn.g=xA Z (g0 fo) c/\bS eT.heap.size eT Xn/\uW b4 Xn/\dA w.heap.size Xn/\w3.heap.size<=b7/\uW b7 Xn| [some v12,some wC,some BY,none,none]=>∃(Xn:Gv) (eT:World),v12= .tuple #[.agg (bD Xn),ab e]/\wC= .tuple #[.agg (bD Xn),ab e]/\BY= .agg (bD Xn)/\L'=[eT,w3,w2,w]/\H'=dY/\Xn.g=xA Z (g0 fo) c/\bS eT.heap.size eT Xn/\uW b4 Xn/\dA w.heap.size Xn| [some v12,some wC,some BY,some wB,none]=>∃(Xn:Gv) (eT:World) (b7:Nat),v12= .tuple #[.agg (bD Xn),ab e]/\wC= .tuple #[.agg (bD Xn),ab e]/\BY= .agg (bD Xn)/\wB=ptr b7 0/\L'=[eT,w3,w2,w]/\H'=(b7,oC (bD gI) 53)::dY/\Xn.g=xA Z (g0 fo) c/\bS eT.heap.size eT Xn/\uW b4 Xn/\dA w.heap.size Xn/\w3.heap.size<=b7/\uW b7 Xn| [some v12,some wC,some BY,some wB,some v17]=>∃(Xn:Gv) (eT:World) (b7:Nat),v12= .tuple #[.agg (bD Xn),ab e]/\wC= .tuple #[.agg (bD Xn),ab e]/\BY= .agg (bD Xn)/\wB=ptr b7 0/\v17= .tuple #[]/\L'=[eT,w3,w2,w]/\H'=(b7,oC (bD Xn) 53)::dY/\Xn.g=xA Z (g0 fo) c/\bS eT.heap.size eT Xn/\uW b4 Xn/\dA w.heap.size Xn/\w3.heap.size<=b7/\uW b7 Xn|_=>False) ⟨rfl,rfl⟩ (xC 1 (k:=by exact sf Zg (xC 2 (k:=by exact sf Zg (xC 1 (k:=by exact sf Zg (xC 2 (k:=by exact sf Zg (xC 1 (k:=by exact sf Zg (xC 3 (k:=by exact sf (λcv L' H' hl hd hP=>by obtain⟨qE,sh,tP,xF,xG,rfl⟩:=sQ hl;(rcases qE with _|v12<;>rcases sh with _|wC<;>rcases tP with _|BY<;>rcases xF with _|wB<;>rcases xG with _|v17<;>try exact False.elim hP);exact(absurd (show false=true from hd) zA);exact(absurd (show false=true from hd) zA);exact(absurd (show false=true from hd) zA);exact(absurd (show false=true from hd) zA);(obtain⟨Xn,eT,rfl,rfl,rfl,rfl,fT,jD,lD,lE⟩:=hP;exact X.v (jm rfl rfl));(obtain⟨Xn,eT,b7,rfl,rfl,rfl,rfl,rfl,fT,jD,lD,lE,jN,si⟩:=hP;exact X.v (jm rfl rfl));(obtain⟨Xn,eT,rfl,rfl,rfl,rfl,rfl,fT,jD,lD,lE⟩:=hP;exact X.v (jm rfl rfl));(obtain⟨Xn,eT,b7,rfl,rfl,rfl,rfl,rfl,rfl,fT,jD,lD,lE,jN,si⟩:=hP;exact X.v (jm rfl rfl));(obtain⟨Xn,eT,b7,rfl,rfl,rfl,rfl,rfl,rfl,rfl,fT,jD,lD,lE,jN,si⟩:=hP;exact X.v (jm rfl rfl))) Ve)))))))))))) (sp:=[_,some (ab fo.id),some (.agg (bD (Zd fo))),_,some (.slice (some ⟨bl,ol,none⟩) cs.length lc),_,some (.slice (some ⟨ba,oa,none⟩) ((bF Z cs cs.length).map (·.2)).length tc),_,_,some (ab (i:Int)),_,some (.agg (cG c)),_,_,_,some (ab e),_,_]) ?_ ?_
 ·refine nc rfl rfl ?_ ?_
  ·intro cv L' H' hl hr hP F Q' hk;obtain⟨qE,sh,tP,xF,xG,rfl⟩:=sQ hl;rcases qE with _|v12<;>rcases sh with _|wC<;>rcases tP with _|BY<;>rcases xF with _|wB<;>rcases xG with _|v17<;>try exact False.elim hP
   ·obtain⟨rfl,rfl⟩:=hP;refine zkd ?_;rintro W9 Xn eT cj xw ⟨fT,jD,IH⟩;try dsimp only at fT jD IH
    have Ft:=cj.lt (b4,_) A0;try dsimp only at Ft
    have Fu:=(cj.links w A2).size;have lD:=dA.off IH Ft;have lE:dA w.heap.size Xn:=⟨λq e=>.inr (dR Fu (IH.1 q e)),λq e=>.inr (dR Fu (IH.2 q e))⟩;exact OJ.done (hk _ _ _ ⟨Xn,eT,rfl,rfl,rfl,fT,jD,lD,lE⟩)
   ·obtain⟨b7,rfl,rfl,rfl,jN⟩:=hP;refine zkd ?_;rintro W9 Xn eT cj xw ⟨fT,jD,IH⟩;try dsimp only at fT jD IH
    have Ft:=cj.lt (b4,_) A1;try dsimp only at Ft
    have Zh:=cj.lt (b7,_) A0;try dsimp only at Zh
    have Fu:=(cj.links w A2).size;have lD:=dA.off IH Ft;have lE:dA w.heap.size Xn:=⟨λq e=>.inr (dR Fu (IH.1 q e)),λq e=>.inr (dR Fu (IH.2 q e))⟩;have si:=dA.off IH Zh;exact OJ.done (hk _ _ _ ⟨Xn,eT,b7,rfl,rfl,rfl,rfl,fT,jD,lD,lE,jN,si⟩)
   ·exact cA
   ·exact cA
   ·exact cA
   ·exact cA
   ·exact cA
   ·exact cA
   exact cA
  refine nc rfl rfl ?_ ?_
  ·intro cv L' H' hl hr hP F Q' hk;obtain⟨qE,sh,tP,xF,xG,rfl⟩:=sQ hl;rcases qE with _|v12<;>rcases sh with _|wC<;>rcases tP with _|BY<;>rcases xF with _|wB<;>rcases xG with _|v17<;>try exact False.elim hP
   ·exact cA
   ·exact cA
   ·obtain⟨Xn,eT,rfl,rfl,rfl,fT,jD,lD,lE⟩:=hP;refine B 1 ?_;exact OJ.done (hk _ _ _ ⟨Xn,eT,rfl,rfl,rfl,rfl,fT,jD,lD,lE⟩)
   ·obtain⟨Xn,eT,b7,rfl,rfl,rfl,rfl,fT,jD,lD,lE,jN,si⟩:=hP;refine B 1 ?_;exact OJ.done (hk _ _ _ ⟨Xn,eT,b7,rfl,rfl,rfl,rfl,rfl,fT,jD,lD,lE,jN,si⟩)
   ·exact cA
   ·exact cA
   ·exact cA
   ·exact cA
   exact cA
  refine nc rfl rfl ?_ ?_
  ·intro cv L' H' hl hr hP F Q' hk;obtain⟨qE,sh,tP,xF,xG,rfl⟩:=sQ hl;rcases qE with _|v12<;>rcases sh with _|wC<;>rcases tP with _|BY<;>rcases xF with _|wB<;>rcases xG with _|v17<;>try exact False.elim hP
   ·exact cA
   ·exact cA
   ·exact cA
   ·exact cA
   ·obtain⟨Xn,eT,rfl,rfl,rfl,rfl,fT,jD,lD,lE⟩:=hP;refine B 1 ?_;exact OJ.done (hk _ _ _ ⟨Xn,eT,rfl,rfl,rfl,rfl,rfl,fT,jD,lD,lE⟩)
   ·obtain⟨Xn,eT,b7,rfl,rfl,rfl,rfl,rfl,fT,jD,lD,lE,jN,si⟩:=hP;refine B 1 ?_;exact OJ.done (hk _ _ _ ⟨Xn,eT,b7,rfl,rfl,rfl,rfl,rfl,rfl,fT,jD,lD,lE,jN,si⟩)
   ·exact cA
   ·exact cA
   exact cA
  refine nc rfl rfl ?_ ?_
  ·intro cv L' H' hl hr hP F Q' hk;obtain⟨qE,sh,tP,xF,xG,rfl⟩:=sQ hl;rcases qE with _|v12<;>rcases sh with _|wC<;>rcases tP with _|BY<;>rcases xF with _|wB<;>rcases xG with _|v17<;>try exact False.elim hP
   ·obtain⟨rfl,rfl⟩:=hP;refine B 1 ?_;intro b7 ha ho;exact OJ.done (hk _ _ _ ⟨b7,rfl,rfl,rfl,(ha.mem w3 zI)⟩)
   ·exact cA
   ·obtain⟨Xn,eT,rfl,rfl,rfl,fT,jD,lD,lE⟩:=hP;refine B 1 ?_;intro b7 ha ho;have si:uW b7 Xn:=jD.off (by have:=ha.not (w:=eT) A0;omega);exact OJ.done (hk _ _ _ ⟨Xn,eT,b7,rfl,rfl,rfl,rfl,fT,jD,lD,lE,(ha.mem w3 zI),si⟩)
   ·exact cA
   ·obtain⟨Xn,eT,rfl,rfl,rfl,rfl,fT,jD,lD,lE⟩:=hP;refine B 1 ?_;intro b7 ha ho;have si:uW b7 Xn:=jD.off (by have:=ha.not (w:=eT) A0;omega);exact OJ.done (hk _ _ _ ⟨Xn,eT,b7,rfl,rfl,rfl,rfl,rfl,fT,jD,lD,lE,(ha.mem w3 zI),si⟩)
   ·exact cA
   ·obtain⟨Xn,eT,rfl,rfl,rfl,rfl,rfl,fT,jD,lD,lE⟩:=hP;refine B 1 ?_;intro b7 ha ho;have si:uW b7 Xn:=jD.off (by have:=ha.not (w:=eT) A0;omega);exact OJ.done (hk _ _ _ ⟨Xn,eT,b7,rfl,rfl,rfl,rfl,rfl,rfl,fT,jD,lD,lE,(ha.mem w3 zI),si⟩)
   ·exact cA
   exact cA
  refine nc rfl rfl ?_ ?_
  ·intro cv L' H' hl hr hP F Q' hk;obtain⟨qE,sh,tP,xF,xG,rfl⟩:=sQ hl;rcases qE with _|v12<;>rcases sh with _|wC<;>rcases tP with _|BY<;>rcases xF with _|wB<;>rcases xG with _|v17<;>try exact False.elim hP
   ·exact cA
   ·exact cA
   ·exact cA
   ·exact cA
   ·exact cA
   ·exact cA
   ·exact cA
   ·obtain⟨Xn,eT,b7,rfl,rfl,rfl,rfl,rfl,rfl,fT,jD,lD,lE,jN,si⟩:=hP;refine B 1 ?_;exact OJ.done (hk (.tuple #[]) _ _ ⟨Xn,eT,b7,rfl,rfl,rfl,rfl,rfl,rfl,rfl,fT,jD,lD,lE,jN,si⟩)
   exact cA
  exact nn
 intro cv L' H' hl hr hP;obtain⟨qE,sh,tP,xF,xG,rfl⟩:=sQ hl;rcases qE with _|v12<;>rcases sh with _|wC<;>rcases tP with _|BY<;>rcases xF with _|wB<;>rcases xG with _|v17
 ·exact cA
 ·exact cA
 ·exact cA
 ·exact cA
 ·exact cA
 ·exact cA
 ·exact cA
 ·exact cA
 ·exact cA
 ·exact cA
 ·exact cA
 ·exact cA
 ·exact cA
 ·exact cA
 ·exact cA
 ·exact cA
 ·exact cA
 ·exact cA
 ·exact cA
 ·exact cA
 ·exact cA
 ·exact cA
 ·exact cA
 ·exact cA
 ·exact cA
 ·exact cA
 ·exact cA
 ·exact cA
 ·exact cA
 ·exact cA
 ·exact cA
 obtain⟨Xn,eT,b7,rfl,rfl,rfl,rfl,rfl,rfl,rfl,fT,jD,lD,lE,jN,si⟩:=hP;refine B 4 ?_;refine CJ.less (E':=[(0,_),(1,_),(2,_),(3,_),(4,_),(5,_),(6,_),(7,_),(8,_),(9,_),(10,_),(11,_),(12,_),(13,_),(14,_),(15,_),(17,_),(18,_),(19,_),(20,_),(21,_),(22,_),(23,_),(24,_),(25,_),(26,_),(27,_),(28,_),(29,_),(30,_),(31,_),(32,_)]) zR ?_;refine CJ.chn 21 [20] [_,some (.slice (some ⟨ba,oa,none⟩) ((bF Z cs cs.length).map (·.2)).length tc),_,_,some (ab (i:Int)),_,some (.slice (some ⟨bl,ol,none⟩) cs.length lc),_,some (.slice (some ⟨ba,oa,none⟩) ((bF Z cs cs.length).map (·.2)).length tc),_,_,some (ab (i:Int)),_,some (.agg (cG c)),_,some (.agg (dg fo.first)),some (.agg (bD Xn)),some (.agg (iS (⟨(i:Int),c,fo.first,0,Xn⟩:Cd))),_,_,none] (λcv L' H'=>match cv with| []=>L'=[eT,w3,w2,w]/\H'=[(b7,oC (bD Xn) 53),(b4,oC (iS zCd) 159)]| [v1]=>v1= .tuple #[]/\L'=[eT,w3,w2,w]/\H'=[(b7,oC (bD Xn) 53),(b4,oC (iS (⟨(i:Int),c,fo.first,0,Xn⟩:Cd)) 159)]|_=>False) (pc (by exact λcv L' H' hd hP=>X.v (bP underlying156 rfl sizeOf55 rfl)) (pc II (pc zM (pc zQb (pc II (pc (by exact λcv L' H' hd hP=>X.v (bP underlying156 rfl sizeOf24 rfl)) (pc II (pc (by exact λcv L' H' hd hP=>X.v (bP underlying156 rfl sizeOf55 rfl)) (pc II (pc zM (pc zQb (pc II (pc (by exact λcv L' H' hd hP=>X.v (dc underlying24 sizeOf61 rfl rfl aa aa)) (pc II (pc (by exact λcv L' H' hd hP=>X.v (bP underlying97 rfl sizeOf33 rfl)) (pc II (pc II (pc (by exact λcv L' H' hd hP=>X.v (zg underlying159 zeroValue159 (sU.c sizeOf3 (sU.c sizeOf61 (sU.c sizeOf33 (sU.c sizeOf3 (sU.c sizeOf53 (sU.n)))))) rfl rfl)) (pc zM (pc (by exact λcv L' H' hd hP=>X.v (iV rfl rfl)) (pk (pn)))))))))))))))))))))) ?_ ?_
 ·exact zJg
 intro cv L' H' hl hP;obtain⟨v1,rfl⟩:=iZ hl;obtain⟨rfl,rfl,rfl⟩:=hP;refine B 4 ?_;have uJ:N9 Z cs fo=some i:=by unfold N9;rw[hk,if_neg aa,yz,hq,JP,Rn,yz]
 have hcN:lQ cs i=c:=by unfold lQ;rw[hc];rfl
 refine bK (.inl rfl) results62 aX λW hS=>⟨((⟨(i:Int),c,fo.first,0,Xn⟩:Cd),decide (e=0)),rfl,hS.base A3 zD,?_⟩;by_cases Vh:e=0
 ·refine .inl ⟨decide_eq_true Vh,by unfold tO;rw[uJ,Option.bind_some,hcN,he,if_pos Vh];rfl,⟨Int.natCast_nonneg _,hc,fT.trans (if_pos (by rw[he];exact Vh)),by rw[<-Vh];exact he⟩,jD.toO hS A0 (ak _) (λp hp=>?_),lE⟩;simp only[dm,dX,bX,dE,or_false]at hp;rcases hp with rfl|rfl
  ·exact si
  exact lD
 exact .inr ⟨decide_eq_false Vh,by unfold tO;rw[uJ,Option.bind_some,hcN,he,if_neg Vh]⟩
def IJ (cs:List Cm) (e:Int):Nat:=(cs.filter λc=>decide (e<c.epoch)).length
theorem Rr(cs:List Cm)(e:Int):IJ cs e<=cs.length:=Q3 _ _
theorem ngl(e:Int):∀cs:List Cm,IJ cs (e+1)<=IJ cs e
 | []=>ak _
 |c::cs=>by
  have ih:=ngl e cs;unfold IJ at ih ⊢;by_cases h1:e+1<c.epoch
  ·rw[Rs CD,Rs oN];simp only[dF];omega
  rw[Zi CD];by_cases h2:e<c.epoch
  ·rw[Rs Kq];simp only[dF];omega
  rw[Zi Kq];exact ih
theorem nzm{e:Int}{c:Cm}(he:c.epoch=e+1):∀{cs:List Cm},c∈cs->IJ cs (e+1)<IJ cs e
 | [],h=>by cases h
 |b::cs,h=>by
  rcases bX.1 h with rfl|h
  ·have ih:=ngl e cs;unfold IJ at ih ⊢;rw[Zi oN,Rs oN];simp only[dF];omega
  have ih:=nzm he h;unfold IJ at ih ⊢;by_cases h1:e+1<b.epoch
  ·rw[Rs CD,Rs oN];simp only[dF];omega
  rw[Zi CD];by_cases h2:e<b.epoch
  ·rw[Rs Kq];simp only[dF];omega
  rw[Zi Kq];exact ih
theorem Fv{c:Cm}(h:c∈cs):1+IJ cs c.epoch<=cs.length:=by
 have h1:=nzm (e:=c.epoch-1) (c:=c) aa h;rw[show c.epoch-1+1=c.epoch by omega]at h1;have:=Rr cs (c.epoch-1);omega
theorem n7e{c:Cm}(h:jC Z g c=0):c.epoch=g.epoch+1:=by grind [jC,kR]
def ChG (Z:Fx) (cs:List Cm):Gp->List (Nat×Gp)->Prop
 |g,[]=>wnI Z cs g=none
 |g,p::l=>wnI Z cs g=some p.1/\p.2=lj Z g (lQ cs p.1)/\ChG Z cs p.2 l
def ChF (Z:Fx) (cs:List Cm) (fo:Fo):List (Nat×Gp)->Prop
 | []=>tO Z cs fo=none
 |p::l=>tO Z cs fo=some p.1/\p.2=lj Z (g0 fo) (lQ cs p.1)/\ChG Z cs p.2 l
def sj (d:Cd):Nat×Gp:=(kC d,d.x.g)
def wD (Y:aE) (x:Gv):Prop:=(∀q,x.ma=some q->x.g.ms=[]\/¬Y q.block)/\(∀q,x.na=some q->x.g.ns=[]\/¬Y q.block)
theorem dA.out{Y:aE}(h:dA K x)(hy:∀k,Y k->k<K):wD Y x:=⟨λq e=>(h.1 q e).imp id (λh h2=>by have:=hy _ h2;omega),λq e=>(h.2 q e).imp id (λh h2=>by have:=hy _ h2;omega)⟩
theorem dA.offb(h:dA K x)(hb:b<K):uW b x:=⟨λq e=>(h.1 q e).imp id (λh=>by omega),λq e=>(h.2 q e).imp id (λh=>by omega)⟩
theorem wD.up{Y Y':aE}(h:wD Y x)(ha:bS N w x)(hy:∀k,Y' k->Y k\/N<=k):wD Y' x:=
 ⟨λq e=>by
  rcases h.1 q e with h1|h1
  ·exact .inl h1
  rcases ha.ms.ltq q e with h2|h2
  ·exact .inl h2
  exact .inr (λh3=>(hy _ h3).elim h1 (λh4=>by omega)),
  λq e=>by
   rcases h.2 q e with h1|h1
   ·exact .inl h1
   rcases ha.ns.ltq q e with h2|h2
   ·exact .inl h2
   exact .inr (λh3=>(hy _ h3).elim h1 (λh4=>by omega))⟩
structure Rt (Z:Fx) (cs:List Cm) (fo:Fo) (M:aE) (pre:List Cd) (d:Cd) (V:aE) (wk:World) (b4:Nat):Prop where
 next:∀l,ChG Z cs d.x.g l->ChF Z cs fo (pre.map sj++sj d::l)
 lies:bS wk.heap.size wk d.x
 out:wD (λk=>M k\/V k) d.x
 off:uW b4 d.x
 mu:pre.length+1+IJ cs d.x.g.epoch<=cs.length
theorem uV.nx(h:uV Z cs g d):d.x.g=lj Z g (lQ cs (kC d)):=by rw[h.x];unfold lQ;rw[h.at_];rfl
variable {fo:Fo}
theorem Rt.first{M:aE}{w9:World}{b4:Nat}(h:tO Z cs fo=some (kC d))(hd:uV Z cs (g0 fo) d)(ha:bS w9.heap.size w9 d.x)(hn:dA K d.x)(hM:∀k,M k->k<K)(hb:w9.heap.size<=b4):Rt Z cs fo M [] d (λ_=>False) w9 b4 where
 next:=λl hl=>⟨h,hd.nx,hl⟩
 lies:=ha
 out:=hn.out (λk hk=>hk.elim (hM k) (λh=>h.elim))
 off:=ha.off hb
 mu:=by
  have h1:=Fv (cO hd.at_);rw[hd.x];simp only[fh,lj];omega
theorem Rt.step{M V V2:aE}{pre:List Cd}{d2:Cd}{wk w9:World}{b4 b5:Nat}(hc:Rt Z cs fo M pre d V wk b4)(h:wnI Z cs d.x.g=some (kC d2))(hd:uV Z cs d.x.g d2)(ha:bS w9.heap.size w9 d2.x)(hn:dA K d2.x)(hM:∀k,M k->k<K)(hV:∀k,V2 k->k<K)(hb:b5<K):Rt Z cs fo M (pre++[d]) d2 V2 w9 b5 where
 next:=λl hl=>by
  have h1:=hc.next (sj d2::l) ⟨h,hd.nx,hl⟩;rw[gz,iY];exact h1
 lies:=ha
 out:=hn.out (λk hk=>hk.elim (hM k) (hV k))
 off:=hn.offb hb
 mu:=by
  have h1:=hc.mu;have h2:=n7e hd.ok;have h3:=nzm h2 (cO hd.at_);rw[hd.x];simp only[cy,dF,fh,lj,h2];omega
theorem Rt.stop{M V:aE}{pre:List Cd}{wk:World}{b4:Nat}(hc:Rt Z cs fo M pre d V wk b4)(h:wnI Z cs d.x.g=none):ChF Z cs fo ((pre++[d]).map sj):=by
 rw[gz];exact hc.next [] h
def Zj (NQ NR NX:Nat):aE:=λk=>k<NX/\(k<NQ\/NR<=k)
structure PlB (Z:Fx) (cs:List Cm) (la ia ta:Option Addr) (ic tc NQ NR NX:Nat) (W:World):Prop where
 q:NQ<=NX
 x:NX<=W.heap.size
 n3:6<=NQ
 sl:ai cG 73 NQ W la cs
 C:∀c∈cs,du NQ W c
 p:ph Z cs NX W ⟨ia,ic,ta,tc⟩
 pi:∀q,ia=some q->NR<=q.block
 pt:∀q,ta=some q->NR<=q.block
 g:Glb W
theorem PlB.same{la ia ta:Option Addr}{ic tc NQ NR NX:Nat}{W':World}{M V:aE}{I:World->Prop}{hM:∀k,M k->k<W.heap.size/\¬(λ_=>False) k/\¬Zj NQ NR NX k}{hI:fp (λk=>(k<W.heap.size/\¬(λ_=>False) k)\/V k) I}{H:ad}(h:PlB Z cs la ia ta ic tc NQ NR NX W)(hS:St (dt hM V hI) L H W')(hw:W∈L)(hV:∀k,V k->W.heap.size<=k)(ho:Over W.heap.size H):∀k,Zj NQ NR NX k->W'.heap[k]? =W.heap[k]? :=λk hk=>by
 have hx:=h.x;have Jd:=hk.1
 refine(hS.links W hw).block k aa ?_;rintro((h1|h1)|h1)
 ·exact(hM k h1).2.2 hk
 ·have:=hV k h1;omega
 obtain⟨p,hp,rfl⟩:=bW.1 h1;have:=ho.mem p hp;omega
theorem CJ.resnap{C:Cx}{c:Code}{Q:aY}{E:Env}{D:List Deferred}{G:Gh}{L':List World}{H:ad}{o:Obj}(hi:H[i]? =some (b,o))(hb:ae L' b)(hs:∀w∈L',w∈L)(k:∀W,St G L H W->CJ C c Q E D G (W::L') (H.eraseIdx i)):CJ C c Q E D G L H:=
 λa W hN hD hF hS=>k W hS a W hN hD hF ((hS.lessL hs).dropAt hi hb).snap

def sV (c:Cm):Bool:=c.bxs.all (λx=>decide (x.w.body.length<=200))&&c.wes.all (λx=>decide (x.w.body.length<=200))&&decide (c.chs.length<=10)&&decide (c.path.length<=12)&&decide (c.bxs.length<=40)&&decide (c.wes.length<=10)
theorem n5f{α:Type}{f:α->Bool}{xs:List α}{x:α}(h:(xs.take j).all f=true)(hx:xs[j]? =some x)(hf:f x=true):(xs.take (j+1)).all f=true:=by rw[nq hx,List.all_append,h];simp[hf]
theorem n0g{α:Type}{f:α->Bool}{xs:List α}(h:(xs.take j).all f=true)(hj:¬j<xs.length):xs.all f=true:=by rw[jZ aa]at h;exact h
theorem nhb{α:Type}{f:α->Bool}{xs:List α}{x:α}(hx:xs[j]? =some x)(hf:f x=false):xs.all f=false:=by grind
theorem nrj(l:List Ch)(a:Option Addr)(c:Nat)(w:World):Calls prog 91 #[.slice a l.length c] w (aL w (.bool (decide (l.length<=10)))):=by
 refine eN func91 ntmps91 ?_;refine B 14 ?_;refine aF results91 rfl A0 ?_;exact vb (by rw[Dc];simp;omega)
theorem K6(c:Cm)(N:Nat)(w:World)(hN:N<=w.heap.size)(hC:du N w c)(jl:c.bxs.length<=9223372036854775807)(hwl:c.wes.length<=9223372036854775807):Calls prog 46 #[.agg (cG c)] w (aL w (.bool (sV c))):=by
 refine eN func46 ntmps46 ?_;refine B 2 ?_;refine yX ?_;intro b1 w1 hb1 cF gK gj jy;refine B 10 ?_;refine CJ.lp (α:=Nat) [1] (λj=>[(3,ab (j:Int))]) (λj=>[]) (λj=>j<=c.bxs.length/\(c.bxs.take j).all (λx:Bx=>decide (x.w.body.length<=200))=true) (λj=>c.bxs.length-j) 0 ⟨cR _,rfl⟩ ?_;rintro j ⟨hj,xE⟩;refine B 10 ?_;refine aG ?_ ?_
 ·intro ar;refine B 5 ?_;obtain⟨b0,o0,cs0,t0,fV,im,hb0,cJ,aV⟩:=hC.bxs.get aa;obtain⟨y,hy⟩:=ng c.bxs j aa;refine B 2 ?_;refine rq (.slice (some ⟨b0,o0,none⟩) c.bxs.length c.bc) (av isAgg56 rfl A0 hb1 cF trivial rfl) (congrArg (λq=>Value.slice q c.bxs.length c.bc) im) ?_;refine B 4 ?_;refine rv rfl rfl rfl (av (v:=.slice y.w.ba y.w.body.length y.w.bc) isAgg106 rfl A1 cJ zJ trivial (by have:=xv aV hy rfl 3 zA;simpa[yQ]using this)) ?_;refine B 4 ?_;refine aG ?_ ?_
  ·intro aN;refine B 11 ?_;exact Vi
  intro aN;refine B 8 ?_;refine ag (j+1) ⟨by omega,n5f xE hy (decide_eq_true aa)⟩
 intro ar;refine B 7 ?_;have tN:=n0g xE aa;refine B 5 ?_;refine CJ.lp (α:=Nat) [1] (λj=>[(4,ab (j:Int))]) (λj=>[]) (λj=>j<=c.wes.length/\(c.wes.take j).all (λx:We=>decide (x.w.body.length<=200))=true) (λj=>c.wes.length-j) 0 ⟨cR _,rfl⟩ ?_;rintro j ⟨hj,hwx⟩;refine B 10 ?_;refine aG ?_ ?_
 ·intro dp;refine B 5 ?_;obtain⟨b0,o0,cs0,t0,fV,im,hb0,cJ,aV⟩:=hC.wes.get aa;obtain⟨y,hy⟩:=ng c.wes j aa;refine B 2 ?_;refine rq (.slice (some ⟨b0,o0,none⟩) c.wes.length c.wc) (av isAgg57 rfl A0 hb1 cF trivial rfl) (congrArg (λq=>Value.slice q c.wes.length c.wc) im) ?_;refine B 4 ?_;refine rv rfl rfl rfl (av (v:=.slice y.w.ba y.w.body.length y.w.bc) isAgg106 rfl A1 cJ zJ trivial (by have:=xv aV hy rfl 2 zA;simpa[v7]using this)) ?_;refine B 4 ?_;refine aG ?_ ?_
  ·intro jh;refine B 11 ?_;exact Vi
  intro jh;refine B 8 ?_;refine ag (j+1) ⟨by omega,n5f hwx hy (decide_eq_true aa)⟩
 intro dp;refine B 6 ?_;have haw:=n0g hwx aa;refine B 3 ?_;refine call call91 rfl rfl rfl (λW hS=>nrj c.chs c.ca c.cc W) ?_;refine B 1 ?_;refine ni (t:=40) rfl (λiC=>?_) (λiC=>?_)
 ·replace iC:=ya iC;refine B 6 ?_;refine ni (t:=46) rfl (λlS=>?_) (λlS=>?_)
  ·replace lS:=ya lS;refine B 6 ?_;refine ni (t:=52) rfl (λkz=>?_) (λkz=>?_)
   ·replace kz:=ya kz;refine B 9 ?_;exact Vi
   replace kz:=ya kz;refine B 9 ?_;exact Vi
  replace lS:=ya lS;refine B 15 ?_;exact Vi
 replace iC:=ya iC;refine B 21 ?_;exact Vi
structure Od where
 f:Nat->Int
 u:Int
 ba:Option Addr
 bn:Nat
 bc:Nat
structure Gn where
 folder:Int
 by_:Int
 device:Int
 pub:Int
 f:Nat->Int
 oa:Option Addr
 olds:List Od
 oc:Nat
 sr:Int
 ss:Int
structure Ih where
 f:Nat->Int
 g:Nat->Int
 by_:Int
 ba:Option Addr
 bn:Nat
 bc:Nat
 sr:Int
 ss:Int
def BZ (cs:List Cm):Bool:=decide (cs.length<=7)&&cs.all sV
structure Fw (c:Cm):Prop where
 b:c.bxs.length<=9223372036854775807
 w:c.wes.length<=9223372036854775807
theorem K7(cs:List Cm)(hlm:∀c∈cs,Fw c)(N:Nat)(la:Option Addr)(lc:Nat)(w:World)(hN:N<=w.heap.size)(aJ:ai cG 73 N w la cs)(hC:∀c∈cs,du N w c):Calls prog 25 #[.slice la cs.length lc] w (aL w (.bool (BZ cs))):=by
 refine eN func25 ntmps25 ?_;refine B 13 ?_;refine aG ?_ ?_
 ·intro ar;refine B 7 ?_;exact zCg
 intro ar;refine B 9 ?_;refine CJ.lp (α:=Nat) [0] (λj=>[(3,ab (j:Int))]) (λj=>[]) (λj=>j<=cs.length/\(cs.take j).all sV=true) (λj=>cs.length-j) 0 ⟨cR _,rfl⟩ ?_;rintro j ⟨hj,vt⟩;refine B 9 ?_;refine aG ?_ ?_
 ·intro aN;refine B 5 ?_;obtain⟨bl,ol,csl,tl,frl,rfl,jl,wz,ql⟩:=aJ.get aa;obtain⟨c,hc⟩:=ng cs j aa;have CG:=cO hc;refine B 4 ?_;refine ay (.agg (cG c)) ?_;refine call call46 rfl rfl rfl (λW hS=>K6 c N W cM ((hC c CG).up (ak _) hS.sm) (hlm c CG).b (hlm c CG).w) ?_;refine B 3 ?_;refine aG ?_ ?_
  ·intro dp;refine B 11 ?_;exact zCg
  intro dp;refine B 8 ?_;refine ag (j+1) ⟨by omega,n5f vt hc (by simpa using ‹_›)⟩
 intro aN;refine B 6 ?_;have ck:=n0g vt aa;refine B 5 ?_;exact zCg

def Ru:List TK:=lV 32 [.i]
theorem eqA33:uo prog 2 33 Ru:=uo.array underlying33 sizeOf5 rfl ((lx.int underlying5 isAgg5).up zA:lx prog 1 5 [.i])
theorem Zk:prog.eqGuardType prog.depth 33=false:=by kernel_rfl
def Zl:List TK:=[.i]++([.i]++(Ru++([.i]++([]))))
theorem Vj:uo prog 3 35 Zl:=uo.struct underlying35 zN (pj.c rfl zA ((lx.int underlying3 isAgg3).up zA:lx prog 2 3 [.i]) (pj.c rfl zA ((lx.int underlying3 isAgg3).up zA:lx prog 2 3 [.i]) (pj.c rfl zA ((lx.agg isAgg33 sizeOf33 rfl eqA33).up zA:lx prog 2 33 Ru) (pj.c rfl zA ((lx.int underlying3 isAgg3).up zA:lx prog 2 3 [.i]) (pj.n)))))
theorem Zm:prog.eqGuardType prog.depth 35=false:=by kernel_rfl
def fX (x:Dk) (i:Nat):Int:=x.1.getD i 0
theorem K8(x:Dk):dk (fX x)=x:=by
 obtain⟨l,h⟩:=x
 match l,h with
 | [x0,x1,x2,x3,x4,x5,x6,x7,x8,x9,CI,Fy,qE,sh,tP,x15,xF,xG,x18,x19,x20,x21,x22,x23,x24,x25,x26,x27,x28,x29,x30,x31],_=>rfl
structure Se where
 kind:Int
 pub:Int
 com:Dk
 lev:Int
instance:DecidableEq Se:=λa b=>decidable_of_iff (a.kind=b.kind/\a.pub=b.pub/\a.com=b.com/\a.lev=b.lev) (by cases a;cases b;simp)
def dh (s:Se):Array Value:=(ab s.kind::ab s.pub::lU (fX s.com) [ab s.lev]).toArray
def dM (s:Se):List Value:=(ab s.kind::ab s.pub::lU (fX s.com) [ab s.lev])
def dq (s:Se):Value:=.agg (dh s)
theorem nDm(s:Se):(dh s).toList=[ab s.kind,ab s.pub]++(s.com.1.map (Value.int .u8)++[ab s.lev]):=by
 obtain⟨k,p,c,l⟩:=s;obtain⟨f,rfl⟩:∃f,dk f=c:=⟨_,K8 c⟩;rfl
theorem nu(s:Se):(dM s).length=35:=rfl
theorem IK(s:Se):∀u∈dM s,u.oneCell'=true:=N1 rfl
theorem Vk(a b:Se):kq Zl (dh a).toList (dh b).toList=true:=rfl
theorem Vl(a b:Se):oy (dh a).toList (dh b).toList=decide (a=b):=by
 rw[nDm,nDm,Zn (show([ab a.kind,ab a.pub]:List Value).length=([ab b.kind,ab b.pub]:List Value).length from rfl),Zn (by simp[a.com.2,b.com.2]),Vb _ _ (by rw[a.com.2,b.com.2])];have e:decide (a=b)=(decide (a.kind=b.kind)&&decide (a.pub=b.pub)&&(decide (a.com.1=b.com.1)&&decide (a.lev=b.lev))):=by
  rw[Dc];cases a;cases b
  simp[Subtype.ext_iff,and_assoc]
 all_goals grind [oy,PT]
theorem K9:wv prog 35 dq where
 und:=⟨_,underlying35,λk v=>by cases v<;>rfl⟩
 chk:=λb s W=>by
  show(Instr.checkKey b (9997+1+1+1) 35 _).run _ _=_;generalize 9997=n;refine Rv (fs:=[_,_,_,_]) underlying35 λf hf=>?_;simp only[bX,dE,or_false]at hf;rcases hf with rfl|rfl|rfl|rfl
  ·exact⟨by decide,_,nzl isAgg3 rfl,n0j underlying3⟩
  ·exact⟨by decide,_,nzl isAgg3 rfl,n0j underlying3⟩
  ·exact⟨by decide,.agg (lU (fX s.com) []).toArray,(Rx isAgg33 sizeOf33).trans (congrArg (λq=>Result.ok (Value.agg q) W) (show cut (dh s) 2 32=_ from rfl)),Fz underlying33 underlying5 sizeOf5 isAgg5 b _ rfl _⟩
  exact⟨by decide,_,nzl isAgg3 rfl,n0j underlying3⟩
 eq:=λa b W=>by
  rw[<-Vl];exact Vj 9997 _ _ W (Vk a b)
 bits:=λs=>by
  show Instr.sameBits (9999+1) (dq s) (dq s)=true;generalize 9999=n;simp only[dq,dh,Instr.sameBits,beq_self_eq_true,Bool.true_and,List.zip_cons_cons,List.all_cons,List.zip_nil_right,List.all_nil,FA,Bool.and_self]
theorem La:prog.info? 35=some Tryz.t35:=by kernel_rfl
theorem Oa:jH prog 38 35 35:=⟨underlying38,Tryz.t35,.agg (ab 0::ab 0::tz [ab 0]).toArray,La,rfl,rfl,rfl,by decide⟩
def aS (p:Int):Se:=⟨1,p,dk λ_=>0,0⟩
def np (d:Dk) (l:Int):Se:=⟨2,0,d,l⟩
def bE (d:Dk):Se:=⟨3,0,d,0⟩
theorem nve(p:Int)(w:World):Calls prog 29 #[ab p] w (aL w (dq (aS p))):=by
 refine eN func29 ntmps29 ?_;refine B 3 ?_;refine yW ?_;intro b2 dB dx;refine B 10 ?_;refine cC (.inl rfl) results29 aX A0 zB ?_;rfl
theorem nqn(p:Int)(w:World):Calls prog 18 #[ab p] w (aL w (dq (aS p))):=by
 refine eN func18 ntmps18 ?_;refine B 3 ?_;refine yW ?_;intro b2 dB dx;refine B 10 ?_;refine cC (.inl rfl) results18 aX A0 zB ?_;rfl
theorem Zo(f:Nat->Int)(l:Int)(w:World):Calls prog 31 #[.agg (dg f),ab l] w (aL w (dq (np (dk f) l))):=by
 refine eN func31 ntmps31 ?_;refine B 2 ?_;refine yX ?_;intro b2 w2 di bV ff dB dx;refine B 1 ?_;refine yW ?_;intro b4 ji jj;refine B 11 ?_;refine cC (.inl rfl) results31 aX A1 zB ?_;rfl
theorem Zp(f:Nat->Int)(w:World):Calls prog 97 #[.agg (dg f)] w (aL w (dq (bE (dk f)))):=by
 refine eN func97 ntmps97 ?_;refine B 2 ?_;refine yX ?_;intro b1 w1 hb1 cF gK gj jy;refine B 1 ?_;refine yW ?_;intro b2 dB dx;refine B 10 ?_;refine cC (.inl rfl) results97 aX A1 zB ?_;rfl
theorem nvk(f:Nat->Int)(w:World):Calls prog 16 #[.agg (dg f)] w (aL w (dq (bE (dk f)))):=by
 refine eN func16 ntmps16 ?_;refine B 2 ?_;refine yX ?_;intro b1 w1 hb1 cF gK gj jy;refine B 1 ?_;refine yW ?_;intro b2 dB dx;refine B 10 ?_;refine cC (.inl rfl) results16 aX A1 zB ?_;rfl
theorem nRh(p:Prop)[Decidable p]:(!decide p)=decide ¬p:=by simp
def FB {α:Type} (xs:List α) (p:α->Bool):Int:=match xs.findIdx? p with|some j=>(j:Int)|none=> -1
theorem Ry{α:Type}{p:α->Bool}{xs:List α}{x:α}(h:gu p xs j)(hx:xs[j]? =some x)(hp:p x=true):FB xs p=(j:Int):=by
 obtain⟨h1,h2⟩:=iv.1 hx;have e:xs.findIdx? p=some j:=aVq.2 ⟨h1,by rw[h2];exact hp,λk hk=>by simp[h k xs[k] hk (kK aa)]⟩;simp[FB,e]
theorem Zq{α:Type}{p:α->Bool}{xs:List α}(h:gu p xs j)(hj:xs.length<=j):FB xs p= -1:=by
 have e:xs.findIdx? p=none:=List.findIdx?_eq_none_iff.2 λx hx=>by
  obtain⟨i,hi⟩:=kA.1 hx;exact h i x (by have:=nr hi;omega) hi
 simp[FB,e]
theorem nCl{α:Type}(p:α->Bool)(xs:List α):(FB xs p= -1/\∀x∈xs,p x=false)\/∃(j:Nat) (x:α),FB xs p=(j:Int)/\xs[j]? =some x/\p x=true/\gu p xs j:=by
 unfold FB;cases h:xs.findIdx? p with
 |none=>exact .inl ⟨rfl,λx hx=>by simpa using List.findIdx?_eq_none_iff.1 h x hx⟩
 |some j=>
  obtain⟨h1,h2,h3⟩:=aVq.1 h;refine .inr ⟨j,_,rfl,kK h1,h2,λi x hi hx=>?_⟩;have:=h3 i hi;rw[kK aa]at hx;cases hx
  simpa using this
theorem Rz(s:Se)(xs:List Se):decide (0<=FB xs (λy=>decide (s=y)))=decide (s∈xs):=by grind [nCl]
variable {xs:List Se}
theorem nTn{x s:Se}(hx:xs[j]? =some x)(h:x=s):true=decide (s∈xs):=by subst h;simp[cO hx]
theorem RA{s:Se}(h:gu (λy=>decide (y=s)) xs j)(hj:xs.length<=j):false=decide (s∈xs):=by
 symm;rw[decide_eq_false_iff_not];intro hm;obtain⟨i,hi⟩:=kA.1 hm;have:=h i s (by have:=nr hi;omega) hi;simp at this
def zh {α:Type} (xs ys:List α) (j:Nat):Prop:=xs.take j=ys.take j
theorem zh.next{α:Type}{xs ys:List α}{x y:α}(h:zh xs ys j)(hx:xs[j]? =some x)(hy:ys[j]? =some y)(e:x=y):zh xs ys (j+1):=by
 unfold zh at h ⊢;rw[nq hx,nq hy,h,e]
theorem nkf{α:Type}[DecidableEq α]{xs ys:List α}(h:zh xs ys j)(hl:xs.length=ys.length)(hj:xs.length<=j):true=decide (xs=ys):=by
 unfold zh at h;rw[jZ hj,jZ aa]at h;simp[h]
theorem nhh{α:Type}[DecidableEq α]{xs ys:List α}{x y:α}(hx:xs[j]? =some x)(hy:ys[j]? =some y)(e:x≠y):false=decide (xs=ys):=by grind
theorem nBf{α:Type}[DecidableEq α]{xs ys:List α}(h:xs.length≠ys.length):false=decide (xs=ys):=by grind
def wF (xs ys:List Se):Bool:=xs.all λx=>decide (x∈ys)
theorem n5n{ys:List Se}(h:gu (λx=> !decide (x∈ys)) xs j)(hj:xs.length<=j):true=wF xs ys:=by
 symm;unfold wF;rw[sP];intro x hx;obtain⟨i,hi⟩:=kA.1 hx;have:=h i x (by have:=nr hi;omega) hi;simpa using this
theorem RB{ys:List Se}{x:Se}(hx:xs[j]? =some x)(h:x∉ys):false=wF xs ys:=by grind [wF]
theorem nFl(xs:List Se)(hxl:xs.length<=1000000000)(N:Nat)(a:Option Addr)(cp:Nat)(w:World)(hN:N<=w.heap.size)(aJ:ai dh 35 N w a xs)(s:Se):Calls prog 27 #[.slice a xs.length cp,dq s] w (aL w (ab (FB xs (λy=>decide (s=y))))):=by
 refine eN func27 ntmps27 ?_;refine B 2 ?_;refine yX ?_;intro b3 w3 cZ cu fC ez eP;refine B 12 ?_;refine CJ.lp (α:=Nat) [0,3,7] (λj=>[(8,ab (j:Int))]) (λj=>[]) (λj=>j<=xs.length/\gu (λy=>decide (s=y)) xs j) (λj=>xs.length-j) 0 ⟨cR _,λi x hi=>absurd hi aa⟩ ?_;rintro j ⟨hj,dZ⟩;refine B 6 ?_;refine aG ?_ ?_
 ·intro ar;refine B 11 ?_;obtain⟨bo,oo,cs0,to,fV,rfl,fP,cJ,aV⟩:=aJ.get aa;obtain⟨x,hx⟩:=ng xs j aa;refine eA 5 (sp:=[_,_,_,_,some (.agg (dh x))]) (k:=?_);refine rq (.bool (decide (s=x))) (pg Vj zA Zm rfl rfl (Vk _ _)) (vb (Vl _ _)) ?_;refine B 2 ?_;refine aG ?_ ?_
  ·intro aN;refine B 12 ?_;refine aF results27 rfl A1 ?_;exact congrArg ab zpc
  intro aN;refine B 7 ?_;exact zwh
 intro ar;refine B 11 ?_;refine aF results27 rfl A1 ?_;exact congrArg ab zpc
theorem nan(xs:List Se)(hxl:xs.length<=1000000000)(N:Nat)(a:Option Addr)(cp:Nat)(w:World)(hN:N<=w.heap.size)(aJ:ai dh 35 N w a xs)(s:Se):Calls prog 28 #[.slice a xs.length cp,dq s] w (aL w (.bool (decide (s∈xs)))):=by
 refine eN func28 ntmps28 ?_;refine B 2 ?_;refine yX ?_;intro b3 w3 cZ cu fC ez eP;refine B 7 ?_;refine Bo (f:=27) (cap:=[]) rfl call27 rfl rfl rfl (λW hS=>nFl xs hxl N a cp W cM (aJ.up (ak _) hS.sm) s) ?_;refine B 5 ?_;refine aF results28 rfl A1 ?_;exact vb (Rz s xs)
theorem Lb(xs:List Se)(hxl:xs.length<=1000000000)(N:Nat)(a:Option Addr)(cp:Nat)(w:World)(hN:N<=w.heap.size)(aJ:ai dh 35 N w a xs)(s:Se):Calls prog 13 #[.slice a xs.length cp,dq s] w (aL w (.bool (decide (s∈xs)))):=by
 refine eN func13 ntmps13 ?_;refine B 2 ?_;refine yX ?_;intro b3 w3 cZ cu fC ez eP;refine B 10 ?_;refine CJ.lp (α:=Nat) [0,3] (λj=>[(5,ab (j:Int))]) (λj=>[]) (λj=>j<=xs.length/\gu (λy=>decide (y=s)) xs j) (λj=>xs.length-j) 0 ⟨cR _,λi x hi=>absurd hi aa⟩ ?_;rintro j ⟨hj,dZ⟩;refine B 9 ?_;refine aG ?_ ?_
 ·intro ar;refine B 5 ?_;obtain⟨bo,oo,cs0,to,fV,rfl,fP,cJ,aV⟩:=aJ.get aa;obtain⟨x,hx⟩:=ng xs j aa;refine eA 5 (sp:=[_,_,_,some (.agg (dh x)),_]) (k:=?_);refine rq (.bool (decide (x=s))) (pg Vj zA Zm rfl rfl (Vk _ _)) (vb (Vl _ _)) ?_;refine B 2 ?_;refine aG ?_ ?_
  ·intro aN;exact zph
  intro aN;refine B 8 ?_;exact zwh
 intro ar;exact zph
theorem FC(xs ys:List Se)(hxl:xs.length<=1000000000)(Io:ys.length<=1000000000)(N:Nat)(a c:Option Addr)(cp cq:Nat)(w:World)(hN:N<=w.heap.size)(aJ:ai dh 35 N w a xs)(Ob:ai dh 35 N w c ys):Calls prog 19 #[.slice a xs.length cp,.slice c ys.length cq] w (aL w (.bool (decide (xs=ys)))):=by
 refine eN func19 ntmps19 ?_;refine B 15 ?_;refine aG ?_ ?_
 ·intro ar;refine B 7 ?_;exact zzh
 intro ar;refine B 4 ?_;have hlen:xs.length=ys.length:=by omega
 refine B 5 ?_;refine z4d ?_;rintro j ⟨hj,dZ⟩;refine B 9 ?_;refine aG ?_ ?_
 ·intro aN;refine B 5 ?_;obtain⟨bo,oo,cs0,to,fV,rfl,fP,cJ,aV⟩:=aJ.get aa;obtain⟨x,hx⟩:=ng xs j aa;obtain⟨bp,op,ps0,tp,fp0,rfl,Cg,jB,ahQ⟩:=Ob.get aa;obtain⟨y,hy⟩:=ng ys j aa;refine eA 8 (sp:=[_,_,_,some (.agg (dh x)),_,_,_,some (.agg (dh y))]) (k:=?_);refine rq (.bool (decide (¬x=y))) (eF Vj zA Zm rfl rfl (Vk _ _)) (vb ((congrArg not (Vl _ _)).trans (nRh _))) ?_;refine B 2 ?_;refine aG ?_ ?_
  ·intro dp;refine B 11 ?_;exact zzh
  exact zFh
 intro aN;refine B 11 ?_;exact zzh
theorem RC(x y:Dk):oy (uR x).toList (uR y).toList=decide (x=y):=by
 have h:=Vb x.1 y.1 (by rw[x.2,y.2]);have e:decide (x=y)=decide (x.1=y.1):=by simp only[Subtype.ext_iff]
 rw[e,<-h];rfl
theorem RD(x y:Dk):kq (lV 32 [.i]) (uR x).toList (uR y).toList=true:=nNf 32 x.1 y.1 x.2 y.2
theorem nOo(xs ys:List Dk)(hxl:xs.length<=1000000000)(Io:ys.length<=1000000000)(N:Nat)(a c:Option Addr)(cp cq:Nat)(w:World)(hN:N<=w.heap.size)(aJ:ai uR 32 N w a xs)(Ob:ai uR 32 N w c ys):Calls prog 24 #[.slice a xs.length cp,.slice c ys.length cq] w (aL w (.bool (decide (xs=ys)))):=by
 refine eN func24 ntmps24 ?_;refine B 15 ?_;refine aG ?_ ?_
 ·intro ar;refine B 7 ?_;exact zxh
 intro ar;refine B 4 ?_;have hlen:xs.length=ys.length:=by omega
 refine B 5 ?_;refine z4d ?_;rintro j ⟨hj,dZ⟩;refine B 9 ?_;refine aG ?_ ?_
 ·intro aN;refine B 5 ?_;obtain⟨bo,oo,cs0,to,fV,rfl,fP,cJ,aV⟩:=aJ.get aa;obtain⟨x,hx⟩:=ng xs j aa;obtain⟨bp,op,ps0,tp,fp0,rfl,Cg,jB,ahQ⟩:=Ob.get aa;obtain⟨y,hy⟩:=ng ys j aa;refine eA 8 (sp:=[_,_,_,some (.agg (uR x)),_,_,_,some (.agg (uR y))]) (k:=?_);refine rq (.bool (decide (¬x=y))) (eF eqA33 zA Zk rfl rfl (RD _ _)) (vb ((congrArg not (RC _ _)).trans (nRh _))) ?_;refine B 2 ?_;refine aG ?_ ?_
  ·intro dp;refine B 11 ?_;exact zxh
  exact zFh
 intro aN;refine B 11 ?_;exact zxh
theorem nri(xs ys:List Se)(hxl:xs.length<=1000000000)(Io:ys.length<=1000000000)(N:Nat)(a c:Option Addr)(cp cq:Nat)(w:World)(hN:N<=w.heap.size)(aJ:ai dh 35 N w a xs)(Ob:ai dh 35 N w c ys):Calls prog 20 #[.slice a xs.length cp,.slice c ys.length cq] w (aL w (.bool (wF xs ys))):=by
 refine eN func20 ntmps20 ?_;refine B 12 ?_;refine CJ.lp (α:=Nat) [0,1] (λj=>[(5,ab (j:Int))]) (λj=>[]) (λj=>j<=xs.length/\gu (λx=> !decide (x∈ys)) xs j) (λj=>xs.length-j) 0 ⟨cR _,λi x hi=>absurd hi aa⟩ ?_;rintro j ⟨hj,dZ⟩;refine B 9 ?_;refine aG ?_ ?_
 ·intro ar;refine B 5 ?_;obtain⟨bo,oo,cs0,to,fV,rfl,fP,cJ,aV⟩:=aJ.get aa;obtain⟨x,hx⟩:=ng xs j aa;refine B 5 ?_;refine ay (.agg (dh x)) ?_;refine Bo (f:=13) (cap:=[]) rfl call13 rfl rfl rfl (λW hS=>Lb ys Io N c cq W cM (Ob.up (ak _) hS.sm) x) ?_;refine B 3 ?_;refine aG ?_ ?_
  ·intro aN;exact zoh
  intro aN;refine B 8 ?_;refine ag (j+1) ⟨by omega,dZ.next hx yN⟩
 intro ar;exact zoh
theorem nnl(p:Se->Bool)(f:Nat)(cap:List Value)(az:ew prog f)(xs:List Se)(hxl:xs.length<=1000000000)(N:Nat)(a:Option Addr)(cp:Nat)(w:World)(hN:N<=w.heap.size)(aJ:ai dh 35 N w a xs)(hp:∀(j:Nat) (x:Se),xs[j]? =some x->∀W,Below w.heap.size w W->Calls prog f (.agg (dh x)::cap).toArray W (aL W (.bool (p x)))):Calls prog 99 #[.slice a xs.length cp,.func (.func f) #[] cap.toArray] w (cK w (λi:Int=>ab i) (λi _=>fb p xs i)):=by
 refine eN func99 ntmps99 ?_;refine UM ?_;rintro j ⟨hj,dZ⟩;refine B 6 ?_;refine aG ?_ ?_
 ·intro ar;refine B 11 ?_;obtain⟨bo,oo,cs0,to,fV,rfl,fP,cJ,aV⟩:=aJ.get aa;obtain⟨x,hx⟩:=ng xs j aa;refine B 5 ?_;refine ay (.agg (dh x)) ?_;refine UN ?_;refine aG ?_ ?_
  ·intro aN;refine B 12 ?_;refine rY (j:Int) results99 rfl A0 rfl ?_;exact UO
  exact UP
 intro ar;refine B 11 ?_;refine rY (-1:Int) results99 rfl A0 rfl ?_;exact UQ
theorem nKi(p:Se->Bool)(f:Nat)(cap:List Value)(az:ew prog f)(xs:List Se)(hxl:xs.length<=1000000000)(N:Nat)(a:Option Addr)(cp:Nat)(w:World)(hN:N<=w.heap.size)(aJ:ai dh 35 N w a xs)(hp:∀(j:Nat) (x:Se),xs[j]? =some x->∀W,Below w.heap.size w W->Calls prog f (.agg (dh x)::cap).toArray W (aL W (.bool (p x)))):Calls prog 50 #[.slice a xs.length cp,.func (.func f) #[] cap.toArray] w (aL w (.bool (xs.any p))):=by
 refine eN func50 ntmps50 ?_;refine B 9 ?_;refine nv (α:=Int) (v:=λi:Int=>ab i) (Φ:=λ_ i _=>fb p xs i) call99 rfl rfl rfl (λW hS=>nnl p f cap az xs hxl N a cp W cM (aJ.up (ak _) hS.sm) (λj x hx W2 hB=>hp j x hx W2 (((hS.links w A0).below J5).trans (hB.mono (hS.links w A0).size)))) ?_;intro Wi i wi Ev Ew hi;refine B 5 ?_;refine aF results50 rfl A1 ?_;exact vb hi.any
def wG:List Int->Int
 | []=>0
 |x::l=>if x=0 then wG l else x
theorem FD:∀{xs:List Int} {j:Nat} {x:Int},(∀(i:Nat) (y:Int),i<j->xs[i]? =some y->y=0)->xs[j]? =some x->x≠0->x=wG xs
 | [],_,_,_,h,_=>by simp at h
 |y::xs,0,x,_,h,hn=>by
  simp only[Js,vM]at h;subst h;simp[wG,hn]
 |y::xs,j+1,x,h0,h,hn=>by
  have e:=h0 0 y aa rfl;unfold wG;rw[if_pos e];exact FD (j:=j) (λi z hi hz=>h0 (i+1) z aa (by simpa using hz)) Bj hn
theorem nbo:∀{xs:List Int},(∀(i:Nat) (y:Int),xs[i]? =some y->y=0)->0=wG xs
 | [],_=>rfl
 |y::xs,h=>by
  unfold wG;rw[if_pos (h 0 y rfl)];exact nbo λi z hz=>h (i+1) z (by simpa using hz)
theorem ahS(xs:List Int)(b cap t:Nat)(cs:Array Value)(fr:Nat×Nat)(hl:xs.length<=1000)(w:World)(hb:w.heap[b]? =some (.cells cs t fr))(cJ:∀(i:Nat) (x:Int),xs[i]? =some x->cs[i]? =some (ab x)):Calls prog 102 #[.slice (ao b) xs.length cap] w λe w'=>e= .returned (ab (wG xs))/\w'=w:=by
 refine Fh (vs:=[_]) func102 rfl ntmps102 rfl ?_;have hT:∀W',W'=w->St Gh.no [w] [] W':=λW' e=>by
  rw[e];exact N4 (by intro v hv;simp only[bX,dE,or_false]at hv;subst hv;exact Below.refl _ _)
 refine AG ?_;refine Rk ?_;refine AG ?_;refine Rk ?_;refine CX.seq ?_;refine AG ?_;refine N5 ?_;refine pN hT rfl rfl rfl (i6 underlying55 rfl) ?_;refine N5 ?_;refine Fi ?_;refine CX.block ?_;refine CX.loop (α:=Nat) (λj=>[(3,ab 0),(6,.slice (ao b) xs.length cap),(7,ab (xs.length:Int)),(8,ab (j:Int))]) (λ_=>(· =w)) (λj=>j<=xs.length/\∀(i:Nat) (y:Int),i<j->xs[i]? =some y->y=0) (λj=>xs.length-j) 0 ⟨cR _,λi y h=>absurd h aa⟩ zR (λW e=>e) ?_;rintro j ⟨hj,hz⟩;refine AG ?_;by_cases ar:j<xs.length
 ·obtain⟨x,hx⟩:=ng xs j ar;have hv:=cJ j x hx;refine z1e ?_;refine pN hT rfl rfl rfl (dc underlying55 sizeOf3 rfl rfl aa aa) ?_;refine pN hT rfl rfl rfl (av (v:=ab x) isAgg3 rfl A0 hb zJ trivial (by simpa using hv)) ?_;refine Rk ?_;refine AG ?_;refine N5 ?_;refine N5 ?_;by_cases aN:x=0
  ·refine pN hT rfl rfl rfl (RV.re (v':=bN) (cV rfl rfl) (vb (by simp[aN]))) ?_;refine zbf ?_;refine pN hT rfl rfl rfl (iw rfl rfl aa aa) ?_;refine N5 ?_;refine OX.done ?_;exact PX.again (j+1) ⟨by omega,λi y hi hy=>by by_cases e:i=j;(subst e;rw[hx]at hy;cases hy;exact aN);exact hz i y aa hy⟩ aa zR (λW' e=>e)
  refine pN hT rfl rfl rfl (RV.re (v':=cY) (cV rfl rfl) (vb (by simp[aN]))) ?_;refine Fi ?_;refine CX.condT rfl ?_;refine AG ?_;refine N5 ?_;refine Rk ?_;refine zne ?_;exact AH (.inl rfl) results102 rfl (λW' e=>⟨congrArg (λn=>Ending.returned (ab n)) (FD hz hx aN),e⟩)
 refine zrf ?_;refine N5 ?_;refine Rk ?_;refine CX.ret ?_;exact AH (.inl rfl) results102 rfl (λW' e=>⟨congrArg (λn=>Ending.returned (ab n)) (nbo (λi y hy=>hz i y (by have:=nr hy;omega) hy)),e⟩)
def lF (x y:Se):Int:=wG [de x.kind y.kind,de x.pub y.pub,Go.Lib.compareBytes (cx (fX x.com)) (cx (fX y.com)),de x.lev y.lev]
theorem CO.or{α:Type}{f:α->α->Int}{g:α->α->List Int}(hf:CO f)(hg:CO λx y=>wG (g x y)):CO λx y=>wG (f x y::g x y):=by
 have:=hf.lex hg;exact this
theorem CO.ord:CO lF:=by
 have h4:CO λx y:Se=>wG [de x.lev y.lev]:=by
  have e:(λx y:Se=>wG [de x.lev y.lev])=λx y:Se=>de x.lev y.lev:=by funext x y;simp only[wG];split<;>simp_all
  rw[e];exact CO.int.key (λx:Se=>x.lev)
 exact(CO.int.key (λx:Se=>x.kind)).or ((CO.int.key (λx:Se=>x.pub)).or ((CO.bytes.key (λx:Se=>cx (fX x.com))).or h4))
theorem Oc{X:Array Value}{t k:Nat}{fr:Nat×Nat}{v:Value}(hb:W.heap[b]? =some (.cells X t fr))(h:X[k]? =some v):W.cell? ⟨b,k,none⟩=some v:=by
 simp only[World.cell?,hb];exact h
theorem Zr{w':World}(h:Below w.heap.size w w'):∃q y8,w'=Go.Sort.grow (w.drewN q) y8:=by
 refine⟨w'.drawn-w.drawn,w'.heap.extract w.heap.size w'.heap.size,?_⟩;have e1:w.heap++w'.heap.extract w.heap.size w'.heap.size=w'.heap:=by
  apply Array.ext_getElem?;intro k;by_cases hk:k<w.heap.size
  ·rw[Vm hk];exact(h.block k hk).symm
  rw[Array.getElem?_append_right aa,Array.getElem?_extract];have:=h.size;split
  ·rw[show w.heap.size+(k-w.heap.size)=k by omega]
  rw[Array.getElem?_eq_none aa]
 have e2:w.drawn+(w'.drawn-w.drawn)=w'.drawn:=by have:=h.drawn;omega
 have h1:=h.os;have h2:=h.tape;have h3:=h.output
 obtain⟨hp,tp,dn,os,op⟩:=w';obtain⟨U6,tp0,dn0,os0,op0⟩:=w;simp only[Go.Sort.grow,World.drewN]at *;all_goals grind
theorem n1m(x y:Se){b1 b2 t1 t2:Nat}{fr1 xi:Nat×Nat}(h1:W.heap[b1]? =some (.cells (dh x) t1 fr1))(h2:W.heap[b2]? =some (.cells (dh y) t2 xi)):Calls prog 104 #[.slice (some ⟨b1,2,none⟩) 32 32,.slice (some ⟨b2,2,none⟩) 32 32] W (aL W (ab (Go.Lib.compareBytes (cx (fX x.com)) (cx (fX y.com))))):=by
 have key:∀(z:Se) (i:Nat) (h:i<(dk (fX z.com)).1.length),(dh z)[2+i]? =some (.int .u8 (dk (fX z.com)).1[i]):=by
  intro z i h;have h2:i<32:=by rw[(dk (fX z.com)).2]at h;exact h
  have e1:((dk (fX z.com)).1.map (Value.int .u8))[i]? =some (.int .u8 ((dk (fX z.com)).1[i]'h)):=by rw[sC,kK h];rfl
  have e2:(dg (fX z.com))[i]? =((dk (fX z.com)).1.map (Value.int .u8))[i]? :=by rw[<-nrn,DI];rfl
  exact(uT (k:=2) (n:=32) (r:=dg (fX z.com)) rfl i h2).trans (e2.trans e1)
 have:=ngf (W:=W) (b1:=b1) (o1:=2) (c1:=32) (b2:=b2) (o2:=2) (c2:=32) (xs:=(dk (fX x.com)).1) (ys:=(dk (fX y.com)).1) (λi h=>Oc h1 (key x i h)) (λi h=>Oc h2 (key y i h));rw[(dk (fX x.com)).2,(dk (fX y.com)).2,nfi,nfi]at this;refine this.mono ?_;exact zNh
theorem ahT(a b c d:Int){n t:Nat}{fr:Nat×Nat}(h:W.heap[n]? =some (.cells #[ab a,ab b,ab c,ab d] t fr)):Calls prog 102 #[.slice (ao n) 4 4] W (aL W (ab (wG [a,b,c,d]))):=by
 refine(ahS [a,b,c,d] n 4 t _ fr zI W h (by
  intro i x hi
  match i,hi with
  |0,hi=>exact congrArg (λq=>some (ab q)) (Option.some.inj hi)
  |1,hi=>exact congrArg (λq=>some (ab q)) (Option.some.inj hi)
  |2,hi=>exact congrArg (λq=>some (ab q)) (Option.some.inj hi)
  |3,hi=>exact congrArg (λq=>some (ab q)) (Option.some.inj hi))).mono ?_
 exact zNh
theorem FE(x y:Se)(w:World):Calls prog 54 #[dq x,dq y] w (aL w (ab (lF x y))):=by
 refine eN func54 ntmps54 ?_;refine B 2 ?_;refine yX ?_;intro b2 w2 di bV ff dB dx;refine yX ?_;intro b3 w3 cZ cu fC ez eP;refine B 4 ?_;refine eA 19 (pb:=by exact zU 4 (k:=by exact aU (nf call103 rfl rfl (λW hS _=>n5g _ _ W) (λ_=>rfl)) (zU 4 (k:=by exact aU (nf call103 rfl rfl (λW hS _=>n5g _ _ W) (λ_=>rfl)) (zU 1 (k:=by exact aU (X.v (RV.re (v':=.slice (some ⟨b2,2,none⟩) 32 32) (fF (h:=32) underlying33 sizeOf5 rfl rfl aa) rfl)) (zU 1 (k:=by exact aU (X.v (RV.re (v':=.slice (some ⟨b3,2,none⟩) 32 32) (fF (h:=32) underlying33 sizeOf5 rfl rfl aa) rfl)) (aU (nf call104 rfl rfl (λW hS _=>n1m x y (hS.old A1 di bV trivial) (hS.old A0 cZ cu trivial)) (λ_=>rfl)) zT))))))))) (k:=?_);refine call call103 rfl rfl rfl (λW hS=>n5g _ _ W) ?_;refine D4 ?_;refine yW ?_;intro b25 anj ank;refine call (v:=ab (lF x y)) call102 rfl rfl rfl (λW hS=>ahT _ _ _ _ (hS.own _ A0)) ?_;refine B 4 ?_;refine cC (.inl rfl) results54 aX A2 zB ?_;rfl
theorem Zs(x y:Se)(W:World):Calls prog 54 #[dq x,dq y] W λe w'=>e= .returned (ab (lF x y))/\∃q y8,w'=Go.Sort.grow (W.drewN q) y8:=(FE x y W).mono λe w' h=>⟨h.1,Zr h.2⟩
instance:Inhabited Se:=⟨aS 0⟩
abbrev gF (xs:List Se):List Se:=gM lF xs
theorem Lc(xs:List Se):(gF xs).length=xs.length:=NW CO.ord.swo xs
theorem nQh:gF []=[]:=lN (Lc [])
theorem nXh(xs:List Se)(s:Se):s∈gF xs↔s∈xs:=(U7 CO.ord.swo xs).mem_iff
theorem Oe(hl:xs.length<=1000000){cap:Nat}(bM:(Rw.row b cap sp).Fit 35 xs)(h:W.heap[b]? =some (aP dM 35 xs sp)):Calls prog 59 #[.slice (ao b) xs.length cap,.func (.func 54) #[] #[]] W (λe w'=>∃bT,e= .returned ((λ_=>.tuple #[]) (Rw.row b cap bT))/\aH (· =b) W w'/\(Rw.row b cap bT).Fit 35 (gF xs)/\w'.heap[b]? =some (aP dM 35 (gF xs) bT)):=by
 have hc:=Go.Proofs.AnyQ.slices_SortFunc_eq Go.Proofs.Tryz.laySS 35 isAgg35 sizeOf35 dM nu IK lF CO.ord.swo 54 #[] b 0 cap xs.toArray W (Go.Proofs.enters_of func54 zN rfl) (λ_ _ _ _ x y=>Zs x y _) (nUi nu h) (aT.1 h).1 oN;change Calls prog 59 _ _ _ at hc;refine hc.mono ?_;rintro e w' ⟨rfl,n,os,rfl⟩;have hp:=YH (n:=n) (os:=os) nu h (ys:=gF xs) (Lc xs);exact⟨sp,rfl,hp.1,by simp only[Rw.Fit,Lc];exact bM,hp.2⟩
def me (xs:List Se):Nat->List Se
 |0=>[]
 |j+1=>match xs[j]? with
  |none=>me xs j
  |some x=>if 0<j/\xs[j-1]? =some x then me xs j else me xs j++[x]
def FF (xs:List Se):List Se:=me xs xs.length
theorem nAn{x y:Se}(hj:0<j)(hx:xs[j]? =some x)(hy:xs[j-1]? =some y)(e:x=y):me xs (j+1)=me xs j:=by grind [me]
theorem FG{x y:Se}(hx:xs[j]? =some x)(hy:xs[j-1]? =some y)(e:x≠y):me xs (j+1)=me xs j++[x]:=by grind [me]
theorem Ld:me xs 1=xs.take 1:=by
 cases xs with
 |nil=>rfl
 |cons x l=>rfl
theorem nbj(xs:List Se):∀(j:Nat) (s:Se),s∈me xs j↔s∈xs.take j
 |0,s=>by simp[me]
 |j+1,s=>by
  have ih:=nbj xs j;cases hx:xs[j]? with
  |none=>
   have e1:me xs (j+1)=me xs j:=by conv=>lhs;unfold me;rw[hx]
   rw[e1,ih,jZ (by have:=List.getElem?_eq_none_iff.1 hx;omega),jZ (by have:=List.getElem?_eq_none_iff.1 hx;omega)]
  |some x=>
   rw[nq hx,bj,ka];by_cases h:0<j/\xs[j-1]? =some x
   ·have e1:me xs (j+1)=me xs j:=by conv=>lhs;unfold me;rw[hx];simp only;rw[if_pos h]
    rw[e1,ih];refine⟨.inl,λh1=>h1.elim id λh1=>?_⟩;subst h1;have:(xs.take j)[j-1]? =some s:=by rw[QS aa];exact h.2
    exact cO this
   have e1:me xs (j+1)=me xs j++[x]:=by conv=>lhs;unfold me;rw[hx];simp only;rw[if_neg h]
   rw[e1,bj,ka,ih]
theorem Le(xs:List Se)(s:Se):s∈FF xs↔s∈xs:=by unfold FF;rw[nbj,vS]
theorem Lf(xs:List Se):∀j,(me xs j).length<=j:=
 by intro x;induction x<;>(intros;grind [me])
theorem Lg(xs:List Se):(FF xs).length<=xs.length:=Lf xs _
def zj (xs:List Se) (j:Nat):Prop:=me xs j=xs.take j
theorem zj.next{x y:Se}(h:zj xs j)(hx:xs[j]? =some x)(hy:xs[j-1]? =some y)(e:¬x=y):zj xs (j+1):=by
 unfold zj at h ⊢;rw[FG hx hy e,h,nq hx]
theorem zj.end_(h:zj xs j)(hj:j=xs.length):FF xs=xs:=by
 subst hj;unfold FF;rw[show me xs xs.length=xs.take xs.length from h,vS]
theorem nDg(h:xs.length<2):FF xs=xs:=by
 match xs,h with
 | [],_=>rfl
 | [x],_=>rfl
 |_::_::_,h=>simp at h;omega
def cN (xs:List Se):List Se:=FF (gF xs)
theorem CK(xs:List Se)(s:Se):s∈cN xs↔s∈xs:=(Le _ _).trans (nXh _ _)
theorem Vn(xs:List Se):(cN xs).length<=xs.length:=by have:=Lg (gF xs);rw[Lc]at this;exact this
theorem nGf:cN []=[]:=by unfold cN;rw[nQh];rfl
theorem nHf{α:Type}{enc:α->List Value}{m o k:Nat}{cur:List α}{x:α}(hm:∀x,(enc x).length=m)(hx:cur[o+k]? =some x){i:Int}(hi:i=(k:Int)):cut (gX enc cur++sp).toArray (o*m+i.toNat*m) m=(enc x).toArray:=by
 subst hi;have:=Q0 (enc:=enc) (sp:=sp) hm hx;rw[yz,lL,pK]at this;rw[yz];exact this
theorem njh{α:Type}{enc:α->List Value}{m o k:Nat}{cur:List α}(hm:∀x,(enc x).length=m)(hj:o+k<cur.length){i:Int}(hi:i=(k:Int)):o*m+i.toNat*m+m<=(gX enc cur++sp).toArray.size:=by
 subst hi;have:=Q1 (enc:=enc) (sp:=sp) hm hj;rw[yz,lL,pK]at this;rw[yz];exact this
theorem nam(n c:Nat)(w:World):Calls prog 58 #[.slice none n c] w (aD w dM 35 35 ([]:List Se) id):=by
 refine eN func58 ntmps58 ?_;refine B 9 ?_;refine rr cY (uM underlying38 rfl rfl) ?_;refine B 10 ?_;exact nP (H0:=[]) (H1:=[]) (r:=.nil) (.inl rfl) results58 aX A0 trivial rfl rfl True.intro rfl
theorem nZk(xs:List Se)(hxl:xs.length<=100000)(N:Nat)(q:Addr)(cp:Nat)(w:World)(hN:N<=w.heap.size)(aJ:ai dh 35 N w (some q) xs):Calls prog 58 #[.slice (some q) xs.length cp] w (aD w dM 35 35 xs id):=by
 refine eN func58 ntmps58 ?_;refine B 9 ?_;refine rr bN (uN underlying38 rfl rfl) ?_;refine B 7 ?_;refine IL ?_;refine yW ?_;intro b5 sq su;refine B 1 ?_;refine U4 (xs:=([]:List Se)) (zs:=xs) (enc:=dM) (m:=35) (H0:=[]) (H1:=[]) (sp:=[]) (by rfl) Oa nu rfl rfl rfl rfl (cd.sl nu IK underlying38 A0 aJ (λb hb=>⟨λh=>h,by simp only[bA,and_true];omega⟩)) ⟨ak _,rfl⟩ (.inr zC) oN ?_;intro b7 CA YB tB pL;have EO:w.heap.size<=b7:=by rcases tB with h|h;(omega);exact h.not A0
 rw[eL]at pL ⊢;refine B 4 ?_;exact nP (H0:=[]) (H1:=[]) (r:=.row b7 CA YB) (.inl rfl) results58 aX A0 (by simp only[eL,Over,and_true];omega) rfl pL EO (by rfl)
theorem FH(xs:List Se)(hxl:xs.length<=100000)(N:Nat)(a:Option Addr)(cp:Nat)(w:World)(hN:N<=w.heap.size)(aJ:ai dh 35 N w a xs):Calls prog 58 #[.slice a xs.length cp] w (aD w dM 35 35 xs id):=by
 cases a with
 |none=>
  have h0:xs=[]:=by rcases aJ with h|⟨b,off,cs,t,fr,h,_⟩;(exact h);cases h
  subst h0;exact nam 0 cp w
 |some q=>exact nZk xs hxl N q cp w hN aJ
theorem nLk(w:World):Calls prog 171 #[aj,ab 0,ab 0,.func (.func 54) #[] #[]] w (aL w (.tuple #[])):=by
 refine eN func171 ntmps171 ?_;refine B 8 ?_;refine zvd ?_;rintro j _;refine B 5 ?_;refine Eh ?_;exact cC (.inr rfl) results171 aX A0 trivial rfl
theorem nzo(l:Int)(w:World):Calls prog 105 #[aj,ab 0,ab 0,ab l,.func (.func 54) #[] #[]] w (aL w (.tuple #[])):=by
 refine eN func105 ntmps105 ?_;refine B 11 ?_;refine zwd ?_;rintro j _;refine PA ?_;refine B 9 ?_;refine call call171 rfl rfl rfl (λW hS=>nLk W) ?_;refine B 7 ?_;exact cC (.inl rfl) results105 aX A0 trivial rfl
theorem nCh(w:World):Calls prog 59 #[aj,.func (.func 54) #[] #[]] w (aL w (.tuple #[])):=by
 refine eN func59 ntmps59 ?_;refine zLf ?_;refine call call105 rfl rfl rfl (λW hS=>nzo _ W) ?_;refine B 1 ?_;exact cC (.inr rfl) results59 aX A0 trivial rfl
theorem nSo(xs:List Se)(hxl:xs.length<=100000)(b cp:Nat)(sp:List Value)(w:World)(hb:w.heap[b]? =some (aP dM 35 xs sp))(bM:(Rw.row b cp sp).Fit 35 xs):Calls prog 60 #[.slice (ao b) xs.length cp] w (λe w'=>∃bT,e= .returned ((λr=>r.val (FF xs).length) (Rw.row b cp bT))/\aH (· =b) w w'/\(Rw.row b cp bT).Fit 35 (FF xs)/\w'.heap[b]? =some (aP dM 35 (FF xs) bT)):=by
 have iq:=bM.1;have eG:=bM.2;have jl:=(aT.1 hb).1;refine nB (Gh.lent (· =b)) [(b,aP dM 35 xs sp)] (vs:=[_]) func60 rfl ntmps60 rfl (Dy hb) ?_;refine B 13 ?_;refine aG ?_ ?_
 ·intro ar;refine B 8 ?_;exact bK (.inl rfl) results60 aX λW hS=>⟨sp,by rw[nDg aa];rfl,hS.baseX A0 Nz,by rw[nDg aa];exact bM,by rw[nDg aa];exact hS.own _ A0⟩
 intro ar;refine B 9 ?_;refine CJ.lp (α:=Nat) [0] (λj=>[(3,ab (j:Int))]) (λj=>[(b,aP dM 35 xs sp)]) (λj=>1<=j/\j<=xs.length/\zj xs j) (λj=>xs.length-j) 1 ⟨ak _,by omega,Ld⟩ ?_;rintro j ⟨Uj,hj,qA⟩;refine B 9 ?_;refine aG ?_ ?_
 ·intro aN;refine B 5 ?_;obtain⟨x,hx⟩:=ng xs j aa;obtain⟨y,hy⟩:=ng xs (j-1) aa;refine eA 9 (pb:=by exact zU 3 (k:=by exact aU (X.v (RV.re (v':=.agg (dh x)) (fj (i:=0) rfl isAgg35 sizeOf35 rfl (Q1 nu aa)) (va (Q0 (sp:=sp) nu hx)))) (zU 4 (k:=by exact aU (X.v (RV.re (v':=.agg (dh y)) (fj (i:=0) rfl isAgg35 sizeOf35 rfl (Q1 nu aa)) (va (Q0 (sp:=sp) nu hy)))) (vK rfl))))) (sp:=[_,_,_,_,_,_,some (ab ((j-1:Nat):Int)),_,_]) (k:=?_);refine rq (.bool (decide (x=y))) (pg Vj zA Zm rfl rfl (Vk _ _)) (vb (Vl _ _)) ?_;refine B 2 ?_;refine aG ?_ ?_
  ·intro dp;refine B 4 ?_;refine rq (.slice (some ⟨b,j*35,none⟩) (xs.length-j) (cp-j)) (fZ (l:=j) (h:=xs.length) underlying38 sizeOf35 rfl ⟨_,_,rfl,rfl⟩ rfl aa aa rfl) (by rw[if_neg aa,lL]) ?_;refine B 10 ?_;refine CJ.lp (α:=(Nat×List Se)×Nat) [0,4] (λp9=>[(3,ab (p9.1.1:Int)),(5,ab (p9.2:Int))]) (λp9=>[(b,aP dM 35 p9.1.2 sp)]) (λp9=>1<=p9.2/\p9.1.1<=j+p9.2-1/\p9.2<=xs.length-j/\p9.1.2.length=xs.length/\p9.1.2.take p9.1.1=me xs (j+p9.2)/\p9.1.2.drop (j+p9.2-1)=xs.drop (j+p9.2-1)) (λp9=>xs.length-p9.2) ((j,xs),1) ⟨ak _,by dsimp only;omega,by dsimp only;omega,rfl,by dsimp only;rw[nAn aa hx hy eE];exact qA.symm,rfl⟩ ?_;rintro⟨⟨i2,cur⟩,k2⟩ ⟨Jd,hik,Vo,lP,wh,yZ⟩;dsimp only at Jd hik Vo lP wh yZ ⊢;refine B 9 ?_;refine aG ?_ ?_
   ·intro jh;refine B 5 ?_;obtain⟨x2,IF⟩:=ng xs (j+k2) aa;obtain⟨y2,hy2⟩:=ng xs (j+k2-1) aa;obtain⟨hcy,rn⟩:=YD yZ hy2;rw[show j+k2-1+1=j+k2 by omega]at rn;obtain⟨vt,anl⟩:=YD rn IF;have ahY:cur[j+(k2-1)]? =some y2:=by rw[show j+(k2-1)=j+k2-1 by omega];exact hcy
    refine eA 9 (pb:=by exact zU 3 (k:=by exact aU (X.v (RV.re (v':=.agg (dh x2)) (fj (i:=0) rfl isAgg35 sizeOf35 rfl (njh (o:=j) (k:=k2) nu aa rfl)) (va (nHf (sp:=sp) (o:=j) (k:=k2) nu vt rfl)))) (zU 4 (k:=by exact aU (X.v (RV.re (v':=.agg (dh y2)) (fj (i:=0) rfl isAgg35 sizeOf35 rfl (njh (o:=j) (k:=(k2-1)) nu aa rfl)) (va (nHf (sp:=sp) (o:=j) (k:=(k2-1)) nu ahY rfl)))) (vK rfl))))) (sp:=[_,_,_,_,_,_,some (ab ((k2-1:Nat):Int)),_,_]) (k:=?_);refine rq (.bool (decide (¬x2=y2))) (eF Vj zA Zm rfl rfl (Vk _ _)) (vb ((congrArg not (Vl _ _)).trans (nRh _))) ?_;refine B 2 ?_;refine aG ?_ ?_
    ·intro iC;refine B 7 ?_;refine rq (.agg (dh x2)) (fj (i:=0) rfl isAgg35 sizeOf35 rfl (njh (o:=j) (k:=k2) nu aa rfl)) (va (nHf (sp:=sp) (o:=j) (k:=k2) nu vt rfl)) ?_;refine B 1 ?_;refine KI (enc:=dM) (m:=35) (i:=0) (j:=i2) (z:=x2) rfl nu IK sizeOf35 rfl rfl rfl zI aa rfl rfl ?_;refine B 14 ?_;refine ag ((i2+1,cur.set i2 x2),k2+1) ⟨by dsimp only;omega,by dsimp only;omega,by dsimp only;omega,by dsimp only;rw[List.length_set];exact lP,by dsimp only;rw[nYc aa,wh,<-Nat.add_assoc,FG IF hy2 eE],by dsimp only;rw[show j+(k2+1)-1=j+k2 by omega,nQd aa];exact rn⟩
    intro iC;refine B 8 ?_;refine ag ((i2,cur),k2+1) ⟨by dsimp only;omega,by dsimp only;omega,by dsimp only;omega,lP,by dsimp only;rw[wh,<-Nat.add_assoc,nAn aa IF hy2 (Decidable.not_not.1 eE)],by dsimp only;rw[show j+(k2+1)-1=j+k2 by omega];exact rn⟩
   intro jh;refine B 6 ?_;have y4:j+k2=xs.length:=by omega
   have kp:cur.take i2=FF xs:=by rw[wh,y4];rfl
   refine B 3 ?_;refine rq (.slice (some ⟨b,if cp=i2 then 0 else 0+i2*35,none⟩) (cur.drop i2).length (cp-i2)) (fZ (l:=i2) (h:=xs.length) underlying38 sizeOf35 rfl ⟨_,_,rfl,rfl⟩ rfl aa aa rfl) (by rw[BF,lP]) ?_;refine OJ.reH (H':=[(b,aP dM 35 (cur.take i2++cur.drop i2) sp)]) (by rw[AB]) ?_;refine AD (i:=0) rfl nu underlying38 zeroValue35 rfl (n8e rfl _) rfl rfl zpb ?_;intro Q2 y6;refine B 6 ?_;refine rq (.slice (ao b) (cur.take i2).length cp) (fE (h:=i2) underlying38 sizeOf35 rfl ⟨_,_,rfl,rfl⟩ aa) YE ?_;refine B 9 ?_;exact bK (.inl rfl) results60 aX λW hS=>⟨Q2,by rw[<-kp];rfl,hS.baseX A0 Nz,by rw[<-kp];exact⟨by rw[lb];omega,by rw[y6,BF,lb,eG,Nat.min_eq_left aa,lP,<-pK];congr 1;omega⟩,by rw[<-kp];exact hS.own _ A0⟩
  intro dp;refine B 8 ?_;refine ag (j+1) ⟨by omega,by omega,qA.next hx hy eE⟩
 intro aN;refine B 12 ?_;exact bK (.inl rfl) results60 aX λW hS=>⟨sp,by rw[qA.end_ aa];rfl,hS.baseX A0 Nz,by rw[qA.end_ aa];exact bM,by rw[qA.end_ aa];exact hS.own _ A0⟩
theorem nKj(w:World):Calls prog 60 #[aj] w (aL w (aj)):=by
 refine eN func60 ntmps60 ?_;refine B 10 ?_;refine KH ?_;refine aF results60 rfl A0 ?_;rfl
theorem nwg(xs:List Se)(hxl:xs.length<=100000)(N:Nat)(a:Option Addr)(cp:Nat)(w:World)(hN:N<=w.heap.size)(aJ:ai dh 35 N w a xs):Calls prog 32 #[.slice a xs.length cp] w (aD w dM 35 35 (cN xs) id):=by
 refine eN func32 ntmps32 ?_;refine B 8 ?_;refine It (enc:=dM) (m:=35) (t:=35) (xs:=xs) (v:=id) (first:=[]) (cap:=[]) rfl call58 rfl rfl rfl (λW hS=>FH xs hxl N a cp W cM (aJ.up (ak _) hS.sm)) ?_;intro r aK ah;have bG:=Rw.ge_of aK A0;refine B 6 ?_;refine D5 (r:=r) (enc:=dM) (m:=35) (t:=35) (xs:=xs) (ys:=gF xs) (H0:=[]) (H1:=[]) (v:=λ_=>.tuple #[]) rfl call59 rfl rfl rfl (λhr W hS=>?_) (λb cap sp hr W hS h=>?_) ?_
 ·exact zOh
 ·subst hr;exact Oe aa ah h
 intro r2 gA ly qW jP;have iI:=ly aK;have eu:=qW _ bG;refine B 5 ?_;refine D5 (r:=r2) (enc:=dM) (m:=35) (t:=35) (xs:=gF xs) (ys:=cN xs) (H0:=[]) (H1:=[]) (v:=λr=>r.val (cN xs).length) rfl call60 rfl rfl rfl (λhr W hS=>?_) (λb cap sp hr W hS h=>?_) ?_
 ·have e8:=jP (xs).length;rw[<-e8,<-Lc xs];subst hr;have h0:gF xs=[]:=gA;unfold cN;rw[h0];exact(nKj W).mono λe w2 h=>⟨h.1,rfl,h.2⟩
 ·have e8:=jP (xs).length;rw[<-e8,<-Lc xs];subst hr;have e9:=Lc xs;exact nSo (gF xs) aa b cap sp W h gA
 intro r3 RE uw D6 D7;have J2:=uw iI;have pH:=D6 _ eu;refine B 4 ?_;exact nP (H0:=[]) (H1:=[]) (r:=r3) (.inl rfl) results32 aX A0 (by rw[eb];exact Rw.over pH) rfl RE pH zI
def sW {K β:Type} [Inhabited K] (kv:List (K×β)) (j:Nat):K:=((kv[j]?).map (·.1)).getD default
theorem n2o{K β:Type}[Inhabited K]{kv:List (K×β)}{p:K×β}(hp:kv[j]? =some p)(js:List Nat):(js++[j]).map (sW kv)=js.map (sW kv)++[p.1]:=by simp[sW,hp]
theorem nYo{K β:Type}[Inhabited K]{kv:List (K×β)}{js:List Nat}(hd:js.Nodup)(hl:∀j∈js,j<kv.length)(ck:∀j,j<kv.length->j∈js):(js.map (sW kv)).Perm (kv.map (·.1)):=by
 have h1:js.Perm (List.range kv.length):=(List.perm_ext_iff_of_nodup hd List.nodup_range).2 λa=>⟨λh=>tE.2 (hl a h),λh=>ck a (tE.1 h)⟩;have h2:(List.range kv.length).map (sW kv)=kv.map (·.1):=by
  apply List.ext_getElem zI;intro i h3 h4;simp only[eQ,List.length_range]at h3;simp[sW,h3]
 rw[<-h2];exact h1.map _
theorem n7g{K β:Type}{kv:List (K×β)}{js:List Nat}{jn:Nat}{pn:K×β}(hnd:js.Nodup)(pI:∀j∈js,j<kv.length)(xt:kv[jn]? =some pn)(sF:jn∉js):(js++[jn]).Nodup/\(∀j∈js++[jn],j<kv.length)/\js.length+1<=kv.length:=by
 exact zrg
theorem nPo(mp:Option Nat)(w:World):Calls prog 53 #[.map mp] w (cK w (λb:Nat=>.func (.func 101) #[] #[ptr b 0]) (λb w1=>w.heap.size<=b/\w1.heap[b]? =some (oC #[.map mp] 137))):=by
 refine eN func53 ntmps53 ?_;refine B 2 ?_;refine yX ?_;intro b1 w1 hb1 cF gK gj jy;refine B 10 ?_;refine rY b1 results53 rfl A1 rfl ?_;exact zmh
theorem nso{kv:List (Se×Bool)}(mb bx:Nat)(m:Mq)(hm:m.Ok kv)(W:World)(hb1:W.heap[bx]? =some (oC #[.map (some mb)] 137))(sG:W.heap[mb]? =some (m.obj dq Value.bool kv)):ue prog 101 [ptr bx 0] (λs:Se=>[dq s]) (λp=>p.length<=kv.length) (λxs=>xs.Perm (kv.map (·.1))) (λ_=>False) (λk=>k=bx\/k=mb) W:=by
 intro l M I X0 hM hI hX hy h0;have cF:¬(dt hM (λ_=>False) (hI [] _)).X bx:=by rintro(h|h);exact(hM _ h).2.2 (.inl rfl);exact h.elim
 have Ea:¬(dt hM (λ_=>False) (hI [] _)).X mb:=by rintro(h|h);exact(hM _ h).2.2 (.inr rfl);exact h.elim
 have P3:=(aT.1 sG).1;refine nB (dt hM (λ_=>False) (hI [] _)) [] (vs:=[_,_]) func101 rfl ntmps101 rfl (Na hM (hI [] _) h0 zI (by simp[lq]) zI) ?_;refine B 3 ?_;refine ah0 (ek:=dq) (ev:=Value.bool) underlying137 (bB.old A0 sG Ea trivial) rfl rfl rfl ?_;intro rb vU Xy;replace vU:=yb vU;refine B 3 ?_;refine CJ.loop (α:=List Nat×aE) (λp=>[(0,yv l),(5,ptr rb 0)]) (λp=>[(rb,m.it mb p.1)]) (λp=>[W]) (λp=>dt hM p.2 (hI (p.1.map (sW kv)) p.2)) (λp=>p.1.Nodup/\(∀j∈p.1,j<kv.length)/\∀k,p.2 k->W.heap.size<=k) (λp=>kv.length-p.1.length) ([],λ_=>False) ⟨List.nodup_nil,by simp,λ_ h=>h.elim⟩ ⟨rfl,rfl,trivial⟩ rfl rfl zI ?_;rintro⟨js,V⟩ ⟨hnd,pI,hV⟩;dsimp only at hnd pI hV ⊢;have Ea:¬(dt hM V (hI (js.map (sW kv)) V)).X mb:=by rintro(h|h);exact(hM _ h).2.2 (.inr rfl);have:=hV _ h;omega
 have Xz:=Xw kv.length js hnd pI;refine B 2 ?_;refine Zt (ek:=dq) (ev:=Value.bool) (i:=0) rfl hm (bB.old A0 sG Ea zz) pI rfl rfl rfl (λck=>?_) (λjn pn xt sF=>?_)
 ·refine B 9 ?_;exact Bm (.inr rfl) results101 A0 hV zHb (λA hA=>.inl ⟨_,nYo hnd pI ck,hA⟩)
 refine B 10 ?_;refine rv rfl rfl rfl (RF (ek:=dq) (ev:=Value.bool) (i:=0) rfl hm (bB.old A0 sG Ea zz) xt rfl) ?_;refine B 2 ?_;refine yW ?_;intro b3 ez eP;refine B 6 ?_;refine ay (dq pn.1) ?_;refine Bl (λV=>hI (js.map (sW kv)++[pn.1]) V) hX hV zI rfl rfl rfl rfl (λW1 uf kX=>hy (js.map (sW kv)) (pn.1) V W1 (by have h9:=(n7g hnd pI xt sF).2.2;simp only[cy,eQ,dF,fh];omega) uf kX) ?_ ?_
 ·intro V hV;refine B 6 ?_;refine p5 ?_;refine PJ.again (js++[jn],V) ⟨(n7g hnd pI xt sF).1,(n7g hnd pI xt sF).2.1,hV⟩ (by have h9:=(n7g hnd pI xt sF).2.2;simp only[cy,dF,fh];omega) ⟨rfl,rfl,trivial⟩ rfl (by dsimp only;rw[n2o xt]) zI
 intro V hV;refine B 8 ?_;exact Bm (.inl rfl) results101 A0 hV zHb (λA hA=>.inr hA)
variable {Fin Pre:List Se->Prop}
theorem n9m{f:Nat}(az:ew prog f)(w:World)(lg:∀k,RO k->k<w.heap.size)(hlen:∀p,Pre p->p.length<=100000)(lX:∀W2,Below w.heap.size w W2->ue prog f cap (λs:Se=>[dq s]) Pre Fin (λ_=>False) RO W2):Calls prog 168 #[aj,.func (.func f) #[] cap.toArray] w (λe w'=>∃xs,Fin xs/\aD w dM 35 35 xs id e w'):=by
 refine Pe Gh.no [] (vs:=[_,_]) func168 rfl ntmps168 rfl (Je w) ?_;refine NA ?_;refine yW ?_;intro b2 dB dx;refine B 10 ?_;refine VY (f:=f) (cap:=cap) (α:=Se) (enc:=(λs:Se=>[dq s])) (Pre:=Pre) (Fin:=Fin) (RO:=RO) (MI:=λ_=>False) rfl az (λW W2 hS hB=>lX W2 ((hS.links w A0).below (by simp only[dy,eV,bX,dE,or_false,Gh.no,false_or];omega) |>.trans (hB.mono (hS.links w A0).size))) (λ_ _ _ hk=>hk.elim) (λW hS k hk=>by have h1:=lg k hk;have h2:=(hS.links w A0).size;exact⟨by omega,by simp only[dy,eV,bX,dE,or_false];omega,λh=>h⟩) (λ_=>rfl) (λpre G' Hc=>G'=Gh.no/\∃r:Rw,r.Fr Gh.no [w]/\r.Fit 35 pre/\Hc=[(b2,oC #[r.val pre.length] 38)]++(r.hp dM 35 pre++[])) (λ_ _ _=>False) ⟨rfl,.nil,True.intro,rfl,rfl⟩ zA ?_ ?_ ?_
 ·rintro pre x G' Hc l Dk rec W1 M V Wy ow vk dS ⟨rfl,r,aK,ah,rfl⟩ iQ lK Pg xZ dz C6;simp only[ae]at iQ xZ;have bG:r.ge w.heap.size:=Rw.ge_of aK A0;have iH:=hlen _ dS;simp only[cy,dF,fh]at iH;have DW:∀p∈r.hp dM 35 pre,M p.1\/V p.1:=λp hp=>dz.loc.h p UB;refine B 2 ?_;refine yW ?_;intro b5 sq su;refine B 2 ?_;refine PJ.reH (H':=book ([(b5,oC (dh x) 35)]++([(b2,oC #[r.val pre.length] 38)]++(r.hp dM 35 pre++[]))) l rec (fG Dk)) rfl ?_;refine Nc ow ?_;refine B 3 ?_;refine ay (.agg (dh x)) ?_;refine IL ?_;refine yW ?_;intro gB lY p6;refine kg (r:=r) (xs:=pre) (zs:=[x]) (enc:=dM) (m:=35) (H0:=[(gB,oC (dh x) 35),(b5,oC (dh x) 35),(b2,oC #[r.val pre.length] 38)]) (H1:=(l,.loop {rec with state:=.busy})::fG Dk) zW Oa nu rfl rfl rfl rfl (cd.one (z:=x) nu IK underlying38 (bB.own (i:=0) rfl)) ah (Rw.Fr_ext DW) zI Au ?_;intro gR oU oV jo kL;replace jo:=yb jo;refine B 3 ?_;refine BV ?_;refine Jg (G2:=Gh.no) (Hc2:=[(b2,oC #[(Rw.row gR oU oV).val (pre++[x]).length] 38)]++((Rw.row gR oU oV).hp dM 35 (pre++[x])++[])) dz lK ⟨λ_ h=>h,λ_ h=>.inl h,λ_ h=>.inl h,(UC rfl (jo.imp id (λh=>h.1))),zMc⟩ (Jh ow vk) ?_;exact zVg
 ·rintro pV l Dk rec G' Hc dO iQ lK ⟨rfl,r,aK,ah,rfl⟩;replace iQ:=yb iQ;have bG:r.ge w.heap.size:=Rw.ge_of aK A0;refine PV λWd xY=>?_;have mC:=UD xY;refine B 9 ?_;have hq:=λ(k:Nat)=>Rw.mem_ge (enc:=dM) (t:=35) (xs:=pV) (k:=k) bG;refine PJ.reH (H':=(b2,oC #[r.val pV.length] 38)::(r.hp dM 35 pV++(l,.loop rec)::fG Dk)) UE ?_;refine Bz (.inl rfl) zI λa W H' hF hS ef aQ=>?_;refine⟨_,by rw[results_tmp results168];exact congrArg (λu=>Result.ok u W) (hF 4 _ rfl),pV,dO,r,rfl,?_,bG,ah,?_⟩
  ·refine(hS.links w A0).below λk hk hx=>?_;exact Xm
  cases r with
  |nil=>trivial
  |row b cap sp=>exact hS.own _ (ef (b,aP dM 35 pV sp) oW (mC _ oW).1)
 exact Pj
theorem nWo{f:Nat}(az:ew prog f)(w:World)(lg:∀k,RO k->k<w.heap.size)(hlen:∀p,Pre p->p.length<=100000)(lX:∀W2,Below w.heap.size w W2->ue prog f cap (λs:Se=>[dq s]) Pre Fin (λ_=>False) RO W2):Calls prog 100 #[.func (.func f) #[] cap.toArray] w (λe w'=>∃xs,Fin xs/\aD w dM 35 35 xs id e w'):=by
 refine eN func100 ntmps100 ?_;refine B 8 ?_;refine UG (enc:=dM) (m:=35) (t:=35) (Fin:=Fin) (v:=id) call168 rfl rfl rfl (λW hS=>n9m az W (λk hk=>mx (lg k hk) (hS.links w A0).size) hlen (λW2 hB=>lX W2 (((hS.links w A0).below J5).trans (hB.mono (hS.links w A0).size)))) ?_;intro xs r dO aK ah;refine B 4 ?_;exact bK (.inl rfl) results100 aX λW hS=>⟨xs,dO,r,rfl,hS.base A0 Xo,Rw.ge_of aK A0,ah,by cases r with|nil=>exact True.intro|row b cap sp=>exact hS.own _ A0⟩
theorem nel{f:Nat}(az:ew prog f)(w:World)(lg:∀k,RO k->k<w.heap.size)(hlen:∀p,Pre p->p.length<=100000)(lX:∀W2,Below w.heap.size w W2->ue prog f cap (λs:Se=>[dq s]) Pre Fin (λ_=>False) RO W2)(kp:∀xs,Fin xs->xs.length<=100000):Calls prog 52 #[.func (.func f) #[] cap.toArray,.func (.func 54) #[] #[]] w (λe w'=>∃xs,Fin xs/\aD w dM 35 35 (gF xs) id e w'):=by
 refine eN func52 ntmps52 ?_;refine B 8 ?_;refine UG (enc:=dM) (m:=35) (t:=35) (Fin:=Fin) (v:=id) call100 rfl rfl rfl (λW hS=>nWo az W (λk hk=>mx (lg k hk) (hS.links w A0).size) hlen (λW2 hB=>lX W2 (((hS.links w A0).below J5).trans (hB.mono (hS.links w A0).size)))) ?_;intro xs r dO aK ah;have hxl:=kp xs dO;have bG:=Rw.ge_of aK A0;refine B 7 ?_;refine D5 (r:=r) (enc:=dM) (m:=35) (t:=35) (xs:=xs) (ys:=gF xs) (H0:=[]) (H1:=[]) (v:=λ_=>.tuple #[]) rfl call59 rfl rfl rfl (λhr W hS=>?_) (λb cap sp hr W hS h=>?_) ?_
 ·exact zOh
 ·subst hr;exact Oe aa ah h
 intro r2 gA ly qW jP;have iI:=ly aK;have eu:=qW _ bG;refine B 9 ?_;exact bK (.inl rfl) results52 aX λW hS=>⟨xs,dO,r2,by show Ending.returned (r.val _)=Ending.returned (r2.val _);rw[<-jP,Lc],hS.base A0 (by rw[eb];exact Rw.over eu),eu,gA,by cases r2 with|nil=>exact True.intro|row b cap sp=>exact hS.own _ A0⟩
noncomputable def ei (ns:List Nd) (node:Int):Option Int:=bU (dP ns) node
noncomputable def ah1 (o:Option Int):Value:=.tuple #[ab (o.getD 0),.bool o.isSome]
theorem Lh(o:Option Int):((o.map ab).getD (ab 0))=ab (o.getD 0):=by cases o<;>rfl
theorem nPc(ns:List Nd)(hn:ns.length<=100000)(N:Nat)(a:Option Addr)(cp:Nat)(w:World)(hN:N<=w.heap.size)(aJ:ai gb 2 N w a ns)(node:Int):Calls prog 36 #[.agg #[.slice a ns.length cp],ab node] w (aL w (ah1 (ei ns node))):=by
 refine eN func36 ntmps36 ?_;refine B 2 ?_;refine yX ?_;intro b2 w2 di bV ff dB dx;refine B 6 ?_;refine Kd ?_;refine znd ?_;intro bf m Ej Nu hm;replace Ej:=yb Ej;refine B 1 ?_;refine rq (.tuple #[ab ((ei ns node).getD 0),.bool (ei ns node).isSome]) (qz (ev:=ab) underlying165 underlying3 zeroValue3 hm (bB.own (i:=0) rfl) rfl rfl) (by unfold ei;rw[Lh]) ?_;refine B 16 ?_;refine cC (.inl rfl) results36 aX A1 zB ?_;rfl
theorem ngg(ns:List Nd)(vZ:ns.length<=90000)(l:List Ch)(Aq:l.length<=64)(qB:∀x∈l,ee x.dev)(N:Nat)(na:Option Addr)(nc:Nat)(a:Option Addr)(cp:Nat)(w:World)(hN:N<=w.heap.size)(RG:ai gb 2 N w na ns)(aJ:ai gC 5 N w a l):Calls prog 57 #[.agg #[.slice na ns.length nc],.slice a l.length cp] w (cK w (λq:Option Addr×Nat=>.agg #[.slice q.1 (aW ns l).length q.2]) (λq w1=>ai gb 2 w1.heap.size w1 q.1 (aW ns l)/\((l=[]/\q=(na,nc))\/∀b off,q.1=some ⟨b,off,none⟩->w.heap.size<=b))):=by
 refine eN func57 ntmps57 ?_;refine NA ?_;refine yW ?_;intro b2 dB dx;refine B 1 ?_;refine yW ?_;intro b4 ji jj;refine B 11 ?_;refine CJ.loop (α:=(Option Addr×Nat)×World×Nat) (λp=>[(2,ptr b2 0),(4,ptr b4 0),(7,.slice a l.length cp),(8,ab (l.length:Int)),(9,ab (p.2.2:Int))]) (λp=>[(b4,oC #[aj] 51),(b2,oC #[.slice p.1.1 (aW ns (l.take p.2.2)).length p.1.2] 51)]) (λp=>[p.2.1,w]) (λp=>Gh.no) (λp=>p.2.2<=l.length/\w.heap.size<=p.2.1.heap.size/\ai gb 2 p.2.1.heap.size p.2.1 p.1.1 (aW ns (l.take p.2.2))/\(∀b off,p.1.1=some ⟨b,off,none⟩->aW ns (l.take p.2.2)=[]\/(b≠b2/\b≠b4/\(b<N\/w.heap.size<=b)))/\((p.2.2=0/\p.1=(na,nc))\/∀b off,p.1.1=some ⟨b,off,none⟩->w.heap.size<=b)) (λp=>l.length-p.2.2) ((na,nc),w,0) ⟨cR _,ak _,RG.up hN R2,λb off e=>by rcases RG.lt e with h|h;(exact .inl h);exact .inr aa,.inl ⟨rfl,rfl⟩⟩ zR rfl rfl zI ?_;rintro⟨⟨ta,tc⟩,wk,j⟩ ⟨hj,sJ,ef,dZ,htn⟩;dsimp only at hj sJ ef dZ htn ⊢;refine B 6 ?_;refine aG ?_ ?_
 ·intro ar;refine B 5 ?_;obtain⟨bo,oo,cs0,to,fV,rfl,fP,cJ,aV⟩:=aJ.get aa;obtain⟨x,hx⟩:=ng l j aa;have hd:=qB x (cO hx);have NK:=nhk ns l j aa;refine X5 ?_;refine yW ?_;intro b6 jO qy;refine B 10 ?_;refine aG ?_ ?_
  ·intro aN;refine B 4 ?_;refine OJ.dropAt (i:=0) rfl zC ?_;refine nG (enc:=gS) (m:=2) (t:=240) (xs:=o9 (aW ns (l.take j)) x.dev) (v:=λs=>.tuple #[.agg #[s],ab (uB (aW ns (l.take j)) x.dev)]) (first:=[]) (cap:=[]) rfl call35 rfl rfl rfl P0 (λW hS=>nzf (aW ns (l.take j)) aa W.heap.size ta tc W (ak _) (ef.to hS A0 (ak _) (λb off e=>by rcases dZ b off e with h9|h9;(exact .inl h9);rcases ef.lt e with h8|h8;(exact .inl h8);refine .inr ?_;simp only[bA,dm,dX,sy,and_true];omega)) x.dev hd) ?_;intro W9 a9 EB Iz cj xw jr jR;have QG:=cj.under;simp only[Ia,dm,dX,sy,and_true]at QG;have Ya:=xw.size;have V7:=(cj.links w A1).size;refine B 11 ?_;refine PJ.again ((a9,EB),Iz,j+1) ⟨by dsimp only;omega,by dsimp only;omega,by dsimp only;rw[n4f hx eE];exact jr,λb off e=>by have:=jR _ e;dsimp only at this;exact .inr aa,.inr λb off e=>by have:=jR _ e;dsimp only at this ⊢;omega⟩ zS zR (by rw[n4f hx eE];rfl) rfl zI
  intro aN;refine B 6 ?_;refine OJ.dropAt (i:=0) rfl zC ?_;refine nG (enc:=gS) (m:=2) (t:=240) (xs:=mK (aW ns (l.take j)) x.dev x.pub) (v:=λs=>.tuple #[.agg #[s],ab (uC (aW ns (l.take j)) x.dev x.pub)]) (first:=[]) (cap:=[]) rfl call34 rfl rfl rfl P0 (λW hS=>nEh (aW ns (l.take j)) aa W.heap.size ta tc W (ak _) (ef.to hS A0 (ak _) (λb off e=>by rcases dZ b off e with h9|h9;(exact .inl h9);rcases ef.lt e with h8|h8;(exact .inl h8);refine .inr ?_;simp only[bA,dm,dX,sy,and_true];omega)) x.dev x.pub hd aa) ?_;intro W9 a9 EB Iz cj xw jr jR;have QG:=cj.under;simp only[Ia,dm,dX,sy,and_true]at QG;have Ya:=xw.size;have V7:=(cj.links w A1).size;refine B 11 ?_;refine PJ.again ((a9,EB),Iz,j+1) ⟨by dsimp only;omega,by dsimp only;omega,by dsimp only;rw[nUf hx eE];exact jr,λb off e=>by have:=jR _ e;dsimp only at this;exact .inr aa,.inr λb off e=>by have:=jR _ e;dsimp only at this ⊢;omega⟩ zS zR (by rw[nUf hx eE];rfl) rfl zI
 intro ar;refine B 6 ?_;rw[nfl _ _ _ aa]at ef dZ ⊢;refine B 6 ?_;exact bK (.inl rfl) results57 aX λW hS=>⟨(ta,tc),rfl,hS.base A1 zD,ef.to hS A0 (ak _) (λb off e=>by rcases dZ b off e with h9|h9;(exact .inl h9);exact .inr zz),htn.imp (λh=>⟨lN (by have:=h.1;omega),h.2⟩) id⟩
noncomputable def zk (Z:Fx) (cs:List Cm) (p:Nat×Gp):List (Nat×Gp):=(AI Z cs p.2).map λj=>(j,lj Z p.2 (lQ cs j))
noncomputable def CL (Z:Fx) (cs:List Cm):Nat->List (Nat×Gp)->List (Nat×Gp)
 |0,_=>[]
 |_+1,[]=>[]
 |n+1,q::qs=>q::CL Z cs n (qs++zk Z cs q)
noncomputable def mf (Z:Fx) (cs:List Cm) (fo:Fo):List (Nat×Gp):=match tO Z cs fo with
 |none=>[]
 |some i=>CL Z cs (cs.length+1) [(i,lj Z (g0 fo) (lQ cs i))]
theorem Lj(Z:Fx)(cs:List Cm)(n:Nat):CL Z cs n []=[]:=by cases n<;>rfl
theorem nuo{α β γ:Type}{f:α->β}{h:α->γ}:∀{l:List α},(l.map f).Nodup->(∀a∈l,∀b∈l,h a=h b->f a=f b)->(l.map h).Nodup:=
 by intro x;induction x<;>(intros;grind)
theorem nnp(Z:Fx)(cs:List Cm)(g:Gp):(vy Z cs g (bF Z cs cs.length).length).Nodup:=by grind [vy,nuo,nsg,Vc]
theorem nLl(Z:Fx)(cs:List Cm)(g:Gp):(AI Z cs g).Perm (vy Z cs g (bF Z cs cs.length).length):=List.mergeSort_perm _ _
theorem n6j(h:j∈AI Z cs g):∃c,cs[j]? =some c/\(dk (aB Z c),(j:Int))∈bF Z cs cs.length/\dk c.par=dk g.last/\jC Z g c=0:=by
 have h1:=(nLl Z cs g).mem_iff.1 h;obtain⟨c,hc,hm⟩:=nDj h1;refine⟨c,hc,hm,?_⟩;have h2:=(uU.1 h1).2;all_goals grind [Fj,Ra]
structure QOk (Z:Fx) (cs:List Cm) (p:Nat×Gp):Prop where
 c:∃c,cs[p.1]? =some c/\(dk (aB Z c),(p.1:Int))∈bF Z cs cs.length/\p.2.last=aB Z c/\p.2.epoch=c.epoch
theorem RH{k:Dk}{i j:Int}(h1:(k,i)∈bF Z cs cs.length)(h2:(k,j)∈bF Z cs cs.length):i=j:=by
 have nd:=nsg Z cs cs.length;obtain⟨a,ha⟩:=kA.1 h1;obtain⟨b,hb⟩:=kA.1 h2;have e1:((bF Z cs cs.length).map (·.1))[a]? =some k:=by rw[sC,ha];rfl
 have e2:((bF Z cs cs.length).map (·.1))[b]? =some k:=by rw[sC,hb];rfl
 have tN:a=b:=(List.getElem?_inj (by rw[eQ];exact nr ha) nd).1 (e1.trans e2.symm);all_goals grind
structure QI (Z:Fx) (cs:List Cm) (vs qs:List (Nat×Gp)):Prop where
 nd:((vs++qs).map (·.1)).Nodup
 ok:∀p∈vs++qs,QOk Z cs p
 par:∀p∈vs++qs,∀c,cs[p.1]? =some c->c.epoch=1\/∃r∈vs,dk c.par=dk r.2.last
 ge:∀p∈vs++qs,1<=p.2.epoch
theorem QI.len{qs:List (Nat×Gp)}(h:QI Z cs vs qs):vs.length+qs.length<=cs.length:=by
 have h1:=Xw cs.length _ h.nd λj hj=>by
  obtain⟨p,hp,rfl⟩:=bW.1 hj;obtain⟨c,hc,_⟩:=(h.ok p hp).c;exact nr hc
 simpa using h1
theorem QI.step{qs:List (Nat×Gp)}{q:Nat×Gp}(h:QI Z cs vs (q::qs)):QI Z cs (vs++[q]) (qs++zk Z cs q):=by
 have e:(vs++[q])++(qs++zk Z cs q)=(vs++q::qs)++zk Z cs q:=by simp
 have FI:(zk Z cs q).map (·.1)=AI Z cs q.2:=by unfold zk;rw[List.map_map];exact(List.map_congr_left λ_ _=>rfl).trans (List.map_id _)
 have rB:∀p∈zk Z cs q,∃c,cs[p.1]? =some c/\(dk (aB Z c),(p.1:Int))∈bF Z cs cs.length/\dk c.par=dk q.2.last/\jC Z q.2 c=0/\p.2=lj Z q.2 c:=by
  intro p hp;obtain⟨j,hj,rfl⟩:=bW.1 hp;obtain⟨c,h1,h2,h3,h4⟩:=n6j hj;exact⟨c,h1,h2,h3,h4,by show lj Z q.2 (lQ cs j)=_;unfold lQ;rw[h1];rfl⟩
 have hq:q∈vs++q::qs:=bj.2 (.inr A0);have jE:=h.ge q hq;refine⟨?_,λp hp=>?_,λp hp c hc=>?_,λp hp=>?_⟩
 ·rw[e,gz,FI,List.nodup_append];refine⟨h.nd,(nLl Z cs q.2).nodup_iff.2 (nnp Z cs q.2),λa ha b hb tN=>?_⟩;subst tN;obtain⟨p,hp,e1⟩:=bW.1 ha;obtain⟨c,h1,_,h3,h4⟩:=n6j hb;have he:=n7e h4;rcases h.par p hp c (by rw[e1];exact h1)with h5|⟨r,hr,h5⟩
  ·omega
  obtain⟨c1,_,g2,g3,_⟩:=(h.ok q hq).c;obtain⟨c2,_,k2,k3,_⟩:=(h.ok r (bj.2 (.inl hr))).c;have e2:dk (aB Z c1)=dk (aB Z c2):=by rw[<-g3,<-k3,<-h3,h5]
  rw[e2]at g2;have e3:q.1=r.1:=by have:=RH g2 k2;omega
  have nd:=h.nd;rw[gz,List.nodup_append]at nd;exact nd.2.2 r.1 (bW.2 ⟨r,hr,rfl⟩) q.1 zI e3.symm
 ·rw[e]at hp;rcases bj.1 hp with hp|hp
  ·exact h.ok p hp
  obtain⟨c,h1,h2,_,_,h5⟩:=rB p hp;exact⟨c,h1,h2,by rw[h5];rfl,by rw[h5];rfl⟩
 ·rw[e]at hp;rcases bj.1 hp with hp|hp
  ·exact(h.par p hp c hc).imp id λ⟨r,hr,h5⟩=>⟨r,bj.2 (.inl hr),h5⟩
  obtain⟨c',h1,_,h3,_⟩:=rB p hp;rw[h1]at hc;cases hc;exact .inr ⟨q,by simp,h3⟩
 rw[e]at hp;rcases bj.1 hp with hp|hp
 ·exact h.ge p hp
 obtain⟨c,_,_,_,h4,h5⟩:=rB p hp;have:=n7e h4;rw[h5];show 1<=c.epoch;omega
structure FJ (Z:Fx) (cs:List Cm) (fo:Fo) (vs qs:List (Nat×Gp)):Prop where
 qi:QI Z cs vs qs
 eq:∃n,vs++CL Z cs n qs=mf Z cs fo/\cs.length+1<=n+vs.length
theorem FJ.first(h:tO Z cs fo=some (kC d))(hd:uV Z cs (g0 fo) d):FJ Z cs fo [] [sj d]:=by
 have hx:d.x.g=lj Z (g0 fo) (lQ cs (kC d)):=hd.nx;have he:=n7e hd.ok;have hm:(dk (aB Z d.c),((kC d:Nat):Int))∈bF Z cs cs.length:=by
  unfold tO N9 at h;split at h
  ·cases h
  rename_i h0;rw[Option.bind_eq_some_iff]at h;obtain⟨i,h1,h2⟩:=h;rw[AF]at h1;obtain⟨p,hp,e1⟩:=h1;obtain⟨j,c,f1,_,f3,f4⟩:=Vc Z cs _ p (cO hp);have uz:i=j:=by rw[<-e1,f1,yz]
  subst uz;split at h2
  ·have e3:=Option.some.inj h2;subst e3;rw[hd.at_]at f3;cases f3;have:=cO hp;rw[show p=(p.1,p.2)from rfl,f4,f1]at this;exact this
  cases h2
 refine⟨⟨by simp,λp hp=>?_,λp hp c hc=>?_,λp hp=>?_⟩,cs.length+1,?_,by simp⟩
 ·simp only[eL,ka]at hp;subst hp;exact⟨d.c,hd.at_,hm,by show d.x.g.last=_;rw[hd.x];rfl,by show d.x.g.epoch=_;rw[hd.x];rfl⟩
 ·simp only[eL,ka]at hp;subst hp;have:cs[kC d]? =some c:=hc;rw[hd.at_]at this;cases this;exact .inl (by rw[he];rfl)
 ·simp only[eL,ka]at hp;subst hp;show 1<=d.x.g.epoch;rw[hd.x];show 1<=d.c.epoch;rw[he];show(1:Int)<=0+1;decide
 unfold mf;rw[h,eL];show CL Z cs (cs.length+1) [(kC d,d.x.g)]=_;rw[hx]
theorem FJ.step{qs:List (Nat×Gp)}{q:Nat×Gp}(h:FJ Z cs fo vs (q::qs)):FJ Z cs fo (vs++[q]) (qs++zk Z cs q):=by
 obtain⟨n,h1,h2⟩:=h.eq;have hl:=h.qi.len;simp only[dF]at hl;obtain⟨m,rfl⟩:∃m,n=m+1:=⟨n-1,by omega⟩;exact⟨h.qi.step,m,by rw[<-h1];simp[CL],by simp only[cy,dF,fh];omega⟩
theorem FJ.done(h:FJ Z cs fo vs []):vs=mf Z cs fo:=by
 obtain⟨n,h1,_⟩:=h.eq;rw[Lj,eb]at h1;exact h1
theorem FJ.none(h:tO Z cs fo=none):mf Z cs fo=[]:=by unfold mf;rw[h]
theorem nJn{ds:List Cd}(hm:ds.map kC=AI Z cs d.x.g)(hd:∀x∈ds,sS Z cs d.x.g x):ds.map sj=zk Z cs (sj d):=by
 unfold zk;show _=(AI Z cs d.x.g).map _;rw[<-hm,List.map_map];refine List.map_congr_left λx hx=>?_;show(kC x,x.x.g)=(kC x,lj Z d.x.g (lQ cs (kC x)));rw[(hd x hx).le.nx]
theorem bS.fz(h:bS N w x)(hn:dA K x):∃F:ad,(∀p∈F,K<=p.1/\w.heap[p.1]? =some p.2)/\sg F x:=by
 have key:∀{α:Type} {enc:α->Array Value} {n:Nat} {a:Option Addr} {xs:List α},ai enc n N w a xs->(∀q,a=some q->xs=[]\/K<=q.block)->∃F:ad,(∀p∈F,K<=p.1/\w.heap[p.1]? =some p.2)/\lC enc n F a xs:=by
  intro α enc n a xs h1 h2;by_cases h0:xs=[]
  ·exact⟨[],by simp,.inl h0⟩
  exact h1.fs λq hq=>(h2 q hq).resolve_left h0
 obtain⟨F1,ze,xD⟩:=key h.ms hn.1;obtain⟨F2,N8,N2⟩:=key h.ns hn.2;exact⟨F1++F2,λp hp=>(bj.1 hp).elim (ze p) (N8 p),xD.mono (λp hp=>bj.2 (.inl hp)),N2.mono (λp hp=>bj.2 (.inr hp)),h.mn,h.nn⟩
theorem bS.fzAll{N K:Nat}{w:World}:∀{ds:List Cd},(∀d∈ds,bS N w d.x/\dA K d.x)->∃F:ad,(∀p∈F,K<=p.1/\w.heap[p.1]? =some p.2)/\∀d∈ds,sg F d.x
 | [],_=>⟨[],by simp,by simp⟩
 |d::ds,h=>by
  obtain⟨F1,h1,h2⟩:=(h d A0).1.fz (h d A0).2;obtain⟨F2,h3,h4⟩:=bS.fzAll λx hx=>h x (.tail _ hx);refine⟨F1++F2,λp hp=>(bj.1 hp).elim (h1 p) (h3 p),λx hx=>?_⟩;rcases bX.1 hx with rfl|hx
  ·exact h2.mono λp hp=>bj.2 (.inl hp)
  exact(h4 x hx).mono λp hp=>bj.2 (.inr hp)
theorem n3h(hZ:FxOk Z)(cs:List Cm)(cJ:cs.length<=1000)(dC:∀c∈cs,bO c)(N:Nat)(la:Option Addr)(lc:Nat)(w:World)(hN:N<=w.heap.size)(aJ:ai cG 73 N w la cs)(hC:∀c∈cs,du N w c)(ia:Option Addr)(ic:Nat)(ta:Option Addr)(tc:Nat)(hp:ph Z cs N w ⟨ia,ic,ta,tc⟩)(G:Gv)(hG:bS N w G)(hg:Glb w):Calls prog 63 #[.agg (zb Z cs la lc ⟨ia,ic,ta,tc⟩),.agg (bD G)] w (λe w'=>∃(x:(Option Addr×Nat)×List Cd) (F':ad),e= .returned (.slice x.1.1 x.2.length x.1.2)/\Below w.heap.size w w'/\(∀p∈F',w.heap.size<=p.1/\w'.heap[p.1]? =some p.2)/\(x.2.map kC=AI Z cs G.g/\(∀d∈x.2,sS Z cs G.g d/\sg F' d.x)/\lC iS 143 F' x.1.1 x.2)):=by
 refine(nEi hZ cs cJ dC N la lc w hN aJ hC ia ic ta tc hp G hG hg).mono ?_;rintro e w' ⟨ds,⟨hm,iE⟩,r,rfl,hb,jE,bM,fB⟩;obtain⟨F1,h1,h2⟩:=bS.fzAll λd hd=>(iE d hd).2;obtain⟨a,c,he,aJ⟩:=r.sl E9 bM fB (ak w'.heap.size);obtain⟨F2,h3,h4⟩:=aJ.fs (K:=w.heap.size) (by
  intro q hq;cases r with
  |nil=>simp only[Rw.val,Value.slice.injEq]at he;rw[<-he.1]at hq;cases hq
  |row b cap sp=>simp only[Rw.val,Value.slice.injEq]at he;rw[<-he.1]at hq;cases hq;exact jE)
 exact⟨((a,c),ds),F1++F2,by show Ending.returned (r.val ds.length)=_;rw[he],hb,λp hp=>(bj.1 hp).elim (h1 p) (h3 p),hm,λd hd=>⟨(iE d hd).1,(h2 d hd).mono λp hp=>bj.2 (.inl hp)⟩,h4.mono λp hp=>bj.2 (.inr hp)⟩
theorem n4m(hZ:FxOk Z)(cs:List Cm)(cJ:cs.length<=1000)(dC:∀c∈cs,bO c)(N:Nat)(la:Option Addr)(lc:Nat)(w:World)(hN:N<=w.heap.size)(aJ:ai cG 73 N w la cs)(hC:∀c∈cs,du N w c)(ia:Option Addr)(ic:Nat)(ta:Option Addr)(tc:Nat)(hp:ph Z cs N w ⟨ia,ic,ta,tc⟩)(fo:Fo)(hg:Glb w):Calls prog 62 #[.agg (zb Z cs la lc ⟨ia,ic,ta,tc⟩),.agg (sT fo)] w (λe w'=>∃(x:Cd×Bool) (F':ad),e= .returned (.tuple #[.agg (iS x.1),.bool x.2])/\Below w.heap.size w w'/\(∀p∈F',w.heap.size<=p.1/\w'.heap[p.1]? =some p.2)/\((x.2=true/\tO Z cs fo=some (kC x.1)/\uV Z cs (g0 fo) x.1/\sg F' x.1.x)\/(x.2=false/\tO Z cs fo=none))):=by
 refine(nNo hZ cs cJ dC N la lc w hN aJ hC ia ic ta tc hp fo hg).mono ?_;rintro e w' ⟨x,rfl,hb,h|h⟩
 ·obtain⟨F,h1,h2⟩:=h.2.2.2.1.fz h.2.2.2.2;exact⟨x,F,rfl,hb,h1,.inl ⟨h.1,h.2.1,h.2.2.1,h2⟩⟩
 exact⟨x,[],rfl,hb,by simp,.inr h⟩
end Px
