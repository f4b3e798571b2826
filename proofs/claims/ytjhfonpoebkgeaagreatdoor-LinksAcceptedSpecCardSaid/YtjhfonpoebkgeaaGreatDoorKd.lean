/- Contracts of functions of the program. No conditions. -/
import Derived.Test.YtjhfonpoebkgeaaGreatDoorKc
import Derived.Test.YtjhfonpoebkgeaaGreatDoorProg
import Derived.Shelf.Small.Strs
set_option linter.unusedSimpArgs false
set_option linter.unusedVariables false
set_option linter.unusedSectionVars false
set_option maxRecDepth 20000
set_option maxHeartbeats 8000000
namespace Px
open Go Go.RowKit Go.Proofs Go.Proofs.Tryz
theorem ntq{zs:Array Int}:∀{m:Nat},m<=zs.size->∀(j:Nat),j<m->zs[j]! ∈Go.Lib.compactUpTo zs m
 |0,_,j,h=>by omega
 |m+1,hm,j,h=>by
  rw[Go.Lib.compactUpTo_succ];have ih:=ntq (zs:=zs) (m:=m) aa
  (simp[V4,Go.Lib.keeps];grind)
theorem nzr{zs:List Int}{x:Int}(h:x∈zs):x∈Go.Lib.compact zs:=by
 obtain⟨j,hj⟩:=iB.1 h;have hl:=aG hj;have:=ntq (zs:=zs.toArray) (m:=zs.length) (aC _) j hl;have e:zs.toArray[j]! =x:=by
  rw[getElem!_pos zs.toArray j aa];simpa using(qe.1 hj).2
 rw[e]at this;exact this
variable {x:Ch} {c:Cm} {Z:Fx} {g:Gp} {au d e k:Int} {kv:List (Int×Int)} {l:List Ch} {cs:List Cm} {ms xs:List Mb} {ns:List Nd} {i j:Nat} {f:Nat->Int} {n:Nd}
theorem Sq:d∈dX ns↔bM d/\∃n∈ns,n.at_=512+d:=by
 have e:d∈dX ns↔d∈oM ns:=⟨λh=>(List.mergeSort_perm (oM ns) _).mem_iff.1 (nKi h),λh=>nzr ((List.mergeSort_perm (oM ns) _).mem_iff.2 h)⟩;rw[e];unfold oM bM
 grind
theorem V5:(al (bh ns) k).isSome=true↔∃n∈ns,n.at_=k:=by
 have key:∀j,(al (bh (ns.take j)) k).isSome=true↔∃n∈ns.take j,n.at_=k:=by
  intro j;induction j with
  |zero=>simp[bh,al,eK]
  |succ j ih=>
   cases hx:ns[j]? with
   |none=>grind [List.take_of_length_le]
   |some x=>
    rw[nch hx,nk hx]
    grind [By,nS]
 have:=key ns.length
 grind
theorem FQ{p:Int}(h:al (bh ns) k=some p):∃n∈ns,n.at_=k/\n.pub=p:=by
 have key:∀j p,al (bh (ns.take j)) k=some p->∃n∈ns.take j,n.at_=k/\n.pub=p:=by
  intro j;induction j with
  |zero=>grind [bh,al,eK]
  |succ j ih=>
   intro p h;cases hx:ns[j]? with
   |none=>grind [List.take_of_length_le]
   |some x=>
    rw[nch hx]at h;rw[nk hx]
    grind [By,nS]
 exact(λ⟨n,h1,h2⟩=>⟨n,aYt h1,h2⟩) (key ns.length p (by rwa[Ko]))
def aaM (kv:List (Int×Int)):Prop:=∀k p,al kv k=some p->1<=k/\k<=1023/\dr p/\∃d,bM d/\(al kv (512+d)).isSome=true/\(k=512+d\/k∈da d)
theorem Lu(n:Int):∀(l:List Int) (kv:List (Int×Bool)),al (l.foldl En kv) n=some true↔n∈l\/al kv n=some true:=by
 intro l;induction l<;>grind [En,nS]
theorem nto(n:Int):∀(ds:List Int) (kv:List (Int×Bool)),al (ds.foldl Zb kv) n=some true↔(∃d∈ds,n=512+d\/n∈da d)\/al kv n=some true:=by
 intro ds;induction ds<;>grind [Zb,Lu,nS]
theorem Sr(h:mE ns):aaM (bh ns):=by
 intro k p hk;obtain⟨n,hn,rfl,rfl⟩:=FQ hk;obtain⟨i,hi⟩:=iB.1 hn;obtain⟨h1,h2,_,h4,h5⟩:=h i n hi
 grind [vq,nto,Sq,V5,al,eK]
theorem ndm:(al kv k).isSome=true↔k∈kv.map (·.1):=by
 rw[<-Option.ne_none_iff_isSome,Ne,n6l,Classical.not_not]
theorem n6i(h:n∈lb kv):al kv n.at_=some n.pub:=by
 obtain⟨k,hk,rfl⟩:=dO.1 h;have:=ndm.2 ((List.mergeSort_perm _ _).mem_iff.1 hk);cases e:al kv k<;>grind
theorem npn{p:Int}(h:al kv k=some p):(⟨k,p⟩:Nd)∈lb kv:=by
 refine dO.2 ⟨k,(List.mergeSort_perm _ _).mem_iff.2 (ndm.1 (by rw[h];rfl)),by rw[h];rfl⟩
theorem n5d(k:Int):al (bh (lb kv)) k=al kv k:=by
 cases e:al kv k with
 |none=>
  cases e2:al (bh (lb kv)) k<;>grind [FQ,n6i]
 |some p=>
  have h1:=V5.2 ⟨_,npn e,rfl⟩;cases e2:al (bh (lb kv)) k<;>grind [FQ,n6i]
theorem FR(hn:(kv.map (·.1)).Nodup)(h:aaM kv):mE (lb kv):=by
 intro i x hx;have hm:=cF hx;obtain⟨h1,h2,h3,d,h4,h5,h6⟩:=h _ _ (n6i hm);refine⟨h1,h2,λy hi hy=>?_,h3,?_⟩
 ·have hs:(eR (kv.map (·.1))).Pairwise (λa b=>decide (a<=b)=true):=List.pairwise_mergeSort mZ mZ _;have hd:(eR (kv.map (·.1))).Nodup:=(List.mergeSort_perm _ _).nodup_iff.2 hn;unfold lb at hx hy;rw[alt,R5]at hx hy;obtain⟨a,ha,rfl⟩:=hx;obtain⟨b,hb,rfl⟩:=hy
  (intros;grind [List.getElem?_eq_some_iff,List.pairwise_iff_getElem])
 unfold vq;rw[nto];refine .inl ⟨d,Sq.2 ⟨h4,?_⟩,h6⟩;cases e:al kv (512+d)with
 |none=>grind
 |some p=>exact⟨_,npn e,rfl⟩
theorem nvq(h:(kv.map (·.1)).Nodup)(k:Int):((gR kv k).map (·.1)).Nodup:=by
 grind [gR]
theorem FT(k:Int):∀(l:List Int) (kv:List (Int×Int)),(kv.map (·.1)).Nodup->((l.foldl ik kv).map (·.1)).Nodup/\al (l.foldl ik kv) k=if k∈l then none else al kv k:=by
 intro l;induction l<;>grind [ik,nvq,nwo]
theorem FU(h:(kv.map (·.1)).Nodup)(d k:Int):((mF kv d).map (·.1)).Nodup/\al (mF kv d) k=if k=512+d\/k∈da d then none else al kv k:=by
 grind [FT,ik,nvq,mF,nwo]
theorem ngl{x:Int}(hd:bM d)(h:x∈da d):x<512:=by
 obtain⟨n,hn,rfl⟩:=dO.1 h;have:=Vd n hn
 grind [mC]
theorem Oz(h:mE ns)(hd:bM d)(hn:(kv.map (·.1)).Nodup)(hk:∀k,al kv k=if k=512+d then al kv k else if k∈da d then none else al (bh ns) k)(hg:∀p,al kv (512+d)=some p->dr p):mE (lb kv)/\∀J,bM J->J≠d->al (bh (lb kv)) (512+J)=al (bh ns) (512+J):=by
 have BX:∀J,bM J->J≠d->al kv (512+J)=al (bh ns) (512+J):=λJ h1 h2=>by
  rw[hk,if_neg aa,if_neg (λh3=>by have:=ngl hd h3;grind)]
 refine⟨FR hn λk p e=>?_,λJ h1 h2=>by grind [n5d]⟩;by_cases h1:k=512+d
 ·grind
 have e2:=e;rw[hk,if_neg h1]at e2;split at e2
 ·cases e2
 obtain⟨f1,f2,f3,J,f4,f5,f6⟩:=Sr h k p e2
 grind
theorem FV(h:fX ns=0)(hd:bM x.dev)(hg:¬x.kind=2->dr x.pub)(hr:x.kind=2->(al (bh ns) (512+x.dev)).isSome=true):(if x.kind=2 then sE ns x.dev else sF ns x.dev x.pub)=0/\fX (qU ns x)=0/\∀J,bM J->J≠x.dev->al (bh (qU ns x)) (512+J)=al (bh ns) (512+J):=by
 have ht:=BB.1 h;unfold qU;by_cases hk:x.kind=2
 ·rw[if_pos hk,if_pos hk];refine⟨by grind [sE],?_⟩;unfold iD;rw[if_pos ⟨h,hr hk⟩,BB];refine Oz ht hd (FU (Ej ns) _ 0).1 (λk=>?_) (λp e=>?_);all_goals grind [FU,Ej]
 rw[if_neg hk,if_neg hk];refine⟨by grind [sF],?_⟩;unfold il;rw[if_pos ⟨h,hg hk⟩,BB];refine Oz ht hd (QT (FU (Ej ns) _ 0).1) (λk=>?_) (λp e=>?_);all_goals grind [FU,Ej,nS]
theorem neo(h:uI x)(hk:¬x.kind=2):dr x.pub:=by
 rcases h.1 with h|h|h;all_goals grind
theorem Lv:∀(j:Nat) (x:Ch),x∈l.take j->al (KI (l.take j)) x.dev=some true:=by
 intro j;induction j with
 |zero=>simp
 |succ j ih=>
  intro x h;cases hx:l[j]? with
  |none=>grind [List.take_of_length_le]
  |some y=>
   rw[n6e hx,nS];rw[nk hx]at h
   grind
theorem nPq(hf:uJ l){y:Ch}(hx:l[j]? =some x)(hy:l[i]? =some y)(hi:j<i):y.dev≠x.dev:=by
 have h1:=(hf.1 i y (aG hy) hy).2;have h2:=Lv i x (iB.2 ⟨j,by rw[List.getElem?_take,if_pos hi];exact hx⟩)
 grind
theorem nir{xs:List Int}(h:xs.Pairwise (λa b=>a<=b)):(Go.Lib.compact xs).Pairwise (λa b=>a<b):=by
 unfold Go.Lib.compact Go.Lib.compactUpTo;rw[List.pairwise_map];have h0:((List.range xs.length).filter (Go.Lib.keeps xs.toArray)).Pairwise (λi j=>(i<j/\j<xs.length)/\Go.Lib.keeps xs.toArray j=true):=by
  refine(List.pairwise_lt_range.filter _).imp_of_mem λ{i j} _ hj J=>?_;obtain⟨h1,h2⟩:=vy.1 hj;exact⟨⟨J,xe.1 h1⟩,h2⟩
 refine h0.imp λ{i j} hh=>?_;obtain⟨⟨J,hj⟩,hk⟩:=hh;have hd:xs.toArray[j]! ≠xs.toArray[j-1]!:=by
  unfold Go.Lib.keeps at hk;simp only[decide_eq_true_eq]at hk;rcases hk with hk|hk
  ·omega
  exact hk
 have hle:=List.pairwise_iff_getElem.1 h
 grind
noncomputable def jJ (x a:Int):Bool:=(ke x.toNat).any (λn=>decide ((n:Int)=a))||decide (1<=x/\a=1)
theorem Lw:∀n:Nat,1<n->∀x,x∈(ke n).map mC↔x=1\/(x∈ke n/\x≠n):=by
 intro n;induction n using Nat.strongRecOn with
 |ind n ih=>
  intro h x;rw[Ag h];rw[jv,ft,ft,show mC n=n/2 from rfl];by_cases h2:1<n/2
  ·have h3:=ih (n/2) aa h2 x;rw[h3];constructor
   ·rintro(h|h|h)
    ·grind [Ag]
    ·omega
    exact .inr ⟨.inr h.1,by have:=Vd x h.1;omega⟩
   grind
  rw[Kf h2];simp;omega
theorem nki{a:Int}(hd:bM d):jJ (512+d) a=true↔a=512+d\/a∈da d:=by
 obtain⟨k,hk⟩:∃k:Nat,(512+d).toNat=k:=⟨_,rfl⟩;have h1:=Lw k aa;unfold jJ da;simp;constructor
 ·rintro(⟨x,hx,rfl⟩|⟨_,rfl⟩)
  ·grind
  obtain⟨y,hy,e2⟩:=dO.1 ((h1 1).2 (.inl rfl))
  grind
 rintro(rfl|⟨y,hy,rfl⟩);all_goals grind [Ag]
def NdR (ns:List Nd) (i:Nat) (x:Nd):Prop:=(1<=x.at_/\x.at_<=1023/\(∀y,0<i->ns[i-1]? =some y->y.at_<x.at_)/\dr x.pub)/\ns.any (λy=>decide (512<=y.at_)&&jJ y.at_ x.at_)=true
theorem trR:(∀(i:Nat) (x:Nd),ns[i]? =some x->NdR ns i x)↔mE ns:=by
 have key:(∀(i:Nat) (x:Nd),ns[i]? =some x->1<=x.at_/\x.at_<=1023)->∀a:Int,al (vq (dX ns)) a=some true↔ns.any (λy=>decide (512<=y.at_)&&jJ y.at_ a)=true:=by
  intro h a;unfold vq;rw[nto];simp only[List.any_eq_true,vU,decide_eq_true_eq];constructor
  ·rintro(⟨d,hd,h2⟩|h2)
   ·obtain⟨h3,y,h4,h5⟩:=Sq.1 hd;exact⟨y,h4,by grind,by rw[h5];grind [nki]⟩
   grind [al,eK]
  rintro⟨y,hy,h2,h3⟩;obtain⟨i,hi⟩:=iB.1 hy;have h4:=h i y hi;have h5:bM (y.at_-512):=⟨by omega,by omega⟩;refine .inl ⟨y.at_-512,Sq.2 ⟨h5,y,hy,by omega⟩,(nki h5).1 cM⟩
 constructor
 ·intro h i x hx;obtain⟨⟨h1,h2,h3,h4⟩,h5⟩:=h i x hx;exact⟨h1,h2,h3,h4,(key (λi x hx=>⟨(h i x hx).1.1,(h i x hx).1.2.1⟩) _).2 h5⟩
 intro h i x hx;obtain⟨h1,h2,h3,h4,h5⟩:=h i x hx;exact⟨⟨h1,h2,h3,h4⟩,(key (λi x hx=>⟨(h i x hx).1,(h i x hx).2.1⟩) _).1 h5⟩
abbrev sO (ns:List Nd):Prop:=ns.Pairwise λa b=>a.at_<b.at_
theorem Lx(h:∀(i:Nat) (x y:Nd),ns[i]? =some y->ns[i+1]? =some x->y.at_<x.at_):sO ns:=by
 induction ns with
 |nil=>exact .nil
 |cons a l ih=>
  have h2:sO l:=ih λi x y h1 h2=>h (i+1) x y cM cM;refine List.pairwise_cons.2 ⟨λb hb=>?_,h2⟩;cases l with
  |nil=>cases hb
  |cons c l=>
   have h3:a.at_<c.at_:=h 0 c a rfl rfl;all_goals grind [List.pairwise_cons]
theorem mE.srt(h:mE ns):sO ns:=Lx λi x y h1 h2=>(h (i+1) x h2).2.2.1 y aa h1
theorem sO.inj(h:sO ns){x y:Nd}(hx:x∈ns)(hy:y∈ns)(e:x.at_=y.at_):x=y:=by
 induction ns<;>grind [List.pairwise_cons]
theorem sO.get(h:sO ns){x:Nd}(hx:x∈ns):al (bh ns) x.at_=some x.pub:=by
 cases e:al (bh ns) x.at_ with
 |none=>grind [V5]
 |some p=>obtain⟨n,hn,h1,rfl⟩:=FQ e;rw[h.inj hn hx h1]
theorem njg{α:Type}{k:α->Int}:∀{xs ys:List α},xs.Pairwise (λa b=>k a<k b)->ys.Pairwise (λa b=>k a<k b)->(∀x,x∈xs↔x∈ys)->xs=ys
 | [],[],_,_,_=>rfl
 | [],y::_,_,_,h=>absurd ((h y).2 A0) (jc)
 |x::_,[],_,_,h=>absurd ((h x).1 A0) (jc)
 |x::xs,y::ys,hx,hy,h=>by
  obtain⟨a1,a2⟩:=List.pairwise_cons.1 hx;obtain⟨b1,b2⟩:=List.pairwise_cons.1 hy;have e:x=y:=by
   rcases ft.1 ((h x).1 A0)with e|h1
   ·exact e
   grind
  subst e;rw[njg a2 b2 λz=>?_]
  grind
theorem nVn{xs ys:List Nd}(hx:sO xs)(hy:sO ys)(h:∀k,al (bh xs) k=al (bh ys) k):xs=ys:=
 njg (k:=(·.at_)) hx hy λx=>by
  constructor
  ·intro h1;have h2:=hx.get h1;rw[h]at h2;obtain⟨n,hn,e1,e2⟩:=FQ h2;cases x;cases n;grind
  intro h1;have h2:=hy.get h1;rw[<-h]at h2;obtain⟨n,hn,e1,e2⟩:=FQ h2;cases x;cases n;grind
theorem n3h(hn:(kv.map (·.1)).Nodup):sO (lb kv):=by
 have hs:(eR (kv.map (·.1))).Pairwise (λa b=>decide (a<=b)=true):=List.pairwise_mergeSort mZ mZ _;have hd:(eR (kv.map (·.1))).Nodup:=(List.mergeSort_perm _ _).nodup_iff.2 hn;unfold lb;rw[sO,List.pairwise_map];refine(hs.and hd).imp λh=>?_
 grind
noncomputable def fk (ns:List Nd) (d:Int):List Nd:=ns.filter λn=> !jJ (512+d) n.at_
def er:List Nd->Nd->List Nd
 | [],n=>[n]
 |x::l,n=>if n.at_<x.at_ then n::x::l else x::er l n
theorem FX(h:sO ns)(p:Nd->Bool)(q:Int->Bool)(hp:∀n∈ns,p n=q n.at_)(k:Int):al (bh (ns.filter p)) k=if q k=true then al (bh ns) k else none:=by
 have hs:sO (ns.filter p):=h.filter _;by_cases hk:∃n∈ns,n.at_=k
 ·obtain⟨n,hn,rfl⟩:=hk;by_cases e:q n.at_=true
  ·rw[if_pos e,h.get hn,hs.get (vy.2 ⟨hn,by grind⟩)]
  cases e2:al (bh (ns.filter p)) n.at_<;>grind [FQ]
 have h1:al (bh ns) k=none:=by
  cases e:al (bh ns) k with
  |none=>rfl
  |some v=>grind [FQ]
 have h2:al (bh (ns.filter p)) k=none:=by
  cases e:al (bh (ns.filter p)) k with
  |none=>rfl
  |some v=>grind [FQ]
 grind
theorem nfg{x:Nd}:x∈er ns n↔x=n\/x∈ns:=by
 induction ns<;>grind [er]
theorem n3k(h:sO ns)(hn:∀x∈ns,x.at_≠n.at_):sO (er ns n):=by
 induction ns<;>grind [List.pairwise_cons,er,nfg]
theorem nWp(h:sO ns)(hn:∀x∈ns,x.at_≠n.at_)(k:Int):al (bh (er ns n)) k=if k=n.at_ then some n.pub else al (bh ns) k:=by
 have hs:=n3k h hn;split
 ·rename_i e;rw[e];exact hs.get (nfg.2 (.inl rfl))
 cases e1:al (bh ns) k with
 |some v=>
  obtain⟨m,hm,rfl,rfl⟩:=FQ e1;exact hs.get (nfg.2 (.inr hm))
 |none=>
  cases e2:al (bh (er ns n)) k<;>grind [FQ,nfg,V5]
theorem nIl(h:sO ns)(hd:bM d)(k:Int):al (bh (fk ns d)) k=if k=512+d\/k∈da d then none else al (bh ns) k:=by
 unfold fk;rw[FX h _ (λk=> !jJ (512+d) k) R2]
 grind [nki]
theorem nwi(h:sO ns)(d:Int):sO (fk ns d):=h.filter _
theorem Ly(h:fX ns=0)(hd:bM d)(hm:(al (bh ns) (512+d)).isSome=true):iD ns d=fk ns d:=by
 have J:=(BB.1 h).srt;unfold iD;rw[if_pos ⟨h,hm⟩];refine nVn (n3h (FU (Ej ns) d 0).1) (nwi J d) λk=>?_
 grind [n5d,FU,Ej,nIl]
theorem Ss(hd:bM d){x:Nd}(h:x∈fk ns d):¬(x.at_=512+d\/x.at_∈da d):=by
 have:=(vy.1 h).2
 grind [nki]
theorem Lz(h:fX ns=0){p:Int}(hd:bM d)(hp:dr p):il ns d p=er (fk ns d) ⟨512+d,p⟩:=by
 have J:=(BB.1 h).srt;have iL:∀x∈fk ns d,x.at_≠(⟨512+d,p⟩:Nd).at_:=λx hx e=>Ss hd hx (.inl e);unfold il;rw[if_pos ⟨h,hp⟩];refine nVn (n3h (QT (FU (Ej ns) d 0).1)) (n3k (nwi J d) iL) λk=>?_
 grind [n5d,nS,FU,Ej,nWp,nwi,nIl]
theorem FY:∀n:Nat,(ke n).Pairwise (λx y=>y<=x/2):=by
 intro n;induction n using Nat.strongRecOn with
 |ind n ih=>
  by_cases h:1<n
  ·rw[Ag h];exact List.pairwise_cons.2 ⟨λy hy=>(Vd y hy).2,ih (n/2) aa⟩
  simp_all[Kf]
noncomputable def yO (d:Int):List Int:=(512+d)::da d
theorem Su(hd:bM d):(yO d).Nodup:=by
 refine List.pairwise_cons.2 ⟨λx hx e=>?_,?_⟩
 ·have:=ngl hd hx;grind
 unfold da;rw[List.pairwise_map];have h0:(ke (512+d).toNat).Pairwise (λx y=>1<x/\y<=x/2):=(FY _).imp_of_mem λ{a b} ha _ h=>⟨(Vd a ha).1,h⟩;refine h0.imp λ{a b} h e=>?_
 grind [mC]
theorem nco:∀(ps:List (Int×Int)) (xs:List Nd) (kv:List (Int×Int)),(ps.map (·.1)).Nodup->sO xs->(kv.map (·.1)).Nodup->(∀k,al (bh xs) k=al kv k)->(∀p∈ps,al kv p.1=none)->sO (ps.foldl (λx p=>er x ⟨p.1,p.2⟩) xs)/\((ps.foldl mH kv).map (·.1)).Nodup/\∀k,al (bh (ps.foldl (λx p=>er x ⟨p.1,p.2⟩) xs)) k=al (ps.foldl mH kv) k
 | [],xs,kv,_,h1,h2,h3,_=>⟨h1,h2,h3⟩
 |p::ps,xs,kv,h0,h1,h2,h3,h4=>by
  obtain⟨a1,a2⟩:=List.nodup_cons.1 h0;have iL:∀x∈xs,x.at_≠p.1:=λx hx e=>by
   have h5:=h1.get hx
   grind
  refine nco ps (er xs ⟨p.1,p.2⟩) (mH kv p) a2 (n3k h1 iL) (QT h2) (λk=>?_) λq hq=>?_;all_goals grind [nWp,mH,nS]
theorem nwq{α β:Type}:∀(xs:List α) (ys:List β),((xs.zip ys).map (·.1)).Sublist xs
 | [],_=>by simp
 |x::xs,[]=>by simp
 |x::xs,y::ys=>by simpa using nwq xs ys
noncomputable def km (ns:List Nd) (d:Int) (l:List Int) (j:Nat):List Nd:=(((yO d).zip l).take j).foldl (λx p=>er x ⟨p.1,p.2⟩) (fk ns d)
theorem nqq(h:fX ns=0)(hd:bM d)(hm:(al (bh ns) (512+d)).isSome=true){l:List Int}(hl:0<l.length):aP ns d l=km ns d l l.length:=by
 have J:=(BB.1 h).srt;unfold aP km;rw[lE cM];have e:pX (bh ns) d l=((yO d).zip l).foldl mH (mF (bh ns) d):=by
  cases l with
  |nil=>simp at hl
  |cons a l=>rfl
 obtain⟨h1,h2,h3⟩:=nco ((yO d).zip l) (fk ns d) (mF (bh ns) d) ((Su hd).sublist (nwq _ _)) (nwi J d) (FU (Ej ns) d 0).1 (λk=>by grind [nIl,FU,Ej]) λp hp=>by
  rw[(FU (Ej ns) d _).2];have h5:p.1∈yO d:=(List.of_mem_zip hp).1
  grind [yO]
 grind [nVn,n3h,n5d]
theorem nvo(ns:List Nd):(dX ns).Pairwise (λa b=>a<b):=by
 refine nir ?_
 grind [eR,List.pairwise_mergeSort]
noncomputable def fH (ns:List Nd) (j:Nat):List Int:=((List.range j).filter λd:Nat=>(al (bh ns) (512+(d:Int))).isSome).map λd=>((d:Nat):Int)
theorem nFp(p:Nat->Bool)(j:Nat):(((List.range j).filter p).map λd=>((d:Nat):Int)).Pairwise (λa b=>a<b):=by
 grind [List.pairwise_lt_range]
theorem n6k(ns:List Nd):dX ns=fH ns 512:=by
 refine njg (k:=id) (nvo ns) (nFp _ _) λx=>?_;rw[Sq];unfold fH bM;simp[V5];constructor
 ·rintro⟨h1,h2⟩;exact⟨x.toNat,⟨by omega,by grind⟩,by omega⟩
 grind
abbrev FZ (ms:List Mb):Prop:=ms.Pairwise λa b=>a.dev<b.dev
theorem npi(h:cY g=true):FZ g.ms:=by
 have h1:=(tD.1 h).2.2.1
 grind [nvo]
noncomputable def gj (ms:List Mb) (d:Int):Option Mb:=ms.find? λm=>decide (m.dev=d)
theorem LA(hs:FZ xs):∀(k i j:Nat),j-i=k->i<=j->j<=xs.length->(∀(t:Nat) (x:Mb),t<i->xs[t]? =some x->x.dev<d)->(∀(t:Nat) (x:Mb),j<=t->xs[t]? =some x->d<=x.dev)->yu xs d i j<=xs.length/\(∀(t:Nat) (x:Mb),t<yu xs d i j->xs[t]? =some x->x.dev<d)/\(∀(t:Nat) (x:Mb),yu xs d i j<=t->xs[t]? =some x->d<=x.dev):=by
 have ord:∀(t u:Nat) (x y:Mb),t<u->xs[t]? =some x->xs[u]? =some y->x.dev<y.dev:=λt u x y h hx hy=>by
  grind [List.pairwise_iff_getElem]
 intro k;induction k using Nat.strongRecOn with
 |ind k ih=>
  intro i j hk vt hj h1 h2;by_cases h:i<j
  ·obtain⟨x,hx⟩:∃x,xs[(i+j)/2]? =some x:=⟨_,kC aa⟩;by_cases hd:x.dev<d
   ·rw[ED h hx hd];refine ih (j-((i+j)/2+1)) aa _ _ rfl aa hj (λt y J hy=>?_) h2;rcases V4 t ((i+j)/2)with h3|h3
    ·grind
    obtain rfl:t=(i+j)/2:=by omega
    grind
   rw[EE h hx hd];refine ih ((i+j)/2-i) aa _ _ rfl aa aa h1 λt y J hy=>?_;rcases V4 ((i+j)/2) t with h3|h3
   ·grind
   obtain rfl:t=(i+j)/2:=by omega
   grind
  rw[EF h];grind
theorem OA(hs:FZ xs)(d:Int):(if gw xs d=true then xs[jq xs d]? else none)=gj xs d:=by
 obtain⟨_,h1,h2⟩:=LA hs (d:=d) xs.length 0 xs.length aa (cd _) (aC _) (λt x h=>by omega) λt x h hx=>absurd (aG hx) aa;change (∀(t:Nat) (x:Mb),t<jq xs d->xs[t]? =some x->x.dev<d)at h1;change (∀(t:Nat) (x:Mb),jq xs d<=t->xs[t]? =some x->d<=x.dev)at h2;unfold gj;by_cases h:gw xs d=true
 ·rw[if_pos h];have hl:=nsl h;obtain⟨x,hx⟩:∃x,xs[jq xs d]? =some x:=⟨_,kC hl⟩;have he:x.dev=d:=by
   unfold gw at h;rw[decide_eq_true_eq,hx]at h;exact Option.some.inj h
  grind [List.find?_eq_some_iff_getElem,jq,List.getElem?_eq_some_iff,List.getElem?_eq_getElem]
 rw[if_neg h];symm;rw[List.find?_eq_none];intro x hx e;have e:x.dev=d:=by simpa using e
 obtain⟨t,J⟩:=iB.1 hx;have h3:jq xs d<=t:=by
  rcases V4 t (jq xs d)with h3|h3
  ·grind
  exact h3
 obtain⟨y,hy⟩:∃y,xs[jq xs d]? =some y:=⟨_,kC cM⟩;have h4:=h2 _ y (aC _) hy
 (intros;grind [gw,List.getElem?_eq_some_iff,Nat.lt_or_ge,jq,List.pairwise_iff_getElem])
theorem F5(hs:FZ xs)(d:Int):gw xs d=(gj xs d).isSome:=by
 grind [OA,nsl]
theorem LB(hs:FZ g.ms)(au:Int)(l:List Ch):iv g au l=((gj g.ms au).map (·.ver)).getD (((l[0]?).map (·.ver)).getD 0):=by
 grind [iv,OA,gw]
noncomputable def lZ (g:Gp) (au:Int) (l:List Ch):Bool:=if g.epoch=0 then(l.all λx=>decide (x.kind=1))&&decide ((l[0]?).map (·.dev)=some au)else(gj g.ms au).isSome&& !(l.any λx=>decide (x.dev=au))&&l.all λx=>(gj g.ms x.dev).isSome != decide (x.kind=1)
theorem nli(h:cY g=true)(au:Int)(l:List Ch):gy g au l=lZ g au l:=by
 have hv:=tD.1 h;have hs:=npi h;have h0:=hv.1.2.1;unfold gy lZ;have hb:BK g (gw g.ms au) au=λx=>((gj g.ms x.dev).isSome==decide (x.kind=1))||((gj g.ms au).isSome&&decide (x.dev=au)):=by
  funext x;unfold BK;rw[F5 hs,F5 hs]
 rw[hb,F5 hs au];by_cases he:g.epoch=0
 ·rw[if_pos he];have hm:g.ms=[]:=by
   cases hm:g.ms with
   |nil=>rfl
   |cons a b=>exact absurd ⟨he,.inl cM⟩ hv.2.1
  grind [gj]
 rw[if_neg he];simp
 grind
theorem nSm:yy l i x↔uI x/\(l.take i).any (λy=>decide (y.dev=x.dev))=false:=by
 have key:∀(j:Nat) (d:Int),(al (KI (l.take j)) d).getD false=(l.take j).any (λy=>decide (y.dev=d)):=by
  intro j;induction j with
  |zero=>intro d;rfl
  |succ j ih=>
   intro d;cases hx:l[j]? with
   |none=>grind [List.take_of_length_le]
   |some y=>
    rw[n6e hx,nS,nk hx,List.any_append]
    grind
 grind [yy]
theorem nak(hf:uJ l):l.Pairwise λa b=>a.dev≠b.dev:=by
 rw[List.pairwise_iff_getElem];intro i j hi hj J;exact λe=>nPq hf (kC hi) (kC hj) J e.symm
def ga (l:List Ch) (d:Int):Option Ch:=l.find? λx=>decide (x.dev=d)
theorem nOf(hf:l.Pairwise λa b=>a.dev≠b.dev):ga l d=some x↔x∈l/\x.dev=d:=by
 unfold ga;induction l<;>grind [List.pairwise_cons]
theorem nfj:ga l d=none↔∀x∈l,x.dev≠d:=by
 grind [ga]
theorem nVg{l:List Mb}(hf:FZ l){x:Mb}:gj l d=some x↔x∈l/\x.dev=d:=by
 unfold gj;induction l<;>grind [List.pairwise_cons]
noncomputable def iY (au:Int) (l:List Ch) (j:Nat):List Int:=((List.range j).filter λd:Nat=>match ga l d with|some x=> !decide (x.kind=2)&& !decide ((d:Int)=au)|none=>false).map λd=>((d:Nat):Int)
theorem F6{xs:List Ch}(h:xs.Pairwise λa b=>a.dev≠b.dev):(wy xs).Pairwise λa b=>a.dev<b.dev:=by
 have hp:=VN (RG (λx:Ch=>x.dev)) xs;have h1:=nJh (CO.int.key (λx:Ch=>x.dev)) xs;have h2:(wy xs).Pairwise λa b=>a.dev≠b.dev:=hp.symm.pairwise h λh=>Ne.symm h;refine(h1.and h2).imp λh=>?_
 grind [cj]
theorem LC(hf:uJ l)(au:Int):(oT au l).map (·.dev)=iY au l 512:=by
 have hn:=nak hf;have hp:=VN (RG (λx:Ch=>x.dev)) (l.filter λx=> !p7 au x);refine njg (k:=id) (by rw[List.pairwise_map];exact F6 (hn.filter _)) (nFp _ _) λd=>?_;unfold iY oT;simp;constructor
 ·rintro⟨x,hx,rfl⟩;obtain⟨h1,h2⟩:=vy.1 (hp.mem_iff.1 hx);obtain⟨i,hi⟩:=iB.1 h1;have h3:=(hf.1 i x (aG hi) hi).1.2;refine⟨x.dev.toNat,⟨by omega,?_⟩,by omega⟩
  grind [nOf,p7]
 grind [nOf,p7]
noncomputable def mQ (ms:List Mb) (e:Int) (l:List Ch) (j:Nat):List Mb:=(List.range j).filterMap λd:Nat=>match ga l d with|some y=>if y.kind=2 then none else some ⟨(d:Int),e,y.ver⟩|none=>gj ms d
theorem Sv(hm:FZ ms)(hd:∀m∈ms,bM m.dev)(hf:uJ l){x:Mb}:x∈mQ ms e l 512↔x∈ms.filter (λx=> !eF l x)++kg e l:=by
 have hn:=nak hf;unfold mQ kg;simp;constructor
 ·grind [nVg,eF,nfj,nOf]
 rintro(⟨h1,h2⟩|⟨y,⟨h1,h2⟩,rfl⟩)
 ·have h3:=hd x h1;refine⟨x.dev.toNat,by omega,?_⟩
  grind [eF,nfj,nVg]
 obtain⟨i,hi⟩:=iB.1 h1;have h3:=(hf.1 i y (aG hi) hi).1.2;refine⟨y.dev.toNat,by omega,?_⟩
 grind [nOf]
theorem LD(ms:List Mb)(e:Int)(l:List Ch)(hm:FZ ms)(j:Nat):FZ (mQ ms e l j):=by
 unfold mQ;rw[FZ,List.pairwise_filterMap];have key:∀(d:Nat) (x:Mb),(match ga l d with|some y=>if y.kind=2 then none else some ⟨(d:Int),e,y.ver⟩|none=>gj ms d)=some x->x.dev=d:=λd x h=>by
  grind [nVg]
 refine List.pairwise_lt_range.imp λ{a b} h x hx y hy=>?_
 grind
theorem aaS(hm:FZ ms)(hd:∀m∈ms,bM m.dev)(hf:uJ l):oS (ms.filter (λx=> !eF l x)++kg e l)=mQ ms e l 512:=by
 have hn:=nak hf;have hp:=VN (RG (λx:Mb=>x.dev)) (ms.filter (λx=> !eF l x)++kg e l);have h1:=nJh (CO.int.key (λx:Mb=>x.dev)) (ms.filter (λx=> !eF l x)++kg e l);have h0:(ms.filter (λx=> !eF l x)++kg e l).Pairwise λa b=>a.dev≠b.dev:=by
  rw[List.pairwise_append];refine⟨(hm.filter _).imp λh=>Int.ne_of_lt h,?_,λa ha b hb=>?_⟩
  ·grind [kg]
  obtain⟨y,hy,rfl⟩:=dO.1 hb
  grind [eF]
 have h2:(oS (ms.filter (λx=> !eF l x)++kg e l)).Pairwise λa b=>a.dev≠b.dev:=hp.symm.pairwise h0 λh=>Ne.symm h;refine njg (k:=λx:Mb=>x.dev) ((h1.and h2).imp λh=>?_) (LD ms e l hm 512) λx=>?_;all_goals grind [cj,Sv]
theorem LF(h:cY g=true):∀m∈g.ms,bM m.dev:=by
 intro m hm;have h1:=(tD.1 h).2.2.1;have:m.dev∈dX g.ns:=by rw[<-h1];exact dO.2 ⟨m,hm,rfl⟩
 grind [Sq]
theorem LG(h:fX ns=0)(hd:bM x.dev)(hg:¬x.kind=2->dr x.pub)(hk:¬x.kind=2):al (bh (qU ns x)) (512+x.dev)=some x.pub:=by
 grind [qU,il,n5d,nS]
theorem nTp(hf:uJ l)(hx:l[j]? =some x):ga (l.take j) x.dev=none:=nfj.2 λy hy e=>by
 grind [List.mem_iff_getElem?,nPq]
theorem nVp(h:fX ns=0)(hf:uJ l)(hr:∀x∈l,x.kind=2->(al (bh ns) (512+x.dev)).isSome=true):∀j,fX (bC ns (l.take j))=0/\∀d,bM d->al (bh (bC ns (l.take j))) (512+d)=match ga (l.take j) d with|some x=>if x.kind=2 then al (bh (bC ns (l.take j))) (512+d)else some x.pub|none=>al (bh ns) (512+d):=by
 intro j;induction j with
 |zero=>exact⟨h,λ_ _=>rfl⟩
 |succ j ih=>
  cases hx:l[j]? with
  |none=>(intros;grind [List.take_of_length_le])
  |some x=>
   have hc:=hf.1 j x (aG hx) hx;have iL:=nTp hf hx;have hs:=FV ih.1 (x:=x) hc.1.2 (λhk=>neo hc.1 hk) (λhk=>by rw[ih.2 _ hc.1.2];grind);have ea:∀d,ga (l.take j++[x]) d=(ga (l.take j) d).or (if x.dev=d then some x else none):=λd=>by
    grind [ga]
   have J:bC ns (l.take (j+1))=qU (bC ns (l.take j)) x:=by rw[nk hx];unfold bC;rw[List.foldl_append];rfl
   rw[J];refine⟨hs.2.1,λd hd=>?_⟩;rw[nk hx,ea];by_cases e:x.dev=d
   ·subst e;rw[iL,if_pos rfl];simp only[Option.none_or];split
    ·rfl
    exact LG ih.1 hd (λhk=>neo hc.1 hk) ew
   grind
theorem n3n(hv:cY g=true)(h:(gj g.ms d).isSome=true):(al (bh g.ns) (512+d)).isSome=true:=by
 have h1:=tD.1 hv;cases e:gj g.ms d with
 |none=>grind
 |some m=>
  obtain⟨h2,h3⟩:=(nVg (npi hv)).1 e;have h6:d∈g.ms.map (·.dev):=dO.2 ⟨m,h2,h3⟩;rw[h1.2.2.1]at h6;exact V5.2 (Sq.1 h6).2
theorem F7(hv:cY g=true)(hp:gy g au l=true):∀x∈l,x.kind=2->(al (bh g.ns) (512+x.dev)).isSome=true:=λx hx hk=>by
 grind [nli,n3n,lZ]
def Sw (ns:List Nd) (l:List Ch):Prop:=∀j,fX (bC ns (l.take j))=0/\∀x,l[j]? =some x->uI x/\(x.kind=2->(al (bh (bC ns (l.take j))) (512+x.dev)).isSome=true)
theorem OB(hv:cY g=true)(hf:fZ l=true)(hp:gy g au l=true):Sw g.ns l:=λj=>by
 have J:=Cv.1 hf;have hr:=F7 hv hp;have hk:=nVp (tD.1 hv).1.2.2.2 J hr j;refine⟨hk.1,λx hx=>?_⟩;have hc:=(J.1 j x (aG hx) hx).1;rw[hk.2 _ hc.2,nTp J hx]
 grind
theorem nZi(hv:cY g=true)(ha:bM au)(hf:fZ l=true)(hp:gy g au l=true):fX (bC g.ns l)=0/\(al (bh (bC g.ns l)) (512+au)).isSome=true:=by
 have J:=Cv.1 hf;have hk:=nVp (tD.1 hv).1.2.2.2 J (F7 hv hp) l.length;rw[nli hv]at hp;unfold lZ at hp;split at hp;all_goals grind [nOf,nak,n3n]
theorem ntp(hv:cY g=true)(hp:gy g au l=true):iv g au l=((gj g.ms au).map (·.ver)).getD (((ga l au).map (·.ver)).getD 0):=by
 rw[LB (npi hv)];cases e:gj g.ms au with
 |some m=>rfl
 |none=>
  rw[nli hv]at hp;unfold lZ at hp;split at hp
  ·cases l<;>grind [ga]
  grind
def uV (le:Nat->Nat->Bool):List Nat->Nat->List Nat
 | [],i=>[i]
 |a::l,i=>if le i a then i::a::l else a::uV le l i
theorem nPe(le:Nat->Nat->Bool)(i:Nat):∀l:List Nat,(uV le l i).Perm (l++[i])
 | []=>List.Perm.refl _
 |a::l=>by
  unfold uV;split
  ·grind
  exact(nPe le i l).cons a
theorem n8m{le:Nat->Nat->Bool}(J:∀a b c,le a b=true->le b c=true->le a c=true)(hs:∀a b,le a b=true\/le b a=true)(i:Nat):∀l:List Nat,l.Pairwise (λa b=>le a b=true)->(uV le l i).Pairwise (λa b=>le a b=true)
 | [],_=>List.pairwise_singleton _ _
 |a::l,h=>by
  obtain⟨h1,h2⟩:=List.pairwise_cons.1 h;unfold uV;split
  ·(simp;grind)
  refine List.pairwise_cons.2 ⟨λb hb=>?_,n8m J hs i l h2⟩
  grind [nPe]
noncomputable def rm (Z:Fx) (cs:List Cm) (i:Nat) (c:Cm):Bool:=(cs.take i).any λx=>gV (aE Z x) (aE Z c)
noncomputable def qA (Z:Fx) (cs:List Cm) (g:Gp):Nat->List Nat
 |0=>[]
 |i+1=>match cs[i]? with
  |none=>qA Z cs g i
  |some c=>if eH Z g c=0/\rm Z cs i c=false then uV (rR Z cs g) (qA Z cs g i) i else qA Z cs g i
theorem LH(Z:Fx)(cs:List Cm)(k:Dk):∀j,k∈(bG Z cs j).map (·.1)↔∃c∈cs.take j,dk (aE Z c)=k:=by
 intro j;induction j with
 |zero=>simp[bG]
 |succ j ih=>
  cases hx:cs[j]? with
  |none=>
   grind [List.take_of_length_le,bG]
  |some c=>
   rw[nk hx]
   (intros;grind [dk,aE,bG,R3,R4])
theorem nsp:rm Z cs i c=true↔dk (aE Z c)∈(bG Z cs i).map (·.1):=by
 simp_all[LH,rm,nwk]
theorem F8(hc:cs[i]? =some c):BT Z cs g i=decide (eH Z g c=0):=by
 grind [eH,nfq,iw,n0p]
theorem F9(Z:Fx)(cs:List Cm)(g:Gp)(a b c:Nat)(h1:rR Z cs g a b=true)(h2:rR Z cs g b c=true):rR Z cs g a c=true:=by
 unfold rR at *;simp at *;exact CO.ky3.trans _ _ _ h1 h2
theorem Ga(Z:Fx)(cs:List Cm)(g:Gp)(a b:Nat):rR Z cs g a b=true\/rR Z cs g b a=true:=by
 unfold rR;simp;have:=CO.ky3.anti (Ay Z cs g a) (Ay Z cs g b);omega
theorem Sx(Z:Fx)(cs:List Cm)(g:Gp):∀j,(qA Z cs g j).Perm (((bG Z cs j).map λp=>p.2.toNat).filter (BT Z cs g))/\(qA Z cs g j).Pairwise (λa b=>rR Z cs g a b=true):=by
 intro j;induction j with
 |zero=>exact⟨List.Perm.refl _,.nil⟩
 |succ j ih=>
  cases hx:cs[j]? with
  |none=>grind [qA,bG]
  |some c=>
   simp[qA,hx];by_cases h:dk (aE Z c)∈(bG Z cs j).map (·.1)
   ·grind [R3,nsp]
   rw[R4 hx h,iM]
   grind [nsp,F8,nPe,n8m,F9,Ga]
theorem Sy(hZ:FxOk Z)(cs:List Cm)(g:Gp):IW Z cs g=qA Z cs g cs.length:=by
 obtain⟨h1,h2⟩:=Sx Z cs g cs.length;have h3:vx Z cs g (bG Z cs cs.length).length=((bG Z cs cs.length).map λp=>p.2.toNat).filter (BT Z cs g):=by unfold vx;rw[Ko]
 unfold IW;refine nOh (λa ha b hb=>nxp hZ (k:=(bG Z cs cs.length).length) a ((List.mergeSort_perm _ _).mem_iff.1 ha) b ((List.mergeSort_perm _ _).mem_iff.1 hb)) (List.pairwise_mergeSort (λa b c=>F9 Z cs g a b c) (λa b=>by grind [Ga]) _) h2 ?_
 grind [List.mergeSort_perm]
theorem LI{α:Type}(cf:α->Cm)(l:List α):∀k,(iH cf l k).2=(iH cf l k).1.foldl (oX cf) none:=by
 intro k;induction k with
 |zero=>rfl
 |succ k ih=>
  cases hx:l[k]? with
  |none=>grind [iH,List.take_of_length_le]
  |some d=>
   cases hs:rk cf (iH cf l k).1 d<;>simp_all[VY,Az]
theorem n6m{f:Fo}:V3 Z cs f=cs.findIdx? λc=>gV (aE Z c) f.first:=by
 have key:∀j,j<=cs.length->(((bG Z cs j).find? λp=>decide (p.1=dk f.first)).map λp=>p.2.toNat)=(cs.take j).findIdx? λc=>gV (aE Z c) f.first:=by
  intro j;induction j with
  |zero=>grind [bG]
  |succ j ih=>
   intro hj;obtain⟨c,hx⟩:∃c,cs[j]? =some c:=⟨_,kC aa⟩;rw[nk hx,List.findIdx?_append,<-ih aa];by_cases h:dk (aE Z c)∈(bG Z cs j).map (·.1)
   ·rw[R3 hx h];cases e:(bG Z cs j).find? λp=>decide (p.1=dk f.first)with
    |some p=>simp
    |none=>
     grind [nwk]
   rw[R4 hx h,List.find?_append];cases e:(bG Z cs j).find? λp=>decide (p.1=dk f.first)with
   |some p=>simp
   |none=>
    by_cases h3:dk (aE Z c)=dk f.first
    ·simp[nwk,h3];omega
    grind [nwk]
 have h1:=key cs.length (aC _);rw[Ko]at h1;rw[<-h1];unfold V3 oW;rw[List.findIdx?_map];have h2:∀l:List (Dk×Int),(l.findIdx? ((λx=>decide (x=dk f.first))∘λx=>x.1))=none/\(l.find? λp=>decide (p.1=dk f.first))=none\/∃i,(l.findIdx? ((λx=>decide (x=dk f.first))∘λx=>x.1))=some i/\l[i]? =(l.find? λp=>decide (p.1=dk f.first)):=by
  intro l;induction l with
  |nil=>simp
  |cons p l ih=>
   grind
 grind
theorem nxo(d:Int)(w:World):Calls prog 357 #[ab d] w (ar w (.bool (decide (bM d)))):=by
 refine cH 10 func357 ntmps357 ?_;refine nf (t:=5) rfl (λai=>?_) (λai=>?_)
 ·replace ai:=ya ai;refine B 7 ?_;refine ao results357 rfl A0 ?_;exact Ob
 replace ai:=ya ai;refine B 7 ?_;refine ao results357 rfl A0 ?_;exact Ob
theorem n7g(d:Int)(w:World):Calls prog 234 #[ab d] w (ar w (.bool (decide (bM d)))):=by
 refine cH 10 func234 ntmps234 ?_;refine nf (t:=5) rfl (λai=>?_) (λai=>?_)
 ·replace ai:=ya ai;refine B 7 ?_;refine ao results234 rfl A0 ?_;exact Ob
 replace ai:=ya ai;refine B 7 ?_;refine ao results234 rfl A0 ?_;exact Ob
theorem V6(d:Int)(w:World):Calls prog 228 #[ab d] w (ar w (.bool (decide (bM d)))):=by
 refine cH 10 func228 ntmps228 ?_;refine nf (t:=5) rfl (λai=>?_) (λai=>?_)
 ·replace ai:=ya ai;refine B 7 ?_;refine ao results228 rfl A0 ?_;exact Ob
 replace ai:=ya ai;refine B 7 ?_;refine ao results228 rfl A0 ?_;exact Ob
theorem nCr(n:Int)(w:World):Calls prog 230 #[ab n] w (ar w (.bool (decide (1<=n/\n<1024)))):=by
 refine cH 10 func230 ntmps230 ?_;refine nf (t:=5) rfl (λai=>?_) (λai=>?_)
 ·exact zPk
 exact zPk
theorem Gb(d:Int)(hd:bM d)(w:World):Calls prog 322 #[ab d] w (ar w (.tuple #[ab (512+d),ab 0])):=by
 have h1:=hd.1;have h2:=hd.2;refine cH 10 func322 ntmps322 ?_;refine cl call357 rfl (λW hS=>by rw[<-decide_eq_true hd];exact nxo d W) (v:=.bool true) ?_;refine bX aO ?_;refine B 14 ?_;refine nK results322 rfl rfl A0 ?_ ?_;all_goals rfl
theorem Gc{n:Nat}(h:n%2=0):((gD n:Nat):Int)=(n:Int)+1:=by
 have h1:gD n=n+1:=by
  unfold gD;obtain⟨k,rfl⟩:∃k,n=2*k:=⟨n/2,by omega⟩;exact zCk
 rw[h1];rfl
theorem Gd{n:Nat}(h:n%2=1):((gD n:Nat):Int)=(n:Int)-1:=by
 have h1:gD n=n-1:=by
  unfold gD;obtain⟨k,rfl⟩:∃k,n=2*k+1:=⟨n/2,by omega⟩;exact zCk
 omega
theorem nXo(n:Nat)(h:n<4611686018427387904)(w:World):Calls prog 323 #[ab (n:Int)] w (ar w (ab ((gD n:Nat):Int))):=by
 refine cH 9 func323 ntmps323 ?_;refine UG ?_;refine av 3 ?_ ?_
 ·intro ai;refine B 9 ?_;refine ao results323 rfl A0 ?_;exact congrArg ab (Gc aa).symm
 intro ai;refine B 10 ?_;refine ao results323 rfl A0 ?_;exact congrArg ab (Gd aa).symm
theorem nXh(pre:List Nat)(x:Nat):(pre++[x]).map (λn=>((gD n:Nat):Int))=pre.map (λn=>((gD n:Nat):Int))++[((gD x:Nat):Int)]:=by simp
theorem nyq(ns:List Nd)(k:Int):al (bh ns) k=(ns.find? λn=>decide (n.at_=k)).map (·.pub):=by
 have key:∀(ns:List Nd) (kv:List (Int×Int)),al (ns.foldl By kv) k=(al kv k).or ((ns.find? λn=>decide (n.at_=k)).map (·.pub)):=by
  intro ns;induction ns with
  |nil=>simp
  |cons a l ih=>
   intro kv;rw[List.foldl_cons,ih];unfold By;by_cases e:a.at_=k
   ·cases h:al kv a.at_<;>grind [nS]
   grind [nS]
 exact key ns []
theorem nGo{x:Nd}(h:cE (λn:Nd=>decide (n.at_=k)) ns j)(hx:ns[j]? =some x)(hk:x.at_=k):al (bh ns) k=some x.pub:=by
 grind [nyq,VO]
theorem ngq(h:cE (λn:Nd=>decide (n.at_=k)) ns j)(hj:¬j<ns.length):al (bh ns) k=none:=by
 grind [nyq,Z6]
theorem nbn{m:Nat}{a:Int}(h:m=0):jJ (m:Int) a=false:=by
 grind [jJ,Kf]
theorem nDp{m:Nat}{a:Int}(h:1<=m)(e:(m:Int)=a):jJ (m:Int) a=true:=by
 grind [jJ,Ag]
theorem Ge{m:Nat}{a:Int}(h:1<=m)(e:¬(m:Int)=a):jJ (m:Int) a=jJ ((m/2:Nat):Int) a:=by
 (intros;grind [jJ,Int.toNat_natCast,Ag,Kf])
theorem n5q(d:Int)(hd:bM d)(w:World):Calls prog 282 #[ab d] w (nv w ak 1 3 (gu d) (λs=>.tuple #[s,ab 0])):=by
 have aR:=hd.1;have vZ:=hd.2;obtain⟨kk,D9⟩:∃kk:Nat,512+d=(kk:Int):=⟨(512+d).toNat,by omega⟩;have J:gu d=((ke kk).map (λn=>((gD n:Nat):Int))):=by unfold gu;rw[D9,QS]
 have a6:=n0k kk;rw[J];refine cH 9 func282 ntmps282 ?_;refine cl call322 rfl (λW hS=>by rw[<-D9];exact Gb d hd W) (v:=.tuple #[ab (kk:Int),ab 0]) ?_;refine B 11 ?_;refine Yh ?_;refine CJ.loop (α:=Rw×List Nat×Nat) (λp=>[(4,ab (p.2.2:Int)),(6,p.1.val (p.2.1.map (λn=>((gD n:Nat):Int))).length)]) (λp=>p.1.hp ak 3 (p.2.1.map (λn=>((gD n:Nat):Int)))++[]) (λp=>[w]) (λp=>Gh.no) (λp=>ke kk=p.2.1++ke p.2.2/\p.2.2<1024/\p.1.Fr Gh.no [w]/\p.1.Fit 1 (p.2.1.map (λn=>((gD n:Nat):Int)))) (λp=>p.2.2) (.nil,[],kk) ⟨rfl,by dsimp only;omega,True.intro,rfl⟩ ⟨rfl,rfl,trivial⟩ rfl rfl zP ?_;rintro⟨r,pre,m⟩ ⟨tA,hm,aB,af⟩;dsimp only at tA hm aB af ⊢;have bW:r.ge w.heap.size:=Rw.ge_of aB A0;have hpl:pre.length<=kk:=by have:=congrArg List.length tA;rw[eU]at this;omega
 refine av 7 ?_ ?_
 ·intro ai;refine B 4 ?_;rw[Ag (n:=m) aa]at tA;refine B 3 ?_;refine cl call323 rfl (λW hS=>nXo m aa W) ?_;refine uC ?_;refine yW ?_;intro lg sC bw;refine jf (r:=r) (xs:=(pre.map (λn=>((gD n:Nat):Int)))) (zs:=[((gD m:Nat):Int)]) (enc:=ak) (m:=1) (H0:=[(lg,oC #[ab ((gD m:Nat):Int)] 3)]) (H1:=[]) pP vY nh rfl rfl rfl rfl (bN.one (z:=((gD m:Nat):Int)) nh v7 underlying96 (bL.own (i:=0) rfl)) af aB zP Cq ?_;intro qp yj yk sD qO;refine B 5 ?_;refine XH ?_;refine B 3 ?_;refine lx ?_;refine PJ.again (Rw.row qp yj yk,pre++[m],m/2) ⟨by dsimp only;rw[tA,lP];rfl,by dsimp only;omega,sD.elim (λh=>Rw.Fr_at aB h) (λh=>.inr h),by dsimp only;rw[nXh];exact qO⟩ zZ ⟨congrArg (λz=>some (ab z)) zZ,by dsimp only;rw[nXh];rfl,trivial⟩ (by dsimp only;rw[nXh];rfl) rfl zP
 intro ai;refine B 6 ?_;have cN:pre=ke kk:=by rw[tA,Kf aa,dG]
 subst cN;refine B 7 ?_;exact nB (H0:=[]) (H1:=[]) (r:=r) (.inl rfl) results282 aL A0 (by rw[dG];exact Rw.over bW) rfl af bW zP
theorem nSh(x a:Int)(hx:0<=x)(IS:x<=4611686018427387904)(w:World):Calls prog 280 #[ab x,ab a] w (ar w (.bool (jJ x a))):=by
 obtain⟨kk,rfl⟩:∃kk:Nat,x=(kk:Int):=⟨x.toNat,by omega⟩;refine cH 13 func280 ntmps280 ?_;refine CJ.loop (α:=Nat) (λm=>[(1,ab a),(5,ab (m:Int))]) (λm=>[]) (λm=>[w]) (λm=>Gh.no) (λm=>m<=kk/\jJ (kk:Int) a=jJ (m:Int) a) (λm=>m) kk ⟨aC _,rfl⟩ ⟨rfl,rfl,trivial⟩ rfl rfl zP ?_;rintro m ⟨hm,hu⟩;refine av 7 ?_ ?_
 ·intro ai;refine av 11 ?_ ?_
  ·intro ax;exact zTj
  intro ax;refine B 5 ?_;refine XH ?_;refine B 2 ?_;refine PJ.again (m/2) ⟨by omega,by rw[hu];exact Ge aa z2⟩ aa ⟨rfl,congrArg (λz=>some (ab z)) aa,trivial⟩ rfl rfl zP
 intro ai;exact zTj
theorem nyr(ns:List Nd)(hn:ns.length<=100000)(N:Nat)(a:Option Addr)(cp:Nat)(w:World)(hN:N<=w.heap.size)(aA:aj dJ 2 N w a ns)(k:Int):Calls prog 284 #[.agg #[.slice a ns.length cp],ab k] w (ar w (.tuple #[ab ((al (bh ns) k).getD 0),.bool (al (bh ns) k).isSome])):=by
 refine eN func284 ntmps284 ?_;refine aU 2 ?_;intro b2 w2 bV bj dz cL cR;refine B 11 ?_;refine CJ.lp (α:=Nat) [1,2] (λj=>[(6,ab (j:Int))]) (λj=>[]) (λj=>j<=ns.length/\cE (λn:Nd=>decide (n.at_=k)) ns j) (λj=>ns.length-j) 0 ⟨cd _,λi x hi=>absurd hi aa⟩ ?_;rintro j ⟨hj,bT⟩;refine zei ?_;refine pd ?_ ?_
 ·intro ai;refine B 5 ?_;obtain⟨bo,oo,cs0,to,dR,rfl,dW,hcs,ay⟩:=aA.get aa;obtain⟨x,hx⟩:=ng ns j aa;refine B 2 ?_;refine V7 ?_;refine B 3 ?_;refine rx (ad (v:=ab x.at_) isAgg3 rfl A1 hcs zL trivial (nu ay hx rfl 0 zF)) ?_;refine av 4 ?_ ?_
  ·intro ax;refine B 3 ?_;refine V7 ?_;refine B 3 ?_;refine rx (ad (v:=ab x.pub) isAgg3 rfl A1 hcs zL trivial (nu ay hx rfl 1 zF)) ?_;refine B 10 ?_;exact zHk
  exact OC
 intro ai;refine B 12 ?_;exact zHk
theorem nMg{x:Nd}(hx:ns[j]? =some x)(d:Int):fk (ns.take (j+1)) d=if jJ (512+d) x.at_=true then fk (ns.take j) d else fk (ns.take j) d++[x]:=by
 rw[nk hx];grind [fk]
theorem nsi(ns:List Nd)(d:Int):(fk ns d).length<=ns.length:=RI _ _
theorem V8(ns:List Nd)(j:Nat):fH ns (j+1)=if(al (bh ns) (512+(j:Int))).isSome=true then fH ns j++[(j:Int)]else fH ns j:=by
 grind [fH,List.range_succ]
theorem noo(ns:List Nd)(j:Nat):(fH ns j).length<=j:=by
 grind [fH]
def ey (ns:List Nd) (n:Nd) (j:Nat):List Nd:=if(ns.take j).any (λx=>decide (n.at_<x.at_))=true then er (ns.take j) n else ns.take j
theorem nrn{n x:Nd}:∀{l:List Nd},l.any (λx=>decide (n.at_<x.at_))=true->er (l++[x]) n=er l n++[x]
 | [],h=>by simp at h
 |a::l,h=>by
  rw[gU];unfold er;split
  ·rfl
  rename_i e;rw[List.any_cons,decide_eq_false e]at h;rw[nrn h];rfl
theorem nEn{n:Nd}:∀{l:List Nd},l.any (λx=>decide (n.at_<x.at_))=false->er l n=l++[n]
 | [],_=>rfl
 |a::l,h=>by
  rw[List.any_cons,Bool.or_eq_false_iff]at h;unfold er;rw[if_neg cM,nEn h.2];rfl
theorem nGn{n x:Nd}(h:n.at_<x.at_):∀{l:List Nd},l.any (λx=>decide (n.at_<x.at_))=false->er (l++[x]) n=l++[n]++[x]
 | [],_=>by simp[er,h]
 |a::l,h2=>by
  rw[List.any_cons,Bool.or_eq_false_iff]at h2;rw[gU];unfold er;rw[if_neg cM,nGn h h2.2];rfl
theorem Gf{x:Nd}(hx:ns[j]? =some x)(h:(ns.take j).any (λx=>decide (n.at_<x.at_))=true):ey ns n (j+1)=ey ns n j++[x]:=by
 grind [ey,nk,nrn]
section
variable {x:Nd}(hx:ns[j]? =some x)(h:(ns.take j).any (λx=>decide (n.at_<x.at_))=false)
include hx h
theorem Gg(h2:n.at_<x.at_):ey ns n (j+1)=ey ns n j++[n]++[x]:=by
 grind [ey,nk,nGn]
theorem Gj(h2:¬n.at_<x.at_):ey ns n (j+1)=ey ns n j++[x]:=by
 grind [ey,nk]
end
theorem Gk(ns:List Nd)(n:Nd)(j:Nat):(ey ns n j).length<=j+1:=by
 have h:∀l:List Nd,(er l n).length=l.length+1:=by
  intro l;induction l with
  |nil=>rfl
  |cons a l ih=>grind [er]
 grind [ey]
theorem Sz{α:Type}{p:α->Bool}{xs:List α}{x:α}(hx:xs[j]? =some x):(xs.take (j+1)).any p=((xs.take j).any p||p x):=by rw[nk hx];simp
def BY (ns:List Nd) (j:Nat):Prop:=∀i x,i<j->ns[i]? =some x->NdR ns i x
theorem BY.next{x:Nd}(h:BY ns j)(hx:ns[j]? =some x)(hk:NdR ns j x):BY ns (j+1):=λi y hi hy=>by
 grind [NdR,BY]
theorem nFd(h:BY ns j)(hj:¬j<ns.length):0=fX ns:=(BB.2 (trR.1 λi x hx=>h i x cM hx)).symm
theorem nY{x:Nd}(hx:ns[j]? =some x)(h:¬NdR ns j x):210=fX ns:=by
 grind [fX,trR]
abbrev NB (ns:List Nd):Prop:=∀n∈ns,n.at_<4611686018427387904
section
variable (ns:List Nd)(hn:ns.length<=100000)(N:Nat)(a:Option Addr)(cp:Nat)(w:World)(hN:N<=w.heap.size)(aA:aj dJ 2 N w a ns)
include hn N a cp w hN aA
theorem nLd(k:Int):Calls prog 235 #[.agg #[.slice a ns.length cp],ab k] w (ar w (.bool (!(al (bh ns) k).isSome))):=by
 refine eN func235 ntmps235 ?_;refine aU 2 ?_;intro b2 w2 bV bj dz cL cR;refine N8 ?_;refine cl call284 rfl (λW hS=>nyr ns hn N a cp W aT (aA.us hS.sm) k) ?_;refine B 15 ?_;refine ao results235 rfl A1 ?_;rfl
theorem nWi:Calls prog 227 #[.agg #[.slice a ns.length cp]] w (nv w ak 1 3 (fH ns 512) id):=by
 refine eN func227 ntmps227 ?_;refine aU 2 ?_;intro b1 w1 aW bJ eO dC fg;refine B 5 ?_;refine uC ?_;refine yW ?_;intro b5 fK gf;refine B 10 ?_;refine CJ.loop (α:=Rw×Nat) (λp=>[(1,ptr b1 0),(3,p.1.val (fH ns p.2).length),(4,ab (p.2:Int))]) (λp=>p.1.hp ak 3 (fH ns p.2)++[]) (λp=>[w1,w]) (λp=>Gh.no) (λp=>p.2<=512/\p.1.Fr Gh.no [w1,w]/\p.1.Fit 1 (fH ns p.2)) (λp=>512-p.2) (.row b5 0 [],0) ⟨cd _,.inr fK,⟨aC 0,rfl⟩⟩ zR rfl rfl zP ?_;rintro⟨r,j⟩ ⟨hj,aB,af⟩;dsimp only at hj aB af ⊢;have bW:r.ge w1.heap.size:=Rw.ge_of aB A0;have Bb:=noo ns j;refine av 7 ?_ ?_
 ·intro ai;refine Vn ?_;refine B 2 ?_;refine cl call235 rfl (λW hS=>nLd ns hn N a cp W aT (aA.us (hS.same A1 hN zO zS)) (512+(j:Int))) ?_;refine av 3 ?_ ?_
  ·intro ax;refine B 3 ?_;refine uC ?_;refine yW ?_;intro lO kA Qp;refine jf (r:=r) (xs:=(fH ns j)) (zs:=[(j:Int)]) (enc:=ak) (m:=1) (H0:=[(lO,oC #[ab (j:Int)] 3)]) (H1:=[]) pP vY nh rfl rfl rfl rfl (bN.one (z:=(j:Int)) nh v7 underlying96 (bL.own (i:=0) rfl)) af aB zP Cq ?_;intro UT aq J JW SA;refine Sk ?_;refine PJ.again (Rw.row UT aq J,j+1) ⟨by dsimp only;omega,JW.elim (λh=>Rw.Fr_at aB h) (λh=>.inr h),by dsimp only;rw[V8,if_pos z2];exact SA⟩ zZ ⟨rfl,by dsimp only;rw[V8,if_pos z2];rfl,rfl,trivial⟩ (by dsimp only;rw[V8,if_pos z2];rfl) rfl zP
  intro ax;refine B 8 ?_;refine PJ.again (r,j+1) ⟨by dsimp only;omega,aB,by dsimp only;rw[V8,if_neg z2];exact af⟩ zZ ⟨rfl,by dsimp only;rw[V8,if_neg z2];rfl,rfl,trivial⟩ (by dsimp only;rw[V8,if_neg z2]) rfl zP
 intro ai;refine B 12 ?_;obtain rfl:j=512:=by omega
 exact nB (H0:=[]) (H1:=[]) (r:=r) (.inl rfl) results227 aL A1 (by rw[dG];exact Rw.over (Rw.ge_of aB A1)) rfl af (Rw.ge_of aB A1) zP
theorem ndc(qq:NB ns):Calls prog 226 #[.agg #[.slice a ns.length cp]] w (ar w (ab (fX ns))):=by
 refine eN func226 ntmps226 ?_;refine aU 2 ?_;intro b1 w1 aW bJ eO dC fg;refine B 10 ?_;refine CJ.loop (α:=Nat) (λj=>[(1,ptr b1 0),(3,ab (j:Int))]) (λj=>[]) (λj=>[w1,w]) (λj=>Gh.no) (λj=>j<=ns.length/\BY ns j) (λj=>ns.length-j) 0 ⟨cd _,λi x hi=>absurd hi aa⟩ ⟨rfl,rfl,trivial⟩ rfl rfl zP ?_;rintro j ⟨hj,bT⟩;refine zei ?_;refine pd ?_ ?_
 ·intro ai;refine B 5 ?_;obtain⟨bo,oo,cs0,to,dR,rfl,dW,hcs,ay⟩:=aA.get aa;obtain⟨x,hx⟩:=ng ns j aa;refine B 2 ?_;refine V7 ?_;refine B 2 ?_;refine zxi ?_;refine yW ?_;intro b4 dL dP;refine B 5 ?_;by_cases h1:x.at_<1
  ·refine eA 21 (sp:=(_::_::(some aK)::_)) (k:=?_);refine B 24 ?_;exact V9
  by_cases h2:1023<x.at_
  ·refine eA 21 (sp:=(_::_::(some aO)::_::_::_::(some aK)::_)) (k:=?_);refine B 24 ?_;exact V9
  obtain⟨e,he⟩:∃e,(if dr x.pub then(0:Int)else 40)=e:=⟨_,rfl⟩;by_cases h3:j=0/\¬e=0
  ·refine eA 21 (sp:=[_,_,some aO,_,_,_,some aO,_,_,_,some aO,_,_,_,_,_,_,_,_,_,_]) (k:=?_);refine B 6 ?_;exact zil
  by_cases h4:j=0
  ·refine eA 21 (sp:=[_,_,some aO,_,_,_,some aO,_,_,_,some aO,_,_,_,_,_,_,_,_,_,_]) (k:=?_);refine B 6 ?_;refine SB ?_;refine z2d ?_;rintro i hi;refine B 5 ?_;refine V7 ?_;refine av 4 ?_ ?_
   ·intro ax;exact zIi
   intro ax;refine B 6 ?_;have cN:ns.take i=ns:=lE aa;rw[cN];refine av 5 ?_ ?_
   ·intro bY;refine B 11 ?_;exact V9
   intro bY;exact zFj
  obtain⟨y,hy⟩:=ng ns (j-1) aa;by_cases h5:x.at_<=y.at_
  ·refine eA 21 (pb:=zYV) (sp:=[_,_,some aO,_,_,_,some aO,_,_,_,some aK,_,_,_,_,some (.slice (some ⟨bo,oo,none⟩) ns.length cp),_,_,_,_,_]) (k:=?_);refine bX aK ?_;refine B 23 ?_;exact V9
  by_cases h6:¬e=0
  ·refine eA 21 (pb:=zYV) (sp:=[_,_,some aO,_,_,_,some aO,_,_,_,some aK,_,_,_,_,some (.slice (some ⟨bo,oo,none⟩) ns.length cp),_,_,_,_,_]) (k:=?_);refine bX aO ?_;refine B 5 ?_;exact zil
  refine eA 21 (pb:=zYV) (sp:=[_,_,some aO,_,_,_,some aO,_,_,_,some aK,_,_,_,_,some (.slice (some ⟨bo,oo,none⟩) ns.length cp),_,_,_,_,_]) (k:=?_);refine bX aO ?_;refine B 5 ?_;refine SB ?_;refine z2d ?_;rintro i hi;refine B 5 ?_;refine V7 ?_;refine av 4 ?_ ?_
  ·intro J;exact zIi
  intro J;refine B 6 ?_;have cN:ns.take i=ns:=lE aa;rw[cN];refine av 5 ?_ ?_
  ·intro eB;refine B 11 ?_;exact V9
  intro eB;exact zFj
 intro ai;refine B 11 ?_;refine ao results226 rfl A1 ?_;exact zHi
theorem n9f(d:Int)(hd:bM d):Calls prog 236 #[.agg #[.slice a ns.length cp],ab d] w (nv w dD 2 325 (fk ns d) (λs=>.agg #[s])):=by
 have aR:=hd.1;have vZ:=hd.2;refine eN func236 ntmps236 ?_;refine aU 2 ?_;intro b2 w2 bV bj dz cL cR;refine bD 1 ?_;intro b4 dL dP;refine bD 6 ?_;intro b5 fK gf;refine B 10 ?_;refine CJ.lp (α:=Rw×Nat) [1,2,4,5] (λp=>[(6,ab (p.2:Int))]) (λp=>[(b5,oC #[p.1.val (fk (ns.take p.2) d).length] 84),(b4,oC #[bS] 84)]++(p.1.hp dD 325 (fk (ns.take p.2) d)++[])) (λp=>p.2<=ns.length/\p.1.Fr Gh.no [w2,w]/\p.1.Fit 2 (fk (ns.take p.2) d)) (λp=>ns.length-p.2) (.nil,0) ⟨cd _,True.intro,rfl⟩ ?_;rintro⟨r,j⟩ ⟨hj,aB,af⟩;dsimp only at hj aB af ⊢;have bW:r.ge w2.heap.size:=Rw.ge_of aB A0;have Bb:(fk (ns.take j) d).length<=j:=dS (nsi _ d) (by rw[oK];omega);refine zei ?_;refine pd ?_ ?_
 ·intro ai;refine B 5 ?_;obtain⟨bo,oo,cs0,to,dR,rfl,dW,hcs,ay⟩:=aA.get aa;obtain⟨x,hx⟩:=ng ns j aa;refine B 4 ?_;refine V7 ?_;refine B 3 ?_;refine rx (ad (v:=ab x.at_) isAgg3 rfl A1 hcs zL zD (nu ay hx rfl 0 zF)) ?_;refine cl call280 rfl (λW hS=>nSh (512+d) x.at_ aa aa W) ?_;refine av 3 ?_ ?_
  ·intro ax;refine tS 8 [7] [[]] (λcv L' H'=>let dA:ae:=[(b5,oC #[r.val (fk (ns.take j) d).length] 84),(b4,oC #[bS] 84)];∃(bE:Nat),cv=[some (.slice (aH bE) 1 1)]/\L'=[w2,w]/\H'=(bE,oC (dJ x) 325)::(dA++(r.hp dD 325 (fk (ns.take j) d)++[]))/\w2.heap.size<=bE/\w.heap.size<=bE/\True) (sp:=[_,_,_,_,_,_,some (.agg (dJ x)),_]) (t:=?_) (k:=?_)
   ·repeat' first|exact tZ|(refine tU rfl ?_)|(refine tR rfl ?_ ?_)|(refine tN jI ?_)|(exact tE jI vA ⟨bE,rfl,rfl,rfl,J⟩)|(intro _ _ hk;(first|(refine iW underlying82 sizeOf325 zeroValue325 rfl rfl rfl rfl rfl rfl rfl ?_;intro bE J KV;refine OJ.done (hk _ _ _ ?_))))
   rintro _ _ _ ⟨bE,rfl,rfl,rfl,J⟩;refine jf (r:=r) (xs:=(fk (ns.take j) d)) (zs:=[x]) (enc:=dD) (m:=2) (H0:=[(bE,oC (dJ x) 325),(b5,oC #[r.val (fk (ns.take j) d).length] 84),(b4,oC #[bS] 84)]) (H1:=[]) pP Vl tB rfl rfl rfl rfl (bN.one (z:=x) tB Vh underlying82 (bL.own (i:=0) rfl)) af aB zP vn ?_;intro qt sP oI sh yP;refine B 10 ?_;refine lx ?_;refine PJ.again (Rw.row qt sP oI,j+1) ⟨by dsimp only;omega,sh.elim (λh=>Rw.Fr_at aB h) (λh=>.inr h),by dsimp only;rw[nMg hx,if_neg z2];exact yP⟩ zZ zR (by dsimp only;rw[nMg hx,if_neg z2];rfl) rfl zP
  intro ax;refine B 8 ?_;refine PJ.again (r,j+1) ⟨by dsimp only;omega,aB,by dsimp only;rw[nMg hx,if_pos z2];exact af⟩ zZ zR (by dsimp only;rw[nMg hx,if_pos z2]) rfl zP
 intro ai;refine B 6 ?_;have cN:ns.take j=ns:=lE aa;rw[cN]at af ⊢;refine B 2 ?_;refine Vp ?_;refine B 3 ?_;exact nB (H0:=[(b5,oC #[r.val (fk ns d).length] 84),(b4,oC #[r.val (fk ns d).length] 84)]) (H1:=[]) (r:=r) (.inl rfl) results236 aL A1 zS rfl af (Rw.ge_of aB A1) Wa
theorem nXm(n:Nd):Calls prog 237 #[.agg #[.slice a ns.length cp],.agg (dJ n)] w (nv w dD 2 325 (er ns n) (λs=>.agg #[s])):=by
 refine eN func237 ntmps237 ?_;refine aU 2 ?_;intro b2 w2 bV bj dz cL cR;refine yX ?_;intro b3 w3 bQ aZ dK cP dt;refine bD 1 ?_;intro b4 dL dP;refine bD 6 ?_;intro b5 fK gf;refine B 15 ?_;refine CJ.loop (α:=Rw×Nat) (λp=>[(2,ptr b2 0),(3,ptr b3 0),(4,ptr b4 0),(5,ptr b5 0),(6,.bool ((ns.take p.2).any λx=>decide (n.at_<x.at_))),(7,ab (p.2:Int))]) (λp=>[(b5,oC #[p.1.val (ey ns n p.2).length] 84),(b4,oC #[bS] 84)]++(p.1.hp dD 325 (ey ns n p.2)++[])) (λp=>[w3,w2,w]) (λp=>Gh.no) (λp=>p.2<=ns.length/\p.1.Fr Gh.no [w3,w2,w]/\p.1.Fit 2 (ey ns n p.2)) (λp=>ns.length-p.2) (.nil,0) ⟨cd _,True.intro,rfl⟩ zR rfl rfl zP ?_;rintro⟨r,j⟩ ⟨hj,aB,af⟩;dsimp only at hj aB af ⊢;have bW:r.ge w3.heap.size:=Rw.ge_of aB A0;have Bb:=Gk ns n j;refine zei ?_;refine pd ?_ ?_
 ·intro ai;refine B 6 ?_;obtain⟨bo,oo,cs0,to,dR,rfl,dW,hcs,ay⟩:=aA.get aa;obtain⟨x,hx⟩:=ng ns j aa;by_cases h1:(ns.take j).any (λx=>decide (n.at_<x.at_))=true
  ·refine eA 11 (pb:=by exact zU 2 (k:=by exact qv (RV.re (v':=aO) (dp rfl) (vb An)) zT)) (k:=?_);refine B 7 ?_;refine tS 8 [7] [[]] (λcv L' H'=>let dA:ae:=[(b5,oC #[r.val (ey ns n j).length] 84),(b4,oC #[bS] 84)];∃(bE:Nat),cv=[some (.slice (aH bE) 1 1)]/\L'=[w3,w2,w]/\H'=(bE,oC (dJ x) 325)::(dA++(r.hp dD 325 (ey ns n j)++[]))/\w3.heap.size<=bE/\w2.heap.size<=bE/\w.heap.size<=bE/\True) (sp:=[_,_,_,_,_,_,some (.agg (dJ x)),_]) (t:=?_) (k:=?_)
   ·repeat' first|exact tZ|(refine tU rfl ?_)|(refine tR rfl ?_ ?_)|(refine tN jI ?_)|(exact tE jI vA ⟨bE,rfl,rfl,rfl,AA⟩)|(intro _ _ hk;(first|(refine iW underlying82 sizeOf325 zeroValue325 rfl rfl rfl rfl rfl rfl rfl ?_;intro bE AA KV;refine OJ.done (hk _ _ _ ?_))))
   rintro _ _ _ ⟨bE,rfl,rfl,rfl,AA⟩;refine zxe ?_;intro J Gl Gm Gn rn;refine B 10 ?_;refine lx ?_;refine PJ.again (Rw.row J Gl Gm,j+1) ⟨by dsimp only;omega,Gn.elim (λh=>Rw.Fr_at aB h) (λh=>.inr h),by dsimp only;rw[Gf hx h1];exact rn⟩ zZ ⟨rfl,rfl,rfl,rfl,congrArg (λz=>some (Value.bool z)) (by dsimp only;rw[Sz hx];rw[h1];rfl),rfl,trivial⟩ (by dsimp only;rw[Gf hx h1];rfl) rfl zP
  by_cases h2:n.at_<x.at_
  ·refine eA 11 (pb:=zYZ) (sp:=(_::_::_::_::(some (.slice (some ⟨bo,oo,none⟩) ns.length cp))::_)) (k:=?_);refine bX aK ?_;refine aV 8 (.agg (dJ n)) ?_;refine zlg ?_;refine yW ?_;intro wX vJ Jy;refine jf (r:=r) (xs:=(ey ns n j)) (zs:=[n]) (enc:=dD) (m:=2) (H0:=[(wX,oC (dJ n) 325),(b5,oC #[r.val (ey ns n j).length] 84),(b4,oC #[bS] 84)]) (H1:=[]) pP Vl tB rfl rfl rfl rfl (bN.one (z:=n) tB Vh underlying82 (bL.own (i:=0) rfl)) af aB zP vn ?_;intro qt sP oI sh yP;refine B 8 ?_;have cx:(Rw.row qt sP oI).ge w3.heap.size:=Rw.ge_of (show(Rw.row qt sP oI).Fr Gh.no [w3,w2,w]from sh.elim (λh=>Rw.Fr_at aB h) (λh=>.inr h)) A0;have cy:w3.heap.size<=qt:=cx;refine CJ.dropAt (i:=0) rfl zI ?_;refine tS 8 [7] [[]] (λcv L' H'=>let dA:ae:=[(b5,oC #[(Rw.row qt sP oI).val ((ey ns n j)++[n]).length] 84),(b4,oC #[bS] 84)];∃(bE:Nat),cv=[some (.slice (aH bE) 1 1)]/\L'=[w3,w2,w]/\H'=(bE,oC (dJ x) 325)::(dA++((Rw.row qt sP oI).hp dD 325 ((ey ns n j)++[n])++[]))/\w3.heap.size<=bE/\w2.heap.size<=bE/\w.heap.size<=bE/\True) (sp:=[_,_,_,_,_,_,some (.agg (dJ x)),_]) (t:=?_) (k:=?_)
   ·repeat' first|exact tZ|(refine tU rfl ?_)|(refine tR rfl ?_ ?_)|(refine tN jI ?_)|(exact tE jI vA ⟨bE,rfl,rfl,rfl,AA⟩)|(intro _ _ hk;(first|(refine iW underlying82 sizeOf325 zeroValue325 rfl rfl rfl rfl rfl rfl rfl ?_;intro bE AA KV;refine OJ.done (hk _ _ _ ?_))))
   rintro _ _ _ ⟨bE,rfl,rfl,rfl,AA⟩;refine jf (r:=(Rw.row qt sP oI)) (xs:=((ey ns n j)++[n])) (zs:=[x]) (enc:=dD) (m:=2) (H0:=[(bE,oC (dJ x) 325),(b5,oC #[(Rw.row qt sP oI).val ((ey ns n j)++[n]).length] 84),(b4,oC #[bS] 84)]) (H1:=[]) pP Vl tB rfl rfl rfl rfl (bN.one (z:=x) tB Vh underlying82 (bL.own (i:=0) rfl)) yP (show(Rw.row qt sP oI).Fr Gh.no [w3,w2,w]from sh.elim (λh=>Rw.Fr_at aB h) (λh=>.inr h)) zP z4 ?_;intro J Gl Gm Gn rn;refine B 10 ?_;refine lx ?_;refine PJ.again (Rw.row J Gl Gm,j+1) ⟨by dsimp only;omega,Gn.elim (λh=>Rw.Fr_at (show(Rw.row qt sP oI).Fr Gh.no [w3,w2,w]from sh.elim (λh=>Rw.Fr_at aB h) (λh=>.inr h)) h) (λh=>.inr h),by dsimp only;rw[Gg hx (Bool.eq_false_iff.2 h1) h2];exact rn⟩ zZ ⟨rfl,rfl,rfl,rfl,congrArg (λz=>some (Value.bool z)) (by dsimp only;rw[Sz hx];rw[decide_eq_true h2,Bool.or_true]),rfl,trivial⟩ (by dsimp only;rw[Gg hx (Bool.eq_false_iff.2 h1) h2];rfl) rfl zP
  refine eA 11 (pb:=zYZ) (sp:=(_::_::_::_::(some (.slice (some ⟨bo,oo,none⟩) ns.length cp))::_)) (k:=?_);refine pN ?_;refine tS 8 [7] [[]] (λcv L' H'=>let dA:ae:=[(b5,oC #[r.val (ey ns n j).length] 84),(b4,oC #[bS] 84)];∃(bE:Nat),cv=[some (.slice (aH bE) 1 1)]/\L'=[w3,w2,w]/\H'=(bE,oC (dJ x) 325)::(dA++(r.hp dD 325 (ey ns n j)++[]))/\w3.heap.size<=bE/\w2.heap.size<=bE/\w.heap.size<=bE/\True) (sp:=[_,_,_,_,_,_,some (.agg (dJ x)),_]) (t:=?_) (k:=?_)
  ·repeat' first|exact tZ|(refine tU rfl ?_)|(refine tR rfl ?_ ?_)|(refine tN jI ?_)|(exact tE jI vA ⟨bE,rfl,rfl,rfl,AA⟩)|(intro _ _ hk;(first|(refine iW underlying82 sizeOf325 zeroValue325 rfl rfl rfl rfl rfl rfl rfl ?_;intro bE AA KV;refine OJ.done (hk _ _ _ ?_))))
  rintro _ _ _ ⟨bE,rfl,rfl,rfl,AA⟩;refine zxe ?_;intro J Gl Gm Gn rn;refine B 10 ?_;refine lx ?_;refine PJ.again (Rw.row J Gl Gm,j+1) ⟨by dsimp only;omega,Gn.elim (λh=>Rw.Fr_at aB h) (λh=>.inr h),by dsimp only;rw[Gj hx (Bool.eq_false_iff.2 h1) h2];exact rn⟩ zZ ⟨rfl,rfl,rfl,rfl,congrArg (λz=>some (Value.bool z)) (by dsimp only;rw[Sz hx];rw[decide_eq_false h2,Bool.or_false]),rfl,trivial⟩ (by dsimp only;rw[Gj hx (Bool.eq_false_iff.2 h1) h2];rfl) rfl zP
 intro ai;refine B 7 ?_;have cN:ns.take j=ns:=lE aa;rw[cN];refine av 5 ?_ ?_
 ·intro ax;have cC:er ns n=(ey ns n j)++[n]:=by unfold ey;rw[cN,if_neg z2,nEn z2]
  refine aV 3 (.agg (dJ n)) ?_;refine zlg ?_;refine yW ?_;intro bz c0 cO;refine jf (r:=r) (xs:=(ey ns n j)) (zs:=[n]) (enc:=dD) (m:=2) (H0:=[(bz,oC (dJ n) 325),(b5,oC #[r.val (ey ns n j).length] 84),(b4,oC #[bS] 84)]) (H1:=[]) pP Vl tB rfl rfl rfl rfl (bN.one (z:=n) tB Vh underlying82 (bL.own (i:=0) rfl)) af aB zP vn ?_;intro Lo BU BV FL yL;refine B 11 ?_;have bg:(Rw.row Lo BU BV).Fr Gh.no [w3,w2,w]:=FL.elim (λh=>Rw.Fr_at aB h) (λh=>.inr h);have cI:w3.heap.size<=Lo:=Rw.ge_of bg A0;rw[cC];exact nB (H0:=[(bz,oC (dJ n) 325),(b5,oC #[(Rw.row Lo BU BV).val ((ey ns n j)++[n]).length] 84),(b4,oC #[(Rw.row Lo BU BV).val ((ey ns n j)++[n]).length] 84)]) (H1:=[]) (r:=.row Lo BU BV) (.inl rfl) results237 aL A2 (by simp only[Over,nl,gU,fP,dG,eI,gB,and_true];omega) rfl yL (Rw.ge_of bg A2) rfl
 intro ax;refine B 5 ?_;refine Vp ?_;refine B 3 ?_;have cC:er ns n=(ey ns n j):=by unfold ey;rw[cN,if_pos z2]
 rw[cC];exact nB (H0:=[(b5,oC #[r.val (ey ns n j).length] 84),(b4,oC #[r.val (ey ns n j).length] 84)]) (H1:=[]) (r:=r) (.inl rfl) results237 aL A2 zS rfl af (Rw.ge_of aB A2) Wa
theorem LJ(fe:fX ns=0)(d p:Int)(hd:bM d)(hp:dr p):Calls prog 239 #[.agg #[.slice a ns.length cp],ab d,ab p] w (nv w dD 2 325 (il ns d p) (λs=>.tuple #[.agg #[s],ab 0])):=by
 have qq:NB ns:=λn hn=>by obtain⟨i,hi⟩:=iB.1 hn;have:=(BB.1 fe i n hi).2.1;omega
 have aR:=hd.1;have vZ:=hd.2;rw[Lz fe hd hp];refine eN func239 ntmps239 ?_;refine aU 2 ?_;intro b3 w3 bQ aZ dK cP dt;refine bD 1 ?_;intro b6 jb od;refine zZh ?_;refine Ce ?_;refine call (v:=ab 0) call35 rfl rfl rfl (λW hS=>by have h9:=nL p W;rwa[if_pos hp]at h9) ?_;refine xf ?_;refine Al ?_;refine B 1 ?_;refine nN (enc:=dD) (m:=2) (t:=325) (xs:=(fk ns d)) (v:=(λs=>.agg #[s])) (first:=[]) (cap:=[]) rfl call236 rfl rfl rfl tB (λW hS=>n9f ns hn N a cp W aT (aA.us hS.sm) d hd) ?_;intro aD OD oZ OE J rp gv jP;have Gq:=(J.links w A1).size;have Gr:=rp.size;have kR:=J.under;replace kR:=yg kR;refine B 4 ?_;refine xg (enc:=dD) (m:=2) (t:=325) (xs:=(er (fk ns d) ⟨512+d,p⟩)) (v:=(λs=>.agg #[s])) (first:=[]) (cap:=[]) rfl call237 rfl rfl rfl (λW hS=>nXm (fk ns d) (dS (nsi ns d) hn) W.heap.size OD oZ W (aC _) (gv.to hS A0 (aC _) (λb off e=>.inr (by have h9:=jP _ e;dsimp only at h9;simp only[cu,and_true];omega))) ⟨512+d,p⟩) ?_;intro r8 dY jK;have jX:=Rw.ge_of dY A2;refine Vm ?_;refine B 4 ?_;exact nB (H0:=[(b6,oC #[r8.val (er (fk ns d) ⟨512+d,p⟩).length] 84)]) (H1:=[]) (r:=r8) (.inl rfl) results239 aL A2 zeb rfl jK jX Wa
theorem nhr(fe:fX ns=0)(d:Int)(hd:bM d)(hm:(al (bh ns) (512+d)).isSome=true):Calls prog 238 #[.agg #[.slice a ns.length cp],ab d] w (nv w dD 2 325 (iD ns d) (λs=>.tuple #[.agg #[s],ab 0])):=by
 have qq:NB ns:=λn hn=>by obtain⟨i,hi⟩:=iB.1 hn;have:=(BB.1 fe i n hi).2.1;omega
 have aq:=hd.1;have vZ:=hd.2;rw[Ly fe hd hm];refine eN func238 ntmps238 ?_;refine aU 2 ?_;intro b2 w2 bV bj dz cL cR;refine bD 1 ?_;intro b4 dL dP;refine zZh ?_;refine bX aO ?_;refine B 1 ?_;refine Al ?_;refine B 2 ?_;refine zjf ?_;refine B 8 ?_;refine Al ?_;refine B 1 ?_;refine zhf ?_;intro r8 dY J;have jX:=Rw.ge_of dY A1;refine Vm ?_;refine B 4 ?_;exact nB (H0:=[(b4,oC #[r8.val (fk ns d).length] 84)]) (H1:=[]) (r:=r8) (.inl rfl) results238 aL A1 zeb rfl J jX Wa
end
def aa0 (ns:List Nd) (k:Nat):Prop:=∀(n:Int) (N:Nat) (a:Option Addr) (cp:Nat) (w:World),N<=w.heap.size->aj dJ 2 N w a ns->1<=n->n<1024->1024<=n*2^k->Calls prog 324 #[.agg #[.slice a ns.length cp],ab n] w (nv w ak 1 3 (dB (bh ns) k n) id)
theorem nQe(kv:List (Int×Int)):∀(k:Nat) (n:Int),(dB kv k n).length<=2^k
 |0,n=>by simp[dB]
 |k+1,n=>by
  have h1:=nQe kv k (2*n);have h2:=nQe kv k (2*n+1)
  grind [dB]
section
variable (ns:List Nd)(hn:ns.length<=100000)(N:Nat)(a:Option Addr)(cp:Nat)(w:World)(hN:N<=w.heap.size)(aA:aj dJ 2 N w a ns)(n:Int)
include hn N a cp w hN aA
theorem LK(hk:(al (bh ns) n).isSome=true):Calls prog 324 #[.agg #[.slice a ns.length cp],ab n] w (nv w ak 1 3 [n] id):=by
 refine eN func324 ntmps324 ?_;refine aU 2 ?_;intro b2 w2 bV bj dz cL cR;refine Vn ?_;refine B 1 ?_;refine cl call235 rfl (λW hS=>by rw[<-show(!(al (bh ns) n).isSome)=false by rw[hk];rfl];exact nLd ns hn N a cp W aT (aA.us hS.sm) n) (v:=.bool false) ?_;refine bX aK ?_;refine B 6 ?_;refine uC ?_;refine yW ?_;intro iK J iS;refine B 5 ?_;exact nB (H0:=[]) (H1:=[]) (r:=.row iK 1 []) (xs:=[n]) (enc:=ak) (m:=1) (t:=3) (.inl rfl) results324 aL A1 vF rfl ⟨aC 1,rfl⟩ (by show w.heap.size<=iK;omega) rfl
theorem Gs(hk:(al (bh ns) n).isSome=false)(h5:512<=n):Calls prog 324 #[.agg #[.slice a ns.length cp],ab n] w (nv w ak 1 3 [] id):=by
 refine eN func324 ntmps324 ?_;refine aU 2 ?_;intro b2 w2 bV bj dz cL cR;refine Vn ?_;refine B 1 ?_;refine cl call235 rfl (λW hS=>by rw[<-show(!(al (bh ns) n).isSome)=true by rw[hk];rfl];exact nLd ns hn N a cp W aT (aA.us hS.sm) n) (v:=.bool true) ?_;refine Ce ?_;refine bX aK ?_;refine B 10 ?_;exact nB (enc:=ak) (m:=1) (t:=3) (xs:=[]) (H0:=[]) (H1:=[]) (r:=.nil) (.inl rfl) results324 aL A1 trivial rfl rfl True.intro rfl
end
theorem Gt(ns:List Nd)(hn:ns.length<=100000)(k:Nat)(aq:k<=10)(ih:aa0 ns k)(n:Int)(N:Nat)(a:Option Addr)(cp:Nat)(w:World)(hN:N<=w.heap.size)(aA:aj dJ 2 N w a ns)(xG:1<=n)(uk:n<512)(BX:1024<=n*2^(k+1))(J:(al (bh ns) n).isSome=false):Calls prog 324 #[.agg #[.slice a ns.length cp],ab n] w (nv w ak 1 3 ((dB (bh ns) k (2*n))++(dB (bh ns) k (2*n+1))) id):=by
 have qJ:=nQe (bh ns) k (2*n);have KA:=nQe (bh ns) k (2*n+1);have hp:=Nat.pow_le_pow_right (n:=2) zF aq;have e1:2*n*2^k=n*2^(k+1):=by rw[Int.pow_succ,Int.mul_comm 2 n,Int.mul_assoc,Int.mul_comm (2^k) 2]
 have e2:(2*n+1)*2^k=2*n*2^k+2^k:=by rw[Int.add_mul,Int.one_mul]
 have e3:(0:Int)<=2^k:=Int.le_of_lt (Int.pow_pos zF);refine eN func324 ntmps324 ?_;refine aU 2 ?_;intro b2 w2 bV bj dz cL cR;refine Vn ?_;refine B 1 ?_;refine cl call235 rfl (λW hS=>by rw[<-show(!(al (bh ns) n).isSome)=true by rw[J];rfl];exact nLd ns hn N a cp W aT (aA.us hS.sm) n) (v:=.bool true) ?_;refine Ce ?_;refine pN ?_;refine eS 8 3 [] (h:=?_);intro _ _ hk;refine xg (enc:=ak) (m:=1) (t:=3) (xs:=(dB (bh ns) k (2*n))) (v:=id) (first:=[]) (cap:=[]) rfl call324 rfl rfl rfl (λW hS=>ih (2*n) N a cp W aT (aA.us hS.sm) aa aa aa) ?_;intro r1 jH kK;have bW:r1.ge w2.heap.size:=Rw.ge_of jH A0;refine zE ?_;refine xg (enc:=ak) (m:=1) (t:=3) (xs:=(dB (bh ns) k (2*n+1))) (v:=id) (first:=[]) (cap:=[]) rfl call324 rfl rfl rfl (λW hS=>ih (2*n+1) N a cp W aT (aA.us (hS.same A1 hN zO (by rw[dG];exact Rw.over (Rw.ge_mono bW aa)))) aa aa aa) ?_;intro r2 ei dE;have eX:=Rw.ge_of ei A1;refine Wb (r:=r1) (xs:=(dB (bh ns) k (2*n))) (zs:=(dB (bh ns) k (2*n+1))) (enc:=ak) (m:=1) (H0:=[]) (H1:=r2.hp ak 3 (dB (bh ns) k (2*n+1))++[]) (by simp only[dG,fP]) vY nh rfl rfl rfl rfl (bN.rw (t:=3) nh v7 underlying96 dE (λp hp=>by simp only[dG];exact List.mem_append_right _ hp)) kK jH aa ?_;intro r9 qd pB
 refine B 4 ?_;exact nB (H0:=[]) (H1:=r2.hp ak 3 (dB (bh ns) k (2*n+1))++[]) (r:=r9) (.inl rfl) results324 aL A1 (by simp only[dG,fP,nl];exact⟨Rw.over (Rw.ge_of qd A1),Rw.over eX⟩) rfl pB (Rw.ge_of qd A1) rfl
theorem nsq(ns:List Nd)(hn:ns.length<=100000):∀k,k<=11->aa0 ns k
 |0,_=>λn N a cp w _ _ h1 h2 h3=>by omega
 |k+1,hk=>λn N a cp w hN aA h1 h2 h3=>by
  cases J:(al (bh ns) n).isSome with
  |true=>grind [nsj,LK]
  |false=>
   by_cases h5:512<=n
   ·grind [nMl,Gs]
   rw[nDh cM h5];exact Gt ns hn k aa (nsq ns hn k aa) n N a cp w hN aA h1 aa h3 J
theorem nVk(ns:List Nd)(hn:ns.length<=100000)(N:Nat)(a:Option Addr)(cp:Nat)(w:World)(hN:N<=w.heap.size)(aA:aj dJ 2 N w a ns)(fe:fX ns=0)(n:Int)(h1:1<=n)(h2:n<=1023):Calls prog 283 #[.agg #[.slice a ns.length cp],ab n] w (nv w ak 1 3 (nG ns n) (λs=>.tuple #[s,ab 0])):=by
 have qq:NB ns:=λn hn=>by obtain⟨i,hi⟩:=iB.1 hn;have:=(BB.1 fe i n hi).2.1;omega
 have he:nG ns n=dB (bh ns) 10 n:=by unfold nG;rw[if_pos ⟨fe,h1,h2⟩]
 rw[he];refine eN func283 ntmps283 ?_;refine aU 2 ?_;intro b2 w2 bV bj dz cL cR;refine Vn ?_;refine zde ?_;refine B 7 ?_;refine Ce ?_;refine Ve ?_;refine Je ?_;refine Al ?_;refine B 1 ?_;refine xg (enc:=ak) (m:=1) (t:=3) (xs:=(dB (bh ns) 10 n)) (v:=id) (first:=[]) (cap:=[]) rfl call324 rfl rfl rfl (λW hS=>nsq ns hn 10 zF n N a cp W aT (aA.us hS.sm) h1 aa aa) ?_;intro r8 dY J;have jX:=Rw.ge_of dY A1;refine B 5 ?_;exact nB (H0:=[]) (H1:=[]) (r:=r8) (.inl rfl) results283 aL A1 (by rw[dG];exact Rw.over jX) rfl J jX zP
theorem Gu:∀(i n:Nat),1<n/2^i->(ke n)[i]? =some (n/2^i)
 |0,n,h=>by
  grind [Ag]
 |i+1,n,h=>by
  have h1:1<n:=by
   rcases V4 1 n with h2|h2
   ·exact h2
   have:=Nat.div_le_self n (2^(i+1));omega
  have e:n/2^(i+1)=n/2/2^i:=by rw[Nat.pow_succ,Nj,Nat.div_div_eq_div_mul]
  rw[e]at h ⊢;rw[Ag h1];exact Gu i (n/2) h
theorem SC(hd:bM d)(hi:i<10):(yO d)[i]? =some (((512+d).toNat/2^i:Nat):Int):=by
 cases i with
 |zero=>show some (512+d)=_;grind
 |succ i=>
  have h2:2^i<=256:=by have:=Nat.pow_le_pow_right (n:=2) zF (show i<=8 by omega);simpa using this
  have h3:1<(512+d).toNat/2^i:=by
   have:2<=(512+d).toNat/2^i:=(Nat.le_div_iff_mul_le (Nat.two_pow_pos i)).2 aa;omega
  show(da d)[i]? =_;unfold da
  grind [Gu,mC,Nat.div_div_eq_div_mul]
theorem nkm{l:List Int}{p:Int}(hd:bM d)(hj:j<10)(hp:l[j]? =some p):km ns d l (j+1)=er (km ns d l j) ⟨(((512+d).toNat/2^j:Nat):Int),p⟩:=by
 unfold km;rw[nk (x:=((((512+d).toNat/2^j:Nat):Int),p)) (by grind [List.getElem?_zip_eq_some,SC]),List.foldl_append];rfl
theorem Gw(n:Nd):∀l:List Nd,(er l n).length=l.length+1
 | []=>rfl
 |a::l=>by(induction l<;>grind [er])
theorem Gx(ns:List Nd)(d:Int)(l:List Int)(j:Nat):(km ns d l j).length<=ns.length+j:=by
 have key:∀(ps:List (Int×Int)) (xs:List Nd),(ps.foldl (λx p=>er x ⟨p.1,p.2⟩) xs).length=xs.length+ps.length:=by
  intro ps;induction ps with
  |nil=>simp
  |cons p ps ih=>grind [Gw]
 grind [km,nsi]
theorem LL{xs:List Nd}(hx:xs.length<=100000){r:Rw}(J:r.Fit 2 xs){W:World}(gi:r.At dD 325 xs W)(n:Nd):Calls prog 237 #[.agg #[r.val xs.length],.agg (dJ n)] W (nv W dD 2 325 (er xs n) (λs=>.agg #[s])):=by
 obtain⟨a,cp,he,aA⟩:=r.sl tB J gi (aC _);rw[he];exact nXm xs hx W.heap.size a cp W (aC _) aA n
theorem nHs(ns:List Nd)(hn:ns.length<=100000)(N:Nat)(a:Option Addr)(cp:Nat)(w:World)(hN:N<=w.heap.size)(aA:aj dJ 2 N w a ns)(fe:fX ns=0)(d:Int)(hd:bM d)(hm:(al (bh ns) (512+d)).isSome=true)(IY:ns.length<=90000)(l:List Int)(hl:l.length=10)(kG:∀y∈l,dr y)(NP:Nat)(ap:Option Addr)(qQ:Nat)(Eu:NP<=w.heap.size)(lV:aj encI 1 NP w ap l):Calls prog 173 #[.agg #[.slice a ns.length cp],ab d,.slice ap l.length qQ] w (nv w dD 2 325 (aP ns d l) (λs=>.tuple #[.agg #[s],ab 0])):=by
 have qq:NB ns:=λn hn=>by obtain⟨i,hi⟩:=iB.1 hn;have:=(BB.1 fe i n hi).2.1;omega
 have b0:=hd.1;have vZ:=hd.2;rw[nqq fe hd hm aa,show km ns d l l.length=km ns d l 10 by rw[hl]];have bR:=nsi ns d;refine eN func173 ntmps173 ?_;refine aU 2 ?_;intro b3 w3 bQ aZ dK cP dt;refine bD 1 ?_;intro b6 jb od;refine zZh ?_;refine bX aO ?_;refine B 1 ?_;refine Al ?_;refine B 2 ?_;refine zjf ?_;refine B 11 ?_;refine rq aO (aN rfl rfl) (vb (by simp[hl])) ?_;refine B 12 ?_;refine CJ.loop (α:=Nat) (λj=>[(1,ab d),(2,.slice ap l.length qQ),(3,ptr b3 0),(6,ptr b6 0),(9,ab (j:Int))]) (λj=>[(b6,oC #[bS] 84)]) (λj=>[w3,w]) (λj=>Gh.no) (λj=>j<=l.length) (λj=>l.length-j) 0 (cd _) zR rfl rfl zP ?_;rintro j hj;refine av 9 ?_ ?_
 ·intro ai;refine B 5 ?_;obtain⟨a8,aD,Q2,aq,Q3,rfl,aR,pU,pV⟩:=lV.get aa;obtain⟨p,hp⟩:=ng l j aa;have J:=kG p (cF hp);refine B 4 ?_;refine rx (ad (v:=ab p) isAgg3 rfl A1 pU zL zD (nu pV hp rfl 0 zF)) ?_;refine call (v:=ab 0) call35 rfl rfl rfl (λW hS=>by have h9:=nL p W;rwa[if_pos J]at h9) ?_;refine U1 ?_;exact AY
 intro ai;refine B 7 ?_;refine Al ?_;refine B 1 ?_;refine zhf ?_;intro r8 dY jK;have jX:=Rw.ge_of dY A1;refine bD 1 ?_;intro iK gC iS;refine Vm ?_;refine B 16 ?_;refine CJ.loop (α:=Rw×Nat) (λp=>[(2,.slice ap l.length qQ),(6,ptr b6 0),(10,ptr iK 0),(11,ab (((512+d).toNat/2^p.2:Nat):Int)),(12,ab (p.2:Int))]) (λp=>[(iK,oC #[p.1.val (km ns d l p.2).length] 84),(b6,oC #[bS] 84)]++(p.1.hp dD 325 (km ns d l p.2)++[])) (λp=>[w3,w]) (λp=>Gh.no) (λp=>p.2<=10/\p.1.Fr Gh.no [w3,w]/\p.1.Fit 2 (km ns d l p.2)) (λp=>10-p.2) (r8,0) ⟨cd _,dY,jK⟩ ⟨rfl,rfl,rfl,congrArg (λz=>some (ab z)) (by dsimp only;rw[Nat.pow_zero,Nat.div_one];omega),rfl,trivial⟩ rfl rfl zP ?_;rintro⟨r,j⟩ ⟨hj,aB,af⟩;dsimp only at hj aB af ⊢;have bW:r.ge w3.heap.size:=Rw.ge_of aB A0;have Bb:=Gx ns d l j;have bg:(512+d).toNat/2^j<=1023:=dS (Nat.div_le_self _ _) aa;refine av 9 ?_ ?_
 ·intro ax;refine B 5 ?_;obtain⟨a8,aD,Q2,aq,Q3,rfl,aR,pU,pV⟩:=lV.get aa;obtain⟨p,hp⟩:=ng l j aa;have J:=kG p (cF hp);refine eA 7 (pb:=by exact zU 5 (k:=by exact qv (ad (v:=ab p) isAgg3 rfl A1 pU zL zD (nu pV hp rfl 0 zF)) zT)) (sp:=[_,_,_,_,_,_,some (.agg #[ab (((512+d).toNat/2^j:Nat):Int),ab p])]) (k:=?_);refine xg (enc:=dD) (m:=2) (t:=325) (xs:=(er (km ns d l j) ⟨(((512+d).toNat/2^j:Nat):Int),p⟩)) (v:=(λs=>.agg #[s])) (first:=[]) (cap:=[]) rfl call237 rfl rfl rfl (λW hS=>LL aa af (Rw.at_mem hS (λq hq=>by simp only[dG,dQ];exact .inr hq)) ⟨(((512+d).toNat/2^j:Nat):Int),p⟩) ?_;intro r2 ei eT;have eX:=Rw.ge_of ei A0;refine Vm ?_;refine B 4 ?_;refine rx (Gy rfl rfl (Int.natCast_nonneg _) (Int.lt_of_le_of_lt (Int.ofNat_le.2 bg) zF) zF) ?_;refine B 9 ?_;refine nYg (r:=r) (enc:=dD) (t:=325) (xs:=(km ns d l j)) (H0:=[(iK,oC #[r2.val (er (km ns d l j) ⟨(((512+d).toNat/2^j:Nat):Int),p⟩).length] 84),(b6,oC #[bS] 84)]) (H1:=r2.hp dD 325 (er (km ns d l j) ⟨(((512+d).toNat/2^j:Nat):Int),p⟩)++[]) (by simp only[dG,lP];rfl) aB ?_;refine PJ.again (r2,j+1) ⟨by dsimp only;omega,ei,by dsimp only;rw[nkm hd aa hp];exact eT⟩ zZ ⟨rfl,rfl,rfl,congrArg (λz=>some (ab z)) (by dsimp only;rw[Nat.pow_succ,<-Nat.div_div_eq_div_mul];exact(Int.natCast_ediv _ 2).symm),rfl,trivial⟩ (by dsimp only;rw[nkm hd aa hp]) rfl zP
 intro ax;refine B 6 ?_;obtain rfl:j=10:=by omega
 refine B 2 ?_;refine Vp ?_;refine B 4 ?_;exact nB (H0:=[(iK,oC #[r.val (km ns d l 10).length] 84),(b6,oC #[r.val (km ns d l 10).length] 84)]) (H1:=[]) (r:=r) (.inl rfl) results173 aL A1 zS rfl af (Rw.ge_of aB A1) Wa
def tQ:Mb:=⟨0,0,0⟩
def ru:Ch:=⟨0,0,0,0,0⟩
theorem nHp{x:Mb}(h:cE (λm:Mb=>decide (m.dev=d)) ms j)(hx:ms[j]? =some x)(hk:x.dev=d):gj ms d=some x:=VO h hx cM
theorem SD(h:cE (λm:Mb=>decide (m.dev=d)) ms j)(hj:¬j<ms.length):gj ms d=none:=Z6 h hj
theorem nXp(h:cE (λy:Ch=>decide (y.dev=d)) l j)(hx:l[j]? =some x)(hk:x.dev=d):ga l d=some x:=VO h hx cM
theorem SE(h:cE (λy:Ch=>decide (y.dev=d)) l j)(hj:¬j<l.length):ga l d=none:=Z6 h hj
theorem GA(h:64<l.length):false=fZ l:=by
 cases e:fZ l with
 |false=>rfl
 |true=>exact absurd (Cv.1 e).2 aa
instance (x:Ch):Decidable (uI x):=by unfold uI;infer_instance
def chB (x:Ch):Bool:=decide (uI x)
theorem nrc:chB x=true↔uI x:=by grind [chB]
theorem GB{p:Ch->Bool}(h:cE p l i)(hi:j<=i):(l.take j).any p=false:=by
 rw[List.any_eq_false];intro x hx;obtain⟨t,J⟩:=iB.1 hx
 grind [cE]
theorem LM{p:Ch->Bool}(hx:l[i]? =some x)(hi:i<j)(h:p x=true):(l.take j).any p=true:=
 List.any_eq_true.2 ⟨x,iB.2 ⟨i,by grind⟩,h⟩
theorem mJ.r(h:mJ l j)(hj:¬j<l.length)(hl:l.length<=64):true=fZ l:=(Cv.2 ⟨λi x hi hx=>h i x aa hx,hl⟩).symm
theorem mJ.no(hx:l[j]? =some x)(h:¬yy l j x):false=fZ l:=by
 cases e:fZ l with
 |false=>rfl
 |true=>exact absurd ((Cv.1 e).1 j x (aG hx) hx) h
theorem nZd(G:Gv)(N:Nat)(w:World)(hN:N<=w.heap.size)(hG:aM N w G)(d:Int):Calls prog 175 #[.agg (aY G),ab d] w (ar w (.tuple #[.agg (jx ((gj G.g.ms d).getD tQ)),.bool (gj G.g.ms d).isSome])):=by
 have J:=hG.mn;have qP:=hG.ms;refine eN func175 ntmps175 ?_;refine aU 2 ?_;intro b2 w2 bV bj dz cL cR;refine bD 1 ?_;intro b4 dL dP;refine B 10 ?_;refine CJ.lp (α:=Nat) [1,2,4] (λj=>[(6,ab (j:Int))]) (λj=>[(b4,oC (jx tQ) 156)]) (λj=>j<=G.g.ms.length/\cE (λm:Mb=>decide (m.dev=d)) G.g.ms j) (λj=>G.g.ms.length-j) 0 ⟨cd _,λi x hi=>absurd hi aa⟩ ?_;rintro j ⟨hj,bT⟩;refine B 5 ?_;refine VP ?_;refine av 4 ?_ ?_
 ·intro ai;refine B 5 ?_;obtain⟨bo,oo,cs0,to,dR,iq,dW,hcs,ay⟩:=qP.get aa;obtain⟨x,hx⟩:=ng G.g.ms j aa;refine B 2 ?_;refine zyg ?_;refine B 3 ?_;refine rx (ad (v:=ab x.dev) isAgg3 rfl A1 hcs zL zD (nu ay hx rfl 0 zF)) ?_;refine av 4 ?_ ?_
  ·intro ax;refine B 3 ?_;refine zyg ?_;refine aV 2 (.agg (jx x)) ?_;refine B 10 ?_;exact zFk
  exact OC
 intro ai;refine B 13 ?_;exact zFk
theorem n8j(l:List Ch)(de:l.length<=1000000)(N:Nat)(a:Option Addr)(cp:Nat)(w:World)(hN:N<=w.heap.size)(aA:aj ff 5 N w a l)(d:Int):Calls prog 176 #[.slice a l.length cp,ab d] w (ar w (.tuple #[.agg (ff ((ga l d).getD ru)),.bool (ga l d).isSome])):=by
 refine eN func176 ntmps176 ?_;refine bD 3 ?_;intro b4 dL dP;refine B 10 ?_;refine CJ.lp (α:=Nat) [0,1,4] (λj=>[(6,ab (j:Int))]) (λj=>[(b4,oC (ff ru) 271)]) (λj=>j<=l.length/\cE (λy:Ch=>decide (y.dev=d)) l j) (λj=>l.length-j) 0 ⟨cd _,λi x hi=>absurd hi aa⟩ ?_;rintro j ⟨hj,bT⟩;refine av 9 ?_ ?_
 ·intro ai;refine B 5 ?_;obtain⟨bo,oo,cs0,to,dR,rfl,dW,hcs,ay⟩:=aA.get aa;obtain⟨x,hx⟩:=ng l j aa;refine B 5 ?_;refine rx (ad (v:=ab x.dev) isAgg3 rfl A0 hcs zL zD (nu ay hx rfl 1 zF)) ?_;refine av 4 ?_ ?_
  ·intro ax;refine aV 5 (.agg (ff x)) ?_;refine B 10 ?_;exact zDk
  exact OC
 intro ai;refine B 13 ?_;exact zDk
theorem n1q(x:Ch)(w:World):Calls prog 281 #[.agg (ff x)] w (ar w (.bool (chB x))):=by
 obtain⟨e1,lS⟩:∃e,(if dr x.pub then(0:Int)else 40)=e:=⟨_,rfl⟩;obtain⟨e2,pR⟩:∃e,(if dr x.ver then(0:Int)else 40)=e:=⟨_,rfl⟩;have BI:=KG x.pub;rw[lS]at BI;have BJ:=KG x.ver;rw[pR]at BJ;refine eN func281 ntmps281 ?_;refine aU 2 ?_;intro b1 w1 aW bJ eO dC fg;refine B 8 ?_;refine cl call228 rfl (λW hS=>V6 x.dev W) ?_;refine av 3 ?_ ?_
 ·intro ai;refine B 7 ?_;exact zAj
 intro ai;refine B 3 ?_;refine CJ.mid (t:=3) (v:=.bool (decide (e1=0/\e2=0))) (E0:=[(0,_),(1,_),(2,_),(5,_),(6,_),(7,_),(8,_)]) zR ?_ ?_
 ·refine B 3 ?_;refine call (v:=ab e1) call35 rfl rfl rfl (λW hS=>by rw[<-lS];exact nL _ W) ?_;refine B 2 ?_;refine nf (t:=13) rfl (λax=>?_) (λax=>?_)
  ·replace ax:=ya ax;refine B 2 ?_;refine call (v:=ab e2) call35 rfl rfl rfl (λW hS=>by rw[<-pR];exact nL _ W) ?_;refine B 4 ?_;exact zIk
  replace ax:=ya ax;refine B 7 ?_;exact zIk
 refine B 2 ?_;refine CJ.mid (t:=4) (v:=.bool (decide (0<=x.cut/\x.cut<=1048576))) (E0:=[(0,_),(1,_),(2,_),(3,_),(5,_),(6,_),(7,_),(8,_)]) zR ?_ ?_
 ·refine B 5 ?_;refine nf (t:=22) rfl (λbY=>?_) (λbY=>?_)
  ·exact z1j
  exact z1j
 refine av 15 ?_ ?_
 ·intro ez;refine B 4 ?_;refine nf (t:=32) rfl (λeB=>?_) (λeB=>?_)
  ·replace eB:=ya eB;refine B 10 ?_;exact zAj
  replace eB:=ya eB;refine B 10 ?_;exact zAj
 intro ez;refine av 6 ?_ ?_
 ·intro gq;refine B 6 ?_;refine nf (t:=42) rfl (λfw=>?_) (λfw=>?_)
  ·replace fw:=ya fw;refine B 5 ?_;refine nf (t:=47) rfl (λja=>?_) (λja=>?_)
   ·replace ja:=ya ja;exact zel
   replace ja:=ya ja;exact zel
  replace fw:=ya fw;refine B 13 ?_;exact zAj
 intro gq;refine av 6 ?_ ?_
 ·intro jz;refine B 4 ?_;refine nf (t:=53) rfl (λJ=>?_) (λJ=>?_)
  ·replace J:=ya J;exact zel
  replace J:=ya J;exact zel
 intro jz;refine B 9 ?_;exact zAj
theorem nGr(l:List Ch)(de:l.length<=1000000)(N:Nat)(a:Option Addr)(cp:Nat)(w:World)(hN:N<=w.heap.size)(aA:aj ff 5 N w a l):Calls prog 229 #[.slice a l.length cp] w (ar w (.bool (fZ l))):=by
 refine eN func229 ntmps229 ?_;refine av 13 ?_ ?_
 ·intro ai;refine B 7 ?_;refine ao results229 rfl A0 ?_;exact vb (GA aa)
 intro ai;refine B 9 ?_;refine CJ.lp (α:=Nat) [0] (λj=>[(3,ab (j:Int))]) (λj=>[]) (λj=>j<=l.length/\mJ l j) (λj=>l.length-j) 0 ⟨cd _,λi x hi=>absurd hi aa⟩ ?_;rintro j ⟨hj,bT⟩;refine av 9 ?_ ?_
 ·intro ax;refine B 6 ?_;obtain⟨bo,oo,cs0,to,dR,rfl,dW,hcs,ay⟩:=aA.get aa;obtain⟨x,hx⟩:=ng l j aa;refine aV 4 (.agg (ff x)) ?_;refine cl call281 rfl (λW hS=>n1q x W) ?_;refine av 3 ?_ ?_
  ·intro bY;refine B 12 ?_;refine ao results229 rfl A0 ?_;exact vb (mJ.no hx λg=>by have g1:=(nSm.1 g).1;rw[<-nrc]at g1;simp_all)
  intro bY;refine B 8 ?_;refine CJ.lp (α:=Nat) [0,3] (λi=>[(4,ab (i:Int))]) (λi=>[]) (λi=>i<=j/\cE (λy:Ch=>decide (y.dev=x.dev)) l i) (λi=>j-i) 0 ⟨cd _,λi x hi=>absurd hi aa⟩ ?_;rintro i ⟨hi,J⟩;refine av 8 ?_ ?_
  ·intro ez;refine B 5 ?_;obtain⟨z,hz⟩:=ng l i aa;refine eA 10 (pb:=by exact zU 4 (k:=by exact qv (ad (v:=ab z.dev) isAgg3 rfl A0 hcs zL trivial (nu ay hz rfl 1 zF)) (zU 4 (k:=by exact qv (ad (v:=ab x.dev) isAgg3 rfl A0 hcs zL trivial (nu ay hx rfl 1 zF)) (lK rfl))))) (k:=?_);refine av 3 ?_ ?_
   ·intro eB;refine B 15 ?_;refine ao results229 rfl A0 ?_;exact vb (mJ.no hx λg=>absurd (nSm.1 g).2 (by rw[LM hz aa z2];decide))
   intro eB;refine B 8 ?_;refine ag (i+1) ⟨by omega,J.next hz z2⟩
  intro ez;refine B 11 ?_;refine ag (j+1) ⟨by omega,bT.next hx (nSm.2 ⟨nrc.1 z2,GB J aa⟩)⟩
 intro ax;refine B 11 ?_;refine ao results229 rfl A0 ?_;exact vb (bT.r aa aa)
def GC (g:Gp) (j:Nat):Prop:=∀(i:Nat) (x:Mb) (y:Int),i<j->g.ms[i]? =some x->(fH g.ns 512)[i]? =some y->x.dev=y/\BH g.epoch x=false
theorem GC.next{x:Mb}{y:Int}(h:GC g j)(hx:g.ms[j]? =some x)(hy:(fH g.ns 512)[j]? =some y)(hk:x.dev=y/\BH g.epoch x=false):GC g (j+1):=λi x' y' hi J aq=>by
 rcases V4 i j with h1|h1
 ·exact h i x' y' h1 J aq
 grind
theorem nmh(h1:BG g.folder/\0<=g.epoch/\g.epoch<=1099511627776/\fX g.ns=0)(h2:¬(g.epoch=0/\(0<g.ms.length\/gV g.last (λ_=>0)=false)))(hl:(fH g.ns 512).length=g.ms.length)(h:GC g j)(hj:g.ms.length<=j):true=cY g:=by
 refine(tD.2 ⟨h1,h2,?_,?_⟩).symm
 ·rw[n6k];refine xL λi=>?_;rw[alt];cases e:g.ms[i]? with
  |none=>simp_all
  |some x=>
   have hi:=aG e;obtain⟨y,hy⟩:=ng (fH g.ns 512) i aa;rw[hy,<-(h i x y aa e hy).1];rfl
 rw[List.any_eq_false];intro x hx;obtain⟨i,e⟩:=iB.1 hx;have hi:=aG e;obtain⟨y,hy⟩:=ng (fH g.ns 512) i aa;rw[(h i x y aa e hy).2];decide
theorem nJd{x:Mb}{y:Int}(hx:g.ms[i]? =some x)(hy:(fH g.ns 512)[i]? =some y)(hk:¬(x.dev=y/\BH g.epoch x=false)):¬EG g:=λh=>by
 refine hk ⟨?_,?_⟩
 ·have h1:=h.2.2.1;rw[n6k]at h1;rw[<-h1,alt]at hy
  grind
 have:=List.any_eq_false.1 h.2.2.2 x (cF hx)
 grind
theorem nRg(h:¬(fH g.ns 512).length=g.ms.length):¬EG g:=λh1=>h (by rw[<-n6k,<-h1.2.2.1,jg])
theorem n7l(G:Gv)(N:Nat)(w:World)(hN:N<=w.heap.size)(hG:aM N w G)(qq:NB G.g.ns):Calls prog 167 #[.agg (aY G)] w (ar w (.bool (cY G.g))):=by
 have hn:G.g.ns.length<=100000:=by have:=hG.nn;omega
 have pO:G.g.ms.length<=1000000:=by have:=hG.mn;omega
 have aA:=hG.ns;have qP:=hG.ms;have Ao:=noo G.g.ns 512;refine eN func167 ntmps167 ?_;refine aU 2 ?_;intro b1 w1 aW bJ eO dC fg;refine B 5 ?_;by_cases h1:G.g.folder<0
 ·refine NG ?_;refine B 48 ?_;refine SF ?_;exact(tF (λh=>by have:=h.1.1;omega))
 by_cases h2:16<=G.g.folder
 ·refine UX ?_;refine NG ?_;refine B 44 ?_;refine SF ?_;exact(tF (λh=>by have:=h.1.1;omega))
 by_cases h3:G.g.epoch<0
 ·refine UX ?_;refine B 3 ?_;refine Cr ?_;refine bX aK ?_;refine B 39 ?_;refine SF ?_;exact(tF (λh=>by have:=h.1.2.1;omega))
 by_cases h4:1099511627776<G.g.epoch
 ·refine UX ?_;refine B 3 ?_;refine Cr ?_;refine Cr ?_;refine bX aK ?_;refine B 34 ?_;refine SF ?_;exact(tF (λh=>by have:=h.1.2.2.1;omega))
 by_cases h5:¬fX G.g.ns=0
 ·refine zeh ?_;refine Vy ?_;refine cl call226 rfl (λW hS=>ndc G.g.ns hn N G.na G.nc W aT (aA.up (aC _) hS.sm) qq) ?_;refine rq aK (aN rfl rfl) (vb (by simpa using h5)) ?_;refine B 28 ?_;refine SF ?_;exact(tF (λh=>h5 h.1.2.2.2))
 by_cases h6:¬G.g.epoch=0
 ·refine zeh ?_;refine zKd ?_;refine aV 4 aO ?_;refine B 21 ?_;refine Vy ?_;refine zgf ?_;intro aD OD oZ OE J rp gv jP;have Gq:=(J.links w A1).size;have Gr:=rp.size;have kR:=J.under;replace kR:=yg kR;refine B 9 ?_;refine VP ?_;refine av 4 ?_ ?_
  ·intro ai;refine B 7 ?_;exact zOj
  intro ai;refine B 9 ?_;refine z3e ?_;rintro j ⟨hj,bT⟩;refine av 9 ?_ ?_
  ·intro ax;exact z3k
  intro ax;refine B 11 ?_;exact zOj
 by_cases h7:0<G.g.ms.length
 ·refine zPh ?_;refine aV 1 aK ?_;refine B 18 ?_;refine SF ?_;exact(tF (λh=>h.2.1 ⟨by omega,.inl h7⟩))
 by_cases h8:gV G.g.last (λ_=>0)=false
 ·refine zPh ?_;refine B 1 ?_;refine Cr ?_;refine rq aK (iV wZ zF nT rfl rfl rfl) (vb (show(!gV G.g.last λ_=>0)=_ by rw[h8];rfl)) ?_;refine B 13 ?_;refine SF ?_;exact(tF (λh=>h.2.1 ⟨by omega,.inr h8⟩))
 refine zPh ?_;refine B 1 ?_;refine Cr ?_;refine rq aO (iV wZ zF nT rfl rfl rfl) (vb (show(!gV G.g.last λ_=>0)=_ by simpa using h8)) ?_;refine B 11 ?_;refine Vy ?_;refine zgf ?_;intro aD OD oZ OE J rp gv jP;have Gq:=(J.links w A1).size;have Gr:=rp.size;have kR:=J.under;replace kR:=yg kR;refine B 9 ?_;refine VP ?_;refine av 4 ?_ ?_
 ·intro bY;refine B 7 ?_;exact zHj
 intro bY;refine B 9 ?_;refine z3e ?_;rintro j ⟨hj,bT⟩;refine av 9 ?_ ?_
 ·intro ez;exact z3k
 intro ez;refine B 11 ?_;exact zHj
theorem SG(he:g.epoch=0)(h:(l.all λx=>decide (x.kind=1))=false):false=lZ g au l:=by grind [lZ]
theorem SH(he:g.epoch=0)(h:(l.all λx=>decide (x.kind=1))=true)(hx:l[0]? =some x):decide (x.dev=au)=lZ g au l:=by
 grind [lZ]
theorem SI(he:g.epoch=0)(h:l.length=0):false=lZ g au l:=by
 grind [lZ]
theorem nPp{α:Type}{p:α->Bool}{xs:List α}(h:cE (λx=> !p x) xs j)(hj:¬j<xs.length):xs.all p=true:=by
 rw[xk];intro x hx;obtain⟨i,e⟩:=iB.1 hx
 grind [cE]
theorem nUb{α:Type}{p:α->Bool}{xs:List α}{x:α}(hx:xs[j]? =some x)(h:p x=false):xs.all p=false:=by
 grind
theorem ngn(he:¬g.epoch=0)(h:(gj g.ms au).isSome=true->(ga l au).isSome=true):false=lZ g au l:=by
 grind [lZ,ga]
theorem nNn(he:¬g.epoch=0)(h1:(gj g.ms au).isSome=true)(h2:(ga l au).isSome=false):lZ g au l=l.all λx=>(gj g.ms x.dev).isSome != decide (x.kind=1):=by
 grind [ga,lZ]
section
variable (G:Gv)(N:Nat)(w:World)(hN:N<=w.heap.size)(hG:aM N w G)(l:List Ch)(de:l.length<=1000000)(a:Option Addr)(cp:Nat)(aA:aj ff 5 N w a l)
include G N w hN hG de a cp aA
theorem n5h(au:Int)(hv:cY G.g=true):Calls prog 169 #[.agg (aY G),ab au,.slice a l.length cp] w (ar w (.bool (gy G.g au l))):=by
 rw[nli hv];refine eN func169 ntmps169 ?_;refine aU 2 ?_;intro b3 w3 bQ aZ dK cP dt;refine av 11 ?_ ?_
 ·intro ai;refine B 2 ?_;have he:G.g.epoch=0:=by assumption
  refine B 5 ?_;refine CJ.lp (α:=Nat) [1,2] (λj=>[(7,ab (j:Int))]) (λj=>[]) (λj=>j<=l.length/\cE (λx:Ch=> !decide (x.kind=1)) l j) (λj=>l.length-j) 0 ⟨cd _,λi x hi=>absurd hi aa⟩ ?_;rintro j ⟨hj,bT⟩;refine av 9 ?_ ?_
  ·intro ax;refine B 5 ?_;obtain⟨bo,oo,cs0,to,dR,rfl,dW,hcs,ay⟩:=aA.get aa;obtain⟨x,hx⟩:=ng l j aa;refine B 5 ?_;refine zpf ?_;refine av 3 ?_ ?_
   ·intro bY;refine B 12 ?_;refine aS (.inl rfl) results169 aL A1 trivial ?_;exact vb (SG he (nUb hx z2))
   intro bY;refine B 8 ?_;exact z1i
  intro ax;refine B 6 ?_;by_cases h1:l.length=0
  ·refine UX ?_;refine B 13 ?_;refine aS (.inl rfl) results169 aL A1 trivial ?_;exact vb (SI he aa)
  obtain⟨bo,oo,cs0,to,dR,rfl,dW,hcs,ay⟩:=aA.get aa;obtain⟨x,hx⟩:=ng l 0 aa;refine NG ?_;refine B 4 ?_;refine rx (ad (v:=ab x.dev) isAgg3 rfl A1 hcs zL trivial (zYBX)) ?_;refine B 8 ?_;refine aS (.inl rfl) results169 aL A1 trivial ?_;exact vb (SH he (nPp bT aa) hx)
 intro ai;refine B 3 ?_;have he:¬G.g.epoch=0:=by assumption
 refine B 1 ?_;refine zni ?_;refine yW ?_;intro b8 lI r4;refine B 8 ?_;refine zti ?_;refine yW ?_;intro iK gC iS;refine B 6 ?_;by_cases h1:¬(gj G.g.ms au).isSome=true
 ·refine B 2 ?_;refine rq aK (ij rfl) (vb (by rw[Bool.eq_false_iff.2 h1];rfl)) ?_;refine B 13 ?_;refine zVg ?_;exact vb (ngn he (λg=>absurd g h1))
 by_cases h2:(ga l au).isSome=true
 ·refine B 2 ?_;refine zQg ?_;refine B 1 ?_;refine rq aK (dp rfl) (vb (h2)) ?_;refine B 11 ?_;refine zVg ?_;exact vb (ngn he (λ_=>h2))
 refine B 2 ?_;refine zQg ?_;refine B 1 ?_;refine rq aO (dp rfl) (vb (Bool.eq_false_iff.2 h2)) ?_;refine B 13 ?_;refine CJ.lp (α:=Nat) [2,3] (λj=>[(12,ab (j:Int))]) (λj=>[(iK,oC (ff ((ga l au).getD ru)) 271),(b8,oC (jx ((gj G.g.ms au).getD tQ)) 156)]) (λj=>j<=l.length/\cE (λx:Ch=> !((gj G.g.ms x.dev).isSome != decide (x.kind=1))) l j) (λj=>l.length-j) 0 ⟨cd _,λi x hi=>absurd hi aa⟩ ?_;rintro j ⟨hj,bT⟩;refine av 9 ?_ ?_
 ·intro J;refine B 5 ?_;obtain⟨bo,oo,cs0,to,dR,rfl,dW,hcs,ay⟩:=aA.get aa;obtain⟨x,hx⟩:=ng l j aa;refine nE (E':=[(2,_),(3,_),(12,_),(58,_),(59,_),(60,_),(61,_)]) zR ?_;refine dN 12 [6,10,11] [[],[],[0,1]] (λcv L' H'=>let dA:ae:=[(iK,oC (ff ((ga l au).getD ru)) 271),(b8,oC (jx ((gj G.g.ms au).getD tQ)) 156)];match cv with| [none,none,none]=>L'=[w3,w]/\H'=dA| [none,some v10,none]=>∃(jO:Nat),v10=ptr jO 0/\L'=[w3,w]/\H'=(jO,oC (jx tQ) 156)::dA/\w3.heap.size<=jO/\w.heap.size<=jO| [some v6,none,none]=>v6= .tuple #[.agg (jx ((gj G.g.ms x.dev).getD tQ)),.bool (gj G.g.ms x.dev).isSome]/\L'=[w3,w]/\H'=dA| [some v6,some v10,none]=>∃(jO:Nat),v6= .tuple #[.agg (jx ((gj G.g.ms x.dev).getD tQ)),.bool (gj G.g.ms x.dev).isSome]/\v10=ptr jO 0/\L'=[w3,w]/\H'=(jO,oC (jx tQ) 156)::dA/\w3.heap.size<=jO/\w.heap.size<=jO| [some v6,some v10,some v11]=>∃(jO:Nat),v6= .tuple #[.agg (jx ((gj G.g.ms x.dev).getD tQ)),.bool (gj G.g.ms x.dev).isSome]/\v10=ptr jO 0/\v11= .tuple #[]/\L'=[w3,w]/\H'=(jO,oC (jx ((gj G.g.ms x.dev).getD tQ)) 156)::dA/\w3.heap.size<=jO/\w.heap.size<=jO|_=>False) ⟨rfl,rfl⟩ (ph zct (Aa 4 (k:=by exact ph zct (Aa 1 (k:=by exact ph (λcv L' H' hl hd hP=>by obtain⟨x6,ry,rT,rfl⟩:=gO hl;(rcases x6 with _|v6<;>rcases ry with _|v10<;>rcases rT with _|v11<;>try exact False.elim hP);exact(absurd (show false=true from hd) zF);exact(absurd (show false=true from hd) zF);(obtain⟨rfl,rfl,rfl⟩:=hP;exact X.v (dp rfl));(obtain⟨jO,rfl,rfl,rfl,rfl,qN⟩:=hP;exact X.v (dp rfl));(obtain⟨jO,rfl,rfl,rfl,rfl,rfl,qN⟩:=hP;exact X.v (dp rfl))) (ph zct (ph zct zTq))))))) (sp:=[_,_,_,_,_,_,_,some (.tuple #[.agg (jx ((gj G.g.ms x.dev).getD tQ)),.bool (gj G.g.ms x.dev).isSome]),some (.agg (jx ((gj G.g.ms x.dev).getD tQ))),some (.bool (gj G.g.ms x.dev).isSome),_,_]) ?_ ?_
  ·refine nc rfl rfl ?_ ?_
   ·intro cv L' H' hl hr hP F Q' hk;obtain⟨x6,ry,rT,rfl⟩:=gO hl;rcases x6 with _|v6<;>rcases ry with _|v10<;>rcases rT with _|v11<;>try exact False.elim hP
    ·obtain⟨rfl,rfl⟩:=hP;refine cl call175 rfl (λW hS=>nZd G N W aT (hG.us hS.sm) x.dev) ?_;exact OJ.done (hk _ _ _ ⟨rfl,rfl,rfl⟩)
    ·obtain⟨jO,rfl,rfl,rfl,qN⟩:=hP;refine cl call175 rfl (λW hS=>nZd G N W aT (hG.us hS.sm) x.dev) ?_;exact OJ.done (hk _ _ _ ⟨jO,rfl,rfl,rfl,rfl,qN⟩)
    ·exact kh
    ·exact kh
    exact kh
   refine nc rfl rfl ?_ ?_
   ·intro cv L' H' hl hr hP F Q' hk;obtain⟨x6,ry,rT,rfl⟩:=gO hl;rcases x6 with _|v6<;>rcases ry with _|v10<;>rcases rT with _|v11<;>try exact False.elim hP
    ·obtain⟨rfl,rfl⟩:=hP;refine B 1 ?_;intro jO ha ho;exact OJ.done (hk _ _ _ ⟨jO,rfl,rfl,rfl,⟨ha.mem w3 zP,ha.mem w zP⟩⟩)
    ·exact kh
    ·obtain⟨rfl,rfl,rfl⟩:=hP;refine B 1 ?_;intro jO ha ho;exact OJ.done (hk _ _ _ ⟨jO,rfl,rfl,rfl,rfl,⟨ha.mem w3 zP,ha.mem w zP⟩⟩)
    ·exact kh
    exact kh
   refine nc rfl rfl ?_ ?_
   ·intro cv L' H' hl hr hP F Q' hk;obtain⟨x6,ry,rT,rfl⟩:=gO hl;rcases x6 with _|v6<;>rcases ry with _|v10<;>rcases rT with _|v11<;>try exact False.elim hP
    ·exact kh
    ·exact kh
    ·exact kh
    ·obtain⟨jO,rfl,rfl,rfl,rfl,qN⟩:=hP;refine B 1 ?_;exact OJ.done (hk (.tuple #[]) _ _ ⟨jO,rfl,rfl,rfl,rfl,rfl,qN⟩)
    exact kh
   exact nn
  intro cv L' H' hl hr hP;obtain⟨x6,ry,rT,rfl⟩:=gO hl;rcases x6 with _|v6<;>rcases ry with _|v10<;>rcases rT with _|v11
  ·exact kh
  ·exact kh
  ·exact kh
  ·exact kh
  ·exact kh
  ·exact kh
  ·exact kh
  obtain⟨jO,rfl,rfl,rfl,rfl,rfl,qN⟩:=hP;refine B 10 ?_;refine rx (ad (v:=ab x.kind) isAgg3 rfl A1 hcs zL zD (nu ay hx rfl 0 zF)) ?_;refine B 1 ?_;refine rx (yz underlying4 rfl rfl) ?_;refine av 2 ?_ ?_
  ·intro eB;refine B 11 ?_;refine zVg ?_
   (rw[nNn he (Classical.not_not.1 h1) (Bool.eq_false_iff.2 h2)];exact vb (nUb hx z2).symm)
  intro eB;refine KT ?_;exact z1i
 intro J;refine B 11 ?_;refine zVg ?_
 (rw[nNn he (Classical.not_not.1 h1) (Bool.eq_false_iff.2 h2)];exact vb (nPp bT aa).symm)
theorem nyi(au:Int)(hv:cY G.g=true)(hp:gy G.g au l=true):Calls prog 171 #[.agg (aY G),ab au,.slice a l.length cp] w (ar w (ab (iv G.g au l))):=by
 refine eN func171 ntmps171 ?_;refine aU 2 ?_;intro b3 w3 bQ aZ dK cP J;refine B 5 ?_;refine zni ?_;refine yW ?_;intro b7 ie lu;refine av 10 ?_ ?_
 ·intro ai;refine aV 3 (ab ((gj G.g.ms au).getD tQ).ver) ?_;refine B 5 ?_;refine aS (.inl rfl) results171 aL A1 zH ?_;exact congrArg ab (by rw[ntp hv hp];cases e:gj G.g.ms au with|none=>rw[e]at ai;cases ai|some m=>rfl)
 intro ai;refine B 6 ?_;refine zti ?_;refine yW ?_;intro b9 oF xJ;refine aV 7 (ab ((ga l au).getD ru).ver) ?_;refine B 4 ?_;refine aS (.inl rfl) results171 aL A1 zH ?_;exact congrArg ab (by rw[ntp hv hp];cases e:gj G.g.ms au with|some m=>rw[e]at ai;cases ai|none=>cases ga l au<;>rfl)
theorem nPi(rN:l.length<=64)(yJ:Sw G.g.ns l):Calls prog 174 #[.agg (aY G),.slice a l.length cp] w (Oe N w dJ 2 (bC G.g.ns l) (λs=>.agg #[s])):=by
 have JH:=hG.nn;refine eN func174 ntmps174 ?_;refine aU 2 ?_;intro b2 w2 bV bj dz cL cR;refine bD 1 ?_;intro b4 dL dP;refine B 5 ?_;refine Vy ?_;refine bD 1 ?_;intro b5 fK gf;refine B 10 ?_;refine CJ.loop (α:=(Option Addr×Nat)×World×Nat) (λp=>[(1,.slice a l.length cp),(4,ptr b4 0),(5,ptr b5 0),(6,ab (p.2.2:Int))]) (λp=>[(b5,oC #[.slice p.1.1 (bC G.g.ns (l.take p.2.2)).length p.1.2] 84),(b4,oC #[bS] 84)]) (λp=>[p.2.1,w]) (λp=>Gh.no) (λp=>p.2.2<=l.length/\w.heap.size<=p.2.1.heap.size/\aj dJ 2 p.2.1.heap.size p.2.1 p.1.1 (bC G.g.ns (l.take p.2.2))/\∀b off,p.1.1=some ⟨b,off,none⟩->bC G.g.ns (l.take p.2.2)=[]\/(b≠b5/\b≠b4/\(b<N\/w.heap.size<=b))) (λp=>l.length-p.2.2) ((G.na,G.nc),w,0) ⟨cd _,aC _,hG.ns.up hN R2,λb off e=>zYBU⟩ zR rfl rfl zP ?_;rintro⟨⟨ta,tc⟩,wk,j⟩ ⟨hj,Zy,cB,bT⟩;dsimp only at hj Zy cB bT ⊢;refine av 9 ?_ ?_
 ·intro ai;refine B 5 ?_;obtain⟨bo,oo,cs0,to,dR,rfl,dW,hcs,ay⟩:=aA.get aa;obtain⟨x,hx⟩:=ng l j aa;have aD:=yJ j;obtain⟨o3,bx⟩:=aD.2 x hx;have Ao:=nom G.g.ns l j aa;refine B 5 ?_;refine rx (ad (v:=ab x.kind) isAgg3 rfl A1 hcs zL zD (nu ay hx rfl 0 zF)) ?_;refine av 3 ?_ ?_
  ·intro ax;have BX:x.kind=2:=by assumption
   refine tS 11 [0,6,7,8,9,10] [[],[0],[0,1],[0,1,2],[0,1,2],[0,1,2,3]] (λcv L' H'=>let dA:ae:=[(b5,oC #[.slice ta (bC G.g.ns (l.take j)).length tc] 84),(b4,oC #[bS] 84)];∃(a9:Option Addr) (c9:Nat) (J:World),cv=[some (.agg #[.slice ta (bC G.g.ns (l.take j)).length tc]),some (.tuple #[.agg #[.slice a9 (iD (bC G.g.ns (l.take j)) x.dev).length c9],ab 0]),some (.tuple #[.agg #[.slice a9 (iD (bC G.g.ns (l.take j)) x.dev).length c9],ab 0]),some (.agg #[.slice a9 (iD (bC G.g.ns (l.take j)) x.dev).length c9]),some (ab 0),some (.tuple #[])]/\L'=[J,wk,w]/\H'=[(b5,oC #[.slice a9 (iD (bC G.g.ns (l.take j)) x.dev).length c9] 84),(b4,oC #[bS] 84)]/\aj (λx=>(dD x).toArray) 2 J.heap.size J a9 (iD (bC G.g.ns (l.take j)) x.dev)/\(∀q,a9=some q->q.block≠b5/\q.block≠b4/\w.heap.size<=q.block)/\w.heap.size<=J.heap.size) (L0:=[w]) (H0:=[(b4,oC #[bS] 84)]) (pb:=by exact zU 5 (k:=by exact qv (ad (v:=ab x.dev) isAgg3 rfl A0 hcs zL zMc (nu ay hx rfl 1 zF)) zT)) (sp:=[_,_,_,_,_,_,_,_,_,none,_]) (t:=?_) (k:=?_)
   ·repeat' first|exact tZ|(refine tU rfl ?_)|(refine tR rfl ?_ ?_)|(refine tN jI ?_)|(exact tE jI vA ⟨a9,c9,J,rfl,rfl,rfl,LN,IY,tG⟩)|(intro _ _ hk;(first|(refine B 1 ?_;refine OJ.done (hk _ _ _ ?_))|(refine nN (enc:=dD) (m:=2) (t:=325) (xs:=(iD (bC G.g.ns (l.take j)) x.dev)) (v:=λs=>.tuple #[.agg #[s],ab 0]) (first:=[]) (cap:=[]) rfl call238 rfl rfl rfl tB (λW hS=>nhr (bC G.g.ns (l.take j)) aa W.heap.size ta tc W (aC _) (cB.to hS A0 (aC _) (λb off e=>zYU)) aD.1 x.dev o3.2 (bx BX)) ?_;intro W_ a9 c9 J oV xm LN SJ;have bg:=oV.under;simp only[nD,and_true]at bg;have hz_:=(oV.links w A1).size;have bu:=xm.size;have IY:(∀q,a9=some q->q.block≠b5/\q.block≠b4/\w.heap.size<=q.block):=λq hq=>⟨by have:=SJ q hq;omega,by have:=SJ q hq;omega,by have:=SJ q hq;omega⟩;have tG:w.heap.size<=J.heap.size:=aa;refine OJ.done (hk _ _ _ ?_))|(have:=gK 5 hk;refine B 1 ?_;refine OJ.done (hk (.tuple #[]) _ _ ?_))))
   rintro _ _ _ ⟨a9,c9,J,rfl,rfl,rfl,LN,IY,tG⟩;refine B 8 ?_;refine PJ.again ((a9,c9),J,j+1) ⟨by dsimp only;omega,tG,by dsimp only;rw[n6g hx BX];exact LN,λb off e=>zY8⟩ zZ zR (by dsimp only;rw[n6g hx BX]) rfl zP
  intro ax;have BX:¬x.kind=2:=by assumption
  refine tS 16 [0,11,12,13,14,15] [[],[0],[0,1],[0,1,2],[0,1,2],[0,1,2,3]] (λcv L' H'=>let dA:ae:=[(b5,oC #[.slice ta (bC G.g.ns (l.take j)).length tc] 84),(b4,oC #[bS] 84)];∃(a9:Option Addr) (c9:Nat) (J:World),cv=[some (.agg #[.slice ta (bC G.g.ns (l.take j)).length tc]),some (.tuple #[.agg #[.slice a9 (il (bC G.g.ns (l.take j)) x.dev x.pub).length c9],ab 0]),some (.tuple #[.agg #[.slice a9 (il (bC G.g.ns (l.take j)) x.dev x.pub).length c9],ab 0]),some (.agg #[.slice a9 (il (bC G.g.ns (l.take j)) x.dev x.pub).length c9]),some (ab 0),some (.tuple #[])]/\L'=[J,wk,w]/\H'=[(b5,oC #[.slice a9 (il (bC G.g.ns (l.take j)) x.dev x.pub).length c9] 84),(b4,oC #[bS] 84)]/\aj (λx=>(dD x).toArray) 2 J.heap.size J a9 (il (bC G.g.ns (l.take j)) x.dev x.pub)/\(∀q,a9=some q->q.block≠b5/\q.block≠b4/\w.heap.size<=q.block)/\w.heap.size<=J.heap.size) (L0:=[w]) (H0:=[(b4,oC #[bS] 84)]) (pb:=by exact zU 5 (k:=by exact qv (ad (v:=ab x.dev) isAgg3 rfl A0 hcs zL zMc (nu ay hx rfl 1 zF)) (zU 4 (k:=by exact qv (ad (v:=ab x.pub) isAgg3 rfl A0 hcs zL zMc (nu ay hx rfl 2 zF)) zT)))) (sp:=[_,_,_,_,_,_,_,_,_,_,_,_,_,_,none,_]) (t:=?_) (k:=?_)
  ·repeat' first|exact tZ|(refine tU rfl ?_)|(refine tR rfl ?_ ?_)|(refine tN jI ?_)|(exact tE jI vA ⟨a9,c9,J,rfl,rfl,rfl,LN,IY,tG⟩)|(intro _ _ hk;(first|(refine B 1 ?_;refine OJ.done (hk _ _ _ ?_))|(refine nN (enc:=dD) (m:=2) (t:=325) (xs:=(il (bC G.g.ns (l.take j)) x.dev x.pub)) (v:=λs=>.tuple #[.agg #[s],ab 0]) (first:=[]) (cap:=[]) rfl call239 rfl rfl rfl tB (λW hS=>LJ (bC G.g.ns (l.take j)) aa W.heap.size ta tc W (aC _) (cB.to hS A0 (aC _) (λb off e=>zYU)) aD.1 x.dev x.pub o3.2 (neo o3 BX)) ?_;intro W_ a9 c9 J oV xm LN SJ;have bg:=oV.under;simp only[nD,and_true]at bg;have hz_:=(oV.links w A1).size;have bu:=xm.size;have IY:(∀q,a9=some q->q.block≠b5/\q.block≠b4/\w.heap.size<=q.block):=λq hq=>⟨by have:=SJ q hq;omega,by have:=SJ q hq;omega,by have:=SJ q hq;omega⟩;have tG:w.heap.size<=J.heap.size:=aa;refine OJ.done (hk _ _ _ ?_))|(have:=gK 5 hk;refine B 1 ?_;refine OJ.done (hk (.tuple #[]) _ _ ?_))))
  rintro _ _ _ ⟨a9,c9,J,rfl,rfl,rfl,LN,IY,tG⟩;refine B 8 ?_;refine PJ.again ((a9,c9),J,j+1) ⟨by dsimp only;omega,tG,by dsimp only;rw[nQg hx BX];exact LN,λb off e=>zY8⟩ zZ zR (by dsimp only;rw[nQg hx BX]) rfl zP
 intro ai;refine B 6 ?_;rw[nin _ _ _ aa]at cB bT ⊢;refine B 6 ?_;exact bH (.inl rfl) results174 aL λW hS=>⟨(ta,tc),rfl,hS.base A1 zJ,cB.to hS A0 (aC _) (λb off e=>zYU),λb off e=>(bT b off e).imp id (λh=>h.2.2)⟩
end
theorem ngj(h1:¬(ga l (j:Int)).isSome=false)(h2:¬((ga l (j:Int)).getD ru).kind=2)(h3:¬(j:Int)=au):iY au l (j+1)=iY au l j++[(j:Int)]:=by
 unfold iY;rw[List.range_succ,List.filter_append]
 grind
theorem LO(h:(ga l (j:Int)).isSome=false\/((ga l (j:Int)).getD ru).kind=2\/(j:Int)=au):iY au l (j+1)=iY au l j:=by
 unfold iY;rw[List.range_succ,List.filter_append]
 grind
theorem GD(au:Int)(l:List Ch)(j:Nat):(iY au l j).length<=j:=by
 grind [iY]
theorem GF(ns:List Nd)(au:Int)(i:Nat):jy ns au (i+1)=jy ns au i++oQ ns i (((gu au)[i]?).getD 0) (nG ns (((gu au)[i]?).getD 0)).length:=by
 grind [jy,oQ,List.range_succ]
theorem GG{s:Int}{x:Int}(hx:(nG ns s)[j]? =some x):oQ ns i s (j+1)=oQ ns i s j++[((i:Int)+1,x)]:=by
 simp_all[oQ,nk]
theorem nkp(l:List Ch)(de:l.length<=1000000)(N:Nat)(a:Option Addr)(cp:Nat)(w:World)(hN:N<=w.heap.size)(aA:aj ff 5 N w a l)(au:Int):Calls prog 233 #[ab au,.slice a l.length cp] w (nv w ak 1 3 (iY au l 512) id):=by
 refine cH 7 func233 ntmps233 ?_;refine uC ?_;refine yW ?_;intro b9 oF xJ;refine B 10 ?_;refine CJ.loop (α:=Rw×Nat) (λp=>[(0,ab au),(1,.slice a l.length cp),(5,p.1.val (iY au l p.2).length),(6,ab (p.2:Int))]) (λp=>p.1.hp ak 3 (iY au l p.2)++[]) (λp=>[w]) (λp=>Gh.no) (λp=>p.2<=512/\p.1.Fr Gh.no [w]/\p.1.Fit 1 (iY au l p.2)) (λp=>512-p.2) (.row b9 0 [],0) ⟨cd _,.inr oF,⟨aC 0,rfl⟩⟩ zR rfl rfl zP ?_;rintro⟨r,j⟩ ⟨hj,aB,af⟩;dsimp only at hj aB af ⊢;have bW:r.ge w.heap.size:=Rw.ge_of aB A0;have Bb:=GD au l j;refine av 7 ?_ ?_
 ·intro ai;refine B 8 ?_;refine cl call176 rfl (λW hS=>n8j l de N a cp W aT (aA.us (hS.same A0 hN zO zS)) (j:Int)) ?_;refine bD 4 ?_;intro b7 ie lu;refine B 5 ?_;by_cases h1:(ga l (j:Int)).isSome=false
  ·refine B 2 ?_;refine rq aO (dp rfl) (vb (h1)) ?_;refine B 20 ?_;refine lx ?_;refine PJ.again (r,j+1) ⟨by dsimp only;omega,aB,by dsimp only;rw[LO (.inl h1)];exact af⟩ zZ ⟨rfl,rfl,by dsimp only;rw[LO (.inl h1)];rfl,rfl,trivial⟩ (by dsimp only;rw[LO (.inl h1)];rfl) rfl zP
  by_cases h2:((ga l (j:Int)).getD ru).kind=2
  ·refine B 2 ?_;refine znf ?_;refine aV 1 (ab ((ga l (j:Int)).getD ru).kind) ?_;refine rq aO (aN rfl rfl) (vb Wf) ?_;refine B 17 ?_;refine lx ?_;refine PJ.again (r,j+1) ⟨by dsimp only;omega,aB,by dsimp only;rw[LO (.inr (.inl h2))];exact af⟩ zZ ⟨rfl,rfl,by dsimp only;rw[LO (.inr (.inl h2))];rfl,rfl,trivial⟩ (by dsimp only;rw[LO (.inr (.inl h2))];rfl) rfl zP
  by_cases h3:(j:Int)=au
  ·refine B 2 ?_;refine znf ?_;refine B 1 ?_;refine zmg ?_;refine B 4 ?_;refine rq aO (aN rfl rfl) (vb (by simpa using h3)) ?_;refine B 12 ?_;refine lx ?_;refine PJ.again (r,j+1) ⟨by dsimp only;omega,aB,by dsimp only;rw[LO (.inr (.inr h3))];exact af⟩ zZ ⟨rfl,rfl,by dsimp only;rw[LO (.inr (.inr h3))];rfl,rfl,trivial⟩ (by dsimp only;rw[LO (.inr (.inr h3))];rfl) rfl zP
  refine B 2 ?_;refine znf ?_;refine B 1 ?_;refine zmg ?_;refine B 4 ?_;refine rq aK (aN rfl rfl) (vb (by simpa using h3)) ?_;refine B 7 ?_;refine uC ?_;refine yW ?_;intro qt xM Yw;refine jf (r:=r) (xs:=(iY au l j)) (zs:=[(j:Int)]) (enc:=ak) (m:=1) (H0:=[(qt,oC #[ab (j:Int)] 3),(b7,oC (ff ((ga l (j:Int)).getD ru)) 271)]) (H1:=[]) pP vY nh rfl rfl rfl rfl (bN.one (z:=(j:Int)) nh v7 underlying96 (bL.own (i:=0) rfl)) af aB zP Cq ?_;intro aR aD J aq SK;refine B 9 ?_;refine vo ?_;refine PJ.again (Rw.row aR aD J,j+1) ⟨by dsimp only;omega,aq.elim (λh=>Rw.Fr_at aB h) (λh=>.inr h),by dsimp only;rw[ngj h1 h2 h3];exact SK⟩ zZ ⟨rfl,rfl,by dsimp only;rw[ngj h1 h2 h3];rfl,rfl,trivial⟩ (by dsimp only;rw[ngj h1 h2 h3];rfl) rfl zP
 intro ai;refine B 12 ?_;obtain rfl:j=512:=by omega
 exact nB (H0:=[]) (H1:=[]) (r:=r) (.inl rfl) results233 aL A0 YV rfl af (Rw.ge_of aB A0) zP
theorem LP(hd:bM d){s:Int}(h:(gu d)[i]? =some s):1<=s/\s<=1023:=by
 have hm:=cF h;obtain⟨n,hn,rfl⟩:=dO.1 hm;have h1:=Vd n hn;rcases Nat.mod_two_eq_zero_or_one n with h2|h2
 ·rw[Gc h2];omega
 rw[Gd h2];omega
theorem LQ{k:Nat}{s:Int}(h:(gu au)[k]? =some s):jy ns au (k+1)=jy ns au k++oQ ns k s (nG ns s).length:=by rw[GF,h];rfl
theorem GH(ns:List Nd)(i:Nat)(s:Int):oQ ns i s 0=[]:=rfl
theorem LR(ns:List Nd)(i:Nat)(s:Int)(j:Nat):(oQ ns i s j).length<=(nG ns s).length:=by grind [oQ]
theorem GI(ns:List Nd)(s:Int):(nG ns s).length<=1024:=by
 grind [nG,nQe]
theorem ntr(G:Gv)(N:Nat)(w:World)(hN:N<=w.heap.size)(hG:aM N w G)(l:List Ch)(de:l.length<=1000000)(a:Option Addr)(cp:Nat)(aA:aj ff 5 N w a l)(rN:l.length<=64)(yJ:Sw G.g.ns l)(au:Int)(lT:bM au):Calls prog 232 #[.agg (aY G),ab au,.slice a l.length cp] w (nv w oj 4 145 (im (bC G.g.ns l) au) id):=by
 have JH:=hG.nn;have Ao:=VC l G.g.ns;have fe:=(yJ l.length).1;rw[Ko]at fe;obtain⟨T,hT⟩:∃T,bC G.g.ns l=T:=⟨_,rfl⟩;rw[hT]at Ao fe ⊢;have qx:=npm lT;refine eN func232 ntmps232 ?_;refine aU 2 ?_;intro b3 w3 bQ aZ dK cP dt;refine B 5 ?_;refine Rg ?_;refine ny (α:=Option Addr×Nat) (v:=λq=>.agg #[.slice q.1 T.length q.2]) (Φ:=λW q w1=>aj dJ 2 w1.heap.size w1 q.1 T/\∀b off,q.1=some ⟨b,off,none⟩->T=[]\/b<N\/W.heap.size<=b) call174 rfl rfl rfl (λW hS=>by rw[<-hT];exact nPi G N W aT (hG.us hS.sm) l de _ cp (aA.us hS.sm) rN yJ) ?_;rintro Wt ⟨ta,tc⟩ wt cq bz ⟨cB,uW⟩;dsimp only at cB uW;have wG:=bz.size;have dv:=(cq.links w3 A0).size;refine bD 1 ?_;intro b7 ie lu;refine B 6 ?_;refine nN (enc:=ak) (m:=1) (t:=3) (xs:=(gu au)) (v:=(λs=>.tuple #[s,ab 0])) (first:=[]) (cap:=[]) rfl call282 rfl rfl rfl nh (λW hS=>n5q au lT W) ?_;intro ej bx SL J GK SM SN OF;have en:=(GK.links w A2).size;have eY:=SM.size;have GL:=GK.under;replace GL:=yg GL;refine B 9 ?_;refine zkg ?_;refine yW ?_;intro zV Qm Qo;refine B 10 ?_;refine CJ.perm (List.Perm.swap _ _ _) ?_;refine CJ.loop (α:=Rw×Nat) (λp=>[(7,ptr b7 0),(8,.slice bx (gu au).length SL),(10,p.1.val (jy T au p.2).length),(11,ab ((p.2:Int)+1))]) (λp=>[(b7,oC #[.slice ta T.length tc] 84)]++(p.1.hp oj 145 (jy T au p.2)++[])) (λp=>[J,wt,w3,w]) (λp=>Gh.no) (λp=>p.2<=9/\p.1.Fr Gh.no [J,wt,w3,w]/\p.1.Fit 4 (jy T au p.2)) (λp=>9-p.2) (.row zV 0 [],0) ⟨cd _,.inr Qm,⟨aC 0,rfl⟩⟩ zR rfl rfl zP ?_
 rintro⟨r,k⟩ ⟨hj,aB,af⟩;dsimp only at hj aB af ⊢;have bW:r.ge J.heap.size:=Rw.ge_of aB A0;have Bb:=nTk T au k;refine av 7 ?_ ?_
 ·intro ai;refine B 5 ?_;obtain⟨bR,bu,eD,ea,ez,rfl,c6,bI,cz⟩:=SN.get aa;obtain⟨sb,Bc⟩:=ng (gu au) k aa;obtain⟨cy,cx⟩:=LP lT Bc;have et:=GI T sb;have bg:=OF _ rfl;dsimp only at bg;refine tS 11 [6,7,8,9,10] [[],[0],[0,1],[0,1],[0,1,2]] (λcv L' H'=>let dA:ae:=[(b7,oC #[.slice ta T.length tc] 84)];∃(r9:Rw),cv=[some (.tuple #[r9.val (nG T sb).length,ab 0]),some (.tuple #[r9.val (nG T sb).length,ab 0]),some (r9.val (nG T sb).length),some (ab 0),some (r9.val (nG T sb).length)]/\L'=[J,wt,w3,w]/\H'=(dA++(r.hp oj 145 (jy T au k)++[]))++(r9.hp ak 3 (nG T sb)++[])/\r9.Fr Gh.no [J,wt,w3,w]/\r9.Fit 1 (nG T sb)/\r9.ge J.heap.size) (pb:=by exact zU 5 (k:=by exact qv (ad (v:=ab sb) isAgg3 rfl A0 bI zL (by simp only[cu,eJ,gU,fP,dG,and_true];(repeat' apply And.intro);all_goals first|omega|exact True.intro|exact Rw.off_ge bW aa|exact Rw.off_ge yQ aa) (by have:=nI (enc:=λx=>(ak x).toArray) (n:=1) (i:=(k:Int)+1-1) cz Bc aa zF;simpa[ak]using this)) zT)) (sp:=[_,_,_,_,_,_,_,_,_,none,_]) (t:=?_) (k:=?_)
  ·repeat' first|exact tZ|(refine tU rfl ?_)|(refine tR rfl ?_ ?_)|(refine tN jI ?_)|(exact tE jI vA ⟨r9,rfl,rfl,rfl,qd,pB,yQ⟩)|(intro _ _ hk;(first|(refine B 1 ?_;refine OJ.done (hk _ _ _ ?_))|(refine xg (enc:=ak) (m:=1) (t:=3) (xs:=(nG T sb)) (v:=(λs=>.tuple #[s,ab 0])) (first:=[]) (cap:=[]) rfl call283 rfl rfl rfl (λW hS=>nVk T aa W.heap.size ta tc W (aC _) (cB.to hS A1 (aC _) (λb off e=>by rcases cB.lt e with h9|h9;(exact .inl h9);exact .inr zD)) fe sb cy cx) ?_;intro r9 qd pB;have yQ:r9.ge J.heap.size:=Rw.ge_of qd A0;refine OJ.done (hk _ _ _ ?_))))
  rintro _ _ _ ⟨r9,rfl,rfl,rfl,qd,pB,yQ⟩;refine B 9 ?_;refine CJ.loop (α:=Rw×Nat) (λp=>[(7,ptr b7 0),(8,.slice (some ⟨bR,bu,none⟩) (gu au).length SL),(10,p.1.val (jy T au k++oQ T k sb p.2).length),(11,ab ((k:Int)+1)),(12,r9.val (nG T sb).length),(14,ab (p.2:Int))]) (λp=>[(b7,oC #[.slice ta T.length tc] 84)]++(p.1.hp oj 145 (jy T au k++oQ T k sb p.2)++(r9.hp ak 3 (nG T sb)++[]))) (λp=>[J,wt,w3,w]) (λp=>Gh.no) (λp=>p.2<=(nG T sb).length/\p.1.Fr Gh.no [J,wt,w3,w]/\p.1.Fit 4 (jy T au k++oQ T k sb p.2)) (λp=>(nG T sb).length-p.2) (r,0) ⟨cd _,aB,by dsimp only;rw[GH,dG];exact af⟩ ⟨rfl,rfl,by dsimp only;rw[GH,dG];rfl,rfl,rfl,rfl,trivial⟩ (by dsimp only;rw[GH,dG];simp only[dG,lP]) rfl zP ?_;rintro⟨r2,i⟩ ⟨hi,ei,eT⟩;dsimp only at hi ei eT ⊢;have eX:r2.ge J.heap.size:=Rw.ge_of ei A0;have dd:=LR T k sb i;refine B 5 ?_;refine rx (iN underlying96 pB rfl) ?_;refine av 3 ?_ ?_
  ·intro ax;refine B 4 ?_;obtain⟨b9,c9,s9,rfl⟩:=Rw.row_of pB aa;obtain⟨y,hy⟩:=ng (nG T sb) i aa;refine B 5 ?_;refine rx (me (enc:=ak) (t:=3) (xs:=(nG T sb)) (sp:=s9) (f:=0) nh qw isAgg3 rfl zP hy rfl) ?_;refine B 2 ?_;refine zkg ?_;refine yW ?_;intro Lo eu c5;refine jf (r:=r2) (xs:=(jy T au k++oQ T k sb i)) (zs:=[((k:Int)+1,y)]) (enc:=oj) (m:=4) (H0:=[(Lo,oC (KO ((k:Int)+1,y)) 145),(b7,oC #[.slice ta T.length tc] 84)]) (H1:=(Rw.row b9 c9 s9).hp ak 3 (nG T sb)++[]) pP Of Rj rfl rfl rfl rfl (bN.one (z:=(((k:Int)+1,y):Int×Int)) Rj n6p underlying97 (bL.own (i:=0) rfl)) eT ei zP z4 ?_;intro b52 LS GM a8 uX;refine Sk ?_;have aD:(jy T au k++oQ T k sb (i+1))=(jy T au k++oQ T k sb i)++[((k:Int)+1,y)]:=by rw[GG hy,lP]
   refine PJ.again (Rw.row b52 LS GM,i+1) ⟨by dsimp only;omega,a8.elim (λh=>Rw.Fr_at ei h) (λh=>.inr h),by dsimp only;rw[aD];exact uX⟩ zZ ⟨rfl,rfl,by dsimp only;rw[aD];rfl,rfl,rfl,rfl,trivial⟩ (by dsimp only;rw[aD];rfl) rfl zP
  intro ax;refine B 11 ?_;refine nYg (r:=r9) (enc:=ak) (t:=3) (xs:=(nG T sb)) (H0:=[(b7,oC #[.slice ta T.length tc] 84)]++r2.hp oj 145 (jy T au k++oQ T k sb i)) (H1:=[]) (by simp only[dG,lP]) qd ?_;have aq:jy T au (k+1)=(jy T au k++oQ T k sb i):=by rw[LQ Bc,show(nG T sb).length=i by omega]
  refine PJ.again (r2,k+1) ⟨by dsimp only;omega,ei,by dsimp only;rw[aq];exact eT⟩ zZ ⟨rfl,rfl,by dsimp only;rw[aq];rfl,rfl,trivial⟩ (by dsimp only;rw[aq];rfl) rfl zP
 intro ai;refine B 12 ?_;obtain rfl:k=9:=by omega
 rw[show im T au=jy T au 9 from rfl];exact nB (H0:=[(b7,oC #[.slice ta T.length tc] 84)]) (H1:=[]) (r:=r) (.inl rfl) results232 aL A3 zS rfl af (Rw.ge_of aB A3) zP
theorem nGh(x:CA)(w:World):Calls prog 231 #[.agg (VG x)] w (ar w (ab (CB x))):=by
 obtain⟨e,he⟩:∃e,(if dr x.u then(0:Int)else 40)=e:=⟨_,rfl⟩;have vv:=KG x.u;rw[he]at vv;refine eN func231 ntmps231 ?_;refine aU 2 ?_;intro b1 w1 aW bJ eO dC fg;refine B 5 ?_;by_cases h1:¬e=0
 ·refine B 3 ?_;refine SB ?_;refine rq aK (aN rfl rfl) (vb An) ?_;refine B 22 ?_;refine zCg ?_;exact congrArg ab zdc
 by_cases h2:x.body.length<16
 ·refine z0h ?_;refine bX aK ?_;refine B 17 ?_;refine zCg ?_;exact congrArg ab zdc
 by_cases h3:65552<x.body.length
 ·refine z0h ?_;refine bX aO ?_;refine B 3 ?_;refine zRf ?_;refine B 1 ?_;refine Cl ?_;refine zCg ?_;exact congrArg ab zdc
 refine z0h ?_;refine bX aO ?_;refine B 3 ?_;refine zRf ?_;refine B 1 ?_;refine Yh ?_;refine zCg ?_;exact congrArg ab (by unfold CB;rw[if_pos ⟨vv.1 aa,by omega,by omega⟩])
theorem SO(hv:cY g=true)(hf:fZ l=true)(hp:gy g au l=true):gz g au l=im (bC g.ns l) au:=by
 grind [gz,Cw]
theorem SP(hf:fZ c.chs=true):qb c=jG (λ(x:We) (d:Int)=>decide (x.dev=d)) c.wes (iY c.author c.chs 512):=by
 grind [qb,jG,RA,LC,Cv,List.zip_map_right,List.all_map]
theorem nKf(G:Gv)(N:Nat)(w:World)(hN:N<=w.heap.size)(hG:aM N w G)(c:Cm)(kV:mK c)(hC:dc N w c)(lT:bM c.author)(hv:cY G.g=true)(hf:fZ c.chs=true)(hp:gy G.g c.author c.chs=true):Calls prog 170 #[.agg (aY G),.agg (cW c)] w (ar w (.bool (qa G.g c&&qb c))):=by
 have rN:=(nIk hf).2;have yJ:=OB hv hf hp;have vN:=kV.bxs;have KR:=kV.wes;have uN:=hC.bxs;have uO:=hC.wes;rw[SP hf];unfold qa;rw[SO hv hf hp];refine eN func170 ntmps170 ?_;refine aU 2 ?_;intro b2 w2 bV bj dz cL cR;refine yX ?_;intro b3 w3 bQ aZ dK cP dt;refine aV 5 (.agg (aY G)) ?_;refine B 3 ?_;refine IL ?_;refine nN (enc:=oj) (m:=4) (t:=145) (xs:=(im (bC G.g.ns c.chs) c.author)) (v:=id) (first:=[]) (cap:=[]) rfl call232 rfl rfl rfl Rj (λW hS=>ntr G N W aT (hG.us hS.sm) c.chs aa c.ca c.cc (hC.chs.us hS.sm) rN yJ c.author lT) ?_;intro cQ cq SL GJ GK SM SN OF;have c0:=(GK.links w A2).size;have et:=SM.size;have GL:=GK.under;replace GL:=yg GL;refine B 8 ?_;refine IL ?_;refine nN (enc:=ak) (m:=1) (t:=3) (xs:=(iY c.author c.chs 512)) (v:=id) (first:=[]) (cap:=[]) rfl call233 rfl rfl rfl nh (λW hS=>nkp c.chs aa N c.ca c.cc W aT (hC.chs.us hS.sm) c.author) ?_;intro b0 c4 GN wH GO SQ SR ej;have eu:=(GO.links w A3).size;have bR:=SQ.size;have GP:=GO.under;replace GP:=yg GP;refine B 5 ?_;by_cases h1:¬(im (bC G.g.ns c.chs) c.author).length=c.bxs.length
 ·refine B 4 ?_;refine z0g ?_;refine B 1 ?_;refine zWe ?_;refine B 18 ?_;refine Wh ?_;exact vb (by rw[<-nKd (λh=>h1 h.symm)];rfl)
 by_cases h2:¬(iY c.author c.chs 512).length=c.wes.length
 ·refine zoi ?_;refine zWe ?_;refine B 11 ?_;refine Wh ?_;exact vb (by rw[<-nKd (ys:=(iY c.author c.chs 512)) (λh=>h2 h.symm),Bool.and_false])
 refine zoi ?_;refine zag ?_;refine B 13 ?_;refine CJ.lp (α:=Nat) [3,5,6] (λj=>[(7,ab (j:Int))]) (λj=>[]) (λj=>j<=c.bxs.length/\sG Ar c.bxs (im (bC G.g.ns c.chs) c.author) j) (λj=>c.bxs.length-j) 0 ⟨cd _,λi x y hi=>absurd hi aa⟩ ?_;rintro j ⟨hj,bT⟩;refine av 9 ?_ ?_
 ·intro ai;refine B 5 ?_;obtain⟨bo,oo,cs0,to,dR,iq,dW,hcs,ay⟩:=uN.get aa;obtain⟨x,hx⟩:=ng c.bxs j aa;obtain⟨Wj,Wl,csy,toy,fry,rfl,alK,rz,LU⟩:=SN.get aa;obtain⟨y,hy⟩:=ng (im (bC G.g.ns c.chs) c.author) j aa;by_cases g1:¬y.2=x.node
  ·refine eA 24 (pb:=by exact zU 4 (k:=by exact qv (ad (v:=ab y.2) isAgg3 rfl A1 rz zL trivial zmd) (zU 1 (k:=by exact qv (RV.re (v':=.slice (some ⟨bo,oo,none⟩) c.bxs.length c.bc) (ad isAgg97 rfl A2 bQ aZ trivial rfl) mR) (zU 3 (k:=by exact qv (ad (v:=ab x.node) isAgg3 rfl A4 hcs zL trivial (nu ay hx rfl 0 zF)) (qv (RV.re (v':=aK) (aN rfl rfl) (vb GQ)) zT))))))) (k:=?_);refine B 16 ?_;refine Wh ?_;exact vb (by rw[<-nWd hx hy (by unfold Ar;rw[decide_eq_false (λh=>g1 h.symm)];rfl)];rfl)
  by_cases g2:¬y.1=x.level
  ·refine eA 24 (pb:=zYB) (k:=?_);refine rq aK (aN rfl rfl) (vb (by simpa using g2)) ?_;refine B 15 ?_;refine Wh ?_;exact vb (by rw[<-nWd hx hy (by unfold Ar;rw[decide_eq_false (p:=x.level=y.1) (λh=>g2 h.symm),Bool.and_false])];rfl)
  refine eA 24 (pb:=zYB) (k:=?_);refine rq aO (aN rfl rfl) (vb (by simpa using g2)) ?_;refine B 12 ?_;refine ag (j+1) ⟨by omega,bT.next hx hy (by unfold Ar;simp at g1 g2;simp[g1,g2])⟩
 intro ai;refine B 7 ?_;have aR:=nPd aa bT aa;refine B 5 ?_;refine CJ.lp (α:=Nat) [3,6] (λj2=>[(8,ab (j2:Int))]) (λj2=>[]) (λj2=>j2<=c.wes.length/\sG (λ(x:We) (d:Int)=>decide (x.dev=d)) c.wes (iY c.author c.chs 512) j2) (λj2=>c.wes.length-j2) 0 ⟨cd _,λi x y hi=>absurd hi aa⟩ ?_;rintro j2 ⟨ez,aq⟩;refine av 9 ?_ ?_
 ·intro ax;refine B 5 ?_;obtain⟨bu,bg,Q2,cy,Q3,aD,dd,pU,pV⟩:=uO.get aa;obtain⟨x2,IS⟩:=ng c.wes j2 aa;obtain⟨ed,eD,ei,cx,frz,rfl,cI,a8,a6⟩:=SR.get aa;obtain⟨y2,J⟩:=ng (iY c.author c.chs 512) j2 aa;refine eA 10 (pb:=by exact zU 3 (k:=by exact qv (ad (v:=ab y2) isAgg3 rfl A0 a8 zL trivial (by have:=nI (enc:=λx=>(ak x).toArray) (n:=1) a6 J rfl zF;simpa[ak]using this)) (zU 1 (k:=by exact qv (RV.re (v':=.slice (some ⟨bu,bg,none⟩) c.wes.length c.wc) (ad isAgg98 rfl A2 bQ aZ trivial rfl) (by rw[<-aD];rfl)) (zU 3 (k:=by exact qv (ad (v:=ab x2.dev) isAgg3 rfl A4 pU zL trivial (nu pV IS rfl 0 zF)) (lK rfl))))))) (k:=?_);refine av 3 ?_ ?_
  ·intro bY;refine B 11 ?_;refine Wh ?_;exact vb (by rw[<-nWd IS J (decide_eq_false (λh=>by simp_all)),Bool.and_false])
  intro bY;refine B 8 ?_;refine ag (j2+1) ⟨by omega,aq.next IS J (decide_eq_true z2)⟩
 intro ax;refine B 11 ?_;refine Wh ?_;exact vb (by rw[<-aR,<-nPd aa aq aa];rfl)
theorem nZl(c:Cm)(kV:mK c)(N:Nat)(w:World)(hN:N<=w.heap.size)(hC:dc N w c):Calls prog 168 #[.agg (cW c)] w (ar w (ab (ou c))):=by
 have tr:=kV.chs;have vM:=kV.path;have vN:=kV.bxs;have KR:=kV.wes;have uM:=hC.chs;have oN:=hC.path;have uN:=hC.bxs;have uO:=hC.wes;refine eN func168 ntmps168 ?_;refine aU 2 ?_;intro b1 w1 aW bJ eO dC fg;refine B 10 ?_;refine nf (t:=11) rfl (λai=>?_) (λai=>?_)
 ·replace ai:=ya ai;refine B 54 ?_;exact GR
 replace ai:=ya ai;refine B 5 ?_;refine nf (t:=16) rfl (λax=>?_) (λax=>?_)
 ·replace ax:=ya ax;refine B 49 ?_;exact GR
 replace ax:=ya ax;refine B 5 ?_;refine nf (t:=21) rfl (λbY=>?_) (λbY=>?_)
 ·replace bY:=ya bY;refine B 44 ?_;exact GR
 replace bY:=ya bY;refine B 5 ?_;refine nf (t:=26) rfl (λez=>?_) (λez=>?_)
 ·replace ez:=ya ez;refine B 39 ?_;exact GR
 replace ez:=ya ez;refine B 2 ?_;refine cl call228 rfl (λW hS=>V6 _ W) ?_;refine B 3 ?_;refine nf (t:=32) rfl (λeB=>?_) (λeB=>?_)
 ·replace eB:=ya eB;refine B 33 ?_;exact GR
 replace eB:=ya eB;refine B 1 ?_;refine IL ?_;refine cl call229 rfl (λW hS=>nGr c.chs aa N c.ca c.cc W aT (hC.chs.us hS.sm)) ?_;refine B 3 ?_;refine nf (t:=38) rfl (λgq=>?_) (λgq=>?_)
 ·replace gq:=ya gq;refine B 27 ?_;exact GR
 replace gq:=ya gq;refine aV 1 (.slice c.pa c.path.length c.pc) ?_;refine B 4 ?_;refine nf (t:=44) rfl (λfw=>?_) (λfw=>?_)
 ·replace fw:=ya fw;refine B 21 ?_;exact GR
 replace fw:=ya fw;refine B 1 ?_;refine z0g ?_;refine B 4 ?_;refine nf (t:=50) rfl (λja=>?_) (λja=>?_)
 ·replace ja:=ya ja;refine B 15 ?_;exact GR
 replace ja:=ya ja;refine aV 1 (.slice c.wa c.wes.length c.wc) ?_;refine av 5 ?_ ?_
 ·intro jz;refine B 7 ?_;exact GR
 intro jz;refine B 9 ?_;refine CJ.lp (α:=Nat) [1] (λj=>[(3,ab (j:Int))]) (λj=>[]) (λj=>j<=c.path.length/\jT (λ_ x=>dr x) c.path j) (λj=>c.path.length-j) 0 ⟨cd _,λi x hi=>absurd hi aa⟩ ?_;rintro j ⟨hj,bT⟩;refine av 10 ?_ ?_
 ·intro ji;refine B 5 ?_;obtain⟨bo,oo,cs0,to,dR,iq,dW,hcs,ay⟩:=oN.get aa;obtain⟨y,hy⟩:=ng c.path j aa;obtain⟨e,he⟩:∃e,(if dr y then(0:Int)else 40)=e:=⟨_,rfl⟩;have vv:=KG y;rw[he]at vv;refine B 2 ?_;refine rq (.slice (some ⟨bo,oo,none⟩) c.path.length c.pc) (ad isAgg96 rfl A0 aW bJ trivial rfl) mR ?_;refine B 2 ?_;refine zEg ?_;refine cl call35 rfl (λW hS=>by rw[<-he];exact nL _ W) (v:=ab e) ?_;refine av 3 ?_ ?_
  ·intro pH;refine B 11 ?_;exact GR
  intro pH;refine B 8 ?_;refine ag (j+1) ⟨by omega,bT.next hy (vv.1 aa)⟩
 intro ji;refine B 12 ?_;have hA1:=bT.all aa;refine CJ.lp (α:=Nat) [1] (λj=>[(4,ab (j:Int))]) (λj=>[]) (λj=>j<=c.bxs.length/\jT (λ_ x=>Rn x) c.bxs j) (λj=>c.bxs.length-j) 0 ⟨cd _,λi x hi=>absurd hi aa⟩ ?_;rintro j ⟨hj,bT⟩;refine av 10 ?_ ?_
 ·intro lC;refine B 5 ?_;obtain⟨bo,oo,cs0,to,dR,iq,dW,hcs,ay⟩:=uN.get aa;obtain⟨x,hx⟩:=ng c.bxs j aa;refine B 2 ?_;refine rq (.slice (some ⟨bo,oo,none⟩) c.bxs.length c.bc) (ad isAgg97 rfl A0 aW bJ trivial rfl) mR ?_;refine zfi ?_;refine yW ?_;intro b5 fK gf;refine B 7 ?_;refine cl call230 rfl (λW hS=>nCr _ W) ?_;refine B 2 ?_;refine nf (t:=86) rfl (λjj=>?_) (λjj=>?_)
  ·replace jj:=ya jj;refine B 29 ?_;exact Wo
  replace jj:=ya jj;refine B 5 ?_;refine nf (t:=91) rfl (λlD=>?_) (λlD=>?_)
  ·replace lD:=ya lD;refine B 24 ?_;exact Wo
  replace lD:=ya lD;refine B 5 ?_;refine nf (t:=96) rfl (λJ=>?_) (λJ=>?_)
  ·replace J:=ya J;refine B 19 ?_;exact Wo
  replace J:=ya J;refine aV 1 (.agg (VG x.w)) ?_;refine cl call231 rfl (λW hS=>nGh x.w W) ?_;refine av 4 ?_ ?_
  ·intro xz;exact zfl
  intro xz;refine KT ?_;exact zUk
 intro lC;refine B 12 ?_;have hA2:=bT.all aa;refine CJ.lp (α:=Nat) [1] (λj=>[(6,ab (j:Int))]) (λj=>[]) (λj=>j<=c.wes.length/\jT (Ro c.wes) c.wes j) (λj=>c.wes.length-j) 0 ⟨cd _,λi x hi=>absurd hi aa⟩ ?_;rintro j ⟨hj,bT⟩;refine av 10 ?_ ?_
 ·intro Jx;refine B 5 ?_;obtain⟨bo,oo,cs0,to,dR,iq,dW,hcs,ay⟩:=uO.get aa;obtain⟨x,hx⟩:=ng c.wes j aa;refine B 2 ?_;refine rq (.slice (some ⟨bo,oo,none⟩) c.wes.length c.wc) (ad isAgg98 rfl A0 aW bJ trivial rfl) mR ?_;refine B 2 ?_;refine ZJ ?_;refine yW ?_;intro b7 ie lu;refine B 4 ?_;by_cases h1:¬bM x.dev
  ·refine eA 17 (pb:=by exact zU 2 (k:=by exact dh (ne call228 rfl rfl (λW hS _=>by have h9:=V6 x.dev W;rw[decide_eq_false h1]at h9;exact h9) (λ_=>rfl)) zT)) (sp:=(_::_::(some (aO))::(some aK)::_)) (k:=?_);refine B 23 ?_;exact Wo
  by_cases h2:j=0
  ·refine eA 17 (pb:=by exact zU 2 (k:=by exact dh (ne call228 rfl rfl (λW hS _=>by have h9:=V6 x.dev W;rw[decide_eq_true (Classical.not_not.1 h1)]at h9;exact h9) (λ_=>rfl)) zT)) (sp:=(_::_::(some (aK))::(some aO)::_::_::(some aO)::_)) (k:=?_);refine B 5 ?_;refine zqh ?_;refine av 4 ?_ ?_
   ·intro Rq;exact zfl
   intro Rq;refine KT ?_;exact z7i
  obtain⟨y,hy⟩:=ng c.wes (j-1) aa;by_cases h3:x.dev<=y.dev
  ·refine eA 17 (pb:=zYE) (sp:=(_::_::(some (aK))::(some aO)::_::_::(some aK)::_)) (k:=?_);refine bX aK ?_;refine B 22 ?_;exact Wo
  refine eA 17 (pb:=zYE) (sp:=(_::_::(some (aK))::(some aO)::_::_::(some aK)::_)) (k:=?_);refine Cr ?_;refine zqh ?_;refine av 4 ?_ ?_
  ·intro Rr;exact zfl
  intro Rr;refine KT ?_;exact z7i
 intro Jx;refine B 11 ?_;exact GR
theorem abb(hf:gY f):dT f=xj (dy f):=by
 unfold dT xj;congr 1
 (simp[U4,nM,fU,pK,dy,gY];grind)
theorem SS(n:Nat)(r:Rw):rK (Value.agg (dn (r.val n))).cells.toList=true:=by cases r<;>rfl
theorem nVh{r:Rw}{n:Nat}(W:World):Calls prog 121 #[r.val n] W (ar W (.agg (dn (r.val n)))):=by cases r<;>exact ntf _ _ _ W
theorem nlg(f:Nat->Int)(hf:gY f)(w:World):Calls prog 277 #[.agg (dg f)] w (ar w (vT (xj (dy f)))):=by
 rw[<-abb hf];refine eN func277 ntmps277 ?_;refine aU 2 ?_;intro b1 w1 aW bJ eO dC fg;refine bD 1 ?_;intro b2 cL cR;refine B 4 ?_;refine z8g ?_;refine cl call124 rfl (λW hS=>nph _ W) ?_;refine B 4 ?_;refine aS (.inl rfl) results277 aL A1 zH ?_;rfl
theorem nWm(xs:List Int)(de:xs.length<=1000)(N:Nat)(a:Option Addr)(cp:Nat)(w:World)(hN:N<=w.heap.size)(aA:aj encI 1 N w a xs):Calls prog 276 #[.slice a xs.length cp] w (nv w lW 4 139 xs (λs=>.agg (dn (s)))):=by
 refine eN func276 ntmps276 ?_;refine bD 3 ?_;intro b2 cL cR;refine bD 6 ?_;intro b3 cP dt;refine B 10 ?_;refine CJ.lp (α:=Rw×Nat) [0,2,3] (λp=>[(4,ab (p.2:Int))]) (λp=>[(b3,oC (dn (p.1.val (xs.take p.2).length)) 139),(b2,oC #[ab 0,ab 0,JG,bS] 139)]++(p.1.hp lW 139 (xs.take p.2)++[])) (λp=>p.2<=xs.length/\p.1.Fr Gh.no [w]/\p.1.Fit 4 (xs.take p.2)) (λp=>xs.length-p.2) (.nil,0) ⟨cd _,True.intro,rfl⟩ ?_;rintro⟨r,j⟩ ⟨hj,aB,af⟩;dsimp only at hj aB af ⊢;have bW:r.ge w.heap.size:=Rw.ge_of aB A0;refine av 9 ?_ ?_
 ·intro ai;refine B 4 ?_;obtain⟨bo,oo,cs0,to,dR,rfl,dW,hcs,ay⟩:=aA.get aa;obtain⟨x,hx⟩:=ng xs j aa;refine tS 8 [7] [[]] (λcv L' H'=>let dA:ae:=[(b3,oC (dn (r.val (xs.take j).length)) 139),(b2,oC #[ab 0,ab 0,JG,bS] 139)];∃(bE:Nat),cv=[some (.slice (aH bE) 1 1)]/\L'=[w]/\H'=(bE,oC (lW x).toArray 139)::(dA++(r.hp lW 139 (xs.take j)++[]))/\w.heap.size<=bE/\True) (pb:=by exact zU 5 (k:=by exact qv (ad (v:=ab x) isAgg3 rfl A0 hcs zL zKb zod) (dh (X.cv call81 rfl (λW hS _=>Iu _ W)) zT))) (t:=?_) (k:=?_)
  ·repeat' first|exact tZ|(refine tU rfl ?_)|(refine tR rfl ?_ ?_)|(refine tN jI ?_)|(exact tE jI vA ⟨bE,rfl,rfl,rfl,AA⟩)|(intro _ _ hk;(first|(refine iW underlying115 sizeOf139 zeroValue139 rfl rfl rfl rfl rfl rfl rfl ?_;intro bE AA KV;refine OJ.done (hk _ _ _ ?_))))
  rintro _ _ _ ⟨bE,rfl,rfl,rfl,AA⟩;refine jf (r:=r) (xs:=(xs.take j)) (zs:=[x]) (enc:=lW) (m:=4) (H0:=[(bE,oC (lW x).toArray 139),(b3,oC (dn (r.val (xs.take j).length)) 139),(b2,oC #[ab 0,ab 0,JG,bS] 139)]) (H1:=[]) pP Oh nui rfl rfl rfl rfl (bN.one (z:=x) nui nSp underlying115 (bL.own (i:=0) rfl)) af aB zP z3c ?_;intro lg J aq aD SU;refine B 1 ?_;refine lG (i:=1) rfl sizeOf115 rfl rfl rfl rfl (fy rfl) rfl ?_;refine KT ?_;refine PJ.again (Rw.row lg J aq,j+1) ⟨by dsimp only;omega,aD.elim (λh=>Rw.Fr_at aB h) (λh=>.inr h),by rw[nk hx];exact SU⟩ zZ zR (by rw[nk hx];rfl) rfl zP
 intro ai;refine B 6 ?_;have cN:xs.take j=xs:=lE aa;rw[cN]at af ⊢;refine B 2 ?_;refine fE (i:=1) rfl sizeOf139 rfl rfl rfl rfl rfl (SS _ _) ?_;refine B 3 ?_;exact nB (H0:=[(b3,oC (dn (r.val xs.length)) 139),(b2,oC (dn (r.val xs.length)) 139)]) (H1:=[]) (r:=r) (.inl rfl) results276 aL A0 zS rfl af (Rw.ge_of aB A0) Wa
theorem n4h(c:Cm)(kV:mK c)(N:Nat)(w:World)(hN:N<=w.heap.size)(hC:dc N w c):Calls prog 224 #[.agg (cW c)] w (db w (λb:Nat=>.slice (aH b) 11 11) (λb w1=>w.heap.size<=b/\ef w1.heap.size w1 (.list (pw c)) (vL (aH b) 11 11))):=by
 have tr:=kV.chs;have vM:=kV.path;have vN:=kV.bxs;have KR:=kV.wes;have uM:=hC.chs;have oN:=hC.path;have uN:=hC.bxs;have uO:=hC.wes;refine nP (iu []) [] (vs:=[_]) func224 rfl ntmps224 rfl (Ap w) ?_;refine aU 2 ?_;intro b1 w1 aW bJ eO dC fg;refine B 5 ?_;refine Ac ?_;refine yW ?_;intro jw qM Bg;refine B 10 ?_;refine CJ.loop (α:=((Rw×List El)×ae)×Nat) (λp=>[(1,ptr b1 0),(3,p.1.1.1.val p.1.1.2.length),(4,ab (p.2:Int))]) (λp=>p.1.1.1.hp (gm 5) 139 p.1.1.2++[]) (λp=>[w1,w]) (λp=>iu p.1.2) (λp=>p.2<=c.chs.length/\p.1.1.1.Fr (iu p.1.2) [w1,w]/\p.1.1.1.Fit 4 p.1.1.2/\gE p.1.2 5 p.1.1.2 ((c.chs.take p.2).map EP)/\∀q∈([]:ae),q∈p.1.2) (λp=>c.chs.length-p.2) (((.row jw 0 [],[]),([]:ae)),0) ⟨cd _,.inr qM,⟨aC 0,rfl⟩,gE.nil,λq h=>h⟩ zR rfl rfl zP ?_;rintro⟨⟨⟨r1,jU⟩,F1⟩,j1⟩ ⟨hj,aB,af,uP,Aq⟩;dsimp only at hj aB af uP Aq ⊢;have bW:r1.ge w1.heap.size:=Rw.ge_fz aB A0;have kX:jU.length<=50:=by rw[uP.1,jg,oK];omega
 refine av 10 ?_ ?_
 ·intro ai;refine B 5 ?_;obtain⟨bo,oo,cs0,to,dR,iq,dW,hcs,ay⟩:=uM.get aa;obtain⟨x,hx⟩:=ng c.chs j1 aa;refine B 2 ?_;refine rq (.slice (some ⟨bo,oo,none⟩) c.chs.length c.cc) (ad isAgg95 rfl A0 aW bJ zD rfl) mR ?_;refine VB ?_;refine yW ?_;intro b5 fK gf;refine B 15 ?_;refine uC ?_;refine yW ?_;intro QE cx c4;refine IB (enc:=lW) (m:=4) (t:=139) (xs:=[x.kind,x.dev,x.pub,x.ver,x.cut]) (v:=λs=>.agg (dn (s))) (first:=[]) (cap:=[]) rfl call276 rfl rfl rfl (λW hS=>nWm [x.kind,x.dev,x.pub,x.ver,x.cut] zP W.heap.size (aH QE) 5 W (aC _) (ER (xs:=[x.kind,x.dev,x.pub,x.ver,x.cut]) (hS.own _ A0))) ?_;intro r_ EU kJ;obtain⟨bn,cn,sn,rfl⟩:=Rw.row_of kJ zP;have hfn:ah [w1,w] bn:=EU.elim (λh=>h.elim) id;have vw:5<=cn:=kJ.1;have GS:=hfn;simp only[ah,and_true]at GS;refine Ac ?_;refine yW ?_;intro aq cI bI;refine jf (r:=r1) (xs:=jU) (zs:=[((bn,cn):El)]) (enc:=gm 5) (m:=4) (H0:=[(aq,oC (dn (.slice (aH bn) 5 cn)) 139),(bn,cT lW 139 [x.kind,x.dev,x.pub,x.ver,x.cut] sn),(QE,oC #[ab x.kind,ab x.dev,ab x.pub,ab x.ver,ab x.cut] 3),(b5,oC (ff x) 271)]) (H1:=[]) rfl Oh (CD 5) rfl rfl rfl rfl (bN.one (z:=((bn,cn):El)) (CD 5) (VH 5) underlying115 (bL.own (i:=0) rfl)) af aB zP vn ?_;intro br cr sr sk px
  refine B 9 ?_;refine PJ.reH (H':=[(aq,oC (dn (.slice (aH bn) 5 cn)) 139),(bn,cT lW 139 [x.kind,x.dev,x.pub,x.ver,x.cut] sn),(QE,oC #[ab x.kind,ab x.dev,ab x.pub,ab x.ver,ab x.cut] 3),(b5,oC (ff x) 271)]++((br,cT (gm 5) 139 (jU++[((bn,cn):El)]) sr)::[])) rfl ?_;refine lx ?_;refine PJ.fz [(bn,cT lW 139 [x.kind,x.dev,x.pub,x.ver,x.cut] sn)] (H':=[(QE,oC #[ab x.kind,ab x.dev,ab x.pub,ab x.ver,ab x.cut] 3),(b5,oC (ff x) 271)]++((br,cT (gm 5) 139 (jU++[((bn,cn):El)]) sr)::[])) (List.Perm.refl _) VJ ?_;refine vo ?_;exact zoj
 intro ai;refine B 6 ?_;have EV:c.chs.take j1=c.chs:=lE aa;rw[EV]at uP;have kK:=af;refine CJ.fz (r1.hp (gm 5) 139 jU) (H':=[]) (by rw[dG]) (Rw.fz_above aB) ?_;refine B 1 ?_;refine Ac ?_;refine yW ?_;intro a8 bg c5;refine B 10 ?_;refine CJ.loop (α:=((Rw×List El)×ae)×Nat) (λp=>[(1,ptr b1 0),(3,r1.val jU.length),(6,p.1.1.1.val p.1.1.2.length),(7,ab (p.2:Int))]) (λp=>p.1.1.1.hp (gm 4) 139 p.1.1.2++[]) (λp=>[w1,w]) (λp=>iu p.1.2) (λp=>p.2<=c.bxs.length/\p.1.1.1.Fr (iu p.1.2) [w1,w]/\p.1.1.1.Fit 4 p.1.1.2/\gE p.1.2 4 p.1.1.2 ((c.bxs.take p.2).map p4)/\∀q∈(r1.hp (gm 5) 139 jU++F1),q∈p.1.2) (λp=>c.bxs.length-p.2) (((.row a8 0 [],[]),(r1.hp (gm 5) 139 jU++F1)),0) ⟨cd _,.inr bg,⟨aC 0,rfl⟩,gE.nil,λq h=>h⟩ zR rfl rfl zP ?_;rintro⟨⟨⟨J,lh⟩,F2⟩,j2⟩ ⟨hj,aB,af,so,tJ⟩;dsimp only at hj aB af so tJ ⊢;have bW:J.ge w1.heap.size:=Rw.ge_fz aB A0;have kX:lh.length<=50:=by rw[so.1,jg,oK];omega
 refine av 10 ?_ ?_
 ·intro ax;refine B 5 ?_;obtain⟨bo,oo,cs0,to,dR,iq,dW,hcs,ay⟩:=uN.get aa;obtain⟨x,hx⟩:=ng c.bxs j2 aa;have p6:mL N w x.w.ba x.w.body:=hC.bb x (cF hx);refine B 2 ?_;refine rq (.slice (some ⟨bo,oo,none⟩) c.bxs.length c.bc) (ad isAgg97 rfl A0 aW bJ zD rfl) mR ?_;refine zfi ?_;refine yW ?_;intro b8 lI r4;refine B 3 ?_;refine nE (E':=[(1,_),(3,_),(6,_),(7,_),(8,_),(41,_),(42,_),(43,_),(44,_),(45,_),(48,_),(49,_),(50,_),(51,_),(52,_)]) zR ?_;refine CJ.chn 19 [16,17,18] [_,_,_,_,_,_,_,_,_,_,_,_,_,_,some (.string (xj x.w.body)),_,none,none,none] (λcv L' H'=>let dA:ae:=[(b8,oC (xh x) 145)]++(J.hp (gm 4) 139 lh++[]);match cv with| []=>L'=[w1,w]/\H'=dA| [v1]=>∃(bn:Nat),v1= .slice (aH bn) 4 4/\L'=[w1,w]/\H'=(bn,oC (nw (p4 x)++[]).toArray 139)::dA/\(w1.heap.size<=bn/\w.heap.size<=bn/\True)| [v1,v2]=>∃(bn:Nat),v1= .slice (aH bn) 4 4/\v2=vL (aH bn) 4 4/\L'=[w1,w]/\H'=(bn,oC (nw (p4 x)++[]).toArray 139)::dA/\(w1.heap.size<=bn/\w.heap.size<=bn/\True)| [v1,v2,v3]=>∃(bn:Nat) (jV:Nat),v1= .slice (aH bn) 4 4/\v2=vL (aH bn) 4 4/\v3= .slice (aH jV) 1 1/\L'=[w1,w]/\H'=(jV,oC (dn (.slice (aH bn) 4 4)) 139)::(bn,oC (nw (p4 x)++[]).toArray 139)::dA/\(w1.heap.size<=bn/\w.heap.size<=bn/\True)/\(w1.heap.size<=jV/\w.heap.size<=jV/\True)|_=>False) (pc zX (pc z7b (pc tK (pc Iv (pc z7b (pc tK (pc Iv (pc z0b (pc z8b (pc tK (pc Iv (pc z0b (pc z2b (pc tK (pc tK (pc (zYBP) (pk (pk (pk (pn)))))))))))))))))))) ?_ ?_
  ·refine ss rfl ?_ ?_
   ·exact z4i
   refine ss rfl ?_ ?_
   ·intro cv L' H' hl hP F Q' hk;obtain⟨v1,rfl⟩:=gh hl;obtain⟨bn,rfl,rfl,rfl,hfn⟩:=hP;refine cl call121 rfl (λW hS=>ntf (aH bn) 4 4 W) ?_;exact z4j
   exact zUi
  intro cv L' H' hl hP;obtain⟨v1,v2,v3,rfl⟩:=gO hl;obtain⟨bn,jV,rfl,rfl,rfl,rfl,rfl,hfn,hfo⟩:=hP;refine jf (r:=J) (xs:=lh) (zs:=[((bn,4):El)]) (enc:=gm 4) (m:=4) (H0:=[(jV,oC (dn (.slice (aH bn) 4 4)) 139),(bn,oC (nw (p4 x)++[]).toArray 139),(b8,oC (xh x) 145)]) (H1:=[]) rfl Oh (CD 4) rfl rfl rfl rfl (bN.one (z:=((bn,4):El)) (CD 4) (VH 4) underlying115 (bL.own (i:=0) rfl)) af aB zP vn ?_;intro br cr sr sk px;refine B 9 ?_;refine PJ.reH (H':=[(jV,oC (dn (.slice (aH bn) 4 4)) 139),(bn,oC (nw (p4 x)++[]).toArray 139),(b8,oC (xh x) 145)]++((br,cT (gm 4) 139 (lh++[((bn,4):El)]) sr)::[])) rfl ?_;refine ZO ?_;refine PJ.fz [(bn,oC (nw (p4 x)++[]).toArray 139)] (H':=[(b8,oC (xh x) 145)]++((br,cT (gm 4) 139 (lh++[((bn,4):El)]) sr)::[])) (List.Perm.refl _) VJ ?_;exact znj
 intro ax;refine B 6 ?_;have EW:c.bxs.take j2=c.bxs:=lE aa;rw[EW]at so;have dE:=af;refine CJ.fz (J.hp (gm 4) 139 lh) (H':=[]) (by rw[dG]) (Rw.fz_above aB) ?_;refine B 1 ?_;refine Ac ?_;refine yW ?_;intro a6 bu cz;refine B 10 ?_;refine CJ.loop (α:=((Rw×List El)×ae)×Nat) (λp=>[(1,ptr b1 0),(3,r1.val jU.length),(6,J.val lh.length),(9,p.1.1.1.val p.1.1.2.length),(10,ab (p.2:Int))]) (λp=>p.1.1.1.hp (gm 3) 139 p.1.1.2++[]) (λp=>[w1,w]) (λp=>iu p.1.2) (λp=>p.2<=c.wes.length/\p.1.1.1.Fr (iu p.1.2) [w1,w]/\p.1.1.1.Fit 4 p.1.1.2/\gE p.1.2 3 p.1.1.2 ((c.wes.take p.2).map p5)/\∀q∈(J.hp (gm 4) 139 lh++F2),q∈p.1.2) (λp=>c.wes.length-p.2) (((.row a6 0 [],[]),(J.hp (gm 4) 139 lh++F2)),0) ⟨cd _,.inr bu,⟨aC 0,rfl⟩,gE.nil,λq h=>h⟩ zR rfl rfl zP ?_;rintro⟨⟨⟨r3,oR⟩,F3⟩,j3⟩ ⟨hj,aB,af,uR,tL⟩;dsimp only at hj aB af uR tL ⊢;have bW:r3.ge w1.heap.size:=Rw.ge_fz aB A0;have kX:oR.length<=50:=by rw[uR.1,jg,oK];omega
 refine av 10 ?_ ?_
 ·intro bY;refine B 5 ?_;obtain⟨bo,oo,cs0,to,dR,iq,dW,hcs,ay⟩:=uO.get aa;obtain⟨x,hx⟩:=ng c.wes j3 aa;have p6:mL N w x.w.ba x.w.body:=hC.wb x (cF hx);refine B 2 ?_;refine rq (.slice (some ⟨bo,oo,none⟩) c.wes.length c.wc) (ad isAgg98 rfl A0 aW bJ zD rfl) mR ?_;refine B 2 ?_;refine ZJ ?_;refine yW ?_;intro jk lN vH;refine B 3 ?_;refine nE (E':=[(1,_),(3,_),(6,_),(9,_),(10,_),(11,_),(74,_),(75,_),(76,_),(77,_),(78,_),(81,_),(82,_),(83,_),(84,_),(85,_)]) zR ?_;refine CJ.chn 16 [13,14,15] [_,_,_,_,_,_,_,_,_,_,_,some (.string (xj x.w.body)),_,none,none,none] (λcv L' H'=>let dA:ae:=[(jk,oC (xi x) 147)]++(r3.hp (gm 3) 139 oR++[]);match cv with| []=>L'=[w1,w]/\H'=dA| [v1]=>∃(bn:Nat),v1= .slice (aH bn) 3 3/\L'=[w1,w]/\H'=(bn,oC (nw (p5 x)++[]).toArray 139)::dA/\(w1.heap.size<=bn/\w.heap.size<=bn/\True)| [v1,v2]=>∃(bn:Nat),v1= .slice (aH bn) 3 3/\v2=vL (aH bn) 3 3/\L'=[w1,w]/\H'=(bn,oC (nw (p5 x)++[]).toArray 139)::dA/\(w1.heap.size<=bn/\w.heap.size<=bn/\True)| [v1,v2,v3]=>∃(bn:Nat) (jV:Nat),v1= .slice (aH bn) 3 3/\v2=vL (aH bn) 3 3/\v3= .slice (aH jV) 1 1/\L'=[w1,w]/\H'=(jV,oC (dn (.slice (aH bn) 3 3)) 139)::(bn,oC (nw (p5 x)++[]).toArray 139)::dA/\(w1.heap.size<=bn/\w.heap.size<=bn/\True)/\(w1.heap.size<=jV/\w.heap.size<=jV/\True)|_=>False) (pc zX (pc (zYBM) (pc tK (pc Iv (pc zZb (pc z8b (pc tK (pc Iv (pc zZb (pc z2b (pc tK (pc tK (pc (zYBP) (pk (pk (pk (pn))))))))))))))))) ?_ ?_
  ·refine ss rfl ?_ ?_
   ·exact z4i
   refine ss rfl ?_ ?_
   ·intro cv L' H' hl hP F Q' hk;obtain⟨v1,rfl⟩:=gh hl;obtain⟨bn,rfl,rfl,rfl,hfn⟩:=hP;refine cl call121 rfl (λW hS=>ntf (aH bn) 3 3 W) ?_;exact z4j
   exact zUi
  intro cv L' H' hl hP;obtain⟨v1,v2,v3,rfl⟩:=gO hl;obtain⟨bn,jV,rfl,rfl,rfl,rfl,rfl,hfn,hfo⟩:=hP;refine jf (r:=r3) (xs:=oR) (zs:=[((bn,3):El)]) (enc:=gm 3) (m:=4) (H0:=[(jV,oC (dn (.slice (aH bn) 3 3)) 139),(bn,oC (nw (p5 x)++[]).toArray 139),(jk,oC (xi x) 147)]) (H1:=[]) rfl Oh (CD 3) rfl rfl rfl rfl (bN.one (z:=((bn,3):El)) (CD 3) (VH 3) underlying115 (bL.own (i:=0) rfl)) af aB zP vn ?_;intro br cr sr sk px;refine B 9 ?_;refine PJ.reH (H':=[(jV,oC (dn (.slice (aH bn) 3 3)) 139),(bn,oC (nw (p5 x)++[]).toArray 139),(jk,oC (xi x) 147)]++((br,cT (gm 3) 139 (oR++[((bn,3):El)]) sr)::[])) rfl ?_;refine ZO ?_;refine PJ.fz [(bn,oC (nw (p5 x)++[]).toArray 139)] (H':=[(jk,oC (xi x) 147)]++((br,cT (gm 3) 139 (oR++[((bn,3):El)]) sr)::[])) (List.Perm.refl _) VJ ?_;exact zkj
 intro bY;refine B 6 ?_;have EX:c.wes.take j3=c.wes:=lE aa;rw[EX]at uR;have pv:=af;refine CJ.fz (r3.hp (gm 3) 139 oR) (H':=[]) (by rw[dG]) (Rw.fz_above aB) ?_;refine nE (E':=[(1,_),(3,_),(6,_),(9,_),(10,_),(74,_),(75,_),(76,_),(77,_),(78,_)]) zR ?_;refine CJ.chn 31 [16] [_,_,_,_,_,_,_,some (.agg (dg c.par)),_,_,_,_,_,_,_,_,none,_,_,_,_,_,some (.agg (dg c.conf)),_,_,_,_,_,_,_,_] (λcv L' H'=>match cv with| []=>L'=[w1,w]/\H'=[]| [v1]=>∃(qX:Rw),v1= .agg (dn (qX.val c.path.length))/\L'=[w1,w]/\H'=[]++(qX.hp lW 139 c.path++[])/\qX.ge w1.heap.size/\qX.Fit 4 c.path|_=>False) (pc z9 (pc OG (pc Iv (pc z9 (pc OG (pc Iv (pc z3b (pc OG (pc (by exact λcv L' H' hd hP=>X.cv call277 rfl (λW hS _=>nlg c.par kV.bp W)) (pc z9 (pc OG (pc Iv (pc zX (pc zkc (pc ZP (pc OG (pk (pc zX (pc zkc (pc zX (pc zkc (pc z3b (pc OG (pc (by exact λcv L' H' hd hP=>X.cv call277 rfl (λW hS _=>nlg c.conf kV.bf W)) (pc VK (pc JT (pc OG (pc Iv (pc VK (pc JT (pc OG (pn)))))))))))))))))))))))))))))))) ?_ ?_
 ·refine ss rfl ?_ ?_
  ·intro cv L' H' hl hP F Q' hk;obtain rfl:=oJ hl;obtain⟨rfl,rfl⟩:=hP;refine xg (enc:=lW) (m:=4) (t:=139) (xs:=c.path) (v:=λs=>.agg (dn (s))) (first:=[]) (cap:=[]) rfl call276 rfl rfl rfl (λW hS=>nWm c.path aa N c.pa c.pc W aT (oN.up (aC _) (λk hk=>(hS.links w A1).block k aa (λhx=>by rcases hx with hx|hx;(exact hx);simp at hx)))) ?_;exact zKk
  exact nn
 intro cv L' H' hl hP;obtain⟨v1,rfl⟩:=gh hl;obtain⟨qX,rfl,rfl,rfl,jW,lX⟩:=hP;refine cl call81 rfl (λW hS=>Iu _ W) ?_;refine Ac ?_;refine yW ?_;intro LV bz cQ;refine B 4 ?_;refine bH (.inl rfl) results224 aL λW hS=>⟨LV,rfl,(hS.links w A1).below (λk hk hx=>by rcases hx with hx|hx;(exact hx);simp only[iM,jv,kS,gU,fP,dG,dQ,ft,jc,or_false]at hx;rcases hx with hx|hx<;>first|omega|(have:=Rw.mem_ge jW hx;omega)),by omega,?_⟩;have hF:∀p∈(r3.hp (gm 3) 139 oR++F3),p.1<W.heap.size/\W.heap[p.1]? =some p.2:=λp hp=>⟨(bO.1 (hS.fzAt p hp)).1,hS.fzAt p hp⟩;have hb:=hS.own (LV,_) A0;exact zNi
theorem nKj(hZ:FxOk Z)(s:ByteArray)(hs0:s.size<1000)(l:List V)(cC:(V.list l).fine)(hd:(V.list l).depth<=16)(fF:(V.list l).enc.length<=800000000000)(N bl lc:Nat)(w:World)(hN:N<=w.heap.size)(kT:ef N w (.list l) (vL (aH bl) l.length lc)):Calls prog 223 #[.string s,.slice (aH bl) l.length lc] w (ar w (.agg (dg (Z.tg s (V.list l).enc)))):=by
 obtain⟨df,gJ⟩:∃df,Z.tg s (V.list l).enc=df:=⟨_,rfl⟩;refine eN func223 ntmps223 ?_;refine bD 3 ?_;intro b4 dL dP;refine B 5 ?_;refine z2e ?_;intro iK zC Cj J iS JX sf;replace J:=yb J;replace iS:=yd iS;refine B 11 ?_;refine zKf ?_;refine B 4 ?_;refine aS (.inl rfl) results223 aL A0 zH ?_;rw[gJ];rfl
section
variable (hZ:FxOk Z)(c:Cm)(cZ:ck c)(N:Nat)(w:World)(hN:N<=w.heap.size)(hC:dc N w c)
include hZ cZ N w hN hC
theorem Wv:Calls prog 163 #[.agg (cW c)] w (ar w (.agg (dg (aE Z c)))):=by
 obtain⟨df,gJ⟩:∃df,aE Z c=df:=⟨_,rfl⟩;have jd:=nmi c cZ.few cZ.fine 11;have Rx:(pw c).take 11=pw c:=rfl;rw[Rx]at jd;refine eN func163 ntmps163 ?_;refine aU 2 ?_;intro b1 w1 aW bJ eO dC fg;refine bD 1 ?_;intro b2 cL cR;refine aV 4 (.agg (cW c)) ?_;refine zIe ?_;rintro W5 b5 w5 J Bp ⟨J6,KW⟩;have uA:=J.sizes;replace uA:=yb uA;have DW:=Bp.size;have Ry:=J.under;simp only[nD,eI,gB,and_true]at Ry;have Rz:=(Bp.block b2 aa).trans (J.own _ A0);refine cl call223 rfl (λW hS=>by rw[<-gJ];exact nKj hZ (⟨#[99,111,109,109,105,116]⟩:ByteArray) zF (pw c) jd.1 jd.2.1 jd.2.2 w5.heap.size b5 11 W (hS.links w5 A0).size (ef.us (λk hk=>zYa) _ _ KW)) (v:=.agg (dg df)) ?_;refine B 4 ?_;refine aS (.inl rfl) results163 aL A2 zH ?_;rw[gJ];rfl
theorem nUi:Calls prog 172 #[.agg (cW c)] w (db w (λb:Nat=>.slice (aH b) 32 32) (λb w1=>w.heap.size<=b/\w1.heap[b]? =some (oC (dg (kL Z c)) 34))):=by
 obtain⟨df,gJ⟩:∃df,kL Z c=df:=⟨_,rfl⟩;have jd:=nmi c cZ.few cZ.fine 9;refine eN func172 ntmps172 ?_;refine aU 2 ?_;intro b1 w1 aW bJ eO dC fg;refine aV 5 (.agg (cW c)) ?_;refine zIe ?_;rintro W5 b5 w5 vV Bp ⟨J6,KW⟩;have J:=vV.sizes;replace J:=yb J;have DW:=Bp.size;have Ry:=vV.under;simp only[nD,eI,gB,and_true]at Ry;refine rx (gZ (h:=9) underlying115 sizeOf139 rfl ⟨_,_,rfl,rfl⟩ aa) ?_;refine cl call223 rfl (λW hS=>by rw[<-gJ];exact nKj hZ (⟨#[99,111,109,109,105,116,32,115,105,103,110]⟩:ByteArray) zF ((pw c).take 9) jd.1 jd.2.1 jd.2.2 w5.heap.size b5 11 W (hS.links w5 A0).size (ef.us (hS.same A0 (aC _) zO trivial) _ _ (nno (n:=11) rfl zF 9 zF KW))) (v:=.agg (dg df)) ?_;refine bD 1 ?_;intro b3 cP dt;refine Yx ?_;exact bH (.inl rfl) results172 aL (λW hS=>⟨b3,rfl,hS.base A2 zH,by omega,zY1⟩)
end
theorem OH(hv:cY g=false):eH Z g c=1:=by grind [eH]
section
variable (hv:cY g=true)
include hv
theorem OI(h:ou c=220):eH Z g c=220:=by grind [eH]
theorem AB(h:ou c=0)(hf:¬iw g c=true):eH Z g c=220:=by grind [eH]
theorem GU(h:ou c=0)(hp:gy g c.author c.chs=true):gS g c.author c.chs=0:=by
 unfold gS Cw;rw[if_pos hv,(CC.1 h).ch,hp];rfl
theorem OK(h:ou c=0)(hf:iw g c=true)(hp:gy g c.author c.chs=false):eH Z g c=221:=by
 grind [eH,gS,Cw]
theorem abc(h:ou c=0)(hf:iw g c=true)(hp:gy g c.author c.chs=true)(hb:(qa g c&&qb c)=false):eH Z g c=220:=by
 grind [eH,GU]
theorem OL(h:ou c=0)(hf:iw g c=true)(hp:gy g c.author c.chs=true)(hb:(qa g c&&qb c)=true):eH Z g c=if yC Z g c=true then 0 else 222:=by
 unfold eH;rw[if_pos (GU hv h hp)];obtain⟨h2,h3⟩:=nZi hv (CC.1 h).au (CC.1 h).ch hp
 grind [oU]
end
theorem nNe(he:eH Z g c=e)(h:e≠0):ra Z g c=yB:=by grind [ra]
theorem nTn(he:eH Z g c=0):ra Z g c=qy Z g c:=by grind [ra]
theorem GV(h:¬(c.folder=g.folder/\c.epoch=g.epoch+1/\gV c.par g.last=true)):¬iw g c=true:=λh2=>h (Oj h2)
theorem AD(h1:c.folder=g.folder)(h2:c.epoch=g.epoch+1)(h3:gV c.par g.last=true):iw g c=true:=by grind [iw]
theorem nKg(ms:List Mb)(e:Int)(l:List Ch)(d:Nat):mQ ms e l (d+1)=mQ ms e l d++(match ga l (d:Int)with|some y=>if y.kind=2 then none else some (⟨(d:Int),e,y.ver⟩:Mb)|none=>gj ms d:Option Mb).toList:=by
 grind [mQ,List.range_succ]
theorem OM{d:Nat}(h:(ga l (d:Int)).isSome=true/\¬((ga l (d:Int)).getD ru).kind=2):mQ ms e l (d+1)=mQ ms e l d++[⟨(d:Int),e,((ga l (d:Int)).getD ru).ver⟩]:=by
 rw[nKg]
 grind
theorem AE{d:Nat}(h:(ga l (d:Int)).isSome=true)(h2:((ga l (d:Int)).getD ru).kind=2):mQ ms e l (d+1)=mQ ms e l d:=by
 rw[nKg]
 grind
theorem ON{d:Nat}(h:¬(ga l (d:Int)).isSome=true)(h2:(gj ms (d:Int)).isSome=true):mQ ms e l (d+1)=mQ ms e l d++[(gj ms (d:Int)).getD tQ]:=by
 rw[nKg];cases c:ga l (d:Int)with
 |some y=>grind
 |none=>cases c2:gj ms (d:Int)<;>grind
theorem OO{d:Nat}(h:¬(ga l (d:Int)).isSome=true)(h2:¬(gj ms (d:Int)).isSome=true):mQ ms e l (d+1)=mQ ms e l d:=by
 rw[nKg];simp_all
theorem LW(ms:List Mb)(e:Int)(l:List Ch)(j:Nat):(mQ ms e l j).length<=j:=by
 grind [mQ]
theorem nnh(hZ:FxOk Z)(G:Gv)(qq:NB G.g.ns)(c:Cm)(cZ:ck c)(N:Nat)(w:World)(hN:N<=w.heap.size)(hG:aM N w G)(hC:dc N w c):Calls prog 119 #[.agg (aY G),.agg (cW c)] w (BO w (ra Z G.g c) (eH Z G.g c)):=by
 have tr:=cZ.few.chs;have vN:=cZ.few.bxs;have JH:=hG.nn;have Ao:=VC c.chs G.g.ns;refine eN func119 ntmps119 ?_;refine aU 2 ?_;intro b2 w2 bV bj dz cL cR;refine yX ?_;intro b3 w3 bQ aZ dK cP dt;refine bD 1 ?_;intro b4 dL dP;refine B 5 ?_;by_cases hv:cY G.g=false
 ·refine VF ?_;refine call (v:=.bool false) call167 rfl rfl rfl (λW hS=>zYBl) ?_;refine DM ?_;have oY:eH Z G.g c=1:=(OH hv);exact SV
 replace hv:=Bool.of_not_eq_false hv;refine VF ?_;refine call (v:=.bool true) call167 rfl rfl rfl (λW hS=>zYBl) ?_;refine pN ?_;by_cases kf:ou c=0
 ·refine aV 1 (.agg (cW c)) ?_;refine call (v:=ab 0) call168 rfl rfl rfl (λW hS=>zYBd) ?_;refine B 7 ?_;refine xf ?_;have eG:=CC.1 kf;have lT:=eG.au;have IP:=eG.ch;have RM:=(tD.1 hv).1.2.2.1;have sH:=(tD.1 hv).1.2.1;by_cases h1:¬c.folder=G.g.folder
  ·refine aV 5 aK ?_;refine B 27 ?_;have oY:eH Z G.g c=220:=(AB hv kf (GV λh=>by have g1:=h.1;have g2:=h.2.1;have g3:=h.2.2;exact h1 g1));exact SV
  by_cases h2:¬c.epoch=G.g.epoch+1
  ·refine B 5 ?_;refine pN ?_;refine bX aK ?_;refine B 20 ?_;have oY:eH Z G.g c=220:=(AB hv kf (GV λh=>by have g1:=h.1;have g2:=h.2.1;have g3:=h.2.2;exact h2 g2));exact SV
  by_cases h3:gV c.par G.g.last=false
  ·refine B 5 ?_;refine pN ?_;refine pN ?_;refine zTg ?_;refine B 13 ?_;have oY:eH Z G.g c=220:=(AB hv kf (GV λh=>by have g1:=h.1;have g2:=h.2.1;have g3:=h.2.2;rw[h3]at g3;cases g3));exact SV
  refine B 5 ?_;refine pN ?_;refine pN ?_;refine rq aO (iV wZ zF nT rfl rfl rfl) (congrArg (λq=>Value.bool (!q)) (Bool.of_not_eq_false h3)) ?_;refine B 8 ?_;by_cases hp:gy G.g c.author c.chs=false
  ·refine VF ?_;refine B 3 ?_;refine IL ?_;refine call (v:=.bool false) call169 rfl rfl rfl (λW hS=>zYp) ?_;refine DM ?_;have oY:eH Z G.g c=221:=(OK hv kf (AD aa aa (Bool.of_not_eq_false h3)) hp);exact SV
  replace hp:=Bool.of_not_eq_false hp;obtain⟨fe,qh⟩:=nZi hv lT IP hp;have yJ:=OB hv IP hp;obtain⟨T,hT⟩:∃T,bC G.g.ns c.chs=T:=⟨_,rfl⟩;rw[hT]at fe qh Ao;refine VF ?_;refine B 3 ?_;refine IL ?_;refine call (v:=.bool true) call169 rfl rfl rfl (λW hS=>zYp) ?_;refine xf ?_;by_cases hb:(qa G.g c&&qb c)=false
  ·refine B 1 ?_;refine znh ?_;refine call (v:=.bool false) call170 rfl rfl rfl (λW hS=>by have h9:=nKf G N W aT (hG.us hS.sm) c cZ.few (hC.us hS.sm) lT hv IP hp;rw[hb]at h9;exact h9) ?_;refine DM ?_;have oY:eH Z G.g c=220:=(abc hv kf (AD aa aa (Bool.of_not_eq_false h3)) hp hb);exact SV
  replace hb:=Bool.of_not_eq_false hb;by_cases og:yC Z G.g c=false
  ·refine B 1 ?_;refine znh ?_;refine zyf ?_;refine xf ?_;refine z5d ?_;refine CJ.chn 10 [7] [some (.agg (aY G)),_,_,_,some (.slice c.ca c.chs.length c.cc),some (ab (iv G.g c.author c.chs)),some (.agg (cW c)),none,_,some (.agg #[ab c.sr,ab c.ss])] (λcv L' H'=>match cv with| []=>L'=[w3,w2,w]/\H'=[(b4,oC (aY ov) 86)]| [v1]=>∃(bm:Nat) (wm:World),v1= .slice (aH bm) 32 32/\L'=[wm,w3,w2,w]/\H'=[(b4,oC (aY ov) 86)]/\wm.heap[bm]? =some (oC (dg (kL Z c)) 34)/\w3.heap.size<=bm/\w3.heap.size<=wm.heap.size/\b4<bm|_=>False) (pc CI (pc z9 (pc CI (pc Z7 (pc CI (pc CI (pc CI (pk (pc VK (pc CI (pn))))))))))) ?_ ?_
   ·exact z2i
   intro cv L' H' hl hP;obtain⟨v1,rfl⟩:=gh hl;obtain⟨bm,wm,rfl,rfl,rfl,jQ,Z5,hzm,abd⟩:=hP;refine cl call42 rfl (λW hS=>by have h9:=YP hZ (iv G.g c.author c.chs) c.sr c.ss (dy (kL Z c)) bm 0 32 (by rw[IK];decide) W (cD.dg (hS.old A0 jQ zL zD) (hZ.byt _ _));rw[IK,show jF Z (iv G.g c.author c.chs) (dy (kL Z c)) c.sr c.ss=false from og]at h9;exact h9) (v:=.bool false) ?_;refine DM ?_;have oY:eH Z G.g c=222:=((OL hv kf (AD aa aa (Bool.of_not_eq_false h3)) hp hb).trans (if_neg (by rw[og];decide)));rw[nNe oY zF,oY];exact bH (.inl rfl) results119 aL λW hS=>⟨ov,rfl,hS.base A3 zH,rfl,RJ _ _,λq h=>xn,λq h=>xn⟩
  replace og:=Bool.of_not_eq_false og;refine B 1 ?_;refine znh ?_;refine zyf ?_;refine xf ?_;refine z5d ?_;refine CJ.chn 10 [7] [some (.agg (aY G)),_,_,_,some (.slice c.ca c.chs.length c.cc),some (ab (iv G.g c.author c.chs)),some (.agg (cW c)),none,_,some (.agg #[ab c.sr,ab c.ss])] (λcv L' H'=>match cv with| []=>L'=[w3,w2,w]/\H'=[(b4,oC (aY ov) 86)]| [v1]=>∃(bm:Nat) (wm:World),v1= .slice (aH bm) 32 32/\L'=[wm,w3,w2,w]/\H'=[(b4,oC (aY ov) 86)]/\wm.heap[bm]? =some (oC (dg (kL Z c)) 34)/\w3.heap.size<=bm/\w3.heap.size<=wm.heap.size/\b4<bm|_=>False) (pc CI (pc z9 (pc CI (pc Z7 (pc CI (pc CI (pc CI (pk (pc VK (pc CI (pn))))))))))) ?_ ?_
  ·exact z2i
  intro cv L' H' hl hP;obtain⟨v1,rfl⟩:=gh hl;obtain⟨bm,wm,rfl,rfl,rfl,jQ,Z5,hzm,abd⟩:=hP;refine cl call42 rfl (λW hS=>by have h9:=YP hZ (iv G.g c.author c.chs) c.sr c.ss (dy (kL Z c)) bm 0 32 (by rw[IK];decide) W (cD.dg (hS.old A0 jQ zL zD) (hZ.byt _ _));rw[IK,show jF Z (iv G.g c.author c.chs) (dy (kL Z c)) c.sr c.ss=true from og]at h9;exact h9) (v:=.bool true) ?_;refine pN ?_;have yn:=(bO.1 jQ).1;have hpl:=eG.pl;have kG:∀y∈c.path,dr y:=λy hy=>by obtain⟨i,hi⟩:=iB.1 hy;exact eG.path i y hi
  refine nE (E':=[(0,_),(1,_),(2,_),(3,_),(4,_),(5,_),(6,_),(13,_),(14,_),(15,_),(17,_),(18,_),(19,_),(20,_),(23,_),(24,_),(25,_),(26,_),(27,_),(28,_),(29,_),(30,_),(31,_),(32,_),(33,_),(34,_),(35,_),(36,_),(37,_),(38,_),(39,_),(40,_),(41,_),(42,_),(44,_),(45,_),(46,_),(47,_),(48,_),(49,_),(50,_),(52,_),(53,_),(54,_),(55,_),(57,_),(58,_),(59,_),(60,_),(61,_),(62,_),(63,_),(64,_),(65,_),(66,_),(67,_),(68,_)]) zR ?_;refine CJ.chn 8 [7] [_,some (ab G.g.folder),_,some (ab c.epoch),some (.agg (cW c)),some (.agg (dg (aE Z c))),_,none] (λcv L' H'=>match cv with| []=>L'=[wm,w3,w2,w]/\H'=[(b4,oC (aY ov) 86)]| [v1]=>∃(b7:Nat),v1=ptr b7 0/\L'=[wm,w3,w2,w]/\H'=[(b7,oC (aY ov) 86),(b4,oC (aY ov) 86)]/\(wm.heap.size<=b7/\w3.heap.size<=b7/\w2.heap.size<=b7/\w.heap.size<=b7/\True)|_=>False) (pc (by exact λcv L' H' hd hP=>X.v (du underlying86 rfl sizeOf3 rfl)) (pc zcw (pc z9 (pc zcw (pc zcw (pc zcw (pc (by exact λcv L' H' hd hP=>X.v (RV.re (v':=.agg (aY (⟨⟨G.g.folder,c.epoch,aE Z c,[],[]⟩,none,0,none,0⟩:Gv))) (jE underlying86 zeroValue86 (ec.c sizeOf3 (ec.c sizeOf3 (ec.c sizeOf34 (ec.c sizeOf81 (ec.c sizeOf84 (ec.n)))))) rfl rfl) (rfl))) (pk (pn))))))))) ?_ ?_
  ·refine ss rfl ?_ ?_
   ·intro cv L' H' hl hP F Q' hk;obtain rfl:=oJ hl;obtain⟨rfl,rfl⟩:=hP;refine B 1 ?_;exact zjj
   exact nn
  intro cv L' H' hl hP;obtain⟨v1,rfl⟩:=gh hl;obtain⟨b7,rfl,rfl,rfl,ie⟩:=hP;refine B 4 ?_;refine nE (E':=[(0,_),(1,_),(2,_),(3,_),(4,_),(5,_),(6,_),(7,_),(13,_),(14,_),(15,_),(17,_),(18,_),(19,_),(20,_),(23,_),(24,_),(25,_),(26,_),(27,_),(28,_),(29,_),(30,_),(31,_),(32,_),(33,_),(34,_),(35,_),(36,_),(37,_),(38,_),(39,_),(40,_),(41,_),(42,_),(44,_),(45,_),(46,_),(47,_),(48,_),(49,_),(50,_),(52,_),(53,_),(54,_),(55,_),(57,_),(58,_),(59,_),(60,_),(61,_),(62,_),(63,_),(64,_),(65,_),(66,_),(67,_),(68,_),(70,_),(71,_),(72,_),(73,_),(74,_),(75,_),(76,_)]) zR ?_;refine CJ.chn 14 [3,8,9,10,13] [some (.agg (aY G)),_,some (.slice c.ca c.chs.length c.cc),none,_,_,_,some (.slice c.pa c.path.length c.pc),none,none,none,some (ab 0),_,none] (λcv L' H'=>let mN:ae:=[(b7,oC (aY (⟨⟨G.g.folder,c.epoch,aE Z c,[],[]⟩,none,0,none,0⟩:Gv)) 86),(b4,oC (aY ov) 86)];let dA:ae:=mN;match cv with| []=>L'=[wm,w3,w2,w]/\H'=dA| [v1]=>∃(ta:Option Addr) (tc:Nat) (wt:World),v1= .agg #[.slice ta T.length tc]/\L'=[wt,wm,w3,w2,w]/\H'=dA/\aj dJ 2 wt.heap.size wt ta T/\(∀b off,ta=some ⟨b,off,none⟩->T=[]\/(b≠b7/\b≠b4))/\wm.heap.size<=wt.heap.size| [v1,v2]=>∃(ta:Option Addr) (tc:Nat) (wt:World) (r8:Rw),v1= .agg #[.slice ta T.length tc]/\v2= .tuple #[.agg #[r8.val (aP T c.author c.path).length],ab 0]/\L'=[wt,wm,w3,w2,w]/\H'=mN++(r8.hp dD 325 (aP T c.author c.path)++[])/\aj dJ 2 wt.heap.size wt ta T/\(∀b off,ta=some ⟨b,off,none⟩->T=[]\/(b≠b7/\b≠b4))/\wm.heap.size<=wt.heap.size/\Rw.Fr Gh.no [wt,wm,w3,w2,w] r8/\r8.Fit 2 (aP T c.author c.path)/\r8.ge wt.heap.size| [v1,v2,v3]=>∃(ta:Option Addr) (tc:Nat) (wt:World) (r8:Rw),v1= .agg #[.slice ta T.length tc]/\v2= .tuple #[.agg #[r8.val (aP T c.author c.path).length],ab 0]/\v3= .tuple #[.agg #[r8.val (aP T c.author c.path).length],ab 0]/\L'=[wt,wm,w3,w2,w]/\H'=mN++(r8.hp dD 325 (aP T c.author c.path)++[])/\aj dJ 2 wt.heap.size wt ta T/\(∀b off,ta=some ⟨b,off,none⟩->T=[]\/(b≠b7/\b≠b4))/\wm.heap.size<=wt.heap.size/\Rw.Fr Gh.no [wt,wm,w3,w2,w] r8/\r8.Fit 2 (aP T c.author c.path)/\r8.ge wt.heap.size| [v1,v2,v3,v4]=>∃(ta:Option Addr) (tc:Nat) (wt:World) (r8:Rw),v1= .agg #[.slice ta T.length tc]/\v2= .tuple #[.agg #[r8.val (aP T c.author c.path).length],ab 0]/\v3= .tuple #[.agg #[r8.val (aP T c.author c.path).length],ab 0]/\v4= .agg #[r8.val (aP T c.author c.path).length]/\L'=[wt,wm,w3,w2,w]/\H'=mN++(r8.hp dD 325 (aP T c.author c.path)++[])/\aj dJ 2 wt.heap.size wt ta T/\(∀b off,ta=some ⟨b,off,none⟩->T=[]\/(b≠b7/\b≠b4))/\wm.heap.size<=wt.heap.size/\Rw.Fr Gh.no [wt,wm,w3,w2,w] r8/\r8.Fit 2 (aP T c.author c.path)/\r8.ge wt.heap.size| [v1,v2,v3,v4,v5]=>∃(ta:Option Addr) (tc:Nat) (wt:World) (r8:Rw),v1= .agg #[.slice ta T.length tc]/\v2= .tuple #[.agg #[r8.val (aP T c.author c.path).length],ab 0]/\v3= .tuple #[.agg #[r8.val (aP T c.author c.path).length],ab 0]/\v4= .agg #[r8.val (aP T c.author c.path).length]/\v5= .tuple #[]/\L'=[wt,wm,w3,w2,w]/\H'=[(b7,oC (BR G.g.folder c.epoch (aE Z c) (bS) (r8.val (aP T c.author c.path).length)) 86),(b4,oC (aY ov) 86)]++(r8.hp dD 325 (aP T c.author c.path)++[])/\aj dJ 2 wt.heap.size wt ta T/\(∀b off,ta=some ⟨b,off,none⟩->T=[]\/(b≠b7/\b≠b4))/\wm.heap.size<=wt.heap.size/\Rw.Fr Gh.no [wt,wm,w3,w2,w] r8/\r8.Fit 2 (aP T c.author c.path)/\r8.ge wt.heap.size|_=>False) (pc zcx (pc Z7 (pc zcx (pk (pc z9 (pc zcx (pc ZP (pc zcx (pk (pk (pk (pc (λcv L' H' hd hP=>match cv,hd,hP with| [],hd,hP=>(absurd (show false=true from hd) zF)| [v1],hd,hP=>(absurd (show false=true from hd) zF)| [v1,v2],hd,hP=>(absurd (show false=true from hd) zF)| [v1,v2,v3],hd,hP=>(by obtain⟨ta,tc,wt,r8,rfl,rfl,rfl,rfl,rfl,cB,uW,wG,dY,dw,eo⟩:=hP;exact X.v (gr rfl rfl))| [v1,v2,v3,v4],hd,hP=>(by obtain⟨ta,tc,wt,r8,rfl,rfl,rfl,rfl,rfl,rfl,cB,uW,wG,dY,dw,eo⟩:=hP;exact X.v (gr rfl rfl))| [v1,v2,v3,v4,v5],hd,hP=>(by obtain⟨ta,tc,wt,r8,rfl,rfl,rfl,rfl,rfl,rfl,rfl,cB,uW,wG,dY,dw,eo⟩:=hP;exact X.v (gr rfl rfl))|_::_::_::_::_::_::_,_,hP=>hP.elim) (pc VA (pk (pn))))))))))))))) ?_ ?_
  ·refine ss rfl ?_ ?_
   ·intro cv L' H' hl hP F Q' hk;obtain rfl:=oJ hl;obtain⟨rfl,rfl⟩:=hP;refine ny (α:=Option Addr×Nat) (v:=λq=>.agg #[.slice q.1 T.length q.2]) (Φ:=λW q w1=>aj dJ 2 w1.heap.size w1 q.1 T/\∀b off,q.1=some ⟨b,off,none⟩->T=[]\/b<N\/W.heap.size<=b) call174 rfl rfl rfl (λW hS=>by rw[<-hT];exact nPi G N W aT (hG.us hS.sm) c.chs aa c.ca c.cc (hC.chs.us hS.sm) aa yJ) ?_;rintro W_ ⟨ta_,tc_⟩ w_ oV xm ⟨dA,mN⟩;have Ol:=(oV.links wm A0).size;have hu_:=oV.under;replace hu_:=yf hu_;exact OJ.done (hk _ _ _ ⟨ta_,tc_,w_,rfl,rfl,rfl,dA,λb off e=>(mN b off e).imp id (λh=>by omega),dS Ol xm.size⟩)
   refine ss rfl ?_ ?_
   ·intro cv L' H' hl hP F Q' hk;obtain⟨v1,rfl⟩:=gh hl;obtain⟨ta,tc,wt,rfl,rfl,rfl,cB,uW,wG⟩:=hP;refine xg (enc:=dD) (m:=2) (t:=325) (xs:=(aP T c.author c.path)) (v:=λs=>.tuple #[.agg #[s],ab 0]) (first:=[]) (cap:=[]) rfl call173 rfl rfl rfl (λW hS=>nHs T aa W.heap.size ta tc W (aC _) (cB.to hS A0 (aC _) (λb off e=>(uW b off e).imp id (λh=>by simp only[cu,eI,and_true];exact⟨λe=>h.1 e.symm,λe=>h.2 e.symm⟩))) fe c.author lT qh aa c.path aa kG N c.pa c.pc aT (hC.path.us hS.sm)) ?_;intro r_ EU kJ;exact OJ.done (hk _ _ _ ⟨ta,tc,wt,r_,rfl,rfl,rfl,rfl,cB,uW,wG,EU,kJ,Rw.ge_of EU A0⟩)
   refine ss rfl ?_ ?_
   ·intro cv L' H' hl hP F Q' hk;obtain⟨v1,v2,rfl⟩:=kY hl;obtain⟨ta,tc,wt,r8,rfl,rfl,rfl,rfl,cB,uW,wG,dY,dw,eo⟩:=hP;refine B 1 ?_;exact OJ.done (hk _ _ _ ⟨ta,tc,wt,r8,rfl,rfl,rfl,rfl,rfl,cB,uW,wG,dY,dw,eo⟩)
   refine ss rfl ?_ ?_
   ·intro cv L' H' hl hP F Q' hk;obtain⟨v1,v2,v3,rfl⟩:=gO hl;obtain⟨ta,tc,wt,r8,rfl,rfl,rfl,rfl,rfl,cB,uW,wG,dY,dw,eo⟩:=hP;refine B 1 ?_;exact OJ.done (hk _ _ _ ⟨ta,tc,wt,r8,rfl,rfl,rfl,rfl,rfl,rfl,cB,uW,wG,dY,dw,eo⟩)
   refine ss rfl ?_ ?_
   ·intro cv L' H' hl hP F Q' hk;obtain⟨v1,v2,v3,v4,rfl⟩:=uQ hl;obtain⟨ta,tc,wt,r8,rfl,rfl,rfl,rfl,rfl,rfl,cB,uW,wG,dY,dw,eo⟩:=hP;refine zfg ?_;exact OJ.done (hk (.tuple #[]) _ _ ⟨ta,tc,wt,r8,rfl,rfl,rfl,rfl,rfl,rfl,rfl,cB,uW,wG,dY,dw,eo⟩)
   exact nn
  intro cv L' H' hl hP;obtain⟨v1,v2,v3,v4,v5,rfl⟩:=RQ hl;obtain⟨ta,tc,wt,r8,rfl,rfl,rfl,rfl,rfl,rfl,rfl,cB,uW,wG,dY,dw,eo⟩:=hP;refine(OJ.done ?_);refine B 8 ?_;refine CJ.lp (α:=Rw×Nat) [2,3,4,7] (λp=>[(8,ab (p.2:Int))]) (λp=>[(b7,oC (BR G.g.folder c.epoch (aE Z c) (p.1.val (mQ G.g.ms c.epoch c.chs p.2).length) (r8.val (aP T c.author c.path).length)) 86),(b4,oC (aY ov) 86)]++(p.1.hp ly 156 (mQ G.g.ms c.epoch c.chs p.2)++(r8.hp dD 325 (aP T c.author c.path)++[]))) (λp=>p.2<=512/\p.1.Fr Gh.no [wt,wm,w3,w2,w]/\p.1.Fit 3 (mQ G.g.ms c.epoch c.chs p.2)) (λp=>512-p.2) (.nil,0) ⟨cd _,True.intro,rfl⟩ ?_;rintro⟨r,d⟩ ⟨hj,aB,af⟩;dsimp only at hj aB af ⊢;have bW:r.ge wt.heap.size:=Rw.ge_of aB A0;have pO:=LW G.g.ms c.epoch c.chs d;refine av 7 ?_ ?_
  ·intro ai;refine B 6 ?_;refine Rg ?_;refine cl call175 rfl (λW hS=>nZd G N W aT (hG.us (hS.same A4 hN zO z6b)) (d:Int)) ?_;refine bD 4 ?_;intro b9 oF xJ;refine B 7 ?_;refine IL ?_;refine B 1 ?_;refine cl call176 rfl (λW hS=>n8j c.chs aa N c.ca c.cc W aT (hC.chs.us (hS.same A4 hN zO z6b)) (d:Int)) ?_;refine bD 4 ?_;intro jk lN vH;refine B 6 ?_;by_cases h1:(ga c.chs (d:Int)).isSome=true/\¬((ga c.chs (d:Int)).getD ru).kind=2
   ·refine B 2 ?_;refine Ww ?_;refine aV 1 (ab ((ga c.chs (d:Int)).getD ru).kind) ?_;refine rq aK (aN rfl rfl) (vb z2) ?_;refine aV 12 (ab ((ga c.chs (d:Int)).getD ru).ver) ?_;refine B 1 ?_;refine z7e ?_;refine yW ?_;intro bz dv c0;refine jf (r:=r) (xs:=(mQ G.g.ms c.epoch c.chs d)) (zs:=[(⟨(d:Int),c.epoch,((ga c.chs (d:Int)).getD ru).ver⟩:Mb)]) (enc:=ly) (m:=3) (H0:=[(bz,oC (jx (⟨(d:Int),c.epoch,((ga c.chs (d:Int)).getD ru).ver⟩:Mb)) 156),(jk,oC (ff ((ga c.chs (d:Int)).getD ru)) 271),(b9,oC (jx ((gj G.g.ms (d:Int)).getD tQ)) 156),(b7,oC (BR G.g.folder c.epoch (aE Z c) (r.val (mQ G.g.ms c.epoch c.chs d).length) (r8.val (aP T c.author c.path).length)) 86),(b4,oC (aY ov) 86)]) (H1:=r8.hp dD 325 (aP T c.author c.path)++[]) pP nBk vr rfl rfl rfl rfl (bN.one (z:=(⟨(d:Int),c.epoch,((ga c.chs (d:Int)).getD ru).ver⟩:Mb)) vr Vs underlying81 (bL.own (i:=0) rfl)) af aB zP vn ?_;intro bx aD bu aR LX;refine B 1 ?_;refine zSh ?_;refine PJ.again (Rw.row bx aD bu,d+1) ⟨by dsimp only;omega,aR.elim (λh=>Rw.Fr_at aB h) (λh=>.inr h),by dsimp only;rw[OM h1];exact LX⟩ zZ zR (by dsimp only;rw[OM h1];rfl) rfl zP
   by_cases h2:(ga c.chs (d:Int)).isSome=true/\(gj G.g.ms (d:Int)).isSome=true
   ·refine B 2 ?_;refine Ww ?_;refine B 1 ?_;refine zhg ?_;refine B 8 ?_;refine Ww ?_;refine Ww ?_;refine B 15 ?_;refine vo ?_;refine PJ.again (r,d+1) ⟨by dsimp only;omega,aB,by dsimp only;rw[AE h2.1 (Decidable.byContradiction λh=>h1 ⟨h2.1,h⟩)];exact af⟩ zZ zR (by dsimp only;rw[AE h2.1 (Decidable.byContradiction λh=>h1 ⟨h2.1,h⟩)];rfl) rfl zP
   by_cases h3:(ga c.chs (d:Int)).isSome=true
   ·refine B 2 ?_;refine Ww ?_;refine B 1 ?_;refine zhg ?_;refine B 8 ?_;refine zze ?_;refine B 16 ?_;refine vo ?_;refine PJ.again (r,d+1) ⟨by dsimp only;omega,aB,by dsimp only;rw[AE h3 (Decidable.byContradiction λh=>h1 ⟨h3,h⟩)];exact af⟩ zZ zR (by dsimp only;rw[AE h3 (Decidable.byContradiction λh=>h1 ⟨h3,h⟩)];rfl) rfl zP
   by_cases h4:(gj G.g.ms (d:Int)).isSome=true
   ·refine B 2 ?_;refine zze ?_;refine B 11 ?_;refine Ww ?_;refine zze ?_;refine aV 9 (.agg (jx ((gj G.g.ms (d:Int)).getD tQ))) ?_;refine z7e ?_;refine yW ?_;intro bg c5 dd;refine jf (r:=r) (xs:=(mQ G.g.ms c.epoch c.chs d)) (zs:=[((gj G.g.ms (d:Int)).getD tQ)]) (enc:=ly) (m:=3) (H0:=[(bg,oC (jx ((gj G.g.ms (d:Int)).getD tQ)) 156),(jk,oC (ff ((ga c.chs (d:Int)).getD ru)) 271),(b9,oC (jx ((gj G.g.ms (d:Int)).getD tQ)) 156),(b7,oC (BR G.g.folder c.epoch (aE Z c) (r.val (mQ G.g.ms c.epoch c.chs d).length) (r8.val (aP T c.author c.path).length)) 86),(b4,oC (aY ov) 86)]) (H1:=r8.hp dD 325 (aP T c.author c.path)++[]) pP nBk vr rfl rfl rfl rfl (bN.one (z:=((gj G.g.ms (d:Int)).getD tQ)) vr Vs underlying81 (bL.own (i:=0) rfl)) af aB zP vn ?_;intro LV bI a6 bw LY;refine B 1 ?_;refine zSh ?_;refine PJ.again (Rw.row LV bI a6,d+1) ⟨by dsimp only;omega,bw.elim (λh=>Rw.Fr_at aB h) (λh=>.inr h),by dsimp only;rw[ON h3 h4];exact LY⟩ zZ zR (by dsimp only;rw[ON h3 h4];rfl) rfl zP
   refine B 2 ?_;refine zze ?_;refine B 11 ?_;refine zze ?_;refine B 16 ?_;refine vo ?_;refine PJ.again (r,d+1) ⟨by dsimp only;omega,aB,by dsimp only;rw[OO h3 h4];exact af⟩ zZ zR (by dsimp only;rw[OO h3 h4];rfl) rfl zP
  intro ai;refine B 8 ?_;refine fE (i:=1) rfl sizeOf86 rfl rfl rfl rfl rfl (nkq _ _ _ _ _ _ _) ?_;refine B 4 ?_;have oY:eH Z G.g c=0:=(OL hv kf (AD aa aa (Bool.of_not_eq_false h3)) hp hb).trans (if_pos og);rw[nTn oY,oY];obtain rfl:d=512:=by omega
  refine bH (.inl rfl) results119 aL λW hS=>?_;have RX:r8.At dD 325 (aP T c.author c.path) W:=Rw.at_mem hS (λp hp=>by simp only[dQ,gU,fP,ft];simp[hp]);have gi:r.At ly 156 (mQ G.g.ms c.epoch c.chs 512) W:=Rw.at_mem hS (λp hp=>by simp only[dQ,gU,fP,ft];simp[hp]);obtain⟨a,cp,lS,RY⟩:=Rw.sl (xs:=(mQ G.g.ms c.epoch c.chs 512)) vr af gi (aC W.heap.size);obtain⟨a8,Er,J,pW⟩:=Rw.sl tB dw RX (aC W.heap.size);have cz:=nFo (ns:=T) lT c.path;have cQ:=nvl hv;have Cs:(qy Z G.g c).ms=(mQ G.g.ms c.epoch c.chs 512):=aaS (npi hv) (LF hv) (Cv.1 IP);refine⟨⟨qy Z G.g c,a,cp,a8,Er⟩,?_,?_,rfl,⟨by dsimp only;rw[Cs];exact RY,by rw[<-hT]at pW;exact pW,?_,?_⟩,Rw.val_new (Rw.ge_mono bW aa) lS,Rw.val_new (Rw.ge_mono eo aa) J⟩
  ·show Ending.returned (.tuple #[.agg (BR G.g.folder c.epoch (aE Z c) (r.val (mQ G.g.ms c.epoch c.chs 512).length) (r8.val (aP T c.author c.path).length)),ab 0])=Ending.returned (.tuple #[.agg (BR G.g.folder c.epoch (aE Z c) (.slice a (qy Z G.g c).ms.length cp) (.slice a8 (aP (bC G.g.ns c.chs) c.author c.path).length Er)),ab 0]);rw[Cs,lS,J,hT]
  ·exact(hS.links w A4).below (λk hk hx=>by rcases hx with hx|hx;(exact hx);simp only[eI,gB,gU,fP,dG,iM,jv,kS,dQ,ft,jc,or_false]at hx;rcases hx with hx|hx|hx|hx;(omega);(omega);(have:=Rw.mem_ge bW hx;omega);(have:=Rw.mem_ge eo hx;omega))
  ·dsimp only;rw[Cs];omega
  exact zJk
 replace kf:=(nRk c).resolve_left kf;refine aV 1 (.agg (cW c)) ?_;refine call (v:=ab 220) call168 rfl rfl rfl (λW hS=>zYBd) ?_;refine B 7 ?_;refine Bf ?_;have oY:eH Z G.g c=220:=(OI hv kf);exact SV
theorem OP:∀(j:Nat) (a b:List UInt8) (x y:UInt8),(∀i,i<j->a[i]? =b[i]?)->a[j]? =some x->b[j]? =some y->x≠y->(Go.Lib.compareBytes a b<0↔x<y)
 |0,u::a,v::b,x,y,_,hx,hy,hn=>by
  grind [VS,R6]
 |j+1,u::a,v::b,x,y,hp,hx,hy,hn=>by
  have h0:=hp 0 aa;simp at h0;subst h0;rw[nug];exact OP j a b x y (λi hi=>by grind) cM cM hn
 |0,[],_,_,_,_,hx,_,_=>by simp at hx
 |0,_::_,[],_,_,_,_,hy,_=>by simp at hy
 |j+1,[],_,_,_,_,hx,_,_=>by simp at hx
 |j+1,_::_,[],_,_,_,_,hy,_=>by simp at hy
def yR (f g:Nat->Int):Bool:=decide (Go.Lib.compareBytes (dy f) (dy g)<0)
theorem nYj(hf:gY f)(hi:i<32):∃u:UInt8,(dy f)[i]? =some u/\((u.toNat:Nat):Int)=f i:=by
 have h1:=U4 f hf i hi
 grind [nM,fU]
theorem SX{g:Nat->Int}(hf:gY f)(hg:gY g)(hj:j<32)(hp:∀i,i<j->f i=g i)(hn:¬f j=g j):decide (f j<g j)=yR f g:=by
 obtain⟨u,hu,J⟩:=nYj hf hj;obtain⟨v,hv,ev⟩:=nYj hg hj;refine decide_eq_decide.2 ?_;rw[OP j (dy f) (dy g) u v (λi hi=>?_) hu hv (λh=>hn cM)]
 ·grind [UInt8.lt_iff_toNat_lt]
 (simp[nYj,dy,gY];grind)
theorem SY{g:Nat->Int}(hf:gY f)(hg:gY g)(hp:∀i,i<32->f i=g i):false=yR f g:=by
 have e:dy f=dy g:=by
  refine xL λi=>?_;by_cases hi:i<32
  ·simp_all[nYj,dy,gY]
  grind [nM]
 grind [npl,yR]
noncomputable def OQ (Z:Fx) (g:Gp) (c:Cm):Int×Int×List UInt8:=(pz g.ms c.author,c.author,dy (aE Z c))
noncomputable def sQ (Z:Fx) (g:Gp) (a b:Cm):Bool:=decide (ky3 (OQ Z g a) (OQ Z g b)<0)
theorem abm{a b:Cm}(h:¬pz g.ms a.author=pz g.ms b.author):decide (pz g.ms a.author<pz g.ms b.author)=sQ Z g a b:=by
 grind [sQ,Px.ky3,ki,OQ,cj]
theorem abn{a b:Cm}(h1:pz g.ms a.author=pz g.ms b.author)(h:¬a.author=b.author):decide (a.author<b.author)=sQ Z g a b:=by
 grind [sQ,Px.ky3,ki,OQ,cj]
theorem abo{a b:Cm}(h1:pz g.ms a.author=pz g.ms b.author)(h:a.author=b.author):yR (aE Z a) (aE Z b)=sQ Z g a b:=by
 grind [yR,sQ,Px.ky3,ki,OQ,cj]
theorem n0f(G:Gv)(N:Nat)(w:World)(hN:N<=w.heap.size)(hG:aM N w G)(d:Int):Calls prog 278 #[.agg (aY G),ab d] w (ar w (ab (pz G.g.ms d))):=by
 have J:=hG.mn;have qP:=hG.ms;refine eN func278 ntmps278 ?_;refine aU 2 ?_;intro b2 w2 bV bj dz cL cR;refine B 10 ?_;refine CJ.lp (α:=Nat) [1,2] (λj=>[(5,ab (j:Int))]) (λj=>[]) (λj=>j<=G.g.ms.length/\cE (λm:Mb=>decide (m.dev=d)) G.g.ms j) (λj=>G.g.ms.length-j) 0 ⟨cd _,λi x hi=>absurd hi aa⟩ ?_;rintro j ⟨hj,bT⟩;refine B 5 ?_;refine VP ?_;refine av 4 ?_ ?_
 ·intro ai;refine B 5 ?_;obtain⟨bo,oo,cs0,to,dR,iq,dW,hcs,ay⟩:=qP.get aa;obtain⟨x,hx⟩:=ng G.g.ms j aa;refine B 2 ?_;refine zsg ?_;refine B 3 ?_;refine rx (ad (v:=ab x.dev) isAgg3 rfl A1 hcs zL trivial (nu ay hx rfl 0 zF)) ?_;refine av 4 ?_ ?_
  ·intro ax;refine B 3 ?_;refine zsg ?_;refine B 3 ?_;refine rx (ad (v:=ab x.since) isAgg3 rfl A1 hcs zL trivial (nu ay hx rfl 1 zF)) ?_;refine B 9 ?_;refine ao results278 rfl A1 ?_;first|exact nzk bT hx z2|exact Aw bT aa
  exact OC
 intro ai;refine B 11 ?_;refine ao results278 rfl A1 ?_;first|exact nzk bT hx z2|exact Aw bT aa
theorem nhl(f g:Nat->Int)(hf:gY f)(hg:gY g)(w:World):Calls prog 279 #[.agg (dg f),.agg (dg g)] w (ar w (.bool (yR f g))):=by
 refine eN func279 ntmps279 ?_;refine aU 2 ?_;intro b2 w2 bV bj dz cL cR;refine yX ?_;intro b3 w3 bQ aZ J cP dt;refine B 10 ?_;refine CJ.lp (α:=Nat) [2,3] (λj=>[(5,ab (j:Int))]) (λj=>[]) (λj=>j<=32/\∀i,i<j->f i=g i) (λj=>32-j) 0 ⟨cd _,λi hi=>absurd hi aa⟩ ?_;rintro j ⟨hj,bT⟩;refine av 7 ?_ ?_
 ·intro ai;refine B 5 ?_;refine eA 6 (pb:=zYN) (k:=?_);refine av 3 ?_ ?_
  ·intro ax;refine B 1 ?_;refine eA 6 (pb:=zYN) (k:=?_);refine B 10 ?_;exact z6j
  intro ax;refine B 8 ?_;refine ag (j+1) ⟨by omega,λi hi=>by by_cases e:i=j;(subst e;simp_all);exact bT i aa⟩
 intro ai;refine B 11 ?_;exact z6j
section
variable (c:Cm)(qx:c.chs.length<=1000)(N:Nat)(w:World)(hN:N<=w.heap.size)(uM:aj ff 5 N w c.ca c.chs)
include qx N w hN uM
theorem nQi(d:Int):Calls prog 165 #[.agg (cW c),ab d] w (ar w (.bool (c.chs.any (lY d)))):=by
 refine eN func165 ntmps165 ?_;refine aU 2 ?_;intro b2 w2 bV bj dz cL cR;refine B 10 ?_;refine CJ.lp (α:=Nat) [1,2] (λj=>[(5,ab (j:Int))]) (λj=>[]) (λj=>j<=c.chs.length/\cE (lY d) c.chs j) (λj=>c.chs.length-j) 0 ⟨cd _,λi x hi=>absurd hi aa⟩ ?_;rintro j ⟨hj,bT⟩;refine B 5 ?_;refine IL ?_;refine av 4 ?_ ?_
 ·intro ai;refine B 5 ?_;obtain⟨bo,oo,cs0,to,dR,iq,dW,hcs,ay⟩:=uM.get aa;obtain⟨x,hx⟩:=ng c.chs j aa;refine B 2 ?_;refine zug ?_;refine B 3 ?_;refine zpf ?_;refine B 2 ?_;refine nf (t:=20) rfl (λax=>?_) (λax=>?_)
  ·replace ax:=ya ax;refine B 1 ?_;refine zug ?_;refine B 3 ?_;refine rx (ad (v:=ab x.dev) isAgg3 rfl A1 hcs zL trivial (nu ay hx rfl 1 zF)) ?_;refine av 5 ?_ ?_
   ·intro bY;exact zLj
   intro bY;refine B 8 ?_;refine ag (j+1) ⟨by omega,bT.next hx (by simp_all[lY])⟩
  replace ax:=ya ax;refine B 20 ?_;refine ag (j+1) ⟨by omega,bT.next hx (by simp_all[lY])⟩
 intro ai;exact zLj
theorem n2h:Calls prog 166 #[.agg (cW c)] w (ar w (ab (qZ c.chs:Int))):=by
 refine eN func166 ntmps166 ?_;refine aU 2 ?_;intro b1 w1 aW bJ eO dC fg;refine B 15 ?_;refine CJ.loop (α:=Nat) (λj=>[(1,ptr b1 0),(3,ab ((qZ (c.chs.take j):Nat):Int)),(4,ab (j:Int))]) (λj=>[]) (λj=>[w1,w]) (λj=>Gh.no) (λj=>j<=c.chs.length) (λj=>c.chs.length-j) 0 (cd _) zR rfl rfl zP ?_;rintro j hj;have J:qZ (c.chs.take j)<=j:=by unfold qZ;exact dS (RI _ _) (by rw[oK];omega)
 refine B 5 ?_;refine IL ?_;refine av 4 ?_ ?_
 ·intro ai;refine B 5 ?_;obtain⟨bo,oo,cs0,to,dR,iq,dW,hcs,ay⟩:=uM.get aa;obtain⟨x,hx⟩:=ng c.chs j aa;refine B 2 ?_;refine rq (.slice (some ⟨bo,oo,none⟩) c.chs.length c.cc) (ad isAgg95 rfl A0 aW bJ trivial rfl) mR ?_;refine B 3 ?_;refine zpf ?_;refine av 3 ?_ ?_
  ·intro ax;refine B 12 ?_;exact zWj
  intro ax;refine B 8 ?_;exact zWj
 intro ai;refine B 12 ?_;refine ao results166 rfl A1 ?_
 (rw[show c.chs.take j=c.chs from lE aa])
end
theorem nDk(hZ:FxOk Z)(G:Gv)(a b:Cm)(Iz:ck a)(Db:ck b)(N:Nat)(w:World)(hN:N<=w.heap.size)(hG:aM N w G)(J:dc N w a)(aq:dc N w b):Calls prog 225 #[.agg (aY G),.agg (cW a),.agg (cW b)] w (ar w (.bool (sQ Z G.g a b))):=by
 refine eN func225 ntmps225 ?_;refine aU 2 ?_;intro b3 w3 bQ aZ dK cP dt;refine yX ?_;intro b4 w4 gI iA oA dL dP;refine yX ?_;intro b5 w5 gQ je pq fK gf;refine B 5 ?_;refine eA 7 (pb:=zYu) (sp:=[some (.agg (aY G)),_,some (ab a.author),some (ab (pz G.g.ms a.author)),some (.agg (aY G)),_,some (ab b.author)]) (k:=?_);refine zPg ?_;refine av 3 ?_ ?_
 ·intro ai;refine B 1 ?_;refine eA 7 (pb:=zYu) (sp:=[some (.agg (aY G)),_,some (ab a.author),some (ab (pz G.g.ms a.author)),some (.agg (aY G)),_,some (ab b.author)]) (k:=?_);refine zPg ?_;refine B 6 ?_;exact zrj
 intro ai;refine aV 6 (ab a.author) ?_;refine aV 1 (ab b.author) ?_;refine av 3 ?_ ?_
 ·intro ax;refine aV 3 (ab a.author) ?_;refine aV 1 (ab b.author) ?_;refine B 6 ?_;exact zrj
 intro ax;refine B 3 ?_;refine eA 3 (pb:=by exact zU 1 (k:=by exact dh (X.cv call163 rfl (λW hS _=>Wv hZ a Iz N W aT (J.up (aC _) hS.sm))) zT)) (sp:=[some (.agg (cW a)),some (.agg (dg (aE Z a))),some (.agg (cW b))]) (k:=?_);refine cl call163 rfl (λW hS=>Wv hZ b Db N W aT (aq.up (aC _) hS.sm)) (v:=.agg (dg (aE Z b))) ?_;refine cl call279 rfl (λW hS=>nhl _ _ (hZ.byt _ _) (hZ.byt _ _) W) (v:=.bool (yR (aE Z a) (aE Z b))) ?_;refine B 4 ?_;exact zrj
theorem OJ.fewL{C:Cx}{ops:Array Oper}{Q:bA}{l:List Oper}{E:Env}{D:List Deferred}{G:Gh}{L L':List World}{H:ae}(h:∀w∈L',w∈L)(k:OJ C ops Q l E D G L' H):OJ C ops Q l E D G L H:=λa W hN hD hF hS=>k a W hN hD hF (hS.lessL h)
theorem SZ{f:Fo}(h:cE (λc=>gV (aE Z c) f.first) cs j)(hc:cs[j]? =some c)(hk:gV (aE Z c) f.first=true):qg Z cs f=if eH Z (g0 f) c=0 then some j else none:=by
 have e:cs.findIdx? (λc=>gV (aE Z c) f.first)=some j:=by
  rw[aMt];have hl:=aG hc;obtain⟨_,IS⟩:=qe.1 hc;refine⟨hl,by grind,λi hi=>?_⟩;have:=h i cs[i] hi (kC _);simp[this]
 grind [qg,n6m,iI]
theorem abp{f:Fo}(h:cE (λc=>gV (aE Z c) f.first) cs j)(hj:¬j<cs.length):qg Z cs f=none:=by
 have e:cs.findIdx? (λc=>gV (aE Z c) f.first)=none:=by
  rw[List.findIdx?_eq_none_iff];intro x hx;have:=List.any_eq_false.1 (Cu h hj) x hx;simpa using this
 grind [qg,n6m]
theorem nTr(hZ:FxOk Z)(cs:List Cm)(hcs:cs.length<=1000)(cZ:∀c∈cs,ck c)(N:Nat)(la:Option Addr)(lc:Nat)(w:World)(hN:N<=w.heap.size)(aA:aj cW 73 N w la cs)(hC:∀c∈cs,dc N w c)(fo:Fo):Calls prog 117 #[.agg (sM fo),.slice la cs.length lc] w (db w (λq:Nat×Gv×Bool=>.tuple #[ab (q.1:Int),.agg (aY q.2.1),.bool q.2.2]) (λq w'=>(q.2.2=true/\qg Z cs fo=some q.1/\q.2.1.g=qy Z (g0 fo) (iI cs q.1)/\aM w'.heap.size w' q.2.1/\bU w.heap.size q.2.1)\/(q.2.2=false/\qg Z cs fo=none))):=by
 refine eN func117 ntmps117 ?_;refine aU 2 ?_;intro b2 w2 bV bj dz cL cR;refine bD 2 ?_;intro b5 fK gf;refine B 10 ?_;refine CJ.lp (α:=Nat) [1,2,5] (λj=>[(7,ab (j:Int))]) (λj=>[(b5,oC (aY ov) 86)]) (λj=>j<=cs.length/\cE (λc=>gV (aE Z c) fo.first) cs j) (λj=>cs.length-j) 0 ⟨cd _,λi x hi=>absurd hi aa⟩ ?_;rintro j ⟨hj,bT⟩;refine av 9 ?_ ?_
 ·intro ai;refine B 5 ?_;obtain⟨bo,oo,cs0,to,dR,rfl,dW,fY,ay⟩:=aA.get aa;obtain⟨c,hc⟩:=ng cs j aa;have hcm:=cF hc;refine eA 7 (pb:=by exact zU 4 (k:=by exact dh (X.cv call163 rfl (λW hS _=>Wv hZ c (cZ c hcm) N W aT ((hC c hcm).us hS.sm))) zT)) (sp:=[_,_,_,some (.agg (cW c)),some (.agg (dg (aE Z c))),_,some (.agg (dg fo.first))]) (k:=?_);refine rr (.bool (gV (aE Z c) fo.first)) (lR wZ zF nT rfl rfl rfl) ?_;refine av 2 ?_ ?_
  ·intro ax;refine B 1 ?_;have PH:gV (aE Z c) fo.first=true:=by assumption
   obtain⟨e,he⟩:∃e,eH Z (g0 fo) c=e:=⟨_,rfl⟩;refine tS 13 [7,8,9,10,11,12] [[],[0],[0,1],[0,1],[],[0,1,2,4]] (λcv L' H'=>let dA:ae:=[(b5,oC (aY ov) 86)];∃(J:Gv) (wx:World) (b8:Nat),cv=[some (.tuple #[.agg (aY J),ab e]),some (.tuple #[.agg (aY J),ab e]),some (.agg (aY J)),some (ab e),some (ptr b8 0),some (.tuple #[])]/\L'=[wx,w2,w]/\H'=(b8,oC (aY J) 86)::dA/\J.g=ra Z (g0 fo) c/\aM wx.heap.size wx J/\yN b5 J/\bU w.heap.size J/\w2.heap.size<=b8/\yN b8 J) (sp:=[_,some (ab fo.id),some (.agg (aY (Lq fo))),some (.slice (some ⟨bo,oo,none⟩) cs.length lc),_,_,some (.agg (cW c)),_,_,_,none,_,_]) (t:=?_) (k:=?_)
   ·repeat' first|exact tZ|(refine tU rfl ?_)|(refine tR rfl ?_ ?_)|(refine tN jI ?_)|(exact tE jI vA ⟨J,wx,b8,rfl,rfl,rfl,oc,wF,Ow,Lr,lI,Ox⟩)|(intro _ _ hk;(first|(refine B 1 ?_;refine OJ.done (hk _ _ _ ?_))|(have:=gK 5 hk;refine B 1 ?_;refine OJ.done (hk (.tuple #[]) _ _ ?_))|(have:=gK 4 hk;refine B 1 ?_;intro b8 ha ho;have Ox:yN b8 J:=wF.off (by have:=ha.not (w:=wx) A0;omega);have lI:w2.heap.size<=b8:=(ha.mem w2 zP);refine OJ.done (hk _ _ _ ?_))|(refine ny (α:=Gv) (v:=λJ=>.tuple #[.agg (aY J),ab e]) (Φ:=λW J w1=>J.g=ra Z (g0 fo) c/\aM w1.heap.size w1 J/\(∀q,J.ma=some q->W.heap.size<=q.block)/\(∀q,J.na=some q->W.heap.size<=q.block)) call119 rfl rfl rfl (λW hS=>zYq) ?_;rintro W9 J wx jS uK ⟨oc,wF,sN⟩;(try dsimp only at oc wF sN);have mP:=jS.lt (b5,_) A1;(try dsimp only at mP);have FO:=jS.lt (b8,_) A0;(try dsimp only at FO);have rl:=(jS.links w A1).size;have Ow:=bU.off sN mP;have Lr:bU w.heap.size J:=⟨λq e=>.inr (dS rl (sN.1 q e)),λq e=>.inr (dS rl (sN.2 q e))⟩;have Ox:=bU.off sN FO;refine OJ.done (hk _ _ _ ?_))|(refine ny (α:=Gv) (v:=λJ=>.tuple #[.agg (aY J),ab e]) (Φ:=λW J w1=>J.g=ra Z (g0 fo) c/\aM w1.heap.size w1 J/\(∀q,J.ma=some q->W.heap.size<=q.block)/\(∀q,J.na=some q->W.heap.size<=q.block)) call119 rfl rfl rfl (λW hS=>zYq) ?_;rintro W9 J wx jS uK ⟨oc,wF,sN⟩;(try dsimp only at oc wF sN);have mP:=jS.lt (b5,_) A0;(try dsimp only at mP);have rl:=(jS.links w A1).size;have Ow:=bU.off sN mP;have Lr:bU w.heap.size J:=⟨λq e=>.inr (dS rl (sN.1 q e)),λq e=>.inr (dS rl (sN.2 q e))⟩;refine OJ.done (hk _ _ _ ?_))|(have:=gK 4 hk;refine B 1 ?_;intro b8 ha ho;have lI:w2.heap.size<=b8:=(ha.mem w2 zP);refine OJ.done (hk _ _ _ ?_))))
   rintro _ _ _ ⟨J,wx,b8,rfl,rfl,rfl,oc,wF,Ow,Lr,lI,Ox⟩;refine B 4 ?_;refine tS 6 [5] [[]] (λcv L' H'=>cv=[some (.tuple #[])]/\L'=[wx,w2,w]/\H'=[(b8,oC (aY J) 86),(b5,oC (aY J) 86)]) (L0:=[w2,w]) (H0:=[(b8,oC (aY J) 86)]) (sp:=[_,some (.agg (aY J)),_,some (.bool (decide (e=0))),_,_]) (t:=?_) (k:=?_)
   ·repeat' first|exact tZ|(refine tU rfl ?_)|(refine tR rfl ?_ ?_)|(refine tN jI ?_)|(exact tE jI vA ⟨rfl,rfl,rfl⟩)|(intro _ _ hk;(first|(refine B 1 ?_;refine OJ.done (hk (.tuple #[]) _ _ ?_))))
   rintro _ _ _ ⟨rfl,rfl,rfl⟩;refine B 9 ?_;have a6:=SZ bT hc PH;rw[he]at a6;have Sm:iI cs j=c:=by unfold iI;rw[hc];rfl
   refine bH (.inl rfl) results117 aL λW hS=>⟨(j,J,decide (e=0)),rfl,hS.base A2 zJ,?_⟩;by_cases oY:e=0
   ·refine .inl ⟨decide_eq_true oY,a6.trans (if_pos oY),by rw[Sm];exact oc.trans (if_pos (by rw[he];exact oY)),wF.toO hS A0 (aC _) (λp hp=>?_),Lr⟩;exact zBk
   exact .inr ⟨decide_eq_false oY,a6.trans (if_neg oY)⟩
  intro ax;refine B 8 ?_;refine ag (j+1) ⟨by omega,bT.next hc z2⟩
 intro ai;refine aV 7 (.agg (aY ov)) ?_;refine B 6 ?_;exact bH (.inl rfl) results117 aL λW hS=>⟨(0,ov,false),rfl,hS.base A1 zJ,.inr ⟨rfl,abp bT aa⟩⟩
structure Pl where
 time:Int
 dev:Int
 fol:Int
 par:Int
 nm:ByteArray
def plA (p:Pl):Array Value:=#[ab p.time,ab p.dev,ab p.fol,ab p.par,.string p.nm]
def fu (p:Pl):List Value:=[ab p.time,ab p.dev,ab p.fol,ab p.par,.string p.nm]
theorem nq(p:Pl):(fu p).length=5:=rfl
theorem GW(p:Pl):∀u∈fu p,u.oneCell'=true:=by intro u hu;simp[fu]at hu;rcases hu with rfl|rfl|rfl|rfl|rfl<;>rfl
instance:Inhabited Pl:=⟨⟨0,0,0,0,.empty⟩⟩
theorem LZ:prog.info? 199=some Tryz.t199:=by kernel_rfl
def eL (p:Pl):Prop:=(1<=p.time/\p.time<=1099511627776)/\(0<=p.dev/\p.dev<=511)/\(0<=p.fol/\p.fol<=15)/\(-1<=p.par/\p.par<=15)/\(1<=(p.nm.size:Int)/\(p.nm.size:Int)<=64)
instance (p:Pl):Decidable (eL p):=by unfold eL;infer_instance
theorem nkn(n lo hi:Int)(w:World):Calls prog 217 #[ab n,ab lo,ab hi] w (ar w (.bool (decide (lo<=n/\n<=hi)))):=by
 refine cH 11 func217 ntmps217 ?_;refine nf (t:=10) rfl (λai=>?_) (λai=>?_)
 ·exact zuk
 exact zuk
theorem nob{n lo hi:Int}(h:lo<=n/\n<=hi)(w:World):Calls prog 217 #[ab n,ab lo,ab hi] w (ar w (aK)):=by have:=nkn n lo hi w;grind
theorem npf{n lo hi:Int}(h:¬(lo<=n/\n<=hi))(w:World):Calls prog 217 #[ab n,ab lo,ab hi] w (ar w (aO)):=by have:=nkn n lo hi w;grind
theorem nWo(p:Pl)(w:World):Calls prog 156 #[.agg (plA p)] w (ar w (ab (if eL p then 0 else 270))):=by
 refine eN func156 ntmps156 ?_;refine aU 2 ?_;intro b1 w1 aW bJ eO dC fg;refine B 10 ?_;by_cases h1:1<=p.time/\p.time<=1099511627776
 ·by_cases h2:0<=p.dev/\p.dev<=511
  ·by_cases h3:0<=p.fol/\p.fol<=15
   ·by_cases h4: -1<=p.par/\p.par<=15
    ·by_cases h5:1<=(p.nm.size:Int)/\(p.nm.size:Int)<=64
     ·refine B 4 ?_;refine zFh ?_;refine nU (v:=.bool true) (f:=217) (cap:=[]) rfl call217 rfl rfl rfl (λW hS=>nob h5 W) ?_;refine B 13 ?_;exact Wx
     refine B 4 ?_;refine zFh ?_;refine nU (v:=.bool false) (f:=217) (cap:=[]) rfl call217 rfl rfl rfl (λW hS=>npf h5 W) ?_;refine B 12 ?_;exact Wx
    refine B 4 ?_;refine zae ?_;refine B 5 ?_;refine zBe ?_;refine B 6 ?_;refine zrf ?_;refine B 6 ?_;refine nU (v:=.bool false) (f:=217) (cap:=[]) rfl call217 rfl rfl rfl (λW hS=>npf h4 W) ?_;refine B 20 ?_;exact Wx
   refine B 4 ?_;refine zae ?_;refine B 5 ?_;refine zBe ?_;refine B 6 ?_;refine nU (v:=.bool false) (f:=217) (cap:=[]) rfl call217 rfl rfl rfl (λW hS=>npf h3 W) ?_;refine B 27 ?_;exact Wx
  refine B 4 ?_;refine zae ?_;refine B 5 ?_;refine nU (v:=.bool false) (f:=217) (cap:=[]) rfl call217 rfl rfl rfl (λW hS=>npf h2 W) ?_;refine B 34 ?_;exact Wx
 refine B 4 ?_;refine nU (v:=.bool false) (f:=217) (cap:=[]) rfl call217 rfl rfl rfl (λW hS=>npf h1 W) ?_;refine B 40 ?_;exact Wx
theorem S0(p:Pl)(w:World):Calls prog 155 #[.agg (plA p)] w (ar w (.bool (!decide (eL p)))):=by
 refine eN func155 ntmps155 ?_;refine aU 2 ?_;intro b1 w1 aW bJ eO dC fg;refine B 6 ?_;refine cl call156 rfl (λW hS=>nWo p W) ?_;refine B 5 ?_;refine ao results155 rfl A1 ?_;exact vb (by by_cases h:eL p<;>simp[h])
theorem nQh(p:Pl->Bool)(f:Nat)(cap:List Value)(aF:fh prog f)(xs:List Pl)(de:xs.length<=1000000)(N:Nat)(a:Option Addr)(cp:Nat)(w:World)(hN:N<=w.heap.size)(aA:aj plA 5 N w a xs)(hp:∀(j:Nat) (x:Pl),xs[j]? =some x->∀W,Below w.heap.size w W->Calls prog f (.agg (plA x)::cap).toArray W (ar W (.bool (p x)))):Calls prog 216 #[.slice a xs.length cp,.func (.func f) #[] cap.toArray] w (db w (λi:Int=>ab i) (λi _=>eE p xs i)):=by
 refine eN func216 ntmps216 ?_;refine Vv ?_;rintro j ⟨hj,bT⟩;refine av 6 ?_ ?_
 ·intro ai;refine B 11 ?_;obtain⟨bo,oo,cs0,to,dR,rfl,dW,hcs,ay⟩:=aA.get aa;obtain⟨x,hx⟩:=ng xs j aa;refine aV 5 (.agg (plA x)) ?_;refine Vw ?_;refine pd ?_ ?_
  ·intro ax;refine B 12 ?_;refine pe (j:Int) results216 rfl A0 rfl ?_;exact Vx
  exact Rb
 intro ai;refine B 11 ?_;refine pe (-1:Int) results216 rfl A0 rfl ?_;exact Rc
theorem nGm(p:Pl->Bool)(f:Nat)(cap:List Value)(aF:fh prog f)(xs:List Pl)(de:xs.length<=100000)(b cp:Nat)(sp:List Value)(w:World)(hb:w.heap[b]? =some (cT fu 199 xs sp))(cQ:(Rw.row b cp sp).Fit 5 xs)(hp:∀(j:Nat) (x:Pl),xs[j]? =some x->∀W,aQ (· =b) w W->b<W.heap.size->Calls prog f (.agg (plA x)::cap).toArray W (ar W (.bool (p x)))):Calls prog 153 #[.slice (aH b) xs.length cp,.func (.func f) #[] cap.toArray] w (λe w'=>∃cq,e= .returned ((λr=>r.val (xs.filter (λx=> !p x)).length) (Rw.row b cp cq))/\aQ (· =b) w w'/\(Rw.row b cp cq).Fit 5 (xs.filter (λx=> !p x))/\w'.heap[b]? =some (cT fu 199 (xs.filter (λx=> !p x)) cq)):=by
 have kK:=cQ.1;have dE:=cQ.2;have kx:=(bO.1 hb).1;refine nP (Gh.lent (· =b)) [(b,cT fu 199 xs sp)] (vs:=[_,_]) func153 rfl ntmps153 rfl (Dm hb) ?_;refine B 9 ?_;refine ny (α:=Int) (v:=λi:Int=>ab i) (Φ:=λ_ i _=>eE p xs i) call216 rfl rfl rfl (λW hS=>?_) ?_
 ·have CG:=hS.own (b,_) A0;have oP:aj plA 5 W.heap.size W (aH b) xs:=by
   obtain⟨a9,c9,e9,h9⟩:=(Rw.row b cp sp).sl (enc:=fu) (t:=199) (N:=W.heap.size) (w:=W) nq cQ CG (aC _);exact zgk
  exact nQh p f cap aF xs aa W.heap.size (aH b) cp W (aC _) oP (λj x hx W2 hB=>hp j x hx W2 (nso ((hS.links w A0).mono (λk _ hk=>zYK)) hB) z9c)
 intro Wi i wi yw yx hi;have bg:=yw.lt (b,_) A0;have a6:=yx.size;refine B 5 ?_;rcases hi with⟨rfl,kM⟩|⟨k,x0,rfl,mI,E5,iL⟩
 ·refine B 2 ?_;refine Cl ?_;exact bH (.inl rfl) results153 aL λW hS=>⟨sp,by rw[KY kM];rfl,hS.baseX A1 IF,by rw[KY kM];exact cQ,zYBR⟩
 refine B 2 ?_;refine xf ?_;have lf:=aG mI;refine B 7 ?_;refine CJ.loop (α:=(Nat×List Pl)×Nat) (λJ=>[(0,.slice (aH b) xs.length cp),(1,.func (.func f) #[] cap.toArray),(5,ab (J.1.1:Int)),(6,ab (J.2:Int))]) (λJ=>[(b,cT fu 199 J.1.2 sp)]) (λJ=>[w]) (λJ=>Gh.lent (· =b)) (λJ=>J.1.1<J.2/\J.2<=xs.length/\J.1.2.length=xs.length/\J.1.2.take J.1.1=(xs.take J.2).filter (λx=> !p x)/\J.1.2.drop J.2=xs.drop J.2) (λJ=>xs.length-J.2) ((k,xs),k+1) ⟨by dsimp only;omega,by dsimp only;omega,rfl,zYy,rfl⟩ zR rfl rfl zP ?_;rintro⟨⟨i2,cur⟩,j⟩ ⟨vt,uF,qx,IM,Oi⟩;dsimp only at vt uF qx IM Oi ⊢;refine av 9 ?_ ?_
 ·intro ai;refine B 5 ?_;obtain⟨x,hx⟩:=ng xs j aa;obtain⟨p8,KZ⟩:=n2i Oi hx;refine B 4 ?_;refine rq (.agg (plA x)) (eh (i:=0) rfl isAgg199 sizeOf199 rfl (CF nq aa)) (va (CE (sp:=sp) nq p8)) ?_;refine bD 1 ?_;intro b7 ie lu;refine B 7 ?_;refine zNd ?_;refine av 3 ?_ ?_
  ·intro ax;refine B 6 ?_;refine E6 (enc:=fu) (m:=5) (i:=1) (j:=i2) (z:=x) rfl nq GW sizeOf199 rfl rfl rfl zP aa rfl rfl ?_;exact z6i
  exact zpj
 intro ai;refine B 6 ?_;have ZU:j=xs.length:=by omega
 have BN:cur.take i2=(xs.filter (λx=> !p x)):=by rw[IM,ZU,Ko]
 refine B 3 ?_;refine rq (.slice (some ⟨b,if cp=i2 then 0 else 0+i2*5,none⟩) (cur.drop i2).length (cp-i2)) (hQ (l:=i2) (h:=xs.length) underlying32 sizeOf199 rfl ⟨_,_,rfl,rfl⟩ rfl aa aa rfl) (by rw[yp,qx]) ?_;refine OJ.reH (H':=[(b,cT fu 199 (cur.take i2++cur.drop i2) sp)]) (by rw[J2]) ?_;refine E7 (i:=0) rfl nq underlying32 zeroValue199 rfl (nEh rfl _) rfl rfl zSb ?_;intro RF E8;refine B 6 ?_;refine rq (.slice (aH b) (cur.take i2).length cp) (gZ (h:=i2) underlying32 sizeOf199 rfl ⟨_,_,rfl,rfl⟩ aa) ZV ?_;refine B 4 ?_;exact bH (.inl rfl) results153 aL λW hS=>⟨RF,by rw[<-BN];rfl,hS.baseX A0 IF,zYT,zYBV⟩
theorem S1:mD prog 32 199 5:=⟨underlying32,Tryz.t199,.agg #[ab 0,ab 0,ab 0,ab 0,.string .empty],LZ,rfl,rfl,rfl,by decide⟩
theorem nPn(n c:Nat)(w:World):Calls prog 154 #[.slice none n c] w (nv w fu 5 199 ([]:List Pl) id):=by
 refine cH 9 func154 ntmps154 ?_;refine rr aK (uS underlying32 rfl rfl) ?_;refine B 10 ?_;exact nB (H0:=[]) (H1:=[]) (r:=.nil) (.inl rfl) results154 aL A0 trivial rfl rfl True.intro rfl
theorem nKm(xs:List Pl)(de:xs.length<=100000)(N:Nat)(q:Addr)(cp:Nat)(w:World)(hN:N<=w.heap.size)(aA:aj plA 5 N w (some q) xs):Calls prog 154 #[.slice (some q) xs.length cp] w (nv w fu 5 199 xs id):=by
 refine cH 9 func154 ntmps154 ?_;refine rr aO (yA underlying32 rfl rfl) ?_;refine B 7 ?_;refine OR ?_;refine yW ?_;intro b5 fK gf;refine B 1 ?_;refine apR (xs:=([]:List Pl)) (zs:=xs) (enc:=fu) (m:=5) (H0:=[]) (H1:=[]) (sp:=[]) pP S1 nq rfl rfl rfl rfl (bN.sl nq GW underlying32 A0 aA (λb hb=>⟨λh=>h,zYn⟩)) ⟨aC _,rfl⟩ (.inr zI) mZ ?_;intro b7 QY ZS tu J;have EZ:w.heap.size<=b7:=by rcases tu with h|h;(omega);exact h.not A0
 rw[fP]at J ⊢;refine B 4 ?_;exact nB (H0:=[]) (H1:=[]) (r:=.row b7 QY ZS) (.inl rfl) results154 aL A0 (zYBD) rfl J EZ pP
theorem GX(xs:List Pl)(de:xs.length<=100000)(N:Nat)(a:Option Addr)(cp:Nat)(w:World)(hN:N<=w.heap.size)(aA:aj plA 5 N w a xs):Calls prog 154 #[.slice a xs.length cp] w (nv w fu 5 199 xs id):=by
 cases a with
 |none=>
  have h0:xs=[]:=by rcases aA with h|⟨b,off,cs,t,fr,h,_⟩;(exact h);cases h
  grind [nPn]
 |some q=>grind [nKm]
def I0 (l:List Int):Int:=(l.find? (λx=>decide (x≠0))).getD 0
theorem S2{l:List Int}{x:Int}(h:∀i y,i<j->l[i]? =some y->y=0)(hx:l[j]? =some x)(hn:¬x=0):x=I0 l:=by
 grind [I0,List.find?_eq_some_iff_getElem]
theorem npq{l:List Int}(h:∀i y,i<j->l[i]? =some y->y=0)(hj:l.length<=j):0=I0 l:=by
 unfold I0;rw[show l.find? (λx=>decide (x≠0))=none by
  rw[List.find?_eq_none];intro x hx;obtain⟨i,hi,rfl⟩:=List.mem_iff_getElem.1 hx;have:=h i l[i] aa (kC hi);simp[this]]
 rfl
def S3 (x y:Pl):List Int:=[cj x.time y.time,cj x.dev y.dev,cj x.fol y.fol,cj x.par y.par,Go.Lib.compareBytes x.nm.data.toList y.nm.data.toList]
def plC (x y:Pl):Int:=I0 (S3 x y)
theorem L3(a b:ByteArray)(w:World):Calls prog 221 #[.string a,.string b] w (ar w (ab (Go.Lib.compareBytes a.data.toList b.data.toList))):=by
 refine(Go.Proofs.Any.strings_Compare Go.Proofs.Tryz.layStr a b w).mono ?_;rintro e w' ⟨rfl,rfl⟩;exact⟨rfl,Below.refl _ _⟩
theorem S4(zs:List Int)(hz:zs.length<=100)(N:Nat)(a:Option Addr)(cp:Nat)(w:World)(hN:N<=w.heap.size)(aA:aj encI 1 N w a zs):Calls prog 219 #[.slice a zs.length cp] w (ar w (ab (I0 zs))):=by
 refine cH 19 func219 ntmps219 ?_;refine CJ.lp (α:=Nat) [3,6,7] (λj=>[(8,ab (j:Int))]) (λj=>[]) (λj=>j<=zs.length/\∀i y,i<j->zs[i]? =some y->y=0) (λj=>zs.length-j) 0 ⟨cd _,λi y hi=>absurd hi aa⟩ ?_;rintro j ⟨hj,bT⟩;refine av 6 ?_ ?_
 ·intro ai;refine B 5 ?_;obtain⟨bo,oo,cs0,to,dR,rfl,dW,hcs,ay⟩:=aA.get aa;obtain⟨x,hx⟩:=ng zs j aa;refine B 2 ?_;refine rx (ad (v:=ab x) isAgg3 rfl A0 hcs zL trivial (nI ay hx rfl zF)) ?_;refine av 10 ?_ ?_
  ·intro ax;exact znk
  intro ax;refine B 7 ?_;refine ag (j+1) ⟨by omega,λi y hi hy=>by by_cases e:i=j;(rw[e,hx]at hy;cases hy;omega);exact bT i y aa hy⟩
 intro ai;exact znk
abbrev jL:=List (Int×Pl)
def qB (p:Pl):Value:=.agg (plA p)
def S5:Pl:=⟨0,0,0,0,.empty⟩
def gH (kv:jL):Prop:=∃r:Int->Nat,∀k p,al kv k=some p->0<=p.par->r p.par<r k
def I2:Nat->jL->Int->List Int
 |0,_,_=>[]
 |n+1,kv,f=>match al kv f with
  |some p=>if 0<=p.par then p.par::I2 n kv p.par else[]
  |none=>[]
def cA (kv:jL) (f:Int):List Int:=I2 (kv.length+1) kv f
theorem nXf{kv:jL}{p:Pl}(h:al kv k=some p):(k,p)∈kv:=by
 obtain⟨q,hq,rfl⟩:=R5.1 h;exact cF (nGe hq)
theorem nIp{kv:jL}{r:Int->Nat}(hr:∀k p,al kv k=some p->0<=p.par->r p.par<r k):∀n f,(I2 n kv f).length<=kv.countP (λq=>decide (r q.1<=r f))
 |0,f=>cd _
 |n+1,f=>by
  unfold I2;cases h:al kv f with
  |none=>simp
  |some p=>
   dsimp only;split
   ·have ih:=nIp hr n p.par;have hm:=nXf h;have:kv.countP (λq=>decide (r q.1<=r p.par))<kv.countP (λq=>decide (r q.1<=r f)):=by
     have gen:∀l:jL,(f,p)∈l->l.countP (λq=>decide (r q.1<=r p.par))<l.countP (λq=>decide (r q.1<=r f)):=by
      intro l;induction l with
      |nil=>simp
      |cons q l ih=>
       have J:l.countP (λq=>decide (r q.1<=r p.par))<=l.countP (λq=>decide (r q.1<=r f)):=List.countP_mono_left λq _ h=>by grind
       grind
     exact gen kv hm
    grind
   simp
theorem nGp{kv:jL}:∀n f,(I2 n kv f).length<n->I2 (n+1) kv f=I2 n kv f
 |0,f,h=>absurd h aa
 |n+1,f,h=>by
  rw[I2]at h ⊢;conv=>rhs;rw[I2]
  cases e:al kv f with
  |none=>rfl
  |some p=>
   rw[e]at h;dsimp only at h ⊢;split
   ·rw[nGp n p.par cM]
   rfl
section
variable {kv:jL}(h:gH kv)
include h
theorem yS(f:Int):(cA kv f).length<=kv.length:=by
 obtain⟨r,hr⟩:=h;exact dS (nIp hr _ f) List.countP_le_length
theorem L4(f:Int):cA kv f=match al kv f with|some p=>if 0<=p.par then p.par::cA kv p.par else[]|none=>[]:=by
 grind [yS,I2,cA,nGp]
theorem L5{f:Int}{p:Pl}(hp:al kv f=some p)(h0:0<=p.par):cA kv f=p.par::cA kv p.par:=by grind [L4]
theorem nvp{f:Int}{p:Pl}(hp:al kv f=some p)(h0:¬0<=p.par):cA kv f=[]:=by grind [L4]
theorem nyn{f:Int}(hp:al kv f=none):cA kv f=[]:=by rw[L4 h f,hp]
theorem gH.rank:∀k p,al kv k=some p->0<=p.par->(cA kv p.par).length<(cA kv k).length:=by
 grind [L5]
end
def eb (kv:jL) (f o:Int):Bool:=(cA kv f).any (λx=>decide (x=o))||decide (f=o)
theorem nRh(mp:Option Nat)(f:Int)(w:World):Calls prog 113 #[.map mp,ab f] w (db w (λq:Nat×Nat=>.func (.func 161) #[] #[ptr q.1 0,ptr q.2 0]) (λq w1=>w.heap.size<=q.1/\w.heap.size<=q.2/\q.1≠q.2/\w1.heap[q.1]? =some (oC #[.map mp] 184)/\w1.heap[q.2]? =some (oC #[ab f] 3))):=by
 refine eN func113 ntmps113 ?_;refine aU 2 ?_;intro b2 w2 bV bj dz cL cR;refine yX ?_;intro b3 w3 bQ aZ J cP dt;refine B 10 ?_;refine pe (b2,b3) results113 rfl A2 rfl ?_;exact λW hS=>⟨cL.1,by omega,by omega,hS.old A1 bV bj trivial,hS.old A0 bQ aZ trivial⟩
end Px
