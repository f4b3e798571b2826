/- Contracts of functions of the program. No conditions. -/
import Derived.Test.YtodpaegknpbomaaGreatDoorKe
import Derived.Test.YtodpaegknpbomaaGreatDoorProg
set_option linter.unusedSimpArgs false
set_option linter.unusedVariables false
set_option linter.unusedSectionVars false
set_option maxRecDepth 20000
set_option maxHeartbeats 8000000
namespace Px
open Go Go.RowKit Go.Proofs Go.Proofs.Tryz
variable {c:Cm} {Z:Fx} {kv:List (Int×Int)} {cs:List Cm} {gs:List Gv} {ns:List Nd} {pls:List Pl} {kn:List Se} {m:Nat} {f:Nat->Int} {p:Pl} {s:Se}
theorem nTl(hZ:FxOk Z)(cs:List Cm)(bW:cs.length<=1000)(dE:∀c∈cs,bN c)(N:Nat)(la:Option Addr)(lc:Nat)(w:World)(hN:N<=w.heap.size)(aH:ai cM 73 N w la cs)(hC:∀c∈cs,dB N w c)(fo:Fo)(hg:Glb w):Calls prog 33 #[.agg (qR fo),.slice la cs.length lc] w (cZ w (λq:(((Option Addr×Nat)×(Option Addr×Nat))×List Cd)×ad=>.tuple #[.slice q.1.1.1.1 q.1.2.length q.1.1.1.2,.slice q.1.1.2.1 q.1.2.length q.1.1.2.2]) (λq w1=>AlV Z cs fo q.2 q.1.2/\iK (λx=>(az x).toArray) 1 q.2 q.1.1.1.1 (q.1.2.map λd=>d.at_)/\iK (λx=>(lL x).toArray) 36 q.2 q.1.1.2.1 (q.1.2.map λd=>d.x)/\∀p∈q.2,w.heap.size<=p.1/\w1.heap[p.1]? =some p.2)):=
 (n5h hZ cs bW dE N la lc w hN aH hC fo hg).mono (by
  rintro e w' ⟨q,F',he,hb,hF,h1,h2,h3⟩;exact⟨(q,F'),he,hb,h1,h2,h3,hF⟩)
theorem aD.fz{α:Type}{enc:α->List Value}{t:Nat}{xs:List α}{v:Value->Value}{w w':World}{e:Ending}(hm:∀x,(enc x).length=m)(h:aD w enc m t xs v e w'):∃(x:Option Addr×Nat) (F':ad),e= .returned (v (.slice x.1 xs.length x.2))/\Below w.heap.size w w'/\(∀p∈F',w.heap.size<=p.1/\w'.heap[p.1]? =some p.2)/\iK (λx=>(enc x).toArray) m F' x.1 xs:=by
 obtain⟨r,rfl,hb,jI,bP,fJ⟩:=h;obtain⟨a,cp,he,aH⟩:=r.sl hm bP fJ (aj _);obtain⟨F,h1,h2⟩:=aH.fs (K:=w.heap.size) (λb qQ=>by
  cases r with
  |nil=>simp only[Rw.val,Value.slice.injEq]at he;rw[<-he.1]at qQ;cases qQ
  |row b' cap sp=>simp only[Rw.val,Value.slice.injEq]at he;rw[<-he.1]at qQ;cases qQ;exact jI)
 exact⟨(a,cp),F,by rw[he],hb,h1,h2⟩
def vV (gs:List Gv) (k:Nat) (c:Cm) (m:Nat):Gv:=if 0<k then((gs.drop m).find? λx=>iA x.g.last c.par).getD gf else gf
theorem Nn{k:Nat}(h:gs.length<=m):vV gs k c m=gf:=by
 unfold vV;rw[List.drop_eq_nil_of_le h];split<;>rfl
theorem n2m{x:Gv}(hx:gs[m]? =some x):gs.drop m=x::gs.drop (m+1):=by
 obtain⟨h,e⟩:=gW.1 hx;rw[aNq h,e]
theorem Np{k:Nat}{x:Gv}(hx:gs[m]? =some x)(hk:0<k)(h:iA x.g.last c.par=true):vV gs k c m=x:=by
 unfold vV;rw[if_pos hk,n2m hx];simp[List.find?_cons,h]
theorem Uv{k:Nat}{x:Gv}(hx:gs[m]? =some x)(h:iA x.g.last c.par=false):vV gs k c m=vV gs k c (m+1):=by
 unfold vV;rw[n2m hx];simp[List.find?_cons,h]
theorem Nq{k:Nat}(h:¬(0<m/\0<k)):qS (gs.map (·.g)) k c=(vV gs k c m).g.ns:=by
 unfold qS vV;by_cases hk:0<k
 ·obtain rfl:m=0:=by omega
  rw[if_pos hk,if_pos hk,nyg,Pu];cases gs.find? λx=>iA x.g.last c.par<;>rfl
 rw[if_neg hk,if_neg hk];rfl
theorem ab3(F:ad):qo F gf:=⟨.inl rfl,.inl rfl,by simp[gf,uG],by simp[gf,uG]⟩
theorem ab4{F:ad}{k:Nat}(h:∀x∈gs,qo F x):qo F (vV gs k c m):=by
 unfold vV;split
 ·cases e:(gs.drop m).find? λx=>iA x.g.last c.par with
  |none=>exact ab3 F
  |some x=>exact h x (List.mem_of_mem_drop (WU e))
 exact ab3 F
def Bv (ns:List Nd) (l:List Ch):Prop:=∀(j:Nat) (x:Ch),l[j]? =some x->(if x.kind=2 then pI (aN ns (l.take j)) x.dev else pJ (aN ns (l.take j)) x.dev x.pub)=0
theorem nzo{zs:Array Int}:∀{m:Nat},m<=zs.size->∀(j:Nat),j<m->zs[j]! ∈Go.Lib.compactUpTo zs m
 |0,_,j,h=>by omega
 |m+1,hm,j,h=>by
  rw[Go.Lib.compactUpTo_succ,aY];have ih:=nzo (zs:=zs) (m:=m) aa;rcases Nat.lt_or_ge j m with h1|h1
  ·exact .inl (ih j h1)
  obtain rfl:j=m:=by omega
  cases hk:Go.Lib.keeps zs j with
  |true=>exact .inr zJ
  |false=>
   refine .inl ?_;have h2:j≠0/\zs[j]! =zs[j-1]!:=by
    simp only[Go.Lib.keeps,Bool.or_eq_false_iff,decide_eq_false_iff_not]at hk
    grind
   rw[h2.2];exact ih (j-1) aa
theorem nQo{zs:List Int}{x:Int}(h:x∈zs):x∈Go.Lib.compact zs:=by
 obtain⟨j,hj⟩:=jG.1 h;have hl:=nq hj;have:=nzo (zs:=zs.toArray) (m:=zs.length) (aj _) j hl;have e:zs.toArray[j]! =x:=by
  rw[getElem!_pos zs.toArray j K7];simpa using(gW.1 hj).2
 rw[e]at this;exact this
theorem nzi{d:Int}:d∈ei ns↔dd d/\∃n∈ns,n.at_=512+d:=by
 have e:d∈ei ns↔d∈mQ ns:=⟨λh=>(List.mergeSort_perm (mQ ns) _).mem_iff.1 (n7h h),λh=>nQo ((List.mergeSort_perm (mQ ns) _).mem_iff.2 h)⟩;rw[e];unfold mQ dd;simp only[bT,uK,decide_eq_true_eq]
 grind
theorem nmi{k:Int}:(aF (di ns) k).isSome=true↔∃n∈ns,n.at_=k:=by
 have key:∀j,(aF (di (ns.take j)) k).isSome=true↔∃n∈ns.take j,n.at_=k:=by
  intro j;induction j with
  |zero=>simp[di,aF,eT]
  |succ j ih=>
   cases hx:ns[j]? with
   |none=>rw[show ns.take (j+1)=ns.take j by rw[iz (by grind),iz (by grind)]];exact ih
   |some x=>
    rw[nBg hx,np hx];unfold Db;split
    ·rename_i h;rw[ih];constructor
     ·rintro⟨n,h1,h2⟩;exact⟨n,uc _ h1,h2⟩
     rintro⟨n,h1,h2⟩;rcases aY.1 h1 with h1|h1
     ·exact⟨n,h1,h2⟩
     rw[gh.1 h1]at h2;rw[h2]at h;exact ih.1 h
    rw[PE];split
    ·rename_i h;exact⟨λ_=>⟨x,by simp,h.symm⟩,λ_=>rfl⟩
    rename_i h;rw[ih];constructor
    ·rintro⟨n,h1,h2⟩;exact⟨n,uc _ h1,h2⟩
    rintro⟨n,h1,h2⟩;rcases aY.1 h1 with h1|h1
    ·exact⟨n,h1,h2⟩
    rw[gh.1 h1]at h2;exact absurd h2.symm h
 have:=key ns.length;rwa[uw]at this
theorem nxm{k p:Int}(h:aF (di ns) k=some p):∃n∈ns,n.at_=k/\n.pub=p:=by
 have key:∀j p,aF (di (ns.take j)) k=some p->∃n∈ns.take j,n.at_=k/\n.pub=p:=by
  intro j;induction j with
  |zero=>intro p h;simp[di,aF,eT]at h
  |succ j ih=>
   intro p h;cases hx:ns[j]? with
   |none=>rw[show ns.take (j+1)=ns.take j by rw[iz (by grind),iz (by grind)]]at h ⊢;exact ih p h
   |some x=>
    rw[nBg hx]at h;rw[np hx];unfold Db at h;split at h
    ·obtain⟨n,h1,h2⟩:=ih p h;exact⟨n,uc _ h1,h2⟩
    rw[PE]at h;split at h
    ·rename_i e;exact⟨x,by simp,e.symm,Option.some.inj h⟩
    obtain⟨n,h1,h2⟩:=ih p h;exact⟨n,uc _ h1,h2⟩
 exact(λ⟨n,h1,h2⟩=>⟨n,List.mem_of_mem_take h1,h2⟩) (key ns.length p (by rwa[uw]))
def ab5 (kv:List (Int×Int)):Prop:=∀k p,aF kv k=some p->1<=k/\k<=1023/\eg p/\∃d,dd d/\(aF kv (512+d)).isSome=true/\(k=512+d\/k∈dt d)
theorem Nr(n:Int):∀(l:List Int) (kv:List (Int×Bool)),aF (l.foldl Dd kv) n=some true↔n∈l\/aF kv n=some true:=by
 intro l;induction l with
 |nil=>intro kv;simp
 |cons a l ih=>intro kv;rw[List.foldl_cons,ih];unfold Dd;rw[PE];grind
theorem Ii(n:Int):∀(ds:List Int) (kv:List (Int×Bool)),aF (ds.foldl Re kv) n=some true↔(∃d∈ds,n=512+d\/n∈dt d)\/aF kv n=some true:=by
 intro ds;induction ds with
 |nil=>intro kv;simp
 |cons a l ih=>
  intro kv;rw[List.foldl_cons,ih];unfold Re;rw[Nr,PE]
  grind
theorem Uw(h:vc ns):ab5 (di ns):=by
 intro k p hk;obtain⟨n,hn,rfl,rfl⟩:=nxm hk;obtain⟨i,hi⟩:=jG.1 hn;obtain⟨h1,h2,_,h4,h5⟩:=h i n hi;refine⟨h1,h2,h4,?_⟩;unfold wT at h5;rw[Ii]at h5;rcases h5 with⟨d,hd,h5⟩|h5
 ·obtain⟨h6,h7⟩:=nzi.1 hd;exact⟨d,h6,nmi.2 h7,h5⟩
 simp[aF,eT]at h5
theorem nGk{k:Int}:(aF kv k).isSome=true↔k∈kv.map (·.1):=by
 rw[<-Option.ne_none_iff_isSome,Ne,nie,Classical.not_not]
theorem ngi{n:Nd}(h:n∈nU kv):aF kv n.at_=some n.pub:=by
 obtain⟨k,hk,rfl⟩:=bT.1 h;have:=nGk.2 ((List.mergeSort_perm _ _).mem_iff.1 hk);cases e:aF kv k with
 |none=>rw[e]at this;cases this
 |some p=>simp only[e];rfl
theorem nXl{k p:Int}(h:aF kv k=some p):(⟨k,p⟩:Nd)∈nU kv:=by
 refine bT.2 ⟨k,(List.mergeSort_perm _ _).mem_iff.2 (nGk.1 (by rw[h];rfl)),by rw[h];rfl⟩
theorem nip(k:Int):aF (di (nU kv)) k=aF kv k:=by
 cases e:aF kv k with
 |none=>
  cases e2:aF (di (nU kv)) k with
  |none=>rfl
  |some p=>obtain⟨n,hn,h1,h2⟩:=nxm e2;have:=ngi hn;rw[h1,e]at this;cases this
 |some p=>
  have h1:=nmi.2 ⟨_,nXl e,rfl⟩;cases e2:aF (di (nU kv)) k with
  |none=>rw[e2]at h1;cases h1
  |some q=>obtain⟨n,hn,h2,h3⟩:=nxm e2;have:=ngi hn;rw[h2,h3,e]at this;exact this.symm
theorem Ij(hn:(kv.map (·.1)).Nodup)(h:ab5 kv):vc (nU kv):=by
 intro i x hx;have hm:=cA hx;obtain⟨h1,h2,h3,d,h4,h5,h6⟩:=h _ _ (ngi hm);refine⟨h1,h2,λy hi hy=>?_,h3,?_⟩
 ·have hs:(eY (kv.map (·.1))).Pairwise (λa b=>decide (a<=b)=true):=List.pairwise_mergeSort mV mV _;have hd:(eY (kv.map (·.1))).Nodup:=(List.mergeSort_perm _ _).nodup_iff.2 hn;unfold nU at hx hy;rw[mY,wv]at hx hy;obtain⟨a,ha,rfl⟩:=hx;obtain⟨b,hb,rfl⟩:=hy;obtain⟨la,ea⟩:=gW.1 ha;obtain⟨lb,eb⟩:=gW.1 hb;have h7:=List.pairwise_iff_getElem.1 hs (i-1) i lb la aa;have h8:=List.pairwise_iff_getElem.1 hd (i-1) i lb la aa;rw[ea,eb]at h7 h8;simp only[decide_eq_true_eq]at h7;show b<a;omega
 unfold wT;rw[Ii];refine .inl ⟨d,nzi.2 ⟨h4,?_⟩,h6⟩;cases e:aF kv (512+d)with
 |none=>rw[e]at h5;cases h5
 |some p=>exact⟨_,nXl e,rfl⟩
theorem nro(h:(kv.map (·.1)).Nodup)(k:Int):((ik kv k).map (·.1)).Nodup:=by
 unfold ik;split
 ·exact h.sublist ((List.eraseIdx_sublist _ _).map _)
 exact h
theorem Ik(k:Int):∀(l:List Int) (kv:List (Int×Int)),(kv.map (·.1)).Nodup->((l.foldl iq kv).map (·.1)).Nodup/\aF (l.foldl iq kv) k=if k∈l then none else aF kv k:=by
 intro l;induction l with
 |nil=>intro kv h;exact⟨h,by simp⟩
 |cons a l ih=>
  intro kv h;have h1:=ih (iq kv a) (nro h a);refine⟨h1.1,?_⟩;rw[List.foldl_cons,h1.2];unfold iq;rw[nUm h]
  grind
theorem nVf(h:(kv.map (·.1)).Nodup)(d k:Int):((mS kv d).map (·.1)).Nodup/\aF (mS kv d) k=if k=512+d\/k∈dt d then none else aF kv k:=by
 have h1:=Ik k (dt d) (iq kv (512+d)) (nro h _);refine⟨h1.1,?_⟩;unfold mS;rw[h1.2];unfold iq;rw[nUm h]
 grind
theorem Ns{d x:Int}(hd:dd d)(h:x∈dt d):x<512:=by
 unfold dt at h;obtain⟨n,hn,rfl⟩:=bT.1 h;have:=neo n hn;unfold dd at hd;unfold tC;omega
theorem PT(h:vc ns){d:Int}(hd:dd d)(hn:(kv.map (·.1)).Nodup)(hk:∀k,aF kv k=if k=512+d then aF kv k else if k∈dt d then none else aF (di ns) k)(hg:∀p,aF kv (512+d)=some p->eg p):vc (nU kv)/\∀d',dd d'->d'≠d->aF (di (nU kv)) (512+d')=aF (di ns) (512+d'):=by
 have hk2:∀d',dd d'->d'≠d->aF kv (512+d')=aF (di ns) (512+d'):=λd' h1 h2=>by
  rw[hk,if_neg aa,if_neg (λh3=>by have:=Ns hd h3;unfold dd at h1;omega)]
 refine⟨Ij hn λk p e=>?_,λd' h1 h2=>by rw[nip];exact hk2 d' h1 h2⟩;by_cases h1:k=512+d
 ·subst h1;unfold dd at hd;exact⟨by omega,by omega,hg p e,d,hd,by rw[e];rfl,.inl rfl⟩
 have e2:=e;rw[hk,if_neg h1]at e2;split at e2
 ·cases e2
 rename_i h3;obtain⟨f1,f2,f3,d',f4,f5,f6⟩:=Uw h k p e2;have h4:d'≠d:=λh=>by subst h;exact f6.elim h1 h3
 exact⟨f1,f2,f3,d',f4,by rw[hk2 d' f4 h4];exact f5,f6⟩
theorem nFl(h:jF ns=0){x:Ch}(hd:dd x.dev)(hg:¬x.kind=2->eg x.pub)(hr:x.kind=2->(aF (di ns) (512+x.dev)).isSome=true):(if x.kind=2 then pI ns x.dev else pJ ns x.dev x.pub)=0/\jF (tI ns x)=0/\∀d',dd d'->d'≠x.dev->aF (di (tI ns x)) (512+d')=aF (di ns) (512+d'):=by
 have ht:=nGh.1 h;unfold tI;by_cases hk:x.kind=2
 ·rw[if_pos hk,if_pos hk];refine⟨by unfold pI;rw[if_pos h,if_pos (hr hk)],?_⟩;unfold lV;rw[if_pos ⟨h,hr hk⟩,nGh];refine PT ht hd (nVf (Yx ns) _ 0).1 (λk=>?_) (λp e=>?_)
  ·have:=(nVf (Yx ns) x.dev k).2;grind
  rw[(nVf (Yx ns) x.dev _).2,if_pos (.inl rfl)]at e;cases e
 rw[if_neg hk,if_neg hk];refine⟨by unfold pJ;rw[if_pos h,if_pos (hg hk)],?_⟩;unfold ll;rw[if_pos ⟨h,hg hk⟩,nGh];refine PT ht hd (nte (nVf (Yx ns) _ 0).1) (λk=>?_) (λp e=>?_)
 ·have:=(nVf (Yx ns) x.dev k).2;rw[PE];grind
 rw[PE,if_pos rfl]at e;cases e;exact hg hk
theorem Il{x:Ch}(h:Y5 x)(hk:¬x.kind=2):eg x.pub:=by
 rcases h.1 with h|h|h
 ·exact h.2.1.1
 ·exact absurd h.1 hk
 exact h.2.1.1
theorem Nt{l:List Ch}:∀(j:Nat) (x:Ch),x∈l.take j->aF (OR (l.take j)) x.dev=some true:=by
 intro j;induction j with
 |zero=>intro x h;simp at h
 |succ j ih=>
  intro x h;cases hx:l[j]? with
  |none=>rw[show l.take (j+1)=l.take j by rw[iz (by grind),iz (by grind)]]at h ⊢;exact ih x h
  |some y=>
   rw[nxg hx,PE];rw[np hx]at h;rcases aY.1 h with h|h
   ·rw[ih x h];split<;>rfl
   rw[gh.1 h,if_pos rfl]
theorem Nu{l:List Ch}(hf:K8 l){i j:Nat}{x y:Ch}(hx:l[j]? =some x)(hy:l[i]? =some y)(hi:j<i):y.dev≠x.dev:=by
 intro e;have h1:=(hf.1 i y (nq hy) hy).2;have h2:=Nt i x (jG.2 ⟨j,by rw[List.getElem?_take,if_pos hi];exact hx⟩);rw[e,h2]at h1;cases h1
theorem Nv{l:List Ch}(h:jF ns=0)(hf:K8 l)(hr:∀x∈l,x.kind=2->(aF (di ns) (512+x.dev)).isSome=true):Bv ns l:=by
 have key:∀j,jF (aN ns (l.take j))=0/\∀(i:Nat) (x:Ch),j<=i->l[i]? =some x->aF (di (aN ns (l.take j))) (512+x.dev)=aF (di ns) (512+x.dev):=by
  intro j;induction j with
  |zero=>exact⟨h,λ_ _ _ _=>rfl⟩
  |succ j ih=>
   cases hx:l[j]? with
   |none=>rw[show l.take (j+1)=l.take j by rw[iz (by grind),iz (by grind)]];exact⟨ih.1,λi x hi hx=>ih.2 i x aa hx⟩
   |some x=>
    have hc:=hf.1 j x (nq hx) hx;have hs:=nFl ih.1 (x:=x) hc.1.2 (λhk=>Il hc.1 hk) (λhk=>by rw[ih.2 j x (aj _) hx];exact hr x (cA hx) hk);rw[nch hx];refine⟨hs.2.1,λi y hi hy=>?_⟩;rw[hs.2.2 y.dev (hf.1 i y (nq hy) hy).1.2 (Nu hf hx hy aa)];exact ih.2 i y aa hy
 intro j x hx;have hc:=hf.1 j x (nq hx) hx;exact(nFl (key j).1 (x:=x) hc.1.2 (λhk=>Il hc.1 hk) (λhk=>by rw[(key j).2 j x (aj _) hx];exact hr x (cA hx) hk)).1
theorem Im{g:Gp}(h:iy Z g c=0):Bv g.ns c.chs:=by
 have hv:dX g=true:=by grind [iy]
 have hn:xZ g c.author c.chs=true:=by grind [iy,fk]
 have h1:=zk.1 hv;have h2:jP c.chs=true/\lU g c.author c.chs=true:=by simpa[xZ]using hn
 refine Nv h1.1.2.2.2 (OS.1 h2.1) λx hx hk=>?_;have h3:zm g (gD g.ms c.author) c.author x=false:=by
  have h4:=h2.2;unfold lU at h4;simp only[mO,Bool.not_eq_true',List.any_eq_false]at h4;simpa using h4.2 x hx
 have h5:gD g.ms x.dev=true:=by
  unfold zm at h3;cases e:gD g.ms x.dev with
  |true=>rfl
  |false=>rw[e,decide_eq_false aa]at h3;simp at h3
 have h6:x.dev∈g.ms.map (·.dev):=by
  unfold gD at h5;rw[decide_eq_true_eq,wv]at h5;obtain⟨m,h7,h8⟩:=h5;exact bT.2 ⟨m,cA h7,h8⟩
 rw[h1.2.2.1]at h6;exact nmi.2 (nzi.1 h6).2
theorem Io{Z:Fx}{cs:List Cm}:∀(n:Nat) (vs qs:List (Nat×Gp)),QI Z cs vs qs->∃qs',QI Z cs (vs++th Z cs n qs) qs'
 |0,vs,qs,h=>⟨qs,by simpa[th]using h⟩
 |n+1,vs,[],h=>⟨[],by simpa[th]using h⟩
 |n+1,vs,q::qs,h=>by
  obtain⟨q',h'⟩:=Io n _ _ h.step;exact⟨q',by simpa[th]using h'⟩
theorem nEo{Z:Fx}{cs:List Cm}:∀(n:Nat) (qs:List (Nat×Gp)) (p:Nat×Gp),p∈th Z cs n qs->p∈qs\/∃r∈th Z cs n qs,p∈yo Z cs r
 |0,qs,p,h=>by simp[th]at h
 |n+1,[],p,h=>by simp[th]at h
 |n+1,q::qs,p,h=>by
  unfold th at h ⊢;rcases cd.1 h with rfl|h
  ·exact .inl A0
  rcases nEo n _ p h with h1|⟨r,h1,h2⟩
  ·rcases aY.1 h1 with h1|h1
   ·exact .inl (.tail _ h1)
   exact .inr ⟨q,.head _,h1⟩
  exact .inr ⟨r,.tail _ h1,h2⟩
theorem Nw{fo:Fo}{k:Nat}{q:Nat×Gp}(h:(gI Z cs fo)[k]? =some q)(hc:cs[q.1]? =some c):Bv (qS ((gI Z cs fo).map (·.2)) k c) c.chs:=by
 cases hi:sZ Z cs fo with
 |none=>rw[Cv.none hi]at h;simp at h
 |some i=>
  have hx:cs[i]? =some (iQ cs i)/\iy Z (g0 fo) (iQ cs i)=0:=by
   have h9:=hi;unfold sZ LU at h9;split at h9
   ·cases h9
   rw[Option.bind_eq_some_iff]at h9;obtain⟨i',h1,h2⟩:=h9;rw[wv]at h1;obtain⟨p,hp,e1⟩:=h1;obtain⟨j,c,f1,_,f3,f4⟩:=Sk Z cs _ p (cA hp);obtain rfl:i'=j:=by rw[<-e1,f1,xU]
   split at h2
   ·cases h2
    rename_i h3;exact⟨by rw[f3];unfold iQ;rw[f3];rfl,h3⟩
   cases h2
  have LS:=(Cv.first (Z:=Z) (cs:=cs) (fo:=fo) (d:=⟨(i:Int),iQ cs i,λ_=>0,0,⟨kr Z (g0 fo) (iQ cs i),none,0,none,0⟩⟩) hi ⟨Int.natCast_nonneg _,hx.1,rfl,hx.2⟩).qi;have ha:gI Z cs fo=th Z cs (cs.length+1) [(i,kr Z (g0 fo) (iQ cs i))]:=by unfold gI;rw[hi]
  obtain⟨qs',hq⟩:=Io (cs.length+1) _ _ LS;have hq:QI Z cs (gI Z cs fo) qs':=by rw[ha];exact hq
  have h0:(gI Z cs fo)[0]? =some (i,kr Z (g0 fo) (iQ cs i)):=by rw[ha];rfl
  have nd:((gI Z cs fo).map (·.1)).Nodup:=by have:=hq.nd;rw[gL]at this;exact(List.nodup_append.1 this).1
  have inj:∀{a b:Nat} {p r:Nat×Gp},(gI Z cs fo)[a]? =some p->(gI Z cs fo)[b]? =some r->p.1=r.1->a=b:=λh1 h2 e=>
   (List.getElem?_inj (by rw[eO];exact nq h1) nd).1 (by rw[mY,mY,h1,h2];exact congrArg some e)
  cases k with
  |zero=>
   rw[h0]at h;cases h;rw[hx.1]at hc;cases hc;have:=Im hx.2;exact this
  |succ k=>
   have hm:=cA h;rw[ha]at hm;rcases nEo _ _ _ hm with h1|⟨r,h1,h2⟩
   ·rw[gh]at h1;have:=inj h h0 (by rw[h1]);omega
   rw[<-ha]at h1;obtain⟨j,hj,rfl⟩:=bT.1 h2;obtain⟨c',f1,f2,f3,f4⟩:=nWh hj;have aR:cs[j]? =some c:=hc;rw[aR]at f1;cases f1;have e:qS ((gI Z cs fo).map (·.2)) (k+1) c=r.2.ns:=by
    unfold qS;rw[if_pos aa];cases hf:((gI Z cs fo).map (·.2)).find? (λg=>iA g.last c.par)with
    |none=>
     have h3:=List.find?_eq_none.1 hf r.2 (bT.2 ⟨r,h1,rfl⟩);exact absurd (show iA r.2.last c.par=true by rw[O5];simp[f3]) h3
    |some g=>
     obtain⟨p,hp,rfl⟩:=bT.1 (WU hf);have h4:iA p.2.last c.par=true:=by simpa using List.find?_some hf
     rw[O5]at h4;have h4:dk p.2.last=dk c.par:=by simpa using h4
     obtain⟨c1,_,g2,g3,_⟩:=(hq.ok p (uc _ hp)).c;obtain⟨c2,_,g6,g7,_⟩:=(hq.ok r (uc _ h1)).c;rw[g3]at h4;rw[g7]at f3;rw[h4,f3]at g2;have h5:=GI g2 g6;obtain⟨a,fX⟩:=jG.1 hp;obtain⟨b,hb1⟩:=jG.1 h1;obtain rfl:=inj fX hb1 aa;rw[fX]at hb1;cases hb1;rfl
   rw[e];exact Im f4
theorem nKo(hZ:FxOk Z)(cs:List Cm)(bW:cs.length<=1000)(dE:∀c∈cs,bN c)(N:Nat)(la:Option Addr)(lc:Nat)(w:World)(hN:N<=w.heap.size)(aH:ai cM 73 N w la cs)(hC:∀c∈cs,dB N w c)(fa:Option Addr)(fos:List Fo)(fc:Nat)(jl:fos.length<=10)(mA:cs.length<=10)(qT:ai qR 33 N w fa fos)(o1 o3 o4 o5 o6 o7:Value)(hg:Glb w):Calls prog 12 #[.agg #[.slice fa fos.length fc,o1,.slice la cs.length lc,o3,o4,o5,o6,o7]] w (λe w'=>∃(q:(Option Addr×Nat)×List Pl) (F':ad),e= .returned (.slice q.1.1 q.2.length q.1.2)/\Below w.heap.size w w'/\(∀p∈F',w.heap.size<=p.1/\w'.heap[p.1]? =some p.2)/\q.2.map aV=eQ Z cs fos/\(∀p∈q.2,Du F' p/\p.c∈cs)/\q.2.length<=100/\iK (λx=>(Bu x).toArray) 111 F' q.1.1 q.2):=by
 have hg4:=hg.lt;refine nB (dF []) [] (vs:=[_]) func12 rfl ntmps12 rfl (Lm w) ?_;refine cH 2 ?_;intro b1 w1 hb1 cK gS fX jK;refine B 15 ?_;refine CJ.loop (α:=((Rw×List Pl)×ad)×Nat) (λp9=>[(1,ptr b1 0),(3,p9.1.1.1.val p9.1.1.2.length),(4,ab (p9.2:Int))]) (λp9=>p9.1.1.1.hp Bu 63 p9.1.1.2++[]) (λp9=>[w1,w]) (λp9=>dF p9.1.2) (λp9=>p9.2<=fos.length/\p9.1.1.1.Fr (dF p9.1.2) [w1,w]/\p9.1.1.1.Fit 111 p9.1.1.2/\p9.1.1.2.map aV=eQ Z cs (fos.take p9.2)/\(∀p∈p9.1.1.2,Du p9.1.2 p/\p.c∈cs)/\p9.1.1.2.length<=p9.2*10/\∀q∈p9.1.2,w.heap.size<=q.1) (λp9=>fos.length-p9.2) (((.nil,[]),[]),0) ⟨cY _,True.intro,rfl,rfl,by simp,aj _,by simp⟩ zR rfl rfl zJ ?_;rintro⟨⟨⟨r,pls⟩,F⟩,i⟩ ⟨hi,aM,ae,aW,gV,gj,dC⟩;dsimp only at hi aM ae aW gV gj dC ⊢;have bJ:r.ge w1.heap.size:=Rw.ge_fz aM A0;refine aE 5 (.slice fa fos.length fc) ?_;refine aG 4 ?_ ?_
 ·intro av;refine B 5 ?_;obtain⟨bf,of,csf,tf,frf,rfl,GM,aaD,SU⟩:=qT.get aa;obtain⟨fo,sY⟩:=ng fos i aa;refine CJ.less (E':=[(1,_),(3,_),(4,_),(14,_),(15,_),(16,_),(17,_),(18,_)]) zR ?_;refine dN 12 [7,8,9,10,11] [[],[0],[0,1],[0,1],[0,1,2]] (λcv L' H'=>∃(q5:(((Option Addr×Nat)×(Option Addr×Nat))×List Cd)) (F1:ad) (w8:World) (k7 k8 k9 eR dG:Bool),cv=[ob k7 (.tuple #[.slice q5.1.1.1 q5.2.length q5.1.1.2,.slice q5.1.2.1 q5.2.length q5.1.2.2]),ob k8 (.tuple #[.slice q5.1.1.1 q5.2.length q5.1.1.2,.slice q5.1.2.1 q5.2.length q5.1.2.2]),ob k9 (.slice q5.1.1.1 q5.2.length q5.1.1.2),ob eR (.slice q5.1.2.1 q5.2.length q5.1.2.2),ob dG (.slice q5.1.1.1 q5.2.length q5.1.1.2)]/\L'=(if k7=true then[w8]else[])++[w1,w]/\H'=(r.hp Bu 63 pls++[])/\(k7=true->AlV Z cs fo F1 q5.2/\iK (λx=>(az x).toArray) 1 F1 q5.1.1.1 (q5.2.map λd=>d.at_)/\iK (λx=>(lL x).toArray) 36 F1 q5.1.2.1 (q5.2.map λd=>d.x)/\∀p∈F1,ah [w1,w] p.1/\w8.heap[p.1]? =some p.2/\p.1∉List.map (·.1) (r.hp Bu 63 pls++[]))/\(k8=true->k7=true)/\(k9=true->k7=true)/\(eR=true->k7=true)/\(dG=true->k7=true)) ⟨(((none,0),(none,0)),[]),[],w,false,false,false,false,false,rfl,rfl,rfl,(λh=>absurd h zA),(λh=>absurd h zA),(λh=>absurd h zA),(λh=>absurd h zA),(λh=>absurd h zA)⟩ (qm 1 (k:=by exact lD (λcv L' H' hl hd hP=>by obtain⟨q5,F1,w8,k7,k8,k9,eR,dG,rfl,rfl,rfl,f7,g8,g9,g10,g11⟩:=hP;exact X.v (RV.re (v':=.slice (some ⟨bf,of,none⟩) fos.length fc) (ar isAgg22 rfl (cG _ A0) hb1 cK zib rfl) rfl)) (qm 2 (k:=by exact lD (λcv L' H' hl hd hP=>by obtain⟨q5,F1,w8,k7,k8,k9,eR,dG,rfl,rfl,rfl,f7,g8,g9,g10,g11⟩:=hP;exact X.v (RV.re (v':=.agg (qR fo)) (dy isAgg97 sizeOf97 rfl (cG _ A1) aaD zI zib (dc SU sY rfl)) (va (dU SU sY rfl)))) (qm 1 (k:=by exact lD (λcv L' H' hl hd hP=>by obtain⟨q5,F1,w8,k7,k8,k9,eR,dG,rfl,rfl,rfl,f7,g8,g9,g10,g11⟩:=hP;exact X.v (RV.re (v':=.slice la cs.length lc) (ar isAgg24 rfl (cG _ A0) hb1 cK zib rfl) rfl)) LI)))))) (sp:=[_,some (.slice (some ⟨bf,of,none⟩) fos.length fc),_,_,some (.agg (qR fo)),_,some (.slice la cs.length lc),_,_,_,_,_]) ?_ ?_
  ·refine nc rfl rfl ?_ ?_
   ·intro cv L' H' hl hr hP F Q' hk;obtain⟨q5,F1,w8,k7,k8,k9,eR,dG,rfl,rfl,rfl,f7,g8,g9,g10,g11⟩:=hP;obtain rfl:k7=false:=nV hr rfl;obtain rfl:k8=false:=by cases k8;(rfl);exact absurd (g8 rfl) zJ
    obtain rfl:k9=false:=by cases k9;(rfl);exact absurd (g9 rfl) zJ
    obtain rfl:eR=false:=by cases eR;(rfl);exact absurd (g10 rfl) zJ
    obtain rfl:dG=false:=by cases dG;(rfl);exact absurd (g11 rfl) zJ
    refine nv (α:=(((Option Addr×Nat)×(Option Addr×Nat))×List Cd)×ad) (v:=λq=>.tuple #[.slice q.1.1.1.1 q.1.2.length q.1.1.1.2,.slice q.1.1.2.1 q.1.2.length q.1.1.2.2]) (Φ:=λW q w1=>AlV Z cs fo q.2 q.1.2/\iK (λx=>(az x).toArray) 1 q.2 q.1.1.1.1 (q.1.2.map λd:Cd=>d.at_)/\iK (λx=>(lL x).toArray) 36 q.2 q.1.1.2.1 (q.1.2.map λd:Cd=>d.x)/\∀p∈q.2,W.heap.size<=p.1/\w1.heap[p.1]? =some p.2) call33 rfl rfl rfl (λW hS=>nTl hZ cs bW dE N la lc W (eE hN (hS.links w (cG _ A1)).size) (aH.up (aj _) (hS.same (cG _ A1) hN zH zD)) (λc hc=>(hC c hc).up (aj _) (hS.same (cG _ A1) hN zH zD)) fo (hg.old hS (cG _ A1) zH zD)) ?_;rintro W7 ⟨x5,G1⟩ x8 CG Pp ⟨gv,gs1,gs3,gF1⟩;dsimp only at gv gs1 gs3 gF1;exact OJ.done (hk _ _ _ ⟨x5,G1,x8,true,false,false,false,false,rfl,rfl,rfl,(λ_=>⟨gv,gs1,gs3,λp hp=>⟨CD CG (gF1 p hp).1,(gF1 p hp).2,λhm=>by obtain⟨p9,hp9,e9⟩:=bT.1 hm;have h8:=CG.lt p9 hp9;have h9:=(gF1 p hp).1;omega⟩⟩),(λ_=>rfl),(λ_=>rfl),(λ_=>rfl),(λ_=>rfl)⟩)
   refine nc rfl rfl ?_ ?_
   ·intro cv L' H' hl hr hP F Q' hk;obtain⟨q5,F1,w8,k7,k8,k9,eR,dG,rfl,rfl,rfl,f7,g8,g9,g10,g11⟩:=hP;obtain rfl:k7=true:=nu hr 0 zA rfl;obtain rfl:k8=false:=nV hr rfl;refine B 1 ?_;exact OJ.done (hk _ _ _ ⟨q5,F1,w8,true,true,k9,eR,dG,rfl,rfl,rfl,f7,(λ_=>rfl),g9,g10,g11⟩)
   refine nc rfl rfl ?_ ?_
   ·intro cv L' H' hl hr hP F Q' hk;obtain⟨q5,F1,w8,k7,k8,k9,eR,dG,rfl,rfl,rfl,f7,g8,g9,g10,g11⟩:=hP;obtain rfl:k7=true:=nu hr 0 zA rfl;obtain rfl:k8=true:=nu hr 1 zA rfl;obtain rfl:k9=false:=nV hr rfl;refine B 1 ?_;exact OJ.done (hk _ _ _ ⟨q5,F1,w8,true,true,true,eR,dG,rfl,rfl,rfl,f7,g8,(λ_=>rfl),g10,g11⟩)
   refine nc rfl rfl ?_ ?_
   ·intro cv L' H' hl hr hP F Q' hk;obtain⟨q5,F1,w8,k7,k8,k9,eR,dG,rfl,rfl,rfl,f7,g8,g9,g10,g11⟩:=hP;obtain rfl:k7=true:=nu hr 0 zA rfl;obtain rfl:k8=true:=nu hr 1 zA rfl;obtain rfl:eR=false:=nV hr rfl;refine B 1 ?_;exact OJ.done (hk _ _ _ ⟨q5,F1,w8,true,true,k9,true,dG,rfl,rfl,rfl,f7,g8,g9,(λ_=>rfl),g11⟩)
   refine nc rfl rfl ?_ ?_
   ·intro cv L' H' hl hr hP F Q' hk;obtain⟨q5,F1,w8,k7,k8,k9,eR,dG,rfl,rfl,rfl,f7,g8,g9,g10,g11⟩:=hP;obtain rfl:k7=true:=nu hr 0 zA rfl;obtain rfl:k8=true:=nu hr 1 zA rfl;obtain rfl:k9=true:=nu hr 2 zA rfl;obtain rfl:dG=false:=nV hr rfl;refine B 1 ?_;exact OJ.done (hk _ _ _ ⟨q5,F1,w8,true,true,true,eR,true,rfl,rfl,rfl,f7,g8,g9,g10,(λ_=>rfl)⟩)
   exact nn
  intro cv L' H' hl hr hP;obtain⟨q5,F1,w8,k7,k8,k9,eR,dG,rfl,rfl,rfl,f7,g8,g9,g10,g11⟩:=hP;obtain rfl:k7=true:=nX hr 0 rfl;obtain rfl:k8=true:=nX hr 1 rfl;obtain rfl:k9=true:=nX hr 2 rfl;obtain rfl:eR=true:=nX hr 3 rfl;obtain rfl:dG=true:=nX hr 4 rfl;obtain⟨hv,uJ,Bb,wB⟩:=f7 rfl;have uQ:=hv.len;obtain⟨⟨⟨a1,c1⟩,⟨a3,c3⟩⟩,ds⟩:=q5;dsimp only at hv uJ Bb uQ ⊢;have Bb:iK bF 36 F1 a3 (ds.map λd=>d.x):=Bb;refine OJ.fzB (L':=[w1,w]) F1 (λW hS p hp=>?_) (λ_ h=>cG _ h) ?_
  ·have hn:=(wB p hp).2.2;exact⟨((hS.links w8 (uc _ A0)).block p.1 (bA.1 (wB p hp).2.1).1 (λhx=>hx.elim zI (λh=>hn h))).trans (wB p hp).2.1,hn⟩
  refine B 9 ?_;refine CJ.loop (α:=((Rw×List Pl)×ad)×Nat) (λp8=>[(1,ptr b1 0),(3,p8.1.1.1.val p8.1.1.2.length),(4,ab (i:Int)),(5,.slice a1 ds.length c1),(6,.slice a3 ds.length c3),(7,ab (p8.2:Int))]) (λp8=>p8.1.1.1.hp Bu 63 p8.1.1.2++[]) (λp8=>[w1,w]) (λp8=>dF p8.1.2) (λp8=>(p8.2<=ds.length/\∀q∈F1,q∈p8.1.2)/\p8.1.1.1.Fr (dF p8.1.2) [w1,w]/\p8.1.1.1.Fit 111 p8.1.1.2/\p8.1.1.2.map aV=eQ Z cs (fos.take i)++me cs (ds.map qq) p8.2/\(∀p∈p8.1.1.2,Du p8.1.2 p/\p.c∈cs)/\p8.1.1.2.length<=i*10+p8.2/\∀q∈p8.1.2,w.heap.size<=q.1) (λp8=>ds.length-p8.2) (((r,pls),F1++F),0) ⟨⟨cY _,λq hq=>aY.2 (.inl hq)⟩,aM,ae,by dsimp only;rw[aW];exact(ee _).symm,λp hp=>⟨(gV p hp).1.mono (λq hq=>aY.2 (.inr hq)),(gV p hp).2⟩,by dsimp only;omega,λq hq=>(aY.1 hq).elim (λh=>(wB q h).1.not A1) (dC q)⟩ zR rfl rfl zJ ?_;rintro⟨⟨⟨r,pls⟩,F⟩,j⟩ ⟨⟨hj,jb⟩,aM,ae,aW,gV,gj,dC⟩;dsimp only at hj jb aM ae aW gV gj dC ⊢;have bJ:r.ge w1.heap.size:=Rw.ge_fz aM A0;refine B 8 ?_;refine ni (t:=36) rfl (λaR=>?_) (λaR=>?_)
  ·replace aR:=ya aR;refine aE 3 bZ ?_;refine B 10 ?_;obtain⟨d,hd⟩:=ng ds j aa;have lq:=hv.d d (cA hd);have Pk:d.c∈cs:=cA lq.1;have hdi:d.at_=((jT d:Nat):Int):=by have:=lq.2.1;unfold jT;omega
   obtain⟨g9,c9,ph,he9,_⟩:=nog (qq d) (hv.eq▸bT.2 ⟨d,cA hd,rfl⟩);obtain rfl:c9=d.c:=by have h9:cs[jT d]? =some c9:=ph;rw[lq.1]at h9;exact(Option.some.inj h9).symm
   have uH:=Zj (nco he9);have hax:(ds.map λd=>d.at_)[j]? =some d.at_:=by rw[mY,hd];rfl
   have Al:(ds.map λd=>d.x)[j]? =some d.x:=by rw[mY,hd];rfl
   have GN:(ds.map qq).map (·.2)=(ds.map λd=>d.x).map (·.g):=by rw[List.map_map,List.map_map];rfl
   have rQ:Bv (qS ((ds.map λd=>d.x).map (·.g)) j d.c) d.c.chs:=by have h8:=Nw (Z:=Z) (cs:=cs) (fo:=fo) (k:=j) (q:=qq d) (c:=d.c) (by rw[<-hv.eq,mY,hd];rfl) lq.1;rw[<-hv.eq,GN]at h8;exact h8
   obtain⟨ba,oa,csa,ta1,fra,rfl,Sx,Gg⟩:=(uJ.mono jb).get (by rw[eO];omega);obtain⟨bg,og,csg,tg1,frg,rfl,Cy,kN⟩:=(Bb.mono jb).get (by rw[eO];omega);have aj6:=nq lq.1;obtain⟨bl,ol,csl,tl,frl,rfl,jr,tS,mI⟩:=aH.get aa;refine eA 13 (pb:=by exact zU 3 (k:=by exact aJ (X.v (RV.re (v':=ab d.at_) (Bc (v:=ab d.at_) isAgg3 rfl Sx zOc) rfl)) (aJ (X.v (RV.re (v':=bG) (Bw rfl rfl) (vb (decide_eq_false (by have:=lq.2.1;omega))))) (zU 4 (k:=by exact aJ (X.v (RV.re (v':=ab d.at_) (Bc (v:=ab d.at_) isAgg3 rfl Sx zOc) rfl)) zT))))) (sp:=[_,_,_,_,_,_,_,_,_,_,_,some (.slice (some ⟨bl,ol,none⟩) cs.length lc),_]) (k:=?_);refine wX ?_;refine CJ.less (E':=[(1,_),(3,_),(4,_),(5,_),(6,_),(7,_),(32,_),(33,_),(34,_),(35,_),(36,_),(37,_),(38,_),(39,_),(40,_),(41,_),(44,_),(45,_),(46,_),(47,_),(48,_),(49,_),(50,_),(51,_),(52,_),(53,_),(54,_),(55,_),(56,_),(57,_),(58,_)]) zR ?_;refine CJ.chn 16 [15] [_,some (.slice (some ⟨bl,ol,none⟩) cs.length lc),_,_,_,some (ab ((jT d:Nat):Int)),_,some (.agg (cM d.c)),_,_,_,_,_,some (.agg (bF d.x)),some (.agg (qz (⟨d.c,decide (j=0),[],none,0,d.x⟩:Pl))),none] (λcv L' H'=>match cv with| []=>L'=[w1,w]/\H'=r.hp Bu 63 pls++[]| [v1]=>∃(b8:Nat),v1=ptr b8 0/\L'=[w1,w]/\H'=[(b8,oC (qz Bh) 63)]++(r.hp Bu 63 pls++[])/\(w1.heap.size<=b8/\w.heap.size<=b8)|_=>False) (pc (by exact λcv L' H' hd hP=>X.v (cR underlying31 rfl sizeOf24 rfl)) (pc zcx (pc zM (pc zM (pc zDb (pc zcx (pc zzc (pc zcx (pc zM (pc (by exact λcv L' H' hd hP=>X.v (RV.re (v':=.bool (decide (j=0))) (kY rfl rfl) ((vb (decide_eq_decide.2 aa))))) (pc zM (pc zM (pc (by exact λcv L' H' hd hP=>X.v (bK underlying75 sizeOf53 rfl rfl aa aa)) (pc zcx (pc (by exact λcv L' H' hd hP=>X.v (vF underlying63 zeroValue63 (qp.c sizeOf61 (qp.c sizeOf4 (qp.c sizeOf53 (qp.c sizeOf51 (qp.n))))) rfl rfl)) (pk (pn))))))))))))))))) ?_ ?_
   ·refine ss rfl ?_ ?_
    ·intro cv L' H' hl hP F Q' hk;obtain rfl:=my hl;obtain⟨rfl,rfl⟩:=hP;refine B 1 ?_;intro b_ pL iw;exact OJ.done (hk _ _ _ ⟨b_,rfl,rfl,rfl,by simpa only[ah,and_true]using pL⟩)
    exact nn
   intro cv L' H' hl hP;obtain⟨v1,rfl⟩:=jv hl;obtain⟨b8,rfl,rfl,rfl,CZ⟩:=hP;refine B 13 ?_;refine CJ.reH (H':=[(b8,oC (qz (⟨d.c,decide (j=0),(vV (ds.map λd=>d.x) j d.c ds.length).g.ns,(vV (ds.map λd=>d.x) j d.c ds.length).na,(vV (ds.map λd=>d.x) j d.c ds.length).nc,d.x⟩:Pl)) 63)]++(r.hp Bu 63 pls++[])) (by rw[Nn (by rw[eO];exact aj _)];rfl) ?_;refine CJ.loop (α:=Nat) (λm=>[(1,ptr b1 0),(3,r.val pls.length),(4,ab (i:Int)),(5,.slice (some ⟨ba,oa,none⟩) ds.length c1),(6,.slice (some ⟨bg,og,none⟩) ds.length c3),(7,ab (j:Int)),(8,ptr b8 0),(9,ab ((m:Int)-1))]) (λm=>[(b8,oC (qz (⟨d.c,decide (j=0),(vV (ds.map λd=>d.x) j d.c m).g.ns,(vV (ds.map λd=>d.x) j d.c m).na,(vV (ds.map λd=>d.x) j d.c m).nc,d.x⟩:Pl)) 63)]++(r.hp Bu 63 pls++[])) (λm=>[w1,w]) (λm=>dF F) (λm=>m<=ds.length) (λm=>m) ds.length (aj _) zR rfl rfl zJ ?_;rintro m hm;refine B 2 ?_;refine CJ.mid (t:=82) (v:=.bool (decide (0<m/\0<j))) (E0:=[(1,_),(3,_),(4,_),(5,_),(6,_),(7,_),(8,_),(9,_)]) zR ?_ ?_
   ·refine B 4 ?_;refine ni (t:=79) rfl (λdm=>?_) (λdm=>?_)
    ·exact z8g
    exact z8g
   refine aG 1 ?_ ?_
   ·intro je;refine B 5 ?_;obtain⟨n,rfl⟩:∃n,m=n+1:=⟨m-1,by omega⟩;obtain⟨db,hdb⟩:=ng ds n aa;have C0:(ds.map λd=>d.x)[n]? =some db.x:=by rw[mY,hdb];rfl
    refine eA 8 (pb:=by exact zU 1 (k:=by exact aJ (X.v (RV.re (v':=ab ((n:Nat):Int)) (pO rfl) ((congrArg ab aa)))) (zU 2 (k:=by exact aJ (X.v (RV.re (v':=.agg (dg db.x.g.last)) (lE isAgg33 sizeOf33 rfl Cy (nLh kN C0 rfl 2 32 zA)) (va (nTi kN C0 rfl 2 32 zA)))) zT)))) (sp:=[_,_,_,_,_,_,_,some (.agg (dg d.c.par))]) (k:=?_);refine rr (.bool (iA db.x.g.last d.c.par)) (gG nO zA nF rfl rfl rfl) ?_;refine aG 2 ?_ ?_
    ·intro ib;refine B 2 ?_;refine zee ?_;refine B 2 ?_;refine rq (.agg #[.slice db.x.na db.x.g.ns.length db.x.nc]) (lE isAgg51 sizeOf51 rfl Cy (nLh kN C0 rfl 35 1 zA)) (va (nTi kN C0 rfl 35 1 zA)) ?_;refine B 1 ?_;refine kT (i:=0) rfl sizeOf51 rfl rfl rfl rfl (eh rfl) rfl ?_;refine B 4 ?_;refine zee ?_;refine B 3 ?_;refine PJ.again n aa aa zR (by rw[Np C0 aa cV];rfl) rfl zJ
    intro ib;refine B 4 ?_;refine zee ?_;refine B 3 ?_;refine PJ.again n aa aa zR (by rw[Uv C0 (by simpa using cV)]) rfl zJ
   intro je;refine B 12 ?_;have GM:=Nq (gs:=ds.map λd=>d.x) (k:=j) (c:=d.c) (m:=m) cV;have CA:qo F (vV (ds.map λd=>d.x) j d.c m):=ab4 (λx hx=>by obtain⟨y,hy,rfl⟩:=bT.1 hx;exact(hv.d y hy).2.2.mono (λp hp=>jb p hp));obtain⟨xb,WN⟩:∃xb,(vV (ds.map λd=>d.x) j d.c m)=xb:=⟨_,rfl⟩;rw[WN]at GM CA ⊢;rw[GM]at rQ;refine CJ.loop (α:=((Option Addr×Nat)×ad)×Nat) (λp4=>[(1,ptr b1 0),(3,r.val pls.length),(4,ab (i:Int)),(5,.slice (some ⟨ba,oa,none⟩) ds.length c1),(6,.slice (some ⟨bg,og,none⟩) ds.length c3),(7,ab (j:Int)),(8,ptr b8 0),(10,ab (p4.2:Int))]) (λp4=>[(b8,oC (qz (⟨d.c,decide (j=0),aN xb.g.ns (d.c.chs.take p4.2),p4.1.1.1,p4.1.1.2,d.x⟩:Pl)) 63)]++(r.hp Bu 63 pls++[])) (λp4=>[w1,w]) (λp4=>dF p4.1.2) (λp4=>p4.2<=d.c.chs.length/\iK fV 2 p4.1.2 p4.1.1.1 (aN xb.g.ns (d.c.chs.take p4.2))/\(∀q∈F,q∈p4.1.2)/\∀q∈p4.1.2,w.heap.size<=q.1) (λp4=>d.c.chs.length-p4.2) (((xb.na,xb.nc),F),0) ⟨cY _,CA.ns,λ_ h=>h,dC⟩ zR rfl rfl zJ ?_;rintro⟨⟨⟨ta,tc⟩,F4⟩,q⟩ ⟨hq,eV,Xf,By⟩;dsimp only at hq eV Xf By ⊢;refine aE 6 (.slice d.c.ca d.c.chs.length d.c.cc) ?_;refine aG 4 ?_ ?_
   ·intro kX;refine B 5 ?_;obtain⟨bo,oo,cso,too,fro,eZ,fE,bW,ab1⟩:=(hC d.c Pk).chs.get aa;obtain⟨x,hx⟩:=ng d.c.chs q aa;have hxd:=uH.1 x (cA hx);have La:=nXg xb.g.ns d.c.chs q aa;have hxl:=uH.2;have hnn:=CA.nn;refine aE 3 (.slice d.c.ca d.c.chs.length d.c.cc) ?_;refine B 1 ?_;refine rv rfl rfl rfl (bK underlying54 sizeOf99 (congrArg (λq=>some (Value.slice q d.c.chs.length d.c.cc)) eZ) rfl aa aa) ?_;refine VU ?_;refine yW ?_;intro gB uZ yQ;refine B 6 ?_;refine z3f ?_;refine aE 1 (ab x.pub) ?_;refine Pd (γ:=Option Addr×Nat) (v:=λz=>.tuple #[.agg #[.slice z.1 (ll (aN xb.g.ns (d.c.chs.take q)) x.dev x.pub).length z.2],ab (pJ (aN xb.g.ns (d.c.chs.take q)) x.dev x.pub)]) (Φ:=λF9 z=>iK fV 2 F9 z.1 (ll (aN xb.g.ns (d.c.chs.take q)) x.dev x.pub)) call34 rfl rfl rfl (λW hS=>(nxf (aN xb.g.ns (d.c.chs.take q)) aa W.heap.size ta tc W (aj _) (iK.at (eV.mono (λq hq=>hq)) hS.fzLies) x.dev x.pub hxd aa).mono λe w9 h9=>by obtain⟨x9,F9,h1,h2,h3,h4⟩:=h9.fz KJ;exact⟨x9,F9,h1,h2,h3,h4⟩) ?_;rintro⟨a91,c91⟩ F91 ab8 ab9;refine bH 4 ?_;intro iF EV EW;refine aE 8 (ab x.kind) ?_;refine aG 3 ?_ ?_
    ·intro jW;refine B 2 ?_;refine z3f ?_;refine Pd (γ:=Option Addr×Nat) (v:=λz=>.tuple #[.agg #[.slice z.1 (lV (aN xb.g.ns (d.c.chs.take q)) x.dev).length z.2],ab (pI (aN xb.g.ns (d.c.chs.take q)) x.dev)]) (Φ:=λF9 z=>iK fV 2 F9 z.1 (lV (aN xb.g.ns (d.c.chs.take q)) x.dev)) call35 rfl rfl rfl (λW hS=>(n1d (aN xb.g.ns (d.c.chs.take q)) aa W.heap.size ta tc W (aj _) (iK.at (eV.mono (λq hq=>aY.2 (.inr hq))) hS.fzLies) x.dev hxd).mono λe w9 h9=>by obtain⟨x9,F9,h1,h2,h3,h4⟩:=h9.fz KJ;exact⟨x9,F9,h1,h2,h3,h4⟩) ?_;rintro⟨a92,c92⟩ F92 aca amJ;refine B 10 ?_;refine zvf ?_;refine zc ?_;refine PJ.again (((a92,c92),F92++(F91++F4)),q+1) ⟨by dsimp only;omega,by dsimp only;rw[VV hx cV];exact aca.mono (λq hq=>aY.2 (.inl hq)),λq hq=>aY.2 (.inr (aY.2 (.inr (Xf q hq)))),λq hq=>(aY.1 hq).elim (λh=>by have:=amJ q h;simp only[ah,and_true]at this;omega) (λh=>(aY.1 h).elim (λh=>by have:=ab9 q h;simp only[ah,and_true]at this;omega) (By q))⟩ zW zR (by rw[VV hx cV];rfl) rfl zJ
    intro jW;refine B 5 ?_;refine zvf ?_;refine zc ?_;refine PJ.again (((a91,c91),F91++F4),q+1) ⟨by dsimp only;omega,by dsimp only;rw[VW hx cV];exact ab8.mono (λq hq=>aY.2 (.inl hq)),λq hq=>aY.2 (.inr (Xf q hq)),λq hq=>(aY.1 hq).elim (λh=>by have:=ab9 q h;simp only[ah,and_true]at this;omega) (By q)⟩ zW zR (by rw[VW hx cV];rfl) rfl zJ
   intro kX;refine B 5 ?_;rw[nfi _ _ _ aa]at eV ⊢;refine aE 2 (.agg (qz (⟨d.c,decide (j=0),aN xb.g.ns d.c.chs,ta,tc,d.x⟩:Pl))) ?_;refine kp underlying43 sizeOf63 zeroValue63 rfl rfl rfl rfl rfl rfl rfl ?_;refine yW ?_;intro amK aoQ aoR;refine kz (r:=r) (xs:=pls) (zs:=[(⟨d.c,decide (j=0),aN xb.g.ns d.c.chs,ta,tc,d.x⟩:Pl)]) (enc:=Bu) (m:=111) (H0:=[(amK,oC (qz (⟨d.c,decide (j=0),aN xb.g.ns d.c.chs,ta,tc,d.x⟩:Pl)) 63),(b8,oC (qz (⟨d.c,decide (j=0),aN xb.g.ns d.c.chs,ta,tc,d.x⟩:Pl)) 63)]) (H1:=[]) zX Uu nNj rfl rfl rfl rfl (cD.one (z:=(⟨d.c,decide (j=0),aN xb.g.ns d.c.chs,ta,tc,d.x⟩:Pl)) nNj Nj underlying43 (bE.own (i:=0) rfl)) ae aM zJ y9 ?_;intro amL acb acd Ip Nx;replace Ip:=yb Ip;refine B 9 ?_;refine vC ?_;refine PJ.again (((Rw.row amL acb acd,pls++[(⟨d.c,decide (j=0),aN xb.g.ns d.c.chs,ta,tc,d.x⟩:Pl)]),F4),j+1) ⟨⟨by dsimp only;omega,λq hq=>Xf q (jb q hq)⟩,Ip.elim (λh=>Rw.Fr_at aM h) (λh=>.inr zC),Nx,by dsimp only;rw[njf (q:=qq d) (by rw[mY,hd];rfl),gL,aW,jh];congr 2;unfold Cw;rw[show iQ cs (qq d).1=d.c by show iQ cs (jT d)=d.c;unfold iQ;rw[lq.1];rfl,GN,GM];rfl,
    λp hp=>(aY.1 hp).elim (λh=>⟨(gV p h).1.mono (λq hq=>Xf q hq),(gV p h).2⟩) (λh=>by rw[gh.1 h];exact⟨⟨eV,by have:=OT d.c.chs xb.g.ns;have:=CA.nn;have:=uH.2;dsimp only;omega,lq.2.2.mono (λq hq=>Xf q (jb q hq))⟩,Pk⟩),by dsimp only;rw[cO];simp only[dO,fO];omega,By⟩ zW zR rfl rfl zJ
  replace aR:=ya aR;refine B 19 ?_;exact z9g
 intro av;refine B 12 ?_;have hi9:i=fos.length:=by omega
 rw[hi9,uw]at aW;refine bQ (.inl rfl) results12 bB λW hS=>?_;have Ag:r.At Bu 63 pls W:=by
  cases r with
  |nil=>trivial
  |row b cap sp=>exact hS.own (b,_) oV
 obtain⟨a1,c1,uu,uJ⟩:=Rw.sl nNj ae Ag (aj W.heap.size);exact zsg
section
variable {N:Nat} {r:Option Nat} {E:Env} {G:Gh} {L:List World} {H:ad} {x y:Operand} {U:Nat} {a b:Se}
section
variable (hx:ev E x=some (cB a))(hy:ev E y=some (cB b))
include hx hy
theorem seT(h:a=b):RV ⟨prog,r,N⟩ G L H E (.binOp .eql 35 x y U) (bZ):=RV.re (v':=bZ) (gG Gq zA Jz hx hy (Gt _ _)) (vb ((Gu _ _).trans (decide_eq_true h)))
theorem seF(h:¬a=b):RV ⟨prog,r,N⟩ G L H E (.binOp .eql 35 x y U) (bG):=RV.re (v':=bG) (gG Gq zA Jz hx hy (Gt _ _)) (vb ((Gu _ _).trans (decide_eq_false h)))
theorem snF(h:a=b):RV ⟨prog,r,N⟩ G L H E (.binOp .neq 35 x y U) (bG):=RV.re (v':=bG) (dT Gq zA Jz hx hy (Gt _ _)) (vb ((congrArg not (Gu _ _)).trans (by simp[h])))
theorem snT(h:¬a=b):RV ⟨prog,r,N⟩ G L H E (.binOp .neq 35 x y U) (bZ):=RV.re (v':=bZ) (dT Gq zA Jz hx hy (Gt _ _)) (vb ((congrArg not (Gu _ _)).trans (by simp[h])))
end
end
theorem Ux(f:Nat->Int)(l:Int)(w:World):Calls prog 17 #[.agg (dg f),ab l] w (aP w (cB (nj (dk f) l))):=by
 refine eN func17 ntmps17 ?_;refine cH 2 ?_;intro b2 w2 dw bX fB dJ dH;refine bH 1 ?_;intro b4 iT iU;refine B 11 ?_;refine cu (.inl rfl) results17 bB A1 zB ?_;rfl
structure Av (N:Nat) (w:World) (p:Pl):Prop where
 ns:ai fV 2 N w p.ta p.ns
 nn:p.ns.length<=90000
 x:cj N w p.x
 c:dB N w p.c
structure Iq (p:Pl):Prop where
 few:qe p.c
 len:p.c.path.length=10
 wd:∀x∈p.c.wes,dd x.dev
def sN (p:Pl) (kn:List Se) (s:Se):Prop:=∃d∈iL (aV p),d.2=s/\∀f∈d.1,f∈kn
def BxF (p:Pl) (kn:List Se) (s:Se) (b:Bx):Prop:=(cP p.ns b.node).isSome=true/\s=nj (dk p.x.g.last) b.level/\aO ((cP p.ns b.node).getD 0)∈kn
def WeF (p:Pl) (kn:List Se) (x:We):Prop:=(cP p.ns (pd x.dev)).isSome=true/\aO ((cP p.ns (pd x.dev)).getD 0)∈kn
theorem Ny(hl:p.c.path.length=10):sN p kn s↔(∃(k:Nat) (y:Int),p.c.path[k]? =some y/\s=aO y/\nj (dk p.x.g.last) (k:Int)∈kn)\/(0<s.lev/\s.lev<=9/\s=nj (dk p.x.g.last) s.lev/\nj (dk p.x.g.last) (s.lev-1)∈kn)\/(∃b∈p.c.bxs,BxF p kn s b)\/(s=aT (dk p.x.g.last)/\nj (dk p.x.g.last) 9∈kn/\(p.fst=true\/aT (dk p.c.par)∈kn))\/(s=aT (dk p.x.g.last)/\∃x∈p.c.wes,WeF p kn x):=by
 have hb:∀b d,d∈CB (aV p) b↔(cP p.ns b.node).isSome=true/\d=([aO ((cP p.ns b.node).getD 0)],nj (dk p.x.g.last) b.level):=λb d=>by
  unfold CB;show d∈(match cP p.ns b.node with|some y=>_|none=>_)↔_;cases cP p.ns b.node<;>simp[aV]
 have hw:∀x d,d∈GS (aV p) x↔(cP p.ns (pd x.dev)).isSome=true/\d=([aO ((cP p.ns (pd x.dev)).getD 0)],aT (dk p.x.g.last)):=λx d=>by
  unfold GS;show d∈(match cP p.ns (pd x.dev)with|some y=>_|none=>_)↔_;cases cP p.ns (pd x.dev)<;>simp[aV]
 constructor
 ·rintro⟨d,hd,rfl,hk⟩;unfold iL at hd;simp only[aY,xz,gh]at hd;rcases hd with((⟨b,h1,h2⟩|h)|h)|⟨x,h1,h2⟩
  ·obtain⟨h3,rfl⟩:=(hb b d).1 h2;exact .inr (.inr (.inl ⟨b,h1,h3,rfl,hk _ A0⟩))
  ·obtain⟨k,y,h1,h2,h3⟩:=Xa.1 h;have h4:k<10:=by have:=nq h2;have h5:(aV p).1.path.length=10:=hl;omega
   unfold GR at h3;rcases cd.1 h3 with rfl|h3
   ·exact .inl ⟨k,y,h2,rfl,hk _ A0⟩
   split at h3
   ·rw[gh]at h3;subst h3;refine .inr (.inl ⟨?_,?_,rfl,?_⟩)
    ·show(0:Int)<((k+1:Nat):Int);omega
    ·show((k+1:Nat):Int)<=9;omega
    have h5:=hk _ A0;rw[show(nj (dk (aV p).2.2.2.last) ((k+1:Nat):Int)).lev-1=(k:Int)from by show((k+1:Nat):Int)-1=_;omega];exact h5
   cases h3
  ·subst h;refine .inr (.inr (.inr (.inl ⟨rfl,hk _ A0,?_⟩)));by_cases hf:p.fst=true
   ·exact .inl hf
   refine .inr (hk _ (.tail _ ?_));show _∈(if p.fst=true then[]else[aT (dk p.c.par)]);rw[if_neg hf];exact .head _
  obtain⟨h3,rfl⟩:=(hw x d).1 h2;exact .inr (.inr (.inr (.inr ⟨rfl,x,h1,h3,hk _ A0⟩)))
 have one:∀{f:Se},f∈kn->∀g∈[f],g∈kn:=λh g hg=>by rw[gh.1 hg];exact h
 rintro(⟨k,y,h1,rfl,h3⟩|⟨h1,h2,h3,h4⟩|⟨b,h1,h2,rfl,h3⟩|⟨rfl,h1,h2⟩|⟨rfl,x,h1,h2,h3⟩)
 ·refine⟨([nj (dk p.x.g.last) (k:Int)],aO y),?_,rfl,one h3⟩;unfold iL;simp only[aY,xz,gh];exact .inl (.inl (.inr (Xa.2 ⟨k,y,nq h1,h1,.head _⟩)))
 ·obtain⟨k,hk⟩:∃k:Nat,s.lev=((k+1:Nat):Int):=⟨(s.lev-1).toNat,by omega⟩;refine⟨([nj (dk p.x.g.last) (k:Int)],nj (dk p.x.g.last) ((k+1:Nat):Int)),?_,?_,one (by rw[show s.lev-1=(k:Int) by omega]at h4;exact h4)⟩
  ·unfold iL;simp only[aY,xz,gh];obtain⟨y,hy⟩:=ng p.c.path k aa;refine .inl (.inl (.inr (Xa.2 ⟨k,y,nq hy,hy,?_⟩)));unfold GR;rw[if_pos (show k<9 by omega)];exact .tail _ A0
  show nj _ _=s;rw[<-hk];exact h3.symm
 ·refine⟨([aO ((cP p.ns b.node).getD 0)],nj (dk p.x.g.last) b.level),?_,rfl,one h3⟩;unfold iL;simp only[aY,xz,gh];exact .inl (.inl (.inl ⟨b,h1,(hb b _).2 ⟨h2,rfl⟩⟩))
 ·refine⟨(Md (aV p),aT (dk p.x.g.last)),?_,rfl,?_⟩
  ·unfold iL;simp only[aY,xz,gh];exact .inl (.inr rfl)
  intro f hf;rcases cd.1 hf with rfl|hf
  ·exact h1
  have yU:f∈(if p.fst=true then[]else[aT (dk p.c.par)]):=hf;split at yU
  ·cases yU
  rw[gh.1 yU];exact h2.resolve_left cV
 refine⟨([aO ((cP p.ns (pd x.dev)).getD 0)],aT (dk p.x.g.last)),?_,rfl,one h3⟩;unfold iL;simp only[aY,xz,gh];exact .inr ⟨x,h1,(hw x _).2 ⟨h2,rfl⟩⟩
open Classical in
noncomputable def It (kn:List Se) (s:Se) (p:Pl):Bool:=decide (sN p kn s)
theorem Xh(h:¬sN p kn s):It kn s p=false:=by simpa[It]using h
theorem Uy(h:It kn s p=false):¬sN p kn s:=by simpa[It]using h
noncomputable def Uz (Z:Fx) (pls:List Pl) (kn:List Se) (g:Gr):Bool:=match gJ pls g.f with|some p=>decide (wF Z p.x.g g=0)&&decide (aO g.pub∈kn)|none=>false
noncomputable def Xi (Z:Fx) (pls:List Pl) (kn:List Se) (f:Nat->Int) (x:Ir):Bool:=match gJ pls x.g with|some p=>iA x.g f&&decide (Bl Z p.x.g x=0)&&decide (aT (dk x.f)∈kn)|none=>false
def OlF (f:Nat->Int) (g:Gr):Prop:=∃o∈g.olds,iA o.f f=true
def ace (Z:Fx) (pls:List Pl) (gs:List Gr) (xs:List Ir) (kn:List Se) (s:Se) (f:Nat->Int):Prop:=(s=aT (dk f)/\(gJ pls f).isSome=true)/\((∃g∈gs,Uz Z pls kn g=true/\OlF f g)\/∃x∈xs,Xi Z pls kn f x=true)
def Iu (Z:Fx) (pls:List Pl) (gs:List Gr) (xs:List Ir) (kn:List Se) (s:Se) (f:Nat->Int):Prop:=(∃p∈pls,sN p kn s)\/ace Z pls gs xs kn s f
open Classical in
noncomputable def CM (Z:Fx) (pls:List Pl) (gs:List Gr) (xs:List Ir) (kn:List Se) (s:Se) (f:Nat->Int):Bool:=decide (Iu Z pls gs xs kn s f)
theorem PU{gs:List Gr}{xs:List Ir}(h:Iu Z pls gs xs kn s f):true=CM Z pls gs xs kn s f:=by simpa[CM]using h
theorem nSl{gs:List Gr}{xs:List Ir}(h:¬Iu Z pls gs xs kn s f):false=CM Z pls gs xs kn s f:=by simpa[CM]using h
theorem UA(e:s.kind=1)(hl:p.c.path.length=10)(h:∀(i:Nat) (y:Int),p.c.path[i]? =some y->¬(s=aO y/\nj (dk p.x.g.last) (i:Int)∈kn)):¬sN p kn s:=by
 rw[Ny hl];rintro(⟨k,y,h1,h2⟩|⟨_,_,h3,_⟩|⟨b,_,_,h3,_⟩|⟨h3,_⟩|⟨h3,_⟩)
 ·exact h k y h1 h2
 all_goals(rw[h3]at e;cases e)
theorem Iv(e:s.kind=2)(hl:p.c.path.length=10)(h:¬(0<s.lev/\s.lev<=9/\s=nj (dk p.x.g.last) s.lev/\nj (dk p.x.g.last) (s.lev-1)∈kn))(hb:∀b∈p.c.bxs,¬BxF p kn s b):¬sN p kn s:=by
 rw[Ny hl];rintro(⟨k,y,_,h3,_⟩|h3|⟨b,h1,h2⟩|⟨h3,_⟩|⟨h3,_⟩)
 ·rw[h3]at e;cases e
 ·exact h h3
 ·exact hb b h1 h2
 all_goals(rw[h3]at e;cases e)
theorem Nz(e:s.kind=2)(hl:p.c.path.length=10)(h:s.com≠dk p.x.g.last):¬sN p kn s:=
 Iv e hl (λh1=>h (by rw[h1.2.2.1];rfl)) (λb _ h1=>h (by rw[h1.2.1];rfl))
theorem Iw(e:s.kind=3)(hl:p.c.path.length=10)(h:s=aT (dk p.x.g.last)->¬(nj (dk p.x.g.last) 9∈kn/\(p.fst=true\/aT (dk p.c.par)∈kn))/\∀x∈p.c.wes,¬WeF p kn x):¬sN p kn s:=by
 rw[Ny hl];rintro(⟨k,y,_,h3,_⟩|⟨_,_,h3,_⟩|⟨b,_,_,h3,_⟩|⟨h3,h4⟩|⟨h3,x,h4,h5⟩)
 ·rw[h3]at e;cases e
 ·rw[h3]at e;cases e
 ·rw[h3]at e;cases e
 ·exact(h h3).1 h4
 exact(h h3).2 x h4 h5
theorem UB(h1:¬s.kind=1)(h2:¬s.kind=2)(h3:¬s.kind=3)(hl:p.c.path.length=10):¬sN p kn s:=by
 rw[Ny hl];rintro(⟨k,y,_,h,_⟩|⟨_,_,h,_⟩|⟨b,_,_,h,_⟩|⟨h,_⟩|⟨h,_⟩)
 ·exact h1 (by rw[h];rfl)
 ·exact h2 (by rw[h];rfl)
 ·exact h2 (by rw[h];rfl)
 ·exact h3 (by rw[h];rfl)
 exact h3 (by rw[h];rfl)
theorem nPg{g:Nat->Int}(h:dk f=dk g):iA f g=true:=by rw[O5];simpa using h
theorem nEn(hZ:FxOk Z)(r:dY)(hr:gQ r)(pls:List Pl)(gj:pls.length<=1000)(UC:∀p∈pls,Iq p)(kn:List Se)(sU:kn.length<=1000000)(sk sp:Int)(sf:Nat->Int)(sl:Int)(N:Nat)(pa ka:Option Addr)(pc kc:Nat)(w:World)(hN:N<=w.heap.size)(hrA:fg N w r)(gV:ai qz 111 N w pa pls)(NA:∀p∈pls,Av N w p)(PK:ai seA 35 N w ka kn)(hg:Glb w)(a0 a1:Addr)(hse:Sen w a0 a1):Calls prog 14 #[.agg (rdA r),.slice pa pls.length pc,.slice ka kn.length kc,cB (⟨sk,sp,dk sf,sl⟩:Se)] w (aP w (.bool (CM Z pls r.gs r.xs kn (⟨sk,sp,dk sf,sl⟩:Se) sf))):=by
 have hg4:=hg.lt;have Qs:=hr.gl;have lM:=hr.il;refine eN func14 ntmps14 ?_;refine cH 2 ?_;intro b4 w4 DX BR Vg iT iU;refine yX ?_;intro b7 w7 Qy Vn hz7 kh v7;refine B 10 ?_;refine CJ.lp (α:=Nat) [1,2,4,7] (λj=>[(9,ab (j:Int))]) (λj=>[]) (λj=>j<=pls.length/\gC (It kn (⟨sk,sp,dk sf,sl⟩:Se)) pls j) (λj=>pls.length-j) 0 ⟨cY _,λi x hi=>absurd hi aa⟩ ?_;rintro j ⟨hj,dP⟩;refine aG 9 ?_ ?_
 ·intro av;refine B 5 ?_;obtain⟨bo,oo,cs0,GX,fC,eZ,fE,bW,aS⟩:=gV.get aa;obtain⟨p,hp⟩:=ng pls j aa;have lQ:=cA hp;have oR:=UC p lQ;have Dy:=NA p lQ;have qg:=oR.few;have jr:=qg.bxs;have hwl:=qg.wes;have wR:=oR.len;refine B 3 ?_;refine rv rfl rfl rfl (bK underlying43 sizeOf63 (congrArg (λq=>some (Value.slice q pls.length pc)) eZ) rfl aa aa) ?_;refine dp (.agg (qz p)) ?_;refine bH 1 ?_;intro gd lT pC;refine B 7 ?_;refine JA ?_;refine bH 1 ?_;intro gB uZ yQ;refine aE 6 (ab sk) ?_;refine aG 9 ?_ ?_
  ·intro aR;refine B 6 ?_;refine CJ.lp (α:=Nat) [1,2,4,7,9,10,11] (λk=>[(12,ab (k:Int))]) (λk=>[(gB,oC (dg p.x.g.last) 33),(gd,oC (qz p) 63)]) (λk=>k<=p.c.path.length/\∀(i:Nat) (y:Int),i<k->p.c.path[i]? =some y->¬((⟨sk,sp,dk sf,sl⟩:Se)=aO y/\nj (dk p.x.g.last) (i:Int)∈kn)) (λk=>p.c.path.length-k) 0 ⟨cY _,λi y hi=>absurd hi aa⟩ ?_;rintro k ⟨hk,Da⟩;refine aE 6 (.slice p.c.pa p.c.path.length p.c.pc) ?_;refine B 3 ?_;refine ni (t:=55) rfl (λdm=>?_) (λdm=>?_)
   ·replace dm:=ya dm;refine aE 1 bZ ?_;refine B 9 ?_;obtain⟨bo,oo,cs0,GX,fC,eZ,fE,bW,aS⟩:=Dy.c.path.get aa;obtain⟨y,hy⟩:=ng p.c.path k aa;by_cases CN:(⟨sk,sp,dk sf,sl⟩:Se)=aO y
    ·refine eA 14 (pb:=by exact zU 5 (k:=by exact aJ (X.v (bK underlying55 sizeOf3 (congrArg (λq=>some (Value.slice q p.c.path.length p.c.pc)) eZ) rfl aa aa)) (aJ (X.v (RV.re (v':=ab y) (ar (v:=ab y) isAgg3 rfl A2 bW zI zz (by have:=nJ (enc:=encI) (n:=1) aS hy rfl zA;simpa[encI]using this)) rfl)) (aJ (nf call18 rfl rfl (λW hS _=>SG _ W) (λ_=>rfl)) (aJ (X.v (RV.re (v':=bZ) (seT rfl rfl cV) rfl)) (zU 4 (k:=by exact aJ (nf call17 rfl rfl (λW hS _=>Ux _ _ W) (λ_=>rfl)) (rf rfl)))))))) (sp:=[some (cB (⟨sk,sp,dk sf,sl⟩:Se)),_,_,some (.slice p.c.pa p.c.path.length p.c.pc),_,_,_,_,_,_,_,some (.agg (dg p.x.g.last)),_,_]) (k:=?_);refine PV ?_;refine aG 3 ?_ ?_
     ·intro je;refine B 16 ?_;refine NB ?_;exact vb (PU (.inl ⟨p,lQ,(Ny oR.len).2 (.inl ⟨k,y,hy,by assumption,by assumption⟩)⟩))
     intro je;refine B 8 ?_;exact z0g
    refine eA 14 (pb:=by exact zU 5 (k:=by exact aJ (X.v (bK underlying55 sizeOf3 (congrArg (λq=>some (Value.slice q p.c.path.length p.c.pc)) eZ) rfl aa aa)) (aJ (X.v (RV.re (v':=ab y) (ar (v:=ab y) isAgg3 rfl A2 bW zI zz (by have:=nJ (enc:=encI) (n:=1) aS hy rfl zA;simpa[encI]using this)) rfl)) (aJ (nf call18 rfl rfl (λW hS _=>SG _ W) (λ_=>rfl)) (aJ (X.v (RV.re (v':=bG) (seF rfl rfl cV) rfl)) zT))))) (sp:=((some (cB (⟨sk,sp,dk sf,sl⟩:Se)))::_::_::(some (.slice p.c.pa p.c.path.length p.c.pc))::_)) (k:=?_);refine B 13 ?_;exact z0g
   replace dm:=ya dm;refine B 18 ?_;refine vC ?_;refine ag (j+1) ⟨by omega,dP.next hp (Xh (UA cV oR.len (λi y hy=>Da i y (by have:=nq hy;omega) hy)))⟩
  intro aR;refine aG 6 ?_ ?_
  ·intro ib;refine aE 4 (.agg (dg sf)) ?_;refine JA ?_;refine rr (.bool (!iA sf p.x.g.last)) (dT nO zA nF rfl rfl rfl) ?_;refine aG 2 ?_ ?_
   ·intro kX;refine B 2 ?_;refine nQb rfl ?_;refine LB ?_;refine ag (j+1) ⟨by omega,dP.next hp (Xh (Nz cV oR.len (λh=>absurd (nPg h) AR)))⟩
   intro kX;refine B 4 ?_;refine CJ.mid (t:=107) (v:=.bool (decide (0<sl/\sl<=9/\(⟨sk,sp,dk sf,sl⟩:Se)=nj (dk p.x.g.last) sl/\nj (dk p.x.g.last) (sl-1)∈kn))) (E0:=[(1,_),(2,_),(4,_),(7,_),(9,_),(10,_),(11,_)]) zR ?_ ?_
   ·by_cases CN:0<sl
    ·by_cases amU:sl<=9
     ·by_cases aqA:(⟨sk,sp,dk sf,sl⟩:Se)=nj (dk p.x.g.last) sl
      ·refine eA 23 (pb:=by exact zU 13 (k:=by exact aJ (nf call17 rfl rfl (λW hS _=>Ux _ _ W) (λ_=>rfl)) (aJ (X.v (RV.re (v':=bZ) (seT rfl rfl cV) rfl)) (zU 7 (k:=by exact aJ (nf call17 rfl rfl (λW hS _=>Ux _ _ W) (λ_=>rfl)) (rf rfl)))))) (sp:=[_,some (ab sl),some bZ,_,_,some (ab sl),some bZ,_,_,some (cB (⟨sk,sp,dk sf,sl⟩:Se)),some (.agg (dg p.x.g.last)),_,some (ab sl),_,_,_,_,_,some (.agg (dg p.x.g.last)),_,some (ab sl),_,_]) (k:=?_);refine PV ?_;refine B 2 ?_;exact ztg
      refine eA 23 (pb:=by exact zU 13 (k:=by exact aJ (nf call17 rfl rfl (λW hS _=>Ux _ _ W) (λ_=>rfl)) (aJ (X.v (RV.re (v':=bG) (seF rfl rfl cV) rfl)) zT))) (sp:=[_,some (ab sl),some bZ,_,_,some (ab sl),some bZ,_,_,some (cB (⟨sk,sp,dk sf,sl⟩:Se)),some (.agg (dg p.x.g.last)),_,some (ab sl),_,_,_,_,_,_,_,_,_,_]) (k:=?_);exact zwi
     refine eA 23 (sp:=(_::(some (ab sl))::(some bZ)::_::_::(some (ab sl))::(some bG)::_)) (k:=?_);exact zwi
    refine eA 23 (sp:=(_::(some (ab sl))::(some bG)::_)) (k:=?_);exact zwi
   refine aG 1 ?_ ?_
   ·intro jW;refine B 13 ?_;refine NB ?_;exact vb (PU (.inl ⟨p,lQ,(Ny oR.len).2 (.inr (.inl cV))⟩))
   intro jW;refine B 8 ?_;refine CJ.lp (α:=Nat) [1,2,4,7,9,10,11] (λm=>[(13,ab (m:Int))]) (λm=>[(gB,oC (dg p.x.g.last) 33),(gd,oC (qz p) 63)]) (λm=>m<=p.c.bxs.length/\∀b∈p.c.bxs.take m,¬BxF p kn (⟨sk,sp,dk sf,sl⟩:Se) b) (λm=>p.c.bxs.length-m) 0 ⟨cY _,λb hb=>by simp at hb⟩ ?_;rintro m ⟨hm,oW⟩;refine aE 6 (.slice p.c.ba p.c.bxs.length p.c.bc) ?_;refine aG 4 ?_ ?_
   ·intro DO;refine B 5 ?_;obtain⟨bo,oo,cs0,GX,fC,eZ,fE,bW,aS⟩:=Dy.c.bxs.get aa;obtain⟨x,hx⟩:=ng p.c.bxs m aa;refine eA 14 (pb:=by exact zU 6 (k:=by exact aJ (X.v (bK underlying56 sizeOf110 (congrArg (λq=>some (Value.slice q p.c.bxs.length p.c.bc)) eZ) rfl aa aa)) (zU 1 (k:=by exact aJ (X.v (RV.re (v':=ab x.node) (ar (v:=ab x.node) isAgg3 rfl A2 bW zI zz (by have:=vh (enc:=tN) (n:=4) aS hx rfl 0 zA;simpa[tN]using this)) rfl)) (aJ (nf call36 rfl rfl (λW hS _=>nTb p.ns (by have:=Dy.nn;omega) N p.ta p.tc W cJ (Dy.ns.up (aj _) hS.sm) _) (λ_=>rfl)) zT))))) (sp:=[_,some (.agg #[.slice p.ta p.ns.length p.tc]),_,_,some (.slice p.c.ba p.c.bxs.length p.c.bc),_,_,_,_,_,_,some (ab ((cP p.ns x.node).getD 0)),some (.bool (cP p.ns x.node).isSome),_]) (k:=?_);refine B 4 ?_;refine CJ.mid (t:=148) (v:=.bool (decide ((cP p.ns x.node).isSome=true/\(⟨sk,sp,dk sf,sl⟩:Se)=nj (dk p.x.g.last) x.level/\aO ((cP p.ns x.node).getD 0)∈kn))) (E0:=[(1,_),(2,_),(4,_),(7,_),(9,_),(10,_),(11,_),(13,_)]) zR ?_ ?_
    ·by_cases CN:(cP p.ns x.node).isSome=true
     ·by_cases amU:(⟨sk,sp,dk sf,sl⟩:Se)=nj (dk p.x.g.last) x.level
      ·refine eA 18 (pb:=by exact aJ (X.v (RV.re (v':=bZ) (pO rfl) (vb cV))) (zU 7 (k:=by exact aJ (X.v (bK underlying56 sizeOf110 (congrArg (λq=>some (Value.slice q p.c.bxs.length p.c.bc)) eZ) rfl aa aa)) (zU 1 (k:=by exact aJ (X.v (RV.re (v':=ab x.level) (ar (v:=ab x.level) isAgg3 rfl A2 bW zI zz (by have:=vh (enc:=tN) (n:=4) aS hx rfl 1 zA;simpa[tN]using this)) rfl)) (aJ (nf call17 rfl rfl (λW hS _=>Ux _ _ W) (λ_=>rfl)) (aJ (X.v (RV.re (v':=bZ) (seT rfl rfl cV) rfl)) (zU 4 (k:=by exact aJ (nf call18 rfl rfl (λW hS _=>SG _ W) (λ_=>rfl)) (rf rfl)))))))))) (sp:=(_::_::(some (cB (⟨sk,sp,dk sf,sl⟩:Se)))::(some (.agg (dg p.x.g.last)))::_::_::(some (.slice p.c.ba p.c.bxs.length p.c.bc))::_)) (k:=?_);refine PV ?_;refine B 2 ?_;exact z4g
      refine eA 18 (pb:=by exact aJ (X.v (RV.re (v':=bZ) (pO rfl) (vb cV))) (zU 7 (k:=by exact aJ (X.v (bK underlying56 sizeOf110 (congrArg (λq=>some (Value.slice q p.c.bxs.length p.c.bc)) eZ) rfl aa aa)) (zU 1 (k:=by exact aJ (X.v (RV.re (v':=ab x.level) (ar (v:=ab x.level) isAgg3 rfl A2 bW zI zz (by have:=vh (enc:=tN) (n:=4) aS hx rfl 1 zA;simpa[tN]using this)) rfl)) (aJ (nf call17 rfl rfl (λW hS _=>Ux _ _ W) (λ_=>rfl)) (aJ (X.v (RV.re (v':=bG) (seF rfl rfl cV) rfl)) zT))))))) (sp:=(_::_::(some (cB (⟨sk,sp,dk sf,sl⟩:Se)))::(some (.agg (dg p.x.g.last)))::_::_::(some (.slice p.c.ba p.c.bxs.length p.c.bc))::_)) (k:=?_);refine B 3 ?_;exact z4g
     refine eA 18 (pb:=by exact aJ (X.v (RV.re (v':=bG) (pO rfl) (vb (Bool.eq_false_iff.2 cV)))) zT) (k:=?_);refine B 3 ?_;exact z4g
    refine aG 1 ?_ ?_
    ·intro ph;refine B 16 ?_;refine NB ?_;exact vb (PU (.inl ⟨p,lQ,(Ny oR.len).2 (.inr (.inr (.inl ⟨x,cA hx,by assumption⟩)))⟩))
    intro ph;refine B 8 ?_;refine ag (m+1) ⟨by omega,λb hb=>by rw[np hx]at hb;rcases aY.1 hb with h|h;(exact oW b h);rw[gh.1 h];assumption⟩
   intro DO;refine B 12 ?_;refine vC ?_;refine ag (j+1) ⟨by omega,dP.next hp (Xh (Iv cV oR.len cV (λb hb=>oW b (by rw[iz aa];exact hb))))⟩
  intro ib;refine aG 6 ?_ ?_
  ·intro rE;refine B 2 ?_;by_cases CN:(⟨sk,sp,dk sf,sl⟩:Se)=aT (dk p.x.g.last)
   ·refine eA 3 (pb:=by exact zU 2 (k:=by exact aJ (nf call16 rfl rfl (λW hS _=>Pf _ W) (λ_=>rfl)) (rf rfl))) (sp:=[some (cB (⟨sk,sp,dk sf,sl⟩:Se)),some (.agg (dg p.x.g.last)),_]) (k:=?_);refine rr bG (snF rfl rfl cV) ?_;refine B 7 ?_;refine CJ.mid (t:=170) (v:=.bool (decide (nj (dk p.x.g.last) 9∈kn/\(p.fst=true\/aT (dk p.c.par)∈kn)))) (E0:=[(1,_),(2,_),(4,_),(7,_),(9,_),(10,_),(11,_)]) zR ?_ ?_
    ·refine B 2 ?_;refine JA ?_;refine call call17 rfl rfl rfl (λW hS=>Ux _ _ W) ?_;refine PV ?_;refine B 1 ?_;refine ni (t:=159) rfl (λmC=>?_) (λmC=>?_)
     ·replace mC:=ya mC;refine aE 1 (.bool p.fst) ?_;refine B 1 ?_;refine ni (t:=162) rfl (λkg=>?_) (λkg=>?_)
      ·replace kg:=ya kg;refine B 9 ?_;exact ztg
      replace kg:=ya kg;refine aE 3 (.agg (dg p.c.par)) ?_;refine call call16 rfl rfl rfl (λW hS=>Pf _ W) ?_;refine PV ?_;exact zwi
     replace mC:=ya mC;refine B 12 ?_;exact ztg
    refine aG 1 ?_ ?_
    ·intro mD;refine B 13 ?_;refine NB ?_;exact vb (PU (.inl ⟨p,lQ,(Ny oR.len).2 (.inr (.inr (.inr (.inl ⟨by assumption,by assumption⟩))))⟩))
    intro mD;refine B 8 ?_;refine CJ.lp (α:=Nat) [1,2,4,7,9,10,11] (λm=>[(16,ab (m:Int))]) (λm=>[(gB,oC (dg p.x.g.last) 33),(gd,oC (qz p) 63)]) (λm=>m<=p.c.wes.length/\∀b∈p.c.wes.take m,¬WeF p kn b) (λm=>p.c.wes.length-m) 0 ⟨cY _,λb hb=>by simp at hb⟩ ?_;rintro m ⟨hm,hwm⟩;refine B 6 ?_;refine zKe ?_;refine aG 4 ?_ ?_
    ·intro uS;refine B 5 ?_;obtain⟨bo,oo,cs0,GX,fC,eZ,fE,bW,aS⟩:=Dy.c.wes.get aa;obtain⟨x,hx⟩:=ng p.c.wes m aa;have hxd:=oR.wd x (cA hx);refine B 3 ?_;refine zKe ?_;refine B 1 ?_;refine rv rfl rfl rfl (bK underlying57 sizeOf114 (congrArg (λq=>some (Value.slice q p.c.wes.length p.c.wc)) eZ) rfl aa aa) ?_;refine B 1 ?_;refine rr (ab x.dev) (ar (v:=ab x.dev) isAgg3 rfl A2 bW zI zz (by have:=vh (enc:=vj) (n:=3) aS hx rfl 0 zA;simpa[vj]using this)) ?_;refine call call37 rfl rfl rfl (λW hS=>n4g _ W) ?_;refine aE 1 (ab (pd x.dev)) ?_;refine rq (ab 0) (jg rfl rfl) ((congrArg ab (if_pos hxd))) ?_;refine aE 7 (.agg #[.slice p.ta p.ns.length p.tc]) ?_;refine B 1 ?_;refine call call36 rfl rfl rfl (λW hS=>nTb p.ns (by have:=Dy.nn;omega) N p.ta p.tc W cJ (Dy.ns.up (aj _) hS.sm) _) ?_;refine aE 1 (ab ((cP p.ns (pd x.dev)).getD 0)) ?_;refine dp (.bool (cP p.ns (pd x.dev)).isSome) ?_;refine aE 7 bZ ?_;refine B 4 ?_;refine ni (t:=202) rfl (λpj=>?_) (λpj=>?_)
     ·replace pj:=ya pj;refine B 2 ?_;refine call call18 rfl rfl rfl (λW hS=>SG _ W) ?_;refine PV ?_;refine aG 3 ?_ ?_
      ·intro DP;refine B 16 ?_;refine NB ?_;exact vb (PU (.inl ⟨p,lQ,(Ny oR.len).2 (.inr (.inr (.inr (.inr ⟨by assumption,x,cA hx,by assumption,by assumption⟩))))⟩))
      intro DP;refine B 8 ?_;exact zih
     replace pj:=ya pj;refine B 16 ?_;exact zih
    intro uS;refine B 12 ?_;refine vC ?_;refine ag (j+1) ⟨by omega,dP.next hp (Xh (Iw cV oR.len (λh=>⟨by assumption,λx hx=>hwm x (by rw[iz aa];exact hx)⟩)))⟩
   refine eA 3 (pb:=by exact zU 2 (k:=by exact aJ (nf call16 rfl rfl (λW hS _=>Pf _ W) (λ_=>rfl)) (rf rfl))) (sp:=[some (cB (⟨sk,sp,dk sf,sl⟩:Se)),some (.agg (dg p.x.g.last)),_]) (k:=?_);refine rr bZ (snT rfl rfl cV) ?_;refine B 5 ?_;refine nQb rfl ?_;refine LB ?_;refine ag (j+1) ⟨by omega,dP.next hp (Xh (Iw cV oR.len (λh=>absurd h cV)))⟩
  intro rE;refine B 9 ?_;refine vC ?_;refine ag (j+1) ⟨by omega,dP.next hp (Xh (UB cV cV cV oR.len))⟩
 intro av;refine B 6 ?_;have hnp:∀q∈pls,¬sN q kn (⟨sk,sp,dk sf,sl⟩:Se):=λq hq=>Uy (nNi dP aa hq);refine aE 3 (.agg (dg sf)) ?_;refine zbe ?_;refine aE 1 (.agg (qz ((gJ pls sf).getD Bh))) ?_;refine dp (.bool (gJ pls sf).isSome) ?_;refine bH 1 ?_;intro rL D8 Qu;refine B 6 ?_;refine CJ.mid (t:=223) (v:=.bool (decide (¬((⟨sk,sp,dk sf,sl⟩:Se)=aT (dk sf)/\(gJ pls sf).isSome=true)))) (E0:=[(1,_),(2,_),(4,_),(7,_)]) zR ?_ ?_
 ·by_cases CN:(⟨sk,sp,dk sf,sl⟩:Se)=aT (dk sf)
  ·refine eA 4 (pb:=by exact zU 3 (k:=by exact aJ (nf call16 rfl rfl (λW hS _=>Pf _ W) (λ_=>rfl)) (rf rfl))) (sp:=[some (cB (⟨sk,sp,dk sf,sl⟩:Se)),_,some (.agg (dg sf)),_]) (k:=?_);refine rr bG (snF rfl rfl cV) ?_;exact zBh
  refine eA 4 (pb:=by exact zU 3 (k:=by exact aJ (nf call16 rfl rfl (λW hS _=>Pf _ W) (λ_=>rfl)) (rf rfl))) (sp:=[some (cB (⟨sk,sp,dk sf,sl⟩:Se)),_,some (.agg (dg sf)),_]) (k:=?_);refine rr bZ (snT rfl rfl cV) ?_;exact zBh
 refine aG 1 ?_ ?_
 ·intro RP;refine B 7 ?_;refine NB ?_;exact vb (nSl (λh=>h.elim (λ⟨q,hq,h⟩=>hnp q hq h) (λh=>(by assumption:(¬((⟨sk,sp,dk sf,sl⟩:Se)=aT (dk sf)/\(gJ pls sf).isSome=true))) h.1)))
 intro RP;refine B 9 ?_;refine CJ.dropAt (i:=0) rfl zC ?_;refine CJ.lp (α:=Nat) [1,2,4,7] (λk=>[(23,ab (k:Int))]) (λk=>[]) (λk=>k<=r.gs.length/\∀g∈r.gs.take k,¬(Uz Z pls kn g=true/\OlF sf g)) (λk=>r.gs.length-k) 0 ⟨cY _,λb hb=>by simp at hb⟩ ?_;rintro k ⟨hk,VK⟩;refine B 5 ?_;refine z1e ?_;refine aG 4 ?_ ?_
 ·intro RQ;refine B 5 ?_;obtain⟨bo,oo,cs0,GX,fC,eZ,fE,bW,aS⟩:=hrA.g.get aa;obtain⟨g,Al⟩:=ng r.gs k aa;have qk:=cA Al;have Pq:=(hr.gg g qk).few;refine B 2 ?_;refine z1e ?_;refine B 1 ?_;refine rv rfl rfl rfl (bK underlying25 sizeOf87 (congrArg (λq=>some (Value.slice q r.gs.length r.gc)) eZ) rfl aa aa) ?_;refine dp (.agg (tX g)) ?_;refine bH 1 ?_;intro lR Q2 Q3;refine aE 7 (.agg (dg g.f)) ?_;refine zbe ?_;refine aE 1 (.agg (qz ((gJ pls g.f).getD Bh))) ?_;refine dp (.bool (gJ pls g.f).isSome) ?_;refine bH 1 ?_;intro VG ajF ajG;refine B 6 ?_;refine CJ.mid (t:=259) (v:=.bool (!Uz Z pls kn g)) (E0:=[(1,_),(2,_),(4,_),(7,_),(23,_),(24,_)]) zR ?_ ?_
  ·cases hfq:gJ pls g.f with
   |none=>
    refine aE 1 bG ?_;refine B 17 ?_;exact zhh
   |some q=>
    have Tm:q∈pls:=WU hfq;refine aE 1 bZ ?_;refine aE 3 (.agg (bF q.x)) ?_;refine dp (.agg (tX g)) ?_;refine call call39 rfl rfl rfl (λW hS=>nyl hZ q.x g (hr.gg g qk) N W cJ ((NA q Tm).x.up (aj _) hS.sm) ((hrA.G g qk).up (aj _) hS.sm) (hg.old hS A2 zH z2) a0 a1 (hse.oldG hS A2 zH z2)) ?_;refine B 3 ?_;refine ni (t:=252) rfl (λzq=>?_) (λzq=>?_)
    ·replace zq:=ya zq;refine B 8 ?_;exact zhh
    replace zq:=ya zq;refine aE 2 (ab g.pub) ?_;refine call call18 rfl rfl rfl (λW hS=>SG _ W) ?_;refine PV ?_;refine B 3 ?_;exact zhh
  refine aG 1 ?_ ?_
  ·intro amY;refine B 9 ?_;exact zUg
  intro amY;refine B 8 ?_;refine CJ.lp (α:=Nat) [1,2,4,7,23,24] (λm=>[(27,ab (m:Int))]) (λm=>[(VG,oC (qz ((gJ pls g.f).getD Bh)) 63),(lR,oC (tX g) 87)]) (λm=>m<=g.olds.length/\gC (λo:Ol=>iA o.f sf) g.olds m) (λm=>g.olds.length-m) 0 ⟨cY _,λi x hi=>absurd hi aa⟩ ?_;rintro m ⟨hm,hom⟩;refine aE 5 (.slice g.oa g.olds.length g.oc) ?_;refine aG 4 ?_ ?_
  ·intro aby;refine B 5 ?_;obtain⟨bo,oo,cs0,GX,fC,eZ,fE,bW,aS⟩:=(hrA.G g qk).ol.get aa;obtain⟨o,hox⟩:=ng g.olds m aa;refine eA 8 (pb:=by exact zU 3 (k:=by exact aJ (X.v (bK underlying85 sizeOf119 (congrArg (λq=>some (Value.slice q g.olds.length g.oc)) eZ) rfl aa aa)) (zU 1 (k:=by exact aJ (X.v (RV.re (v':=.agg (dg o.f)) (dy isAgg33 sizeOf33 rfl A2 bW zI zz (nLh aS hox rfl 0 32 zA)) (va (nTi aS hox rfl 0 32 zA)))) zT)))) (sp:=[_,some (.slice g.oa g.olds.length g.oc),_,_,_,_,_,some (.agg (dg sf))]) (k:=?_);refine rr (.bool (iA o.f sf)) (gG nO zA nF rfl rfl rfl) ?_;refine aG 2 ?_ ?_
   ·intro amZ;refine B 15 ?_;refine NB ?_;exact vb (PU (.inr ⟨Decidable.not_not.1 cV,.inl ⟨g,qk,by simpa using cV,o,cA hox,by assumption⟩⟩))
   intro amZ;refine B 8 ?_;refine ag (m+1) ⟨by omega,hom.next hox (by simpa using cV)⟩
  intro aby;refine B 11 ?_;exact zUg
 intro RQ;refine B 12 ?_;have Ms:∀g∈r.gs,¬(Uz Z pls kn g=true/\OlF sf g):=λg hg=>VK g (by rw[iz aa];exact hg);refine CJ.lp (α:=Nat) [1,2,4,7] (λk=>[(28,ab (k:Int))]) (λk=>[]) (λk=>k<=r.xs.length/\gC (Xi Z pls kn sf) r.xs k) (λk=>r.xs.length-k) 0 ⟨cY _,λi x hi=>absurd hi aa⟩ ?_;rintro k ⟨hk,hxo⟩;refine aE 5 (.slice r.ia r.xs.length r.ic) ?_;refine aG 4 ?_ ?_
 ·intro am0;refine B 5 ?_;obtain⟨bo,oo,cs0,GX,fC,eZ,fE,bW,aS⟩:=hrA.i.get aa;obtain⟨x,Xj⟩:=ng r.xs k aa;have QX:=cA Xj;refine aE 2 (.slice r.ia r.xs.length r.ic) ?_;refine B 1 ?_;refine rv rfl rfl rfl (bK underlying26 sizeOf121 (congrArg (λq=>some (Value.slice q r.xs.length r.ic)) eZ) rfl aa aa) ?_;refine dp (.agg (Bi x)) ?_;refine bH 1 ?_;intro Xe aml amm;refine aE 7 (.agg (dg x.g)) ?_;refine zbe ?_;refine aE 1 (.agg (qz ((gJ pls x.g).getD Bh))) ?_;refine dp (.bool (gJ pls x.g).isSome) ?_;refine bH 1 ?_;intro b30 aqB aqC;refine B 5 ?_;refine CJ.mid (t:=316) (v:=.bool (Xi Z pls kn sf x)) (E0:=[(1,_),(2,_),(4,_),(7,_),(28,_)]) zR ?_ ?_
  ·cases hfq:gJ pls x.g with
   |none=>
    refine aE 1 bG ?_;refine B 22 ?_;exact zNg
   |some q=>
    have Tm:q∈pls:=WU hfq;refine aE 1 bZ ?_;refine aE 2 (.agg (dg x.g)) ?_;refine aE 1 (.agg (dg sf)) ?_;refine rr (.bool (iA x.g sf)) (gG nO zA nF rfl rfl rfl) ?_;refine B 2 ?_;refine ni (t:=303) rfl (λIx=>?_) (λIx=>?_)
    ·replace Ix:=ya Ix;refine aE 1 (.agg (bF q.x)) ?_;refine dp (.agg (Bi x)) ?_;refine call call40 rfl rfl rfl (λW hS=>nuk hZ q.x x (hr.ii x QX) N W cJ ((NA q Tm).x.up (aj _) hS.sm) ((hrA.I x QX).up (aj _) hS.sm) (hg.old hS A2 zH z2) a0 a1 (hse.oldG hS A2 zH z2)) ?_;refine B 3 ?_;refine ni (t:=310) rfl (λIy=>?_) (λIy=>?_)
     ·replace Iy:=ya Iy;refine aE 2 (.agg (dg x.f)) ?_;refine call call16 rfl rfl rfl (λW hS=>Pf _ W) ?_;refine PV ?_;refine B 2 ?_;exact zNg
     replace Iy:=ya Iy;refine B 7 ?_;exact zNg
    replace Ix:=ya Ix;refine B 14 ?_;exact zNg
  refine aG 1 ?_ ?_
  ·intro am1;refine B 11 ?_;refine NB ?_;exact vb (PU (.inr ⟨Decidable.not_not.1 cV,.inr ⟨x,QX,by assumption⟩⟩))
  intro am1;refine zc ?_;refine ag (k+1) ⟨by omega,hxo.next Xj (by simpa using cV)⟩
 intro am0;refine B 11 ?_;refine NB ?_;exact vb (nSl (λh=>h.elim (λ⟨q,hq,h⟩=>hnp q hq h) (λ⟨_,h⟩=>h.elim (λ⟨g,hg,h1,h2⟩=>Ms g hg ⟨h1,h2⟩) (λ⟨x,hx,h1⟩=>by have h9:=nNi hxo aa hx;rw[h1]at h9;cases h9))))
theorem ai.tk{α:Type}{enc:α->Array Value}{n N:Nat}{w:World}{a:Option Addr}{xs:List α}(h:ai enc n N w a xs)(k:Nat):ai enc n N w a (xs.take k):=by
 rcases h with h|⟨b,off,cs,t,fr,h1,h2,h3,h4⟩
 ·subst h;rw[List.take_nil];exact .inl rfl
 exact .inr ⟨b,off,cs,t,fr,h1,h2,h3,λi hi=>by rw[jM]at hi;rw[List.getElem_take];exact h4 i aa⟩
theorem UD(s:Se):(⟨s.kind,s.pub,dk (fw s.com),s.lev⟩:Se)=s:=by rw[Dp]
theorem nzl{g:Nat->Int}(h:dk f=dk g):gJ pls f=gJ pls g:=by
 unfold gJ;congr 1;funext p;rw[O5,O5,h]
theorem acg{r:dY}(hm:pls.map aV=eQ Z r.cs r.fos):(∃d∈r.D Z,d.2=s/\∀f∈d.1,f∈kn)↔Iu Z pls r.gs r.xs kn s (fw s.com):=by
 have gr:∀(g:Gr) d,d∈Bm Z (pls.map aV) g↔∃p,gJ pls g.f=some p/\wF Z p.x.g g=0/\∃o∈g.olds,(gJ pls o.f).isSome=true/\d=([aO g.pub],aT (dk o.f)):=λg d=>by
  unfold Bm;rw[Ho];cases gJ pls g.f with
  |none=>simp
  |some p=>
   have ol:∀o,d∈Hp (pls.map aV) g.pub o↔(gJ pls o.f).isSome=true/\d=([aO g.pub],aT (dk o.f)):=λo=>by
    unfold Hp;rw[Ho,Option.isSome_map];split<;>simp_all
   show d∈(if wF Z p.x.g g=0 then _ else _)↔_;by_cases hc:wF Z p.x.g g=0
   ·rw[if_pos hc,xz];exact⟨λ⟨o,h1,h2⟩=>⟨p,rfl,hc,o,h1,(ol o).1 h2⟩,λ⟨q,h0,_,o,h1,h2⟩=>⟨o,h1,(ol o).2 h2⟩⟩
   exact z7h
 have ir:∀(x:Ir) d,d∈DB Z (pls.map aV) x↔∃p,gJ pls x.g=some p/\Bl Z p.x.g x=0/\d=([aT (dk x.f)],aT (dk x.g)):=λx d=>by
  unfold DB;rw[Ho];cases gJ pls x.g with
  |none=>simp
  |some p=>
   show d∈(if Bl Z p.x.g x=0 then _ else _)↔_;by_cases hc:Bl Z p.x.g x=0
   ·rw[if_pos hc,gh];exact⟨λh=>⟨p,rfl,hc,h⟩,λ⟨_,_,_,h⟩=>h⟩
   exact z7h
 have one:∀{f:Se},f∈kn->∀g∈[f],g∈kn:=λh g hg=>by rw[gh.1 hg];exact h
 unfold dY.D oJ Iu ace;rw[<-hm];simp only[aY,xz,bT];constructor
 ·rintro⟨d,(⟨a,⟨p,hp,rfl⟩,h⟩|⟨g,hg,h⟩)|⟨x,hx,h⟩,rfl,hk⟩
  ·exact .inl ⟨p,hp,d,h,rfl,hk⟩
  ·obtain⟨p,h1,h2,o,h3,h4,rfl⟩:=(gr g d).1 h;have e:dk (fw (aT (dk o.f)).com)=dk o.f:=Dp _;refine .inr ⟨⟨by rw[e],by rw[nzl e];exact h4⟩,.inl ⟨g,hg,?_,o,h3,nPg e.symm⟩⟩;unfold Uz;rw[h1];simp[h2,hk _ A0]
  obtain⟨p,h1,h2,rfl⟩:=(ir x d).1 h;have e:dk (fw (aT (dk x.g)).com)=dk x.g:=Dp _;refine .inr ⟨⟨by rw[e],by rw[nzl e,h1];rfl⟩,.inr ⟨x,hx,?_⟩⟩;unfold Xi;rw[h1];simp[h2,hk _ A0,nPg e.symm]
 rintro(⟨p,hp,d,h1,h2,h3⟩|⟨⟨h1,h2⟩,⟨g,hg,h3,o,h4,h5⟩|⟨x,hx,h3⟩⟩)
 ·exact⟨d,.inl (.inl ⟨_,⟨p,hp,rfl⟩,h1⟩),h2,h3⟩
 ·unfold Uz at h3;cases e:gJ pls g.f with
  |none=>rw[e]at h3;cases h3
  |some p=>
   rw[e]at h3;simp only[mO,decide_eq_true_eq]at h3;have e2:dk o.f=dk (fw s.com):=by rw[O5]at h5;simpa using h5
   exact⟨_,.inl (.inr ⟨g,hg,(gr g _).2 ⟨p,e,h3.1,o,h4,by rw[nzl e2];exact h2,rfl⟩⟩),by show aT (dk o.f)=s;rw[e2];exact h1.symm,one h3.2⟩
 unfold Xi at h3;cases e:gJ pls x.g with
 |none=>rw[e]at h3;cases h3
 |some p=>
  rw[e]at h3;simp only[mO,decide_eq_true_eq]at h3;have e2:dk x.g=dk (fw s.com):=by have h5:=h3.1.1;rw[O5]at h5;simpa using h5
  exact⟨_,.inr ⟨x,hx,(ir x _).2 ⟨p,e,h3.1.2,rfl⟩⟩,by show aT (dk x.g)=s;rw[e2];exact h1.symm,one h3.2⟩
theorem Iz{fos:List Fo}{p:Ap}(h:p∈eQ Z cs fos):∃g,iy Z g p.1=0/\p.2.2.2=kr Z g p.1:=by
 unfold eQ at h;obtain⟨fo,_,h⟩:=xz.1 h;unfold xq at h;have key:∀j,p∈me cs (gI Z cs fo) j->∃g,iy Z g p.1=0/\p.2.2.2=kr Z g p.1:=by
  intro j;induction j with
  |zero=>intro h;simp[me]at h
  |succ j ih=>
   intro h;unfold me at h;split at h
   ·exact ih h
   rename_i q hq;rcases aY.1 h with h|h
   ·exact ih h
   rw[gh]at h;subst h;obtain⟨g,c,hc,he,uB⟩:=nog q (cA hq);have e:iQ cs q.1=c:=by unfold iQ;rw[hc];rfl
   exact⟨g,by show iy Z g (iQ cs q.1)=0;rw[e];exact he,by show q.2=kr Z g (iQ cs q.1);rw[e];exact uB⟩
 exact key _ h
theorem ach{r:dY}(hr:gQ r)(h:aV p∈eQ Z r.cs r.fos):Iq p:=by
 obtain⟨g,hg,_⟩:=Iz h;have hg:iy Z g p.c=0:=hg;have hc:sX p.c=0:=by grind [iy]
 have hk:=OV.1 hc;exact⟨(hr.cg p.c (Uq h)).few,hk.pl,λx hx=>by obtain⟨i,hi⟩:=jG.1 hx;exact(hk.wel i x hi).1⟩
theorem aci(hZ:FxOk Z){fos:List Fo}{p:Ap}(h:p∈eQ Z cs fos):eu (fw (dk p.2.2.2.last)):=by
 obtain⟨g,_,e⟩:=Iz h;rw[e];exact nYg (hZ.byt _ _)
theorem am3(hZ:FxOk Z){r:dY}(dv:Int):∀s∈r.fs Z dv,vN s:=by
 intro s hs;rcases Ur.1 hs with h|h
 ·obtain⟨o,_,_,rfl⟩:=Us.1 h;exact PG
 obtain⟨p,hp,_,rfl⟩:=Ut.1 h;exact nuh (aci hZ hp) _
theorem acj{ls:List Se}(h:ls.Nodup){i:Nat}{x:Se}(hx:ls[i]? =some x):x∉ls.take i:=by
 intro hm;obtain⟨j,hj⟩:=jG.1 hm;rw[List.getElem?_take]at hj;split at hj
 ·have:=(List.getElem?_inj (nq hj) h).1 (hj.trans hx.symm);omega
 cases hj
section
variable {Z:Fx} (hZ:FxOk Z) (r:dY) (hr:gQ r) (N:Nat) (w:World) (hN:N<=w.heap.size) (hrA:fg N w r) (hg:Glb w)
include hZ hr hN hrA hg
theorem n6m:Calls prog 12 #[.agg (rdA r)] w (cZ w (λq:(Option Addr×Nat)×List Pl=>.slice q.1.1 q.2.length q.1.2) (λq w1=>q.2.map aV=eQ Z r.cs r.fos/\q.2.length<=100/\(∀p∈q.2,Av w1.heap.size w1 p)/\(∀p∈q.2,Iq p)/\ai qz 111 w1.heap.size w1 q.1.1 q.2)):=
 (nKo hZ r.cs (by have:=hr.cl;omega) hr.cg N r.la r.lc w hN hrA.c hrA.C r.fa r.fos r.fc hr.fl hr.cl hrA.f _ _ _ _ _ _ hg).mono (by
  rintro e w' ⟨q,F',he,hb,hF,h1,h2,h3,h4⟩;have hl:∀p∈F',p.1<w'.heap.size/\w'.heap[p.1]? =some p.2:=λp hp=>⟨(bA.1 (hF p hp).2).1,(hF p hp).2⟩;exact⟨q,he,hb,h1,h3,λp hp=>⟨(h2 p hp).1.ns.at hl,(h2 p hp).1.nn,(h2 p hp).1.x.lies hl,(hrA.C p.c (h2 p hp).2).up (eE hN hb.size) (λk hk=>hb.block k aa)⟩,λp hp=>ach hr (by rw[<-h1];exact bT.2 ⟨p,hp,rfl⟩),h4.at hl⟩)
end
section
variable {Z:Fx} (hZ:FxOk Z) (r:dY) (hr:gQ r) (pls:List Pl) (gj:pls.length<=1000) (UC:∀p∈pls,Iq p) (kn:List Se) (sU:kn.length<=1000000) (s:Se) (N:Nat) (pa ka:Option Addr) (pc kc:Nat) (w:World) (hN:N<=w.heap.size) (hrA:fg N w r) (gV:ai qz 111 N w pa pls) (NA:∀p∈pls,Av N w p) (PK:ai seA 35 N w ka kn) (hg:Glb w) (a0 a1:Addr) (hse:Sen w a0 a1) (hm:pls.map aV=eQ Z r.cs r.fos)
include hZ hr gj UC sU hN hrA gV NA PK hg hse hm
theorem NC(b:Bool)(h:b=true↔∃d∈r.D Z,d.2=s/\∀f∈d.1,f∈kn):Calls prog 14 #[.agg (rdA r),.slice pa pls.length pc,.slice ka kn.length kc,cB s] w (aP w (.bool b)):=by
 have h1:=nEn hZ r hr pls gj UC kn sU s.kind s.pub (fw s.com) s.lev N pa ka pc kc w hN hrA gV NA PK hg a0 a1 hse;rw[UD]at h1;have h2:CM Z pls r.gs r.xs kn s (fw s.com)=b:=by
  rw[acg hm]at h;cases b with
  |true=>exact(PU (h.1 rfl)).symm
  |false=>exact(nSl (λh3=>by have:=h.2 h3;cases this)).symm
 rw[h2]at h1;exact h1
end
theorem IA{xs:List Se}{N:Nat}{a:Option Addr}{cp:Nat}{w:World}{b:Bool}(hxl:xs.length<=1000000000)(hN:N<=w.heap.size)(aH:ai seA 35 N w a xs)(h:decide (s∈xs)=b):Calls prog 13 #[.slice a xs.length cp,cB s] w (aP w (.bool b)):=by
 rw[<-h];exact nQc xs hxl N a cp w hN aH s
theorem ND(hZ:FxOk Z)(r:dY)(hri:uM r)(hlm:sG r)(N:Nat)(w:World)(hN:N<=w.heap.size)(hrA:fg N w r)(hg:Glb w)(CK:Lab w)(a0 a1:Addr)(hse:Sen w a0 a1)(dv:Int)(s:Se)(hf:tY r=false):Calls prog 3 #[.agg (rdA r),ab dv,cB s] w (aP w (bZ)):=by
 have hg4:=hg.lt;refine eN func3 ntmps3 ?_;refine cH 2 ?_;intro b3 w3 dA cX fT eC ff;refine yX ?_;intro b5 w5 AP QW Yo rF rG;refine B 6 ?_;refine zte ?_;refine CV ?_;refine dp (.agg (rdA r)) ?_;refine call (v:=.bool false) call8 rfl rfl rfl (λW hS=>by rw[<-hf];exact n0n r hlm N W cJ (hrA.up (aj _) hS.sm)) ?_;refine dp bZ ?_;refine B 10 ?_;refine aK results3 rfl A2 ?_;rfl
theorem Av.up{N N':Nat}{w w':World}(h:Av N w p)(hN:N<=N')(hw:∀k,k<N->w'.heap[k]? =w.heap[k]?):Av N' w' p:=⟨h.ns.up hN hw,h.nn,h.x.up hN hw,h.c.up hN hw⟩
theorem UE(hZ:FxOk Z)(r:dY)(hri:uM r)(hlm:sG r)(N:Nat)(w:World)(hN:N<=w.heap.size)(hrA:fg N w r)(hg:Glb w)(CK:Lab w)(a0 a1:Addr)(hse:Sen w a0 a1)(dv:Int)(s:Se)(hf:tY r=true):Calls prog 3 #[.agg (rdA r),ab dv,cB s] w (aP w (bZ)):=by
 have hg4:=hg.lt;have hr:=hri.ok hf;have hla:=Ih hr Z dv;have jl:=Ih hr Z dv;refine eN func3 ntmps3 ?_;refine cH 2 ?_;intro b3 w3 dA cX fT eC ff;refine yX ?_;intro b5 w5 AP QW Yo rF rG;refine B 6 ?_;refine zte ?_;refine CV ?_;refine dp (.agg (rdA r)) ?_;refine call (v:=.bool true) call8 rfl rfl rfl (λW hS=>by rw[<-hf];exact n0n r hlm N W cJ (hrA.up (aj _) hS.sm)) ?_;refine wX ?_;refine zXf ?_;refine nv (α:=((Option Addr×Nat)×List Se)×Bool) (v:=λq=>.tuple #[.slice q.1.1.1 q.1.2.length q.1.1.2,.bool q.2]) (Φ:=λ_ q w1=>ai seA 35 w1.heap.size w1 q.1.1.1 q.1.2/\q.1.2.length<=q.1.1.2/\∃ls,pS (r.D Z) (r.fs Z dv) 71000 ls/\((s∉ls/\q.1.2=[]/\q.2=false)\/∃j,ls[j]? =some s/\q.1.2=ls.take (j+1)/\q.2=true)) call9 rfl rfl rfl (λW hS=>nMl hZ r hr N W cJ (hrA.up (aj _) hS.sm) (hg.old hS A2 zH trivial) a0 a1 (hse.old hS A2) dv s jl) ?_;rintro _ ⟨⟨⟨ay,cy⟩,ly⟩,oy⟩ wy _ _ ⟨GB,hcy,ls,kQ,Pn⟩;dsimp only at GB hcy Pn ⊢;have Mz:=kQ.ln;refine B 9 ?_;rcases Pn with⟨L7,rfl,rfl⟩|⟨jj,hjj,rfl,rfl⟩
 ·have am6:∀(Xk:List Se),pS (r.D Z) (r.fs Z dv) 71000 Xk->s∉Xk:=λXk h2 h=>L7 ((kQ.iff s).2 ((h2.iff s).1 h));refine B 2 ?_;refine zXf ?_;refine nv (α:=Unit) (v:=λ_=>bG) (Φ:=λ_ _ _=>True) call10 rfl rfl rfl (λW hS=>(nVe hZ r hr N W cJ (hrA.up (aj _) hS.sm) (hg.old hS A3 zH trivial) a0 a1 (hse.old hS A3) dv s jl).mono λe w9 h9=>by obtain⟨b,h1,hb,Xk,h2,rfl⟩:=h9;exact⟨(),by rw[h1,decide_eq_false (am6 Xk h2)],hb,trivial⟩) ?_;rintro _ _ wk _ _ -;refine CV ?_;refine CV ?_;refine Rz ?_;refine aK results3 rfl A4 ?_;rfl
 have BT:=nq hjj;have Ko:(ls.take (jj+1)).length=jj+1:=by rw[jM];omega
 refine B 2 ?_;refine zXf ?_;refine nv (α:=Unit) (v:=λ_=>bZ) (Φ:=λ_ _ _=>True) call10 rfl rfl rfl (λW hS=>(nVe hZ r hr N W cJ (hrA.up (aj _) hS.sm) (hg.old hS A3 zH trivial) a0 a1 (hse.old hS A3) dv s jl).mono λe w9 h9=>by obtain⟨b,h1,hb,Xk,h2,rfl⟩:=h9;exact⟨(),by rw[h1,decide_eq_true ((h2.iff s).2 ((kQ.iff s).1 (cA hjj)))],hb,trivial⟩) ?_;rintro _ _ wk _ _ -;refine CV ?_;refine dp bZ ?_;refine B 7 ?_;have jl:=jl;refine CJ.less (E':=[(0,_),(1,_),(2,_),(3,_),(5,_),(6,_),(7,_),(8,_),(12,_),(13,_),(14,_),(15,_),(16,_),(17,_),(18,_),(19,_),(20,_),(21,_),(22,_),(23,_),(24,_),(25,_),(26,_),(27,_),(28,_),(29,_),(30,_),(31,_)]) zR ?_;refine CJ.chn 4 [2] [_,_,none,_] (λcv L' H'=>match cv with| []=>L'=[wk,wy,w5,w3,w]/\H'=[]| [v1]=>∃(af:Option Addr) (cf:Nat) (wf:World),v1= .slice af (r.fs Z dv).length cf/\L'=[wf,wk,wy,w5,w3,w]/\H'=[]/\ai seA 35 wf.heap.size wf af (r.fs Z dv)|_=>False) (pc zcy (pc zM (pk (pc zcy (pn))))) ?_ ?_
 ·refine ss rfl ?_ ?_
  ·intro cv L' H' hl hP F Q' hk;obtain rfl:=my hl;obtain⟨rfl,rfl⟩:=hP;refine nv (α:=Option Addr×Nat) (v:=λq=>.slice q.1 (r.fs Z dv).length q.2) (Φ:=λ_ q w1=>ai seA 35 w1.heap.size w1 q.1 (r.fs Z dv)) call11 rfl rfl rfl (λW hS=>nsp hZ r hr N W cJ (hrA.up (aj _) hS.sm) (hg.old hS A4 zH trivial) dv) ?_;rintro _ ⟨af_,cf_⟩ wf_ _ _ ack;try dsimp only at ack
   exact OJ.done (hk _ _ _ ⟨af_,cf_,wf_,rfl,rfl,rfl,ack⟩)
  exact nn
 intro cv L' H' hl hP;obtain⟨v1,rfl⟩:=jv hl;obtain⟨af,cf,wf,rfl,rfl,rfl,hsf⟩:=hP;refine nv (α:=(Option Addr×Nat)×List Pl) (v:=λq=>.slice q.1.1 q.2.length q.1.2) (Φ:=λ_ q w1=>q.2.map aV=eQ Z r.cs r.fos/\q.2.length<=100/\(∀p∈q.2,Av w1.heap.size w1 p)/\(∀p∈q.2,Iq p)/\ai qz 111 w1.heap.size w1 q.1.1 q.2) call12 rfl rfl rfl (λW hS=>n6m hZ r hr N W cJ (hrA.up (aj _) hS.sm) (hg.old hS A5 zH trivial)) ?_;rintro _ ⟨⟨ap,cp⟩,pls⟩ wp _ _ ⟨lQ,gj,NA,UC,gV⟩;dsimp only at lQ gj NA UC gV;refine B 6 ?_;obtain⟨bo,oo,cs0,GX,fC,rfl,fE,bW,aS⟩:=GB.get aa;refine B 5 ?_;have hfB:∀s∈(r.fs Z dv),vN s:=am3 hZ dv;refine CJ.lp (α:=Nat) [3,5,7,9,10] (λi=>[(11,ab (i:Int))]) (λi=>[]) (λi=>i<=(ls.take (jj+1)).length) (λi=>(ls.take (jj+1)).length-i) 0 (cY _) ?_;rintro i hi;refine aG 9 ?_ ?_
 ·intro av;refine B 5 ?_;obtain⟨x,hx⟩:=ng (ls.take (jj+1)) i aa;have hxl:ls[i]? =some x:=by rw[List.getElem?_take,if_pos aa]at hx;exact hx
  have htk:(ls.take (jj+1)).take i=ls.take i:=by rw[List.take_take,Nat.min_eq_left aa]
  have hnd:x∉(ls.take (jj+1)).take i:=by rw[htk];exact acj (kQ.nd hfB) hxl
  by_cases CN:x∈(r.fs Z dv)
  ·refine eA 28 (pb:=by exact zU 5 (k:=by exact aJ (nf call13 rfl rfl (λW hS _=>IA (b:=true) aa (hS.links wf A1).size (hsf.up (aj _) (hS.same A1 (aj _) zH trivial)) (decide_eq_true cV)) (λ_=>rfl)) (zU 17 (k:=by exact aJ (X.v (RV.re (v':=.slice (some ⟨bo,oo,none⟩) ((ls.take (jj+1)).take i).length cy) (eL (h:=i) underlying38 sizeOf35 rfl ⟨_,_,rfl,rfl⟩ aa) (by rw[htk,jM,Nat.min_eq_left aa]))) zT)))) (sp:=[_,_,_,_,some (cB x),some (bZ),_,_,_,_,_,_,_,_,_,_,_,_,_,_,_,_,_,_,_,_,_,some (cB x)]) (k:=?_);refine z1d ?_;refine B 12 ?_;refine ag (i+1) aa
  refine eA 28 (pb:=by exact zU 5 (k:=by exact aJ (nf call13 rfl rfl (λW hS _=>IA (b:=false) aa (hS.links wf A1).size (hsf.up (aj _) (hS.same A1 (aj _) zH trivial)) (decide_eq_false cV)) (λ_=>rfl)) (zU 6 (k:=by exact aJ (X.v (RV.re (v':=.slice (some ⟨bo,oo,none⟩) ((ls.take (jj+1)).take i).length cy) (eL (h:=i) underlying38 sizeOf35 rfl ⟨_,_,rfl,rfl⟩ aa) (by rw[htk,jM,Nat.min_eq_left aa]))) (zU 4 (k:=by exact aJ (nf call14 rfl rfl (λW hS _=>NC hZ r hr pls aa UC ((ls.take (jj+1)).take i) (by rw[jM];omega) _ W.heap.size _ _ _ _ W (aj _) (hrA.up cJ hS.sm) (gV.up (hS.links wp A0).size (hS.same A0 (aj _) zH trivial)) (λp hp=>(NA p hp).up (hS.links wp A0).size (hS.same A0 (aj _) zH trivial)) ((GB.tk i).up (hS.links wy A3).size (hS.same A3 (aj _) zH trivial)) (hg.old hS A6 zH trivial) a0 a1 (hse.old hS A6) lQ true (⟨λ_=>by rw[htk];exact(kQ.ord i x hxl).resolve_left cV,λ_=>rfl⟩)) (λ_=>rfl)) (zU 5 (k:=by exact aJ (X.v (RV.re (v':=.slice (some ⟨bo,oo,none⟩) ((ls.take (jj+1)).take i).length cy) (eL (h:=i) underlying38 sizeOf35 rfl ⟨_,_,rfl,rfl⟩ aa) (by rw[htk,jM,Nat.min_eq_left aa]))) zT)))))))) (sp:=[_,_,_,_,some (cB x),some (bG),_,_,some (.agg (rdA r)),_,_,_,_,_,_,_,some (cB x),some (bZ),_,_,_,_,_,_,_,_,_,some (cB x)]) (k:=?_);refine z1d ?_
  refine B 12 ?_;refine ag (i+1) aa
 intro av;refine B 6 ?_;have hsj:(ls.take (jj+1))[jj]? =some s:=by rw[List.getElem?_take,if_pos aa];exact hjj
 refine eA 11 (pb:=by exact zU 7 (k:=by exact aJ (X.v (RV.re (v':=ab ((jj:Nat):Int)) (pq rfl rfl aa aa) ((congrArg ab aa)))) zT)) (sp:=[_,_,some bZ,_,_,_,_,_,_,some (cB s),some (cB s)]) (k:=?_);refine rq bZ (gG Gq zA Jz rfl rfl (Gt _ _)) (vb ((Gu _ _).trans (decide_eq_true rfl))) ?_;refine B 5 ?_;refine aK results3 rfl A6 ?_;rfl
theorem sd_law(hZ:FxOk Z)(r:dY)(hri:uM r)(hlm:sG r)(N:Nat)(w:World)(hN:N<=w.heap.size)(hrA:fg N w r)(hg:Glb w)(CK:Lab w)(a0 a1:Addr)(hse:Sen w a0 a1)(dv:Int)(s:Se):Calls prog 3 #[.agg (rdA r),ab dv,cB s] w (aP w (bZ)):=by
 cases hf:tY r with
 |false=>exact ND hZ r hri hlm N w hN hrA hg CK a0 a1 hse dv s hf
 |true=>exact UE hZ r hri hlm N w hN hrA hg CK a0 a1 hse dv s hf
end Px
